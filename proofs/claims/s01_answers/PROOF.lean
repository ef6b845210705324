import PyProof.Rows.All
import Wide.All
import OpenK.AllK
import Wide.FinOn
import PyProof.EqAt
import PyProof.EqKinds
import PyProof.TupleCall
import Open.SpecLaws
import KE.OsGo
import HandS.ForSpec
import HandS.Comp
import HandS.Iter
import HandS.Dict
import HandS.Style
import HandS.Strs
import HandS.Zip
import PySem.Challenge.RW_movingmembers_s01_answers
section
set_option autoImplicit false
set_option linter.all false
namespace Rf
open Ag12

abbrev Log := List Entry
def cfg (z : Nat) (l : Log) : Nat := ((l.filter fun (e : Entry) => e.sort == 1).getLast?.map fun (e : Entry) => e.value).getD z
def lt (l : Log) : Nat := termAt l l.length
def maj (m : Nat) (q : Nat → Bool) : Prop := (listOf m).length < 2 * ((listOf m).filter q).length
def adj (m m' : Nat) : Prop := ∃ j, j < 5 ∧ m' = turned m j
def close (m m' : Nat) : Prop := m = m' ∨ adj m m' ∨ adj m' m
theorem close.symm {m m' : Nat} (h : close m m') : close m' m := by
  rcases h with h | h | h
  · exact .inl h.symm
  · exact .inr (.inr h)
  · exact .inr (.inl h)

/-! ### majorities -/
def one (b : Bool) : Nat := if b = true then 1 else 0
theorem range5 : List.range NODES = [0, 1, 2, 3, 4] := rfl
theorem len_listOf (m : Nat) : (listOf m).length = one (isIn m 0) + one (isIn m 1) + one (isIn m 2) + one (isIn m 3) + one (isIn m 4) := by
  unfold listOf
  rw [range5, ← List.countP_eq_length_filter]
  simp only [List.countP_cons, List.countP_nil, one]
  omega
theorem len_listOf_filter (m : Nat) (q : Nat → Bool) : ((listOf m).filter q).length = one (q 0 && isIn m 0) + one (q 1 && isIn m 1) + one (q 2 && isIn m 2) + one (q 3 && isIn m 3) + one (q 4 && isIn m 4) := by
  unfold listOf
  rw [range5, List.filter_filter, ← List.countP_eq_length_filter]
  simp only [List.countP_cons, List.countP_nil, one]
  omega
theorem isIn_iff (m i : Nat) : isIn m i = true ↔ m / 2 ^ i % 2 = 1 := by
  unfold isIn
  exact beq_iff_eq
theorem isIn_turned {m i j : Nat} (hi : i < 5) (hj : j < 5) : isIn (turned m j) i = if i = j then !isIn m i else isIn m i := by
  have key : (isIn (turned m j) i = true) ↔ ((if i = j then !isIn m i else isIn m i) = true) := by
    rw [isIn_iff]
    unfold turned
    have e := isIn_iff m j
    have e2 := isIn_iff m i
    by_cases h : isIn m j = true
    · rw [if_pos h]
      have h1 := e.mp h
      by_cases c : i = j
      · subst c
        rw [if_pos rfl, h]
        have : i = 0 ∨ i = 1 ∨ i = 2 ∨ i = 3 ∨ i = 4 := by omega
        rcases this with rfl | rfl | rfl | rfl | rfl <;> simp at h1 ⊢ <;> omega
      · rw [if_neg c, e2]
        have : i = 0 ∨ i = 1 ∨ i = 2 ∨ i = 3 ∨ i = 4 := by omega
        have : j = 0 ∨ j = 1 ∨ j = 2 ∨ j = 3 ∨ j = 4 := by omega
        rcases ‹i = 0 ∨ _› with rfl | rfl | rfl | rfl | rfl <;> rcases ‹j = 0 ∨ _› with rfl | rfl | rfl | rfl | rfl <;> simp at h1 c ⊢ <;> omega
    · rw [if_neg h]
      have h1 : ¬ m / 2 ^ j % 2 = 1 := fun z => h (e.mpr z)
      by_cases c : i = j
      · subst c
        rw [if_pos rfl]
        have hf : isIn m i = false := by simpa using h
        rw [hf]
        have : i = 0 ∨ i = 1 ∨ i = 2 ∨ i = 3 ∨ i = 4 := by omega
        rcases this with rfl | rfl | rfl | rfl | rfl <;> simp at h1 ⊢ <;> omega
      · rw [if_neg c, e2]
        have : i = 0 ∨ i = 1 ∨ i = 2 ∨ i = 3 ∨ i = 4 := by omega
        have : j = 0 ∨ j = 1 ∨ j = 2 ∨ j = 3 ∨ j = 4 := by omega
        rcases ‹i = 0 ∨ _› with rfl | rfl | rfl | rfl | rfl <;> rcases ‹j = 0 ∨ _› with rfl | rfl | rfl | rfl | rfl <;> simp at h1 c ⊢ <;> omega
  exact Bool.eq_iff_iff.mpr key
theorem one_le (a b c : Bool) (h : ¬ (a = true ∧ b = true)) : one (a && c) + one (b && c) ≤ one c := by
  cases a <;> cases b <;> cases c <;> simp [one] at h ⊢
theorem one_le2 (a b c : Bool) (h : ¬ (a = true ∧ b = true)) : one (a && c) + one (b && !c) ≤ 1 := by
  cases a <;> cases b <;> cases c <;> simp [one] at h ⊢
theorem one_not (c : Bool) : one c + one (!c) = 1 := by cases c <;> rfl
theorem overlap_adj {m j : Nat} {q q' : Nat → Bool} (hj : j < 5) (h : maj m q) (h' : maj (turned m j) q') : ∃ v, v < 5 ∧ q v = true ∧ q' v = true := by
  apply Classical.byContradiction
  intro no
  have d : ∀ v, v < 5 → ¬ (q v = true ∧ q' v = true) := fun v hv z => no ⟨v, hv, z⟩
  unfold maj at h h'
  rw [len_listOf, len_listOf_filter] at h h'
  have t : ∀ i, i < 5 → isIn (turned m j) i = if i = j then !isIn m i else isIn m i := fun i hi => isIn_turned hi hj
  rw [t 0 (by omega), t 1 (by omega), t 2 (by omega), t 3 (by omega), t 4 (by omega)] at h'
  have a0 := one_le (q 0) (q' 0) (isIn m 0) (d 0 (by omega))
  have a1 := one_le (q 1) (q' 1) (isIn m 1) (d 1 (by omega))
  have a2 := one_le (q 2) (q' 2) (isIn m 2) (d 2 (by omega))
  have a3 := one_le (q 3) (q' 3) (isIn m 3) (d 3 (by omega))
  have a4 := one_le (q 4) (q' 4) (isIn m 4) (d 4 (by omega))
  have b0 := one_le2 (q 0) (q' 0) (isIn m 0) (d 0 (by omega))
  have b1 := one_le2 (q 1) (q' 1) (isIn m 1) (d 1 (by omega))
  have b2 := one_le2 (q 2) (q' 2) (isIn m 2) (d 2 (by omega))
  have b3 := one_le2 (q 3) (q' 3) (isIn m 3) (d 3 (by omega))
  have b4 := one_le2 (q 4) (q' 4) (isIn m 4) (d 4 (by omega))
  have c0 := one_not (isIn m 0)
  have c1 := one_not (isIn m 1)
  have c2 := one_not (isIn m 2)
  have c3 := one_not (isIn m 3)
  have c4 := one_not (isIn m 4)
  have : j = 0 ∨ j = 1 ∨ j = 2 ∨ j = 3 ∨ j = 4 := by omega
  rcases this with rfl | rfl | rfl | rfl | rfl <;> simp only [reduceIte, Nat.reduceEqDiff, Nat.succ_ne_self, Nat.one_ne_zero, Nat.zero_ne_one, Nat.reduceSub] at h' <;> omega
theorem overlap_same {m : Nat} {q q' : Nat → Bool} (h : maj m q) (h' : maj m q') : ∃ v, v < 5 ∧ q v = true ∧ q' v = true := by
  apply Classical.byContradiction
  intro no
  have d : ∀ v, v < 5 → ¬ (q v = true ∧ q' v = true) := fun v hv z => no ⟨v, hv, z⟩
  unfold maj at h h'
  rw [len_listOf, len_listOf_filter] at h h'
  have a0 := one_le (q 0) (q' 0) (isIn m 0) (d 0 (by omega))
  have a1 := one_le (q 1) (q' 1) (isIn m 1) (d 1 (by omega))
  have a2 := one_le (q 2) (q' 2) (isIn m 2) (d 2 (by omega))
  have a3 := one_le (q 3) (q' 3) (isIn m 3) (d 3 (by omega))
  have a4 := one_le (q 4) (q' 4) (isIn m 4) (d 4 (by omega))
  omega
theorem overlap {m m' : Nat} {q q' : Nat → Bool} (c : close m m') (h : maj m q) (h' : maj m' q') : ∃ v, v < 5 ∧ q v = true ∧ q' v = true := by
  rcases c with rfl | ⟨j, hj, rfl⟩ | ⟨j, hj, rfl⟩
  · exact overlap_same h h'
  · exact overlap_adj hj h h'
  · obtain ⟨v, a, b, c⟩ := overlap_adj hj h' h
    exact ⟨v, a, c, b⟩
end Rf
end

section
set_option autoImplicit false
set_option linter.all false
namespace Rf
open Ag12

structure Lead where
  who : Nat
  pre : Log
  full : Log
structure G where
  first : Nat
  lead : Nat → Option Lead
  ack : Nat → Nat → Nat
  vote : Nat → Nat → Option Nat
  vlog : Nat → Nat → Log
  cand : Nat → Nat → Option Log
  com : Nat → Nat → Nat → Prop

def Path (g : G) (l : Log) : Prop := ∀ (i : Nat) (e : Entry), l[i]? = some e → ∃ L, g.lead e.term = some L ∧ l.take (i + 1) <+: L.full
def upTo (V R : Log) : Prop := lt V < lt R ∨ (lt V = lt R ∧ V.length ≤ R.length)
/-- what v has acknowledged in a term below t stands in V, or a leader of a term up to b that lacked it came between -/
def AckP (g : G) (v t b : Nat) (V : Log) : Prop := ∀ x, x < t → ∀ k, k ≤ g.ack v x → ∀ Lx, g.lead x = some Lx →
  Lx.full.take k <+: V ∨ ∃ s Ls, x < s ∧ s ≤ b ∧ g.lead s = some Ls ∧ ¬ Lx.full.take k <+: Ls.pre
structure GI (g : G) : Prop where
  zero : g.lead 0 = none
  pre_lt : ∀ t L, g.lead t = some L → ∀ e, e ∈ L.pre → e.term < t
  ext : ∀ t L, g.lead t = some L → L.pre <+: L.full
  own : ∀ t L, g.lead t = some L → ∀ (i : Nat) (e : Entry), L.full[i]? = some e → L.pre.length ≤ i → e.term = t
  path : ∀ t L, g.lead t = some L → Path g L.full
  com_lead : ∀ x k n, g.com x k n → ∃ L, g.lead x = some L ∧ L.pre.length < k ∧ k ≤ n ∧ n ≤ L.full.length ∧
    maj (cfg g.first (L.full.take n)) (fun v => decide (k ≤ g.ack v x))
  conf : ∀ x L, g.lead x = some L → ∀ (i : Nat) (e : Entry), L.full[i]? = some e → e.sort = 1 → L.pre.length ≤ i →
    adj (cfg g.first (L.full.take i)) e.value ∧ ∃ c n, g.com x c n ∧ n ≤ i ∧ ∀ (j : Nat) (e' : Entry), L.full[j]? = some e' → e'.sort = 1 → j < i → j < c
  elect : ∀ t L, g.lead t = some L → ∃ q : Nat → Bool, maj (cfg g.first L.pre) q ∧ ∀ v, v < 5 → q v = true → g.vote v t = some L.who ∧ ∃ V, Path g V ∧ upTo V L.pre ∧ AckP g v t (t - 1) V
  ack_le : ∀ v x, 0 < g.ack v x → ∃ L, g.lead x = some L ∧ g.ack v x ≤ L.full.length

/-- what is committed in a term below t stands in A -/
def LCu (g : G) (t : Nat) (A : Log) : Prop := ∀ y, y < t → ∀ k n, g.com y k n → ∀ Ly, g.lead y = some Ly → Ly.full.take k <+: A

/-! ### lists -/
theorem pre_get {l m : Log} (h : l <+: m) {i : Nat} {e : Entry} (q : l[i]? = some e) : m[i]? = some e := by
  obtain ⟨r, rfl⟩ := h
  have hi : i < l.length := by
    rcases Nat.lt_or_ge i l.length with z | z
    · exact z
    · rw [List.getElem?_eq_none z] at q; cases q
  rw [List.getElem?_append_left hi]
  exact q
theorem get_lt {l : Log} {i : Nat} {e : Entry} (q : l[i]? = some e) : i < l.length := by
  rcases Nat.lt_or_ge i l.length with z | z
  · exact z
  · rw [List.getElem?_eq_none z] at q; cases q
theorem get_of_lt {l : Log} {i : Nat} (h : i < l.length) : ∃ e, l[i]? = some e := ⟨l[i], List.getElem?_eq_getElem h⟩
theorem get_mem {l : Log} {i : Nat} {e : Entry} (q : l[i]? = some e) : e ∈ l := List.mem_of_getElem? q
theorem mem_get {l : Log} {e : Entry} (q : e ∈ l) : ∃ i : Nat, l[i]? = some e := List.getElem?_of_mem q
theorem pre_back {l m : Log} (h : l <+: m) {i : Nat} {e : Entry} (q : m[i]? = some e) (hi : i < l.length) : l[i]? = some e := by
  obtain ⟨r, rfl⟩ := h
  rw [List.getElem?_append_left hi] at q
  exact q
theorem pre_mem {l m : Log} (h : l <+: m) {e : Entry} (q : e ∈ l) : e ∈ m := h.subset q
theorem pre_take {l m : Log} (h : l <+: m) : l = m.take l.length := List.prefix_iff_eq_take.mp h
theorem take_pre (l : Log) (k : Nat) : l.take k <+: l := List.take_prefix k l
theorem pre_len {l m : Log} (h : l <+: m) : l.length ≤ m.length := h.length_le
theorem pre_of_le {l m r : Log} (h1 : l <+: r) (h2 : m <+: r) (h : l.length ≤ m.length) : l <+: m := List.prefix_of_prefix_length_le h1 h2 h
theorem take_take_pre (l : Log) {a b : Nat} (h : a ≤ b) : l.take a <+: l.take b := pre_of_le (take_pre l a) (take_pre l b) (by rw [List.length_take, List.length_take]; omega)
theorem take_of_pre {l m : Log} (h : l <+: m) {k : Nat} (hk : k ≤ l.length) : m.take k = l.take k := by
  obtain ⟨r, rfl⟩ := h
  exact List.take_append_of_le_length hk
theorem len_take_le {l : Log} {k : Nat} (h : k ≤ l.length) : (l.take k).length = k := by rw [List.length_take]; omega
theorem pre_eq_len {l m : Log} (h : l <+: m) (e : m.length ≤ l.length) : l = m := h.eq_of_length (Nat.le_antisymm h.length_le e)
/-- prefixes by items -/
theorem pre_iff {l m : Log} : l <+: m ↔ ∀ (i : Nat) (e : Entry), l[i]? = some e → m[i]? = some e := by
  constructor
  · intro h i e q
    exact pre_get h q
  · intro h
    rw [List.prefix_iff_getElem?]
    intro i hi
    exact h i _ (List.getElem?_eq_getElem hi)

theorem termAt_get {l : Log} {i : Nat} {e : Entry} (q : l[i]? = some e) : termAt l (i + 1) = e.term := by
  unfold termAt
  rw [if_neg (Nat.succ_ne_zero i), Nat.add_sub_cancel]
  rw [List.getD_eq_getElem?_getD, q]
  rfl
theorem termAt_pre {l m : Log} (h : l <+: m) {k : Nat} (hk : k ≤ l.length) : termAt m k = termAt l k := by
  cases k with
  | zero => rfl
  | succ k =>
    obtain ⟨e, he⟩ := get_of_lt (l := l) (i := k) (by omega)
    rw [termAt_get he, termAt_get (pre_get h he)]
theorem lt_nil : lt [] = 0 := rfl
theorem lt_get {l : Log} {i : Nat} {e : Entry} (q : l[i]? = some e) (h : l.length = i + 1) : lt l = e.term := by
  unfold lt
  rw [h]
  exact termAt_get q
theorem last_get {l : Log} (h : l ≠ []) : ∃ e, l[l.length - 1]? = some e ∧ lt l = e.term := by
  have hl : 0 < l.length := List.length_pos_iff.mpr h
  obtain ⟨e, he⟩ := get_of_lt (l := l) (i := l.length - 1) (by omega)
  exact ⟨e, he, lt_get he (by omega)⟩

/-! ### configurations of a log's beginnings -/
theorem cfg_snoc (z : Nat) (l : Log) (e : Entry) : cfg z (l ++ [e]) = if e.sort = 1 then e.value else cfg z l := by
  unfold cfg
  rw [List.filter_append]
  by_cases c : e.sort = 1
  · rw [if_pos c]
    have : [e].filter (fun (e : Entry) => e.sort == 1) = [e] := by simp [c]
    rw [this, List.getLast?_append]
    rfl
  · rw [if_neg c]
    have : [e].filter (fun (e : Entry) => e.sort == 1) = [] := by simp [c]
    rw [this, List.append_nil]
theorem take_succ_get {l : Log} {i : Nat} {e : Entry} (q : l[i]? = some e) : l.take (i + 1) = l.take i ++ [e] := by
  rw [List.take_add_one, q]
  rfl
theorem cfg_take_succ {z : Nat} {l : Log} {i : Nat} {e : Entry} (q : l[i]? = some e) : cfg z (l.take (i + 1)) = if e.sort = 1 then e.value else cfg z (l.take i) := by
  rw [take_succ_get q, cfg_snoc]
theorem cfg_none {z : Nat} {l : Log} {a : Nat} : ∀ (d : Nat), a + d ≤ l.length → (∀ (i : Nat) (e : Entry), l[i]? = some e → e.sort = 1 → a ≤ i → i < a + d → False) → cfg z (l.take (a + d)) = cfg z (l.take a)
  | 0, _, _ => rfl
  | d + 1, h, no => by
    obtain ⟨e, he⟩ := get_of_lt (l := l) (i := a + d) (by omega)
    show cfg z (l.take (a + d + 1)) = _
    rw [cfg_take_succ he, if_neg (fun c => no _ _ he c (by omega) (by omega))]
    exact cfg_none d (by omega) fun i e q c h1 h2 => no i e q c h1 (by omega)

section
variable {g : G}
theorem full_le (I : GI g) {t : Nat} {L : Lead} (h : g.lead t = some L) {e : Entry} (he : e ∈ L.full) : e.term ≤ t := by
  obtain ⟨i, hi⟩ := mem_get he
  rcases Nat.lt_or_ge i L.pre.length with z | z
  · exact Nat.le_of_lt (I.pre_lt t L h e (get_mem (pre_back (I.ext t L h) hi z)))
  · exact Nat.le_of_eq (I.own t L h i e hi z)
theorem Path.pre {l m : Log} (h : Path g m) (q : l <+: m) : Path g l := fun i e he => by
  obtain ⟨L, a, b⟩ := h i e (pre_get q he)
  refine ⟨L, a, ?_⟩
  rw [← take_of_pre q (show i + 1 ≤ l.length from get_lt he)]
  exact b
/-- a path is the beginning of the log of its last term's leader -/
theorem Path.last (I : GI g) {l : Log} (h : Path g l) (hl : l ≠ []) : ∃ L, g.lead (lt l) = some L ∧ l <+: L.full ∧ L.pre.length < l.length := by
  obtain ⟨e, he, hlt⟩ := last_get hl
  obtain ⟨L, a, b⟩ := h _ e he
  have hlen : 0 < l.length := List.length_pos_iff.mpr hl
  have hp : l <+: L.full := by
    have q : l.take (l.length - 1 + 1) = l := List.take_of_length_le (by omega)
    rw [q] at b
    exact b
  refine ⟨L, by rw [hlt]; exact a, hp, ?_⟩
  rcases Nat.lt_or_ge (l.length - 1) L.pre.length with z | z
  · have := I.pre_lt _ L a e (get_mem (pre_back (I.ext _ L a) (pre_get hp he) z))
    omega
  · omega
theorem Path.mono (I : GI g) {l : Log} (h : Path g l) {e : Entry} (he : e ∈ l) : e.term ≤ lt l := by
  have hl : l ≠ [] := fun z => by rw [z] at he; cases he
  obtain ⟨L, a, b, _⟩ := h.last I hl
  exact full_le I a (pre_mem b he)
theorem Path.lt_pos (I : GI g) {l : Log} (h : Path g l) (hl : l ≠ []) : 0 < lt l := by
  obtain ⟨L, a, b, _⟩ := h.last I hl
  rcases Nat.eq_zero_or_pos (lt l) with z | z
  · rw [z, I.zero] at a; cases a
  · exact z
theorem Path.nil_of (I : GI g) {l : Log} (h : Path g l) (hl : lt l = 0) : l = [] := by
  apply Classical.byContradiction
  intro z
  have := h.lt_pos I z
  omega
theorem Path.lt_lt {l : Log} {t : Nat} (ht : 0 < t) (h : ∀ e, e ∈ l → e.term < t) : lt l < t := by
  by_cases hl : l = []
  · subst hl
    exact ht
  · obtain ⟨e, he, q⟩ := last_get hl
    rw [q]
    exact h e (get_mem he)
theorem lead_pos (I : GI g) {t : Nat} {L : Lead} (h : g.lead t = some L) : 0 < t := by
  rcases Nat.eq_zero_or_pos t with z | z
  · rw [z, I.zero] at h; cases h
  · exact z

/-- two beginnings of one leader's log: the shorter one has all that was committed -/
theorem close_in (I : GI g) {r : Nat} {L : Lead} (hL : g.lead r = some L) {a : Nat} (ha : L.pre.length ≤ a) (lim : Nat) (hA : ∀ c n, g.com r c n → n < lim → c ≤ a) :
    ∀ (d : Nat), a + d ≤ L.full.length → a + d ≤ lim → (cfg g.first (L.full.take (a + d)) = cfg g.first (L.full.take a) ∧ ∀ (i : Nat) (e : Entry), L.full[i]? = some e → e.sort = 1 → a ≤ i → i < a + d → False) ∨
      adj (cfg g.first (L.full.take a)) (cfg g.first (L.full.take (a + d)))
  | 0, _, _ => .inl ⟨rfl, fun i e _ _ h1 h2 => by omega⟩
  | d + 1, h, hd => by
    obtain ⟨e, he⟩ := get_of_lt (l := L.full) (i := a + d) (by omega)
    have ih := close_in I hL ha lim hA d (by omega) (by omega)
    show (cfg g.first (L.full.take (a + d + 1)) = _ ∧ _) ∨ adj _ (cfg g.first (L.full.take (a + d + 1)))
    rw [cfg_take_succ he]
    by_cases c : e.sort = 1
    · rw [if_pos c]
      right
      obtain ⟨h1, c0, n0, hc, hn, hall⟩ := I.conf r L hL _ e he c (by omega)
      have hca := hA _ _ hc (by omega)
      have no : ∀ (i : Nat) (e : Entry), L.full[i]? = some e → e.sort = 1 → a ≤ i → i < a + d → False := fun i e' q c' z1 z2 => by
        have := hall i e' q c' z2
        omega
      rw [cfg_none d (by omega) no] at h1
      exact h1
    · rw [if_neg c]
      rcases ih with ⟨h1, h2⟩ | h1
      · left
        refine ⟨h1, fun i e' q c' z1 z2 => ?_⟩
        by_cases z : i = a + d
        · subst z
          rw [he] at q
          cases q
          exact c c'
        · exact h2 i e' q c' z1 (by omega)
      · exact .inr h1
theorem close_two (I : GI g) {r : Nat} {L : Lead} (hL : g.lead r = some L) {A B : Log} (hA : A <+: L.full) (hB : B <+: L.full) (hl : A.length ≤ B.length) (hp : L.pre.length ≤ A.length) (h : ∀ c n, g.com r c n → c ≤ A.length) :
    close (cfg g.first A) (cfg g.first B) := by
  have eA := pre_take hA
  have eB := pre_take hB
  have := close_in I hL hp B.length (fun c n q _ => h c n q) (B.length - A.length) (by have := pre_len hB; omega) (by omega)
  rw [show A.length + (B.length - A.length) = B.length by omega, ← eA, ← eB] at this
  rcases this with ⟨z, _⟩ | z
  · exact .inl z.symm
  · exact .inr (.inl z)
/-- a log whose last term committed nothing has the configuration of that leader's beginning -/
theorem cfg_quiet (I : GI g) {s : Nat} {L : Lead} (hL : g.lead s = some L) (h : ∀ c n, ¬ g.com s c n) {B : Log} (hB : B <+: L.full) (hl : L.pre.length ≤ B.length) : cfg g.first B = cfg g.first L.pre := by
  have eB := pre_take hB
  have eP := pre_take (I.ext s L hL)
  have := cfg_none (z := g.first) (l := L.full) (a := L.pre.length) (B.length - L.pre.length) (by have := pre_len hB; omega) (fun i e q c z1 z2 => by
    obtain ⟨_, c0, n0, hc, _⟩ := I.conf s L hL i e q c z1
    exact h _ _ hc)
  rw [show L.pre.length + (B.length - L.pre.length) = B.length by omega, ← eP, ← eB] at this
  exact this
/-- what term s committed stands in A, and A ends below s: nothing was committed in s -/
theorem quiet_of (I : GI g) {s ta : Nat} {L : Lead} (hL : g.lead s = some L) {A : Log} (pA : Path g A) (hA : LCu g ta A) (hs : s < ta) (hlt : lt A < s) : ∀ c n, ¬ g.com s c n := fun c n hc => by
  have h1 := hA s hs c n hc L hL
  obtain ⟨L', hL', z1, z2, z3, _⟩ := I.com_lead s c n hc
  rw [hL] at hL'
  cases hL'
  obtain ⟨e, he⟩ := get_of_lt (l := L.full) (i := c - 1) (by omega)
  have ht := I.own s L hL _ e he (by omega)
  have h2 : (L.full.take c)[c - 1]? = some e := by
    rw [List.getElem?_take_of_lt (by omega)]
    exact he
  have h3 := pA.mono I (get_mem (pre_get h1 h2))
  omega
theorem near (I : GI g) {T : Nat} (hel : ∀ s, s < T → ∀ L, g.lead s = some L → LCu g s L.pre) :
    ∀ (N : Nat) (A B : Log) (ta tb : Nat), lt A + lt B ≤ N → Path g A → Path g B → ta ≤ T → tb ≤ T → LCu g ta A → LCu g tb B → lt A < tb → lt B < ta → lt A < ta → lt B < tb → close (cfg g.first A) (cfg g.first B) := by
  intro N
  induction N with
  | zero =>
    intro A B ta tb hN pA pB _ _ _ _ _ _ _ _
    have a := pA.nil_of I (by omega)
    have b := pB.nil_of I (by omega)
    subst a b
    exact .inl rfl
  | succ N ih =>
    intro A B ta tb hN pA pB hta htb hA hB h1 h2 h3 h4
    rcases Nat.lt_trichotomy (lt A) (lt B) with z | z | z
    · -- B's last term is later
      have hb : B ≠ [] := fun q => by rw [q, lt_nil] at z; omega
      obtain ⟨L, hL, pL, lL⟩ := pB.last I hb
      have quiet := quiet_of I hL pA hA h2 z
      rw [cfg_quiet I hL quiet pL (by omega)]
      have hpos := lead_pos I hL
      have q := Path.lt_lt hpos (I.pre_lt _ L hL)
      exact ih A L.pre ta (lt B) (by omega) pA ((I.path _ L hL).pre (I.ext _ L hL)) hta (by omega) hA (hel _ (by omega) L hL) (by omega) (by omega) h3 q
    · -- the same last term
      by_cases ha : A = []
      · subst ha
        rw [lt_nil] at z
        have := pB.nil_of I z.symm
        subst this
        exact .inl rfl
      · have hb : B ≠ [] := fun q => by
          subst q
          rw [lt_nil] at z
          exact ha (pA.nil_of I z)
        obtain ⟨L, hL, pL, lL⟩ := pB.last I hb
        obtain ⟨L', hL', pL', lL'⟩ := pA.last I ha
        rw [z] at hL'
        rw [hL] at hL'
        cases hL'
        have cut : ∀ {C : Log} {tc : Nat}, LCu g tc C → lt B < tc → ∀ c n, g.com (lt B) c n → c ≤ C.length := fun hC ht c n hc => by
          have q := pre_len (hC _ ht c n hc L hL)
          obtain ⟨L2, hL2, z1, z2, z3, _⟩ := I.com_lead _ c n hc
          rw [hL] at hL2
          cases hL2
          rw [len_take_le (by omega)] at q
          exact q
        rcases Nat.le_total A.length B.length with y | y
        · exact close_two I hL pL' pL y (by omega) (cut hA h2)
        · exact (close_two I hL pL pL' y (by omega) (cut hB h4)).symm
    · have ha : A ≠ [] := fun q => by rw [q, lt_nil] at z; omega
      obtain ⟨L, hL, pL, lL⟩ := pA.last I ha
      have quiet := quiet_of I hL pB hB h1 z
      rw [cfg_quiet I hL quiet pL (by omega)]
      have hpos := lead_pos I hL
      have q := Path.lt_lt hpos (I.pre_lt _ L hL)
      exact ih L.pre B (lt A) tb (by omega) ((I.path _ L hL).pre (I.ext _ L hL)) pB (by omega) htb (hel _ (by omega) L hL) hB (by omega) (by omega) q h4

/-- a log that may lead at T: a majority of its own configuration voted for it -/
structure Elig (g : G) (T b : Nat) (P : Log) : Prop where
  path : Path g P
  low : ∀ e, e ∈ P → e.term < T
  quorum : ∃ q : Nat → Bool, maj (cfg g.first P) q ∧ ∀ v, v < 5 → q v = true → ∃ V, Path g V ∧ upTo V P ∧ AckP g v T b V
theorem lc_step (I : GI g) {T b : Nat} {P : Log} (hT : 0 < T) (hb : T - 1 ≤ b) (E : Elig g T b P)
    (hel : ∀ s, s ≤ b → ∀ L, g.lead s = some L → LCu g s L.pre) (x : Nat) (hx : x < T) (ih : LCu g x P) :
    ∀ (N k n : Nat), n ≤ N → g.com x k n → ∀ Lx, g.lead x = some Lx → Lx.full.take k <+: P := by
  intro N
  induction N with
  | zero =>
    intro k n hn hc Lx hLx
    obtain ⟨L', hL', z1, z2, z3, _⟩ := I.com_lead x k n hc
    omega
  | succ N ihN =>
    intro k n hn hc Lx hLx
    obtain ⟨L', hL', z1, z2, z3, hm⟩ := I.com_lead x k n hc
    rw [hLx] at hL'
    cases hL'
    have hx0 := lead_pos I hLx
    have hP := Path.lt_lt hT E.low
    obtain ⟨q, hq, hv⟩ := E.quorum
    -- the last step, from a common member
    have fin : close (cfg g.first (Lx.full.take n)) (cfg g.first P) → (lt P < x ∨ (lt P = x ∧ P.length < k)) → False := fun hcl hend => by
      obtain ⟨v, v5, hv1, hv2⟩ := overlap hcl hm hq
      have hk : k ≤ g.ack v x := of_decide_eq_true hv1
      obtain ⟨V, pV, hV, hAck⟩ := hv v v5 hv2
      rcases hAck x hx k hk Lx hLx with a | ⟨s, Ls, a1, a2, a3, a4⟩
      · -- V has the entry at k
        obtain ⟨e, he⟩ := get_of_lt (l := Lx.full) (i := k - 1) (by omega)
        have ht := I.own x Lx hLx _ e he (by omega)
        have h2 : (Lx.full.take k)[k - 1]? = some e := by
          rw [List.getElem?_take_of_lt (by omega)]
          exact he
        have h3 := pre_get a h2
        have hlen := pre_len a
        rw [len_take_le (by omega)] at hlen
        -- V's last term is at least x: V's own order
        have hVx : x ≤ lt V := by
          have := pV.mono I (get_mem h3)
          omega
        rcases hV with hV | ⟨hV, hVl⟩
        · rcases hend with z | ⟨z, _⟩ <;> omega
        · rcases hend with z | ⟨z, zl⟩ <;> omega
      · exact a4 (hel s a2 Ls a3 x a1 k n hc Lx hLx)
    rcases Nat.lt_trichotomy (lt P) x with z | z | z
    · exfalso
      refine fin ?_ (.inl z)
      have hno : cfg g.first (Lx.full.take (Lx.pre.length + (n - Lx.pre.length))) = cfg g.first (Lx.full.take Lx.pre.length) := cfg_none (n - Lx.pre.length) (by omega) (fun i e q c y1 y2 => by
        obtain ⟨_, c0, n0, hc0, hn0, _⟩ := I.conf x Lx hLx i e q c y1
        have h1 := ihN c0 n0 (by omega) hc0 Lx hLx
        obtain ⟨L', hL', w1, w2, w3, _⟩ := I.com_lead x c0 n0 hc0
        rw [hLx] at hL'
        cases hL'
        obtain ⟨e', he'⟩ := get_of_lt (l := Lx.full) (i := c0 - 1) (by omega)
        have ht := I.own x Lx hLx _ e' he' (by omega)
        have h2 : (Lx.full.take c0)[c0 - 1]? = some e' := by
          rw [List.getElem?_take_of_lt (by omega)]
          exact he'
        have h3 := E.path.mono I (get_mem (pre_get h1 h2))
        omega)
      rw [show Lx.pre.length + (n - Lx.pre.length) = n by omega, ← pre_take (I.ext x Lx hLx)] at hno
      rw [hno]
      have q := Path.lt_lt hx0 (I.pre_lt _ Lx hLx)
      exact near I (T := x) (fun s hs L hL => hel s (by omega) L hL) _ Lx.pre P x x (Nat.le_refl _) ((I.path _ Lx hLx).pre (I.ext _ Lx hLx)) E.path (Nat.le_refl _) (Nat.le_refl _) (hel x (by omega) Lx hLx) ih q z q z
    · have hne : P ≠ [] := fun q => by rw [q, lt_nil] at z; omega
      obtain ⟨L, hL, pL, lL⟩ := E.path.last I hne
      rw [z, hLx] at hL
      cases hL
      rcases Nat.lt_or_ge P.length k with y | y
      · exfalso
        refine fin ?_ (.inr ⟨z, y⟩)
        have hw := close_in I hLx (a := P.length) (by omega) n (fun c m hm hlim => by
          have h1 := pre_len (ihN c m (by omega) hm Lx hLx)
          obtain ⟨L', hL', w1, w2, w3, _⟩ := I.com_lead x c m hm
          rw [hLx] at hL'
          cases hL'
          rw [len_take_le (by omega)] at h1
          exact h1) (n - P.length) (by omega) (by omega)
        rw [show P.length + (n - P.length) = n by omega, ← pre_take pL] at hw
        rcases hw with ⟨w, _⟩ | w
        · exact .inl w
        · exact .inr (.inr w)
      · exact pre_of_le (take_pre _ _) pL (by rw [len_take_le (by omega)]; exact y)
    · have hne : P ≠ [] := fun q => by rw [q, lt_nil] at z; omega
      obtain ⟨L, hL, pL, lL⟩ := E.path.last I hne
      have h1 := hel (lt P) (by omega) L hL x z k n hc Lx hLx
      have h2 : L.pre <+: P := pre_of_le (I.ext _ L hL) pL (by omega)
      exact h1.trans h2
theorem lc_up (I : GI g) {T b : Nat} {P : Log} (hT : 0 < T) (hb : T - 1 ≤ b) (E : Elig g T b P) (hel : ∀ s, s ≤ b → ∀ L, g.lead s = some L → LCu g s L.pre) : LCu g T P := by
  have : ∀ x, x ≤ T → LCu g x P := by
    intro x
    induction x with
    | zero =>
      intro _ y hy
      omega
    | succ x ih =>
      intro hx y hy k n hc Ly hLy
      rcases Nat.lt_or_ge y x with z | z
      · exact ih (by omega) y z k n hc Ly hLy
      · have : y = x := by omega
        subst this
        exact lc_step I hT hb E hel y (by omega) (ih (by omega)) n k n (Nat.le_refl _) hc Ly hLy
  exact this T (Nat.le_refl _)
theorem elig_of (I : GI g) {t : Nat} {L : Lead} (h : g.lead t = some L) : Elig g t (t - 1) L.pre where
  path := (I.path t L h).pre (I.ext t L h)
  low := I.pre_lt t L h
  quorum := by
    obtain ⟨q, a, b⟩ := I.elect t L h
    exact ⟨q, a, fun v v5 hv => (b v v5 hv).2⟩
/-- LEADER COMPLETENESS: what was committed in a term stands in the log of every later leader -/
theorem lc (I : GI g) : ∀ (T : Nat) (L : Lead), g.lead T = some L → LCu g T L.pre := by
  have : ∀ N T L, T ≤ N → g.lead T = some L → LCu g T L.pre := by
    intro N
    induction N with
    | zero =>
      intro T L hT h
      have := lead_pos I h
      omega
    | succ N ih =>
      intro T L hT h
      have hp := lead_pos I h
      exact lc_up I hp (Nat.le_refl _) (elig_of I h) fun s hs L' hL' => ih s L' (by omega) hL'
  intro T L h
  exact this T T L (Nat.le_refl _) h
/-- ELECTION SAFETY: who may lead at T where one leads already has a common voter with that one -/
theorem es (I : GI g) {T : Nat} {P : Log} {L : Lead} (h : g.lead T = some L) {q : Nat → Bool} (path : Path g P) (low : ∀ e, e ∈ P → e.term < T) (hq : maj (cfg g.first P) q)
    (hv : ∀ v, v < 5 → q v = true → ∃ V, Path g V ∧ upTo V P ∧ AckP g v T T V) : ∃ v, v < 5 ∧ q v = true ∧ g.vote v T = some L.who := by
  have hp := lead_pos I h
  have E : Elig g T T P := ⟨path, low, q, hq, hv⟩
  have a := lc I T L h
  have b := lc_up I hp (by omega) E fun s _ L' hL' => lc I s L' hL'
  have l1 := Path.lt_lt hp (I.pre_lt T L h)
  have l2 := Path.lt_lt hp low
  have cl := near I (T := T) (fun s _ L' hL' => lc I s L' hL') _ L.pre P T T (Nat.le_refl _) ((I.path _ L h).pre (I.ext _ L h)) path (Nat.le_refl _) (Nat.le_refl _) a b l1 l2 l1 l2
  obtain ⟨q', hq', hv'⟩ := I.elect T L h
  obtain ⟨v, v5, z1, z2⟩ := overlap cl hq' hq
  exact ⟨v, v5, z2, (hv' v v5 z1).1⟩
end
end Rf
end

section
set_option autoImplicit false
set_option linter.all false
namespace Rf
open Ag12

def Comm (g : G) (t d : Nat) (l : Log) : Prop := d = 0 ∨ ∃ x k m Lx, g.com x k m ∧ x ≤ t ∧ g.lead x = some Lx ∧ d ≤ k ∧ Lx.full.take d <+: l
structure NI (g : G) (i : Nat) (n : Node) : Prop where
  path : Path g n.row
  low : ∀ e, e ∈ n.row → e.term ≤ n.term
  ack0 : ∀ x, 0 < g.ack i x → x ≤ n.term
  ack : AckP g i (n.term + 1) n.term n.row
  vote0 : ∀ t, n.term < t → g.vote i t = none
  vote : g.vote i n.term = n.voted
  cand0 : ∀ t, n.term < t → g.cand i t = none
  lead0 : ∀ t L, g.lead t = some L → L.who = i → t ≤ n.term
  cand : n.role = 1 → g.cand i n.term = some n.row ∧ (∀ v, v ∈ n.votes → g.vote v n.term = some i) ∧ (∀ L, g.lead n.term = some L → L.who ≠ i) ∧ (∀ e, e ∈ n.row → e.term < n.term) ∧ 0 < n.term
  ledr : n.role = 2 → ∃ L, g.lead n.term = some L ∧ L.who = i ∧ L.full = n.row ∧ n.row.length ≤ g.ack i n.term ∧ (∀ j, j < 5 → n.has.getD j 0 ≤ g.ack j n.term) ∧
    n.next.length = 5 ∧ n.has.length = 5 ∧ ∀ j, j < 5 → 1 ≤ n.next.getD j 1 ∧ n.next.getD j 1 ≤ n.row.length + 1
  done : Comm g n.term n.done n.row
def VR (g : G) : Prop := ∀ v t c, g.vote v t = some c → ∃ R, g.cand c t = some R ∧ Path g (g.vlog v t) ∧ upTo (g.vlog v t) R ∧ AckP g v t t (g.vlog v t)
structure MI (g : G) (x : Letter) : Prop where
  to5 : x.to_ < 5
  from5 : x.from_ < 5
  k0 : x.kind = 0 → ∃ R, g.cand x.from_ x.term = some R ∧ x.a = R.length ∧ x.b = lt R
  k1 : x.kind = 1 → x.yes = true → g.vote x.from_ x.term = some x.to_
  k2 : x.kind = 2 → ∃ L, g.lead x.term = some L ∧ x.a ≤ L.full.length ∧ L.full.take x.a ++ x.entries <+: L.full ∧ x.b = termAt L.full x.a ∧ Comm g x.term x.done L.full
  k3 : x.kind = 3 → x.yes = true → x.a ≤ g.ack x.from_ x.term
structure Inv (nd : Nat → Node) (ls : List Letter) (g : G) : Prop where
  gi : GI g
  ni : ∀ i, i < 5 → NI g i (nd i)
  vr : VR g
  mi : ∀ x, x ∈ ls → MI g x

/-- the ghost only grows -/
structure Le (g g' : G) : Prop where
  first : g'.first = g.first
  lead : ∀ t L, g.lead t = some L → ∃ L', g'.lead t = some L' ∧ L'.who = L.who ∧ L'.pre = L.pre ∧ L.full <+: L'.full
  ack : ∀ v x, g.ack v x ≤ g'.ack v x
  vote : ∀ v t c, g.vote v t = some c → g'.vote v t = some c ∧ g'.vlog v t = g.vlog v t
  cand : ∀ c t R, g.cand c t = some R → g'.cand c t = some R
  com : ∀ x k n, g.com x k n → g'.com x k n
theorem Le.refl (g : G) : Le g g := ⟨rfl, fun t L h => ⟨L, h, rfl, rfl, List.prefix_refl _⟩, fun _ _ => Nat.le_refl _, fun _ _ _ h => ⟨h, rfl⟩, fun _ _ _ h => h, fun _ _ _ h => h⟩
theorem Le.trans {a b c : G} (h : Le a b) (k : Le b c) : Le a c where
  first := k.first.trans h.first
  lead := fun t L q => by
    obtain ⟨L1, a1, a2, a3, a4⟩ := h.lead t L q
    obtain ⟨L2, b1, b2, b3, b4⟩ := k.lead t L1 a1
    exact ⟨L2, b1, b2.trans a2, b3.trans a3, a4.trans b4⟩
  ack := fun v x => Nat.le_trans (h.ack v x) (k.ack v x)
  vote := fun v t c q => by
    obtain ⟨a1, a2⟩ := h.vote v t c q
    obtain ⟨b1, b2⟩ := k.vote v t c a1
    exact ⟨b1, b2.trans a2⟩
  cand := fun c t R q => k.cand _ _ _ (h.cand _ _ _ q)
  com := fun x k' n q => k.com _ _ _ (h.com _ _ _ q)

section
variable {g g' : G}
theorem Path.up (le : Le g g') {l : Log} (h : Path g l) : Path g' l := fun i e he => by
  obtain ⟨L, a, b⟩ := h i e he
  obtain ⟨L', a', _, _, c⟩ := le.lead _ L a
  exact ⟨L', a', b.trans c⟩
/-- a leader's log in g' at what was acknowledged in g -/
theorem lead_back (le : Le g g') {x : Nat} {L L' : Lead} (h : g.lead x = some L) (h' : g'.lead x = some L') : L'.who = L.who ∧ L'.pre = L.pre ∧ L.full <+: L'.full := by
  obtain ⟨L2, a, b, c, d⟩ := le.lead x L h
  rw [h'] at a
  cases a
  exact ⟨b, c, d⟩
theorem AckP.up (I : GI g) (le : Le g g') {v t b : Nat} {V : Log} (hack : ∀ x, x < t → g'.ack v x = g.ack v x) (h : AckP g v t b V) : AckP g' v t b V := by
  intro x hx k hk Lx' hLx'
  rw [hack x hx] at hk
  rcases Nat.eq_zero_or_pos k with z | z
  · subst z
    exact .inl ⟨V, rfl⟩
  · obtain ⟨L, hL, hlen⟩ := I.ack_le v x (by omega)
    obtain ⟨_, _, c⟩ := lead_back le hL hLx'
    rw [take_of_pre c (show k ≤ L.full.length by omega)]
    rcases h x hx k hk L hL with a | ⟨s, Ls, a1, a2, a3, a4⟩
    · exact .inl a
    · obtain ⟨Ls', b1, b2, b3, b4⟩ := le.lead s Ls a3
      exact .inr ⟨s, Ls', a1, a2, b1, by rw [b3]; exact a4⟩
theorem Comm.up (I : GI g) (le : Le g g') {t t' d : Nat} {l : Log} (ht : t ≤ t') (h : Comm g t d l) : Comm g' t' d l := by
  rcases h with h | ⟨x, k, m, Lx, a1, a2, a3, a4, a5⟩
  · exact .inl h
  · obtain ⟨L', b1, b2, b3, b4⟩ := le.lead x Lx a3
    obtain ⟨L2, c1, c2, c3, c4, _⟩ := I.com_lead x k m a1
    rw [a3] at c1
    cases c1
    refine .inr ⟨x, k, m, L', le.com _ _ _ a1, by omega, b1, a4, ?_⟩
    rw [take_of_pre b4 (show d ≤ Lx.full.length by omega)]
    exact a5
theorem Comm.pre {t d : Nat} {l m : Log} (h : Comm g t d l) (q : l <+: m) : Comm g t d m := by
  rcases h with h | ⟨x, k, n, Lx, a1, a2, a3, a4, a5⟩
  · exact .inl h
  · exact .inr ⟨x, k, n, Lx, a1, a2, a3, a4, a5.trans q⟩
/-- what is committed is not longer than the log -/
theorem Comm.len (I : GI g) {t d : Nat} {l : Log} (h : Comm g t d l) : d ≤ l.length := by
  rcases h with h | ⟨x, k, n, Lx, a1, a2, a3, a4, a5⟩
  · omega
  · obtain ⟨L2, c1, c2, c3, c4, _⟩ := I.com_lead x k n a1
    rw [a3] at c1
    cases c1
    have := pre_len a5
    rw [len_take_le (by omega)] at this
    exact this
theorem MI.up (I : GI g) (le : Le g g') {x : Letter} (h : MI g x) : MI g' x where
  to5 := h.to5
  from5 := h.from5
  k0 := fun q => by
    obtain ⟨R, a, b⟩ := h.k0 q
    exact ⟨R, le.cand _ _ _ a, b⟩
  k1 := fun q y => (le.vote _ _ _ (h.k1 q y)).1
  k2 := fun q => by
    obtain ⟨L, a1, a2, a3, a4, a5⟩ := h.k2 q
    obtain ⟨L', b1, b2, b3, b4⟩ := le.lead _ L a1
    refine ⟨L', b1, Nat.le_trans a2 (pre_len b4), ?_, ?_, (a5.up I le (Nat.le_refl _)).pre b4⟩
    · rw [take_of_pre b4 a2]
      exact a3.trans b4
    · rw [termAt_pre b4 a2]
      exact a4
  k3 := fun q y => Nat.le_trans (h.k3 q y) (le.ack _ _)
/-- a node that is not at work -/
theorem NI.up (I : GI g) (le : Le g g') {j : Nat} {n : Node} (h : NI g j n) (ack : ∀ x, g'.ack j x = g.ack j x) (vote : ∀ t, g'.vote j t = g.vote j t) (cand : ∀ t, g'.cand j t = g.cand j t)
    (led : ∀ t L', g'.lead t = some L' → L'.who = j → g.lead t = some L') (ledN : n.role = 1 → ∀ L', g'.lead n.term = some L' → L'.who ≠ j) : NI g' j n where
  path := h.path.up le
  low := h.low
  ack0 := fun x q => h.ack0 x (by rw [← ack]; exact q)
  ack := h.ack.up I le fun x _ => ack x
  vote0 := fun t q => by rw [vote]; exact h.vote0 t q
  vote := by rw [vote]; exact h.vote
  cand0 := fun t q => by rw [cand]; exact h.cand0 t q
  lead0 := fun t L q w => h.lead0 t L (led t L q w) w
  cand := fun q => by
    obtain ⟨a, b, c, d⟩ := h.cand q
    exact ⟨by rw [cand]; exact a, fun v hv => (le.vote _ _ _ (b v hv)).1, ledN q, d⟩
  ledr := fun q => by
    obtain ⟨L, a1, a2, a3, a4, a5, a6⟩ := h.ledr q
    obtain ⟨L', b1, b2, b3, b4⟩ := le.lead _ L a1
    have e : L' = L := by
      have z := led _ L' b1 (b2.trans a2)
      rw [a1] at z
      cases z
      rfl
    subst e
    exact ⟨L', b1, a2, a3, Nat.le_trans a4 (le.ack _ _), fun j hj => Nat.le_trans (a5 j hj) (le.ack _ _), a6⟩
  done := h.done.up I le (Nat.le_refl _)
theorem VR.up (I : GI g) (le : Le g g') (h : VR g) (hack : ∀ v t c, g.vote v t = some c → ∀ x, x < t → g'.ack v x = g.ack v x) {v t c : Nat} (q : g.vote v t = some c) :
    ∃ R, g'.cand c t = some R ∧ Path g' (g'.vlog v t) ∧ upTo (g'.vlog v t) R ∧ AckP g' v t t (g'.vlog v t) := by
  obtain ⟨R, a1, a2, a3, a4⟩ := h v t c q
  rw [(le.vote v t c q).2]
  exact ⟨R, le.cand _ _ _ a1, a2.up le, a3, a4.up I le (hack v t c q)⟩
theorem elect_up (I : GI g) (le : Le g g') (hack : ∀ v t c, g.vote v t = some c → ∀ x, x < t → g'.ack v x = g.ack v x) {t : Nat} {L : Lead} (h : g.lead t = some L) :
    ∃ q : Nat → Bool, maj (cfg g'.first L.pre) q ∧ ∀ v, v < 5 → q v = true → g'.vote v t = some L.who ∧ ∃ V, Path g' V ∧ upTo V L.pre ∧ AckP g' v t (t - 1) V := by
  obtain ⟨q, a, b⟩ := I.elect t L h
  refine ⟨q, by rw [le.first]; exact a, fun v v5 hv => ?_⟩
  obtain ⟨z, V, b1, b2, b3⟩ := b v v5 hv
  exact ⟨(le.vote _ _ _ z).1, V, b1.up le, b2, b3.up I le (hack v t _ z)⟩
theorem maj_up {m : Nat} {q q' : Nat → Bool} (h : ∀ v, v < 5 → q v = true → q' v = true) (a : maj m q) : maj m q' := by
  unfold maj at *
  rw [len_listOf_filter] at *
  have k : ∀ v, v < 5 → one (q v && isIn m v) ≤ one (q' v && isIn m v) := fun v hv => by
    have := h v hv
    cases e1 : q v <;> cases e2 : q' v <;> cases e3 : isIn m v <;> simp_all [one]
  have := k 0 (by omega)
  have := k 1 (by omega)
  have := k 2 (by omega)
  have := k 3 (by omega)
  have := k 4 (by omega)
  omega

/-! ### the ways in which the ghost grows -/
/-- a vote -/
def G.voted (g : G) (i t c : Nat) (V : Log) : G := { g with vote := fun v x => if v = i ∧ x = t then some c else g.vote v x, vlog := fun v x => if v = i ∧ x = t then V else g.vlog v x }
theorem le_voted (i t c : Nat) (V : Log) (h : g.vote i t = none) : Le g (g.voted i t c V) := ⟨rfl, fun t L h => ⟨L, h, rfl, rfl, List.prefix_refl _⟩, fun _ _ => Nat.le_refl _, fun v x c' q => by
  have : ¬ (v = i ∧ x = t) := fun ⟨a, b⟩ => by
    subst a b
    rw [h] at q
    cases q
  exact ⟨by show (if v = i ∧ x = t then some c else g.vote v x) = _; rw [if_neg this]; exact q, by show (if v = i ∧ x = t then V else g.vlog v x) = _; rw [if_neg this]⟩, fun _ _ _ h => h, fun _ _ _ h => h⟩
theorem gi_voted (I : GI g) (i t c : Nat) (V : Log) (h : g.vote i t = none) : GI (g.voted i t c V) where
  zero := I.zero
  pre_lt := I.pre_lt
  ext := I.ext
  own := I.own
  path := fun t L q => (I.path t L q).up (le_voted i _ c V h)
  com_lead := I.com_lead
  conf := I.conf
  elect := fun _ L q => elect_up I (le_voted i t c V h) (fun _ _ _ _ _ _ => rfl) q
  ack_le := I.ack_le
/-- a candidacy -/
def G.stood (g : G) (i t : Nat) (R : Log) : G := { g with cand := fun v x => if v = i ∧ x = t then some R else g.cand v x }
theorem le_stood (i t : Nat) (R : Log) (h : g.cand i t = none) : Le g (g.stood i t R) := ⟨rfl, fun t L h => ⟨L, h, rfl, rfl, List.prefix_refl _⟩, fun _ _ => Nat.le_refl _, fun v x c' q => ⟨q, rfl⟩, fun v x R' q => by
  have : ¬ (v = i ∧ x = t) := fun ⟨a, b⟩ => by
    subst a b
    rw [h] at q
    cases q
  show (if v = i ∧ x = t then some R else g.cand v x) = _
  rw [if_neg this]
  exact q, fun _ _ _ h => h⟩
theorem gi_stood (I : GI g) (i t : Nat) (R : Log) (h : g.cand i t = none) : GI (g.stood i t R) where
  zero := I.zero
  pre_lt := I.pre_lt
  ext := I.ext
  own := I.own
  path := fun t L q => (I.path t L q).up (le_stood i _ R h)
  com_lead := I.com_lead
  conf := I.conf
  elect := fun _ L q => elect_up I (le_stood i t R h) (fun _ _ _ _ _ _ => rfl) q
  ack_le := I.ack_le
/-- more is acknowledged -/
def G.acked (g : G) (i t k : Nat) : G := { g with ack := fun v x => if v = i ∧ x = t then max (g.ack v x) k else g.ack v x }
theorem le_acked (i t k : Nat) : Le g (g.acked i t k) := ⟨rfl, fun t L h => ⟨L, h, rfl, rfl, List.prefix_refl _⟩, fun v x => by
  show _ ≤ (if v = i ∧ x = t then max (g.ack v x) k else g.ack v x)
  split <;> omega, fun v x c' q => ⟨q, rfl⟩, fun _ _ _ h => h, fun _ _ _ h => h⟩
theorem acked_ne {i t k v x : Nat} (h : ¬ (v = i ∧ x = t)) : (g.acked i t k).ack v x = g.ack v x := if_neg h
theorem acked_eq {i t k : Nat} : (g.acked i t k).ack i t = max (g.ack i t) k := if_pos ⟨rfl, rfl⟩
theorem acked_keep {i t k : Nat} (hv : ∀ T, t < T → g.vote i T = none) : ∀ v T c, g.vote v T = some c → ∀ x, x < T → (g.acked i t k).ack v x = g.ack v x := fun v T c q x hx => by
  refine acked_ne fun ⟨a, b⟩ => ?_
  subst a b
  rw [hv T hx] at q
  cases q
theorem gi_acked (I : GI g) (i t k : Nat) (hv : ∀ T, t < T → g.vote i T = none) {L : Lead} (hL : g.lead t = some L) (hk : k ≤ L.full.length) : GI (g.acked i t k) where
  zero := I.zero
  pre_lt := I.pre_lt
  ext := I.ext
  own := I.own
  path := fun _ L q => (I.path _ L q).up (le_acked i t k)
  com_lead := fun x k' n q => by
    obtain ⟨L, a1, a2, a3, a4, a5⟩ := I.com_lead x k' n q
    refine ⟨L, a1, a2, a3, a4, maj_up (fun v v5 hq => ?_) a5⟩
    have h1 := of_decide_eq_true hq
    have h2 := (le_acked (g := g) i t k).ack v x
    exact decide_eq_true (by omega)
  conf := I.conf
  elect := fun _ L q => elect_up I (le_acked i t k) (acked_keep hv) q
  ack_le := fun v x q => by
    by_cases c : v = i ∧ x = t
    · obtain ⟨a, b⟩ := c
      subst a b
      rw [acked_eq] at q ⊢
      refine ⟨L, hL, ?_⟩
      rcases Nat.eq_zero_or_pos (g.ack v x) with z | z
      · omega
      · obtain ⟨L', hL', q'⟩ := I.ack_le v x z
        rw [hL] at hL'
        cases hL'
        omega
    · rw [acked_ne c] at q ⊢
      exact I.ack_le v x q
/-- a commit -/
def G.comd (g : G) (t k n : Nat) : G := { g with com := fun x a b => g.com x a b ∨ (x = t ∧ a = k ∧ b = n) }
theorem le_comd (t k n : Nat) : Le g (g.comd t k n) := ⟨rfl, fun t L h => ⟨L, h, rfl, rfl, List.prefix_refl _⟩, fun v x => Nat.le_refl _, fun v x c' q => ⟨q, rfl⟩, fun _ _ _ h => h, fun _ _ _ h => .inl h⟩
theorem gi_comd (I : GI g) (t k n : Nat) {L : Lead} (hL : g.lead t = some L) (h1 : L.pre.length < k) (h2 : k ≤ n) (h3 : n ≤ L.full.length) (hm : maj (cfg g.first (L.full.take n)) (fun v => decide (k ≤ g.ack v t))) : GI (g.comd t k n) where
  zero := I.zero
  pre_lt := I.pre_lt
  ext := I.ext
  own := I.own
  path := fun _ L q => (I.path _ L q).up (le_comd t k n)
  com_lead := fun x k' n' q => by
    rcases q with q | ⟨a, b, c⟩
    · exact I.com_lead x k' n' q
    · subst a b c
      exact ⟨L, hL, h1, h2, h3, hm⟩
  conf := fun x L' hL' i e he c hi => by
    obtain ⟨a, c0, n0, b1, b2, b3⟩ := I.conf x L' hL' i e he c hi
    exact ⟨a, c0, n0, .inl b1, b2, b3⟩
  elect := fun _ L q => elect_up I (le_comd t k n) (fun _ _ _ _ _ _ => rfl) q
  ack_le := I.ack_le
/-- a leader, or its longer log -/
def G.put (g : G) (t : Nat) (L : Lead) : G := { g with lead := fun x => if x = t then some L else g.lead x }
theorem put_eq {t : Nat} {L : Lead} : (g.put t L).lead t = some L := if_pos rfl
theorem put_ne {t x : Nat} {L : Lead} (h : x ≠ t) : (g.put t L).lead x = g.lead x := if_neg h
theorem le_new (t : Nat) (L : Lead) (h : g.lead t = none) : Le g (g.put t L) := ⟨rfl, fun x L' q => by
  have : x ≠ t := fun z => by
    subst z
    rw [h] at q
    cases q
  exact ⟨L', by rw [put_ne this]; exact q, rfl, rfl, List.prefix_refl _⟩, fun _ _ => Nat.le_refl _, fun v x c' q => ⟨q, rfl⟩, fun _ _ _ h => h, fun _ _ _ h => h⟩
theorem le_more (t : Nat) (L : Lead) (m : Log) (h : g.lead t = some L) : Le g (g.put t { L with full := L.full ++ m }) := ⟨rfl, fun x L' q => by
  by_cases c : x = t
  · subst c
    rw [h] at q
    cases q
    exact ⟨_, put_eq, rfl, rfl, List.prefix_append _ _⟩
  · exact ⟨L', by rw [put_ne c]; exact q, rfl, rfl, List.prefix_refl _⟩, fun _ _ => Nat.le_refl _, fun v x c' q => ⟨q, rfl⟩, fun _ _ _ h => h, fun _ _ _ h => h⟩
theorem gi_new (I : GI g) {t i : Nat} {P : Log} (h : g.lead t = none) (ht : 0 < t) (path : Path g P) (low : ∀ e, e ∈ P → e.term < t)
    (hq : ∃ q : Nat → Bool, maj (cfg g.first P) q ∧ ∀ v, v < 5 → q v = true → g.vote v t = some i ∧ ∃ V, Path g V ∧ upTo V P ∧ AckP g v t (t - 1) V) : GI (g.put t ⟨i, P, P⟩) := by
  have le := le_new t ⟨i, P, P⟩ h
  exact {
    zero := by rw [put_ne (show (0 : Nat) ≠ t by omega)]; exact I.zero
    pre_lt := fun x L q e he => by
      by_cases c : x = t
      · subst c
        rw [put_eq] at q
        cases q
        exact low e he
      · rw [put_ne c] at q
        exact I.pre_lt x L q e he
    ext := fun x L q => by
      by_cases c : x = t
      · subst c
        rw [put_eq] at q
        cases q
        exact List.prefix_refl _
      · rw [put_ne c] at q
        exact I.ext x L q
    own := fun x L q j e he hj => by
      by_cases c : x = t
      · subst c
        rw [put_eq] at q
        cases q
        have := get_lt he
        simp only at hj this
        omega
      · rw [put_ne c] at q
        exact I.own x L q j e he hj
    path := fun x L q => by
      by_cases c : x = t
      · subst c
        rw [put_eq] at q
        cases q
        exact path.up le
      · rw [put_ne c] at q
        exact (I.path x L q).up le
    com_lead := fun x k n q => by
      obtain ⟨L, a1, a2⟩ := I.com_lead x k n q
      have c : x ≠ t := fun z => by
        subst z
        rw [h] at a1
        cases a1
      exact ⟨L, by rw [put_ne c]; exact a1, a2⟩
    conf := fun x L q j e he c' hj => by
      by_cases c : x = t
      · subst c
        rw [put_eq] at q
        cases q
        have := get_lt he
        simp only at hj this
        omega
      · rw [put_ne c] at q
        exact I.conf x L q j e he c' hj
    elect := fun x L q => by
      by_cases c : x = t
      · subst c
        rw [put_eq] at q
        cases q
        obtain ⟨q, a, b⟩ := hq
        refine ⟨q, a, fun v v5 hv => ?_⟩
        obtain ⟨z, V, b1, b2, b3⟩ := b v v5 hv
        exact ⟨z, V, b1.up le, b2, b3.up I le fun _ _ => rfl⟩
      · rw [put_ne c] at q
        exact elect_up I le (fun _ _ _ _ _ _ => rfl) q
    ack_le := fun v x q => by
      obtain ⟨L, a1, a2⟩ := I.ack_le v x q
      have c : x ≠ t := fun z => by
        subst z
        rw [h] at a1
        cases a1
      exact ⟨L, by rw [put_ne c]; exact a1, a2⟩ }
theorem gi_more (I : GI g) {t : Nat} {L : Lead} (h : g.lead t = some L) {e : Entry} (het : e.term = t)
    (hc : e.sort = 1 → adj (cfg g.first L.full) e.value ∧ ∃ c n, g.com t c n ∧ ∀ (j : Nat) (e' : Entry), L.full[j]? = some e' → e'.sort = 1 → j < c) : GI (g.put t { L with full := L.full ++ [e] }) := by
  have le := le_more t L [e] h
  have last : ∀ (j : Nat) (e' : Entry), (L.full ++ [e])[j]? = some e' → L.full[j]? = some e' ∨ (j = L.full.length ∧ e' = e) := fun j e' q => by
    rcases Nat.lt_or_ge j L.full.length with z | z
    · exact .inl (pre_back (List.prefix_append _ _) q z)
    · have := get_lt q
      rw [List.length_append] at this
      have z2 : j = L.full.length := by simp at this; omega
      subst z2
      rw [List.getElem?_append_right (Nat.le_refl _), Nat.sub_self] at q
      cases q
      exact .inr ⟨rfl, rfl⟩
  exact {
    zero := by
      have := lead_pos I h
      rw [put_ne (show (0 : Nat) ≠ t by omega)]
      exact I.zero
    pre_lt := fun x L' q e' he => by
      by_cases c : x = t
      · subst c
        rw [put_eq] at q
        cases q
        exact I.pre_lt x L h e' he
      · rw [put_ne c] at q
        exact I.pre_lt x L' q e' he
    ext := fun x L' q => by
      by_cases c : x = t
      · subst c
        rw [put_eq] at q
        cases q
        exact (I.ext x L h).trans (List.prefix_append _ _)
      · rw [put_ne c] at q
        exact I.ext x L' q
    own := fun x L' q j e' he hj => by
      by_cases c : x = t
      · subst c
        rw [put_eq] at q
        cases q
        rcases last j e' he with z | ⟨_, z⟩
        · exact I.own x L h j e' z hj
        · rw [z]; exact het
      · rw [put_ne c] at q
        exact I.own x L' q j e' he hj
    path := fun x L' q => by
      by_cases c : x = t
      · subst c
        rw [put_eq] at q
        cases q
        intro j e' he
        rcases last j e' he with z | ⟨z, z'⟩
        · obtain ⟨L2, a, b⟩ := (I.path x L h).up le j e' z
          refine ⟨L2, a, ?_⟩
          show (L.full ++ [e]).take (j + 1) <+: _
          rw [take_of_pre (List.prefix_append L.full [e]) (show j + 1 ≤ L.full.length from get_lt z)]
          exact b
        · subst z'
          rw [het]
          exact ⟨_, put_eq, take_pre _ _⟩
      · rw [put_ne c] at q
        exact (I.path x L' q).up le
    com_lead := fun x k n q => by
      obtain ⟨L', a1, a2, a3, a4, a5⟩ := I.com_lead x k n q
      by_cases c : x = t
      · subst c
        rw [h] at a1
        cases a1
        refine ⟨_, put_eq, a2, a3, ?_, ?_⟩
        · show n ≤ (L.full ++ [e]).length
          rw [List.length_append]
          omega
        · show maj (cfg g.first ((L.full ++ [e]).take n)) _
          rw [take_of_pre (List.prefix_append L.full [e]) a4]
          exact a5
      · exact ⟨L', by rw [put_ne c]; exact a1, a2, a3, a4, a5⟩
    conf := fun x L' q j e' he c' hj => by
      by_cases c : x = t
      · subst c
        rw [put_eq] at q
        cases q
        show adj (cfg g.first ((L.full ++ [e]).take j)) _ ∧ _
        rcases last j e' he with z | ⟨z, z'⟩
        · obtain ⟨a, c0, n0, b1, b2, b3⟩ := I.conf x L h j e' z c' hj
          rw [take_of_pre (List.prefix_append L.full [e]) (Nat.le_of_lt (get_lt z))]
          refine ⟨a, c0, n0, b1, b2, fun j2 e2 h2 s2 l2 => ?_⟩
          exact b3 j2 e2 (pre_back (List.prefix_append _ _) h2 (by have := get_lt z; omega)) s2 l2
        · subst z z'
          obtain ⟨a, c0, n0, b1, b3⟩ := hc c'
          rw [take_of_pre (List.prefix_append L.full [e']) (Nat.le_refl _), List.take_of_length_le (Nat.le_refl _)]
          obtain ⟨L2, d1, d2, d3, d4, _⟩ := I.com_lead x c0 n0 b1
          rw [h] at d1
          cases d1
          exact ⟨a, c0, n0, b1, d4, fun j2 e2 h2 s2 l2 => b3 j2 e2 (pre_back (List.prefix_append _ _) h2 l2) s2⟩
      · rw [put_ne c] at q
        exact I.conf x L' q j e' he c' hj
    elect := fun x L' q => by
      by_cases c : x = t
      · subst c
        rw [put_eq] at q
        cases q
        have z := elect_up I le (fun _ _ _ _ _ _ => rfl) h
        exact z
      · rw [put_ne c] at q
        exact elect_up I le (fun _ _ _ _ _ _ => rfl) q
    ack_le := fun v x q => by
      obtain ⟨L', a1, a2⟩ := I.ack_le v x q
      by_cases c : x = t
      · subst c
        rw [h] at a1
        cases a1
        refine ⟨_, put_eq, ?_⟩
        show g.ack v x ≤ (L.full ++ [e]).length
        rw [List.length_append]
        omega
      · exact ⟨L', by rw [put_ne c]; exact a1, a2⟩ }
end
end Rf
end

section
set_option autoImplicit false
set_option linter.all false
namespace Rf
open Ag12

def setn (nd : Nat → Node) (i : Nat) (n : Node) : Nat → Node := fun j => if j = i then n else nd j
theorem setn_eq {nd : Nat → Node} {i : Nat} {n : Node} : setn nd i n i = n := if_pos rfl
theorem setn_ne {nd : Nat → Node} {i j : Nat} {n : Node} (h : j ≠ i) : setn nd i n j = nd j := if_neg h
section
variable {g g' : G} {nd : Nat → Node} {ls : List Letter} {i : Nat} {n : Node}
/-- no ghost moves -/
theorem Inv.same (h : Inv nd ls g) (hi : NI g i n) : Inv (setn nd i n) ls g where
  gi := h.gi
  ni := fun j hj => by
    by_cases c : j = i
    · subst c
      rw [setn_eq]
      exact hi
    · rw [setn_ne c]
      exact h.ni j hj
  vr := h.vr
  mi := h.mi
theorem Inv.msgs (h : Inv nd ls g) {ls' : List Letter} (hm : ∀ x, x ∈ ls' → x ∈ ls ∨ MI g x) : Inv nd ls' g where
  gi := h.gi
  ni := h.ni
  vr := h.vr
  mi := fun x q => (hm x q).elim (h.mi x) id

/-! ### a node's own ways, no ghost moving -/
theorem NI.hear (h : NI g i n) (t : Nat) : NI g i (hear n t) := by
  unfold Ag12.hear
  by_cases c : n.term < t
  · rw [if_pos c]
    exact {
      path := h.path
      low := fun e he => Nat.le_trans (h.low e he) (Nat.le_of_lt c)
      ack0 := fun x q => Nat.le_trans (h.ack0 x q) (Nat.le_of_lt c)
      ack := fun x hx k hk Lx hLx => by
        show Lx.full.take k <+: n.row ∨ ∃ s Ls, x < s ∧ s ≤ t ∧ _
        by_cases z : x < n.term + 1
        · rcases h.ack x z k hk Lx hLx with a | ⟨s, Ls, a1, a2, a3⟩
          · exact .inl a
          · exact .inr ⟨s, Ls, a1, by omega, a3⟩
        · have : k = 0 := by
            have := h.ack0 x
            omega
          subst this
          exact .inl ⟨n.row, rfl⟩
      vote0 := fun x q => h.vote0 x (Nat.lt_trans c q)
      vote := h.vote0 t c
      cand0 := fun x q => h.cand0 x (Nat.lt_trans c q)
      lead0 := fun x L q w => Nat.le_trans (h.lead0 x L q w) (Nat.le_of_lt c)
      cand := fun q => nomatch q
      ledr := fun q => nomatch q
      done := by
        rcases h.done with z | ⟨x, k, m, Lx, a1, a2, a3⟩
        · exact .inl z
        · exact .inr ⟨x, k, m, Lx, a1, Nat.le_trans a2 (Nat.le_of_lt c), a3⟩ }
  · rw [if_neg c]
    exact h
/-- a follower: nothing that a candidate or a leader must keep -/
theorem NI.drop (h : NI g i n) {v : List Nat} {a b : List Nat} {u : Bool} {d : Nat} (hd : d = n.done ∨ d = 0) : NI g i { n with up := u, role := 0, votes := v, next := a, has := b, done := d } where
  path := h.path
  low := h.low
  ack0 := h.ack0
  ack := h.ack
  vote0 := h.vote0
  vote := h.vote
  cand0 := h.cand0
  lead0 := h.lead0
  cand := fun q => nomatch q
  ledr := fun q => nomatch q
  done := by
    rcases hd with rfl | rfl
    · exact h.done
    · exact .inl rfl
theorem NI.up_ (h : NI g i n) (u : Bool) : NI g i { n with up := u } where
  path := h.path
  low := h.low
  ack0 := h.ack0
  ack := h.ack
  vote0 := h.vote0
  vote := h.vote
  cand0 := h.cand0
  lead0 := h.lead0
  cand := h.cand
  ledr := h.ledr
  done := h.done
theorem NI.counted (h : NI g i n) (hr : n.role = 1) {v : Nat} (hv : g.vote v n.term = some i) : NI g i { n with votes := n.votes ++ [v] } where
  path := h.path
  low := h.low
  ack0 := h.ack0
  ack := h.ack
  vote0 := h.vote0
  vote := h.vote
  cand0 := h.cand0
  lead0 := h.lead0
  cand := fun q => by
    obtain ⟨a, b, c⟩ := h.cand q
    refine ⟨a, fun u hu => ?_, c⟩
    rcases List.mem_append.mp hu with z | z
    · exact b u z
    · rw [List.mem_singleton.mp z]
      exact hv
  ledr := h.ledr
  done := h.done
theorem getD_set {l : List Nat} {a x j d : Nat} (ha : a < l.length) : (l.set a x).getD j d = if a = j then x else l.getD j d := by
  rw [List.getD_eq_getElem?_getD, List.getD_eq_getElem?_getD, List.getElem?_set]
  by_cases c : a = j
  · rw [if_pos c, if_pos c, if_pos ha]
    rfl
  · rw [if_neg c, if_neg c]
/-- a leader hears no success -/
theorem NI.back (h : NI g i n) (hr : n.role = 2) {x : Nat} (hx : x < 5) : NI g i { n with next := n.next.set x (max 1 (n.next.getD x 1 - 1)) } where
  path := h.path
  low := h.low
  ack0 := h.ack0
  ack := h.ack
  vote0 := h.vote0
  vote := h.vote
  cand0 := h.cand0
  lead0 := h.lead0
  cand := h.cand
  ledr := fun q => by
    obtain ⟨L, a1, a2, a3, a4, a5, a6, a7, a8⟩ := h.ledr q
    refine ⟨L, a1, a2, a3, a4, a5, by simpa using a6, a7, fun j hj => ?_⟩
    rw [getD_set (by omega)]
    have := a8 j hj
    have := a8 x hx
    split
    · show _ ∧ _ ≤ n.row.length + 1
      omega
    · exact a8 j hj
  done := h.done
/-- a leader hears of a success -/
theorem NI.forth (I : GI g) (h : NI g i n) (hr : n.role = 2) {x k : Nat} (hx : x < 5) (hk : k ≤ g.ack x n.term) :
    NI g i { n with has := n.has.set x (max (n.has.getD x 0) k), next := n.next.set x (max (n.has.getD x 0) k + 1) } where
  path := h.path
  low := h.low
  ack0 := h.ack0
  ack := h.ack
  vote0 := h.vote0
  vote := h.vote
  cand0 := h.cand0
  lead0 := h.lead0
  cand := h.cand
  ledr := fun q => by
    obtain ⟨L, a1, a2, a3, a4, a5, a6, a7, a8⟩ := h.ledr q
    have len : g.ack x n.term ≤ n.row.length := by
      rcases Nat.eq_zero_or_pos (g.ack x n.term) with z | z
      · omega
      · obtain ⟨L', b1, b2⟩ := I.ack_le _ _ z
        rw [a1] at b1
        cases b1
        rw [a3] at b2
        exact b2
    have hx5 := a5 x hx
    refine ⟨L, a1, a2, a3, a4, fun j hj => ?_, by simpa using a6, by simpa using a7, fun j hj => ?_⟩
    · show (n.has.set x _).getD j 0 ≤ _
      rw [getD_set (by omega)]
      split
      · rename_i c
        subst c
        show max _ _ ≤ g.ack x n.term
        omega
      · exact a5 j hj
    · show 1 ≤ (n.next.set x _).getD j 1 ∧ (n.next.set x _).getD j 1 ≤ n.row.length + 1
      rw [getD_set (by omega)]
      split
      · omega
      · exact a8 j hj
  done := h.done

/-! ### a vote -/
theorem Inv.vote_ (h : Inv nd ls g) (hi : i < 5) {c : Nat} {R : Log} (hn : NI g i n) (hv : n.voted = none) (hc : g.cand c n.term = some R) (hu : upTo n.row R) :
    Inv (setn nd i { n with voted := some c }) ls (g.voted i n.term c n.row) ∧ (g.voted i n.term c n.row).vote i n.term = some c := by
  have hv' : g.vote i n.term = none := hn.vote.trans hv
  have le := le_voted (g := g) i n.term c n.row hv'
  have eqv : (g.voted i n.term c n.row).vote i n.term = some c := if_pos ⟨rfl, rfl⟩
  have eqV : (g.voted i n.term c n.row).vlog i n.term = n.row := if_pos ⟨rfl, rfl⟩
  have nev : ∀ v x, ¬ (v = i ∧ x = n.term) → (g.voted i n.term c n.row).vote v x = g.vote v x := fun v x q => if_neg q
  refine ⟨{ gi := gi_voted h.gi i _ c _ hv', ni := fun j hj => ?_, vr := fun v t c' q => ?_, mi := fun x q => (h.mi x q).up h.gi le }, eqv⟩
  · by_cases z : j = i
    · subst z
      rw [setn_eq]
      exact {
        path := hn.path.up le
        low := hn.low
        ack0 := hn.ack0
        ack := hn.ack.up h.gi le fun _ _ => rfl
        vote0 := fun t q => by
          rw [nev j t (fun z => by
            have : n.term < t := q
            omega)]
          exact hn.vote0 t q
        vote := eqv
        cand0 := hn.cand0
        lead0 := hn.lead0
        cand := fun q => by
          obtain ⟨a, b, d⟩ := hn.cand q
          exact ⟨a, fun v w => (le.vote _ _ _ (b v w)).1, d⟩
        ledr := hn.ledr
        done := hn.done }
    · rw [setn_ne z]
      exact (h.ni j hj).up h.gi le (fun _ => rfl) (fun t => nev j t fun q => z q.1) (fun _ => rfl) (fun _ _ q _ => q) (fun q L w => ((h.ni j hj).cand q).2.2.1 L w)
  · by_cases z : v = i ∧ t = n.term
    · obtain ⟨a, b⟩ := z
      subst a b
      rw [eqv] at q
      cases q
      rw [eqV]
      refine ⟨R, hc, hn.path.up le, hu, AckP.up h.gi le (fun _ _ => rfl) ?_⟩
      intro x hx
      exact hn.ack x (by omega)
    · rw [nev v t z] at q
      exact h.vr.up h.gi le (fun _ _ _ _ _ _ => rfl) q
/-- a candidacy: a vote for oneself in a new term -/
theorem Inv.stand_ (h : Inv nd ls g) (hi : i < 5) (hn : NI g i n) : ∃ g', Le g g' ∧
    Inv (setn nd i { n with term := n.term + 1, voted := some i, role := 1, votes := [i], next := [], has := [] }) ls g' ∧ g'.cand i (n.term + 1) = some n.row := by
  have hc : g.cand i (n.term + 1) = none := hn.cand0 _ (Nat.lt_succ_self _)
  have le1 := le_stood (g := g) i (n.term + 1) n.row hc
  have eqc : (g.stood i (n.term + 1) n.row).cand i (n.term + 1) = some n.row := if_pos ⟨rfl, rfl⟩
  have nec : ∀ v x, ¬ (v = i ∧ x = n.term + 1) → (g.stood i (n.term + 1) n.row).cand v x = g.cand v x := fun v x q => if_neg q
  have I1 := gi_stood h.gi i (n.term + 1) n.row hc
  have hv : (g.stood i (n.term + 1) n.row).vote i (n.term + 1) = none := hn.vote0 _ (Nat.lt_succ_self _)
  have le2 := le_voted (g := g.stood i (n.term + 1) n.row) i (n.term + 1) i n.row hv
  have le := le1.trans le2
  generalize hg' : (g.stood i (n.term + 1) n.row).voted i (n.term + 1) i n.row = g' at le le2
  have eqv : g'.vote i (n.term + 1) = some i := by subst hg'; exact if_pos ⟨rfl, rfl⟩
  have eqV : g'.vlog i (n.term + 1) = n.row := by subst hg'; exact if_pos ⟨rfl, rfl⟩
  have nev : ∀ v x, ¬ (v = i ∧ x = n.term + 1) → g'.vote v x = g.vote v x := fun v x q => by subst hg'; exact if_neg q
  have hcand : g'.cand = (g.stood i (n.term + 1) n.row).cand := by subst hg'; rfl
  have hlead : g'.lead = g.lead := by subst hg'; rfl
  have hack : g'.ack = g.ack := by subst hg'; rfl
  refine ⟨g', le, { gi := by subst hg'; exact gi_voted I1 i _ i _ hv, ni := fun j hj => ?_, vr := fun v t c' q => ?_, mi := fun x q => (h.mi x q).up h.gi le }, by rw [hcand]; exact eqc⟩
  · by_cases z : j = i
    · subst z
      rw [setn_eq]
      exact {
        path := hn.path.up le
        low := fun e he => Nat.le_succ_of_le (hn.low e he)
        ack0 := fun x q => by
          rw [hack] at q
          exact Nat.le_succ_of_le (hn.ack0 x q)
        ack := by
          have h2 : AckP g j (n.term + 1 + 1) (n.term + 1) n.row := fun x hx k hk Lx hLx => by
            by_cases z : x < n.term + 1
            · rcases hn.ack x z k hk Lx hLx with a | ⟨s, Ls, a1, a2, a3⟩
              · exact .inl a
              · exact .inr ⟨s, Ls, a1, by omega, a3⟩
            · have : k = 0 := by
                have := hn.ack0 x
                omega
              subst this
              exact .inl ⟨n.row, rfl⟩
          exact h2.up h.gi le fun x _ => by rw [hack]
        vote0 := fun t q => by
          have q' : n.term + 1 < t := q
          rw [nev j t (by omega)]
          exact hn.vote0 t (by omega)
        vote := eqv
        cand0 := fun t q => by
          have q' : n.term + 1 < t := q
          rw [hcand, nec j t (by omega)]
          exact hn.cand0 t (by omega)
        lead0 := fun t L q w => by
          rw [hlead] at q
          exact Nat.le_succ_of_le (hn.lead0 t L q w)
        cand := fun _ => ⟨by rw [hcand]; exact eqc, fun v hv => by
          rw [List.mem_singleton.mp hv]
          exact eqv, fun L q w => by
          rw [hlead] at q
          have := hn.lead0 _ L q w
          have : n.term + 1 ≤ n.term := this
          omega, fun e he => Nat.lt_succ_of_le (hn.low e he), Nat.succ_pos _⟩
        ledr := fun q => nomatch q
        done := hn.done.up h.gi le (Nat.le_succ _) }
    · rw [setn_ne z]
      exact (h.ni j hj).up h.gi le (fun x => by rw [hack]) (fun t => nev j t fun q => z q.1) (fun t => by rw [hcand]; exact nec j t fun q => z q.1) (fun _ _ q _ => by rw [hlead] at q; exact q) (fun q L w => by rw [hlead] at w; exact ((h.ni j hj).cand q).2.2.1 L w)
  · by_cases z : v = i ∧ t = n.term + 1
    · obtain ⟨a, b⟩ := z
      subst a b
      rw [eqv] at q
      cases q
      rw [eqV]
      refine ⟨n.row, by rw [hcand]; exact eqc, hn.path.up le, .inr ⟨rfl, Nat.le_refl _⟩, ?_⟩
      have h2 : AckP g v (n.term + 1) (n.term + 1) n.row := fun x hx k hk Lx hLx => by
        rcases hn.ack x hx k hk Lx hLx with a | ⟨s, Ls, a1, a2, a3⟩
        · exact .inl a
        · exact .inr ⟨s, Ls, a1, by omega, a3⟩
      exact h2.up h.gi le fun x _ => by rw [hack]
    · rw [nev v t z] at q
      exact h.vr.up h.gi le (fun _ _ _ _ _ _ => by rw [hack]) q
end
end Rf
end

section
set_option autoImplicit false
set_option linter.all false
namespace Rf
open Ag12
section
variable {g g' : G} {nd : Nat → Node} {ls : List Letter} {i : Nat} {n : Node}
theorem AckP.more {v t b : Nat} {V W : Log} (h : AckP g v t b V) (q : V <+: W) : AckP g v t b W := fun x hx k hk Lx hLx =>
  (h x hx k hk Lx hLx).imp (fun a => a.trans q) id
/-- a leader adds an entry -/
theorem Inv.append_ (h : Inv nd ls g) (hi : i < 5) (hn : NI g i n) (hr : n.role = 2) {e : Entry} (het : e.term = n.term)
    (hc : e.sort = 1 → adj (cfg g.first n.row) e.value ∧ ∃ c m, g.com n.term c m ∧ ∀ (j : Nat) (e' : Entry), n.row[j]? = some e' → e'.sort = 1 → j < c) :
    ∃ g', Le g g' ∧ Inv (setn nd i { n with row := n.row ++ [e] }) ls g' ∧ NI g' i { n with row := n.row ++ [e] } := by
  obtain ⟨L, a1, a2, a3, a4, a5, a6, a7, a8⟩ := hn.ledr hr
  have I1 := gi_more h.gi a1 het (by rw [a3]; exact hc)
  have le1 := le_more (g := g) n.term L [e] a1
  have l1 : (g.put n.term { L with full := L.full ++ [e] }).lead n.term = some { L with full := L.full ++ [e] } := put_eq
  have hv : ∀ T, n.term < T → (g.put n.term { L with full := L.full ++ [e] }).vote i T = none := hn.vote0
  have I2 := gi_acked I1 i n.term (n.row.length + 1) hv l1 (by show _ ≤ (L.full ++ [e]).length; rw [List.length_append, a3]; simp)
  have le2 := le_acked (g := g.put n.term { L with full := L.full ++ [e] }) i n.term (n.row.length + 1)
  have le := le1.trans le2
  have keep := acked_keep (g := g.put n.term { L with full := L.full ++ [e] }) (k := n.row.length + 1) hv
  have ane : ∀ v x, ¬ (v = i ∧ x = n.term) → ((g.put n.term { L with full := L.full ++ [e] }).acked i n.term (n.row.length + 1)).ack v x = g.ack v x := fun v x q => acked_ne q
  have aeq : ((g.put n.term { L with full := L.full ++ [e] }).acked i n.term (n.row.length + 1)).ack i n.term = max (g.ack i n.term) (n.row.length + 1) := acked_eq
  have lne : ∀ x, x ≠ n.term → ((g.put n.term { L with full := L.full ++ [e] }).acked i n.term (n.row.length + 1)).lead x = g.lead x := fun x q => put_ne q
  have leq : ((g.put n.term { L with full := L.full ++ [e] }).acked i n.term (n.row.length + 1)).lead n.term = some { L with full := L.full ++ [e] } := put_eq
  have vt : ((g.put n.term { L with full := L.full ++ [e] }).acked i n.term (n.row.length + 1)).vote = g.vote := rfl
  have ct : ((g.put n.term { L with full := L.full ++ [e] }).acked i n.term (n.row.length + 1)).cand = g.cand := rfl
  generalize (g.put n.term { L with full := L.full ++ [e] }).acked i n.term (n.row.length + 1) = g' at *
  have pe : n.row <+: n.row ++ [e] := List.prefix_append _ _
  have ni : NI g' i { n with row := n.row ++ [e] } := {
    path := by
      have z := I2.path _ _ leq
      rw [show ({ L with full := L.full ++ [e] } : Lead).full = n.row ++ [e] by rw [← a3]] at z
      exact z
    low := fun e' he => by
      rcases List.mem_append.mp he with z | z
      · exact hn.low e' z
      · rw [List.mem_singleton.mp z]
        exact Nat.le_of_eq het
    ack0 := fun x q => by
      by_cases z : x = n.term
      · exact Nat.le_of_eq z
      · rw [ane i x (fun w => z w.2)] at q
        exact hn.ack0 x q
    ack := fun x hx k hk Lx hLx => by
      by_cases z : x = n.term
      · subst z
        rw [leq] at hLx
        cases hLx
        left
        show (L.full ++ [e]).take k <+: n.row ++ [e]
        rw [a3]
        exact take_pre _ _
      · have up : AckP g' i n.term n.term n.row := by
          refine AckP.up h.gi le (fun y hy => ane i y (by omega)) ?_
          intro y hy
          exact hn.ack y (by omega)
        exact (up.more pe) x (by
          have hx' : x < n.term + 1 := hx
          omega) k hk Lx hLx
    vote0 := fun t q => by rw [vt]; exact hn.vote0 t q
    vote := by rw [vt]; exact hn.vote
    cand0 := fun t q => by rw [ct]; exact hn.cand0 t q
    lead0 := fun t L' q w => by
      by_cases z : t = n.term
      · exact Nat.le_of_eq z
      · rw [lne t z] at q
        exact hn.lead0 t L' q w
    cand := fun q => by
      have q' : n.role = 1 := q
      rw [hr] at q'
      cases q'
    ledr := fun _ => by
      refine ⟨_, leq, a2, (by show L.full ++ [e] = _; rw [a3]), ?_, fun j hj => Nat.le_trans (a5 j hj) (le.ack _ _), a6, a7, fun j hj => ?_⟩
      · show (n.row ++ [e]).length ≤ g'.ack i n.term
        rw [aeq, List.length_append]
        show n.row.length + 1 ≤ _
        omega
      · have := a8 j hj
        show 1 ≤ n.next.getD j 1 ∧ n.next.getD j 1 ≤ (n.row ++ [e]).length + 1
        rw [List.length_append]
        exact ⟨this.1, by omega⟩
    done := (hn.done.up h.gi le (Nat.le_refl _)).pre pe }
  refine ⟨g', le, { gi := I2, ni := fun j hj => ?_, vr := fun v t c' q => ?_, mi := fun x q => (h.mi x q).up h.gi le }, ni⟩
  · by_cases z : j = i
    · subst z
      rw [setn_eq]
      exact ni
    · rw [setn_ne z]
      refine (h.ni j hj).up h.gi le (fun x => ane j x fun w => z w.1) (fun t => by rw [vt]) (fun t => by rw [ct]) (fun t L' q w => ?_) (fun q L' w => ?_)
      · by_cases y : t = n.term
        · subst y
          rw [leq] at q
          cases q
          exact absurd (w.symm.trans a2) z
        · rw [lne t y] at q
          exact q
      · by_cases y : (nd j).term = n.term
        · rw [y, leq] at w
          cases w
          exact fun v => z (v.symm.trans a2)
        · rw [lne _ y] at w
          exact ((h.ni j hj).cand q).2.2.1 L' w
  · rw [vt] at q
    exact h.vr.up h.gi le (fun v t c q x hx => by
      by_cases w : v = i ∧ x = n.term
      · obtain ⟨w1, w2⟩ := w
        subst w1 w2
        rw [hn.vote0 t hx] at q
        cases q
      · exact ane v x w) q
/-- a leader's commit index advances -/
theorem Inv.advance_ (h : Inv nd ls g) (hi : i < 5) (hn : NI g i n) (hr : n.role = 2) {d : Nat} (h1 : 0 < d) (h2 : d ≤ n.row.length) (h3 : termAt n.row d = n.term)
    (hm : maj (cfg g.first n.row) fun j => j == i || decide (d ≤ n.has.getD j 0)) :
    ∃ g', Le g g' ∧ Inv (setn nd i { n with done := d }) ls g' ∧ NI g' i { n with done := d } := by
  obtain ⟨L, a1, a2, a3, a4, a5, a6, a7, a8⟩ := hn.ledr hr
  have hpre : L.pre.length < d := by
    apply Classical.byContradiction
    intro z
    obtain ⟨e, he⟩ := get_of_lt (l := n.row) (i := d - 1) (by omega)
    have := termAt_get he
    rw [show d - 1 + 1 = d by omega, h3] at this
    rw [← a3] at he
    have := h.gi.pre_lt _ L a1 e (get_mem (pre_back (h.gi.ext _ L a1) he (by omega)))
    omega
  have hm2 : maj (cfg g.first (L.full.take n.row.length)) fun v => decide (d ≤ g.ack v n.term) := by
    rw [a3, List.take_of_length_le (Nat.le_refl _)]
    refine maj_up (fun v v5 hv => ?_) hm
    rcases (Bool.or_eq_true _ _).mp hv with z | z
    · have z' : v = i := eq_of_beq z
      subst z'
      exact decide_eq_true (by omega)
    · have := of_decide_eq_true z
      have := a5 v v5
      exact decide_eq_true (by omega)
  have I2 := gi_comd h.gi n.term d n.row.length a1 hpre h2 (by rw [a3]; exact Nat.le_refl _) hm2
  have le := le_comd (g := g) n.term d n.row.length
  have ni : NI (g.comd n.term d n.row.length) i { n with done := d } := {
    path := hn.path.up le
    low := hn.low
    ack0 := hn.ack0
    ack := hn.ack.up h.gi le fun _ _ => rfl
    vote0 := hn.vote0
    vote := hn.vote
    cand0 := hn.cand0
    lead0 := hn.lead0
    cand := hn.cand
    ledr := hn.ledr
    done := .inr ⟨n.term, d, n.row.length, L, .inr ⟨rfl, rfl, rfl⟩, Nat.le_refl _, a1, Nat.le_refl _, by rw [a3]; exact take_pre _ _⟩ }
  refine ⟨_, le, { gi := I2, ni := fun j hj => ?_, vr := fun v t c' q => h.vr.up h.gi le (fun _ _ _ _ _ _ => rfl) q, mi := fun x q => (h.mi x q).up h.gi le }, ni⟩
  by_cases z : j = i
  · subst z
    rw [setn_eq]
    exact ni
  · rw [setn_ne z]
    exact (h.ni j hj).up h.gi le (fun _ => rfl) (fun _ => rfl) (fun _ => rfl) (fun _ _ q _ => q) (fun q L w => ((h.ni j hj).cand q).2.2.1 L w)
theorem getD_rep {x a j d : Nat} (hj : j < x) : (List.replicate x a).getD j d = a := by
  rw [List.getD_eq_getElem?_getD, List.getElem?_replicate, if_pos hj]
  rfl
/-- a candidate becomes the leader -/
theorem Inv.lead_ (h : Inv nd ls g) (hi : i < 5) (hn : NI g i n) (hr : n.role = 1) (hm : maj (cfg g.first n.row) fun v => n.votes.contains v) :
    ∃ g', Le g g' ∧ Inv (setn nd i { n with role := 2, votes := [], next := List.replicate 5 (n.row.length + 1), has := List.replicate 5 0 }) ls g' ∧
      NI g' i { n with role := 2, votes := [], next := List.replicate 5 (n.row.length + 1), has := List.replicate 5 0 } := by
  obtain ⟨c1, c2, c3, c4, c5⟩ := hn.cand hr
  have hq : ∀ v, v < 5 → n.votes.contains v = true → g.vote v n.term = some i ∧ ∃ V, Path g V ∧ upTo V n.row ∧ AckP g v n.term n.term V := fun v v5 hv => by
    have z := c2 v (by simpa using hv)
    obtain ⟨R, b1, b2, b3, b4⟩ := h.vr v _ i z
    rw [c1] at b1
    cases b1
    exact ⟨z, _, b2, b3, b4⟩
  have no : g.lead n.term = none := by
    cases e : g.lead n.term with
    | none => rfl
    | some L =>
      exfalso
      obtain ⟨v, v5, hv, w⟩ := es h.gi e hn.path c4 hm fun v v5 hv => (hq v v5 hv).2
      rw [(hq v v5 hv).1] at w
      cases w
      exact c3 L e rfl
  have I1 := gi_new h.gi (i := i) no c5 hn.path c4 ⟨_, hm, fun v v5 hv => by
    obtain ⟨z, V, b1, b2, b3⟩ := hq v v5 hv
    refine ⟨z, V, b1, b2, fun x hx k hk Lx hLx => ?_⟩
    rcases b3 x hx k hk Lx hLx with a | ⟨s, Ls, d1, d2, d3, d4⟩
    · exact .inl a
    · refine .inr ⟨s, Ls, d1, ?_, d3, d4⟩
      have : s ≠ n.term := fun w => by
        rw [w, no] at d3
        cases d3
      omega⟩
  have le1 := le_new (g := g) n.term ⟨i, n.row, n.row⟩ no
  have l1 : (g.put n.term ⟨i, n.row, n.row⟩).lead n.term = some ⟨i, n.row, n.row⟩ := put_eq
  have hv : ∀ T, n.term < T → (g.put n.term ⟨i, n.row, n.row⟩).vote i T = none := hn.vote0
  have I2 := gi_acked I1 i n.term n.row.length hv l1 (Nat.le_refl _)
  have le2 := le_acked (g := g.put n.term ⟨i, n.row, n.row⟩) i n.term n.row.length
  have le := le1.trans le2
  have ane : ∀ v x, ¬ (v = i ∧ x = n.term) → ((g.put n.term ⟨i, n.row, n.row⟩).acked i n.term n.row.length).ack v x = g.ack v x := fun v x q => acked_ne q
  have aeq : ((g.put n.term ⟨i, n.row, n.row⟩).acked i n.term n.row.length).ack i n.term = max (g.ack i n.term) n.row.length := acked_eq
  have lne : ∀ x, x ≠ n.term → ((g.put n.term ⟨i, n.row, n.row⟩).acked i n.term n.row.length).lead x = g.lead x := fun x q => put_ne q
  have leq : ((g.put n.term ⟨i, n.row, n.row⟩).acked i n.term n.row.length).lead n.term = some ⟨i, n.row, n.row⟩ := put_eq
  have vt : ((g.put n.term ⟨i, n.row, n.row⟩).acked i n.term n.row.length).vote = g.vote := rfl
  have ct : ((g.put n.term ⟨i, n.row, n.row⟩).acked i n.term n.row.length).cand = g.cand := rfl
  generalize (g.put n.term ⟨i, n.row, n.row⟩).acked i n.term n.row.length = g' at *
  have ni : NI g' i { n with role := 2, votes := [], next := List.replicate 5 (n.row.length + 1), has := List.replicate 5 0 } := {
    path := hn.path.up le
    low := hn.low
    ack0 := fun x q => by
      by_cases z : x = n.term
      · exact Nat.le_of_eq z
      · rw [ane i x (fun w => z w.2)] at q
        exact hn.ack0 x q
    ack := fun x hx k hk Lx hLx => by
      by_cases z : x = n.term
      · subst z
        rw [leq] at hLx
        cases hLx
        exact .inl (take_pre _ _)
      · have up : AckP g' i n.term n.term n.row := by
          refine AckP.up h.gi le (fun y hy => ane i y (by omega)) ?_
          intro y hy
          exact hn.ack y (by omega)
        exact up x (by
          have hx' : x < n.term + 1 := hx
          omega) k hk Lx hLx
    vote0 := fun t q => by rw [vt]; exact hn.vote0 t q
    vote := by rw [vt]; exact hn.vote
    cand0 := fun t q => by rw [ct]; exact hn.cand0 t q
    lead0 := fun t L' q w => by
      by_cases z : t = n.term
      · exact Nat.le_of_eq z
      · rw [lne t z] at q
        exact hn.lead0 t L' q w
    cand := fun q => nomatch q
    ledr := fun _ => by
      refine ⟨_, leq, rfl, rfl, ?_, fun j hj => ?_, List.length_replicate, List.length_replicate, fun j hj => ?_⟩
      · show n.row.length ≤ g'.ack i n.term
        rw [aeq]
        omega
      · show (List.replicate 5 0).getD j 0 ≤ _
        rw [getD_rep hj]
        exact Nat.zero_le _
      · show 1 ≤ (List.replicate 5 (n.row.length + 1)).getD j 1 ∧ (List.replicate 5 (n.row.length + 1)).getD j 1 ≤ n.row.length + 1
        rw [getD_rep hj]
        omega
    done := hn.done.up h.gi le (Nat.le_refl _) }
  refine ⟨g', le, { gi := I2, ni := fun j hj => ?_, vr := fun v t c' q => ?_, mi := fun x q => (h.mi x q).up h.gi le }, ni⟩
  · by_cases z : j = i
    · subst z
      rw [setn_eq]
      exact ni
    · rw [setn_ne z]
      refine (h.ni j hj).up h.gi le (fun x => ane j x fun w => z w.1) (fun t => by rw [vt]) (fun t => by rw [ct]) (fun t L' q w => ?_) (fun q L' w => ?_)
      · by_cases y : t = n.term
        · subst y
          rw [leq] at q
          cases q
          exact absurd w.symm z
        · rw [lne t y] at q
          exact q
      · by_cases y : (nd j).term = n.term
        · rw [y, leq] at w
          cases w
          exact fun v => z v.symm
        · rw [lne _ y] at w
          exact ((h.ni j hj).cand q).2.2.1 L' w
  · rw [vt] at q
    exact h.vr.up h.gi le (fun v t c q x hx => by
      by_cases w : v = i ∧ x = n.term
      · obtain ⟨w1, w2⟩ := w
        subst w1 w2
        rw [hn.vote0 t hx] at q
        cases q
      · exact ane v x w) q

/-! ### a follower takes entries -/
theorem take_succ_eq {l m : Log} {a : Nat} (h : l.take a = m.take a) (e : l[a]? = m[a]?) : l.take (a + 1) = m.take (a + 1) := by
  rw [List.take_add_one, List.take_add_one, h, e]
/-- two paths with the same term at a position are the same up to there -/
theorem same_at (I : GI g) {l m : Log} (hl : Path g l) (hm : Path g m) {a : Nat} {e f : Entry} (he : l[a]? = some e) (hf : m[a]? = some f) (ht : e.term = f.term) : l.take (a + 1) = m.take (a + 1) := by
  obtain ⟨L, a1, a2⟩ := hl a e he
  obtain ⟨L', b1, b2⟩ := hm a f hf
  rw [ht, b1] at a1
  cases a1
  have l1 := get_lt he
  have l2 := get_lt hf
  exact (pre_of_le a2 b2 (by rw [len_take_le (by omega), len_take_le (by omega)]; omega)).eq_of_length (by rw [len_take_le (by omega), len_take_le (by omega)])
theorem takeIn_ways (I : GI g) {l F : Log} (hl : Path g l) (hF : Path g F) : ∀ (es : Log) (a : Nat), a ≤ l.length → l.take a = F.take a → F.take a ++ es <+: F →
    (takeIn l a es = l ∧ F.take (a + es.length) <+: l) ∨ (takeIn l a es = F.take (a + es.length) ∧ ∃ m, m ≤ a + es.length ∧ ¬ F.take m <+: l)
  | [], a, ha, e, h => by
    left
    refine ⟨rfl, ?_⟩
    show F.take (a + 0) <+: l
    rw [Nat.add_zero, ← e]
    exact take_pre _ _
  | x :: r, a, ha, e, h => by
    have hlen : (F.take a).length = a := by rw [← e]; exact len_take_le ha
    have hx : F[a]? = some x := by
      refine pre_get h ?_
      rw [List.getElem?_append_right (by omega), hlen, Nat.sub_self]
      rfl
    have whole : F.take a ++ x :: r = F.take (a + (x :: r).length) := by
      rw [pre_take h, List.length_append, hlen]
    by_cases c : (l[a]?.map fun (y : Entry) => y.term) = some x.term
    · have e0 : takeIn l a (x :: r) = takeIn l (a + 1) r := if_pos c
      rw [e0]
      cases q : l[a]? with
      | none =>
        rw [q] at c
        cases c
      | some y =>
        rw [q] at c
        have ht : y.term = x.term := Option.some.inj c
        have e1 := same_at I hl hF q hx ht
        have hl1 := get_lt q
        have e2 : F.take (a + 1) ++ r = F.take a ++ x :: r := by
          rw [take_succ_get hx, List.append_assoc]
          rfl
        have ih := takeIn_ways I hl hF r (a + 1) (by omega) e1 (by rw [e2]; exact h)
        rw [show a + 1 + r.length = a + (x :: r).length by rw [List.length_cons]; omega] at ih
        exact ih
    · right
      have e0 : takeIn l a (x :: r) = l.take a ++ x :: r := if_neg c
      rw [e0, e, whole]
      refine ⟨rfl, a + 1, by rw [List.length_cons]; omega, fun q => c ?_⟩
      have z : (F.take (a + 1))[a]? = some x := by
        rw [List.getElem?_take_of_lt (by omega)]
        exact hx
      rw [pre_get q z]
      rfl
theorem take_eq_of_term (I : GI g) {l F : Log} (hl : Path g l) (hF : Path g F) {a : Nat} (h1 : a ≤ l.length) (h2 : a ≤ F.length) (ht : termAt l a = termAt F a) : l.take a = F.take a := by
  cases a with
  | zero => rw [List.take_zero, List.take_zero]
  | succ a =>
    obtain ⟨e, he⟩ := get_of_lt (l := l) (i := a) (by omega)
    obtain ⟨f, hf⟩ := get_of_lt (l := F) (i := a) (by omega)
    rw [termAt_get he, termAt_get hf] at ht
    exact same_at I hl hF he hf ht
theorem Inv.took_ (h : Inv nd ls g) (hi : i < 5) (hn : NI g i n) (hr : n.role = 0) {L : Lead} (hL : g.lead n.term = some L) {a c : Nat} {es : Log} (ha : a ≤ L.full.length) (hes : L.full.take a ++ es <+: L.full)
    (hc : Comm g n.term c L.full) (h1 : a ≤ n.row.length) (h2 : termAt n.row a = termAt L.full a) :
    ∃ g', Le g g' ∧ Inv (setn nd i { n with row := takeIn n.row a es, done := max n.done (min c (a + es.length)) }) ls g' ∧ a + es.length ≤ g'.ack i n.term := by
  have pF := h.gi.path _ L hL
  have lenF : a + es.length ≤ L.full.length := by
    have := pre_len hes
    rw [List.length_append, len_take_le ha] at this
    exact this
  have ways := takeIn_ways h.gi hn.path pF es a h1 (take_eq_of_term h.gi hn.path pF h1 ha h2) hes
  have hv : ∀ T, n.term < T → g.vote i T = none := hn.vote0
  have I2 := gi_acked h.gi i n.term (a + es.length) hv hL lenF
  have le := le_acked (g := g) i n.term (a + es.length)
  have keep := acked_keep (k := a + es.length) hv
  have ane : ∀ v x, ¬ (v = i ∧ x = n.term) → (g.acked i n.term (a + es.length)).ack v x = g.ack v x := fun v x q => acked_ne q
  have aeq : (g.acked i n.term (a + es.length)).ack i n.term = max (g.ack i n.term) (a + es.length) := acked_eq
  have ldt : (g.acked i n.term (a + es.length)).lead = g.lead := rfl
  have vt : (g.acked i n.term (a + es.length)).vote = g.vote := rfl
  have ct : (g.acked i n.term (a + es.length)).cand = g.cand := rfl
  have cm : (g.acked i n.term (a + es.length)).com = g.com := rfl
  -- what the log that is taken keeps
  have keepL : ∀ D : Log, D <+: L.full → D <+: n.row → D <+: takeIn n.row a es := fun D d1 d2 => by
    rcases ways with ⟨w, _⟩ | ⟨w, m, wm, wn⟩
    · rw [w]
      exact d2
    · rw [w]
      rcases Nat.lt_or_ge (a + es.length) D.length with z | z
      · exfalso
        apply wn
        exact (pre_of_le (take_pre L.full m) d1 (by rw [len_take_le (by omega)]; omega)).trans d2
      · exact pre_of_le d1 (take_pre _ _) (by rw [len_take_le lenF]; exact z)
  have got : L.full.take (a + es.length) <+: takeIn n.row a es := by
    rcases ways with ⟨w, w2⟩ | ⟨w, _⟩
    · rw [w]
      exact w2
    · rw [w]
      exact List.prefix_refl _
  have pth : Path g (takeIn n.row a es) := by
    rcases ways with ⟨w, w2⟩ | ⟨w, _⟩
    · rw [w]
      exact hn.path
    · rw [w]
      exact pF.pre (take_pre _ _)
  have ackR : AckP g i (n.term + 1) n.term (takeIn n.row a es) := fun x hx k hk Lx hLx => by
    rcases hn.ack x hx k hk Lx hLx with q | q
    · by_cases hxt : x = n.term
      · subst hxt
        rw [hL] at hLx
        cases hLx
        exact .inl (keepL _ (take_pre _ _) q)
      · by_cases hp : Lx.full.take k <+: L.pre
        · exact .inl (keepL _ (hp.trans (h.gi.ext _ L hL)) q)
        · exact .inr ⟨n.term, L, by omega, Nat.le_refl _, hL, hp⟩
    · exact .inr q
  have doneR : Comm g n.term n.done (takeIn n.row a es) := by
    rcases hn.done with z | ⟨x, k, m, Lx, d1, d2, d3, d4, d5⟩
    · exact .inl z
    · refine .inr ⟨x, k, m, Lx, d1, d2, d3, d4, keepL _ ?_ d5⟩
      by_cases hxt : x = n.term
      · subst hxt
        rw [hL] at d3
        cases d3
        exact take_pre _ _
      · have z := lc h.gi _ L hL x (by omega) k m d1 Lx d3
        exact ((take_take_pre _ d4).trans z).trans (h.gi.ext _ L hL)
  have doneM : Comm g n.term (max n.done (min c (a + es.length))) (takeIn n.row a es) := by
    rcases Nat.le_total (min c (a + es.length)) n.done with z | z
    · rw [Nat.max_eq_left z]
      exact doneR
    · rw [Nat.max_eq_right z]
      rcases hc with y | ⟨x, k, m, Lx, d1, d2, d3, d4, d5⟩
      · subst y
        exact .inl (by omega)
      · refine .inr ⟨x, k, m, Lx, d1, d2, d3, by omega, ?_⟩
        have y1 : Lx.full.take (min c (a + es.length)) <+: L.full := (take_take_pre _ (by omega)).trans d5
        exact (pre_of_le y1 (take_pre L.full (a + es.length)) (by rw [len_take_le lenF, List.length_take]; omega)).trans got
  generalize hgg : g.acked i n.term (a + es.length) = g' at *
  refine ⟨g', le, { gi := I2, ni := fun j hj => ?_, vr := fun v t c' q => ?_, mi := fun x q => (h.mi x q).up h.gi le }, by rw [aeq]; omega⟩
  · by_cases z : j = i
    · subst z
      rw [setn_eq]
      exact {
        path := pth.up le
        low := fun e he => by
          have he' : e ∈ takeIn n.row a es := he
          rcases ways with ⟨w, w2⟩ | ⟨w, _⟩
          · rw [w] at he'
            exact hn.low e he'
          · rw [w] at he'
            exact full_le h.gi hL (pre_mem (take_pre _ _) he')
        ack0 := fun x q => by
          by_cases z : x = n.term
          · exact Nat.le_of_eq z
          · rw [ane j x (fun w => z w.2)] at q
            exact hn.ack0 x q
        ack := fun x hx k hk Lx hLx => by
          by_cases z : x = n.term
          · subst z
            rw [ldt, hL] at hLx
            cases hLx
            rw [aeq] at hk
            rcases Nat.lt_or_ge (a + es.length) k with y | y
            rotate_left
            · exact .inl ((take_take_pre _ y).trans got)
            · rcases ackR n.term (Nat.lt_succ_self _) k (by omega) L hL with q | ⟨s, Ls, d1, d2, d3⟩
              · exact .inl q
              · omega
          · rw [ane j x (fun w => z w.2)] at hk
            rw [ldt] at hLx
            rw [ldt]
            exact ackR x hx k hk Lx hLx
        vote0 := fun t q => by rw [vt]; exact hn.vote0 t q
        vote := by rw [vt]; exact hn.vote
        cand0 := fun t q => by rw [ct]; exact hn.cand0 t q
        lead0 := fun t L' q w => by
          rw [ldt] at q
          exact hn.lead0 t L' q w
        cand := fun q => by
          have q' : n.role = 1 := q
          rw [hr] at q'
          cases q'
        ledr := fun q => by
          have q' : n.role = 2 := q
          rw [hr] at q'
          cases q'
        done := doneM.up h.gi le (Nat.le_refl _) }
    · rw [setn_ne z]
      exact (h.ni j hj).up h.gi le (fun x => ane j x fun w => z w.1) (fun t => by rw [vt]) (fun t => by rw [ct]) (fun t L' q w => by rw [ldt] at q; exact q) (fun q L' w => by rw [ldt] at w; exact ((h.ni j hj).cand q).2.2.1 L' w)
  · rw [vt] at q
    exact h.vr.up h.gi le keep q
end
end Rf
end

section
set_option autoImplicit false
set_option linter.all false
namespace Rf
open Ag12

structure OkG (s : State) (k : Nat) (g : G) : Prop where
  len : s.nodes.length = 5
  first : g.first = s.first
  inv : Inv (node s) s.letters g
  told : ∀ i, i < 5 → (node s i).done ≤ s.told.length
  room : s.letters.length ≤ 100
  kind : ∀ x, x ∈ s.letters → x.kind ≤ 3 ∧ x.a + x.entries.length ≤ k
  row : ∀ i, i < 5 → (node s i).row.length ≤ k ∧ (node s i).votes.length ≤ k
  toldk : s.told.length ≤ k
  ledk : s.led.length ≤ k

theorem node_setNode {s : State} {i : Nat} (n : Node) (h : i < s.nodes.length) : node (setNode s i n) = setn (node s) i n := by
  funext j
  have e : (setNode s i n).nodes = s.nodes.set i n := by
    unfold setNode
    dsimp only
    split <;> rfl
  unfold node
  rw [e, List.getD_eq_getElem?_getD, List.getElem?_set]
  unfold setn
  by_cases c : i = j
  · subst c
    rw [if_pos rfl, if_pos h, if_pos rfl]
    rfl
  · rw [if_neg c, if_neg (fun z => c z.symm)]
    exact List.getD_eq_getElem?_getD.symm
theorem setNode_letters (s : State) (i : Nat) (n : Node) : (setNode s i n).letters = s.letters := by
  unfold setNode
  dsimp only
  split <;> rfl
theorem setNode_first (s : State) (i : Nat) (n : Node) : (setNode s i n).first = s.first := by
  unfold setNode
  dsimp only
  split <;> rfl
theorem setNode_led (s : State) (i : Nat) (n : Node) : (setNode s i n).led = s.led := by
  unfold setNode
  dsimp only
  split <;> rfl
theorem setNode_len (s : State) (i : Nat) (n : Node) : (setNode s i n).nodes.length = s.nodes.length := by
  unfold setNode
  dsimp only
  split <;> simp
theorem setNode_told (s : State) (i : Nat) (n : Node) : (setNode s i n).told = if s.told.length < n.done then n.row.take n.done else s.told := by
  unfold setNode
  dsimp only
  split <;> rfl
theorem setn_setn {nd : Nat → Node} {i : Nat} {n m : Node} : setn (setn nd i n) i m = setn nd i m := by
  funext j
  unfold setn
  split <;> rfl
theorem setn_self {nd : Nat → Node} {i : Nat} : setn nd i (nd i) = nd := by
  funext j
  unfold setn
  split
  · rename_i c
    rw [c]
  · rfl
section
variable {s : State} {k : Nat} {g g' : G} {i : Nat} {n : Node}
theorem OkG.set (h : OkG s k g) (hi : i < 5) (hg : g'.first = g.first) (hI : Inv (setn (node s) i n) s.letters g') (h1 : n.row.length ≤ k) (h2 : n.votes.length ≤ k) : OkG (setNode s i n) k g' := by
  have hl : i < s.nodes.length := by rw [h.len]; exact hi
  have hd : n.done ≤ n.row.length := by
    have z := (hI.ni i hi)
    rw [setn_eq] at z
    exact z.done.len hI.gi
  exact {
    len := by rw [setNode_len]; exact h.len
    first := by rw [setNode_first, hg]; exact h.first
    inv := by
      rw [node_setNode n hl, setNode_letters]
      exact hI
    told := fun j hj => by
      rw [node_setNode n hl, setNode_told]
      have h3 := h.told j hj
      by_cases c : j = i
      · subst c
        rw [setn_eq]
        split
        · rw [List.length_take]
          omega
        · omega
      · rw [setn_ne c]
        split
        · rw [List.length_take]
          omega
        · exact h3
    room := by rw [setNode_letters]; exact h.room
    kind := by rw [setNode_letters]; exact h.kind
    row := fun j hj => by
      rw [node_setNode n hl]
      by_cases c : j = i
      · subst c
        rw [setn_eq]
        exact ⟨h1, h2⟩
      · rw [setn_ne c]
        exact h.row j hj
    toldk := by
      rw [setNode_told]
      split
      · rw [List.length_take]
        omega
      · exact h.toldk
    ledk := by rw [setNode_led]; exact h.ledk }
theorem OkG.send (h : OkG s k g) {l : List Letter} (hl : ∀ x, x ∈ l → MI g x ∧ x.kind ≤ 3 ∧ x.a + x.entries.length ≤ k) : OkG (send s l) k g where
  len := h.len
  first := h.first
  inv := h.inv.msgs fun x hx => by
    have := List.mem_of_mem_take hx
    rcases List.mem_append.mp this with z | z
    · exact .inl z
    · exact .inr (hl x z).1
  told := h.told
  room := by
    show ((s.letters ++ l).take ROOM).length ≤ 100
    rw [List.length_take]
    show min 100 _ ≤ 100
    omega
  kind := fun x hx => by
    have := List.mem_of_mem_take hx
    rcases List.mem_append.mp this with z | z
    · exact h.kind x z
    · exact (hl x z).2
  row := h.row
  toldk := h.toldk
  ledk := h.ledk
theorem OkG.more (h : OkG s k g) {k' : Nat} (hk : k ≤ k') : OkG s k' g where
  len := h.len
  first := h.first
  inv := h.inv
  told := h.told
  room := h.room
  kind := fun x hx => ⟨(h.kind x hx).1, Nat.le_trans (h.kind x hx).2 hk⟩
  row := fun i hi => ⟨Nat.le_trans (h.row i hi).1 hk, Nat.le_trans (h.row i hi).2 hk⟩
  toldk := Nat.le_trans h.toldk hk
  ledk := Nat.le_trans h.ledk hk
theorem OkG.fewer (h : OkG s k g) (j : Nat) : OkG { s with letters := s.letters.eraseIdx j } k g where
  len := h.len
  first := h.first
  inv := h.inv.msgs fun x hx => .inl (List.mem_of_mem_eraseIdx hx)
  told := h.told
  room := by
    show (s.letters.eraseIdx j).length ≤ 100
    have := List.length_eraseIdx_le s.letters j
    have := h.room
    omega
  kind := fun x hx => h.kind x (List.mem_of_mem_eraseIdx hx)
  row := h.row
  toldk := h.toldk
  ledk := h.ledk

theorem foldl_max : ∀ (l : List Nat) (a : Nat), l.foldl max a = a ∨ (l.foldl max a ∈ l)
  | [], a => .inl rfl
  | x :: r, a => by
    show r.foldl max (max a x) = a ∨ r.foldl max (max a x) ∈ x :: r
    rcases foldl_max r (max a x) with z | z
    · rw [z]
      rcases Nat.le_total a x with y | y
      · rw [Nat.max_eq_right y]
        exact .inr List.mem_cons_self
      · rw [Nat.max_eq_left y]
        exact .inl rfl
    · exact .inr (List.mem_cons_of_mem _ z)
theorem most_maj {m : Nat} {l : List Nat} (h : most m l = true) : maj m fun v => l.contains v := by
  unfold most at h
  have z := of_decide_eq_true h
  unfold maj
  exact z
theorem far_ways (s : State) (i : Nat) (n : Node) : far s i n = n.done ∨ (n.done < far s i n ∧ far s i n ≤ n.row.length ∧ termAt n.row (far s i n) = n.term ∧
    maj (members s n) fun j => j == i || decide (far s i n ≤ n.has.getD j 0)) := by
  have h := foldl_max ((List.range (n.row.length + 1)).filter fun (k : Nat) => decide (n.done < k) && (termAt n.row k == n.term && most (members s n) ((List.range NODES).filter fun (j : Nat) => j == i || decide (k ≤ n.has.getD j 0)))) n.done
  change far s i n = n.done ∨ far s i n ∈ _ at h
  rcases h with h | h
  · exact .inl h
  · right
    generalize far s i n = d at h
    obtain ⟨h1, h2⟩ := List.mem_filter.mp h
    have h3 := List.mem_range.mp h1
    rw [Bool.and_eq_true, Bool.and_eq_true] at h2
    refine ⟨of_decide_eq_true h2.1, by omega, eq_of_beq h2.2.1, maj_up (fun v v5 hv => ?_) (most_maj h2.2.2)⟩
    have hv' : v ∈ (List.range NODES).filter fun (j : Nat) => j == i || decide (d ≤ n.has.getD j 0) := by simpa using hv
    exact (List.mem_filter.mp hv').2
theorem listOf_lt {m j : Nat} (h : j ∈ listOf m) : j < 5 := List.mem_range.mp (List.mem_filter.mp h).1
theorem adv_ (hI : Inv (setn (node s) i n) s.letters g) (hf : g.first = s.first) (hi : i < 5) (hn : NI g i n) (hr : n.role = 2) :
    ∃ g', Le g g' ∧ Inv (setn (node s) i { n with done := far s i n }) s.letters g' ∧ NI g' i { n with done := far s i n } := by
  rcases far_ways s i n with h | ⟨h1, h2, h3, h4⟩
  · rw [h]
    exact ⟨g, Le.refl g, hI, hn⟩
  · have := hI.advance_ hi hn hr (d := far s i n) (by omega) h2 h3 (by rw [hf]; exact h4)
    rw [setn_setn] at this
    exact this
theorem beats_ok (hf : g.first = s.first) (hi : i < 5) (hn : NI g i n) (hr : n.role = 2) {x : Letter} (hx : x ∈ beats s i n) : MI g x ∧ x.kind ≤ 3 ∧ x.a + x.entries.length ≤ n.row.length := by
  obtain ⟨L, a1, a2, a3, a4, a5, a6, a7, a8⟩ := hn.ledr hr
  obtain ⟨j, hj, rfl⟩ := List.mem_map.mp hx
  have j5 := listOf_lt (List.mem_filter.mp hj).1
  have b := a8 j j5
  have hk : n.next.getD j 1 - 1 ≤ n.row.length := by omega
  unfold nextLetter
  refine ⟨⟨j5, hi, fun q => (nomatch q), fun q => (nomatch q), fun _ => ⟨L, a1, ?_, ?_, ?_, ?_⟩, fun q => (nomatch q)⟩, by show 2 ≤ 3; omega, ?_⟩
  · rw [a3]
    exact hk
  · rw [a3]
    show n.row.take (n.next.getD j 1 - 1) ++ n.row.drop (n.next.getD j 1 - 1) <+: n.row
    rw [List.take_append_drop]
    exact List.prefix_refl _
  · rw [a3]
  · rw [a3]
    exact hn.done
  · show n.next.getD j 1 - 1 + (n.row.drop (n.next.getD j 1 - 1)).length ≤ n.row.length
    rw [List.length_drop]
    omega
/-- a leader adds an entry and advances -/
theorem put_ (hI : Inv (setn (node s) i n) s.letters g) (hf : g.first = s.first) (hi : i < 5) (hn : NI g i n) (hr : n.role = 2) {e : Entry} (het : e.term = n.term)
    (hc : e.sort = 1 → adj (cfg g.first n.row) e.value ∧ ∃ c m, g.com n.term c m ∧ ∀ (j : Nat) (e' : Entry), n.row[j]? = some e' → e'.sort = 1 → j < c) :
    ∃ g', Le g g' ∧ Inv (setn (node s) i { n with row := n.row ++ [e], done := far s i { n with row := n.row ++ [e] } }) s.letters g' ∧
      NI g' i { n with row := n.row ++ [e], done := far s i { n with row := n.row ++ [e] } } := by
  obtain ⟨g1, le1, I1, N1⟩ := hI.append_ hi hn hr het hc
  rw [setn_setn] at I1
  obtain ⟨g2, le2, I2, N2⟩ := adv_ (s := s) I1 (le1.first.trans hf) hi N1 hr
  exact ⟨g2, le1.trans le2, I2, N2⟩
theorem lead_ok {g0 : G} (h : OkG s k g0) (hf : g.first = s.first) (hI : Inv (setn (node s) i n) s.letters g) (hi : i < 5) (hn : NI g i n) (hr : n.role = 1) (hrow : n.row.length ≤ k) (hm : most (members s n) n.votes = true) : ∃ g', OkG (lead s i n) (k + 1) g' := by
  obtain ⟨g1, le1, I1, N1⟩ := hI.lead_ hi hn hr (by rw [hf]; exact most_maj hm)
  rw [setn_setn] at I1
  obtain ⟨g2, le2, I2, N2⟩ := put_ (s := s) I1 (le1.first.trans hf) hi N1 rfl (e := ⟨n.term, 2, 0⟩) rfl (fun q => nomatch q)
  refine ⟨g2, ?_⟩
  have h1 : OkG { s with led := s.led ++ [(n.term, i)] } (k + 1) g0 := {
    len := h.len, first := h.first, inv := h.inv, told := h.told, room := h.room, kind := (h.more (Nat.le_succ k)).kind, row := (h.more (Nat.le_succ k)).row, toldk := (h.more (Nat.le_succ k)).toldk,
    ledk := by
      show (s.led ++ [(n.term, i)]).length ≤ k + 1
      rw [List.length_append]
      exact Nat.succ_le_succ h.ledk }
  have fg : g2.first = g0.first := ((le1.trans le2).first.trans hf).trans h.first.symm
  have h2 := h1.set (g' := g2) (i := i) hi fg I2 (by
    show (n.row ++ [(⟨n.term, 2, 0⟩ : Entry)]).length ≤ k + 1
    rw [List.length_append]
    exact Nat.succ_le_succ hrow) (Nat.zero_le _)
  exact h2.send fun x hx => by
    obtain ⟨b1, b2, b3⟩ := beats_ok (s := s) (fg.trans h.first) hi N2 rfl hx
    refine ⟨b1, b2, Nat.le_trans b3 ?_⟩
    show (n.row ++ [(⟨n.term, 2, 0⟩ : Entry)]).length ≤ k + 1
    rw [List.length_append]
    exact Nat.succ_le_succ hrow
theorem stand_ok (h : OkG s k g) (hi : i < 5) : ∃ g', OkG (stand s i) (k + 1) g' := by
  obtain ⟨g1, le1, I1, c1⟩ := h.inv.stand_ hi (h.inv.ni i hi)
  have N1 := I1.ni i hi
  rw [setn_eq] at N1
  have hr := (h.row i hi).1
  unfold stand
  dsimp only
  split
  · rename_i hm
    exact lead_ok h (le1.first.trans h.first) I1 hi N1 rfl hr hm
  · refine ⟨g1, OkG.send ((h.more (Nat.le_succ k)).set hi le1.first I1 (Nat.le_succ_of_le hr) (by show 1 ≤ k + 1; omega)) fun x hx => ?_⟩
    obtain ⟨j, hj, rfl⟩ := List.mem_map.mp hx
    have j5 := listOf_lt (List.mem_filter.mp hj).1
    exact ⟨⟨j5, hi, fun _ => ⟨_, c1, rfl, rfl⟩, fun q => (nomatch q), fun q => (nomatch q), fun q => (nomatch q)⟩, by show 0 ≤ 3; omega, by show (node s i).row.length + 0 ≤ k + 1; omega⟩
theorem takeIn_len : ∀ (es l : Log) (a : Nat), a ≤ l.length → (takeIn l a es).length ≤ max l.length (a + es.length)
  | [], l, a, h => by
    show l.length ≤ _
    omega
  | x :: r, l, a, h => by
    by_cases c : (l[a]?.map fun (y : Entry) => y.term) = some x.term
    · have e0 : takeIn l a (x :: r) = takeIn l (a + 1) r := if_pos c
      rw [e0]
      have hl : a < l.length := by
        cases q : l[a]? with
        | none => rw [q] at c; cases c
        | some y => exact get_lt q
      have := takeIn_len r l (a + 1) (by omega)
      rw [List.length_cons]
      omega
    · have e0 : takeIn l a (x :: r) = l.take a ++ x :: r := if_neg c
      rw [e0, List.length_append, List.length_take]
      omega
theorem hear_row (n : Node) (t : Nat) : (hear n t).row = n.row ∧ (hear n t).votes.length ≤ n.votes.length ∧ (hear n t).done = n.done := by
  unfold hear
  split
  · exact ⟨rfl, Nat.zero_le _, rfl⟩
  · exact ⟨rfl, Nat.le_refl _, rfl⟩
theorem hear_term (n : Node) (t : Nat) : (hear n t).term = max n.term t := by
  unfold hear
  split
  · show t = _
    omega
  · omega
theorem reply_ok {i j t b : Nat} (hi : i < 5) (hj : j < 5) : MI g ⟨3, j, i, t, 0, b, false, [], 0⟩ := ⟨hj, hi, fun q => (nomatch q), fun q => (nomatch q), fun q => (nomatch q), fun _ q => (nomatch q)⟩
theorem hand_ok (h : OkG s k g) {x : Letter} (hx : MI g x) (hk : x.kind ≤ 3 ∧ x.a + x.entries.length ≤ k) : ∃ g', OkG (hand s x).1 (k + 1) g' := by
  have hi := hx.to5
  have hN := h.inv.ni x.to_ hi
  have hH := hN.hear x.term
  have hrow := h.row x.to_ hi
  obtain ⟨r1, r2, r3⟩ := hear_row (node s x.to_) x.term
  have h' := h.more (Nat.le_succ k)
  unfold hand
  dsimp only
  by_cases hup : (node s x.to_).up = false
  · rw [if_pos hup]
    exact ⟨g, h'⟩
  · rw [if_neg hup]
    have hear_id : ¬ (node s x.to_).term < x.term → hear (node s x.to_) x.term = node s x.to_ := fun q => by
      unfold hear
      rw [if_neg q]
    split
    · -- a vote request
      rename_i hkind
      obtain ⟨R, c1, c2, c3⟩ := hx.k0 hkind
      generalize hn : hear (node s x.to_) x.term = n at *
      by_cases hy : (x.term == n.term && ((n.voted.isNone || n.voted == some x.from_) && (decide (lastTerm n < x.b) || (lastTerm n == x.b && decide (n.row.length ≤ x.a))))) = true
      · rw [hy, if_pos rfl]
        rw [Bool.and_eq_true, Bool.and_eq_true, Bool.or_eq_true, Bool.or_eq_true, Bool.and_eq_true] at hy
        obtain ⟨y1, y2, y3⟩ := hy
        have y1 := eq_of_beq y1
        have hu : upTo n.row R := by
          rcases y3 with y3 | ⟨y3, y4⟩
          · left
            have := of_decide_eq_true y3
            rw [← c3]
            exact this
          · right
            have a1 := eq_of_beq y3
            have a2 := of_decide_eq_true y4
            exact ⟨by rw [← c3]; exact a1, by omega⟩
        have fin : ∀ g', Le g g' → Inv (setn (node s) x.to_ { n with voted := some x.from_ }) s.letters g' → g'.vote x.to_ n.term = some x.from_ →
            OkG (send (setNode s x.to_ { n with voted := some x.from_ }) [⟨1, x.from_, x.to_, n.term, 0, 0, true, [], 0⟩]) (k + 1) g' := fun g' le I' hv =>
          OkG.send (h'.set hi le.first I' (by rw [r1]; omega) (by show n.votes.length ≤ _; omega)) fun z hz => by
            rw [List.mem_singleton.mp hz]
            exact ⟨⟨hx.from5, hi, fun q => (nomatch q), fun _ _ => hv, fun q => (nomatch q), fun q => (nomatch q)⟩, by show 1 ≤ 3; omega, by show 0 + 0 ≤ _; omega⟩
        rcases y2 with y2 | y2
        · have hvn : n.voted = none := by
            cases e : n.voted with
            | none => rfl
            | some v =>
              rw [e] at y2
              cases y2
          obtain ⟨I', hv⟩ := h.inv.vote_ hi hH hvn (by rw [← y1]; exact c1) hu
          exact ⟨_, fin _ (le_voted _ _ _ _ (hH.vote.trans hvn)) I' hv⟩
        · have y2 := eq_of_beq y2
          have e : { n with voted := some x.from_ } = n := by rw [← y2]
          refine ⟨g, fin g (Le.refl g) ?_ ?_⟩
          · rw [e]
            exact h.inv.same hH
          · rw [hH.vote]
            exact y2
      · rw [if_neg hy]
        refine ⟨g, OkG.send (h'.set hi rfl (h.inv.same hH) (by rw [r1]; omega) (by omega)) fun z hz => ?_⟩
        rw [List.mem_singleton.mp hz]
        exact ⟨⟨hx.from5, hi, fun q => (nomatch q), fun _ q => absurd q hy, fun q => (nomatch q), fun q => (nomatch q)⟩, by show 1 ≤ 3; omega, by show 0 + 0 ≤ _; omega⟩
    · -- a vote reply
      rename_i hkind
      split
      · exact ⟨g, h'.set hi rfl (h.inv.same hH) (by rw [r1]; omega) (by omega)⟩
      · rename_i ht
        rw [hear_id ht]
        split
        · exact ⟨g, h'⟩
        · rename_i hc
          have c1 : (node s x.to_).role = 1 := Classical.byContradiction fun z => hc (.inl z)
          have c2 : x.term = (node s x.to_).term := Classical.byContradiction fun z => hc (.inr (.inl z))
          have c3 : x.yes = true := by
            cases e : x.yes with
            | true => rfl
            | false => exact absurd (.inr (.inr (.inl e))) hc
          have hv := hx.k1 hkind c3
          rw [c2] at hv
          have N1 := hN.counted c1 hv
          have I1 := h.inv.same N1
          split
          · rename_i hm
            exact lead_ok h h.first I1 hi N1 c1 hrow.1 hm
          · exact ⟨g, h'.set hi rfl I1 (Nat.le_succ_of_le hrow.1) (by
              show ((node s x.to_).votes ++ [x.from_]).length ≤ k + 1
              rw [List.length_append]
              exact Nat.succ_le_succ hrow.2)⟩
    · -- an append
      rename_i hkind
      obtain ⟨L, l1, l2, l3, l4, l5⟩ := hx.k2 hkind
      split
      · refine ⟨g, OkG.send h' fun z hz => ?_⟩
        rw [List.mem_singleton.mp hz]
        exact ⟨reply_ok hi hx.from5, by show 3 ≤ 3; omega, by show 0 + 0 ≤ _; omega⟩
      · rename_i ht
        have htm : (hear (node s x.to_) x.term).term = x.term := by
          rw [hear_term] at ht ⊢
          omega
        generalize hn : hear (node s x.to_) x.term = n at *
        have N1 : NI g x.to_ { n with role := 0, votes := [], next := [], has := [] } := hH.drop (v := []) (a := []) (b := []) (u := n.up) (.inl rfl)
        split
        · refine ⟨g, OkG.send (h'.set hi rfl (h.inv.same N1) (by show n.row.length ≤ _; rw [r1]; omega) (Nat.zero_le _)) fun z hz => ?_⟩
          rw [List.mem_singleton.mp hz]
          exact ⟨reply_ok hi hx.from5, by show 3 ≤ 3; omega, by show 0 + 0 ≤ _; omega⟩
        · rename_i hc
          have d1 : x.a ≤ n.row.length := Nat.le_of_not_lt fun z => hc (.inl z)
          have d2 : termAt n.row x.a = x.b := Classical.byContradiction fun z => hc (.inr z)
          obtain ⟨g', le, I', hq⟩ := h.inv.took_ (c := x.done) hi N1 rfl (by rw [← htm] at l1; exact l1) l2 l3 (by rw [← htm] at l5; exact l5) d1 (d2.trans l4)
          refine ⟨g', OkG.send (h'.set hi le.first I' ?_ (Nat.zero_le _)) fun z hz => ?_⟩
          · have z1 := takeIn_len x.entries n.row x.a d1
            have z2 : n.row.length ≤ k := by rw [r1]; exact hrow.1
            have z3 := hk.2
            show (takeIn n.row x.a x.entries).length ≤ k + 1
            omega
          · rw [List.mem_singleton.mp hz]
            exact ⟨⟨hx.from5, hi, fun q => (nomatch q), fun q => (nomatch q), fun q => (nomatch q), fun _ _ => hq⟩, by show 3 ≤ 3; omega, by show x.a + x.entries.length + 0 ≤ _; omega⟩
    · -- an append reply
      rename_i h0 h1 h2
      split
      · exact ⟨g, h'.set hi rfl (h.inv.same hH) (by rw [r1]; omega) (by omega)⟩
      · rename_i ht
        rw [hear_id ht]
        split
        · exact ⟨g, h'⟩
        · rename_i hc
          have c1 : (node s x.to_).role = 2 := Classical.byContradiction fun z => hc (.inl z)
          have c2 : x.term = (node s x.to_).term := Classical.byContradiction fun z => hc (.inr z)
          split
          · exact ⟨g, h'.set hi rfl (h.inv.same (hN.back c1 hx.from5)) (Nat.le_succ_of_le hrow.1) (Nat.le_succ_of_le hrow.2)⟩
          · rename_i hyes
            have hyes : x.yes = true := by
              cases e : x.yes with
              | true => rfl
              | false => exact absurd e hyes
            have hk3 : x.kind = 3 := by
              have z := hk.1
              have e0 : x.kind ≠ 0 := h0
              have e1 : x.kind ≠ 1 := h1
              have e2 : x.kind ≠ 2 := h2
              omega
            have ha := hx.k3 hk3 hyes
            rw [c2] at ha
            have N1 := hN.forth h.inv.gi c1 hx.from5 ha
            obtain ⟨g', le, I', N'⟩ := adv_ (s := s) (h.inv.same N1) h.first hi N1 c1
            exact ⟨g', h'.set hi le.first I' (Nat.le_succ_of_le hrow.1) (Nat.le_succ_of_le hrow.2)⟩
theorem may_ok (h : OkG s k g) (hi : i < 5) (hr : (node s i).role = 2) (hm : may (node s i) = true) {j : Nat} (hj : j < 5) :
    adj (cfg g.first (node s i).row) (turned (members s (node s i)) j) ∧ ∃ c m, g.com (node s i).term c m ∧ ∀ (a : Nat) (e' : Entry), (node s i).row[a]? = some e' → e'.sort = 1 → a < c := by
  have hn := h.inv.ni i hi
  generalize node s i = n at *
  refine ⟨⟨j, hj, by rw [h.first]; rfl⟩, ?_⟩
  unfold may at hm
  rw [Bool.and_eq_true, Bool.and_eq_true] at hm
  obtain ⟨m1, m2, m3⟩ := hm
  have m2 := of_decide_eq_true m2
  have m3 := eq_of_beq m3
  obtain ⟨L, a1, a2, a3, a4⟩ := hn.ledr hr
  have hlen := hn.done.len h.inv.gi
  rcases hn.done with z | ⟨x, c, m, Lx, d1, d2, d3, d4, d5⟩
  · omega
  · obtain ⟨L2, e1, e2, e3, e4, _⟩ := h.inv.gi.com_lead x c m d1
    rw [d3] at e1
    cases e1
    -- the entry at the commit index is of x's leader
    obtain ⟨e, he⟩ := get_of_lt (l := Lx.full) (i := n.done - 1) (by omega)
    have he2 : (Lx.full.take n.done)[n.done - 1]? = some e := by
      rw [List.getElem?_take_of_lt (by omega)]
      exact he
    have hT := termAt_get (pre_get d5 he2)
    rw [show n.done - 1 + 1 = n.done by omega, m3] at hT
    have hle := full_le h.inv.gi d3 (get_mem he)
    have hx : x = n.term := by omega
    subst hx
    refine ⟨c, m, d1, fun a e' q c' => ?_⟩
    rcases Nat.lt_or_ge a n.done with z | z
    · omega
    · exfalso
      have q2 : (n.row.drop n.done)[a - n.done]? = some e' := by
        rw [List.getElem?_drop, show n.done + (a - n.done) = a by omega]
        exact q
      have := List.all_eq_true.mp m1 e' (List.mem_of_getElem? q2)
      simp [c'] at this
theorem put_ok (h : OkG s k g) (hi : i < 5) (hr : (node s i).role = 2) {e : Entry} (het : e.term = (node s i).term)
    (hc : e.sort = 1 → adj (cfg g.first (node s i).row) e.value ∧ ∃ c m, g.com (node s i).term c m ∧ ∀ (j : Nat) (e' : Entry), (node s i).row[j]? = some e' → e'.sort = 1 → j < c) : ∃ g', OkG (put s i e) (k + 1) g' := by
  have I0 : Inv (setn (node s) i (node s i)) s.letters g := by
    rw [setn_self]
    exact h.inv
  obtain ⟨g', le, I', N'⟩ := put_ I0 h.first hi (h.inv.ni i hi) hr het hc
  refine ⟨g', (h.more (Nat.le_succ k)).set hi le.first I' ?_ (Nat.le_succ_of_le (h.row i hi).2)⟩
  show ((node s i).row ++ [e]).length ≤ k + 1
  rw [List.length_append]
  exact Nat.succ_le_succ (h.row i hi).1
end
/-- the ghost of a beginning -/
def G0 (z : Nat) : G := ⟨z, fun _ => none, fun _ _ => 0, fun _ _ => none, fun _ _ => [], fun _ _ => none, fun _ _ _ => False⟩
theorem new_ok (z : Nat) : OkG ⟨z, List.replicate NODES ⟨true, 0, none, [], 0, 0, [], [], []⟩, [], [], []⟩ 0 (G0 z) := by
  have hn : ∀ i, i < 5 → node ⟨z, List.replicate NODES ⟨true, 0, none, [], 0, 0, [], [], []⟩, [], [], []⟩ i = ⟨true, 0, none, [], 0, 0, [], [], []⟩ := fun i hi => by
    show (List.replicate NODES _).getD i _ = _
    rw [List.getD_eq_getElem?_getD, List.getElem?_replicate, if_pos (show i < NODES from hi)]
    rfl
  exact {
    len := List.length_replicate
    first := rfl
    inv := {
      gi := { zero := rfl, pre_lt := fun _ _ h => (nomatch h), ext := fun _ _ h => (nomatch h), own := fun _ _ h => (nomatch h), path := fun _ _ h => (nomatch h), com_lead := fun _ _ _ h => h.elim, conf := fun _ _ h => (nomatch h), elect := fun _ _ h => (nomatch h), ack_le := fun _ _ h => absurd h (Nat.lt_irrefl 0) }
      ni := fun i hi => by
        rw [hn i hi]
        exact { path := fun i e h => by simp at h, low := fun e h => (nomatch h), ack0 := fun _ h => absurd h (Nat.lt_irrefl 0), ack := fun _ _ _ _ _ h => (nomatch h), vote0 := fun _ _ => rfl, vote := rfl, cand0 := fun _ _ => rfl, lead0 := fun _ _ h => (nomatch h), cand := fun h => (nomatch h), ledr := fun h => (nomatch h), done := .inl rfl }
      vr := fun _ _ _ h => (nomatch h)
      mi := fun _ h => (nomatch h) }
    told := fun i hi => by
      rw [hn i hi]
      exact Nat.le_refl _
    room := Nat.zero_le _
    kind := fun _ h => (nomatch h)
    row := fun i hi => by
      rw [hn i hi]
      exact ⟨Nat.le_refl _, Nat.le_refl _⟩
    toldk := Nat.le_refl _
    ledk := Nat.le_refl _ }
/-- what is kept of a state behind k calls -/
def Ok (s : State) (k : Nat) : Prop := ∃ g, OkG s k g
def OkA (o : Abs) (k : Nat) : Prop := match o with
  | none => True
  | some s => Ok s k
theorem Ok.more {s : State} {k k' : Nat} (h : Ok s k) (hk : k ≤ k') : Ok s k' := by
  obtain ⟨g, h⟩ := h
  exact ⟨g, h.more hk⟩
theorem step_ok (o : Abs) (c : Call) (k : Nat) (h : OkA o k) : OkA (step o c).1 (k + 1) := by
  cases c with
  | begin_ l =>
    show OkA (if _ then _ else _ : Abs × Ans).1 _
    split
    · cases o with
      | none => trivial
      | some s => exact Ok.more h (Nat.le_succ k)
    · exact Ok.more ⟨_, new_ok _⟩ (Nat.zero_le _)
  | stand i =>
    cases o with
    | none => trivial
    | some s =>
      have h' : Ok s (k + 1) := Ok.more h (Nat.le_succ k)
      show OkA (if _ then _ else _ : Abs × Ans).1 _
      split
      · exact h'
      · rename_i hi
        split
        · exact h'
        · split
          · exact h'
          · obtain ⟨g, h⟩ := h
            exact stand_ok h (Nat.lt_of_not_le hi)
  | order i v =>
    cases o with
    | none => trivial
    | some s =>
      have h' : Ok s (k + 1) := Ok.more h (Nat.le_succ k)
      show OkA (if _ then _ else _ : Abs × Ans).1 _
      split
      · exact h'
      · rename_i hi
        split
        · exact h'
        · split
          · exact h'
          · rename_i hr
            obtain ⟨g, h⟩ := h
            exact put_ok h (Nat.lt_of_not_le fun z => hi (.inl z)) (Classical.byContradiction fun z => hr z) rfl fun q => (nomatch q)
  | change i j =>
    cases o with
    | none => trivial
    | some s =>
      have h' : Ok s (k + 1) := Ok.more h (Nat.le_succ k)
      show OkA (if _ then _ else _ : Abs × Ans).1 _
      split
      · exact h'
      · rename_i hi
        split
        · exact h'
        · split
          · exact h'
          · rename_i hr
            split
            · exact h'
            · rename_i hm
              split
              · exact h'
              · obtain ⟨g, h⟩ := h
                have i5 : i < 5 := Nat.lt_of_not_le fun z => hi (.inl z)
                have hr2 : (node s i).role = 2 := Classical.byContradiction fun z => hr z
                have hm2 : may (node s i) = true := by
                  cases e : may (node s i) with
                  | true => rfl
                  | false => exact absurd e hm
                exact put_ok h i5 hr2 rfl fun _ => may_ok h i5 hr2 hm2 (Nat.lt_of_not_le fun z => hi (.inr z))
  | beat i =>
    cases o with
    | none => trivial
    | some s =>
      have h' : Ok s (k + 1) := Ok.more h (Nat.le_succ k)
      show OkA (if _ then _ else _ : Abs × Ans).1 _
      split
      · exact h'
      · rename_i hi
        split
        · exact h'
        · split
          · exact h'
          · rename_i hr
            obtain ⟨g, h⟩ := h
            have i5 : i < 5 := Nat.lt_of_not_le hi
            refine ⟨g, (h.more (Nat.le_succ k)).send fun x hx => ?_⟩
            obtain ⟨b1, b2, b3⟩ := beats_ok h.first i5 (h.inv.ni i i5) (Classical.byContradiction fun z => hr z) hx
            have := (h.row i i5).1
            exact ⟨b1, b2, by omega⟩
  | take j =>
    cases o with
    | none => trivial
    | some s =>
      have h' : Ok s (k + 1) := Ok.more h (Nat.le_succ k)
      show OkA (match s.letters[j]? with | none => _ | some x => _ : Abs × Ans).1 _
      split
      · exact h'
      · rename_i x hx
        obtain ⟨g, h⟩ := h
        have hm := List.mem_of_getElem? hx
        exact hand_ok (h.fewer j) (h.inv.mi x hm) (h.kind x hm)
  | keep j =>
    cases o with
    | none => trivial
    | some s =>
      have h' : Ok s (k + 1) := Ok.more h (Nat.le_succ k)
      show OkA (match s.letters[j]? with | none => _ | some x => _ : Abs × Ans).1 _
      split
      · exact h'
      · rename_i x hx
        obtain ⟨g, h⟩ := h
        have hm := List.mem_of_getElem? hx
        exact hand_ok h (h.inv.mi x hm) (h.kind x hm)
  | lose j =>
    cases o with
    | none => trivial
    | some s =>
      have h' : Ok s (k + 1) := Ok.more h (Nat.le_succ k)
      show OkA (if _ then _ else _ : Abs × Ans).1 _
      split
      · exact h'
      · obtain ⟨g, h⟩ := h
        exact ⟨g, (h.more (Nat.le_succ k)).fewer j⟩
  | halt_ i =>
    cases o with
    | none => trivial
    | some s =>
      have h' : Ok s (k + 1) := Ok.more h (Nat.le_succ k)
      show OkA (if _ then _ else _ : Abs × Ans).1 _
      split
      · exact h'
      · rename_i hi
        split
        · exact h'
        · obtain ⟨g, h⟩ := h
          have i5 : i < 5 := Nat.lt_of_not_le hi
          have := h.row i i5
          exact ⟨g, (h.more (Nat.le_succ k)).set i5 rfl (h.inv.same ((h.inv.ni i i5).up_ false)) (Nat.le_succ_of_le this.1) (Nat.le_succ_of_le this.2)⟩
  | start i =>
    cases o with
    | none => trivial
    | some s =>
      have h' : Ok s (k + 1) := Ok.more h (Nat.le_succ k)
      show OkA (if _ then _ else _ : Abs × Ans).1 _
      split
      · exact h'
      · rename_i hi
        split
        · exact h'
        · obtain ⟨g, h⟩ := h
          have i5 : i < 5 := Nat.lt_of_not_le hi
          have := h.row i i5
          exact ⟨g, (h.more (Nat.le_succ k)).set i5 rfl (h.inv.same ((h.inv.ni i i5).drop (v := []) (a := []) (b := []) (u := true) (.inr rfl))) (Nat.le_succ_of_le this.1) (Nat.zero_le _)⟩
  | letters =>
    cases o with
    | none => trivial
    | some s => exact Ok.more h (Nat.le_succ k)
  | node i =>
    cases o with
    | none => trivial
    | some s => exact Ok.more h (Nat.le_succ k)
  | told =>
    cases o with
    | none => trivial
    | some s => exact Ok.more h (Nat.le_succ k)
  | led =>
    cases o with
    | none => trivial
    | some s => exact Ok.more h (Nat.le_succ k)
/-- what the walk needs of a node -/
theorem Ok.node {s : State} {k i : Nat} (h : Ok s k) (hi : i < 5) : (node s i).done ≤ (node s i).row.length ∧ (node s i).row.length ≤ k ∧ (node s i).votes.length ≤ k ∧ (node s i).done ≤ s.told.length ∧
    ((node s i).role = 2 → (node s i).next.length = 5 ∧ (node s i).has.length = 5 ∧ ∀ j, j < 5 → 1 ≤ (node s i).next.getD j 1 ∧ (node s i).next.getD j 1 ≤ (node s i).row.length + 1) := by
  obtain ⟨g, h⟩ := h
  have hn := h.inv.ni i hi
  refine ⟨hn.done.len h.inv.gi, (h.row i hi).1, (h.row i hi).2, h.told i hi, fun hr => ?_⟩
  obtain ⟨L, a1, a2, a3, a4, a5, a6, a7, a8⟩ := hn.ledr hr
  exact ⟨a6, a7, a8⟩
theorem Ok.letter {s : State} {k : Nat} (h : Ok s k) {x : Letter} (hx : x ∈ s.letters) : x.to_ < 5 ∧ x.from_ < 5 ∧ x.kind ≤ 3 ∧ x.a + x.entries.length ≤ k := by
  obtain ⟨g, h⟩ := h
  exact ⟨(h.inv.mi x hx).to5, (h.inv.mi x hx).from5, h.kind x hx⟩
theorem Ok.sizes {s : State} {k : Nat} (h : Ok s k) : s.nodes.length = 5 ∧ s.letters.length ≤ 100 ∧ s.told.length ≤ k ∧ s.led.length ≤ k := by
  obtain ⟨g, h⟩ := h
  exact ⟨h.len, h.room, h.toldk, h.ledk⟩
end Rf
#print axioms Rf.step_ok
end

section
set_option Elab.async false
set_option linter.all false
namespace Wk
/-! ### the calls, read from the flat list -/
/-- a call by its place and what is handed to it -/
inductive Asks : Nat → List Nat → Ag12.Call → Prop where
  | c0 (l : List Nat) : Asks 0 l (.begin_ l)
  | c1 (i : Nat) : Asks 1 [i] (.stand i)
  | c2 (i v : Nat) : Asks 2 [i, v] (.order i v)
  | c3 (i j : Nat) : Asks 3 [i, j] (.change i j)
  | c4 (i : Nat) : Asks 4 [i] (.beat i)
  | c5 (k : Nat) : Asks 5 [k] (.take k)
  | c6 (k : Nat) : Asks 6 [k] (.keep k)
  | c7 (k : Nat) : Asks 7 [k] (.lose k)
  | c8 (i : Nat) : Asks 8 [i] (.halt_ i)
  | c9 (i : Nat) : Asks 9 [i] (.start i)
  | c10 : Asks 10 [] .letters
  | c11 (i : Nat) : Asks 11 [i] (.node i)
  | c12 : Asks 12 [] .told
  | c13 : Asks 13 [] .led
/-- how many numbers stand behind a place -/
def arity (p : Nat) : Nat := if p = 2 ∨ p = 3 then 2 else if p = 10 ∨ p = 12 ∨ p = 13 ∨ p = 0 then 0 else 1
def toI (l : List Nat) : List Int := l.map fun (n : Nat) => (n : Int)
theorem toI_nats (l : List Nat) : Ag12Neutral.nats (toI l) = l := by
  unfold Ag12Neutral.nats toI
  rw [List.map_map]
  induction l with
  | nil => rfl
  | cons a l ih => rw [List.map_cons, ih]; rfl
theorem shape_some {p : Int} {n k : Nat} (h : PyAg12.shape p = some (n, k)) : ∃ q : Nat, p = (q : Int) ∧ q ≤ 13 ∧ n = arity q ∧ k = if q = 0 then 1 else 0 := by
  have hc : p < 0 ∨ 13 < p ∨ p = 0 ∨ p = 1 ∨ p = 2 ∨ p = 3 ∨ p = 4 ∨ p = 5 ∨ p = 6 ∨ p = 7 ∨ p = 8 ∨ p = 9 ∨ p = 10 ∨ p = 11 ∨ p = 12 ∨ p = 13 := by omega
  rcases hc with c | c | rfl | rfl | rfl | rfl | rfl | rfl | rfl | rfl | rfl | rfl | rfl | rfl | rfl | rfl
  · exfalso
    unfold PyAg12.shape at h
    repeat rw [if_neg (by omega)] at h
    cases h
  · exfalso
    unfold PyAg12.shape at h
    repeat rw [if_neg (by omega)] at h
    cases h
  · rw [show PyAg12.shape 0 = some (0, 1) from by decide] at h
    injection h with h
    injection h with h1 h2
    exact ⟨0, rfl, by decide, h1.symm, h2.symm⟩
  · rw [show PyAg12.shape 1 = some (1, 0) from by decide] at h
    injection h with h
    injection h with h1 h2
    exact ⟨1, rfl, by decide, h1.symm, h2.symm⟩
  · rw [show PyAg12.shape 2 = some (2, 0) from by decide] at h
    injection h with h
    injection h with h1 h2
    exact ⟨2, rfl, by decide, h1.symm, h2.symm⟩
  · rw [show PyAg12.shape 3 = some (2, 0) from by decide] at h
    injection h with h
    injection h with h1 h2
    exact ⟨3, rfl, by decide, h1.symm, h2.symm⟩
  · rw [show PyAg12.shape 4 = some (1, 0) from by decide] at h
    injection h with h
    injection h with h1 h2
    exact ⟨4, rfl, by decide, h1.symm, h2.symm⟩
  · rw [show PyAg12.shape 5 = some (1, 0) from by decide] at h
    injection h with h
    injection h with h1 h2
    exact ⟨5, rfl, by decide, h1.symm, h2.symm⟩
  · rw [show PyAg12.shape 6 = some (1, 0) from by decide] at h
    injection h with h
    injection h with h1 h2
    exact ⟨6, rfl, by decide, h1.symm, h2.symm⟩
  · rw [show PyAg12.shape 7 = some (1, 0) from by decide] at h
    injection h with h
    injection h with h1 h2
    exact ⟨7, rfl, by decide, h1.symm, h2.symm⟩
  · rw [show PyAg12.shape 8 = some (1, 0) from by decide] at h
    injection h with h
    injection h with h1 h2
    exact ⟨8, rfl, by decide, h1.symm, h2.symm⟩
  · rw [show PyAg12.shape 9 = some (1, 0) from by decide] at h
    injection h with h
    injection h with h1 h2
    exact ⟨9, rfl, by decide, h1.symm, h2.symm⟩
  · rw [show PyAg12.shape 10 = some (0, 0) from by decide] at h
    injection h with h
    injection h with h1 h2
    exact ⟨10, rfl, by decide, h1.symm, h2.symm⟩
  · rw [show PyAg12.shape 11 = some (1, 0) from by decide] at h
    injection h with h
    injection h with h1 h2
    exact ⟨11, rfl, by decide, h1.symm, h2.symm⟩
  · rw [show PyAg12.shape 12 = some (0, 0) from by decide] at h
    injection h with h
    injection h with h1 h2
    exact ⟨12, rfl, by decide, h1.symm, h2.symm⟩
  · rw [show PyAg12.shape 13 = some (0, 0) from by decide] at h
    injection h with h
    injection h with h1 h2
    exact ⟨13, rfl, by decide, h1.symm, h2.symm⟩
/-- one call from the list's front -/
theorem read_one {p : Int} {r : List Int} {cc : List (List Int)} {t : List Int} (h : PyFlat.call PyAg12.shape (p :: r) = some (cc, t)) :
    (p = 0 ∧ ∃ m r', r = m :: r' ∧ 0 ≤ m ∧ m.toNat ≤ r'.length ∧ cc = [[0], r'.take m.toNat] ∧ t = r'.drop m.toNat) ∨
    (∃ q : Nat, p = (q : Int) ∧ 1 ≤ q ∧ q ≤ 13 ∧ arity q ≤ r.length ∧ cc = [p :: r.take (arity q)] ∧ t = r.drop (arity q)) := by
  unfold PyFlat.call at h
  dsimp only at h
  cases e : PyAg12.shape p with
  | none => rw [e] at h; cases h
  | some nk =>
    obtain ⟨n, k⟩ := nk
    obtain ⟨q, rfl, h1, rfl, rfl⟩ := shape_some e
    rw [e] at h
    dsimp only at h
    split at h
    · cases h
    · rename_i hl
      by_cases c : q = 0
      · subst c
        left
        refine ⟨rfl, ?_⟩
        rw [if_pos rfl] at h
        have e0 : arity 0 = 0 := rfl
        rw [e0, List.drop_zero, List.take_zero] at h
        cases r with
        | nil => simp [PyFlat.rows, PyFlat.row] at h
        | cons m r' =>
          refine ⟨m, r', rfl, ?_⟩
          unfold PyFlat.rows PyFlat.row at h
          dsimp only at h
          by_cases d : 0 ≤ m ∧ m.toNat ≤ r'.length
          · rw [if_pos d] at h
            simp only [PyFlat.rows, Option.some.injEq, Prod.mk.injEq] at h
            exact ⟨d.1, d.2, h.1.symm, h.2.symm⟩
          · rw [if_neg d] at h
            cases h
      · right
        rw [if_neg c] at h
        simp only [PyFlat.rows, Option.some.injEq, Prod.mk.injEq] at h
        exact ⟨q, rfl, by omega, h1, by omega, h.1.symm, h.2.symm⟩
theorem calls_cons {f : Nat} {p : Int} {r : List Int} {raw : List (List (List Int))} (h : PyFlat.calls PyAg12.shape f (p :: r) = some raw) :
    ∃ cc t f' raw', PyFlat.call PyAg12.shape (p :: r) = some (cc, t) ∧ PyFlat.calls PyAg12.shape f' t = some raw' ∧ raw = cc :: raw' := by
  cases f with
  | zero => simp [PyFlat.calls] at h
  | succ f =>
    unfold PyFlat.calls at h
    cases e : PyFlat.call PyAg12.shape (p :: r) with
    | none => rw [e] at h; cases h
    | some ct =>
      obtain ⟨cc, t⟩ := ct
      rw [e] at h
      dsimp only at h
      cases e2 : PyFlat.calls PyAg12.shape f t with
      | none => rw [e2] at h; cases h
      | some raw' =>
        rw [e2] at h
        injection h with h
        exact ⟨cc, t, f, raw', rfl, e2, h.symm⟩
theorem calls_nil {f : Nat} {raw : List (List (List Int))} (h : PyFlat.calls PyAg12.shape f [] = some raw) : raw = [] := by
  cases f <;> simp [PyFlat.calls] at h <;> exact h
theorem nine_nat {l : List Int} (h : l.all (PyInside.within 0 9) = true) : ∃ g : List Nat, l = toI g ∧ ∀ x, x ∈ g → x ≤ 9 := by
  induction l with
  | nil => exact ⟨[], rfl, fun _ h => (nomatch h)⟩
  | cons a l ih =>
    rw [List.all_cons, Bool.and_eq_true] at h
    obtain ⟨g, rfl, hg⟩ := ih h.2
    have h1 := h.1
    unfold PyInside.within at h1
    rw [Bool.and_eq_true, decide_eq_true_eq, decide_eq_true_eq] at h1
    refine ⟨a.toNat :: g, ?_, fun x hx => ?_⟩
    · show _ = ((a.toNat : Nat) : Int) :: toI g
      rw [Int.toNat_of_nonneg h1.1]
    · rcases List.mem_cons.mp hx with e | e
      · omega
      · exact hg x e
theorem within_nat {z lo hi : Int} (h : PyInside.within lo hi z = true) (h0 : 0 ≤ lo) : ∃ n : Nat, z = (n : Int) ∧ (n : Int) ≤ hi := by
  unfold PyInside.within at h
  rw [Bool.and_eq_true, decide_eq_true_eq, decide_eq_true_eq] at h
  exact ⟨z.toNat, by omega, by omega⟩
/-- the call at the list's front, its numbers as natural numbers -/
theorem front {p : Int} {r : List Int} {cc : List (List Int)} {t : List Int} (h : PyFlat.call PyAg12.shape (p :: r) = some (cc, t)) (ha : PyInside.call PyAg12.bound cc = true) :
    ∃ (q : Nat) (g : List Nat) (c : Ag12.Call), p = (q : Int) ∧ q ≤ 13 ∧ Asks q g c ∧ (∀ x, x ∈ g → x ≤ 200) ∧ Ag12Neutral.callOf (PyAg12.whole cc) = some c ∧ g.length ≤ 10 ∧
      ((q = 0 ∧ r = (g.length : Int) :: (toI g ++ t)) ∨ (q ≠ 0 ∧ g.length = arity q ∧ r = toI g ++ t)) := by
  rcases read_one h with ⟨rfl, m, r', rfl, h0, h1, rfl, rfl⟩ | ⟨q, rfl, h1, h2, h3, rfl, rfl⟩
  · have hb : PyInside.call PyAg12.bound [[0], r'.take m.toNat] = (decide (0 ≤ (r'.take m.toNat).length) && decide ((r'.take m.toNat).length ≤ 10) && (r'.take m.toNat).all (PyInside.within 0 9) && true) := rfl
    rw [hb, Bool.and_true, Bool.and_eq_true, Bool.and_eq_true, decide_eq_true_eq, decide_eq_true_eq] at ha
    obtain ⟨g, hg, hx⟩ := nine_nat ha.2
    have hl : m.toNat = g.length := by
      have := congrArg List.length hg
      rw [List.length_take, toI, List.length_map] at this
      omega
    have hl10 : g.length ≤ 10 := by
      have := ha.1.2
      rw [List.length_take] at this
      omega
    refine ⟨0, g, .begin_ g, rfl, by decide, .c0 g, fun x e => by have := hx x e; omega, ?_, hl10, .inl ⟨rfl, ?_⟩⟩
    · rw [hg]
      show some (Ag12.Call.begin_ (Ag12Neutral.nats (toI g))) = _
      rw [toI_nats]
    · rw [← hg, List.take_append_drop, ← hl, Int.toNat_of_nonneg h0]
  · have hq : q = 1 ∨ q = 2 ∨ q = 3 ∨ q = 4 ∨ q = 5 ∨ q = 6 ∨ q = 7 ∨ q = 8 ∨ q = 9 ∨ q = 10 ∨ q = 11 ∨ q = 12 ∨ q = 13 := by omega
    rcases hq with rfl | rfl | rfl | rfl | rfl | rfl | rfl | rfl | rfl | rfl | rfl | rfl | rfl
    · match r, h3, ha with
      | x :: r', _, ha =>
        have hb : PyInside.call PyAg12.bound [[1, x]] = (PyInside.within 0 9 x && true && true) := rfl
        change PyInside.call PyAg12.bound [[1, x]] = true at ha
        rw [hb, Bool.and_true, Bool.and_true] at ha
        obtain ⟨a, rfl, h4⟩ := within_nat ha (Int.le_refl 0)
        refine ⟨1, [a], .stand a, rfl, by decide, .c1 a, fun z e => ?_, rfl, (by show _ ≤ 10; simp), .inr ⟨by decide, rfl, rfl⟩⟩
        rcases List.mem_cons.mp e with e | e
        · omega
        · cases e
      | [], h, _ => exact absurd h (by show ¬ (1 ≤ 0); decide)
    · match r, h3, ha with
      | x :: y :: r', _, ha =>
        have hb : PyInside.call PyAg12.bound [[2, x, y]] = (PyInside.within 0 9 x && (PyInside.within 0 200 y && true) && true) := rfl
        change PyInside.call PyAg12.bound [[2, x, y]] = true at ha
        rw [hb, Bool.and_true, Bool.and_true, Bool.and_eq_true] at ha
        obtain ⟨a, rfl, h4⟩ := within_nat ha.1 (Int.le_refl 0)
        obtain ⟨b, rfl, h5⟩ := within_nat ha.2 (Int.le_refl 0)
        refine ⟨2, [a, b], .order a b, rfl, by decide, .c2 a b, fun z e => ?_, rfl, (by show _ ≤ 10; simp), .inr ⟨by decide, rfl, rfl⟩⟩
        rcases List.mem_cons.mp e with e | e
        · omega
        · rcases List.mem_cons.mp e with e | e
          · omega
          · cases e
      | [_], h, _ => exact absurd h (by show ¬ (2 ≤ 1); decide)
      | [], h, _ => exact absurd h (by show ¬ (2 ≤ 0); decide)
    · match r, h3, ha with
      | x :: y :: r', _, ha =>
        have hb : PyInside.call PyAg12.bound [[3, x, y]] = (PyInside.within 0 9 x && (PyInside.within 0 9 y && true) && true) := rfl
        change PyInside.call PyAg12.bound [[3, x, y]] = true at ha
        rw [hb, Bool.and_true, Bool.and_true, Bool.and_eq_true] at ha
        obtain ⟨a, rfl, h4⟩ := within_nat ha.1 (Int.le_refl 0)
        obtain ⟨b, rfl, h5⟩ := within_nat ha.2 (Int.le_refl 0)
        refine ⟨3, [a, b], .change a b, rfl, by decide, .c3 a b, fun z e => ?_, rfl, (by show _ ≤ 10; simp), .inr ⟨by decide, rfl, rfl⟩⟩
        rcases List.mem_cons.mp e with e | e
        · omega
        · rcases List.mem_cons.mp e with e | e
          · omega
          · cases e
      | [_], h, _ => exact absurd h (by show ¬ (2 ≤ 1); decide)
      | [], h, _ => exact absurd h (by show ¬ (2 ≤ 0); decide)
    · match r, h3, ha with
      | x :: r', _, ha =>
        have hb : PyInside.call PyAg12.bound [[4, x]] = (PyInside.within 0 9 x && true && true) := rfl
        change PyInside.call PyAg12.bound [[4, x]] = true at ha
        rw [hb, Bool.and_true, Bool.and_true] at ha
        obtain ⟨a, rfl, h4⟩ := within_nat ha (Int.le_refl 0)
        refine ⟨4, [a], .beat a, rfl, by decide, .c4 a, fun z e => ?_, rfl, (by show _ ≤ 10; simp), .inr ⟨by decide, rfl, rfl⟩⟩
        rcases List.mem_cons.mp e with e | e
        · omega
        · cases e
      | [], h, _ => exact absurd h (by show ¬ (1 ≤ 0); decide)
    · match r, h3, ha with
      | x :: r', _, ha =>
        have hb : PyInside.call PyAg12.bound [[5, x]] = (PyInside.within 0 200 x && true && true) := rfl
        change PyInside.call PyAg12.bound [[5, x]] = true at ha
        rw [hb, Bool.and_true, Bool.and_true] at ha
        obtain ⟨a, rfl, h4⟩ := within_nat ha (Int.le_refl 0)
        refine ⟨5, [a], .take a, rfl, by decide, .c5 a, fun z e => ?_, rfl, (by show _ ≤ 10; simp), .inr ⟨by decide, rfl, rfl⟩⟩
        rcases List.mem_cons.mp e with e | e
        · omega
        · cases e
      | [], h, _ => exact absurd h (by show ¬ (1 ≤ 0); decide)
    · match r, h3, ha with
      | x :: r', _, ha =>
        have hb : PyInside.call PyAg12.bound [[6, x]] = (PyInside.within 0 200 x && true && true) := rfl
        change PyInside.call PyAg12.bound [[6, x]] = true at ha
        rw [hb, Bool.and_true, Bool.and_true] at ha
        obtain ⟨a, rfl, h4⟩ := within_nat ha (Int.le_refl 0)
        refine ⟨6, [a], .keep a, rfl, by decide, .c6 a, fun z e => ?_, rfl, (by show _ ≤ 10; simp), .inr ⟨by decide, rfl, rfl⟩⟩
        rcases List.mem_cons.mp e with e | e
        · omega
        · cases e
      | [], h, _ => exact absurd h (by show ¬ (1 ≤ 0); decide)
    · match r, h3, ha with
      | x :: r', _, ha =>
        have hb : PyInside.call PyAg12.bound [[7, x]] = (PyInside.within 0 200 x && true && true) := rfl
        change PyInside.call PyAg12.bound [[7, x]] = true at ha
        rw [hb, Bool.and_true, Bool.and_true] at ha
        obtain ⟨a, rfl, h4⟩ := within_nat ha (Int.le_refl 0)
        refine ⟨7, [a], .lose a, rfl, by decide, .c7 a, fun z e => ?_, rfl, (by show _ ≤ 10; simp), .inr ⟨by decide, rfl, rfl⟩⟩
        rcases List.mem_cons.mp e with e | e
        · omega
        · cases e
      | [], h, _ => exact absurd h (by show ¬ (1 ≤ 0); decide)
    · match r, h3, ha with
      | x :: r', _, ha =>
        have hb : PyInside.call PyAg12.bound [[8, x]] = (PyInside.within 0 9 x && true && true) := rfl
        change PyInside.call PyAg12.bound [[8, x]] = true at ha
        rw [hb, Bool.and_true, Bool.and_true] at ha
        obtain ⟨a, rfl, h4⟩ := within_nat ha (Int.le_refl 0)
        refine ⟨8, [a], .halt_ a, rfl, by decide, .c8 a, fun z e => ?_, rfl, (by show _ ≤ 10; simp), .inr ⟨by decide, rfl, rfl⟩⟩
        rcases List.mem_cons.mp e with e | e
        · omega
        · cases e
      | [], h, _ => exact absurd h (by show ¬ (1 ≤ 0); decide)
    · match r, h3, ha with
      | x :: r', _, ha =>
        have hb : PyInside.call PyAg12.bound [[9, x]] = (PyInside.within 0 9 x && true && true) := rfl
        change PyInside.call PyAg12.bound [[9, x]] = true at ha
        rw [hb, Bool.and_true, Bool.and_true] at ha
        obtain ⟨a, rfl, h4⟩ := within_nat ha (Int.le_refl 0)
        refine ⟨9, [a], .start a, rfl, by decide, .c9 a, fun z e => ?_, rfl, (by show _ ≤ 10; simp), .inr ⟨by decide, rfl, rfl⟩⟩
        rcases List.mem_cons.mp e with e | e
        · omega
        · cases e
      | [], h, _ => exact absurd h (by show ¬ (1 ≤ 0); decide)
    · exact ⟨10, [], .letters, rfl, by decide, .c10, fun _ e => (nomatch e), rfl, by decide, .inr ⟨by decide, rfl, rfl⟩⟩
    · match r, h3, ha with
      | x :: r', _, ha =>
        have hb : PyInside.call PyAg12.bound [[11, x]] = (PyInside.within 0 9 x && true && true) := rfl
        change PyInside.call PyAg12.bound [[11, x]] = true at ha
        rw [hb, Bool.and_true, Bool.and_true] at ha
        obtain ⟨a, rfl, h4⟩ := within_nat ha (Int.le_refl 0)
        refine ⟨11, [a], .node a, rfl, by decide, .c11 a, fun z e => ?_, rfl, (by show _ ≤ 10; simp), .inr ⟨by decide, rfl, rfl⟩⟩
        rcases List.mem_cons.mp e with e | e
        · omega
        · cases e
      | [], h, _ => exact absurd h (by show ¬ (1 ≤ 0); decide)
    · exact ⟨12, [], .told, rfl, by decide, .c12, fun _ e => (nomatch e), rfl, by decide, .inr ⟨by decide, rfl, rfl⟩⟩
    · exact ⟨13, [], .led, rfl, by decide, .c13, fun _ e => (nomatch e), rfl, by decide, .inr ⟨by decide, rfl, rfl⟩⟩
/-- what is still to be told: from a state, the rest of the calls -/
def dueOf (o : Ag12.Abs) (raw : List (List (List Int))) : List Int := PyFlat.told (PyFlat.played Ag12Neutral.step o (raw.map PyAg12.whole))
theorem due_nil (o : Ag12.Abs) : dueOf o [] = [] := rfl
theorem due_cons {o : Ag12.Abs} {cc : List (List Int)} {raw : List (List (List Int))} {c : Ag12.Call} (h : Ag12Neutral.callOf (PyAg12.whole cc) = some c) :
    dueOf o (cc :: raw) = ((Ag12.step o c).2.length : Int) :: ((Ag12.step o c).2 ++ dueOf (Ag12.step o c).1 raw) := by
  have e : Ag12Neutral.step o (PyAg12.whole cc) = Ag12.step o c := by
    unfold Ag12Neutral.step
    rw [h]
  show PyFlat.told ((Ag12Neutral.step o (PyAg12.whole cc)).2 :: PyFlat.played Ag12Neutral.step (Ag12Neutral.step o (PyAg12.whole cc)).1 (raw.map PyAg12.whole)) = _
  rw [e]
  rfl
/-- what is asked of the argument -/
theorem asked_out {l : List Int} (h : PyAg12.answers_asked l = true) : ∃ raw, PyFlat.calls PyAg12.shape l.length l = some raw ∧ raw.length ≤ 100 ∧ raw.all (PyInside.call PyAg12.bound) = true ∧ PyAg12.answers l = dueOf none raw ∧ (dueOf none raw).length ≤ 10000000 := by
  unfold PyAg12.answers_asked at h
  cases e : PyFlat.calls PyAg12.shape l.length l with
  | none => rw [e] at h; cases h
  | some raw =>
    rw [e] at h
    dsimp only at h
    have ea : PyAg12.answers l = dueOf none raw := by
      unfold PyAg12.answers PyAg12.calls
      rw [e]
      rfl
    rw [ea] at h
    simp only [Bool.and_eq_true] at h
    obtain ⟨⟨⟨⟨_, h1⟩, h2⟩, h3⟩, h4⟩ := h
    exact ⟨raw, rfl, of_decide_eq_true h1, h2, ea, of_decide_eq_true h4⟩
end Wk
end

section
set_option Elab.async false
set_option linter.all false
namespace Wk
open Ag12
/-! ### the rows of next and match indexes are short -/
def NLn (n : Node) : Prop := n.next.length ≤ 5 ∧ n.has.length ≤ 5
def Ln (s : State) : Prop := ∀ i, NLn (node s i)
def LnA (o : Abs) : Prop := match o with
  | none => True
  | some s => Ln s
theorem Ln.set {s : State} (h : Ln s) {n : Node} (hn : NLn n) (i : Nat) : Ln (setNode s i n) := fun j => by
  by_cases c : i < s.nodes.length
  · rw [Rf.node_setNode n c]
    by_cases d : j = i
    · subst d
      rw [Rf.setn_eq]
      exact hn
    · rw [Rf.setn_ne d]
      exact h j
  · have e : (setNode s i n).nodes = s.nodes := by
      have e2 : (setNode s i n).nodes = s.nodes.set i n := by
        unfold setNode
        dsimp only
        split <;> rfl
      rw [e2, List.set_eq_of_length_le (by omega)]
    show NLn ((setNode s i n).nodes.getD j _)
    rw [e]
    exact h j
theorem Ln.send {s : State} (h : Ln s) (l : List Letter) : Ln (send s l) := h
theorem Ln.hear {s : State} (h : Ln s) (i t : Nat) : NLn (hear (node s i) t) := by
  unfold Ag12.hear
  split
  · exact ⟨Nat.zero_le _, Nat.zero_le _⟩
  · exact h i
theorem Ln.lead {s : State} (h : Ln s) (i : Nat) (n : Node) : Ln (lead s i n) := by
  unfold Ag12.lead
  refine Ln.send ?_ _
  refine Ln.set (s := { s with led := s.led ++ [(n.term, i)] }) h ?_ i
  exact ⟨by show (List.replicate 5 _).length ≤ 5; rw [List.length_replicate]; exact Nat.le_refl _, by show (List.replicate 5 _).length ≤ 5; rw [List.length_replicate]; exact Nat.le_refl _⟩
theorem Ln.hand {s : State} (h : Ln s) (x : Letter) : Ln (hand s x).1 := by
  unfold Ag12.hand
  dsimp only
  split
  · exact h
  have hh := h.hear x.to_ x.term
  split
  · refine Ln.send (Ln.set h ?_ _) _
    split
    · exact hh
    · exact hh
  · split
    · exact h.set hh _
    split
    · exact h
    split
    · exact h.lead _ _
    · show Ln (setNode _ _ _)
      refine h.set ?_ _
      exact ⟨hh.1, hh.2⟩
  · split
    · exact Ln.send h _
    split
    · exact Ln.send (h.set ⟨Nat.zero_le _, Nat.zero_le _⟩ _) _
    · exact Ln.send (h.set ⟨Nat.zero_le _, Nat.zero_le _⟩ _) _
  · split
    · exact h.set hh _
    split
    · exact h
    split
    · show Ln (setNode _ _ _)
      refine h.set ?_ _
      refine ⟨?_, hh.2⟩
      show (List.set _ _ _).length ≤ 5
      rw [List.length_set]
      exact hh.1
    · show Ln (setNode _ _ _)
      refine h.set ?_ _
      refine ⟨?_, ?_⟩
      · show (List.set _ _ _).length ≤ 5
        rw [List.length_set]
        exact hh.1
      · show (List.set _ _ _).length ≤ 5
        rw [List.length_set]
        exact hh.2
theorem ln_step (o : Abs) (c : Call) (h : LnA o) : LnA (step o c).1 := by
  cases c with
  | begin_ l =>
    show LnA (if _ then _ else _ : Abs × Ans).1
    split
    · exact h
    · intro i
      show NLn ((List.replicate NODES _).getD i _)
      rw [List.getD_eq_getElem?_getD, List.getElem?_replicate]
      split <;> exact ⟨Nat.zero_le _, Nat.zero_le _⟩
  | stand i =>
    cases o with
    | none => trivial
    | some s =>
      show LnA (if _ then _ else _ : Abs × Ans).1
      split
      · exact h
      split
      · exact h
      split
      · exact h
      · show Ln (stand s i)
        unfold Ag12.stand
        dsimp only
        split
        · exact Ln.lead h _ _
        · exact Ln.send (Ln.set h ⟨Nat.zero_le _, Nat.zero_le _⟩ _) _
  | order i v =>
    cases o with
    | none => trivial
    | some s =>
      show LnA (if _ then _ else _ : Abs × Ans).1
      split
      · exact h
      split
      · exact h
      split
      · exact h
      · show Ln (setNode _ _ _)
        refine Ln.set (s := s) h ?_ i
        exact ⟨(h i).1, (h i).2⟩
  | change i j =>
    cases o with
    | none => trivial
    | some s =>
      show LnA (if _ then _ else _ : Abs × Ans).1
      split
      · exact h
      split
      · exact h
      split
      · exact h
      split
      · exact h
      split
      · exact h
      · show Ln (setNode _ _ _)
        refine Ln.set (s := s) h ?_ i
        exact ⟨(h i).1, (h i).2⟩
  | beat i =>
    cases o with
    | none => trivial
    | some s =>
      show LnA (if _ then _ else _ : Abs × Ans).1
      split
      · exact h
      split
      · exact h
      split
      · exact h
      · exact Ln.send h _
  | take k =>
    cases o with
    | none => trivial
    | some s =>
      show LnA (match s.letters[k]? with | none => (some s, [-1]) | some x => _ : Abs × Ans).1
      split
      · exact h
      · exact Ln.hand (s := { s with letters := s.letters.eraseIdx k }) h _
  | keep k =>
    cases o with
    | none => trivial
    | some s =>
      show LnA (match s.letters[k]? with | none => (some s, [-1]) | some x => _ : Abs × Ans).1
      split
      · exact h
      · exact Ln.hand (s := s) h _
  | lose k =>
    cases o with
    | none => trivial
    | some s =>
      show LnA (if _ then _ else _ : Abs × Ans).1
      split
      · exact h
      · exact h
  | halt_ i =>
    cases o with
    | none => trivial
    | some s =>
      show LnA (if _ then _ else _ : Abs × Ans).1
      split
      · exact h
      split
      · exact h
      · show Ln (setNode _ _ _)
        refine Ln.set (s := s) h ?_ i
        exact ⟨(h i).1, (h i).2⟩
  | start i =>
    cases o with
    | none => trivial
    | some s =>
      show LnA (if _ then _ else _ : Abs × Ans).1
      split
      · exact h
      split
      · exact h
      · exact Ln.set (s := s) h ⟨Nat.zero_le _, Nat.zero_le _⟩ i
  | letters => cases o <;> exact h
  | node i => cases o <;> exact h
  | told => cases o <;> exact h
  | led => cases o <;> exact h
end Wk
end

section
set_option Elab.async false
set_option linter.all false
namespace Wk
open PyProof.Rows
theorem met_mem (f : Nat → Int) : ∀ (n : Nat) (k : Int), k ∈ firstMet f n ↔ ∃ i, i < n ∧ f i = k := fun n k => by
  have h := firstMet_any f n k
  constructor
  · intro hk
    have : (firstMet f n).any (· == k) = true := List.any_eq_true.mpr ⟨k, hk, beq_self_eq_true k⟩
    rw [h] at this
    obtain ⟨y, hy, e⟩ := List.any_eq_true.mp this
    obtain ⟨i, hi, rfl⟩ := List.mem_map.mp hy
    exact ⟨i, List.mem_range.mp hi, eq_of_beq e⟩
  · rintro ⟨i, hi, rfl⟩
    have : ((List.range n).map f).any (· == f i) = true := List.any_eq_true.mpr ⟨f i, List.mem_map.mpr ⟨i, List.mem_range.mpr hi, rfl⟩, beq_self_eq_true _⟩
    rw [← h] at this
    obtain ⟨y, hy, e⟩ := List.any_eq_true.mp this
    rw [← eq_of_beq e]
    exact hy
theorem met_full (f : Nat → Int) : ∀ n, (firstMet f n).length = n ↔ ∀ i j, i < j → j < n → f i ≠ f j
  | 0 => ⟨fun _ i j _ h => by omega, fun _ => rfl⟩
  | n + 1 => by
    have le := firstMet_length_le f n
    have ih := met_full f n
    rw [firstMet_succ]
    unfold step_dedup
    by_cases c : (firstMet f n).any (· == f n) = true
    · rw [if_pos c]
      constructor
      · intro h
        omega
      · intro h
        exfalso
        obtain ⟨y, hy, e⟩ := List.any_eq_true.mp c
        obtain ⟨i, hi, e2⟩ := (met_mem f n y).mp hy
        exact h i n hi (by omega) (e2.trans (eq_of_beq e))
    · rw [if_neg c, List.length_append, List.length_singleton]
      constructor
      · intro h i j hij hj
        by_cases d : j = n
        · subst d
          intro e
          exact c (List.any_eq_true.mpr ⟨f j, (met_mem f j _).mpr ⟨i, hij, e⟩, beq_self_eq_true _⟩)
        · exact ih.mp (by omega) i j hij (by omega)
      · intro h
        have := ih.mpr fun i j hij hj => h i j hij (by omega)
        omega
theorem once_iff : ∀ g : List Nat, Ag12.once g = true ↔ ∀ i j, i < j → j < g.length → g[i]? ≠ g[j]?
  | [] => ⟨fun _ i j _ h => absurd h (Nat.not_lt_zero _), fun _ => rfl⟩
  | a :: l => by
    show (!(l.contains a) && Ag12.once l) = true ↔ _
    rw [Bool.and_eq_true, once_iff l]
    constructor
    · rintro ⟨h1, h2⟩ i j hij hj
      cases j with
      | zero => omega
      | succ j =>
        cases i with
        | zero =>
          intro e
          rw [List.getElem?_cons_zero, List.getElem?_cons_succ] at e
          have : l.contains a = true := by
            rw [List.contains_eq_mem]
            exact decide_eq_true (List.mem_of_getElem? e.symm)
          rw [this] at h1
          cases h1
        | succ i =>
          rw [List.getElem?_cons_succ, List.getElem?_cons_succ]
          exact h2 i j (by omega) (by simpa using hj)
    · intro h
      refine ⟨?_, fun i j hij hj => ?_⟩
      · cases c : l.contains a with
        | false => rfl
        | true =>
          exfalso
          rw [List.contains_eq_mem] at c
          obtain ⟨j, hj⟩ := List.mem_iff_getElem?.mp (of_decide_eq_true c)
          have hl : j < l.length := (List.getElem?_eq_some_iff.mp hj).1
          refine h 0 (j + 1) (by omega) (by simpa using hl) ?_
          rw [List.getElem?_cons_zero, List.getElem?_cons_succ, hj]
      · have := h (i + 1) (j + 1) (by omega) (by simpa using hj)
        rw [List.getElem?_cons_succ, List.getElem?_cons_succ] at this
        exact this
theorem met_once (g : List Nat) : (decide (((firstMet (fun i => (toI g).getD i 0) (toI g).length).length : Int) = ((g.length : Nat) : Int))) = Ag12.once g := by
  have hl : (toI g).length = g.length := List.length_map ..
  rw [hl]
  have e : ∀ i, i < g.length → (toI g).getD i 0 = ((g.getD i 0 : Nat) : Int) := fun i hi => by
    unfold toI
    rw [List.getD_eq_getElem?_getD, List.getElem?_map, List.getD_eq_getElem?_getD, List.getElem?_eq_getElem hi]
    rfl
  have e2 : ∀ i, (h : i < g.length) → g[i]? = some (g.getD i 0) := fun i h => by
    rw [List.getD_eq_getElem?_getD, List.getElem?_eq_getElem h]
    rfl
  have key : (firstMet (fun i => (toI g).getD i 0) g.length).length = g.length ↔ Ag12.once g = true := by
    rw [met_full, once_iff]
    constructor
    · intro h i j hij hj e3
      refine h i j hij hj ?_
      rw [e i (by omega), e j hj]
      rw [e2 i (by omega), e2 j hj] at e3
      rw [Option.some.inj e3]
    · intro h i j hij hj e3
      refine h i j hij hj ?_
      rw [e i (by omega), e j hj] at e3
      rw [e2 i (by omega), e2 j hj]
      congr 1
      omega
  by_cases c : (firstMet (fun i => (toI g).getD i 0) g.length).length = g.length
  · rw [c, decide_eq_true rfl, key.mp c]
  · rw [decide_eq_false (by omega)]
    cases d : Ag12.once g with
    | false => rfl
    | true => exact absurd (key.mpr d) c
theorem foldl_pow : ∀ (g : List Nat) (m : Nat), g.foldl (fun (m : Nat) (x : Nat) => m + 2 ^ x) m = m + (g.map fun x => 2 ^ x).sum
  | [], m => rfl
  | a :: l, m => by
    rw [List.foldl_cons, foldl_pow l, List.map_cons, List.sum_cons]
    omega
end Wk
end

section
set_option Elab.async false
set_option linter.all false
set_option maxRecDepth 100000
set_option maxHeartbeats 4000000
namespace PySem
namespace LowX
open PySem.W PySem.Calls PyProof.Rows PySem.HandSPX
/-! ### the text of __init__ -/
def iA (p1 p2 : Pos) : Arguments := { posonlyargs := [], args := [{ arg := "self", annotation := none, pos := p1 }, { arg := "code", annotation := none, pos := p2 }], vararg := none, kwonlyargs := [], kw_defaults := [], kwarg := none, defaults := [] }
def iB (q1 q2 q3 q4 : Pos) : List Stmt := [.Assign [.Attribute (.Name "self" q1) "code" q2] (.Name "code" q3) q4]
def iS : Scope := { kind := .function, names := [(PySem.Str.ofString "self", .local), (PySem.Str.ofString "code", .local)], isGenerator := false, isCoroutine := false, more := [] }
/-- what the written part says of Low, at C, and of its __init__, at fI -/
structure LowTxt (K : Frag) (mg : Str → Option Value) (C fI : Addr) : Prop where
  gC : mg "Refused" = some (.ref C)
  cls : ∃ nm q N bs bm sn sub ab col dd k0 k1 k2 k3 k5, K.lookup C = some (excClassObj nm q C N bs bm true sn sub ab col dd k0 k1 k2 k3 k5 "ValueError.__new__") ∧ refsVE bm = true
  sa : findIn K (.ref C) "__setattr__" = some (some (.builtin "object.__setattr__"))
  ga : findIn K (.ref C) "__getattribute__" = some (some (.builtin "BaseException.__getattribute__"))
  gg : findIn K (.ref C) "__getattr__" = some none
  noN : findIn K (.ref C) "code" = some none
  iC : findIn K (.ref C) "__init__" = some (some (.ref fI))
  tC : typeIn K (.ref fI) = some (.type "function")
  kC : keepIn K (.ref C) = true
  exC : subIn K (.ref C) (.type "BaseException") = some true
  tyC : typeIn K (.ref C) = some (.type "type")
  hdC : hasDictIn K C = true
  te : exmOne K (.ref C) (.ref C) = some true
  fn : ∃ (oc : Value) (od : Option Addr) (doc pm : Value) (an : Option Addr) (cdv ct : Value) (osl : Array (Option Value)) (p1 p2 q1 q2 q3 q4 : Pos),
    K.lookup fI = some ⟨oc, od, .func (fnOf "__init__" "Refused.__init__" (iA p1 p2) (iB q1 q2 q3 q4) iS .none .none doc pm an cdv ct), osl⟩ ∧ codeIn K cdv "Refused.__init__" = true
theorem one_size (v : Value) : [v].length ≤ sizeLine := by
  rw [sizeLine_eq]
  exact (by decide : 1 ≤ 16777216)
theorem kept_but {K : Frag} {h h' : Heap} {x : Addr} (X : K.In h) (hx : K.lookup x = none) (k : ∀ b o, b ≠ x → h.get? b = some o → h'.get? b = some o) : K.In h' := fun a o e =>
  k a o (fun z => by rw [z, hx] at e; cases e) (X a o e)
theorem ldC {M : Model} {s : Shared} {name : Str} {scope : Scope} {L a : Addr} {cd : Value} {m : Str → Option Value} {x : Str} {pos : Pos} {v : Value} {Q : Value → Shared → Prop} {A : Around} {E : Value → Shared → Prop} (hn : s.heap.Ns L m) (hv : m x = some v) (h : Q v s)
    (hk : scope.kind = .function := by rfl) (hl : (envOfC name scope L a cd).kindOf x = some .local := by rfl) (hd : (x == ("__debug__" : Str)) = false := by decide) :
    wpAny M A (eval (.Name x pos) (envOfC name scope L a cd)) Q E s := wpAny_Name (wpAny_loadName_local hk hl hn hv h) hd
/-- what __init__ leaves of a fresh exception at x -/
structure InitEnd (h h' : Heap) (x C dx t1 : Addr) (v : Value) : Prop where
  keep : ∀ b o, b ≠ x → h.get? b = some o → h'.get? b = some o
  obj : h'.get? x = some { cls := .ref C, dict := some dx, data := .fields #[.ref t1, .none, .none, .none, .bool false, .none] }
  dbig : h.objs.size ≤ dx
  dne : dx ≠ x
  ns : h'.Ns1 dx (fun y => if y = "code" then some v else none)
/-- a made Low -/
structure OwnMade (h h' : Heap) (e C d : Addr) (v : Value) : Prop where
  keep : ∀ b o, h.get? b = some o → h'.get? b = some o
  new : h.objs.size ≤ e
  obj : ∃ oe vs, h'.get? e = some oe ∧ oe.cls = .ref C ∧ oe.dict = some d ∧ oe.data = .fields vs ∧ vs[1]? = some .none
  dbig : h.objs.size ≤ d
  dne : d ≠ e
  ns : h'.Ns1 d (fun y => if y = "code" then some v else none)
section
variable {prog : Program} {w : World} {A : Around} {E : Value → Shared → Prop} {R : Result → Shared → Prop} {s : Shared} {K : Frag} {mg : Str → Option Value} {C fI : Addr}
theorem low_init (T : LowTxt K mg C fI) {x t0 : Addr} {v : Value} (X : K.In s.heap) (hlim : s.heap.NoLimit) (hx : s.heap.get? x = some (excO C t0)) (hnx : K.lookup x = none) (hroom : A.depth < recursionLimit)
    (hq : ∀ h' tk dx, InitEnd s.heap h' x C dx t0 v → R (.ok (.ret .none)) { s with heap := h', toks := tk }) :
    codeAny (model prog w) A (.call (.ref fI) ⟨[.ref x, v], []⟩) R s := by
  obtain ⟨oc, od, doc, pm, an, cdv, ct, osl, p1, p2, q1, q2, q3, q4, ho, hcd⟩ := T.fn
  obtain ⟨nm, q, N, bs, bm, sn, sub, ab, col, dd, k0, k1, k2, k3, k5, hC, hbm⟩ := T.cls
  have hcl : clsIn K C = some { name := nm, bases := bs, mro := .ref C :: bm, ns := N, qualname := q, hasDict := true, slotNames := sn, subclasses := sub, abstract := ab, collection := col, hasDel := false } := by unfold clsIn; rw [hC] <;> rfl
  refine Att.call_fn (binds := [("self", .ref x), ("code", v)]) X hlim ho hcd hroom (BindsTo.of_eq (by first | rfl | with_unfolding_all rfl)) (by first | rfl | decide | with_unfolding_all rfl) (fun s₁ IC => ?_) rfl rfl rfl
  obtain ⟨h₁, tk₁, rfl⟩ := IC.toInCall.same
  have k : ∀ b o, s.heap.get? b = some o → h₁.get? b = some o := IC.toInCall.keep
  have hn := IC.toInCall.ns
  have hxL : s.heap.objs.size ≠ x := Nat.ne_of_gt (Heap.lt_size hx)
  have X₁ : K.In h₁ := X.keeps k
  have hx₁ := k _ _ hx
  -- self.by = by
  show wpAny _ _ (execs _ _) _ _ _
  refine wpAny_execs_cons (plainObj_wpAny_Assign_Attribute ?_)
  refine ldC (v := v) hn (by first | rfl | with_unfolding_all rfl | kernel_rfl) (ldC (v := .ref x) hn (by first | rfl | with_unfolding_all rfl | kernel_rfl) ?_)
  refine set_plain X₁ (ox := excO C t0) (od := none) ⟨hx₁, rfl, rfl, trivial⟩ T.sa ?_
  refine exc_osa X₁ hx₁ hcl (show refsVE (.ref C :: bm) = true from hbm) rfl T.noN (fun h₃ tk₃ dx k₃ dn dne hx₃ hn₃ => ?_)
  show wpAny _ _ (execs _ _) _ _ _
  have z : s.heap.objs.size < h₁.objs.size := hn.lt
  exact wpAny_execs_nil (hq h₃ tk₃ dx ⟨fun b o hb e => k₃ b o hb (k b o e), hx₃, Nat.le_of_lt (Nat.lt_of_lt_of_le z dn), dne, hn₃⟩)
theorem low_made (T : LowTxt K mg C fI) {v : Value} (X : K.In s.heap) (hlim : s.heap.NoLimit) (hroom : A.depth + 1 < recursionLimit)
    (hq : ∀ h' tk e d, OwnMade s.heap h' e C d v → R (.ok (.ret (.ref e))) { s with heap := h', toks := tk }) :
    codeAny (model prog w) A (.call (.ref C) ⟨[v], []⟩) R s := by
  obtain ⟨nm, q, N, bs, bm, sn, sub, ab, col, dd, k0, k1, k2, k3, k5, hC, hbm⟩ := T.cls
  obtain ⟨hp, g, dr, tk, os⟩ := s
  have k : ∀ b o, hp.get? b = some o → ((hp.push (kdv_tup [v])).push (excO C hp.objs.size)).get? b = some o := fun b o e => Heap.get?_push_of_some _ (Heap.get?_push_of_some _ e)
  have hget : ((hp.push (kdv_tup [v])).push (excO C hp.objs.size)).get? (hp.objs.size + 1) = some (excO C hp.objs.size) := by heap_get
  have hnx : K.lookup (hp.objs.size + 1) = none := by
    cases e : K.lookup (hp.objs.size + 1) with
    | none => rfl
    | some o =>
      have z : hp.get? (hp.objs.size + 1) = some o := X _ _ e
      exact absurd (Nat.lt_of_succ_lt (Heap.lt_size z)) (Nat.lt_irrefl _)
  refine call_own F.excBase_ValueError (fun X => refsVE_contains X bm hbm) (X _ _ hC) (looks_findIn X T.iC) (fun self => bind_fn X self T.tC) (one_size v) ?_
  refine low_init (s := ⟨(hp.push (kdv_tup [v])).push (excO C hp.objs.size), g, dr, tk, os⟩) T (X.keeps k) (hlim.keeps k) hget hnx ?_ fun h' tk' dx ⟨k', hx, dn, dne, hns⟩ => ?_
  · show A.depth + 1 < recursionLimit
    exact hroom
  · have old : ∀ b o, hp.get? b = some o → h'.get? b = some o := fun b o e => k' b o (Nat.ne_of_lt (Nat.lt_succ_of_lt (Heap.lt_size e))) (k b o e)
    have z : hp.objs.size + 1 + 1 ≤ dx := by
      first
        | (simpa only [Heap.size_push] using dn)
        | exact dn
        | (have q := dn; rw [Heap.size_push, Heap.size_push] at q; exact q)
    exact ⟨rfl, hq h' tk' (hp.objs.size + 1) dx ⟨old, Nat.le_succ _, ⟨_, _, hx, rfl, rfl, rfl, rfl⟩, Nat.le_trans (Nat.le_trans (Nat.le_succ _) (Nat.le_succ _)) z, dne, hns⟩⟩
end
end LowX
end PySem
namespace L2
open PySem PySem.Spec PyProof.Rows
theorem relO_low {v : V} {v' : Value} (r : RelV v v') (f : Str) : RelO (List.lookup f [(("code" : Str), v)]) (if f = "code" then some v' else none) := by
  by_cases hw : f = "code"
  · subst hw
    rw [if_pos rfl]
    have q : List.lookup ("code" : Str) [(("code" : Str), v)] = some v := by simp [List.lookup]
    rw [q]
    exact r
  · rw [if_neg hw]
    have qw : (f == ("code" : Str)) = false := by simpa using hw
    have q2 : List.lookup f [(("code" : Str), v)] = none := by simp [List.lookup, qw]
    rw [q2]
    trivial
section
variable {X : Cx} {C fI : Addr}
/-- Refused(e) -/
def tMkLow (C : Addr) (ta : TA) : St → Hp → XK → Prop := fun σ H Q => ta σ H fun vs H1 => ∃ v, vs = [v] ∧ ∀ d, H1 d = none → Q (.ref C) (some d) (upd H1 d (.xd [(("code" : Str), v)]))
theorem pmk_low {a : Expr} {ta : TA} {p pos : Pos} {k : Nat} (T : PySem.LowX.LowTxt X.K X.mg C fI) (hr : Room k X.A) (ha : PA X [a] ta) (hg : Gl X "Refused" := by rfl)
    (he : starEach (a :: []) X.env = (false, eval a X.env) :: starEach [] X.env := by rfl) (hpl : (backTo pos (starEach [] X.env)).any (·.1) = false := by rfl) :
    PMk X (.Call (.Name "Refused" p) [a] [] pos) (tMkLow C ta) := by
  intro pins s σ H Q I h
  refine wpAny_Call_Name_kw (ld_glob I hg T.gC ?_)
  refine PySem.W.callWith_K (h₀ := X.base) I.ok.mod.kin T.kC (thn (ha.run pos pins s σ H _ I h) fun us s1 hh => ?_) he hpl
  obtain ⟨vs, H1, I1, r1, v, ev, q1⟩ := hh
  subst ev
  refine ⟨I1.kIn, ?_⟩
  cases r1 with
  | cons rv rn =>
    rename_i v' us'
    cases rn
    show wpAny _ _ (call (.ref C) [v']) _ _ _
    have hlim := I1.nolimit
    obtain ⟨hp, g, dr, tk, os⟩ := s1
    refine wpAny_call (PySem.LowX.low_made T I1.kIn hlim (by have := hr.dp; omega) fun h' tk' e d M => ?_)
    show MkP X pins σ Q (.ref e) ⟨h', g, dr, tk', os⟩
    obtain ⟨oe, fv, hoe, hc, hd, hdat, h1⟩ := M.obj
    have hns := M.ns
    obtain ⟨G', g1, g2⟩ := restrict h' fun b => decide (b ≠ e)
    have gk : ∀ b, b ≠ e → G'.get? b = h'.get? b := fun b hb => g1 b (decide_eq_true hb)
    have ge : G'.get? e = none := g2 e (by simp)
    have old : ∀ b o, hp.get? b = some o → G'.get? b = some o := fun b o q => (gk b (Nat.ne_of_lt (Nat.lt_of_lt_of_le (Heap.lt_size q) M.new))).trans (M.keep b o q)
    have ob : ObjOk X.prog X.w (upd H1 d (.xd [(("code" : Str), v)])) G' d (.xd [(("code" : Str), v)]) :=
      ⟨_, hns.at (fun o q => (gk d M.dne).trans q), fun f => relO_low rv f⟩
    have J : Inv X pins σ (upd H1 d (.xd [(("code" : Str), v)])) ⟨G', g, dr, tk', os⟩ := I1.laid (t' := tk') old M.dbig ob
    refine ⟨e, oe, fv, ⟨G', g, dr, tk', os⟩, _, .ref C, some d, rfl, J, fun b o q => ?_, ge, hoe, ⟨hc, hd⟩, hdat, h1, ?_, rfl, I1.bare, raises_own T.exC T.tyC, q1 d (I1.hok.fresh M.dbig)⟩
    · by_cases hb : b = e
      · have q' : G'.get? b = some o := q
        rw [hb, ge] at q'; cases q'
      · exact (gk b hb).symm.trans q
    · rw [upd_ne (Ne.symm M.dne)]
      exact I1.hok.fresh M.new
/-- raise Refused(e) -/
def tRaiseLow (C : Addr) (W : WX) (ta : TA) : TS := fun _ σ H => tMkLow C ta σ H fun cls d H' => W cls d σ H'
theorem ps_raiseLow {a : Expr} {ta : TA} {W : WX} {p pos pos2 : Pos} {k : Nat} (hc : X.calm = true) (T : PySem.LowX.LowTxt X.K X.mg C fI) (hr : Room k X.A) (tk : Takes X W) (ha : PA X [a] ta) (hg : Gl X "Refused" := by rfl)
    (he : starEach (a :: []) X.env = (false, eval a X.env) :: starEach [] X.env := by rfl) (hpl : (backTo pos (starEach [] X.env)).any (·.1) = false := by rfl) :
    PS X (.Raise (some (.Call (.Name "Refused" p) [a] [] pos)) none pos2) (tRaiseLow C W ta) := ps_raise hc tk (pmk_low T hr ha hg he hpl)
/-- low.by, low the exception that the suite holds (at a; its class cls, its dict d) -/
def tByLow (C : Addr) (a : Addr) (cls : Value) (d : Option Addr) (te : TE) : TE := fun σ H Q => te σ H fun x H1 => x = .ref a ∧ cls = .ref C ∧ ∃ (dd : Addr) (v : V), d = some dd ∧ H1 dd = some (.xd [(("code" : Str), v)]) ∧ Q v H1
theorem pe_byLow {a : Addr} {oe : Obj} {cls : Value} {d : Option Addr} {pn : List (Addr × Obj)} {e : Expr} {te : TE} {pos : Pos} (T : PySem.LowX.LowTxt X.K X.mg C fI) (hz : Zc cls d oe) (hf : ∃ vs, oe.data = .fields vs) (he : PE (X.suite a ((a, oe) :: pn)) e te)
    (hb : attributeBase e "code" X.env (eval e X.env) = eval e X.env := by rfl) :
    PE (X.suite a ((a, oe) :: pn)) (.Attribute e "code" pos) (tByLow C a cls d te) := by
  refine ⟨fun pins s σ H Q I h => ?_⟩
  refine attr_of hb (thn (he.run pins s σ H _ I h) fun u s1 hh => ?_)
  obtain ⟨x, H1, I1, rx, ex, ec, dd, v, ed, ea, q⟩ := hh
  subst ex
  obtain rfl : u = Value.ref a := rx
  subst ec
  subst ed
  obtain ⟨ha, _⟩ := I1.pin (a, oe) (List.mem_append_left _ List.mem_cons_self)
  obtain ⟨vs, hd⟩ := hf
  have hx : ObjOk X.prog X.w H1 s1.heap dd (.xd [(("code" : Str), v)]) := I1.hok dd _ ea
  obtain ⟨mA, hns, hr⟩ := hx
  obtain ⟨od, ho, hl⟩ := lookIn_ns hns
  have l : List.lookup ("code" : Str) [(("code" : Str), v)] = some v := by simp [List.lookup]
  obtain ⟨u, hu, ru⟩ := RelO.some_of (v := v) (o := mA "code") (by rw [← l]; exact hr "code")
  have J : PySem.W.InstAt s1.heap a oe C (some od) := ⟨ha, hz.1, by unfold PySem.W.notCls; rw [hd] <;> rfl, by rw [hz.2]; exact ho⟩
  exact HandSPX.exc_get I1.kIn J T.ga T.gg T.exC (PySem.W.findObj_own T.hdC T.noN rfl (by rw [hl, hu])) (handed_of ru) ⟨v, H1, I1.tok _, ru, q⟩
end
end L2

namespace L2
open PySem PySem.Spec PyProof.Rows
/-- an if whose test is known -/
theorem if_true_of {c : Bool} {A B : Prop} (hc : c = true) (h : A) : if c = true then A else B := by
  rw [if_pos hc]
  exact h
theorem if_false_of {c : Bool} {A B : Prop} (hc : c = false) (h : B) : if c = true then A else B := by
  rw [hc, if_neg Bool.false_ne_true]
  exact h
end L2

namespace L2
open PySem PySem.Spec PyProof.Rows
/-- o.m(e, ..) within a try: what it raises is wished for at the slots as they stand -/
def tMethS (C : Addr) (m : Str) (sp : Sp) (E : L2.St → XK) (ta : TE) (t : TA) : TE := fun σ H Q => ta σ H fun x H1 => ∃ a dx fs, x = .ref a ∧ H1 a = some (.ins C dx fs) ∧ fs.lookup m = none ∧ t σ H1 fun vs H2 => sp (x :: vs) H2 Q (E σ)
theorem pe_methS {X : Cx} {CX : CXT} {k : Nat} {f C : Addr} {fd : FuncData} {ps : List Str} {sp : Sp} {E : L2.St → XK} {m : Str} {pos apos : Pos} {e o : Expr} {es : List Expr} {ta : TE} {t : TA} {pl : Sem Bool} (he : PE X o ta) (c : Cls X.K C) (hm : Meth X.K C m f)
    (F : FnOk X.prog X.w X.K X.mg X.base CX k f fd ps sp) (hr : Room k X.A) (hb : Binds X.K fd ps []) (hx : ∀ σ, PassesAt CX X σ (E σ)) (ha : PA X (e :: es) t)
    (hst : starEach (e :: es) X.env = (false, eval e X.env) :: starEach es X.env := by rfl) (hpl : (backTo pos (starEach es X.env)).any (·.1) = false := by rfl)
    (ht : eval (.Call (.Attribute o m apos) (e :: es) [] pos) X.env = (do
      let ov ← eval o X.env
      standAt apos.atName
      let (f, first) ← holding [ov] (getMethod ov m pl)
      callWith pos f first (backTo pos (starEach (e :: es) X.env)) (backToKw pos (keywordEach [] X.env))) := by rfl) :
    PE X (.Call (.Attribute o m apos) (e :: es) [] pos) (tMethS C m sp E ta t) := by
  refine ⟨fun pins s σ H Q I h => ?_⟩
  refine PySem.W.methodCall_KW (pl := pl) (thn (he.run pins s σ H _ I h) fun u s1 ⟨x, H1, I1, rx, a, dx, fs, ex, ea, l, q⟩ => ?_) ht
  subst ex
  obtain rfl : u = Value.ref a := rx
  refine getmeth_ok I1 ea c hm l ?_
  refine PySem.W.callWith_K (first := [.ref a]) (h₀ := X.base) I.ok.mod.kin hm.kp (thn (ha.run pos pins s1 σ H1 _ I1 q) fun us s2 ⟨vs, H2, I2, r, q2⟩ => ⟨I2.kIn, ?_⟩) hst hpl
  exact run_fnS (us := .ref a :: us) (vs := .ref a :: vs) F hr hb (hx σ) I2 (.cons rfl r) q2
section
variable {X : Cx}
/-- a module's whole number -/
theorem pe_k {x : Str} {i : Int} {pos : Pos} (hg : Gl X x) (hm : ∃ t, X.mg x = some (.int i t)) (hd : (x == ("__debug__" : Str)) = false := by decide) : PE X (.Name x pos) (tC (.int i)) := by
  obtain ⟨t, h⟩ := hm
  exact pe_glob hg h ⟨t, rfl⟩ hd
/-- as pe_fld, the written part named (within a comprehension) -/
theorem pe_fldK {K : PySem.W.Frag} {e : Expr} {f : Str} {pos : Pos} {ta : TE} (hK : X.K = K) (he : PE X e ta) (hb : attributeBase e f X.env (eval e X.env) = eval e X.env) : PE X (.Attribute e f pos) (tFld K ta f) := by
  subst hK
  exact pe_fld he hb
theorem pg_tupK {K : PySem.W.Frag} {es : List Expr} {k : Nat} {pos : Pos} {t : TGs} {n : Nat} (hK : X.K = K) (hc : X.calm = true) (h : PGs X es t)
    (hn : (assignEach es X.env).length = n := by rfl) (hst : (assignEach es X.env).findIdx? (·.1) = none := by rfl) : PG X (.Tuple es k pos) (gTup K n t) := by
  subst hK
  exact pg_tup hc h hn hst
end
/-- a dict of the module's text with whole numbers for keys -/
structure KInt (K : PySem.W.Frag) (d : Addr) (es : Array DictEntry) (n : Nat) : Prop where
  at_ : K.lookup d = some ⟨.type "dict", none, .dict es n, #[]⟩
  keys : ∀ e ∈ es, ∃ k t, e.key = .int k t ∧ e.hash = hashInt k
  low : (d == sysModules) = false
def rLenK (K : PySem.W.Frag) : List V → Hp → VK → Prop := fun xs H Q => ∃ p ys, xs = [.ref p] ∧ (SqL K H p ys ∨ SqT K H p ys) ∧ Q (.int ys.length) H
end L2
namespace Wk
open PySem PySem.Spec PyProof.Rows L2
def GivenAt (K : PySem.W.Frag) (d : Addr) : Prop := ∃ es n, KInt K d es n ∧ ∀ q : Nat, q ≤ 13 → (findBy Value.isInt es (q : Int) = none ∧ (arity q : Int) = 0) ∨ ∃ t, findBy Value.isInt es (q : Int) = some (.int (arity q : Int) t)
def top (i : Nat) : Stmt := PySem.Challenge.pw_movingmembers_s01_answers.main.body.getD i (.Pass ⟨0, 0, 0, 0⟩)
abbrev s_Node_init : Stmt := inClass (top 10) 0
abbrev n_Node_init : List Str := ["self", "number", "initial"]
abbrev p_Node_init : List Str := ["self", "number", "initial"]
abbrev s_Node_begin : Stmt := inClass (top 10) 1
abbrev n_Node_begin : List Str := ["self"]
abbrev p_Node_begin : List Str := ["self"]
abbrev s_Node_leave : Stmt := inClass (top 10) 2
abbrev n_Node_leave : List Str := ["self"]
abbrev p_Node_leave : List Str := ["self"]
abbrev s_Node_mask : Stmt := inClass (top 10) 3
abbrev n_Node_mask : List Str := ["self", "found", "term", "kind", "value"]
abbrev p_Node_mask : List Str := ["self"]
abbrev s_Node_members : Stmt := inClass (top 10) 4
abbrev n_Node_members : List Str := ["self", "mask", "number"]
abbrev p_Node_members : List Str := ["self"]
abbrev s_Node_others : Stmt := inClass (top 10) 5
abbrev n_Node_others : List Str := ["self", "number"]
abbrev p_Node_others : List Str := ["self"]
abbrev s_Node_is_majority : Stmt := inClass (top 10) 6
abbrev n_Node_is_majority : List Str := ["self", "some", "members", "number"]
abbrev p_Node_is_majority : List Str := ["self", "some"]
abbrev s_Node_term_at : Stmt := inClass (top 10) 7
abbrev n_Node_term_at : List Str := ["self", "position"]
abbrev p_Node_term_at : List Str := ["self", "position"]
abbrev s_Node_last_term : Stmt := inClass (top 10) 8
abbrev n_Node_last_term : List Str := ["self"]
abbrev p_Node_last_term : List Str := ["self"]
abbrev s_Node_has_open_configuration : Stmt := inClass (top 10) 9
abbrev n_Node_has_open_configuration : List Str := ["self", "term", "kind", "value"]
abbrev p_Node_has_open_configuration : List Str := ["self"]
abbrev s_Node_adopt : Stmt := inClass (top 10) 10
abbrev n_Node_adopt : List Str := ["self", "term"]
abbrev p_Node_adopt : List Str := ["self", "term"]
abbrev s_Node_next_commit : Stmt := inClass (top 10) 11
abbrev n_Node_next_commit : List Str := ["self", "position", "some", "number"]
abbrev p_Node_next_commit : List Str := ["self"]
abbrev s_Node_would_vote : Stmt := inClass (top 10) 12
abbrev n_Node_would_vote : List Str := ["self", "term", "candidate", "length", "last_term", "own"]
abbrev p_Node_would_vote : List Str := ["self", "term", "candidate", "length", "last_term"]
abbrev s_Node_take_entries : Stmt := inClass (top 10) 13
abbrev n_Node_take_entries : List Str := ["self", "position", "entries", "many"]
abbrev p_Node_take_entries : List Str := ["self", "position", "entries"]
abbrev s_Node_told : Stmt := inClass (top 10) 14
abbrev n_Node_told : List Str := ["self", "found"]
abbrev p_Node_told : List Str := ["self"]
abbrev s_told_entries : Stmt := top 11
abbrev n_told_entries : List Str := ["entries", "found", "entry"]
abbrev p_told_entries : List Str := ["entries"]
abbrev s_Message_init : Stmt := inClass (top 17) 0
abbrev n_Message_init : List Str := ["self", "kind", "receiver", "sender", "term", "numbers"]
abbrev p_Message_init : List Str := ["self", "kind", "receiver", "sender", "term", "numbers"]
abbrev s_Message_told : Stmt := inClass (top 17) 1
abbrev n_Message_told : List Str := ["self", "found"]
abbrev p_Message_told : List Str := ["self"]
abbrev s_append_of : Stmt := top 18
abbrev n_append_of : List Str := ["node", "receiver", "position", "found"]
abbrev p_append_of : List Str := ["node", "receiver"]
abbrev s_request_of : Stmt := top 19
abbrev n_request_of : List Str := ["node", "receiver"]
abbrev p_request_of : List Str := ["node", "receiver"]
abbrev s_vote_of : Stmt := top 20
abbrev n_vote_of : List Str := ["node", "receiver", "is_granted"]
abbrev p_vote_of : List Str := ["node", "receiver", "is_granted"]
abbrev s_reply_of : Stmt := top 21
abbrev n_reply_of : List Str := ["node", "receiver", "is_success", "number"]
abbrev p_reply_of : List Str := ["node", "receiver", "is_success", "number"]
abbrev s_Running_init : Stmt := inClass (top 31) 0
abbrev n_Running_init : List Str := ["self", "initial", "number"]
abbrev p_Running_init : List Str := ["self", "initial"]
abbrev s_Running_send : Stmt := inClass (top 31) 1
abbrev n_Running_send : List Str := ["self", "message"]
abbrev p_Running_send : List Str := ["self", "message"]
abbrev s_Running_set_commit : Stmt := inClass (top 31) 2
abbrev n_Running_set_commit : List Str := ["self", "node", "commit"]
abbrev p_Running_set_commit : List Str := ["self", "node", "commit"]
abbrev s_Running_advance : Stmt := inClass (top 31) 3
abbrev n_Running_advance : List Str := ["self", "node", "commit"]
abbrev p_Running_advance : List Str := ["self", "node"]
abbrev s_Running_add : Stmt := inClass (top 31) 4
abbrev n_Running_add : List Str := ["self", "node", "kind", "value"]
abbrev p_Running_add : List Str := ["self", "node", "kind", "value"]
abbrev s_Running_heartbeat : Stmt := inClass (top 31) 5
abbrev n_Running_heartbeat : List Str := ["self", "node", "others", "receiver"]
abbrev p_Running_heartbeat : List Str := ["self", "node"]
abbrev s_Running_lead : Stmt := inClass (top 31) 6
abbrev n_Running_lead : List Str := ["self", "node", "number"]
abbrev p_Running_lead : List Str := ["self", "node"]
abbrev s_Running_elect : Stmt := inClass (top 31) 7
abbrev n_Running_elect : List Str := ["self", "node", "receiver"]
abbrev p_Running_elect : List Str := ["self", "node"]
abbrev s_Running_receive : Stmt := inClass (top 31) 8
abbrev n_Running_receive : List Str := ["self", "message", "node"]
abbrev p_Running_receive : List Str := ["self", "message"]
abbrev s_Running_receive_request : Stmt := inClass (top 31) 9
abbrev n_Running_receive_request : List Str := ["self", "node", "message", "is_granted"]
abbrev p_Running_receive_request : List Str := ["self", "node", "message"]
abbrev s_Running_receive_vote : Stmt := inClass (top 31) 10
abbrev n_Running_receive_vote : List Str := ["self", "node", "message"]
abbrev p_Running_receive_vote : List Str := ["self", "node", "message"]
abbrev s_Running_receive_append : Stmt := inClass (top 31) 11
abbrev n_Running_receive_append : List Str := ["self", "node", "message", "position", "behind"]
abbrev p_Running_receive_append : List Str := ["self", "node", "message"]
abbrev s_Running_receive_reply : Stmt := inClass (top 31) 12
abbrev n_Running_receive_reply : List Str := ["self", "node", "message", "sender"]
abbrev p_Running_receive_reply : List Str := ["self", "node", "message"]
abbrev s_need : Stmt := top 41
abbrev n_need : List Str := ["is_right", "code"]
abbrev p_need : List Str := ["is_right", "code"]
abbrev s_Desk_init : Stmt := inClass (top 42) 0
abbrev n_Desk_init : List Str := ["self"]
abbrev p_Desk_init : List Str := ["self"]
abbrev s_Desk_begin : Stmt := inClass (top 42) 1
abbrev n_Desk_begin : List Str := ["self", "members", "right", "number"]
abbrev p_Desk_begin : List Str := ["self", "members"]
abbrev s_Desk_node : Stmt := inClass (top 42) 2
abbrev n_Desk_node : List Str := ["self", "number"]
abbrev p_Desk_node : List Str := ["self", "number"]
abbrev s_Desk_leader : Stmt := inClass (top 42) 3
abbrev n_Desk_leader : List Str := ["self", "number", "found"]
abbrev p_Desk_leader : List Str := ["self", "number"]
abbrev s_Desk_start_election : Stmt := inClass (top 42) 4
abbrev n_Desk_start_election : List Str := ["self", "number", "node"]
abbrev p_Desk_start_election : List Str := ["self", "number"]
abbrev s_Desk_propose : Stmt := inClass (top 42) 5
abbrev n_Desk_propose : List Str := ["self", "number", "command"]
abbrev p_Desk_propose : List Str := ["self", "number", "command"]
abbrev s_Desk_change_member : Stmt := inClass (top 42) 6
abbrev n_Desk_change_member : List Str := ["self", "number", "member", "node", "mask", "bit"]
abbrev p_Desk_change_member : List Str := ["self", "number", "member"]
abbrev s_Desk_heartbeat : Stmt := inClass (top 42) 7
abbrev n_Desk_heartbeat : List Str := ["self", "number"]
abbrev p_Desk_heartbeat : List Str := ["self", "number"]
abbrev s_Desk_message : Stmt := inClass (top 42) 8
abbrev n_Desk_message : List Str := ["self", "number"]
abbrev p_Desk_message : List Str := ["self", "number"]
abbrev s_Desk_deliver : Stmt := inClass (top 42) 9
abbrev n_Desk_deliver : List Str := ["self", "number", "message"]
abbrev p_Desk_deliver : List Str := ["self", "number"]
abbrev s_Desk_drop : Stmt := inClass (top 42) 10
abbrev n_Desk_drop : List Str := ["self", "number"]
abbrev p_Desk_drop : List Str := ["self", "number"]
abbrev s_Desk_stop : Stmt := inClass (top 42) 11
abbrev n_Desk_stop : List Str := ["self", "number", "node"]
abbrev p_Desk_stop : List Str := ["self", "number"]
abbrev s_Desk_restart : Stmt := inClass (top 42) 12
abbrev n_Desk_restart : List Str := ["self", "number", "node"]
abbrev p_Desk_restart : List Str := ["self", "number"]
abbrev s_Desk_told_messages : Stmt := inClass (top 42) 13
abbrev n_Desk_told_messages : List Str := ["self", "found", "message"]
abbrev p_Desk_told_messages : List Str := ["self"]
abbrev s_Desk_told_leaders : Stmt := inClass (top 42) 14
abbrev n_Desk_told_leaders : List Str := ["self", "found", "row"]
abbrev p_Desk_told_leaders : List Str := ["self"]
abbrev s_Desk_change : Stmt := inClass (top 42) 15
abbrev n_Desk_change : List Str := ["self", "place", "given"]
abbrev p_Desk_change : List Str := ["self", "place", "given"]
abbrev s_Desk_later : Stmt := inClass (top 42) 16
abbrev n_Desk_later : List Str := ["self", "place", "given"]
abbrev p_Desk_later : List Str := ["self", "place", "given"]
abbrev s_Desk_answer : Stmt := inClass (top 42) 17
abbrev n_Desk_answer : List Str := ["self", "place", "given", "refused"]
abbrev p_Desk_answer : List Str := ["self", "place", "given"]
abbrev s_answers : Stmt := top 45
abbrev n_answers : List Str := ["calls", "desk", "at", "found", "place", "many", "answer"]
abbrev p_answers : List Str := ["calls"]
structure Ad where
  c_Node : Addr
  c_Message : Addr
  c_Running : Addr
  c_Refused : Addr
  c_Desk : Addr
  f_Node_init : Addr
  f_Node_begin : Addr
  f_Node_leave : Addr
  f_Node_mask : Addr
  f_Node_members : Addr
  f_Node_others : Addr
  f_Node_is_majority : Addr
  f_Node_term_at : Addr
  f_Node_last_term : Addr
  f_Node_has_open_configuration : Addr
  f_Node_adopt : Addr
  f_Node_next_commit : Addr
  f_Node_would_vote : Addr
  f_Node_take_entries : Addr
  f_Node_told : Addr
  f_told_entries : Addr
  f_Message_init : Addr
  f_Message_told : Addr
  f_append_of : Addr
  f_request_of : Addr
  f_vote_of : Addr
  f_reply_of : Addr
  f_Running_init : Addr
  f_Running_send : Addr
  f_Running_set_commit : Addr
  f_Running_advance : Addr
  f_Running_add : Addr
  f_Running_heartbeat : Addr
  f_Running_lead : Addr
  f_Running_elect : Addr
  f_Running_receive : Addr
  f_Running_receive_request : Addr
  f_Running_receive_vote : Addr
  f_Running_receive_append : Addr
  f_Running_receive_reply : Addr
  f_need : Addr
  f_Desk_init : Addr
  f_Desk_begin : Addr
  f_Desk_node : Addr
  f_Desk_leader : Addr
  f_Desk_start_election : Addr
  f_Desk_propose : Addr
  f_Desk_change_member : Addr
  f_Desk_heartbeat : Addr
  f_Desk_message : Addr
  f_Desk_deliver : Addr
  f_Desk_drop : Addr
  f_Desk_stop : Addr
  f_Desk_restart : Addr
  f_Desk_told_messages : Addr
  f_Desk_told_leaders : Addr
  f_Desk_change : Addr
  f_Desk_later : Addr
  f_Desk_answer : Addr
  f_answers : Addr
  f_Refused : Addr
  a_BITS : Addr
  a_GIVEN : Addr
structure Txt (K : PySem.W.Frag) (mg : Str → Option Value) (A : Ad) : Prop where
  cl_Node : Cls K A.c_Node
  mk_Node : Mk K A.c_Node A.f_Node_init
  g_Node : mg "Node" = some (.ref A.c_Node)
  na_Node_number : NoAttr K A.c_Node "number"
  na_Node_initial : NoAttr K A.c_Node "initial"
  na_Node_is_running : NoAttr K A.c_Node "is_running"
  na_Node_term : NoAttr K A.c_Node "term"
  na_Node_voted : NoAttr K A.c_Node "voted"
  na_Node_log : NoAttr K A.c_Node "log"
  na_Node_role : NoAttr K A.c_Node "role"
  na_Node_commit : NoAttr K A.c_Node "commit"
  na_Node_votes : NoAttr K A.c_Node "votes"
  na_Node_nexts : NoAttr K A.c_Node "nexts"
  na_Node_matches : NoAttr K A.c_Node "matches"
  cl_Message : Cls K A.c_Message
  mk_Message : Mk K A.c_Message A.f_Message_init
  g_Message : mg "Message" = some (.ref A.c_Message)
  na_Message_kind : NoAttr K A.c_Message "kind"
  na_Message_receiver : NoAttr K A.c_Message "receiver"
  na_Message_sender : NoAttr K A.c_Message "sender"
  na_Message_term : NoAttr K A.c_Message "term"
  na_Message_numbers : NoAttr K A.c_Message "numbers"
  na_Message_entries : NoAttr K A.c_Message "entries"
  na_Message_commit : NoAttr K A.c_Message "commit"
  cl_Running : Cls K A.c_Running
  mk_Running : Mk K A.c_Running A.f_Running_init
  g_Running : mg "Running" = some (.ref A.c_Running)
  na_Running_nodes : NoAttr K A.c_Running "nodes"
  na_Running_messages : NoAttr K A.c_Running "messages"
  na_Running_committed : NoAttr K A.c_Running "committed"
  na_Running_leaders : NoAttr K A.c_Running "leaders"
  cl_Desk : Cls K A.c_Desk
  mk_Desk : Mk K A.c_Desk A.f_Desk_init
  g_Desk : mg "Desk" = some (.ref A.c_Desk)
  na_Desk_running : NoAttr K A.c_Desk "running"
  F_Node_init : ∃ fd, Fun K "__init__" "Node.__init__" s_Node_init A.f_Node_init fd
  F_Node_begin : ∃ fd, Fun K "begin" "Node.begin" s_Node_begin A.f_Node_begin fd
  m_Node_begin : Meth K A.c_Node "begin" A.f_Node_begin
  F_Node_leave : ∃ fd, Fun K "leave" "Node.leave" s_Node_leave A.f_Node_leave fd
  m_Node_leave : Meth K A.c_Node "leave" A.f_Node_leave
  F_Node_mask : ∃ fd, Fun K "mask" "Node.mask" s_Node_mask A.f_Node_mask fd
  m_Node_mask : Meth K A.c_Node "mask" A.f_Node_mask
  F_Node_members : ∃ fd, Fun K "members" "Node.members" s_Node_members A.f_Node_members fd
  m_Node_members : Meth K A.c_Node "members" A.f_Node_members
  F_Node_others : ∃ fd, Fun K "others" "Node.others" s_Node_others A.f_Node_others fd
  m_Node_others : Meth K A.c_Node "others" A.f_Node_others
  F_Node_is_majority : ∃ fd, Fun K "is_majority" "Node.is_majority" s_Node_is_majority A.f_Node_is_majority fd
  m_Node_is_majority : Meth K A.c_Node "is_majority" A.f_Node_is_majority
  F_Node_term_at : ∃ fd, Fun K "term_at" "Node.term_at" s_Node_term_at A.f_Node_term_at fd
  m_Node_term_at : Meth K A.c_Node "term_at" A.f_Node_term_at
  F_Node_last_term : ∃ fd, Fun K "last_term" "Node.last_term" s_Node_last_term A.f_Node_last_term fd
  m_Node_last_term : Meth K A.c_Node "last_term" A.f_Node_last_term
  F_Node_has_open_configuration : ∃ fd, Fun K "has_open_configuration" "Node.has_open_configuration" s_Node_has_open_configuration A.f_Node_has_open_configuration fd
  m_Node_has_open_configuration : Meth K A.c_Node "has_open_configuration" A.f_Node_has_open_configuration
  F_Node_adopt : ∃ fd, Fun K "adopt" "Node.adopt" s_Node_adopt A.f_Node_adopt fd
  m_Node_adopt : Meth K A.c_Node "adopt" A.f_Node_adopt
  F_Node_next_commit : ∃ fd, Fun K "next_commit" "Node.next_commit" s_Node_next_commit A.f_Node_next_commit fd
  m_Node_next_commit : Meth K A.c_Node "next_commit" A.f_Node_next_commit
  F_Node_would_vote : ∃ fd, Fun K "would_vote" "Node.would_vote" s_Node_would_vote A.f_Node_would_vote fd
  m_Node_would_vote : Meth K A.c_Node "would_vote" A.f_Node_would_vote
  F_Node_take_entries : ∃ fd, Fun K "take_entries" "Node.take_entries" s_Node_take_entries A.f_Node_take_entries fd
  m_Node_take_entries : Meth K A.c_Node "take_entries" A.f_Node_take_entries
  F_Node_told : ∃ fd, Fun K "told" "Node.told" s_Node_told A.f_Node_told fd
  m_Node_told : Meth K A.c_Node "told" A.f_Node_told
  F_told_entries : ∃ fd, Fun K "told_entries" "told_entries" s_told_entries A.f_told_entries fd
  g_told_entries : mg "told_entries" = some (.ref A.f_told_entries)
  k_told_entries : PySem.W.keepIn K (.ref A.f_told_entries) = true
  F_Message_init : ∃ fd, Fun K "__init__" "Message.__init__" s_Message_init A.f_Message_init fd
  F_Message_told : ∃ fd, Fun K "told" "Message.told" s_Message_told A.f_Message_told fd
  m_Message_told : Meth K A.c_Message "told" A.f_Message_told
  F_append_of : ∃ fd, Fun K "append_of" "append_of" s_append_of A.f_append_of fd
  g_append_of : mg "append_of" = some (.ref A.f_append_of)
  k_append_of : PySem.W.keepIn K (.ref A.f_append_of) = true
  F_request_of : ∃ fd, Fun K "request_of" "request_of" s_request_of A.f_request_of fd
  g_request_of : mg "request_of" = some (.ref A.f_request_of)
  k_request_of : PySem.W.keepIn K (.ref A.f_request_of) = true
  F_vote_of : ∃ fd, Fun K "vote_of" "vote_of" s_vote_of A.f_vote_of fd
  g_vote_of : mg "vote_of" = some (.ref A.f_vote_of)
  k_vote_of : PySem.W.keepIn K (.ref A.f_vote_of) = true
  F_reply_of : ∃ fd, Fun K "reply_of" "reply_of" s_reply_of A.f_reply_of fd
  g_reply_of : mg "reply_of" = some (.ref A.f_reply_of)
  k_reply_of : PySem.W.keepIn K (.ref A.f_reply_of) = true
  F_Running_init : ∃ fd, Fun K "__init__" "Running.__init__" s_Running_init A.f_Running_init fd
  F_Running_send : ∃ fd, Fun K "send" "Running.send" s_Running_send A.f_Running_send fd
  m_Running_send : Meth K A.c_Running "send" A.f_Running_send
  F_Running_set_commit : ∃ fd, Fun K "set_commit" "Running.set_commit" s_Running_set_commit A.f_Running_set_commit fd
  m_Running_set_commit : Meth K A.c_Running "set_commit" A.f_Running_set_commit
  F_Running_advance : ∃ fd, Fun K "advance" "Running.advance" s_Running_advance A.f_Running_advance fd
  m_Running_advance : Meth K A.c_Running "advance" A.f_Running_advance
  F_Running_add : ∃ fd, Fun K "add" "Running.add" s_Running_add A.f_Running_add fd
  m_Running_add : Meth K A.c_Running "add" A.f_Running_add
  F_Running_heartbeat : ∃ fd, Fun K "heartbeat" "Running.heartbeat" s_Running_heartbeat A.f_Running_heartbeat fd
  m_Running_heartbeat : Meth K A.c_Running "heartbeat" A.f_Running_heartbeat
  F_Running_lead : ∃ fd, Fun K "lead" "Running.lead" s_Running_lead A.f_Running_lead fd
  m_Running_lead : Meth K A.c_Running "lead" A.f_Running_lead
  F_Running_elect : ∃ fd, Fun K "elect" "Running.elect" s_Running_elect A.f_Running_elect fd
  m_Running_elect : Meth K A.c_Running "elect" A.f_Running_elect
  F_Running_receive : ∃ fd, Fun K "receive" "Running.receive" s_Running_receive A.f_Running_receive fd
  m_Running_receive : Meth K A.c_Running "receive" A.f_Running_receive
  F_Running_receive_request : ∃ fd, Fun K "receive_request" "Running.receive_request" s_Running_receive_request A.f_Running_receive_request fd
  m_Running_receive_request : Meth K A.c_Running "receive_request" A.f_Running_receive_request
  F_Running_receive_vote : ∃ fd, Fun K "receive_vote" "Running.receive_vote" s_Running_receive_vote A.f_Running_receive_vote fd
  m_Running_receive_vote : Meth K A.c_Running "receive_vote" A.f_Running_receive_vote
  F_Running_receive_append : ∃ fd, Fun K "receive_append" "Running.receive_append" s_Running_receive_append A.f_Running_receive_append fd
  m_Running_receive_append : Meth K A.c_Running "receive_append" A.f_Running_receive_append
  F_Running_receive_reply : ∃ fd, Fun K "receive_reply" "Running.receive_reply" s_Running_receive_reply A.f_Running_receive_reply fd
  m_Running_receive_reply : Meth K A.c_Running "receive_reply" A.f_Running_receive_reply
  F_need : ∃ fd, Fun K "need" "need" s_need A.f_need fd
  g_need : mg "need" = some (.ref A.f_need)
  k_need : PySem.W.keepIn K (.ref A.f_need) = true
  F_Desk_init : ∃ fd, Fun K "__init__" "Desk.__init__" s_Desk_init A.f_Desk_init fd
  F_Desk_begin : ∃ fd, Fun K "begin" "Desk.begin" s_Desk_begin A.f_Desk_begin fd
  m_Desk_begin : Meth K A.c_Desk "begin" A.f_Desk_begin
  F_Desk_node : ∃ fd, Fun K "node" "Desk.node" s_Desk_node A.f_Desk_node fd
  m_Desk_node : Meth K A.c_Desk "node" A.f_Desk_node
  F_Desk_leader : ∃ fd, Fun K "leader" "Desk.leader" s_Desk_leader A.f_Desk_leader fd
  m_Desk_leader : Meth K A.c_Desk "leader" A.f_Desk_leader
  F_Desk_start_election : ∃ fd, Fun K "start_election" "Desk.start_election" s_Desk_start_election A.f_Desk_start_election fd
  m_Desk_start_election : Meth K A.c_Desk "start_election" A.f_Desk_start_election
  F_Desk_propose : ∃ fd, Fun K "propose" "Desk.propose" s_Desk_propose A.f_Desk_propose fd
  m_Desk_propose : Meth K A.c_Desk "propose" A.f_Desk_propose
  F_Desk_change_member : ∃ fd, Fun K "change_member" "Desk.change_member" s_Desk_change_member A.f_Desk_change_member fd
  m_Desk_change_member : Meth K A.c_Desk "change_member" A.f_Desk_change_member
  F_Desk_heartbeat : ∃ fd, Fun K "heartbeat" "Desk.heartbeat" s_Desk_heartbeat A.f_Desk_heartbeat fd
  m_Desk_heartbeat : Meth K A.c_Desk "heartbeat" A.f_Desk_heartbeat
  F_Desk_message : ∃ fd, Fun K "message" "Desk.message" s_Desk_message A.f_Desk_message fd
  m_Desk_message : Meth K A.c_Desk "message" A.f_Desk_message
  F_Desk_deliver : ∃ fd, Fun K "deliver" "Desk.deliver" s_Desk_deliver A.f_Desk_deliver fd
  m_Desk_deliver : Meth K A.c_Desk "deliver" A.f_Desk_deliver
  F_Desk_drop : ∃ fd, Fun K "drop" "Desk.drop" s_Desk_drop A.f_Desk_drop fd
  m_Desk_drop : Meth K A.c_Desk "drop" A.f_Desk_drop
  F_Desk_stop : ∃ fd, Fun K "stop" "Desk.stop" s_Desk_stop A.f_Desk_stop fd
  m_Desk_stop : Meth K A.c_Desk "stop" A.f_Desk_stop
  F_Desk_restart : ∃ fd, Fun K "restart" "Desk.restart" s_Desk_restart A.f_Desk_restart fd
  m_Desk_restart : Meth K A.c_Desk "restart" A.f_Desk_restart
  F_Desk_told_messages : ∃ fd, Fun K "told_messages" "Desk.told_messages" s_Desk_told_messages A.f_Desk_told_messages fd
  m_Desk_told_messages : Meth K A.c_Desk "told_messages" A.f_Desk_told_messages
  F_Desk_told_leaders : ∃ fd, Fun K "told_leaders" "Desk.told_leaders" s_Desk_told_leaders A.f_Desk_told_leaders fd
  m_Desk_told_leaders : Meth K A.c_Desk "told_leaders" A.f_Desk_told_leaders
  F_Desk_change : ∃ fd, Fun K "change" "Desk.change" s_Desk_change A.f_Desk_change fd
  m_Desk_change : Meth K A.c_Desk "change" A.f_Desk_change
  F_Desk_later : ∃ fd, Fun K "later" "Desk.later" s_Desk_later A.f_Desk_later fd
  m_Desk_later : Meth K A.c_Desk "later" A.f_Desk_later
  F_Desk_answer : ∃ fd, Fun K "answer" "Desk.answer" s_Desk_answer A.f_Desk_answer fd
  m_Desk_answer : Meth K A.c_Desk "answer" A.f_Desk_answer
  F_answers : ∃ fd, Fun K "answers" "answers" s_answers A.f_answers fd
  g_answers : mg "answers" = some (.ref A.f_answers)
  k_answers : PySem.W.keepIn K (.ref A.f_answers) = true
  c_MANY : ∃ t, mg "MANY" = some (.int (5) t)
  c_NOBODY : ∃ t, mg "NOBODY" = some (.int (-1) t)
  c_FOLLOWER : ∃ t, mg "FOLLOWER" = some (.int (0) t)
  c_CANDIDATE : ∃ t, mg "CANDIDATE" = some (.int (1) t)
  c_LEADER : ∃ t, mg "LEADER" = some (.int (2) t)
  c_COMMAND : ∃ t, mg "COMMAND" = some (.int (0) t)
  c_CONFIGURATION : ∃ t, mg "CONFIGURATION" = some (.int (1) t)
  c_EMPTY : ∃ t, mg "EMPTY" = some (.int (2) t)
  c_REQUEST : ∃ t, mg "REQUEST" = some (.int (0) t)
  c_VOTE : ∃ t, mg "VOTE" = some (.int (1) t)
  c_APPEND : ∃ t, mg "APPEND" = some (.int (2) t)
  c_REPLY : ∃ t, mg "REPLY" = some (.int (3) t)
  c_MOST_MESSAGES : ∃ t, mg "MOST_MESSAGES" = some (.int (100) t)
  c_IGNORED : ∃ t, mg "IGNORED" = some (.int (0) t)
  c_REPLIED : ∃ t, mg "REPLIED" = some (.int (1) t)
  c_COUNTED : ∃ t, mg "COUNTED" = some (.int (2) t)
  c_LEADS : ∃ t, mg "LEADS" = some (.int (3) t)
  c_INCREASED : ∃ t, mg "INCREASED" = some (.int (4) t)
  c_ADOPTED : ∃ t, mg "ADOPTED" = some (.int (5) t)
  c_NO_SUCCESS : ∃ t, mg "NO_SUCCESS" = some (.int (6) t)
  c_OUT : ∃ t, mg "OUT" = some (.int (-1) t)
  c_WRONG_ROLE : ∃ t, mg "WRONG_ROLE" = some (.int (-2) t)
  c_STOPPED : ∃ t, mg "STOPPED" = some (.int (-3) t)
  c_NOT_NOW : ∃ t, mg "NOT_NOW" = some (.int (-6) t)
  c_NO_MEMBER : ∃ t, mg "NO_MEMBER" = some (.int (-7) t)
  c_NO_NODES : ∃ t, mg "NO_NODES" = some (.int (-9) t)
  c_MOST_COMMAND : ∃ t, mg "MOST_COMMAND" = some (.int (99) t)
  b_int : mg "int" = none
  b_len : mg "len" = none
  b_list : mg "list" = none
  b_max : mg "max" = none
  b_min : mg "min" = none
  b_range : mg "range" = none
  b_set : mg "set" = none
  b_sum : mg "sum" = none
  g_BITS : mg "BITS" = some (.ref A.a_BITS)
  bits : ∃ (o : Obj) (its : Array Value) (n : Nat), K.lookup A.a_BITS = some o ∧ o.cls = .type "tuple" ∧ o.data = .seq its n ∧ its.size ≤ sizeLine ∧ Vals [.int 1, .int 2, .int 4, .int 8, .int 16] its.toList
  g_GIVEN : mg "GIVEN" = some (.ref A.a_GIVEN)
  given : GivenAt K A.a_GIVEN
  low : PySem.LowX.LowTxt K mg A.c_Refused A.f_Refused
end Wk
end

section
set_option Elab.async false
set_option linter.all false
set_option maxRecDepth 100000
set_option maxHeartbeats 4000000
namespace Wk
open PySem PySem.Spec PyProof.Rows L2
abbrev Ent := Ag12.Entry
abbrev Lett := Ag12.Letter
/-! ### numbers, lists, fields -/
def vn (n : Nat) : V := .int (n : Int)
def nl (l : List Nat) : List V := l.map vn
theorem nl_append (l m : List Nat) : nl (l ++ m) = nl l ++ nl m := List.map_append
theorem nl_len (l : List Nat) : (nl l).length = l.length := List.length_map ..
theorem lk_here {k : Str} {v : V} {r : List (Str × V)} : List.lookup k ((k, v) :: r) = some v := by
  have e : (k == k) = true := beq_self_eq_true k
  simp only [List.lookup, e]
theorem lk_past {k g : Str} {v : V} {r : List (Str × V)} (h : (k == g) = false) : List.lookup k ((g, v) :: r) = List.lookup k r := by
  simp only [List.lookup, h]
theorem put_here {f : Str} {v x : V} {r : List (Str × V)} : putF f v ((f, x) :: r) = (f, v) :: r := if_pos rfl
theorem put_past {f g : Str} {v x : V} {r : List (Str × V)} (h : ¬ g = f) : putF f v ((g, x) :: r) = (g, x) :: putF f v r := if_neg h
structure NR where
  number : Nat
  initial : Nat
  up : Bool
  term : Nat
  voted : Int
  log : Addr
  role : Nat
  done : Nat
  votes : Addr
  nexts : Addr
  mats : Addr
def nF (r : NR) : List (Str × V) := [("number", vn r.number), ("initial", vn r.initial), ("is_running", .bl r.up), ("term", vn r.term), ("voted", .int r.voted), ("log", .ref r.log), ("role", vn r.role), ("commit", vn r.done), ("votes", .ref r.votes), ("nexts", .ref r.nexts), ("matches", .ref r.mats)]
theorem lk_Node_number (r : NR) : (nF r).lookup ("number" : Str) = some (vn r.number) := lk_here
theorem pt_Node_number (r : NR) (y : Nat) : putF "number" (vn y) (nF r) = nF { r with number := y } := put_here
theorem lk_Node_initial (r : NR) : (nF r).lookup ("initial" : Str) = some (vn r.initial) := ((lk_past (by decide +kernel)).trans lk_here)
theorem pt_Node_initial (r : NR) (y : Nat) : putF "initial" (vn y) (nF r) = nF { r with initial := y } := ((put_past (by decide +kernel)).trans (congrArg _ put_here))
theorem lk_Node_is_running (r : NR) : (nF r).lookup ("is_running" : Str) = some (.bl r.up) := ((lk_past (by decide +kernel)).trans ((lk_past (by decide +kernel)).trans lk_here))
theorem pt_Node_is_running (r : NR) (y : Bool) : putF "is_running" (.bl y) (nF r) = nF { r with up := y } := ((put_past (by decide +kernel)).trans (congrArg _ ((put_past (by decide +kernel)).trans (congrArg _ put_here))))
theorem lk_Node_term (r : NR) : (nF r).lookup ("term" : Str) = some (vn r.term) := ((lk_past (by decide +kernel)).trans ((lk_past (by decide +kernel)).trans ((lk_past (by decide +kernel)).trans lk_here)))
theorem pt_Node_term (r : NR) (y : Nat) : putF "term" (vn y) (nF r) = nF { r with term := y } := ((put_past (by decide +kernel)).trans (congrArg _ ((put_past (by decide +kernel)).trans (congrArg _ ((put_past (by decide +kernel)).trans (congrArg _ put_here))))))
theorem lk_Node_voted (r : NR) : (nF r).lookup ("voted" : Str) = some (.int r.voted) := ((lk_past (by decide +kernel)).trans ((lk_past (by decide +kernel)).trans ((lk_past (by decide +kernel)).trans ((lk_past (by decide +kernel)).trans lk_here))))
theorem pt_Node_voted (r : NR) (y : Int) : putF "voted" (.int y) (nF r) = nF { r with voted := y } := ((put_past (by decide +kernel)).trans (congrArg _ ((put_past (by decide +kernel)).trans (congrArg _ ((put_past (by decide +kernel)).trans (congrArg _ ((put_past (by decide +kernel)).trans (congrArg _ put_here))))))))
theorem lk_Node_log (r : NR) : (nF r).lookup ("log" : Str) = some (.ref r.log) := ((lk_past (by decide +kernel)).trans ((lk_past (by decide +kernel)).trans ((lk_past (by decide +kernel)).trans ((lk_past (by decide +kernel)).trans ((lk_past (by decide +kernel)).trans lk_here)))))
theorem pt_Node_log (r : NR) (y : Addr) : putF "log" (.ref y) (nF r) = nF { r with log := y } := ((put_past (by decide +kernel)).trans (congrArg _ ((put_past (by decide +kernel)).trans (congrArg _ ((put_past (by decide +kernel)).trans (congrArg _ ((put_past (by decide +kernel)).trans (congrArg _ ((put_past (by decide +kernel)).trans (congrArg _ put_here))))))))))
theorem lk_Node_role (r : NR) : (nF r).lookup ("role" : Str) = some (vn r.role) := ((lk_past (by decide +kernel)).trans ((lk_past (by decide +kernel)).trans ((lk_past (by decide +kernel)).trans ((lk_past (by decide +kernel)).trans ((lk_past (by decide +kernel)).trans ((lk_past (by decide +kernel)).trans lk_here))))))
theorem pt_Node_role (r : NR) (y : Nat) : putF "role" (vn y) (nF r) = nF { r with role := y } := ((put_past (by decide +kernel)).trans (congrArg _ ((put_past (by decide +kernel)).trans (congrArg _ ((put_past (by decide +kernel)).trans (congrArg _ ((put_past (by decide +kernel)).trans (congrArg _ ((put_past (by decide +kernel)).trans (congrArg _ ((put_past (by decide +kernel)).trans (congrArg _ put_here))))))))))))
theorem lk_Node_commit (r : NR) : (nF r).lookup ("commit" : Str) = some (vn r.done) := ((lk_past (by decide +kernel)).trans ((lk_past (by decide +kernel)).trans ((lk_past (by decide +kernel)).trans ((lk_past (by decide +kernel)).trans ((lk_past (by decide +kernel)).trans ((lk_past (by decide +kernel)).trans ((lk_past (by decide +kernel)).trans lk_here)))))))
theorem pt_Node_commit (r : NR) (y : Nat) : putF "commit" (vn y) (nF r) = nF { r with done := y } := ((put_past (by decide +kernel)).trans (congrArg _ ((put_past (by decide +kernel)).trans (congrArg _ ((put_past (by decide +kernel)).trans (congrArg _ ((put_past (by decide +kernel)).trans (congrArg _ ((put_past (by decide +kernel)).trans (congrArg _ ((put_past (by decide +kernel)).trans (congrArg _ ((put_past (by decide +kernel)).trans (congrArg _ put_here))))))))))))))
theorem lk_Node_votes (r : NR) : (nF r).lookup ("votes" : Str) = some (.ref r.votes) := ((lk_past (by decide +kernel)).trans ((lk_past (by decide +kernel)).trans ((lk_past (by decide +kernel)).trans ((lk_past (by decide +kernel)).trans ((lk_past (by decide +kernel)).trans ((lk_past (by decide +kernel)).trans ((lk_past (by decide +kernel)).trans ((lk_past (by decide +kernel)).trans lk_here))))))))
theorem pt_Node_votes (r : NR) (y : Addr) : putF "votes" (.ref y) (nF r) = nF { r with votes := y } := ((put_past (by decide +kernel)).trans (congrArg _ ((put_past (by decide +kernel)).trans (congrArg _ ((put_past (by decide +kernel)).trans (congrArg _ ((put_past (by decide +kernel)).trans (congrArg _ ((put_past (by decide +kernel)).trans (congrArg _ ((put_past (by decide +kernel)).trans (congrArg _ ((put_past (by decide +kernel)).trans (congrArg _ ((put_past (by decide +kernel)).trans (congrArg _ put_here))))))))))))))))
theorem lk_Node_nexts (r : NR) : (nF r).lookup ("nexts" : Str) = some (.ref r.nexts) := ((lk_past (by decide +kernel)).trans ((lk_past (by decide +kernel)).trans ((lk_past (by decide +kernel)).trans ((lk_past (by decide +kernel)).trans ((lk_past (by decide +kernel)).trans ((lk_past (by decide +kernel)).trans ((lk_past (by decide +kernel)).trans ((lk_past (by decide +kernel)).trans ((lk_past (by decide +kernel)).trans lk_here)))))))))
theorem pt_Node_nexts (r : NR) (y : Addr) : putF "nexts" (.ref y) (nF r) = nF { r with nexts := y } := ((put_past (by decide +kernel)).trans (congrArg _ ((put_past (by decide +kernel)).trans (congrArg _ ((put_past (by decide +kernel)).trans (congrArg _ ((put_past (by decide +kernel)).trans (congrArg _ ((put_past (by decide +kernel)).trans (congrArg _ ((put_past (by decide +kernel)).trans (congrArg _ ((put_past (by decide +kernel)).trans (congrArg _ ((put_past (by decide +kernel)).trans (congrArg _ ((put_past (by decide +kernel)).trans (congrArg _ put_here))))))))))))))))))
theorem lk_Node_matches (r : NR) : (nF r).lookup ("matches" : Str) = some (.ref r.mats) := ((lk_past (by decide +kernel)).trans ((lk_past (by decide +kernel)).trans ((lk_past (by decide +kernel)).trans ((lk_past (by decide +kernel)).trans ((lk_past (by decide +kernel)).trans ((lk_past (by decide +kernel)).trans ((lk_past (by decide +kernel)).trans ((lk_past (by decide +kernel)).trans ((lk_past (by decide +kernel)).trans ((lk_past (by decide +kernel)).trans lk_here))))))))))
theorem pt_Node_matches (r : NR) (y : Addr) : putF "matches" (.ref y) (nF r) = nF { r with mats := y } := ((put_past (by decide +kernel)).trans (congrArg _ ((put_past (by decide +kernel)).trans (congrArg _ ((put_past (by decide +kernel)).trans (congrArg _ ((put_past (by decide +kernel)).trans (congrArg _ ((put_past (by decide +kernel)).trans (congrArg _ ((put_past (by decide +kernel)).trans (congrArg _ ((put_past (by decide +kernel)).trans (congrArg _ ((put_past (by decide +kernel)).trans (congrArg _ ((put_past (by decide +kernel)).trans (congrArg _ ((put_past (by decide +kernel)).trans (congrArg _ put_here))))))))))))))))))))
theorem nw_Node_number (v0 : V) : putF "number" v0 ([] : List (Str × V)) = ([("number", v0)] : List (Str × V)) := rfl
theorem nw_Node_initial (v0 v1 : V) : putF "initial" v1 ([("number", v0)] : List (Str × V)) = ([("number", v0), ("initial", v1)] : List (Str × V)) := ((put_past (by decide +kernel)).trans (congrArg _ rfl))
theorem nw_Node_is_running (v0 v1 v2 : V) : putF "is_running" v2 ([("number", v0), ("initial", v1)] : List (Str × V)) = ([("number", v0), ("initial", v1), ("is_running", v2)] : List (Str × V)) := ((put_past (by decide +kernel)).trans (congrArg _ ((put_past (by decide +kernel)).trans (congrArg _ rfl))))
theorem nw_Node_term (v0 v1 v2 v3 : V) : putF "term" v3 ([("number", v0), ("initial", v1), ("is_running", v2)] : List (Str × V)) = ([("number", v0), ("initial", v1), ("is_running", v2), ("term", v3)] : List (Str × V)) := ((put_past (by decide +kernel)).trans (congrArg _ ((put_past (by decide +kernel)).trans (congrArg _ ((put_past (by decide +kernel)).trans (congrArg _ rfl))))))
theorem nw_Node_voted (v0 v1 v2 v3 v4 : V) : putF "voted" v4 ([("number", v0), ("initial", v1), ("is_running", v2), ("term", v3)] : List (Str × V)) = ([("number", v0), ("initial", v1), ("is_running", v2), ("term", v3), ("voted", v4)] : List (Str × V)) := ((put_past (by decide +kernel)).trans (congrArg _ ((put_past (by decide +kernel)).trans (congrArg _ ((put_past (by decide +kernel)).trans (congrArg _ ((put_past (by decide +kernel)).trans (congrArg _ rfl))))))))
theorem nw_Node_log (v0 v1 v2 v3 v4 v5 : V) : putF "log" v5 ([("number", v0), ("initial", v1), ("is_running", v2), ("term", v3), ("voted", v4)] : List (Str × V)) = ([("number", v0), ("initial", v1), ("is_running", v2), ("term", v3), ("voted", v4), ("log", v5)] : List (Str × V)) := ((put_past (by decide +kernel)).trans (congrArg _ ((put_past (by decide +kernel)).trans (congrArg _ ((put_past (by decide +kernel)).trans (congrArg _ ((put_past (by decide +kernel)).trans (congrArg _ ((put_past (by decide +kernel)).trans (congrArg _ rfl))))))))))
theorem nw_Node_role (v0 v1 v2 v3 v4 v5 v6 : V) : putF "role" v6 ([("number", v0), ("initial", v1), ("is_running", v2), ("term", v3), ("voted", v4), ("log", v5)] : List (Str × V)) = ([("number", v0), ("initial", v1), ("is_running", v2), ("term", v3), ("voted", v4), ("log", v5), ("role", v6)] : List (Str × V)) := ((put_past (by decide +kernel)).trans (congrArg _ ((put_past (by decide +kernel)).trans (congrArg _ ((put_past (by decide +kernel)).trans (congrArg _ ((put_past (by decide +kernel)).trans (congrArg _ ((put_past (by decide +kernel)).trans (congrArg _ ((put_past (by decide +kernel)).trans (congrArg _ rfl))))))))))))
theorem nw_Node_commit (v0 v1 v2 v3 v4 v5 v6 v7 : V) : putF "commit" v7 ([("number", v0), ("initial", v1), ("is_running", v2), ("term", v3), ("voted", v4), ("log", v5), ("role", v6)] : List (Str × V)) = ([("number", v0), ("initial", v1), ("is_running", v2), ("term", v3), ("voted", v4), ("log", v5), ("role", v6), ("commit", v7)] : List (Str × V)) := ((put_past (by decide +kernel)).trans (congrArg _ ((put_past (by decide +kernel)).trans (congrArg _ ((put_past (by decide +kernel)).trans (congrArg _ ((put_past (by decide +kernel)).trans (congrArg _ ((put_past (by decide +kernel)).trans (congrArg _ ((put_past (by decide +kernel)).trans (congrArg _ ((put_past (by decide +kernel)).trans (congrArg _ rfl))))))))))))))
theorem nw_Node_votes (v0 v1 v2 v3 v4 v5 v6 v7 v8 : V) : putF "votes" v8 ([("number", v0), ("initial", v1), ("is_running", v2), ("term", v3), ("voted", v4), ("log", v5), ("role", v6), ("commit", v7)] : List (Str × V)) = ([("number", v0), ("initial", v1), ("is_running", v2), ("term", v3), ("voted", v4), ("log", v5), ("role", v6), ("commit", v7), ("votes", v8)] : List (Str × V)) := ((put_past (by decide +kernel)).trans (congrArg _ ((put_past (by decide +kernel)).trans (congrArg _ ((put_past (by decide +kernel)).trans (congrArg _ ((put_past (by decide +kernel)).trans (congrArg _ ((put_past (by decide +kernel)).trans (congrArg _ ((put_past (by decide +kernel)).trans (congrArg _ ((put_past (by decide +kernel)).trans (congrArg _ ((put_past (by decide +kernel)).trans (congrArg _ rfl))))))))))))))))
theorem nw_Node_nexts (v0 v1 v2 v3 v4 v5 v6 v7 v8 v9 : V) : putF "nexts" v9 ([("number", v0), ("initial", v1), ("is_running", v2), ("term", v3), ("voted", v4), ("log", v5), ("role", v6), ("commit", v7), ("votes", v8)] : List (Str × V)) = ([("number", v0), ("initial", v1), ("is_running", v2), ("term", v3), ("voted", v4), ("log", v5), ("role", v6), ("commit", v7), ("votes", v8), ("nexts", v9)] : List (Str × V)) := ((put_past (by decide +kernel)).trans (congrArg _ ((put_past (by decide +kernel)).trans (congrArg _ ((put_past (by decide +kernel)).trans (congrArg _ ((put_past (by decide +kernel)).trans (congrArg _ ((put_past (by decide +kernel)).trans (congrArg _ ((put_past (by decide +kernel)).trans (congrArg _ ((put_past (by decide +kernel)).trans (congrArg _ ((put_past (by decide +kernel)).trans (congrArg _ ((put_past (by decide +kernel)).trans (congrArg _ rfl))))))))))))))))))
theorem nw_Node_matches (v0 v1 v2 v3 v4 v5 v6 v7 v8 v9 v10 : V) : putF "matches" v10 ([("number", v0), ("initial", v1), ("is_running", v2), ("term", v3), ("voted", v4), ("log", v5), ("role", v6), ("commit", v7), ("votes", v8), ("nexts", v9)] : List (Str × V)) = ([("number", v0), ("initial", v1), ("is_running", v2), ("term", v3), ("voted", v4), ("log", v5), ("role", v6), ("commit", v7), ("votes", v8), ("nexts", v9), ("matches", v10)] : List (Str × V)) := ((put_past (by decide +kernel)).trans (congrArg _ ((put_past (by decide +kernel)).trans (congrArg _ ((put_past (by decide +kernel)).trans (congrArg _ ((put_past (by decide +kernel)).trans (congrArg _ ((put_past (by decide +kernel)).trans (congrArg _ ((put_past (by decide +kernel)).trans (congrArg _ ((put_past (by decide +kernel)).trans (congrArg _ ((put_past (by decide +kernel)).trans (congrArg _ ((put_past (by decide +kernel)).trans (congrArg _ ((put_past (by decide +kernel)).trans (congrArg _ rfl))))))))))))))))))))
theorem no_Node_begin (r : NR) : (nF r).lookup ("begin" : Str) = none := ((lk_past (by decide +kernel)).trans ((lk_past (by decide +kernel)).trans ((lk_past (by decide +kernel)).trans ((lk_past (by decide +kernel)).trans ((lk_past (by decide +kernel)).trans ((lk_past (by decide +kernel)).trans ((lk_past (by decide +kernel)).trans ((lk_past (by decide +kernel)).trans ((lk_past (by decide +kernel)).trans ((lk_past (by decide +kernel)).trans ((lk_past (by decide +kernel)).trans rfl)))))))))))
theorem no_Node_leave (r : NR) : (nF r).lookup ("leave" : Str) = none := ((lk_past (by decide +kernel)).trans ((lk_past (by decide +kernel)).trans ((lk_past (by decide +kernel)).trans ((lk_past (by decide +kernel)).trans ((lk_past (by decide +kernel)).trans ((lk_past (by decide +kernel)).trans ((lk_past (by decide +kernel)).trans ((lk_past (by decide +kernel)).trans ((lk_past (by decide +kernel)).trans ((lk_past (by decide +kernel)).trans ((lk_past (by decide +kernel)).trans rfl)))))))))))
theorem no_Node_mask (r : NR) : (nF r).lookup ("mask" : Str) = none := ((lk_past (by decide +kernel)).trans ((lk_past (by decide +kernel)).trans ((lk_past (by decide +kernel)).trans ((lk_past (by decide +kernel)).trans ((lk_past (by decide +kernel)).trans ((lk_past (by decide +kernel)).trans ((lk_past (by decide +kernel)).trans ((lk_past (by decide +kernel)).trans ((lk_past (by decide +kernel)).trans ((lk_past (by decide +kernel)).trans ((lk_past (by decide +kernel)).trans rfl)))))))))))
theorem no_Node_members (r : NR) : (nF r).lookup ("members" : Str) = none := ((lk_past (by decide +kernel)).trans ((lk_past (by decide +kernel)).trans ((lk_past (by decide +kernel)).trans ((lk_past (by decide +kernel)).trans ((lk_past (by decide +kernel)).trans ((lk_past (by decide +kernel)).trans ((lk_past (by decide +kernel)).trans ((lk_past (by decide +kernel)).trans ((lk_past (by decide +kernel)).trans ((lk_past (by decide +kernel)).trans ((lk_past (by decide +kernel)).trans rfl)))))))))))
theorem no_Node_others (r : NR) : (nF r).lookup ("others" : Str) = none := ((lk_past (by decide +kernel)).trans ((lk_past (by decide +kernel)).trans ((lk_past (by decide +kernel)).trans ((lk_past (by decide +kernel)).trans ((lk_past (by decide +kernel)).trans ((lk_past (by decide +kernel)).trans ((lk_past (by decide +kernel)).trans ((lk_past (by decide +kernel)).trans ((lk_past (by decide +kernel)).trans ((lk_past (by decide +kernel)).trans ((lk_past (by decide +kernel)).trans rfl)))))))))))
theorem no_Node_is_majority (r : NR) : (nF r).lookup ("is_majority" : Str) = none := ((lk_past (by decide +kernel)).trans ((lk_past (by decide +kernel)).trans ((lk_past (by decide +kernel)).trans ((lk_past (by decide +kernel)).trans ((lk_past (by decide +kernel)).trans ((lk_past (by decide +kernel)).trans ((lk_past (by decide +kernel)).trans ((lk_past (by decide +kernel)).trans ((lk_past (by decide +kernel)).trans ((lk_past (by decide +kernel)).trans ((lk_past (by decide +kernel)).trans rfl)))))))))))
theorem no_Node_term_at (r : NR) : (nF r).lookup ("term_at" : Str) = none := ((lk_past (by decide +kernel)).trans ((lk_past (by decide +kernel)).trans ((lk_past (by decide +kernel)).trans ((lk_past (by decide +kernel)).trans ((lk_past (by decide +kernel)).trans ((lk_past (by decide +kernel)).trans ((lk_past (by decide +kernel)).trans ((lk_past (by decide +kernel)).trans ((lk_past (by decide +kernel)).trans ((lk_past (by decide +kernel)).trans ((lk_past (by decide +kernel)).trans rfl)))))))))))
theorem no_Node_last_term (r : NR) : (nF r).lookup ("last_term" : Str) = none := ((lk_past (by decide +kernel)).trans ((lk_past (by decide +kernel)).trans ((lk_past (by decide +kernel)).trans ((lk_past (by decide +kernel)).trans ((lk_past (by decide +kernel)).trans ((lk_past (by decide +kernel)).trans ((lk_past (by decide +kernel)).trans ((lk_past (by decide +kernel)).trans ((lk_past (by decide +kernel)).trans ((lk_past (by decide +kernel)).trans ((lk_past (by decide +kernel)).trans rfl)))))))))))
theorem no_Node_has_open_configuration (r : NR) : (nF r).lookup ("has_open_configuration" : Str) = none := ((lk_past (by decide +kernel)).trans ((lk_past (by decide +kernel)).trans ((lk_past (by decide +kernel)).trans ((lk_past (by decide +kernel)).trans ((lk_past (by decide +kernel)).trans ((lk_past (by decide +kernel)).trans ((lk_past (by decide +kernel)).trans ((lk_past (by decide +kernel)).trans ((lk_past (by decide +kernel)).trans ((lk_past (by decide +kernel)).trans ((lk_past (by decide +kernel)).trans rfl)))))))))))
theorem no_Node_adopt (r : NR) : (nF r).lookup ("adopt" : Str) = none := ((lk_past (by decide +kernel)).trans ((lk_past (by decide +kernel)).trans ((lk_past (by decide +kernel)).trans ((lk_past (by decide +kernel)).trans ((lk_past (by decide +kernel)).trans ((lk_past (by decide +kernel)).trans ((lk_past (by decide +kernel)).trans ((lk_past (by decide +kernel)).trans ((lk_past (by decide +kernel)).trans ((lk_past (by decide +kernel)).trans ((lk_past (by decide +kernel)).trans rfl)))))))))))
theorem no_Node_next_commit (r : NR) : (nF r).lookup ("next_commit" : Str) = none := ((lk_past (by decide +kernel)).trans ((lk_past (by decide +kernel)).trans ((lk_past (by decide +kernel)).trans ((lk_past (by decide +kernel)).trans ((lk_past (by decide +kernel)).trans ((lk_past (by decide +kernel)).trans ((lk_past (by decide +kernel)).trans ((lk_past (by decide +kernel)).trans ((lk_past (by decide +kernel)).trans ((lk_past (by decide +kernel)).trans ((lk_past (by decide +kernel)).trans rfl)))))))))))
theorem no_Node_would_vote (r : NR) : (nF r).lookup ("would_vote" : Str) = none := ((lk_past (by decide +kernel)).trans ((lk_past (by decide +kernel)).trans ((lk_past (by decide +kernel)).trans ((lk_past (by decide +kernel)).trans ((lk_past (by decide +kernel)).trans ((lk_past (by decide +kernel)).trans ((lk_past (by decide +kernel)).trans ((lk_past (by decide +kernel)).trans ((lk_past (by decide +kernel)).trans ((lk_past (by decide +kernel)).trans ((lk_past (by decide +kernel)).trans rfl)))))))))))
theorem no_Node_take_entries (r : NR) : (nF r).lookup ("take_entries" : Str) = none := ((lk_past (by decide +kernel)).trans ((lk_past (by decide +kernel)).trans ((lk_past (by decide +kernel)).trans ((lk_past (by decide +kernel)).trans ((lk_past (by decide +kernel)).trans ((lk_past (by decide +kernel)).trans ((lk_past (by decide +kernel)).trans ((lk_past (by decide +kernel)).trans ((lk_past (by decide +kernel)).trans ((lk_past (by decide +kernel)).trans ((lk_past (by decide +kernel)).trans rfl)))))))))))
theorem no_Node_told (r : NR) : (nF r).lookup ("told" : Str) = none := ((lk_past (by decide +kernel)).trans ((lk_past (by decide +kernel)).trans ((lk_past (by decide +kernel)).trans ((lk_past (by decide +kernel)).trans ((lk_past (by decide +kernel)).trans ((lk_past (by decide +kernel)).trans ((lk_past (by decide +kernel)).trans ((lk_past (by decide +kernel)).trans ((lk_past (by decide +kernel)).trans ((lk_past (by decide +kernel)).trans ((lk_past (by decide +kernel)).trans rfl)))))))))))
structure MR where
  kind : Nat
  rcv : Nat
  snd : Nat
  term : Nat
  nums : Addr
  ents : Addr
  done : Nat
def mF (r : MR) : List (Str × V) := [("kind", vn r.kind), ("receiver", vn r.rcv), ("sender", vn r.snd), ("term", vn r.term), ("numbers", .ref r.nums), ("entries", .ref r.ents), ("commit", vn r.done)]
theorem lk_Message_kind (r : MR) : (mF r).lookup ("kind" : Str) = some (vn r.kind) := lk_here
theorem pt_Message_kind (r : MR) (y : Nat) : putF "kind" (vn y) (mF r) = mF { r with kind := y } := put_here
theorem lk_Message_receiver (r : MR) : (mF r).lookup ("receiver" : Str) = some (vn r.rcv) := ((lk_past (by decide +kernel)).trans lk_here)
theorem pt_Message_receiver (r : MR) (y : Nat) : putF "receiver" (vn y) (mF r) = mF { r with rcv := y } := ((put_past (by decide +kernel)).trans (congrArg _ put_here))
theorem lk_Message_sender (r : MR) : (mF r).lookup ("sender" : Str) = some (vn r.snd) := ((lk_past (by decide +kernel)).trans ((lk_past (by decide +kernel)).trans lk_here))
theorem pt_Message_sender (r : MR) (y : Nat) : putF "sender" (vn y) (mF r) = mF { r with snd := y } := ((put_past (by decide +kernel)).trans (congrArg _ ((put_past (by decide +kernel)).trans (congrArg _ put_here))))
theorem lk_Message_term (r : MR) : (mF r).lookup ("term" : Str) = some (vn r.term) := ((lk_past (by decide +kernel)).trans ((lk_past (by decide +kernel)).trans ((lk_past (by decide +kernel)).trans lk_here)))
theorem pt_Message_term (r : MR) (y : Nat) : putF "term" (vn y) (mF r) = mF { r with term := y } := ((put_past (by decide +kernel)).trans (congrArg _ ((put_past (by decide +kernel)).trans (congrArg _ ((put_past (by decide +kernel)).trans (congrArg _ put_here))))))
theorem lk_Message_numbers (r : MR) : (mF r).lookup ("numbers" : Str) = some (.ref r.nums) := ((lk_past (by decide +kernel)).trans ((lk_past (by decide +kernel)).trans ((lk_past (by decide +kernel)).trans ((lk_past (by decide +kernel)).trans lk_here))))
theorem pt_Message_numbers (r : MR) (y : Addr) : putF "numbers" (.ref y) (mF r) = mF { r with nums := y } := ((put_past (by decide +kernel)).trans (congrArg _ ((put_past (by decide +kernel)).trans (congrArg _ ((put_past (by decide +kernel)).trans (congrArg _ ((put_past (by decide +kernel)).trans (congrArg _ put_here))))))))
theorem lk_Message_entries (r : MR) : (mF r).lookup ("entries" : Str) = some (.ref r.ents) := ((lk_past (by decide +kernel)).trans ((lk_past (by decide +kernel)).trans ((lk_past (by decide +kernel)).trans ((lk_past (by decide +kernel)).trans ((lk_past (by decide +kernel)).trans lk_here)))))
theorem pt_Message_entries (r : MR) (y : Addr) : putF "entries" (.ref y) (mF r) = mF { r with ents := y } := ((put_past (by decide +kernel)).trans (congrArg _ ((put_past (by decide +kernel)).trans (congrArg _ ((put_past (by decide +kernel)).trans (congrArg _ ((put_past (by decide +kernel)).trans (congrArg _ ((put_past (by decide +kernel)).trans (congrArg _ put_here))))))))))
theorem lk_Message_commit (r : MR) : (mF r).lookup ("commit" : Str) = some (vn r.done) := ((lk_past (by decide +kernel)).trans ((lk_past (by decide +kernel)).trans ((lk_past (by decide +kernel)).trans ((lk_past (by decide +kernel)).trans ((lk_past (by decide +kernel)).trans ((lk_past (by decide +kernel)).trans lk_here))))))
theorem pt_Message_commit (r : MR) (y : Nat) : putF "commit" (vn y) (mF r) = mF { r with done := y } := ((put_past (by decide +kernel)).trans (congrArg _ ((put_past (by decide +kernel)).trans (congrArg _ ((put_past (by decide +kernel)).trans (congrArg _ ((put_past (by decide +kernel)).trans (congrArg _ ((put_past (by decide +kernel)).trans (congrArg _ ((put_past (by decide +kernel)).trans (congrArg _ put_here))))))))))))
theorem nw_Message_kind (v0 : V) : putF "kind" v0 ([] : List (Str × V)) = ([("kind", v0)] : List (Str × V)) := rfl
theorem nw_Message_receiver (v0 v1 : V) : putF "receiver" v1 ([("kind", v0)] : List (Str × V)) = ([("kind", v0), ("receiver", v1)] : List (Str × V)) := ((put_past (by decide +kernel)).trans (congrArg _ rfl))
theorem nw_Message_sender (v0 v1 v2 : V) : putF "sender" v2 ([("kind", v0), ("receiver", v1)] : List (Str × V)) = ([("kind", v0), ("receiver", v1), ("sender", v2)] : List (Str × V)) := ((put_past (by decide +kernel)).trans (congrArg _ ((put_past (by decide +kernel)).trans (congrArg _ rfl))))
theorem nw_Message_term (v0 v1 v2 v3 : V) : putF "term" v3 ([("kind", v0), ("receiver", v1), ("sender", v2)] : List (Str × V)) = ([("kind", v0), ("receiver", v1), ("sender", v2), ("term", v3)] : List (Str × V)) := ((put_past (by decide +kernel)).trans (congrArg _ ((put_past (by decide +kernel)).trans (congrArg _ ((put_past (by decide +kernel)).trans (congrArg _ rfl))))))
theorem nw_Message_numbers (v0 v1 v2 v3 v4 : V) : putF "numbers" v4 ([("kind", v0), ("receiver", v1), ("sender", v2), ("term", v3)] : List (Str × V)) = ([("kind", v0), ("receiver", v1), ("sender", v2), ("term", v3), ("numbers", v4)] : List (Str × V)) := ((put_past (by decide +kernel)).trans (congrArg _ ((put_past (by decide +kernel)).trans (congrArg _ ((put_past (by decide +kernel)).trans (congrArg _ ((put_past (by decide +kernel)).trans (congrArg _ rfl))))))))
theorem nw_Message_entries (v0 v1 v2 v3 v4 v5 : V) : putF "entries" v5 ([("kind", v0), ("receiver", v1), ("sender", v2), ("term", v3), ("numbers", v4)] : List (Str × V)) = ([("kind", v0), ("receiver", v1), ("sender", v2), ("term", v3), ("numbers", v4), ("entries", v5)] : List (Str × V)) := ((put_past (by decide +kernel)).trans (congrArg _ ((put_past (by decide +kernel)).trans (congrArg _ ((put_past (by decide +kernel)).trans (congrArg _ ((put_past (by decide +kernel)).trans (congrArg _ ((put_past (by decide +kernel)).trans (congrArg _ rfl))))))))))
theorem nw_Message_commit (v0 v1 v2 v3 v4 v5 v6 : V) : putF "commit" v6 ([("kind", v0), ("receiver", v1), ("sender", v2), ("term", v3), ("numbers", v4), ("entries", v5)] : List (Str × V)) = ([("kind", v0), ("receiver", v1), ("sender", v2), ("term", v3), ("numbers", v4), ("entries", v5), ("commit", v6)] : List (Str × V)) := ((put_past (by decide +kernel)).trans (congrArg _ ((put_past (by decide +kernel)).trans (congrArg _ ((put_past (by decide +kernel)).trans (congrArg _ ((put_past (by decide +kernel)).trans (congrArg _ ((put_past (by decide +kernel)).trans (congrArg _ ((put_past (by decide +kernel)).trans (congrArg _ rfl))))))))))))
theorem no_Message_told (r : MR) : (mF r).lookup ("told" : Str) = none := ((lk_past (by decide +kernel)).trans ((lk_past (by decide +kernel)).trans ((lk_past (by decide +kernel)).trans ((lk_past (by decide +kernel)).trans ((lk_past (by decide +kernel)).trans ((lk_past (by decide +kernel)).trans ((lk_past (by decide +kernel)).trans rfl)))))))
structure RR where
  nodes : Addr
  msgs : Addr
  com : Addr
  led : Addr
def rF (r : RR) : List (Str × V) := [("nodes", .ref r.nodes), ("messages", .ref r.msgs), ("committed", .ref r.com), ("leaders", .ref r.led)]
theorem lk_Running_nodes (r : RR) : (rF r).lookup ("nodes" : Str) = some (.ref r.nodes) := lk_here
theorem pt_Running_nodes (r : RR) (y : Addr) : putF "nodes" (.ref y) (rF r) = rF { r with nodes := y } := put_here
theorem lk_Running_messages (r : RR) : (rF r).lookup ("messages" : Str) = some (.ref r.msgs) := ((lk_past (by decide +kernel)).trans lk_here)
theorem pt_Running_messages (r : RR) (y : Addr) : putF "messages" (.ref y) (rF r) = rF { r with msgs := y } := ((put_past (by decide +kernel)).trans (congrArg _ put_here))
theorem lk_Running_committed (r : RR) : (rF r).lookup ("committed" : Str) = some (.ref r.com) := ((lk_past (by decide +kernel)).trans ((lk_past (by decide +kernel)).trans lk_here))
theorem pt_Running_committed (r : RR) (y : Addr) : putF "committed" (.ref y) (rF r) = rF { r with com := y } := ((put_past (by decide +kernel)).trans (congrArg _ ((put_past (by decide +kernel)).trans (congrArg _ put_here))))
theorem lk_Running_leaders (r : RR) : (rF r).lookup ("leaders" : Str) = some (.ref r.led) := ((lk_past (by decide +kernel)).trans ((lk_past (by decide +kernel)).trans ((lk_past (by decide +kernel)).trans lk_here)))
theorem pt_Running_leaders (r : RR) (y : Addr) : putF "leaders" (.ref y) (rF r) = rF { r with led := y } := ((put_past (by decide +kernel)).trans (congrArg _ ((put_past (by decide +kernel)).trans (congrArg _ ((put_past (by decide +kernel)).trans (congrArg _ put_here))))))
theorem nw_Running_nodes (v0 : V) : putF "nodes" v0 ([] : List (Str × V)) = ([("nodes", v0)] : List (Str × V)) := rfl
theorem nw_Running_messages (v0 v1 : V) : putF "messages" v1 ([("nodes", v0)] : List (Str × V)) = ([("nodes", v0), ("messages", v1)] : List (Str × V)) := ((put_past (by decide +kernel)).trans (congrArg _ rfl))
theorem nw_Running_committed (v0 v1 v2 : V) : putF "committed" v2 ([("nodes", v0), ("messages", v1)] : List (Str × V)) = ([("nodes", v0), ("messages", v1), ("committed", v2)] : List (Str × V)) := ((put_past (by decide +kernel)).trans (congrArg _ ((put_past (by decide +kernel)).trans (congrArg _ rfl))))
theorem nw_Running_leaders (v0 v1 v2 v3 : V) : putF "leaders" v3 ([("nodes", v0), ("messages", v1), ("committed", v2)] : List (Str × V)) = ([("nodes", v0), ("messages", v1), ("committed", v2), ("leaders", v3)] : List (Str × V)) := ((put_past (by decide +kernel)).trans (congrArg _ ((put_past (by decide +kernel)).trans (congrArg _ ((put_past (by decide +kernel)).trans (congrArg _ rfl))))))
theorem no_Running_send (r : RR) : (rF r).lookup ("send" : Str) = none := ((lk_past (by decide +kernel)).trans ((lk_past (by decide +kernel)).trans ((lk_past (by decide +kernel)).trans ((lk_past (by decide +kernel)).trans rfl))))
theorem no_Running_set_commit (r : RR) : (rF r).lookup ("set_commit" : Str) = none := ((lk_past (by decide +kernel)).trans ((lk_past (by decide +kernel)).trans ((lk_past (by decide +kernel)).trans ((lk_past (by decide +kernel)).trans rfl))))
theorem no_Running_advance (r : RR) : (rF r).lookup ("advance" : Str) = none := ((lk_past (by decide +kernel)).trans ((lk_past (by decide +kernel)).trans ((lk_past (by decide +kernel)).trans ((lk_past (by decide +kernel)).trans rfl))))
theorem no_Running_add (r : RR) : (rF r).lookup ("add" : Str) = none := ((lk_past (by decide +kernel)).trans ((lk_past (by decide +kernel)).trans ((lk_past (by decide +kernel)).trans ((lk_past (by decide +kernel)).trans rfl))))
theorem no_Running_heartbeat (r : RR) : (rF r).lookup ("heartbeat" : Str) = none := ((lk_past (by decide +kernel)).trans ((lk_past (by decide +kernel)).trans ((lk_past (by decide +kernel)).trans ((lk_past (by decide +kernel)).trans rfl))))
theorem no_Running_lead (r : RR) : (rF r).lookup ("lead" : Str) = none := ((lk_past (by decide +kernel)).trans ((lk_past (by decide +kernel)).trans ((lk_past (by decide +kernel)).trans ((lk_past (by decide +kernel)).trans rfl))))
theorem no_Running_elect (r : RR) : (rF r).lookup ("elect" : Str) = none := ((lk_past (by decide +kernel)).trans ((lk_past (by decide +kernel)).trans ((lk_past (by decide +kernel)).trans ((lk_past (by decide +kernel)).trans rfl))))
theorem no_Running_receive (r : RR) : (rF r).lookup ("receive" : Str) = none := ((lk_past (by decide +kernel)).trans ((lk_past (by decide +kernel)).trans ((lk_past (by decide +kernel)).trans ((lk_past (by decide +kernel)).trans rfl))))
theorem no_Running_receive_request (r : RR) : (rF r).lookup ("receive_request" : Str) = none := ((lk_past (by decide +kernel)).trans ((lk_past (by decide +kernel)).trans ((lk_past (by decide +kernel)).trans ((lk_past (by decide +kernel)).trans rfl))))
theorem no_Running_receive_vote (r : RR) : (rF r).lookup ("receive_vote" : Str) = none := ((lk_past (by decide +kernel)).trans ((lk_past (by decide +kernel)).trans ((lk_past (by decide +kernel)).trans ((lk_past (by decide +kernel)).trans rfl))))
theorem no_Running_receive_append (r : RR) : (rF r).lookup ("receive_append" : Str) = none := ((lk_past (by decide +kernel)).trans ((lk_past (by decide +kernel)).trans ((lk_past (by decide +kernel)).trans ((lk_past (by decide +kernel)).trans rfl))))
theorem no_Running_receive_reply (r : RR) : (rF r).lookup ("receive_reply" : Str) = none := ((lk_past (by decide +kernel)).trans ((lk_past (by decide +kernel)).trans ((lk_past (by decide +kernel)).trans ((lk_past (by decide +kernel)).trans rfl))))
/-! ### what lies in the heap -/
def entV (e : Ent) : List V := [vn e.term, vn e.sort, vn e.value]
def EntL (F : Hp) (a : Addr) (es : List Ent) : Prop := ∃ ps : List Addr, F a = some (.lst (ps.map V.ref)) ∧ Paired (fun p e => F p = some (.tup (entV e))) ps es
def vot (o : Option Nat) : Int := match o with
  | none => -1
  | some n => (n : Int)
def nrec (i z : Nat) (n : Ag12.Node) (lg vt nx mt : Addr) : NR := ⟨i, z, n.up, n.term, vot n.voted, lg, n.role, n.done, vt, nx, mt⟩
/-- node i, the initial members z, at a; F: what never changes -/
structure NodeAt (A : Ad) (F H : Hp) (a : Addr) (i z : Nat) (n : Ag12.Node) : Prop where
  ex : ∃ dx lg vt nx mt, H a = some (.ins A.c_Node dx (nF (nrec i z n lg vt nx mt))) ∧ EntL F lg n.row ∧ F vt = some (.lst (nl n.votes)) ∧ H nx = some (.lst (nl n.next)) ∧ H mt = some (.lst (nl n.has))
def nums (x : Lett) : List V := match x.kind with
  | 0 => [vn x.a, vn x.b]
  | 1 => [vn (Ag12.bit x.yes)]
  | 2 => [vn x.a, vn x.b]
  | _ => [vn (Ag12.bit x.yes), vn x.a]
def MsgAt (A : Ad) (F : Hp) (p : Addr) (x : Lett) : Prop := ∃ dx na ea, F p = some (.ins A.c_Message dx (mF ⟨x.kind, x.to_, x.from_, x.term, na, ea, x.done⟩)) ∧ F na = some (.lst (nums x)) ∧ EntL F ea x.entries
theorem pair_mono {α β : Type} {F G : α → β → Prop} : ∀ {l : List α} {m : List β}, Paired F l m → (∀ a b, F a b → G a b) → Paired G l m
  | _, _, .nil, _ => .nil
  | _, _, .cons r t, k => .cons (k _ _ r) (pair_mono t k)
theorem pair_get {α β : Type} {F : α → β → Prop} : ∀ {l : List α} {m : List β}, Paired F l m → ∀ {i : Nat} {b : β}, m[i]? = some b → ∃ a, l[i]? = some a ∧ F a b
  | _, _, .nil, i, b, h => by simp at h
  | _, _, .cons r t, 0, b, h => by
    simp at h
    subst h
    exact ⟨_, rfl, r⟩
  | _, _, .cons r t, i + 1, b, h => by
    obtain ⟨a, h1, h2⟩ := pair_get t (i := i) (b := b) (by simpa using h)
    exact ⟨a, by simpa using h1, h2⟩
theorem pair_append {α β : Type} {F : α → β → Prop} : ∀ {l l' : List α} {m m' : List β}, Paired F l m → Paired F l' m' → Paired F (l ++ l') (m ++ m')
  | _, _, _, _, .nil, q => q
  | _, _, _, _, .cons r t, q => .cons r (pair_append t q)
theorem pair_take {α β : Type} {F : α → β → Prop} : ∀ {l : List α} {m : List β} (k : Nat), Paired F l m → Paired F (l.take k) (m.take k)
  | _, _, 0, _ => .nil
  | _, _, k + 1, .nil => .nil
  | _, _, k + 1, .cons r t => .cons r (pair_take k t)
theorem pair_drop {α β : Type} {F : α → β → Prop} : ∀ {l : List α} {m : List β} (k : Nat), Paired F l m → Paired F (l.drop k) (m.drop k)
  | _, _, 0, h => h
  | _, _, k + 1, .nil => .nil
  | _, _, k + 1, .cons r t => pair_drop k t
theorem pair_erase {α β : Type} {F : α → β → Prop} : ∀ {l : List α} {m : List β} (k : Nat), Paired F l m → Paired F (l.eraseIdx k) (m.eraseIdx k)
  | _, _, _, .nil => .nil
  | _, _, 0, .cons r t => t
  | _, _, k + 1, .cons r t => .cons r (pair_erase k t)
theorem EntL.mono {F F' : Hp} {a : Addr} {es : List Ent} (h : EntL F a es) (s : Same F F') : EntL F' a es := by
  obtain ⟨ps, h1, h2⟩ := h
  exact ⟨ps, s _ _ h1, pair_mono h2 fun p e q => s _ _ q⟩
theorem MsgAt.mono {A : Ad} {F F' : Hp} {p : Addr} {x : Lett} (h : MsgAt A F p x) (s : Same F F') : MsgAt A F' p x := by
  obtain ⟨dx, na, ea, h1, h2, h3⟩ := h
  exact ⟨dx, na, ea, s _ _ h1, s _ _ h2, h3.mono s⟩
theorem NodeAt.mono {A : Ad} {F F' H H' : Hp} {a : Addr} {i z : Nat} {n : Ag12.Node} (h : NodeAt A F H a i z n) (s : Same F F') (s' : Same H H') : NodeAt A F' H' a i z n := by
  obtain ⟨dx, lg, vt, nx, mt, h1, h2, h3, h4, h5⟩ := h.ex
  exact ⟨dx, lg, vt, nx, mt, s' _ _ h1, h2.mono s, s _ _ h3, s' _ _ h4, s' _ _ h5⟩
theorem same_new {H : Hp} {p : Addr} {o : HO} (h : H p = none) : Same H (upd H p o) := fun b u e => by
  rw [upd_ne (ne_of_none e h)]
  exact e
/-- F and what is new in H' behind H -/
def plus (F H H' : Hp) : Hp := fun b => match H b with
  | none => H' b
  | some _ => F b
theorem plus_old {F H H' : Hp} {b : Addr} {o : HO} (h : H b = some o) : plus F H H' b = F b := by unfold plus; rw [h]
theorem plus_new {F H H' : Hp} {b : Addr} (h : H b = none) : plus F H H' b = H' b := by unfold plus; rw [h]
theorem same_plus {F H H' : Hp} (s : Same F H) : Same F (plus F H H') := fun b o e => by
  rw [plus_old (s b o e)]
  exact e
theorem plus_same {F H H' : Hp} (s : Same F H) (s' : Same H H') : Same (plus F H H') H' := fun b o e => by
  cases h : H b with
  | none =>
    rw [plus_new h] at e
    exact e
  | some u =>
    rw [plus_old h] at e
    exact s' b o (s b o e)
theorem plus_trans {F H H1 H2 : Hp} (s : Same F H) (s1 : Same H H1) (s2 : Same H1 H2) : Same (plus F H H1) (plus F H H2) := fun b o e => by
  cases h : H b with
  | none =>
    rw [plus_new h] at e ⊢
    exact s2 b o e
  | some u =>
    rw [plus_old h] at e ⊢
    exact e

/-! ### the world: the nodes, the messages, what is committed, the leaders -/
structure U where
  z : Nat
  nd : Nat → Ag12.Node
  ls : List Lett
  told : List Ent
  led : List (Nat × Nat)
def ofS (s : Ag12.State) : U := ⟨s.first, Ag12.node s, s.letters, s.told, s.led⟩
def U.set (u : U) (i : Nat) (n : Ag12.Node) : U := { u with nd := Rf.setn u.nd i n }
inductive Slot where
  | run | msgs | led
  | nd (i : Nat) | nx (i : Nat) | mt (i : Nat)
  deriving DecidableEq
def Slot.ok : Slot → Prop
  | .nd i => i < 5
  | .nx i => i < 5
  | .mt i => i < 5
  | _ => True
structure Lay where
  o : Slot → Addr
  dR : Addr
  dN : Nat → Addr
  nodes : Addr
  com : Addr
  ml : List Addr
  ll : List Addr
  lg : Nat → Addr
  vt : Nat → Addr
def setf {α : Type} (f : Nat → α) (i : Nat) (x : α) : Nat → α := fun j => if j = i then x else f j
theorem setf_eq {α : Type} {f : Nat → α} {i : Nat} {x : α} : setf f i x i = x := if_pos rfl
theorem setf_ne {α : Type} {f : Nat → α} {i j : Nat} {x : α} (h : j ≠ i) : setf f i x j = f j := if_neg h
def sets (o : Slot → Addr) (s : Slot) (p : Addr) : Slot → Addr := fun t => if t = s then p else o t
theorem sets_eq {o : Slot → Addr} {s : Slot} {p : Addr} : sets o s p s = p := if_pos rfl
theorem sets_ne {o : Slot → Addr} {s t : Slot} {p : Addr} (h : t ≠ s) : sets o s p t = o t := if_neg h
structure W (A : Ad) (H F : Hp) (X : Addr → Prop) (L : Lay) (u : U) : Prop where
  same : Same F H
  ext : ∀ b, X b → F b = none ∧ ∃ o, H b = some o
  own : ∀ t : Slot, t.ok → F (L.o t) = none ∧ ¬ X (L.o t)
  inj : ∀ t v : Slot, t.ok → v.ok → L.o t = L.o v → t = v
  run : H (L.o .run) = some (.ins A.c_Running L.dR (rF ⟨L.nodes, L.o .msgs, L.com, L.o .led⟩))
  nodes : F L.nodes = some (.lst ([L.o (.nd 0), L.o (.nd 1), L.o (.nd 2), L.o (.nd 3), L.o (.nd 4)].map V.ref))
  msgs : H (L.o .msgs) = some (.lst (L.ml.map V.ref))
  ml : Paired (MsgAt A F) L.ml u.ls
  com : EntL F L.com u.told
  led : H (L.o .led) = some (.lst (L.ll.map V.ref))
  ll : Paired (fun p (r : Nat × Nat) => F p = some (.tup [vn r.1, vn r.2])) L.ll u.led
  nd : ∀ i, i < 5 → H (L.o (.nd i)) = some (.ins A.c_Node (L.dN i) (nF (nrec i u.z (u.nd i) (L.lg i) (L.vt i) (L.o (.nx i)) (L.o (.mt i)))))
  lg : ∀ i, i < 5 → EntL F (L.lg i) (u.nd i).row
  vt : ∀ i, i < 5 → F (L.vt i) = some (.lst (nl (u.nd i).votes))
  nx : ∀ i, i < 5 → H (L.o (.nx i)) = some (.lst (nl (u.nd i).next))
  mt : ∀ i, i < 5 → H (L.o (.mt i)) = some (.lst (nl (u.nd i).has))
/-- from one world to a later one: what never changes stands, what lies outside stands, the places that callers hold stand -/
structure Go (X : Addr → Prop) (H F : Hp) (L : Lay) (H' F' : Hp) (L' : Lay) : Prop where
  same : Same F F'
  keep : ∀ b, X b → H' b = H b
  run : L'.o .run = L.o .run
  nd : ∀ i, L'.o (.nd i) = L.o (.nd i)
theorem Go.refl (X : Addr → Prop) (H F : Hp) (L : Lay) : Go X H F L H F L := ⟨Same.refl _, fun _ _ => rfl, rfl, fun _ => rfl⟩
theorem Go.trans {X : Addr → Prop} {H F H1 F1 H2 F2 : Hp} {L L1 L2 : Lay} (a : Go X H F L H1 F1 L1) (b : Go X H1 F1 L1 H2 F2 L2) : Go X H F L H2 F2 L2 :=
  ⟨a.same.trans b.same, fun x h => (b.keep x h).trans (a.keep x h), b.run.trans a.run, fun i => (b.nd i).trans (a.nd i)⟩
section
variable {A : Ad} {H F : Hp} {X : Addr → Prop} {L : Lay} {u : U}
theorem W.node (w : W A H F X L u) {i : Nat} (hi : i < 5) : NodeAt A F H (L.o (.nd i)) i u.z (u.nd i) := ⟨_, _, _, _, _, w.nd i hi, w.lg i hi, w.vt i hi, w.nx i hi, w.mt i hi⟩
theorem W.mem (w : W A H F X L u) {t : Slot} (ht : t.ok) : ∃ o, H (L.o t) = some o := by
  cases t with
  | run => exact ⟨_, w.run⟩
  | msgs => exact ⟨_, w.msgs⟩
  | led => exact ⟨_, w.led⟩
  | nd i => exact ⟨_, w.nd i ht⟩
  | nx i => exact ⟨_, w.nx i ht⟩
  | mt i => exact ⟨_, w.mt i ht⟩
theorem W.ne_new (w : W A H F X L u) {p : Addr} (h : H p = none) {t : Slot} (ht : t.ok) : L.o t ≠ p := fun e => by
  obtain ⟨o, q⟩ := w.mem ht
  rw [e, h] at q
  cases q
theorem W.later (w : W A H F X L u) {H' : Hp} (s : Same H H') : W A H' F X L u where
  same := w.same.trans s
  ext := fun b h => ⟨(w.ext b h).1, let ⟨o, q⟩ := (w.ext b h).2; ⟨o, s _ _ q⟩⟩
  own := w.own
  inj := w.inj
  run := s _ _ w.run
  nodes := w.nodes
  msgs := s _ _ w.msgs
  ml := w.ml
  com := w.com
  led := s _ _ w.led
  ll := w.ll
  nd := fun i hi => s _ _ (w.nd i hi)
  lg := w.lg
  vt := w.vt
  nx := fun i hi => s _ _ (w.nx i hi)
  mt := fun i hi => s _ _ (w.mt i hi)
theorem go_later {H' : Hp} (w : W A H F X L u) (s : Same H H') : Go X H F L H' F L := ⟨Same.refl _, fun b h => by
  obtain ⟨o, q⟩ := (w.ext b h).2
  rw [q, s _ _ q], rfl, fun _ => rfl⟩
/-- what never changes grows -/
theorem W.grow (w : W A H F X L u) {F' : Hp} (s : Same F F') (s' : Same F' H) (hn : ∀ b, X b → F' b = none) (ho : ∀ t : Slot, t.ok → F' (L.o t) = none) : W A H F' X L u where
  same := s'
  ext := fun b h => ⟨hn b h, (w.ext b h).2⟩
  own := fun t ht => ⟨ho t ht, (w.own t ht).2⟩
  inj := w.inj
  run := w.run
  nodes := s _ _ w.nodes
  msgs := w.msgs
  ml := pair_mono w.ml fun p x q => q.mono s
  com := w.com.mono s
  led := w.led
  ll := pair_mono w.ll fun p x q => s _ _ q
  nd := w.nd
  lg := fun i hi => (w.lg i hi).mono s
  vt := fun i hi => s _ _ (w.vt i hi)
  nx := w.nx
  mt := w.mt
theorem W.plus (w : W A H F X L u) {H' : Hp} (s : Same H H') : W A H' (plus F H H') X L u :=
  (w.later s).grow (same_plus w.same) (plus_same w.same s) (fun b h => by
    obtain ⟨o, q⟩ := (w.ext b h).2
    rw [plus_old q]
    exact (w.ext b h).1) fun t ht => by
    obtain ⟨o, q⟩ := w.mem ht
    rw [plus_old q]
    exact (w.own t ht).1
theorem go_plus {H' : Hp} (w : W A H F X L u) (s : Same H H') : Go X H F L H' (Wk.plus F H H') L := ⟨same_plus w.same, (go_later w s).keep, rfl, fun _ => rfl⟩
/-- a new thing that never changes -/
theorem W.new (w : W A H F X L u) {p : Addr} {o : HO} (h : H p = none) : W A (upd H p o) (upd F p o) X L u := by
  have hF : F p = none := w.same.free h
  refine (w.later (same_new h)).grow (same_new hF) (fun b q e => ?_) (fun b hb => ?_) fun t ht => ?_
  · by_cases c : b = p
    · subst c
      rw [upd_same] at e ⊢
      exact e
    · rw [upd_ne c] at e ⊢
      exact w.same _ _ e
  · have : b ≠ p := fun e => by
      obtain ⟨o, q⟩ := (w.ext b hb).2
      rw [e, h] at q
      cases q
    rw [upd_ne this]
    exact (w.ext b hb).1
  · rw [upd_ne (w.ne_new h ht)]
    exact (w.own t ht).1
theorem go_new {p : Addr} {o : HO} (w : W A H F X L u) (h : H p = none) : Go X H F L (upd H p o) (upd F p o) L := ⟨same_new (w.same.free h), (go_later w (same_new h)).keep, rfl, fun _ => rfl⟩
/-- an own thing is changed: all else stands -/
theorem own_keep (w : W A H F X L u) {t : Slot} (ht : t.ok) {o : HO} : Same F (upd H (L.o t) o) := fun b q e => by
  have : b ≠ L.o t := fun c => by
    rw [c, (w.own t ht).1] at e
    cases e
  rw [upd_ne this]
  exact w.same _ _ e
theorem own_ext (w : W A H F X L u) {t : Slot} (ht : t.ok) {o : HO} : ∀ b, X b → F b = none ∧ ∃ q, upd H (L.o t) o b = some q := fun b hb => by
  have : b ≠ L.o t := fun c => (w.own t ht).2 (c ▸ hb)
  rw [upd_ne this]
  exact w.ext b hb
theorem own_ne (w : W A H F X L u) {t v : Slot} (ht : t.ok) (hv : v.ok) (h : v ≠ t) {o : HO} : upd H (L.o t) o (L.o v) = H (L.o v) := upd_ne fun e => h (w.inj v t hv ht e)
theorem go_own (w : W A H F X L u) {t : Slot} (ht : t.ok) {o : HO} {L' : Lay} (h1 : L'.o .run = L.o .run) (h2 : ∀ i, L'.o (.nd i) = L.o (.nd i)) : Go X H F L (upd H (L.o t) o) F L' :=
  ⟨Same.refl _, fun b hb => upd_ne fun c => (w.own t ht).2 (c ▸ hb), h1, h2⟩
/-- a node's own fields -/
theorem W.setNode (w : W A H F X L u) {i : Nat} (hi : i < 5) {n : Ag12.Node} {lg vt : Addr} (h1 : EntL F lg n.row) (h2 : F vt = some (.lst (nl n.votes))) (h3 : n.next = (u.nd i).next) (h4 : n.has = (u.nd i).has) :
    W A (upd H (L.o (.nd i)) (.ins A.c_Node (L.dN i) (nF (nrec i u.z n lg vt (L.o (.nx i)) (L.o (.mt i)))))) F X { L with lg := setf L.lg i lg, vt := setf L.vt i vt } (u.set i n) := by
  have ht : (Slot.nd i).ok := hi
  exact {
    same := own_keep w ht
    ext := own_ext w ht
    own := w.own
    inj := w.inj
    run := (own_ne w ht (v := .run) trivial (fun z => nomatch z)).trans w.run
    nodes := w.nodes
    msgs := (own_ne w ht (v := .msgs) trivial (fun z => nomatch z)).trans w.msgs
    ml := w.ml
    com := w.com
    led := (own_ne w ht (v := .led) trivial (fun z => nomatch z)).trans w.led
    ll := w.ll
    nd := fun j hj => by
      by_cases c : j = i
      · subst c
        show upd H _ _ (L.o (.nd j)) = some (.ins A.c_Node (L.dN j) (nF (nrec j u.z (Rf.setn u.nd j n j) (setf L.lg j lg j) (setf L.vt j vt j) (L.o (.nx j)) (L.o (.mt j)))))
        rw [upd_same, Rf.setn_eq, setf_eq, setf_eq]
      · show upd H _ _ (L.o (.nd j)) = some (.ins A.c_Node (L.dN j) (nF (nrec j u.z (Rf.setn u.nd i n j) (setf L.lg i lg j) (setf L.vt i vt j) (L.o (.nx j)) (L.o (.mt j)))))
        rw [own_ne w ht (v := .nd j) hj (fun z => c (Slot.nd.inj z)), Rf.setn_ne c, setf_ne c, setf_ne c]
        exact w.nd j hj
    lg := fun j hj => by
      show EntL F (setf L.lg i lg j) (Rf.setn u.nd i n j).row
      by_cases c : j = i
      · subst c
        rw [setf_eq, Rf.setn_eq]
        exact h1
      · rw [setf_ne c, Rf.setn_ne c]
        exact w.lg j hj
    vt := fun j hj => by
      show F (setf L.vt i vt j) = some (.lst (nl (Rf.setn u.nd i n j).votes))
      by_cases c : j = i
      · subst c
        rw [setf_eq, Rf.setn_eq]
        exact h2
      · rw [setf_ne c, Rf.setn_ne c]
        exact w.vt j hj
    nx := fun j hj => by
      show upd H _ _ (L.o (.nx j)) = some (.lst (nl (Rf.setn u.nd i n j).next))
      rw [own_ne w ht (v := .nx j) hj (fun z => nomatch z), w.nx j hj]
      by_cases c : j = i
      · subst c
        rw [Rf.setn_eq, h3]
      · rw [Rf.setn_ne c]
    mt := fun j hj => by
      show upd H _ _ (L.o (.mt j)) = some (.lst (nl (Rf.setn u.nd i n j).has))
      rw [own_ne w ht (v := .mt j) hj (fun z => nomatch z), w.mt j hj]
      by_cases c : j = i
      · subst c
        rw [Rf.setn_eq, h4]
      · rw [Rf.setn_ne c] }
theorem go_setNode (w : W A H F X L u) {i : Nat} (hi : i < 5) {o : HO} {lg vt : Addr} : Go X H F L (upd H (L.o (.nd i)) o) F { L with lg := setf L.lg i lg, vt := setf L.vt i vt } :=
  go_own w (t := .nd i) hi rfl fun _ => rfl
/-- the next indexes in their place -/
theorem W.setNext (w : W A H F X L u) {i : Nat} (hi : i < 5) (l : List Nat) : W A (upd H (L.o (.nx i)) (.lst (nl l))) F X L (u.set i { u.nd i with next := l }) := by
  have ht : (Slot.nx i).ok := hi
  exact {
    same := own_keep w ht
    ext := own_ext w ht
    own := w.own
    inj := w.inj
    run := (own_ne w ht (v := .run) trivial (fun z => nomatch z)).trans w.run
    nodes := w.nodes
    msgs := (own_ne w ht (v := .msgs) trivial (fun z => nomatch z)).trans w.msgs
    ml := w.ml
    com := w.com
    led := (own_ne w ht (v := .led) trivial (fun z => nomatch z)).trans w.led
    ll := w.ll
    nd := fun j hj => by
      show upd H _ _ (L.o (.nd j)) = some (.ins A.c_Node (L.dN j) (nF (nrec j u.z (Rf.setn u.nd i _ j) (L.lg j) (L.vt j) (L.o (.nx j)) (L.o (.mt j)))))
      rw [own_ne w ht (v := .nd j) hj (fun z => nomatch z), w.nd j hj]
      by_cases c : j = i
      · subst c
        rw [Rf.setn_eq]
        rfl
      · rw [Rf.setn_ne c]
    lg := fun j hj => by
      show EntL F (L.lg j) (Rf.setn u.nd i _ j).row
      by_cases c : j = i
      · subst c
        rw [Rf.setn_eq]
        exact w.lg j hj
      · rw [Rf.setn_ne c]
        exact w.lg j hj
    vt := fun j hj => by
      show F (L.vt j) = some (.lst (nl (Rf.setn u.nd i _ j).votes))
      by_cases c : j = i
      · subst c
        rw [Rf.setn_eq]
        exact w.vt j hj
      · rw [Rf.setn_ne c]
        exact w.vt j hj
    nx := fun j hj => by
      show upd H _ _ (L.o (.nx j)) = some (.lst (nl (Rf.setn u.nd i _ j).next))
      by_cases c : j = i
      · subst c
        rw [upd_same, Rf.setn_eq]
      · rw [own_ne w ht (v := .nx j) hj (fun z => c (Slot.nx.inj z)), Rf.setn_ne c]
        exact w.nx j hj
    mt := fun j hj => by
      show upd H _ _ (L.o (.mt j)) = some (.lst (nl (Rf.setn u.nd i _ j).has))
      rw [own_ne w ht (v := .mt j) hj (fun z => nomatch z), w.mt j hj]
      by_cases c : j = i
      · subst c
        rw [Rf.setn_eq]
      · rw [Rf.setn_ne c] }
/-- the match indexes in their place -/
theorem W.setHas (w : W A H F X L u) {i : Nat} (hi : i < 5) (l : List Nat) : W A (upd H (L.o (.mt i)) (.lst (nl l))) F X L (u.set i { u.nd i with has := l }) := by
  have ht : (Slot.mt i).ok := hi
  exact {
    same := own_keep w ht
    ext := own_ext w ht
    own := w.own
    inj := w.inj
    run := (own_ne w ht (v := .run) trivial (fun z => nomatch z)).trans w.run
    nodes := w.nodes
    msgs := (own_ne w ht (v := .msgs) trivial (fun z => nomatch z)).trans w.msgs
    ml := w.ml
    com := w.com
    led := (own_ne w ht (v := .led) trivial (fun z => nomatch z)).trans w.led
    ll := w.ll
    nd := fun j hj => by
      show upd H _ _ (L.o (.nd j)) = some (.ins A.c_Node (L.dN j) (nF (nrec j u.z (Rf.setn u.nd i _ j) (L.lg j) (L.vt j) (L.o (.nx j)) (L.o (.mt j)))))
      rw [own_ne w ht (v := .nd j) hj (fun z => nomatch z), w.nd j hj]
      by_cases c : j = i
      · subst c
        rw [Rf.setn_eq]
        rfl
      · rw [Rf.setn_ne c]
    lg := fun j hj => by
      show EntL F (L.lg j) (Rf.setn u.nd i _ j).row
      by_cases c : j = i
      · subst c
        rw [Rf.setn_eq]
        exact w.lg j hj
      · rw [Rf.setn_ne c]
        exact w.lg j hj
    vt := fun j hj => by
      show F (L.vt j) = some (.lst (nl (Rf.setn u.nd i _ j).votes))
      by_cases c : j = i
      · subst c
        rw [Rf.setn_eq]
        exact w.vt j hj
      · rw [Rf.setn_ne c]
        exact w.vt j hj
    nx := fun j hj => by
      show upd H _ _ (L.o (.nx j)) = some (.lst (nl (Rf.setn u.nd i _ j).next))
      rw [own_ne w ht (v := .nx j) hj (fun z => nomatch z), w.nx j hj]
      by_cases c : j = i
      · subst c
        rw [Rf.setn_eq]
      · rw [Rf.setn_ne c]
    mt := fun j hj => by
      show upd H _ _ (L.o (.mt j)) = some (.lst (nl (Rf.setn u.nd i _ j).has))
      by_cases c : j = i
      · subst c
        rw [upd_same, Rf.setn_eq]
      · rw [own_ne w ht (v := .mt j) hj (fun z => c (Slot.mt.inj z)), Rf.setn_ne c]
        exact w.mt j hj }
/-- what is committed -/
theorem W.setTold (w : W A H F X L u) {com : Addr} {t : List Ent} (h : EntL F com t) :
    W A (upd H (L.o .run) (.ins A.c_Running L.dR (rF ⟨L.nodes, L.o .msgs, com, L.o .led⟩))) F X { L with com := com } { u with told := t } := by
  have ht : (Slot.run).ok := trivial
  exact {
    same := own_keep w ht
    ext := own_ext w ht
    own := w.own
    inj := w.inj
    run := upd_same
    nodes := w.nodes
    msgs := (own_ne w ht (v := .msgs) trivial (fun z => nomatch z)).trans w.msgs
    ml := w.ml
    com := h
    led := (own_ne w ht (v := .led) trivial (fun z => nomatch z)).trans w.led
    ll := w.ll
    nd := fun j hj => (own_ne w ht (v := .nd j) hj (fun z => nomatch z)).trans (w.nd j hj)
    lg := w.lg
    vt := w.vt
    nx := fun j hj => (own_ne w ht (v := .nx j) hj (fun z => nomatch z)).trans (w.nx j hj)
    mt := fun j hj => (own_ne w ht (v := .mt j) hj (fun z => nomatch z)).trans (w.mt j hj) }
/-- the messages -/
theorem W.setMsgs (w : W A H F X L u) {ml : List Addr} {ls : List Lett} (h : Paired (MsgAt A F) ml ls) :
    W A (upd H (L.o .msgs) (.lst (ml.map V.ref))) F X { L with ml := ml } { u with ls := ls } := by
  have ht : (Slot.msgs).ok := trivial
  exact {
    same := own_keep w ht
    ext := own_ext w ht
    own := w.own
    inj := w.inj
    run := (own_ne w ht (v := .run) trivial (fun z => nomatch z)).trans w.run
    nodes := w.nodes
    msgs := upd_same
    ml := h
    com := w.com
    led := (own_ne w ht (v := .led) trivial (fun z => nomatch z)).trans w.led
    ll := w.ll
    nd := fun j hj => (own_ne w ht (v := .nd j) hj (fun z => nomatch z)).trans (w.nd j hj)
    lg := w.lg
    vt := w.vt
    nx := fun j hj => (own_ne w ht (v := .nx j) hj (fun z => nomatch z)).trans (w.nx j hj)
    mt := fun j hj => (own_ne w ht (v := .mt j) hj (fun z => nomatch z)).trans (w.mt j hj) }
/-- the leaders -/
theorem W.setLed (w : W A H F X L u) {ll : List Addr} {l : List (Nat × Nat)} (h : Paired (fun p (r : Nat × Nat) => F p = some (.tup [vn r.1, vn r.2])) ll l) :
    W A (upd H (L.o .led) (.lst (ll.map V.ref))) F X { L with ll := ll } { u with led := l } := by
  have ht : (Slot.led).ok := trivial
  exact {
    same := own_keep w ht
    ext := own_ext w ht
    own := w.own
    inj := w.inj
    run := (own_ne w ht (v := .run) trivial (fun z => nomatch z)).trans w.run
    nodes := w.nodes
    msgs := (own_ne w ht (v := .msgs) trivial (fun z => nomatch z)).trans w.msgs
    ml := w.ml
    com := w.com
    led := upd_same
    ll := h
    nd := fun j hj => (own_ne w ht (v := .nd j) hj (fun z => nomatch z)).trans (w.nd j hj)
    lg := w.lg
    vt := w.vt
    nx := fun j hj => (own_ne w ht (v := .nx j) hj (fun z => nomatch z)).trans (w.nx j hj)
    mt := fun j hj => (own_ne w ht (v := .mt j) hj (fun z => nomatch z)).trans (w.mt j hj) }
end
end Wk
end

section
set_option Elab.async false
set_option linter.all false
set_option maxRecDepth 100000
set_option maxHeartbeats 4000000
namespace L2
open PySem PySem.Spec PyProof.Rows
/-! ### len(set(xs)), xs with items that may be alike -/
def tLenSetN (K : PySem.W.Frag) (ta : TE) : TE := fun σ H Q => ta σ H fun x H1 => ∃ (l : Addr) (ns : List Int), x = .ref l ∧ SqL K H1 l (ns.map V.int) ∧ ns.length ≤ 4000 ∧ Q (.int ((PyProof.Rows.firstMet (fun i => ns.getD i 0) ns.length).length : Nat)) H1
theorem pe_lenSetN {X : Cx} {a : Expr} {ta : TE} {p p2 q pos : Pos} (hg : Gl X "len") (hm : X.mg "len" = none) (hg2 : Gl X "set") (hm2 : X.mg "set" = none) (ha : PE X a ta) (hc : X.calm = true := by rfl)
    (na : starEach [a] X.env = (false, eval a X.env) :: starEach [] X.env := by rfl) : PE X (.Call (.Name "len" p) [.Call (.Name "set" p2) [a] [] q] [] pos) (tLenSetN X.K ta) := by
  refine ⟨fun pins s σ H Q I h => ?_⟩
  refine Call_ (ld_blt I hg hm boot_len ?_)
  refine PyProof.Rows.callWith_builtin1 (PyProof.Rows.args_cons ?_ rfl) rfl rfl
  refine Call_ (ld_blt I hg2 hm2 boot_set ?_)
  refine PyProof.Rows.callWith_type1 (PyProof.Rows.args_cons (thn (ha.run pins s σ H _ I h) fun v s1 ⟨x, H1, I1, r1, q1⟩ => PyProof.Rows.args_nil ?_) na) na rfl
  obtain ⟨l, ns, rfl, hq, hl, q1⟩ := q1
  cases r1
  obtain ⟨its, r, pl, hz⟩ := I1.list hq
  have hlen : its.toArray.size = ns.length := by rw [List.size_toArray, ← r.length, List.length_map]
  have hfm := PyProof.Rows.firstMet_length_le (fun i => ns.getD i 0) ns.length
  refine call_set_list (I1.ok.hd hc) pl.isList (by simpa using RZ.intsAre_vals r) (by rw [hlen]; unfold scanBound; omega) fun h' tk hS hk => ?_
  refine PyProof.Rows.args_nil ?_
  rw [hlen] at hS
  obtain ⟨o, es, ep, t, ho, hex, hd, _, _, _, hf, hn⟩ := hS
  have I2 : Inv X pins σ H1 { s1 with heap := h', toks := tk } := I1.kept fun b o e => hk b o (Heap.lt_size e) e
  exact call_len_set ho hex hd hf (by rw [hn]; omega) ⟨.int ((PyProof.Rows.firstMet (fun i => ns.getD i 0) ns.length).length : Nat), H1, I2.tok _, ⟨_, by rw [hn]⟩, q1⟩
/-! ### d.get(k, x), d a dict of the module's text with whole numbers for keys -/
theorem KInt.map {K : PySem.W.Frag} {d : Addr} {es : Array DictEntry} {n : Nat} (D : KInt K d es n) {P : Program} {w : World} {h : Heap} (X : K.In h) : h.MapOf (intKind P w) d (fun k => findBy Value.isInt es k) :=
  ⟨_, es, n, X _ _ D.at_, ⟨rfl, rfl, rfl⟩, rfl, fun e he => by
    obtain ⟨k, t, e1, e2⟩ := D.keys e he
    exact ⟨k, by rw [e1]; exact intKind_is P w k t, e2⟩, fun _ => rfl⟩
/-- GIVEN.get(i, j), j a whole number: the number found, or j -/
def tKGet (K : PySem.W.Frag) (td ty tx : TE) : TE := fun σ H Q => td σ H fun x H1 => ∃ a es n, x = .ref a ∧ KInt K a es n ∧ ty σ H1 fun y H2 => tx σ H2 fun z H3 => ∃ i j r : Int, y = .int i ∧ z = .int j ∧
  ((findBy Value.isInt es i = none ∧ r = j) ∨ (∃ t, findBy Value.isInt es i = some (.int r t))) ∧ Q (.int r) H3
theorem pe_kget {X : Cx} {o e f : Expr} {apos cpos : Pos} {td ty tx : TE} (ho : PE X o td) (he : PE X e ty) (hf : PE X f tx) (m : M2 X o "get" apos e f cpos) : PE X (.Call (.Attribute o "get" apos) [e, f] [] cpos) (tKGet X.K td ty tx) := by
  refine ⟨fun pins s σ H Q I h => ?_⟩
  refine wpAny_Call_method m.base m.few m.line PySem.F.plainAttrs_dict PySem.F.slot_dict_get PySem.F.type_dict_get (thn (ho.run pins s σ H _ I h) fun u s1 ⟨x, H1, I1, rx, a, es, n, ex, D, q1⟩ => ?_)
  subst ex
  obtain rfl : u = Value.ref a := rx
  have M1 := D.map (P := X.prog) (w := X.w) I1.kIn
  refine ⟨M1.typeIs, M1.noDict, ?_⟩
  rw [m.trees]
  refine Calls.callWith_builtin rfl (Calls.evalArgs_plain (Calls.spliced_cons (thn (he.run pins s1 σ H1 _ I1 q1) fun iv s2 ⟨y, H2, I2, ry, q2⟩ =>
    Calls.spliced_cons (thn (hf.run pins s2 σ H2 _ I2 q2) fun fv s3 ⟨z, H3, I3, rz, i, j, r, ey, ez, g, q3⟩ => Calls.spliced_nil ?_))))
  subst ey
  subst ez
  obtain ⟨ti, rfl⟩ := (show ∃ t, iv = Value.int i t from ry)
  obtain ⟨tj, rfl⟩ := (show ∃ t, fv = Value.int j t from rz)
  have M3 := D.map (P := X.prog) (w := X.w) I3.kIn
  refine call_meetsIn PySem.F.slot_dict_get M3.typeIs PySem.F.entry_dict_get (PySem.F.args_dict_get_3 _ _ _) (meets_dict_get_default (intKind X.prog X.w) a (intKind_is X.prog X.w i ti) D.low _) ⟨_, M3, ?_⟩
  refine ⟨.int r, H3, I3.tok _, ?_, q3⟩
  rcases g with ⟨g, rfl⟩ | ⟨t, g⟩
  · rw [g]
    exact ⟨tj, rfl⟩
  · rw [g]
    exact ⟨t, rfl⟩
end L2
end

section
set_option Elab.async false
set_option linter.all false
set_option maxRecDepth 100000
set_option maxHeartbeats 4000000
namespace Wk
open PySem PySem.Spec PyProof.Rows L2
def Keeps (P : Program) (w : World) (K : PySem.W.Frag) (mg : Str → Option Value) (base : Heap) (CX : CXT) (k : Nat) (f : Addr) (ps : List Str) (sp : Sp) : Prop := ∃ fd, FnOk P w K mg base CX k f fd ps sp ∧ Binds K fd ps []
theorem len_putF (f : Str) (v : V) : ∀ fs : List (Str × V), (putF f v fs).length ≤ fs.length + 1
  | [] => Nat.le_refl _
  | (g, x) :: r => by
    by_cases h : g = f
    · subst h
      rw [put_here, List.length_cons, List.length_cons]
      omega
    · rw [put_past h, List.length_cons, List.length_cons]
      have := len_putF f v r
      omega
/-- the fields that leave sets -/
def leftF (a b c : Addr) (fs : List (Str × V)) : List (Str × V) := putF "matches" (.ref c) (putF "nexts" (.ref b) (putF "votes" (.ref a) fs))
structure Left (H H' : Hp) (a b c : Addr) : Prop where
  na : H a = none
  nb : H b = none
  nc : H c = none
  ab : a ≠ b
  ac : a ≠ c
  bc : b ≠ c
  ha : H' a = some (.lst [])
  hb : H' b = some (.lst [])
  hc : H' c = some (.lst [])
def spLeave (A : Ad) : Sp := fun vs H Q _ => ∃ p dx fs, vs = [.ref p] ∧ H p = some (.ins A.c_Node dx fs) ∧ fs.length ≤ 100 ∧
  ∀ H' a b c, Left H H' a b c → H' p = some (.ins A.c_Node dx (leftF a b c fs)) → (∀ q o, H q = some o → q ≠ p → H' q = some o) → Q .non H'
section
variable {P : Program} {w : World} {K : PySem.W.Frag} {mg : Str → Option Value} {base : Heap} {A : Ad}
theorem sc_Node_leave : FnScope n_Node_leave p_Node_leave (defScope s_Node_leave) := ⟨rfl, rfl, rfl, by decide +kernel, rfl, by decide +kernel, by decide +kernel⟩
theorem ok_Node_leave (T : Txt K mg A) : Keeps P w K mg base CX0 1 A.f_Node_leave p_Node_leave (spLeave A) := by
  obtain ⟨fd, F⟩ := T.F_Node_leave
  refine ⟨fd, F.ok sc_Node_leave (fun vs H Q E h => ?_) (fun cdv Ar outer s H vs Q E hr h => ?_), F.binds fun _ _ _ _ _ _ us hl => match us, hl with | [_], _ => rfl⟩
  · obtain ⟨p, dx, fs, rfl, _⟩ := h
    rfl
  · obtain ⟨p, dx, fs, rfl, hp, hl, k⟩ := h
    refine ⟨_, (pss_cons (ps_fld (pv 0) (pe_lst pa_nil) rfl)
      (pss_cons (ps_fld (pv 0) (pe_lst pa_nil) rfl)
      (pss_one (ps_fld (pv 0) (pe_lst pa_nil) rfl)))), ?_⟩
    refine ⟨Nat.zero_le _, fun a ha => ?_⟩
    have pa := ne_of_none hp ha
    refine ⟨_, rfl, _, _, _, _, rfl, (upd_ne pa).trans hp, T.cl_Node, T.na_Node_votes, by omega, ?_⟩
    refine ⟨Nat.zero_le _, fun b hb => ?_⟩
    have pb : p ≠ b := fun e => by
      rw [e, upd_same] at hb
      cases hb
    have ab : a ≠ b := fun e => by
      rw [upd_ne pb.symm, e, upd_same] at hb
      cases hb
    rw [upd_ne pb.symm, upd_ne ab.symm] at hb
    have l1 := len_putF "votes" (.ref a) fs
    refine ⟨_, rfl, _, _, _, _, rfl, (upd_ne pb).trans upd_same, T.cl_Node, T.na_Node_nexts, by omega, ?_⟩
    refine ⟨Nat.zero_le _, fun c hc => ?_⟩
    have pc : p ≠ c := fun e => by
      rw [e, upd_same] at hc
      cases hc
    have bc : b ≠ c := fun e => by
      rw [upd_ne pc.symm, e, upd_same] at hc
      cases hc
    rw [upd_ne pc.symm, upd_ne bc.symm, upd_ne pc.symm] at hc
    have ac : a ≠ c := fun e => by
      rw [e, upd_same] at hc
      cases hc
    rw [upd_ne ac.symm] at hc
    have l2 := len_putF "nexts" (.ref b) (putF "votes" (.ref a) fs)
    refine ⟨_, rfl, _, _, _, _, rfl, (upd_ne pc).trans upd_same, T.cl_Node, T.na_Node_matches, by omega, ?_⟩
    refine k _ a b c ⟨ha, hb, hc, ab, ac, bc, ?_, ?_, ?_⟩ upd_same fun q o e hq => ?_
    · rw [upd_ne pa.symm, upd_ne ac, upd_ne pa.symm, upd_ne ab, upd_ne pa.symm, upd_same]
    · rw [upd_ne pb.symm, upd_ne bc, upd_ne pb.symm, upd_same]
    · rw [upd_ne pc.symm, upd_same]
    · rw [upd_ne hq, upd_ne (ne_of_none e hc), upd_ne hq, upd_ne (ne_of_none e hb), upd_ne hq, upd_ne (ne_of_none e ha)]
      exact e
/-! ### mask, members, others -/
def mem (z : Nat) (n : Ag12.Node) : Nat := Rf.cfg z n.row
def spMask (A : Ad) : Sp := fun vs H Q _ => ∃ F p i z n, vs = [.ref p] ∧ Same F H ∧ NodeAt A F H p i z n ∧ ∀ H', Same H H' → Q (vn (mem z n)) H'
theorem get_refs {l : List Addr} {i : Nat} {x : V} (h : (l.map V.ref)[i]? = some x) : ∃ p, l[i]? = some p ∧ x = .ref p := by
  rw [List.getElem?_map] at h
  cases e : l[i]? with
  | none => rw [e] at h; cases h
  | some p =>
    rw [e] at h
    exact ⟨p, rfl, (Option.some.inj h).symm⟩
theorem pair_at {α β : Type} {F : α → β → Prop} : ∀ {l : List α} {m : List β}, Paired F l m → ∀ {i : Nat} {a : α}, l[i]? = some a → ∃ b, m[i]? = some b ∧ F a b
  | _, _, .nil, i, b, h => by simp at h
  | _, _, .cons r t, 0, b, h => by
    simp at h
    subst h
    exact ⟨_, rfl, r⟩
  | _, _, .cons r t, i + 1, b, h => by
    obtain ⟨a, h1, h2⟩ := pair_at t (i := i) (a := b) (by simpa using h)
    exact ⟨a, by simpa using h1, h2⟩
theorem sc_Node_mask : FnScope n_Node_mask p_Node_mask (defScope s_Node_mask) := ⟨rfl, rfl, rfl, by decide +kernel, rfl, by decide +kernel, by decide +kernel⟩
theorem ok_Node_mask (T : Txt K mg A) : Keeps P w K mg base CX0 1 A.f_Node_mask p_Node_mask (spMask A) := by
  obtain ⟨fd, F⟩ := T.F_Node_mask
  refine ⟨fd, F.ok sc_Node_mask (fun vs H Q E h => ?_) (fun cdv Ar outer s H vs Q E hr h => ?_), F.binds fun _ _ _ _ _ _ us hl => match us, hl with | [_], _ => rfl⟩
  · obtain ⟨F, p, i, z, n, rfl, _⟩ := h
    rfl
  · obtain ⟨F, p, i, z, n, rfl, sF, hn, k⟩ := h
    obtain ⟨dx, lg, vt, nx, mt, hp, ⟨ps, hl, hps⟩, _⟩ := hn.ex
    refine ⟨_, (pss_cons (ps_set (i := 1) sc_Node_mask.nd rfl (Or.inl rfl) (pe_fld (pv 0) rfl))
      (pss_cons (ps_for PassesOwn.never rfl (pi_list (pe_fld (pv 0) rfl)) (pg_tup rfl (pgs_cons (pg_name (i := 2) sc_Node_mask.nd rfl (Or.inl rfl)) (pgs_cons (pg_name (i := 3) sc_Node_mask.nd rfl (Or.inl rfl)) (pgs_cons (pg_name (i := 4) sc_Node_mask.nd rfl (Or.inl rfl)) pgs_nil)))) (pss_one (ps_if (pt_cmpR op_eq (pv 3) (pe_k rfl T.c_CONFIGURATION) (nomark _)) (pss_one (ps_set (i := 1) sc_Node_mask.nd rfl (Or.inl rfl) (pv 4))) pss_nil)))
      (pss_one (ps_ret (pv 1))))), ?_⟩
    refine ⟨_, rfl, _, _, _, _, _, rfl, hp, T.cl_Node, T.na_Node_initial, lk_Node_initial _, _, rfl, _, _, _, _, _, rfl, hp, T.cl_Node, T.na_Node_log, lk_Node_log _, _, rfl, ⟨_, SqL.of (sF _ _ hl)⟩, for_list (xs := ps.map V.ref) (fun j σ H' => ∃ a b c : Option V, H' = H ∧ σ = [some (.ref p), some (vn (Rf.cfg z (n.row.take j))), a, b, c]) ⟨none, none, none, rfl, rfl⟩ (fun j σ H' _ ⟨_, _, _, e, _⟩ => by rw [e]; exact SqL.of (sF _ _ hl)) ?_ ?_⟩
    · rintro j x σ H' hx ⟨a, b, c, rfl, rfl⟩
      obtain ⟨q, hq, rfl⟩ := get_refs hx
      obtain ⟨e, he, hF⟩ := pair_at hps hq
      refine ⟨_, _, rfl, SqT.of (sF _ _ hF), rfl, _, _, rfl, _, _, rfl, _, _, rfl, rfl, _, rfl, rfl, _, rfl, ite2 (fun hc => ?_) (fun hc => ?_)⟩
      · have hc' : e.sort = 1 := by
          have := of_decide_eq_true hc
          injection this with this
          omega
        refine ⟨_, rfl, some (vn e.term), some (vn e.sort), some (vn e.value), rfl, ?_⟩
        rw [Rf.cfg_take_succ he, if_pos hc']
        rfl
      · have hc' : ¬ e.sort = 1 := fun z => hc (by rw [z]; exact decide_eq_true rfl)
        refine ⟨some (vn e.term), some (vn e.sort), some (vn e.value), rfl, ?_⟩
        rw [Rf.cfg_take_succ he, if_neg hc']
        rfl
    · rintro σ H' ⟨a, b, c, rfl, rfl⟩
      refine ⟨_, rfl, ?_⟩
      rw [List.length_map, hps.length, List.take_length]
      exact k _ (Same.refl _)
end
end Wk
end

section
set_option Elab.async false
set_option linter.all false
set_option maxRecDepth 100000
set_option maxHeartbeats 4000000
namespace Wk
open PySem PySem.Spec PyProof.Rows L2
theorem same_upd {H H' : Hp} {p : Addr} {o : HO} (s : Same H H') (h : H p = none) : Same H (upd H' p o) := fun b u e => by
  rw [upd_ne (ne_of_none e h)]
  exact s b u e
theorem dec_int (a b : Int) : decide (V.int a = V.int b) = decide (a = b) := by
  by_cases h : a = b
  · rw [h, decide_eq_true rfl, decide_eq_true rfl]
  · rw [decide_eq_false h, decide_eq_false (fun z => h (V.int.inj z))]
theorem dec_vn (a b : Nat) : decide (vn a = vn b) = decide (a = b) := by
  unfold vn
  rw [dec_int]
  by_cases h : a = b
  · rw [h, decide_eq_true rfl, decide_eq_true rfl]
  · rw [decide_eq_false h, decide_eq_false (fun z => h (by omega))]
theorem size_small {n : Nat} (h : n ≤ 100000) : n < sizeLine := Nat.lt_of_le_of_lt h (by decide)
theorem size_le {n : Nat} (h : n ≤ 100000) : n ≤ sizeLine := Nat.le_trans h (by decide)
def bitsV : List V := [.int 1, .int 2, .int 4, .int 8, .int 16]
theorem bit_at {i : Nat} (h : i < 5) : atI bitsV (i : Int) = some (.int ((2 ^ i : Nat) : Int)) := by
  have : i = 0 ∨ i = 1 ∨ i = 2 ∨ i = 3 ∨ i = 4 := by omega
  rcases this with rfl | rfl | rfl | rfl | rfl <;> rfl
theorem pow_ok {i : Nat} (h : i < 5) : CDivN 0 ((2 ^ i : Nat) : Int) := by
  have : i = 0 ∨ i = 1 ∨ i = 2 ∨ i = 3 ∨ i = 4 := by omega
  rcases this with rfl | rfl | rfl | rfl | rfl <;> exact ⟨by decide, by decide⟩
theorem div_nat (m k : Nat) : (m : Int).fdiv (k : Int) = ((m / k : Nat) : Int) := by
  rw [Int.fdiv_eq_ediv_of_nonneg _ (Int.natCast_nonneg k)]
  exact (Int.natCast_ediv m k).symm
theorem mod_nat (m k : Nat) : (m : Int).fmod (k : Int) = ((m % k : Nat) : Int) := by
  rw [Int.fmod_eq_emod_of_nonneg _ (Int.natCast_nonneg k)]
  exact (Int.natCast_emod m k).symm
theorem isIn_dec (m i : Nat) : decide (V.int ((((m : Int).fdiv ((2 ^ i : Nat) : Int))).fmod 2) = V.int 1) = Ag12.isIn m i := by
  rw [div_nat, show (2 : Int) = ((2 : Nat) : Int) from rfl, mod_nat]
  show decide (vn (m / 2 ^ i % 2) = vn 1) = Ag12.isIn m i
  rw [dec_vn]
  unfold Ag12.isIn
  by_cases h : m / 2 ^ i % 2 = 1
  · rw [decide_eq_true h, h]
    rfl
  · rw [decide_eq_false h]
    exact (beq_eq_false_iff_ne.mpr h).symm
theorem range_filter_succ (q : Nat → Bool) (i : Nat) : (List.range (i + 1)).filter q = if q i = true then (List.range i).filter q ++ [i] else (List.range i).filter q := by
  rw [List.range_succ, List.filter_append]
  cases h : q i with
  | true => rw [if_pos rfl, List.filter_cons_of_pos h, List.filter_nil]
  | false => rw [if_neg Bool.false_ne_true, List.filter_cons_of_neg (by simp [h]), List.filter_nil, List.append_nil]
theorem nl_snoc (l : List Nat) (x : Nat) : nl (l ++ [x]) = nl l ++ [vn x] := nl_append l [x]
theorem filter_len_le (q : Nat → Bool) (i : Nat) : ((List.range i).filter q).length ≤ i := by
  have := List.length_filter_le q (List.range i)
  rw [List.length_range] at this
  exact this
theorem inV_nl (x : Nat) : ∀ l : List Nat, inV (vn x) (nl l) = l.contains x
  | [] => rfl
  | y :: l => by
    have e : inV (vn x) (nl (y :: l)) = (eqV (vn y) (vn x) || inV (vn x) (nl l)) := rfl
    have e2 : eqV (vn y) (vn x) = (y == x) := by
      show ((y : Int) == (x : Int)) = (y == x)
      by_cases h : y = x
      · subst h
        rw [beq_self_eq_true, beq_self_eq_true]
      · rw [beq_eq_false_iff_ne.mpr h, beq_eq_false_iff_ne.mpr (by omega)]
    rw [e, e2, inV_nl x l, List.contains_cons, Bool.beq_comm]
theorem flat_nl : ∀ l : List Nat, (nl l).all flatV = true
  | [] => rfl
  | y :: l => flat_nl l
theorem get_nl {l : List Nat} {i : Nat} {x : V} (h : (nl l)[i]? = some x) : ∃ k, l[i]? = some k ∧ x = vn k := by
  unfold nl at h
  rw [List.getElem?_map] at h
  cases e : l[i]? with
  | none => rw [e] at h; cases h
  | some p =>
    rw [e] at h
    exact ⟨p, rfl, (Option.some.inj h).symm⟩
theorem take_filter_succ {l : List Nat} {i k : Nat} (q : Nat → Bool) (h : l[i]? = some k) : (l.take (i + 1)).filter q = if q k = true then (l.take i).filter q ++ [k] else (l.take i).filter q := by
  rw [List.take_add_one, h, List.filter_append]
  show _ ++ List.filter q [k] = _
  cases c : q k with
  | true => rw [if_pos rfl, List.filter_cons_of_pos c, List.filter_nil]
  | false => rw [if_neg Bool.false_ne_true, List.filter_cons_of_neg (by simp [c]), List.filter_nil, List.append_nil]
theorem filter_take_le (q : Nat → Bool) (l : List Nat) (i : Nat) : ((l.take i).filter q).length ≤ l.length := by
  have := List.length_filter_le q (l.take i)
  rw [List.length_take] at this
  omega
theorem listOf_len (m : Nat) : (Ag12.listOf m).length ≤ 5 := filter_len_le _ 5
section
variable {P : Program} {w : World} {K : PySem.W.Frag} {mg : Str → Option Value} {base : Heap} {A : Ad}
def spMembers (A : Ad) : Sp := fun vs H Q _ => ∃ F p i z n, vs = [.ref p] ∧ Same F H ∧ NodeAt A F H p i z n ∧ ∀ H' q, Same H H' → H q = none → H' q = some (.lst (nl (Ag12.listOf (mem z n)))) → Q (.ref q) H'
theorem sc_Node_members : FnScope n_Node_members p_Node_members (defScope s_Node_members) := ⟨rfl, rfl, rfl, by decide +kernel, rfl, by decide +kernel, by decide +kernel⟩
theorem ok_Node_members (T : Txt K mg A) : Keeps P w K mg base CX0 2 A.f_Node_members p_Node_members (spMembers A) := by
  obtain ⟨fd_Node_mask, G_Node_mask, b_Node_mask⟩ := ok_Node_mask (P := P) (w := w) (base := base) T
  obtain ⟨fd, F⟩ := T.F_Node_members
  refine ⟨fd, F.ok sc_Node_members (fun vs H Q E h => ?_) (fun cdv Ar outer s H vs Q E hr h => ?_), F.binds fun _ _ _ _ _ _ us hl => match us, hl with | [_], _ => rfl⟩
  · obtain ⟨F, p, i, z, n, rfl, _⟩ := h
    rfl
  · obtain ⟨F, p, i, z, n, rfl, sF, hn, k⟩ := h
    obtain ⟨dx, lg, vt, nx, mt, hp, _⟩ := hn.ex
    refine ⟨_, (pss_cons (ps_set (i := 1) sc_Node_members.nd rfl (Or.inr rfl) (pe_meth0 (pv 0) T.cl_Node T.m_Node_mask G_Node_mask (hr.mono (by decide)) b_Node_mask .nil pass0))
      (pss_one (ps_ret (pe_lc (own := [("number", 2)]) rfl sc_Node_members.nd (pi_range1 (by rfl) T.b_range (pa_cons (pe_k rfl T.c_MANY) pa_nil)) (blkOk_by (own := [("number", 2)]) (N := n_Node_members) (sc := defScope s_Node_members) (by decide +kernel)) (fun _ _ _ _ _ => (pg_name (i := 2) sc_Node_members.nd rfl (Or.inl rfl))) (fun _ _ _ _ _ => (pts_one (pt_cmpR op_eq (pe_op op_modN (pe_op op_fdivN (pv 1) (pe_ix (r := rIxT K) ix_tup (pe_glob (v := .ref A.a_BITS) rfl T.g_BITS rfl) (pv 2) (fun _ _ => rfl))) pe_int) pe_int (nomark _)))) (fun _ _ _ _ _ => (pv 2)))))), ?_⟩
    refine ⟨_, rfl, p, dx, _, rfl, hp, no_Node_mask _, F, p, i, z, n, rfl, sF, hn, fun H1 s1 => ?_⟩
    refine ⟨5, rfl, by decide, by decide, fun D hD => lc_range (lo := 0) (n := 5) (fun j H' => Same H1 H' ∧ H' D = some (.lst (nl ((List.range j).filter (Ag12.isIn (mem z n)))))) ⟨same_new hD, upd_same⟩ ?_ ?_⟩
    · rintro j H' hj ⟨s2, hd⟩
      refine ⟨rfl, _, rfl, _, rfl, A.a_BITS, bitsV, ((0 : Int) + (j : Int)), _, rfl, rfl, Or.inr T.bits, (by rw [Int.zero_add]; exact bit_at hj), _, _, rfl, rfl, pow_ok hj, _, _, rfl, rfl, (by show (2 : Int) ≠ 0; decide), rfl, _, rfl, ?_⟩
      rw [isIn_dec, range_filter_succ]
      cases hb : Ag12.isIn (mem z n) j with
      | true =>
        refine iteT ⟨_, rfl, _, hd, size_small (by rw [nl_len]; exact Nat.le_trans (filter_len_le _ j) (by omega)), same_upd s2 hD, ?_⟩
        rw [upd_same, if_pos rfl, nl_snoc, Int.zero_add]
        rfl
      | false => exact iteF ⟨s2, by rw [if_neg Bool.false_ne_true]; exact hd⟩
    · rintro H' ⟨s2, hd⟩
      exact k H' D (s1.trans s2) (s1.free hD) hd
def spOthers (A : Ad) : Sp := fun vs H Q _ => ∃ F p i z n, vs = [.ref p] ∧ Same F H ∧ NodeAt A F H p i z n ∧ ∀ H' q, Same H H' → H q = none → H' q = some (.lst (nl ((Ag12.listOf (mem z n)).filter fun j => j != i))) → Q (.ref q) H'
theorem sc_Node_others : FnScope n_Node_others p_Node_others (defScope s_Node_others) := ⟨rfl, rfl, rfl, by decide +kernel, rfl, by decide +kernel, by decide +kernel⟩
theorem ok_Node_others (T : Txt K mg A) : Keeps P w K mg base CX0 3 A.f_Node_others p_Node_others (spOthers A) := by
  obtain ⟨fd_Node_members, G_Node_members, b_Node_members⟩ := ok_Node_members (P := P) (w := w) (base := base) T
  obtain ⟨fd, F⟩ := T.F_Node_others
  refine ⟨fd, F.ok sc_Node_others (fun vs H Q E h => ?_) (fun cdv Ar outer s H vs Q E hr h => ?_), F.binds fun _ _ _ _ _ _ us hl => match us, hl with | [_], _ => rfl⟩
  · obtain ⟨F, p, i, z, n, rfl, _⟩ := h
    rfl
  · obtain ⟨F, p, i, z, n, rfl, sF, hn, k⟩ := h
    obtain ⟨dx, lg, vt, nx, mt, hp, _⟩ := hn.ex
    refine ⟨_, (pss_one (ps_ret (pe_lc (own := [("number", 1)]) rfl sc_Node_others.nd (pi_list (pe_meth0 (pv 0) T.cl_Node T.m_Node_members G_Node_members (hr.mono (by decide)) b_Node_members .nil pass0)) (blkOk_by (own := [("number", 1)]) (N := n_Node_others) (sc := defScope s_Node_others) (by decide +kernel)) (fun _ _ _ _ _ => (pg_name (i := 1) sc_Node_others.nd rfl (Or.inl rfl))) (fun _ _ _ _ _ => (pts_one (pt_cmpR op_ne (pv 1) (pe_fldK (K := K) rfl (pv 0) rfl) (nomark _)))) (fun _ _ _ _ _ => (pv 1))))), ?_⟩
    refine ⟨_, rfl, p, dx, _, rfl, hp, no_Node_members _, F, p, i, z, n, rfl, sF, hn, fun H1 q s1 hq0 hq => ?_⟩
    refine ⟨q, rfl, ⟨_, SqL.of hq⟩, fun D hD => lc_list (a := q) (xs := nl (Ag12.listOf (mem z n))) (fun j H' => Same H1 H' ∧ H' D = some (.lst (nl (((Ag12.listOf (mem z n)).take j).filter fun j => j != i)))) ⟨same_new hD, upd_same⟩ (fun j H' _ ⟨s2, _⟩ => SqL.of (s2 _ _ hq)) ?_ ?_⟩
    · rintro j x H' hx ⟨s2, hd⟩
      obtain ⟨m, hm, rfl⟩ := get_nl hx
      have hp2 := s2 _ _ (s1 _ _ hp)
      refine ⟨rfl, _, rfl, _, rfl, _, _, _, _, _, rfl, hp2, T.cl_Node, T.na_Node_number, lk_Node_number _, rfl, _, rfl, ?_⟩
      rw [take_filter_succ _ hm]
      show if (!decide (vn m = vn i)) = true then _ else _
      rw [dec_vn]
      by_cases c : m = i
      · rw [decide_eq_true c, c, bne_self_eq_false]
        exact iteF ⟨s2, hd⟩
      · have e : (m != i) = true := bne_iff_ne.mpr c
        rw [decide_eq_false c, e]
        refine iteT ⟨_, rfl, _, hd, size_small (by rw [nl_len]; exact Nat.le_trans (filter_take_le _ _ j) (Nat.le_trans (listOf_len _) (by omega))), same_upd s2 hD, ?_⟩
        rw [upd_same, if_pos rfl, nl_snoc]
    · rintro H' ⟨s2, hd⟩
      rw [nl_len, List.take_length] at hd
      exact k H' D (s1.trans s2) (s1.free hD) hd
def spMajor (K : PySem.W.Frag) (A : Ad) : Sp := fun vs H Q _ => ∃ F p i z n q l, vs = [.ref p, .ref q] ∧ Same F H ∧ NodeAt A F H p i z n ∧ SqL K H q (nl l) ∧ ∀ H', Same H H' → Q (.bl (Ag12.most (mem z n) l)) H'
theorem sc_Node_is_majority : FnScope n_Node_is_majority p_Node_is_majority (defScope s_Node_is_majority) := ⟨rfl, rfl, rfl, by decide +kernel, rfl, by decide +kernel, by decide +kernel⟩
theorem ok_Node_is_majority (T : Txt K mg A) : Keeps P w K mg base CX0 3 A.f_Node_is_majority p_Node_is_majority (spMajor K A) := by
  obtain ⟨fd_Node_members, G_Node_members, b_Node_members⟩ := ok_Node_members (P := P) (w := w) (base := base) T
  obtain ⟨fd, F⟩ := T.F_Node_is_majority
  refine ⟨fd, F.ok sc_Node_is_majority (fun vs H Q E h => ?_) (fun cdv Ar outer s H vs Q E hr h => ?_), F.binds fun _ _ _ _ _ _ us hl => match us, hl with | [_, _], _ => rfl⟩
  · obtain ⟨F, p, i, z, n, q, l, rfl, _⟩ := h
    rfl
  · obtain ⟨F, p, i, z, n, q, l, rfl, sF, hn, hq, k⟩ := h
    obtain ⟨dx, lg, vt, nx, mt, hp, _⟩ := hn.ex
    refine ⟨_, (pss_cons (ps_set (i := 2) sc_Node_is_majority.nd rfl (Or.inl rfl) (pe_meth0 (pv 0) T.cl_Node T.m_Node_members G_Node_members (hr.mono (by decide)) b_Node_members .nil pass0))
      (pss_one (ps_ret (pe_cmpR op_gt (pe_op op_mul pe_int (pe_callB (r := rLenK K) call_len_seq (by rfl) T.b_len PySem.boot_len (pa_cons (pe_lc (own := [("number", 3)]) rfl sc_Node_is_majority.nd (pi_list (pv 2)) (blkOk_by (own := [("number", 3)]) (N := n_Node_is_majority) (sc := defScope s_Node_is_majority) (by decide +kernel)) (fun _ _ _ _ _ => (pg_name (i := 3) sc_Node_is_majority.nd rfl (Or.inl rfl))) (fun _ _ _ _ _ => (pts_one (pt_cmpR (r := rIn K false) op_in_seq (pv 3) (pv 1) (by rfl)))) (fun _ _ _ _ _ => (pv 3))) pa_nil))) (pe_callB (r := rLenK K) call_len_seq (by rfl) T.b_len PySem.boot_len (pa_cons (pv 2) pa_nil)) (nomark _))))), ?_⟩
    refine ⟨_, rfl, p, dx, _, rfl, hp, no_Node_members _, F, p, i, z, n, rfl, sF, hn, fun H1 r s1 hr0 hr1 => ?_⟩
    refine ⟨_, rfl, r, rfl, ⟨_, SqL.of hr1⟩, fun D hD => lc_list (a := r) (xs := nl (Ag12.listOf (mem z n))) (fun j H' => Same H1 H' ∧ H' D = some (.lst (nl (((Ag12.listOf (mem z n)).take j).filter fun j => l.contains j)))) ⟨same_new hD, upd_same⟩ (fun j H' _ ⟨s2, _⟩ => SqL.of (s2 _ _ hr1)) ?_ ?_⟩
    · rintro j x H' hx ⟨s2, hd⟩
      obtain ⟨m, hm, rfl⟩ := get_nl hx
      refine ⟨rfl, _, rfl, _, rfl, q, nl l, rfl, .inl ((s1.trans s2).seq hq), rfl, flat_nl l, _, rfl, ?_⟩
      rw [take_filter_succ _ hm]
      show if (if false = true then !inV (vn m) (nl l) else inV (vn m) (nl l)) = true then _ else _
      rw [if_neg Bool.false_ne_true, inV_nl]
      cases c : l.contains m with
      | false => exact iteF ⟨s2, hd⟩
      | true =>
        refine iteT ⟨_, rfl, _, hd, size_small (by rw [nl_len]; exact Nat.le_trans (filter_take_le _ _ j) (Nat.le_trans (listOf_len _) (by omega))), same_upd s2 hD, ?_⟩
        rw [upd_same, if_pos rfl, nl_snoc]
    · rintro H' ⟨s2, hd⟩
      rw [nl_len, List.take_length] at hd
      refine ⟨D, _, rfl, .inl (SqL.of hd), _, _, rfl, rfl, .inl (by decide), _, rfl, r, _, rfl, .inl (SqL.of (s2 _ _ hr1)), _, _, rfl, rfl, ?_⟩
      have e : (decide ((((nl (Ag12.listOf (mem z n))).length : Nat) : Int) < 2 * (((nl ((Ag12.listOf (mem z n)).filter fun j => l.contains j)).length : Nat) : Int))) = Ag12.most (mem z n) l := by
        unfold Ag12.most
        rw [nl_len, nl_len]
        exact decide_eq_decide.mpr (by omega)
      show Q (V.bl (decide ((((nl (Ag12.listOf (mem z n))).length : Nat) : Int) < 2 * (((nl ((Ag12.listOf (mem z n)).filter fun j => l.contains j)).length : Nat) : Int)))) H'
      rw [e]
      exact k H' (s1.trans s2)
def spTermAt (A : Ad) : Sp := fun vs H Q _ => ∃ F p i z n k, vs = [.ref p, vn k] ∧ Same F H ∧ NodeAt A F H p i z n ∧ k ≤ n.row.length ∧ Q (vn (Ag12.termAt n.row k)) H
theorem row_at {F : Hp} {ps : List Addr} {es : List Ent} (h : Paired (fun p e => F p = some (.tup (entV e))) ps es) {k : Nat} (hk : k < es.length) : ∃ p e, (ps.map V.ref)[k]? = some (.ref p) ∧ es[k]? = some e ∧ F p = some (.tup (entV e)) := by
  obtain ⟨e, he⟩ := Rf.get_of_lt hk
  obtain ⟨p, hp, hF⟩ := pair_get h he
  exact ⟨p, e, by rw [List.getElem?_map, hp]; rfl, he, hF⟩
theorem sc_Node_term_at : FnScope n_Node_term_at p_Node_term_at (defScope s_Node_term_at) := ⟨rfl, rfl, rfl, by decide +kernel, rfl, by decide +kernel, by decide +kernel⟩
theorem ok_Node_term_at (T : Txt K mg A) : Keeps P w K mg base CX0 1 A.f_Node_term_at p_Node_term_at (spTermAt A) := by
  obtain ⟨fd, F⟩ := T.F_Node_term_at
  refine ⟨fd, F.ok sc_Node_term_at (fun vs H Q E h => ?_) (fun cdv Ar outer s H vs Q E hr h => ?_), F.binds fun _ _ _ _ _ _ us hl => match us, hl with | [_, _], _ => rfl⟩
  · obtain ⟨F, p, i, z, n, k, rfl, _⟩ := h
    rfl
  · obtain ⟨F, p, i, z, n, k, rfl, sF, hn, hk, q⟩ := h
    obtain ⟨dx, lg, vt, nx, mt, hp, ⟨ps, hl, hps⟩, _⟩ := hn.ex
    refine ⟨_, (pss_one (ps_ret (pe_ifExp (pt_cmpR op_gt (pv 1) pe_int (nomark _)) (pe_ix ix_tup (pe_ix ix_list (pe_fld (pv 0) rfl) (pe_op op_sub (pv 1) pe_int) (fun _ _ => rfl)) pe_int (fun _ _ => rfl)) pe_int))), ?_⟩
    refine ⟨_, rfl, _, _, rfl, rfl, _, rfl, ?_⟩
    by_cases c : 0 < k
    · rw [decide_eq_true (show (0 : Int) < (k : Int) by omega)]
      obtain ⟨t, e, h1, h2, h3⟩ := row_at hps (k := k - 1) (by omega)
      refine iteT ⟨_, rfl, _, _, _, _, _, rfl, hp, T.cl_Node, T.na_Node_log, lk_Node_log _, _, rfl, _, _, rfl, rfl, lg, _, _, _, rfl, rfl, SqL.of (sF _ _ hl), ?_, t, entV e, 0, vn e.term, rfl, rfl, SqT.of (sF _ _ h3), rfl, ?_⟩
      · rw [show (k : Int) - 1 = ((k - 1 : Nat) : Int) by omega]
        exact atI_nat h1
      · have := Rf.termAt_get h2
        rw [show k - 1 + 1 = k by omega] at this
        rw [← this]
        exact q
    · rw [decide_eq_false (show ¬ (0 : Int) < (k : Int) by omega)]
      have : k = 0 := by omega
      subst this
      exact iteF q
def spLastTerm (A : Ad) : Sp := fun vs H Q _ => ∃ F p i z n, vs = [.ref p] ∧ Same F H ∧ NodeAt A F H p i z n ∧ Q (vn (Ag12.lastTerm n)) H
theorem sc_Node_last_term : FnScope n_Node_last_term p_Node_last_term (defScope s_Node_last_term) := ⟨rfl, rfl, rfl, by decide +kernel, rfl, by decide +kernel, by decide +kernel⟩
theorem ok_Node_last_term (T : Txt K mg A) : Keeps P w K mg base CX0 2 A.f_Node_last_term p_Node_last_term (spLastTerm A) := by
  obtain ⟨fd_Node_term_at, G_Node_term_at, b_Node_term_at⟩ := ok_Node_term_at (P := P) (w := w) (base := base) T
  obtain ⟨fd, F⟩ := T.F_Node_last_term
  refine ⟨fd, F.ok sc_Node_last_term (fun vs H Q E h => ?_) (fun cdv Ar outer s H vs Q E hr h => ?_), F.binds fun _ _ _ _ _ _ us hl => match us, hl with | [_], _ => rfl⟩
  · obtain ⟨F, p, i, z, n, rfl, _⟩ := h
    rfl
  · obtain ⟨F, p, i, z, n, rfl, sF, hn, q⟩ := h
    obtain ⟨dx, lg, vt, nx, mt, hp, ⟨ps, hl, hps⟩, _⟩ := hn.ex
    refine ⟨_, (pss_one (ps_ret (pe_meth (pv 0) T.cl_Node T.m_Node_term_at G_Node_term_at (hr.mono (by decide)) b_Node_term_at .nil pass0 (pa_cons (pe_callB (r := rLenK K) call_len_seq (by rfl) T.b_len PySem.boot_len (pa_cons (pe_fld (pv 0) rfl) pa_nil)) pa_nil)))), ?_⟩
    refine ⟨_, rfl, p, dx, _, rfl, hp, no_Node_term_at _, _, rfl, _, _, _, _, _, rfl, hp, T.cl_Node, T.na_Node_log, lk_Node_log _, lg, _, rfl, .inl (SqL.of (sF _ _ hl)), F, p, i, z, n, n.row.length, ?_, sF, hn, Nat.le_refl _, q⟩
    show [V.ref p, V.int (((ps.map V.ref).length : Nat) : Int)] = [V.ref p, vn n.row.length]
    rw [List.length_map, hps.length]
    rfl
def open_ (n : Ag12.Node) : Bool := !((n.row.drop n.done).all fun (e : Ent) => e.sort != 1)
def spOpen (A : Ad) : Sp := fun vs H Q _ => ∃ F p i z n, vs = [.ref p] ∧ Same F H ∧ NodeAt A F H p i z n ∧ n.row.length ≤ 1000 ∧ ∀ H', Same H H' → Q (.bl (open_ n)) H'
theorem cutV_drop (xs : List V) (k : Nat) : cutV xs (some (k : Int)) none = xs.drop k := by
  unfold cutV
  rw [HT.sIx_nat, HT.sIx_none]
  rw [List.take_of_length_le (by rw [List.length_drop]; omega)]
  rcases Nat.le_total k xs.length with h | h
  · rw [Nat.min_eq_left h]
  · rw [Nat.min_eq_right h, List.drop_eq_nil_of_le (Nat.le_refl _), List.drop_eq_nil_of_le h]
theorem cutV_take (xs : List V) (k : Nat) : cutV xs none (some (k : Int)) = xs.take k := by
  unfold cutV
  rw [HT.sIx_nat, HT.sIx_none, List.drop_zero, Nat.sub_zero]
  rcases Nat.le_total k xs.length with h | h
  · rw [Nat.min_eq_left h]
  · rw [Nat.min_eq_right h, List.take_of_length_le (Nat.le_refl _), List.take_of_length_le h]
theorem map_take {α β : Type} (f : α → β) (l : List α) (k : Nat) : (l.map f).take k = (l.take k).map f := List.map_take.symm
theorem map_drop {α β : Type} (f : α → β) (l : List α) (k : Nat) : (l.map f).drop k = (l.drop k).map f := List.map_drop.symm
/-- 1 for each configuration -/
def onesOf (l : List Ent) : List V := (l.filter fun (e : Ent) => e.sort == 1).map fun _ => V.int 1
theorem onesOf_succ {l : List Ent} {i : Nat} {e : Ent} (h : l[i]? = some e) : onesOf (l.take (i + 1)) = if e.sort = 1 then onesOf (l.take i) ++ [V.int 1] else onesOf (l.take i) := by
  unfold onesOf
  rw [List.take_add_one, h, List.filter_append, List.map_append]
  show _ ++ List.map _ (List.filter (fun (e : Ent) => e.sort == 1) [e]) = _
  by_cases c : e.sort = 1
  · have : [e].filter (fun (e : Ent) => e.sort == 1) = [e] := by simp [c]
    rw [if_pos c, this]
    rfl
  · have : [e].filter (fun (e : Ent) => e.sort == 1) = [] := by simp [c]
    rw [if_neg c, this, List.map_nil, List.append_nil]
theorem onesOf_len (l : List Ent) : (onesOf l).length ≤ l.length := by
  unfold onesOf
  rw [List.length_map]
  exact List.length_filter_le _ _
theorem dp_ones {K : PySem.W.Frag} {H : Hp} : ∀ (l : List Ent), DpAll K H (onesOf l) ((l.filter fun (e : Ent) => e.sort == 1).map fun _ => PyData.int 1) := fun l => by
  unfold onesOf
  generalize l.filter (fun (e : Ent) => e.sort == 1) = m
  induction m with
  | nil => exact .nil
  | cons x m ih => exact .cons (.int _) ih
end
end Wk
end

section
set_option Elab.async false
set_option linter.all false
set_option maxRecDepth 100000
set_option maxHeartbeats 4000000
namespace Wk
open PySem PySem.Spec PyProof.Rows L2
/-! ### lists of whole numbers as data -/
theorem dp_ints {K : PySem.W.Frag} {H : Hp} : ∀ (l : List Int), DpAll K H (l.map V.int) (l.map PyData.int)
  | [] => .nil
  | x :: l => .cons (.int x) (dp_ints l)
theorem lay_ints : ∀ l : List Int, PyData.canLayAll0 (l.map PyData.int) = true ∧ PyData.depthAll (l.map PyData.int) ≤ 1
  | [] => by simp [PyData.canLayAll0, PyData.depthAll]
  | x :: l => by
    have h := lay_ints l
    simp only [List.map_cons, PyData.canLayAll0, PyData.depthAll, PyData.canLay0, PyData.depth, h.1, Bool.and_self, true_and]
    have := h.2
    omega
theorem shaped_ints (l : List Int) : SeqAt.shaped (.list (l.map PyData.int)) = true := by
  have h := lay_ints l
  unfold SeqAt.shaped
  have h2 := h.2
  simp only [PyData.canLay0, PyData.depth, h.1, Bool.true_and]
  exact decide_eq_true (by omega)
theorem eqv_nil : ∀ l : List Int, PyData.eqv (.list (l.map PyData.int)) (.list []) = l.isEmpty
  | [] => by simp [PyData.eqv, PyData.eqvAll]
  | x :: l => by simp [PyData.eqv, PyData.eqvAll]
theorem onesOf_ints (l : List Ent) : onesOf l = (((l.filter fun (e : Ent) => e.sort == 1).map fun _ => (1 : Int)).map V.int) := by
  unfold onesOf
  rw [List.map_map]
  rfl
theorem open_eq (l : List Ent) : (!(((l.filter fun (e : Ent) => e.sort == 1).map fun _ => (1 : Int)).isEmpty)) = !(l.all fun (e : Ent) => e.sort != 1) := by
  induction l with
  | nil => rfl
  | cons e l ih =>
    by_cases c : e.sort = 1
    · simp [c]
    · have h1 : (e.sort == 1) = false := by simp [c]
      have h2 : (e.sort != 1) = true := by simp [c]
      rw [List.all_cons, h2, Bool.true_and, ← ih, List.filter_cons, h1]
      rfl
theorem pair_len {α β : Type} {F : α → β → Prop} {l : List α} {m : List β} (h : Paired F l m) : l.length = m.length := h.length
/-! ### the next commit index -/
def farz (z i : Nat) (n : Ag12.Node) : Nat := ((List.range (n.row.length + 1)).filter fun (k : Nat) => decide (n.done < k) && (Ag12.termAt n.row k == n.term && Ag12.most (mem z n) ((List.range Ag12.NODES).filter fun (j : Nat) => j == i || decide (k ≤ n.has.getD j 0)))).foldl max n.done
theorem foldl_max_le : ∀ (l : List Nat) (a b : Nat), a ≤ b → (∀ x, x ∈ l → x ≤ b) → l.foldl max a ≤ b
  | [], a, b, h, _ => h
  | x :: r, a, b, h, k => foldl_max_le r (max a x) b (by have := k x List.mem_cons_self; omega) fun y hy => k y (List.mem_cons_of_mem _ hy)
theorem foldl_max_ge : ∀ (l : List Nat) (a : Nat), a ≤ l.foldl max a
  | [], a => Nat.le_refl _
  | x :: r, a => Nat.le_trans (Nat.le_max_left a x) (foldl_max_ge r (max a x))
theorem foldl_max_mem : ∀ (l : List Nat) (a x : Nat), x ∈ l → x ≤ l.foldl max a
  | y :: r, a, x, h => by
    rcases List.mem_cons.mp h with z | z
    · subst z
      exact Nat.le_trans (Nat.le_max_right a x) (foldl_max_ge r (max a x))
    · exact foldl_max_mem r (max a y) x z
def farQ (z i : Nat) (n : Ag12.Node) (k : Nat) : Bool := Ag12.termAt n.row k == n.term && Ag12.most (mem z n) ((List.range Ag12.NODES).filter fun (j : Nat) => j == i || decide (k ≤ n.has.getD j 0))
theorem far_top {z i : Nat} {n : Ag12.Node} {k : Nat} (h1 : n.done < k) (h2 : k ≤ n.row.length) (h3 : farQ z i n k = true) (no : ∀ m, k < m → m ≤ n.row.length → farQ z i n m = false) : farz z i n = k := by
  unfold farz
  refine Nat.le_antisymm (foldl_max_le _ _ _ (Nat.le_of_lt h1) fun x hx => ?_) (foldl_max_mem _ _ _ ?_)
  · obtain ⟨a, b⟩ := List.mem_filter.mp hx
    have a := List.mem_range.mp a
    rcases Nat.lt_or_ge k x with c | c
    · have := no x c (by omega)
      unfold farQ at this
      rw [Bool.and_eq_true] at b
      rw [b.2] at this
      cases this
    · exact c
  · refine List.mem_filter.mpr ⟨List.mem_range.mpr (by omega), ?_⟩
    rw [decide_eq_true h1]
    exact h3
theorem far_low {z i : Nat} {n : Ag12.Node} (no : ∀ m, n.done < m → m ≤ n.row.length → farQ z i n m = false) : farz z i n = n.done := by
  unfold farz
  refine Nat.le_antisymm (foldl_max_le _ _ _ (Nat.le_refl _) fun x hx => ?_) (foldl_max_ge _ _)
  obtain ⟨a, b⟩ := List.mem_filter.mp hx
  have a := List.mem_range.mp a
  rw [Bool.and_eq_true] at b
  have c := of_decide_eq_true b.1
  have := no x c (by omega)
  unfold farQ at this
  rw [b.2] at this
  cases this
theorem most_congr {m : Nat} {l l' : List Nat} (h : ∀ j, j < 5 → l.contains j = l'.contains j) : Ag12.most m l = Ag12.most m l' := by
  unfold Ag12.most
  have e : (Ag12.listOf m).filter (fun (i : Nat) => l.contains i) = (Ag12.listOf m).filter fun (i : Nat) => l'.contains i := List.filter_congr fun j hj => h j (Rf.listOf_lt hj)
  rw [e]
theorem far_list {n : Ag12.Node} {i k : Nat} (m : Nat) : Ag12.most m (((List.range 5).filter fun j => decide (k ≤ n.has.getD j 0)) ++ [i]) = Ag12.most m ((List.range Ag12.NODES).filter fun (j : Nat) => j == i || decide (k ≤ n.has.getD j 0)) := by
  refine most_congr fun j hj => ?_
  rw [Bool.eq_iff_iff]
  simp only [List.contains_eq_mem, decide_eq_true_eq, List.mem_append, List.mem_filter, List.mem_range, List.mem_singleton, Bool.or_eq_true, beq_iff_eq]
  constructor
  · rintro (⟨a, b⟩ | a)
    · exact ⟨a, .inr b⟩
    · exact ⟨hj, .inl a⟩
  · rintro ⟨a, b | b⟩
    · exact .inr b
    · exact .inl ⟨hj, b⟩
theorem nl_at {l : List Nat} {j d : Nat} (h : j < l.length) : atI (nl l) (j : Int) = some (vn (l.getD j d)) := by
  refine atI_nat ?_
  unfold nl
  rw [List.getElem?_map, List.getD_eq_getElem?_getD, List.getElem?_eq_getElem h]
  rfl
theorem beq_nat (a b : Nat) : decide (vn a = vn b) = (a == b) := by
  rw [dec_vn]
  by_cases h : a = b
  · subst h
    rw [decide_eq_true rfl, beq_self_eq_true]
  · rw [decide_eq_false h, beq_eq_false_iff_ne.mpr h]
section
variable {P : Program} {w : World} {K : PySem.W.Frag} {mg : Str → Option Value} {base : Heap} {A : Ad}
theorem sc_Node_has_open_configuration : FnScope n_Node_has_open_configuration p_Node_has_open_configuration (defScope s_Node_has_open_configuration) := ⟨rfl, rfl, rfl, by decide +kernel, rfl, by decide +kernel, by decide +kernel⟩
theorem ok_Node_has_open_configuration (T : Txt K mg A) : Keeps P w K mg base CX0 1 A.f_Node_has_open_configuration p_Node_has_open_configuration (spOpen A) := by
  obtain ⟨fd, F⟩ := T.F_Node_has_open_configuration
  refine ⟨fd, F.ok sc_Node_has_open_configuration (fun vs H Q E h => ?_) (fun cdv Ar outer s H vs Q E hr h => ?_), F.binds fun _ _ _ _ _ _ us hl => match us, hl with | [_], _ => rfl⟩
  · obtain ⟨F, p, i, z, n, rfl, _⟩ := h
    rfl
  · obtain ⟨F, p, i, z, n, rfl, sF, hn, hlen, k⟩ := h
    obtain ⟨dx, lg, vt, nx, mt, hp, ⟨ps, hl, hps⟩, _⟩ := hn.ex
    refine ⟨_, (pss_one (ps_ret (pe_cmpR (op_neD hr.units) (pe_lc (own := [("term", 1), ("kind", 2), ("value", 3)]) rfl sc_Node_has_open_configuration.nd (pi_list (pe_slice sl_list (pe_fld (pv 0) rfl) (po_some (pe_fld (pv 0) rfl)) po_none)) (blkOk_by (own := [("term", 1), ("kind", 2), ("value", 3)]) (N := n_Node_has_open_configuration) (sc := defScope s_Node_has_open_configuration) (by decide +kernel)) (fun _ _ _ _ _ => (pg_tupK (K := K) (n := 3) rfl rfl (pgs_cons (pg_name (i := 1) sc_Node_has_open_configuration.nd rfl (Or.inl rfl)) (pgs_cons (pg_name (i := 2) sc_Node_has_open_configuration.nd rfl (Or.inl rfl)) (pgs_cons (pg_name (i := 3) sc_Node_has_open_configuration.nd rfl (Or.inl rfl)) pgs_nil))))) (fun _ _ _ _ _ => (pts_one (pt_cmpR op_eq (pv 2) (pe_k rfl T.c_CONFIGURATION) (nomark _)))) (fun _ _ _ _ _ => pe_int)) (pe_lst pa_nil) (nomark _)))), ?_⟩
    refine ⟨_, rfl, _, _, _, _, _, rfl, hp, T.cl_Node, T.na_Node_log, lk_Node_log _, _, rfl, _, _, _, _, _, rfl, hp, T.cl_Node, T.na_Node_commit, lk_Node_commit _, _, rfl, lg, _, rfl, SqL.of (sF _ _ hl), fun q hq => ⟨q, rfl, ⟨_, SqL.of upd_same⟩, fun D hD => ?_⟩⟩
    have ec : cutV (ps.map V.ref) (some ((n.done : Nat) : Int)) none = (ps.drop n.done).map V.ref := by rw [cutV_drop, map_drop]
    have hps2 := pair_drop n.done hps
    have hlen2 : (ps.drop n.done).length ≤ 1000 := by
      rw [hps2.length, List.length_drop]
      omega
    refine lc_list (a := q) (xs := (ps.drop n.done).map V.ref) (fun j H' => Same (upd H q (.lst ((ps.drop n.done).map V.ref))) H' ∧ H' D = some (.lst (onesOf ((n.row.drop n.done).take j)))) ⟨?_, ?_⟩ (fun j H' _ ⟨s2, _⟩ => SqL.of (s2 _ _ upd_same)) ?_ ?_
    · have : Same (upd H q (.lst ((ps.drop n.done).map V.ref))) (upd (upd H q (.lst ((ps.drop n.done).map V.ref))) D (.lst [])) := same_new (by rw [← ec]; exact hD)
      rw [← ec] at this ⊢
      exact this
    · exact upd_same
    · rintro j x H' hx ⟨s2, hd⟩
      obtain ⟨r, hr2, rfl⟩ := get_refs hx
      obtain ⟨e, he, hF⟩ := pair_at hps2 hr2
      have hD' : upd H q (.lst ((ps.drop n.done).map V.ref)) D = none := by rw [← ec]; exact hD
      have hFr := s2 _ _ (same_new hq _ _ (sF _ _ hF))
      refine ⟨_, _, rfl, SqT.of hFr, rfl, _, _, rfl, _, _, rfl, _, _, rfl, rfl, rfl, _, rfl, rfl, _, rfl, ?_⟩
      rw [onesOf_succ he]
      show if decide (vn e.sort = vn 1) = true then _ else _
      rw [dec_vn]
      by_cases c : e.sort = 1
      · rw [decide_eq_true c, if_pos c]
        refine iteT ⟨_, hd, size_small (by have := onesOf_len ((n.row.drop n.done).take j); rw [List.length_take, List.length_drop] at this; omega), same_upd s2 hD', upd_same⟩
      · rw [decide_eq_false c, if_neg c]
        exact iteF ⟨s2, hd⟩
    · rintro H' ⟨s2, hd⟩
      have hD' : upd H q (.lst ((ps.drop n.done).map V.ref)) D = none := by rw [← ec]; exact hD
      rw [List.length_map, hps2.length, List.take_length] at hd
      refine ⟨Nat.zero_le _, fun b hb => ?_⟩
      have hDb : D ≠ b := ne_of_none hd hb
      refine ⟨.list ((((n.row.drop n.done).filter fun (e : Ent) => e.sort == 1).map fun _ => (1 : Int)).map PyData.int), .list [], .lst (SqL.of ((upd_ne hDb).trans (by rw [hd, onesOf_ints]))) (dp_ints _), .lst (SqL.of upd_same) .nil, shaped_ints _, shaped_ints [], ?_⟩
      show Q (.bl (!PyData.eqv _ _)) _
      rw [eqv_nil, open_eq]
      exact k _ (((same_new hq).trans s2).trans (same_new hb))
def spNext (A : Ad) : Sp := fun vs H Q _ => ∃ F p i z n, vs = [.ref p] ∧ Same F H ∧ NodeAt A F H p i z n ∧ n.has.length = 5 ∧ n.row.length ≤ 1000 ∧ n.done ≤ 1000 ∧ ∀ H', Same H H' → Q (vn (farz z i n)) H'
theorem sc_Node_next_commit : FnScope n_Node_next_commit p_Node_next_commit (defScope s_Node_next_commit) := ⟨rfl, rfl, rfl, by decide +kernel, rfl, by decide +kernel, by decide +kernel⟩
theorem ok_Node_next_commit (T : Txt K mg A) : Keeps P w K mg base CX0 4 A.f_Node_next_commit p_Node_next_commit (spNext A) := by
  obtain ⟨fd_Node_is_majority, G_Node_is_majority, b_Node_is_majority⟩ := ok_Node_is_majority (P := P) (w := w) (base := base) T
  obtain ⟨fd, F⟩ := T.F_Node_next_commit
  refine ⟨fd, F.ok sc_Node_next_commit (fun vs H Q E h => ?_) (fun cdv Ar outer s H vs Q E hr h => ?_), F.binds fun _ _ _ _ _ _ us hl => match us, hl with | [_], _ => rfl⟩
  · obtain ⟨F, p, i, z, n, rfl, _⟩ := h
    rfl
  · obtain ⟨F, p, i, z, n, rfl, sF, hn, hhas, hlen, hdone, k⟩ := h
    obtain ⟨dx, lg, vt, nx, mt, hp, ⟨ps, hl, hps⟩, hvt, hnx, hmt⟩ := hn.ex
    refine ⟨_, (pss_cons (ps_for PassesOwn.never rfl (pi_range3 (by rfl) T.b_range (pa_cons (pe_callB (r := rLenK K) call_len_seq (by rfl) T.b_len PySem.boot_len (pa_cons (pe_fld (pv 0) rfl) pa_nil)) (pa_cons (pe_fld (pv 0) rfl) (pa_cons (pe_un un_neg pe_int) pa_nil)))) (pg_name (i := 1) sc_Node_next_commit.nd rfl (Or.inr rfl)) (pss_cons (ps_setLc (own := [("number", 3)]) (i := 2) rfl sc_Node_next_commit.nd rfl rfl (sw_true rfl rfl rfl (by decide +kernel)) (pi_range1 (by rfl) T.b_range (pa_cons (pe_k rfl T.c_MANY) pa_nil)) (blkOk_by (own := [("number", 3)]) (N := n_Node_next_commit) (sc := defScope s_Node_next_commit) (by decide +kernel)) (fun _ _ _ _ _ => (pg_name (i := 3) sc_Node_next_commit.nd rfl (Or.inl rfl))) (fun _ _ _ _ _ => (pts_one (pt_cmpR op_ge (pe_ix (r := rIxL K) ix_list (pe_fldK (K := K) rfl (pv 0) rfl) (pv 3) (fun _ _ => rfl)) (pv 1) (nomark _)))) (fun _ _ _ _ _ => (pv 3)))
      (pss_one (ps_if (PW.pt (pw_and (pt_cmpR op_eq (pe_ix ix_tup (pe_ix ix_list (pe_fld (pv 0) rfl) (pe_op op_sub (pv 1) pe_int) (fun _ _ => rfl)) pe_int (fun _ _ => rfl)) (pe_fld (pv 0) rfl) (nomark _)) (pw_and1 (pt_val (pe_meth (pv 0) T.cl_Node T.m_Node_is_majority G_Node_is_majority (hr.mono (by decide)) b_Node_is_majority .nil pass0 (pa_cons (pe_op op_cat (pv 2) (pe_lst (pa_cons (pe_fld (pv 0) rfl) pa_nil))) pa_nil)))))) (pss_one (ps_ret (pv 1))) pss_nil))))
      (pss_one (ps_ret (pe_fld (pv 0) rfl)))), ?_⟩
    refine ⟨_, rfl, _, _, _, _, _, rfl, hp, T.cl_Node, T.na_Node_log, lk_Node_log _, lg, _, rfl, .inl (SqL.of (sF _ _ hl)), _, rfl, _, _, _, _, _, rfl, hp, T.cl_Node, T.na_Node_commit, lk_Node_commit _, _, rfl, ((n.row.length : Nat) : Int), ((n.done : Nat) : Int), -1, (((n.row.length : Nat) : Int) - ((n.done : Nat) : Int)).toNat, ?_, RgC.neg (by omega) (by omega) (by omega) (by omega), ?_⟩
    · rw [List.length_map, hps.length]
      rfl
    refine for_rangeC (fun t σ H' => ∃ a b : Option V, σ = [some (.ref p), a, b, none] ∧ Same H H' ∧ ∀ m, n.row.length - t < m → m ≤ n.row.length → farQ z i n m = false) ⟨none, none, rfl, Same.refl _, fun m _ _ => by omega⟩ ?_ ?_
    · rintro t σ H1 ht ⟨a, b, rfl, s1, no⟩
      have hk : 0 < n.row.length - t ∧ n.done < n.row.length - t := by omega
      have ek : ((n.row.length : Nat) : Int) + (t : Nat) * (-1) = ((n.row.length - t : Nat) : Int) := by omega
      rw [ek]
      generalize hkk : n.row.length - t = kk at *
      have hp1 := s1 _ _ hp
      refine ⟨5, rfl, by decide, by decide, fun D hD => lc_range (lo := 0) (n := 5) (fun j H' => Same H1 H' ∧ H' D = some (.lst (nl ((List.range j).filter fun j => decide (kk ≤ n.has.getD j 0))))) ⟨same_new hD, upd_same⟩ ?_ ?_⟩
      · rintro j H2 hj ⟨s2, hd⟩
        have hp2 := s2 _ _ hp1
        have hm2 := s2 _ _ (s1 _ _ hmt)
        refine ⟨rfl, _, rfl, _, _, _, _, _, rfl, hp2, T.cl_Node, T.na_Node_matches, lk_Node_matches _, _, rfl, mt, nl n.has, ((0 : Int) + (j : Int)), _, rfl, rfl, SqL.of hm2, (by rw [Int.zero_add]; exact nl_at (d := 0) (by omega)), _, rfl, _, _, rfl, rfl, _, rfl, ?_⟩
        rw [range_filter_succ]
        show if decide (((kk : Nat) : Int) ≤ ((n.has.getD j 0 : Nat) : Int)) = true then _ else _
        by_cases c : kk ≤ n.has.getD j 0
        · rw [decide_eq_true (show ((kk : Nat) : Int) ≤ ((n.has.getD j 0 : Nat) : Int) by omega), decide_eq_true c]
          refine iteT ⟨_, rfl, _, hd, size_small (by rw [nl_len]; exact Nat.le_trans (filter_len_le _ j) (by omega)), same_upd s2 hD, ?_⟩
          rw [upd_same, if_pos rfl, nl_snoc, Int.zero_add]
          rfl
        · rw [decide_eq_false (show ¬ ((kk : Nat) : Int) ≤ ((n.has.getD j 0 : Nat) : Int) by omega), decide_eq_false c]
          exact iteF ⟨s2, by rw [if_neg Bool.false_ne_true]; exact hd⟩
      · rintro H2 ⟨s2, hd⟩
        have hp2 := s2 _ _ hp1
        have hl2 := (s1.trans s2) _ _ (sF _ _ hl)
        obtain ⟨tp, e, h1, h2, h3⟩ := row_at hps (k := kk - 1) (by omega)
        have eT : Ag12.termAt n.row kk = e.term := by
          have := Rf.termAt_get h2
          rw [show kk - 1 + 1 = kk by omega] at this
          exact this
        refine ⟨_, rfl, _, _, _, _, _, rfl, hp2, T.cl_Node, T.na_Node_log, lk_Node_log _, _, rfl, _, _, rfl, rfl, lg, _, _, _, rfl, rfl, SqL.of hl2, ?_, tp, entV e, 0, vn e.term, rfl, rfl, SqT.of ((s1.trans s2) _ _ (sF _ _ h3)), rfl, _, rfl, _, _, _, _, _, rfl, hp2, T.cl_Node, T.na_Node_term, lk_Node_term _, rfl, _, rfl, ?_⟩
        · rw [show ((kk : Nat) : Int) - 1 = ((kk - 1 : Nat) : Int) by omega]
          exact atI_nat h1
        · show if decide (vn e.term = vn n.term) = true then _ else _
          rw [beq_nat, ← eT]
          have fin : ∀ H3, Same H H3 → farQ z i n kk = false → ∃ a b : Option V, [some (V.ref p), some (V.int ((kk : Nat) : Int)), some (V.ref D), none] = [some (V.ref p), a, b, none] ∧ Same H H3 ∧ ∀ m, n.row.length - (t + 1) < m → m ≤ n.row.length → farQ z i n m = false := fun H3 s3 hf => ⟨_, _, rfl, s3, fun m h4 h5 => by
            by_cases c : m = kk
            · rw [c]
              exact hf
            · exact no m (by omega) h5⟩
          cases ct : (Ag12.termAt n.row kk == n.term) with
          | false =>
            refine iteF (iteF ?_)
            exact fin H2 (s1.trans s2) (by unfold farQ; rw [ct]; rfl)
          | true =>
            refine iteT ?_
            refine ⟨_, rfl, p, dx, _, rfl, hp2, no_Node_is_majority _, _, rfl, _, rfl, _, _, _, _, _, rfl, hp2, T.cl_Node, T.na_Node_number, lk_Node_number _, (by show 1 ≤ sizeLine; decide), fun q hq => ?_⟩
            have hDq : D ≠ q := ne_of_none hd hq
            refine ⟨D, q, _, _, rfl, rfl, (upd_ne hDq).trans hd, upd_same, ?_, fun r hr2 => ?_⟩
            · rw [nl_len]
              exact size_le (Nat.le_trans (Nat.add_le_add_right (filter_len_le _ 5) _) (by show 5 + 1 ≤ 100000; decide))
            have s4 : Same H (upd (upd H2 q (.lst [vn i])) r (.lst (nl (((List.range 5).filter fun j => decide (kk ≤ n.has.getD j 0)) ++ [i])))) := ((s1.trans s2).trans (same_new hq)).trans (same_new hr2)
            refine ⟨F, p, i, z, n, r, ((List.range 5).filter fun j => decide (kk ≤ n.has.getD j 0)) ++ [i], rfl, ?_, ?_, ?_, fun H3 s3 => ⟨_, rfl, ?_⟩⟩
            · rw [nl_snoc] at s4
              exact sF.trans s4
            · rw [nl_snoc] at s4
              exact hn.mono (Same.refl _) s4
            · rw [nl_snoc]
              exact SqL.of upd_same
            · rw [far_list]
              rw [nl_snoc] at s4
              cases cm : Ag12.most (mem z n) ((List.range Ag12.NODES).filter fun (j : Nat) => j == i || decide (kk ≤ n.has.getD j 0)) with
              | false =>
                refine iteF ?_
                exact fin H3 (s4.trans s3) (by unfold farQ; rw [cm, Bool.and_false])
              | true =>
                refine iteT ⟨_, rfl, ?_⟩
                have := far_top (z := z) (i := i) (n := n) (k := kk) hk.2 (by omega) (by unfold farQ; rw [ct, cm]; rfl) no
                have kq := k H3 (s4.trans s3)
                rw [this] at kq
                exact kq
    · rintro σ H1 ⟨a, b, rfl, s1, no⟩
      have hp1 := s1 _ _ hp
      refine ⟨_, rfl, _, _, _, _, _, rfl, hp1, T.cl_Node, T.na_Node_commit, lk_Node_commit _, ?_⟩
      have := far_low (z := z) (i := i) (n := n) fun m h1 h2 => no m (by omega) h2
      have kq := k H1 s1
      rw [this] at kq
      exact kq
end
end Wk
end

section
set_option Elab.async false
set_option linter.all false
set_option maxRecDepth 100000
set_option maxHeartbeats 4000000
namespace Wk
open PySem PySem.Spec PyProof.Rows L2
def il (l : List Int) : List V := l.map V.int
theorem nl_il (l : List Nat) : nl l = il (Ag12.nums l) := by
  unfold nl il Ag12.nums
  rw [List.map_map]
  rfl
def wouldB (n : Ag12.Node) (t c ln lt : Nat) : Bool := t == n.term && ((n.voted.isNone || n.voted == some c) && (decide (Ag12.lastTerm n < lt) || (Ag12.lastTerm n == lt && decide (n.row.length ≤ ln))))
theorem vot_in (v : Option Nat) (c : Nat) : inV (.int (vot v)) [.int (-1), vn c] = (v.isNone || v == some c) := by
  cases v with
  | none => rfl
  | some k =>
    have e : inV (.int (vot (some k))) [.int (-1), vn c] = ((((-1 : Int)) == (k : Int)) || (((c : Int)) == (k : Int) || false)) := rfl
    rw [e, Bool.or_false]
    have h1 : ((-1 : Int) == (k : Int)) = false := beq_eq_false_iff_ne.mpr (by omega)
    rw [h1, Bool.false_or]
    show _ = (false || ((some k : Option Nat) == some c))
    rw [Bool.false_or]
    by_cases h : k = c
    · subst h
      rw [beq_self_eq_true, beq_self_eq_true]
    · rw [beq_eq_false_iff_ne.mpr (by omega), beq_eq_false_iff_ne.mpr (fun z => h (Option.some.inj z))]
section
variable {P : Program} {w : World} {K : PySem.W.Frag} {mg : Str → Option Value} {base : Heap} {A : Ad}
def spWould (A : Ad) : Sp := fun vs H Q _ => ∃ F p i z n t c ln lt, vs = [.ref p, vn t, vn c, vn ln, vn lt] ∧ Same F H ∧ NodeAt A F H p i z n ∧ ∀ H', Same H H' → Q (.bl (wouldB n t c ln lt)) H'
theorem sc_Node_would_vote : FnScope n_Node_would_vote p_Node_would_vote (defScope s_Node_would_vote) := ⟨rfl, rfl, rfl, by decide +kernel, rfl, by decide +kernel, by decide +kernel⟩
theorem ok_Node_would_vote (T : Txt K mg A) : Keeps P w K mg base CX0 3 A.f_Node_would_vote p_Node_would_vote (spWould A) := by
  obtain ⟨fd_Node_last_term, G_Node_last_term, b_Node_last_term⟩ := ok_Node_last_term (P := P) (w := w) (base := base) T
  obtain ⟨fd, F⟩ := T.F_Node_would_vote
  refine ⟨fd, F.ok sc_Node_would_vote (fun vs H Q E h => ?_) (fun cdv Ar outer s H vs Q E hr h => ?_), F.binds fun _ _ _ _ _ _ us hl => match us, hl with | [_, _, _, _, _], _ => rfl⟩
  · obtain ⟨F, p, i, z, n, t, c, ln, lt, rfl, _⟩ := h
    rfl
  · obtain ⟨F, p, i, z, n, t, c, ln, lt, rfl, sF, hn, k⟩ := h
    obtain ⟨dx, lg, vt, nx, mt, hp, ⟨ps, hl, hps⟩, _⟩ := hn.ex
    refine ⟨_, (pss_cons (ps_if (PW.pt (pw_or (pt_cmpR op_ne (pe_fld (pv 0) rfl) (pv 1) (nomark _)) (pw_or1 (pt_cmpR (r := rIn K true) op_notIn_seq (pe_fld (pv 0) rfl) (pe_tup (pa_cons (pe_k rfl T.c_NOBODY) (pa_cons (pv 2) pa_nil))) (by rfl))))) (pss_one (ps_ret pe_bl)) pss_nil)
      (pss_cons (ps_set (i := 5) sc_Node_would_vote.nd rfl (Or.inl rfl) (pe_meth0 (pv 0) T.cl_Node T.m_Node_last_term G_Node_last_term (hr.mono (by decide)) b_Node_last_term .nil pass0))
      (pss_one (ps_ret (pe_or (pe_cmpR op_lt (pv 5) (pv 4) (nomark _)) (pe_one (pe_and (pe_cmpR op_eq (pv 5) (pv 4) (nomark _)) (pe_one (pe_cmpR op_le (pe_callB (r := rLenK K) call_len_seq (by rfl) T.b_len PySem.boot_len (pa_cons (pe_fld (pv 0) rfl) pa_nil)) (pv 3) (nomark _)))))))))), ?_⟩
    refine ⟨_, rfl, _, _, _, _, _, rfl, hp, T.cl_Node, T.na_Node_term, lk_Node_term _, _, rfl, rfl, _, rfl, ?_⟩
    show if (!decide (vn n.term = vn t)) = true then _ else _
    rw [beq_nat]
    have et : (t == n.term) = (n.term == t) := Bool.beq_comm
    cases ct : (n.term == t) with
    | false =>
      refine iteT (iteT ?_)
      have := k H (Same.refl H)
      unfold wouldB at this
      rw [et, ct, Bool.false_and] at this
      exact this
    | true =>
      refine iteF ?_
      refine ⟨_, rfl, _, _, _, _, _, rfl, hp, T.cl_Node, T.na_Node_voted, lk_Node_voted _, _, rfl, (by show 2 ≤ sizeLine; decide), fun q hq => ?_⟩
      refine ⟨q, _, rfl, Or.inr (SqT.of upd_same), rfl, rfl, _, rfl, ?_⟩
      show if (if true = true then !inV (.int (vot n.voted)) [.int (-1), vn c] else inV (.int (vot n.voted)) [.int (-1), vn c]) = true then _ else _
      rw [if_pos rfl, vot_in]
      have s1 := same_new (o := .tup [V.int (-1), vn c]) hq
      cases cv : (n.voted.isNone || n.voted == some c) with
      | false =>
        refine iteT ?_
        have := k _ s1
        unfold wouldB at this
        rw [cv, Bool.false_and, Bool.and_false] at this
        exact this
      | true =>
        refine iteF ?_
        have hp1 := s1 _ _ hp
        refine ⟨_, rfl, p, dx, _, rfl, hp1, no_Node_last_term _, F, p, i, z, n, rfl, sF.trans s1, hn.mono (Same.refl F) s1, ?_⟩
        refine ⟨_, rfl, _, rfl, _, _, rfl, rfl, _, rfl, ?_⟩
        have kq := k _ s1
        unfold wouldB at kq
        rw [et, ct, cv, Bool.true_and, Bool.true_and] at kq
        have d1 : decide (((Ag12.lastTerm n : Nat) : Int) < ((lt : Nat) : Int)) = decide (Ag12.lastTerm n < lt) := decide_eq_decide.mpr (by omega)
        show if decide (((Ag12.lastTerm n : Nat) : Int) < ((lt : Nat) : Int)) = true then _ else _
        rw [d1]
        cases cl : decide (Ag12.lastTerm n < lt) with
        | true =>
          refine iteT ?_
          rw [cl, Bool.true_or] at kq
          exact kq
        | false =>
          refine iteF ?_
          rw [cl, Bool.false_or] at kq
          refine ⟨_, rfl, _, rfl, rfl, _, rfl, ?_⟩
          show if decide (vn (Ag12.lastTerm n) = vn lt) = true then _ else _
          rw [beq_nat]
          cases ce : (Ag12.lastTerm n == lt) with
          | false =>
            refine iteF ?_
            rw [ce, Bool.false_and] at kq
            exact kq
          | true =>
            refine iteT ?_
            rw [ce, Bool.true_and] at kq
            refine ⟨_, rfl, _, _, _, _, _, rfl, hp1, T.cl_Node, T.na_Node_log, lk_Node_log _, lg, _, rfl, .inl (SqL.of (s1 _ _ (sF _ _ hl))), _, rfl, _, _, rfl, rfl, ?_⟩
            have d2 : decide ((((ps.map V.ref).length : Nat) : Int) ≤ ((ln : Nat) : Int)) = decide (n.row.length ≤ ln) := by
              rw [List.length_map, hps.length]
              exact decide_eq_decide.mpr (by omega)
            show Q (.bl (decide ((((ps.map V.ref).length : Nat) : Int) ≤ ((ln : Nat) : Int)))) _
            rw [d2]
            exact kq
/-! ### what is told -/
theorem entries_len (l : List Ent) : (Ag12.entries l).length = 1 + 3 * l.length := by
  unfold Ag12.entries
  rw [List.length_cons]
  have : ∀ m : List Ent, (m.flatMap Ag12.entryOf).length = 3 * m.length := by
    intro m
    induction m with
    | nil => rfl
    | cons x m ih =>
      rw [List.flatMap_cons, List.length_append, ih, List.length_cons]
      show 3 + 3 * m.length = _
      omega
  rw [this]
  omega
theorem flat_succ {l : List Ent} {i : Nat} {e : Ent} (h : l[i]? = some e) : (l.take (i + 1)).flatMap Ag12.entryOf = (l.take i).flatMap Ag12.entryOf ++ Ag12.entryOf e := by
  rw [List.take_add_one, h, List.flatMap_append]
  show _ ++ (Ag12.entryOf e ++ []) = _
  rw [List.append_nil]
def spTold (_A : Ad) : Sp := fun vs H Q _ => ∃ a es, vs = [.ref a] ∧ EntL H a es ∧ es.length ≤ 1000 ∧ ∀ H' q, Same H H' → H q = none → H' q = some (.lst (nl (Ag12.entries es))) → Q (.ref q) H'
theorem sc_told_entries : FnScope n_told_entries p_told_entries (defScope s_told_entries) := ⟨rfl, rfl, rfl, by decide +kernel, rfl, by decide +kernel, by decide +kernel⟩
theorem ok_told_entries (T : Txt K mg A) : Keeps P w K mg base CX0 1 A.f_told_entries p_told_entries (spTold A) := by
  obtain ⟨fd, F⟩ := T.F_told_entries
  refine ⟨fd, F.ok sc_told_entries (fun vs H Q E h => ?_) (fun cdv Ar outer s H vs Q E hr h => ?_), F.binds fun _ _ _ _ _ _ us hl => match us, hl with | [_], _ => rfl⟩
  · obtain ⟨a, es, rfl, _⟩ := h
    rfl
  · obtain ⟨a, es, rfl, ⟨ps, hl, hps⟩, hlen, k⟩ := h
    refine ⟨_, (pss_cons (ps_set (i := 1) sc_told_entries.nd rfl (Or.inl rfl) (pe_lst (pa_cons (pe_callB (r := rLenK K) call_len_seq (by rfl) T.b_len PySem.boot_len (pa_cons (pv 0) pa_nil)) pa_nil)))
      (pss_cons (ps_for PassesOwn.never rfl (pi_list (pv 0)) (pg_name (i := 2) sc_told_entries.nd rfl (Or.inl rfl)) (pss_one (ps_expr (pe_bm PySem.F.plainAttrs_list PySem.F.slot_list_extend PySem.F.type_list_extend mt_extend (pv 1) (pa_cons (pe_callTy call_list_of (by rfl) T.b_list (by decide +kernel) (pa_cons (pv 2) pa_nil)) pa_nil)))))
      (pss_one (ps_ret (pv 1))))), ?_⟩
    refine ⟨_, rfl, a, _, rfl, .inl (SqL.of hl), (by show 1 ≤ sizeLine; decide), fun q hq => ?_⟩
    have haq : a ≠ q := ne_of_none hl hq
    refine ⟨_, rfl, a, rfl, ⟨_, SqL.of ((upd_ne haq).trans hl)⟩, for_list (xs := ps.map V.ref) (fun j σ H' => ∃ b : Option V, σ = [some (.ref a), some (.ref q), b] ∧ Same H H' ∧ H' q = some (.lst (nl (es.length :: (es.take j).flatMap Ag12.entryOf)))) ⟨none, rfl, same_new hq, ?_⟩ (fun j σ H' _ ⟨_, _, s, _⟩ => SqL.of (s _ _ hl)) ?_ ?_⟩
    · rw [upd_same, List.length_map, hps.length]
      rfl
    · rintro j x σ H' hx ⟨b, rfl, s1, hd⟩
      obtain ⟨r, hr2, rfl⟩ := get_refs hx
      obtain ⟨e, he, hF⟩ := pair_at hps hr2
      refine ⟨_, rfl, .inl ⟨rfl, _, .inl (.inl hd)⟩, _, rfl, r, _, rfl, .inr (SqT.of (s1 _ _ hF)), fun l hl2 => ?_⟩
      have hql : q ≠ l := ne_of_none hd hl2
      have el := entries_len (es.take j)
      unfold Ag12.entries at el
      have tl : (es.take j).length ≤ 1000 := by
        rw [List.length_take]
        omega
      refine ⟨q, l, _, _, rfl, rfl, (upd_ne hql).trans hd, upd_same, ?_, ?_⟩
      · rw [nl_len]
        refine size_le ?_
        show (es.length :: (es.take j).flatMap Ag12.entryOf).length + 3 ≤ 100000
        rw [List.length_cons] at el ⊢
        omega
      refine ⟨some (.ref r), rfl, same_upd (s1.trans (same_new hl2)) hq, ?_⟩
      rw [upd_same, flat_succ he]
      show some (HO.lst (nl (es.length :: (es.take j).flatMap Ag12.entryOf) ++ nl (Ag12.entryOf e))) = _
      rw [← nl_append]
      rfl
    · rintro σ H' ⟨b, rfl, s1, hd⟩
      rw [List.length_map, hps.length, List.take_length] at hd
      refine ⟨_, rfl, k _ q s1 hq hd⟩
end
end Wk
end

section
set_option Elab.async false
set_option linter.all false
set_option maxRecDepth 100000
set_option maxHeartbeats 4000000
namespace Wk
open PySem PySem.Spec PyProof.Rows L2
def toldN (z : Nat) (n : Ag12.Node) : List Int := Ag12.nums [Ag12.bit n.up, n.term] ++ (Ag12.option n.voted :: Ag12.nums ([n.role, n.done, mem z n] ++ (Ag12.entries n.row ++ (n.votes.length :: n.votes ++ (n.next.length :: n.next ++ n.has)))))
theorem il_append (a b : List Int) : il (a ++ b) = il a ++ il b := List.map_append
theorem nums_append (a b : List Nat) : Ag12.nums (a ++ b) = Ag12.nums a ++ Ag12.nums b := List.map_append
theorem bit_int (b : Bool) : V.int (if b = true then 1 else 0) = vn (Ag12.bit b) := by cases b <;> rfl
theorem vot_opt (o : Option Nat) : Ag12.option o = vot o := by cases o <;> rfl
theorem toldN_eq (z : Nat) (n : Ag12.Node) : il (toldN z n) = [vn (Ag12.bit n.up), vn n.term, .int (vot n.voted), vn n.role, vn n.done, vn (mem z n)] ++ nl (Ag12.entries n.row) ++ [vn n.votes.length] ++ nl n.votes ++ [vn n.next.length] ++ nl n.next ++ nl n.has := by
  have e : ∀ l : List Nat, il (Ag12.nums l) = nl l := fun l => (nl_il l).symm
  unfold toldN
  rw [il_append, vot_opt]
  show il (Ag12.nums [Ag12.bit n.up, n.term]) ++ (V.int (vot n.voted) :: il (Ag12.nums _)) = _
  rw [e, e, nl_append, nl_append, nl_append, nl_append]
  simp only [nl, List.map_cons, List.map_nil, List.map_append, List.cons_append, List.nil_append, List.append_assoc]
theorem cat_new {H : Hp} {l b : Addr} {xs zs : List V} {Q : VK} (hl : H l = some (.lst xs)) (hb : H b = some (.lst zs)) (sz : xs.length + zs.length ≤ 100000)
    (k : ∀ p H', H p = none → Same H H' → H' p = some (.lst (xs ++ zs)) → Q (.ref p) H') : rCat (.ref l) (.ref b) H Q :=
  ⟨l, b, xs, zs, rfl, rfl, hl, hb, size_le sz, fun p hp => k p _ hp (same_new hp) upd_same⟩
theorem nw {H : Hp} {p : Addr} (h : H p = none) (o : HO) : Same H (upd H p o) := same_new h
theorem lst_new {H : Hp} {xs : List V} {Q : VK} (sz : xs.length ≤ 100000) (k : ∀ p H', H p = none → Same H H' → H' p = some (.lst xs) → Q (.ref p) H') :
    xs.length ≤ sizeLine ∧ ∀ p, H p = none → Q (.ref p) (upd H p (.lst xs)) := ⟨size_le sz, fun p hp => k p _ hp (same_new hp) upd_same⟩
theorem pl {f : Str} {v : V} {fs : List (Str × V)} {k : Nat} (h : fs.length < k) : (putF f v fs).length < k + 1 := Nat.lt_succ_of_le (Nat.le_trans (len_putF f v fs) h)
section
variable {P : Program} {w : World} {K : PySem.W.Frag} {mg : Str → Option Value} {base : Heap} {A : Ad}
def spNodeTold (A : Ad) : Sp := fun vs H Q _ => ∃ F p i z n, vs = [.ref p] ∧ Same F H ∧ NodeAt A F H p i z n ∧ n.row.length ≤ 1000 ∧ n.votes.length ≤ 1000 ∧ n.next.length ≤ 1000 ∧ n.has.length ≤ 1000 ∧
  ∀ H' q, Same H H' → H q = none → H' q = some (.lst (il (toldN z n))) → Q (.ref q) H'
theorem sc_Node_told : FnScope n_Node_told p_Node_told (defScope s_Node_told) := ⟨rfl, rfl, rfl, by decide +kernel, rfl, by decide +kernel, by decide +kernel⟩
theorem ok_Node_told (T : Txt K mg A) : Keeps P w K mg base CX0 2 A.f_Node_told p_Node_told (spNodeTold A) := by
  obtain ⟨fd_told_entries, G_told_entries, b_told_entries⟩ := ok_told_entries (P := P) (w := w) (base := base) T
  obtain ⟨fd_Node_mask, G_Node_mask, b_Node_mask⟩ := ok_Node_mask (P := P) (w := w) (base := base) T
  obtain ⟨fd, F⟩ := T.F_Node_told
  refine ⟨fd, F.ok sc_Node_told (fun vs H Q E h => ?_) (fun cdv Ar outer s H vs Q E hr h => ?_), F.binds fun _ _ _ _ _ _ us hl => match us, hl with | [_], _ => rfl⟩
  · obtain ⟨F, p, i, z, n, rfl, _⟩ := h
    rfl
  · obtain ⟨F, p, i, z, n, rfl, sF, hn, l1, l2, l3, l4, k⟩ := h
    obtain ⟨dx, lg, vt, nx, mt, hp, hlg, hvt, hnx, hmt⟩ := hn.ex
    refine ⟨_, (pss_cons (ps_set (i := 1) sc_Node_told.nd rfl (Or.inl rfl) (pe_lst (pa_cons (pe_callTy call_int1 (by rfl) T.b_int (by decide +kernel) (pa_cons (pe_fld (pv 0) rfl) pa_nil)) (pa_cons (pe_fld (pv 0) rfl) (pa_cons (pe_fld (pv 0) rfl) (pa_cons (pe_fld (pv 0) rfl) (pa_cons (pe_fld (pv 0) rfl) (pa_cons (pe_meth0 (pv 0) T.cl_Node T.m_Node_mask G_Node_mask (hr.mono (by decide)) b_Node_mask .nil pass0) pa_nil))))))))
      (pss_cons (ps_set (i := 1) sc_Node_told.nd rfl (Or.inl rfl) (pe_op op_cat (pe_op op_cat (pe_op op_cat (pv 1) (pe_call G_told_entries (hr.mono (by decide)) (by rfl) T.g_told_entries T.k_told_entries b_told_entries .nil pass0 (pa_cons (pe_fld (pv 0) rfl) pa_nil))) (pe_lst (pa_cons (pe_callB (r := rLenK K) call_len_seq (by rfl) T.b_len PySem.boot_len (pa_cons (pe_fld (pv 0) rfl) pa_nil)) pa_nil))) (pe_fld (pv 0) rfl)))
      (pss_one (ps_ret (pe_op op_cat (pe_op op_cat (pe_op op_cat (pv 1) (pe_lst (pa_cons (pe_callB (r := rLenK K) call_len_seq (by rfl) T.b_len PySem.boot_len (pa_cons (pe_fld (pv 0) rfl) pa_nil)) pa_nil))) (pe_fld (pv 0) rfl)) (pe_fld (pv 0) rfl)))))), ?_⟩
    refine ⟨_, rfl, _, _, _, _, _, rfl, hp, T.cl_Node, T.na_Node_is_running, lk_Node_is_running _, .inr ⟨_, rfl, ?_⟩⟩
    refine ⟨_, rfl, _, _, _, _, _, rfl, hp, T.cl_Node, T.na_Node_term, lk_Node_term _, _, rfl, _, _, _, _, _, rfl, hp, T.cl_Node, T.na_Node_voted, lk_Node_voted _, _, rfl, _, _, _, _, _, rfl, hp, T.cl_Node, T.na_Node_role, lk_Node_role _, _, rfl, _, _, _, _, _, rfl, hp, T.cl_Node, T.na_Node_commit, lk_Node_commit _, _, rfl, p, dx, _, rfl, hp, no_Node_mask _, F, p, i, z, n, rfl, sF, hn, fun H1 s1 => ?_⟩
    rw [show (nrec i z n lg vt nx mt).up = n.up from rfl, bit_int]
    refine ⟨size_le (by show 6 ≤ 100000; omega), fun q1 q10 => ?_⟩
    have t2 : ∀ o, Same H (upd H1 q1 o) := fun o => s1.trans (nw q10 o)
    have hp2 := fun o => t2 o _ _ hp
    refine ⟨_, rfl, _, rfl, _, _, _, _, _, rfl, hp2 _, T.cl_Node, T.na_Node_log, lk_Node_log _, lg, n.row, rfl, hlg.mono (sF.trans (t2 _)), l1, fun H3 r s3 r0 r1 => ?_⟩
    have t3 := (t2 _).trans s3
    refine cat_new (s3 _ _ upd_same) r1 (by simp only [List.length_append, nl_len, entries_len, List.length_cons, List.length_nil]; omega) fun a H4 _ s4 h4 => ?_
    have t4 := t3.trans s4
    have hp4 := t4 _ _ hp
    refine ⟨_, rfl, _, _, _, _, _, rfl, hp4, T.cl_Node, T.na_Node_votes, lk_Node_votes _, vt, _, rfl, .inl (SqL.of (t4 _ _ (sF _ _ hvt))), ?_⟩
    refine ⟨size_le (by show 1 ≤ 100000; omega), fun b b0 => ?_⟩
    have t5 : ∀ o, Same H (upd H4 b o) := fun o => t4.trans (nw b0 o)
    have hp5 := fun o => t5 o _ _ hp
    refine cat_new (nw b0 _ _ _ h4) upd_same (by simp only [List.length_append, nl_len, entries_len, List.length_cons, List.length_nil]; omega) fun c H6 _ s6 h6 => ?_
    have t6 := (t5 _).trans s6
    have hp6 := t6 _ _ hp
    refine ⟨_, rfl, _, _, _, _, _, rfl, hp6, T.cl_Node, T.na_Node_votes, lk_Node_votes _, ?_⟩
    refine cat_new h6 (t6 _ _ (sF _ _ hvt)) (by simp only [List.length_append, nl_len, entries_len, List.length_cons, List.length_nil]; omega) fun d H7 d0 s7 h7 => ?_
    have t7 := t6.trans s7
    have hp7 := t7 _ _ hp
    refine ⟨_, rfl, _, rfl, _, _, _, _, _, rfl, hp7, T.cl_Node, T.na_Node_nexts, lk_Node_nexts _, nx, _, rfl, .inl (SqL.of (t7 _ _ hnx)), ?_⟩
    refine ⟨size_le (by show 1 ≤ 100000; omega), fun e e0 => ?_⟩
    have t8 : ∀ o, Same H (upd H7 e o) := fun o => t7.trans (nw e0 o)
    refine cat_new (nw e0 _ _ _ h7) upd_same (by simp only [List.length_append, nl_len, entries_len, List.length_cons, List.length_nil]; omega) fun f H9 _ s9 h9 => ?_
    have t9 := (t8 _).trans s9
    have hp9 := t9 _ _ hp
    refine ⟨_, rfl, _, _, _, _, _, rfl, hp9, T.cl_Node, T.na_Node_nexts, lk_Node_nexts _, ?_⟩
    refine cat_new h9 (t9 _ _ hnx) (by simp only [List.length_append, nl_len, entries_len, List.length_cons, List.length_nil]; omega) fun g H10 _ s10 h10 => ?_
    have t10 := t9.trans s10
    have hp10 := t10 _ _ hp
    refine ⟨_, rfl, _, _, _, _, _, rfl, hp10, T.cl_Node, T.na_Node_matches, lk_Node_matches _, ?_⟩
    refine cat_new h10 (t10 _ _ hmt) (by simp only [List.length_append, nl_len, entries_len, List.length_cons, List.length_nil]; omega) fun q H11 q0 s11 h11 => ?_
    refine k H11 q (t10.trans s11) (t10.free q0) ?_
    rw [h11, toldN_eq, nl_len, nl_len]
    rfl
/-! ### a message -/
def spMsgInit (A : Ad) : Sp := fun vs H Q _ => ∃ p dx k r s t na, vs = [.ref p, vn k, vn r, vn s, vn t, .ref na] ∧ H p = some (.ins A.c_Message dx []) ∧
  ∀ H' ea, H ea = none → H' ea = some (.lst []) → H' p = some (.ins A.c_Message dx (mF ⟨k, r, s, t, na, ea, 0⟩)) → (∀ q o, H q = some o → q ≠ p → H' q = some o) → Q .non H'
theorem sc_Message_init : FnScope n_Message_init p_Message_init (defScope s_Message_init) := ⟨rfl, rfl, rfl, by decide +kernel, rfl, by decide +kernel, by decide +kernel⟩
theorem ok_Message_init (T : Txt K mg A) : Keeps P w K mg base CX0 1 A.f_Message_init p_Message_init (spMsgInit A) := by
  obtain ⟨fd, F⟩ := T.F_Message_init
  refine ⟨fd, F.ok sc_Message_init (fun vs H Q E h => ?_) (fun cdv Ar outer s H vs Q E hr h => ?_), F.binds fun _ _ _ _ _ _ us hl => match us, hl with | [_, _, _, _, _, _], _ => rfl⟩
  · obtain ⟨p, dx, k, r, s, t, na, rfl, _⟩ := h
    rfl
  · obtain ⟨p, dx, k, r, s, t, na, rfl, hp, q⟩ := h
    refine ⟨_, (pss_cons (ps_fld (pv 0) (pv 1) rfl)
      (pss_cons (ps_fld (pv 0) (pv 2) rfl)
      (pss_cons (ps_fld (pv 0) (pv 3) rfl)
      (pss_cons (ps_fld (pv 0) (pv 4) rfl)
      (pss_cons (ps_fld (pv 0) (pv 5) rfl)
      (pss_cons (ps_fld (pv 0) (pe_lst pa_nil) rfl)
      (pss_one (ps_fld (pv 0) pe_int rfl)))))))), ?_⟩
    refine ⟨_, rfl, _, rfl, _, _, _, _, rfl, hp, T.cl_Message, T.na_Message_kind, (by decide), ?_⟩
    refine ⟨_, rfl, _, rfl, _, _, _, _, rfl, upd_same, T.cl_Message, T.na_Message_receiver, pl (by decide), ?_⟩
    refine ⟨_, rfl, _, rfl, _, _, _, _, rfl, upd_same, T.cl_Message, T.na_Message_sender, pl (pl (by decide)), ?_⟩
    refine ⟨_, rfl, _, rfl, _, _, _, _, rfl, upd_same, T.cl_Message, T.na_Message_term, pl (pl (pl (by decide))), ?_⟩
    refine ⟨_, rfl, _, rfl, _, _, _, _, rfl, upd_same, T.cl_Message, T.na_Message_numbers, pl (pl (pl (pl (by decide)))), ?_⟩
    rw [nw_Message_kind, nw_Message_receiver, nw_Message_sender, nw_Message_term, nw_Message_numbers, upd_upd, upd_upd, upd_upd, upd_upd]
    refine ⟨Nat.zero_le _, fun ea e0 => ?_⟩
    have pe : p ≠ ea := ne_of_none upd_same e0
    refine ⟨_, rfl, _, _, _, _, rfl, (upd_ne pe).trans upd_same, T.cl_Message, T.na_Message_entries, (by show 5 < 1000; decide), ?_⟩
    refine ⟨_, rfl, _, _, _, _, rfl, upd_same, T.cl_Message, T.na_Message_commit, pl (by show 5 < 999; decide), ?_⟩
    rw [nw_Message_entries, nw_Message_commit, upd_upd]
    rw [upd_ne pe.symm] at e0
    refine q _ ea e0 ?_ upd_same fun b o e hb => ?_
    · rw [upd_ne pe.symm]
      exact upd_same
    · rw [upd_ne hb, upd_ne (ne_of_none e e0), upd_ne hb]
      exact e
theorem vn_len (l : List Nat) : (nl l).length = l.length := nl_len l
def toldM (x : Lett) : List Nat := [x.kind, x.to_, x.from_, x.term] ++ match x.kind with
    | 0 => [x.a, x.b]
    | 1 => [Ag12.bit x.yes]
    | 2 => [x.a, x.b] ++ Ag12.entries x.entries ++ [x.done]
    | _ => [Ag12.bit x.yes, x.a]
def spMsgTold (A : Ad) : Sp := fun vs H Q _ => ∃ p x, vs = [.ref p] ∧ MsgAt A H p x ∧ x.entries.length ≤ 1000 ∧ x.kind ≤ 3 ∧ ∀ H' q, Same H H' → H q = none → H' q = some (.lst (nl (toldM x))) → Q (.ref q) H'
theorem nums_len (x : Lett) : (nums x).length ≤ 2 := by
  unfold nums
  split <;> simp
theorem sc_Message_told : FnScope n_Message_told p_Message_told (defScope s_Message_told) := ⟨rfl, rfl, rfl, by decide +kernel, rfl, by decide +kernel, by decide +kernel⟩
theorem ok_Message_told (T : Txt K mg A) : Keeps P w K mg base CX0 2 A.f_Message_told p_Message_told (spMsgTold A) := by
  obtain ⟨fd_told_entries, G_told_entries, b_told_entries⟩ := ok_told_entries (P := P) (w := w) (base := base) T
  obtain ⟨fd, F⟩ := T.F_Message_told
  refine ⟨fd, F.ok sc_Message_told (fun vs H Q E h => ?_) (fun cdv Ar outer s H vs Q E hr h => ?_), F.binds fun _ _ _ _ _ _ us hl => match us, hl with | [_], _ => rfl⟩
  · obtain ⟨p, x, rfl, _⟩ := h
    rfl
  · obtain ⟨p, x, rfl, ⟨dx, na, ea, hp, hna, hea⟩, hlen, hk, k⟩ := h
    refine ⟨_, (pss_cons (ps_set (i := 1) sc_Message_told.nd rfl (Or.inl rfl) (pe_op op_cat (pe_lst (pa_cons (pe_fld (pv 0) rfl) (pa_cons (pe_fld (pv 0) rfl) (pa_cons (pe_fld (pv 0) rfl) (pa_cons (pe_fld (pv 0) rfl) pa_nil))))) (pe_fld (pv 0) rfl)))
      (pss_one (ps_ret (pe_ifExp (pt_cmpR op_eq (pe_fld (pv 0) rfl) (pe_k rfl T.c_APPEND) (nomark _)) (pe_op op_cat (pe_op op_cat (pv 1) (pe_call G_told_entries (hr.mono (by decide)) (by rfl) T.g_told_entries T.k_told_entries b_told_entries .nil pass0 (pa_cons (pe_fld (pv 0) rfl) pa_nil))) (pe_lst (pa_cons (pe_fld (pv 0) rfl) pa_nil))) (pv 1))))), ?_⟩
    refine ⟨_, rfl, _, _, _, _, _, rfl, hp, T.cl_Message, T.na_Message_kind, lk_Message_kind _, _, rfl, _, _, _, _, _, rfl, hp, T.cl_Message, T.na_Message_receiver, lk_Message_receiver _, _, rfl, _, _, _, _, _, rfl, hp, T.cl_Message, T.na_Message_sender, lk_Message_sender _, _, rfl, _, _, _, _, _, rfl, hp, T.cl_Message, T.na_Message_term, lk_Message_term _, ?_⟩
    refine ⟨size_le (by show 4 ≤ 100000; omega), fun q1 q10 => ?_⟩
    have t1 : ∀ o, Same H (upd H q1 o) := fun o => nw q10 o
    have hp1 := fun o => t1 o _ _ hp
    refine ⟨_, rfl, _, _, _, _, _, rfl, hp1 _, T.cl_Message, T.na_Message_numbers, lk_Message_numbers _, ?_⟩
    have zn := nums_len x
    refine cat_new upd_same (t1 _ _ _ hna) (by show 4 + (nums x).length ≤ 100000; omega) fun a H2 a0 s2 h2 => ?_
    have t2 := (t1 _).trans s2
    have hp2 := t2 _ _ hp
    refine ⟨_, rfl, _, _, _, _, _, rfl, hp2, T.cl_Message, T.na_Message_kind, lk_Message_kind _, rfl, _, rfl, ?_⟩
    show if decide (vn x.kind = vn 2) = true then _ else _
    rw [dec_vn]
    by_cases c : x.kind = 2
    · rw [decide_eq_true c]
      refine iteT ⟨_, rfl, _, rfl, _, _, _, _, _, rfl, hp2, T.cl_Message, T.na_Message_entries, lk_Message_entries _, ea, x.entries, rfl, hea.mono t2, hlen, fun H3 r s3 r0 r1 => ?_⟩
      have t3 := t2.trans s3
      have hp3 := t3 _ _ hp
      refine cat_new (s3 _ _ h2) r1 (by simp only [List.length_append, nl_len, entries_len, List.length_cons, List.length_nil]; omega) fun b H4 _ s4 h4 => ?_
      have t4 := t3.trans s4
      have hp4 := t4 _ _ hp
      refine ⟨_, rfl, _, _, _, _, _, rfl, hp4, T.cl_Message, T.na_Message_commit, lk_Message_commit _, ?_⟩
      refine ⟨size_le (by show 1 ≤ 100000; omega), fun d d0 => ?_⟩
      refine cat_new (nw d0 _ _ _ h4) upd_same (by simp only [List.length_append, nl_len, entries_len, List.length_cons, List.length_nil]; omega) fun q H6 q0 s6 h6 => ?_
      have t5 := t4.trans (nw d0 (.lst [vn x.done]))
      refine k H6 q (t5.trans s6) (t5.free q0) ?_
      rw [h6]
      unfold toldM nums
      rw [c]
      simp only [nl, List.map_cons, List.map_nil, List.map_append, List.cons_append, List.nil_append, List.append_assoc]
    · rw [decide_eq_false c]
      refine iteF ⟨_, rfl, ?_⟩
      refine k H2 a t2 ((t1 _).free a0) ?_
      rw [h2]
      unfold toldM nums
      have : x.kind = 0 ∨ x.kind = 1 ∨ x.kind = 3 := by omega
      rcases this with e | e | e <;> rw [e] <;> simp only [nl, List.map_cons, List.map_nil, List.map_append, List.cons_append, List.nil_append, List.append_assoc]
end
end Wk
end

section
set_option Elab.async false
set_option linter.all false
set_option maxRecDepth 100000
set_option maxHeartbeats 4000000
namespace Wk
open PySem PySem.Spec PyProof.Rows L2
theorem msg_mk {A : Ad} {F H H' : Hp} {x dx na ea : Addr} {l : Lett} (x0 : H x = none) (na0 : H na = none) (hx : H' x = some (.ins A.c_Message dx (mF ⟨l.kind, l.to_, l.from_, l.term, na, ea, l.done⟩))) (hna : H' na = some (.lst (nums l)))
    (hea : EntL (plus F H H') ea l.entries) : MsgAt A (plus F H H') x l :=
  ⟨dx, na, ea, (plus_new x0).trans hx, (plus_new na0).trans hna, hea⟩
theorem ent_nil {F H H' : Hp} {ea : Addr} (h0 : H ea = none) (h : H' ea = some (.lst [])) : EntL (plus F H H') ea [] := ⟨[], (plus_new h0).trans h, .nil⟩
section
variable {P : Program} {w : World} {K : PySem.W.Frag} {mg : Str → Option Value} {base : Heap} {A : Ad}
def spReqOf (A : Ad) : Sp := fun vs H Q _ => ∃ F p i z n j, vs = [.ref p, vn j] ∧ Same F H ∧ NodeAt A F H p i z n ∧
  ∀ H' q, Same H H' → H q = none → MsgAt A (plus F H H') q ⟨0, j, i, n.term, n.row.length, Ag12.lastTerm n, false, [], 0⟩ → Q (.ref q) H'
theorem sc_request_of : FnScope n_request_of p_request_of (defScope s_request_of) := ⟨rfl, rfl, rfl, by decide +kernel, rfl, by decide +kernel, by decide +kernel⟩
theorem ok_request_of (T : Txt K mg A) : Keeps P w K mg base CX0 3 A.f_request_of p_request_of (spReqOf A) := by
  obtain ⟨fd_Message_init, G_Message_init, b_Message_init⟩ := ok_Message_init (P := P) (w := w) (base := base) T
  obtain ⟨fd_Node_last_term, G_Node_last_term, b_Node_last_term⟩ := ok_Node_last_term (P := P) (w := w) (base := base) T
  obtain ⟨fd, F⟩ := T.F_request_of
  refine ⟨fd, F.ok sc_request_of (fun vs H Q E h => ?_) (fun cdv Ar outer s H vs Q E hr h => ?_), F.binds fun _ _ _ _ _ _ us hl => match us, hl with | [_, _], _ => rfl⟩
  · obtain ⟨F, p, i, z, n, j, rfl, _⟩ := h
    rfl
  · obtain ⟨F, p, i, z, n, j, rfl, sF, hn, k⟩ := h
    obtain ⟨dx, lg, vt, nx, mt, hp, ⟨ps, hl, hps⟩, _⟩ := hn.ex
    refine ⟨_, (pss_one (ps_ret (pe_make T.mk_Message G_Message_init (hr.mono (by decide)) (by rfl) T.g_Message b_Message_init .nil pass0 (pa_cons (pe_k rfl T.c_REQUEST) (pa_cons (pv 1) (pa_cons (pe_fld (pv 0) rfl) (pa_cons (pe_fld (pv 0) rfl) (pa_cons (pe_lst (pa_cons (pe_callB (r := rLenK K) call_len_seq (by rfl) T.b_len PySem.boot_len (pa_cons (pe_fld (pv 0) rfl) pa_nil)) (pa_cons (pe_meth0 (pv 0) T.cl_Node T.m_Node_last_term G_Node_last_term (hr.mono (by decide)) b_Node_last_term .nil pass0) pa_nil))) pa_nil)))))))), ?_⟩
    refine ⟨_, rfl, _, rfl, _, _, _, _, _, rfl, hp, T.cl_Node, T.na_Node_number, lk_Node_number _, _, rfl, _, _, _, _, _, rfl, hp, T.cl_Node, T.na_Node_term, lk_Node_term _, _, rfl, _, _, _, _, _, rfl, hp, T.cl_Node, T.na_Node_log, lk_Node_log _, lg, _, rfl, .inl (SqL.of (sF _ _ hl)), _, rfl, p, dx, _, rfl, hp, no_Node_last_term _, F, p, i, z, n, rfl, sF, hn, ?_⟩
    refine ⟨size_le (by show 2 ≤ 100000; omega), fun na na0 => ?_⟩
    intro x dx' x0 d0 xd
    refine ⟨x, dx', 0, j, i, n.term, na, rfl, upd_same, fun H2 ea e0 hea hx kp => ⟨rfl, ?_⟩⟩
    have s2 := (nw na0 _).trans (Same.made x0 d0 kp)
    have nax : na ≠ x := ne_of_none upd_same x0
    have hna : H2 na = some (.lst [vn n.row.length, vn (Ag12.lastTerm n)]) := by
      refine kp na _ ?_ nax
      rw [upd_ne nax, upd_ne (ne_of_none upd_same d0), upd_same, List.length_map, hps.length]
      rfl
    have x00 := (nw na0 _).free x0
    have e00 : H ea = none := by
      refine (nw na0 (.lst [V.int (((ps.map V.ref).length : Nat) : Int), vn (Ag12.lastTerm n)])).free ?_
      have : ea ≠ x := fun c => by rw [c, upd_same] at e0; cases e0
      rw [upd_ne this] at e0
      have : ea ≠ dx' := fun c => by rw [c, upd_same] at e0; cases e0
      rw [upd_ne this] at e0
      exact e0
    exact k H2 x s2 x00 (msg_mk x00 na0 hx hna (ent_nil e00 hea))
def spVoteOf (A : Ad) : Sp := fun vs H Q _ => ∃ F p i z n j b, vs = [.ref p, vn j, .bl b] ∧ Same F H ∧ NodeAt A F H p i z n ∧
  ∀ H' q, Same H H' → H q = none → MsgAt A (plus F H H') q ⟨1, j, i, n.term, 0, 0, b, [], 0⟩ → Q (.ref q) H'
theorem sc_vote_of : FnScope n_vote_of p_vote_of (defScope s_vote_of) := ⟨rfl, rfl, rfl, by decide +kernel, rfl, by decide +kernel, by decide +kernel⟩
theorem ok_vote_of (T : Txt K mg A) : Keeps P w K mg base CX0 3 A.f_vote_of p_vote_of (spVoteOf A) := by
  obtain ⟨fd_Message_init, G_Message_init, b_Message_init⟩ := ok_Message_init (P := P) (w := w) (base := base) T
  obtain ⟨fd, F⟩ := T.F_vote_of
  refine ⟨fd, F.ok sc_vote_of (fun vs H Q E h => ?_) (fun cdv Ar outer s H vs Q E hr h => ?_), F.binds fun _ _ _ _ _ _ us hl => match us, hl with | [_, _, _], _ => rfl⟩
  · obtain ⟨F, p, i, z, n, j, b, rfl, _⟩ := h
    rfl
  · obtain ⟨F, p, i, z, n, j, b, rfl, sF, hn, k⟩ := h
    obtain ⟨dx, lg, vt, nx, mt, hp, ⟨ps, hl, hps⟩, _⟩ := hn.ex
    refine ⟨_, (pss_one (ps_ret (pe_make T.mk_Message G_Message_init (hr.mono (by decide)) (by rfl) T.g_Message b_Message_init .nil pass0 (pa_cons (pe_k rfl T.c_VOTE) (pa_cons (pv 1) (pa_cons (pe_fld (pv 0) rfl) (pa_cons (pe_fld (pv 0) rfl) (pa_cons (pe_lst (pa_cons (pe_callTy call_int1 (by rfl) T.b_int (by decide +kernel) (pa_cons (pv 2) pa_nil)) pa_nil)) pa_nil)))))))), ?_⟩
    refine ⟨_, rfl, _, rfl, _, _, _, _, _, rfl, hp, T.cl_Node, T.na_Node_number, lk_Node_number _, _, rfl, _, _, _, _, _, rfl, hp, T.cl_Node, T.na_Node_term, lk_Node_term _, _, rfl, .inr ⟨_, rfl, ?_⟩⟩
    rw [bit_int]
    refine ⟨size_le (by show 1 ≤ 100000; omega), fun na na0 => ?_⟩
    intro x dx' x0 d0 xd
    refine ⟨x, dx', 1, j, i, n.term, na, rfl, upd_same, fun H2 ea e0 hea hx kp => ⟨rfl, ?_⟩⟩
    have s2 := (nw na0 _).trans (Same.made x0 d0 kp)
    have nax : na ≠ x := ne_of_none upd_same x0
    have hna : H2 na = some (.lst [vn (Ag12.bit b)]) := by
      refine kp na _ ?_ nax
      rw [upd_ne nax, upd_ne (ne_of_none upd_same d0), upd_same]
    have x00 := (nw na0 _).free x0
    have e00 : H ea = none := by
      refine (nw na0 (.lst [vn (Ag12.bit b)])).free ?_
      have : ea ≠ x := fun c => by rw [c, upd_same] at e0; cases e0
      rw [upd_ne this] at e0
      have : ea ≠ dx' := fun c => by rw [c, upd_same] at e0; cases e0
      rw [upd_ne this] at e0
      exact e0
    exact k H2 x s2 x00 (msg_mk x00 na0 hx hna (ent_nil e00 hea))
def spReplyOf (A : Ad) : Sp := fun vs H Q _ => ∃ F p i z n j b m, vs = [.ref p, vn j, .bl b, vn m] ∧ Same F H ∧ NodeAt A F H p i z n ∧
  ∀ H' q, Same H H' → H q = none → MsgAt A (plus F H H') q ⟨3, j, i, n.term, m, 0, b, [], 0⟩ → Q (.ref q) H'
theorem sc_reply_of : FnScope n_reply_of p_reply_of (defScope s_reply_of) := ⟨rfl, rfl, rfl, by decide +kernel, rfl, by decide +kernel, by decide +kernel⟩
theorem ok_reply_of (T : Txt K mg A) : Keeps P w K mg base CX0 3 A.f_reply_of p_reply_of (spReplyOf A) := by
  obtain ⟨fd_Message_init, G_Message_init, b_Message_init⟩ := ok_Message_init (P := P) (w := w) (base := base) T
  obtain ⟨fd, F⟩ := T.F_reply_of
  refine ⟨fd, F.ok sc_reply_of (fun vs H Q E h => ?_) (fun cdv Ar outer s H vs Q E hr h => ?_), F.binds fun _ _ _ _ _ _ us hl => match us, hl with | [_, _, _, _], _ => rfl⟩
  · obtain ⟨F, p, i, z, n, j, b, m, rfl, _⟩ := h
    rfl
  · obtain ⟨F, p, i, z, n, j, b, m, rfl, sF, hn, k⟩ := h
    obtain ⟨dx, lg, vt, nx, mt, hp, ⟨ps, hl, hps⟩, _⟩ := hn.ex
    refine ⟨_, (pss_one (ps_ret (pe_make T.mk_Message G_Message_init (hr.mono (by decide)) (by rfl) T.g_Message b_Message_init .nil pass0 (pa_cons (pe_k rfl T.c_REPLY) (pa_cons (pv 1) (pa_cons (pe_fld (pv 0) rfl) (pa_cons (pe_fld (pv 0) rfl) (pa_cons (pe_lst (pa_cons (pe_callTy call_int1 (by rfl) T.b_int (by decide +kernel) (pa_cons (pv 2) pa_nil)) (pa_cons (pv 3) pa_nil))) pa_nil)))))))), ?_⟩
    refine ⟨_, rfl, _, rfl, _, _, _, _, _, rfl, hp, T.cl_Node, T.na_Node_number, lk_Node_number _, _, rfl, _, _, _, _, _, rfl, hp, T.cl_Node, T.na_Node_term, lk_Node_term _, _, rfl, .inr ⟨_, rfl, ?_⟩⟩
    rw [bit_int]
    refine ⟨_, rfl, size_le (by show 2 ≤ 100000; omega), fun na na0 => ?_⟩
    intro x dx' x0 d0 xd
    refine ⟨x, dx', 3, j, i, n.term, na, rfl, upd_same, fun H2 ea e0 hea hx kp => ⟨rfl, ?_⟩⟩
    have s2 := (nw na0 _).trans (Same.made x0 d0 kp)
    have nax : na ≠ x := ne_of_none upd_same x0
    have hna : H2 na = some (.lst [vn (Ag12.bit b), vn m]) := by
      refine kp na _ ?_ nax
      rw [upd_ne nax, upd_ne (ne_of_none upd_same d0), upd_same]
    have x00 := (nw na0 _).free x0
    have e00 : H ea = none := by
      refine (nw na0 (.lst [vn (Ag12.bit b), vn m])).free ?_
      have : ea ≠ x := fun c => by rw [c, upd_same] at e0; cases e0
      rw [upd_ne this] at e0
      have : ea ≠ dx' := fun c => by rw [c, upd_same] at e0; cases e0
      rw [upd_ne this] at e0
      exact e0
    exact k H2 x s2 x00 (msg_mk x00 na0 hx hna (ent_nil e00 hea))
def spAppendOf (A : Ad) : Sp := fun vs H Q _ => ∃ F p i z n j, vs = [.ref p, vn j] ∧ Same F H ∧ NodeAt A F H p i z n ∧ n.next.length = 5 ∧ j < 5 ∧ 1 ≤ n.next.getD j 1 ∧ n.next.getD j 1 ≤ n.row.length + 1 ∧
  ∀ H' q, Same H H' → H q = none → MsgAt A (plus F H H') q (Ag12.nextLetter n i j) → Q (.ref q) H'
theorem sc_append_of : FnScope n_append_of p_append_of (defScope s_append_of) := ⟨rfl, rfl, rfl, by decide +kernel, rfl, by decide +kernel, by decide +kernel⟩
theorem ok_append_of (T : Txt K mg A) : Keeps P w K mg base CX0 3 A.f_append_of p_append_of (spAppendOf A) := by
  obtain ⟨fd_Message_init, G_Message_init, b_Message_init⟩ := ok_Message_init (P := P) (w := w) (base := base) T
  obtain ⟨fd_Node_term_at, G_Node_term_at, b_Node_term_at⟩ := ok_Node_term_at (P := P) (w := w) (base := base) T
  obtain ⟨fd, F⟩ := T.F_append_of
  refine ⟨fd, F.ok sc_append_of (fun vs H Q E h => ?_) (fun cdv Ar outer s H vs Q E hr h => ?_), F.binds fun _ _ _ _ _ _ us hl => match us, hl with | [_, _], _ => rfl⟩
  · obtain ⟨F, p, i, z, n, j, rfl, _⟩ := h
    rfl
  · obtain ⟨F, p, i, z, n, j, rfl, sF, hn, hnl, hj, hk1, hk2, k⟩ := h
    obtain ⟨dx, lg, vt, nx, mt, hp, ⟨ps, hl, hps⟩, hvt, hnx, hmt⟩ := hn.ex
    refine ⟨_, (pss_cons (ps_set (i := 2) sc_append_of.nd rfl (Or.inl rfl) (pe_op op_sub (pe_ix ix_list (pe_fld (pv 0) rfl) (pv 1) (fun _ _ => rfl)) pe_int))
      (pss_cons (ps_set (i := 3) sc_append_of.nd rfl (Or.inl rfl) (pe_make T.mk_Message G_Message_init (hr.mono (by decide)) (by rfl) T.g_Message b_Message_init .nil pass0 (pa_cons (pe_k rfl T.c_APPEND) (pa_cons (pv 1) (pa_cons (pe_fld (pv 0) rfl) (pa_cons (pe_fld (pv 0) rfl) (pa_cons (pe_lst (pa_cons (pv 2) (pa_cons (pe_meth (pv 0) T.cl_Node T.m_Node_term_at G_Node_term_at (hr.mono (by decide)) b_Node_term_at .nil pass0 (pa_cons (pv 2) pa_nil)) pa_nil))) pa_nil)))))))
      (pss_cons (ps_fld (pv 3) (pe_slice sl_list (pe_fld (pv 0) rfl) (po_some (pv 2)) po_none) rfl)
      (pss_cons (ps_fld (pv 3) (pe_fld (pv 0) rfl) rfl)
      (pss_one (ps_ret (pv 3))))))), ?_⟩
    refine ⟨_, rfl, _, _, _, _, _, rfl, hp, T.cl_Node, T.na_Node_nexts, lk_Node_nexts _, _, rfl, nx, nl n.next, (j : Int), vn (n.next.getD j 1), rfl, rfl, SqL.of hnx, nl_at (by omega), _, _, rfl, rfl, ?_⟩
    obtain ⟨kk, ek⟩ : ∃ kk, kk = n.next.getD j 1 - 1 := ⟨_, rfl⟩
    show tSeq _ _ _ (List.set _ 2 (some (V.int (((n.next.getD j 1 : Nat) : Int) - 1)))) _
    rw [show ((n.next.getD j 1 : Nat) : Int) - 1 = ((kk : Nat) : Int) by omega]
    refine ⟨_, rfl, _, rfl, _, _, _, _, _, rfl, hp, T.cl_Node, T.na_Node_number, lk_Node_number _, _, rfl, _, _, _, _, _, rfl, hp, T.cl_Node, T.na_Node_term, lk_Node_term _, _, rfl, _, rfl, p, dx, _, rfl, hp, no_Node_term_at _, _, rfl, F, p, i, z, n, kk, rfl, sF, hn, by omega, ?_⟩
    refine ⟨size_le (by show 2 ≤ 100000; omega), fun na na0 => ?_⟩
    intro x dx' x0 d0 xd
    refine ⟨x, dx', 2, j, i, n.term, na, rfl, upd_same, fun H2 ea e0 hea hx kp => ⟨rfl, ?_⟩⟩
    have s2 := (nw na0 _).trans (Same.made x0 d0 kp)
    have nax : na ≠ x := ne_of_none upd_same x0
    have hna : H2 na = some (.lst [vn kk, vn (Ag12.termAt n.row kk)]) := by
      refine kp na _ ?_ nax
      rw [upd_ne nax, upd_ne (ne_of_none upd_same d0), upd_same]
      rfl
    have x00 := (nw na0 _).free x0
    have hp2 := s2 _ _ hp
    refine ⟨_, rfl, _, _, _, _, _, rfl, hp2, T.cl_Node, T.na_Node_log, lk_Node_log _, _, rfl, _, rfl, lg, _, rfl, SqL.of (s2 _ _ (sF _ _ hl)), fun q q0 => ?_⟩
    have xq : x ≠ q := ne_of_none hx q0
    refine ⟨_, rfl, _, _, _, _, rfl, (upd_ne xq).trans hx, T.cl_Message, T.na_Message_entries, (by show 7 < 1000; decide), ?_⟩
    rw [pt_Message_entries]
    have px : p ≠ x := ne_of_none hp x00
    have s3 : ∀ o u, Same H (upd (upd H2 q o) x u) := fun o u => same_upd (s2.trans (nw q0 o)) x00
    have hp3 := fun o u => s3 o u _ _ hp
    refine ⟨_, rfl, _, _, _, _, _, rfl, hp3 _ _, T.cl_Node, T.na_Node_commit, lk_Node_commit _, _, rfl, _, _, _, _, rfl, upd_same, T.cl_Message, T.na_Message_commit, (by show 7 < 1000; decide), ?_⟩
    rw [upd_upd]
    refine ⟨_, rfl, ?_⟩
    have ec : cutV (ps.map V.ref) (some ((kk : Nat) : Int)) none = (ps.drop kk).map V.ref := by rw [cutV_drop, map_drop]
    rw [ec]
    refine k _ x (s3 _ _) x00 ?_
    have nq : na ≠ q := ne_of_none hna q0
    have eL : Ag12.nextLetter n i j = ⟨2, j, i, n.term, kk, Ag12.termAt n.row kk, false, n.row.drop kk, n.done⟩ := by
      unfold Ag12.nextLetter
      rw [← ek]
    rw [eL]
    refine msg_mk x00 na0 (dx := dx') (na := na) (ea := q) ?_ ?_ ?_
    · rw [upd_same]
      exact congrArg (fun f => some (HO.ins A.c_Message dx' f)) (pt_Message_commit _ n.done)
    · rw [upd_ne nax, upd_ne nq]
      exact hna
    · refine ⟨ps.drop kk, ?_, pair_mono (pair_drop kk hps) fun b e hb => same_plus sF _ _ hb⟩
      rw [plus_new (s2.free q0), upd_ne xq.symm, upd_same]
end
end Wk
end

section
set_option Elab.async false
set_option linter.all false
set_option maxRecDepth 100000
set_option maxHeartbeats 4000000
namespace Wk
open PySem PySem.Spec PyProof.Rows L2
section
variable {A : Ad} {H F : Hp} {X : Addr → Prop} {L : Lay} {u : U}
/-- a node gets a new list of next indexes -/
theorem W.moveNx (w : W A H F X L u) {i : Nat} (hi : i < 5) {p : Addr} {l : List Nat} (hp : H p = some (.lst (nl l))) (hF : F p = none) (hX : ¬ X p) (ho : ∀ t : Slot, t.ok → L.o t ≠ p) :
    W A (upd H (L.o (.nd i)) (.ins A.c_Node (L.dN i) (nF (nrec i u.z { u.nd i with next := l } (L.lg i) (L.vt i) p (L.o (.mt i)))))) F X { L with o := sets L.o (.nx i) p } (u.set i { u.nd i with next := l }) := by
  have ht : (Slot.nd i).ok := hi
  have hn : L.o (.nd i) ≠ p := ho _ ht
  have no : ∀ t : Slot, t.ok → t ≠ .nx i → sets L.o (.nx i) p t = L.o t := fun t _ h => sets_ne h
  exact {
    same := own_keep w ht
    ext := own_ext w ht
    own := fun t h => by
      by_cases c : t = .nx i
      · subst c
        show F (sets L.o (.nx i) p (.nx i)) = none ∧ ¬ X (sets L.o (.nx i) p (.nx i))
        rw [sets_eq]
        exact ⟨hF, hX⟩
      · show F (sets L.o (.nx i) p t) = none ∧ ¬ X (sets L.o (.nx i) p t)
        rw [sets_ne c]
        exact w.own t h
    inj := fun t v h1 h2 e => by
      change sets L.o (.nx i) p t = sets L.o (.nx i) p v at e
      by_cases c : t = .nx i
      · by_cases d : v = .nx i
        · rw [c, d]
        · rw [c, sets_eq, sets_ne d] at e
          exact absurd e.symm (ho v h2)
      · by_cases d : v = .nx i
        · rw [d, sets_eq, sets_ne c] at e
          exact absurd e (ho t h1)
        · rw [sets_ne c, sets_ne d] at e
          exact w.inj t v h1 h2 e
    run := (own_ne w ht (v := .run) trivial (fun z => nomatch z)).trans w.run
    nodes := w.nodes
    msgs := (own_ne w ht (v := .msgs) trivial (fun z => nomatch z)).trans w.msgs
    ml := w.ml
    com := w.com
    led := (own_ne w ht (v := .led) trivial (fun z => nomatch z)).trans w.led
    ll := w.ll
    nd := fun j hj => by
      show upd H _ _ (L.o (.nd j)) = some (.ins A.c_Node (L.dN j) (nF (nrec j u.z (Rf.setn u.nd i _ j) (L.lg j) (L.vt j) (sets L.o (.nx i) p (.nx j)) (sets L.o (.nx i) p (.mt j)))))
      by_cases c : j = i
      · subst c
        rw [upd_same, Rf.setn_eq, sets_eq, sets_ne (s := .nx j) (t := .mt j) (fun z => nomatch z)]
      · rw [own_ne w ht (v := .nd j) hj (fun z => c (Slot.nd.inj z)), Rf.setn_ne c, sets_ne (s := .nx i) (t := .nx j) (fun z => c (Slot.nx.inj z)), sets_ne (s := .nx i) (t := .mt j) (fun z => nomatch z)]
        exact w.nd j hj
    lg := fun j hj => by
      show EntL F (L.lg j) (Rf.setn u.nd i _ j).row
      by_cases c : j = i
      · subst c
        rw [Rf.setn_eq]
        exact w.lg j hj
      · rw [Rf.setn_ne c]
        exact w.lg j hj
    vt := fun j hj => by
      show F (L.vt j) = some (.lst (nl (Rf.setn u.nd i _ j).votes))
      by_cases c : j = i
      · subst c
        rw [Rf.setn_eq]
        exact w.vt j hj
      · rw [Rf.setn_ne c]
        exact w.vt j hj
    nx := fun j hj => by
      show upd H _ _ (sets L.o (.nx i) p (.nx j)) = some (.lst (nl (Rf.setn u.nd i _ j).next))
      by_cases c : j = i
      · subst c
        rw [sets_eq, upd_ne hn.symm, Rf.setn_eq]
        exact hp
      · rw [sets_ne (s := .nx i) (t := .nx j) (fun z => c (Slot.nx.inj z)), own_ne w ht (v := .nx j) hj (fun z => nomatch z), Rf.setn_ne c]
        exact w.nx j hj
    mt := fun j hj => by
      show upd H _ _ (sets L.o (.nx i) p (.mt j)) = some (.lst (nl (Rf.setn u.nd i _ j).has))
      rw [sets_ne (s := .nx i) (t := .mt j) (fun z => nomatch z), own_ne w ht (v := .mt j) hj (fun z => nomatch z), w.mt j hj]
      by_cases c : j = i
      · subst c
        rw [Rf.setn_eq]
      · rw [Rf.setn_ne c] }
/-- a node gets a new list of match indexes -/
theorem W.moveMt (w : W A H F X L u) {i : Nat} (hi : i < 5) {p : Addr} {l : List Nat} (hp : H p = some (.lst (nl l))) (hF : F p = none) (hX : ¬ X p) (ho : ∀ t : Slot, t.ok → L.o t ≠ p) :
    W A (upd H (L.o (.nd i)) (.ins A.c_Node (L.dN i) (nF (nrec i u.z { u.nd i with has := l } (L.lg i) (L.vt i) (L.o (.nx i)) p)))) F X { L with o := sets L.o (.mt i) p } (u.set i { u.nd i with has := l }) := by
  have ht : (Slot.nd i).ok := hi
  have hn : L.o (.nd i) ≠ p := ho _ ht
  have no : ∀ t : Slot, t.ok → t ≠ .mt i → sets L.o (.mt i) p t = L.o t := fun t _ h => sets_ne h
  exact {
    same := own_keep w ht
    ext := own_ext w ht
    own := fun t h => by
      by_cases c : t = .mt i
      · subst c
        show F (sets L.o (.mt i) p (.mt i)) = none ∧ ¬ X (sets L.o (.mt i) p (.mt i))
        rw [sets_eq]
        exact ⟨hF, hX⟩
      · show F (sets L.o (.mt i) p t) = none ∧ ¬ X (sets L.o (.mt i) p t)
        rw [sets_ne c]
        exact w.own t h
    inj := fun t v h1 h2 e => by
      change sets L.o (.mt i) p t = sets L.o (.mt i) p v at e
      by_cases c : t = .mt i
      · by_cases d : v = .mt i
        · rw [c, d]
        · rw [c, sets_eq, sets_ne d] at e
          exact absurd e.symm (ho v h2)
      · by_cases d : v = .mt i
        · rw [d, sets_eq, sets_ne c] at e
          exact absurd e (ho t h1)
        · rw [sets_ne c, sets_ne d] at e
          exact w.inj t v h1 h2 e
    run := (own_ne w ht (v := .run) trivial (fun z => nomatch z)).trans w.run
    nodes := w.nodes
    msgs := (own_ne w ht (v := .msgs) trivial (fun z => nomatch z)).trans w.msgs
    ml := w.ml
    com := w.com
    led := (own_ne w ht (v := .led) trivial (fun z => nomatch z)).trans w.led
    ll := w.ll
    nd := fun j hj => by
      show upd H _ _ (L.o (.nd j)) = some (.ins A.c_Node (L.dN j) (nF (nrec j u.z (Rf.setn u.nd i _ j) (L.lg j) (L.vt j) (sets L.o (.mt i) p (.nx j)) (sets L.o (.mt i) p (.mt j)))))
      by_cases c : j = i
      · subst c
        rw [upd_same, Rf.setn_eq, sets_eq, sets_ne (s := .mt j) (t := .nx j) (fun z => nomatch z)]
      · rw [own_ne w ht (v := .nd j) hj (fun z => c (Slot.nd.inj z)), Rf.setn_ne c, sets_ne (s := .mt i) (t := .nx j) (fun z => nomatch z), sets_ne (s := .mt i) (t := .mt j) (fun z => c (Slot.mt.inj z))]
        exact w.nd j hj
    lg := fun j hj => by
      show EntL F (L.lg j) (Rf.setn u.nd i _ j).row
      by_cases c : j = i
      · subst c
        rw [Rf.setn_eq]
        exact w.lg j hj
      · rw [Rf.setn_ne c]
        exact w.lg j hj
    vt := fun j hj => by
      show F (L.vt j) = some (.lst (nl (Rf.setn u.nd i _ j).votes))
      by_cases c : j = i
      · subst c
        rw [Rf.setn_eq]
        exact w.vt j hj
      · rw [Rf.setn_ne c]
        exact w.vt j hj
    mt := fun j hj => by
      show upd H _ _ (sets L.o (.mt i) p (.mt j)) = some (.lst (nl (Rf.setn u.nd i _ j).has))
      by_cases c : j = i
      · subst c
        rw [sets_eq, upd_ne hn.symm, Rf.setn_eq]
        exact hp
      · rw [sets_ne (s := .mt i) (t := .mt j) (fun z => c (Slot.mt.inj z)), own_ne w ht (v := .mt j) hj (fun z => nomatch z), Rf.setn_ne c]
        exact w.mt j hj
    nx := fun j hj => by
      show upd H _ _ (sets L.o (.mt i) p (.nx j)) = some (.lst (nl (Rf.setn u.nd i _ j).next))
      rw [sets_ne (s := .mt i) (t := .nx j) (fun z => nomatch z), own_ne w ht (v := .nx j) hj (fun z => nomatch z), w.nx j hj]
      by_cases c : j = i
      · subst c
        rw [Rf.setn_eq]
      · rw [Rf.setn_ne c] }

theorem go_move (w : W A H F X L u) {i : Nat} (hi : i < 5) {t : Slot} {p : Addr} {o : HO} (h1 : Slot.run ≠ t) (h2 : ∀ j, Slot.nd j ≠ t) : Go X H F L (upd H (L.o (.nd i)) o) F { L with o := sets L.o t p } :=
  go_own w (t := .nd i) hi (sets_ne h1) fun j => sets_ne (h2 j)
theorem U.set_self (u : U) (i : Nat) : u.set i (u.nd i) = u := by
  unfold U.set
  rw [Rf.setn_self]
theorem U.set_set (u : U) (i : Nat) (n m : Ag12.Node) : (u.set i n).set i m = u.set i m := by
  unfold U.set
  rw [Rf.setn_setn]
theorem U.set_nd (u : U) (i : Nat) (n : Ag12.Node) : (u.set i n).nd i = n := Rf.setn_eq
/-- what is new to the world -/
structure Fresh (F : Hp) (X : Addr → Prop) (L : Lay) (p : Addr) : Prop where
  f : F p = none
  x : ¬ X p
  o : ∀ t : Slot, t.ok → L.o t ≠ p
theorem W.fresh (w : W A H F X L u) {p : Addr} (h : H p = none) : Fresh F X L p := ⟨w.same.free h, fun hx => (by
  obtain ⟨o, q⟩ := (w.ext p hx).2
  rw [h] at q
  cases q), fun t ht => w.ne_new h ht⟩
/-- leave: three new empty lists -/
theorem leftF_nF (r : NR) (a b c : Addr) : leftF a b c (nF r) = nF { r with votes := a, nexts := b, mats := c } := by
  unfold leftF
  rw [pt_Node_votes, pt_Node_nexts, pt_Node_matches]
theorem W.leave (w : W A H F X L u) {i : Nat} (hi : i < 5) {H' : Hp} {a b c : Addr} (l : Left H H' a b c) (hp : H' (L.o (.nd i)) = some (.ins A.c_Node (L.dN i) (nF (nrec i u.z { u.nd i with votes := [], next := [], has := [] } (L.lg i) a b c))))
    (kp : ∀ q o, H q = some o → q ≠ L.o (.nd i) → H' q = some o) :
    ∃ F' L', W A H' F' X L' (u.set i { u.nd i with votes := [], next := [], has := [] }) ∧ Go X H F L H' F' L' := by
  have hi' : (Slot.nd i).ok := hi
  have sF' : Same F (upd F a (.lst [])) := same_new (w.same.free l.na)
  have an : ∀ t : Slot, t.ok → L.o t ≠ a := fun t h => w.ne_new l.na h
  have bn : ∀ t : Slot, t.ok → L.o t ≠ b := fun t h => w.ne_new l.nb h
  have cn : ∀ t : Slot, t.ok → L.o t ≠ c := fun t h => w.ne_new l.nc h
  have xn : ∀ x p, X x → H p = none → x ≠ p := fun x p h e z => by
    obtain ⟨o, q⟩ := (w.ext x h).2
    rw [z, e] at q
    cases q
  have kpo : ∀ (t : Slot) (o : HO), t.ok → t ≠ .nd i → H (L.o t) = some o → H' (L.o t) = some o := fun t o h h2 q => kp _ _ q fun z => h2 (w.inj t _ h hi' z)
  have eo : ∀ t : Slot, t ≠ .nx i → t ≠ .mt i → sets (sets L.o (.nx i) b) (.mt i) c t = L.o t := fun t h1 h2 => by rw [sets_ne h2, sets_ne h1]
  have en : sets (sets L.o (.nx i) b) (.mt i) c (.nx i) = b := by rw [sets_ne (s := .mt i) (t := .nx i) (fun z => nomatch z), sets_eq]
  have em : sets (sets L.o (.nx i) b) (.mt i) c (.mt i) = c := sets_eq
  have cases3 : ∀ (R : Slot → Addr → Prop), R (.nx i) b → R (.mt i) c → (∀ t : Slot, t ≠ .nx i → t ≠ .mt i → R t (L.o t)) → ∀ t, R t (sets (sets L.o (.nx i) b) (.mt i) c t) := fun R h1 h2 h3 t => by
    by_cases e1 : t = .nx i
    · rw [e1, en]
      exact h1
    · by_cases e2 : t = .mt i
      · rw [e2, em]
        exact h2
      · rw [eo t e1 e2]
        exact h3 t e1 e2
  refine ⟨upd F a (.lst []), { L with o := sets (sets L.o (.nx i) b) (.mt i) c, vt := setf L.vt i a }, {
    same := fun q o e => by
      by_cases z : q = a
      · subst z
        rw [upd_same] at e
        rw [l.ha]
        exact e
      · rw [upd_ne z] at e
        refine kp q o (w.same _ _ e) fun z2 => ?_
        rw [z2, (w.own _ hi').1] at e
        cases e
    ext := fun x hx => by
      obtain ⟨f, o, q⟩ := w.ext x hx
      refine ⟨by rw [upd_ne (xn x a hx l.na)]; exact f, o, kp x o q fun z => (w.own _ hi').2 (z ▸ hx)⟩
    own := fun t ht => by
      refine cases3 (fun t p => t.ok → upd F a (.lst []) p = none ∧ ¬ X p) (fun _ => ?_) (fun _ => ?_) (fun t _ _ h => ?_) t ht
      · exact ⟨by rw [upd_ne l.ab.symm]; exact w.same.free l.nb, fun h => xn b b h l.nb rfl⟩
      · exact ⟨by rw [upd_ne l.ac.symm]; exact w.same.free l.nc, fun h => xn c c h l.nc rfl⟩
      · exact ⟨by rw [upd_ne (an t h)]; exact (w.own t h).1, (w.own t h).2⟩
    inj := fun t v h1 h2 e => by
      change sets (sets L.o (.nx i) b) (.mt i) c t = sets (sets L.o (.nx i) b) (.mt i) c v at e
      by_cases t1 : t = .nx i
      · by_cases v1 : v = .nx i
        · rw [t1, v1]
        · by_cases v2 : v = .mt i
          · rw [t1, v2, en, em] at e
            exact absurd e l.bc
          · rw [t1, en, eo v v1 v2] at e
            exact absurd e.symm (bn v h2)
      · by_cases t2 : t = .mt i
        · by_cases v1 : v = .nx i
          · rw [t2, v1, en, em] at e
            exact absurd e.symm l.bc
          · by_cases v2 : v = .mt i
            · rw [t2, v2]
            · rw [t2, em, eo v v1 v2] at e
              exact absurd e.symm (cn v h2)
        · rw [eo t t1 t2] at e
          by_cases v1 : v = .nx i
          · rw [v1, en] at e
            exact absurd e (bn t h1)
          · by_cases v2 : v = .mt i
            · rw [v2, em] at e
              exact absurd e (cn t h1)
            · rw [eo v v1 v2] at e
              exact w.inj t v h1 h2 e
    run := by
      show H' (sets (sets L.o (.nx i) b) (.mt i) c .run) = some (.ins A.c_Running L.dR (rF ⟨L.nodes, sets (sets L.o (.nx i) b) (.mt i) c .msgs, L.com, sets (sets L.o (.nx i) b) (.mt i) c .led⟩))
      rw [eo .run (fun z => nomatch z) (fun z => nomatch z), eo .msgs (fun z => nomatch z) (fun z => nomatch z), eo .led (fun z => nomatch z) (fun z => nomatch z)]
      exact kpo .run _ trivial (fun z => nomatch z) w.run
    nodes := by
      have e : ∀ j, sets (sets L.o (.nx i) b) (.mt i) c (.nd j) = L.o (.nd j) := fun j => eo _ (fun z => nomatch z) (fun z => nomatch z)
      show upd F a (.lst []) L.nodes = some (.lst ([sets (sets L.o (.nx i) b) (.mt i) c (.nd 0), sets (sets L.o (.nx i) b) (.mt i) c (.nd 1), sets (sets L.o (.nx i) b) (.mt i) c (.nd 2), sets (sets L.o (.nx i) b) (.mt i) c (.nd 3), sets (sets L.o (.nx i) b) (.mt i) c (.nd 4)].map V.ref))
      rw [e, e, e, e, e]
      exact sF' _ _ w.nodes
    msgs := by
      show H' (sets (sets L.o (.nx i) b) (.mt i) c .msgs) = _
      rw [eo .msgs (fun z => nomatch z) (fun z => nomatch z)]
      exact kpo .msgs _ trivial (fun z => nomatch z) w.msgs
    ml := pair_mono w.ml fun p x q => q.mono sF'
    com := w.com.mono sF'
    led := by
      show H' (sets (sets L.o (.nx i) b) (.mt i) c .led) = _
      rw [eo .led (fun z => nomatch z) (fun z => nomatch z)]
      exact kpo .led _ trivial (fun z => nomatch z) w.led
    ll := pair_mono w.ll fun p x q => sF' _ _ q
    nd := fun j hj => by
      show H' (sets (sets L.o (.nx i) b) (.mt i) c (.nd j)) = some (.ins A.c_Node (L.dN j) (nF (nrec j u.z (Rf.setn u.nd i _ j) (L.lg j) (setf L.vt i a j) (sets (sets L.o (.nx i) b) (.mt i) c (.nx j)) (sets (sets L.o (.nx i) b) (.mt i) c (.mt j)))))
      rw [eo (.nd j) (fun z => nomatch z) (fun z => nomatch z)]
      by_cases z : j = i
      · subst z
        rw [en, em, Rf.setn_eq, setf_eq]
        exact hp
      · rw [eo (.nx j) (fun q => z (Slot.nx.inj q)) (fun q => nomatch q), eo (.mt j) (fun q => nomatch q) (fun q => z (Slot.mt.inj q)), Rf.setn_ne z, setf_ne z]
        exact kpo (.nd j) _ hj (fun q => z (Slot.nd.inj q)) (w.nd j hj)
    lg := fun j hj => by
      show EntL _ (L.lg j) (Rf.setn u.nd i _ j).row
      by_cases z : j = i
      · subst z
        rw [Rf.setn_eq]
        exact (w.lg j hj).mono sF'
      · rw [Rf.setn_ne z]
        exact (w.lg j hj).mono sF'
    vt := fun j hj => by
      show upd F a (.lst []) (setf L.vt i a j) = some (.lst (nl (Rf.setn u.nd i _ j).votes))
      by_cases z : j = i
      · subst z
        rw [setf_eq, Rf.setn_eq, upd_same]
        rfl
      · rw [setf_ne z, Rf.setn_ne z]
        exact sF' _ _ (w.vt j hj)
    nx := fun j hj => by
      show H' (sets (sets L.o (.nx i) b) (.mt i) c (.nx j)) = some (.lst (nl (Rf.setn u.nd i _ j).next))
      by_cases z : j = i
      · subst z
        rw [en, Rf.setn_eq]
        exact l.hb
      · rw [eo (.nx j) (fun q => z (Slot.nx.inj q)) (fun q => nomatch q), Rf.setn_ne z]
        exact kpo (.nx j) _ hj (fun q => nomatch q) (w.nx j hj)
    mt := fun j hj => by
      show H' (sets (sets L.o (.nx i) b) (.mt i) c (.mt j)) = some (.lst (nl (Rf.setn u.nd i _ j).has))
      by_cases z : j = i
      · subst z
        rw [em, Rf.setn_eq]
        exact l.hc
      · rw [eo (.mt j) (fun q => nomatch q) (fun q => z (Slot.mt.inj q)), Rf.setn_ne z]
        exact kpo (.mt j) _ hj (fun q => nomatch q) (w.mt j hj) }, sF', fun x hx => ?_, eo .run (fun z => nomatch z) (fun z => nomatch z), fun j => eo (.nd j) (fun z => nomatch z) (fun z => nomatch z)⟩
  obtain ⟨o, q⟩ := (w.ext x hx).2
  rw [q]
  exact kp x o q fun z => (w.own _ hi').2 (z ▸ hx)
end
end Wk
end

section
set_option Elab.async false
set_option linter.all false
set_option maxRecDepth 100000
set_option maxHeartbeats 4000000
namespace Wk
open PySem PySem.Spec PyProof.Rows L2
theorem pt_role0 (r : NR) : putF "role" (.int 0) (nF r) = nF { r with role := 0 } := pt_Node_role r 0
theorem pt_role1 (r : NR) : putF "role" (.int 1) (nF r) = nF { r with role := 1 } := pt_Node_role r 1
theorem pt_role2 (r : NR) : putF "role" (.int 2) (nF r) = nF { r with role := 2 } := pt_Node_role r 2
theorem pt_commit0 (r : NR) : putF "commit" (.int 0) (nF r) = nF { r with done := 0 } := pt_Node_commit r 0
/-! ### begin, __init__ of a node -/
def begunF (a b c : Addr) (fs : List (Str × V)) : List (Str × V) := leftF a b c (putF "commit" (.int 0) (putF "role" (.int 0) fs))
def spNodeBegin (A : Ad) : Sp := fun vs H Q _ => ∃ p dx fs, vs = [.ref p] ∧ H p = some (.ins A.c_Node dx fs) ∧ fs.length ≤ 90 ∧ (begunF 0 0 0 fs).lookup ("leave" : Str) = none ∧ (putF "commit" (.int 0) (putF "role" (.int 0) fs)).lookup ("leave" : Str) = none ∧
  ∀ H' a b c, Left H H' a b c → H' p = some (.ins A.c_Node dx (begunF a b c fs)) → (∀ q o, H q = some o → q ≠ p → H' q = some o) → Q .non H'
theorem Left.upd_ {H H' : Hp} {p a b c : Addr} {o o' : HO} (hp : H p = some o) (l : Left (upd H p o') H' a b c) : Left H H' a b c where
  na := by
    have z : p ≠ a := ne_of_none upd_same l.na
    have := l.na
    rw [upd_ne z.symm] at this
    exact this
  nb := by
    have z : p ≠ b := ne_of_none upd_same l.nb
    have := l.nb
    rw [upd_ne z.symm] at this
    exact this
  nc := by
    have z : p ≠ c := ne_of_none upd_same l.nc
    have := l.nc
    rw [upd_ne z.symm] at this
    exact this
  ab := l.ab
  ac := l.ac
  bc := l.bc
  ha := l.ha
  hb := l.hb
  hc := l.hc
section
variable {P : Program} {w : World} {K : PySem.W.Frag} {mg : Str → Option Value} {base : Heap} {A : Ad}
theorem sc_Node_begin : FnScope n_Node_begin p_Node_begin (defScope s_Node_begin) := ⟨rfl, rfl, rfl, by decide +kernel, rfl, by decide +kernel, by decide +kernel⟩
theorem ok_Node_begin (T : Txt K mg A) : Keeps P w K mg base CX0 2 A.f_Node_begin p_Node_begin (spNodeBegin A) := by
  obtain ⟨fd_Node_leave, G_Node_leave, b_Node_leave⟩ := ok_Node_leave (P := P) (w := w) (base := base) T
  obtain ⟨fd, F⟩ := T.F_Node_begin
  refine ⟨fd, F.ok sc_Node_begin (fun vs H Q E h => ?_) (fun cdv Ar outer s H vs Q E hr h => ?_), F.binds fun _ _ _ _ _ _ us hl => match us, hl with | [_], _ => rfl⟩
  · obtain ⟨p, dx, fs, rfl, _⟩ := h
    rfl
  · obtain ⟨p, dx, fs, rfl, hp, hl, n1, n2, k⟩ := h
    refine ⟨_, (pss_cons (ps_fld (pv 0) (pe_k rfl T.c_FOLLOWER) rfl)
      (pss_cons (ps_fld (pv 0) pe_int rfl)
      (pss_one (ps_expr (pe_meth0 (pv 0) T.cl_Node T.m_Node_leave G_Node_leave (hr.mono (by decide)) b_Node_leave .nil pass0))))), ?_⟩
    refine ⟨_, rfl, _, _, _, _, rfl, hp, T.cl_Node, T.na_Node_role, by omega, ?_⟩
    have l1 := len_putF "role" (.int 0) fs
    refine ⟨_, rfl, _, _, _, _, rfl, upd_same, T.cl_Node, T.na_Node_commit, by omega, ?_⟩
    have l2 := len_putF "commit" (.int 0) (putF "role" (.int 0) fs)
    rw [upd_upd]
    refine ⟨_, rfl, p, dx, _, rfl, upd_same, n2, p, dx, _, rfl, upd_same, by omega, fun H' a b c l hp' kp => ?_⟩
    refine k H' a b c (l.upd_ hp) hp' fun q o e hq => kp q o ?_ hq
    rw [upd_ne hq]
    exact e
def fresh5 : Ag12.Node := ⟨true, 0, none, [], 0, 0, [], [], []⟩
def spNodeInit (A : Ad) : Sp := fun vs H Q _ => ∃ p dx i z, vs = [.ref p, vn i, vn z] ∧ H p = some (.ins A.c_Node dx []) ∧
  ∀ H' a b c lg, Left H H' a b c → H lg = none → H' lg = some (.lst []) → lg ≠ a → lg ≠ b → lg ≠ c → H' p = some (.ins A.c_Node dx (nF (nrec i z fresh5 lg a b c))) → (∀ q o, H q = some o → q ≠ p → H' q = some o) → Q .non H'
theorem sc_Node_init : FnScope n_Node_init p_Node_init (defScope s_Node_init) := ⟨rfl, rfl, rfl, by decide +kernel, rfl, by decide +kernel, by decide +kernel⟩
theorem ok_Node_init (T : Txt K mg A) : Keeps P w K mg base CX0 3 A.f_Node_init p_Node_init (spNodeInit A) := by
  obtain ⟨fd_Node_begin, G_Node_begin, b_Node_begin⟩ := ok_Node_begin (P := P) (w := w) (base := base) T
  obtain ⟨fd, F⟩ := T.F_Node_init
  refine ⟨fd, F.ok sc_Node_init (fun vs H Q E h => ?_) (fun cdv Ar outer s H vs Q E hr h => ?_), F.binds fun _ _ _ _ _ _ us hl => match us, hl with | [_, _, _], _ => rfl⟩
  · obtain ⟨p, dx, i, z, rfl, _⟩ := h
    rfl
  · obtain ⟨p, dx, i, z, rfl, hp, k⟩ := h
    refine ⟨_, (pss_cons (ps_fld (pv 0) (pv 1) rfl)
      (pss_cons (ps_fld (pv 0) (pv 2) rfl)
      (pss_cons (ps_fld (pv 0) pe_bl rfl)
      (pss_cons (ps_fld (pv 0) pe_int rfl)
      (pss_cons (ps_fld (pv 0) (pe_k rfl T.c_NOBODY) rfl)
      (pss_cons (ps_fld (pv 0) (pe_lst pa_nil) rfl)
      (pss_one (ps_expr (pe_meth0 (pv 0) T.cl_Node T.m_Node_begin G_Node_begin (hr.mono (by decide)) b_Node_begin .nil pass0))))))))), ?_⟩
    refine ⟨_, rfl, _, rfl, _, _, _, _, rfl, hp, T.cl_Node, T.na_Node_number, (by decide), ?_⟩
    refine ⟨_, rfl, _, rfl, _, _, _, _, rfl, upd_same, T.cl_Node, T.na_Node_initial, pl (by decide), ?_⟩
    refine ⟨_, rfl, _, _, _, _, rfl, upd_same, T.cl_Node, T.na_Node_is_running, pl (pl (by decide)), ?_⟩
    refine ⟨_, rfl, _, _, _, _, rfl, upd_same, T.cl_Node, T.na_Node_term, pl (pl (pl (by decide))), ?_⟩
    refine ⟨_, rfl, _, _, _, _, rfl, upd_same, T.cl_Node, T.na_Node_voted, pl (pl (pl (pl (by decide)))), ?_⟩
    rw [nw_Node_number, nw_Node_initial, nw_Node_is_running, nw_Node_term, nw_Node_voted, upd_upd, upd_upd, upd_upd, upd_upd]
    refine ⟨Nat.zero_le _, fun lg lg0 => ?_⟩
    have pg : p ≠ lg := ne_of_none upd_same lg0
    rw [upd_ne pg.symm] at lg0
    refine ⟨_, rfl, _, _, _, _, rfl, (upd_ne pg).trans upd_same, T.cl_Node, T.na_Node_log, (by show 5 < 1000; decide), ?_⟩
    rw [nw_Node_log]
    refine ⟨_, rfl, p, dx, _, rfl, upd_same, ?_, p, dx, _, rfl, upd_same, (by show 6 ≤ 90; decide), ?_, ?_, fun H' a b c l hp' kp => ?_⟩
    · exact (lk_past (by decide +kernel)).trans ((lk_past (by decide +kernel)).trans ((lk_past (by decide +kernel)).trans ((lk_past (by decide +kernel)).trans ((lk_past (by decide +kernel)).trans ((lk_past (by decide +kernel)).trans rfl)))))
    · unfold begunF leftF
      rw [nw_Node_role, nw_Node_commit, nw_Node_votes, nw_Node_nexts, nw_Node_matches]
      exact (lk_past (by decide +kernel)).trans ((lk_past (by decide +kernel)).trans ((lk_past (by decide +kernel)).trans ((lk_past (by decide +kernel)).trans ((lk_past (by decide +kernel)).trans ((lk_past (by decide +kernel)).trans ((lk_past (by decide +kernel)).trans ((lk_past (by decide +kernel)).trans ((lk_past (by decide +kernel)).trans ((lk_past (by decide +kernel)).trans ((lk_past (by decide +kernel)).trans rfl))))))))))
    · rw [nw_Node_role, nw_Node_commit]
      exact (lk_past (by decide +kernel)).trans ((lk_past (by decide +kernel)).trans ((lk_past (by decide +kernel)).trans ((lk_past (by decide +kernel)).trans ((lk_past (by decide +kernel)).trans ((lk_past (by decide +kernel)).trans ((lk_past (by decide +kernel)).trans ((lk_past (by decide +kernel)).trans rfl)))))))
    · have l1 := Left.upd_ ((upd_ne pg).trans upd_same) l
      have l0 : Left H H' a b c := by
        have na := l1.na
        have nb := l1.nb
        have nc := l1.nc
        have ga : lg ≠ a := ne_of_none upd_same na
        have gb : lg ≠ b := ne_of_none upd_same nb
        have gc : lg ≠ c := ne_of_none upd_same nc
        rw [upd_ne ga.symm] at na
        rw [upd_ne gb.symm] at nb
        rw [upd_ne gc.symm] at nc
        have pa : p ≠ a := ne_of_none upd_same na
        have pb : p ≠ b := ne_of_none upd_same nb
        have pc : p ≠ c := ne_of_none upd_same nc
        rw [upd_ne pa.symm] at na
        rw [upd_ne pb.symm] at nb
        rw [upd_ne pc.symm] at nc
        exact ⟨na, nb, nc, l.ab, l.ac, l.bc, l.ha, l.hb, l.hc⟩
      refine k H' a b c lg l0 lg0 (kp lg _ ?_ pg.symm) (ne_of_none upd_same l1.na) (ne_of_none upd_same l1.nb) (ne_of_none upd_same l1.nc) ?_ fun q o e hq => kp q o ?_ hq
      · rw [upd_ne pg.symm, upd_same]
      · rw [hp']
        unfold begunF leftF
        rw [nw_Node_role, nw_Node_commit, nw_Node_votes, nw_Node_nexts, nw_Node_matches]
        rfl
      · rw [upd_ne hq, upd_ne (ne_of_none e lg0), upd_ne hq]
        exact e
/-! ### adopt -/
def spAdopt (A : Ad) : Sp := fun vs H Q _ => ∃ F X L u i t, vs = [.ref (L.o (.nd i)), vn t] ∧ W A H F X L u ∧ i < 5 ∧ ∀ H' F' L', W A H' F' X L' (u.set i (Ag12.hear (u.nd i) t)) → Go X H F L H' F' L' → Q .non H'
theorem sc_Node_adopt : FnScope n_Node_adopt p_Node_adopt (defScope s_Node_adopt) := ⟨rfl, rfl, rfl, by decide +kernel, rfl, by decide +kernel, by decide +kernel⟩
theorem ok_Node_adopt (T : Txt K mg A) : Keeps P w K mg base CX0 2 A.f_Node_adopt p_Node_adopt (spAdopt A) := by
  obtain ⟨fd_Node_leave, G_Node_leave, b_Node_leave⟩ := ok_Node_leave (P := P) (w := w) (base := base) T
  obtain ⟨fd, F⟩ := T.F_Node_adopt
  refine ⟨fd, F.ok sc_Node_adopt (fun vs H Q E h => ?_) (fun cdv Ar outer s H vs Q E hr h => ?_), F.binds fun _ _ _ _ _ _ us hl => match us, hl with | [_, _], _ => rfl⟩
  · obtain ⟨F, X, L, u, i, t, rfl, _⟩ := h
    rfl
  · obtain ⟨F, X, L, u, i, t, rfl, w0, hi, k⟩ := h
    refine ⟨_, (pss_one (ps_if (pt_cmpR op_gt (pv 1) (pe_fld (pv 0) rfl) (nomark _)) (pss_cons (ps_fld (pv 0) (pv 1) rfl)
      (pss_cons (ps_fld (pv 0) (pe_k rfl T.c_NOBODY) rfl)
      (pss_cons (ps_fld (pv 0) (pe_k rfl T.c_FOLLOWER) rfl)
      (pss_one (ps_expr (pe_meth0 (pv 0) T.cl_Node T.m_Node_leave G_Node_leave (hr.mono (by decide)) b_Node_leave .nil pass0)))))) pss_nil)), ?_⟩
    have hp := w0.nd i hi
    refine ⟨_, rfl, _, rfl, _, _, _, _, _, rfl, hp, T.cl_Node, T.na_Node_term, lk_Node_term _, _, _, rfl, rfl, _, rfl, ?_⟩
    show if decide ((((u.nd i).term : Nat) : Int) < ((t : Nat) : Int)) = true then _ else _
    by_cases c : (u.nd i).term < t
    · rw [decide_eq_true (show (((u.nd i).term : Nat) : Int) < ((t : Nat) : Int) by omega)]
      refine iteT ?_
      have eh : Ag12.hear (u.nd i) t = { u.nd i with term := t, voted := none, role := 0, votes := [], next := [], has := [] } := by
        unfold Ag12.hear
        rw [if_pos c]
      rw [eh] at k
      refine ⟨_, rfl, _, rfl, _, _, _, _, rfl, hp, T.cl_Node, T.na_Node_term, (by show 11 < 1000; decide), ?_⟩
      refine ⟨_, rfl, _, _, _, _, rfl, upd_same, T.cl_Node, T.na_Node_voted, pl (by show 11 < 999; decide), ?_⟩
      refine ⟨_, rfl, _, _, _, _, rfl, upd_same, T.cl_Node, T.na_Node_role, pl (pl (by show 11 < 998; decide)), ?_⟩
      rw [upd_upd, upd_upd]
      rw [pt_Node_term, pt_Node_voted, pt_role0]
      have w1 := w0.setNode hi (n := { u.nd i with term := t, voted := none, role := 0 }) (lg := L.lg i) (vt := L.vt i) (w0.lg i hi) (w0.vt i hi) rfl rfl
      have g1 := go_setNode w0 hi (o := .ins A.c_Node (L.dN i) (nF (nrec i u.z { u.nd i with term := t, voted := none, role := 0 } (L.lg i) (L.vt i) (L.o (.nx i)) (L.o (.mt i))))) (lg := L.lg i) (vt := L.vt i)
      refine ⟨_, rfl, _, _, _, rfl, upd_same, no_Node_leave _, _, _, _, rfl, upd_same, (by show 11 ≤ 100; decide), fun H' a b c l hp' kp => ?_⟩
      obtain ⟨F', L', w2, g2⟩ := w1.leave hi l (by
        rw [hp', leftF_nF, U.set_nd]
        show _ = some (HO.ins A.c_Node (L.dN i) (nF (nrec i u.z _ (setf L.lg i (L.lg i) i) a b c)))
        rw [setf_eq]
        rfl) kp
      rw [U.set_set, U.set_nd] at w2
      exact k H' F' L' w2 (g1.trans g2)
    · rw [decide_eq_false (show ¬ (((u.nd i).term : Nat) : Int) < ((t : Nat) : Int) by omega)]
      refine iteF ?_
      have eh : Ag12.hear (u.nd i) t = u.nd i := by
        unfold Ag12.hear
        rw [if_neg c]
      rw [eh, U.set_self] at k
      exact k H F L w0 (Go.refl ..)
end
end Wk
end

section
set_option Elab.async false
set_option linter.all false
set_option maxRecDepth 100000
set_option maxHeartbeats 4000000
namespace Wk
open PySem PySem.Spec PyProof.Rows L2
theorem takeIn_step {l : List Ent} {k : Nat} {e : Ent} {r : List Ent} (h : (l[k]?.map fun (x : Ent) => x.term) = some e.term) : Ag12.takeIn l k (e :: r) = Ag12.takeIn l (k + 1) r := by
  rw [Ag12.takeIn, if_pos h]
theorem takeIn_stop {l : List Ent} {k : Nat} {e : Ent} {r : List Ent} (h : ¬ (l[k]?.map fun (x : Ent) => x.term) = some e.term) : Ag12.takeIn l k (e :: r) = l.take k ++ e :: r := by
  rw [Ag12.takeIn, if_neg h]
theorem takeIn_end (l : List Ent) (k : Nat) : Ag12.takeIn l k [] = l := by
  rw [Ag12.takeIn]
theorem drop_at {l : List Ent} {m : Nat} {e : Ent} (h : l[m]? = some e) : l.drop m = e :: l.drop (m + 1) := by
  obtain ⟨h1, h2⟩ := List.getElem?_eq_some_iff.mp h
  rw [List.drop_eq_getElem_cons h1, h2]
/-- while, W the invariant with its measure -/
theorem while_intro {c : TT} {tb : TS} {D : Ends} {σ : L2.St} {H : Hp} (W : Nat → L2.St → Hp → Prop) (m0 : Nat) (h0 : W m0 σ H)
    (hs : ∀ m σ H, W m σ H → c σ H fun b H1 => if b = true then ∃ N : L2.St → Hp → Prop, (∀ σ' H', N σ' H' → ∃ m', m' < m ∧ W m' σ' H') ∧ tb { D with nx := N, ct := N, bk := D.nx } σ H1 else D.nx σ H1) : tWhile c tb D σ H :=
  ⟨W, ⟨m0, h0⟩, hs⟩
/-- while, B what holds behind it -/
theorem while_post {c : TT} {tb : TS} {D : Ends} {σ : L2.St} {H : Hp} (W : Nat → L2.St → Hp → Prop) (B : L2.St → Hp → Prop) (m0 : Nat) (h0 : W m0 σ H) (hB : ∀ σ H, B σ H → D.nx σ H)
    (hs : ∀ (Z : L2.St → Hp → Prop), (∀ σ H, B σ H → Z σ H) → ∀ m σ H, W m σ H → c σ H fun b H1 => if b = true then ∃ N : L2.St → Hp → Prop, (∀ σ' H', N σ' H' → ∃ m', m' < m ∧ W m' σ' H') ∧ tb { D with nx := N, ct := N, bk := Z } σ H1 else Z σ H1) : tWhile c tb D σ H :=
  ⟨W, ⟨m0, h0⟩, hs D.nx hB⟩
section
variable {P : Program} {w : World} {K : PySem.W.Frag} {mg : Str → Option Value} {base : Heap} {A : Ad}
def spTake (A : Ad) : Sp := fun vs H Q _ => ∃ F X L u i k ea es, vs = [.ref (L.o (.nd i)), vn k, .ref ea] ∧ W A H F X L u ∧ i < 5 ∧ EntL F ea es ∧ k ≤ (u.nd i).row.length ∧ (u.nd i).row.length ≤ 1000 ∧ es.length ≤ 1000 ∧
  ∀ H' F' L', W A H' F' X L' (u.set i { u.nd i with row := Ag12.takeIn (u.nd i).row k es }) → Go X H F L H' F' L' → Q .non H'
theorem sc_Node_take_entries : FnScope n_Node_take_entries p_Node_take_entries (defScope s_Node_take_entries) := ⟨rfl, rfl, rfl, by decide +kernel, rfl, by decide +kernel, by decide +kernel⟩
theorem ok_Node_take_entries (T : Txt K mg A) : Keeps P w K mg base CX0 1 A.f_Node_take_entries p_Node_take_entries (spTake A) := by
  
  obtain ⟨fd, F⟩ := T.F_Node_take_entries
  refine ⟨fd, F.ok sc_Node_take_entries (fun vs H Q E h => ?_) (fun cdv Ar outer s H vs Q E hr h => ?_), F.binds fun _ _ _ _ _ _ us hl => match us, hl with | [_, _, _], _ => rfl⟩
  · obtain ⟨F, X, L, u, i, k, ea, es, rfl, _⟩ := h
    rfl
  · obtain ⟨F, X, L, u, i, k, ea, es, rfl, w0, hi, hea, hk, hr1, he1, kk⟩ := h
    obtain ⟨ps, hl, hps⟩ := w0.lg i hi
    obtain ⟨qs, hq, hqs⟩ := hea
    have sF := w0.same
    have hp := w0.nd i hi
    refine ⟨_, (pss_cons (ps_set (i := 3) sc_Node_take_entries.nd rfl (Or.inl rfl) pe_int)
      (pss_cons (ps_while PassesOwn.never (PW.pt (pw_and (pt_cmpR op_lt (pv 3) (pe_callB (r := rLenK K) call_len_seq (by rfl) T.b_len PySem.boot_len (pa_cons (pv 2) pa_nil)) (nomark _)) (pw_and1 (pt_cmpR op_lt (pe_op op_add (pv 1) (pv 3)) (pe_callB (r := rLenK K) call_len_seq (by rfl) T.b_len PySem.boot_len (pa_cons (pe_fld (pv 0) rfl) pa_nil)) (nomark _))))) (pss_cons (ps_if (pt_cmpR op_ne (pe_ix ix_tup (pe_ix ix_list (pe_fld (pv 0) rfl) (pe_op op_add (pv 1) (pv 3)) (fun _ _ => rfl)) pe_int (fun _ _ => rfl)) (pe_ix ix_tup (pe_ix ix_list (pv 2) (pv 3) (fun _ _ => rfl)) pe_int (fun _ _ => rfl)) (nomark _)) (pss_one ps_break) pss_nil)
      (pss_one (ps_aug (i := 3) sc_Node_take_entries.nd rfl (Or.inl rfl) pe_int ip_add))))
      (pss_one (ps_if (pt_cmpR op_lt (pv 3) (pe_callB (r := rLenK K) call_len_seq (by rfl) T.b_len PySem.boot_len (pa_cons (pv 2) pa_nil)) (nomark _)) (pss_one (ps_fld (pv 0) (pe_op op_cat (pe_slice sl_list (pe_fld (pv 0) rfl) po_none (po_some (pe_op op_add (pv 1) (pv 3)))) (pe_slice sl_list (pv 2) (po_some (pv 3)) po_none)) rfl)) pss_nil)))), ?_⟩
    have lenp : (ps.map V.ref).length = (u.nd i).row.length := by rw [List.length_map, hps.length]
    have lenq : (qs.map V.ref).length = es.length := by rw [List.length_map, hqs.length]
    have hqH := sF _ _ hq
    have hlH := sF _ _ hl
    have lq : (((qs.map V.ref).length : Nat) : Int) = ((es.length : Nat) : Int) := by rw [lenq]
    have lp : (((ps.map V.ref).length : Nat) : Int) = (((u.nd i).row.length : Nat) : Int) := by rw [lenp]
    refine while_post (fun n σ H' => ∃ m, σ = [some (.ref (L.o (.nd i))), some (vn k), some (.ref ea), some (vn m)] ∧ H' = H ∧ n = es.length - m ∧ m ≤ es.length ∧ k + m ≤ (u.nd i).row.length ∧ Ag12.takeIn (u.nd i).row k es = Ag12.takeIn (u.nd i).row (k + m) (es.drop m))
      (fun σ H' => ∃ m, σ = [some (.ref (L.o (.nd i))), some (vn k), some (.ref ea), some (vn m)] ∧ H' = H ∧ m ≤ es.length ∧ k + m ≤ (u.nd i).row.length ∧ Ag12.takeIn (u.nd i).row k es = (if m < es.length then (u.nd i).row.take (k + m) ++ es.drop m else (u.nd i).row)) es.length ⟨0, rfl, rfl, rfl, Nat.zero_le _, hk, rfl⟩ ?_ ?_
    · rintro σ H1 ⟨m, rfl, rfl, hm, hkm, ht⟩
      refine ⟨_, rfl, _, rfl, ea, _, rfl, .inl (SqL.of hqH), _, _, rfl, rfl, _, rfl, ?_⟩
      rw [lq]
      by_cases c1 : m < es.length
      · rw [decide_eq_true (show ((m : Nat) : Int) < ((es.length : Nat) : Int) by omega)]
        rw [if_pos c1] at ht
        rw [ht] at kk
        refine iteT ⟨_, rfl, _, _, _, _, _, rfl, hp, T.cl_Node, T.na_Node_log, lk_Node_log _, _, rfl, _, rfl, _, _, rfl, rfl, _, rfl, _, _, rfl, SqL.of hlH, fun q q0 => ?_⟩
        rw [show ((k : Nat) : Int) + ((m : Nat) : Int) = ((k + m : Nat) : Int) by omega]
        have ec1 : cutV (ps.map V.ref) none (some ((k + m : Nat) : Int)) = (ps.take (k + m)).map V.ref := by rw [cutV_take, map_take]
        rw [ec1]
        have s1 := nw q0 (.lst ((ps.take (k + m)).map V.ref))
        refine ⟨_, rfl, _, rfl, _, rfl, _, _, rfl, SqL.of (s1 _ _ hqH), fun r r0 => ?_⟩
        have ec2 : cutV (qs.map V.ref) (some ((m : Nat) : Int)) none = (qs.drop m).map V.ref := by rw [cutV_drop, map_drop]
        rw [ec2]
        have s2 := nw r0 (.lst ((qs.drop m).map V.ref))
        have z1 : (ps.take (k + m)).length ≤ 1000 := by rw [List.length_take, hps.length]; omega
        have z2 : (qs.drop m).length ≤ 1000 := by rw [List.length_drop, hqs.length]; omega
        refine cat_new (s2 _ _ upd_same) upd_same (by rw [List.length_map, List.length_map]; omega) fun v H4 v0 s4 h4 => ?_
        have s5 := (s1.trans s2).trans s4
        have w1 := w0.plus s5
        have g1 := go_plus w0 s5
        have hp1 := w1.nd i hi
        refine ⟨_, rfl, _, _, _, _, rfl, hp1, T.cl_Node, T.na_Node_log, (by show 11 < 1000; decide), ?_⟩
        rw [pt_Node_log]
        have hE : EntL (plus F H1 H4) v ((u.nd i).row.take (k + m) ++ es.drop m) := by
          refine ⟨ps.take (k + m) ++ qs.drop m, ?_, pair_append (pair_mono (pair_take (k + m) hps) fun p e hq => g1.same _ _ hq) (pair_mono (pair_drop m hqs) fun p e hq => g1.same _ _ hq)⟩
          rw [plus_new ((s1.trans s2).free v0), h4, List.map_append]
        have w2 := w1.setNode hi (n := { u.nd i with row := (u.nd i).row.take (k + m) ++ es.drop m }) (lg := v) (vt := L.vt i) hE (w1.vt i hi) rfl rfl
        exact kk _ _ _ w2 (g1.trans (go_setNode w1 hi))
      · rw [decide_eq_false (show ¬ ((m : Nat) : Int) < ((es.length : Nat) : Int) by omega)]
        refine iteF ?_
        rw [if_neg c1] at ht
        rw [ht] at kk
        have eu : u.set i { u.nd i with row := (u.nd i).row } = u := U.set_self u i
        rw [eu] at kk
        exact kk _ _ _ w0 (Go.refl ..)
    · rintro Z hZ n σ H1 ⟨m, rfl, rfl, hn, hm, hkm, ht⟩
      refine ⟨_, rfl, _, rfl, ea, _, rfl, .inl (SqL.of hqH), _, _, rfl, rfl, _, rfl, ?_⟩
      rw [lq]
      by_cases c1 : m < es.length
      · rw [decide_eq_true (show ((m : Nat) : Int) < ((es.length : Nat) : Int) by omega)]
        refine iteT ⟨_, rfl, _, rfl, _, _, rfl, rfl, _, rfl, _, _, _, _, _, rfl, hp, T.cl_Node, T.na_Node_log, lk_Node_log _, _, _, rfl, .inl (SqL.of hlH), _, _, rfl, rfl, _, rfl, ?_⟩
        rw [lp]
        obtain ⟨e, he⟩ := Rf.get_of_lt c1
        have hd := drop_at he
        by_cases c2 : k + m < (u.nd i).row.length
        · rw [decide_eq_true (show ((k : Nat) : Int) + ((m : Nat) : Int) < (((u.nd i).row.length : Nat) : Int) by omega)]
          obtain ⟨tp, e1, h1, h2, h3⟩ := row_at hps (k := k + m) c2
          obtain ⟨tq, e2, h4, h5, h6⟩ := row_at hqs (k := m) c1
          rw [he] at h5
          obtain rfl : e = e2 := Option.some.inj h5
          refine iteT ⟨fun σ' H' => ∃ m', m' < n ∧ ∃ m, σ' = [some (.ref (L.o (.nd i))), some (vn k), some (.ref ea), some (vn m)] ∧ H' = H1 ∧ m' = es.length - m ∧ m ≤ es.length ∧ k + m ≤ (u.nd i).row.length ∧ Ag12.takeIn (u.nd i).row k es = Ag12.takeIn (u.nd i).row (k + m) (es.drop m), fun _ _ h => h, ?_⟩
          refine ⟨_, rfl, _, _, _, _, _, rfl, hp, T.cl_Node, T.na_Node_log, lk_Node_log _, _, rfl, _, rfl, _, _, rfl, rfl, _, _, _, _, rfl, rfl, SqL.of hlH, (by rw [show ((k : Nat) : Int) + ((m : Nat) : Int) = ((k + m : Nat) : Int) by omega]; exact atI_nat h1), tp, entV e1, 0, vn e1.term, rfl, rfl, SqT.of (sF _ _ h3), rfl, ?_⟩
          refine ⟨_, rfl, _, rfl, ea, _, _, _, rfl, rfl, SqL.of hqH, atI_nat h4, tq, entV e, 0, vn e.term, rfl, rfl, SqT.of (sF _ _ h6), rfl, rfl, _, rfl, ?_⟩
          show if (!decide (vn e1.term = vn e.term)) = true then _ else _
          rw [dec_vn]
          by_cases c3 : e1.term = e.term
          · rw [decide_eq_true c3]
            refine iteF ⟨_, rfl, _, _, rfl, rfl, es.length - (m + 1), by omega, m + 1, rfl, rfl, rfl, by omega, by omega, ?_⟩
            rw [ht, hd, takeIn_step (by rw [h2, ← c3]; rfl)]
            rfl
          · rw [decide_eq_false c3]
            refine iteT (hZ _ _ ⟨m, rfl, rfl, hm, hkm, ?_⟩)
            rw [ht, hd, takeIn_stop (by rw [h2]; intro z; exact c3 (Option.some.inj z)), if_pos c1]
        · rw [decide_eq_false (show ¬ ((k : Nat) : Int) + ((m : Nat) : Int) < (((u.nd i).row.length : Nat) : Int) by omega)]
          refine iteF (hZ _ _ ⟨m, rfl, rfl, hm, hkm, ?_⟩)
          rw [ht, hd, takeIn_stop (by rw [List.getElem?_eq_none (by omega)]; intro z; cases z), if_pos c1]
      · rw [decide_eq_false (show ¬ ((m : Nat) : Int) < ((es.length : Nat) : Int) by omega)]
        refine iteF (iteF (hZ _ _ ⟨m, rfl, rfl, hm, hkm, ?_⟩))
        rw [ht, if_neg c1, List.drop_eq_nil_of_le (by omega), takeIn_end]
end
end Wk
end

section
set_option Elab.async false
set_option linter.all false
set_option maxRecDepth 100000
set_option maxHeartbeats 4000000
namespace Wk
open PySem PySem.Spec PyProof.Rows L2
/-! ### the world's steps, as the specification has them -/
def U.send (u : U) (l : List Lett) : U := { u with ls := (u.ls ++ l).take 100 }
def U.setN (u : U) (i : Nat) (n : Ag12.Node) : U := { u.set i n with told := if u.told.length < n.done then n.row.take n.done else u.told }
def U.beats (u : U) (i : Nat) (n : Ag12.Node) : List Lett := ((Ag12.listOf (mem u.z n)).filter fun j => j != i).map (Ag12.nextLetter n i)
theorem U.send_send {u : U} {l m : List Lett} : (u.send l).send m = u.send (l ++ m) := by
  unfold U.send
  dsimp only
  congr 1
  rw [← List.append_assoc]
  rcases Nat.le_total (u.ls ++ l).length 100 with h | h
  · rw [List.take_of_length_le h]
  · have e1 : ((u.ls ++ l).take 100).length = 100 := by rw [List.length_take]; omega
    rw [List.take_append_of_le_length (by omega), List.take_append_of_le_length h, List.take_take, Nat.min_self]
theorem U.send_nil {u : U} (h : u.ls.length ≤ 100) : u.send [] = u := by
  unfold U.send
  rw [List.append_nil, List.take_of_length_le h]
theorem U.send_len {u : U} {l : List Lett} : (u.send l).ls.length ≤ 100 := by
  show ((u.ls ++ l).take 100).length ≤ 100
  rw [List.length_take]
  omega
theorem U.set_setN {u : U} {i : Nat} {m n : Ag12.Node} : (u.set i m).setN i n = u.setN i n := by
  unfold U.setN U.set
  dsimp only
  rw [Rf.setn_setn]
theorem U.setN_eq {u : U} {i : Nat} {n : Ag12.Node} (h : n.done ≤ u.told.length) : u.setN i n = u.set i n := by
  unfold U.setN
  rw [if_neg (by omega)]
  rfl
theorem U.setN_nd {u : U} {i : Nat} {n : Ag12.Node} : (u.setN i n).nd i = n := Rf.setn_eq
theorem ofS_send (s : Ag12.State) (l : List Lett) : ofS (Ag12.send s l) = (ofS s).send l := rfl
theorem ofS_setNode {s : Ag12.State} {i : Nat} (n : Ag12.Node) (h : i < s.nodes.length) : ofS (Ag12.setNode s i n) = (ofS s).setN i n := by
  unfold ofS U.setN U.set
  dsimp only
  rw [Rf.node_setNode n h, Rf.setNode_first, Rf.setNode_letters, Rf.setNode_led, Rf.setNode_told]
section
variable {P : Program} {w : World} {K : PySem.W.Frag} {mg : Str → Option Value} {base : Heap} {A : Ad}
/-! ### send -/
def spSend (A : Ad) : Sp := fun vs H Q _ => ∃ F X L u p x, vs = [.ref (L.o .run), .ref p] ∧ W A H F X L u ∧ MsgAt A F p x ∧ u.ls.length ≤ 100 ∧
  ∀ H' L', W A H' F X L' (u.send [x]) → Go X H F L H' F L' → Q .non H'
theorem sc_Running_send : FnScope n_Running_send p_Running_send (defScope s_Running_send) := ⟨rfl, rfl, rfl, by decide +kernel, rfl, by decide +kernel, by decide +kernel⟩
theorem ok_Running_send (T : Txt K mg A) : Keeps P w K mg base CX0 1 A.f_Running_send p_Running_send (spSend A) := by
  
  obtain ⟨fd, F⟩ := T.F_Running_send
  refine ⟨fd, F.ok sc_Running_send (fun vs H Q E h => ?_) (fun cdv Ar outer s H vs Q E hr h => ?_), F.binds fun _ _ _ _ _ _ us hl => match us, hl with | [_, _], _ => rfl⟩
  · obtain ⟨F, X, L, u, p, x, rfl, _⟩ := h
    rfl
  · obtain ⟨F, X, L, u, p, x, rfl, w0, hm, hl, k⟩ := h
    refine ⟨_, (pss_one (ps_if (pt_cmpR op_lt (pe_callB (r := rLenK K) call_len_seq (by rfl) T.b_len PySem.boot_len (pa_cons (pe_fld (pv 0) rfl) pa_nil)) (pe_k rfl T.c_MOST_MESSAGES) (nomark _)) (pss_one (ps_expr (pe_bm PySem.F.plainAttrs_list PySem.F.slot_list_append PySem.F.type_list_append mt_append (pe_fld (pv 0) rfl) (pa_cons (pv 1) pa_nil)))) pss_nil)), ?_⟩
    have hr := w0.run
    have lenm : (L.ml.map V.ref).length = u.ls.length := by rw [List.length_map, w0.ml.length]
    refine ⟨_, rfl, _, _, _, _, _, rfl, hr, T.cl_Running, T.na_Running_messages, lk_Running_messages _, L.o .msgs, _, rfl, .inl (SqL.of w0.msgs), _, _, rfl, rfl, _, rfl, ?_⟩
    show if decide ((((L.ml.map V.ref).length : Nat) : Int) < 100) = true then _ else _
    rw [lenm]
    by_cases c : u.ls.length < 100
    · rw [decide_eq_true (show ((u.ls.length : Nat) : Int) < 100 by omega)]
      refine iteT ⟨_, rfl, _, _, _, _, _, rfl, hr, T.cl_Running, T.na_Running_messages, lk_Running_messages _, .inl ⟨rfl, _, SqL.of w0.msgs⟩, _, rfl, L.o .msgs, _, _, rfl, rfl, w0.msgs, size_small (by rw [lenm]; omega), ?_⟩
      have e : L.ml.map V.ref ++ [V.ref p] = (L.ml ++ [p]).map V.ref := by rw [List.map_append]; rfl
      rw [e]
      have e2 : u.send [x] = { u with ls := u.ls ++ [x] } := by
        unfold U.send
        rw [List.take_of_length_le (by rw [List.length_append, List.length_singleton]; omega)]
      refine k _ { L with ml := L.ml ++ [p] } ?_ (go_own w0 (t := .msgs) trivial rfl fun _ => rfl)
      rw [e2]
      exact w0.setMsgs (pair_append w0.ml (.cons hm .nil))
    · rw [decide_eq_false (show ¬ ((u.ls.length : Nat) : Int) < 100 by omega)]
      refine iteF ?_
      have e2 : u.send [x] = u := by
        unfold U.send
        rw [List.take_append_of_le_length (by omega), List.take_of_length_le hl]
      refine k H L ?_ (Go.refl ..)
      rw [e2]
      exact w0
/-! ### set_commit, advance, add -/
def spSetCommit (A : Ad) : Sp := fun vs H Q _ => ∃ F X L u i c, vs = [.ref (L.o .run), .ref (L.o (.nd i)), vn c] ∧ W A H F X L u ∧ i < 5 ∧
  ∀ H' F' L', W A H' F' X L' (u.setN i { u.nd i with done := c }) → Go X H F L H' F' L' → Q .non H'
theorem sc_Running_set_commit : FnScope n_Running_set_commit p_Running_set_commit (defScope s_Running_set_commit) := ⟨rfl, rfl, rfl, by decide +kernel, rfl, by decide +kernel, by decide +kernel⟩
theorem ok_Running_set_commit (T : Txt K mg A) : Keeps P w K mg base CX0 1 A.f_Running_set_commit p_Running_set_commit (spSetCommit A) := by
  
  obtain ⟨fd, F⟩ := T.F_Running_set_commit
  refine ⟨fd, F.ok sc_Running_set_commit (fun vs H Q E h => ?_) (fun cdv Ar outer s H vs Q E hr h => ?_), F.binds fun _ _ _ _ _ _ us hl => match us, hl with | [_, _, _], _ => rfl⟩
  · obtain ⟨F, X, L, u, i, c, rfl, _⟩ := h
    rfl
  · obtain ⟨F, X, L, u, i, c, rfl, w0, hi, k⟩ := h
    refine ⟨_, (pss_cons (ps_fld (pv 1) (pv 2) rfl)
      (pss_one (ps_if (pt_cmpR op_gt (pv 2) (pe_callB (r := rLenK K) call_len_seq (by rfl) T.b_len PySem.boot_len (pa_cons (pe_fld (pv 0) rfl) pa_nil)) (nomark _)) (pss_one (ps_fld (pv 0) (pe_slice sl_list (pe_fld (pv 1) rfl) po_none (po_some (pv 2))) rfl)) pss_nil))), ?_⟩
    have hp := w0.nd i hi
    refine ⟨_, rfl, _, rfl, _, _, _, _, rfl, hp, T.cl_Node, T.na_Node_commit, (by show 11 < 1000; decide), ?_⟩
    rw [pt_Node_commit]
    have w1 := w0.setNode hi (n := { u.nd i with done := c }) (lg := L.lg i) (vt := L.vt i) (w0.lg i hi) (w0.vt i hi) rfl rfl
    have g1 : Go X H F L _ F _ := go_setNode w0 hi (o := .ins A.c_Node (L.dN i) (nF (nrec i u.z { u.nd i with done := c } (L.lg i) (L.vt i) (L.o (.nx i)) (L.o (.mt i))))) (lg := L.lg i) (vt := L.vt i)
    have hr := w1.run
    obtain ⟨cs, hc, hcs⟩ := w1.com
    have lenc : (cs.map V.ref).length = u.told.length := by rw [List.length_map, hcs.length]; rfl
    have hcH := w1.same _ _ hc
    refine ⟨_, rfl, _, rfl, _, _, _, _, _, rfl, hr, T.cl_Running, T.na_Running_committed, lk_Running_committed _, _, _, rfl, .inl (SqL.of hcH), _, _, rfl, rfl, _, rfl, ?_⟩
    show if decide ((((cs.map V.ref).length : Nat) : Int) < ((c : Nat) : Int)) = true then _ else _
    rw [lenc]
    by_cases d : u.told.length < c
    · rw [decide_eq_true (show ((u.told.length : Nat) : Int) < ((c : Nat) : Int) by omega)]
      have eU : u.setN i { u.nd i with done := c } = { u.set i { u.nd i with done := c } with told := (u.nd i).row.take c } := by
        unfold U.setN
        rw [if_pos d]
      rw [eU] at k
      obtain ⟨ps, hl, hps⟩ := w1.lg i hi
      have hlH := w1.same _ _ hl
      have hp1 := w1.nd i hi
      refine iteT ⟨_, rfl, _, _, _, _, _, rfl, hp1, T.cl_Node, T.na_Node_log, lk_Node_log _, _, rfl, _, rfl, _, _, rfl, SqL.of hlH, fun q q0 => ?_⟩
      have w2 := w1.new (o := .lst (cutV (ps.map V.ref) none (some ((c : Nat) : Int)))) q0
      have g2 := go_new (o := .lst (cutV (ps.map V.ref) none (some ((c : Nat) : Int)))) w1 q0
      have ec : cutV (ps.map V.ref) none (some ((c : Nat) : Int)) = (ps.take c).map V.ref := by rw [cutV_take, map_take]
      have hr2 := w2.run
      refine ⟨_, rfl, _, _, _, _, rfl, hr2, T.cl_Running, T.na_Running_committed, (by show 4 < 1000; decide), ?_⟩
      rw [pt_Running_committed]
      have hE : EntL (upd F q (.lst (cutV (ps.map V.ref) none (some ((c : Nat) : Int))))) q ((u.nd i).row.take c) := by
        refine ⟨ps.take c, by rw [upd_same, ec], ?_⟩
        have hps' := pair_take c hps
        rw [U.set_nd] at hps'
        exact pair_mono hps' fun b e hb => same_new (w1.same.free q0) _ _ hb
      have w3 := w2.setTold hE
      exact k _ _ _ w3 ((g1.trans g2).trans (go_own w2 (t := .run) trivial rfl fun _ => rfl))
    · rw [decide_eq_false (show ¬ ((u.told.length : Nat) : Int) < ((c : Nat) : Int) by omega)]
      refine iteF ?_
      have eU : u.setN i { u.nd i with done := c } = u.set i { u.nd i with done := c } := U.setN_eq (by show c ≤ _; omega)
      rw [eU] at k
      exact k _ _ _ w1 g1
/-- what advance makes of the world -/
def U.adv (u : U) (i : Nat) : U := u.setN i { u.nd i with done := farz u.z i (u.nd i) }
def spAdvance (A : Ad) : Sp := fun vs H Q _ => ∃ F X L u i, vs = [.ref (L.o .run), .ref (L.o (.nd i))] ∧ W A H F X L u ∧ i < 5 ∧ (u.nd i).has.length = 5 ∧ (u.nd i).row.length ≤ 1000 ∧ (u.nd i).done ≤ 1000 ∧ (u.nd i).done ≤ u.told.length ∧
  ∀ H' F' L', W A H' F' X L' (u.adv i) → Go X H F L H' F' L' → Q (.bl (!decide (farz u.z i (u.nd i) = (u.nd i).done))) H'
theorem sc_Running_advance : FnScope n_Running_advance p_Running_advance (defScope s_Running_advance) := ⟨rfl, rfl, rfl, by decide +kernel, rfl, by decide +kernel, by decide +kernel⟩
theorem ok_Running_advance (T : Txt K mg A) : Keeps P w K mg base CX0 5 A.f_Running_advance p_Running_advance (spAdvance A) := by
  obtain ⟨fd_Running_set_commit, G_Running_set_commit, b_Running_set_commit⟩ := ok_Running_set_commit (P := P) (w := w) (base := base) T
  obtain ⟨fd_Node_next_commit, G_Node_next_commit, b_Node_next_commit⟩ := ok_Node_next_commit (P := P) (w := w) (base := base) T
  obtain ⟨fd, F⟩ := T.F_Running_advance
  refine ⟨fd, F.ok sc_Running_advance (fun vs H Q E h => ?_) (fun cdv Ar outer s H vs Q E hr h => ?_), F.binds fun _ _ _ _ _ _ us hl => match us, hl with | [_, _], _ => rfl⟩
  · obtain ⟨F, X, L, u, i, rfl, _⟩ := h
    rfl
  · obtain ⟨F, X, L, u, i, rfl, w0, hi, hh, hrow, hd, htold, k⟩ := h
    refine ⟨_, (pss_cons (ps_set (i := 2) sc_Running_advance.nd rfl (Or.inl rfl) (pe_meth0 (pv 1) T.cl_Node T.m_Node_next_commit G_Node_next_commit (hr.mono (by decide)) b_Node_next_commit .nil pass0))
      (pss_cons (ps_if (pt_cmpR op_eq (pv 2) (pe_fld (pv 1) rfl) (nomark _)) (pss_one (ps_ret pe_bl)) pss_nil)
      (pss_cons (ps_expr (pe_meth (pv 0) T.cl_Running T.m_Running_set_commit G_Running_set_commit (hr.mono (by decide)) b_Running_set_commit .nil pass0 (pa_cons (pv 1) (pa_cons (pv 2) pa_nil))))
      (pss_one (ps_ret pe_bl))))), ?_⟩
    have hp := w0.nd i hi
    refine ⟨_, rfl, _, _, _, rfl, hp, no_Node_next_commit _, F, _, i, u.z, u.nd i, rfl, w0.same, w0.node hi, hh, hrow, hd, fun H1 s1 => ?_⟩
    have w1 := w0.later s1
    have g1 := go_later w0 s1
    have hp1 := w1.nd i hi
    refine ⟨_, rfl, _, rfl, _, _, _, _, _, rfl, hp1, T.cl_Node, T.na_Node_commit, lk_Node_commit _, rfl, _, rfl, ?_⟩
    show if decide (vn (farz u.z i (u.nd i)) = vn (u.nd i).done) = true then _ else _
    rw [dec_vn]
    by_cases c : farz u.z i (u.nd i) = (u.nd i).done
    · rw [decide_eq_true c]
      refine iteT ?_
      have eU : u.adv i = u := by
        unfold U.adv
        rw [c, U.setN_eq htold]
        exact U.set_self u i
      rw [eU, decide_eq_true c] at k
      exact k _ _ _ w1 g1
    · rw [decide_eq_false c]
      refine iteF ?_
      have hr1 := w1.run
      refine ⟨_, rfl, _, _, _, rfl, hr1, no_Running_set_commit _, _, rfl, _, rfl, F, X, L, u, i, farz u.z i (u.nd i), rfl, w1, hi, fun H2 F2 L2 w2 g2 => ?_⟩
      rw [decide_eq_false c] at k
      exact k _ _ _ w2 (g1.trans g2)
/-- what add makes of the world -/
def U.put (u : U) (i : Nat) (e : Ent) : U := (u.set i { u.nd i with row := (u.nd i).row ++ [e] }).adv i
def spAdd (A : Ad) : Sp := fun vs H Q _ => ∃ F X L u i kind value, vs = [.ref (L.o .run), .ref (L.o (.nd i)), vn kind, vn value] ∧ W A H F X L u ∧ i < 5 ∧ (u.nd i).has.length = 5 ∧ (u.nd i).row.length ≤ 900 ∧ (u.nd i).done ≤ 1000 ∧ (u.nd i).done ≤ u.told.length ∧
  ∀ H' F' L', W A H' F' X L' (u.put i ⟨(u.nd i).term, kind, value⟩) → Go X H F L H' F' L' → Q (vn ((u.nd i).row.length + 1)) H'
theorem sc_Running_add : FnScope n_Running_add p_Running_add (defScope s_Running_add) := ⟨rfl, rfl, rfl, by decide +kernel, rfl, by decide +kernel, by decide +kernel⟩
theorem ok_Running_add (T : Txt K mg A) : Keeps P w K mg base CX0 6 A.f_Running_add p_Running_add (spAdd A) := by
  obtain ⟨fd_Running_advance, G_Running_advance, b_Running_advance⟩ := ok_Running_advance (P := P) (w := w) (base := base) T
  obtain ⟨fd, F⟩ := T.F_Running_add
  refine ⟨fd, F.ok sc_Running_add (fun vs H Q E h => ?_) (fun cdv Ar outer s H vs Q E hr h => ?_), F.binds fun _ _ _ _ _ _ us hl => match us, hl with | [_, _, _, _], _ => rfl⟩
  · obtain ⟨F, X, L, u, i, kind, value, rfl, _⟩ := h
    rfl
  · obtain ⟨F, X, L, u, i, kind, value, rfl, w0, hi, hh, hrow, hd, htold, k⟩ := h
    refine ⟨_, (pss_cons (ps_fld (pv 1) (pe_op op_cat (pe_fld (pv 1) rfl) (pe_lst (pa_cons (pe_tup (pa_cons (pe_fld (pv 1) rfl) (pa_cons (pv 2) (pa_cons (pv 3) pa_nil)))) pa_nil))) rfl)
      (pss_cons (ps_expr (pe_meth (pv 0) T.cl_Running T.m_Running_advance G_Running_advance (hr.mono (by decide)) b_Running_advance .nil pass0 (pa_cons (pv 1) pa_nil)))
      (pss_one (ps_ret (pe_callB (r := rLenK K) call_len_seq (by rfl) T.b_len PySem.boot_len (pa_cons (pe_fld (pv 1) rfl) pa_nil)))))), ?_⟩
    have hp := w0.nd i hi
    obtain ⟨ps, hl, hps⟩ := w0.lg i hi
    refine ⟨_, rfl, _, _, _, _, _, rfl, hp, T.cl_Node, T.na_Node_log, lk_Node_log _, _, rfl, _, _, _, _, _, rfl, hp, T.cl_Node, T.na_Node_term, lk_Node_term _, _, rfl, _, rfl, ?_⟩
    refine ⟨(by show 3 ≤ sizeLine; decide), fun t t0 => ?_⟩
    have w1 := w0.new (o := .tup [vn (u.nd i).term, vn kind, vn value]) t0
    have g1 := go_new (o := .tup [vn (u.nd i).term, vn kind, vn value]) w0 t0
    refine ⟨(by show 1 ≤ sizeLine; decide), fun b b0 => ?_⟩
    have w2 := w1.new (o := .lst [.ref t]) b0
    have g2 := go_new (o := .lst [.ref t]) w1 b0
    have t0F := w0.same.free t0
    have b0F := w1.same.free b0
    have hlF : (upd (upd F t (.tup [vn (u.nd i).term, vn kind, vn value])) b (.lst [.ref t])) (L.lg i) = some (.lst (ps.map V.ref)) := same_new b0F _ _ (same_new t0F _ _ hl)
    refine cat_new (w2.same _ _ hlF) (w2.same _ _ upd_same) (by rw [List.length_map, hps.length, List.length_singleton]; omega) fun q H3 q0 s3 h3 => ?_
    have q0' : (upd (upd H t (.tup [vn (u.nd i).term, vn kind, vn value])) b (.lst [.ref t])) q = none := q0
    have w3 := w2.plus s3
    have g3 := go_plus w2 s3
    have hp3 := w3.nd i hi
    refine ⟨_, rfl, _, _, _, _, rfl, hp3, T.cl_Node, T.na_Node_log, (by show 11 < 1000; decide), ?_⟩
    rw [pt_Node_log]
    generalize hF3 : plus (upd (upd F t (.tup [vn (u.nd i).term, vn kind, vn value])) b (.lst [.ref t])) (upd (upd H t (.tup [vn (u.nd i).term, vn kind, vn value])) b (.lst [.ref t])) H3 = F3 at *
    have sF : Same F F3 := (g1.trans (g2.trans g3)).same
    have tF3 : F3 t = some (.tup [vn (u.nd i).term, vn kind, vn value]) := (g2.trans g3).same _ _ upd_same
    have hE : EntL F3 q ((u.nd i).row ++ [(⟨(u.nd i).term, kind, value⟩ : Ent)]) := by
      refine ⟨ps ++ [t], ?_, pair_append (pair_mono hps fun p e hq => sF _ _ hq) (.cons tF3 .nil)⟩
      rw [← hF3, plus_new q0', h3, List.map_append]
      rfl
    have w4 := w3.setNode hi (n := { u.nd i with row := (u.nd i).row ++ [(⟨(u.nd i).term, kind, value⟩ : Ent)] }) (lg := q) (vt := L.vt i) hE (w3.vt i hi) rfl rfl
    have g4 := go_setNode w3 hi (o := .ins A.c_Node (L.dN i) (nF (nrec i u.z { u.nd i with row := (u.nd i).row ++ [(⟨(u.nd i).term, kind, value⟩ : Ent)] } q (L.vt i) (L.o (.nx i)) (L.o (.mt i))))) (lg := q) (vt := L.vt i)
    have hr4 := w4.run
    have en : (u.set i { u.nd i with row := (u.nd i).row ++ [(⟨(u.nd i).term, kind, value⟩ : Ent)] }).nd i = { u.nd i with row := (u.nd i).row ++ [(⟨(u.nd i).term, kind, value⟩ : Ent)] } := U.set_nd _ _ _
    refine ⟨_, rfl, _, _, _, rfl, hr4, no_Running_advance _, _, rfl, F3, X, { L with lg := setf L.lg i q, vt := setf L.vt i (L.vt i) }, _, i, rfl, w4, hi, ?_, ?_, ?_, ?_, fun H5 F5 L5 w5 g5 => ?_⟩
    · rw [en]; exact hh
    · rw [en]; show ((u.nd i).row ++ [_]).length ≤ 1000; rw [List.length_append, List.length_singleton]; omega
    · rw [en]; exact hd
    · rw [en]; exact htold
    have gg := g1.trans (g2.trans (g3.trans (g4.trans g5)))
    have hp5 := w5.nd i hi
    obtain ⟨ps5, hl5, hps5⟩ := w5.lg i hi
    have elen : ps5.length = (u.nd i).row.length + 1 := by
      rw [hps5.length]
      unfold U.adv
      rw [U.setN_nd, en]
      show ((u.nd i).row ++ [_]).length = _
      rw [List.length_append, List.length_singleton]
    have kk := k H5 F5 L5 w5 gg
    rw [← gg.nd i] 
    refine ⟨_, rfl, _, _, _, _, _, rfl, hp5, T.cl_Node, T.na_Node_log, lk_Node_log _, _, _, rfl, .inl (SqL.of (w5.same _ _ hl5)), ?_⟩
    rw [List.length_map, elen]
    exact kk
/-! ### heartbeat -/
theorem take_map_succ {α β : Type} {f : α → β} {l : List α} {i : Nat} {k : α} (h : l[i]? = some k) : (l.take (i + 1)).map f = (l.take i).map f ++ [f k] := by
  rw [List.take_add_one, h, List.map_append]
  rfl
def spBeat (A : Ad) : Sp := fun vs H Q _ => ∃ F X L u i, vs = [.ref (L.o .run), .ref (L.o (.nd i))] ∧ W A H F X L u ∧ i < 5 ∧ (u.nd i).next.length = 5 ∧ (∀ j, j < 5 → 1 ≤ (u.nd i).next.getD j 1 ∧ (u.nd i).next.getD j 1 ≤ (u.nd i).row.length + 1) ∧ u.ls.length ≤ 100 ∧
  ∀ H' F' L', W A H' F' X L' (u.send (u.beats i (u.nd i))) → Go X H F L H' F' L' → Q (vn (u.beats i (u.nd i)).length) H'
theorem sc_Running_heartbeat : FnScope n_Running_heartbeat p_Running_heartbeat (defScope s_Running_heartbeat) := ⟨rfl, rfl, rfl, by decide +kernel, rfl, by decide +kernel, by decide +kernel⟩
theorem ok_Running_heartbeat (T : Txt K mg A) : Keeps P w K mg base CX0 4 A.f_Running_heartbeat p_Running_heartbeat (spBeat A) := by
  obtain ⟨fd_Running_send, G_Running_send, b_Running_send⟩ := ok_Running_send (P := P) (w := w) (base := base) T
  obtain ⟨fd_append_of, G_append_of, b_append_of⟩ := ok_append_of (P := P) (w := w) (base := base) T
  obtain ⟨fd_Node_others, G_Node_others, b_Node_others⟩ := ok_Node_others (P := P) (w := w) (base := base) T
  obtain ⟨fd, F⟩ := T.F_Running_heartbeat
  refine ⟨fd, F.ok sc_Running_heartbeat (fun vs H Q E h => ?_) (fun cdv Ar outer s H vs Q E hr h => ?_), F.binds fun _ _ _ _ _ _ us hl => match us, hl with | [_, _], _ => rfl⟩
  · obtain ⟨F, X, L, u, i, rfl, _⟩ := h
    rfl
  · obtain ⟨F, X, L, u, i, rfl, w0, hi, hnl, hnx, hls, k⟩ := h
    refine ⟨_, (pss_cons (ps_set (i := 2) sc_Running_heartbeat.nd rfl (Or.inl rfl) (pe_meth0 (pv 1) T.cl_Node T.m_Node_others G_Node_others (hr.mono (by decide)) b_Node_others .nil pass0))
      (pss_cons (ps_for PassesOwn.never rfl (pi_list (pv 2)) (pg_name (i := 3) sc_Running_heartbeat.nd rfl (Or.inl rfl)) (pss_one (ps_expr (pe_meth (pv 0) T.cl_Running T.m_Running_send G_Running_send (hr.mono (by decide)) b_Running_send .nil pass0 (pa_cons (pe_call G_append_of (hr.mono (by decide)) (by rfl) T.g_append_of T.k_append_of b_append_of .nil pass0 (pa_cons (pv 1) (pa_cons (pv 3) pa_nil))) pa_nil)))))
      (pss_one (ps_ret (pe_callB (r := rLenK K) call_len_seq (by rfl) T.b_len PySem.boot_len (pa_cons (pv 2) pa_nil)))))), ?_⟩
    have hp := w0.nd i hi
    refine ⟨_, rfl, _, _, _, rfl, hp, no_Node_others _, F, _, i, u.z, u.nd i, rfl, w0.same, w0.node hi, fun H1 q s1 q0 hq => ?_⟩
    have w1 := w0.plus s1
    have g1 := go_plus w0 s1
    have hqF : plus F H H1 q = some (.lst (nl ((Ag12.listOf (mem u.z (u.nd i))).filter fun j => j != i))) := (plus_new q0).trans hq
    refine ⟨_, rfl, q, rfl, ⟨_, SqL.of hq⟩, for_list (xs := nl ((Ag12.listOf (mem u.z (u.nd i))).filter fun j => j != i)) (fun j σ H' => ∃ (F' : Hp) (L' : Lay) (a : Option V), σ = [some (.ref (L.o .run)), some (.ref (L.o (.nd i))), some (.ref q), a] ∧ W A H' F' X L' (u.send ((((Ag12.listOf (mem u.z (u.nd i))).filter fun j => j != i).take j).map (Ag12.nextLetter (u.nd i) i))) ∧ Go X H1 (plus F H H1) L H' F' L') ⟨plus F H H1, L, none, rfl, ?_, Go.refl ..⟩ (fun j σ H' _ ⟨F', L', a, _, w', g'⟩ => SqL.of (w'.same _ _ (g'.same _ _ hqF))) ?_ ?_⟩
    · rw [List.take_zero, List.map_nil, U.send_nil hls]
      exact w1
    · rintro j x σ H' hx ⟨F', L', a, rfl, w', g'⟩
      obtain ⟨m, hm, rfl⟩ := get_nl hx
      have hm5 : m < 5 := Rf.listOf_lt ((List.mem_filter.mp (List.mem_of_getElem? hm)).1)
      have hr' := w'.run
      rw [g'.run] at hr'
      have hn' := w'.node hi
      rw [g'.nd i] at hn'
      refine ⟨_, rfl, _, _, _, rfl, hr', no_Running_send _, _, rfl, _, rfl, F', _, i, _, _, m, rfl, w'.same, hn', hnl, hm5, (hnx m hm5).1, (hnx m hm5).2, fun H2 r s2 r0 hm2 => ?_⟩
      have w2 := w'.plus s2
      have g2 := go_plus w' s2
      refine ⟨plus F' H' H2, X, L', _, r, _, by rw [g'.run]; rfl, w2, hm2, U.send_len, fun H3 L3 w3 g3 => ?_⟩
      refine ⟨plus F' H' H2, L3, _, rfl, ?_, g'.trans (g2.trans g3)⟩
      rw [take_map_succ hm, ← U.send_send]
      exact w3
    · rintro σ H' ⟨F', L', a, rfl, w', g'⟩
      rw [nl_len, List.take_length] at w'
      have kk := k H' F' L' w' (g1.trans g')
      refine ⟨_, rfl, _, _, rfl, .inl (SqL.of (w'.same _ _ (g'.same _ _ hqF))), ?_⟩
      rw [nl_len]
      unfold U.beats at kk
      rw [List.length_map] at kk
      exact kk
end
end Wk
end

section
set_option Elab.async false
set_option linter.all false
set_option maxRecDepth 100000
set_option maxHeartbeats 4000000
namespace Wk
open PySem PySem.Spec PyProof.Rows L2
/-! ### the world, its layout hidden -/
structure Wd (A : Ad) (H F : Hp) (X : Addr → Prop) (u : U) (pr : Addr) (pn : Nat → Addr) : Prop where
  ex : ∃ L, W A H F X L u ∧ L.o .run = pr ∧ ∀ i, L.o (.nd i) = pn i
structure Gd (X : Addr → Prop) (H F H' F' : Hp) : Prop where
  same : Same F F'
  keep : ∀ b, X b → H' b = H b
theorem Gd.refl (X : Addr → Prop) (H F : Hp) : Gd X H F H F := ⟨Same.refl _, fun _ _ => rfl⟩
theorem Gd.trans {X : Addr → Prop} {H F H1 F1 H2 F2 : Hp} (a : Gd X H F H1 F1) (b : Gd X H1 F1 H2 F2) : Gd X H F H2 F2 := ⟨a.same.trans b.same, fun x h => (b.keep x h).trans (a.keep x h)⟩
theorem Go.gd {X : Addr → Prop} {H F H' F' : Hp} {L L' : Lay} (g : Go X H F L H' F' L') : Gd X H F H' F' := ⟨g.same, g.keep⟩
section
variable {A : Ad} {H F : Hp} {X : Addr → Prop} {u : U} {pr : Addr} {pn : Nat → Addr}
theorem Wd.of {L : Lay} (w : W A H F X L u) (e1 : L.o .run = pr) (e2 : ∀ i, L.o (.nd i) = pn i) : Wd A H F X u pr pn := ⟨L, w, e1, e2⟩
theorem W.wd {L L0 : Lay} {H0 F0 : Hp} (w : W A H F X L u) (g : Go X H0 F0 L0 H F L) : Wd A H F X u (L0.o .run) (fun i => L0.o (.nd i)) := ⟨L, w, g.run, g.nd⟩
theorem Wd.same (w : Wd A H F X u pr pn) : Same F H := by
  obtain ⟨L, w, _⟩ := w.ex
  exact w.same
theorem Wd.node (w : Wd A H F X u pr pn) {i : Nat} (hi : i < 5) : NodeAt A F H (pn i) i u.z (u.nd i) := by
  obtain ⟨L, w, _, e⟩ := w.ex
  rw [← e i]
  exact w.node hi
theorem Wd.node_set {i : Nat} {n : Ag12.Node} (w : Wd A H F X (u.set i n) pr pn) (hi : i < 5) : NodeAt A F H (pn i) i u.z n := by
  have h := w.node hi
  rw [U.set_nd] at h
  exact h
theorem Wd.later (w : Wd A H F X u pr pn) {H' : Hp} (s : Same H H') : Wd A H' F X u pr pn ∧ Gd X H F H' F := by
  obtain ⟨L, w, e⟩ := w.ex
  exact ⟨⟨L, w.later s, e⟩, (go_later w s).gd⟩
theorem Wd.plus (w : Wd A H F X u pr pn) {H' : Hp} (s : Same H H') : Wd A H' (Wk.plus F H H') X u pr pn ∧ Gd X H F H' (Wk.plus F H H') := by
  obtain ⟨L, w, e⟩ := w.ex
  exact ⟨⟨L, w.plus s, e⟩, (go_plus w s).gd⟩
theorem Wd.new (w : Wd A H F X u pr pn) {p : Addr} (o : HO) (h : H p = none) : Wd A (upd H p o) (upd F p o) X u pr pn ∧ Gd X H F (upd H p o) (upd F p o) := by
  obtain ⟨L, w, e⟩ := w.ex
  exact ⟨⟨L, w.new h, e⟩, (go_new w h).gd⟩
/-- the object at the top -/
structure RunAt (A : Ad) (H F : Hp) (u : U) (pr : Addr) (pn : Nat → Addr) (dR nodes msgs com led : Addr) : Prop where
  at_ : H pr = some (.ins A.c_Running dR (rF ⟨nodes, msgs, com, led⟩))
  nodes : F nodes = some (.lst ([pn 0, pn 1, pn 2, pn 3, pn 4].map V.ref))
  msgs : ∃ ml : List Addr, H msgs = some (.lst (ml.map V.ref)) ∧ Paired (MsgAt A F) ml u.ls
  com : EntL F com u.told
  led : ∃ ll : List Addr, H led = some (.lst (ll.map V.ref)) ∧ Paired (fun p (r : Nat × Nat) => F p = some (.tup [vn r.1, vn r.2])) ll u.led
theorem Wd.run (w : Wd A H F X u pr pn) : ∃ dR nodes msgs com led, RunAt A H F u pr pn dR nodes msgs com led := by
  obtain ⟨L, v, rfl, e⟩ := w.ex
  refine ⟨_, _, _, _, _, v.run, ?_, ⟨_, v.msgs, v.ml⟩, v.com, ⟨_, v.led, v.ll⟩⟩
  rw [← e, ← e, ← e, ← e, ← e]
  exact v.nodes
/-- a node's field is set -/
theorem Wd.fld (w : Wd A H F X u pr pn) {i : Nat} (hi : i < 5) {f : Str} {y : V} {n : Ag12.Node} (hput : ∀ lg vt nx mt, putF f y (nF (nrec i u.z (u.nd i) lg vt nx mt)) = nF (nrec i u.z n lg vt nx mt))
    (h1 : n.row = (u.nd i).row) (h2 : n.votes = (u.nd i).votes) (h3 : n.next = (u.nd i).next) (h4 : n.has = (u.nd i).has) :
    ∃ dx fs, H (pn i) = some (.ins A.c_Node dx fs) ∧ fs.length < 1000 ∧ ∀ P : Hp → Prop, (∀ H', Wd A H' F X (u.set i n) pr pn → Gd X H F H' F → P H') → P (upd H (pn i) (.ins A.c_Node dx (putF f y fs))) := by
  obtain ⟨L, w, e1, e2⟩ := w.ex
  refine ⟨_, _, by rw [← e2 i]; exact w.nd i hi, (by show 11 < 1000; decide), fun P k => ?_⟩
  rw [hput, ← e2 i]
  have w1 := w.setNode hi (n := n) (lg := L.lg i) (vt := L.vt i) (by rw [h1]; exact w.lg i hi) (by rw [h2]; exact w.vt i hi) h3 h4
  exact k _ ⟨_, w1, e1, e2⟩ (go_setNode w hi (lg := L.lg i) (vt := L.vt i)).gd
theorem Wd.fldVotes (w : Wd A H F X u pr pn) {i : Nat} (hi : i < 5) {a : Addr} {l : List Nat} (ha : F a = some (.lst (nl l))) :
    ∃ dx fs, H (pn i) = some (.ins A.c_Node dx fs) ∧ fs.length < 1000 ∧ ∀ P : Hp → Prop, (∀ H', Wd A H' F X (u.set i { u.nd i with votes := l }) pr pn → Gd X H F H' F → P H') → P (upd H (pn i) (.ins A.c_Node dx (putF "votes" (.ref a) fs))) := by
  obtain ⟨L, w, e1, e2⟩ := w.ex
  refine ⟨_, _, by rw [← e2 i]; exact w.nd i hi, (by show 11 < 1000; decide), fun P k => ?_⟩
  rw [pt_Node_votes, ← e2 i]
  have w1 := w.setNode hi (n := { u.nd i with votes := l }) (lg := L.lg i) (vt := a) (w.lg i hi) ha rfl rfl
  exact k _ ⟨_, w1, e1, e2⟩ (go_setNode w hi (lg := L.lg i) (vt := a)).gd
theorem Wd.fldNx {H0 : Hp} (w : Wd A H0 F X u pr pn) (s : Same H0 H) {i : Nat} (hi : i < 5) {p : Addr} {l : List Nat} (h0 : H0 p = none) (hp : H p = some (.lst (nl l))) :
    ∃ dx fs, H (pn i) = some (.ins A.c_Node dx fs) ∧ fs.length < 1000 ∧ ∀ P : Hp → Prop, (∀ H', Wd A H' F X (u.set i { u.nd i with next := l }) pr pn → Gd X H0 F H' F → P H') → P (upd H (pn i) (.ins A.c_Node dx (putF "nexts" (.ref p) fs))) := by
  obtain ⟨L, w0, e1, e2⟩ := w.ex
  have w := w0.later s
  refine ⟨_, _, by rw [← e2 i]; exact w.nd i hi, (by show 11 < 1000; decide), fun P k => ?_⟩
  rw [pt_Node_nexts, ← e2 i]
  have w1 := w.moveNx hi hp (w0.same.free h0) (fun hx => by obtain ⟨o, q⟩ := (w0.ext p hx).2; exact absurd (h0.symm.trans q) (by simp)) (fun t ht => w0.ne_new h0 ht)
  refine k _ ⟨_, w1, ?_, fun j => ?_⟩ ⟨Same.refl _, fun b hb => ?_⟩
  · exact (sets_ne (o := L.o) (p := p) (s := .nx i) (t := .run) (fun z => nomatch z)).trans e1
  · exact (sets_ne (o := L.o) (p := p) (s := .nx i) (t := .nd j) (fun z => nomatch z)).trans (e2 j)
  · have g := (go_own w (t := .nd i) hi (o := .ins A.c_Node (L.dN i) (nF (nrec i u.z { u.nd i with next := l } (L.lg i) (L.vt i) p (L.o (.mt i))))) (L' := L) rfl fun _ => rfl).keep b hb
    exact g.trans ((go_later w0 s).keep b hb)
theorem Wd.fldMt {H0 : Hp} (w : Wd A H0 F X u pr pn) (s : Same H0 H) {i : Nat} (hi : i < 5) {p : Addr} {l : List Nat} (h0 : H0 p = none) (hp : H p = some (.lst (nl l))) :
    ∃ dx fs, H (pn i) = some (.ins A.c_Node dx fs) ∧ fs.length < 1000 ∧ ∀ P : Hp → Prop, (∀ H', Wd A H' F X (u.set i { u.nd i with has := l }) pr pn → Gd X H0 F H' F → P H') → P (upd H (pn i) (.ins A.c_Node dx (putF "matches" (.ref p) fs))) := by
  obtain ⟨L, w0, e1, e2⟩ := w.ex
  have w := w0.later s
  refine ⟨_, _, by rw [← e2 i]; exact w.nd i hi, (by show 11 < 1000; decide), fun P k => ?_⟩
  rw [pt_Node_matches, ← e2 i]
  have w1 := w.moveMt hi hp (w0.same.free h0) (fun hx => by obtain ⟨o, q⟩ := (w0.ext p hx).2; exact absurd (h0.symm.trans q) (by simp)) (fun t ht => w0.ne_new h0 ht)
  refine k _ ⟨_, w1, ?_, fun j => ?_⟩ ⟨Same.refl _, fun b hb => ?_⟩
  · exact (sets_ne (o := L.o) (p := p) (s := .mt i) (t := .run) (fun z => nomatch z)).trans e1
  · exact (sets_ne (o := L.o) (p := p) (s := .mt i) (t := .nd j) (fun z => nomatch z)).trans (e2 j)
  · have g := (go_own w (t := .nd i) hi (o := .ins A.c_Node (L.dN i) (nF (nrec i u.z { u.nd i with has := l } (L.lg i) (L.vt i) (L.o (.nx i)) p))) (L' := L) rfl fun _ => rfl).keep b hb
    exact g.trans ((go_later w0 s).keep b hb)
/-- the leaders grow -/
theorem Wd.pushLed (w : Wd A H F X u pr pn) {dR nodes msgs com led t : Addr} {r : Nat × Nat} (hr : H pr = some (.ins A.c_Running dR (rF ⟨nodes, msgs, com, led⟩))) (ht : F t = some (.tup [vn r.1, vn r.2])) :
    ∃ ll : List Addr, H led = some (.lst (ll.map V.ref)) ∧ ll.length = u.led.length ∧ ∀ P : Hp → Prop, (∀ H', Wd A H' F X { u with led := u.led ++ [r] } pr pn → Gd X H F H' F → P H') → P (upd H led (.lst (ll.map V.ref ++ [.ref t]))) := by
  obtain ⟨L, v, rfl, e2⟩ := w.ex
  have q := hr.symm.trans v.run
  injection q with q
  injection q with _ _ q
  have el : led = L.o .led := by
    have := congrArg (fun (l : List (Str × V)) => l[3]?.map (·.2)) q
    have := Option.some.inj this
    injection this
  subst el
  refine ⟨_, v.led, v.ll.length, fun P k => ?_⟩
  have e : L.ll.map V.ref ++ [V.ref t] = (L.ll ++ [t]).map V.ref := by rw [List.map_append]; rfl
  rw [e]
  have w1 := v.setLed (ll := L.ll ++ [t]) (l := u.led ++ [r]) (pair_append v.ll (.cons ht .nil))
  exact k _ ⟨_, w1, rfl, e2⟩ (go_own v (t := .led) trivial (L' := { L with ll := L.ll ++ [t] }) rfl fun _ => rfl).gd
end
/-! ### the promises, the layout hidden -/
def sdSend (A : Ad) : Sp := fun vs H Q _ => ∃ F X u pr pn p x, vs = [.ref pr, .ref p] ∧ Wd A H F X u pr pn ∧ MsgAt A F p x ∧ u.ls.length ≤ 100 ∧ ∀ H', Wd A H' F X (u.send [x]) pr pn → Gd X H F H' F → Q .non H'
section
variable {P : Program} {w : World} {K : PySem.W.Frag} {mg : Str → Option Value} {base : Heap} {A : Ad}
theorem od_Running_send (T : Txt K mg A) : Keeps P w K mg base CX0 1 A.f_Running_send p_Running_send (sdSend A) := by
  obtain ⟨fd, G, b⟩ := ok_Running_send (P := P) (w := w) (base := base) T
  refine ⟨fd, G.imp fun vs H Q E h => ?_, b⟩
  obtain ⟨F, X, u, pr, pn, p, x, rfl, wd, hm, hl, k⟩ := h
  obtain ⟨L, v, rfl, e2⟩ := wd.ex
  exact ⟨F, X, L, u, p, x, by first | rfl | rw [e2], v, hm, hl, fun H' L' w' g => k H' ⟨L', w', g.run, fun i => (g.nd i).trans (e2 i)⟩ g.gd⟩
end
def sdSetCommit (A : Ad) : Sp := fun vs H Q _ => ∃ F X u pr pn i c, vs = [.ref pr, .ref (pn i), vn c] ∧ Wd A H F X u pr pn ∧ i < 5 ∧ ∀ H' F', Wd A H' F' X (u.setN i { u.nd i with done := c }) pr pn → Gd X H F H' F' → Q .non H'
section
variable {P : Program} {w : World} {K : PySem.W.Frag} {mg : Str → Option Value} {base : Heap} {A : Ad}
theorem od_Running_set_commit (T : Txt K mg A) : Keeps P w K mg base CX0 1 A.f_Running_set_commit p_Running_set_commit (sdSetCommit A) := by
  obtain ⟨fd, G, b⟩ := ok_Running_set_commit (P := P) (w := w) (base := base) T
  refine ⟨fd, G.imp fun vs H Q E h => ?_, b⟩
  obtain ⟨F, X, u, pr, pn, i, c, rfl, wd, hi, k⟩ := h
  obtain ⟨L, v, rfl, e2⟩ := wd.ex
  exact ⟨F, X, L, u, i, c, by first | rfl | rw [e2], v, hi, fun H' F' L' w' g => k H' F' ⟨L', w', g.run, fun i => (g.nd i).trans (e2 i)⟩ g.gd⟩
end
def sdAdvance (A : Ad) : Sp := fun vs H Q _ => ∃ F X u pr pn i, vs = [.ref pr, .ref (pn i)] ∧ Wd A H F X u pr pn ∧ i < 5 ∧ (u.nd i).has.length = 5 ∧ (u.nd i).row.length ≤ 1000 ∧ (u.nd i).done ≤ 1000 ∧ (u.nd i).done ≤ u.told.length ∧ ∀ H' F', Wd A H' F' X (u.adv i) pr pn → Gd X H F H' F' → Q (.bl (!decide (farz u.z i (u.nd i) = (u.nd i).done))) H'
section
variable {P : Program} {w : World} {K : PySem.W.Frag} {mg : Str → Option Value} {base : Heap} {A : Ad}
theorem od_Running_advance (T : Txt K mg A) : Keeps P w K mg base CX0 5 A.f_Running_advance p_Running_advance (sdAdvance A) := by
  obtain ⟨fd, G, b⟩ := ok_Running_advance (P := P) (w := w) (base := base) T
  refine ⟨fd, G.imp fun vs H Q E h => ?_, b⟩
  obtain ⟨F, X, u, pr, pn, i, rfl, wd, hi, h1, h2, h3, h4, k⟩ := h
  obtain ⟨L, v, rfl, e2⟩ := wd.ex
  exact ⟨F, X, L, u, i, by first | rfl | rw [e2], v, hi, h1, h2, h3, h4, fun H' F' L' w' g => k H' F' ⟨L', w', g.run, fun i => (g.nd i).trans (e2 i)⟩ g.gd⟩
end
def sdAdd (A : Ad) : Sp := fun vs H Q _ => ∃ F X u pr pn i kind value, vs = [.ref pr, .ref (pn i), vn kind, vn value] ∧ Wd A H F X u pr pn ∧ i < 5 ∧ (u.nd i).has.length = 5 ∧ (u.nd i).row.length ≤ 900 ∧ (u.nd i).done ≤ 1000 ∧ (u.nd i).done ≤ u.told.length ∧ ∀ H' F', Wd A H' F' X (u.put i ⟨(u.nd i).term, kind, value⟩) pr pn → Gd X H F H' F' → Q (vn ((u.nd i).row.length + 1)) H'
section
variable {P : Program} {w : World} {K : PySem.W.Frag} {mg : Str → Option Value} {base : Heap} {A : Ad}
theorem od_Running_add (T : Txt K mg A) : Keeps P w K mg base CX0 6 A.f_Running_add p_Running_add (sdAdd A) := by
  obtain ⟨fd, G, b⟩ := ok_Running_add (P := P) (w := w) (base := base) T
  refine ⟨fd, G.imp fun vs H Q E h => ?_, b⟩
  obtain ⟨F, X, u, pr, pn, i, kind, value, rfl, wd, hi, h1, h2, h3, h4, k⟩ := h
  obtain ⟨L, v, rfl, e2⟩ := wd.ex
  exact ⟨F, X, L, u, i, kind, value, by first | rfl | rw [e2], v, hi, h1, h2, h3, h4, fun H' F' L' w' g => k H' F' ⟨L', w', g.run, fun i => (g.nd i).trans (e2 i)⟩ g.gd⟩
end
def sdBeat (A : Ad) : Sp := fun vs H Q _ => ∃ F X u pr pn i, vs = [.ref pr, .ref (pn i)] ∧ Wd A H F X u pr pn ∧ i < 5 ∧ (u.nd i).next.length = 5 ∧ (∀ j, j < 5 → 1 ≤ (u.nd i).next.getD j 1 ∧ (u.nd i).next.getD j 1 ≤ (u.nd i).row.length + 1) ∧ u.ls.length ≤ 100 ∧ ∀ H' F', Wd A H' F' X (u.send (u.beats i (u.nd i))) pr pn → Gd X H F H' F' → Q (vn (u.beats i (u.nd i)).length) H'
section
variable {P : Program} {w : World} {K : PySem.W.Frag} {mg : Str → Option Value} {base : Heap} {A : Ad}
theorem od_Running_heartbeat (T : Txt K mg A) : Keeps P w K mg base CX0 4 A.f_Running_heartbeat p_Running_heartbeat (sdBeat A) := by
  obtain ⟨fd, G, b⟩ := ok_Running_heartbeat (P := P) (w := w) (base := base) T
  refine ⟨fd, G.imp fun vs H Q E h => ?_, b⟩
  obtain ⟨F, X, u, pr, pn, i, rfl, wd, hi, h1, h2, h3, k⟩ := h
  obtain ⟨L, v, rfl, e2⟩ := wd.ex
  exact ⟨F, X, L, u, i, by first | rfl | rw [e2], v, hi, h1, h2, h3, fun H' F' L' w' g => k H' F' ⟨L', w', g.run, fun i => (g.nd i).trans (e2 i)⟩ g.gd⟩
end
def sdAdopt (A : Ad) : Sp := fun vs H Q _ => ∃ F X u pr pn i t, vs = [.ref (pn i), vn t] ∧ Wd A H F X u pr pn ∧ i < 5 ∧ ∀ H' F', Wd A H' F' X (u.set i (Ag12.hear (u.nd i) t)) pr pn → Gd X H F H' F' → Q .non H'
section
variable {P : Program} {w : World} {K : PySem.W.Frag} {mg : Str → Option Value} {base : Heap} {A : Ad}
theorem od_Node_adopt (T : Txt K mg A) : Keeps P w K mg base CX0 2 A.f_Node_adopt p_Node_adopt (sdAdopt A) := by
  obtain ⟨fd, G, b⟩ := ok_Node_adopt (P := P) (w := w) (base := base) T
  refine ⟨fd, G.imp fun vs H Q E h => ?_, b⟩
  obtain ⟨F, X, u, pr, pn, i, t, rfl, wd, hi, k⟩ := h
  obtain ⟨L, v, rfl, e2⟩ := wd.ex
  exact ⟨F, X, L, u, i, t, by first | rfl | rw [e2], v, hi, fun H' F' L' w' g => k H' F' ⟨L', w', g.run, fun i => (g.nd i).trans (e2 i)⟩ g.gd⟩
end
def sdTake (A : Ad) : Sp := fun vs H Q _ => ∃ F X u pr pn i n ea es, vs = [.ref (pn i), vn n, .ref ea] ∧ Wd A H F X u pr pn ∧ i < 5 ∧ EntL F ea es ∧ n ≤ (u.nd i).row.length ∧ (u.nd i).row.length ≤ 1000 ∧ es.length ≤ 1000 ∧ ∀ H' F', Wd A H' F' X (u.set i { u.nd i with row := Ag12.takeIn (u.nd i).row n es }) pr pn → Gd X H F H' F' → Q .non H'
section
variable {P : Program} {w : World} {K : PySem.W.Frag} {mg : Str → Option Value} {base : Heap} {A : Ad}
theorem od_Node_take_entries (T : Txt K mg A) : Keeps P w K mg base CX0 1 A.f_Node_take_entries p_Node_take_entries (sdTake A) := by
  obtain ⟨fd, G, b⟩ := ok_Node_take_entries (P := P) (w := w) (base := base) T
  refine ⟨fd, G.imp fun vs H Q E h => ?_, b⟩
  obtain ⟨F, X, u, pr, pn, i, n, ea, es, rfl, wd, hi, he, h1, h2, h3, k⟩ := h
  obtain ⟨L, v, rfl, e2⟩ := wd.ex
  exact ⟨F, X, L, u, i, n, ea, es, by first | rfl | rw [e2], v, hi, he, h1, h2, h3, fun H' F' L' w' g => k H' F' ⟨L', w', g.run, fun i => (g.nd i).trans (e2 i)⟩ g.gd⟩
end
/-- leave: behind it the fields votes, nexts, matches are empty -/
def sdLeave (A : Ad) : Sp := fun vs H Q _ => ∃ F X u pr pn i, vs = [.ref (pn i)] ∧ Wd A H F X u pr pn ∧ i < 5 ∧ ∀ H' F', Wd A H' F' X (u.set i { u.nd i with votes := [], next := [], has := [] }) pr pn → Gd X H F H' F' → Q .non H'
section
variable {P : Program} {w : World} {K : PySem.W.Frag} {mg : Str → Option Value} {base : Heap} {A : Ad}
theorem od_Node_leave (T : Txt K mg A) : Keeps P w K mg base CX0 1 A.f_Node_leave p_Node_leave (sdLeave A) := by
  obtain ⟨fd, G, b⟩ := ok_Node_leave (P := P) (w := w) (base := base) T
  refine ⟨fd, G.imp fun vs H Q E h => ?_, b⟩
  obtain ⟨F, X, u, pr, pn, i, rfl, wd, hi, k⟩ := h
  obtain ⟨L, v, rfl, e2⟩ := wd.ex
  rw [← e2]
  refine ⟨_, _, _, rfl, v.nd i hi, (by show 11 ≤ 100; decide), fun H' a b c l hp kp => ?_⟩
  obtain ⟨F', L', w2, g2⟩ := v.leave hi l (by
    rw [hp, leftF_nF]
    rfl) kp
  exact k H' F' ⟨L', w2, g2.run, fun i => (g2.nd i).trans (e2 i)⟩ g2.gd
end
end Wk
end

section
set_option Elab.async false
set_option linter.all false
set_option maxRecDepth 100000
set_option maxHeartbeats 4000000
namespace Wk
open PySem PySem.Spec PyProof.Rows L2
/-! ### lead -/
def leadN (n : Ag12.Node) : Ag12.Node := { n with role := 2, votes := [], next := List.replicate 5 (n.row.length + 1), has := List.replicate 5 0 }
def leadV (u : U) (i : Nat) (n : Ag12.Node) : U := { u.set i (leadN n) with led := u.led ++ [(n.term, i)] }
def leadU (u : U) (i : Nat) (n : Ag12.Node) : U := ((leadV u i n).put i ⟨n.term, 2, 0⟩).send (((leadV u i n).put i ⟨n.term, 2, 0⟩).beats i (((leadV u i n).put i ⟨n.term, 2, 0⟩).nd i))
theorem U.put_nd (u : U) (i : Nat) (e : Ent) : (u.put i e).nd i = { u.nd i with row := (u.nd i).row ++ [e], done := farz u.z i { u.nd i with row := (u.nd i).row ++ [e] } } := by
  unfold U.put U.adv
  rw [U.setN_nd, U.set_nd]
  rfl
theorem leadV_nd (u : U) (i : Nat) (n : Ag12.Node) : (leadV u i n).nd i = leadN n := Rf.setn_eq
theorem replicate_snoc {α : Type} (n : Nat) (x : α) : List.replicate (n + 1) x = List.replicate n x ++ [x] := List.replicate_succ'
theorem getD_replicate {j n x d : Nat} (h : j < n) : (List.replicate n x).getD j d = x := by
  rw [List.getD_eq_getElem?_getD, List.getElem?_replicate, if_pos h]
  rfl
section
variable {P : Program} {w : World} {K : PySem.W.Frag} {mg : Str → Option Value} {base : Heap} {A : Ad}
def spLead (A : Ad) : Sp := fun vs H Q _ => ∃ F X u pr pn i, vs = [.ref pr, .ref (pn i)] ∧ Wd A H F X u pr pn ∧ i < 5 ∧ (u.nd i).row.length ≤ 800 ∧ (u.nd i).done ≤ 1000 ∧ (u.nd i).done ≤ u.told.length ∧ u.ls.length ≤ 100 ∧ u.led.length ≤ 1000 ∧
  ∀ H' F', Wd A H' F' X (leadU u i (u.nd i)) pr pn → Gd X H F H' F' → Q .non H'
theorem sc_Running_lead : FnScope n_Running_lead p_Running_lead (defScope s_Running_lead) := ⟨rfl, rfl, rfl, by decide +kernel, rfl, by decide +kernel, by decide +kernel⟩
theorem ok_Running_lead (T : Txt K mg A) : Keeps P w K mg base CX0 7 A.f_Running_lead p_Running_lead (spLead A) := by
  obtain ⟨fd_Running_heartbeat, G_Running_heartbeat, b_Running_heartbeat⟩ := od_Running_heartbeat (P := P) (w := w) (base := base) T
  obtain ⟨fd_Running_add, G_Running_add, b_Running_add⟩ := od_Running_add (P := P) (w := w) (base := base) T
  obtain ⟨fd, F⟩ := T.F_Running_lead
  refine ⟨fd, F.ok sc_Running_lead (fun vs H Q E h => ?_) (fun cdv Ar outer s H vs Q E hr h => ?_), F.binds fun _ _ _ _ _ _ us hl => match us, hl with | [_, _], _ => rfl⟩
  · obtain ⟨F, X, u, pr, pn, i, rfl, _⟩ := h
    rfl
  · obtain ⟨F, X, u, pr, pn, i, rfl, w0, hi, hrow, hd, htold, hls, hled, k⟩ := h
    refine ⟨_, (pss_cons (ps_fld (pv 1) (pe_k rfl T.c_LEADER) rfl)
      (pss_cons (ps_fld (pv 1) (pe_lst pa_nil) rfl)
      (pss_cons (ps_fld (pv 1) (pe_lc (own := [("number", 2)]) rfl sc_Running_lead.nd (pi_range1 (by rfl) T.b_range (pa_cons (pe_k rfl T.c_MANY) pa_nil)) (blkOk_by (own := [("number", 2)]) (N := n_Running_lead) (sc := defScope s_Running_lead) (by decide +kernel)) (fun _ _ _ _ _ => (pg_name (i := 2) sc_Running_lead.nd rfl (Or.inl rfl))) (fun _ _ _ _ _ => pts_nil) (fun _ _ _ _ _ => (pe_op op_add (pe_callB (r := rLenK K) call_len_seq (by rfl) T.b_len PySem.boot_len (pa_cons (pe_fldK (K := K) rfl (pv 1) rfl) pa_nil)) pe_int))) rfl)
      (pss_cons (ps_fld (pv 1) (pe_lc (own := [("number", 2)]) rfl sc_Running_lead.nd (pi_range1 (by rfl) T.b_range (pa_cons (pe_k rfl T.c_MANY) pa_nil)) (blkOk_by (own := [("number", 2)]) (N := n_Running_lead) (sc := defScope s_Running_lead) (by decide +kernel)) (fun _ _ _ _ _ => (pg_name (i := 2) sc_Running_lead.nd rfl (Or.inl rfl))) (fun _ _ _ _ _ => pts_nil) (fun _ _ _ _ _ => pe_int)) rfl)
      (pss_cons (ps_expr (pe_bm PySem.F.plainAttrs_list PySem.F.slot_list_append PySem.F.type_list_append mt_append (pe_fld (pv 0) rfl) (pa_cons (pe_tup (pa_cons (pe_fld (pv 1) rfl) (pa_cons (pe_fld (pv 1) rfl) pa_nil))) pa_nil)))
      (pss_cons (ps_expr (pe_meth (pv 0) T.cl_Running T.m_Running_add G_Running_add (hr.mono (by decide)) b_Running_add .nil pass0 (pa_cons (pv 1) (pa_cons (pe_k rfl T.c_EMPTY) (pa_cons pe_int pa_nil)))))
      (pss_one (ps_expr (pe_meth (pv 0) T.cl_Running T.m_Running_heartbeat G_Running_heartbeat (hr.mono (by decide)) b_Running_heartbeat .nil pass0 (pa_cons (pv 1) pa_nil)))))))))), ?_⟩
    obtain ⟨dx, fs, hp, hl, up⟩ := w0.fld hi (f := "role") (y := .int 2) (n := { u.nd i with role := 2 }) (fun _ _ _ _ => pt_role2 _) rfl rfl rfl rfl
    refine ⟨_, rfl, _, _, _, _, rfl, hp, T.cl_Node, T.na_Node_role, hl, up _ fun H1 w1 g1 => ?_⟩
    clear up hp hl
    refine ⟨Nat.zero_le _, fun a a0 => ?_⟩
    obtain ⟨w2, g2⟩ := w1.new (.lst []) a0
    obtain ⟨dx, fs, hp, hl, up⟩ := w2.fldVotes hi (a := a) (l := []) upd_same
    refine ⟨_, rfl, _, _, _, _, rfl, hp, T.cl_Node, T.na_Node_votes, hl, up _ fun H3 w3 g3 => ?_⟩
    clear up hp hl
    rw [U.set_set, U.set_nd] at w3
    have g13 := g1.trans (g2.trans g3)
    -- nexts
    obtain ⟨dx, lg, vt, nx, mt, hp, ⟨ps, hlg, hps⟩, _⟩ := (w3.node_set hi).ex
    refine ⟨5, rfl, by decide, by decide, fun D hD => lc_range (lo := 0) (n := 5) (fun j H' => Same H3 H' ∧ H' D = some (.lst (nl (List.replicate j ((u.nd i).row.length + 1))))) ⟨same_new hD, upd_same⟩ ?_ ?_⟩
    · rintro j H' hj ⟨s2, hd2⟩
      have hp2 := s2 _ _ hp
      have hlH := s2 _ _ (w3.same _ _ hlg)
      refine ⟨rfl, _, rfl, _, _, _, _, _, rfl, hp2, T.cl_Node, T.na_Node_log, lk_Node_log _, lg, _, rfl, .inl (SqL.of hlH), _, _, rfl, rfl, _, hd2, size_small (by rw [nl_len, List.length_replicate]; omega), same_upd s2 hD, ?_⟩
      rw [upd_same, List.length_map, hps.length, replicate_snoc, nl_snoc]
      rfl
    · rintro H4 ⟨s4, hd4⟩
      obtain ⟨dx, fs, hp, hl, up⟩ := w3.fldNx s4 hi hD hd4
      refine ⟨_, rfl, _, _, _, _, rfl, hp, T.cl_Node, T.na_Node_nexts, hl, up _ fun H5 w5 g5 => ?_⟩
      clear up hp hl
      rw [U.set_set, U.set_nd] at w5
      refine ⟨5, rfl, by decide, by decide, fun D2 hD2 => lc_range (lo := 0) (n := 5) (fun j H' => Same H5 H' ∧ H' D2 = some (.lst (nl (List.replicate j 0)))) ⟨same_new hD2, upd_same⟩ ?_ ?_⟩
      · rintro j H' hj ⟨s2, hd2⟩
        refine ⟨rfl, _, hd2, size_small (by rw [nl_len, List.length_replicate]; omega), same_upd s2 hD2, ?_⟩
        rw [upd_same, replicate_snoc, nl_snoc]
        rfl
      · rintro H6 ⟨s6, hd6⟩
        obtain ⟨dx, fs, hp, hl, up⟩ := w5.fldMt s6 hi hD2 hd6
        refine ⟨_, rfl, _, _, _, _, rfl, hp, T.cl_Node, T.na_Node_matches, hl, up _ fun H7 w7 g7 => ?_⟩
        clear up hp hl
        rw [U.set_set, U.set_nd] at w7
        obtain ⟨dR, nodes, msgs, com, led, hr⟩ := w7.run
        have hrp := hr.at_
        obtain ⟨ll, hll, _⟩ := hr.led
        obtain ⟨dx, lg, vt, nx, mt, hp, ⟨ps, hlg, hps⟩, _⟩ := (w7.node_set hi).ex
        refine ⟨_, rfl, _, _, _, _, _, rfl, hrp, T.cl_Running, T.na_Running_leaders, lk_Running_leaders _, .inl ⟨rfl, _, SqL.of hll⟩, ?_⟩
        refine ⟨_, rfl, _, _, _, _, _, rfl, hp, T.cl_Node, T.na_Node_term, lk_Node_term _, _, rfl, _, _, _, _, _, rfl, hp, T.cl_Node, T.na_Node_number, lk_Node_number _, (by show 2 ≤ sizeLine; decide), fun t t0 => ?_⟩
        obtain ⟨w8, g8⟩ := w7.new (.tup [vn (u.nd i).term, vn i]) t0
        have hrp8 := (nw t0 (.tup [vn (u.nd i).term, vn i])) _ _ hrp
        obtain ⟨ll8, hll8, lnl, up⟩ := w8.pushLed (r := ((u.nd i).term, i)) hrp8 upd_same
        refine ⟨_, _, _, rfl, rfl, hll8, size_small (by rw [List.length_map, lnl]; show u.led.length ≤ _; omega), up _ fun H9 w9 g9 => ?_⟩
        clear up
        have ev : ({ u.set i (leadN (u.nd i)) with led := u.led ++ [((u.nd i).term, i)] } : U) = leadV u i (u.nd i) := rfl
        change Wd A H9 _ X (leadV u i (u.nd i)) pr pn at w9
        generalize upd (upd F a (HO.lst [])) t (HO.tup [vn (u.nd i).term, vn i]) = F8 at w8 g8 w9 g9
        have en := leadV_nd u i (u.nd i)
        obtain ⟨dR, nodes, msgs, com, led, hr9⟩ := w9.run
        have hrp9 := hr9.at_
        have c1 : ((leadV u i (u.nd i)).nd i).row.length ≤ 900 := by rw [en]; show (u.nd i).row.length ≤ _; omega
        have g09 := g13.trans (g5.trans (g7.trans (g8.trans g9)))
        refine ⟨_, rfl, _, _, _, rfl, hrp9, no_Running_add _, _, rfl, F8, X, leadV u i (u.nd i), pr, pn, i, 2, 0, rfl, w9, hi, (by rw [en]; exact List.length_replicate), c1, (by rw [en]; exact hd), (by rw [en]; exact htold), fun H10 F10 w10 g10 => ?_⟩
        obtain ⟨dR, nodes, msgs, com, led, hr10⟩ := w10.run
        have hrp10 := hr10.at_
        have et : ((leadV u i (u.nd i)).nd i).term = (u.nd i).term := by rw [en]; rfl
        rw [et] at w10
        have en2 := U.put_nd (leadV u i (u.nd i)) i ⟨(u.nd i).term, 2, 0⟩
        refine ⟨_, rfl, _, _, _, rfl, hrp10, no_Running_heartbeat _, _, rfl, F10, X, _, pr, pn, i, rfl, w10, hi, ?_, ?_, hls, fun H11 F11 w11 g11 => ?_⟩
        · rw [en2, en]
          exact List.length_replicate
        · intro j hj
          rw [en2, en]
          show 1 ≤ (List.replicate 5 ((u.nd i).row.length + 1)).getD j 1 ∧ (List.replicate 5 ((u.nd i).row.length + 1)).getD j 1 ≤ ((u.nd i).row ++ [(⟨(u.nd i).term, 2, 0⟩ : Ent)]).length + 1
          rw [getD_replicate hj, List.length_append]
          omega
        · exact k _ _ w11 (g09.trans (g10.trans g11))
end
end Wk
end

section
set_option Elab.async false
set_option linter.all false
set_option maxRecDepth 100000
set_option maxHeartbeats 4000000
namespace Wk
open PySem PySem.Spec PyProof.Rows L2
theorem Wd.fldE {A : Ad} {H F : Hp} {X : Addr → Prop} {u : U} {pr : Addr} {pn : Nat → Addr} (w : Wd A H F X u pr pn) {i : Nat} (hi : i < 5) {f : Str} {y : V} {n : Ag12.Node} (hput : ∀ lg vt nx mt, putF f y (nF (nrec i u.z (u.nd i) lg vt nx mt)) = nF (nrec i u.z n lg vt nx mt))
    (h1 : n.row = (u.nd i).row) (h2 : n.votes = (u.nd i).votes) (h3 : n.next = (u.nd i).next) (h4 : n.has = (u.nd i).has) :
    ∃ dx lg vt nx mt, H (pn i) = some (.ins A.c_Node dx (nF (nrec i u.z (u.nd i) lg vt nx mt))) ∧ ∀ P : Hp → Prop, (∀ H', Wd A H' F X (u.set i n) pr pn → Gd X H F H' F → P H') → P (upd H (pn i) (.ins A.c_Node dx (putF f y (nF (nrec i u.z (u.nd i) lg vt nx mt))))) := by
  obtain ⟨L, w, e1, e2⟩ := w.ex
  refine ⟨_, _, _, _, _, by rw [← e2 i]; exact w.nd i hi, fun P k => ?_⟩
  rw [hput, ← e2 i]
  have w1 := w.setNode hi (n := n) (lg := L.lg i) (vt := L.vt i) (by rw [h1]; exact w.lg i hi) (by rw [h2]; exact w.vt i hi) h3 h4
  exact k _ ⟨_, w1, e1, e2⟩ (go_setNode w hi (lg := L.lg i) (vt := L.vt i)).gd
theorem nF_len (r : NR) : (nF r).length < 1000 := by show 11 < 1000; decide
/-! ### elect -/
def electN (n : Ag12.Node) (i : Nat) : Ag12.Node := { n with term := n.term + 1, voted := some i, role := 1, votes := [i], next := [], has := [] }
def reqL (z : Nat) (n : Ag12.Node) (i : Nat) : List Lett := ((Ag12.listOf (mem z n)).filter fun j => j != i).map fun j => (⟨0, j, i, n.term, n.row.length, Ag12.lastTerm n, false, [], 0⟩ : Lett)
def electU (u : U) (i : Nat) : U := if Ag12.most (mem u.z (electN (u.nd i) i)) [i] = true then leadU (u.set i (electN (u.nd i) i)) i (electN (u.nd i) i) else (u.set i (electN (u.nd i) i)).send (reqL u.z (electN (u.nd i) i) i)
section
variable {P : Program} {w : World} {K : PySem.W.Frag} {mg : Str → Option Value} {base : Heap} {A : Ad}
def sdElect (A : Ad) : Sp := fun vs H Q _ => ∃ F X u pr pn i, vs = [.ref pr, .ref (pn i)] ∧ Wd A H F X u pr pn ∧ i < 5 ∧ (u.nd i).row.length ≤ 800 ∧ (u.nd i).done ≤ 1000 ∧ (u.nd i).done ≤ u.told.length ∧ u.ls.length ≤ 100 ∧ u.led.length ≤ 1000 ∧
  ∀ H' F', Wd A H' F' X (electU u i) pr pn → Gd X H F H' F' → Q .non H'
theorem sc_Running_elect : FnScope n_Running_elect p_Running_elect (defScope s_Running_elect) := ⟨rfl, rfl, rfl, by decide +kernel, rfl, by decide +kernel, by decide +kernel⟩
theorem ok_Running_elect (T : Txt K mg A) : Keeps P w K mg base CX0 8 A.f_Running_elect p_Running_elect (sdElect A) := by
  obtain ⟨fd_Node_is_majority, G_Node_is_majority, b_Node_is_majority⟩ := ok_Node_is_majority (P := P) (w := w) (base := base) T
  obtain ⟨fd_Running_lead, G_Running_lead, b_Running_lead⟩ := ok_Running_lead (P := P) (w := w) (base := base) T
  obtain ⟨fd_Node_others, G_Node_others, b_Node_others⟩ := ok_Node_others (P := P) (w := w) (base := base) T
  obtain ⟨fd_Running_send, G_Running_send, b_Running_send⟩ := od_Running_send (P := P) (w := w) (base := base) T
  obtain ⟨fd_request_of, G_request_of, b_request_of⟩ := ok_request_of (P := P) (w := w) (base := base) T
  obtain ⟨fd_Node_leave, G_Node_leave, b_Node_leave⟩ := od_Node_leave (P := P) (w := w) (base := base) T
  obtain ⟨fd, F⟩ := T.F_Running_elect
  refine ⟨fd, F.ok sc_Running_elect (fun vs H Q E h => ?_) (fun cdv Ar outer s H vs Q E hr h => ?_), F.binds fun _ _ _ _ _ _ us hl => match us, hl with | [_, _], _ => rfl⟩
  · obtain ⟨F, X, u, pr, pn, i, rfl, _⟩ := h
    rfl
  · obtain ⟨F, X, u, pr, pn, i, rfl, w0, hi, hrow, hd, htold, hls, hled, k⟩ := h
    refine ⟨_, (pss_cons (ps_fldaug (pv 1) pe_int in_add)
      (pss_cons (ps_fld (pv 1) (pe_fld (pv 1) rfl) rfl)
      (pss_cons (ps_fld (pv 1) (pe_k rfl T.c_CANDIDATE) rfl)
      (pss_cons (ps_expr (pe_meth0 (pv 1) T.cl_Node T.m_Node_leave G_Node_leave (hr.mono (by decide)) b_Node_leave .nil pass0))
      (pss_cons (ps_fld (pv 1) (pe_lst (pa_cons (pe_fld (pv 1) rfl) pa_nil)) rfl)
      (pss_one (ps_if (pt_val (pe_meth (pv 1) T.cl_Node T.m_Node_is_majority G_Node_is_majority (hr.mono (by decide)) b_Node_is_majority .nil pass0 (pa_cons (pe_fld (pv 1) rfl) pa_nil))) (pss_one (ps_expr (pe_meth (pv 0) T.cl_Running T.m_Running_lead G_Running_lead (hr.mono (by decide)) b_Running_lead .nil pass0 (pa_cons (pv 1) pa_nil)))) (pss_one (ps_for PassesOwn.never rfl (pi_list (pe_meth0 (pv 1) T.cl_Node T.m_Node_others G_Node_others (hr.mono (by decide)) b_Node_others .nil pass0)) (pg_name (i := 2) sc_Running_elect.nd rfl (Or.inl rfl)) (pss_one (ps_expr (pe_meth (pv 0) T.cl_Running T.m_Running_send G_Running_send (hr.mono (by decide)) b_Running_send .nil pass0 (pa_cons (pe_call G_request_of (hr.mono (by decide)) (by rfl) T.g_request_of T.k_request_of b_request_of .nil pass0 (pa_cons (pv 1) (pa_cons (pv 2) pa_nil))) pa_nil))))))))))))), ?_⟩
    obtain ⟨dx, lg, vt, nx, mt, hp, up⟩ := w0.fldE hi (f := "term") (y := vn ((u.nd i).term + 1)) (n := { u.nd i with term := (u.nd i).term + 1 }) (fun _ _ _ _ => pt_Node_term _ _) rfl rfl rfl rfl
    refine ⟨_, rfl, _, _, _, _, _, rfl, hp, T.cl_Node, T.na_Node_term, lk_Node_term _, ?_⟩
    refine ⟨_, _, rfl, rfl, _, _, hp, nF_len _, ?_⟩
    refine up _ fun H1 w1 g1 => ?_
    clear up hp
    obtain ⟨dx, lg, vt, nx, mt, hp, up⟩ := w1.fldE hi (f := "voted") (y := vn i) (n := { u.nd i with term := (u.nd i).term + 1, voted := some i }) (fun _ _ _ _ => by rw [U.set_nd]; exact pt_Node_voted _ _) (by rw [U.set_nd]) (by rw [U.set_nd]) (by rw [U.set_nd]) (by rw [U.set_nd])
    refine ⟨_, rfl, _, _, _, _, _, rfl, hp, T.cl_Node, T.na_Node_number, lk_Node_number _, _, rfl, _, _, _, _, rfl, hp, T.cl_Node, T.na_Node_voted, nF_len _, up _ fun H2 w2 g2 => ?_⟩
    clear up hp
    rw [U.set_set] at w2
    obtain ⟨dx, fs, hp, hl, up⟩ := w2.fld hi (f := "role") (y := .int 1) (n := { u.nd i with term := (u.nd i).term + 1, voted := some i, role := 1 }) (fun _ _ _ _ => by rw [U.set_nd]; exact pt_role1 _) (by rw [U.set_nd]) (by rw [U.set_nd]) (by rw [U.set_nd]) (by rw [U.set_nd])
    refine ⟨_, rfl, _, _, _, _, rfl, hp, T.cl_Node, T.na_Node_role, hl, up _ fun H3 w3 g3 => ?_⟩
    clear up hp
    rw [U.set_set] at w3
    obtain ⟨dx, lg, vt, nx, mt, hp, _⟩ := (w3.node_set hi).ex
    refine ⟨_, rfl, _, _, _, rfl, hp, no_Node_leave _, F, X, _, pr, pn, i, rfl, w3, hi, fun H4 F4 w4 g4 => ?_⟩
    rw [U.set_set, U.set_nd] at w4
    obtain ⟨dx, lg, vt, nx, mt, hp, _⟩ := (w4.node_set hi).ex
    refine ⟨_, rfl, _, _, _, _, _, rfl, hp, T.cl_Node, T.na_Node_number, lk_Node_number _, (by show 1 ≤ sizeLine; decide), fun a a0 => ?_⟩
    obtain ⟨w5, g5⟩ := w4.new (.lst [vn i]) a0
    obtain ⟨dx, fs, hp, hl, up⟩ := w5.fldVotes hi (a := a) (l := [i]) upd_same
    refine ⟨_, rfl, _, _, _, _, rfl, hp, T.cl_Node, T.na_Node_votes, hl, up _ fun H6 w6 g6 => ?_⟩
    clear up hp
    rw [U.set_set, U.set_nd] at w6
    change Wd A H6 _ X (u.set i (electN (u.nd i) i)) pr pn at w6
    have g06 := g1.trans (g2.trans (g3.trans (g4.trans (g5.trans g6))))
    generalize upd F4 a (HO.lst [vn i]) = F6 at w6 g06
    obtain ⟨dx, lg, vt, nx, mt, hp, hlg, hvt, _⟩ := (w6.node_set hi).ex
    refine ⟨_, rfl, _, _, _, rfl, hp, no_Node_is_majority _, _, rfl, _, _, _, _, _, rfl, hp, T.cl_Node, T.na_Node_votes, lk_Node_votes _, F6, _, i, u.z, _, vt, [i], rfl, w6.same, w6.node_set hi, SqL.of (w6.same _ _ hvt), fun H7 s7 => ⟨_, rfl, ?_⟩⟩
    obtain ⟨w7, g7⟩ := w6.later s7
    obtain ⟨dR, nodes, msgs, com, led, hr7⟩ := w7.run
    have hrp7 := hr7.at_
    cases cm : Ag12.most (mem u.z (electN (u.nd i) i)) [i] with
    | true =>
      refine iteT ?_
      have eU : electU u i = leadU (u.set i (electN (u.nd i) i)) i (electN (u.nd i) i) := by unfold electU; rw [if_pos cm]
      rw [eU] at k
      have en : (u.set i (electN (u.nd i) i)).nd i = electN (u.nd i) i := U.set_nd _ _ _
      refine ⟨_, rfl, _, _, _, rfl, hrp7, no_Running_lead _, _, rfl, F6, X, _, pr, pn, i, rfl, w7, hi, by rw [en]; exact hrow, by rw [en]; exact hd, by rw [en]; exact htold, hls, hled, fun H8 F8 w8 g8 => ?_⟩
      rw [en] at w8
      exact k _ _ w8 (g06.trans (g7.trans g8))
    | false =>
      refine iteF ?_
      have eU : electU u i = (u.set i (electN (u.nd i) i)).send (reqL u.z (electN (u.nd i) i) i) := by unfold electU; rw [if_neg (by rw [cm]; exact Bool.false_ne_true)]
      rw [eU] at k
      obtain ⟨dx, lg, vt, nx, mt, hp, _⟩ := (w7.node_set hi).ex
      refine ⟨_, rfl, _, _, _, rfl, hp, no_Node_others _, F6, _, i, u.z, _, rfl, w7.same, w7.node_set hi, fun H8 q s8 q0 hq => ?_⟩
      obtain ⟨w8, g8⟩ := w7.plus s8
      have hqF : plus F6 H7 H8 q = some (.lst (nl ((Ag12.listOf (mem u.z (electN (u.nd i) i))).filter fun j => j != i))) := (plus_new q0).trans hq
      generalize plus F6 H7 H8 = F8 at w8 g8 hqF
      refine ⟨q, rfl, ⟨_, SqL.of hq⟩, for_list (xs := nl ((Ag12.listOf (mem u.z (electN (u.nd i) i))).filter fun j => j != i)) (fun j σ H' => ∃ (F' : Hp) (a : Option V), σ = [some (.ref pr), some (.ref (pn i)), a] ∧ Wd A H' F' X ((u.set i (electN (u.nd i) i)).send ((((Ag12.listOf (mem u.z (electN (u.nd i) i))).filter fun j => j != i).take j).map fun j => (⟨0, j, i, (electN (u.nd i) i).term, (electN (u.nd i) i).row.length, Ag12.lastTerm (electN (u.nd i) i), false, [], 0⟩ : Lett))) pr pn ∧ Gd X H8 F8 H' F') ⟨F8, none, rfl, ?_, Gd.refl ..⟩ (fun j σ H' _ ⟨F', a, _, w', g'⟩ => SqL.of (w'.same _ _ (g'.same _ _ hqF))) ?_ ?_⟩
      · rw [List.take_zero, List.map_nil, U.send_nil (show (u.set i (electN (u.nd i) i)).ls.length ≤ 100 from hls)]
        exact w8
      · rintro j x σ H' hx ⟨F', a, rfl, w', g'⟩
        obtain ⟨m, hm, rfl⟩ := get_nl hx
        obtain ⟨dR, nodes, msgs, com, led, hr'⟩ := w'.run
        have hrp' := hr'.at_
        have hn' := w'.node hi
        rw [show (((u.set i (electN (u.nd i) i)).send _).nd i) = electN (u.nd i) i from U.set_nd _ _ _] at hn'
        refine ⟨_, rfl, _, _, _, rfl, hrp', no_Running_send _, _, rfl, _, rfl, F', _, i, _, _, m, rfl, w'.same, hn', fun H2 r s2 r0 hm2 => ?_⟩
        obtain ⟨w2, g2⟩ := w'.plus s2
        refine ⟨_, X, _, pr, pn, r, _, rfl, w2, hm2, U.send_len, fun H3 w3 g3 => ?_⟩
        refine ⟨_, _, rfl, ?_, g'.trans (g2.trans g3)⟩
        rw [take_map_succ hm, ← U.send_send]
        exact w3
      · rintro σ H' ⟨F', a, rfl, w', g'⟩
        rw [nl_len, List.take_length] at w'
        exact k H' F' w' (g06.trans (g7.trans (g8.trans g')))
end
end Wk
end

section
set_option Elab.async false
set_option linter.all false
set_option maxRecDepth 100000
set_option maxHeartbeats 4000000
namespace Wk
open PySem PySem.Spec PyProof.Rows L2
theorem nums0 {x : Lett} (h : x.kind = 0) : nums x = [vn x.a, vn x.b] := by
  unfold nums
  rw [h]
  rfl
theorem nums1 {x : Lett} (h : x.kind = 1) : nums x = [vn (Ag12.bit x.yes)] := by
  unfold nums
  rw [h]
  rfl
theorem nums2 {x : Lett} (h : x.kind = 2) : nums x = [vn x.a, vn x.b] := by
  unfold nums
  rw [h]
  rfl
theorem nums3 {x : Lett} (h : x.kind = 3) : nums x = [vn (Ag12.bit x.yes), vn x.a] := by
  unfold nums
  rw [h]
  rfl
/-! ### receive_request -/
def reqN (n : Ag12.Node) (x : Lett) : Ag12.Node := if wouldB (Ag12.hear n x.term) x.term x.from_ x.a x.b = true then { Ag12.hear n x.term with voted := some x.from_ } else Ag12.hear n x.term
def reqU (u : U) (i : Nat) (x : Lett) : U := (u.set i (reqN (u.nd i) x)).send [⟨1, x.from_, i, (Ag12.hear (u.nd i) x.term).term, 0, 0, wouldB (Ag12.hear (u.nd i) x.term) x.term x.from_ x.a x.b, [], 0⟩]
section
variable {P : Program} {w : World} {K : PySem.W.Frag} {mg : Str → Option Value} {base : Heap} {A : Ad}
def sdRequest (A : Ad) : Sp := fun vs H Q _ => ∃ F X u pr pn i p x, vs = [.ref pr, .ref (pn i), .ref p] ∧ Wd A H F X u pr pn ∧ i < 5 ∧ MsgAt A F p x ∧ x.kind = 0 ∧ u.ls.length ≤ 100 ∧
  ∀ H' F', Wd A H' F' X (reqU u i x) pr pn → Gd X H F H' F' → Q (vn 1) H'
theorem sc_Running_receive_request : FnScope n_Running_receive_request p_Running_receive_request (defScope s_Running_receive_request) := ⟨rfl, rfl, rfl, by decide +kernel, rfl, by decide +kernel, by decide +kernel⟩
theorem ok_Running_receive_request (T : Txt K mg A) : Keeps P w K mg base CX0 4 A.f_Running_receive_request p_Running_receive_request (sdRequest A) := by
  obtain ⟨fd_Running_send, G_Running_send, b_Running_send⟩ := od_Running_send (P := P) (w := w) (base := base) T
  obtain ⟨fd_vote_of, G_vote_of, b_vote_of⟩ := ok_vote_of (P := P) (w := w) (base := base) T
  obtain ⟨fd_Node_would_vote, G_Node_would_vote, b_Node_would_vote⟩ := ok_Node_would_vote (P := P) (w := w) (base := base) T
  obtain ⟨fd_Node_adopt, G_Node_adopt, b_Node_adopt⟩ := od_Node_adopt (P := P) (w := w) (base := base) T
  obtain ⟨fd, F⟩ := T.F_Running_receive_request
  refine ⟨fd, F.ok sc_Running_receive_request (fun vs H Q E h => ?_) (fun cdv Ar outer s H vs Q E hr h => ?_), F.binds fun _ _ _ _ _ _ us hl => match us, hl with | [_, _, _], _ => rfl⟩
  · obtain ⟨F, X, u, pr, pn, i, p, x, rfl, _⟩ := h
    rfl
  · obtain ⟨F, X, u, pr, pn, i, p, x, rfl, w0, hi, hm, hk, hls, k⟩ := h
    refine ⟨_, (pss_cons (ps_expr (pe_meth (pv 1) T.cl_Node T.m_Node_adopt G_Node_adopt (hr.mono (by decide)) b_Node_adopt .nil pass0 (pa_cons (pe_fld (pv 2) rfl) pa_nil)))
      (pss_cons (ps_set (i := 3) sc_Running_receive_request.nd rfl (Or.inl rfl) (pe_meth (pv 1) T.cl_Node T.m_Node_would_vote G_Node_would_vote (hr.mono (by decide)) b_Node_would_vote .nil pass0 (pa_cons (pe_fld (pv 2) rfl) (pa_cons (pe_fld (pv 2) rfl) (pa_cons (pe_ix ix_list (pe_fld (pv 2) rfl) pe_int (fun _ _ => rfl)) (pa_cons (pe_ix ix_list (pe_fld (pv 2) rfl) pe_int (fun _ _ => rfl)) pa_nil))))))
      (pss_cons (ps_if (pt_val (pv 3)) (pss_one (ps_fld (pv 1) (pe_fld (pv 2) rfl) rfl)) pss_nil)
      (pss_cons (ps_expr (pe_meth (pv 0) T.cl_Running T.m_Running_send G_Running_send (hr.mono (by decide)) b_Running_send .nil pass0 (pa_cons (pe_call G_vote_of (hr.mono (by decide)) (by rfl) T.g_vote_of T.k_vote_of b_vote_of .nil pass0 (pa_cons (pv 1) (pa_cons (pe_fld (pv 2) rfl) (pa_cons (pv 3) pa_nil)))) pa_nil)))
      (pss_one (ps_ret (pe_k rfl T.c_REPLIED))))))), ?_⟩
    obtain ⟨dm, na, ea, hmF, hna, hea⟩ := hm
    rw [nums0 hk] at hna
    have hm0 := w0.same _ _ hmF
    obtain ⟨dx, lg, vt, nx, mt, hp, _⟩ := (w0.node hi).ex
    refine ⟨_, rfl, _, _, _, rfl, hp, no_Node_adopt _, _, rfl, _, _, _, _, _, rfl, hm0, T.cl_Message, T.na_Message_term, lk_Message_term _, F, X, u, pr, pn, i, x.term, rfl, w0, hi, fun H1 F1 w1 g1 => ?_⟩
    have hm1 := w1.same _ _ (g1.same _ _ hmF)
    have hn1 := w1.same _ _ (g1.same _ _ hna)
    obtain ⟨dx, lg, vt, nx, mt, hp, _⟩ := (w1.node_set hi).ex
    refine ⟨_, rfl, _, _, _, rfl, hp, no_Node_would_vote _, _, rfl, _, _, _, _, _, rfl, hm1, T.cl_Message, T.na_Message_term, lk_Message_term _, _, rfl, _, _, _, _, _, rfl, hm1, T.cl_Message, T.na_Message_sender, lk_Message_sender _, _, rfl, _, _, _, _, _, rfl, hm1, T.cl_Message, T.na_Message_numbers, lk_Message_numbers _, na, [vn x.a, vn x.b], 0, vn x.a, rfl, rfl, SqL.of hn1, rfl, _, rfl, _, _, _, _, _, rfl, hm1, T.cl_Message, T.na_Message_numbers, lk_Message_numbers _, na, [vn x.a, vn x.b], 1, vn x.b, rfl, rfl, SqL.of hn1, rfl, ?_⟩
    refine ⟨F1, _, i, u.z, Ag12.hear (u.nd i) x.term, x.term, x.from_, x.a, x.b, rfl, w1.same, w1.node_set hi, fun H2 s2 => ?_⟩
    obtain ⟨w2, g2⟩ := w1.later s2
    refine ⟨_, rfl, _, rfl, ?_⟩
    -- behind the test
    have rest : ∀ (Z : L2.St → Hp → Prop) (σ : L2.St) (H3 : Hp), (∀ H3, Wd A H3 F1 X (u.set i (reqN (u.nd i) x)) pr pn → Gd X H F H3 F1 → Z σ H3) → True := fun _ _ _ _ => trivial
    clear rest
    cases cv : wouldB (Ag12.hear (u.nd i) x.term) x.term x.from_ x.a x.b with
    | true =>
      refine iteT ?_
      have hm2 := w2.same _ _ (g1.same _ _ hmF)
      obtain ⟨dx, fs, hp, hl, up⟩ := w2.fld hi (f := "voted") (y := vn x.from_) (n := { Ag12.hear (u.nd i) x.term with voted := some x.from_ }) (fun _ _ _ _ => by rw [U.set_nd]; exact pt_Node_voted _ _) (by rw [U.set_nd]) (by rw [U.set_nd]) (by rw [U.set_nd]) (by rw [U.set_nd])
      refine ⟨_, rfl, _, _, _, _, _, rfl, hm2, T.cl_Message, T.na_Message_sender, lk_Message_sender _, _, rfl, _, _, _, _, rfl, hp, T.cl_Node, T.na_Node_voted, hl, up _ fun H3 w3 g3 => ?_⟩
      clear up hp
      rw [U.set_set] at w3
      have hm3 := w3.same _ _ (g1.same _ _ hmF)
      obtain ⟨dR, nodes, msgs, com, led, hr3⟩ := w3.run
      have hrp3 := hr3.at_
      refine ⟨_, rfl, _, _, _, rfl, hrp3, no_Running_send _, _, rfl, _, rfl, _, _, _, _, _, rfl, hm3, T.cl_Message, T.na_Message_sender, lk_Message_sender _, _, rfl, F1, _, i, u.z, _, x.from_, true, rfl, w3.same, w3.node_set hi, fun H4 q s4 q0 hq => ?_⟩
      obtain ⟨w4, g4⟩ := w3.plus s4
      refine ⟨_, X, _, pr, pn, q, _, rfl, w4, hq, hls, fun H5 w5 g5 => ?_⟩
      have kk := k H5 _ ?_ (g1.trans (g2.trans (g3.trans (g4.trans g5))))
      · exact kk
      · unfold reqU reqN
        rw [cv, if_pos rfl]
        exact w5
    | false =>
      refine iteF ?_
      have hm3 := w2.same _ _ (g1.same _ _ hmF)
      obtain ⟨dR, nodes, msgs, com, led, hr3⟩ := w2.run
      have hrp3 := hr3.at_
      refine ⟨_, rfl, _, _, _, rfl, hrp3, no_Running_send _, _, rfl, _, rfl, _, _, _, _, _, rfl, hm3, T.cl_Message, T.na_Message_sender, lk_Message_sender _, _, rfl, F1, _, i, u.z, _, x.from_, false, rfl, w2.same, w2.node_set hi, fun H4 q s4 q0 hq => ?_⟩
      obtain ⟨w4, g4⟩ := w2.plus s4
      refine ⟨_, X, _, pr, pn, q, _, rfl, w4, hq, hls, fun H5 w5 g5 => ?_⟩
      have kk := k H5 _ ?_ (g1.trans (g2.trans (g4.trans g5)))
      · exact kk
      · unfold reqU reqN
        rw [cv, if_neg Bool.false_ne_true]
        exact w5
/-! ### receive_vote -/
def votN (n : Ag12.Node) (x : Lett) : Ag12.Node := { n with votes := n.votes ++ [x.from_] }
def votU (u : U) (i : Nat) (x : Lett) : U × Nat :=
  if (u.nd i).term < x.term then (u.set i (Ag12.hear (u.nd i) x.term), 5) else if (u.nd i).role ≠ 1 ∨ (x.term ≠ (u.nd i).term ∨ (x.yes = false ∨ (u.nd i).votes.contains x.from_ = true)) then (u, 0) else
  if Ag12.most (mem u.z (votN (u.nd i) x)) ((u.nd i).votes ++ [x.from_]) = true then (leadU (u.set i (votN (u.nd i) x)) i (votN (u.nd i) x), 3) else (u.set i (votN (u.nd i) x), 2)
def sdVote (A : Ad) : Sp := fun vs H Q _ => ∃ F X u pr pn i p x, vs = [.ref pr, .ref (pn i), .ref p] ∧ Wd A H F X u pr pn ∧ i < 5 ∧ MsgAt A F p x ∧ x.kind = 1 ∧ (u.nd i).row.length ≤ 800 ∧ (u.nd i).done ≤ 1000 ∧ (u.nd i).done ≤ u.told.length ∧ u.ls.length ≤ 100 ∧ u.led.length ≤ 1000 ∧ (u.nd i).votes.length ≤ 1000 ∧
  ∀ H' F', Wd A H' F' X (votU u i x).1 pr pn → Gd X H F H' F' → Q (vn (votU u i x).2) H'
theorem sc_Running_receive_vote : FnScope n_Running_receive_vote p_Running_receive_vote (defScope s_Running_receive_vote) := ⟨rfl, rfl, rfl, by decide +kernel, rfl, by decide +kernel, by decide +kernel⟩
theorem ok_Running_receive_vote (T : Txt K mg A) : Keeps P w K mg base CX0 8 A.f_Running_receive_vote p_Running_receive_vote (sdVote A) := by
  obtain ⟨fd_Running_lead, G_Running_lead, b_Running_lead⟩ := ok_Running_lead (P := P) (w := w) (base := base) T
  obtain ⟨fd_Node_is_majority, G_Node_is_majority, b_Node_is_majority⟩ := ok_Node_is_majority (P := P) (w := w) (base := base) T
  obtain ⟨fd_Node_adopt, G_Node_adopt, b_Node_adopt⟩ := od_Node_adopt (P := P) (w := w) (base := base) T
  obtain ⟨fd, F⟩ := T.F_Running_receive_vote
  refine ⟨fd, F.ok sc_Running_receive_vote (fun vs H Q E h => ?_) (fun cdv Ar outer s H vs Q E hr h => ?_), F.binds fun _ _ _ _ _ _ us hl => match us, hl with | [_, _, _], _ => rfl⟩
  · obtain ⟨F, X, u, pr, pn, i, p, x, rfl, _⟩ := h
    rfl
  · obtain ⟨F, X, u, pr, pn, i, p, x, rfl, w0, hi, hm, hk, hrow, hd, htold, hls, hled, hvl, k⟩ := h
    refine ⟨_, (pss_cons (ps_if (pt_cmpR op_lt (pe_fld (pv 1) rfl) (pe_fld (pv 2) rfl) (nomark _)) (pss_cons (ps_expr (pe_meth (pv 1) T.cl_Node T.m_Node_adopt G_Node_adopt (hr.mono (by decide)) b_Node_adopt .nil pass0 (pa_cons (pe_fld (pv 2) rfl) pa_nil)))
      (pss_one (ps_ret (pe_k rfl T.c_ADOPTED)))) pss_nil)
      (pss_cons (ps_if (PW.pt (pw_or (pt_cmpR op_ne (pe_fld (pv 1) rfl) (pe_k rfl T.c_CANDIDATE) (nomark _)) (pw_or (pt_cmpR op_ne (pe_fld (pv 2) rfl) (pe_fld (pv 1) rfl) (nomark _)) (pw_or1 (pt_cmpR op_eq (pe_ix ix_list (pe_fld (pv 2) rfl) pe_int (fun _ _ => rfl)) pe_int (nomark _)))))) (pss_one (ps_ret (pe_k rfl T.c_IGNORED))) pss_nil)
      (pss_cons (ps_if (pt_cmpR (r := rIn K false) op_in_seq (pe_fld (pv 2) rfl) (pe_fld (pv 1) rfl) (by rfl)) (pss_one (ps_ret (pe_k rfl T.c_IGNORED))) pss_nil)
      (pss_cons (ps_fld (pv 1) (pe_op op_cat (pe_fld (pv 1) rfl) (pe_lst (pa_cons (pe_fld (pv 2) rfl) pa_nil))) rfl)
      (pss_cons (ps_if (pt_not (pt_val (pe_meth (pv 1) T.cl_Node T.m_Node_is_majority G_Node_is_majority (hr.mono (by decide)) b_Node_is_majority .nil pass0 (pa_cons (pe_fld (pv 1) rfl) pa_nil)))) (pss_one (ps_ret (pe_k rfl T.c_COUNTED))) pss_nil)
      (pss_cons (ps_expr (pe_meth (pv 0) T.cl_Running T.m_Running_lead G_Running_lead (hr.mono (by decide)) b_Running_lead .nil pass0 (pa_cons (pv 1) pa_nil)))
      (pss_one (ps_ret (pe_k rfl T.c_LEADS))))))))), ?_⟩
    obtain ⟨dm, na, ea, hmF, hna, hea⟩ := hm
    rw [nums1 hk] at hna
    have hm0 := w0.same _ _ hmF
    have hn0 := w0.same _ _ hna
    obtain ⟨dx, lg, vt, nx, mt, hp, hlg, hvt, _⟩ := (w0.node hi).ex
    refine ⟨_, rfl, _, _, _, _, _, rfl, hp, T.cl_Node, T.na_Node_term, lk_Node_term _, _, rfl, _, _, _, _, _, rfl, hm0, T.cl_Message, T.na_Message_term, lk_Message_term _, _, _, rfl, rfl, _, rfl, ?_⟩
    show if decide ((((u.nd i).term : Nat) : Int) < ((x.term : Nat) : Int)) = true then _ else _
    unfold votU at k
    by_cases c1 : (u.nd i).term < x.term
    · rw [decide_eq_true (show (((u.nd i).term : Nat) : Int) < ((x.term : Nat) : Int) by omega)]
      rw [if_pos c1] at k
      refine iteT ⟨_, rfl, _, _, _, rfl, hp, no_Node_adopt _, _, rfl, _, _, _, _, _, rfl, hm0, T.cl_Message, T.na_Message_term, lk_Message_term _, F, X, u, pr, pn, i, x.term, rfl, w0, hi, fun H1 F1 w1 g1 => ?_⟩
      exact k _ _ w1 g1
    · rw [decide_eq_false (show ¬ (((u.nd i).term : Nat) : Int) < ((x.term : Nat) : Int) by omega)]
      rw [if_neg c1] at k
      refine iteF ⟨_, rfl, _, _, _, _, _, rfl, hp, T.cl_Node, T.na_Node_role, lk_Node_role _, rfl, _, rfl, ?_⟩
      show if (!decide (vn (u.nd i).role = vn 1)) = true then _ else _
      rw [dec_vn]
      by_cases c2 : (u.nd i).role = 1
      · rw [decide_eq_true c2]
        refine iteF ⟨_, rfl, _, _, _, _, _, rfl, hm0, T.cl_Message, T.na_Message_term, lk_Message_term _, _, rfl, _, _, _, _, _, rfl, hp, T.cl_Node, T.na_Node_term, lk_Node_term _, rfl, _, rfl, ?_⟩
        show if (!decide (vn x.term = vn (u.nd i).term)) = true then _ else _
        rw [dec_vn]
        by_cases c3 : x.term = (u.nd i).term
        · rw [decide_eq_true c3]
          refine iteF ⟨_, rfl, _, _, _, _, _, rfl, hm0, T.cl_Message, T.na_Message_numbers, lk_Message_numbers _, na, [vn (Ag12.bit x.yes)], 0, vn (Ag12.bit x.yes), rfl, rfl, SqL.of hn0, rfl, rfl, _, rfl, ?_⟩
          show if decide (vn (Ag12.bit x.yes) = vn 0) = true then _ else _
          rw [dec_vn]
          cases c4 : x.yes with
          | false =>
            rw [if_pos (by right; right; left; exact c4)] at k
            exact iteT (k _ _ w0 (Gd.refl ..))
          | true =>
            refine iteF ?_
            refine ⟨_, rfl, _, _, _, _, _, rfl, hm0, T.cl_Message, T.na_Message_sender, lk_Message_sender _, _, rfl, _, _, _, _, _, rfl, hp, T.cl_Node, T.na_Node_votes, lk_Node_votes _, vt, nl (u.nd i).votes, rfl, .inl (SqL.of (w0.same _ _ hvt)), rfl, flat_nl _, _, rfl, ?_⟩
            show if (if false = true then !inV (vn x.from_) (nl (u.nd i).votes) else inV (vn x.from_) (nl (u.nd i).votes)) = true then _ else _
            rw [if_neg Bool.false_ne_true, inV_nl]
            cases c5 : (u.nd i).votes.contains x.from_ with
            | true =>
              rw [if_pos (by right; right; right; exact c5)] at k
              exact iteT (k _ _ w0 (Gd.refl ..))
            | false =>
              refine iteF ?_
              rw [if_neg (by
                rintro (z | z | z | z)
                · exact z c2
                · exact z c3
                · rw [c4] at z; cases z
                · rw [c5] at z; cases z)] at k
              refine ⟨_, rfl, _, _, _, _, _, rfl, hp, T.cl_Node, T.na_Node_votes, lk_Node_votes _, _, rfl, _, _, _, _, _, rfl, hm0, T.cl_Message, T.na_Message_sender, lk_Message_sender _, (by show 1 ≤ sizeLine; decide), fun b b0 => ?_⟩
              refine cat_new (nw b0 _ _ _ (w0.same _ _ hvt)) upd_same (by rw [nl_len, List.length_singleton]; omega) fun q H2 q0 s2 h2 => ?_
              have s02 := (nw b0 (.lst [vn x.from_])).trans s2
              obtain ⟨w2, g2⟩ := w0.plus s02
              have hqF : plus F H H2 q = some (.lst (nl ((u.nd i).votes ++ [x.from_]))) := by
                rw [plus_new ((nw b0 (.lst [vn x.from_])).free q0), h2, nl_snoc]
              generalize plus F H H2 = F2 at w2 g2 hqF
              obtain ⟨dx, fs, hp, hl, up⟩ := w2.fldVotes hi (a := q) (l := (u.nd i).votes ++ [x.from_]) hqF
              refine ⟨_, rfl, _, _, _, _, rfl, hp, T.cl_Node, T.na_Node_votes, hl, up _ fun H3 w3 g3 => ?_⟩
              clear up hp
              change Wd A H3 F2 X (u.set i (votN (u.nd i) x)) pr pn at w3
              obtain ⟨dx, lg, vt, nx, mt, hp, hlg, hvt, _⟩ := (w3.node_set hi).ex
              refine ⟨_, rfl, _, _, _, rfl, hp, no_Node_is_majority _, _, rfl, _, _, _, _, _, rfl, hp, T.cl_Node, T.na_Node_votes, lk_Node_votes _, F2, _, i, u.z, _, vt, (u.nd i).votes ++ [x.from_], rfl, w3.same, w3.node_set hi, SqL.of (w3.same _ _ hvt), fun H4 s4 => ⟨_, rfl, ?_⟩⟩
              obtain ⟨w4, g4⟩ := w3.later s4
              cases cm : Ag12.most (mem u.z (votN (u.nd i) x)) ((u.nd i).votes ++ [x.from_]) with
              | false =>
                rw [if_neg (by rw [cm]; exact Bool.false_ne_true)] at k
                exact iteT (k _ _ w4 (g2.trans (g3.trans g4)))
              | true =>
                rw [if_pos cm] at k
                refine iteF ?_
                obtain ⟨dR, nodes, msgs, com, led, hr4⟩ := w4.run
                have hrp4 := hr4.at_
                have en : (u.set i (votN (u.nd i) x)).nd i = votN (u.nd i) x := U.set_nd _ _ _
                refine ⟨_, rfl, _, _, _, rfl, hrp4, no_Running_lead _, _, rfl, F2, X, _, pr, pn, i, rfl, w4, hi, by rw [en]; exact hrow, by rw [en]; exact hd, by rw [en]; exact htold, hls, hled, fun H8 F8 w8 g8 => ?_⟩
                rw [en] at w8
                exact k _ _ w8 (g2.trans (g3.trans (g4.trans g8)))
        · rw [decide_eq_false c3]
          rw [if_pos (.inr (.inl c3))] at k
          exact iteT (iteT (k _ _ w0 (Gd.refl ..)))
      · rw [decide_eq_false c2]
        rw [if_pos (.inl c2)] at k
        exact iteT (iteT (k _ _ w0 (Gd.refl ..)))
end
end Wk
end

section
set_option Elab.async false
set_option linter.all false
set_option maxRecDepth 100000
set_option maxHeartbeats 4000000
namespace Wk
open PySem PySem.Spec PyProof.Rows L2
/-! ### receive_append -/
def appN (n : Ag12.Node) (x : Lett) : Ag12.Node := { Ag12.hear n x.term with role := 0, votes := [], next := [], has := [] }
def appM (n : Ag12.Node) (x : Lett) : Ag12.Node := { appN n x with row := Ag12.takeIn (appN n x).row x.a x.entries }
def repL (i : Nat) (x : Lett) (t a : Nat) (yes : Bool) : Lett := ⟨3, x.from_, i, t, a, 0, yes, [], 0⟩
def appU (u : U) (i : Nat) (x : Lett) : U :=
  if x.term < (u.nd i).term then u.send [repL i x (u.nd i).term 0 false] else
  if (appN (u.nd i) x).row.length < x.a ∨ Ag12.termAt (appN (u.nd i) x).row x.a ≠ x.b then (u.set i (appN (u.nd i) x)).send [repL i x (appN (u.nd i) x).term 0 false] else
  (u.setN i { appM (u.nd i) x with done := max (appN (u.nd i) x).done (min x.done (x.a + x.entries.length)) }).send [repL i x (appN (u.nd i) x).term (x.a + x.entries.length) true]
section
variable {P : Program} {w : World} {K : PySem.W.Frag} {mg : Str → Option Value} {base : Heap} {A : Ad}
def sdAppend (A : Ad) : Sp := fun vs H Q _ => ∃ F X u pr pn i p x, vs = [.ref pr, .ref (pn i), .ref p] ∧ Wd A H F X u pr pn ∧ i < 5 ∧ MsgAt A F p x ∧ x.kind = 2 ∧ (u.nd i).row.length ≤ 800 ∧ x.entries.length ≤ 1000 ∧ u.ls.length ≤ 100 ∧
  ∀ H' F', Wd A H' F' X (appU u i x) pr pn → Gd X H F H' F' → Q (vn 1) H'
theorem sc_Running_receive_append : FnScope n_Running_receive_append p_Running_receive_append (defScope s_Running_receive_append) := ⟨rfl, rfl, rfl, by decide +kernel, rfl, by decide +kernel, by decide +kernel⟩
theorem ok_Running_receive_append (T : Txt K mg A) : Keeps P w K mg base CX0 4 A.f_Running_receive_append p_Running_receive_append (sdAppend A) := by
  obtain ⟨fd_Running_send, G_Running_send, b_Running_send⟩ := od_Running_send (P := P) (w := w) (base := base) T
  obtain ⟨fd_reply_of, G_reply_of, b_reply_of⟩ := ok_reply_of (P := P) (w := w) (base := base) T
  obtain ⟨fd_Running_set_commit, G_Running_set_commit, b_Running_set_commit⟩ := od_Running_set_commit (P := P) (w := w) (base := base) T
  obtain ⟨fd_Node_take_entries, G_Node_take_entries, b_Node_take_entries⟩ := od_Node_take_entries (P := P) (w := w) (base := base) T
  obtain ⟨fd_Node_term_at, G_Node_term_at, b_Node_term_at⟩ := ok_Node_term_at (P := P) (w := w) (base := base) T
  obtain ⟨fd_Node_leave, G_Node_leave, b_Node_leave⟩ := od_Node_leave (P := P) (w := w) (base := base) T
  obtain ⟨fd_Node_adopt, G_Node_adopt, b_Node_adopt⟩ := od_Node_adopt (P := P) (w := w) (base := base) T
  obtain ⟨fd, F⟩ := T.F_Running_receive_append
  refine ⟨fd, F.ok sc_Running_receive_append (fun vs H Q E h => ?_) (fun cdv Ar outer s H vs Q E hr h => ?_), F.binds fun _ _ _ _ _ _ us hl => match us, hl with | [_, _, _], _ => rfl⟩
  · obtain ⟨F, X, u, pr, pn, i, p, x, rfl, _⟩ := h
    rfl
  · obtain ⟨F, X, u, pr, pn, i, p, x, rfl, w0, hi, hm, hk, hrow, hel, hls, k⟩ := h
    refine ⟨_, (pss_cons (ps_if (pt_cmpR op_gt (pe_fld (pv 1) rfl) (pe_fld (pv 2) rfl) (nomark _)) (pss_cons (ps_expr (pe_meth (pv 0) T.cl_Running T.m_Running_send G_Running_send (hr.mono (by decide)) b_Running_send .nil pass0 (pa_cons (pe_call G_reply_of (hr.mono (by decide)) (by rfl) T.g_reply_of T.k_reply_of b_reply_of .nil pass0 (pa_cons (pv 1) (pa_cons (pe_fld (pv 2) rfl) (pa_cons pe_bl (pa_cons pe_int pa_nil))))) pa_nil)))
      (pss_one (ps_ret (pe_k rfl T.c_REPLIED)))) pss_nil)
      (pss_cons (ps_expr (pe_meth (pv 1) T.cl_Node T.m_Node_adopt G_Node_adopt (hr.mono (by decide)) b_Node_adopt .nil pass0 (pa_cons (pe_fld (pv 2) rfl) pa_nil)))
      (pss_cons (ps_fld (pv 1) (pe_k rfl T.c_FOLLOWER) rfl)
      (pss_cons (ps_expr (pe_meth0 (pv 1) T.cl_Node T.m_Node_leave G_Node_leave (hr.mono (by decide)) b_Node_leave .nil pass0))
      (pss_cons (ps_set (i := 3) sc_Running_receive_append.nd rfl (Or.inl rfl) (pe_ix ix_list (pe_fld (pv 2) rfl) pe_int (fun _ _ => rfl)))
      (pss_cons (ps_if (PW.pt (pw_or (pt_cmpR op_lt (pe_callB (r := rLenK K) call_len_seq (by rfl) T.b_len PySem.boot_len (pa_cons (pe_fld (pv 1) rfl) pa_nil)) (pv 3) (nomark _)) (pw_or1 (pt_cmpR op_ne (pe_meth (pv 1) T.cl_Node T.m_Node_term_at G_Node_term_at (hr.mono (by decide)) b_Node_term_at .nil pass0 (pa_cons (pv 3) pa_nil)) (pe_ix ix_list (pe_fld (pv 2) rfl) pe_int (fun _ _ => rfl)) (nomark _))))) (pss_cons (ps_expr (pe_meth (pv 0) T.cl_Running T.m_Running_send G_Running_send (hr.mono (by decide)) b_Running_send .nil pass0 (pa_cons (pe_call G_reply_of (hr.mono (by decide)) (by rfl) T.g_reply_of T.k_reply_of b_reply_of .nil pass0 (pa_cons (pv 1) (pa_cons (pe_fld (pv 2) rfl) (pa_cons pe_bl (pa_cons pe_int pa_nil))))) pa_nil)))
      (pss_one (ps_ret (pe_k rfl T.c_REPLIED)))) pss_nil)
      (pss_cons (ps_expr (pe_meth (pv 1) T.cl_Node T.m_Node_take_entries G_Node_take_entries (hr.mono (by decide)) b_Node_take_entries .nil pass0 (pa_cons (pv 3) (pa_cons (pe_fld (pv 2) rfl) pa_nil))))
      (pss_cons (ps_set (i := 4) sc_Running_receive_append.nd rfl (Or.inl rfl) (pe_op op_add (pv 3) (pe_callB (r := rLenK K) call_len_seq (by rfl) T.b_len PySem.boot_len (pa_cons (pe_fld (pv 2) rfl) pa_nil))))
      (pss_cons (ps_expr (pe_meth (pv 0) T.cl_Running T.m_Running_set_commit G_Running_set_commit (hr.mono (by decide)) b_Running_set_commit .nil pass0 (pa_cons (pv 1) (pa_cons (pe_callB (call_max2 rfl) (by rfl) T.b_max (by decide +kernel) (pa_cons (pe_fld (pv 1) rfl) (pa_cons (pe_callB (call_min2 rfl) (by rfl) T.b_min (by decide +kernel) (pa_cons (pv 4) (pa_cons (pe_fld (pv 2) rfl) pa_nil))) pa_nil))) pa_nil))))
      (pss_cons (ps_expr (pe_meth (pv 0) T.cl_Running T.m_Running_send G_Running_send (hr.mono (by decide)) b_Running_send .nil pass0 (pa_cons (pe_call G_reply_of (hr.mono (by decide)) (by rfl) T.g_reply_of T.k_reply_of b_reply_of .nil pass0 (pa_cons (pv 1) (pa_cons (pe_fld (pv 2) rfl) (pa_cons pe_bl (pa_cons (pv 4) pa_nil))))) pa_nil)))
      (pss_one (ps_ret (pe_k rfl T.c_REPLIED))))))))))))), ?_⟩
    obtain ⟨dm, na, ea, hmF, hna, hea⟩ := hm
    rw [nums2 hk] at hna
    have hm0 := w0.same _ _ hmF
    obtain ⟨dx, lg, vt, nx, mt, hp, hlg, hvt, _⟩ := (w0.node hi).ex
    refine ⟨_, rfl, _, _, _, _, _, rfl, hp, T.cl_Node, T.na_Node_term, lk_Node_term _, _, rfl, _, _, _, _, _, rfl, hm0, T.cl_Message, T.na_Message_term, lk_Message_term _, _, _, rfl, rfl, _, rfl, ?_⟩
    show if decide (((x.term : Nat) : Int) < (((u.nd i).term : Nat) : Int)) = true then _ else _
    unfold appU at k
    by_cases c1 : x.term < (u.nd i).term
    · rw [decide_eq_true (show ((x.term : Nat) : Int) < (((u.nd i).term : Nat) : Int) by omega)]
      rw [if_pos c1] at k
      refine iteT ?_
      obtain ⟨dR, nodes, msgs, com, led, hr0⟩ := w0.run
      have hrp0 := hr0.at_
      refine ⟨_, rfl, _, _, _, rfl, hrp0, no_Running_send _, _, rfl, _, rfl, _, _, _, _, _, rfl, hm0, T.cl_Message, T.na_Message_sender, lk_Message_sender _, F, _, i, u.z, _, x.from_, false, 0, rfl, w0.same, w0.node hi, fun H4 q s4 q0 hq => ?_⟩
      obtain ⟨w4, g4⟩ := w0.plus s4
      refine ⟨_, X, _, pr, pn, q, _, rfl, w4, hq, hls, fun H5 w5 g5 => ?_⟩
      exact k _ _ w5 (g4.trans g5)
    · rw [decide_eq_false (show ¬ ((x.term : Nat) : Int) < (((u.nd i).term : Nat) : Int) by omega)]
      rw [if_neg c1] at k
      refine iteF ⟨_, rfl, _, _, _, rfl, hp, no_Node_adopt _, _, rfl, _, _, _, _, _, rfl, hm0, T.cl_Message, T.na_Message_term, lk_Message_term _, F, X, u, pr, pn, i, x.term, rfl, w0, hi, fun H1 F1 w1 g1 => ?_⟩
      obtain ⟨dx, fs, hp, hl, up⟩ := w1.fld hi (f := "role") (y := .int 0) (n := { Ag12.hear (u.nd i) x.term with role := 0 }) (fun _ _ _ _ => by rw [U.set_nd]; exact pt_role0 _) (by rw [U.set_nd]) (by rw [U.set_nd]) (by rw [U.set_nd]) (by rw [U.set_nd])
      refine ⟨_, rfl, _, _, _, _, rfl, hp, T.cl_Node, T.na_Node_role, hl, up _ fun H2 w2 g2 => ?_⟩
      clear up hp
      rw [U.set_set] at w2
      obtain ⟨dx, lg, vt, nx, mt, hp, _⟩ := (w2.node_set hi).ex
      refine ⟨_, rfl, _, _, _, rfl, hp, no_Node_leave _, F1, X, _, pr, pn, i, rfl, w2, hi, fun H3 F3 w3 g3 => ?_⟩
      rw [U.set_set, U.set_nd] at w3
      change Wd A H3 F3 X (u.set i (appN (u.nd i) x)) pr pn at w3
      have g03 := g1.trans (g2.trans g3)
      have hm3 := w3.same _ _ (g03.same _ _ hmF)
      have hn3 := w3.same _ _ (g03.same _ _ hna)
      obtain ⟨dx, lg, vt, nx, mt, hp, ⟨ps, hlg, hps⟩, _⟩ := (w3.node_set hi).ex
      have hlH := w3.same _ _ hlg
      have lenp : (ps.map V.ref).length = (appN (u.nd i) x).row.length := by rw [List.length_map, hps.length]
      have hrow3 : (appN (u.nd i) x).row.length ≤ 800 := by
        have : (appN (u.nd i) x).row = (u.nd i).row := by
          unfold appN Ag12.hear
          split <;> rfl
        rw [this]
        exact hrow
      refine ⟨_, rfl, _, _, _, _, _, rfl, hm3, T.cl_Message, T.na_Message_numbers, lk_Message_numbers _, na, [vn x.a, vn x.b], 0, vn x.a, rfl, rfl, SqL.of hn3, rfl, ?_⟩
      refine ⟨_, rfl, _, _, _, _, _, rfl, hp, T.cl_Node, T.na_Node_log, lk_Node_log _, lg, _, rfl, .inl (SqL.of hlH), _, rfl, _, _, rfl, rfl, _, rfl, ?_⟩
      show if decide ((((ps.map V.ref).length : Nat) : Int) < ((x.a : Nat) : Int)) = true then _ else _
      rw [lenp]
      -- no success
      by_cases c2 : (appN (u.nd i) x).row.length < x.a
      · rw [decide_eq_true (show (((appN (u.nd i) x).row.length : Nat) : Int) < ((x.a : Nat) : Int) by omega)]
        rw [if_pos (.inl c2)] at k
        refine iteT (iteT ?_)
        obtain ⟨dR, nodes, msgs, com, led, hr3⟩ := w3.run
        have hrp3 := hr3.at_
        refine ⟨_, rfl, _, _, _, rfl, hrp3, no_Running_send _, _, rfl, _, rfl, _, _, _, _, _, rfl, hm3, T.cl_Message, T.na_Message_sender, lk_Message_sender _, F3, _, i, u.z, _, x.from_, false, 0, rfl, w3.same, w3.node_set hi, fun H4 q s4 q0 hq => ?_⟩
        obtain ⟨w4, g4⟩ := w3.plus s4
        refine ⟨_, X, _, pr, pn, q, _, rfl, w4, hq, hls, fun H5 w5 g5 => ?_⟩
        exact k _ _ w5 (g03.trans (g4.trans g5))
      · rw [decide_eq_false (show ¬ (((appN (u.nd i) x).row.length : Nat) : Int) < ((x.a : Nat) : Int) by omega)]
        refine iteF ?_
        refine ⟨_, rfl, _, _, _, rfl, hp, no_Node_term_at _, _, rfl, F3, _, i, u.z, _, x.a, rfl, w3.same, w3.node_set hi, by omega, ?_⟩
        refine ⟨_, rfl, _, _, _, _, _, rfl, hm3, T.cl_Message, T.na_Message_numbers, lk_Message_numbers _, na, [vn x.a, vn x.b], 1, vn x.b, rfl, rfl, SqL.of hn3, rfl, rfl, _, rfl, ?_⟩
        show if (!decide (vn (Ag12.termAt (appN (u.nd i) x).row x.a) = vn x.b)) = true then _ else _
        rw [dec_vn]
        by_cases c3 : Ag12.termAt (appN (u.nd i) x).row x.a = x.b
        · rw [decide_eq_true c3]
          rw [if_neg (by rintro (z | z); exact c2 z; exact z c3)] at k
          refine iteF ?_
          have hea3 := hea.mono g03.same
          have en3 : (u.set i (appN (u.nd i) x)).nd i = appN (u.nd i) x := U.set_nd _ _ _
          refine ⟨_, rfl, _, _, _, rfl, hp, no_Node_take_entries _, _, rfl, _, rfl, _, _, _, _, _, rfl, hm3, T.cl_Message, T.na_Message_entries, lk_Message_entries _, F3, X, _, pr, pn, i, x.a, ea, x.entries, rfl, w3, hi, hea3, by rw [en3]; omega, by rw [en3]; omega, hel, fun H4 F4 w4 g4 => ?_⟩
          rw [U.set_set, en3] at w4
          change Wd A H4 F4 X (u.set i (appM (u.nd i) x)) pr pn at w4
          have hm4 := w4.same _ _ (g4.same _ _ (g03.same _ _ hmF))
          obtain ⟨es, he, hes⟩ := hea
          have he4 := w4.same _ _ (g4.same _ _ (g03.same _ _ he))
          have lene : (((es.map V.ref).length : Nat) : Int) = ((x.entries.length : Nat) : Int) := by rw [List.length_map, hes.length]
          refine ⟨_, rfl, _, rfl, _, _, _, _, _, rfl, hm4, T.cl_Message, T.na_Message_entries, lk_Message_entries _, ea, _, rfl, .inl (SqL.of he4), _, _, rfl, rfl, ?_⟩
          show gName 4 (V.int (((x.a : Nat) : Int) + (((es.map V.ref).length : Nat) : Int))) _ _ _
          rw [show V.int (((x.a : Nat) : Int) + (((es.map V.ref).length : Nat) : Int)) = vn (x.a + x.entries.length) by rw [lene]; unfold vn; congr 1]
          obtain ⟨dR, nodes, msgs, com, led, hr4⟩ := w4.run
          have hrp4 := hr4.at_
          obtain ⟨dx, lg, vt, nx, mt, hp, _⟩ := (w4.node_set hi).ex
          refine ⟨_, rfl, _, _, _, rfl, hrp4, no_Running_set_commit _, _, rfl, _, rfl, _, _, _, _, _, rfl, hp, T.cl_Node, T.na_Node_commit, lk_Node_commit _, _, rfl, _, rfl, _, _, _, _, _, rfl, hm4, T.cl_Message, T.na_Message_commit, lk_Message_commit _, _, _, rfl, _, _, rfl, ?_⟩
          have em : V.int (if (if ((x.done : Nat) : Int) < ((x.a + x.entries.length : Nat) : Int) then ((x.done : Nat) : Int) else ((x.a + x.entries.length : Nat) : Int)) > (((appN (u.nd i) x).done : Nat) : Int) then (if ((x.done : Nat) : Int) < ((x.a + x.entries.length : Nat) : Int) then ((x.done : Nat) : Int) else ((x.a + x.entries.length : Nat) : Int)) else (((appN (u.nd i) x).done : Nat) : Int)) = vn (max (appN (u.nd i) x).done (min x.done (x.a + x.entries.length))) := by
            unfold vn
            congr 1
            split <;> split <;> omega
          have en4 : (u.set i (appM (u.nd i) x)).nd i = appM (u.nd i) x := U.set_nd _ _ _
          refine ⟨F4, X, _, pr, pn, i, max (appN (u.nd i) x).done (min x.done (x.a + x.entries.length)), congrArg (fun v => [V.ref pr, V.ref (pn i), v]) em, w4, hi, fun H5 F5 w5 g5 => ?_⟩
          rw [U.set_setN, en4] at w5
          have hm5 := w5.same _ _ (g5.same _ _ (g4.same _ _ (g03.same _ _ hmF)))
          obtain ⟨dR, nodes, msgs, com, led, hr5⟩ := w5.run
          have hrp5 := hr5.at_
          have hn5 := w5.node hi
          rw [U.setN_nd] at hn5
          refine ⟨_, rfl, _, _, _, rfl, hrp5, no_Running_send _, _, rfl, _, rfl, _, _, _, _, _, rfl, hm5, T.cl_Message, T.na_Message_sender, lk_Message_sender _, _, rfl, F5, _, i, _, _, x.from_, true, x.a + x.entries.length, rfl, w5.same, hn5, fun H6 q s6 q0 hq => ?_⟩
          obtain ⟨w6, g6⟩ := w5.plus s6
          refine ⟨_, X, _, pr, pn, q, _, rfl, w6, hq, hls, fun H7 w7 g7 => ?_⟩
          exact k _ _ w7 (g03.trans (g4.trans (g5.trans (g6.trans g7))))
        · rw [decide_eq_false c3]
          rw [if_pos (.inr c3)] at k
          refine iteT ?_
          obtain ⟨dR, nodes, msgs, com, led, hr3⟩ := w3.run
          have hrp3 := hr3.at_
          refine ⟨_, rfl, _, _, _, rfl, hrp3, no_Running_send _, _, rfl, _, rfl, _, _, _, _, _, rfl, hm3, T.cl_Message, T.na_Message_sender, lk_Message_sender _, F3, _, i, u.z, _, x.from_, false, 0, rfl, w3.same, w3.node_set hi, fun H4 q s4 q0 hq => ?_⟩
          obtain ⟨w4, g4⟩ := w3.plus s4
          refine ⟨_, X, _, pr, pn, q, _, rfl, w4, hq, hls, fun H5 w5 g5 => ?_⟩
          exact k _ _ w5 (g03.trans (g4.trans g5))
/-! ### receive_reply -/
def repN (n : Ag12.Node) (x : Lett) : Ag12.Node := { n with has := n.has.set x.from_ (max (n.has.getD x.from_ 0) x.a), next := n.next.set x.from_ (max (n.has.getD x.from_ 0) x.a + 1) }
def repU (u : U) (i : Nat) (x : Lett) : U × Nat :=
  if (u.nd i).term < x.term then (u.set i (Ag12.hear (u.nd i) x.term), 5) else if (u.nd i).role ≠ 2 ∨ x.term ≠ (u.nd i).term then (u, 0) else
  if x.yes = false then (u.set i { u.nd i with next := (u.nd i).next.set x.from_ (max 1 ((u.nd i).next.getD x.from_ 1 - 1)) }, 6) else
  ((u.set i (repN (u.nd i) x)).adv i, if farz u.z i (repN (u.nd i) x) = (u.nd i).done then 2 else 4)
theorem nl_set {l : List Nat} {j x : Nat} : (nl l).set j (vn x) = nl (l.set j x) := (List.map_set).symm
theorem Wd.putNx {A : Ad} {H F : Hp} {X : Addr → Prop} {u : U} {pr : Addr} {pn : Nat → Addr} (w : Wd A H F X u pr pn) {i : Nat} (hi : i < 5) {dx lg vt nx mt : Addr} (hp : H (pn i) = some (.ins A.c_Node dx (nF (nrec i u.z (u.nd i) lg vt nx mt)))) (l : List Nat) :
    ∀ P : Hp → Prop, (∀ H', Wd A H' F X (u.set i { u.nd i with next := l }) pr pn → Gd X H F H' F → P H') → P (upd H nx (.lst (nl l))) := by
  obtain ⟨L, w, e1, e2⟩ := w.ex
  intro P k
  have e : H (pn i) = some (.ins A.c_Node (L.dN i) (nF (nrec i u.z (u.nd i) (L.lg i) (L.vt i) (L.o (.nx i)) (L.o (.mt i))))) := by
    rw [← e2 i]
    exact w.nd i hi
  have q := hp.symm.trans e
  injection q with q
  injection q with _ _ q
  have el : nx = L.o (.nx i) := by
    have := congrArg (fun (l : List (Str × V)) => l[9]?.map (·.2)) q
    have := Option.some.inj this
    injection this
  subst el
  exact k _ ⟨_, w.setNext hi l, e1, e2⟩ (go_own w (t := .nx i) hi (L' := L) rfl fun _ => rfl).gd
theorem Wd.putMt {A : Ad} {H F : Hp} {X : Addr → Prop} {u : U} {pr : Addr} {pn : Nat → Addr} (w : Wd A H F X u pr pn) {i : Nat} (hi : i < 5) {dx lg vt nx mt : Addr} (hp : H (pn i) = some (.ins A.c_Node dx (nF (nrec i u.z (u.nd i) lg vt nx mt)))) (l : List Nat) :
    ∀ P : Hp → Prop, (∀ H', Wd A H' F X (u.set i { u.nd i with has := l }) pr pn → Gd X H F H' F → P H') → P (upd H mt (.lst (nl l))) := by
  obtain ⟨L, w, e1, e2⟩ := w.ex
  intro P k
  have e : H (pn i) = some (.ins A.c_Node (L.dN i) (nF (nrec i u.z (u.nd i) (L.lg i) (L.vt i) (L.o (.nx i)) (L.o (.mt i))))) := by
    rw [← e2 i]
    exact w.nd i hi
  have q := hp.symm.trans e
  injection q with q
  injection q with _ _ q
  have el : mt = L.o (.mt i) := by
    have := congrArg (fun (l : List (Str × V)) => l[10]?.map (·.2)) q
    have := Option.some.inj this
    injection this
  subst el
  exact k _ ⟨_, w.setHas hi l, e1, e2⟩ (go_own w (t := .mt i) hi (L' := L) rfl fun _ => rfl).gd
theorem ix_nat {n k : Nat} (h : k < n) : ixN n ((k : Nat) : Int) = some k := by
  unfold ixN
  rw [if_pos (by omega), if_pos (by omega)]
  rfl
def sdReply (A : Ad) : Sp := fun vs H Q _ => ∃ F X u pr pn i p x, vs = [.ref pr, .ref (pn i), .ref p] ∧ Wd A H F X u pr pn ∧ i < 5 ∧ MsgAt A F p x ∧ x.kind = 3 ∧ x.from_ < 5 ∧ (u.nd i).row.length ≤ 800 ∧ (u.nd i).done ≤ 1000 ∧ (u.nd i).done ≤ u.told.length ∧
  ((u.nd i).role = 2 → (u.nd i).next.length = 5 ∧ (u.nd i).has.length = 5 ∧ 1 ≤ (u.nd i).next.getD x.from_ 1) ∧
  ∀ H' F', Wd A H' F' X (repU u i x).1 pr pn → Gd X H F H' F' → Q (vn (repU u i x).2) H'
theorem sc_Running_receive_reply : FnScope n_Running_receive_reply p_Running_receive_reply (defScope s_Running_receive_reply) := ⟨rfl, rfl, rfl, by decide +kernel, rfl, by decide +kernel, by decide +kernel⟩
theorem ok_Running_receive_reply (T : Txt K mg A) : Keeps P w K mg base CX0 6 A.f_Running_receive_reply p_Running_receive_reply (sdReply A) := by
  obtain ⟨fd_Running_advance, G_Running_advance, b_Running_advance⟩ := od_Running_advance (P := P) (w := w) (base := base) T
  obtain ⟨fd_Node_adopt, G_Node_adopt, b_Node_adopt⟩ := od_Node_adopt (P := P) (w := w) (base := base) T
  obtain ⟨fd, F⟩ := T.F_Running_receive_reply
  refine ⟨fd, F.ok sc_Running_receive_reply (fun vs H Q E h => ?_) (fun cdv Ar outer s H vs Q E hr h => ?_), F.binds fun _ _ _ _ _ _ us hl => match us, hl with | [_, _, _], _ => rfl⟩
  · obtain ⟨F, X, u, pr, pn, i, p, x, rfl, _⟩ := h
    rfl
  · obtain ⟨F, X, u, pr, pn, i, p, x, rfl, w0, hi, hm, hk, hf5, hrow, hd, htold, hlead, k⟩ := h
    refine ⟨_, (pss_cons (ps_if (pt_cmpR op_lt (pe_fld (pv 1) rfl) (pe_fld (pv 2) rfl) (nomark _)) (pss_cons (ps_expr (pe_meth (pv 1) T.cl_Node T.m_Node_adopt G_Node_adopt (hr.mono (by decide)) b_Node_adopt .nil pass0 (pa_cons (pe_fld (pv 2) rfl) pa_nil)))
      (pss_one (ps_ret (pe_k rfl T.c_ADOPTED)))) pss_nil)
      (pss_cons (ps_if (PW.pt (pw_or (pt_cmpR op_ne (pe_fld (pv 1) rfl) (pe_k rfl T.c_LEADER) (nomark _)) (pw_or1 (pt_cmpR op_ne (pe_fld (pv 2) rfl) (pe_fld (pv 1) rfl) (nomark _))))) (pss_one (ps_ret (pe_k rfl T.c_IGNORED))) pss_nil)
      (pss_cons (ps_set (i := 3) sc_Running_receive_reply.nd rfl (Or.inl rfl) (pe_fld (pv 2) rfl))
      (pss_cons (ps_if (pt_cmpR op_eq (pe_ix ix_list (pe_fld (pv 2) rfl) pe_int (fun _ _ => rfl)) pe_int (nomark _)) (pss_cons (ps_asg (pe_callB (call_max2 rfl) (by rfl) T.b_max (by decide +kernel) (pa_cons pe_int (pa_cons (pe_op op_sub (pe_ix ix_list (pe_fld (pv 1) rfl) (pv 3) (fun _ _ => rfl)) pe_int) pa_nil))) (pg_sub (pe_fld (pv 1) rfl) (pv 3) set_list))
      (pss_one (ps_ret (pe_k rfl T.c_NO_SUCCESS)))) pss_nil)
      (pss_cons (ps_asg (pe_callB (call_max2 rfl) (by rfl) T.b_max (by decide +kernel) (pa_cons (pe_ix ix_list (pe_fld (pv 1) rfl) (pv 3) (fun _ _ => rfl)) (pa_cons (pe_ix ix_list (pe_fld (pv 2) rfl) pe_int (fun _ _ => rfl)) pa_nil))) (pg_sub (pe_fld (pv 1) rfl) (pv 3) set_list))
      (pss_cons (ps_asg (pe_op op_add (pe_ix ix_list (pe_fld (pv 1) rfl) (pv 3) (fun _ _ => rfl)) pe_int) (pg_sub (pe_fld (pv 1) rfl) (pv 3) set_list))
      (pss_one (ps_ret (pe_ifExp (pt_val (pe_meth (pv 0) T.cl_Running T.m_Running_advance G_Running_advance (hr.mono (by decide)) b_Running_advance .nil pass0 (pa_cons (pv 1) pa_nil))) (pe_k rfl T.c_INCREASED) (pe_k rfl T.c_COUNTED)))))))))), ?_⟩
    obtain ⟨dm, na, ea, hmF, hna, hea⟩ := hm
    rw [nums3 hk] at hna
    have hm0 := w0.same _ _ hmF
    have hn0 := w0.same _ _ hna
    obtain ⟨dx, lg, vt, nx, mt, hp, hlg, hvt, hnx, hmt⟩ := (w0.node hi).ex
    refine ⟨_, rfl, _, _, _, _, _, rfl, hp, T.cl_Node, T.na_Node_term, lk_Node_term _, _, rfl, _, _, _, _, _, rfl, hm0, T.cl_Message, T.na_Message_term, lk_Message_term _, _, _, rfl, rfl, _, rfl, ?_⟩
    show if decide ((((u.nd i).term : Nat) : Int) < ((x.term : Nat) : Int)) = true then _ else _
    unfold repU at k
    by_cases c1 : (u.nd i).term < x.term
    · rw [decide_eq_true (show (((u.nd i).term : Nat) : Int) < ((x.term : Nat) : Int) by omega)]
      rw [if_pos c1] at k
      refine iteT ⟨_, rfl, _, _, _, rfl, hp, no_Node_adopt _, _, rfl, _, _, _, _, _, rfl, hm0, T.cl_Message, T.na_Message_term, lk_Message_term _, F, X, u, pr, pn, i, x.term, rfl, w0, hi, fun H1 F1 w1 g1 => ?_⟩
      exact k _ _ w1 g1
    · rw [decide_eq_false (show ¬ (((u.nd i).term : Nat) : Int) < ((x.term : Nat) : Int) by omega)]
      rw [if_neg c1] at k
      refine iteF ⟨_, rfl, _, _, _, _, _, rfl, hp, T.cl_Node, T.na_Node_role, lk_Node_role _, rfl, _, rfl, ?_⟩
      show if (!decide (vn (u.nd i).role = vn 2)) = true then _ else _
      rw [dec_vn]
      by_cases c2 : (u.nd i).role = 2
      · rw [decide_eq_true c2]
        refine iteF ⟨_, rfl, _, _, _, _, _, rfl, hm0, T.cl_Message, T.na_Message_term, lk_Message_term _, _, rfl, _, _, _, _, _, rfl, hp, T.cl_Node, T.na_Node_term, lk_Node_term _, rfl, _, rfl, ?_⟩
        show if (!decide (vn x.term = vn (u.nd i).term)) = true then _ else _
        rw [dec_vn]
        by_cases c3 : x.term = (u.nd i).term
        · rw [decide_eq_true c3]
          rw [if_neg (by rintro (z | z); exact z c2; exact z c3)] at k
          obtain ⟨ln, lh, l1⟩ := hlead c2
          refine iteF ⟨_, rfl, _, _, _, _, _, rfl, hm0, T.cl_Message, T.na_Message_sender, lk_Message_sender _, ?_⟩
          refine ⟨_, rfl, _, _, _, _, _, rfl, hm0, T.cl_Message, T.na_Message_numbers, lk_Message_numbers _, na, [vn (Ag12.bit x.yes), vn x.a], 0, vn (Ag12.bit x.yes), rfl, rfl, SqL.of hn0, rfl, rfl, _, rfl, ?_⟩
          show if decide (vn (Ag12.bit x.yes) = vn 0) = true then _ else _
          rw [dec_vn]
          have emN : V.int (if (((u.nd i).next.getD x.from_ 1 : Nat) : Int) - 1 > 1 then (((u.nd i).next.getD x.from_ 1 : Nat) : Int) - 1 else 1) = vn (max 1 ((u.nd i).next.getD x.from_ 1 - 1)) := by
            unfold vn
            congr 1
            split <;> omega
          have emM : V.int (if ((x.a : Nat) : Int) > (((u.nd i).has.getD x.from_ 0 : Nat) : Int) then ((x.a : Nat) : Int) else (((u.nd i).has.getD x.from_ 0 : Nat) : Int)) = vn (max ((u.nd i).has.getD x.from_ 0) x.a) := by
            unfold vn
            congr 1
            split <;> omega
          cases c4 : x.yes with
          | false =>
            rw [if_pos c4] at k
            refine iteT ?_
            refine ⟨_, rfl, _, _, _, _, _, rfl, hp, T.cl_Node, T.na_Node_nexts, lk_Node_nexts _, _, rfl, nx, nl (u.nd i).next, ((x.from_ : Nat) : Int), vn ((u.nd i).next.getD x.from_ 1), rfl, rfl, SqL.of hnx, nl_at (by omega), _, _, rfl, rfl, _, _, rfl, ?_⟩
            refine ⟨_, rfl, _, _, _, _, _, rfl, hp, T.cl_Node, T.na_Node_nexts, lk_Node_nexts _, _, rfl, nx, nl (u.nd i).next, ((x.from_ : Nat) : Int), x.from_, rfl, rfl, hnx, ix_nat (by rw [nl_len]; omega), ?_⟩
            rw [emN, nl_set]
            exact w0.putNx hi hp _ _ fun H1 w1 g1 => k _ _ w1 g1
          | true =>
            rw [if_neg (by rw [c4]; exact fun z => nomatch z)] at k
            refine iteF ?_
            refine ⟨_, rfl, _, _, _, _, _, rfl, hp, T.cl_Node, T.na_Node_matches, lk_Node_matches _, _, rfl, mt, nl (u.nd i).has, ((x.from_ : Nat) : Int), vn ((u.nd i).has.getD x.from_ 0), rfl, rfl, SqL.of hmt, nl_at (by omega), ?_⟩
            refine ⟨_, rfl, _, _, _, _, _, rfl, hm0, T.cl_Message, T.na_Message_numbers, lk_Message_numbers _, na, [vn (Ag12.bit x.yes), vn x.a], 1, vn x.a, rfl, rfl, SqL.of hn0, rfl, _, _, rfl, ?_⟩
            refine ⟨_, rfl, _, _, _, _, _, rfl, hp, T.cl_Node, T.na_Node_matches, lk_Node_matches _, _, rfl, mt, nl (u.nd i).has, ((x.from_ : Nat) : Int), x.from_, rfl, rfl, hmt, ix_nat (by rw [nl_len]; omega), ?_⟩
            rw [emM, nl_set]
            refine w0.putMt hi hp _ _ fun H1 w1 g1 => ?_
            obtain ⟨dx, lg, vt, nx, mt, hp, hlg, hvt, hnx, hmt⟩ := (w1.node_set hi).ex
            have hp' := hp
            rw [show (nrec i u.z { u.nd i with has := (u.nd i).has.set x.from_ (max ((u.nd i).has.getD x.from_ 0) x.a) } lg vt nx mt) = nrec i (u.set i { u.nd i with has := (u.nd i).has.set x.from_ (max ((u.nd i).has.getD x.from_ 0) x.a) }).z ((u.set i { u.nd i with has := (u.nd i).has.set x.from_ (max ((u.nd i).has.getD x.from_ 0) x.a) }).nd i) lg vt nx mt by rw [U.set_nd]; rfl] at hp'
            have eM : ((u.nd i).has.set x.from_ (max ((u.nd i).has.getD x.from_ 0) x.a)).getD x.from_ 0 = max ((u.nd i).has.getD x.from_ 0) x.a := by
              rw [List.getD_eq_getElem?_getD, List.getElem?_set_self (by omega)]
              rfl
            have hat := nl_at (l := (u.nd i).has.set x.from_ (max ((u.nd i).has.getD x.from_ 0) x.a)) (j := x.from_) (d := 0) (by rw [List.length_set]; omega)
            rw [eM] at hat
            refine ⟨_, rfl, _, _, _, _, _, rfl, hp, T.cl_Node, T.na_Node_matches, lk_Node_matches _, _, rfl, mt, nl ((u.nd i).has.set x.from_ (max ((u.nd i).has.getD x.from_ 0) x.a)), ((x.from_ : Nat) : Int), vn (max ((u.nd i).has.getD x.from_ 0) x.a), rfl, rfl, SqL.of hmt, hat, _, _, rfl, rfl, ?_⟩
            refine ⟨_, rfl, _, _, _, _, _, rfl, hp, T.cl_Node, T.na_Node_nexts, lk_Node_nexts _, _, rfl, nx, nl (u.nd i).next, ((x.from_ : Nat) : Int), x.from_, rfl, rfl, hnx, ix_nat (by rw [nl_len]; omega), ?_⟩
            show (_ : Hp → Prop) (upd H1 nx (.lst ((nl (u.nd i).next).set x.from_ (vn (max ((u.nd i).has.getD x.from_ 0) x.a + 1)))))
            rw [nl_set]
            refine w1.putNx hi hp' _ _ fun H2 w2 g2 => ?_
            rw [U.set_set, U.set_nd] at w2
            change Wd A H2 F X (u.set i (repN (u.nd i) x)) pr pn at w2
            have en : (u.set i (repN (u.nd i) x)).nd i = repN (u.nd i) x := U.set_nd _ _ _
            obtain ⟨dR, nodes, msgs, com, led, hr2⟩ := w2.run
            have hrp2 := hr2.at_
            refine ⟨_, rfl, _, _, _, rfl, hrp2, no_Running_advance _, _, rfl, F, X, _, pr, pn, i, rfl, w2, hi, ?_, ?_, ?_, ?_, fun H3 F3 w3 g3 => ⟨_, rfl, ?_⟩⟩
            · rw [en]; show (List.set _ _ _).length = 5; rw [List.length_set]; exact lh
            · rw [en]; show (u.nd i).row.length ≤ _; omega
            · rw [en]; exact hd
            · rw [en]; exact htold
            rw [en]
            have kk := k _ _ w3 (g1.trans (g2.trans g3))
            show if (!decide (farz u.z i (repN (u.nd i) x) = (u.nd i).done)) = true then _ else _
            by_cases c6 : farz u.z i (repN (u.nd i) x) = (u.nd i).done
            · rw [if_pos c6] at kk
              rw [decide_eq_true c6]
              exact iteF kk
            · rw [if_neg c6] at kk
              rw [decide_eq_false c6]
              exact iteT kk
        · rw [decide_eq_false c3]
          rw [if_pos (.inr c3)] at k
          exact iteT (k _ _ w0 (Gd.refl ..))
      · rw [decide_eq_false c2, Bool.not_false, if_pos rfl]
        rw [if_pos (.inl c2)] at k
        exact k _ _ w0 (Gd.refl ..)
end
end Wk
end

section
set_option Elab.async false
set_option linter.all false
set_option maxRecDepth 100000
set_option maxHeartbeats 4000000
namespace Wk
open PySem PySem.Spec PyProof.Rows L2
/-! ### receive -/
def handU (u : U) (x : Lett) : U × Nat := if (u.nd x.to_).up = false then (u, 0) else match x.kind with
  | 0 => (reqU u x.to_ x, 1)
  | 1 => votU u x.to_ x
  | 2 => (appU u x.to_ x, 1)
  | _ => repU u x.to_ x
/-- what is known of a node that gets a message -/
structure Fit (u : U) (i : Nat) : Prop where
  row : (u.nd i).row.length ≤ 800
  done : (u.nd i).done ≤ 1000
  told : (u.nd i).done ≤ u.told.length
  votes : (u.nd i).votes.length ≤ 1000
  ls : u.ls.length ≤ 100
  led : u.led.length ≤ 1000
  lead : (u.nd i).role = 2 → (u.nd i).next.length = 5 ∧ (u.nd i).has.length = 5 ∧ ∀ j, j < 5 → 1 ≤ (u.nd i).next.getD j 1 ∧ (u.nd i).next.getD j 1 ≤ (u.nd i).row.length + 1
theorem five {f : Nat → Addr} {i : Nat} (h : i < 5) : atI ([f 0, f 1, f 2, f 3, f 4].map V.ref) ((i : Nat) : Int) = some (.ref (f i)) := by
  have : i = 0 ∨ i = 1 ∨ i = 2 ∨ i = 3 ∨ i = 4 := by omega
  rcases this with rfl | rfl | rfl | rfl | rfl <;> rfl
section
variable {P : Program} {w : World} {K : PySem.W.Frag} {mg : Str → Option Value} {base : Heap} {A : Ad}
def sdReceive (A : Ad) : Sp := fun vs H Q _ => ∃ F X u pr pn p x, vs = [.ref pr, .ref p] ∧ Wd A H F X u pr pn ∧ MsgAt A F p x ∧ x.to_ < 5 ∧ x.from_ < 5 ∧ x.kind ≤ 3 ∧ x.entries.length ≤ 1000 ∧ Fit u x.to_ ∧
  ∀ H' F', Wd A H' F' X (handU u x).1 pr pn → Gd X H F H' F' → Q (vn (handU u x).2) H'
theorem sc_Running_receive : FnScope n_Running_receive p_Running_receive (defScope s_Running_receive) := ⟨rfl, rfl, rfl, by decide +kernel, rfl, by decide +kernel, by decide +kernel⟩
theorem ok_Running_receive (T : Txt K mg A) : Keeps P w K mg base CX0 9 A.f_Running_receive p_Running_receive (sdReceive A) := by
  obtain ⟨fd_Running_receive_append, G_Running_receive_append, b_Running_receive_append⟩ := ok_Running_receive_append (P := P) (w := w) (base := base) T
  obtain ⟨fd_Running_receive_reply, G_Running_receive_reply, b_Running_receive_reply⟩ := ok_Running_receive_reply (P := P) (w := w) (base := base) T
  obtain ⟨fd_Running_receive_vote, G_Running_receive_vote, b_Running_receive_vote⟩ := ok_Running_receive_vote (P := P) (w := w) (base := base) T
  obtain ⟨fd_Running_receive_request, G_Running_receive_request, b_Running_receive_request⟩ := ok_Running_receive_request (P := P) (w := w) (base := base) T
  obtain ⟨fd, F⟩ := T.F_Running_receive
  refine ⟨fd, F.ok sc_Running_receive (fun vs H Q E h => ?_) (fun cdv Ar outer s H vs Q E hr h => ?_), F.binds fun _ _ _ _ _ _ us hl => match us, hl with | [_, _], _ => rfl⟩
  · obtain ⟨F, X, u, pr, pn, p, x, rfl, _⟩ := h
    rfl
  · obtain ⟨F, X, u, pr, pn, p, x, rfl, w0, hm, h5, hf5, hk3, hel, fit, k⟩ := h
    refine ⟨_, (pss_cons (ps_set (i := 2) sc_Running_receive.nd rfl (Or.inl rfl) (pe_ix ix_list (pe_fld (pv 0) rfl) (pe_fld (pv 1) rfl) (fun _ _ => rfl)))
      (pss_cons (ps_if (pt_not (pt_val (pe_fld (pv 2) rfl))) (pss_one (ps_ret (pe_k rfl T.c_IGNORED))) pss_nil)
      (pss_cons (ps_if (pt_cmpR op_eq (pe_fld (pv 1) rfl) (pe_k rfl T.c_REQUEST) (nomark _)) (pss_one (ps_ret (pe_meth (pv 0) T.cl_Running T.m_Running_receive_request G_Running_receive_request (hr.mono (by decide)) b_Running_receive_request .nil pass0 (pa_cons (pv 2) (pa_cons (pv 1) pa_nil))))) pss_nil)
      (pss_cons (ps_if (pt_cmpR op_eq (pe_fld (pv 1) rfl) (pe_k rfl T.c_VOTE) (nomark _)) (pss_one (ps_ret (pe_meth (pv 0) T.cl_Running T.m_Running_receive_vote G_Running_receive_vote (hr.mono (by decide)) b_Running_receive_vote .nil pass0 (pa_cons (pv 2) (pa_cons (pv 1) pa_nil))))) pss_nil)
      (pss_one (ps_ret (pe_ifExp (pt_cmpR op_eq (pe_fld (pv 1) rfl) (pe_k rfl T.c_APPEND) (nomark _)) (pe_meth (pv 0) T.cl_Running T.m_Running_receive_append G_Running_receive_append (hr.mono (by decide)) b_Running_receive_append .nil pass0 (pa_cons (pv 2) (pa_cons (pv 1) pa_nil))) (pe_meth (pv 0) T.cl_Running T.m_Running_receive_reply G_Running_receive_reply (hr.mono (by decide)) b_Running_receive_reply .nil pass0 (pa_cons (pv 2) (pa_cons (pv 1) pa_nil)))))))))), ?_⟩
    have hm' := hm
    obtain ⟨dm, na, ea, hmF, hna, hea⟩ := hm'
    have hm0 := w0.same _ _ hmF
    obtain ⟨dR, nodes, msgs, com, led, hr⟩ := w0.run
    have hrp := hr.at_
    have hnd := w0.same _ _ hr.nodes
    obtain ⟨dx, lg, vt, nx, mt, hp, _⟩ := (w0.node h5).ex
    refine ⟨_, rfl, _, _, _, _, _, rfl, hrp, T.cl_Running, T.na_Running_nodes, lk_Running_nodes _, _, rfl, _, _, _, _, _, rfl, hm0, T.cl_Message, T.na_Message_receiver, lk_Message_receiver _, nodes, _, ((x.to_ : Nat) : Int), _, rfl, rfl, SqL.of hnd, five h5, ?_⟩
    refine ⟨_, rfl, _, _, _, _, _, rfl, hp, T.cl_Node, T.na_Node_is_running, lk_Node_is_running _, _, rfl, ?_⟩
    unfold handU at k
    show if (!(u.nd x.to_).up) = true then _ else _
    cases cu : (u.nd x.to_).up with
    | false =>
      rw [if_pos cu] at k
      rw [Bool.not_false, if_pos rfl]
      exact k _ _ w0 (Gd.refl ..)
    | true =>
      rw [if_neg (by rw [cu]; exact fun z => nomatch z)] at k
      refine iteF ⟨_, rfl, _, _, _, _, _, rfl, hm0, T.cl_Message, T.na_Message_kind, lk_Message_kind _, rfl, _, rfl, ?_⟩
      show if decide (vn x.kind = vn 0) = true then _ else _
      rw [dec_vn]
      by_cases c0 : x.kind = 0
      · rw [decide_eq_true c0, if_pos rfl]
        rw [c0] at k
        exact ⟨_, rfl, _, _, _, rfl, hrp, no_Running_receive_request _, _, rfl, _, rfl, F, X, u, pr, pn, x.to_, p, x, rfl, w0, h5, hm, c0, fit.ls, k⟩
      rw [decide_eq_false c0]
      refine iteF ⟨_, rfl, _, _, _, _, _, rfl, hm0, T.cl_Message, T.na_Message_kind, lk_Message_kind _, rfl, _, rfl, ?_⟩
      show if decide (vn x.kind = vn 1) = true then _ else _
      rw [dec_vn]
      by_cases c1 : x.kind = 1
      · rw [decide_eq_true c1, if_pos rfl]
        rw [c1] at k
        exact ⟨_, rfl, _, _, _, rfl, hrp, no_Running_receive_vote _, _, rfl, _, rfl, F, X, u, pr, pn, x.to_, p, x, rfl, w0, h5, hm, c1, fit.row, fit.done, fit.told, fit.ls, fit.led, fit.votes, k⟩
      rw [decide_eq_false c1]
      refine iteF ⟨_, rfl, _, _, _, _, _, rfl, hm0, T.cl_Message, T.na_Message_kind, lk_Message_kind _, rfl, _, rfl, ?_⟩
      show if decide (vn x.kind = vn 2) = true then _ else _
      rw [dec_vn]
      by_cases c2 : x.kind = 2
      · rw [decide_eq_true c2, if_pos rfl]
        rw [c2] at k
        exact ⟨_, rfl, _, _, _, rfl, hrp, no_Running_receive_append _, _, rfl, _, rfl, F, X, u, pr, pn, x.to_, p, x, rfl, w0, h5, hm, c2, fit.row, hel, fit.ls, k⟩
      · have c3 : x.kind = 3 := by omega
        rw [decide_eq_false c2, if_neg Bool.false_ne_true]
        rw [c3] at k
        exact ⟨_, rfl, _, _, _, rfl, hrp, no_Running_receive_reply _, _, rfl, _, rfl, F, X, u, pr, pn, x.to_, p, x, rfl, w0, h5, hm, c3, hf5, fit.row, fit.done, fit.told, fun z => ⟨(fit.lead z).1, (fit.lead z).2.1, ((fit.lead z).2.2 _ hf5).1⟩, k⟩
end
end Wk
end

section
set_option Elab.async false
set_option linter.all false
set_option maxRecDepth 100000
set_option maxHeartbeats 4000000
namespace Wk
open PySem PySem.Spec PyProof.Rows L2
/-! ### Running.__init__ -/
/-- j new nodes: a i 0 the node, a i 1 .. a i 4 its lists -/
structure Nx (A : Ad) (H H' : Hp) (D : Addr) (j z : Nat) (a : Nat → Nat → Addr) (dn : Nat → Addr) : Prop where
  old : Same H H'
  lst : H' D = some (.lst ((List.range j).map fun i => V.ref (a i 0)))
  nd : ∀ i, i < j → H' (a i 0) = some (.ins A.c_Node (dn i) (nF (nrec i z fresh5 (a i 1) (a i 2) (a i 3) (a i 4))))
  ls : ∀ i c, i < j → 1 ≤ c → c < 5 → H' (a i c) = some (.lst [])
  new : ∀ i c, i < j → c < 5 → H (a i c) = none ∧ a i c ≠ D
  inj : ∀ i c i' c', i < j → c < 5 → i' < j → c' < 5 → a i c = a i' c' → i = i' ∧ c = c'
def pick5 (x0 x1 x2 x3 x4 : Addr) (c : Nat) : Addr := if c = 0 then x0 else if c = 1 then x1 else if c = 2 then x2 else if c = 3 then x3 else x4
theorem Nx.snoc {A : Ad} {H H' H1 H2 : Hp} {D : Addr} {j z : Nat} {a : Nat → Nat → Addr} {dn : Nat → Addr} (h : Nx A H H' D j z a dn) (hD : H D = none) {x dx l v n m : Addr} (s1 : ∀ b o, H' b = some o → b ≠ x ∧ H1 b = some o) (x1 : ∃ o, H1 x = some o) (lf : Left H1 H2 v n m) (l0 : H1 l = none) (hl : H2 l = some (.lst []))
    (lv : l ≠ v) (ln : l ≠ n) (lm : l ≠ m) (hx : H2 x = some (.ins A.c_Node dx (nF (nrec j z fresh5 l v n m)))) (kp : ∀ b o, H1 b = some o → b ≠ x → H2 b = some o) :
    Nx A H (upd H2 D (.lst ((List.range j).map (fun i => V.ref (a i 0)) ++ [V.ref x]))) D (j + 1) z (fun i c => if i = j then pick5 x l v n m c else a i c) (fun i => if i = j then dx else dn i) := by
  have s2 : ∀ b o, H' b = some o → H2 b = some o := fun b o e => kp b o (s1 b o e).2 (s1 b o e).1
  obtain ⟨ox, hx1⟩ := x1
  have nH : ∀ b, H1 b = none → H' b = none := fun b e => by
    cases q : H' b with
    | none => rfl
    | some o => rw [(s1 b o q).2] at e; cases e
  have xH : H' x = none := by
    cases q : H' x with
    | none => rfl
    | some o => exact absurd rfl (s1 x o q).1
  have Dx : D ≠ x := fun e => by rw [← e, h.lst] at xH; cases xH
  have Dn : ∀ b, H1 b = none → D ≠ b := fun b e c => by rw [← c, (s1 D _ h.lst).2] at e; cases e
  have xn : ∀ b, H1 b = none → x ≠ b := fun b e c => by rw [← c, hx1] at e; cases e
  have newH : ∀ b, H' b = none → H b = none := fun b e => h.old.free e
  have oldN : ∀ i c, i < j → c < 5 → ∃ o, H' (a i c) = some o := fun i c hi hc => by
    by_cases e : c = 0
    · subst e
      exact ⟨_, h.nd i hi⟩
    · exact ⟨_, h.ls i c hi (by omega) hc⟩
  have pk : ∀ c, c < 5 → H' (pick5 x l v n m c) = none ∧ pick5 x l v n m c ≠ D := fun c hc => by
    have : c = 0 ∨ c = 1 ∨ c = 2 ∨ c = 3 ∨ c = 4 := by omega
    rcases this with rfl | rfl | rfl | rfl | rfl
    · exact ⟨xH, Dx.symm⟩
    · exact ⟨nH _ l0, (Dn _ l0).symm⟩
    · exact ⟨nH _ lf.na, (Dn _ lf.na).symm⟩
    · exact ⟨nH _ lf.nb, (Dn _ lf.nb).symm⟩
    · exact ⟨nH _ lf.nc, (Dn _ lf.nc).symm⟩
  have pinj : ∀ c c', c < 5 → c' < 5 → pick5 x l v n m c = pick5 x l v n m c' → c = c' := fun c c' hc hc' e => by
    have h1 : c = 0 ∨ c = 1 ∨ c = 2 ∨ c = 3 ∨ c = 4 := by omega
    have h2 : c' = 0 ∨ c' = 1 ∨ c' = 2 ∨ c' = 3 ∨ c' = 4 := by omega
    have a1 := xn _ l0
    have a2 := xn _ lf.na
    have a3 := xn _ lf.nb
    have a4 := xn _ lf.nc
    rcases h1 with rfl | rfl | rfl | rfl | rfl <;> rcases h2 with rfl | rfl | rfl | rfl | rfl <;> first | rfl | (exfalso; first | exact a1 e | exact a2 e | exact a3 e | exact a4 e | exact a1 e.symm | exact a2 e.symm | exact a3 e.symm | exact a4 e.symm | exact lv e | exact ln e | exact lm e | exact lv e.symm | exact ln e.symm | exact lm e.symm | exact lf.ab e | exact lf.ac e | exact lf.bc e | exact lf.ab e.symm | exact lf.ac e.symm | exact lf.bc e.symm)
  refine ⟨fun b o e => ?_, ?_, fun i hi => ?_, fun i c hi h1 h5 => ?_, fun i c hi hc => ?_, fun i c i' c' hi hc hi' hc' e => ?_⟩
  · rw [upd_ne (fun z => by rw [z, hD] at e; cases e)]
    exact s2 _ _ (h.old _ _ e)
  · rw [upd_same, List.range_succ, List.map_append]
    congr 2
    have : (List.range j).map (fun i => V.ref (a i 0)) = (List.range j).map fun i => V.ref ((fun i c => if i = j then pick5 x l v n m c else a i c) i 0) := List.map_congr_left fun i hi => by
      have := List.mem_range.mp hi
      show V.ref (a i 0) = V.ref (if i = j then _ else _)
      rw [if_neg (by omega)]
    rw [this]
    show _ ++ [V.ref x] = _ ++ [V.ref (if j = j then pick5 x l v n m 0 else a j 0)]
    rw [if_pos rfl]
    rfl
  · by_cases c : i = j
    · subst c
      rw [if_pos rfl, if_pos rfl, if_pos rfl, if_pos rfl, if_pos rfl, if_pos rfl]
      exact (upd_ne (show x ≠ D from Dx.symm)).trans hx
    · rw [if_neg c, if_neg c, if_neg c, if_neg c, if_neg c, if_neg c, upd_ne (h.new i 0 (by omega) (by omega)).2]
      exact s2 _ _ (h.nd i (by omega))
  · by_cases d : i = j
    · subst d
      rw [if_pos rfl, upd_ne (pk c h5).2]
      have : c = 1 ∨ c = 2 ∨ c = 3 ∨ c = 4 := by omega
      rcases this with rfl | rfl | rfl | rfl
      · exact hl
      · exact lf.ha
      · exact lf.hb
      · exact lf.hc
    · rw [if_neg d, upd_ne (h.new i c (by omega) h5).2]
      exact s2 _ _ (h.ls i c (by omega) h1 h5)
  · by_cases d : i = j
    · subst d
      rw [if_pos rfl]
      exact ⟨newH _ (pk c hc).1, (pk c hc).2⟩
    · rw [if_neg d]
      exact h.new i c (by omega) hc
  · skip
    by_cases d : i = j
    · by_cases d' : i' = j
      · rw [if_pos d, if_pos d'] at e
        exact ⟨d.trans d'.symm, pinj c c' hc hc' e⟩
      · rw [if_pos d, if_neg d'] at e
        obtain ⟨o, q⟩ := oldN i' c' (by omega) hc'
        rw [← e, (pk c hc).1] at q
        cases q
    · by_cases d' : i' = j
      · rw [if_neg d, if_pos d'] at e
        obtain ⟨o, q⟩ := oldN i c (by omega) hc
        rw [e, (pk c' hc').1] at q
        cases q
      · rw [if_neg d, if_neg d'] at e
        exact h.inj i c i' c' (by omega) hc (by omega) hc' e
end Wk
end

section
set_option Elab.async false
set_option linter.all false
set_option maxRecDepth 100000
set_option maxHeartbeats 4000000
namespace Wk
open PySem PySem.Spec PyProof.Rows L2
theorem node_fresh {z i : Nat} (hi : i < 5) : (ofS ⟨z, List.replicate 5 fresh5, [], [], []⟩).nd i = fresh5 := by
  show (List.replicate 5 fresh5).getD i _ = fresh5
  rw [List.getD_eq_getElem?_getD, List.getElem?_replicate, if_pos hi]
  rfl
theorem Nx.wd {A : Ad} {H H' Hf : Hp} {D : Addr} {z : Nat} {a : Nat → Nat → Addr} {dn : Nat → Addr} (h : Nx A H H' D 5 z a dn) (hD : H D = none) {p dR m cm ld : Addr} (hp : ∃ o, H p = some o) (kp : ∀ b o, H' b = some o → b ≠ p → Hf b = some o)
    (m0 : H' m = none) (c0 : H' cm = none) (d0 : H' ld = none) (mc : m ≠ cm) (md : m ≠ ld) (cd : cm ≠ ld) (hm : Hf m = some (.lst [])) (hc : Hf cm = some (.lst [])) (hd : Hf ld = some (.lst [])) (hr : Hf p = some (.ins A.c_Running dR (rF ⟨D, m, cm, ld⟩)))
    {X : Addr → Prop} (hX : ∀ b, X b → b ≠ p ∧ ∃ o, H b = some o) : ∃ F pn, Wd A Hf F X (ofS ⟨z, List.replicate 5 fresh5, [], [], []⟩) p pn := by
  classical
  let M : Addr → Prop := fun b => b = D ∨ b = cm ∨ ∃ i c, i < 5 ∧ (c = 1 ∨ c = 2) ∧ b = a i c
  let F : Hp := fun b => if M b then Hf b else none
  have F1 : ∀ b, M b → F b = Hf b := fun b hb => if_pos hb
  have F0 : ∀ b, ¬ M b → F b = none := fun b hb => if_neg hb
  obtain ⟨op, hp⟩ := hp
  have pD : p ≠ D := fun e => by rw [← e, hp] at hD; cases hD
  have pa : ∀ i c, i < 5 → c < 5 → p ≠ a i c := fun i c hi hc e => by
    have := (h.new i c hi hc).1
    rw [← e, hp] at this
    cases this
  have oldA : ∀ i c, i < 5 → c < 5 → ∃ o, H' (a i c) = some o := fun i c hi hc => by
    by_cases e : c = 0
    · subst e
      exact ⟨_, h.nd i hi⟩
    · exact ⟨_, h.ls i c hi (by omega) hc⟩
  have ne' : ∀ b x, H' x = none → (∃ o, H' b = some o) → b ≠ x := fun b x e ⟨o, q⟩ c => by rw [c, e] at q; cases q
  have pH : ∃ o, H' p = some o := ⟨_, h.old _ _ hp⟩
  have DH : ∃ o, H' D = some o := ⟨_, h.lst⟩
  have hA : ∀ i c, i < 5 → 1 ≤ c → c < 5 → Hf (a i c) = some (.lst []) := fun i c hi h1 h5 => kp _ _ (h.ls i c hi h1 h5) (pa i c hi h5).symm
  have hN : ∀ i, i < 5 → Hf (a i 0) = some (.ins A.c_Node (dn i) (nF (nrec i z fresh5 (a i 1) (a i 2) (a i 3) (a i 4)))) := fun i hi => kp _ _ (h.nd i hi) (pa i 0 hi (by omega)).symm
  let o : Slot → Addr := fun t => match t with
    | .run => p
    | .msgs => m
    | .led => ld
    | .nd i => a i 0
    | .nx i => a i 3
    | .mt i => a i 4
  have nM : ∀ t : Slot, t.ok → ¬ M (o t) := fun t ht hM => by
    cases t with
    | run =>
      rcases hM with e | e | ⟨i, c, hi, hc, e⟩
      · exact pD e
      · exact ne' _ _ c0 pH e
      · exact pa i c hi (by omega) e
    | msgs =>
      rcases hM with e | e | ⟨i, c, hi, hc, e⟩
      · exact ne' _ _ m0 DH e.symm
      · exact mc e
      · exact ne' _ _ m0 (oldA i c hi (by omega)) e.symm
    | led =>
      rcases hM with e | e | ⟨i, c, hi, hc, e⟩
      · exact ne' _ _ d0 DH e.symm
      · exact cd e.symm
      · exact ne' _ _ d0 (oldA i c hi (by omega)) e.symm
    | nd j =>
      rcases hM with e | e | ⟨i, c, hi, hc, e⟩
      · exact (h.new j 0 ht (by omega)).2 e
      · exact ne' _ _ c0 (oldA j 0 ht (by omega)) e
      · have := (h.inj _ _ _ _ ht (by omega) hi (by omega) e).2
        omega
    | nx j =>
      rcases hM with e | e | ⟨i, c, hi, hc, e⟩
      · exact (h.new j 3 ht (by omega)).2 e
      · exact ne' _ _ c0 (oldA j 3 ht (by omega)) e
      · have := (h.inj _ _ _ _ ht (by omega) hi (by omega) e).2
        omega
    | mt j =>
      rcases hM with e | e | ⟨i, c, hi, hc, e⟩
      · exact (h.new j 4 ht (by omega)).2 e
      · exact ne' _ _ c0 (oldA j 4 ht (by omega)) e
      · have := (h.inj _ _ _ _ ht (by omega) hi (by omega) e).2
        omega
  have cN : ∀ t : Slot, t.ok → (t = .run ∨ H (o t) = none) := fun t ht => by
    cases t with
    | run => exact .inl rfl
    | msgs => exact .inr (h.old.free m0)
    | led => exact .inr (h.old.free d0)
    | nd j => exact .inr (h.new j 0 ht (by omega)).1
    | nx j => exact .inr (h.new j 3 ht (by omega)).1
    | mt j => exact .inr (h.new j 4 ht (by omega)).1
  refine ⟨F, fun i => a i 0, ⟨⟨o, dR, dn, D, cm, [], [], fun i => a i 1, fun i => a i 2⟩, ?_, rfl, fun _ => rfl⟩⟩
  have ze : EntL F cm [] := ⟨[], (F1 _ (.inr (.inl rfl))).trans hc, .nil⟩
  exact {
    same := fun b u e => by
      by_cases c : M b
      · rw [F1 b c] at e
        exact e
      · rw [F0 b c] at e
        cases e
    ext := fun b hb => by
      obtain ⟨hbp, ob, q⟩ := hX b hb
      refine ⟨F0 b ?_, ob, kp b ob (h.old _ _ q) hbp⟩
      rintro (e | e | ⟨i, c, hi, hc, e⟩)
      · rw [e, hD] at q; cases q
      · rw [e, h.old.free c0] at q; cases q
      · rw [e, (h.new i c hi (by omega)).1] at q; cases q
    own := fun t ht => ⟨F0 _ (nM t ht), fun hx => by
      obtain ⟨hbp, ob, q⟩ := hX _ hx
      rcases cN t ht with e | e
      · subst e
        exact hbp rfl
      · exact absurd (e.symm.trans q) (by simp)⟩
    inj := fun t v ht hv e => by
      change o t = o v at e
      cases t with
      | run =>
        cases v with
        | run => rfl
        | msgs => exact absurd e (ne' _ _ m0 pH)
        | led => exact absurd e (ne' _ _ d0 pH)
        | nd j => exact absurd e (pa j 0 hv (by omega))
        | nx j => exact absurd e (pa j 3 hv (by omega))
        | mt j => exact absurd e (pa j 4 hv (by omega))
      | msgs =>
        cases v with
        | run => exact absurd e.symm (ne' _ _ m0 pH)
        | msgs => rfl
        | led => exact absurd e md
        | nd j => exact absurd e.symm (ne' _ _ m0 (oldA j 0 hv (by omega)))
        | nx j => exact absurd e.symm (ne' _ _ m0 (oldA j 3 hv (by omega)))
        | mt j => exact absurd e.symm (ne' _ _ m0 (oldA j 4 hv (by omega)))
      | led =>
        cases v with
        | run => exact absurd e.symm (ne' _ _ d0 pH)
        | msgs => exact absurd e.symm md
        | led => rfl
        | nd j => exact absurd e.symm (ne' _ _ d0 (oldA j 0 hv (by omega)))
        | nx j => exact absurd e.symm (ne' _ _ d0 (oldA j 3 hv (by omega)))
        | mt j => exact absurd e.symm (ne' _ _ d0 (oldA j 4 hv (by omega)))
      | nd i =>
        cases v with
        | run => exact absurd e.symm (pa i 0 ht (by omega))
        | msgs => exact absurd e (ne' _ _ m0 (oldA i 0 ht (by omega)))
        | led => exact absurd e (ne' _ _ d0 (oldA i 0 ht (by omega)))
        | nd j => rw [(h.inj _ _ _ _ ht (by omega) hv (by omega) e).1]
        | nx j => exact absurd (h.inj _ _ _ _ ht (by omega) hv (by omega) e).2 (by omega)
        | mt j => exact absurd (h.inj _ _ _ _ ht (by omega) hv (by omega) e).2 (by omega)
      | nx i =>
        cases v with
        | run => exact absurd e.symm (pa i 3 ht (by omega))
        | msgs => exact absurd e (ne' _ _ m0 (oldA i 3 ht (by omega)))
        | led => exact absurd e (ne' _ _ d0 (oldA i 3 ht (by omega)))
        | nd j => exact absurd (h.inj _ _ _ _ ht (by omega) hv (by omega) e).2 (by omega)
        | nx j => rw [(h.inj _ _ _ _ ht (by omega) hv (by omega) e).1]
        | mt j => exact absurd (h.inj _ _ _ _ ht (by omega) hv (by omega) e).2 (by omega)
      | mt i =>
        cases v with
        | run => exact absurd e.symm (pa i 4 ht (by omega))
        | msgs => exact absurd e (ne' _ _ m0 (oldA i 4 ht (by omega)))
        | led => exact absurd e (ne' _ _ d0 (oldA i 4 ht (by omega)))
        | nd j => exact absurd (h.inj _ _ _ _ ht (by omega) hv (by omega) e).2 (by omega)
        | nx j => exact absurd (h.inj _ _ _ _ ht (by omega) hv (by omega) e).2 (by omega)
        | mt j => rw [(h.inj _ _ _ _ ht (by omega) hv (by omega) e).1]
    run := hr
    nodes := by
      rw [F1 D (.inl rfl), kp _ _ h.lst pD.symm]
      rfl
    msgs := hm
    ml := .nil
    com := ze
    led := hd
    ll := .nil
    nd := fun i hi => by
      rw [node_fresh hi]
      exact hN i hi
    lg := fun i hi => by
      rw [node_fresh hi]
      exact ⟨[], (F1 _ (.inr (.inr ⟨i, 1, hi, .inl rfl, rfl⟩))).trans (hA i 1 hi (by omega) (by omega)), .nil⟩
    vt := fun i hi => by
      rw [node_fresh hi]
      exact (F1 _ (.inr (.inr ⟨i, 2, hi, .inr rfl, rfl⟩))).trans (hA i 2 hi (by omega) (by omega))
    nx := fun i hi => by
      rw [node_fresh hi]
      exact hA i 3 hi (by omega) (by omega)
    mt := fun i hi => by
      rw [node_fresh hi]
      exact hA i 4 hi (by omega) (by omega) }
section
variable {P : Program} {w : World} {K : PySem.W.Frag} {mg : Str → Option Value} {base : Heap} {A : Ad}
def spRunInit (A : Ad) : Sp := fun vs H Q _ => ∃ p dR z, vs = [.ref p, vn z] ∧ H p = some (.ins A.c_Running dR []) ∧
  ∀ H', (∀ X : Addr → Prop, (∀ b, X b → b ≠ p ∧ ∃ o, H b = some o) → ∃ F pn, Wd A H' F X (ofS ⟨z, List.replicate 5 fresh5, [], [], []⟩) p pn) → (∀ b o, H b = some o → b ≠ p → H' b = some o) → Q .non H'
theorem sc_Running_init : FnScope n_Running_init p_Running_init (defScope s_Running_init) := ⟨rfl, rfl, rfl, by decide +kernel, rfl, by decide +kernel, by decide +kernel⟩
theorem ok_Running_init (T : Txt K mg A) : Keeps P w K mg base CX0 5 A.f_Running_init p_Running_init (spRunInit A) := by
  obtain ⟨fd_Node_init, G_Node_init, b_Node_init⟩ := ok_Node_init (P := P) (w := w) (base := base) T
  obtain ⟨fd, F⟩ := T.F_Running_init
  refine ⟨fd, F.ok sc_Running_init (fun vs H Q E h => ?_) (fun cdv Ar outer s H vs Q E hr h => ?_), F.binds fun _ _ _ _ _ _ us hl => match us, hl with | [_, _], _ => rfl⟩
  · obtain ⟨p, dR, z, rfl, _⟩ := h
    rfl
  · obtain ⟨p, dR, z, rfl, hp, k⟩ := h
    refine ⟨_, (pss_cons (ps_fld (pv 0) (pe_lc (own := [("number", 2)]) rfl sc_Running_init.nd (pi_range1 (by rfl) T.b_range (pa_cons (pe_k rfl T.c_MANY) pa_nil)) (blkOk_by (own := [("number", 2)]) (N := n_Running_init) (sc := defScope s_Running_init) (by decide +kernel)) (fun _ _ _ _ _ => (pg_name (i := 2) sc_Running_init.nd rfl (Or.inl rfl))) (fun _ _ _ _ _ => pts_nil) (fun _ _ _ _ _ => (pe_make T.mk_Node G_Node_init (hr.mono (by decide)) (by rfl) T.g_Node b_Node_init .nil pass0 (pa_cons (pv 2) (pa_cons (pv 1) pa_nil))))) rfl)
      (pss_cons (ps_fld (pv 0) (pe_lst pa_nil) rfl)
      (pss_cons (ps_fld (pv 0) (pe_lst pa_nil) rfl)
      (pss_one (ps_fld (pv 0) (pe_lst pa_nil) rfl))))), ?_⟩
    refine ⟨5, rfl, by decide, by decide, fun D hD => lc_range (lo := 0) (n := 5) (fun j H' => ∃ (a : Nat → Nat → Addr) (dn : Nat → Addr), Nx A H H' D j z a dn) ?_ ?_ ?_⟩
    · exact ⟨fun _ _ => 0, fun _ => 0, same_new hD, upd_same, fun i hi => by omega, fun i c hi => by omega, fun i c hi => by omega, fun i c i' c' hi => by omega⟩
    · rintro j H' hj ⟨a, dn, h⟩
      refine ⟨rfl, _, rfl, _, rfl, ?_⟩
      intro x dx x0 dx0 xd
      have e1 : (upd (upd H' dx (.own x)) x (.ins A.c_Node dx [])) x = some (.ins A.c_Node dx []) := upd_same
      rw [Int.zero_add]
      refine ⟨x, dx, j, z, rfl, e1, fun H2 v n m l lf l0 hl lv ln lm hx kp => ⟨rfl, ?_⟩⟩
      have h2 := h.snoc hD (H1 := upd (upd H' dx (.own x)) x (.ins A.c_Node dx [])) (fun b o e => ⟨fun z => (by rw [z, x0] at e; cases e), by
        rw [upd_ne (fun z => by rw [z, x0] at e; cases e), upd_ne (fun z => by rw [z, dx0] at e; cases e)]
        exact e⟩) ⟨_, e1⟩ lf l0 hl lv ln lm hx kp
      have hD2 : H2 D = some (.lst ((List.range j).map fun i => V.ref (a i 0))) := by
        have Dx : D ≠ x := fun z => by have := h.lst; rw [z, x0] at this; cases this
        refine kp D _ ?_ Dx
        rw [upd_ne Dx, upd_ne (fun z => by have := h.lst; rw [z, dx0] at this; cases this)]
        exact h.lst
      refine ⟨_, hD2, size_small (by rw [List.length_map, List.length_range]; omega), _, _, h2⟩
    · rintro H4 ⟨a, dn, h⟩
      have hp4 := h.old _ _ hp
      have pD : p ≠ D := ne_of_none hp hD
      refine ⟨_, rfl, _, _, _, _, rfl, hp4, T.cl_Running, T.na_Running_nodes, (by decide), ?_⟩
      refine ⟨Nat.zero_le _, fun m m0 => ?_⟩
      have pm : p ≠ m := ne_of_none upd_same m0
      refine ⟨_, rfl, _, _, _, _, rfl, (upd_ne pm).trans upd_same, T.cl_Running, T.na_Running_messages, pl (by decide), ?_⟩
      refine ⟨Nat.zero_le _, fun c c0 => ?_⟩
      have pc : p ≠ c := ne_of_none upd_same c0
      refine ⟨_, rfl, _, _, _, _, rfl, (upd_ne pc).trans upd_same, T.cl_Running, T.na_Running_committed, pl (pl (by decide)), ?_⟩
      refine ⟨Nat.zero_le _, fun d d0 => ?_⟩
      have pd : p ≠ d := ne_of_none upd_same d0
      refine ⟨_, rfl, _, _, _, _, rfl, (upd_ne pd).trans upd_same, T.cl_Running, T.na_Running_leaders, pl (pl (pl (by decide))), ?_⟩
      rw [nw_Running_nodes, nw_Running_messages, nw_Running_committed, nw_Running_leaders]
      rw [upd_ne pm.symm] at m0
      rw [upd_ne pc.symm] at c0
      have cm : c ≠ m := fun z => by rw [z, upd_same] at c0; cases c0
      rw [upd_ne cm, upd_ne pc.symm] at c0
      rw [upd_ne pd.symm] at d0
      have dc : d ≠ c := fun z => by rw [z, upd_same] at d0; cases d0
      rw [upd_ne dc, upd_ne pd.symm] at d0
      have dm : d ≠ m := fun z => by rw [z, upd_same] at d0; cases d0
      rw [upd_ne dm, upd_ne pd.symm] at d0
      have kp : ∀ b o, H4 b = some o → b ≠ p → (upd (upd (upd (upd (upd (upd (upd H4 p (.ins A.c_Running dR [("nodes", .ref D)])) m (.lst [])) p (.ins A.c_Running dR [("nodes", .ref D), ("messages", .ref m)])) c (.lst [])) p (.ins A.c_Running dR [("nodes", .ref D), ("messages", .ref m), ("committed", .ref c)])) d (.lst [])) p (.ins A.c_Running dR [("nodes", .ref D), ("messages", .ref m), ("committed", .ref c), ("leaders", .ref d)])) b = some o := fun b o e hb => by
        rw [upd_ne hb, upd_ne (ne_of_none e d0), upd_ne hb, upd_ne (ne_of_none e c0), upd_ne hb, upd_ne (ne_of_none e m0), upd_ne hb]
        exact e
      refine k _ (fun X hX => h.wd hD (m := m) (cm := c) (ld := d) (dR := dR) ⟨_, hp⟩ kp m0 c0 d0 cm.symm dm.symm dc.symm ?_ ?_ ?_ ?_ hX) fun b o e hb => kp b o (h.old _ _ e) hb
      · rw [upd_ne pm.symm, upd_ne dm.symm, upd_ne pm.symm, upd_ne cm.symm, upd_ne pm.symm, upd_same]
      · rw [upd_ne pc.symm, upd_ne dc.symm, upd_ne pc.symm, upd_same]
      · rw [upd_ne pd.symm, upd_same]
      · exact upd_same
end
end Wk
end

section
set_option Elab.async false
set_option linter.all false
set_option maxRecDepth 100000
set_option maxHeartbeats 4000000
namespace Wk
open PySem PySem.Spec PyProof.Rows L2
/-! ### the world's steps are the specification's -/
theorem members_eq (s : Ag12.State) (n : Ag12.Node) : Ag12.members s n = mem s.first n := rfl
theorem far_eq (s : Ag12.State) (i : Nat) (n : Ag12.Node) : Ag12.far s i n = farz s.first i n := rfl
theorem beats_eq (s : Ag12.State) (i : Nat) (n : Ag12.Node) : Ag12.beats s i n = (ofS s).beats i n := rfl
theorem ofS_put {s : Ag12.State} {i : Nat} (e : Ent) (h : i < s.nodes.length) : ofS (Ag12.put s i e) = (ofS s).put i e := by
  unfold Ag12.put U.put U.adv
  rw [U.set_nd]
  dsimp only
  rw [ofS_setNode _ h, U.set_setN]
  rfl
theorem ofS_lead {s : Ag12.State} {i : Nat} (n : Ag12.Node) (h : i < s.nodes.length) : ofS (Ag12.lead s i n) = leadU (ofS s) i n := by
  unfold Ag12.lead leadU
  dsimp only
  rw [ofS_send, ofS_setNode _ (by exact h)]
  have e1 : (leadV (ofS s) i n).put i ⟨n.term, 2, 0⟩ = U.setN { ofS s with led := s.led ++ [(n.term, i)] } i ((leadV (ofS s) i n).put i ⟨n.term, 2, 0⟩ |>.nd i) := by
    rw [U.put_nd]
    unfold U.put U.adv
    rw [U.set_setN, U.set_nd]
    unfold leadV U.setN U.set
    dsimp only
    rw [Rf.setn_setn]
    rfl
  rw [e1, U.setN_nd, U.put_nd, leadV_nd]
  rfl
theorem leadU_set (u : U) (i : Nat) (m n : Ag12.Node) : leadU (u.set i m) i n = leadU u i n := by
  have e : leadV (u.set i m) i n = leadV u i n := by
    unfold leadV
    rw [U.set_set]
    rfl
  unfold leadU
  rw [e]
theorem ofS_stand {s : Ag12.State} {i : Nat} (h : i < s.nodes.length) (ht : (Ag12.node s i).done ≤ s.told.length) : ofS (Ag12.stand s i) = electU (ofS s) i := by
  show ofS (if Ag12.most (mem s.first (electN (Ag12.node s i) i)) [i] = true then Ag12.lead s i (electN (Ag12.node s i) i) else Ag12.send (Ag12.setNode s i (electN (Ag12.node s i) i)) (reqL s.first (electN (Ag12.node s i) i) i)) = (if Ag12.most (mem s.first (electN (Ag12.node s i) i)) [i] = true then leadU ((ofS s).set i (electN (Ag12.node s i) i)) i (electN (Ag12.node s i) i) else ((ofS s).set i (electN (Ag12.node s i) i)).send (reqL s.first (electN (Ag12.node s i) i) i))
  rw [leadU_set]
  by_cases c : Ag12.most (mem s.first (electN (Ag12.node s i) i)) [i] = true
  · rw [if_pos c, if_pos c, ofS_lead _ h]
  · rw [if_neg c, if_neg c, ofS_send, ofS_setNode _ h, U.setN_eq (by exact ht)]
theorem hear_done (n : Ag12.Node) (t : Nat) : (Ag12.hear n t).done = n.done := by
  unfold Ag12.hear
  split <;> rfl
theorem hear_row (n : Ag12.Node) (t : Nat) : (Ag12.hear n t).row = n.row := by
  unfold Ag12.hear
  split <;> rfl
theorem hear_same {n : Ag12.Node} {t : Nat} (h : ¬ n.term < t) : Ag12.hear n t = n := by
  unfold Ag12.hear
  rw [if_neg h]
/-- hand: the new state and the number answered -/
theorem hand_eq {s : Ag12.State} {x : Lett} (h : x.to_ < s.nodes.length) (ht : (Ag12.node s x.to_).done ≤ s.told.length) (hk : x.kind ≤ 3) : ofS (Ag12.hand s x).1 = (handU (ofS s) x).1 ∧ (Ag12.hand s x).2 = [((handU (ofS s) x).2 : Int)] := by
  unfold Ag12.hand handU
  by_cases cu : (Ag12.node s x.to_).up = false
  · rw [if_pos cu, if_pos (show ((ofS s).nd x.to_).up = false from cu)]
    exact ⟨rfl, rfl⟩
  rw [if_neg cu, if_neg (show ¬ ((ofS s).nd x.to_).up = false from cu)]
  have hd := hear_done (Ag12.node s x.to_) x.term
  have : x.kind = 0 ∨ x.kind = 1 ∨ x.kind = 2 ∨ x.kind = 3 := by omega
  rcases this with e | e | e | e <;> rw [e]
  · show ofS (Ag12.send (Ag12.setNode s x.to_ (reqN (Ag12.node s x.to_) x)) [⟨1, x.from_, x.to_, (Ag12.hear (Ag12.node s x.to_) x.term).term, 0, 0, wouldB (Ag12.hear (Ag12.node s x.to_) x.term) x.term x.from_ x.a x.b, [], 0⟩]) = reqU (ofS s) x.to_ x ∧ ([1] : List Int) = [((1 : Nat) : Int)]
    refine ⟨?_, rfl⟩
    unfold reqU reqN
    rw [ofS_send, ofS_setNode _ h, U.setN_eq (by
      split
      · exact (show (Ag12.hear (Ag12.node s x.to_) x.term).done ≤ s.told.length by rw [hd]; exact ht)
      · rw [hd]; exact ht)]
    rfl
  · show ofS (if (Ag12.node s x.to_).term < x.term then (Ag12.setNode s x.to_ (Ag12.hear (Ag12.node s x.to_) x.term), ([5] : List Int)) else if (Ag12.hear (Ag12.node s x.to_) x.term).role ≠ 1 ∨ (x.term ≠ (Ag12.hear (Ag12.node s x.to_) x.term).term ∨ (x.yes = false ∨ (Ag12.hear (Ag12.node s x.to_) x.term).votes.contains x.from_ = true)) then (s, [0]) else
      if Ag12.most (mem s.first (votN (Ag12.hear (Ag12.node s x.to_) x.term) x)) ((Ag12.hear (Ag12.node s x.to_) x.term).votes ++ [x.from_]) = true then (Ag12.lead s x.to_ (votN (Ag12.hear (Ag12.node s x.to_) x.term) x), [3]) else (Ag12.setNode s x.to_ (votN (Ag12.hear (Ag12.node s x.to_) x.term) x), [2])).1 = (votU (ofS s) x.to_ x).1 ∧
      (if (Ag12.node s x.to_).term < x.term then (Ag12.setNode s x.to_ (Ag12.hear (Ag12.node s x.to_) x.term), ([5] : List Int)) else if (Ag12.hear (Ag12.node s x.to_) x.term).role ≠ 1 ∨ (x.term ≠ (Ag12.hear (Ag12.node s x.to_) x.term).term ∨ (x.yes = false ∨ (Ag12.hear (Ag12.node s x.to_) x.term).votes.contains x.from_ = true)) then (s, [0]) else
      if Ag12.most (mem s.first (votN (Ag12.hear (Ag12.node s x.to_) x.term) x)) ((Ag12.hear (Ag12.node s x.to_) x.term).votes ++ [x.from_]) = true then (Ag12.lead s x.to_ (votN (Ag12.hear (Ag12.node s x.to_) x.term) x), [3]) else (Ag12.setNode s x.to_ (votN (Ag12.hear (Ag12.node s x.to_) x.term) x), [2])).2 = [((votU (ofS s) x.to_ x).2 : Int)]
    unfold votU
    by_cases c1 : (Ag12.node s x.to_).term < x.term
    · rw [if_pos c1, if_pos (show ((ofS s).nd x.to_).term < x.term from c1)]
      refine ⟨?_, rfl⟩
      rw [ofS_setNode _ h, U.setN_eq (by rw [hd]; exact ht)]
      rfl
    · rw [if_neg c1, if_neg (show ¬ ((ofS s).nd x.to_).term < x.term from c1), hear_same c1]
      by_cases c2 : (Ag12.node s x.to_).role ≠ 1 ∨ (x.term ≠ (Ag12.node s x.to_).term ∨ (x.yes = false ∨ (Ag12.node s x.to_).votes.contains x.from_ = true))
      · rw [if_pos c2, if_pos (show ((ofS s).nd x.to_).role ≠ 1 ∨ (x.term ≠ ((ofS s).nd x.to_).term ∨ (x.yes = false ∨ ((ofS s).nd x.to_).votes.contains x.from_ = true)) from c2)]
        exact ⟨rfl, rfl⟩
      · rw [if_neg c2, if_neg (show ¬ (((ofS s).nd x.to_).role ≠ 1 ∨ (x.term ≠ ((ofS s).nd x.to_).term ∨ (x.yes = false ∨ ((ofS s).nd x.to_).votes.contains x.from_ = true))) from c2)]
        by_cases c3 : Ag12.most (mem s.first (votN (Ag12.node s x.to_) x)) ((Ag12.node s x.to_).votes ++ [x.from_]) = true
        · rw [if_pos c3, if_pos (show Ag12.most (mem (ofS s).z (votN ((ofS s).nd x.to_) x)) (((ofS s).nd x.to_).votes ++ [x.from_]) = true from c3)]
          refine ⟨?_, rfl⟩
          rw [leadU_set, ofS_lead _ h]
          rfl
        · rw [if_neg c3, if_neg (show ¬ Ag12.most (mem (ofS s).z (votN ((ofS s).nd x.to_) x)) (((ofS s).nd x.to_).votes ++ [x.from_]) = true from c3)]
          refine ⟨?_, rfl⟩
          rw [ofS_setNode _ h, U.setN_eq (by exact ht)]
          rfl
  · show ofS (if x.term < (Ag12.hear (Ag12.node s x.to_) x.term).term then (Ag12.send s [repL x.to_ x (Ag12.hear (Ag12.node s x.to_) x.term).term 0 false], ([1] : List Int)) else
        if (appN (Ag12.node s x.to_) x).row.length < x.a ∨ Ag12.termAt (appN (Ag12.node s x.to_) x).row x.a ≠ x.b then (Ag12.send (Ag12.setNode s x.to_ (appN (Ag12.node s x.to_) x)) [repL x.to_ x (appN (Ag12.node s x.to_) x).term 0 false], [1]) else
        (Ag12.send (Ag12.setNode s x.to_ { appM (Ag12.node s x.to_) x with done := max (appN (Ag12.node s x.to_) x).done (min x.done (x.a + x.entries.length)) }) [repL x.to_ x (appN (Ag12.node s x.to_) x).term (x.a + x.entries.length) true], [1])).1 = appU (ofS s) x.to_ x ∧
      (if x.term < (Ag12.hear (Ag12.node s x.to_) x.term).term then (Ag12.send s [repL x.to_ x (Ag12.hear (Ag12.node s x.to_) x.term).term 0 false], ([1] : List Int)) else
        if (appN (Ag12.node s x.to_) x).row.length < x.a ∨ Ag12.termAt (appN (Ag12.node s x.to_) x).row x.a ≠ x.b then (Ag12.send (Ag12.setNode s x.to_ (appN (Ag12.node s x.to_) x)) [repL x.to_ x (appN (Ag12.node s x.to_) x).term 0 false], [1]) else
        (Ag12.send (Ag12.setNode s x.to_ { appM (Ag12.node s x.to_) x with done := max (appN (Ag12.node s x.to_) x).done (min x.done (x.a + x.entries.length)) }) [repL x.to_ x (appN (Ag12.node s x.to_) x).term (x.a + x.entries.length) true], [1])).2 = [((1 : Nat) : Int)]
    unfold appU
    have ct : x.term < (Ag12.hear (Ag12.node s x.to_) x.term).term ↔ x.term < (Ag12.node s x.to_).term := by
      unfold Ag12.hear
      split
      · show x.term < x.term ↔ _
        omega
      · exact Iff.rfl
    by_cases c1 : x.term < (Ag12.node s x.to_).term
    · rw [if_pos (ct.mpr c1), if_pos (show x.term < ((ofS s).nd x.to_).term from c1), hear_same (by omega)]
      exact ⟨rfl, rfl⟩
    · rw [if_neg (fun z => c1 (ct.mp z)), if_neg (show ¬ x.term < ((ofS s).nd x.to_).term from c1)]
      by_cases c2 : (appN (Ag12.node s x.to_) x).row.length < x.a ∨ Ag12.termAt (appN (Ag12.node s x.to_) x).row x.a ≠ x.b
      · rw [if_pos c2, if_pos (show (appN ((ofS s).nd x.to_) x).row.length < x.a ∨ Ag12.termAt (appN ((ofS s).nd x.to_) x).row x.a ≠ x.b from c2)]
        refine ⟨?_, rfl⟩
        rw [ofS_send, ofS_setNode _ h, U.setN_eq (show (Ag12.hear (Ag12.node s x.to_) x.term).done ≤ s.told.length by rw [hd]; exact ht)]
        rfl
      · rw [if_neg c2, if_neg (show ¬ ((appN ((ofS s).nd x.to_) x).row.length < x.a ∨ Ag12.termAt (appN ((ofS s).nd x.to_) x).row x.a ≠ x.b) from c2)]
        refine ⟨?_, rfl⟩
        rw [ofS_send, ofS_setNode _ h]
        rfl
  · show ofS (if (Ag12.node s x.to_).term < x.term then (Ag12.setNode s x.to_ (Ag12.hear (Ag12.node s x.to_) x.term), ([5] : List Int)) else if (Ag12.hear (Ag12.node s x.to_) x.term).role ≠ 2 ∨ x.term ≠ (Ag12.hear (Ag12.node s x.to_) x.term).term then (s, [0]) else
        if x.yes = false then (Ag12.setNode s x.to_ { Ag12.hear (Ag12.node s x.to_) x.term with next := (Ag12.hear (Ag12.node s x.to_) x.term).next.set x.from_ (max 1 ((Ag12.hear (Ag12.node s x.to_) x.term).next.getD x.from_ 1 - 1)) }, [6]) else
        (Ag12.setNode s x.to_ { repN (Ag12.hear (Ag12.node s x.to_) x.term) x with done := Ag12.far s x.to_ (repN (Ag12.hear (Ag12.node s x.to_) x.term) x) }, [if (Ag12.hear (Ag12.node s x.to_) x.term).done < Ag12.far s x.to_ (repN (Ag12.hear (Ag12.node s x.to_) x.term) x) then 4 else 2])).1 = (repU (ofS s) x.to_ x).1 ∧
      (if (Ag12.node s x.to_).term < x.term then (Ag12.setNode s x.to_ (Ag12.hear (Ag12.node s x.to_) x.term), ([5] : List Int)) else if (Ag12.hear (Ag12.node s x.to_) x.term).role ≠ 2 ∨ x.term ≠ (Ag12.hear (Ag12.node s x.to_) x.term).term then (s, [0]) else
        if x.yes = false then (Ag12.setNode s x.to_ { Ag12.hear (Ag12.node s x.to_) x.term with next := (Ag12.hear (Ag12.node s x.to_) x.term).next.set x.from_ (max 1 ((Ag12.hear (Ag12.node s x.to_) x.term).next.getD x.from_ 1 - 1)) }, [6]) else
        (Ag12.setNode s x.to_ { repN (Ag12.hear (Ag12.node s x.to_) x.term) x with done := Ag12.far s x.to_ (repN (Ag12.hear (Ag12.node s x.to_) x.term) x) }, [if (Ag12.hear (Ag12.node s x.to_) x.term).done < Ag12.far s x.to_ (repN (Ag12.hear (Ag12.node s x.to_) x.term) x) then 4 else 2])).2 = [((repU (ofS s) x.to_ x).2 : Int)]
    unfold repU
    by_cases c1 : (Ag12.node s x.to_).term < x.term
    · rw [if_pos c1, if_pos (show ((ofS s).nd x.to_).term < x.term from c1)]
      refine ⟨?_, rfl⟩
      rw [ofS_setNode _ h, U.setN_eq (by rw [hd]; exact ht)]
      rfl
    · rw [if_neg c1, if_neg (show ¬ ((ofS s).nd x.to_).term < x.term from c1), hear_same c1]
      by_cases c2 : (Ag12.node s x.to_).role ≠ 2 ∨ x.term ≠ (Ag12.node s x.to_).term
      · rw [if_pos c2, if_pos (show ((ofS s).nd x.to_).role ≠ 2 ∨ x.term ≠ ((ofS s).nd x.to_).term from c2)]
        exact ⟨rfl, rfl⟩
      · rw [if_neg c2, if_neg (show ¬ (((ofS s).nd x.to_).role ≠ 2 ∨ x.term ≠ ((ofS s).nd x.to_).term) from c2)]
        by_cases c3 : x.yes = false
        · rw [if_pos c3, if_pos c3]
          refine ⟨?_, rfl⟩
          rw [ofS_setNode _ h, U.setN_eq (by exact ht)]
          rfl
        · rw [if_neg c3, if_neg c3]
          have ge : (Ag12.node s x.to_).done ≤ farz s.first x.to_ (repN (Ag12.node s x.to_) x) := foldl_max_ge _ _
          refine ⟨?_, ?_⟩
          · rw [ofS_setNode _ h]
            unfold U.adv
            rw [U.set_setN, U.set_nd]
            rfl
          · by_cases c4 : farz s.first x.to_ (repN (Ag12.node s x.to_) x) = (Ag12.node s x.to_).done
            · rw [if_neg (show ¬ (Ag12.node s x.to_).done < Ag12.far s x.to_ (repN (Ag12.node s x.to_) x) by rw [far_eq]; omega), if_pos (show farz (ofS s).z x.to_ (repN ((ofS s).nd x.to_) x) = ((ofS s).nd x.to_).done from c4)]
              rfl
            · rw [if_pos (show (Ag12.node s x.to_).done < Ag12.far s x.to_ (repN (Ag12.node s x.to_) x) by rw [far_eq]; omega), if_neg (show ¬ farz (ofS s).z x.to_ (repN ((ofS s).nd x.to_) x) = ((ofS s).nd x.to_).done from c4)]
              rfl
theorem fit_ok {s : Ag12.State} {k i : Nat} (h : Rf.Ok s k) (hi : i < 5) (hk : k ≤ 100) : Fit (ofS s) i := by
  obtain ⟨h1, h2, h3, h4, h5⟩ := h.node hi
  obtain ⟨z1, z2, z3, z4⟩ := h.sizes
  refine ⟨?_, ?_, h4, ?_, z2, ?_, h5⟩
  · show (Ag12.node s i).row.length ≤ _; omega
  · show (Ag12.node s i).done ≤ _; omega
  · show (Ag12.node s i).votes.length ≤ _; omega
  · show s.led.length ≤ _; omega
end Wk
end

section
set_option Elab.async false
set_option linter.all false
set_option maxRecDepth 100000
set_option maxHeartbeats 4000000
namespace Wk
open PySem PySem.Spec PyProof.Rows L2
/-! ### need -/
/-- Refused is raised with a code, at a new dict -/
def Rz (A : Ad) (E : XK) (H : Hp) (code : Int) : Prop := ∀ d, H d = none → E (.ref A.c_Refused) (some d) (upd H d (.xd [(("code" : Str), .int code)]))
section
variable {P : Program} {w : World} {K : PySem.W.Frag} {mg : Str → Option Value} {base : Heap} {A : Ad}
def spNeed (A : Ad) : Sp := fun vs H Q E => ∃ b c, vs = [.bl b, .int c] ∧ (b = true → Q .non H) ∧ (b = false → Rz A E H c)
theorem sc_need : FnScope n_need p_need (defScope s_need) := ⟨rfl, rfl, rfl, by decide +kernel, rfl, by decide +kernel, by decide +kernel⟩
theorem ok_need (T : Txt K mg A) : Keeps P w K mg base (L2.CX P w) 4 A.f_need p_need (spNeed A) := by
  obtain ⟨fd, F⟩ := T.F_need
  refine ⟨fd, F.okX sc_need (fun vs H Q E h => ?_) (fun cdv Ar outer s H vs Q E hr h => ?_), F.binds fun _ _ _ _ _ _ us hl => match us, hl with | [_, _], _ => rfl⟩
  · obtain ⟨b, c, rfl, _⟩ := h
    rfl
  · obtain ⟨b, c, rfl, k1, k2⟩ := h
    refine ⟨_, (pss_one (ps_if (pt_not (pt_val (pv 0))) (pss_one (ps_raiseLow rfl T.low hr (takes_of rfl rfl rfl rfl) (pa_cons (pv 1) pa_nil))) pss_nil)), ?_⟩
    refine ⟨_, rfl, b, rfl, ?_⟩
    cases b with
    | true => exact k1 rfl
    | false =>
      refine iteT ?_
      exact ⟨_, rfl, _, rfl, fun d hd => k2 rfl d hd⟩
/-! ### the desk -/
def spDeskInit (A : Ad) : Sp := fun vs H Q _ => ∃ p dd, vs = [.ref p] ∧ H p = some (.ins A.c_Desk dd []) ∧ Q .non (upd H p (.ins A.c_Desk dd [("running", .non)]))
theorem sc_Desk_init : FnScope n_Desk_init p_Desk_init (defScope s_Desk_init) := ⟨rfl, rfl, rfl, by decide +kernel, rfl, by decide +kernel, by decide +kernel⟩
theorem ok_Desk_init (T : Txt K mg A) : Keeps P w K mg base CX0 1 A.f_Desk_init p_Desk_init (spDeskInit A) := by
  obtain ⟨fd, F⟩ := T.F_Desk_init
  refine ⟨fd, F.ok sc_Desk_init (fun vs H Q E h => ?_) (fun cdv Ar outer s H vs Q E hr h => ?_), F.binds fun _ _ _ _ _ _ us hl => match us, hl with | [_], _ => rfl⟩
  · obtain ⟨p, dd, rfl, _⟩ := h
    rfl
  · obtain ⟨p, dd, rfl, hp, k⟩ := h
    refine ⟨_, (pss_one (ps_fld (pv 0) pe_non rfl)), ?_⟩
    exact ⟨_, rfl, _, _, _, _, rfl, hp, T.cl_Desk, T.na_Desk_running, (by decide), k⟩
/-- the desk with its machine -/
structure Dk (A : Ad) (H F : Hp) (X : Addr → Prop) (p dd pr : Addr) (pn : Nat → Addr) (s : Ag12.State) (k : Nat) : Prop where
  at_ : H p = some (.ins A.c_Desk dd [("running", .ref pr)])
  xp : X p
  wd : Wd A H F X (ofS s) pr pn
  ok : Rf.Ok s k
  k99 : k ≤ 99
  ln : Ln s
theorem lk_run (v : V) : List.lookup ("running" : Str) [(("running" : Str), v)] = some v := lk_here
/-- what a call of the desk owes: the answer in a new list, or the code by an error -/
structure Out (A : Ad) (X : Addr → Prop) (pr : Addr) (pn : Nat → Addr) (H F : Hp) (s : Ag12.State) (c : Ag12.Call) (Q : VK) (E : XK) : Prop where
  fine : ∀ H' F' s' ans q, Ag12.step (some s) c = (some s', ans) → Wd A H' F' X (ofS s') pr pn → Gd X H F H' F' → ¬ X q → H' q = some (.lst (il ans)) → Q (.ref q) H'
  bad : ∀ H1 code, Ag12.step (some s) c = (some s, [code]) → Same H H1 → Rz A E H1 code
def spDNode (A : Ad) : Sp := fun vs H Q E => ∃ F X p dd pr pn s k i, vs = [.ref p, vn i] ∧ Dk A H F X p dd pr pn s k ∧ (i < 5 → Q (.ref (pn i)) H) ∧ (¬ i < 5 → Rz A E H (-1))
theorem sc_Desk_node : FnScope n_Desk_node p_Desk_node (defScope s_Desk_node) := ⟨rfl, rfl, rfl, by decide +kernel, rfl, by decide +kernel, by decide +kernel⟩
theorem ok_Desk_node (T : Txt K mg A) : Keeps P w K mg base (L2.CX P w) 5 A.f_Desk_node p_Desk_node (spDNode A) := by
  obtain ⟨fd_need, G_need, b_need⟩ := ok_need (P := P) (w := w) (base := base) T
  obtain ⟨fd, F⟩ := T.F_Desk_node
  refine ⟨fd, F.okX sc_Desk_node (fun vs H Q E h => ?_) (fun cdv Ar outer s H vs Q E hr h => ?_), F.binds fun _ _ _ _ _ _ us hl => match us, hl with | [_, _], _ => rfl⟩
  · obtain ⟨F, X, p, dd, pr, pn, s, k, i, rfl, _⟩ := h
    rfl
  · obtain ⟨F, X, p, dd, pr, pn, s, k, i, rfl, D, k1, k2⟩ := h
    refine ⟨_, (pss_cons (ps_expr (pe_call G_need (hr.mono (by decide)) (by rfl) T.g_need T.k_need b_need .nil (passes_call (takes_of rfl rfl rfl rfl) (fun _ _ _ _ z => z)) (pa_cons (pe_cmpR op_lt (pv 1) (pe_k rfl T.c_MANY) (nomark _)) (pa_cons (pe_k rfl T.c_OUT) pa_nil))))
      (pss_one (ps_ret (pe_ix ix_list (pe_fld (pe_fld (pv 0) rfl) rfl) (pv 1) (fun _ _ => rfl))))), ?_⟩
    refine ⟨_, rfl, _, _, rfl, rfl, ?_⟩
    refine ⟨decide (((i : Nat) : Int) < 5), -1, rfl, fun hb => ?_, fun hb => ?_⟩
    · have hi : i < 5 := by have := of_decide_eq_true hb; omega
      obtain ⟨dR, nodes, msgs, com, led, hr⟩ := D.wd.run
      have hrp := hr.at_
      have hp := D.at_
      refine ⟨_, rfl, _, _, _, _, _, rfl, hp, T.cl_Desk, T.na_Desk_running, lk_run _, _, _, _, _, _, rfl, hrp, T.cl_Running, T.na_Running_nodes, lk_Running_nodes _, _, rfl, nodes, _, ((i : Nat) : Int), _, rfl, rfl, SqL.of (D.wd.same _ _ hr.nodes), five hi, ?_⟩
      exact k1 hi
    · exact k2 (by have := of_decide_eq_false hb; omega)
def spDLeader (A : Ad) : Sp := fun vs H Q E => ∃ F X p dd pr pn s k i, vs = [.ref p, vn i] ∧ Dk A H F X p dd pr pn s k ∧ i < 5 ∧ ((Ag12.node s i).up = false → Rz A E H (-3)) ∧ ((Ag12.node s i).up = true → (Ag12.node s i).role ≠ 2 → Rz A E H (-2)) ∧ ((Ag12.node s i).up = true → (Ag12.node s i).role = 2 → Q (.ref (pn i)) H)
theorem sc_Desk_leader : FnScope n_Desk_leader p_Desk_leader (defScope s_Desk_leader) := ⟨rfl, rfl, rfl, by decide +kernel, rfl, by decide +kernel, by decide +kernel⟩
theorem ok_Desk_leader (T : Txt K mg A) : Keeps P w K mg base (L2.CX P w) 5 A.f_Desk_leader p_Desk_leader (spDLeader A) := by
  obtain ⟨fd_need, G_need, b_need⟩ := ok_need (P := P) (w := w) (base := base) T
  obtain ⟨fd, F⟩ := T.F_Desk_leader
  refine ⟨fd, F.okX sc_Desk_leader (fun vs H Q E h => ?_) (fun cdv Ar outer s H vs Q E hr h => ?_), F.binds fun _ _ _ _ _ _ us hl => match us, hl with | [_, _], _ => rfl⟩
  · obtain ⟨F, X, p, dd, pr, pn, s, k, i, rfl, _⟩ := h
    rfl
  · obtain ⟨F, X, p, dd, pr, pn, s, k, i, rfl, D, hi, k1, k2, k3⟩ := h
    refine ⟨_, (pss_cons (ps_set (i := 2) sc_Desk_leader.nd rfl (Or.inl rfl) (pe_ix ix_list (pe_fld (pe_fld (pv 0) rfl) rfl) (pv 1) (fun _ _ => rfl)))
      (pss_cons (ps_expr (pe_call G_need (hr.mono (by decide)) (by rfl) T.g_need T.k_need b_need .nil (passes_call (takes_of rfl rfl rfl rfl) (fun _ _ _ _ z => z)) (pa_cons (pe_fld (pv 2) rfl) (pa_cons (pe_k rfl T.c_STOPPED) pa_nil))))
      (pss_cons (ps_expr (pe_call G_need (hr.mono (by decide)) (by rfl) T.g_need T.k_need b_need .nil (passes_call (takes_of rfl rfl rfl rfl) (fun _ _ _ _ z => z)) (pa_cons (pe_cmpR op_eq (pe_fld (pv 2) rfl) (pe_k rfl T.c_LEADER) (nomark _)) (pa_cons (pe_k rfl T.c_WRONG_ROLE) pa_nil))))
      (pss_one (ps_ret (pv 2)))))), ?_⟩
    obtain ⟨dR, nodes, msgs, com, led, hr⟩ := D.wd.run
    have hrp := hr.at_
    have hp := D.at_
    obtain ⟨dx, lg, vt, nx, mt, hn, _⟩ := (D.wd.node hi).ex
    refine ⟨_, rfl, _, _, _, _, _, rfl, hp, T.cl_Desk, T.na_Desk_running, lk_run _, _, _, _, _, _, rfl, hrp, T.cl_Running, T.na_Running_nodes, lk_Running_nodes _, _, rfl, nodes, _, ((i : Nat) : Int), _, rfl, rfl, SqL.of (D.wd.same _ _ hr.nodes), five hi, ?_⟩
    refine ⟨_, rfl, _, _, _, _, _, rfl, hn, T.cl_Node, T.na_Node_is_running, lk_Node_is_running _, ?_⟩
    refine ⟨(Ag12.node s i).up, -3, rfl, fun hb => ?_, k1⟩
    refine ⟨_, rfl, _, _, _, _, _, rfl, hn, T.cl_Node, T.na_Node_role, lk_Node_role _, rfl, ?_⟩
    refine ⟨decide (vn (Ag12.node s i).role = vn 2), -2, rfl, fun hc => ?_, fun hc => ?_⟩
    · rw [dec_vn] at hc
      exact ⟨_, rfl, k3 hb (of_decide_eq_true hc)⟩
    · rw [dec_vn] at hc
      exact k2 hb (of_decide_eq_false hc)
end
end Wk
end

section
set_option Elab.async false
set_option linter.all false
set_option maxRecDepth 100000
set_option maxHeartbeats 4000000
namespace Wk
open PySem PySem.Spec PyProof.Rows L2
theorem Wd.notX {A : Ad} {H F : Hp} {X : Addr → Prop} {u : U} {pr : Addr} {pn : Nat → Addr} (w : Wd A H F X u pr pn) {q : Addr} (h : H q = none) : ¬ X q := fun hx => by
  obtain ⟨L, v, _⟩ := w.ex
  obtain ⟨o, e⟩ := (v.ext q hx).2
  rw [h] at e
  cases e
theorem Out.done {A : Ad} {X : Addr → Prop} {pr : Addr} {pn : Nat → Addr} {H F : Hp} {s : Ag12.State} {c : Ag12.Call} {Q : VK} {E : XK} (o : Out A X pr pn H F s c Q E) {H' F' : Hp} {s' : Ag12.State} {ans : List Int} (hs : Ag12.step (some s) c = (some s', ans))
    (w : Wd A H' F' X (ofS s') pr pn) (g : Gd X H F H' F') {q : Addr} (q0 : H' q = none) {vs : List V} (hv : vs = il ans) : Q (.ref q) (upd H' q (.lst vs)) := by
  obtain ⟨w2, g2⟩ := w.new (.lst vs) q0
  refine o.fine _ _ s' ans q hs w2 (g.trans g2) (w.notX q0) ?_
  rw [upd_same, hv]
theorem no_Desk {f : Str} (v : V) (h : (f == ("running" : Str)) = false) : List.lookup f [(("running" : Str), v)] = none := (lk_past h).trans rfl
theorem leadU_nd (u : U) (i : Nat) (n : Ag12.Node) : ((leadU u i n).nd i).term = n.term := by
  show (((leadV u i n).put i ⟨n.term, 2, 0⟩).nd i).term = n.term
  rw [U.put_nd, leadV_nd]
  rfl
theorem electU_nd (u : U) (i : Nat) : ((electU u i).nd i).term = (u.nd i).term + 1 := by
  unfold electU
  split
  · rw [leadU_nd]
    rfl
  · show ((u.set i (electN (u.nd i) i)).nd i).term = _
    rw [U.set_nd]
    rfl
theorem st_stand (s : Ag12.State) (i : Nat) : Ag12.step (some s) (.stand i) = if Ag12.NODES ≤ i then (some s, ([-1] : List Int)) else if (Ag12.node s i).up = false then (some s, ([-3] : List Int)) else if (Ag12.node s i).role = 2 then (some s, ([-2] : List Int)) else (some (Ag12.stand s i), ([((Ag12.node s i).term + 1 : Nat)] : List Int)) := rfl
theorem st_order (s : Ag12.State) (i v : Nat) : Ag12.step (some s) (.order i v) = if Ag12.NODES ≤ i ∨ 99 < v then (some s, ([-1] : List Int)) else if (Ag12.node s i).up = false then (some s, ([-3] : List Int)) else if (Ag12.node s i).role ≠ 2 then (some s, ([-2] : List Int)) else (some (Ag12.put s i ⟨(Ag12.node s i).term, 0, v⟩), ([((Ag12.node s i).row.length + 1 : Nat)] : List Int)) := rfl
theorem st_change (s : Ag12.State) (i j : Nat) : Ag12.step (some s) (.change i j) = if Ag12.NODES ≤ i ∨ Ag12.NODES ≤ j then (some s, ([-1] : List Int)) else if (Ag12.node s i).up = false then (some s, ([-3] : List Int)) else if (Ag12.node s i).role ≠ 2 then (some s, ([-2] : List Int)) else if Ag12.may (Ag12.node s i) = false then (some s, ([-6] : List Int)) else if Ag12.turned (mem s.first (Ag12.node s i)) j = 0 then (some s, ([-7] : List Int)) else
    (some (Ag12.put s i ⟨(Ag12.node s i).term, 1, Ag12.turned (mem s.first (Ag12.node s i)) j⟩), ([(Ag12.turned (mem s.first (Ag12.node s i)) j : Int)] : List Int)) := rfl
theorem st_beat (s : Ag12.State) (i : Nat) : Ag12.step (some s) (.beat i) = if Ag12.NODES ≤ i then (some s, ([-1] : List Int)) else if (Ag12.node s i).up = false then (some s, ([-3] : List Int)) else if (Ag12.node s i).role ≠ 2 then (some s, ([-2] : List Int)) else (some (Ag12.send s (Ag12.beats s i (Ag12.node s i))), ([((Ag12.beats s i (Ag12.node s i)).length : Int)] : List Int)) := rfl
section
variable {P : Program} {w : World} {K : PySem.W.Frag} {mg : Str → Option Value} {base : Heap} {A : Ad}
def spDStand (A : Ad) : Sp := fun vs H Q E => ∃ F X p dd pr pn s k i, vs = [.ref p, vn i] ∧ Dk A H F X p dd pr pn s k ∧ Out A X pr pn H F s (.stand i) Q E
theorem sc_Desk_start_election : FnScope n_Desk_start_election p_Desk_start_election (defScope s_Desk_start_election) := ⟨rfl, rfl, rfl, by decide +kernel, rfl, by decide +kernel, by decide +kernel⟩
theorem ok_Desk_start_election (T : Txt K mg A) : Keeps P w K mg base (L2.CX P w) 9 A.f_Desk_start_election p_Desk_start_election (spDStand A) := by
  obtain ⟨fd_Running_elect, G_Running_elect, b_Running_elect⟩ := ok_Running_elect (P := P) (w := w) (base := base) T
  obtain ⟨fd_need, G_need, b_need⟩ := ok_need (P := P) (w := w) (base := base) T
  obtain ⟨fd_Desk_node, G_Desk_node, b_Desk_node⟩ := ok_Desk_node (P := P) (w := w) (base := base) T
  obtain ⟨fd, F⟩ := T.F_Desk_start_election
  refine ⟨fd, F.okX sc_Desk_start_election (fun vs H Q E h => ?_) (fun cdv Ar outer s H vs Q E hr h => ?_), F.binds fun _ _ _ _ _ _ us hl => match us, hl with | [_, _], _ => rfl⟩
  · obtain ⟨F, X, p, dd, pr, pn, s, k, i, rfl, _⟩ := h
    rfl
  · obtain ⟨F, X, p, dd, pr, pn, s, k, i, rfl, D, o⟩ := h
    refine ⟨_, (pss_cons (ps_set (i := 2) sc_Desk_start_election.nd rfl (Or.inl rfl) (pe_meth (pv 0) T.cl_Desk T.m_Desk_node G_Desk_node (hr.mono (by decide)) b_Desk_node .nil (passes_call (takes_of rfl rfl rfl rfl) (fun _ _ _ _ z => z)) (pa_cons (pv 1) pa_nil)))
      (pss_cons (ps_expr (pe_call G_need (hr.mono (by decide)) (by rfl) T.g_need T.k_need b_need .nil (passes_call (takes_of rfl rfl rfl rfl) (fun _ _ _ _ z => z)) (pa_cons (pe_fld (pv 2) rfl) (pa_cons (pe_k rfl T.c_STOPPED) pa_nil))))
      (pss_cons (ps_expr (pe_call G_need (hr.mono (by decide)) (by rfl) T.g_need T.k_need b_need .nil (passes_call (takes_of rfl rfl rfl rfl) (fun _ _ _ _ z => z)) (pa_cons (pe_cmpR op_ne (pe_fld (pv 2) rfl) (pe_k rfl T.c_LEADER) (nomark _)) (pa_cons (pe_k rfl T.c_WRONG_ROLE) pa_nil))))
      (pss_cons (ps_expr (pe_meth (pe_fld (pv 0) rfl) T.cl_Running T.m_Running_elect G_Running_elect (hr.mono (by decide)) b_Running_elect .nil pass0 (pa_cons (pv 2) pa_nil)))
      (pss_one (ps_ret (pe_lst (pa_cons (pe_fld (pv 2) rfl) pa_nil)))))))), ?_⟩
    have es := st_stand s i
    refine ⟨_, rfl, _, _, _, rfl, D.at_, no_Desk _ (by decide +kernel), _, rfl, F, X, p, dd, pr, pn, s, k, i, rfl, D, fun hi => ?_, fun hi => ?_⟩
    rotate_left
    · exact o.bad H _ (es.trans (if_pos (show 5 ≤ i by omega))) (Same.refl _)
    rw [if_neg (show ¬ Ag12.NODES ≤ i from fun z => by have : 5 ≤ i := z; omega)] at es
    obtain ⟨dx, lg, vt, nx, mt, hn, _⟩ := (D.wd.node hi).ex
    refine ⟨_, rfl, _, _, _, _, _, rfl, hn, T.cl_Node, T.na_Node_is_running, lk_Node_is_running _, ?_⟩
    refine ⟨(Ag12.node s i).up, -3, rfl, fun hu => ?_, fun hu => ?_⟩
    rotate_left
    · exact o.bad H _ (es.trans (if_pos hu)) (Same.refl _)
    rw [if_neg (by rw [hu]; exact fun z => nomatch z)] at es
    refine ⟨_, rfl, _, _, _, _, _, rfl, hn, T.cl_Node, T.na_Node_role, lk_Node_role _, rfl, ?_⟩
    refine ⟨!decide (vn (Ag12.node s i).role = vn 2), -2, rfl, fun hc => ?_, fun hc => ?_⟩
    rotate_left
    · rw [dec_vn] at hc
      have hc2 : (Ag12.node s i).role = 2 := by
        by_cases z : (Ag12.node s i).role = 2
        · exact z
        · rw [decide_eq_false z] at hc; cases hc
      exact o.bad H _ (es.trans (if_pos hc2)) (Same.refl _)
    have hc2 : ¬ (Ag12.node s i).role = 2 := fun z => by rw [dec_vn, decide_eq_true z] at hc; cases hc
    rw [if_neg hc2] at es
    obtain ⟨dR, nodes, msgs, com, led, hr⟩ := D.wd.run
    have hrp := hr.at_
    have fit := fit_ok D.ok hi (by have := D.k99; omega)
    refine ⟨_, rfl, _, _, _, _, _, rfl, D.at_, T.cl_Desk, T.na_Desk_running, lk_run _, _, _, _, rfl, hrp, no_Running_elect _, _, rfl, F, X, _, pr, pn, i, rfl, D.wd, hi, fit.row, fit.done, fit.told, fit.ls, fit.led, fun H1 F1 w1 g1 => ?_⟩
    obtain ⟨dx, lg, vt, nx, mt, hn, _⟩ := (w1.node hi).ex
    refine ⟨_, rfl, _, _, _, _, _, rfl, hn, T.cl_Node, T.na_Node_term, lk_Node_term _, (by show 1 ≤ sizeLine; decide), fun q q0 => ?_⟩
    have w1' := w1
    rw [← ofS_stand (s := s) (by rw [D.ok.sizes.1]; exact hi) fit.told] at w1'
    refine o.done es w1' g1 q0 ?_
    rw [show (nrec i (electU (ofS s) i).z ((electU (ofS s) i).nd i) lg vt nx mt).term = (Ag12.node s i).term + 1 from electU_nd _ _]
    rfl
def spDOrder (A : Ad) : Sp := fun vs H Q E => ∃ F X p dd pr pn s k i v, vs = [.ref p, vn i, vn v] ∧ Dk A H F X p dd pr pn s k ∧ Out A X pr pn H F s (.order i v) Q E
theorem sc_Desk_propose : FnScope n_Desk_propose p_Desk_propose (defScope s_Desk_propose) := ⟨rfl, rfl, rfl, by decide +kernel, rfl, by decide +kernel, by decide +kernel⟩
theorem ok_Desk_propose (T : Txt K mg A) : Keeps P w K mg base (L2.CX P w) 7 A.f_Desk_propose p_Desk_propose (spDOrder A) := by
  obtain ⟨fd_Running_add, G_Running_add, b_Running_add⟩ := od_Running_add (P := P) (w := w) (base := base) T
  obtain ⟨fd_Desk_leader, G_Desk_leader, b_Desk_leader⟩ := ok_Desk_leader (P := P) (w := w) (base := base) T
  obtain ⟨fd_need, G_need, b_need⟩ := ok_need (P := P) (w := w) (base := base) T
  obtain ⟨fd, F⟩ := T.F_Desk_propose
  refine ⟨fd, F.okX sc_Desk_propose (fun vs H Q E h => ?_) (fun cdv Ar outer s H vs Q E hr h => ?_), F.binds fun _ _ _ _ _ _ us hl => match us, hl with | [_, _, _], _ => rfl⟩
  · obtain ⟨F, X, p, dd, pr, pn, s, k, i, v, rfl, _⟩ := h
    rfl
  · obtain ⟨F, X, p, dd, pr, pn, s, k, i, v, rfl, D, o⟩ := h
    refine ⟨_, (pss_cons (ps_expr (pe_call G_need (hr.mono (by decide)) (by rfl) T.g_need T.k_need b_need .nil (passes_call (takes_of rfl rfl rfl rfl) (fun _ _ _ _ z => z)) (pa_cons (pe_and (pe_cmpR op_lt (pv 1) (pe_k rfl T.c_MANY) (nomark _)) (pe_one (pe_cmpR op_le (pv 2) (pe_k rfl T.c_MOST_COMMAND) (nomark _)))) (pa_cons (pe_k rfl T.c_OUT) pa_nil))))
      (pss_one (ps_ret (pe_lst (pa_cons (pe_meth (pe_fld (pv 0) rfl) T.cl_Running T.m_Running_add G_Running_add (hr.mono (by decide)) b_Running_add .nil pass0 (pa_cons (pe_meth (pv 0) T.cl_Desk T.m_Desk_leader G_Desk_leader (hr.mono (by decide)) b_Desk_leader .nil (passes_call (takes_of rfl rfl rfl rfl) (fun _ _ _ _ z => z)) (pa_cons (pv 1) pa_nil)) (pa_cons (pe_k rfl T.c_COMMAND) (pa_cons (pv 2) pa_nil)))) pa_nil))))), ?_⟩
    have es := st_order s i v
    refine ⟨_, rfl, _, _, rfl, rfl, _, rfl, ?_⟩
    by_cases hi : i < 5
    rotate_left
    · rw [decide_eq_false (show ¬ ((i : Nat) : Int) < 5 by omega)]
      exact iteF ⟨false, -1, rfl, (fun z => nomatch z), fun _ => o.bad H _ (es.trans (if_pos (.inl (show 5 ≤ i by omega)))) (Same.refl _)⟩
    rw [decide_eq_true (show ((i : Nat) : Int) < 5 by omega)]
    refine iteT ⟨_, rfl, _, _, rfl, rfl, decide (((v : Nat) : Int) ≤ 99), -1, rfl, fun hb => ?_, fun hb => ?_⟩
    rotate_left
    · exact o.bad H _ (es.trans (if_pos (.inr (by have := of_decide_eq_false hb; omega)))) (Same.refl _)
    have hv := of_decide_eq_true hb
    rw [if_neg (show ¬ (Ag12.NODES ≤ i ∨ 99 < v) by rintro (z | z); (have : 5 ≤ i := z; omega); omega)] at es
    obtain ⟨dR, nodes, msgs, com, led, hr⟩ := D.wd.run
    have hrp := hr.at_
    have fit := fit_ok D.ok hi (by have := D.k99; omega)
    refine ⟨_, rfl, _, _, _, _, _, rfl, D.at_, T.cl_Desk, T.na_Desk_running, lk_run _, _, _, _, rfl, hrp, no_Running_add _, ?_⟩
    refine ⟨_, rfl, _, _, _, rfl, D.at_, no_Desk _ (by decide +kernel), _, rfl, F, X, p, dd, pr, pn, s, k, i, rfl, D, hi, fun hu => o.bad H _ (es.trans (if_pos hu)) (Same.refl _), fun hu hl => ?_, fun hu hl => ?_⟩
    · rw [if_neg (by rw [hu]; exact fun z => nomatch z)] at es
      exact o.bad H _ (es.trans (if_pos hl)) (Same.refl _)
    rw [if_neg (by rw [hu]; exact fun z => nomatch z), if_neg (by rw [hl]; exact fun z => z rfl)] at es
    refine ⟨_, rfl, F, X, _, pr, pn, i, 0, v, rfl, D.wd, hi, (fit.lead hl).2.1, (by have := fit.row; omega), fit.done, fit.told, fun H1 F1 w1 g1 => ?_⟩
    have w1' := w1
    rw [show (ofS s).put i ⟨((ofS s).nd i).term, 0, v⟩ = ofS (Ag12.put s i ⟨(Ag12.node s i).term, 0, v⟩) from (ofS_put _ (by rw [D.ok.sizes.1]; exact hi)).symm] at w1'
    refine ⟨(by show 1 ≤ sizeLine; decide), fun q q0 => ?_⟩
    exact o.done es w1' g1 q0 rfl
def spDBeat (A : Ad) : Sp := fun vs H Q E => ∃ F X p dd pr pn s k i, vs = [.ref p, vn i] ∧ Dk A H F X p dd pr pn s k ∧ Out A X pr pn H F s (.beat i) Q E
theorem sc_Desk_heartbeat : FnScope n_Desk_heartbeat p_Desk_heartbeat (defScope s_Desk_heartbeat) := ⟨rfl, rfl, rfl, by decide +kernel, rfl, by decide +kernel, by decide +kernel⟩
theorem ok_Desk_heartbeat (T : Txt K mg A) : Keeps P w K mg base (L2.CX P w) 6 A.f_Desk_heartbeat p_Desk_heartbeat (spDBeat A) := by
  obtain ⟨fd_Running_heartbeat, G_Running_heartbeat, b_Running_heartbeat⟩ := od_Running_heartbeat (P := P) (w := w) (base := base) T
  obtain ⟨fd_Desk_leader, G_Desk_leader, b_Desk_leader⟩ := ok_Desk_leader (P := P) (w := w) (base := base) T
  obtain ⟨fd_need, G_need, b_need⟩ := ok_need (P := P) (w := w) (base := base) T
  obtain ⟨fd, F⟩ := T.F_Desk_heartbeat
  refine ⟨fd, F.okX sc_Desk_heartbeat (fun vs H Q E h => ?_) (fun cdv Ar outer s H vs Q E hr h => ?_), F.binds fun _ _ _ _ _ _ us hl => match us, hl with | [_, _], _ => rfl⟩
  · obtain ⟨F, X, p, dd, pr, pn, s, k, i, rfl, _⟩ := h
    rfl
  · obtain ⟨F, X, p, dd, pr, pn, s, k, i, rfl, D, o⟩ := h
    refine ⟨_, (pss_cons (ps_expr (pe_call G_need (hr.mono (by decide)) (by rfl) T.g_need T.k_need b_need .nil (passes_call (takes_of rfl rfl rfl rfl) (fun _ _ _ _ z => z)) (pa_cons (pe_cmpR op_lt (pv 1) (pe_k rfl T.c_MANY) (nomark _)) (pa_cons (pe_k rfl T.c_OUT) pa_nil))))
      (pss_one (ps_ret (pe_lst (pa_cons (pe_meth (pe_fld (pv 0) rfl) T.cl_Running T.m_Running_heartbeat G_Running_heartbeat (hr.mono (by decide)) b_Running_heartbeat .nil pass0 (pa_cons (pe_meth (pv 0) T.cl_Desk T.m_Desk_leader G_Desk_leader (hr.mono (by decide)) b_Desk_leader .nil (passes_call (takes_of rfl rfl rfl rfl) (fun _ _ _ _ z => z)) (pa_cons (pv 1) pa_nil)) pa_nil)) pa_nil))))), ?_⟩
    have es := st_beat s i
    refine ⟨_, rfl, _, _, rfl, rfl, ?_⟩
    refine ⟨decide (((i : Nat) : Int) < 5), -1, rfl, fun hb => ?_, fun hb => ?_⟩
    rotate_left
    · exact o.bad H _ (es.trans (if_pos (show 5 ≤ i by have := of_decide_eq_false hb; omega))) (Same.refl _)
    have hi : i < 5 := by have := of_decide_eq_true hb; omega
    rw [if_neg (show ¬ Ag12.NODES ≤ i from fun z => by have : 5 ≤ i := z; omega)] at es
    obtain ⟨dR, nodes, msgs, com, led, hr⟩ := D.wd.run
    have hrp := hr.at_
    have fit := fit_ok D.ok hi (by have := D.k99; omega)
    refine ⟨_, rfl, _, _, _, _, _, rfl, D.at_, T.cl_Desk, T.na_Desk_running, lk_run _, _, _, _, rfl, hrp, no_Running_heartbeat _, ?_⟩
    refine ⟨_, rfl, _, _, _, rfl, D.at_, no_Desk _ (by decide +kernel), _, rfl, F, X, p, dd, pr, pn, s, k, i, rfl, D, hi, fun hu => o.bad H _ (es.trans (if_pos hu)) (Same.refl _), fun hu hl => ?_, fun hu hl => ?_⟩
    · rw [if_neg (by rw [hu]; exact fun z => nomatch z)] at es
      exact o.bad H _ (es.trans (if_pos hl)) (Same.refl _)
    rw [if_neg (by rw [hu]; exact fun z => nomatch z), if_neg (by rw [hl]; exact fun z => z rfl)] at es
    refine ⟨F, X, _, pr, pn, i, rfl, D.wd, hi, (fit.lead hl).1, (fit.lead hl).2.2, fit.ls, fun H1 F1 w1 g1 => ?_⟩
    refine ⟨(by show 1 ≤ sizeLine; decide), fun q q0 => ?_⟩
    exact o.done es w1 g1 q0 rfl
end
end Wk
end

section
set_option Elab.async false
set_option linter.all false
set_option maxRecDepth 100000
set_option maxHeartbeats 4000000
namespace Wk
open PySem PySem.Spec PyProof.Rows L2
theorem may_eq (n : Ag12.Node) : Ag12.may n = (!open_ n && (decide (0 < n.done) && Ag12.termAt n.row n.done == n.term)) := by
  unfold Ag12.may open_
  rw [Bool.not_not]
theorem map_erase {α β : Type} (f : α → β) : ∀ (l : List α) (n : Nat), (l.map f).eraseIdx n = (l.eraseIdx n).map f
  | [], _ => rfl
  | _ :: _, 0 => rfl
  | a :: l, n + 1 => by
    show f a :: (l.map f).eraseIdx n = f a :: (l.eraseIdx n).map f
    rw [map_erase f l n]
theorem isIn_le {m j : Nat} (h : Ag12.isIn m j = true) : 2 ^ j ≤ m := by
  unfold Ag12.isIn at h
  have h := eq_of_beq h
  rcases Nat.lt_or_ge m (2 ^ j) with c | c
  · rw [Nat.div_eq_of_lt c] at h
    cases h
  · exact c
section
variable {P : Program} {w : World} {K : PySem.W.Frag} {mg : Str → Option Value} {base : Heap} {A : Ad}
def spDChange (A : Ad) : Sp := fun vs H Q E => ∃ F X p dd pr pn s k i j, vs = [.ref p, vn i, vn j] ∧ Dk A H F X p dd pr pn s k ∧ Out A X pr pn H F s (.change i j) Q E
theorem sc_Desk_change_member : FnScope n_Desk_change_member p_Desk_change_member (defScope s_Desk_change_member) := ⟨rfl, rfl, rfl, by decide +kernel, rfl, by decide +kernel, by decide +kernel⟩
theorem ok_Desk_change_member (T : Txt K mg A) : Keeps P w K mg base (L2.CX P w) 7 A.f_Desk_change_member p_Desk_change_member (spDChange A) := by
  obtain ⟨fd_Running_add, G_Running_add, b_Running_add⟩ := od_Running_add (P := P) (w := w) (base := base) T
  obtain ⟨fd_need, G_need, b_need⟩ := ok_need (P := P) (w := w) (base := base) T
  obtain ⟨fd_Node_mask, G_Node_mask, b_Node_mask⟩ := ok_Node_mask (P := P) (w := w) (base := base) T
  obtain ⟨fd_Node_term_at, G_Node_term_at, b_Node_term_at⟩ := ok_Node_term_at (P := P) (w := w) (base := base) T
  obtain ⟨fd_Node_has_open_configuration, G_Node_has_open_configuration, b_Node_has_open_configuration⟩ := ok_Node_has_open_configuration (P := P) (w := w) (base := base) T
  obtain ⟨fd_Desk_leader, G_Desk_leader, b_Desk_leader⟩ := ok_Desk_leader (P := P) (w := w) (base := base) T
  obtain ⟨fd, F⟩ := T.F_Desk_change_member
  refine ⟨fd, F.okX sc_Desk_change_member (fun vs H Q E h => ?_) (fun cdv Ar outer s H vs Q E hr h => ?_), F.binds fun _ _ _ _ _ _ us hl => match us, hl with | [_, _, _], _ => rfl⟩
  · obtain ⟨F, X, p, dd, pr, pn, s, k, i, j, rfl, _⟩ := h
    rfl
  · obtain ⟨F, X, p, dd, pr, pn, s, k, i, j, rfl, D, o⟩ := h
    refine ⟨_, (pss_cons (ps_expr (pe_call G_need (hr.mono (by decide)) (by rfl) T.g_need T.k_need b_need .nil (passes_call (takes_of rfl rfl rfl rfl) (fun _ _ _ _ z => z)) (pa_cons (pe_and (pe_cmpR op_lt (pv 1) (pe_k rfl T.c_MANY) (nomark _)) (pe_one (pe_cmpR op_lt (pv 2) (pe_k rfl T.c_MANY) (nomark _)))) (pa_cons (pe_k rfl T.c_OUT) pa_nil))))
      (pss_cons (ps_set (i := 3) sc_Desk_change_member.nd rfl (Or.inl rfl) (pe_meth (pv 0) T.cl_Desk T.m_Desk_leader G_Desk_leader (hr.mono (by decide)) b_Desk_leader .nil (passes_call (takes_of rfl rfl rfl rfl) (fun _ _ _ _ z => z)) (pa_cons (pv 1) pa_nil)))
      (pss_cons (ps_expr (pe_call G_need (hr.mono (by decide)) (by rfl) T.g_need T.k_need b_need .nil (passes_call (takes_of rfl rfl rfl rfl) (fun _ _ _ _ z => z)) (pa_cons (pe_and (pe_not (pe_meth0 (pv 3) T.cl_Node T.m_Node_has_open_configuration G_Node_has_open_configuration (hr.mono (by decide)) b_Node_has_open_configuration .nil pass0)) (pe_one (pe_cmpR op_gt (pe_fld (pv 3) rfl) pe_int (nomark _)))) (pa_cons (pe_k rfl T.c_NOT_NOW) pa_nil))))
      (pss_cons (ps_expr (pe_call G_need (hr.mono (by decide)) (by rfl) T.g_need T.k_need b_need .nil (passes_call (takes_of rfl rfl rfl rfl) (fun _ _ _ _ z => z)) (pa_cons (pe_cmpR op_eq (pe_meth (pv 3) T.cl_Node T.m_Node_term_at G_Node_term_at (hr.mono (by decide)) b_Node_term_at .nil pass0 (pa_cons (pe_fld (pv 3) rfl) pa_nil)) (pe_fld (pv 3) rfl) (nomark _)) (pa_cons (pe_k rfl T.c_NOT_NOW) pa_nil))))
      (pss_cons (ps_par (i := 4) (j := 5) rfl sc_Desk_change_member.nd rfl rfl (by decide) rfl rfl (pa_cons (pe_meth0 (pv 3) T.cl_Node T.m_Node_mask G_Node_mask (hr.mono (by decide)) b_Node_mask .nil pass0) (pa_cons (pe_ix ix_tup (pe_glob (v := .ref A.a_BITS) rfl T.g_BITS rfl) (pv 2) (fun _ _ => rfl)) pa_nil)) (by rfl))
      (pss_cons (ps_set (i := 4) sc_Desk_change_member.nd rfl (Or.inl rfl) (pe_ifExp (pt_cmpR op_eq (pe_op op_modN (pe_op op_fdivN (pv 4) (pv 5)) pe_int) pe_int (nomark _)) (pe_op op_sub (pv 4) (pv 5)) (pe_op op_add (pv 4) (pv 5))))
      (pss_cons (ps_expr (pe_call G_need (hr.mono (by decide)) (by rfl) T.g_need T.k_need b_need .nil (passes_call (takes_of rfl rfl rfl rfl) (fun _ _ _ _ z => z)) (pa_cons (pe_cmpR op_gt (pv 4) pe_int (nomark _)) (pa_cons (pe_k rfl T.c_NO_MEMBER) pa_nil))))
      (pss_cons (ps_expr (pe_meth (pe_fld (pv 0) rfl) T.cl_Running T.m_Running_add G_Running_add (hr.mono (by decide)) b_Running_add .nil pass0 (pa_cons (pv 3) (pa_cons (pe_k rfl T.c_CONFIGURATION) (pa_cons (pv 4) pa_nil)))))
      (pss_one (ps_ret (pe_lst (pa_cons (pv 4) pa_nil)))))))))))), ?_⟩
    have es := st_change s i j
    refine ⟨_, rfl, _, _, rfl, rfl, _, rfl, ?_⟩
    by_cases hi : i < 5
    rotate_left
    · rw [decide_eq_false (show ¬ ((i : Nat) : Int) < 5 by omega)]
      exact iteF ⟨false, -1, rfl, (fun z => nomatch z), fun _ => o.bad H _ (es.trans (if_pos (.inl (show 5 ≤ i by omega)))) (Same.refl _)⟩
    rw [decide_eq_true (show ((i : Nat) : Int) < 5 by omega)]
    refine iteT ⟨_, rfl, _, _, rfl, rfl, decide (((j : Nat) : Int) < 5), -1, rfl, fun hb => ?_, fun hb => ?_⟩
    rotate_left
    · exact o.bad H _ (es.trans (if_pos (.inr (show 5 ≤ j by have := of_decide_eq_false hb; omega)))) (Same.refl _)
    have hj : j < 5 := by have := of_decide_eq_true hb; omega
    rw [if_neg (show ¬ (Ag12.NODES ≤ i ∨ Ag12.NODES ≤ j) by rintro (z | z); (have : 5 ≤ i := z; omega); (have : 5 ≤ j := z; omega))] at es
    have fit := fit_ok D.ok hi (by have := D.k99; omega)
    have hdr := (D.ok.node hi).1
    refine ⟨_, rfl, _, _, _, rfl, D.at_, no_Desk _ (by decide +kernel), _, rfl, F, X, p, dd, pr, pn, s, k, i, rfl, D, hi, fun hu => o.bad H _ (es.trans (if_pos hu)) (Same.refl _), fun hu hl => ?_, fun hu hl => ?_⟩
    · rw [if_neg (by rw [hu]; exact fun z => nomatch z)] at es
      exact o.bad H _ (es.trans (if_pos hl)) (Same.refl _)
    rw [if_neg (by rw [hu]; exact fun z => nomatch z), if_neg (by rw [hl]; exact fun z => z rfl)] at es
    obtain ⟨dx, lg, vt, nx, mt, hn, _⟩ := (D.wd.node hi).ex
    refine ⟨_, rfl, _, _, _, rfl, hn, no_Node_has_open_configuration _, F, pn i, i, s.first, Ag12.node s i, rfl, D.wd.same, D.wd.node hi, (by have := fit.row; show (Ag12.node s i).row.length ≤ 1000; change (Ag12.node s i).row.length ≤ 800 at this; omega), fun H1 s1 => ?_⟩
    obtain ⟨w1, g1⟩ := D.wd.later s1
    obtain ⟨dx, lg, vt, nx, mt, hn, _⟩ := (w1.node hi).ex
    refine ⟨_, rfl, _, rfl, ?_⟩
    have emay := may_eq (Ag12.node s i)
    cases ho : open_ (Ag12.node s i) with
    | true =>
      rw [ho, Bool.not_true, Bool.false_and] at emay
      exact iteF ⟨false, -6, rfl, (fun z => nomatch z), fun _ => o.bad H1 _ (es.trans (if_pos emay)) s1⟩
    | false =>
    rw [ho, Bool.not_false, Bool.true_and] at emay
    refine iteT ⟨_, rfl, _, _, _, _, _, rfl, hn, T.cl_Node, T.na_Node_commit, lk_Node_commit _, _, _, rfl, rfl, decide (0 < (((Ag12.node s i).done : Nat) : Int)), -6, rfl, fun hb => ?_, fun hb => ?_⟩
    rotate_left
    · have : ¬ 0 < (Ag12.node s i).done := by have := of_decide_eq_false hb; omega
      rw [decide_eq_false this, Bool.false_and] at emay
      exact o.bad H1 _ (es.trans (if_pos emay)) s1
    have hd0 : 0 < (Ag12.node s i).done := by have := of_decide_eq_true hb; omega
    rw [decide_eq_true hd0, Bool.true_and] at emay
    refine ⟨_, rfl, _, _, _, rfl, hn, no_Node_term_at _, _, rfl, _, _, _, _, _, rfl, hn, T.cl_Node, T.na_Node_commit, lk_Node_commit _, F, pn i, i, s.first, Ag12.node s i, (Ag12.node s i).done, rfl, w1.same, w1.node hi, hdr, _, rfl, _, _, _, _, _, rfl, hn, T.cl_Node, T.na_Node_term, lk_Node_term _, rfl, ?_⟩
    refine ⟨decide (vn (Ag12.termAt (Ag12.node s i).row (Ag12.node s i).done) = vn (Ag12.node s i).term), -6, rfl, fun hc => ?_, fun hc => ?_⟩
    rotate_left
    · rw [beq_nat] at hc
      exact o.bad H1 _ (es.trans (if_pos (emay.trans hc))) s1
    rw [beq_nat] at hc
    rw [if_neg (show ¬ Ag12.may (Ag12.node s i) = false by rw [emay, hc]; exact fun z => nomatch z)] at es
    refine ⟨_, rfl, _, _, _, rfl, hn, no_Node_mask _, F, pn i, i, s.first, Ag12.node s i, rfl, w1.same, w1.node hi, fun H2 s2 => ?_⟩
    obtain ⟨w2, g2⟩ := w1.later s2
    refine ⟨_, rfl, A.a_BITS, bitsV, ((j : Nat) : Int), _, rfl, rfl, Or.inr T.bits, bit_at hj, _, _, rfl, ?_⟩
    refine ⟨_, rfl, _, rfl, _, _, rfl, rfl, pow_ok hj, _, _, rfl, rfl, (by show (2 : Int) ≠ 0; decide), rfl, _, rfl, ?_⟩
    show if decide (V.int (((((mem s.first (Ag12.node s i) : Nat) : Int)).fdiv ((2 ^ j : Nat) : Int)).fmod 2) = V.int 1) = true then _ else _
    rw [isIn_dec]
    cases hin : Ag12.isIn (mem s.first (Ag12.node s i)) j with
    | true =>
      refine iteT ⟨_, rfl, _, rfl, _, _, rfl, rfl, ?_⟩
      have et : V.int (((mem s.first (Ag12.node s i) : Nat) : Int) - ((2 ^ j : Nat) : Int)) = vn (Ag12.turned (mem s.first (Ag12.node s i)) j) := by
        unfold vn Ag12.turned
        rw [if_pos hin]
        have := isIn_le hin
        congr 1
        omega
      show gName 4 (V.int (((mem s.first (Ag12.node s i) : Nat) : Int) - ((2 ^ j : Nat) : Int))) _ _ _
      rw [et]
      refine ⟨_, rfl, _, _, rfl, rfl, decide (0 < ((Ag12.turned (mem s.first (Ag12.node s i)) j : Nat) : Int)), -7, rfl, fun hz => ?_, fun hz => ?_⟩
      rotate_left
      · exact o.bad H2 _ (es.trans (if_pos (by have := of_decide_eq_false hz; omega))) (s1.trans s2)
      rw [if_neg (show ¬ Ag12.turned (mem s.first (Ag12.node s i)) j = 0 by have := of_decide_eq_true hz; omega)] at es
      obtain ⟨dR, nodes, msgs, com, led, hr⟩ := w2.run
      have hrp := hr.at_
      have hp2 := (s1.trans s2) _ _ D.at_
      refine ⟨_, rfl, _, _, _, _, _, rfl, hp2, T.cl_Desk, T.na_Desk_running, lk_run _, _, _, _, rfl, hrp, no_Running_add _, ?_⟩
      refine ⟨_, rfl, _, rfl, F, X, _, pr, pn, i, 1, Ag12.turned (mem s.first (Ag12.node s i)) j, rfl, w2, hi, (fit.lead hl).2.1, (by have := fit.row; omega), fit.done, fit.told, fun H3 F3 w3 g3 => ?_⟩
      rw [show (ofS s).put i ⟨((ofS s).nd i).term, 1, Ag12.turned (mem s.first (Ag12.node s i)) j⟩ = ofS (Ag12.put s i ⟨(Ag12.node s i).term, 1, Ag12.turned (mem s.first (Ag12.node s i)) j⟩) from (ofS_put _ (by rw [D.ok.sizes.1]; exact hi)).symm] at w3
      refine ⟨_, rfl, (by show 1 ≤ sizeLine; decide), fun q q0 => ?_⟩
      exact o.done es w3 (g1.trans (g2.trans g3)) q0 rfl
    | false =>
      refine iteF ⟨_, rfl, _, rfl, _, _, rfl, rfl, ?_⟩
      have et : V.int (((mem s.first (Ag12.node s i) : Nat) : Int) + ((2 ^ j : Nat) : Int)) = vn (Ag12.turned (mem s.first (Ag12.node s i)) j) := by
        unfold vn Ag12.turned
        rw [if_neg (by rw [hin]; exact fun z => nomatch z)]
        congr 1
      show gName 4 (V.int (((mem s.first (Ag12.node s i) : Nat) : Int) + ((2 ^ j : Nat) : Int))) _ _ _
      rw [et]
      refine ⟨_, rfl, _, _, rfl, rfl, decide (0 < ((Ag12.turned (mem s.first (Ag12.node s i)) j : Nat) : Int)), -7, rfl, fun hz => ?_, fun hz => ?_⟩
      rotate_left
      · exact o.bad H2 _ (es.trans (if_pos (by have := of_decide_eq_false hz; omega))) (s1.trans s2)
      rw [if_neg (show ¬ Ag12.turned (mem s.first (Ag12.node s i)) j = 0 by have := of_decide_eq_true hz; omega)] at es
      obtain ⟨dR, nodes, msgs, com, led, hr⟩ := w2.run
      have hrp := hr.at_
      have hp2 := (s1.trans s2) _ _ D.at_
      refine ⟨_, rfl, _, _, _, _, _, rfl, hp2, T.cl_Desk, T.na_Desk_running, lk_run _, _, _, _, rfl, hrp, no_Running_add _, ?_⟩
      refine ⟨_, rfl, _, rfl, F, X, _, pr, pn, i, 1, Ag12.turned (mem s.first (Ag12.node s i)) j, rfl, w2, hi, (fit.lead hl).2.1, (by have := fit.row; omega), fit.done, fit.told, fun H3 F3 w3 g3 => ?_⟩
      rw [show (ofS s).put i ⟨((ofS s).nd i).term, 1, Ag12.turned (mem s.first (Ag12.node s i)) j⟩ = ofS (Ag12.put s i ⟨(Ag12.node s i).term, 1, Ag12.turned (mem s.first (Ag12.node s i)) j⟩) from (ofS_put _ (by rw [D.ok.sizes.1]; exact hi)).symm] at w3
      refine ⟨_, rfl, (by show 1 ≤ sizeLine; decide), fun q q0 => ?_⟩
      exact o.done es w3 (g1.trans (g2.trans g3)) q0 rfl
/-! ### messages of the desk -/
def spDMessage (A : Ad) : Sp := fun vs H Q E => ∃ F X p dd pr pn s k n, vs = [.ref p, vn n] ∧ Dk A H F X p dd pr pn s k ∧ (∀ mp x, s.letters[n]? = some x → MsgAt A F mp x → Q (.ref mp) H) ∧ (s.letters[n]? = none → Rz A E H (-1))
theorem sc_Desk_message : FnScope n_Desk_message p_Desk_message (defScope s_Desk_message) := ⟨rfl, rfl, rfl, by decide +kernel, rfl, by decide +kernel, by decide +kernel⟩
theorem ok_Desk_message (T : Txt K mg A) : Keeps P w K mg base (L2.CX P w) 5 A.f_Desk_message p_Desk_message (spDMessage A) := by
  obtain ⟨fd_need, G_need, b_need⟩ := ok_need (P := P) (w := w) (base := base) T
  obtain ⟨fd, F⟩ := T.F_Desk_message
  refine ⟨fd, F.okX sc_Desk_message (fun vs H Q E h => ?_) (fun cdv Ar outer s H vs Q E hr h => ?_), F.binds fun _ _ _ _ _ _ us hl => match us, hl with | [_, _], _ => rfl⟩
  · obtain ⟨F, X, p, dd, pr, pn, s, k, n, rfl, _⟩ := h
    rfl
  · obtain ⟨F, X, p, dd, pr, pn, s, k, n, rfl, D, k1, k2⟩ := h
    refine ⟨_, (pss_cons (ps_expr (pe_call G_need (hr.mono (by decide)) (by rfl) T.g_need T.k_need b_need .nil (passes_call (takes_of rfl rfl rfl rfl) (fun _ _ _ _ z => z)) (pa_cons (pe_cmpR op_lt (pv 1) (pe_callB (r := rLenK K) call_len_seq (by rfl) T.b_len PySem.boot_len (pa_cons (pe_fld (pe_fld (pv 0) rfl) rfl) pa_nil)) (nomark _)) (pa_cons (pe_k rfl T.c_OUT) pa_nil))))
      (pss_one (ps_ret (pe_ix ix_list (pe_fld (pe_fld (pv 0) rfl) rfl) (pv 1) (fun _ _ => rfl))))), ?_⟩
    obtain ⟨dR, nodes, msgs, com, led, hr⟩ := D.wd.run
    have hrp := hr.at_
    have hp := D.at_
    obtain ⟨ml, hml, hmp⟩ := hr.msgs
    have lenm : (ml.map V.ref).length = s.letters.length := by rw [List.length_map, hmp.length]; rfl
    refine ⟨_, rfl, _, rfl, _, _, _, _, _, rfl, hp, T.cl_Desk, T.na_Desk_running, lk_run _, _, _, _, _, _, rfl, hrp, T.cl_Running, T.na_Running_messages, lk_Running_messages _, msgs, _, rfl, .inl (SqL.of hml), _, _, rfl, rfl, ?_⟩
    refine ⟨decide (((n : Nat) : Int) < (((ml.map V.ref).length : Nat) : Int)), -1, rfl, fun hb => ?_, fun hb => ?_⟩
    · have hn : n < s.letters.length := by have := of_decide_eq_true hb; omega
      obtain ⟨x, hx⟩ : ∃ x, s.letters[n]? = some x := ⟨_, List.getElem?_eq_getElem hn⟩
      obtain ⟨mp, hmp1, hmp2⟩ := pair_get hmp hx
      refine ⟨_, rfl, _, _, _, _, _, rfl, hp, T.cl_Desk, T.na_Desk_running, lk_run _, _, _, _, _, _, rfl, hrp, T.cl_Running, T.na_Running_messages, lk_Running_messages _, _, rfl, msgs, _, ((n : Nat) : Int), _, rfl, rfl, SqL.of hml, atI_nat (v := .ref mp) (by rw [List.getElem?_map, hmp1]; rfl), ?_⟩
      exact k1 mp x hx hmp2
    · exact k2 (List.getElem?_eq_none (by have := of_decide_eq_false hb; omega))
end
/-- a message is taken out -/
theorem Wd.popMsg {A : Ad} {H F : Hp} {X : Addr → Prop} {u : U} {pr : Addr} {pn : Nat → Addr} (w : Wd A H F X u pr pn) {dR nodes msgs com led : Addr} (hr : H pr = some (.ins A.c_Running dR (rF ⟨nodes, msgs, com, led⟩))) (n : Nat) :
    ∃ ml : List Addr, H msgs = some (.lst (ml.map V.ref)) ∧ ml.length = u.ls.length ∧ ∀ P : Hp → Prop, (∀ H', Wd A H' F X { u with ls := u.ls.eraseIdx n } pr pn → Gd X H F H' F → P H') → P (upd H msgs (.lst ((ml.map V.ref).eraseIdx n))) := by
  obtain ⟨L, v, rfl, e2⟩ := w.ex
  have q := hr.symm.trans v.run
  injection q with q
  injection q with _ _ q
  have el : msgs = L.o .msgs := by
    have := congrArg (fun (l : List (Str × V)) => l[1]?.map (·.2)) q
    have := Option.some.inj this
    injection this
  subst el
  refine ⟨_, v.msgs, v.ml.length, fun P k => ?_⟩
  have e : (L.ml.map V.ref).eraseIdx n = (L.ml.eraseIdx n).map V.ref := map_erase _ _ _
  rw [e]
  exact k _ ⟨_, v.setMsgs (pair_erase n v.ml), rfl, e2⟩ (go_own v (t := .msgs) trivial (L' := { L with ml := L.ml.eraseIdx n }) rfl fun _ => rfl).gd
end Wk
end

section
set_option Elab.async false
set_option linter.all false
set_option maxRecDepth 100000
set_option maxHeartbeats 4000000
namespace Wk
open PySem PySem.Spec PyProof.Rows L2
theorem st_take (s : Ag12.State) (k : Nat) : Ag12.step (some s) (.take k) = match s.letters[k]? with | none => (some s, ([-1] : List Int)) | some x => (some (Ag12.hand { s with letters := s.letters.eraseIdx k } x).1, (Ag12.hand { s with letters := s.letters.eraseIdx k } x).2) := rfl
theorem st_keep (s : Ag12.State) (k : Nat) : Ag12.step (some s) (.keep k) = match s.letters[k]? with | none => (some s, ([-1] : List Int)) | some x => (some (Ag12.hand s x).1, (Ag12.hand s x).2) := rfl
theorem st_lose (s : Ag12.State) (k : Nat) : Ag12.step (some s) (.lose k) = if s.letters.length ≤ k then (some s, ([-1] : List Int)) else (some { s with letters := s.letters.eraseIdx k }, ([0] : List Int)) := rfl
theorem st_halt (s : Ag12.State) (i : Nat) : Ag12.step (some s) (.halt_ i) = if Ag12.NODES ≤ i then (some s, ([-1] : List Int)) else if (Ag12.node s i).up = false then (some s, ([-2] : List Int)) else (some (Ag12.setNode s i { Ag12.node s i with up := false }), ([0] : List Int)) := rfl
theorem st_start (s : Ag12.State) (i : Nat) : Ag12.step (some s) (.start i) = if Ag12.NODES ≤ i then (some s, ([-1] : List Int)) else if (Ag12.node s i).up = true then (some s, ([-2] : List Int)) else (some (Ag12.setNode s i { Ag12.node s i with up := true, role := 0, done := 0, votes := [], next := [], has := [] }), ([0] : List Int)) := rfl
section
variable {P : Program} {w : World} {K : PySem.W.Frag} {mg : Str → Option Value} {base : Heap} {A : Ad}
def spDTake (A : Ad) : Sp := fun vs H Q E => ∃ F X p dd pr pn s k n, vs = [.ref p, vn n] ∧ Dk A H F X p dd pr pn s k ∧ n ≤ 1000 ∧ Out A X pr pn H F s (.take n) Q E
theorem sc_Desk_deliver : FnScope n_Desk_deliver p_Desk_deliver (defScope s_Desk_deliver) := ⟨rfl, rfl, rfl, by decide +kernel, rfl, by decide +kernel, by decide +kernel⟩
theorem ok_Desk_deliver (T : Txt K mg A) : Keeps P w K mg base (L2.CX P w) 10 A.f_Desk_deliver p_Desk_deliver (spDTake A) := by
  obtain ⟨fd_Running_receive, G_Running_receive, b_Running_receive⟩ := ok_Running_receive (P := P) (w := w) (base := base) T
  obtain ⟨fd_Desk_message, G_Desk_message, b_Desk_message⟩ := ok_Desk_message (P := P) (w := w) (base := base) T
  obtain ⟨fd, F⟩ := T.F_Desk_deliver
  refine ⟨fd, F.okX sc_Desk_deliver (fun vs H Q E h => ?_) (fun cdv Ar outer s H vs Q E hr h => ?_), F.binds fun _ _ _ _ _ _ us hl => match us, hl with | [_, _], _ => rfl⟩
  · obtain ⟨F, X, p, dd, pr, pn, s, k, n, rfl, _⟩ := h
    rfl
  · obtain ⟨F, X, p, dd, pr, pn, s, k, n, rfl, D, hn1, o⟩ := h
    refine ⟨_, (pss_cons (ps_set (i := 2) sc_Desk_deliver.nd rfl (Or.inl rfl) (pe_meth (pv 0) T.cl_Desk T.m_Desk_message G_Desk_message (hr.mono (by decide)) b_Desk_message .nil (passes_call (takes_of rfl rfl rfl rfl) (fun _ _ _ _ z => z)) (pa_cons (pv 1) pa_nil)))
      (pss_cons (ps_expr (pe_bm PySem.F.plainAttrs_list PySem.F.slot_list_pop PySem.F.type_list_pop mt_popAt (pe_fld (pe_fld (pv 0) rfl) rfl) (pa_cons (pv 1) pa_nil)))
      (pss_one (ps_ret (pe_lst (pa_cons (pe_meth (pe_fld (pv 0) rfl) T.cl_Running T.m_Running_receive G_Running_receive (hr.mono (by decide)) b_Running_receive .nil pass0 (pa_cons (pv 2) pa_nil)) pa_nil)))))), ?_⟩
    have es := st_take s n
    refine ⟨_, rfl, _, _, _, rfl, D.at_, no_Desk _ (by decide +kernel), _, rfl, F, X, p, dd, pr, pn, s, k, n, rfl, D, fun mp x hx hm => ?_, fun hx => ?_⟩
    rotate_left
    · rw [hx] at es
      exact o.bad H _ es (Same.refl _)
    rw [hx] at es
    obtain ⟨dR, nodes, msgs, com, led, hr⟩ := D.wd.run
    have hrp := hr.at_
    have hp := D.at_
    have hn : n < s.letters.length := (List.getElem?_eq_some_iff.mp hx).1
    obtain ⟨ml, hml, lnm, up⟩ := D.wd.popMsg hrp n
    have lnm' : ml.length = s.letters.length := lnm
    obtain ⟨y, hy⟩ : ∃ y, (ml.map V.ref)[n]? = some y := ⟨_, List.getElem?_eq_getElem (by rw [List.length_map]; omega)⟩
    refine ⟨_, rfl, _, _, _, _, _, rfl, hp, T.cl_Desk, T.na_Desk_running, lk_run _, _, _, _, _, _, rfl, hrp, T.cl_Running, T.na_Running_messages, lk_Running_messages _, .inl ⟨rfl, _, SqL.of hml⟩, _, rfl, msgs, _, ((n : Nat) : Int), n, y, rfl, rfl, hml, by omega, by omega, ?_, hy, ?_⟩
    · exact (ixN_seq (ix_nat (by rw [List.length_map]; omega))).1
    refine up _ fun H1 w1 g1 => ?_
    have hp1 : H1 p = some (.ins A.c_Desk dd [("running", .ref pr)]) := (g1.keep p D.xp).trans hp
    obtain ⟨dR, nodes, msgs, com, led, hr1⟩ := w1.run
    have hrp1 := hr1.at_
    have hx' := List.mem_of_getElem? hx
    obtain ⟨l1, l2, l3, l4⟩ := D.ok.letter hx'
    have fit := fit_ok D.ok l1 (by have := D.k99; omega)
    have hlen : x.to_ < s.nodes.length := by rw [D.ok.sizes.1]; exact l1
    have fit1 : Fit ({ ofS s with ls := s.letters.eraseIdx n } : U) x.to_ := ⟨fit.row, fit.done, fit.told, fit.votes, by
      show (s.letters.eraseIdx n).length ≤ 100
      have := List.length_eraseIdx_le s.letters n
      have := D.ok.sizes.2.1
      omega, fit.led, fit.lead⟩
    refine ⟨_, rfl, _, _, _, _, _, rfl, hp1, T.cl_Desk, T.na_Desk_running, lk_run _, _, _, _, rfl, hrp1, no_Running_receive _, _, rfl, ?_⟩
    refine ⟨F, X, _, pr, pn, mp, x, rfl, w1, hm, l1, l2, l3, by have := D.k99; omega, fit1, fun H2 F2 w2 g2 => ?_⟩
    refine ⟨(by show 1 ≤ sizeLine; decide), fun q q0 => ?_⟩
    have he := hand_eq (s := { s with letters := s.letters.eraseIdx n }) (x := x) hlen fit.told l3
    have w2' : Wd A H2 F2 X (ofS (Ag12.hand { s with letters := s.letters.eraseIdx n } x).1) pr pn := by
      rw [he.1]
      exact w2
    refine o.done es w2' (g1.trans g2) q0 ?_
    rw [he.2]
    rfl
def spDLose (A : Ad) : Sp := fun vs H Q E => ∃ F X p dd pr pn s k n, vs = [.ref p, vn n] ∧ Dk A H F X p dd pr pn s k ∧ n ≤ 1000 ∧ Out A X pr pn H F s (.lose n) Q E
theorem sc_Desk_drop : FnScope n_Desk_drop p_Desk_drop (defScope s_Desk_drop) := ⟨rfl, rfl, rfl, by decide +kernel, rfl, by decide +kernel, by decide +kernel⟩
theorem ok_Desk_drop (T : Txt K mg A) : Keeps P w K mg base (L2.CX P w) 6 A.f_Desk_drop p_Desk_drop (spDLose A) := by
  obtain ⟨fd_Desk_message, G_Desk_message, b_Desk_message⟩ := ok_Desk_message (P := P) (w := w) (base := base) T
  obtain ⟨fd, F⟩ := T.F_Desk_drop
  refine ⟨fd, F.okX sc_Desk_drop (fun vs H Q E h => ?_) (fun cdv Ar outer s H vs Q E hr h => ?_), F.binds fun _ _ _ _ _ _ us hl => match us, hl with | [_, _], _ => rfl⟩
  · obtain ⟨F, X, p, dd, pr, pn, s, k, n, rfl, _⟩ := h
    rfl
  · obtain ⟨F, X, p, dd, pr, pn, s, k, n, rfl, D, hn1, o⟩ := h
    refine ⟨_, (pss_cons (ps_expr (pe_meth (pv 0) T.cl_Desk T.m_Desk_message G_Desk_message (hr.mono (by decide)) b_Desk_message .nil (passes_call (takes_of rfl rfl rfl rfl) (fun _ _ _ _ z => z)) (pa_cons (pv 1) pa_nil)))
      (pss_cons (ps_expr (pe_bm PySem.F.plainAttrs_list PySem.F.slot_list_pop PySem.F.type_list_pop mt_popAt (pe_fld (pe_fld (pv 0) rfl) rfl) (pa_cons (pv 1) pa_nil)))
      (pss_one (ps_ret (pe_lst (pa_cons pe_int pa_nil)))))), ?_⟩
    have es := st_lose s n
    refine ⟨_, rfl, _, _, _, rfl, D.at_, no_Desk _ (by decide +kernel), _, rfl, F, X, p, dd, pr, pn, s, k, n, rfl, D, fun mp x hx hm => ?_, fun hx => ?_⟩
    rotate_left
    · exact o.bad H _ (es.trans (if_pos (List.getElem?_eq_none_iff.mp hx))) (Same.refl _)
    obtain ⟨dR, nodes, msgs, com, led, hr⟩ := D.wd.run
    have hrp := hr.at_
    have hp := D.at_
    have hn : n < s.letters.length := (List.getElem?_eq_some_iff.mp hx).1
    rw [if_neg (by omega)] at es
    obtain ⟨ml, hml, lnm, up⟩ := D.wd.popMsg hrp n
    have lnm' : ml.length = s.letters.length := lnm
    obtain ⟨y, hy⟩ : ∃ y, (ml.map V.ref)[n]? = some y := ⟨_, List.getElem?_eq_getElem (by rw [List.length_map]; omega)⟩
    refine ⟨_, rfl, _, _, _, _, _, rfl, hp, T.cl_Desk, T.na_Desk_running, lk_run _, _, _, _, _, _, rfl, hrp, T.cl_Running, T.na_Running_messages, lk_Running_messages _, .inl ⟨rfl, _, SqL.of hml⟩, _, rfl, msgs, _, ((n : Nat) : Int), n, y, rfl, rfl, hml, by omega, by omega, ?_, hy, ?_⟩
    · exact (ixN_seq (ix_nat (by rw [List.length_map]; omega))).1
    refine up _ fun H1 w1 g1 => ?_
    refine ⟨(by show 1 ≤ sizeLine; decide), fun q q0 => ?_⟩
    exact o.done es w1 g1 q0 rfl
def spDHalt (A : Ad) : Sp := fun vs H Q E => ∃ F X p dd pr pn s k i, vs = [.ref p, vn i] ∧ Dk A H F X p dd pr pn s k ∧ Out A X pr pn H F s (.halt_ i) Q E
theorem sc_Desk_stop : FnScope n_Desk_stop p_Desk_stop (defScope s_Desk_stop) := ⟨rfl, rfl, rfl, by decide +kernel, rfl, by decide +kernel, by decide +kernel⟩
theorem ok_Desk_stop (T : Txt K mg A) : Keeps P w K mg base (L2.CX P w) 6 A.f_Desk_stop p_Desk_stop (spDHalt A) := by
  obtain ⟨fd_need, G_need, b_need⟩ := ok_need (P := P) (w := w) (base := base) T
  obtain ⟨fd_Desk_node, G_Desk_node, b_Desk_node⟩ := ok_Desk_node (P := P) (w := w) (base := base) T
  obtain ⟨fd, F⟩ := T.F_Desk_stop
  refine ⟨fd, F.okX sc_Desk_stop (fun vs H Q E h => ?_) (fun cdv Ar outer s H vs Q E hr h => ?_), F.binds fun _ _ _ _ _ _ us hl => match us, hl with | [_, _], _ => rfl⟩
  · obtain ⟨F, X, p, dd, pr, pn, s, k, i, rfl, _⟩ := h
    rfl
  · obtain ⟨F, X, p, dd, pr, pn, s, k, i, rfl, D, o⟩ := h
    refine ⟨_, (pss_cons (ps_set (i := 2) sc_Desk_stop.nd rfl (Or.inl rfl) (pe_meth (pv 0) T.cl_Desk T.m_Desk_node G_Desk_node (hr.mono (by decide)) b_Desk_node .nil (passes_call (takes_of rfl rfl rfl rfl) (fun _ _ _ _ z => z)) (pa_cons (pv 1) pa_nil)))
      (pss_cons (ps_expr (pe_call G_need (hr.mono (by decide)) (by rfl) T.g_need T.k_need b_need .nil (passes_call (takes_of rfl rfl rfl rfl) (fun _ _ _ _ z => z)) (pa_cons (pe_fld (pv 2) rfl) (pa_cons (pe_k rfl T.c_WRONG_ROLE) pa_nil))))
      (pss_cons (ps_fld (pv 2) pe_bl rfl)
      (pss_one (ps_ret (pe_lst (pa_cons pe_int pa_nil))))))), ?_⟩
    have es := st_halt s i
    refine ⟨_, rfl, _, _, _, rfl, D.at_, no_Desk _ (by decide +kernel), _, rfl, F, X, p, dd, pr, pn, s, k, i, rfl, D, fun hi => ?_, fun hi => ?_⟩
    rotate_left
    · exact o.bad H _ (es.trans (if_pos (show 5 ≤ i by omega))) (Same.refl _)
    rw [if_neg (show ¬ Ag12.NODES ≤ i from fun z => by have : 5 ≤ i := z; omega)] at es
    obtain ⟨dx, lg, vt, nx, mt, hn, _⟩ := (D.wd.node hi).ex
    refine ⟨_, rfl, _, _, _, _, _, rfl, hn, T.cl_Node, T.na_Node_is_running, lk_Node_is_running _, ?_⟩
    refine ⟨(Ag12.node s i).up, -2, rfl, fun hu => ?_, fun hu => ?_⟩
    rotate_left
    · exact o.bad H _ (es.trans (if_pos hu)) (Same.refl _)
    rw [if_neg (by rw [hu]; exact fun z => nomatch z)] at es
    obtain ⟨dx, fs, hp, hl, up⟩ := D.wd.fld hi (f := "is_running") (y := .bl false) (n := { Ag12.node s i with up := false }) (fun _ _ _ _ => pt_Node_is_running _ _) rfl rfl rfl rfl
    refine ⟨_, rfl, _, _, _, _, rfl, hp, T.cl_Node, T.na_Node_is_running, hl, up _ fun H1 w1 g1 => ?_⟩
    clear up hp
    have fit := fit_ok D.ok hi (by have := D.k99; omega)
    have w1' : Wd A H1 F X (ofS (Ag12.setNode s i { Ag12.node s i with up := false })) pr pn := by
      rw [ofS_setNode _ (by rw [D.ok.sizes.1]; exact hi), U.setN_eq (by exact fit.told)]
      exact w1
    refine ⟨(by show 1 ≤ sizeLine; decide), fun q q0 => ?_⟩
    exact o.done es w1' g1 q0 rfl
theorem Left.upd2 {H H' : Hp} {p a b c : Addr} {o o' : HO} (hp : H p = some o) (l : Left H H' a b c) : Left (upd H p o') H' a b c where
  na := by rw [upd_ne (ne_of_none hp l.na).symm]; exact l.na
  nb := by rw [upd_ne (ne_of_none hp l.nb).symm]; exact l.nb
  nc := by rw [upd_ne (ne_of_none hp l.nc).symm]; exact l.nc
  ab := l.ab
  ac := l.ac
  bc := l.bc
  ha := l.ha
  hb := l.hb
  hc := l.hc
def sdBegin (A : Ad) : Sp := fun vs H Q _ => ∃ F X u pr pn i, vs = [.ref (pn i)] ∧ Wd A H F X u pr pn ∧ i < 5 ∧ ∀ H' F', Wd A H' F' X (u.set i { u.nd i with role := 0, done := 0, votes := [], next := [], has := [] }) pr pn → Gd X H F H' F' → Q .non H'
theorem od_Node_begin (T : Txt K mg A) : Keeps P w K mg base CX0 2 A.f_Node_begin p_Node_begin (sdBegin A) := by
  obtain ⟨fd, G, b⟩ := ok_Node_begin (P := P) (w := w) (base := base) T
  refine ⟨fd, G.imp fun vs H Q E h => ?_, b⟩
  obtain ⟨F, X, u, pr, pn, i, rfl, wd, hi, k⟩ := h
  obtain ⟨dx, lg, vt, nx, mt, hp, up⟩ := wd.fldE hi (f := "role") (y := .int 0) (n := { u.nd i with role := 0 }) (fun _ _ _ _ => pt_role0 _) rfl rfl rfl rfl
  refine ⟨_, _, _, rfl, hp, (by show 11 ≤ 90; decide), ?_, ?_, fun H' a b c l hp' kp => ?_⟩
  · unfold begunF leftF
    rw [pt_role0, pt_commit0, pt_Node_votes, pt_Node_nexts, pt_Node_matches]
    exact no_Node_leave _
  · rw [pt_role0, pt_commit0]
    exact no_Node_leave _
  · obtain ⟨L, v, rfl, e2⟩ := wd.ex
    have e := v.nd i hi
    rw [e2 i] at e
    have q := hp.symm.trans e
    injection q with q
    injection q with _ q1 q2
    subst q1
    have w1 := v.setNode hi (n := { u.nd i with role := 0, done := 0 }) (lg := L.lg i) (vt := L.vt i) (v.lg i hi) (v.vt i hi) rfl rfl
    have g1 := go_setNode v hi (o := .ins A.c_Node (L.dN i) (nF (nrec i u.z { u.nd i with role := 0, done := 0 } (L.lg i) (L.vt i) (L.o (.nx i)) (L.o (.mt i))))) (lg := L.lg i) (vt := L.vt i)
    obtain ⟨F', L', w2, g2⟩ := w1.leave hi (l.upd2 (by rw [e2 i]; exact e)) (by
      show H' (L.o (.nd i)) = _
      rw [e2 i, hp', q2]
      unfold begunF
      rw [pt_role0, pt_commit0, leftF_nF, U.set_nd]
      show _ = some (HO.ins A.c_Node (L.dN i) (nF (nrec i u.z _ (setf L.lg i (L.lg i) i) a b c)))
      rw [setf_eq]
      rfl) (fun b o hb hne => by
        have hne' : b ≠ L.o (.nd i) := hne
        rw [upd_ne hne'] at hb
        exact kp b o hb (by rw [← e2 i]; exact hne'))
    rw [U.set_set, U.set_nd] at w2
    exact k H' F' ⟨L', w2, (g1.trans g2).run, fun j => ((g1.trans g2).nd j).trans (e2 j)⟩ (g1.trans g2).gd
end
end Wk
end

section
set_option Elab.async false
set_option linter.all false
set_option maxRecDepth 100000
set_option maxHeartbeats 4000000
namespace Wk
open PySem PySem.Spec PyProof.Rows L2
section
variable {P : Program} {w : World} {K : PySem.W.Frag} {mg : Str → Option Value} {base : Heap} {A : Ad}
def spDStart (A : Ad) : Sp := fun vs H Q E => ∃ F X p dd pr pn s k i, vs = [.ref p, vn i] ∧ Dk A H F X p dd pr pn s k ∧ Out A X pr pn H F s (.start i) Q E
theorem sc_Desk_restart : FnScope n_Desk_restart p_Desk_restart (defScope s_Desk_restart) := ⟨rfl, rfl, rfl, by decide +kernel, rfl, by decide +kernel, by decide +kernel⟩
theorem ok_Desk_restart (T : Txt K mg A) : Keeps P w K mg base (L2.CX P w) 6 A.f_Desk_restart p_Desk_restart (spDStart A) := by
  obtain ⟨fd_Node_begin, G_Node_begin, b_Node_begin⟩ := od_Node_begin (P := P) (w := w) (base := base) T
  obtain ⟨fd_need, G_need, b_need⟩ := ok_need (P := P) (w := w) (base := base) T
  obtain ⟨fd_Desk_node, G_Desk_node, b_Desk_node⟩ := ok_Desk_node (P := P) (w := w) (base := base) T
  obtain ⟨fd, F⟩ := T.F_Desk_restart
  refine ⟨fd, F.okX sc_Desk_restart (fun vs H Q E h => ?_) (fun cdv Ar outer s H vs Q E hr h => ?_), F.binds fun _ _ _ _ _ _ us hl => match us, hl with | [_, _], _ => rfl⟩
  · obtain ⟨F, X, p, dd, pr, pn, s, k, i, rfl, _⟩ := h
    rfl
  · obtain ⟨F, X, p, dd, pr, pn, s, k, i, rfl, D, o⟩ := h
    refine ⟨_, (pss_cons (ps_set (i := 2) sc_Desk_restart.nd rfl (Or.inl rfl) (pe_meth (pv 0) T.cl_Desk T.m_Desk_node G_Desk_node (hr.mono (by decide)) b_Desk_node .nil (passes_call (takes_of rfl rfl rfl rfl) (fun _ _ _ _ z => z)) (pa_cons (pv 1) pa_nil)))
      (pss_cons (ps_expr (pe_call G_need (hr.mono (by decide)) (by rfl) T.g_need T.k_need b_need .nil (passes_call (takes_of rfl rfl rfl rfl) (fun _ _ _ _ z => z)) (pa_cons (pe_not (pe_fld (pv 2) rfl)) (pa_cons (pe_k rfl T.c_WRONG_ROLE) pa_nil))))
      (pss_cons (ps_fld (pv 2) pe_bl rfl)
      (pss_cons (ps_expr (pe_meth0 (pv 2) T.cl_Node T.m_Node_begin G_Node_begin (hr.mono (by decide)) b_Node_begin .nil pass0))
      (pss_one (ps_ret (pe_lst (pa_cons pe_int pa_nil)))))))), ?_⟩
    have es := st_start s i
    refine ⟨_, rfl, _, _, _, rfl, D.at_, no_Desk _ (by decide +kernel), _, rfl, F, X, p, dd, pr, pn, s, k, i, rfl, D, fun hi => ?_, fun hi => ?_⟩
    rotate_left
    · exact o.bad H _ (es.trans (if_pos (show 5 ≤ i by omega))) (Same.refl _)
    rw [if_neg (show ¬ Ag12.NODES ≤ i from fun z => by have : 5 ≤ i := z; omega)] at es
    obtain ⟨dx, lg, vt, nx, mt, hn, _⟩ := (D.wd.node hi).ex
    refine ⟨_, rfl, _, _, _, _, _, rfl, hn, T.cl_Node, T.na_Node_is_running, lk_Node_is_running _, _, rfl, ?_⟩
    refine ⟨!(Ag12.node s i).up, -2, rfl, fun hu => ?_, fun hu => ?_⟩
    rotate_left
    · exact o.bad H _ (es.trans (if_pos (by cases z : (Ag12.node s i).up with | true => rfl | false => rw [z] at hu; cases hu))) (Same.refl _)
    rw [if_neg (fun z => by rw [z] at hu; cases hu)] at es
    obtain ⟨dx, fs, hp, hl, up⟩ := D.wd.fld hi (f := "is_running") (y := .bl true) (n := { Ag12.node s i with up := true }) (fun _ _ _ _ => pt_Node_is_running _ _) rfl rfl rfl rfl
    refine ⟨_, rfl, _, _, _, _, rfl, hp, T.cl_Node, T.na_Node_is_running, hl, up _ fun H1 w1 g1 => ?_⟩
    clear up hp
    obtain ⟨dx, lg, vt, nx, mt, hp, _⟩ := (w1.node_set hi).ex
    refine ⟨_, rfl, _, _, _, rfl, hp, no_Node_begin _, F, X, _, pr, pn, i, rfl, w1, hi, fun H2 F2 w2 g2 => ?_⟩
    rw [U.set_set, U.set_nd] at w2
    have w2' : Wd A H2 F2 X (ofS (Ag12.setNode s i { Ag12.node s i with up := true, role := 0, done := 0, votes := [], next := [], has := [] })) pr pn := by
      rw [ofS_setNode _ (by rw [D.ok.sizes.1]; exact hi), U.setN_eq (by exact Nat.zero_le _)]
      exact w2
    refine ⟨(by show 1 ≤ sizeLine; decide), fun q q0 => ?_⟩
    exact o.done es w2' (g1.trans g2) q0 rfl
/-! ### what is told -/
def toldMs (s : Ag12.State) : List Nat := s.letters.length :: s.letters.flatMap toldM
def toldLs (s : Ag12.State) : List Nat := s.led.length :: s.led.flatMap fun (x : Nat × Nat) => [x.1, x.2]
theorem st_letters (s : Ag12.State) : Ag12.step (some s) .letters = (some s, Ag12.nums (toldMs s)) := rfl
theorem st_led (s : Ag12.State) : Ag12.step (some s) .led = (some s, Ag12.nums (toldLs s)) := rfl
theorem st_told (s : Ag12.State) : Ag12.step (some s) .told = (some s, Ag12.nums (Ag12.entries s.told)) := rfl
theorem st_node (s : Ag12.State) (i : Nat) : Ag12.step (some s) (.node i) = (some s, if Ag12.NODES ≤ i then ([-1] : List Int) else toldN s.first (Ag12.node s i)) := rfl
theorem flat_take {α : Type} (f : α → List Nat) {l : List α} {i : Nat} {x : α} (h : l[i]? = some x) : (l.take (i + 1)).flatMap f = (l.take i).flatMap f ++ f x := by
  rw [List.take_add_one, h, List.flatMap_append]
  show _ ++ (f x ++ []) = _
  rw [List.append_nil]
theorem flat_len {α : Type} (f : α → List Nat) (m : Nat) : ∀ {l : List α}, (∀ x, x ∈ l → (f x).length ≤ m) → (l.flatMap f).length ≤ l.length * m
  | [], _ => Nat.zero_le _
  | a :: l, h => by
    rw [List.flatMap_cons, List.length_append, List.length_cons, Nat.add_mul, Nat.one_mul]
    have h1 := h a List.mem_cons_self
    have h2 := flat_len f m (l := l) fun x hx => h x (List.mem_cons_of_mem _ hx)
    omega
theorem entries_flat (l : List Ent) : (Ag12.entries l).length = 3 * l.length + 1 := by
  rw [entries_len]
  try omega
theorem toldM_len {x : Lett} {k : Nat} (h : x.a + x.entries.length ≤ k) : (toldM x).length ≤ 3 * k + 10 := by
  unfold toldM
  split
  · simp only [List.length_append, List.length_cons, List.length_nil]; omega
  · simp only [List.length_append, List.length_cons, List.length_nil]; omega
  · simp only [List.length_append, List.length_cons, List.length_nil, entries_len]; omega
  · simp only [List.length_append, List.length_cons, List.length_nil]; omega
def spDLetters (A : Ad) : Sp := fun vs H Q E => ∃ F X p dd pr pn s k, vs = [.ref p] ∧ Dk A H F X p dd pr pn s k ∧ ∀ H' q, Same H H' → H q = none → H' q = some (.lst (nl (toldMs s))) → Q (.ref q) H'
theorem sc_Desk_told_messages : FnScope n_Desk_told_messages p_Desk_told_messages (defScope s_Desk_told_messages) := ⟨rfl, rfl, rfl, by decide +kernel, rfl, by decide +kernel, by decide +kernel⟩
theorem ok_Desk_told_messages (T : Txt K mg A) : Keeps P w K mg base CX0 3 A.f_Desk_told_messages p_Desk_told_messages (spDLetters A) := by
  obtain ⟨fd_Message_told, G_Message_told, b_Message_told⟩ := ok_Message_told (P := P) (w := w) (base := base) T
  obtain ⟨fd, F⟩ := T.F_Desk_told_messages
  refine ⟨fd, F.ok sc_Desk_told_messages (fun vs H Q E h => ?_) (fun cdv Ar outer s H vs Q E hr h => ?_), F.binds fun _ _ _ _ _ _ us hl => match us, hl with | [_], _ => rfl⟩
  · obtain ⟨F, X, p, dd, pr, pn, s, k, rfl, _⟩ := h
    rfl
  · obtain ⟨F, X, p, dd, pr, pn, s, k, rfl, D, o⟩ := h
    refine ⟨_, (pss_cons (ps_set (i := 1) sc_Desk_told_messages.nd rfl (Or.inl rfl) (pe_lst (pa_cons (pe_callB (r := rLenK K) call_len_seq (by rfl) T.b_len PySem.boot_len (pa_cons (pe_fld (pe_fld (pv 0) rfl) rfl) pa_nil)) pa_nil)))
      (pss_cons (ps_for PassesOwn.never rfl (pi_list (pe_fld (pe_fld (pv 0) rfl) rfl)) (pg_name (i := 2) sc_Desk_told_messages.nd rfl (Or.inl rfl)) (pss_one (ps_expr (pe_bm PySem.F.plainAttrs_list PySem.F.slot_list_extend PySem.F.type_list_extend mt_extend (pv 1) (pa_cons (pe_meth0 (pv 2) T.cl_Message T.m_Message_told G_Message_told (hr.mono (by decide)) b_Message_told .nil pass0) pa_nil)))))
      (pss_one (ps_ret (pv 1))))), ?_⟩
    obtain ⟨dR, nodes, msgs, com, led, hr⟩ := D.wd.run
    have hrp := hr.at_
    have hp := D.at_
    obtain ⟨ml, hml, hmp⟩ := hr.msgs
    have lenm : (ml.map V.ref).length = s.letters.length := by rw [List.length_map, hmp.length]; rfl
    have hk := D.k99
    have hls := D.ok.sizes.2.1
    refine ⟨_, rfl, _, _, _, _, _, rfl, hp, T.cl_Desk, T.na_Desk_running, lk_run _, _, _, _, _, _, rfl, hrp, T.cl_Running, T.na_Running_messages, lk_Running_messages _, msgs, _, rfl, .inl (SqL.of hml), (by show 1 ≤ sizeLine; decide), fun q q0 => ?_⟩
    have s1 := fun o => nw q0 o
    refine ⟨_, rfl, _, _, _, _, _, rfl, s1 _ _ _ hp, T.cl_Desk, T.na_Desk_running, lk_run _, _, _, _, _, _, rfl, s1 _ _ _ hrp, T.cl_Running, T.na_Running_messages, lk_Running_messages _, msgs, rfl, ⟨_, SqL.of (s1 _ _ _ hml)⟩, for_list (xs := ml.map V.ref) (fun j σ H' => ∃ b : Option V, σ = [some (.ref p), some (.ref q), b] ∧ Same H H' ∧ H' q = some (.lst (nl (s.letters.length :: (s.letters.take j).flatMap toldM)))) ⟨none, rfl, s1 _, ?_⟩ (fun j σ H' _ ⟨_, _, s2, _⟩ => SqL.of (s2 _ _ hml)) ?_ ?_⟩
    · rw [upd_same, lenm]
      rfl
    · rintro j y σ H' hy ⟨b, rfl, s2, hq⟩
      obtain ⟨mp, hmp1, rfl⟩ := get_refs hy
      obtain ⟨x, hx, hm⟩ := pair_at hmp hmp1
      have hx : s.letters[j]? = some x := hx
      have hk4 := D.ok.letter (List.mem_of_getElem? hx)
      have hmH : MsgAt A H' mp x := (hm.mono D.wd.same).mono s2
      obtain ⟨dm, na, ea, hmF, _⟩ := hmH
      refine ⟨_, rfl, .inl ⟨rfl, _, SqL.of hq⟩, _, rfl, _, _, _, rfl, hmF, no_Message_told _, mp, x, rfl, (hm.mono D.wd.same).mono s2, by omega, hk4.2.2.1, fun H3 r s3 r0 r1 => ?_⟩
      have hq3 := s3 _ _ hq
      have z1 : ((s.letters.take j).flatMap toldM).length ≤ (s.letters.take j).length * 400 := flat_len _ _ fun y hy => by
        have := toldM_len (D.ok.letter (List.mem_of_mem_take hy)).2.2.2
        omega
      have z2 : (s.letters.take j).length ≤ 100 := by rw [List.length_take]; omega
      have z3 := toldM_len hk4.2.2.2
      refine ⟨q, r, _, _, rfl, rfl, hq3, r1, ?_, ?_⟩
      · rw [nl_len, nl_len, List.length_cons]
        refine size_le ?_
        have : (s.letters.take j).length * 400 ≤ 100 * 400 := Nat.mul_le_mul_right _ z2
        omega
      · refine ⟨_, rfl, same_upd (s2.trans s3) q0, ?_⟩
        rw [upd_same, flat_take _ hx, ← nl_append]
        rfl
    · rintro σ H' ⟨b, rfl, s2, hq⟩
      rw [lenm, List.take_length] at hq
      exact ⟨_, rfl, o H' q s2 q0 hq⟩
end
end Wk
end

section
set_option Elab.async false
set_option linter.all false
set_option maxRecDepth 100000
set_option maxHeartbeats 4000000
namespace Wk
open PySem PySem.Spec PyProof.Rows L2
/-- what lies outside is changed: the world stands -/
theorem Wd.updX {A : Ad} {H F : Hp} {X : Addr → Prop} {u : U} {pr : Addr} {pn : Nat → Addr} (w : Wd A H F X u pr pn) {p : Addr} (hp : X p) (o : HO) : Wd A (upd H p o) F X u pr pn := by
  obtain ⟨L, w, e⟩ := w.ex
  have ns : ∀ t : Slot, t.ok → L.o t ≠ p := fun t ht c => (w.own t ht).2 (c ▸ hp)
  refine ⟨L, ?_, e⟩
  exact {
    same := fun b q h => by
      have : b ≠ p := fun c => by rw [c, (w.ext p hp).1] at h; cases h
      rw [upd_ne this]
      exact w.same _ _ h
    ext := fun b hb => ⟨(w.ext b hb).1, by
      by_cases c : b = p
      · subst c
        exact ⟨o, upd_same⟩
      · rw [upd_ne c]
        exact (w.ext b hb).2⟩
    own := w.own
    inj := w.inj
    run := (upd_ne (ns .run trivial)).trans w.run
    nodes := w.nodes
    msgs := (upd_ne (ns .msgs trivial)).trans w.msgs
    ml := w.ml
    com := w.com
    led := (upd_ne (ns .led trivial)).trans w.led
    ll := w.ll
    nd := fun i hi => (upd_ne (ns (.nd i) hi)).trans (w.nd i hi)
    lg := w.lg
    vt := w.vt
    nx := fun i hi => (upd_ne (ns (.nx i) hi)).trans (w.nx i hi)
    mt := fun i hi => (upd_ne (ns (.mt i) hi)).trans (w.mt i hi) }
theorem nl_toI (g : List Nat) : nl g = (toI g).map V.int := by
  unfold nl toI
  rw [List.map_map]
  rfl
theorem take_filter_nat (q : Nat → Bool) {l : List Nat} {i k : Nat} (h : l[i]? = some k) : (l.take (i + 1)).filter q = if q k = true then (l.take i).filter q ++ [k] else (l.take i).filter q := take_filter_succ q h
theorem filter_empty (q : Nat → Bool) : ∀ g : List Nat, (g.filter q).isEmpty = !(g.any q)
  | [] => rfl
  | a :: l => by
    cases h : q a with
    | true => rw [List.filter_cons_of_pos h, List.any_cons, h]; rfl
    | false => rw [List.filter_cons_of_neg (by simp [h]), List.any_cons, h, Bool.false_or]; exact filter_empty q l
section
variable {P : Program} {w : World} {K : PySem.W.Frag} {mg : Str → Option Value} {base : Heap} {A : Ad}
def spDLed (A : Ad) : Sp := fun vs H Q E => ∃ F X p dd pr pn s k, vs = [.ref p] ∧ Dk A H F X p dd pr pn s k ∧ ∀ H' q, Same H H' → H q = none → H' q = some (.lst (nl (toldLs s))) → Q (.ref q) H'
theorem sc_Desk_told_leaders : FnScope n_Desk_told_leaders p_Desk_told_leaders (defScope s_Desk_told_leaders) := ⟨rfl, rfl, rfl, by decide +kernel, rfl, by decide +kernel, by decide +kernel⟩
theorem ok_Desk_told_leaders (T : Txt K mg A) : Keeps P w K mg base CX0 1 A.f_Desk_told_leaders p_Desk_told_leaders (spDLed A) := by
  
  obtain ⟨fd, F⟩ := T.F_Desk_told_leaders
  refine ⟨fd, F.ok sc_Desk_told_leaders (fun vs H Q E h => ?_) (fun cdv Ar outer s H vs Q E hr h => ?_), F.binds fun _ _ _ _ _ _ us hl => match us, hl with | [_], _ => rfl⟩
  · obtain ⟨F, X, p, dd, pr, pn, s, k, rfl, _⟩ := h
    rfl
  · obtain ⟨F, X, p, dd, pr, pn, s, k, rfl, D, o⟩ := h
    refine ⟨_, (pss_cons (ps_set (i := 1) sc_Desk_told_leaders.nd rfl (Or.inl rfl) (pe_lst (pa_cons (pe_callB (r := rLenK K) call_len_seq (by rfl) T.b_len PySem.boot_len (pa_cons (pe_fld (pe_fld (pv 0) rfl) rfl) pa_nil)) pa_nil)))
      (pss_cons (ps_for PassesOwn.never rfl (pi_list (pe_fld (pe_fld (pv 0) rfl) rfl)) (pg_name (i := 2) sc_Desk_told_leaders.nd rfl (Or.inl rfl)) (pss_one (ps_expr (pe_bm PySem.F.plainAttrs_list PySem.F.slot_list_extend PySem.F.type_list_extend mt_extend (pv 1) (pa_cons (pe_callTy call_list_of (by rfl) T.b_list (by decide +kernel) (pa_cons (pv 2) pa_nil)) pa_nil)))))
      (pss_one (ps_ret (pv 1))))), ?_⟩
    obtain ⟨dR, nodes, msgs, com, led, hr⟩ := D.wd.run
    have hrp := hr.at_
    have hp := D.at_
    obtain ⟨ll, hll, hlp⟩ := hr.led
    have lenm : (ll.map V.ref).length = s.led.length := by rw [List.length_map, hlp.length]; rfl
    have hk := D.k99
    have hls := D.ok.sizes.2.2.2
    refine ⟨_, rfl, _, _, _, _, _, rfl, hp, T.cl_Desk, T.na_Desk_running, lk_run _, _, _, _, _, _, rfl, hrp, T.cl_Running, T.na_Running_leaders, lk_Running_leaders _, led, _, rfl, .inl (SqL.of hll), (by show 1 ≤ sizeLine; decide), fun q q0 => ?_⟩
    have s1 := fun o => nw q0 o
    refine ⟨_, rfl, _, _, _, _, _, rfl, s1 _ _ _ hp, T.cl_Desk, T.na_Desk_running, lk_run _, _, _, _, _, _, rfl, s1 _ _ _ hrp, T.cl_Running, T.na_Running_leaders, lk_Running_leaders _, led, rfl, ⟨_, SqL.of (s1 _ _ _ hll)⟩, for_list (xs := ll.map V.ref) (fun j σ H' => ∃ b : Option V, σ = [some (.ref p), some (.ref q), b] ∧ Same H H' ∧ H' q = some (.lst (nl (s.led.length :: (s.led.take j).flatMap fun (x : Nat × Nat) => [x.1, x.2])))) ⟨none, rfl, s1 _, ?_⟩ (fun j σ H' _ ⟨_, _, s2, _⟩ => SqL.of (s2 _ _ hll)) ?_ ?_⟩
    · rw [upd_same, lenm]
      rfl
    · rintro j y σ H' hy ⟨b, rfl, s2, hq⟩
      obtain ⟨mp, hmp1, rfl⟩ := get_refs hy
      obtain ⟨x, hx, hm⟩ := pair_at hlp hmp1
      have hx : s.led[j]? = some x := hx
      have hmH := s2 _ _ (D.wd.same _ _ hm)
      refine ⟨_, rfl, .inl ⟨rfl, _, SqL.of hq⟩, _, rfl, mp, _, rfl, .inr (SqT.of hmH), fun r r0 => ?_⟩
      have hqr : q ≠ r := ne_of_none hq r0
      have z1 : ((s.led.take j).flatMap fun (x : Nat × Nat) => [x.1, x.2]).length ≤ (s.led.take j).length * 2 := flat_len _ _ fun y hy => Nat.le_refl _
      have z2 : (s.led.take j).length ≤ 100 := by rw [List.length_take]; omega
      refine ⟨q, r, _, _, rfl, rfl, (upd_ne hqr).trans hq, upd_same, ?_, ?_⟩
      · rw [nl_len, List.length_cons]
        refine size_le ?_
        show _ + 1 + 2 ≤ _
        omega
      · refine ⟨_, rfl, same_upd (s2.trans (nw r0 _)) q0, ?_⟩
        rw [upd_same, flat_take _ hx]
        show some (HO.lst (nl (s.led.length :: (s.led.take j).flatMap fun (x : Nat × Nat) => [x.1, x.2]) ++ nl [x.1, x.2])) = _
        rw [← nl_append]
        rfl
    · rintro σ H' ⟨b, rfl, s2, hq⟩
      rw [lenm, List.take_length] at hq
      exact ⟨_, rfl, o H' q s2 q0 hq⟩
/-! ### begin -/
def badB (g : List Nat) : Bool := g.isEmpty || (!Ag12.once g || g.any fun x => decide (5 ≤ x))
def maskOf (g : List Nat) : Nat := g.foldl (fun (m : Nat) (x : Nat) => m + 2 ^ x) 0
def spDBegin (A : Ad) : Sp := fun vs H Q E => ∃ X p dd rv ga g, vs = [.ref p, .ref ga] ∧ H p = some (.ins A.c_Desk dd [("running", rv)]) ∧ X p ∧ (∀ b, X b → ∃ o, H b = some o) ∧ H ga = some (.lst (nl g)) ∧ g.length ≤ 10 ∧
  (badB g = false → ∀ H' F' pr pn q, H' p = some (.ins A.c_Desk dd [("running", .ref pr)]) → (∀ b, X b → b ≠ p → H' b = H b) → Wd A H' F' X (ofS ⟨maskOf g, List.replicate 5 fresh5, [], [], []⟩) pr pn → ¬ X q → H' q = some (.lst [.int 0]) → Q (.ref q) H') ∧
  (badB g = true → ∀ H1, Same H H1 → Rz A E H1 (-1))
theorem sc_Desk_begin : FnScope n_Desk_begin p_Desk_begin (defScope s_Desk_begin) := ⟨rfl, rfl, rfl, by decide +kernel, rfl, by decide +kernel, by decide +kernel⟩
theorem ok_Desk_begin (T : Txt K mg A) : Keeps P w K mg base (L2.CX P w) 7 A.f_Desk_begin p_Desk_begin (spDBegin A) := by
  obtain ⟨fd_Running_init, G_Running_init, b_Running_init⟩ := ok_Running_init (P := P) (w := w) (base := base) T
  obtain ⟨fd_need, G_need, b_need⟩ := ok_need (P := P) (w := w) (base := base) T
  obtain ⟨fd, F⟩ := T.F_Desk_begin
  refine ⟨fd, F.okX sc_Desk_begin (fun vs H Q E h => ?_) (fun cdv Ar outer s H vs Q E hr h => ?_), F.binds fun _ _ _ _ _ _ us hl => match us, hl with | [_, _], _ => rfl⟩
  · obtain ⟨X, p, dd, rv, ga, g, rfl, _⟩ := h
    rfl
  · obtain ⟨X, p, dd, rv, ga, g, rfl, hp, hXp, hX, hg, hgl, k1, k2⟩ := h
    refine ⟨_, (pss_cons (ps_set (i := 2) sc_Desk_begin.nd rfl (Or.inl rfl) (pe_cmpR (op_eqD hr.units) (pe_lc (own := [("number", 3)]) rfl sc_Desk_begin.nd (pi_list (pv 1)) (blkOk_by (own := [("number", 3)]) (N := n_Desk_begin) (sc := defScope s_Desk_begin) (by decide +kernel)) (fun _ _ _ _ _ => (pg_name (i := 3) sc_Desk_begin.nd rfl (Or.inl rfl))) (fun _ _ _ _ _ => (pts_one (pt_cmpR op_ge (pv 3) (pe_k rfl T.c_MANY) (nomark _)))) (fun _ _ _ _ _ => (pv 3))) (pe_lst pa_nil) (nomark _)))
      (pss_cons (ps_expr (pe_call G_need (hr.mono (by decide)) (by rfl) T.g_need T.k_need b_need .nil (passes_call (takes_of rfl rfl rfl rfl) (fun _ _ _ _ z => z)) (pa_cons (pe_and (pe_cmpR (op_neD hr.units) (pv 1) (pe_lst pa_nil) (nomark _)) (pe_and (pv 2) (pe_one (pe_cmpR op_eq (pe_lenSetN (by rfl) T.b_len (by rfl) T.b_set (pv 1)) (pe_callB (r := rLenK K) call_len_seq (by rfl) T.b_len PySem.boot_len (pa_cons (pv 1) pa_nil)) (nomark _))))) (pa_cons (pe_k rfl T.c_OUT) pa_nil))))
      (pss_cons (ps_fld (pv 0) (pe_make T.mk_Running G_Running_init (hr.mono (by decide)) (by rfl) T.g_Running b_Running_init .nil pass0 (pa_cons (pe_callB (cr_sum rfl) (by rfl) T.b_sum (by decide +kernel) (pa_cons (pe_lc (own := [("number", 3)]) rfl sc_Desk_begin.nd (pi_list (pv 1)) (blkOk_by (own := [("number", 3)]) (N := n_Desk_begin) (sc := defScope s_Desk_begin) (by decide +kernel)) (fun _ _ _ _ _ => (pg_name (i := 3) sc_Desk_begin.nd rfl (Or.inl rfl))) (fun _ _ _ _ _ => pts_nil) (fun _ _ _ _ _ => (pe_ix (r := rIxT K) ix_tup (pe_glob (v := .ref A.a_BITS) rfl T.g_BITS rfl) (pv 3) (fun _ _ => rfl)))) pa_nil)) pa_nil)) rfl)
      (pss_one (ps_ret (pe_lst (pa_cons pe_int pa_nil))))))), ?_⟩
    refine ⟨_, rfl, ga, rfl, ⟨_, SqL.of hg⟩, fun D hD => lc_list (a := ga) (xs := nl g) (fun j H' => Same H H' ∧ H' D = some (.lst (nl ((g.take j).filter fun x => decide (5 ≤ x))))) ⟨same_new hD, upd_same⟩ (fun j H' _ ⟨s2, _⟩ => SqL.of (s2 _ _ hg)) ?_ ?_⟩
    · rintro j y H' hy ⟨s2, hd⟩
      obtain ⟨m, hm, rfl⟩ := get_nl hy
      refine ⟨rfl, _, rfl, _, _, rfl, rfl, _, rfl, ?_⟩
      rw [take_filter_nat _ hm]
      show if decide ((5 : Int) ≤ ((m : Nat) : Int)) = true then _ else _
      by_cases c : 5 ≤ m
      · rw [decide_eq_true (show (5 : Int) ≤ ((m : Nat) : Int) by omega), decide_eq_true c]
        refine iteT ⟨_, rfl, _, hd, size_small (by rw [nl_len]; have := List.length_filter_le (fun x => decide (5 ≤ x)) (g.take j); rw [List.length_take] at this; omega), same_upd s2 hD, ?_⟩
        rw [upd_same, if_pos rfl, nl_snoc]
      · rw [decide_eq_false (show ¬ (5 : Int) ≤ ((m : Nat) : Int) by omega), decide_eq_false c]
        exact iteF ⟨s2, by rw [if_neg Bool.false_ne_true]; exact hd⟩
    · rintro H1 ⟨s1, hd⟩
      rw [nl_len, List.take_length] at hd
      refine ⟨Nat.zero_le _, fun b b0 => ?_⟩
      have hDb : D ≠ b := ne_of_none hd b0
      refine ⟨.list ((toI (g.filter fun x => decide (5 ≤ x))).map PyData.int), .list [], .lst (SqL.of ((upd_ne hDb).trans (by rw [hd, nl_toI]))) (dp_ints _), .lst (SqL.of upd_same) .nil, shaped_ints _, shaped_ints [], ?_⟩
      have er : PyData.eqv (.list ((toI (g.filter fun x => decide (5 ≤ x))).map PyData.int)) (.list []) = !(g.any fun x => decide (5 ≤ x)) := by
        rw [eqv_nil, ← filter_empty]
        unfold toI
        cases g.filter fun x => decide (5 ≤ x) <;> rfl
      show gName 2 (.bl (PyData.eqv _ _)) _ _ _
      rw [er]
      have s2 : Same H (upd H1 b (.lst [])) := s1.trans (nw b0 _)
      generalize upd H1 b (.lst []) = H2 at s2
      have hg2 := s2 _ _ hg
      refine ⟨_, rfl, Nat.zero_le _, fun c c0 => ?_⟩
      have s3 := s2.trans (nw c0 (.lst []))
      have hg3 := s3 _ _ hg
      refine ⟨.list ((toI g).map PyData.int), .list [], .lst (SqL.of (by rw [← nl_toI]; exact hg3)) (dp_ints _), .lst (SqL.of upd_same) .nil, shaped_ints _, shaped_ints [], _, rfl, ?_⟩
      show if (!PyData.eqv (.list ((toI g).map PyData.int)) (.list [])) = true then _ else _
      have en : PyData.eqv (.list ((toI g).map PyData.int)) (.list []) = g.isEmpty := by
        rw [eqv_nil]
        cases g <;> rfl
      rw [en]
      have bad : badB g = true → ∀ H1, Same H H1 → Rz A E H1 (-1) := k2
      generalize upd H2 c (.lst []) = H3 at s3 hg3
      cases ce : g.isEmpty with
      | true => exact iteF ⟨false, -1, rfl, (fun z => nomatch z), fun _ => bad (by unfold badB; rw [ce]; rfl) _ s3⟩
      | false =>
      refine iteT ⟨_, rfl, _, rfl, ?_⟩
      cases ca : (g.any fun x => decide (5 ≤ x)) with
      | true => exact iteF ⟨false, -1, rfl, (fun z => nomatch z), fun _ => bad (by unfold badB; rw [ca, Bool.or_true, Bool.or_true]) _ s3⟩
      | false =>
      refine iteT ⟨_, rfl, ga, toI g, rfl, SqL.of (by rw [← nl_toI]; exact hg3), (by unfold toI; rw [List.length_map]; omega), _, rfl, ga, _, rfl, .inl (SqL.of hg3), rfl, ?_⟩
      refine ⟨Ag12.once g, -1, ?_, fun ho => ?_, fun ho => ?_⟩
      · rw [← met_once g, ← dec_int]
        show [V.bl (decide (V.int _ = V.int (((nl g).length : Nat) : Int))), V.int (-1)] = _
        rw [nl_len]
      rotate_left
      · exact bad (by unfold badB; rw [ho, Bool.not_false, Bool.true_or, Bool.or_true]) _ s3
      have hgood : badB g = false := by unfold badB; rw [ce, ho, ca]; rfl
      refine ⟨_, rfl, ga, rfl, ⟨_, SqL.of hg3⟩, fun D2 hD2 => lc_list (a := ga) (xs := nl g) (fun j H' => Same H3 H' ∧ H' D2 = some (.lst (nl ((g.take j).map fun x => 2 ^ x)))) ⟨same_new hD2, upd_same⟩ (fun j H' _ ⟨s2, _⟩ => SqL.of (s2 _ _ hg3)) ?_ ?_⟩
      · rintro j y H' hy ⟨s4, hd4⟩
        obtain ⟨m, hm, rfl⟩ := get_nl hy
        have hm5 : m < 5 := by
          have : ¬ 5 ≤ m := fun z => by
            have : (g.any fun x => decide (5 ≤ x)) = true := List.any_eq_true.mpr ⟨m, List.mem_of_getElem? hm, decide_eq_true z⟩
            rw [this] at ca
            cases ca
          omega
        refine ⟨rfl, _, rfl, A.a_BITS, bitsV, ((m : Nat) : Int), _, rfl, rfl, Or.inr T.bits, bit_at hm5, _, hd4, size_small (by rw [nl_len, List.length_map, List.length_take]; omega), same_upd s4 hD2, ?_⟩
        rw [upd_same, take_map_succ hm, nl_snoc]
        rfl
      · rintro H4 ⟨s4, hd4⟩
        rw [nl_len, List.take_length] at hd4
        refine ⟨D2, toI (g.map fun x => 2 ^ x), rfl, SqL.of (by rw [← nl_toI]; exact hd4), ?_⟩
        have esum : V.int (toI (g.map fun x => 2 ^ x)).sum = vn (maskOf g) := by
          unfold maskOf vn
          rw [foldl_pow, Nat.zero_add]
          congr 1
          generalize g.map (fun x => 2 ^ x) = l
          unfold toI
          induction l with
          | nil => rfl
          | cons a l ih =>
            rw [List.map_cons, List.sum_cons, ih, List.sum_cons]
            omega
        have s04 := s3.trans s4
        intro x dx x0 dx0 xd
        have e1 : (upd (upd H4 dx (.own x)) x (.ins A.c_Running dx [])) x = some (.ins A.c_Running dx []) := upd_same
        have old : ∀ b o, H b = some o → b ≠ x ∧ (upd (upd H4 dx (.own x)) x (.ins A.c_Running dx [])) b = some o := fun b o e => by
          have e4 := s04 _ _ e
          have n1 : b ≠ x := ne_of_none e4 x0
          exact ⟨n1, by rw [upd_ne n1, upd_ne (ne_of_none e4 dx0)]; exact e4⟩
        refine ⟨x, dx, maskOf g, congrArg (fun v => [V.ref x, v]) esum, e1, fun H5 hw kp => ⟨rfl, ?_⟩⟩
        obtain ⟨F5, pn, w5⟩ := hw X fun b hb => by
          obtain ⟨o, e⟩ := hX b hb
          exact ⟨(old b o e).1, o, (old b o e).2⟩
        have hp5 := kp p _ (old p _ hp).2 (old p _ hp).1
        refine ⟨_, rfl, _, _, _, _, rfl, hp5, T.cl_Desk, T.na_Desk_running, (by show 1 < 1000; decide), ?_⟩
        rw [put_here]
        have w6 := w5.updX hXp (.ins A.c_Desk dd [("running", .ref x)])
        refine ⟨(by show 1 ≤ sizeLine; decide), fun q q0 => ?_⟩
        obtain ⟨w7, g7⟩ := w6.new (.lst [.int 0]) q0
        have pq : p ≠ q := ne_of_none upd_same q0
        refine k1 hgood _ _ x pn q ((upd_ne pq).trans upd_same) (fun b hb hbp => ?_) w7 (w6.notX q0) upd_same
        obtain ⟨o, e⟩ := hX b hb
        have e5 := kp b o (old b o e).2 (old b o e).1
        have bq : b ≠ q := fun z => by
          rw [upd_ne pq.symm] at q0
          rw [z, q0] at e5
          cases e5
        rw [upd_ne bq, upd_ne hbp, e5, e]
end
end Wk
end

section
set_option Elab.async false
set_option linter.all false
set_option maxRecDepth 100000
set_option maxHeartbeats 4000000
namespace Wk
open PySem PySem.Spec PyProof.Rows L2
theorem il_nums (l : List Nat) : nl l = il (Ag12.nums l) := nl_il l
section
variable {P : Program} {w : World} {K : PySem.W.Frag} {mg : Str → Option Value} {base : Heap} {A : Ad}
def spDCh (A : Ad) : Sp := fun vs H Q E => ∃ F X p dd pr pn s k q ga g c, vs = [.ref p, vn q, .ref ga] ∧ Dk A H F X p dd pr pn s k ∧ H ga = some (.lst (nl g)) ∧ Asks q g c ∧ 1 ≤ q ∧ q ≤ 6 ∧ (∀ x, x ∈ g → x ≤ 1000) ∧ Out A X pr pn H F s c Q E
theorem sc_Desk_change : FnScope n_Desk_change p_Desk_change (defScope s_Desk_change) := ⟨rfl, rfl, rfl, by decide +kernel, rfl, by decide +kernel, by decide +kernel⟩
theorem ok_Desk_change (T : Txt K mg A) : Keeps P w K mg base (L2.CX P w) 11 A.f_Desk_change p_Desk_change (spDCh A) := by
  obtain ⟨fd_Desk_deliver, G_Desk_deliver, b_Desk_deliver⟩ := ok_Desk_deliver (P := P) (w := w) (base := base) T
  obtain ⟨fd_Running_receive, G_Running_receive, b_Running_receive⟩ := ok_Running_receive (P := P) (w := w) (base := base) T
  obtain ⟨fd_Desk_message, G_Desk_message, b_Desk_message⟩ := ok_Desk_message (P := P) (w := w) (base := base) T
  obtain ⟨fd_Desk_heartbeat, G_Desk_heartbeat, b_Desk_heartbeat⟩ := ok_Desk_heartbeat (P := P) (w := w) (base := base) T
  obtain ⟨fd_Desk_change_member, G_Desk_change_member, b_Desk_change_member⟩ := ok_Desk_change_member (P := P) (w := w) (base := base) T
  obtain ⟨fd_Desk_propose, G_Desk_propose, b_Desk_propose⟩ := ok_Desk_propose (P := P) (w := w) (base := base) T
  obtain ⟨fd_Desk_start_election, G_Desk_start_election, b_Desk_start_election⟩ := ok_Desk_start_election (P := P) (w := w) (base := base) T
  obtain ⟨fd, F⟩ := T.F_Desk_change
  refine ⟨fd, F.okX sc_Desk_change (fun vs H Q E h => ?_) (fun cdv Ar outer s H vs Q E hr h => ?_), F.binds fun _ _ _ _ _ _ us hl => match us, hl with | [_, _, _], _ => rfl⟩
  · obtain ⟨F, X, p, dd, pr, pn, s, k, q, ga, g, c, rfl, _⟩ := h
    rfl
  · obtain ⟨F, X, p, dd, pr, pn, s, k, q, ga, g, c, rfl, D, hg, ha, h1, h6, hb, o⟩ := h
    refine ⟨_, (pss_cons (ps_if (pt_cmpR op_eq (pv 1) pe_int (nomark _)) (pss_one (ps_ret (pe_meth (pv 0) T.cl_Desk T.m_Desk_start_election G_Desk_start_election (hr.mono (by decide)) b_Desk_start_election .nil (passes_call (takes_of rfl rfl rfl rfl) (fun _ _ _ _ z => z)) (pa_cons (pe_ix ix_list (pv 2) pe_int (fun _ _ => rfl)) pa_nil)))) pss_nil)
      (pss_cons (ps_if (pt_cmpR op_eq (pv 1) pe_int (nomark _)) (pss_one (ps_ret (pe_meth (pv 0) T.cl_Desk T.m_Desk_propose G_Desk_propose (hr.mono (by decide)) b_Desk_propose .nil (passes_call (takes_of rfl rfl rfl rfl) (fun _ _ _ _ z => z)) (pa_cons (pe_ix ix_list (pv 2) pe_int (fun _ _ => rfl)) (pa_cons (pe_ix ix_list (pv 2) pe_int (fun _ _ => rfl)) pa_nil))))) pss_nil)
      (pss_cons (ps_if (pt_cmpR op_eq (pv 1) pe_int (nomark _)) (pss_one (ps_ret (pe_meth (pv 0) T.cl_Desk T.m_Desk_change_member G_Desk_change_member (hr.mono (by decide)) b_Desk_change_member .nil (passes_call (takes_of rfl rfl rfl rfl) (fun _ _ _ _ z => z)) (pa_cons (pe_ix ix_list (pv 2) pe_int (fun _ _ => rfl)) (pa_cons (pe_ix ix_list (pv 2) pe_int (fun _ _ => rfl)) pa_nil))))) pss_nil)
      (pss_cons (ps_if (pt_cmpR op_eq (pv 1) pe_int (nomark _)) (pss_one (ps_ret (pe_meth (pv 0) T.cl_Desk T.m_Desk_heartbeat G_Desk_heartbeat (hr.mono (by decide)) b_Desk_heartbeat .nil (passes_call (takes_of rfl rfl rfl rfl) (fun _ _ _ _ z => z)) (pa_cons (pe_ix ix_list (pv 2) pe_int (fun _ _ => rfl)) pa_nil)))) pss_nil)
      (pss_one (ps_ret (pe_ifExp (pt_cmpR op_eq (pv 1) pe_int (nomark _)) (pe_meth (pv 0) T.cl_Desk T.m_Desk_deliver G_Desk_deliver (hr.mono (by decide)) b_Desk_deliver .nil (passes_call (takes_of rfl rfl rfl rfl) (fun _ _ _ _ z => z)) (pa_cons (pe_ix ix_list (pv 2) pe_int (fun _ _ => rfl)) pa_nil)) (pe_lst (pa_cons (pe_meth (pe_fld (pv 0) rfl) T.cl_Running T.m_Running_receive G_Running_receive (hr.mono (by decide)) b_Running_receive .nil pass0 (pa_cons (pe_meth (pv 0) T.cl_Desk T.m_Desk_message G_Desk_message (hr.mono (by decide)) b_Desk_message .nil (passes_call (takes_of rfl rfl rfl rfl) (fun _ _ _ _ z => z)) (pa_cons (pe_ix ix_list (pv 2) pe_int (fun _ _ => rfl)) pa_nil)) pa_nil)) pa_nil))))))))), ?_⟩
    have hp := D.at_
    cases ha with
    | c0 l => omega
    | c7 n => omega
    | c8 i => omega
    | c9 i => omega
    | c10 => omega
    | c11 i => omega
    | c12 => omega
    | c13 => omega
    | c1 i =>
      refine ⟨_, rfl, rfl, _, rfl, ?_⟩
      show if decide (vn 1 = vn 1) = true then _ else _
      rw [beq_nat, show ((1 : Nat) == 1) = true from rfl]
      rw [if_pos rfl]
      exact ⟨_, rfl, _, _, _, rfl, hp, no_Desk _ (by decide +kernel), _, rfl, ga, _, 0, vn i, rfl, rfl, SqL.of hg, rfl, F, X, p, dd, pr, pn, s, k, i, rfl, D, o⟩
    | c2 i v =>
      refine ⟨_, rfl, rfl, _, rfl, ?_⟩
      show if decide (vn 2 = vn 1) = true then _ else _
      rw [beq_nat, show ((2 : Nat) == 1) = false from rfl]
      rw [if_neg Bool.false_ne_true]
      refine ⟨_, rfl, rfl, _, rfl, ?_⟩
      show if decide (vn 2 = vn 2) = true then _ else _
      rw [beq_nat, show ((2 : Nat) == 2) = true from rfl]
      rw [if_pos rfl]
      exact ⟨_, rfl, _, _, _, rfl, hp, no_Desk _ (by decide +kernel), _, rfl, ga, _, 0, vn i, rfl, rfl, SqL.of hg, rfl, _, rfl, ga, _, 1, vn v, rfl, rfl, SqL.of hg, rfl, F, X, p, dd, pr, pn, s, k, i, v, rfl, D, o⟩
    | c3 i j =>
      refine ⟨_, rfl, rfl, _, rfl, ?_⟩
      show if decide (vn 3 = vn 1) = true then _ else _
      rw [beq_nat, show ((3 : Nat) == 1) = false from rfl]
      rw [if_neg Bool.false_ne_true]
      refine ⟨_, rfl, rfl, _, rfl, ?_⟩
      show if decide (vn 3 = vn 2) = true then _ else _
      rw [beq_nat, show ((3 : Nat) == 2) = false from rfl]
      rw [if_neg Bool.false_ne_true]
      refine ⟨_, rfl, rfl, _, rfl, ?_⟩
      show if decide (vn 3 = vn 3) = true then _ else _
      rw [beq_nat, show ((3 : Nat) == 3) = true from rfl]
      rw [if_pos rfl]
      exact ⟨_, rfl, _, _, _, rfl, hp, no_Desk _ (by decide +kernel), _, rfl, ga, _, 0, vn i, rfl, rfl, SqL.of hg, rfl, _, rfl, ga, _, 1, vn j, rfl, rfl, SqL.of hg, rfl, F, X, p, dd, pr, pn, s, k, i, j, rfl, D, o⟩
    | c4 i =>
      refine ⟨_, rfl, rfl, _, rfl, ?_⟩
      show if decide (vn 4 = vn 1) = true then _ else _
      rw [beq_nat, show ((4 : Nat) == 1) = false from rfl]
      rw [if_neg Bool.false_ne_true]
      refine ⟨_, rfl, rfl, _, rfl, ?_⟩
      show if decide (vn 4 = vn 2) = true then _ else _
      rw [beq_nat, show ((4 : Nat) == 2) = false from rfl]
      rw [if_neg Bool.false_ne_true]
      refine ⟨_, rfl, rfl, _, rfl, ?_⟩
      show if decide (vn 4 = vn 3) = true then _ else _
      rw [beq_nat, show ((4 : Nat) == 3) = false from rfl]
      rw [if_neg Bool.false_ne_true]
      refine ⟨_, rfl, rfl, _, rfl, ?_⟩
      show if decide (vn 4 = vn 4) = true then _ else _
      rw [beq_nat, show ((4 : Nat) == 4) = true from rfl]
      rw [if_pos rfl]
      exact ⟨_, rfl, _, _, _, rfl, hp, no_Desk _ (by decide +kernel), _, rfl, ga, _, 0, vn i, rfl, rfl, SqL.of hg, rfl, F, X, p, dd, pr, pn, s, k, i, rfl, D, o⟩
    | c5 n =>
      refine ⟨_, rfl, rfl, _, rfl, ?_⟩
      show if decide (vn 5 = vn 1) = true then _ else _
      rw [beq_nat, show ((5 : Nat) == 1) = false from rfl]
      rw [if_neg Bool.false_ne_true]
      refine ⟨_, rfl, rfl, _, rfl, ?_⟩
      show if decide (vn 5 = vn 2) = true then _ else _
      rw [beq_nat, show ((5 : Nat) == 2) = false from rfl]
      rw [if_neg Bool.false_ne_true]
      refine ⟨_, rfl, rfl, _, rfl, ?_⟩
      show if decide (vn 5 = vn 3) = true then _ else _
      rw [beq_nat, show ((5 : Nat) == 3) = false from rfl]
      rw [if_neg Bool.false_ne_true]
      refine ⟨_, rfl, rfl, _, rfl, ?_⟩
      show if decide (vn 5 = vn 4) = true then _ else _
      rw [beq_nat, show ((5 : Nat) == 4) = false from rfl]
      rw [if_neg Bool.false_ne_true]
      refine ⟨_, rfl, rfl, _, rfl, ?_⟩
      show if decide (vn 5 = vn 5) = true then _ else _
      rw [beq_nat, show ((5 : Nat) == 5) = true from rfl]
      rw [if_pos rfl]
      exact ⟨_, rfl, _, _, _, rfl, hp, no_Desk _ (by decide +kernel), _, rfl, ga, _, 0, vn n, rfl, rfl, SqL.of hg, rfl, F, X, p, dd, pr, pn, s, k, n, rfl, D, hb n (by simp), o⟩
    | c6 n =>
      refine ⟨_, rfl, rfl, _, rfl, ?_⟩
      show if decide (vn 6 = vn 1) = true then _ else _
      rw [beq_nat, show ((6 : Nat) == 1) = false from rfl]
      rw [if_neg Bool.false_ne_true]
      refine ⟨_, rfl, rfl, _, rfl, ?_⟩
      show if decide (vn 6 = vn 2) = true then _ else _
      rw [beq_nat, show ((6 : Nat) == 2) = false from rfl]
      rw [if_neg Bool.false_ne_true]
      refine ⟨_, rfl, rfl, _, rfl, ?_⟩
      show if decide (vn 6 = vn 3) = true then _ else _
      rw [beq_nat, show ((6 : Nat) == 3) = false from rfl]
      rw [if_neg Bool.false_ne_true]
      refine ⟨_, rfl, rfl, _, rfl, ?_⟩
      show if decide (vn 6 = vn 4) = true then _ else _
      rw [beq_nat, show ((6 : Nat) == 4) = false from rfl]
      rw [if_neg Bool.false_ne_true]
      refine ⟨_, rfl, rfl, _, rfl, ?_⟩
      show if decide (vn 6 = vn 5) = true then _ else _
      rw [beq_nat, show ((6 : Nat) == 5) = false from rfl]
      rw [if_neg Bool.false_ne_true]
      have es := st_keep s n
      obtain ⟨dR, nodes, msgs, com, led, hr⟩ := D.wd.run
      have hrp := hr.at_
      refine ⟨_, rfl, _, _, _, _, _, rfl, hp, T.cl_Desk, T.na_Desk_running, lk_run _, _, _, _, rfl, hrp, no_Running_receive _, ?_⟩
      refine ⟨_, rfl, _, _, _, rfl, hp, no_Desk _ (by decide +kernel), _, rfl, ga, _, 0, vn n, rfl, rfl, SqL.of hg, rfl, F, X, p, dd, pr, pn, s, k, n, rfl, D, fun mp x hx hm => ?_, fun hx => ?_⟩
      rotate_left
      · rw [hx] at es
        exact o.bad H _ es (Same.refl _)
      rw [hx] at es
      have hx' := List.mem_of_getElem? hx
      obtain ⟨l1, l2, l3, l4⟩ := D.ok.letter hx'
      have fit := fit_ok D.ok l1 (by have := D.k99; omega)
      have hlen : x.to_ < s.nodes.length := by rw [D.ok.sizes.1]; exact l1
      refine ⟨F, X, _, pr, pn, mp, x, rfl, D.wd, hm, l1, l2, l3, by have := D.k99; omega, fit, fun H2 F2 w2 g2 => ?_⟩
      refine ⟨(by show 1 ≤ sizeLine; decide), fun q q0 => ?_⟩
      have he := hand_eq (s := s) (x := x) hlen fit.told l3
      have w2' : Wd A H2 F2 X (ofS (Ag12.hand s x).1) pr pn := by
        rw [he.1]
        exact w2
      refine o.done es w2' g2 q0 ?_
      rw [he.2]
      rfl
theorem Out.tell {A : Ad} {X : Addr → Prop} {p dd pr : Addr} {pn : Nat → Addr} {H F : Hp} {s : Ag12.State} {k : Nat} {c : Ag12.Call} {Q : VK} {E : XK} (o : Out A X pr pn H F s c Q E) (D : Dk A H F X p dd pr pn s k) {ans : List Int} (hs : Ag12.step (some s) c = (some s, ans))
    {H' : Hp} {q : Addr} (s1 : Same H H') (q0 : H q = none) (hq : H' q = some (.lst (il ans))) : Q (.ref q) H' := by
  obtain ⟨w1, g1⟩ := D.wd.later s1
  exact o.fine H' F s ans q hs w1 g1 (D.wd.notX q0) hq
def spDLa (A : Ad) : Sp := fun vs H Q E => ∃ F X p dd pr pn s k q ga g c, vs = [.ref p, vn q, .ref ga] ∧ Dk A H F X p dd pr pn s k ∧ H ga = some (.lst (nl g)) ∧ Asks q g c ∧ 7 ≤ q ∧ (∀ x, x ∈ g → x ≤ 1000) ∧ Out A X pr pn H F s c Q E
theorem sc_Desk_later : FnScope n_Desk_later p_Desk_later (defScope s_Desk_later) := ⟨rfl, rfl, rfl, by decide +kernel, rfl, by decide +kernel, by decide +kernel⟩
theorem ok_Desk_later (T : Txt K mg A) : Keeps P w K mg base (L2.CX P w) 7 A.f_Desk_later p_Desk_later (spDLa A) := by
  obtain ⟨fd_told_entries, G_told_entries, b_told_entries⟩ := ok_told_entries (P := P) (w := w) (base := base) T
  obtain ⟨fd_Desk_told_leaders, G_Desk_told_leaders, b_Desk_told_leaders⟩ := ok_Desk_told_leaders (P := P) (w := w) (base := base) T
  obtain ⟨fd_Node_told, G_Node_told, b_Node_told⟩ := ok_Node_told (P := P) (w := w) (base := base) T
  obtain ⟨fd_Desk_node, G_Desk_node, b_Desk_node⟩ := ok_Desk_node (P := P) (w := w) (base := base) T
  obtain ⟨fd_Desk_told_messages, G_Desk_told_messages, b_Desk_told_messages⟩ := ok_Desk_told_messages (P := P) (w := w) (base := base) T
  obtain ⟨fd_Desk_restart, G_Desk_restart, b_Desk_restart⟩ := ok_Desk_restart (P := P) (w := w) (base := base) T
  obtain ⟨fd_Desk_stop, G_Desk_stop, b_Desk_stop⟩ := ok_Desk_stop (P := P) (w := w) (base := base) T
  obtain ⟨fd_Desk_drop, G_Desk_drop, b_Desk_drop⟩ := ok_Desk_drop (P := P) (w := w) (base := base) T
  obtain ⟨fd, F⟩ := T.F_Desk_later
  refine ⟨fd, F.okX sc_Desk_later (fun vs H Q E h => ?_) (fun cdv Ar outer s H vs Q E hr h => ?_), F.binds fun _ _ _ _ _ _ us hl => match us, hl with | [_, _, _], _ => rfl⟩
  · obtain ⟨F, X, p, dd, pr, pn, s, k, q, ga, g, c, rfl, _⟩ := h
    rfl
  · obtain ⟨F, X, p, dd, pr, pn, s, k, q, ga, g, c, rfl, D, hg, ha, h7, hb, o⟩ := h
    refine ⟨_, (pss_cons (ps_if (pt_cmpR op_eq (pv 1) pe_int (nomark _)) (pss_one (ps_ret (pe_meth (pv 0) T.cl_Desk T.m_Desk_drop G_Desk_drop (hr.mono (by decide)) b_Desk_drop .nil (passes_call (takes_of rfl rfl rfl rfl) (fun _ _ _ _ z => z)) (pa_cons (pe_ix ix_list (pv 2) pe_int (fun _ _ => rfl)) pa_nil)))) pss_nil)
      (pss_cons (ps_if (pt_cmpR op_eq (pv 1) pe_int (nomark _)) (pss_one (ps_ret (pe_meth (pv 0) T.cl_Desk T.m_Desk_stop G_Desk_stop (hr.mono (by decide)) b_Desk_stop .nil (passes_call (takes_of rfl rfl rfl rfl) (fun _ _ _ _ z => z)) (pa_cons (pe_ix ix_list (pv 2) pe_int (fun _ _ => rfl)) pa_nil)))) pss_nil)
      (pss_cons (ps_if (pt_cmpR op_eq (pv 1) pe_int (nomark _)) (pss_one (ps_ret (pe_meth (pv 0) T.cl_Desk T.m_Desk_restart G_Desk_restart (hr.mono (by decide)) b_Desk_restart .nil (passes_call (takes_of rfl rfl rfl rfl) (fun _ _ _ _ z => z)) (pa_cons (pe_ix ix_list (pv 2) pe_int (fun _ _ => rfl)) pa_nil)))) pss_nil)
      (pss_cons (ps_if (pt_cmpR op_eq (pv 1) pe_int (nomark _)) (pss_one (ps_ret (pe_meth0 (pv 0) T.cl_Desk T.m_Desk_told_messages G_Desk_told_messages (hr.mono (by decide)) b_Desk_told_messages .nil pass0))) pss_nil)
      (pss_cons (ps_if (pt_cmpR op_eq (pv 1) pe_int (nomark _)) (pss_one (ps_ret (pe_meth0 (pe_meth (pv 0) T.cl_Desk T.m_Desk_node G_Desk_node (hr.mono (by decide)) b_Desk_node .nil (passes_call (takes_of rfl rfl rfl rfl) (fun _ _ _ _ z => z)) (pa_cons (pe_ix ix_list (pv 2) pe_int (fun _ _ => rfl)) pa_nil)) T.cl_Node T.m_Node_told G_Node_told (hr.mono (by decide)) b_Node_told .nil pass0))) pss_nil)
      (pss_one (ps_ret (pe_ifExp (pt_cmpR op_eq (pv 1) pe_int (nomark _)) (pe_call G_told_entries (hr.mono (by decide)) (by rfl) T.g_told_entries T.k_told_entries b_told_entries .nil pass0 (pa_cons (pe_fld (pe_fld (pv 0) rfl) rfl) pa_nil)) (pe_meth0 (pv 0) T.cl_Desk T.m_Desk_told_leaders G_Desk_told_leaders (hr.mono (by decide)) b_Desk_told_leaders .nil pass0))))))))), ?_⟩
    have hp := D.at_
    have hk := D.k99
    cases ha with
    | c0 l => omega
    | c1 i => omega
    | c2 i v => omega
    | c3 i j => omega
    | c4 i => omega
    | c5 n => omega
    | c6 n => omega
    | c7 n =>
      refine ⟨_, rfl, rfl, _, rfl, ?_⟩
      show if decide (vn 7 = vn 7) = true then _ else _
      rw [beq_nat, show ((7 : Nat) == 7) = true from rfl]
      rw [if_pos rfl]
      exact ⟨_, rfl, _, _, _, rfl, hp, no_Desk _ (by decide +kernel), _, rfl, ga, _, 0, vn n, rfl, rfl, SqL.of hg, rfl, F, X, p, dd, pr, pn, s, k, n, rfl, D, hb n (by simp), o⟩
    | c8 i =>
      refine ⟨_, rfl, rfl, _, rfl, ?_⟩
      show if decide (vn 8 = vn 7) = true then _ else _
      rw [beq_nat, show ((8 : Nat) == 7) = false from rfl]
      rw [if_neg Bool.false_ne_true]
      refine ⟨_, rfl, rfl, _, rfl, ?_⟩
      show if decide (vn 8 = vn 8) = true then _ else _
      rw [beq_nat, show ((8 : Nat) == 8) = true from rfl]
      rw [if_pos rfl]
      exact ⟨_, rfl, _, _, _, rfl, hp, no_Desk _ (by decide +kernel), _, rfl, ga, _, 0, vn i, rfl, rfl, SqL.of hg, rfl, F, X, p, dd, pr, pn, s, k, i, rfl, D, o⟩
    | c9 i =>
      refine ⟨_, rfl, rfl, _, rfl, ?_⟩
      show if decide (vn 9 = vn 7) = true then _ else _
      rw [beq_nat, show ((9 : Nat) == 7) = false from rfl]
      rw [if_neg Bool.false_ne_true]
      refine ⟨_, rfl, rfl, _, rfl, ?_⟩
      show if decide (vn 9 = vn 8) = true then _ else _
      rw [beq_nat, show ((9 : Nat) == 8) = false from rfl]
      rw [if_neg Bool.false_ne_true]
      refine ⟨_, rfl, rfl, _, rfl, ?_⟩
      show if decide (vn 9 = vn 9) = true then _ else _
      rw [beq_nat, show ((9 : Nat) == 9) = true from rfl]
      rw [if_pos rfl]
      exact ⟨_, rfl, _, _, _, rfl, hp, no_Desk _ (by decide +kernel), _, rfl, ga, _, 0, vn i, rfl, rfl, SqL.of hg, rfl, F, X, p, dd, pr, pn, s, k, i, rfl, D, o⟩
    | c10 =>
      refine ⟨_, rfl, rfl, _, rfl, ?_⟩
      show if decide (vn 10 = vn 7) = true then _ else _
      rw [beq_nat, show ((10 : Nat) == 7) = false from rfl]
      rw [if_neg Bool.false_ne_true]
      refine ⟨_, rfl, rfl, _, rfl, ?_⟩
      show if decide (vn 10 = vn 8) = true then _ else _
      rw [beq_nat, show ((10 : Nat) == 8) = false from rfl]
      rw [if_neg Bool.false_ne_true]
      refine ⟨_, rfl, rfl, _, rfl, ?_⟩
      show if decide (vn 10 = vn 9) = true then _ else _
      rw [beq_nat, show ((10 : Nat) == 9) = false from rfl]
      rw [if_neg Bool.false_ne_true]
      refine ⟨_, rfl, rfl, _, rfl, ?_⟩
      show if decide (vn 10 = vn 10) = true then _ else _
      rw [beq_nat, show ((10 : Nat) == 10) = true from rfl]
      rw [if_pos rfl]
      exact ⟨_, rfl, _, _, _, rfl, hp, no_Desk _ (by decide +kernel), F, X, p, dd, pr, pn, s, k, rfl, D, fun H' q s1 q0 hq => o.tell D (st_letters s) s1 q0 (by rw [hq, nl_il])⟩
    | c11 i =>
      refine ⟨_, rfl, rfl, _, rfl, ?_⟩
      show if decide (vn 11 = vn 7) = true then _ else _
      rw [beq_nat, show ((11 : Nat) == 7) = false from rfl]
      rw [if_neg Bool.false_ne_true]
      refine ⟨_, rfl, rfl, _, rfl, ?_⟩
      show if decide (vn 11 = vn 8) = true then _ else _
      rw [beq_nat, show ((11 : Nat) == 8) = false from rfl]
      rw [if_neg Bool.false_ne_true]
      refine ⟨_, rfl, rfl, _, rfl, ?_⟩
      show if decide (vn 11 = vn 9) = true then _ else _
      rw [beq_nat, show ((11 : Nat) == 9) = false from rfl]
      rw [if_neg Bool.false_ne_true]
      refine ⟨_, rfl, rfl, _, rfl, ?_⟩
      show if decide (vn 11 = vn 10) = true then _ else _
      rw [beq_nat, show ((11 : Nat) == 10) = false from rfl]
      rw [if_neg Bool.false_ne_true]
      refine ⟨_, rfl, rfl, _, rfl, ?_⟩
      show if decide (vn 11 = vn 11) = true then _ else _
      rw [beq_nat, show ((11 : Nat) == 11) = true from rfl]
      rw [if_pos rfl]
      have es := st_node s i
      refine ⟨_, rfl, _, _, _, rfl, hp, no_Desk _ (by decide +kernel), _, rfl, ga, _, 0, vn i, rfl, rfl, SqL.of hg, rfl, F, X, p, dd, pr, pn, s, k, i, rfl, D, fun hi => ?_, fun hi => ?_⟩
      rotate_left
      · rw [if_pos (show Ag12.NODES ≤ i from (show 5 ≤ i by omega))] at es
        exact o.bad H _ es (Same.refl _)
      rw [if_neg (show ¬ Ag12.NODES ≤ i from fun z => by have : 5 ≤ i := z; omega)] at es
      obtain ⟨dx, lg, vt, nx, mt, hn, _⟩ := (D.wd.node hi).ex
      have hr := D.ok.node hi
      have hl := D.ln i
      exact ⟨_, _, _, rfl, hn, no_Node_told _, F, pn i, i, s.first, Ag12.node s i, rfl, D.wd.same, D.wd.node hi, by omega, by omega, by have := hl.1; omega, by have := hl.2; omega, fun H' q s1 q0 hq => o.tell D es s1 q0 hq⟩
    | c12 =>
      refine ⟨_, rfl, rfl, _, rfl, ?_⟩
      show if decide (vn 12 = vn 7) = true then _ else _
      rw [beq_nat, show ((12 : Nat) == 7) = false from rfl]
      rw [if_neg Bool.false_ne_true]
      refine ⟨_, rfl, rfl, _, rfl, ?_⟩
      show if decide (vn 12 = vn 8) = true then _ else _
      rw [beq_nat, show ((12 : Nat) == 8) = false from rfl]
      rw [if_neg Bool.false_ne_true]
      refine ⟨_, rfl, rfl, _, rfl, ?_⟩
      show if decide (vn 12 = vn 9) = true then _ else _
      rw [beq_nat, show ((12 : Nat) == 9) = false from rfl]
      rw [if_neg Bool.false_ne_true]
      refine ⟨_, rfl, rfl, _, rfl, ?_⟩
      show if decide (vn 12 = vn 10) = true then _ else _
      rw [beq_nat, show ((12 : Nat) == 10) = false from rfl]
      rw [if_neg Bool.false_ne_true]
      refine ⟨_, rfl, rfl, _, rfl, ?_⟩
      show if decide (vn 12 = vn 11) = true then _ else _
      rw [beq_nat, show ((12 : Nat) == 11) = false from rfl]
      rw [if_neg Bool.false_ne_true]
      refine ⟨_, rfl, rfl, _, rfl, ?_⟩
      show if decide (vn 12 = vn 12) = true then _ else _
      rw [beq_nat, show ((12 : Nat) == 12) = true from rfl]
      rw [if_pos rfl]
      obtain ⟨dR, nodes, msgs, com, led, hr⟩ := D.wd.run
      have hrp := hr.at_
      have hl := D.ok.sizes.2.2.1
      exact ⟨_, rfl, _, _, _, _, _, rfl, hp, T.cl_Desk, T.na_Desk_running, lk_run _, _, _, _, _, _, rfl, hrp, T.cl_Running, T.na_Running_committed, lk_Running_committed _, com, s.told, rfl, hr.com.mono D.wd.same, by omega, fun H' q s1 q0 hq => o.tell D (st_told s) s1 q0 (by rw [hq, nl_il])⟩
    | c13 =>
      refine ⟨_, rfl, rfl, _, rfl, ?_⟩
      show if decide (vn 13 = vn 7) = true then _ else _
      rw [beq_nat, show ((13 : Nat) == 7) = false from rfl]
      rw [if_neg Bool.false_ne_true]
      refine ⟨_, rfl, rfl, _, rfl, ?_⟩
      show if decide (vn 13 = vn 8) = true then _ else _
      rw [beq_nat, show ((13 : Nat) == 8) = false from rfl]
      rw [if_neg Bool.false_ne_true]
      refine ⟨_, rfl, rfl, _, rfl, ?_⟩
      show if decide (vn 13 = vn 9) = true then _ else _
      rw [beq_nat, show ((13 : Nat) == 9) = false from rfl]
      rw [if_neg Bool.false_ne_true]
      refine ⟨_, rfl, rfl, _, rfl, ?_⟩
      show if decide (vn 13 = vn 10) = true then _ else _
      rw [beq_nat, show ((13 : Nat) == 10) = false from rfl]
      rw [if_neg Bool.false_ne_true]
      refine ⟨_, rfl, rfl, _, rfl, ?_⟩
      show if decide (vn 13 = vn 11) = true then _ else _
      rw [beq_nat, show ((13 : Nat) == 11) = false from rfl]
      rw [if_neg Bool.false_ne_true]
      refine ⟨_, rfl, rfl, _, rfl, ?_⟩
      show if decide (vn 13 = vn 12) = true then _ else _
      rw [beq_nat, show ((13 : Nat) == 12) = false from rfl]
      rw [if_neg Bool.false_ne_true]
      exact ⟨_, rfl, _, _, _, rfl, hp, no_Desk _ (by decide +kernel), F, X, p, dd, pr, pn, s, k, rfl, D, fun H' q s1 q0 hq => o.tell D (st_led s) s1 q0 (by rw [hq, nl_il])⟩
end
end Wk
end

section
set_option Elab.async false
set_option linter.all false
set_option maxRecDepth 100000
set_option maxHeartbeats 4000000
namespace Wk
open PySem PySem.Spec PyProof.Rows L2
/-- the desk's state -/
def StAt (A : Ad) (H : Hp) (X : Addr → Prop) (p dd : Addr) (o : Ag12.Abs) : Prop := match o with
  | none => H p = some (.ins A.c_Desk dd [("running", .non)])
  | some s => ∃ F pr pn, H p = some (.ins A.c_Desk dd [("running", .ref pr)]) ∧ Wd A H F X (ofS s) pr pn
structure DSt (A : Ad) (H : Hp) (X : Addr → Prop) (p dd : Addr) (o : Ag12.Abs) (k : Nat) : Prop where
  xp : X p
  xs : ∀ b, X b → ∃ v, H b = some v
  ok : Rf.OkA o k
  ln : LnA o
  at_ : StAt A H X p dd o
theorem StAt.later {A : Ad} {H H' : Hp} {X : Addr → Prop} {p dd : Addr} {o : Ag12.Abs} (h : StAt A H X p dd o) (s : Same H H') : StAt A H' X p dd o := by
  cases o with
  | none => exact s _ _ h
  | some t =>
    obtain ⟨F, pr, pn, h1, h2⟩ := h
    exact ⟨F, pr, pn, s _ _ h1, (h2.later s).1⟩
/-- the answer of a call, in a new list; what lies outside stands but the desk -/
def Fin (A : Ad) (X : Addr → Prop) (p dd : Addr) (H : Hp) (o : Ag12.Abs) (k : Nat) (c : Ag12.Call) (Q : VK) : Prop :=
  ∀ H' r, DSt A H' X p dd (Ag12.step o c).1 (k + 1) → (∀ b, X b → b ≠ p → H' b = H b) → ¬ X r → H' r = some (.lst (il (Ag12.step o c).2)) → Q (.ref r) H'
theorem DSt.next {A : Ad} {H H' : Hp} {X : Addr → Prop} {p dd : Addr} {o : Ag12.Abs} {k : Nat} (h : DSt A H X p dd o k) (c : Ag12.Call) (k1 : ∀ b, X b → ∃ v, H' b = some v) (h' : StAt A H' X p dd (Ag12.step o c).1) : DSt A H' X p dd (Ag12.step o c).1 (k + 1) :=
  ⟨h.xp, k1, Rf.step_ok o c k h.ok, ln_step o c h.ln, h'⟩
theorem step_bad {l : List Nat} (o : Ag12.Abs) (h : badB l = true) : Ag12.step o (.begin_ l) = (o, ([-1] : List Int)) := by
  have : l.isEmpty = true ∨ (Ag12.once l = false ∨ l.any (fun (x : Nat) => decide (Ag12.NODES ≤ x)) = true) := by
    unfold badB at h
    rw [Bool.or_eq_true, Bool.or_eq_true] at h
    rcases h with z | z | z
    · exact .inl z
    · exact .inr (.inl (by cases e : Ag12.once l with | false => rfl | true => rw [e] at z; cases z))
    · exact .inr (.inr z)
  cases o <;> exact if_pos this
theorem step_good {l : List Nat} (o : Ag12.Abs) (h : badB l = false) : Ag12.step o (.begin_ l) = (some ⟨maskOf l, List.replicate 5 fresh5, [], [], []⟩, ([0] : List Int)) := by
  have : ¬ (l.isEmpty = true ∨ (Ag12.once l = false ∨ l.any (fun (x : Nat) => decide (Ag12.NODES ≤ x)) = true)) := by
    intro z
    have : badB l = true := by
      unfold badB
      rw [Bool.or_eq_true, Bool.or_eq_true]
      rcases z with z | z | z
      · exact .inl z
      · exact .inr (.inl (by rw [z]; rfl))
      · exact .inr (.inr z)
    rw [h] at this
    cases this
  cases o <;> exact if_neg this
theorem step_none {q : Nat} {g : List Nat} {c : Ag12.Call} (h : Asks q g c) (hq : q ≠ 0) : Ag12.step none c = (none, ([-9] : List Int)) := by
  cases h <;> first | exact absurd rfl hq | rfl
section
variable {P : Program} {w : World} {K : PySem.W.Frag} {mg : Str → Option Value} {base : Heap} {A : Ad}
def spDAnswer (A : Ad) : Sp := fun vs H Q E => ∃ X p dd o k q ga g c, vs = [.ref p, vn q, .ref ga] ∧ DSt A H X p dd o k ∧ k ≤ 99 ∧ H ga = some (.lst (nl g)) ∧ Asks q g c ∧ g.length ≤ 10 ∧ (∀ x, x ∈ g → x ≤ 1000) ∧ Fin A X p dd H o k c Q
def rNotN0 : R2 := fun x y H Q => y = .non ∧ Q (.bl (!decide (x = .non))) H
def rLt0 : R2 := rI0 fun i j => .bl (decide (i < j))
/-- the try's body -/
def tbAns (K : PySem.W.Frag) (A : Ad) : WX → TS := fun W => tSeq (tIfS (tTest (tOp rEq (tVar 1) (tC (.int 0)))) (tRet (tMethS A.c_Desk "begin" (spDBegin A) (WE W) (tVar 0) (tCons (tVar 2) tNil))) tNext)
  (tSeq (tDrop (tCallS (spNeed A) (WE W) (tCons (tOp rNotN0 (tFld K (tVar 0) "running") (tC .non)) (tCons (tC (.int (-9))) tNil))))
  (tRet (tIf (tTest (tOp rLt0 (tVar 1) (tC (.int 7)))) (tMethS A.c_Desk "change" (spDCh A) (WE W) (tVar 0) (tCons (tVar 1) (tCons (tVar 2) tNil))) (tMethS A.c_Desk "later" (spDLa A) (WE W) (tVar 0) (tCons (tVar 1) (tCons (tVar 2) tNil))))))
/-- the suite: the code in a list -/
def tsAns (A : Ad) : Addr → Value → Option Addr → TS := fun a cls d => tRet (tLst (tCons (tByLow A.c_Refused a cls d (tVar 3)) tNil))
theorem sc_Desk_answer : FnScope n_Desk_answer p_Desk_answer (defScope s_Desk_answer) := ⟨rfl, rfl, rfl, by decide +kernel, rfl, by decide +kernel, by decide +kernel⟩
theorem ok_Desk_answer (T : Txt K mg A) : Keeps P w K mg base CX0 12 A.f_Desk_answer p_Desk_answer (spDAnswer A) := by
  obtain ⟨fd_need, G_need, b_need⟩ := ok_need (P := P) (w := w) (base := base) T
  obtain ⟨fd_Desk_begin, G_Desk_begin, b_Desk_begin⟩ := ok_Desk_begin (P := P) (w := w) (base := base) T
  obtain ⟨fd_Desk_change, G_Desk_change, b_Desk_change⟩ := ok_Desk_change (P := P) (w := w) (base := base) T
  obtain ⟨fd_Desk_later, G_Desk_later, b_Desk_later⟩ := ok_Desk_later (P := P) (w := w) (base := base) T
  obtain ⟨fd, F⟩ := T.F_Desk_answer
  refine ⟨fd, F.ok sc_Desk_answer (fun vs H Q E h => ?_) (fun cdv Ar outer s H vs Q E hr h => ?_), F.binds fun _ _ _ _ _ _ us hl => match us, hl with | [_, _, _], _ => rfl⟩
  · obtain ⟨X, p, dd, o, k, q, ga, g, c, rfl, _⟩ := h
    rfl
  · obtain ⟨X, p, dd, o, k, q, ga, g, c, rfl, D, hk, hg, ha, hgl, hb, fin⟩ := h
    refine ⟨_, pss_one (ps_try_as (i := 3) (tb := tbAns K A) (ts := tsAns A) (Wout := fun _ _ _ _ => False) rfl rfl sc_Desk_answer.nd rfl rfl ⟨rfl, by decide, Or.inl T.low.gC⟩ takes0
      (fun W pn xe tk _ => pss_cons (ps_if (pt_cmpR op_eq (pv 1) pe_int (nomark _)) (pss_one (ps_ret (by exact (pe_methS (pv 0) T.cl_Desk T.m_Desk_begin G_Desk_begin (hr.mono (by decide)) b_Desk_begin (fun σ => passAt tk σ) (pa_cons (pv 2) pa_nil))))) pss_nil)
        (pss_cons (ps_expr (by exact (pe_callS G_need (hr.mono (by decide)) (by rfl) T.g_need T.k_need b_need (fun σ => passAt tk σ) (by exact (pa_cons (pe_cmpR op_notN (pe_fld (pv 0) rfl) pe_non (nomark _)) (pa_cons (pe_k rfl T.c_NO_NODES) pa_nil))))))
        (pss_one (ps_ret (pe_ifExp (pt_cmpR op_lt (pv 1) pe_int (nomark _)) (by exact (pe_methS (pv 0) T.cl_Desk T.m_Desk_change G_Desk_change (hr.mono (by decide)) b_Desk_change (fun σ => passAt tk σ) (pa_cons (pv 1) (pa_cons (pv 2) pa_nil)))) (by exact (pe_methS (pv 0) T.cl_Desk T.m_Desk_later G_Desk_later (hr.mono (by decide)) b_Desk_later (fun σ => passAt tk σ) (pa_cons (pv 1) (pa_cons (pv 2) pa_nil)))))))))
      (fun a oe cls d pn hz hf => pss_one (ps_ret (pe_lst (pa_cons (by exact (pe_byLow T.low hz hf (pv 3))) pa_nil))))), ?_⟩
    have rz : ∀ H1 code, Same H H1 → Ag12.step o c = (o, ([code] : List Int)) → Rz A (WE (wAs K (.ref A.c_Refused) 3 (tsAns A) (fun _ _ _ _ => False) { nx := fun _ H' => Q .non H', rt := Q }) [some (.ref p), some (vn q), some (.ref ga), none]) H1 code := by
      intro H1 code s1 hs d hd
      refine ⟨true, T.low.te, fun _ a0 ha0 => ?_, fun z => nomatch z⟩
      refine ⟨_, rfl, rfl, rfl, d, _, rfl, upd_same, (by show 1 ≤ sizeLine; decide), fun r r0 => ?_⟩
      have s2 : Same H (upd (upd H1 d (.xd [(("code" : Str), .int code)])) r (.lst [.int code])) := (s1.trans (nw hd _)).trans (nw r0 _)
      refine fin _ r (D.next c (fun b hb => ?_) ?_) (fun b hb _ => ?_) (fun hx => ?_) ?_
      · obtain ⟨v, e⟩ := D.xs b hb
        exact ⟨v, s2 _ _ e⟩
      · rw [hs]
        exact D.at_.later s2
      · obtain ⟨v, e⟩ := D.xs b hb
        rw [e, s2 _ _ e]
      · obtain ⟨v, e⟩ := D.xs r hx
        rw [(s1.trans (nw hd (.xd [(("code" : Str), .int code)]))) _ _ e] at r0
        cases r0
      · rw [hs, upd_same]
        rfl
    have hpx : ∃ rv, H p = some (.ins A.c_Desk dd [("running", rv)]) := by
      cases o with
      | none => exact ⟨_, D.at_⟩
      | some s =>
        obtain ⟨F, pr, pn, h, _⟩ := D.at_
        exact ⟨_, h⟩
    show tSeq _ _ _ _ _
    refine ⟨_, rfl, rfl, _, rfl, ?_⟩
    show if decide (vn q = vn 0) = true then _ else _
    rw [dec_vn]
    by_cases hq : q = 0
    · subst hq
      rw [decide_eq_true rfl, if_pos rfl]
      obtain ⟨rv, hp⟩ := hpx
      cases ha
      refine ⟨_, rfl, _, _, _, rfl, hp, no_Desk _ (by decide +kernel), _, rfl, X, p, dd, rv, ga, g, rfl, hp, D.xp, D.xs, hg, hgl, fun hgood H' F' pr pn r h1 h2 h3 h4 h5 => ?_, fun hbad H1 s1 => rz H1 (-1) s1 (step_bad o hbad)⟩
      have hs := step_good o hgood
      refine fin H' r (D.next _ (fun b hb => ?_) ?_) h2 h4 ?_
      · by_cases e : b = p
        · rw [e]
          exact ⟨_, h1⟩
        · rw [h2 b hb e]
          exact D.xs b hb
      · rw [hs]
        exact ⟨F', pr, pn, h1, h3⟩
      · rw [hs, h5]
        rfl
    · rw [decide_eq_false hq, if_neg Bool.false_ne_true]
      cases o with
      | none =>
        have hp : H p = some (.ins A.c_Desk dd [("running", .non)]) := D.at_
        refine ⟨_, rfl, _, _, _, _, _, rfl, hp, T.cl_Desk, T.na_Desk_running, lk_run _, rfl, ?_⟩
        exact ⟨false, -9, by rw [decide_eq_true rfl]; rfl, (fun z => nomatch z), fun _ => rz H (-9) (Same.refl _) (step_none ha hq)⟩
      | some s =>
        obtain ⟨F, pr, pn, hp, wd⟩ := D.at_
        refine ⟨_, rfl, _, _, _, _, _, rfl, hp, T.cl_Desk, T.na_Desk_running, lk_run _, rfl, ?_⟩
        refine ⟨true, -9, by rw [decide_eq_false (fun z => nomatch z)]; rfl, fun _ => ?_, (fun z => nomatch z)⟩
        have dk : Dk A H F X p dd pr pn s k := ⟨hp, D.xp, wd, D.ok, hk, D.ln⟩
        have ou : Out A X pr pn H F s c Q (WE (wAs K (.ref A.c_Refused) 3 (tsAns A) (fun _ _ _ _ => False) { nx := fun _ H' => Q .non H', rt := Q }) [some (.ref p), some (vn q), some (.ref ga), none]) := ⟨fun H' F' s' ans r hs w' g' nx hr => by
          refine fin H' r (D.next c (fun b hb => ?_) ?_) (fun b hb _ => g'.keep b hb) nx ?_
          · rw [g'.keep b hb]
            exact D.xs b hb
          · rw [hs]
            exact ⟨F', pr, pn, (g'.keep p D.xp).trans hp, w'⟩
          · rw [hs]
            exact hr, fun H1 code hs s1 => rz H1 code s1 hs⟩
        refine ⟨_, rfl, _, _, rfl, rfl, _, rfl, ?_⟩
        show if decide (((q : Nat) : Int) < 7) = true then _ else _
        by_cases h7 : q < 7
        · rw [decide_eq_true (show ((q : Nat) : Int) < 7 by omega), if_pos rfl]
          exact ⟨_, rfl, _, _, _, rfl, hp, no_Desk _ (by decide +kernel), _, rfl, _, rfl, F, X, p, dd, pr, pn, s, k, q, ga, g, c, rfl, dk, hg, ha, by omega, by omega, hb, ou⟩
        · rw [decide_eq_false (show ¬ ((q : Nat) : Int) < 7 by omega), if_neg Bool.false_ne_true]
          exact ⟨_, rfl, _, _, _, rfl, hp, no_Desk _ (by decide +kernel), _, rfl, _, rfl, F, X, p, dd, pr, pn, s, k, q, ga, g, c, rfl, dk, hg, ha, by omega, hb, ou⟩
end
end Wk
end

section
set_option Elab.async false
set_option linter.all false
set_option maxRecDepth 100000
set_option maxHeartbeats 4000000
namespace Wk
open PySem PySem.Spec PyProof.Rows L2
theorem cutV_mid (xs : List V) (i n : Nat) : cutV xs (some ((i : Nat) : Int)) (some ((i + n : Nat) : Int)) = (xs.drop i).take n := by
  unfold cutV
  rw [HT.sIx_nat, HT.sIx_nat]
  rcases Nat.le_total i xs.length with h | h
  · rw [Nat.min_eq_left h]
    rcases Nat.le_total (i + n) xs.length with h2 | h2
    · rw [Nat.min_eq_left h2, Nat.add_sub_cancel_left]
    · rw [Nat.min_eq_right h2, List.take_of_length_le (by rw [List.length_drop]; omega), List.take_of_length_le (by rw [List.length_drop]; omega)]
  · rw [Nat.min_eq_right h, List.drop_eq_nil_of_le h, List.drop_eq_nil_of_le (Nat.le_refl _), List.take_nil, List.take_nil]
theorem sql_keep {K : PySem.W.Frag} {H H' : Hp} {a : Addr} {xs : List V} (h : SqL K H a xs) (k : ∀ o, H a = some o → H' a = some o) : SqL K H' a xs := by
  rcases h with (h | ⟨o, h⟩) | h
  · exact .inl (.inl (k _ h))
  · exact .inl (.inr ⟨o, k _ h⟩)
  · exact .inr h
theorem DSt.updX {A : Ad} {H : Hp} {X : Addr → Prop} {p dd : Addr} {o : Ag12.Abs} {k : Nat} (h : DSt A H X p dd o k) {f : Addr} (hf : X f) (hfp : p ≠ f) (u : HO) : DSt A (upd H f u) X p dd o k := by
  refine ⟨h.xp, fun b hb => ?_, h.ok, h.ln, ?_⟩
  · by_cases c : b = f
    · subst c
      exact ⟨u, upd_same⟩
    · rw [upd_ne c]
      exact h.xs b hb
  · have ha := h.at_
    cases o with
    | none => exact (upd_ne hfp).trans ha
    | some s =>
      obtain ⟨F, pr, pn, h1, h2⟩ := ha
      exact ⟨F, pr, pn, (upd_ne hfp).trans h1, h2.updX hf u⟩
theorem DSt.later {A : Ad} {H H' : Hp} {X : Addr → Prop} {p dd : Addr} {o : Ag12.Abs} {k : Nat} (h : DSt A H X p dd o k) (s : Same H H') : DSt A H' X p dd o k :=
  ⟨h.xp, fun b hb => by obtain ⟨v, e⟩ := h.xs b hb; exact ⟨v, s _ _ e⟩, h.ok, h.ln, h.at_.later s⟩
theorem DSt.desk {A : Ad} {H : Hp} {X : Addr → Prop} {p dd : Addr} {o : Ag12.Abs} {k : Nat} (h : DSt A H X p dd o k) : ∃ rv, H p = some (.ins A.c_Desk dd [("running", rv)]) := by
  have ha := h.at_
  cases o with
  | none => exact ⟨_, ha⟩
  | some s =>
    obtain ⟨F, pr, pn, h, _⟩ := ha
    exact ⟨_, h⟩
theorem seq_post {t u : TS} {D : Ends} {σ : L2.St} {H : Hp} (R : L2.St → Hp → Prop) (h1 : ∀ Z : L2.St → Hp → Prop, (∀ σ' H', R σ' H' → Z σ' H') → t { D with nx := Z } σ H) (h2 : ∀ σ' H', R σ' H' → u D σ' H') : tSeq t u D σ H := h1 (u D) h2
theorem drop_get {l r : List Int} {p : Int} {i : Nat} (h : l.drop i = p :: r) : (l.map V.int)[i]? = some (.int p) ∧ l.drop (i + 1) = r ∧ i < l.length := by
  have h1 : l[i]? = some p := by
    have := congrArg (fun l => l[0]?) h
    rw [List.getElem?_drop, Nat.add_zero, List.getElem?_cons_zero] at this
    exact this
  refine ⟨by rw [List.getElem?_map, h1]; rfl, ?_, (List.getElem?_eq_some_iff.mp h1).1⟩
  have := congrArg (List.drop 1) h
  rw [List.drop_drop] at this
  exact this
theorem take_toI (g : List Nat) (t : List Int) : (toI g ++ t).take g.length = toI g := by
  have : (toI g).length = g.length := List.length_map ..
  rw [← this, List.take_left]
theorem drop_toI (g : List Nat) (t : List Int) : (toI g ++ t).drop g.length = t := by
  have : (toI g).length = g.length := List.length_map ..
  rw [← this, List.drop_left]
section
variable {P : Program} {w : World} {K : PySem.W.Frag} {mg : Str → Option Value} {base : Heap} {A : Ad}
def spAns (K : PySem.W.Frag) : Sp := fun vs H Q _ => ∃ a ns, vs = [.ref a] ∧ SqL K H a (ns.map V.int) ∧ PyAg12.answers_asked ns = true ∧ ∀ H' p, H' p = some (.lst (il (PyAg12.answers ns))) → Q (.ref p) H'
theorem sc_answers : FnScope n_answers p_answers (defScope s_answers) := ⟨rfl, rfl, rfl, by decide +kernel, rfl, by decide +kernel, by decide +kernel⟩
theorem ok_answers (T : Txt K mg A) {fd : FuncData} (F : Fun K "answers" "answers" s_answers A.f_answers fd) : FnOk P w K mg base CX0 13 A.f_answers fd p_answers (spAns K) := by
  obtain ⟨fd_Desk_answer, G_Desk_answer, b_Desk_answer⟩ := ok_Desk_answer (P := P) (w := w) (base := base) T
  obtain ⟨fd_Desk_init, G_Desk_init, b_Desk_init⟩ := ok_Desk_init (P := P) (w := w) (base := base) T
  refine F.ok sc_answers (fun vs H Q E h => ?_) (fun cdv Ar outer s H vs Q E hr h => ?_)
  · obtain ⟨a, ns, rfl, _⟩ := h
    rfl
  · obtain ⟨a, ns, rfl, hS, hask, fin⟩ := h
    refine ⟨_, (pss_cons (ps_par3 (i := 1) (j := 2) (l := 3) rfl sc_answers.nd rfl rfl rfl (by decide) (by decide) (by decide) rfl rfl rfl (pa_cons (pe_make0 T.mk_Desk G_Desk_init (hr.mono (by decide)) (by rfl) T.g_Desk b_Desk_init .nil pass0) (pa_cons pe_int (pa_cons (pe_lst pa_nil) pa_nil))) (by rfl))
      (pss_cons (ps_while PassesOwn.never (pt_cmpR op_lt (pv 2) (pe_callB (r := rLenK K) call_len_seq (by rfl) T.b_len PySem.boot_len (pa_cons (pv 0) pa_nil)) (nomark _)) (pss_cons (ps_set (i := 4) sc_answers.nd rfl (Or.inl rfl) (pe_ix ix_list (pv 0) (pv 2) (fun _ _ => rfl)))
      (pss_cons (ps_aug (i := 2) sc_answers.nd rfl (Or.inl rfl) pe_int ip_add)
      (pss_cons (ps_set (i := 5) sc_answers.nd rfl (Or.inl rfl) (pe_kget (pe_glob (v := .ref A.a_GIVEN) rfl T.g_GIVEN rfl) (pv 4) pe_int ⟨rfl, rfl, rfl, rfl⟩))
      (pss_cons (ps_if (pt_cmpR op_eq (pv 4) pe_int (nomark _)) (pss_cons (ps_set (i := 5) sc_answers.nd rfl (Or.inl rfl) (pe_ix ix_list (pv 0) (pv 2) (fun _ _ => rfl)))
      (pss_one (ps_aug (i := 2) sc_answers.nd rfl (Or.inl rfl) pe_int ip_add))) pss_nil)
      (pss_cons (ps_set (i := 6) sc_answers.nd rfl (Or.inl rfl) (pe_meth (pv 1) T.cl_Desk T.m_Desk_answer G_Desk_answer (hr.mono (by decide)) b_Desk_answer .nil pass0 (pa_cons (pv 4) (pa_cons (pe_slice sl_list (pv 0) (po_some (pv 2)) (po_some (pe_op op_add (pv 2) (pv 5)))) pa_nil))))
      (pss_cons (ps_aug (i := 2) sc_answers.nd rfl (Or.inl rfl) (pv 5) ip_add)
      (pss_cons (ps_expr (pe_bm PySem.F.plainAttrs_list PySem.F.slot_list_append PySem.F.type_list_append mt_append (pv 3) (pa_cons (pe_callB (r := rLenK K) call_len_seq (by rfl) T.b_len PySem.boot_len (pa_cons (pv 6) pa_nil)) pa_nil)))
      (pss_one (ps_expr (pe_bm PySem.F.plainAttrs_list PySem.F.slot_list_extend PySem.F.type_list_extend mt_extend (pv 3) (pa_cons (pv 6) pa_nil))))))))))))
      (pss_one (ps_ret (pv 3))))), ?_⟩
    obtain ⟨raw0, hc0, hl0, hb0, hans, hshort⟩ := asked_out hask
    intro x dx x0 dx0 xd
    refine ⟨x, dx, rfl, upd_same, rfl, Nat.zero_le _, fun f f0 => ?_⟩
    refine ⟨_, _, _, rfl, ?_⟩
    -- the heap behind the first row
    have f0' := f0
    have xf : x ≠ f := ne_of_none upd_same f0
    have dxf : dx ≠ f := fun z => by
      rw [← z, upd_ne xd, upd_ne xd, upd_same] at f0
      cases f0
    have h0x : H x = none := x0
    have h0f : H f = none := by
      rw [upd_ne xf.symm, upd_ne xf.symm, upd_ne dxf.symm] at f0
      exact f0
    have oldH : ∀ b o, H b = some o → (upd (upd (upd (upd H dx (.own x)) x (.ins A.c_Desk dx [])) x (.ins A.c_Desk dx [("running", .non)])) f (.lst [])) b = some o := fun b o e => by
      have n1 : b ≠ x := ne_of_none e x0
      have n2 : b ≠ dx := ne_of_none e dx0
      have n3 : b ≠ f := fun z => by
        rw [← z, upd_ne n1, upd_ne n1, upd_ne n2, e] at f0
        cases f0
      rw [upd_ne n3, upd_ne n1, upd_ne n1, upd_ne n2]
      exact e
    have hxd : (upd (upd (upd (upd H dx (.own x)) x (.ins A.c_Desk dx [])) x (.ins A.c_Desk dx [("running", .non)])) f (.lst [])) x = some (.ins A.c_Desk dx [("running", .non)]) := (upd_ne xf).trans upd_same
    have hff : (upd (upd (upd (upd H dx (.own x)) x (.ins A.c_Desk dx [])) x (.ins A.c_Desk dx [("running", .non)])) f (.lst [])) f = some (.lst []) := upd_same
    generalize (upd (upd (upd (upd H dx (.own x)) x (.ins A.c_Desk dx [])) x (.ins A.c_Desk dx [("running", .non)])) f (.lst [])) = H0 at oldH hxd hff
    let X : Addr → Prop := fun b => b = x ∨ b = f ∨ (b = a ∧ ∃ o, H a = some o)
    have hXx : X x := .inl rfl
    have hXf : X f := .inr (.inl rfl)
    have S0 : SqL K H0 a (ns.map V.int) := sql_keep hS (fun o e => oldH a o e)
    have D0 : DSt A H0 X x dx none 0 := ⟨hXx, fun b hb => by
      rcases hb with rfl | rfl | ⟨rfl, o, e⟩
      · exact ⟨_, hxd⟩
      · exact ⟨_, hff⟩
      · exact ⟨_, oldH _ _ e⟩, trivial, trivial, hxd⟩
    refine while_intro (fun m σ H' => ∃ (i : Nat) (out : List Int) (o : Ag12.Abs) (k : Nat) (raw : List (List (List Int))) (fl : Nat) (pl mn an : Option V), σ = [some (.ref a), some (.ref x), some (vn i), some (.ref f), pl, mn, an] ∧ DSt A H' X x dx o k ∧
      PyFlat.calls PyAg12.shape fl (ns.drop i) = some raw ∧ k + raw.length ≤ 100 ∧ raw.all (PyInside.call PyAg12.bound) = true ∧ H' f = some (.lst (il out)) ∧ out ++ dueOf o raw = PyAg12.answers ns ∧ SqL K H' a (ns.map V.int) ∧ (∀ o, H a = some o → H' a = some o) ∧ m = raw.length) raw0.length
      ⟨0, [], none, 0, raw0, ns.length, none, none, none, rfl, D0, hc0, by omega, hb0, hff, hans.symm, S0, fun o e => oldH a o e, rfl⟩ ?_
    rintro m σ H1 ⟨i, out, o, k, raw, fl, pl, mn, an, rfl, D, hc, hkl, hbd, hf, hout, hS1, ha1, rfl⟩
    refine ⟨_, rfl, _, rfl, a, _, rfl, .inl hS1, _, _, rfl, rfl, _, rfl, ?_⟩
    rw [List.length_map]
    by_cases hi : i < ns.length
    rotate_left
    · rw [decide_eq_false (show ¬ ((i : Nat) : Int) < ((ns.length : Nat) : Int) by omega)]
      refine iteF ⟨_, rfl, ?_⟩
      rw [List.drop_eq_nil_of_le (by omega)] at hc
      have := calls_nil hc
      subst this
      rw [due_nil, List.append_nil] at hout
      refine fin H1 f ?_
      rw [hf, hout]
    rw [decide_eq_true (show ((i : Nat) : Int) < ((ns.length : Nat) : Int) by omega)]
    obtain ⟨pz, r, hpr⟩ : ∃ pz r, ns.drop i = pz :: r := by
      cases e : ns.drop i with
      | nil => have := congrArg List.length e; rw [List.length_drop] at this; simp at this; omega
      | cons p r => exact ⟨p, r, rfl⟩
    rw [hpr] at hc
    obtain ⟨cc, t, fl', raw', hcall, hc', rfl⟩ := calls_cons hc
    rw [List.all_cons, Bool.and_eq_true] at hbd
    obtain ⟨q, g, c, rfl, hq13, hasks, hg200, hcallof, hg10, hq⟩ := front hcall hbd.1
    obtain ⟨e1, e2, _⟩ := drop_get hpr
    have hk99 : k ≤ 99 := by rw [List.length_cons] at hkl; omega
    rw [due_cons hcallof] at hout
    have hshort' : out.length + (1 + ((Ag12.step o c).2.length + (dueOf (Ag12.step o c).1 raw').length)) ≤ 10000000 := by
      have := congrArg List.length hout
      rw [hans] at this
      rw [List.length_append, List.length_cons, List.length_append] at this
      omega
    refine iteT ⟨fun σ' H' => ∃ m', m' < (cc :: raw').length ∧ ∃ (i : Nat) (out : List Int) (o : Ag12.Abs) (k : Nat) (raw : List (List (List Int))) (fl : Nat) (pl mn an : Option V), σ' = [some (.ref a), some (.ref x), some (vn i), some (.ref f), pl, mn, an] ∧ DSt A H' X x dx o k ∧
      PyFlat.calls PyAg12.shape fl (ns.drop i) = some raw ∧ k + raw.length ≤ 100 ∧ raw.all (PyInside.call PyAg12.bound) = true ∧ H' f = some (.lst (il out)) ∧ out ++ dueOf o raw = PyAg12.answers ns ∧ SqL K H' a (ns.map V.int) ∧ (∀ o, H a = some o → H' a = some o) ∧ m' = raw.length, fun _ _ h => h, ?_⟩
    refine ⟨_, rfl, _, rfl, a, ns.map V.int, ((i : Nat) : Int), _, rfl, rfl, hS1, atI_nat e1, ?_⟩
    refine ⟨_, rfl, _, _, rfl, rfl, ?_⟩
    obtain ⟨es, n, KI, hfb⟩ := T.given
    refine ⟨A.a_GIVEN, es, n, rfl, KI, _, rfl, ((q : Nat) : Int), 0, ((arity q : Nat) : Int), rfl, rfl, ?_, ?_⟩
    · rcases hfb q hq13 with ⟨h1, h2⟩ | h1
      · exact .inl ⟨h1, h2⟩
      · exact .inr h1
    show tSeq (tIfS (tTest (tOp rEq (tVar 4) (tC (.int 0)))) _ tNext) _ _ _ _
    refine seq_post (fun σ' H' => H1 = H' ∧ ∃ i', σ' = [some (.ref a), some (.ref x), some (vn i'), some (.ref f), some (vn q), some (vn g.length), an] ∧ ns.drop i' = toI g ++ t) ?_ ?_
    · intro Z hZ
      refine ⟨_, rfl, rfl, _, rfl, ?_⟩
      show if decide (vn q = vn 0) = true then _ else _
      rw [dec_vn]
      rcases hq with ⟨hq0, hr⟩ | ⟨hq0, hgl, hr⟩
      · rw [decide_eq_true hq0, if_pos rfl]
        rw [hr] at e2
        obtain ⟨e3, e4, _⟩ := drop_get e2
        refine ⟨_, rfl, _, rfl, a, ns.map V.int, ((i + 1 : Nat) : Int), _, rfl, rfl, hS1, atI_nat e3, ?_⟩
        refine ⟨_, rfl, _, _, rfl, rfl, hZ _ _ ⟨rfl, i + 1 + 1, rfl, e4⟩⟩
      · rw [decide_eq_false hq0, if_neg Bool.false_ne_true]
        refine hZ _ _ ⟨rfl, i + 1, ?_, e2.trans hr⟩
        rw [hgl]
        rfl
    · rintro σ' H' ⟨rfl, i', rfl, hdr⟩
      obtain ⟨rv, hdesk⟩ := D.desk
      refine ⟨_, rfl, _, _, _, rfl, hdesk, no_Desk _ (by decide +kernel), _, rfl, _, rfl, _, rfl, _, rfl, _, rfl, _, rfl, _, _, rfl, rfl, _, rfl, a, _, rfl, hS1, fun ga ga0 => ?_⟩
      have hcut : cutV (ns.map V.int) (some ((i' : Nat) : Int)) (some (((i' : Nat) : Int) + ((g.length : Nat) : Int))) = nl g := by
        rw [show ((i' : Nat) : Int) + ((g.length : Nat) : Int) = ((i' + g.length : Nat) : Int) by omega, cutV_mid, nl_toI, ← List.map_drop, hdr, ← List.map_take, take_toI]
      have hg2 : (upd H1 ga (.lst (cutV (ns.map V.int) (some ((i' : Nat) : Int)) (some (((i' : Nat) : Int) + ((g.length : Nat) : Int)))))) ga = some (.lst (nl g)) := by
        rw [upd_same, hcut]
      have s2 := nw ga0 (.lst (cutV (ns.map V.int) (some ((i' : Nat) : Int)) (some (((i' : Nat) : Int) + ((g.length : Nat) : Int)))))
      have D2 := D.later s2
      refine ⟨X, x, dx, o, k, q, ga, g, c, rfl, D2, hk99, hg2, hasks, hg10, fun z hz => by have := hg200 z hz; omega, fun H2 r D3 keep nX hr => ?_⟩
      have hf2 : H2 f = some (.lst (il out)) := (keep f hXf xf.symm).trans (s2 _ _ hf)
      have ha2 : ∀ u, H a = some u → H2 a = some u := fun u e => by
        have e1 := ha1 u e
        by_cases c : a = x
        · rw [c, h0x] at e
          cases e
        · exact (keep a (.inr (.inr ⟨rfl, u, e⟩)) c).trans (s2 _ _ e1)
      have fr : f ≠ r := fun z => nX (z ▸ hXf)
      refine ⟨_, rfl, _, rfl, _, _, rfl, rfl, ?_⟩
      have lenr : ((il (Ag12.step o c).2).length) = (Ag12.step o c).2.length := List.length_map ..
      have leno : ((il out).length) = out.length := List.length_map ..
      have hdue : (1 : Nat) ≤ 10000000 := by decide
      refine ⟨_, rfl, .inl ⟨rfl, _, SqL.of hf2⟩, _, rfl, r, _, rfl, .inl (SqL.of hr), f, _, _, rfl, rfl, hf2, Nat.lt_of_le_of_lt (show (il out).length ≤ 10000000 by rw [leno]; omega) (by decide), ?_⟩
      have hf3 : (upd H2 f (.lst (il out ++ [V.int (((il (Ag12.step o c).2).length : Nat) : Int)]))) f = some (.lst (il out ++ [V.int (((il (Ag12.step o c).2).length : Nat) : Int)])) := upd_same
      refine ⟨_, rfl, .inl ⟨rfl, _, SqL.of hf3⟩, _, rfl, f, r, _, _, rfl, rfl, hf3, (upd_ne fr.symm).trans hr, Nat.le_trans (show (il out ++ [V.int (((il (Ag12.step o c).2).length : Nat) : Int)]).length + (il (Ag12.step o c).2).length ≤ 10000000 by rw [List.length_append, leno, lenr, List.length_singleton]; omega) (by decide), ?_⟩
      rw [upd_upd]
      have D4 := D3.updX hXf xf (.lst (il out ++ [V.int (((il (Ag12.step o c).2).length : Nat) : Int)] ++ il (Ag12.step o c).2))
      refine ⟨raw'.length, by rw [List.length_cons]; omega, i' + g.length, out ++ (((Ag12.step o c).2.length : Int) :: (Ag12.step o c).2), (Ag12.step o c).1, k + 1, raw', fl', _, _, _, rfl, D4, ?_, by rw [List.length_cons] at hkl; omega, hbd.2, ?_, ?_, ?_, ?_, rfl⟩
      · rw [show i' + g.length = g.length + i' by omega, Nat.add_comm, ← List.drop_drop, hdr, drop_toI]
        exact hc'
      · rw [upd_same, il_append, lenr]
        show some (HO.lst (il out ++ [V.int ((Ag12.step o c).2.length : Int)] ++ il (Ag12.step o c).2)) = some (HO.lst (il out ++ (V.int ((Ag12.step o c).2.length : Int) :: il (Ag12.step o c).2)))
        rw [List.append_assoc]
        rfl
      · rw [← hout, List.append_assoc]
        rfl
      · refine sql_keep hS fun u e => ?_
        rw [upd_ne (fun z => by rw [z, h0f] at e; cases e)]
        exact ha2 u e
      · intro u e
        rw [upd_ne (fun z => by rw [z, h0f] at e; cases e)]
        exact ha2 u e
end
end Wk
end

section
set_option Elab.async false
set_option linter.all false
set_option maxRecDepth 100000
set_option maxHeartbeats 8000000
namespace Wk
open PySem PySem.Spec PyProof.Rows L2
/-- an error of the class at S is what «except S» names -/
theorem exm_self {K : PySem.W.Frag} {S : Addr} (h1 : PySem.W.subIn K (.ref S) (.type "BaseException") = some true) (h2 : PySem.W.isClsIn K S = true) (h3 : PySem.W.typeIn K (.ref S) = some (.type "type")) (h4 : PySem.W.subIn K (.ref S) (.ref S) = some true) :
    PySem.W.exmOne K (.ref S) (.ref S) = some true := by
  have e1 : (PySem.W.subIn K (.ref S) (.type "BaseException") == some true) = true := by rw [h1] <;> rfl
  have e2 : ((PySem.W.clsIn K S).isSome && PySem.W.typeIn K (.ref S) == some (.type "type")) = true := by
    have h2' : (PySem.W.clsIn K S).isSome = true := h2
    rw [h2', h3] <;> rfl
  show (if (PySem.W.subIn K (.ref S) (.type "BaseException") == some true) = true then (if ((PySem.W.clsIn K S).isSome && PySem.W.typeIn K (.ref S) == some (.type "type")) = true then PySem.W.subIn K (.ref S) (.ref S) else none) else none) = some true
  rw [if_pos e1, if_pos e2]
  exact h4
theorem given_mk {K : PySem.W.Frag} {d : Addr} {n : Nat} {gk1 gv1 gk2 gv2 gk3 gv3 gk4 gv4 gk5 gv5 gk6 gv6 gk7 gv7 gk8 gv8 gk9 gv9 gk11 gv11 : Tok}
    (x : K.lookup d = some ⟨.type "dict", none, .dict #[⟨hashInt 1, .int 1 gk1, .int 1 gv1⟩, ⟨hashInt 2, .int 2 gk2, .int 2 gv2⟩, ⟨hashInt 3, .int 3 gk3, .int 2 gv3⟩, ⟨hashInt 4, .int 4 gk4, .int 1 gv4⟩, ⟨hashInt 5, .int 5 gk5, .int 1 gv5⟩, ⟨hashInt 6, .int 6 gk6, .int 1 gv6⟩, ⟨hashInt 7, .int 7 gk7, .int 1 gv7⟩, ⟨hashInt 8, .int 8 gk8, .int 1 gv8⟩, ⟨hashInt 9, .int 9 gk9, .int 1 gv9⟩, ⟨hashInt 11, .int 11 gk11, .int 1 gv11⟩] n, #[]⟩)
    (y : (d == sysModules) = false) : GivenAt K d := by
  refine ⟨_, n, ⟨x, fun e he => ?_, y⟩, fun q hq => ?_⟩
  · have he' := Array.mem_toList_iff.mpr he
    simp only [List.mem_cons, List.not_mem_nil, or_false] at he'
    rcases he' with rfl | rfl | rfl | rfl | rfl | rfl | rfl | rfl | rfl | rfl <;> exact ⟨_, _, rfl, rfl⟩
  · have hq' : q = 0 ∨ q = 1 ∨ q = 2 ∨ q = 3 ∨ q = 4 ∨ q = 5 ∨ q = 6 ∨ q = 7 ∨ q = 8 ∨ q = 9 ∨ q = 10 ∨ q = 11 ∨ q = 12 ∨ q = 13 := by omega
    rcases hq' with rfl | rfl | rfl | rfl | rfl | rfl | rfl | rfl | rfl | rfl | rfl | rfl | rfl | rfl <;> first | exact .inl ⟨rfl, rfl⟩ | exact .inr ⟨_, rfl⟩
theorem all_mk {P : Program} {w : World} {K : PySem.W.Frag} {h : Heap} {mg : Str → Option Value} {fa : Addr} {C_Node C_Message C_Running C_Desk : Addr} {f_Node_init f_Node_begin f_Node_leave f_Node_mask f_Node_members f_Node_others f_Node_is_majority f_Node_term_at f_Node_last_term f_Node_has_open_configuration f_Node_adopt f_Node_next_commit f_Node_would_vote f_Node_take_entries f_Node_told f_told_entries f_Message_init f_Message_told f_append_of f_request_of f_vote_of f_reply_of f_Running_init f_Running_send f_Running_set_commit f_Running_advance f_Running_add f_Running_heartbeat f_Running_lead f_Running_elect f_Running_receive f_Running_receive_request f_Running_receive_vote f_Running_receive_append f_Running_receive_reply f_need f_Desk_init f_Desk_begin f_Desk_node f_Desk_leader f_Desk_start_election f_Desk_propose f_Desk_change_member f_Desk_heartbeat f_Desk_message f_Desk_deliver f_Desk_drop f_Desk_stop f_Desk_restart f_Desk_told_messages f_Desk_told_leaders f_Desk_change f_Desk_later f_Desk_answer f_answers : Addr} {C_Refused f_Refused A_BITS A_GIVEN : Addr}
    (X : K.In h) (G : h.Ns mainGlobals mg) (hfa : mg "answers" = some (.ref fa))
    {od_Node_init an_Node_init od_Node_begin an_Node_begin od_Node_leave an_Node_leave od_Node_mask an_Node_mask od_Node_members an_Node_members od_Node_others an_Node_others od_Node_is_majority an_Node_is_majority od_Node_term_at an_Node_term_at od_Node_last_term an_Node_last_term od_Node_has_open_configuration an_Node_has_open_configuration od_Node_adopt an_Node_adopt od_Node_next_commit an_Node_next_commit od_Node_would_vote an_Node_would_vote od_Node_take_entries an_Node_take_entries od_Node_told an_Node_told od_told_entries an_told_entries od_Message_init an_Message_init od_Message_told an_Message_told od_append_of an_append_of od_request_of an_request_of od_vote_of an_vote_of od_reply_of an_reply_of od_Running_init an_Running_init od_Running_send an_Running_send od_Running_set_commit an_Running_set_commit od_Running_advance an_Running_advance od_Running_add an_Running_add od_Running_heartbeat an_Running_heartbeat od_Running_lead an_Running_lead od_Running_elect an_Running_elect od_Running_receive an_Running_receive od_Running_receive_request an_Running_receive_request od_Running_receive_vote an_Running_receive_vote od_Running_receive_append an_Running_receive_append od_Running_receive_reply an_Running_receive_reply od_need an_need od_Desk_init an_Desk_init od_Desk_begin an_Desk_begin od_Desk_node an_Desk_node od_Desk_leader an_Desk_leader od_Desk_start_election an_Desk_start_election od_Desk_propose an_Desk_propose od_Desk_change_member an_Desk_change_member od_Desk_heartbeat an_Desk_heartbeat od_Desk_message an_Desk_message od_Desk_deliver an_Desk_deliver od_Desk_drop an_Desk_drop od_Desk_stop an_Desk_stop od_Desk_restart an_Desk_restart od_Desk_told_messages an_Desk_told_messages od_Desk_told_leaders an_Desk_told_leaders od_Desk_change an_Desk_change od_Desk_later an_Desk_later od_Desk_answer an_Desk_answer od_answers an_answers : Option Addr} {sl_Node_init sl_Node_begin sl_Node_leave sl_Node_mask sl_Node_members sl_Node_others sl_Node_is_majority sl_Node_term_at sl_Node_last_term sl_Node_has_open_configuration sl_Node_adopt sl_Node_next_commit sl_Node_would_vote sl_Node_take_entries sl_Node_told sl_told_entries sl_Message_init sl_Message_told sl_append_of sl_request_of sl_vote_of sl_reply_of sl_Running_init sl_Running_send sl_Running_set_commit sl_Running_advance sl_Running_add sl_Running_heartbeat sl_Running_lead sl_Running_elect sl_Running_receive sl_Running_receive_request sl_Running_receive_vote sl_Running_receive_append sl_Running_receive_reply sl_need sl_Desk_init sl_Desk_begin sl_Desk_node sl_Desk_leader sl_Desk_start_election sl_Desk_propose sl_Desk_change_member sl_Desk_heartbeat sl_Desk_message sl_Desk_deliver sl_Desk_drop sl_Desk_stop sl_Desk_restart sl_Desk_told_messages sl_Desk_told_leaders sl_Desk_change sl_Desk_later sl_Desk_answer sl_answers : Array (Option Value)}
    {oc_Node_init kV_Node_init dc_Node_init pm_Node_init cd_Node_init ct_Node_init oc_Node_begin kV_Node_begin dc_Node_begin pm_Node_begin cd_Node_begin ct_Node_begin oc_Node_leave kV_Node_leave dc_Node_leave pm_Node_leave cd_Node_leave ct_Node_leave oc_Node_mask kV_Node_mask dc_Node_mask pm_Node_mask cd_Node_mask ct_Node_mask oc_Node_members kV_Node_members dc_Node_members pm_Node_members cd_Node_members ct_Node_members oc_Node_others kV_Node_others dc_Node_others pm_Node_others cd_Node_others ct_Node_others oc_Node_is_majority kV_Node_is_majority dc_Node_is_majority pm_Node_is_majority cd_Node_is_majority ct_Node_is_majority oc_Node_term_at kV_Node_term_at dc_Node_term_at pm_Node_term_at cd_Node_term_at ct_Node_term_at oc_Node_last_term kV_Node_last_term dc_Node_last_term pm_Node_last_term cd_Node_last_term ct_Node_last_term oc_Node_has_open_configuration kV_Node_has_open_configuration dc_Node_has_open_configuration pm_Node_has_open_configuration cd_Node_has_open_configuration ct_Node_has_open_configuration oc_Node_adopt kV_Node_adopt dc_Node_adopt pm_Node_adopt cd_Node_adopt ct_Node_adopt oc_Node_next_commit kV_Node_next_commit dc_Node_next_commit pm_Node_next_commit cd_Node_next_commit ct_Node_next_commit oc_Node_would_vote kV_Node_would_vote dc_Node_would_vote pm_Node_would_vote cd_Node_would_vote ct_Node_would_vote oc_Node_take_entries kV_Node_take_entries dc_Node_take_entries pm_Node_take_entries cd_Node_take_entries ct_Node_take_entries oc_Node_told kV_Node_told dc_Node_told pm_Node_told cd_Node_told ct_Node_told oc_told_entries kV_told_entries dc_told_entries pm_told_entries cd_told_entries ct_told_entries oc_Message_init kV_Message_init dc_Message_init pm_Message_init cd_Message_init ct_Message_init oc_Message_told kV_Message_told dc_Message_told pm_Message_told cd_Message_told ct_Message_told oc_append_of kV_append_of dc_append_of pm_append_of cd_append_of ct_append_of oc_request_of kV_request_of dc_request_of pm_request_of cd_request_of ct_request_of oc_vote_of kV_vote_of dc_vote_of pm_vote_of cd_vote_of ct_vote_of oc_reply_of kV_reply_of dc_reply_of pm_reply_of cd_reply_of ct_reply_of oc_Running_init kV_Running_init dc_Running_init pm_Running_init cd_Running_init ct_Running_init oc_Running_send kV_Running_send dc_Running_send pm_Running_send cd_Running_send ct_Running_send oc_Running_set_commit kV_Running_set_commit dc_Running_set_commit pm_Running_set_commit cd_Running_set_commit ct_Running_set_commit oc_Running_advance kV_Running_advance dc_Running_advance pm_Running_advance cd_Running_advance ct_Running_advance oc_Running_add kV_Running_add dc_Running_add pm_Running_add cd_Running_add ct_Running_add oc_Running_heartbeat kV_Running_heartbeat dc_Running_heartbeat pm_Running_heartbeat cd_Running_heartbeat ct_Running_heartbeat oc_Running_lead kV_Running_lead dc_Running_lead pm_Running_lead cd_Running_lead ct_Running_lead oc_Running_elect kV_Running_elect dc_Running_elect pm_Running_elect cd_Running_elect ct_Running_elect oc_Running_receive kV_Running_receive dc_Running_receive pm_Running_receive cd_Running_receive ct_Running_receive oc_Running_receive_request kV_Running_receive_request dc_Running_receive_request pm_Running_receive_request cd_Running_receive_request ct_Running_receive_request oc_Running_receive_vote kV_Running_receive_vote dc_Running_receive_vote pm_Running_receive_vote cd_Running_receive_vote ct_Running_receive_vote oc_Running_receive_append kV_Running_receive_append dc_Running_receive_append pm_Running_receive_append cd_Running_receive_append ct_Running_receive_append oc_Running_receive_reply kV_Running_receive_reply dc_Running_receive_reply pm_Running_receive_reply cd_Running_receive_reply ct_Running_receive_reply oc_need kV_need dc_need pm_need cd_need ct_need oc_Desk_init kV_Desk_init dc_Desk_init pm_Desk_init cd_Desk_init ct_Desk_init oc_Desk_begin kV_Desk_begin dc_Desk_begin pm_Desk_begin cd_Desk_begin ct_Desk_begin oc_Desk_node kV_Desk_node dc_Desk_node pm_Desk_node cd_Desk_node ct_Desk_node oc_Desk_leader kV_Desk_leader dc_Desk_leader pm_Desk_leader cd_Desk_leader ct_Desk_leader oc_Desk_start_election kV_Desk_start_election dc_Desk_start_election pm_Desk_start_election cd_Desk_start_election ct_Desk_start_election oc_Desk_propose kV_Desk_propose dc_Desk_propose pm_Desk_propose cd_Desk_propose ct_Desk_propose oc_Desk_change_member kV_Desk_change_member dc_Desk_change_member pm_Desk_change_member cd_Desk_change_member ct_Desk_change_member oc_Desk_heartbeat kV_Desk_heartbeat dc_Desk_heartbeat pm_Desk_heartbeat cd_Desk_heartbeat ct_Desk_heartbeat oc_Desk_message kV_Desk_message dc_Desk_message pm_Desk_message cd_Desk_message ct_Desk_message oc_Desk_deliver kV_Desk_deliver dc_Desk_deliver pm_Desk_deliver cd_Desk_deliver ct_Desk_deliver oc_Desk_drop kV_Desk_drop dc_Desk_drop pm_Desk_drop cd_Desk_drop ct_Desk_drop oc_Desk_stop kV_Desk_stop dc_Desk_stop pm_Desk_stop cd_Desk_stop ct_Desk_stop oc_Desk_restart kV_Desk_restart dc_Desk_restart pm_Desk_restart cd_Desk_restart ct_Desk_restart oc_Desk_told_messages kV_Desk_told_messages dc_Desk_told_messages pm_Desk_told_messages cd_Desk_told_messages ct_Desk_told_messages oc_Desk_told_leaders kV_Desk_told_leaders dc_Desk_told_leaders pm_Desk_told_leaders cd_Desk_told_leaders ct_Desk_told_leaders oc_Desk_change kV_Desk_change dc_Desk_change pm_Desk_change cd_Desk_change ct_Desk_change oc_Desk_later kV_Desk_later dc_Desk_later pm_Desk_later cd_Desk_later ct_Desk_later oc_Desk_answer kV_Desk_answer dc_Desk_answer pm_Desk_answer cd_Desk_answer ct_Desk_answer oc_answers kV_answers dc_answers pm_answers cd_answers ct_answers : Value}
    {t_MANY t_NOBODY t_FOLLOWER t_CANDIDATE t_LEADER t_COMMAND t_CONFIGURATION t_EMPTY t_REQUEST t_VOTE t_APPEND t_REPLY t_MOST_MESSAGES t_IGNORED t_REPLIED t_COUNTED t_LEADS t_INCREASED t_ADOPTED t_NO_SUCCESS t_OUT t_WRONG_ROLE t_STOPPED t_NOT_NOW t_NO_MEMBER t_NO_NODES t_MOST_COMMAND : Tok} {b1 b2 b3 b4 b5 : Tok} {gk1 gv1 gk2 gv2 gk3 gv3 gk4 gv4 gk5 gv5 gk6 gv6 gk7 gv7 gk8 gv8 gk9 gv9 gk11 gv11 : Tok} {d_BITS : Option Addr} {n_BITS n_GIVEN : Nat} {s_BITS : Array (Option Value)}
    {nmR qR : Str} {NR_ : Addr} {bsR : List Value} {snR : List Str} {subR : List Value} {abR : Bool} {colR : Option Bool} {ddR : Option Addr} {mR0 mR1 mR2 mR3 mR5 : Option Value} {odR anR : Option Addr} {slR : Array (Option Value)} {ocR dcR pmR cdR ctR : Value}
    (a_Node : PySem.W.nsIn K mainGlobals "Node" = some (some (.ref C_Node)))
    (a_Message : PySem.W.nsIn K mainGlobals "Message" = some (some (.ref C_Message)))
    (a_Running : PySem.W.nsIn K mainGlobals "Running" = some (some (.ref C_Running)))
    (a_Desk : PySem.W.nsIn K mainGlobals "Desk" = some (some (.ref C_Desk)))
    (a_Refused : PySem.W.nsIn K mainGlobals "Refused" = some (some (.ref C_Refused)))
    (a_Node_init : PySem.W.findIn K (.ref C_Node) "__init__" = some (some (.ref f_Node_init)))
    (i_Node_init : PySem.W.isFn K (.ref f_Node_init) = true)
    (l_Node_init : K.lookup f_Node_init = some ⟨oc_Node_init, od_Node_init, .func (PySem.W.fnOf "__init__" "Node.__init__" (defArgs s_Node_init) (defBody s_Node_init) (defScope s_Node_init) .none kV_Node_init dc_Node_init pm_Node_init an_Node_init cd_Node_init ct_Node_init), sl_Node_init⟩)
    (c_Node_init : PySem.W.codeIn K cd_Node_init "Node.__init__" = true)
    (k_Node_init : PySem.W.keepIn K (.ref f_Node_init) = true)
    (a_Node_begin : PySem.W.findIn K (.ref C_Node) "begin" = some (some (.ref f_Node_begin)))
    (i_Node_begin : PySem.W.isFn K (.ref f_Node_begin) = true)
    (l_Node_begin : K.lookup f_Node_begin = some ⟨oc_Node_begin, od_Node_begin, .func (PySem.W.fnOf "begin" "Node.begin" (defArgs s_Node_begin) (defBody s_Node_begin) (defScope s_Node_begin) .none kV_Node_begin dc_Node_begin pm_Node_begin an_Node_begin cd_Node_begin ct_Node_begin), sl_Node_begin⟩)
    (c_Node_begin : PySem.W.codeIn K cd_Node_begin "Node.begin" = true)
    (k_Node_begin : PySem.W.keepIn K (.ref f_Node_begin) = true)
    (a_Node_leave : PySem.W.findIn K (.ref C_Node) "leave" = some (some (.ref f_Node_leave)))
    (i_Node_leave : PySem.W.isFn K (.ref f_Node_leave) = true)
    (l_Node_leave : K.lookup f_Node_leave = some ⟨oc_Node_leave, od_Node_leave, .func (PySem.W.fnOf "leave" "Node.leave" (defArgs s_Node_leave) (defBody s_Node_leave) (defScope s_Node_leave) .none kV_Node_leave dc_Node_leave pm_Node_leave an_Node_leave cd_Node_leave ct_Node_leave), sl_Node_leave⟩)
    (c_Node_leave : PySem.W.codeIn K cd_Node_leave "Node.leave" = true)
    (k_Node_leave : PySem.W.keepIn K (.ref f_Node_leave) = true)
    (a_Node_mask : PySem.W.findIn K (.ref C_Node) "mask" = some (some (.ref f_Node_mask)))
    (i_Node_mask : PySem.W.isFn K (.ref f_Node_mask) = true)
    (l_Node_mask : K.lookup f_Node_mask = some ⟨oc_Node_mask, od_Node_mask, .func (PySem.W.fnOf "mask" "Node.mask" (defArgs s_Node_mask) (defBody s_Node_mask) (defScope s_Node_mask) .none kV_Node_mask dc_Node_mask pm_Node_mask an_Node_mask cd_Node_mask ct_Node_mask), sl_Node_mask⟩)
    (c_Node_mask : PySem.W.codeIn K cd_Node_mask "Node.mask" = true)
    (k_Node_mask : PySem.W.keepIn K (.ref f_Node_mask) = true)
    (a_Node_members : PySem.W.findIn K (.ref C_Node) "members" = some (some (.ref f_Node_members)))
    (i_Node_members : PySem.W.isFn K (.ref f_Node_members) = true)
    (l_Node_members : K.lookup f_Node_members = some ⟨oc_Node_members, od_Node_members, .func (PySem.W.fnOf "members" "Node.members" (defArgs s_Node_members) (defBody s_Node_members) (defScope s_Node_members) .none kV_Node_members dc_Node_members pm_Node_members an_Node_members cd_Node_members ct_Node_members), sl_Node_members⟩)
    (c_Node_members : PySem.W.codeIn K cd_Node_members "Node.members" = true)
    (k_Node_members : PySem.W.keepIn K (.ref f_Node_members) = true)
    (a_Node_others : PySem.W.findIn K (.ref C_Node) "others" = some (some (.ref f_Node_others)))
    (i_Node_others : PySem.W.isFn K (.ref f_Node_others) = true)
    (l_Node_others : K.lookup f_Node_others = some ⟨oc_Node_others, od_Node_others, .func (PySem.W.fnOf "others" "Node.others" (defArgs s_Node_others) (defBody s_Node_others) (defScope s_Node_others) .none kV_Node_others dc_Node_others pm_Node_others an_Node_others cd_Node_others ct_Node_others), sl_Node_others⟩)
    (c_Node_others : PySem.W.codeIn K cd_Node_others "Node.others" = true)
    (k_Node_others : PySem.W.keepIn K (.ref f_Node_others) = true)
    (a_Node_is_majority : PySem.W.findIn K (.ref C_Node) "is_majority" = some (some (.ref f_Node_is_majority)))
    (i_Node_is_majority : PySem.W.isFn K (.ref f_Node_is_majority) = true)
    (l_Node_is_majority : K.lookup f_Node_is_majority = some ⟨oc_Node_is_majority, od_Node_is_majority, .func (PySem.W.fnOf "is_majority" "Node.is_majority" (defArgs s_Node_is_majority) (defBody s_Node_is_majority) (defScope s_Node_is_majority) .none kV_Node_is_majority dc_Node_is_majority pm_Node_is_majority an_Node_is_majority cd_Node_is_majority ct_Node_is_majority), sl_Node_is_majority⟩)
    (c_Node_is_majority : PySem.W.codeIn K cd_Node_is_majority "Node.is_majority" = true)
    (k_Node_is_majority : PySem.W.keepIn K (.ref f_Node_is_majority) = true)
    (a_Node_term_at : PySem.W.findIn K (.ref C_Node) "term_at" = some (some (.ref f_Node_term_at)))
    (i_Node_term_at : PySem.W.isFn K (.ref f_Node_term_at) = true)
    (l_Node_term_at : K.lookup f_Node_term_at = some ⟨oc_Node_term_at, od_Node_term_at, .func (PySem.W.fnOf "term_at" "Node.term_at" (defArgs s_Node_term_at) (defBody s_Node_term_at) (defScope s_Node_term_at) .none kV_Node_term_at dc_Node_term_at pm_Node_term_at an_Node_term_at cd_Node_term_at ct_Node_term_at), sl_Node_term_at⟩)
    (c_Node_term_at : PySem.W.codeIn K cd_Node_term_at "Node.term_at" = true)
    (k_Node_term_at : PySem.W.keepIn K (.ref f_Node_term_at) = true)
    (a_Node_last_term : PySem.W.findIn K (.ref C_Node) "last_term" = some (some (.ref f_Node_last_term)))
    (i_Node_last_term : PySem.W.isFn K (.ref f_Node_last_term) = true)
    (l_Node_last_term : K.lookup f_Node_last_term = some ⟨oc_Node_last_term, od_Node_last_term, .func (PySem.W.fnOf "last_term" "Node.last_term" (defArgs s_Node_last_term) (defBody s_Node_last_term) (defScope s_Node_last_term) .none kV_Node_last_term dc_Node_last_term pm_Node_last_term an_Node_last_term cd_Node_last_term ct_Node_last_term), sl_Node_last_term⟩)
    (c_Node_last_term : PySem.W.codeIn K cd_Node_last_term "Node.last_term" = true)
    (k_Node_last_term : PySem.W.keepIn K (.ref f_Node_last_term) = true)
    (a_Node_has_open_configuration : PySem.W.findIn K (.ref C_Node) "has_open_configuration" = some (some (.ref f_Node_has_open_configuration)))
    (i_Node_has_open_configuration : PySem.W.isFn K (.ref f_Node_has_open_configuration) = true)
    (l_Node_has_open_configuration : K.lookup f_Node_has_open_configuration = some ⟨oc_Node_has_open_configuration, od_Node_has_open_configuration, .func (PySem.W.fnOf "has_open_configuration" "Node.has_open_configuration" (defArgs s_Node_has_open_configuration) (defBody s_Node_has_open_configuration) (defScope s_Node_has_open_configuration) .none kV_Node_has_open_configuration dc_Node_has_open_configuration pm_Node_has_open_configuration an_Node_has_open_configuration cd_Node_has_open_configuration ct_Node_has_open_configuration), sl_Node_has_open_configuration⟩)
    (c_Node_has_open_configuration : PySem.W.codeIn K cd_Node_has_open_configuration "Node.has_open_configuration" = true)
    (k_Node_has_open_configuration : PySem.W.keepIn K (.ref f_Node_has_open_configuration) = true)
    (a_Node_adopt : PySem.W.findIn K (.ref C_Node) "adopt" = some (some (.ref f_Node_adopt)))
    (i_Node_adopt : PySem.W.isFn K (.ref f_Node_adopt) = true)
    (l_Node_adopt : K.lookup f_Node_adopt = some ⟨oc_Node_adopt, od_Node_adopt, .func (PySem.W.fnOf "adopt" "Node.adopt" (defArgs s_Node_adopt) (defBody s_Node_adopt) (defScope s_Node_adopt) .none kV_Node_adopt dc_Node_adopt pm_Node_adopt an_Node_adopt cd_Node_adopt ct_Node_adopt), sl_Node_adopt⟩)
    (c_Node_adopt : PySem.W.codeIn K cd_Node_adopt "Node.adopt" = true)
    (k_Node_adopt : PySem.W.keepIn K (.ref f_Node_adopt) = true)
    (a_Node_next_commit : PySem.W.findIn K (.ref C_Node) "next_commit" = some (some (.ref f_Node_next_commit)))
    (i_Node_next_commit : PySem.W.isFn K (.ref f_Node_next_commit) = true)
    (l_Node_next_commit : K.lookup f_Node_next_commit = some ⟨oc_Node_next_commit, od_Node_next_commit, .func (PySem.W.fnOf "next_commit" "Node.next_commit" (defArgs s_Node_next_commit) (defBody s_Node_next_commit) (defScope s_Node_next_commit) .none kV_Node_next_commit dc_Node_next_commit pm_Node_next_commit an_Node_next_commit cd_Node_next_commit ct_Node_next_commit), sl_Node_next_commit⟩)
    (c_Node_next_commit : PySem.W.codeIn K cd_Node_next_commit "Node.next_commit" = true)
    (k_Node_next_commit : PySem.W.keepIn K (.ref f_Node_next_commit) = true)
    (a_Node_would_vote : PySem.W.findIn K (.ref C_Node) "would_vote" = some (some (.ref f_Node_would_vote)))
    (i_Node_would_vote : PySem.W.isFn K (.ref f_Node_would_vote) = true)
    (l_Node_would_vote : K.lookup f_Node_would_vote = some ⟨oc_Node_would_vote, od_Node_would_vote, .func (PySem.W.fnOf "would_vote" "Node.would_vote" (defArgs s_Node_would_vote) (defBody s_Node_would_vote) (defScope s_Node_would_vote) .none kV_Node_would_vote dc_Node_would_vote pm_Node_would_vote an_Node_would_vote cd_Node_would_vote ct_Node_would_vote), sl_Node_would_vote⟩)
    (c_Node_would_vote : PySem.W.codeIn K cd_Node_would_vote "Node.would_vote" = true)
    (k_Node_would_vote : PySem.W.keepIn K (.ref f_Node_would_vote) = true)
    (a_Node_take_entries : PySem.W.findIn K (.ref C_Node) "take_entries" = some (some (.ref f_Node_take_entries)))
    (i_Node_take_entries : PySem.W.isFn K (.ref f_Node_take_entries) = true)
    (l_Node_take_entries : K.lookup f_Node_take_entries = some ⟨oc_Node_take_entries, od_Node_take_entries, .func (PySem.W.fnOf "take_entries" "Node.take_entries" (defArgs s_Node_take_entries) (defBody s_Node_take_entries) (defScope s_Node_take_entries) .none kV_Node_take_entries dc_Node_take_entries pm_Node_take_entries an_Node_take_entries cd_Node_take_entries ct_Node_take_entries), sl_Node_take_entries⟩)
    (c_Node_take_entries : PySem.W.codeIn K cd_Node_take_entries "Node.take_entries" = true)
    (k_Node_take_entries : PySem.W.keepIn K (.ref f_Node_take_entries) = true)
    (a_Node_told : PySem.W.findIn K (.ref C_Node) "told" = some (some (.ref f_Node_told)))
    (i_Node_told : PySem.W.isFn K (.ref f_Node_told) = true)
    (l_Node_told : K.lookup f_Node_told = some ⟨oc_Node_told, od_Node_told, .func (PySem.W.fnOf "told" "Node.told" (defArgs s_Node_told) (defBody s_Node_told) (defScope s_Node_told) .none kV_Node_told dc_Node_told pm_Node_told an_Node_told cd_Node_told ct_Node_told), sl_Node_told⟩)
    (c_Node_told : PySem.W.codeIn K cd_Node_told "Node.told" = true)
    (k_Node_told : PySem.W.keepIn K (.ref f_Node_told) = true)
    (a_told_entries : PySem.W.nsIn K mainGlobals "told_entries" = some (some (.ref f_told_entries)))
    (l_told_entries : K.lookup f_told_entries = some ⟨oc_told_entries, od_told_entries, .func (PySem.W.fnOf "told_entries" "told_entries" (defArgs s_told_entries) (defBody s_told_entries) (defScope s_told_entries) .none kV_told_entries dc_told_entries pm_told_entries an_told_entries cd_told_entries ct_told_entries), sl_told_entries⟩)
    (c_told_entries : PySem.W.codeIn K cd_told_entries "told_entries" = true)
    (k_told_entries : PySem.W.keepIn K (.ref f_told_entries) = true)
    (a_Message_init : PySem.W.findIn K (.ref C_Message) "__init__" = some (some (.ref f_Message_init)))
    (i_Message_init : PySem.W.isFn K (.ref f_Message_init) = true)
    (l_Message_init : K.lookup f_Message_init = some ⟨oc_Message_init, od_Message_init, .func (PySem.W.fnOf "__init__" "Message.__init__" (defArgs s_Message_init) (defBody s_Message_init) (defScope s_Message_init) .none kV_Message_init dc_Message_init pm_Message_init an_Message_init cd_Message_init ct_Message_init), sl_Message_init⟩)
    (c_Message_init : PySem.W.codeIn K cd_Message_init "Message.__init__" = true)
    (k_Message_init : PySem.W.keepIn K (.ref f_Message_init) = true)
    (a_Message_told : PySem.W.findIn K (.ref C_Message) "told" = some (some (.ref f_Message_told)))
    (i_Message_told : PySem.W.isFn K (.ref f_Message_told) = true)
    (l_Message_told : K.lookup f_Message_told = some ⟨oc_Message_told, od_Message_told, .func (PySem.W.fnOf "told" "Message.told" (defArgs s_Message_told) (defBody s_Message_told) (defScope s_Message_told) .none kV_Message_told dc_Message_told pm_Message_told an_Message_told cd_Message_told ct_Message_told), sl_Message_told⟩)
    (c_Message_told : PySem.W.codeIn K cd_Message_told "Message.told" = true)
    (k_Message_told : PySem.W.keepIn K (.ref f_Message_told) = true)
    (a_append_of : PySem.W.nsIn K mainGlobals "append_of" = some (some (.ref f_append_of)))
    (l_append_of : K.lookup f_append_of = some ⟨oc_append_of, od_append_of, .func (PySem.W.fnOf "append_of" "append_of" (defArgs s_append_of) (defBody s_append_of) (defScope s_append_of) .none kV_append_of dc_append_of pm_append_of an_append_of cd_append_of ct_append_of), sl_append_of⟩)
    (c_append_of : PySem.W.codeIn K cd_append_of "append_of" = true)
    (k_append_of : PySem.W.keepIn K (.ref f_append_of) = true)
    (a_request_of : PySem.W.nsIn K mainGlobals "request_of" = some (some (.ref f_request_of)))
    (l_request_of : K.lookup f_request_of = some ⟨oc_request_of, od_request_of, .func (PySem.W.fnOf "request_of" "request_of" (defArgs s_request_of) (defBody s_request_of) (defScope s_request_of) .none kV_request_of dc_request_of pm_request_of an_request_of cd_request_of ct_request_of), sl_request_of⟩)
    (c_request_of : PySem.W.codeIn K cd_request_of "request_of" = true)
    (k_request_of : PySem.W.keepIn K (.ref f_request_of) = true)
    (a_vote_of : PySem.W.nsIn K mainGlobals "vote_of" = some (some (.ref f_vote_of)))
    (l_vote_of : K.lookup f_vote_of = some ⟨oc_vote_of, od_vote_of, .func (PySem.W.fnOf "vote_of" "vote_of" (defArgs s_vote_of) (defBody s_vote_of) (defScope s_vote_of) .none kV_vote_of dc_vote_of pm_vote_of an_vote_of cd_vote_of ct_vote_of), sl_vote_of⟩)
    (c_vote_of : PySem.W.codeIn K cd_vote_of "vote_of" = true)
    (k_vote_of : PySem.W.keepIn K (.ref f_vote_of) = true)
    (a_reply_of : PySem.W.nsIn K mainGlobals "reply_of" = some (some (.ref f_reply_of)))
    (l_reply_of : K.lookup f_reply_of = some ⟨oc_reply_of, od_reply_of, .func (PySem.W.fnOf "reply_of" "reply_of" (defArgs s_reply_of) (defBody s_reply_of) (defScope s_reply_of) .none kV_reply_of dc_reply_of pm_reply_of an_reply_of cd_reply_of ct_reply_of), sl_reply_of⟩)
    (c_reply_of : PySem.W.codeIn K cd_reply_of "reply_of" = true)
    (k_reply_of : PySem.W.keepIn K (.ref f_reply_of) = true)
    (a_Running_init : PySem.W.findIn K (.ref C_Running) "__init__" = some (some (.ref f_Running_init)))
    (i_Running_init : PySem.W.isFn K (.ref f_Running_init) = true)
    (l_Running_init : K.lookup f_Running_init = some ⟨oc_Running_init, od_Running_init, .func (PySem.W.fnOf "__init__" "Running.__init__" (defArgs s_Running_init) (defBody s_Running_init) (defScope s_Running_init) .none kV_Running_init dc_Running_init pm_Running_init an_Running_init cd_Running_init ct_Running_init), sl_Running_init⟩)
    (c_Running_init : PySem.W.codeIn K cd_Running_init "Running.__init__" = true)
    (k_Running_init : PySem.W.keepIn K (.ref f_Running_init) = true)
    (a_Running_send : PySem.W.findIn K (.ref C_Running) "send" = some (some (.ref f_Running_send)))
    (i_Running_send : PySem.W.isFn K (.ref f_Running_send) = true)
    (l_Running_send : K.lookup f_Running_send = some ⟨oc_Running_send, od_Running_send, .func (PySem.W.fnOf "send" "Running.send" (defArgs s_Running_send) (defBody s_Running_send) (defScope s_Running_send) .none kV_Running_send dc_Running_send pm_Running_send an_Running_send cd_Running_send ct_Running_send), sl_Running_send⟩)
    (c_Running_send : PySem.W.codeIn K cd_Running_send "Running.send" = true)
    (k_Running_send : PySem.W.keepIn K (.ref f_Running_send) = true)
    (a_Running_set_commit : PySem.W.findIn K (.ref C_Running) "set_commit" = some (some (.ref f_Running_set_commit)))
    (i_Running_set_commit : PySem.W.isFn K (.ref f_Running_set_commit) = true)
    (l_Running_set_commit : K.lookup f_Running_set_commit = some ⟨oc_Running_set_commit, od_Running_set_commit, .func (PySem.W.fnOf "set_commit" "Running.set_commit" (defArgs s_Running_set_commit) (defBody s_Running_set_commit) (defScope s_Running_set_commit) .none kV_Running_set_commit dc_Running_set_commit pm_Running_set_commit an_Running_set_commit cd_Running_set_commit ct_Running_set_commit), sl_Running_set_commit⟩)
    (c_Running_set_commit : PySem.W.codeIn K cd_Running_set_commit "Running.set_commit" = true)
    (k_Running_set_commit : PySem.W.keepIn K (.ref f_Running_set_commit) = true)
    (a_Running_advance : PySem.W.findIn K (.ref C_Running) "advance" = some (some (.ref f_Running_advance)))
    (i_Running_advance : PySem.W.isFn K (.ref f_Running_advance) = true)
    (l_Running_advance : K.lookup f_Running_advance = some ⟨oc_Running_advance, od_Running_advance, .func (PySem.W.fnOf "advance" "Running.advance" (defArgs s_Running_advance) (defBody s_Running_advance) (defScope s_Running_advance) .none kV_Running_advance dc_Running_advance pm_Running_advance an_Running_advance cd_Running_advance ct_Running_advance), sl_Running_advance⟩)
    (c_Running_advance : PySem.W.codeIn K cd_Running_advance "Running.advance" = true)
    (k_Running_advance : PySem.W.keepIn K (.ref f_Running_advance) = true)
    (a_Running_add : PySem.W.findIn K (.ref C_Running) "add" = some (some (.ref f_Running_add)))
    (i_Running_add : PySem.W.isFn K (.ref f_Running_add) = true)
    (l_Running_add : K.lookup f_Running_add = some ⟨oc_Running_add, od_Running_add, .func (PySem.W.fnOf "add" "Running.add" (defArgs s_Running_add) (defBody s_Running_add) (defScope s_Running_add) .none kV_Running_add dc_Running_add pm_Running_add an_Running_add cd_Running_add ct_Running_add), sl_Running_add⟩)
    (c_Running_add : PySem.W.codeIn K cd_Running_add "Running.add" = true)
    (k_Running_add : PySem.W.keepIn K (.ref f_Running_add) = true)
    (a_Running_heartbeat : PySem.W.findIn K (.ref C_Running) "heartbeat" = some (some (.ref f_Running_heartbeat)))
    (i_Running_heartbeat : PySem.W.isFn K (.ref f_Running_heartbeat) = true)
    (l_Running_heartbeat : K.lookup f_Running_heartbeat = some ⟨oc_Running_heartbeat, od_Running_heartbeat, .func (PySem.W.fnOf "heartbeat" "Running.heartbeat" (defArgs s_Running_heartbeat) (defBody s_Running_heartbeat) (defScope s_Running_heartbeat) .none kV_Running_heartbeat dc_Running_heartbeat pm_Running_heartbeat an_Running_heartbeat cd_Running_heartbeat ct_Running_heartbeat), sl_Running_heartbeat⟩)
    (c_Running_heartbeat : PySem.W.codeIn K cd_Running_heartbeat "Running.heartbeat" = true)
    (k_Running_heartbeat : PySem.W.keepIn K (.ref f_Running_heartbeat) = true)
    (a_Running_lead : PySem.W.findIn K (.ref C_Running) "lead" = some (some (.ref f_Running_lead)))
    (i_Running_lead : PySem.W.isFn K (.ref f_Running_lead) = true)
    (l_Running_lead : K.lookup f_Running_lead = some ⟨oc_Running_lead, od_Running_lead, .func (PySem.W.fnOf "lead" "Running.lead" (defArgs s_Running_lead) (defBody s_Running_lead) (defScope s_Running_lead) .none kV_Running_lead dc_Running_lead pm_Running_lead an_Running_lead cd_Running_lead ct_Running_lead), sl_Running_lead⟩)
    (c_Running_lead : PySem.W.codeIn K cd_Running_lead "Running.lead" = true)
    (k_Running_lead : PySem.W.keepIn K (.ref f_Running_lead) = true)
    (a_Running_elect : PySem.W.findIn K (.ref C_Running) "elect" = some (some (.ref f_Running_elect)))
    (i_Running_elect : PySem.W.isFn K (.ref f_Running_elect) = true)
    (l_Running_elect : K.lookup f_Running_elect = some ⟨oc_Running_elect, od_Running_elect, .func (PySem.W.fnOf "elect" "Running.elect" (defArgs s_Running_elect) (defBody s_Running_elect) (defScope s_Running_elect) .none kV_Running_elect dc_Running_elect pm_Running_elect an_Running_elect cd_Running_elect ct_Running_elect), sl_Running_elect⟩)
    (c_Running_elect : PySem.W.codeIn K cd_Running_elect "Running.elect" = true)
    (k_Running_elect : PySem.W.keepIn K (.ref f_Running_elect) = true)
    (a_Running_receive : PySem.W.findIn K (.ref C_Running) "receive" = some (some (.ref f_Running_receive)))
    (i_Running_receive : PySem.W.isFn K (.ref f_Running_receive) = true)
    (l_Running_receive : K.lookup f_Running_receive = some ⟨oc_Running_receive, od_Running_receive, .func (PySem.W.fnOf "receive" "Running.receive" (defArgs s_Running_receive) (defBody s_Running_receive) (defScope s_Running_receive) .none kV_Running_receive dc_Running_receive pm_Running_receive an_Running_receive cd_Running_receive ct_Running_receive), sl_Running_receive⟩)
    (c_Running_receive : PySem.W.codeIn K cd_Running_receive "Running.receive" = true)
    (k_Running_receive : PySem.W.keepIn K (.ref f_Running_receive) = true)
    (a_Running_receive_request : PySem.W.findIn K (.ref C_Running) "receive_request" = some (some (.ref f_Running_receive_request)))
    (i_Running_receive_request : PySem.W.isFn K (.ref f_Running_receive_request) = true)
    (l_Running_receive_request : K.lookup f_Running_receive_request = some ⟨oc_Running_receive_request, od_Running_receive_request, .func (PySem.W.fnOf "receive_request" "Running.receive_request" (defArgs s_Running_receive_request) (defBody s_Running_receive_request) (defScope s_Running_receive_request) .none kV_Running_receive_request dc_Running_receive_request pm_Running_receive_request an_Running_receive_request cd_Running_receive_request ct_Running_receive_request), sl_Running_receive_request⟩)
    (c_Running_receive_request : PySem.W.codeIn K cd_Running_receive_request "Running.receive_request" = true)
    (k_Running_receive_request : PySem.W.keepIn K (.ref f_Running_receive_request) = true)
    (a_Running_receive_vote : PySem.W.findIn K (.ref C_Running) "receive_vote" = some (some (.ref f_Running_receive_vote)))
    (i_Running_receive_vote : PySem.W.isFn K (.ref f_Running_receive_vote) = true)
    (l_Running_receive_vote : K.lookup f_Running_receive_vote = some ⟨oc_Running_receive_vote, od_Running_receive_vote, .func (PySem.W.fnOf "receive_vote" "Running.receive_vote" (defArgs s_Running_receive_vote) (defBody s_Running_receive_vote) (defScope s_Running_receive_vote) .none kV_Running_receive_vote dc_Running_receive_vote pm_Running_receive_vote an_Running_receive_vote cd_Running_receive_vote ct_Running_receive_vote), sl_Running_receive_vote⟩)
    (c_Running_receive_vote : PySem.W.codeIn K cd_Running_receive_vote "Running.receive_vote" = true)
    (k_Running_receive_vote : PySem.W.keepIn K (.ref f_Running_receive_vote) = true)
    (a_Running_receive_append : PySem.W.findIn K (.ref C_Running) "receive_append" = some (some (.ref f_Running_receive_append)))
    (i_Running_receive_append : PySem.W.isFn K (.ref f_Running_receive_append) = true)
    (l_Running_receive_append : K.lookup f_Running_receive_append = some ⟨oc_Running_receive_append, od_Running_receive_append, .func (PySem.W.fnOf "receive_append" "Running.receive_append" (defArgs s_Running_receive_append) (defBody s_Running_receive_append) (defScope s_Running_receive_append) .none kV_Running_receive_append dc_Running_receive_append pm_Running_receive_append an_Running_receive_append cd_Running_receive_append ct_Running_receive_append), sl_Running_receive_append⟩)
    (c_Running_receive_append : PySem.W.codeIn K cd_Running_receive_append "Running.receive_append" = true)
    (k_Running_receive_append : PySem.W.keepIn K (.ref f_Running_receive_append) = true)
    (a_Running_receive_reply : PySem.W.findIn K (.ref C_Running) "receive_reply" = some (some (.ref f_Running_receive_reply)))
    (i_Running_receive_reply : PySem.W.isFn K (.ref f_Running_receive_reply) = true)
    (l_Running_receive_reply : K.lookup f_Running_receive_reply = some ⟨oc_Running_receive_reply, od_Running_receive_reply, .func (PySem.W.fnOf "receive_reply" "Running.receive_reply" (defArgs s_Running_receive_reply) (defBody s_Running_receive_reply) (defScope s_Running_receive_reply) .none kV_Running_receive_reply dc_Running_receive_reply pm_Running_receive_reply an_Running_receive_reply cd_Running_receive_reply ct_Running_receive_reply), sl_Running_receive_reply⟩)
    (c_Running_receive_reply : PySem.W.codeIn K cd_Running_receive_reply "Running.receive_reply" = true)
    (k_Running_receive_reply : PySem.W.keepIn K (.ref f_Running_receive_reply) = true)
    (a_need : PySem.W.nsIn K mainGlobals "need" = some (some (.ref f_need)))
    (l_need : K.lookup f_need = some ⟨oc_need, od_need, .func (PySem.W.fnOf "need" "need" (defArgs s_need) (defBody s_need) (defScope s_need) .none kV_need dc_need pm_need an_need cd_need ct_need), sl_need⟩)
    (c_need : PySem.W.codeIn K cd_need "need" = true)
    (k_need : PySem.W.keepIn K (.ref f_need) = true)
    (a_Desk_init : PySem.W.findIn K (.ref C_Desk) "__init__" = some (some (.ref f_Desk_init)))
    (i_Desk_init : PySem.W.isFn K (.ref f_Desk_init) = true)
    (l_Desk_init : K.lookup f_Desk_init = some ⟨oc_Desk_init, od_Desk_init, .func (PySem.W.fnOf "__init__" "Desk.__init__" (defArgs s_Desk_init) (defBody s_Desk_init) (defScope s_Desk_init) .none kV_Desk_init dc_Desk_init pm_Desk_init an_Desk_init cd_Desk_init ct_Desk_init), sl_Desk_init⟩)
    (c_Desk_init : PySem.W.codeIn K cd_Desk_init "Desk.__init__" = true)
    (k_Desk_init : PySem.W.keepIn K (.ref f_Desk_init) = true)
    (a_Desk_begin : PySem.W.findIn K (.ref C_Desk) "begin" = some (some (.ref f_Desk_begin)))
    (i_Desk_begin : PySem.W.isFn K (.ref f_Desk_begin) = true)
    (l_Desk_begin : K.lookup f_Desk_begin = some ⟨oc_Desk_begin, od_Desk_begin, .func (PySem.W.fnOf "begin" "Desk.begin" (defArgs s_Desk_begin) (defBody s_Desk_begin) (defScope s_Desk_begin) .none kV_Desk_begin dc_Desk_begin pm_Desk_begin an_Desk_begin cd_Desk_begin ct_Desk_begin), sl_Desk_begin⟩)
    (c_Desk_begin : PySem.W.codeIn K cd_Desk_begin "Desk.begin" = true)
    (k_Desk_begin : PySem.W.keepIn K (.ref f_Desk_begin) = true)
    (a_Desk_node : PySem.W.findIn K (.ref C_Desk) "node" = some (some (.ref f_Desk_node)))
    (i_Desk_node : PySem.W.isFn K (.ref f_Desk_node) = true)
    (l_Desk_node : K.lookup f_Desk_node = some ⟨oc_Desk_node, od_Desk_node, .func (PySem.W.fnOf "node" "Desk.node" (defArgs s_Desk_node) (defBody s_Desk_node) (defScope s_Desk_node) .none kV_Desk_node dc_Desk_node pm_Desk_node an_Desk_node cd_Desk_node ct_Desk_node), sl_Desk_node⟩)
    (c_Desk_node : PySem.W.codeIn K cd_Desk_node "Desk.node" = true)
    (k_Desk_node : PySem.W.keepIn K (.ref f_Desk_node) = true)
    (a_Desk_leader : PySem.W.findIn K (.ref C_Desk) "leader" = some (some (.ref f_Desk_leader)))
    (i_Desk_leader : PySem.W.isFn K (.ref f_Desk_leader) = true)
    (l_Desk_leader : K.lookup f_Desk_leader = some ⟨oc_Desk_leader, od_Desk_leader, .func (PySem.W.fnOf "leader" "Desk.leader" (defArgs s_Desk_leader) (defBody s_Desk_leader) (defScope s_Desk_leader) .none kV_Desk_leader dc_Desk_leader pm_Desk_leader an_Desk_leader cd_Desk_leader ct_Desk_leader), sl_Desk_leader⟩)
    (c_Desk_leader : PySem.W.codeIn K cd_Desk_leader "Desk.leader" = true)
    (k_Desk_leader : PySem.W.keepIn K (.ref f_Desk_leader) = true)
    (a_Desk_start_election : PySem.W.findIn K (.ref C_Desk) "start_election" = some (some (.ref f_Desk_start_election)))
    (i_Desk_start_election : PySem.W.isFn K (.ref f_Desk_start_election) = true)
    (l_Desk_start_election : K.lookup f_Desk_start_election = some ⟨oc_Desk_start_election, od_Desk_start_election, .func (PySem.W.fnOf "start_election" "Desk.start_election" (defArgs s_Desk_start_election) (defBody s_Desk_start_election) (defScope s_Desk_start_election) .none kV_Desk_start_election dc_Desk_start_election pm_Desk_start_election an_Desk_start_election cd_Desk_start_election ct_Desk_start_election), sl_Desk_start_election⟩)
    (c_Desk_start_election : PySem.W.codeIn K cd_Desk_start_election "Desk.start_election" = true)
    (k_Desk_start_election : PySem.W.keepIn K (.ref f_Desk_start_election) = true)
    (a_Desk_propose : PySem.W.findIn K (.ref C_Desk) "propose" = some (some (.ref f_Desk_propose)))
    (i_Desk_propose : PySem.W.isFn K (.ref f_Desk_propose) = true)
    (l_Desk_propose : K.lookup f_Desk_propose = some ⟨oc_Desk_propose, od_Desk_propose, .func (PySem.W.fnOf "propose" "Desk.propose" (defArgs s_Desk_propose) (defBody s_Desk_propose) (defScope s_Desk_propose) .none kV_Desk_propose dc_Desk_propose pm_Desk_propose an_Desk_propose cd_Desk_propose ct_Desk_propose), sl_Desk_propose⟩)
    (c_Desk_propose : PySem.W.codeIn K cd_Desk_propose "Desk.propose" = true)
    (k_Desk_propose : PySem.W.keepIn K (.ref f_Desk_propose) = true)
    (a_Desk_change_member : PySem.W.findIn K (.ref C_Desk) "change_member" = some (some (.ref f_Desk_change_member)))
    (i_Desk_change_member : PySem.W.isFn K (.ref f_Desk_change_member) = true)
    (l_Desk_change_member : K.lookup f_Desk_change_member = some ⟨oc_Desk_change_member, od_Desk_change_member, .func (PySem.W.fnOf "change_member" "Desk.change_member" (defArgs s_Desk_change_member) (defBody s_Desk_change_member) (defScope s_Desk_change_member) .none kV_Desk_change_member dc_Desk_change_member pm_Desk_change_member an_Desk_change_member cd_Desk_change_member ct_Desk_change_member), sl_Desk_change_member⟩)
    (c_Desk_change_member : PySem.W.codeIn K cd_Desk_change_member "Desk.change_member" = true)
    (k_Desk_change_member : PySem.W.keepIn K (.ref f_Desk_change_member) = true)
    (a_Desk_heartbeat : PySem.W.findIn K (.ref C_Desk) "heartbeat" = some (some (.ref f_Desk_heartbeat)))
    (i_Desk_heartbeat : PySem.W.isFn K (.ref f_Desk_heartbeat) = true)
    (l_Desk_heartbeat : K.lookup f_Desk_heartbeat = some ⟨oc_Desk_heartbeat, od_Desk_heartbeat, .func (PySem.W.fnOf "heartbeat" "Desk.heartbeat" (defArgs s_Desk_heartbeat) (defBody s_Desk_heartbeat) (defScope s_Desk_heartbeat) .none kV_Desk_heartbeat dc_Desk_heartbeat pm_Desk_heartbeat an_Desk_heartbeat cd_Desk_heartbeat ct_Desk_heartbeat), sl_Desk_heartbeat⟩)
    (c_Desk_heartbeat : PySem.W.codeIn K cd_Desk_heartbeat "Desk.heartbeat" = true)
    (k_Desk_heartbeat : PySem.W.keepIn K (.ref f_Desk_heartbeat) = true)
    (a_Desk_message : PySem.W.findIn K (.ref C_Desk) "message" = some (some (.ref f_Desk_message)))
    (i_Desk_message : PySem.W.isFn K (.ref f_Desk_message) = true)
    (l_Desk_message : K.lookup f_Desk_message = some ⟨oc_Desk_message, od_Desk_message, .func (PySem.W.fnOf "message" "Desk.message" (defArgs s_Desk_message) (defBody s_Desk_message) (defScope s_Desk_message) .none kV_Desk_message dc_Desk_message pm_Desk_message an_Desk_message cd_Desk_message ct_Desk_message), sl_Desk_message⟩)
    (c_Desk_message : PySem.W.codeIn K cd_Desk_message "Desk.message" = true)
    (k_Desk_message : PySem.W.keepIn K (.ref f_Desk_message) = true)
    (a_Desk_deliver : PySem.W.findIn K (.ref C_Desk) "deliver" = some (some (.ref f_Desk_deliver)))
    (i_Desk_deliver : PySem.W.isFn K (.ref f_Desk_deliver) = true)
    (l_Desk_deliver : K.lookup f_Desk_deliver = some ⟨oc_Desk_deliver, od_Desk_deliver, .func (PySem.W.fnOf "deliver" "Desk.deliver" (defArgs s_Desk_deliver) (defBody s_Desk_deliver) (defScope s_Desk_deliver) .none kV_Desk_deliver dc_Desk_deliver pm_Desk_deliver an_Desk_deliver cd_Desk_deliver ct_Desk_deliver), sl_Desk_deliver⟩)
    (c_Desk_deliver : PySem.W.codeIn K cd_Desk_deliver "Desk.deliver" = true)
    (k_Desk_deliver : PySem.W.keepIn K (.ref f_Desk_deliver) = true)
    (a_Desk_drop : PySem.W.findIn K (.ref C_Desk) "drop" = some (some (.ref f_Desk_drop)))
    (i_Desk_drop : PySem.W.isFn K (.ref f_Desk_drop) = true)
    (l_Desk_drop : K.lookup f_Desk_drop = some ⟨oc_Desk_drop, od_Desk_drop, .func (PySem.W.fnOf "drop" "Desk.drop" (defArgs s_Desk_drop) (defBody s_Desk_drop) (defScope s_Desk_drop) .none kV_Desk_drop dc_Desk_drop pm_Desk_drop an_Desk_drop cd_Desk_drop ct_Desk_drop), sl_Desk_drop⟩)
    (c_Desk_drop : PySem.W.codeIn K cd_Desk_drop "Desk.drop" = true)
    (k_Desk_drop : PySem.W.keepIn K (.ref f_Desk_drop) = true)
    (a_Desk_stop : PySem.W.findIn K (.ref C_Desk) "stop" = some (some (.ref f_Desk_stop)))
    (i_Desk_stop : PySem.W.isFn K (.ref f_Desk_stop) = true)
    (l_Desk_stop : K.lookup f_Desk_stop = some ⟨oc_Desk_stop, od_Desk_stop, .func (PySem.W.fnOf "stop" "Desk.stop" (defArgs s_Desk_stop) (defBody s_Desk_stop) (defScope s_Desk_stop) .none kV_Desk_stop dc_Desk_stop pm_Desk_stop an_Desk_stop cd_Desk_stop ct_Desk_stop), sl_Desk_stop⟩)
    (c_Desk_stop : PySem.W.codeIn K cd_Desk_stop "Desk.stop" = true)
    (k_Desk_stop : PySem.W.keepIn K (.ref f_Desk_stop) = true)
    (a_Desk_restart : PySem.W.findIn K (.ref C_Desk) "restart" = some (some (.ref f_Desk_restart)))
    (i_Desk_restart : PySem.W.isFn K (.ref f_Desk_restart) = true)
    (l_Desk_restart : K.lookup f_Desk_restart = some ⟨oc_Desk_restart, od_Desk_restart, .func (PySem.W.fnOf "restart" "Desk.restart" (defArgs s_Desk_restart) (defBody s_Desk_restart) (defScope s_Desk_restart) .none kV_Desk_restart dc_Desk_restart pm_Desk_restart an_Desk_restart cd_Desk_restart ct_Desk_restart), sl_Desk_restart⟩)
    (c_Desk_restart : PySem.W.codeIn K cd_Desk_restart "Desk.restart" = true)
    (k_Desk_restart : PySem.W.keepIn K (.ref f_Desk_restart) = true)
    (a_Desk_told_messages : PySem.W.findIn K (.ref C_Desk) "told_messages" = some (some (.ref f_Desk_told_messages)))
    (i_Desk_told_messages : PySem.W.isFn K (.ref f_Desk_told_messages) = true)
    (l_Desk_told_messages : K.lookup f_Desk_told_messages = some ⟨oc_Desk_told_messages, od_Desk_told_messages, .func (PySem.W.fnOf "told_messages" "Desk.told_messages" (defArgs s_Desk_told_messages) (defBody s_Desk_told_messages) (defScope s_Desk_told_messages) .none kV_Desk_told_messages dc_Desk_told_messages pm_Desk_told_messages an_Desk_told_messages cd_Desk_told_messages ct_Desk_told_messages), sl_Desk_told_messages⟩)
    (c_Desk_told_messages : PySem.W.codeIn K cd_Desk_told_messages "Desk.told_messages" = true)
    (k_Desk_told_messages : PySem.W.keepIn K (.ref f_Desk_told_messages) = true)
    (a_Desk_told_leaders : PySem.W.findIn K (.ref C_Desk) "told_leaders" = some (some (.ref f_Desk_told_leaders)))
    (i_Desk_told_leaders : PySem.W.isFn K (.ref f_Desk_told_leaders) = true)
    (l_Desk_told_leaders : K.lookup f_Desk_told_leaders = some ⟨oc_Desk_told_leaders, od_Desk_told_leaders, .func (PySem.W.fnOf "told_leaders" "Desk.told_leaders" (defArgs s_Desk_told_leaders) (defBody s_Desk_told_leaders) (defScope s_Desk_told_leaders) .none kV_Desk_told_leaders dc_Desk_told_leaders pm_Desk_told_leaders an_Desk_told_leaders cd_Desk_told_leaders ct_Desk_told_leaders), sl_Desk_told_leaders⟩)
    (c_Desk_told_leaders : PySem.W.codeIn K cd_Desk_told_leaders "Desk.told_leaders" = true)
    (k_Desk_told_leaders : PySem.W.keepIn K (.ref f_Desk_told_leaders) = true)
    (a_Desk_change : PySem.W.findIn K (.ref C_Desk) "change" = some (some (.ref f_Desk_change)))
    (i_Desk_change : PySem.W.isFn K (.ref f_Desk_change) = true)
    (l_Desk_change : K.lookup f_Desk_change = some ⟨oc_Desk_change, od_Desk_change, .func (PySem.W.fnOf "change" "Desk.change" (defArgs s_Desk_change) (defBody s_Desk_change) (defScope s_Desk_change) .none kV_Desk_change dc_Desk_change pm_Desk_change an_Desk_change cd_Desk_change ct_Desk_change), sl_Desk_change⟩)
    (c_Desk_change : PySem.W.codeIn K cd_Desk_change "Desk.change" = true)
    (k_Desk_change : PySem.W.keepIn K (.ref f_Desk_change) = true)
    (a_Desk_later : PySem.W.findIn K (.ref C_Desk) "later" = some (some (.ref f_Desk_later)))
    (i_Desk_later : PySem.W.isFn K (.ref f_Desk_later) = true)
    (l_Desk_later : K.lookup f_Desk_later = some ⟨oc_Desk_later, od_Desk_later, .func (PySem.W.fnOf "later" "Desk.later" (defArgs s_Desk_later) (defBody s_Desk_later) (defScope s_Desk_later) .none kV_Desk_later dc_Desk_later pm_Desk_later an_Desk_later cd_Desk_later ct_Desk_later), sl_Desk_later⟩)
    (c_Desk_later : PySem.W.codeIn K cd_Desk_later "Desk.later" = true)
    (k_Desk_later : PySem.W.keepIn K (.ref f_Desk_later) = true)
    (a_Desk_answer : PySem.W.findIn K (.ref C_Desk) "answer" = some (some (.ref f_Desk_answer)))
    (i_Desk_answer : PySem.W.isFn K (.ref f_Desk_answer) = true)
    (l_Desk_answer : K.lookup f_Desk_answer = some ⟨oc_Desk_answer, od_Desk_answer, .func (PySem.W.fnOf "answer" "Desk.answer" (defArgs s_Desk_answer) (defBody s_Desk_answer) (defScope s_Desk_answer) .none kV_Desk_answer dc_Desk_answer pm_Desk_answer an_Desk_answer cd_Desk_answer ct_Desk_answer), sl_Desk_answer⟩)
    (c_Desk_answer : PySem.W.codeIn K cd_Desk_answer "Desk.answer" = true)
    (k_Desk_answer : PySem.W.keepIn K (.ref f_Desk_answer) = true)
    (a_answers : PySem.W.nsIn K mainGlobals "answers" = some (some (.ref f_answers)))
    (l_answers : K.lookup f_answers = some ⟨oc_answers, od_answers, .func (PySem.W.fnOf "answers" "answers" (defArgs s_answers) (defBody s_answers) (defScope s_answers) .none kV_answers dc_answers pm_answers an_answers cd_answers ct_answers), sl_answers⟩)
    (c_answers : PySem.W.codeIn K cd_answers "answers" = true)
    (k_answers : PySem.W.keepIn K (.ref f_answers) = true)
    (pg_Node : PySem.W.plainGet K C_Node Str.empty = true)
    (hd_Node : PySem.W.hasDictIn K C_Node = true)
    (po_Node : PySem.W.plainOver K C_Node = true)
    (sa_Node : PySem.W.findIn K (.ref C_Node) "__setattr__" = some (some (.builtin "object.__setattr__")))
    (mk_Node : PySem.W.makesIn K C_Node = true)
    (kc_Node : PySem.W.keepIn K (.ref C_Node) = true)
    (n_Node_number : PySem.W.findIn K (.ref C_Node) "number" = some none)
    (n_Node_initial : PySem.W.findIn K (.ref C_Node) "initial" = some none)
    (n_Node_is_running : PySem.W.findIn K (.ref C_Node) "is_running" = some none)
    (n_Node_term : PySem.W.findIn K (.ref C_Node) "term" = some none)
    (n_Node_voted : PySem.W.findIn K (.ref C_Node) "voted" = some none)
    (n_Node_log : PySem.W.findIn K (.ref C_Node) "log" = some none)
    (n_Node_role : PySem.W.findIn K (.ref C_Node) "role" = some none)
    (n_Node_commit : PySem.W.findIn K (.ref C_Node) "commit" = some none)
    (n_Node_votes : PySem.W.findIn K (.ref C_Node) "votes" = some none)
    (n_Node_nexts : PySem.W.findIn K (.ref C_Node) "nexts" = some none)
    (n_Node_matches : PySem.W.findIn K (.ref C_Node) "matches" = some none)
    (pg_Message : PySem.W.plainGet K C_Message Str.empty = true)
    (hd_Message : PySem.W.hasDictIn K C_Message = true)
    (po_Message : PySem.W.plainOver K C_Message = true)
    (sa_Message : PySem.W.findIn K (.ref C_Message) "__setattr__" = some (some (.builtin "object.__setattr__")))
    (mk_Message : PySem.W.makesIn K C_Message = true)
    (kc_Message : PySem.W.keepIn K (.ref C_Message) = true)
    (n_Message_kind : PySem.W.findIn K (.ref C_Message) "kind" = some none)
    (n_Message_receiver : PySem.W.findIn K (.ref C_Message) "receiver" = some none)
    (n_Message_sender : PySem.W.findIn K (.ref C_Message) "sender" = some none)
    (n_Message_term : PySem.W.findIn K (.ref C_Message) "term" = some none)
    (n_Message_numbers : PySem.W.findIn K (.ref C_Message) "numbers" = some none)
    (n_Message_entries : PySem.W.findIn K (.ref C_Message) "entries" = some none)
    (n_Message_commit : PySem.W.findIn K (.ref C_Message) "commit" = some none)
    (pg_Running : PySem.W.plainGet K C_Running Str.empty = true)
    (hd_Running : PySem.W.hasDictIn K C_Running = true)
    (po_Running : PySem.W.plainOver K C_Running = true)
    (sa_Running : PySem.W.findIn K (.ref C_Running) "__setattr__" = some (some (.builtin "object.__setattr__")))
    (mk_Running : PySem.W.makesIn K C_Running = true)
    (kc_Running : PySem.W.keepIn K (.ref C_Running) = true)
    (n_Running_nodes : PySem.W.findIn K (.ref C_Running) "nodes" = some none)
    (n_Running_messages : PySem.W.findIn K (.ref C_Running) "messages" = some none)
    (n_Running_committed : PySem.W.findIn K (.ref C_Running) "committed" = some none)
    (n_Running_leaders : PySem.W.findIn K (.ref C_Running) "leaders" = some none)
    (pg_Desk : PySem.W.plainGet K C_Desk Str.empty = true)
    (hd_Desk : PySem.W.hasDictIn K C_Desk = true)
    (po_Desk : PySem.W.plainOver K C_Desk = true)
    (sa_Desk : PySem.W.findIn K (.ref C_Desk) "__setattr__" = some (some (.builtin "object.__setattr__")))
    (mk_Desk : PySem.W.makesIn K C_Desk = true)
    (kc_Desk : PySem.W.keepIn K (.ref C_Desk) = true)
    (n_Desk_running : PySem.W.findIn K (.ref C_Desk) "running" = some none)
    (v_MANY : PySem.W.nsIn K mainGlobals "MANY" = some (some (.int (5) t_MANY)))
    (v_NOBODY : PySem.W.nsIn K mainGlobals "NOBODY" = some (some (.int (-1) t_NOBODY)))
    (v_FOLLOWER : PySem.W.nsIn K mainGlobals "FOLLOWER" = some (some (.int (0) t_FOLLOWER)))
    (v_CANDIDATE : PySem.W.nsIn K mainGlobals "CANDIDATE" = some (some (.int (1) t_CANDIDATE)))
    (v_LEADER : PySem.W.nsIn K mainGlobals "LEADER" = some (some (.int (2) t_LEADER)))
    (v_COMMAND : PySem.W.nsIn K mainGlobals "COMMAND" = some (some (.int (0) t_COMMAND)))
    (v_CONFIGURATION : PySem.W.nsIn K mainGlobals "CONFIGURATION" = some (some (.int (1) t_CONFIGURATION)))
    (v_EMPTY : PySem.W.nsIn K mainGlobals "EMPTY" = some (some (.int (2) t_EMPTY)))
    (v_REQUEST : PySem.W.nsIn K mainGlobals "REQUEST" = some (some (.int (0) t_REQUEST)))
    (v_VOTE : PySem.W.nsIn K mainGlobals "VOTE" = some (some (.int (1) t_VOTE)))
    (v_APPEND : PySem.W.nsIn K mainGlobals "APPEND" = some (some (.int (2) t_APPEND)))
    (v_REPLY : PySem.W.nsIn K mainGlobals "REPLY" = some (some (.int (3) t_REPLY)))
    (v_MOST_MESSAGES : PySem.W.nsIn K mainGlobals "MOST_MESSAGES" = some (some (.int (100) t_MOST_MESSAGES)))
    (v_IGNORED : PySem.W.nsIn K mainGlobals "IGNORED" = some (some (.int (0) t_IGNORED)))
    (v_REPLIED : PySem.W.nsIn K mainGlobals "REPLIED" = some (some (.int (1) t_REPLIED)))
    (v_COUNTED : PySem.W.nsIn K mainGlobals "COUNTED" = some (some (.int (2) t_COUNTED)))
    (v_LEADS : PySem.W.nsIn K mainGlobals "LEADS" = some (some (.int (3) t_LEADS)))
    (v_INCREASED : PySem.W.nsIn K mainGlobals "INCREASED" = some (some (.int (4) t_INCREASED)))
    (v_ADOPTED : PySem.W.nsIn K mainGlobals "ADOPTED" = some (some (.int (5) t_ADOPTED)))
    (v_NO_SUCCESS : PySem.W.nsIn K mainGlobals "NO_SUCCESS" = some (some (.int (6) t_NO_SUCCESS)))
    (v_OUT : PySem.W.nsIn K mainGlobals "OUT" = some (some (.int (-1) t_OUT)))
    (v_WRONG_ROLE : PySem.W.nsIn K mainGlobals "WRONG_ROLE" = some (some (.int (-2) t_WRONG_ROLE)))
    (v_STOPPED : PySem.W.nsIn K mainGlobals "STOPPED" = some (some (.int (-3) t_STOPPED)))
    (v_NOT_NOW : PySem.W.nsIn K mainGlobals "NOT_NOW" = some (some (.int (-6) t_NOT_NOW)))
    (v_NO_MEMBER : PySem.W.nsIn K mainGlobals "NO_MEMBER" = some (some (.int (-7) t_NO_MEMBER)))
    (v_NO_NODES : PySem.W.nsIn K mainGlobals "NO_NODES" = some (some (.int (-9) t_NO_NODES)))
    (v_MOST_COMMAND : PySem.W.nsIn K mainGlobals "MOST_COMMAND" = some (some (.int (99) t_MOST_COMMAND)))
    (z_int : PySem.W.nsIn K mainGlobals "int" = some none)
    (z_len : PySem.W.nsIn K mainGlobals "len" = some none)
    (z_list : PySem.W.nsIn K mainGlobals "list" = some none)
    (z_max : PySem.W.nsIn K mainGlobals "max" = some none)
    (z_min : PySem.W.nsIn K mainGlobals "min" = some none)
    (z_range : PySem.W.nsIn K mainGlobals "range" = some none)
    (z_set : PySem.W.nsIn K mainGlobals "set" = some none)
    (z_sum : PySem.W.nsIn K mainGlobals "sum" = some none)
    (a_BITS : PySem.W.nsIn K mainGlobals "BITS" = some (some (.ref A_BITS)))
    (x_BITS : K.lookup A_BITS = some ⟨.type "tuple", d_BITS, .seq #[.int 1 b1, .int 2 b2, .int 4 b3, .int 8 b4, .int 16 b5] n_BITS, s_BITS⟩)
    (a_GIVEN : PySem.W.nsIn K mainGlobals "GIVEN" = some (some (.ref A_GIVEN)))
    (x_GIVEN : K.lookup A_GIVEN = some ⟨.type "dict", none, .dict #[⟨hashInt 1, .int 1 gk1, .int 1 gv1⟩, ⟨hashInt 2, .int 2 gk2, .int 2 gv2⟩, ⟨hashInt 3, .int 3 gk3, .int 2 gv3⟩, ⟨hashInt 4, .int 4 gk4, .int 1 gv4⟩, ⟨hashInt 5, .int 5 gk5, .int 1 gv5⟩, ⟨hashInt 6, .int 6 gk6, .int 1 gv6⟩, ⟨hashInt 7, .int 7 gk7, .int 1 gv7⟩, ⟨hashInt 8, .int 8 gk8, .int 1 gv8⟩, ⟨hashInt 9, .int 9 gk9, .int 1 gv9⟩, ⟨hashInt 11, .int 11 gk11, .int 1 gv11⟩] n_GIVEN, #[]⟩)
    (y_GIVEN : (A_GIVEN == sysModules) = false)
    (x_Ref : K.lookup C_Refused = some (excClassObj nmR qR C_Refused NR_ bsR [.type "ValueError", .type "Exception", .type "BaseException", .type "object"] true snR subR abR colR ddR mR0 mR1 mR2 mR3 mR5 "ValueError.__new__"))
    (sa_Ref : PySem.W.findIn K (.ref C_Refused) "__setattr__" = some (some (.builtin "object.__setattr__")))
    (ga_Ref : PySem.W.findIn K (.ref C_Refused) "__getattribute__" = some (some (.builtin "BaseException.__getattribute__")))
    (gg_Ref : PySem.W.findIn K (.ref C_Refused) "__getattr__" = some none)
    (nb_Ref : PySem.W.findIn K (.ref C_Refused) "code" = some none)
    (a1_Ref : PySem.W.findIn K (.ref C_Refused) "__init__" = some (some (.ref f_Refused)))
    (t1_Ref : PySem.W.typeIn K (.ref f_Refused) = some (.type "function"))
    (l1_Ref : K.lookup f_Refused = some ⟨ocR, odR, .func (PySem.W.fnOf "__init__" "Refused.__init__" (PySem.LowX.iA ⟨265, 17, 265, 21⟩ ⟨265, 23, 265, 27⟩) (PySem.LowX.iB ⟨266, 8, 266, 12⟩ ⟨266, 8, 266, 17⟩ ⟨266, 20, 266, 24⟩ ⟨266, 8, 266, 24⟩) PySem.LowX.iS .none .none dcR pmR anR cdR ctR), slR⟩)
    (c1_Ref : PySem.W.codeIn K cdR "Refused.__init__" = true)
    (kC_Ref : PySem.W.keepIn K (.ref C_Refused) = true)
    (eC_Ref : PySem.W.subIn K (.ref C_Refused) (.type "BaseException") = some true)
    (tC_Ref : PySem.W.typeIn K (.ref C_Refused) = some (.type "type"))
    (hC_Ref : PySem.W.hasDictIn K C_Refused = true)
    (iC_Ref : PySem.W.isClsIn K C_Refused = true)
    (sC_Ref : PySem.W.subIn K (.ref C_Refused) (.ref C_Refused) = some true)
    : ∃ fd : FuncData, (∀ (s : Shared) (us : List Value), us.length = (["calls"] : List Str).length → BindsTo s fd ⟨us, []⟩ ((["calls"] : List Str).zip us)) ∧ ∀ base : Heap, K.In base → base.Ns mainGlobals mg → FnOk P w K mg base CX0 13 fa fd ["calls"] (spAns K) := by
  have e := hfa.symm.trans (PySem.W.mg_of X G a_answers)
  have e2 : fa = f_answers := by
    injection e with e
    injection e
  rw [e2]
  have low : PySem.LowX.LowTxt K mg C_Refused f_Refused :=
    { gC := PySem.W.mg_of X G a_Refused, cls := ⟨nmR, qR, NR_, bsR, _, snR, subR, abR, colR, ddR, mR0, mR1, mR2, mR3, mR5, x_Ref, by decide +kernel⟩, sa := sa_Ref, ga := ga_Ref, gg := gg_Ref, noN := nb_Ref, iC := a1_Ref, tC := t1_Ref, kC := kC_Ref, exC := eC_Ref, tyC := tC_Ref, hdC := hC_Ref, te := exm_self eC_Ref iC_Ref tC_Ref sC_Ref,
      fn := ⟨_, _, _, _, _, _, _, _, _, _, _, _, _, _, l1_Ref, c1_Ref⟩ }
  let A : Ad := { c_Node := C_Node, c_Message := C_Message, c_Running := C_Running, c_Refused := C_Refused, c_Desk := C_Desk, f_Node_init := f_Node_init, f_Node_begin := f_Node_begin, f_Node_leave := f_Node_leave, f_Node_mask := f_Node_mask, f_Node_members := f_Node_members, f_Node_others := f_Node_others, f_Node_is_majority := f_Node_is_majority, f_Node_term_at := f_Node_term_at, f_Node_last_term := f_Node_last_term, f_Node_has_open_configuration := f_Node_has_open_configuration, f_Node_adopt := f_Node_adopt, f_Node_next_commit := f_Node_next_commit, f_Node_would_vote := f_Node_would_vote, f_Node_take_entries := f_Node_take_entries, f_Node_told := f_Node_told, f_told_entries := f_told_entries, f_Message_init := f_Message_init, f_Message_told := f_Message_told, f_append_of := f_append_of, f_request_of := f_request_of, f_vote_of := f_vote_of, f_reply_of := f_reply_of, f_Running_init := f_Running_init, f_Running_send := f_Running_send, f_Running_set_commit := f_Running_set_commit, f_Running_advance := f_Running_advance, f_Running_add := f_Running_add, f_Running_heartbeat := f_Running_heartbeat, f_Running_lead := f_Running_lead, f_Running_elect := f_Running_elect, f_Running_receive := f_Running_receive, f_Running_receive_request := f_Running_receive_request, f_Running_receive_vote := f_Running_receive_vote, f_Running_receive_append := f_Running_receive_append, f_Running_receive_reply := f_Running_receive_reply, f_need := f_need, f_Desk_init := f_Desk_init, f_Desk_begin := f_Desk_begin, f_Desk_node := f_Desk_node, f_Desk_leader := f_Desk_leader, f_Desk_start_election := f_Desk_start_election, f_Desk_propose := f_Desk_propose, f_Desk_change_member := f_Desk_change_member, f_Desk_heartbeat := f_Desk_heartbeat, f_Desk_message := f_Desk_message, f_Desk_deliver := f_Desk_deliver, f_Desk_drop := f_Desk_drop, f_Desk_stop := f_Desk_stop, f_Desk_restart := f_Desk_restart, f_Desk_told_messages := f_Desk_told_messages, f_Desk_told_leaders := f_Desk_told_leaders, f_Desk_change := f_Desk_change, f_Desk_later := f_Desk_later, f_Desk_answer := f_Desk_answer, f_answers := f_answers, f_Refused := f_Refused, a_BITS := A_BITS, a_GIVEN := A_GIVEN }
  have T : Txt K mg A := {
    cl_Node := ⟨pg_Node, hd_Node, po_Node, sa_Node⟩
    mk_Node := ⟨mk_Node, a_Node_init, i_Node_init, kc_Node⟩
    g_Node := PySem.W.mg_of X G a_Node
    na_Node_number := n_Node_number
    na_Node_initial := n_Node_initial
    na_Node_is_running := n_Node_is_running
    na_Node_term := n_Node_term
    na_Node_voted := n_Node_voted
    na_Node_log := n_Node_log
    na_Node_role := n_Node_role
    na_Node_commit := n_Node_commit
    na_Node_votes := n_Node_votes
    na_Node_nexts := n_Node_nexts
    na_Node_matches := n_Node_matches
    cl_Message := ⟨pg_Message, hd_Message, po_Message, sa_Message⟩
    mk_Message := ⟨mk_Message, a_Message_init, i_Message_init, kc_Message⟩
    g_Message := PySem.W.mg_of X G a_Message
    na_Message_kind := n_Message_kind
    na_Message_receiver := n_Message_receiver
    na_Message_sender := n_Message_sender
    na_Message_term := n_Message_term
    na_Message_numbers := n_Message_numbers
    na_Message_entries := n_Message_entries
    na_Message_commit := n_Message_commit
    cl_Running := ⟨pg_Running, hd_Running, po_Running, sa_Running⟩
    mk_Running := ⟨mk_Running, a_Running_init, i_Running_init, kc_Running⟩
    g_Running := PySem.W.mg_of X G a_Running
    na_Running_nodes := n_Running_nodes
    na_Running_messages := n_Running_messages
    na_Running_committed := n_Running_committed
    na_Running_leaders := n_Running_leaders
    cl_Desk := ⟨pg_Desk, hd_Desk, po_Desk, sa_Desk⟩
    mk_Desk := ⟨mk_Desk, a_Desk_init, i_Desk_init, kc_Desk⟩
    g_Desk := PySem.W.mg_of X G a_Desk
    na_Desk_running := n_Desk_running
    F_Node_init := ⟨_, fun_mk (st := s_Node_init) l_Node_init c_Node_init k_Node_init⟩
    F_Node_begin := ⟨_, fun_mk (st := s_Node_begin) l_Node_begin c_Node_begin k_Node_begin⟩
    m_Node_begin := ⟨a_Node_begin, i_Node_begin, k_Node_begin⟩
    F_Node_leave := ⟨_, fun_mk (st := s_Node_leave) l_Node_leave c_Node_leave k_Node_leave⟩
    m_Node_leave := ⟨a_Node_leave, i_Node_leave, k_Node_leave⟩
    F_Node_mask := ⟨_, fun_mk (st := s_Node_mask) l_Node_mask c_Node_mask k_Node_mask⟩
    m_Node_mask := ⟨a_Node_mask, i_Node_mask, k_Node_mask⟩
    F_Node_members := ⟨_, fun_mk (st := s_Node_members) l_Node_members c_Node_members k_Node_members⟩
    m_Node_members := ⟨a_Node_members, i_Node_members, k_Node_members⟩
    F_Node_others := ⟨_, fun_mk (st := s_Node_others) l_Node_others c_Node_others k_Node_others⟩
    m_Node_others := ⟨a_Node_others, i_Node_others, k_Node_others⟩
    F_Node_is_majority := ⟨_, fun_mk (st := s_Node_is_majority) l_Node_is_majority c_Node_is_majority k_Node_is_majority⟩
    m_Node_is_majority := ⟨a_Node_is_majority, i_Node_is_majority, k_Node_is_majority⟩
    F_Node_term_at := ⟨_, fun_mk (st := s_Node_term_at) l_Node_term_at c_Node_term_at k_Node_term_at⟩
    m_Node_term_at := ⟨a_Node_term_at, i_Node_term_at, k_Node_term_at⟩
    F_Node_last_term := ⟨_, fun_mk (st := s_Node_last_term) l_Node_last_term c_Node_last_term k_Node_last_term⟩
    m_Node_last_term := ⟨a_Node_last_term, i_Node_last_term, k_Node_last_term⟩
    F_Node_has_open_configuration := ⟨_, fun_mk (st := s_Node_has_open_configuration) l_Node_has_open_configuration c_Node_has_open_configuration k_Node_has_open_configuration⟩
    m_Node_has_open_configuration := ⟨a_Node_has_open_configuration, i_Node_has_open_configuration, k_Node_has_open_configuration⟩
    F_Node_adopt := ⟨_, fun_mk (st := s_Node_adopt) l_Node_adopt c_Node_adopt k_Node_adopt⟩
    m_Node_adopt := ⟨a_Node_adopt, i_Node_adopt, k_Node_adopt⟩
    F_Node_next_commit := ⟨_, fun_mk (st := s_Node_next_commit) l_Node_next_commit c_Node_next_commit k_Node_next_commit⟩
    m_Node_next_commit := ⟨a_Node_next_commit, i_Node_next_commit, k_Node_next_commit⟩
    F_Node_would_vote := ⟨_, fun_mk (st := s_Node_would_vote) l_Node_would_vote c_Node_would_vote k_Node_would_vote⟩
    m_Node_would_vote := ⟨a_Node_would_vote, i_Node_would_vote, k_Node_would_vote⟩
    F_Node_take_entries := ⟨_, fun_mk (st := s_Node_take_entries) l_Node_take_entries c_Node_take_entries k_Node_take_entries⟩
    m_Node_take_entries := ⟨a_Node_take_entries, i_Node_take_entries, k_Node_take_entries⟩
    F_Node_told := ⟨_, fun_mk (st := s_Node_told) l_Node_told c_Node_told k_Node_told⟩
    m_Node_told := ⟨a_Node_told, i_Node_told, k_Node_told⟩
    F_told_entries := ⟨_, fun_mk (st := s_told_entries) l_told_entries c_told_entries k_told_entries⟩
    g_told_entries := PySem.W.mg_of X G a_told_entries
    k_told_entries := k_told_entries
    F_Message_init := ⟨_, fun_mk (st := s_Message_init) l_Message_init c_Message_init k_Message_init⟩
    F_Message_told := ⟨_, fun_mk (st := s_Message_told) l_Message_told c_Message_told k_Message_told⟩
    m_Message_told := ⟨a_Message_told, i_Message_told, k_Message_told⟩
    F_append_of := ⟨_, fun_mk (st := s_append_of) l_append_of c_append_of k_append_of⟩
    g_append_of := PySem.W.mg_of X G a_append_of
    k_append_of := k_append_of
    F_request_of := ⟨_, fun_mk (st := s_request_of) l_request_of c_request_of k_request_of⟩
    g_request_of := PySem.W.mg_of X G a_request_of
    k_request_of := k_request_of
    F_vote_of := ⟨_, fun_mk (st := s_vote_of) l_vote_of c_vote_of k_vote_of⟩
    g_vote_of := PySem.W.mg_of X G a_vote_of
    k_vote_of := k_vote_of
    F_reply_of := ⟨_, fun_mk (st := s_reply_of) l_reply_of c_reply_of k_reply_of⟩
    g_reply_of := PySem.W.mg_of X G a_reply_of
    k_reply_of := k_reply_of
    F_Running_init := ⟨_, fun_mk (st := s_Running_init) l_Running_init c_Running_init k_Running_init⟩
    F_Running_send := ⟨_, fun_mk (st := s_Running_send) l_Running_send c_Running_send k_Running_send⟩
    m_Running_send := ⟨a_Running_send, i_Running_send, k_Running_send⟩
    F_Running_set_commit := ⟨_, fun_mk (st := s_Running_set_commit) l_Running_set_commit c_Running_set_commit k_Running_set_commit⟩
    m_Running_set_commit := ⟨a_Running_set_commit, i_Running_set_commit, k_Running_set_commit⟩
    F_Running_advance := ⟨_, fun_mk (st := s_Running_advance) l_Running_advance c_Running_advance k_Running_advance⟩
    m_Running_advance := ⟨a_Running_advance, i_Running_advance, k_Running_advance⟩
    F_Running_add := ⟨_, fun_mk (st := s_Running_add) l_Running_add c_Running_add k_Running_add⟩
    m_Running_add := ⟨a_Running_add, i_Running_add, k_Running_add⟩
    F_Running_heartbeat := ⟨_, fun_mk (st := s_Running_heartbeat) l_Running_heartbeat c_Running_heartbeat k_Running_heartbeat⟩
    m_Running_heartbeat := ⟨a_Running_heartbeat, i_Running_heartbeat, k_Running_heartbeat⟩
    F_Running_lead := ⟨_, fun_mk (st := s_Running_lead) l_Running_lead c_Running_lead k_Running_lead⟩
    m_Running_lead := ⟨a_Running_lead, i_Running_lead, k_Running_lead⟩
    F_Running_elect := ⟨_, fun_mk (st := s_Running_elect) l_Running_elect c_Running_elect k_Running_elect⟩
    m_Running_elect := ⟨a_Running_elect, i_Running_elect, k_Running_elect⟩
    F_Running_receive := ⟨_, fun_mk (st := s_Running_receive) l_Running_receive c_Running_receive k_Running_receive⟩
    m_Running_receive := ⟨a_Running_receive, i_Running_receive, k_Running_receive⟩
    F_Running_receive_request := ⟨_, fun_mk (st := s_Running_receive_request) l_Running_receive_request c_Running_receive_request k_Running_receive_request⟩
    m_Running_receive_request := ⟨a_Running_receive_request, i_Running_receive_request, k_Running_receive_request⟩
    F_Running_receive_vote := ⟨_, fun_mk (st := s_Running_receive_vote) l_Running_receive_vote c_Running_receive_vote k_Running_receive_vote⟩
    m_Running_receive_vote := ⟨a_Running_receive_vote, i_Running_receive_vote, k_Running_receive_vote⟩
    F_Running_receive_append := ⟨_, fun_mk (st := s_Running_receive_append) l_Running_receive_append c_Running_receive_append k_Running_receive_append⟩
    m_Running_receive_append := ⟨a_Running_receive_append, i_Running_receive_append, k_Running_receive_append⟩
    F_Running_receive_reply := ⟨_, fun_mk (st := s_Running_receive_reply) l_Running_receive_reply c_Running_receive_reply k_Running_receive_reply⟩
    m_Running_receive_reply := ⟨a_Running_receive_reply, i_Running_receive_reply, k_Running_receive_reply⟩
    F_need := ⟨_, fun_mk (st := s_need) l_need c_need k_need⟩
    g_need := PySem.W.mg_of X G a_need
    k_need := k_need
    F_Desk_init := ⟨_, fun_mk (st := s_Desk_init) l_Desk_init c_Desk_init k_Desk_init⟩
    F_Desk_begin := ⟨_, fun_mk (st := s_Desk_begin) l_Desk_begin c_Desk_begin k_Desk_begin⟩
    m_Desk_begin := ⟨a_Desk_begin, i_Desk_begin, k_Desk_begin⟩
    F_Desk_node := ⟨_, fun_mk (st := s_Desk_node) l_Desk_node c_Desk_node k_Desk_node⟩
    m_Desk_node := ⟨a_Desk_node, i_Desk_node, k_Desk_node⟩
    F_Desk_leader := ⟨_, fun_mk (st := s_Desk_leader) l_Desk_leader c_Desk_leader k_Desk_leader⟩
    m_Desk_leader := ⟨a_Desk_leader, i_Desk_leader, k_Desk_leader⟩
    F_Desk_start_election := ⟨_, fun_mk (st := s_Desk_start_election) l_Desk_start_election c_Desk_start_election k_Desk_start_election⟩
    m_Desk_start_election := ⟨a_Desk_start_election, i_Desk_start_election, k_Desk_start_election⟩
    F_Desk_propose := ⟨_, fun_mk (st := s_Desk_propose) l_Desk_propose c_Desk_propose k_Desk_propose⟩
    m_Desk_propose := ⟨a_Desk_propose, i_Desk_propose, k_Desk_propose⟩
    F_Desk_change_member := ⟨_, fun_mk (st := s_Desk_change_member) l_Desk_change_member c_Desk_change_member k_Desk_change_member⟩
    m_Desk_change_member := ⟨a_Desk_change_member, i_Desk_change_member, k_Desk_change_member⟩
    F_Desk_heartbeat := ⟨_, fun_mk (st := s_Desk_heartbeat) l_Desk_heartbeat c_Desk_heartbeat k_Desk_heartbeat⟩
    m_Desk_heartbeat := ⟨a_Desk_heartbeat, i_Desk_heartbeat, k_Desk_heartbeat⟩
    F_Desk_message := ⟨_, fun_mk (st := s_Desk_message) l_Desk_message c_Desk_message k_Desk_message⟩
    m_Desk_message := ⟨a_Desk_message, i_Desk_message, k_Desk_message⟩
    F_Desk_deliver := ⟨_, fun_mk (st := s_Desk_deliver) l_Desk_deliver c_Desk_deliver k_Desk_deliver⟩
    m_Desk_deliver := ⟨a_Desk_deliver, i_Desk_deliver, k_Desk_deliver⟩
    F_Desk_drop := ⟨_, fun_mk (st := s_Desk_drop) l_Desk_drop c_Desk_drop k_Desk_drop⟩
    m_Desk_drop := ⟨a_Desk_drop, i_Desk_drop, k_Desk_drop⟩
    F_Desk_stop := ⟨_, fun_mk (st := s_Desk_stop) l_Desk_stop c_Desk_stop k_Desk_stop⟩
    m_Desk_stop := ⟨a_Desk_stop, i_Desk_stop, k_Desk_stop⟩
    F_Desk_restart := ⟨_, fun_mk (st := s_Desk_restart) l_Desk_restart c_Desk_restart k_Desk_restart⟩
    m_Desk_restart := ⟨a_Desk_restart, i_Desk_restart, k_Desk_restart⟩
    F_Desk_told_messages := ⟨_, fun_mk (st := s_Desk_told_messages) l_Desk_told_messages c_Desk_told_messages k_Desk_told_messages⟩
    m_Desk_told_messages := ⟨a_Desk_told_messages, i_Desk_told_messages, k_Desk_told_messages⟩
    F_Desk_told_leaders := ⟨_, fun_mk (st := s_Desk_told_leaders) l_Desk_told_leaders c_Desk_told_leaders k_Desk_told_leaders⟩
    m_Desk_told_leaders := ⟨a_Desk_told_leaders, i_Desk_told_leaders, k_Desk_told_leaders⟩
    F_Desk_change := ⟨_, fun_mk (st := s_Desk_change) l_Desk_change c_Desk_change k_Desk_change⟩
    m_Desk_change := ⟨a_Desk_change, i_Desk_change, k_Desk_change⟩
    F_Desk_later := ⟨_, fun_mk (st := s_Desk_later) l_Desk_later c_Desk_later k_Desk_later⟩
    m_Desk_later := ⟨a_Desk_later, i_Desk_later, k_Desk_later⟩
    F_Desk_answer := ⟨_, fun_mk (st := s_Desk_answer) l_Desk_answer c_Desk_answer k_Desk_answer⟩
    m_Desk_answer := ⟨a_Desk_answer, i_Desk_answer, k_Desk_answer⟩
    F_answers := ⟨_, fun_mk (st := s_answers) l_answers c_answers k_answers⟩
    g_answers := PySem.W.mg_of X G a_answers
    k_answers := k_answers
    c_MANY := ⟨_, PySem.W.mg_of X G v_MANY⟩
    c_NOBODY := ⟨_, PySem.W.mg_of X G v_NOBODY⟩
    c_FOLLOWER := ⟨_, PySem.W.mg_of X G v_FOLLOWER⟩
    c_CANDIDATE := ⟨_, PySem.W.mg_of X G v_CANDIDATE⟩
    c_LEADER := ⟨_, PySem.W.mg_of X G v_LEADER⟩
    c_COMMAND := ⟨_, PySem.W.mg_of X G v_COMMAND⟩
    c_CONFIGURATION := ⟨_, PySem.W.mg_of X G v_CONFIGURATION⟩
    c_EMPTY := ⟨_, PySem.W.mg_of X G v_EMPTY⟩
    c_REQUEST := ⟨_, PySem.W.mg_of X G v_REQUEST⟩
    c_VOTE := ⟨_, PySem.W.mg_of X G v_VOTE⟩
    c_APPEND := ⟨_, PySem.W.mg_of X G v_APPEND⟩
    c_REPLY := ⟨_, PySem.W.mg_of X G v_REPLY⟩
    c_MOST_MESSAGES := ⟨_, PySem.W.mg_of X G v_MOST_MESSAGES⟩
    c_IGNORED := ⟨_, PySem.W.mg_of X G v_IGNORED⟩
    c_REPLIED := ⟨_, PySem.W.mg_of X G v_REPLIED⟩
    c_COUNTED := ⟨_, PySem.W.mg_of X G v_COUNTED⟩
    c_LEADS := ⟨_, PySem.W.mg_of X G v_LEADS⟩
    c_INCREASED := ⟨_, PySem.W.mg_of X G v_INCREASED⟩
    c_ADOPTED := ⟨_, PySem.W.mg_of X G v_ADOPTED⟩
    c_NO_SUCCESS := ⟨_, PySem.W.mg_of X G v_NO_SUCCESS⟩
    c_OUT := ⟨_, PySem.W.mg_of X G v_OUT⟩
    c_WRONG_ROLE := ⟨_, PySem.W.mg_of X G v_WRONG_ROLE⟩
    c_STOPPED := ⟨_, PySem.W.mg_of X G v_STOPPED⟩
    c_NOT_NOW := ⟨_, PySem.W.mg_of X G v_NOT_NOW⟩
    c_NO_MEMBER := ⟨_, PySem.W.mg_of X G v_NO_MEMBER⟩
    c_NO_NODES := ⟨_, PySem.W.mg_of X G v_NO_NODES⟩
    c_MOST_COMMAND := ⟨_, PySem.W.mg_of X G v_MOST_COMMAND⟩
    b_int := PySem.W.mg_none_of X G z_int
    b_len := PySem.W.mg_none_of X G z_len
    b_list := PySem.W.mg_none_of X G z_list
    b_max := PySem.W.mg_none_of X G z_max
    b_min := PySem.W.mg_none_of X G z_min
    b_range := PySem.W.mg_none_of X G z_range
    b_set := PySem.W.mg_none_of X G z_set
    b_sum := PySem.W.mg_none_of X G z_sum
    g_BITS := PySem.W.mg_of X G a_BITS
    bits := ⟨_, _, _, x_BITS, rfl, rfl, (by show 5 ≤ sizeLine; decide), .cons ⟨_, rfl⟩ (.cons ⟨_, rfl⟩ (.cons ⟨_, rfl⟩ (.cons ⟨_, rfl⟩ (.cons ⟨_, rfl⟩ .nil))))⟩
    g_GIVEN := PySem.W.mg_of X G a_GIVEN
    given := given_mk x_GIVEN y_GIVEN
    low := low }
  have FA := fun_mk (st := s_answers) l_answers c_answers k_answers
  exact ⟨_, fun s us hu => match us, hu with | [_], _ => .of_eq rfl, fun base _ _ => ok_answers (A := A) T FA⟩
end Wk
end

set_option Elab.async false
set_option linter.all false
open PySem PySem.W PyProof.Rows
set_option maxRecDepth 100000 in
set_option maxHeartbeats 8000000 in
theorem PySem.Challenge.cw_movingmembers_s01_answers_holds : PySem.Challenge.rw_movingmembers_s01_answers.Holds := by
  w_on; k_headS; (case hw => exact ⟨[.list [.int 12]], by decide +kernel, by decide +kernel⟩)
  k_fillS
  refine L2.walk_specK (r := PySem.Challenge.rw_movingmembers_s01_answers) (k := 13) (CX := L2.CX0) (ps := ["calls"]) (sp := Wk.spAns) (by decide +kernel) rfl rfl ⟨rfl, by decide, by decide⟩ (fun w h Y => PySem.W.kIn_of Y) ?F ?S (fun _ _ _ _ z => z)
  case F =>
    intro w mg fa h Y KX G hmg
    refine' Wk.all_mk KX G hmg ?a_Node ?a_Message ?a_Running ?a_Desk ?a_Refused ?a_Node_init ?i_Node_init ?l_Node_init ?c_Node_init ?k_Node_init ?a_Node_begin ?i_Node_begin ?l_Node_begin ?c_Node_begin ?k_Node_begin ?a_Node_leave ?i_Node_leave ?l_Node_leave ?c_Node_leave ?k_Node_leave ?a_Node_mask ?i_Node_mask ?l_Node_mask ?c_Node_mask ?k_Node_mask ?a_Node_members ?i_Node_members ?l_Node_members ?c_Node_members ?k_Node_members ?a_Node_others ?i_Node_others ?l_Node_others ?c_Node_others ?k_Node_others ?a_Node_is_majority ?i_Node_is_majority ?l_Node_is_majority ?c_Node_is_majority ?k_Node_is_majority ?a_Node_term_at ?i_Node_term_at ?l_Node_term_at ?c_Node_term_at ?k_Node_term_at ?a_Node_last_term ?i_Node_last_term ?l_Node_last_term ?c_Node_last_term ?k_Node_last_term ?a_Node_has_open_configuration ?i_Node_has_open_configuration ?l_Node_has_open_configuration ?c_Node_has_open_configuration ?k_Node_has_open_configuration ?a_Node_adopt ?i_Node_adopt ?l_Node_adopt ?c_Node_adopt ?k_Node_adopt ?a_Node_next_commit ?i_Node_next_commit ?l_Node_next_commit ?c_Node_next_commit ?k_Node_next_commit ?a_Node_would_vote ?i_Node_would_vote ?l_Node_would_vote ?c_Node_would_vote ?k_Node_would_vote ?a_Node_take_entries ?i_Node_take_entries ?l_Node_take_entries ?c_Node_take_entries ?k_Node_take_entries ?a_Node_told ?i_Node_told ?l_Node_told ?c_Node_told ?k_Node_told ?a_told_entries ?l_told_entries ?c_told_entries ?k_told_entries ?a_Message_init ?i_Message_init ?l_Message_init ?c_Message_init ?k_Message_init ?a_Message_told ?i_Message_told ?l_Message_told ?c_Message_told ?k_Message_told ?a_append_of ?l_append_of ?c_append_of ?k_append_of ?a_request_of ?l_request_of ?c_request_of ?k_request_of ?a_vote_of ?l_vote_of ?c_vote_of ?k_vote_of ?a_reply_of ?l_reply_of ?c_reply_of ?k_reply_of ?a_Running_init ?i_Running_init ?l_Running_init ?c_Running_init ?k_Running_init ?a_Running_send ?i_Running_send ?l_Running_send ?c_Running_send ?k_Running_send ?a_Running_set_commit ?i_Running_set_commit ?l_Running_set_commit ?c_Running_set_commit ?k_Running_set_commit ?a_Running_advance ?i_Running_advance ?l_Running_advance ?c_Running_advance ?k_Running_advance ?a_Running_add ?i_Running_add ?l_Running_add ?c_Running_add ?k_Running_add ?a_Running_heartbeat ?i_Running_heartbeat ?l_Running_heartbeat ?c_Running_heartbeat ?k_Running_heartbeat ?a_Running_lead ?i_Running_lead ?l_Running_lead ?c_Running_lead ?k_Running_lead ?a_Running_elect ?i_Running_elect ?l_Running_elect ?c_Running_elect ?k_Running_elect ?a_Running_receive ?i_Running_receive ?l_Running_receive ?c_Running_receive ?k_Running_receive ?a_Running_receive_request ?i_Running_receive_request ?l_Running_receive_request ?c_Running_receive_request ?k_Running_receive_request ?a_Running_receive_vote ?i_Running_receive_vote ?l_Running_receive_vote ?c_Running_receive_vote ?k_Running_receive_vote ?a_Running_receive_append ?i_Running_receive_append ?l_Running_receive_append ?c_Running_receive_append ?k_Running_receive_append ?a_Running_receive_reply ?i_Running_receive_reply ?l_Running_receive_reply ?c_Running_receive_reply ?k_Running_receive_reply ?a_need ?l_need ?c_need ?k_need ?a_Desk_init ?i_Desk_init ?l_Desk_init ?c_Desk_init ?k_Desk_init ?a_Desk_begin ?i_Desk_begin ?l_Desk_begin ?c_Desk_begin ?k_Desk_begin ?a_Desk_node ?i_Desk_node ?l_Desk_node ?c_Desk_node ?k_Desk_node ?a_Desk_leader ?i_Desk_leader ?l_Desk_leader ?c_Desk_leader ?k_Desk_leader ?a_Desk_start_election ?i_Desk_start_election ?l_Desk_start_election ?c_Desk_start_election ?k_Desk_start_election ?a_Desk_propose ?i_Desk_propose ?l_Desk_propose ?c_Desk_propose ?k_Desk_propose ?a_Desk_change_member ?i_Desk_change_member ?l_Desk_change_member ?c_Desk_change_member ?k_Desk_change_member ?a_Desk_heartbeat ?i_Desk_heartbeat ?l_Desk_heartbeat ?c_Desk_heartbeat ?k_Desk_heartbeat ?a_Desk_message ?i_Desk_message ?l_Desk_message ?c_Desk_message ?k_Desk_message ?a_Desk_deliver ?i_Desk_deliver ?l_Desk_deliver ?c_Desk_deliver ?k_Desk_deliver ?a_Desk_drop ?i_Desk_drop ?l_Desk_drop ?c_Desk_drop ?k_Desk_drop ?a_Desk_stop ?i_Desk_stop ?l_Desk_stop ?c_Desk_stop ?k_Desk_stop ?a_Desk_restart ?i_Desk_restart ?l_Desk_restart ?c_Desk_restart ?k_Desk_restart ?a_Desk_told_messages ?i_Desk_told_messages ?l_Desk_told_messages ?c_Desk_told_messages ?k_Desk_told_messages ?a_Desk_told_leaders ?i_Desk_told_leaders ?l_Desk_told_leaders ?c_Desk_told_leaders ?k_Desk_told_leaders ?a_Desk_change ?i_Desk_change ?l_Desk_change ?c_Desk_change ?k_Desk_change ?a_Desk_later ?i_Desk_later ?l_Desk_later ?c_Desk_later ?k_Desk_later ?a_Desk_answer ?i_Desk_answer ?l_Desk_answer ?c_Desk_answer ?k_Desk_answer ?a_answers ?l_answers ?c_answers ?k_answers ?pg_Node ?hd_Node ?po_Node ?sa_Node ?mk_Node ?kc_Node ?n_Node_number ?n_Node_initial ?n_Node_is_running ?n_Node_term ?n_Node_voted ?n_Node_log ?n_Node_role ?n_Node_commit ?n_Node_votes ?n_Node_nexts ?n_Node_matches ?pg_Message ?hd_Message ?po_Message ?sa_Message ?mk_Message ?kc_Message ?n_Message_kind ?n_Message_receiver ?n_Message_sender ?n_Message_term ?n_Message_numbers ?n_Message_entries ?n_Message_commit ?pg_Running ?hd_Running ?po_Running ?sa_Running ?mk_Running ?kc_Running ?n_Running_nodes ?n_Running_messages ?n_Running_committed ?n_Running_leaders ?pg_Desk ?hd_Desk ?po_Desk ?sa_Desk ?mk_Desk ?kc_Desk ?n_Desk_running ?v_MANY ?v_NOBODY ?v_FOLLOWER ?v_CANDIDATE ?v_LEADER ?v_COMMAND ?v_CONFIGURATION ?v_EMPTY ?v_REQUEST ?v_VOTE ?v_APPEND ?v_REPLY ?v_MOST_MESSAGES ?v_IGNORED ?v_REPLIED ?v_COUNTED ?v_LEADS ?v_INCREASED ?v_ADOPTED ?v_NO_SUCCESS ?v_OUT ?v_WRONG_ROLE ?v_STOPPED ?v_NOT_NOW ?v_NO_MEMBER ?v_NO_NODES ?v_MOST_COMMAND ?z_int ?z_len ?z_list ?z_max ?z_min ?z_range ?z_set ?z_sum ?a_BITS ?x_BITS ?a_GIVEN ?x_GIVEN ?y_GIVEN ?x_Ref ?sa_Ref ?ga_Ref ?gg_Ref ?nb_Ref ?a1_Ref ?t1_Ref ?l1_Ref ?c1_Ref ?kC_Ref ?eC_Ref ?tC_Ref ?hC_Ref ?iC_Ref ?sC_Ref
    (case a_Node => k_is)
    (case a_Message => k_is)
    (case a_Running => k_is)
    (case a_Desk => k_is)
    (case a_Refused => k_is)
    (case a_Node_init => k_is)
    (case i_Node_init => k_is)
    (case l_Node_init => k_is)
    (case c_Node_init => k_is)
    (case k_Node_init => k_is)
    (case a_Node_begin => k_is)
    (case i_Node_begin => k_is)
    (case l_Node_begin => k_is)
    (case c_Node_begin => k_is)
    (case k_Node_begin => k_is)
    (case a_Node_leave => k_is)
    (case i_Node_leave => k_is)
    (case l_Node_leave => k_is)
    (case c_Node_leave => k_is)
    (case k_Node_leave => k_is)
    (case a_Node_mask => k_is)
    (case i_Node_mask => k_is)
    (case l_Node_mask => k_is)
    (case c_Node_mask => k_is)
    (case k_Node_mask => k_is)
    (case a_Node_members => k_is)
    (case i_Node_members => k_is)
    (case l_Node_members => k_is)
    (case c_Node_members => k_is)
    (case k_Node_members => k_is)
    (case a_Node_others => k_is)
    (case i_Node_others => k_is)
    (case l_Node_others => k_is)
    (case c_Node_others => k_is)
    (case k_Node_others => k_is)
    (case a_Node_is_majority => k_is)
    (case i_Node_is_majority => k_is)
    (case l_Node_is_majority => k_is)
    (case c_Node_is_majority => k_is)
    (case k_Node_is_majority => k_is)
    (case a_Node_term_at => k_is)
    (case i_Node_term_at => k_is)
    (case l_Node_term_at => k_is)
    (case c_Node_term_at => k_is)
    (case k_Node_term_at => k_is)
    (case a_Node_last_term => k_is)
    (case i_Node_last_term => k_is)
    (case l_Node_last_term => k_is)
    (case c_Node_last_term => k_is)
    (case k_Node_last_term => k_is)
    (case a_Node_has_open_configuration => k_is)
    (case i_Node_has_open_configuration => k_is)
    (case l_Node_has_open_configuration => k_is)
    (case c_Node_has_open_configuration => k_is)
    (case k_Node_has_open_configuration => k_is)
    (case a_Node_adopt => k_is)
    (case i_Node_adopt => k_is)
    (case l_Node_adopt => k_is)
    (case c_Node_adopt => k_is)
    (case k_Node_adopt => k_is)
    (case a_Node_next_commit => k_is)
    (case i_Node_next_commit => k_is)
    (case l_Node_next_commit => k_is)
    (case c_Node_next_commit => k_is)
    (case k_Node_next_commit => k_is)
    (case a_Node_would_vote => k_is)
    (case i_Node_would_vote => k_is)
    (case l_Node_would_vote => k_is)
    (case c_Node_would_vote => k_is)
    (case k_Node_would_vote => k_is)
    (case a_Node_take_entries => k_is)
    (case i_Node_take_entries => k_is)
    (case l_Node_take_entries => k_is)
    (case c_Node_take_entries => k_is)
    (case k_Node_take_entries => k_is)
    (case a_Node_told => k_is)
    (case i_Node_told => k_is)
    (case l_Node_told => k_is)
    (case c_Node_told => k_is)
    (case k_Node_told => k_is)
    (case a_told_entries => k_is)
    (case l_told_entries => k_is)
    (case c_told_entries => k_is)
    (case k_told_entries => k_is)
    (case a_Message_init => k_is)
    (case i_Message_init => k_is)
    (case l_Message_init => k_is)
    (case c_Message_init => k_is)
    (case k_Message_init => k_is)
    (case a_Message_told => k_is)
    (case i_Message_told => k_is)
    (case l_Message_told => k_is)
    (case c_Message_told => k_is)
    (case k_Message_told => k_is)
    (case a_append_of => k_is)
    (case l_append_of => k_is)
    (case c_append_of => k_is)
    (case k_append_of => k_is)
    (case a_request_of => k_is)
    (case l_request_of => k_is)
    (case c_request_of => k_is)
    (case k_request_of => k_is)
    (case a_vote_of => k_is)
    (case l_vote_of => k_is)
    (case c_vote_of => k_is)
    (case k_vote_of => k_is)
    (case a_reply_of => k_is)
    (case l_reply_of => k_is)
    (case c_reply_of => k_is)
    (case k_reply_of => k_is)
    (case a_Running_init => k_is)
    (case i_Running_init => k_is)
    (case l_Running_init => k_is)
    (case c_Running_init => k_is)
    (case k_Running_init => k_is)
    (case a_Running_send => k_is)
    (case i_Running_send => k_is)
    (case l_Running_send => k_is)
    (case c_Running_send => k_is)
    (case k_Running_send => k_is)
    (case a_Running_set_commit => k_is)
    (case i_Running_set_commit => k_is)
    (case l_Running_set_commit => k_is)
    (case c_Running_set_commit => k_is)
    (case k_Running_set_commit => k_is)
    (case a_Running_advance => k_is)
    (case i_Running_advance => k_is)
    (case l_Running_advance => k_is)
    (case c_Running_advance => k_is)
    (case k_Running_advance => k_is)
    (case a_Running_add => k_is)
    (case i_Running_add => k_is)
    (case l_Running_add => k_is)
    (case c_Running_add => k_is)
    (case k_Running_add => k_is)
    (case a_Running_heartbeat => k_is)
    (case i_Running_heartbeat => k_is)
    (case l_Running_heartbeat => k_is)
    (case c_Running_heartbeat => k_is)
    (case k_Running_heartbeat => k_is)
    (case a_Running_lead => k_is)
    (case i_Running_lead => k_is)
    (case l_Running_lead => k_is)
    (case c_Running_lead => k_is)
    (case k_Running_lead => k_is)
    (case a_Running_elect => k_is)
    (case i_Running_elect => k_is)
    (case l_Running_elect => k_is)
    (case c_Running_elect => k_is)
    (case k_Running_elect => k_is)
    (case a_Running_receive => k_is)
    (case i_Running_receive => k_is)
    (case l_Running_receive => k_is)
    (case c_Running_receive => k_is)
    (case k_Running_receive => k_is)
    (case a_Running_receive_request => k_is)
    (case i_Running_receive_request => k_is)
    (case l_Running_receive_request => k_is)
    (case c_Running_receive_request => k_is)
    (case k_Running_receive_request => k_is)
    (case a_Running_receive_vote => k_is)
    (case i_Running_receive_vote => k_is)
    (case l_Running_receive_vote => k_is)
    (case c_Running_receive_vote => k_is)
    (case k_Running_receive_vote => k_is)
    (case a_Running_receive_append => k_is)
    (case i_Running_receive_append => k_is)
    (case l_Running_receive_append => k_is)
    (case c_Running_receive_append => k_is)
    (case k_Running_receive_append => k_is)
    (case a_Running_receive_reply => k_is)
    (case i_Running_receive_reply => k_is)
    (case l_Running_receive_reply => k_is)
    (case c_Running_receive_reply => k_is)
    (case k_Running_receive_reply => k_is)
    (case a_need => k_is)
    (case l_need => k_is)
    (case c_need => k_is)
    (case k_need => k_is)
    (case a_Desk_init => k_is)
    (case i_Desk_init => k_is)
    (case l_Desk_init => k_is)
    (case c_Desk_init => k_is)
    (case k_Desk_init => k_is)
    (case a_Desk_begin => k_is)
    (case i_Desk_begin => k_is)
    (case l_Desk_begin => k_is)
    (case c_Desk_begin => k_is)
    (case k_Desk_begin => k_is)
    (case a_Desk_node => k_is)
    (case i_Desk_node => k_is)
    (case l_Desk_node => k_is)
    (case c_Desk_node => k_is)
    (case k_Desk_node => k_is)
    (case a_Desk_leader => k_is)
    (case i_Desk_leader => k_is)
    (case l_Desk_leader => k_is)
    (case c_Desk_leader => k_is)
    (case k_Desk_leader => k_is)
    (case a_Desk_start_election => k_is)
    (case i_Desk_start_election => k_is)
    (case l_Desk_start_election => k_is)
    (case c_Desk_start_election => k_is)
    (case k_Desk_start_election => k_is)
    (case a_Desk_propose => k_is)
    (case i_Desk_propose => k_is)
    (case l_Desk_propose => k_is)
    (case c_Desk_propose => k_is)
    (case k_Desk_propose => k_is)
    (case a_Desk_change_member => k_is)
    (case i_Desk_change_member => k_is)
    (case l_Desk_change_member => k_is)
    (case c_Desk_change_member => k_is)
    (case k_Desk_change_member => k_is)
    (case a_Desk_heartbeat => k_is)
    (case i_Desk_heartbeat => k_is)
    (case l_Desk_heartbeat => k_is)
    (case c_Desk_heartbeat => k_is)
    (case k_Desk_heartbeat => k_is)
    (case a_Desk_message => k_is)
    (case i_Desk_message => k_is)
    (case l_Desk_message => k_is)
    (case c_Desk_message => k_is)
    (case k_Desk_message => k_is)
    (case a_Desk_deliver => k_is)
    (case i_Desk_deliver => k_is)
    (case l_Desk_deliver => k_is)
    (case c_Desk_deliver => k_is)
    (case k_Desk_deliver => k_is)
    (case a_Desk_drop => k_is)
    (case i_Desk_drop => k_is)
    (case l_Desk_drop => k_is)
    (case c_Desk_drop => k_is)
    (case k_Desk_drop => k_is)
    (case a_Desk_stop => k_is)
    (case i_Desk_stop => k_is)
    (case l_Desk_stop => k_is)
    (case c_Desk_stop => k_is)
    (case k_Desk_stop => k_is)
    (case a_Desk_restart => k_is)
    (case i_Desk_restart => k_is)
    (case l_Desk_restart => k_is)
    (case c_Desk_restart => k_is)
    (case k_Desk_restart => k_is)
    (case a_Desk_told_messages => k_is)
    (case i_Desk_told_messages => k_is)
    (case l_Desk_told_messages => k_is)
    (case c_Desk_told_messages => k_is)
    (case k_Desk_told_messages => k_is)
    (case a_Desk_told_leaders => k_is)
    (case i_Desk_told_leaders => k_is)
    (case l_Desk_told_leaders => k_is)
    (case c_Desk_told_leaders => k_is)
    (case k_Desk_told_leaders => k_is)
    (case a_Desk_change => k_is)
    (case i_Desk_change => k_is)
    (case l_Desk_change => k_is)
    (case c_Desk_change => k_is)
    (case k_Desk_change => k_is)
    (case a_Desk_later => k_is)
    (case i_Desk_later => k_is)
    (case l_Desk_later => k_is)
    (case c_Desk_later => k_is)
    (case k_Desk_later => k_is)
    (case a_Desk_answer => k_is)
    (case i_Desk_answer => k_is)
    (case l_Desk_answer => k_is)
    (case c_Desk_answer => k_is)
    (case k_Desk_answer => k_is)
    (case a_answers => k_is)
    (case l_answers => k_is)
    (case c_answers => k_is)
    (case k_answers => k_is)
    (case pg_Node => k_is)
    (case hd_Node => k_is)
    (case po_Node => k_is)
    (case sa_Node => k_is)
    (case mk_Node => k_is)
    (case kc_Node => k_is)
    (case n_Node_number => k_is)
    (case n_Node_initial => k_is)
    (case n_Node_is_running => k_is)
    (case n_Node_term => k_is)
    (case n_Node_voted => k_is)
    (case n_Node_log => k_is)
    (case n_Node_role => k_is)
    (case n_Node_commit => k_is)
    (case n_Node_votes => k_is)
    (case n_Node_nexts => k_is)
    (case n_Node_matches => k_is)
    (case pg_Message => k_is)
    (case hd_Message => k_is)
    (case po_Message => k_is)
    (case sa_Message => k_is)
    (case mk_Message => k_is)
    (case kc_Message => k_is)
    (case n_Message_kind => k_is)
    (case n_Message_receiver => k_is)
    (case n_Message_sender => k_is)
    (case n_Message_term => k_is)
    (case n_Message_numbers => k_is)
    (case n_Message_entries => k_is)
    (case n_Message_commit => k_is)
    (case pg_Running => k_is)
    (case hd_Running => k_is)
    (case po_Running => k_is)
    (case sa_Running => k_is)
    (case mk_Running => k_is)
    (case kc_Running => k_is)
    (case n_Running_nodes => k_is)
    (case n_Running_messages => k_is)
    (case n_Running_committed => k_is)
    (case n_Running_leaders => k_is)
    (case pg_Desk => k_is)
    (case hd_Desk => k_is)
    (case po_Desk => k_is)
    (case sa_Desk => k_is)
    (case mk_Desk => k_is)
    (case kc_Desk => k_is)
    (case n_Desk_running => k_is)
    (case v_MANY => k_is)
    (case v_NOBODY => k_is)
    (case v_FOLLOWER => k_is)
    (case v_CANDIDATE => k_is)
    (case v_LEADER => k_is)
    (case v_COMMAND => k_is)
    (case v_CONFIGURATION => k_is)
    (case v_EMPTY => k_is)
    (case v_REQUEST => k_is)
    (case v_VOTE => k_is)
    (case v_APPEND => k_is)
    (case v_REPLY => k_is)
    (case v_MOST_MESSAGES => k_is)
    (case v_IGNORED => k_is)
    (case v_REPLIED => k_is)
    (case v_COUNTED => k_is)
    (case v_LEADS => k_is)
    (case v_INCREASED => k_is)
    (case v_ADOPTED => k_is)
    (case v_NO_SUCCESS => k_is)
    (case v_OUT => k_is)
    (case v_WRONG_ROLE => k_is)
    (case v_STOPPED => k_is)
    (case v_NOT_NOW => k_is)
    (case v_NO_MEMBER => k_is)
    (case v_NO_NODES => k_is)
    (case v_MOST_COMMAND => k_is)
    (case z_int => k_is)
    (case z_len => k_is)
    (case z_list => k_is)
    (case z_max => k_is)
    (case z_min => k_is)
    (case z_range => k_is)
    (case z_set => k_is)
    (case z_sum => k_is)
    (case a_BITS => k_is)
    (case x_BITS => k_is)
    (case a_GIVEN => k_is)
    (case x_GIVEN => k_is)
    (case y_GIVEN => rfl)
    (case x_Ref => k_is)
    (case sa_Ref => k_is)
    (case ga_Ref => k_is)
    (case gg_Ref => k_is)
    (case nb_Ref => k_is)
    (case a1_Ref => k_is)
    (case t1_Ref => k_is)
    (case l1_Ref => k_is)
    (case c1_Ref => k_is)
    (case kC_Ref => k_is)
    (case eC_Ref => k_is)
    (case tC_Ref => k_is)
    (case hC_Ref => k_is)
    (case iC_Ref => k_is)
    (case sC_Ref => first | rfl | k_is)
  case S =>
    intro K H xs a hO hwi hask hx
    cases hx with
    | cons h1 h2 =>
      cases h2
      cases h1 with
      | lst hs ha =>
        have e := L2.ints_dw a.1 _ ha
        subst e
        exact ⟨_, a.1, rfl, hs, hask, fun H' p hp => .lst (L2.SqL.of hp) (L2.dw_ints _)⟩
#print axioms PySem.Challenge.cw_movingmembers_s01_answers_holds
