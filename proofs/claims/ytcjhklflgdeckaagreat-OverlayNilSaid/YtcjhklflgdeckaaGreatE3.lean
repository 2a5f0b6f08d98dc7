/- Parts of the proof: rules for walks by the evaluator E, arguments read as data, calls whose answer is known, and a fast form of E proved to find nothing true that E does not; no condition. -/
import Derived.ProofKit
import Derived.DataReads
import Derived.Test.YtcjhklflgdeckaaGreatE2
import Derived.Test.YtcjhklflgdeckaaGreatE1
namespace Go.E

theorem if_congr' {α : Type} {p q : Prop} {_ : Decidable p} {_ : Decidable q} (h : p ↔ q) (x y : α) : (if p then x else y) = if q then x else y := by
  by_cases hp : p
  · rw [if_pos hp, if_pos (h.1 hp)]
  · rw [if_neg hp, if_neg fun hq => hp (h.2 hq)]

def Wr (rs : List ROper) (j t : Nat) : Prop := ∃ o, rs[j]? = some o ∧ o.dst = some t

open Classical in
/-- The slots that the operations of M have written, as they are; the others as they were. -/
noncomputable def envAt (rs : List ROper) (M : Nat → Prop) (e0 e : Env) : Env :=
  (List.range e.length).map fun t => if ∃ j, M j ∧ Wr rs j t then (e[t]?).join else (e0[t]?).join

@[simp] theorem envAt_len (rs : List ROper) (M : Nat → Prop) (e0 e : Env) : (envAt rs M e0 e).length = e.length := by simp [envAt]

open Classical in
theorem envAt_get {rs : List ROper} {M : Nat → Prop} {e0 e : Env} (hl : e.length = e0.length) (t : Nat) :
    (envAt rs M e0 e)[t]? = if ∃ j, M j ∧ Wr rs j t then e[t]? else e0[t]? := by
  unfold envAt
  by_cases ht : t < e.length
  · have ht0 : t < e0.length := by omega
    rw [List.getElem?_map, List.getElem?_range ht, Option.map_some, List.getElem?_eq_getElem ht, List.getElem?_eq_getElem ht0]
    split <;> rfl
  · have h1 : e[t]? = none := List.getElem?_eq_none (by omega)
    have h2 : e0[t]? = none := List.getElem?_eq_none (by omega)
    rw [List.getElem?_eq_none (by simp; omega), h1, h2]
    split <;> rfl

structure Slots (rs : List ROper) (bef : List Nat) : Prop where
  one : ∀ {j j' t : Nat}, Wr rs j t → Wr rs j' t → j = j'
  ord : ∀ {i j t : Nat} {o : ROper}, rs[i]? = some o → t ∈ names o → Wr rs j t → j = i ∨ (bef.getD i 0).testBit j = true ∨ (bef.getD j 0).testBit i = true

theorem slotsOk_spec {rs : List ROper} {bef : List Nat} (h : slotsOk rs bef = true) : Slots rs bef := by
  have key : ∀ {i j t : Nat} {a b : ROper}, rs[i]? = some a → rs[j]? = some b → a.dst = some t → i = j ∨ (b.dst ≠ some t ∧ (t ∉ names b ∨ (bef.getD j 0).testBit i = true ∨ (bef.getD i 0).testBit j = true)) := by
    intro i j t a b ha hb hd
    unfold slotsOk at h
    have h1 := (List.all_eq_true.1 h) (a, i) (List.mem_zipIdx_iff_getElem?.2 ha)
    simp only [hd] at h1
    have h2 := (List.all_eq_true.1 h1) (b, j) (List.mem_zipIdx_iff_getElem?.2 hb)
    simp only [Bool.or_eq_true, Bool.and_eq_true, beq_iff_eq, bne_iff_ne, Bool.not_eq_true', List.contains_eq_mem, decide_eq_false_iff_not] at h2
    rcases h2 with h2 | ⟨h2, h3⟩
    · exact .inl h2
    · right
      refine ⟨h2, ?_⟩
      rcases h3 with (h3 | h3) | h3
      · exact .inl h3
      · exact .inr (.inl h3)
      · exact .inr (.inr h3)
  refine ⟨?_, ?_⟩
  · rintro j j' t ⟨o, h1, h2⟩ ⟨o', h3, h4⟩
    rcases key h1 h3 h2 with h5 | ⟨h5, _⟩
    · exact h5
    · exact absurd h4 h5
  · rintro i j t o h1 h2 ⟨o', h3, h4⟩
    rcases key h3 h1 h4 with h5 | ⟨_, h5⟩
    · exact .inl h5
    · rcases h5 with h5 | h5
      · exact absurd h2 h5
      · exact .inr h5

def bf (bef : List Nat) (i j : Nat) : Prop := (bef.getD i 0).testBit j = true

theorem envAt_agree {rs : List ROper} {bef : List Nat} (hs : Slots rs bef) {M : Nat → Prop} {e0 e : Env} (hl : e.length = e0.length) {i : Nat} {o : ROper} (ho : rs[i]? = some o) (hM : ∀ j, M j → ∀ l, bf bef j l → M l)
    (hb : ∀ j, bf bef i j → M j) (hi : ¬ M i) {t : Nat} (ht : t ∈ names o) : (envAt rs M e0 e)[t]? = (envAt rs (bf bef i) e0 e)[t]? := by
  rw [envAt_get hl, envAt_get hl]
  have : (∃ j, M j ∧ Wr rs j t) ↔ ∃ j, bf bef i j ∧ Wr rs j t := by
    constructor
    · rintro ⟨j, h1, h2⟩
      rcases hs.ord ho ht h2 with h3 | h3 | h3
      · subst h3; exact absurd h1 hi
      · exact ⟨j, h3, h2⟩
      · exact absurd (hM j h1 i h3) hi
    · rintro ⟨j, h1, h2⟩; exact ⟨j, hb j h1, h2⟩
  exact if_congr' this _ _

theorem put_len (e : Env) (d : Option Nat) (v : Option Value) : (e.put d v).length = e.length := by cases d <;> simp [Env.put]

theorem envAt_put {rs : List ROper} {M : Nat → Prop} {e0 e : Env} (hl : e.length = e0.length) {i : Nat} {o : ROper} (ho : rs[i]? = some o) (v : Value) :
    envAt rs (fun j => M j ∨ j = i) e0 (e.put o.dst (some v)) = (envAt rs M e0 e).put o.dst (some v) := by
  apply List.ext_getElem?
  intro t
  rw [envAt_get (by rw [put_len, hl])]
  cases hd : o.dst with
  | none =>
    simp only [Env.put]
    rw [envAt_get hl]
    have : (∃ j, (M j ∨ j = i) ∧ Wr rs j t) ↔ ∃ j, M j ∧ Wr rs j t := by
      constructor
      · rintro ⟨j, h1, h2⟩
        rcases h1 with h1 | h1
        · exact ⟨j, h1, h2⟩
        · subst h1; obtain ⟨o', h3, h4⟩ := h2; rw [ho] at h3; cases h3; rw [hd] at h4; cases h4
      · rintro ⟨j, h1, h2⟩; exact ⟨j, .inl h1, h2⟩
    exact if_congr' this _ _
  | some s =>
    simp only [Env.put, List.getElem?_set]
    by_cases hst : s = t
    · subst hst
      have : ∃ j, (M j ∨ j = i) ∧ Wr rs j s := ⟨i, .inr rfl, o, ho, hd⟩
      simp [this]
    · simp only [if_neg hst]
      rw [envAt_get hl]
      have : (∃ j, (M j ∨ j = i) ∧ Wr rs j t) ↔ ∃ j, M j ∧ Wr rs j t := by
        constructor
        · rintro ⟨j, h1, h2⟩
          rcases h1 with h1 | h1
          · exact ⟨j, h1, h2⟩
          · subst h1; obtain ⟨o', h3, h4⟩ := h2; rw [ho] at h3; cases h3; rw [hd] at h4; cases h4; exact absurd rfl hst
        · rintro ⟨j, h1, h2⟩; exact ⟨j, .inl h1, h2⟩
      exact if_congr' this _ _

/-- The slot of an operation that is not of M is not looked at. -/
theorem envAt_keep {rs : List ROper} {bef : List Nat} (hs : Slots rs bef) {M : Nat → Prop} {e0 e : Env} (hl : e.length = e0.length) {i : Nat} {o : ROper} (ho : rs[i]? = some o) (hi : ¬ M i) (v : Value) :
    envAt rs M e0 (e.put o.dst (some v)) = envAt rs M e0 e := by
  apply List.ext_getElem?
  intro t
  rw [envAt_get (by rw [put_len, hl]), envAt_get hl]
  split
  · rename_i h
    obtain ⟨j, h1, h2⟩ := h
    cases hd : o.dst with
    | none => rfl
    | some s =>
      simp only [Env.put, List.getElem?_set]
      by_cases hst : s = t
      · subst hst
        have := hs.one h2 ⟨o, ho, hd⟩
        subst this
        exact absurd h1 hi
      · rw [if_neg hst]
  · rfl

/-- The slot's writer comes in. -/
theorem envAt_in {rs : List ROper} {M : Nat → Prop} {e0 e : Env} (hl : e.length = e0.length) {i : Nat} {o : ROper} (ho : rs[i]? = some o) {v : Value}
    (hv : ∀ t, o.dst = some t → t < e.length → e[t]? = some (some v)) : envAt rs (fun j => M j ∨ j = i) e0 e = (envAt rs M e0 e).put o.dst (some v) := by
  rw [← envAt_put hl ho]
  congr 1
  cases hd : o.dst with
  | none => rfl
  | some s =>
    apply List.ext_getElem?
    intro t
    simp only [Env.put, List.getElem?_set]
    split
    · rename_i h; subst h
      split
      · exact hv s hd ‹_›
      · exact List.getElem?_eq_none (by omega)
    · rfl

theorem envAt_congr {rs : List ROper} {M M' : Nat → Prop} (h : ∀ j, j < rs.length → (M j ↔ M' j)) (e0 e : Env) : envAt rs M e0 e = envAt rs M' e0 e := by
  unfold envAt
  congr 1
  funext t
  have : (∃ j, M j ∧ Wr rs j t) ↔ ∃ j, M' j ∧ Wr rs j t := by
    constructor
    · rintro ⟨j, h1, o, h2, h3⟩; exact ⟨j, (h j (List.getElem?_eq_some_iff.1 h2).1).1 h1, o, h2, h3⟩
    · rintro ⟨j, h1, o, h2, h3⟩; exact ⟨j, (h j (List.getElem?_eq_some_iff.1 h2).1).2 h1, o, h2, h3⟩
  exact if_congr' this _ _

/-! ### The masks -/

theorem and_sub {a b : Nat} (h : (a &&& b == a) = true) : ∀ j, a.testBit j = true → b.testBit j = true := by
  intro j hj
  have h1 : a &&& b = a := by simpa using h
  have h2 : (a &&& b).testBit j = a.testBit j := by rw [h1]
  rw [Nat.testBit_and, hj] at h2
  simpa using h2
theorem and_nsub {a b : Nat} (h : (a &&& b != a) = true) : ∃ j, a.testBit j = true ∧ b.testBit j = false := by
  refine Classical.byContradiction fun hn => ?_
  have : a &&& b = a := by
    apply Nat.eq_of_testBit_eq
    intro j
    rw [Nat.testBit_and]
    cases ha : a.testBit j with
    | false => rfl
    | true =>
      cases hb : b.testBit j with
      | true => rfl
      | false => exact absurd ⟨j, ha, hb⟩ hn
  simp [this] at h
theorem or_bit (d i j : Nat) : (d ||| 2 ^ i).testBit j = (d.testBit j || decide (i = j)) := by rw [Nat.testBit_or, Nat.testBit_two_pow]
theorem maskOf_bit (f : Nat → Bool) : ∀ (n j : Nat), (maskOf f n).testBit j = (decide (j < n) && f j)
  | 0, j => by simp [maskOf]
  | n + 1, j => by
    simp only [maskOf, Nat.testBit_or, maskOf_bit f n j]
    by_cases hn : f n = true
    · rw [if_pos hn, Nat.testBit_two_pow]
      by_cases h : n = j
      · subst h; simp [hn]
      · simp only [h, decide_false, Bool.or_false]
        congr 1
        exact decide_eq_decide.2 (by omega)
    · rw [if_neg hn]
      simp only [Nat.zero_testBit, Bool.or_false]
      by_cases h : n = j
      · subst h; simp at hn; simp [hn]
      · congr 1
        exact decide_eq_decide.2 (by omega)

def hvM (rs : List ROper) : Nat := maskOf (fun i => !lightAt rs i) rs.length

theorem hvM_bit {rs : List ROper} {j : Nat} : (hvM rs).testBit j = true ↔ j < rs.length ∧ lightAt rs j = false := by
  unfold hvM; rw [maskOf_bit]; simp

theorem chk_cons {rs : List ROper} {bef : List Nat} {i done : Nat} {rest : List Nat} (h : chk rs bef rs.length (hvM rs) (i :: rest) done = true) :
    i < rs.length ∧ done.testBit i = false ∧ (∀ j, bf bef i j → done.testBit j = true) ∧
    (lightAt rs i = true ∨ ((∀ g, g < rs.length → lightAt rs g = false → done.testBit g = true → bf bef i g) ∧
      ∀ l, l < rs.length → lightAt rs l = true → done.testBit l = true ∨ ∃ g, lightAt rs g = false ∧ bf bef l g ∧ done.testBit g = false)) ∧
    chk rs bef rs.length (hvM rs) rest (done ||| 2 ^ i) = true := by
  simp only [chk, Bool.and_eq_true, Bool.or_eq_true] at h
  obtain ⟨⟨⟨⟨h1, h2⟩, h3⟩, h4⟩, h5⟩ := h
  refine ⟨by simpa using h1, by simpa using h2, and_sub h3, ?_, h5⟩
  rcases h4 with h4 | ⟨h4, h6⟩
  · exact .inl h4
  · right
    refine ⟨fun g hg1 hg2 hg3 => ?_, fun l hl hll => ?_⟩
    · have : (hvM rs &&& done).testBit g = true := by rw [Nat.testBit_and, hg3, hvM_bit.2 ⟨hg1, hg2⟩]; rfl
      have e : bef.getD i 0 &&& (hvM rs &&& done) = hvM rs &&& done := by simpa using h4
      rw [← e, Nat.testBit_and] at this
      simp only [Bool.and_eq_true] at this
      exact this.1
    · have h7 := (List.all_eq_true.1 h6) l (by simpa using hl)
      simp only [Bool.or_eq_true, hll, Bool.not_true, Bool.false_eq_true, false_or] at h7
      rcases h7 with h7 | h7
      · exact .inl h7
      · right
        obtain ⟨j, hj1, hj2⟩ := and_nsub h7
        rw [Nat.testBit_and, Bool.and_eq_true] at hj1
        exact ⟨j, (hvM_bit.1 hj1.2).2, hj1.1, hj2⟩

theorem chk_nil {rs : List ROper} {bef : List Nat} {done : Nat} (h : chk rs bef rs.length (hvM rs) [] done = true) {i : Nat} : done.testBit i = true ↔ i < rs.length := by
  simp only [chk, beq_iff_eq] at h
  rw [h, maskOf_bit]; simp

theorem chk_mem {rs : List ROper} {bef : List Nat} : ∀ {pl : List Nat} {done : Nat}, chk rs bef rs.length (hvM rs) pl done = true → ∀ i, i < rs.length → done.testBit i = false → i ∈ pl
  | [], done, h, i, hi, hd => by rw [(chk_nil h).2 hi] at hd; cases hd
  | j :: rest, done, h, i, hi, hd => by
    by_cases e : j = i
    · subst e; exact List.mem_cons_self
    · exact List.mem_cons_of_mem _ (chk_mem (chk_cons h).2.2.2.2 i hi (by rw [or_bit, hd]; simpa using e))

theorem chk_heavy {rs : List ROper} {bef : List Nat} : ∀ {pl : List Nat} {done : Nat}, chk rs bef rs.length (hvM rs) pl done = true → ∀ i, i ∈ pl → lightAt rs i = false → ∀ g, g < rs.length → lightAt rs g = false → done.testBit g = true → bf bef i g
  | [], _, _, i, hi, _, _, _, _, _ => by simp at hi
  | j :: rest, done, h, i, hi, hl, g, hg, hgl, hgd => by
    obtain ⟨h1, h2, h3, h4, h5⟩ := chk_cons h
    rcases List.mem_cons.1 hi with e | e
    · subst e
      rcases h4 with h4 | h4
      · rw [hl] at h4; cases h4
      · exact h4.1 g hg hgl hgd
    · exact chk_heavy h5 i e hl g hg hgl (by rw [or_bit, hgd]; rfl)

theorem chk_below {rs : List ROper} {bef : List Nat} : ∀ {pl : List Nat} {done : Nat}, chk rs bef rs.length (hvM rs) pl done = true → ∀ i, done.testBit i = true → i < rs.length
  | [], done, h, i, hd => (chk_nil h).1 hd
  | j :: rest, done, h, i, hd => chk_below (chk_cons h).2.2.2.2 i (by rw [or_bit, hd]; rfl)

/-! ### What stands ahead -/

def stepB (acc : List Nat) (o : Oper) : Nat := o.after.toList.foldl (fun s e => if Region.binds .any e then s ||| 2 ^ e.on ||| acc.getD e.on 0 else s) 0

theorem befs_spec : ∀ (l : List Oper) (acc : List Nat), ∃ tail, befs l acc = acc ++ tail ∧ tail.length = l.length ∧ ∀ (i : Nat) (o : Oper), l[i]? = some o → tail[i]? = some (stepB (acc ++ tail.take i) o)
  | [], acc => ⟨[], by simp [befs], rfl, fun i o h => by simp at h⟩
  | o :: r, acc => by
    obtain ⟨tail, h1, h2, h3⟩ := befs_spec r (acc ++ [stepB acc o])
    refine ⟨stepB acc o :: tail, ?_, by simp [h2], fun i o' hi => ?_⟩
    · simp only [befs]
      change befs r (acc ++ [stepB acc o]) = _
      rw [h1]; simp
    · cases i with
      | zero => simp at hi; subst hi; simp
      | succ i =>
        simp at hi
        have := h3 i o' hi
        simpa using this

theorem stepB_fold (acc : List Nat) (j : Nat) : ∀ (l : List Edge) (s : Nat), (l.foldl (fun s e => if Region.binds .any e then s ||| 2 ^ e.on ||| acc.getD e.on 0 else s) s).testBit j = true ↔
    s.testBit j = true ∨ ∃ e ∈ l, Region.binds .any e = true ∧ (j = e.on ∨ (acc.getD e.on 0).testBit j = true)
  | [], s => by simp
  | e :: l, s => by
    rw [List.foldl_cons, stepB_fold acc j l]
    by_cases hb : Region.binds .any e = true
    · rw [if_pos hb, Nat.testBit_or, Nat.testBit_or, Nat.testBit_two_pow]
      simp only [Bool.or_eq_true, decide_eq_true_eq, List.mem_cons, exists_eq_or_imp, hb, true_and]
      constructor
      · rintro (((h | h) | h) | h)
        · exact .inl h
        · exact .inr (.inl (.inl h.symm))
        · exact .inr (.inl (.inr h))
        · exact .inr (.inr h)
      · rintro (h | (h | h) | h)
        · exact .inl (.inl (.inl h))
        · exact .inl (.inl (.inr h.symm))
        · exact .inl (.inr h)
        · exact .inr h
    · rw [if_neg hb]
      simp only [List.mem_cons, exists_eq_or_imp, hb, Bool.false_eq_true, false_and, false_or]

theorem bef_edge {ops : Array Oper} {i : Nat} {o : Oper} (ho : ops[i]? = some o) {e : Edge} (he : e ∈ o.after.toList) (hb : Region.binds .any e = true) : bf (befs ops.toList []) i e.on := by
  obtain ⟨tail, h1, h2, h3⟩ := befs_spec ops.toList []
  have h4 := h3 i o (by simpa using ho)
  unfold bf
  rw [h1, List.nil_append, List.getD_eq_getElem?_getD, h4, Option.getD_some]
  unfold stepB
  rw [stepB_fold]
  exact .inr ⟨e, he, hb, .inl rfl⟩
theorem bef_sub {ops : Array Oper} {i j : Nat} {o : Oper} (ho : ops[i]? = some o) (h : bf (befs ops.toList []) i j) : ∃ e ∈ o.after.toList, Region.binds .any e = true ∧ (j = e.on ∨ bf (befs ops.toList []) e.on j) := by
  obtain ⟨tail, h1, h2, h3⟩ := befs_spec ops.toList []
  have h4 := h3 i o (by simpa using ho)
  unfold bf at h
  rw [h1, List.nil_append, List.getD_eq_getElem?_getD, h4, Option.getD_some] at h
  unfold stepB at h
  rw [stepB_fold] at h
  rcases h with h | ⟨e, he, hb, h⟩
  · simp at h
  · refine ⟨e, he, hb, ?_⟩
    rcases h with h | h
    · exact .inl h
    · right
      unfold bf
      rw [h1, List.nil_append]
      rw [List.nil_append, List.getD_eq_getElem?_getD, List.getElem?_take] at h
      rw [List.getD_eq_getElem?_getD]
      split at h
      · exact h
      · simp at h

theorem ready_iff {ops : Array Oper} {listed : Array Bool} {i : Nat} : i ∈ Region.ready .any ops listed ↔ ∃ o, ops[i]? = some o ∧ listed.getD i true = false ∧ ∀ e ∈ o.after.toList, Region.binds .any e = true → listed.getD e.on false = true := by
  unfold Region.ready
  rw [List.mem_filter, List.mem_range, Bool.and_eq_true]
  constructor
  · rintro ⟨h1, h2, h3⟩
    refine ⟨ops[i], Array.getElem?_eq_getElem h1, by simpa using h2, fun e he hb => ?_⟩
    rw [Array.getElem?_eq_getElem h1, Option.map_some, Option.getD_some, ← Array.all_toList] at h3
    have := (List.all_eq_true.1 h3) e he
    rw [hb] at this; simpa using this
  · rintro ⟨o, h1, h2, h3⟩
    refine ⟨(Array.getElem?_eq_some_iff.1 h1).1, by simpa using h2, ?_⟩
    rw [h1, Option.map_some, Option.getD_some, ← Array.all_toList]
    refine List.all_eq_true.2 fun e he => ?_
    cases hb : Region.binds .any e with
    | false => rfl
    | true => simpa using h3 e he hb

end Go.E

namespace Go.E
section
variable {P : Program} {Fz : Fr} {w0 : World} {β : Bt} {H H' : AHeap} {w : World} {env : Env} {a : Act} {o : Oper}

/-- What a new block holds, wherever it is laid. -/
theorem new_any {c : List Value} {c' : Array Value} (t : TypeId) (e : Nat) (ex : Bool) (hl : LRel β c c'.toList) (r : Nat) :
    ∀ β', β.le β' → ORel P β' ⟨r, 0, c'.size, e, ex, false⟩ (.cells c t e ex false) (.cells c' t) := fun β' hle =>
  ⟨c', (0, 0), rfl, rfl, rfl, rfl, rfl, by have := hl.1; simp at this; simp [this], fun j v v' a b => (hl.2 j v v' a (by simpa using b)).mono hle, fun _ => .inl rfl⟩

def AllocRun (P : Program) (β : Bt) (i : Nat) (v : Value) (ob : AObj) (w : World) (r : Result Next) : Prop :=
  ∃ (p : Pl) (ro : Obj) (v' : Value), r = .ok (.value v') { w with heap := w.heap.push ro } ∧ p.rb = w.heap.size ∧ p.ro = false ∧ ∀ β', β.le β' → β' i = some p → VRel β' v v' ∧ ORel P β' p ob ro

theorem arun_new {i0 : Nat} {v : Value} {ob : AObj} {t : TypeId} {i : TypeInfo} {z : Value} (hi : P.info? t = some i) (hz : i.zero = some z) (ho : o.op = .alloc t)
    (ha : allocC env i0 (.new z.cells.toList t i.size) = some (v, ob)) : AllocRun P β i0 v ob w ((execOp a.eval o).run P w) := by
  simp only [allocC] at ha
  split at ha <;> (try cases ha)
  rename_i hc
  refine ⟨⟨w.heap.size, 0, z.cells.size, i.size, true, false⟩, .cells z.cells t, .pointer (some ⟨w.heap.size, 0, none⟩), ?_, rfl, rfl, fun β' hle hb => ⟨.ptr 0 hb, new_any t i.size true (clo1s_rel β hc) _ β' hle⟩⟩
  unfold execOp; rw [ho]
  simp [Go.Instr.alloc, run_zero hi hz, newVar, newRow]

theorem arun_box (he : EnvRel β env a.tmps) {i0 : Nat} {v : Value} {ob : AObj} {t : TypeId} {n : Nat} {x : Operand} (ho : o.op = .box t x)
    (ha : allocC env i0 (.box t n x) = some (v, ob)) : AllocRun P β i0 v ob w ((execOp a.eval o).run P w) := by
  simp only [allocC] at ha
  split at ha <;> (try cases ha)
  rename_i u hu
  split at ha <;> (try cases ha)
  refine ⟨⟨w.heap.size, 0, _, n, true, false⟩, .cells (a.eval x).cells t, .pointer (some ⟨w.heap.size, 0, none⟩), ?_, rfl, rfl, fun β' hle hb => ⟨.ptr 0 hb, new_any t n true (cells_rel (opv_rel he hu)) _ β' hle⟩⟩
  unfold execOp; rw [ho]
  simp [Go.Instr.box, newVar, newRow]

theorem arun_buildSlice (he : EnvRel β env a.tmps) {i0 : Nat} {v : Value} {ob : AObj} {t e : TypeId} {n : Nat} {parts : Array (Nat × Operand)} {i : TypeInfo} {z : Value} (hi : P.info? e = some i)
    (hz : i.zero = some z) (hu : P.underlying t = some (.slice e)) (ho : o.op = .buildSlice t n parts)
    (ha : allocC env i0 (.buildSlice e i.size n z.cells.toList (parts.toList.map fun x => (x.1 * i.size, i.size, x.2))) = some (v, ob)) : AllocRun P β i0 v ob w ((execOp a.eval o).run P w) := by
  simp only [allocC] at ha
  split at ha <;> (try cases ha)
  rename_i vs hv
  split at ha <;> (try cases ha)
  rename_i hzc
  split at ha <;> (try cases ha)
  rename_i c hc
  split at ha <;> (try cases ha)
  obtain ⟨hz1, hz2, hz3⟩ := hzc
  obtain ⟨q1, q2⟩ := partsI_spec he i.size parts.toList vs hv
  have hmk := mkCells_rel β hz1 hz2
  obtain ⟨d', r1, r2⟩ := fill_snd (place := fun j => some (j * i.size, i.size)) vs _ _ c _ q1 q2 hmk hc
  refine ⟨⟨w.heap.size, 0, d'.size, i.size, true, false⟩, .cells d' e, .slice (some ⟨w.heap.size, 0, none⟩) n n, ?_, rfl, rfl,
    fun β' hle hb => ⟨.sl hb (Nat.le_refl _) (Nat.le_refl _) (.inr rfl) (fun _ => rfl) (fun e => by cases e), new_any e i.size true r2 _ β' hle⟩⟩
  unfold execOp; rw [ho]
  simp only [Go.Instr.buildSlice, Sem.run_bind, run_und hu, Result.andThen_ok, run_size hi]
  rw [if_neg (by omega)]
  have e2 : (parts.map fun x => (x.1, a.eval x.2)).toList = parts.toList.map fun x => (x.1, a.eval x.2) := by simp
  rw [← e2] at r1
  by_cases hh : n * i.size = 0
  · rw [if_pos hh]
    have e3 : (Array.range (n * i.size)).map (fun x => (#[] : Array Value)[x % (#[] : Array Value).size]!) = (Array.range (n * i.size)).map (fun x => z.cells[x % z.cells.size]!) := by simp [hh]
    simp only [Sem.run_bind, Sem.run_pure, Result.andThen_ok, e3, r1]
    simp [newRow]
  · rw [if_neg hh]
    simp only [Sem.run_bind, run_zero hi hz, Sem.run_pure, Result.andThen_ok, r1]
    simp [newRow]

theorem alloc_run (he : EnvRel β env a.tmps) {r : ROp} (hr : rop P o.type o.op = some r) (hl : isAlloc r = true) {i0 : Nat} {v : Value} {ob : AObj} (ha : allocC env i0 r = some (v, ob)) :
    AllocRun P β i0 v ob w ((execOp a.eval o).run P w) := by
  generalize hop : o.op = op at hr
  unfold rop at hr
  split at hr
  case h_4 =>
    obtain ⟨i, hi, hr⟩ := bind_some hr
    obtain ⟨z, hz, e0⟩ := map_some hr
    cases e0; exact arun_new hi hz hop ha
  case h_5 =>
    obtain ⟨i, hi, e0⟩ := map_some hr
    cases e0; exact arun_box he hop ha
  case h_7 =>
    split at hr <;> (try cases hr)
    rename_i e hu
    split at hr <;> (try cases hr)
    rename_i i hi
    obtain ⟨z, hz, e0⟩ := map_some hr
    cases e0; exact arun_buildSlice he hi hz hu hop ha
  all_goals exfalso
  all_goals
    first
      | (cases hr; cases hl; done)
      | (obtain ⟨_, _, e0⟩ := map_some hr; cases e0; cases hl; done)
      | (obtain ⟨n, _, e0⟩ := map_some hr; cases n <;> cases e0 <;> cases hl; done)
      | skip
  all_goals try unfold rcall at hr
  all_goals
    repeat' split at hr
  all_goals
    first
      | (cases hr; done)
      | (cases hr; cases hl; done)
      | (obtain ⟨_, _, e0⟩ := map_some hr; cases e0; cases hl; done)
      | (obtain ⟨_, _, h1⟩ := bind_some hr; split at h1 <;> cases h1; cases hl; done)
      | skip

theorem Rel.weaken {Fz Fz' : Fr} (h : Rel P Fz' w0 β H w) (h1 : ∀ r o, Fz.fz r = some o → Fz'.fz r = some o) (h2 : ∀ i, Fz.rz i → Fz'.rz i) : Rel P Fz w0 β H w := by
  refine ⟨h.dom, h.live, h.sep, fun r o hr => h.fz r o (h1 r o hr), fun i o p hi hp hr => ?_, fun i hi => h.rz i (h2 i hi), h.old, h.same⟩
  have := h.fzsep i o p hi hp hr
  cases hx : Fz.fz p.rb with
  | none => rfl
  | some o' => rw [h1 _ _ hx] at this; cases this

/-- A block is made for a number that was kept; it is held aside. -/
theorem Rel.push {Fz' : Fr} (h : Rel P Fz w0 β H w) {i : Nat} (hi : Fz.rz i) {p : Pl} {ro : Obj} (hp : p.rb = w.heap.size) (h1 : ∀ r o, Fz'.fz r = some o → Fz.fz r = some o ∨ (r = p.rb ∧ o = ro))
    (h2 : ∀ j, Fz'.rz j → Fz.rz j ∧ j ≠ i) : Rel P Fz' w0 (β.upd i p) H { w with heap := w.heap.push ro } := by
  obtain ⟨hi1, hi2⟩ := h.rz i hi
  have hle := Bt.le_upd p hi2
  have look : ∀ j oj q, H.get j = some oj → β.upd i p j = some q → β j = some q ∧ q.rb < w.heap.size := by
    intro j oj q hj hq
    obtain ⟨q', r, a1, a2, _⟩ := h.live j oj hj
    have hji : j ≠ i := fun e => by rw [e, hi2] at a1; cases a1
    unfold Bt.upd at hq; rw [if_neg hji] at hq
    rw [hq] at a1; cases a1
    exact ⟨hq, (Array.getElem?_eq_some_iff.1 a2).1⟩
  refine ⟨fun j q hq => ?_, fun j oj hj => ?_, fun j l oj ol q q' hjl hj hl hq hq' hr => ?_, fun r o hr => ?_, fun j oj q hj hq hr => ?_, fun j hj => ?_, fun j oj q hj hq hr => ?_, ?_⟩
  · unfold Bt.upd at hq; split at hq
    · omega
    · exact h.dom _ _ hq
  · obtain ⟨q, r, a1, a2, a3⟩ := h.live j oj hj
    refine ⟨q, r, hle _ _ a1, ?_, a3.mono hle⟩
    have hlt := (Array.getElem?_eq_some_iff.1 a2).1
    simp only [Array.getElem?_push]
    rw [if_neg (by omega)]; exact a2
  · exact h.sep j l oj ol q q' hjl hj hl (look j oj q hj hq).1 (look l ol q' hl hq').1 hr
  · rcases h1 r o hr with h3 | ⟨h3, h4⟩
    · have h5 := h.fz r o h3
      have hlt := (Array.getElem?_eq_some_iff.1 h5).1
      simp only [Array.getElem?_push]
      rw [if_neg (by omega)]; exact h5
    · subst h3; subst h4; simp only; rw [hp]; simp
  · obtain ⟨g1, g2⟩ := look j oj q hj hq
    have := h.fzsep j oj q hj g1 hr
    cases hx : Fz'.fz q.rb with
    | none => rfl
    | some o' =>
      rcases h1 _ _ hx with h3 | ⟨h3, _⟩
      · rw [h3] at this; cases this
      · omega
  · obtain ⟨h3, h4⟩ := h2 j hj
    obtain ⟨h5, h6⟩ := h.rz j h3
    exact ⟨h5, by unfold Bt.upd; rw [if_neg h4]; exact h6⟩
  · exact h.old j oj q hj (look j oj q hj hq).1 hr
  · exact ⟨h.same.os, h.same.tape, h.same.output, by have := h.same.size; simp; omega⟩

end

/-! ### Values that are one and the same -/

theorem ptrs_sound : ∀ {xs ys : List Value}, ptrs xs ys = true → xs = ys := by
  intro xs
  induction xs with
  | nil => intro ys h; cases ys with
    | nil => rfl
    | cons _ _ => simp [ptrs] at h
  | cons x xs ih =>
    intro ys h
    unfold ptrs at h
    split at h <;> (try cases h)
    · rename_i e2; cases e2
    · rename_i a l b m e1
      simp only [Bool.and_eq_true, beq_iff_eq] at h
      cases e1
      rw [h.1, ih h.2]
    · rename_i a l b m e1
      simp only [Bool.and_eq_true, beq_iff_eq] at h
      cases e1
      obtain ⟨⟨a⟩⟩ := a; obtain ⟨⟨b⟩⟩ := b
      have h1 := h.1
      simp only at h1
      rw [h1, ih h.2]
    · rename_i j a l k b m e1
      simp only [Bool.and_eq_true, beq_iff_eq] at h
      cases e1
      rw [h.1.1, h.1.2, ih h.2]
theorem veq1_sound {x y : Value} (h : veq1 x y = true) : x = y := by
  unfold veq1 at h
  split at h <;> try simp only [Bool.and_eq_true, beq_iff_eq] at h
  all_goals first
    | (cases h; done)
    | rfl
    | (subst h; rfl)
    | (obtain ⟨h1, h2⟩ := h; subst h1; subst h2; rfl)
    | (obtain ⟨⟨h1, h2⟩, h3⟩ := h; subst h1; subst h2; subst h3; rfl)
    | (obtain ⟨⟨h1, h2⟩, h3⟩ := h; subst h1; rw [ptrs_sound h2, ptrs_sound h3])
    | (rename_i s t; rw [Array.toList_inj] at h; obtain ⟨s⟩ := s; obtain ⟨t⟩ := t; simp only at h; rw [h])

theorem veqs_sound : ∀ {xs ys : List Value}, veqs xs ys = true → xs = ys
  | [], [], _ => rfl
  | [], _ :: _, h => by simp [veqs] at h
  | _ :: _, [], h => by simp [veqs] at h
  | a :: as, b :: bs, h => by
    simp only [veqs, Bool.and_eq_true] at h
    rw [veq1_sound h.1, veqs_sound h.2]

theorem veq_sound {x y : Value} (h : veq x y = true) : x = y := by
  unfold veq at h
  split at h
  · rename_i a b
    have := veqs_sound h
    rw [Array.toList_inj] at this
    rw [this]
  · exact veq1_sound h

end Go.E

namespace Go.E

def Ext (Fz Fz' : Fr) : Prop := (∀ r o, Fz.fz r = some o → Fz'.fz r = some o) ∧ ∀ i, Fz.rz i → Fz'.rz i
theorem Ext.refl (Fz : Fr) : Ext Fz Fz := ⟨fun _ _ h => h, fun _ h => h⟩

/-- A block that is made, and not yet laid in the logical heap. -/
def PendR (P : Program) (Fz : Fr) (w0 : World) (Fz' : Fr) (β : Bt) (x : Nat × Nat × AObj) : Prop :=
  ∃ (p : Pl) (ro : Obj), β x.2.1 = some p ∧ p.ro = false ∧ w0.heap.size ≤ p.rb ∧ Fz'.fz p.rb = some ro ∧ Fz.fz p.rb = none ∧ ORel P β p x.2.2 ro
def Apart (β : Bt) (x y : Nat × Nat × AObj) : Prop := x.1 ≠ y.1 ∧ ∀ p q, β x.2.1 = some p → β y.2.1 = some q → p.rb ≠ q.rb

theorem fills_snd {P : Program} {Fz : Fr} {w0 w : World} {β : Bt} : ∀ (L : List (Nat × Nat × AObj)) (Fz' : Fr) (H : AHeap), Rel P Fz' w0 β H w → Ext Fz Fz' → (∀ x ∈ L, PendR P Fz w0 Fz' β x) → L.Pairwise (Apart β) →
    ∃ Fz'', Rel P Fz'' w0 β (fills H L) w ∧ Ext Fz Fz'' ∧ (∀ i, Fz'.rz i → Fz''.rz i) ∧ ∀ r o, Fz'.fz r = some o → (∀ x ∈ L, ∀ p, β x.2.1 = some p → p.rb ≠ r) → Fz''.fz r = some o
  | [], Fz', H, h, he, _, _ => ⟨Fz', h, he, fun _ h => h, fun _ _ h _ => h⟩
  | x :: L, Fz', H, h, he, hx, hp => by
    obtain ⟨p, ro, b1, b2, b3, b4, b5, b6⟩ := hx x List.mem_cons_self
    obtain ⟨hp1, hp2⟩ := List.pairwise_cons.1 hp
    let Fz1 : Fr := ⟨fun r => if r = p.rb then none else Fz'.fz r, Fz'.rz⟩
    have hw : Rel P Fz1 w0 β H w := h.weaken (fun r o hr => by
      simp only [Fz1] at hr
      split at hr
      · cases hr
      · exact hr) (fun _ h => h)
    have hget : H.get x.2.1 = none := by
      cases hg : H.get x.2.1 with
      | none => rfl
      | some o => have := h.fzsep _ _ _ hg b1 b2; rw [b4] at this; cases this
    have hrb : w.heap[p.rb]? = some ro := h.fz _ _ b4
    have h2 : Rel P Fz1 w0 β (H.set x.2.1 x.2.2) w := by
      refine hw.fill hget (h.dom _ _ b1) b1 hrb b6 (fun j oj q hj hq e => ?_) (by simp [Fz1]) b2
      cases hqr : q.ro with
      | false => have := h.fzsep j oj q hj hq hqr; rw [← e, b4] at this; cases this
      | true => have := h.old j oj q hj hq hqr; omega
    have he1 : Ext Fz Fz1 := ⟨fun r o hr => by
      simp only [Fz1]
      rw [if_neg (fun e => by rw [e, b5] at hr; cases hr)]
      exact he.1 r o hr, he.2⟩
    obtain ⟨Fz2, g1, g2, g3, g4⟩ := fills_snd L Fz1 _ h2 he1 (fun y hy => by
      obtain ⟨q, r2, c1, c2, c3, c4, c5, c6⟩ := hx y (List.mem_cons_of_mem _ hy)
      exact ⟨q, r2, c1, c2, c3, by simp only [Fz1]; rw [if_neg (fun e => (hp1 y hy).2 p q b1 c1 e.symm)]; exact c4, c5, c6⟩) hp2
    refine ⟨Fz2, ?_, g2, g3, fun r o hr hn => ?_⟩
    · obtain ⟨xi, xid, xo⟩ := x
      exact g1
    · refine g4 r o ?_ fun y hy => hn y (List.mem_cons_of_mem _ hy)
      simp only [Fz1]
      rw [if_neg (fun e => hn x List.mem_cons_self p b1 e.symm)]
      exact hr

theorem watchOk_mem {H : AHeap} : ∀ {ws : List (Nat × ROp × Env × Value)}, watchOk H ws = true → ∀ j op env v, (j, op, env, v) ∈ ws → ∃ H1, aop env H op = some (.val v, H1)
  | [], _, j, op, env, v, h => by simp at h
  | (j', op', env', v') :: r, hw, j, op, env, v, h => by
    simp only [watchOk, Bool.and_eq_true] at hw
    rcases List.mem_cons.1 h with e | e
    · cases e
      have h1 := hw.1
      split at h1
      · rename_i u H1 hu
        rw [veq_sound h1]; exact ⟨H1, hu⟩
      · cases h1
    · exact watchOk_mem hw.2 j op env v e

def Dn (listed : Array Bool) (i : Nat) : Prop := listed.getD i false = true

/-- A light operation that the plan has behind it, and the machine not yet. -/
def Owed (rs : List ROper) (bef : List Nat) (r0 : Nat) (e0 : Env) (ds : DSt) (B : AHeap) (i : Nat) (o : ROper) : Prop :=
  ∃ v, (∀ t, o.dst = some t → t < ds.st.env.length → ds.st.env[t]? = some (some v)) ∧
    ((wanted (envAt rs (bf bef i) e0 ds.st.env) o = some false ∧ v = undef) ∨
     (wanted (envAt rs (bf bef i) e0 ds.st.env) o = some true ∧
      ((isPure o.op = true ∧ ∀ H, aop (envAt rs (bf bef i) e0 ds.st.env) H o.op = some (.val v, H)) ∨
       (isRead o.op = true ∧ aop (envAt rs (bf bef i) e0 ds.st.env) B o.op = some (.val v, B) ∧ ∃ e2, (i, o.op, e2, v) ∈ ds.watch ∧ Alike e2 (envAt rs (bf bef i) e0 ds.st.env) (opnds o.op)) ∨
       (isAlloc o.op = true ∧ ∃ ob, allocC (envAt rs (bf bef i) e0 ds.st.env) (r0 + i) o.op = some (v, ob)))))

/-- An entry of what is to be laid comes of an operation. -/
def PendOp (rs : List ROper) (bef : List Nat) (r0 : Nat) (e0 : Env) (ds : DSt) (x : Nat × Nat × AObj) : Prop :=
  ∃ o v, rs[x.1]? = some o ∧ isAlloc o.op = true ∧ wanted (envAt rs (bf bef x.1) e0 ds.st.env) o = some true ∧ allocC (envAt rs (bf bef x.1) e0 ds.st.env) (r0 + x.1) o.op = some (v, x.2.2)

structure Inv (P : Program) (T : Tab) (S : S3 Prop) (Fz : Fr) (w0 : World) (β0 : Bt) (ro : Option Nat) (k : RExit → St → AHeap → Prop) (rs : List ROper) (bef : List Nat) (r0 : Nat) (e0 : Env)
    (listed : Array Bool) (pl : List Nat) (ds : DSt) (B : AHeap) (C : Nat) (Fz' : Fr) (β : Bt) (a : Act) (w : World) : Prop where
  ev : evDraw T S rs bef r0 pl ds B k
  ck : chk rs bef rs.length (hvM rs) pl C = true
  size : listed.size = rs.length
  sub : ∀ i, Dn listed i → C.testBit i = true
  clo : ∀ i, Dn listed i → ∀ j, bf bef i j → Dn listed j
  cloC : ∀ i, C.testBit i = true → ∀ j, bf bef i j → C.testBit j = true
  heavy : ∀ i, C.testBit i = true → lightAt rs i = false → Dn listed i
  le : β0.le β
  ext : Ext Fz Fz'
  rel : Rel P Fz' w0 β B w
  rzs : ∀ i, i < rs.length → ¬ Dn listed i → Fz'.rz (r0 + i)
  pend : ∀ x ∈ ds.pend, x.2.1 = r0 + x.1 ∧ C.testBit x.1 = true ∧ PendOp rs bef r0 e0 ds x ∧ (Dn listed x.1 → PendR P Fz w0 Fz' β x)
  apart : ds.pend.Pairwise (Apart β)
  len : ds.st.env.length = e0.length
  env : envAt rs (fun j => C.testBit j = true) e0 ds.st.env = ds.st.env
  real : StRel β { ds.st with env := envAt rs (Dn listed) e0 ds.st.env } ro a
  owed : ∀ i o, rs[i]? = some o → C.testBit i = true → ¬ Dn listed i → Owed rs bef r0 e0 ds B i o

section
variable {P : Program} {T : Tab} {S : S3 Prop} {Fz : Fr} {w0 : World} {β0 : Bt} {ro : Option Nat} {k : RExit → St → AHeap → Prop} {rs : List ROper} {bef : List Nat} {r0 : Nat} {e0 : Env}
  {listed : Array Bool} {pl : List Nat} {ds : DSt} {B : AHeap} {C : Nat} {Fz' : Fr} {β : Bt} {a : Act} {w : World}

theorem or_bit' (C i j : Nat) : (C ||| 2 ^ i).testBit j = true ↔ C.testBit j = true ∨ j = i := by
  rw [or_bit, Bool.or_eq_true, decide_eq_true_eq]
  exact or_congr Iff.rfl ⟨fun h => h.symm, fun h => h.symm⟩

theorem dn_set {i j : Nat} (hi : i < listed.size) : Dn (listed.setIfInBounds i true) j ↔ Dn listed j ∨ j = i := by
  unfold Dn
  by_cases h : i = j
  · subst h; simp [Array.getD_eq_getD_getElem?, hi]
  · simp only [Array.getD_eq_getD_getElem?, Array.getElem?_setIfInBounds_ne h]
    constructor
    · exact .inl
    · rintro (h1 | h1)
      · exact h1
      · exact absurd h1.symm h

theorem light_kind {rs : List ROper} {i : Nat} {o : ROper} (ho : rs[i]? = some o) : lightAt rs i = (isPure o.op || isRead o.op || isAlloc o.op) := by
  simp [lightAt, ho, isLight]
theorem kind_pa {o : ROp} (h : isPure o = true) : isAlloc o = false := by cases o <;> first | rfl | cases h
theorem kind_ra {o : ROp} (h : isRead o = true) : isAlloc o = false := by cases o <;> first | rfl | cases h

/-- Owed and pending things are not touched by what the plan does next. -/
theorem owed_keep (hs : Slots rs bef) {ds ds' : DSt} {B B' : AHeap} (hl : ds.st.env.length = e0.length) {i g : Nat} {o og : ROper} (ho : rs[i]? = some o) (hg : rs[g]? = some og) (hne : i ≠ g) (hnb : ¬ bf bef i g) {v : Value}
    (hst : ds'.st = ds.st.put og.dst (some v)) (hw : ∀ e2 u, (i, o.op, e2, u) ∈ ds.watch → (i, o.op, e2, u) ∈ ds'.watch ∧ (B' = B ∨ ∃ H1, aop e2 B' o.op = some (.val u, H1)))
    (h : Owed rs bef r0 e0 ds B i o) : Owed rs bef r0 e0 ds' B' i o := by
  have hk : envAt rs (bf bef i) e0 ds'.st.env = envAt rs (bf bef i) e0 ds.st.env := by
    rw [hst]; exact envAt_keep hs hl hg hnb v
  obtain ⟨u, h1, h2⟩ := h
  refine ⟨u, fun t ht hlt => ?_, ?_⟩
  · rw [hst] at hlt ⊢
    simp only [St.put] at hlt ⊢
    rw [put_len] at hlt
    cases hd : og.dst with
    | none => exact h1 t ht hlt
    | some s =>
      simp only [Env.put, List.getElem?_set]
      rw [if_neg (fun e => hne (hs.one ⟨o, ho, ht⟩ ⟨og, hg, by rw [hd, e]⟩))]
      exact h1 t ht hlt
  · rw [hk]
    rcases h2 with h2 | ⟨h2, h3⟩
    · exact .inl h2
    · refine .inr ⟨h2, ?_⟩
      rcases h3 with h3 | ⟨h3, h4, e2, h5, h6⟩ | h3
      · exact .inl h3
      · obtain ⟨g1, g2⟩ := hw e2 u h5
        rcases g2 with g2 | ⟨H1, g2⟩
        · subst g2; exact .inr (.inl ⟨h3, h4, e2, g1, h6⟩)
        · rw [aop_alike h6] at g2
          have := read_any h3 g2
          subst this
          exact .inr (.inl ⟨h3, g2, e2, g1, h6⟩)
      · exact .inr (.inr h3)

theorem pendOp_keep (hs : Slots rs bef) {ds ds' : DSt} (hl : ds.st.env.length = e0.length) {g : Nat} {og : ROper} (hg : rs[g]? = some og) {x : Nat × Nat × AObj} (hnb : ¬ bf bef x.1 g) {v : Value}
    (hst : ds'.st = ds.st.put og.dst (some v)) (h : PendOp rs bef r0 e0 ds x) : PendOp rs bef r0 e0 ds' x := by
  have hk : envAt rs (bf bef x.1) e0 ds'.st.env = envAt rs (bf bef x.1) e0 ds.st.env := by
    rw [hst]; exact envAt_keep hs hl hg hnb v
  unfold PendOp
  rw [hk]; exact h

/-- **THE PLAN GOES ON BY A LIGHT OPERATION.** -/
theorem Inv.light (hs : Slots rs bef) (hlow : ∀ i, i < rs.length → ∀ j, bf bef i j → j < i) {i : Nat} {rest : List Nat} (h : Inv P T S Fz w0 β0 ro k rs bef r0 e0 listed (i :: rest) ds B C Fz' β a w) (hl : lightAt rs i = true) :
    ∃ ds', Inv P T S Fz w0 β0 ro k rs bef r0 e0 listed rest ds' B (C ||| 2 ^ i) Fz' β a w := by
  obtain ⟨k1, k2, k3, k4, k5⟩ := chk_cons h.ck
  have ho : rs[i]? = some rs[i] := List.getElem?_eq_getElem k1
  generalize rs[i] = o at ho
  have hnd : ¬ Dn listed i := fun e => by rw [h.sub i e] at k2; cases k2
  have hnc : ¬ C.testBit i = true := by rw [k2]; simp
  have hag : ∀ t ∈ names o, ds.st.env[t]? = (envAt rs (bf bef i) e0 ds.st.env)[t]? := fun t ht => by
    rw [← envAt_agree hs h.len ho h.cloC k3 hnc ht, h.env]
  obtain ⟨al, wa⟩ := alike_of_names hag
  have hkeep : ∀ j, C.testBit j = true → ¬ bf bef j i := fun j hj e => hnc (h.cloC j hj i e)
  have hself : ¬ bf bef i i := fun e => by have := hlow i k1 i e; omega
  have fin : ∀ (v : Value) (ds' : DSt), ds'.st = ds.st.put o.dst (some v) → (∀ x ∈ ds.watch, x ∈ ds'.watch) →
      (∀ x ∈ ds'.pend, x ∈ ds.pend ∨ (x.1 = i ∧ x.2.1 = r0 + i ∧ PendOp rs bef r0 e0 ds' x)) → ds'.pend.Pairwise (Apart β) → evDraw T S rs bef r0 rest ds' B k → Owed rs bef r0 e0 ds' B i o →
      Inv P T S Fz w0 β0 ro k rs bef r0 e0 listed rest ds' B (C ||| 2 ^ i) Fz' β a w := by
    intro v ds' hst hwat hpe hap hev how
    have hlen : ds'.st.env.length = e0.length := by rw [hst]; simp only [St.put, put_len]; exact h.len
    refine ⟨hev, k5, h.size, fun j hj => (or_bit' C i j).2 (.inl (h.sub j hj)), h.clo, fun j hj l hjl => ?_, fun j hj hjl => ?_, h.le, h.ext, h.rel, h.rzs, fun x hx => ?_, hap, hlen, ?_, ?_, fun j oj hoj hj hnj => ?_⟩
    · rw [or_bit'] at hj ⊢
      rcases hj with hj | hj
      · exact .inl (h.cloC j hj l hjl)
      · subst hj; exact .inl (k3 l hjl)
    · rcases (or_bit' C i j).1 hj with hj | hj
      · exact h.heavy j hj hjl
      · subst hj; rw [hl] at hjl; cases hjl
    · rcases hpe x hx with hx | ⟨h1, h2, h3⟩
      · obtain ⟨g1, g2, g3, g4⟩ := h.pend x hx
        exact ⟨g1, (or_bit' C i _).2 (.inl g2), pendOp_keep hs h.len ho (hkeep _ g2) hst g3, g4⟩
      · exact ⟨by rw [h2, h1], (or_bit' C i _).2 (.inr h1), h3, fun e => absurd (h1 ▸ e) hnd⟩
    · rw [hst]
      simp only [St.put]
      rw [envAt_congr (M' := fun j => C.testBit j = true ∨ j = i) (fun j _ => or_bit' C i j), envAt_put h.len ho, h.env]
    · have := h.real
      rw [hst]
      simp only [St.put]
      rw [envAt_keep hs h.len ho hnd]
      exact this
    · rcases (or_bit' C i j).1 hj with hj | hj
      · have hne : j ≠ i := fun e => hnc (e ▸ hj)
        exact owed_keep hs h.len hoj ho hne (hkeep j hj) hst (fun e2 u hm => ⟨hwat _ hm, .inl rfl⟩) (h.owed j oj hoj hj hnj)
      · subst hj
        rw [ho] at hoj; cases hoj; exact how
  have hslot : ∀ (v : Value) (t : Nat), o.dst = some t → t < (ds.st.put o.dst (some v)).env.length → (ds.st.put o.dst (some v)).env[t]? = some (some v) := by
    intro v t ht hlt
    simp only [St.put, ht, Env.put, List.getElem?_set] at hlt ⊢
    simp at hlt
    simp [hlt]
  have hk : ∀ v : Value, envAt rs (bf bef i) e0 (ds.st.put o.dst (some v)).env = envAt rs (bf bef i) e0 ds.st.env := fun v => envAt_keep hs h.len ho hself v
  have hev := h.ev
  have hkind := light_kind ho
  rw [hl] at hkind
  simp only [evDraw, ho] at hev
  split at hev
  · exact hev.elim
  · rename_i hw
    refine ⟨_, fin undef { ds with st := ds.st.put o.dst (some undef) } rfl (fun x hx => hx) (fun x hx => .inl hx) h.apart hev ⟨undef, hslot undef, .inl ⟨?_, rfl⟩⟩⟩
    rw [hk undef, ← wa]; exact hw
  · rename_i hw
    split at hev
    · rename_i hp
      split at hev <;> (try exact hev.elim)
      rename_i v H1 hv
      refine ⟨_, fin v { ds with st := ds.st.put o.dst (some v) } rfl (fun x hx => hx) (fun x hx => .inl hx) h.apart hev ⟨v, hslot v, .inr ⟨?_, .inl ⟨hp, ?_⟩⟩⟩⟩
      · rw [hk v, ← wa]; exact hw
      · rw [hk v]
        rw [aop_alike al] at hv
        obtain ⟨e1, _, e3⟩ := pure_any hp hv
        subst e1
        exact e3
    · rename_i hnp
      split at hev
      · rename_i hp
        split at hev <;> (try exact hev.elim)
        rename_i v H1 hv
        have e1 := read_any hp hv
        subst e1
        refine ⟨_, fin v { ds with st := ds.st.put o.dst (some v), watch := (i, o.op, ds.st.env, v) :: ds.watch } rfl (fun x hx => List.mem_cons_of_mem _ hx) (fun x hx => .inl hx) h.apart hev ⟨v, hslot v, .inr ⟨?_, .inr (.inl ⟨hp, ?_, ds.st.env, List.mem_cons_self, ?_⟩)⟩⟩⟩
        · rw [hk v, ← wa]; exact hw
        · rw [hk v, ← aop_alike al]; exact hv
        · rw [hk v]; exact al
      · rename_i hnr
        split at hev
        · rename_i hp
          split at hev <;> (try exact hev.elim)
          rename_i v ob hv
          have hopd : PendOp rs bef r0 e0 { ds with st := ds.st.put o.dst (some v), pend := ds.pend ++ [(i, r0 + i, ob)] } (i, r0 + i, ob) := by
            refine ⟨o, v, ho, hp, ?_, ?_⟩
            · simp only; rw [hk v, ← wa]; exact hw
            · simp only; rw [hk v, ← allocC_alike al]; exact hv
          refine ⟨_, fin v { ds with st := ds.st.put o.dst (some v), pend := ds.pend ++ [(i, r0 + i, ob)] } rfl (fun x hx => hx) (fun x hx => ?_) ?_ hev ⟨v, hslot v, .inr ⟨?_, .inr (.inr ⟨hp, ob, ?_⟩)⟩⟩⟩
          · rcases List.mem_append.1 hx with hx | hx
            · exact .inl hx
            · simp at hx; subst hx; exact .inr ⟨rfl, rfl, hopd⟩
          · refine List.pairwise_append.2 ⟨h.apart, by simp, fun x hx y hy => ?_⟩
            simp at hy; subst hy
            refine ⟨fun e => ?_, fun p q _ hq => ?_⟩
            · have := (h.pend x hx).2.1
              rw [e] at this; exact hnc this
            · have := (h.rel.rz _ (h.rzs i k1 hnd)).2
              rw [this] at hq; cases hq
          · rw [hk v, ← wa]; exact hw
          · rw [hk v, ← allocC_alike al]; exact hv
        · rename_i hna
          simp only [Bool.not_eq_true] at hnp hnr hna
          rw [hnp, hnr, hna] at hkind; cases hkind

end
end Go.E

namespace Go.E
section
variable {P : Program} {T : Tab} {S : S3 Prop} {Fz : Fr} {w0 : World} {β0 : Bt} {ro : Option Nat} {k : RExit → St → AHeap → Prop} {rs : List ROper} {bef : List Nat} {r0 : Nat} {e0 : Env}
  {listed : Array Bool} {pl : List Nat} {ds : DSt} {B : AHeap} {C : Nat} {Fz' : Fr} {β : Bt} {a : Act} {w : World}

theorem evOp_of {env : Env} {op : ROp} {H H1 : AHeap} {res : Res} {k : Res → AHeap → Prop} (hn : isOdd op = false) (ha : aop env H op = some (res, H1)) : evOp T env op H k = k res H1 := by
  unfold evOp
  split
  · simp [isOdd] at hn
  · simp [isOdd] at hn
  · rw [ha]
theorem kind_po {o : ROp} (h : isPure o = true) : isOdd o = false := by cases o <;> first | rfl | cases h
theorem kind_ro {o : ROp} (h : isRead o = true) : isOdd o = false := by cases o <;> first | rfl | cases h

/-- **THE MACHINE TAKES A LIGHT OPERATION that the plan has behind it.** -/
theorem Inv.realLight (hT : ∀ t name f, T.meth t name = some f → rmeth P t name = some f) (hC : CodeSnd P S) (hK : CallSnd P S) (hs : Slots rs bef) (hlow0 : ∀ j, Fz.rz j → j < r0) {ops : Array Oper} {oo : Oper} {i : Nat} {o : ROper}
    (h : Inv P T S Fz w0 β0 ro k rs bef r0 e0 listed pl ds B C Fz' β a w) (ho : rs[i]? = some o) (hr : roper P ops oo = some o) (hi : C.testBit i = true) (hnd : ¬ Dn listed i) (hb : ∀ j, bf bef i j → Dn listed j) {n : Nat}
    {Q : Exit → Act → World → Prop} :
    (if Region.wanted oo (yielded ops a.tmps) then oo.wpIn (FW ro) n P a w (fun a' w' => ∃ Fz2 β2, Inv P T S Fz w0 β0 ro k rs bef r0 e0 (listed.setIfInBounds i true) pl ds B C Fz2 β2 a' w') Q
      else (∀ f, oo.about P w a.eval = some f → (FW ro).fn f) ∧ ∃ Fz2 β2, Inv P T S Fz w0 β0 ro k rs bef r0 e0 (listed.setIfInBounds i true) pl ds B C Fz2 β2 (a.put oo.dst undef) w) := by
  have hlt : i < listed.size := by rw [h.size]; exact (List.getElem?_eq_some_iff.1 ho).1
  have hlt2 : i < rs.length := (List.getElem?_eq_some_iff.1 ho).1
  obtain ⟨hdst, hrop⟩ := roper_spec hr
  obtain ⟨v, hv, hw⟩ := h.owed i o ho hi hnd
  have hag : ∀ t ∈ names o, (envAt rs (Dn listed) e0 ds.st.env)[t]? = (envAt rs (bf bef i) e0 ds.st.env)[t]? := fun t ht => envAt_agree hs h.len ho h.clo hb hnd ht
  obtain ⟨al, wa⟩ := alike_of_names hag
  -- what is to be shown, once the operation has yielded
  have fin : ∀ (v' : Value) (β2 : Bt) (Fz2 : Fr) (w' : World), β.le β2 → VRel β2 v v' → Rel P Fz2 w0 β2 B w' → Ext Fz Fz2 → (∀ j, j ≠ i → Fz'.rz (r0 + j) → Fz2.rz (r0 + j)) → (∀ r o, Fz'.fz r = some o → Fz2.fz r = some o) →
      (∀ x ∈ ds.pend, x.1 = i → PendR P Fz w0 Fz2 β2 x) → ds.pend.Pairwise (Apart β2) →
      Inv P T S Fz w0 β0 ro k rs bef r0 e0 (listed.setIfInBounds i true) pl ds B C Fz2 β2 (a.put oo.dst v') w' := by
    intro v' β2 Fz2 w' hle hvr hrel hext hrz hfz hpi hap
    refine ⟨h.ev, h.ck, by simp [h.size], fun j hj => ?_, fun j hj l hl => ?_, h.cloC, fun j hj hl => (dn_set hlt).2 (.inl (h.heavy j hj hl)), Bt.le_trans h.le hle, hext, hrel, fun j hj hnj => ?_, fun x hx => ?_, hap, h.len, h.env, ?_, fun j oj hoj hj hnj => ?_⟩
    · rcases (dn_set hlt).1 hj with hj | hj
      · exact h.sub j hj
      · subst hj; exact hi
    · rcases (dn_set hlt).1 hj with hj | hj
      · exact (dn_set hlt).2 (.inl (h.clo j hj l hl))
      · subst hj; exact (dn_set hlt).2 (.inl (hb l hl))
    · rw [dn_set hlt] at hnj
      exact hrz j (fun e => hnj (.inr e)) (h.rzs j hj fun e => hnj (.inl e))
    · obtain ⟨g1, g2, g3, g4⟩ := h.pend x hx
      refine ⟨g1, g2, g3, fun hd => ?_⟩
      rcases (dn_set hlt).1 hd with hd | hd
      · obtain ⟨p, r, c1, c2, c3, c4, c5, c6⟩ := g4 hd
        exact ⟨p, r, hle _ _ c1, c2, c3, hfz _ _ c4, c5, c6.mono hle⟩
      · exact hpi x hx hd
    · have h1 : envAt rs (Dn (listed.setIfInBounds i true)) e0 ds.st.env = (envAt rs (Dn listed) e0 ds.st.env).put oo.dst (some v) := by
        rw [← hdst, ← envAt_in h.len ho hv]
        exact envAt_congr (fun j _ => dn_set hlt) _ _
      rw [h1]
      exact (h.real.mono hle).put oo.dst hvr
    · rw [dn_set hlt] at hnj
      exact h.owed j oj hoj hj fun e => hnj (.inl e)
  -- an operation that lays nothing
  have plain : (wanted (envAt rs (bf bef i) e0 ds.st.env) o = some true → isAlloc o.op = false) → evOper T S o { ds.st with env := envAt rs (Dn listed) e0 ds.st.env } B (fun u H' => u = v ∧ H' = B) (fun _ _ => False) →
      (if Region.wanted oo (yielded ops a.tmps) then oo.wpIn (FW ro) n P a w (fun a' w' => ∃ Fz2 β2, Inv P T S Fz w0 β0 ro k rs bef r0 e0 (listed.setIfInBounds i true) pl ds B C Fz2 β2 a' w') Q
      else (∀ f, oo.about P w a.eval = some f → (FW ro).fn f) ∧ ∃ Fz2 β2, Inv P T S Fz w0 β0 ro k rs bef r0 e0 (listed.setIfInBounds i true) pl ds B C Fz2 β2 (a.put oo.dst undef) w) := by
    intro hna hev
    have hpi : ∀ x ∈ ds.pend, x.1 ≠ i := fun x hx e => by
      obtain ⟨_, _, ⟨o2, v2, q1, q2, q3, q4⟩, _⟩ := h.pend x hx
      rw [e] at q1 q3
      rw [ho] at q1; cases q1
      rw [hna q3] at q2; cases q2
    refine oper_snd (K := fun a' w' => ∃ Fz2 β2, Inv P T S Fz w0 β0 ro k rs bef r0 e0 (listed.setIfInBounds i true) pl ds B C Fz2 β2 a' w') hT hC hK h.rel h.real hr hev ?_ (fun _ _ _ _ _ hf => hf.elim)
    rintro u v' H' β' w' ⟨rfl, rfl⟩ hle hvr hrel
    refine ⟨Fz', β', fin v' β' Fz' w' hle hvr hrel h.ext (fun _ _ h => h) (fun _ _ h => h) (fun x hx e => absurd e (hpi x hx)) ?_⟩
    refine List.Pairwise.imp_of_mem (fun {x y} hx hy hxy => ⟨hxy.1, fun p q hp hq => ?_⟩) h.apart
    have look : ∀ z ∈ ds.pend, ∀ p, β' z.2.1 = some p → β z.2.1 = some p := by
      intro z hz p hp
      obtain ⟨g1, g2, g3, g4⟩ := h.pend z hz
      by_cases hd : Dn listed z.1
      · obtain ⟨p2, r, c1, _⟩ := g4 hd
        have := hle _ _ c1
        rw [hp] at this; cases this; exact c1
      · have hzl : z.1 < rs.length := by obtain ⟨o2, _, q1, _⟩ := g3; exact (List.getElem?_eq_some_iff.1 q1).1
        have := (hrel.rz _ (h.rzs _ hzl hd)).2
        rw [← g1, hp] at this; cases this
    exact hxy.2 p q (look x hx p hp) (look y hy q hq)
  rcases hw with ⟨hw, hvu⟩ | ⟨hw, hw2⟩
  · refine plain (fun e => by rw [hw] at e; cases e) ?_
    unfold evOper
    simp only [wa, hw]
    exact ⟨hvu.symm, trivial⟩
  · have evo : ∀ H1, isOdd o.op = false → aop (envAt rs (bf bef i) e0 ds.st.env) B o.op = some (.val v, H1) → H1 = B → evOper T S o { ds.st with env := envAt rs (Dn listed) e0 ds.st.env } B (fun u H' => u = v ∧ H' = B) (fun _ _ => False) := by
      intro H1 hodd ha he
      subst he
      unfold evOper
      simp only [wa, hw]
      rw [evOp_of hodd (by rw [aop_alike al]; exact ha)]
      exact ⟨rfl, rfl⟩
    rcases hw2 with ⟨hp, ha⟩ | ⟨hp, ha, _⟩ | ⟨hp, ob, ha⟩
    · exact plain (fun _ => kind_pa hp) (evo B (kind_po hp) (ha B) rfl)
    · exact plain (fun _ => kind_ra hp) (evo B (kind_ro hp) ha rfl)
    · rw [if_pos (wanted_snd h.real.env hr (by rw [wa]; exact hw))]
      refine ⟨fun _ _ => trivial, ?_⟩
      have hndf : ∀ c, oo.op ≠ .defer c := by
        intro c e
        rw [e] at hrop
        simp [rop] at hrop
      rw [Oper.semAt_eq _ _ _ hndf]
      obtain ⟨p, rob, v', e1, e2, e3, e4⟩ := alloc_run (w := w) h.real.env hrop hp (i0 := r0 + i) (v := v) (ob := ob) (by rw [allocC_alike al]; exact ha)
      rw [e1]
      have hrz := h.rzs i hlt2 hnd
      obtain ⟨hz1, hz2⟩ := h.rel.rz _ hrz
      have hle := Bt.le_upd p hz2
      obtain ⟨v1, v2⟩ := e4 (β.upd (r0 + i) p) hle (Bt.upd_at _ _ _)
      let Fz2 : Fr := ⟨fun r => if r = p.rb then some rob else Fz'.fz r, fun j => Fz'.rz j ∧ (j ≠ r0 + i)⟩
      have hfree : ∀ r o, Fz'.fz r = some o → r < w.heap.size := fun r o hr => (Array.getElem?_eq_some_iff.1 (h.rel.fz r o hr)).1
      have hfz : ∀ r o, Fz'.fz r = some o → Fz2.fz r = some o := fun r o hr => by
        simp only [Fz2]
        rw [if_neg (fun e => by have := hfree r o hr; omega)]; exact hr
      have hrel : Rel P Fz2 w0 (β.upd (r0 + i) p) B { w with heap := w.heap.push rob } := h.rel.push hrz e2 (fun r o hr => by
        simp only [Fz2] at hr
        split at hr
        · cases hr; exact .inr ⟨‹_›, rfl⟩
        · exact .inl hr) (fun j hj => hj)
      have hother : ∀ x ∈ ds.pend, x.1 ≠ i → ∀ q, β.upd (r0 + i) p x.2.1 = some q → β x.2.1 = some q ∧ q.rb ≠ p.rb := by
        intro x hx hne q hq
        obtain ⟨g1, g2, g3, g4⟩ := h.pend x hx
        have h1 : β x.2.1 = some q := by
          unfold Bt.upd at hq; rw [if_neg (by omega)] at hq; exact hq
        refine ⟨h1, ?_⟩
        by_cases hd : Dn listed x.1
        · obtain ⟨q2, r, c1, c2, c3, c4, _⟩ := g4 hd
          rw [h1] at c1; cases c1
          have := hfree _ _ c4
          omega
        · have hzl : x.1 < rs.length := by obtain ⟨o2, _, q1, _⟩ := g3; exact (List.getElem?_eq_some_iff.1 q1).1
          have := (h.rel.rz _ (h.rzs _ hzl hd)).2
          rw [← g1, h1] at this; cases this
      refine ⟨Fz2, β.upd (r0 + i) p, fin v' _ Fz2 _ hle v1 hrel ⟨fun r o hr => hfz r o (h.ext.1 r o hr), fun j hj => ⟨h.ext.2 j hj, ?_⟩⟩ (fun j hj hz => ⟨hz, by omega⟩) hfz (fun x hx hxi => ?_) ?_⟩
      · have := hlow0 j hj; omega
      · obtain ⟨g1, g2, ⟨o2, u2, q1, q2, q3, q4⟩, g4⟩ := h.pend x hx
        rw [hxi] at q1 q3 q4
        rw [ho] at q1; cases q1
        rw [ha] at q4; cases q4
        refine ⟨p, rob, by rw [g1, hxi]; exact Bt.upd_at _ _ _, e3, by rw [e2]; exact h.rel.same.size, by simp [Fz2], ?_, v2⟩
        cases hx2 : Fz.fz p.rb with
        | none => rfl
        | some o3 => have := hfree _ _ (h.ext.1 _ _ hx2); omega
      · refine List.Pairwise.imp_of_mem (fun {x y} hx hy hxy => ⟨hxy.1, fun q q' hq hq' => ?_⟩) h.apart
        by_cases hxi : x.1 = i
        · have hyi : y.1 ≠ i := fun e => hxy.1 (hxi.trans e.symm)
          obtain ⟨_, c2⟩ := hother y hy hyi q' hq'
          have : β.upd (r0 + i) p x.2.1 = some p := by rw [(h.pend x hx).1, hxi]; exact Bt.upd_at _ _ _
          rw [hq] at this; cases this
          exact fun e => c2 e.symm
        · obtain ⟨c1, c2⟩ := hother x hx hxi q hq
          by_cases hyi : y.1 = i
          · have : β.upd (r0 + i) p y.2.1 = some p := by rw [(h.pend y hy).1, hyi]; exact Bt.upd_at _ _ _
            rw [hq'] at this; cases this
            exact c2
          · obtain ⟨c3, c4⟩ := hother y hy hyi q' hq'
            exact hxy.2 q q' c1 c3

end
end Go.E

namespace Go.E
section
variable {P : Program} {T : Tab} {S : S3 Prop} {Fz : Fr} {w0 : World} {β0 : Bt} {ro : Option Nat} {k : RExit → St → AHeap → Prop} {rs : List ROper} {bef : List Nat} {r0 : Nat} {e0 : Env}
  {listed : Array Bool} {pl : List Nat} {ds : DSt} {B : AHeap} {C : Nat} {Fz' : Fr} {β : Bt} {a : Act} {w : World}

theorem pw_mem {α : Type} {R : α → α → Prop} : ∀ {l : List α}, l.Pairwise R → ∀ x ∈ l, ∀ y ∈ l, x ≠ y → R x y ∨ R y x
  | [], _, x, hx, _, _, _ => by simp at hx
  | z :: l, h, x, hx, y, hy, hne => by
    obtain ⟨h1, h2⟩ := List.pairwise_cons.1 h
    rcases List.mem_cons.1 hx with e | hx2
    · rcases List.mem_cons.1 hy with f | hy2
      · exact absurd (e.trans f.symm) hne
      · subst e; exact .inl (h1 y hy2)
    · rcases List.mem_cons.1 hy with f | hy2
      · subst f; exact .inr (h1 x hx2)
      · exact pw_mem h2 x hx2 y hy2 hne

/-- **THE MACHINE TAKES THE OPERATION that is next in the plan.** -/
theorem Inv.realHeavy (hT : ∀ t name f, T.meth t name = some f → rmeth P t name = some f) (hC : CodeSnd P S) (hK : CallSnd P S) (hs : Slots rs bef) {oo : Oper} {i : Nat} {o : ROper} {rest : List Nat} {ops : Array Oper}
    (h : Inv P T S Fz w0 β0 ro k rs bef r0 e0 listed (i :: rest) ds B C Fz' β a w) (ho : rs[i]? = some o) (hr : roper P ops oo = some o) (hl : lightAt rs i = false) (hb : ∀ j, bf bef i j → Dn listed j) {n : Nat}
    {Q : Exit → Act → World → Prop} :
    (if Region.wanted oo (yielded ops a.tmps) then oo.wpIn (FW ro) n P a w (fun a' w' => ∃ ds2 B2 Fz2 β2, Inv P T S Fz w0 β0 ro k rs bef r0 e0 (listed.setIfInBounds i true) rest ds2 B2 (C ||| 2 ^ i) Fz2 β2 a' w') Q
      else (∀ f, oo.about P w a.eval = some f → (FW ro).fn f) ∧ ∃ ds2 B2 Fz2 β2, Inv P T S Fz w0 β0 ro k rs bef r0 e0 (listed.setIfInBounds i true) rest ds2 B2 (C ||| 2 ^ i) Fz2 β2 (a.put oo.dst undef) w) := by
  obtain ⟨k1, k2, k3, k4, k5⟩ := chk_cons h.ck
  have hlt : i < listed.size := by rw [h.size]; exact k1
  obtain ⟨hdst, hrop⟩ := roper_spec hr
  have hnc : ¬ C.testBit i = true := by rw [k2]; simp
  have hnd : ¬ Dn listed i := fun e => hnc (h.sub i e)
  have hag : ∀ t ∈ names o, ds.st.env[t]? = (envAt rs (Dn listed) e0 ds.st.env)[t]? := fun t ht => by
    rw [envAt_agree hs h.len ho h.clo hb hnd ht, ← envAt_agree hs h.len ho h.cloC k3 hnc ht, h.env]
  obtain ⟨al, wa⟩ := alike_of_names hag
  have hkeep : ∀ j, C.testBit j = true → ¬ bf bef j i := fun j hj e => hnc (h.cloC j hj i e)
  have fin : ∀ (v v' : Value) (ds' : DSt) (B' : AHeap) (β2 : Bt) (Fz2 : Fr) (w' : World), ds'.st = ds.st.put o.dst (some v) → evDraw T S rs bef r0 rest ds' B' k → β.le β2 → VRel β2 v v' → Rel P Fz2 w0 β2 B' w' → Ext Fz Fz2 →
      (∀ j, Fz'.rz j → Fz2.rz j) → ds'.pend.Sublist ds.pend → (∀ x ∈ ds'.pend, ∀ p r, β x.2.1 = some p → Fz'.fz p.rb = some r → Fz2.fz p.rb = some r) →
      (∀ x ∈ ds.watch, ¬ Dn listed x.1 → x ∈ ds'.watch ∧ (B' = B ∨ ∃ H1, aop x.2.2.1 B' x.2.1 = some (.val x.2.2.2, H1))) →
      Inv P T S Fz w0 β0 ro k rs bef r0 e0 (listed.setIfInBounds i true) rest ds' B' (C ||| 2 ^ i) Fz2 β2 (a.put oo.dst v') w' := by
    intro v v' ds' B' β2 Fz2 w' hst hev hle hvr hrel hext hrz hsub hfz hwat
    have hpd : ∀ x ∈ ds'.pend, x ∈ ds.pend := fun x hx => hsub.subset hx
    have hne : ∀ x ∈ ds'.pend, x.1 ≠ i := fun x hx e => hnc (e ▸ (h.pend x (hpd x hx)).2.1)
    have look : ∀ z ∈ ds'.pend, ∀ p, β2 z.2.1 = some p → β z.2.1 = some p := by
      intro z hz p hp
      obtain ⟨g1, g2, g3, g4⟩ := h.pend z (hpd z hz)
      by_cases hd : Dn listed z.1
      · obtain ⟨p2, r, c1, _⟩ := g4 hd
        have := hle _ _ c1
        rw [hp] at this; cases this; exact c1
      · have hzl : z.1 < rs.length := by obtain ⟨o2, _, q1, _⟩ := g3; exact (List.getElem?_eq_some_iff.1 q1).1
        have := (hrel.rz _ (hrz _ (h.rzs _ hzl hd))).2
        rw [← g1, hp] at this; cases this
    refine ⟨hev, k5, by simp [h.size], fun j hj => ?_, fun j hj l hjl => ?_, fun j hj l hjl => ?_, fun j hj hjl => ?_, Bt.le_trans h.le hle, hext, hrel, fun j hj hnj => ?_, fun x hx => ?_, ?_, ?_, ?_, ?_, fun j oj hoj hj hnj => ?_⟩
    · rw [or_bit']
      rcases (dn_set hlt).1 hj with hj | hj
      · exact .inl (h.sub j hj)
      · exact .inr hj
    · rcases (dn_set hlt).1 hj with hj | hj
      · exact (dn_set hlt).2 (.inl (h.clo j hj l hjl))
      · subst hj; exact (dn_set hlt).2 (.inl (hb l hjl))
    · rw [or_bit'] at hj ⊢
      rcases hj with hj | hj
      · exact .inl (h.cloC j hj l hjl)
      · subst hj; exact .inl (k3 l hjl)
    · rw [dn_set hlt]
      rcases (or_bit' C i j).1 hj with hj | hj
      · exact .inl (h.heavy j hj hjl)
      · exact .inr hj
    · rw [dn_set hlt] at hnj
      exact hrz _ (h.rzs j hj fun e => hnj (.inl e))
    · obtain ⟨g1, g2, g3, g4⟩ := h.pend x (hpd x hx)
      refine ⟨g1, (or_bit' C i _).2 (.inl g2), pendOp_keep hs h.len ho (hkeep _ g2) hst g3, fun hd => ?_⟩
      rcases (dn_set hlt).1 hd with hd | hd
      · obtain ⟨p, r, c1, c2, c3, c4, c5, c6⟩ := g4 hd
        exact ⟨p, r, hle _ _ c1, c2, c3, hfz x hx p r c1 c4, c5, c6.mono hle⟩
      · exact absurd hd (hne x hx)
    · refine List.Pairwise.imp_of_mem (fun {x y} hx hy hxy => ⟨hxy.1, fun p q hp hq => ?_⟩) (h.apart.sublist hsub)
      exact hxy.2 p q (look x hx p hp) (look y hy q hq)
    · rw [hst]; simp only [St.put, put_len]; exact h.len
    · rw [hst]
      simp only [St.put]
      rw [envAt_congr (M' := fun j => C.testBit j = true ∨ j = i) (fun j _ => or_bit' C i j), envAt_put h.len ho, h.env]
    · rw [hst]
      simp only [St.put]
      rw [envAt_congr (M' := fun j => Dn listed j ∨ j = i) (fun j _ => dn_set hlt), envAt_put h.len ho, hdst]
      exact (h.real.mono hle).put oo.dst hvr
    · rw [dn_set hlt] at hnj
      rcases (or_bit' C i j).1 hj with hj | hj
      · have hnej : j ≠ i := fun e => hnc (e ▸ hj)
        exact owed_keep hs h.len hoj ho hnej (hkeep j hj) hst (fun e2 u hm => hwat _ hm fun e => hnj (.inl e)) (h.owed j oj hoj hj fun e => hnj (.inl e))
      · exact absurd (.inr hj) hnj
  have hev := h.ev
  have hkind := light_kind ho
  rw [hl] at hkind
  simp only [evDraw, ho] at hev
  split at hev
  · exact hev.elim
  · rename_i hw
    have hw2 : Region.wanted oo (yielded ops a.tmps) = false := wanted_snd h.real.env hr (by rw [← wa]; exact hw)
    rw [if_neg (by rw [hw2]; simp)]
    exact ⟨fun _ _ => trivial, _, B, Fz', β, fin undef undef { ds with st := ds.st.put o.dst (some undef) } B β Fz' w rfl hev (Bt.le_refl β) (undef_rel β) h.rel h.ext (fun _ h => h) (List.Sublist.refl _) (fun _ _ _ _ _ h => h) (fun x hx _ => ⟨hx, .inl rfl⟩)⟩
  · rename_i hw
    split at hev
    · rename_i hp; rw [hp] at hkind; simp at hkind
    split at hev
    · rename_i hp; rw [hp] at hkind; simp at hkind
    split at hev
    · rename_i hp; rw [hp] at hkind; simp at hkind
    have hbd : ∀ j, (bef.getD i 0).testBit j = true → Dn listed j := hb
    obtain ⟨Fz1, f1, f2, f3, f4⟩ := fills_snd (ds.pend.filter fun x => (bef.getD i 0).testBit x.1) Fz' B h.rel h.ext (fun x hx => by
      obtain ⟨hx1, hx2⟩ := List.mem_filter.1 hx
      exact (h.pend x hx1).2.2.2 (hbd _ hx2)) (h.apart.sublist (List.filter_sublist))
    rw [evOper_alike (st' := { ds.st with env := envAt rs (Dn listed) e0 ds.st.env }) hag] at hev
    refine oper_snd (K := fun a' w' => ∃ ds2 B2 Fz2 β2, Inv P T S Fz w0 β0 ro k rs bef r0 e0 (listed.setIfInBounds i true) rest ds2 B2 (C ||| 2 ^ i) Fz2 β2 a' w') hT hC hK f1 h.real hr hev ?_ (fun _ _ _ _ _ hf => hf.elim)
    intro v v' H' β' w' hk hle hvr hrel
    split at hk
    · rename_i hwo
      refine ⟨_, H', Fz1, β', fin v v' _ H' β' Fz1 w' rfl hk hle hvr hrel f2 f3 (List.filter_sublist) (fun x hx p r hp hr2 => ?_) (fun x hx hnx => ?_)⟩
      · obtain ⟨hx1, hx2⟩ := List.mem_filter.1 hx
        refine f4 _ _ hr2 fun y hy q hq => ?_
        obtain ⟨hy1, hy2⟩ := List.mem_filter.1 hy
        have hap : Apart β x y ∨ Apart β y x := by
          have hxy : x ≠ y := fun e => by subst e; rw [hy2] at hx2; cases hx2
          exact pw_mem h.apart x hx1 y hy1 hxy
        rcases hap with hap | hap
        · exact fun e => hap.2 p q hp hq e.symm
        · exact hap.2 q p hq hp
      · have hm : x ∈ ds.watch.filter fun x => !(bef.getD i 0).testBit x.1 := by
          refine List.mem_filter.2 ⟨hx, ?_⟩
          cases hbx : (bef.getD i 0).testBit x.1 with
          | false => rfl
          | true => exact absurd (hbd _ hbx) hnx
        obtain ⟨x1, x2, x3, x4⟩ := x
        exact ⟨hm, .inr (watchOk_mem hwo x1 x2 x3 x4 hm)⟩
    · exact hk.elim

end
end Go.E

namespace Go.E

def cnt (f : Nat → Bool) : Nat → Nat
  | 0 => 0
  | n + 1 => cnt f n + if f n then 1 else 0
theorem cnt_le (f : Nat → Bool) : ∀ n, cnt f n ≤ n
  | 0 => Nat.le_refl 0
  | n + 1 => by have := cnt_le f n; simp only [cnt]; split <;> omega
theorem cnt_zero {f : Nat → Bool} : ∀ {n : Nat}, cnt f n = 0 → ∀ i, i < n → f i = false
  | 0, _, i, hi => by omega
  | n + 1, h, i, hi => by
    simp only [cnt] at h
    by_cases e : i = n
    · subst e
      cases hf : f i with
      | false => rfl
      | true => rw [hf] at h; simp at h
    · exact cnt_zero (n := n) (by omega) i (by omega)
theorem cnt_mono {f g : Nat → Bool} (h : ∀ j, g j = true → f j = true) : ∀ n, cnt g n ≤ cnt f n
  | 0 => Nat.le_refl 0
  | n + 1 => by
    have := cnt_mono h n
    simp only [cnt]
    by_cases hg : g n = true
    · rw [hg, h n hg]; omega
    · rw [if_neg hg]; omega
theorem cnt_lt {f g : Nat → Bool} (h : ∀ j, g j = true → f j = true) {i : Nat} (h1 : f i = true) (h2 : g i = false) : ∀ n, i < n → cnt g n + 1 ≤ cnt f n
  | 0, hi => by omega
  | n + 1, hi => by
    simp only [cnt]
    by_cases e : i = n
    · subst e
      have := cnt_mono h i
      rw [h1, h2]; simp; omega
    · have := cnt_lt h h1 h2 n (by omega)
      by_cases hg : g n = true
      · rw [hg, h n hg]; omega
      · rw [if_neg hg]; omega

section
variable {P : Program} {T : Tab} {S : S3 Prop} {Fz : Fr} {w0 : World} {β0 : Bt} {ro : Option Nat} {k : RExit → St → AHeap → Prop} {rs : List ROper} {bef : List Nat} {r0 : Nat} {e0 : Env}
  {Fz' : Fr} {a : Act} {w : World}

/-- The plan goes on as far as it may by light operations. -/
theorem Inv.sync (hs : Slots rs bef) (hlow : ∀ i, i < rs.length → ∀ j, bf bef i j → j < i) {listed : Array Bool} {B : AHeap} {β : Bt} : ∀ (pl : List Nat) (ds : DSt) (C : Nat),
    Inv P T S Fz w0 β0 ro k rs bef r0 e0 listed pl ds B C Fz' β a w → ∃ pl2 ds2 C2, Inv P T S Fz w0 β0 ro k rs bef r0 e0 listed pl2 ds2 B C2 Fz' β a w ∧ ∀ g rest, pl2 = g :: rest → lightAt rs g = false
  | [], ds, C, h => ⟨[], ds, C, h, fun g rest e => by cases e⟩
  | i :: rest, ds, C, h => by
    cases hl : lightAt rs i with
    | false => exact ⟨i :: rest, ds, C, h, fun g r e => by cases e; exact hl⟩
    | true =>
      obtain ⟨ds2, h2⟩ := h.light hs hlow hl
      exact Inv.sync hs hlow rest ds2 _ h2

theorem any_snd (hT : ∀ t name f, T.meth t name = some f → rmeth P t name = some f) (hC : CodeSnd P S) (hK : CallSnd P S) {ops : Array Oper} (hr : ropers P ops ops.toList = some rs) (hbef : bef = befs ops.toList [])
    (hs : Slots rs bef) (hlow : ∀ i, i < rs.length → ∀ j, bf bef i j → j < i) (hlow0 : ∀ j, Fz.rz j → j < r0) {n : Nat} : ∀ (fuel : Nat) (listed : Array Bool) (pl : List Nat) (ds : DSt) (B : AHeap) (C : Nat) (Fz' : Fr) (β : Bt) (a : Act) (w : World),
    Inv P T S Fz w0 β0 ro k rs bef r0 e0 listed pl ds B C Fz' β a w → cnt (fun i => !listed.getD i false) rs.length ≤ fuel → wpAnyIn (FW ro) n P .any ops (QOk P Fz w0 β0 ro k) fuel listed a w := by
  obtain ⟨e1, e2⟩ := ropers_spec ops _ rs hr
  have hlen : rs.length = ops.size := by rw [e1]; simp
  have fin : ∀ {listed : Array Bool} {pl : List Nat} {ds : DSt} {B : AHeap} {C : Nat} {Fz' : Fr} {β : Bt} {a : Act} {w : World}, Inv P T S Fz w0 β0 ro k rs bef r0 e0 listed pl ds B C Fz' β a w → (∀ i, i < rs.length → Dn listed i) →
      QOk P Fz w0 β0 ro k .normal a w := by
    intro listed pl ds B C Fz' β a w h hall
    have hpl : pl = [] := by
      cases pl with
      | nil => rfl
      | cons i rest =>
        obtain ⟨k1, k2, _⟩ := chk_cons h.ck
        rw [h.sub i (hall i k1)] at k2; cases k2
    subst hpl
    have hev := h.ev
    simp only [evDraw] at hev
    obtain ⟨Fz1, f1, f2, f3, f4⟩ := fills_snd ds.pend Fz' B h.rel h.ext (fun x hx => by
      obtain ⟨g1, g2, ⟨o2, _, q1, _⟩, g4⟩ := h.pend x hx
      exact g4 (hall _ (List.getElem?_eq_some_iff.1 q1).1)) h.apart
    refine ⟨.norm, ds.st, _, β, hev, h.le, f1.weaken f2.1 f2.2, ?_, trivial⟩
    have h1 : envAt rs (Dn listed) e0 ds.st.env = ds.st.env := by
      rw [envAt_congr (M' := fun j => C.testBit j = true) (fun j hj => ⟨h.sub j, fun _ => hall j hj⟩), h.env]
    have := h.real
    rw [h1] at this
    exact this
  have rdy : ∀ {listed : Array Bool}, listed.size = rs.length → Region.ready .any ops listed = [] → ∀ i, i < rs.length → Dn listed i := by
    intro listed hsz hnil i
    induction i using Nat.strongRecOn with
    | _ i ih =>
      intro hi
      refine Classical.byContradiction fun hn => ?_
      have ho : ops[i]? = some ops[i] := Array.getElem?_eq_getElem (by omega)
      have : i ∈ Region.ready .any ops listed := ready_iff.2 ⟨_, ho, ?_, fun e he hb => ?_⟩
      · rw [hnil] at this; simp at this
      · unfold Dn at hn
        rw [Array.getD_eq_getD_getElem?] at hn ⊢
        rw [Array.getElem?_eq_getElem (by omega)] at hn ⊢
        simpa using hn
      · have hlt := hlow i hi e.on (by rw [hbef]; exact bef_edge ho he hb)
        exact ih e.on hlt (by omega)
  intro fuel
  induction fuel with
  | zero =>
    intro listed pl ds B C Fz' β a w h hc
    have hall : ∀ i, i < rs.length → Dn listed i := fun i hi => by
      have := cnt_zero (Nat.le_zero.1 hc) i hi
      unfold Dn; simpa using this
    refine ⟨?_, fin h hall⟩
    apply List.eq_nil_iff_forall_not_mem.2
    intro i hi
    obtain ⟨o, h1, h2, _⟩ := ready_iff.1 hi
    have hi2 : i < rs.length := by rw [hlen]; exact (Array.getElem?_eq_some_iff.1 h1).1
    have := hall i hi2
    unfold Dn at this
    rw [Array.getD_eq_getD_getElem?, Array.getElem?_eq_getElem (by rw [h.size]; exact hi2)] at this h2
    simp at this h2
    rw [this] at h2; cases h2
  | succ fuel ih =>
    intro listed pl0 ds0 B C0 Fz' β a w h0 hc
    refine ⟨fun hnil => fin h0 (rdy h0.size hnil), fun i hi => ?_⟩
    obtain ⟨pl, ds, C, h, hsync⟩ := Inv.sync hs hlow pl0 ds0 C0 h0
    obtain ⟨oo, ho, hnl, hed⟩ := ready_iff.1 hi
    have hi2 : i < rs.length := by rw [hlen]; exact (Array.getElem?_eq_some_iff.1 ho).1
    have hlt : i < listed.size := by rw [h.size]; exact hi2
    have hro : rs[i]? = some rs[i] := List.getElem?_eq_getElem hi2
    generalize rs[i] = o at hro
    have hrr : roper P ops oo = some o := e2 i oo o (by simpa using ho) hro
    have hnd : ¬ Dn listed i := by
      unfold Dn
      rw [Array.getD_eq_getD_getElem?, Array.getElem?_eq_getElem hlt] at hnl ⊢
      simpa using hnl
    have hb : ∀ j, bf bef i j → Dn listed j := by
      intro j hj
      rw [hbef] at hj
      obtain ⟨e, he, hbd, hj⟩ := bef_sub ho hj
      rcases hj with hj | hj
      · subst hj; exact hed e he hbd
      · exact h.clo e.on (hed e he hbd) j (by rw [hbef]; exact hj)
    have hcn : cnt (fun j => !(listed.setIfInBounds i true).getD j false) rs.length ≤ fuel := by
      have := cnt_lt (f := fun j => !listed.getD j false) (g := fun j => !(listed.setIfInBounds i true).getD j false) (i := i) (fun j hj => ?_) ?_ ?_ rs.length hi2
      · omega
      · simp only [Bool.not_eq_true'] at hj ⊢
        cases hx : listed.getD j false with
        | false => rfl
        | true => have := (dn_set (j := j) hlt).2 (.inl hx); unfold Dn at this; rw [hj] at this; cases this
      · unfold Dn at hnd; simpa using hnd
      · have := (dn_set (j := i) hlt).2 (.inr rfl); unfold Dn at this; simpa using this
    by_cases hci : C.testBit i = true
    · refine wpOpIn_mono (K := fun a' w' => ∃ Fz2 β2, Inv P T S Fz w0 β0 ro k rs bef r0 e0 (listed.setIfInBounds i true) pl ds B C Fz2 β2 a' w') ?_ ?_
      · rintro a' w' ⟨Fz2, β2, h2⟩
        exact ih _ pl ds B C Fz2 β2 a' w' h2 hcn
      · unfold wpOpIn
        rw [ho]
        exact h.realLight hT hC hK hs hlow0 hro hrr hci hnd hb
    · have hmem := chk_mem h.ck i hi2 (by simpa using hci)
      cases pl with
      | nil => simp at hmem
      | cons g rest =>
        have hg := hsync g rest rfl
        obtain ⟨k1, k2, k3, k4, k5⟩ := chk_cons h.ck
        rcases k4 with k4 | ⟨k4, k6⟩
        · rw [hg] at k4; cases k4
        have hhv : lightAt rs i = false := by
          cases hl : lightAt rs i with
          | false => rfl
          | true =>
            rcases k6 i hi2 hl with h7 | ⟨g2, h7, h8, h9⟩
            · exact absurd h7 hci
            · rw [h.sub g2 (hb g2 h8)] at h9; cases h9
        have hig : i = g := by
          rcases List.mem_cons.1 hmem with h7 | h7
          · exact h7
          · have := chk_heavy k5 i h7 hhv g k1 hg ((or_bit' C g g).2 (.inr rfl))
            have := h.sub g (hb g this)
            rw [k2] at this; cases this
        subst hig
        refine wpOpIn_mono (K := fun a' w' => ∃ ds2 B2 Fz2 β2, Inv P T S Fz w0 β0 ro k rs bef r0 e0 (listed.setIfInBounds i true) rest ds2 B2 (C ||| 2 ^ i) Fz2 β2 a' w') ?_ ?_
        · rintro a' w' ⟨ds2, B2, Fz2, β2, h2⟩
          exact ih _ rest ds2 B2 _ Fz2 β2 a' w' h2 hcn
        · unfold wpOpIn
          rw [ho]
          exact h.realHeavy hT hC hK hs hro hrr hhv hb

/-- **A REGION THAT DRAWS ITS ORDER.** -/
theorem draw_snd (hT : ∀ t name f, T.meth t name = some f → rmeth P t name = some f) (hC : CodeSnd P S) (hK : CallSnd P S) : DrawSnd P T S := by
  intro Fz w0 β H w id ops rs st ro a k n bef plan hcode hrel hst hev
  simp only [rcode] at hcode
  split at hcode <;> (try cases hcode)
  rename_i rs' hr
  split at hcode <;> (try cases hcode)
  rename_i hplan
  simp only [Bool.and_eq_true] at hplan
  obtain ⟨hmix, hplan⟩ := hplan
  unfold planOk at hplan
  simp only [Bool.and_eq_true] at hplan
  obtain ⟨⟨hck, hsl⟩, hlo⟩ := hplan
  obtain ⟨e1, e2⟩ := ropers_spec ops _ rs hr
  have hlen : rs.length = ops.size := by rw [e1]; simp
  have hs := slotsOk_spec hsl
  have hlow : ∀ i, i < rs.length → ∀ j, bf (befs ops.toList []) i j → j < i := by
    intro i hi j hj
    have := (List.all_eq_true.1 hlo) i (by simpa using hi)
    simp only [decide_eq_true_eq] at this
    refine Classical.byContradiction fun hn => ?_
    unfold bf at hj
    rw [Nat.testBit_lt_two_pow (Nat.lt_of_lt_of_le this (Nat.pow_le_pow_right (by omega) (by omega)))] at hj
    cases hj
  refine wpIn_region_any hmix ?_
  have hd0 : ∀ i, ¬ Dn (Array.replicate ops.size false) i := fun i hi => by
    unfold Dn at hi
    rw [Array.getD_eq_getD_getElem?, Array.getElem?_replicate] at hi
    split at hi <;> simp at hi
  have henv : ∀ M : Nat → Prop, (∀ i, ¬ M i) → envAt rs M st.env st.env = st.env := fun M hM => by
    apply List.ext_getElem?
    intro t
    rw [envAt_get rfl, if_neg (fun ⟨j, h1, _⟩ => hM j h1)]
  refine any_snd (e0 := st.env) (r0 := H.next) hT hC hK hr rfl hs hlow (fun j hj => (hrel.rz j hj).1) ops.size (Array.replicate ops.size false) (planGo rs (befs ops.toList []) rs.length 0) ⟨st, [], []⟩ (H.reserve rs.length) 0 ⟨Fz.fz, fun i => Fz.rz i ∨ (H.next ≤ i ∧ i < H.next + rs.length)⟩ β a _ ?_ (by rw [← hlen]; exact cnt_le _ _)
  refine ⟨hev, hck, by simp [hlen], fun i hi => absurd hi (hd0 i), fun i hi => absurd hi (hd0 i), fun i hi => by simp at hi, fun i hi => by simp at hi, Bt.le_refl β, ⟨fun _ _ h => h, fun _ h => .inl h⟩, ?_, fun i hi _ => .inr ⟨by omega, by omega⟩, fun x hx => by simp at hx, List.Pairwise.nil, rfl, henv _ (fun i hi => by simp at hi), ?_, fun i o _ hi => by simp at hi⟩
  · have h1 := (hrel.reserve rs.length).drew (w.drawn + 1)
    refine ⟨h1.dom, h1.live, h1.sep, h1.fz, h1.fzsep, fun i hi => ?_, h1.old, h1.same⟩
    rcases hi with hi | hi
    · exact h1.rz i hi
    · refine ⟨by rw [AHeap.next_reserve]; omega, ?_⟩
      cases hx : β i with
      | none => rfl
      | some p => have := hrel.dom i p hx; omega
  · rw [henv _ hd0]; exact hst
end
end Go.E

namespace Go.E

/-- What holds of the one, holds of the other. -/
structure Tr (S : S3 Bool) (S' : S3 Prop) : Prop where
  code : ∀ (c : RCode) (st : St) (H : AHeap) (kb : RExit → St → AHeap → Bool) (kp : RExit → St → AHeap → Prop), S.code c st H kb = true → (∀ e st H, kb e st H = true → kp e st H) → S'.code c st H kp
  call : ∀ (f : FuncId) (args : List Value) (H : AHeap) (kb : CRes → AHeap → Bool) (kp : CRes → AHeap → Prop), S.call f args H kb = true → (∀ r H, kb r H = true → kp r H) → S'.call f args H kp

theorem bot_b : (Ver.bot : Bool) = false := rfl

theorem all_tr {n : Nat} {f : Nat → Bool} {g : Nat → Prop} (h : Ver.all n f = true) (hk : ∀ i, f i = true → g i) : Ver.all (R := Prop) n g := by
  intro i hi
  have : (List.range n).all f = true := h
  exact hk i ((List.all_eq_true.1 this) i (by simpa using hi))

theorem anext_tr {H : AHeap} {v : Option Value} {kb : Res → AHeap → Bool} {kp : Res → AHeap → Prop} (h : anext H v kb = true) (hk : ∀ r H, kb r H = true → kp r H) : anext H v kp := by
  unfold anext at h ⊢
  split at h <;> (try cases h)
  rename_i i
  split at h <;> (try cases h)
  · exact hk _ _ h
  · rename_i m since seen stepped hg
    split at h <;> (try cases h)
    rename_i es clock hg2
    split at h <;> (try cases h)
    rename_i hc
    try simp only [hg, hg2, hc]
    generalize mapLeft es since seen = lo at h ⊢
    obtain ⟨l, over⟩ := lo
    refine all_tr h fun c hcb => ?_
    simp only
    split at hcb
    · rename_i h1; rw [if_pos h1]; exact hk _ _ hcb
    · rename_i h1
      rw [if_neg h1]
      split at hcb
      · rename_i e he; rw [he]; exact hk _ _ hcb
      · cases hcb

variable {T : Tab} {S : S3 Bool} {S' : S3 Prop}

theorem evOp_tr {env : Env} {o : ROp} {H : AHeap} {kb : Res → AHeap → Bool} {kp : Res → AHeap → Prop} (h : evOp T env o H kb = true) (hk : ∀ r H, kb r H = true → kp r H) : evOp T env o H kp := by
  unfold evOp at h ⊢
  split at h
  · exact anext_tr h hk
  · split at h <;> (try cases h)
    rename_i h1 h2
    try simp only [h1, h2]
    split at h <;> (try cases h)
    rename_i h3
    try simp only [h3]
    exact hk _ _ h
  · split at h <;> (try cases h)
    rename_i h1
    try simp only [h1]
    exact hk _ _ h

theorem round_tr (hS : Tr S S') {l : Nat} {args : List Value} {H : AHeap} {kb : Value → AHeap → Bool} {kp : Value → AHeap → Prop} (h : roundS S l args H kb = true) (hk : ∀ r H, kb r H = true → kp r H) : roundS S' l args H kp := by
  unfold roundS at h ⊢
  split at h <;> (try cases h)
  rename_i h1
  try simp only [h1]
  split at h
  · cases h
  rename_i h2
  rw [if_neg h2]
  refine hS.code _ _ _ _ _ h fun e st1 H1 h => ?_
  split at h <;> (try cases h)
  rename_i h3
  try simp only [h3]
  refine hS.code _ _ _ _ _ h fun e st1 H1 h => ?_
  split at h <;> (try cases h)
  rename_i h4
  try simp only [h4]
  split at h
  · exact hk _ _ h
  · cases h
  · exact hk _ _ h

theorem oper_tr (hS : Tr S S') {o : ROper} {st : St} {H : AHeap} {kb kb2 : Value → AHeap → Bool} {kp kp2 : Value → AHeap → Prop} (h : evOper T S o st H kb kb2 = true) (hk : ∀ r H, kb r H = true → kp r H) (hk2 : ∀ r H, kb2 r H = true → kp2 r H) :
    evOper T S' o st H kp kp2 := by
  unfold evOper at h ⊢
  split at h
  · rename_i h1
    try simp only [h1]
    refine evOp_tr h fun r H h => ?_
    cases r with
    | val v => exact hk _ _ h
    | skip => exact hk _ _ h
    | pan v => exact hk2 _ _ h
    | enter f args =>
      refine hS.call _ _ _ _ _ h fun r H h => ?_
      cases r with
      | ret v => exact hk _ _ h
      | pan v => exact hk2 _ _ h
    | round l args => exact round_tr hS h hk
  · rename_i h1
    try simp only [h1]
    exact hk _ _ h
  · cases h

theorem ops_tr (hS : Tr S S') : ∀ {ops : List ROper} {st : St} {H : AHeap} {kb : RExit → St → AHeap → Bool} {kp : RExit → St → AHeap → Prop}, evOps T S ops st H kb = true → (∀ e st H, kb e st H = true → kp e st H) → evOps T S' ops st H kp
  | [], st, H, kb, kp, h, hk => hk _ _ _ h
  | o :: rest, st, H, kb, kp, h, hk => by
    simp only [evOps] at h ⊢
    exact oper_tr hS h (fun v H h => ops_tr hS h hk) (fun v H h => hk _ _ _ h)

theorem draw_tr (hS : Tr S S') {ops : List ROper} {bef : List Nat} {r0 : Nat} : ∀ {pl : List Nat} {ds : DSt} {H : AHeap} {kb : RExit → St → AHeap → Bool} {kp : RExit → St → AHeap → Prop}, evDraw T S ops bef r0 pl ds H kb = true → (∀ e st H, kb e st H = true → kp e st H) → evDraw T S' ops bef r0 pl ds H kp
  | [], ds, H, kb, kp, h, hk => hk _ _ _ h
  | i :: rest, ds, H, kb, kp, h, hk => by
    simp only [evDraw] at h ⊢
    split at h
    · cases h
    rename_i o ho
    try simp only []
    split at h
    · cases h
    · rename_i hw
      try simp only []
      exact draw_tr hS h hk
    · rename_i hw
      try simp only []
      split at h
      · rename_i h1
        rw [if_pos h1]
        split at h <;> (try cases h)
        exact draw_tr hS h hk
      · rename_i h1
        rw [if_neg h1]
        split at h
        · rename_i h2
          rw [if_pos h2]
          split at h <;> (try cases h)
          exact draw_tr hS h hk
        · rename_i h2
          rw [if_neg h2]
          split at h
          · rename_i h3
            rw [if_pos h3]
            split at h <;> (try cases h)
            exact draw_tr hS h hk
          · rename_i h3
            rw [if_neg h3]
            refine oper_tr hS h (fun v H' h => ?_) (fun _ _ h => by cases h)
            split at h
            · rename_i h4
              rw [if_pos h4]
              exact draw_tr hS h hk
            · cases h

theorem ret_tr {st : St} {H : AHeap} {rs : List RRes} {kb : CRes → AHeap → Bool} {kp : CRes → AHeap → Prop} (h : retS st H rs kb = true) (hk : ∀ r H, kb r H = true → kp r H) : retS st H rs kp := by
  unfold retS at h ⊢
  split at h <;> (try cases h)
  split at h <;> (try cases h)
  exact hk _ _ h

theorem jump_tr {pend : Option RExit} {kb : RExit → Bool} {kp : RExit → Prop} (h : jumpK pend kb = true) (hk : ∀ e, kb e = true → kp e) : jumpK pend kp := by
  unfold jumpK at h ⊢
  split at h
  · exact hk _ h
  · exact hk _ h
  · exact hk _ h
  · cases h

theorem code_tr (hS : Tr S S') {c : RCode} {st : St} {H : AHeap} {kb : RExit → St → AHeap → Bool} {kp : RExit → St → AHeap → Prop} (h : stepCode T S c st H kb = true) (hk : ∀ e st H, kb e st H = true → kp e st H) : stepCode T S' c st H kp := by
  cases c with
  | skip => exact hk _ _ _ h
  | region ops => exact ops_tr hS h hk
  | draw ops bef plan => exact draw_tr hS h hk
  | seq a b =>
    simp only [stepCode] at h ⊢
    refine hS.code _ _ _ _ _ h fun e st H h => ?_
    cases e <;> first | exact hS.code _ _ _ _ _ h hk | exact hk _ _ _ h
  | cond c a b =>
    simp only [stepCode] at h ⊢
    split at h <;> (try cases h)
    · exact hS.code _ _ _ _ _ h hk
    · exact hS.code _ _ _ _ _ h hk
  | block id a =>
    simp only [stepCode] at h ⊢
    refine hS.code _ _ _ _ _ h fun e st H h => ?_
    cases e with
    | exit j =>
      simp only at h ⊢
      split at h
      · rename_i h1; rw [if_pos h1]; exact hk _ _ _ h
      · rename_i h1; rw [if_neg h1]; exact hk _ _ _ h
    | _ => exact hk _ _ _ h
  | loop a =>
    simp only [stepCode] at h ⊢
    refine hS.code _ _ _ _ _ h fun e st H h => ?_
    cases e <;> first | exact hS.code _ _ _ _ _ h hk | exact hk _ _ _ h
  | rangeFunc f ps a b =>
    obtain ⟨env, marks, round⟩ := st
    simp only [stepCode] at h ⊢
    split at h <;> (try cases h)
    cases round with
    | none =>
      simp only at h ⊢
      refine hS.call _ _ _ _ _ h fun r H1 h => ?_
      cases r with
      | pan v => exact hk _ _ _ h
      | ret v =>
        simp only at h ⊢
        split at h <;> (try cases h)
        split at h
        · cases h
        · rename_i h2
          rw [if_neg h2]
          exact jump_tr h fun e h => hk _ _ _ h
    | some l0 =>
      simp only at h ⊢
      split at h <;> (try cases h)
      refine hS.call _ _ _ _ _ h fun r H1 h => ?_
      cases r with
      | pan v => exact hk _ _ _ h
      | ret v =>
        simp only at h ⊢
        split at h <;> (try cases h)
        split at h
        · cases h
        · rename_i h2
          rw [if_neg h2]
          exact jump_tr h fun e h => hk _ _ _ h
  | exit id => exact hk _ _ _ h
  | ret => exact hk _ _ _ h

theorem call_tr (hS : Tr S S') {f : FuncId} {args : List Value} {H : AHeap} {kb : CRes → AHeap → Bool} {kp : CRes → AHeap → Prop} (h : stepCall T S f args H kb = true) (hk : ∀ r H, kb r H = true → kp r H) : stepCall T S' f args H kp := by
  unfold stepCall at h ⊢
  split at h
  · split at h
    · rename_i h1
      rw [if_pos h1]
      refine hS.code _ _ _ _ _ h fun e st H h => ?_
      cases e with
      | norm => exact ret_tr h hk
      | ret => exact ret_tr h hk
      | pan v =>
        simp only at h ⊢
        split at h <;> (try cases h)
        exact hk _ _ h
      | exit id => cases h
    · cases h
  · split at h <;> (try cases h)
    exact hk _ _ h
  · cases h

/-- **WHAT THE COMPUTATION FINDS TRUE, IS TRUE.** -/
theorem ev_tr (T : Tab) : ∀ N, Tr (evN T N) (evN T N)
  | 0 => ⟨fun c st H kb kp h hk => (by cases h), fun f args H kb kp h hk => (by cases h)⟩
  | N + 1 => ⟨fun _ _ _ _ _ h hk => code_tr (ev_tr T N) h hk, fun _ _ _ _ _ h hk => call_tr (ev_tr T N) h hk⟩

end Go.E

namespace Go.E
open Go.ChangeShapes Go.WideShapes Go.ChangeAt Go.RowKit

/-- **THE WHOLE.** -/
theorem ev_sound {P : Program} {T : Tab} (hT : TabOk P T) (N : Nat) : CallSnd P (evN T N) :=
  (ev_snd hT (fun _ hC hK => draw_snd hT.meth hC hK) N).2.1

def heldAll (w : World) : Fr := ⟨fun r => w.heap[r]?, fun _ => False⟩
def noneB : Bt := fun _ => none

theorem Rel.start (P : Program) (w : World) : Rel P (heldAll w) w noneB AHeap.empty w := by
  have hg : ∀ i o, AHeap.empty.get i = some o → False := fun i o h => by have := AHeap.get_lt h; exact absurd this (Nat.not_lt_zero _)
  exact ⟨fun i p h => (by cases h), fun i o h => (hg i o h).elim, fun i j oi oj p q _ h => (hg i oi h).elim, fun r o h => h, fun i o p h => (hg i o h).elim, fun i h => False.elim h, fun i o p h => (hg i o h).elim,
    ⟨rfl, rfl, rfl, Nat.le_refl _⟩⟩

theorem Rel.below {P : Program} {w0 : World} {β : Bt} {H : AHeap} {w : World} (h : Rel P (heldAll w0) w0 β H w) : Below w0.heap.size w0 w :=
  ⟨h.same.os, h.same.tape, h.same.output, h.same.size, fun k hk => by
    have := h.fz k w0.heap[k] (by simp [heldAll, Array.getElem?_eq_getElem hk])
    rw [this, Array.getElem?_eq_getElem hk]⟩

theorem Rel.grow {P : Program} {Fz : Fr} {w0 : World} {β : Bt} {H : AHeap} {w w' : World} (h : Rel P Fz w0 β H w) (hb : Below w.heap.size w w') : Rel P Fz w0 β H w' := by
  have keep : ∀ r o, w.heap[r]? = some o → w'.heap[r]? = some o := fun r o hr => by rw [hb.block r (Array.getElem?_eq_some_iff.1 hr).1]; exact hr
  refine ⟨h.dom, fun i o hi => ?_, h.sep, fun r o hr => keep r o (h.fz r o hr), h.fzsep, h.rz, h.old, ⟨hb.os.trans h.same.os, hb.tape.trans h.same.tape, hb.output.trans h.same.output, Nat.le_trans h.same.size hb.size⟩⟩
  obtain ⟨p, ro, h1, h2, h3⟩ := h.live i o hi
  exact ⟨p, ro, h1, keep _ _ h2, h3⟩

/-- What a call with such arguments comes to: true; nothing that was there has turned. -/
def Tru (P : Program) (f : FuncId) (args : Array Value) (w : World) : Prop :=
  (callFunc f args).run P w = .ok (.enter f args) w ∧ ∀ n, CallsIn Fence.wide n P f args w fun e w' => e = .returned (.bool true) ∧ Below w.heap.size w w'

theorem Tru.calls {P : Program} {f : FuncId} {args : Array Value} {w : World} (h : Tru P f args w) : Calls P f args w fun e w' => e = .returned (.bool true) ∧ Below w.heap.size w w' := callsIn_wide.1 (h.2 0)

theorem tru_of_ev {P : Program} {T : Tab} (hT : TabOk P T) {w : World} {β : Bt} {H : AHeap} {f : FuncId} {args : List Value} {args' : Array Value} (N : Nat) (h : Rel P (heldAll w) w β H w) (hl : LRel β args args'.toList)
    (hk : (evN T N).call f args H fun r _ => r = .ret (.bool true)) : Tru P f args' w := by
  obtain ⟨h1, h2⟩ := ev_sound hT N (heldAll w) w β H w f args args' _ h hl hk
  refine ⟨h1, fun n => (h2 n).mono ?_⟩
  rintro e w' ⟨cr, H', β', rfl, _, hrel, hv⟩
  refine ⟨?_, hrel.below⟩
  cases e <;> simp only at hv <;> (try exact hv.elim)
  rw [hv.invBool]

def isTrue : CRes → AHeap → Bool := fun r _ => match r with | .ret (.bool b) => b | _ => false
theorem isTrue_spec {r : CRes} {H : AHeap} (h : isTrue r H = true) : r = .ret (.bool true) := by
  unfold isTrue at h
  split at h
  · rw [h]
  · cases h

/-- .. found by computing. -/
theorem tru_of_run {P : Program} {T : Tab} (hT : TabOk P T) {w : World} {β : Bt} {H : AHeap} {f : FuncId} {args : List Value} {args' : Array Value} (N : Nat) (h : Rel P (heldAll w) w β H w) (hl : LRel β args args'.toList)
    (hk : (evN (R := Bool) T N).call f args H isTrue = true) : Tru P f args' w :=
  tru_of_ev hT N h hl ((ev_tr T N).call _ _ _ _ _ hk fun _ _ h => isTrue_spec h)

/-- A call without arguments that comes to true, whatever the world: it is known from now on. -/
def trueP : List Value → AHeap → Option (CRes × AHeap) := fun args H => match args with | [] => some (.ret (.bool true), H) | _ => none
theorem prim_true {P : Program} {f : FuncId} (h : ∀ w, Tru P f #[] w) : PrimOk P f trueP := by
  intro Fz w0 β H w args args' r H' hrel hl hp
  unfold trueP at hp
  split at hp <;> cases hp
  have hargs : args' = #[] := by
    have := hl.1
    simp at this
    exact Array.size_eq_zero_iff.1 this.symm
  subst hargs
  obtain ⟨h1, h2⟩ := h w
  refine ⟨h1, fun n => (h2 n).mono ?_⟩
  rintro e w' ⟨rfl, hb⟩
  exact ⟨_, _, β, ⟨rfl, rfl⟩, Bt.le_refl β, hrel.grow hb, .bool true⟩

def Tab.knows (T : Tab) (f : FuncId) (p : List Value → AHeap → Option (CRes × AHeap)) : Tab := ⟨fun g => if g = f then some (.prim p) else T.fn g, T.meth⟩
theorem TabOk.knows {P : Program} {T : Tab} (hT : TabOk P T) {f : FuncId} {p : List Value → AHeap → Option (CRes × AHeap)} (hp : PrimOk P f p) : TabOk P (T.knows f p) := by
  refine ⟨hT.meth, fun g rf hg => ?_, fun g q hg => ?_⟩
  · simp only [Tab.knows] at hg
    split at hg
    · cases hg
    · exact hT.code g rf hg
  · simp only [Tab.knows] at hg
    split at hg
    · rename_i e; cases hg; rw [e]; exact hp
    · exact hT.prim g q hg

theorem tab_ok (P : Program) : TabOk P (tab P) := by
  refine ⟨fun t name f h => h, fun f rf h => ?_, fun f p h => ?_⟩
  · simp only [tab, Option.map_eq_some_iff] at h
    obtain ⟨x, h1, h2⟩ := h; cases h2; exact h1
  · simp only [tab, Option.map_eq_some_iff] at h
    obtain ⟨x, h1, h2⟩ := h; cases h2

/-! ### The row -/
section
variable {H : Type} {enc : TypeId × Value → H} {P : Program}

theorem below_trodAll (hl : laidOutB P = true) {W W' : World} (hb : Below W.heap.size W W') : ∀ {ts : List TypeId} {vs : List Value} {ds : List (DataW H)} {ps : List MemPlace}, (∀ t ∈ ts, P.readableRec t = true ∧ t < P.types.size) →
    DataW.TrodAll enc P W 0 (fun _ => true) true ts vs ds ps → (∀ x ∈ ps, x.block < W.heap.size) → DataW.TrodAll enc P W' 0 (fun b => decide (b < W.heap.size)) true ts vs ds ps
  | [], _, _, _, _, h, _ => by
    obtain ⟨rfl, rfl, rfl⟩ := trodAll_nil h
    exact rfl
  | t :: ts, _, _, _, hr, h, hlt => by
    obtain ⟨v, vs', d, ds', p, q, rfl, rfl, rfl, h1, h2⟩ := trodAll_cons h
    exact ⟨p, q, Below.trod hl (hr t (by simp)).1 (hr t (by simp)).2 h1 hb (fun x hx => hlt x (by simp [hx])), below_trodAll hl hb (fun t ht => hr t (by simp [ht])) h2 (fun x hx => hlt x (by simp [hx])), rfl⟩

theorem post_true {f : Func} {s : ChangeSpec} {W W' : World} {args : Array Value} {ds gs : List (DataW H)} {before : List MemPlace} (hl : laidOutB P = true) (hts : ∀ t ∈ f.params.toList, P.readableRec t = true ∧ t < P.types.size) (hv : s.vars = [])
    {tb : TypeId} (hrt : f.resultTypes = #[tb]) (htb : P.underlying tb = some .bool) (hW : DataW.Whole enc P f.params.toList s.vars false W args.toList ds gs before)
    (hres : (s.fn H (ds ++ gs)).results = [.lit (.bool true)]) (hargs : (s.fn H (ds ++ gs)).args = ds) (hvars : (s.fn H (ds ++ gs)).vars = []) (hb : Below W.heap.size W W') :
    s.post enc P f false true false false W args (.bool true) W' := by
  have hlt : ∀ x ∈ before, x.block < W.heap.size := fun x hx => by simpa using hW.lt x hx
  have hW0 := hW
  obtain ⟨p, q, hA, hV, hpq, hz, _⟩ := hW
  rw [hv] at hV
  obtain ⟨rfl, rfl⟩ := trodVars_none hV
  simp only [List.append_nil] at hpq
  subst hpq
  refine ⟨ds, [], before, [], before, [], hW0, ?_, ?_, ?_, hb.frame _, fun h => by cases h⟩
  · rw [hres, hrt]
    exact trodAll_mk1 (shut_bool htb true)
  · rw [hargs]
    exact below_trodAll hl hb hts hA hlt
  · rw [hvars, hv]
    exact rfl
end

end Go.E

namespace Go.E
variable {T : Tab}

/-! Rules for a walk through code whose values are not all known. -/
theorem call_code {n : Nat} {f : FuncId} {rf : RFunc} {args : List Value} {H : AHeap} {k : CRes → AHeap → Prop} (hf : T.fn f = some (.code rf)) (hl : args.length ≤ rf.ntmps)
    (h : (evN T n).code rf.body ⟨args.map some ++ List.replicate (rf.ntmps - args.length) (some undef), [], none⟩ H fun e st H => match e with
      | .norm | .ret => retS st H rf.results k
      | .pan v => match shutMarks H st.marks with
        | some H1 => k (.pan v) H1
        | none => Ver.bot
      | .exit _ => Ver.bot) : (evN T (n + 1)).call f args H k := by
  show stepCall T (evN T n) f args H k
  unfold stepCall
  rw [hf]
  simp only
  rw [if_pos hl]
  exact h
theorem call_prim {n : Nat} {f : FuncId} {p : List Value → AHeap → Option (CRes × AHeap)} {args : List Value} {H H' : AHeap} {r : CRes} {k : CRes → AHeap → Prop} (hf : T.fn f = some (.prim p)) (hp : p args H = some (r, H')) (h : k r H') :
    (evN T (n + 1)).call f args H k := by
  show stepCall T (evN T n) f args H k
  unfold stepCall
  rw [hf]
  simp only [hp]
  exact h
theorem code_seq {n : Nat} {a b : RCode} {st : St} {H : AHeap} {k : RExit → St → AHeap → Prop} (h : (evN T n).code a st H fun e st H => match e with | .norm => (evN T n).code b st H k | e => k e st H) : (evN T (n + 1)).code (.seq a b) st H k := h
theorem code_region {n : Nat} {ops : List ROper} {st : St} {H : AHeap} {k : RExit → St → AHeap → Prop} (h : evOps T (evN T n) ops st H k) : (evN T (n + 1)).code (.region ops) st H k := h
theorem code_ret {n : Nat} {st : St} {H : AHeap} {k : RExit → St → AHeap → Prop} (h : k .ret st H) : (evN T (n + 1)).code .ret st H k := h
theorem code_skip {n : Nat} {st : St} {H : AHeap} {k : RExit → St → AHeap → Prop} (h : k .norm st H) : (evN T (n + 1)).code .skip st H k := h
theorem code_then {n : Nat} {c : Operand} {a b : RCode} {st : St} {H : AHeap} {k : RExit → St → AHeap → Prop} (hc : opv st.env c = some (.bool true)) (h : (evN T n).code a st H k) : (evN T (n + 1)).code (.cond c a b) st H k := by
  change stepCode T (evN T n) (.cond c a b) st H k
  simp only [stepCode, hc]; exact h
theorem code_else {n : Nat} {c : Operand} {a b : RCode} {st : St} {H : AHeap} {k : RExit → St → AHeap → Prop} (hc : opv st.env c = some (.bool false)) (h : (evN T n).code b st H k) : (evN T (n + 1)).code (.cond c a b) st H k := by
  change stepCode T (evN T n) (.cond c a b) st H k
  simp only [stepCode, hc]; exact h
theorem ops_nil {S : S3 Prop} {st : St} {H : AHeap} {k : RExit → St → AHeap → Prop} (h : k .norm st H) : evOps T S [] st H k := h
theorem ops_val {S : S3 Prop} {o : ROper} {rest : List ROper} {st : St} {H H' : AHeap} {v : Value} {k : RExit → St → AHeap → Prop} (hw : wanted st.env o = some true) (hn : isOdd o.op = false) (ha : aop st.env H o.op = some (.val v, H'))
    (h : evOps T S rest (st.put o.dst (some v)) H' k) : evOps T S (o :: rest) st H k := by
  simp only [evOps, evOper, hw]
  rw [evOp_of hn ha]
  exact h
theorem ops_off {S : S3 Prop} {o : ROper} {rest : List ROper} {st : St} {H : AHeap} {k : RExit → St → AHeap → Prop} (hw : wanted st.env o = some false)
    (h : evOps T S rest (st.put o.dst (some undef)) H k) : evOps T S (o :: rest) st H k := by
  simp only [evOps, evOper, hw]
  exact h
theorem ops_call {S : S3 Prop} {o : ROper} {rest : List ROper} {st : St} {H : AHeap} {k : RExit → St → AHeap → Prop} {f : FuncId} {args : List Value} (hw : wanted st.env o = some true) (hn : isOdd o.op = false) (ha : aop st.env H o.op = some (.enter f args, H))
    (h : S.call f args H fun cr H' => match cr with
      | .ret v => evOps T S rest (st.put o.dst (some v)) H' k
      | .pan v => k (.pan v) st H') : evOps T S (o :: rest) st H k := by
  simp only [evOps, evOper, hw]
  rw [evOp_of hn ha]
  exact h
theorem ret_k {st : St} {H H1 : AHeap} {rs : List RRes} {vs : List Value} {k : CRes → AHeap → Prop} (h1 : shutMarks H st.marks = some H1) (h2 : resVs st.env H1 rs = some vs) (h : k (.ret (tupled vs)) H1) : retS st H rs k := by
  unfold retS
  rw [h1]; simp only [h2]; exact h
end Go.E

namespace Go.E
variable {T : Tab}
theorem code_block {n id : Nat} {a : RCode} {st : St} {H : AHeap} {k : RExit → St → AHeap → Prop} (h : (evN T n).code a st H fun e st H => match e with
    | .exit j => if j = id then k .norm st H else k (.exit j) st H
    | e => k e st H) : (evN T (n + 1)).code (.block id a) st H k := h
theorem code_loop {n : Nat} {a : RCode} {st : St} {H : AHeap} {k : RExit → St → AHeap → Prop} (h : (evN T n).code a st H fun e st H => match e with
    | .norm => (evN T n).code (.loop a) st H k
    | e => k e st H) : (evN T (n + 1)).code (.loop a) st H k := h
theorem code_exit {n id : Nat} {st : St} {H : AHeap} {k : RExit → St → AHeap → Prop} (h : k (.exit id) st H) : (evN T (n + 1)).code (.exit id) st H k := h
/-- A test whose outcome is not known. -/
theorem code_cond {n : Nat} {c : Operand} {a b : RCode} {st : St} {H : AHeap} {k : RExit → St → AHeap → Prop} {x : Bool} (hc : opv st.env c = some (.bool x)) (ht : x = true → (evN T n).code a st H k) (he : x = false → (evN T n).code b st H k) :
    (evN T (n + 1)).code (.cond c a b) st H k := by
  cases x with
  | true => exact code_then hc (ht rfl)
  | false => exact code_else hc (he rfl)
/-- An operation that yields nothing. -/
theorem ops_skip {S : S3 Prop} {o : ROper} {rest : List ROper} {st : St} {H H' : AHeap} {k : RExit → St → AHeap → Prop} (hw : wanted st.env o = some true) (hn : isOdd o.op = false) (ha : aop st.env H o.op = some (.skip, H'))
    (h : evOps T S rest (st.put o.dst (some undef)) H' k) : evOps T S (o :: rest) st H k := by
  simp only [evOps, evOper, hw]
  rw [evOp_of hn ha]
  exact h

theorem load_at {H : AHeap} {i off n : Nat} {c vs : List Value} {t : TypeId} {e : Nat} {ex r : Bool} (hg : H.get i = some (.cells c t e ex r)) (hp : piece c off n = some vs) : loadCells H (.pointer (some ⟨i, off, none⟩)) n = some vs := by
  simp only [loadCells, hg]; exact hp
theorem store_at {H : AHeap} {i off : Nat} {c c' vs : List Value} {t : TypeId} {e : Nat} {ex : Bool} (hg : H.get i = some (.cells c t e ex false)) (hv : vs.all isCell = true) (hp : overwrite c off vs = some c') :
    storeCells H (.pointer (some ⟨i, off, none⟩)) vs = some (H.set i (.cells c' t e ex false)) := by
  simp only [storeCells, hg, hv, if_true, hp]
theorem get_set_self {H : AHeap} {i : Nat} {o o' : AObj} (h : H.get i = some o) : (H.set i o').get i = some o' := by
  rw [AHeap.get_set, if_pos ⟨rfl, AHeap.get_lt h⟩]
theorem get_alloc_self (H : AHeap) (o : AObj) : (H.alloc o).get H.next = some o := by rw [AHeap.get_alloc, if_pos rfl]
theorem get_alloc_old {H : AHeap} {i : Nat} {o o' : AObj} (h : H.get i = some o) : (H.alloc o').get i = some o := by
  rw [AHeap.get_alloc, if_neg (by have := AHeap.get_lt h; omega)]; exact h
theorem get_set_old {H : AHeap} {i j : Nat} {o o' : AObj} (h : H.get j = some o) (hne : i ≠ j) : (H.set i o').get j = some o := by
  rw [AHeap.get_set, if_neg (fun e => hne e.1)]; exact h

/-! The same with the slots written out. -/
theorem val2 {S : S3 Prop} {o : ROper} {rest : List ROper} {env env' : Env} {m : List Nat} {r : Option Nat} {H H' : AHeap} {v : Value} {k : RExit → St → AHeap → Prop} (hw : wanted env o = some true) (hn : isOdd o.op = false) (ha : aop env H o.op = some (.val v, H'))
    (hs : Env.put env o.dst (some v) = env') (h : evOps T S rest ⟨env', m, r⟩ H' k) : evOps T S (o :: rest) ⟨env, m, r⟩ H k := by subst hs; exact ops_val hw hn ha h
theorem off2 {S : S3 Prop} {o : ROper} {rest : List ROper} {env env' : Env} {m : List Nat} {r : Option Nat} {H : AHeap} {k : RExit → St → AHeap → Prop} (hw : wanted env o = some false)
    (hs : Env.put env o.dst (some undef) = env') (h : evOps T S rest ⟨env', m, r⟩ H k) : evOps T S (o :: rest) ⟨env, m, r⟩ H k := by subst hs; exact ops_off hw h
theorem skip2 {S : S3 Prop} {o : ROper} {rest : List ROper} {env env' : Env} {m : List Nat} {r : Option Nat} {H H' : AHeap} {k : RExit → St → AHeap → Prop} (hw : wanted env o = some true) (hn : isOdd o.op = false) (ha : aop env H o.op = some (.skip, H'))
    (hs : Env.put env o.dst (some undef) = env') (h : evOps T S rest ⟨env', m, r⟩ H' k) : evOps T S (o :: rest) ⟨env, m, r⟩ H k := by subst hs; exact ops_skip hw hn ha h
/-- A call of which one answer is known. -/
theorem prim2 {n : Nat} {o : ROper} {rest : List ROper} {env env' : Env} {m : List Nat} {r : Option Nat} {H H' : AHeap} {v : Value} {f : FuncId} {args : List Value} {p : List Value → AHeap → Option (CRes × AHeap)} {k : RExit → St → AHeap → Prop}
    (hf : T.fn f = some (.prim p)) (hp : p args H = some (.ret v, H')) (hw : wanted env o = some true) (hn : isOdd o.op = false) (ha : aop env H o.op = some (.enter f args, H))
    (hs : Env.put env o.dst (some v) = env') (h : evOps T (evN T (n + 1)) rest ⟨env', m, r⟩ H' k) : evOps T (evN T (n + 1)) (o :: rest) ⟨env, m, r⟩ H k := by
  subst hs; exact ops_call hw hn ha (call_prim hf hp h)
theorem call2 {S : S3 Prop} {o : ROper} {rest : List ROper} {env : Env} {m : List Nat} {r : Option Nat} {H : AHeap} {k : RExit → St → AHeap → Prop} {f : FuncId} {args : List Value} (hw : wanted env o = some true) (hn : isOdd o.op = false) (ha : aop env H o.op = some (.enter f args, H))
    (h : S.call f args H fun cr H' => match cr with
      | .ret v => evOps T S rest ⟨Env.put env o.dst (some v), m, r⟩ H' k
      | .pan v => k (.pan v) ⟨env, m, r⟩ H') : evOps T S (o :: rest) ⟨env, m, r⟩ H k := ops_call hw hn ha h
theorem st2 {n : Nat} {c : RCode} {env env' : Env} {m : List Nat} {r : Option Nat} {H : AHeap} {k : RExit → St → AHeap → Prop} (hs : env = env') (h : (evN T n).code c ⟨env', m, r⟩ H k) : (evN T n).code c ⟨env, m, r⟩ H k := by subst hs; exact h
theorem ops_st2 {S : S3 Prop} {rest : List ROper} {env env' : Env} {m : List Nat} {r : Option Nat} {H : AHeap} {k : RExit → St → AHeap → Prop} (hs : env = env') (h : evOps T S rest ⟨env', m, r⟩ H k) : evOps T S rest ⟨env, m, r⟩ H k := by subst hs; exact h
theorem call_code2 {n : Nat} {f : FuncId} {rf : RFunc} {args : List Value} {env : Env} {H : AHeap} {k : CRes → AHeap → Prop} (hf : T.fn f = some (.code rf)) (hl : args.length ≤ rf.ntmps) (he : args.map some ++ List.replicate (rf.ntmps - args.length) (some undef) = env)
    (h : (evN T n).code rf.body ⟨env, [], none⟩ H fun e st H => match e with
      | .norm | .ret => retS st H rf.results k
      | .pan v => match shutMarks H st.marks with
        | some H1 => k (.pan v) H1
        | none => Ver.bot
      | .exit _ => Ver.bot) : (evN T (n + 1)).call f args H k := by subst he; exact call_code hf hl h

theorem load1_ok {env : Env} {H : AHeap} {x : Operand} {p v : Value} (hx : opv env x = some p) (h : loadCells H p 1 = some [v]) : aop env H (.load1 x) = some (.val v, H) := by
  simp only [aop, hx, Option.bind_some, h]
theorem loadN_ok {env : Env} {H : AHeap} {x : Operand} {p : Value} {n : Nat} {vs : List Value} (hx : opv env x = some p) (h : loadCells H p n = some vs) : aop env H (.loadN n x) = some (.val (.agg vs.toArray), H) := by
  simp only [aop, hx, Option.bind_some, h, Option.map_some]
theorem idx_ok {env : Env} {H : AHeap} {x i : Operand} {b off len cap j size : Nat} (hx : opv env x = some (.slice (some ⟨b, off, none⟩) len cap)) (hi : opv env i = some (.int .i64 (j : Nat))) (h : j < len) :
    aop env H (.idxS size x i) = some (.val (.pointer (some ⟨b, off + j * size, none⟩)), H) := by
  simp only [aop, hx, hi]
  rw [if_pos ⟨by omega, by omega⟩]
  simp only [Int.toNat_natCast]
theorem store_ok {env : Env} {H : AHeap} {a x : Operand} {b off n e : Nat} {c c' : List Value} {t : TypeId} {ex : Bool} {u : Value} (ha : opv env a = some (.pointer (some ⟨b, off, none⟩))) (hx : opv env x = some u) (hn : u.cells.size = n)
    (hg : H.get b = some (.cells c t e ex false)) (hv : u.cells.toList.all isCell = true) (hp : overwrite c off u.cells.toList = some c') : aop env H (.store n a x) = some (.skip, H.set b (.cells c' t e ex false)) := by
  simp only [aop, ha, hx, hn, if_true]
  rw [store_at hg hv hp]; rfl
theorem store_agg {env : Env} {H : AHeap} {a x : Operand} {b n e : Nat} {c vs : List Value} {t : TypeId} {ex : Bool} (ha : opv env a = some (.pointer (some ⟨b, 0, none⟩))) (hx : opv env x = some (.agg vs.toArray))
    (hg : H.get b = some (.cells c t e ex false)) (hn : vs.length = n) (hc : c.length = n) (hv : vs.all isCell = true) : aop env H (.store n a x) = some (.skip, H.set b (.cells vs t e ex false)) := by
  refine store_ok ha hx (by simpa [Value.cells] using hn) hg (by simpa [Value.cells] using hv) ?_
  have e1 : (Value.agg vs.toArray).cells.toList = vs := by simp [Value.cells]
  rw [e1]
  unfold overwrite
  rw [if_pos (by omega)]
  simp only [List.take_zero, List.nil_append, Nat.zero_add]
  rw [List.drop_eq_nil_of_le (by omega), List.append_nil]
/-- There is fuel for so many rounds. (Told so that no 'omega' looks into it.) -/
def Fu (c m F : Nat) : Prop := (m + 1) * 60 + c ≤ F
theorem Fu.one {c m F : Nat} (h : Fu c m F) : ∃ F', F = F' + 60 ∧ c ≤ F' := by
  unfold Fu at h
  rw [Nat.add_mul] at h
  generalize m * 60 = y at h
  exact ⟨F - 60, by omega, by omega⟩
theorem Fu.more {c m F : Nat} (h : Fu c (m + 1) F) : ∃ F', F = F' + 60 ∧ c ≤ F' ∧ ∀ d, Fu c m (F' + d) := by
  unfold Fu at h ⊢
  rw [Nat.add_mul (m + 1)] at h
  generalize (m + 1) * 60 = y at h ⊢
  exact ⟨F - 60, by omega, by omega, fun d => by omega⟩
theorem Fu.of {c m F : Nat} (k : Nat) (hk : m ≤ k) (h : (k + 1) * 60 + c ≤ F) : Fu c m F := by
  unfold Fu
  have := Nat.mul_le_mul_right 60 (Nat.succ_le_succ hk)
  exact Nat.le_trans (Nat.add_le_add_right this c) h
theorem wrap_succ60 : ∀ k : Nat, k ≤ 60 → IntKind.i64.wrap ((k : Int) + 1) = ((k + 1 : Nat) : Int) := by decide
end Go.E

namespace Go.E
section
variable {P : Program} {X : Type} {enc : TypeId × Value → X} {W : World}

def lay (P : Program) : List Field → Nat → Nat → Bool
  | [], o, n => o == n
  | f :: r, o, n => f.offset == o && lay P r (o + P.cellsOf f.type) n

/-- Types whose values lie flat: numbers, texts, slices and structs of them. -/
def flat (P : Program) : Nat → TypeId → Bool
  | 0, _ => false
  | m + 1, t => match P.underlying t with
    | some .bool | some (.int _) | some .string => true
    | some (.slice e) => flat P m e && decide (0 < P.cellsOf e)
    | some (.struct fs) => (fs.toList.all fun f => flat P m f.type) && lay P fs.toList 0 (P.cellsOf t)
    | _ => false

/-- How a reading lies in the logical heap. -/
def Rep (P : Program) (H : AHeap) : Nat → TypeId → List Value → DataW X → Prop
  | 0, _, _, _ => False
  | m + 1, t, cs, d => match P.underlying t with
    | some .bool => ∃ b, cs = [.bool b] ∧ d = .lit (.bool b)
    | some (.int k) => ∃ n, cs = [.int k n] ∧ d = .lit (.int k n) ∧ (Lit.int k n).wf = true
    | some .string => ∃ s, cs = [.string s] ∧ d = .lit (.string s.data.toList) ∧ s.size ≤ maxLen
    | some (.slice e) => (cs = [.slice none 0 0] ∧ d = .nil) ∨ (∃ i, cs = [.slice (some ⟨i, 0, some 0⟩) 0 0] ∧ d = .slice [] []) ∨
        ∃ (i len cap : Nat) (elems rest : List (DataW X)) (cjs : List (List Value)) (tt : TypeId) (ee : Nat), cs = [.slice (some ⟨i, 0, none⟩) len cap] ∧ d = .slice elems rest ∧ elems.length = len ∧ len ≤ cap ∧ cap ≤ maxLen ∧ cap ≠ 0 ∧
          H.get i = some (.cells cjs.flatten tt ee true true) ∧ cjs.length = len ∧ (∀ c ∈ cjs, c.length = P.cellsOf e) ∧ ∀ (j : Nat) (c : List Value) (x : DataW X), cjs[j]? = some c → elems[j]? = some x → Rep P H m e c x
    | some (.struct fs) => ∃ (ds : List (DataW X)) (cjs : List (List Value)), d = .agg ds ∧ cs = cjs.flatten ∧ ds.length = fs.size ∧ cjs.length = fs.size ∧ (∀ (j : Nat) (f : Field) (c : List Value), fs[j]? = some f → cjs[j]? = some c → c.length = P.cellsOf f.type) ∧
        ∀ (j : Nat) (f : Field) (c : List Value) (x : DataW X), fs[j]? = some f → cjs[j]? = some c → ds[j]? = some x → Rep P H m f.type c x
    | _ => False

def Grows (H H' : AHeap) : Prop := ∀ i o, H.get i = some o → H'.get i = some o
theorem Grows.refl (H : AHeap) : Grows H H := fun _ _ h => h
theorem Grows.trans {a b c : AHeap} (h : Grows a b) (k : Grows b c) : Grows a c := fun i o x => k i o (h i o x)

theorem Rep.mono {H H' : AHeap} (hg : Grows H H') : ∀ {m : Nat} {t : TypeId} {cs : List Value} {d : DataW X}, Rep P H m t cs d → Rep P H' m t cs d
  | 0, _, _, _, h => h.elim
  | m + 1, t, cs, d, h => by
    unfold Rep at h ⊢
    split at h
    · exact h
    · exact h
    · exact h
    · rcases h with h | h | ⟨i, len, cap, elems, rest, cjs, tt, ee, h1, h2, h3, h4, h5, h6, h7, h8, h9, h10⟩
      · exact .inl h
      · exact .inr (.inl h)
      · exact .inr (.inr ⟨i, len, cap, elems, rest, cjs, tt, ee, h1, h2, h3, h4, h5, h6, hg _ _ h7, h8, h9, fun j c x a b => (h10 j c x a b).mono hg⟩)
    · obtain ⟨ds, cjs, h1, h2, h3, h4, h5, h6⟩ := h
      exact ⟨ds, cjs, h1, h2, h3, h4, h5, fun j f c x a b e => (h6 j f c x a b e).mono hg⟩
    · exact h.elim

theorem flatten_get {s : Nat} (hs : 0 < s) : ∀ (l : List (List Value)), (∀ c ∈ l, c.length = s) → ∀ x, l.flatten[x]? = (l[x / s]?).bind (·[x % s]?)
  | [], _, x => by simp
  | c :: l, h, x => by
    have hc : c.length = s := h c (by simp)
    rw [List.flatten_cons]
    by_cases hx : x < s
    · rw [List.getElem?_append_left (by omega), Nat.div_eq_of_lt hx, Nat.mod_eq_of_lt hx]; rfl
    · rw [List.getElem?_append_right (by omega), hc, flatten_get hs l (fun c hc => h c (List.mem_cons_of_mem _ hc)) (x - s)]
      have e1 : x / s = (x - s) / s + 1 := by rw [Nat.div_eq_sub_div hs (by omega)]
      have e2 : x % s = (x - s) % s := Nat.mod_eq_sub_mod (by omega)
      rw [e1, e2]; rfl

theorem flatten_len {s : Nat} : ∀ (l : List (List Value)), (∀ c ∈ l, c.length = s) → l.flatten.length = l.length * s
  | [], _ => by simp
  | c :: l, h => by
    rw [List.flatten_cons, List.length_append, flatten_len l (fun c hc => h c (List.mem_cons_of_mem _ hc)), h c (by simp), List.length_cons, Nat.add_mul, Nat.one_mul, Nat.add_comm]

theorem lrel_flatten {β : Bt} : ∀ (l r : List (List Value)), l.length = r.length → (∀ (j : Nat) (a b : List Value), l[j]? = some a → r[j]? = some b → LRel β a b) → LRel β l.flatten r.flatten
  | [], [], _, _ => LRel.nil β
  | [], _ :: _, h, _ => by simp at h
  | _ :: _, [], h, _ => by simp at h
  | a :: l, b :: r, h, hr => by
    rw [List.flatten_cons, List.flatten_cons]
    exact (hr 0 a b rfl rfl).append (lrel_flatten l r (by simpa using h) fun j x y p q => hr (j + 1) x y (by simpa using p) (by simpa using q))

theorem lay_flatten {n : Nat} {cs : List Value} (hn : cs.length = n) : ∀ (fs : List Field) (o : Nat), o ≤ n → lay P fs o n = true → (fs.map fun f => (cs.drop f.offset).take (P.cellsOf f.type)).flatten = cs.drop o
  | [], o, _, h => by
    simp only [lay, beq_iff_eq] at h
    simp; omega
  | f :: fs, o, ho, h => by
    simp only [lay, Bool.and_eq_true, beq_iff_eq] at h
    obtain ⟨h1, h2⟩ := h
    by_cases hle : o + P.cellsOf f.type ≤ n
    · have := lay_flatten hn fs (o + P.cellsOf f.type) hle h2
      rw [List.map_cons, List.flatten_cons, this, h1, ← List.drop_drop, List.take_append_drop]
    · exfalso
      have key : ∀ (fs : List Field) (o : Nat), lay P fs o n = true → o ≤ n := by
        intro fs
        induction fs with
        | nil => intro o h; simp only [lay, beq_iff_eq] at h; omega
        | cons g fs ih => intro o h; simp only [lay, Bool.and_eq_true, beq_iff_eq] at h; have := ih _ h.2; omega
      exact hle (key fs _ h2)

theorem lay_le {n : Nat} : ∀ (fs : List Field) (o : Nat), lay P fs o n = true → o ≤ n
  | [], o, h => by simp only [lay, beq_iff_eq] at h; omega
  | g :: fs, o, h => by simp only [lay, Bool.and_eq_true, beq_iff_eq] at h; have := lay_le fs _ h.2; omega
theorem lay_in {n : Nat} : ∀ (fs : List Field) (o : Nat), lay P fs o n = true → ∀ f ∈ fs, f.offset + P.cellsOf f.type ≤ n
  | [], _, _, f, hf => by simp at hf
  | g :: fs, o, h, f, hf => by
    simp only [lay, Bool.and_eq_true, beq_iff_eq] at h
    rcases List.mem_cons.1 hf with e | hf
    · subst e; have := lay_le fs _ h.2; omega
    · exact lay_in fs _ h.2 f hf

/-- A block that is only read comes in. -/
theorem Rel.ro {β : Bt} {H : AHeap} (h : Rel P (heldAll W) W β H W) {p : Pl} {o : AObj} {ro : Obj} (hro : W.heap[p.rb]? = some ro) (hp : p.ro = true) (ho : ORel P (β.upd H.next p) p o ro) :
    Rel P (heldAll W) W (β.upd H.next p) (H.alloc o) W ∧ β.le (β.upd H.next p) ∧ Grows H (H.alloc o) ∧ (H.alloc o).get H.next = some o := by
  have hle := Bt.le_upd p h.nextNone
  have hlt : p.rb < W.heap.size := (Array.getElem?_eq_some_iff.1 hro).1
  have look : ∀ j oj q, (H.alloc o).get j = some oj → β.upd H.next p j = some q → (j = H.next ∧ oj = o ∧ q = p) ∨ (j ≠ H.next ∧ H.get j = some oj ∧ β j = some q) := by
    intro j oj q hj hq
    rw [AHeap.get_alloc] at hj
    unfold Bt.upd at hq
    split at hj
    · rename_i e; cases hj; rw [if_pos e] at hq; cases hq; exact .inl ⟨e, rfl, rfl⟩
    · rename_i e; rw [if_neg e] at hq; exact .inr ⟨e, hj, hq⟩
  have allro : ∀ j oj q, H.get j = some oj → β j = some q → q.ro = true := by
    intro j oj q hj hq
    cases hqr : q.ro with
    | true => rfl
    | false =>
      obtain ⟨q', r, a1, a2, _⟩ := h.live j oj hj
      rw [hq] at a1; cases a1
      have := h.fzsep j oj q hj hq hqr
      simp only [heldAll] at this
      rw [this] at a2; cases a2
  have allro2 : ∀ j oj q, (H.alloc o).get j = some oj → β.upd H.next p j = some q → q.ro = true := by
    intro j oj q hj hq
    rcases look j oj q hj hq with ⟨_, _, e⟩ | ⟨_, h1, h2⟩
    · rw [e]; exact hp
    · exact allro j oj q h1 h2
  refine ⟨⟨fun i q hq => ?_, fun i oi hi => ?_, fun i j oi oj q q' _ hi hj hq hq' hr => ?_, h.fz, fun i oi q hi hq hr => ?_, fun i hi => False.elim hi, fun i oi q hi hq hr => ?_, h.same⟩, hle, fun i oi hi => ?_, ?_⟩
  · rw [AHeap.next_alloc]
    unfold Bt.upd at hq; split at hq
    · omega
    · have := h.dom _ _ hq; omega
  · rw [AHeap.get_alloc] at hi
    split at hi
    · rename_i e; subst e; cases hi; exact ⟨p, ro, Bt.upd_at _ _ _, hro, ho⟩
    · obtain ⟨q, r, h1, h2, h3⟩ := h.live i oi hi
      exact ⟨q, r, hle _ _ h1, h2, h3.mono hle⟩
  · rw [allro2 i oi q hi hq] at hr; cases hr
  · rw [allro2 i oi q hi hq] at hr; cases hr
  · rcases look i oi q hi hq with ⟨_, _, e⟩ | ⟨_, h1, h2⟩
    · rw [e]; exact hlt
    · exact h.old i oi q h1 h2 hr
  · rw [AHeap.get_alloc, if_neg (by have := AHeap.get_lt hi; omega)]; exact hi
  · rw [AHeap.get_alloc, if_pos rfl]

theorem in_list {m : Nat} (one : ∀ (t : TypeId) (n : Nat) (cs : List Value) (d : DataW X) (ps : List MemPlace), flat P m t = true → DataW.trod enc P W 0 (fun _ => true) true n t cs = some (d, ps) →
      ∀ (β : Bt) (H : AHeap), Rel P (heldAll W) W β H W → ∃ β' H' cs', β.le β' ∧ Grows H H' ∧ Rel P (heldAll W) W β' H' W ∧ LRel β' cs' cs ∧ Rep P H' m t cs' d) :
    ∀ (l : List (TypeId × List Value × DataW X)), (∀ x ∈ l, flat P m x.1 = true ∧ ∃ n ps, DataW.trod enc P W 0 (fun _ => true) true n x.1 x.2.1 = some (x.2.2, ps)) →
      ∀ (β : Bt) (H : AHeap), Rel P (heldAll W) W β H W → ∃ (β' : Bt) (H' : AHeap) (cjs : List (List Value)), β.le β' ∧ Grows H H' ∧ Rel P (heldAll W) W β' H' W ∧ cjs.length = l.length ∧
        ∀ (j : Nat) (x : TypeId × List Value × DataW X) (c : List Value), l[j]? = some x → cjs[j]? = some c → LRel β' c x.2.1 ∧ Rep P H' m x.1 c x.2.2
  | [], _, β, H, h => ⟨β, H, [], Bt.le_refl β, Grows.refl H, h, rfl, fun j x c a => by simp at a⟩
  | x :: l, hx, β, H, h => by
    obtain ⟨hf, n, ps, ht⟩ := hx x (by simp)
    obtain ⟨β1, H1, c1, a1, a2, a3, a4, a5⟩ := one _ _ _ _ _ hf ht β H h
    obtain ⟨β2, H2, cjs, b1, b2, b3, b4, b5⟩ := in_list one l (fun y hy => hx y (List.mem_cons_of_mem _ hy)) β1 H1 a3
    refine ⟨β2, H2, c1 :: cjs, Bt.le_trans a1 b1, a2.trans b2, b3, by simp [b4], fun j y c hj hc => ?_⟩
    cases j with
    | zero => simp at hj hc; subst hj; subst hc; exact ⟨a4.mono b1, a5.mono b2⟩
    | succ j => simp at hj hc; exact b5 j y c hj hc

theorem in_one : ∀ (m : Nat) (t : TypeId) (n : Nat) (cs : List Value) (d : DataW X) (ps : List MemPlace), flat P m t = true → DataW.trod enc P W 0 (fun _ => true) true n t cs = some (d, ps) →
    ∀ (β : Bt) (H : AHeap), Rel P (heldAll W) W β H W → ∃ β' H' cs', β.le β' ∧ Grows H H' ∧ Rel P (heldAll W) W β' H' W ∧ LRel β' cs' cs ∧ Rep P H' m t cs' d
  | 0, _, _, _, _, _, hf, _ => by simp [flat] at hf
  | _ + 1, _, 0, _, _, _, _, ht => by simp [DataW.trod] at ht
  | m + 1, t, n + 1, cs, d, ps, hf, ht => by
    intro β H h
    simp only [flat] at hf
    split at hf
    · rename_i hu
      simp only [DataW.trod, hu] at ht
      split at ht <;> (try cases ht)
      all_goals (try (rename_i hx; cases hx; done))
      rename_i b _
      exact ⟨β, H, [.bool b], Bt.le_refl β, Grows.refl H, h, LRel.cons (.bool b) (LRel.nil β), by simp [Rep, hu]⟩
    · rename_i k hu
      simp only [DataW.trod, hu] at ht
      split at ht <;> (try cases ht)
      all_goals (try (rename_i hx; cases hx; done))
      rename_i hx
      split at ht <;> (try cases ht)
      rename_i hk
      obtain ⟨rfl, hk⟩ := hk
      cases hx
      exact ⟨β, H, _, Bt.le_refl β, Grows.refl H, h, LRel.cons (.int _ _) (LRel.nil β), by simp [Rep, hu, hk]⟩
    · rename_i hu
      simp only [DataW.trod, hu] at ht
      split at ht <;> (try cases ht)
      all_goals (try (rename_i hx; cases hx; done))
      split at ht <;> (try cases ht)
      rename_i hk
      exact ⟨β, H, _, Bt.le_refl β, Grows.refl H, h, LRel.cons (.string _) (LRel.nil β), by simp [Rep, hu, hk]⟩
    · rename_i e hu
      simp only [Bool.and_eq_true, decide_eq_true_eq] at hf
      obtain ⟨hf, hs⟩ := hf
      simp only [DataW.trod, hu] at ht
      split at ht <;> (try cases ht)
      all_goals (try (rename_i hx; cases hx; done))
      · exact ⟨β, H, [.slice none 0 0], Bt.le_refl β, Grows.refl H, h, LRel.cons .slN (LRel.nil β), by simp [Rep, hu]⟩
      · rename_i e2 a len cap hx
        cases hx
        split at ht <;> (try cases ht)
        rename_i hc
        obtain ⟨_, hlc, hcm⟩ := hc
        obtain ⟨elems, hel, ht⟩ := bind_some ht
        obtain ⟨rest, hre, e0⟩ := map_some ht
        rw [if_pos trivial] at hre
        cases e0
        have hl1 := mapM_some_length hel
        have hl2 := mapM_some_length hre
        simp only [List.length_range] at hl1 hl2
        by_cases hc0 : cap = 0
        · subst hc0
          have : len = 0 := by omega
          subst this
          have e1 : elems = [] := List.length_eq_zero_iff.1 hl1
          have e2 : rest = [] := List.length_eq_zero_iff.1 (by omega)
          subst e1; subst e2
          exact ⟨β, H, [.slice (some ⟨0, 0, some 0⟩) 0 0], Bt.le_refl β, Grows.refl H, h, LRel.cons (.slE 0 0 a) (LRel.nil β), by simp [Rep, hu]⟩
        -- each element's cells
        have cell : ∀ j, j < cap → ∃ csj, W.cells? 0 (a.add (j * P.cellsOf e)) (P.cellsOf e) = some csj := by
          intro j hj
          by_cases hjl : j < len
          · have := mapM_some_get hel j j (by simp [hjl])
            rw [List.getElem?_eq_getElem (by omega)] at this
            obtain ⟨csj, h1, _⟩ := bind_some this
            exact ⟨csj, h1⟩
          · have := mapM_some_get hre (j - len) (j - len) (List.getElem?_range (by omega))
            rw [List.getElem?_eq_getElem (by omega)] at this
            obtain ⟨csj, h1, _⟩ := bind_some this
            rw [show len + (j - len) = j by omega] at h1
            exact ⟨csj, h1⟩
        obtain ⟨ab, ao, asp⟩ := a
        have blk : asp = none ∧ ∃ rc tt fr, W.heap[ab]? = some (.cells rc tt fr) := by
          obtain ⟨cs0, h0⟩ := cell 0 (by omega)
          obtain ⟨_, h2, h3⟩ := World.cells?_some h0
          have h4 := h3 0 hs
          rw [List.getElem?_eq_getElem (by omega)] at h4
          simp only [Nat.zero_mul, Addr.add, if_true] at h4
          unfold World.cell? at h4
          simp only at h4
          split at h4 <;> (try cases h4)
          rename_i rc tt fr hh
          refine ⟨?_, rc, tt, fr, hh⟩
          cases asp with
          | none => rfl
          | some x => simp at h4
        obtain ⟨rfl, rc, tt, fr, hh⟩ := blk
        have cellat : ∀ x, W.cell? ⟨ab, ao + x, none⟩ = rc[ao + x]? := by
          intro x; unfold World.cell?; simp [hh]
        have addp : ∀ x : Nat, (⟨ab, ao, none⟩ : Addr).add x = ⟨ab, ao + x, none⟩ := by
          intro x; unfold Addr.add; split
          · rename_i h0; subst h0; rfl
          · rfl
        have addp2 : ∀ x y : Nat, (⟨ab, ao + x, none⟩ : Addr).add y = ⟨ab, ao + (x + y), none⟩ := by
          intro x y; unfold Addr.add; split
          · rename_i h0; subst h0; rfl
          · simp [Nat.add_assoc]
        have csat : ∀ j csj, W.cells? 0 ((⟨ab, ao, none⟩ : Addr).add (j * P.cellsOf e)) (P.cellsOf e) = some csj → csj.length = P.cellsOf e ∧ ∀ y, y < P.cellsOf e → csj[y]? = rc[ao + (j * P.cellsOf e + y)]? := by
          intro j csj hj
          obtain ⟨_, h2, h3⟩ := World.cells?_some hj
          refine ⟨h2, fun y hy => ?_⟩
          have := h3 y hy
          rw [addp, addp2, cellat] at this
          exact this.symm
        have hbnd : ao + len * P.cellsOf e ≤ rc.size := by
          obtain ⟨csj, h1⟩ := cell (cap - 1) (by omega)
          obtain ⟨h2, h3⟩ := csat _ _ h1
          have h4 := h3 (P.cellsOf e - 1) (by omega)
          rw [List.getElem?_eq_getElem (by omega)] at h4
          have h5 := (Array.getElem?_eq_some_iff.1 h4.symm).1
          have h6 : len * P.cellsOf e ≤ cap * P.cellsOf e := Nat.mul_le_mul_right _ hlc
          have h7 : cap * P.cellsOf e = (cap - 1) * P.cellsOf e + P.cellsOf e := by
            conv => lhs; rw [show cap = (cap - 1) + 1 by omega]
            rw [Nat.add_mul, Nat.one_mul]
          omega
        let l : List (TypeId × List Value × DataW X) := ((List.range len).zip elems).map fun p => (e, (W.cells? 0 ((⟨ab, ao, none⟩ : Addr).add (p.1 * P.cellsOf e)) (P.cellsOf e)).getD [], p.2.1)
        have hll : l.length = len := by simp [l, hl1]
        have lat : ∀ (j : Nat) (x : TypeId × List Value × DataW X), l[j]? = some x → ∃ (y : DataW X × List MemPlace) (csj : List Value), elems[j]? = some y ∧ j < len ∧ x = (e, csj, y.1) ∧ W.cells? 0 ((⟨ab, ao, none⟩ : Addr).add (j * P.cellsOf e)) (P.cellsOf e) = some csj ∧ DataW.trod enc P W 0 (fun _ => true) true n e csj = some y := by
          intro j x hj
          simp only [l, List.getElem?_map] at hj
          obtain ⟨q, hq, e3⟩ := map_some hj
          obtain ⟨q1, q2⟩ := q
          rw [List.getElem?_zip_eq_some] at hq
          obtain ⟨hq1, hq2⟩ := hq
          obtain ⟨hjl, hq1⟩ := List.getElem?_eq_some_iff.1 hq1
          simp at hjl hq1
          subst hq1
          have := mapM_some_get hel j j (by simp [hjl])
          rw [hq2] at this
          obtain ⟨csj, h1, h2⟩ := bind_some this
          refine ⟨q2, csj, hq2, hjl, ?_, h1, h2⟩
          rw [← e3]; simp only [h1, Option.getD_some]
        obtain ⟨β1, H1, cjs, a1, a2, a3, a4, a5⟩ := in_list (in_one m) l (fun x hx => by
          obtain ⟨j, hj⟩ := List.getElem?_of_mem hx
          obtain ⟨y, csj, _, _, rfl, _, h2⟩ := lat j x hj
          exact ⟨hf, n, y.2, h2⟩) β H h
        have hcl : ∀ c ∈ cjs, c.length = P.cellsOf e := by
          intro c hc
          obtain ⟨j, hj⟩ := List.getElem?_of_mem hc
          have hjl : j < l.length := by rw [← a4]; exact (List.getElem?_eq_some_iff.1 hj).1
          obtain ⟨y, csj, _, _, e4, h1, _⟩ := lat j l[j] (List.getElem?_eq_getElem hjl)
          have := (a5 j l[j] c (List.getElem?_eq_getElem hjl) hj).1.1
          rw [e4] at this
          rw [this]; exact (csat j csj h1).1
        have hfl : cjs.flatten.length = len * P.cellsOf e := by rw [flatten_len cjs hcl, a4, hll]
        have pt : ∀ (x : Nat) (v v' : Value), cjs.flatten[x]? = some v → rc[ao + x]? = some v' → VRel (β1.upd H1.next ⟨ab, ao, rc.size, P.cellsOf e, true, true⟩) v v' := by
          intro x v v' hx hv
          rw [flatten_get hs cjs hcl] at hx
          obtain ⟨c, hc, hcx⟩ := bind_some hx
          have hjl : x / P.cellsOf e < l.length := by rw [← a4]; exact (List.getElem?_eq_some_iff.1 hc).1
          obtain ⟨y, csj, _, _, e4, h1, _⟩ := lat _ _ (List.getElem?_eq_getElem hjl)
          have hl := (a5 _ _ c (List.getElem?_eq_getElem hjl) hc).1
          rw [e4] at hl
          have hm : x % P.cellsOf e < P.cellsOf e := Nat.mod_lt _ hs
          have h2 := (csat _ _ h1).2 _ hm
          rw [Nat.mul_comm, Nat.div_add_mod] at h2
          exact (hl.2 _ v v' hcx (by rw [h2]; exact hv)).mono (Bt.le_upd _ a3.nextNone)
        obtain ⟨b1, b2, b3, b4⟩ := a3.ro (p := ⟨ab, ao, rc.size, P.cellsOf e, true, true⟩) (o := .cells cjs.flatten tt (P.cellsOf e) true true) hh rfl
          ⟨rc, fr, rfl, rfl, rfl, rfl, rfl, (by show ao + cjs.flatten.length ≤ rc.size; omega), pt, fun e => by cases e⟩
        refine ⟨_, _, [.slice (some ⟨H1.next, 0, none⟩) len cap], Bt.le_trans a1 b2, a2.trans b3, b1, LRel.cons (.sl (Bt.upd_at _ _ _) hlc (Nat.le_refl _) (.inr rfl) (fun _ => rfl) (fun e => by cases e)) (LRel.nil _), ?_⟩
        unfold Rep
        rw [hu]
        refine .inr (.inr ⟨H1.next, len, cap, _, _, cjs, tt, P.cellsOf e, rfl, rfl, by simp [hl1], hlc, hcm, hc0, b4, by rw [a4, hll], hcl, fun j c x hj hx => ?_⟩)
        have hjl : j < l.length := by rw [← a4]; exact (List.getElem?_eq_some_iff.1 hj).1
        obtain ⟨y, csj, h1, _, e4, _, _⟩ := lat j l[j] (List.getElem?_eq_getElem hjl)
        have := (a5 j l[j] c (List.getElem?_eq_getElem hjl) hj).2
        rw [e4] at this
        rw [List.getElem?_map, h1] at hx
        cases hx
        exact this.mono b3
    · rename_i fs hu
      simp only [Bool.and_eq_true] at hf
      obtain ⟨hf, hlay⟩ := hf
      simp only [DataW.trod, hu] at ht
      split at ht <;> (try cases ht)
      all_goals (try (rename_i hx; cases hx; done))
      rename_i hlen
      obtain ⟨xs, hxs, e0⟩ := map_some ht
      cases e0
      have hl1 := mapM_some_length hxs
      let l : List (TypeId × List Value × DataW X) := (fs.toList.zip xs).map fun p => (p.1.type, (cs.drop p.1.offset).take (P.cellsOf p.1.type), p.2.1)
      have hll : l.length = fs.size := by simp [l, hl1]
      have lat : ∀ (j : Nat) (x : TypeId × List Value × DataW X), l[j]? = some x → ∃ (f : Field) (y : DataW X × List MemPlace), fs[j]? = some f ∧ xs[j]? = some y ∧ x = (f.type, (cs.drop f.offset).take (P.cellsOf f.type), y.1) ∧ DataW.trod enc P W 0 (fun _ => true) true n f.type ((cs.drop f.offset).take (P.cellsOf f.type)) = some y := by
        intro j x hj
        simp only [l, List.getElem?_map] at hj
        obtain ⟨q, hq, e3⟩ := map_some hj
        obtain ⟨q1, q2⟩ := q
        rw [List.getElem?_zip_eq_some] at hq
        obtain ⟨hq1, hq2⟩ := hq
        have := mapM_some_get hxs j q1 hq1
        rw [hq2] at this
        exact ⟨q1, q2, by simpa using hq1, hq2, e3.symm, this⟩
      obtain ⟨β1, H1, cjs, a1, a2, a3, a4, a5⟩ := in_list (in_one m) l (fun x hx => by
        obtain ⟨j, hj⟩ := List.getElem?_of_mem hx
        obtain ⟨f, y, h1, _, rfl, h2⟩ := lat j x hj
        exact ⟨(List.all_eq_true.1 hf) f (List.mem_of_getElem? (i := j) (by simpa using h1)), n, y.2, h2⟩) β H h
      have e5 : (l.map (·.2.1)).flatten = cs := by
        have e6 : l.map (·.2.1) = fs.toList.map fun f => (cs.drop f.offset).take (P.cellsOf f.type) := by
          have : l.map (·.2.1) = ((fs.toList.zip xs).map Prod.fst).map fun f => (cs.drop f.offset).take (P.cellsOf f.type) := by simp [l, List.map_map]
          rw [this, List.map_fst_zip (by omega)]
        rw [e6, lay_flatten hlen fs.toList 0 (Nat.zero_le _) hlay]
        exact List.drop_zero
      have hrel : LRel β1 cjs.flatten cs := by
        rw [← e5]
        refine lrel_flatten cjs _ (by simp [a4]) fun j x y hx hy => ?_
        rw [List.getElem?_map] at hy
        obtain ⟨z, hz, e7⟩ := map_some hy
        subst e7
        exact (a5 j z x hz hx).1
      refine ⟨β1, H1, cjs.flatten, a1, a2, a3, hrel, ?_⟩
      unfold Rep
      rw [hu]
      refine ⟨_, cjs, rfl, rfl, by simp [hl1], by rw [a4, hll], fun j f c hf2 hc => ?_, fun j f c x hf2 hc hx => ?_⟩
      · have hjl : j < l.length := by rw [← a4]; exact (List.getElem?_eq_some_iff.1 hc).1
        obtain ⟨f2, y, h1, _, e4, h2⟩ := lat j l[j] (List.getElem?_eq_getElem hjl)
        rw [hf2] at h1; cases h1
        have h3 := (a5 j l[j] c (List.getElem?_eq_getElem hjl) hc).1.1
        rw [e4] at h3
        have h4 := lay_in fs.toList 0 hlay f (List.mem_of_getElem? (i := j) (by simpa using hf2))
        simp only [List.length_take, List.length_drop] at h3
        omega
      · have hjl : j < l.length := by rw [← a4]; exact (List.getElem?_eq_some_iff.1 hc).1
        obtain ⟨f2, y, h1, h2, e4, _⟩ := lat j l[j] (List.getElem?_eq_getElem hjl)
        rw [hf2] at h1; cases h1
        have h3 := (a5 j l[j] c (List.getElem?_eq_getElem hjl) hc).2
        rw [e4] at h3
        rw [List.getElem?_map, h2] at hx
        cases hx
        exact h3
    · cases hf
end
end Go.E

namespace Go.E
open Go.ChangeShapes Go.WideShapes
section
variable {P : Program} {X : Type}
theorem piece_flatten {s : Nat} : ∀ (l : List (List Value)) (j : Nat) (c : List Value), (∀ c ∈ l, c.length = s) → l[j]? = some c → piece l.flatten (0 + j * s) s = some c
  | [], j, c, _, h => by simp at h
  | x :: l, 0, c, h, hj => by
    simp at hj; subst hj
    have := h x (by simp)
    simp only [piece, List.flatten_cons, Nat.zero_mul, Nat.zero_add, List.length_append, List.drop_zero]
    rw [if_pos (by omega), List.take_append_of_le_length (by omega), List.take_of_length_le (by omega)]
  | x :: l, j + 1, c, h, hj => by
    have hx := h x (by simp)
    have := piece_flatten l j c (fun c hc => h c (List.mem_cons_of_mem _ hc)) (by simpa using hj)
    simp only [piece] at this ⊢
    split at this <;> (try cases this)
    rename_i hle
    rw [List.flatten_cons, List.length_append]
    have e1 : 0 + (j + 1) * s = x.length + (0 + j * s) := by rw [hx, Nat.add_mul]; omega
    rw [e1, if_pos (by omega), ← List.drop_drop, List.drop_left]
theorem rep_slice {H : AHeap} {m : Nat} {t e : TypeId} {cs : List Value} {d : DataW X} (hu : P.underlying t = some (.slice e)) (h : Rep P H (m + 1) t cs d) : ∃ a len cap, cs = [.slice a len cap] ∧
    (len = 0 ∨ ∃ i c tt ee, a = some ⟨i, 0, none⟩ ∧ H.get i = some (.cells c tt ee true true) ∧ ∀ j < len, ∃ (vs : List Value) (x : DataW X), piece c (0 + j * P.cellsOf e) (P.cellsOf e) = some vs ∧ Rep P H m e vs x) := by
  unfold Rep at h
  rw [hu] at h
  rcases h with ⟨rfl, rfl⟩ | ⟨i, rfl, rfl⟩ | ⟨i, len, cap, elems, rest, cjs, tt, ee, h1, h2, h3, h4, h5, h6, h7, h8, h9, h10⟩
  · exact ⟨_, _, _, rfl, .inl rfl⟩
  · exact ⟨_, _, _, rfl, .inl rfl⟩
  · refine ⟨_, _, _, h1, .inr ⟨i, _, tt, ee, rfl, h7, fun j hj => ?_⟩⟩
    have hjc : j < cjs.length := by omega
    have hje : j < elems.length := by omega
    exact ⟨cjs[j], elems[j], piece_flatten cjs j _ h9 (List.getElem?_eq_getElem hjc), h10 j _ _ (List.getElem?_eq_getElem hjc) (List.getElem?_eq_getElem hje)⟩
theorem rep_int {H : AHeap} {m : Nat} {t : TypeId} {k : IntKind} {cs : List Value} {d : DataW X} (hu : P.underlying t = some (.int k)) (h : Rep P H (m + 1) t cs d) : ∃ n, cs = [.int k n] := by
  unfold Rep at h; rw [hu] at h; obtain ⟨n, h1, _⟩ := h; exact ⟨n, h1⟩
theorem rep_bool {H : AHeap} {m : Nat} {t : TypeId} {cs : List Value} {d : DataW X} (hu : P.underlying t = some .bool) (h : Rep P H (m + 1) t cs d) : ∃ n, cs = [.bool n] := by
  unfold Rep at h; rw [hu] at h; obtain ⟨n, h1, _⟩ := h; exact ⟨n, h1⟩
theorem rep_string {H : AHeap} {m : Nat} {t : TypeId} {cs : List Value} {d : DataW X} (hu : P.underlying t = some .string) (h : Rep P H (m + 1) t cs d) : ∃ n, cs = [.string n] := by
  unfold Rep at h; rw [hu] at h; obtain ⟨n, h1, _⟩ := h; exact ⟨n, h1⟩
theorem rep_struct {H : AHeap} {m : Nat} {t : TypeId} {fs : Array Field} {cs : List Value} {d : DataW X} (hu : P.underlying t = some (.struct fs)) (h : Rep P H (m + 1) t cs d) :
    ∃ cjs : List (List Value), cs = cjs.flatten ∧ cjs.length = fs.size ∧ ∀ (j : Nat) (f : Field) (c : List Value), fs[j]? = some f → cjs[j]? = some c → ∃ x : DataW X, Rep P H m f.type c x := by
  unfold Rep at h; rw [hu] at h
  obtain ⟨ds, cjs, h1, h2, h3, h4, h5, h6⟩ := h
  refine ⟨cjs, h2, h4, fun j f c hf hc => ?_⟩
  have hj : j < ds.length := by rw [h3]; exact (Array.getElem?_eq_some_iff.1 hf).1
  exact ⟨ds[j], h6 j f c _ hf hc (List.getElem?_eq_getElem hj)⟩
theorem in_slice {enc : TypeId × Value → X} {W : World} {β : Bt} {H : AHeap} {m : Nat} {t : TypeId} {a : Option Addr} {len cap : Nat} {d : DataW X} {ps : List MemPlace} (hf : flat P m t = true) (h : DataW.Trod enc P W 0 (fun _ => true) true t (.slice a len cap) d ps)
    (hr : Rel P (heldAll W) W β H W) : ∃ β' H' u, β.le β' ∧ Grows H H' ∧ Rel P (heldAll W) W β' H' W ∧ VRel β' u (.slice a len cap) ∧ Rep P H' m t [u] d := by
  obtain ⟨fuel, hfu⟩ := h
  obtain ⟨β', H', cs', h1, h2, h3, h4, h5⟩ := in_one m t fuel _ d ps hf hfu β H hr
  have hl := h4.1
  obtain ⟨u, rfl⟩ : ∃ u, cs' = [u] := by
    cases cs' with
    | nil => simp [Value.cells] at hl
    | cons u r => cases r with
      | nil => exact ⟨u, rfl⟩
      | cons _ _ => simp [Value.cells] at hl
  exact ⟨β', H', u, h1, h2, h3, h4.2 0 _ _ rfl rfl, h5⟩
end
end Go.E

namespace Go.E
open Go.ChangeShapes Go.WideShapes Go.ChangeAt Go.RowKit

/-- What a call with such arguments comes to: v; nothing that was there has turned. -/
def Ans (P : Program) (f : FuncId) (args : Array Value) (w : World) (v : Value) : Prop :=
  (callFunc f args).run P w = .ok (.enter f args) w ∧ ∀ n, CallsIn Fence.wide n P f args w fun e w' => e = .returned v ∧ Below w.heap.size w w'

theorem clo1_inv {β : Bt} {v v' : Value} (h : clo1 v = true) (hr : VRel β v v') : v' = v := by
  unfold clo1 at h
  split at h <;> first | (cases hr; rfl; done) | cases h
theorem clo_inv {β : Bt} {v v' : Value} (h : clo v = true) (hr : VRel β v v') : v' = v := by
  unfold clo at h
  split at h
  · rename_i cs
    rw [List.all_eq_true] at h
    obtain ⟨cs', rfl, hl⟩ := hr.aggList
    congr 1
    apply Array.ext
    · have := hl.1; simpa using this.symm
    · intro i h1 h2
      refine clo1_inv (β := β) (h cs[i] (by simp)) (hl.2 i cs[i] cs'[i] ?_ ?_)
      · simp
      · simp
  · exact clo1_inv h hr
theorem clos_inv {β : Bt} : ∀ {l l' : List Value}, l.all clo = true → LRel β l l' → l' = l
  | [], l', _, h => List.length_eq_zero_iff.1 (by have := h.1; simpa using this.symm)
  | v :: l, [], _, h => by have := h.1; simp at this
  | v :: l, v' :: l', hc, h => by
    simp only [List.all_cons, Bool.and_eq_true] at hc
    have h1 := clo_inv hc.1 (h.2 0 v v' rfl rfl)
    have h2 := clos_inv (l := l) (l' := l') hc.2 ⟨by have := h.1; simpa using this, fun i u u' a b => h.2 (i + 1) u u' (by simpa using a) (by simpa using b)⟩
    rw [h1, h2]
theorem clos_rel (β : Bt) : ∀ {l : List Value}, l.all clo = true → LRel β l l
  | [], _ => LRel.nil β
  | v :: l, h => by
    simp only [List.all_cons, Bool.and_eq_true] at h
    exact LRel.cons (clo_rel β h.1) (clos_rel β h.2)

def same1 : Value → Value → Bool
  | .bool a, .bool b => a == b
  | .int j a, .int k b => j == k && a == b
  | .string a, .string b => a.data.toList == b.data.toList
  | .pointer none, .pointer none => true
  | .slice none 0 0, .slice none 0 0 => true
  | .map none, .map none => true
  | .nilFunc, .nilFunc => true
  | .nilIface, .nilIface => true
  | _, _ => false
def sames : List Value → List Value → Bool
  | [], [] => true
  | a :: as, b :: bs => same1 a b && sames as bs
  | _, _ => false
def samev : Value → Value → Bool
  | .agg a, .agg b => sames a.toList b.toList
  | .tuple a, .tuple b => sames a.toList b.toList
  | a, b => same1 a b

theorem same1_eq {v u : Value} (h : same1 v u = true) : u = v := by
  unfold same1 at h
  split at h <;> first | rfl | (cases h; done) | skip
  · simp at h; rw [h]
  · simp at h; rw [h.1, h.2]
  · rename_i a b
    simp only [beq_iff_eq] at h
    congr 1
    cases a; cases b
    simp only [ByteArray.mk.injEq]
    exact (Array.toList_inj.1 h).symm
theorem sames_eq : ∀ {l m : List Value}, sames l m = true → m = l
  | [], [], _ => rfl
  | [], _ :: _, h => by simp [sames] at h
  | _ :: _, [], h => by simp [sames] at h
  | a :: l, b :: m, h => by
    simp only [sames, Bool.and_eq_true] at h
    rw [same1_eq h.1, sames_eq h.2]
theorem samev_eq {v u : Value} (h : samev v u = true) : u = v := by
  unfold samev at h
  split at h
  · have := sames_eq h
    congr 1; exact Array.toList_inj.1 this
  · have := sames_eq h
    congr 1; exact Array.toList_inj.1 this
  · exact same1_eq h

/-- The value that a call comes to. -/
def comes (v : Value) : CRes → AHeap → Bool := fun r _ => match r with | .ret u => samev v u | _ => false
theorem comes_spec {v : Value} {r : CRes} {H : AHeap} (h : comes v r H = true) : r = .ret v := by
  unfold comes at h
  split at h
  · rw [samev_eq h]
  · cases h

theorem ans_of_ev {P : Program} {T : Tab} (hT : TabOk P T) {w : World} {β : Bt} {H : AHeap} {f : FuncId} {args : List Value} {args' : Array Value} {v : Value} (N : Nat) (hv : clo v = true) (h : Rel P (heldAll w) w β H w) (hl : LRel β args args'.toList)
    (hk : (evN T N).call f args H fun r _ => r = .ret v) : Ans P f args' w v := by
  obtain ⟨h1, h2⟩ := ev_sound hT N (heldAll w) w β H w f args args' _ h hl hk
  refine ⟨h1, fun n => (h2 n).mono ?_⟩
  rintro e w' ⟨cr, H', β', rfl, _, hrel, hr⟩
  refine ⟨?_, hrel.below⟩
  cases e <;> simp only at hr <;> (try exact hr.elim)
  rw [clo_inv hv hr]
theorem ans_of_run {P : Program} {T : Tab} (hT : TabOk P T) {w : World} {β : Bt} {H : AHeap} {f : FuncId} {args : List Value} {args' : Array Value} {v : Value} (N : Nat) (hv : clo v = true) (h : Rel P (heldAll w) w β H w) (hl : LRel β args args'.toList)
    (hk : (evN (R := Bool) T N).call f args H (comes v) = true) : Ans P f args' w v :=
  ans_of_ev hT N hv h hl ((ev_tr T N).call _ _ _ _ _ hk fun _ _ h => comes_spec h)

theorem ans_prim {P : Program} {f : FuncId} {args' : Array Value} {w : World} {v : Value} (hv : clo v = true) (ha : Ans P f args' w v) {Fz : Fr} {w0 : World} {β : Bt} {H : AHeap} (hrel : Rel P Fz w0 β H w) :
    (callFunc f args').run P w = .ok (.enter f args') w ∧ ∀ n, CallsIn Fence.wide n P f args' w (ROk P Fz w0 β fun r' H2 => r' = .ret v ∧ H2 = H) := by
  obtain ⟨h1, h2⟩ := ha
  refine ⟨h1, fun n => (h2 n).mono ?_⟩
  rintro e w' ⟨rfl, hb⟩
  exact ⟨_, _, β, ⟨rfl, rfl⟩, Bt.le_refl β, hrel.grow hb, clo_rel β hv⟩

/-- A block of which no value holds an address. -/
structure Blk where
  c : List Value
  t : TypeId
  e : Nat
  ex : Bool
def Blk.obj (b : Blk) (ro : Bool) : AObj := .cells b.c b.t b.e b.ex ro

/-- Calls whose arguments, but for the first one, hold no address; the first one is a nil pointer, or one to such a block as 'b', that is only read. -/
def ptrP (b : Blk) (qn qb : List Value → Option Value) : List Value → AHeap → Option (CRes × AHeap) := fun args H => match args with
  | .pointer none :: rest => if rest.all clo then (qn rest).map fun v => (.ret v, H) else none
  | .pointer (some ⟨i, 0, none⟩) :: rest => match H.get i with
    | some (.cells c t e ex false) => if sames b.c c && t == b.t && e == b.e && ex == b.ex && rest.all clo then (qb rest).map fun v => (.ret v, H) else none
    | _ => none
  | _ => none

theorem prim_ptr {P : Program} {T : Tab} (hT : TabOk P T) {f : FuncId} {b : Blk} {qn qb : List Value → Option Value} (hb : b.c.all clo1 = true)
    (hn : ∀ rest v, rest.all clo = true → qn rest = some v → clo v = true ∧ ∃ N, (evN T N).call f (.pointer none :: rest) AHeap.empty fun r _ => r = .ret v)
    (hq : ∀ rest v, rest.all clo = true → qb rest = some v → clo v = true ∧ ∃ N, (evN T N).call f (.pointer (some ⟨0, 0, none⟩) :: rest) (AHeap.empty.alloc (b.obj true)) fun r _ => r = .ret v) : PrimOk P f (ptrP b qn qb) := by
  intro Fz w0 β H w args args' r H' hrel hl hp
  unfold ptrP at hp
  split at hp
  · rename_i rest
    split at hp <;> (try cases hp)
    rename_i hc
    obtain ⟨v, hv, e⟩ := map_some hp
    cases e
    obtain ⟨hv1, N, hk⟩ := hn rest v hc hv
    have hargs : args'.toList = .pointer none :: rest := clos_inv (by simp only [List.all_cons, hc, Bool.and_true]; rfl) hl
    exact ans_prim hv1 (ans_of_ev hT N hv1 (Rel.start P w) (by rw [hargs]; exact clos_rel _ (by simp only [List.all_cons, hc, Bool.and_true]; rfl)) hk) hrel
  · rename_i i rest
    split at hp <;> (try cases hp)
    rename_i c t e ex hg
    split at hp <;> (try cases hp)
    rename_i hs
    simp only [Bool.and_eq_true, beq_iff_eq] at hs
    obtain ⟨⟨⟨⟨hs, rfl⟩, rfl⟩, rfl⟩, hc⟩ := hs
    obtain ⟨v, hv, e⟩ := map_some hp
    cases e
    obtain ⟨hv1, N, hk⟩ := hq rest v hc hv
    have hcc := sames_eq hs
    subst hcc
    obtain ⟨p, ro, hp1, hp2, rc, fr, rfl, e1, e2, e3, e4, e5, e6, e7⟩ := hrel.live i _ hg
    have hst := Rel.start P w
    have ho : ORel P (noneB.upd 0 { p with ro := true }) { p with ro := true } (b.obj true) (.cells rc b.t fr) :=
      ⟨rc, fr, rfl, e1, e2, rfl, e4, e5, fun j v v' a a' => by
        have h1 := clo1_inv (List.all_eq_true.1 hb v (List.mem_of_getElem? a)) (e6 j v v' a a')
        rw [h1]; exact clo1_rel _ (List.all_eq_true.1 hb v (List.mem_of_getElem? a)), fun e => by cases e⟩
    obtain ⟨a1, a2, a3, a4⟩ := hst.ro (p := { p with ro := true }) (o := b.obj true) hp2 rfl ho
    obtain ⟨u, hu, hu2⟩ := hl.get (i := 0) (v := .pointer (some ⟨i, 0, none⟩)) rfl
    obtain ⟨q, hq1, rfl⟩ := hu2.invPtr
    rw [hp1] at hq1; cases hq1
    obtain ⟨x, xs, hx⟩ : ∃ x xs, args'.toList = x :: xs := by
      cases hh : args'.toList with
      | nil => rw [hh] at hu; simp at hu
      | cons x xs => exact ⟨x, xs, rfl⟩
    rw [hx] at hu hl
    simp at hu
    subst hu
    have hxs : xs = rest := clos_inv hc (β := β) ⟨by have := hl.1; simpa using this, fun j u u' a b => hl.2 (j + 1) u u' (by simpa using a) (by simpa using b)⟩
    subst hxs
    refine ans_prim hv1 (ans_of_ev hT N hv1 a1 ?_ hk) hrel
    rw [hx]
    exact LRel.cons (VRel.ptr (p := { p with ro := true }) 0 (Bt.upd_at _ _ _)) (clos_rel _ hc)
  · cases hp

theorem ptr_nil {b : Blk} {qn qb : List Value → Option Value} {rest : List Value} {v : Value} {H : AHeap} (hc : rest.all clo = true) (h : qn rest = some v) : ptrP b qn qb (.pointer none :: rest) H = some (.ret v, H) := by
  simp only [ptrP, hc, if_true, h, Option.map_some]
theorem ptr_blk {b : Blk} {qn qb : List Value → Option Value} {rest : List Value} {v : Value} {H : AHeap} {i : Nat} (hg : H.get i = some (b.obj false)) (hs : sames b.c b.c = true) (hc : rest.all clo = true) (h : qb rest = some v) :
    ptrP b qn qb (.pointer (some ⟨i, 0, none⟩) :: rest) H = some (.ret v, H) := by
  simp only [ptrP, hg, Blk.obj, hs, beq_self_eq_true, Bool.and_self, hc, if_true, h, Option.map_some]
end Go.E

namespace Go.E
def opvG (g : Nat → Option Value) : Operand → Option Value
  | .tmp t => g t
  | .const v => cond (clo v) (some v) none
  | .func f => some (.func (.func f) #[] #[])
  | .global _ => none
def opvsG (g : Nat → Option Value) : List Operand → Option (List Value)
  | [] => some []
  | x :: r => match opvG g x, opvsG g r with
    | some v, some vs => some (v :: vs)
    | _, _ => none
def partsVG (g : Nat → Option Value) : List (Nat × Nat × Operand) → Option (List (Nat × Nat × Value))
  | [] => some []
  | (o, s, x) :: r => match opvG g x, partsVG g r with
    | some v, some vs => some ((o, s, v) :: vs)
    | _, _ => none
def opvOG (g : Nat → Option Value) : Option Operand → Option (Option Value)
  | none => some none
  | some x => (opvG g x).map some
def look (env : Env) (t : Nat) : Option Value := (env[t]?).join
theorem opvG_eq (env : Env) (x : Operand) : opvG (look env) x = opv env x := by
  cases x with
  | tmp t => rfl
  | const v => simp only [opvG, opv]; cases clo v <;> rfl
  | func f => rfl
  | global _ => rfl
theorem opvsG_eq (env : Env) : ∀ x, opvsG (look env) x = opvs env x
  | [] => rfl
  | x :: r => by simp only [opvsG, opvs, opvG_eq, opvsG_eq env r]; rfl
theorem partsVG_eq (env : Env) : ∀ x, partsVG (look env) x = partsV env x
  | [] => rfl
  | (o, s, x) :: r => by simp only [partsVG, partsV, opvG_eq, partsVG_eq env r]; rfl
theorem opvOG_eq (env : Env) (x : Option Operand) : opvOG (look env) x = opvO env x := by
  cases x <;> simp only [opvOG, opvO, opvG_eq]
def a_mov (g : Nat → Option Value) (H : AHeap) (x : Operand) : Option (Res × AHeap) := (opvG g x).map fun v => (.val v, H)

def a_pick (g : Nat → Option Value) (H : AHeap) (c : Operand) (a : Operand) (b : Operand) : Option (Res × AHeap) := match opvG g c with
    | some (.bool true) => (opvG g a).map fun v => (.val v, H)
    | some (.bool false) => (opvG g b).map fun v => (.val v, H)
    | _ => none
def a_new (_g : Nat → Option Value) (H : AHeap) (cells : List Value) (elem : TypeId) (n : Nat) : Option (Res × AHeap) := if cells.all clo1 then some (.val (.pointer (some ⟨H.next, 0, none⟩)), H.alloc (.cells cells elem n true false)) else none

def a_box (g : Nat → Option Value) (H : AHeap) (elem : TypeId) (n : Nat) (x : Operand) : Option (Res × AHeap) := match opvG g x with
    | some v => if v.cells.toList.all isCell then some (.val (.pointer (some ⟨H.next, 0, none⟩)), H.alloc (.cells v.cells.toList elem n true false)) else none
    | none => none
def a_build (g : Nat → Option Value) (H : AHeap) (zero : List Value) (parts : List (Nat × Nat × Operand)) : Option (Res × AHeap) := match partsVG g parts with
    | some ps => if zero.all clo1 then (fillL zero ps).map fun c => (.val (.agg c.toArray), H) else none
    | none => none
def a_buildSlice (g : Nat → Option Value) (H : AHeap) (elem : TypeId) (size : Nat) (len : Nat) (zero : List Value) (parts : List (Nat × Nat × Operand)) : Option (Res × AHeap) := match partsVG g parts with
    | some ps => if zero.all clo1 ∧ (zero.length ≠ 0 ∨ len * size = 0) ∧ len * size ≤ 16777216 then match fillL (mkCells zero (len * size)) ps with
      | some c => if c.all isCell then some (.val (.slice (some ⟨H.next, 0, none⟩) len len), H.alloc (.cells c elem size true false)) else none
      | none => none
      else none
    | none => none
def a_load1 (g : Nat → Option Value) (H : AHeap) (x : Operand) : Option (Res × AHeap) := match (opvG g x).bind (loadCells H · 1) with
    | some [v] => some (.val v, H)
    | _ => none
def a_loadN (g : Nat → Option Value) (H : AHeap) (n : Nat) (x : Operand) : Option (Res × AHeap) := ((opvG g x).bind (loadCells H · n)).map fun vs => (.val (.agg vs.toArray), H)

def a_store (g : Nat → Option Value) (H : AHeap) (n : Nat) (a : Operand) (x : Operand) : Option (Res × AHeap) := match opvG g a, opvG g x with
    | some p, some v => if v.cells.size = n then (storeCells H p v.cells.toList).map fun H' => (.skip, H') else none
    | _, _ => none
def a_nilCheck (g : Nat → Option Value) (H : AHeap) (x : Operand) : Option (Res × AHeap) := match opvG g x with
    | some (.pointer (some a)) => some (.val (.pointer (some a)), H)
    | some (.iface t v) => some (.val (.iface t v), H)
    | some (.func (.func f) a c) => some (.val (.func (.func f) a c), H)
    | some (.func (.yield f) a c) => some (.val (.func (.yield f) a c), H)
    | _ => none
def a_bin (g : Nat → Option Value) (H : AHeap) (op : BinOp) (_x1 : TypeId) (u : TypeDesc) (x : Operand) (y : Operand) : Option (Res × AHeap) := match opvG g x, opvG g y with
    | some a, some b => (binV op u (isConst x || isConst y) a b).map fun v => (.val v, H)
    | _, _ => none
def a_un (g : Nat → Option Value) (H : AHeap) (op : UnOp) (x : Operand) : Option (Res × AHeap) := ((opvG g x).bind (unV op)).map fun v => (.val v, H)

def a_toInt (g : Nat → Option Value) (H : AHeap) (k : IntKind) (x : Operand) : Option (Res × AHeap) := match opvG g x with
    | some (.int _ n) => some (.val (.int k (k.wrap n)), H)
    | _ => none
def a_same (g : Nat → Option Value) (H : AHeap) (x : Operand) : Option (Res × AHeap) := match opvG g x with
    | some (.string s) => some (.val (.string s), H)
    | _ => none
def a_strBytes (g : Nat → Option Value) (H : AHeap) (elem : TypeId) (x : Operand) : Option (Res × AHeap) := match opvG g x with
    | some (.string s) => if s.size ≤ maxB then
        some (.val (.slice (some ⟨H.next, 0, none⟩) s.size s.size), H.alloc (.cells (s.data.toList.map fun b => .int .u8 b.toNat) elem 1 false false)) else none
    | _ => none
def a_bytesStr (g : Nat → Option Value) (H : AHeap) (x : Operand) : Option (Res × AHeap) := match opvG g x with
    | some v => match srcLen v with
      | some n => match (srcCells H 1 n v).bind u8s with
        | some bs => (match v with | .slice _ _ _ => some (.val (.string ⟨bs.toArray⟩), H) | _ => none)
        | none => none
      | none => none
    | none => none
def a_iface (g : Nat → Option Value) (H : AHeap) (t : TypeId) (x : Operand) : Option (Res × AHeap) := (opvG g x).map fun v => (.val (.iface t v), H)

def a_mkfunc (g : Nat → Option Value) (H : AHeap) (fn : Fn) (first : List Operand) (captured : List Operand) : Option (Res × AHeap) := match fn, opvsG g first, opvsG g captured with
    | .func f, some a, some c => some (.val (.func (.func f) a.toArray c.toArray), H)
    | _, _, _ => none
def a_mkmap (_g : Nat → Option Value) (H : AHeap)  : Option (Res × AHeap) := some (.val (.map (some H.next)), H.alloc (.map [] 0))

def a_mkmapN (g : Nat → Option Value) (H : AHeap) (x : Operand) : Option (Res × AHeap) := match opvG g x with
    | some (.int _ _) => some (.val (.map (some H.next)), H.alloc (.map [] 0))
    | _ => none
def a_mkslice (g : Nat → Option Value) (H : AHeap) (elem : TypeId) (size : Nat) (bytes : Nat) (zero : List Value) (l : Operand) (c : Operand) : Option (Res × AHeap) := match opvG g l, opvG g c with
    | some (.int .i64 ln), some (.int .i64 cp) =>
      if 0 ≤ ln ∧ ln ≤ cp ∧ cp ≤ maxB ∧ cp * bytes ≤ maxB ∧ zero.all clo1 ∧ (zero.length ≠ 0 ∨ cp.toNat * size = 0) then
        some (.val (.slice (some ⟨H.next, 0, none⟩) ln.toNat cp.toNat), H.alloc (.cells (mkCells zero (cp.toNat * size)) elem size true false)) else none
    | _, _ => none
def a_sliceStr (g : Nat → Option Value) (H : AHeap) (x : Operand) (lo : Option Operand) (hi : Option Operand) : Option (Res × AHeap) := match opvG g x, opvOG g lo, opvOG g hi with
    | some (.string s), some l, some h => (bounds s.size s.size l h none).map fun (l, h, _) => (.val (.string (s.extract l h)), H)
    | _, _, _ => none
def a_sliceSl (g : Nat → Option Value) (H : AHeap) (size : Nat) (x : Operand) (lo : Option Operand) (hi : Option Operand) (mx : Option Operand) : Option (Res × AHeap) := match opvG g x, opvOG g lo, opvOG g hi, opvOG g mx with
    | some (.slice a len cap), some l, some h, some m => match bounds len cap l h m with
      | none => none
      | some (l, h, m) => match a with
        | none => if len = 0 ∧ cap = 0 then some (.val (.slice none 0 0), H) else none
        | some ⟨i, off, none⟩ => match H.get i with
          | some (.cells _ _ e ex _) => if ex ∨ e = size then some (.val (.slice (some ⟨i, off + l * size, none⟩) (h - l) (m.getD cap - l)), H) else none
          | _ => none
        | _ => none
    | _, _, _, _ => none
def a_sliceArr (g : Nat → Option Value) (H : AHeap) (n : Nat) (size : Nat) (x : Operand) (lo : Option Operand) (hi : Option Operand) (mx : Option Operand) : Option (Res × AHeap) := match opvG g x, opvOG g lo, opvOG g hi, opvOG g mx with
    | some (.pointer (some ⟨i, off, none⟩)), some l, some h, some m => match bounds n n l h m with
      | none => none
      | some (l, h, m) => match H.get i with
        | some (.cells c _ _ true _) => if off + n * size ≤ c.length then some (.val (.slice (some ⟨i, off + l * size, none⟩) (h - l) (m.getD n - l)), H) else none
        | _ => none
    | _, _, _, _ => none
def a_addOff (g : Nat → Option Value) (H : AHeap) (off : Nat) (x : Operand) : Option (Res × AHeap) := match opvG g x with
    | some (.pointer (some ⟨i, o, none⟩)) => some (.val (.pointer (some ⟨i, o + off, none⟩)), H)
    | _ => none
def a_part (g : Nat → Option Value) (H : AHeap) (off : Nat) (n : Option Nat) (x : Operand) : Option (Res × AHeap) := match opvG g x with
    | some (.agg cs) => match n with
      | none => (cs.toList[off]?).map fun v => (.val v, H)
      | some n => if off + n ≤ cs.size then some (.val (.agg ((cs.toList.drop off).take n).toArray), H) else none
    | _ => none
def a_idxS (g : Nat → Option Value) (H : AHeap) (size : Nat) (x : Operand) (i : Operand) : Option (Res × AHeap) := match opvG g x, opvG g i with
    | some (.slice (some ⟨b, off, none⟩) len _), some (.int _ i) =>
      if 0 ≤ i ∧ i < len then some (.val (.pointer (some ⟨b, off + i.toNat * size, none⟩)), H) else none
    | _, _ => none
def a_idxA (g : Nat → Option Value) (H : AHeap) (len : Nat) (size : Nat) (x : Operand) (i : Operand) : Option (Res × AHeap) := match opvG g x, opvG g i with
    | some (.pointer (some ⟨b, off, none⟩)), some (.int _ i) =>
      if 0 ≤ i ∧ i < len then some (.val (.pointer (some ⟨b, off + i.toNat * size, none⟩)), H) else none
    | _, _ => none
def a_strAt (g : Nat → Option Value) (H : AHeap) (x : Operand) (i : Operand) : Option (Res × AHeap) := match opvG g x, opvG g i with
    | some (.string s), some (.int _ i) => if 0 ≤ i then (s.data.toList[i.toNat]?).map fun b => (.val (.int .u8 b.toNat), H) else none
    | _, _ => none
def a_arrAt (g : Nat → Option Value) (H : AHeap) (len : Nat) (size : Nat) (agg : Bool) (x : Operand) (i : Operand) : Option (Res × AHeap) := match opvG g x, opvG g i with
    | some (.agg cs), some (.int _ i) => if 0 ≤ i ∧ i < len then
        if agg then (if i.toNat * size + size ≤ cs.size then some (.val (.agg ((cs.toList.drop (i.toNat * size)).take size).toArray), H) else none)
        else (cs.toList[i.toNat * size]?).map fun v => (.val v, H)
      else none
    | _, _ => none
def a_look (g : Nat → Option Value) (H : AHeap) (u : TypeDesc) (zero : Value) (m : Operand) (k : Operand) (ok : Bool) : Option (Res × AHeap) := match opvG g m, opvG g k with
    | some mv, some kv => match (match mv with
        | .map none => some []
        | .map (some i) => (match H.get i with | some (.map es _) => some es | _ => none)
        | _ => none) with
      | none => none
      | some es => match findK u kv es 0 with
        | none => none
        | some r => if clo zero ∧ plainKey u then
          let v := pickV zero r
          some (.val (if ok then .tuple #[v, .bool r.isSome] else v), H) else none
    | _, _ => none
def a_mput (g : Nat → Option Value) (H : AHeap) (u : TypeDesc) (m : Operand) (k : Operand) (x : Operand) : Option (Res × AHeap) := match opvG g m, opvG g k, opvG g x with
    | some (.map (some i)), some kv, some v => match H.get i with
      | some (.map es clock) => if plainKey u then match findK u kv es 0 with
        | none => none
        | some (some (j, _)) => some (.skip, H.set i (.map (es.modify j fun e => (kv, v, e.2.2)) clock))
        | some none => some (.skip, H.set i (.map (es ++ [(kv, v, clock)]) (clock + 1)))
        else none
      | _ => none
    | _, _, _ => none
def a_rangeStr (g : Nat → Option Value) (H : AHeap) (x : Operand) : Option (Res × AHeap) := match opvG g x with
    | some (.string s) => some (.val (.pointer (some ⟨H.next, 0, none⟩)), H.alloc (.iter s 0))
    | _ => none
def a_rangeMap (g : Nat → Option Value) (H : AHeap) (x : Operand) : Option (Res × AHeap) := match opvG g x with
    | some (.map none) => some (.val (.pointer (some ⟨H.next, 0, none⟩)), H.alloc (.miter none 0 [] 0))
    | some (.map (some i)) => match H.get i with
      | some (.map _ clock) => some (.val (.pointer (some ⟨H.next, 0, none⟩)), H.alloc (.miter (some i) clock [] clock))
      | _ => none
    | _ => none
def a_next (g : Nat → Option Value) (H : AHeap) (x : Operand) (_b : Bool) : Option (Res × AHeap) := match _b with
  | false => none
  | true =>  match opvG g x with
    | some (.pointer (some ⟨i, 0, none⟩)) => match H.get i with
      | some (.iter s pos) => if pos < s.size then
          some (.val (.tuple #[.bool true, .int .i64 pos, .int .i32 (Utf8.decode s pos).1]), H.set i (.iter s (pos + (Utf8.decode s pos).2)))
        else some (.val (.tuple #[.bool false]), H)
      | _ => none
    | _ => none
def a_assert (g : Nat → Option Value) (H : AHeap) (asserted : TypeId) (zero : Value) (ok : Bool) (x : Operand) : Option (Res × AHeap) := match opvG g x with
    | some (.iface t v) => if t = asserted then some (.val (if ok then .tuple #[v, .bool true] else v), H)
      else if ok ∧ clo zero then some (.val (.tuple #[zero, .bool false]), H) else none
    | some .nilIface => if ok ∧ clo zero then some (.val (.tuple #[zero, .bool false]), H) else none
    | _ => none
def a_ext (g : Nat → Option Value) (H : AHeap) (x : Operand) (i : Nat) : Option (Res × AHeap) := match opvG g x with
    | some (.tuple vs) => (vs.toList[i]?).map fun v => (.val v, H)
    | _ => none
def a_call (g : Nat → Option Value) (H : AHeap) (f : FuncId) (args : List Operand) : Option (Res × AHeap) := (opvsG g args).map fun vs => (.enter f vs, H)

def a_callv (g : Nat → Option Value) (H : AHeap) (f : Operand) (args : List Operand) : Option (Res × AHeap) := match opvG g f, opvsG g args with
    | some (.func (.func g) a c), some vs => some (.enter g (a.toList ++ vs ++ c.toList), H)
    | some (.func (.yield l) ⟨[]⟩ ⟨[]⟩), some vs => some (.round l vs, H)
    | _, _ => none
def a_callm (_g : Nat → Option Value) (_H : AHeap) (_x0 : Operand) (_x1 : String) (_x2 : List Operand) : Option (Res × AHeap) := none

def a_append (g : Nat → Option Value) (H : AHeap) (elem : TypeId) (size : Nat) (bytes : Nat) (_x3 : List Value) (s : Operand) (x : Operand) : Option (Res × AHeap) := match opvG g s, opvG g x with
    | some sv, some xv => (appendV H elem size bytes sv xv).map fun (v, H') => (.val v, H')
    | _, _ => none
def a_appendZ (g : Nat → Option Value) (H : AHeap) (elem : TypeId) (size : Nat) (bytes : Nat) (zero : List Value) (s : Operand) (x : Operand) : Option (Res × AHeap) := match opvG g s, opvG g x with
    | some sv, some (.int .i64 l) =>
      if 0 ≤ l ∧ l ≤ maxB ∧ l * bytes ≤ maxB ∧ zero.all clo1 ∧ zero.length = size then (appendN H elem size bytes sv l.toNat (some (mkCells zero (l.toNat * size)))).map fun (v, H') => (.val v, H') else none
    | _, _ => none
def a_copy (g : Nat → Option Value) (H : AHeap) (size : Nat) (d : Operand) (s : Operand) : Option (Res × AHeap) := match opvG g d, opvG g s with
    | some (.slice a len _), some sv => match srcLen sv with
      | some n => match srcCells H size (min n len) sv with
        | some cs => (match a with
          | some ⟨i, off, none⟩ => if min n len = 0 then some (.val (.int .i64 0), H) else (storeCells H (.pointer (some ⟨i, off, none⟩)) cs).map fun H' => (.val (.int .i64 (min n len : Nat)), H')
          | none => if len = 0 then some (.val (.int .i64 0), H) else none
          | _ => none)
        | none => none
      | none => none
    | _, _ => none
def a_len (g : Nat → Option Value) (H : AHeap) (u : TypeDesc) (x : Operand) : Option (Res × AHeap) := match u, opvG g x with
    | .string, some (.string s) => some (.val (.int .i64 s.size), H)
    | .slice _, some (.slice _ n _) => some (.val (.int .i64 n), H)
    | .map _ _, some (.map none) => some (.val (.int .i64 0), H)
    | .map _ _, some (.map (some i)) => match H.get i with
      | some (.map es _) => some (.val (.int .i64 es.length), H)
      | _ => none
    | _, _ => none
def a_cap (g : Nat → Option Value) (H : AHeap) (x : Operand) : Option (Res × AHeap) := match opvG g x with
    | some (.slice none _ n) => some (.val (.int .i64 n), H)
    | some (.slice (some ⟨i, _, none⟩) _ n) => match H.get i with
      | some (.cells _ _ _ true _) => some (.val (.int .i64 n), H)
      | _ => none
    | _ => none
def a_min2 (g : Nat → Option Value) (H : AHeap) (x : Operand) (y : Operand) : Option (Res × AHeap) := match opvG g x, opvG g y with
    | some (.int k a), some (.int _ b) => some (.val (.int k (if b < a then b else a)), H)
    | _, _ => none
def a_max2 (g : Nat → Option Value) (H : AHeap) (x : Operand) (y : Operand) : Option (Res × AHeap) := match opvG g x, opvG g y with
    | some (.int k a), some (.int _ b) => some (.val (.int k (if b > a then b else a)), H)
    | _, _ => none
def a_delete (g : Nat → Option Value) (H : AHeap) (u : TypeDesc) (m : Operand) (k : Operand) : Option (Res × AHeap) := match opvG g m, opvG g k with
    | some (.map (some i)), some kv => match H.get i with
      | some (.map es clock) => if plainKey u then match findK u kv es 0 with
        | none => none
        | some (some (j, _)) => some (.val (.tuple #[]), H.set i (.map (es.eraseIdx j) clock))
        | some none => some (.val (.tuple #[]), H)
        else none
      | _ => none
    | some (.map none), some _ => if plainKey u then some (.val (.tuple #[]), H) else none
    | _, _ => none
def a_markStr (g : Nat → Option Value) (H : AHeap) (x : Operand) : Option (Res × AHeap) := match opvG g x with
    | some (.slice (some ⟨i, off, none⟩) n c) => match H.get i with
      | some (.cells _ _ _ _ false) => some (.val (.slice (some ⟨i, off, none⟩) n c), H)
      | _ => none
    | _ => none
def a_clear (g : Nat → Option Value) (H : AHeap) (size : Nat) (zero : List Value) (x : Operand) : Option (Res × AHeap) := match opvG g x with
    | some (.slice none 0 0) => some (.val (.tuple #[]), H)
    | some (.slice (some ⟨i, off, none⟩) n _) =>
      if n = 0 then some (.val (.tuple #[]), H) else if zero.length = size ∧ zero.all clo1 then (storeCells H (.pointer (some ⟨i, off, none⟩)) (mkCells zero (n * size))).map fun H1 => (.val (.tuple #[]), H1) else none
    | _ => none
def a_pan (g : Nat → Option Value) (H : AHeap) (x : Operand) : Option (Res × AHeap) := match opvG g x with
    | some (.iface t v) => some (.pan (.iface t v), H)
    | _ => none
def a_entry (g : Nat → Option Value) (H : AHeap) (x : Operand) : Option (Res × AHeap) := match opvG g x with
    | some (.pointer (some ⟨i, 0, none⟩)) => match H.get i with
      | some (.miter (some m) _ seen stepped) => match seen.getLast?, H.get m with
        | some stamp, some (.map es clock) => if clock = stepped then match es.find? (fun e => e.2.2 == stamp) with
          | some e => some (.val (.tuple #[e.1, e.2.1]), H)
          | none => none
          else none
        | _, _ => none
      | _ => none
    | _ => none
def a_xbyte (g : Nat → Option Value) (H : AHeap) (s : Operand) (c : Operand) : Option (Res × AHeap) := match opvG g s, opvG g c with
    | some (.string s), some (.int .u8 c) => some (.val (.int .i64 (idxB s.data.toList c.toNat.toUInt8 0)), H)
    | _, _ => none
def a_s2ap (g : Nat → Option Value) (H : AHeap) (n : Nat) (x : Operand) : Option (Res × AHeap) := match opvG g x with
    | some (.slice (some ⟨i, off, none⟩) len _) => if n ≤ len ∧ 0 < n then some (.val (.pointer (some ⟨i, off, none⟩)), H) else none
    | _ => none
def aopF (g : Nat → Option Value) (H : AHeap) (o : ROp) : Option (Res × AHeap) :=
  match o with
  | .mov x => a_mov g H x
  | .pick c a b => a_pick g H c a b
  | .new cells elem n => a_new g H cells elem n
  | .box elem n x => a_box g H elem n x
  | .build zero parts => a_build g H zero parts
  | .buildSlice elem size len zero parts => a_buildSlice g H elem size len zero parts
  | .load1 x => a_load1 g H x
  | .loadN n x => a_loadN g H n x
  | .store n a x => a_store g H n a x
  | .nilCheck x => a_nilCheck g H x
  | .bin op _x1 u x y => a_bin g H op _x1 u x y
  | .un op x => a_un g H op x
  | .toInt k x => a_toInt g H k x
  | .same x => a_same g H x
  | .strBytes elem x => a_strBytes g H elem x
  | .bytesStr x => a_bytesStr g H x
  | .iface t x => a_iface g H t x
  | .mkfunc fn first captured => a_mkfunc g H fn first captured
  | .mkmap => a_mkmap g H
  | .mkmapN x => a_mkmapN g H x
  | .mkslice elem size bytes zero l c => a_mkslice g H elem size bytes zero l c
  | .sliceStr x lo hi => a_sliceStr g H x lo hi
  | .sliceSl size x lo hi mx => a_sliceSl g H size x lo hi mx
  | .sliceArr n size x lo hi mx => a_sliceArr g H n size x lo hi mx
  | .addOff off x => a_addOff g H off x
  | .part off n x => a_part g H off n x
  | .idxS size x i => a_idxS g H size x i
  | .idxA len size x i => a_idxA g H len size x i
  | .strAt x i => a_strAt g H x i
  | .arrAt len size agg x i => a_arrAt g H len size agg x i
  | .look u zero m k ok => a_look g H u zero m k ok
  | .mput u m k x => a_mput g H u m k x
  | .rangeStr x => a_rangeStr g H x
  | .rangeMap x => a_rangeMap g H x
  | .next x _b => a_next g H x _b
  | .assert asserted zero ok x => a_assert g H asserted zero ok x
  | .ext x i => a_ext g H x i
  | .call f args => a_call g H f args
  | .callv f args => a_callv g H f args
  | .callm _x0 _x1 _x2 => a_callm g H _x0 _x1 _x2
  | .append elem size bytes _x3 s x => a_append g H elem size bytes _x3 s x
  | .appendZ elem size bytes zero s x => a_appendZ g H elem size bytes zero s x
  | .copy size d s => a_copy g H size d s
  | .len u x => a_len g H u x
  | .cap x => a_cap g H x
  | .min2 x y => a_min2 g H x y
  | .max2 x y => a_max2 g H x y
  | .delete u m k => a_delete g H u m k
  | .markStr x => a_markStr g H x
  | .clear size zero x => a_clear g H size zero x
  | .pan x => a_pan g H x
  | .entry x => a_entry g H x
  | .xbyte s c => a_xbyte g H s c
  | .s2ap n x => a_s2ap g H n x
theorem aopF_eq (env : Env) (H : AHeap) (o : ROp) : aopF (look env) H o = aop env H o := by
  cases o
  case next x b => cases b <;> (simp only [aopF, a_next, aop, opvG_eq] <;> try rfl)
  case mov => (simp only [aopF, a_mov, aop, opvG_eq] <;> try rfl)
  case pick => (simp only [aopF, a_pick, aop, opvG_eq] <;> try rfl)
  case new => (simp only [aopF, a_new, aop] <;> try rfl)
  case box => (simp only [aopF, a_box, aop, opvG_eq] <;> try rfl)
  case build => (simp only [aopF, a_build, aop, partsVG_eq] <;> try rfl)
  case buildSlice => (simp only [aopF, a_buildSlice, aop, partsVG_eq] <;> try rfl)
  case load1 => (simp only [aopF, a_load1, aop, opvG_eq] <;> try rfl)
  case loadN => (simp only [aopF, a_loadN, aop, opvG_eq] <;> try rfl)
  case store => (simp only [aopF, a_store, aop, opvG_eq] <;> try rfl)
  case nilCheck => (simp only [aopF, a_nilCheck, aop, opvG_eq] <;> try rfl)
  case bin => (simp only [aopF, a_bin, aop, opvG_eq] <;> try rfl)
  case un => (simp only [aopF, a_un, aop, opvG_eq] <;> try rfl)
  case toInt => (simp only [aopF, a_toInt, aop, opvG_eq] <;> try rfl)
  case same => (simp only [aopF, a_same, aop, opvG_eq] <;> try rfl)
  case strBytes => (simp only [aopF, a_strBytes, aop, opvG_eq] <;> try rfl)
  case bytesStr => (simp only [aopF, a_bytesStr, aop, opvG_eq] <;> try rfl)
  case iface => (simp only [aopF, a_iface, aop, opvG_eq] <;> try rfl)
  case mkfunc => (simp only [aopF, a_mkfunc, aop, opvsG_eq] <;> try rfl)
  case mkmap => (simp only [aopF, a_mkmap, aop] <;> try rfl)
  case mkmapN => (simp only [aopF, a_mkmapN, aop, opvG_eq] <;> try rfl)
  case mkslice => (simp only [aopF, a_mkslice, aop, opvG_eq] <;> try rfl)
  case sliceStr => (simp only [aopF, a_sliceStr, aop, opvG_eq, opvOG_eq] <;> try rfl)
  case sliceSl => (simp only [aopF, a_sliceSl, aop, opvG_eq, opvOG_eq] <;> try rfl)
  case sliceArr => (simp only [aopF, a_sliceArr, aop, opvG_eq, opvOG_eq] <;> try rfl)
  case addOff => (simp only [aopF, a_addOff, aop, opvG_eq] <;> try rfl)
  case part => (simp only [aopF, a_part, aop, opvG_eq] <;> try rfl)
  case idxS => (simp only [aopF, a_idxS, aop, opvG_eq] <;> try rfl)
  case idxA => (simp only [aopF, a_idxA, aop, opvG_eq] <;> try rfl)
  case strAt => (simp only [aopF, a_strAt, aop, opvG_eq] <;> try rfl)
  case arrAt => (simp only [aopF, a_arrAt, aop, opvG_eq] <;> try rfl)
  case look => (simp only [aopF, a_look, aop, opvG_eq] <;> try rfl)
  case mput => (simp only [aopF, a_mput, aop, opvG_eq] <;> try rfl)
  case rangeStr => (simp only [aopF, a_rangeStr, aop, opvG_eq] <;> try rfl)
  case rangeMap => (simp only [aopF, a_rangeMap, aop, opvG_eq] <;> try rfl)
  case assert => (simp only [aopF, a_assert, aop, opvG_eq] <;> try rfl)
  case ext => (simp only [aopF, a_ext, aop, opvG_eq] <;> try rfl)
  case call => (simp only [aopF, a_call, aop, opvsG_eq] <;> try rfl)
  case callv => (simp only [aopF, a_callv, aop, opvG_eq, opvsG_eq] <;> try rfl)
  case callm => (simp only [aopF, a_callm, aop] <;> try rfl)
  case append => (simp only [aopF, a_append, aop, opvG_eq] <;> try rfl)
  case appendZ => (simp only [aopF, a_appendZ, aop, opvG_eq] <;> try rfl)
  case copy => (simp only [aopF, a_copy, aop, opvG_eq] <;> try rfl)
  case len => (simp only [aopF, a_len, aop, opvG_eq] <;> try rfl)
  case cap => (simp only [aopF, a_cap, aop, opvG_eq] <;> try rfl)
  case min2 => (simp only [aopF, a_min2, aop, opvG_eq] <;> try rfl)
  case max2 => (simp only [aopF, a_max2, aop, opvG_eq] <;> try rfl)
  case delete => (simp only [aopF, a_delete, aop, opvG_eq] <;> try rfl)
  case markStr => (simp only [aopF, a_markStr, aop, opvG_eq] <;> try rfl)
  case clear => (simp only [aopF, a_clear, aop, opvG_eq] <;> try rfl)
  case pan => (simp only [aopF, a_pan, aop, opvG_eq] <;> try rfl)
  case entry => (simp only [aopF, a_entry, aop, opvG_eq] <;> try rfl)
  case xbyte => (simp only [aopF, a_xbyte, aop, opvG_eq] <;> try rfl)
  case s2ap => (simp only [aopF, a_s2ap, aop, opvG_eq] <;> try rfl)
  all_goals rfl
end Go.E

namespace Go.E
def eat (e : HT Value) (n t : Nat) : Option Value := cond (Nat.ble (Nat.succ t) n) (match e.get t with | some v => some v | none => some undef) none
def eput (e : HT Value) (d : Option Nat) (v : Value) : HT Value :=
  match d with
  | some t => e.set t (some v)
  | none => e
structure S3F where
  code : RCode → Nat → HT Value → List Nat → Option Nat → AHeap → (RExit → HT Value → List Nat → AHeap → Bool) → Bool
  call : FuncId → List Value → AHeap → (CRes → AHeap → Bool) → Bool
def toL (e : HT Value) : Nat → Nat → Env
  | 0, _ => []
  | k + 1, t => some (match e.get t with | some v => v | none => undef) :: toL e k (Nat.succ t)
def ofL : List (Option Value) → Nat → HT Value → HT Value
  | [], _, e => e
  | v :: l, t, e => ofL l (Nat.succ t) (e.set t v)
def argsL : List Value → Nat → HT Value → HT Value
  | [], _, e => e
  | v :: l, t, e => argsL l (Nat.succ t) (e.set t (some v))
def eputs (e : HT Value) : List Nat → List Value → HT Value
  | t :: ts, v :: vs => eputs (e.set t (some v)) ts vs
  | _, _ => e
def wantK (e : HT Value) (n : Nat) (g : Option (Nat × Bool)) (yes no : Bool) : Bool :=
  match g with
  | none => yes
  | some (t, b) => match eat e n t with
    | some (.bool c) => match c, b with
      | true, true => yes
      | false, false => yes
      | _, _ => no
    | some _ => no
    | none => false
def putF (r : Option (Res × AHeap)) (k : Res → AHeap → Bool) : Bool :=
  match r with
  | some (r, H) => k r H
  | none => false
def resVF (e : HT Value) (n : Nat) (H : AHeap) : RRes → Option Value
  | .tmp t => eat e n t
  | .cell1 t => match (eat e n t).bind (loadCells H · 1) with
    | some [v] => some v
    | _ => none
  | .cellN t m => ((eat e n t).bind (loadCells H · m)).map fun vs => .agg vs.toArray
def resVsF (e : HT Value) (n : Nat) (H : AHeap) : List RRes → Option (List Value)
  | [] => some []
  | r :: rs => match resVF e n H r, resVsF e n H rs with
    | some v, some vs => some (v :: vs)
    | _, _ => none
def retSF (e : HT Value) (n : Nat) (m : List Nat) (H : AHeap) (rs : List RRes) (k : CRes → AHeap → Bool) : Bool :=
  match shutMarks H m with
  | some H1 => match resVsF e n H1 rs with
    | some vs => k (.ret (tupled vs)) H1
    | none => false
  | none => false
variable (T : Tab) (S : S3F)
def callmF (g : Nat → Option Value) (recv : Operand) (name : String) (args : List Operand) (H : AHeap) (k : Res → AHeap → Bool) : Bool :=
  match opvG g recv, opvsG g args with
  | some (.iface t v), some vs => match T.meth t name with
    | some f => k (.enter f (v :: vs)) H
    | none => false
  | _, _ => false
def nextF (g : Nat → Option Value) (x : Operand) (b : Bool) (H : AHeap) (k : Res → AHeap → Bool) : Bool :=
  match b with
  | false => anext H (opvG g x) k
  | true => putF (a_next g H x true) k
def evOpF (g : Nat → Option Value) (o : ROp) (H : AHeap) (k : Res → AHeap → Bool) : Bool :=
  match o with
  | .next x b => nextF g x b H k
  | .callm recv name args => callmF T g recv name args H k
  | o => putF (aopF g H o) k
def roundBF (n : Nat) (l : Nat) (H2 : AHeap) (e : RExit) (k : Value → AHeap → Bool) : Bool :=
  match H2.get l with
  | some (.loop env' p' a' b' _ _ d) =>
    match e with
    | .norm => k (.bool true) (H2.set l (.loop env' p' a' b' .ready none d))
    | .pan _ => false
    | e => k (.bool false) (H2.set l (.loop env' p' a' b' .done (some e) d))
  | _ => false
def roundAF (body : RCode) (n : Nat) (l : Nat) (x : RExit) (e1 : HT Value) (m1 : List Nat) (H1 : AHeap) (k : Value → AHeap → Bool) : Bool :=
  match x, H1.get l with
  | .norm, some (.loop env' p' a' b' .ready pend d) =>
    S.code body n e1 m1 (some l) (H1.set l (.loop env' p' a' b' .busy pend d)) fun x2 _ _ H2 => roundBF n l H2 x2 k
  | _, _ => false
def roundF (l : Nat) (args : List Value) (H : AHeap) (k : Value → AHeap → Bool) : Bool :=
  match H.get l with
  | some (.loop env params assign body _ _ _) =>
    cond (Nat.beq args.length params.length && env.all Option.isSome) (S.code assign env.length (eputs (ofL env 0 .leaf) params args) [] (some l) H fun x e1 m1 H1 => roundAF S body env.length l x e1 m1 H1 k) false
  | _ => false
def resF (k : Value → AHeap → Bool) (kp : Value → AHeap → Bool) (r : Res) (H' : AHeap) : Bool :=
  match r with
  | .val v => k v H'
  | .skip => k undef H'
  | .pan v => kp v H'
  | .enter f args => S.call f args H' fun cr H'' =>
    match cr with
    | .ret v => k v H''
    | .pan v => kp v H''
  | .round l args => roundF S l args H' fun v H'' => k v H''
def evOperF (o : ROper) (n : Nat) (e : HT Value) (H : AHeap) (k : Value → AHeap → Bool) (kp : Value → AHeap → Bool) : Bool :=
  wantK e n o.guard (evOpF T (eat e n) o.op H (resF S k kp)) (k undef H)
def evOpsF (n : Nat) (m : List Nat) (k : RExit → HT Value → List Nat → AHeap → Bool) : List ROper → HT Value → AHeap → Bool
  | [], e, H => k .norm e m H
  | o :: rest, e, H =>
    evOperF T S o n e H (fun v H' => evOpsF n m k rest (eput e o.dst v) H') (fun v H' => k (.pan v) e m H')
def watchOkF (n : Nat) (H : AHeap) : List (Nat × ROp × HT Value × Value) → Bool
  | [] => true
  | (_, op, e, v) :: r => (match aopF (eat e n) H op with
    | some (.val u, _) => veq v u
    | _ => false) && watchOkF n H r
def allocF (g : Nat → Option Value) (i : Nat) : ROp → Option (Value × AObj)
  | .new cells elem n => if cells.all clo1 then some (.pointer (some ⟨i, 0, none⟩), .cells cells elem n true false) else none
  | .box elem n x => match opvG g x with
    | some v => if v.cells.toList.all isCell then some (.pointer (some ⟨i, 0, none⟩), .cells v.cells.toList elem n true false) else none
    | none => none
  | .buildSlice elem size len zero parts => match partsVG g parts with
    | some ps => if zero.all clo1 ∧ (zero.length ≠ 0 ∨ len * size = 0) ∧ len * size ≤ 16777216 then match fillL (mkCells zero (len * size)) ps with
      | some c => if c.all isCell then some (.slice (some ⟨i, 0, none⟩) len len, .cells c elem size true false) else none
      | none => none
      else none
    | none => none
  | _ => none
def drawPureF (r : Option (Res × AHeap)) (k : Value → Bool) : Bool :=
  match r with
  | some (.val v, _) => k v
  | _ => false
def drawAllocF (r : Option (Value × AObj)) (k : Value → AObj → Bool) : Bool :=
  match r with
  | some (v, ob) => k v ob
  | none => false
def evDrawF (n : Nat) (m : List Nat) (ops : List ROper) (bef : List Nat) (r0 : Nat) (k : RExit → HT Value → List Nat → AHeap → Bool) : List Nat → HT Value → List (Nat × ROp × HT Value × Value) → List (Nat × Nat × AObj) → AHeap → Bool
  | [], e, _, pend, H => k .norm e m (fills H pend)
  | i :: rest, e, watch, pend, H =>
    match ops[i]? with
    | none => false
    | some o =>
      wantK e n o.guard
        (cond (isPure o.op) (drawPureF (aopF (eat e n) H o.op) fun v => evDrawF n m ops bef r0 k rest (eput e o.dst v) watch pend H)
        (cond (isRead o.op) (drawPureF (aopF (eat e n) H o.op) fun v => evDrawF n m ops bef r0 k rest (eput e o.dst v) ((i, o.op, e, v) :: watch) pend H)
        (cond (isAlloc o.op) (drawAllocF (allocF (eat e n) (r0 + i) o.op) fun v ob => evDrawF n m ops bef r0 k rest (eput e o.dst v) watch (pend ++ [(i, r0 + i, ob)]) H)
        (evOperF T S o n e (fills H (pend.filter fun x => (bef.getD i 0).testBit x.1))
            (fun v H' => cond (watchOkF n H' (watch.filter fun x => !(bef.getD i 0).testBit x.1)) (evDrawF n m ops bef r0 k rest (eput e o.dst v) (watch.filter fun x => !(bef.getD i 0).testBit x.1) (pend.filter fun x => !(bef.getD i 0).testBit x.1) H') false)
            (fun _ _ => false)))))
        (evDrawF n m ops bef r0 k rest (eput e o.dst undef) watch pend H)
def jumpF (pend : Option RExit) (k : RExit → Bool) : Bool :=
  match pend with
  | none => k .norm
  | some .ret => k .ret
  | some (.exit id) => k (.exit id)
  | _ => false
def rangeEndF (l : Nat) (cr : CRes) (H1 : AHeap) (k : RExit → AHeap → Bool) : Bool :=
  match cr with
  | .pan v => k (.pan v) H1
  | .ret _ => match H1.get l with
    | some (.loop env p a b s pend d) => match s with
      | .busy => false
      | _ => jumpF pend fun x => k x (H1.set l (.loop env p a b .exhausted pend d))
    | _ => false
def rangeF (f : Operand) (params : List Nat) (assign body : RCode) (n : Nat) (e : HT Value) (m : List Nat) (r : Option Nat) (H : AHeap) (k : RExit → HT Value → List Nat → AHeap → Bool) : Bool :=
  match opvG (eat e n) f with
  | some (.func (.func g) first cap) =>
    match r with
    | none => S.call g (first.toList ++ [.func (.yield (H.next + 1)) #[] #[]] ++ cap.toList) ((H.alloc .deferred).alloc (.loop (toL e n 0) params assign body .ready none H.next)) fun cr H1 =>
        rangeEndF (H.next + 1) cr H1 fun x H2 => k x e (H.next :: m) H2
    | some l0 => match H.get l0 with
      | some (.loop _ _ _ _ _ _ d0) => S.call g (first.toList ++ [.func (.yield H.next) #[] #[]] ++ cap.toList) (H.alloc (.loop (toL e n 0) params assign body .ready none d0)) fun cr H1 =>
        rangeEndF H.next cr H1 fun x H2 => k x e m H2
      | _ => false
  | _ => false
def seqF (b : RCode) (n : Nat) (r : Option Nat) (k : RExit → HT Value → List Nat → AHeap → Bool) (x : RExit) (e : HT Value) (m : List Nat) (H : AHeap) : Bool := match x with
    | .norm => S.code b n e m r H k
    | x => k x e m H
def blockF (id : Nat) (k : RExit → HT Value → List Nat → AHeap → Bool) (x : RExit) (e : HT Value) (m : List Nat) (H : AHeap) : Bool := match x with
    | .exit j => cond (Nat.beq j id) (k .norm e m H) (k (.exit j) e m H)
    | x => k x e m H
def condF (v : Option Value) (a b : Bool) : Bool := match v with
    | some (.bool true) => a
    | some (.bool false) => b
    | _ => false
def stepCodeF (c : RCode) (n : Nat) (e : HT Value) (m : List Nat) (r : Option Nat) (H : AHeap) (k : RExit → HT Value → List Nat → AHeap → Bool) : Bool :=
  match c with
  | .skip => k .norm e m H
  | .region ops => evOpsF T S n m k ops e H
  | .draw ops bef plan => evDrawF T S n m ops bef H.next k plan e [] [] (H.reserve ops.length)
  | .seq a b => S.code a n e m r H (seqF S b n r k)
  | .cond c a b => condF (opvG (eat e n) c) (S.code a n e m r H k) (S.code b n e m r H k)
  | .block id a => S.code a n e m r H (blockF id k)
  | .loop a => S.code a n e m r H (seqF S (.loop a) n r k)
  | .rangeFunc f params assign body => rangeF S f params assign body n e m r H k
  | .exit id => k (.exit id) e m H
  | .ret => k .ret e m H
def retF (n : Nat) (rs : List RRes) (k : CRes → AHeap → Bool) (x : RExit) (e : HT Value) (m : List Nat) (H : AHeap) : Bool :=
  match x with
  | .norm => retSF e n m H rs k
  | .ret => retSF e n m H rs k
  | .pan v => match shutMarks H m with
    | some H1 => k (.pan v) H1
    | none => false
  | .exit _ => false
def stepCallF (f : FuncId) (args : List Value) (H : AHeap) (k : CRes → AHeap → Bool) : Bool :=
  match T.fn f with
  | some (.code rf) => cond (Nat.ble args.length rf.ntmps) (S.code rf.body rf.ntmps (argsL args 0 .leaf) [] none H (retF rf.ntmps rf.results k)) false
  | some (.prim p) => match p args H with
    | some (r, H') => k r H'
    | none => false
  | none => false
def evF : Nat → S3F
  | 0 => ⟨fun _ _ _ _ _ _ _ => false, fun _ _ _ _ => false⟩
  | n + 1 => ⟨stepCodeF T (evF n), stepCallF T (evF n)⟩
end Go.E
