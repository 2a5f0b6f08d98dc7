/- The soundness of the evaluator E for whole functions, in whatever order a region draws; what a row asks of a call that comes to true; no condition. -/
import Derived.ProofKit
import Derived.DataReads
import Derived.Test.YtcjhklflgdeckaaE1
namespace Go.E
section
variable {P : Program} {Fz : Fr} {w0 : World} {β : Bt} {H H' : AHeap} {w : World} {env : Env} {a : Act} {o : Oper} {res : Res}

theorem growBy_le (n : Nat) : ∀ (r c : Nat), c < n → 256 ≤ c → Builtin.growBy n r c ≤ 3 * n
  | 0, c, h, _ => by simp only [Builtin.growBy]; omega
  | r + 1, c, h, hc => by
    simp only [Builtin.growBy]
    rw [if_neg (by omega)]
    by_cases h2 : c + (c + 768) / 4 < n
    · exact growBy_le n r _ h2 (by omega)
    · have key : ∀ r c', n ≤ c' → Builtin.growBy n r c' = c' := by
        intro r c' hc'
        cases r with
        | zero => rfl
        | succ r => simp only [Builtin.growBy]; rw [if_pos hc']
      rw [key _ _ (by omega)]
      omega
theorem nextcap_le {n c : Nat} (h : c < n) : Builtin.nextslicecap n c ≤ 3 * n := by
  unfold Builtin.nextslicecap
  split
  · omega
  · split
    · omega
    · exact growBy_le n 4 c h (by omega)

theorem drewRel (h : Rel P Fz w0 β H w) : Rel P Fz w0 β H w.drew := h.drew _

theorem src_kinds {u : TypeDesc} (h : isSrc u = true) : (∃ e, u = .slice e) ∨ u = .string := by
  cases u <;> first | (exact .inl ⟨_, rfl⟩) | (exact .inr rfl) | cases h

theorem run_append_in {t tx e ty : TypeId} {u : TypeDesc} {i : TypeInfo} {ad : Option Addr} {len rc n : Nat} {x : Value} {new : Array Value} {w' : World}
    (ht : P.underlying t = some (.slice e)) (hx : P.underlying tx = some u) (hu : isSrc u = true) (hi : P.info? e = some i)
    (hn : (Builtin.lenOf x).run P w = .ok n w) (hc : (Builtin.firstCells i.size n x).run P w = .ok new w) (hle : len + n ≤ rc)
    (hst : (match ad with | some a => Go.storeCells (a.add (len * i.size)) new.toList | none => pure ()).run P w = .ok () w') :
    (Builtin.append_ #[t, tx] ty #[.slice ad len rc, x]).run P w = .ok (.slice ad (len + n) rc) w' := by
  unfold Builtin.append_
  cases ad with
  | none =>
    simp only at hst
    simp at hst; subst hst
    rcases src_kinds hu with ⟨e', rfl⟩ | rfl <;> simp [run_und ht, run_size hi, run_und hx, hn, hle, hc]
  | some ad =>
    simp only at hst
    rcases src_kinds hu with ⟨e', rfl⟩ | rfl <;> simp [run_und ht, run_size hi, run_und hx, hn, hle, hc, hst]

theorem run_append_new {t tx e ty : TypeId} {u : TypeDesc} {i : TypeInfo} {z : Value} {ad : Option Addr} {len rc n : Nat} {x : Value} {old new : Array Value}
    (ht : P.underlying t = some (.slice e)) (hx : P.underlying tx = some u) (hu : isSrc u = true) (hi : P.info? e = some i) (hz : i.zero = some z) (hb : i.bytes ≠ 0)
    (hn : (Builtin.lenOf x).run P w = .ok n w) (hc : (Builtin.firstCells i.size n x).run P w.drew = .ok new w.drew) (ho : (Builtin.firstCells i.size len (.slice ad len rc)).run P w.drew = .ok old w.drew)
    (hlt : rc < len + n) (hbound : (len + n) * i.bytes ≤ maxB) :
    ∃ nc, len + n ≤ nc ∧ (Builtin.append_ #[t, tx] ty #[.slice ad len rc, x]).run P w =
      .ok (.slice (some ⟨w.heap.size, 0, none⟩) (len + n) nc) { w.drew with heap := w.heap.push (.cells (old ++ new ++ Builtin.zeroCells z.cells (nc - (len + n))) e) } := by
  refine ⟨(len + n) + w.tape w.drawn (.appendCap (len + n) rc e) % (2 ^ 63 - (len + n)), by omega, ?_⟩
  have hcap := nextcap_le hlt
  have h48 : ¬ (281474976710656 < Builtin.nextslicecap (len + n) rc * i.bytes) := by
    have h1 : Builtin.nextslicecap (len + n) rc * i.bytes ≤ 3 * (len + n) * i.bytes := Nat.mul_le_mul_right _ hcap
    have h2 : 3 * (len + n) * i.bytes = 3 * ((len + n) * i.bytes) := by rw [Nat.mul_assoc]
    unfold maxB at hbound
    omega
  have hnle : ¬ (len + n ≤ rc) := by omega
  unfold Builtin.append_
  rcases src_kinds hu with ⟨e', rfl⟩ | rfl <;>
    (simp [run_und ht, run_size hi, run_und hx, hn, hnle, run_info hi, hb, h48, Question.forced, Question.cut, ho, hc, run_zero hi hz, newRow]; rfl)

theorem src_len {size n : Nat} {v : Value} {cs : List Value} (hl : srcLen v = some n) (hs : srcCells H size n v = some cs) : cs.length = n * size := by
  unfold srcCells at hs
  split at hs
  · cases hs; simp only [srcLen] at hl; cases hl; first | rfl | simp
  · split at hs <;> (try cases hs)
    unfold piece at hs
    split at hs <;> (try cases hs)
    simp only [srcLen] at hl; cases hl
    simp; omega
  · split at hs <;> (try cases hs)
    rename_i s hsz
    simp only [srcLen] at hl; cases hl
    have : s.data.toList.length = s.size := by simp
    simp [hsz, this]
  · cases hs

/-- A new row behind an append. -/
theorem newRow_snd (h : Rel P Fz w0 β H w) {c : List Value} {c' rest : Array Value} {t : TypeId} (e k n nc : Nat) (hl : LRel β c c'.toList) (hn : n ≤ nc) (hsz : c'.size + rest.size = nc * e) :
    ∃ β', β.le β' ∧ VRel β' (.slice (some ⟨H.next, 0, none⟩) n n) (.slice (some ⟨w.heap.size, 0, none⟩) n nc) ∧
      Rel P Fz w0 β' (H.alloc (.cells c t e false false)) { w with drawn := k, heap := w.heap.push (.cells (c' ++ rest) t) } := by
  have hle := Bt.le_upd ⟨w.heap.size, 0, (c' ++ rest).size, e, false, false⟩ h.nextNone
  refine ⟨_, hle, .sl (p := ⟨w.heap.size, 0, (c' ++ rest).size, e, false, false⟩) (Bt.upd_at _ _ _) (Nat.le_refl _) hn (.inr rfl) (fun e => by cases e) (fun _ => by simp; omega),
    (h.drew k).alloc (ro := .cells (c' ++ rest) t) rfl rfl ⟨c' ++ rest, (0, 0), rfl, rfl, rfl, rfl, rfl, by have := hl.1; simp at this; simp; omega, fun j v v' a b => ?_, fun _ => .inl rfl⟩⟩
  have hj : j < c'.size := by have h1 := (List.getElem?_eq_some_iff.1 a).1; have h2 := hl.1; simp at h2; omega
  simp only [Nat.zero_add] at b
  rw [Array.getElem?_append_left hj] at b
  exact (hl.2 j v v' a (by simpa using b)).mono hle

theorem zeroCells_size (z : Array Value) (n : Nat) : (Builtin.zeroCells z n).size = n * z.size := by simp [Builtin.zeroCells]

theorem snd_append (h : Rel P Fz w0 β H w) (he : EnvRel β env a.tmps) {t tx e : TypeId} {u : TypeDesc} {i : TypeInfo} {z : Value} {x y : Operand} {c : Call} (ht : P.underlying t = some (.slice e)) (hu : P.underlying tx = some u)
    (hs : isSrc u = true) (hi : P.info? e = some i) (hz : i.zero = some z) (hb : i.bytes ≠ 0) (hsz : i.size ≠ 0) (hzs : z.cells.size = i.size)
    (hc : c.callee = .builtin .append) (hargs : c.args.toList = [x, y]) (hty : c.argTypes.toList = [t, tx]) (ho : o.op = .call c) {zl : List Value} (ha : aop env H (.append e i.size i.bytes zl x y) = some (res, H')) :
    RRel P Fz w0 β w H' res ((execOp a.eval o).run P w) := by
  obtain ⟨consts, hrun⟩ := run_builtin (P := P) (w := w) (a := a) hc ho
  rw [args2 (a := a) hargs, types2 hty] at hrun
  have hrun2 : (execOp a.eval o).run P w = ((Builtin.append_ #[t, tx] o.type #[a.eval x, a.eval y]).run P w).andThen fun v w' => .ok (.value v) w' := by
    rw [hrun]; simp [builtin]
  simp only [aop] at ha
  split at ha <;> (try cases ha)
  rename_i sv xv hx hy
  obtain ⟨⟨v, H2⟩, hap, e0⟩ := map_some ha
  cases e0
  have hr := opv_rel he hx
  have hry := opv_rel he hy
  unfold appendV at hap
  split at hap <;> (try cases hap)
  rename_i ad len cap n hn
  split at hap <;> (try cases hap)
  rename_i hbound
  split at hap <;> (try cases hap)
  rename_i new hnew
  split at hap <;> (try cases hap)
  rename_i hall
  simp only [Bool.not_eq_true', Bool.not_eq_false] at hall
  obtain ⟨new', s1, s2, s3⟩ := src_snd h hry hn (Nat.le_refl n) hnew
  have hnl := src_len hn hnew
  have hnl' : new'.size = n * i.size := by have := s2.1; simp at this; omega
  have hbd : (len + n) * i.bytes ≤ maxB := by omega
  split at hap
  · rename_i hle
    split at hap
    · split at hap <;> (try cases hap)
      rename_i hz3
      obtain ⟨hn0, hl0, hc0⟩ := hz3
      obtain ⟨hy2, e1, e2⟩ := hr.invSlN
      subst hn0; subst hl0; subst hc0
      refine RRel.pure h .slN ?_
      rw [hrun2, hy2, run_append_in (w' := w) ht hu hs hi s3 s1 (by omega) (by simp)]
      rfl
    · rename_i b off
      obtain ⟨p, ro, rc, hb2, hy2, h1, h2, h3, h4, h5⟩ := hr.invSl
      split at hap
      · rename_i hn0
        cases hap
        subst hn0
        have e1 : new' = #[] := by rw [← Array.toList_inj]; exact List.length_eq_zero_iff.1 (by simpa using hnl')
        subst e1
        refine RRel.pure h (v' := .slice (some ⟨p.rb, ro, none⟩) len rc) (.sl hb2 h1 h2 h3 h4 h5) ?_
        rw [hrun2, hy2, run_append_in (w' := w) ht hu hs hi s3 s1 (by omega) (by simp [Go.storeCells])]
        rfl
      · rename_i hn0
        split at hap <;> (try cases hap)
        rename_i H3 hst
        have hro : ro = p.base + off := h3.resolve_left (by omega)
        subst hro
        obtain ⟨b2, off2, w', q1, q2, q3⟩ := store_snd h (v' := .pointer (some ⟨p.rb, p.base + (off + len * i.size), none⟩)) (.ptr _ hb2) s2 hst
        cases q1
        refine ⟨.slice (some ⟨p.rb, p.base + off, none⟩) (len + n) rc, w', β, ?_, Bt.le_refl β, .sl hb2 hle h2 (.inr rfl) h4 h5, q3⟩
        rw [hrun2, hy2, run_append_in (w' := w') ht hu hs hi s3 s1 (by omega) (by simp only [addr_add]; rw [Nat.add_assoc]; exact q2)]
        rfl
    · cases hap
  · rename_i hgt
    split at hap
    · split at hap <;> (try cases hap)
      rename_i hz3
      obtain ⟨hl0, hc0⟩ := hz3
      subst hl0; subst hc0
      obtain ⟨hy2, _, _⟩ := hr.invSlN
      obtain ⟨new2, u1, u2, u3⟩ := src_snd (drewRel h) hry hn (Nat.le_refl n) hnew
      obtain ⟨nc, hnc, hrun3⟩ := run_append_new (P := P) (w := w) (ad := none) (len := 0) (rc := 0) (ty := o.type) (old := #[]) ht hu hs hi hz hb s3 u1 (by simp [Builtin.firstCells]) (by omega) hbd
      have hn2 : new2.size = n * i.size := by have := u2.1; simp at this; omega
      obtain ⟨β', k1, k2, k3⟩ := newRow_snd h (t := e) (c' := #[] ++ new2) (rest := Builtin.zeroCells z.cells (nc - (0 + n))) i.size (w.drawn + 1) n nc (by simpa using u2) (by omega) (by
        rw [zeroCells_size, hzs]; simp [hn2]; rw [← Nat.add_mul]; congr 1; omega)
      refine ⟨_, _, β', ?_, k1, k2, k3⟩
      rw [hrun2, hy2, hrun3]
      simp only [Result.andThen_ok, Nat.zero_add]
      rfl
    · rename_i b off
      split at hap <;> (try cases hap)
      rename_i cl ct ce cex cro hg
      split at hap <;> (try cases hap)
      rename_i old hold
      obtain ⟨p, ro, rc, hb2, hy2, h1, h2, h3, h4, h5⟩ := hr.invSl
      obtain ⟨rcs, fr, g1, g2, g3, g4, g5, g6, g7, g8⟩ := block_of h hg hb2
      have hsrc : srcCells H i.size len (.slice (some ⟨b, off, none⟩) len cap) = some old := by simp only [srcCells, hg, hold]
      have holdl : old.length = len * i.size := src_len (n := len) rfl hsrc
      -- a new row
      have grows : rc < len + n → ∀ H1, Rel P Fz w0 β H1 w → H1.next = H.next → ∃ v' w' β', (Builtin.append_ #[t, tx] o.type #[a.eval x, a.eval y]).run P w = .ok v' w' ∧ β.le β' ∧
          VRel β' (.slice (some ⟨H.next, 0, none⟩) (len + n) (len + n)) v' ∧ Rel P Fz w0 β' (H1.alloc (.cells (old ++ new) e i.size false false)) w' := by
        intro hlt H1 hrel1 hnx
        obtain ⟨new2, u1, u2, u3⟩ := src_snd (drewRel h) hry hn (Nat.le_refl n) hnew
        obtain ⟨old2, t1, t2, t3⟩ := src_snd (drewRel h) hr (m := len) (n := len) rfl (Nat.le_refl len) hsrc
        rw [hy2] at t1
        obtain ⟨nc, hnc, hrun3⟩ := run_append_new (P := P) (w := w) (ty := o.type) ht hu hs hi hz hb s3 u1 t1 hlt hbd
        have hn2 : new2.size = n * i.size := by have := u2.1; simp at this; omega
        have ho2 : old2.size = len * i.size := by have := t2.1; simp at this; omega
        obtain ⟨β', k1, k2, k3⟩ := newRow_snd hrel1 (t := e) (c := old ++ new) (c' := old2 ++ new2) (rest := Builtin.zeroCells z.cells (nc - (len + n))) i.size (w.drawn + 1) (len + n) nc (by simpa using t2.append u2) hnc (by
          rw [zeroCells_size, hzs]; simp only [Array.size_append, hn2, ho2]; rw [← Nat.add_mul, ← Nat.add_mul]; congr 1; omega)
        rw [hnx] at k2
        exact ⟨_, _, β', by rw [hy2, hrun3]; rfl, k1, k2, k3⟩
      split at hap
      · rename_i hex
        cases hap
        have hrc : rc = cap := h4 (by rw [g3]; exact hex)
        obtain ⟨v', w', β', k0, k1, k2, k3⟩ := grows (by omega) H h rfl
        exact ⟨v', w', β', by rw [hrun2, k0]; rfl, k1, k2, k3⟩
      · rename_i hex
        split at hap <;> (try cases hap)
        rename_i hroe
        have hro2 : p.ro = false := by rw [g4]; cases cro <;> simp at hroe ⊢
        have hce : ce = i.size := by cases cro <;> simp at hroe; exact hroe.1
        have hct : ct = e := by cases cro <;> simp at hroe; exact hroe.2
        subst hct
        have hpex : p.ex = false := by rw [g3]; simpa using hex
        have h6 := h5 hpex
        rw [g2, hce] at h6
        by_cases hin : len + n ≤ rc
        · have hro : ro = p.base + off := h3.resolve_left (by omega)
          subst hro
          have hmul : (len + n) * i.size ≤ rc * i.size := Nat.mul_le_mul_right _ hin
          have hmul2 : (len + n) * i.size = len * i.size + n * i.size := Nat.add_mul _ _ _
          have hall' : new'.toList.all isCell = true := by
            rw [List.all_eq_true] at hall ⊢
            intro u hu2
            obtain ⟨k, hk⟩ := List.mem_iff_getElem?.1 hu2
            have hk' : k < new.length := by rw [s2.1]; exact (List.getElem?_eq_some_iff.1 hk).1
            rw [isCell_rel (s2.2 k _ u (List.getElem?_eq_getElem hk') hk)]
            exact hall _ (List.getElem_mem hk')
          have hnl2 : new'.toList.length = n * i.size := by simpa using hnl'
          obtain ⟨rc', w', r1, r2, r3, r4, r5, r6, r7, r8⟩ := run_storeC (P := P) new'.toList (p.base + off + len * i.size) 0 rcs w g1 (by rw [hnl2]; omega) (noFr (g8 (by rw [← g4]; exact hro2))) hall'
          have hpiece : off + len * i.size ≤ cl.length := by
            unfold piece at hold
            split at hold <;> (try cases hold)
            assumption
          have hoe : old = (cl.drop off).take (len * i.size) := by
            unfold piece at hold
            rw [if_pos hpiece] at hold; exact (Option.some.inj hold).symm
          have hle := Bt.le_upd ⟨p.rb, p.base + off, p.sz, i.size, false, false⟩ h.nextNone
          refine ⟨.slice (some ⟨p.rb, p.base + off, none⟩) (len + n) rc, w', _, ?_, hle, .sl (p := ⟨p.rb, p.base + off, p.sz, i.size, false, false⟩) (Bt.upd_at _ _ _) (Nat.le_refl _) hin (.inr rfl) (fun e => by cases e) (fun _ => h6),
            h.again (p := p) (o := .cells (old ++ new) ct i.size false false) (ro := .cells rc' ct fr) (p' := ⟨p.rb, p.base + off, p.sz, i.size, false, false⟩) hg hb2 hro2 rfl rfl ⟨rc', fr, rfl, rfl, rfl, rfl, by rw [r6, g5], by simp [holdl, hnl]; omega, fun j v v' q1 q2 => ?_, fun _ => ?_⟩ r2 r3 r4 r5⟩
          · rw [hrun2, hy2, run_append_in (w' := w') ht hu hs hi s3 s1 hin (by simp only [addr_add]; exact r1)]
            rfl
          · refine VRel.mono hle ?_
            simp only at q2
            by_cases hj : j < old.length
            · rw [List.getElem?_append_left hj, hoe, List.getElem?_take] at q1
              split at q1
              · rw [List.getElem?_drop] at q1
                rw [r8 _ (by left; omega)] at q2
                exact g7 (off + j) v v' q1 (by rw [← q2]; congr 1; omega)
              · cases q1
            · rw [List.getElem?_append_right (by omega)] at q1
              have hlt := (List.getElem?_eq_some_iff.1 q1).1
              have hr7 := r7 (j - old.length) (by rw [hnl2]; omega)
              rw [show p.base + off + len * i.size + 0 + (j - old.length) = p.base + off + j from by omega] at hr7
              rw [hr7] at q2
              exact s2.2 _ v v' q1 q2
          · rw [r6]
            exact g8 (by rw [← g4]; exact hro2)
        · obtain ⟨v', w', β', k0, k1, k2, k3⟩ := grows (by omega) (H.kill b) (h.kill b) (by simp)
          exact ⟨v', w', β', by rw [hrun2, k0]; rfl, k1, k2, k3⟩
    · cases hap
end
end Go.E

namespace Go.E
section
variable {P : Program} {Fz : Fr} {w0 : World} {β : Bt} {H H' : AHeap} {w : World} {env : Env} {a : Act} {o : Oper} {res : Res}

theorem strCells_rel (β : Bt) (l : List UInt8) : LRel β (l.map fun b => Value.int .u8 b.toNat) (l.map fun b => Value.int .u8 b.toNat) := by
  refine ⟨rfl, fun j u u' x y => ?_⟩
  rw [x] at y; cases y
  simp only [List.getElem?_map] at x
  obtain ⟨b, _, rfl⟩ := map_some x
  exact .int _ _

theorem freeze_end {b n : Nat} {rc : Array Value} {t : TypeId} {fr : Nat × Nat} (hh : w.heap[b]? = some (.cells rc t fr)) (hs : n = rc.size) (hfr : fr.1 = fr.2 ∨ rc.size ≤ fr.1) :
    ∃ fr' : Nat × Nat, (w.freeze ⟨b, n, none⟩ 1).heap = w.heap.setIfInBounds b (.cells rc t fr') ∧ (fr'.1 = fr'.2 ∨ rc.size ≤ fr'.1) := by
  obtain ⟨lo, hi⟩ := fr
  refine ⟨if lo == hi then (n, n + 1) else (min lo n, max hi (n + 1)), ?_, ?_⟩
  · unfold World.freeze
    rw [if_neg (by omega)]
    apply Array.ext_getElem?
    intro k
    simp only [Array.getElem?_modify]
    by_cases e : b = k
    · subst e
      rw [if_pos rfl, hh, Array.getElem?_setIfInBounds_self, if_pos (Array.getElem?_eq_some_iff.1 hh).1]
      rfl
    · rw [if_neg e, Array.getElem?_setIfInBounds_ne e]
  · right
    by_cases e : lo = hi
    · simp only [e, beq_self_eq_true, if_true]; omega
    · have e' : (lo == hi) = false := by simpa using e
      simp only [e', Bool.false_eq_true, if_false]
      simp only at hfr
      omega

theorem shape_at {b : Nat} {rc : Array Value} {t : TypeId} {fr : Nat × Nat} (hh : w.heap[b]? = some (.cells rc t fr)) : w.shape? b = some (t, rc.size) := by simp [World.shape?, hh]

theorem snd_strBytes (h : Rel P Fz w0 β H w) (he : EnvRel β env a.tmps) {s d e : TypeId} {x : Operand} (hs : P.underlying s = some .string) (hd : P.underlying d = some (.slice e)) (hu : P.underlying e = some (.int .u8))
    (ho : o.op = .convert s d x) (ha : aop env H (.strBytes e x) = some (res, H')) : RRel P Fz w0 β w H' res ((execOp a.eval o).run P w) := by
  simp only [aop] at ha
  split at ha <;> (try cases ha)
  rename_i st hx
  split at ha <;> (try cases ha)
  rename_i hmax
  have hy := (opv_rel he hx).invStr
  -- the real row
  generalize hk : w.tape w.drawn (.appendCap st.size 0 e) % (9223372036854775808 - st.size) = q
  obtain ⟨cp, hcpe⟩ : ∃ cp, cp = st.size + q := ⟨_, rfl⟩
  have hcp : st.size ≤ cp := by omega
  let el : Array Value := st.data.map fun b => .int .u8 b.toNat
  have hel : el.size = st.size := by simp [el]
  let row : Array Value := el ++ Array.replicate q (.int .u8 0)
  have hrow : row.size = cp := by simp [row, hel]; omega
  let w1 : World := { w.drew with heap := w.heap.push (.cells row e) }
  have hh : w1.heap[w.heap.size]? = some (.cells row e (0, 0)) := by simp [w1]
  obtain ⟨fr', hf1, hf2⟩ := freeze_end hh (n := cp) hrow.symm (.inl rfl)
  have hle := Bt.le_upd ⟨w.heap.size, 0, cp, 1, false, false⟩ h.nextNone
  have hrel0 := (drewRel h).alloc (p := ⟨w.heap.size, 0, cp, 1, false, false⟩) (o := .cells (st.data.toList.map fun b => .int .u8 b.toNat) e 1 false false) (ro := .cells row e (0, 0)) rfl rfl
    ⟨row, (0, 0), rfl, rfl, rfl, rfl, hrow, by simp; exact hcp, fun j v v' q1 q2 => by
      have hj : j < st.size := by have := (List.getElem?_eq_some_iff.1 q1).1; simpa using this
      simp only [Nat.zero_add, row] at q2
      rw [Array.getElem?_append_left (by omega)] at q2
      simp only [el, Array.getElem?_map] at q2
      simp only [List.getElem?_map] at q1
      obtain ⟨b, hb, rfl⟩ := map_some q1
      obtain ⟨b', hb', rfl⟩ := map_some q2
      rw [Array.getElem?_toList] at hb
      rw [hb] at hb'; cases hb'
      exact .int _ _, fun _ => .inl rfl⟩
  have hrel1 := hrel0.set (i := H.next) (p := ⟨w.heap.size, 0, cp, 1, false, false⟩) (o := .cells (st.data.toList.map fun b => .int .u8 b.toNat) e 1 false false) (ro := .cells row e fr') (w' := w1.freeze ⟨w.heap.size, cp, none⟩ 1)
    (by rw [AHeap.get_alloc, if_pos rfl]) (Bt.upd_at _ _ _) rfl
    ⟨row, fr', rfl, rfl, rfl, rfl, hrow, by simp; exact hcp, fun j v v' q1 q2 => by
      have hj : j < st.size := by have := (List.getElem?_eq_some_iff.1 q1).1; simpa using this
      simp only [Nat.zero_add, row] at q2
      rw [Array.getElem?_append_left (by omega)] at q2
      simp only [el, Array.getElem?_map] at q2
      simp only [List.getElem?_map] at q1
      obtain ⟨b, hb, rfl⟩ := map_some q1
      obtain ⟨b', hb', rfl⟩ := map_some q2
      rw [Array.getElem?_toList] at hb
      rw [hb] at hb'; cases hb'
      exact .int _ _, fun _ => hf2⟩ hf1 (by unfold World.freeze; split <;> rfl) (by unfold World.freeze; split <;> rfl) (by unfold World.freeze; split <;> rfl)
  have hset : (H.alloc (.cells (st.data.toList.map fun b => .int .u8 b.toNat) e 1 false false)).set H.next (.cells (st.data.toList.map fun b => .int .u8 b.toNat) e 1 false false) =
      H.alloc (.cells (st.data.toList.map fun b => .int .u8 b.toNat) e 1 false false) := by
    simp [AHeap.set, AHeap.alloc, AHeap.next]
  rw [hset] at hrel1
  refine ⟨.slice (some ⟨w.heap.size, 0, none⟩) st.size cp, w1.freeze ⟨w.heap.size, cp, none⟩ 1, _, ?_, hle, .sl (p := ⟨w.heap.size, 0, cp, 1, false, false⟩) (Bt.upd_at _ _ _) (Nat.le_refl _) hcp (.inr rfl) (fun e => by cases e) (fun _ => by simp), hrel1⟩
  unfold execOp; rw [ho]
  have hshape : (w.drew.alloc (.cells row e)).shape? w.heap.size = some (e, cp) := by rw [← hrow]; exact shape_at (w := w1) hh
  simp [Go.convert, run_und hs, run_und hd, run_und hu, hy, Conv.stringToBytes, Question.forced, Question.cut, newRow, markStringish, hk]
  change Result.andThen (Result.andThen (Sem.run P (match (w.drew.alloc (.cells row e)).shape? w.heap.size with | some (_, n) => freeze ⟨w.heap.size, n, none⟩ 1 | x => pure ()) (w.drew.alloc (.cells row e))) _) _ = _
  rw [hshape]
  simp only [run_freeze, Result.andThen_ok]
  rw [← hcpe]
  rfl
end
end Go.E

namespace Go.E
section
variable {P : Program} {Fz : Fr} {w0 : World} {β : Bt} {H H' : AHeap} {w : World} {env : Env} {a : Act} {o : Oper} {res : Res}

theorem u8s_spec : ∀ {cs : List Value} {bs : List UInt8}, u8s cs = some bs → ∃ ns : List Int, cs = ns.map (Value.int .u8) ∧ bs = ns.map fun n => UInt8.ofNat n.toNat
  | [], bs, h => by simp [u8s] at h; subst h; exact ⟨[], rfl, rfl⟩
  | v :: r, bs, h => by
    unfold u8s at h
    split at h
    · rename_i e; cases e
    · rename_i n r' e
      cases e
      obtain ⟨z, hz, rfl⟩ := map_some h
      obtain ⟨ns, rfl, rfl⟩ := u8s_spec hz
      exact ⟨n :: ns, rfl, rfl⟩
    · cases h
theorem ints_rel {β : Bt} {k : IntKind} {ns : List Int} {l : List Value} (h : LRel β (ns.map (Value.int k)) l) : l = ns.map (Value.int k) := by
  apply List.ext_getElem?
  intro i
  cases hx : (ns.map (Value.int k))[i]? with
  | none =>
    rw [List.getElem?_eq_none_iff] at hx
    rw [List.getElem?_eq_none_iff, ← h.1]; exact hx
  | some v =>
    obtain ⟨v', h1, h2⟩ := h.get hx
    rw [h1]
    simp only [List.getElem?_map] at hx
    obtain ⟨n, _, rfl⟩ := map_some hx
    rw [h2.invInt]
theorem foldl_push (ns : List Int) : ∀ r : ByteArray, (ns.foldl (fun r n => r.push (UInt8.ofNat n.toNat)) r).data.toList = r.data.toList ++ ns.map fun n => UInt8.ofNat n.toNat := by
  induction ns with
  | nil => intro r; simp
  | cons n ns ih => intro r; simp only [List.foldl_cons]; rw [ih]; simp [ByteArray.push]

theorem snd_bytesStr (h : Rel P Fz w0 β H w) (he : EnvRel β env a.tmps) {s d e : TypeId} {x : Operand} (hs : P.underlying s = some (.slice e)) (hd : P.underlying d = some .string) (hu : P.underlying e = some (.int .u8))
    (ho : o.op = .convert s d x) (ha : aop env H (.bytesStr x) = some (res, H')) : RRel P Fz w0 β w H' res ((execOp a.eval o).run P w) := by
  simp only [aop] at ha
  split at ha <;> (try cases ha)
  rename_i v hx
  split at ha <;> (try cases ha)
  rename_i n hn
  split at ha <;> (try cases ha)
  rename_i bs hbs
  split at ha <;> (try cases ha)
  rename_i ad len cap
  have hr := opv_rel he hx
  obtain ⟨cs, hcs, hu8⟩ := Option.bind_eq_some_iff.1 hbs
  obtain ⟨ns, rfl, rfl⟩ := u8s_spec hu8
  simp only [srcLen] at hn; cases hn
  obtain ⟨cs', s1, s2, _⟩ := src_snd h hr (m := _) rfl (Nat.le_refl _) hcs
  have hc' := ints_rel s2
  have key : ∀ {r : ByteArray}, r.data.toList = ns.map (fun n => UInt8.ofNat n.toNat) → r = ⟨(ns.map fun n => UInt8.ofNat n.toNat).toArray⟩ := by
    intro r hr'
    cases r with
    | mk dd => congr 1; rw [← Array.toList_inj]; simpa using hr'
  cases ad with
  | none =>
    obtain ⟨hy, e1, _⟩ := hr.invSlN
    subst e1
    have : ns = [] := by
      have := src_len (n := 0) (size := 1) (v := .slice none 0 cap) rfl hcs
      simpa using this
    subst this
    refine RRel.pure h (.string _) ?_
    unfold execOp; rw [ho]
    simp [Go.convert, run_und hs, run_und hd, run_und hu, hy, Conv.bytesToString]
    rfl
  | some ad =>
    have hsh : ∃ b ro rc, a.eval x = .slice (some ⟨b, ro, none⟩) n rc := by
      cases hy : a.eval x <;> rw [hy] at hr <;> cases hr
      · exact ⟨_, _, _, rfl⟩
      · simp [srcCells] at hcs
    obtain ⟨b, ro, rc, hy⟩ := hsh
    rw [hy] at s1
    simp only [Builtin.firstCells, Nat.mul_one] at s1
    refine RRel.pure h (.string _) ?_
    unfold execOp; rw [ho]
    have hl : (Go.loadCells ⟨b, ro, none⟩ n).run P w = .ok (ns.map (Value.int .u8)).toArray w := by
      rw [s1]; congr 1; rw [← Array.toList_inj]; simpa using hc'
    have := run_bytesToString w ⟨b, ro, none⟩ n rc ns hl
    simp only [Go.convert, Sem.run_bind, run_und hs, run_und hd, Result.andThen_ok, hy, run_und hu, this, Sem.run_pure]
    rw [key (r := ns.foldl (fun r n => r.push (UInt8.ofNat n.toNat)) ByteArray.empty) (by rw [foldl_push]; rfl)]

theorem snd_markStr (h : Rel P Fz w0 β H w) (he : EnvRel β env a.tmps) {s e : TypeId} {x : Operand} (hs : P.underlying s = some (.slice e)) (hu : P.underlying e = some (.int .u8))
    (ho : o.op = .convert s s x) (ha : aop env H (.markStr x) = some (res, H')) : RRel P Fz w0 β w H' res ((execOp a.eval o).run P w) := by
  simp only [aop] at ha
  split at ha <;> (try cases ha)
  rename_i i off n cp hx
  split at ha <;> (try cases ha)
  rename_i c t e2 ex hg
  obtain ⟨p, ro, rc, hb, hy, h1, h2, h3, h4, h5⟩ := (opv_rel he hx).invSl
  obtain ⟨rcs, fr, g1, g2, g3, g4, g5, g6, g7, g8⟩ := block_of h hg hb
  obtain ⟨fr', f1, f2⟩ := freeze_end g1 rfl (g8 rfl)
  have hset : H.set i (.cells c t e2 ex false) = H := by
    have hlt := AHeap.get_lt hg
    have : H.objs[i]? = some (some (.cells c t e2 ex false)) := by
      unfold AHeap.get at hg
      cases hx : H.objs[i]? with
      | none => rw [hx] at hg; cases hg
      | some o => rw [hx] at hg; simp at hg; rw [hg]
    cases H with
    | mk objs =>
      simp only [AHeap.set, AHeap.mk.injEq]
      apply List.ext_getElem?
      intro k
      rw [List.getElem?_set]
      split
      · rename_i ek; subst ek
        rw [if_pos (by simpa [AHeap.next] using hlt)]; exact this.symm
      · rfl
  have hrel := h.set (i := i) (p := p) (o := .cells c t e2 ex false) (ro := .cells rcs t fr') (w' := w.freeze ⟨p.rb, rcs.size, none⟩ 1) hg hb g4 ⟨rcs, fr', rfl, g2, g3, g4, g5, g6, g7, fun _ => f2⟩ f1
    (by unfold World.freeze; split <;> rfl) (by unfold World.freeze; split <;> rfl) (by unfold World.freeze; split <;> rfl)
  rw [hset] at hrel
  refine ⟨.slice (some ⟨p.rb, ro, none⟩) n rc, _, β, ?_, Bt.le_refl β, .sl hb h1 h2 h3 h4 h5, hrel⟩
  unfold execOp; rw [ho]
  simp [Go.convert, run_und hs, run_und hu, hy, markStringish, shape_at g1]

theorem snd_mkslice (h : Rel P Fz w0 β H w) (he : EnvRel β env a.tmps) {t e : TypeId} {l c : Operand} {i : TypeInfo} {z : Value} (hu : P.underlying t = some (.slice e)) (hi : P.info? e = some i)
    (hz : i.zero = some z) (ho : o.op = .makeSlice t l c) (ha : aop env H (.mkslice e i.size i.bytes z.cells.toList l c) = some (res, H')) : RRel P Fz w0 β w H' res ((execOp a.eval o).run P w) := by
  simp only [aop] at ha
  split at ha <;> (try cases ha)
  rename_i ln cp hl hc
  split at ha <;> (try cases ha)
  rename_i hcond
  obtain ⟨c1, c2, c3, c4, c5, c6⟩ := hcond
  have el := (opv_rel he hl).invInt
  have ec := (opv_rel he hc).invInt
  have hbytes : (i.bytes : Int) * cp ≤ 281474976710656 := by rw [Int.mul_comm]; unfold maxB at c4; omega
  have hrun := run_make (P := P) w t e i z hu hi hz .i64 .i64 ln cp c1 c2 hbytes (by unfold maxB at c3; omega)
  have hmk := mkCells_rel β c5 c6
  obtain ⟨h1, h2⟩ := new_snd h (t := e) i.size true hmk
  refine ⟨.slice (some ⟨w.heap.size, 0, none⟩) ln.toNat cp.toNat, _, _, ?_, h2, .sl (p := ⟨w.heap.size, 0, _, i.size, true, false⟩) (Bt.upd_at _ _ _) (by omega) (Nat.le_refl _) (.inr rfl) (fun _ => rfl) (fun e => by cases e), h1⟩
  unfold execOp; rw [ho]
  simp only [el, ec, Sem.run_bind, hrun, Result.andThen_ok, Sem.run_pure]
  rfl

theorem snd_clear (h : Rel P Fz w0 β H w) (he : EnvRel β env a.tmps) {t e : TypeId} {i : TypeInfo} {z : Value} {x : Operand} {c : Call} (hu : P.underlying t = some (.slice e)) (hi : P.info? e = some i) (hz : i.zero = some z)
    (hc : c.callee = .builtin .clear) (hargs : c.args.toList = [x]) (hty : c.argTypes.toList = [t]) (ho : o.op = .call c) (ha : aop env H (.clear i.size z.cells.toList x) = some (res, H')) :
    RRel P Fz w0 β w H' res ((execOp a.eval o).run P w) := by
  obtain ⟨consts, hrun⟩ := run_builtin (P := P) (w := w) (a := a) hc ho
  obtain ⟨hA, hT⟩ := args1 (a := a) hargs hty
  rw [hA, hT] at hrun
  simp only [aop] at ha
  split at ha <;> (try cases ha)
  · rename_i hx
    obtain ⟨hy, _, _⟩ := (opv_rel he hx).invSlN
    refine RRel.pure h (LRel.tuple (LRel.nil β)) ?_
    rw [hrun]; simp [builtin, Builtin.clear_, run_und hu, hy]
  · rename_i b off n cp hx
    obtain ⟨p, ro, rc, hb, hy, h1, h2, h3, h4, h5⟩ := (opv_rel he hx).invSl
    split at ha
    · rename_i hn
      cases ha
      subst hn
      refine RRel.pure h (LRel.tuple (LRel.nil β)) ?_
      rw [hrun]; simp [builtin, Builtin.clear_, run_und hu, hy]
    · rename_i hn
      split at ha <;> (try cases ha)
      rename_i hcond
      obtain ⟨H2, hs, e0⟩ := map_some ha
      cases e0
      have hro : ro = p.base + off := h3.resolve_left (by omega)
      subst hro
      have hzl : z.cells.size = i.size := by simpa using hcond.1
      have hlr : LRel β (mkCells z.cells.toList (n * i.size)) (Builtin.zeroCells z.cells n).toList := by
        unfold Builtin.zeroCells
        rw [hzl]
        have hzc := mkCells_rel β (z := z.cells) (n := n * i.size) hcond.2 (by
          by_cases h0 : i.size = 0
          · right; simp [h0]
          · left; rw [hcond.1]; exact h0)
        rw [hzl] at hzc
        exact hzc
      obtain ⟨b2, off2, w', q1, q2, q3⟩ := store_snd h (v' := .pointer (some ⟨p.rb, p.base + off, none⟩)) (.ptr off hb) hlr hs
      cases q1
      refine ⟨.tuple #[], w', β, ?_, Bt.le_refl β, LRel.tuple (LRel.nil β), q3⟩
      rw [hrun]
      cases n with
      | zero => exact absurd rfl hn
      | succ n => simp [builtin, Builtin.clear_, run_und hu, hy, run_zero hi hz, q2]
end
end Go.E

namespace Go.E
section
variable {P : Program} {Fz : Fr} {w0 : World} {β : Bt} {H H' : AHeap} {w : World} {env : Env} {a : Act} {o : Oper} {res : Res}

theorem same_rel {u : TypeDesc} {k k' e e' : Value} {b : Bool} (h : Go.Instr.sameNow u k e = some b) (hk : VRel β k k') (he : VRel β e e') : Go.Instr.sameNow u k' e' = some b := by
  unfold Go.Instr.sameNow at h
  split at h
  · rw [hk.invInt, he.invInt]; exact h
  · rw [hk.invStr, he.invStr]; exact h
  · rw [hk.invBool, he.invBool]; exact h
  · cases h

theorem find_rel {u : TypeDesc} {k k' : Value} (hk : VRel β k k') : ∀ (es : List (Value × Value × Nat)) (rs : List MapEntry) (i : Nat) (r : Option (Nat × Value)), es.length = rs.length →
    (∀ (j : Nat) (e : Value × Value × Nat) (q : MapEntry), es[j]? = some e → rs[j]? = some q → VRel β e.1 q.key ∧ VRel β e.2.1 q.val ∧ q.born = e.2.2) → findK u k es i = some r →
    ∃ r', Go.Instr.findNow u k' rs i = some r' ∧ (match r, r' with | none, none => True | some (j, v), some (j', v') => j = j' ∧ VRel β v v' ∧ i ≤ j ∧ j < i + es.length | _, _ => False)
  | [], rs, i, r, hl, _, h => by
    have : rs = [] := List.length_eq_zero_iff.1 (by simpa using hl.symm)
    subst this
    simp only [findK] at h; cases h
    exact ⟨none, rfl, trivial⟩
  | e :: es, rs, i, r, hl, hr, h => by
    cases rs with
    | nil => simp at hl
    | cons q rs =>
      obtain ⟨h1, h2, h3⟩ := hr 0 e q rfl rfl
      simp only [findK] at h
      simp only [Go.Instr.findNow]
      split at h
      · rename_i hs
        cases h
        rw [same_rel hs hk h1]
        exact ⟨_, rfl, rfl, h2, Nat.le_refl _, by simp⟩
      · rename_i hs
        rw [same_rel hs hk h1]
        obtain ⟨r', g1, g2⟩ := find_rel hk es rs (i + 1) r (by simpa using hl) (fun j e q x y => hr (j + 1) e q (by simpa using x) (by simpa using y)) h
        refine ⟨r', g1, ?_⟩
        cases r <;> cases r' <;> simp only at g2 ⊢
        · obtain ⟨m1, m2, m3, m4⟩ := g2
          exact ⟨m1, m2, by omega, by simp only [List.length_cons]; omega⟩
      · cases h

theorem run_checkKey {u : TypeDesc} {kt : TypeId} (hk : P.underlying kt = some u) (hp : plainKey u = true) (em : Bool) (n : Nat) (v : Value) : (Go.Instr.checkKey em (n + 1) kt v).run P w = .ok () w := by
  unfold Go.Instr.checkKey
  simp only [Sem.run_bind, run_und hk, Result.andThen_ok]
  cases u <;> first | (cases hp; done) | (cases v <;> rfl)

theorem run_findKey' {u : TypeDesc} {kt : TypeId} (hk : P.underlying kt = some u) {v : Value} {l : List MapEntry} {r : Option (Nat × Value)} (h : Go.Instr.findNow u v l 0 = some r) : (Go.Instr.findKey kt v l).run P w = .ok r w := by
  unfold Go.Instr.findKey
  simp only [Sem.run_bind, run_und hk, Result.andThen_ok, h]
  rfl

theorem snd_look (h : Rel P Fz w0 β H w) (he : EnvRel β env a.tmps) {t kt e : TypeId} {u : TypeDesc} {i : TypeInfo} {z : Value} {m k : Operand} {ok : Bool} (hu : P.underlying t = some (.map kt e)) (hk : P.underlying kt = some u)
    (hi : P.info? e = some i) (hz : i.zero = some z) (ho : o.op = .lookup t m k ok) (ha : aop env H (.look u z m k ok) = some (res, H')) : RRel P Fz w0 β w H' res ((execOp a.eval o).run P w) := by
  simp only [aop] at ha
  split at ha <;> (try cases ha)
  rename_i mv kv hm hkv
  split at ha <;> (try cases ha)
  rename_i es hes
  split at ha <;> (try cases ha)
  rename_i r hf
  split at ha <;> (try cases ha)
  rename_i hc
  have hmr := opv_rel he hm
  have hkr := opv_rel he hkv
  have hck : ∀ em, (Go.Instr.checkKey em 10000 kt (a.eval k)).run P w = .ok () w := fun em => run_checkKey hk hc.2 em 9999 _
  have fin : ∀ (rs : Array MapEntry), es.length = rs.size → (∀ (j : Nat) (e : Value × Value × Nat) (q : MapEntry), es[j]? = some e → rs[j]? = some q → VRel β e.1 q.key ∧ VRel β e.2.1 q.val ∧ q.born = e.2.2) →
      (∀ (x : Sem (Array MapEntry)), x.run P w = .ok rs w → True) →
      ∃ r' v', (Go.Instr.findKey kt (a.eval k) rs.toList).run P w = .ok r' w ∧ v' = pickV z r' ∧ r'.isSome = r.isSome ∧ VRel β (pickV z r) v' := by
    intro rs hl hr _
    obtain ⟨r', g1, g2⟩ := find_rel hkr es rs.toList 0 r (by simpa using hl) (fun j e q x y => hr j e q x (by simpa using y)) hf
    refine ⟨r', _, run_findKey' (w := w) hk g1, rfl, ?_, ?_⟩
    · cases r <;> cases r' <;> first | rfl | exact g2.elim
    · cases r <;> cases r' <;> first | exact g2.elim | exact clo_rel β hc.1 | exact g2.2.1
  have fin2 : ∀ (rs : Array MapEntry) (r' : Option (Nat × Value)), r'.isSome = r.isSome → VRel β (pickV z r) (pickV z r') → (Go.Instr.findKey kt (a.eval k) rs.toList).run P w = .ok r' w →
      ((match a.eval k with | _ => Go.Instr.findKey kt (a.eval k) rs.toList).run P w = .ok r' w) := fun _ _ _ _ h => h
  have out : ∀ r' : Option (Nat × Value), r'.isSome = r.isSome → VRel β (pickV z r) (pickV z r') → VRel β (if ok then .tuple #[pickV z r, .bool r.isSome] else pickV z r) (if ok then .tuple #[pickV z r', .bool r'.isSome] else pickV z r') := by
    intro r' e1 hv
    rw [e1]
    cases ok
    · exact hv
    · exact LRel.tuple (LRel.cons hv (LRel.cons (.bool _) (LRel.nil β)))
  split at hes
  · cases hes
    have hy := hmr.invMapN
    obtain ⟨r', v', f1, rfl, f3, f4⟩ := fin #[] rfl (fun j e q x => by simp at x) (fun _ _ => trivial)
    refine RRel.pure h (out r' f3 f4) ?_
    unfold execOp; rw [ho]
    cases r' <;> (simp at f1; simp [Go.Instr.lookup, run_und hu, hy, hck, f1, run_zero hi hz, pickV])
  · rename_i j
    split at hes <;> (try cases hes)
    rename_i es' clk hg
    obtain ⟨p, hb, hy⟩ := hmr.invMap
    obtain ⟨q, ro, h1, h2, h3⟩ := h.live j _ hg
    rw [hb] at h1; cases h1
    obtain ⟨_, rs, rfl, hsz, hall⟩ := h3
    obtain ⟨r', v', f1, rfl, f3, f4⟩ := fin rs hsz.symm hall (fun _ _ => trivial)
    refine RRel.pure h (out r' f3 f4) ?_
    unfold execOp; rw [ho]
    cases r' <;> simp [Go.Instr.lookup, run_und hu, hy, hck, f1, run_zero hi hz, pickV, run_getO h2 (by simp)]
  · cases hes
end
end Go.E

namespace Go.E
section
variable {P : Program} {Fz : Fr} {w0 : World} {β : Bt} {H H' : AHeap} {w : World} {env : Env} {a : Act} {o : Oper} {res : Res}

theorem findNow_spec {u : TypeDesc} {k : Value} : ∀ (l : List MapEntry) (i j : Nat) (v : Value), Go.Instr.findNow u k l i = some (some (j, v)) → i ≤ j ∧ ∃ q, l[j - i]? = some q ∧ Go.Instr.sameNow u k q.key = some true
  | [], i, j, v, h => by simp [Go.Instr.findNow] at h
  | e :: l, i, j, v, h => by
    simp only [Go.Instr.findNow] at h
    split at h
    · rename_i hs
      cases h
      exact ⟨Nat.le_refl _, e, by simp, hs⟩
    · obtain ⟨h1, q, h2, h3⟩ := findNow_spec l (i + 1) j v h
      refine ⟨by omega, q, ?_, h3⟩
      rw [show j - i = (j - (i + 1)) + 1 from by omega]
      simpa using h2
    · cases h
theorem sameBits_of {u : TypeDesc} {k e : Value} (h : Go.Instr.sameNow u k e = some true) (n : Nat) : Go.Instr.sameBits n e k = true := by
  unfold Go.Instr.sameNow at h
  split at h
  · split at h
    · rename_i hk; subst hk
      simp at h
      unfold Go.Instr.sameBits; first | (simp [h]; done) | (subst h; simp; done) | (rw [h]; simp; done)
    · cases h
  · rename_i s t
    have hst : (s == t) = true := by simpa using h
    have hd : s.data = t.data := eq_of_beq (show (s.data == t.data) = true from hst)
    have e : s = t := by cases s; cases t; simp at hd; rw [hd]
    subst e
    unfold Go.Instr.sameBits; exact hst
  · simp at h
    unfold Go.Instr.sameBits; first | (simp [h]; done) | (subst h; simp; done) | (rw [h]; simp; done)
  · cases h

theorem snd_mput (h : Rel P Fz w0 β H w) (he : EnvRel β env a.tmps) {t kt e : TypeId} {u : TypeDesc} {m k x : Operand} (hu : P.underlying t = some (.map kt e)) (hk : P.underlying kt = some u)
    (ho : o.op = .mapUpdate t m k x ∨ o.op = .insert t m k x) (ha : aop env H (.mput u m k x) = some (res, H')) : RRel P Fz w0 β w H' res ((execOp a.eval o).run P w) := by
  have hrun : (execOp a.eval o).run P w = ((Go.Instr.mapUpdate t (a.eval m) (a.eval k) (a.eval x)).run P w).andThen fun _ w' => .ok .skip w' := by
    rcases ho with ho | ho <;> (unfold execOp; rw [ho]; simp)
  simp only [aop] at ha
  split at ha <;> (try cases ha)
  rename_i i kv xv hm hkv hxv
  split at ha <;> (try cases ha)
  rename_i es clk hg
  split at ha <;> (try cases ha)
  rename_i hp
  have hkr := opv_rel he hkv
  have hxr := opv_rel he hxv
  obtain ⟨p, hb, hy⟩ := (opv_rel he hm).invMap
  obtain ⟨q, ro, h1, h2, h3⟩ := h.live i _ hg
  rw [hb] at h1; cases h1
  obtain ⟨hpr, rs, rfl, hsz, hall⟩ := h3
  have hck : (Go.Instr.checkKey false 10000 kt (a.eval k)).run P w = .ok () w := run_checkKey hk hp false 9999 _
  have hfr : ∀ r, findK u kv es 0 = some r → ∃ r', Go.Instr.findNow u (a.eval k) rs.toList 0 = some r' ∧ (match r, r' with | none, none => True | some (j, v), some (j', v') => j = j' ∧ VRel β v v' ∧ 0 ≤ j ∧ j < 0 + es.length | _, _ => False) :=
    fun r hr => find_rel hkr es rs.toList 0 r (by simpa using hsz.symm) (fun j e q x y => hall j e q x (by simpa using y)) hr
  split at ha <;> (try cases ha)
  · rename_i j v hf
    obtain ⟨r', g1, g2⟩ := hfr _ hf
    cases r' with
    | none => exact g2.elim
    | some r' =>
      obtain ⟨j', v'⟩ := r'
      obtain ⟨rfl, _, _, _⟩ := g2
      obtain ⟨_, qe, s1, s2⟩ := findNow_spec _ _ _ _ g1
      have hrf := run_findKey' (P := P) (w := w) hk g1
      have hsb := sameBits_of s2 10000
      simp only [Nat.sub_zero, Array.getElem?_toList] at s1
      refine ⟨{ w with heap := w.heap.setIfInBounds p.rb (.map (rs.modify j fun e => { e with key := a.eval k, val := a.eval x }) clk) }, β, ?_, Bt.le_refl β,
        h.set (p := p) (o := .map (es.modify j fun e => (kv, xv, e.2.2)) clk) (ro := .map (rs.modify j fun e => { e with key := a.eval k, val := a.eval x }) clk) hg hb hpr ⟨hpr, _, rfl, by simp [hsz], fun n e2 q2 x y => ?_⟩ rfl rfl rfl rfl⟩
      · rw [hrun, hy]
        simp [Go.Instr.mapUpdate, run_und hu, run_getO h2 (by simp), hck, hrf, s1, Go.Instr.keyThatStays, hsb, run_setO h2 (by simp)]
      · simp only [List.getElem?_modify] at x
        simp only [Array.getElem?_modify] at y
        obtain ⟨e3, he3, rfl⟩ := map_some x
        split at y
        · rename_i hjn; subst hjn
          obtain ⟨q3, hq3, rfl⟩ := map_some y
          rw [if_pos rfl]
          exact ⟨hkr, hxr, (hall _ _ _ he3 hq3).2.2⟩
        · rename_i hjn
          rw [if_neg hjn]
          exact hall _ _ _ he3 y
  · rename_i hf
    obtain ⟨r', g1, g2⟩ := hfr _ hf
    cases r' with
    | some r' => exact g2.elim
    | none =>
      have hrf := run_findKey' (P := P) (w := w) hk g1
      refine ⟨{ w with heap := w.heap.setIfInBounds p.rb (.map (rs.push { key := a.eval k, val := a.eval x, born := clk }) (clk + 1)) }, β, ?_, Bt.le_refl β,
        h.set (p := p) (o := .map (es ++ [(kv, xv, clk)]) (clk + 1)) (ro := .map (rs.push { key := a.eval k, val := a.eval x, born := clk }) (clk + 1)) hg hb hpr ⟨hpr, _, rfl, by simp [hsz], fun n e2 q2 x y => ?_⟩ rfl rfl rfl rfl⟩
      · rw [hrun, hy]
        simp [Go.Instr.mapUpdate, run_und hu, run_getO h2 (by simp), hck, hrf, run_setO h2 (by simp)]
      · simp only [Array.getElem?_push] at y
        by_cases hn : n < es.length
        · rw [List.getElem?_append_left hn] at x
          rw [if_neg (by omega)] at y
          exact hall n e2 q2 x y
        · have hn2 : n = es.length := by
            have := (List.getElem?_eq_some_iff.1 x).1; simp at this; omega
          subst hn2
          rw [List.getElem?_append_right (Nat.le_refl _)] at x
          simp at x; subst x
          rw [if_pos hsz.symm] at y; cases y
          exact ⟨hkr, hxr, rfl⟩

theorem snd_delete (h : Rel P Fz w0 β H w) (he : EnvRel β env a.tmps) {t t2 kt e : TypeId} {u : TypeDesc} {m k : Operand} {c : Call} (hu : P.underlying t = some (.map kt e)) (hk : P.underlying kt = some u)
    (hc : c.callee = .builtin .delete) (hargs : c.args.toList = [m, k]) (hty : c.argTypes.toList = [t, t2]) (ho : o.op = .call c) (ha : aop env H (.delete u m k) = some (res, H')) :
    RRel P Fz w0 β w H' res ((execOp a.eval o).run P w) := by
  obtain ⟨consts, hrun⟩ := run_builtin (P := P) (w := w) (a := a) hc ho
  rw [args2 (a := a) hargs, types2 hty] at hrun
  simp only [aop] at ha
  split at ha <;> (try cases ha)
  · rename_i i kv hm hkv
    split at ha <;> (try cases ha)
    rename_i es clk hg
    split at ha <;> (try cases ha)
    rename_i hp
    have hkr := opv_rel he hkv
    obtain ⟨p, hb, hy⟩ := (opv_rel he hm).invMap
    obtain ⟨q, ro, h1, h2, h3⟩ := h.live i _ hg
    rw [hb] at h1; cases h1
    obtain ⟨hpr, rs, rfl, hsz, hall⟩ := h3
    have hck : ∀ em, (Go.Instr.checkKey em 10000 kt (a.eval k)).run P w = .ok () w := fun em => run_checkKey hk hp em 9999 _
    have hfr : ∀ r, findK u kv es 0 = some r → ∃ r', Go.Instr.findNow u (a.eval k) rs.toList 0 = some r' ∧ (match r, r' with | none, none => True | some (j, v), some (j', v') => j = j' ∧ VRel β v v' ∧ 0 ≤ j ∧ j < 0 + es.length | _, _ => False) :=
      fun r hr => find_rel hkr es rs.toList 0 r (by simpa using hsz.symm) (fun j e q x y => hall j e q x (by simpa using y)) hr
    split at ha <;> (try cases ha)
    · rename_i j v hf
      obtain ⟨r', g1, g2⟩ := hfr _ hf
      cases r' with
      | none => exact g2.elim
      | some r' =>
        obtain ⟨j', v'⟩ := r'
        obtain ⟨rfl, _, _, hjl⟩ := g2
        have hrf := run_findKey' (P := P) (w := w) hk g1
        refine ⟨.tuple #[], { w with heap := w.heap.setIfInBounds p.rb (.map (rs.eraseIdxIfInBounds j) clk) }, β, ?_, Bt.le_refl β, LRel.tuple (LRel.nil β),
          h.set (p := p) (o := .map (es.eraseIdx j) clk) (ro := .map (rs.eraseIdxIfInBounds j) clk) hg hb hpr ⟨hpr, _, rfl, ?_, fun n e2 q2 x y => ?_⟩ rfl rfl rfl rfl⟩
        · rw [hrun, hy]
          simp [builtin, Builtin.delete_, run_und hu, run_getO h2 (by simp), hck, hrf, run_setO h2 (by simp)]
        · simp only [Nat.zero_add] at hjl
          have hj2 : j < rs.size := by omega
          rw [List.length_eraseIdx, if_pos hjl]
          have he2 : rs.eraseIdxIfInBounds j = rs.eraseIdx j hj2 := by simp [Array.eraseIdxIfInBounds, hj2]
          rw [he2, Array.size_eraseIdx, hsz]
        · simp only [Nat.zero_add] at hjl
          have hj2 : j < rs.size := by omega
          rw [List.getElem?_eraseIdx] at x
          have hy2 : (rs.toList.eraseIdx j)[n]? = some q2 := by
            rw [← y, ← Array.getElem?_toList]; congr 1
            simp [Array.eraseIdxIfInBounds, hj2]
          rw [List.getElem?_eraseIdx] at hy2
          split at x
          · rename_i hlt; rw [if_pos hlt] at hy2; exact hall n e2 q2 x (by simpa using hy2)
          · rename_i hlt; rw [if_neg hlt] at hy2; exact hall (n + 1) e2 q2 x (by simpa using hy2)
    · rename_i hf
      obtain ⟨r', g1, g2⟩ := hfr _ hf
      cases r' with
      | some r' => exact g2.elim
      | none =>
        have hrf := run_findKey' (P := P) (w := w) hk g1
        refine ⟨.tuple #[], { w with heap := w.heap.setIfInBounds p.rb (.map rs clk) }, β, ?_, Bt.le_refl β, LRel.tuple (LRel.nil β), ?_⟩
        · rw [hrun, hy]
          simp [builtin, Builtin.delete_, run_und hu, run_getO h2 (by simp), hck, hrf, run_setO h2 (by simp)]
        · have hw : w.heap.setIfInBounds p.rb (.map rs clk) = w.heap := by
            apply Array.ext_getElem?
            intro n
            by_cases en : p.rb = n
            · subst en; rw [Array.getElem?_setIfInBounds_self, if_pos (Array.getElem?_eq_some_iff.1 h2).1, h2]
            · rw [Array.getElem?_setIfInBounds_ne en]
          rw [hw]; exact h
  · rename_i kv hm hkv
    split at ha <;> (try cases ha)
    rename_i hp
    have hy := (opv_rel he hm).invMapN
    have hck : ∀ em, (Go.Instr.checkKey em 10000 kt (a.eval k)).run P w = .ok () w := fun em => run_checkKey hk hp em 9999 _
    refine RRel.pure h (LRel.tuple (LRel.nil β)) ?_
    rw [hrun, hy]
    simp [builtin, Builtin.delete_, run_und hu, hck]

theorem snd_rangeMap (h : Rel P Fz w0 β H w) (he : EnvRel β env a.tmps) {t kt e : TypeId} {x : Operand} (hu : P.underlying t = some (.map kt e)) (ho : o.op = .range t x)
    (ha : aop env H (.rangeMap x) = some (res, H')) : RRel P Fz w0 β w H' res ((execOp a.eval o).run P w) := by
  have hn := h.nextNone
  simp only [aop] at ha
  split at ha <;> (try cases ha)
  · rename_i hm
    have hy := (opv_rel he hm).invMapN
    refine ⟨.pointer (some ⟨w.heap.size, 0, none⟩), _, _, ?_, Bt.le_upd ⟨w.heap.size, 0, 0, 0, true, false⟩ hn, .ptr (p := ⟨w.heap.size, 0, 0, 0, true, false⟩) 0 (Bt.upd_at _ _ _),
      h.alloc (o := .miter none 0 [] 0) (ro := .mapIter none 0 #[] 0) rfl rfl ⟨rfl, rfl, none, rfl, rfl⟩⟩
    unfold execOp; rw [ho]
    simp [Go.Instr.range, run_und hu, hy]
  · rename_i i hm
    split at ha <;> (try cases ha)
    rename_i es clk hg
    obtain ⟨p, hb, hy⟩ := (opv_rel he hm).invMap
    obtain ⟨q, ro, h1, h2, h3⟩ := h.live i _ hg
    rw [hb] at h1; cases h1
    obtain ⟨hpr, rs, rfl, hsz, hall⟩ := h3
    refine ⟨.pointer (some ⟨w.heap.size, 0, none⟩), _, _, ?_, Bt.le_upd ⟨w.heap.size, 0, 0, 0, true, false⟩ hn, .ptr (p := ⟨w.heap.size, 0, 0, 0, true, false⟩) 0 (Bt.upd_at _ _ _),
      h.alloc (o := .miter (some i) clk [] clk) (ro := .mapIter (some p.rb) clk #[] clk) rfl rfl ⟨rfl, rfl, some p.rb, rfl, p, Bt.le_upd _ hn _ _ hb, rfl⟩⟩
    unfold execOp; rw [ho]
    simp [Go.Instr.range, run_und hu, hy, run_getO h2 (by simp)]
end
end Go.E

namespace Go.E
section
variable {P : Program} {Fz : Fr} {w0 : World} {β : Bt} {H H' : AHeap} {w : World} {env : Env} {a : Act} {o : Oper} {res : Res}

theorem snd_call (h : Rel P Fz w0 β H w) (he : EnvRel β env a.tmps) {c : Call} {f : FuncId} (hc : c.callee = .value (.func f)) (ho : o.op = .call c) (ha : aop env H (.call f c.args.toList) = some (res, H')) :
    RRel P Fz w0 β w H' res ((execOp a.eval o).run P w) := by
  simp only [aop] at ha
  obtain ⟨vs, hv, e⟩ := map_some ha
  cases e
  have hl := opvs_rel he hv
  refine ⟨c.args.map a.eval, ?_, by simpa using hl, h⟩
  unfold execOp; rw [ho]
  simp only [resolve, hc, Act.eval, Deferred.ofValue, Sem.run_bind, Sem.run_pure, Result.andThen_ok, invoke]
  simp

theorem snd_callv (h : Rel P Fz w0 β H w) (he : EnvRel β env a.tmps) {c : Call} {f : Operand} (hc : c.callee = .value f) (ho : o.op = .call c) (ha : aop env H (.callv f c.args.toList) = some (res, H')) :
    RRel P Fz w0 β w H' res ((execOp a.eval o).run P w) := by
  simp only [aop] at ha
  split at ha <;> (try cases ha)
  · rename_i g fa fc vs hf hv
    have hl := opvs_rel he hv
    have hr := opv_rel he hf
    obtain ⟨fa', fc', hy, l1, l2⟩ := hr.invFn
    refine ⟨fa' ++ c.args.map a.eval ++ fc', ?_, ?_, h⟩
    · unfold execOp; rw [ho]
      simp only [resolve, hc, hy, Deferred.ofValue, Sem.run_bind, Sem.run_pure, Result.andThen_ok, invoke]
    · simpa using (l1.append hl).append l2
  · rename_i l vs hf hv
    have hl := opvs_rel he hv
    have hr := opv_rel he hf
    obtain ⟨p, hb, hy⟩ := hr.invYield
    refine ⟨p, c.args.map a.eval, hb, by simpa using hl, ?_, h⟩
    unfold execOp; rw [ho]
    simp only [resolve, hc, hy, Deferred.ofValue, Sem.run_bind, Sem.run_pure, Result.andThen_ok, invoke]
    simp

theorem run_method {t : TypeId} {v : Value} {name : String} {f : FuncId} (hm : rmeth P t name = some f) (fuel : Nat) : (method (fuel + 1) t v name).run P w = .ok (f, v) w := by
  unfold rmeth at hm
  split at hm <;> (try cases hm)
  rename_i i hi
  split at hm <;> (try cases hm)
  rename_i m hf
  split at hm <;> (try cases hm)
  rename_i hp
  have hpl : m.path.toList = [] := by
    have : m.path.size = 0 := by simpa [Array.isEmpty] using hp
    simpa using this
  unfold method
  simp only [Sem.run_bind, run_info hi, Result.andThen_ok, hf, hpl, follow, Sem.run_pure]
  split at hm <;> (try cases hm)
  · rename_i h2 h1
    simp [h1, receiverAt, run_und h2, Place.get]
  · rename_i d h2 h3 h4
    simp only [h4, receiverAt, Sem.run_bind, run_und h3, Result.andThen_ok]
    simp only [Place.get, Sem.run_pure]
    rfl

theorem snd_callm (h : Rel P Fz w0 β H w) (he : EnvRel β env a.tmps) {c : Call} {x : Operand} {name : String} {t : TypeId} {v : Value} {vs : List Value} {f : FuncId} (hc : c.callee = .invoke x name) (ho : o.op = .call c)
    (hx : opv env x = some (.iface t v)) (hv : opvs env c.args.toList = some vs) (hm : rmeth P t name = some f) :
    RRel P Fz w0 β w H (.enter f (v :: vs)) ((execOp a.eval o).run P w) := by
  have hl := opvs_rel he hv
  have hr := opv_rel he hx
  cases hy : a.eval x <;> rw [hy] at hr <;> cases hr
  rename_i v' hvv
  refine ⟨#[v'] ++ c.args.map a.eval, ?_, by simpa using LRel.cons hvv hl, h⟩
  unfold execOp; rw [ho]
  simp only [resolve, hc, hy, Sem.run_bind, Sem.run_pure, Result.andThen_ok, invoke]
  have e1 : (#[Value.iface t v'] ++ c.args.map a.eval)[0]? = some (.iface t v') := by rw [Array.getElem?_append_left (by simp)]; rfl
  have e2 : (#[Value.iface t v'] ++ c.args.map a.eval).extract 1 (#[Value.iface t v'] ++ c.args.map a.eval).size = c.args.map a.eval := by
    rw [← Array.toList_inj]; simp [List.extract_eq_take_drop]; exact List.take_of_length_le (by simp)
  simp only [e1, e2, callMethod, Sem.run_bind, run_program, Result.andThen_ok]
  have hd : P.types.size + Made.depth = (P.types.size + 99) + 1 := rfl
  rw [hd, run_method hm]
  simp

end
end Go.E

namespace Go.E
section
variable {P : Program} {Fz : Fr} {w0 : World} {β : Bt} {H H' : AHeap} {w : World} {env : Env} {a : Act} {o : Oper} {res : Res}

/-- Entries, one by one. -/
def ERel (β : Bt) (es : List (Value × Value × Nat)) (rs : List MapEntry) : Prop :=
  es.length = rs.length ∧ ∀ (j : Nat) (e : Value × Value × Nat) (q : MapEntry), es[j]? = some e → rs[j]? = some q → VRel β e.1 q.key ∧ VRel β e.2.1 q.val ∧ q.born = e.2.2
theorem ERel.cons {β : Bt} {e : Value × Value × Nat} {q : MapEntry} {es : List (Value × Value × Nat)} {rs : List MapEntry} (h : VRel β e.1 q.key ∧ VRel β e.2.1 q.val ∧ q.born = e.2.2) (k : ERel β es rs) : ERel β (e :: es) (q :: rs) := by
  refine ⟨by simp [k.1], fun j x y a b => ?_⟩
  cases j with
  | zero => simp at a b; subst a; subst b; exact h
  | succ j => simp at a b; exact k.2 j x y a b
theorem ERel.filter {β : Bt} (p : Nat → Bool) : ∀ (es : List (Value × Value × Nat)) (rs : List MapEntry), ERel β es rs → ERel β (es.filter fun e => p e.2.2) (rs.filter fun q => p q.born)
  | [], rs, h => by
    have : rs = [] := List.length_eq_zero_iff.1 (by simpa using h.1.symm)
    subst this; exact ⟨rfl, fun j e q x => by simp at x⟩
  | e :: es, rs, h => by
    cases rs with
    | nil => have := h.1; simp at this
    | cons q rs =>
      have hh := h.2 0 e q rfl rfl
      have ht : ERel β es rs := ⟨by have := h.1; simpa using this, fun j x y a b => h.2 (j + 1) x y (by simpa using a) (by simpa using b)⟩
      simp only [List.filter_cons, hh.2.2]
      split
      · exact ERel.cons hh (ERel.filter p es rs ht)
      · exact ERel.filter p es rs ht
theorem ERel.append {β : Bt} {es fs : List (Value × Value × Nat)} {rs qs : List MapEntry} (h : ERel β es rs) (k : ERel β fs qs) : ERel β (es ++ fs) (rs ++ qs) := by
  refine ⟨by simp [h.1, k.1], fun j x y a b => ?_⟩
  by_cases hj : j < es.length
  · rw [List.getElem?_append_left hj] at a; rw [List.getElem?_append_left (by rw [← h.1]; exact hj)] at b; exact h.2 j x y a b
  · rw [List.getElem?_append_right (by omega)] at a; rw [List.getElem?_append_right (by rw [← h.1]; omega), ← h.1] at b; exact k.2 _ x y a b
theorem ERel.all {β : Bt} (p : Nat → Bool) : ∀ (es : List (Value × Value × Nat)) (rs : List MapEntry), ERel β es rs → (rs.all fun q => p q.born) = es.all fun e => p e.2.2
  | [], rs, h => by
    have : rs = [] := List.length_eq_zero_iff.1 (by simpa using h.1.symm)
    subst this; rfl
  | e :: es, rs, h => by
    cases rs with
    | nil => have := h.1; simp at this
    | cons q rs =>
      have hh := h.2 0 e q rfl rfl
      have ht : ERel β es rs := ⟨by have := h.1; simpa using this, fun j x y a b => h.2 (j + 1) x y (by simpa using a) (by simpa using b)⟩
      simp only [List.all_cons, hh.2.2, ERel.all p es rs ht]

theorem snd_nextMap (h : Rel P Fz w0 β H w) (he : EnvRel β env a.tmps) {x : Operand} (ho : o.op = .next x false) {k : Res → AHeap → Prop} (ha : anext H (opv env x) k) :
    ∃ res H', k res H' ∧ RRel P Fz w0 β w H' res ((execOp a.eval o).run P w) := by
  unfold anext at ha
  split at ha <;> (try exact ha.elim)
  rename_i i hx
  obtain ⟨p, hb, hy⟩ := (opv_rel he hx).invPtr
  split at ha <;> (try exact ha.elim)
  · rename_i since seen stepped hg
    obtain ⟨q, ro, h1, h2, h3⟩ := h.live i _ hg
    rw [hb] at h1; cases h1
    obtain ⟨hpr, hbase, m', rfl, hm⟩ := h3
    simp only at hm; subst hm
    refine ⟨_, _, ha, RRel.pure h (LRel.tuple (LRel.cons (.bool false) (LRel.nil β))) ?_⟩
    unfold execOp; rw [ho]
    simp [Go.Instr.next, hy, hbase, run_getO h2 (by simp)]
  · rename_i m since seen stepped hg
    split at ha <;> (try exact ha.elim)
    rename_i es clk hgm
    obtain ⟨q, ro, h1, h2, h3⟩ := h.live i _ hg
    rw [hb] at h1; cases h1
    obtain ⟨hpr, hbase, m', rfl, pm, hbm, rfl⟩ := h3
    obtain ⟨q, rom, m1, m2, m3⟩ := h.live m _ hgm
    rw [hbm] at m1; cases m1
    obtain ⟨hpmr, rs, rfl, hsz, hall⟩ := m3
    have hE : ERel β es rs.toList := ⟨by simpa using hsz.symm, fun j e q x y => hall j e q x (by simpa using y)⟩
    split at ha
    · exact ha.elim
    · rename_i hguard
      simp only [mapLeft] at ha
      -- the entries that are left
      let A := es.filter fun e => !seen.contains e.2.2
      let R := rs.toList.filter fun q => !seen.contains q.born
      have hAR : ERel β A R := ERel.filter (fun b => !seen.contains b) es rs.toList hE
      let A1 := A.filter fun e => decide (e.2.2 < since)
      let R1 := R.filter fun q => decide (q.born < since)
      have h1' : ERel β A1 R1 := ERel.filter (fun b => decide (b < since)) A R hAR
      let A2 := A.filter fun e => decide (e.2.2 ≥ since)
      let R2 := R.filter fun q => decide (q.born ≥ since)
      have h2' : ERel β A2 R2 := ERel.filter (fun b => decide (b ≥ since)) A R hAR
      have h12 := h1'.append h2'
      have hemp : R1.isEmpty = A1.isEmpty := by
        have := h1'.1
        cases hA : A1 <;> cases hR : R1 <;> simp_all
      let left : Array MapEntry := rs.filter fun e => !seen.toArray.contains e.born
      let old : Array MapEntry := left.filter fun e => decide (e.born < since)
      let new : Array MapEntry := left.filter fun e => decide (e.born ≥ since)
      let cand : Array (Option MapEntry) := (if old.isEmpty then #[none] else #[]) ++ (old ++ new).map some
      have hleft : left.toList = R := by
        simp only [left, R, Array.toList_filter, List.contains_toArray]
      have hold : old.toList = R1 := by simp only [old, Array.toList_filter, hleft]; rfl
      have hnew : new.toList = R2 := by simp only [new, Array.toList_filter, hleft]; rfl
      have hoe : old.isEmpty = A1.isEmpty := by rw [← hemp, ← hold]; simp [Array.isEmpty, List.isEmpty_iff_length_eq_zero, Bool.eq_iff_iff]
      have hcand : cand.toList = (if A1.isEmpty then [none] else []) ++ (R1 ++ R2).map some := by
        simp only [cand, Array.toList_append, Array.toList_map, hold, hnew, hoe]
        cases A1.isEmpty <;> rfl
      have hguard' : ¬ ((!seen.toArray.isEmpty && !rs.isEmpty && rs.all fun e => decide (e.born ≥ stepped)) = true) := by
        have e1 : seen.toArray.isEmpty = seen.isEmpty := by simp
        have e2 : rs.isEmpty = es.isEmpty := by
          rw [Bool.eq_iff_iff]; simp only [Array.isEmpty_iff_size_eq_zero, List.isEmpty_iff_length_eq_zero, hsz]
        have e3 : (rs.all fun e => decide (e.born ≥ stepped)) = es.all fun e => decide (e.2.2 ≥ stepped) := by
          rw [← ERel.all (fun b => decide (b ≥ stepped)) es rs.toList hE, Array.all_toList]
        rw [e1, e2, e3]; exact hguard
      have hrun : (Go.Instr.next (.pointer (some ⟨p.rb, 0, none⟩)) false o.type).run P w = ((choose (.mapNext cand.size)).run P w).andThen fun c w' =>
          ((match cand[c]? with
            | some (some e) => do setObj p.rb (.mapIter (some pm.rb) since (seen.toArray.push e.born) clk); pure (.tuple #[.bool true, e.key, e.val])
            | some none => pure (.tuple #[.bool false])
            | none => stuck "Next: no such candidate") : Sem Value).run P w' := by
        unfold Go.Instr.next
        simp only [Sem.run_bind, run_getO h2 (by simp), run_getO m2 (by simp), Result.andThen_ok]
        rw [if_neg hguard', Sem.run_bind]
        rfl
      have hlen : cand.size = if A1.isEmpty then (A1 ++ A2).length + 1 else (A1 ++ A2).length := by
        rw [← Array.length_toList, hcand]
        simp only [List.length_append, List.length_map]
        have := h12.1; simp only [List.length_append] at this
        cases A1.isEmpty <;> simp <;> omega
      have hpos : 0 < cand.size := by
        rw [hlen]
        cases hA : A1 with
        | nil => simp
        | cons y ys => simp
      obtain ⟨c, w2, hc, hch, hrel2, hheap⟩ : ∃ c w2, c < cand.size ∧ (choose (.mapNext cand.size)).run P w = .ok c w2 ∧ Rel P Fz w0 β H w2 ∧ w2.heap = w.heap := by
        rw [run_choose_drew]
        split
        · exact ⟨0, w, hpos, rfl, h, rfl⟩
        · exact ⟨_, w.drew, Nat.mod_lt _ hpos, rfl, drewRel h, rfl⟩
      have hex : (execOp a.eval o).run P w = ((Go.Instr.next (.pointer (some ⟨p.rb, 0, none⟩)) false o.type).run P w).andThen fun v w' => .ok (.value v) w' := by
        unfold execOp; rw [ho]; simp [hy, hbase]
      rw [hex, hrun, hch]
      simp only [Result.andThen_ok]
      have hak := ha c (by
        rw [hlen] at hc
        exact hc)
      have hget : cand[c]? = ((if A1.isEmpty then [none] else []) ++ (R1 ++ R2).map some)[c]? := by rw [← Array.getElem?_toList, hcand]
      have pick : ∀ j, (if A1.isEmpty then [none] else [] : List (Option MapEntry)).length ≤ c → j = c - (if A1.isEmpty then [none] else [] : List (Option MapEntry)).length → ∀ e, (A1 ++ A2)[j]? = some e → k (.val (.tuple #[.bool true, e.1, e.2.1])) (H.set i (.miter (some m) since (seen ++ [e.2.2]) clk)) →
          ∃ res H', k res H' ∧ RRel P Fz w0 β w H' res ((((match cand[c]? with
            | some (some e) => do setObj p.rb (.mapIter (some pm.rb) since (seen.toArray.push e.born) clk); pure (.tuple #[.bool true, e.key, e.val])
            | some none => pure (.tuple #[.bool false])
            | none => stuck "Next: no such candidate") : Sem Value).run P w2).andThen fun v w' => .ok (.value v) w') := by
        intro j hj hje e hee hke
        have hlt : j < (R1 ++ R2).length := by rw [← h12.1]; exact (List.getElem?_eq_some_iff.1 hee).1
        have hq : (R1 ++ R2)[j]? = some (R1 ++ R2)[j] := List.getElem?_eq_getElem hlt
        have hrel := h12.2 j e _ hee hq
        generalize (R1 ++ R2)[j] = q at hq hrel
        have hcq : cand[c]? = some (some q) := by
          rw [hget, List.getElem?_append_right hj, ← hje, List.getElem?_map, hq]; rfl
        have h2' : w2.heap[p.rb]? = some (.mapIter (some pm.rb) since seen.toArray stepped) := by rw [hheap]; exact h2
        refine ⟨_, _, hke, .tuple #[.bool true, q.key, q.val], { w2 with heap := w2.heap.setIfInBounds p.rb (.mapIter (some pm.rb) since (seen.toArray.push q.born) clk) }, β, ?_, Bt.le_refl β,
          LRel.tuple (LRel.cons (.bool true) (LRel.cons hrel.1 (LRel.cons hrel.2.1 (LRel.nil β)))),
          hrel2.set (p := p) (o := .miter (some m) since (seen ++ [e.2.2]) clk) (ro := .mapIter (some pm.rb) since (seen.toArray.push q.born) clk) hg hb hpr ⟨hpr, hbase, some pm.rb, by rw [hrel.2.2]; simp, pm, hbm, rfl⟩ rfl rfl rfl rfl⟩
        rw [hcq]
        simp [run_setO h2' (by simp)]
      change (if (A1.isEmpty && c == 0) = true then k (.val (.tuple #[.bool false])) H else
        match (A1 ++ A2)[if A1.isEmpty = true then c - 1 else c]? with
        | some e => k (.val (.tuple #[.bool true, e.1, e.2.1])) (H.set i (.miter (some m) since (seen ++ [e.2.2]) clk))
        | none => False) at hak
      split at hak
      · rename_i hcond
        rw [Bool.and_eq_true] at hcond
        have hc0 : c = 0 := by simpa using hcond.2
        subst hc0
        have hcq : cand[0]? = some none := by rw [hget, if_pos hcond.1]; rfl
        refine ⟨_, _, hak, .tuple #[.bool false], w2, β, by rw [hcq]; rfl, Bt.le_refl β, LRel.tuple (LRel.cons (.bool false) (LRel.nil β)), hrel2⟩
      · rename_i hcond
        split at hak
        · rename_i e hee
          by_cases hov : A1.isEmpty = true
          · have hc0 : c ≠ 0 := fun e0 => hcond (by simp [hov, e0])
            rw [if_pos hov] at hee
            exact pick (c - 1) (by rw [if_pos hov]; simp; omega) (by rw [if_pos hov]; simp) e hee hak
          · rw [if_neg hov] at hee
            exact pick c (by rw [if_neg hov]; simp) (by rw [if_neg hov]; simp) e hee hak
        · exact hak.elim
end
end Go.E

namespace Go.E
section
variable {P : Program} {Fz : Fr} {w0 : World} {β : Bt} {H H' : AHeap} {w : World} {env : Env} {a : Act} {o : Oper} {res : Res}

def isOdd : ROp → Bool
  | .next _ false | .callm .. => true
  | _ => false
theorem evOp_aop {T : Tab} {r : ROp} {k : Res → AHeap → Prop} (hn : isOdd r = false) (ha : evOp T env r H k) : ∃ res H', aop env H r = some (res, H') ∧ k res H' := by
  unfold evOp at ha
  split at ha
  · simp [isOdd] at hn
  · simp [isOdd] at hn
  · split at ha
    · exact ⟨_, _, by assumption, ha⟩
    · exact ha.elim

theorem bind_some {α γ : Type} {x : Option α} {f : α → Option γ} {y : γ} (h : x.bind f = some y) : ∃ z, x = some z ∧ f z = some y := by
  cases x with
  | none => cases h
  | some z => exact ⟨z, rfl, h⟩

theorem call_snd {T : Tab} (hT : ∀ t name f, T.meth t name = some f → rmeth P t name = some f) (h : Rel P Fz w0 β H w) (he : EnvRel β env a.tmps) {c : Call} {ty : TypeId} (ho : o.op = .call c) {r : ROp} (hr : rcall P c ty = some r)
    {k : Res → AHeap → Prop} (ha : evOp T env r H k) : ∃ res H', k res H' ∧ RRel P Fz w0 β w H' res ((execOp a.eval o).run P w) := by
  have fin : ∀ {r : ROp}, isOdd r = false → evOp T env r H k → (∀ res H', aop env H r = some (res, H') → RRel P Fz w0 β w H' res ((execOp a.eval o).run P w)) → ∃ res H', k res H' ∧ RRel P Fz w0 β w H' res ((execOp a.eval o).run P w) := by
    intro r hn ha hs
    obtain ⟨res, H', h1, h2⟩ := evOp_aop hn ha
    exact ⟨res, H', h2, hs res H' h1⟩
  unfold rcall at hr
  split at hr
  · rename_i f hc
    cases hr
    exact fin rfl ha fun _ _ h1 => snd_call h he hc ho h1
  · rename_i f _ hc
    cases hr
    exact fin rfl ha fun _ _ h1 => snd_callv h he hc ho h1
  · rename_i recv name hc
    cases hr
    unfold evOp at ha
    split at ha
    · rename_i e; cases e
    · rename_i e; cases e
      split at ha <;> (try exact ha.elim)
      rename_i t v vs hx hv
      split at ha <;> (try exact ha.elim)
      rename_i f hf
      exact ⟨_, _, ha, snd_callm h he hc ho hx hv (hT _ _ _ hf)⟩
    · rename_i h1 h2; exact absurd rfl (h2 _ _ _)
  · rename_i b hc
    split at hr
    · rename_i s x st xt hargs hty
      split at hr <;> (try cases hr)
      rename_i e u ht hu
      split at hr <;> (try cases hr)
      rename_i i hi
      split at hr <;> (try cases hr)
      rename_i z hz
      split at hr <;> (try cases hr)
      rename_i hcond
      exact fin rfl ha fun _ _ h1 => snd_append h he ht hu hcond.2.2.1 hi hz hcond.2.1 hcond.1 hcond.2.2.2 hc hargs hty ho h1
    · rename_i d s dt t2 hargs hty
      split at hr <;> (try cases hr)
      rename_i e ht
      obtain ⟨i, hi, hr⟩ := bind_some hr
      split at hr <;> (try cases hr)
      exact fin rfl ha fun _ _ h1 => snd_copy h he ht hi hc hargs hty ho h1
    · rename_i x t hargs hty
      split at hr <;> (try cases hr)
      · rename_i n e ht
        refine fin rfl ha fun _ _ h1 => ?_
        simp only [aop] at h1
        obtain ⟨v, hv, e0⟩ := map_some h1
        cases e0
        obtain ⟨consts, hrun⟩ := run_builtin (P := P) (w := w) (a := a) hc ho
        obtain ⟨hA, hT2⟩ := args1 (a := a) hargs hty
        rw [hA, hT2] at hrun
        refine RRel.pure h (opv_rel (a := a) he hv) ?_
        rw [hrun]; simp [builtin, Builtin.len_, run_und ht, goInt, Act.eval]
      · rename_i u _ _ ht
        exact fin rfl ha fun _ _ h1 => snd_len h he ht hc hargs hty ho h1
    · rename_i x t hargs hty
      split at hr <;> (try cases hr)
      rename_i e ht
      exact fin rfl ha fun _ _ h1 => snd_cap h he ht hc hargs hty ho h1
    · rename_i x y hargs
      cases hr
      exact fin rfl ha fun _ _ h1 => snd_min h he hc hargs ho h1
    · rename_i x y hargs
      cases hr
      exact fin rfl ha fun _ _ h1 => snd_max h he hc hargs ho h1
    · rename_i m kk t t2 hargs hty
      split at hr <;> (try cases hr)
      rename_i kt e ht
      obtain ⟨u, hu, e0⟩ := map_some hr
      cases e0
      exact fin rfl ha fun _ _ h1 => snd_delete h he ht hu hc hargs hty ho h1
    · rename_i x t hargs hty
      split at hr <;> (try cases hr)
      rename_i e ht
      split at hr <;> (try cases hr)
      rename_i i hi
      obtain ⟨z, hz, e0⟩ := map_some hr
      cases e0
      exact fin rfl ha fun _ _ h1 => snd_clear h he ht hi hz hc hargs hty ho h1
    · rename_i x hargs
      cases hr
      refine fin rfl ha fun _ _ h1 => ?_
      simp only [aop] at h1
      split at h1 <;> (try cases h1)
      rename_i t v hx
      obtain ⟨v', hy, hvv⟩ := (opv_rel he hx).invIface
      obtain ⟨consts, hrun⟩ := run_builtin (P := P) (w := w) (a := a) hc ho
      have hA : c.args.map a.eval = #[a.eval x] := by
        have hA : c.args = #[x] := by rw [← Array.toList_inj]; simp [hargs]
        rw [hA]; simp
      rw [hA] at hrun
      refine ⟨_, ?_, .iface hvv, h⟩
      rw [hrun]; simp [builtin, hy, Go.Instr.panic, goPanic]
    · cases hr
end
end Go.E

namespace Go.E
section
variable {P : Program} {Fz : Fr} {w0 : World} {β : Bt} {H H' : AHeap} {w : World} {env : Env} {a : Act} {o : Oper} {res : Res}

/-- **AN OPERATION.** -/
theorem op_snd {T : Tab} (hT : ∀ t name f, T.meth t name = some f → rmeth P t name = some f) (h : Rel P Fz w0 β H w) (he : EnvRel β env a.tmps) {r : ROp} (hr : rop P o.type o.op = some r)
    {k : Res → AHeap → Prop} (ha : evOp T env r H k) : ∃ res H', k res H' ∧ RRel P Fz w0 β w H' res ((execOp a.eval o).run P w) := by
  have fin : ∀ {r : ROp}, isOdd r = false → evOp T env r H k → (∀ res H', aop env H r = some (res, H') → RRel P Fz w0 β w H' res ((execOp a.eval o).run P w)) → ∃ res H', k res H' ∧ RRel P Fz w0 β w H' res ((execOp a.eval o).run P w) := by
    intro r hn ha hs
    obtain ⟨res, H', h1, h2⟩ := evOp_aop hn ha
    exact ⟨res, H', h2, hs res H' h1⟩
  generalize hop : o.op = op at hr
  unfold rop at hr
  split at hr
  · cases hr; exact fin rfl ha fun _ _ h1 => snd_mov h he (.inl hop) h1
  · cases hr; exact fin rfl ha fun _ _ h1 => snd_mov h he (.inr hop) h1
  · cases hr; exact fin rfl ha fun _ _ h1 => snd_pick h he hop h1
  · obtain ⟨i, hi, hr⟩ := bind_some hr
    obtain ⟨z, hz, e0⟩ := map_some hr
    cases e0; exact fin rfl ha fun _ _ h1 => snd_new h hi hz hop h1
  · obtain ⟨i, hi, e0⟩ := map_some hr
    cases e0; exact fin rfl ha fun _ _ h1 => snd_box h he hop h1
  · split at hr <;> (try cases hr)
    · rename_i i fields hi hu
      split at hr <;> (try cases hr)
      rename_i z hz
      split at hr <;> (try cases hr)
      rename_i hs
      obtain ⟨ps, hp, e0⟩ := map_some hr
      cases e0; exact fin rfl ha fun _ _ h1 => snd_buildS h he hi hz hu hs hp hop h1
    · rename_i i n e hi hu
      split at hr <;> (try cases hr)
      rename_i z ei hz hei
      exact fin rfl ha fun _ _ h1 => snd_buildA h he hi hz hu hei hop h1
  · split at hr <;> (try cases hr)
    rename_i e hu
    split at hr <;> (try cases hr)
    rename_i i hi
    obtain ⟨z, hz, e0⟩ := map_some hr
    cases e0; exact fin rfl ha fun _ _ h1 => snd_buildSlice h he hi hz hu hop h1
  · obtain ⟨n, hn, e0⟩ := map_some hr
    cases n with
    | none => cases e0; exact fin rfl ha fun _ _ h1 => snd_load1 h he hn hop h1
    | some n => cases e0; exact fin rfl ha fun _ _ h1 => snd_loadN h he hn hop h1
  · obtain ⟨i, hi, e0⟩ := map_some hr
    cases e0; exact fin rfl ha fun _ _ h1 => snd_store h he hi hop h1
  · cases hr; exact fin rfl ha fun _ _ h1 => snd_nilCheck h he hop h1
  · obtain ⟨u, hu, e0⟩ := map_some hr
    cases e0; exact fin rfl ha fun _ _ h1 => snd_bin h he hu hop h1
  · cases hr; exact fin rfl ha fun _ _ h1 => snd_un h he hop h1
  · rename_i src dst x
    split at hr <;> (try cases hr)
    · rename_i k0 kk h1 h2; exact fin rfl ha fun _ _ h3 => snd_toInt h he h1 h2 hop h3
    · rename_i h1 h2; exact fin rfl ha fun _ _ h3 => snd_same h he h1 h2 hop h3
    · rename_i e h1 h2
      split at hr <;> (try cases hr)
      rename_i hu; exact fin rfl ha fun _ _ h3 => snd_strBytes h he h1 h2 hu hop h3
    · rename_i e1 e h1 h2
      split at hr <;> (try cases hr)
      rename_i heq hu
      have hsd : src = dst := by simpa using heq
      subst hsd
      exact fin rfl ha fun _ _ h3 => snd_markStr h he h2 hu hop h3
    · rename_i e h1 h2
      split at hr <;> (try cases hr)
      rename_i hu; exact fin rfl ha fun _ _ h3 => snd_bytesStr h he h1 h2 hu hop h3
  · split at hr <;> (try cases hr)
    rename_i u hn hu
    exact fin rfl ha fun _ _ h1 => snd_iface h he hu (fun ms e => hn ms e) hop h1
  · cases hr; exact fin rfl ha fun _ _ h1 => snd_mkfunc h he hop h1
  · cases hr; exact fin rfl ha fun _ _ h1 => snd_mkmap h hop h1
  · split at hr <;> (try cases hr)
    rename_i e hu
    split at hr <;> (try cases hr)
    rename_i i hi
    obtain ⟨z, hz, e0⟩ := map_some hr
    cases e0; exact fin rfl ha fun _ _ h1 => snd_mkslice h he hu hi hz hop h1
  · rename_i t x lo hi' mx
    split at hr <;> (try cases hr)
    · rename_i hu
      split at hr <;> (try cases hr)
      rename_i hm
      have hmx : mx = none := by cases mx <;> simp at hm ⊢
      subst hmx
      exact fin rfl ha fun _ _ h1 => snd_sliceStr h he hu hop h1
    · rename_i e hu
      obtain ⟨i, hi, e0⟩ := map_some hr
      cases e0; exact fin rfl ha fun _ _ h1 => snd_sliceSl h he hu hi hop h1
    · rename_i n e hu
      obtain ⟨i, hi, e0⟩ := map_some hr
      cases e0; exact fin rfl ha fun _ _ h1 => snd_sliceArr h he (.inl hu) hi hop h1
    · rename_i arr hu
      split at hr <;> (try cases hr)
      rename_i n e hu2
      obtain ⟨i, hi, e0⟩ := map_some hr
      cases e0; exact fin rfl ha fun _ _ h1 => snd_sliceArr h he (.inr ⟨arr, hu, hu2⟩) hi hop h1
  · split at hr <;> (try cases hr)
    rename_i fields hu
    split at hr <;> (try cases hr)
    rename_i fl hf
    split at hr <;> (try cases hr)
    rename_i i hi
    split at hr <;> (try cases hr)
    rename_i hz
    exact fin rfl ha fun _ _ h1 => snd_addOff h he hu hf hi hz hop h1
  · split at hr <;> (try cases hr)
    rename_i fields hu
    split at hr <;> (try cases hr)
    rename_i fl hf
    obtain ⟨n, hn, e0⟩ := map_some hr
    cases e0; exact fin rfl ha fun _ _ h1 => snd_part h he hu hf hn hop h1
  · split at hr <;> (try cases hr)
    · rename_i e hu
      obtain ⟨i, hi, e0⟩ := map_some hr
      cases e0; exact fin rfl ha fun _ _ h1 => snd_idxS h he hu hi hop h1
    · rename_i n e hu
      obtain ⟨i, hi, e0⟩ := map_some hr
      cases e0; exact fin rfl ha fun _ _ h1 => snd_idxA h he hu hi hop h1
  · split at hr <;> (try cases hr)
    · rename_i hu; exact fin rfl ha fun _ _ h1 => snd_strAt h he hu hop h1
    · rename_i n e hu
      split at hr <;> (try cases hr)
      rename_i inf ag hi hag
      exact fin rfl ha fun _ _ h1 => snd_arrAt h he hu hi hag hop h1
  · split at hr <;> (try cases hr)
    rename_i kt e hu
    split at hr <;> (try cases hr)
    rename_i u i hk hi
    obtain ⟨z, hz, e0⟩ := map_some hr
    cases e0; exact fin rfl ha fun _ _ h1 => snd_look h he hu hk hi hz hop h1
  · split at hr <;> (try cases hr)
    rename_i kt e hu
    obtain ⟨u, hk, e0⟩ := map_some hr
    cases e0; exact fin rfl ha fun _ _ h1 => snd_mput h he hu hk (.inl hop) h1
  · split at hr <;> (try cases hr)
    rename_i kt e hu
    obtain ⟨u, hk, e0⟩ := map_some hr
    cases e0; exact fin rfl ha fun _ _ h1 => snd_mput h he hu hk (.inr hop) h1
  · split at hr <;> (try cases hr)
    · rename_i hu; exact fin rfl ha fun _ _ h1 => snd_rangeStr h he hu hop h1
    · rename_i kt e hu; exact fin rfl ha fun _ _ h1 => snd_rangeMap h he hu hop h1
  · rename_i x str
    cases hr
    cases str with
    | true => exact fin rfl ha fun _ _ h1 => snd_nextStr h he hop h1
    | false => exact snd_nextMap h he hop ha
  · split at hr <;> (try cases hr)
    rename_i u i hn hu hi
    obtain ⟨z, hz, e0⟩ := map_some hr
    cases e0; exact fin rfl ha fun _ _ h1 => snd_ext2 h he hu (fun ms e => hn ms e) hi hz hop h1
  · cases hr; exact fin rfl ha fun _ _ h1 => snd_ext h he hop h1
  · exact call_snd hT h he hop hr ha
  · cases hr; exact fin rfl ha fun _ _ h1 => snd_pan h he hop h1
  · cases hr
end
end Go.E

namespace Go.E

/-- The fence: wide; in a round, that round's. -/
def FW (r : Option Nat) : Fence := { fn := fun _ => True, depth := none, alive := false, round := r }
theorem FW_wide : FW none = Fence.wide := rfl

def MRel (β : Bt) : List Nat → List Deferred → Prop
  | [], [] => True
  | d :: ds, m :: ms => (∃ p, β d = some p ∧ m = { target := .collected p.rb, args := #[] }) ∧ MRel β ds ms
  | _, _ => False
theorem MRel.mono {β β' : Bt} (hb : β.le β') : ∀ {ds : List Nat} {ms : List Deferred}, MRel β ds ms → MRel β' ds ms
  | [], [], _ => trivial
  | d :: ds, m :: ms, h => ⟨let ⟨p, h1, h2⟩ := h.1; ⟨p, hb _ _ h1, h2⟩, MRel.mono hb h.2⟩
  | [], _ :: _, h => h.elim
  | _ :: _, [], h => h.elim

def RoRel (β : Bt) : Option Nat → Option Nat → Prop
  | none, none => True
  | some l, some r => ∃ p, β l = some p ∧ r = p.rb
  | _, _ => False
theorem RoRel.mono {β β' : Bt} (hb : β.le β') {x y : Option Nat} (h : RoRel β x y) : RoRel β' x y := by
  cases x <;> cases y <;> first | exact h | (obtain ⟨p, h1, h2⟩ := h; exact ⟨p, hb _ _ h1, h2⟩)

structure StRel (β : Bt) (st : St) (ro : Option Nat) (a : Act) : Prop where
  env : EnvRel β st.env a.tmps
  marks : MRel β st.marks a.defers
  round : RoRel β st.round ro
theorem StRel.mono {β β' : Bt} (hb : β.le β') {st : St} {ro : Option Nat} {a : Act} (h : StRel β st ro a) : StRel β' st ro a := ⟨h.env.mono hb, h.marks.mono hb, h.round.mono hb⟩
theorem StRel.put {β : Bt} {st : St} {ro : Option Nat} {a : Act} (h : StRel β st ro a) (d : Option Nat) {v v' : Value} (hv : VRel β v v') : StRel β (st.put d (some v)) ro (a.put d v') := by
  refine ⟨?_, ?_, h.round⟩
  · have := h.env.put d hv
    cases d <;> exact this
  · cases d <;> exact h.marks

def XRel (β : Bt) : RExit → Exit → Prop
  | .norm, .normal => True
  | .ret, .ret => True
  | .exit i, .exit j => i = j
  | .pan v, .panic ch => ∃ v', ch = [{ v := v', recovered := false }] ∧ VRel β v v'
  | _, _ => False

section
variable {P : Program} {Fz : Fr} {w0 : World}

/-- What is asked behind a piece of code. -/
def QOk (P : Program) (Fz : Fr) (w0 : World) (β : Bt) (ro : Option Nat) (k : RExit → St → AHeap → Prop) : Exit → Act → World → Prop :=
  fun ex a' w' => ∃ e st' H' β', k e st' H' ∧ β.le β' ∧ Rel P Fz w0 β' H' w' ∧ StRel β' st' ro a' ∧ XRel β' e ex

/-- What is asked behind a call. -/
def ROk (P : Program) (Fz : Fr) (w0 : World) (β : Bt) (k : CRes → AHeap → Prop) : Ending → World → Prop :=
  fun e w' => ∃ cr H' β', k cr H' ∧ β.le β' ∧ Rel P Fz w0 β' H' w' ∧ (match cr, e with
    | .ret v, .returned v' => VRel β' v v'
    | .pan v, .panicked ch => ∃ v', ch = [{ v := v', recovered := false }] ∧ VRel β' v v'
    | _, _ => False)

def CodeSnd (P : Program) (S : S3 Prop) : Prop := ∀ (Fz : Fr) (w0 : World) (β : Bt) (H : AHeap) (w : World) (c : Code) (rc : RCode) (st : St) (ro : Option Nat) (a : Act) (k : RExit → St → AHeap → Prop) (n : Nat),
  rcode P c = some rc → Rel P Fz w0 β H w → StRel β st ro a → S.code rc st H k → c.wpIn (FW ro) n P (QOk P Fz w0 β ro k) a w
def CallSnd (P : Program) (S : S3 Prop) : Prop := ∀ (Fz : Fr) (w0 : World) (β : Bt) (H : AHeap) (w : World) (f : FuncId) (args : List Value) (args' : Array Value) (k : CRes → AHeap → Prop),
  Rel P Fz w0 β H w → LRel β args args'.toList → S.call f args H k → (callFunc f args').run P w = .ok (.enter f args') w ∧ ∀ n, CallsIn Fence.wide n P f args' w (ROk P Fz w0 β k)

theorem QOk.le {β β2 : Bt} {ro : Option Nat} {k : RExit → St → AHeap → Prop} (hb : β.le β2) {e : Exit} {a : Act} {w : World} (h : QOk P Fz w0 β2 ro k e a w) : QOk P Fz w0 β ro k e a w := by
  obtain ⟨x, st, H, β3, h1, h2, h3⟩ := h
  exact ⟨x, st, H, β3, h1, Bt.le_trans hb h2, h3⟩

theorem callsIn_FW {n : Nat} {f : FuncId} {args : Array Value} {w : World} {R : Ending → World → Prop} (ro : Option Nat) (h : CallsIn Fence.wide n P f args w R) : CallsIn (FW ro) n P f args w R := h

theorem roper_spec {ops : Array Oper} {o : Oper} {r : ROper} (hr : roper P ops o = some r) : r.dst = o.dst ∧ rop P o.type o.op = some r.op := by
  unfold roper at hr
  split at hr <;> (try cases hr)
  rename_i x hx
  split at hr
  · cases hr; exact ⟨rfl, hx⟩
  · split at hr <;> (try cases hr)
    exact ⟨rfl, hx⟩

theorem wanted_snd {β : Bt} {env : Env} {tmps : Array Value} {ops : Array Oper} {o : Oper} {ro : ROper} (he : EnvRel β env tmps) (hr : roper P ops o = some ro) {b : Bool} (hw : wanted env ro = some b) :
    Region.wanted o (yielded ops tmps) = b := by
  unfold roper at hr
  split at hr <;> (try cases hr)
  split at hr
  · rename_i hg
    cases hr
    simp only [wanted] at hw; cases hw
    simp [Region.wanted, hg]
  · rename_i j c hg
    split at hr <;> (try cases hr)
    rename_i t ht
    simp only [wanted] at hw
    simp only [Region.wanted, hg, yielded, ht, Option.bind_some]
    split at hw
    · rename_i d hd
      cases hw
      obtain ⟨v', h1, h2⟩ := he.get hd
      rw [h1, h2.invBool]; simp
    · rename_i v hnb hv
      cases hw
      obtain ⟨v', h1, h2⟩ := he.get hv
      rw [h1]
      cases h2 <;> first | rfl | exact absurd rfl (hnb _)
    · cases hw
end
end Go.E

namespace Go.E
section
variable {P : Program} {Fz : Fr} {w0 : World} {β : Bt} {H H' : AHeap} {w : World} {S : S3 Prop} {T : Tab}

theorem puts_rel {β : Bt} : ∀ (ps : List Nat) (args : List Value) (args' : List Value) (env : Env) (tmps : Array Value), EnvRel β env tmps → LRel β args args' → 
    EnvRel β (env.puts ps args) ((ps.zip args').foldl (fun tmps (x : Nat × Value) => tmps.setIfInBounds x.1 x.2) tmps)
  | [], args, args', env, tmps, he, _ => by simp only [Env.puts, List.zip_nil_left, List.foldl_nil]; exact he
  | p :: ps, [], args', env, tmps, he, hl => by
    have : args' = [] := List.length_eq_zero_iff.1 (by have := hl.1; simpa using this.symm)
    subst this
    simp only [Env.puts, List.zip_nil_right, List.foldl_nil]; exact he
  | p :: ps, v :: args, args', env, tmps, he, hl => by
    cases args' with
    | nil => have := hl.1; simp at this
    | cons v' args' =>
      simp only [Env.puts, List.zip_cons_cons, List.foldl_cons]
      have h0 : VRel β v v' := hl.2 0 v v' rfl rfl
      have ht : LRel β args args' := ⟨by have := hl.1; simpa using this, fun i x y a b => hl.2 (i + 1) x y (by simpa using a) (by simpa using b)⟩
      exact puts_rel ps args args' _ _ (he.put (some p) h0) ht

theorem loop_at (h : Rel P Fz w0 β H w) {l : Nat} {p : Pl} {env : Env} {ps : List Nat} {ra rb : RCode} {st : LoopState} {pend : Option RExit} {d : Nat} (hg : H.get l = some (.loop env ps ra rb st pend d)) (hb : β l = some p) :
    p.ro = false ∧ ∃ (lr : Loop) (q : Pl), w.heap[p.rb]? = some (.loop lr) ∧ EnvRel β env lr.tmps ∧ lr.params = ps.toArray ∧ rcode P lr.assign = some ra ∧ rcode P lr.body = some rb ∧
      lr.state = st ∧ lr.pending = pend.map exCode ∧ β d = some q ∧ lr.defers = q.rb := by
  obtain ⟨q, ro, h1, h2, h3⟩ := h.live l _ hg
  rw [hb] at h1; cases h1
  obtain ⟨hr, lr, q, rfl, g⟩ := h3
  exact ⟨hr, lr, q, h2, g⟩

theorem run_getLoop {l : Nat} {lr : Loop} (hh : w.heap[l]? = some (.loop lr)) : (Go.Instr.getLoop l).run P w = .ok lr w := by
  simp [Go.Instr.getLoop, run_getO hh (by simp)]

/-- **A ROUND.** -/
theorem round_snd (hC : CodeSnd P S) (h : Rel P Fz w0 β H w) {l : Nat} {p : Pl} {args : List Value} {args' : Array Value} (hb : β l = some p) (hl : LRel β args args'.toList) {k : Value → AHeap → Prop} (hk : roundS S l args H k) :
    ∃ (fn : FuncId) (tmps : Array Value) (assign body : Code), (Go.Instr.yield p.rb args').run P w = .ok (.round p.rb fn tmps assign body) w ∧ ∀ (n : Nat) (ro : Option Nat),
      RoundIn (FW ro) n P p.rb fn tmps assign body w fun e w' => ∃ v v' H' β', e = .returned v' ∧ k v H' ∧ β.le β' ∧ VRel β' v v' ∧ Rel P Fz w0 β' H' w' := by
  unfold roundS at hk
  split at hk <;> (try exact hk.elim)
  rename_i env params ra rb st0 pend0 d0 hg
  split at hk
  · exact hk.elim
  rename_i hlen
  simp only [ne_eq, Decidable.not_not] at hlen
  obtain ⟨hpr, lr, q, hh, he, hps, hras, hrb, hst, hpe, hd, hdr⟩ := loop_at h hg hb
  refine ⟨lr.fn, (params.zip args'.toList).foldl (fun tmps (x : Nat × Value) => tmps.setIfInBounds x.1 x.2) lr.tmps, lr.assign, lr.body, ?_, fun n ro => ?_⟩
  · have hsz : args'.size = params.length := by have := hl.1; simp at this; omega
    simp only [Go.Instr.yield, Sem.run_bind, run_getLoop hh, Result.andThen_ok, hps]
    rw [if_neg (by simp [hsz])]
    simp only [Sem.run_pure]
    congr 2
    rw [← Array.foldl_toList]
    simp
  · refine roundIn_of_wpIn trivial ?_
    change lr.assign.wpIn (FW (some p.rb)) n P _ _ w
    have hst1 : StRel β ⟨env.puts params args, [], some l⟩ (some p.rb) { tmps := (params.zip args'.toList).foldl (fun tmps (x : Nat × Value) => tmps.setIfInBounds x.1 x.2) lr.tmps, defers := [] } :=
      ⟨puts_rel params args args'.toList env lr.tmps he hl, trivial, ⟨p, hb, rfl⟩⟩
    refine wpIn_mono (hC Fz w0 β H w lr.assign ra _ (some p.rb) _ _ n hras h hst1 hk) ?_
    rintro ex a1 w1 ⟨x, st1, H1, β1, hk1, hle1, hrel1, hs1, hx⟩
    split at hk1
    · rename_i env' p' a' b' pend d hg1
      cases ex <;> simp only [XRel] at hx <;> (try exact hx.elim)
      simp only [Exit.then]
      have hb1 := hle1 _ _ hb
      obtain ⟨hpr1, lr1, q1, hh1, he1, hps1, hras1, hrb1, hst2, hpe1, hd1, hdr1⟩ := loop_at hrel1 hg1 hb1
      let w2 : World := { w1 with heap := w1.heap.setIfInBounds p.rb (.loop { lr1 with state := .busy }) }
      refine ⟨w2, ?_, ?_⟩
      · simp only [Go.Instr.beginRound, Sem.run_bind, run_getLoop hh1, Result.andThen_ok, run_setO hh1 (by simp), hst2]
        rfl
      · change lr.body.wpIn (FW (some p.rb)) n P _ _ w2
        have hrel2 : Rel P Fz w0 β1 (H1.set l (.loop env' p' a' b' .busy pend d)) w2 :=
          hrel1.set (p := p) (o := .loop env' p' a' b' .busy pend d) (ro := .loop { lr1 with state := .busy }) hg1 hb1 hpr1 ⟨hpr1, { lr1 with state := .busy }, q1, rfl, he1, hps1, hras1, hrb1, rfl, hpe1, hd1, hdr1⟩ rfl rfl rfl rfl
        refine wpIn_mono (hC Fz w0 β1 _ w2 lr.body rb st1 (some p.rb) a1 _ n hrb hrel2 hs1 hk1) ?_
        rintro ex2 a2 w3 ⟨x2, st2, H2, β2, hk2, hle2, hrel3, hs2, hx2⟩
        split at hk2 <;> (try exact hk2.elim)
        rename_i env2 p2 a2' b2 s2 pe2 d2 hg2
        have hb2 := hle2 _ _ hb1
        obtain ⟨hpr2, lr2, q2, hh2, he2, hps2, hras2, hrb2, hst3, hpe2, hd2, hdr2⟩ := loop_at hrel3 hg2 hb2
        have hle := Bt.le_trans hle1 hle2
        have endR : ∀ (j : Option RExit) (js : LoopState), js = (if (j.map exCode).isNone then .ready else .done) → ∀ v, v = .bool (j.map exCode).isNone → k v (H2.set l (.loop env2 p2 a2' b2 js j d2)) →
            ∃ v' w4, (Go.Instr.endRound p.rb (j.map exCode)).run P w3 = .ok v' w4 ∧ ∃ v v1 H' β', Ending.returned v' = .returned v1 ∧ k v H' ∧ β.le β' ∧ VRel β' v v1 ∧ Rel P Fz w0 β' H' w4 := by
          intro j js hjs v hv hkk
          refine ⟨v, { w3 with heap := w3.heap.setIfInBounds p.rb (.loop { lr2 with state := js, pending := j.map exCode }) }, ?_, v, v, _, β2, rfl, hkk, hle, by rw [hv]; exact .bool _, ?_⟩
          · simp only [Go.Instr.endRound, Sem.run_bind, run_getLoop hh2, Result.andThen_ok, run_setO hh2 (by simp), hjs, hv]
            rfl
          · exact hrel3.set (p := p) (o := .loop env2 p2 a2' b2 js j d2) (ro := .loop { lr2 with state := js, pending := j.map exCode }) hg2 hb2 hpr2 ⟨hpr2, { lr2 with state := js, pending := j.map exCode }, q2, rfl, he2, hps2, hras2, hrb2, rfl, rfl, hd2, hdr2⟩ rfl rfl rfl rfl
        cases x2 with
        | norm =>
          cases ex2 <;> simp only [XRel] at hx2 <;> (try exact hx2.elim)
          exact endR none .ready rfl _ rfl hk2
        | ret =>
          cases ex2 <;> simp only [XRel] at hx2 <;> (try exact hx2.elim)
          exact endR (some .ret) .done rfl _ rfl hk2
        | exit id =>
          cases ex2 <;> simp only [XRel] at hx2 <;> (try exact hx2.elim)
          subst hx2
          exact endR (some (.exit id)) .done rfl _ rfl hk2
        | pan v => exact hk2.elim
    · exact hk1.elim

/-- **AN OPERATION, WITH THE CALLS THAT IT MAKES.** -/
theorem oper_snd (hT : ∀ t name f, T.meth t name = some f → rmeth P t name = some f) (hC : CodeSnd P S) (hK : CallSnd P S) (h : Rel P Fz w0 β H w) {st : St} {ro : Option Nat} {a : Act} (hs : StRel β st ro a) {ops : Array Oper} {o : Oper} {r : ROper}
    (hr : roper P ops o = some r) {k : Value → AHeap → Prop} {kp : Value → AHeap → Prop} (ha : evOper T S r st H k kp) {n : Nat} {K : Act → World → Prop} {Q : Exit → Act → World → Prop}
    (h1 : ∀ v v' H' β' w', k v H' → β.le β' → VRel β' v v' → Rel P Fz w0 β' H' w' → K (a.put o.dst v') w')
    (h2 : ∀ v v' H' β' w', kp v H' → β.le β' → VRel β' v v' → Rel P Fz w0 β' H' w' → Q (.panic [{ v := v', recovered := false }]) a w') :
    (if Region.wanted o (yielded ops a.tmps) then o.wpIn (FW ro) n P a w K Q else (∀ f, o.about P w a.eval = some f → (FW ro).fn f) ∧ K (a.put o.dst undef) w) := by
  unfold evOper at ha
  have hdst : r.dst = o.dst ∧ rop P o.type o.op = some r.op := by
    unfold roper at hr
    split at hr <;> (try cases hr)
    rename_i x hx
    split at hr
    · cases hr; exact ⟨rfl, hx⟩
    · split at hr <;> (try cases hr)
      exact ⟨rfl, hx⟩
  split at ha
  · rename_i hw
    rw [if_pos (wanted_snd hs.env hr hw)]
    refine ⟨fun _ _ => trivial, ?_⟩
    have hnd : ∀ c, o.op ≠ .defer c := by
      intro c e
      have := hdst.2
      rw [e] at this
      simp [rop] at this
    rw [Oper.semAt_eq _ _ _ hnd]
    obtain ⟨res, H', hk, hres⟩ := op_snd hT h hs.env hdst.2 ha
    cases res with
    | val v =>
      obtain ⟨v', w', β', e1, e2, e3, e4⟩ := hres
      rw [e1]
      exact h1 v v' H' β' w' hk e2 e3 e4
    | skip =>
      obtain ⟨w', β', e1, e2, e3⟩ := hres
      rw [e1]
      exact h1 undef undef H' β' w' hk e2 (undef_rel β') e3
    | enter f args =>
      obtain ⟨args', e1, e2, e3⟩ := hres
      obtain ⟨c1, c2⟩ := hK Fz w0 β H' w f args args' _ e3 e2 hk
      rw [e1, c1]
      refine ⟨fun hd => by simp [FW] at hd, (callsIn_FW ro (c2 (n - 1))).mono ?_⟩
      rintro e w' ⟨cr, H2, β', g1, g2, g3, g4⟩
      cases cr with
      | ret v =>
        cases e <;> simp only at g4 <;> (try exact g4.elim)
        exact h1 v _ H2 β' w' g1 g2 g4 g3
      | pan v =>
        cases e <;> simp only at g4 <;> (try exact g4.elim)
        obtain ⟨v', rfl, g5⟩ := g4
        exact h2 v v' H2 β' w' g1 g2 g5 g3
    | round l args =>
      obtain ⟨p, args', e1, e2, e3, e4⟩ := hres
      obtain ⟨fn, tmps, assign, body, c1, c2⟩ := round_snd hC e4 e1 e2 hk
      rw [e3, c1]
      refine ⟨fun hd => by simp [FW] at hd, (c2 (n - 1) ro).mono ?_⟩
      rintro e w' ⟨v, v', H2, β', rfl, g1, g2, g3, g4⟩
      exact h1 v v' H2 β' w' g1 g2 g3 g4
    | pan v =>
      obtain ⟨v', e1, e2, e3⟩ := hres
      rw [e1]
      exact h2 v v' H' β w hk (Bt.le_refl β) e2 e3
  · rename_i hw
    rw [if_neg (by rw [wanted_snd hs.env hr hw]; simp)]
    exact ⟨fun _ _ => trivial, h1 undef undef H β w ha (Bt.le_refl β) (undef_rel β) h⟩
  · exact ha.elim
end
end Go.E

namespace Go.E
section
variable {P : Program} {Fz : Fr} {w0 : World} {β : Bt} {H H' : AHeap} {w : World} {S : S3 Prop} {T : Tab}

theorem ropers_spec (ops : Array Oper) : ∀ (l : List Oper) (rs : List ROper), ropers P ops l = some rs → rs.length = l.length ∧ ∀ (i : Nat) (o : Oper) (r : ROper), l[i]? = some o → rs[i]? = some r → roper P ops o = some r
  | [], rs, h => by simp [ropers] at h; subst h; exact ⟨rfl, fun i o r x => by simp at x⟩
  | o :: l, rs, h => by
    simp only [ropers] at h
    split at h <;> (try cases h)
    rename_i r rs' h1 h2
    obtain ⟨e1, e2⟩ := ropers_spec ops l rs' h2
    refine ⟨by simp [e1], fun i o' r' x y => ?_⟩
    cases i with
    | zero => simp at x y; subst x; subst y; exact h1
    | succ i => simp at x y; exact e2 i o' r' x y

theorem ops_snd (hT : ∀ t name f, T.meth t name = some f → rmeth P t name = some f) (hC : CodeSnd P S) (hK : CallSnd P S) {ops : Array Oper} {rs : List ROper} (hr : ropers P ops ops.toList = some rs) {ro : Option Nat} {n : Nat}
    {k : RExit → St → AHeap → Prop} : ∀ (m i : Nat) (β0 β : Bt) (H : AHeap) (w : World) (st : St) (a : Act), i + m = ops.size → β0.le β → Rel P Fz w0 β H w → StRel β st ro a → evOps T S (rs.drop i) st H k →
      wpOpsIn (FW ro) n P ops (QOk P Fz w0 β0 ro k) (List.range' i m) a w
  | 0, i, β0, β, H, w, st, a, him, hle, h, hs, ha => by
    obtain ⟨e1, _⟩ := ropers_spec ops _ rs hr
    have : rs.drop i = [] := List.drop_eq_nil_of_le (by rw [e1]; simp; omega)
    rw [this] at ha
    simp only [evOps] at ha
    exact ⟨.norm, st, H, β, ha, hle, h, hs, trivial⟩
  | m + 1, i, β0, β, H, w, st, a, him, hle, h, hs, ha => by
    obtain ⟨e1, e2⟩ := ropers_spec ops _ rs hr
    have hi : i < ops.size := by omega
    have hi2 : i < rs.length := by rw [e1]; simpa using hi
    rw [List.drop_eq_getElem_cons hi2] at ha
    simp only [evOps] at ha
    rw [List.range'_succ, wpOpsIn_cons]
    unfold wpOpIn
    have ho : ops[i]? = some ops[i] := Array.getElem?_eq_getElem hi
    rw [ho]
    have hro := e2 i ops[i] rs[i] (by simp [hi]) (List.getElem?_eq_getElem hi2)
    have hdst : rs[i].dst = ops[i].dst := (roper_spec hro).1
    refine oper_snd hT hC hK h hs hro ha ?_ ?_
    · intro v v' H' β' w' hk hb hv hrel
      refine ops_snd hT hC hK hr m (i + 1) β0 β' H' w' _ _ (by omega) (Bt.le_trans hle hb) hrel ?_ hk
      rw [hdst]
      exact (hs.mono hb).put _ hv
    · intro v v' H' β' w' hk hb hv hrel
      exact ⟨.pan v, st, H', β', hk, Bt.le_trans hle hb, hrel, hs.mono hb, v', rfl, hv⟩

theorem region_snd (hT : ∀ t name f, T.meth t name = some f → rmeth P t name = some f) (hC : CodeSnd P S) (hK : CallSnd P S) {id : Nat} {ops : Array Oper} {rs : List ROper} (hr : ropers P ops ops.toList = some rs) {ro : Option Nat} {n : Nat}
    {k : RExit → St → AHeap → Prop} {st : St} {a : Act} (h : Rel P Fz w0 β H w) (hs : StRel β st ro a) (ha : evOps T S rs st H k) : (Code.region id ops false).wpIn (FW ro) n P (QOk P Fz w0 β ro k) a w := by
  refine wpIn_region ?_
  rw [List.range_eq_range']
  exact ops_snd hT hC hK hr ops.size 0 β β H w st a (by simp) (Bt.le_refl β) h hs (by simpa using ha)

/-- What is asked of a region that draws its order (shown in the next text). -/
def DrawSnd (P : Program) (T : Tab) (S : S3 Prop) : Prop := ∀ (Fz : Fr) (w0 : World) (β : Bt) (H : AHeap) (w : World) (id : Nat) (ops : Array Oper) (rs : List ROper) (st : St) (ro : Option Nat) (a : Act) (k : RExit → St → AHeap → Prop) (n : Nat) (bef plan : List Nat),
  rcode P (.region id ops true) = some (.draw rs bef plan) → Rel P Fz w0 β H w → StRel β st ro a → evDraw T S rs bef H.next plan ⟨st, [], []⟩ (H.reserve rs.length) k → (Code.region id ops true).wpIn (FW ro) n P (QOk P Fz w0 β ro k) a w

/-- Code of one kind. -/
theorem exCode_wp {e : RExit} (he : e = .ret ∨ ∃ id, e = .exit id) {ro : Option Nat} {n : Nat} {k : RExit → St → AHeap → Prop} {st : St} {a : Act} {β0 : Bt} (hle : β0.le β) (h : Rel P Fz w0 β H w) (hs : StRel β st ro a) (hk : k e st H) :
    (exCode e).wpIn (FW ro) n P (QOk P Fz w0 β0 ro k) a w := by
  rcases he with rfl | ⟨id, rfl⟩
  · exact wpIn_ret ⟨.ret, st, H, β, hk, hle, h, hs, trivial⟩
  · exact wpIn_exit ⟨.exit id, st, H, β, hk, hle, h, hs, rfl⟩

theorem call_leads {d : Deferred} {w1 : World} {ro : Option Nat} : ∀ f', Target.leads P w1 d.target d.args = some f' → (FW ro).fn f' := fun _ _ => trivial

theorem rangeFunc_snd (hC : CodeSnd P S) (hK : CallSnd P S) {g : Operand} {ps : Array Tmp} {ca cb : Code} {ra rb : RCode} (hra : rcode P ca = some ra) (hrb : rcode P cb = some rb) {ro : Option Nat} {n : Nat}
    {k : RExit → St → AHeap → Prop} {st : St} {a : Act} (h : Rel P Fz w0 β H w) (hs : StRel β st ro a) (ha : stepCode T S (.rangeFunc g ps.toList ra rb) st H k) :
    (Code.rangeFunc g ps ca cb).wpIn (FW ro) n P (QOk P Fz w0 β ro k) a w := by
  simp only [stepCode] at ha
  split at ha <;> (try exact ha.elim)
  rename_i f first cap hf
  obtain ⟨first', cap', hy, l1, l2⟩ := (opv_rel hs.env hf).invFn
  refine wpIn_rangeFunc fun fn _ => ?_
  -- the call, once the record lies
  have callit : ∀ (β1 : Bt) (H1 : AHeap) (w1 : World) (l : Nat) (p : Pl) (st' : St) (mark : List Deferred), β.le β1 → Rel P Fz w0 β1 H1 w1 → β1 l = some p →
      (Go.Instr.enterLoop fn a.tmps ps ca cb ro).run P w = .ok (p.rb, mark) w1 → StRel β1 st' ro { a with defers := mark ++ a.defers } →
      S.call f (first.toList ++ [.func (.yield l) #[] #[]] ++ cap.toList) H1 (fun cr H1 =>
          match cr with
          | .pan v => k (.pan v) st' H1
          | .ret _ => match H1.get l with
            | some (.loop env p a b s pend d) =>
              if s = .busy then Ver.bot else
              jumpK pend fun e => k e st' (H1.set l (.loop env p a b .exhausted pend d))
            | _ => Ver.bot) →
      ∃ (l : Nat) (mark : List Deferred) (w₁ : World) (d : Deferred) (w₁' : World) (f : FuncId) (args : Array Value) (w₂ : World),
        (Go.Instr.enterLoop fn a.tmps ps ca cb (FW ro).round).run P w = .ok (l, mark) w₁ ∧ (resolve a.eval (rangeCall g l) 0).run P w₁ = .ok d w₁' ∧ (∀ f', Target.leads P w₁' d.target d.args = some f' → (FW ro).fn f') ∧
        (invoke d.target d.args).run P w₁' = .ok (.enter f args) w₂ ∧ ((FW ro).depth.isSome = true → 1 ≤ n) ∧ CallsIn (FW ro) (n - 1) P f args w₂ (rangePost (FW ro) n P l (QOk P Fz w0 β ro k) { a with defers := mark ++ a.defers }) := by
    intro β1 H1 w1 l p st' mark hle hrel hb hent hst hcall
    have hl : LRel β1 (first.toList ++ [.func (.yield l) #[] #[]] ++ cap.toList) (first' ++ #[Value.func (.yield p.rb) #[] #[]] ++ cap').toList := by
      simp only [Array.toList_append]
      exact ((l1.mono hle).append (LRel.cons (.yield hb) (LRel.nil β1))).append (l2.mono hle)
    obtain ⟨c1, c2⟩ := hK Fz w0 β1 H1 w1 f _ _ _ hrel hl hcall
    refine ⟨p.rb, mark, w1, { target := .fn (.func f) cap', args := first' ++ #[Value.func (.yield p.rb) #[] #[]] }, w1, f, _, w1, hent, ?_, call_leads, ?_, fun hd => by simp [FW] at hd, (callsIn_FW ro (c2 (n - 1))).mono ?_⟩
    · unfold resolve; simp only []; rw [hy]; simp [Deferred.ofValue, Act.eval]
    · simp only [invoke]; exact c1
    · rintro e w3 ⟨cr, H2, β2, g1, g2, g3, g4⟩
      cases cr with
      | ret v =>
        cases e <;> simp only at g4 <;> (try exact g4.elim)
        simp only at g1
        split at g1 <;> (try exact g1.elim)
        rename_i env2 p2 a2 b2 s2 pend2 d2 hg2
        split at g1
        · exact g1.elim
        rename_i hnb
        have hb2 := g2 _ _ hb
        obtain ⟨hpr, lr, q, hh, he, hps, hras, hrb', hst3, hpe, hd, hdr⟩ := loop_at g3 hg2 hb2
        let w4 : World := { w3 with heap := w3.heap.setIfInBounds p.rb (.loop { lr with state := .exhausted }) }
        have hrel4 : Rel P Fz w0 β2 (H2.set l (.loop env2 p2 a2 b2 .exhausted pend2 d2)) w4 :=
          g3.set (p := p) (o := .loop env2 p2 a2 b2 .exhausted pend2 d2) (ro := .loop { lr with state := .exhausted }) hg2 hb2 hpr ⟨hpr, { lr with state := .exhausted }, q, rfl, he, hps, hras, hrb', rfl, hpe, hd, hdr⟩ rfl rfl rfl rfl
        refine ⟨lr.pending, w4, ?_, ?_⟩
        · simp only [Go.Instr.endLoop, Sem.run_bind, run_getLoop hh, Result.andThen_ok]
          rw [if_neg (by rw [hst3]; simpa using hnb)]
          simp only [Sem.run_bind, run_setO hh (by simp), Result.andThen_ok]
          rfl
        · have hle2 := Bt.le_trans hle g2
          rw [hpe]
          cases pend2 with
          | none => exact ⟨.norm, st', _, β2, g1, hle2, hrel4, hst.mono g2, trivial⟩
          | some e =>
            simp only [Option.map_some]
            cases e with
            | norm => exact g1.elim
            | ret => exact exCode_wp (.inl rfl) hle2 hrel4 (hst.mono g2) g1
            | exit id => exact exCode_wp (.inr ⟨id, rfl⟩) hle2 hrel4 (hst.mono g2) g1
            | pan v => exact g1.elim
      | pan v =>
        cases e <;> simp only at g4 <;> (try exact g4.elim)
        obtain ⟨v', rfl, g5⟩ := g4
        exact ⟨.pan v, st', H2, β2, g1, Bt.le_trans hle g2, g3, hst.mono g2, v', rfl, g5⟩
  have hro := hs.round
  split at ha
  · rename_i hnr
    rw [hnr] at hro
    cases ro with
    | some r => exact hro.elim
    | none =>
      -- the block for the deferred calls, the record
      have hn0 := h.nextNone
      let pd : Pl := ⟨w.heap.size, 0, 0, 0, true, false⟩
      have hrel1 := h.alloc (p := pd) (o := .deferred) (ro := .deferred (some [])) rfl rfl ⟨rfl, rfl⟩
      have hle1 := Bt.le_upd pd hn0
      let wa : World := { w with heap := w.heap.push (.deferred (some [])) }
      let lr : Loop := { state := .ready, pending := none, fn, tmps := a.tmps, params := ps, assign := ca, body := cb, defers := w.heap.size }
      let pl : Pl := ⟨wa.heap.size, 0, 0, 0, true, false⟩
      have hn1 := hrel1.nextNone
      have hle2 := Bt.le_upd pl hn1
      have hnx : (H.alloc .deferred).next = H.next + 1 := AHeap.next_alloc _ _
      have hrel2 := hrel1.alloc (p := pl) (o := .loop st.env ps.toList ra rb .ready none H.next) (ro := .loop lr) rfl rfl
        ⟨rfl, lr, pd, rfl, hs.env.mono (Bt.le_trans hle1 hle2), by simp [lr], hra, hrb, rfl, rfl, hle2 _ _ (Bt.upd_at _ _ _), rfl⟩
      refine callit _ _ { wa with heap := wa.heap.push (.loop lr) } (H.next + 1) pl { st with marks := H.next :: st.marks } [{ target := .collected w.heap.size, args := #[] }] (Bt.le_trans hle1 hle2) hrel2 (by rw [← hnx]; exact Bt.upd_at _ _ _) ?_ ?_ ha
      · simp only [Go.Instr.enterLoop, Sem.run_bind, run_newObj, Result.andThen_ok, Sem.run_pure]
        rfl
      · refine ⟨hs.env.mono (Bt.le_trans hle1 hle2), ⟨⟨pd, hle2 _ _ (Bt.upd_at _ _ _), rfl⟩, hs.marks.mono (Bt.le_trans hle1 hle2)⟩, ?_⟩
        simp only [hnr]; trivial
  · rename_i l0 hnr
    rw [hnr] at hro
    cases ro with
    | none => exact hro.elim
    | some r =>
      obtain ⟨p0, hb0, rfl⟩ := hro
      split at ha <;> (try exact ha.elim)
      rename_i env0 ps0 a0 b0 s0 pe0 d0 hg0
      obtain ⟨hpr, lr0, q0, hh0, he0, hps0, hras0, hrb0, hst0, hpe0, hd0, hdr0⟩ := loop_at h hg0 hb0
      let lr : Loop := { state := .ready, pending := none, fn, tmps := a.tmps, params := ps, assign := ca, body := cb, defers := lr0.defers }
      let pl : Pl := ⟨w.heap.size, 0, 0, 0, true, false⟩
      have hn1 := h.nextNone
      have hle2 := Bt.le_upd pl hn1
      have hrel2 := h.alloc (p := pl) (o := .loop st.env ps.toList ra rb .ready none d0) (ro := .loop lr) rfl rfl
        ⟨rfl, lr, q0, rfl, hs.env.mono hle2, by simp [lr], hra, hrb, rfl, rfl, hle2 _ _ hd0, hdr0⟩
      refine callit _ _ { w with heap := w.heap.push (.loop lr) } H.next pl st [] hle2 hrel2 (Bt.upd_at _ _ _) ?_ ?_ ha
      · simp only [Go.Instr.enterLoop, Sem.run_bind, run_getLoop hh0, run_newObj, Result.andThen_ok, Sem.run_pure]
        rfl
      · exact hs.mono hle2
end
end Go.E

namespace Go.E
section
variable {P : Program} {Fz : Fr} {w0 : World} {β : Bt} {H H' : AHeap} {w : World} {S : S3 Prop} {T : Tab}

/-- A block is given up: whatever becomes of its real one. -/
theorem Rel.killSet (h : Rel P Fz w0 β H w) {i : Nat} {p : Pl} {o0 : AObj} {ro : Obj} (hi : H.get i = some o0) (hp : β i = some p) (hr : p.ro = false) {w' : World}
    (hw : w'.heap = w.heap.setIfInBounds p.rb ro) (h1 : w'.os = w.os) (h2 : w'.tape = w.tape) (h3 : w'.output = w.output) : Rel P Fz w0 β (H.kill i) w' := by
  have look : ∀ x ox, (H.kill i).get x = some ox → x ≠ i ∧ H.get x = some ox := by
    intro x ox hx
    rw [AHeap.get_kill] at hx
    split at hx
    · cases hx
    · exact ⟨fun e => ‹¬ i = x› e.symm, hx⟩
  refine ⟨fun j q hq => by rw [AHeap.next_kill]; exact h.dom j q hq, fun j o' hj => ?_, fun a b oa ob q q' hab ha hb => h.sep a b oa ob q q' hab (look a oa ha).2 (look b ob hb).2, fun r o' hf => ?_,
    fun j o q hj => h.fzsep j o q (look j o hj).2, fun j hj => by rw [AHeap.next_kill]; exact h.rz j hj, fun j o q hj => h.old j o q (look j o hj).2, ⟨h1.trans h.same.os, h2.trans h.same.tape, h3.trans h.same.output, by rw [hw]; simpa using h.same.size⟩⟩
  · obtain ⟨hne, hj'⟩ := look j o' hj
    obtain ⟨q, r, a, b, c⟩ := h.live j o' hj'
    refine ⟨q, r, a, ?_, c⟩
    have := h.sep i j o0 o' p q (fun e => hne e.symm) hi hj' hp a hr
    rw [hw, Array.getElem?_setIfInBounds_ne this]; exact b
  · have h2 := h.fz r o' hf
    have hne : p.rb ≠ r := fun e => by have := h.fzsep i o0 p hi hp hr; rw [e, hf] at this; cases this
    rw [hw, Array.getElem?_setIfInBounds_ne hne]; exact h2

/-- The marks are taken over, one by one. -/
theorem marks_snd {fn : Func} {tmps : Array Value} {n : Nat} {R : Ending → World → Prop} {u : FrameMode} (hu : u ≠ .run) : ∀ (ds : List Nat) (ms : List Deferred) (H : AHeap) (w : World) (H1 : AHeap), Rel P Fz w0 β H w → MRel β ds ms → shutMarks H ds = some H1 →
    (∀ w1, Rel P Fz w0 β H1 w1 → LeavesIn Fence.wide n P fn tmps R [] u w1) → LeavesInM Fence.wide n P fn tmps R ms u w
  | [], [], H, w, H1, h, _, hs, hk => by simp only [shutMarks] at hs; cases hs; exact hk w h
  | d :: ds, m :: ms, H, w, H1, h, hm, hs, hk => by
    obtain ⟨⟨p, hb, rfl⟩, hm2⟩ := hm
    simp only [shutMarks] at hs
    split at hs <;> (try cases hs)
    rename_i hg
    obtain ⟨q, ro, h1, h2, h3⟩ := h.live d _ hg
    rw [hb] at h1; cases h1
    obtain ⟨hpr, rfl⟩ := h3
    have htake : (Go.Instr.takeDeferred p.rb).run P w = .ok [] { w with heap := w.heap.setIfInBounds p.rb (.deferred none) } := by
      simp [Go.Instr.takeDeferred, run_getO h2 (by simp), run_setO h2 (by simp)]
    exact ⟨hu, .inl ⟨p.rb, _, rfl, htake, marks_snd hu ds ms _ _ H1 (h.killSet (p := p) (ro := .deferred none) hg hb hpr rfl rfl rfl rfl) hm2 hs hk⟩⟩
  | [], _ :: _, _, _, _, _, hm, _, _ => hm.elim
  | _ :: _, [], _, _, _, _, hm, _, _ => hm.elim

def resSem (tmps : Array Value) : ResultVar → Sem Value
  | .tmp t => pure (tmps.getD t undef)
  | .cell a t => do loadVar t (← asAddr (tmps.getD a undef))
theorem results_eq (fn : Func) (tmps : Array Value) : results fn tmps = (do let vs ← fn.results.mapM (resSem tmps); pure (if h : vs.size = 1 then vs[0] else .tuple vs)) := by
  unfold results
  congr 1

theorem results_snd (h : Rel P Fz w0 β H w) {env : Env} {tmps : Array Value} (he : EnvRel β env tmps) : ∀ (l : List ResultVar) (rs : List RRes) (vs : List Value), rress P l = some rs → resVs env H rs = some vs →
    ∃ vs', (l.mapM (m := Sem) (resSem tmps)).run P w = .ok vs' w ∧ LRel β vs vs'
  | [], rs, vs, hr, hv => by
    simp only [rress] at hr; cases hr
    simp only [resVs] at hv; cases hv
    exact ⟨[], by simp, LRel.nil β⟩
  | r :: l, rs, vs, hr, hv => by
    simp only [rress] at hr
    split at hr <;> (try cases hr)
    rename_i x xs h1 h2
    simp only [resVs] at hv
    split at hv <;> (try cases hv)
    rename_i v vs2 g1 g2
    obtain ⟨vs', e1, e2⟩ := results_snd h he l xs vs2 h2 g2
    have key : ∃ v', (resSem tmps r).run P w = .ok v' w ∧ VRel β v v' := by
      cases r with
      | tmp t =>
        simp only [rres] at h1; cases h1
        simp only [resV] at g1
        obtain ⟨v', q1, q2⟩ := he.get g1
        exact ⟨v', by simp [resSem, q1], q2⟩
      | cell ad t =>
        simp only [rres] at h1
        obtain ⟨n, hn, e⟩ := map_some h1
        cases n with
        | none =>
          cases e
          simp only [resV] at g1
          split at g1 <;> (try cases g1)
          rename_i hl
          obtain ⟨u, hu, hl⟩ := Option.bind_eq_some_iff.1 hl
          obtain ⟨u', q1, q2⟩ := he.get hu
          obtain ⟨b, off, rc, e1, _, _, _, hc⟩ := load_snd h q2 hl
          obtain ⟨v', h1, h2⟩ := hc 0 v rfl
          simp only [Nat.add_zero] at h1
          exact ⟨v', by simp [resSem, q1, e1, asAddr, loadVar, run_agg1 hn, h1], h2⟩
        | some n =>
          cases e
          simp only [resV] at g1
          obtain ⟨cs, hl, rfl⟩ := map_some g1
          obtain ⟨u, hu, hl⟩ := Option.bind_eq_some_iff.1 hl
          obtain ⟨u', q1, q2⟩ := he.get hu
          obtain ⟨b, off, rc, e1, hr, hl2, _, _⟩ := load_snd h q2 hl
          exact ⟨.agg rc, by simp [resSem, q1, e1, asAddr, loadVar, (run_aggN hn).1, (run_aggN hn).2, hr], by have := hl2.agg; simpa using this⟩
    obtain ⟨v', k1, k2⟩ := key
    refine ⟨v' :: vs', ?_, LRel.cons k2 e2⟩
    rw [List.mapM_cons]
    simp only [Sem.run_bind, Sem.run_pure]
    rw [k1]; simp only [Result.andThen_ok]; rw [e1]; rfl

theorem tupled_rel {vs vs' : List Value} (h : LRel β vs vs') : VRel β (tupled vs) (if hh : vs'.toArray.size = 1 then vs'.toArray[0] else .tuple vs'.toArray) := by
  cases vs with
  | nil =>
    have : vs' = [] := List.length_eq_zero_iff.1 (by have := h.1; simpa using this.symm)
    subst this
    exact LRel.tuple (LRel.nil β)
  | cons v vs =>
    cases vs' with
    | nil => have := h.1; simp at this
    | cons v' vs' =>
      cases vs with
      | nil =>
        have : vs' = [] := List.length_eq_zero_iff.1 (by have := h.1; simpa using this.symm)
        subst this
        exact h.2 0 v v' rfl rfl
      | cons u us =>
        cases vs' with
        | nil => have := h.1; simp at this
        | cons u' us' =>
          rw [dif_neg (by simp)]
          exact h.tuple

/-- A function of whose calls something is known otherwise. -/
def PrimOk (P : Program) (f : FuncId) (p : List Value → AHeap → Option (CRes × AHeap)) : Prop :=
  ∀ (Fz : Fr) (w0 : World) (β : Bt) (H : AHeap) (w : World) (args : List Value) (args' : Array Value) (r : CRes) (H' : AHeap), Rel P Fz w0 β H w → LRel β args args'.toList → p args H = some (r, H') →
    (callFunc f args').run P w = .ok (.enter f args') w ∧ ∀ n, CallsIn Fence.wide n P f args' w (ROk P Fz w0 β fun r' H2 => r' = r ∧ H2 = H')

structure TabOk (P : Program) (T : Tab) : Prop where
  meth : ∀ t name f, T.meth t name = some f → rmeth P t name = some f
  code : ∀ f rf, T.fn f = some (.code rf) → rfun P f = some rf
  prim : ∀ f p, T.fn f = some (.prim p) → PrimOk P f p

theorem env0_rel {args : List Value} {args' : Array Value} (hl : LRel β args args'.toList) (n : Nat) : EnvRel β (args.map some ++ List.replicate (n - args.length) (some undef)) (args' ++ Array.replicate (n - args'.size) undef) := by
  have hlen : args.length = args'.size := by have := hl.1; simpa using this
  refine ⟨by simp [hlen], fun t v v' x y => ?_⟩
  by_cases ht : t < args.length
  · rw [List.getElem?_append_left (by simpa using ht), List.getElem?_map] at x
    rw [Array.getElem?_append_left (by omega)] at y
    obtain ⟨u, hu, e⟩ := map_some x
    cases e
    exact hl.2 t v v' hu (by simpa using y)
  · rw [List.getElem?_append_right (by simp; omega)] at x
    rw [Array.getElem?_append_right (by omega)] at y
    rw [List.getElem?_replicate] at x
    rw [Array.getElem?_replicate] at y
    split at x
    · split at y
      · cases x; cases y; exact undef_rel β
      · cases y
    · cases x

theorem callStep_snd (hT : TabOk P T) (hC : CodeSnd P S) : CallSnd P ⟨stepCode T S, stepCall T S⟩ := by
  intro Fz w0 β H w f args args' k h hl hcall
  simp only [stepCall] at hcall
  split at hcall
  · rename_i rf hf
    split at hcall <;> (try exact hcall.elim)
    rename_i hle
    have hrf := hT.code f rf hf
    unfold rfun at hrf
    split at hrf <;> (try cases hrf)
    rename_i fn hfn
    split at hrf
    · cases hrf
    rename_i hname
    split at hrf <;> (try cases hrf)
    rename_i c hbody
    split at hrf <;> (try cases hrf)
    rename_i rb rrs hrb hrr
    have hlen : args.length = args'.size := by have := hl.1; simpa using this
    refine ⟨?_, fun n => ?_⟩
    · have hn : ¬ fn.name = "runtime.NumGoroutine" := by simpa using hname
      simp [callFunc, hfn, hn, hbody]
    · refine callsIn_of_wp_marks hfn hbody trivial ?_
      change c.wpIn (FW none) n P _ _ w
      have hst : StRel β ⟨args.map some ++ List.replicate (fn.ntmps - args.length) (some undef), [], none⟩ none { tmps := args' ++ Array.replicate (fn.ntmps - args'.size) undef, defers := [] } := ⟨env0_rel hl _, trivial, trivial⟩
      refine wpIn_mono (hC Fz w0 β H w c rb _ none _ _ n hrb h hst hcall) ?_
      rintro ex a1 w1 ⟨x, st1, H1, β1, hk, hle1, hrel, hs1, hx⟩
      have hret : ∀ (hk : retS st1 H1 rrs k), LeavesInM Fence.wide n P fn a1.tmps (ROk P Fz w0 β k) a1.defers .returning w1 := by
        intro hk
        unfold retS at hk
        split at hk <;> (try exact hk.elim)
        rename_i H2 hsm
        split at hk <;> (try exact hk.elim)
        rename_i vs hvs
        refine marks_snd (by simp) st1.marks a1.defers H1 w1 H2 hrel hs1.marks hsm fun w2 hrel2 => ?_
        obtain ⟨vs', e1, e2⟩ := results_snd hrel2 hs1.env fn.results.toList rrs vs hrr hvs
        refine ⟨if hh : vs'.toArray.size = 1 then vs'.toArray[0] else .tuple vs'.toArray, ?_, .ret (tupled vs), H2, β1, hk, hle1, hrel2, tupled_rel e2⟩
        rw [results_eq, Array.mapM_eq_mapM_toList]
        simp only [Sem.run_bind, Sem.run_map, e1, Result.andThen_ok, Sem.run_pure]
      cases x with
      | norm =>
        cases ex <;> simp only [XRel] at hx <;> (try exact hx.elim)
        exact hret hk
      | ret =>
        cases ex <;> simp only [XRel] at hx <;> (try exact hx.elim)
        exact hret hk
      | exit id => exact hk.elim
      | pan v =>
        cases ex <;> simp only [XRel] at hx <;> (try exact hx.elim)
        obtain ⟨v', rfl, hv⟩ := hx
        simp only at hk
        split at hk <;> (try exact hk.elim)
        rename_i H2 hsm
        exact marks_snd (by simp) st1.marks a1.defers H1 w1 H2 hrel hs1.marks hsm fun w2 hrel2 => ⟨.pan v, H2, β1, hk, hle1, hrel2, v', rfl, hv⟩
  · rename_i p hf
    split at hcall <;> (try exact hcall.elim)
    rename_i r H2 hp
    obtain ⟨c1, c2⟩ := hT.prim f p hf Fz w0 β H w args args' r H2 h hl hp
    refine ⟨c1, fun n => (c2 n).mono ?_⟩
    rintro e w' ⟨cr, H3, β', ⟨rfl, rfl⟩, g⟩
    exact ⟨_, _, β', hcall, g⟩
  · exact hcall.elim
end
end Go.E

namespace Go.E
section
variable {P : Program} {Fz : Fr} {w0 : World} {β : Bt} {H H' : AHeap} {w : World} {S : S3 Prop} {T : Tab}

def LoopSnd (P : Program) (S : S3 Prop) (m : Nat) : Prop := ∀ (Fz : Fr) (w0 : World) (β : Bt) (H : AHeap) (w : World) (c : Code) (rc : RCode) (st : St) (ro : Option Nat) (a : Act) (k : RExit → St → AHeap → Prop) (n : Nat),
  rcode P c = some rc → Rel P Fz w0 β H w → StRel β st ro a → S.code (.loop rc) st H k → Code.roundsIn (FW ro) n P c (QOk P Fz w0 β ro k) m a w

theorem rounds_mono {F : Fence} {n : Nat} {c : Code} {Q Q' : Exit → Act → World → Prop} (hq : ∀ e a w, Q e a w → Q' e a w) : ∀ (m : Nat) (a : Act) (w : World), Code.roundsIn F n P c Q m a w → Code.roundsIn F n P c Q' m a w
  | 0, _, _, h => h
  | m + 1, a, w, h => by
    rw [roundsIn_succ] at h ⊢
    refine wpIn_mono h fun e a w hh => ?_
    cases e <;> simp only [Exit.then] at hh ⊢ <;> first | exact hq _ _ _ hh | exact rounds_mono hq m a w hh

theorem loopStep_snd (hC : CodeSnd P S) {m : Nat} (hL : LoopSnd P S m) : LoopSnd P ⟨stepCode T S, stepCall T S⟩ (m + 1) := by
  intro Fz w0 β H w c rc st ro a k n hc h hs ha
  simp only [stepCode] at ha
  rw [roundsIn_succ]
  refine wpIn_mono (hC Fz w0 β H w c rc st ro a _ n hc h hs ha) ?_
  rintro ex a1 w1 ⟨x, st1, H1, β1, hk, hle, hrel, hs1, hx⟩
  cases x with
  | norm =>
    cases ex <;> simp only [XRel] at hx <;> (try exact hx.elim)
    simp only [Exit.then]
    exact rounds_mono (fun e a w hh => hh.le hle) m a1 w1 (hL Fz w0 β1 H1 w1 c rc st1 ro a1 k n hc hrel hs1 hk)
  | ret =>
    cases ex <;> simp only [XRel] at hx <;> (try exact hx.elim)
    exact ⟨.ret, st1, H1, β1, hk, hle, hrel, hs1, trivial⟩
  | exit id =>
    cases ex <;> simp only [XRel] at hx <;> (try exact hx.elim)
    exact ⟨.exit id, st1, H1, β1, hk, hle, hrel, hs1, hx⟩
  | pan v =>
    cases ex <;> simp only [XRel] at hx <;> (try exact hx.elim)
    exact ⟨.pan v, st1, H1, β1, hk, hle, hrel, hs1, hx⟩

theorem codeStep_snd (hT : TabOk P T) (hC : CodeSnd P S) (hK : CallSnd P S) (hD : DrawSnd P T S) {m : Nat} (hL : LoopSnd P S m) : CodeSnd P ⟨stepCode T S, stepCall T S⟩ := by
  intro Fz w0 β H w c rc st ro a k n hc h hs ha
  simp only at ha
  cases c with
  | skip =>
    simp only [rcode] at hc; cases hc
    exact wpIn_skip ⟨.norm, st, H, β, ha, Bt.le_refl β, h, hs, trivial⟩
  | region id ops draw =>
    cases draw with
    | false =>
      simp only [rcode] at hc
      obtain ⟨rs, hr, e⟩ := map_some hc
      cases e
      exact region_snd hT.meth hC hK hr h hs ha
    | true =>
      have hc0 := hc
      simp only [rcode] at hc
      split at hc <;> (try cases hc)
      rename_i rs hr
      split at hc <;> (try cases hc)
      exact hD Fz w0 β H w id ops rs st ro a k n _ _ hc0 h hs ha
  | seq x y =>
    simp only [rcode] at hc
    split at hc <;> (try cases hc)
    rename_i rx ry h1 h2
    simp only [stepCode] at ha
    refine wpIn_seq (wpIn_mono (hC Fz w0 β H w x rx st ro a _ n h1 h hs ha) ?_)
    rintro ex a1 w1 ⟨e, st1, H1, β1, hk, hle, hrel, hs1, hx⟩
    cases e with
    | norm =>
      cases ex <;> simp only [XRel] at hx <;> (try exact hx.elim)
      simp only [Exit.then]
      exact wpIn_mono (hC Fz w0 β1 H1 w1 y ry st1 ro a1 _ n h2 hrel hs1 hk) fun e a w hh => hh.le hle
    | ret =>
      cases ex <;> simp only [XRel] at hx <;> (try exact hx.elim)
      exact ⟨.ret, st1, H1, β1, hk, hle, hrel, hs1, trivial⟩
    | exit id =>
      cases ex <;> simp only [XRel] at hx <;> (try exact hx.elim)
      exact ⟨.exit id, st1, H1, β1, hk, hle, hrel, hs1, hx⟩
    | pan v =>
      cases ex <;> simp only [XRel] at hx <;> (try exact hx.elim)
      exact ⟨.pan v, st1, H1, β1, hk, hle, hrel, hs1, hx⟩
  | cond cc x y =>
    simp only [rcode] at hc
    split at hc <;> (try cases hc)
    rename_i rx ry h1 h2
    simp only [stepCode] at ha
    split at ha <;> (try exact ha.elim)
    · rename_i hcv
      exact wpIn_cond_true (opv_rel hs.env hcv).invBool (hC Fz w0 β H w x rx st ro a _ n h1 h hs ha)
    · rename_i hcv
      exact wpIn_cond_false (opv_rel hs.env hcv).invBool (hC Fz w0 β H w y ry st ro a _ n h2 h hs ha)
  | block id x =>
    simp only [rcode] at hc
    obtain ⟨rx, h1, e⟩ := map_some hc
    cases e
    simp only [stepCode] at ha
    refine wpIn_block (wpIn_mono (hC Fz w0 β H w x rx st ro a _ n h1 h hs ha) ?_)
    rintro ex a1 w1 ⟨e, st1, H1, β1, hk, hle, hrel, hs1, hx⟩
    cases e with
    | norm =>
      cases ex <;> simp only [XRel] at hx <;> (try exact hx.elim)
      exact ⟨.norm, st1, H1, β1, hk, hle, hrel, hs1, trivial⟩
    | ret =>
      cases ex <;> simp only [XRel] at hx <;> (try exact hx.elim)
      exact ⟨.ret, st1, H1, β1, hk, hle, hrel, hs1, trivial⟩
    | exit j =>
      cases ex <;> simp only [XRel] at hx <;> (try exact hx.elim)
      subst hx
      simp only [Exit.inBlock]
      simp only at hk
      split at hk
      · rename_i hj; rw [if_pos hj]; exact ⟨.norm, st1, H1, β1, hk, hle, hrel, hs1, trivial⟩
      · rename_i hj; rw [if_neg hj]; exact ⟨.exit j, st1, H1, β1, hk, hle, hrel, hs1, rfl⟩
    | pan v =>
      cases ex <;> simp only [XRel] at hx <;> (try exact hx.elim)
      exact ⟨.pan v, st1, H1, β1, hk, hle, hrel, hs1, hx⟩
  | loop x =>
    simp only [rcode] at hc
    obtain ⟨rx, h1, e⟩ := map_some hc
    cases e
    exact wpIn_loop_rounds (m + 1) (loopStep_snd (T := T) hC hL Fz w0 β H w x rx st ro a k n h1 h hs ha)
  | rangeFunc g ps x y =>
    simp only [rcode] at hc
    split at hc <;> (try cases hc)
    rename_i rx ry h1 h2
    exact rangeFunc_snd hC hK h1 h2 h hs ha
  | exit id =>
    simp only [rcode] at hc; cases hc
    exact wpIn_exit ⟨.exit id, st, H, β, ha, Bt.le_refl β, h, hs, rfl⟩
  | ret =>
    simp only [rcode] at hc; cases hc
    exact wpIn_ret ⟨.ret, st, H, β, ha, Bt.le_refl β, h, hs, trivial⟩
  | scope x => simp [rcode] at hc
  | label l => simp [rcode] at hc
  | goto l => simp [rcode] at hc
  | refuse w => simp [rcode] at hc

/-- **THE WHOLE**, once regions that draw are shown. -/
theorem ev_snd (hT : TabOk P T) (hD : ∀ S : S3 Prop, CodeSnd P S → CallSnd P S → DrawSnd P T S) : ∀ N, CodeSnd P (evN T N) ∧ CallSnd P (evN T N) ∧ LoopSnd P (evN T N) N
  | 0 => ⟨fun _ _ _ _ _ _ _ _ _ _ _ _ _ _ _ h => h.elim, fun _ _ _ _ _ _ _ _ _ _ _ h => h.elim, fun _ _ _ _ _ _ _ _ _ _ _ _ _ _ _ h => h.elim⟩
  | N + 1 => by
    obtain ⟨h1, h2, h3⟩ := ev_snd hT hD N
    exact ⟨codeStep_snd hT h1 h2 (hD _ h1 h2) h3, callStep_snd hT h1, loopStep_snd h1 h3⟩
end
end Go.E

namespace Go.E

/-- Two activations' slots, alike as far as operands see. -/
def Alike (e e' : Env) (xs : List Operand) : Prop := ∀ x ∈ xs, opv e x = opv e' x

theorem opvs_alike {e e' : Env} : ∀ {xs : List Operand}, Alike e e' xs → opvs e xs = opvs e' xs
  | [], _ => rfl
  | x :: r, h => by
    simp only [opvs]
    rw [h x (List.mem_cons_self ..), opvs_alike (fun y hy => h y (List.mem_cons_of_mem _ hy))]
theorem partsV_alike {e e' : Env} : ∀ {ps : List (Nat × Nat × Operand)}, Alike e e' (ps.map (·.2.2)) → partsV e ps = partsV e' ps
  | [], _ => rfl
  | (o, s, x) :: r, h => by
    simp only [partsV]
    rw [h x (by simp), partsV_alike (fun y hy => h y (by simp at hy ⊢; exact .inr hy))]
theorem opvO_alike {e e' : Env} {x : Option Operand} (h : Alike e e' x.toList) : opvO e x = opvO e' x := by
  cases x with
  | none => rfl
  | some x => simp only [opvO]; rw [h x (by simp)]

theorem aop_alike {e e' : Env} {H : AHeap} {op : ROp} (h : Alike e e' (opnds op)) : aop e H op = aop e' H op := by
  cases op <;> simp only [opnds] at h
  case build zero ps => simp only [aop]; rw [partsV_alike h]
  case buildSlice a b c d ps => simp only [aop]; rw [partsV_alike h]
  case mkfunc fn f c =>
    simp only [aop]
    rw [opvs_alike (xs := f) (fun y hy => h y (List.mem_append.2 (.inl hy))), opvs_alike (xs := c) (fun y hy => h y (List.mem_append.2 (.inr hy)))]
  case sliceStr x l hh =>
    simp only [aop]
    rw [h x (by simp), opvO_alike (x := l) (fun y hy => h y (by simp [hy])), opvO_alike (x := hh) (fun y hy => h y (by simp at hy ⊢; simp [hy]))]
  case sliceSl s x l hh m =>
    simp only [aop]
    rw [h x (by simp), opvO_alike (x := l) (fun y hy => h y (by simp at hy ⊢; simp [hy])), opvO_alike (x := hh) (fun y hy => h y (by simp at hy ⊢; simp [hy])), opvO_alike (x := m) (fun y hy => h y (by simp at hy ⊢; simp [hy]))]
  case sliceArr n s x l hh m =>
    simp only [aop]
    rw [h x (by simp), opvO_alike (x := l) (fun y hy => h y (by simp at hy ⊢; simp [hy])), opvO_alike (x := hh) (fun y hy => h y (by simp at hy ⊢; simp [hy])), opvO_alike (x := m) (fun y hy => h y (by simp at hy ⊢; simp [hy]))]
  case call f args => simp only [aop]; rw [opvs_alike h]
  case callv f args =>
    simp only [aop]
    rw [h f (by simp), opvs_alike (fun y hy => h y (List.mem_cons_of_mem _ hy))]
  case callm => rfl
  case next x b => cases b <;> (simp only [aop] <;> try rw [h x (by simp)])
  case new => rfl
  case mkmap => rfl
  case pick c a b => simp only [aop]; rw [h c (by simp), h a (by simp), h b (by simp)]
  case mput u m k x => simp only [aop]; rw [h m (by simp), h k (by simp), h x (by simp)]
  case store n a x => simp only [aop]; rw [h a (by simp), h x (by simp)]
  case bin op t u a x => simp only [aop]; rw [h a (by simp), h x (by simp)]
  case mkslice e1 s b z a x => simp only [aop]; rw [h a (by simp), h x (by simp)]
  case idxS s a x => simp only [aop]; rw [h a (by simp), h x (by simp)]
  case idxA l s a x => simp only [aop]; rw [h a (by simp), h x (by simp)]
  case strAt a x => simp only [aop]; rw [h a (by simp), h x (by simp)]
  case arrAt l s g a x => simp only [aop]; rw [h a (by simp), h x (by simp)]
  case look u z a x ok => simp only [aop]; rw [h a (by simp), h x (by simp)]
  case append e1 s b z a x => simp only [aop]; rw [h a (by simp), h x (by simp)]
  case copy s a x => simp only [aop]; rw [h a (by simp), h x (by simp)]
  case min2 a x => simp only [aop]; rw [h a (by simp), h x (by simp)]
  case max2 a x => simp only [aop]; rw [h a (by simp), h x (by simp)]
  case delete u a x => simp only [aop]; rw [h a (by simp), h x (by simp)]
  all_goals (simp only [aop]; rw [h _ (List.mem_singleton.2 rfl)])

theorem allocC_alike {e e' : Env} {i : Nat} {op : ROp} (h : Alike e e' (opnds op)) : allocC e i op = allocC e' i op := by
  cases op <;> simp only [opnds] at h <;> simp only [allocC]
  case box t n x => rw [h x (by simp)]
  case buildSlice a b c d ps => rw [partsV_alike h]

theorem evOp_alike {R : Type} [Ver R] {T : Tab} {e e' : Env} {H : AHeap} {op : ROp} {k : Res → AHeap → R} (h : Alike e e' (opnds op)) : evOp T e op H k = evOp T e' op H k := by
  have ha := aop_alike (H := H) h
  unfold evOp
  split
  · rename_i x; rw [h x (by simp [opnds])]
  · rename_i recv name args
    simp only [opnds] at h
    rw [h recv (by simp), opvs_alike (fun y hy => h y (List.mem_cons_of_mem _ hy))]
  · rw [ha]

theorem alike_of_names {e e' : Env} {o : ROper} (h : ∀ t ∈ names o, e[t]? = e'[t]?) : Alike e e' (opnds o.op) ∧ wanted e o = wanted e' o := by
  constructor
  · intro x hx
    cases x with
    | tmp t =>
      simp only [opv]
      rw [h t (List.mem_append.2 (.inl (List.mem_filterMap.2 ⟨_, hx, rfl⟩)))]
    | const v => rfl
    | global g => rfl
    | func f => rfl
  · unfold wanted
    cases hg : o.guard with
    | none => rfl
    | some g =>
      obtain ⟨t, b⟩ := g
      simp only
      rw [h t (List.mem_append.2 (.inr (by rw [hg]; simp)))]

theorem evOper_alike {R : Type} [Ver R] {T : Tab} {S : S3 R} {o : ROper} {st st' : St} {H : AHeap} {k : Value → AHeap → R} {kp : Value → AHeap → R} (h : ∀ t ∈ names o, st.env[t]? = st'.env[t]?) :
    evOper T S o st H k kp = evOper T S o st' H k kp := by
  obtain ⟨h1, h2⟩ := alike_of_names h
  unfold evOper
  rw [h2]
  split <;> first | rw [evOp_alike h1] | rfl

theorem pure_any {e : Env} {H : AHeap} {op : ROp} {res : Res} {H1 : AHeap} (hp : isPure op = true) (h : aop e H op = some (res, H1)) : H1 = H ∧ (∃ v, res = .val v) ∧ ∀ H2, aop e H2 op = some (res, H2) := by
  cases op <;> simp only [isPure] at hp <;> (try cases hp) <;> simp only [aop] at h ⊢
  all_goals
    repeat' split at h
    all_goals first
      | (cases h; done)
      | (cases h; exact ⟨rfl, ⟨_, rfl⟩, fun H2 => by simp [*]⟩)
      | (obtain ⟨z, hz, e0⟩ := map_some h; cases e0; exact ⟨rfl, ⟨_, rfl⟩, fun H2 => by simp [*]⟩)

theorem read_any {e : Env} {H : AHeap} {op : ROp} {res : Res} {H1 : AHeap} (hp : isRead op = true) (h : aop e H op = some (res, H1)) : H1 = H := by
  cases op <;> simp only [isRead] at hp <;> (try cases hp) <;> simp only [aop] at h
  all_goals
    repeat' split at h
    all_goals first
      | (cases h; done)
      | (cases h; rfl)
      | (obtain ⟨z, hz, e0⟩ := map_some h; cases e0; rfl)

end Go.E

namespace Go.E

theorem if_congr' {α : Type} {p q : Prop} {_ : Decidable p} {_ : Decidable q} (h : p ↔ q) (x y : α) : (if p then x else y) = if q then x else y := by
  by_cases hp : p
  · rw [if_pos hp, if_pos (h.1 hp)]
  · rw [if_neg hp, if_neg fun hq => hp (h.2 hq)]

def Wr (rs : List ROper) (j t : Nat) : Prop := ∃ o, rs[j]? = some o ∧ o.dst = some t

open Classical in
/-- The slots that the operations of M have written, as they are; the others as they were. -/
noncomputable def envAt (rs : List ROper) (M : Nat → Prop) (e0 e : Env) : Env :=
  (List.range e.length).map fun t => if ∃ j, M j ∧ Wr rs j t then (e[t]?).join else (e0[t]?).join

@[simp] theorem envAt_len (rs : List ROper) (M : Nat → Prop) (e0 e : Env) : (envAt rs M e0 e).length = e.length := by simp [envAt]

open Classical in
theorem envAt_get {rs : List ROper} {M : Nat → Prop} {e0 e : Env} (hl : e.length = e0.length) (t : Nat) :
    (envAt rs M e0 e)[t]? = if ∃ j, M j ∧ Wr rs j t then e[t]? else e0[t]? := by
  unfold envAt
  by_cases ht : t < e.length
  · have ht0 : t < e0.length := by omega
    rw [List.getElem?_map, List.getElem?_range ht, Option.map_some, List.getElem?_eq_getElem ht, List.getElem?_eq_getElem ht0]
    split <;> rfl
  · have h1 : e[t]? = none := List.getElem?_eq_none (by omega)
    have h2 : e0[t]? = none := List.getElem?_eq_none (by omega)
    rw [List.getElem?_eq_none (by simp; omega), h1, h2]
    split <;> rfl

structure Slots (rs : List ROper) (bef : List Nat) : Prop where
  one : ∀ {j j' t : Nat}, Wr rs j t → Wr rs j' t → j = j'
  ord : ∀ {i j t : Nat} {o : ROper}, rs[i]? = some o → t ∈ names o → Wr rs j t → j = i ∨ (bef.getD i 0).testBit j = true ∨ (bef.getD j 0).testBit i = true

theorem slotsOk_spec {rs : List ROper} {bef : List Nat} (h : slotsOk rs bef = true) : Slots rs bef := by
  have key : ∀ {i j t : Nat} {a b : ROper}, rs[i]? = some a → rs[j]? = some b → a.dst = some t → i = j ∨ (b.dst ≠ some t ∧ (t ∉ names b ∨ (bef.getD j 0).testBit i = true ∨ (bef.getD i 0).testBit j = true)) := by
    intro i j t a b ha hb hd
    unfold slotsOk at h
    have h1 := (List.all_eq_true.1 h) (a, i) (List.mem_zipIdx_iff_getElem?.2 ha)
    simp only [hd] at h1
    have h2 := (List.all_eq_true.1 h1) (b, j) (List.mem_zipIdx_iff_getElem?.2 hb)
    simp only [Bool.or_eq_true, Bool.and_eq_true, beq_iff_eq, bne_iff_ne, Bool.not_eq_true', List.contains_eq_mem, decide_eq_false_iff_not] at h2
    rcases h2 with h2 | ⟨h2, h3⟩
    · exact .inl h2
    · right
      refine ⟨h2, ?_⟩
      rcases h3 with (h3 | h3) | h3
      · exact .inl h3
      · exact .inr (.inl h3)
      · exact .inr (.inr h3)
  refine ⟨?_, ?_⟩
  · rintro j j' t ⟨o, h1, h2⟩ ⟨o', h3, h4⟩
    rcases key h1 h3 h2 with h5 | ⟨h5, _⟩
    · exact h5
    · exact absurd h4 h5
  · rintro i j t o h1 h2 ⟨o', h3, h4⟩
    rcases key h3 h1 h4 with h5 | ⟨_, h5⟩
    · exact .inl h5
    · rcases h5 with h5 | h5
      · exact absurd h2 h5
      · exact .inr h5

def bf (bef : List Nat) (i j : Nat) : Prop := (bef.getD i 0).testBit j = true

theorem envAt_agree {rs : List ROper} {bef : List Nat} (hs : Slots rs bef) {M : Nat → Prop} {e0 e : Env} (hl : e.length = e0.length) {i : Nat} {o : ROper} (ho : rs[i]? = some o) (hM : ∀ j, M j → ∀ l, bf bef j l → M l)
    (hb : ∀ j, bf bef i j → M j) (hi : ¬ M i) {t : Nat} (ht : t ∈ names o) : (envAt rs M e0 e)[t]? = (envAt rs (bf bef i) e0 e)[t]? := by
  rw [envAt_get hl, envAt_get hl]
  have : (∃ j, M j ∧ Wr rs j t) ↔ ∃ j, bf bef i j ∧ Wr rs j t := by
    constructor
    · rintro ⟨j, h1, h2⟩
      rcases hs.ord ho ht h2 with h3 | h3 | h3
      · subst h3; exact absurd h1 hi
      · exact ⟨j, h3, h2⟩
      · exact absurd (hM j h1 i h3) hi
    · rintro ⟨j, h1, h2⟩; exact ⟨j, hb j h1, h2⟩
  exact if_congr' this _ _

theorem put_len (e : Env) (d : Option Nat) (v : Option Value) : (e.put d v).length = e.length := by cases d <;> simp [Env.put]

theorem envAt_put {rs : List ROper} {M : Nat → Prop} {e0 e : Env} (hl : e.length = e0.length) {i : Nat} {o : ROper} (ho : rs[i]? = some o) (v : Value) :
    envAt rs (fun j => M j ∨ j = i) e0 (e.put o.dst (some v)) = (envAt rs M e0 e).put o.dst (some v) := by
  apply List.ext_getElem?
  intro t
  rw [envAt_get (by rw [put_len, hl])]
  cases hd : o.dst with
  | none =>
    simp only [Env.put]
    rw [envAt_get hl]
    have : (∃ j, (M j ∨ j = i) ∧ Wr rs j t) ↔ ∃ j, M j ∧ Wr rs j t := by
      constructor
      · rintro ⟨j, h1, h2⟩
        rcases h1 with h1 | h1
        · exact ⟨j, h1, h2⟩
        · subst h1; obtain ⟨o', h3, h4⟩ := h2; rw [ho] at h3; cases h3; rw [hd] at h4; cases h4
      · rintro ⟨j, h1, h2⟩; exact ⟨j, .inl h1, h2⟩
    exact if_congr' this _ _
  | some s =>
    simp only [Env.put, List.getElem?_set]
    by_cases hst : s = t
    · subst hst
      have : ∃ j, (M j ∨ j = i) ∧ Wr rs j s := ⟨i, .inr rfl, o, ho, hd⟩
      simp [this]
    · simp only [if_neg hst]
      rw [envAt_get hl]
      have : (∃ j, (M j ∨ j = i) ∧ Wr rs j t) ↔ ∃ j, M j ∧ Wr rs j t := by
        constructor
        · rintro ⟨j, h1, h2⟩
          rcases h1 with h1 | h1
          · exact ⟨j, h1, h2⟩
          · subst h1; obtain ⟨o', h3, h4⟩ := h2; rw [ho] at h3; cases h3; rw [hd] at h4; cases h4; exact absurd rfl hst
        · rintro ⟨j, h1, h2⟩; exact ⟨j, .inl h1, h2⟩
      exact if_congr' this _ _

/-- The slot of an operation that is not of M is not looked at. -/
theorem envAt_keep {rs : List ROper} {bef : List Nat} (hs : Slots rs bef) {M : Nat → Prop} {e0 e : Env} (hl : e.length = e0.length) {i : Nat} {o : ROper} (ho : rs[i]? = some o) (hi : ¬ M i) (v : Value) :
    envAt rs M e0 (e.put o.dst (some v)) = envAt rs M e0 e := by
  apply List.ext_getElem?
  intro t
  rw [envAt_get (by rw [put_len, hl]), envAt_get hl]
  split
  · rename_i h
    obtain ⟨j, h1, h2⟩ := h
    cases hd : o.dst with
    | none => rfl
    | some s =>
      simp only [Env.put, List.getElem?_set]
      by_cases hst : s = t
      · subst hst
        have := hs.one h2 ⟨o, ho, hd⟩
        subst this
        exact absurd h1 hi
      · rw [if_neg hst]
  · rfl

/-- The slot's writer comes in. -/
theorem envAt_in {rs : List ROper} {M : Nat → Prop} {e0 e : Env} (hl : e.length = e0.length) {i : Nat} {o : ROper} (ho : rs[i]? = some o) {v : Value}
    (hv : ∀ t, o.dst = some t → t < e.length → e[t]? = some (some v)) : envAt rs (fun j => M j ∨ j = i) e0 e = (envAt rs M e0 e).put o.dst (some v) := by
  rw [← envAt_put hl ho]
  congr 1
  cases hd : o.dst with
  | none => rfl
  | some s =>
    apply List.ext_getElem?
    intro t
    simp only [Env.put, List.getElem?_set]
    split
    · rename_i h; subst h
      split
      · exact hv s hd ‹_›
      · exact List.getElem?_eq_none (by omega)
    · rfl

theorem envAt_congr {rs : List ROper} {M M' : Nat → Prop} (h : ∀ j, j < rs.length → (M j ↔ M' j)) (e0 e : Env) : envAt rs M e0 e = envAt rs M' e0 e := by
  unfold envAt
  congr 1
  funext t
  have : (∃ j, M j ∧ Wr rs j t) ↔ ∃ j, M' j ∧ Wr rs j t := by
    constructor
    · rintro ⟨j, h1, o, h2, h3⟩; exact ⟨j, (h j (List.getElem?_eq_some_iff.1 h2).1).1 h1, o, h2, h3⟩
    · rintro ⟨j, h1, o, h2, h3⟩; exact ⟨j, (h j (List.getElem?_eq_some_iff.1 h2).1).2 h1, o, h2, h3⟩
  exact if_congr' this _ _

/-! ### The masks -/

theorem and_sub {a b : Nat} (h : (a &&& b == a) = true) : ∀ j, a.testBit j = true → b.testBit j = true := by
  intro j hj
  have h1 : a &&& b = a := by simpa using h
  have h2 : (a &&& b).testBit j = a.testBit j := by rw [h1]
  rw [Nat.testBit_and, hj] at h2
  simpa using h2
theorem and_nsub {a b : Nat} (h : (a &&& b != a) = true) : ∃ j, a.testBit j = true ∧ b.testBit j = false := by
  refine Classical.byContradiction fun hn => ?_
  have : a &&& b = a := by
    apply Nat.eq_of_testBit_eq
    intro j
    rw [Nat.testBit_and]
    cases ha : a.testBit j with
    | false => rfl
    | true =>
      cases hb : b.testBit j with
      | true => rfl
      | false => exact absurd ⟨j, ha, hb⟩ hn
  simp [this] at h
theorem or_bit (d i j : Nat) : (d ||| 2 ^ i).testBit j = (d.testBit j || decide (i = j)) := by rw [Nat.testBit_or, Nat.testBit_two_pow]
theorem maskOf_bit (f : Nat → Bool) : ∀ (n j : Nat), (maskOf f n).testBit j = (decide (j < n) && f j)
  | 0, j => by simp [maskOf]
  | n + 1, j => by
    simp only [maskOf, Nat.testBit_or, maskOf_bit f n j]
    by_cases hn : f n = true
    · rw [if_pos hn, Nat.testBit_two_pow]
      by_cases h : n = j
      · subst h; simp [hn]
      · simp only [h, decide_false, Bool.or_false]
        congr 1
        exact decide_eq_decide.2 (by omega)
    · rw [if_neg hn]
      simp only [Nat.zero_testBit, Bool.or_false]
      by_cases h : n = j
      · subst h; simp at hn; simp [hn]
      · congr 1
        exact decide_eq_decide.2 (by omega)

def hvM (rs : List ROper) : Nat := maskOf (fun i => !lightAt rs i) rs.length

theorem hvM_bit {rs : List ROper} {j : Nat} : (hvM rs).testBit j = true ↔ j < rs.length ∧ lightAt rs j = false := by
  unfold hvM; rw [maskOf_bit]; simp

theorem chk_cons {rs : List ROper} {bef : List Nat} {i done : Nat} {rest : List Nat} (h : chk rs bef rs.length (hvM rs) (i :: rest) done = true) :
    i < rs.length ∧ done.testBit i = false ∧ (∀ j, bf bef i j → done.testBit j = true) ∧
    (lightAt rs i = true ∨ ((∀ g, g < rs.length → lightAt rs g = false → done.testBit g = true → bf bef i g) ∧
      ∀ l, l < rs.length → lightAt rs l = true → done.testBit l = true ∨ ∃ g, lightAt rs g = false ∧ bf bef l g ∧ done.testBit g = false)) ∧
    chk rs bef rs.length (hvM rs) rest (done ||| 2 ^ i) = true := by
  simp only [chk, Bool.and_eq_true, Bool.or_eq_true] at h
  obtain ⟨⟨⟨⟨h1, h2⟩, h3⟩, h4⟩, h5⟩ := h
  refine ⟨by simpa using h1, by simpa using h2, and_sub h3, ?_, h5⟩
  rcases h4 with h4 | ⟨h4, h6⟩
  · exact .inl h4
  · right
    refine ⟨fun g hg1 hg2 hg3 => ?_, fun l hl hll => ?_⟩
    · have : (hvM rs &&& done).testBit g = true := by rw [Nat.testBit_and, hg3, hvM_bit.2 ⟨hg1, hg2⟩]; rfl
      have e : bef.getD i 0 &&& (hvM rs &&& done) = hvM rs &&& done := by simpa using h4
      rw [← e, Nat.testBit_and] at this
      simp only [Bool.and_eq_true] at this
      exact this.1
    · have h7 := (List.all_eq_true.1 h6) l (by simpa using hl)
      simp only [Bool.or_eq_true, hll, Bool.not_true, Bool.false_eq_true, false_or] at h7
      rcases h7 with h7 | h7
      · exact .inl h7
      · right
        obtain ⟨j, hj1, hj2⟩ := and_nsub h7
        rw [Nat.testBit_and, Bool.and_eq_true] at hj1
        exact ⟨j, (hvM_bit.1 hj1.2).2, hj1.1, hj2⟩

theorem chk_nil {rs : List ROper} {bef : List Nat} {done : Nat} (h : chk rs bef rs.length (hvM rs) [] done = true) {i : Nat} : done.testBit i = true ↔ i < rs.length := by
  simp only [chk, beq_iff_eq] at h
  rw [h, maskOf_bit]; simp

theorem chk_mem {rs : List ROper} {bef : List Nat} : ∀ {pl : List Nat} {done : Nat}, chk rs bef rs.length (hvM rs) pl done = true → ∀ i, i < rs.length → done.testBit i = false → i ∈ pl
  | [], done, h, i, hi, hd => by rw [(chk_nil h).2 hi] at hd; cases hd
  | j :: rest, done, h, i, hi, hd => by
    by_cases e : j = i
    · subst e; exact List.mem_cons_self
    · exact List.mem_cons_of_mem _ (chk_mem (chk_cons h).2.2.2.2 i hi (by rw [or_bit, hd]; simpa using e))

theorem chk_heavy {rs : List ROper} {bef : List Nat} : ∀ {pl : List Nat} {done : Nat}, chk rs bef rs.length (hvM rs) pl done = true → ∀ i, i ∈ pl → lightAt rs i = false → ∀ g, g < rs.length → lightAt rs g = false → done.testBit g = true → bf bef i g
  | [], _, _, i, hi, _, _, _, _, _ => by simp at hi
  | j :: rest, done, h, i, hi, hl, g, hg, hgl, hgd => by
    obtain ⟨h1, h2, h3, h4, h5⟩ := chk_cons h
    rcases List.mem_cons.1 hi with e | e
    · subst e
      rcases h4 with h4 | h4
      · rw [hl] at h4; cases h4
      · exact h4.1 g hg hgl hgd
    · exact chk_heavy h5 i e hl g hg hgl (by rw [or_bit, hgd]; rfl)

theorem chk_below {rs : List ROper} {bef : List Nat} : ∀ {pl : List Nat} {done : Nat}, chk rs bef rs.length (hvM rs) pl done = true → ∀ i, done.testBit i = true → i < rs.length
  | [], done, h, i, hd => (chk_nil h).1 hd
  | j :: rest, done, h, i, hd => chk_below (chk_cons h).2.2.2.2 i (by rw [or_bit, hd]; rfl)

/-! ### What stands ahead -/

def stepB (acc : List Nat) (o : Oper) : Nat := o.after.toList.foldl (fun s e => if Region.binds .any e then s ||| 2 ^ e.on ||| acc.getD e.on 0 else s) 0

theorem befs_spec : ∀ (l : List Oper) (acc : List Nat), ∃ tail, befs l acc = acc ++ tail ∧ tail.length = l.length ∧ ∀ (i : Nat) (o : Oper), l[i]? = some o → tail[i]? = some (stepB (acc ++ tail.take i) o)
  | [], acc => ⟨[], by simp [befs], rfl, fun i o h => by simp at h⟩
  | o :: r, acc => by
    obtain ⟨tail, h1, h2, h3⟩ := befs_spec r (acc ++ [stepB acc o])
    refine ⟨stepB acc o :: tail, ?_, by simp [h2], fun i o' hi => ?_⟩
    · simp only [befs]
      change befs r (acc ++ [stepB acc o]) = _
      rw [h1]; simp
    · cases i with
      | zero => simp at hi; subst hi; simp
      | succ i =>
        simp at hi
        have := h3 i o' hi
        simpa using this

theorem stepB_fold (acc : List Nat) (j : Nat) : ∀ (l : List Edge) (s : Nat), (l.foldl (fun s e => if Region.binds .any e then s ||| 2 ^ e.on ||| acc.getD e.on 0 else s) s).testBit j = true ↔
    s.testBit j = true ∨ ∃ e ∈ l, Region.binds .any e = true ∧ (j = e.on ∨ (acc.getD e.on 0).testBit j = true)
  | [], s => by simp
  | e :: l, s => by
    rw [List.foldl_cons, stepB_fold acc j l]
    by_cases hb : Region.binds .any e = true
    · rw [if_pos hb, Nat.testBit_or, Nat.testBit_or, Nat.testBit_two_pow]
      simp only [Bool.or_eq_true, decide_eq_true_eq, List.mem_cons, exists_eq_or_imp, hb, true_and]
      constructor
      · rintro (((h | h) | h) | h)
        · exact .inl h
        · exact .inr (.inl (.inl h.symm))
        · exact .inr (.inl (.inr h))
        · exact .inr (.inr h)
      · rintro (h | (h | h) | h)
        · exact .inl (.inl (.inl h))
        · exact .inl (.inl (.inr h.symm))
        · exact .inl (.inr h)
        · exact .inr h
    · rw [if_neg hb]
      simp only [List.mem_cons, exists_eq_or_imp, hb, Bool.false_eq_true, false_and, false_or]

theorem bef_edge {ops : Array Oper} {i : Nat} {o : Oper} (ho : ops[i]? = some o) {e : Edge} (he : e ∈ o.after.toList) (hb : Region.binds .any e = true) : bf (befs ops.toList []) i e.on := by
  obtain ⟨tail, h1, h2, h3⟩ := befs_spec ops.toList []
  have h4 := h3 i o (by simpa using ho)
  unfold bf
  rw [h1, List.nil_append, List.getD_eq_getElem?_getD, h4, Option.getD_some]
  unfold stepB
  rw [stepB_fold]
  exact .inr ⟨e, he, hb, .inl rfl⟩
theorem bef_sub {ops : Array Oper} {i j : Nat} {o : Oper} (ho : ops[i]? = some o) (h : bf (befs ops.toList []) i j) : ∃ e ∈ o.after.toList, Region.binds .any e = true ∧ (j = e.on ∨ bf (befs ops.toList []) e.on j) := by
  obtain ⟨tail, h1, h2, h3⟩ := befs_spec ops.toList []
  have h4 := h3 i o (by simpa using ho)
  unfold bf at h
  rw [h1, List.nil_append, List.getD_eq_getElem?_getD, h4, Option.getD_some] at h
  unfold stepB at h
  rw [stepB_fold] at h
  rcases h with h | ⟨e, he, hb, h⟩
  · simp at h
  · refine ⟨e, he, hb, ?_⟩
    rcases h with h | h
    · exact .inl h
    · right
      unfold bf
      rw [h1, List.nil_append]
      rw [List.nil_append, List.getD_eq_getElem?_getD, List.getElem?_take] at h
      rw [List.getD_eq_getElem?_getD]
      split at h
      · exact h
      · simp at h

theorem ready_iff {ops : Array Oper} {listed : Array Bool} {i : Nat} : i ∈ Region.ready .any ops listed ↔ ∃ o, ops[i]? = some o ∧ listed.getD i true = false ∧ ∀ e ∈ o.after.toList, Region.binds .any e = true → listed.getD e.on false = true := by
  unfold Region.ready
  rw [List.mem_filter, List.mem_range, Bool.and_eq_true]
  constructor
  · rintro ⟨h1, h2, h3⟩
    refine ⟨ops[i], Array.getElem?_eq_getElem h1, by simpa using h2, fun e he hb => ?_⟩
    rw [Array.getElem?_eq_getElem h1, Option.map_some, Option.getD_some, ← Array.all_toList] at h3
    have := (List.all_eq_true.1 h3) e he
    rw [hb] at this; simpa using this
  · rintro ⟨o, h1, h2, h3⟩
    refine ⟨(Array.getElem?_eq_some_iff.1 h1).1, by simpa using h2, ?_⟩
    rw [h1, Option.map_some, Option.getD_some, ← Array.all_toList]
    refine List.all_eq_true.2 fun e he => ?_
    cases hb : Region.binds .any e with
    | false => rfl
    | true => simpa using h3 e he hb

end Go.E

namespace Go.E
section
variable {P : Program} {Fz : Fr} {w0 : World} {β : Bt} {H H' : AHeap} {w : World} {env : Env} {a : Act} {o : Oper}

/-- What a new block holds, wherever it is laid. -/
theorem new_any {c : List Value} {c' : Array Value} (t : TypeId) (e : Nat) (ex : Bool) (hl : LRel β c c'.toList) (r : Nat) :
    ∀ β', β.le β' → ORel P β' ⟨r, 0, c'.size, e, ex, false⟩ (.cells c t e ex false) (.cells c' t) := fun β' hle =>
  ⟨c', (0, 0), rfl, rfl, rfl, rfl, rfl, by have := hl.1; simp at this; simp [this], fun j v v' a b => (hl.2 j v v' a (by simpa using b)).mono hle, fun _ => .inl rfl⟩

def AllocRun (P : Program) (β : Bt) (i : Nat) (v : Value) (ob : AObj) (w : World) (r : Result Next) : Prop :=
  ∃ (p : Pl) (ro : Obj) (v' : Value), r = .ok (.value v') { w with heap := w.heap.push ro } ∧ p.rb = w.heap.size ∧ p.ro = false ∧ ∀ β', β.le β' → β' i = some p → VRel β' v v' ∧ ORel P β' p ob ro

theorem arun_new {i0 : Nat} {v : Value} {ob : AObj} {t : TypeId} {i : TypeInfo} {z : Value} (hi : P.info? t = some i) (hz : i.zero = some z) (ho : o.op = .alloc t)
    (ha : allocC env i0 (.new z.cells.toList t i.size) = some (v, ob)) : AllocRun P β i0 v ob w ((execOp a.eval o).run P w) := by
  simp only [allocC] at ha
  split at ha <;> (try cases ha)
  rename_i hc
  refine ⟨⟨w.heap.size, 0, z.cells.size, i.size, true, false⟩, .cells z.cells t, .pointer (some ⟨w.heap.size, 0, none⟩), ?_, rfl, rfl, fun β' hle hb => ⟨.ptr 0 hb, new_any t i.size true (clo1s_rel β hc) _ β' hle⟩⟩
  unfold execOp; rw [ho]
  simp [Go.Instr.alloc, run_zero hi hz, newVar, newRow]

theorem arun_box (he : EnvRel β env a.tmps) {i0 : Nat} {v : Value} {ob : AObj} {t : TypeId} {n : Nat} {x : Operand} (ho : o.op = .box t x)
    (ha : allocC env i0 (.box t n x) = some (v, ob)) : AllocRun P β i0 v ob w ((execOp a.eval o).run P w) := by
  simp only [allocC] at ha
  split at ha <;> (try cases ha)
  rename_i u hu
  split at ha <;> (try cases ha)
  refine ⟨⟨w.heap.size, 0, _, n, true, false⟩, .cells (a.eval x).cells t, .pointer (some ⟨w.heap.size, 0, none⟩), ?_, rfl, rfl, fun β' hle hb => ⟨.ptr 0 hb, new_any t n true (cells_rel (opv_rel he hu)) _ β' hle⟩⟩
  unfold execOp; rw [ho]
  simp [Go.Instr.box, newVar, newRow]

theorem arun_buildSlice (he : EnvRel β env a.tmps) {i0 : Nat} {v : Value} {ob : AObj} {t e : TypeId} {n : Nat} {parts : Array (Nat × Operand)} {i : TypeInfo} {z : Value} (hi : P.info? e = some i)
    (hz : i.zero = some z) (hu : P.underlying t = some (.slice e)) (ho : o.op = .buildSlice t n parts)
    (ha : allocC env i0 (.buildSlice e i.size n z.cells.toList (parts.toList.map fun x => (x.1 * i.size, i.size, x.2))) = some (v, ob)) : AllocRun P β i0 v ob w ((execOp a.eval o).run P w) := by
  simp only [allocC] at ha
  split at ha <;> (try cases ha)
  rename_i vs hv
  split at ha <;> (try cases ha)
  rename_i hzc
  split at ha <;> (try cases ha)
  rename_i c hc
  split at ha <;> (try cases ha)
  obtain ⟨hz1, hz2, hz3⟩ := hzc
  obtain ⟨q1, q2⟩ := partsI_spec he i.size parts.toList vs hv
  have hmk := mkCells_rel β hz1 hz2
  obtain ⟨d', r1, r2⟩ := fill_snd (place := fun j => some (j * i.size, i.size)) vs _ _ c _ q1 q2 hmk hc
  refine ⟨⟨w.heap.size, 0, d'.size, i.size, true, false⟩, .cells d' e, .slice (some ⟨w.heap.size, 0, none⟩) n n, ?_, rfl, rfl,
    fun β' hle hb => ⟨.sl hb (Nat.le_refl _) (Nat.le_refl _) (.inr rfl) (fun _ => rfl) (fun e => by cases e), new_any e i.size true r2 _ β' hle⟩⟩
  unfold execOp; rw [ho]
  simp only [Go.Instr.buildSlice, Sem.run_bind, run_und hu, Result.andThen_ok, run_size hi]
  rw [if_neg (by omega)]
  have e2 : (parts.map fun x => (x.1, a.eval x.2)).toList = parts.toList.map fun x => (x.1, a.eval x.2) := by simp
  rw [← e2] at r1
  by_cases hh : n * i.size = 0
  · rw [if_pos hh]
    have e3 : (Array.range (n * i.size)).map (fun x => (#[] : Array Value)[x % (#[] : Array Value).size]!) = (Array.range (n * i.size)).map (fun x => z.cells[x % z.cells.size]!) := by simp [hh]
    simp only [Sem.run_bind, Sem.run_pure, Result.andThen_ok, e3, r1]
    simp [newRow]
  · rw [if_neg hh]
    simp only [Sem.run_bind, run_zero hi hz, Sem.run_pure, Result.andThen_ok, r1]
    simp [newRow]

theorem alloc_run (he : EnvRel β env a.tmps) {r : ROp} (hr : rop P o.type o.op = some r) (hl : isAlloc r = true) {i0 : Nat} {v : Value} {ob : AObj} (ha : allocC env i0 r = some (v, ob)) :
    AllocRun P β i0 v ob w ((execOp a.eval o).run P w) := by
  generalize hop : o.op = op at hr
  unfold rop at hr
  split at hr
  case h_4 =>
    obtain ⟨i, hi, hr⟩ := bind_some hr
    obtain ⟨z, hz, e0⟩ := map_some hr
    cases e0; exact arun_new hi hz hop ha
  case h_5 =>
    obtain ⟨i, hi, e0⟩ := map_some hr
    cases e0; exact arun_box he hop ha
  case h_7 =>
    split at hr <;> (try cases hr)
    rename_i e hu
    split at hr <;> (try cases hr)
    rename_i i hi
    obtain ⟨z, hz, e0⟩ := map_some hr
    cases e0; exact arun_buildSlice he hi hz hu hop ha
  all_goals exfalso
  all_goals
    first
      | (cases hr; cases hl; done)
      | (obtain ⟨_, _, e0⟩ := map_some hr; cases e0; cases hl; done)
      | (obtain ⟨n, _, e0⟩ := map_some hr; cases n <;> cases e0 <;> cases hl; done)
      | skip
  all_goals try unfold rcall at hr
  all_goals
    repeat' split at hr
  all_goals
    first
      | (cases hr; done)
      | (cases hr; cases hl; done)
      | (obtain ⟨_, _, e0⟩ := map_some hr; cases e0; cases hl; done)
      | (obtain ⟨_, _, h1⟩ := bind_some hr; split at h1 <;> cases h1; cases hl; done)
      | skip

theorem Rel.weaken {Fz Fz' : Fr} (h : Rel P Fz' w0 β H w) (h1 : ∀ r o, Fz.fz r = some o → Fz'.fz r = some o) (h2 : ∀ i, Fz.rz i → Fz'.rz i) : Rel P Fz w0 β H w := by
  refine ⟨h.dom, h.live, h.sep, fun r o hr => h.fz r o (h1 r o hr), fun i o p hi hp hr => ?_, fun i hi => h.rz i (h2 i hi), h.old, h.same⟩
  have := h.fzsep i o p hi hp hr
  cases hx : Fz.fz p.rb with
  | none => rfl
  | some o' => rw [h1 _ _ hx] at this; cases this

/-- A block is made for a number that was kept; it is held aside. -/
theorem Rel.push {Fz' : Fr} (h : Rel P Fz w0 β H w) {i : Nat} (hi : Fz.rz i) {p : Pl} {ro : Obj} (hp : p.rb = w.heap.size) (h1 : ∀ r o, Fz'.fz r = some o → Fz.fz r = some o ∨ (r = p.rb ∧ o = ro))
    (h2 : ∀ j, Fz'.rz j → Fz.rz j ∧ j ≠ i) : Rel P Fz' w0 (β.upd i p) H { w with heap := w.heap.push ro } := by
  obtain ⟨hi1, hi2⟩ := h.rz i hi
  have hle := Bt.le_upd p hi2
  have look : ∀ j oj q, H.get j = some oj → β.upd i p j = some q → β j = some q ∧ q.rb < w.heap.size := by
    intro j oj q hj hq
    obtain ⟨q', r, a1, a2, _⟩ := h.live j oj hj
    have hji : j ≠ i := fun e => by rw [e, hi2] at a1; cases a1
    unfold Bt.upd at hq; rw [if_neg hji] at hq
    rw [hq] at a1; cases a1
    exact ⟨hq, (Array.getElem?_eq_some_iff.1 a2).1⟩
  refine ⟨fun j q hq => ?_, fun j oj hj => ?_, fun j l oj ol q q' hjl hj hl hq hq' hr => ?_, fun r o hr => ?_, fun j oj q hj hq hr => ?_, fun j hj => ?_, fun j oj q hj hq hr => ?_, ?_⟩
  · unfold Bt.upd at hq; split at hq
    · omega
    · exact h.dom _ _ hq
  · obtain ⟨q, r, a1, a2, a3⟩ := h.live j oj hj
    refine ⟨q, r, hle _ _ a1, ?_, a3.mono hle⟩
    have hlt := (Array.getElem?_eq_some_iff.1 a2).1
    simp only [Array.getElem?_push]
    rw [if_neg (by omega)]; exact a2
  · exact h.sep j l oj ol q q' hjl hj hl (look j oj q hj hq).1 (look l ol q' hl hq').1 hr
  · rcases h1 r o hr with h3 | ⟨h3, h4⟩
    · have h5 := h.fz r o h3
      have hlt := (Array.getElem?_eq_some_iff.1 h5).1
      simp only [Array.getElem?_push]
      rw [if_neg (by omega)]; exact h5
    · subst h3; subst h4; simp only; rw [hp]; simp
  · obtain ⟨g1, g2⟩ := look j oj q hj hq
    have := h.fzsep j oj q hj g1 hr
    cases hx : Fz'.fz q.rb with
    | none => rfl
    | some o' =>
      rcases h1 _ _ hx with h3 | ⟨h3, _⟩
      · rw [h3] at this; cases this
      · omega
  · obtain ⟨h3, h4⟩ := h2 j hj
    obtain ⟨h5, h6⟩ := h.rz j h3
    exact ⟨h5, by unfold Bt.upd; rw [if_neg h4]; exact h6⟩
  · exact h.old j oj q hj (look j oj q hj hq).1 hr
  · exact ⟨h.same.os, h.same.tape, h.same.output, by have := h.same.size; simp; omega⟩

end

/-! ### Values that are one and the same -/

theorem veq1_sound {x y : Value} (h : veq1 x y = true) : x = y := by
  unfold veq1 at h
  split at h <;> try simp only [Bool.and_eq_true, beq_iff_eq] at h
  all_goals first
    | (cases h; done)
    | rfl
    | (subst h; rfl)
    | (obtain ⟨h1, h2⟩ := h; subst h1; subst h2; rfl)
    | (obtain ⟨⟨h1, h2⟩, h3⟩ := h; subst h1; subst h2; subst h3; rfl)
    | (rename_i s t; rw [Array.toList_inj] at h; obtain ⟨s⟩ := s; obtain ⟨t⟩ := t; simp only at h; rw [h])

theorem veqs_sound : ∀ {xs ys : List Value}, veqs xs ys = true → xs = ys
  | [], [], _ => rfl
  | [], _ :: _, h => by simp [veqs] at h
  | _ :: _, [], h => by simp [veqs] at h
  | a :: as, b :: bs, h => by
    simp only [veqs, Bool.and_eq_true] at h
    rw [veq1_sound h.1, veqs_sound h.2]

theorem veq_sound {x y : Value} (h : veq x y = true) : x = y := by
  unfold veq at h
  split at h
  · rename_i a b
    have := veqs_sound h
    rw [Array.toList_inj] at this
    rw [this]
  · exact veq1_sound h

end Go.E

namespace Go.E

def Ext (Fz Fz' : Fr) : Prop := (∀ r o, Fz.fz r = some o → Fz'.fz r = some o) ∧ ∀ i, Fz.rz i → Fz'.rz i
theorem Ext.refl (Fz : Fr) : Ext Fz Fz := ⟨fun _ _ h => h, fun _ h => h⟩

/-- A block that is made, and not yet laid in the logical heap. -/
def PendR (P : Program) (Fz : Fr) (w0 : World) (Fz' : Fr) (β : Bt) (x : Nat × Nat × AObj) : Prop :=
  ∃ (p : Pl) (ro : Obj), β x.2.1 = some p ∧ p.ro = false ∧ w0.heap.size ≤ p.rb ∧ Fz'.fz p.rb = some ro ∧ Fz.fz p.rb = none ∧ ORel P β p x.2.2 ro
def Apart (β : Bt) (x y : Nat × Nat × AObj) : Prop := x.1 ≠ y.1 ∧ ∀ p q, β x.2.1 = some p → β y.2.1 = some q → p.rb ≠ q.rb

theorem fills_snd {P : Program} {Fz : Fr} {w0 w : World} {β : Bt} : ∀ (L : List (Nat × Nat × AObj)) (Fz' : Fr) (H : AHeap), Rel P Fz' w0 β H w → Ext Fz Fz' → (∀ x ∈ L, PendR P Fz w0 Fz' β x) → L.Pairwise (Apart β) →
    ∃ Fz'', Rel P Fz'' w0 β (fills H L) w ∧ Ext Fz Fz'' ∧ (∀ i, Fz'.rz i → Fz''.rz i) ∧ ∀ r o, Fz'.fz r = some o → (∀ x ∈ L, ∀ p, β x.2.1 = some p → p.rb ≠ r) → Fz''.fz r = some o
  | [], Fz', H, h, he, _, _ => ⟨Fz', h, he, fun _ h => h, fun _ _ h _ => h⟩
  | x :: L, Fz', H, h, he, hx, hp => by
    obtain ⟨p, ro, b1, b2, b3, b4, b5, b6⟩ := hx x List.mem_cons_self
    obtain ⟨hp1, hp2⟩ := List.pairwise_cons.1 hp
    let Fz1 : Fr := ⟨fun r => if r = p.rb then none else Fz'.fz r, Fz'.rz⟩
    have hw : Rel P Fz1 w0 β H w := h.weaken (fun r o hr => by
      simp only [Fz1] at hr
      split at hr
      · cases hr
      · exact hr) (fun _ h => h)
    have hget : H.get x.2.1 = none := by
      cases hg : H.get x.2.1 with
      | none => rfl
      | some o => have := h.fzsep _ _ _ hg b1 b2; rw [b4] at this; cases this
    have hrb : w.heap[p.rb]? = some ro := h.fz _ _ b4
    have h2 : Rel P Fz1 w0 β (H.set x.2.1 x.2.2) w := by
      refine hw.fill hget (h.dom _ _ b1) b1 hrb b6 (fun j oj q hj hq e => ?_) (by simp [Fz1]) b2
      cases hqr : q.ro with
      | false => have := h.fzsep j oj q hj hq hqr; rw [← e, b4] at this; cases this
      | true => have := h.old j oj q hj hq hqr; omega
    have he1 : Ext Fz Fz1 := ⟨fun r o hr => by
      simp only [Fz1]
      rw [if_neg (fun e => by rw [e, b5] at hr; cases hr)]
      exact he.1 r o hr, he.2⟩
    obtain ⟨Fz2, g1, g2, g3, g4⟩ := fills_snd L Fz1 _ h2 he1 (fun y hy => by
      obtain ⟨q, r2, c1, c2, c3, c4, c5, c6⟩ := hx y (List.mem_cons_of_mem _ hy)
      exact ⟨q, r2, c1, c2, c3, by simp only [Fz1]; rw [if_neg (fun e => (hp1 y hy).2 p q b1 c1 e.symm)]; exact c4, c5, c6⟩) hp2
    refine ⟨Fz2, ?_, g2, g3, fun r o hr hn => ?_⟩
    · obtain ⟨xi, xid, xo⟩ := x
      exact g1
    · refine g4 r o ?_ fun y hy => hn y (List.mem_cons_of_mem _ hy)
      simp only [Fz1]
      rw [if_neg (fun e => hn x List.mem_cons_self p b1 e.symm)]
      exact hr

theorem watchOk_mem {H : AHeap} : ∀ {ws : List (Nat × ROp × Env × Value)}, watchOk H ws = true → ∀ j op env v, (j, op, env, v) ∈ ws → ∃ H1, aop env H op = some (.val v, H1)
  | [], _, j, op, env, v, h => by simp at h
  | (j', op', env', v') :: r, hw, j, op, env, v, h => by
    simp only [watchOk, Bool.and_eq_true] at hw
    rcases List.mem_cons.1 h with e | e
    · cases e
      have h1 := hw.1
      split at h1
      · rename_i u H1 hu
        rw [veq_sound h1]; exact ⟨H1, hu⟩
      · cases h1
    · exact watchOk_mem hw.2 j op env v e

def Dn (listed : Array Bool) (i : Nat) : Prop := listed.getD i false = true

/-- A light operation that the plan has behind it, and the machine not yet. -/
def Owed (rs : List ROper) (bef : List Nat) (r0 : Nat) (e0 : Env) (ds : DSt) (B : AHeap) (i : Nat) (o : ROper) : Prop :=
  ∃ v, (∀ t, o.dst = some t → t < ds.st.env.length → ds.st.env[t]? = some (some v)) ∧
    ((wanted (envAt rs (bf bef i) e0 ds.st.env) o = some false ∧ v = undef) ∨
     (wanted (envAt rs (bf bef i) e0 ds.st.env) o = some true ∧
      ((isPure o.op = true ∧ ∀ H, aop (envAt rs (bf bef i) e0 ds.st.env) H o.op = some (.val v, H)) ∨
       (isRead o.op = true ∧ aop (envAt rs (bf bef i) e0 ds.st.env) B o.op = some (.val v, B) ∧ ∃ e2, (i, o.op, e2, v) ∈ ds.watch ∧ Alike e2 (envAt rs (bf bef i) e0 ds.st.env) (opnds o.op)) ∨
       (isAlloc o.op = true ∧ ∃ ob, allocC (envAt rs (bf bef i) e0 ds.st.env) (r0 + i) o.op = some (v, ob)))))

/-- An entry of what is to be laid comes of an operation. -/
def PendOp (rs : List ROper) (bef : List Nat) (r0 : Nat) (e0 : Env) (ds : DSt) (x : Nat × Nat × AObj) : Prop :=
  ∃ o v, rs[x.1]? = some o ∧ isAlloc o.op = true ∧ wanted (envAt rs (bf bef x.1) e0 ds.st.env) o = some true ∧ allocC (envAt rs (bf bef x.1) e0 ds.st.env) (r0 + x.1) o.op = some (v, x.2.2)

structure Inv (P : Program) (T : Tab) (S : S3 Prop) (Fz : Fr) (w0 : World) (β0 : Bt) (ro : Option Nat) (k : RExit → St → AHeap → Prop) (rs : List ROper) (bef : List Nat) (r0 : Nat) (e0 : Env)
    (listed : Array Bool) (pl : List Nat) (ds : DSt) (B : AHeap) (C : Nat) (Fz' : Fr) (β : Bt) (a : Act) (w : World) : Prop where
  ev : evDraw T S rs bef r0 pl ds B k
  ck : chk rs bef rs.length (hvM rs) pl C = true
  size : listed.size = rs.length
  sub : ∀ i, Dn listed i → C.testBit i = true
  clo : ∀ i, Dn listed i → ∀ j, bf bef i j → Dn listed j
  cloC : ∀ i, C.testBit i = true → ∀ j, bf bef i j → C.testBit j = true
  heavy : ∀ i, C.testBit i = true → lightAt rs i = false → Dn listed i
  le : β0.le β
  ext : Ext Fz Fz'
  rel : Rel P Fz' w0 β B w
  rzs : ∀ i, i < rs.length → ¬ Dn listed i → Fz'.rz (r0 + i)
  pend : ∀ x ∈ ds.pend, x.2.1 = r0 + x.1 ∧ C.testBit x.1 = true ∧ PendOp rs bef r0 e0 ds x ∧ (Dn listed x.1 → PendR P Fz w0 Fz' β x)
  apart : ds.pend.Pairwise (Apart β)
  len : ds.st.env.length = e0.length
  env : envAt rs (fun j => C.testBit j = true) e0 ds.st.env = ds.st.env
  real : StRel β { ds.st with env := envAt rs (Dn listed) e0 ds.st.env } ro a
  owed : ∀ i o, rs[i]? = some o → C.testBit i = true → ¬ Dn listed i → Owed rs bef r0 e0 ds B i o

section
variable {P : Program} {T : Tab} {S : S3 Prop} {Fz : Fr} {w0 : World} {β0 : Bt} {ro : Option Nat} {k : RExit → St → AHeap → Prop} {rs : List ROper} {bef : List Nat} {r0 : Nat} {e0 : Env}
  {listed : Array Bool} {pl : List Nat} {ds : DSt} {B : AHeap} {C : Nat} {Fz' : Fr} {β : Bt} {a : Act} {w : World}

theorem or_bit' (C i j : Nat) : (C ||| 2 ^ i).testBit j = true ↔ C.testBit j = true ∨ j = i := by
  rw [or_bit, Bool.or_eq_true, decide_eq_true_eq]
  exact or_congr Iff.rfl ⟨fun h => h.symm, fun h => h.symm⟩

theorem dn_set {i j : Nat} (hi : i < listed.size) : Dn (listed.setIfInBounds i true) j ↔ Dn listed j ∨ j = i := by
  unfold Dn
  by_cases h : i = j
  · subst h; simp [Array.getD_eq_getD_getElem?, hi]
  · simp only [Array.getD_eq_getD_getElem?, Array.getElem?_setIfInBounds_ne h]
    constructor
    · exact .inl
    · rintro (h1 | h1)
      · exact h1
      · exact absurd h1.symm h

theorem light_kind {rs : List ROper} {i : Nat} {o : ROper} (ho : rs[i]? = some o) : lightAt rs i = (isPure o.op || isRead o.op || isAlloc o.op) := by
  simp [lightAt, ho, isLight]
theorem kind_pa {o : ROp} (h : isPure o = true) : isAlloc o = false := by cases o <;> first | rfl | cases h
theorem kind_ra {o : ROp} (h : isRead o = true) : isAlloc o = false := by cases o <;> first | rfl | cases h

/-- Owed and pending things are not touched by what the plan does next. -/
theorem owed_keep (hs : Slots rs bef) {ds ds' : DSt} {B B' : AHeap} (hl : ds.st.env.length = e0.length) {i g : Nat} {o og : ROper} (ho : rs[i]? = some o) (hg : rs[g]? = some og) (hne : i ≠ g) (hnb : ¬ bf bef i g) {v : Value}
    (hst : ds'.st = ds.st.put og.dst (some v)) (hw : ∀ e2 u, (i, o.op, e2, u) ∈ ds.watch → (i, o.op, e2, u) ∈ ds'.watch ∧ (B' = B ∨ ∃ H1, aop e2 B' o.op = some (.val u, H1)))
    (h : Owed rs bef r0 e0 ds B i o) : Owed rs bef r0 e0 ds' B' i o := by
  have hk : envAt rs (bf bef i) e0 ds'.st.env = envAt rs (bf bef i) e0 ds.st.env := by
    rw [hst]; exact envAt_keep hs hl hg hnb v
  obtain ⟨u, h1, h2⟩ := h
  refine ⟨u, fun t ht hlt => ?_, ?_⟩
  · rw [hst] at hlt ⊢
    simp only [St.put] at hlt ⊢
    rw [put_len] at hlt
    cases hd : og.dst with
    | none => exact h1 t ht hlt
    | some s =>
      simp only [Env.put, List.getElem?_set]
      rw [if_neg (fun e => hne (hs.one ⟨o, ho, ht⟩ ⟨og, hg, by rw [hd, e]⟩))]
      exact h1 t ht hlt
  · rw [hk]
    rcases h2 with h2 | ⟨h2, h3⟩
    · exact .inl h2
    · refine .inr ⟨h2, ?_⟩
      rcases h3 with h3 | ⟨h3, h4, e2, h5, h6⟩ | h3
      · exact .inl h3
      · obtain ⟨g1, g2⟩ := hw e2 u h5
        rcases g2 with g2 | ⟨H1, g2⟩
        · subst g2; exact .inr (.inl ⟨h3, h4, e2, g1, h6⟩)
        · rw [aop_alike h6] at g2
          have := read_any h3 g2
          subst this
          exact .inr (.inl ⟨h3, g2, e2, g1, h6⟩)
      · exact .inr (.inr h3)

theorem pendOp_keep (hs : Slots rs bef) {ds ds' : DSt} (hl : ds.st.env.length = e0.length) {g : Nat} {og : ROper} (hg : rs[g]? = some og) {x : Nat × Nat × AObj} (hnb : ¬ bf bef x.1 g) {v : Value}
    (hst : ds'.st = ds.st.put og.dst (some v)) (h : PendOp rs bef r0 e0 ds x) : PendOp rs bef r0 e0 ds' x := by
  have hk : envAt rs (bf bef x.1) e0 ds'.st.env = envAt rs (bf bef x.1) e0 ds.st.env := by
    rw [hst]; exact envAt_keep hs hl hg hnb v
  unfold PendOp
  rw [hk]; exact h

/-- **THE PLAN GOES ON BY A LIGHT OPERATION.** -/
theorem Inv.light (hs : Slots rs bef) (hlow : ∀ i, i < rs.length → ∀ j, bf bef i j → j < i) {i : Nat} {rest : List Nat} (h : Inv P T S Fz w0 β0 ro k rs bef r0 e0 listed (i :: rest) ds B C Fz' β a w) (hl : lightAt rs i = true) :
    ∃ ds', Inv P T S Fz w0 β0 ro k rs bef r0 e0 listed rest ds' B (C ||| 2 ^ i) Fz' β a w := by
  obtain ⟨k1, k2, k3, k4, k5⟩ := chk_cons h.ck
  have ho : rs[i]? = some rs[i] := List.getElem?_eq_getElem k1
  generalize rs[i] = o at ho
  have hnd : ¬ Dn listed i := fun e => by rw [h.sub i e] at k2; cases k2
  have hnc : ¬ C.testBit i = true := by rw [k2]; simp
  have hag : ∀ t ∈ names o, ds.st.env[t]? = (envAt rs (bf bef i) e0 ds.st.env)[t]? := fun t ht => by
    rw [← envAt_agree hs h.len ho h.cloC k3 hnc ht, h.env]
  obtain ⟨al, wa⟩ := alike_of_names hag
  have hkeep : ∀ j, C.testBit j = true → ¬ bf bef j i := fun j hj e => hnc (h.cloC j hj i e)
  have hself : ¬ bf bef i i := fun e => by have := hlow i k1 i e; omega
  have fin : ∀ (v : Value) (ds' : DSt), ds'.st = ds.st.put o.dst (some v) → (∀ x ∈ ds.watch, x ∈ ds'.watch) →
      (∀ x ∈ ds'.pend, x ∈ ds.pend ∨ (x.1 = i ∧ x.2.1 = r0 + i ∧ PendOp rs bef r0 e0 ds' x)) → ds'.pend.Pairwise (Apart β) → evDraw T S rs bef r0 rest ds' B k → Owed rs bef r0 e0 ds' B i o →
      Inv P T S Fz w0 β0 ro k rs bef r0 e0 listed rest ds' B (C ||| 2 ^ i) Fz' β a w := by
    intro v ds' hst hwat hpe hap hev how
    have hlen : ds'.st.env.length = e0.length := by rw [hst]; simp only [St.put, put_len]; exact h.len
    refine ⟨hev, k5, h.size, fun j hj => (or_bit' C i j).2 (.inl (h.sub j hj)), h.clo, fun j hj l hjl => ?_, fun j hj hjl => ?_, h.le, h.ext, h.rel, h.rzs, fun x hx => ?_, hap, hlen, ?_, ?_, fun j oj hoj hj hnj => ?_⟩
    · rw [or_bit'] at hj ⊢
      rcases hj with hj | hj
      · exact .inl (h.cloC j hj l hjl)
      · subst hj; exact .inl (k3 l hjl)
    · rcases (or_bit' C i j).1 hj with hj | hj
      · exact h.heavy j hj hjl
      · subst hj; rw [hl] at hjl; cases hjl
    · rcases hpe x hx with hx | ⟨h1, h2, h3⟩
      · obtain ⟨g1, g2, g3, g4⟩ := h.pend x hx
        exact ⟨g1, (or_bit' C i _).2 (.inl g2), pendOp_keep hs h.len ho (hkeep _ g2) hst g3, g4⟩
      · exact ⟨by rw [h2, h1], (or_bit' C i _).2 (.inr h1), h3, fun e => absurd (h1 ▸ e) hnd⟩
    · rw [hst]
      simp only [St.put]
      rw [envAt_congr (M' := fun j => C.testBit j = true ∨ j = i) (fun j _ => or_bit' C i j), envAt_put h.len ho, h.env]
    · have := h.real
      rw [hst]
      simp only [St.put]
      rw [envAt_keep hs h.len ho hnd]
      exact this
    · rcases (or_bit' C i j).1 hj with hj | hj
      · have hne : j ≠ i := fun e => hnc (e ▸ hj)
        exact owed_keep hs h.len hoj ho hne (hkeep j hj) hst (fun e2 u hm => ⟨hwat _ hm, .inl rfl⟩) (h.owed j oj hoj hj hnj)
      · subst hj
        rw [ho] at hoj; cases hoj; exact how
  have hslot : ∀ (v : Value) (t : Nat), o.dst = some t → t < (ds.st.put o.dst (some v)).env.length → (ds.st.put o.dst (some v)).env[t]? = some (some v) := by
    intro v t ht hlt
    simp only [St.put, ht, Env.put, List.getElem?_set] at hlt ⊢
    simp at hlt
    simp [hlt]
  have hk : ∀ v : Value, envAt rs (bf bef i) e0 (ds.st.put o.dst (some v)).env = envAt rs (bf bef i) e0 ds.st.env := fun v => envAt_keep hs h.len ho hself v
  have hev := h.ev
  have hkind := light_kind ho
  rw [hl] at hkind
  simp only [evDraw, ho] at hev
  split at hev
  · exact hev.elim
  · rename_i hw
    refine ⟨_, fin undef { ds with st := ds.st.put o.dst (some undef) } rfl (fun x hx => hx) (fun x hx => .inl hx) h.apart hev ⟨undef, hslot undef, .inl ⟨?_, rfl⟩⟩⟩
    rw [hk undef, ← wa]; exact hw
  · rename_i hw
    split at hev
    · rename_i hp
      split at hev <;> (try exact hev.elim)
      rename_i v H1 hv
      refine ⟨_, fin v { ds with st := ds.st.put o.dst (some v) } rfl (fun x hx => hx) (fun x hx => .inl hx) h.apart hev ⟨v, hslot v, .inr ⟨?_, .inl ⟨hp, ?_⟩⟩⟩⟩
      · rw [hk v, ← wa]; exact hw
      · rw [hk v]
        rw [aop_alike al] at hv
        obtain ⟨e1, _, e3⟩ := pure_any hp hv
        subst e1
        exact e3
    · rename_i hnp
      split at hev
      · rename_i hp
        split at hev <;> (try exact hev.elim)
        rename_i v H1 hv
        have e1 := read_any hp hv
        subst e1
        refine ⟨_, fin v { ds with st := ds.st.put o.dst (some v), watch := (i, o.op, ds.st.env, v) :: ds.watch } rfl (fun x hx => List.mem_cons_of_mem _ hx) (fun x hx => .inl hx) h.apart hev ⟨v, hslot v, .inr ⟨?_, .inr (.inl ⟨hp, ?_, ds.st.env, List.mem_cons_self, ?_⟩)⟩⟩⟩
        · rw [hk v, ← wa]; exact hw
        · rw [hk v, ← aop_alike al]; exact hv
        · rw [hk v]; exact al
      · rename_i hnr
        split at hev
        · rename_i hp
          split at hev <;> (try exact hev.elim)
          rename_i v ob hv
          have hopd : PendOp rs bef r0 e0 { ds with st := ds.st.put o.dst (some v), pend := ds.pend ++ [(i, r0 + i, ob)] } (i, r0 + i, ob) := by
            refine ⟨o, v, ho, hp, ?_, ?_⟩
            · simp only; rw [hk v, ← wa]; exact hw
            · simp only; rw [hk v, ← allocC_alike al]; exact hv
          refine ⟨_, fin v { ds with st := ds.st.put o.dst (some v), pend := ds.pend ++ [(i, r0 + i, ob)] } rfl (fun x hx => hx) (fun x hx => ?_) ?_ hev ⟨v, hslot v, .inr ⟨?_, .inr (.inr ⟨hp, ob, ?_⟩)⟩⟩⟩
          · rcases List.mem_append.1 hx with hx | hx
            · exact .inl hx
            · simp at hx; subst hx; exact .inr ⟨rfl, rfl, hopd⟩
          · refine List.pairwise_append.2 ⟨h.apart, by simp, fun x hx y hy => ?_⟩
            simp at hy; subst hy
            refine ⟨fun e => ?_, fun p q _ hq => ?_⟩
            · have := (h.pend x hx).2.1
              rw [e] at this; exact hnc this
            · have := (h.rel.rz _ (h.rzs i k1 hnd)).2
              rw [this] at hq; cases hq
          · rw [hk v, ← wa]; exact hw
          · rw [hk v, ← allocC_alike al]; exact hv
        · rename_i hna
          simp only [Bool.not_eq_true] at hnp hnr hna
          rw [hnp, hnr, hna] at hkind; cases hkind

end
end Go.E

namespace Go.E
section
variable {P : Program} {T : Tab} {S : S3 Prop} {Fz : Fr} {w0 : World} {β0 : Bt} {ro : Option Nat} {k : RExit → St → AHeap → Prop} {rs : List ROper} {bef : List Nat} {r0 : Nat} {e0 : Env}
  {listed : Array Bool} {pl : List Nat} {ds : DSt} {B : AHeap} {C : Nat} {Fz' : Fr} {β : Bt} {a : Act} {w : World}

theorem evOp_of {env : Env} {op : ROp} {H H1 : AHeap} {res : Res} {k : Res → AHeap → Prop} (hn : isOdd op = false) (ha : aop env H op = some (res, H1)) : evOp T env op H k = k res H1 := by
  unfold evOp
  split
  · simp [isOdd] at hn
  · simp [isOdd] at hn
  · rw [ha]
theorem kind_po {o : ROp} (h : isPure o = true) : isOdd o = false := by cases o <;> first | rfl | cases h
theorem kind_ro {o : ROp} (h : isRead o = true) : isOdd o = false := by cases o <;> first | rfl | cases h

/-- **THE MACHINE TAKES A LIGHT OPERATION that the plan has behind it.** -/
theorem Inv.realLight (hT : ∀ t name f, T.meth t name = some f → rmeth P t name = some f) (hC : CodeSnd P S) (hK : CallSnd P S) (hs : Slots rs bef) (hlow0 : ∀ j, Fz.rz j → j < r0) {ops : Array Oper} {oo : Oper} {i : Nat} {o : ROper}
    (h : Inv P T S Fz w0 β0 ro k rs bef r0 e0 listed pl ds B C Fz' β a w) (ho : rs[i]? = some o) (hr : roper P ops oo = some o) (hi : C.testBit i = true) (hnd : ¬ Dn listed i) (hb : ∀ j, bf bef i j → Dn listed j) {n : Nat}
    {Q : Exit → Act → World → Prop} :
    (if Region.wanted oo (yielded ops a.tmps) then oo.wpIn (FW ro) n P a w (fun a' w' => ∃ Fz2 β2, Inv P T S Fz w0 β0 ro k rs bef r0 e0 (listed.setIfInBounds i true) pl ds B C Fz2 β2 a' w') Q
      else (∀ f, oo.about P w a.eval = some f → (FW ro).fn f) ∧ ∃ Fz2 β2, Inv P T S Fz w0 β0 ro k rs bef r0 e0 (listed.setIfInBounds i true) pl ds B C Fz2 β2 (a.put oo.dst undef) w) := by
  have hlt : i < listed.size := by rw [h.size]; exact (List.getElem?_eq_some_iff.1 ho).1
  have hlt2 : i < rs.length := (List.getElem?_eq_some_iff.1 ho).1
  obtain ⟨hdst, hrop⟩ := roper_spec hr
  obtain ⟨v, hv, hw⟩ := h.owed i o ho hi hnd
  have hag : ∀ t ∈ names o, (envAt rs (Dn listed) e0 ds.st.env)[t]? = (envAt rs (bf bef i) e0 ds.st.env)[t]? := fun t ht => envAt_agree hs h.len ho h.clo hb hnd ht
  obtain ⟨al, wa⟩ := alike_of_names hag
  -- what is to be shown, once the operation has yielded
  have fin : ∀ (v' : Value) (β2 : Bt) (Fz2 : Fr) (w' : World), β.le β2 → VRel β2 v v' → Rel P Fz2 w0 β2 B w' → Ext Fz Fz2 → (∀ j, j ≠ i → Fz'.rz (r0 + j) → Fz2.rz (r0 + j)) → (∀ r o, Fz'.fz r = some o → Fz2.fz r = some o) →
      (∀ x ∈ ds.pend, x.1 = i → PendR P Fz w0 Fz2 β2 x) → ds.pend.Pairwise (Apart β2) →
      Inv P T S Fz w0 β0 ro k rs bef r0 e0 (listed.setIfInBounds i true) pl ds B C Fz2 β2 (a.put oo.dst v') w' := by
    intro v' β2 Fz2 w' hle hvr hrel hext hrz hfz hpi hap
    refine ⟨h.ev, h.ck, by simp [h.size], fun j hj => ?_, fun j hj l hl => ?_, h.cloC, fun j hj hl => (dn_set hlt).2 (.inl (h.heavy j hj hl)), Bt.le_trans h.le hle, hext, hrel, fun j hj hnj => ?_, fun x hx => ?_, hap, h.len, h.env, ?_, fun j oj hoj hj hnj => ?_⟩
    · rcases (dn_set hlt).1 hj with hj | hj
      · exact h.sub j hj
      · subst hj; exact hi
    · rcases (dn_set hlt).1 hj with hj | hj
      · exact (dn_set hlt).2 (.inl (h.clo j hj l hl))
      · subst hj; exact (dn_set hlt).2 (.inl (hb l hl))
    · rw [dn_set hlt] at hnj
      exact hrz j (fun e => hnj (.inr e)) (h.rzs j hj fun e => hnj (.inl e))
    · obtain ⟨g1, g2, g3, g4⟩ := h.pend x hx
      refine ⟨g1, g2, g3, fun hd => ?_⟩
      rcases (dn_set hlt).1 hd with hd | hd
      · obtain ⟨p, r, c1, c2, c3, c4, c5, c6⟩ := g4 hd
        exact ⟨p, r, hle _ _ c1, c2, c3, hfz _ _ c4, c5, c6.mono hle⟩
      · exact hpi x hx hd
    · have h1 : envAt rs (Dn (listed.setIfInBounds i true)) e0 ds.st.env = (envAt rs (Dn listed) e0 ds.st.env).put oo.dst (some v) := by
        rw [← hdst, ← envAt_in h.len ho hv]
        exact envAt_congr (fun j _ => dn_set hlt) _ _
      rw [h1]
      exact (h.real.mono hle).put oo.dst hvr
    · rw [dn_set hlt] at hnj
      exact h.owed j oj hoj hj fun e => hnj (.inl e)
  -- an operation that lays nothing
  have plain : (wanted (envAt rs (bf bef i) e0 ds.st.env) o = some true → isAlloc o.op = false) → evOper T S o { ds.st with env := envAt rs (Dn listed) e0 ds.st.env } B (fun u H' => u = v ∧ H' = B) (fun _ _ => False) →
      (if Region.wanted oo (yielded ops a.tmps) then oo.wpIn (FW ro) n P a w (fun a' w' => ∃ Fz2 β2, Inv P T S Fz w0 β0 ro k rs bef r0 e0 (listed.setIfInBounds i true) pl ds B C Fz2 β2 a' w') Q
      else (∀ f, oo.about P w a.eval = some f → (FW ro).fn f) ∧ ∃ Fz2 β2, Inv P T S Fz w0 β0 ro k rs bef r0 e0 (listed.setIfInBounds i true) pl ds B C Fz2 β2 (a.put oo.dst undef) w) := by
    intro hna hev
    have hpi : ∀ x ∈ ds.pend, x.1 ≠ i := fun x hx e => by
      obtain ⟨_, _, ⟨o2, v2, q1, q2, q3, q4⟩, _⟩ := h.pend x hx
      rw [e] at q1 q3
      rw [ho] at q1; cases q1
      rw [hna q3] at q2; cases q2
    refine oper_snd (K := fun a' w' => ∃ Fz2 β2, Inv P T S Fz w0 β0 ro k rs bef r0 e0 (listed.setIfInBounds i true) pl ds B C Fz2 β2 a' w') hT hC hK h.rel h.real hr hev ?_ (fun _ _ _ _ _ hf => hf.elim)
    rintro u v' H' β' w' ⟨rfl, rfl⟩ hle hvr hrel
    refine ⟨Fz', β', fin v' β' Fz' w' hle hvr hrel h.ext (fun _ _ h => h) (fun _ _ h => h) (fun x hx e => absurd e (hpi x hx)) ?_⟩
    refine List.Pairwise.imp_of_mem (fun {x y} hx hy hxy => ⟨hxy.1, fun p q hp hq => ?_⟩) h.apart
    have look : ∀ z ∈ ds.pend, ∀ p, β' z.2.1 = some p → β z.2.1 = some p := by
      intro z hz p hp
      obtain ⟨g1, g2, g3, g4⟩ := h.pend z hz
      by_cases hd : Dn listed z.1
      · obtain ⟨p2, r, c1, _⟩ := g4 hd
        have := hle _ _ c1
        rw [hp] at this; cases this; exact c1
      · have hzl : z.1 < rs.length := by obtain ⟨o2, _, q1, _⟩ := g3; exact (List.getElem?_eq_some_iff.1 q1).1
        have := (hrel.rz _ (h.rzs _ hzl hd)).2
        rw [← g1, hp] at this; cases this
    exact hxy.2 p q (look x hx p hp) (look y hy q hq)
  rcases hw with ⟨hw, hvu⟩ | ⟨hw, hw2⟩
  · refine plain (fun e => by rw [hw] at e; cases e) ?_
    unfold evOper
    simp only [wa, hw]
    exact ⟨hvu.symm, trivial⟩
  · have evo : ∀ H1, isOdd o.op = false → aop (envAt rs (bf bef i) e0 ds.st.env) B o.op = some (.val v, H1) → H1 = B → evOper T S o { ds.st with env := envAt rs (Dn listed) e0 ds.st.env } B (fun u H' => u = v ∧ H' = B) (fun _ _ => False) := by
      intro H1 hodd ha he
      subst he
      unfold evOper
      simp only [wa, hw]
      rw [evOp_of hodd (by rw [aop_alike al]; exact ha)]
      exact ⟨rfl, rfl⟩
    rcases hw2 with ⟨hp, ha⟩ | ⟨hp, ha, _⟩ | ⟨hp, ob, ha⟩
    · exact plain (fun _ => kind_pa hp) (evo B (kind_po hp) (ha B) rfl)
    · exact plain (fun _ => kind_ra hp) (evo B (kind_ro hp) ha rfl)
    · rw [if_pos (wanted_snd h.real.env hr (by rw [wa]; exact hw))]
      refine ⟨fun _ _ => trivial, ?_⟩
      have hndf : ∀ c, oo.op ≠ .defer c := by
        intro c e
        rw [e] at hrop
        simp [rop] at hrop
      rw [Oper.semAt_eq _ _ _ hndf]
      obtain ⟨p, rob, v', e1, e2, e3, e4⟩ := alloc_run (w := w) h.real.env hrop hp (i0 := r0 + i) (v := v) (ob := ob) (by rw [allocC_alike al]; exact ha)
      rw [e1]
      have hrz := h.rzs i hlt2 hnd
      obtain ⟨hz1, hz2⟩ := h.rel.rz _ hrz
      have hle := Bt.le_upd p hz2
      obtain ⟨v1, v2⟩ := e4 (β.upd (r0 + i) p) hle (Bt.upd_at _ _ _)
      let Fz2 : Fr := ⟨fun r => if r = p.rb then some rob else Fz'.fz r, fun j => Fz'.rz j ∧ (j ≠ r0 + i)⟩
      have hfree : ∀ r o, Fz'.fz r = some o → r < w.heap.size := fun r o hr => (Array.getElem?_eq_some_iff.1 (h.rel.fz r o hr)).1
      have hfz : ∀ r o, Fz'.fz r = some o → Fz2.fz r = some o := fun r o hr => by
        simp only [Fz2]
        rw [if_neg (fun e => by have := hfree r o hr; omega)]; exact hr
      have hrel : Rel P Fz2 w0 (β.upd (r0 + i) p) B { w with heap := w.heap.push rob } := h.rel.push hrz e2 (fun r o hr => by
        simp only [Fz2] at hr
        split at hr
        · cases hr; exact .inr ⟨‹_›, rfl⟩
        · exact .inl hr) (fun j hj => hj)
      have hother : ∀ x ∈ ds.pend, x.1 ≠ i → ∀ q, β.upd (r0 + i) p x.2.1 = some q → β x.2.1 = some q ∧ q.rb ≠ p.rb := by
        intro x hx hne q hq
        obtain ⟨g1, g2, g3, g4⟩ := h.pend x hx
        have h1 : β x.2.1 = some q := by
          unfold Bt.upd at hq; rw [if_neg (by omega)] at hq; exact hq
        refine ⟨h1, ?_⟩
        by_cases hd : Dn listed x.1
        · obtain ⟨q2, r, c1, c2, c3, c4, _⟩ := g4 hd
          rw [h1] at c1; cases c1
          have := hfree _ _ c4
          omega
        · have hzl : x.1 < rs.length := by obtain ⟨o2, _, q1, _⟩ := g3; exact (List.getElem?_eq_some_iff.1 q1).1
          have := (h.rel.rz _ (h.rzs _ hzl hd)).2
          rw [← g1, h1] at this; cases this
      refine ⟨Fz2, β.upd (r0 + i) p, fin v' _ Fz2 _ hle v1 hrel ⟨fun r o hr => hfz r o (h.ext.1 r o hr), fun j hj => ⟨h.ext.2 j hj, ?_⟩⟩ (fun j hj hz => ⟨hz, by omega⟩) hfz (fun x hx hxi => ?_) ?_⟩
      · have := hlow0 j hj; omega
      · obtain ⟨g1, g2, ⟨o2, u2, q1, q2, q3, q4⟩, g4⟩ := h.pend x hx
        rw [hxi] at q1 q3 q4
        rw [ho] at q1; cases q1
        rw [ha] at q4; cases q4
        refine ⟨p, rob, by rw [g1, hxi]; exact Bt.upd_at _ _ _, e3, by rw [e2]; exact h.rel.same.size, by simp [Fz2], ?_, v2⟩
        cases hx2 : Fz.fz p.rb with
        | none => rfl
        | some o3 => have := hfree _ _ (h.ext.1 _ _ hx2); omega
      · refine List.Pairwise.imp_of_mem (fun {x y} hx hy hxy => ⟨hxy.1, fun q q' hq hq' => ?_⟩) h.apart
        by_cases hxi : x.1 = i
        · have hyi : y.1 ≠ i := fun e => hxy.1 (hxi.trans e.symm)
          obtain ⟨_, c2⟩ := hother y hy hyi q' hq'
          have : β.upd (r0 + i) p x.2.1 = some p := by rw [(h.pend x hx).1, hxi]; exact Bt.upd_at _ _ _
          rw [hq] at this; cases this
          exact fun e => c2 e.symm
        · obtain ⟨c1, c2⟩ := hother x hx hxi q hq
          by_cases hyi : y.1 = i
          · have : β.upd (r0 + i) p y.2.1 = some p := by rw [(h.pend y hy).1, hyi]; exact Bt.upd_at _ _ _
            rw [hq'] at this; cases this
            exact c2
          · obtain ⟨c3, c4⟩ := hother y hy hyi q' hq'
            exact hxy.2 q q' c1 c3

end
end Go.E

namespace Go.E
section
variable {P : Program} {T : Tab} {S : S3 Prop} {Fz : Fr} {w0 : World} {β0 : Bt} {ro : Option Nat} {k : RExit → St → AHeap → Prop} {rs : List ROper} {bef : List Nat} {r0 : Nat} {e0 : Env}
  {listed : Array Bool} {pl : List Nat} {ds : DSt} {B : AHeap} {C : Nat} {Fz' : Fr} {β : Bt} {a : Act} {w : World}

theorem pw_mem {α : Type} {R : α → α → Prop} : ∀ {l : List α}, l.Pairwise R → ∀ x ∈ l, ∀ y ∈ l, x ≠ y → R x y ∨ R y x
  | [], _, x, hx, _, _, _ => by simp at hx
  | z :: l, h, x, hx, y, hy, hne => by
    obtain ⟨h1, h2⟩ := List.pairwise_cons.1 h
    rcases List.mem_cons.1 hx with e | hx2
    · rcases List.mem_cons.1 hy with f | hy2
      · exact absurd (e.trans f.symm) hne
      · subst e; exact .inl (h1 y hy2)
    · rcases List.mem_cons.1 hy with f | hy2
      · subst f; exact .inr (h1 x hx2)
      · exact pw_mem h2 x hx2 y hy2 hne

/-- **THE MACHINE TAKES THE OPERATION that is next in the plan.** -/
theorem Inv.realHeavy (hT : ∀ t name f, T.meth t name = some f → rmeth P t name = some f) (hC : CodeSnd P S) (hK : CallSnd P S) (hs : Slots rs bef) {oo : Oper} {i : Nat} {o : ROper} {rest : List Nat} {ops : Array Oper}
    (h : Inv P T S Fz w0 β0 ro k rs bef r0 e0 listed (i :: rest) ds B C Fz' β a w) (ho : rs[i]? = some o) (hr : roper P ops oo = some o) (hl : lightAt rs i = false) (hb : ∀ j, bf bef i j → Dn listed j) {n : Nat}
    {Q : Exit → Act → World → Prop} :
    (if Region.wanted oo (yielded ops a.tmps) then oo.wpIn (FW ro) n P a w (fun a' w' => ∃ ds2 B2 Fz2 β2, Inv P T S Fz w0 β0 ro k rs bef r0 e0 (listed.setIfInBounds i true) rest ds2 B2 (C ||| 2 ^ i) Fz2 β2 a' w') Q
      else (∀ f, oo.about P w a.eval = some f → (FW ro).fn f) ∧ ∃ ds2 B2 Fz2 β2, Inv P T S Fz w0 β0 ro k rs bef r0 e0 (listed.setIfInBounds i true) rest ds2 B2 (C ||| 2 ^ i) Fz2 β2 (a.put oo.dst undef) w) := by
  obtain ⟨k1, k2, k3, k4, k5⟩ := chk_cons h.ck
  have hlt : i < listed.size := by rw [h.size]; exact k1
  obtain ⟨hdst, hrop⟩ := roper_spec hr
  have hnc : ¬ C.testBit i = true := by rw [k2]; simp
  have hnd : ¬ Dn listed i := fun e => hnc (h.sub i e)
  have hag : ∀ t ∈ names o, ds.st.env[t]? = (envAt rs (Dn listed) e0 ds.st.env)[t]? := fun t ht => by
    rw [envAt_agree hs h.len ho h.clo hb hnd ht, ← envAt_agree hs h.len ho h.cloC k3 hnc ht, h.env]
  obtain ⟨al, wa⟩ := alike_of_names hag
  have hkeep : ∀ j, C.testBit j = true → ¬ bf bef j i := fun j hj e => hnc (h.cloC j hj i e)
  have fin : ∀ (v v' : Value) (ds' : DSt) (B' : AHeap) (β2 : Bt) (Fz2 : Fr) (w' : World), ds'.st = ds.st.put o.dst (some v) → evDraw T S rs bef r0 rest ds' B' k → β.le β2 → VRel β2 v v' → Rel P Fz2 w0 β2 B' w' → Ext Fz Fz2 →
      (∀ j, Fz'.rz j → Fz2.rz j) → ds'.pend.Sublist ds.pend → (∀ x ∈ ds'.pend, ∀ p r, β x.2.1 = some p → Fz'.fz p.rb = some r → Fz2.fz p.rb = some r) →
      (∀ x ∈ ds.watch, ¬ Dn listed x.1 → x ∈ ds'.watch ∧ (B' = B ∨ ∃ H1, aop x.2.2.1 B' x.2.1 = some (.val x.2.2.2, H1))) →
      Inv P T S Fz w0 β0 ro k rs bef r0 e0 (listed.setIfInBounds i true) rest ds' B' (C ||| 2 ^ i) Fz2 β2 (a.put oo.dst v') w' := by
    intro v v' ds' B' β2 Fz2 w' hst hev hle hvr hrel hext hrz hsub hfz hwat
    have hpd : ∀ x ∈ ds'.pend, x ∈ ds.pend := fun x hx => hsub.subset hx
    have hne : ∀ x ∈ ds'.pend, x.1 ≠ i := fun x hx e => hnc (e ▸ (h.pend x (hpd x hx)).2.1)
    have look : ∀ z ∈ ds'.pend, ∀ p, β2 z.2.1 = some p → β z.2.1 = some p := by
      intro z hz p hp
      obtain ⟨g1, g2, g3, g4⟩ := h.pend z (hpd z hz)
      by_cases hd : Dn listed z.1
      · obtain ⟨p2, r, c1, _⟩ := g4 hd
        have := hle _ _ c1
        rw [hp] at this; cases this; exact c1
      · have hzl : z.1 < rs.length := by obtain ⟨o2, _, q1, _⟩ := g3; exact (List.getElem?_eq_some_iff.1 q1).1
        have := (hrel.rz _ (hrz _ (h.rzs _ hzl hd))).2
        rw [← g1, hp] at this; cases this
    refine ⟨hev, k5, by simp [h.size], fun j hj => ?_, fun j hj l hjl => ?_, fun j hj l hjl => ?_, fun j hj hjl => ?_, Bt.le_trans h.le hle, hext, hrel, fun j hj hnj => ?_, fun x hx => ?_, ?_, ?_, ?_, ?_, fun j oj hoj hj hnj => ?_⟩
    · rw [or_bit']
      rcases (dn_set hlt).1 hj with hj | hj
      · exact .inl (h.sub j hj)
      · exact .inr hj
    · rcases (dn_set hlt).1 hj with hj | hj
      · exact (dn_set hlt).2 (.inl (h.clo j hj l hjl))
      · subst hj; exact (dn_set hlt).2 (.inl (hb l hjl))
    · rw [or_bit'] at hj ⊢
      rcases hj with hj | hj
      · exact .inl (h.cloC j hj l hjl)
      · subst hj; exact .inl (k3 l hjl)
    · rw [dn_set hlt]
      rcases (or_bit' C i j).1 hj with hj | hj
      · exact .inl (h.heavy j hj hjl)
      · exact .inr hj
    · rw [dn_set hlt] at hnj
      exact hrz _ (h.rzs j hj fun e => hnj (.inl e))
    · obtain ⟨g1, g2, g3, g4⟩ := h.pend x (hpd x hx)
      refine ⟨g1, (or_bit' C i _).2 (.inl g2), pendOp_keep hs h.len ho (hkeep _ g2) hst g3, fun hd => ?_⟩
      rcases (dn_set hlt).1 hd with hd | hd
      · obtain ⟨p, r, c1, c2, c3, c4, c5, c6⟩ := g4 hd
        exact ⟨p, r, hle _ _ c1, c2, c3, hfz x hx p r c1 c4, c5, c6.mono hle⟩
      · exact absurd hd (hne x hx)
    · refine List.Pairwise.imp_of_mem (fun {x y} hx hy hxy => ⟨hxy.1, fun p q hp hq => ?_⟩) (h.apart.sublist hsub)
      exact hxy.2 p q (look x hx p hp) (look y hy q hq)
    · rw [hst]; simp only [St.put, put_len]; exact h.len
    · rw [hst]
      simp only [St.put]
      rw [envAt_congr (M' := fun j => C.testBit j = true ∨ j = i) (fun j _ => or_bit' C i j), envAt_put h.len ho, h.env]
    · rw [hst]
      simp only [St.put]
      rw [envAt_congr (M' := fun j => Dn listed j ∨ j = i) (fun j _ => dn_set hlt), envAt_put h.len ho, hdst]
      exact (h.real.mono hle).put oo.dst hvr
    · rw [dn_set hlt] at hnj
      rcases (or_bit' C i j).1 hj with hj | hj
      · have hnej : j ≠ i := fun e => hnc (e ▸ hj)
        exact owed_keep hs h.len hoj ho hnej (hkeep j hj) hst (fun e2 u hm => hwat _ hm fun e => hnj (.inl e)) (h.owed j oj hoj hj fun e => hnj (.inl e))
      · exact absurd (.inr hj) hnj
  have hev := h.ev
  have hkind := light_kind ho
  rw [hl] at hkind
  simp only [evDraw, ho] at hev
  split at hev
  · exact hev.elim
  · rename_i hw
    have hw2 : Region.wanted oo (yielded ops a.tmps) = false := wanted_snd h.real.env hr (by rw [← wa]; exact hw)
    rw [if_neg (by rw [hw2]; simp)]
    exact ⟨fun _ _ => trivial, _, B, Fz', β, fin undef undef { ds with st := ds.st.put o.dst (some undef) } B β Fz' w rfl hev (Bt.le_refl β) (undef_rel β) h.rel h.ext (fun _ h => h) (List.Sublist.refl _) (fun _ _ _ _ _ h => h) (fun x hx _ => ⟨hx, .inl rfl⟩)⟩
  · rename_i hw
    split at hev
    · rename_i hp; rw [hp] at hkind; simp at hkind
    split at hev
    · rename_i hp; rw [hp] at hkind; simp at hkind
    split at hev
    · rename_i hp; rw [hp] at hkind; simp at hkind
    have hbd : ∀ j, (bef.getD i 0).testBit j = true → Dn listed j := hb
    obtain ⟨Fz1, f1, f2, f3, f4⟩ := fills_snd (ds.pend.filter fun x => (bef.getD i 0).testBit x.1) Fz' B h.rel h.ext (fun x hx => by
      obtain ⟨hx1, hx2⟩ := List.mem_filter.1 hx
      exact (h.pend x hx1).2.2.2 (hbd _ hx2)) (h.apart.sublist (List.filter_sublist))
    rw [evOper_alike (st' := { ds.st with env := envAt rs (Dn listed) e0 ds.st.env }) hag] at hev
    refine oper_snd (K := fun a' w' => ∃ ds2 B2 Fz2 β2, Inv P T S Fz w0 β0 ro k rs bef r0 e0 (listed.setIfInBounds i true) rest ds2 B2 (C ||| 2 ^ i) Fz2 β2 a' w') hT hC hK f1 h.real hr hev ?_ (fun _ _ _ _ _ hf => hf.elim)
    intro v v' H' β' w' hk hle hvr hrel
    split at hk
    · rename_i hwo
      refine ⟨_, H', Fz1, β', fin v v' _ H' β' Fz1 w' rfl hk hle hvr hrel f2 f3 (List.filter_sublist) (fun x hx p r hp hr2 => ?_) (fun x hx hnx => ?_)⟩
      · obtain ⟨hx1, hx2⟩ := List.mem_filter.1 hx
        refine f4 _ _ hr2 fun y hy q hq => ?_
        obtain ⟨hy1, hy2⟩ := List.mem_filter.1 hy
        have hap : Apart β x y ∨ Apart β y x := by
          have hxy : x ≠ y := fun e => by subst e; rw [hy2] at hx2; cases hx2
          exact pw_mem h.apart x hx1 y hy1 hxy
        rcases hap with hap | hap
        · exact fun e => hap.2 p q hp hq e.symm
        · exact hap.2 q p hq hp
      · have hm : x ∈ ds.watch.filter fun x => !(bef.getD i 0).testBit x.1 := by
          refine List.mem_filter.2 ⟨hx, ?_⟩
          cases hbx : (bef.getD i 0).testBit x.1 with
          | false => rfl
          | true => exact absurd (hbd _ hbx) hnx
        obtain ⟨x1, x2, x3, x4⟩ := x
        exact ⟨hm, .inr (watchOk_mem hwo x1 x2 x3 x4 hm)⟩
    · exact hk.elim

end
end Go.E

namespace Go.E

def cnt (f : Nat → Bool) : Nat → Nat
  | 0 => 0
  | n + 1 => cnt f n + if f n then 1 else 0
theorem cnt_le (f : Nat → Bool) : ∀ n, cnt f n ≤ n
  | 0 => Nat.le_refl 0
  | n + 1 => by have := cnt_le f n; simp only [cnt]; split <;> omega
theorem cnt_zero {f : Nat → Bool} : ∀ {n : Nat}, cnt f n = 0 → ∀ i, i < n → f i = false
  | 0, _, i, hi => by omega
  | n + 1, h, i, hi => by
    simp only [cnt] at h
    by_cases e : i = n
    · subst e
      cases hf : f i with
      | false => rfl
      | true => rw [hf] at h; simp at h
    · exact cnt_zero (n := n) (by omega) i (by omega)
theorem cnt_mono {f g : Nat → Bool} (h : ∀ j, g j = true → f j = true) : ∀ n, cnt g n ≤ cnt f n
  | 0 => Nat.le_refl 0
  | n + 1 => by
    have := cnt_mono h n
    simp only [cnt]
    by_cases hg : g n = true
    · rw [hg, h n hg]; omega
    · rw [if_neg hg]; omega
theorem cnt_lt {f g : Nat → Bool} (h : ∀ j, g j = true → f j = true) {i : Nat} (h1 : f i = true) (h2 : g i = false) : ∀ n, i < n → cnt g n + 1 ≤ cnt f n
  | 0, hi => by omega
  | n + 1, hi => by
    simp only [cnt]
    by_cases e : i = n
    · subst e
      have := cnt_mono h i
      rw [h1, h2]; simp; omega
    · have := cnt_lt h h1 h2 n (by omega)
      by_cases hg : g n = true
      · rw [hg, h n hg]; omega
      · rw [if_neg hg]; omega

section
variable {P : Program} {T : Tab} {S : S3 Prop} {Fz : Fr} {w0 : World} {β0 : Bt} {ro : Option Nat} {k : RExit → St → AHeap → Prop} {rs : List ROper} {bef : List Nat} {r0 : Nat} {e0 : Env}
  {Fz' : Fr} {a : Act} {w : World}

/-- The plan goes on as far as it may by light operations. -/
theorem Inv.sync (hs : Slots rs bef) (hlow : ∀ i, i < rs.length → ∀ j, bf bef i j → j < i) {listed : Array Bool} {B : AHeap} {β : Bt} : ∀ (pl : List Nat) (ds : DSt) (C : Nat),
    Inv P T S Fz w0 β0 ro k rs bef r0 e0 listed pl ds B C Fz' β a w → ∃ pl2 ds2 C2, Inv P T S Fz w0 β0 ro k rs bef r0 e0 listed pl2 ds2 B C2 Fz' β a w ∧ ∀ g rest, pl2 = g :: rest → lightAt rs g = false
  | [], ds, C, h => ⟨[], ds, C, h, fun g rest e => by cases e⟩
  | i :: rest, ds, C, h => by
    cases hl : lightAt rs i with
    | false => exact ⟨i :: rest, ds, C, h, fun g r e => by cases e; exact hl⟩
    | true =>
      obtain ⟨ds2, h2⟩ := h.light hs hlow hl
      exact Inv.sync hs hlow rest ds2 _ h2

theorem any_snd (hT : ∀ t name f, T.meth t name = some f → rmeth P t name = some f) (hC : CodeSnd P S) (hK : CallSnd P S) {ops : Array Oper} (hr : ropers P ops ops.toList = some rs) (hbef : bef = befs ops.toList [])
    (hs : Slots rs bef) (hlow : ∀ i, i < rs.length → ∀ j, bf bef i j → j < i) (hlow0 : ∀ j, Fz.rz j → j < r0) {n : Nat} : ∀ (fuel : Nat) (listed : Array Bool) (pl : List Nat) (ds : DSt) (B : AHeap) (C : Nat) (Fz' : Fr) (β : Bt) (a : Act) (w : World),
    Inv P T S Fz w0 β0 ro k rs bef r0 e0 listed pl ds B C Fz' β a w → cnt (fun i => !listed.getD i false) rs.length ≤ fuel → wpAnyIn (FW ro) n P .any ops (QOk P Fz w0 β0 ro k) fuel listed a w := by
  obtain ⟨e1, e2⟩ := ropers_spec ops _ rs hr
  have hlen : rs.length = ops.size := by rw [e1]; simp
  have fin : ∀ {listed : Array Bool} {pl : List Nat} {ds : DSt} {B : AHeap} {C : Nat} {Fz' : Fr} {β : Bt} {a : Act} {w : World}, Inv P T S Fz w0 β0 ro k rs bef r0 e0 listed pl ds B C Fz' β a w → (∀ i, i < rs.length → Dn listed i) →
      QOk P Fz w0 β0 ro k .normal a w := by
    intro listed pl ds B C Fz' β a w h hall
    have hpl : pl = [] := by
      cases pl with
      | nil => rfl
      | cons i rest =>
        obtain ⟨k1, k2, _⟩ := chk_cons h.ck
        rw [h.sub i (hall i k1)] at k2; cases k2
    subst hpl
    have hev := h.ev
    simp only [evDraw] at hev
    obtain ⟨Fz1, f1, f2, f3, f4⟩ := fills_snd ds.pend Fz' B h.rel h.ext (fun x hx => by
      obtain ⟨g1, g2, ⟨o2, _, q1, _⟩, g4⟩ := h.pend x hx
      exact g4 (hall _ (List.getElem?_eq_some_iff.1 q1).1)) h.apart
    refine ⟨.norm, ds.st, _, β, hev, h.le, f1.weaken f2.1 f2.2, ?_, trivial⟩
    have h1 : envAt rs (Dn listed) e0 ds.st.env = ds.st.env := by
      rw [envAt_congr (M' := fun j => C.testBit j = true) (fun j hj => ⟨h.sub j, fun _ => hall j hj⟩), h.env]
    have := h.real
    rw [h1] at this
    exact this
  have rdy : ∀ {listed : Array Bool}, listed.size = rs.length → Region.ready .any ops listed = [] → ∀ i, i < rs.length → Dn listed i := by
    intro listed hsz hnil i
    induction i using Nat.strongRecOn with
    | _ i ih =>
      intro hi
      refine Classical.byContradiction fun hn => ?_
      have ho : ops[i]? = some ops[i] := Array.getElem?_eq_getElem (by omega)
      have : i ∈ Region.ready .any ops listed := ready_iff.2 ⟨_, ho, ?_, fun e he hb => ?_⟩
      · rw [hnil] at this; simp at this
      · unfold Dn at hn
        rw [Array.getD_eq_getD_getElem?] at hn ⊢
        rw [Array.getElem?_eq_getElem (by omega)] at hn ⊢
        simpa using hn
      · have hlt := hlow i hi e.on (by rw [hbef]; exact bef_edge ho he hb)
        exact ih e.on hlt (by omega)
  intro fuel
  induction fuel with
  | zero =>
    intro listed pl ds B C Fz' β a w h hc
    have hall : ∀ i, i < rs.length → Dn listed i := fun i hi => by
      have := cnt_zero (Nat.le_zero.1 hc) i hi
      unfold Dn; simpa using this
    refine ⟨?_, fin h hall⟩
    apply List.eq_nil_iff_forall_not_mem.2
    intro i hi
    obtain ⟨o, h1, h2, _⟩ := ready_iff.1 hi
    have hi2 : i < rs.length := by rw [hlen]; exact (Array.getElem?_eq_some_iff.1 h1).1
    have := hall i hi2
    unfold Dn at this
    rw [Array.getD_eq_getD_getElem?, Array.getElem?_eq_getElem (by rw [h.size]; exact hi2)] at this h2
    simp at this h2
    rw [this] at h2; cases h2
  | succ fuel ih =>
    intro listed pl0 ds0 B C0 Fz' β a w h0 hc
    refine ⟨fun hnil => fin h0 (rdy h0.size hnil), fun i hi => ?_⟩
    obtain ⟨pl, ds, C, h, hsync⟩ := Inv.sync hs hlow pl0 ds0 C0 h0
    obtain ⟨oo, ho, hnl, hed⟩ := ready_iff.1 hi
    have hi2 : i < rs.length := by rw [hlen]; exact (Array.getElem?_eq_some_iff.1 ho).1
    have hlt : i < listed.size := by rw [h.size]; exact hi2
    have hro : rs[i]? = some rs[i] := List.getElem?_eq_getElem hi2
    generalize rs[i] = o at hro
    have hrr : roper P ops oo = some o := e2 i oo o (by simpa using ho) hro
    have hnd : ¬ Dn listed i := by
      unfold Dn
      rw [Array.getD_eq_getD_getElem?, Array.getElem?_eq_getElem hlt] at hnl ⊢
      simpa using hnl
    have hb : ∀ j, bf bef i j → Dn listed j := by
      intro j hj
      rw [hbef] at hj
      obtain ⟨e, he, hbd, hj⟩ := bef_sub ho hj
      rcases hj with hj | hj
      · subst hj; exact hed e he hbd
      · exact h.clo e.on (hed e he hbd) j (by rw [hbef]; exact hj)
    have hcn : cnt (fun j => !(listed.setIfInBounds i true).getD j false) rs.length ≤ fuel := by
      have := cnt_lt (f := fun j => !listed.getD j false) (g := fun j => !(listed.setIfInBounds i true).getD j false) (i := i) (fun j hj => ?_) ?_ ?_ rs.length hi2
      · omega
      · simp only [Bool.not_eq_true'] at hj ⊢
        cases hx : listed.getD j false with
        | false => rfl
        | true => have := (dn_set (j := j) hlt).2 (.inl hx); unfold Dn at this; rw [hj] at this; cases this
      · unfold Dn at hnd; simpa using hnd
      · have := (dn_set (j := i) hlt).2 (.inr rfl); unfold Dn at this; simpa using this
    by_cases hci : C.testBit i = true
    · refine wpOpIn_mono (K := fun a' w' => ∃ Fz2 β2, Inv P T S Fz w0 β0 ro k rs bef r0 e0 (listed.setIfInBounds i true) pl ds B C Fz2 β2 a' w') ?_ ?_
      · rintro a' w' ⟨Fz2, β2, h2⟩
        exact ih _ pl ds B C Fz2 β2 a' w' h2 hcn
      · unfold wpOpIn
        rw [ho]
        exact h.realLight hT hC hK hs hlow0 hro hrr hci hnd hb
    · have hmem := chk_mem h.ck i hi2 (by simpa using hci)
      cases pl with
      | nil => simp at hmem
      | cons g rest =>
        have hg := hsync g rest rfl
        obtain ⟨k1, k2, k3, k4, k5⟩ := chk_cons h.ck
        rcases k4 with k4 | ⟨k4, k6⟩
        · rw [hg] at k4; cases k4
        have hhv : lightAt rs i = false := by
          cases hl : lightAt rs i with
          | false => rfl
          | true =>
            rcases k6 i hi2 hl with h7 | ⟨g2, h7, h8, h9⟩
            · exact absurd h7 hci
            · rw [h.sub g2 (hb g2 h8)] at h9; cases h9
        have hig : i = g := by
          rcases List.mem_cons.1 hmem with h7 | h7
          · exact h7
          · have := chk_heavy k5 i h7 hhv g k1 hg ((or_bit' C g g).2 (.inr rfl))
            have := h.sub g (hb g this)
            rw [k2] at this; cases this
        subst hig
        refine wpOpIn_mono (K := fun a' w' => ∃ ds2 B2 Fz2 β2, Inv P T S Fz w0 β0 ro k rs bef r0 e0 (listed.setIfInBounds i true) rest ds2 B2 (C ||| 2 ^ i) Fz2 β2 a' w') ?_ ?_
        · rintro a' w' ⟨ds2, B2, Fz2, β2, h2⟩
          exact ih _ rest ds2 B2 _ Fz2 β2 a' w' h2 hcn
        · unfold wpOpIn
          rw [ho]
          exact h.realHeavy hT hC hK hs hro hrr hhv hb

/-- **A REGION THAT DRAWS ITS ORDER.** -/
theorem draw_snd (hT : ∀ t name f, T.meth t name = some f → rmeth P t name = some f) (hC : CodeSnd P S) (hK : CallSnd P S) : DrawSnd P T S := by
  intro Fz w0 β H w id ops rs st ro a k n bef plan hcode hrel hst hev
  simp only [rcode] at hcode
  split at hcode <;> (try cases hcode)
  rename_i rs' hr
  split at hcode <;> (try cases hcode)
  rename_i hplan
  simp only [Bool.and_eq_true] at hplan
  obtain ⟨hmix, hplan⟩ := hplan
  unfold planOk at hplan
  simp only [Bool.and_eq_true] at hplan
  obtain ⟨⟨hck, hsl⟩, hlo⟩ := hplan
  obtain ⟨e1, e2⟩ := ropers_spec ops _ rs hr
  have hlen : rs.length = ops.size := by rw [e1]; simp
  have hs := slotsOk_spec hsl
  have hlow : ∀ i, i < rs.length → ∀ j, bf (befs ops.toList []) i j → j < i := by
    intro i hi j hj
    have := (List.all_eq_true.1 hlo) i (by simpa using hi)
    simp only [decide_eq_true_eq] at this
    refine Classical.byContradiction fun hn => ?_
    unfold bf at hj
    rw [Nat.testBit_lt_two_pow (Nat.lt_of_lt_of_le this (Nat.pow_le_pow_right (by omega) (by omega)))] at hj
    cases hj
  refine wpIn_region_any hmix ?_
  have hd0 : ∀ i, ¬ Dn (Array.replicate ops.size false) i := fun i hi => by
    unfold Dn at hi
    rw [Array.getD_eq_getD_getElem?, Array.getElem?_replicate] at hi
    split at hi <;> simp at hi
  have henv : ∀ M : Nat → Prop, (∀ i, ¬ M i) → envAt rs M st.env st.env = st.env := fun M hM => by
    apply List.ext_getElem?
    intro t
    rw [envAt_get rfl, if_neg (fun ⟨j, h1, _⟩ => hM j h1)]
  refine any_snd (e0 := st.env) (r0 := H.next) hT hC hK hr rfl hs hlow (fun j hj => (hrel.rz j hj).1) ops.size (Array.replicate ops.size false) (planGo rs (befs ops.toList []) rs.length 0) ⟨st, [], []⟩ (H.reserve rs.length) 0 ⟨Fz.fz, fun i => Fz.rz i ∨ (H.next ≤ i ∧ i < H.next + rs.length)⟩ β a _ ?_ (by rw [← hlen]; exact cnt_le _ _)
  refine ⟨hev, hck, by simp [hlen], fun i hi => absurd hi (hd0 i), fun i hi => absurd hi (hd0 i), fun i hi => by simp at hi, fun i hi => by simp at hi, Bt.le_refl β, ⟨fun _ _ h => h, fun _ h => .inl h⟩, ?_, fun i hi _ => .inr ⟨by omega, by omega⟩, fun x hx => by simp at hx, List.Pairwise.nil, rfl, henv _ (fun i hi => by simp at hi), ?_, fun i o _ hi => by simp at hi⟩
  · have h1 := (hrel.reserve rs.length).drew (w.drawn + 1)
    refine ⟨h1.dom, h1.live, h1.sep, h1.fz, h1.fzsep, fun i hi => ?_, h1.old, h1.same⟩
    rcases hi with hi | hi
    · exact h1.rz i hi
    · refine ⟨by rw [AHeap.next_reserve]; omega, ?_⟩
      cases hx : β i with
      | none => rfl
      | some p => have := hrel.dom i p hx; omega
  · rw [henv _ hd0]; exact hst
end
end Go.E

namespace Go.E

/-- What holds of the one, holds of the other. -/
structure Tr (S : S3 Bool) (S' : S3 Prop) : Prop where
  code : ∀ (c : RCode) (st : St) (H : AHeap) (kb : RExit → St → AHeap → Bool) (kp : RExit → St → AHeap → Prop), S.code c st H kb = true → (∀ e st H, kb e st H = true → kp e st H) → S'.code c st H kp
  call : ∀ (f : FuncId) (args : List Value) (H : AHeap) (kb : CRes → AHeap → Bool) (kp : CRes → AHeap → Prop), S.call f args H kb = true → (∀ r H, kb r H = true → kp r H) → S'.call f args H kp

theorem bot_b : (Ver.bot : Bool) = false := rfl

theorem all_tr {n : Nat} {f : Nat → Bool} {g : Nat → Prop} (h : Ver.all n f = true) (hk : ∀ i, f i = true → g i) : Ver.all (R := Prop) n g := by
  intro i hi
  have : (List.range n).all f = true := h
  exact hk i ((List.all_eq_true.1 this) i (by simpa using hi))

theorem anext_tr {H : AHeap} {v : Option Value} {kb : Res → AHeap → Bool} {kp : Res → AHeap → Prop} (h : anext H v kb = true) (hk : ∀ r H, kb r H = true → kp r H) : anext H v kp := by
  unfold anext at h ⊢
  split at h <;> (try cases h)
  rename_i i
  split at h <;> (try cases h)
  · exact hk _ _ h
  · rename_i m since seen stepped hg
    split at h <;> (try cases h)
    rename_i es clock hg2
    split at h <;> (try cases h)
    rename_i hc
    try simp only [hg, hg2, hc]
    generalize mapLeft es since seen = lo at h ⊢
    obtain ⟨l, over⟩ := lo
    refine all_tr h fun c hcb => ?_
    simp only
    split at hcb
    · rename_i h1; rw [if_pos h1]; exact hk _ _ hcb
    · rename_i h1
      rw [if_neg h1]
      split at hcb
      · rename_i e he; rw [he]; exact hk _ _ hcb
      · cases hcb

variable {T : Tab} {S : S3 Bool} {S' : S3 Prop}

theorem evOp_tr {env : Env} {o : ROp} {H : AHeap} {kb : Res → AHeap → Bool} {kp : Res → AHeap → Prop} (h : evOp T env o H kb = true) (hk : ∀ r H, kb r H = true → kp r H) : evOp T env o H kp := by
  unfold evOp at h ⊢
  split at h
  · exact anext_tr h hk
  · split at h <;> (try cases h)
    rename_i h1 h2
    try simp only [h1, h2]
    split at h <;> (try cases h)
    rename_i h3
    try simp only [h3]
    exact hk _ _ h
  · split at h <;> (try cases h)
    rename_i h1
    try simp only [h1]
    exact hk _ _ h

theorem round_tr (hS : Tr S S') {l : Nat} {args : List Value} {H : AHeap} {kb : Value → AHeap → Bool} {kp : Value → AHeap → Prop} (h : roundS S l args H kb = true) (hk : ∀ r H, kb r H = true → kp r H) : roundS S' l args H kp := by
  unfold roundS at h ⊢
  split at h <;> (try cases h)
  rename_i h1
  try simp only [h1]
  split at h
  · cases h
  rename_i h2
  rw [if_neg h2]
  refine hS.code _ _ _ _ _ h fun e st1 H1 h => ?_
  split at h <;> (try cases h)
  rename_i h3
  try simp only [h3]
  refine hS.code _ _ _ _ _ h fun e st1 H1 h => ?_
  split at h <;> (try cases h)
  rename_i h4
  try simp only [h4]
  split at h
  · exact hk _ _ h
  · cases h
  · exact hk _ _ h

theorem oper_tr (hS : Tr S S') {o : ROper} {st : St} {H : AHeap} {kb kb2 : Value → AHeap → Bool} {kp kp2 : Value → AHeap → Prop} (h : evOper T S o st H kb kb2 = true) (hk : ∀ r H, kb r H = true → kp r H) (hk2 : ∀ r H, kb2 r H = true → kp2 r H) :
    evOper T S' o st H kp kp2 := by
  unfold evOper at h ⊢
  split at h
  · rename_i h1
    try simp only [h1]
    refine evOp_tr h fun r H h => ?_
    cases r with
    | val v => exact hk _ _ h
    | skip => exact hk _ _ h
    | pan v => exact hk2 _ _ h
    | enter f args =>
      refine hS.call _ _ _ _ _ h fun r H h => ?_
      cases r with
      | ret v => exact hk _ _ h
      | pan v => exact hk2 _ _ h
    | round l args => exact round_tr hS h hk
  · rename_i h1
    try simp only [h1]
    exact hk _ _ h
  · cases h

theorem ops_tr (hS : Tr S S') : ∀ {ops : List ROper} {st : St} {H : AHeap} {kb : RExit → St → AHeap → Bool} {kp : RExit → St → AHeap → Prop}, evOps T S ops st H kb = true → (∀ e st H, kb e st H = true → kp e st H) → evOps T S' ops st H kp
  | [], st, H, kb, kp, h, hk => hk _ _ _ h
  | o :: rest, st, H, kb, kp, h, hk => by
    simp only [evOps] at h ⊢
    exact oper_tr hS h (fun v H h => ops_tr hS h hk) (fun v H h => hk _ _ _ h)

theorem draw_tr (hS : Tr S S') {ops : List ROper} {bef : List Nat} {r0 : Nat} : ∀ {pl : List Nat} {ds : DSt} {H : AHeap} {kb : RExit → St → AHeap → Bool} {kp : RExit → St → AHeap → Prop}, evDraw T S ops bef r0 pl ds H kb = true → (∀ e st H, kb e st H = true → kp e st H) → evDraw T S' ops bef r0 pl ds H kp
  | [], ds, H, kb, kp, h, hk => hk _ _ _ h
  | i :: rest, ds, H, kb, kp, h, hk => by
    simp only [evDraw] at h ⊢
    split at h
    · cases h
    rename_i o ho
    try simp only []
    split at h
    · cases h
    · rename_i hw
      try simp only []
      exact draw_tr hS h hk
    · rename_i hw
      try simp only []
      split at h
      · rename_i h1
        rw [if_pos h1]
        split at h <;> (try cases h)
        exact draw_tr hS h hk
      · rename_i h1
        rw [if_neg h1]
        split at h
        · rename_i h2
          rw [if_pos h2]
          split at h <;> (try cases h)
          exact draw_tr hS h hk
        · rename_i h2
          rw [if_neg h2]
          split at h
          · rename_i h3
            rw [if_pos h3]
            split at h <;> (try cases h)
            exact draw_tr hS h hk
          · rename_i h3
            rw [if_neg h3]
            refine oper_tr hS h (fun v H' h => ?_) (fun _ _ h => by cases h)
            split at h
            · rename_i h4
              rw [if_pos h4]
              exact draw_tr hS h hk
            · cases h

theorem ret_tr {st : St} {H : AHeap} {rs : List RRes} {kb : CRes → AHeap → Bool} {kp : CRes → AHeap → Prop} (h : retS st H rs kb = true) (hk : ∀ r H, kb r H = true → kp r H) : retS st H rs kp := by
  unfold retS at h ⊢
  split at h <;> (try cases h)
  split at h <;> (try cases h)
  exact hk _ _ h

theorem jump_tr {pend : Option RExit} {kb : RExit → Bool} {kp : RExit → Prop} (h : jumpK pend kb = true) (hk : ∀ e, kb e = true → kp e) : jumpK pend kp := by
  unfold jumpK at h ⊢
  split at h
  · exact hk _ h
  · exact hk _ h
  · exact hk _ h
  · cases h

theorem code_tr (hS : Tr S S') {c : RCode} {st : St} {H : AHeap} {kb : RExit → St → AHeap → Bool} {kp : RExit → St → AHeap → Prop} (h : stepCode T S c st H kb = true) (hk : ∀ e st H, kb e st H = true → kp e st H) : stepCode T S' c st H kp := by
  cases c with
  | skip => exact hk _ _ _ h
  | region ops => exact ops_tr hS h hk
  | draw ops bef plan => exact draw_tr hS h hk
  | seq a b =>
    simp only [stepCode] at h ⊢
    refine hS.code _ _ _ _ _ h fun e st H h => ?_
    cases e <;> first | exact hS.code _ _ _ _ _ h hk | exact hk _ _ _ h
  | cond c a b =>
    simp only [stepCode] at h ⊢
    split at h <;> (try cases h)
    · exact hS.code _ _ _ _ _ h hk
    · exact hS.code _ _ _ _ _ h hk
  | block id a =>
    simp only [stepCode] at h ⊢
    refine hS.code _ _ _ _ _ h fun e st H h => ?_
    cases e with
    | exit j =>
      simp only at h ⊢
      split at h
      · rename_i h1; rw [if_pos h1]; exact hk _ _ _ h
      · rename_i h1; rw [if_neg h1]; exact hk _ _ _ h
    | _ => exact hk _ _ _ h
  | loop a =>
    simp only [stepCode] at h ⊢
    refine hS.code _ _ _ _ _ h fun e st H h => ?_
    cases e <;> first | exact hS.code _ _ _ _ _ h hk | exact hk _ _ _ h
  | rangeFunc f ps a b =>
    obtain ⟨env, marks, round⟩ := st
    simp only [stepCode] at h ⊢
    split at h <;> (try cases h)
    cases round with
    | none =>
      simp only at h ⊢
      refine hS.call _ _ _ _ _ h fun r H1 h => ?_
      cases r with
      | pan v => exact hk _ _ _ h
      | ret v =>
        simp only at h ⊢
        split at h <;> (try cases h)
        split at h
        · cases h
        · rename_i h2
          rw [if_neg h2]
          exact jump_tr h fun e h => hk _ _ _ h
    | some l0 =>
      simp only at h ⊢
      split at h <;> (try cases h)
      refine hS.call _ _ _ _ _ h fun r H1 h => ?_
      cases r with
      | pan v => exact hk _ _ _ h
      | ret v =>
        simp only at h ⊢
        split at h <;> (try cases h)
        split at h
        · cases h
        · rename_i h2
          rw [if_neg h2]
          exact jump_tr h fun e h => hk _ _ _ h
  | exit id => exact hk _ _ _ h
  | ret => exact hk _ _ _ h

theorem call_tr (hS : Tr S S') {f : FuncId} {args : List Value} {H : AHeap} {kb : CRes → AHeap → Bool} {kp : CRes → AHeap → Prop} (h : stepCall T S f args H kb = true) (hk : ∀ r H, kb r H = true → kp r H) : stepCall T S' f args H kp := by
  unfold stepCall at h ⊢
  split at h
  · split at h
    · rename_i h1
      rw [if_pos h1]
      refine hS.code _ _ _ _ _ h fun e st H h => ?_
      cases e with
      | norm => exact ret_tr h hk
      | ret => exact ret_tr h hk
      | pan v =>
        simp only at h ⊢
        split at h <;> (try cases h)
        exact hk _ _ h
      | exit id => cases h
    · cases h
  · split at h <;> (try cases h)
    exact hk _ _ h
  · cases h

/-- **WHAT THE COMPUTATION FINDS TRUE, IS TRUE.** -/
theorem ev_tr (T : Tab) : ∀ N, Tr (evN T N) (evN T N)
  | 0 => ⟨fun c st H kb kp h hk => (by cases h), fun f args H kb kp h hk => (by cases h)⟩
  | N + 1 => ⟨fun _ _ _ _ _ h hk => code_tr (ev_tr T N) h hk, fun _ _ _ _ _ h hk => call_tr (ev_tr T N) h hk⟩

end Go.E

namespace Go.E
open Go.ChangeShapes Go.WideShapes Go.ChangeAt Go.RowKit

/-- **THE WHOLE.** -/
theorem ev_sound {P : Program} {T : Tab} (hT : TabOk P T) (N : Nat) : CallSnd P (evN T N) :=
  (ev_snd hT (fun _ hC hK => draw_snd hT.meth hC hK) N).2.1

def heldAll (w : World) : Fr := ⟨fun r => w.heap[r]?, fun _ => False⟩
def noneB : Bt := fun _ => none

theorem Rel.start (P : Program) (w : World) : Rel P (heldAll w) w noneB ⟨[]⟩ w := by
  have hg : ∀ i o, (⟨[]⟩ : AHeap).get i = some o → False := fun i o h => by simp [AHeap.get] at h
  exact ⟨fun i p h => (by cases h), fun i o h => (hg i o h).elim, fun i j oi oj p q _ h => (hg i oi h).elim, fun r o h => h, fun i o p h => (hg i o h).elim, fun i h => False.elim h, fun i o p h => (hg i o h).elim,
    ⟨rfl, rfl, rfl, Nat.le_refl _⟩⟩

theorem Rel.below {P : Program} {w0 : World} {β : Bt} {H : AHeap} {w : World} (h : Rel P (heldAll w0) w0 β H w) : Below w0.heap.size w0 w :=
  ⟨h.same.os, h.same.tape, h.same.output, h.same.size, fun k hk => by
    have := h.fz k w0.heap[k] (by simp [heldAll, Array.getElem?_eq_getElem hk])
    rw [this, Array.getElem?_eq_getElem hk]⟩

theorem Rel.grow {P : Program} {Fz : Fr} {w0 : World} {β : Bt} {H : AHeap} {w w' : World} (h : Rel P Fz w0 β H w) (hb : Below w.heap.size w w') : Rel P Fz w0 β H w' := by
  have keep : ∀ r o, w.heap[r]? = some o → w'.heap[r]? = some o := fun r o hr => by rw [hb.block r (Array.getElem?_eq_some_iff.1 hr).1]; exact hr
  refine ⟨h.dom, fun i o hi => ?_, h.sep, fun r o hr => keep r o (h.fz r o hr), h.fzsep, h.rz, h.old, ⟨hb.os.trans h.same.os, hb.tape.trans h.same.tape, hb.output.trans h.same.output, Nat.le_trans h.same.size hb.size⟩⟩
  obtain ⟨p, ro, h1, h2, h3⟩ := h.live i o hi
  exact ⟨p, ro, h1, keep _ _ h2, h3⟩

/-- What a call with such arguments comes to: true; nothing that was there has turned. -/
def Tru (P : Program) (f : FuncId) (args : Array Value) (w : World) : Prop :=
  (callFunc f args).run P w = .ok (.enter f args) w ∧ ∀ n, CallsIn Fence.wide n P f args w fun e w' => e = .returned (.bool true) ∧ Below w.heap.size w w'

theorem Tru.calls {P : Program} {f : FuncId} {args : Array Value} {w : World} (h : Tru P f args w) : Calls P f args w fun e w' => e = .returned (.bool true) ∧ Below w.heap.size w w' := callsIn_wide.1 (h.2 0)

theorem tru_of_ev {P : Program} {T : Tab} (hT : TabOk P T) {w : World} {β : Bt} {H : AHeap} {f : FuncId} {args : List Value} {args' : Array Value} (N : Nat) (h : Rel P (heldAll w) w β H w) (hl : LRel β args args'.toList)
    (hk : (evN T N).call f args H fun r _ => r = .ret (.bool true)) : Tru P f args' w := by
  obtain ⟨h1, h2⟩ := ev_sound hT N (heldAll w) w β H w f args args' _ h hl hk
  refine ⟨h1, fun n => (h2 n).mono ?_⟩
  rintro e w' ⟨cr, H', β', rfl, _, hrel, hv⟩
  refine ⟨?_, hrel.below⟩
  cases e <;> simp only at hv <;> (try exact hv.elim)
  rw [hv.invBool]

def isTrue : CRes → AHeap → Bool := fun r _ => match r with | .ret (.bool b) => b | _ => false
theorem isTrue_spec {r : CRes} {H : AHeap} (h : isTrue r H = true) : r = .ret (.bool true) := by
  unfold isTrue at h
  split at h
  · rw [h]
  · cases h

/-- .. found by computing. -/
theorem tru_of_run {P : Program} {T : Tab} (hT : TabOk P T) {w : World} {β : Bt} {H : AHeap} {f : FuncId} {args : List Value} {args' : Array Value} (N : Nat) (h : Rel P (heldAll w) w β H w) (hl : LRel β args args'.toList)
    (hk : (evN (R := Bool) T N).call f args H isTrue = true) : Tru P f args' w :=
  tru_of_ev hT N h hl ((ev_tr T N).call _ _ _ _ _ hk fun _ _ h => isTrue_spec h)

/-- A call without arguments that comes to true, whatever the world: it is known from now on. -/
def trueP : List Value → AHeap → Option (CRes × AHeap) := fun args H => match args with | [] => some (.ret (.bool true), H) | _ => none
theorem prim_true {P : Program} {f : FuncId} (h : ∀ w, Tru P f #[] w) : PrimOk P f trueP := by
  intro Fz w0 β H w args args' r H' hrel hl hp
  unfold trueP at hp
  split at hp <;> cases hp
  have hargs : args' = #[] := by
    have := hl.1
    simp at this
    exact Array.size_eq_zero_iff.1 this.symm
  subst hargs
  obtain ⟨h1, h2⟩ := h w
  refine ⟨h1, fun n => (h2 n).mono ?_⟩
  rintro e w' ⟨rfl, hb⟩
  exact ⟨_, _, β, ⟨rfl, rfl⟩, Bt.le_refl β, hrel.grow hb, .bool true⟩

def Tab.knows (T : Tab) (f : FuncId) (p : List Value → AHeap → Option (CRes × AHeap)) : Tab := ⟨fun g => if g = f then some (.prim p) else T.fn g, T.meth⟩
theorem TabOk.knows {P : Program} {T : Tab} (hT : TabOk P T) {f : FuncId} {p : List Value → AHeap → Option (CRes × AHeap)} (hp : PrimOk P f p) : TabOk P (T.knows f p) := by
  refine ⟨hT.meth, fun g rf hg => ?_, fun g q hg => ?_⟩
  · simp only [Tab.knows] at hg
    split at hg
    · cases hg
    · exact hT.code g rf hg
  · simp only [Tab.knows] at hg
    split at hg
    · rename_i e; cases hg; rw [e]; exact hp
    · exact hT.prim g q hg

theorem tab_ok (P : Program) : TabOk P (tab P) := by
  refine ⟨fun t name f h => h, fun f rf h => ?_, fun f p h => ?_⟩
  · simp only [tab, Option.map_eq_some_iff] at h
    obtain ⟨x, h1, h2⟩ := h; cases h2; exact h1
  · simp only [tab, Option.map_eq_some_iff] at h
    obtain ⟨x, h1, h2⟩ := h; cases h2

/-! ### The row -/
section
variable {H : Type} {enc : TypeId × Value → H} {P : Program}

theorem below_trodAll (hl : laidOutB P = true) {W W' : World} (hb : Below W.heap.size W W') : ∀ {ts : List TypeId} {vs : List Value} {ds : List (DataW H)} {ps : List MemPlace}, (∀ t ∈ ts, P.readableRec t = true ∧ t < P.types.size) →
    DataW.TrodAll enc P W 0 (fun _ => true) true ts vs ds ps → (∀ x ∈ ps, x.block < W.heap.size) → DataW.TrodAll enc P W' 0 (fun b => decide (b < W.heap.size)) true ts vs ds ps
  | [], _, _, _, _, h, _ => by
    obtain ⟨rfl, rfl, rfl⟩ := trodAll_nil h
    exact rfl
  | t :: ts, _, _, _, hr, h, hlt => by
    obtain ⟨v, vs', d, ds', p, q, rfl, rfl, rfl, h1, h2⟩ := trodAll_cons h
    exact ⟨p, q, Below.trod hl (hr t (by simp)).1 (hr t (by simp)).2 h1 hb (fun x hx => hlt x (by simp [hx])), below_trodAll hl hb (fun t ht => hr t (by simp [ht])) h2 (fun x hx => hlt x (by simp [hx])), rfl⟩

theorem post_true {f : Func} {s : ChangeSpec} {W W' : World} {args : Array Value} {ds gs : List (DataW H)} {before : List MemPlace} (hl : laidOutB P = true) (hts : ∀ t ∈ f.params.toList, P.readableRec t = true ∧ t < P.types.size) (hv : s.vars = [])
    {tb : TypeId} (hrt : f.resultTypes = #[tb]) (htb : P.underlying tb = some .bool) (hW : DataW.Whole enc P f.params.toList s.vars false W args.toList ds gs before)
    (hres : (s.fn H (ds ++ gs)).results = [.lit (.bool true)]) (hargs : (s.fn H (ds ++ gs)).args = ds) (hvars : (s.fn H (ds ++ gs)).vars = []) (hb : Below W.heap.size W W') :
    s.post enc P f false true false false W args (.bool true) W' := by
  have hlt : ∀ x ∈ before, x.block < W.heap.size := fun x hx => by simpa using hW.lt x hx
  have hW0 := hW
  obtain ⟨p, q, hA, hV, hpq, hz, _⟩ := hW
  rw [hv] at hV
  obtain ⟨rfl, rfl⟩ := trodVars_none hV
  simp only [List.append_nil] at hpq
  subst hpq
  refine ⟨ds, [], before, [], before, [], hW0, ?_, ?_, ?_, hb.frame _, fun h => by cases h⟩
  · rw [hres, hrt]
    exact trodAll_mk1 (shut_bool htb true)
  · rw [hargs]
    exact below_trodAll hl hb hts hA hlt
  · rw [hvars, hv]
    exact rfl
end

end Go.E

namespace Go.E
variable {T : Tab}

/-! Rules for a walk through code whose values are not all known. -/
theorem call_code {n : Nat} {f : FuncId} {rf : RFunc} {args : List Value} {H : AHeap} {k : CRes → AHeap → Prop} (hf : T.fn f = some (.code rf)) (hl : args.length ≤ rf.ntmps)
    (h : (evN T n).code rf.body ⟨args.map some ++ List.replicate (rf.ntmps - args.length) (some undef), [], none⟩ H fun e st H => match e with
      | .norm | .ret => retS st H rf.results k
      | .pan v => match shutMarks H st.marks with
        | some H1 => k (.pan v) H1
        | none => Ver.bot
      | .exit _ => Ver.bot) : (evN T (n + 1)).call f args H k := by
  show stepCall T (evN T n) f args H k
  unfold stepCall
  rw [hf]
  simp only
  rw [if_pos hl]
  exact h
theorem call_prim {n : Nat} {f : FuncId} {p : List Value → AHeap → Option (CRes × AHeap)} {args : List Value} {H H' : AHeap} {r : CRes} {k : CRes → AHeap → Prop} (hf : T.fn f = some (.prim p)) (hp : p args H = some (r, H')) (h : k r H') :
    (evN T (n + 1)).call f args H k := by
  show stepCall T (evN T n) f args H k
  unfold stepCall
  rw [hf]
  simp only [hp]
  exact h
theorem code_seq {n : Nat} {a b : RCode} {st : St} {H : AHeap} {k : RExit → St → AHeap → Prop} (h : (evN T n).code a st H fun e st H => match e with | .norm => (evN T n).code b st H k | e => k e st H) : (evN T (n + 1)).code (.seq a b) st H k := h
theorem code_region {n : Nat} {ops : List ROper} {st : St} {H : AHeap} {k : RExit → St → AHeap → Prop} (h : evOps T (evN T n) ops st H k) : (evN T (n + 1)).code (.region ops) st H k := h
theorem code_ret {n : Nat} {st : St} {H : AHeap} {k : RExit → St → AHeap → Prop} (h : k .ret st H) : (evN T (n + 1)).code .ret st H k := h
theorem code_skip {n : Nat} {st : St} {H : AHeap} {k : RExit → St → AHeap → Prop} (h : k .norm st H) : (evN T (n + 1)).code .skip st H k := h
theorem code_then {n : Nat} {c : Operand} {a b : RCode} {st : St} {H : AHeap} {k : RExit → St → AHeap → Prop} (hc : opv st.env c = some (.bool true)) (h : (evN T n).code a st H k) : (evN T (n + 1)).code (.cond c a b) st H k := by
  change stepCode T (evN T n) (.cond c a b) st H k
  simp only [stepCode, hc]; exact h
theorem code_else {n : Nat} {c : Operand} {a b : RCode} {st : St} {H : AHeap} {k : RExit → St → AHeap → Prop} (hc : opv st.env c = some (.bool false)) (h : (evN T n).code b st H k) : (evN T (n + 1)).code (.cond c a b) st H k := by
  change stepCode T (evN T n) (.cond c a b) st H k
  simp only [stepCode, hc]; exact h
theorem ops_nil {S : S3 Prop} {st : St} {H : AHeap} {k : RExit → St → AHeap → Prop} (h : k .norm st H) : evOps T S [] st H k := h
theorem ops_val {S : S3 Prop} {o : ROper} {rest : List ROper} {st : St} {H H' : AHeap} {v : Value} {k : RExit → St → AHeap → Prop} (hw : wanted st.env o = some true) (hn : isOdd o.op = false) (ha : aop st.env H o.op = some (.val v, H'))
    (h : evOps T S rest (st.put o.dst (some v)) H' k) : evOps T S (o :: rest) st H k := by
  simp only [evOps, evOper, hw]
  rw [evOp_of hn ha]
  exact h
theorem ops_off {S : S3 Prop} {o : ROper} {rest : List ROper} {st : St} {H : AHeap} {k : RExit → St → AHeap → Prop} (hw : wanted st.env o = some false)
    (h : evOps T S rest (st.put o.dst (some undef)) H k) : evOps T S (o :: rest) st H k := by
  simp only [evOps, evOper, hw]
  exact h
theorem ops_call {S : S3 Prop} {o : ROper} {rest : List ROper} {st : St} {H : AHeap} {k : RExit → St → AHeap → Prop} {f : FuncId} {args : List Value} (hw : wanted st.env o = some true) (hn : isOdd o.op = false) (ha : aop st.env H o.op = some (.enter f args, H))
    (h : S.call f args H fun cr H' => match cr with
      | .ret v => evOps T S rest (st.put o.dst (some v)) H' k
      | .pan v => k (.pan v) st H') : evOps T S (o :: rest) st H k := by
  simp only [evOps, evOper, hw]
  rw [evOp_of hn ha]
  exact h
theorem ret_k {st : St} {H H1 : AHeap} {rs : List RRes} {vs : List Value} {k : CRes → AHeap → Prop} (h1 : shutMarks H st.marks = some H1) (h2 : resVs st.env H1 rs = some vs) (h : k (.ret (tupled vs)) H1) : retS st H rs k := by
  unfold retS
  rw [h1]; simp only [h2]; exact h
end Go.E

namespace Go.E
variable {T : Tab}
theorem code_block {n id : Nat} {a : RCode} {st : St} {H : AHeap} {k : RExit → St → AHeap → Prop} (h : (evN T n).code a st H fun e st H => match e with
    | .exit j => if j = id then k .norm st H else k (.exit j) st H
    | e => k e st H) : (evN T (n + 1)).code (.block id a) st H k := h
theorem code_loop {n : Nat} {a : RCode} {st : St} {H : AHeap} {k : RExit → St → AHeap → Prop} (h : (evN T n).code a st H fun e st H => match e with
    | .norm => (evN T n).code (.loop a) st H k
    | e => k e st H) : (evN T (n + 1)).code (.loop a) st H k := h
theorem code_exit {n id : Nat} {st : St} {H : AHeap} {k : RExit → St → AHeap → Prop} (h : k (.exit id) st H) : (evN T (n + 1)).code (.exit id) st H k := h
/-- A test whose outcome is not known. -/
theorem code_cond {n : Nat} {c : Operand} {a b : RCode} {st : St} {H : AHeap} {k : RExit → St → AHeap → Prop} {x : Bool} (hc : opv st.env c = some (.bool x)) (ht : x = true → (evN T n).code a st H k) (he : x = false → (evN T n).code b st H k) :
    (evN T (n + 1)).code (.cond c a b) st H k := by
  cases x with
  | true => exact code_then hc (ht rfl)
  | false => exact code_else hc (he rfl)
/-- An operation that yields nothing. -/
theorem ops_skip {S : S3 Prop} {o : ROper} {rest : List ROper} {st : St} {H H' : AHeap} {k : RExit → St → AHeap → Prop} (hw : wanted st.env o = some true) (hn : isOdd o.op = false) (ha : aop st.env H o.op = some (.skip, H'))
    (h : evOps T S rest (st.put o.dst (some undef)) H' k) : evOps T S (o :: rest) st H k := by
  simp only [evOps, evOper, hw]
  rw [evOp_of hn ha]
  exact h

theorem load_at {H : AHeap} {i off n : Nat} {c vs : List Value} {t : TypeId} {e : Nat} {ex r : Bool} (hg : H.get i = some (.cells c t e ex r)) (hp : piece c off n = some vs) : loadCells H (.pointer (some ⟨i, off, none⟩)) n = some vs := by
  simp only [loadCells, hg]; exact hp
theorem store_at {H : AHeap} {i off : Nat} {c c' vs : List Value} {t : TypeId} {e : Nat} {ex : Bool} (hg : H.get i = some (.cells c t e ex false)) (hv : vs.all isCell = true) (hp : overwrite c off vs = some c') :
    storeCells H (.pointer (some ⟨i, off, none⟩)) vs = some (H.set i (.cells c' t e ex false)) := by
  simp only [storeCells, hg, hv, if_true, hp]
theorem get_set_self {H : AHeap} {i : Nat} {o o' : AObj} (h : H.get i = some o) : (H.set i o').get i = some o' := by
  rw [AHeap.get_set, if_pos ⟨rfl, AHeap.get_lt h⟩]
theorem get_alloc_self (H : AHeap) (o : AObj) : (H.alloc o).get H.next = some o := by rw [AHeap.get_alloc, if_pos rfl]
theorem get_alloc_old {H : AHeap} {i : Nat} {o o' : AObj} (h : H.get i = some o) : (H.alloc o').get i = some o := by
  rw [AHeap.get_alloc, if_neg (by have := AHeap.get_lt h; omega)]; exact h
theorem get_set_old {H : AHeap} {i j : Nat} {o o' : AObj} (h : H.get j = some o) (hne : i ≠ j) : (H.set i o').get j = some o := by
  rw [AHeap.get_set, if_neg (fun e => hne e.1)]; exact h

/-! The same with the slots written out. -/
theorem val2 {S : S3 Prop} {o : ROper} {rest : List ROper} {env env' : Env} {m : List Nat} {r : Option Nat} {H H' : AHeap} {v : Value} {k : RExit → St → AHeap → Prop} (hw : wanted env o = some true) (hn : isOdd o.op = false) (ha : aop env H o.op = some (.val v, H'))
    (hs : Env.put env o.dst (some v) = env') (h : evOps T S rest ⟨env', m, r⟩ H' k) : evOps T S (o :: rest) ⟨env, m, r⟩ H k := by subst hs; exact ops_val hw hn ha h
theorem off2 {S : S3 Prop} {o : ROper} {rest : List ROper} {env env' : Env} {m : List Nat} {r : Option Nat} {H : AHeap} {k : RExit → St → AHeap → Prop} (hw : wanted env o = some false)
    (hs : Env.put env o.dst (some undef) = env') (h : evOps T S rest ⟨env', m, r⟩ H k) : evOps T S (o :: rest) ⟨env, m, r⟩ H k := by subst hs; exact ops_off hw h
theorem skip2 {S : S3 Prop} {o : ROper} {rest : List ROper} {env env' : Env} {m : List Nat} {r : Option Nat} {H H' : AHeap} {k : RExit → St → AHeap → Prop} (hw : wanted env o = some true) (hn : isOdd o.op = false) (ha : aop env H o.op = some (.skip, H'))
    (hs : Env.put env o.dst (some undef) = env') (h : evOps T S rest ⟨env', m, r⟩ H' k) : evOps T S (o :: rest) ⟨env, m, r⟩ H k := by subst hs; exact ops_skip hw hn ha h
/-- A call of which one answer is known. -/
theorem prim2 {n : Nat} {o : ROper} {rest : List ROper} {env env' : Env} {m : List Nat} {r : Option Nat} {H H' : AHeap} {v : Value} {f : FuncId} {args : List Value} {p : List Value → AHeap → Option (CRes × AHeap)} {k : RExit → St → AHeap → Prop}
    (hf : T.fn f = some (.prim p)) (hp : p args H = some (.ret v, H')) (hw : wanted env o = some true) (hn : isOdd o.op = false) (ha : aop env H o.op = some (.enter f args, H))
    (hs : Env.put env o.dst (some v) = env') (h : evOps T (evN T (n + 1)) rest ⟨env', m, r⟩ H' k) : evOps T (evN T (n + 1)) (o :: rest) ⟨env, m, r⟩ H k := by
  subst hs; exact ops_call hw hn ha (call_prim hf hp h)
theorem call2 {S : S3 Prop} {o : ROper} {rest : List ROper} {env : Env} {m : List Nat} {r : Option Nat} {H : AHeap} {k : RExit → St → AHeap → Prop} {f : FuncId} {args : List Value} (hw : wanted env o = some true) (hn : isOdd o.op = false) (ha : aop env H o.op = some (.enter f args, H))
    (h : S.call f args H fun cr H' => match cr with
      | .ret v => evOps T S rest ⟨Env.put env o.dst (some v), m, r⟩ H' k
      | .pan v => k (.pan v) ⟨env, m, r⟩ H') : evOps T S (o :: rest) ⟨env, m, r⟩ H k := ops_call hw hn ha h
theorem st2 {n : Nat} {c : RCode} {env env' : Env} {m : List Nat} {r : Option Nat} {H : AHeap} {k : RExit → St → AHeap → Prop} (hs : env = env') (h : (evN T n).code c ⟨env', m, r⟩ H k) : (evN T n).code c ⟨env, m, r⟩ H k := by subst hs; exact h
theorem ops_st2 {S : S3 Prop} {rest : List ROper} {env env' : Env} {m : List Nat} {r : Option Nat} {H : AHeap} {k : RExit → St → AHeap → Prop} (hs : env = env') (h : evOps T S rest ⟨env', m, r⟩ H k) : evOps T S rest ⟨env, m, r⟩ H k := by subst hs; exact h
theorem call_code2 {n : Nat} {f : FuncId} {rf : RFunc} {args : List Value} {env : Env} {H : AHeap} {k : CRes → AHeap → Prop} (hf : T.fn f = some (.code rf)) (hl : args.length ≤ rf.ntmps) (he : args.map some ++ List.replicate (rf.ntmps - args.length) (some undef) = env)
    (h : (evN T n).code rf.body ⟨env, [], none⟩ H fun e st H => match e with
      | .norm | .ret => retS st H rf.results k
      | .pan v => match shutMarks H st.marks with
        | some H1 => k (.pan v) H1
        | none => Ver.bot
      | .exit _ => Ver.bot) : (evN T (n + 1)).call f args H k := by subst he; exact call_code hf hl h

theorem load1_ok {env : Env} {H : AHeap} {x : Operand} {p v : Value} (hx : opv env x = some p) (h : loadCells H p 1 = some [v]) : aop env H (.load1 x) = some (.val v, H) := by
  simp only [aop, hx, Option.bind_some, h]
theorem loadN_ok {env : Env} {H : AHeap} {x : Operand} {p : Value} {n : Nat} {vs : List Value} (hx : opv env x = some p) (h : loadCells H p n = some vs) : aop env H (.loadN n x) = some (.val (.agg vs.toArray), H) := by
  simp only [aop, hx, Option.bind_some, h, Option.map_some]
theorem idx_ok {env : Env} {H : AHeap} {x i : Operand} {b off len cap j size : Nat} (hx : opv env x = some (.slice (some ⟨b, off, none⟩) len cap)) (hi : opv env i = some (.int .i64 (j : Nat))) (h : j < len) :
    aop env H (.idxS size x i) = some (.val (.pointer (some ⟨b, off + j * size, none⟩)), H) := by
  simp only [aop, hx, hi]
  rw [if_pos ⟨by omega, by omega⟩]
  simp only [Int.toNat_natCast]
theorem store_ok {env : Env} {H : AHeap} {a x : Operand} {b off n e : Nat} {c c' : List Value} {t : TypeId} {ex : Bool} {u : Value} (ha : opv env a = some (.pointer (some ⟨b, off, none⟩))) (hx : opv env x = some u) (hn : u.cells.size = n)
    (hg : H.get b = some (.cells c t e ex false)) (hv : u.cells.toList.all isCell = true) (hp : overwrite c off u.cells.toList = some c') : aop env H (.store n a x) = some (.skip, H.set b (.cells c' t e ex false)) := by
  simp only [aop, ha, hx, hn, if_true]
  rw [store_at hg hv hp]; rfl
theorem store_agg {env : Env} {H : AHeap} {a x : Operand} {b n e : Nat} {c vs : List Value} {t : TypeId} {ex : Bool} (ha : opv env a = some (.pointer (some ⟨b, 0, none⟩))) (hx : opv env x = some (.agg vs.toArray))
    (hg : H.get b = some (.cells c t e ex false)) (hn : vs.length = n) (hc : c.length = n) (hv : vs.all isCell = true) : aop env H (.store n a x) = some (.skip, H.set b (.cells vs t e ex false)) := by
  refine store_ok ha hx (by simpa [Value.cells] using hn) hg (by simpa [Value.cells] using hv) ?_
  have e1 : (Value.agg vs.toArray).cells.toList = vs := by simp [Value.cells]
  rw [e1]
  unfold overwrite
  rw [if_pos (by omega)]
  simp only [List.take_zero, List.nil_append, Nat.zero_add]
  rw [List.drop_eq_nil_of_le (by omega), List.append_nil]
/-- There is fuel for so many rounds. (Told so that no 'omega' looks into it.) -/
def Fu (c m F : Nat) : Prop := (m + 1) * 60 + c ≤ F
theorem Fu.one {c m F : Nat} (h : Fu c m F) : ∃ F', F = F' + 60 ∧ c ≤ F' := by
  unfold Fu at h
  rw [Nat.add_mul] at h
  generalize m * 60 = y at h
  exact ⟨F - 60, by omega, by omega⟩
theorem Fu.more {c m F : Nat} (h : Fu c (m + 1) F) : ∃ F', F = F' + 60 ∧ c ≤ F' ∧ ∀ d, Fu c m (F' + d) := by
  unfold Fu at h ⊢
  rw [Nat.add_mul (m + 1)] at h
  generalize (m + 1) * 60 = y at h ⊢
  exact ⟨F - 60, by omega, by omega, fun d => by omega⟩
theorem Fu.of {c m F : Nat} (k : Nat) (hk : m ≤ k) (h : (k + 1) * 60 + c ≤ F) : Fu c m F := by
  unfold Fu
  have := Nat.mul_le_mul_right 60 (Nat.succ_le_succ hk)
  exact Nat.le_trans (Nat.add_le_add_right this c) h
theorem wrap_succ60 : ∀ k : Nat, k ≤ 60 → IntKind.i64.wrap ((k : Int) + 1) = ((k + 1 : Nat) : Int) := by decide
end Go.E

namespace Go.E
section
variable {P : Program} {X : Type} {enc : TypeId × Value → X} {W : World}

def lay (P : Program) : List Field → Nat → Nat → Bool
  | [], o, n => o == n
  | f :: r, o, n => f.offset == o && lay P r (o + P.cellsOf f.type) n

/-- Types whose values lie flat: numbers, texts, slices and structs of them. -/
def flat (P : Program) : Nat → TypeId → Bool
  | 0, _ => false
  | m + 1, t => match P.underlying t with
    | some .bool | some (.int _) | some .string => true
    | some (.slice e) => flat P m e && decide (0 < P.cellsOf e)
    | some (.struct fs) => (fs.toList.all fun f => flat P m f.type) && lay P fs.toList 0 (P.cellsOf t)
    | _ => false

/-- How a reading lies in the logical heap. -/
def Rep (P : Program) (H : AHeap) : Nat → TypeId → List Value → DataW X → Prop
  | 0, _, _, _ => False
  | m + 1, t, cs, d => match P.underlying t with
    | some .bool => ∃ b, cs = [.bool b] ∧ d = .lit (.bool b)
    | some (.int k) => ∃ n, cs = [.int k n] ∧ d = .lit (.int k n) ∧ (Lit.int k n).wf = true
    | some .string => ∃ s, cs = [.string s] ∧ d = .lit (.string s.data.toList) ∧ s.size ≤ maxLen
    | some (.slice e) => (cs = [.slice none 0 0] ∧ d = .nil) ∨ (∃ i, cs = [.slice (some ⟨i, 0, some 0⟩) 0 0] ∧ d = .slice [] []) ∨
        ∃ (i len cap : Nat) (elems rest : List (DataW X)) (cjs : List (List Value)) (tt : TypeId) (ee : Nat), cs = [.slice (some ⟨i, 0, none⟩) len cap] ∧ d = .slice elems rest ∧ elems.length = len ∧ len ≤ cap ∧ cap ≤ maxLen ∧ cap ≠ 0 ∧
          H.get i = some (.cells cjs.flatten tt ee true true) ∧ cjs.length = len ∧ (∀ c ∈ cjs, c.length = P.cellsOf e) ∧ ∀ (j : Nat) (c : List Value) (x : DataW X), cjs[j]? = some c → elems[j]? = some x → Rep P H m e c x
    | some (.struct fs) => ∃ (ds : List (DataW X)) (cjs : List (List Value)), d = .agg ds ∧ cs = cjs.flatten ∧ ds.length = fs.size ∧ cjs.length = fs.size ∧ (∀ (j : Nat) (f : Field) (c : List Value), fs[j]? = some f → cjs[j]? = some c → c.length = P.cellsOf f.type) ∧
        ∀ (j : Nat) (f : Field) (c : List Value) (x : DataW X), fs[j]? = some f → cjs[j]? = some c → ds[j]? = some x → Rep P H m f.type c x
    | _ => False

def Grows (H H' : AHeap) : Prop := ∀ i o, H.get i = some o → H'.get i = some o
theorem Grows.refl (H : AHeap) : Grows H H := fun _ _ h => h
theorem Grows.trans {a b c : AHeap} (h : Grows a b) (k : Grows b c) : Grows a c := fun i o x => k i o (h i o x)

theorem Rep.mono {H H' : AHeap} (hg : Grows H H') : ∀ {m : Nat} {t : TypeId} {cs : List Value} {d : DataW X}, Rep P H m t cs d → Rep P H' m t cs d
  | 0, _, _, _, h => h.elim
  | m + 1, t, cs, d, h => by
    unfold Rep at h ⊢
    split at h
    · exact h
    · exact h
    · exact h
    · rcases h with h | h | ⟨i, len, cap, elems, rest, cjs, tt, ee, h1, h2, h3, h4, h5, h6, h7, h8, h9, h10⟩
      · exact .inl h
      · exact .inr (.inl h)
      · exact .inr (.inr ⟨i, len, cap, elems, rest, cjs, tt, ee, h1, h2, h3, h4, h5, h6, hg _ _ h7, h8, h9, fun j c x a b => (h10 j c x a b).mono hg⟩)
    · obtain ⟨ds, cjs, h1, h2, h3, h4, h5, h6⟩ := h
      exact ⟨ds, cjs, h1, h2, h3, h4, h5, fun j f c x a b e => (h6 j f c x a b e).mono hg⟩
    · exact h.elim

theorem flatten_get {s : Nat} (hs : 0 < s) : ∀ (l : List (List Value)), (∀ c ∈ l, c.length = s) → ∀ x, l.flatten[x]? = (l[x / s]?).bind (·[x % s]?)
  | [], _, x => by simp
  | c :: l, h, x => by
    have hc : c.length = s := h c (by simp)
    rw [List.flatten_cons]
    by_cases hx : x < s
    · rw [List.getElem?_append_left (by omega), Nat.div_eq_of_lt hx, Nat.mod_eq_of_lt hx]; rfl
    · rw [List.getElem?_append_right (by omega), hc, flatten_get hs l (fun c hc => h c (List.mem_cons_of_mem _ hc)) (x - s)]
      have e1 : x / s = (x - s) / s + 1 := by rw [Nat.div_eq_sub_div hs (by omega)]
      have e2 : x % s = (x - s) % s := Nat.mod_eq_sub_mod (by omega)
      rw [e1, e2]; rfl

theorem flatten_len {s : Nat} : ∀ (l : List (List Value)), (∀ c ∈ l, c.length = s) → l.flatten.length = l.length * s
  | [], _ => by simp
  | c :: l, h => by
    rw [List.flatten_cons, List.length_append, flatten_len l (fun c hc => h c (List.mem_cons_of_mem _ hc)), h c (by simp), List.length_cons, Nat.add_mul, Nat.one_mul, Nat.add_comm]

theorem lrel_flatten {β : Bt} : ∀ (l r : List (List Value)), l.length = r.length → (∀ (j : Nat) (a b : List Value), l[j]? = some a → r[j]? = some b → LRel β a b) → LRel β l.flatten r.flatten
  | [], [], _, _ => LRel.nil β
  | [], _ :: _, h, _ => by simp at h
  | _ :: _, [], h, _ => by simp at h
  | a :: l, b :: r, h, hr => by
    rw [List.flatten_cons, List.flatten_cons]
    exact (hr 0 a b rfl rfl).append (lrel_flatten l r (by simpa using h) fun j x y p q => hr (j + 1) x y (by simpa using p) (by simpa using q))

theorem lay_flatten {n : Nat} {cs : List Value} (hn : cs.length = n) : ∀ (fs : List Field) (o : Nat), o ≤ n → lay P fs o n = true → (fs.map fun f => (cs.drop f.offset).take (P.cellsOf f.type)).flatten = cs.drop o
  | [], o, _, h => by
    simp only [lay, beq_iff_eq] at h
    simp; omega
  | f :: fs, o, ho, h => by
    simp only [lay, Bool.and_eq_true, beq_iff_eq] at h
    obtain ⟨h1, h2⟩ := h
    by_cases hle : o + P.cellsOf f.type ≤ n
    · have := lay_flatten hn fs (o + P.cellsOf f.type) hle h2
      rw [List.map_cons, List.flatten_cons, this, h1, ← List.drop_drop, List.take_append_drop]
    · exfalso
      have key : ∀ (fs : List Field) (o : Nat), lay P fs o n = true → o ≤ n := by
        intro fs
        induction fs with
        | nil => intro o h; simp only [lay, beq_iff_eq] at h; omega
        | cons g fs ih => intro o h; simp only [lay, Bool.and_eq_true, beq_iff_eq] at h; have := ih _ h.2; omega
      exact hle (key fs _ h2)

theorem lay_le {n : Nat} : ∀ (fs : List Field) (o : Nat), lay P fs o n = true → o ≤ n
  | [], o, h => by simp only [lay, beq_iff_eq] at h; omega
  | g :: fs, o, h => by simp only [lay, Bool.and_eq_true, beq_iff_eq] at h; have := lay_le fs _ h.2; omega
theorem lay_in {n : Nat} : ∀ (fs : List Field) (o : Nat), lay P fs o n = true → ∀ f ∈ fs, f.offset + P.cellsOf f.type ≤ n
  | [], _, _, f, hf => by simp at hf
  | g :: fs, o, h, f, hf => by
    simp only [lay, Bool.and_eq_true, beq_iff_eq] at h
    rcases List.mem_cons.1 hf with e | hf
    · subst e; have := lay_le fs _ h.2; omega
    · exact lay_in fs _ h.2 f hf

/-- A block that is only read comes in. -/
theorem Rel.ro {β : Bt} {H : AHeap} (h : Rel P (heldAll W) W β H W) {p : Pl} {o : AObj} {ro : Obj} (hro : W.heap[p.rb]? = some ro) (hp : p.ro = true) (ho : ORel P (β.upd H.next p) p o ro) :
    Rel P (heldAll W) W (β.upd H.next p) (H.alloc o) W ∧ β.le (β.upd H.next p) ∧ Grows H (H.alloc o) ∧ (H.alloc o).get H.next = some o := by
  have hle := Bt.le_upd p h.nextNone
  have hlt : p.rb < W.heap.size := (Array.getElem?_eq_some_iff.1 hro).1
  have look : ∀ j oj q, (H.alloc o).get j = some oj → β.upd H.next p j = some q → (j = H.next ∧ oj = o ∧ q = p) ∨ (j ≠ H.next ∧ H.get j = some oj ∧ β j = some q) := by
    intro j oj q hj hq
    rw [AHeap.get_alloc] at hj
    unfold Bt.upd at hq
    split at hj
    · rename_i e; cases hj; rw [if_pos e] at hq; cases hq; exact .inl ⟨e, rfl, rfl⟩
    · rename_i e; rw [if_neg e] at hq; exact .inr ⟨e, hj, hq⟩
  have allro : ∀ j oj q, H.get j = some oj → β j = some q → q.ro = true := by
    intro j oj q hj hq
    cases hqr : q.ro with
    | true => rfl
    | false =>
      obtain ⟨q', r, a1, a2, _⟩ := h.live j oj hj
      rw [hq] at a1; cases a1
      have := h.fzsep j oj q hj hq hqr
      simp only [heldAll] at this
      rw [this] at a2; cases a2
  have allro2 : ∀ j oj q, (H.alloc o).get j = some oj → β.upd H.next p j = some q → q.ro = true := by
    intro j oj q hj hq
    rcases look j oj q hj hq with ⟨_, _, e⟩ | ⟨_, h1, h2⟩
    · rw [e]; exact hp
    · exact allro j oj q h1 h2
  refine ⟨⟨fun i q hq => ?_, fun i oi hi => ?_, fun i j oi oj q q' _ hi hj hq hq' hr => ?_, h.fz, fun i oi q hi hq hr => ?_, fun i hi => False.elim hi, fun i oi q hi hq hr => ?_, h.same⟩, hle, fun i oi hi => ?_, ?_⟩
  · rw [AHeap.next_alloc]
    unfold Bt.upd at hq; split at hq
    · omega
    · have := h.dom _ _ hq; omega
  · rw [AHeap.get_alloc] at hi
    split at hi
    · rename_i e; subst e; cases hi; exact ⟨p, ro, Bt.upd_at _ _ _, hro, ho⟩
    · obtain ⟨q, r, h1, h2, h3⟩ := h.live i oi hi
      exact ⟨q, r, hle _ _ h1, h2, h3.mono hle⟩
  · rw [allro2 i oi q hi hq] at hr; cases hr
  · rw [allro2 i oi q hi hq] at hr; cases hr
  · rcases look i oi q hi hq with ⟨_, _, e⟩ | ⟨_, h1, h2⟩
    · rw [e]; exact hlt
    · exact h.old i oi q h1 h2 hr
  · rw [AHeap.get_alloc, if_neg (by have := AHeap.get_lt hi; omega)]; exact hi
  · rw [AHeap.get_alloc, if_pos rfl]

theorem in_list {m : Nat} (one : ∀ (t : TypeId) (n : Nat) (cs : List Value) (d : DataW X) (ps : List MemPlace), flat P m t = true → DataW.trod enc P W 0 (fun _ => true) true n t cs = some (d, ps) →
      ∀ (β : Bt) (H : AHeap), Rel P (heldAll W) W β H W → ∃ β' H' cs', β.le β' ∧ Grows H H' ∧ Rel P (heldAll W) W β' H' W ∧ LRel β' cs' cs ∧ Rep P H' m t cs' d) :
    ∀ (l : List (TypeId × List Value × DataW X)), (∀ x ∈ l, flat P m x.1 = true ∧ ∃ n ps, DataW.trod enc P W 0 (fun _ => true) true n x.1 x.2.1 = some (x.2.2, ps)) →
      ∀ (β : Bt) (H : AHeap), Rel P (heldAll W) W β H W → ∃ (β' : Bt) (H' : AHeap) (cjs : List (List Value)), β.le β' ∧ Grows H H' ∧ Rel P (heldAll W) W β' H' W ∧ cjs.length = l.length ∧
        ∀ (j : Nat) (x : TypeId × List Value × DataW X) (c : List Value), l[j]? = some x → cjs[j]? = some c → LRel β' c x.2.1 ∧ Rep P H' m x.1 c x.2.2
  | [], _, β, H, h => ⟨β, H, [], Bt.le_refl β, Grows.refl H, h, rfl, fun j x c a => by simp at a⟩
  | x :: l, hx, β, H, h => by
    obtain ⟨hf, n, ps, ht⟩ := hx x (by simp)
    obtain ⟨β1, H1, c1, a1, a2, a3, a4, a5⟩ := one _ _ _ _ _ hf ht β H h
    obtain ⟨β2, H2, cjs, b1, b2, b3, b4, b5⟩ := in_list one l (fun y hy => hx y (List.mem_cons_of_mem _ hy)) β1 H1 a3
    refine ⟨β2, H2, c1 :: cjs, Bt.le_trans a1 b1, a2.trans b2, b3, by simp [b4], fun j y c hj hc => ?_⟩
    cases j with
    | zero => simp at hj hc; subst hj; subst hc; exact ⟨a4.mono b1, a5.mono b2⟩
    | succ j => simp at hj hc; exact b5 j y c hj hc

theorem in_one : ∀ (m : Nat) (t : TypeId) (n : Nat) (cs : List Value) (d : DataW X) (ps : List MemPlace), flat P m t = true → DataW.trod enc P W 0 (fun _ => true) true n t cs = some (d, ps) →
    ∀ (β : Bt) (H : AHeap), Rel P (heldAll W) W β H W → ∃ β' H' cs', β.le β' ∧ Grows H H' ∧ Rel P (heldAll W) W β' H' W ∧ LRel β' cs' cs ∧ Rep P H' m t cs' d
  | 0, _, _, _, _, _, hf, _ => by simp [flat] at hf
  | _ + 1, _, 0, _, _, _, _, ht => by simp [DataW.trod] at ht
  | m + 1, t, n + 1, cs, d, ps, hf, ht => by
    intro β H h
    simp only [flat] at hf
    split at hf
    · rename_i hu
      simp only [DataW.trod, hu] at ht
      split at ht <;> (try cases ht)
      all_goals (try (rename_i hx; cases hx; done))
      rename_i b _
      exact ⟨β, H, [.bool b], Bt.le_refl β, Grows.refl H, h, LRel.cons (.bool b) (LRel.nil β), by simp [Rep, hu]⟩
    · rename_i k hu
      simp only [DataW.trod, hu] at ht
      split at ht <;> (try cases ht)
      all_goals (try (rename_i hx; cases hx; done))
      rename_i hx
      split at ht <;> (try cases ht)
      rename_i hk
      obtain ⟨rfl, hk⟩ := hk
      cases hx
      exact ⟨β, H, _, Bt.le_refl β, Grows.refl H, h, LRel.cons (.int _ _) (LRel.nil β), by simp [Rep, hu, hk]⟩
    · rename_i hu
      simp only [DataW.trod, hu] at ht
      split at ht <;> (try cases ht)
      all_goals (try (rename_i hx; cases hx; done))
      split at ht <;> (try cases ht)
      rename_i hk
      exact ⟨β, H, _, Bt.le_refl β, Grows.refl H, h, LRel.cons (.string _) (LRel.nil β), by simp [Rep, hu, hk]⟩
    · rename_i e hu
      simp only [Bool.and_eq_true, decide_eq_true_eq] at hf
      obtain ⟨hf, hs⟩ := hf
      simp only [DataW.trod, hu] at ht
      split at ht <;> (try cases ht)
      all_goals (try (rename_i hx; cases hx; done))
      · exact ⟨β, H, [.slice none 0 0], Bt.le_refl β, Grows.refl H, h, LRel.cons .slN (LRel.nil β), by simp [Rep, hu]⟩
      · rename_i e2 a len cap hx
        cases hx
        split at ht <;> (try cases ht)
        rename_i hc
        obtain ⟨_, hlc, hcm⟩ := hc
        obtain ⟨elems, hel, ht⟩ := bind_some ht
        obtain ⟨rest, hre, e0⟩ := map_some ht
        rw [if_pos trivial] at hre
        cases e0
        have hl1 := mapM_some_length hel
        have hl2 := mapM_some_length hre
        simp only [List.length_range] at hl1 hl2
        by_cases hc0 : cap = 0
        · subst hc0
          have : len = 0 := by omega
          subst this
          have e1 : elems = [] := List.length_eq_zero_iff.1 hl1
          have e2 : rest = [] := List.length_eq_zero_iff.1 (by omega)
          subst e1; subst e2
          exact ⟨β, H, [.slice (some ⟨0, 0, some 0⟩) 0 0], Bt.le_refl β, Grows.refl H, h, LRel.cons (.slE 0 0 a) (LRel.nil β), by simp [Rep, hu]⟩
        -- each element's cells
        have cell : ∀ j, j < cap → ∃ csj, W.cells? 0 (a.add (j * P.cellsOf e)) (P.cellsOf e) = some csj := by
          intro j hj
          by_cases hjl : j < len
          · have := mapM_some_get hel j j (by simp [hjl])
            rw [List.getElem?_eq_getElem (by omega)] at this
            obtain ⟨csj, h1, _⟩ := bind_some this
            exact ⟨csj, h1⟩
          · have := mapM_some_get hre (j - len) (j - len) (List.getElem?_range (by omega))
            rw [List.getElem?_eq_getElem (by omega)] at this
            obtain ⟨csj, h1, _⟩ := bind_some this
            rw [show len + (j - len) = j by omega] at h1
            exact ⟨csj, h1⟩
        obtain ⟨ab, ao, asp⟩ := a
        have blk : asp = none ∧ ∃ rc tt fr, W.heap[ab]? = some (.cells rc tt fr) := by
          obtain ⟨cs0, h0⟩ := cell 0 (by omega)
          obtain ⟨_, h2, h3⟩ := World.cells?_some h0
          have h4 := h3 0 hs
          rw [List.getElem?_eq_getElem (by omega)] at h4
          simp only [Nat.zero_mul, Addr.add, if_true] at h4
          unfold World.cell? at h4
          simp only at h4
          split at h4 <;> (try cases h4)
          rename_i rc tt fr hh
          refine ⟨?_, rc, tt, fr, hh⟩
          cases asp with
          | none => rfl
          | some x => simp at h4
        obtain ⟨rfl, rc, tt, fr, hh⟩ := blk
        have cellat : ∀ x, W.cell? ⟨ab, ao + x, none⟩ = rc[ao + x]? := by
          intro x; unfold World.cell?; simp [hh]
        have addp : ∀ x : Nat, (⟨ab, ao, none⟩ : Addr).add x = ⟨ab, ao + x, none⟩ := by
          intro x; unfold Addr.add; split
          · rename_i h0; subst h0; rfl
          · rfl
        have addp2 : ∀ x y : Nat, (⟨ab, ao + x, none⟩ : Addr).add y = ⟨ab, ao + (x + y), none⟩ := by
          intro x y; unfold Addr.add; split
          · rename_i h0; subst h0; rfl
          · simp [Nat.add_assoc]
        have csat : ∀ j csj, W.cells? 0 ((⟨ab, ao, none⟩ : Addr).add (j * P.cellsOf e)) (P.cellsOf e) = some csj → csj.length = P.cellsOf e ∧ ∀ y, y < P.cellsOf e → csj[y]? = rc[ao + (j * P.cellsOf e + y)]? := by
          intro j csj hj
          obtain ⟨_, h2, h3⟩ := World.cells?_some hj
          refine ⟨h2, fun y hy => ?_⟩
          have := h3 y hy
          rw [addp, addp2, cellat] at this
          exact this.symm
        have hbnd : ao + len * P.cellsOf e ≤ rc.size := by
          obtain ⟨csj, h1⟩ := cell (cap - 1) (by omega)
          obtain ⟨h2, h3⟩ := csat _ _ h1
          have h4 := h3 (P.cellsOf e - 1) (by omega)
          rw [List.getElem?_eq_getElem (by omega)] at h4
          have h5 := (Array.getElem?_eq_some_iff.1 h4.symm).1
          have h6 : len * P.cellsOf e ≤ cap * P.cellsOf e := Nat.mul_le_mul_right _ hlc
          have h7 : cap * P.cellsOf e = (cap - 1) * P.cellsOf e + P.cellsOf e := by
            conv => lhs; rw [show cap = (cap - 1) + 1 by omega]
            rw [Nat.add_mul, Nat.one_mul]
          omega
        let l : List (TypeId × List Value × DataW X) := ((List.range len).zip elems).map fun p => (e, (W.cells? 0 ((⟨ab, ao, none⟩ : Addr).add (p.1 * P.cellsOf e)) (P.cellsOf e)).getD [], p.2.1)
        have hll : l.length = len := by simp [l, hl1]
        have lat : ∀ (j : Nat) (x : TypeId × List Value × DataW X), l[j]? = some x → ∃ (y : DataW X × List MemPlace) (csj : List Value), elems[j]? = some y ∧ j < len ∧ x = (e, csj, y.1) ∧ W.cells? 0 ((⟨ab, ao, none⟩ : Addr).add (j * P.cellsOf e)) (P.cellsOf e) = some csj ∧ DataW.trod enc P W 0 (fun _ => true) true n e csj = some y := by
          intro j x hj
          simp only [l, List.getElem?_map] at hj
          obtain ⟨q, hq, e3⟩ := map_some hj
          obtain ⟨q1, q2⟩ := q
          rw [List.getElem?_zip_eq_some] at hq
          obtain ⟨hq1, hq2⟩ := hq
          obtain ⟨hjl, hq1⟩ := List.getElem?_eq_some_iff.1 hq1
          simp at hjl hq1
          subst hq1
          have := mapM_some_get hel j j (by simp [hjl])
          rw [hq2] at this
          obtain ⟨csj, h1, h2⟩ := bind_some this
          refine ⟨q2, csj, hq2, hjl, ?_, h1, h2⟩
          rw [← e3]; simp only [h1, Option.getD_some]
        obtain ⟨β1, H1, cjs, a1, a2, a3, a4, a5⟩ := in_list (in_one m) l (fun x hx => by
          obtain ⟨j, hj⟩ := List.getElem?_of_mem hx
          obtain ⟨y, csj, _, _, rfl, _, h2⟩ := lat j x hj
          exact ⟨hf, n, y.2, h2⟩) β H h
        have hcl : ∀ c ∈ cjs, c.length = P.cellsOf e := by
          intro c hc
          obtain ⟨j, hj⟩ := List.getElem?_of_mem hc
          have hjl : j < l.length := by rw [← a4]; exact (List.getElem?_eq_some_iff.1 hj).1
          obtain ⟨y, csj, _, _, e4, h1, _⟩ := lat j l[j] (List.getElem?_eq_getElem hjl)
          have := (a5 j l[j] c (List.getElem?_eq_getElem hjl) hj).1.1
          rw [e4] at this
          rw [this]; exact (csat j csj h1).1
        have hfl : cjs.flatten.length = len * P.cellsOf e := by rw [flatten_len cjs hcl, a4, hll]
        have pt : ∀ (x : Nat) (v v' : Value), cjs.flatten[x]? = some v → rc[ao + x]? = some v' → VRel (β1.upd H1.next ⟨ab, ao, rc.size, P.cellsOf e, true, true⟩) v v' := by
          intro x v v' hx hv
          rw [flatten_get hs cjs hcl] at hx
          obtain ⟨c, hc, hcx⟩ := bind_some hx
          have hjl : x / P.cellsOf e < l.length := by rw [← a4]; exact (List.getElem?_eq_some_iff.1 hc).1
          obtain ⟨y, csj, _, _, e4, h1, _⟩ := lat _ _ (List.getElem?_eq_getElem hjl)
          have hl := (a5 _ _ c (List.getElem?_eq_getElem hjl) hc).1
          rw [e4] at hl
          have hm : x % P.cellsOf e < P.cellsOf e := Nat.mod_lt _ hs
          have h2 := (csat _ _ h1).2 _ hm
          rw [Nat.mul_comm, Nat.div_add_mod] at h2
          exact (hl.2 _ v v' hcx (by rw [h2]; exact hv)).mono (Bt.le_upd _ a3.nextNone)
        obtain ⟨b1, b2, b3, b4⟩ := a3.ro (p := ⟨ab, ao, rc.size, P.cellsOf e, true, true⟩) (o := .cells cjs.flatten tt (P.cellsOf e) true true) hh rfl
          ⟨rc, fr, rfl, rfl, rfl, rfl, rfl, (by show ao + cjs.flatten.length ≤ rc.size; omega), pt, fun e => by cases e⟩
        refine ⟨_, _, [.slice (some ⟨H1.next, 0, none⟩) len cap], Bt.le_trans a1 b2, a2.trans b3, b1, LRel.cons (.sl (Bt.upd_at _ _ _) hlc (Nat.le_refl _) (.inr rfl) (fun _ => rfl) (fun e => by cases e)) (LRel.nil _), ?_⟩
        unfold Rep
        rw [hu]
        refine .inr (.inr ⟨H1.next, len, cap, _, _, cjs, tt, P.cellsOf e, rfl, rfl, by simp [hl1], hlc, hcm, hc0, b4, by rw [a4, hll], hcl, fun j c x hj hx => ?_⟩)
        have hjl : j < l.length := by rw [← a4]; exact (List.getElem?_eq_some_iff.1 hj).1
        obtain ⟨y, csj, h1, _, e4, _, _⟩ := lat j l[j] (List.getElem?_eq_getElem hjl)
        have := (a5 j l[j] c (List.getElem?_eq_getElem hjl) hj).2
        rw [e4] at this
        rw [List.getElem?_map, h1] at hx
        cases hx
        exact this.mono b3
    · rename_i fs hu
      simp only [Bool.and_eq_true] at hf
      obtain ⟨hf, hlay⟩ := hf
      simp only [DataW.trod, hu] at ht
      split at ht <;> (try cases ht)
      all_goals (try (rename_i hx; cases hx; done))
      rename_i hlen
      obtain ⟨xs, hxs, e0⟩ := map_some ht
      cases e0
      have hl1 := mapM_some_length hxs
      let l : List (TypeId × List Value × DataW X) := (fs.toList.zip xs).map fun p => (p.1.type, (cs.drop p.1.offset).take (P.cellsOf p.1.type), p.2.1)
      have hll : l.length = fs.size := by simp [l, hl1]
      have lat : ∀ (j : Nat) (x : TypeId × List Value × DataW X), l[j]? = some x → ∃ (f : Field) (y : DataW X × List MemPlace), fs[j]? = some f ∧ xs[j]? = some y ∧ x = (f.type, (cs.drop f.offset).take (P.cellsOf f.type), y.1) ∧ DataW.trod enc P W 0 (fun _ => true) true n f.type ((cs.drop f.offset).take (P.cellsOf f.type)) = some y := by
        intro j x hj
        simp only [l, List.getElem?_map] at hj
        obtain ⟨q, hq, e3⟩ := map_some hj
        obtain ⟨q1, q2⟩ := q
        rw [List.getElem?_zip_eq_some] at hq
        obtain ⟨hq1, hq2⟩ := hq
        have := mapM_some_get hxs j q1 hq1
        rw [hq2] at this
        exact ⟨q1, q2, by simpa using hq1, hq2, e3.symm, this⟩
      obtain ⟨β1, H1, cjs, a1, a2, a3, a4, a5⟩ := in_list (in_one m) l (fun x hx => by
        obtain ⟨j, hj⟩ := List.getElem?_of_mem hx
        obtain ⟨f, y, h1, _, rfl, h2⟩ := lat j x hj
        exact ⟨(List.all_eq_true.1 hf) f (List.mem_of_getElem? (i := j) (by simpa using h1)), n, y.2, h2⟩) β H h
      have e5 : (l.map (·.2.1)).flatten = cs := by
        have e6 : l.map (·.2.1) = fs.toList.map fun f => (cs.drop f.offset).take (P.cellsOf f.type) := by
          have : l.map (·.2.1) = ((fs.toList.zip xs).map Prod.fst).map fun f => (cs.drop f.offset).take (P.cellsOf f.type) := by simp [l, List.map_map]
          rw [this, List.map_fst_zip (by omega)]
        rw [e6, lay_flatten hlen fs.toList 0 (Nat.zero_le _) hlay]
        exact List.drop_zero
      have hrel : LRel β1 cjs.flatten cs := by
        rw [← e5]
        refine lrel_flatten cjs _ (by simp [a4]) fun j x y hx hy => ?_
        rw [List.getElem?_map] at hy
        obtain ⟨z, hz, e7⟩ := map_some hy
        subst e7
        exact (a5 j z x hz hx).1
      refine ⟨β1, H1, cjs.flatten, a1, a2, a3, hrel, ?_⟩
      unfold Rep
      rw [hu]
      refine ⟨_, cjs, rfl, rfl, by simp [hl1], by rw [a4, hll], fun j f c hf2 hc => ?_, fun j f c x hf2 hc hx => ?_⟩
      · have hjl : j < l.length := by rw [← a4]; exact (List.getElem?_eq_some_iff.1 hc).1
        obtain ⟨f2, y, h1, _, e4, h2⟩ := lat j l[j] (List.getElem?_eq_getElem hjl)
        rw [hf2] at h1; cases h1
        have h3 := (a5 j l[j] c (List.getElem?_eq_getElem hjl) hc).1.1
        rw [e4] at h3
        have h4 := lay_in fs.toList 0 hlay f (List.mem_of_getElem? (i := j) (by simpa using hf2))
        simp only [List.length_take, List.length_drop] at h3
        omega
      · have hjl : j < l.length := by rw [← a4]; exact (List.getElem?_eq_some_iff.1 hc).1
        obtain ⟨f2, y, h1, h2, e4, _⟩ := lat j l[j] (List.getElem?_eq_getElem hjl)
        rw [hf2] at h1; cases h1
        have h3 := (a5 j l[j] c (List.getElem?_eq_getElem hjl) hc).2
        rw [e4] at h3
        rw [List.getElem?_map, h2] at hx
        cases hx
        exact h3
    · cases hf
end
end Go.E

namespace Go.E
open Go.ChangeShapes Go.WideShapes Go.ChangeAt Go.RowKit

/-- What a call with such arguments comes to: v; nothing that was there has turned. -/
def Ans (P : Program) (f : FuncId) (args : Array Value) (w : World) (v : Value) : Prop :=
  (callFunc f args).run P w = .ok (.enter f args) w ∧ ∀ n, CallsIn Fence.wide n P f args w fun e w' => e = .returned v ∧ Below w.heap.size w w'

theorem clo1_inv {β : Bt} {v v' : Value} (h : clo1 v = true) (hr : VRel β v v') : v' = v := by
  unfold clo1 at h
  split at h <;> first | (cases hr; rfl; done) | cases h
theorem clo_inv {β : Bt} {v v' : Value} (h : clo v = true) (hr : VRel β v v') : v' = v := by
  unfold clo at h
  split at h
  · rename_i cs
    rw [List.all_eq_true] at h
    obtain ⟨cs', rfl, hl⟩ := hr.aggList
    congr 1
    apply Array.ext
    · have := hl.1; simpa using this.symm
    · intro i h1 h2
      refine clo1_inv (β := β) (h cs[i] (by simp)) (hl.2 i cs[i] cs'[i] ?_ ?_)
      · simp
      · simp
  · exact clo1_inv h hr
theorem clos_inv {β : Bt} : ∀ {l l' : List Value}, l.all clo = true → LRel β l l' → l' = l
  | [], l', _, h => List.length_eq_zero_iff.1 (by have := h.1; simpa using this.symm)
  | v :: l, [], _, h => by have := h.1; simp at this
  | v :: l, v' :: l', hc, h => by
    simp only [List.all_cons, Bool.and_eq_true] at hc
    have h1 := clo_inv hc.1 (h.2 0 v v' rfl rfl)
    have h2 := clos_inv (l := l) (l' := l') hc.2 ⟨by have := h.1; simpa using this, fun i u u' a b => h.2 (i + 1) u u' (by simpa using a) (by simpa using b)⟩
    rw [h1, h2]
theorem clos_rel (β : Bt) : ∀ {l : List Value}, l.all clo = true → LRel β l l
  | [], _ => LRel.nil β
  | v :: l, h => by
    simp only [List.all_cons, Bool.and_eq_true] at h
    exact LRel.cons (clo_rel β h.1) (clos_rel β h.2)

def same1 : Value → Value → Bool
  | .bool a, .bool b => a == b
  | .int j a, .int k b => j == k && a == b
  | .string a, .string b => a.data.toList == b.data.toList
  | .pointer none, .pointer none => true
  | .slice none 0 0, .slice none 0 0 => true
  | .map none, .map none => true
  | .nilFunc, .nilFunc => true
  | .nilIface, .nilIface => true
  | _, _ => false
def sames : List Value → List Value → Bool
  | [], [] => true
  | a :: as, b :: bs => same1 a b && sames as bs
  | _, _ => false
def samev : Value → Value → Bool
  | .agg a, .agg b => sames a.toList b.toList
  | .tuple a, .tuple b => sames a.toList b.toList
  | a, b => same1 a b

theorem same1_eq {v u : Value} (h : same1 v u = true) : u = v := by
  unfold same1 at h
  split at h <;> first | rfl | (cases h; done) | skip
  · simp at h; rw [h]
  · simp at h; rw [h.1, h.2]
  · rename_i a b
    simp only [beq_iff_eq] at h
    congr 1
    cases a; cases b
    simp only [ByteArray.mk.injEq]
    exact (Array.toList_inj.1 h).symm
theorem sames_eq : ∀ {l m : List Value}, sames l m = true → m = l
  | [], [], _ => rfl
  | [], _ :: _, h => by simp [sames] at h
  | _ :: _, [], h => by simp [sames] at h
  | a :: l, b :: m, h => by
    simp only [sames, Bool.and_eq_true] at h
    rw [same1_eq h.1, sames_eq h.2]
theorem samev_eq {v u : Value} (h : samev v u = true) : u = v := by
  unfold samev at h
  split at h
  · have := sames_eq h
    congr 1; exact Array.toList_inj.1 this
  · have := sames_eq h
    congr 1; exact Array.toList_inj.1 this
  · exact same1_eq h

/-- The value that a call comes to. -/
def comes (v : Value) : CRes → AHeap → Bool := fun r _ => match r with | .ret u => samev v u | _ => false
theorem comes_spec {v : Value} {r : CRes} {H : AHeap} (h : comes v r H = true) : r = .ret v := by
  unfold comes at h
  split at h
  · rw [samev_eq h]
  · cases h

theorem ans_of_ev {P : Program} {T : Tab} (hT : TabOk P T) {w : World} {β : Bt} {H : AHeap} {f : FuncId} {args : List Value} {args' : Array Value} {v : Value} (N : Nat) (hv : clo v = true) (h : Rel P (heldAll w) w β H w) (hl : LRel β args args'.toList)
    (hk : (evN T N).call f args H fun r _ => r = .ret v) : Ans P f args' w v := by
  obtain ⟨h1, h2⟩ := ev_sound hT N (heldAll w) w β H w f args args' _ h hl hk
  refine ⟨h1, fun n => (h2 n).mono ?_⟩
  rintro e w' ⟨cr, H', β', rfl, _, hrel, hr⟩
  refine ⟨?_, hrel.below⟩
  cases e <;> simp only at hr <;> (try exact hr.elim)
  rw [clo_inv hv hr]
theorem ans_of_run {P : Program} {T : Tab} (hT : TabOk P T) {w : World} {β : Bt} {H : AHeap} {f : FuncId} {args : List Value} {args' : Array Value} {v : Value} (N : Nat) (hv : clo v = true) (h : Rel P (heldAll w) w β H w) (hl : LRel β args args'.toList)
    (hk : (evN (R := Bool) T N).call f args H (comes v) = true) : Ans P f args' w v :=
  ans_of_ev hT N hv h hl ((ev_tr T N).call _ _ _ _ _ hk fun _ _ h => comes_spec h)

theorem ans_prim {P : Program} {f : FuncId} {args' : Array Value} {w : World} {v : Value} (hv : clo v = true) (ha : Ans P f args' w v) {Fz : Fr} {w0 : World} {β : Bt} {H : AHeap} (hrel : Rel P Fz w0 β H w) :
    (callFunc f args').run P w = .ok (.enter f args') w ∧ ∀ n, CallsIn Fence.wide n P f args' w (ROk P Fz w0 β fun r' H2 => r' = .ret v ∧ H2 = H) := by
  obtain ⟨h1, h2⟩ := ha
  refine ⟨h1, fun n => (h2 n).mono ?_⟩
  rintro e w' ⟨rfl, hb⟩
  exact ⟨_, _, β, ⟨rfl, rfl⟩, Bt.le_refl β, hrel.grow hb, clo_rel β hv⟩

/-- A block of which no value holds an address. -/
structure Blk where
  c : List Value
  t : TypeId
  e : Nat
  ex : Bool
def Blk.obj (b : Blk) (ro : Bool) : AObj := .cells b.c b.t b.e b.ex ro

/-- Calls whose arguments, but for the first one, hold no address; the first one is a nil pointer, or one to such a block as 'b', that is only read. -/
def ptrP (b : Blk) (qn qb : List Value → Option Value) : List Value → AHeap → Option (CRes × AHeap) := fun args H => match args with
  | .pointer none :: rest => if rest.all clo then (qn rest).map fun v => (.ret v, H) else none
  | .pointer (some ⟨i, 0, none⟩) :: rest => match H.get i with
    | some (.cells c t e ex false) => if sames b.c c && t == b.t && e == b.e && ex == b.ex && rest.all clo then (qb rest).map fun v => (.ret v, H) else none
    | _ => none
  | _ => none

theorem prim_ptr {P : Program} {T : Tab} (hT : TabOk P T) {f : FuncId} {b : Blk} {qn qb : List Value → Option Value} (hb : b.c.all clo1 = true)
    (hn : ∀ rest v, rest.all clo = true → qn rest = some v → clo v = true ∧ ∃ N, (evN T N).call f (.pointer none :: rest) ⟨[]⟩ fun r _ => r = .ret v)
    (hq : ∀ rest v, rest.all clo = true → qb rest = some v → clo v = true ∧ ∃ N, (evN T N).call f (.pointer (some ⟨0, 0, none⟩) :: rest) ⟨[some (b.obj true)]⟩ fun r _ => r = .ret v) : PrimOk P f (ptrP b qn qb) := by
  intro Fz w0 β H w args args' r H' hrel hl hp
  unfold ptrP at hp
  split at hp
  · rename_i rest
    split at hp <;> (try cases hp)
    rename_i hc
    obtain ⟨v, hv, e⟩ := map_some hp
    cases e
    obtain ⟨hv1, N, hk⟩ := hn rest v hc hv
    have hargs : args'.toList = .pointer none :: rest := clos_inv (by simp only [List.all_cons, hc, Bool.and_true]; rfl) hl
    exact ans_prim hv1 (ans_of_ev hT N hv1 (Rel.start P w) (by rw [hargs]; exact clos_rel _ (by simp only [List.all_cons, hc, Bool.and_true]; rfl)) hk) hrel
  · rename_i i rest
    split at hp <;> (try cases hp)
    rename_i c t e ex hg
    split at hp <;> (try cases hp)
    rename_i hs
    simp only [Bool.and_eq_true, beq_iff_eq] at hs
    obtain ⟨⟨⟨⟨hs, rfl⟩, rfl⟩, rfl⟩, hc⟩ := hs
    obtain ⟨v, hv, e⟩ := map_some hp
    cases e
    obtain ⟨hv1, N, hk⟩ := hq rest v hc hv
    have hcc := sames_eq hs
    subst hcc
    obtain ⟨p, ro, hp1, hp2, rc, fr, rfl, e1, e2, e3, e4, e5, e6, e7⟩ := hrel.live i _ hg
    have hst := Rel.start P w
    have ho : ORel P (noneB.upd 0 { p with ro := true }) { p with ro := true } (b.obj true) (.cells rc b.t fr) :=
      ⟨rc, fr, rfl, e1, e2, rfl, e4, e5, fun j v v' a a' => by
        have h1 := clo1_inv (List.all_eq_true.1 hb v (List.mem_of_getElem? a)) (e6 j v v' a a')
        rw [h1]; exact clo1_rel _ (List.all_eq_true.1 hb v (List.mem_of_getElem? a)), fun e => by cases e⟩
    obtain ⟨a1, a2, a3, a4⟩ := hst.ro (p := { p with ro := true }) (o := b.obj true) hp2 rfl ho
    obtain ⟨u, hu, hu2⟩ := hl.get (i := 0) (v := .pointer (some ⟨i, 0, none⟩)) rfl
    obtain ⟨q, hq1, rfl⟩ := hu2.invPtr
    rw [hp1] at hq1; cases hq1
    obtain ⟨x, xs, hx⟩ : ∃ x xs, args'.toList = x :: xs := by
      cases hh : args'.toList with
      | nil => rw [hh] at hu; simp at hu
      | cons x xs => exact ⟨x, xs, rfl⟩
    rw [hx] at hu hl
    simp at hu
    subst hu
    have hxs : xs = rest := clos_inv hc (β := β) ⟨by have := hl.1; simpa using this, fun j u u' a b => hl.2 (j + 1) u u' (by simpa using a) (by simpa using b)⟩
    subst hxs
    refine ans_prim hv1 (ans_of_ev hT N hv1 a1 ?_ hk) hrel
    rw [hx]
    exact LRel.cons (VRel.ptr (p := { p with ro := true }) 0 (Bt.upd_at _ _ _)) (clos_rel _ hc)
  · cases hp

theorem ptr_nil {b : Blk} {qn qb : List Value → Option Value} {rest : List Value} {v : Value} {H : AHeap} (hc : rest.all clo = true) (h : qn rest = some v) : ptrP b qn qb (.pointer none :: rest) H = some (.ret v, H) := by
  simp only [ptrP, hc, if_true, h, Option.map_some]
theorem ptr_blk {b : Blk} {qn qb : List Value → Option Value} {rest : List Value} {v : Value} {H : AHeap} {i : Nat} (hg : H.get i = some (b.obj false)) (hs : sames b.c b.c = true) (hc : rest.all clo = true) (h : qb rest = some v) :
    ptrP b qn qb (.pointer (some ⟨i, 0, none⟩) :: rest) H = some (.ret v, H) := by
  simp only [ptrP, hg, Blk.obj, hs, beq_self_eq_true, Bool.and_self, hc, if_true, h, Option.map_some]
end Go.E
