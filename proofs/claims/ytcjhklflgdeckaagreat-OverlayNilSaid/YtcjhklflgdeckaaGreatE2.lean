/- The soundness of the evaluator E for whole functions, in whatever order a region draws; what a row asks of a call that comes to true; no condition. -/
import Derived.Lib.Bytealg
import Derived.Test.YtcjhklflgdeckaaGreatE1
namespace Go.E
section
variable {P : Program} {Fz : Fr} {w0 : World} {β : Bt} {H H' : AHeap} {w : World} {env : Env} {a : Act} {o : Oper} {res : Res}

theorem growBy_le (n : Nat) : ∀ (r c : Nat), c < n → 256 ≤ c → Builtin.growBy n r c ≤ 3 * n
  | 0, c, h, _ => by simp only [Builtin.growBy]; omega
  | r + 1, c, h, hc => by
    simp only [Builtin.growBy]
    rw [if_neg (by omega)]
    by_cases h2 : c + (c + 768) / 4 < n
    · exact growBy_le n r _ h2 (by omega)
    · have key : ∀ r c', n ≤ c' → Builtin.growBy n r c' = c' := by
        intro r c' hc'
        cases r with
        | zero => rfl
        | succ r => simp only [Builtin.growBy]; rw [if_pos hc']
      rw [key _ _ (by omega)]
      omega
theorem nextcap_le {n c : Nat} (h : c < n) : Builtin.nextslicecap n c ≤ 3 * n := by
  unfold Builtin.nextslicecap
  split
  · omega
  · split
    · omega
    · exact growBy_le n 4 c h (by omega)

theorem drewRel (h : Rel P Fz w0 β H w) : Rel P Fz w0 β H w.drew := h.drew _

theorem src_kinds {u : TypeDesc} (h : isSrc u = true) : (∃ e, u = .slice e) ∨ u = .string := by
  cases u <;> first | (exact .inl ⟨_, rfl⟩) | (exact .inr rfl) | cases h

theorem run_append_in {t tx e ty : TypeId} {u : TypeDesc} {i : TypeInfo} {ad : Option Addr} {len rc n : Nat} {x : Value} {new : Array Value} {w' : World}
    (ht : P.underlying t = some (.slice e)) (hx : P.underlying tx = some u) (hu : isSrc u = true) (hi : P.info? e = some i)
    (hn : (Builtin.lenOf x).run P w = .ok n w) (hc : (Builtin.firstCells i.size n x).run P w = .ok new w) (hle : len + n ≤ rc)
    (hst : (match ad with | some a => Go.storeCells (a.add (len * i.size)) new.toList | none => pure ()).run P w = .ok () w') :
    (Builtin.append_ #[t, tx] ty #[.slice ad len rc, x]).run P w = .ok (.slice ad (len + n) rc) w' := by
  unfold Builtin.append_
  cases ad with
  | none =>
    simp only at hst
    simp at hst; subst hst
    rcases src_kinds hu with ⟨e', rfl⟩ | rfl <;> simp [run_und ht, run_size hi, run_und hx, hn, hle, hc]
  | some ad =>
    simp only at hst
    rcases src_kinds hu with ⟨e', rfl⟩ | rfl <;> simp [run_und ht, run_size hi, run_und hx, hn, hle, hc, hst]

theorem run_append_new {t tx e ty : TypeId} {u : TypeDesc} {i : TypeInfo} {z : Value} {ad : Option Addr} {len rc n : Nat} {x : Value} {old new : Array Value}
    (ht : P.underlying t = some (.slice e)) (hx : P.underlying tx = some u) (hu : isSrc u = true) (hi : P.info? e = some i) (hz : i.zero = some z) (hb : i.bytes ≠ 0)
    (hn : (Builtin.lenOf x).run P w = .ok n w) (hc : (Builtin.firstCells i.size n x).run P w.drew = .ok new w.drew) (ho : (Builtin.firstCells i.size len (.slice ad len rc)).run P w.drew = .ok old w.drew)
    (hlt : rc < len + n) (hbound : (len + n) * i.bytes ≤ maxB) :
    ∃ nc, len + n ≤ nc ∧ (Builtin.append_ #[t, tx] ty #[.slice ad len rc, x]).run P w =
      .ok (.slice (some ⟨w.heap.size, 0, none⟩) (len + n) nc) { w.drew with heap := w.heap.push (.cells (old ++ new ++ Builtin.zeroCells z.cells (nc - (len + n))) e) } := by
  refine ⟨(len + n) + w.tape w.drawn (.appendCap (len + n) rc e) % (2 ^ 63 - (len + n)), by omega, ?_⟩
  have hcap := nextcap_le hlt
  have h48 : ¬ (281474976710656 < Builtin.nextslicecap (len + n) rc * i.bytes) := by
    have h1 : Builtin.nextslicecap (len + n) rc * i.bytes ≤ 3 * (len + n) * i.bytes := Nat.mul_le_mul_right _ hcap
    have h2 : 3 * (len + n) * i.bytes = 3 * ((len + n) * i.bytes) := by rw [Nat.mul_assoc]
    unfold maxB at hbound
    omega
  have hnle : ¬ (len + n ≤ rc) := by omega
  unfold Builtin.append_
  rcases src_kinds hu with ⟨e', rfl⟩ | rfl <;>
    (simp [run_und ht, run_size hi, run_und hx, hn, hnle, run_info hi, hb, h48, Question.forced, Question.cut, ho, hc, run_zero hi hz, newRow]; rfl)

theorem src_len {size n : Nat} {v : Value} {cs : List Value} (hl : srcLen v = some n) (hs : srcCells H size n v = some cs) : cs.length = n * size := by
  unfold srcCells at hs
  split at hs
  · cases hs; simp only [srcLen] at hl; cases hl; first | rfl | simp
  · split at hs <;> (try cases hs)
    unfold piece at hs
    split at hs <;> (try cases hs)
    simp only [srcLen] at hl; cases hl
    simp; omega
  · split at hs <;> (try cases hs)
    rename_i s hsz
    simp only [srcLen] at hl; cases hl
    have : s.data.toList.length = s.size := by simp
    simp [hsz, this]
  · cases hs

/-- A new row behind an append. -/
theorem newRow_snd (h : Rel P Fz w0 β H w) {c : List Value} {c' rest : Array Value} {t : TypeId} (e k n nc : Nat) (hl : LRel β c c'.toList) (hn : n ≤ nc) (hsz : c'.size + rest.size = nc * e) :
    ∃ β', β.le β' ∧ VRel β' (.slice (some ⟨H.next, 0, none⟩) n n) (.slice (some ⟨w.heap.size, 0, none⟩) n nc) ∧
      Rel P Fz w0 β' (H.alloc (.cells c t e false false)) { w with drawn := k, heap := w.heap.push (.cells (c' ++ rest) t) } := by
  have hle := Bt.le_upd ⟨w.heap.size, 0, (c' ++ rest).size, e, false, false⟩ h.nextNone
  refine ⟨_, hle, .sl (p := ⟨w.heap.size, 0, (c' ++ rest).size, e, false, false⟩) (Bt.upd_at _ _ _) (Nat.le_refl _) hn (.inr rfl) (fun e => by cases e) (fun _ => by simp; omega),
    (h.drew k).alloc (ro := .cells (c' ++ rest) t) rfl rfl ⟨c' ++ rest, (0, 0), rfl, rfl, rfl, rfl, rfl, by have := hl.1; simp at this; simp; omega, fun j v v' a b => ?_, fun _ => .inl rfl⟩⟩
  have hj : j < c'.size := by have h1 := (List.getElem?_eq_some_iff.1 a).1; have h2 := hl.1; simp at h2; omega
  simp only [Nat.zero_add] at b
  rw [Array.getElem?_append_left hj] at b
  exact (hl.2 j v v' a (by simpa using b)).mono hle

theorem zeroCells_size (z : Array Value) (n : Nat) : (Builtin.zeroCells z n).size = n * z.size := by simp [Builtin.zeroCells]

/-- What an append of such a source does really. -/
structure AppSrc (P : Program) (β : Bt) (w : World) (t tx ty : TypeId) (e : TypeId) (i : TypeInfo) (z : Value) (n : Nat) (new : List Value) (x : Value) : Prop where
  inside : ∃ new' : Array Value, LRel β new new'.toList ∧ ∀ {ad : Option Addr} {len rc : Nat} {w' : World}, len + n ≤ rc → (match ad with | some a => Go.storeCells (a.add (len * i.size)) new'.toList | none => pure ()).run P w = .ok () w' →
    (Builtin.append_ #[t, tx] ty #[.slice ad len rc, x]).run P w = .ok (.slice ad (len + n) rc) w'
  grown : ∃ new' : Array Value, LRel β new new'.toList ∧ ∀ {ad : Option Addr} {len rc : Nat} {old : Array Value}, (Builtin.firstCells i.size len (.slice ad len rc)).run P w.drew = .ok old w.drew → rc < len + n → (len + n) * i.bytes ≤ maxB →
    ∃ nc, len + n ≤ nc ∧ (Builtin.append_ #[t, tx] ty #[.slice ad len rc, x]).run P w =
      .ok (.slice (some ⟨w.heap.size, 0, none⟩) (len + n) nc) { w.drew with heap := w.heap.push (.cells (old ++ new' ++ Builtin.zeroCells z.cells (nc - (len + n))) e) }

theorem snd_appendN (h : Rel P Fz w0 β H w) {sv sv' x' v : Value} (hr : VRel β sv sv') {t tx ty e : TypeId} {i : TypeInfo} {z : Value} {n : Nat} {src : Option (List Value)} {new0 : List Value} (hsrc0 : src = some new0)
    (hsz : i.size ≠ 0) (hzs : z.cells.size = i.size) (hA : AppSrc P β w t tx ty e i z n new0 x') (hnl : new0.length = n * i.size) (hap : appendN H e i.size i.bytes sv n src = some (v, H')) :
    ∃ v' w' β', (Builtin.append_ #[t, tx] ty #[sv', x']).run P w = .ok v' w' ∧ β.le β' ∧ VRel β' v v' ∧ Rel P Fz w0 β' H' w' := by
  obtain ⟨⟨new', s2, Hin⟩, ⟨new2, u2, Hnew⟩⟩ := hA
  unfold appendN at hap
  split at hap <;> (try cases hap)
  rename_i ad len cap
  split at hap <;> (try cases hap)
  rename_i hbound
  split at hap <;> (try cases hap)
  rename_i new
  cases hsrc0
  split at hap <;> (try cases hap)
  rename_i hall
  simp only [Bool.not_eq_true', Bool.not_eq_false] at hall
  have hnl' : new'.size = n * i.size := by have := s2.1; simp at this; omega
  have hn2 : new2.size = n * i.size := by have := u2.1; simp at this; omega
  have hbd : (len + n) * i.bytes ≤ maxB := by omega
  split at hap
  · rename_i hle
    split at hap
    · split at hap <;> (try cases hap)
      rename_i hz3
      obtain ⟨hn0, hl0, hc0⟩ := hz3
      obtain ⟨hy2, e1, e2⟩ := hr.invSlN
      subst hn0; subst hl0; subst hc0
      refine ⟨_, _, β, ?_, Bt.le_refl β, .slN, h⟩
      rw [hy2, Hin (w' := w) (by omega) (by simp)]
    · rename_i b off
      obtain ⟨p, ro, rc, hb2, hy2, h1, h2, h3, h4, h5⟩ := hr.invSl
      split at hap
      · rename_i hn0
        cases hap
        subst hn0
        have e1 : new' = #[] := by rw [← Array.toList_inj]; exact List.length_eq_zero_iff.1 (by simpa using hnl')
        subst e1
        refine ⟨.slice (some ⟨p.rb, ro, none⟩) len rc, w, β, ?_, Bt.le_refl β, .sl hb2 h1 h2 h3 h4 h5, h⟩
        rw [hy2, Hin (w' := w) (by omega) (by simp [Go.storeCells])]
        simp only [Nat.add_zero]
      · rename_i hn0
        split at hap <;> (try cases hap)
        rename_i H3 hst
        have hro : ro = p.base + off := h3.resolve_left (by omega)
        subst hro
        obtain ⟨b2, off2, w', q1, q2, q3⟩ := store_snd h (v' := .pointer (some ⟨p.rb, p.base + (off + len * i.size), none⟩)) (.ptr _ hb2) s2 hst
        cases q1
        refine ⟨.slice (some ⟨p.rb, p.base + off, none⟩) (len + n) rc, w', β, ?_, Bt.le_refl β, .sl hb2 hle h2 (.inr rfl) h4 h5, q3⟩
        rw [hy2, Hin (w' := w') (by omega) (by simp only [addr_add]; rw [Nat.add_assoc]; exact q2)]
    · cases hap
  · rename_i hgt
    split at hap
    · split at hap <;> (try cases hap)
      rename_i hz3
      obtain ⟨hl0, hc0⟩ := hz3
      subst hl0; subst hc0
      obtain ⟨hy2, _, _⟩ := hr.invSlN
      obtain ⟨nc, hnc, hrun3⟩ := Hnew (ad := none) (len := 0) (rc := 0) (old := #[]) (by simp [Builtin.firstCells]) (by omega) hbd
      obtain ⟨β', k1, k2, k3⟩ := newRow_snd h (t := e) (c' := #[] ++ new2) (rest := Builtin.zeroCells z.cells (nc - (0 + n))) i.size (w.drawn + 1) n nc (by simpa using u2) (by omega) (by
        rw [zeroCells_size, hzs]; simp [hn2]; rw [← Nat.add_mul]; congr 1; omega)
      refine ⟨_, _, β', ?_, k1, k2, k3⟩
      rw [hy2, hrun3]
      simp only [Nat.zero_add]
      rfl
    · rename_i b off
      split at hap <;> (try cases hap)
      rename_i cl ct ce cex cro hg
      split at hap <;> (try cases hap)
      rename_i old hold
      obtain ⟨p, ro, rc, hb2, hy2, h1, h2, h3, h4, h5⟩ := hr.invSl
      obtain ⟨rcs, fr, g1, g2, g3, g4, g5, g6, g7, g8⟩ := block_of h hg hb2
      have hsrc : srcCells H i.size len (.slice (some ⟨b, off, none⟩) len cap) = some old := by simp only [srcCells, hg, hold]
      have holdl : old.length = len * i.size := src_len (n := len) rfl hsrc
      -- a new0 row
      have grows : rc < len + n → ∀ H1, Rel P Fz w0 β H1 w → H1.next = H.next → ∃ v' w' β', (Builtin.append_ #[t, tx] ty #[sv', x']).run P w = .ok v' w' ∧ β.le β' ∧
          VRel β' (.slice (some ⟨H.next, 0, none⟩) (len + n) (len + n)) v' ∧ Rel P Fz w0 β' (H1.alloc (.cells (old ++ new0) e i.size false false)) w' := by
        intro hlt H1 hrel1 hnx
        obtain ⟨old2, t1, t2, t3⟩ := src_snd (drewRel h) hr (m := len) (n := len) rfl (Nat.le_refl len) hsrc
        rw [hy2] at t1
        obtain ⟨nc, hnc, hrun3⟩ := Hnew t1 hlt hbd
        have ho2 : old2.size = len * i.size := by have := t2.1; simp at this; omega
        obtain ⟨β', k1, k2, k3⟩ := newRow_snd hrel1 (t := e) (c := old ++ new0) (c' := old2 ++ new2) (rest := Builtin.zeroCells z.cells (nc - (len + n))) i.size (w.drawn + 1) (len + n) nc (by simpa using t2.append u2) hnc (by
          rw [zeroCells_size, hzs]; simp only [Array.size_append, hn2, ho2]; rw [← Nat.add_mul, ← Nat.add_mul]; congr 1; omega)
        rw [hnx] at k2
        exact ⟨_, _, β', by rw [hy2, hrun3]; rfl, k1, k2, k3⟩
      split at hap
      · rename_i hex
        cases hap
        have hrc : rc = cap := h4 (by rw [g3]; exact hex)
        obtain ⟨v', w', β', k0, k1, k2, k3⟩ := grows (by omega) H h rfl
        exact ⟨v', w', β', k0, k1, k2, k3⟩
      · rename_i hex
        split at hap <;> (try cases hap)
        rename_i hroe
        have hro2 : p.ro = false := by rw [g4]; cases cro <;> simp at hroe ⊢
        have hce : ce = i.size := by cases cro <;> simp at hroe; exact hroe.1
        have hct : ct = e := by cases cro <;> simp at hroe; exact hroe.2
        subst hct
        have hpex : p.ex = false := by rw [g3]; simpa using hex
        have h6 := h5 hpex
        rw [g2, hce] at h6
        by_cases hin : len + n ≤ rc
        · have hro : ro = p.base + off := h3.resolve_left (by omega)
          subst hro
          have hmul : (len + n) * i.size ≤ rc * i.size := Nat.mul_le_mul_right _ hin
          have hmul2 : (len + n) * i.size = len * i.size + n * i.size := Nat.add_mul _ _ _
          have hall' : new'.toList.all isCell = true := by
            rw [List.all_eq_true] at hall ⊢
            intro u hu2
            obtain ⟨k, hk⟩ := List.mem_iff_getElem?.1 hu2
            have hk' : k < new0.length := by rw [s2.1]; exact (List.getElem?_eq_some_iff.1 hk).1
            rw [isCell_rel (s2.2 k _ u (List.getElem?_eq_getElem hk') hk)]
            exact hall _ (List.getElem_mem hk')
          have hnl2 : new'.toList.length = n * i.size := by simpa using hnl'
          obtain ⟨rc', w', r1, r2, r3, r4, r5, r6, r7, r8⟩ := run_storeC (P := P) new'.toList (p.base + off + len * i.size) 0 rcs w g1 (by rw [hnl2]; omega) (noFr (g8 (by rw [← g4]; exact hro2))) hall'
          have hpiece : off + len * i.size ≤ cl.length := by
            unfold piece at hold
            split at hold <;> (try cases hold)
            assumption
          have hoe : old = (cl.drop off).take (len * i.size) := by
            unfold piece at hold
            rw [if_pos hpiece] at hold; exact (Option.some.inj hold).symm
          have hle := Bt.le_upd ⟨p.rb, p.base + off, p.sz, i.size, false, false⟩ h.nextNone
          refine ⟨.slice (some ⟨p.rb, p.base + off, none⟩) (len + n) rc, w', _, ?_, hle, .sl (p := ⟨p.rb, p.base + off, p.sz, i.size, false, false⟩) (Bt.upd_at _ _ _) (Nat.le_refl _) hin (.inr rfl) (fun e => by cases e) (fun _ => h6),
            h.again (p := p) (o := .cells (old ++ new0) ct i.size false false) (ro := .cells rc' ct fr) (p' := ⟨p.rb, p.base + off, p.sz, i.size, false, false⟩) hg hb2 hro2 rfl rfl ⟨rc', fr, rfl, rfl, rfl, rfl, by rw [r6, g5], by simp [holdl, hnl]; omega, fun j v v' q1 q2 => ?_, fun _ => ?_⟩ r2 r3 r4 r5⟩
          · rw [hy2, Hin (w' := w') hin (by simp only [addr_add]; exact r1)]
          · refine VRel.mono hle ?_
            simp only at q2
            by_cases hj : j < old.length
            · rw [List.getElem?_append_left hj, hoe, List.getElem?_take] at q1
              split at q1
              · rw [List.getElem?_drop] at q1
                rw [r8 _ (by left; omega)] at q2
                exact g7 (off + j) v v' q1 (by rw [← q2]; congr 1; omega)
              · cases q1
            · rw [List.getElem?_append_right (by omega)] at q1
              have hlt := (List.getElem?_eq_some_iff.1 q1).1
              have hr7 := r7 (j - old.length) (by rw [hnl2]; omega)
              rw [show p.base + off + len * i.size + 0 + (j - old.length) = p.base + off + j from by omega] at hr7
              rw [hr7] at q2
              exact s2.2 _ v v' q1 q2
          · rw [r6]
            exact g8 (by rw [← g4]; exact hro2)
        · obtain ⟨v', w', β', k0, k1, k2, k3⟩ := grows (by omega) (H.kill b) (h.kill b) (by simp)
          exact ⟨v', w', β', k0, k1, k2, k3⟩
    · cases hap

theorem snd_append (h : Rel P Fz w0 β H w) (he : EnvRel β env a.tmps) {t tx e : TypeId} {u : TypeDesc} {i : TypeInfo} {z : Value} {x y : Operand} {c : Call} (ht : P.underlying t = some (.slice e)) (hu : P.underlying tx = some u)
    (hs : isSrc u = true) (hi : P.info? e = some i) (hz : i.zero = some z) (hb : i.bytes ≠ 0) (hsz : i.size ≠ 0) (hzs : z.cells.size = i.size)
    (hc : c.callee = .builtin .append) (hargs : c.args.toList = [x, y]) (hty : c.argTypes.toList = [t, tx]) (ho : o.op = .call c) {zl : List Value} (ha : aop env H (.append e i.size i.bytes zl x y) = some (res, H')) :
    RRel P Fz w0 β w H' res ((execOp a.eval o).run P w) := by
  obtain ⟨consts, hrun⟩ := run_builtin (P := P) (w := w) (a := a) hc ho
  rw [args2 (a := a) hargs, types2 hty] at hrun
  have hrun2 : (execOp a.eval o).run P w = ((Builtin.append_ #[t, tx] o.type #[a.eval x, a.eval y]).run P w).andThen fun v w' => .ok (.value v) w' := by
    rw [hrun]; simp [builtin]
  simp only [aop] at ha
  split at ha <;> (try cases ha)
  rename_i sv xv hx hy
  obtain ⟨⟨v, H2⟩, hap, e0⟩ := map_some ha
  cases e0
  have hr := opv_rel he hx
  have hry := opv_rel he hy
  unfold appendV at hap
  split at hap <;> (try cases hap)
  rename_i n hn
  cases hnew : srcCells H i.size n xv with
  | none =>
    rw [hnew] at hap
    unfold appendN at hap
    split at hap <;> (try cases hap)
    split at hap <;> cases hap
  | some new =>
    rw [hnew] at hap
    obtain ⟨new', s1, s2, s3⟩ := src_snd h hry hn (Nat.le_refl n) hnew
    obtain ⟨new2, u1, u2, u3⟩ := src_snd (drewRel h) hry hn (Nat.le_refl n) hnew
    obtain ⟨v', w', β', k0, k1, k2, k3⟩ := snd_appendN h hr (ty := o.type) (new0 := new) rfl hsz hzs
      ⟨⟨new', s2, fun hle hst => run_append_in ht hu hs hi s3 s1 hle hst⟩, ⟨new2, u2, fun ho hlt hbd => run_append_new ht hu hs hi hz hb s3 u1 ho hlt hbd⟩⟩ (src_len hn hnew) hap
    exact ⟨v', w', β', by rw [hrun2, k0]; rfl, k1, k2, k3⟩

theorem wrap_n {n : Nat} (h : n ≤ maxB) : IntKind.i64.wrap (n : Int) = n := by
  unfold maxB at h
  simp only [IntKind.wrap, IntKind.bits, IntKind.signed]; simp; split <;> omega
theorem run_appendZ_in {t tx e ty : TypeId} {k k2 : IntKind} {i : TypeInfo} {z : Value} {ad : Option Addr} {len rc n : Nat} {w' : World}
    (ht : P.underlying t = some (.slice e)) (hx : P.underlying tx = some (.int k)) (hi : P.info? e = some i) (hz : i.zero = some z) (hsz : i.size ≠ 0) (hzs : z.cells.size = i.size) (hn : n ≤ maxB) (hnb : n * i.bytes ≤ maxB) (hle : len + n ≤ rc)
    (hst : (match ad with | some a => Go.storeCells (a.add (len * i.size)) (Builtin.zeroCells z.cells n).toList | none => pure ()).run P w = .ok () w') :
    (Builtin.append_ #[t, tx] ty #[.slice ad len rc, .int k2 (n : Nat)]).run P w = .ok (.slice ad (len + n) rc) w' := by
  have hw := wrap_n hn
  have hneg : ¬ ((n : Int) < 0) := by omega
  have h48 : ¬ (281474976710656 < (n : Int) * (i.bytes : Int)) := by
    have : ((n * i.bytes : Nat) : Int) ≤ 70368744177664 := by unfold maxB at hnb; omega
    rw [Int.natCast_mul] at this; omega
  unfold Builtin.append_
  rcases Nat.eq_zero_or_pos n with hn0 | hp
  · subst hn0
    have hz0 : Builtin.zeroCells z.cells 0 = #[] := by simp [Builtin.zeroCells]
    rw [hz0] at hst
    have hle0 : len ≤ rc := by omega
    have hnl0 : ¬ (rc < len) := by omega
    have hw0 : IntKind.i64.wrap 0 = 0 := by decide
    cases ad with
    | none =>
      simp only at hst
      simp at hst; subst hst
      simp [run_und ht, run_size hi, run_und hx, asInt, asIntOf, hw0, run_info hi, hle0, hnl0]
    | some ad =>
      simp only at hst
      simp [Go.storeCells] at hst
      subst hst
      simp [run_und ht, run_size hi, run_und hx, asInt, asIntOf, hw0, run_info hi, hle0, hnl0, Go.storeCells]
  · have hns : ¬ (n = 0) := by omega
    cases ad with
    | none =>
      simp only at hst
      simp at hst; subst hst
      simp [run_und ht, run_size hi, run_und hx, asInt, asIntOf, hw, run_info hi, hneg, h48, hle, hns, hsz, run_zero hi hz]
    | some ad =>
      simp only at hst
      simp [run_und ht, run_size hi, run_und hx, asInt, asIntOf, hw, run_info hi, hneg, h48, hle, run_zero hi hz, hst]
      intro h0
      rcases Nat.mul_eq_zero.1 h0 with h | h
      · exact absurd h hns
      · exact absurd h hsz
theorem run_appendZ_new {t tx e ty : TypeId} {k k2 : IntKind} {i : TypeInfo} {z : Value} {ad : Option Addr} {len rc n : Nat} {old : Array Value}
    (ht : P.underlying t = some (.slice e)) (hx : P.underlying tx = some (.int k)) (hi : P.info? e = some i) (hz : i.zero = some z) (hb : i.bytes ≠ 0) (hsz : i.size ≠ 0) (hzs : z.cells.size = i.size) (hn : n ≤ maxB) (hnb : n * i.bytes ≤ maxB)
    (ho : (Builtin.firstCells i.size len (.slice ad len rc)).run P w.drew = .ok old w.drew) (hlt : rc < len + n) (hbound : (len + n) * i.bytes ≤ maxB) :
    ∃ nc, len + n ≤ nc ∧ (Builtin.append_ #[t, tx] ty #[.slice ad len rc, .int k2 (n : Nat)]).run P w =
      .ok (.slice (some ⟨w.heap.size, 0, none⟩) (len + n) nc) { w.drew with heap := w.heap.push (.cells (old ++ Builtin.zeroCells z.cells n ++ Builtin.zeroCells z.cells (nc - (len + n))) e) } := by
  refine ⟨(len + n) + w.tape w.drawn (.appendCap (len + n) rc e) % (2 ^ 63 - (len + n)), by omega, ?_⟩
  have hw := wrap_n hn
  have hcap := nextcap_le hlt
  have hlen : len + n ≤ maxB := Nat.le_trans (Nat.le_mul_of_pos_right _ (Nat.pos_of_ne_zero hb)) hbound
  have hneg : ¬ ((n : Int) < 0) := by omega
  have h49 : ¬ (281474976710656 < (n : Int) * (i.bytes : Int)) := by
    have : ((n * i.bytes : Nat) : Int) ≤ 70368744177664 := by unfold maxB at hnb; omega
    rw [Int.natCast_mul] at this; omega
  have h48 : ¬ (281474976710656 < Builtin.nextslicecap (len + n) rc * i.bytes) := by
    have h1 : Builtin.nextslicecap (len + n) rc * i.bytes ≤ 3 * (len + n) * i.bytes := Nat.mul_le_mul_right _ hcap
    have h2 : 3 * (len + n) * i.bytes = 3 * ((len + n) * i.bytes) := by rw [Nat.mul_assoc]
    unfold maxB at hbound
    omega
  have hnle : ¬ (len + n ≤ rc) := by omega
  have h64' : ¬ (9223372036854775807 < (len : Int) + (n : Int)) := by unfold maxB at hlen; omega
  unfold Builtin.append_
  rcases Nat.eq_zero_or_pos n with hn0 | hp
  · subst hn0
    have hz0 : Builtin.zeroCells z.cells 0 = #[] := by simp [Builtin.zeroCells]
    have hw0 : IntKind.i64.wrap 0 = 0 := by decide
    rw [hz0]
    simp only [Nat.add_zero] at h48 hnle
    have h65 : ¬ (9223372036854775807 < (len : Int)) := by unfold maxB at hlen; omega
    simp [run_und ht, run_size hi, run_und hx, asInt, asIntOf, hw0, run_info hi, h65, hnle, h48, hb, Question.forced, Question.cut, ho, run_zero hi hz, newRow]
    rfl
  have hns : ¬ (n = 0) := by omega
  simp [run_und ht, run_size hi, run_und hx, asInt, asIntOf, hw, run_info hi, hneg, h49, h64', hnle, h48, hb, Question.forced, Question.cut, ho, run_zero hi hz, newRow]
  rw [if_neg (by intro h0; rcases Nat.mul_eq_zero.1 h0 with h | h; exact absurd h hns; exact absurd h hsz)]
  rfl
theorem zeros_rel (β : Bt) {z : Value} {size n : Nat} (hzs : z.cells.size = size) (hsz : size ≠ 0) (hc : z.cells.toList.all clo1 = true) : LRel β (mkCells z.cells.toList (n * size)) (Builtin.zeroCells z.cells n).toList := by
  have := mkCells_rel β (z := z.cells) (n := n * size) hc (.inl (by rw [Array.length_toList, hzs]; exact hsz))
  unfold Builtin.zeroCells
  rw [hzs]; rw [hzs] at this; exact this
theorem mkCells_len (zero : List Value) (n : Nat) : (mkCells zero n).length = n := by simp [mkCells]

theorem snd_appendZ (h : Rel P Fz w0 β H w) (he : EnvRel β env a.tmps) {t tx e : TypeId} {k : IntKind} {i : TypeInfo} {z : Value} {x y : Operand} {c : Call} (ht : P.underlying t = some (.slice e)) (hu : P.underlying tx = some (.int k))
    (hi : P.info? e = some i) (hz : i.zero = some z) (hb : i.bytes ≠ 0) (hsz : i.size ≠ 0) (hzs : z.cells.size = i.size)
    (hc : c.callee = .builtin .append) (hargs : c.args.toList = [x, y]) (hty : c.argTypes.toList = [t, tx]) (ho : o.op = .call c) (ha : aop env H (.appendZ e i.size i.bytes z.cells.toList x y) = some (res, H')) :
    RRel P Fz w0 β w H' res ((execOp a.eval o).run P w) := by
  obtain ⟨consts, hrun⟩ := run_builtin (P := P) (w := w) (a := a) hc ho
  rw [args2 (a := a) hargs, types2 hty] at hrun
  have hrun2 : (execOp a.eval o).run P w = ((Builtin.append_ #[t, tx] o.type #[a.eval x, a.eval y]).run P w).andThen fun v w' => .ok (.value v) w' := by
    rw [hrun]; simp [builtin]
  simp only [aop] at ha
  split at ha <;> (try cases ha)
  rename_i sv l hx hy
  split at ha <;> (try cases ha)
  rename_i hcond
  obtain ⟨h0, hmx, hlb, hclo, hzl⟩ := hcond
  obtain ⟨⟨v, H2⟩, hap, e0⟩ := map_some ha
  cases e0
  have hr := opv_rel he hx
  have hyv := (opv_rel he hy).invInt
  obtain ⟨n, rfl⟩ : ∃ n : Nat, l = n := ⟨l.toNat, by omega⟩
  simp only [Int.toNat_natCast] at hap
  have hn : n ≤ maxB := by omega
  have hnb : n * i.bytes ≤ maxB := by
    rw [← Int.natCast_mul] at hlb; omega
  have hzr := zeros_rel β (n := n) hzs hsz hclo
  obtain ⟨v', w', β', k0, k1, k2, k3⟩ := snd_appendN h hr (ty := o.type) (x' := a.eval y) (new0 := mkCells z.cells.toList (n * i.size)) (t := t) (tx := tx) (i := i) (z := z) rfl hsz hzs
    ⟨⟨_, hzr, fun hle hst => by rw [hyv]; exact run_appendZ_in ht hu hi hz hsz hzs hn hnb hle hst⟩, ⟨_, hzr, fun ho hlt hbd => by rw [hyv]; exact run_appendZ_new ht hu hi hz hb hsz hzs hn hnb ho hlt hbd⟩⟩ (mkCells_len _ _) hap
  exact ⟨v', w', β', by rw [hrun2, k0]; rfl, k1, k2, k3⟩
end
end Go.E

namespace Go.E
section
variable {P : Program} {Fz : Fr} {w0 : World} {β : Bt} {H H' : AHeap} {w : World} {env : Env} {a : Act} {o : Oper} {res : Res}

theorem strCells_rel (β : Bt) (l : List UInt8) : LRel β (l.map fun b => Value.int .u8 b.toNat) (l.map fun b => Value.int .u8 b.toNat) := by
  refine ⟨rfl, fun j u u' x y => ?_⟩
  rw [x] at y; cases y
  simp only [List.getElem?_map] at x
  obtain ⟨b, _, rfl⟩ := map_some x
  exact .int _ _

theorem freeze_end {b n : Nat} {rc : Array Value} {t : TypeId} {fr : Nat × Nat} (hh : w.heap[b]? = some (.cells rc t fr)) (hs : n = rc.size) (hfr : fr.1 = fr.2 ∨ rc.size ≤ fr.1) :
    ∃ fr' : Nat × Nat, (w.freeze ⟨b, n, none⟩ 1).heap = w.heap.setIfInBounds b (.cells rc t fr') ∧ (fr'.1 = fr'.2 ∨ rc.size ≤ fr'.1) := by
  obtain ⟨lo, hi⟩ := fr
  refine ⟨if lo == hi then (n, n + 1) else (min lo n, max hi (n + 1)), ?_, ?_⟩
  · unfold World.freeze
    rw [if_neg (by omega)]
    apply Array.ext_getElem?
    intro k
    simp only [Array.getElem?_modify]
    by_cases e : b = k
    · subst e
      rw [if_pos rfl, hh, Array.getElem?_setIfInBounds_self, if_pos (Array.getElem?_eq_some_iff.1 hh).1]
      rfl
    · rw [if_neg e, Array.getElem?_setIfInBounds_ne e]
  · right
    by_cases e : lo = hi
    · simp only [e, beq_self_eq_true, if_true]; omega
    · have e' : (lo == hi) = false := by simpa using e
      simp only [e', Bool.false_eq_true, if_false]
      simp only at hfr
      omega

theorem shape_at {b : Nat} {rc : Array Value} {t : TypeId} {fr : Nat × Nat} (hh : w.heap[b]? = some (.cells rc t fr)) : w.shape? b = some (t, rc.size) := by simp [World.shape?, hh]

theorem snd_strBytes (h : Rel P Fz w0 β H w) (he : EnvRel β env a.tmps) {s d e : TypeId} {x : Operand} (hs : P.underlying s = some .string) (hd : P.underlying d = some (.slice e)) (hu : P.underlying e = some (.int .u8))
    (ho : o.op = .convert s d x) (ha : aop env H (.strBytes e x) = some (res, H')) : RRel P Fz w0 β w H' res ((execOp a.eval o).run P w) := by
  simp only [aop] at ha
  split at ha <;> (try cases ha)
  rename_i st hx
  split at ha <;> (try cases ha)
  rename_i hmax
  have hy := (opv_rel he hx).invStr
  -- the real row
  generalize hk : w.tape w.drawn (.appendCap st.size 0 e) % (9223372036854775808 - st.size) = q
  obtain ⟨cp, hcpe⟩ : ∃ cp, cp = st.size + q := ⟨_, rfl⟩
  have hcp : st.size ≤ cp := by omega
  let el : Array Value := st.data.map fun b => .int .u8 b.toNat
  have hel : el.size = st.size := by simp [el]
  let row : Array Value := el ++ Array.replicate q (.int .u8 0)
  have hrow : row.size = cp := by simp [row, hel]; omega
  let w1 : World := { w.drew with heap := w.heap.push (.cells row e) }
  have hh : w1.heap[w.heap.size]? = some (.cells row e (0, 0)) := by simp [w1]
  obtain ⟨fr', hf1, hf2⟩ := freeze_end hh (n := cp) hrow.symm (.inl rfl)
  have hle := Bt.le_upd ⟨w.heap.size, 0, cp, 1, false, false⟩ h.nextNone
  have hrel0 := (drewRel h).alloc (p := ⟨w.heap.size, 0, cp, 1, false, false⟩) (o := .cells (st.data.toList.map fun b => .int .u8 b.toNat) e 1 false false) (ro := .cells row e (0, 0)) rfl rfl
    ⟨row, (0, 0), rfl, rfl, rfl, rfl, hrow, by simp; exact hcp, fun j v v' q1 q2 => by
      have hj : j < st.size := by have := (List.getElem?_eq_some_iff.1 q1).1; simpa using this
      simp only [Nat.zero_add, row] at q2
      rw [Array.getElem?_append_left (by omega)] at q2
      simp only [el, Array.getElem?_map] at q2
      simp only [List.getElem?_map] at q1
      obtain ⟨b, hb, rfl⟩ := map_some q1
      obtain ⟨b', hb', rfl⟩ := map_some q2
      rw [Array.getElem?_toList] at hb
      rw [hb] at hb'; cases hb'
      exact .int _ _, fun _ => .inl rfl⟩
  have hrel1 := hrel0.set (i := H.next) (p := ⟨w.heap.size, 0, cp, 1, false, false⟩) (o := .cells (st.data.toList.map fun b => .int .u8 b.toNat) e 1 false false) (ro := .cells row e fr') (w' := w1.freeze ⟨w.heap.size, cp, none⟩ 1)
    (by rw [AHeap.get_alloc, if_pos rfl]) (Bt.upd_at _ _ _) rfl
    ⟨row, fr', rfl, rfl, rfl, rfl, hrow, by simp; exact hcp, fun j v v' q1 q2 => by
      have hj : j < st.size := by have := (List.getElem?_eq_some_iff.1 q1).1; simpa using this
      simp only [Nat.zero_add, row] at q2
      rw [Array.getElem?_append_left (by omega)] at q2
      simp only [el, Array.getElem?_map] at q2
      simp only [List.getElem?_map] at q1
      obtain ⟨b, hb, rfl⟩ := map_some q1
      obtain ⟨b', hb', rfl⟩ := map_some q2
      rw [Array.getElem?_toList] at hb
      rw [hb] at hb'; cases hb'
      exact .int _ _, fun _ => hf2⟩ hf1 (by unfold World.freeze; split <;> rfl) (by unfold World.freeze; split <;> rfl) (by unfold World.freeze; split <;> rfl)
  have hrel1 := hrel1.congr (H' := H.alloc (.cells (st.data.toList.map fun b => .int .u8 b.toNat) e 1 false false)) (fun j => by
    rw [AHeap.get_set, AHeap.get_alloc]
    by_cases hj : H.next = j
    · subst hj; rw [if_pos rfl, if_pos ⟨rfl, by rw [AHeap.next_alloc]; omega⟩]
    · rw [if_neg (fun h => hj h.symm), if_neg (fun h => hj h.1)]) (by rw [AHeap.next_set])
  refine ⟨.slice (some ⟨w.heap.size, 0, none⟩) st.size cp, w1.freeze ⟨w.heap.size, cp, none⟩ 1, _, ?_, hle, .sl (p := ⟨w.heap.size, 0, cp, 1, false, false⟩) (Bt.upd_at _ _ _) (Nat.le_refl _) hcp (.inr rfl) (fun e => by cases e) (fun _ => by simp), hrel1⟩
  unfold execOp; rw [ho]
  have hshape : (w.drew.alloc (.cells row e)).shape? w.heap.size = some (e, cp) := by rw [← hrow]; exact shape_at (w := w1) hh
  simp [Go.convert, run_und hs, run_und hd, run_und hu, hy, Conv.stringToBytes, Question.forced, Question.cut, newRow, markStringish, hk]
  change Result.andThen (Result.andThen (Sem.run P (match (w.drew.alloc (.cells row e)).shape? w.heap.size with | some (_, n) => freeze ⟨w.heap.size, n, none⟩ 1 | x => pure ()) (w.drew.alloc (.cells row e))) _) _ = _
  rw [hshape]
  simp only [run_freeze, Result.andThen_ok]
  rw [← hcpe]
  rfl
end
end Go.E

namespace Go.E
section
variable {P : Program} {Fz : Fr} {w0 : World} {β : Bt} {H H' : AHeap} {w : World} {env : Env} {a : Act} {o : Oper} {res : Res}

theorem u8s_spec : ∀ {cs : List Value} {bs : List UInt8}, u8s cs = some bs → ∃ ns : List Int, cs = ns.map (Value.int .u8) ∧ bs = ns.map fun n => UInt8.ofNat n.toNat
  | [], bs, h => by simp [u8s] at h; subst h; exact ⟨[], rfl, rfl⟩
  | v :: r, bs, h => by
    unfold u8s at h
    split at h
    · rename_i e; cases e
    · rename_i n r' e
      cases e
      obtain ⟨z, hz, rfl⟩ := map_some h
      obtain ⟨ns, rfl, rfl⟩ := u8s_spec hz
      exact ⟨n :: ns, rfl, rfl⟩
    · cases h
theorem ints_rel {β : Bt} {k : IntKind} {ns : List Int} {l : List Value} (h : LRel β (ns.map (Value.int k)) l) : l = ns.map (Value.int k) := by
  apply List.ext_getElem?
  intro i
  cases hx : (ns.map (Value.int k))[i]? with
  | none =>
    rw [List.getElem?_eq_none_iff] at hx
    rw [List.getElem?_eq_none_iff, ← h.1]; exact hx
  | some v =>
    obtain ⟨v', h1, h2⟩ := h.get hx
    rw [h1]
    simp only [List.getElem?_map] at hx
    obtain ⟨n, _, rfl⟩ := map_some hx
    rw [h2.invInt]
theorem foldl_push (ns : List Int) : ∀ r : ByteArray, (ns.foldl (fun r n => r.push (UInt8.ofNat n.toNat)) r).data.toList = r.data.toList ++ ns.map fun n => UInt8.ofNat n.toNat := by
  induction ns with
  | nil => intro r; simp
  | cons n ns ih => intro r; simp only [List.foldl_cons]; rw [ih]; simp [ByteArray.push]

theorem snd_bytesStr (h : Rel P Fz w0 β H w) (he : EnvRel β env a.tmps) {s d e : TypeId} {x : Operand} (hs : P.underlying s = some (.slice e)) (hd : P.underlying d = some .string) (hu : P.underlying e = some (.int .u8))
    (ho : o.op = .convert s d x) (ha : aop env H (.bytesStr x) = some (res, H')) : RRel P Fz w0 β w H' res ((execOp a.eval o).run P w) := by
  simp only [aop] at ha
  split at ha <;> (try cases ha)
  rename_i v hx
  split at ha <;> (try cases ha)
  rename_i n hn
  split at ha <;> (try cases ha)
  rename_i bs hbs
  split at ha <;> (try cases ha)
  rename_i ad len cap
  have hr := opv_rel he hx
  obtain ⟨cs, hcs, hu8⟩ := Option.bind_eq_some_iff.1 hbs
  obtain ⟨ns, rfl, rfl⟩ := u8s_spec hu8
  simp only [srcLen] at hn; cases hn
  obtain ⟨cs', s1, s2, _⟩ := src_snd h hr (m := _) rfl (Nat.le_refl _) hcs
  have hc' := ints_rel s2
  have key : ∀ {r : ByteArray}, r.data.toList = ns.map (fun n => UInt8.ofNat n.toNat) → r = ⟨(ns.map fun n => UInt8.ofNat n.toNat).toArray⟩ := by
    intro r hr'
    cases r with
    | mk dd => congr 1; rw [← Array.toList_inj]; simpa using hr'
  cases ad with
  | none =>
    obtain ⟨hy, e1, _⟩ := hr.invSlN
    subst e1
    have : ns = [] := by
      have := src_len (n := 0) (size := 1) (v := .slice none 0 cap) rfl hcs
      simpa using this
    subst this
    refine RRel.pure h (.string _) ?_
    unfold execOp; rw [ho]
    simp [Go.convert, run_und hs, run_und hd, run_und hu, hy, Conv.bytesToString]
    rfl
  | some ad =>
    have hsh : ∃ b ro rc, a.eval x = .slice (some ⟨b, ro, none⟩) n rc := by
      cases hy : a.eval x <;> rw [hy] at hr <;> cases hr
      · exact ⟨_, _, _, rfl⟩
      · simp [srcCells] at hcs
    obtain ⟨b, ro, rc, hy⟩ := hsh
    rw [hy] at s1
    simp only [Builtin.firstCells, Nat.mul_one] at s1
    refine RRel.pure h (.string _) ?_
    unfold execOp; rw [ho]
    have hl : (Go.loadCells ⟨b, ro, none⟩ n).run P w = .ok (ns.map (Value.int .u8)).toArray w := by
      rw [s1]; congr 1; rw [← Array.toList_inj]; simpa using hc'
    have := run_bytesToString w ⟨b, ro, none⟩ n rc ns hl
    simp only [Go.convert, Sem.run_bind, run_und hs, run_und hd, Result.andThen_ok, hy, run_und hu, this, Sem.run_pure]
    rw [key (r := ns.foldl (fun r n => r.push (UInt8.ofNat n.toNat)) ByteArray.empty) (by rw [foldl_push]; rfl)]

theorem snd_markStr (h : Rel P Fz w0 β H w) (he : EnvRel β env a.tmps) {s e : TypeId} {x : Operand} (hs : P.underlying s = some (.slice e)) (hu : P.underlying e = some (.int .u8))
    (ho : o.op = .convert s s x) (ha : aop env H (.markStr x) = some (res, H')) : RRel P Fz w0 β w H' res ((execOp a.eval o).run P w) := by
  simp only [aop] at ha
  split at ha <;> (try cases ha)
  rename_i i off n cp hx
  split at ha <;> (try cases ha)
  rename_i c t e2 ex hg
  obtain ⟨p, ro, rc, hb, hy, h1, h2, h3, h4, h5⟩ := (opv_rel he hx).invSl
  obtain ⟨rcs, fr, g1, g2, g3, g4, g5, g6, g7, g8⟩ := block_of h hg hb
  obtain ⟨fr', f1, f2⟩ := freeze_end g1 rfl (g8 rfl)
  have hrel := h.set (i := i) (p := p) (o := .cells c t e2 ex false) (ro := .cells rcs t fr') (w' := w.freeze ⟨p.rb, rcs.size, none⟩ 1) hg hb g4 ⟨rcs, fr', rfl, g2, g3, g4, g5, g6, g7, fun _ => f2⟩ f1
    (by unfold World.freeze; split <;> rfl) (by unfold World.freeze; split <;> rfl) (by unfold World.freeze; split <;> rfl)
  have hrel := hrel.congr (H' := H) (fun j => by
    rw [AHeap.get_set]
    by_cases hj : i = j
    · subst hj; rw [if_pos ⟨rfl, AHeap.get_lt hg⟩]; exact hg
    · rw [if_neg (fun h => hj h.1)]) (by rw [AHeap.next_set])
  refine ⟨.slice (some ⟨p.rb, ro, none⟩) n rc, _, β, ?_, Bt.le_refl β, .sl hb h1 h2 h3 h4 h5, hrel⟩
  unfold execOp; rw [ho]
  simp [Go.convert, run_und hs, run_und hu, hy, markStringish, shape_at g1]

theorem snd_mkslice (h : Rel P Fz w0 β H w) (he : EnvRel β env a.tmps) {t e : TypeId} {l c : Operand} {i : TypeInfo} {z : Value} (hu : P.underlying t = some (.slice e)) (hi : P.info? e = some i)
    (hz : i.zero = some z) (ho : o.op = .makeSlice t l c) (ha : aop env H (.mkslice e i.size i.bytes z.cells.toList l c) = some (res, H')) : RRel P Fz w0 β w H' res ((execOp a.eval o).run P w) := by
  simp only [aop] at ha
  split at ha <;> (try cases ha)
  rename_i ln cp hl hc
  split at ha <;> (try cases ha)
  rename_i hcond
  obtain ⟨c1, c2, c3, c4, c5, c6⟩ := hcond
  have el := (opv_rel he hl).invInt
  have ec := (opv_rel he hc).invInt
  have hbytes : (i.bytes : Int) * cp ≤ 281474976710656 := by rw [Int.mul_comm]; unfold maxB at c4; omega
  have hrun := run_make (P := P) w t e i z hu hi hz .i64 .i64 ln cp c1 c2 hbytes (by unfold maxB at c3; omega)
  have hmk := mkCells_rel β c5 c6
  obtain ⟨h1, h2⟩ := new_snd h (t := e) i.size true hmk
  refine ⟨.slice (some ⟨w.heap.size, 0, none⟩) ln.toNat cp.toNat, _, _, ?_, h2, .sl (p := ⟨w.heap.size, 0, _, i.size, true, false⟩) (Bt.upd_at _ _ _) (by omega) (Nat.le_refl _) (.inr rfl) (fun _ => rfl) (fun e => by cases e), h1⟩
  unfold execOp; rw [ho]
  simp only [el, ec, Sem.run_bind, hrun, Result.andThen_ok, Sem.run_pure]
  rfl

theorem snd_clear (h : Rel P Fz w0 β H w) (he : EnvRel β env a.tmps) {t e : TypeId} {i : TypeInfo} {z : Value} {x : Operand} {c : Call} (hu : P.underlying t = some (.slice e)) (hi : P.info? e = some i) (hz : i.zero = some z)
    (hc : c.callee = .builtin .clear) (hargs : c.args.toList = [x]) (hty : c.argTypes.toList = [t]) (ho : o.op = .call c) (ha : aop env H (.clear i.size z.cells.toList x) = some (res, H')) :
    RRel P Fz w0 β w H' res ((execOp a.eval o).run P w) := by
  obtain ⟨consts, hrun⟩ := run_builtin (P := P) (w := w) (a := a) hc ho
  obtain ⟨hA, hT⟩ := args1 (a := a) hargs hty
  rw [hA, hT] at hrun
  simp only [aop] at ha
  split at ha <;> (try cases ha)
  · rename_i hx
    obtain ⟨hy, _, _⟩ := (opv_rel he hx).invSlN
    refine RRel.pure h (LRel.tuple (LRel.nil β)) ?_
    rw [hrun]; simp [builtin, Builtin.clear_, run_und hu, hy]
  · rename_i b off n cp hx
    obtain ⟨p, ro, rc, hb, hy, h1, h2, h3, h4, h5⟩ := (opv_rel he hx).invSl
    split at ha
    · rename_i hn
      cases ha
      subst hn
      refine RRel.pure h (LRel.tuple (LRel.nil β)) ?_
      rw [hrun]; simp [builtin, Builtin.clear_, run_und hu, hy]
    · rename_i hn
      split at ha <;> (try cases ha)
      rename_i hcond
      obtain ⟨H2, hs, e0⟩ := map_some ha
      cases e0
      have hro : ro = p.base + off := h3.resolve_left (by omega)
      subst hro
      have hzl : z.cells.size = i.size := by simpa using hcond.1
      have hlr : LRel β (mkCells z.cells.toList (n * i.size)) (Builtin.zeroCells z.cells n).toList := by
        unfold Builtin.zeroCells
        rw [hzl]
        have hzc := mkCells_rel β (z := z.cells) (n := n * i.size) hcond.2 (by
          by_cases h0 : i.size = 0
          · right; simp [h0]
          · left; rw [hcond.1]; exact h0)
        rw [hzl] at hzc
        exact hzc
      obtain ⟨b2, off2, w', q1, q2, q3⟩ := store_snd h (v' := .pointer (some ⟨p.rb, p.base + off, none⟩)) (.ptr off hb) hlr hs
      cases q1
      refine ⟨.tuple #[], w', β, ?_, Bt.le_refl β, LRel.tuple (LRel.nil β), q3⟩
      rw [hrun]
      cases n with
      | zero => exact absurd rfl hn
      | succ n => simp [builtin, Builtin.clear_, run_und hu, hy, run_zero hi hz, q2]
end
end Go.E

namespace Go.E
section
variable {P : Program} {Fz : Fr} {w0 : World} {β : Bt} {H H' : AHeap} {w : World} {env : Env} {a : Act} {o : Oper} {res : Res}

theorem same_rel {u : TypeDesc} {k k' e e' : Value} {b : Bool} (h : Go.Instr.sameNow u k e = some b) (hk : VRel β k k') (he : VRel β e e') : Go.Instr.sameNow u k' e' = some b := by
  unfold Go.Instr.sameNow at h
  split at h
  · rw [hk.invInt, he.invInt]; exact h
  · rw [hk.invStr, he.invStr]; exact h
  · rw [hk.invBool, he.invBool]; exact h
  · cases h

theorem find_rel {u : TypeDesc} {k k' : Value} (hk : VRel β k k') : ∀ (es : List (Value × Value × Nat)) (rs : List MapEntry) (i : Nat) (r : Option (Nat × Value)), es.length = rs.length →
    (∀ (j : Nat) (e : Value × Value × Nat) (q : MapEntry), es[j]? = some e → rs[j]? = some q → VRel β e.1 q.key ∧ VRel β e.2.1 q.val ∧ q.born = e.2.2) → findK u k es i = some r →
    ∃ r', Go.Instr.findNow u k' rs i = some r' ∧ (match r, r' with | none, none => True | some (j, v), some (j', v') => j = j' ∧ VRel β v v' ∧ i ≤ j ∧ j < i + es.length | _, _ => False)
  | [], rs, i, r, hl, _, h => by
    have : rs = [] := List.length_eq_zero_iff.1 (by simpa using hl.symm)
    subst this
    simp only [findK] at h; cases h
    exact ⟨none, rfl, trivial⟩
  | e :: es, rs, i, r, hl, hr, h => by
    cases rs with
    | nil => simp at hl
    | cons q rs =>
      obtain ⟨h1, h2, h3⟩ := hr 0 e q rfl rfl
      simp only [findK] at h
      simp only [Go.Instr.findNow]
      split at h
      · rename_i hs
        cases h
        rw [same_rel hs hk h1]
        exact ⟨_, rfl, rfl, h2, Nat.le_refl _, by simp⟩
      · rename_i hs
        rw [same_rel hs hk h1]
        obtain ⟨r', g1, g2⟩ := find_rel hk es rs (i + 1) r (by simpa using hl) (fun j e q x y => hr (j + 1) e q (by simpa using x) (by simpa using y)) h
        refine ⟨r', g1, ?_⟩
        cases r <;> cases r' <;> simp only at g2 ⊢
        · obtain ⟨m1, m2, m3, m4⟩ := g2
          exact ⟨m1, m2, by omega, by simp only [List.length_cons]; omega⟩
      · cases h

theorem run_checkKey {u : TypeDesc} {kt : TypeId} (hk : P.underlying kt = some u) (hp : plainKey u = true) (em : Bool) (n : Nat) (v : Value) : (Go.Instr.checkKey em (n + 1) kt v).run P w = .ok () w := by
  unfold Go.Instr.checkKey
  simp only [Sem.run_bind, run_und hk, Result.andThen_ok]
  cases u <;> first | (cases hp; done) | (cases v <;> rfl)

theorem run_findKey' {u : TypeDesc} {kt : TypeId} (hk : P.underlying kt = some u) {v : Value} {l : List MapEntry} {r : Option (Nat × Value)} (h : Go.Instr.findNow u v l 0 = some r) : (Go.Instr.findKey kt v l).run P w = .ok r w := by
  unfold Go.Instr.findKey
  simp only [Sem.run_bind, run_und hk, Result.andThen_ok, h]
  rfl

theorem snd_look (h : Rel P Fz w0 β H w) (he : EnvRel β env a.tmps) {t kt e : TypeId} {u : TypeDesc} {i : TypeInfo} {z : Value} {m k : Operand} {ok : Bool} (hu : P.underlying t = some (.map kt e)) (hk : P.underlying kt = some u)
    (hi : P.info? e = some i) (hz : i.zero = some z) (ho : o.op = .lookup t m k ok) (ha : aop env H (.look u z m k ok) = some (res, H')) : RRel P Fz w0 β w H' res ((execOp a.eval o).run P w) := by
  simp only [aop] at ha
  split at ha <;> (try cases ha)
  rename_i mv kv hm hkv
  split at ha <;> (try cases ha)
  rename_i es hes
  split at ha <;> (try cases ha)
  rename_i r hf
  split at ha <;> (try cases ha)
  rename_i hc
  have hmr := opv_rel he hm
  have hkr := opv_rel he hkv
  have hck : ∀ em, (Go.Instr.checkKey em 10000 kt (a.eval k)).run P w = .ok () w := fun em => run_checkKey hk hc.2 em 9999 _
  have fin : ∀ (rs : Array MapEntry), es.length = rs.size → (∀ (j : Nat) (e : Value × Value × Nat) (q : MapEntry), es[j]? = some e → rs[j]? = some q → VRel β e.1 q.key ∧ VRel β e.2.1 q.val ∧ q.born = e.2.2) →
      (∀ (x : Sem (Array MapEntry)), x.run P w = .ok rs w → True) →
      ∃ r' v', (Go.Instr.findKey kt (a.eval k) rs.toList).run P w = .ok r' w ∧ v' = pickV z r' ∧ r'.isSome = r.isSome ∧ VRel β (pickV z r) v' := by
    intro rs hl hr _
    obtain ⟨r', g1, g2⟩ := find_rel hkr es rs.toList 0 r (by simpa using hl) (fun j e q x y => hr j e q x (by simpa using y)) hf
    refine ⟨r', _, run_findKey' (w := w) hk g1, rfl, ?_, ?_⟩
    · cases r <;> cases r' <;> first | rfl | exact g2.elim
    · cases r <;> cases r' <;> first | exact g2.elim | exact clo_rel β hc.1 | exact g2.2.1
  have fin2 : ∀ (rs : Array MapEntry) (r' : Option (Nat × Value)), r'.isSome = r.isSome → VRel β (pickV z r) (pickV z r') → (Go.Instr.findKey kt (a.eval k) rs.toList).run P w = .ok r' w →
      ((match a.eval k with | _ => Go.Instr.findKey kt (a.eval k) rs.toList).run P w = .ok r' w) := fun _ _ _ _ h => h
  have out : ∀ r' : Option (Nat × Value), r'.isSome = r.isSome → VRel β (pickV z r) (pickV z r') → VRel β (if ok then .tuple #[pickV z r, .bool r.isSome] else pickV z r) (if ok then .tuple #[pickV z r', .bool r'.isSome] else pickV z r') := by
    intro r' e1 hv
    rw [e1]
    cases ok
    · exact hv
    · exact LRel.tuple (LRel.cons hv (LRel.cons (.bool _) (LRel.nil β)))
  split at hes
  · cases hes
    have hy := hmr.invMapN
    obtain ⟨r', v', f1, rfl, f3, f4⟩ := fin #[] rfl (fun j e q x => by simp at x) (fun _ _ => trivial)
    refine RRel.pure h (out r' f3 f4) ?_
    unfold execOp; rw [ho]
    cases r' <;> (simp at f1; simp [Go.Instr.lookup, run_und hu, hy, hck, f1, run_zero hi hz, pickV])
  · rename_i j
    split at hes <;> (try cases hes)
    rename_i es' clk hg
    obtain ⟨p, hb, hy⟩ := hmr.invMap
    obtain ⟨q, ro, h1, h2, h3⟩ := h.live j _ hg
    rw [hb] at h1; cases h1
    obtain ⟨_, rs, rfl, hsz, hall⟩ := h3
    obtain ⟨r', v', f1, rfl, f3, f4⟩ := fin rs hsz.symm hall (fun _ _ => trivial)
    refine RRel.pure h (out r' f3 f4) ?_
    unfold execOp; rw [ho]
    cases r' <;> simp [Go.Instr.lookup, run_und hu, hy, hck, f1, run_zero hi hz, pickV, run_getO h2 (by simp)]
  · cases hes
end
end Go.E

namespace Go.E
section
variable {P : Program} {Fz : Fr} {w0 : World} {β : Bt} {H H' : AHeap} {w : World} {env : Env} {a : Act} {o : Oper} {res : Res}

theorem findNow_spec {u : TypeDesc} {k : Value} : ∀ (l : List MapEntry) (i j : Nat) (v : Value), Go.Instr.findNow u k l i = some (some (j, v)) → i ≤ j ∧ ∃ q, l[j - i]? = some q ∧ Go.Instr.sameNow u k q.key = some true
  | [], i, j, v, h => by simp [Go.Instr.findNow] at h
  | e :: l, i, j, v, h => by
    simp only [Go.Instr.findNow] at h
    split at h
    · rename_i hs
      cases h
      exact ⟨Nat.le_refl _, e, by simp, hs⟩
    · obtain ⟨h1, q, h2, h3⟩ := findNow_spec l (i + 1) j v h
      refine ⟨by omega, q, ?_, h3⟩
      rw [show j - i = (j - (i + 1)) + 1 from by omega]
      simpa using h2
    · cases h
theorem sameBits_of {u : TypeDesc} {k e : Value} (h : Go.Instr.sameNow u k e = some true) (n : Nat) : Go.Instr.sameBits n e k = true := by
  unfold Go.Instr.sameNow at h
  split at h
  · split at h
    · rename_i hk; subst hk
      simp at h
      unfold Go.Instr.sameBits; first | (simp [h]; done) | (subst h; simp; done) | (rw [h]; simp; done)
    · cases h
  · rename_i s t
    have hst : (s == t) = true := by simpa using h
    have hd : s.data = t.data := eq_of_beq (show (s.data == t.data) = true from hst)
    have e : s = t := by cases s; cases t; simp at hd; rw [hd]
    subst e
    unfold Go.Instr.sameBits; exact hst
  · simp at h
    unfold Go.Instr.sameBits; first | (simp [h]; done) | (subst h; simp; done) | (rw [h]; simp; done)
  · cases h

theorem snd_mput (h : Rel P Fz w0 β H w) (he : EnvRel β env a.tmps) {t kt e : TypeId} {u : TypeDesc} {m k x : Operand} (hu : P.underlying t = some (.map kt e)) (hk : P.underlying kt = some u)
    (ho : o.op = .mapUpdate t m k x ∨ o.op = .insert t m k x) (ha : aop env H (.mput u m k x) = some (res, H')) : RRel P Fz w0 β w H' res ((execOp a.eval o).run P w) := by
  have hrun : (execOp a.eval o).run P w = ((Go.Instr.mapUpdate t (a.eval m) (a.eval k) (a.eval x)).run P w).andThen fun _ w' => .ok .skip w' := by
    rcases ho with ho | ho <;> (unfold execOp; rw [ho]; simp)
  simp only [aop] at ha
  split at ha <;> (try cases ha)
  rename_i i kv xv hm hkv hxv
  split at ha <;> (try cases ha)
  rename_i es clk hg
  split at ha <;> (try cases ha)
  rename_i hp
  have hkr := opv_rel he hkv
  have hxr := opv_rel he hxv
  obtain ⟨p, hb, hy⟩ := (opv_rel he hm).invMap
  obtain ⟨q, ro, h1, h2, h3⟩ := h.live i _ hg
  rw [hb] at h1; cases h1
  obtain ⟨hpr, rs, rfl, hsz, hall⟩ := h3
  have hck : (Go.Instr.checkKey false 10000 kt (a.eval k)).run P w = .ok () w := run_checkKey hk hp false 9999 _
  have hfr : ∀ r, findK u kv es 0 = some r → ∃ r', Go.Instr.findNow u (a.eval k) rs.toList 0 = some r' ∧ (match r, r' with | none, none => True | some (j, v), some (j', v') => j = j' ∧ VRel β v v' ∧ 0 ≤ j ∧ j < 0 + es.length | _, _ => False) :=
    fun r hr => find_rel hkr es rs.toList 0 r (by simpa using hsz.symm) (fun j e q x y => hall j e q x (by simpa using y)) hr
  split at ha <;> (try cases ha)
  · rename_i j v hf
    obtain ⟨r', g1, g2⟩ := hfr _ hf
    cases r' with
    | none => exact g2.elim
    | some r' =>
      obtain ⟨j', v'⟩ := r'
      obtain ⟨rfl, _, _, _⟩ := g2
      obtain ⟨_, qe, s1, s2⟩ := findNow_spec _ _ _ _ g1
      have hrf := run_findKey' (P := P) (w := w) hk g1
      have hsb := sameBits_of s2 10000
      simp only [Nat.sub_zero, Array.getElem?_toList] at s1
      refine ⟨{ w with heap := w.heap.setIfInBounds p.rb (.map (rs.modify j fun e => { e with key := a.eval k, val := a.eval x }) clk) }, β, ?_, Bt.le_refl β,
        h.set (p := p) (o := .map (es.modify j fun e => (kv, xv, e.2.2)) clk) (ro := .map (rs.modify j fun e => { e with key := a.eval k, val := a.eval x }) clk) hg hb hpr ⟨hpr, _, rfl, by simp [hsz], fun n e2 q2 x y => ?_⟩ rfl rfl rfl rfl⟩
      · rw [hrun, hy]
        simp [Go.Instr.mapUpdate, run_und hu, run_getO h2 (by simp), hck, hrf, s1, Go.Instr.keyThatStays, hsb, run_setO h2 (by simp)]
      · simp only [List.getElem?_modify] at x
        simp only [Array.getElem?_modify] at y
        obtain ⟨e3, he3, rfl⟩ := map_some x
        split at y
        · rename_i hjn; subst hjn
          obtain ⟨q3, hq3, rfl⟩ := map_some y
          rw [if_pos rfl]
          exact ⟨hkr, hxr, (hall _ _ _ he3 hq3).2.2⟩
        · rename_i hjn
          rw [if_neg hjn]
          exact hall _ _ _ he3 y
  · rename_i hf
    obtain ⟨r', g1, g2⟩ := hfr _ hf
    cases r' with
    | some r' => exact g2.elim
    | none =>
      have hrf := run_findKey' (P := P) (w := w) hk g1
      refine ⟨{ w with heap := w.heap.setIfInBounds p.rb (.map (rs.push { key := a.eval k, val := a.eval x, born := clk }) (clk + 1)) }, β, ?_, Bt.le_refl β,
        h.set (p := p) (o := .map (es ++ [(kv, xv, clk)]) (clk + 1)) (ro := .map (rs.push { key := a.eval k, val := a.eval x, born := clk }) (clk + 1)) hg hb hpr ⟨hpr, _, rfl, by simp [hsz], fun n e2 q2 x y => ?_⟩ rfl rfl rfl rfl⟩
      · rw [hrun, hy]
        simp [Go.Instr.mapUpdate, run_und hu, run_getO h2 (by simp), hck, hrf, run_setO h2 (by simp)]
      · simp only [Array.getElem?_push] at y
        by_cases hn : n < es.length
        · rw [List.getElem?_append_left hn] at x
          rw [if_neg (by omega)] at y
          exact hall n e2 q2 x y
        · have hn2 : n = es.length := by
            have := (List.getElem?_eq_some_iff.1 x).1; simp at this; omega
          subst hn2
          rw [List.getElem?_append_right (Nat.le_refl _)] at x
          simp at x; subst x
          rw [if_pos hsz.symm] at y; cases y
          exact ⟨hkr, hxr, rfl⟩

theorem snd_delete (h : Rel P Fz w0 β H w) (he : EnvRel β env a.tmps) {t t2 kt e : TypeId} {u : TypeDesc} {m k : Operand} {c : Call} (hu : P.underlying t = some (.map kt e)) (hk : P.underlying kt = some u)
    (hc : c.callee = .builtin .delete) (hargs : c.args.toList = [m, k]) (hty : c.argTypes.toList = [t, t2]) (ho : o.op = .call c) (ha : aop env H (.delete u m k) = some (res, H')) :
    RRel P Fz w0 β w H' res ((execOp a.eval o).run P w) := by
  obtain ⟨consts, hrun⟩ := run_builtin (P := P) (w := w) (a := a) hc ho
  rw [args2 (a := a) hargs, types2 hty] at hrun
  simp only [aop] at ha
  split at ha <;> (try cases ha)
  · rename_i i kv hm hkv
    split at ha <;> (try cases ha)
    rename_i es clk hg
    split at ha <;> (try cases ha)
    rename_i hp
    have hkr := opv_rel he hkv
    obtain ⟨p, hb, hy⟩ := (opv_rel he hm).invMap
    obtain ⟨q, ro, h1, h2, h3⟩ := h.live i _ hg
    rw [hb] at h1; cases h1
    obtain ⟨hpr, rs, rfl, hsz, hall⟩ := h3
    have hck : ∀ em, (Go.Instr.checkKey em 10000 kt (a.eval k)).run P w = .ok () w := fun em => run_checkKey hk hp em 9999 _
    have hfr : ∀ r, findK u kv es 0 = some r → ∃ r', Go.Instr.findNow u (a.eval k) rs.toList 0 = some r' ∧ (match r, r' with | none, none => True | some (j, v), some (j', v') => j = j' ∧ VRel β v v' ∧ 0 ≤ j ∧ j < 0 + es.length | _, _ => False) :=
      fun r hr => find_rel hkr es rs.toList 0 r (by simpa using hsz.symm) (fun j e q x y => hall j e q x (by simpa using y)) hr
    split at ha <;> (try cases ha)
    · rename_i j v hf
      obtain ⟨r', g1, g2⟩ := hfr _ hf
      cases r' with
      | none => exact g2.elim
      | some r' =>
        obtain ⟨j', v'⟩ := r'
        obtain ⟨rfl, _, _, hjl⟩ := g2
        have hrf := run_findKey' (P := P) (w := w) hk g1
        refine ⟨.tuple #[], { w with heap := w.heap.setIfInBounds p.rb (.map (rs.eraseIdxIfInBounds j) clk) }, β, ?_, Bt.le_refl β, LRel.tuple (LRel.nil β),
          h.set (p := p) (o := .map (es.eraseIdx j) clk) (ro := .map (rs.eraseIdxIfInBounds j) clk) hg hb hpr ⟨hpr, _, rfl, ?_, fun n e2 q2 x y => ?_⟩ rfl rfl rfl rfl⟩
        · rw [hrun, hy]
          simp [builtin, Builtin.delete_, run_und hu, run_getO h2 (by simp), hck, hrf, run_setO h2 (by simp)]
        · simp only [Nat.zero_add] at hjl
          have hj2 : j < rs.size := by omega
          rw [List.length_eraseIdx, if_pos hjl]
          have he2 : rs.eraseIdxIfInBounds j = rs.eraseIdx j hj2 := by simp [Array.eraseIdxIfInBounds, hj2]
          rw [he2, Array.size_eraseIdx, hsz]
        · simp only [Nat.zero_add] at hjl
          have hj2 : j < rs.size := by omega
          rw [List.getElem?_eraseIdx] at x
          have hy2 : (rs.toList.eraseIdx j)[n]? = some q2 := by
            rw [← y, ← Array.getElem?_toList]; congr 1
            simp [Array.eraseIdxIfInBounds, hj2]
          rw [List.getElem?_eraseIdx] at hy2
          split at x
          · rename_i hlt; rw [if_pos hlt] at hy2; exact hall n e2 q2 x (by simpa using hy2)
          · rename_i hlt; rw [if_neg hlt] at hy2; exact hall (n + 1) e2 q2 x (by simpa using hy2)
    · rename_i hf
      obtain ⟨r', g1, g2⟩ := hfr _ hf
      cases r' with
      | some r' => exact g2.elim
      | none =>
        have hrf := run_findKey' (P := P) (w := w) hk g1
        refine ⟨.tuple #[], { w with heap := w.heap.setIfInBounds p.rb (.map rs clk) }, β, ?_, Bt.le_refl β, LRel.tuple (LRel.nil β), ?_⟩
        · rw [hrun, hy]
          simp [builtin, Builtin.delete_, run_und hu, run_getO h2 (by simp), hck, hrf, run_setO h2 (by simp)]
        · have hw : w.heap.setIfInBounds p.rb (.map rs clk) = w.heap := by
            apply Array.ext_getElem?
            intro n
            by_cases en : p.rb = n
            · subst en; rw [Array.getElem?_setIfInBounds_self, if_pos (Array.getElem?_eq_some_iff.1 h2).1, h2]
            · rw [Array.getElem?_setIfInBounds_ne en]
          rw [hw]; exact h
  · rename_i kv hm hkv
    split at ha <;> (try cases ha)
    rename_i hp
    have hy := (opv_rel he hm).invMapN
    have hck : ∀ em, (Go.Instr.checkKey em 10000 kt (a.eval k)).run P w = .ok () w := fun em => run_checkKey hk hp em 9999 _
    refine RRel.pure h (LRel.tuple (LRel.nil β)) ?_
    rw [hrun, hy]
    simp [builtin, Builtin.delete_, run_und hu, hck]

theorem snd_rangeMap (h : Rel P Fz w0 β H w) (he : EnvRel β env a.tmps) {t kt e : TypeId} {x : Operand} (hu : P.underlying t = some (.map kt e)) (ho : o.op = .range t x)
    (ha : aop env H (.rangeMap x) = some (res, H')) : RRel P Fz w0 β w H' res ((execOp a.eval o).run P w) := by
  have hn := h.nextNone
  simp only [aop] at ha
  split at ha <;> (try cases ha)
  · rename_i hm
    have hy := (opv_rel he hm).invMapN
    refine ⟨.pointer (some ⟨w.heap.size, 0, none⟩), _, _, ?_, Bt.le_upd ⟨w.heap.size, 0, 0, 0, true, false⟩ hn, .ptr (p := ⟨w.heap.size, 0, 0, 0, true, false⟩) 0 (Bt.upd_at _ _ _),
      h.alloc (o := .miter none 0 [] 0) (ro := .mapIter none 0 #[] 0) rfl rfl ⟨rfl, rfl, none, rfl, rfl⟩⟩
    unfold execOp; rw [ho]
    simp [Go.Instr.range, run_und hu, hy]
  · rename_i i hm
    split at ha <;> (try cases ha)
    rename_i es clk hg
    obtain ⟨p, hb, hy⟩ := (opv_rel he hm).invMap
    obtain ⟨q, ro, h1, h2, h3⟩ := h.live i _ hg
    rw [hb] at h1; cases h1
    obtain ⟨hpr, rs, rfl, hsz, hall⟩ := h3
    refine ⟨.pointer (some ⟨w.heap.size, 0, none⟩), _, _, ?_, Bt.le_upd ⟨w.heap.size, 0, 0, 0, true, false⟩ hn, .ptr (p := ⟨w.heap.size, 0, 0, 0, true, false⟩) 0 (Bt.upd_at _ _ _),
      h.alloc (o := .miter (some i) clk [] clk) (ro := .mapIter (some p.rb) clk #[] clk) rfl rfl ⟨rfl, rfl, some p.rb, rfl, p, Bt.le_upd _ hn _ _ hb, rfl⟩⟩
    unfold execOp; rw [ho]
    simp [Go.Instr.range, run_und hu, hy, run_getO h2 (by simp)]
end
end Go.E

namespace Go.E
section
variable {P : Program} {Fz : Fr} {w0 : World} {β : Bt} {H H' : AHeap} {w : World} {env : Env} {a : Act} {o : Oper} {res : Res}

theorem snd_call (h : Rel P Fz w0 β H w) (he : EnvRel β env a.tmps) {c : Call} {f : FuncId} (hc : c.callee = .value (.func f)) (ho : o.op = .call c) (ha : aop env H (.call f c.args.toList) = some (res, H')) :
    RRel P Fz w0 β w H' res ((execOp a.eval o).run P w) := by
  simp only [aop] at ha
  obtain ⟨vs, hv, e⟩ := map_some ha
  cases e
  have hl := opvs_rel he hv
  refine ⟨c.args.map a.eval, ?_, by simpa using hl, h⟩
  unfold execOp; rw [ho]
  simp only [resolve, hc, Act.eval, Deferred.ofValue, Sem.run_bind, Sem.run_pure, Result.andThen_ok, invoke]
  simp

theorem idxB_at : ∀ (l : List UInt8) (c : UInt8) (n : Int), idxB l c n = if Lib.indexByte l c = -1 then -1 else Lib.indexByte l c + n
  | [], c, n => by simp [idxB, Lib.indexByte]
  | b :: l, c, n => by
    have ih := idxB_at l c (n + 1)
    have hge := Lib.indexByte_ge l c
    simp only [idxB, Lib.indexByte, ih, beq_iff_eq]
    split
    · simp
    · split
      · simp
      · rw [if_neg (by omega)]; omega
theorem idxB_lib (l : List UInt8) (c : UInt8) : idxB l c 0 = Lib.indexByte l c := by
  rw [idxB_at]; split
  · rename_i h; exact h.symm
  · omega
theorem find_byte {fn : Func} (hname : fn.name = "internal/bytealg.IndexByteString") (hor : fn.origin = "") : Extern.find fn = some Extern.BytealgIndexByte.indexByte := by
  unfold Extern.find
  rw [hname, hor]
  kernel_rfl
theorem findNext_byte {fn : Func} (hname : fn.name = "internal/bytealg.IndexByteString") (hor : fn.origin = "") : Extern.findNext fn = none := by
  unfold Extern.findNext
  rw [hname, hor]
  kernel_rfl
theorem snd_xbyte (h : Rel P Fz w0 β H w) (he : EnvRel β env a.tmps) {c : Call} {f : FuncId} {fn : Func} {s x : Operand} (hc : c.callee = .value (.func f)) (hf : P.funcs[f]? = some fn) (hb : fn.body.isNone = true) (hname : fn.name = "internal/bytealg.IndexByteString") (hor : fn.origin = "")
    (hargs : c.args.toList = [s, x]) (ho : o.op = .call c) (ha : aop env H (.xbyte s x) = some (res, H')) : RRel P Fz w0 β w H' res ((execOp a.eval o).run P w) := by
  simp only [aop] at ha
  split at ha <;> (try cases ha)
  rename_i sv cv hs hx
  have h1 := (opv_rel he hs).invStr
  have h2 := (opv_rel he hx).invInt
  have hargs2 : c.args = #[s, x] := by rw [← Array.toList_inj, hargs]
  refine RRel.pure h (.int _ _) ?_
  unfold execOp; rw [ho]
  simp only [resolve, hc, Act.eval, Deferred.ofValue, Sem.run_bind, Sem.run_pure, Result.andThen_ok, invoke]
  have e1 : (#[] ++ Array.map a.eval c.args ++ #[] : Array Value) = #[.string sv, .int .u8 cv] := by
    rw [hargs2]; simp [h1, h2]
  rw [e1, run_callFunc_extern hf (by rw [hname]; rfl) hb (findNext_byte hname hor) (find_byte hname hor), run_indexByte_string, Lib.firstIdx_eq, idxB_lib]
  rfl

theorem snd_callv (h : Rel P Fz w0 β H w) (he : EnvRel β env a.tmps) {c : Call} {f : Operand} (hc : c.callee = .value f) (ho : o.op = .call c) (ha : aop env H (.callv f c.args.toList) = some (res, H')) :
    RRel P Fz w0 β w H' res ((execOp a.eval o).run P w) := by
  simp only [aop] at ha
  split at ha <;> (try cases ha)
  · rename_i g fa fc vs hf hv
    have hl := opvs_rel he hv
    have hr := opv_rel he hf
    obtain ⟨fa', fc', hy, l1, l2⟩ := hr.invFn
    refine ⟨fa' ++ c.args.map a.eval ++ fc', ?_, ?_, h⟩
    · unfold execOp; rw [ho]
      simp only [resolve, hc, hy, Deferred.ofValue, Sem.run_bind, Sem.run_pure, Result.andThen_ok, invoke]
    · simpa using (l1.append hl).append l2
  · rename_i l vs hf hv
    have hl := opvs_rel he hv
    have hr := opv_rel he hf
    obtain ⟨p, hb, hy⟩ := hr.invYield
    refine ⟨p, c.args.map a.eval, hb, by simpa using hl, ?_, h⟩
    unfold execOp; rw [ho]
    simp only [resolve, hc, hy, Deferred.ofValue, Sem.run_bind, Sem.run_pure, Result.andThen_ok, invoke]
    simp

theorem run_method {t : TypeId} {v : Value} {name : String} {f : FuncId} (hm : rmeth P t name = some f) (fuel : Nat) : (method (fuel + 1) t v name).run P w = .ok (f, v) w := by
  unfold rmeth at hm
  split at hm <;> (try cases hm)
  rename_i i hi
  split at hm <;> (try cases hm)
  rename_i m hf
  split at hm <;> (try cases hm)
  rename_i hp
  have hpl : m.path.toList = [] := by
    have : m.path.size = 0 := by simpa [Array.isEmpty] using hp
    simpa using this
  unfold method
  simp only [Sem.run_bind, run_info hi, Result.andThen_ok, hf, hpl, follow, Sem.run_pure]
  split at hm <;> (try cases hm)
  · rename_i h2 h1
    simp [h1, receiverAt, run_und h2, Place.get]
  · rename_i d h2 h3 h4
    simp only [h4, receiverAt, Sem.run_bind, run_und h3, Result.andThen_ok]
    simp only [Place.get, Sem.run_pure]
    rfl

theorem snd_callm (h : Rel P Fz w0 β H w) (he : EnvRel β env a.tmps) {c : Call} {x : Operand} {name : String} {t : TypeId} {v : Value} {vs : List Value} {f : FuncId} (hc : c.callee = .invoke x name) (ho : o.op = .call c)
    (hx : opv env x = some (.iface t v)) (hv : opvs env c.args.toList = some vs) (hm : rmeth P t name = some f) :
    RRel P Fz w0 β w H (.enter f (v :: vs)) ((execOp a.eval o).run P w) := by
  have hl := opvs_rel he hv
  have hr := opv_rel he hx
  cases hy : a.eval x <;> rw [hy] at hr <;> cases hr
  rename_i v' hvv
  refine ⟨#[v'] ++ c.args.map a.eval, ?_, by simpa using LRel.cons hvv hl, h⟩
  unfold execOp; rw [ho]
  simp only [resolve, hc, hy, Sem.run_bind, Sem.run_pure, Result.andThen_ok, invoke]
  have e1 : (#[Value.iface t v'] ++ c.args.map a.eval)[0]? = some (.iface t v') := by rw [Array.getElem?_append_left (by simp)]; rfl
  have e2 : (#[Value.iface t v'] ++ c.args.map a.eval).extract 1 (#[Value.iface t v'] ++ c.args.map a.eval).size = c.args.map a.eval := by
    rw [← Array.toList_inj]; simp [List.extract_eq_take_drop]; exact List.take_of_length_le (by simp)
  simp only [e1, e2, callMethod, Sem.run_bind, run_program, Result.andThen_ok]
  have hd : P.types.size + Made.depth = (P.types.size + 99) + 1 := rfl
  rw [hd, run_method hm]
  simp

end
end Go.E

namespace Go.E
section
variable {P : Program} {Fz : Fr} {w0 : World} {β : Bt} {H H' : AHeap} {w : World} {env : Env} {a : Act} {o : Oper} {res : Res}

/-- Entries, one by one. -/
def ERel (β : Bt) (es : List (Value × Value × Nat)) (rs : List MapEntry) : Prop :=
  es.length = rs.length ∧ ∀ (j : Nat) (e : Value × Value × Nat) (q : MapEntry), es[j]? = some e → rs[j]? = some q → VRel β e.1 q.key ∧ VRel β e.2.1 q.val ∧ q.born = e.2.2
theorem ERel.cons {β : Bt} {e : Value × Value × Nat} {q : MapEntry} {es : List (Value × Value × Nat)} {rs : List MapEntry} (h : VRel β e.1 q.key ∧ VRel β e.2.1 q.val ∧ q.born = e.2.2) (k : ERel β es rs) : ERel β (e :: es) (q :: rs) := by
  refine ⟨by simp [k.1], fun j x y a b => ?_⟩
  cases j with
  | zero => simp at a b; subst a; subst b; exact h
  | succ j => simp at a b; exact k.2 j x y a b
theorem ERel.filter {β : Bt} (p : Nat → Bool) : ∀ (es : List (Value × Value × Nat)) (rs : List MapEntry), ERel β es rs → ERel β (es.filter fun e => p e.2.2) (rs.filter fun q => p q.born)
  | [], rs, h => by
    have : rs = [] := List.length_eq_zero_iff.1 (by simpa using h.1.symm)
    subst this; exact ⟨rfl, fun j e q x => by simp at x⟩
  | e :: es, rs, h => by
    cases rs with
    | nil => have := h.1; simp at this
    | cons q rs =>
      have hh := h.2 0 e q rfl rfl
      have ht : ERel β es rs := ⟨by have := h.1; simpa using this, fun j x y a b => h.2 (j + 1) x y (by simpa using a) (by simpa using b)⟩
      simp only [List.filter_cons, hh.2.2]
      split
      · exact ERel.cons hh (ERel.filter p es rs ht)
      · exact ERel.filter p es rs ht
theorem ERel.append {β : Bt} {es fs : List (Value × Value × Nat)} {rs qs : List MapEntry} (h : ERel β es rs) (k : ERel β fs qs) : ERel β (es ++ fs) (rs ++ qs) := by
  refine ⟨by simp [h.1, k.1], fun j x y a b => ?_⟩
  by_cases hj : j < es.length
  · rw [List.getElem?_append_left hj] at a; rw [List.getElem?_append_left (by rw [← h.1]; exact hj)] at b; exact h.2 j x y a b
  · rw [List.getElem?_append_right (by omega)] at a; rw [List.getElem?_append_right (by rw [← h.1]; omega), ← h.1] at b; exact k.2 _ x y a b
theorem ERel.all {β : Bt} (p : Nat → Bool) : ∀ (es : List (Value × Value × Nat)) (rs : List MapEntry), ERel β es rs → (rs.all fun q => p q.born) = es.all fun e => p e.2.2
  | [], rs, h => by
    have : rs = [] := List.length_eq_zero_iff.1 (by simpa using h.1.symm)
    subst this; rfl
  | e :: es, rs, h => by
    cases rs with
    | nil => have := h.1; simp at this
    | cons q rs =>
      have hh := h.2 0 e q rfl rfl
      have ht : ERel β es rs := ⟨by have := h.1; simpa using this, fun j x y a b => h.2 (j + 1) x y (by simpa using a) (by simpa using b)⟩
      simp only [List.all_cons, hh.2.2, ERel.all p es rs ht]

theorem ERel.find {β : Bt} (p : Nat → Bool) : ∀ (es : List (Value × Value × Nat)) (rs : List MapEntry), ERel β es rs → ∀ e, es.find? (fun e => p e.2.2) = some e → ∃ q, rs.find? (fun q => p q.born) = some q ∧ VRel β e.1 q.key ∧ VRel β e.2.1 q.val
  | [], rs, _, e, hf => by simp at hf
  | e0 :: es, rs, h, e, hf => by
    cases rs with
    | nil => have := h.1; simp at this
    | cons q rs =>
      have hh := h.2 0 e0 q rfl rfl
      have ht : ERel β es rs := ⟨by have := h.1; simpa using this, fun j x y a b => h.2 (j + 1) x y (by simpa using a) (by simpa using b)⟩
      simp only [List.find?_cons, hh.2.2] at hf ⊢
      split at hf
      · cases hf; exact ⟨q, rfl, hh.1, hh.2.1⟩
      · exact ERel.find p es rs ht e hf
theorem snd_entry (h : Rel P Fz w0 β H w) (he : EnvRel β env a.tmps) {x : Operand} (ho : o.op = .entry x) (ha : aop env H (.entry x) = some (res, H')) : RRel P Fz w0 β w H' res ((execOp a.eval o).run P w) := by
  simp only [aop] at ha
  split at ha <;> (try cases ha)
  rename_i i hx
  obtain ⟨p, hb, hy⟩ := (opv_rel he hx).invPtr
  split at ha <;> (try cases ha)
  rename_i m since seen stepped hg
  split at ha <;> (try cases ha)
  rename_i stamp es clk hlast hgm
  split at ha <;> (try cases ha)
  rename_i hck
  split at ha <;> (try cases ha)
  rename_i e hfind
  obtain ⟨q, ro, h1, h2, h3⟩ := h.live i _ hg
  rw [hb] at h1; cases h1
  obtain ⟨hpr, hbase, m', rfl, pm, hbm, rfl⟩ := h3
  obtain ⟨q, rom, m1, m2, m3⟩ := h.live m _ hgm
  rw [hbm] at m1; cases m1
  obtain ⟨hpmr, rs, rfl, hsz, hall⟩ := m3
  have hE : ERel β es rs.toList := ⟨by simpa using hsz.symm, fun j e q x y => hall j e q x (by simpa using y)⟩
  obtain ⟨qe, hq, hk, hv⟩ := ERel.find (fun b => b == stamp) es rs.toList hE e hfind
  have hq2 : rs.find? (fun q => q.born == stamp) = some qe := by rw [← Array.find?_toList]; exact hq
  have hb2 : seen.toArray.back? = some stamp := by simp [hlast]
  refine RRel.pure h (LRel.tuple (LRel.cons hk (LRel.cons hv (LRel.nil β)))) ?_
  unfold execOp; rw [ho]
  subst hck
  simp [Go.Instr.entry, hy, hbase, run_getO h2 (by simp), hlast, run_getO m2 (by simp), hq2]
theorem snd_nextMap (h : Rel P Fz w0 β H w) (he : EnvRel β env a.tmps) {x : Operand} (ho : o.op = .next x false) {k : Res → AHeap → Prop} (ha : anext H (opv env x) k) :
    ∃ res H', k res H' ∧ RRel P Fz w0 β w H' res ((execOp a.eval o).run P w) := by
  unfold anext at ha
  split at ha <;> (try exact ha.elim)
  rename_i i hx
  obtain ⟨p, hb, hy⟩ := (opv_rel he hx).invPtr
  split at ha <;> (try exact ha.elim)
  · rename_i since seen stepped hg
    obtain ⟨q, ro, h1, h2, h3⟩ := h.live i _ hg
    rw [hb] at h1; cases h1
    obtain ⟨hpr, hbase, m', rfl, hm⟩ := h3
    simp only at hm; subst hm
    refine ⟨_, _, ha, RRel.pure h (LRel.tuple (LRel.cons (.bool false) (LRel.nil β))) ?_⟩
    unfold execOp; rw [ho]
    simp [Go.Instr.next, hy, hbase, run_getO h2 (by simp)]
  · rename_i m since seen stepped hg
    split at ha <;> (try exact ha.elim)
    rename_i es clk hgm
    obtain ⟨q, ro, h1, h2, h3⟩ := h.live i _ hg
    rw [hb] at h1; cases h1
    obtain ⟨hpr, hbase, m', rfl, pm, hbm, rfl⟩ := h3
    obtain ⟨q, rom, m1, m2, m3⟩ := h.live m _ hgm
    rw [hbm] at m1; cases m1
    obtain ⟨hpmr, rs, rfl, hsz, hall⟩ := m3
    have hE : ERel β es rs.toList := ⟨by simpa using hsz.symm, fun j e q x y => hall j e q x (by simpa using y)⟩
    split at ha
    · exact ha.elim
    · rename_i hguard
      simp only [mapLeft] at ha
      -- the entries that are left
      let A := es.filter fun e => !seen.contains e.2.2
      let R := rs.toList.filter fun q => !seen.contains q.born
      have hAR : ERel β A R := ERel.filter (fun b => !seen.contains b) es rs.toList hE
      let A1 := A.filter fun e => decide (e.2.2 < since)
      let R1 := R.filter fun q => decide (q.born < since)
      have h1' : ERel β A1 R1 := ERel.filter (fun b => decide (b < since)) A R hAR
      let A2 := A.filter fun e => decide (e.2.2 ≥ since)
      let R2 := R.filter fun q => decide (q.born ≥ since)
      have h2' : ERel β A2 R2 := ERel.filter (fun b => decide (b ≥ since)) A R hAR
      have h12 := h1'.append h2'
      have hemp : R1.isEmpty = A1.isEmpty := by
        have := h1'.1
        cases hA : A1 <;> cases hR : R1 <;> simp_all
      let left : Array MapEntry := rs.filter fun e => !seen.toArray.contains e.born
      let old : Array MapEntry := left.filter fun e => decide (e.born < since)
      let new : Array MapEntry := left.filter fun e => decide (e.born ≥ since)
      let cand : Array (Option MapEntry) := (if old.isEmpty then #[none] else #[]) ++ (old ++ new).map some
      have hleft : left.toList = R := by
        simp only [left, R, Array.toList_filter, List.contains_toArray]
      have hold : old.toList = R1 := by simp only [old, Array.toList_filter, hleft]; rfl
      have hnew : new.toList = R2 := by simp only [new, Array.toList_filter, hleft]; rfl
      have hoe : old.isEmpty = A1.isEmpty := by rw [← hemp, ← hold]; simp [Array.isEmpty, List.isEmpty_iff_length_eq_zero, Bool.eq_iff_iff]
      have hcand : cand.toList = (if A1.isEmpty then [none] else []) ++ (R1 ++ R2).map some := by
        simp only [cand, Array.toList_append, Array.toList_map, hold, hnew, hoe]
        cases A1.isEmpty <;> rfl
      have hguard' : ¬ ((!seen.toArray.isEmpty && !rs.isEmpty && rs.all fun e => decide (e.born ≥ stepped)) = true) := by
        have e1 : seen.toArray.isEmpty = seen.isEmpty := by simp
        have e2 : rs.isEmpty = es.isEmpty := by
          rw [Bool.eq_iff_iff]; simp only [Array.isEmpty_iff_size_eq_zero, List.isEmpty_iff_length_eq_zero, hsz]
        have e3 : (rs.all fun e => decide (e.born ≥ stepped)) = es.all fun e => decide (e.2.2 ≥ stepped) := by
          rw [← ERel.all (fun b => decide (b ≥ stepped)) es rs.toList hE, Array.all_toList]
        rw [e1, e2, e3]; exact hguard
      have hrun : (Go.Instr.next (.pointer (some ⟨p.rb, 0, none⟩)) false o.type).run P w = ((choose (.mapNext cand.size)).run P w).andThen fun c w' =>
          ((match cand[c]? with
            | some (some e) => do setObj p.rb (.mapIter (some pm.rb) since (seen.toArray.push e.born) clk); pure (.tuple #[.bool true, e.key, e.val])
            | some none => pure (.tuple #[.bool false])
            | none => stuck "Next: no such candidate") : Sem Value).run P w' := by
        unfold Go.Instr.next
        simp only [Sem.run_bind, run_getO h2 (by simp), run_getO m2 (by simp), Result.andThen_ok]
        rw [if_neg hguard', Sem.run_bind]
        rfl
      have hlen : cand.size = if A1.isEmpty then (A1 ++ A2).length + 1 else (A1 ++ A2).length := by
        rw [← Array.length_toList, hcand]
        simp only [List.length_append, List.length_map]
        have := h12.1; simp only [List.length_append] at this
        cases A1.isEmpty <;> simp <;> omega
      have hpos : 0 < cand.size := by
        rw [hlen]
        cases hA : A1 with
        | nil => simp
        | cons y ys => simp
      obtain ⟨c, w2, hc, hch, hrel2, hheap⟩ : ∃ c w2, c < cand.size ∧ (choose (.mapNext cand.size)).run P w = .ok c w2 ∧ Rel P Fz w0 β H w2 ∧ w2.heap = w.heap := by
        rw [run_choose_drew]
        split
        · exact ⟨0, w, hpos, rfl, h, rfl⟩
        · exact ⟨_, w.drew, Nat.mod_lt _ hpos, rfl, drewRel h, rfl⟩
      have hex : (execOp a.eval o).run P w = ((Go.Instr.next (.pointer (some ⟨p.rb, 0, none⟩)) false o.type).run P w).andThen fun v w' => .ok (.value v) w' := by
        unfold execOp; rw [ho]; simp [hy, hbase]
      rw [hex, hrun, hch]
      simp only [Result.andThen_ok]
      have hak := ha c (by
        rw [hlen] at hc
        exact hc)
      have hget : cand[c]? = ((if A1.isEmpty then [none] else []) ++ (R1 ++ R2).map some)[c]? := by rw [← Array.getElem?_toList, hcand]
      have pick : ∀ j, (if A1.isEmpty then [none] else [] : List (Option MapEntry)).length ≤ c → j = c - (if A1.isEmpty then [none] else [] : List (Option MapEntry)).length → ∀ e, (A1 ++ A2)[j]? = some e → k (.val (.tuple #[.bool true, e.1, e.2.1])) (H.set i (.miter (some m) since (seen ++ [e.2.2]) clk)) →
          ∃ res H', k res H' ∧ RRel P Fz w0 β w H' res ((((match cand[c]? with
            | some (some e) => do setObj p.rb (.mapIter (some pm.rb) since (seen.toArray.push e.born) clk); pure (.tuple #[.bool true, e.key, e.val])
            | some none => pure (.tuple #[.bool false])
            | none => stuck "Next: no such candidate") : Sem Value).run P w2).andThen fun v w' => .ok (.value v) w') := by
        intro j hj hje e hee hke
        have hlt : j < (R1 ++ R2).length := by rw [← h12.1]; exact (List.getElem?_eq_some_iff.1 hee).1
        have hq : (R1 ++ R2)[j]? = some (R1 ++ R2)[j] := List.getElem?_eq_getElem hlt
        have hrel := h12.2 j e _ hee hq
        generalize (R1 ++ R2)[j] = q at hq hrel
        have hcq : cand[c]? = some (some q) := by
          rw [hget, List.getElem?_append_right hj, ← hje, List.getElem?_map, hq]; rfl
        have h2' : w2.heap[p.rb]? = some (.mapIter (some pm.rb) since seen.toArray stepped) := by rw [hheap]; exact h2
        refine ⟨_, _, hke, .tuple #[.bool true, q.key, q.val], { w2 with heap := w2.heap.setIfInBounds p.rb (.mapIter (some pm.rb) since (seen.toArray.push q.born) clk) }, β, ?_, Bt.le_refl β,
          LRel.tuple (LRel.cons (.bool true) (LRel.cons hrel.1 (LRel.cons hrel.2.1 (LRel.nil β)))),
          hrel2.set (p := p) (o := .miter (some m) since (seen ++ [e.2.2]) clk) (ro := .mapIter (some pm.rb) since (seen.toArray.push q.born) clk) hg hb hpr ⟨hpr, hbase, some pm.rb, by rw [hrel.2.2]; simp, pm, hbm, rfl⟩ rfl rfl rfl rfl⟩
        rw [hcq]
        simp [run_setO h2' (by simp)]
      change (if (A1.isEmpty && c == 0) = true then k (.val (.tuple #[.bool false])) H else
        match (A1 ++ A2)[if A1.isEmpty = true then c - 1 else c]? with
        | some e => k (.val (.tuple #[.bool true, e.1, e.2.1])) (H.set i (.miter (some m) since (seen ++ [e.2.2]) clk))
        | none => False) at hak
      split at hak
      · rename_i hcond
        rw [Bool.and_eq_true] at hcond
        have hc0 : c = 0 := by simpa using hcond.2
        subst hc0
        have hcq : cand[0]? = some none := by rw [hget, if_pos hcond.1]; rfl
        refine ⟨_, _, hak, .tuple #[.bool false], w2, β, by rw [hcq]; rfl, Bt.le_refl β, LRel.tuple (LRel.cons (.bool false) (LRel.nil β)), hrel2⟩
      · rename_i hcond
        split at hak
        · rename_i e hee
          by_cases hov : A1.isEmpty = true
          · have hc0 : c ≠ 0 := fun e0 => hcond (by simp [hov, e0])
            rw [if_pos hov] at hee
            exact pick (c - 1) (by rw [if_pos hov]; simp; omega) (by rw [if_pos hov]; simp) e hee hak
          · rw [if_neg hov] at hee
            exact pick c (by rw [if_neg hov]; simp) (by rw [if_neg hov]; simp) e hee hak
        · exact hak.elim
end
end Go.E

namespace Go.E
section
variable {P : Program} {Fz : Fr} {w0 : World} {β : Bt} {H H' : AHeap} {w : World} {env : Env} {a : Act} {o : Oper} {res : Res}

def isOdd : ROp → Bool
  | .next _ false | .callm .. => true
  | _ => false
theorem evOp_aop {T : Tab} {r : ROp} {k : Res → AHeap → Prop} (hn : isOdd r = false) (ha : evOp T env r H k) : ∃ res H', aop env H r = some (res, H') ∧ k res H' := by
  unfold evOp at ha
  split at ha
  · simp [isOdd] at hn
  · simp [isOdd] at hn
  · split at ha
    · exact ⟨_, _, by assumption, ha⟩
    · exact ha.elim

theorem bind_some {α γ : Type} {x : Option α} {f : α → Option γ} {y : γ} (h : x.bind f = some y) : ∃ z, x = some z ∧ f z = some y := by
  cases x with
  | none => cases h
  | some z => exact ⟨z, rfl, h⟩

theorem call_snd {T : Tab} (hT : ∀ t name f, T.meth t name = some f → rmeth P t name = some f) (h : Rel P Fz w0 β H w) (he : EnvRel β env a.tmps) {c : Call} {ty : TypeId} (ho : o.op = .call c) {r : ROp} (hr : rcall P c ty = some r)
    {k : Res → AHeap → Prop} (ha : evOp T env r H k) : ∃ res H', k res H' ∧ RRel P Fz w0 β w H' res ((execOp a.eval o).run P w) := by
  have fin : ∀ {r : ROp}, isOdd r = false → evOp T env r H k → (∀ res H', aop env H r = some (res, H') → RRel P Fz w0 β w H' res ((execOp a.eval o).run P w)) → ∃ res H', k res H' ∧ RRel P Fz w0 β w H' res ((execOp a.eval o).run P w) := by
    intro r hn ha hs
    obtain ⟨res, H', h1, h2⟩ := evOp_aop hn ha
    exact ⟨res, H', h2, hs res H' h1⟩
  unfold rcall at hr
  split at hr
  · rename_i f hc
    split at hr
    · rename_i fn s x hf hargs
      split at hr
      · rename_i hcond
        simp only [Bool.and_eq_true, beq_iff_eq] at hcond
        cases hr
        exact fin rfl ha fun _ _ h1 => snd_xbyte h he hc hf hcond.1.1 hcond.1.2 hcond.2 hargs ho h1
      · cases hr
        exact fin rfl ha fun _ _ h1 => snd_call h he hc ho h1
    · cases hr
      exact fin rfl ha fun _ _ h1 => snd_call h he hc ho h1
  · rename_i f _ hc
    cases hr
    exact fin rfl ha fun _ _ h1 => snd_callv h he hc ho h1
  · rename_i recv name hc
    cases hr
    unfold evOp at ha
    split at ha
    · rename_i e; cases e
    · rename_i e; cases e
      split at ha <;> (try exact ha.elim)
      rename_i t v vs hx hv
      split at ha <;> (try exact ha.elim)
      rename_i f hf
      exact ⟨_, _, ha, snd_callm h he hc ho hx hv (hT _ _ _ hf)⟩
    · rename_i h1 h2; exact absurd rfl (h2 _ _ _)
  · rename_i b hc
    split at hr
    · rename_i s x st xt hargs hty
      split at hr <;> (try cases hr)
      · rename_i e k ht hu
        split at hr <;> (try cases hr)
        rename_i i hi
        split at hr <;> (try cases hr)
        rename_i z hz
        split at hr <;> (try cases hr)
        rename_i hcond
        exact fin rfl ha fun _ _ h1 => snd_appendZ h he ht hu hi hz hcond.2.1 hcond.1 hcond.2.2 hc hargs hty ho h1
      · rename_i e u _ ht hu
        split at hr <;> (try cases hr)
        rename_i i hi
        split at hr <;> (try cases hr)
        rename_i z hz
        split at hr <;> (try cases hr)
        rename_i hcond
        exact fin rfl ha fun _ _ h1 => snd_append h he ht hu hcond.2.2.1 hi hz hcond.2.1 hcond.1 hcond.2.2.2 hc hargs hty ho h1
    · rename_i d s dt t2 hargs hty
      split at hr <;> (try cases hr)
      rename_i e ht
      obtain ⟨i, hi, hr⟩ := bind_some hr
      split at hr <;> (try cases hr)
      exact fin rfl ha fun _ _ h1 => snd_copy h he ht hi hc hargs hty ho h1
    · rename_i x t hargs hty
      split at hr <;> (try cases hr)
      · rename_i n e ht
        refine fin rfl ha fun _ _ h1 => ?_
        simp only [aop] at h1
        obtain ⟨v, hv, e0⟩ := map_some h1
        cases e0
        obtain ⟨consts, hrun⟩ := run_builtin (P := P) (w := w) (a := a) hc ho
        obtain ⟨hA, hT2⟩ := args1 (a := a) hargs hty
        rw [hA, hT2] at hrun
        refine RRel.pure h (opv_rel (a := a) he hv) ?_
        rw [hrun]; simp [builtin, Builtin.len_, run_und ht, goInt, Act.eval]
      · rename_i u _ _ ht
        exact fin rfl ha fun _ _ h1 => snd_len h he ht hc hargs hty ho h1
    · rename_i x t hargs hty
      split at hr <;> (try cases hr)
      rename_i e ht
      exact fin rfl ha fun _ _ h1 => snd_cap h he ht hc hargs hty ho h1
    · rename_i x y hargs
      cases hr
      exact fin rfl ha fun _ _ h1 => snd_min h he hc hargs ho h1
    · rename_i x y hargs
      cases hr
      exact fin rfl ha fun _ _ h1 => snd_max h he hc hargs ho h1
    · rename_i m kk t t2 hargs hty
      split at hr <;> (try cases hr)
      rename_i kt e ht
      obtain ⟨u, hu, e0⟩ := map_some hr
      cases e0
      exact fin rfl ha fun _ _ h1 => snd_delete h he ht hu hc hargs hty ho h1
    · rename_i x t hargs hty
      split at hr <;> (try cases hr)
      rename_i e ht
      split at hr <;> (try cases hr)
      rename_i i hi
      obtain ⟨z, hz, e0⟩ := map_some hr
      cases e0
      exact fin rfl ha fun _ _ h1 => snd_clear h he ht hi hz hc hargs hty ho h1
    · rename_i x hargs
      cases hr
      refine fin rfl ha fun _ _ h1 => ?_
      simp only [aop] at h1
      split at h1 <;> (try cases h1)
      rename_i t v hx
      obtain ⟨v', hy, hvv⟩ := (opv_rel he hx).invIface
      obtain ⟨consts, hrun⟩ := run_builtin (P := P) (w := w) (a := a) hc ho
      have hA : c.args.map a.eval = #[a.eval x] := by
        have hA : c.args = #[x] := by rw [← Array.toList_inj]; simp [hargs]
        rw [hA]; simp
      rw [hA] at hrun
      refine ⟨_, ?_, .iface hvv, h⟩
      rw [hrun]; simp [builtin, hy, Go.Instr.panic, goPanic]
    · cases hr
end
end Go.E

namespace Go.E
section
variable {P : Program} {Fz : Fr} {w0 : World} {β : Bt} {H H' : AHeap} {w : World} {env : Env} {a : Act} {o : Oper} {res : Res}

/-- **AN OPERATION.** -/
theorem op_snd {T : Tab} (hT : ∀ t name f, T.meth t name = some f → rmeth P t name = some f) (h : Rel P Fz w0 β H w) (he : EnvRel β env a.tmps) {r : ROp} (hr : rop P o.type o.op = some r)
    {k : Res → AHeap → Prop} (ha : evOp T env r H k) : ∃ res H', k res H' ∧ RRel P Fz w0 β w H' res ((execOp a.eval o).run P w) := by
  have fin : ∀ {r : ROp}, isOdd r = false → evOp T env r H k → (∀ res H', aop env H r = some (res, H') → RRel P Fz w0 β w H' res ((execOp a.eval o).run P w)) → ∃ res H', k res H' ∧ RRel P Fz w0 β w H' res ((execOp a.eval o).run P w) := by
    intro r hn ha hs
    obtain ⟨res, H', h1, h2⟩ := evOp_aop hn ha
    exact ⟨res, H', h2, hs res H' h1⟩
  generalize hop : o.op = op at hr
  unfold rop at hr
  split at hr
  · cases hr; exact fin rfl ha fun _ _ h1 => snd_mov h he (.inl hop) h1
  · cases hr; exact fin rfl ha fun _ _ h1 => snd_mov h he (.inr hop) h1
  · cases hr; exact fin rfl ha fun _ _ h1 => snd_pick h he hop h1
  · obtain ⟨i, hi, hr⟩ := bind_some hr
    obtain ⟨z, hz, e0⟩ := map_some hr
    cases e0; exact fin rfl ha fun _ _ h1 => snd_new h hi hz hop h1
  · obtain ⟨i, hi, e0⟩ := map_some hr
    cases e0; exact fin rfl ha fun _ _ h1 => snd_box h he hop h1
  · split at hr <;> (try cases hr)
    · rename_i i fields hi hu
      split at hr <;> (try cases hr)
      rename_i z hz
      split at hr <;> (try cases hr)
      rename_i hs
      obtain ⟨ps, hp, e0⟩ := map_some hr
      cases e0; exact fin rfl ha fun _ _ h1 => snd_buildS h he hi hz hu hs hp hop h1
    · rename_i i n e hi hu
      split at hr <;> (try cases hr)
      rename_i z ei hz hei
      exact fin rfl ha fun _ _ h1 => snd_buildA h he hi hz hu hei hop h1
  · split at hr <;> (try cases hr)
    rename_i e hu
    split at hr <;> (try cases hr)
    rename_i i hi
    obtain ⟨z, hz, e0⟩ := map_some hr
    cases e0; exact fin rfl ha fun _ _ h1 => snd_buildSlice h he hi hz hu hop h1
  · obtain ⟨n, hn, e0⟩ := map_some hr
    cases n with
    | none => cases e0; exact fin rfl ha fun _ _ h1 => snd_load1 h he hn hop h1
    | some n => cases e0; exact fin rfl ha fun _ _ h1 => snd_loadN h he hn hop h1
  · obtain ⟨i, hi, e0⟩ := map_some hr
    cases e0; exact fin rfl ha fun _ _ h1 => snd_store h he hi hop h1
  · cases hr; exact fin rfl ha fun _ _ h1 => snd_nilCheck h he hop h1
  · obtain ⟨u, hu, e0⟩ := map_some hr
    cases e0; exact fin rfl ha fun _ _ h1 => snd_bin h he hu hop h1
  · cases hr; exact fin rfl ha fun _ _ h1 => snd_un h he hop h1
  · rename_i src dst x
    split at hr <;> (try cases hr)
    · rename_i k0 kk h1 h2; exact fin rfl ha fun _ _ h3 => snd_toInt h he h1 h2 hop h3
    · rename_i h1 h2; exact fin rfl ha fun _ _ h3 => snd_same h he h1 h2 hop h3
    · rename_i e h1 h2
      split at hr <;> (try cases hr)
      rename_i hu; exact fin rfl ha fun _ _ h3 => snd_strBytes h he h1 h2 hu hop h3
    · rename_i e1 e h1 h2
      split at hr <;> (try cases hr)
      rename_i heq hu
      have hsd : src = dst := by simpa using heq
      subst hsd
      exact fin rfl ha fun _ _ h3 => snd_markStr h he h2 hu hop h3
    · rename_i e h1 h2
      split at hr <;> (try cases hr)
      rename_i hu; exact fin rfl ha fun _ _ h3 => snd_bytesStr h he h1 h2 hu hop h3
  · split at hr <;> (try cases hr)
    rename_i u hn hu
    exact fin rfl ha fun _ _ h1 => snd_iface h he hu (fun ms e => hn ms e) hop h1
  · cases hr; exact fin rfl ha fun _ _ h1 => snd_mkfunc h he hop h1
  · cases hr; exact fin rfl ha fun _ _ h1 => snd_mkmap h hop h1
  · split at hr <;> (try cases hr)
    rename_i kt et hu
    exact fin rfl ha fun _ _ h1 => snd_mkmapN h he hu hop h1
  · cases hr; exact fin rfl ha fun _ _ h1 => snd_entry h he hop h1
  · split at hr <;> (try cases hr)
    rename_i n et hu
    exact fin rfl ha fun _ _ h1 => snd_s2ap h he hu hop h1
  · split at hr <;> (try cases hr)
    rename_i e hu
    split at hr <;> (try cases hr)
    rename_i i hi
    obtain ⟨z, hz, e0⟩ := map_some hr
    cases e0; exact fin rfl ha fun _ _ h1 => snd_mkslice h he hu hi hz hop h1
  · rename_i t x lo hi' mx
    split at hr <;> (try cases hr)
    · rename_i hu
      split at hr <;> (try cases hr)
      rename_i hm
      have hmx : mx = none := by cases mx <;> simp at hm ⊢
      subst hmx
      exact fin rfl ha fun _ _ h1 => snd_sliceStr h he hu hop h1
    · rename_i e hu
      obtain ⟨i, hi, e0⟩ := map_some hr
      cases e0; exact fin rfl ha fun _ _ h1 => snd_sliceSl h he hu hi hop h1
    · rename_i n e hu
      obtain ⟨i, hi, e0⟩ := map_some hr
      cases e0; exact fin rfl ha fun _ _ h1 => snd_sliceArr h he (.inl hu) hi hop h1
    · rename_i arr hu
      split at hr <;> (try cases hr)
      rename_i n e hu2
      obtain ⟨i, hi, e0⟩ := map_some hr
      cases e0; exact fin rfl ha fun _ _ h1 => snd_sliceArr h he (.inr ⟨arr, hu, hu2⟩) hi hop h1
  · split at hr <;> (try cases hr)
    rename_i fields hu
    split at hr <;> (try cases hr)
    rename_i fl hf
    split at hr <;> (try cases hr)
    rename_i i hi
    split at hr <;> (try cases hr)
    rename_i hz
    exact fin rfl ha fun _ _ h1 => snd_addOff h he hu hf hi hz hop h1
  · split at hr <;> (try cases hr)
    rename_i fields hu
    split at hr <;> (try cases hr)
    rename_i fl hf
    obtain ⟨n, hn, e0⟩ := map_some hr
    cases e0; exact fin rfl ha fun _ _ h1 => snd_part h he hu hf hn hop h1
  · split at hr <;> (try cases hr)
    · rename_i e hu
      obtain ⟨i, hi, e0⟩ := map_some hr
      cases e0; exact fin rfl ha fun _ _ h1 => snd_idxS h he hu hi hop h1
    · rename_i n e hu
      obtain ⟨i, hi, e0⟩ := map_some hr
      cases e0; exact fin rfl ha fun _ _ h1 => snd_idxA h he hu hi hop h1
  · split at hr <;> (try cases hr)
    · rename_i hu; exact fin rfl ha fun _ _ h1 => snd_strAt h he hu hop h1
    · rename_i n e hu
      split at hr <;> (try cases hr)
      rename_i inf ag hi hag
      exact fin rfl ha fun _ _ h1 => snd_arrAt h he hu hi hag hop h1
  · split at hr <;> (try cases hr)
    rename_i kt e hu
    split at hr <;> (try cases hr)
    rename_i u i hk hi
    obtain ⟨z, hz, e0⟩ := map_some hr
    cases e0; exact fin rfl ha fun _ _ h1 => snd_look h he hu hk hi hz hop h1
  · split at hr <;> (try cases hr)
    rename_i kt e hu
    obtain ⟨u, hk, e0⟩ := map_some hr
    cases e0; exact fin rfl ha fun _ _ h1 => snd_mput h he hu hk (.inl hop) h1
  · split at hr <;> (try cases hr)
    rename_i kt e hu
    obtain ⟨u, hk, e0⟩ := map_some hr
    cases e0; exact fin rfl ha fun _ _ h1 => snd_mput h he hu hk (.inr hop) h1
  · split at hr <;> (try cases hr)
    · rename_i hu; exact fin rfl ha fun _ _ h1 => snd_rangeStr h he hu hop h1
    · rename_i kt e hu; exact fin rfl ha fun _ _ h1 => snd_rangeMap h he hu hop h1
  · rename_i x str
    cases hr
    cases str with
    | true => exact fin rfl ha fun _ _ h1 => snd_nextStr h he hop h1
    | false => exact snd_nextMap h he hop ha
  · split at hr <;> (try cases hr)
    rename_i u i hn hu hi
    obtain ⟨z, hz, e0⟩ := map_some hr
    cases e0; exact fin rfl ha fun _ _ h1 => snd_ext2 h he hu (fun ms e => hn ms e) hi hz hop h1
  · cases hr; exact fin rfl ha fun _ _ h1 => snd_ext h he hop h1
  · exact call_snd hT h he hop hr ha
  · cases hr; exact fin rfl ha fun _ _ h1 => snd_pan h he hop h1
  · cases hr
end
end Go.E

namespace Go.E

/-- The fence: wide; in a round, that round's. -/
def FW (r : Option Nat) : Fence := { fn := fun _ => True, depth := none, alive := false, round := r }
theorem FW_wide : FW none = Fence.wide := rfl

def MRel (β : Bt) : List Nat → List Deferred → Prop
  | [], [] => True
  | d :: ds, m :: ms => (∃ p, β d = some p ∧ m = { target := .collected p.rb, args := #[] }) ∧ MRel β ds ms
  | _, _ => False
theorem MRel.mono {β β' : Bt} (hb : β.le β') : ∀ {ds : List Nat} {ms : List Deferred}, MRel β ds ms → MRel β' ds ms
  | [], [], _ => trivial
  | d :: ds, m :: ms, h => ⟨let ⟨p, h1, h2⟩ := h.1; ⟨p, hb _ _ h1, h2⟩, MRel.mono hb h.2⟩
  | [], _ :: _, h => h.elim
  | _ :: _, [], h => h.elim

def RoRel (β : Bt) : Option Nat → Option Nat → Prop
  | none, none => True
  | some l, some r => ∃ p, β l = some p ∧ r = p.rb
  | _, _ => False
theorem RoRel.mono {β β' : Bt} (hb : β.le β') {x y : Option Nat} (h : RoRel β x y) : RoRel β' x y := by
  cases x <;> cases y <;> first | exact h | (obtain ⟨p, h1, h2⟩ := h; exact ⟨p, hb _ _ h1, h2⟩)

structure StRel (β : Bt) (st : St) (ro : Option Nat) (a : Act) : Prop where
  env : EnvRel β st.env a.tmps
  marks : MRel β st.marks a.defers
  round : RoRel β st.round ro
theorem StRel.mono {β β' : Bt} (hb : β.le β') {st : St} {ro : Option Nat} {a : Act} (h : StRel β st ro a) : StRel β' st ro a := ⟨h.env.mono hb, h.marks.mono hb, h.round.mono hb⟩
theorem StRel.put {β : Bt} {st : St} {ro : Option Nat} {a : Act} (h : StRel β st ro a) (d : Option Nat) {v v' : Value} (hv : VRel β v v') : StRel β (st.put d (some v)) ro (a.put d v') := by
  refine ⟨?_, ?_, h.round⟩
  · have := h.env.put d hv
    cases d <;> exact this
  · cases d <;> exact h.marks

def XRel (β : Bt) : RExit → Exit → Prop
  | .norm, .normal => True
  | .ret, .ret => True
  | .exit i, .exit j => i = j
  | .pan v, .panic ch => ∃ v', ch = [{ v := v', recovered := false }] ∧ VRel β v v'
  | _, _ => False

section
variable {P : Program} {Fz : Fr} {w0 : World}

/-- What is asked behind a piece of code. -/
def QOk (P : Program) (Fz : Fr) (w0 : World) (β : Bt) (ro : Option Nat) (k : RExit → St → AHeap → Prop) : Exit → Act → World → Prop :=
  fun ex a' w' => ∃ e st' H' β', k e st' H' ∧ β.le β' ∧ Rel P Fz w0 β' H' w' ∧ StRel β' st' ro a' ∧ XRel β' e ex

/-- What is asked behind a call. -/
def ROk (P : Program) (Fz : Fr) (w0 : World) (β : Bt) (k : CRes → AHeap → Prop) : Ending → World → Prop :=
  fun e w' => ∃ cr H' β', k cr H' ∧ β.le β' ∧ Rel P Fz w0 β' H' w' ∧ (match cr, e with
    | .ret v, .returned v' => VRel β' v v'
    | .pan v, .panicked ch => ∃ v', ch = [{ v := v', recovered := false }] ∧ VRel β' v v'
    | _, _ => False)

def CodeSnd (P : Program) (S : S3 Prop) : Prop := ∀ (Fz : Fr) (w0 : World) (β : Bt) (H : AHeap) (w : World) (c : Code) (rc : RCode) (st : St) (ro : Option Nat) (a : Act) (k : RExit → St → AHeap → Prop) (n : Nat),
  rcode P c = some rc → Rel P Fz w0 β H w → StRel β st ro a → S.code rc st H k → c.wpIn (FW ro) n P (QOk P Fz w0 β ro k) a w
def CallSnd (P : Program) (S : S3 Prop) : Prop := ∀ (Fz : Fr) (w0 : World) (β : Bt) (H : AHeap) (w : World) (f : FuncId) (args : List Value) (args' : Array Value) (k : CRes → AHeap → Prop),
  Rel P Fz w0 β H w → LRel β args args'.toList → S.call f args H k → (callFunc f args').run P w = .ok (.enter f args') w ∧ ∀ n, CallsIn Fence.wide n P f args' w (ROk P Fz w0 β k)

theorem QOk.le {β β2 : Bt} {ro : Option Nat} {k : RExit → St → AHeap → Prop} (hb : β.le β2) {e : Exit} {a : Act} {w : World} (h : QOk P Fz w0 β2 ro k e a w) : QOk P Fz w0 β ro k e a w := by
  obtain ⟨x, st, H, β3, h1, h2, h3⟩ := h
  exact ⟨x, st, H, β3, h1, Bt.le_trans hb h2, h3⟩

theorem callsIn_FW {n : Nat} {f : FuncId} {args : Array Value} {w : World} {R : Ending → World → Prop} (ro : Option Nat) (h : CallsIn Fence.wide n P f args w R) : CallsIn (FW ro) n P f args w R := h

theorem roper_spec {ops : Array Oper} {o : Oper} {r : ROper} (hr : roper P ops o = some r) : r.dst = o.dst ∧ rop P o.type o.op = some r.op := by
  unfold roper at hr
  split at hr <;> (try cases hr)
  rename_i x hx
  split at hr
  · cases hr; exact ⟨rfl, hx⟩
  · split at hr <;> (try cases hr)
    exact ⟨rfl, hx⟩

theorem wanted_snd {β : Bt} {env : Env} {tmps : Array Value} {ops : Array Oper} {o : Oper} {ro : ROper} (he : EnvRel β env tmps) (hr : roper P ops o = some ro) {b : Bool} (hw : wanted env ro = some b) :
    Region.wanted o (yielded ops tmps) = b := by
  unfold roper at hr
  split at hr <;> (try cases hr)
  split at hr
  · rename_i hg
    cases hr
    simp only [wanted] at hw; cases hw
    simp [Region.wanted, hg]
  · rename_i j c hg
    split at hr <;> (try cases hr)
    rename_i t ht
    simp only [wanted] at hw
    simp only [Region.wanted, hg, yielded, ht, Option.bind_some]
    split at hw
    · rename_i d hd
      cases hw
      obtain ⟨v', h1, h2⟩ := he.get hd
      rw [h1, h2.invBool]; simp
    · rename_i v hnb hv
      cases hw
      obtain ⟨v', h1, h2⟩ := he.get hv
      rw [h1]
      cases h2 <;> first | rfl | exact absurd rfl (hnb _)
    · cases hw
end
end Go.E

namespace Go.E
section
variable {P : Program} {Fz : Fr} {w0 : World} {β : Bt} {H H' : AHeap} {w : World} {S : S3 Prop} {T : Tab}

theorem puts_rel {β : Bt} : ∀ (ps : List Nat) (args : List Value) (args' : List Value) (env : Env) (tmps : Array Value), EnvRel β env tmps → LRel β args args' → 
    EnvRel β (env.puts ps args) ((ps.zip args').foldl (fun tmps (x : Nat × Value) => tmps.setIfInBounds x.1 x.2) tmps)
  | [], args, args', env, tmps, he, _ => by simp only [Env.puts, List.zip_nil_left, List.foldl_nil]; exact he
  | p :: ps, [], args', env, tmps, he, hl => by
    have : args' = [] := List.length_eq_zero_iff.1 (by have := hl.1; simpa using this.symm)
    subst this
    simp only [Env.puts, List.zip_nil_right, List.foldl_nil]; exact he
  | p :: ps, v :: args, args', env, tmps, he, hl => by
    cases args' with
    | nil => have := hl.1; simp at this
    | cons v' args' =>
      simp only [Env.puts, List.zip_cons_cons, List.foldl_cons]
      have h0 : VRel β v v' := hl.2 0 v v' rfl rfl
      have ht : LRel β args args' := ⟨by have := hl.1; simpa using this, fun i x y a b => hl.2 (i + 1) x y (by simpa using a) (by simpa using b)⟩
      exact puts_rel ps args args' _ _ (he.put (some p) h0) ht

theorem loop_at (h : Rel P Fz w0 β H w) {l : Nat} {p : Pl} {env : Env} {ps : List Nat} {ra rb : RCode} {st : LoopState} {pend : Option RExit} {d : Nat} (hg : H.get l = some (.loop env ps ra rb st pend d)) (hb : β l = some p) :
    p.ro = false ∧ ∃ (lr : Loop) (q : Pl), w.heap[p.rb]? = some (.loop lr) ∧ EnvRel β env lr.tmps ∧ lr.params = ps.toArray ∧ rcode P lr.assign = some ra ∧ rcode P lr.body = some rb ∧
      lr.state = st ∧ lr.pending = pend.map exCode ∧ β d = some q ∧ lr.defers = q.rb := by
  obtain ⟨q, ro, h1, h2, h3⟩ := h.live l _ hg
  rw [hb] at h1; cases h1
  obtain ⟨hr, lr, q, rfl, g⟩ := h3
  exact ⟨hr, lr, q, h2, g⟩

theorem run_getLoop {l : Nat} {lr : Loop} (hh : w.heap[l]? = some (.loop lr)) : (Go.Instr.getLoop l).run P w = .ok lr w := by
  simp [Go.Instr.getLoop, run_getO hh (by simp)]

/-- **A ROUND.** -/
theorem round_snd (hC : CodeSnd P S) (h : Rel P Fz w0 β H w) {l : Nat} {p : Pl} {args : List Value} {args' : Array Value} (hb : β l = some p) (hl : LRel β args args'.toList) {k : Value → AHeap → Prop} (hk : roundS S l args H k) :
    ∃ (fn : FuncId) (tmps : Array Value) (assign body : Code), (Go.Instr.yield p.rb args').run P w = .ok (.round p.rb fn tmps assign body) w ∧ ∀ (n : Nat) (ro : Option Nat),
      RoundIn (FW ro) n P p.rb fn tmps assign body w fun e w' => ∃ v v' H' β', e = .returned v' ∧ k v H' ∧ β.le β' ∧ VRel β' v v' ∧ Rel P Fz w0 β' H' w' := by
  unfold roundS at hk
  split at hk <;> (try exact hk.elim)
  rename_i env params ra rb st0 pend0 d0 hg
  split at hk
  · exact hk.elim
  rename_i hlen
  simp only [ne_eq, Decidable.not_not] at hlen
  obtain ⟨hpr, lr, q, hh, he, hps, hras, hrb, hst, hpe, hd, hdr⟩ := loop_at h hg hb
  refine ⟨lr.fn, (params.zip args'.toList).foldl (fun tmps (x : Nat × Value) => tmps.setIfInBounds x.1 x.2) lr.tmps, lr.assign, lr.body, ?_, fun n ro => ?_⟩
  · have hsz : args'.size = params.length := by have := hl.1; simp at this; omega
    simp only [Go.Instr.yield, Sem.run_bind, run_getLoop hh, Result.andThen_ok, hps]
    rw [if_neg (by simp [hsz])]
    simp only [Sem.run_pure]
    congr 2
    rw [← Array.foldl_toList]
    simp
  · refine roundIn_of_wpIn trivial ?_
    change lr.assign.wpIn (FW (some p.rb)) n P _ _ w
    have hst1 : StRel β ⟨env.puts params args, [], some l⟩ (some p.rb) { tmps := (params.zip args'.toList).foldl (fun tmps (x : Nat × Value) => tmps.setIfInBounds x.1 x.2) lr.tmps, defers := [] } :=
      ⟨puts_rel params args args'.toList env lr.tmps he hl, trivial, ⟨p, hb, rfl⟩⟩
    refine wpIn_mono (hC Fz w0 β H w lr.assign ra _ (some p.rb) _ _ n hras h hst1 hk) ?_
    rintro ex a1 w1 ⟨x, st1, H1, β1, hk1, hle1, hrel1, hs1, hx⟩
    split at hk1
    · rename_i env' p' a' b' pend d hg1
      cases ex <;> simp only [XRel] at hx <;> (try exact hx.elim)
      simp only [Exit.then]
      have hb1 := hle1 _ _ hb
      obtain ⟨hpr1, lr1, q1, hh1, he1, hps1, hras1, hrb1, hst2, hpe1, hd1, hdr1⟩ := loop_at hrel1 hg1 hb1
      let w2 : World := { w1 with heap := w1.heap.setIfInBounds p.rb (.loop { lr1 with state := .busy }) }
      refine ⟨w2, ?_, ?_⟩
      · simp only [Go.Instr.beginRound, Sem.run_bind, run_getLoop hh1, Result.andThen_ok, run_setO hh1 (by simp), hst2]
        rfl
      · change lr.body.wpIn (FW (some p.rb)) n P _ _ w2
        have hrel2 : Rel P Fz w0 β1 (H1.set l (.loop env' p' a' b' .busy pend d)) w2 :=
          hrel1.set (p := p) (o := .loop env' p' a' b' .busy pend d) (ro := .loop { lr1 with state := .busy }) hg1 hb1 hpr1 ⟨hpr1, { lr1 with state := .busy }, q1, rfl, he1, hps1, hras1, hrb1, rfl, hpe1, hd1, hdr1⟩ rfl rfl rfl rfl
        refine wpIn_mono (hC Fz w0 β1 _ w2 lr.body rb st1 (some p.rb) a1 _ n hrb hrel2 hs1 hk1) ?_
        rintro ex2 a2 w3 ⟨x2, st2, H2, β2, hk2, hle2, hrel3, hs2, hx2⟩
        split at hk2 <;> (try exact hk2.elim)
        rename_i env2 p2 a2' b2 s2 pe2 d2 hg2
        have hb2 := hle2 _ _ hb1
        obtain ⟨hpr2, lr2, q2, hh2, he2, hps2, hras2, hrb2, hst3, hpe2, hd2, hdr2⟩ := loop_at hrel3 hg2 hb2
        have hle := Bt.le_trans hle1 hle2
        have endR : ∀ (j : Option RExit) (js : LoopState), js = (if (j.map exCode).isNone then .ready else .done) → ∀ v, v = .bool (j.map exCode).isNone → k v (H2.set l (.loop env2 p2 a2' b2 js j d2)) →
            ∃ v' w4, (Go.Instr.endRound p.rb (j.map exCode)).run P w3 = .ok v' w4 ∧ ∃ v v1 H' β', Ending.returned v' = .returned v1 ∧ k v H' ∧ β.le β' ∧ VRel β' v v1 ∧ Rel P Fz w0 β' H' w4 := by
          intro j js hjs v hv hkk
          refine ⟨v, { w3 with heap := w3.heap.setIfInBounds p.rb (.loop { lr2 with state := js, pending := j.map exCode }) }, ?_, v, v, _, β2, rfl, hkk, hle, by rw [hv]; exact .bool _, ?_⟩
          · simp only [Go.Instr.endRound, Sem.run_bind, run_getLoop hh2, Result.andThen_ok, run_setO hh2 (by simp), hjs, hv]
            rfl
          · exact hrel3.set (p := p) (o := .loop env2 p2 a2' b2 js j d2) (ro := .loop { lr2 with state := js, pending := j.map exCode }) hg2 hb2 hpr2 ⟨hpr2, { lr2 with state := js, pending := j.map exCode }, q2, rfl, he2, hps2, hras2, hrb2, rfl, rfl, hd2, hdr2⟩ rfl rfl rfl rfl
        cases x2 with
        | norm =>
          cases ex2 <;> simp only [XRel] at hx2 <;> (try exact hx2.elim)
          exact endR none .ready rfl _ rfl hk2
        | ret =>
          cases ex2 <;> simp only [XRel] at hx2 <;> (try exact hx2.elim)
          exact endR (some .ret) .done rfl _ rfl hk2
        | exit id =>
          cases ex2 <;> simp only [XRel] at hx2 <;> (try exact hx2.elim)
          subst hx2
          exact endR (some (.exit id)) .done rfl _ rfl hk2
        | pan v => exact hk2.elim
    · exact hk1.elim

/-- **AN OPERATION, WITH THE CALLS THAT IT MAKES.** -/
theorem oper_snd (hT : ∀ t name f, T.meth t name = some f → rmeth P t name = some f) (hC : CodeSnd P S) (hK : CallSnd P S) (h : Rel P Fz w0 β H w) {st : St} {ro : Option Nat} {a : Act} (hs : StRel β st ro a) {ops : Array Oper} {o : Oper} {r : ROper}
    (hr : roper P ops o = some r) {k : Value → AHeap → Prop} {kp : Value → AHeap → Prop} (ha : evOper T S r st H k kp) {n : Nat} {K : Act → World → Prop} {Q : Exit → Act → World → Prop}
    (h1 : ∀ v v' H' β' w', k v H' → β.le β' → VRel β' v v' → Rel P Fz w0 β' H' w' → K (a.put o.dst v') w')
    (h2 : ∀ v v' H' β' w', kp v H' → β.le β' → VRel β' v v' → Rel P Fz w0 β' H' w' → Q (.panic [{ v := v', recovered := false }]) a w') :
    (if Region.wanted o (yielded ops a.tmps) then o.wpIn (FW ro) n P a w K Q else (∀ f, o.about P w a.eval = some f → (FW ro).fn f) ∧ K (a.put o.dst undef) w) := by
  unfold evOper at ha
  have hdst : r.dst = o.dst ∧ rop P o.type o.op = some r.op := by
    unfold roper at hr
    split at hr <;> (try cases hr)
    rename_i x hx
    split at hr
    · cases hr; exact ⟨rfl, hx⟩
    · split at hr <;> (try cases hr)
      exact ⟨rfl, hx⟩
  split at ha
  · rename_i hw
    rw [if_pos (wanted_snd hs.env hr hw)]
    refine ⟨fun _ _ => trivial, ?_⟩
    have hnd : ∀ c, o.op ≠ .defer c := by
      intro c e
      have := hdst.2
      rw [e] at this
      simp [rop] at this
    rw [Oper.semAt_eq _ _ _ hnd]
    obtain ⟨res, H', hk, hres⟩ := op_snd hT h hs.env hdst.2 ha
    cases res with
    | val v =>
      obtain ⟨v', w', β', e1, e2, e3, e4⟩ := hres
      rw [e1]
      exact h1 v v' H' β' w' hk e2 e3 e4
    | skip =>
      obtain ⟨w', β', e1, e2, e3⟩ := hres
      rw [e1]
      exact h1 undef undef H' β' w' hk e2 (undef_rel β') e3
    | enter f args =>
      obtain ⟨args', e1, e2, e3⟩ := hres
      obtain ⟨c1, c2⟩ := hK Fz w0 β H' w f args args' _ e3 e2 hk
      rw [e1, c1]
      refine ⟨fun hd => by simp [FW] at hd, (callsIn_FW ro (c2 (n - 1))).mono ?_⟩
      rintro e w' ⟨cr, H2, β', g1, g2, g3, g4⟩
      cases cr with
      | ret v =>
        cases e <;> simp only at g4 <;> (try exact g4.elim)
        exact h1 v _ H2 β' w' g1 g2 g4 g3
      | pan v =>
        cases e <;> simp only at g4 <;> (try exact g4.elim)
        obtain ⟨v', rfl, g5⟩ := g4
        exact h2 v v' H2 β' w' g1 g2 g5 g3
    | round l args =>
      obtain ⟨p, args', e1, e2, e3, e4⟩ := hres
      obtain ⟨fn, tmps, assign, body, c1, c2⟩ := round_snd hC e4 e1 e2 hk
      rw [e3, c1]
      refine ⟨fun hd => by simp [FW] at hd, (c2 (n - 1) ro).mono ?_⟩
      rintro e w' ⟨v, v', H2, β', rfl, g1, g2, g3, g4⟩
      exact h1 v v' H2 β' w' g1 g2 g3 g4
    | pan v =>
      obtain ⟨v', e1, e2, e3⟩ := hres
      rw [e1]
      exact h2 v v' H' β w hk (Bt.le_refl β) e2 e3
  · rename_i hw
    rw [if_neg (by rw [wanted_snd hs.env hr hw]; simp)]
    exact ⟨fun _ _ => trivial, h1 undef undef H β w ha (Bt.le_refl β) (undef_rel β) h⟩
  · exact ha.elim
end
end Go.E

namespace Go.E
section
variable {P : Program} {Fz : Fr} {w0 : World} {β : Bt} {H H' : AHeap} {w : World} {S : S3 Prop} {T : Tab}

theorem ropers_spec (ops : Array Oper) : ∀ (l : List Oper) (rs : List ROper), ropers P ops l = some rs → rs.length = l.length ∧ ∀ (i : Nat) (o : Oper) (r : ROper), l[i]? = some o → rs[i]? = some r → roper P ops o = some r
  | [], rs, h => by simp [ropers] at h; subst h; exact ⟨rfl, fun i o r x => by simp at x⟩
  | o :: l, rs, h => by
    simp only [ropers] at h
    split at h <;> (try cases h)
    rename_i r rs' h1 h2
    obtain ⟨e1, e2⟩ := ropers_spec ops l rs' h2
    refine ⟨by simp [e1], fun i o' r' x y => ?_⟩
    cases i with
    | zero => simp at x y; subst x; subst y; exact h1
    | succ i => simp at x y; exact e2 i o' r' x y

theorem ops_snd (hT : ∀ t name f, T.meth t name = some f → rmeth P t name = some f) (hC : CodeSnd P S) (hK : CallSnd P S) {ops : Array Oper} {rs : List ROper} (hr : ropers P ops ops.toList = some rs) {ro : Option Nat} {n : Nat}
    {k : RExit → St → AHeap → Prop} : ∀ (m i : Nat) (β0 β : Bt) (H : AHeap) (w : World) (st : St) (a : Act), i + m = ops.size → β0.le β → Rel P Fz w0 β H w → StRel β st ro a → evOps T S (rs.drop i) st H k →
      wpOpsIn (FW ro) n P ops (QOk P Fz w0 β0 ro k) (List.range' i m) a w
  | 0, i, β0, β, H, w, st, a, him, hle, h, hs, ha => by
    obtain ⟨e1, _⟩ := ropers_spec ops _ rs hr
    have : rs.drop i = [] := List.drop_eq_nil_of_le (by rw [e1]; simp; omega)
    rw [this] at ha
    simp only [evOps] at ha
    exact ⟨.norm, st, H, β, ha, hle, h, hs, trivial⟩
  | m + 1, i, β0, β, H, w, st, a, him, hle, h, hs, ha => by
    obtain ⟨e1, e2⟩ := ropers_spec ops _ rs hr
    have hi : i < ops.size := by omega
    have hi2 : i < rs.length := by rw [e1]; simpa using hi
    rw [List.drop_eq_getElem_cons hi2] at ha
    simp only [evOps] at ha
    rw [List.range'_succ, wpOpsIn_cons]
    unfold wpOpIn
    have ho : ops[i]? = some ops[i] := Array.getElem?_eq_getElem hi
    rw [ho]
    have hro := e2 i ops[i] rs[i] (by simp [hi]) (List.getElem?_eq_getElem hi2)
    have hdst : rs[i].dst = ops[i].dst := (roper_spec hro).1
    refine oper_snd hT hC hK h hs hro ha ?_ ?_
    · intro v v' H' β' w' hk hb hv hrel
      refine ops_snd hT hC hK hr m (i + 1) β0 β' H' w' _ _ (by omega) (Bt.le_trans hle hb) hrel ?_ hk
      rw [hdst]
      exact (hs.mono hb).put _ hv
    · intro v v' H' β' w' hk hb hv hrel
      exact ⟨.pan v, st, H', β', hk, Bt.le_trans hle hb, hrel, hs.mono hb, v', rfl, hv⟩

theorem region_snd (hT : ∀ t name f, T.meth t name = some f → rmeth P t name = some f) (hC : CodeSnd P S) (hK : CallSnd P S) {id : Nat} {ops : Array Oper} {rs : List ROper} (hr : ropers P ops ops.toList = some rs) {ro : Option Nat} {n : Nat}
    {k : RExit → St → AHeap → Prop} {st : St} {a : Act} (h : Rel P Fz w0 β H w) (hs : StRel β st ro a) (ha : evOps T S rs st H k) : (Code.region id ops false).wpIn (FW ro) n P (QOk P Fz w0 β ro k) a w := by
  refine wpIn_region ?_
  rw [List.range_eq_range']
  exact ops_snd hT hC hK hr ops.size 0 β β H w st a (by simp) (Bt.le_refl β) h hs (by simpa using ha)

/-- What is asked of a region that draws its order (shown in the next text). -/
def DrawSnd (P : Program) (T : Tab) (S : S3 Prop) : Prop := ∀ (Fz : Fr) (w0 : World) (β : Bt) (H : AHeap) (w : World) (id : Nat) (ops : Array Oper) (rs : List ROper) (st : St) (ro : Option Nat) (a : Act) (k : RExit → St → AHeap → Prop) (n : Nat) (bef plan : List Nat),
  rcode P (.region id ops true) = some (.draw rs bef plan) → Rel P Fz w0 β H w → StRel β st ro a → evDraw T S rs bef H.next plan ⟨st, [], []⟩ (H.reserve rs.length) k → (Code.region id ops true).wpIn (FW ro) n P (QOk P Fz w0 β ro k) a w

/-- Code of one kind. -/
theorem exCode_wp {e : RExit} (he : e = .ret ∨ ∃ id, e = .exit id) {ro : Option Nat} {n : Nat} {k : RExit → St → AHeap → Prop} {st : St} {a : Act} {β0 : Bt} (hle : β0.le β) (h : Rel P Fz w0 β H w) (hs : StRel β st ro a) (hk : k e st H) :
    (exCode e).wpIn (FW ro) n P (QOk P Fz w0 β0 ro k) a w := by
  rcases he with rfl | ⟨id, rfl⟩
  · exact wpIn_ret ⟨.ret, st, H, β, hk, hle, h, hs, trivial⟩
  · exact wpIn_exit ⟨.exit id, st, H, β, hk, hle, h, hs, rfl⟩

theorem call_leads {d : Deferred} {w1 : World} {ro : Option Nat} : ∀ f', Target.leads P w1 d.target d.args = some f' → (FW ro).fn f' := fun _ _ => trivial

theorem rangeFunc_snd (hC : CodeSnd P S) (hK : CallSnd P S) {g : Operand} {ps : Array Tmp} {ca cb : Code} {ra rb : RCode} (hra : rcode P ca = some ra) (hrb : rcode P cb = some rb) {ro : Option Nat} {n : Nat}
    {k : RExit → St → AHeap → Prop} {st : St} {a : Act} (h : Rel P Fz w0 β H w) (hs : StRel β st ro a) (ha : stepCode T S (.rangeFunc g ps.toList ra rb) st H k) :
    (Code.rangeFunc g ps ca cb).wpIn (FW ro) n P (QOk P Fz w0 β ro k) a w := by
  simp only [stepCode] at ha
  split at ha <;> (try exact ha.elim)
  rename_i f first cap hf
  obtain ⟨first', cap', hy, l1, l2⟩ := (opv_rel hs.env hf).invFn
  refine wpIn_rangeFunc fun fn _ => ?_
  -- the call, once the record lies
  have callit : ∀ (β1 : Bt) (H1 : AHeap) (w1 : World) (l : Nat) (p : Pl) (st' : St) (mark : List Deferred), β.le β1 → Rel P Fz w0 β1 H1 w1 → β1 l = some p →
      (Go.Instr.enterLoop fn a.tmps ps ca cb ro).run P w = .ok (p.rb, mark) w1 → StRel β1 st' ro { a with defers := mark ++ a.defers } →
      S.call f (first.toList ++ [.func (.yield l) #[] #[]] ++ cap.toList) H1 (fun cr H1 =>
          match cr with
          | .pan v => k (.pan v) st' H1
          | .ret _ => match H1.get l with
            | some (.loop env p a b s pend d) =>
              if s = .busy then Ver.bot else
              jumpK pend fun e => k e st' (H1.set l (.loop env p a b .exhausted pend d))
            | _ => Ver.bot) →
      ∃ (l : Nat) (mark : List Deferred) (w₁ : World) (d : Deferred) (w₁' : World) (f : FuncId) (args : Array Value) (w₂ : World),
        (Go.Instr.enterLoop fn a.tmps ps ca cb (FW ro).round).run P w = .ok (l, mark) w₁ ∧ (resolve a.eval (rangeCall g l) 0).run P w₁ = .ok d w₁' ∧ (∀ f', Target.leads P w₁' d.target d.args = some f' → (FW ro).fn f') ∧
        (invoke d.target d.args).run P w₁' = .ok (.enter f args) w₂ ∧ ((FW ro).depth.isSome = true → 1 ≤ n) ∧ CallsIn (FW ro) (n - 1) P f args w₂ (rangePost (FW ro) n P l (QOk P Fz w0 β ro k) { a with defers := mark ++ a.defers }) := by
    intro β1 H1 w1 l p st' mark hle hrel hb hent hst hcall
    have hl : LRel β1 (first.toList ++ [.func (.yield l) #[] #[]] ++ cap.toList) (first' ++ #[Value.func (.yield p.rb) #[] #[]] ++ cap').toList := by
      simp only [Array.toList_append]
      exact ((l1.mono hle).append (LRel.cons (.yield hb) (LRel.nil β1))).append (l2.mono hle)
    obtain ⟨c1, c2⟩ := hK Fz w0 β1 H1 w1 f _ _ _ hrel hl hcall
    refine ⟨p.rb, mark, w1, { target := .fn (.func f) cap', args := first' ++ #[Value.func (.yield p.rb) #[] #[]] }, w1, f, _, w1, hent, ?_, call_leads, ?_, fun hd => by simp [FW] at hd, (callsIn_FW ro (c2 (n - 1))).mono ?_⟩
    · unfold resolve; simp only []; rw [hy]; simp [Deferred.ofValue, Act.eval]
    · simp only [invoke]; exact c1
    · rintro e w3 ⟨cr, H2, β2, g1, g2, g3, g4⟩
      cases cr with
      | ret v =>
        cases e <;> simp only at g4 <;> (try exact g4.elim)
        simp only at g1
        split at g1 <;> (try exact g1.elim)
        rename_i env2 p2 a2 b2 s2 pend2 d2 hg2
        split at g1
        · exact g1.elim
        rename_i hnb
        have hb2 := g2 _ _ hb
        obtain ⟨hpr, lr, q, hh, he, hps, hras, hrb', hst3, hpe, hd, hdr⟩ := loop_at g3 hg2 hb2
        let w4 : World := { w3 with heap := w3.heap.setIfInBounds p.rb (.loop { lr with state := .exhausted }) }
        have hrel4 : Rel P Fz w0 β2 (H2.set l (.loop env2 p2 a2 b2 .exhausted pend2 d2)) w4 :=
          g3.set (p := p) (o := .loop env2 p2 a2 b2 .exhausted pend2 d2) (ro := .loop { lr with state := .exhausted }) hg2 hb2 hpr ⟨hpr, { lr with state := .exhausted }, q, rfl, he, hps, hras, hrb', rfl, hpe, hd, hdr⟩ rfl rfl rfl rfl
        refine ⟨lr.pending, w4, ?_, ?_⟩
        · simp only [Go.Instr.endLoop, Sem.run_bind, run_getLoop hh, Result.andThen_ok]
          rw [if_neg (by rw [hst3]; simpa using hnb)]
          simp only [Sem.run_bind, run_setO hh (by simp), Result.andThen_ok]
          rfl
        · have hle2 := Bt.le_trans hle g2
          rw [hpe]
          cases pend2 with
          | none => exact ⟨.norm, st', _, β2, g1, hle2, hrel4, hst.mono g2, trivial⟩
          | some e =>
            simp only [Option.map_some]
            cases e with
            | norm => exact g1.elim
            | ret => exact exCode_wp (.inl rfl) hle2 hrel4 (hst.mono g2) g1
            | exit id => exact exCode_wp (.inr ⟨id, rfl⟩) hle2 hrel4 (hst.mono g2) g1
            | pan v => exact g1.elim
      | pan v =>
        cases e <;> simp only at g4 <;> (try exact g4.elim)
        obtain ⟨v', rfl, g5⟩ := g4
        exact ⟨.pan v, st', H2, β2, g1, Bt.le_trans hle g2, g3, hst.mono g2, v', rfl, g5⟩
  have hro := hs.round
  split at ha
  · rename_i hnr
    rw [hnr] at hro
    cases ro with
    | some r => exact hro.elim
    | none =>
      -- the block for the deferred calls, the record
      have hn0 := h.nextNone
      let pd : Pl := ⟨w.heap.size, 0, 0, 0, true, false⟩
      have hrel1 := h.alloc (p := pd) (o := .deferred) (ro := .deferred (some [])) rfl rfl ⟨rfl, rfl⟩
      have hle1 := Bt.le_upd pd hn0
      let wa : World := { w with heap := w.heap.push (.deferred (some [])) }
      let lr : Loop := { state := .ready, pending := none, fn, tmps := a.tmps, params := ps, assign := ca, body := cb, defers := w.heap.size }
      let pl : Pl := ⟨wa.heap.size, 0, 0, 0, true, false⟩
      have hn1 := hrel1.nextNone
      have hle2 := Bt.le_upd pl hn1
      have hnx : (H.alloc .deferred).next = H.next + 1 := AHeap.next_alloc _ _
      have hrel2 := hrel1.alloc (p := pl) (o := .loop st.env ps.toList ra rb .ready none H.next) (ro := .loop lr) rfl rfl
        ⟨rfl, lr, pd, rfl, hs.env.mono (Bt.le_trans hle1 hle2), by simp [lr], hra, hrb, rfl, rfl, hle2 _ _ (Bt.upd_at _ _ _), rfl⟩
      refine callit _ _ { wa with heap := wa.heap.push (.loop lr) } (H.next + 1) pl { st with marks := H.next :: st.marks } [{ target := .collected w.heap.size, args := #[] }] (Bt.le_trans hle1 hle2) hrel2 (by rw [← hnx]; exact Bt.upd_at _ _ _) ?_ ?_ ha
      · simp only [Go.Instr.enterLoop, Sem.run_bind, run_newObj, Result.andThen_ok, Sem.run_pure]
        rfl
      · refine ⟨hs.env.mono (Bt.le_trans hle1 hle2), ⟨⟨pd, hle2 _ _ (Bt.upd_at _ _ _), rfl⟩, hs.marks.mono (Bt.le_trans hle1 hle2)⟩, ?_⟩
        simp only [hnr]; trivial
  · rename_i l0 hnr
    rw [hnr] at hro
    cases ro with
    | none => exact hro.elim
    | some r =>
      obtain ⟨p0, hb0, rfl⟩ := hro
      split at ha <;> (try exact ha.elim)
      rename_i env0 ps0 a0 b0 s0 pe0 d0 hg0
      obtain ⟨hpr, lr0, q0, hh0, he0, hps0, hras0, hrb0, hst0, hpe0, hd0, hdr0⟩ := loop_at h hg0 hb0
      let lr : Loop := { state := .ready, pending := none, fn, tmps := a.tmps, params := ps, assign := ca, body := cb, defers := lr0.defers }
      let pl : Pl := ⟨w.heap.size, 0, 0, 0, true, false⟩
      have hn1 := h.nextNone
      have hle2 := Bt.le_upd pl hn1
      have hrel2 := h.alloc (p := pl) (o := .loop st.env ps.toList ra rb .ready none d0) (ro := .loop lr) rfl rfl
        ⟨rfl, lr, q0, rfl, hs.env.mono hle2, by simp [lr], hra, hrb, rfl, rfl, hle2 _ _ hd0, hdr0⟩
      refine callit _ _ { w with heap := w.heap.push (.loop lr) } H.next pl st [] hle2 hrel2 (Bt.upd_at _ _ _) ?_ ?_ ha
      · simp only [Go.Instr.enterLoop, Sem.run_bind, run_getLoop hh0, run_newObj, Result.andThen_ok, Sem.run_pure]
        rfl
      · exact hs.mono hle2
end
end Go.E

namespace Go.E
section
variable {P : Program} {Fz : Fr} {w0 : World} {β : Bt} {H H' : AHeap} {w : World} {S : S3 Prop} {T : Tab}

/-- A block is given up: whatever becomes of its real one. -/
theorem Rel.killSet (h : Rel P Fz w0 β H w) {i : Nat} {p : Pl} {o0 : AObj} {ro : Obj} (hi : H.get i = some o0) (hp : β i = some p) (hr : p.ro = false) {w' : World}
    (hw : w'.heap = w.heap.setIfInBounds p.rb ro) (h1 : w'.os = w.os) (h2 : w'.tape = w.tape) (h3 : w'.output = w.output) : Rel P Fz w0 β (H.kill i) w' := by
  have look : ∀ x ox, (H.kill i).get x = some ox → x ≠ i ∧ H.get x = some ox := by
    intro x ox hx
    rw [AHeap.get_kill] at hx
    split at hx
    · cases hx
    · exact ⟨fun e => ‹¬ i = x› e.symm, hx⟩
  refine ⟨fun j q hq => by rw [AHeap.next_kill]; exact h.dom j q hq, fun j o' hj => ?_, fun a b oa ob q q' hab ha hb => h.sep a b oa ob q q' hab (look a oa ha).2 (look b ob hb).2, fun r o' hf => ?_,
    fun j o q hj => h.fzsep j o q (look j o hj).2, fun j hj => by rw [AHeap.next_kill]; exact h.rz j hj, fun j o q hj => h.old j o q (look j o hj).2, ⟨h1.trans h.same.os, h2.trans h.same.tape, h3.trans h.same.output, by rw [hw]; simpa using h.same.size⟩⟩
  · obtain ⟨hne, hj'⟩ := look j o' hj
    obtain ⟨q, r, a, b, c⟩ := h.live j o' hj'
    refine ⟨q, r, a, ?_, c⟩
    have := h.sep i j o0 o' p q (fun e => hne e.symm) hi hj' hp a hr
    rw [hw, Array.getElem?_setIfInBounds_ne this]; exact b
  · have h2 := h.fz r o' hf
    have hne : p.rb ≠ r := fun e => by have := h.fzsep i o0 p hi hp hr; rw [e, hf] at this; cases this
    rw [hw, Array.getElem?_setIfInBounds_ne hne]; exact h2

/-- The marks are taken over, one by one. -/
theorem marks_snd {fn : Func} {tmps : Array Value} {n : Nat} {R : Ending → World → Prop} {u : FrameMode} (hu : u ≠ .run) : ∀ (ds : List Nat) (ms : List Deferred) (H : AHeap) (w : World) (H1 : AHeap), Rel P Fz w0 β H w → MRel β ds ms → shutMarks H ds = some H1 →
    (∀ w1, Rel P Fz w0 β H1 w1 → LeavesIn Fence.wide n P fn tmps R [] u w1) → LeavesInM Fence.wide n P fn tmps R ms u w
  | [], [], H, w, H1, h, _, hs, hk => by simp only [shutMarks] at hs; cases hs; exact hk w h
  | d :: ds, m :: ms, H, w, H1, h, hm, hs, hk => by
    obtain ⟨⟨p, hb, rfl⟩, hm2⟩ := hm
    simp only [shutMarks] at hs
    split at hs <;> (try cases hs)
    rename_i hg
    obtain ⟨q, ro, h1, h2, h3⟩ := h.live d _ hg
    rw [hb] at h1; cases h1
    obtain ⟨hpr, rfl⟩ := h3
    have htake : (Go.Instr.takeDeferred p.rb).run P w = .ok [] { w with heap := w.heap.setIfInBounds p.rb (.deferred none) } := by
      simp [Go.Instr.takeDeferred, run_getO h2 (by simp), run_setO h2 (by simp)]
    exact ⟨hu, .inl ⟨p.rb, _, rfl, htake, marks_snd hu ds ms _ _ H1 (h.killSet (p := p) (ro := .deferred none) hg hb hpr rfl rfl rfl rfl) hm2 hs hk⟩⟩
  | [], _ :: _, _, _, _, _, hm, _, _ => hm.elim
  | _ :: _, [], _, _, _, _, hm, _, _ => hm.elim

def resSem (tmps : Array Value) : ResultVar → Sem Value
  | .tmp t => pure (tmps.getD t undef)
  | .cell a t => do loadVar t (← asAddr (tmps.getD a undef))
theorem results_eq (fn : Func) (tmps : Array Value) : results fn tmps = (do let vs ← fn.results.mapM (resSem tmps); pure (if h : vs.size = 1 then vs[0] else .tuple vs)) := by
  unfold results
  congr 1

theorem results_snd (h : Rel P Fz w0 β H w) {env : Env} {tmps : Array Value} (he : EnvRel β env tmps) : ∀ (l : List ResultVar) (rs : List RRes) (vs : List Value), rress P l = some rs → resVs env H rs = some vs →
    ∃ vs', (l.mapM (m := Sem) (resSem tmps)).run P w = .ok vs' w ∧ LRel β vs vs'
  | [], rs, vs, hr, hv => by
    simp only [rress] at hr; cases hr
    simp only [resVs] at hv; cases hv
    exact ⟨[], by simp, LRel.nil β⟩
  | r :: l, rs, vs, hr, hv => by
    simp only [rress] at hr
    split at hr <;> (try cases hr)
    rename_i x xs h1 h2
    simp only [resVs] at hv
    split at hv <;> (try cases hv)
    rename_i v vs2 g1 g2
    obtain ⟨vs', e1, e2⟩ := results_snd h he l xs vs2 h2 g2
    have key : ∃ v', (resSem tmps r).run P w = .ok v' w ∧ VRel β v v' := by
      cases r with
      | tmp t =>
        simp only [rres] at h1; cases h1
        simp only [resV] at g1
        obtain ⟨v', q1, q2⟩ := he.get g1
        exact ⟨v', by simp [resSem, q1], q2⟩
      | cell ad t =>
        simp only [rres] at h1
        obtain ⟨n, hn, e⟩ := map_some h1
        cases n with
        | none =>
          cases e
          simp only [resV] at g1
          split at g1 <;> (try cases g1)
          rename_i hl
          obtain ⟨u, hu, hl⟩ := Option.bind_eq_some_iff.1 hl
          obtain ⟨u', q1, q2⟩ := he.get hu
          obtain ⟨b, off, rc, e1, _, _, _, hc⟩ := load_snd h q2 hl
          obtain ⟨v', h1, h2⟩ := hc 0 v rfl
          simp only [Nat.add_zero] at h1
          exact ⟨v', by simp [resSem, q1, e1, asAddr, loadVar, run_agg1 hn, h1], h2⟩
        | some n =>
          cases e
          simp only [resV] at g1
          obtain ⟨cs, hl, rfl⟩ := map_some g1
          obtain ⟨u, hu, hl⟩ := Option.bind_eq_some_iff.1 hl
          obtain ⟨u', q1, q2⟩ := he.get hu
          obtain ⟨b, off, rc, e1, hr, hl2, _, _⟩ := load_snd h q2 hl
          exact ⟨.agg rc, by simp [resSem, q1, e1, asAddr, loadVar, (run_aggN hn).1, (run_aggN hn).2, hr], by have := hl2.agg; simpa using this⟩
    obtain ⟨v', k1, k2⟩ := key
    refine ⟨v' :: vs', ?_, LRel.cons k2 e2⟩
    rw [List.mapM_cons]
    simp only [Sem.run_bind, Sem.run_pure]
    rw [k1]; simp only [Result.andThen_ok]; rw [e1]; rfl

theorem tupled_rel {vs vs' : List Value} (h : LRel β vs vs') : VRel β (tupled vs) (if hh : vs'.toArray.size = 1 then vs'.toArray[0] else .tuple vs'.toArray) := by
  cases vs with
  | nil =>
    have : vs' = [] := List.length_eq_zero_iff.1 (by have := h.1; simpa using this.symm)
    subst this
    exact LRel.tuple (LRel.nil β)
  | cons v vs =>
    cases vs' with
    | nil => have := h.1; simp at this
    | cons v' vs' =>
      cases vs with
      | nil =>
        have : vs' = [] := List.length_eq_zero_iff.1 (by have := h.1; simpa using this.symm)
        subst this
        exact h.2 0 v v' rfl rfl
      | cons u us =>
        cases vs' with
        | nil => have := h.1; simp at this
        | cons u' us' =>
          rw [dif_neg (by simp)]
          exact h.tuple

/-- A function of whose calls something is known otherwise. -/
def PrimOk (P : Program) (f : FuncId) (p : List Value → AHeap → Option (CRes × AHeap)) : Prop :=
  ∀ (Fz : Fr) (w0 : World) (β : Bt) (H : AHeap) (w : World) (args : List Value) (args' : Array Value) (r : CRes) (H' : AHeap), Rel P Fz w0 β H w → LRel β args args'.toList → p args H = some (r, H') →
    (callFunc f args').run P w = .ok (.enter f args') w ∧ ∀ n, CallsIn Fence.wide n P f args' w (ROk P Fz w0 β fun r' H2 => r' = r ∧ H2 = H')

structure TabOk (P : Program) (T : Tab) : Prop where
  meth : ∀ t name f, T.meth t name = some f → rmeth P t name = some f
  code : ∀ f rf, T.fn f = some (.code rf) → rfun P f = some rf
  prim : ∀ f p, T.fn f = some (.prim p) → PrimOk P f p

theorem env0_rel {args : List Value} {args' : Array Value} (hl : LRel β args args'.toList) (n : Nat) : EnvRel β (args.map some ++ List.replicate (n - args.length) (some undef)) (args' ++ Array.replicate (n - args'.size) undef) := by
  have hlen : args.length = args'.size := by have := hl.1; simpa using this
  refine ⟨by simp [hlen], fun t v v' x y => ?_⟩
  by_cases ht : t < args.length
  · rw [List.getElem?_append_left (by simpa using ht), List.getElem?_map] at x
    rw [Array.getElem?_append_left (by omega)] at y
    obtain ⟨u, hu, e⟩ := map_some x
    cases e
    exact hl.2 t v v' hu (by simpa using y)
  · rw [List.getElem?_append_right (by simp; omega)] at x
    rw [Array.getElem?_append_right (by omega)] at y
    rw [List.getElem?_replicate] at x
    rw [Array.getElem?_replicate] at y
    split at x
    · split at y
      · cases x; cases y; exact undef_rel β
      · cases y
    · cases x

theorem callStep_snd (hT : TabOk P T) (hC : CodeSnd P S) : CallSnd P ⟨stepCode T S, stepCall T S⟩ := by
  intro Fz w0 β H w f args args' k h hl hcall
  simp only [stepCall] at hcall
  split at hcall
  · rename_i rf hf
    split at hcall <;> (try exact hcall.elim)
    rename_i hle
    have hrf := hT.code f rf hf
    unfold rfun at hrf
    split at hrf <;> (try cases hrf)
    rename_i fn hfn
    split at hrf
    · cases hrf
    rename_i hname
    split at hrf <;> (try cases hrf)
    rename_i c hbody
    split at hrf <;> (try cases hrf)
    rename_i rb rrs hrb hrr
    have hlen : args.length = args'.size := by have := hl.1; simpa using this
    refine ⟨?_, fun n => ?_⟩
    · have hn : ¬ fn.name = "runtime.NumGoroutine" := by simpa using hname
      simp [callFunc, hfn, hn, hbody]
    · refine callsIn_of_wp_marks hfn hbody trivial ?_
      change c.wpIn (FW none) n P _ _ w
      have hst : StRel β ⟨args.map some ++ List.replicate (fn.ntmps - args.length) (some undef), [], none⟩ none { tmps := args' ++ Array.replicate (fn.ntmps - args'.size) undef, defers := [] } := ⟨env0_rel hl _, trivial, trivial⟩
      refine wpIn_mono (hC Fz w0 β H w c rb _ none _ _ n hrb h hst hcall) ?_
      rintro ex a1 w1 ⟨x, st1, H1, β1, hk, hle1, hrel, hs1, hx⟩
      have hret : ∀ (hk : retS st1 H1 rrs k), LeavesInM Fence.wide n P fn a1.tmps (ROk P Fz w0 β k) a1.defers .returning w1 := by
        intro hk
        unfold retS at hk
        split at hk <;> (try exact hk.elim)
        rename_i H2 hsm
        split at hk <;> (try exact hk.elim)
        rename_i vs hvs
        refine marks_snd (by simp) st1.marks a1.defers H1 w1 H2 hrel hs1.marks hsm fun w2 hrel2 => ?_
        obtain ⟨vs', e1, e2⟩ := results_snd hrel2 hs1.env fn.results.toList rrs vs hrr hvs
        refine ⟨if hh : vs'.toArray.size = 1 then vs'.toArray[0] else .tuple vs'.toArray, ?_, .ret (tupled vs), H2, β1, hk, hle1, hrel2, tupled_rel e2⟩
        rw [results_eq, Array.mapM_eq_mapM_toList]
        simp only [Sem.run_bind, Sem.run_map, e1, Result.andThen_ok, Sem.run_pure]
      cases x with
      | norm =>
        cases ex <;> simp only [XRel] at hx <;> (try exact hx.elim)
        exact hret hk
      | ret =>
        cases ex <;> simp only [XRel] at hx <;> (try exact hx.elim)
        exact hret hk
      | exit id => exact hk.elim
      | pan v =>
        cases ex <;> simp only [XRel] at hx <;> (try exact hx.elim)
        obtain ⟨v', rfl, hv⟩ := hx
        simp only at hk
        split at hk <;> (try exact hk.elim)
        rename_i H2 hsm
        exact marks_snd (by simp) st1.marks a1.defers H1 w1 H2 hrel hs1.marks hsm fun w2 hrel2 => ⟨.pan v, H2, β1, hk, hle1, hrel2, v', rfl, hv⟩
  · rename_i p hf
    split at hcall <;> (try exact hcall.elim)
    rename_i r H2 hp
    obtain ⟨c1, c2⟩ := hT.prim f p hf Fz w0 β H w args args' r H2 h hl hp
    refine ⟨c1, fun n => (c2 n).mono ?_⟩
    rintro e w' ⟨cr, H3, β', ⟨rfl, rfl⟩, g⟩
    exact ⟨_, _, β', hcall, g⟩
  · exact hcall.elim
end
end Go.E

namespace Go.E
section
variable {P : Program} {Fz : Fr} {w0 : World} {β : Bt} {H H' : AHeap} {w : World} {S : S3 Prop} {T : Tab}

def LoopSnd (P : Program) (S : S3 Prop) (m : Nat) : Prop := ∀ (Fz : Fr) (w0 : World) (β : Bt) (H : AHeap) (w : World) (c : Code) (rc : RCode) (st : St) (ro : Option Nat) (a : Act) (k : RExit → St → AHeap → Prop) (n : Nat),
  rcode P c = some rc → Rel P Fz w0 β H w → StRel β st ro a → S.code (.loop rc) st H k → Code.roundsIn (FW ro) n P c (QOk P Fz w0 β ro k) m a w

theorem rounds_mono {F : Fence} {n : Nat} {c : Code} {Q Q' : Exit → Act → World → Prop} (hq : ∀ e a w, Q e a w → Q' e a w) : ∀ (m : Nat) (a : Act) (w : World), Code.roundsIn F n P c Q m a w → Code.roundsIn F n P c Q' m a w
  | 0, _, _, h => h
  | m + 1, a, w, h => by
    rw [roundsIn_succ] at h ⊢
    refine wpIn_mono h fun e a w hh => ?_
    cases e <;> simp only [Exit.then] at hh ⊢ <;> first | exact hq _ _ _ hh | exact rounds_mono hq m a w hh

theorem loopStep_snd (hC : CodeSnd P S) {m : Nat} (hL : LoopSnd P S m) : LoopSnd P ⟨stepCode T S, stepCall T S⟩ (m + 1) := by
  intro Fz w0 β H w c rc st ro a k n hc h hs ha
  simp only [stepCode] at ha
  rw [roundsIn_succ]
  refine wpIn_mono (hC Fz w0 β H w c rc st ro a _ n hc h hs ha) ?_
  rintro ex a1 w1 ⟨x, st1, H1, β1, hk, hle, hrel, hs1, hx⟩
  cases x with
  | norm =>
    cases ex <;> simp only [XRel] at hx <;> (try exact hx.elim)
    simp only [Exit.then]
    exact rounds_mono (fun e a w hh => hh.le hle) m a1 w1 (hL Fz w0 β1 H1 w1 c rc st1 ro a1 k n hc hrel hs1 hk)
  | ret =>
    cases ex <;> simp only [XRel] at hx <;> (try exact hx.elim)
    exact ⟨.ret, st1, H1, β1, hk, hle, hrel, hs1, trivial⟩
  | exit id =>
    cases ex <;> simp only [XRel] at hx <;> (try exact hx.elim)
    exact ⟨.exit id, st1, H1, β1, hk, hle, hrel, hs1, hx⟩
  | pan v =>
    cases ex <;> simp only [XRel] at hx <;> (try exact hx.elim)
    exact ⟨.pan v, st1, H1, β1, hk, hle, hrel, hs1, hx⟩

theorem codeStep_snd (hT : TabOk P T) (hC : CodeSnd P S) (hK : CallSnd P S) (hD : DrawSnd P T S) {m : Nat} (hL : LoopSnd P S m) : CodeSnd P ⟨stepCode T S, stepCall T S⟩ := by
  intro Fz w0 β H w c rc st ro a k n hc h hs ha
  simp only at ha
  cases c with
  | skip =>
    simp only [rcode] at hc; cases hc
    exact wpIn_skip ⟨.norm, st, H, β, ha, Bt.le_refl β, h, hs, trivial⟩
  | region id ops draw =>
    cases draw with
    | false =>
      simp only [rcode] at hc
      obtain ⟨rs, hr, e⟩ := map_some hc
      cases e
      exact region_snd hT.meth hC hK hr h hs ha
    | true =>
      have hc0 := hc
      simp only [rcode] at hc
      split at hc <;> (try cases hc)
      rename_i rs hr
      split at hc <;> (try cases hc)
      exact hD Fz w0 β H w id ops rs st ro a k n _ _ hc0 h hs ha
  | seq x y =>
    simp only [rcode] at hc
    split at hc <;> (try cases hc)
    rename_i rx ry h1 h2
    simp only [stepCode] at ha
    refine wpIn_seq (wpIn_mono (hC Fz w0 β H w x rx st ro a _ n h1 h hs ha) ?_)
    rintro ex a1 w1 ⟨e, st1, H1, β1, hk, hle, hrel, hs1, hx⟩
    cases e with
    | norm =>
      cases ex <;> simp only [XRel] at hx <;> (try exact hx.elim)
      simp only [Exit.then]
      exact wpIn_mono (hC Fz w0 β1 H1 w1 y ry st1 ro a1 _ n h2 hrel hs1 hk) fun e a w hh => hh.le hle
    | ret =>
      cases ex <;> simp only [XRel] at hx <;> (try exact hx.elim)
      exact ⟨.ret, st1, H1, β1, hk, hle, hrel, hs1, trivial⟩
    | exit id =>
      cases ex <;> simp only [XRel] at hx <;> (try exact hx.elim)
      exact ⟨.exit id, st1, H1, β1, hk, hle, hrel, hs1, hx⟩
    | pan v =>
      cases ex <;> simp only [XRel] at hx <;> (try exact hx.elim)
      exact ⟨.pan v, st1, H1, β1, hk, hle, hrel, hs1, hx⟩
  | cond cc x y =>
    simp only [rcode] at hc
    split at hc <;> (try cases hc)
    rename_i rx ry h1 h2
    simp only [stepCode] at ha
    split at ha <;> (try exact ha.elim)
    · rename_i hcv
      exact wpIn_cond_true (opv_rel hs.env hcv).invBool (hC Fz w0 β H w x rx st ro a _ n h1 h hs ha)
    · rename_i hcv
      exact wpIn_cond_false (opv_rel hs.env hcv).invBool (hC Fz w0 β H w y ry st ro a _ n h2 h hs ha)
  | block id x =>
    simp only [rcode] at hc
    obtain ⟨rx, h1, e⟩ := map_some hc
    cases e
    simp only [stepCode] at ha
    refine wpIn_block (wpIn_mono (hC Fz w0 β H w x rx st ro a _ n h1 h hs ha) ?_)
    rintro ex a1 w1 ⟨e, st1, H1, β1, hk, hle, hrel, hs1, hx⟩
    cases e with
    | norm =>
      cases ex <;> simp only [XRel] at hx <;> (try exact hx.elim)
      exact ⟨.norm, st1, H1, β1, hk, hle, hrel, hs1, trivial⟩
    | ret =>
      cases ex <;> simp only [XRel] at hx <;> (try exact hx.elim)
      exact ⟨.ret, st1, H1, β1, hk, hle, hrel, hs1, trivial⟩
    | exit j =>
      cases ex <;> simp only [XRel] at hx <;> (try exact hx.elim)
      subst hx
      simp only [Exit.inBlock]
      simp only at hk
      split at hk
      · rename_i hj; rw [if_pos hj]; exact ⟨.norm, st1, H1, β1, hk, hle, hrel, hs1, trivial⟩
      · rename_i hj; rw [if_neg hj]; exact ⟨.exit j, st1, H1, β1, hk, hle, hrel, hs1, rfl⟩
    | pan v =>
      cases ex <;> simp only [XRel] at hx <;> (try exact hx.elim)
      exact ⟨.pan v, st1, H1, β1, hk, hle, hrel, hs1, hx⟩
  | loop x =>
    simp only [rcode] at hc
    obtain ⟨rx, h1, e⟩ := map_some hc
    cases e
    exact wpIn_loop_rounds (m + 1) (loopStep_snd (T := T) hC hL Fz w0 β H w x rx st ro a k n h1 h hs ha)
  | rangeFunc g ps x y =>
    simp only [rcode] at hc
    split at hc <;> (try cases hc)
    rename_i rx ry h1 h2
    exact rangeFunc_snd hC hK h1 h2 h hs ha
  | exit id =>
    simp only [rcode] at hc; cases hc
    exact wpIn_exit ⟨.exit id, st, H, β, ha, Bt.le_refl β, h, hs, rfl⟩
  | ret =>
    simp only [rcode] at hc; cases hc
    exact wpIn_ret ⟨.ret, st, H, β, ha, Bt.le_refl β, h, hs, trivial⟩
  | scope x => simp [rcode] at hc
  | label l => simp [rcode] at hc
  | goto l => simp [rcode] at hc
  | refuse w => simp [rcode] at hc

/-- **THE WHOLE**, once regions that draw are shown. -/
theorem ev_snd (hT : TabOk P T) (hD : ∀ S : S3 Prop, CodeSnd P S → CallSnd P S → DrawSnd P T S) : ∀ N, CodeSnd P (evN T N) ∧ CallSnd P (evN T N) ∧ LoopSnd P (evN T N) N
  | 0 => ⟨fun _ _ _ _ _ _ _ _ _ _ _ _ _ _ _ h => h.elim, fun _ _ _ _ _ _ _ _ _ _ _ h => h.elim, fun _ _ _ _ _ _ _ _ _ _ _ _ _ _ _ h => h.elim⟩
  | N + 1 => by
    obtain ⟨h1, h2, h3⟩ := ev_snd hT hD N
    exact ⟨codeStep_snd hT h1 h2 (hD _ h1 h2) h3, callStep_snd hT h1, loopStep_snd h1 h3⟩
end
end Go.E

namespace Go.E

/-- Two activations' slots, alike as far as operands see. -/
def Alike (e e' : Env) (xs : List Operand) : Prop := ∀ x ∈ xs, opv e x = opv e' x

theorem opvs_alike {e e' : Env} : ∀ {xs : List Operand}, Alike e e' xs → opvs e xs = opvs e' xs
  | [], _ => rfl
  | x :: r, h => by
    simp only [opvs]
    rw [h x (List.mem_cons_self ..), opvs_alike (fun y hy => h y (List.mem_cons_of_mem _ hy))]
theorem partsV_alike {e e' : Env} : ∀ {ps : List (Nat × Nat × Operand)}, Alike e e' (ps.map (·.2.2)) → partsV e ps = partsV e' ps
  | [], _ => rfl
  | (o, s, x) :: r, h => by
    simp only [partsV]
    rw [h x (by simp), partsV_alike (fun y hy => h y (by simp at hy ⊢; exact .inr hy))]
theorem opvO_alike {e e' : Env} {x : Option Operand} (h : Alike e e' x.toList) : opvO e x = opvO e' x := by
  cases x with
  | none => rfl
  | some x => simp only [opvO]; rw [h x (by simp)]

theorem aop_alike {e e' : Env} {H : AHeap} {op : ROp} (h : Alike e e' (opnds op)) : aop e H op = aop e' H op := by
  cases op <;> simp only [opnds] at h
  case build zero ps => simp only [aop]; rw [partsV_alike h]
  case buildSlice a b c d ps => simp only [aop]; rw [partsV_alike h]
  case mkfunc fn f c =>
    simp only [aop]
    rw [opvs_alike (xs := f) (fun y hy => h y (List.mem_append.2 (.inl hy))), opvs_alike (xs := c) (fun y hy => h y (List.mem_append.2 (.inr hy)))]
  case sliceStr x l hh =>
    simp only [aop]
    rw [h x (by simp), opvO_alike (x := l) (fun y hy => h y (by simp [hy])), opvO_alike (x := hh) (fun y hy => h y (by simp at hy ⊢; simp [hy]))]
  case sliceSl s x l hh m =>
    simp only [aop]
    rw [h x (by simp), opvO_alike (x := l) (fun y hy => h y (by simp at hy ⊢; simp [hy])), opvO_alike (x := hh) (fun y hy => h y (by simp at hy ⊢; simp [hy])), opvO_alike (x := m) (fun y hy => h y (by simp at hy ⊢; simp [hy]))]
  case sliceArr n s x l hh m =>
    simp only [aop]
    rw [h x (by simp), opvO_alike (x := l) (fun y hy => h y (by simp at hy ⊢; simp [hy])), opvO_alike (x := hh) (fun y hy => h y (by simp at hy ⊢; simp [hy])), opvO_alike (x := m) (fun y hy => h y (by simp at hy ⊢; simp [hy]))]
  case call f args => simp only [aop]; rw [opvs_alike h]
  case callv f args =>
    simp only [aop]
    rw [h f (by simp), opvs_alike (fun y hy => h y (List.mem_cons_of_mem _ hy))]
  case callm => rfl
  case next x b => cases b <;> (simp only [aop] <;> try rw [h x (by simp)])
  case new => rfl
  case mkmap => rfl
  case pick c a b => simp only [aop]; rw [h c (by simp), h a (by simp), h b (by simp)]
  case mput u m k x => simp only [aop]; rw [h m (by simp), h k (by simp), h x (by simp)]
  case store n a x => simp only [aop]; rw [h a (by simp), h x (by simp)]
  case bin op t u a x => simp only [aop]; rw [h a (by simp), h x (by simp)]
  case mkslice e1 s b z a x => simp only [aop]; rw [h a (by simp), h x (by simp)]
  case idxS s a x => simp only [aop]; rw [h a (by simp), h x (by simp)]
  case idxA l s a x => simp only [aop]; rw [h a (by simp), h x (by simp)]
  case strAt a x => simp only [aop]; rw [h a (by simp), h x (by simp)]
  case arrAt l s g a x => simp only [aop]; rw [h a (by simp), h x (by simp)]
  case look u z a x ok => simp only [aop]; rw [h a (by simp), h x (by simp)]
  case xbyte a x => simp only [aop]; rw [h a (by simp), h x (by simp)]
  case append e1 s b z a x => simp only [aop]; rw [h a (by simp), h x (by simp)]
  case appendZ e1 s b z a x => simp only [aop]; rw [h a (by simp), h x (by simp)]
  case copy s a x => simp only [aop]; rw [h a (by simp), h x (by simp)]
  case min2 a x => simp only [aop]; rw [h a (by simp), h x (by simp)]
  case max2 a x => simp only [aop]; rw [h a (by simp), h x (by simp)]
  case delete u a x => simp only [aop]; rw [h a (by simp), h x (by simp)]
  all_goals (simp only [aop]; rw [h _ (List.mem_singleton.2 rfl)])

theorem allocC_alike {e e' : Env} {i : Nat} {op : ROp} (h : Alike e e' (opnds op)) : allocC e i op = allocC e' i op := by
  cases op <;> simp only [opnds] at h <;> simp only [allocC]
  case box t n x => rw [h x (by simp)]
  case buildSlice a b c d ps => rw [partsV_alike h]

theorem evOp_alike {R : Type} [Ver R] {T : Tab} {e e' : Env} {H : AHeap} {op : ROp} {k : Res → AHeap → R} (h : Alike e e' (opnds op)) : evOp T e op H k = evOp T e' op H k := by
  have ha := aop_alike (H := H) h
  unfold evOp
  split
  · rename_i x; rw [h x (by simp [opnds])]
  · rename_i recv name args
    simp only [opnds] at h
    rw [h recv (by simp), opvs_alike (fun y hy => h y (List.mem_cons_of_mem _ hy))]
  · rw [ha]

theorem alike_of_names {e e' : Env} {o : ROper} (h : ∀ t ∈ names o, e[t]? = e'[t]?) : Alike e e' (opnds o.op) ∧ wanted e o = wanted e' o := by
  constructor
  · intro x hx
    cases x with
    | tmp t =>
      simp only [opv]
      rw [h t (List.mem_append.2 (.inl (List.mem_filterMap.2 ⟨_, hx, rfl⟩)))]
    | const v => rfl
    | global g => rfl
    | func f => rfl
  · unfold wanted
    cases hg : o.guard with
    | none => rfl
    | some g =>
      obtain ⟨t, b⟩ := g
      simp only
      rw [h t (List.mem_append.2 (.inr (by rw [hg]; simp)))]

theorem evOper_alike {R : Type} [Ver R] {T : Tab} {S : S3 R} {o : ROper} {st st' : St} {H : AHeap} {k : Value → AHeap → R} {kp : Value → AHeap → R} (h : ∀ t ∈ names o, st.env[t]? = st'.env[t]?) :
    evOper T S o st H k kp = evOper T S o st' H k kp := by
  obtain ⟨h1, h2⟩ := alike_of_names h
  unfold evOper
  rw [h2]
  split <;> first | rw [evOp_alike h1] | rfl

theorem pure_any {e : Env} {H : AHeap} {op : ROp} {res : Res} {H1 : AHeap} (hp : isPure op = true) (h : aop e H op = some (res, H1)) : H1 = H ∧ (∃ v, res = .val v) ∧ ∀ H2, aop e H2 op = some (res, H2) := by
  cases op <;> simp only [isPure] at hp <;> (try cases hp) <;> simp only [aop] at h ⊢
  all_goals
    repeat' split at h
    all_goals first
      | (cases h; done)
      | (cases h; exact ⟨rfl, ⟨_, rfl⟩, fun H2 => by simp [*]⟩)
      | (obtain ⟨z, hz, e0⟩ := map_some h; cases e0; exact ⟨rfl, ⟨_, rfl⟩, fun H2 => by simp [*]⟩)

theorem read_any {e : Env} {H : AHeap} {op : ROp} {res : Res} {H1 : AHeap} (hp : isRead op = true) (h : aop e H op = some (res, H1)) : H1 = H := by
  cases op <;> simp only [isRead] at hp <;> (try cases hp) <;> simp only [aop] at h
  all_goals
    repeat' split at h
    all_goals first
      | (cases h; done)
      | (cases h; rfl)
      | (obtain ⟨z, hz, e0⟩ := map_some h; cases e0; rfl)

end Go.E
