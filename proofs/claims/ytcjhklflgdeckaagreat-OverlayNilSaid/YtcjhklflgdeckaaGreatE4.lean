/- Parts of the proof: the fast form of the evaluator E finds nothing true that E does not; no condition. -/
import Derived.Test.YtcjhklflgdeckaaGreatE3
namespace Go.E

/-! The fast evaluator's slots and the others. -/
def hv (e : HT Value) (t : Nat) : Value := match e.get t with | some v => v | none => undef
theorem toL_len (e : HT Value) : ∀ (n s : Nat), (toL e n s).length = n
  | 0, _ => rfl
  | n + 1, s => by simp only [toL, List.length_cons, toL_len e n]
theorem toL_get (e : HT Value) : ∀ (n s t : Nat), (toL e n s)[t]? = if t < n then some (some (hv e (s + t))) else none
  | 0, s, t => by simp [toL]
  | n + 1, s, 0 => by simp [toL, hv]; rfl
  | n + 1, s, t + 1 => by
    simp only [toL, List.getElem?_cons_succ]
    rw [toL_get e n]
    by_cases h : t < n
    · rw [if_pos h, if_pos (by omega), show s.succ + t = s + (t + 1) by omega]
    · rw [if_neg h, if_neg (by omega)]
theorem look_toL (e : HT Value) (n : Nat) : look (toL e n 0) = eat e n := by
  funext t
  unfold look eat
  rw [toL_get]
  by_cases h : t < n
  · rw [if_pos h, show Nat.ble (Nat.succ t) n = true from AHeap.ble_t h, Nat.zero_add]
    unfold hv
    cases e.get t <;> rfl
  · rw [if_neg h, show Nat.ble (Nat.succ t) n = false from AHeap.ble_f (by omega)]; rfl
theorem toL_ext {e e' : HT Value} {n : Nat} (h : ∀ t, t < n → hv e t = hv e' t) : toL e n 0 = toL e' n 0 := by
  apply List.ext_getElem?
  intro t
  rw [toL_get, toL_get]
  by_cases ht : t < n
  · rw [if_pos ht, if_pos ht, Nat.zero_add, h t ht]
  · rw [if_neg ht, if_neg ht]
theorem hv_set (e : HT Value) (t : Nat) (v : Value) (s : Nat) : hv (e.set t (some v)) s = if s = t then v else hv e s := by
  unfold hv; rw [HT.get_set]
  by_cases h : s = t
  · rw [if_pos h, if_pos h]
  · rw [if_neg h, if_neg h]
theorem toL_set (e : HT Value) (n t : Nat) (v : Value) : (toL e n 0).set t (some v) = toL (e.set t (some v)) n 0 := by
  apply List.ext_getElem?
  intro s
  rw [List.getElem?_set, toL_len, toL_get, toL_get, Nat.zero_add, hv_set]
  by_cases hs : s < n
  · by_cases hst : t = s
    · subst hst; rw [if_pos rfl, if_pos hs, if_pos hs, if_pos rfl]
    · rw [if_neg hst, if_pos hs, if_pos hs, if_neg (fun h => hst h.symm)]
  · rw [if_neg hs, if_neg hs]
    by_cases hst : t = s
    · subst hst; rw [if_pos rfl, if_neg hs]
    · rw [if_neg hst]
theorem put_toL (e : HT Value) (n : Nat) (d : Option Nat) (v : Value) : Env.put (toL e n 0) d (some v) = toL (eput e d v) n 0 := by
  cases d with
  | none => rfl
  | some t => exact toL_set e n t v
theorem puts_toL (n : Nat) : ∀ (ts : List Nat) (vs : List Value) (e : HT Value), Env.puts (toL e n 0) ts vs = toL (eputs e ts vs) n 0
  | [], vs, e => by cases vs <;> rfl
  | t :: ts, [], e => rfl
  | t :: ts, v :: vs, e => by
    show Env.puts ((toL e n 0).set t (some v)) ts vs = toL (eputs (e.set t (some v)) ts vs) n 0
    rw [toL_set, puts_toL n ts vs]
theorem hv_ofL : ∀ (l : List (Option Value)) (s : Nat) (e : HT Value) (t : Nat), hv (ofL l s e) t = if s ≤ t ∧ t < s + l.length then (match (l[t - s]?).join with | some v => v | none => undef) else hv e t
  | [], s, e, t => by rw [if_neg (by simp)]; rfl
  | v :: l, s, e, t => by
    show hv (ofL l (Nat.succ s) (e.set s v)) t = _
    rw [hv_ofL l]
    by_cases h1 : Nat.succ s ≤ t ∧ t < Nat.succ s + l.length
    · rw [if_pos h1, if_pos (by simp only [List.length_cons]; omega), show t - s = (t - Nat.succ s) + 1 by omega, List.getElem?_cons_succ]
    · rw [if_neg h1]
      by_cases h2 : t = s
      · subst h2
        rw [if_pos (by simp only [List.length_cons]; omega)]
        unfold hv
        rw [HT.get_set, if_pos rfl, Nat.sub_self]
        rfl
      · rw [if_neg (by simp only [List.length_cons]; omega)]
        unfold hv; rw [HT.get_set, if_neg h2]
theorem toL_ofL {l : List (Option Value)} (h : l.all Option.isSome = true) : toL (ofL l 0 .leaf) l.length 0 = l := by
  apply List.ext_getElem?
  intro t
  rw [toL_get, Nat.zero_add, hv_ofL]
  by_cases ht : t < l.length
  · rw [if_pos ht, if_pos (by omega), Nat.sub_zero, List.getElem?_eq_getElem ht]
    have := (List.all_eq_true.1 h) l[t] (List.getElem_mem ht)
    cases hx : l[t] with
    | none => rw [hx] at this; cases this
    | some v => rfl
  · rw [if_neg ht, List.getElem?_eq_none (by omega)]
theorem hv_argsL : ∀ (l : List Value) (s : Nat) (e : HT Value) (t : Nat), hv (argsL l s e) t = if s ≤ t ∧ t < s + l.length then (match l[t - s]? with | some v => v | none => undef) else hv e t
  | [], s, e, t => by rw [if_neg (by simp)]; rfl
  | v :: l, s, e, t => by
    show hv (argsL l (Nat.succ s) (e.set s (some v))) t = _
    rw [hv_argsL l]
    by_cases h1 : Nat.succ s ≤ t ∧ t < Nat.succ s + l.length
    · rw [if_pos h1, if_pos (by simp only [List.length_cons]; omega), show t - s = (t - Nat.succ s) + 1 by omega, List.getElem?_cons_succ]
    · rw [if_neg h1, hv_set]
      by_cases h2 : t = s
      · subst h2
        rw [if_pos rfl, if_pos (by simp only [List.length_cons]; omega), Nat.sub_self]
        rfl
      · rw [if_neg h2, if_neg (by simp only [List.length_cons]; omega)]
theorem args_toL {args : List Value} {n : Nat} (h : args.length ≤ n) : args.map some ++ List.replicate (n - args.length) (some undef) = toL (argsL args 0 .leaf) n 0 := by
  apply List.ext_getElem?
  intro t
  rw [toL_get, Nat.zero_add, hv_argsL]
  by_cases ht : t < args.length
  · rw [List.getElem?_append_left (by simpa using ht), if_pos (by omega), if_pos (by omega), Nat.sub_zero, List.getElem?_map, List.getElem?_eq_getElem ht]; rfl
  · rw [List.getElem?_append_right (by simpa using ht), List.getElem?_replicate, if_neg (by omega : ¬ (0 ≤ t ∧ t < 0 + args.length)), List.length_map]
    by_cases h2 : t < n
    · rw [if_pos (by omega), if_pos h2]; rfl
    · rw [if_neg (by omega), if_neg h2]

/-- What the fast one finds true, is true. -/
structure FT (S : S3F) (S' : S3 Prop) : Prop where
  code : ∀ (c : RCode) (n : Nat) (e : HT Value) (m : List Nat) (r : Option Nat) (H : AHeap) (kb : RExit → HT Value → List Nat → AHeap → Bool) (kp : RExit → St → AHeap → Prop), S.code c n e m r H kb = true →
    (∀ x e m H, kb x e m H = true → kp x ⟨toL e n 0, m, r⟩ H) → S'.code c ⟨toL e n 0, m, r⟩ H kp
  call : ∀ (f : FuncId) (args : List Value) (H : AHeap) (kb : CRes → AHeap → Bool) (kp : CRes → AHeap → Prop), S.call f args H kb = true → (∀ r H, kb r H = true → kp r H) → S'.call f args H kp

variable {T : Tab} {S : S3F} {S' : S3 Prop}

theorem cond_t {b : Bool} {x : Bool} (h : (cond b x false) = true) : b = true ∧ x = true := by
  cases b <;> simp at h ⊢; exact h
theorem put_ft {r : Option (Res × AHeap)} {kb : Res → AHeap → Bool} {kp : Res → AHeap → Prop} (h : putF r kb = true) (hk : ∀ r H, kb r H = true → kp r H) : ∃ x H, r = some (x, H) ∧ kp x H := by
  unfold putF at h
  split at h
  · exact ⟨_, _, rfl, hk _ _ h⟩
  · cases h
theorem want_ft {e : HT Value} {n : Nat} {o : ROper} {yes no : Bool} (h : wantK e n o.guard yes no = true) : (wanted (toL e n 0) o = some true ∧ yes = true) ∨ (wanted (toL e n 0) o = some false ∧ no = true) := by
  unfold wantK at h
  unfold wanted
  split at h
  · rename_i hg; rw [hg]; exact .inl ⟨rfl, h⟩
  · rename_i t b hg
    rw [hg]
    have hl : ((toL e n 0)[t]?).join = eat e n t := by rw [← look_toL]; rfl
    simp only [hl]
    split at h
    · rename_i c hc
      rw [hc]
      split at h
      · exact .inl ⟨rfl, h⟩
      · exact .inl ⟨rfl, h⟩
      · rename_i h1 h2
        refine .inr ⟨?_, h⟩
        cases c <;> cases b <;> first | rfl | exact (h1 rfl rfl).elim | exact (h2 rfl rfl).elim
    · rename_i v hne hc
      rw [hc]
      refine .inr ⟨?_, h⟩
      split
      · rename_i c e1; cases e1; exact (hne _ rfl).elim
      · rfl
      · rename_i e1; cases e1
    · cases h

theorem op_ft {e : HT Value} {n : Nat} {o : ROp} {H : AHeap} {kb : Res → AHeap → Bool} {kp : Res → AHeap → Prop} (h : evOpF T (eat e n) o H kb = true) (hk : ∀ r H, kb r H = true → kp r H) : evOp T (toL e n 0) o H kp := by
  rw [← look_toL] at h
  have plain : ∀ {o : ROp}, putF (aopF (look (toL e n 0)) H o) kb = true → ∃ x H', aop (toL e n 0) H o = some (x, H') ∧ kp x H' := by
    intro o h
    obtain ⟨x, H', h1, h2⟩ := put_ft h hk
    rw [aopF_eq] at h1
    exact ⟨x, H', h1, h2⟩
  unfold evOpF at h
  split at h
  · rename_i x b
    cases b with
    | false =>
      unfold nextF at h
      simp only at h
      rw [opvG_eq] at h
      exact anext_tr h hk
    | true =>
      unfold nextF at h
      simp only at h
      obtain ⟨x1, H', h1, h2⟩ := plain (o := .next x true) h
      unfold evOp
      simp only [h1]
      exact h2
  · rename_i recv name args
    unfold callmF at h
    rw [opvG_eq, opvsG_eq] at h
    unfold evOp
    split at h <;> (try cases h)
    rename_i h1 h2
    simp only [h1, h2]
    split at h <;> (try cases h)
    rename_i h3
    simp only [h3]
    exact hk _ _ h
  · rename_i h1 h2
    obtain ⟨x1, H', h3, h4⟩ := plain h
    unfold evOp
    split
    · exact (h1 _ _ rfl).elim
    · exact (h2 _ _ _ rfl).elim
    · rw [h3]; exact h4

theorem round_ft (hS : FT S S') {l : Nat} {args : List Value} {H : AHeap} {kb : Value → AHeap → Bool} {kp : Value → AHeap → Prop} (h : roundF S l args H kb = true) (hk : ∀ r H, kb r H = true → kp r H) : roundS S' l args H kp := by
  unfold roundF at h
  unfold roundS
  split at h <;> (try cases h)
  rename_i env params assign body s1 p1 d1 h1
  simp only [h1]
  obtain ⟨hc, h⟩ := cond_t h
  simp only [Bool.and_eq_true] at hc
  rw [if_neg (by simpa using Nat.eq_of_beq_eq_true hc.1)]
  have he := puts_toL env.length params args (ofL env 0 .leaf)
  rw [toL_ofL hc.2] at he
  rw [he]
  refine hS.code _ _ _ _ _ _ _ _ h fun x e1 m1 H1 h => ?_
  unfold roundAF at h
  split at h <;> (try cases h)
  rename_i env' p' a' b' pend d h3
  simp only [h3]
  refine hS.code _ _ _ _ _ _ _ _ h fun x2 e2 m2 H2 h => ?_
  unfold roundBF at h
  split at h <;> (try cases h)
  rename_i h4
  simp only [h4]
  cases x2 with
  | norm => exact hk _ _ h
  | pan v => cases h
  | ret => exact hk _ _ h
  | exit id => exact hk _ _ h

theorem oper_ft (hS : FT S S') {o : ROper} {n : Nat} {e : HT Value} {m : List Nat} {r : Option Nat} {H : AHeap} {kb kb2 : Value → AHeap → Bool} {kp kp2 : Value → AHeap → Prop} (h : evOperF T S o n e H kb kb2 = true) (hk : ∀ r H, kb r H = true → kp r H) (hk2 : ∀ r H, kb2 r H = true → kp2 r H) :
    evOper T S' o ⟨toL e n 0, m, r⟩ H kp kp2 := by
  unfold evOperF at h
  unfold evOper
  rcases want_ft h with ⟨hw, h⟩ | ⟨hw, h⟩
  · simp only [hw]
    refine op_ft h fun x H h => ?_
    cases x with
    | val v => exact hk _ _ h
    | skip => exact hk _ _ h
    | pan v => exact hk2 _ _ h
    | enter f args =>
      refine hS.call _ _ _ _ _ h fun r H h => ?_
      cases r with
      | ret v => exact hk _ _ h
      | pan v => exact hk2 _ _ h
    | round l args => exact round_ft hS h hk
  · simp only [hw]
    exact hk _ _ h

theorem ops_ft (hS : FT S S') {n : Nat} {m : List Nat} {r : Option Nat} {kb : RExit → HT Value → List Nat → AHeap → Bool} {kp : RExit → St → AHeap → Prop} (hk : ∀ x e m H, kb x e m H = true → kp x ⟨toL e n 0, m, r⟩ H) :
    ∀ {ops : List ROper} {e : HT Value} {H : AHeap}, evOpsF T S n m kb ops e H = true → evOps T S' ops ⟨toL e n 0, m, r⟩ H kp
  | [], e, H, h => hk _ _ _ _ h
  | o :: rest, e, H, h => by
    simp only [evOpsF] at h
    simp only [evOps]
    refine oper_ft hS h (fun v H h => ?_) (fun v H h => hk _ _ _ _ h)
    simp only [St.put]
    rw [put_toL]
    exact ops_ft hS hk h

def wm (n : Nat) (w : List (Nat × ROp × HT Value × Value)) : List (Nat × ROp × Env × Value) := w.map fun x => (x.1, x.2.1, toL x.2.2.1 n 0, x.2.2.2)
theorem watch_ft (n : Nat) (H : AHeap) : ∀ (w : List (Nat × ROp × HT Value × Value)), watchOk H (wm n w) = watchOkF n H w
  | [] => rfl
  | (i, op, e, v) :: w => by
    simp only [wm, List.map_cons, watchOk, watchOkF]
    have := watch_ft n H w
    simp only [wm] at this
    rw [this, ← look_toL, aopF_eq]
    rfl
theorem wm_filter (n : Nat) (p : Nat → Bool) (w : List (Nat × ROp × HT Value × Value)) : (wm n w).filter (fun x => p x.1) = wm n (w.filter fun x => p x.1) := by
  unfold wm
  rw [List.filter_map]
  rfl
theorem alloc_ft (env : Env) (i : Nat) (o : ROp) : allocF (look env) i o = allocC env i o := by
  cases o <;> (simp only [allocF, allocC, opvG_eq, partsVG_eq] <;> try rfl)

theorem draw_ft (hS : FT S S') {n : Nat} {m : List Nat} {r : Option Nat} {ops : List ROper} {bef : List Nat} {r0 : Nat} {kb : RExit → HT Value → List Nat → AHeap → Bool} {kp : RExit → St → AHeap → Prop} (hk : ∀ x e m H, kb x e m H = true → kp x ⟨toL e n 0, m, r⟩ H) :
    ∀ {pl : List Nat} {e : HT Value} {w : List (Nat × ROp × HT Value × Value)} {pend : List (Nat × Nat × AObj)} {H : AHeap}, evDrawF T S n m ops bef r0 kb pl e w pend H = true → evDraw T S' ops bef r0 pl ⟨⟨toL e n 0, m, r⟩, wm n w, pend⟩ H kp
  | [], e, w, pend, H, h => hk _ _ _ _ h
  | i :: rest, e, w, pend, H, h => by
    simp only [evDrawF] at h
    simp only [evDraw]
    split at h
    · cases h
    rename_i o ho
    simp only [ho]
    have hg := look_toL e n
    rcases want_ft h with ⟨hw, h⟩ | ⟨hw, h⟩
    · simp only [hw]
      cases h1 : isPure o.op with
      | true =>
        rw [h1] at h
        simp only [cond] at h
        rw [if_pos rfl]
        unfold drawPureF at h
        rw [← hg, aopF_eq] at h
        split at h <;> (try cases h)
        rename_i h2
        simp only [h2, St.put]
        rw [put_toL]
        exact draw_ft hS hk h
      | false =>
        rw [h1] at h
        simp only [cond] at h
        rw [if_neg (by simp)]
        cases h1 : isRead o.op with
        | true =>
          rw [h1] at h
          simp only at h
          rw [if_pos rfl]
          unfold drawPureF at h
          rw [← hg, aopF_eq] at h
          split at h <;> (try cases h)
          rename_i h2
          simp only [h2, St.put]
          rw [put_toL]
          exact draw_ft hS hk (w := (i, o.op, e, _) :: w) h
        | false =>
          rw [h1] at h
          simp only at h
          rw [if_neg (by simp)]
          cases h1 : isAlloc o.op with
          | true =>
            rw [h1] at h
            simp only at h
            rw [if_pos rfl]
            unfold drawAllocF at h
            rw [← hg, alloc_ft] at h
            split at h <;> (try cases h)
            rename_i h2
            simp only [h2, St.put]
            rw [put_toL]
            exact draw_ft hS hk h
          | false =>
            rw [h1] at h
            simp only at h
            rw [if_neg (by simp)]
            refine oper_ft hS h (fun v H' h => ?_) (fun _ _ h => by cases h)
            obtain ⟨h3, h4⟩ := cond_t h
            rw [wm_filter n (fun j => !(bef.getD i 0).testBit j), watch_ft, h3, if_pos rfl]
            simp only [St.put]
            rw [put_toL]
            exact draw_ft hS hk h4
    · simp only [hw, St.put]
      rw [put_toL]
      exact draw_ft hS hk h

theorem resV_ft (e : HT Value) (n : Nat) (H : AHeap) (r : RRes) : resV (toL e n 0) H r = resVF e n H r := by
  have hg : ∀ t, ((toL e n 0)[t]?).join = eat e n t := fun t => by rw [← look_toL]; rfl
  cases r <;> (simp only [resV, resVF, hg] <;> try rfl)
theorem resVs_ft (e : HT Value) (n : Nat) (H : AHeap) : ∀ (rs : List RRes), resVs (toL e n 0) H rs = resVsF e n H rs
  | [] => rfl
  | r :: rs => by simp only [resVs, resVsF, resV_ft, resVs_ft e n H rs]; rfl
theorem ret_ft {e : HT Value} {n : Nat} {m : List Nat} {rd : Option Nat} {H : AHeap} {rs : List RRes} {kb : CRes → AHeap → Bool} {kp : CRes → AHeap → Prop} (h : retSF e n m H rs kb = true) (hk : ∀ r H, kb r H = true → kp r H) : retS ⟨toL e n 0, m, rd⟩ H rs kp := by
  unfold retSF at h
  unfold retS
  split at h <;> (try cases h)
  rename_i h1
  simp only [h1]
  split at h <;> (try cases h)
  rename_i h2
  rw [← resVs_ft] at h2
  simp only [h2]
  exact hk _ _ h
theorem jump_ft {pend : Option RExit} {kb : RExit → Bool} {kp : RExit → Prop} (h : jumpF pend kb = true) (hk : ∀ e, kb e = true → kp e) : jumpK pend kp := by
  unfold jumpF at h
  unfold jumpK
  split at h
  · exact hk _ h
  · exact hk _ h
  · exact hk _ h
  · cases h
def rangeEndP (l : Nat) (cr : CRes) (H1 : AHeap) (kp : RExit → AHeap → Prop) : Prop :=
  match cr with
  | .pan v => kp (.pan v) H1
  | .ret _ => match H1.get l with
    | some (.loop env p a b s pend d) => if s = .busy then Ver.bot else jumpK pend fun e => kp e (H1.set l (.loop env p a b .exhausted pend d))
    | _ => Ver.bot
theorem rangeEnd_ft {l : Nat} {cr : CRes} {H1 : AHeap} {kb : RExit → AHeap → Bool} {kp : RExit → AHeap → Prop} (h : rangeEndF l cr H1 kb = true) (hk : ∀ x H, kb x H = true → kp x H) : rangeEndP l cr H1 kp := by
  unfold rangeEndF at h
  unfold rangeEndP
  cases cr with
  | pan v => exact hk _ _ h
  | ret v =>
    simp only at h ⊢
    split at h <;> (try cases h)
    rename_i env p a b s pend d h1
    simp only [h1]
    split at h <;> (try cases h)
    rename_i hs
    rw [if_neg hs]
    exact jump_ft h fun e h => hk _ _ h

theorem code_ft (hS : FT S S') {c : RCode} {n : Nat} {e : HT Value} {m : List Nat} {r : Option Nat} {H : AHeap} {kb : RExit → HT Value → List Nat → AHeap → Bool} {kp : RExit → St → AHeap → Prop} (h : stepCodeF T S c n e m r H kb = true)
    (hk : ∀ x e m H, kb x e m H = true → kp x ⟨toL e n 0, m, r⟩ H) : stepCode T S' c ⟨toL e n 0, m, r⟩ H kp := by
  have hg := look_toL e n
  cases c with
  | skip => exact hk _ _ _ _ h
  | region ops => exact ops_ft hS hk h
  | draw ops bef plan => exact draw_ft hS hk (w := []) h
  | seq a b =>
    simp only [stepCodeF] at h
    simp only [stepCode]
    refine hS.code _ _ _ _ _ _ _ _ h fun x e m H h => ?_
    unfold seqF at h
    cases x <;> first | exact hS.code _ _ _ _ _ _ _ _ h hk | exact hk _ _ _ _ h
  | cond c a b =>
    simp only [stepCodeF] at h
    simp only [stepCode]
    rw [← hg, opvG_eq] at h
    unfold condF at h
    split at h <;> (try cases h)
    · rename_i h1; simp only [h1]; exact hS.code _ _ _ _ _ _ _ _ h hk
    · rename_i h1; simp only [h1]; exact hS.code _ _ _ _ _ _ _ _ h hk
  | block id a =>
    simp only [stepCodeF] at h
    simp only [stepCode]
    refine hS.code _ _ _ _ _ _ _ _ h fun x e m H h => ?_
    unfold blockF at h
    cases x with
    | exit j =>
      simp only at h ⊢
      cases hj : Nat.beq j id with
      | true =>
        rw [hj] at h
        rw [if_pos (Nat.eq_of_beq_eq_true hj)]; exact hk _ _ _ _ h
      | false =>
        rw [hj] at h
        rw [if_neg (fun e => by rw [e, Nat.beq_refl] at hj; cases hj)]; exact hk _ _ _ _ h
    | _ => exact hk _ _ _ _ h
  | loop a =>
    simp only [stepCodeF] at h
    simp only [stepCode]
    refine hS.code _ _ _ _ _ _ _ _ h fun x e m H h => ?_
    unfold seqF at h
    cases x <;> first | exact hS.code _ _ _ _ _ _ _ _ h hk | exact hk _ _ _ _ h
  | rangeFunc f ps a b =>
    simp only [stepCodeF] at h
    unfold rangeF at h
    rw [← hg, opvG_eq] at h
    simp only [stepCode]
    split at h <;> (try cases h)
    rename_i hf
    simp only [hf]
    cases r with
    | none =>
      simp only at h ⊢
      refine hS.call _ _ _ _ _ h fun cr H1 h => ?_
      have := rangeEnd_ft (kp := fun x H1 => kp x ⟨toL e n 0, H.next :: m, none⟩ H1) h fun x H h => hk _ _ _ _ h
      cases cr <;> exact this
    | some l0 =>
      simp only at h ⊢
      split at h <;> (try cases h)
      rename_i h1
      simp only [h1]
      refine hS.call _ _ _ _ _ h fun cr H1 h => ?_
      have := rangeEnd_ft (kp := fun x H1 => kp x ⟨toL e n 0, m, some l0⟩ H1) h fun x H h => hk _ _ _ _ h
      cases cr <;> exact this
  | exit id => exact hk _ _ _ _ h
  | ret => exact hk _ _ _ _ h

theorem call_ft (hS : FT S S') {f : FuncId} {args : List Value} {H : AHeap} {kb : CRes → AHeap → Bool} {kp : CRes → AHeap → Prop} (h : stepCallF T S f args H kb = true) (hk : ∀ r H, kb r H = true → kp r H) : stepCall T S' f args H kp := by
  unfold stepCallF at h
  unfold stepCall
  split at h
  · rename_i rf hf
    simp only [hf]
    obtain ⟨h1, h⟩ := cond_t h
    have hle := Nat.le_of_ble_eq_true h1
    rw [if_pos hle, args_toL hle]
    refine hS.code _ _ _ _ _ _ _ _ h fun x e m H h => ?_
    unfold retF at h
    cases x with
    | norm => exact ret_ft h hk
    | ret => exact ret_ft h hk
    | pan v =>
      simp only at h ⊢
      split at h <;> (try cases h)
      rename_i h2
      simp only [h2]
      exact hk _ _ h
    | exit id => cases h
  · rename_i p hf
    simp only [hf]
    split at h <;> (try cases h)
    rename_i h2
    simp only [h2]
    exact hk _ _ h
  · cases h

/-- **WHAT THE FAST COMPUTATION FINDS TRUE, IS TRUE.** -/
theorem ev_ft (T : Tab) : ∀ N, FT (evF T N) (evN T N)
  | 0 => ⟨fun c n e m r H kb kp h hk => (by cases h), fun f args H kb kp h hk => (by cases h)⟩
  | N + 1 => ⟨fun _ _ _ _ _ _ _ _ h hk => code_ft (ev_ft T N) h hk, fun _ _ _ _ _ h hk => call_ft (ev_ft T N) h hk⟩
end Go.E

namespace Go.E
theorem tru_of_fast {P : Program} {T : Tab} (hT : TabOk P T) {w : World} {β : Bt} {H : AHeap} {f : FuncId} {args : List Value} {args' : Array Value} (N : Nat) (h : Rel P (heldAll w) w β H w) (hl : LRel β args args'.toList)
    (hk : (evF T N).call f args H isTrue = true) : Tru P f args' w :=
  tru_of_ev hT N h hl ((ev_ft T N).call _ _ _ _ _ hk fun _ _ h => isTrue_spec h)
/-- A call that comes to a value: found by computing. -/
theorem up_fast {T : Tab} {N f : Nat} {args : List Value} {H : AHeap} {v : Value} (h : (evF T N).call f args H (comes v) = true) : ∃ N, (evN T N).call f args H fun r _ => r = .ret v :=
  ⟨N, (ev_ft T N).call _ _ _ _ _ h fun _ _ h => comes_spec h⟩

/-- A table of functions, resolved ahead. -/
def findF : List (Nat × RFunc) → Nat → Option FnD
  | [], _ => none
  | (g, rf) :: r, f => cond (Nat.beq g f) (some (.code rf)) (findF r f)
def qT (P : Program) (l : List (Nat × RFunc)) : Tab := ⟨findF l, (tab P).meth⟩
theorem findF_mem : ∀ {l : List (Nat × RFunc)} {f : Nat} {d : FnD}, findF l f = some d → ∃ rf, d = .code rf ∧ (f, rf) ∈ l
  | [], f, d, h => by cases h
  | (g, rf) :: r, f, d, h => by
    simp only [findF] at h
    cases hb : Nat.beq g f with
    | true =>
      rw [hb] at h
      have := Nat.eq_of_beq_eq_true hb
      subst this
      cases h
      exact ⟨rf, rfl, List.mem_cons_self ..⟩
    | false =>
      rw [hb] at h
      obtain ⟨rf', e, hm⟩ := findF_mem (l := r) h
      exact ⟨rf', e, List.mem_cons_of_mem _ hm⟩
theorem qT_ok {P : Program} {l : List (Nat × RFunc)} (h : (l.map fun x => rfun P x.1) = l.map fun x => some x.2) : TabOk P (qT P l) := by
  refine ⟨fun t name f h => h, fun f rf hf => ?_, fun f p hf => ?_⟩
  · obtain ⟨rf', e, hm⟩ := findF_mem hf
    cases e
    exact List.map_inj_left.1 h _ hm
  · obtain ⟨rf', e, hm⟩ := findF_mem hf
    cases e

/-- Calls whose arguments hold no address. -/
def closP (q : List Value → Option Value) : List Value → AHeap → Option (CRes × AHeap) := fun args H => if args.all clo then (q args).map fun v => (.ret v, H) else none
theorem prim_clos {P : Program} {T : Tab} (hT : TabOk P T) {f : FuncId} {q : List Value → Option Value}
    (hn : ∀ args v, args.all clo = true → q args = some v → clo v = true ∧ ∃ N, (evN T N).call f args AHeap.empty fun r _ => r = .ret v) : PrimOk P f (closP q) := by
  intro Fz w0 β H w args args' r H' hrel hl hp
  unfold closP at hp
  split at hp <;> (try cases hp)
  rename_i hc
  obtain ⟨v, hv, e⟩ := map_some hp
  cases e
  obtain ⟨hv1, N, hk⟩ := hn args v hc hv
  have hargs : args'.toList = args := clos_inv hc hl
  exact ans_prim hv1 (ans_of_ev hT N hv1 (Rel.start P w) (by rw [hargs]; exact clos_rel _ hc) hk) hrel
theorem clos_at {q : List Value → Option Value} {args : List Value} {v : Value} {H : AHeap} (hc : args.all clo = true) (h : q args = some v) : closP q args H = some (.ret v, H) := by
  simp only [closP, hc, if_true, h, Option.map_some]
end Go.E
