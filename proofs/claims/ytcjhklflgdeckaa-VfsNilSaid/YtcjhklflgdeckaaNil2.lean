/- Parts of the proof of VfsNilSaid: the walk through 'few', whatever lists it is handed: it answers by some bool; no condition. -/
import Derived.Test.YtcjhklflgdeckaaE2
namespace Go.Proofs.Ytcjhklflgdeckaa
open Go.E
noncomputable def innerB : RCode := (.seq (.seq (.region [⟨(some 15), .mov (.tmp 5), none⟩,
    ⟨(some 16), .mov (.tmp 0), none⟩,
    ⟨(some 17), .mov (.tmp 4), none⟩,
    ⟨(some 18), .idxS 1 (.tmp 16) (.tmp 17), none⟩,
    ⟨(some 19), .load1 (.tmp 18), none⟩,
    ⟨(some 20), .len (.slice 66) (.tmp 19), none⟩,
    ⟨(some 21), .bin .lss 3 (.int .i64) (.tmp 15) (.tmp 20), none⟩])
  (.cond (.tmp 21)
  .skip
  (.exit 2)))
  (.seq (.block 3
  (.seq (.region [⟨(some 24), .mov (.tmp 3), none⟩,
    ⟨(some 25), .bin .add 3 (.int .i64) (.tmp 24) (.const (.int .i64 1)), none⟩,
    ⟨(some 3), .mov (.tmp 25), none⟩])
  (.seq (.region [⟨(some 26), .mov (.tmp 0), none⟩,
    ⟨(some 27), .mov (.tmp 4), none⟩,
    ⟨(some 28), .idxS 1 (.tmp 26) (.tmp 27), none⟩,
    ⟨(some 29), .load1 (.tmp 28), none⟩,
    ⟨(some 30), .mov (.tmp 5), none⟩,
    ⟨(some 31), .idxS 9 (.tmp 29) (.tmp 30), none⟩,
    ⟨(some 32), .loadN 9 (.tmp 31), none⟩,
    ⟨(some 6), .new [(.int .i64 0), (.string ⟨#[]⟩), (.string ⟨#[]⟩), (.int .i64 0), (.int .i64 0), (.int .i64 0), (.bool false), (.bool false), (.slice none 0 0)] 66 9, none⟩,
    ⟨none, .store 9 (.tmp 6) (.tmp 32), none⟩])
  (.seq (.region [⟨(some 33), .mov (.tmp 3), none⟩,
    ⟨(some 34), .bin .gtr 3 (.int .i64) (.tmp 33) (.const (.int .i64 24)), none⟩,
    ⟨(some 35), .mov (.tmp 34), none⟩,
    ⟨(some 36), .addOff 8 (.tmp 6), (some (35, false))⟩,
    ⟨(some 37), .load1 (.tmp 36), (some (35, false))⟩,
    ⟨(some 38), .len (.slice 5) (.tmp 37), (some (35, false))⟩,
    ⟨(some 39), .bin .gtr 3 (.int .i64) (.tmp 38) (.const (.int .i64 5000)), (some (35, false))⟩,
    ⟨(some 40), .pick (.tmp 35) (.const (.bool true)) (.tmp 39), none⟩,
    ⟨(some 41), .mov (.tmp 40), none⟩,
    ⟨(some 42), .addOff 1 (.tmp 6), (some (41, false))⟩,
    ⟨(some 43), .load1 (.tmp 42), (some (41, false))⟩,
    ⟨(some 44), .len .string (.tmp 43), (some (41, false))⟩,
    ⟨(some 45), .bin .gtr 3 (.int .i64) (.tmp 44) (.const (.int .i64 300)), (some (41, false))⟩,
    ⟨(some 46), .pick (.tmp 41) (.const (.bool true)) (.tmp 45), none⟩,
    ⟨(some 47), .mov (.tmp 46), none⟩,
    ⟨(some 48), .addOff 2 (.tmp 6), (some (47, false))⟩,
    ⟨(some 49), .load1 (.tmp 48), (some (47, false))⟩,
    ⟨(some 50), .len .string (.tmp 49), (some (47, false))⟩,
    ⟨(some 51), .bin .gtr 3 (.int .i64) (.tmp 50) (.const (.int .i64 300)), (some (47, false))⟩,
    ⟨(some 52), .pick (.tmp 47) (.const (.bool true)) (.tmp 51), none⟩])
  (.cond (.tmp 52)
  (.seq (.region [⟨(some 2), .mov (.const (.bool false)), none⟩])
  .ret)
  .skip)))))
  (.region [⟨(some 22), .mov (.tmp 5), none⟩,
    ⟨(some 23), .bin .add 3 (.int .i64) (.tmp 22) (.const (.int .i64 1)), none⟩,
    ⟨(some 5), .mov (.tmp 23), none⟩])))
noncomputable def outerB : RCode := (.seq (.seq (.region [⟨(some 7), .mov (.tmp 4), none⟩,
    ⟨(some 8), .mov (.tmp 0), none⟩,
    ⟨(some 9), .len (.slice 62) (.tmp 8), none⟩,
    ⟨(some 10), .bin .lss 3 (.int .i64) (.tmp 7) (.tmp 9), none⟩])
  (.cond (.tmp 10)
  .skip
  (.exit 0)))
  (.seq (.block 1
  (.seq (.seq (.region [⟨(some 13), .mov (.tmp 4), none⟩,
    ⟨(some 14), .bin .geq 3 (.int .i64) (.tmp 13) (.const (.int .i64 8)), none⟩])
  (.cond (.tmp 14)
  (.seq (.region [⟨(some 2), .mov (.const (.bool false)), none⟩])
  .ret)
  .skip))
  (.seq (.region [⟨(some 5), .mov (.const (.int .i64 0)), none⟩])
  (.block 2
  (.loop innerB)))))
  (.region [⟨(some 11), .mov (.tmp 4), none⟩,
    ⟨(some 12), .bin .add 3 (.int .i64) (.tmp 11) (.const (.int .i64 1)), none⟩,
    ⟨(some 4), .mov (.tmp 12), none⟩])))
/-- valise/valiselaw20.few -/
noncomputable def rf10 : RFunc := ⟨53, [.tmp 2],
  (.seq (.region [⟨(some 2), .mov (.const (.bool false)), none⟩])
  (.seq (.region [⟨(some 3), .mov (.const (.int .i64 0)), none⟩])
  (.seq (.seq (.region [⟨(some 4), .mov (.const (.int .i64 0)), none⟩])
  (.block 0
  (.loop outerB)))
  (.seq (.region [⟨(some 2), .mov (.const (.bool true)), none⟩])
  .ret))))⟩


def IsOp (vs : List Value) : Prop := ∃ a0 s1 s2 a3 a4 a5 b6 b7 sa sl sc, vs = [.int .i64 a0, .string s1, .string s2, .int .i64 a3, .int .i64 a4, .int .i64 a5, .bool b6, .bool b7, .slice sa sl sc]
def OpsAt (H : AHeap) (v : Value) : Prop := ∃ a len cap, v = .slice a len cap ∧ (len = 0 ∨ ∃ i c t e, a = some ⟨i, 0, none⟩ ∧ H.get i = some (.cells c t e true true) ∧ ∀ j < len, ∃ vs, piece c (0 + j * 9) 9 = some vs ∧ IsOp vs)
def ListsAt (H : AHeap) (v : Value) : Prop := ∃ a len cap, v = .slice a len cap ∧ (len = 0 ∨ ∃ i c t e, a = some ⟨i, 0, none⟩ ∧ H.get i = some (.cells c t e true true) ∧ ∀ j < len, ∃ u, piece c (0 + j * 1) 1 = some [u] ∧ OpsAt H u)
theorem OpsAt.mono {H H' : AHeap} (hg : Grows H H') {v : Value} (h : OpsAt H v) : OpsAt H' v := by
  obtain ⟨a, len, cap, h1, h2⟩ := h
  refine ⟨a, len, cap, h1, h2.imp id ?_⟩
  rintro ⟨i, c, t, e, h3, h4, h5⟩
  exact ⟨i, c, t, e, h3, hg _ _ h4, h5⟩
theorem ListsAt.mono {H H' : AHeap} (hg : Grows H H') {v : Value} (h : ListsAt H v) : ListsAt H' v := by
  obtain ⟨a, len, cap, h1, h2⟩ := h
  refine ⟨a, len, cap, h1, h2.imp id ?_⟩
  rintro ⟨i, c, t, e, h3, h4, h5⟩
  exact ⟨i, c, t, e, h3, hg _ _ h4, fun j hj => by obtain ⟨u, q1, q2⟩ := h5 j hj; exact ⟨u, q1, q2.mono hg⟩⟩
theorem grows_alloc_set {H : AHeap} {o o' : AObj} : Grows H ((H.alloc o).set H.next o') := fun i ob h => by
  rw [get_set_old (get_alloc_old h) (by have := AHeap.get_lt h; omega)]

abbrev KK := RExit → St → AHeap → Prop
set_option maxRecDepth 20000 in
set_option maxHeartbeats 1000000 in
theorem inner_walk {T : Tab} (v u : Value) (i : Nat) (q : KK) : ∀ (m n k : Nat) (_ : n + m = 24) (_ : k ≤ n) (F : Nat) (_ : Fu 0 m F) (H : AHeap) (_ : ∃ a len cap b c t e, v = .slice a len cap ∧ i < len ∧ a = some ⟨b, 0, none⟩ ∧ H.get b = some (.cells c t e true true) ∧ piece c (0 + i * 1) 1 = some [u]) (_ : OpsAt H u)
    (x1 x2 x6 x7 x8 x9 x10 x11 x12 x13 x14 x15 x16 x17 x18 x19 x20 x21 x22 x23 x24 x25 x26 x27 x28 x29 x30 x31 x32 x33 x34 x35 x36 x37 x38 x39 x40 x41 x42 x43 x44 x45 x46 x47 x48 x49 x50 x51 x52 : Option Value),
    (∀ (n k : Nat) (H' : AHeap) (x1 x2 x6 x7 x8 x9 x10 x11 x12 x13 x14 x15 x16 x17 x18 x19 x20 x21 x22 x23 x24 x25 x26 x27 x28 x29 x30 x31 x32 x33 x34 x35 x36 x37 x38 x39 x40 x41 x42 x43 x44 x45 x46 x47 x48 x49 x50 x51 x52 : Option Value), n ≤ 24 → Grows H H' → q (.exit 2) ⟨[some v, x1, x2, some (.int .i64 (n : Nat)), some (.int .i64 (i : Nat)), some (.int .i64 (k : Nat)), x6, x7, x8, x9, x10, x11, x12, x13, x14, x15, x16, x17, x18, x19, x20, x21, x22, x23, x24, x25, x26, x27, x28, x29, x30, x31, x32, x33, x34, x35, x36, x37, x38, x39, x40, x41, x42, x43, x44, x45, x46, x47, x48, x49, x50, x51, x52], [], none⟩ H') →
    (∀ (H' : AHeap) (x1 x3 x4 x5 x6 x7 x8 x9 x10 x11 x12 x13 x14 x15 x16 x17 x18 x19 x20 x21 x22 x23 x24 x25 x26 x27 x28 x29 x30 x31 x32 x33 x34 x35 x36 x37 x38 x39 x40 x41 x42 x43 x44 x45 x46 x47 x48 x49 x50 x51 x52 : Option Value), q .ret ⟨[some v, x1, some (.bool false), x3, x4, x5, x6, x7, x8, x9, x10, x11, x12, x13, x14, x15, x16, x17, x18, x19, x20, x21, x22, x23, x24, x25, x26, x27, x28, x29, x30, x31, x32, x33, x34, x35, x36, x37, x38, x39, x40, x41, x42, x43, x44, x45, x46, x47, x48, x49, x50, x51, x52], [], none⟩ H') →
    (evN T F).code (.loop innerB) ⟨[some v, x1, x2, some (.int .i64 (n : Nat)), some (.int .i64 (i : Nat)), some (.int .i64 (k : Nat)), x6, x7, x8, x9, x10, x11, x12, x13, x14, x15, x16, x17, x18, x19, x20, x21, x22, x23, x24, x25, x26, x27, x28, x29, x30, x31, x32, x33, x34, x35, x36, x37, x38, x39, x40, x41, x42, x43, x44, x45, x46, x47, x48, x49, x50, x51, x52], [], none⟩ H q := by
  intro m
  induction m with
  | zero =>
    intro n k hn hk F hF H hv hu x1 x2 x6 x7 x8 x9 x10 x11 x12 x13 x14 x15 x16 x17 x18 x19 x20 x21 x22 x23 x24 x25 x26 x27 x28 x29 x30 x31 x32 x33 x34 x35 x36 x37 x38 x39 x40 x41 x42 x43 x44 x45 x46 x47 x48 x49 x50 x51 x52 h1 h2
    obtain ⟨a, len, cap, b, c, t, e, rfl, hil, rfl, hgb, hpc⟩ := hv
    obtain ⟨ua, ulen, ucap, rfl, hu⟩ := hu
    obtain ⟨F', rfl, hfc⟩ := hF.one
    refine code_loop ?_
    refine code_seq ?_
    (repeat (first
    | (with_reducible refine code_seq ?_) | (with_reducible refine code_region ?_) | (with_reducible refine ops_nil ?_)
    | (with_reducible refine val2 (by with_unfolding_all rfl) (by with_unfolding_all rfl) (by with_unfolding_all rfl) (by simp only [Env.put, List.set_cons_succ, List.set_cons_zero]; rfl) ?_) | (with_reducible refine off2 (by with_unfolding_all rfl) (by simp only [Env.put, List.set_cons_succ, List.set_cons_zero]; rfl) ?_) | (with_reducible refine code_then (by with_unfolding_all rfl) ?_) | (with_reducible refine code_else (by with_unfolding_all rfl) ?_) | (with_reducible refine code_skip ?_) | (with_reducible refine code_ret ?_) | (with_reducible refine code_exit ?_) | (with_reducible refine code_block ?_)))
    refine val2 rfl rfl (idx_ok rfl rfl hil) (by simp only [Env.put, List.set_cons_succ, List.set_cons_zero]; rfl) ?_
    refine val2 rfl rfl (load1_ok rfl (load_at hgb hpc)) (by simp only [Env.put, List.set_cons_succ, List.set_cons_zero]; rfl) ?_
    (repeat (first
    | (with_reducible refine code_seq ?_) | (with_reducible refine code_region ?_) | (with_reducible refine ops_nil ?_)
    | (with_reducible refine val2 (by with_unfolding_all rfl) (by with_unfolding_all rfl) (by with_unfolding_all rfl) (by simp only [Env.put, List.set_cons_succ, List.set_cons_zero]; rfl) ?_) | (with_reducible refine off2 (by with_unfolding_all rfl) (by simp only [Env.put, List.set_cons_succ, List.set_cons_zero]; rfl) ?_) | (with_reducible refine code_then (by with_unfolding_all rfl) ?_) | (with_reducible refine code_else (by with_unfolding_all rfl) ?_) | (with_reducible refine code_skip ?_) | (with_reducible refine code_ret ?_) | (with_reducible refine code_exit ?_) | (with_reducible refine code_block ?_)))
    refine code_cond rfl (fun hlt => ?_) (fun hge => ?_)
    rotate_left
    · (repeat (first
    | (with_reducible refine code_seq ?_) | (with_reducible refine code_region ?_) | (with_reducible refine ops_nil ?_)
    | (with_reducible refine val2 (by with_unfolding_all rfl) (by with_unfolding_all rfl) (by with_unfolding_all rfl) (by simp only [Env.put, List.set_cons_succ, List.set_cons_zero]; rfl) ?_) | (with_reducible refine off2 (by with_unfolding_all rfl) (by simp only [Env.put, List.set_cons_succ, List.set_cons_zero]; rfl) ?_) | (with_reducible refine code_then (by with_unfolding_all rfl) ?_) | (with_reducible refine code_else (by with_unfolding_all rfl) ?_) | (with_reducible refine code_skip ?_) | (with_reducible refine code_ret ?_) | (with_reducible refine code_exit ?_) | (with_reducible refine code_block ?_)))
      exact h1 n k H _ _ _ _ _ _ _ _ _ _ _ _ _ _ _ _ _ _ _ _ _ _ _ _ _ _ _ _ _ _ _ _ _ _ _ _ _ _ _ _ _ _ _ _ _ _ _ _ _ (by omega) (Grows.refl H)
    have hkl : k < ulen := by simp at hlt; omega
    (repeat (first
    | (with_reducible refine code_seq ?_) | (with_reducible refine code_region ?_) | (with_reducible refine ops_nil ?_)
    | (with_reducible refine val2 (by with_unfolding_all rfl) (by with_unfolding_all rfl) (by with_unfolding_all rfl) (by simp only [Env.put, List.set_cons_succ, List.set_cons_zero]; rfl) ?_) | (with_reducible refine off2 (by with_unfolding_all rfl) (by simp only [Env.put, List.set_cons_succ, List.set_cons_zero]; rfl) ?_) | (with_reducible refine code_then (by with_unfolding_all rfl) ?_) | (with_reducible refine code_else (by with_unfolding_all rfl) ?_) | (with_reducible refine code_skip ?_) | (with_reducible refine code_ret ?_) | (with_reducible refine code_exit ?_) | (with_reducible refine code_block ?_)))
    rw [wrap_succ60 n (by omega)]
    refine val2 rfl rfl (idx_ok rfl rfl hil) (by simp only [Env.put, List.set_cons_succ, List.set_cons_zero]; rfl) ?_
    refine val2 rfl rfl (load1_ok rfl (load_at hgb hpc)) (by simp only [Env.put, List.set_cons_succ, List.set_cons_zero]; rfl) ?_
    (repeat (first
    | (with_reducible refine code_seq ?_) | (with_reducible refine code_region ?_) | (with_reducible refine ops_nil ?_)
    | (with_reducible refine val2 (by with_unfolding_all rfl) (by with_unfolding_all rfl) (by with_unfolding_all rfl) (by simp only [Env.put, List.set_cons_succ, List.set_cons_zero]; rfl) ?_) | (with_reducible refine off2 (by with_unfolding_all rfl) (by simp only [Env.put, List.set_cons_succ, List.set_cons_zero]; rfl) ?_) | (with_reducible refine code_then (by with_unfolding_all rfl) ?_) | (with_reducible refine code_else (by with_unfolding_all rfl) ?_) | (with_reducible refine code_skip ?_) | (with_reducible refine code_ret ?_) | (with_reducible refine code_exit ?_) | (with_reducible refine code_block ?_)))
    rcases hu with hu | ⟨ub, uc, ut, ue, rfl, hug, hup⟩
    · omega
    obtain ⟨vs, hvs, a0, s1, s2, a3, a4, a5, b6, b7, sa, sl, sc, rfl⟩ := hup k hkl
    refine val2 rfl rfl (idx_ok rfl rfl hkl) (by simp only [Env.put, List.set_cons_succ, List.set_cons_zero]; rfl) ?_
    refine val2 rfl rfl (loadN_ok rfl (load_at hug hvs)) (by simp only [Env.put, List.set_cons_succ, List.set_cons_zero]; rfl) ?_
    (repeat (first
    | (with_reducible refine code_seq ?_) | (with_reducible refine code_region ?_) | (with_reducible refine ops_nil ?_)
    | (with_reducible refine val2 (by with_unfolding_all rfl) (by with_unfolding_all rfl) (by with_unfolding_all rfl) (by simp only [Env.put, List.set_cons_succ, List.set_cons_zero]; rfl) ?_) | (with_reducible refine off2 (by with_unfolding_all rfl) (by simp only [Env.put, List.set_cons_succ, List.set_cons_zero]; rfl) ?_) | (with_reducible refine code_then (by with_unfolding_all rfl) ?_) | (with_reducible refine code_else (by with_unfolding_all rfl) ?_) | (with_reducible refine code_skip ?_) | (with_reducible refine code_ret ?_) | (with_reducible refine code_exit ?_) | (with_reducible refine code_block ?_)))
    refine skip2 rfl rfl (store_agg (vs := [.int .i64 a0, .string s1, .string s2, .int .i64 a3, .int .i64 a4, .int .i64 a5, .bool b6, .bool b7, .slice sa sl sc]) rfl rfl (get_alloc_self _ _) rfl rfl rfl) (by simp only [Env.put, List.set_cons_succ, List.set_cons_zero]; rfl) ?_
    have hgr := grows_alloc_set (H := H) (o := .cells [(.int .i64 0), (.string ⟨#[]⟩), (.string ⟨#[]⟩), (.int .i64 0), (.int .i64 0), (.int .i64 0), (.bool false), (.bool false), (.slice none 0 0)] 66 9 true false) (o' := .cells [.int .i64 a0, .string s1, .string s2, .int .i64 a3, .int .i64 a4, .int .i64 a5, .bool b6, .bool b7, .slice sa sl sc] 66 9 true false)
    have hg6 := get_set_self (o' := .cells [.int .i64 a0, .string s1, .string s2, .int .i64 a3, .int .i64 a4, .int .i64 a5, .bool b6, .bool b7, .slice sa sl sc] 66 9 true false) (get_alloc_self H (.cells [(.int .i64 0), (.string ⟨#[]⟩), (.string ⟨#[]⟩), (.int .i64 0), (.int .i64 0), (.int .i64 0), (.bool false), (.bool false), (.slice none 0 0)] 66 9 true false))
    generalize ((H.alloc _).set H.next _) = H2 at hgr hg6 ⊢
    (repeat (first
    | (with_reducible refine code_seq ?_) | (with_reducible refine code_region ?_) | (with_reducible refine ops_nil ?_)
    | (with_reducible refine val2 (by with_unfolding_all rfl) (by with_unfolding_all rfl) (by with_unfolding_all rfl) (by simp only [Env.put, List.set_cons_succ, List.set_cons_zero]; rfl) ?_) | (with_reducible refine off2 (by with_unfolding_all rfl) (by simp only [Env.put, List.set_cons_succ, List.set_cons_zero]; rfl) ?_) | (with_reducible refine code_then (by with_unfolding_all rfl) ?_) | (with_reducible refine code_else (by with_unfolding_all rfl) ?_) | (with_reducible refine code_skip ?_) | (with_reducible refine code_ret ?_) | (with_reducible refine code_exit ?_) | (with_reducible refine code_block ?_)))
    rcases Bool.eq_false_or_eq_true (decide (((n + 1 : Nat) : Int) > 24)) with hd | hd
    · rw [hd]
      (repeat (first
    | (with_reducible refine code_seq ?_) | (with_reducible refine code_region ?_) | (with_reducible refine ops_nil ?_)
    | (with_reducible refine val2 (by with_unfolding_all rfl) (by with_unfolding_all rfl) (by with_unfolding_all rfl) (by simp only [Env.put, List.set_cons_succ, List.set_cons_zero]; rfl) ?_) | (with_reducible refine off2 (by with_unfolding_all rfl) (by simp only [Env.put, List.set_cons_succ, List.set_cons_zero]; rfl) ?_) | (with_reducible refine code_then (by with_unfolding_all rfl) ?_) | (with_reducible refine code_else (by with_unfolding_all rfl) ?_) | (with_reducible refine code_skip ?_) | (with_reducible refine code_ret ?_) | (with_reducible refine code_exit ?_) | (with_reducible refine code_block ?_)))
      exact h2 _ _ _ _ _ _ _ _ _ _ _ _ _ _ _ _ _ _ _ _ _ _ _ _ _ _ _ _ _ _ _ _ _ _ _ _ _ _ _ _ _ _ _ _ _ _ _ _ _ _ _ _
    · exfalso; simp at hd; omega
  | succ m ih =>
    intro n k hn hk F hF H hv hu x1 x2 x6 x7 x8 x9 x10 x11 x12 x13 x14 x15 x16 x17 x18 x19 x20 x21 x22 x23 x24 x25 x26 x27 x28 x29 x30 x31 x32 x33 x34 x35 x36 x37 x38 x39 x40 x41 x42 x43 x44 x45 x46 x47 x48 x49 x50 x51 x52 h1 h2
    obtain ⟨a, len, cap, b, c, t, e, rfl, hil, rfl, hgb, hpc⟩ := hv
    obtain ⟨ua, ulen, ucap, rfl, hu⟩ := hu
    obtain ⟨F', rfl, hfc, hfu⟩ := hF.more
    refine code_loop ?_
    refine code_seq ?_
    (repeat (first
    | (with_reducible refine code_seq ?_) | (with_reducible refine code_region ?_) | (with_reducible refine ops_nil ?_)
    | (with_reducible refine val2 (by with_unfolding_all rfl) (by with_unfolding_all rfl) (by with_unfolding_all rfl) (by simp only [Env.put, List.set_cons_succ, List.set_cons_zero]; rfl) ?_) | (with_reducible refine off2 (by with_unfolding_all rfl) (by simp only [Env.put, List.set_cons_succ, List.set_cons_zero]; rfl) ?_) | (with_reducible refine code_then (by with_unfolding_all rfl) ?_) | (with_reducible refine code_else (by with_unfolding_all rfl) ?_) | (with_reducible refine code_skip ?_) | (with_reducible refine code_ret ?_) | (with_reducible refine code_exit ?_) | (with_reducible refine code_block ?_)))
    refine val2 rfl rfl (idx_ok rfl rfl hil) (by simp only [Env.put, List.set_cons_succ, List.set_cons_zero]; rfl) ?_
    refine val2 rfl rfl (load1_ok rfl (load_at hgb hpc)) (by simp only [Env.put, List.set_cons_succ, List.set_cons_zero]; rfl) ?_
    (repeat (first
    | (with_reducible refine code_seq ?_) | (with_reducible refine code_region ?_) | (with_reducible refine ops_nil ?_)
    | (with_reducible refine val2 (by with_unfolding_all rfl) (by with_unfolding_all rfl) (by with_unfolding_all rfl) (by simp only [Env.put, List.set_cons_succ, List.set_cons_zero]; rfl) ?_) | (with_reducible refine off2 (by with_unfolding_all rfl) (by simp only [Env.put, List.set_cons_succ, List.set_cons_zero]; rfl) ?_) | (with_reducible refine code_then (by with_unfolding_all rfl) ?_) | (with_reducible refine code_else (by with_unfolding_all rfl) ?_) | (with_reducible refine code_skip ?_) | (with_reducible refine code_ret ?_) | (with_reducible refine code_exit ?_) | (with_reducible refine code_block ?_)))
    refine code_cond rfl (fun hlt => ?_) (fun hge => ?_)
    rotate_left
    · (repeat (first
    | (with_reducible refine code_seq ?_) | (with_reducible refine code_region ?_) | (with_reducible refine ops_nil ?_)
    | (with_reducible refine val2 (by with_unfolding_all rfl) (by with_unfolding_all rfl) (by with_unfolding_all rfl) (by simp only [Env.put, List.set_cons_succ, List.set_cons_zero]; rfl) ?_) | (with_reducible refine off2 (by with_unfolding_all rfl) (by simp only [Env.put, List.set_cons_succ, List.set_cons_zero]; rfl) ?_) | (with_reducible refine code_then (by with_unfolding_all rfl) ?_) | (with_reducible refine code_else (by with_unfolding_all rfl) ?_) | (with_reducible refine code_skip ?_) | (with_reducible refine code_ret ?_) | (with_reducible refine code_exit ?_) | (with_reducible refine code_block ?_)))
      exact h1 n k H _ _ _ _ _ _ _ _ _ _ _ _ _ _ _ _ _ _ _ _ _ _ _ _ _ _ _ _ _ _ _ _ _ _ _ _ _ _ _ _ _ _ _ _ _ _ _ _ _ (by omega) (Grows.refl H)
    have hkl : k < ulen := by simp at hlt; omega
    (repeat (first
    | (with_reducible refine code_seq ?_) | (with_reducible refine code_region ?_) | (with_reducible refine ops_nil ?_)
    | (with_reducible refine val2 (by with_unfolding_all rfl) (by with_unfolding_all rfl) (by with_unfolding_all rfl) (by simp only [Env.put, List.set_cons_succ, List.set_cons_zero]; rfl) ?_) | (with_reducible refine off2 (by with_unfolding_all rfl) (by simp only [Env.put, List.set_cons_succ, List.set_cons_zero]; rfl) ?_) | (with_reducible refine code_then (by with_unfolding_all rfl) ?_) | (with_reducible refine code_else (by with_unfolding_all rfl) ?_) | (with_reducible refine code_skip ?_) | (with_reducible refine code_ret ?_) | (with_reducible refine code_exit ?_) | (with_reducible refine code_block ?_)))
    rw [wrap_succ60 n (by omega)]
    refine val2 rfl rfl (idx_ok rfl rfl hil) (by simp only [Env.put, List.set_cons_succ, List.set_cons_zero]; rfl) ?_
    refine val2 rfl rfl (load1_ok rfl (load_at hgb hpc)) (by simp only [Env.put, List.set_cons_succ, List.set_cons_zero]; rfl) ?_
    (repeat (first
    | (with_reducible refine code_seq ?_) | (with_reducible refine code_region ?_) | (with_reducible refine ops_nil ?_)
    | (with_reducible refine val2 (by with_unfolding_all rfl) (by with_unfolding_all rfl) (by with_unfolding_all rfl) (by simp only [Env.put, List.set_cons_succ, List.set_cons_zero]; rfl) ?_) | (with_reducible refine off2 (by with_unfolding_all rfl) (by simp only [Env.put, List.set_cons_succ, List.set_cons_zero]; rfl) ?_) | (with_reducible refine code_then (by with_unfolding_all rfl) ?_) | (with_reducible refine code_else (by with_unfolding_all rfl) ?_) | (with_reducible refine code_skip ?_) | (with_reducible refine code_ret ?_) | (with_reducible refine code_exit ?_) | (with_reducible refine code_block ?_)))
    rcases hu with hu | ⟨ub, uc, ut, ue, rfl, hug, hup⟩
    · omega
    obtain ⟨vs, hvs, a0, s1, s2, a3, a4, a5, b6, b7, sa, sl, sc, rfl⟩ := hup k hkl
    refine val2 rfl rfl (idx_ok rfl rfl hkl) (by simp only [Env.put, List.set_cons_succ, List.set_cons_zero]; rfl) ?_
    refine val2 rfl rfl (loadN_ok rfl (load_at hug hvs)) (by simp only [Env.put, List.set_cons_succ, List.set_cons_zero]; rfl) ?_
    (repeat (first
    | (with_reducible refine code_seq ?_) | (with_reducible refine code_region ?_) | (with_reducible refine ops_nil ?_)
    | (with_reducible refine val2 (by with_unfolding_all rfl) (by with_unfolding_all rfl) (by with_unfolding_all rfl) (by simp only [Env.put, List.set_cons_succ, List.set_cons_zero]; rfl) ?_) | (with_reducible refine off2 (by with_unfolding_all rfl) (by simp only [Env.put, List.set_cons_succ, List.set_cons_zero]; rfl) ?_) | (with_reducible refine code_then (by with_unfolding_all rfl) ?_) | (with_reducible refine code_else (by with_unfolding_all rfl) ?_) | (with_reducible refine code_skip ?_) | (with_reducible refine code_ret ?_) | (with_reducible refine code_exit ?_) | (with_reducible refine code_block ?_)))
    refine skip2 rfl rfl (store_agg (vs := [.int .i64 a0, .string s1, .string s2, .int .i64 a3, .int .i64 a4, .int .i64 a5, .bool b6, .bool b7, .slice sa sl sc]) rfl rfl (get_alloc_self _ _) rfl rfl rfl) (by simp only [Env.put, List.set_cons_succ, List.set_cons_zero]; rfl) ?_
    have hgr := grows_alloc_set (H := H) (o := .cells [(.int .i64 0), (.string ⟨#[]⟩), (.string ⟨#[]⟩), (.int .i64 0), (.int .i64 0), (.int .i64 0), (.bool false), (.bool false), (.slice none 0 0)] 66 9 true false) (o' := .cells [.int .i64 a0, .string s1, .string s2, .int .i64 a3, .int .i64 a4, .int .i64 a5, .bool b6, .bool b7, .slice sa sl sc] 66 9 true false)
    have hg6 := get_set_self (o' := .cells [.int .i64 a0, .string s1, .string s2, .int .i64 a3, .int .i64 a4, .int .i64 a5, .bool b6, .bool b7, .slice sa sl sc] 66 9 true false) (get_alloc_self H (.cells [(.int .i64 0), (.string ⟨#[]⟩), (.string ⟨#[]⟩), (.int .i64 0), (.int .i64 0), (.int .i64 0), (.bool false), (.bool false), (.slice none 0 0)] 66 9 true false))
    generalize ((H.alloc _).set H.next _) = H2 at hgr hg6 ⊢
    (repeat (first
    | (with_reducible refine code_seq ?_) | (with_reducible refine code_region ?_) | (with_reducible refine ops_nil ?_)
    | (with_reducible refine val2 (by with_unfolding_all rfl) (by with_unfolding_all rfl) (by with_unfolding_all rfl) (by simp only [Env.put, List.set_cons_succ, List.set_cons_zero]; rfl) ?_) | (with_reducible refine off2 (by with_unfolding_all rfl) (by simp only [Env.put, List.set_cons_succ, List.set_cons_zero]; rfl) ?_) | (with_reducible refine code_then (by with_unfolding_all rfl) ?_) | (with_reducible refine code_else (by with_unfolding_all rfl) ?_) | (with_reducible refine code_skip ?_) | (with_reducible refine code_ret ?_) | (with_reducible refine code_exit ?_) | (with_reducible refine code_block ?_)))
    rcases Bool.eq_false_or_eq_true (decide (((n + 1 : Nat) : Int) > 24)) with hd | hd
    · rw [hd]
      (repeat (first
    | (with_reducible refine code_seq ?_) | (with_reducible refine code_region ?_) | (with_reducible refine ops_nil ?_)
    | (with_reducible refine val2 (by with_unfolding_all rfl) (by with_unfolding_all rfl) (by with_unfolding_all rfl) (by simp only [Env.put, List.set_cons_succ, List.set_cons_zero]; rfl) ?_) | (with_reducible refine off2 (by with_unfolding_all rfl) (by simp only [Env.put, List.set_cons_succ, List.set_cons_zero]; rfl) ?_) | (with_reducible refine code_then (by with_unfolding_all rfl) ?_) | (with_reducible refine code_else (by with_unfolding_all rfl) ?_) | (with_reducible refine code_skip ?_) | (with_reducible refine code_ret ?_) | (with_reducible refine code_exit ?_) | (with_reducible refine code_block ?_)))
      exact h2 _ _ _ _ _ _ _ _ _ _ _ _ _ _ _ _ _ _ _ _ _ _ _ _ _ _ _ _ _ _ _ _ _ _ _ _ _ _ _ _ _ _ _ _ _ _ _ _ _ _ _ _
    rw [hd]
    (repeat (first
    | (with_reducible refine code_seq ?_) | (with_reducible refine code_region ?_) | (with_reducible refine ops_nil ?_)
    | (with_reducible refine val2 (by with_unfolding_all rfl) (by with_unfolding_all rfl) (by with_unfolding_all rfl) (by simp only [Env.put, List.set_cons_succ, List.set_cons_zero]; rfl) ?_) | (with_reducible refine off2 (by with_unfolding_all rfl) (by simp only [Env.put, List.set_cons_succ, List.set_cons_zero]; rfl) ?_) | (with_reducible refine code_then (by with_unfolding_all rfl) ?_) | (with_reducible refine code_else (by with_unfolding_all rfl) ?_) | (with_reducible refine code_skip ?_) | (with_reducible refine code_ret ?_) | (with_reducible refine code_exit ?_) | (with_reducible refine code_block ?_)))
    refine val2 rfl rfl (load1_ok rfl (load_at hg6 rfl)) (by simp only [Env.put, List.set_cons_succ, List.set_cons_zero]; rfl) ?_
    (repeat (first
    | (with_reducible refine code_seq ?_) | (with_reducible refine code_region ?_) | (with_reducible refine ops_nil ?_)
    | (with_reducible refine val2 (by with_unfolding_all rfl) (by with_unfolding_all rfl) (by with_unfolding_all rfl) (by simp only [Env.put, List.set_cons_succ, List.set_cons_zero]; rfl) ?_) | (with_reducible refine off2 (by with_unfolding_all rfl) (by simp only [Env.put, List.set_cons_succ, List.set_cons_zero]; rfl) ?_) | (with_reducible refine code_then (by with_unfolding_all rfl) ?_) | (with_reducible refine code_else (by with_unfolding_all rfl) ?_) | (with_reducible refine code_skip ?_) | (with_reducible refine code_ret ?_) | (with_reducible refine code_exit ?_) | (with_reducible refine code_block ?_)))
    rcases Bool.eq_false_or_eq_true (decide (((sl : Nat) : Int) > 5000)) with hd2 | hd2
    · rw [hd2]
      (repeat (first
    | (with_reducible refine code_seq ?_) | (with_reducible refine code_region ?_) | (with_reducible refine ops_nil ?_)
    | (with_reducible refine val2 (by with_unfolding_all rfl) (by with_unfolding_all rfl) (by with_unfolding_all rfl) (by simp only [Env.put, List.set_cons_succ, List.set_cons_zero]; rfl) ?_) | (with_reducible refine off2 (by with_unfolding_all rfl) (by simp only [Env.put, List.set_cons_succ, List.set_cons_zero]; rfl) ?_) | (with_reducible refine code_then (by with_unfolding_all rfl) ?_) | (with_reducible refine code_else (by with_unfolding_all rfl) ?_) | (with_reducible refine code_skip ?_) | (with_reducible refine code_ret ?_) | (with_reducible refine code_exit ?_) | (with_reducible refine code_block ?_)))
      exact h2 _ _ _ _ _ _ _ _ _ _ _ _ _ _ _ _ _ _ _ _ _ _ _ _ _ _ _ _ _ _ _ _ _ _ _ _ _ _ _ _ _ _ _ _ _ _ _ _ _ _ _ _
    rw [hd2]
    (repeat (first
    | (with_reducible refine code_seq ?_) | (with_reducible refine code_region ?_) | (with_reducible refine ops_nil ?_)
    | (with_reducible refine val2 (by with_unfolding_all rfl) (by with_unfolding_all rfl) (by with_unfolding_all rfl) (by simp only [Env.put, List.set_cons_succ, List.set_cons_zero]; rfl) ?_) | (with_reducible refine off2 (by with_unfolding_all rfl) (by simp only [Env.put, List.set_cons_succ, List.set_cons_zero]; rfl) ?_) | (with_reducible refine code_then (by with_unfolding_all rfl) ?_) | (with_reducible refine code_else (by with_unfolding_all rfl) ?_) | (with_reducible refine code_skip ?_) | (with_reducible refine code_ret ?_) | (with_reducible refine code_exit ?_) | (with_reducible refine code_block ?_)))
    refine val2 rfl rfl (load1_ok rfl (load_at hg6 rfl)) (by simp only [Env.put, List.set_cons_succ, List.set_cons_zero]; rfl) ?_
    (repeat (first
    | (with_reducible refine code_seq ?_) | (with_reducible refine code_region ?_) | (with_reducible refine ops_nil ?_)
    | (with_reducible refine val2 (by with_unfolding_all rfl) (by with_unfolding_all rfl) (by with_unfolding_all rfl) (by simp only [Env.put, List.set_cons_succ, List.set_cons_zero]; rfl) ?_) | (with_reducible refine off2 (by with_unfolding_all rfl) (by simp only [Env.put, List.set_cons_succ, List.set_cons_zero]; rfl) ?_) | (with_reducible refine code_then (by with_unfolding_all rfl) ?_) | (with_reducible refine code_else (by with_unfolding_all rfl) ?_) | (with_reducible refine code_skip ?_) | (with_reducible refine code_ret ?_) | (with_reducible refine code_exit ?_) | (with_reducible refine code_block ?_)))
    rcases Bool.eq_false_or_eq_true (decide (((s1.size : Nat) : Int) > 300)) with hd3 | hd3
    · rw [hd3]
      (repeat (first
    | (with_reducible refine code_seq ?_) | (with_reducible refine code_region ?_) | (with_reducible refine ops_nil ?_)
    | (with_reducible refine val2 (by with_unfolding_all rfl) (by with_unfolding_all rfl) (by with_unfolding_all rfl) (by simp only [Env.put, List.set_cons_succ, List.set_cons_zero]; rfl) ?_) | (with_reducible refine off2 (by with_unfolding_all rfl) (by simp only [Env.put, List.set_cons_succ, List.set_cons_zero]; rfl) ?_) | (with_reducible refine code_then (by with_unfolding_all rfl) ?_) | (with_reducible refine code_else (by with_unfolding_all rfl) ?_) | (with_reducible refine code_skip ?_) | (with_reducible refine code_ret ?_) | (with_reducible refine code_exit ?_) | (with_reducible refine code_block ?_)))
      exact h2 _ _ _ _ _ _ _ _ _ _ _ _ _ _ _ _ _ _ _ _ _ _ _ _ _ _ _ _ _ _ _ _ _ _ _ _ _ _ _ _ _ _ _ _ _ _ _ _ _ _ _ _
    rw [hd3]
    (repeat (first
    | (with_reducible refine code_seq ?_) | (with_reducible refine code_region ?_) | (with_reducible refine ops_nil ?_)
    | (with_reducible refine val2 (by with_unfolding_all rfl) (by with_unfolding_all rfl) (by with_unfolding_all rfl) (by simp only [Env.put, List.set_cons_succ, List.set_cons_zero]; rfl) ?_) | (with_reducible refine off2 (by with_unfolding_all rfl) (by simp only [Env.put, List.set_cons_succ, List.set_cons_zero]; rfl) ?_) | (with_reducible refine code_then (by with_unfolding_all rfl) ?_) | (with_reducible refine code_else (by with_unfolding_all rfl) ?_) | (with_reducible refine code_skip ?_) | (with_reducible refine code_ret ?_) | (with_reducible refine code_exit ?_) | (with_reducible refine code_block ?_)))
    refine val2 rfl rfl (load1_ok rfl (load_at hg6 rfl)) (by simp only [Env.put, List.set_cons_succ, List.set_cons_zero]; rfl) ?_
    (repeat (first
    | (with_reducible refine code_seq ?_) | (with_reducible refine code_region ?_) | (with_reducible refine ops_nil ?_)
    | (with_reducible refine val2 (by with_unfolding_all rfl) (by with_unfolding_all rfl) (by with_unfolding_all rfl) (by simp only [Env.put, List.set_cons_succ, List.set_cons_zero]; rfl) ?_) | (with_reducible refine off2 (by with_unfolding_all rfl) (by simp only [Env.put, List.set_cons_succ, List.set_cons_zero]; rfl) ?_) | (with_reducible refine code_then (by with_unfolding_all rfl) ?_) | (with_reducible refine code_else (by with_unfolding_all rfl) ?_) | (with_reducible refine code_skip ?_) | (with_reducible refine code_ret ?_) | (with_reducible refine code_exit ?_) | (with_reducible refine code_block ?_)))
    rcases Bool.eq_false_or_eq_true (decide (((s2.size : Nat) : Int) > 300)) with hd4 | hd4
    · rw [hd4]
      (repeat (first
    | (with_reducible refine code_seq ?_) | (with_reducible refine code_region ?_) | (with_reducible refine ops_nil ?_)
    | (with_reducible refine val2 (by with_unfolding_all rfl) (by with_unfolding_all rfl) (by with_unfolding_all rfl) (by simp only [Env.put, List.set_cons_succ, List.set_cons_zero]; rfl) ?_) | (with_reducible refine off2 (by with_unfolding_all rfl) (by simp only [Env.put, List.set_cons_succ, List.set_cons_zero]; rfl) ?_) | (with_reducible refine code_then (by with_unfolding_all rfl) ?_) | (with_reducible refine code_else (by with_unfolding_all rfl) ?_) | (with_reducible refine code_skip ?_) | (with_reducible refine code_ret ?_) | (with_reducible refine code_exit ?_) | (with_reducible refine code_block ?_)))
      exact h2 _ _ _ _ _ _ _ _ _ _ _ _ _ _ _ _ _ _ _ _ _ _ _ _ _ _ _ _ _ _ _ _ _ _ _ _ _ _ _ _ _ _ _ _ _ _ _ _ _ _ _ _
    rw [hd4]
    (repeat (first
    | (with_reducible refine code_seq ?_) | (with_reducible refine code_region ?_) | (with_reducible refine ops_nil ?_)
    | (with_reducible refine val2 (by with_unfolding_all rfl) (by with_unfolding_all rfl) (by with_unfolding_all rfl) (by simp only [Env.put, List.set_cons_succ, List.set_cons_zero]; rfl) ?_) | (with_reducible refine off2 (by with_unfolding_all rfl) (by simp only [Env.put, List.set_cons_succ, List.set_cons_zero]; rfl) ?_) | (with_reducible refine code_then (by with_unfolding_all rfl) ?_) | (with_reducible refine code_else (by with_unfolding_all rfl) ?_) | (with_reducible refine code_skip ?_) | (with_reducible refine code_ret ?_) | (with_reducible refine code_exit ?_) | (with_reducible refine code_block ?_)))
    rw [wrap_succ60 k (by omega)]
    refine ih (n + 1) (k + 1) (by omega) (by omega) _ ?_ H2 ⟨_, len, cap, b, c, t, e, rfl, hil, rfl, hgr _ _ hgb, hpc⟩ (OpsAt.mono hgr ⟨_, ulen, ucap, rfl, .inr ⟨ub, uc, ut, ue, rfl, hug, hup⟩⟩) _ _ _ _ _ _ _ _ _ _ _ _ _ _ _ _ _ _ _ _ _ _ _ _ _ _ _ _ _ _ _ _ _ _ _ _ _ _ _ _ _ _ _ _ _ _ _ _ _
      (fun n' k' H' x1 x2 x6 x7 x8 x9 x10 x11 x12 x13 x14 x15 x16 x17 x18 x19 x20 x21 x22 x23 x24 x25 x26 x27 x28 x29 x30 x31 x32 x33 x34 x35 x36 x37 x38 x39 x40 x41 x42 x43 x44 x45 x46 x47 x48 x49 x50 x51 x52 hn' hgr' => h1 n' k' H' x1 x2 x6 x7 x8 x9 x10 x11 x12 x13 x14 x15 x16 x17 x18 x19 x20 x21 x22 x23 x24 x25 x26 x27 x28 x29 x30 x31 x32 x33 x34 x35 x36 x37 x38 x39 x40 x41 x42 x43 x44 x45 x46 x47 x48 x49 x50 x51 x52 hn' (hgr.trans hgr')) h2
    exact hfu _

set_option maxRecDepth 20000 in
set_option maxHeartbeats 1000000 in
theorem outer_walk {T : Tab} (v : Value) (q : KK) : ∀ (m i n : Nat) (_ : i + m = 8) (_ : n ≤ 24) (F : Nat) (_ : Fu 1600 m F) (H : AHeap) (_ : ListsAt H v)
    (x1 x2 x5 x6 x7 x8 x9 x10 x11 x12 x13 x14 x15 x16 x17 x18 x19 x20 x21 x22 x23 x24 x25 x26 x27 x28 x29 x30 x31 x32 x33 x34 x35 x36 x37 x38 x39 x40 x41 x42 x43 x44 x45 x46 x47 x48 x49 x50 x51 x52 : Option Value),
    (∀ (H' : AHeap) (x1 x2 x3 x4 x5 x6 x7 x8 x9 x10 x11 x12 x13 x14 x15 x16 x17 x18 x19 x20 x21 x22 x23 x24 x25 x26 x27 x28 x29 x30 x31 x32 x33 x34 x35 x36 x37 x38 x39 x40 x41 x42 x43 x44 x45 x46 x47 x48 x49 x50 x51 x52 : Option Value), q (.exit 0) ⟨[some v, x1, x2, x3, x4, x5, x6, x7, x8, x9, x10, x11, x12, x13, x14, x15, x16, x17, x18, x19, x20, x21, x22, x23, x24, x25, x26, x27, x28, x29, x30, x31, x32, x33, x34, x35, x36, x37, x38, x39, x40, x41, x42, x43, x44, x45, x46, x47, x48, x49, x50, x51, x52], [], none⟩ H') →
    (∀ (H' : AHeap) (x1 x3 x4 x5 x6 x7 x8 x9 x10 x11 x12 x13 x14 x15 x16 x17 x18 x19 x20 x21 x22 x23 x24 x25 x26 x27 x28 x29 x30 x31 x32 x33 x34 x35 x36 x37 x38 x39 x40 x41 x42 x43 x44 x45 x46 x47 x48 x49 x50 x51 x52 : Option Value), q .ret ⟨[some v, x1, some (.bool false), x3, x4, x5, x6, x7, x8, x9, x10, x11, x12, x13, x14, x15, x16, x17, x18, x19, x20, x21, x22, x23, x24, x25, x26, x27, x28, x29, x30, x31, x32, x33, x34, x35, x36, x37, x38, x39, x40, x41, x42, x43, x44, x45, x46, x47, x48, x49, x50, x51, x52], [], none⟩ H') →
    (evN T F).code (.loop outerB) ⟨[some v, x1, x2, some (.int .i64 (n : Nat)), some (.int .i64 (i : Nat)), x5, x6, x7, x8, x9, x10, x11, x12, x13, x14, x15, x16, x17, x18, x19, x20, x21, x22, x23, x24, x25, x26, x27, x28, x29, x30, x31, x32, x33, x34, x35, x36, x37, x38, x39, x40, x41, x42, x43, x44, x45, x46, x47, x48, x49, x50, x51, x52], [], none⟩ H q := by
  intro m
  induction m with
  | zero =>
    intro i n hi hn F hF H hv x1 x2 x5 x6 x7 x8 x9 x10 x11 x12 x13 x14 x15 x16 x17 x18 x19 x20 x21 x22 x23 x24 x25 x26 x27 x28 x29 x30 x31 x32 x33 x34 x35 x36 x37 x38 x39 x40 x41 x42 x43 x44 x45 x46 x47 x48 x49 x50 x51 x52 h1 h2
    obtain ⟨a, len, cap, rfl, hu⟩ := hv
    obtain ⟨F', rfl, hfc⟩ := hF.one
    refine code_loop ?_
    refine code_seq ?_
    (repeat (first
    | (with_reducible refine code_seq ?_) | (with_reducible refine code_region ?_) | (with_reducible refine ops_nil ?_)
    | (with_reducible refine val2 (by with_unfolding_all rfl) (by with_unfolding_all rfl) (by with_unfolding_all rfl) (by simp only [Env.put, List.set_cons_succ, List.set_cons_zero]; rfl) ?_) | (with_reducible refine off2 (by with_unfolding_all rfl) (by simp only [Env.put, List.set_cons_succ, List.set_cons_zero]; rfl) ?_) | (with_reducible refine code_then (by with_unfolding_all rfl) ?_) | (with_reducible refine code_else (by with_unfolding_all rfl) ?_) | (with_reducible refine code_skip ?_) | (with_reducible refine code_ret ?_) | (with_reducible refine code_exit ?_) | (with_reducible refine code_block ?_)))
    refine code_cond rfl (fun hlt => ?_) (fun hge => ?_)
    rotate_left
    · (repeat (first
    | (with_reducible refine code_seq ?_) | (with_reducible refine code_region ?_) | (with_reducible refine ops_nil ?_)
    | (with_reducible refine val2 (by with_unfolding_all rfl) (by with_unfolding_all rfl) (by with_unfolding_all rfl) (by simp only [Env.put, List.set_cons_succ, List.set_cons_zero]; rfl) ?_) | (with_reducible refine off2 (by with_unfolding_all rfl) (by simp only [Env.put, List.set_cons_succ, List.set_cons_zero]; rfl) ?_) | (with_reducible refine code_then (by with_unfolding_all rfl) ?_) | (with_reducible refine code_else (by with_unfolding_all rfl) ?_) | (with_reducible refine code_skip ?_) | (with_reducible refine code_ret ?_) | (with_reducible refine code_exit ?_) | (with_reducible refine code_block ?_)))
      exact h1 H _ _ _ _ _ _ _ _ _ _ _ _ _ _ _ _ _ _ _ _ _ _ _ _ _ _ _ _ _ _ _ _ _ _ _ _ _ _ _ _ _ _ _ _ _ _ _ _ _ _ _ _
    have hkl : i < len := by simp at hlt; omega
    (repeat (first
    | (with_reducible refine code_seq ?_) | (with_reducible refine code_region ?_) | (with_reducible refine ops_nil ?_)
    | (with_reducible refine val2 (by with_unfolding_all rfl) (by with_unfolding_all rfl) (by with_unfolding_all rfl) (by simp only [Env.put, List.set_cons_succ, List.set_cons_zero]; rfl) ?_) | (with_reducible refine off2 (by with_unfolding_all rfl) (by simp only [Env.put, List.set_cons_succ, List.set_cons_zero]; rfl) ?_) | (with_reducible refine code_then (by with_unfolding_all rfl) ?_) | (with_reducible refine code_else (by with_unfolding_all rfl) ?_) | (with_reducible refine code_skip ?_) | (with_reducible refine code_ret ?_) | (with_reducible refine code_exit ?_) | (with_reducible refine code_block ?_)))
    rcases Bool.eq_false_or_eq_true (decide (((i : Nat) : Int) ≥ 8)) with hd | hd
    · rw [hd]
      (repeat (first
    | (with_reducible refine code_seq ?_) | (with_reducible refine code_region ?_) | (with_reducible refine ops_nil ?_)
    | (with_reducible refine val2 (by with_unfolding_all rfl) (by with_unfolding_all rfl) (by with_unfolding_all rfl) (by simp only [Env.put, List.set_cons_succ, List.set_cons_zero]; rfl) ?_) | (with_reducible refine off2 (by with_unfolding_all rfl) (by simp only [Env.put, List.set_cons_succ, List.set_cons_zero]; rfl) ?_) | (with_reducible refine code_then (by with_unfolding_all rfl) ?_) | (with_reducible refine code_else (by with_unfolding_all rfl) ?_) | (with_reducible refine code_skip ?_) | (with_reducible refine code_ret ?_) | (with_reducible refine code_exit ?_) | (with_reducible refine code_block ?_)))
      exact h2 _ _ _ _ _ _ _ _ _ _ _ _ _ _ _ _ _ _ _ _ _ _ _ _ _ _ _ _ _ _ _ _ _ _ _ _ _ _ _ _ _ _ _ _ _ _ _ _ _ _ _ _
    · exfalso; simp at hd; omega
  | succ m ih =>
    intro i n hi hn F hF H hv x1 x2 x5 x6 x7 x8 x9 x10 x11 x12 x13 x14 x15 x16 x17 x18 x19 x20 x21 x22 x23 x24 x25 x26 x27 x28 x29 x30 x31 x32 x33 x34 x35 x36 x37 x38 x39 x40 x41 x42 x43 x44 x45 x46 x47 x48 x49 x50 x51 x52 h1 h2
    obtain ⟨a, len, cap, rfl, hu⟩ := hv
    obtain ⟨F', rfl, hfc, hfu⟩ := hF.more
    refine code_loop ?_
    refine code_seq ?_
    (repeat (first
    | (with_reducible refine code_seq ?_) | (with_reducible refine code_region ?_) | (with_reducible refine ops_nil ?_)
    | (with_reducible refine val2 (by with_unfolding_all rfl) (by with_unfolding_all rfl) (by with_unfolding_all rfl) (by simp only [Env.put, List.set_cons_succ, List.set_cons_zero]; rfl) ?_) | (with_reducible refine off2 (by with_unfolding_all rfl) (by simp only [Env.put, List.set_cons_succ, List.set_cons_zero]; rfl) ?_) | (with_reducible refine code_then (by with_unfolding_all rfl) ?_) | (with_reducible refine code_else (by with_unfolding_all rfl) ?_) | (with_reducible refine code_skip ?_) | (with_reducible refine code_ret ?_) | (with_reducible refine code_exit ?_) | (with_reducible refine code_block ?_)))
    refine code_cond rfl (fun hlt => ?_) (fun hge => ?_)
    rotate_left
    · (repeat (first
    | (with_reducible refine code_seq ?_) | (with_reducible refine code_region ?_) | (with_reducible refine ops_nil ?_)
    | (with_reducible refine val2 (by with_unfolding_all rfl) (by with_unfolding_all rfl) (by with_unfolding_all rfl) (by simp only [Env.put, List.set_cons_succ, List.set_cons_zero]; rfl) ?_) | (with_reducible refine off2 (by with_unfolding_all rfl) (by simp only [Env.put, List.set_cons_succ, List.set_cons_zero]; rfl) ?_) | (with_reducible refine code_then (by with_unfolding_all rfl) ?_) | (with_reducible refine code_else (by with_unfolding_all rfl) ?_) | (with_reducible refine code_skip ?_) | (with_reducible refine code_ret ?_) | (with_reducible refine code_exit ?_) | (with_reducible refine code_block ?_)))
      exact h1 H _ _ _ _ _ _ _ _ _ _ _ _ _ _ _ _ _ _ _ _ _ _ _ _ _ _ _ _ _ _ _ _ _ _ _ _ _ _ _ _ _ _ _ _ _ _ _ _ _ _ _ _
    have hkl : i < len := by simp at hlt; omega
    (repeat (first
    | (with_reducible refine code_seq ?_) | (with_reducible refine code_region ?_) | (with_reducible refine ops_nil ?_)
    | (with_reducible refine val2 (by with_unfolding_all rfl) (by with_unfolding_all rfl) (by with_unfolding_all rfl) (by simp only [Env.put, List.set_cons_succ, List.set_cons_zero]; rfl) ?_) | (with_reducible refine off2 (by with_unfolding_all rfl) (by simp only [Env.put, List.set_cons_succ, List.set_cons_zero]; rfl) ?_) | (with_reducible refine code_then (by with_unfolding_all rfl) ?_) | (with_reducible refine code_else (by with_unfolding_all rfl) ?_) | (with_reducible refine code_skip ?_) | (with_reducible refine code_ret ?_) | (with_reducible refine code_exit ?_) | (with_reducible refine code_block ?_)))
    rcases Bool.eq_false_or_eq_true (decide (((i : Nat) : Int) ≥ 8)) with hd | hd
    · exfalso; simp at hd; omega
    rw [hd]
    (repeat (first
    | (with_reducible refine code_seq ?_) | (with_reducible refine code_region ?_) | (with_reducible refine ops_nil ?_)
    | (with_reducible refine val2 (by with_unfolding_all rfl) (by with_unfolding_all rfl) (by with_unfolding_all rfl) (by simp only [Env.put, List.set_cons_succ, List.set_cons_zero]; rfl) ?_) | (with_reducible refine off2 (by with_unfolding_all rfl) (by simp only [Env.put, List.set_cons_succ, List.set_cons_zero]; rfl) ?_) | (with_reducible refine code_then (by with_unfolding_all rfl) ?_) | (with_reducible refine code_else (by with_unfolding_all rfl) ?_) | (with_reducible refine code_skip ?_) | (with_reducible refine code_ret ?_) | (with_reducible refine code_exit ?_) | (with_reducible refine code_block ?_)))
    rcases hu with hu | ⟨ub, uc, ut, ue, rfl, hug, hup⟩
    · omega
    obtain ⟨u, hpc, hu⟩ := hup i hkl
    have hva : ListsAt H (.slice (some ⟨ub, 0, none⟩) len cap) := ⟨_, len, cap, rfl, .inr ⟨ub, uc, ut, ue, rfl, hug, hup⟩⟩
    refine inner_walk (.slice (some ⟨ub, 0, none⟩) len cap) u i _ (24 - n) n 0 (by omega) (by omega) _ ?_ H ⟨_, len, cap, ub, uc, ut, ue, rfl, hkl, rfl, hug, hpc⟩ hu _ _ _ _ _ _ _ _ _ _ _ _ _ _ _ _ _ _ _ _ _ _ _ _ _ _ _ _ _ _ _ _ _ _ _ _ _ _ _ _ _ _ _ _ _ _ _ _ _ ?_ ?_
    · exact Fu.of 24 (by omega) (Nat.le_trans (Nat.le_trans (by decide) hfc) (Nat.le_add_right _ _))
    · intro n' k' H' x1 x2 x6 x7 x8 x9 x10 x11 x12 x13 x14 x15 x16 x17 x18 x19 x20 x21 x22 x23 x24 x25 x26 x27 x28 x29 x30 x31 x32 x33 x34 x35 x36 x37 x38 x39 x40 x41 x42 x43 x44 x45 x46 x47 x48 x49 x50 x51 x52 hn' hgr
      show (evN T _).code _ _ _ _
      (repeat (first
    | (with_reducible refine code_seq ?_) | (with_reducible refine code_region ?_) | (with_reducible refine ops_nil ?_)
    | (with_reducible refine val2 (by with_unfolding_all rfl) (by with_unfolding_all rfl) (by with_unfolding_all rfl) (by simp only [Env.put, List.set_cons_succ, List.set_cons_zero]; rfl) ?_) | (with_reducible refine off2 (by with_unfolding_all rfl) (by simp only [Env.put, List.set_cons_succ, List.set_cons_zero]; rfl) ?_) | (with_reducible refine code_then (by with_unfolding_all rfl) ?_) | (with_reducible refine code_else (by with_unfolding_all rfl) ?_) | (with_reducible refine code_skip ?_) | (with_reducible refine code_ret ?_) | (with_reducible refine code_exit ?_) | (with_reducible refine code_block ?_)))
      rw [wrap_succ60 i (by omega)]
      refine ih (i + 1) n' (by omega) hn' _ ?_ H' (hva.mono hgr) _ _ _ _ _ _ _ _ _ _ _ _ _ _ _ _ _ _ _ _ _ _ _ _ _ _ _ _ _ _ _ _ _ _ _ _ _ _ _ _ _ _ _ _ _ _ _ _ _ _ h1 h2
      exact hfu _
    · intro H' x1 x3 x4 x5 x6 x7 x8 x9 x10 x11 x12 x13 x14 x15 x16 x17 x18 x19 x20 x21 x22 x23 x24 x25 x26 x27 x28 x29 x30 x31 x32 x33 x34 x35 x36 x37 x38 x39 x40 x41 x42 x43 x44 x45 x46 x47 x48 x49 x50 x51 x52
      exact h2 H' x1 x3 x4 x5 x6 x7 x8 x9 x10 x11 x12 x13 x14 x15 x16 x17 x18 x19 x20 x21 x22 x23 x24 x25 x26 x27 x28 x29 x30 x31 x32 x33 x34 x35 x36 x37 x38 x39 x40 x41 x42 x43 x44 x45 x46 x47 x48 x49 x50 x51 x52

set_option maxRecDepth 20000 in
set_option maxHeartbeats 1000000 in
theorem few_walk {T : Tab} (h10 : T.fn 10 = some (.code rf10)) (v : Value) (F : Nat) (hF : 2400 ≤ F) (H : AHeap) (hv : ListsAt H v) (q : CRes → AHeap → Prop) (hq : ∀ b H', q (.ret (.bool b)) H') : (evN T F).call 10 [v] H q := by
  obtain ⟨F', rfl⟩ : ∃ F', F = F' + 60 := ⟨F - 60, by omega⟩
  have hfu : ∀ d, Fu 1600 8 (F' + d) := fun d => Fu.of 8 (Nat.le_refl _) (by omega)
  refine call_code2 (env := [some v, some undef, some undef, some undef, some undef, some undef, some undef, some undef, some undef, some undef, some undef, some undef, some undef, some undef, some undef, some undef, some undef, some undef, some undef, some undef, some undef, some undef, some undef, some undef, some undef, some undef, some undef, some undef, some undef, some undef, some undef, some undef, some undef, some undef, some undef, some undef, some undef, some undef, some undef, some undef, some undef, some undef, some undef, some undef, some undef, some undef, some undef, some undef, some undef, some undef, some undef, some undef, some undef]) h10 (by show 1 ≤ 53; omega) rfl ?_
  dsimp only [rf10]
  (repeat (first
    | (with_reducible refine code_seq ?_) | (with_reducible refine code_region ?_) | (with_reducible refine ops_nil ?_)
    | (with_reducible refine val2 (by with_unfolding_all rfl) (by with_unfolding_all rfl) (by with_unfolding_all rfl) (by simp only [Env.put, List.set_cons_succ, List.set_cons_zero]; rfl) ?_) | (with_reducible refine off2 (by with_unfolding_all rfl) (by simp only [Env.put, List.set_cons_succ, List.set_cons_zero]; rfl) ?_) | (with_reducible refine code_then (by with_unfolding_all rfl) ?_) | (with_reducible refine code_else (by with_unfolding_all rfl) ?_) | (with_reducible refine code_skip ?_) | (with_reducible refine code_ret ?_) | (with_reducible refine code_exit ?_) | (with_reducible refine code_block ?_)))
  refine outer_walk v _ 8 0 0 (by omega) (by omega) _ ?_ H hv _ _ _ _ _ _ _ _ _ _ _ _ _ _ _ _ _ _ _ _ _ _ _ _ _ _ _ _ _ _ _ _ _ _ _ _ _ _ _ _ _ _ _ _ _ _ _ _ _ _ ?_ ?_
  · exact hfu _
  · intro H' x1 x2 x3 x4 x5 x6 x7 x8 x9 x10 x11 x12 x13 x14 x15 x16 x17 x18 x19 x20 x21 x22 x23 x24 x25 x26 x27 x28 x29 x30 x31 x32 x33 x34 x35 x36 x37 x38 x39 x40 x41 x42 x43 x44 x45 x46 x47 x48 x49 x50 x51 x52
    show (evN T _).code _ _ _ _
    (repeat (first
    | (with_reducible refine code_seq ?_) | (with_reducible refine code_region ?_) | (with_reducible refine ops_nil ?_)
    | (with_reducible refine val2 (by with_unfolding_all rfl) (by with_unfolding_all rfl) (by with_unfolding_all rfl) (by simp only [Env.put, List.set_cons_succ, List.set_cons_zero]; rfl) ?_) | (with_reducible refine off2 (by with_unfolding_all rfl) (by simp only [Env.put, List.set_cons_succ, List.set_cons_zero]; rfl) ?_) | (with_reducible refine code_then (by with_unfolding_all rfl) ?_) | (with_reducible refine code_else (by with_unfolding_all rfl) ?_) | (with_reducible refine code_skip ?_) | (with_reducible refine code_ret ?_) | (with_reducible refine code_exit ?_) | (with_reducible refine code_block ?_)))
    exact ret_k (k := q) (vs := [.bool _]) (H1 := _) (by with_unfolding_all rfl) (by with_unfolding_all rfl) (hq _ _)
  · intro H' x1 x3 x4 x5 x6 x7 x8 x9 x10 x11 x12 x13 x14 x15 x16 x17 x18 x19 x20 x21 x22 x23 x24 x25 x26 x27 x28 x29 x30 x31 x32 x33 x34 x35 x36 x37 x38 x39 x40 x41 x42 x43 x44 x45 x46 x47 x48 x49 x50 x51 x52
    exact ret_k (k := q) (vs := [.bool _]) (H1 := _) (by with_unfolding_all rfl) (by with_unfolding_all rfl) (hq _ _)
end Go.Proofs.Ytcjhklflgdeckaa
