/- Parts of the proof of OverlayNilSaid: the walk through the law itself; no condition. -/
import Derived.Test.YtcjhklflgdeckaaGreatOv1
namespace Go.Proofs.YtcjhklflgdeckaaGreat
open Go.E
noncomputable def tailC : RCode := (.seq (.region [⟨(some 20), .mov (.tmp 10), none⟩,
    ⟨(some 21), .mov (.tmp 0), none⟩,
    ⟨(some 22), .loadN 9 (.tmp 4), none⟩,
    ⟨(some 23), .call 5 [(.tmp 20), (.tmp 21), (.tmp 22)], none⟩,
    ⟨(some 11), .new [(.int .i64 0), (.int .i64 0), (.int .i64 0), (.slice none 0 0), (.slice none 0 0)] 41 5, none⟩,
    ⟨none, .store 5 (.tmp 11) (.tmp 23), none⟩])
  (.seq (.region [⟨(some 24), .mov (.tmp 8), none⟩,
    ⟨(some 25), .bin .eql 27 (.pointer 38) (.tmp 24) (.const (.pointer none)), none⟩,
    ⟨(some 26), .mov (.tmp 25), none⟩,
    ⟨(some 27), .mov (.tmp 9), (some (26, true))⟩,
    ⟨(some 28), .bin .eql 28 (.int .i64) (.tmp 27) (.const (.int .i64 1)), (some (26, true))⟩,
    ⟨(some 29), .pick (.tmp 26) (.tmp 28) (.const (.bool false)), none⟩,
    ⟨(some 30), .mov (.tmp 29), none⟩,
    ⟨(some 31), .loadN 5 (.tmp 11), (some (30, true))⟩,
    ⟨(some 32), .build [(.int .i64 0), (.int .i64 0), (.int .i64 0), (.slice none 0 0), (.slice none 0 0)] [(0, 1, (.const (.int .i64 1)))], (some (30, true))⟩,
    ⟨(some 33), .call 6 [(.tmp 31), (.tmp 32)], (some (30, true))⟩,
    ⟨(some 34), .pick (.tmp 30) (.tmp 33) (.const (.bool false)), none⟩,
    ⟨(some 35), .mov (.tmp 34), none⟩,
    ⟨(some 36), .mov (.tmp 10), (some (35, true))⟩,
    ⟨(some 37), .call 7 [(.tmp 36)], (some (35, true))⟩,
    ⟨(some 38), .len (.slice 56) (.tmp 37), (some (35, true))⟩,
    ⟨(some 39), .bin .eql 3 (.int .i64) (.tmp 38) (.const (.int .i64 0)), (some (35, true))⟩,
    ⟨(some 40), .pick (.tmp 35) (.tmp 39) (.const (.bool false)), none⟩,
    ⟨(some 41), .mov (.tmp 40), none⟩,
    ⟨(some 42), .mov (.tmp 10), (some (41, true))⟩,
    ⟨(some 43), .call 8 [(.tmp 42)], (some (41, true))⟩,
    ⟨(some 44), .bin .eql 3 (.int .i64) (.tmp 43) (.const (.int .i64 0)), (some (41, true))⟩,
    ⟨(some 45), .pick (.tmp 41) (.tmp 44) (.const (.bool false)), none⟩,
    ⟨(some 46), .mov (.tmp 45), none⟩,
    ⟨(some 47), .mov (.tmp 10), (some (46, true))⟩,
    ⟨(some 48), .mov (.tmp 0), (some (46, true))⟩,
    ⟨(some 49), .call 9 [(.tmp 47), (.tmp 48)], (some (46, true))⟩,
    ⟨(some 50), .len (.slice 3) (.tmp 49), (some (46, true))⟩,
    ⟨(some 51), .bin .eql 3 (.int .i64) (.tmp 50) (.const (.int .i64 0)), (some (46, true))⟩,
    ⟨(some 52), .pick (.tmp 46) (.tmp 51) (.const (.bool false)), none⟩,
    ⟨(some 53), .mov (.tmp 52), none⟩,
    ⟨(some 54), .mov (.tmp 10), (some (53, true))⟩,
    ⟨(some 55), .mov (.tmp 0), (some (53, true))⟩,
    ⟨(some 56), .addOff 3 (.tmp 4), (some (53, true))⟩,
    ⟨(some 57), .load1 (.tmp 56), (some (53, true))⟩,
    ⟨(some 58), .call 10 [(.tmp 54), (.tmp 55), (.tmp 57)], (some (53, true))⟩,
    ⟨(some 59), .bin .eql 9 .string (.tmp 58) (.const (.string ⟨#[]⟩)), (some (53, true))⟩,
    ⟨(some 60), .pick (.tmp 53) (.tmp 59) (.const (.bool false)), none⟩,
    ⟨(some 61), .mov (.tmp 60), none⟩,
    ⟨(some 62), .call 11 [], (some (61, true))⟩,
    ⟨(some 63), .pick (.tmp 61) (.tmp 62) (.const (.bool false)), none⟩,
    ⟨(some 6), .mov (.tmp 63), none⟩])
  .ret))
/-- valise/valiselaw19.OverlayNil -/
noncomputable def rf3t : RFunc := ⟨64, [.tmp 6],
  (.seq (.region [⟨(some 4), .box 24 9 (.tmp 1), none⟩,
    ⟨(some 6), .mov (.const (.bool false)), none⟩])
  (.seq (.region [⟨(some 7), .mov (.const .nilIface), none⟩])
  (.seq (.region [⟨(some 13), .mov (.tmp 7), none⟩,
    ⟨(some 14), .call 4 [(.const (.slice none 0 0)), (.tmp 13)], none⟩,
    ⟨(some 12), .mov (.tmp 14), none⟩,
    ⟨(some 15), .ext (.tmp 12) 0, none⟩,
    ⟨(some 16), .ext (.tmp 12) 1, none⟩,
    ⟨(some 8), .mov (.tmp 15), none⟩,
    ⟨(some 9), .mov (.tmp 16), none⟩])
  (.seq (.region [⟨(some 10), .mov (.const (.pointer none)), none⟩])
  (.seq (.seq (.region [⟨(some 17), .mov (.tmp 2), none⟩])
  (.cond (.tmp 17)
  (.region [⟨(some 18), .build zFSc [], none⟩,
    ⟨(some 19), .box 38 260 (.tmp 18), none⟩,
    ⟨(some 10), .mov (.tmp 19), none⟩])
  .skip))
  tailC)))))⟩


theorem resN_ok {env : Env} {H : AHeap} {t n : Nat} {p : Value} {vs : List Value} (hx : (env[t]?).join = some p) (h : E.loadCells H p n = some vs) : resVs env H [.cellN t n] = some [.agg vs.toArray] := by
  simp only [resVs, resV, hx, Option.bind_some, h, Option.map_some]
theorem res1_ok {env : Env} {H : AHeap} {t : Nat} {v : Value} (hx : (env[t]?).join = some v) : resVs env H [.tmp t] = some [v] := by
  simp only [resVs, resV, hx]
theorem piece1 : piece zFS.c (0 + 1) 1 = some [.pointer none] := by kernel_rfl
theorem zsame : sames zFS.c zFS.c = true := by kernel_rfl
theorem grows_alloc_set {H : AHeap} {o o' : AObj} : Grows H ((H.alloc o).set H.next o') := fun i ob h => by
  rw [get_set_old (get_alloc_old h) (by have := AHeap.get_lt h; omega)]
theorem build_z (env : Env) (H : AHeap) : aop env H (.build zFSc []) = some (.val (.agg zFSc.toArray), H) := by kernel_rfl
theorem cell_z : zFSc.all isCell = true := by kernel_rfl
theorem box_z {env : Env} {H : AHeap} {x : Operand} (hx : opv env x = some (.agg zFSc.toArray)) : aop env H (.box 38 260 x) = some (.val (.pointer (some ⟨H.next, 0, none⟩)), H.alloc (zFS.obj false)) := by
  have e1 : (Value.agg zFSc.toArray).cells.toList = zFSc := rfl
  simp only [aop, hx]
  rw [e1, cell_z]
  rfl
set_option maxRecDepth 20000 in
set_option maxHeartbeats 2000000 in
theorem do_n {T : Tab} (h5 : T.fn 5 = some (.code rf5)) (h15 : T.fn 15 = some (.prim (closP qFail))) (who : Int) (a0 : Int) (s1 s2 : ByteArray) (a3 a4 a5 : Int) (b6 b7 : Bool) (sa : Option Addr) (sl sc : Nat) (F : Nat) (H : AHeap) (k : CRes → AHeap → Prop) (hk : ∀ H', Grows H H' → k (.ret rNil) H') :
    (evN T (F + 60)).call 5 [.pointer none, .int .i64 who, .agg #[.int .i64 a0, .string s1, .string s2, .int .i64 a3, .int .i64 a4, .int .i64 a5, .bool b6, .bool b7, .slice sa sl sc]] H k := by
  refine call_code2 (env := [some (.pointer none), some (.int .i64 who), some (.agg #[.int .i64 a0, .string s1, .string s2, .int .i64 a3, .int .i64 a4, .int .i64 a5, .bool b6, .bool b7, .slice sa sl sc]), some undef, some undef, some undef, some undef, some undef, some undef, some undef, some undef, some undef, some undef, some undef, some undef, some undef, some undef, some undef, some undef, some undef, some undef, some undef, some undef, some undef, some undef, some undef, some undef, some undef, some undef, some undef, some undef, some undef, some undef, some undef, some undef, some undef, some undef, some undef, some undef, some undef, some undef, some undef, some undef, some undef, some undef, some undef, some undef, some undef, some undef, some undef, some undef, some undef, some undef, some undef, some undef, some undef, some undef, some undef, some undef, some undef, some undef, some undef, some undef, some undef, some undef, some undef, some undef, some undef, some undef, some undef, some undef, some undef, some undef, some undef, some undef, some undef, some undef, some undef]) h5 (by show 3 ≤ 78; omega) rfl ?_
  dsimp only [rf5]
  (repeat (first
    | (with_reducible refine code_seq ?_) | (with_reducible refine code_region ?_) | (with_reducible refine ops_nil ?_)
    | (with_reducible refine val2 (by with_unfolding_all rfl) (by with_unfolding_all rfl) (by with_unfolding_all rfl) (by simp only [Env.put, List.set_cons_succ, List.set_cons_zero]; rfl) ?_) | (with_reducible refine off2 (by with_unfolding_all rfl) (by simp only [Env.put, List.set_cons_succ, List.set_cons_zero]; rfl) ?_) | (with_reducible refine code_then (by with_unfolding_all rfl) ?_) | (with_reducible refine code_else (by with_unfolding_all rfl) ?_) | (with_reducible refine code_skip ?_) | (with_reducible refine code_ret ?_) | (with_reducible refine code_exit ?_) | (with_reducible refine code_block ?_)))
  refine prim2 h15 (clos_at (v := rNil) (args := [.int .i64 1]) rfl rfl) rfl rfl rfl (by simp only [Env.put, List.set_cons_succ, List.set_cons_zero]; rfl) ?_
  (repeat (first
    | (with_reducible refine code_seq ?_) | (with_reducible refine code_region ?_) | (with_reducible refine ops_nil ?_)
    | (with_reducible refine val2 (by with_unfolding_all rfl) (by with_unfolding_all rfl) (by with_unfolding_all rfl) (by simp only [Env.put, List.set_cons_succ, List.set_cons_zero]; rfl) ?_) | (with_reducible refine off2 (by with_unfolding_all rfl) (by simp only [Env.put, List.set_cons_succ, List.set_cons_zero]; rfl) ?_) | (with_reducible refine code_then (by with_unfolding_all rfl) ?_) | (with_reducible refine code_else (by with_unfolding_all rfl) ?_) | (with_reducible refine code_skip ?_) | (with_reducible refine code_ret ?_) | (with_reducible refine code_exit ?_) | (with_reducible refine code_block ?_)))
  refine skip2 rfl rfl (store_agg (vs := [.int .i64 1, .int .i64 0, .int .i64 0, .slice none 0 0, .slice none 0 0]) rfl rfl (get_alloc_self _ _) rfl rfl rfl) (by simp only [Env.put, List.set_cons_succ, List.set_cons_zero]; rfl) ?_
  (repeat (first
    | (with_reducible refine code_seq ?_) | (with_reducible refine code_region ?_) | (with_reducible refine ops_nil ?_)
    | (with_reducible refine val2 (by with_unfolding_all rfl) (by with_unfolding_all rfl) (by with_unfolding_all rfl) (by simp only [Env.put, List.set_cons_succ, List.set_cons_zero]; rfl) ?_) | (with_reducible refine off2 (by with_unfolding_all rfl) (by simp only [Env.put, List.set_cons_succ, List.set_cons_zero]; rfl) ?_) | (with_reducible refine code_then (by with_unfolding_all rfl) ?_) | (with_reducible refine code_else (by with_unfolding_all rfl) ?_) | (with_reducible refine code_skip ?_) | (with_reducible refine code_ret ?_) | (with_reducible refine code_exit ?_) | (with_reducible refine code_block ?_)))
  refine (show retS _ _ _ k from ?_)
  refine ret_k (k := k) (vs := [rNil]) (H1 := _) rfl (resN_ok rfl (load_at (get_set_self (get_alloc_self _ _)) rfl)) (hk _ ?_)
  exact fun j o hj => by rw [get_set_old (get_alloc_old (get_alloc_old hj)) (by rw [AHeap.next_alloc]; have := AHeap.get_lt hj; omega)]

set_option maxRecDepth 20000 in
set_option maxHeartbeats 2000000 in
theorem do_b {T : Tab} (h5 : T.fn 5 = some (.code rf5)) (h15 : T.fn 15 = some (.prim (closP qFail))) (who : Int) (a0 : Int) (s1 s2 : ByteArray) (a3 a4 a5 : Int) (b6 b7 : Bool) (sa : Option Addr) (sl sc : Nat) (F : Nat) (H : AHeap) (i : Nat) (hg : H.get i = some (zFS.obj false)) (k : CRes → AHeap → Prop) (hk : ∀ H', Grows H H' → k (.ret rNil) H') :
    (evN T (F + 60)).call 5 [.pointer (some ⟨i, 0, none⟩), .int .i64 who, .agg #[.int .i64 a0, .string s1, .string s2, .int .i64 a3, .int .i64 a4, .int .i64 a5, .bool b6, .bool b7, .slice sa sl sc]] H k := by
  refine call_code2 (env := [some (.pointer (some ⟨i, 0, none⟩)), some (.int .i64 who), some (.agg #[.int .i64 a0, .string s1, .string s2, .int .i64 a3, .int .i64 a4, .int .i64 a5, .bool b6, .bool b7, .slice sa sl sc]), some undef, some undef, some undef, some undef, some undef, some undef, some undef, some undef, some undef, some undef, some undef, some undef, some undef, some undef, some undef, some undef, some undef, some undef, some undef, some undef, some undef, some undef, some undef, some undef, some undef, some undef, some undef, some undef, some undef, some undef, some undef, some undef, some undef, some undef, some undef, some undef, some undef, some undef, some undef, some undef, some undef, some undef, some undef, some undef, some undef, some undef, some undef, some undef, some undef, some undef, some undef, some undef, some undef, some undef, some undef, some undef, some undef, some undef, some undef, some undef, some undef, some undef, some undef, some undef, some undef, some undef, some undef, some undef, some undef, some undef, some undef, some undef, some undef, some undef, some undef]) h5 (by show 3 ≤ 78; omega) rfl ?_
  dsimp only [rf5]
  (repeat (first
    | (with_reducible refine code_seq ?_) | (with_reducible refine code_region ?_) | (with_reducible refine ops_nil ?_)
    | (with_reducible refine val2 (by with_unfolding_all rfl) (by with_unfolding_all rfl) (by with_unfolding_all rfl) (by simp only [Env.put, List.set_cons_succ, List.set_cons_zero]; rfl) ?_) | (with_reducible refine off2 (by with_unfolding_all rfl) (by simp only [Env.put, List.set_cons_succ, List.set_cons_zero]; rfl) ?_) | (with_reducible refine code_then (by with_unfolding_all rfl) ?_) | (with_reducible refine code_else (by with_unfolding_all rfl) ?_) | (with_reducible refine code_skip ?_) | (with_reducible refine code_ret ?_) | (with_reducible refine code_exit ?_) | (with_reducible refine code_block ?_)))
  refine val2 rfl rfl (load1_ok rfl (load_at (get_alloc_old (get_alloc_old hg)) piece1)) (by simp only [Env.put, List.set_cons_succ, List.set_cons_zero]; rfl) ?_
  (repeat (first
    | (with_reducible refine code_seq ?_) | (with_reducible refine code_region ?_) | (with_reducible refine ops_nil ?_)
    | (with_reducible refine val2 (by with_unfolding_all rfl) (by with_unfolding_all rfl) (by with_unfolding_all rfl) (by simp only [Env.put, List.set_cons_succ, List.set_cons_zero]; rfl) ?_) | (with_reducible refine off2 (by with_unfolding_all rfl) (by simp only [Env.put, List.set_cons_succ, List.set_cons_zero]; rfl) ?_) | (with_reducible refine code_then (by with_unfolding_all rfl) ?_) | (with_reducible refine code_else (by with_unfolding_all rfl) ?_) | (with_reducible refine code_skip ?_) | (with_reducible refine code_ret ?_) | (with_reducible refine code_exit ?_) | (with_reducible refine code_block ?_)))
  refine prim2 h15 (clos_at (v := rNil) (args := [.int .i64 1]) rfl rfl) rfl rfl rfl (by simp only [Env.put, List.set_cons_succ, List.set_cons_zero]; rfl) ?_
  (repeat (first
    | (with_reducible refine code_seq ?_) | (with_reducible refine code_region ?_) | (with_reducible refine ops_nil ?_)
    | (with_reducible refine val2 (by with_unfolding_all rfl) (by with_unfolding_all rfl) (by with_unfolding_all rfl) (by simp only [Env.put, List.set_cons_succ, List.set_cons_zero]; rfl) ?_) | (with_reducible refine off2 (by with_unfolding_all rfl) (by simp only [Env.put, List.set_cons_succ, List.set_cons_zero]; rfl) ?_) | (with_reducible refine code_then (by with_unfolding_all rfl) ?_) | (with_reducible refine code_else (by with_unfolding_all rfl) ?_) | (with_reducible refine code_skip ?_) | (with_reducible refine code_ret ?_) | (with_reducible refine code_exit ?_) | (with_reducible refine code_block ?_)))
  refine skip2 rfl rfl (store_agg (vs := [.int .i64 1, .int .i64 0, .int .i64 0, .slice none 0 0, .slice none 0 0]) rfl rfl (get_alloc_self _ _) rfl rfl rfl) (by simp only [Env.put, List.set_cons_succ, List.set_cons_zero]; rfl) ?_
  (repeat (first
    | (with_reducible refine code_seq ?_) | (with_reducible refine code_region ?_) | (with_reducible refine ops_nil ?_)
    | (with_reducible refine val2 (by with_unfolding_all rfl) (by with_unfolding_all rfl) (by with_unfolding_all rfl) (by simp only [Env.put, List.set_cons_succ, List.set_cons_zero]; rfl) ?_) | (with_reducible refine off2 (by with_unfolding_all rfl) (by simp only [Env.put, List.set_cons_succ, List.set_cons_zero]; rfl) ?_) | (with_reducible refine code_then (by with_unfolding_all rfl) ?_) | (with_reducible refine code_else (by with_unfolding_all rfl) ?_) | (with_reducible refine code_skip ?_) | (with_reducible refine code_ret ?_) | (with_reducible refine code_exit ?_) | (with_reducible refine code_block ?_)))
  refine (show retS _ _ _ k from ?_)
  refine ret_k (k := k) (vs := [rNil]) (H1 := _) rfl (resN_ok rfl (load_at (get_set_self (get_alloc_self _ _)) rfl)) (hk _ ?_)
  exact fun j o hj => by rw [get_set_old (get_alloc_old (get_alloc_old hj)) (by rw [AHeap.next_alloc]; have := AHeap.get_lt hj; omega)]

set_option maxRecDepth 20000 in
set_option maxHeartbeats 2000000 in
theorem new_nil {T : Tab} (h : T.fn 4 = some (.code rf4)) (n : Nat) (H : AHeap) (k : CRes → AHeap → Prop) (hk : k (.ret (.tuple #[.pointer none, .int .i64 1])) H) : (evN T (n + 40)).call 4 [.slice none 0 0, .nilIface] H k := by
  refine call_code2 (env := [some (.slice none 0 0), some .nilIface, some undef, some undef, some undef, some undef, some undef, some undef, some undef, some undef, some undef, some undef, some undef, some undef, some undef, some undef, some undef, some undef, some undef, some undef, some undef, some undef, some undef, some undef, some undef, some undef, some undef, some undef, some undef, some undef, some undef, some undef, some undef, some undef, some undef, some undef, some undef, some undef, some undef, some undef, some undef, some undef, some undef, some undef, some undef, some undef, some undef, some undef, some undef, some undef, some undef, some undef, some undef, some undef, some undef, some undef, some undef, some undef, some undef, some undef, some undef, some undef, some undef, some undef, some undef, some undef, some undef, some undef, some undef, some undef, some undef, some undef, some undef, some undef, some undef, some undef, some undef, some undef, some undef, some undef, some undef, some undef, some undef, some undef, some undef, some undef, some undef, some undef, some undef, some undef, some undef, some undef, some undef, some undef, some undef]) h (by show 2 ≤ 95; omega) rfl ?_
  dsimp only [rf4]
  (repeat (first
    | (with_reducible refine code_seq ?_) | (with_reducible refine code_region ?_) | (with_reducible refine ops_nil ?_)
    | (with_reducible refine val2 (by with_unfolding_all rfl) (by with_unfolding_all rfl) (by with_unfolding_all rfl) (by simp only [Env.put, List.set_cons_succ, List.set_cons_zero]; rfl) ?_) | (with_reducible refine off2 (by with_unfolding_all rfl) (by simp only [Env.put, List.set_cons_succ, List.set_cons_zero]; rfl) ?_) | (with_reducible refine code_then (by with_unfolding_all rfl) ?_) | (with_reducible refine code_else (by with_unfolding_all rfl) ?_) | (with_reducible refine code_skip ?_) | (with_reducible refine code_ret ?_) | (with_reducible refine code_exit ?_) | (with_reducible refine code_block ?_)))
  refine (show retS _ _ _ k from ?_)
  exact ret_k (k := k) (vs := [.pointer none, .int .i64 1]) (H1 := _) (by with_unfolding_all rfl) (by with_unfolding_all rfl) hk
set_option maxRecDepth 20000 in
set_option maxHeartbeats 4000000 in
theorem tail_n {T : Tab} (h5 : T.fn 5 = some (.code rf5)) (h15 : T.fn 15 = some (.prim (closP qFail))) (h6 : T.fn 6 = some (.prim (closP qSame))) (h7 : T.fn 7 = some (.prim (ptrP zFS (qNone (.slice none 0 0)) (qNone (.slice none 0 0)))))
    (h8 : T.fn 8 = some (.prim (ptrP zFS (qNone (.int .i64 0)) (qNone (.int .i64 0))))) (h9 : T.fn 9 = some (.prim (ptrP zFS (qInt (.slice none 0 0)) (qInt (.slice none 0 0))))) (h10 : T.fn 10 = some (.prim (ptrP zFS (qInt2 (.string ⟨#[]⟩)) (qInt2 (.string ⟨#[]⟩)))))
    (h11 : T.fn 11 = some (.prim trueP)) (who : Int) (a0 : Int) (s1 s2 : ByteArray) (a3 a4 a5 : Int) (b6 b7 : Bool) (sa : Option Addr) (sl sc : Nat) (F : Nat) (H : AHeap) (b : Nat) (hb : H.get b = some (.cells [.int .i64 a0, .string s1, .string s2, .int .i64 a3, .int .i64 a4, .int .i64 a5, .bool b6, .bool b7, .slice sa sl sc] 24 9 true false)) (x1 x2 x3 x5 x6 x7 x11 x12 x13 x14 x15 x16 x17 x18 x19 x20 x21 x22 x23 x24 x25 x26 x27 x28 x29 x30 x31 x32 x33 x34 x35 x36 x37 x38 x39 x40 x41 x42 x43 x44 x45 x46 x47 x48 x49 x50 x51 x52 x53 x54 x55 x56 x57 x58 x59 x60 x61 x62 x63 : Option Value) (k : RExit → St → AHeap → Prop)
    (hk : ∀ (e : Env) H', (e[6]?).join = some (.bool true) → k .ret ⟨e, [], none⟩ H') : (evN T (F + 200)).code tailC ⟨[some (.int .i64 who), x1, x2, x3, some (.pointer (some ⟨b, 0, none⟩)), x5, x6, x7, some (.pointer none), some (.int .i64 1), some (.pointer none), x11, x12, x13, x14, x15, x16, x17, x18, x19, x20, x21, x22, x23, x24, x25, x26, x27, x28, x29, x30, x31, x32, x33, x34, x35, x36, x37, x38, x39, x40, x41, x42, x43, x44, x45, x46, x47, x48, x49, x50, x51, x52, x53, x54, x55, x56, x57, x58, x59, x60, x61, x62, x63], [], none⟩ H k := by
  refine code_seq ?_
  (repeat (first
    | (with_reducible refine code_seq ?_) | (with_reducible refine code_region ?_) | (with_reducible refine ops_nil ?_)
    | (with_reducible refine val2 (by with_unfolding_all rfl) (by with_unfolding_all rfl) (by with_unfolding_all rfl) (by simp only [Env.put, List.set_cons_succ, List.set_cons_zero]; rfl) ?_) | (with_reducible refine off2 (by with_unfolding_all rfl) (by simp only [Env.put, List.set_cons_succ, List.set_cons_zero]; rfl) ?_) | (with_reducible refine code_then (by with_unfolding_all rfl) ?_) | (with_reducible refine code_else (by with_unfolding_all rfl) ?_) | (with_reducible refine code_skip ?_) | (with_reducible refine code_ret ?_) | (with_reducible refine code_exit ?_) | (with_reducible refine code_block ?_)))
  refine val2 rfl rfl (loadN_ok rfl (load_at hb rfl)) (by simp only [Env.put, List.set_cons_succ, List.set_cons_zero]; rfl) ?_
  (repeat (first
    | (with_reducible refine code_seq ?_) | (with_reducible refine code_region ?_) | (with_reducible refine ops_nil ?_)
    | (with_reducible refine val2 (by with_unfolding_all rfl) (by with_unfolding_all rfl) (by with_unfolding_all rfl) (by simp only [Env.put, List.set_cons_succ, List.set_cons_zero]; rfl) ?_) | (with_reducible refine off2 (by with_unfolding_all rfl) (by simp only [Env.put, List.set_cons_succ, List.set_cons_zero]; rfl) ?_) | (with_reducible refine code_then (by with_unfolding_all rfl) ?_) | (with_reducible refine code_else (by with_unfolding_all rfl) ?_) | (with_reducible refine code_skip ?_) | (with_reducible refine code_ret ?_) | (with_reducible refine code_exit ?_) | (with_reducible refine code_block ?_)))
  refine call2 rfl rfl rfl (do_n h5 h15 who a0 s1 s2 a3 a4 a5 b6 b7 sa sl sc _ H _ (fun H' hgr => ?_))
  show evOps T _ _ _ _ _
  refine ops_st2 (env' := _) (by simp only [Env.put, List.set_cons_succ, List.set_cons_zero]; rfl) ?_
  (repeat (first
    | (with_reducible refine code_seq ?_) | (with_reducible refine code_region ?_) | (with_reducible refine ops_nil ?_)
    | (with_reducible refine val2 (by with_unfolding_all rfl) (by with_unfolding_all rfl) (by with_unfolding_all rfl) (by simp only [Env.put, List.set_cons_succ, List.set_cons_zero]; rfl) ?_) | (with_reducible refine off2 (by with_unfolding_all rfl) (by simp only [Env.put, List.set_cons_succ, List.set_cons_zero]; rfl) ?_) | (with_reducible refine code_then (by with_unfolding_all rfl) ?_) | (with_reducible refine code_else (by with_unfolding_all rfl) ?_) | (with_reducible refine code_skip ?_) | (with_reducible refine code_ret ?_) | (with_reducible refine code_exit ?_) | (with_reducible refine code_block ?_)))
  refine skip2 rfl rfl (store_agg (vs := [.int .i64 1, .int .i64 0, .int .i64 0, .slice none 0 0, .slice none 0 0]) rfl rfl (get_alloc_self _ _) rfl rfl rfl) (by simp only [Env.put, List.set_cons_succ, List.set_cons_zero]; rfl) ?_
  have hgr3 := grows_alloc_set (H := H') (o := .cells [(.int .i64 0), (.int .i64 0), (.int .i64 0), (.slice none 0 0), (.slice none 0 0)] 41 5 true false) (o' := .cells [.int .i64 1, .int .i64 0, .int .i64 0, .slice none 0 0, .slice none 0 0] 41 5 true false)
  have hr3 := get_set_self (o' := .cells [.int .i64 1, .int .i64 0, .int .i64 0, .slice none 0 0, .slice none 0 0] 41 5 true false) (get_alloc_self H' (.cells [(.int .i64 0), (.int .i64 0), (.int .i64 0), (.slice none 0 0), (.slice none 0 0)] 41 5 true false))
  generalize ((H'.alloc _).set H'.next _) = H3 at hgr3 hr3 ⊢
  have hb3 := hgr3 _ _ (hgr _ _ hb)
  (repeat (first
    | (with_reducible refine code_seq ?_) | (with_reducible refine code_region ?_) | (with_reducible refine ops_nil ?_)
    | (with_reducible refine val2 (by with_unfolding_all rfl) (by with_unfolding_all rfl) (by with_unfolding_all rfl) (by simp only [Env.put, List.set_cons_succ, List.set_cons_zero]; rfl) ?_) | (with_reducible refine off2 (by with_unfolding_all rfl) (by simp only [Env.put, List.set_cons_succ, List.set_cons_zero]; rfl) ?_) | (with_reducible refine code_then (by with_unfolding_all rfl) ?_) | (with_reducible refine code_else (by with_unfolding_all rfl) ?_) | (with_reducible refine code_skip ?_) | (with_reducible refine code_ret ?_) | (with_reducible refine code_exit ?_) | (with_reducible refine code_block ?_)))
  refine val2 rfl rfl (loadN_ok rfl (load_at hr3 rfl)) (by simp only [Env.put, List.set_cons_succ, List.set_cons_zero]; rfl) ?_
  (repeat (first
    | (with_reducible refine code_seq ?_) | (with_reducible refine code_region ?_) | (with_reducible refine ops_nil ?_)
    | (with_reducible refine val2 (by with_unfolding_all rfl) (by with_unfolding_all rfl) (by with_unfolding_all rfl) (by simp only [Env.put, List.set_cons_succ, List.set_cons_zero]; rfl) ?_) | (with_reducible refine off2 (by with_unfolding_all rfl) (by simp only [Env.put, List.set_cons_succ, List.set_cons_zero]; rfl) ?_) | (with_reducible refine code_then (by with_unfolding_all rfl) ?_) | (with_reducible refine code_else (by with_unfolding_all rfl) ?_) | (with_reducible refine code_skip ?_) | (with_reducible refine code_ret ?_) | (with_reducible refine code_exit ?_) | (with_reducible refine code_block ?_)))
  refine prim2 h6 (clos_at (v := .bool true) (args := [.agg [.int .i64 1, .int .i64 0, .int .i64 0, .slice none 0 0, .slice none 0 0].toArray, .agg #[.int .i64 1, .int .i64 0, .int .i64 0, .slice none 0 0, .slice none 0 0]]) rfl rfl) rfl rfl rfl (by simp only [Env.put, List.set_cons_succ, List.set_cons_zero]; rfl) ?_
  (repeat (first
    | (with_reducible refine code_seq ?_) | (with_reducible refine code_region ?_) | (with_reducible refine ops_nil ?_)
    | (with_reducible refine val2 (by with_unfolding_all rfl) (by with_unfolding_all rfl) (by with_unfolding_all rfl) (by simp only [Env.put, List.set_cons_succ, List.set_cons_zero]; rfl) ?_) | (with_reducible refine off2 (by with_unfolding_all rfl) (by simp only [Env.put, List.set_cons_succ, List.set_cons_zero]; rfl) ?_) | (with_reducible refine code_then (by with_unfolding_all rfl) ?_) | (with_reducible refine code_else (by with_unfolding_all rfl) ?_) | (with_reducible refine code_skip ?_) | (with_reducible refine code_ret ?_) | (with_reducible refine code_exit ?_) | (with_reducible refine code_block ?_)))
  refine prim2 h7 (ptr_nil rfl rfl) rfl rfl rfl (by simp only [Env.put, List.set_cons_succ, List.set_cons_zero]; rfl) ?_
  (repeat (first
    | (with_reducible refine code_seq ?_) | (with_reducible refine code_region ?_) | (with_reducible refine ops_nil ?_)
    | (with_reducible refine val2 (by with_unfolding_all rfl) (by with_unfolding_all rfl) (by with_unfolding_all rfl) (by simp only [Env.put, List.set_cons_succ, List.set_cons_zero]; rfl) ?_) | (with_reducible refine off2 (by with_unfolding_all rfl) (by simp only [Env.put, List.set_cons_succ, List.set_cons_zero]; rfl) ?_) | (with_reducible refine code_then (by with_unfolding_all rfl) ?_) | (with_reducible refine code_else (by with_unfolding_all rfl) ?_) | (with_reducible refine code_skip ?_) | (with_reducible refine code_ret ?_) | (with_reducible refine code_exit ?_) | (with_reducible refine code_block ?_)))
  refine prim2 h8 (ptr_nil rfl rfl) rfl rfl rfl (by simp only [Env.put, List.set_cons_succ, List.set_cons_zero]; rfl) ?_
  (repeat (first
    | (with_reducible refine code_seq ?_) | (with_reducible refine code_region ?_) | (with_reducible refine ops_nil ?_)
    | (with_reducible refine val2 (by with_unfolding_all rfl) (by with_unfolding_all rfl) (by with_unfolding_all rfl) (by simp only [Env.put, List.set_cons_succ, List.set_cons_zero]; rfl) ?_) | (with_reducible refine off2 (by with_unfolding_all rfl) (by simp only [Env.put, List.set_cons_succ, List.set_cons_zero]; rfl) ?_) | (with_reducible refine code_then (by with_unfolding_all rfl) ?_) | (with_reducible refine code_else (by with_unfolding_all rfl) ?_) | (with_reducible refine code_skip ?_) | (with_reducible refine code_ret ?_) | (with_reducible refine code_exit ?_) | (with_reducible refine code_block ?_)))
  refine prim2 h9 (ptr_nil rfl rfl) rfl rfl rfl (by simp only [Env.put, List.set_cons_succ, List.set_cons_zero]; rfl) ?_
  (repeat (first
    | (with_reducible refine code_seq ?_) | (with_reducible refine code_region ?_) | (with_reducible refine ops_nil ?_)
    | (with_reducible refine val2 (by with_unfolding_all rfl) (by with_unfolding_all rfl) (by with_unfolding_all rfl) (by simp only [Env.put, List.set_cons_succ, List.set_cons_zero]; rfl) ?_) | (with_reducible refine off2 (by with_unfolding_all rfl) (by simp only [Env.put, List.set_cons_succ, List.set_cons_zero]; rfl) ?_) | (with_reducible refine code_then (by with_unfolding_all rfl) ?_) | (with_reducible refine code_else (by with_unfolding_all rfl) ?_) | (with_reducible refine code_skip ?_) | (with_reducible refine code_ret ?_) | (with_reducible refine code_exit ?_) | (with_reducible refine code_block ?_)))
  refine val2 rfl rfl (load1_ok rfl (load_at hb3 rfl)) (by simp only [Env.put, List.set_cons_succ, List.set_cons_zero]; rfl) ?_
  (repeat (first
    | (with_reducible refine code_seq ?_) | (with_reducible refine code_region ?_) | (with_reducible refine ops_nil ?_)
    | (with_reducible refine val2 (by with_unfolding_all rfl) (by with_unfolding_all rfl) (by with_unfolding_all rfl) (by simp only [Env.put, List.set_cons_succ, List.set_cons_zero]; rfl) ?_) | (with_reducible refine off2 (by with_unfolding_all rfl) (by simp only [Env.put, List.set_cons_succ, List.set_cons_zero]; rfl) ?_) | (with_reducible refine code_then (by with_unfolding_all rfl) ?_) | (with_reducible refine code_else (by with_unfolding_all rfl) ?_) | (with_reducible refine code_skip ?_) | (with_reducible refine code_ret ?_) | (with_reducible refine code_exit ?_) | (with_reducible refine code_block ?_)))
  refine prim2 h10 (ptr_nil rfl rfl) rfl rfl rfl (by simp only [Env.put, List.set_cons_succ, List.set_cons_zero]; rfl) ?_
  (repeat (first
    | (with_reducible refine code_seq ?_) | (with_reducible refine code_region ?_) | (with_reducible refine ops_nil ?_)
    | (with_reducible refine val2 (by with_unfolding_all rfl) (by with_unfolding_all rfl) (by with_unfolding_all rfl) (by simp only [Env.put, List.set_cons_succ, List.set_cons_zero]; rfl) ?_) | (with_reducible refine off2 (by with_unfolding_all rfl) (by simp only [Env.put, List.set_cons_succ, List.set_cons_zero]; rfl) ?_) | (with_reducible refine code_then (by with_unfolding_all rfl) ?_) | (with_reducible refine code_else (by with_unfolding_all rfl) ?_) | (with_reducible refine code_skip ?_) | (with_reducible refine code_ret ?_) | (with_reducible refine code_exit ?_) | (with_reducible refine code_block ?_)))
  refine prim2 h11 (p := trueP) (args := []) rfl rfl rfl rfl (by simp only [Env.put, List.set_cons_succ, List.set_cons_zero]; rfl) ?_
  (repeat (first
    | (with_reducible refine code_seq ?_) | (with_reducible refine code_region ?_) | (with_reducible refine ops_nil ?_)
    | (with_reducible refine val2 (by with_unfolding_all rfl) (by with_unfolding_all rfl) (by with_unfolding_all rfl) (by simp only [Env.put, List.set_cons_succ, List.set_cons_zero]; rfl) ?_) | (with_reducible refine off2 (by with_unfolding_all rfl) (by simp only [Env.put, List.set_cons_succ, List.set_cons_zero]; rfl) ?_) | (with_reducible refine code_then (by with_unfolding_all rfl) ?_) | (with_reducible refine code_else (by with_unfolding_all rfl) ?_) | (with_reducible refine code_skip ?_) | (with_reducible refine code_ret ?_) | (with_reducible refine code_exit ?_) | (with_reducible refine code_block ?_)))
  exact hk _ _ rfl

set_option maxRecDepth 20000 in
set_option maxHeartbeats 4000000 in
theorem tail_b {T : Tab} (h5 : T.fn 5 = some (.code rf5)) (h15 : T.fn 15 = some (.prim (closP qFail))) (h6 : T.fn 6 = some (.prim (closP qSame))) (h7 : T.fn 7 = some (.prim (ptrP zFS (qNone (.slice none 0 0)) (qNone (.slice none 0 0)))))
    (h8 : T.fn 8 = some (.prim (ptrP zFS (qNone (.int .i64 0)) (qNone (.int .i64 0))))) (h9 : T.fn 9 = some (.prim (ptrP zFS (qInt (.slice none 0 0)) (qInt (.slice none 0 0))))) (h10 : T.fn 10 = some (.prim (ptrP zFS (qInt2 (.string ⟨#[]⟩)) (qInt2 (.string ⟨#[]⟩)))))
    (h11 : T.fn 11 = some (.prim trueP)) (who : Int) (a0 : Int) (s1 s2 : ByteArray) (a3 a4 a5 : Int) (b6 b7 : Bool) (sa : Option Addr) (sl sc : Nat) (F : Nat) (H : AHeap) (b : Nat) (hb : H.get b = some (.cells [.int .i64 a0, .string s1, .string s2, .int .i64 a3, .int .i64 a4, .int .i64 a5, .bool b6, .bool b7, .slice sa sl sc] 24 9 true false)) (i : Nat) (hz : H.get i = some (zFS.obj false)) (x1 x2 x3 x5 x6 x7 x11 x12 x13 x14 x15 x16 x17 x18 x19 x20 x21 x22 x23 x24 x25 x26 x27 x28 x29 x30 x31 x32 x33 x34 x35 x36 x37 x38 x39 x40 x41 x42 x43 x44 x45 x46 x47 x48 x49 x50 x51 x52 x53 x54 x55 x56 x57 x58 x59 x60 x61 x62 x63 : Option Value) (k : RExit → St → AHeap → Prop)
    (hk : ∀ (e : Env) H', (e[6]?).join = some (.bool true) → k .ret ⟨e, [], none⟩ H') : (evN T (F + 200)).code tailC ⟨[some (.int .i64 who), x1, x2, x3, some (.pointer (some ⟨b, 0, none⟩)), x5, x6, x7, some (.pointer none), some (.int .i64 1), some (.pointer (some ⟨i, 0, none⟩)), x11, x12, x13, x14, x15, x16, x17, x18, x19, x20, x21, x22, x23, x24, x25, x26, x27, x28, x29, x30, x31, x32, x33, x34, x35, x36, x37, x38, x39, x40, x41, x42, x43, x44, x45, x46, x47, x48, x49, x50, x51, x52, x53, x54, x55, x56, x57, x58, x59, x60, x61, x62, x63], [], none⟩ H k := by
  refine code_seq ?_
  (repeat (first
    | (with_reducible refine code_seq ?_) | (with_reducible refine code_region ?_) | (with_reducible refine ops_nil ?_)
    | (with_reducible refine val2 (by with_unfolding_all rfl) (by with_unfolding_all rfl) (by with_unfolding_all rfl) (by simp only [Env.put, List.set_cons_succ, List.set_cons_zero]; rfl) ?_) | (with_reducible refine off2 (by with_unfolding_all rfl) (by simp only [Env.put, List.set_cons_succ, List.set_cons_zero]; rfl) ?_) | (with_reducible refine code_then (by with_unfolding_all rfl) ?_) | (with_reducible refine code_else (by with_unfolding_all rfl) ?_) | (with_reducible refine code_skip ?_) | (with_reducible refine code_ret ?_) | (with_reducible refine code_exit ?_) | (with_reducible refine code_block ?_)))
  refine val2 rfl rfl (loadN_ok rfl (load_at hb rfl)) (by simp only [Env.put, List.set_cons_succ, List.set_cons_zero]; rfl) ?_
  (repeat (first
    | (with_reducible refine code_seq ?_) | (with_reducible refine code_region ?_) | (with_reducible refine ops_nil ?_)
    | (with_reducible refine val2 (by with_unfolding_all rfl) (by with_unfolding_all rfl) (by with_unfolding_all rfl) (by simp only [Env.put, List.set_cons_succ, List.set_cons_zero]; rfl) ?_) | (with_reducible refine off2 (by with_unfolding_all rfl) (by simp only [Env.put, List.set_cons_succ, List.set_cons_zero]; rfl) ?_) | (with_reducible refine code_then (by with_unfolding_all rfl) ?_) | (with_reducible refine code_else (by with_unfolding_all rfl) ?_) | (with_reducible refine code_skip ?_) | (with_reducible refine code_ret ?_) | (with_reducible refine code_exit ?_) | (with_reducible refine code_block ?_)))
  refine call2 rfl rfl rfl (do_b h5 h15 who a0 s1 s2 a3 a4 a5 b6 b7 sa sl sc _ H i hz _ (fun H' hgr => ?_))
  show evOps T _ _ _ _ _
  refine ops_st2 (env' := _) (by simp only [Env.put, List.set_cons_succ, List.set_cons_zero]; rfl) ?_
  (repeat (first
    | (with_reducible refine code_seq ?_) | (with_reducible refine code_region ?_) | (with_reducible refine ops_nil ?_)
    | (with_reducible refine val2 (by with_unfolding_all rfl) (by with_unfolding_all rfl) (by with_unfolding_all rfl) (by simp only [Env.put, List.set_cons_succ, List.set_cons_zero]; rfl) ?_) | (with_reducible refine off2 (by with_unfolding_all rfl) (by simp only [Env.put, List.set_cons_succ, List.set_cons_zero]; rfl) ?_) | (with_reducible refine code_then (by with_unfolding_all rfl) ?_) | (with_reducible refine code_else (by with_unfolding_all rfl) ?_) | (with_reducible refine code_skip ?_) | (with_reducible refine code_ret ?_) | (with_reducible refine code_exit ?_) | (with_reducible refine code_block ?_)))
  refine skip2 rfl rfl (store_agg (vs := [.int .i64 1, .int .i64 0, .int .i64 0, .slice none 0 0, .slice none 0 0]) rfl rfl (get_alloc_self _ _) rfl rfl rfl) (by simp only [Env.put, List.set_cons_succ, List.set_cons_zero]; rfl) ?_
  have hgr3 := grows_alloc_set (H := H') (o := .cells [(.int .i64 0), (.int .i64 0), (.int .i64 0), (.slice none 0 0), (.slice none 0 0)] 41 5 true false) (o' := .cells [.int .i64 1, .int .i64 0, .int .i64 0, .slice none 0 0, .slice none 0 0] 41 5 true false)
  have hr3 := get_set_self (o' := .cells [.int .i64 1, .int .i64 0, .int .i64 0, .slice none 0 0, .slice none 0 0] 41 5 true false) (get_alloc_self H' (.cells [(.int .i64 0), (.int .i64 0), (.int .i64 0), (.slice none 0 0), (.slice none 0 0)] 41 5 true false))
  generalize ((H'.alloc _).set H'.next _) = H3 at hgr3 hr3 ⊢
  have hb3 := hgr3 _ _ (hgr _ _ hb)
  have hz3 : H3.get i = some (zFS.obj false) := hgr3 _ _ (hgr _ _ hz)
  (repeat (first
    | (with_reducible refine code_seq ?_) | (with_reducible refine code_region ?_) | (with_reducible refine ops_nil ?_)
    | (with_reducible refine val2 (by with_unfolding_all rfl) (by with_unfolding_all rfl) (by with_unfolding_all rfl) (by simp only [Env.put, List.set_cons_succ, List.set_cons_zero]; rfl) ?_) | (with_reducible refine off2 (by with_unfolding_all rfl) (by simp only [Env.put, List.set_cons_succ, List.set_cons_zero]; rfl) ?_) | (with_reducible refine code_then (by with_unfolding_all rfl) ?_) | (with_reducible refine code_else (by with_unfolding_all rfl) ?_) | (with_reducible refine code_skip ?_) | (with_reducible refine code_ret ?_) | (with_reducible refine code_exit ?_) | (with_reducible refine code_block ?_)))
  refine val2 rfl rfl (loadN_ok rfl (load_at hr3 rfl)) (by simp only [Env.put, List.set_cons_succ, List.set_cons_zero]; rfl) ?_
  (repeat (first
    | (with_reducible refine code_seq ?_) | (with_reducible refine code_region ?_) | (with_reducible refine ops_nil ?_)
    | (with_reducible refine val2 (by with_unfolding_all rfl) (by with_unfolding_all rfl) (by with_unfolding_all rfl) (by simp only [Env.put, List.set_cons_succ, List.set_cons_zero]; rfl) ?_) | (with_reducible refine off2 (by with_unfolding_all rfl) (by simp only [Env.put, List.set_cons_succ, List.set_cons_zero]; rfl) ?_) | (with_reducible refine code_then (by with_unfolding_all rfl) ?_) | (with_reducible refine code_else (by with_unfolding_all rfl) ?_) | (with_reducible refine code_skip ?_) | (with_reducible refine code_ret ?_) | (with_reducible refine code_exit ?_) | (with_reducible refine code_block ?_)))
  refine prim2 h6 (clos_at (v := .bool true) (args := [.agg [.int .i64 1, .int .i64 0, .int .i64 0, .slice none 0 0, .slice none 0 0].toArray, .agg #[.int .i64 1, .int .i64 0, .int .i64 0, .slice none 0 0, .slice none 0 0]]) rfl rfl) rfl rfl rfl (by simp only [Env.put, List.set_cons_succ, List.set_cons_zero]; rfl) ?_
  (repeat (first
    | (with_reducible refine code_seq ?_) | (with_reducible refine code_region ?_) | (with_reducible refine ops_nil ?_)
    | (with_reducible refine val2 (by with_unfolding_all rfl) (by with_unfolding_all rfl) (by with_unfolding_all rfl) (by simp only [Env.put, List.set_cons_succ, List.set_cons_zero]; rfl) ?_) | (with_reducible refine off2 (by with_unfolding_all rfl) (by simp only [Env.put, List.set_cons_succ, List.set_cons_zero]; rfl) ?_) | (with_reducible refine code_then (by with_unfolding_all rfl) ?_) | (with_reducible refine code_else (by with_unfolding_all rfl) ?_) | (with_reducible refine code_skip ?_) | (with_reducible refine code_ret ?_) | (with_reducible refine code_exit ?_) | (with_reducible refine code_block ?_)))
  refine prim2 h7 (ptr_blk hz3 zsame rfl rfl) rfl rfl rfl (by simp only [Env.put, List.set_cons_succ, List.set_cons_zero]; rfl) ?_
  (repeat (first
    | (with_reducible refine code_seq ?_) | (with_reducible refine code_region ?_) | (with_reducible refine ops_nil ?_)
    | (with_reducible refine val2 (by with_unfolding_all rfl) (by with_unfolding_all rfl) (by with_unfolding_all rfl) (by simp only [Env.put, List.set_cons_succ, List.set_cons_zero]; rfl) ?_) | (with_reducible refine off2 (by with_unfolding_all rfl) (by simp only [Env.put, List.set_cons_succ, List.set_cons_zero]; rfl) ?_) | (with_reducible refine code_then (by with_unfolding_all rfl) ?_) | (with_reducible refine code_else (by with_unfolding_all rfl) ?_) | (with_reducible refine code_skip ?_) | (with_reducible refine code_ret ?_) | (with_reducible refine code_exit ?_) | (with_reducible refine code_block ?_)))
  refine prim2 h8 (ptr_blk hz3 zsame rfl rfl) rfl rfl rfl (by simp only [Env.put, List.set_cons_succ, List.set_cons_zero]; rfl) ?_
  (repeat (first
    | (with_reducible refine code_seq ?_) | (with_reducible refine code_region ?_) | (with_reducible refine ops_nil ?_)
    | (with_reducible refine val2 (by with_unfolding_all rfl) (by with_unfolding_all rfl) (by with_unfolding_all rfl) (by simp only [Env.put, List.set_cons_succ, List.set_cons_zero]; rfl) ?_) | (with_reducible refine off2 (by with_unfolding_all rfl) (by simp only [Env.put, List.set_cons_succ, List.set_cons_zero]; rfl) ?_) | (with_reducible refine code_then (by with_unfolding_all rfl) ?_) | (with_reducible refine code_else (by with_unfolding_all rfl) ?_) | (with_reducible refine code_skip ?_) | (with_reducible refine code_ret ?_) | (with_reducible refine code_exit ?_) | (with_reducible refine code_block ?_)))
  refine prim2 h9 (ptr_blk hz3 zsame rfl rfl) rfl rfl rfl (by simp only [Env.put, List.set_cons_succ, List.set_cons_zero]; rfl) ?_
  (repeat (first
    | (with_reducible refine code_seq ?_) | (with_reducible refine code_region ?_) | (with_reducible refine ops_nil ?_)
    | (with_reducible refine val2 (by with_unfolding_all rfl) (by with_unfolding_all rfl) (by with_unfolding_all rfl) (by simp only [Env.put, List.set_cons_succ, List.set_cons_zero]; rfl) ?_) | (with_reducible refine off2 (by with_unfolding_all rfl) (by simp only [Env.put, List.set_cons_succ, List.set_cons_zero]; rfl) ?_) | (with_reducible refine code_then (by with_unfolding_all rfl) ?_) | (with_reducible refine code_else (by with_unfolding_all rfl) ?_) | (with_reducible refine code_skip ?_) | (with_reducible refine code_ret ?_) | (with_reducible refine code_exit ?_) | (with_reducible refine code_block ?_)))
  refine val2 rfl rfl (load1_ok rfl (load_at hb3 rfl)) (by simp only [Env.put, List.set_cons_succ, List.set_cons_zero]; rfl) ?_
  (repeat (first
    | (with_reducible refine code_seq ?_) | (with_reducible refine code_region ?_) | (with_reducible refine ops_nil ?_)
    | (with_reducible refine val2 (by with_unfolding_all rfl) (by with_unfolding_all rfl) (by with_unfolding_all rfl) (by simp only [Env.put, List.set_cons_succ, List.set_cons_zero]; rfl) ?_) | (with_reducible refine off2 (by with_unfolding_all rfl) (by simp only [Env.put, List.set_cons_succ, List.set_cons_zero]; rfl) ?_) | (with_reducible refine code_then (by with_unfolding_all rfl) ?_) | (with_reducible refine code_else (by with_unfolding_all rfl) ?_) | (with_reducible refine code_skip ?_) | (with_reducible refine code_ret ?_) | (with_reducible refine code_exit ?_) | (with_reducible refine code_block ?_)))
  refine prim2 h10 (ptr_blk hz3 zsame rfl rfl) rfl rfl rfl (by simp only [Env.put, List.set_cons_succ, List.set_cons_zero]; rfl) ?_
  (repeat (first
    | (with_reducible refine code_seq ?_) | (with_reducible refine code_region ?_) | (with_reducible refine ops_nil ?_)
    | (with_reducible refine val2 (by with_unfolding_all rfl) (by with_unfolding_all rfl) (by with_unfolding_all rfl) (by simp only [Env.put, List.set_cons_succ, List.set_cons_zero]; rfl) ?_) | (with_reducible refine off2 (by with_unfolding_all rfl) (by simp only [Env.put, List.set_cons_succ, List.set_cons_zero]; rfl) ?_) | (with_reducible refine code_then (by with_unfolding_all rfl) ?_) | (with_reducible refine code_else (by with_unfolding_all rfl) ?_) | (with_reducible refine code_skip ?_) | (with_reducible refine code_ret ?_) | (with_reducible refine code_exit ?_) | (with_reducible refine code_block ?_)))
  refine prim2 h11 (p := trueP) (args := []) rfl rfl rfl rfl (by simp only [Env.put, List.set_cons_succ, List.set_cons_zero]; rfl) ?_
  (repeat (first
    | (with_reducible refine code_seq ?_) | (with_reducible refine code_region ?_) | (with_reducible refine ops_nil ?_)
    | (with_reducible refine val2 (by with_unfolding_all rfl) (by with_unfolding_all rfl) (by with_unfolding_all rfl) (by simp only [Env.put, List.set_cons_succ, List.set_cons_zero]; rfl) ?_) | (with_reducible refine off2 (by with_unfolding_all rfl) (by simp only [Env.put, List.set_cons_succ, List.set_cons_zero]; rfl) ?_) | (with_reducible refine code_then (by with_unfolding_all rfl) ?_) | (with_reducible refine code_else (by with_unfolding_all rfl) ?_) | (with_reducible refine code_skip ?_) | (with_reducible refine code_ret ?_) | (with_reducible refine code_exit ?_) | (with_reducible refine code_block ?_)))
  exact hk _ _ rfl

set_option maxRecDepth 20000 in
set_option maxHeartbeats 4000000 in
theorem ov_walk {T : Tab} (h3 : T.fn 3 = some (.code rf3t)) (h4 : T.fn 4 = some (.code rf4)) (h5 : T.fn 5 = some (.code rf5)) (h15 : T.fn 15 = some (.prim (closP qFail))) (h6 : T.fn 6 = some (.prim (closP qSame))) (h7 : T.fn 7 = some (.prim (ptrP zFS (qNone (.slice none 0 0)) (qNone (.slice none 0 0)))))
    (h8 : T.fn 8 = some (.prim (ptrP zFS (qNone (.int .i64 0)) (qNone (.int .i64 0))))) (h9 : T.fn 9 = some (.prim (ptrP zFS (qInt (.slice none 0 0)) (qInt (.slice none 0 0))))) (h10 : T.fn 10 = some (.prim (ptrP zFS (qInt2 (.string ⟨#[]⟩)) (qInt2 (.string ⟨#[]⟩)))))
    (h11 : T.fn 11 = some (.prim trueP)) (who : Int) (a0 : Int) (s1 s2 : ByteArray) (a3 a4 a5 : Int) (b6 b7 : Bool) (sa : Option Addr) (sl sc : Nat) (made : Bool) (H : AHeap) :
    (evN T (0 + 400)).call 3 [.int .i64 who, .agg #[.int .i64 a0, .string s1, .string s2, .int .i64 a3, .int .i64 a4, .int .i64 a5, .bool b6, .bool b7, .slice sa sl sc], .bool made] H (fun r _ => r = .ret (.bool true)) := by
  refine call_code2 (env := [some (.int .i64 who), some (.agg #[.int .i64 a0, .string s1, .string s2, .int .i64 a3, .int .i64 a4, .int .i64 a5, .bool b6, .bool b7, .slice sa sl sc]), some (.bool made), some undef, some undef, some undef, some undef, some undef, some undef, some undef, some undef, some undef, some undef, some undef, some undef, some undef, some undef, some undef, some undef, some undef, some undef, some undef, some undef, some undef, some undef, some undef, some undef, some undef, some undef, some undef, some undef, some undef, some undef, some undef, some undef, some undef, some undef, some undef, some undef, some undef, some undef, some undef, some undef, some undef, some undef, some undef, some undef, some undef, some undef, some undef, some undef, some undef, some undef, some undef, some undef, some undef, some undef, some undef, some undef, some undef, some undef, some undef, some undef, some undef]) h3 (by show 3 ≤ 64; omega) rfl ?_
  dsimp only [rf3t]
  (repeat (first
    | (with_reducible refine code_seq ?_) | (with_reducible refine code_region ?_) | (with_reducible refine ops_nil ?_)
    | (with_reducible refine val2 (by with_unfolding_all rfl) (by with_unfolding_all rfl) (by with_unfolding_all rfl) (by simp only [Env.put, List.set_cons_succ, List.set_cons_zero]; rfl) ?_) | (with_reducible refine off2 (by with_unfolding_all rfl) (by simp only [Env.put, List.set_cons_succ, List.set_cons_zero]; rfl) ?_) | (with_reducible refine code_then (by with_unfolding_all rfl) ?_) | (with_reducible refine code_else (by with_unfolding_all rfl) ?_) | (with_reducible refine code_skip ?_) | (with_reducible refine code_ret ?_) | (with_reducible refine code_exit ?_) | (with_reducible refine code_block ?_)))
  refine call2 rfl rfl rfl (new_nil h4 _ _ _ ?_)
  show evOps T _ _ _ _ _
  refine ops_st2 (env' := _) (by simp only [Env.put, List.set_cons_succ, List.set_cons_zero]; rfl) ?_
  (repeat (first
    | (with_reducible refine code_seq ?_) | (with_reducible refine code_region ?_) | (with_reducible refine ops_nil ?_)
    | (with_reducible refine val2 (by with_unfolding_all rfl) (by with_unfolding_all rfl) (by with_unfolding_all rfl) (by simp only [Env.put, List.set_cons_succ, List.set_cons_zero]; rfl) ?_) | (with_reducible refine off2 (by with_unfolding_all rfl) (by simp only [Env.put, List.set_cons_succ, List.set_cons_zero]; rfl) ?_) | (with_reducible refine code_then (by with_unfolding_all rfl) ?_) | (with_reducible refine code_else (by with_unfolding_all rfl) ?_) | (with_reducible refine code_skip ?_) | (with_reducible refine code_ret ?_) | (with_reducible refine code_exit ?_) | (with_reducible refine code_block ?_)))
  cases made
  · (repeat (first
    | (with_reducible refine code_seq ?_) | (with_reducible refine code_region ?_) | (with_reducible refine ops_nil ?_)
    | (with_reducible refine val2 (by with_unfolding_all rfl) (by with_unfolding_all rfl) (by with_unfolding_all rfl) (by simp only [Env.put, List.set_cons_succ, List.set_cons_zero]; rfl) ?_) | (with_reducible refine off2 (by with_unfolding_all rfl) (by simp only [Env.put, List.set_cons_succ, List.set_cons_zero]; rfl) ?_) | (with_reducible refine code_then (by with_unfolding_all rfl) ?_) | (with_reducible refine code_else (by with_unfolding_all rfl) ?_) | (with_reducible refine code_skip ?_) | (with_reducible refine code_ret ?_) | (with_reducible refine code_exit ?_) | (with_reducible refine code_block ?_)))
    refine tail_n h5 h15 h6 h7 h8 h9 h10 h11 who a0 s1 s2 a3 a4 a5 b6 b7 sa sl sc _ _ _ (get_alloc_self _ _) _ _ _ _ _ _ _ _ _ _ _ _ _ _ _ _ _ _ _ _ _ _ _ _ _ _ _ _ _ _ _ _ _ _ _ _ _ _ _ _ _ _ _ _ _ _ _ _ _ _ _ _ _ _ _ _ _ _ _ _ ?_
    intro e H' he
    refine (show retS _ _ _ (fun r _ => r = .ret (.bool true)) from ?_)
    exact ret_k (k := fun r _ => r = .ret (.bool true)) (vs := [.bool true]) (H1 := _) rfl (res1_ok he) rfl
  · (repeat (first
    | (with_reducible refine code_seq ?_) | (with_reducible refine code_region ?_) | (with_reducible refine ops_nil ?_)
    | (with_reducible refine val2 (by with_unfolding_all rfl) (by with_unfolding_all rfl) (by with_unfolding_all rfl) (by simp only [Env.put, List.set_cons_succ, List.set_cons_zero]; rfl) ?_) | (with_reducible refine off2 (by with_unfolding_all rfl) (by simp only [Env.put, List.set_cons_succ, List.set_cons_zero]; rfl) ?_) | (with_reducible refine code_then (by with_unfolding_all rfl) ?_) | (with_reducible refine code_else (by with_unfolding_all rfl) ?_) | (with_reducible refine code_skip ?_) | (with_reducible refine code_ret ?_) | (with_reducible refine code_exit ?_) | (with_reducible refine code_block ?_)))
    refine tail_b h5 h15 h6 h7 h8 h9 h10 h11 who a0 s1 s2 a3 a4 a5 b6 b7 sa sl sc _ _ _ (get_alloc_old (get_alloc_self _ _)) _ (get_alloc_self _ _) _ _ _ _ _ _ _ _ _ _ _ _ _ _ _ _ _ _ _ _ _ _ _ _ _ _ _ _ _ _ _ _ _ _ _ _ _ _ _ _ _ _ _ _ _ _ _ _ _ _ _ _ _ _ _ _ _ _ _ _ ?_
    intro e H' he
    refine (show retS _ _ _ (fun r _ => r = .ret (.bool true)) from ?_)
    exact ret_k (k := fun r _ => r = .ret (.bool true)) (vs := [.bool true]) (H1 := _) rfl (res1_ok he) rfl
end Go.Proofs.YtcjhklflgdeckaaGreat
