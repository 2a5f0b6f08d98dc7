/- Parts of the proof of VfsNilSaid: the walk through the law itself; no condition. -/
import Derived.Test.YtcjhklflgdeckaaNil1
import Derived.Test.YtcjhklflgdeckaaNil2
namespace Go.Proofs.Ytcjhklflgdeckaa
open Go.E
/-- valise/valiselaw20.VfsNil -/
noncomputable def rf9 : RFunc := ⟨62, [.tmp 6],
  (.seq (.region [⟨(some 6), .mov (.const (.bool false)), none⟩])
  (.seq (.region [⟨(some 7), .mov (.const .nilIface), none⟩])
  (.seq (.seq (.region [⟨(some 11), .mov (.tmp 1), none⟩,
    ⟨(some 12), .call 10 [(.tmp 11)], none⟩,
    ⟨(some 13), .un .not (.tmp 12), none⟩])
  (.cond (.tmp 13)
  (.seq (.region [⟨(some 14), .call 11 [], none⟩,
    ⟨(some 6), .mov (.tmp 14), none⟩])
  .ret)
  .skip))
  (.seq (.region [⟨(some 16), .mov (.tmp 7), none⟩,
    ⟨(some 17), .mov (.tmp 1), none⟩,
    ⟨(some 18), .call 12 [(.tmp 16), (.tmp 17)], none⟩,
    ⟨(some 15), .mov (.tmp 18), none⟩,
    ⟨(some 19), .ext (.tmp 15) 0, none⟩,
    ⟨(some 20), .ext (.tmp 15) 1, none⟩,
    ⟨(some 8), .mov (.tmp 19), none⟩,
    ⟨(some 9), .mov (.tmp 20), none⟩])
  (.seq (.region [⟨(some 10), .mov (.const (.pointer none)), none⟩])
  (.seq (.seq (.region [⟨(some 21), .mov (.tmp 2), none⟩])
  (.cond (.tmp 21)
  (.region [⟨(some 22), .build [.nilIface, (.pointer none), (.slice none 0 0), (.slice none 0 0), (.int .i64 0)] [], none⟩,
    ⟨(some 23), .box 77 5 (.tmp 22), none⟩,
    ⟨(some 10), .mov (.tmp 23), none⟩])
  .skip))
  (.seq (.region [⟨(some 24), .mov (.tmp 8), none⟩,
    ⟨(some 25), .bin .eql 26 (.pointer 77) (.tmp 24) (.const (.pointer none)), none⟩,
    ⟨(some 26), .mov (.tmp 25), none⟩,
    ⟨(some 27), .mov (.tmp 9), (some (26, true))⟩,
    ⟨(some 28), .bin .eql 27 (.int .i64) (.tmp 27) (.const (.int .i64 1)), (some (26, true))⟩,
    ⟨(some 29), .pick (.tmp 26) (.tmp 28) (.const (.bool false)), none⟩,
    ⟨(some 30), .mov (.tmp 29), none⟩,
    ⟨(some 31), .mov (.tmp 10), (some (30, true))⟩,
    ⟨(some 32), .mov (.tmp 0), (some (30, true))⟩,
    ⟨(some 33), .call 16 [(.tmp 31), (.tmp 32)], (some (30, true))⟩,
    ⟨(some 34), .un .not (.tmp 33), (some (30, true))⟩,
    ⟨(some 35), .pick (.tmp 30) (.tmp 34) (.const (.bool false)), none⟩,
    ⟨(some 36), .mov (.tmp 35), none⟩,
    ⟨(some 37), .mov (.tmp 10), (some (36, true))⟩,
    ⟨(some 38), .call 23 [(.tmp 37)], (some (36, true))⟩,
    ⟨(some 39), .len (.slice 61) (.tmp 38), (some (36, true))⟩,
    ⟨(some 40), .bin .eql 3 (.int .i64) (.tmp 39) (.const (.int .i64 0)), (some (36, true))⟩,
    ⟨(some 41), .pick (.tmp 36) (.tmp 40) (.const (.bool false)), none⟩,
    ⟨(some 42), .mov (.tmp 41), none⟩,
    ⟨(some 43), .mov (.tmp 10), (some (42, true))⟩,
    ⟨(some 44), .call 17 [(.tmp 43)], (some (42, true))⟩,
    ⟨(some 45), .bin .eql 3 (.int .i64) (.tmp 44) (.const (.int .i64 0)), (some (42, true))⟩,
    ⟨(some 46), .pick (.tmp 42) (.tmp 45) (.const (.bool false)), none⟩,
    ⟨(some 47), .mov (.tmp 46), none⟩,
    ⟨(some 48), .mov (.tmp 10), (some (47, true))⟩,
    ⟨(some 49), .mov (.tmp 0), (some (47, true))⟩,
    ⟨(some 50), .call 18 [(.tmp 48), (.tmp 49)], (some (47, true))⟩,
    ⟨(some 51), .bin .eql 3 (.int .i64) (.tmp 50) (.const (.int .i64 0)), (some (47, true))⟩,
    ⟨(some 52), .pick (.tmp 47) (.tmp 51) (.const (.bool false)), none⟩,
    ⟨(some 53), .mov (.tmp 52), none⟩,
    ⟨(some 54), .mov (.tmp 10), (some (53, true))⟩,
    ⟨(some 55), .mov (.tmp 0), (some (53, true))⟩,
    ⟨(some 56), .call 20 [(.tmp 54), (.tmp 55)], (some (53, true))⟩,
    ⟨(some 57), .un .not (.tmp 56), (some (53, true))⟩,
    ⟨(some 58), .pick (.tmp 53) (.tmp 57) (.const (.bool false)), none⟩,
    ⟨(some 59), .mov (.tmp 58), none⟩,
    ⟨(some 60), .call 11 [], (some (59, true))⟩,
    ⟨(some 61), .pick (.tmp 59) (.tmp 60) (.const (.bool false)), none⟩,
    ⟨(some 6), .mov (.tmp 61), none⟩])
  .ret)))))))⟩
theorem p_n {v : Value} {n : Int} {H : AHeap} : pInt v [.pointer none, .int .i64 n] H = some (.ret v, H) := ptr_nil rfl rfl
theorem p_b {v : Value} {n : Int} {H : AHeap} {i : Nat} (hg : H.get i = some (zSys.obj false)) : pInt v [.pointer (some ⟨i, 0, none⟩), .int .i64 n] H = some (.ret v, H) := ptr_blk hg rfl rfl rfl
theorem n_n {v : Value} {H : AHeap} : pNone v [.pointer none] H = some (.ret v, H) := ptr_nil rfl rfl
theorem n_b {v : Value} {H : AHeap} {i : Nat} (hg : H.get i = some (zSys.obj false)) : pNone v [.pointer (some ⟨i, 0, none⟩)] H = some (.ret v, H) := ptr_blk hg rfl rfl rfl

set_option maxRecDepth 20000 in
set_option maxHeartbeats 2000000 in
theorem nil_walk {T : Tab} (h9 : T.fn 9 = some (.code rf9)) (h10 : T.fn 10 = some (.code rf10)) (h11 : T.fn 11 = some (.prim trueP)) (h12 : T.fn 12 = some (.code rf12)) (h16 : T.fn 16 = some (.prim (pInt (.bool false))))
    (h18 : T.fn 18 = some (.prim (pInt (.int .i64 0)))) (h20 : T.fn 20 = some (.prim (pInt (.bool false)))) (h23 : T.fn 23 = some (.prim (pNone (.slice none 0 0)))) (h17 : T.fn 17 = some (.prim (pNone (.int .i64 0))))
    (who : Int) (v : Value) (made : Bool) (H : AHeap) (hv : ListsAt H v) : (evN T (0 + 3000)).call 9 [.int .i64 who, v, .bool made] H (fun r _ => r = .ret (.bool true)) := by
  refine call_code2 (env := [some (.int .i64 who), some v, some (.bool made), some undef, some undef, some undef, some undef, some undef, some undef, some undef, some undef, some undef, some undef, some undef, some undef, some undef, some undef, some undef, some undef, some undef, some undef, some undef, some undef, some undef, some undef, some undef, some undef, some undef, some undef, some undef, some undef, some undef, some undef, some undef, some undef, some undef, some undef, some undef, some undef, some undef, some undef, some undef, some undef, some undef, some undef, some undef, some undef, some undef, some undef, some undef, some undef, some undef, some undef, some undef, some undef, some undef, some undef, some undef, some undef, some undef, some undef, some undef]) h9 (by show 3 ≤ 62; omega) rfl ?_
  dsimp only [rf9]
  (repeat (first
    | (with_reducible refine code_seq ?_) | (with_reducible refine code_region ?_) | (with_reducible refine ops_nil ?_)
    | (with_reducible refine val2 (by with_unfolding_all rfl) (by with_unfolding_all rfl) (by with_unfolding_all rfl) (by simp only [Env.put, List.set_cons_succ, List.set_cons_zero]; rfl) ?_) | (with_reducible refine off2 (by with_unfolding_all rfl) (by simp only [Env.put, List.set_cons_succ, List.set_cons_zero]; rfl) ?_) | (with_reducible refine code_then (by with_unfolding_all rfl) ?_) | (with_reducible refine code_else (by with_unfolding_all rfl) ?_) | (with_reducible refine code_skip ?_) | (with_reducible refine code_ret ?_) | (with_reducible refine code_exit ?_) | (with_reducible refine code_block ?_)))
  refine call2 rfl rfl rfl (few_walk h10 v _ (by decide) _ hv _ fun b H' => ?_)
  cases b
  · show evOps T _ _ _ _ _
    refine ops_st2 (env' := _) (by simp only [Env.put, List.set_cons_succ, List.set_cons_zero]; rfl) ?_
    (repeat (first
    | (with_reducible refine code_seq ?_) | (with_reducible refine code_region ?_) | (with_reducible refine ops_nil ?_)
    | (with_reducible refine val2 (by with_unfolding_all rfl) (by with_unfolding_all rfl) (by with_unfolding_all rfl) (by simp only [Env.put, List.set_cons_succ, List.set_cons_zero]; rfl) ?_) | (with_reducible refine off2 (by with_unfolding_all rfl) (by simp only [Env.put, List.set_cons_succ, List.set_cons_zero]; rfl) ?_) | (with_reducible refine code_then (by with_unfolding_all rfl) ?_) | (with_reducible refine code_else (by with_unfolding_all rfl) ?_) | (with_reducible refine code_skip ?_) | (with_reducible refine code_ret ?_) | (with_reducible refine code_exit ?_) | (with_reducible refine code_block ?_) | (with_reducible refine prim2 h11 (p := trueP) (args := []) (by with_unfolding_all rfl) (by with_unfolding_all rfl) (by with_unfolding_all rfl) (by with_unfolding_all rfl) (by simp only [Env.put, List.set_cons_succ, List.set_cons_zero]; rfl) ?_)))
    show retS _ _ _ (fun r _ => r = .ret (.bool true))
    exact ret_k (k := fun r _ => r = .ret (.bool true)) (vs := [.bool true]) (H1 := _) (by with_unfolding_all rfl) (by with_unfolding_all rfl) rfl
  show evOps T _ _ _ _ _
  refine ops_st2 (env' := _) (by simp only [Env.put, List.set_cons_succ, List.set_cons_zero]; rfl) ?_
  (repeat (first
    | (with_reducible refine code_seq ?_) | (with_reducible refine code_region ?_) | (with_reducible refine ops_nil ?_)
    | (with_reducible refine val2 (by with_unfolding_all rfl) (by with_unfolding_all rfl) (by with_unfolding_all rfl) (by simp only [Env.put, List.set_cons_succ, List.set_cons_zero]; rfl) ?_) | (with_reducible refine off2 (by with_unfolding_all rfl) (by simp only [Env.put, List.set_cons_succ, List.set_cons_zero]; rfl) ?_) | (with_reducible refine code_then (by with_unfolding_all rfl) ?_) | (with_reducible refine code_else (by with_unfolding_all rfl) ?_) | (with_reducible refine code_skip ?_) | (with_reducible refine code_ret ?_) | (with_reducible refine code_exit ?_) | (with_reducible refine code_block ?_)))
  refine call2 rfl rfl rfl (new_nil h12 _ _ _ _ ?_)
  show evOps T _ _ _ _ _
  refine ops_st2 (env' := _) (by simp only [Env.put, List.set_cons_succ, List.set_cons_zero]; rfl) ?_
  (repeat (first
    | (with_reducible refine code_seq ?_) | (with_reducible refine code_region ?_) | (with_reducible refine ops_nil ?_)
    | (with_reducible refine val2 (by with_unfolding_all rfl) (by with_unfolding_all rfl) (by with_unfolding_all rfl) (by simp only [Env.put, List.set_cons_succ, List.set_cons_zero]; rfl) ?_) | (with_reducible refine off2 (by with_unfolding_all rfl) (by simp only [Env.put, List.set_cons_succ, List.set_cons_zero]; rfl) ?_) | (with_reducible refine code_then (by with_unfolding_all rfl) ?_) | (with_reducible refine code_else (by with_unfolding_all rfl) ?_) | (with_reducible refine code_skip ?_) | (with_reducible refine code_ret ?_) | (with_reducible refine code_exit ?_) | (with_reducible refine code_block ?_)))
  cases made
  · (repeat (first
    | (with_reducible refine code_seq ?_) | (with_reducible refine code_region ?_) | (with_reducible refine ops_nil ?_)
    | (with_reducible refine val2 (by with_unfolding_all rfl) (by with_unfolding_all rfl) (by with_unfolding_all rfl) (by simp only [Env.put, List.set_cons_succ, List.set_cons_zero]; rfl) ?_) | (with_reducible refine off2 (by with_unfolding_all rfl) (by simp only [Env.put, List.set_cons_succ, List.set_cons_zero]; rfl) ?_) | (with_reducible refine code_then (by with_unfolding_all rfl) ?_) | (with_reducible refine code_else (by with_unfolding_all rfl) ?_) | (with_reducible refine code_skip ?_) | (with_reducible refine code_ret ?_) | (with_reducible refine code_exit ?_) | (with_reducible refine code_block ?_)))
    refine prim2 h16 p_n rfl rfl rfl (by simp only [Env.put, List.set_cons_succ, List.set_cons_zero]; rfl) ?_
    (repeat (first
    | (with_reducible refine code_seq ?_) | (with_reducible refine code_region ?_) | (with_reducible refine ops_nil ?_)
    | (with_reducible refine val2 (by with_unfolding_all rfl) (by with_unfolding_all rfl) (by with_unfolding_all rfl) (by simp only [Env.put, List.set_cons_succ, List.set_cons_zero]; rfl) ?_) | (with_reducible refine off2 (by with_unfolding_all rfl) (by simp only [Env.put, List.set_cons_succ, List.set_cons_zero]; rfl) ?_) | (with_reducible refine code_then (by with_unfolding_all rfl) ?_) | (with_reducible refine code_else (by with_unfolding_all rfl) ?_) | (with_reducible refine code_skip ?_) | (with_reducible refine code_ret ?_) | (with_reducible refine code_exit ?_) | (with_reducible refine code_block ?_)))
    refine prim2 h23 n_n rfl rfl rfl (by simp only [Env.put, List.set_cons_succ, List.set_cons_zero]; rfl) ?_
    (repeat (first
    | (with_reducible refine code_seq ?_) | (with_reducible refine code_region ?_) | (with_reducible refine ops_nil ?_)
    | (with_reducible refine val2 (by with_unfolding_all rfl) (by with_unfolding_all rfl) (by with_unfolding_all rfl) (by simp only [Env.put, List.set_cons_succ, List.set_cons_zero]; rfl) ?_) | (with_reducible refine off2 (by with_unfolding_all rfl) (by simp only [Env.put, List.set_cons_succ, List.set_cons_zero]; rfl) ?_) | (with_reducible refine code_then (by with_unfolding_all rfl) ?_) | (with_reducible refine code_else (by with_unfolding_all rfl) ?_) | (with_reducible refine code_skip ?_) | (with_reducible refine code_ret ?_) | (with_reducible refine code_exit ?_) | (with_reducible refine code_block ?_)))
    refine prim2 h17 n_n rfl rfl rfl (by simp only [Env.put, List.set_cons_succ, List.set_cons_zero]; rfl) ?_
    (repeat (first
    | (with_reducible refine code_seq ?_) | (with_reducible refine code_region ?_) | (with_reducible refine ops_nil ?_)
    | (with_reducible refine val2 (by with_unfolding_all rfl) (by with_unfolding_all rfl) (by with_unfolding_all rfl) (by simp only [Env.put, List.set_cons_succ, List.set_cons_zero]; rfl) ?_) | (with_reducible refine off2 (by with_unfolding_all rfl) (by simp only [Env.put, List.set_cons_succ, List.set_cons_zero]; rfl) ?_) | (with_reducible refine code_then (by with_unfolding_all rfl) ?_) | (with_reducible refine code_else (by with_unfolding_all rfl) ?_) | (with_reducible refine code_skip ?_) | (with_reducible refine code_ret ?_) | (with_reducible refine code_exit ?_) | (with_reducible refine code_block ?_)))
    refine prim2 h18 p_n rfl rfl rfl (by simp only [Env.put, List.set_cons_succ, List.set_cons_zero]; rfl) ?_
    (repeat (first
    | (with_reducible refine code_seq ?_) | (with_reducible refine code_region ?_) | (with_reducible refine ops_nil ?_)
    | (with_reducible refine val2 (by with_unfolding_all rfl) (by with_unfolding_all rfl) (by with_unfolding_all rfl) (by simp only [Env.put, List.set_cons_succ, List.set_cons_zero]; rfl) ?_) | (with_reducible refine off2 (by with_unfolding_all rfl) (by simp only [Env.put, List.set_cons_succ, List.set_cons_zero]; rfl) ?_) | (with_reducible refine code_then (by with_unfolding_all rfl) ?_) | (with_reducible refine code_else (by with_unfolding_all rfl) ?_) | (with_reducible refine code_skip ?_) | (with_reducible refine code_ret ?_) | (with_reducible refine code_exit ?_) | (with_reducible refine code_block ?_)))
    refine prim2 h20 p_n rfl rfl rfl (by simp only [Env.put, List.set_cons_succ, List.set_cons_zero]; rfl) ?_
    (repeat (first
    | (with_reducible refine code_seq ?_) | (with_reducible refine code_region ?_) | (with_reducible refine ops_nil ?_)
    | (with_reducible refine val2 (by with_unfolding_all rfl) (by with_unfolding_all rfl) (by with_unfolding_all rfl) (by simp only [Env.put, List.set_cons_succ, List.set_cons_zero]; rfl) ?_) | (with_reducible refine off2 (by with_unfolding_all rfl) (by simp only [Env.put, List.set_cons_succ, List.set_cons_zero]; rfl) ?_) | (with_reducible refine code_then (by with_unfolding_all rfl) ?_) | (with_reducible refine code_else (by with_unfolding_all rfl) ?_) | (with_reducible refine code_skip ?_) | (with_reducible refine code_ret ?_) | (with_reducible refine code_exit ?_) | (with_reducible refine code_block ?_)))
    refine prim2 h11 (p := trueP) (args := []) rfl rfl rfl rfl (by simp only [Env.put, List.set_cons_succ, List.set_cons_zero]; rfl) ?_
    (repeat (first
    | (with_reducible refine code_seq ?_) | (with_reducible refine code_region ?_) | (with_reducible refine ops_nil ?_)
    | (with_reducible refine val2 (by with_unfolding_all rfl) (by with_unfolding_all rfl) (by with_unfolding_all rfl) (by simp only [Env.put, List.set_cons_succ, List.set_cons_zero]; rfl) ?_) | (with_reducible refine off2 (by with_unfolding_all rfl) (by simp only [Env.put, List.set_cons_succ, List.set_cons_zero]; rfl) ?_) | (with_reducible refine code_then (by with_unfolding_all rfl) ?_) | (with_reducible refine code_else (by with_unfolding_all rfl) ?_) | (with_reducible refine code_skip ?_) | (with_reducible refine code_ret ?_) | (with_reducible refine code_exit ?_) | (with_reducible refine code_block ?_)))
    show retS _ _ _ (fun r _ => r = .ret (.bool true))
    exact ret_k (k := fun r _ => r = .ret (.bool true)) (vs := [.bool true]) (H1 := _) (by with_unfolding_all rfl) (by with_unfolding_all rfl) rfl
  · (repeat (first
    | (with_reducible refine code_seq ?_) | (with_reducible refine code_region ?_) | (with_reducible refine ops_nil ?_)
    | (with_reducible refine val2 (by with_unfolding_all rfl) (by with_unfolding_all rfl) (by with_unfolding_all rfl) (by simp only [Env.put, List.set_cons_succ, List.set_cons_zero]; rfl) ?_) | (with_reducible refine off2 (by with_unfolding_all rfl) (by simp only [Env.put, List.set_cons_succ, List.set_cons_zero]; rfl) ?_) | (with_reducible refine code_then (by with_unfolding_all rfl) ?_) | (with_reducible refine code_else (by with_unfolding_all rfl) ?_) | (with_reducible refine code_skip ?_) | (with_reducible refine code_ret ?_) | (with_reducible refine code_exit ?_) | (with_reducible refine code_block ?_)))
    have hg : (H'.alloc (.cells (Value.agg #[.nilIface, .pointer none, .slice none 0 0, .slice none 0 0, .int .i64 0]).cells.toList 77 5 true false)).get H'.next = some (zSys.obj false) := get_alloc_self _ _
    refine prim2 h16 (p_b hg) rfl rfl rfl (by simp only [Env.put, List.set_cons_succ, List.set_cons_zero]; rfl) ?_
    (repeat (first
    | (with_reducible refine code_seq ?_) | (with_reducible refine code_region ?_) | (with_reducible refine ops_nil ?_)
    | (with_reducible refine val2 (by with_unfolding_all rfl) (by with_unfolding_all rfl) (by with_unfolding_all rfl) (by simp only [Env.put, List.set_cons_succ, List.set_cons_zero]; rfl) ?_) | (with_reducible refine off2 (by with_unfolding_all rfl) (by simp only [Env.put, List.set_cons_succ, List.set_cons_zero]; rfl) ?_) | (with_reducible refine code_then (by with_unfolding_all rfl) ?_) | (with_reducible refine code_else (by with_unfolding_all rfl) ?_) | (with_reducible refine code_skip ?_) | (with_reducible refine code_ret ?_) | (with_reducible refine code_exit ?_) | (with_reducible refine code_block ?_)))
    refine prim2 h23 (n_b hg) rfl rfl rfl (by simp only [Env.put, List.set_cons_succ, List.set_cons_zero]; rfl) ?_
    (repeat (first
    | (with_reducible refine code_seq ?_) | (with_reducible refine code_region ?_) | (with_reducible refine ops_nil ?_)
    | (with_reducible refine val2 (by with_unfolding_all rfl) (by with_unfolding_all rfl) (by with_unfolding_all rfl) (by simp only [Env.put, List.set_cons_succ, List.set_cons_zero]; rfl) ?_) | (with_reducible refine off2 (by with_unfolding_all rfl) (by simp only [Env.put, List.set_cons_succ, List.set_cons_zero]; rfl) ?_) | (with_reducible refine code_then (by with_unfolding_all rfl) ?_) | (with_reducible refine code_else (by with_unfolding_all rfl) ?_) | (with_reducible refine code_skip ?_) | (with_reducible refine code_ret ?_) | (with_reducible refine code_exit ?_) | (with_reducible refine code_block ?_)))
    refine prim2 h17 (n_b hg) rfl rfl rfl (by simp only [Env.put, List.set_cons_succ, List.set_cons_zero]; rfl) ?_
    (repeat (first
    | (with_reducible refine code_seq ?_) | (with_reducible refine code_region ?_) | (with_reducible refine ops_nil ?_)
    | (with_reducible refine val2 (by with_unfolding_all rfl) (by with_unfolding_all rfl) (by with_unfolding_all rfl) (by simp only [Env.put, List.set_cons_succ, List.set_cons_zero]; rfl) ?_) | (with_reducible refine off2 (by with_unfolding_all rfl) (by simp only [Env.put, List.set_cons_succ, List.set_cons_zero]; rfl) ?_) | (with_reducible refine code_then (by with_unfolding_all rfl) ?_) | (with_reducible refine code_else (by with_unfolding_all rfl) ?_) | (with_reducible refine code_skip ?_) | (with_reducible refine code_ret ?_) | (with_reducible refine code_exit ?_) | (with_reducible refine code_block ?_)))
    refine prim2 h18 (p_b hg) rfl rfl rfl (by simp only [Env.put, List.set_cons_succ, List.set_cons_zero]; rfl) ?_
    (repeat (first
    | (with_reducible refine code_seq ?_) | (with_reducible refine code_region ?_) | (with_reducible refine ops_nil ?_)
    | (with_reducible refine val2 (by with_unfolding_all rfl) (by with_unfolding_all rfl) (by with_unfolding_all rfl) (by simp only [Env.put, List.set_cons_succ, List.set_cons_zero]; rfl) ?_) | (with_reducible refine off2 (by with_unfolding_all rfl) (by simp only [Env.put, List.set_cons_succ, List.set_cons_zero]; rfl) ?_) | (with_reducible refine code_then (by with_unfolding_all rfl) ?_) | (with_reducible refine code_else (by with_unfolding_all rfl) ?_) | (with_reducible refine code_skip ?_) | (with_reducible refine code_ret ?_) | (with_reducible refine code_exit ?_) | (with_reducible refine code_block ?_)))
    refine prim2 h20 (p_b hg) rfl rfl rfl (by simp only [Env.put, List.set_cons_succ, List.set_cons_zero]; rfl) ?_
    (repeat (first
    | (with_reducible refine code_seq ?_) | (with_reducible refine code_region ?_) | (with_reducible refine ops_nil ?_)
    | (with_reducible refine val2 (by with_unfolding_all rfl) (by with_unfolding_all rfl) (by with_unfolding_all rfl) (by simp only [Env.put, List.set_cons_succ, List.set_cons_zero]; rfl) ?_) | (with_reducible refine off2 (by with_unfolding_all rfl) (by simp only [Env.put, List.set_cons_succ, List.set_cons_zero]; rfl) ?_) | (with_reducible refine code_then (by with_unfolding_all rfl) ?_) | (with_reducible refine code_else (by with_unfolding_all rfl) ?_) | (with_reducible refine code_skip ?_) | (with_reducible refine code_ret ?_) | (with_reducible refine code_exit ?_) | (with_reducible refine code_block ?_)))
    refine prim2 h11 (p := trueP) (args := []) rfl rfl rfl rfl (by simp only [Env.put, List.set_cons_succ, List.set_cons_zero]; rfl) ?_
    (repeat (first
    | (with_reducible refine code_seq ?_) | (with_reducible refine code_region ?_) | (with_reducible refine ops_nil ?_)
    | (with_reducible refine val2 (by with_unfolding_all rfl) (by with_unfolding_all rfl) (by with_unfolding_all rfl) (by simp only [Env.put, List.set_cons_succ, List.set_cons_zero]; rfl) ?_) | (with_reducible refine off2 (by with_unfolding_all rfl) (by simp only [Env.put, List.set_cons_succ, List.set_cons_zero]; rfl) ?_) | (with_reducible refine code_then (by with_unfolding_all rfl) ?_) | (with_reducible refine code_else (by with_unfolding_all rfl) ?_) | (with_reducible refine code_skip ?_) | (with_reducible refine code_ret ?_) | (with_reducible refine code_exit ?_) | (with_reducible refine code_block ?_)))
    show retS _ _ _ (fun r _ => r = .ret (.bool true))
    exact ret_k (k := fun r _ => r = .ret (.bool true)) (vs := [.bool true]) (H1 := _) (by with_unfolding_all rfl) (by with_unfolding_all rfl) rfl
end Go.Proofs.Ytcjhklflgdeckaa
