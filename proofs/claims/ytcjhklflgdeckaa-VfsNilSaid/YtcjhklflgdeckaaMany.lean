/- VfsMany comes to true for every number; no condition. -/
import Derived.Test.YtcjhklflgdeckaaLives
import Derived.Test.YtcjhklflgdeckaaE2
namespace Go.Proofs.Ytcjhklflgdeckaa
open Go.E
/-- The seat's table: 'lives' is known. -/
noncomputable def T1 : Tab := (tab Try.prog).knows 11 trueP
theorem T1_ok : TabOk Try.prog T1 := (tab_ok _).knows (prim_true lives_good)
theorem T1_11 : T1.fn 11 = some (.prim trueP) := rfl
theorem T1_of {f : FuncId} {rf : RFunc} (hne : f ≠ 11) (h : rfun Try.prog f = some rf) : T1.fn f = some (.code rf) := by
  show (if f = 11 then _ else (rfun Try.prog f).map FnD.code) = _
  rw [if_neg hne, h]; rfl

/-- valise/valiselaw20.VfsMany -/
noncomputable def rf4 : RFunc := ⟨48, [.tmp 2],
  (.seq (.region [⟨(some 2), .mov (.const (.bool false)), none⟩])
  (.seq (.seq (.region [⟨(some 5), .mov (.tmp 0), none⟩,
    ⟨(some 6), .bin .lss 3 (.int .i64) (.tmp 5) (.const (.int .i64 0)), none⟩,
    ⟨(some 7), .mov (.tmp 6), none⟩,
    ⟨(some 8), .mov (.tmp 0), (some (7, false))⟩,
    ⟨(some 9), .bin .gtr 3 (.int .i64) (.tmp 8) (.const (.int .i64 20)), (some (7, false))⟩,
    ⟨(some 10), .pick (.tmp 7) (.const (.bool true)) (.tmp 9), none⟩])
  (.cond (.tmp 10)
  (.seq (.region [⟨(some 11), .call 11 [], none⟩,
    ⟨(some 2), .mov (.tmp 11), none⟩])
  .ret)
  .skip))
  (.seq (.region [⟨(some 13), .build [(.slice none 0 0), (.slice none 0 0)] [], none⟩,
    ⟨(some 14), .box 39 2 (.tmp 13), none⟩,
    ⟨(some 15), .iface 30 (.tmp 14), none⟩,
    ⟨(some 16), .mov (.tmp 0), none⟩,
    ⟨(some 17), .mkslice 62 1 24 [(.slice none 0 0)] (.tmp 16) (.tmp 16), none⟩,
    ⟨(some 18), .call 12 [(.tmp 15), (.tmp 17)], none⟩,
    ⟨(some 12), .mov (.tmp 18), none⟩,
    ⟨(some 19), .ext (.tmp 12) 0, none⟩,
    ⟨(some 20), .ext (.tmp 12) 1, none⟩,
    ⟨(some 3), .mov (.tmp 19), none⟩,
    ⟨(some 4), .mov (.tmp 20), none⟩])
  (.seq (.region [⟨(some 21), .mov (.tmp 3), none⟩,
    ⟨(some 22), .bin .neq 26 (.pointer 77) (.tmp 21) (.const (.pointer none)), none⟩,
    ⟨(some 23), .mov (.tmp 0), none⟩,
    ⟨(some 24), .bin .geq 3 (.int .i64) (.tmp 23) (.const (.int .i64 1)), none⟩,
    ⟨(some 25), .mov (.tmp 24), none⟩,
    ⟨(some 26), .mov (.tmp 0), (some (25, true))⟩,
    ⟨(some 27), .bin .leq 3 (.int .i64) (.tmp 26) (.const (.int .i64 8)), (some (25, true))⟩,
    ⟨(some 28), .pick (.tmp 25) (.tmp 27) (.const (.bool false)), none⟩,
    ⟨(some 29), .bin .eql 4 .bool (.tmp 22) (.tmp 28), none⟩,
    ⟨(some 30), .mov (.tmp 29), none⟩,
    ⟨(some 31), .mov (.tmp 4), (some (30, true))⟩,
    ⟨(some 32), .bin .eql 27 (.int .i64) (.tmp 31) (.const (.int .i64 0)), (some (30, true))⟩,
    ⟨(some 33), .mov (.tmp 3), (some (30, true))⟩,
    ⟨(some 34), .bin .neq 26 (.pointer 77) (.tmp 33) (.const (.pointer none)), (some (30, true))⟩,
    ⟨(some 35), .bin .eql 4 .bool (.tmp 32) (.tmp 34), (some (30, true))⟩,
    ⟨(some 36), .pick (.tmp 30) (.tmp 35) (.const (.bool false)), none⟩,
    ⟨(some 37), .mov (.tmp 36), none⟩,
    ⟨(some 38), .mov (.tmp 4), (some (37, true))⟩,
    ⟨(some 39), .bin .eql 27 (.int .i64) (.tmp 38) (.const (.int .i64 0)), (some (37, true))⟩,
    ⟨(some 40), .mov (.tmp 39), (some (37, true))⟩,
    ⟨(some 41), .mov (.tmp 4), (some (40, false))⟩,
    ⟨(some 42), .bin .eql 27 (.int .i64) (.tmp 41) (.const (.int .i64 2)), (some (40, false))⟩,
    ⟨(some 43), .pick (.tmp 40) (.const (.bool true)) (.tmp 42), (some (37, true))⟩,
    ⟨(some 44), .pick (.tmp 37) (.tmp 43) (.const (.bool false)), none⟩,
    ⟨(some 45), .mov (.tmp 44), none⟩,
    ⟨(some 46), .call 11 [], (some (45, true))⟩,
    ⟨(some 47), .pick (.tmp 45) (.tmp 46) (.const (.bool false)), none⟩,
    ⟨(some 2), .mov (.tmp 47), none⟩])
  .ret))))⟩


set_option maxRecDepth 100000 in
theorem rf4_is : rfun Try.prog 4 = some rf4 := by kernel_rfl
set_option maxRecDepth 100000 in
theorem many_few : ((List.range 21).all fun n => (evN (R := Bool) T1 1000).call 4 [.int .i64 n] ⟨[]⟩ isTrue) = true := by kernel_rfl

theorem many_far_of {T : Tab} (h4 : T.fn 4 = some (.code rf4)) (h11 : T.fn 11 = some (.prim trueP)) (n : Int) (h : n < 0 ∨ 20 < n) : (evN T (0 + 12)).call 4 [.int .i64 n] ⟨[]⟩ (fun r _ => r = .ret (.bool true)) := by
  have told : ∀ {b c : Bool}, b = c → some (Res.val (.bool b), (⟨[]⟩ : AHeap)) = some (Res.val (.bool c), (⟨[]⟩ : AHeap)) := fun e => by rw [e]
  refine call_code h4 (by show 1 ≤ 48; omega) (code_seq (code_region (ops_val rfl rfl rfl (ops_nil ?_))))
  refine code_seq (code_seq (code_region (ops_val rfl rfl rfl ?_)))
  rcases h with h | h
  · have hd : decide (n < 0) = true := by simpa using h
    refine ops_val (v := .bool true) rfl rfl (told hd) (ops_val (v := .bool true) rfl rfl rfl (ops_off rfl (ops_off rfl (ops_val (v := .bool true) rfl rfl rfl (ops_nil ?_)))))
    refine code_then rfl (code_seq (code_region (ops_call rfl rfl rfl (call_prim h11 rfl (ops_val rfl rfl rfl (ops_nil (code_ret ?_)))))))
    exact ret_k rfl rfl rfl
  · have hd : decide (n < 0) = false := by simp; omega
    have hd2 : decide (n > 20) = true := by simpa using h
    refine ops_val (v := .bool false) rfl rfl (told hd) (ops_val (v := .bool false) rfl rfl rfl (ops_val rfl rfl rfl (ops_val (v := .bool true) rfl rfl (told hd2) (ops_val (v := .bool true) rfl rfl rfl (ops_nil ?_)))))
    refine code_then rfl (code_seq (code_region (ops_call rfl rfl rfl (call_prim h11 rfl (ops_val rfl rfl rfl (ops_nil (code_ret ?_)))))))
    exact ret_k rfl rfl rfl
set_option maxRecDepth 100000 in
theorem T1_4 : T1.fn 4 = some (.code rf4) := T1_of (f := 4) (rf := rf4) (show (4 : Nat) ≠ 11 by omega) rf4_is
set_option maxRecDepth 100000 in
theorem many_far (n : Int) (h : n < 0 ∨ 20 < n) : (evN T1 (0 + 12)).call 4 [.int .i64 n] ⟨[]⟩ (fun r _ => r = .ret (.bool true)) := many_far_of T1_4 T1_11 n h

set_option maxRecDepth 100000 in
theorem many_few_at (m : Nat) (h : m < 21) : (evN (R := Bool) T1 1000).call 4 [.int .i64 m] ⟨[]⟩ isTrue = true := (List.all_eq_true.1 many_few) m (List.mem_range.2 h)

theorem one_int {β : Bt} (n : Int) : LRel β [.int .i64 n] (#[Value.int .i64 n] : Array Value).toList := LRel.cons (.int _ _) (LRel.nil _)

set_option maxRecDepth 100000 in
theorem many_good (n : Int) (w : World) : Tru Try.prog 4 #[.int .i64 n] w := by
  by_cases h : n < 0 ∨ 20 < n
  · exact tru_of_ev T1_ok (0 + 12) (Rel.start _ w) (one_int n) (many_far n h)
  · obtain ⟨m, hm⟩ : ∃ m : Nat, n = m := ⟨n.toNat, by omega⟩
    subst hm
    exact tru_of_run T1_ok 1000 (Rel.start _ w) (one_int _) (many_few_at m (by omega))
end Go.Proofs.Ytcjhklflgdeckaa
