/- Parts of the proof of VfsNilSaid: the calls on a Sys that is nil or that nothing made, as calls of which the answer is known; no condition. -/
import Derived.Test.YtcjhklflgdeckaaE2
import Derived.Test.YtcjhklflgdeckaaMany
namespace Go.Proofs.Ytcjhklflgdeckaa
open Go.E
/-- valise/vfs.New -/
noncomputable def rf12 : RFunc := ⟨73, [.tmp 4, .tmp 5],
  (.seq (.region [⟨(some 4), .mov (.const (.pointer none)), none⟩,
    ⟨(some 5), .mov (.const (.int .i64 0)), none⟩])
  (.seq (.block 0
  (.seq (.region [⟨(some 13), .mov (.tmp 0), none⟩,
    ⟨(some 14), .bin .eql 73 (.interface #[("Do", 163), ("File", 93)]) (.tmp 13) (.const .nilIface), none⟩,
    ⟨(some 12), .mov (.tmp 14), none⟩])
  (.cond (.tmp 12)
  (.seq (.region [⟨(some 4), .mov (.const (.pointer none)), none⟩,
    ⟨(some 5), .mov (.const (.int .i64 1)), none⟩])
  .ret)
  (.seq (.region [⟨(some 16), .mov (.tmp 1), none⟩,
    ⟨(some 17), .len (.slice 62) (.tmp 16), none⟩,
    ⟨(some 18), .bin .lss 3 (.int .i64) (.tmp 17) (.const (.int .i64 1)), none⟩,
    ⟨(some 19), .mov (.tmp 18), none⟩,
    ⟨(some 20), .mov (.tmp 1), (some (19, false))⟩,
    ⟨(some 21), .len (.slice 62) (.tmp 20), (some (19, false))⟩,
    ⟨(some 22), .bin .gtr 3 (.int .i64) (.tmp 21) (.const (.int .i64 8)), (some (19, false))⟩,
    ⟨(some 23), .pick (.tmp 19) (.const (.bool true)) (.tmp 22), none⟩,
    ⟨(some 15), .mov (.tmp 23), none⟩])
  (.cond (.tmp 15)
  (.seq (.region [⟨(some 4), .mov (.const (.pointer none)), none⟩,
    ⟨(some 5), .mov (.const (.int .i64 2)), none⟩])
  .ret)
  .skip)))))
  (.seq (.region [⟨(some 24), .mov (.tmp 0), none⟩,
    ⟨(some 25), .call 27 [], none⟩,
    ⟨(some 26), .build [.nilIface, (.pointer none), (.slice none 0 0), (.slice none 0 0), (.int .i64 0)] [(0, 1, (.tmp 24)), (1, 1, (.tmp 25))], none⟩,
    ⟨(some 27), .box 77 5 (.tmp 26), none⟩,
    ⟨(some 6), .mov (.tmp 27), none⟩])
  (.seq (.seq (.region [⟨(some 28), .mov (.tmp 1), none⟩,
    ⟨(some 29), .len (.slice 62) (.tmp 28), none⟩,
    ⟨(some 30), .mov (.const (.int .i64 0)), none⟩])
  (.block 1
  (.loop
  (.seq (.region [⟨(some 31), .bin .lss 3 (.int .i64) (.tmp 30) (.tmp 29), none⟩])
  (.seq (.cond (.tmp 31)
  .skip
  (.exit 1))
  (.seq (.block 2
  (.seq (.region [⟨(some 32), .mov (.tmp 30), none⟩,
    ⟨(some 33), .idxS 1 (.tmp 28) (.tmp 30), none⟩,
    ⟨(some 34), .load1 (.tmp 33), none⟩,
    ⟨(some 7), .mov (.tmp 32), none⟩,
    ⟨(some 8), .mov (.tmp 34), none⟩])
  (.seq (.region [⟨(some 35), .mov (.tmp 7), none⟩,
    ⟨(some 36), .mov (.tmp 6), none⟩,
    ⟨(some 37), .mkfunc (.func 28) [(.tmp 36)] [], none⟩,
    ⟨(some 38), .build [(.int .i64 0), (.slice none 0 0), (.int .i64 0), .nilFunc, (.int .i64 0), (.int .i64 0), (.string ⟨#[]⟩), (.bool false)] [(0, 1, (.tmp 35)), (3, 1, (.tmp 37))], none⟩,
    ⟨(some 39), .box 83 8 (.tmp 38), none⟩,
    ⟨(some 9), .mov (.tmp 39), none⟩])
  (.seq (.seq (.region [⟨(some 40), .mov (.tmp 8), none⟩,
    ⟨(some 41), .len (.slice 66) (.tmp 40), none⟩,
    ⟨(some 42), .mov (.const (.int .i64 0)), none⟩])
  (.block 3
  (.loop
  (.seq (.region [⟨(some 43), .bin .lss 3 (.int .i64) (.tmp 42) (.tmp 41), none⟩])
  (.seq (.cond (.tmp 43)
  .skip
  (.exit 3))
  (.seq (.block 4
  (.seq (.region [⟨(some 44), .idxS 9 (.tmp 40) (.tmp 42), none⟩,
    ⟨(some 45), .loadN 9 (.tmp 44), none⟩,
    ⟨(some 11), .new [(.int .i64 0), (.string ⟨#[]⟩), (.string ⟨#[]⟩), (.int .i64 0), (.int .i64 0), (.int .i64 0), (.bool false), (.bool false), (.slice none 0 0)] 66 9, none⟩,
    ⟨none, .store 9 (.tmp 11) (.tmp 45), none⟩])
  (.seq (.region [⟨(some 46), .addOff 8 (.tmp 11), none⟩,
    ⟨(some 47), .load1 (.tmp 46), none⟩,
    ⟨(some 48), .call 29 [(.tmp 47)], none⟩,
    ⟨(some 49), .addOff 8 (.tmp 11), none⟩,
    ⟨none, .store 1 (.tmp 49) (.tmp 48), none⟩])
  (.draw [⟨(some 50), .mov (.tmp 9), none⟩,
    ⟨(some 51), .mov (.tmp 9), none⟩,
    ⟨(some 52), .nilCheck (.tmp 51), none⟩,
    ⟨(some 53), .addOff 1 (.tmp 52), none⟩,
    ⟨(some 54), .load1 (.tmp 53), none⟩,
    ⟨(some 55), .loadN 9 (.tmp 11), none⟩,
    ⟨(some 56), .buildSlice 66 9 1 [(.int .i64 0), (.string ⟨#[]⟩), (.string ⟨#[]⟩), (.int .i64 0), (.int .i64 0), (.int .i64 0), (.bool false), (.bool false), (.slice none 0 0)] [(0, 9, (.tmp 55))], none⟩,
    ⟨(some 57), .append 66 9 96 [(.int .i64 0), (.string ⟨#[]⟩), (.string ⟨#[]⟩), (.int .i64 0), (.int .i64 0), (.int .i64 0), (.bool false), (.bool false), (.slice none 0 0)] (.tmp 54) (.tmp 56), none⟩,
    ⟨(some 58), .nilCheck (.tmp 50), none⟩,
    ⟨(some 59), .addOff 1 (.tmp 58), none⟩,
    ⟨none, .store 1 (.tmp 59) (.tmp 57), none⟩] [0, 0, 2, 6, 14, 0, 32, 126, 255, 511, 1023] [0, 1, 2, 3, 4, 5, 6, 7, 8, 9, 10]))))
  (.region [⟨(some 60), .bin .add 3 (.int .i64) (.tmp 42) (.const (.int .i64 1)), none⟩,
    ⟨(some 42), .mov (.tmp 60), none⟩])))))))
  (.region [⟨(some 61), .mov (.tmp 6), none⟩,
    ⟨(some 62), .mov (.tmp 6), none⟩,
    ⟨(some 63), .nilCheck (.tmp 62), none⟩,
    ⟨(some 64), .addOff 2 (.tmp 63), none⟩,
    ⟨(some 65), .load1 (.tmp 64), none⟩,
    ⟨(some 66), .mov (.tmp 9), none⟩,
    ⟨(some 67), .buildSlice 80 1 1 [(.pointer none)] [(0, 1, (.tmp 66))], none⟩,
    ⟨(some 68), .append 80 1 8 [(.pointer none)] (.tmp 65) (.tmp 67), none⟩,
    ⟨(some 69), .nilCheck (.tmp 61), none⟩,
    ⟨(some 70), .addOff 2 (.tmp 69), none⟩,
    ⟨none, .store 1 (.tmp 70) (.tmp 68), none⟩])))))
  (.region [⟨(some 71), .bin .add 3 (.int .i64) (.tmp 30) (.const (.int .i64 1)), none⟩,
    ⟨(some 30), .mov (.tmp 71), none⟩])))))))
  (.seq (.region [⟨(some 72), .mov (.tmp 6), none⟩,
    ⟨(some 4), .mov (.tmp 72), none⟩,
    ⟨(some 5), .mov (.const (.int .i64 0)), none⟩])
  .ret)))))⟩

/-- (*valise/vfs.Sys).Steps -/
noncomputable def rf17 : RFunc := ⟨9, [.tmp 2],
  (.seq (.region [⟨(some 2), .mov (.const (.int .i64 0)), none⟩])
  (.seq (.seq (.region [⟨(some 3), .mov (.tmp 0), none⟩,
    ⟨(some 4), .bin .eql 26 (.pointer 77) (.tmp 3) (.const (.pointer none)), none⟩])
  (.cond (.tmp 4)
  (.seq (.region [⟨(some 2), .mov (.const (.int .i64 0)), none⟩])
  .ret)
  .skip))
  (.seq (.region [⟨(some 5), .mov (.tmp 0), none⟩,
    ⟨(some 6), .nilCheck (.tmp 5), none⟩,
    ⟨(some 7), .addOff 4 (.tmp 6), none⟩,
    ⟨(some 8), .load1 (.tmp 7), none⟩,
    ⟨(some 2), .mov (.tmp 8), none⟩])
  .ret)))⟩

set_option maxRecDepth 20000 in
set_option maxHeartbeats 2000000 in
theorem new_nil {T : Tab} (h : T.fn 12 = some (.code rf12)) (n : Nat) (v : Value) (H : AHeap) (k : CRes → AHeap → Prop) (hk : k (.ret (.tuple #[.pointer none, .int .i64 1])) H) : (evN T (n + 20)).call 12 [.nilIface, v] H k := by
  refine call_code h (by show 2 ≤ 73; omega) ?_
  dsimp only [rf12]
  repeat (first
    | (with_reducible refine code_seq ?_) | (with_reducible refine code_region ?_) | (with_reducible refine ops_nil ?_)
    | (with_reducible refine ops_val (by with_unfolding_all rfl) (by with_unfolding_all rfl) (by with_unfolding_all rfl) ?_) | (with_reducible refine ops_off (by with_unfolding_all rfl) ?_) | (with_reducible refine code_then (by with_unfolding_all rfl) ?_) | (with_reducible refine code_else (by with_unfolding_all rfl) ?_) | (with_reducible refine code_skip ?_) | (with_reducible refine code_ret ?_) | (with_reducible refine code_block ?_))
  exact ret_k rfl rfl hk
set_option maxRecDepth 20000 in
theorem steps_nil {T : Tab} (h : T.fn 17 = some (.code rf17)) (n : Nat) (H : AHeap) (k : CRes → AHeap → Prop) (hk : k (.ret (.int .i64 0)) H) : (evN T (n + 20)).call 17 [.pointer none] H k := by
  refine call_code h (by show 1 ≤ 9; omega) ?_
  dsimp only [rf17]
  repeat (first
    | (with_reducible refine code_seq ?_) | (with_reducible refine code_region ?_) | (with_reducible refine ops_nil ?_)
    | (with_reducible refine ops_val (by with_unfolding_all rfl) (by with_unfolding_all rfl) (by with_unfolding_all rfl) ?_) | (with_reducible refine ops_off (by with_unfolding_all rfl) ?_) | (with_reducible refine code_then (by with_unfolding_all rfl) ?_) | (with_reducible refine code_else (by with_unfolding_all rfl) ?_) | (with_reducible refine code_skip ?_) | (with_reducible refine code_ret ?_) | (with_reducible refine code_block ?_))
  exact ret_k rfl rfl hk
end Go.Proofs.Ytcjhklflgdeckaa

namespace Go.Proofs.Ytcjhklflgdeckaa
open Go.E

/-- The block of a Sys that nothing made. -/
def zSys : Blk := ⟨[.nilIface, .pointer none, .slice none 0 0, .slice none 0 0, .int .i64 0], 77, 5, true⟩
def qInt (v : Value) : List Value → Option Value := fun r => match r with | [.int .i64 _] => some v | _ => none
def qNone (v : Value) : List Value → Option Value := fun r => match r with | [] => some v | _ => none
theorem of_qInt {v u : Value} {r : List Value} (h : qInt v r = some u) : ∃ n, r = [.int .i64 n] ∧ u = v := by
  unfold qInt at h
  split at h
  · cases h; exact ⟨_, rfl, rfl⟩
  · cases h
theorem of_qNone {v u : Value} {r : List Value} (h : qNone v r = some u) : r = [] ∧ u = v := by
  unfold qNone at h
  split at h
  · cases h; exact ⟨rfl, rfl⟩
  · cases h
theorem up {T : Tab} {N f : Nat} {args : List Value} {H : AHeap} {v : Value} (h : (evN (R := Bool) T N).call f args H (comes v) = true) : ∃ N, (evN T N).call f args H fun r _ => r = .ret v :=
  ⟨N, (ev_tr T N).call _ _ _ _ _ h fun _ _ h => comes_spec h⟩

set_option maxRecDepth 100000 in
theorem step_n (n : Int) : (evN (R := Bool) T1 300).call 16 [.pointer none, .int .i64 n] ⟨[]⟩ (comes (.bool false)) = true := by kernel_rfl
set_option maxRecDepth 100000 in
theorem step_b (n : Int) : (evN (R := Bool) T1 300).call 16 [.pointer (some ⟨0, 0, none⟩), .int .i64 n] ⟨[some (zSys.obj true)]⟩ (comes (.bool false)) = true := by kernel_rfl
set_option maxRecDepth 100000 in
theorem left_n (n : Int) : (evN (R := Bool) T1 300).call 18 [.pointer none, .int .i64 n] ⟨[]⟩ (comes (.int .i64 0)) = true := by kernel_rfl
set_option maxRecDepth 100000 in
theorem left_b (n : Int) : (evN (R := Bool) T1 300).call 18 [.pointer (some ⟨0, 0, none⟩), .int .i64 n] ⟨[some (zSys.obj true)]⟩ (comes (.int .i64 0)) = true := by kernel_rfl
set_option maxRecDepth 100000 in
theorem blocked_n (n : Int) : (evN (R := Bool) T1 300).call 20 [.pointer none, .int .i64 n] ⟨[]⟩ (comes (.bool false)) = true := by kernel_rfl
set_option maxRecDepth 100000 in
theorem blocked_b (n : Int) : (evN (R := Bool) T1 300).call 20 [.pointer (some ⟨0, 0, none⟩), .int .i64 n] ⟨[some (zSys.obj true)]⟩ (comes (.bool false)) = true := by kernel_rfl
set_option maxRecDepth 100000 in
theorem order_n : (evN (R := Bool) T1 300).call 23 [.pointer none] ⟨[]⟩ (comes (.slice none 0 0)) = true := by kernel_rfl
set_option maxRecDepth 100000 in
theorem order_b : (evN (R := Bool) T1 300).call 23 [.pointer (some ⟨0, 0, none⟩)] ⟨[some (zSys.obj true)]⟩ (comes (.slice none 0 0)) = true := by kernel_rfl
set_option maxRecDepth 100000 in
theorem steps_n : (evN (R := Bool) T1 300).call 17 [.pointer none] ⟨[]⟩ (comes (.int .i64 0)) = true := by kernel_rfl
set_option maxRecDepth 100000 in
theorem steps_b : (evN (R := Bool) T1 300).call 17 [.pointer (some ⟨0, 0, none⟩)] ⟨[some (zSys.obj true)]⟩ (comes (.int .i64 0)) = true := by kernel_rfl

theorem intPrim {f : Nat} {v : Value} (hv : clo v = true) (hn : ∀ n, (evN (R := Bool) T1 300).call f [.pointer none, .int .i64 n] ⟨[]⟩ (comes v) = true)
    (hb : ∀ n, (evN (R := Bool) T1 300).call f [.pointer (some ⟨0, 0, none⟩), .int .i64 n] ⟨[some (zSys.obj true)]⟩ (comes v) = true) : PrimOk Try.prog f (ptrP zSys (qInt v) (qInt v)) :=
  prim_ptr T1_ok rfl (fun rest u _ h => by obtain ⟨n, rfl, rfl⟩ := of_qInt h; exact ⟨hv, up (hn n)⟩) (fun rest u _ h => by obtain ⟨n, rfl, rfl⟩ := of_qInt h; exact ⟨hv, up (hb n)⟩)
theorem nonePrim {f : Nat} {v : Value} (hv : clo v = true) (hn : (evN (R := Bool) T1 300).call f [.pointer none] ⟨[]⟩ (comes v) = true)
    (hb : (evN (R := Bool) T1 300).call f [.pointer (some ⟨0, 0, none⟩)] ⟨[some (zSys.obj true)]⟩ (comes v) = true) : PrimOk Try.prog f (ptrP zSys (qNone v) (qNone v)) :=
  prim_ptr T1_ok rfl (fun rest u _ h => by obtain ⟨rfl, rfl⟩ := of_qNone h; exact ⟨hv, up hn⟩) (fun rest u _ h => by obtain ⟨rfl, rfl⟩ := of_qNone h; exact ⟨hv, up hb⟩)

def pInt (v : Value) := ptrP zSys (qInt v) (qInt v)
def pNone (v : Value) := ptrP zSys (qNone v) (qNone v)
noncomputable def T2 : Tab := ((((T1.knows 16 (pInt (.bool false))).knows 18 (pInt (.int .i64 0))).knows 20 (pInt (.bool false))).knows 23 (pNone (.slice none 0 0))).knows 17 (pNone (.int .i64 0))
set_option maxRecDepth 100000 in
theorem T2_ok : TabOk Try.prog T2 :=
  ((((T1_ok.knows (intPrim rfl step_n step_b)).knows (intPrim rfl left_n left_b)).knows (intPrim rfl blocked_n blocked_b)).knows (nonePrim rfl order_n order_b)).knows (nonePrim rfl steps_n steps_b)
theorem T2_16 : T2.fn 16 = some (.prim (pInt (.bool false))) := rfl
theorem T2_18 : T2.fn 18 = some (.prim (pInt (.int .i64 0))) := rfl
theorem T2_20 : T2.fn 20 = some (.prim (pInt (.bool false))) := rfl
theorem T2_23 : T2.fn 23 = some (.prim (pNone (.slice none 0 0))) := rfl
theorem T2_17 : T2.fn 17 = some (.prim (pNone (.int .i64 0))) := rfl
theorem T2_11 : T2.fn 11 = some (.prim trueP) := rfl
theorem T2_of {f : FuncId} {rf : RFunc} (h1 : f ≠ 11) (h2 : f ≠ 16) (h3 : f ≠ 17) (h4 : f ≠ 18) (h5 : f ≠ 20) (h6 : f ≠ 23) (h : rfun Try.prog f = some rf) : T2.fn f = some (.code rf) := by
  show (if f = 17 then _ else if f = 23 then _ else if f = 20 then _ else if f = 18 then _ else if f = 16 then _ else T1.fn f) = _
  rw [if_neg h3, if_neg h6, if_neg h5, if_neg h4, if_neg h2, T1_of h1 h]
end Go.Proofs.Ytcjhklflgdeckaa
