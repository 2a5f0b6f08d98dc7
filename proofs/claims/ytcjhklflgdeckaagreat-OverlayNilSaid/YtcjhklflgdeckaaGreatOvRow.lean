/- THE STATEMENT OverlayNilSaid is proved: for every input the law returns true and its arguments read as they did; no condition. -/
import Derived.Test.YtcjhklflgdeckaaGreatOv2
import Derived.Test.YtcjhklflgdeckaaGreatE3
namespace Go.E
open Go.ChangeShapes Go.WideShapes
theorem in_agg {P : Program} {X : Type} {enc : TypeId × Value → X} {W : World} {β : Bt} {H : AHeap} {m : Nat} {t : TypeId} {cs : Array Value} {d : DataW X} {ps : List MemPlace} (hf : flat P m t = true) (h : DataW.Trod enc P W 0 (fun _ => true) true t (.agg cs) d ps)
    (hr : Rel P (heldAll W) W β H W) : ∃ β' H' us, β.le β' ∧ Grows H H' ∧ Rel P (heldAll W) W β' H' W ∧ LRel β' us cs.toList ∧ Rep P H' m t us d := by
  obtain ⟨fuel, hfu⟩ := h
  exact in_one m t fuel _ d ps hf hfu β H hr
end Go.E
namespace Go.Proofs.YtcjhklflgdeckaaGreat
open Go.ChangeShapes Go.WideShapes Go.ChangeAt Go.RowKit Go.E
section
variable {X : Type}
theorem under22 : Tryz.prog.underlying 22 = some (.slice 5) := by kernel_rfl
def IsOp (vs : List Value) : Prop := ∃ a0 s1 s2 a3 a4 a5 b6 b7 sa sl sc, vs = [.int .i64 a0, .string s1, .string s2, .int .i64 a3, .int .i64 a4, .int .i64 a5, .bool b6, .bool b7, .slice sa sl sc]
set_option maxRecDepth 100000 in
theorem op_at {H : AHeap} {m : Nat} {cs : List Value} {d : DataW X} (h : Rep Tryz.prog H (m + 2) 24 cs d) : IsOp cs := by
  obtain ⟨cjs, rfl, hl, hf⟩ := rep_struct Tryz.underlying24 h
  match cjs, hl with
  | [c0, c1, c2, c3, c4, c5, c6, c7, c8], _ =>
    obtain ⟨x0, r0⟩ := hf 0 _ c0 rfl rfl
    obtain ⟨x1, r1⟩ := hf 1 _ c1 rfl rfl
    obtain ⟨x2, r2⟩ := hf 2 _ c2 rfl rfl
    obtain ⟨x3, r3⟩ := hf 3 _ c3 rfl rfl
    obtain ⟨x4, r4⟩ := hf 4 _ c4 rfl rfl
    obtain ⟨x5, r5⟩ := hf 5 _ c5 rfl rfl
    obtain ⟨x6, r6⟩ := hf 6 _ c6 rfl rfl
    obtain ⟨x7, r7⟩ := hf 7 _ c7 rfl rfl
    obtain ⟨x8, r8⟩ := hf 8 _ c8 rfl rfl
    obtain ⟨n0, rfl⟩ := rep_int Tryz.underlying3 r0
    obtain ⟨n1, rfl⟩ := rep_string Tryz.underlying9 r1
    obtain ⟨n2, rfl⟩ := rep_string Tryz.underlying9 r2
    obtain ⟨n3, rfl⟩ := rep_int Tryz.underlying3 r3
    obtain ⟨n4, rfl⟩ := rep_int Tryz.underlying3 r4
    obtain ⟨n5, rfl⟩ := rep_int Tryz.underlying3 r5
    obtain ⟨n6, rfl⟩ := rep_bool Tryz.underlying4 r6
    obtain ⟨n7, rfl⟩ := rep_bool Tryz.underlying4 r7
    obtain ⟨a, len, cap, rfl, _⟩ := rep_slice under22 r8
    exact ⟨n0, n1, n2, n3, n4, n5, n6, n7, a, len, cap, rfl⟩
theorem flat24 : flat Tryz.prog 6 24 = true := by kernel_rfl

/-- The functions with the law in its parts. -/
noncomputable def qtab4 : List (Nat × RFunc) := [(3, rf3t), (4, rf4), (5, rf5)] ++ qtab3
noncomputable def T4 : Tab := qT Tryz.prog qtab4
set_option maxRecDepth 100000 in
theorem T4_ok : TabOk Tryz.prog T4 := qT_ok (by kernel_rfl)
noncomputable def T5 : Tab := ((((((T4.knows 11 trueP).knows 15 (closP qFail)).knows 6 (closP qSame)).knows 7 (ptrP zFS (qNone (.slice none 0 0)) (qNone (.slice none 0 0)))).knows 8 (ptrP zFS (qNone (.int .i64 0)) (qNone (.int .i64 0)))).knows 9 (ptrP zFS (qInt (.slice none 0 0)) (qInt (.slice none 0 0)))).knows 10 (ptrP zFS (qInt2 (.string ⟨#[]⟩)) (qInt2 (.string ⟨#[]⟩)))
theorem T5_ok : TabOk Tryz.prog T5 := ((((((T4_ok.knows (prim_true lives_good)).knows p15).knows p6).knows p7).knows p8).knows p9).knows p10
set_option maxRecDepth 100000 in
theorem T5_3 : T5.fn 3 = some (.code rf3t) := by kernel_rfl
set_option maxRecDepth 100000 in
theorem T5_4 : T5.fn 4 = some (.code rf4) := by kernel_rfl
set_option maxRecDepth 100000 in
theorem T5_5 : T5.fn 5 = some (.code rf5) := by kernel_rfl
theorem T5_15 : T5.fn 15 = some (.prim (closP qFail)) := rfl
theorem T5_6 : T5.fn 6 = some (.prim (closP qSame)) := rfl
theorem T5_7 : T5.fn 7 = some (.prim (ptrP zFS (qNone (.slice none 0 0)) (qNone (.slice none 0 0)))) := rfl
theorem T5_8 : T5.fn 8 = some (.prim (ptrP zFS (qNone (.int .i64 0)) (qNone (.int .i64 0)))) := rfl
theorem T5_9 : T5.fn 9 = some (.prim (ptrP zFS (qInt (.slice none 0 0)) (qInt (.slice none 0 0)))) := rfl
theorem T5_10 : T5.fn 10 = some (.prim (ptrP zFS (qInt2 (.string ⟨#[]⟩)) (qInt2 (.string ⟨#[]⟩)))) := rfl
theorem T5_11 : T5.fn 11 = some (.prim trueP) := rfl
set_option maxRecDepth 100000 in
theorem ov_good_of {T : Tab} (hT : TabOk Tryz.prog T) (h3 : T.fn 3 = some (.code rf3t)) (h4 : T.fn 4 = some (.code rf4)) (h5 : T.fn 5 = some (.code rf5)) (h15 : T.fn 15 = some (.prim (closP qFail))) (h6 : T.fn 6 = some (.prim (closP qSame))) (h7 : T.fn 7 = some (.prim (ptrP zFS (qNone (.slice none 0 0)) (qNone (.slice none 0 0)))))
    (h8 : T.fn 8 = some (.prim (ptrP zFS (qNone (.int .i64 0)) (qNone (.int .i64 0))))) (h9 : T.fn 9 = some (.prim (ptrP zFS (qInt (.slice none 0 0)) (qInt (.slice none 0 0))))) (h10 : T.fn 10 = some (.prim (ptrP zFS (qInt2 (.string ⟨#[]⟩)) (qInt2 (.string ⟨#[]⟩)))))
    (h11 : T.fn 11 = some (.prim trueP)) {enc : TypeId × Value → X} {W : World} {who : Int} {cs : Array Value} {made : Bool} {d : DataW X} {ps : List MemPlace} (h : DataW.Trod enc Tryz.prog W 0 (fun _ => true) true 24 (.agg cs) d ps) :
    Tru Tryz.prog 3 #[.int .i64 who, .agg cs, .bool made] W := by
  obtain ⟨β, H, us, _, _, hr, hv, hrep⟩ := in_agg flat24 h (Rel.start Tryz.prog W)
  obtain ⟨a0, s1, s2, a3, a4, a5, b6, b7, sa, sl, sc, rfl⟩ := op_at (m := 4) hrep
  have hagg := hv.agg
  have hw := ov_walk h3 h4 h5 h15 h6 h7 h8 h9 h10 h11 who a0 s1 s2 a3 a4 a5 b6 b7 sa sl sc made H
  have hl : LRel β [.int .i64 who, .agg #[.int .i64 a0, .string s1, .string s2, .int .i64 a3, .int .i64 a4, .int .i64 a5, .bool b6, .bool b7, .slice sa sl sc], .bool made] (#[.int .i64 who, .agg cs, .bool made] : Array Value).toList :=
    LRel.cons (.int _ _) (LRel.cons hagg (LRel.cons (.bool _) (LRel.nil _)))
  exact tru_of_ev hT (0 + 400) hr hl hw
set_option maxRecDepth 100000 in
theorem ov_good {enc : TypeId × Value → X} {W : World} {who : Int} {cs : Array Value} {made : Bool} {d : DataW X} {ps : List MemPlace} (h : DataW.Trod enc Tryz.prog W 0 (fun _ => true) true 24 (.agg cs) d ps) :
    Tru Tryz.prog 3 #[.int .i64 who, .agg cs, .bool made] W := ov_good_of T5_ok T5_3 T5_4 T5_5 T5_15 T5_6 T5_7 T5_8 T5_9 T5_10 T5_11 h
end
theorem Tryz.own : ownKnob Tryz.prog.godebug = none := by kernel_rfl
theorem Tryz.laidOut : laidOutB Tryz.prog = true := by kernel_rfl
set_option maxRecDepth 100000 in
theorem overlayNil_lifted (os : Os) (started : os.Started) (H : Type) (enc : TypeId × Value → H) :
    ReturnsInHanded {} Tryz.checked os 3 .any (Rows.overlayNilSpec.pre6 enc Tryz.prog Tryz.f3 Rows.overlayNilRow.domain false) (Rows.overlayNilSpec.post enc Tryz.prog Tryz.f3 false true false false) := by
  refine returnsInHanded_of_change (C := Tryz.checked) Tryz.own started (by kernel_rfl) Tryz.func3
    (ChangeSpec.witness6 (enc := enc) (C := Tryz.checked) false ⟨#[], #[.int .i64 0, .agg #[.int .i64 0, .string ⟨#[]⟩, .string ⟨#[]⟩, .int .i64 0, .int .i64 0, .int .i64 0, .bool false, .bool false, .slice none 0 0], .bool false], []⟩ 8 (by kernel_rfl) (by kernel_rfl) (by kernel_rfl) (by kernel_rfl)) ?_
  intro W base args ds gs before hval0 hW hcnd _
  have hval : ∀ (j : Nat) t v, Tryz.f3.params[j]? = some t → args[j]? = some v → Value.okWide Tryz.prog W .any base t v := hval0
  have hW' := hW
  obtain ⟨p, q, hA0, hV, rfl, hfz, hnd⟩ := hW
  have hA : DataW.TrodAll enc Tryz.prog W 0 (fun _ => true) true Tryz.f3.params.toList args.toList ds p := hA0
  rw [Tryz.params3] at hA hval
  obtain ⟨v0, v1, v2, d0, d1, d2, p0, p1, p2, rfl, rfl, rfl, h0, h1, h2⟩ := trodAll_three hA
  obtain ⟨rfl, rfl⟩ := trodVars_none hV
  obtain ⟨n, rfl, rfl, rfl, wa⟩ := open_int Tryz.underlying3 (hval 0 3 v0 rfl rfl) h0
  obtain ⟨cs, rfl, hcs⟩ := okWide_struct Tryz.underlying24 (hval 1 24 v1 rfl rfl)
  obtain ⟨b, rfl, rfl, rfl⟩ := open_bool Tryz.underlying4 (hval 2 4 v2 rfl rfl) h2
  clear hA0 hval0
  refine (ov_good h1).calls.mono fun e W' ⟨he, hb⟩ => ?_
  subst he
  exact ⟨_, rfl, E.post_true Tryz.laidOut (by
      rw [Tryz.params3]; intro t ht
      simp at ht
      rcases ht with rfl | rfl | rfl
      · exact ⟨by kernel_rfl, of_decide_eq_true (by kernel_rfl)⟩
      · exact ⟨by kernel_rfl, of_decide_eq_true (by kernel_rfl)⟩
      · exact ⟨by kernel_rfl, of_decide_eq_true (by kernel_rfl)⟩) rfl rfl Tryz.underlying4 hW' rfl rfl rfl hb⟩

theorem overlayNil_holds : Rows.OverlayNilSaid :=
  OpenClaim.holds_of_wide 3 Tryz.f3 rfl rfl rfl rfl rfl rfl rfl ⟨rfl, rfl, rfl, rfl, rfl⟩ rfl rfl rfl rfl rfl (by kernel_rfl) Tryz.func3 (by kernel_rfl)
    (of_decide_eq_true (by kernel_rfl)) (by unfold Func.isWrapper; first | (rw [if_pos (by decide +kernel)]; kernel_rfl) | (rw [if_neg (by decide +kernel)]; exact ⟨rfl, rfl⟩))
    (fun os started H enc _ => overlayNil_lifted os started H enc)
#print axioms overlayNil_holds
end Go.Proofs.YtcjhklflgdeckaaGreat
