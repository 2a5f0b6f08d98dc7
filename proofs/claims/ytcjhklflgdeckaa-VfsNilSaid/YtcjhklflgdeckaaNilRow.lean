/- THE STATEMENT VfsNilSaid is proved: for every input the law returns true and its arguments read as they did; no condition. -/
import Derived.Test.YtcjhklflgdeckaaNil3
namespace Go.E
open Go.ChangeShapes Go.WideShapes
section
variable {P : Program} {X : Type}
theorem piece_flatten {s : Nat} : ∀ (l : List (List Value)) (j : Nat) (c : List Value), (∀ c ∈ l, c.length = s) → l[j]? = some c → piece l.flatten (0 + j * s) s = some c
  | [], j, c, _, h => by simp at h
  | x :: l, 0, c, h, hj => by
    simp at hj; subst hj
    have := h x (by simp)
    simp only [piece, List.flatten_cons, Nat.zero_mul, Nat.zero_add, List.length_append, List.drop_zero]
    rw [if_pos (by omega), List.take_append_of_le_length (by omega), List.take_of_length_le (by omega)]
  | x :: l, j + 1, c, h, hj => by
    have hx := h x (by simp)
    have := piece_flatten l j c (fun c hc => h c (List.mem_cons_of_mem _ hc)) (by simpa using hj)
    simp only [piece] at this ⊢
    split at this <;> (try cases this)
    rename_i hle
    rw [List.flatten_cons, List.length_append]
    have e1 : 0 + (j + 1) * s = x.length + (0 + j * s) := by rw [hx, Nat.add_mul]; omega
    rw [e1, if_pos (by omega), ← List.drop_drop, List.drop_left]
theorem rep_slice {H : AHeap} {m : Nat} {t e : TypeId} {cs : List Value} {d : DataW X} (hu : P.underlying t = some (.slice e)) (h : Rep P H (m + 1) t cs d) : ∃ a len cap, cs = [.slice a len cap] ∧
    (len = 0 ∨ ∃ i c tt ee, a = some ⟨i, 0, none⟩ ∧ H.get i = some (.cells c tt ee true true) ∧ ∀ j < len, ∃ (vs : List Value) (x : DataW X), piece c (0 + j * P.cellsOf e) (P.cellsOf e) = some vs ∧ Rep P H m e vs x) := by
  unfold Rep at h
  rw [hu] at h
  rcases h with ⟨rfl, rfl⟩ | ⟨i, rfl, rfl⟩ | ⟨i, len, cap, elems, rest, cjs, tt, ee, h1, h2, h3, h4, h5, h6, h7, h8, h9, h10⟩
  · exact ⟨_, _, _, rfl, .inl rfl⟩
  · exact ⟨_, _, _, rfl, .inl rfl⟩
  · refine ⟨_, _, _, h1, .inr ⟨i, _, tt, ee, rfl, h7, fun j hj => ?_⟩⟩
    have hjc : j < cjs.length := by omega
    have hje : j < elems.length := by omega
    exact ⟨cjs[j], elems[j], piece_flatten cjs j _ h9 (List.getElem?_eq_getElem hjc), h10 j _ _ (List.getElem?_eq_getElem hjc) (List.getElem?_eq_getElem hje)⟩
theorem rep_int {H : AHeap} {m : Nat} {t : TypeId} {k : IntKind} {cs : List Value} {d : DataW X} (hu : P.underlying t = some (.int k)) (h : Rep P H (m + 1) t cs d) : ∃ n, cs = [.int k n] := by
  unfold Rep at h; rw [hu] at h; obtain ⟨n, h1, _⟩ := h; exact ⟨n, h1⟩
theorem rep_bool {H : AHeap} {m : Nat} {t : TypeId} {cs : List Value} {d : DataW X} (hu : P.underlying t = some .bool) (h : Rep P H (m + 1) t cs d) : ∃ n, cs = [.bool n] := by
  unfold Rep at h; rw [hu] at h; obtain ⟨n, h1, _⟩ := h; exact ⟨n, h1⟩
theorem rep_string {H : AHeap} {m : Nat} {t : TypeId} {cs : List Value} {d : DataW X} (hu : P.underlying t = some .string) (h : Rep P H (m + 1) t cs d) : ∃ n, cs = [.string n] := by
  unfold Rep at h; rw [hu] at h; obtain ⟨n, h1, _⟩ := h; exact ⟨n, h1⟩
theorem rep_struct {H : AHeap} {m : Nat} {t : TypeId} {fs : Array Field} {cs : List Value} {d : DataW X} (hu : P.underlying t = some (.struct fs)) (h : Rep P H (m + 1) t cs d) :
    ∃ cjs : List (List Value), cs = cjs.flatten ∧ cjs.length = fs.size ∧ ∀ (j : Nat) (f : Field) (c : List Value), fs[j]? = some f → cjs[j]? = some c → ∃ x : DataW X, Rep P H m f.type c x := by
  unfold Rep at h; rw [hu] at h
  obtain ⟨ds, cjs, h1, h2, h3, h4, h5, h6⟩ := h
  refine ⟨cjs, h2, h4, fun j f c hf hc => ?_⟩
  have hj : j < ds.length := by rw [h3]; exact (Array.getElem?_eq_some_iff.1 hf).1
  exact ⟨ds[j], h6 j f c _ hf hc (List.getElem?_eq_getElem hj)⟩
theorem in_slice {enc : TypeId × Value → X} {W : World} {β : Bt} {H : AHeap} {m : Nat} {t : TypeId} {a : Option Addr} {len cap : Nat} {d : DataW X} {ps : List MemPlace} (hf : flat P m t = true) (h : DataW.Trod enc P W 0 (fun _ => true) true t (.slice a len cap) d ps)
    (hr : Rel P (heldAll W) W β H W) : ∃ β' H' u, β.le β' ∧ Grows H H' ∧ Rel P (heldAll W) W β' H' W ∧ VRel β' u (.slice a len cap) ∧ Rep P H' m t [u] d := by
  obtain ⟨fuel, hfu⟩ := h
  obtain ⟨β', H', cs', h1, h2, h3, h4, h5⟩ := in_one m t fuel _ d ps hf hfu β H hr
  have hl := h4.1
  obtain ⟨u, rfl⟩ : ∃ u, cs' = [u] := by
    cases cs' with
    | nil => simp [Value.cells] at hl
    | cons u r => cases r with
      | nil => exact ⟨u, rfl⟩
      | cons _ _ => simp [Value.cells] at hl
  exact ⟨β', H', u, h1, h2, h3, h4.2 0 _ _ rfl rfl, h5⟩
end
end Go.E
namespace Go.Proofs.Ytcjhklflgdeckaa
open Go.ChangeShapes Go.WideShapes Go.ChangeAt Go.RowKit Go.E
section
variable {X : Type}
theorem cells62 : Try.prog.cellsOf 62 = 1 := by kernel_rfl
theorem cells66 : Try.prog.cellsOf 66 = 9 := by kernel_rfl
theorem under9 : Try.prog.underlying 9 = some .string := by kernel_rfl
theorem under56 : Try.prog.underlying 56 = some (.slice 5) := by kernel_rfl
theorem one_of {c : List Value} {v : Value} (h : c = [v]) : c.flatMap (fun x => [x]) = [v] := by subst h; rfl
set_option maxRecDepth 100000 in
theorem op_at {H : AHeap} {m : Nat} {cs : List Value} {d : DataW X} (h : Rep Try.prog H (m + 2) 66 cs d) : IsOp cs := by
  obtain ⟨cjs, rfl, hl, hf⟩ := rep_struct Try.underlying66 h
  match cjs, hl with
  | [c0, c1, c2, c3, c4, c5, c6, c7, c8], _ =>
    obtain ⟨x0, r0⟩ := hf 0 _ c0 rfl rfl
    obtain ⟨x1, r1⟩ := hf 1 _ c1 rfl rfl
    obtain ⟨x2, r2⟩ := hf 2 _ c2 rfl rfl
    obtain ⟨x3, r3⟩ := hf 3 _ c3 rfl rfl
    obtain ⟨x4, r4⟩ := hf 4 _ c4 rfl rfl
    obtain ⟨x5, r5⟩ := hf 5 _ c5 rfl rfl
    obtain ⟨x6, r6⟩ := hf 6 _ c6 rfl rfl
    obtain ⟨x7, r7⟩ := hf 7 _ c7 rfl rfl
    obtain ⟨x8, r8⟩ := hf 8 _ c8 rfl rfl
    obtain ⟨n0, rfl⟩ := rep_int Try.underlying3 r0
    obtain ⟨n1, rfl⟩ := rep_string under9 r1
    obtain ⟨n2, rfl⟩ := rep_string under9 r2
    obtain ⟨n3, rfl⟩ := rep_int Try.underlying3 r3
    obtain ⟨n4, rfl⟩ := rep_int Try.underlying3 r4
    obtain ⟨n5, rfl⟩ := rep_int Try.underlying3 r5
    obtain ⟨n6, rfl⟩ := rep_bool Try.underlying4 r6
    obtain ⟨n7, rfl⟩ := rep_bool Try.underlying4 r7
    obtain ⟨a, len, cap, rfl, _⟩ := rep_slice under56 r8
    exact ⟨n0, n1, n2, n3, n4, n5, n6, n7, a, len, cap, rfl⟩
set_option maxRecDepth 100000 in
theorem ops_at {H : AHeap} {m : Nat} {cs : List Value} {d : DataW X} (h : Rep Try.prog H (m + 3) 62 cs d) : ∃ u, cs = [u] ∧ OpsAt H u := by
  obtain ⟨a, len, cap, rfl, hc⟩ := rep_slice Try.underlying62 h
  refine ⟨_, rfl, a, len, cap, rfl, hc.imp id ?_⟩
  rintro ⟨i, c, tt, ee, rfl, hg, hj⟩
  refine ⟨i, c, tt, ee, rfl, hg, fun j hlt => ?_⟩
  obtain ⟨vs, x, h1, h2⟩ := hj j hlt
  rw [cells66] at h1
  exact ⟨vs, h1, op_at h2⟩
set_option maxRecDepth 100000 in
theorem lists_at {H : AHeap} {m : Nat} {u : Value} {d : DataW X} (h : Rep Try.prog H (m + 4) 22 [u] d) : ListsAt H u := by
  obtain ⟨a, len, cap, e0, hc⟩ := rep_slice Try.underlying22 h
  cases e0
  refine ⟨a, len, cap, rfl, hc.imp id ?_⟩
  rintro ⟨i, c, tt, ee, rfl, hg, hj⟩
  refine ⟨i, c, tt, ee, rfl, hg, fun j hlt => ?_⟩
  obtain ⟨vs, x, h1, h2⟩ := hj j hlt
  rw [cells62] at h1
  obtain ⟨u, rfl, h3⟩ := ops_at h2
  exact ⟨u, h1, h3⟩
theorem flat22 : flat Try.prog 6 22 = true := by kernel_rfl
set_option maxRecDepth 100000 in
theorem rf9_is : rfun Try.prog 9 = some rf9 := by kernel_rfl
set_option maxRecDepth 100000 in
theorem rf10_is : rfun Try.prog 10 = some rf10 := by kernel_rfl
set_option maxRecDepth 100000 in
theorem rf12_is : rfun Try.prog 12 = some rf12 := by kernel_rfl
set_option maxRecDepth 100000 in
theorem T2_9 : T2.fn 9 = some (.code rf9) := T2_of (f := 9) (rf := rf9) (show (9 : Nat) ≠ 11 by omega) (show (9 : Nat) ≠ 16 by omega) (show (9 : Nat) ≠ 17 by omega) (show (9 : Nat) ≠ 18 by omega) (show (9 : Nat) ≠ 20 by omega) (show (9 : Nat) ≠ 23 by omega) rf9_is
set_option maxRecDepth 100000 in
theorem T2_10 : T2.fn 10 = some (.code rf10) := T2_of (f := 10) (rf := rf10) (show (10 : Nat) ≠ 11 by omega) (show (10 : Nat) ≠ 16 by omega) (show (10 : Nat) ≠ 17 by omega) (show (10 : Nat) ≠ 18 by omega) (show (10 : Nat) ≠ 20 by omega) (show (10 : Nat) ≠ 23 by omega) rf10_is
set_option maxRecDepth 100000 in
theorem T2_12 : T2.fn 12 = some (.code rf12) := T2_of (f := 12) (rf := rf12) (show (12 : Nat) ≠ 11 by omega) (show (12 : Nat) ≠ 16 by omega) (show (12 : Nat) ≠ 17 by omega) (show (12 : Nat) ≠ 18 by omega) (show (12 : Nat) ≠ 20 by omega) (show (12 : Nat) ≠ 23 by omega) rf12_is
set_option maxRecDepth 100000 in
theorem nil_good {enc : TypeId × Value → X} {W : World} {who : Int} {a : Option Addr} {len cap : Nat} {made : Bool} {d : DataW X} {ps : List MemPlace} (h : DataW.Trod enc Try.prog W 0 (fun _ => true) true 22 (.slice a len cap) d ps) :
    Tru Try.prog 9 #[.int .i64 who, .slice a len cap, .bool made] W := by
  obtain ⟨β, H, u, _, _, hr, hv, hrep⟩ := in_slice flat22 h (Rel.start Try.prog W)
  exact tru_of_ev T2_ok (0 + 3000) hr (args := [.int .i64 who, u, .bool made]) (LRel.cons (.int _ _) (LRel.cons hv (LRel.cons (.bool _) (LRel.nil _))))
    (nil_walk T2_9 T2_10 T2_11 T2_12 T2_16 T2_18 T2_20 T2_23 T2_17 who u made H (lists_at (m := 2) hrep))
end
theorem Try.own : ownKnob Try.prog.godebug = none := by kernel_rfl
theorem Try.laidOut : laidOutB Try.prog = true := by kernel_rfl
set_option maxRecDepth 100000 in
theorem vfsNil_lifted (os : Os) (started : os.Started) (H : Type) (enc : TypeId × Value → H) :
    ReturnsInHanded {} Try.checked os 9 .any (Rows.vfsNilSpec.pre6 enc Try.prog Try.f9 Rows.vfsNilRow.domain false) (Rows.vfsNilSpec.post enc Try.prog Try.f9 false true false false) := by
  refine returnsInHanded_of_change (C := Try.checked) Try.own started (by kernel_rfl) Try.func9
    (ChangeSpec.witness6 (enc := enc) (C := Try.checked) false ⟨#[], #[.int .i64 0, .slice none 0 0, .bool false], []⟩ 8 (by kernel_rfl) (by kernel_rfl) (by kernel_rfl) (by kernel_rfl)) ?_
  intro W base args ds gs before hval0 hW hcnd _
  have hval : ∀ (j : Nat) t v, Try.f9.params[j]? = some t → args[j]? = some v → Value.okWide Try.prog W .any base t v := hval0
  have hW' := hW
  obtain ⟨p, q, hA0, hV, rfl, hfz, hnd⟩ := hW
  have hA : DataW.TrodAll enc Try.prog W 0 (fun _ => true) true Try.f9.params.toList args.toList ds p := hA0
  rw [Try.params9] at hA hval
  obtain ⟨v0, v1, v2, d0, d1, d2, p0, p1, p2, rfl, rfl, rfl, h0, h1, h2⟩ := trodAll_three hA
  obtain ⟨rfl, rfl⟩ := trodVars_none hV
  obtain ⟨n, rfl, rfl, rfl, wa⟩ := open_int Try.underlying3 (hval 0 3 v0 rfl rfl) h0
  obtain ⟨a, len, cap, rfl⟩ := okWide_slice Try.underlying22 (hval 1 22 v1 rfl rfl)
  obtain ⟨b, rfl, rfl, rfl⟩ := open_bool Try.underlying4 (hval 2 4 v2 rfl rfl) h2
  clear hA0 hval0
  refine (nil_good h1).calls.mono fun e W' ⟨he, hb⟩ => ?_
  subst he
  exact ⟨_, rfl, E.post_true Try.laidOut (by
      rw [Try.params9]; intro t ht
      simp at ht
      rcases ht with rfl | rfl | rfl
      · exact ⟨by kernel_rfl, of_decide_eq_true (by kernel_rfl)⟩
      · exact ⟨by kernel_rfl, of_decide_eq_true (by kernel_rfl)⟩
      · exact ⟨by kernel_rfl, of_decide_eq_true (by kernel_rfl)⟩) rfl rfl Try.underlying4 hW' rfl rfl rfl hb⟩

theorem vfsNil_holds : Rows.VfsNilSaid :=
  OpenClaim.holds_of_wide 9 Try.f9 rfl rfl rfl rfl rfl rfl rfl ⟨rfl, rfl, rfl, rfl, rfl⟩ rfl rfl rfl rfl rfl (by kernel_rfl) Try.func9 (by kernel_rfl)
    (of_decide_eq_true (by kernel_rfl)) (by unfold Func.isWrapper; first | (rw [if_pos (by decide +kernel)]; kernel_rfl) | (rw [if_neg (by decide +kernel)]; exact ⟨rfl, rfl⟩))
    (fun os started H enc _ => vfsNil_lifted os started H enc)
#print axioms vfsNil_holds
end Go.Proofs.Ytcjhklflgdeckaa
