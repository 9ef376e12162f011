/- Part 5 of the proof: it joins the texts BsE, Sp19, Sp23, Sp24, Sp25, Sp26, Sp20, Sp21, Sp22. -/
import Derived.Test.YtjmifihjamiggaaMd
import Derived.Deep.Slices
import Derived.KernelRfl
import Derived.ProofKit
section PBsE
/- Contracts, library: the search in a row that rises, at [edge]. -/
set_option linter.unusedVariables false
set_option linter.unusedSimpArgs false
namespace Go.Ab
open Go.Proofs

theorem closure_edge_ok (y : FEdge) (s : Str) : PCalls Try.prog n_graph_edge_1 [aggP (encE y), vS s] (vI .i64 (cmpI y.id s)) := by
  refine p_graph_edge_1 (Nat.le_of_ble_eq_true rfl) rfl rfl ?_
  repeat' (first | simp -implicitDefEqProofs only [go_sem, reduceIte, Nat.reduceEqDiff, s_graph_edge_1, encE, Option.bind_some, toPs, *] | refine CALL_of (compare_ok _ _) ?_ | refine GRD_true (fun _ => ?_) (fun _ => ?_) | refine GRDD_true (fun _ => ?_) (fun _ => ?_) | refine condW_split (fun _ => ?_) (fun _ => ?_))
theorem search_edge_W (sv : AV) (H : List (Nat × Blk)) (nx : Nat) (xl : List FEdge) (pt : Nat → AV) (hlA : lenA sv (hget H) = some (vI .i64 xl.length)) (hidx : ∀ (i : Nat) (y : FEdge), xl[i]? = some y → idxAA 5 sv (vI .i64 i) (hget H) = some (pt i) ∧ loadA true 5 (pt i) (hget H) = some (aggP (encE y)))
    (hsv : idsA nx sv = true) (hkH : keepH nx H = H) (hkB : H.all (fun x => idsB nx x.2) = true) (hx : Rises FEdge.id xl) (hlen : (xl.length : Int) ≤ 4611686018427387903) (s : Str) {K : AV → List (Nat × Blk) → Nat → Prop} (hk : K (.tup [vI .i64 (low FEdge.id xl s), vB (met FEdge.id xl s)]) H nx) :
    W Try.prog s_slices_BinarySearchFunc_api_Edge_api_Edge_string (RETK r_slices_BinarySearchFunc_api_Edge_api_Edge_string K) ⟨argE 0 [sv, vS s, .c (.p (.fn n_graph_edge_1 []))], H, nx⟩ := by
  simp -implicitDefEqProofs only [go_sem, reduceIte, Nat.reduceEqDiff, s_slices_BinarySearchFunc_api_Edge_api_Edge_string, hlA]
  refine loop_row (fun (a : Nat × Nat) => [(0, sv), (1, vS s), (2, .c (.p (.fn n_graph_edge_1 []))), (8, vI .i64 xl.length), (9, vI .i64 a.1), (10, vI .i64 a.2)]) (fun _ => H) (fun a => a.2 - a.1)
    (fun a => a.1 ≤ a.2 ∧ a.2 ≤ xl.length ∧ (∀ (k : Nat) (b : FEdge), k < a.1 → xl[k]? = some b → lt b.id s = true) ∧ ∀ (k : Nat) (b : FEdge), a.2 ≤ k → xl[k]? = some b → lt b.id s = false) (0, xl.length) ?_ ?_ ?_
  · simp -implicitDefEqProofs only [go_sem, reduceIte, Nat.reduceEqDiff, KEEP, hkH, hkB, hsv]; rfl
  · exact ⟨Nat.zero_le _, Nat.le_refl _, fun k b h => by omega, fun k b h hb => by have := (List.getElem?_eq_some_iff.1 hb).1; omega⟩
  rintro ⟨i, j⟩ ⟨h1, h2, h3, h4⟩
  simp -implicitDefEqProofs only [go_sem, reduceIte, Nat.reduceEqDiff, b_slices_BinarySearchFunc_api_Edge_api_Edge_string_0]
  have hw1 : IntKind.i64.wrap ((i + j : Nat) : Int) = ((i + j : Nat) : Int) := wrap_i64 (by omega) (by omega)
  have hw2 : IntKind.u64.wrap ((i + j : Nat) : Int) = ((i + j : Nat) : Int) := wrap_u64 (by omega) (by omega)
  have hw3 : IntKind.i64.wrap (((i + j) / 2 : Nat) : Int) = (((i + j) / 2 : Nat) : Int) := wrap_i64 (by omega) (by omega)
  have hw4 : IntKind.i64.wrap ((((i + j) / 2 : Nat) : Int) + 1) = (((i + j) / 2 + 1 : Nat) : Int) := by rw [wrap_i64 (by omega) (by omega)]; rfl
  refine condW_split (fun h => ?_) (fun h => ?_)
  · have hij : i < j := by simpa using h
    have hm : (i + j) / 2 < xl.length := by omega
    have hy : xl[(i + j) / 2]? = some xl[(i + j) / 2] := List.getElem?_eq_getElem hm
    generalize xl[(i + j) / 2] = y at hy
    simp -implicitDefEqProofs only [go_sem, reduceIte, Nat.reduceEqDiff, nat_add_cast, hw1, hw2, hw3, shOp_half, (hidx _ _ hy).1, (hidx _ _ hy).2]
    refine CALL_of (closure_edge_ok y s) ?_
    simp -implicitDefEqProofs only [go_sem, reduceIte, Nat.reduceEqDiff]
    refine condW_split (fun hc => ?_) (fun hc => ?_)
    · have hc : lt y.id s = true := by rw [decide_eq_true_eq, cmpI_neg] at hc; exact hc
      simp -implicitDefEqProofs only [go_sem, reduceIte, Nat.reduceEqDiff, hw4, KEEP, hkH, hkB, hsv]
      refine ⟨((i + j) / 2 + 1, j), ⟨by omega, h2, fun k b hk hb => ?_, h4⟩, by show j - ((i + j) / 2 + 1) < j - i; omega, rfl⟩
      simp only at hk
      rcases Nat.lt_or_ge k ((i + j) / 2) with q | q
      · exact lt_trans' (hx.get q hb hy) hc
      · obtain rfl : k = (i + j) / 2 := by omega
        rw [hy] at hb; injection hb with hb; rw [← hb]; exact hc
    · have hc : lt y.id s = false := by rw [decide_eq_false_iff_not, cmpI_neg] at hc; simpa using hc
      simp -implicitDefEqProofs only [go_sem, reduceIte, Nat.reduceEqDiff, KEEP, hkH, hkB, hsv]
      refine ⟨(i, (i + j) / 2), ⟨by show i ≤ (i + j) / 2; omega, by show (i + j) / 2 ≤ _; omega, h3, fun k b hk hb => ?_⟩, by show (i + j) / 2 - i < j - i; omega, rfl⟩
      simp only at hk
      rcases Nat.lt_or_ge ((i + j) / 2) k with q | q
      · exact nlt_trans (hx.get q hy hb) hc
      · obtain rfl : k = (i + j) / 2 := by omega
        rw [hy] at hb; injection hb with hb; rw [← hb]; exact hc
  · have hij : i = j := by have : ¬ i < j := by simpa using h
                           omega
    subst hij
    have hlow : low FEdge.id xl s = i := low_of h2 h3 h4
    have hmet := met_low hx s
    rw [hlow] at hmet hk
    simp -implicitDefEqProofs only [go_sem, reduceIte, Nat.reduceEqDiff]
    refine GRD_true (fun hc => ?_) (fun hc => ?_)
    · have hlt : i < xl.length := by simpa using hc
      have hy : xl[i]? = some xl[i] := List.getElem?_eq_getElem hlt
      generalize xl[i] = y at hy
      rw [hy] at hmet
      simp -implicitDefEqProofs only [go_sem, reduceIte, Nat.reduceEqDiff, hc, (hidx _ _ hy).1, (hidx _ _ hy).2, hmet]
      refine CALL_of (closure_edge_ok y s) ?_
      simp -implicitDefEqProofs only [go_sem, reduceIte, Nat.reduceEqDiff, cmpI_zero]
      rw [hmet] at hk; exact hk
    · have hlt : ¬ i < xl.length := by simpa using hc
      have hy : xl[i]? = none := List.getElem?_eq_none (by omega)
      rw [hy] at hmet
      simp -implicitDefEqProofs only [go_sem, reduceIte, Nat.reduceEqDiff, hc, hmet]
      rw [hmet] at hk; exact hk
theorem search_edge_ok (x : Sl FEdge) (hx : Rises FEdge.id x.l) (hlen : (x.l.length : Int) ≤ 4611686018427387903) (s : Str) :
    PCalls Try.prog n_slices_BinarySearchFunc_api_Edge_api_Edge_string [x.av 5 encE, vS s, .c (.p (.fn n_graph_edge_1 []))] (.tup [vI .i64 (low FEdge.id x.l s), vB (met FEdge.id x.l s)]) := by
  refine p_slices_BinarySearchFunc_api_Edge_api_Edge_string (Nat.le_of_ble_eq_true rfl) rfl rfl ?_
  refine search_edge_W (x.av 5 encE) [] 0 x.l (fun i => match x.l[i]? with | some y => .c (.p (.ptr (encE y))) | none => .u) (lenA_sl x _ _ _) (fun i y hy => ?_) rfl rfl rfl hx hlen s rfl
  rw [idxAA_sl, hy]
  exact ⟨rfl, rfl⟩
theorem rowLen_edge {l ver : Nat} {st : Own} {xl : List FEdge} {H : Heap} (h : H l = some (.row ver 5 st (xl.map fun y => (encE y).map .p))) : lenA (.c (.ref l ver 0 xl.length)) H = some (vI .i64 xl.length) := by simp [lenA, h]
theorem rowIdx_edge {l ver : Nat} {st : Own} {xl : List FEdge} {H : Heap} (h : H l = some (.row ver 5 st (xl.map fun y => (encE y).map .p))) (ho : st ≠ .own → xl = []) (i : Nat) (y : FEdge) (hy : xl[i]? = some y) :
    idxAA 5 (.c (.ref l ver 0 xl.length)) (vI .i64 i) H = some (.c (.ptr l ver i 0)) ∧ loadA true 5 (.c (.ptr l ver i 0)) H = some (aggP (encE y)) := by
  have hi : i < xl.length := (List.getElem?_eq_some_iff.1 hy).1
  have hst : st = .own := by
    cases st with
    | own => rfl
    | _ => rw [ho (by decide)] at hi; simp at hi
  subst hst
  constructor
  · simp [idxAA, rowOf, h, hi]
  · simp [loadA, cellA, rowOf, h, hy, segA]
theorem search_edge_row {l ver nx : Nat} {st : Own} {xl : List FEdge} (ho : st ≠ .own → xl = []) (hl : l < nx) (hx : Rises FEdge.id xl) (hlen : (xl.length : Int) ≤ 4611686018427387903) (s : Str) {K : AV → List (Nat × Blk) → Nat → Prop} (hk : K (.tup [vI .i64 (low FEdge.id xl s), vB (met FEdge.id xl s)]) [(l, .row ver 5 st (xl.map fun y => (encE y).map .p))] nx) :
    ACalls Try.prog n_slices_BinarySearchFunc_api_Edge_api_Edge_string [.c (.ref l ver 0 xl.length), vS s, .c (.p (.fn n_graph_edge_1 []))] [(l, .row ver 5 st (xl.map fun y => (encE y).map .p))] nx K := by
  have h : hget [(l, .row ver 5 st (xl.map fun y => (encE y).map .p))] l = some (.row ver 5 st (xl.map fun y => (encE y).map CV.p)) := by simp [hget]
  refine a_slices_BinarySearchFunc_api_Edge_api_Edge_string (Nat.le_of_ble_eq_true rfl) ?_
  exact search_edge_W _ _ nx xl (fun i => .c (.ptr l ver i 0)) (rowLen_edge h) (rowIdx_edge h ho) (by simp [idsA, idsC, hl]) (by simp [keepH, hl]) (by simp [idsB, idsC]) hx hlen s hk
end Go.Ab
end PBsE

section PSp19
/- Contracts, part 19: the example of the chapter on graphs: an edge comes to an empty graph. -/
set_option linter.unusedVariables false
set_option linter.unusedSimpArgs false
set_option maxHeartbeats 1000000
namespace Go.Ab
open Go.Proofs

theorem cast0 : ((0 : Nat) : Int) = 0 := rfl
theorem CALLV_c (P : Program) (f : Nat) (first caps : List CV) (args : List AV) (dst : Option Nat) (s : St) (K : St → Prop) : CALLV P (.c (.fn f first caps)) args dst s K = CALL P f (first.map .c ++ args ++ caps.map .c) dst s K := rfl
attribute [go_sem] cast0 CALLV_c mkFnA cvs
abbrev gNil : AV := .agg [.p .nil, .p .nil]
theorem checkNil_ok : PCalls Try.prog n_graph_Check [gNil] (vI .i64 0) := by
  refine p_graph_Check (Nat.le_of_ble_eq_true rfl) rfl rfl ?_
  simp -implicitDefEqProofs only [go_sem, reduceIte, Nat.reduceEqDiff, s_graph_Check, lenA]
  refine loop_up 0 0 (fun i => [(1, .c (.p (.ptr [.nil, .nil]))), (24, .c (.p .nil)), (25, vI .i64 0), (26, vI .i64 i)]) (fun i => i = 0) (by omega) (by simp -implicitDefEqProofs only [go_sem, reduceIte, Nat.reduceEqDiff]) rfl rfl ?_
  rintro i hi rfl
  simp -implicitDefEqProofs only [go_sem, reduceIte, Nat.reduceEqDiff, b_graph_Check_0, Int.lt_irrefl]
  refine loop_up 0 0 (fun i => [(1, .c (.p (.ptr [.nil, .nil]))), (52, .c (.p .nil)), (53, vI .i64 0), (54, vI .i64 i)]) (fun i => i = 0) (by omega) (by simp -implicitDefEqProofs only [go_sem, reduceIte, Nat.reduceEqDiff, lenA]) rfl rfl ?_
  rintro i hi rfl
  simp -implicitDefEqProofs only [go_sem, reduceIte, Nat.reduceEqDiff, b_graph_Check_2, Int.lt_irrefl]
theorem copyNil_ok : PCalls Try.prog n_graph_Copy [gNil] gNil := graphCopy_ok ⟨.none, .none⟩ ⟨by simp [Sl.none], by simp [Sl.none], by simp [Sl.none], by simp [Sl.none]⟩
theorem nodeNil_ok (s : Str) : PCalls Try.prog n_graph_node [gNil, vS s] (.tup [vI .i64 0, vB false]) := by
  refine p_graph_node (Nat.le_of_ble_eq_true rfl) rfl rfl ?_
  have c1 : PCalls Try.prog n_slices_BinarySearchFunc_api_Node_api_Node_string [.c (.p .nil), vS s, .c (.p (.fn n_graph_node_1 []))] (.tup [vI .i64 0, vB false]) := search_node_ok Sl.none (by simp [Rises, Sl.none]) (by simp [Sl.none]) s
  repeat' (first | simp -implicitDefEqProofs only [go_sem, reduceIte, Nat.reduceEqDiff, s_graph_node, *] | refine CALL_of c1 ?_ | refine GRD_true (fun _ => ?_) (fun _ => ?_) | refine GRDD_true (fun _ => ?_) (fun _ => ?_) | refine condW_split (fun _ => ?_) (fun _ => ?_))
theorem edgeNil_ok (s : Str) : PCalls Try.prog n_graph_edge [gNil, vS s] (.tup [vI .i64 0, vB false]) := by
  refine p_graph_edge (Nat.le_of_ble_eq_true rfl) rfl rfl ?_
  have c1 : PCalls Try.prog n_slices_BinarySearchFunc_api_Edge_api_Edge_string [.c (.p .nil), vS s, .c (.p (.fn n_graph_edge_1 []))] (.tup [vI .i64 0, vB false]) := search_edge_ok Sl.none (by simp [Rises, Sl.none]) (by simp [Sl.none]) s
  repeat' (first | simp -implicitDefEqProofs only [go_sem, reduceIte, Nat.reduceEqDiff, s_graph_edge, *] | refine CALL_of c1 ?_ | refine GRD_true (fun _ => ?_) (fun _ => ?_) | refine GRDD_true (fun _ => ?_) (fun _ => ?_) | refine condW_split (fun _ => ?_) (fun _ => ?_))
theorem comesNil_ok (o : MOp) (h : o.kind = 3) : PCalls Try.prog n_graph_change_comes [.c (.p (.ptr [.nil, .nil])), aggP (encO o)] (vI .i64 9) := by
  refine p_graph_change_comes (Nat.le_of_ble_eq_true rfl) rfl rfl ?_
  obtain ⟨kind, id, src, dst, key, val⟩ := o
  simp only at h
  subst h
  repeat' (first | simp -implicitDefEqProofs only [go_sem, reduceIte, Nat.reduceEqDiff, s_graph_change_comes, encO, nilChkA, *] | refine CALLD_of (edgeNil_ok _) ?_ | refine CALLD_of (nodeNil_ok _) ?_ | refine GRD_true (fun _ => ?_) (fun _ => ?_) | refine GRDD_true (fun _ => ?_) (fun _ => ?_) | refine condW_split (fun _ => ?_) (fun _ => ?_))
theorem doNil_ok (o : MOp) (h : o.kind = 3) (hr : rightO o = true) : PCalls Try.prog n_graph_change_do [.c (.p (.ptr [.nil, .nil])), aggP (encO o)] (vI .i64 9) := by
  refine p_graph_change_do (Nat.le_of_ble_eq_true rfl) rfl rfl ?_
  have c1 := graphRight_ok o
  have c2 := comesNil_ok o h
  rw [hr] at c1
  obtain ⟨kind, id, src, dst, key, val⟩ := o
  simp only at h
  subst h
  simp -implicitDefEqProofs only [go_sem, reduceIte, Nat.reduceEqDiff, s_graph_change_do, encO]
  refine CALL_of c1 ?_
  simp -implicitDefEqProofs only [go_sem, reduceIte, Nat.reduceEqDiff]
  refine CALL_of c2 ?_
  simp -implicitDefEqProofs only [go_sem, reduceIte, Nat.reduceEqDiff]
def opX : MOp := ⟨3, [120], [97], [98], [], ⟨0, 0, []⟩⟩
theorem applyNil_ok : PCalls Try.prog n_graph_Apply [gNil, .c (.p (.sl 8 true [encO opX]))] (.tup [gNil, vI .i64 0, vI .i64 9]) := by
  refine p_graph_Apply (Nat.le_of_ble_eq_true rfl) rfl rfl ?_
  have c3 := doNil_ok opX rfl (by decide)
  simp -implicitDefEqProofs only [go_sem, reduceIte, Nat.reduceEqDiff, s_graph_Apply]
  refine CALL_of checkNil_ok ?_
  simp -implicitDefEqProofs only [go_sem, reduceIte, Nat.reduceEqDiff]
  refine CALL_of copyNil_ok ?_
  simp -implicitDefEqProofs only [go_sem, reduceIte, Nat.reduceEqDiff, fillA, setSeg, List.drop_zero, List.cons_append, List.nil_append, List.append_nil, List.drop_succ_cons, List.drop_nil, lenA]
  refine loop_row (fun (i : Nat) => [(4, .c (.ptr 0 0 0 0)), (8, .c (.p (.ptr [.nil, .nil]))), (22, .c (.p (.sl 8 true [encO opX]))), (23, vI .i64 1), (24, vI .i64 i)]) (fun _ => [(0, .row 0 2 .own [[.p .nil, .p .nil]])]) (fun i => i) (fun i => i = 0) 0 (by simp -implicitDefEqProofs only [go_sem, reduceIte, Nat.reduceEqDiff, KEEP, idsB]; rfl) rfl ?_
  rintro i rfl
  simp -implicitDefEqProofs only [go_sem, reduceIte, Nat.reduceEqDiff, b_graph_Apply_0, idxAA, encO, opX, storeA, setSeg, List.drop_zero, List.cons_append, List.nil_append, List.append_nil, List.drop_succ_cons, List.drop_nil, ghK, doGh, and_self]
  refine CALL_of c3 ?_
  simp -implicitDefEqProofs only [go_sem, reduceIte, Nat.reduceEqDiff, fillA, storeA, setSeg, List.drop_zero, List.cons_append, List.nil_append, List.append_nil, List.drop_succ_cons, List.drop_nil, ghK, doGh, and_self]
  exact rfl
theorem awake26_ok : PCalls Try.prog n_pleachlaw26_awake [] (vB true) := by
  refine p_pleachlaw26_awake (Nat.le_of_ble_eq_true rfl) rfl rfl ?_
  simp -implicitDefEqProofs only [go_sem, reduceIte, Nat.reduceEqDiff, s_pleachlaw26_awake, fillA, setSeg, List.drop_zero, List.cons_append, List.nil_append, List.append_nil, List.drop_succ_cons, List.drop_nil]
  refine CALL_of applyNil_ok ?_
  simp -implicitDefEqProofs only [go_sem, reduceIte, Nat.reduceEqDiff, storeA, setSeg, List.drop_zero, List.cons_append, List.nil_append, List.append_nil, List.drop_succ_cons, List.drop_nil, ghK, doGh, and_self]
theorem graphOps_ok (g : FGraph) (o : MOp) (hg : strG g) (ho : szO o) : PCalls Try.prog n_pleachlaw26_GraphOps [aggP (encG g), aggP (encO o)] (vB true) := lawOps_ok awake26_ok g o hg ho
end Go.Ab
end PSp19

section PSp23
/- Contracts, part 23: the program's own checks of properties, nodes, edges, graphs. -/
set_option linter.unusedVariables false
set_option linter.unusedSimpArgs false
set_option maxHeartbeats 1000000
namespace Go.Ab
open Go.Proofs

theorem idxV_0 (a b c : CV) : idxVA 3 1 false (.agg [a, b, c]) (vI .i64 0) = some (.c a) := rfl
theorem idxV_1 (a b c : CV) : idxVA 3 1 false (.agg [a, b, c]) (vI .i64 1) = some (.c b) := rfl
theorem idxV_2 (a b c : CV) : idxVA 3 1 false (.agg [a, b, c]) (vI .i64 2) = some (.c c) := rfl
theorem cast1 : ((1 : Nat) : Int) = 1 := rfl
theorem cast2 : ((2 : Nat) : Int) = 2 := rfl
theorem cast3 : ((3 : Nat) : Int) = 3 := rfl
theorem ite20 (b : Bool) : decide ((if b = true then (0 : Int) else 2) = 0) = b := by cases b <;> rfl
theorem elemProps_ok (x : Sl MProp) : PCalls Try.prog n_elem_CheckProps [x.av 4 encP] (vI .i64 (propsN x.l)) := by
  refine p_elem_CheckProps (Nat.le_of_ble_eq_true rfl) rfl rfl ?_
  unfold propsN
  by_cases h8 : (8 : Int) < (x.l.length : Int)
  · simp -implicitDefEqProofs only [go_sem, reduceIte, Nat.reduceEqDiff, s_elem_CheckProps, h8, lenA_sl]
  simp -implicitDefEqProofs only [go_sem, reduceIte, Nat.reduceEqDiff, s_elem_CheckProps, h8, lenA_sl]
  refine loop_up x.l.length 0 (fun i => [(0, x.av 4 encP), (8, x.av 4 encP), (9, vI .i64 x.l.length), (10, vI .i64 i)]) (fun i => propsE none x.l = propsE (prevOf x.l i) (x.l.drop i)) (by omega) (by simp -implicitDefEqProofs only [go_sem, reduceIte, Nat.reduceEqDiff]; try rfl) rfl (by simp [prevOf]) ?_
  intro i hi hI
  simp -implicitDefEqProofs only [go_sem, reduceIte, Nat.reduceEqDiff, b_elem_CheckProps_0]
  refine condW_split (fun h => ?_) (fun h => ?_)
  · have hlt : i < x.l.length := by simpa using h
    obtain ⟨y, hy⟩ : ∃ y, x.l[i]? = some y := ⟨_, List.getElem?_eq_getElem hlt⟩
    have hw : IntKind.i64.wrap ((i : Int) + 1) = ((i + 1 : Nat) : Int) := by rw [wrap_i64 (by omega) (by omega)]; rfl
    rw [drop_cons hy] at hI
    simp only [propsE] at hI
    simp -implicitDefEqProofs only [go_sem, reduceIte, Nat.reduceEqDiff, hy, encP]
    refine CALL_of (nameCheck_ok _) ?_
    cases hn : isName y.key with
    | false =>
      simp -implicitDefEqProofs only [go_sem, reduceIte, Nat.reduceEqDiff]
      rw [hI, hn]; rfl
    | true =>
    simp -implicitDefEqProofs only [go_sem, reduceIte, Nat.reduceEqDiff, hy]
    refine CALL_of (valueCheck_ok _) ?_
    cases hv : isVal y.val with
    | false =>
      simp -implicitDefEqProofs only [go_sem, reduceIte, Nat.reduceEqDiff]
      rw [hI, hn, hv]; rfl
    | true =>
    simp only [hn, hv, Bool.and_self, if_true] at hI
    simp -implicitDefEqProofs only [go_sem, reduceIte, Nat.reduceEqDiff]
    refine GRDD_true (fun hp0 => ?_) (fun hp0 => ?_)
    · have hp : 0 < i := by simpa using hp0
      obtain ⟨z, hz⟩ : ∃ z, x.l[i - 1]? = some z := ⟨_, List.getElem?_eq_getElem (by omega)⟩
      have hw1 : IntKind.i64.wrap ((i : Int) - 1) = ((i - 1 : Nat) : Int) := by rw [wrap_i64 (by omega) (by omega)]; omega
      have hpr : prevOf x.l i = some z := by simp [prevOf, hz]; omega
      rw [hpr] at hI
      simp -implicitDefEqProofs only [go_sem, reduceIte, Nat.reduceEqDiff, hp0, hy, hz, hw, hw1, le_eq, encP]
      refine condW_split (fun h => ?_) (fun h => ?_)
      · simp -implicitDefEqProofs only [go_sem, reduceIte, Nat.reduceEqDiff]
        rw [hI]; simp only [ordK, h, if_true]
      · simp -implicitDefEqProofs only [go_sem, reduceIte, Nat.reduceEqDiff, hw]
        refine ⟨hlt, ?_⟩
        rw [hI, prevOf_succ hy]; simp only [ordK, h, Bool.false_eq_true, if_false]
    · have hp : i = 0 := by simpa using hp0
      have hpr : prevOf x.l i = none := by simp [prevOf, hp]
      rw [hpr] at hI
      simp -implicitDefEqProofs only [go_sem, reduceIte, Nat.reduceEqDiff, hp0, hy, hw]
      refine ⟨hlt, ?_⟩
      rw [hI, prevOf_succ hy]; simp only [ordK, Bool.false_eq_true, if_false]
  · have hlt : ¬ i < x.l.length := by simpa using h
    simp -implicitDefEqProofs only [go_sem, reduceIte, Nat.reduceEqDiff]
    rw [hI, List.drop_eq_nil_of_le (by omega)]; rfl
theorem elemRest_ok (x : Sl Str) (y : Sl MProp) : PCalls Try.prog n_elem_rest [x.av 1 encS, y.av 4 encP] (vI .i64 (restN x.l y.l)) := by
  refine p_elem_rest (Nat.le_of_ble_eq_true rfl) rfl rfl ?_
  unfold restN
  by_cases h8 : (8 : Int) < (x.l.length : Int)
  · simp -implicitDefEqProofs only [go_sem, reduceIte, Nat.reduceEqDiff, s_elem_rest, h8, lenA_sl]
  have r1 := nameRow_ok x (by omega)
  have r2 := elemProps_ok y
  by_cases h0 : rowE none x.l = 0 <;> repeat' (first | simp -implicitDefEqProofs only [go_sem, reduceIte, Nat.reduceEqDiff, s_elem_rest, lenA_sl, *] | refine CALL_of r1 ?_ | refine CALL_of r2 ?_ | refine GRD_true (fun _ => ?_) (fun _ => ?_) | refine GRDD_true (fun _ => ?_) (fun _ => ?_) | refine condW_split (fun _ => ?_) (fun _ => ?_))
theorem checkNode_ok (n : FNode) : PCalls Try.prog n_elem_CheckNode [aggP (encN n)] (vI .i64 (nodeE n)) := by
  refine p_elem_CheckNode (Nat.le_of_ble_eq_true rfl) rfl rfl ?_
  have r1 := nameCheck_ok n.id
  have r2 := elemRest_ok n.labels n.props
  unfold nodeE
  cases hn : isName n.id <;> repeat' (first | simp -implicitDefEqProofs only [go_sem, reduceIte, Nat.reduceEqDiff, s_elem_CheckNode, encN, *] | refine CALL_of r1 ?_ | refine CALL_of r2 ?_ | refine GRD_true (fun _ => ?_) (fun _ => ?_) | refine GRDD_true (fun _ => ?_) (fun _ => ?_) | refine condW_split (fun _ => ?_) (fun _ => ?_))
theorem checkEdge_ok (n : FEdge) : PCalls Try.prog n_elem_CheckEdge [aggP (encE n)] (vI .i64 (edgeE n)) := by
  refine p_elem_CheckEdge (Nat.le_of_ble_eq_true rfl) rfl rfl ?_
  have r2 := elemRest_ok n.labels n.props
  obtain ⟨id, src, dst, labels, props⟩ := n
  unfold edgeE
  simp only at r2 ⊢
  simp -implicitDefEqProofs only [go_sem, reduceIte, Nat.reduceEqDiff, s_elem_CheckEdge, encE]
  refine loop_up 3 0 (fun i => [(1, .c (.p (.ptr [.str id, .str src, .str dst, labels.pv 1 encS, props.pv 4 encP]))), (12, .agg [.p (.str id), .p (.str src), .p (.str dst)]), (13, vI .i64 i)]) (fun i => (1 ≤ i → isName id = true) ∧ (2 ≤ i → isName src = true) ∧ (3 ≤ i → isName dst = true)) (by omega) (by simp -implicitDefEqProofs only [go_sem, reduceIte, Nat.reduceEqDiff]; rfl) rfl (by simp) ?_
  intro i hi hI
  obtain ⟨i1, i2, i3⟩ := hI
  have hc : i = 0 ∨ i = 1 ∨ i = 2 ∨ i = 3 := by omega
  rcases hc with rfl | rfl | rfl | rfl
  · clear i1 i2 i3
    simp -implicitDefEqProofs only [go_sem, reduceIte, Nat.reduceEqDiff, b_elem_CheckEdge_0, idxV_0]
    refine CALL_of (nameCheck_ok id) ?_
    cases hn : isName id with
    | false => simp -implicitDefEqProofs only [go_sem, reduceIte, Nat.reduceEqDiff, Bool.false_and]
    | true =>
      simp -implicitDefEqProofs only [go_sem, reduceIte, Nat.reduceEqDiff]
      exact ⟨by simp, rfl⟩
  · have hn := i1 (by omega)
    clear i1 i2 i3
    simp -implicitDefEqProofs only [go_sem, reduceIte, Nat.reduceEqDiff, b_elem_CheckEdge_0, idxV_1, cast1]
    refine CALL_of (nameCheck_ok src) ?_
    cases hn2 : isName src with
    | false => simp -implicitDefEqProofs only [go_sem, reduceIte, Nat.reduceEqDiff, Bool.false_and, hn, Bool.and_false]
    | true =>
      simp -implicitDefEqProofs only [go_sem, reduceIte, Nat.reduceEqDiff]
      exact ⟨by simp [hn], rfl⟩
  · have hn := i1 (by omega)
    have hn2 := i2 (by omega)
    clear i1 i2 i3
    simp -implicitDefEqProofs only [go_sem, reduceIte, Nat.reduceEqDiff, b_elem_CheckEdge_0, idxV_2, cast2]
    refine CALL_of (nameCheck_ok dst) ?_
    cases hn3 : isName dst with
    | false => simp -implicitDefEqProofs only [go_sem, reduceIte, Nat.reduceEqDiff, Bool.false_and, hn, hn2, Bool.and_false]
    | true =>
      simp -implicitDefEqProofs only [go_sem, reduceIte, Nat.reduceEqDiff]
      exact ⟨by simp [hn, hn2], rfl⟩
  · have hn := i1 (by omega)
    have hn2 := i2 (by omega)
    have hn3 := i3 (by omega)
    clear i1 i2 i3
    simp -implicitDefEqProofs only [go_sem, reduceIte, Nat.reduceEqDiff, b_elem_CheckEdge_0, cast3, Int.lt_irrefl, hn, hn2, hn3]
    refine CALL_of r2 ?_
    simp -implicitDefEqProofs only [go_sem, reduceIte, Nat.reduceEqDiff]
theorem node_ok (g : FGraph) (hx : Rises FNode.id g.nodes.l) (hl : g.nodes.l.length ≤ 1000000000000) (s : Str) : PCalls Try.prog n_graph_node [aggP (encG g), vS s] (.tup [vI .i64 (low FNode.id g.nodes.l s), vB (met FNode.id g.nodes.l s)]) := by
  refine p_graph_node (Nat.le_of_ble_eq_true rfl) rfl rfl ?_
  have c1 := search_node_ok g.nodes hx (by omega) s
  obtain ⟨x, y⟩ := g
  simp only at c1
  repeat' (first | simp -implicitDefEqProofs only [go_sem, reduceIte, Nat.reduceEqDiff, s_graph_node, encG, *] | refine CALL_of c1 ?_ | refine GRD_true (fun _ => ?_) (fun _ => ?_) | refine GRDD_true (fun _ => ?_) (fun _ => ?_) | refine condW_split (fun _ => ?_) (fun _ => ?_))
end Go.Ab
end PSp23

section PSp24
/- Contracts, part 24: graph.Check. -/
set_option linter.unusedVariables false
set_option linter.unusedSimpArgs false
set_option maxHeartbeats 1000000
namespace Go.Ab
open Go.Proofs

theorem check_ok (g : FGraph) : PCalls Try.prog n_graph_Check [aggP (encG g)] (vI .i64 (wrongG g)) := by
  refine p_graph_Check (Nat.le_of_ble_eq_true rfl) rfl rfl ?_
  have hN := fun (hx : Rises FNode.id g.nodes.l) (hl : g.nodes.l.length ≤ 1000000000000) s => node_ok g hx hl s
  obtain ⟨x, y⟩ := g
  simp only at hN
  unfold wrongG
  by_cases h5 : (500 : Int) < (x.l.length : Int)
  · simp -implicitDefEqProofs only [go_sem, reduceIte, Nat.reduceEqDiff, s_graph_Check, encG, h5, lenA_sl]
  by_cases h6 : (1000 : Int) < (y.l.length : Int)
  · simp -implicitDefEqProofs only [go_sem, reduceIte, Nat.reduceEqDiff, s_graph_Check, encG, h5, h6, lenA_sl]
  simp -implicitDefEqProofs only [go_sem, reduceIte, Nat.reduceEqDiff, s_graph_Check, encG, h5, h6, lenA_sl]
  refine loop_up x.l.length 0 (fun i => [(1, .c (.p (.ptr [x.pv 3 encN, y.pv 5 encE]))), (24, x.av 3 encN), (25, vI .i64 x.l.length), (26, vI .i64 i)]) (fun i => nodesE none x.l = nodesE (prevOf x.l i) (x.l.drop i)) (by omega) (by simp -implicitDefEqProofs only [go_sem, reduceIte, Nat.reduceEqDiff]; try rfl) rfl (by simp [prevOf]) ?_
  intro i hi hI
  simp -implicitDefEqProofs only [go_sem, reduceIte, Nat.reduceEqDiff, b_graph_Check_0]
  refine condW_split (fun h => ?_) (fun h => ?_)
  · have hlt : i < x.l.length := by simpa using h
    obtain ⟨n, hn⟩ : ∃ n, x.l[i]? = some n := ⟨_, List.getElem?_eq_getElem hlt⟩
    have hw : IntKind.i64.wrap ((i : Int) + 1) = ((i + 1 : Nat) : Int) := by rw [wrap_i64 (by omega) (by omega)]; rfl
    rw [drop_cons hn] at hI
    simp only [nodesE] at hI
    simp -implicitDefEqProofs only [go_sem, reduceIte, Nat.reduceEqDiff, hn, encN]
    refine CALL_of (checkNode_ok n) ?_
    simp -implicitDefEqProofs only [go_sem, reduceIte, Nat.reduceEqDiff]
    by_cases h0 : nodeE n = 0
    · rw [if_pos h0] at hI
      simp -implicitDefEqProofs only [go_sem, reduceIte, Nat.reduceEqDiff, h0]
      refine GRDD_true (fun hp0 => ?_) (fun hp0 => ?_)
      · have hp : 0 < i := by simpa using hp0
        obtain ⟨z, hz⟩ : ∃ z, x.l[i - 1]? = some z := ⟨_, List.getElem?_eq_getElem (by omega)⟩
        have hw1 : IntKind.i64.wrap ((i : Int) - 1) = ((i - 1 : Nat) : Int) := by rw [wrap_i64 (by omega) (by omega)]; omega
        have hpr : prevOf x.l i = some z := by simp [prevOf, hz]; omega
        rw [hpr] at hI
        simp -implicitDefEqProofs only [go_sem, reduceIte, Nat.reduceEqDiff, hp0, hn, hz, hw, hw1, le_eq, encN]
        refine condW_split (fun h => ?_) (fun h => ?_)
        · simp only [ordK, h, if_true] at hI
          simp -implicitDefEqProofs only [go_sem, reduceIte, Nat.reduceEqDiff, hI]
        · simp -implicitDefEqProofs only [go_sem, reduceIte, Nat.reduceEqDiff, hw]
          refine ⟨hlt, ?_⟩
          rw [hI, prevOf_succ hn]; simp only [ordK, h, Bool.false_eq_true, if_false]
      · have hp : i = 0 := by simpa using hp0
        have hpr : prevOf x.l i = none := by simp [prevOf, hp]
        rw [hpr] at hI
        simp -implicitDefEqProofs only [go_sem, reduceIte, Nat.reduceEqDiff, hp0, hw]
        refine ⟨hlt, ?_⟩
        rw [hI, prevOf_succ hn]; simp only [ordK, Bool.false_eq_true, if_false]
    · rw [if_neg h0] at hI
      simp -implicitDefEqProofs only [go_sem, reduceIte, Nat.reduceEqDiff, h0, hI]
  · have hlt : ¬ i < x.l.length := by simpa using h
    have hz : nodesE none x.l = 0 := by rw [hI, List.drop_eq_nil_of_le (by omega)]; rfl
    clear hI
    have hN := hN (nodesE_zero hz).2.1 (by omega)
    simp -implicitDefEqProofs only [go_sem, reduceIte, Nat.reduceEqDiff, hz, lenA_sl]
    refine loop_up y.l.length 0 (fun i => [(1, .c (.p (.ptr [x.pv 3 encN, y.pv 5 encE]))), (52, y.av 5 encE), (53, vI .i64 y.l.length), (54, vI .i64 i)]) (fun i => edgesE x.l none y.l = edgesE x.l (prevOf y.l i) (y.l.drop i)) (by omega) (by simp -implicitDefEqProofs only [go_sem, reduceIte, Nat.reduceEqDiff]; try rfl) rfl (by simp [prevOf]) ?_
    intro i hi hI
    simp -implicitDefEqProofs only [go_sem, reduceIte, Nat.reduceEqDiff, b_graph_Check_2]
    refine condW_split (fun h => ?_) (fun h => ?_)
    · have hlt : i < y.l.length := by simpa using h
      obtain ⟨n, hn⟩ : ∃ n, y.l[i]? = some n := ⟨_, List.getElem?_eq_getElem hlt⟩
      have hw : IntKind.i64.wrap ((i : Int) + 1) = ((i + 1 : Nat) : Int) := by rw [wrap_i64 (by omega) (by omega)]; rfl
      rw [drop_cons hn] at hI
      simp only [edgesE] at hI
      simp -implicitDefEqProofs only [go_sem, reduceIte, Nat.reduceEqDiff, hn, encE, storeA, setSeg, List.drop_zero, List.cons_append, List.nil_append, List.append_nil, List.drop_succ_cons, List.drop_nil, ghK, doGh, and_self]
      refine CALL_of (checkEdge_ok n) ?_
      simp -implicitDefEqProofs only [go_sem, reduceIte, Nat.reduceEqDiff]
      by_cases h0 : edgeE n = 0
      case neg =>
        rw [if_neg h0] at hI
        simp -implicitDefEqProofs only [go_sem, reduceIte, Nat.reduceEqDiff, h0, hI]
      rw [if_pos h0] at hI
      -- behind the order's test
      have tail : ∀ (b : Bool), ordK FEdge.id (prevOf y.l i) n = b → b = false → edgesE x.l none y.l = (if hasN x.l n.src && hasN x.l n.dst then edgesE x.l (some n) (y.l.drop (i + 1)) else 9) := by
        intro b hb hb2
        rw [hb2] at hb
        rw [hI, hb]; simp
      simp -implicitDefEqProofs only [go_sem, reduceIte, Nat.reduceEqDiff, h0]
      refine GRDD_true (fun hp0 => ?_) (fun hp0 => ?_)
      · have hp : 0 < i := by simpa using hp0
        obtain ⟨z, hz2⟩ : ∃ z, y.l[i - 1]? = some z := ⟨_, List.getElem?_eq_getElem (by omega)⟩
        have hw1 : IntKind.i64.wrap ((i : Int) - 1) = ((i - 1 : Nat) : Int) := by rw [wrap_i64 (by omega) (by omega)]; omega
        have hpr : prevOf y.l i = some z := by simp [prevOf, hz2]; omega
        rw [hpr] at hI tail
        simp -implicitDefEqProofs only [go_sem, reduceIte, Nat.reduceEqDiff, hp0, hz2, hw1, le_eq, encE]
        refine condW_split (fun h => ?_) (fun h => ?_)
        · simp only [ordK, h, if_true] at hI
          simp -implicitDefEqProofs only [go_sem, reduceIte, Nat.reduceEqDiff, hI]
        · have hI := tail _ rfl (by simp only [ordK, h])
          clear tail
          simp -implicitDefEqProofs only [go_sem, reduceIte, Nat.reduceEqDiff]
          refine CALL_of (hN n.src) ?_
          simp -implicitDefEqProofs only [go_sem, reduceIte, Nat.reduceEqDiff]
          refine CALL_of (hN n.dst) ?_
          cases m1 : met FNode.id x.l n.src <;> cases m2 : met FNode.id x.l n.dst <;> simp only [hasN, m1, m2, Bool.and_self, Bool.and_false, Bool.false_and, if_true, Bool.false_eq_true, if_false] at hI
          case true.true =>
            simp -implicitDefEqProofs only [go_sem, reduceIte, Nat.reduceEqDiff, hw]
            refine ⟨hlt, ?_⟩
            rw [hI, prevOf_succ hn]
          all_goals simp -implicitDefEqProofs only [go_sem, reduceIte, Nat.reduceEqDiff, hI]
      · have hp : i = 0 := by simpa using hp0
        have hpr : prevOf y.l i = none := by simp [prevOf, hp]
        rw [hpr] at hI tail
        have hI := tail _ rfl rfl
        clear tail
        simp -implicitDefEqProofs only [go_sem, reduceIte, Nat.reduceEqDiff, hp0, encE]
        refine CALL_of (hN n.src) ?_
        simp -implicitDefEqProofs only [go_sem, reduceIte, Nat.reduceEqDiff]
        refine CALL_of (hN n.dst) ?_
        cases m1 : met FNode.id x.l n.src <;> cases m2 : met FNode.id x.l n.dst <;> simp only [hasN, m1, m2, Bool.and_self, Bool.and_false, Bool.false_and, if_true, Bool.false_eq_true, if_false] at hI
        case true.true =>
          simp -implicitDefEqProofs only [go_sem, reduceIte, Nat.reduceEqDiff, hw]
          refine ⟨hlt, ?_⟩
          rw [hI, prevOf_succ hn]
        all_goals simp -implicitDefEqProofs only [go_sem, reduceIte, Nat.reduceEqDiff, hI]
    · have hlt : ¬ i < y.l.length := by simpa using h
      simp -implicitDefEqProofs only [go_sem, reduceIte, Nat.reduceEqDiff]
      rw [hI, List.drop_eq_nil_of_le (by omega)]; rfl
end Go.Ab
end PSp24

section PSp25
/- Contracts, part 25: are two graphs the same: the program's answer and the reference's. -/
set_option linter.unusedVariables false
set_option linter.unusedSimpArgs false
set_option maxHeartbeats 2000000
namespace Go.Ab
open Go.Proofs

def eqBy {α : Type} (f : α → α → Bool) : List α → List α → Bool
  | [], [] => true
  | a :: x, b :: y => f a b && eqBy f x y
  | _, _ => false
theorem eqBy_len {α : Type} {f : α → α → Bool} : ∀ {x y : List α}, x.length ≠ y.length → eqBy f x y = false
  | [], [], h => absurd rfl h
  | [], _ :: _, _ => rfl
  | _ :: _, [], _ => rfl
  | a :: x, b :: y, h => by
    simp only [eqBy, eqBy_len (x := x) (y := y) (fun e => h (by simp [e])), Bool.and_false]
theorem eqBy_drop {α : Type} {f : α → α → Bool} {x y : List α} {i : Nat} {a b : α} (hx : x[i]? = some a) (hy : y[i]? = some b) : eqBy f (x.drop i) (y.drop i) = (f a b && eqBy f (x.drop (i + 1)) (y.drop (i + 1))) := by
  rw [drop_cons hx, drop_cons hy]; rfl
theorem eqBy_map {α : Type} {f : α → α → Bool} {g : α → α} (h : ∀ a, f (g a) a = true) : ∀ (l : List α), eqBy f (l.map g) l = true
  | [] => rfl
  | a :: l => by simp only [List.map_cons, eqBy, h, eqBy_map h l, Bool.and_self]
theorem eqBy_refl {α : Type} {f : α → α → Bool} (h : ∀ a, f a a = true) : ∀ (l : List α), eqBy f l l = true
  | [] => rfl
  | a :: l => by simp only [eqBy, h, eqBy_refl h l, Bool.and_self]
def sameN (a b : FNode) : Bool := decide (a.id = b.id) && (decide (a.labels.l = b.labels.l) && decide (a.props.l = b.props.l))
def sameE (a b : FEdge) : Bool := decide (a.id = b.id) && (decide (a.src = b.src) && (decide (a.dst = b.dst) && (decide (a.labels.l = b.labels.l) && decide (a.props.l = b.props.l))))
def sameG (g h : FGraph) : Bool := eqBy sameN g.nodes.l h.nodes.l && eqBy sameE g.edges.l h.edges.l
theorem sameN_refl (a : FNode) : sameN a a = true := by simp [sameN]
theorem sameE_refl (a : FEdge) : sameE a a = true := by simp [sameE]
theorem sameG_refl (g : FGraph) : sameG g g = true := by simp [sameG, eqBy_refl sameN_refl, eqBy_refl sameE_refl]
theorem sameG_copy (g : FGraph) : sameG (copyG g) g = true := by
  unfold sameG
  rw [show (copyG g).nodes.l = g.nodes.l.map cN from rfl, show (copyG g).edges.l = g.edges.l.map cE from rfl, eqBy_map (fun a => ?_), eqBy_map (fun a => ?_)]
  · rfl
  · simp [sameE, cE, Sl.clone]
  · simp [sameN, cN, Sl.clone]
def BIG (n : Nat) : Prop := n ≤ 1000000000000000

theorem equalS_ok (x y : Sl Str) (hl : BIG x.l.length) : PCalls Try.prog n_slices_Equal_string_string [x.av 1 encS, y.av 1 encS] (vB (decide (x.l = y.l))) := by
  refine p_slices_Equal_string_string (Nat.le_of_ble_eq_true rfl) rfl rfl ?_
  unfold BIG at hl
  by_cases he : (x.l.length : Int) = (y.l.length : Int)
  · simp -implicitDefEqProofs only [go_sem, reduceIte, Nat.reduceEqDiff, s_slices_Equal_string_string, lenA_sl, he]
    refine loop_up x.l.length 0 (fun i => [(0, x.av 1 encS), (1, y.av 1 encS), (12, vI .i64 x.l.length), (13, vI .i64 i)]) (fun i => x.l.take i = y.l.take i) (by omega) (by simp -implicitDefEqProofs only [go_sem, reduceIte, Nat.reduceEqDiff, he]; try rfl) rfl rfl ?_
    intro i hi hI
    simp -implicitDefEqProofs only [go_sem, reduceIte, Nat.reduceEqDiff, b_slices_Equal_string_string_0]
    refine condW_split (fun h => ?_) (fun h => ?_)
    · have hlt : i < x.l.length := by simpa using h
      obtain ⟨z, hz⟩ : ∃ z, x.l[i]? = some z := ⟨_, List.getElem?_eq_getElem hlt⟩
      obtain ⟨u, hu⟩ : ∃ u, y.l[i]? = some u := ⟨_, List.getElem?_eq_getElem (by omega)⟩
      have hst := take_eq_succ hz hu
      simp -implicitDefEqProofs only [go_sem, reduceIte, Nat.reduceEqDiff, hz, hu, encS, eqSA, eqP_ok, one_cast, wadd (show i + 1 ≤ 9000000000000000000 by omega)]
      refine condW_split (fun hc => ?_) (fun hc => ?_)
      · have hne : ¬ z = u := by simpa [neg] using hc
        have : ¬ x.l = y.l := fun e => hne (by rw [e, hu] at hz; injection hz with hz; exact hz.symm)
        simp -implicitDefEqProofs only [go_sem, reduceIte, Nat.reduceEqDiff, this]
      · have hne : z = u := by simpa [neg] using hc
        simp -implicitDefEqProofs only [go_sem, reduceIte, Nat.reduceEqDiff, one_cast, wadd (show i + 1 ≤ 9000000000000000000 by omega)]
        exact ⟨hlt, hst.2 ⟨hI, hne⟩⟩
    · have hlt : ¬ i < x.l.length := by simpa using h
      have : x.l = y.l := by
        rw [List.take_of_length_le (by omega), List.take_of_length_le (by omega)] at hI
        exact hI
      simp -implicitDefEqProofs only [go_sem, reduceIte, Nat.reduceEqDiff, this]
  · have : ¬ x.l = y.l := fun e => he (by rw [e])
    simp -implicitDefEqProofs only [go_sem, reduceIte, Nat.reduceEqDiff, s_slices_Equal_string_string, lenA_sl, he, this]

theorem equalP_ok (x y : Sl MProp) (hl : BIG x.l.length) : PCalls Try.prog n_slices_Equal_api_Prop_api_Prop [x.av 4 encP, y.av 4 encP] (vB (decide (x.l = y.l))) := by
  refine p_slices_Equal_api_Prop_api_Prop (Nat.le_of_ble_eq_true rfl) rfl rfl ?_
  unfold BIG at hl
  by_cases he : (x.l.length : Int) = (y.l.length : Int)
  · simp -implicitDefEqProofs only [go_sem, reduceIte, Nat.reduceEqDiff, s_slices_Equal_api_Prop_api_Prop, lenA_sl, he]
    refine loop_up x.l.length 0 (fun i => [(0, x.av 4 encP), (1, y.av 4 encP), (12, vI .i64 x.l.length), (13, vI .i64 i)]) (fun i => x.l.take i = y.l.take i) (by omega) (by simp -implicitDefEqProofs only [go_sem, reduceIte, Nat.reduceEqDiff, he]; try rfl) rfl rfl ?_
    intro i hi hI
    simp -implicitDefEqProofs only [go_sem, reduceIte, Nat.reduceEqDiff, b_slices_Equal_api_Prop_api_Prop_0]
    refine condW_split (fun h => ?_) (fun h => ?_)
    · have hlt : i < x.l.length := by simpa using h
      obtain ⟨z, hz⟩ : ∃ z, x.l[i]? = some z := ⟨_, List.getElem?_eq_getElem hlt⟩
      obtain ⟨u, hu⟩ : ∃ u, y.l[i]? = some u := ⟨_, List.getElem?_eq_getElem (by omega)⟩
      have hst := take_eq_succ hz hu
      simp -implicitDefEqProofs only [go_sem, reduceIte, Nat.reduceEqDiff, hz, hu, encP, eqSA, eqP_ok, one_cast, wadd (show i + 1 ≤ 9000000000000000000 by omega)]
      refine condW_split (fun hc => ?_) (fun hc => ?_)
      · have hne : ¬ z = u := by simpa [neg] using hc
        have : ¬ x.l = y.l := fun e => hne (by rw [e, hu] at hz; injection hz with hz; exact hz.symm)
        simp -implicitDefEqProofs only [go_sem, reduceIte, Nat.reduceEqDiff, this]
      · have hne : z = u := by simpa [neg] using hc
        simp -implicitDefEqProofs only [go_sem, reduceIte, Nat.reduceEqDiff, one_cast, wadd (show i + 1 ≤ 9000000000000000000 by omega)]
        exact ⟨hlt, hst.2 ⟨hI, hne⟩⟩
    · have hlt : ¬ i < x.l.length := by simpa using h
      have : x.l = y.l := by
        rw [List.take_of_length_le (by omega), List.take_of_length_le (by omega)] at hI
        exact hI
      simp -implicitDefEqProofs only [go_sem, reduceIte, Nat.reduceEqDiff, this]
  · have : ¬ x.l = y.l := fun e => he (by rw [e])
    simp -implicitDefEqProofs only [go_sem, reduceIte, Nat.reduceEqDiff, s_slices_Equal_api_Prop_api_Prop, lenA_sl, he, this]

theorem refSameN_ok (a b : FNode) (h1 : BIG a.labels.l.length) (h2 : BIG a.props.l.length) : PCalls Try.prog n_pleachref25_SameNode [aggP (encN a), aggP (encN b)] (vB (sameN a b)) := by
  refine p_pleachref25_SameNode (Nat.le_of_ble_eq_true rfl) rfl rfl ?_
  have r1 := sameTexts_ok a.labels b.labels h1
  have r2 := sameProps_ok a.props b.props h2
  unfold sameN
  clear h1 h2
  cases h1 : decide (a.id = b.id) <;> cases h2 : decide (a.labels.l = b.labels.l) <;> cases h3 : decide (a.props.l = b.props.l) <;> repeat' (first | simp -implicitDefEqProofs only [go_sem, reduceIte, Nat.reduceEqDiff, s_pleachref25_SameNode, encN, Bool.and_true, Bool.and_false, *] | refine CALL_of r1 ?_ | refine CALL_of r2 ?_ | refine GRD_true (fun _ => ?_) (fun _ => ?_) | refine GRDD_true (fun _ => ?_) (fun _ => ?_) | refine condW_split (fun _ => ?_) (fun _ => ?_))
theorem cloN_ok (a b : FNode) (h1 : BIG a.labels.l.length) (h2 : BIG a.props.l.length) : PCalls Try.prog n_graph_Same_1 [aggP (encN a), aggP (encN b)] (vB (sameN a b)) := by
  refine p_graph_Same_1 (Nat.le_of_ble_eq_true rfl) rfl rfl ?_
  have r1 := equalS_ok a.labels b.labels h1
  have r2 := equalP_ok a.props b.props h2
  unfold sameN
  clear h1 h2
  cases h1 : decide (a.id = b.id) <;> cases h2 : decide (a.labels.l = b.labels.l) <;> cases h3 : decide (a.props.l = b.props.l) <;> repeat' (first | simp -implicitDefEqProofs only [go_sem, reduceIte, Nat.reduceEqDiff, s_graph_Same_1, encN, Bool.and_true, Bool.and_false, *] | refine CALL_of r1 ?_ | refine CALL_of r2 ?_ | refine GRD_true (fun _ => ?_) (fun _ => ?_) | refine GRDD_true (fun _ => ?_) (fun _ => ?_) | refine condW_split (fun _ => ?_) (fun _ => ?_))
theorem eqFuncN_ok (x y : Sl FNode) (hl : BIG x.l.length) (hb : ∀ a ∈ x.l, BIG a.labels.l.length ∧ BIG a.props.l.length) : PCalls Try.prog n_slices_EqualFunc_api_Node_api_Node_api_Node_api_Node [x.av 3 encN, y.av 3 encN, .c (.p (.fn n_graph_Same_1 []))] (vB (eqBy sameN x.l y.l)) := by
  refine p_slices_EqualFunc_api_Node_api_Node_api_Node_api_Node (Nat.le_of_ble_eq_true rfl) rfl rfl ?_
  unfold BIG at hl
  by_cases he : (x.l.length : Int) = (y.l.length : Int)
  · simp -implicitDefEqProofs only [go_sem, reduceIte, Nat.reduceEqDiff, s_slices_EqualFunc_api_Node_api_Node_api_Node_api_Node, lenA_sl, he]
    refine loop_up x.l.length 0 (fun i => [(1, y.av 3 encN), (2, .c (.p (.fn n_graph_Same_1 []))), (15, x.av 3 encN), (16, vI .i64 x.l.length), (17, vI .i64 i)]) (fun i => eqBy sameN x.l y.l = eqBy sameN (x.l.drop i) (y.l.drop i)) (by omega) (by simp -implicitDefEqProofs only [go_sem, reduceIte, Nat.reduceEqDiff, he]; try rfl) rfl rfl ?_
    intro i hi hI
    simp -implicitDefEqProofs only [go_sem, reduceIte, Nat.reduceEqDiff, b_slices_EqualFunc_api_Node_api_Node_api_Node_api_Node_0]
    refine condW_split (fun h => ?_) (fun h => ?_)
    · have hlt : i < x.l.length := by simpa using h
      obtain ⟨z, hz⟩ : ∃ z, x.l[i]? = some z := ⟨_, List.getElem?_eq_getElem hlt⟩
      obtain ⟨u, hu⟩ : ∃ u, y.l[i]? = some u := ⟨_, List.getElem?_eq_getElem (by omega)⟩
      obtain ⟨b1, b2⟩ := hb z (List.mem_of_getElem? hz)
      have r1 := cloN_ok z u b1 b2
      rw [eqBy_drop hz hu] at hI
      simp -implicitDefEqProofs only [go_sem, reduceIte, Nat.reduceEqDiff, hz, hu, encN, storeA, setSeg, List.drop_zero, List.cons_append, List.nil_append, List.append_nil, List.drop_succ_cons, List.drop_nil, ghK, doGh, and_self]
      refine CALL_of r1 ?_
      cases hs : sameN z u with
      | false =>
        simp -implicitDefEqProofs only [go_sem, reduceIte, Nat.reduceEqDiff]
        rw [hI, hs]; rfl
      | true =>
        simp -implicitDefEqProofs only [go_sem, reduceIte, Nat.reduceEqDiff, one_cast, wadd (show i + 1 ≤ 9000000000000000000 by omega)]
        refine ⟨hlt, ?_⟩
        rw [hI, hs]; rfl
    · have hlt : ¬ i < x.l.length := by simpa using h
      simp -implicitDefEqProofs only [go_sem, reduceIte, Nat.reduceEqDiff]
      rw [hI, List.drop_eq_nil_of_le (by omega), List.drop_eq_nil_of_le (by omega)]; rfl
  · have : eqBy sameN x.l y.l = false := eqBy_len (by omega)
    simp -implicitDefEqProofs only [go_sem, reduceIte, Nat.reduceEqDiff, s_slices_EqualFunc_api_Node_api_Node_api_Node_api_Node, lenA_sl, he, this]

theorem refSameE_ok (a b : FEdge) (h1 : BIG a.labels.l.length) (h2 : BIG a.props.l.length) : PCalls Try.prog n_pleachref25_SameEdge [aggP (encE a), aggP (encE b)] (vB (sameE a b)) := by
  refine p_pleachref25_SameEdge (Nat.le_of_ble_eq_true rfl) rfl rfl ?_
  have r1 := sameTexts_ok a.labels b.labels h1
  have r2 := sameProps_ok a.props b.props h2
  unfold sameE
  clear h1 h2
  cases h1 : decide (a.id = b.id) <;> cases h2 : decide (a.src = b.src) <;> cases h3 : decide (a.dst = b.dst) <;> cases h4 : decide (a.labels.l = b.labels.l) <;> cases h5 : decide (a.props.l = b.props.l) <;> repeat' (first | simp -implicitDefEqProofs only [go_sem, reduceIte, Nat.reduceEqDiff, s_pleachref25_SameEdge, encE, Bool.and_true, Bool.and_false, *] | refine CALL_of r1 ?_ | refine CALL_of r2 ?_ | refine GRD_true (fun _ => ?_) (fun _ => ?_) | refine GRDD_true (fun _ => ?_) (fun _ => ?_) | refine condW_split (fun _ => ?_) (fun _ => ?_))
theorem cloE_ok (a b : FEdge) (h1 : BIG a.labels.l.length) (h2 : BIG a.props.l.length) : PCalls Try.prog n_graph_Same_2 [aggP (encE a), aggP (encE b)] (vB (sameE a b)) := by
  refine p_graph_Same_2 (Nat.le_of_ble_eq_true rfl) rfl rfl ?_
  have r1 := equalS_ok a.labels b.labels h1
  have r2 := equalP_ok a.props b.props h2
  unfold sameE
  clear h1 h2
  cases h1 : decide (a.id = b.id) <;> cases h2 : decide (a.src = b.src) <;> cases h3 : decide (a.dst = b.dst) <;> cases h4 : decide (a.labels.l = b.labels.l) <;> cases h5 : decide (a.props.l = b.props.l) <;> repeat' (first | simp -implicitDefEqProofs only [go_sem, reduceIte, Nat.reduceEqDiff, s_graph_Same_2, encE, Bool.and_true, Bool.and_false, *] | refine CALL_of r1 ?_ | refine CALL_of r2 ?_ | refine GRD_true (fun _ => ?_) (fun _ => ?_) | refine GRDD_true (fun _ => ?_) (fun _ => ?_) | refine condW_split (fun _ => ?_) (fun _ => ?_))
theorem eqFuncE_ok (x y : Sl FEdge) (hl : BIG x.l.length) (hb : ∀ a ∈ x.l, BIG a.labels.l.length ∧ BIG a.props.l.length) : PCalls Try.prog n_slices_EqualFunc_api_Edge_api_Edge_api_Edge_api_Edge [x.av 5 encE, y.av 5 encE, .c (.p (.fn n_graph_Same_2 []))] (vB (eqBy sameE x.l y.l)) := by
  refine p_slices_EqualFunc_api_Edge_api_Edge_api_Edge_api_Edge (Nat.le_of_ble_eq_true rfl) rfl rfl ?_
  unfold BIG at hl
  by_cases he : (x.l.length : Int) = (y.l.length : Int)
  · simp -implicitDefEqProofs only [go_sem, reduceIte, Nat.reduceEqDiff, s_slices_EqualFunc_api_Edge_api_Edge_api_Edge_api_Edge, lenA_sl, he]
    refine loop_up x.l.length 0 (fun i => [(1, y.av 5 encE), (2, .c (.p (.fn n_graph_Same_2 []))), (15, x.av 5 encE), (16, vI .i64 x.l.length), (17, vI .i64 i)]) (fun i => eqBy sameE x.l y.l = eqBy sameE (x.l.drop i) (y.l.drop i)) (by omega) (by simp -implicitDefEqProofs only [go_sem, reduceIte, Nat.reduceEqDiff, he]; try rfl) rfl rfl ?_
    intro i hi hI
    simp -implicitDefEqProofs only [go_sem, reduceIte, Nat.reduceEqDiff, b_slices_EqualFunc_api_Edge_api_Edge_api_Edge_api_Edge_0]
    refine condW_split (fun h => ?_) (fun h => ?_)
    · have hlt : i < x.l.length := by simpa using h
      obtain ⟨z, hz⟩ : ∃ z, x.l[i]? = some z := ⟨_, List.getElem?_eq_getElem hlt⟩
      obtain ⟨u, hu⟩ : ∃ u, y.l[i]? = some u := ⟨_, List.getElem?_eq_getElem (by omega)⟩
      obtain ⟨b1, b2⟩ := hb z (List.mem_of_getElem? hz)
      have r1 := cloE_ok z u b1 b2
      rw [eqBy_drop hz hu] at hI
      simp -implicitDefEqProofs only [go_sem, reduceIte, Nat.reduceEqDiff, hz, hu, encE, storeA, setSeg, List.drop_zero, List.cons_append, List.nil_append, List.append_nil, List.drop_succ_cons, List.drop_nil, ghK, doGh, and_self]
      refine CALL_of r1 ?_
      cases hs : sameE z u with
      | false =>
        simp -implicitDefEqProofs only [go_sem, reduceIte, Nat.reduceEqDiff]
        rw [hI, hs]; rfl
      | true =>
        simp -implicitDefEqProofs only [go_sem, reduceIte, Nat.reduceEqDiff, one_cast, wadd (show i + 1 ≤ 9000000000000000000 by omega)]
        refine ⟨hlt, ?_⟩
        rw [hI, hs]; rfl
    · have hlt : ¬ i < x.l.length := by simpa using h
      simp -implicitDefEqProofs only [go_sem, reduceIte, Nat.reduceEqDiff]
      rw [hI, List.drop_eq_nil_of_le (by omega), List.drop_eq_nil_of_le (by omega)]; rfl
  · have : eqBy sameE x.l y.l = false := eqBy_len (by omega)
    simp -implicitDefEqProofs only [go_sem, reduceIte, Nat.reduceEqDiff, s_slices_EqualFunc_api_Edge_api_Edge_api_Edge_api_Edge, lenA_sl, he, this]
end Go.Ab
end PSp25

section PSp26
/- Contracts, part 26: are two graphs the same; the law GraphChecks. -/
set_option linter.unusedVariables false
set_option linter.unusedSimpArgs false
set_option maxHeartbeats 4000000
namespace Go.Ab
open Go.Proofs

theorem eqBA_self (b : Bool) : eqBA false (vB b) (vB b) = some (vB true) := by cases b <;> rfl
theorem BIG.of {n : Nat} (h : n ≤ 1000000000) : BIG n := by unfold BIG; omega
theorem graphSame_ok (g h : FGraph) (hs : smG g) : PCalls Try.prog n_graph_Same [aggP (encG g), aggP (encG h)] (vB (sameG g h)) := by
  refine p_graph_Same (Nat.le_of_ble_eq_true rfl) rfl rfl ?_
  have r1 := eqFuncN_ok g.nodes h.nodes (.of hs.1) (fun a ha => ⟨.of (hs.2.2.1 a ha).1, .of (hs.2.2.1 a ha).2⟩)
  have r2 := eqFuncE_ok g.edges h.edges (.of hs.2.1) (fun a ha => ⟨.of (hs.2.2.2 a ha).1, .of (hs.2.2.2 a ha).2⟩)
  obtain ⟨x, y⟩ := g
  obtain ⟨x', y'⟩ := h
  clear hs
  unfold sameG
  simp only at r1 r2 ⊢
  cases h1 : eqBy sameN x.l x'.l <;> cases h2 : eqBy sameE y.l y'.l <;> repeat' (first | simp -implicitDefEqProofs only [go_sem, reduceIte, Nat.reduceEqDiff, s_graph_Same, encG, Bool.and_true, Bool.and_false, *] | refine CALL_of r1 ?_ | refine CALL_of r2 ?_ | refine GRD_true (fun _ => ?_) (fun _ => ?_) | refine GRDD_true (fun _ => ?_) (fun _ => ?_) | refine condW_split (fun _ => ?_) (fun _ => ?_))
theorem refSame_ok (g h : FGraph) (hs : smG g) : PCalls Try.prog n_pleachref26_Same [aggP (encG g), aggP (encG h)] (vB (sameG g h)) := by
  refine p_pleachref26_Same (Nat.le_of_ble_eq_true rfl) rfl rfl ?_
  obtain ⟨x, y⟩ := g
  obtain ⟨x', y'⟩ := h
  obtain ⟨s1, s2, s3, s4⟩ := hs
  simp only at s1 s2 s3 s4
  unfold sameG
  by_cases hl : (x.l.length : Int) = (x'.l.length : Int)
  case neg =>
    have hf : eqBy sameN x.l x'.l = false := eqBy_len (by omega)
    simp -implicitDefEqProofs only [go_sem, reduceIte, Nat.reduceEqDiff, s_pleachref26_Same, encG, lenA_sl, hl, hf, Bool.false_and]
  by_cases hl' : (y.l.length : Int) = (y'.l.length : Int)
  case neg =>
    have hf : eqBy sameE y.l y'.l = false := eqBy_len (by omega)
    simp -implicitDefEqProofs only [go_sem, reduceIte, Nat.reduceEqDiff, s_pleachref26_Same, encG, lenA_sl, hl, hl', hf, Bool.and_false]
  simp -implicitDefEqProofs only [go_sem, reduceIte, Nat.reduceEqDiff, s_pleachref26_Same, encG, lenA_sl, hl, hl']
  refine loop_up x.l.length 0 (fun i => [(2, .c (.p (.ptr [x.pv 3 encN, y.pv 5 encE]))), (3, .c (.p (.ptr [x'.pv 3 encN, y'.pv 5 encE]))), (5, vI .i64 i)]) (fun i => eqBy sameN x.l x'.l = eqBy sameN (x.l.drop i) (x'.l.drop i)) (by omega) (by simp -implicitDefEqProofs only [go_sem, reduceIte, Nat.reduceEqDiff]; try rfl) rfl rfl ?_
  intro i hi hI
  simp -implicitDefEqProofs only [go_sem, reduceIte, Nat.reduceEqDiff, b_pleachref26_Same_0]
  refine condW_split (fun h => ?_) (fun h => ?_)
  · have hlt : i < x.l.length := by simpa using h
    obtain ⟨z, hz⟩ : ∃ z, x.l[i]? = some z := ⟨_, List.getElem?_eq_getElem hlt⟩
    obtain ⟨u, hu⟩ : ∃ u, x'.l[i]? = some u := ⟨_, List.getElem?_eq_getElem (by omega)⟩
    obtain ⟨b1, b2⟩ := s3 z (List.mem_of_getElem? hz)
    have r1 := refSameN_ok z u (.of b1) (.of b2)
    rw [eqBy_drop hz hu] at hI
    simp -implicitDefEqProofs only [go_sem, reduceIte, Nat.reduceEqDiff, hz, hu, encN]
    refine CALLD_of r1 ?_
    cases hs : sameN z u with
    | false =>
      have hf : eqBy sameN x.l x'.l = false := by rw [hI, hs]; rfl
      simp -implicitDefEqProofs only [go_sem, reduceIte, Nat.reduceEqDiff, hf, Bool.false_and]
    | true =>
      simp -implicitDefEqProofs only [go_sem, reduceIte, Nat.reduceEqDiff, one_cast, wadd (show i + 1 ≤ 9000000000000000000 by omega)]
      refine ⟨hlt, ?_⟩
      rw [hI, hs]; rfl
  · have hlt : ¬ i < x.l.length := by simpa using h
    have hz : eqBy sameN x.l x'.l = true := by rw [hI, List.drop_eq_nil_of_le (by omega), List.drop_eq_nil_of_le (by omega)]; rfl
    clear hI
    simp -implicitDefEqProofs only [go_sem, reduceIte, Nat.reduceEqDiff, hz, Bool.true_and]
    refine loop_up y.l.length 0 (fun i => [(2, .c (.p (.ptr [x.pv 3 encN, y.pv 5 encE]))), (3, .c (.p (.ptr [x'.pv 3 encN, y'.pv 5 encE]))), (6, vI .i64 i)]) (fun i => eqBy sameE y.l y'.l = eqBy sameE (y.l.drop i) (y'.l.drop i)) (by omega) (by simp -implicitDefEqProofs only [go_sem, reduceIte, Nat.reduceEqDiff]; try rfl) rfl rfl ?_
    intro i hi hI
    simp -implicitDefEqProofs only [go_sem, reduceIte, Nat.reduceEqDiff, b_pleachref26_Same_2]
    refine condW_split (fun h => ?_) (fun h => ?_)
    · have hlt : i < y.l.length := by simpa using h
      obtain ⟨z, hz⟩ : ∃ z, y.l[i]? = some z := ⟨_, List.getElem?_eq_getElem hlt⟩
      obtain ⟨u, hu⟩ : ∃ u, y'.l[i]? = some u := ⟨_, List.getElem?_eq_getElem (by omega)⟩
      obtain ⟨b1, b2⟩ := s4 z (List.mem_of_getElem? hz)
      have r1 := refSameE_ok z u (.of b1) (.of b2)
      rw [eqBy_drop hz hu] at hI
      simp -implicitDefEqProofs only [go_sem, reduceIte, Nat.reduceEqDiff, hz, hu, encE]
      refine CALLD_of r1 ?_
      cases hs : sameE z u with
      | false =>
        have hf : eqBy sameE y.l y'.l = false := by rw [hI, hs]; rfl
        simp -implicitDefEqProofs only [go_sem, reduceIte, Nat.reduceEqDiff, hf, Bool.false_and]
      | true =>
        simp -implicitDefEqProofs only [go_sem, reduceIte, Nat.reduceEqDiff, one_cast, wadd (show i + 1 ≤ 9000000000000000000 by omega)]
        refine ⟨hlt, ?_⟩
        rw [hI, hs]; rfl
    · have hlt : ¬ i < y.l.length := by simpa using h
      simp -implicitDefEqProofs only [go_sem, reduceIte, Nat.reduceEqDiff]
      rw [hI, List.drop_eq_nil_of_le (by omega), List.drop_eq_nil_of_le (by omega)]; rfl

theorem smG_few {g : FGraph} (hf : fewG g = true) : smG g := by
  unfold fewG at hf
  simp only [Bool.and_eq_true, Bool.not_eq_true', decide_eq_false_iff_not, decide_eq_true_eq] at hf
  obtain ⟨h1, h2, h3⟩ := hf
  refine ⟨by omega, by omega, fun n hn => ?_, fun n hn => ?_⟩
  · have h4 := le_sum nodeW hn
    obtain ⟨c1, c2⟩ := weightN_few (l := n.labels.l) (p := n.props.l) (by have h5 : nodeW n = m5 n.id + weightN n.labels.l n.props.l := rfl; omega)
    exact ⟨by omega, by omega⟩
  · have h4 := le_sum edgeW hn
    obtain ⟨c1, c2⟩ := weightN_few (l := n.labels.l) (p := n.props.l) (by have h5 : edgeW n = m5 n.id + m5 n.src + m5 n.dst + weightN n.labels.l n.props.l := rfl; omega)
    exact ⟨by omega, by omega⟩
theorem smG_copy {g : FGraph} (h : smG g) : smG (copyG g) := by
  obtain ⟨h1, h2, h3, h4⟩ := h
  have e1 : (copyG g).nodes.l = g.nodes.l.map cN := rfl
  have e2 : (copyG g).edges.l = g.edges.l.map cE := rfl
  refine ⟨by rw [e1]; simpa using h1, by rw [e2]; simpa using h2, fun n hn => ?_, fun n hn => ?_⟩
  · rw [e1] at hn
    obtain ⟨m, hm, rfl⟩ := List.mem_map.1 hn
    exact h3 m hm
  · rw [e2] at hn
    obtain ⟨m, hm, rfl⟩ := List.mem_map.1 hn
    exact h4 m hm
theorem graphChecks_ok (g h : FGraph) (hg : strG g) : PCalls Try.prog n_pleachlaw26_GraphChecks [aggP (encG g), aggP (encG h)] (vB true) := by
  refine p_pleachlaw26_GraphChecks (Nat.le_of_ble_eq_true rfl) rfl rfl ?_
  simp -implicitDefEqProofs only [go_sem, reduceIte, Nat.reduceEqDiff, s_pleachlaw26_GraphChecks, encG]
  refine CALL_of (few_ok g) ?_
  cases hf : fewG g with
  | false =>
    simp -implicitDefEqProofs only [go_sem, reduceIte, Nat.reduceEqDiff]
    refine CALL_of awake26_ok ?_
    simp -implicitDefEqProofs only [go_sem, reduceIte, Nat.reduceEqDiff]
  | true =>
  simp -implicitDefEqProofs only [go_sem, reduceIte, Nat.reduceEqDiff]
  refine CALL_of (few_ok h) ?_
  cases hfh : fewG h with
  | false =>
    simp -implicitDefEqProofs only [go_sem, reduceIte, Nat.reduceEqDiff]
    refine CALL_of awake26_ok ?_
    simp -implicitDefEqProofs only [go_sem, reduceIte, Nat.reduceEqDiff]
  | true =>
  have hm := smG_few hf
  simp -implicitDefEqProofs only [go_sem, reduceIte, Nat.reduceEqDiff]
  refine CALLD_of (check_ok g) ?_
  simp -implicitDefEqProofs only [go_sem, reduceIte, Nat.reduceEqDiff]
  refine CALLD_of (refWrong_ok g (szG_few hg hf)) ?_
  simp -implicitDefEqProofs only [go_sem, reduceIte, Nat.reduceEqDiff]
  refine CALLD_of (graphCopy_ok g hm) ?_
  simp -implicitDefEqProofs only [go_sem, reduceIte, Nat.reduceEqDiff]
  refine CALLD_of (refSame_ok (copyG g) g (smG_copy hm)) ?_
  simp -implicitDefEqProofs only [go_sem, reduceIte, Nat.reduceEqDiff, sameG_copy]
  refine CALLD_of (graphSame_ok g h hm) ?_
  simp -implicitDefEqProofs only [go_sem, reduceIte, Nat.reduceEqDiff]
  refine CALLD_of (refSame_ok g h hm) ?_
  simp -implicitDefEqProofs only [go_sem, reduceIte, Nat.reduceEqDiff, eqBA_self]
  refine CALLD_of (graphSame_ok g g hm) ?_
  simp -implicitDefEqProofs only [go_sem, reduceIte, Nat.reduceEqDiff, sameG_refl]
  refine CALLD_of awake26_ok ?_
  simp -implicitDefEqProofs only [go_sem, reduceIte, Nat.reduceEqDiff]
end Go.Ab
end PSp26

section PSp20
/- Contracts, part 20: a reading of memory as values that are never written. -/
set_option linter.unusedVariables false
set_option linter.unusedSimpArgs false
namespace Go.Ab
open Go.Proofs Go.ChangeShapes

/-- The places that lie in a world. -/
def below (w : World) : Imm := fun b _ => b < w.heap.size
def RepD (w : World) (l : List PV) (cs : List Value) : Prop := cs.length = l.length ∧ ∀ (j : Nat) (c : PV) (v : Value), l[j]? = some c → cs[j]? = some v → RepP w (below w) c v
theorem RepD.one {w : World} {c : PV} {v : Value} (h : RepP w (below w) c v) : RepD w [c] [v] := ⟨rfl, fun j c' v' h1 h2 => by
  cases j with
  | zero => cases h1; cases h2; exact h
  | succ j => simp at h1⟩
theorem RepD.append {w : World} {a b : List PV} {cs ds : List Value} (h : RepD w a cs) (k : RepD w b ds) : RepD w (a ++ b) (cs ++ ds) := by
  refine ⟨by simp [h.1, k.1], fun j c v h1 h2 => ?_⟩
  by_cases hj : j < a.length
  · rw [List.getElem?_append_left hj] at h1
    rw [List.getElem?_append_left (by rw [h.1]; exact hj)] at h2
    exact h.2 j c v h1 h2
  · rw [List.getElem?_append_right (by omega)] at h1
    rw [List.getElem?_append_right (by rw [h.1]; omega), h.1] at h2
    exact k.2 _ c v h1 h2
theorem RepD.glue {w : World} {a b : List PV} {cs : List Value} {o k m : Nat} (h : RepD w a ((cs.drop o).take k)) (h' : RepD w b ((cs.drop (o + k)).take m)) : RepD w (a ++ b) ((cs.drop o).take (k + m)) := by
  rw [List.take_add, List.drop_drop]
  exact h.append h'
theorem RepD.whole {w : World} {a : List PV} {cs : List Value} {k : Nat} (hl : cs.length = k) (h : RepD w a ((cs.drop 0).take k)) : RepD w a cs := by
  rw [List.drop_zero, List.take_of_length_le (by omega)] at h
  exact h

/-- Each reading of type t is one of these. -/
def Dec (P : Program) (t n : Nat) {α : Type} (enc : α → List PV) (ok : α → Prop) : Prop :=
  P.cellsOf t = n ∧ (∀ a, (enc a).length = n) ∧ ∀ (H : Type) (e : TypeId × Value → H) (w : World) (fuel : Nat) (cs : List Value) (x : DataW H × List MemPlace),
    DataW.trod e P w 0 (fun _ => true) true fuel t cs = some x → ∃ a, ok a ∧ RepD w (enc a) cs

theorem dec_int {P : Program} {t : Nat} {k : IntKind} (ht : P.underlying t = some (.int k)) (hc : P.cellsOf t = 1) : Dec P t 1 (fun n : Int => [.int k n]) (fun n => (Lit.int k n).wf = true) := by
  refine ⟨hc, fun _ => rfl, fun H e w fuel cs x h => ?_⟩
  obtain ⟨n, rfl, _, hw⟩ := DataW.trod_int ht h
  exact ⟨n, hw, .one (.int k n)⟩
theorem dec_str {P : Program} {t : Nat} (ht : P.underlying t = some .string) (hc : P.cellsOf t = 1) : Dec P t 1 encS szS := by
  refine ⟨hc, fun _ => rfl, fun H e w fuel cs x h => ?_⟩
  obtain ⟨s, rfl, _, hw⟩ := DataW.trod_string ht h
  refine ⟨s.data.toList, ?_, .one ?_⟩
  · unfold szS
    have h1 : s.data.toList.length = s.size := Array.length_toList
    have h2 : maxLen = 9223372036854775807 := rfl
    omega
  · have := RepP.str (w := w) (F := below w) s.data.toList
    simpa using this
theorem dec_bool {P : Program} {t : Nat} (ht : P.underlying t = some .bool) (hc : P.cellsOf t = 1) : Dec P t 1 (fun b : Bool => [.bool b]) (fun _ => True) := by
  refine ⟨hc, fun _ => rfl, fun H e w fuel cs x h => ?_⟩
  obtain ⟨b, rfl, _⟩ := DataW.trod_bool ht h
  exact ⟨b, trivial, .one (.bool b)⟩

theorem cell_lt {w : World} {a : Addr} {v : Value} (h : w.cell? a = some v) : a.block < w.heap.size ∧ a.spot = none := by
  unfold World.cell? at h
  split at h
  · rename_i c t f hb
    split at h
    · cases h
    · rename_i hs
      refine ⟨?_, by simpa using hs⟩
      exact (Array.getElem?_eq_some_iff.1 hb).1
  · cases h
theorem add_add' (a : Addr) (i : Nat) (h : a.spot = none) : a.add i = ⟨a.block, a.off + i, none⟩ := by
  unfold Addr.add
  obtain ⟨b, o, s⟩ := a
  simp only at h
  subst h
  split
  · rename_i h0; subst h0; rfl
  · rfl

theorem dec_slice {P : Program} {t e n : Nat} {α : Type} [Inhabited α] {enc : α → List PV} {ok : α → Prop} (ht : P.underlying t = some (.slice e)) (hc : P.cellsOf t = 1) (hn : 0 < n) (h : Dec P e n enc ok) :
    Dec P t 1 (fun x : Sl α => [x.pv n enc]) (fun x => x.l.length ≤ 9223372036854775807 ∧ ∀ a ∈ x.l, ok a) := by
  obtain ⟨hce, hlen, hd⟩ := h
  refine ⟨hc, fun _ => rfl, fun H ec w fuel cs x hx => ?_⟩
  rcases Go.Deep.open_slice ht hx with ⟨rfl, _⟩ | ⟨a, len, cap, m, nn, D, Pl, rfl, hb, hl, hm, hmm, _, hel⟩
  · exact ⟨⟨none, [], fun _ => rfl⟩, ⟨by simp, by simp⟩, .one .nil⟩
  rw [hce] at hel
  simp only [if_true] at hmm
  subst hmm
  have hel' : ∀ i, i < len → ∃ (y : α × List Value), ok y.1 ∧ RepD w (enc y.1) y.2 ∧ ∀ j, j < n → w.cell? ((a.add (i * n)).add j) = y.2[j]? := fun i hi => by
    obtain ⟨cs', h1, h2⟩ := hel i (by omega)
    obtain ⟨_, _, h3⟩ := World.cells?_some h1
    obtain ⟨y, hy, hr⟩ := hd H ec w nn cs' _ h2
    exact ⟨(y, cs'), hy, hr, h3⟩
  obtain ⟨f, hf⟩ := Go.Deep.choose_lt hel'
  have hmax : maxLen = 9223372036854775807 := rfl
  refine ⟨⟨some false, (List.range len).map fun i => (f i).1, fun h => by cases h⟩, ⟨by simp; omega, fun y hy => ?_⟩, .one ?_⟩
  · obtain ⟨i, hi, rfl⟩ := List.mem_map.1 hy
    exact (hf i (List.mem_range.1 hi)).1
  have hget : ∀ i, i < len → (((List.range len).map fun i => (f i).1).map enc)[i]? = some (enc (f i).1) := fun i hi => by simp [hi]
  have hcell : ∀ i j, i < len → j < n → ∃ v, w.cell? ((a.add (i * n)).add j) = some v ∧ (f i).2[j]? = some v := fun i j hi hj => by
    obtain ⟨_, h2, h3⟩ := hf i hi
    have : j < (f i).2.length := by rw [h2.1, hlen]; exact hj
    exact ⟨_, by rw [h3 j hj]; exact List.getElem?_eq_getElem this, List.getElem?_eq_getElem this⟩
  have hsp : ∀ i j, i < len → j < n → a.spot = none ∧ (a.add (i * n)).add j = ⟨a.block, a.off + (i * n + j), none⟩ := fun i j hi hj => by
    have h0 : a.spot = none := by
      obtain ⟨v, hv, _⟩ := hcell 0 0 (by omega) hn
      simp only [Nat.zero_mul] at hv
      exact (cell_lt (a := (a.add 0).add 0) hv).2
    refine ⟨h0, ?_⟩
    rw [add_add' a _ h0, add_add' _ _ rfl, Nat.add_assoc]
  have e : len = (((List.range len).map fun i => (f i).1).map enc).length := by simp
  show RepP w (below w) (.sl n false (((List.range len).map fun i => (f i).1).map enc)) (.slice (some a) len m)
  have key := RepP.sl (w := w) (F := below w) n false (((List.range len).map fun i => (f i).1).map enc) a m (fun k => (f (k / n)).2.getD (k % n) undef) (by simpa using hl) (fun h => by cases h)
    (fun i y hy => by
      obtain ⟨z, _, rfl⟩ := List.mem_map.1 (List.mem_of_getElem? hy)
      exact hlen z)
    (fun k hk => by
      have hk' : k < len * n := by simpa using hk
      have hi : k / n < len := (Nat.div_lt_iff_lt_mul hn).2 hk'
      have hj : k % n < n := Nat.mod_lt _ hn
      have hkk : k / n * n + k % n = k := by rw [Nat.mul_comm]; exact Nat.div_add_mod k n
      obtain ⟨v, hv, hv2⟩ := hcell _ _ hi hj
      obtain ⟨h0, ha⟩ := hsp _ _ hi hj
      rw [ha, hkk] at hv
      refine ⟨h0, ?_, (cell_lt hv).1⟩
      rw [hv, List.getD, hv2]; rfl)
    (fun i j y c hy hc => by
      have hi : i < len := by
        have := (List.getElem?_eq_some_iff.1 hy).1
        simpa using this
      rw [hget i hi] at hy
      cases hy
      have hj : j < n := by rw [← hlen (f i).1]; exact (List.getElem?_eq_some_iff.1 hc).1
      have h1 : (i * n + j) / n = i := by rw [Nat.mul_comm, Nat.mul_add_div hn, Nat.div_eq_of_lt hj, Nat.add_zero]
      have h2 : (i * n + j) % n = j := by rw [Nat.mul_comm, Nat.mul_add_mod, Nat.mod_eq_of_lt hj]
      obtain ⟨v, _, hv2⟩ := hcell _ _ hi hj
      simp only [h1, h2, List.getD, hv2, Option.getD_some]
      exact (hf i hi).2.1.2 j c v hc hv2)
  rw [← e] at key
  exact key
/-- An argument, out of its cells. -/
theorem arg_agg {w : World} {l : List PV} {v : Value} {β : Nat → Nat} {H : Heap} {nx : Nat} (h : RepD w l v.cells.toList) (hl : l.length ≠ 1) : RepA w (below w) β H nx (aggP l) v := by
  obtain ⟨h1, h2⟩ := h
  cases v with
  | agg cs =>
    refine .agg _ _ (by simpa [Value.cells] using h1) fun j c x hc hx => ?_
    simp only [List.getElem?_map, Option.map_eq_some_iff] at hc
    obtain ⟨p, hp, rfl⟩ := hc
    exact .p p x (h2 j p x hp (by simpa [Value.cells] using hx))
  | _ => exact absurd (by simpa [Value.cells] using h1.symm) hl
end Go.Ab
end PSp20

section PSp21
/- Contracts, part 21: readings of properties, nodes, edges, ops, graphs. -/
set_option linter.unusedVariables false
set_option linter.unusedSimpArgs false
set_option maxRecDepth 10000
namespace Go.Ab
open Go.Proofs Go.ChangeShapes

def fld (nm : String) (t o b : Nat) : Field := { name := nm, type := t, offset := o, embedded := false, tag := "", pkgPath := "", byteOffset := b }
/-- A field's reading. -/
theorem field_dec {P : Program} {t : Nat} {n : Nat} {α : Type} {enc : α → List PV} {ok : α → Prop} (h : Dec P t n enc ok) {H : Type} {e : TypeId × Value → H} {w : World} {fuel o : Nat} {cs : List Value} {xs : List (DataW H × List MemPlace)} {i : Nat}
    (hx : DataW.trod e P w 0 (fun _ => true) true fuel t ((cs.drop o).take (P.cellsOf t)) = xs[i]?) (hi : i < xs.length) : ∃ a, ok a ∧ RepD w (enc a) ((cs.drop o).take n) := by
  rw [List.getElem?_eq_getElem hi] at hx
  have := h.2.2 H e w fuel _ _ hx
  rw [h.1] at this
  exact this

theorem decInt : Dec Try.prog t_int 1 (fun n : Int => [.int .i64 n]) (fun n => (Lit.int .i64 n).wf = true) := dec_int (by kernel_rfl) (by kernel_rfl)
theorem decStr : Dec Try.prog t_string 1 encS szS := dec_str (by kernel_rfl) (by kernel_rfl)
instance : Inhabited MVal := ⟨⟨0, 0, []⟩⟩
instance : Inhabited MProp := ⟨⟨[], default⟩⟩
instance {α : Type} : Inhabited (Sl α) := ⟨⟨none, [], fun _ => rfl⟩⟩
instance : Inhabited FNode := ⟨⟨[], default, default⟩⟩
instance : Inhabited FEdge := ⟨⟨[], [], [], default, default⟩⟩
instance : Inhabited MOp := ⟨⟨0, [], [], [], [], default⟩⟩
def okInt (n : Int) : Prop := (Lit.int .i64 n).wf = true
def okV (v : MVal) : Prop := okInt v.kind ∧ okInt v.num ∧ szS v.text
def okP (p : MProp) : Prop := szS p.key ∧ okV p.val
def okSl {α : Type} (ok : α → Prop) (x : Sl α) : Prop := x.l.length ≤ 9223372036854775807 ∧ ∀ a ∈ x.l, ok a
def okN (n : FNode) : Prop := szS n.id ∧ okSl szS n.labels ∧ okSl okP n.props
def okE (n : FEdge) : Prop := szS n.id ∧ szS n.src ∧ szS n.dst ∧ okSl szS n.labels ∧ okSl okP n.props
def okO (o : MOp) : Prop := okInt o.kind ∧ szS o.id ∧ szS o.src ∧ szS o.dst ∧ szS o.key ∧ okV o.val
def okG (g : FGraph) : Prop := okSl okN g.nodes ∧ okSl okE g.edges

theorem decV : Dec Try.prog t_api_Value 3 MVal.ps okV := by
  refine ⟨by kernel_rfl, fun _ => rfl, fun H e w fuel cs x h => ?_⟩
  obtain ⟨xs, n, _, _, hl, hs, hf⟩ := DataW.trod_struct (fs := #[fld "Kind" t_int 0 0, fld "Num" t_int 1 8, fld "Text" t_string 2 16]) (by kernel_rfl) h
  rw [show Try.prog.cellsOf t_api_Value = 3 by kernel_rfl] at hl
  simp only [List.size_toArray, List.length_cons, List.length_nil] at hs
  obtain ⟨a, ha, ra⟩ := field_dec decInt (hf 0 _ rfl) (by omega)
  obtain ⟨b, hb, rb⟩ := field_dec decInt (hf 1 _ rfl) (by omega)
  obtain ⟨c, hc, rc⟩ := field_dec decStr (hf 2 _ rfl) (by omega)
  exact ⟨⟨a, b, c⟩, ⟨ha, hb, hc⟩, ((ra.glue rb).glue rc).whole hl⟩
theorem decP : Dec Try.prog t_api_Prop 4 encP okP := by
  refine ⟨by kernel_rfl, fun _ => rfl, fun H e w fuel cs x h => ?_⟩
  obtain ⟨xs, n, _, _, hl, hs, hf⟩ := DataW.trod_struct (fs := #[fld "Key" t_string 0 0, fld "Value" t_api_Value 1 16]) (by kernel_rfl) h
  rw [show Try.prog.cellsOf t_api_Prop = 4 by kernel_rfl] at hl
  simp only [List.size_toArray, List.length_cons, List.length_nil] at hs
  obtain ⟨a, ha, ra⟩ := field_dec decStr (hf 0 _ rfl) (by omega)
  obtain ⟨b, hb, rb⟩ := field_dec decV (hf 1 _ rfl) (by omega)
  exact ⟨⟨a, b⟩, ⟨ha, hb⟩, (ra.glue rb).whole hl⟩
theorem decSS : Dec Try.prog t_s_string 1 (fun x : Sl Str => [x.pv 1 encS]) (okSl szS) := dec_slice (by kernel_rfl) (by kernel_rfl) (by decide) decStr
theorem decSP : Dec Try.prog t_s_api_Prop 1 (fun x : Sl MProp => [x.pv 4 encP]) (okSl okP) := dec_slice (by kernel_rfl) (by kernel_rfl) (by decide) decP
theorem decN : Dec Try.prog t_api_Node 3 encN okN := by
  refine ⟨by kernel_rfl, fun _ => rfl, fun H e w fuel cs x h => ?_⟩
  obtain ⟨xs, n, _, _, hl, hs, hf⟩ := DataW.trod_struct (fs := #[fld "Id" t_string 0 0, fld "Labels" t_s_string 1 16, fld "Props" t_s_api_Prop 2 40]) (by kernel_rfl) h
  rw [show Try.prog.cellsOf t_api_Node = 3 by kernel_rfl] at hl
  simp only [List.size_toArray, List.length_cons, List.length_nil] at hs
  obtain ⟨a, ha, ra⟩ := field_dec decStr (hf 0 _ rfl) (by omega)
  obtain ⟨b, hb, rb⟩ := field_dec decSS (hf 1 _ rfl) (by omega)
  obtain ⟨c, hc, rc⟩ := field_dec decSP (hf 2 _ rfl) (by omega)
  exact ⟨⟨a, b, c⟩, ⟨ha, hb, hc⟩, ((ra.glue rb).glue rc).whole hl⟩
theorem decE : Dec Try.prog t_api_Edge 5 encE okE := by
  refine ⟨by kernel_rfl, fun _ => rfl, fun H e w fuel cs x h => ?_⟩
  obtain ⟨xs, n, _, _, hl, hs, hf⟩ := DataW.trod_struct (fs := #[fld "Id" t_string 0 0, fld "From" t_string 1 16, fld "To" t_string 2 32, fld "Labels" t_s_string 3 48, fld "Props" t_s_api_Prop 4 72]) (by kernel_rfl) h
  rw [show Try.prog.cellsOf t_api_Edge = 5 by kernel_rfl] at hl
  simp only [List.size_toArray, List.length_cons, List.length_nil] at hs
  obtain ⟨a, ha, ra⟩ := field_dec decStr (hf 0 _ rfl) (by omega)
  obtain ⟨b, hb, rb⟩ := field_dec decStr (hf 1 _ rfl) (by omega)
  obtain ⟨c, hc, rc⟩ := field_dec decStr (hf 2 _ rfl) (by omega)
  obtain ⟨d, hd, rd⟩ := field_dec decSS (hf 3 _ rfl) (by omega)
  obtain ⟨f, hf', rf⟩ := field_dec decSP (hf 4 _ rfl) (by omega)
  exact ⟨⟨a, b, c, d, f⟩, ⟨ha, hb, hc, hd, hf'⟩, ((((ra.glue rb).glue rc).glue rd).glue rf).whole hl⟩
theorem decO : Dec Try.prog t_api_Op 8 encO okO := by
  refine ⟨by kernel_rfl, fun _ => rfl, fun H e w fuel cs x h => ?_⟩
  obtain ⟨xs, n, _, _, hl, hs, hf⟩ := DataW.trod_struct (fs := #[fld "Kind" t_int 0 0, fld "Id" t_string 1 8, fld "From" t_string 2 24, fld "To" t_string 3 40, fld "Key" t_string 4 56, fld "Value" t_api_Value 5 72]) (by kernel_rfl) h
  rw [show Try.prog.cellsOf t_api_Op = 8 by kernel_rfl] at hl
  simp only [List.size_toArray, List.length_cons, List.length_nil] at hs
  obtain ⟨a, ha, ra⟩ := field_dec decInt (hf 0 _ rfl) (by omega)
  obtain ⟨b, hb, rb⟩ := field_dec decStr (hf 1 _ rfl) (by omega)
  obtain ⟨c, hc, rc⟩ := field_dec decStr (hf 2 _ rfl) (by omega)
  obtain ⟨d, hd, rd⟩ := field_dec decStr (hf 3 _ rfl) (by omega)
  obtain ⟨f, hf', rf⟩ := field_dec decStr (hf 4 _ rfl) (by omega)
  obtain ⟨g, hg, rg⟩ := field_dec decV (hf 5 _ rfl) (by omega)
  exact ⟨⟨a, b, c, d, f, g⟩, ⟨ha, hb, hc, hd, hf', hg⟩, (((((ra.glue rb).glue rc).glue rd).glue rf).glue rg).whole hl⟩
theorem decSN : Dec Try.prog t_s_api_Node 1 (fun x : Sl FNode => [x.pv 3 encN]) (okSl okN) := dec_slice (by kernel_rfl) (by kernel_rfl) (by decide) decN
theorem decSE : Dec Try.prog t_s_api_Edge 1 (fun x : Sl FEdge => [x.pv 5 encE]) (okSl okE) := dec_slice (by kernel_rfl) (by kernel_rfl) (by decide) decE
theorem decSO : Dec Try.prog t_s_api_Op 1 (fun x : Sl MOp => [x.pv 8 encO]) (okSl okO) := dec_slice (by kernel_rfl) (by kernel_rfl) (by decide) decO
theorem decG : Dec Try.prog t_api_Graph 2 encG okG := by
  refine ⟨by kernel_rfl, fun _ => rfl, fun H e w fuel cs x h => ?_⟩
  obtain ⟨xs, n, _, _, hl, hs, hf⟩ := DataW.trod_struct (fs := #[fld "Nodes" t_s_api_Node 0 0, fld "Edges" t_s_api_Edge 1 24]) (by kernel_rfl) h
  rw [show Try.prog.cellsOf t_api_Graph = 2 by kernel_rfl] at hl
  simp only [List.size_toArray, List.length_cons, List.length_nil] at hs
  obtain ⟨a, ha, ra⟩ := field_dec decSN (hf 0 _ rfl) (by omega)
  obtain ⟨b, hb, rb⟩ := field_dec decSE (hf 1 _ rfl) (by omega)
  exact ⟨⟨a, b⟩, ⟨ha, hb⟩, (ra.glue rb).whole hl⟩
theorem okV.szS {v : MVal} (h : okV v) : Go.Ab.szS v.text := h.2.2
theorem okP.szP {p : MProp} (h : okP p) : Go.Ab.szP p := ⟨h.1, h.2.2.2⟩
theorem strG_of {g : FGraph} (h : okG g) : strG g :=
  ⟨fun n hn => ⟨(h.1.2 n hn).1, fun s hs => (h.1.2 n hn).2.1.2 s hs, fun p hp => ((h.1.2 n hn).2.2.2 p hp).szP⟩,
   fun n hn => ⟨(h.2.2 n hn).1, (h.2.2 n hn).2.1, (h.2.2 n hn).2.2.1, fun s hs => (h.2.2 n hn).2.2.2.1.2 s hs, fun p hp => ((h.2.2 n hn).2.2.2.2.2 p hp).szP⟩⟩
theorem szO_of {o : MOp} (h : okO o) : szO o := ⟨h.2.1, h.2.2.1, h.2.2.2.1, h.2.2.2.2.1, h.2.2.2.2.2.szS⟩

/-- What a call with pure arguments leaves: what the row asks. -/
theorem PCalls.row {P : Program} {f : Nat} {args : List AV} {r : AV} (h : PCalls P f args r) {w : World} {vals : Array Value} (hl : vals.size = args.length)
    (hv : ∀ (j : Nat) (a : AV) (v : Value), args[j]? = some a → vals[j]? = some v → RepA w (below w) id (fun _ => none) 0 a v) :
    Calls P f vals w fun e w' => ∃ v F', e = .returned v ∧ RepA w' F' id (fun _ => none) 0 r v ∧ Go.RowKit.Below w.heap.size w w' :=
  (h.2.2.2 w (below w) vals (fun b o h => h) hl hv).mono fun e w' ⟨v, F', he, hr, hx⟩ => ⟨v, F', he, hr, ⟨hx.os, hx.tape, hx.output, hx.size, hx.old⟩⟩
theorem vB_inv {w : World} {F : Imm} {b : Bool} {v : Value} (h : RepA w F id (fun _ => none) 0 (vB b) v) : v = .bool b := by
  cases h with
  | c _ _ h => cases h with
    | p _ _ h => cases h; rfl
end Go.Ab
end PSp21

section PSp22
/- Contracts, part 22: the row of a law, out of its contract. -/
set_option linter.unusedVariables false
set_option linter.unusedSimpArgs false
namespace Go.Ab
open Go.Proofs Go.ChangeShapes

theorem trodAll_below {H : Type} {enc : TypeId × Value → H} {P : Program} (hl : laidOutB P = true) {W W' : World} (hb : Go.RowKit.Below W.heap.size W W') :
    ∀ {ts : List TypeId} {vs : List Value} {ds : List (DataW H)} {ps : List MemPlace}, (∀ t ∈ ts, P.readableRec t = true ∧ t < P.types.size) → (∀ p ∈ ps, p.block < W.heap.size) →
      DataW.TrodAll enc P W 0 (fun _ => true) true ts vs ds ps → DataW.TrodAll enc P W' 0 (fun b => decide (b < W.heap.size)) true ts vs ds ps
  | [], vs, ds, ps, _, _, h => by
    obtain ⟨rfl, rfl, rfl⟩ := trodAll_nil h
    exact rfl
  | t :: ts, vs, ds, ps, ht, hp, h => by
    obtain ⟨v, vs, d, ds, p, q, rfl, rfl, rfl, h1, h2⟩ := trodAll_cons h
    exact ⟨p, q, Go.RowKit.Below.trod hl (ht t (by simp)).1 (ht t (by simp)).2 h1 hb (fun x hx => hp x (by simp [hx])), trodAll_below hl hb (fun t ht' => ht t (by simp [ht'])) (fun x hx => hp x (by simp [hx])) h2, rfl⟩

/-- A law's row: it answers true; the arguments read as they did. -/
theorem law_post {H : Type} {enc : TypeId × Value → H} {P : Program} (hl : laidOutB P = true) {f : Func} {s : ChangeSpec} {apart fresh handsOn : Bool} {W W' : World} {args : Array Value} {ds : List (DataW H)} {before : List MemPlace} {tb : Nat}
    (hv : s.vars = []) (hrt : f.resultTypes = #[tb]) (htb : P.underlying tb = some .bool) (hts : ∀ t ∈ f.params.toList, P.readableRec t = true ∧ t < P.types.size)
    (hW : DataW.Whole enc P f.params.toList s.vars apart W args.toList ds [] before) (hA : DataW.TrodAll enc P W 0 (fun _ => true) true f.params.toList args.toList ds before)
    (hs : (s.fn H ds).results = [.lit (.bool true)] ∧ (s.fn H ds).args = ds ∧ (s.fn H ds).vars = []) (hb : Go.RowKit.Below W.heap.size W W') :
    s.post enc P f apart fresh handsOn false W args (.bool true) W' := by
  have hlt : ∀ p ∈ before, p.block < W.heap.size := fun p hp => hW.lt p hp
  refine ⟨ds, [], before, [], before, [], hW, ?_, ?_, ?_, hb.frame _, fun h => by cases h⟩
  · rw [List.append_nil, hs.1, hrt]
    exact trodAll_mk1 (Go.RowKit.shut_bool htb true)
  · rw [List.append_nil, hs.2.1]
    exact trodAll_below hl hb hts hlt hA
  · rw [List.append_nil, hs.2.2, hv]
    rfl
end Go.Ab
end PSp22
