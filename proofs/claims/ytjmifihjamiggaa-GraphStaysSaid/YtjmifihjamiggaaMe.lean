/- Part 5 of the proof: it joins the texts Cp, BsN, BsE, Ch1, Sp23, Sp24, Sp25, Pl1, InN, DelN, WrN, InE, DelE, WrE, Ch2, Ch3, Ch4, Ch5, Pl2, Ch6, Ch7, Sp26, Pl3, Ab28, Sp27. -/
import Derived.Test.YtjmifihjamiggaaMd
import Derived.Shelf.Spec.SlicesInsert
section PCp
/- Contracts, part 18b: graph.Copy. -/
set_option linter.unusedVariables false
set_option linter.unusedSimpArgs false
set_option maxHeartbeats 4000000
namespace Go.Ab
open Go.Proofs

/-- The first i elements turned. -/
def mixL {α : Type} (f : α → α) (l : List α) (i : Nat) : List α := (l.take i).map f ++ l.drop i
theorem mixL_zero {α : Type} (f : α → α) (l : List α) : mixL f l 0 = l := rfl
theorem mixL_all {α : Type} (f : α → α) (l : List α) : mixL f l l.length = l.map f := by simp [mixL]
theorem mixL_len {α : Type} (f : α → α) (l : List α) (i : Nat) : (mixL f l i).length = l.length := by simp [mixL]; omega
theorem mixL_get {α : Type} {f : α → α} {l : List α} {i : Nat} {y : α} (h : l[i]? = some y) : (mixL f l i)[i]? = some y := by
  have hi := (List.getElem?_eq_some_iff.1 h).1
  unfold mixL
  rw [List.getElem?_append_right (by simp; omega)]
  simp [Nat.min_eq_left (Nat.le_of_lt hi), h]
theorem map_set_get {α β : Type} {f : α → β} {l : List α} {i : Nat} (h : i < l.length) (e : β) : ((l.map f).set i e)[i]? = some e := List.getElem?_set_self (by simpa using h)
theorem mixL_set {α : Type} {f : α → α} {l : List α} {i : Nat} {y : α} (h : l[i]? = some y) : (mixL f l i).set i (f y) = mixL f l (i + 1) := by
  have hi := (List.getElem?_eq_some_iff.1 h).1
  have hl : ((l.take i).map f).length = i := by simp; omega
  unfold mixL
  rw [List.set_append_right _ _ (by omega), hl, Nat.sub_self, List.take_add_one, h, drop_cons h]
  simp
def Sl.mapS {α : Type} (f : α → α) (x : Sl α) : Sl α := ⟨x.k, x.l.map f, fun h => by rw [x.ok h]; rfl⟩
theorem Sl.mapS_st {α : Type} (f : α → α) (x : Sl α) : (x.mapS f).st = x.st := by
  obtain ⟨k, l, ok⟩ := x
  cases k <;> simp [mapS, st]
theorem frz_mapS {α : Type} (f : α → α) (x : Sl α) (es : Nat) (enc : α → List PV) : frzPV x.st es ((x.l.map f).map enc) = (x.mapS f).clone.pv es enc := by
  rw [← Sl.mapS_st f x]; exact frz_st (x.mapS f) es enc
theorem st_of_get {α : Type} {x : Sl α} {i : Nat} {y : α} (h : x.l[i]? = some y) : x.st = .own := by
  cases hs : x.st with
  | own => rfl
  | _ => have := x.st_own (by rw [hs]; decide); rw [this] at h; simp at h

theorem add_self_eq (n k : Nat) (h : k ≠ 0) : (n + k = n) = False := eq_false (by omega)
theorem self_eq_add (n k : Nat) (h : k ≠ 0) : (n = n + k) = False := eq_false (by omega)
theorem lt_add_of (n k : Nat) (h : k ≠ 0) : (n < n + k) = True := eq_true (by omega)
theorem lt_add_add (n k m : Nat) : (n + k < n + m) = (k < m) := propext (by omega)
attribute [go_sem] add_self_eq self_eq_add lt_add_of lt_add_add ne_eq Nat.reduceEqDiff not_false_eq_true
def cN (n : FNode) : FNode := ⟨n.id, n.labels.clone, n.props.clone⟩
def cE (n : FEdge) : FEdge := ⟨n.id, n.src, n.dst, n.labels.clone, n.props.clone⟩
def copyG (g : FGraph) : FGraph := ⟨(g.nodes.mapS cN).clone, (g.edges.mapS cE).clone⟩
def smR (l : List Str) (p : List MProp) : Prop := l.length ≤ 1000000000 ∧ p.length ≤ 1000000000
def smG (g : FGraph) : Prop := g.nodes.l.length ≤ 1000000000 ∧ g.edges.l.length ≤ 1000000000 ∧ (∀ n ∈ g.nodes.l, smR n.labels.l n.props.l) ∧ ∀ n ∈ g.edges.l, smR n.labels.l n.props.l
abbrev rowN (st : Own) (l : List FNode) : Blk := .row 0 3 st (l.map fun y => (encN y).map .p)
abbrev rowE' (st : Own) (l : List FEdge) : Blk := .row 0 5 st (l.map fun y => (encE y).map .p)
theorem ids_pure {nx : Nat} (l : List PV) : (l.map CV.p).all (idsC nx) = true := by simp [idsC]
theorem idsB_N (nx : Nat) (st : Own) (l : List FNode) : idsB nx (rowN st l) = true := by simp [idsB, idsC]
theorem idsB_E (nx : Nat) (st : Own) (l : List FEdge) : idsB nx (rowE' st l) = true := by simp [idsB, idsC]

theorem natNN (n : Nat) : (0 ≤ (n : Int)) = True := eq_true (by omega)
theorem keepH_mono {nx m : Nat} {H : List (Nat × Blk)} (h : keepH nx H = H) (hm : nx ≤ m) : keepH m H = H := by
  unfold keepH at *
  rw [List.filter_eq_self] at *
  intro x hx
  have := h x hx
  simp at this ⊢
  omega
theorem idsC_mono {nx m : Nat} (hm : nx ≤ m) {c : CV} (h : idsC nx c = true) : idsC m c = true := by
  cases c <;> simp_all [idsC] <;> omega
theorem idsB_all {nx m : Nat} {H : List (Nat × Blk)} (h : H.all (fun x => idsB nx x.2) = true) (hm : nx ≤ m) : H.all (fun x => idsB m x.2) = true := by
  rw [List.all_eq_true] at *
  intro x hx
  have hx := h x hx
  obtain ⟨k, b⟩ := x
  cases b with
  | rsv => exact hx
  | row ver es st elems =>
    simp only [idsB, List.all_eq_true] at hx ⊢
    exact fun e he c hc => idsC_mono hm (hx e he c hc)
theorem idsB_N' (nx : Nat) (st : Own) (l : List FNode) : idsB nx (.row 0 3 st (List.map (fun y : FNode => [CV.p (.str y.id), CV.p (y.labels.pv 1 encS), CV.p (y.props.pv 4 encP)]) l)) = true := by simp [idsB, idsC]
theorem idsB_E' (nx : Nat) (st : Own) (l : List FEdge) : idsB nx (.row 0 5 st (List.map (fun y : FEdge => [CV.p (.str y.id), CV.p (.str y.src), CV.p (.str y.dst), CV.p (y.labels.pv 1 encS), CV.p (y.props.pv 4 encP)]) l)) = true := by simp [idsB, idsC]
theorem idsB_2 (nx v es : Nat) (st : Own) (a b : CV) : idsB nx (.row v es st [[a, b]]) = (idsC nx a && idsC nx b) := by simp [idsB]
attribute [go_sem] natNN idsB_N' idsB_E' idsB_2
theorem fresh_N (x : Sl FNode) (hb : x.l.length * 64 ≤ 140737488355328) (al : Nat) : LCalls Try.prog n_slices_Clone_api_Node_api_Node [x.av 3 encN] [] (.c (.ref al 0 0 x.l.length)) (some (al, rowN x.st x.l)) al :=
  LCalls.fresh rfl (by
    intro e he c hc
    obtain ⟨y, _, rfl⟩ := List.mem_map.1 he
    obtain ⟨p, _, rfl⟩ := List.mem_map.1 hc
    exact ⟨p, rfl⟩) (clone_node_row x hb ⟨_, rfl, by simp [hget]⟩) al
theorem fresh_E (x : Sl FEdge) (hb : x.l.length * 96 ≤ 140737488355328) (al : Nat) : LCalls Try.prog n_slices_Clone_api_Edge_api_Edge [x.av 5 encE] [] (.c (.ref al 0 0 x.l.length)) (some (al, rowE' x.st x.l)) al :=
  LCalls.fresh rfl (by
    intro e he c hc
    obtain ⟨y, _, rfl⟩ := List.mem_map.1 he
    obtain ⟨p, _, rfl⟩ := List.mem_map.1 hc
    exact ⟨p, rfl⟩) (clone_edge_row x hb ⟨_, rfl, by simp [hget]⟩) al

theorem copy_W (g : FGraph) (hs : smG g) {H : List (Nat × Blk)} {nx : Nat} (hkH : keepH nx H = H) (hkB : H.all (fun x => idsB nx x.2) = true) {K : AV → List (Nat × Blk) → Nat → Prop}
    (hk : K (.agg [.ref (nx + 3) 0 0 g.nodes.l.length, .ref (nx + 6) 0 0 g.edges.l.length])
      ((nx + 8, .row 0 2 .own [[.ref (nx + 3) 0 0 g.nodes.l.length, .ref (nx + 6) 0 0 g.edges.l.length]]) :: (nx + 6, rowE' g.edges.st (g.edges.l.map cE)) :: (nx + 3, rowN g.nodes.st (g.nodes.l.map cN)) :: (nx, .row 0 2 .own [[.ref (nx + 3) 0 0 g.nodes.l.length, .ref (nx + 6) 0 0 g.edges.l.length]]) :: H) (nx + 10)) :
    ACalls Try.prog n_graph_Copy [aggP (encG g)] H nx K := by
  refine a_graph_Copy (Nat.le_of_ble_eq_true rfl) ?_
  obtain ⟨x, y⟩ := g
  obtain ⟨h1, h2, h3, h4⟩ := hs
  simp only at h1 h2 h3 h4 hk
  simp -implicitDefEqProofs only [go_sem, reduceIte, Nat.reduceEqDiff, s_graph_Copy, encG, Nat.add_assoc]
  refine CALLD_fresh (fresh_N x (by omega) _) ?_ ?_
  · simp -implicitDefEqProofs only [go_sem, reduceIte, Nat.reduceEqDiff, Nat.add_assoc]
  simp -implicitDefEqProofs only [go_sem, reduceIte, Nat.reduceEqDiff, Nat.add_assoc]
  refine CALLD_fresh (fresh_E y (by omega) _) ?_ ?_
  · simp -implicitDefEqProofs only [go_sem, reduceIte, Nat.reduceEqDiff, Nat.add_assoc]
  simp -implicitDefEqProofs only [go_sem, reduceIte, Nat.reduceEqDiff, Nat.add_assoc, fillA, storeA, setSeg, List.drop_zero, List.cons_append, List.nil_append, List.append_nil, List.drop_succ_cons, List.drop_nil, ghK, doGh, and_self, rowOf, cellA, lenA]
  refine loop_row (fun (i : Nat) => [(2, .c (.ptr nx 0 0 0)), (3, .c (.ptr (nx + 8) 0 0 0)), (17, vI .i64 x.l.length), (18, vI .i64 i)])
    (fun i => (nx + 8, .row 0 2 .own [[.ref (nx + 3) 0 0 x.l.length, .ref (nx + 6) 0 0 y.l.length]]) :: (nx + 6, rowE' y.st y.l) :: (nx + 3, rowN x.st (mixL cN x.l i)) :: (nx, .row 0 2 .own [[.p .nil, .p .nil]]) :: H)
    (fun i => x.l.length - i) (fun i => i ≤ x.l.length) 0 ?_ (Nat.zero_le _) ?_
  · simp -implicitDefEqProofs only [go_sem, reduceIte, Nat.reduceEqDiff, KEEP, keepH_mono hkH (Nat.le_add_right nx 10), idsB_all hkB (Nat.le_add_right nx 10), idsC, mixL_zero]
    rfl
  intro i hi
  simp -implicitDefEqProofs only [go_sem, reduceIte, Nat.reduceEqDiff, b_graph_Copy_0]
  refine condW_split (fun h => ?_) (fun h => ?_)
  · have hlt : i < x.l.length := by simpa using h
    have hlt' : (i : Int) < (x.l.length : Int) := by omega
    obtain ⟨n, hn⟩ : ∃ n, x.l[i]? = some n := ⟨_, List.getElem?_eq_getElem hlt⟩
    have hm := mixL_get (f := cN) hn
    have hst := st_of_get hn
    obtain ⟨b1, b2⟩ := h3 n (List.mem_of_getElem? hn)
    have hlm : i < (mixL cN x.l i).length := by rw [mixL_len]; exact hlt
    have hset : (List.map (fun y : FNode => [CV.p (.str y.id), CV.p (y.labels.pv 1 encS), CV.p (y.props.pv 4 encP)]) (mixL cN x.l i)).set i [CV.p (.str n.id), CV.p (slP 1 n.labels.clone.k (List.map encS n.labels.clone.l)), CV.p (slP 4 n.props.clone.k (List.map encP n.props.clone.l))] =
        List.map (fun y : FNode => [CV.p (.str y.id), CV.p (y.labels.pv 1 encS), CV.p (y.props.pv 4 encP)]) (mixL cN x.l (i + 1)) := by rw [← mixL_set hn, List.map_set]; rfl
    simp -implicitDefEqProofs only [go_sem, reduceIte, Nat.reduceEqDiff, rowOf, cellA, hst, hlt', idxAA, nilChkA, List.getElem?_map, hm]
    refine CALLD_of (clone_string_ok n.labels (by omega)) ?_
    simp -implicitDefEqProofs only [go_sem, reduceIte, Nat.reduceEqDiff, rowOf, cellA, hst, hlt', idxAA, nilChkA, List.getElem?_map, hm]
    refine CALLD_of (clone_prop_ok n.props (by omega)) ?_
    simp -implicitDefEqProofs only [go_sem, reduceIte, Nat.reduceEqDiff, rowOf, cellA, hst, hlt', idxAA, nilChkA, List.getElem?_map, hm, storeA, setSeg, List.drop_zero, List.cons_append, List.nil_append, List.append_nil, List.drop_succ_cons, List.drop_nil, and_self, map_set_get hlm, List.set_set, hset, Nat.le_add_right, idsB_N, idsB_E, List.take_succ_cons, List.take_zero, KEEP, keepH_mono hkH (Nat.le_add_right nx 10), idsB_all hkB (Nat.le_add_right nx 10), idsC, one_cast, wadd (show i + 1 ≤ 9000000000000000000 by omega)]
    exact ⟨i + 1, hlt, by omega, rfl⟩
  · have hlt : i = x.l.length := by have : ¬ i < x.l.length := by simpa using h
                                    omega
    subst hlt
    rw [h, mixL_all]
    simp -implicitDefEqProofs only [go_sem, reduceIte, Nat.reduceEqDiff, rowOf, cellA, lenA]
    refine loop_row (fun (i : Nat) => [(2, .c (.ptr nx 0 0 0)), (3, .c (.ptr (nx + 8) 0 0 0)), (44, vI .i64 y.l.length), (45, vI .i64 i)])
      (fun i => (nx + 8, .row 0 2 .own [[.ref (nx + 3) 0 0 x.l.length, .ref (nx + 6) 0 0 y.l.length]]) :: (nx + 6, rowE' y.st (mixL cE y.l i)) :: (nx + 3, rowN x.st (x.l.map cN)) :: (nx, .row 0 2 .own [[.p .nil, .p .nil]]) :: H)
      (fun i => y.l.length - i) (fun i => i ≤ y.l.length) 0 ?_ (Nat.zero_le _) ?_
    · simp -implicitDefEqProofs only [go_sem, reduceIte, Nat.reduceEqDiff, KEEP, keepH_mono hkH (Nat.le_add_right nx 10), idsB_all hkB (Nat.le_add_right nx 10), idsC, mixL_zero, idsB_N, idsB_E]
      rfl
    intro i hi
    simp -implicitDefEqProofs only [go_sem, reduceIte, Nat.reduceEqDiff, b_graph_Copy_2]
    refine condW_split (fun h => ?_) (fun h => ?_)
    · have hlt : i < y.l.length := by simpa using h
      have hlt' : (i : Int) < (y.l.length : Int) := by omega
      obtain ⟨n, hn⟩ : ∃ n, y.l[i]? = some n := ⟨_, List.getElem?_eq_getElem hlt⟩
      have hm := mixL_get (f := cE) hn
      have hst := st_of_get hn
      obtain ⟨b1, b2⟩ := h4 n (List.mem_of_getElem? hn)
      have hlm : i < (mixL cE y.l i).length := by rw [mixL_len]; exact hlt
      have hset : (List.map (fun y : FEdge => [CV.p (.str y.id), CV.p (.str y.src), CV.p (.str y.dst), CV.p (y.labels.pv 1 encS), CV.p (y.props.pv 4 encP)]) (mixL cE y.l i)).set i [CV.p (.str n.id), CV.p (.str n.src), CV.p (.str n.dst), CV.p (slP 1 n.labels.clone.k (List.map encS n.labels.clone.l)), CV.p (slP 4 n.props.clone.k (List.map encP n.props.clone.l))] =
          List.map (fun y : FEdge => [CV.p (.str y.id), CV.p (.str y.src), CV.p (.str y.dst), CV.p (y.labels.pv 1 encS), CV.p (y.props.pv 4 encP)]) (mixL cE y.l (i + 1)) := by rw [← mixL_set hn, List.map_set]; rfl
      simp -implicitDefEqProofs only [go_sem, reduceIte, Nat.reduceEqDiff, rowOf, cellA, hst, hlt', idxAA, nilChkA, List.getElem?_map, hm]
      refine CALLD_of (clone_string_ok n.labels (by omega)) ?_
      simp -implicitDefEqProofs only [go_sem, reduceIte, Nat.reduceEqDiff, rowOf, cellA, hst, hlt', idxAA, nilChkA, List.getElem?_map, hm]
      refine CALLD_of (clone_prop_ok n.props (by omega)) ?_
      simp -implicitDefEqProofs only [go_sem, reduceIte, Nat.reduceEqDiff, rowOf, cellA, hst, hlt', idxAA, nilChkA, List.getElem?_map, hm, storeA, setSeg, List.drop_zero, List.cons_append, List.nil_append, List.append_nil, List.drop_succ_cons, List.drop_nil, and_self, map_set_get hlm, List.set_set, hset, Nat.le_add_right, idsB_N, idsB_E, List.take_succ_cons, List.take_zero, KEEP, keepH_mono hkH (Nat.le_add_right nx 10), idsB_all hkB (Nat.le_add_right nx 10), idsC, one_cast, wadd (show i + 1 ≤ 9000000000000000000 by omega)]
      exact ⟨i + 1, hlt, by omega, rfl⟩
    · have hlt : i = y.l.length := by have : ¬ i < y.l.length := by simpa using h
                                      omega
      subst hlt
      rw [h, mixL_all]
      simp -implicitDefEqProofs only [go_sem, reduceIte, Nat.reduceEqDiff, rowOf, cellA, lenA, storeA, setSeg, List.drop_zero, List.cons_append, List.nil_append, List.append_nil, List.drop_succ_cons, List.drop_nil, List.take_succ_cons, List.take_zero, and_self]
      exact hk
theorem take_map2 {α β γ : Type} (f : β → γ) (g : α → β) (l : List α) : ((l.map g).map f).take l.length = (l.map g).map f := List.take_of_length_le (by simp)
theorem graphCopy_ok (g : FGraph) (hs : smG g) : PCalls Try.prog n_graph_Copy [aggP (encG g)] (aggP (encG (copyG g))) := by
  refine .of rfl (copy_W g hs rfl rfl ?_) rfl
  obtain ⟨x, y⟩ := g
  simp -implicitDefEqProofs only [go_sem, reduceIte, Nat.reduceEqDiff, copyG, encG, frz_mapS, take_map2]
  rfl
end Go.Ab
end PCp

section PBsN
/- Contracts, library: the search in a row that rises, at [node]. -/
set_option linter.unusedVariables false
set_option linter.unusedSimpArgs false
namespace Go.Ab
open Go.Proofs

theorem closure_node_ok (y : FNode) (s : Str) : PCalls Try.prog n_graph_node_1 [aggP (encN y), vS s] (vI .i64 (cmpI y.id s)) := by
  refine p_graph_node_1 (Nat.le_of_ble_eq_true rfl) rfl rfl ?_
  repeat' (first | simp -implicitDefEqProofs only [go_sem, reduceIte, Nat.reduceEqDiff, s_graph_node_1, encN, Option.bind_some, toPs, *] | refine CALL_of (compare_ok _ _) ?_ | refine GRD_true (fun _ => ?_) (fun _ => ?_) | refine GRDD_true (fun _ => ?_) (fun _ => ?_) | refine condW_split (fun _ => ?_) (fun _ => ?_))
theorem search_node_W (sv : AV) (H : List (Nat × Blk)) (nx : Nat) (xl : List FNode) (pt : Nat → AV) (hlA : lenA sv (hget H) = some (vI .i64 xl.length)) (hidx : ∀ (i : Nat) (y : FNode), xl[i]? = some y → idxAA 3 sv (vI .i64 i) (hget H) = some (pt i) ∧ loadA true 3 (pt i) (hget H) = some (aggP (encN y)))
    (hsv : idsA nx sv = true) (hkH : keepH nx H = H) (hkB : H.all (fun x => idsB nx x.2) = true) (hx : Rises FNode.id xl) (hlen : (xl.length : Int) ≤ 4611686018427387903) (s : Str) {K : AV → List (Nat × Blk) → Nat → Prop} (hk : K (.tup [vI .i64 (low FNode.id xl s), vB (met FNode.id xl s)]) H nx) :
    W Try.prog s_slices_BinarySearchFunc_api_Node_api_Node_string (RETK r_slices_BinarySearchFunc_api_Node_api_Node_string K) ⟨argE 0 [sv, vS s, .c (.p (.fn n_graph_node_1 []))], H, nx⟩ := by
  simp -implicitDefEqProofs only [go_sem, reduceIte, Nat.reduceEqDiff, s_slices_BinarySearchFunc_api_Node_api_Node_string, hlA]
  refine loop_row (fun (a : Nat × Nat) => [(0, sv), (1, vS s), (2, .c (.p (.fn n_graph_node_1 []))), (8, vI .i64 xl.length), (9, vI .i64 a.1), (10, vI .i64 a.2)]) (fun _ => H) (fun a => a.2 - a.1)
    (fun a => a.1 ≤ a.2 ∧ a.2 ≤ xl.length ∧ (∀ (k : Nat) (b : FNode), k < a.1 → xl[k]? = some b → lt b.id s = true) ∧ ∀ (k : Nat) (b : FNode), a.2 ≤ k → xl[k]? = some b → lt b.id s = false) (0, xl.length) ?_ ?_ ?_
  · simp -implicitDefEqProofs only [go_sem, reduceIte, Nat.reduceEqDiff, KEEP, hkH, hkB, hsv]; rfl
  · exact ⟨Nat.zero_le _, Nat.le_refl _, fun k b h => by omega, fun k b h hb => by have := (List.getElem?_eq_some_iff.1 hb).1; omega⟩
  rintro ⟨i, j⟩ ⟨h1, h2, h3, h4⟩
  simp -implicitDefEqProofs only [go_sem, reduceIte, Nat.reduceEqDiff, b_slices_BinarySearchFunc_api_Node_api_Node_string_0]
  have hw1 : IntKind.i64.wrap ((i + j : Nat) : Int) = ((i + j : Nat) : Int) := wrap_i64 (by omega) (by omega)
  have hw2 : IntKind.u64.wrap ((i + j : Nat) : Int) = ((i + j : Nat) : Int) := wrap_u64 (by omega) (by omega)
  have hw3 : IntKind.i64.wrap (((i + j) / 2 : Nat) : Int) = (((i + j) / 2 : Nat) : Int) := wrap_i64 (by omega) (by omega)
  have hw4 : IntKind.i64.wrap ((((i + j) / 2 : Nat) : Int) + 1) = (((i + j) / 2 + 1 : Nat) : Int) := by rw [wrap_i64 (by omega) (by omega)]; rfl
  refine condW_split (fun h => ?_) (fun h => ?_)
  · have hij : i < j := by simpa using h
    have hm : (i + j) / 2 < xl.length := by omega
    have hy : xl[(i + j) / 2]? = some xl[(i + j) / 2] := List.getElem?_eq_getElem hm
    generalize xl[(i + j) / 2] = y at hy
    simp -implicitDefEqProofs only [go_sem, reduceIte, Nat.reduceEqDiff, nat_add_cast, hw1, hw2, hw3, shOp_half, (hidx _ _ hy).1, (hidx _ _ hy).2]
    refine CALL_of (closure_node_ok y s) ?_
    simp -implicitDefEqProofs only [go_sem, reduceIte, Nat.reduceEqDiff]
    refine condW_split (fun hc => ?_) (fun hc => ?_)
    · have hc : lt y.id s = true := by rw [decide_eq_true_eq, cmpI_neg] at hc; exact hc
      simp -implicitDefEqProofs only [go_sem, reduceIte, Nat.reduceEqDiff, hw4, KEEP, hkH, hkB, hsv]
      refine ⟨((i + j) / 2 + 1, j), ⟨by omega, h2, fun k b hk hb => ?_, h4⟩, by show j - ((i + j) / 2 + 1) < j - i; omega, rfl⟩
      simp only at hk
      rcases Nat.lt_or_ge k ((i + j) / 2) with q | q
      · exact lt_trans' (hx.get q hb hy) hc
      · obtain rfl : k = (i + j) / 2 := by omega
        rw [hy] at hb; injection hb with hb; rw [← hb]; exact hc
    · have hc : lt y.id s = false := by rw [decide_eq_false_iff_not, cmpI_neg] at hc; simpa using hc
      simp -implicitDefEqProofs only [go_sem, reduceIte, Nat.reduceEqDiff, KEEP, hkH, hkB, hsv]
      refine ⟨(i, (i + j) / 2), ⟨by show i ≤ (i + j) / 2; omega, by show (i + j) / 2 ≤ _; omega, h3, fun k b hk hb => ?_⟩, by show (i + j) / 2 - i < j - i; omega, rfl⟩
      simp only at hk
      rcases Nat.lt_or_ge ((i + j) / 2) k with q | q
      · exact nlt_trans (hx.get q hy hb) hc
      · obtain rfl : k = (i + j) / 2 := by omega
        rw [hy] at hb; injection hb with hb; rw [← hb]; exact hc
  · have hij : i = j := by have : ¬ i < j := by simpa using h
                           omega
    subst hij
    have hlow : low FNode.id xl s = i := low_of h2 h3 h4
    have hmet := met_low hx s
    rw [hlow] at hmet hk
    simp -implicitDefEqProofs only [go_sem, reduceIte, Nat.reduceEqDiff]
    refine GRD_true (fun hc => ?_) (fun hc => ?_)
    · have hlt : i < xl.length := by simpa using hc
      have hy : xl[i]? = some xl[i] := List.getElem?_eq_getElem hlt
      generalize xl[i] = y at hy
      rw [hy] at hmet
      simp -implicitDefEqProofs only [go_sem, reduceIte, Nat.reduceEqDiff, hc, (hidx _ _ hy).1, (hidx _ _ hy).2, hmet]
      refine CALL_of (closure_node_ok y s) ?_
      simp -implicitDefEqProofs only [go_sem, reduceIte, Nat.reduceEqDiff, cmpI_zero]
      rw [hmet] at hk; exact hk
    · have hlt : ¬ i < xl.length := by simpa using hc
      have hy : xl[i]? = none := List.getElem?_eq_none (by omega)
      rw [hy] at hmet
      simp -implicitDefEqProofs only [go_sem, reduceIte, Nat.reduceEqDiff, hc, hmet]
      rw [hmet] at hk; exact hk
theorem search_node_ok (x : Sl FNode) (hx : Rises FNode.id x.l) (hlen : (x.l.length : Int) ≤ 4611686018427387903) (s : Str) :
    PCalls Try.prog n_slices_BinarySearchFunc_api_Node_api_Node_string [x.av 3 encN, vS s, .c (.p (.fn n_graph_node_1 []))] (.tup [vI .i64 (low FNode.id x.l s), vB (met FNode.id x.l s)]) := by
  refine p_slices_BinarySearchFunc_api_Node_api_Node_string (Nat.le_of_ble_eq_true rfl) rfl rfl ?_
  refine search_node_W (x.av 3 encN) [] 0 x.l (fun i => match x.l[i]? with | some y => .c (.p (.ptr (encN y))) | none => .u) (lenA_sl x _ _ _) (fun i y hy => ?_) rfl rfl rfl hx hlen s rfl
  rw [idxAA_sl, hy]
  exact ⟨rfl, rfl⟩
theorem rowLen_node {l ver : Nat} {st : Own} {xl : List FNode} {H : Heap} (h : H l = some (.row ver 3 st (xl.map fun y => (encN y).map .p))) : lenA (.c (.ref l ver 0 xl.length)) H = some (vI .i64 xl.length) := by simp [lenA, h]
theorem rowIdx_node {l ver : Nat} {st : Own} {xl : List FNode} {H : Heap} (h : H l = some (.row ver 3 st (xl.map fun y => (encN y).map .p))) (ho : st ≠ .own → xl = []) (i : Nat) (y : FNode) (hy : xl[i]? = some y) :
    idxAA 3 (.c (.ref l ver 0 xl.length)) (vI .i64 i) H = some (.c (.ptr l ver i 0)) ∧ loadA true 3 (.c (.ptr l ver i 0)) H = some (aggP (encN y)) := by
  have hi : i < xl.length := (List.getElem?_eq_some_iff.1 hy).1
  have hst : st = .own := by
    cases st with
    | own => rfl
    | _ => rw [ho (by decide)] at hi; simp at hi
  subst hst
  constructor
  · simp [idxAA, rowOf, h, hi]
  · simp [loadA, cellA, rowOf, h, hy, segA]
theorem search_node_row {l ver nx : Nat} {st : Own} {xl : List FNode} (ho : st ≠ .own → xl = []) (hl : l < nx) (hx : Rises FNode.id xl) (hlen : (xl.length : Int) ≤ 4611686018427387903) (s : Str) {K : AV → List (Nat × Blk) → Nat → Prop} (hk : K (.tup [vI .i64 (low FNode.id xl s), vB (met FNode.id xl s)]) [(l, .row ver 3 st (xl.map fun y => (encN y).map .p))] nx) :
    ACalls Try.prog n_slices_BinarySearchFunc_api_Node_api_Node_string [.c (.ref l ver 0 xl.length), vS s, .c (.p (.fn n_graph_node_1 []))] [(l, .row ver 3 st (xl.map fun y => (encN y).map .p))] nx K := by
  have h : hget [(l, .row ver 3 st (xl.map fun y => (encN y).map .p))] l = some (.row ver 3 st (xl.map fun y => (encN y).map CV.p)) := by simp [hget]
  refine a_slices_BinarySearchFunc_api_Node_api_Node_string (Nat.le_of_ble_eq_true rfl) ?_
  exact search_node_W _ _ nx xl (fun i => .c (.ptr l ver i 0)) (rowLen_node h) (rowIdx_node h ho) (by simp [idsA, idsC, hl]) (by simp [keepH, hl]) (by simp [idsB, idsC]) hx hlen s hk
end Go.Ab
end PBsN

section PBsE
/- Contracts, library: the search in a row that rises, at [edge]. -/
set_option linter.unusedVariables false
set_option linter.unusedSimpArgs false
namespace Go.Ab
open Go.Proofs

theorem closure_edge_ok (y : FEdge) (s : Str) : PCalls Try.prog n_graph_edge_1 [aggP (encE y), vS s] (vI .i64 (cmpI y.id s)) := by
  refine p_graph_edge_1 (Nat.le_of_ble_eq_true rfl) rfl rfl ?_
  repeat' (first | simp -implicitDefEqProofs only [go_sem, reduceIte, Nat.reduceEqDiff, s_graph_edge_1, encE, Option.bind_some, toPs, *] | refine CALL_of (compare_ok _ _) ?_ | refine GRD_true (fun _ => ?_) (fun _ => ?_) | refine GRDD_true (fun _ => ?_) (fun _ => ?_) | refine condW_split (fun _ => ?_) (fun _ => ?_))
theorem search_edge_W (sv : AV) (H : List (Nat × Blk)) (nx : Nat) (xl : List FEdge) (pt : Nat → AV) (hlA : lenA sv (hget H) = some (vI .i64 xl.length)) (hidx : ∀ (i : Nat) (y : FEdge), xl[i]? = some y → idxAA 5 sv (vI .i64 i) (hget H) = some (pt i) ∧ loadA true 5 (pt i) (hget H) = some (aggP (encE y)))
    (hsv : idsA nx sv = true) (hkH : keepH nx H = H) (hkB : H.all (fun x => idsB nx x.2) = true) (hx : Rises FEdge.id xl) (hlen : (xl.length : Int) ≤ 4611686018427387903) (s : Str) {K : AV → List (Nat × Blk) → Nat → Prop} (hk : K (.tup [vI .i64 (low FEdge.id xl s), vB (met FEdge.id xl s)]) H nx) :
    W Try.prog s_slices_BinarySearchFunc_api_Edge_api_Edge_string (RETK r_slices_BinarySearchFunc_api_Edge_api_Edge_string K) ⟨argE 0 [sv, vS s, .c (.p (.fn n_graph_edge_1 []))], H, nx⟩ := by
  simp -implicitDefEqProofs only [go_sem, reduceIte, Nat.reduceEqDiff, s_slices_BinarySearchFunc_api_Edge_api_Edge_string, hlA]
  refine loop_row (fun (a : Nat × Nat) => [(0, sv), (1, vS s), (2, .c (.p (.fn n_graph_edge_1 []))), (8, vI .i64 xl.length), (9, vI .i64 a.1), (10, vI .i64 a.2)]) (fun _ => H) (fun a => a.2 - a.1)
    (fun a => a.1 ≤ a.2 ∧ a.2 ≤ xl.length ∧ (∀ (k : Nat) (b : FEdge), k < a.1 → xl[k]? = some b → lt b.id s = true) ∧ ∀ (k : Nat) (b : FEdge), a.2 ≤ k → xl[k]? = some b → lt b.id s = false) (0, xl.length) ?_ ?_ ?_
  · simp -implicitDefEqProofs only [go_sem, reduceIte, Nat.reduceEqDiff, KEEP, hkH, hkB, hsv]; rfl
  · exact ⟨Nat.zero_le _, Nat.le_refl _, fun k b h => by omega, fun k b h hb => by have := (List.getElem?_eq_some_iff.1 hb).1; omega⟩
  rintro ⟨i, j⟩ ⟨h1, h2, h3, h4⟩
  simp -implicitDefEqProofs only [go_sem, reduceIte, Nat.reduceEqDiff, b_slices_BinarySearchFunc_api_Edge_api_Edge_string_0]
  have hw1 : IntKind.i64.wrap ((i + j : Nat) : Int) = ((i + j : Nat) : Int) := wrap_i64 (by omega) (by omega)
  have hw2 : IntKind.u64.wrap ((i + j : Nat) : Int) = ((i + j : Nat) : Int) := wrap_u64 (by omega) (by omega)
  have hw3 : IntKind.i64.wrap (((i + j) / 2 : Nat) : Int) = (((i + j) / 2 : Nat) : Int) := wrap_i64 (by omega) (by omega)
  have hw4 : IntKind.i64.wrap ((((i + j) / 2 : Nat) : Int) + 1) = (((i + j) / 2 + 1 : Nat) : Int) := by rw [wrap_i64 (by omega) (by omega)]; rfl
  refine condW_split (fun h => ?_) (fun h => ?_)
  · have hij : i < j := by simpa using h
    have hm : (i + j) / 2 < xl.length := by omega
    have hy : xl[(i + j) / 2]? = some xl[(i + j) / 2] := List.getElem?_eq_getElem hm
    generalize xl[(i + j) / 2] = y at hy
    simp -implicitDefEqProofs only [go_sem, reduceIte, Nat.reduceEqDiff, nat_add_cast, hw1, hw2, hw3, shOp_half, (hidx _ _ hy).1, (hidx _ _ hy).2]
    refine CALL_of (closure_edge_ok y s) ?_
    simp -implicitDefEqProofs only [go_sem, reduceIte, Nat.reduceEqDiff]
    refine condW_split (fun hc => ?_) (fun hc => ?_)
    · have hc : lt y.id s = true := by rw [decide_eq_true_eq, cmpI_neg] at hc; exact hc
      simp -implicitDefEqProofs only [go_sem, reduceIte, Nat.reduceEqDiff, hw4, KEEP, hkH, hkB, hsv]
      refine ⟨((i + j) / 2 + 1, j), ⟨by omega, h2, fun k b hk hb => ?_, h4⟩, by show j - ((i + j) / 2 + 1) < j - i; omega, rfl⟩
      simp only at hk
      rcases Nat.lt_or_ge k ((i + j) / 2) with q | q
      · exact lt_trans' (hx.get q hb hy) hc
      · obtain rfl : k = (i + j) / 2 := by omega
        rw [hy] at hb; injection hb with hb; rw [← hb]; exact hc
    · have hc : lt y.id s = false := by rw [decide_eq_false_iff_not, cmpI_neg] at hc; simpa using hc
      simp -implicitDefEqProofs only [go_sem, reduceIte, Nat.reduceEqDiff, KEEP, hkH, hkB, hsv]
      refine ⟨(i, (i + j) / 2), ⟨by show i ≤ (i + j) / 2; omega, by show (i + j) / 2 ≤ _; omega, h3, fun k b hk hb => ?_⟩, by show (i + j) / 2 - i < j - i; omega, rfl⟩
      simp only at hk
      rcases Nat.lt_or_ge ((i + j) / 2) k with q | q
      · exact nlt_trans (hx.get q hy hb) hc
      · obtain rfl : k = (i + j) / 2 := by omega
        rw [hy] at hb; injection hb with hb; rw [← hb]; exact hc
  · have hij : i = j := by have : ¬ i < j := by simpa using h
                           omega
    subst hij
    have hlow : low FEdge.id xl s = i := low_of h2 h3 h4
    have hmet := met_low hx s
    rw [hlow] at hmet hk
    simp -implicitDefEqProofs only [go_sem, reduceIte, Nat.reduceEqDiff]
    refine GRD_true (fun hc => ?_) (fun hc => ?_)
    · have hlt : i < xl.length := by simpa using hc
      have hy : xl[i]? = some xl[i] := List.getElem?_eq_getElem hlt
      generalize xl[i] = y at hy
      rw [hy] at hmet
      simp -implicitDefEqProofs only [go_sem, reduceIte, Nat.reduceEqDiff, hc, (hidx _ _ hy).1, (hidx _ _ hy).2, hmet]
      refine CALL_of (closure_edge_ok y s) ?_
      simp -implicitDefEqProofs only [go_sem, reduceIte, Nat.reduceEqDiff, cmpI_zero]
      rw [hmet] at hk; exact hk
    · have hlt : ¬ i < xl.length := by simpa using hc
      have hy : xl[i]? = none := List.getElem?_eq_none (by omega)
      rw [hy] at hmet
      simp -implicitDefEqProofs only [go_sem, reduceIte, Nat.reduceEqDiff, hc, hmet]
      rw [hmet] at hk; exact hk
theorem search_edge_ok (x : Sl FEdge) (hx : Rises FEdge.id x.l) (hlen : (x.l.length : Int) ≤ 4611686018427387903) (s : Str) :
    PCalls Try.prog n_slices_BinarySearchFunc_api_Edge_api_Edge_string [x.av 5 encE, vS s, .c (.p (.fn n_graph_edge_1 []))] (.tup [vI .i64 (low FEdge.id x.l s), vB (met FEdge.id x.l s)]) := by
  refine p_slices_BinarySearchFunc_api_Edge_api_Edge_string (Nat.le_of_ble_eq_true rfl) rfl rfl ?_
  refine search_edge_W (x.av 5 encE) [] 0 x.l (fun i => match x.l[i]? with | some y => .c (.p (.ptr (encE y))) | none => .u) (lenA_sl x _ _ _) (fun i y hy => ?_) rfl rfl rfl hx hlen s rfl
  rw [idxAA_sl, hy]
  exact ⟨rfl, rfl⟩
theorem rowLen_edge {l ver : Nat} {st : Own} {xl : List FEdge} {H : Heap} (h : H l = some (.row ver 5 st (xl.map fun y => (encE y).map .p))) : lenA (.c (.ref l ver 0 xl.length)) H = some (vI .i64 xl.length) := by simp [lenA, h]
theorem rowIdx_edge {l ver : Nat} {st : Own} {xl : List FEdge} {H : Heap} (h : H l = some (.row ver 5 st (xl.map fun y => (encE y).map .p))) (ho : st ≠ .own → xl = []) (i : Nat) (y : FEdge) (hy : xl[i]? = some y) :
    idxAA 5 (.c (.ref l ver 0 xl.length)) (vI .i64 i) H = some (.c (.ptr l ver i 0)) ∧ loadA true 5 (.c (.ptr l ver i 0)) H = some (aggP (encE y)) := by
  have hi : i < xl.length := (List.getElem?_eq_some_iff.1 hy).1
  have hst : st = .own := by
    cases st with
    | own => rfl
    | _ => rw [ho (by decide)] at hi; simp at hi
  subst hst
  constructor
  · simp [idxAA, rowOf, h, hi]
  · simp [loadA, cellA, rowOf, h, hy, segA]
theorem search_edge_row {l ver nx : Nat} {st : Own} {xl : List FEdge} (ho : st ≠ .own → xl = []) (hl : l < nx) (hx : Rises FEdge.id xl) (hlen : (xl.length : Int) ≤ 4611686018427387903) (s : Str) {K : AV → List (Nat × Blk) → Nat → Prop} (hk : K (.tup [vI .i64 (low FEdge.id xl s), vB (met FEdge.id xl s)]) [(l, .row ver 5 st (xl.map fun y => (encE y).map .p))] nx) :
    ACalls Try.prog n_slices_BinarySearchFunc_api_Edge_api_Edge_string [.c (.ref l ver 0 xl.length), vS s, .c (.p (.fn n_graph_edge_1 []))] [(l, .row ver 5 st (xl.map fun y => (encE y).map .p))] nx K := by
  have h : hget [(l, .row ver 5 st (xl.map fun y => (encE y).map .p))] l = some (.row ver 5 st (xl.map fun y => (encE y).map CV.p)) := by simp [hget]
  refine a_slices_BinarySearchFunc_api_Edge_api_Edge_string (Nat.le_of_ble_eq_true rfl) ?_
  exact search_edge_W _ _ nx xl (fun i => .c (.ptr l ver i 0)) (rowLen_edge h) (rowIdx_edge h ho) (by simp [idsA, idsC, hl]) (by simp [keepH, hl]) (by simp [idsB, idsC]) hx hlen s hk
end Go.Ab
end PBsE

section PCh1
/- Contracts, part 19a: searches in a graph whose rows are laid in the heap. -/
set_option linter.unusedVariables false
set_option linter.unusedSimpArgs false
set_option maxHeartbeats 2000000
namespace Go.Ab
open Go.Proofs

theorem cast0 : ((0 : Nat) : Int) = 0 := rfl
theorem CALLV_c (P : Program) (f : Nat) (first caps : List CV) (args : List AV) (dst : Option Nat) (s : St) (K : St → Prop) : CALLV P (.c (.fn f first caps)) args dst s K = CALL P f (first.map .c ++ args ++ caps.map .c) dst s K := rfl
attribute [go_sem] cast0 CALLV_c mkFnA cvs
abbrev gNil : AV := .agg [.p .nil, .p .nil]
abbrev rowNv (v : Nat) (st : Own) (l : List FNode) : Blk := .row v 3 st (l.map fun y => (encN y).map .p)
abbrev rowEv (v : Nat) (st : Own) (l : List FEdge) : Blk := .row v 5 st (l.map fun y => (encE y).map .p)

theorem searchN_R {l v : Nat} {st : Own} {xl : List FNode} (ho : st ≠ .own → xl = []) (hx : Rises FNode.id xl) (hlen : (xl.length : Int) ≤ 4611686018427387903) (s : Str) :
    RCalls Try.prog n_slices_BinarySearchFunc_api_Node_api_Node_string [.c (.ref l v 0 xl.length), vS s, .c (.p (.fn n_graph_node_1 []))] [(l, rowNv v st xl)] (.tup [vI .i64 (low FNode.id xl s), vB (met FNode.id xl s)]) := by
  refine ⟨rfl, by simp [inB, inC], rfl, ⟨_, Try.func108, by kernel_rfl, of_decide_eq_true (by kernel_rfl)⟩, fun nx hn => ?_⟩
  exact search_node_row ho (hn (l, rowNv v st xl) (by simp)) hx hlen s ⟨rfl, by simp [hget]⟩
theorem searchE_R {l v : Nat} {st : Own} {xl : List FEdge} (ho : st ≠ .own → xl = []) (hx : Rises FEdge.id xl) (hlen : (xl.length : Int) ≤ 4611686018427387903) (s : Str) :
    RCalls Try.prog n_slices_BinarySearchFunc_api_Edge_api_Edge_string [.c (.ref l v 0 xl.length), vS s, .c (.p (.fn n_graph_edge_1 []))] [(l, rowEv v st xl)] (.tup [vI .i64 (low FEdge.id xl s), vB (met FEdge.id xl s)]) := by
  refine ⟨rfl, by simp [inB, inC], rfl, ⟨_, Try.func172, by kernel_rfl, of_decide_eq_true (by kernel_rfl)⟩, fun nx hn => ?_⟩
  exact search_edge_row ho (hn (l, rowEv v st xl) (by simp)) hx hlen s ⟨rfl, by simp [hget]⟩
theorem nodeR_ok {l v le ve : Nat} {st : Own} {xl : List FNode} {m : Nat} (ho : st ≠ .own → xl = []) (hx : Rises FNode.id xl) (hlen : (xl.length : Int) ≤ 4611686018427387903) (s : Str) :
    RCalls Try.prog n_graph_node [.agg [.ref l v 0 xl.length, .ref le ve 0 m], vS s] [(l, rowNv v st xl)] (.tup [vI .i64 (low FNode.id xl s), vB (met FNode.id xl s)]) := by
  refine ⟨rfl, by simp [inB, inC], rfl, ⟨_, Try.func62, by kernel_rfl, of_decide_eq_true (by kernel_rfl)⟩, fun nx hn => ?_⟩
  have hl : l < nx := hn (l, rowNv v st xl) (by simp)
  have hne : ¬ nx = l := by omega
  refine a_graph_node (Nat.le_of_ble_eq_true rfl) ?_
  simp -implicitDefEqProofs only [go_sem, reduceIte, Nat.reduceEqDiff, s_graph_node, rowOf, cellA, hne]
  refine (searchN_R ho hx hlen s).call ?_ ?_
  · simp [hget, hne]
  simp -implicitDefEqProofs only [go_sem, reduceIte, Nat.reduceEqDiff, hne]
  intro x hx
  obtain rfl := List.mem_singleton.1 hx
  simp [hne]
theorem edgeR_ok {l v ln vn : Nat} {st : Own} {xl : List FEdge} {m : Nat} (ho : st ≠ .own → xl = []) (hx : Rises FEdge.id xl) (hlen : (xl.length : Int) ≤ 4611686018427387903) (s : Str) :
    RCalls Try.prog n_graph_edge [.agg [.ref ln vn 0 m, .ref l v 0 xl.length], vS s] [(l, rowEv v st xl)] (.tup [vI .i64 (low FEdge.id xl s), vB (met FEdge.id xl s)]) := by
  refine ⟨rfl, by simp [inB, inC], rfl, ⟨_, Try.func139, by kernel_rfl, of_decide_eq_true (by kernel_rfl)⟩, fun nx hn => ?_⟩
  have hl : l < nx := hn (l, rowEv v st xl) (by simp)
  have hne : ¬ nx = l := by omega
  refine a_graph_edge (Nat.le_of_ble_eq_true rfl) ?_
  simp -implicitDefEqProofs only [go_sem, reduceIte, Nat.reduceEqDiff, s_graph_edge, rowOf, cellA, hne]
  refine (searchE_R ho hx hlen s).call ?_ ?_
  · simp [hget, hne]
  simp -implicitDefEqProofs only [go_sem, reduceIte, Nat.reduceEqDiff, hne]
  intro x hx
  obtain rfl := List.mem_singleton.1 hx
  simp [hne]
/-- Does an edge touch the node? -/
def touches (s : Str) (e : FEdge) : Bool := decide (e.src = s) || decide (e.dst = s)
theorem touch_ok (e : FEdge) (o : MOp) : PCalls Try.prog n_graph_change_goes_1 [aggP (encE e), .c (.p (.ptr (encO o)))] (vB (touches o.id e)) := by
  refine p_graph_change_goes_1 (Nat.le_of_ble_eq_true rfl) rfl rfl ?_
  unfold touches
  cases h1 : decide (e.src = o.id) <;> cases h2 : decide (e.dst = o.id) <;> repeat' (first | simp -implicitDefEqProofs only [go_sem, reduceIte, Nat.reduceEqDiff, s_graph_change_goes_1, encE, encO, *] | refine GRD_true (fun _ => ?_) (fun _ => ?_) | refine GRDD_true (fun _ => ?_) (fun _ => ?_) | refine condW_split (fun _ => ?_) (fun _ => ?_))
  all_goals rfl
/-- The first that fits, or -1. -/
def firstB {α : Type} (f : α → Bool) : List α → Nat → Int
  | [], _ => -1
  | a :: l, i => if f a then (i : Int) else firstB f l (i + 1)
theorem firstB_nn {α : Type} (f : α → Bool) : ∀ (l : List α) (i : Nat), (0 ≤ firstB f l i) ↔ l.any f = true
  | [], i => by simp [firstB]
  | a :: l, i => by
    have ih := firstB_nn f l (i + 1)
    unfold firstB
    by_cases h : f a = true
    · simp [h]
    · simp [h] at ih ⊢
      exact ih
theorem firstB_any {α : Type} (f : α → Bool) (l : List α) (i : Nat) : decide (0 ≤ firstB f l i) = l.any f := by
  rw [Bool.eq_iff_iff, decide_eq_true_eq]; exact firstB_nn f l i
theorem indexE_R {l v : Nat} {st : Own} {xl : List FEdge} (ho : st ≠ .own → xl = []) (hlen : xl.length ≤ 1000000000) (o : MOp) :
    RCalls Try.prog n_slices_IndexFunc_api_Edge_api_Edge [.c (.ref l v 0 xl.length), .c (.p (.fn n_graph_change_goes_1 [.ptr (encO o)]))] [(l, rowEv v st xl)] (vI .i64 (firstB (touches o.id) xl 0)) := by
  refine ⟨rfl, by simp [inB, inC], rfl, ⟨_, Try.func178, by kernel_rfl, of_decide_eq_true (by kernel_rfl)⟩, fun nx hn => ?_⟩
  have hl : l < nx := hn (l, rowEv v st xl) (by simp)
  refine a_slices_IndexFunc_api_Edge_api_Edge (Nat.le_of_ble_eq_true rfl) ?_
  simp -implicitDefEqProofs only [go_sem, reduceIte, Nat.reduceEqDiff, s_slices_IndexFunc_api_Edge_api_Edge, lenA]
  refine loop_row (fun (i : Nat) => [(0, .c (.ref l v 0 xl.length)), (1, .c (.p (.fn n_graph_change_goes_1 [.ptr (encO o)]))), (7, vI .i64 xl.length), (8, vI .i64 i)]) (fun _ => [(l, rowEv v st xl)]) (fun i => xl.length - i)
    (fun i => i ≤ xl.length ∧ firstB (touches o.id) xl 0 = firstB (touches o.id) (xl.drop i) i) 0 ?_ ⟨Nat.zero_le _, rfl⟩ ?_
  · simp [KEEP, keepE, keepH, lkp, idsA, idsB, idsC, hl]
  rintro i ⟨hi, hI⟩
  simp -implicitDefEqProofs only [go_sem, reduceIte, Nat.reduceEqDiff, b_slices_IndexFunc_api_Edge_api_Edge_0]
  refine condW_split (fun h => ?_) (fun h => ?_)
  · have hlt : i < xl.length := by simpa using h
    have hlt' : (i : Int) < (xl.length : Int) := by omega
    obtain ⟨n, hn'⟩ : ∃ n, xl[i]? = some n := ⟨_, List.getElem?_eq_getElem hlt⟩
    have hst : st = .own := by
      cases st with
      | own => rfl
      | _ => rw [ho (by decide)] at hlt; simp at hlt
    rw [drop_cons hn'] at hI
    simp only [firstB] at hI
    simp -implicitDefEqProofs only [go_sem, reduceIte, Nat.reduceEqDiff, rowOf, cellA, idxAA, hst, hlt', List.getElem?_map, hn', CALLV_p]
    refine CALL_of (touch_ok n o) ?_
    cases ht : touches o.id n with
    | true =>
      rw [ht] at hI
      simp -implicitDefEqProofs only [go_sem, reduceIte, Nat.reduceEqDiff]
      refine ⟨?_, ?_⟩
      · rw [hI]; rfl
      · intro x hx
        obtain rfl := List.mem_singleton.1 hx
        simp
    | false =>
      rw [ht] at hI
      simp -implicitDefEqProofs only [go_sem, reduceIte, Nat.reduceEqDiff, one_cast, wadd (show i + 1 ≤ 9000000000000000000 by omega)]
      refine ⟨by simp [keepE, lkp, idsA, idsC, hl], by simp [keepH, idsB, idsC, hl], Nat.le_refl _, i + 1, ⟨hlt, hI⟩, by omega, ?_⟩
      simp [keepE, lkp, keepH, hl]
  · have hlt : ¬ i < xl.length := by simpa using h
    rw [List.drop_eq_nil_of_le (by omega)] at hI
    simp -implicitDefEqProofs only [go_sem, reduceIte, Nat.reduceEqDiff]
    refine ⟨?_, ?_⟩
    · rw [hI]; rfl
    · intro x hx
      obtain rfl := List.mem_singleton.1 hx
      simp
theorem containsE_R {l v : Nat} {st : Own} {xl : List FEdge} (ho : st ≠ .own → xl = []) (hlen : xl.length ≤ 1000000000) (o : MOp) :
    RCalls Try.prog n_slices_ContainsFunc_api_Edge_api_Edge [.c (.ref l v 0 xl.length), .c (.p (.fn n_graph_change_goes_1 [.ptr (encO o)]))] [(l, rowEv v st xl)] (vB (xl.any (touches o.id))) := by
  refine ⟨rfl, by simp [inB, inC], rfl, ⟨_, Try.func143, by kernel_rfl, of_decide_eq_true (by kernel_rfl)⟩, fun nx hn => ?_⟩
  refine a_slices_ContainsFunc_api_Edge_api_Edge (Nat.le_of_ble_eq_true rfl) ?_
  simp -implicitDefEqProofs only [go_sem, reduceIte, Nat.reduceEqDiff, s_slices_ContainsFunc_api_Edge_api_Edge]
  refine (indexE_R ho hlen o).call ?_ ?_
  · intro x hx
    obtain rfl := List.mem_singleton.1 hx
    simp [hget]
  rw [← firstB_any _ xl 0]
  simp -implicitDefEqProofs only [go_sem, reduceIte, Nat.reduceEqDiff]
  intro x hx
  obtain rfl := List.mem_singleton.1 hx
  simp
end Go.Ab
end PCh1

section PSp23
/- Contracts, part 23: the program's own checks of properties, nodes, edges, graphs. -/
set_option linter.unusedVariables false
set_option linter.unusedSimpArgs false
set_option maxHeartbeats 1000000
namespace Go.Ab
open Go.Proofs

theorem idxV_0 (a b c : CV) : idxVA 3 1 false (.agg [a, b, c]) (vI .i64 0) = some (.c a) := rfl
theorem idxV_1 (a b c : CV) : idxVA 3 1 false (.agg [a, b, c]) (vI .i64 1) = some (.c b) := rfl
theorem idxV_2 (a b c : CV) : idxVA 3 1 false (.agg [a, b, c]) (vI .i64 2) = some (.c c) := rfl
theorem cast1 : ((1 : Nat) : Int) = 1 := rfl
theorem cast2 : ((2 : Nat) : Int) = 2 := rfl
theorem cast3 : ((3 : Nat) : Int) = 3 := rfl
theorem ite20 (b : Bool) : decide ((if b = true then (0 : Int) else 2) = 0) = b := by cases b <;> rfl
theorem elemProps_ok (x : Sl MProp) : PCalls Try.prog n_elem_CheckProps [x.av 4 encP] (vI .i64 (propsN x.l)) := by
  refine p_elem_CheckProps (Nat.le_of_ble_eq_true rfl) rfl rfl ?_
  unfold propsN
  by_cases h8 : (8 : Int) < (x.l.length : Int)
  · simp -implicitDefEqProofs only [go_sem, reduceIte, Nat.reduceEqDiff, s_elem_CheckProps, h8, lenA_sl]
  simp -implicitDefEqProofs only [go_sem, reduceIte, Nat.reduceEqDiff, s_elem_CheckProps, h8, lenA_sl]
  refine loop_up x.l.length 0 (fun i => [(0, x.av 4 encP), (8, x.av 4 encP), (9, vI .i64 x.l.length), (10, vI .i64 i)]) (fun i => propsE none x.l = propsE (prevOf x.l i) (x.l.drop i)) (by omega) (by simp -implicitDefEqProofs only [go_sem, reduceIte, Nat.reduceEqDiff]; try rfl) rfl (by simp [prevOf]) ?_
  intro i hi hI
  simp -implicitDefEqProofs only [go_sem, reduceIte, Nat.reduceEqDiff, b_elem_CheckProps_0]
  refine condW_split (fun h => ?_) (fun h => ?_)
  · have hlt : i < x.l.length := by simpa using h
    obtain ⟨y, hy⟩ : ∃ y, x.l[i]? = some y := ⟨_, List.getElem?_eq_getElem hlt⟩
    have hw : IntKind.i64.wrap ((i : Int) + 1) = ((i + 1 : Nat) : Int) := by rw [wrap_i64 (by omega) (by omega)]; rfl
    rw [drop_cons hy] at hI
    simp only [propsE] at hI
    simp -implicitDefEqProofs only [go_sem, reduceIte, Nat.reduceEqDiff, hy, encP]
    refine CALL_of (nameCheck_ok _) ?_
    cases hn : isName y.key with
    | false =>
      simp -implicitDefEqProofs only [go_sem, reduceIte, Nat.reduceEqDiff]
      rw [hI, hn]; rfl
    | true =>
    simp -implicitDefEqProofs only [go_sem, reduceIte, Nat.reduceEqDiff, hy]
    refine CALL_of (valueCheck_ok _) ?_
    cases hv : isVal y.val with
    | false =>
      simp -implicitDefEqProofs only [go_sem, reduceIte, Nat.reduceEqDiff]
      rw [hI, hn, hv]; rfl
    | true =>
    simp only [hn, hv, Bool.and_self, if_true] at hI
    simp -implicitDefEqProofs only [go_sem, reduceIte, Nat.reduceEqDiff]
    refine GRDD_true (fun hp0 => ?_) (fun hp0 => ?_)
    · have hp : 0 < i := by simpa using hp0
      obtain ⟨z, hz⟩ : ∃ z, x.l[i - 1]? = some z := ⟨_, List.getElem?_eq_getElem (by omega)⟩
      have hw1 : IntKind.i64.wrap ((i : Int) - 1) = ((i - 1 : Nat) : Int) := by rw [wrap_i64 (by omega) (by omega)]; omega
      have hpr : prevOf x.l i = some z := by simp [prevOf, hz]; omega
      rw [hpr] at hI
      simp -implicitDefEqProofs only [go_sem, reduceIte, Nat.reduceEqDiff, hp0, hy, hz, hw, hw1, le_eq, encP]
      refine condW_split (fun h => ?_) (fun h => ?_)
      · simp -implicitDefEqProofs only [go_sem, reduceIte, Nat.reduceEqDiff]
        rw [hI]; simp only [ordK, h, if_true]
      · simp -implicitDefEqProofs only [go_sem, reduceIte, Nat.reduceEqDiff, hw]
        refine ⟨hlt, ?_⟩
        rw [hI, prevOf_succ hy]; simp only [ordK, h, Bool.false_eq_true, if_false]
    · have hp : i = 0 := by simpa using hp0
      have hpr : prevOf x.l i = none := by simp [prevOf, hp]
      rw [hpr] at hI
      simp -implicitDefEqProofs only [go_sem, reduceIte, Nat.reduceEqDiff, hp0, hy, hw]
      refine ⟨hlt, ?_⟩
      rw [hI, prevOf_succ hy]; simp only [ordK, Bool.false_eq_true, if_false]
  · have hlt : ¬ i < x.l.length := by simpa using h
    simp -implicitDefEqProofs only [go_sem, reduceIte, Nat.reduceEqDiff]
    rw [hI, List.drop_eq_nil_of_le (by omega)]; rfl
theorem elemRest_ok (x : Sl Str) (y : Sl MProp) : PCalls Try.prog n_elem_rest [x.av 1 encS, y.av 4 encP] (vI .i64 (restN x.l y.l)) := by
  refine p_elem_rest (Nat.le_of_ble_eq_true rfl) rfl rfl ?_
  unfold restN
  by_cases h8 : (8 : Int) < (x.l.length : Int)
  · simp -implicitDefEqProofs only [go_sem, reduceIte, Nat.reduceEqDiff, s_elem_rest, h8, lenA_sl]
  have r1 := nameRow_ok x (by omega)
  have r2 := elemProps_ok y
  by_cases h0 : rowE none x.l = 0 <;> repeat' (first | simp -implicitDefEqProofs only [go_sem, reduceIte, Nat.reduceEqDiff, s_elem_rest, lenA_sl, *] | refine CALL_of r1 ?_ | refine CALL_of r2 ?_ | refine GRD_true (fun _ => ?_) (fun _ => ?_) | refine GRDD_true (fun _ => ?_) (fun _ => ?_) | refine condW_split (fun _ => ?_) (fun _ => ?_))
theorem checkNode_ok (n : FNode) : PCalls Try.prog n_elem_CheckNode [aggP (encN n)] (vI .i64 (nodeE n)) := by
  refine p_elem_CheckNode (Nat.le_of_ble_eq_true rfl) rfl rfl ?_
  have r1 := nameCheck_ok n.id
  have r2 := elemRest_ok n.labels n.props
  unfold nodeE
  cases hn : isName n.id <;> repeat' (first | simp -implicitDefEqProofs only [go_sem, reduceIte, Nat.reduceEqDiff, s_elem_CheckNode, encN, *] | refine CALL_of r1 ?_ | refine CALL_of r2 ?_ | refine GRD_true (fun _ => ?_) (fun _ => ?_) | refine GRDD_true (fun _ => ?_) (fun _ => ?_) | refine condW_split (fun _ => ?_) (fun _ => ?_))
theorem checkEdge_ok (n : FEdge) : PCalls Try.prog n_elem_CheckEdge [aggP (encE n)] (vI .i64 (edgeE n)) := by
  refine p_elem_CheckEdge (Nat.le_of_ble_eq_true rfl) rfl rfl ?_
  have r2 := elemRest_ok n.labels n.props
  obtain ⟨id, src, dst, labels, props⟩ := n
  unfold edgeE
  simp only at r2 ⊢
  simp -implicitDefEqProofs only [go_sem, reduceIte, Nat.reduceEqDiff, s_elem_CheckEdge, encE]
  refine loop_up 3 0 (fun i => [(1, .c (.p (.ptr [.str id, .str src, .str dst, labels.pv 1 encS, props.pv 4 encP]))), (12, .agg [.p (.str id), .p (.str src), .p (.str dst)]), (13, vI .i64 i)]) (fun i => (1 ≤ i → isName id = true) ∧ (2 ≤ i → isName src = true) ∧ (3 ≤ i → isName dst = true)) (by omega) (by simp -implicitDefEqProofs only [go_sem, reduceIte, Nat.reduceEqDiff]; rfl) rfl (by simp) ?_
  intro i hi hI
  obtain ⟨i1, i2, i3⟩ := hI
  have hc : i = 0 ∨ i = 1 ∨ i = 2 ∨ i = 3 := by omega
  rcases hc with rfl | rfl | rfl | rfl
  · clear i1 i2 i3
    simp -implicitDefEqProofs only [go_sem, reduceIte, Nat.reduceEqDiff, b_elem_CheckEdge_0, idxV_0]
    refine CALL_of (nameCheck_ok id) ?_
    cases hn : isName id with
    | false => simp -implicitDefEqProofs only [go_sem, reduceIte, Nat.reduceEqDiff, Bool.false_and]
    | true =>
      simp -implicitDefEqProofs only [go_sem, reduceIte, Nat.reduceEqDiff]
      exact ⟨by simp, rfl⟩
  · have hn := i1 (by omega)
    clear i1 i2 i3
    simp -implicitDefEqProofs only [go_sem, reduceIte, Nat.reduceEqDiff, b_elem_CheckEdge_0, idxV_1, cast1]
    refine CALL_of (nameCheck_ok src) ?_
    cases hn2 : isName src with
    | false => simp -implicitDefEqProofs only [go_sem, reduceIte, Nat.reduceEqDiff, Bool.false_and, hn, Bool.and_false]
    | true =>
      simp -implicitDefEqProofs only [go_sem, reduceIte, Nat.reduceEqDiff]
      exact ⟨by simp [hn], rfl⟩
  · have hn := i1 (by omega)
    have hn2 := i2 (by omega)
    clear i1 i2 i3
    simp -implicitDefEqProofs only [go_sem, reduceIte, Nat.reduceEqDiff, b_elem_CheckEdge_0, idxV_2, cast2]
    refine CALL_of (nameCheck_ok dst) ?_
    cases hn3 : isName dst with
    | false => simp -implicitDefEqProofs only [go_sem, reduceIte, Nat.reduceEqDiff, Bool.false_and, hn, hn2, Bool.and_false]
    | true =>
      simp -implicitDefEqProofs only [go_sem, reduceIte, Nat.reduceEqDiff]
      exact ⟨by simp [hn, hn2], rfl⟩
  · have hn := i1 (by omega)
    have hn2 := i2 (by omega)
    have hn3 := i3 (by omega)
    clear i1 i2 i3
    simp -implicitDefEqProofs only [go_sem, reduceIte, Nat.reduceEqDiff, b_elem_CheckEdge_0, cast3, Int.lt_irrefl, hn, hn2, hn3]
    refine CALL_of r2 ?_
    simp -implicitDefEqProofs only [go_sem, reduceIte, Nat.reduceEqDiff]
theorem node_ok (g : FGraph) (hx : Rises FNode.id g.nodes.l) (hl : g.nodes.l.length ≤ 1000000000000) (s : Str) : PCalls Try.prog n_graph_node [aggP (encG g), vS s] (.tup [vI .i64 (low FNode.id g.nodes.l s), vB (met FNode.id g.nodes.l s)]) := by
  refine p_graph_node (Nat.le_of_ble_eq_true rfl) rfl rfl ?_
  have c1 := search_node_ok g.nodes hx (by omega) s
  obtain ⟨x, y⟩ := g
  simp only at c1
  repeat' (first | simp -implicitDefEqProofs only [go_sem, reduceIte, Nat.reduceEqDiff, s_graph_node, encG, *] | refine CALL_of c1 ?_ | refine GRD_true (fun _ => ?_) (fun _ => ?_) | refine GRDD_true (fun _ => ?_) (fun _ => ?_) | refine condW_split (fun _ => ?_) (fun _ => ?_))
end Go.Ab
end PSp23

section PSp24
/- Contracts, part 24: graph.Check. -/
set_option linter.unusedVariables false
set_option linter.unusedSimpArgs false
set_option maxHeartbeats 1000000
namespace Go.Ab
open Go.Proofs

theorem check_ok (g : FGraph) : PCalls Try.prog n_graph_Check [aggP (encG g)] (vI .i64 (wrongG g)) := by
  refine p_graph_Check (Nat.le_of_ble_eq_true rfl) rfl rfl ?_
  have hN := fun (hx : Rises FNode.id g.nodes.l) (hl : g.nodes.l.length ≤ 1000000000000) s => node_ok g hx hl s
  obtain ⟨x, y⟩ := g
  simp only at hN
  unfold wrongG
  by_cases h5 : (500 : Int) < (x.l.length : Int)
  · simp -implicitDefEqProofs only [go_sem, reduceIte, Nat.reduceEqDiff, s_graph_Check, encG, h5, lenA_sl]
  by_cases h6 : (1000 : Int) < (y.l.length : Int)
  · simp -implicitDefEqProofs only [go_sem, reduceIte, Nat.reduceEqDiff, s_graph_Check, encG, h5, h6, lenA_sl]
  simp -implicitDefEqProofs only [go_sem, reduceIte, Nat.reduceEqDiff, s_graph_Check, encG, h5, h6, lenA_sl]
  refine loop_up x.l.length 0 (fun i => [(1, .c (.p (.ptr [x.pv 3 encN, y.pv 5 encE]))), (24, x.av 3 encN), (25, vI .i64 x.l.length), (26, vI .i64 i)]) (fun i => nodesE none x.l = nodesE (prevOf x.l i) (x.l.drop i)) (by omega) (by simp -implicitDefEqProofs only [go_sem, reduceIte, Nat.reduceEqDiff]; try rfl) rfl (by simp [prevOf]) ?_
  intro i hi hI
  simp -implicitDefEqProofs only [go_sem, reduceIte, Nat.reduceEqDiff, b_graph_Check_0]
  refine condW_split (fun h => ?_) (fun h => ?_)
  · have hlt : i < x.l.length := by simpa using h
    obtain ⟨n, hn⟩ : ∃ n, x.l[i]? = some n := ⟨_, List.getElem?_eq_getElem hlt⟩
    have hw : IntKind.i64.wrap ((i : Int) + 1) = ((i + 1 : Nat) : Int) := by rw [wrap_i64 (by omega) (by omega)]; rfl
    rw [drop_cons hn] at hI
    simp only [nodesE] at hI
    simp -implicitDefEqProofs only [go_sem, reduceIte, Nat.reduceEqDiff, hn, encN]
    refine CALL_of (checkNode_ok n) ?_
    simp -implicitDefEqProofs only [go_sem, reduceIte, Nat.reduceEqDiff]
    by_cases h0 : nodeE n = 0
    · rw [if_pos h0] at hI
      simp -implicitDefEqProofs only [go_sem, reduceIte, Nat.reduceEqDiff, h0]
      refine GRDD_true (fun hp0 => ?_) (fun hp0 => ?_)
      · have hp : 0 < i := by simpa using hp0
        obtain ⟨z, hz⟩ : ∃ z, x.l[i - 1]? = some z := ⟨_, List.getElem?_eq_getElem (by omega)⟩
        have hw1 : IntKind.i64.wrap ((i : Int) - 1) = ((i - 1 : Nat) : Int) := by rw [wrap_i64 (by omega) (by omega)]; omega
        have hpr : prevOf x.l i = some z := by simp [prevOf, hz]; omega
        rw [hpr] at hI
        simp -implicitDefEqProofs only [go_sem, reduceIte, Nat.reduceEqDiff, hp0, hn, hz, hw, hw1, le_eq, encN]
        refine condW_split (fun h => ?_) (fun h => ?_)
        · simp only [ordK, h, if_true] at hI
          simp -implicitDefEqProofs only [go_sem, reduceIte, Nat.reduceEqDiff, hI]
        · simp -implicitDefEqProofs only [go_sem, reduceIte, Nat.reduceEqDiff, hw]
          refine ⟨hlt, ?_⟩
          rw [hI, prevOf_succ hn]; simp only [ordK, h, Bool.false_eq_true, if_false]
      · have hp : i = 0 := by simpa using hp0
        have hpr : prevOf x.l i = none := by simp [prevOf, hp]
        rw [hpr] at hI
        simp -implicitDefEqProofs only [go_sem, reduceIte, Nat.reduceEqDiff, hp0, hw]
        refine ⟨hlt, ?_⟩
        rw [hI, prevOf_succ hn]; simp only [ordK, Bool.false_eq_true, if_false]
    · rw [if_neg h0] at hI
      simp -implicitDefEqProofs only [go_sem, reduceIte, Nat.reduceEqDiff, h0, hI]
  · have hlt : ¬ i < x.l.length := by simpa using h
    have hz : nodesE none x.l = 0 := by rw [hI, List.drop_eq_nil_of_le (by omega)]; rfl
    clear hI
    have hN := hN (nodesE_zero hz).2.1 (by omega)
    simp -implicitDefEqProofs only [go_sem, reduceIte, Nat.reduceEqDiff, hz, lenA_sl]
    refine loop_up y.l.length 0 (fun i => [(1, .c (.p (.ptr [x.pv 3 encN, y.pv 5 encE]))), (52, y.av 5 encE), (53, vI .i64 y.l.length), (54, vI .i64 i)]) (fun i => edgesE x.l none y.l = edgesE x.l (prevOf y.l i) (y.l.drop i)) (by omega) (by simp -implicitDefEqProofs only [go_sem, reduceIte, Nat.reduceEqDiff]; try rfl) rfl (by simp [prevOf]) ?_
    intro i hi hI
    simp -implicitDefEqProofs only [go_sem, reduceIte, Nat.reduceEqDiff, b_graph_Check_2]
    refine condW_split (fun h => ?_) (fun h => ?_)
    · have hlt : i < y.l.length := by simpa using h
      obtain ⟨n, hn⟩ : ∃ n, y.l[i]? = some n := ⟨_, List.getElem?_eq_getElem hlt⟩
      have hw : IntKind.i64.wrap ((i : Int) + 1) = ((i + 1 : Nat) : Int) := by rw [wrap_i64 (by omega) (by omega)]; rfl
      rw [drop_cons hn] at hI
      simp only [edgesE] at hI
      simp -implicitDefEqProofs only [go_sem, reduceIte, Nat.reduceEqDiff, hn, encE, storeA, setSeg, List.drop_zero, List.cons_append, List.nil_append, List.append_nil, List.drop_succ_cons, List.drop_nil, ghK, doGh, and_self]
      refine CALL_of (checkEdge_ok n) ?_
      simp -implicitDefEqProofs only [go_sem, reduceIte, Nat.reduceEqDiff]
      by_cases h0 : edgeE n = 0
      case neg =>
        rw [if_neg h0] at hI
        simp -implicitDefEqProofs only [go_sem, reduceIte, Nat.reduceEqDiff, h0, hI]
      rw [if_pos h0] at hI
      -- behind the order's test
      have tail : ∀ (b : Bool), ordK FEdge.id (prevOf y.l i) n = b → b = false → edgesE x.l none y.l = (if hasN x.l n.src && hasN x.l n.dst then edgesE x.l (some n) (y.l.drop (i + 1)) else 9) := by
        intro b hb hb2
        rw [hb2] at hb
        rw [hI, hb]; simp
      simp -implicitDefEqProofs only [go_sem, reduceIte, Nat.reduceEqDiff, h0]
      refine GRDD_true (fun hp0 => ?_) (fun hp0 => ?_)
      · have hp : 0 < i := by simpa using hp0
        obtain ⟨z, hz2⟩ : ∃ z, y.l[i - 1]? = some z := ⟨_, List.getElem?_eq_getElem (by omega)⟩
        have hw1 : IntKind.i64.wrap ((i : Int) - 1) = ((i - 1 : Nat) : Int) := by rw [wrap_i64 (by omega) (by omega)]; omega
        have hpr : prevOf y.l i = some z := by simp [prevOf, hz2]; omega
        rw [hpr] at hI tail
        simp -implicitDefEqProofs only [go_sem, reduceIte, Nat.reduceEqDiff, hp0, hz2, hw1, le_eq, encE]
        refine condW_split (fun h => ?_) (fun h => ?_)
        · simp only [ordK, h, if_true] at hI
          simp -implicitDefEqProofs only [go_sem, reduceIte, Nat.reduceEqDiff, hI]
        · have hI := tail _ rfl (by simp only [ordK, h])
          clear tail
          simp -implicitDefEqProofs only [go_sem, reduceIte, Nat.reduceEqDiff]
          refine CALL_of (hN n.src) ?_
          simp -implicitDefEqProofs only [go_sem, reduceIte, Nat.reduceEqDiff]
          refine CALL_of (hN n.dst) ?_
          cases m1 : met FNode.id x.l n.src <;> cases m2 : met FNode.id x.l n.dst <;> simp only [hasN, m1, m2, Bool.and_self, Bool.and_false, Bool.false_and, if_true, Bool.false_eq_true, if_false] at hI
          case true.true =>
            simp -implicitDefEqProofs only [go_sem, reduceIte, Nat.reduceEqDiff, hw]
            refine ⟨hlt, ?_⟩
            rw [hI, prevOf_succ hn]
          all_goals simp -implicitDefEqProofs only [go_sem, reduceIte, Nat.reduceEqDiff, hI]
      · have hp : i = 0 := by simpa using hp0
        have hpr : prevOf y.l i = none := by simp [prevOf, hp]
        rw [hpr] at hI tail
        have hI := tail _ rfl rfl
        clear tail
        simp -implicitDefEqProofs only [go_sem, reduceIte, Nat.reduceEqDiff, hp0, encE]
        refine CALL_of (hN n.src) ?_
        simp -implicitDefEqProofs only [go_sem, reduceIte, Nat.reduceEqDiff]
        refine CALL_of (hN n.dst) ?_
        cases m1 : met FNode.id x.l n.src <;> cases m2 : met FNode.id x.l n.dst <;> simp only [hasN, m1, m2, Bool.and_self, Bool.and_false, Bool.false_and, if_true, Bool.false_eq_true, if_false] at hI
        case true.true =>
          simp -implicitDefEqProofs only [go_sem, reduceIte, Nat.reduceEqDiff, hw]
          refine ⟨hlt, ?_⟩
          rw [hI, prevOf_succ hn]
        all_goals simp -implicitDefEqProofs only [go_sem, reduceIte, Nat.reduceEqDiff, hI]
    · have hlt : ¬ i < y.l.length := by simpa using h
      simp -implicitDefEqProofs only [go_sem, reduceIte, Nat.reduceEqDiff]
      rw [hI, List.drop_eq_nil_of_le (by omega)]; rfl
end Go.Ab
end PSp24

section PSp25
/- Contracts, part 25: are two graphs the same: the program's answer and the reference's. -/
set_option linter.unusedVariables false
set_option linter.unusedSimpArgs false
set_option maxHeartbeats 2000000
namespace Go.Ab
open Go.Proofs

def eqBy {α : Type} (f : α → α → Bool) : List α → List α → Bool
  | [], [] => true
  | a :: x, b :: y => f a b && eqBy f x y
  | _, _ => false
theorem eqBy_len {α : Type} {f : α → α → Bool} : ∀ {x y : List α}, x.length ≠ y.length → eqBy f x y = false
  | [], [], h => absurd rfl h
  | [], _ :: _, _ => rfl
  | _ :: _, [], _ => rfl
  | a :: x, b :: y, h => by
    simp only [eqBy, eqBy_len (x := x) (y := y) (fun e => h (by simp [e])), Bool.and_false]
theorem eqBy_drop {α : Type} {f : α → α → Bool} {x y : List α} {i : Nat} {a b : α} (hx : x[i]? = some a) (hy : y[i]? = some b) : eqBy f (x.drop i) (y.drop i) = (f a b && eqBy f (x.drop (i + 1)) (y.drop (i + 1))) := by
  rw [drop_cons hx, drop_cons hy]; rfl
theorem eqBy_map {α : Type} {f : α → α → Bool} {g : α → α} (h : ∀ a, f (g a) a = true) : ∀ (l : List α), eqBy f (l.map g) l = true
  | [] => rfl
  | a :: l => by simp only [List.map_cons, eqBy, h, eqBy_map h l, Bool.and_self]
theorem eqBy_refl {α : Type} {f : α → α → Bool} (h : ∀ a, f a a = true) : ∀ (l : List α), eqBy f l l = true
  | [] => rfl
  | a :: l => by simp only [eqBy, h, eqBy_refl h l, Bool.and_self]
def sameN (a b : FNode) : Bool := decide (a.id = b.id) && (decide (a.labels.l = b.labels.l) && decide (a.props.l = b.props.l))
def sameE (a b : FEdge) : Bool := decide (a.id = b.id) && (decide (a.src = b.src) && (decide (a.dst = b.dst) && (decide (a.labels.l = b.labels.l) && decide (a.props.l = b.props.l))))
def sameG (g h : FGraph) : Bool := eqBy sameN g.nodes.l h.nodes.l && eqBy sameE g.edges.l h.edges.l
theorem sameN_refl (a : FNode) : sameN a a = true := by simp [sameN]
theorem sameE_refl (a : FEdge) : sameE a a = true := by simp [sameE]
theorem sameG_refl (g : FGraph) : sameG g g = true := by simp [sameG, eqBy_refl sameN_refl, eqBy_refl sameE_refl]
theorem sameG_copy (g : FGraph) : sameG (copyG g) g = true := by
  unfold sameG
  rw [show (copyG g).nodes.l = g.nodes.l.map cN from rfl, show (copyG g).edges.l = g.edges.l.map cE from rfl, eqBy_map (fun a => ?_), eqBy_map (fun a => ?_)]
  · rfl
  · simp [sameE, cE, Sl.clone]
  · simp [sameN, cN, Sl.clone]
def BIG (n : Nat) : Prop := n ≤ 1000000000000000

theorem equalS_ok (x y : Sl Str) (hl : BIG x.l.length) : PCalls Try.prog n_slices_Equal_string_string [x.av 1 encS, y.av 1 encS] (vB (decide (x.l = y.l))) := by
  refine p_slices_Equal_string_string (Nat.le_of_ble_eq_true rfl) rfl rfl ?_
  unfold BIG at hl
  by_cases he : (x.l.length : Int) = (y.l.length : Int)
  · simp -implicitDefEqProofs only [go_sem, reduceIte, Nat.reduceEqDiff, s_slices_Equal_string_string, lenA_sl, he]
    refine loop_up x.l.length 0 (fun i => [(0, x.av 1 encS), (1, y.av 1 encS), (12, vI .i64 x.l.length), (13, vI .i64 i)]) (fun i => x.l.take i = y.l.take i) (by omega) (by simp -implicitDefEqProofs only [go_sem, reduceIte, Nat.reduceEqDiff, he]; try rfl) rfl rfl ?_
    intro i hi hI
    simp -implicitDefEqProofs only [go_sem, reduceIte, Nat.reduceEqDiff, b_slices_Equal_string_string_0]
    refine condW_split (fun h => ?_) (fun h => ?_)
    · have hlt : i < x.l.length := by simpa using h
      obtain ⟨z, hz⟩ : ∃ z, x.l[i]? = some z := ⟨_, List.getElem?_eq_getElem hlt⟩
      obtain ⟨u, hu⟩ : ∃ u, y.l[i]? = some u := ⟨_, List.getElem?_eq_getElem (by omega)⟩
      have hst := take_eq_succ hz hu
      simp -implicitDefEqProofs only [go_sem, reduceIte, Nat.reduceEqDiff, hz, hu, encS, eqSA, eqP_ok, one_cast, wadd (show i + 1 ≤ 9000000000000000000 by omega)]
      refine condW_split (fun hc => ?_) (fun hc => ?_)
      · have hne : ¬ z = u := by simpa [neg] using hc
        have : ¬ x.l = y.l := fun e => hne (by rw [e, hu] at hz; injection hz with hz; exact hz.symm)
        simp -implicitDefEqProofs only [go_sem, reduceIte, Nat.reduceEqDiff, this]
      · have hne : z = u := by simpa [neg] using hc
        simp -implicitDefEqProofs only [go_sem, reduceIte, Nat.reduceEqDiff, one_cast, wadd (show i + 1 ≤ 9000000000000000000 by omega)]
        exact ⟨hlt, hst.2 ⟨hI, hne⟩⟩
    · have hlt : ¬ i < x.l.length := by simpa using h
      have : x.l = y.l := by
        rw [List.take_of_length_le (by omega), List.take_of_length_le (by omega)] at hI
        exact hI
      simp -implicitDefEqProofs only [go_sem, reduceIte, Nat.reduceEqDiff, this]
  · have : ¬ x.l = y.l := fun e => he (by rw [e])
    simp -implicitDefEqProofs only [go_sem, reduceIte, Nat.reduceEqDiff, s_slices_Equal_string_string, lenA_sl, he, this]

theorem equalP_ok (x y : Sl MProp) (hl : BIG x.l.length) : PCalls Try.prog n_slices_Equal_api_Prop_api_Prop [x.av 4 encP, y.av 4 encP] (vB (decide (x.l = y.l))) := by
  refine p_slices_Equal_api_Prop_api_Prop (Nat.le_of_ble_eq_true rfl) rfl rfl ?_
  unfold BIG at hl
  by_cases he : (x.l.length : Int) = (y.l.length : Int)
  · simp -implicitDefEqProofs only [go_sem, reduceIte, Nat.reduceEqDiff, s_slices_Equal_api_Prop_api_Prop, lenA_sl, he]
    refine loop_up x.l.length 0 (fun i => [(0, x.av 4 encP), (1, y.av 4 encP), (12, vI .i64 x.l.length), (13, vI .i64 i)]) (fun i => x.l.take i = y.l.take i) (by omega) (by simp -implicitDefEqProofs only [go_sem, reduceIte, Nat.reduceEqDiff, he]; try rfl) rfl rfl ?_
    intro i hi hI
    simp -implicitDefEqProofs only [go_sem, reduceIte, Nat.reduceEqDiff, b_slices_Equal_api_Prop_api_Prop_0]
    refine condW_split (fun h => ?_) (fun h => ?_)
    · have hlt : i < x.l.length := by simpa using h
      obtain ⟨z, hz⟩ : ∃ z, x.l[i]? = some z := ⟨_, List.getElem?_eq_getElem hlt⟩
      obtain ⟨u, hu⟩ : ∃ u, y.l[i]? = some u := ⟨_, List.getElem?_eq_getElem (by omega)⟩
      have hst := take_eq_succ hz hu
      simp -implicitDefEqProofs only [go_sem, reduceIte, Nat.reduceEqDiff, hz, hu, encP, eqSA, eqP_ok, one_cast, wadd (show i + 1 ≤ 9000000000000000000 by omega)]
      refine condW_split (fun hc => ?_) (fun hc => ?_)
      · have hne : ¬ z = u := by simpa [neg] using hc
        have : ¬ x.l = y.l := fun e => hne (by rw [e, hu] at hz; injection hz with hz; exact hz.symm)
        simp -implicitDefEqProofs only [go_sem, reduceIte, Nat.reduceEqDiff, this]
      · have hne : z = u := by simpa [neg] using hc
        simp -implicitDefEqProofs only [go_sem, reduceIte, Nat.reduceEqDiff, one_cast, wadd (show i + 1 ≤ 9000000000000000000 by omega)]
        exact ⟨hlt, hst.2 ⟨hI, hne⟩⟩
    · have hlt : ¬ i < x.l.length := by simpa using h
      have : x.l = y.l := by
        rw [List.take_of_length_le (by omega), List.take_of_length_le (by omega)] at hI
        exact hI
      simp -implicitDefEqProofs only [go_sem, reduceIte, Nat.reduceEqDiff, this]
  · have : ¬ x.l = y.l := fun e => he (by rw [e])
    simp -implicitDefEqProofs only [go_sem, reduceIte, Nat.reduceEqDiff, s_slices_Equal_api_Prop_api_Prop, lenA_sl, he, this]

theorem refSameN_ok (a b : FNode) (h1 : BIG a.labels.l.length) (h2 : BIG a.props.l.length) : PCalls Try.prog n_pleachref25_SameNode [aggP (encN a), aggP (encN b)] (vB (sameN a b)) := by
  refine p_pleachref25_SameNode (Nat.le_of_ble_eq_true rfl) rfl rfl ?_
  have r1 := sameTexts_ok a.labels b.labels h1
  have r2 := sameProps_ok a.props b.props h2
  unfold sameN
  clear h1 h2
  cases h1 : decide (a.id = b.id) <;> cases h2 : decide (a.labels.l = b.labels.l) <;> cases h3 : decide (a.props.l = b.props.l) <;> repeat' (first | simp -implicitDefEqProofs only [go_sem, reduceIte, Nat.reduceEqDiff, s_pleachref25_SameNode, encN, Bool.and_true, Bool.and_false, *] | refine CALL_of r1 ?_ | refine CALL_of r2 ?_ | refine GRD_true (fun _ => ?_) (fun _ => ?_) | refine GRDD_true (fun _ => ?_) (fun _ => ?_) | refine condW_split (fun _ => ?_) (fun _ => ?_))
theorem cloN_ok (a b : FNode) (h1 : BIG a.labels.l.length) (h2 : BIG a.props.l.length) : PCalls Try.prog n_graph_Same_1 [aggP (encN a), aggP (encN b)] (vB (sameN a b)) := by
  refine p_graph_Same_1 (Nat.le_of_ble_eq_true rfl) rfl rfl ?_
  have r1 := equalS_ok a.labels b.labels h1
  have r2 := equalP_ok a.props b.props h2
  unfold sameN
  clear h1 h2
  cases h1 : decide (a.id = b.id) <;> cases h2 : decide (a.labels.l = b.labels.l) <;> cases h3 : decide (a.props.l = b.props.l) <;> repeat' (first | simp -implicitDefEqProofs only [go_sem, reduceIte, Nat.reduceEqDiff, s_graph_Same_1, encN, Bool.and_true, Bool.and_false, *] | refine CALL_of r1 ?_ | refine CALL_of r2 ?_ | refine GRD_true (fun _ => ?_) (fun _ => ?_) | refine GRDD_true (fun _ => ?_) (fun _ => ?_) | refine condW_split (fun _ => ?_) (fun _ => ?_))
theorem eqFuncN_ok (x y : Sl FNode) (hl : BIG x.l.length) (hb : ∀ a ∈ x.l, BIG a.labels.l.length ∧ BIG a.props.l.length) : PCalls Try.prog n_slices_EqualFunc_api_Node_api_Node_api_Node_api_Node [x.av 3 encN, y.av 3 encN, .c (.p (.fn n_graph_Same_1 []))] (vB (eqBy sameN x.l y.l)) := by
  refine p_slices_EqualFunc_api_Node_api_Node_api_Node_api_Node (Nat.le_of_ble_eq_true rfl) rfl rfl ?_
  unfold BIG at hl
  by_cases he : (x.l.length : Int) = (y.l.length : Int)
  · simp -implicitDefEqProofs only [go_sem, reduceIte, Nat.reduceEqDiff, s_slices_EqualFunc_api_Node_api_Node_api_Node_api_Node, lenA_sl, he]
    refine loop_up x.l.length 0 (fun i => [(1, y.av 3 encN), (2, .c (.p (.fn n_graph_Same_1 []))), (15, x.av 3 encN), (16, vI .i64 x.l.length), (17, vI .i64 i)]) (fun i => eqBy sameN x.l y.l = eqBy sameN (x.l.drop i) (y.l.drop i)) (by omega) (by simp -implicitDefEqProofs only [go_sem, reduceIte, Nat.reduceEqDiff, he]; try rfl) rfl rfl ?_
    intro i hi hI
    simp -implicitDefEqProofs only [go_sem, reduceIte, Nat.reduceEqDiff, b_slices_EqualFunc_api_Node_api_Node_api_Node_api_Node_0]
    refine condW_split (fun h => ?_) (fun h => ?_)
    · have hlt : i < x.l.length := by simpa using h
      obtain ⟨z, hz⟩ : ∃ z, x.l[i]? = some z := ⟨_, List.getElem?_eq_getElem hlt⟩
      obtain ⟨u, hu⟩ : ∃ u, y.l[i]? = some u := ⟨_, List.getElem?_eq_getElem (by omega)⟩
      obtain ⟨b1, b2⟩ := hb z (List.mem_of_getElem? hz)
      have r1 := cloN_ok z u b1 b2
      rw [eqBy_drop hz hu] at hI
      simp -implicitDefEqProofs only [go_sem, reduceIte, Nat.reduceEqDiff, hz, hu, encN, storeA, setSeg, List.drop_zero, List.cons_append, List.nil_append, List.append_nil, List.drop_succ_cons, List.drop_nil, ghK, doGh, and_self]
      refine CALL_of r1 ?_
      cases hs : sameN z u with
      | false =>
        simp -implicitDefEqProofs only [go_sem, reduceIte, Nat.reduceEqDiff]
        rw [hI, hs]; rfl
      | true =>
        simp -implicitDefEqProofs only [go_sem, reduceIte, Nat.reduceEqDiff, one_cast, wadd (show i + 1 ≤ 9000000000000000000 by omega)]
        refine ⟨hlt, ?_⟩
        rw [hI, hs]; rfl
    · have hlt : ¬ i < x.l.length := by simpa using h
      simp -implicitDefEqProofs only [go_sem, reduceIte, Nat.reduceEqDiff]
      rw [hI, List.drop_eq_nil_of_le (by omega), List.drop_eq_nil_of_le (by omega)]; rfl
  · have : eqBy sameN x.l y.l = false := eqBy_len (by omega)
    simp -implicitDefEqProofs only [go_sem, reduceIte, Nat.reduceEqDiff, s_slices_EqualFunc_api_Node_api_Node_api_Node_api_Node, lenA_sl, he, this]

theorem refSameE_ok (a b : FEdge) (h1 : BIG a.labels.l.length) (h2 : BIG a.props.l.length) : PCalls Try.prog n_pleachref25_SameEdge [aggP (encE a), aggP (encE b)] (vB (sameE a b)) := by
  refine p_pleachref25_SameEdge (Nat.le_of_ble_eq_true rfl) rfl rfl ?_
  have r1 := sameTexts_ok a.labels b.labels h1
  have r2 := sameProps_ok a.props b.props h2
  unfold sameE
  clear h1 h2
  cases h1 : decide (a.id = b.id) <;> cases h2 : decide (a.src = b.src) <;> cases h3 : decide (a.dst = b.dst) <;> cases h4 : decide (a.labels.l = b.labels.l) <;> cases h5 : decide (a.props.l = b.props.l) <;> repeat' (first | simp -implicitDefEqProofs only [go_sem, reduceIte, Nat.reduceEqDiff, s_pleachref25_SameEdge, encE, Bool.and_true, Bool.and_false, *] | refine CALL_of r1 ?_ | refine CALL_of r2 ?_ | refine GRD_true (fun _ => ?_) (fun _ => ?_) | refine GRDD_true (fun _ => ?_) (fun _ => ?_) | refine condW_split (fun _ => ?_) (fun _ => ?_))
theorem cloE_ok (a b : FEdge) (h1 : BIG a.labels.l.length) (h2 : BIG a.props.l.length) : PCalls Try.prog n_graph_Same_2 [aggP (encE a), aggP (encE b)] (vB (sameE a b)) := by
  refine p_graph_Same_2 (Nat.le_of_ble_eq_true rfl) rfl rfl ?_
  have r1 := equalS_ok a.labels b.labels h1
  have r2 := equalP_ok a.props b.props h2
  unfold sameE
  clear h1 h2
  cases h1 : decide (a.id = b.id) <;> cases h2 : decide (a.src = b.src) <;> cases h3 : decide (a.dst = b.dst) <;> cases h4 : decide (a.labels.l = b.labels.l) <;> cases h5 : decide (a.props.l = b.props.l) <;> repeat' (first | simp -implicitDefEqProofs only [go_sem, reduceIte, Nat.reduceEqDiff, s_graph_Same_2, encE, Bool.and_true, Bool.and_false, *] | refine CALL_of r1 ?_ | refine CALL_of r2 ?_ | refine GRD_true (fun _ => ?_) (fun _ => ?_) | refine GRDD_true (fun _ => ?_) (fun _ => ?_) | refine condW_split (fun _ => ?_) (fun _ => ?_))
theorem eqFuncE_ok (x y : Sl FEdge) (hl : BIG x.l.length) (hb : ∀ a ∈ x.l, BIG a.labels.l.length ∧ BIG a.props.l.length) : PCalls Try.prog n_slices_EqualFunc_api_Edge_api_Edge_api_Edge_api_Edge [x.av 5 encE, y.av 5 encE, .c (.p (.fn n_graph_Same_2 []))] (vB (eqBy sameE x.l y.l)) := by
  refine p_slices_EqualFunc_api_Edge_api_Edge_api_Edge_api_Edge (Nat.le_of_ble_eq_true rfl) rfl rfl ?_
  unfold BIG at hl
  by_cases he : (x.l.length : Int) = (y.l.length : Int)
  · simp -implicitDefEqProofs only [go_sem, reduceIte, Nat.reduceEqDiff, s_slices_EqualFunc_api_Edge_api_Edge_api_Edge_api_Edge, lenA_sl, he]
    refine loop_up x.l.length 0 (fun i => [(1, y.av 5 encE), (2, .c (.p (.fn n_graph_Same_2 []))), (15, x.av 5 encE), (16, vI .i64 x.l.length), (17, vI .i64 i)]) (fun i => eqBy sameE x.l y.l = eqBy sameE (x.l.drop i) (y.l.drop i)) (by omega) (by simp -implicitDefEqProofs only [go_sem, reduceIte, Nat.reduceEqDiff, he]; try rfl) rfl rfl ?_
    intro i hi hI
    simp -implicitDefEqProofs only [go_sem, reduceIte, Nat.reduceEqDiff, b_slices_EqualFunc_api_Edge_api_Edge_api_Edge_api_Edge_0]
    refine condW_split (fun h => ?_) (fun h => ?_)
    · have hlt : i < x.l.length := by simpa using h
      obtain ⟨z, hz⟩ : ∃ z, x.l[i]? = some z := ⟨_, List.getElem?_eq_getElem hlt⟩
      obtain ⟨u, hu⟩ : ∃ u, y.l[i]? = some u := ⟨_, List.getElem?_eq_getElem (by omega)⟩
      obtain ⟨b1, b2⟩ := hb z (List.mem_of_getElem? hz)
      have r1 := cloE_ok z u b1 b2
      rw [eqBy_drop hz hu] at hI
      simp -implicitDefEqProofs only [go_sem, reduceIte, Nat.reduceEqDiff, hz, hu, encE, storeA, setSeg, List.drop_zero, List.cons_append, List.nil_append, List.append_nil, List.drop_succ_cons, List.drop_nil, ghK, doGh, and_self]
      refine CALL_of r1 ?_
      cases hs : sameE z u with
      | false =>
        simp -implicitDefEqProofs only [go_sem, reduceIte, Nat.reduceEqDiff]
        rw [hI, hs]; rfl
      | true =>
        simp -implicitDefEqProofs only [go_sem, reduceIte, Nat.reduceEqDiff, one_cast, wadd (show i + 1 ≤ 9000000000000000000 by omega)]
        refine ⟨hlt, ?_⟩
        rw [hI, hs]; rfl
    · have hlt : ¬ i < x.l.length := by simpa using h
      simp -implicitDefEqProofs only [go_sem, reduceIte, Nat.reduceEqDiff]
      rw [hI, List.drop_eq_nil_of_le (by omega), List.drop_eq_nil_of_le (by omega)]; rfl
  · have : eqBy sameE x.l y.l = false := eqBy_len (by omega)
    simp -implicitDefEqProofs only [go_sem, reduceIte, Nat.reduceEqDiff, s_slices_EqualFunc_api_Edge_api_Edge_api_Edge_api_Edge, lenA_sl, he, this]
end Go.Ab
end PSp25

section PPl1
/- Plain law, part 1: rows that rise, with one more and with one less; which graphs may be. -/
set_option linter.unusedVariables false
set_option linter.unusedSimpArgs false
namespace Go.Ab
open Go.Proofs

section
variable {α : Type} {key : α → Str}
theorem mem_insAt {l : List α} {i : Nat} {a x : α} : x ∈ insAt l i a ↔ x = a ∨ x ∈ l := by
  unfold insAt
  constructor
  · intro h
    rcases List.mem_append.1 h with h | h
    · exact .inr (List.mem_of_mem_take h)
    · rcases List.mem_cons.1 h with h | h
      · exact .inl h
      · exact .inr (List.mem_of_mem_drop h)
  · rintro (rfl | h)
    · exact List.mem_append_right _ List.mem_cons_self
    · rw [← List.take_append_drop i l] at h
      rcases List.mem_append.1 h with h | h
      · exact List.mem_append_left _ h
      · exact List.mem_append_right _ (List.mem_cons_of_mem _ h)
theorem mem_delAt {l : List α} {i : Nat} {x : α} (h : x ∈ delAt l i) : x ∈ l := by
  unfold delAt at h
  rcases List.mem_append.1 h with h | h
  · exact List.mem_of_mem_take h
  · exact List.mem_of_mem_drop h
theorem rises_ins {l : List α} (h : Rises key l) {a : α} (hm : met key l (key a) = false) : Rises key (insAt l (low key l (key a)) a) := by
  have h1 := split_low h (key a)
  have h2 := split_not h hm
  have h3 : Rises key (l.take (low key l (key a)) ++ l.drop (low key l (key a))) := by rw [List.take_append_drop]; exact h
  obtain ⟨p1, p2, p3⟩ := List.pairwise_append.1 h3
  refine List.pairwise_append.2 ⟨p1, List.pairwise_cons.2 ⟨h2, p2⟩, fun x hx y hy => ?_⟩
  rcases List.mem_cons.1 hy with rfl | hy
  · exact h1.1 x hx
  · exact p3 x hx y hy
theorem rises_del {l : List α} (h : Rises key l) (i : Nat) : Rises key (delAt l i) := by
  have h3 : Rises key (l.take i ++ l.drop i) := by rw [List.take_append_drop]; exact h
  refine List.Pairwise.sublist ?_ h3
  unfold delAt
  exact List.Sublist.append_left (by rw [← List.drop_drop]; exact List.drop_sublist _ _) _
theorem map_key_set {l : List α} {i : Nat} {a b : α} (hb : l[i]? = some b) (hk : key a = key b) : (l.set i a).map key = l.map key := by
  rw [List.map_set, hk]
  refine List.ext_getElem? fun j => ?_
  rw [List.getElem?_set]
  by_cases hj : i = j
  · subst hj
    have hi := (List.getElem?_eq_some_iff.1 hb).1
    have : l[i] = b := by
      rw [List.getElem?_eq_getElem hi] at hb
      exact Option.some.inj hb
    simp [hi, this]
  · rw [if_neg hj]
theorem rises_map {β : Type} {key' : β → Str} {l : List α} {m : List β} (h : l.map key = m.map key') (hr : Rises key l) : Rises key' m := by
  unfold Rises at *
  rw [← List.pairwise_map (f := key) (R := fun x y => lt x y = true)] at hr
  rw [← List.pairwise_map (f := key') (R := fun x y => lt x y = true), ← h]
  exact hr
theorem rises_set {l : List α} (h : Rises key l) {i : Nat} {a b : α} (hb : l[i]? = some b) (hk : key a = key b) : Rises key (l.set i a) := rises_map (map_key_set hb hk).symm h
theorem met_map {β : Type} {key' : β → Str} {l : List α} {m : List β} (h : l.map key = m.map key') (s : Str) : met key l s = met key' m s := by
  have e1 : met key l s = (l.map key).any (fun k => decide (k = s)) := by simp [met, List.any_map, Function.comp_def]
  have e2 : met key' m s = (m.map key').any (fun k => decide (k = s)) := by simp [met, List.any_map, Function.comp_def]
  rw [e1, e2, h]
theorem met_iff {l : List α} {s : Str} : met key l s = true ↔ ∃ a ∈ l, key a = s := by simp [met]
theorem met_ins {l : List α} {i : Nat} {a : α} {s : Str} : met key (insAt l i a) s = true ↔ key a = s ∨ met key l s = true := by
  rw [met_iff, met_iff]
  constructor
  · rintro ⟨x, hx, rfl⟩
    rcases mem_insAt.1 hx with rfl | hx
    · exact .inl rfl
    · exact .inr ⟨x, hx, rfl⟩
  · rintro (h | ⟨x, hx, h⟩)
    · exact ⟨a, mem_insAt.2 (.inl rfl), h⟩
    · exact ⟨x, mem_insAt.2 (.inr hx), h⟩
theorem met_del {l : List α} (h : Rises key l) {s t : Str} (hm : met key l s = true) : met key (delAt l (low key l s)) t = true ↔ t ≠ s ∧ met key l t = true := by
  rw [← filter_ne_met h hm, met_iff, met_iff]
  constructor
  · rintro ⟨x, hx, rfl⟩
    obtain ⟨h1, h2⟩ := List.mem_filter.1 hx
    exact ⟨by simpa using h2, x, h1, rfl⟩
  · rintro ⟨h1, x, hx, rfl⟩
    exact ⟨x, List.mem_filter.2 ⟨hx, by simpa using h1⟩, rfl⟩
end

/-- Labels and properties that may be. -/
def okR (l : List Str) (p : List MProp) : Prop := l.length ≤ 8 ∧ p.length ≤ 8 ∧ (Rises id l ∧ ∀ a ∈ l, isName a = true) ∧ Rises MProp.key p ∧ ∀ a ∈ p, isName a.key = true ∧ isVal a.val = true
theorem rowE_iff : ∀ {p : Option Str} {l : List Str}, rowE p l = 0 ↔ (∀ q, p = some q → ∀ a ∈ l, lt q a = true) ∧ Rises id l ∧ ∀ a ∈ l, isName a = true := by
  intro p l
  refine ⟨rowE_zero, ?_⟩
  induction l generalizing p with
  | nil => intro _; rfl
  | cons x r ih =>
    rintro ⟨h1, h2, h3⟩
    simp only [rowE]
    rw [if_pos (h3 x (by simp))]
    have : ordBad p x = false := by
      cases p with
      | none => rfl
      | some q => simp [ordBad, h1 q rfl x (by simp)]
    rw [this]
    simp only [Bool.false_eq_true, if_false]
    obtain ⟨q1, q2⟩ := List.pairwise_cons.1 h2
    exact ih ⟨fun q hq a ha => by cases hq; exact q1 a ha, q2, fun a ha => h3 a (by simp [ha])⟩
theorem propsE_iff : ∀ {p : Option MProp} {l : List MProp}, propsE p l = 0 ↔ (∀ q, p = some q → ∀ a ∈ l, lt q.key a.key = true) ∧ Rises MProp.key l ∧ ∀ a ∈ l, isName a.key = true ∧ isVal a.val = true := by
  intro p l
  refine ⟨propsE_zero, ?_⟩
  induction l generalizing p with
  | nil => intro _; rfl
  | cons x r ih =>
    rintro ⟨h1, h2, h3⟩
    simp only [propsE]
    rw [if_pos (by simpa using h3 x (by simp))]
    have : ordK MProp.key p x = false := by
      cases p with
      | none => rfl
      | some q => simp [ordK, h1 q rfl x (by simp)]
    rw [this]
    simp only [Bool.false_eq_true, if_false]
    obtain ⟨q1, q2⟩ := List.pairwise_cons.1 h2
    exact ih ⟨fun q hq a ha => by cases hq; exact q1 a ha, q2, fun a ha => h3 a (by simp [ha])⟩
theorem restN_iff {l : List Str} {p : List MProp} : restN l p = 0 ↔ okR l p := by
  unfold restN okR propsN
  by_cases h1 : (8 : Int) < (l.length : Int)
  · rw [if_pos h1]
    exact ⟨fun h => (by cases h), fun h => by omega⟩
  rw [if_neg h1]
  by_cases h2 : rowE none l = 0
  · rw [if_pos h2]
    by_cases h3 : (8 : Int) < (p.length : Int)
    · rw [if_pos h3]
      exact ⟨fun h => (by cases h), fun h => by omega⟩
    · rw [if_neg h3, propsE_iff]
      have := rowE_iff.1 h2
      exact ⟨fun h => ⟨by omega, by omega, this.2, h.2⟩, fun h => ⟨fun q hq => (by cases hq), h.2.2.2⟩⟩
  · rw [if_neg h2]
    exact ⟨fun h => absurd h h2, fun h => absurd (rowE_iff.2 ⟨fun q hq => (by cases hq), h.2.2.1⟩) h2⟩
theorem nodeE_iff {n : FNode} : nodeE n = 0 ↔ isName n.id = true ∧ okR n.labels.l n.props.l := by
  unfold nodeE
  by_cases h : isName n.id = true
  · rw [if_pos h, restN_iff]; simp [h]
  · rw [if_neg h]; simp [h]
theorem edgeE_iff {n : FEdge} : edgeE n = 0 ↔ (isName n.id = true ∧ isName n.src = true ∧ isName n.dst = true) ∧ okR n.labels.l n.props.l := by
  unfold edgeE
  by_cases h : (isName n.id && (isName n.src && isName n.dst)) = true
  · rw [if_pos h, restN_iff]
    simp only [Bool.and_eq_true] at h
    simp [h]
  · rw [if_neg h]
    simp only [Bool.and_eq_true] at h
    exact ⟨fun k => (by cases k), fun k => absurd k.1 h⟩
theorem nodesE_iff : ∀ {p : Option FNode} {l : List FNode}, nodesE p l = 0 ↔ (∀ q, p = some q → ∀ a ∈ l, lt q.id a.id = true) ∧ Rises FNode.id l ∧ ∀ a ∈ l, nodeE a = 0 := by
  intro p l
  refine ⟨nodesE_zero, ?_⟩
  induction l generalizing p with
  | nil => intro _; rfl
  | cons x r ih =>
    rintro ⟨h1, h2, h3⟩
    simp only [nodesE]
    rw [if_pos (h3 x (by simp))]
    have : ordK FNode.id p x = false := by
      cases p with
      | none => rfl
      | some q => simp [ordK, h1 q rfl x (by simp)]
    rw [this]
    simp only [Bool.false_eq_true, if_false]
    obtain ⟨q1, q2⟩ := List.pairwise_cons.1 h2
    exact ih ⟨fun q hq a ha => by cases hq; exact q1 a ha, q2, fun a ha => h3 a (by simp [ha])⟩
theorem edgesE_iff {ns : List FNode} : ∀ {p : Option FEdge} {l : List FEdge}, edgesE ns p l = 0 ↔ (∀ q, p = some q → ∀ a ∈ l, lt q.id a.id = true) ∧ Rises FEdge.id l ∧ ∀ a ∈ l, edgeE a = 0 ∧ met FNode.id ns a.src = true ∧ met FNode.id ns a.dst = true := by
  intro p l
  induction l generalizing p with
  | nil => exact ⟨fun _ => ⟨fun _ _ a ha => by simp at ha, List.Pairwise.nil, fun a ha => by simp at ha⟩, fun _ => rfl⟩
  | cons x r ih =>
    simp only [edgesE]
    by_cases h1 : edgeE x = 0
    case neg =>
      rw [if_neg h1]
      exact ⟨fun h => absurd h h1, fun h => absurd (h.2.2 x (by simp)).1 h1⟩
    rw [if_pos h1]
    by_cases h2 : ordK FEdge.id p x = true
    · rw [if_pos h2]
      refine ⟨fun h => (by cases h), fun h => ?_⟩
      cases p with
      | none => cases h2
      | some q => simp [ordK, h.1 q rfl x (by simp)] at h2
    rw [if_neg h2]
    by_cases h3 : (hasN ns x.src && hasN ns x.dst) = true
    case neg =>
      rw [if_neg h3]
      refine ⟨fun h => (by cases h), fun h => absurd ?_ h3⟩
      have := (h.2.2 x (by simp)).2
      simp [hasN, this.1, this.2]
    rw [if_pos h3, ih]
    simp only [hasN, Bool.and_eq_true] at h3
    constructor
    · rintro ⟨k1, k2, k3⟩
      refine ⟨?_, List.pairwise_cons.2 ⟨k1 x rfl, k2⟩, fun a ha => ?_⟩
      · rintro q rfl a ha
        have hqx : lt q.id x.id = true := by simpa [ordK] using h2
        rcases List.mem_cons.1 ha with rfl | ha
        · exact hqx
        · exact lt_trans' hqx (k1 x rfl a ha)
      · rcases List.mem_cons.1 ha with rfl | ha
        · exact ⟨h1, h3⟩
        · exact k3 a ha
    · rintro ⟨k1, k2, k3⟩
      obtain ⟨q1, q2⟩ := List.pairwise_cons.1 k2
      exact ⟨fun q hq a ha => by cases hq; exact q1 a ha, q2, fun a ha => k3 a (by simp [ha])⟩
/-- A graph that may be. -/
def okL (ns : List FNode) (es : List FEdge) : Prop :=
  (ns.length ≤ 500 ∧ es.length ≤ 1000) ∧ (Rises FNode.id ns ∧ ∀ n ∈ ns, isName n.id = true ∧ okR n.labels.l n.props.l) ∧ Rises FEdge.id es ∧
    ∀ e ∈ es, ((isName e.id = true ∧ isName e.src = true ∧ isName e.dst = true) ∧ okR e.labels.l e.props.l) ∧ met FNode.id ns e.src = true ∧ met FNode.id ns e.dst = true
theorem wrong_iff {g : FGraph} : wrongG g = 0 ↔ okL g.nodes.l g.edges.l := by
  unfold wrongG okL
  by_cases h1 : (500 : Int) < (g.nodes.l.length : Int)
  · rw [if_pos h1]
    exact ⟨fun h => (by cases h), fun h => by omega⟩
  rw [if_neg h1]
  by_cases h2 : (1000 : Int) < (g.edges.l.length : Int)
  · rw [if_pos h2]
    exact ⟨fun h => (by cases h), fun h => by omega⟩
  rw [if_neg h2]
  have e1 : (∀ n ∈ g.nodes.l, nodeE n = 0) ↔ ∀ n ∈ g.nodes.l, isName n.id = true ∧ okR n.labels.l n.props.l := ⟨fun h n hn => nodeE_iff.1 (h n hn), fun h n hn => nodeE_iff.2 (h n hn)⟩
  by_cases h3 : nodesE none g.nodes.l = 0
  · rw [if_pos h3, edgesE_iff]
    have h3' := nodesE_iff.1 h3
    constructor
    · intro h
      exact ⟨⟨by omega, by omega⟩, ⟨h3'.2.1, e1.1 h3'.2.2⟩, h.2.1, fun e he => ⟨edgeE_iff.1 (h.2.2 e he).1, (h.2.2 e he).2⟩⟩
    · intro h
      exact ⟨fun q hq => (by cases hq), h.2.2.1, fun e he => ⟨edgeE_iff.2 (h.2.2.2 e he).1, (h.2.2.2 e he).2⟩⟩
  · rw [if_neg h3]
    refine ⟨fun h => absurd h h3, fun h => absurd (nodesE_iff.2 ⟨fun q hq => (by cases hq), h.2.1.1, e1.2 h.2.1.2⟩) h3⟩
end Go.Ab
end PPl1

section PInN
/- Contracts, library: slices.Insert of one element, at [node]. -/
set_option linter.unusedVariables false
set_option linter.unusedSimpArgs false
set_option maxHeartbeats 4000000
set_option maxRecDepth 100000
namespace Go.Ab
open Go.Proofs Go.RowKit Go.Lib

theorem walkA_node (base : Option Addr) (n cap : Nat) (u : Value) (vc : Nat) (va : Option Addr) (hu : u = .slice va 1 vc) (hn : n ≤ cap) (h63 : n + 1 ≤ 9223372036854775807) (w w' : World) (v' : Value) (hr : (Builtin.append_ #[22, 22] 22 #[.slice base n cap, u]).run Try.prog w = .ok v' w') :
    Calls Try.prog 140 #[.slice base n cap, .int .i64 n, u] w fun e w1 => e = .returned v' ∧ w1 = w' := by
  subst hu
  go_enter Try.func140, Try.ntmps140
  go_wp2_with (at_builtin; refine Lib.wpList_append_run _ rfl _ _ _ _ rfl _ _ rfl rfl _ _ hr ?_)
  all_goals (go_ret; exact ⟨rfl, rfl⟩)

theorem walkC_node (b n cap i vb vo vc : Nat) (hi : i < n) (hroom : n + 1 ≤ cap) (h63 : n + 1 ≤ 9223372036854775807) (w W1 W2 : World) (r1 r2 : Value)
    (hov : ∀ lb cb o, (callFunc 174 #[.slice (some ⟨vb, vo, none⟩) 1 vc, .slice (some ⟨b, o, none⟩) lb cb]).run Try.prog w = .ok (.value (.bool false)) w)
    (h1 : ∀ ty dc sc, (Builtin.copy_ #[22, 22] ty #[.slice (some ⟨b, (i + 1) * 3, none⟩) (n - i) dc, .slice (some ⟨b, i * 3, none⟩) (n + 1 - i) sc]).run Try.prog w.drew = .ok r1 W1)
    (h2 : ∀ ty dc vc, (Builtin.copy_ #[22, 22] ty #[.slice (some ⟨b, i * 3, none⟩) (n + 1 - i) dc, .slice (some ⟨vb, vo, none⟩) 1 vc]).run Try.prog W1 = .ok r2 W2) :
    Calls Try.prog 140 #[.slice (some ⟨b, 0, none⟩) n cap, .int .i64 i, .slice (some ⟨vb, vo, none⟩) 1 vc] w fun e w1 => e = .returned (.slice (some ⟨b, 0, none⟩) (n + 1) cap) ∧ w1 = W2 := by
  have mixed := mixed
  try simp only [Nat.mul_one] at h1 h2
  have hz2 : ¬ ((i : Int) = (n : Int)) := by omega
  have hw1 : IntKind.i64.wrap ((i : Int) + 1) = (i : Int) + 1 := by rw [IntKind.wrap_i64]; omega
  have hw2 : IntKind.i64.wrap ((n : Int) + 1) = (n : Int) + 1 := by rw [IntKind.wrap_i64]; omega
  have hb1 : (0 : Int) ≤ (i : Int) + 1 := by omega
  have hin : i ≤ n := by omega
  have htn : ((i : Int) + 1).toNat = i + 1 := by omega
  have htn2 : ((n : Int) + 1).toNat = n + 1 := by omega
  have hb2 : ¬ (cap = i + 1) := by omega
  have hb3 : (i : Int) ≤ (n : Int) + 1 := by omega
  have hb4 : ¬ (cap = i) := by omega
  have hb5 : ¬ ((cap : Int) < (n : Int) + 1) := by omega
  have hb6 : (i : Int) + 1 ≤ (n : Int) + 1 := by omega
  go_enter Try.func140, Try.ntmps140
  go_wp2_with (simp only [hov])
  go_region_law_o (refine step_copy_runI rfl _ _ 22 22 rfl _ _ (by simp [Act.eval, Act.put]) (by simp [Act.eval, Act.put]) (h1 _ _ _) ?_)
  go_wp2_with (at_builtin; refine wpList_copy_runI _ rfl _ _ 22 22 rfl _ _ rfl rfl (h2 _ _ _) ?_)
  go_ret
  exact ⟨rfl, rfl⟩
theorem walkB_node (b n cap i vb vo vc N G : Nat) (hi : i < n) (hcn : n ≤ cap) (hroom : cap < n + 1) (hG : n + 1 ≤ G) (h63 : n + 1 ≤ 9223372036854775807) (w W1 W2 W3 : World) (r2 r3 : Value)
    (ha : ∀ kq ty, (Builtin.append_ #[22, 3] ty #[.slice (some ⟨b, 0, none⟩) i cap, .int kq ((n + 1 - i : Nat) : Int)]).run Try.prog w = .ok (.slice (some ⟨N, 0, none⟩) (n + 1) G) W1)
    (h1 : ∀ ty dc vc, (Builtin.copy_ #[22, 22] ty #[.slice (some ⟨N, i * 3, none⟩) (n + 1 - i) dc, .slice (some ⟨vb, vo, none⟩) 1 vc]).run Try.prog W1 = .ok r2 W2)
    (h2 : ∀ ty dc sc, (Builtin.copy_ #[22, 22] ty #[.slice (some ⟨N, (i + 1) * 3, none⟩) (n - i) dc, .slice (some ⟨b, i * 3, none⟩) (n - i) sc]).run Try.prog W2.drew = .ok r3 W3) :
    Calls Try.prog 140 #[.slice (some ⟨b, 0, none⟩) n cap, .int .i64 i, .slice (some ⟨vb, vo, none⟩) 1 vc] w fun e w1 => e = .returned (.slice (some ⟨N, 0, none⟩) (n + 1) G) ∧ w1 = W3 := by
  have mixed := mixed
  try simp only [Nat.mul_one] at h1 h2
  have hkk : (n : Int) + 1 - (i : Int) = ((n + 1 - i : Nat) : Int) := by omega
  have ha' : ∀ ty, (Builtin.append_ #[22, 3] ty #[.slice (some ⟨b, 0, none⟩) i cap, .int .i64 ((n : Int) + 1 - (i : Int))]).run Try.prog w = .ok (.slice (some ⟨N, 0, none⟩) (n + 1) G) W1 := fun ty => by rw [hkk]; exact ha _ _
  have hz2 : ¬ ((i : Int) = (n : Int)) := by omega
  have hw1 : IntKind.i64.wrap ((i : Int) + 1) = (i : Int) + 1 := by rw [IntKind.wrap_i64]; omega
  have hw2 : IntKind.i64.wrap ((n : Int) + 1) = (n : Int) + 1 := by rw [IntKind.wrap_i64]; omega
  have hw3 : IntKind.i64.wrap ((n : Int) + 1 - (i : Int)) = (n : Int) + 1 - (i : Int) := by rw [IntKind.wrap_i64]; omega
  have hb1 : (0 : Int) ≤ (i : Int) + 1 := by omega
  have hin : i ≤ n := by omega
  have htn : ((i : Int) + 1).toNat = i + 1 := by omega
  have hb2 : ¬ (G = i + 1) := by omega
  have hb3 : (i : Int) ≤ (n : Int) + 1 := by omega
  have hb4 : ¬ (cap = i) := by omega
  have hb5 : (cap : Int) < (n : Int) + 1 := by omega
  have hb6 : (i : Int) + 1 ≤ (n : Int) + 1 := by omega
  have hb7 : ¬ (G = i) := by omega
  have hb8 : (i : Int) ≤ (n : Int) := by omega
  have hi1 : i ≤ n + 1 := by omega
  have hic : i ≤ cap := by omega
  have hng : n + 1 ≤ G := hG
  clear hkk ha
  go_enter Try.func140, Try.ntmps140
  go_wp2_with (first
    | (at_builtin; refine Lib.wpList_append_run _ rfl _ _ _ _ rfl _ _ rfl rfl _ _ (ha' _) ?_)
    | (at_builtin; refine wpList_copy_runI _ rfl _ _ 22 22 rfl _ _ rfl rfl (h1 _ _ _) ?_))
  go_region_law_o (refine step_copy_runI rfl _ _ 22 22 rfl _ _ (by simp [Act.eval, Act.put]) (by simp [Act.eval, Act.put]) (h2 _ _ _) ?_)
  go_wp2
  go_ret
  exact ⟨rfl, rfl⟩
theorem insert_node_ok {l lv ver verv i : Nat} {st : Own} {elems : List (List CV)} {x : List CV} {H : List (Nat × Blk)} {nx : Nat} {K : AV → List (Nat × Blk) → Nat → Prop} (hl : hget H l = some (.row ver 3 st elems)) (hlv : hget H lv = some (.row verv 3 .own [x])) (hne : lv ≠ l) (hi : i ≤ elems.length)
    (hby : (elems.length + 1) * 64 ≤ 140737488355328) (hk : K (.c (.ref l (ver + 1) 0 (elems.length + 1))) (hset H l (.row (ver + 1) 3 .own (elems.take i ++ x :: elems.drop i))) nx) :
    ACalls Try.prog 140 [.c (.ref l ver 0 elems.length), vI .i64 i, .c (.ref lv verv 0 1)] H nx K := by
  refine ⟨⟨Try.f140, Try.func140, by kernel_rfl, of_decide_eq_true (by kernel_rfl)⟩, fun w β F vals hs hsz hv => ?_⟩
  obtain ⟨vals⟩ := vals
  match vals, hsz with
  | [v0, v1, v2], _ =>
  have hv0 := hv 0 _ v0 rfl rfl
  obtain rfl := int_inv (hv 1 _ v1 rfl rfl)
  have hv2 := hv 2 _ v2 rfl rfl
  clear hv
  obtain ⟨hlt, _, ro2, ro3, ro4⟩ := ref_inv hv0 hl
  obtain ⟨hltv, _, _, _, rv4⟩ := ref_inv hv2 hlv
  obtain ⟨av, cv, rfl, hcv, hav, arrv, tyv, harrv, hszv⟩ := rv4 rfl
  have hav := hav (by omega)
  simp only [Nat.zero_mul, Nat.zero_add] at hav hszv
  subst hav
  have hup : hget (hset H l (.row (ver + 1) 3 .own (elems.take i ++ x :: elems.drop i))) = upd (hget H) l (.row (ver + 1) 3 .own (elems.take i ++ x :: elems.drop i)) := hget_hset _ _ _
  have hie : (Try.prog.info? 42).map (fun i => (i.size, i.bytes, i.zero.map fun z => z.cells.size)) = some (3, 64, some 3) := by kernel_rfl
  obtain ⟨ti, hti, hie⟩ := Option.map_eq_some_iff.1 hie
  simp only [Prod.mk.injEq] at hie
  obtain ⟨hts, htb, hie⟩ := hie
  obtain ⟨z, hz, hzs⟩ := Option.map_eq_some_iff.1 hie
  have hposl := (hs.pos _ _ _ _ _ hl)
  by_cases hin : i = elems.length
  · -- at the end
    subst hin
    have hap : appendA 3 ti.bytes (.c (.ref l ver 0 elems.length)) (.c (.ref lv verv 0 1)) nx (hget H) = some (.set (.c (.ref l (ver + 1) 0 (elems.length + 1))) l (.row (ver + 1) 3 .own (elems ++ [x]))) := by
      rw [htb]
      simp [appendA, content, hl, hlv, grown, hby]
    have hfree : Al (hget H) nx nx := .inl ⟨by
      cases hq : hget H nx with
      | none => rfl
      | some b => have := hs.dom _ _ hq; omega, Nat.le_refl _⟩
    obtain ⟨nv, v, w', β', F', hrun, hnv, hall⟩ := append_ok (ty := 22) (zc := []) hs Try.underlying22 hti hz (by rw [hts]; exact hzs) hts (by decide) Try.underlying22 rfl (by rw [htb]; decide) hv0 hv2 hfree hap
    obtain ⟨s1, s2, s3⟩ := hall nx (Nat.le_refl _) (fun q => by cases q)
    have hrun' : (Builtin.append_ #[22, 22] 22 #[v0, .slice (some ⟨β lv, 0, none⟩) 1 cv]).run Try.prog w = .ok v w' := by
      simp only [Sem.run_bind] at hrun
      generalize (Builtin.append_ #[22, 22] 22 #[v0, .slice (some ⟨β lv, 0, none⟩) 1 cv]).run Try.prog w = q at hrun ⊢
      cases q with
      | ok v' w1 =>
        simp only [Result.andThen_ok, Sem.run_pure, Result.ok.injEq] at hrun
        obtain ⟨rfl, rfl⟩ := hrun
        rcases hnv with q | ⟨q, _⟩
        · injection q with q; rw [q]
        · cases q
      | _ => cases hrun
    have hv0' : ∃ base cap, v0 = .slice base elems.length cap ∧ elems.length ≤ cap := by
      cases st with
      | nil => exact ⟨none, 0, by rw [ro2 rfl, hposl.2.2 (by decide)]; rfl, by rw [hposl.2.2 (by decide)]; exact Nat.le_refl _⟩
      | emp => obtain ⟨a, ha⟩ := ro3 rfl; exact ⟨some a, 0, by rw [ha, hposl.2.2 (by decide)]; rfl, by rw [hposl.2.2 (by decide)]; exact Nat.le_refl _⟩
      | own => obtain ⟨a, cap, rfl, hcap, _⟩ := ro4 rfl; exact ⟨some a, cap, rfl, hcap⟩
    obtain ⟨base, cap, rfl, hcap⟩ := hv0'
    refine (walkA_node base elems.length cap _ cv _ rfl hcap (by omega) w w' v hrun').mono ?_
    rintro e w1 ⟨rfl, rfl⟩
    have he : elems.take elems.length ++ x :: elems.drop elems.length = elems ++ [x] := by simp
    rw [he] at hk hup
    refine ⟨_, _, _, v, β', F', rfl, hk, ?_, ?_, ?_⟩
    · rw [hup]; exact s1
    · rw [hup]; exact s3
    · rw [hup]; exact s2
  · have hlt' : i < elems.length := by omega
    have hst : st = .own := by
      cases st with
      | own => rfl
      | _ => rw [hposl.2.2 (by decide)] at hlt'; simp at hlt'
    subst hst
    obtain ⟨a, cap, rfl, hcap, ha, arr, ty, harr, hszl⟩ := ro4 rfl
    have ha := ha (by omega)
    simp only [Nat.zero_mul, Nat.zero_add] at ha hszl
    subst ha
    have hbne : β lv ≠ β l := fun q => hne (hs.inj _ _ ⟨_, _, _, hlv⟩ ⟨_, _, _, hl⟩ q)
    have hV : RepE w F β (hget H) nx 3 [x] (seg arrv 0 3).toArray := by
      obtain ⟨arr', ty', harr', hle', hr'⟩ := hs.row _ _ _ _ hlv
      rw [harrv] at harr'
      injection harr' with harr'
      injection harr' with q1 q2
      subst q1
      simp only [List.length_cons, List.length_nil] at hle'
      refine ⟨by simp [seg_length], fun k e he => ?_, fun k j e c he hc => ?_⟩
      · exact (hs.pos _ _ _ _ _ hlv).2.1 k e he
      · have hk : k = 0 := by have := (List.getElem?_eq_some_iff.1 he).1; simp at this; omega
        subst hk
        have hj : j < 3 := by rw [← (hs.pos _ _ _ _ _ hlv).2.1 0 e he]; exact (List.getElem?_eq_some_iff.1 hc).1
        obtain ⟨v, hv, hr⟩ := hr' 0 j e c he hc
        refine ⟨v, ?_, hr⟩
        rw [List.getElem?_toArray, Nat.zero_mul, Nat.zero_add, seg_get _ _ _ _ hj (by omega)]
        simpa using hv
    have hV1 := seg_one hs hlv harrv 0 3 (by simp)
    have hld : ∀ w' : World, w'.heap[β lv]? = w.heap[β lv]? → (loadCells ⟨β lv, 0, none⟩ 3).run Try.prog w' = .ok (seg arrv 0 3).toArray w' := fun w' hw => load_seg Try.prog (hw.trans harrv) 0 3 (by rw [← hszv]; have := Nat.mul_le_mul_right 3 hcv; omega)
    by_cases hroom : elems.length + 1 ≤ cap
    · obtain ⟨r1, W1, r2, W2, c1, c2, ⟨arr', ha1, ha2⟩, hall⟩ := ins_in (P := Try.prog) (t := 22) (e := 42) hs Try.underlying22 (by simp [tSize, hti, hts]) hl hlt' harr (by rw [← hszl]; exact Nat.mul_le_mul_right _ hroom) hV hV1 hbne hld
      obtain ⟨s1, s2⟩ := hall nx (Nat.le_refl _)
      have hov : ∀ lb cb o, (callFunc 174 #[.slice (some ⟨β lv, 0, none⟩) 1 cv, .slice (some ⟨β l, o, none⟩) lb cb]).run Try.prog w = .ok (.value (.bool false)) w := fun lb cb o => by
        rw [run_callFunc_extern Try.func174 (by kernel_rfl) (by kernel_rfl) (by kernel_rfl) (e := Extern.SlicesOverlaps.overlaps #[22, 22] #[4]) (by kernel_rfl),
          Lib.run_overlaps_apart w 22 4 42 Try.underlying22 3 Try.sizeOf42 ⟨β lv, 0, none⟩ ⟨β l, o, none⟩ 1 cv lb cb hbne tyv ty arrv.size arr.size (by simp [World.shape?, harrv]) (by simp [World.shape?, harr]) (by rw [← hszl]; have := Nat.mul_le_mul_right 3 hroom; omega) (by simp [World.frozen?, harrv]) (by simp [World.frozen?, harrv])]
        rfl
      refine (walkC_node (β l) elems.length cap i (β lv) 0 cv hlt' hroom (by omega) w W1 W2 r1 r2 hov c1 c2).mono ?_
      rintro e w1 ⟨rfl, rfl⟩
      refine ⟨_, _, _, _, updN β l (β l), F, rfl, hk, ?_, ?_, ?_⟩
      · rw [hup]; exact s1
      · rw [hup]
        exact refVal hlt ⟨by simp; omega, (by intro q; cases q), (by intro q; cases q), fun _ => ⟨_, cap, rfl, hroom, fun _ => by simp [updN], arr', ty, by simpa [updN] using ha1, by rw [ha2, Nat.zero_add]; exact hszl⟩⟩
      · rw [hup]; exact s2
    · obtain ⟨G, W1, r2, W2, r3, W3, hG, hGm, c1, c2, c3, ⟨arr', ha1, ha2⟩, hall⟩ := ins_out (P := Try.prog) (cap := cap) (t := 22) (tn := 3) (e := 42) (kn := .i64) hs Try.underlying22 Try.underlying3 hti hts hz hzs hl hlt' harr (by omega) (by rw [htb]; exact hby) (by omega) hV hV1 (hs.block_lt ⟨_, _, _, hlv⟩) hld
      obtain ⟨s1, s2⟩ := hall nx (Nat.le_refl _)
      refine (walkB_node (β l) elems.length cap i (β lv) 0 cv w.heap.size G hlt' hcap (by omega) hG (by omega) w W1 W2 W3 r2 r3 c1 c2 c3).mono ?_
      rintro e w1 ⟨rfl, rfl⟩
      refine ⟨_, _, _, _, updN β l w.heap.size, F, rfl, hk, ?_, ?_, ?_⟩
      · rw [hup]; exact s1
      · rw [hup]
        exact refVal hlt ⟨by simp; omega, (by intro q; cases q), (by intro q; cases q), fun _ => ⟨_, G, rfl, hG, fun _ => by simp [updN], arr', 42, by simpa [updN] using ha1, by rw [ha2, Nat.zero_add]⟩⟩
      · rw [hup]; exact s2
end Go.Ab
end PInN

section PDelN
/- Contracts, library: slices.Delete of one element, at [node]. -/
set_option linter.unusedVariables false
set_option linter.unusedSimpArgs false
namespace Go.Ab
open Go.Proofs

theorem delete_node_ok {l ver i : Nat} {elems : List (List CV)} {H : List (Nat × Blk)} {nx : Nat} {K : AV → List (Nat × Blk) → Nat → Prop} (hl : hget H l = some (.row ver 3 .own elems)) (hi : i < elems.length) (h63 : (elems.length : Int) ≤ 9223372036854775807)
    (hk : K (.c (.ref l (ver + 1) 0 (elems.length - 1))) (hset H l (.row (ver + 1) 3 .own (elems.take i ++ elems.drop (i + 1)))) (nx + 8)) :
    ACalls Try.prog n_slices_Delete_api_Node_api_Node [.c (.ref l ver 0 elems.length), vI .i64 i, vI .i64 ((i : Int) + 1)] H nx K := by
  refine a_slices_Delete_api_Node_api_Node (Nat.le_of_ble_eq_true rfl) ?_
  have e0 : ¬ ((i : Int) = (i : Int) + 1) := by omega
  have e1 : (0 : Int) ≤ (i : Int) + 1 := by omega
  have e2 : ((i : Int) + 1).toNat = i + 1 := by omega
  have e3 : (0 : Int) ≤ (i : Int) := by omega
  have e4 : (0 : Int) ≤ (elems.length : Int) := by omega
  have e5 : i ≤ i + 1 := by omega
  have e6 : i + 1 ≤ elems.length := by omega
  have e7 : i ≤ elems.length := by omega
  have e8 : ¬ i = elems.length := by omega
  have e9 : List.take (elems.length - (i + 1)) (List.drop (i + 1) elems) = List.drop (i + 1) elems := List.take_of_length_le (by simp)
  have e10 : i + 1 + (elems.length - (i + 1)) ≤ elems.length := by omega
  have e11 : i + (elems.length - (i + 1)) = elems.length - 1 := by omega
  have e12 : elems.length - 1 ≤ elems.length := by omega
  have e13 : (setSeg elems i (List.drop (i + 1) elems)).length = elems.length := setSeg_length _ _ _ (by simp; omega)
  have e14 : elems.length - 1 + (elems.length - (elems.length - 1)) ≤ elems.length := by omega
  have e15 : elems.length - (elems.length - 1) = 1 := by omega
  have e16 : elems.length - 1 + 1 ≤ elems.length := by omega
  have e17 : (0 : Int) ≤ ((elems.length - 1 : Nat) : Int) := by omega
  have e18 : ∀ z : List CV, (setSeg (setSeg elems i (List.drop (i + 1) elems)) (elems.length - 1) (List.replicate 1 z)).length = elems.length := fun z => by rw [setSeg_length _ _ _ (by rw [e13]; simp; omega), e13]
  have e19 : ∀ z : List CV, (setSeg (setSeg elems i (List.drop (i + 1) elems)) (elems.length - 1) (List.replicate 1 z)).take (elems.length - 1) = elems.take i ++ elems.drop (i + 1) := fun z => by
    have q1 : setSeg elems i (List.drop (i + 1) elems) = elems.take i ++ elems.drop (i + 1) ++ elems.drop (elems.length - 1) := by
      unfold setSeg
      rw [List.length_drop, show i + (elems.length - (i + 1)) = elems.length - 1 by omega]
    have q2 : (elems.take i ++ elems.drop (i + 1)).length = elems.length - 1 := by simp; omega
    rw [q1]
    unfold setSeg
    rw [List.append_assoc, List.take_append_of_le_length (by rw [List.length_take]; simp; omega), List.take_take, Nat.min_self, List.take_append_of_le_length (by omega), ← q2, List.take_length]
  simp -implicitDefEqProofs only [go_sem, s_slices_Delete_api_Node_api_Node, reduceIte, Nat.reduceEqDiff, lenA, sliceA, natA, hl, Int.toNat_natCast, Option.bind_eq_bind, Option.bind_some, e0, e1, e2, e3, e4, e5, e6, e7, e8, e9, e10, e11, e12, e13, e14, e15, e16, decide_false, decide_true, Nat.zero_add, Nat.le_refl, and_self, Option.isSome_some, Nat.zero_le, Nat.sub_zero, appendA, content, copyA, clearA, DOD, DO, pure0, List.length_drop, e17]
  simp -implicitDefEqProofs only [go_sem, reduceIte, Nat.reduceEqDiff, ghK, doGh, e12, e18, e19]
  exact hk
end Go.Ab
end PDelN

section PWrN
/- Contracts, library: slices.Insert and slices.Delete of one element, over values, at [node]. -/
set_option linter.unusedVariables false
set_option linter.unusedSimpArgs false
namespace Go.Ab
open Go.Proofs

theorem ins_node {l lv ver verv i : Nat} {st : Own} {xl : List FNode} {a : FNode} {H : List (Nat × Blk)} {nx : Nat} {K : AV → List (Nat × Blk) → Nat → Prop} (hl : hget H l = some (.row ver 3 st (xl.map fun y => (encN y).map .p))) (hlv : hget H lv = some (.row verv 3 .own [(encN a).map .p])) (hne : lv ≠ l) (hi : i ≤ xl.length)
    (hby : (xl.length + 1) * 64 ≤ 140737488355328) (hk : K (.c (.ref l (ver + 1) 0 (xl.length + 1))) (hset H l (.row (ver + 1) 3 .own ((insAt xl i a).map fun y => (encN y).map .p))) nx) :
    ACalls Try.prog 140 [.c (.ref l ver 0 xl.length), vI .i64 i, .c (.ref lv verv 0 1)] H nx K := by
  have := insert_node_ok (i := i) (K := K) (nx := nx) hl hlv hne (by simpa using hi) (by simpa using hby)
  rw [ins_map (fun y => (encN y).map CV.p)] at this
  simp only [List.length_map] at this
  exact this hk
theorem del_node {l ver i : Nat} {xl : List FNode} {H : List (Nat × Blk)} {nx : Nat} {K : AV → List (Nat × Blk) → Nat → Prop} (hl : hget H l = some (.row ver 3 .own (xl.map fun y => (encN y).map .p))) (hi : i < xl.length) (h63 : (xl.length : Int) ≤ 9223372036854775807)
    (hk : K (.c (.ref l (ver + 1) 0 (xl.length - 1))) (hset H l (.row (ver + 1) 3 .own ((delAt xl i).map fun y => (encN y).map .p))) (nx + 8)) :
    ACalls Try.prog n_slices_Delete_api_Node_api_Node [.c (.ref l ver 0 xl.length), vI .i64 i, vI .i64 ((i : Int) + 1)] H nx K := by
  have := delete_node_ok (i := i) (K := K) (nx := nx) hl (by simpa using hi) (by simpa using h63)
  rw [del_map (fun y => (encN y).map CV.p)] at this
  simp only [List.length_map] at this
  exact this hk
end Go.Ab
end PWrN

section PInE
/- Contracts, library: slices.Insert of one element, at [edge]. -/
set_option linter.unusedVariables false
set_option linter.unusedSimpArgs false
set_option maxHeartbeats 4000000
set_option maxRecDepth 100000
namespace Go.Ab
open Go.Proofs Go.RowKit Go.Lib

theorem walkA_edge (base : Option Addr) (n cap : Nat) (u : Value) (vc : Nat) (va : Option Addr) (hu : u = .slice va 1 vc) (hn : n ≤ cap) (h63 : n + 1 ≤ 9223372036854775807) (w w' : World) (v' : Value) (hr : (Builtin.append_ #[23, 23] 23 #[.slice base n cap, u]).run Try.prog w = .ok v' w') :
    Calls Try.prog 141 #[.slice base n cap, .int .i64 n, u] w fun e w1 => e = .returned v' ∧ w1 = w' := by
  subst hu
  go_enter Try.func141, Try.ntmps141
  go_wp2_with (at_builtin; refine Lib.wpList_append_run _ rfl _ _ _ _ rfl _ _ rfl rfl _ _ hr ?_)
  all_goals (go_ret; exact ⟨rfl, rfl⟩)

theorem walkC_edge (b n cap i vb vo vc : Nat) (hi : i < n) (hroom : n + 1 ≤ cap) (h63 : n + 1 ≤ 9223372036854775807) (w W1 W2 : World) (r1 r2 : Value)
    (hov : ∀ lb cb o, (callFunc 176 #[.slice (some ⟨vb, vo, none⟩) 1 vc, .slice (some ⟨b, o, none⟩) lb cb]).run Try.prog w = .ok (.value (.bool false)) w)
    (h1 : ∀ ty dc sc, (Builtin.copy_ #[23, 23] ty #[.slice (some ⟨b, (i + 1) * 5, none⟩) (n - i) dc, .slice (some ⟨b, i * 5, none⟩) (n + 1 - i) sc]).run Try.prog w.drew = .ok r1 W1)
    (h2 : ∀ ty dc vc, (Builtin.copy_ #[23, 23] ty #[.slice (some ⟨b, i * 5, none⟩) (n + 1 - i) dc, .slice (some ⟨vb, vo, none⟩) 1 vc]).run Try.prog W1 = .ok r2 W2) :
    Calls Try.prog 141 #[.slice (some ⟨b, 0, none⟩) n cap, .int .i64 i, .slice (some ⟨vb, vo, none⟩) 1 vc] w fun e w1 => e = .returned (.slice (some ⟨b, 0, none⟩) (n + 1) cap) ∧ w1 = W2 := by
  have mixed := mixed
  try simp only [Nat.mul_one] at h1 h2
  have hz2 : ¬ ((i : Int) = (n : Int)) := by omega
  have hw1 : IntKind.i64.wrap ((i : Int) + 1) = (i : Int) + 1 := by rw [IntKind.wrap_i64]; omega
  have hw2 : IntKind.i64.wrap ((n : Int) + 1) = (n : Int) + 1 := by rw [IntKind.wrap_i64]; omega
  have hb1 : (0 : Int) ≤ (i : Int) + 1 := by omega
  have hin : i ≤ n := by omega
  have htn : ((i : Int) + 1).toNat = i + 1 := by omega
  have htn2 : ((n : Int) + 1).toNat = n + 1 := by omega
  have hb2 : ¬ (cap = i + 1) := by omega
  have hb3 : (i : Int) ≤ (n : Int) + 1 := by omega
  have hb4 : ¬ (cap = i) := by omega
  have hb5 : ¬ ((cap : Int) < (n : Int) + 1) := by omega
  have hb6 : (i : Int) + 1 ≤ (n : Int) + 1 := by omega
  go_enter Try.func141, Try.ntmps141
  go_wp2_with (simp only [hov])
  go_region_law_o (refine step_copy_runI rfl _ _ 23 23 rfl _ _ (by simp [Act.eval, Act.put]) (by simp [Act.eval, Act.put]) (h1 _ _ _) ?_)
  go_wp2_with (at_builtin; refine wpList_copy_runI _ rfl _ _ 23 23 rfl _ _ rfl rfl (h2 _ _ _) ?_)
  go_ret
  exact ⟨rfl, rfl⟩
theorem walkB_edge (b n cap i vb vo vc N G : Nat) (hi : i < n) (hcn : n ≤ cap) (hroom : cap < n + 1) (hG : n + 1 ≤ G) (h63 : n + 1 ≤ 9223372036854775807) (w W1 W2 W3 : World) (r2 r3 : Value)
    (ha : ∀ kq ty, (Builtin.append_ #[23, 3] ty #[.slice (some ⟨b, 0, none⟩) i cap, .int kq ((n + 1 - i : Nat) : Int)]).run Try.prog w = .ok (.slice (some ⟨N, 0, none⟩) (n + 1) G) W1)
    (h1 : ∀ ty dc vc, (Builtin.copy_ #[23, 23] ty #[.slice (some ⟨N, i * 5, none⟩) (n + 1 - i) dc, .slice (some ⟨vb, vo, none⟩) 1 vc]).run Try.prog W1 = .ok r2 W2)
    (h2 : ∀ ty dc sc, (Builtin.copy_ #[23, 23] ty #[.slice (some ⟨N, (i + 1) * 5, none⟩) (n - i) dc, .slice (some ⟨b, i * 5, none⟩) (n - i) sc]).run Try.prog W2.drew = .ok r3 W3) :
    Calls Try.prog 141 #[.slice (some ⟨b, 0, none⟩) n cap, .int .i64 i, .slice (some ⟨vb, vo, none⟩) 1 vc] w fun e w1 => e = .returned (.slice (some ⟨N, 0, none⟩) (n + 1) G) ∧ w1 = W3 := by
  have mixed := mixed
  try simp only [Nat.mul_one] at h1 h2
  have hkk : (n : Int) + 1 - (i : Int) = ((n + 1 - i : Nat) : Int) := by omega
  have ha' : ∀ ty, (Builtin.append_ #[23, 3] ty #[.slice (some ⟨b, 0, none⟩) i cap, .int .i64 ((n : Int) + 1 - (i : Int))]).run Try.prog w = .ok (.slice (some ⟨N, 0, none⟩) (n + 1) G) W1 := fun ty => by rw [hkk]; exact ha _ _
  have hz2 : ¬ ((i : Int) = (n : Int)) := by omega
  have hw1 : IntKind.i64.wrap ((i : Int) + 1) = (i : Int) + 1 := by rw [IntKind.wrap_i64]; omega
  have hw2 : IntKind.i64.wrap ((n : Int) + 1) = (n : Int) + 1 := by rw [IntKind.wrap_i64]; omega
  have hw3 : IntKind.i64.wrap ((n : Int) + 1 - (i : Int)) = (n : Int) + 1 - (i : Int) := by rw [IntKind.wrap_i64]; omega
  have hb1 : (0 : Int) ≤ (i : Int) + 1 := by omega
  have hin : i ≤ n := by omega
  have htn : ((i : Int) + 1).toNat = i + 1 := by omega
  have hb2 : ¬ (G = i + 1) := by omega
  have hb3 : (i : Int) ≤ (n : Int) + 1 := by omega
  have hb4 : ¬ (cap = i) := by omega
  have hb5 : (cap : Int) < (n : Int) + 1 := by omega
  have hb6 : (i : Int) + 1 ≤ (n : Int) + 1 := by omega
  have hb7 : ¬ (G = i) := by omega
  have hb8 : (i : Int) ≤ (n : Int) := by omega
  have hi1 : i ≤ n + 1 := by omega
  have hic : i ≤ cap := by omega
  have hng : n + 1 ≤ G := hG
  clear hkk ha
  go_enter Try.func141, Try.ntmps141
  go_wp2_with (first
    | (at_builtin; refine Lib.wpList_append_run _ rfl _ _ _ _ rfl _ _ rfl rfl _ _ (ha' _) ?_)
    | (at_builtin; refine wpList_copy_runI _ rfl _ _ 23 23 rfl _ _ rfl rfl (h1 _ _ _) ?_))
  go_region_law_o (refine step_copy_runI rfl _ _ 23 23 rfl _ _ (by simp [Act.eval, Act.put]) (by simp [Act.eval, Act.put]) (h2 _ _ _) ?_)
  go_wp2
  go_ret
  exact ⟨rfl, rfl⟩
theorem insert_edge_ok {l lv ver verv i : Nat} {st : Own} {elems : List (List CV)} {x : List CV} {H : List (Nat × Blk)} {nx : Nat} {K : AV → List (Nat × Blk) → Nat → Prop} (hl : hget H l = some (.row ver 5 st elems)) (hlv : hget H lv = some (.row verv 5 .own [x])) (hne : lv ≠ l) (hi : i ≤ elems.length)
    (hby : (elems.length + 1) * 96 ≤ 140737488355328) (hk : K (.c (.ref l (ver + 1) 0 (elems.length + 1))) (hset H l (.row (ver + 1) 5 .own (elems.take i ++ x :: elems.drop i))) nx) :
    ACalls Try.prog 141 [.c (.ref l ver 0 elems.length), vI .i64 i, .c (.ref lv verv 0 1)] H nx K := by
  refine ⟨⟨Try.f141, Try.func141, by kernel_rfl, of_decide_eq_true (by kernel_rfl)⟩, fun w β F vals hs hsz hv => ?_⟩
  obtain ⟨vals⟩ := vals
  match vals, hsz with
  | [v0, v1, v2], _ =>
  have hv0 := hv 0 _ v0 rfl rfl
  obtain rfl := int_inv (hv 1 _ v1 rfl rfl)
  have hv2 := hv 2 _ v2 rfl rfl
  clear hv
  obtain ⟨hlt, _, ro2, ro3, ro4⟩ := ref_inv hv0 hl
  obtain ⟨hltv, _, _, _, rv4⟩ := ref_inv hv2 hlv
  obtain ⟨av, cv, rfl, hcv, hav, arrv, tyv, harrv, hszv⟩ := rv4 rfl
  have hav := hav (by omega)
  simp only [Nat.zero_mul, Nat.zero_add] at hav hszv
  subst hav
  have hup : hget (hset H l (.row (ver + 1) 5 .own (elems.take i ++ x :: elems.drop i))) = upd (hget H) l (.row (ver + 1) 5 .own (elems.take i ++ x :: elems.drop i)) := hget_hset _ _ _
  have hie : (Try.prog.info? 80).map (fun i => (i.size, i.bytes, i.zero.map fun z => z.cells.size)) = some (5, 96, some 5) := by kernel_rfl
  obtain ⟨ti, hti, hie⟩ := Option.map_eq_some_iff.1 hie
  simp only [Prod.mk.injEq] at hie
  obtain ⟨hts, htb, hie⟩ := hie
  obtain ⟨z, hz, hzs⟩ := Option.map_eq_some_iff.1 hie
  have hposl := (hs.pos _ _ _ _ _ hl)
  by_cases hin : i = elems.length
  · -- at the end
    subst hin
    have hap : appendA 5 ti.bytes (.c (.ref l ver 0 elems.length)) (.c (.ref lv verv 0 1)) nx (hget H) = some (.set (.c (.ref l (ver + 1) 0 (elems.length + 1))) l (.row (ver + 1) 5 .own (elems ++ [x]))) := by
      rw [htb]
      simp [appendA, content, hl, hlv, grown, hby]
    have hfree : Al (hget H) nx nx := .inl ⟨by
      cases hq : hget H nx with
      | none => rfl
      | some b => have := hs.dom _ _ hq; omega, Nat.le_refl _⟩
    obtain ⟨nv, v, w', β', F', hrun, hnv, hall⟩ := append_ok (ty := 23) (zc := []) hs Try.underlying23 hti hz (by rw [hts]; exact hzs) hts (by decide) Try.underlying23 rfl (by rw [htb]; decide) hv0 hv2 hfree hap
    obtain ⟨s1, s2, s3⟩ := hall nx (Nat.le_refl _) (fun q => by cases q)
    have hrun' : (Builtin.append_ #[23, 23] 23 #[v0, .slice (some ⟨β lv, 0, none⟩) 1 cv]).run Try.prog w = .ok v w' := by
      simp only [Sem.run_bind] at hrun
      generalize (Builtin.append_ #[23, 23] 23 #[v0, .slice (some ⟨β lv, 0, none⟩) 1 cv]).run Try.prog w = q at hrun ⊢
      cases q with
      | ok v' w1 =>
        simp only [Result.andThen_ok, Sem.run_pure, Result.ok.injEq] at hrun
        obtain ⟨rfl, rfl⟩ := hrun
        rcases hnv with q | ⟨q, _⟩
        · injection q with q; rw [q]
        · cases q
      | _ => cases hrun
    have hv0' : ∃ base cap, v0 = .slice base elems.length cap ∧ elems.length ≤ cap := by
      cases st with
      | nil => exact ⟨none, 0, by rw [ro2 rfl, hposl.2.2 (by decide)]; rfl, by rw [hposl.2.2 (by decide)]; exact Nat.le_refl _⟩
      | emp => obtain ⟨a, ha⟩ := ro3 rfl; exact ⟨some a, 0, by rw [ha, hposl.2.2 (by decide)]; rfl, by rw [hposl.2.2 (by decide)]; exact Nat.le_refl _⟩
      | own => obtain ⟨a, cap, rfl, hcap, _⟩ := ro4 rfl; exact ⟨some a, cap, rfl, hcap⟩
    obtain ⟨base, cap, rfl, hcap⟩ := hv0'
    refine (walkA_edge base elems.length cap _ cv _ rfl hcap (by omega) w w' v hrun').mono ?_
    rintro e w1 ⟨rfl, rfl⟩
    have he : elems.take elems.length ++ x :: elems.drop elems.length = elems ++ [x] := by simp
    rw [he] at hk hup
    refine ⟨_, _, _, v, β', F', rfl, hk, ?_, ?_, ?_⟩
    · rw [hup]; exact s1
    · rw [hup]; exact s3
    · rw [hup]; exact s2
  · have hlt' : i < elems.length := by omega
    have hst : st = .own := by
      cases st with
      | own => rfl
      | _ => rw [hposl.2.2 (by decide)] at hlt'; simp at hlt'
    subst hst
    obtain ⟨a, cap, rfl, hcap, ha, arr, ty, harr, hszl⟩ := ro4 rfl
    have ha := ha (by omega)
    simp only [Nat.zero_mul, Nat.zero_add] at ha hszl
    subst ha
    have hbne : β lv ≠ β l := fun q => hne (hs.inj _ _ ⟨_, _, _, hlv⟩ ⟨_, _, _, hl⟩ q)
    have hV : RepE w F β (hget H) nx 5 [x] (seg arrv 0 5).toArray := by
      obtain ⟨arr', ty', harr', hle', hr'⟩ := hs.row _ _ _ _ hlv
      rw [harrv] at harr'
      injection harr' with harr'
      injection harr' with q1 q2
      subst q1
      simp only [List.length_cons, List.length_nil] at hle'
      refine ⟨by simp [seg_length], fun k e he => ?_, fun k j e c he hc => ?_⟩
      · exact (hs.pos _ _ _ _ _ hlv).2.1 k e he
      · have hk : k = 0 := by have := (List.getElem?_eq_some_iff.1 he).1; simp at this; omega
        subst hk
        have hj : j < 5 := by rw [← (hs.pos _ _ _ _ _ hlv).2.1 0 e he]; exact (List.getElem?_eq_some_iff.1 hc).1
        obtain ⟨v, hv, hr⟩ := hr' 0 j e c he hc
        refine ⟨v, ?_, hr⟩
        rw [List.getElem?_toArray, Nat.zero_mul, Nat.zero_add, seg_get _ _ _ _ hj (by omega)]
        simpa using hv
    have hV1 := seg_one hs hlv harrv 0 5 (by simp)
    have hld : ∀ w' : World, w'.heap[β lv]? = w.heap[β lv]? → (loadCells ⟨β lv, 0, none⟩ 5).run Try.prog w' = .ok (seg arrv 0 5).toArray w' := fun w' hw => load_seg Try.prog (hw.trans harrv) 0 5 (by rw [← hszv]; have := Nat.mul_le_mul_right 5 hcv; omega)
    by_cases hroom : elems.length + 1 ≤ cap
    · obtain ⟨r1, W1, r2, W2, c1, c2, ⟨arr', ha1, ha2⟩, hall⟩ := ins_in (P := Try.prog) (t := 23) (e := 80) hs Try.underlying23 (by simp [tSize, hti, hts]) hl hlt' harr (by rw [← hszl]; exact Nat.mul_le_mul_right _ hroom) hV hV1 hbne hld
      obtain ⟨s1, s2⟩ := hall nx (Nat.le_refl _)
      have hov : ∀ lb cb o, (callFunc 176 #[.slice (some ⟨β lv, 0, none⟩) 1 cv, .slice (some ⟨β l, o, none⟩) lb cb]).run Try.prog w = .ok (.value (.bool false)) w := fun lb cb o => by
        rw [run_callFunc_extern Try.func176 (by kernel_rfl) (by kernel_rfl) (by kernel_rfl) (e := Extern.SlicesOverlaps.overlaps #[23, 23] #[4]) (by kernel_rfl),
          Lib.run_overlaps_apart w 23 4 80 Try.underlying23 5 Try.sizeOf80 ⟨β lv, 0, none⟩ ⟨β l, o, none⟩ 1 cv lb cb hbne tyv ty arrv.size arr.size (by simp [World.shape?, harrv]) (by simp [World.shape?, harr]) (by rw [← hszl]; have := Nat.mul_le_mul_right 5 hroom; omega) (by simp [World.frozen?, harrv]) (by simp [World.frozen?, harrv])]
        rfl
      refine (walkC_edge (β l) elems.length cap i (β lv) 0 cv hlt' hroom (by omega) w W1 W2 r1 r2 hov c1 c2).mono ?_
      rintro e w1 ⟨rfl, rfl⟩
      refine ⟨_, _, _, _, updN β l (β l), F, rfl, hk, ?_, ?_, ?_⟩
      · rw [hup]; exact s1
      · rw [hup]
        exact refVal hlt ⟨by simp; omega, (by intro q; cases q), (by intro q; cases q), fun _ => ⟨_, cap, rfl, hroom, fun _ => by simp [updN], arr', ty, by simpa [updN] using ha1, by rw [ha2, Nat.zero_add]; exact hszl⟩⟩
      · rw [hup]; exact s2
    · obtain ⟨G, W1, r2, W2, r3, W3, hG, hGm, c1, c2, c3, ⟨arr', ha1, ha2⟩, hall⟩ := ins_out (P := Try.prog) (cap := cap) (t := 23) (tn := 3) (e := 80) (kn := .i64) hs Try.underlying23 Try.underlying3 hti hts hz hzs hl hlt' harr (by omega) (by rw [htb]; exact hby) (by omega) hV hV1 (hs.block_lt ⟨_, _, _, hlv⟩) hld
      obtain ⟨s1, s2⟩ := hall nx (Nat.le_refl _)
      refine (walkB_edge (β l) elems.length cap i (β lv) 0 cv w.heap.size G hlt' hcap (by omega) hG (by omega) w W1 W2 W3 r2 r3 c1 c2 c3).mono ?_
      rintro e w1 ⟨rfl, rfl⟩
      refine ⟨_, _, _, _, updN β l w.heap.size, F, rfl, hk, ?_, ?_, ?_⟩
      · rw [hup]; exact s1
      · rw [hup]
        exact refVal hlt ⟨by simp; omega, (by intro q; cases q), (by intro q; cases q), fun _ => ⟨_, G, rfl, hG, fun _ => by simp [updN], arr', 80, by simpa [updN] using ha1, by rw [ha2, Nat.zero_add]⟩⟩
      · rw [hup]; exact s2
end Go.Ab
end PInE

section PDelE
/- Contracts, library: slices.Delete of one element, at [edge]. -/
set_option linter.unusedVariables false
set_option linter.unusedSimpArgs false
namespace Go.Ab
open Go.Proofs

theorem delete_edge_ok {l ver i : Nat} {elems : List (List CV)} {H : List (Nat × Blk)} {nx : Nat} {K : AV → List (Nat × Blk) → Nat → Prop} (hl : hget H l = some (.row ver 5 .own elems)) (hi : i < elems.length) (h63 : (elems.length : Int) ≤ 9223372036854775807)
    (hk : K (.c (.ref l (ver + 1) 0 (elems.length - 1))) (hset H l (.row (ver + 1) 5 .own (elems.take i ++ elems.drop (i + 1)))) (nx + 8)) :
    ACalls Try.prog n_slices_Delete_api_Edge_api_Edge [.c (.ref l ver 0 elems.length), vI .i64 i, vI .i64 ((i : Int) + 1)] H nx K := by
  refine a_slices_Delete_api_Edge_api_Edge (Nat.le_of_ble_eq_true rfl) ?_
  have e0 : ¬ ((i : Int) = (i : Int) + 1) := by omega
  have e1 : (0 : Int) ≤ (i : Int) + 1 := by omega
  have e2 : ((i : Int) + 1).toNat = i + 1 := by omega
  have e3 : (0 : Int) ≤ (i : Int) := by omega
  have e4 : (0 : Int) ≤ (elems.length : Int) := by omega
  have e5 : i ≤ i + 1 := by omega
  have e6 : i + 1 ≤ elems.length := by omega
  have e7 : i ≤ elems.length := by omega
  have e8 : ¬ i = elems.length := by omega
  have e9 : List.take (elems.length - (i + 1)) (List.drop (i + 1) elems) = List.drop (i + 1) elems := List.take_of_length_le (by simp)
  have e10 : i + 1 + (elems.length - (i + 1)) ≤ elems.length := by omega
  have e11 : i + (elems.length - (i + 1)) = elems.length - 1 := by omega
  have e12 : elems.length - 1 ≤ elems.length := by omega
  have e13 : (setSeg elems i (List.drop (i + 1) elems)).length = elems.length := setSeg_length _ _ _ (by simp; omega)
  have e14 : elems.length - 1 + (elems.length - (elems.length - 1)) ≤ elems.length := by omega
  have e15 : elems.length - (elems.length - 1) = 1 := by omega
  have e16 : elems.length - 1 + 1 ≤ elems.length := by omega
  have e17 : (0 : Int) ≤ ((elems.length - 1 : Nat) : Int) := by omega
  have e18 : ∀ z : List CV, (setSeg (setSeg elems i (List.drop (i + 1) elems)) (elems.length - 1) (List.replicate 1 z)).length = elems.length := fun z => by rw [setSeg_length _ _ _ (by rw [e13]; simp; omega), e13]
  have e19 : ∀ z : List CV, (setSeg (setSeg elems i (List.drop (i + 1) elems)) (elems.length - 1) (List.replicate 1 z)).take (elems.length - 1) = elems.take i ++ elems.drop (i + 1) := fun z => by
    have q1 : setSeg elems i (List.drop (i + 1) elems) = elems.take i ++ elems.drop (i + 1) ++ elems.drop (elems.length - 1) := by
      unfold setSeg
      rw [List.length_drop, show i + (elems.length - (i + 1)) = elems.length - 1 by omega]
    have q2 : (elems.take i ++ elems.drop (i + 1)).length = elems.length - 1 := by simp; omega
    rw [q1]
    unfold setSeg
    rw [List.append_assoc, List.take_append_of_le_length (by rw [List.length_take]; simp; omega), List.take_take, Nat.min_self, List.take_append_of_le_length (by omega), ← q2, List.take_length]
  simp -implicitDefEqProofs only [go_sem, s_slices_Delete_api_Edge_api_Edge, reduceIte, Nat.reduceEqDiff, lenA, sliceA, natA, hl, Int.toNat_natCast, Option.bind_eq_bind, Option.bind_some, e0, e1, e2, e3, e4, e5, e6, e7, e8, e9, e10, e11, e12, e13, e14, e15, e16, decide_false, decide_true, Nat.zero_add, Nat.le_refl, and_self, Option.isSome_some, Nat.zero_le, Nat.sub_zero, appendA, content, copyA, clearA, DOD, DO, pure0, List.length_drop, e17]
  simp -implicitDefEqProofs only [go_sem, reduceIte, Nat.reduceEqDiff, ghK, doGh, e12, e18, e19]
  exact hk
end Go.Ab
end PDelE

section PWrE
/- Contracts, library: slices.Insert and slices.Delete of one element, over values, at [edge]. -/
set_option linter.unusedVariables false
set_option linter.unusedSimpArgs false
namespace Go.Ab
open Go.Proofs

theorem ins_edge {l lv ver verv i : Nat} {st : Own} {xl : List FEdge} {a : FEdge} {H : List (Nat × Blk)} {nx : Nat} {K : AV → List (Nat × Blk) → Nat → Prop} (hl : hget H l = some (.row ver 5 st (xl.map fun y => (encE y).map .p))) (hlv : hget H lv = some (.row verv 5 .own [(encE a).map .p])) (hne : lv ≠ l) (hi : i ≤ xl.length)
    (hby : (xl.length + 1) * 96 ≤ 140737488355328) (hk : K (.c (.ref l (ver + 1) 0 (xl.length + 1))) (hset H l (.row (ver + 1) 5 .own ((insAt xl i a).map fun y => (encE y).map .p))) nx) :
    ACalls Try.prog 141 [.c (.ref l ver 0 xl.length), vI .i64 i, .c (.ref lv verv 0 1)] H nx K := by
  have := insert_edge_ok (i := i) (K := K) (nx := nx) hl hlv hne (by simpa using hi) (by simpa using hby)
  rw [ins_map (fun y => (encE y).map CV.p)] at this
  simp only [List.length_map] at this
  exact this hk
theorem del_edge {l ver i : Nat} {xl : List FEdge} {H : List (Nat × Blk)} {nx : Nat} {K : AV → List (Nat × Blk) → Nat → Prop} (hl : hget H l = some (.row ver 5 .own (xl.map fun y => (encE y).map .p))) (hi : i < xl.length) (h63 : (xl.length : Int) ≤ 9223372036854775807)
    (hk : K (.c (.ref l (ver + 1) 0 (xl.length - 1))) (hset H l (.row (ver + 1) 5 .own ((delAt xl i).map fun y => (encE y).map .p))) (nx + 8)) :
    ACalls Try.prog n_slices_Delete_api_Edge_api_Edge [.c (.ref l ver 0 xl.length), vI .i64 i, vI .i64 ((i : Int) + 1)] H nx K := by
  have := delete_edge_ok (i := i) (K := K) (nx := nx) hl (by simpa using hi) (by simpa using h63)
  rw [del_map (fun y => (encE y).map CV.p)] at this
  simp only [List.length_map] at this
  exact this hk
end Go.Ab
end PWrE

section PCh2
/- Contracts, part 19b: what comes to a graph whose rows are laid in the heap. -/
set_option linter.unusedVariables false
set_option linter.unusedSimpArgs false
set_option maxHeartbeats 4000000
namespace Go.Ab
open Go.Proofs

/-- The heap of a graph that is changed: its box, its nodes, its edges. -/
abbrev HG (v w : Nat) (s t : Own) (xl : List FNode) (yl : List FEdge) : List (Nat × Blk) :=
  [(11, .row 0 2 .own [[.ref 4 v 0 xl.length, .ref 7 w 0 yl.length]]), (4, rowNv v s xl), (7, rowEv w t yl)]
/-- The state of a row that was of state s and holds these elements now. -/
def stOf {α : Type} (s : Own) (l : List α) : Own := if l.isEmpty then s else .own
theorem st_same {α : Type} {s : Own} {l : List α} (h : s ≠ .own → l = []) : s = stOf s l := by
  unfold stOf
  split
  · rfl
  · rename_i hl
    cases s with
    | own => rfl
    | _ => rw [h (by decide)] at hl; simp at hl
theorem st_ins {α : Type} {s : Own} {l : List α} {i : Nat} {a : α} : Own.own = stOf s (insAt l i a) := by simp [stOf, insAt]
theorem st_own {α : Type} {s : Own} {l : List α} (h : s = .own) : Own.own = stOf s l := by subst h; simp [stOf]
theorem stOf_own {α : Type} {s : Own} {l : List α} (h : stOf s l ≠ .own) : l = [] := by
  unfold stOf at h
  split at h
  · rename_i hl; simpa using hl
  · exact absurd rfl h
theorem stOf_stOf {α : Type} {s : Own} {l m : List α} (h : s ≠ .own → l = []) : stOf (stOf s l) m = stOf s m := by rw [← st_same h]
def GPost (s t : Own) (q : List FNode × List FEdge × Int) (r : AV) (R' : List (Nat × Blk)) : Prop :=
  r = vI .i64 q.2.2 ∧ ∃ v w, R' = HG v w (stOf s q.1) (stOf t q.2.1) q.1 q.2.1
def GQ (s t : Own) (q : List FNode × List FEdge × Int) : AV → List (Nat × Blk) → Nat → Prop := fun r H' _ =>
  ∃ R', GPost s t q r R' ∧ R'.map (·.1) = [11, 4, 7] ∧ R'.all (fun x => x.2.isRow) = true ∧ (∀ x ∈ R', hget H' x.1 = some x.2) ∧ R'.all (fun x => inB [11, 4, 7] x.2) = true ∧ inA [11, 4, 7] r = true
theorem GQ.of {s0 t0 : Own} {q : List FNode × List FEdge × Int} {e : Int} {v w : Nat} {s t : Own} {H' : List (Nat × Blk)} {nx : Nat} (he : e = q.2.2) (h1 : hget H' 11 = some (.row 0 2 .own [[.ref 4 v 0 q.1.length, .ref 7 w 0 q.2.1.length]])) (h2 : hget H' 4 = some (rowNv v s q.1)) (h3 : hget H' 7 = some (rowEv w t q.2.1))
    (hs : s = stOf s0 q.1) (ht : t = stOf t0 q.2.1) : GQ s0 t0 q (vI .i64 e) H' nx := by
  subst hs
  subst ht
  refine ⟨HG v w _ _ q.1 q.2.1, ⟨by rw [he], v, w, rfl⟩, rfl, rfl, ?_, ?_, rfl⟩
  · intro x hx
    simp only [HG, List.mem_cons, List.not_mem_nil, or_false] at hx
    rcases hx with rfl | rfl | rfl
    · exact h1
    · exact h2
    · exact h3
  · simp [inB, inC]

def comesL (xl : List FNode) (yl : List FEdge) (o : MOp) : List FNode × List FEdge × Int :=
  if o.kind = 1 then (if met FNode.id xl o.id then (xl, yl, 10) else if (500 : Int) ≤ (xl.length : Int) then (xl, yl, 5) else (insAt xl (low FNode.id xl o.id) ⟨o.id, .none, .none⟩, yl, 0))
  else if met FEdge.id yl o.id then (xl, yl, 10) else if met FNode.id xl o.src && met FNode.id xl o.dst then (if (1000 : Int) ≤ (yl.length : Int) then (xl, yl, 5) else (xl, insAt yl (low FEdge.id yl o.id) ⟨o.id, o.src, o.dst, .none, .none⟩, 0)) else (xl, yl, 9)

abbrev n_slices_Insert_api_Node_api_Node : Nat := 140
abbrev n_slices_Insert_api_Edge_api_Edge : Nat := 141
theorem insN_L {l lv v i al : Nat} {st : Own} {xl : List FNode} {a : FNode} (hne : lv ≠ l) (hi : i ≤ xl.length) (hby : (xl.length + 1) * 64 ≤ 140737488355328) :
    LCalls Try.prog n_slices_Insert_api_Node_api_Node [.c (.ref l v 0 xl.length), vI .i64 i, .c (.ref lv 0 0 1)] [(l, rowNv v st xl), (lv, rowNv 0 .own [a])] (.c (.ref l (v + 1) 0 (xl.length + 1))) (some (l, rowNv (v + 1) .own (insAt xl i a))) al :=
  LCalls.of ⟨_, Try.func140, by kernel_rfl, of_decide_eq_true (by kernel_rfl)⟩ rfl (fun _ _ h => by cases h; exact ⟨.inl (by simp), rfl⟩) (fun H nx hx =>
    ins_node (hx (l, rowNv v st xl) (by simp)) (hx (lv, rowNv 0 .own [a]) (by simp)) hne hi hby ⟨rfl, by rw [hget_hset]; rfl, rfl⟩)
theorem insE_L {l lv v i al : Nat} {st : Own} {xl : List FEdge} {a : FEdge} (hne : lv ≠ l) (hi : i ≤ xl.length) (hby : (xl.length + 1) * 96 ≤ 140737488355328) :
    LCalls Try.prog n_slices_Insert_api_Edge_api_Edge [.c (.ref l v 0 xl.length), vI .i64 i, .c (.ref lv 0 0 1)] [(l, rowEv v st xl), (lv, rowEv 0 .own [a])] (.c (.ref l (v + 1) 0 (xl.length + 1))) (some (l, rowEv (v + 1) .own (insAt xl i a))) al :=
  LCalls.of ⟨_, Try.func141, by kernel_rfl, of_decide_eq_true (by kernel_rfl)⟩ rfl (fun _ _ h => by cases h; exact ⟨.inl (by simp), rfl⟩) (fun H nx hx =>
    ins_edge (hx (l, rowEv v st xl) (by simp)) (hx (lv, rowEv 0 .own [a]) (by simp)) hne hi hby ⟨rfl, by rw [hget_hset]; rfl, rfl⟩)
theorem LCalls.calld {P : Program} {f : Nat} {args : List AV} {R : List (Nat × Blk)} {r : AV} {l : Nat} {b : Blk} {bef : List Nat} {n0 i : Nat} (h : LCalls P f args R r (some (l, b)) (n0 + i)) (hl : ¬ l = n0 + i) {seen : Seen} {dst : Option Nat} {s : St} {K : Seen → St → Prop} (hx : ∀ x ∈ R, hget s.H x.1 = some x.2)
    (hc : Go.Ab.clear (bef.getD i 0) (R.map (·.1)) [l] seen = true) (hk : K (addS i (R.map (·.1)) [l] seen) ⟨putD s.env dst r, hset s.H l b, s.nx⟩) : CALLD P bef n0 i seen f args dst s K :=
  ⟨⟨R, r, _, h, hx, hc, by simp only [effL, if_neg hl]; exact hk⟩⟩
theorem in1 {H : Heap} {l : Nat} {b : Blk} (h : H l = some b) : ∀ x ∈ [(l, b)], H x.1 = some x.2 := by
  intro x hx
  obtain rfl := List.mem_singleton.1 hx
  exact h
theorem in2 {H : Heap} {l m : Nat} {b c : Blk} (h : H l = some b) (k : H m = some c) : ∀ x ∈ [(l, b), (m, c)], H x.1 = some x.2 := by
  intro x hx
  simp only [List.mem_cons, List.not_mem_nil, or_false] at hx
  rcases hx with rfl | rfl
  · exact h
  · exact k
theorem comes_ok {v w : Nat} {s t : Own} {xl : List FNode} {yl : List FEdge} (hs : s ≠ .own → xl = []) (ht : t ≠ .own → yl = []) (hx : Rises FNode.id xl) (hy : Rises FEdge.id yl) (b1 : xl.length ≤ 1000000000) (b2 : yl.length ≤ 1000000000) (o : MOp) (k : Nat) :
    ACalls Try.prog n_graph_change_comes [.c (.ptr 11 0 0 0), aggP (encO o)] (HG v w s t xl yl) (k + 12) (GQ s t (comesL xl yl o)) := by
  refine a_graph_change_comes (Nat.le_of_ble_eq_true rfl) ?_
  have cN := fun q => nodeR_ok (l := 4) (v := v) (le := 7) (ve := w) (m := yl.length) hs hx (by omega) q
  have cE := fun q => edgeR_ok (l := 7) (v := w) (ln := 4) (vn := v) (m := xl.length) ht hy (by omega) q
  obtain ⟨kind, id, src, dst, key, val⟩ := o
  unfold comesL
  simp only
  by_cases hk : kind = 1
  · subst hk
    simp -implicitDefEqProofs only [go_sem, reduceIte, Nat.reduceEqDiff, s_graph_change_comes, encO, nilChkA, rowOf, cellA, Nat.add_assoc]
    refine (cN id).calld (in1 (by rfl)) (by simp -implicitDefEqProofs only [go_sem, reduceIte, Nat.reduceEqDiff]) ?_
    cases hm : met FNode.id xl id with
    | true =>
      simp -implicitDefEqProofs only [go_sem, reduceIte, Nat.reduceEqDiff, nilChkA, rowOf, cellA, Nat.add_assoc]
      exact GQ.of rfl rfl rfl rfl (st_same hs) (st_same ht)
    | false =>
      simp -implicitDefEqProofs only [go_sem, reduceIte, Nat.reduceEqDiff, nilChkA, rowOf, cellA, lenA, Nat.add_assoc]
      refine condW_split (fun h => ?_) (fun h => ?_)
      · have h5 : (500 : Int) ≤ (xl.length : Int) := by simpa using h
        simp -implicitDefEqProofs only [go_sem, reduceIte, Nat.reduceEqDiff, h5]
        exact GQ.of rfl rfl rfl rfl (st_same hs) (st_same ht)
      · have h5 : ¬ (500 : Int) ≤ (xl.length : Int) := by simpa using h
        simp -implicitDefEqProofs only [go_sem, reduceIte, Nat.reduceEqDiff, h5, nilChkA, rowOf, cellA, lenA, Nat.add_assoc, fillA, litA, setSeg, List.drop_zero, List.cons_append, List.nil_append, List.append_nil, List.drop_succ_cons, List.drop_nil, List.take_succ_cons, List.take_zero]
        refine (insN_L (st := s) (v := v) (a := ⟨id, .none, .none⟩) (by omega) (low_le _ _) (by omega)).calld (by omega) (in2 (by simp -implicitDefEqProofs only [go_sem, reduceIte, Nat.reduceEqDiff]) (by simp -implicitDefEqProofs only [go_sem, reduceIte, Nat.reduceEqDiff]; rfl)) (by simp -implicitDefEqProofs only [go_sem, reduceIte, Nat.reduceEqDiff]) ?_
        simp -implicitDefEqProofs only [go_sem, reduceIte, Nat.reduceEqDiff, nilChkA, rowOf, cellA, lenA, storeA, setSeg, Nat.add_assoc, List.drop_zero, List.cons_append, List.nil_append, List.append_nil, List.drop_succ_cons, List.drop_nil, List.take_succ_cons, List.take_zero, and_self, hset]
        exact GQ.of (v := v + 1) (w := w) (s := .own) (t := t) rfl (by simp [hget, ins_len]) (by simp [hget]) (by simp [hget]) st_ins (st_same ht)
  · simp -implicitDefEqProofs only [go_sem, reduceIte, Nat.reduceEqDiff, s_graph_change_comes, hk, encO, nilChkA, rowOf, cellA, Nat.add_assoc]
    refine (cE id).calld (in1 (by rfl)) (by simp -implicitDefEqProofs only [go_sem, reduceIte, Nat.reduceEqDiff]) ?_
    simp -implicitDefEqProofs only [go_sem, reduceIte, Nat.reduceEqDiff, nilChkA, rowOf, cellA, Nat.add_assoc]
    refine (cN src).calld (in1 (by rfl)) (by simp -implicitDefEqProofs only [go_sem, reduceIte, Nat.reduceEqDiff]) ?_
    simp -implicitDefEqProofs only [go_sem, reduceIte, Nat.reduceEqDiff, nilChkA, rowOf, cellA, Nat.add_assoc]
    refine (cN dst).calld (in1 (by rfl)) (by simp -implicitDefEqProofs only [go_sem, reduceIte, Nat.reduceEqDiff]) ?_
    cases hm : met FEdge.id yl id with
    | true =>
      simp -implicitDefEqProofs only [go_sem, reduceIte, Nat.reduceEqDiff, nilChkA, rowOf, cellA, Nat.add_assoc]
      exact GQ.of rfl rfl rfl rfl (st_same hs) (st_same ht)
    | false =>
    cases m1 : met FNode.id xl src with
    | false =>
      simp -implicitDefEqProofs only [go_sem, reduceIte, Nat.reduceEqDiff, nilChkA, rowOf, cellA, Nat.add_assoc, Bool.false_and]
      exact GQ.of rfl rfl rfl rfl (st_same hs) (st_same ht)
    | true =>
    cases m2 : met FNode.id xl dst with
    | false =>
      simp -implicitDefEqProofs only [go_sem, reduceIte, Nat.reduceEqDiff, nilChkA, rowOf, cellA, Nat.add_assoc, Bool.and_false]
      exact GQ.of rfl rfl rfl rfl (st_same hs) (st_same ht)
    | true =>
      simp -implicitDefEqProofs only [go_sem, reduceIte, Nat.reduceEqDiff, nilChkA, rowOf, cellA, lenA, Nat.add_assoc, Bool.and_self]
      refine condW_split (fun h => ?_) (fun h => ?_)
      · have h5 : (1000 : Int) ≤ (yl.length : Int) := by simpa using h
        simp -implicitDefEqProofs only [go_sem, reduceIte, Nat.reduceEqDiff, h5]
        exact GQ.of rfl rfl rfl rfl (st_same hs) (st_same ht)
      · have h5 : ¬ (1000 : Int) ≤ (yl.length : Int) := by simpa using h
        simp -implicitDefEqProofs only [go_sem, reduceIte, Nat.reduceEqDiff, h5, nilChkA, rowOf, cellA, lenA, Nat.add_assoc, fillA, litA, setSeg, List.drop_zero, List.cons_append, List.nil_append, List.append_nil, List.drop_succ_cons, List.drop_nil, List.take_succ_cons, List.take_zero]
        refine (insE_L (st := t) (v := w) (a := ⟨id, src, dst, .none, .none⟩) (by omega) (low_le _ _) (by omega)).calld (by omega) (in2 (by simp -implicitDefEqProofs only [go_sem, reduceIte, Nat.reduceEqDiff]) (by simp -implicitDefEqProofs only [go_sem, reduceIte, Nat.reduceEqDiff]; rfl)) (by simp -implicitDefEqProofs only [go_sem, reduceIte, Nat.reduceEqDiff]) ?_
        simp -implicitDefEqProofs only [go_sem, reduceIte, Nat.reduceEqDiff, nilChkA, rowOf, cellA, lenA, storeA, setSeg, Nat.add_assoc, List.drop_zero, List.cons_append, List.nil_append, List.append_nil, List.drop_succ_cons, List.drop_nil, List.take_succ_cons, List.take_zero, and_self, hset]
        exact GQ.of (v := v) (w := w + 1) (s := s) (t := .own) rfl (by simp [hget, ins_len]) (by simp [hget]) (by simp [hget]) (st_same hs) st_ins
end Go.Ab
end PCh2

section PCh3
/- Contracts, part 19c: what goes from a graph whose rows are laid in the heap. -/
set_option linter.unusedVariables false
set_option linter.unusedSimpArgs false
set_option maxHeartbeats 4000000
namespace Go.Ab
open Go.Proofs

def goesL (xl : List FNode) (yl : List FEdge) (o : MOp) : List FNode × List FEdge × Int :=
  if o.kind = 4 then (if met FEdge.id yl o.id then (xl, delAt yl (low FEdge.id yl o.id), 0) else (xl, yl, 9))
  else if met FNode.id xl o.id then (if yl.any (touches o.id) then (xl, yl, 11) else (delAt xl (low FNode.id xl o.id), yl, 0)) else (xl, yl, 9)
theorem goes_ok {v w : Nat} {s t : Own} {xl : List FNode} {yl : List FEdge} (hs : s ≠ .own → xl = []) (ht : t ≠ .own → yl = []) (hx : Rises FNode.id xl) (hy : Rises FEdge.id yl) (b1 : xl.length ≤ 1000000000) (b2 : yl.length ≤ 1000000000) (o : MOp) (k : Nat) :
    ACalls Try.prog n_graph_change_goes [.c (.ptr 11 0 0 0), aggP (encO o)] (HG v w s t xl yl) (k + 12) (GQ s t (goesL xl yl o)) := by
  refine a_graph_change_goes (Nat.le_of_ble_eq_true rfl) ?_
  have cN := fun q => nodeR_ok (l := 4) (v := v) (le := 7) (ve := w) (m := yl.length) hs hx (by omega) q
  have cE := fun q => edgeR_ok (l := 7) (v := w) (ln := 4) (vn := v) (m := xl.length) ht hy (by omega) q
  have cC := containsE_R (l := 7) (v := w) ht b2 o
  obtain ⟨kind, id, src, dst, key, val⟩ := o
  unfold goesL
  simp only at cC ⊢
  by_cases hk : kind = 4
  · subst hk
    simp -implicitDefEqProofs only [go_sem, reduceIte, Nat.reduceEqDiff, s_graph_change_goes, encO, nilChkA, rowOf, cellA, Nat.add_assoc]
    refine (cE id).calld (in1 (by rfl)) (by simp -implicitDefEqProofs only [go_sem, reduceIte, Nat.reduceEqDiff]) ?_
    cases hm : met FEdge.id yl id with
    | false =>
      simp -implicitDefEqProofs only [go_sem, reduceIte, Nat.reduceEqDiff, nilChkA, rowOf, cellA, Nat.add_assoc]
      exact GQ.of rfl rfl rfl rfl (st_same hs) (st_same ht)
    | true =>
      have hlt := low_met_lt hy hm
      have hto : t = .own := by
        cases t with
        | own => rfl
        | _ => rw [ht (by decide)] at hlt; simp at hlt
      have hw1 : IntKind.i64.wrap ((low FEdge.id yl id : Nat) + 1 : Int) = ((low FEdge.id yl id : Nat) : Int) + 1 := by rw [wrap_i64 (by omega) (by omega)]
      simp -implicitDefEqProofs only [go_sem, reduceIte, Nat.reduceEqDiff, nilChkA, rowOf, cellA, lenA, Nat.add_assoc, hw1]
      refine .of (del_edge (ver := w) (xl := yl) (by subst hto; rfl) hlt (by omega) ?_)
      simp -implicitDefEqProofs only [go_sem, reduceIte, Nat.reduceEqDiff, nilChkA, rowOf, cellA, lenA, storeA, setSeg, Nat.add_assoc, List.drop_zero, List.cons_append, List.nil_append, List.append_nil, List.drop_succ_cons, List.drop_nil, List.take_succ_cons, List.take_zero, and_self, hset]
      exact GQ.of (v := v) (w := w + 1) (s := s) (t := .own) rfl (by simp [hget, del_len hlt]) (by simp [hget]) (by simp [hget]) (st_same hs) (st_own hto)
  · simp -implicitDefEqProofs only [go_sem, reduceIte, Nat.reduceEqDiff, s_graph_change_goes, hk, encO, nilChkA, rowOf, cellA, Nat.add_assoc]
    refine (cN id).calld (in1 (by rfl)) (by simp -implicitDefEqProofs only [go_sem, reduceIte, Nat.reduceEqDiff]) ?_
    cases hm : met FNode.id xl id with
    | false =>
      simp -implicitDefEqProofs only [go_sem, reduceIte, Nat.reduceEqDiff, nilChkA, rowOf, cellA, Nat.add_assoc]
      exact GQ.of rfl rfl rfl rfl (st_same hs) (st_same ht)
    | true =>
      have hlt := low_met_lt hx hm
      have hso : s = .own := by
        cases s with
        | own => rfl
        | _ => rw [hs (by decide)] at hlt; simp at hlt
      have hw1 : IntKind.i64.wrap ((low FNode.id xl id : Nat) + 1 : Int) = ((low FNode.id xl id : Nat) : Int) + 1 := by rw [wrap_i64 (by omega) (by omega)]
      simp -implicitDefEqProofs only [go_sem, reduceIte, Nat.reduceEqDiff, nilChkA, rowOf, cellA, lenA, Nat.add_assoc]
      refine cC.call (in1 (by rfl)) ?_
      cases ha : yl.any (touches id) with
      | true =>
        simp -implicitDefEqProofs only [go_sem, reduceIte, Nat.reduceEqDiff, nilChkA, rowOf, cellA, Nat.add_assoc]
        exact GQ.of rfl rfl rfl rfl (st_same hs) (st_same ht)
      | false =>
        simp -implicitDefEqProofs only [go_sem, reduceIte, Nat.reduceEqDiff, nilChkA, rowOf, cellA, lenA, Nat.add_assoc, hw1]
        refine .of (del_node (ver := v) (xl := xl) (by subst hso; rfl) hlt (by omega) ?_)
        simp -implicitDefEqProofs only [go_sem, reduceIte, Nat.reduceEqDiff, nilChkA, rowOf, cellA, lenA, storeA, setSeg, Nat.add_assoc, List.drop_zero, List.cons_append, List.nil_append, List.append_nil, List.drop_succ_cons, List.drop_nil, List.take_succ_cons, List.take_zero, and_self, hset]
        exact GQ.of (v := v + 1) (w := w) (s := .own) (t := t) rfl (by simp [hget, del_len hlt]) (by simp [hget]) (by simp [hget]) (st_own hso) (st_same ht)
end Go.Ab
end PCh3

section PCh4
/- Contracts, part 19d: what turns in a graph whose rows are laid in the heap. -/
set_option linter.unusedVariables false
set_option linter.unusedSimpArgs false
set_option maxHeartbeats 4000000
namespace Go.Ab
open Go.Proofs

def setN (n : FNode) (l : Sl Str) (p : Sl MProp) : FNode := ⟨n.id, l, p⟩
def setE (n : FEdge) (l : Sl Str) (p : Sl MProp) : FEdge := ⟨n.id, n.src, n.dst, l, p⟩
def turnN (n : FNode) (o : MOp) : FNode × Int := if (turnR n.labels n.props o).2.2 = 0 then (setN n (turnR n.labels n.props o).1 (turnR n.labels n.props o).2.1, 0) else (n, (turnR n.labels n.props o).2.2)
def turnEd (n : FEdge) (o : MOp) : FEdge × Int := if (turnR n.labels n.props o).2.2 = 0 then (setE n (turnR n.labels n.props o).1 (turnR n.labels n.props o).2.1, 0) else (n, (turnR n.labels n.props o).2.2)
def turnsL (xl : List FNode) (yl : List FEdge) (o : MOp) : List FNode × List FEdge × Int :=
  if ofEdge o.kind then (if met FEdge.id yl o.id then (match yl[low FEdge.id yl o.id]? with
    | some y => (xl, yl.set (low FEdge.id yl o.id) (turnEd y o).1, (turnEd y o).2)
    | none => (xl, yl, 9)) else (xl, yl, 9))
  else (if met FNode.id xl o.id then (match xl[low FNode.id xl o.id]? with
    | some y => (xl.set (low FNode.id xl o.id) (turnN y o).1, yl, (turnN y o).2)
    | none => (xl, yl, 9)) else (xl, yl, 9))
/-- Rows that turn may take. -/
def goodR (l : List Str) (p : List MProp) : Prop := Rises id l ∧ Rises MProp.key p ∧ l.length ≤ 1000000000 ∧ p.length ≤ 1000000000
theorem set_self {α : Type} {l : List α} {i : Nat} {y : α} (h : l[i]? = some y) : l.set i y = l := by
  refine List.ext_getElem? fun j => ?_
  rw [List.getElem?_set]
  by_cases hj : i = j
  · subst hj
    have hi := (List.getElem?_eq_some_iff.1 h).1
    simp [hi, h]
    rw [List.getElem?_eq_getElem hi] at h
    exact (Option.some.inj h).symm
  · rw [if_neg hj]
theorem turns_ok {v w : Nat} {s t : Own} {xl : List FNode} {yl : List FEdge} (hs : s ≠ .own → xl = []) (ht : t ≠ .own → yl = []) (hx : Rises FNode.id xl) (hy : Rises FEdge.id yl) (b1 : xl.length ≤ 1000000000) (b2 : yl.length ≤ 1000000000)
    (gx : ∀ n ∈ xl, goodR n.labels.l n.props.l) (gy : ∀ n ∈ yl, goodR n.labels.l n.props.l) (o : MOp) (k : Nat) :
    ACalls Try.prog n_graph_change_turns [.c (.ptr 11 0 0 0), aggP (encO o)] (HG v w s t xl yl) (k + 12) (GQ s t (turnsL xl yl o)) := by
  refine a_graph_change_turns (Nat.le_of_ble_eq_true rfl) ?_
  have cN := fun q => nodeR_ok (l := 4) (v := v) (le := 7) (ve := w) (m := yl.length) hs hx (by omega) q
  have cE := fun q => edgeR_ok (l := 7) (v := w) (ln := 4) (vn := v) (m := xl.length) ht hy (by omega) q
  have cT := fun (l : Sl Str) (p : Sl MProp) (h : goodR l.l p.l) => graphTurn_ok l p o h.1 h.2.1 h.2.2.1 h.2.2.2
  unfold turnsL turnN turnEd
  obtain ⟨kind, id, src, dst, key, val⟩ := o
  simp only
  simp -implicitDefEqProofs only [go_sem, reduceIte, Nat.reduceEqDiff, s_graph_change_turns, encO, nilChkA, rowOf, cellA, Nat.add_assoc]
  refine CALL_of (ofEdge_ok kind) ?_
  cases hk : ofEdge kind with
  | true =>
    simp -implicitDefEqProofs only [go_sem, reduceIte, Nat.reduceEqDiff, nilChkA, rowOf, cellA, Nat.add_assoc]
    refine (cE id).calld (in1 (by rfl)) (by simp -implicitDefEqProofs only [go_sem, reduceIte, Nat.reduceEqDiff]) ?_
    cases hm : met FEdge.id yl id with
    | false =>
      simp -implicitDefEqProofs only [go_sem, reduceIte, Nat.reduceEqDiff, nilChkA, rowOf, cellA, Nat.add_assoc]
      exact GQ.of rfl rfl rfl rfl (st_same hs) (st_same ht)
    | true =>
      obtain ⟨y, hy1, hy2, _⟩ := split_met hy hm
      have hlt := low_met_lt hy hm
      have hlt' : ((low FEdge.id yl id : Nat) : Int) < (yl.length : Int) := by omega
      have hto : t = .own := by
        cases t with
        | own => rfl
        | _ => rw [ht (by decide)] at hlt; simp at hlt
      have hT := cT y.labels y.props (gy y (List.mem_of_getElem? hy1))
      generalize hR : turnR y.labels y.props ⟨kind, id, src, dst, key, val⟩ = R at hT
      simp -implicitDefEqProofs only [go_sem, reduceIte, Nat.reduceEqDiff, nilChkA, rowOf, cellA, idxAA, hto, hlt', hy1, List.getElem?_map, Nat.add_assoc, Int.toNat_natCast]
      refine CALLD_of hT ?_
      by_cases h0 : R.2.2 = 0
      · simp -implicitDefEqProofs only [go_sem, reduceIte, Nat.reduceEqDiff, nilChkA, rowOf, cellA, idxAA, hto, hlt', hy1, h0, List.getElem?_map, Nat.add_assoc, Int.toNat_natCast, storeA, setSeg, List.drop_zero, List.cons_append, List.nil_append, List.append_nil, List.drop_succ_cons, List.drop_nil, List.take_succ_cons, List.take_zero, and_self, hset, map_set_get hlt, List.set_set]
        simp only [hR, h0, if_true]
        exact GQ.of (v := v) (w := w) (s := s) (t := .own) rfl (by simp [hget]) (by simp [hget]) (by simp [hget, List.map_set, setE]) (st_same hs) (st_own (by first | rfl | exact hto))
      · simp -implicitDefEqProofs only [go_sem, reduceIte, Nat.reduceEqDiff, nilChkA, rowOf, cellA, idxAA, hto, hlt', hy1, h0, List.getElem?_map, Nat.add_assoc, Int.toNat_natCast]
        simp only [hR, if_neg h0, set_self hy1]
        exact GQ.of (v := v) (w := w) (s := s) (t := .own) rfl rfl rfl rfl (st_same hs) (st_own (by first | rfl | exact hto))
  | false =>
    simp -implicitDefEqProofs only [go_sem, reduceIte, Nat.reduceEqDiff, nilChkA, rowOf, cellA, Nat.add_assoc]
    refine (cN id).calld (in1 (by rfl)) (by simp -implicitDefEqProofs only [go_sem, reduceIte, Nat.reduceEqDiff]) ?_
    cases hm : met FNode.id xl id with
    | false =>
      simp -implicitDefEqProofs only [go_sem, reduceIte, Nat.reduceEqDiff, nilChkA, rowOf, cellA, Nat.add_assoc]
      exact GQ.of rfl rfl rfl rfl (st_same hs) (st_same ht)
    | true =>
      obtain ⟨y, hy1, hy2, _⟩ := split_met hx hm
      have hlt := low_met_lt hx hm
      have hlt' : ((low FNode.id xl id : Nat) : Int) < (xl.length : Int) := by omega
      have hso : s = .own := by
        cases s with
        | own => rfl
        | _ => rw [hs (by decide)] at hlt; simp at hlt
      have hT := cT y.labels y.props (gx y (List.mem_of_getElem? hy1))
      generalize hR : turnR y.labels y.props ⟨kind, id, src, dst, key, val⟩ = R at hT
      simp -implicitDefEqProofs only [go_sem, reduceIte, Nat.reduceEqDiff, nilChkA, rowOf, cellA, idxAA, hso, hlt', hy1, List.getElem?_map, Nat.add_assoc, Int.toNat_natCast]
      refine CALLD_of hT ?_
      by_cases h0 : R.2.2 = 0
      · simp -implicitDefEqProofs only [go_sem, reduceIte, Nat.reduceEqDiff, nilChkA, rowOf, cellA, idxAA, hso, hlt', hy1, h0, List.getElem?_map, Nat.add_assoc, Int.toNat_natCast, storeA, setSeg, List.drop_zero, List.cons_append, List.nil_append, List.append_nil, List.drop_succ_cons, List.drop_nil, List.take_succ_cons, List.take_zero, and_self, hset, map_set_get hlt, List.set_set]
        simp only [hR, h0, if_true]
        exact GQ.of (v := v) (w := w) (s := .own) (t := t) rfl (by simp [hget]) (by simp [hget, List.map_set, setN]) (by simp [hget]) (st_own (by first | rfl | exact hso)) (st_same ht)
      · simp -implicitDefEqProofs only [go_sem, reduceIte, Nat.reduceEqDiff, nilChkA, rowOf, cellA, idxAA, hso, hlt', hy1, h0, List.getElem?_map, Nat.add_assoc, Int.toNat_natCast]
        simp only [hR, if_neg h0, set_self hy1]
        exact GQ.of (v := v) (w := w) (s := .own) (t := t) rfl rfl rfl rfl (st_own (by first | rfl | exact hso)) (st_same ht)
end Go.Ab
end PCh4

section PCh5
/- Contracts, part 19e: one op upon a graph whose rows are laid in the heap. -/
set_option linter.unusedVariables false
set_option linter.unusedSimpArgs false
set_option maxHeartbeats 4000000
namespace Go.Ab
open Go.Proofs

def doL (xl : List FNode) (yl : List FEdge) (o : MOp) : List FNode × List FEdge × Int :=
  if rightO o then (if o.kind = 1 ∨ o.kind = 3 then comesL xl yl o else if o.kind = 2 ∨ o.kind = 4 then goesL xl yl o else turnsL xl yl o) else (xl, yl, 2)
theorem do_ok {v w : Nat} {s t : Own} {xl : List FNode} {yl : List FEdge} (hs : s ≠ .own → xl = []) (ht : t ≠ .own → yl = []) (hx : Rises FNode.id xl) (hy : Rises FEdge.id yl) (b1 : xl.length ≤ 1000000000) (b2 : yl.length ≤ 1000000000)
    (gx : ∀ n ∈ xl, goodR n.labels.l n.props.l) (gy : ∀ n ∈ yl, goodR n.labels.l n.props.l) (o : MOp) (k : Nat) :
    ACalls Try.prog n_graph_change_do [.c (.ptr 11 0 0 0), aggP (encO o)] (HG v w s t xl yl) (k + 12) (GQ s t (doL xl yl o)) := by
  refine a_graph_change_do (Nat.le_of_ble_eq_true rfl) ?_
  have c1 := comes_ok (v := v) (w := w) hs ht hx hy b1 b2 o k
  have c2 := goes_ok (v := v) (w := w) hs ht hx hy b1 b2 o k
  have c3 := turns_ok (v := v) (w := w) hs ht hx hy b1 b2 gx gy o k
  have cr := graphRight_ok o
  unfold doL
  cases hr : rightO o with
  | false =>
    rw [hr] at cr
    obtain ⟨kind, id, src, dst, key, val⟩ := o
    simp -implicitDefEqProofs only [go_sem, reduceIte, Nat.reduceEqDiff, s_graph_change_do, encO]
    refine CALL_of cr ?_
    simp -implicitDefEqProofs only [go_sem, reduceIte, Nat.reduceEqDiff]
    exact GQ.of rfl rfl rfl rfl (st_same hs) (st_same ht)
  | true =>
    rw [hr] at cr
    obtain ⟨kind, id, src, dst, key, val⟩ := o
    simp only [if_true] at c1 c2 c3 ⊢
    by_cases k1 : kind = 1
    · subst k1
      simp -implicitDefEqProofs only [go_sem, reduceIte, Nat.reduceEqDiff, s_graph_change_do, encO]
      refine CALL_of cr ?_
      simp -implicitDefEqProofs only [go_sem, reduceIte, Nat.reduceEqDiff, true_or, if_true]
      refine .of (c1.mono fun r H' nx' h => ?_)
      simp -implicitDefEqProofs only [go_sem, reduceIte, Nat.reduceEqDiff]
      exact h
    by_cases k3 : kind = 3
    · subst k3
      simp -implicitDefEqProofs only [go_sem, reduceIte, Nat.reduceEqDiff, s_graph_change_do, encO]
      refine CALL_of cr ?_
      simp -implicitDefEqProofs only [go_sem, reduceIte, Nat.reduceEqDiff, or_true, if_true]
      refine .of (c1.mono fun r H' nx' h => ?_)
      simp -implicitDefEqProofs only [go_sem, reduceIte, Nat.reduceEqDiff]
      exact h
    by_cases k2 : kind = 2
    · subst k2
      simp -implicitDefEqProofs only [go_sem, reduceIte, Nat.reduceEqDiff, s_graph_change_do, encO]
      refine CALL_of cr ?_
      simp -implicitDefEqProofs only [go_sem, reduceIte, Nat.reduceEqDiff, true_or, if_true, k1, k3, or_self, if_false]
      refine .of (c2.mono fun r H' nx' h => ?_)
      simp -implicitDefEqProofs only [go_sem, reduceIte, Nat.reduceEqDiff]
      exact h
    by_cases k4 : kind = 4
    · subst k4
      simp -implicitDefEqProofs only [go_sem, reduceIte, Nat.reduceEqDiff, s_graph_change_do, encO]
      refine CALL_of cr ?_
      simp -implicitDefEqProofs only [go_sem, reduceIte, Nat.reduceEqDiff, or_true, if_true, k1, k3, or_self, if_false]
      refine .of (c2.mono fun r H' nx' h => ?_)
      simp -implicitDefEqProofs only [go_sem, reduceIte, Nat.reduceEqDiff]
      exact h
    simp -implicitDefEqProofs only [go_sem, reduceIte, Nat.reduceEqDiff, s_graph_change_do, encO]
    refine CALL_of cr ?_
    simp -implicitDefEqProofs only [go_sem, reduceIte, Nat.reduceEqDiff, k1, k2, k3, k4, or_self, if_false]
    refine .of (c3.mono fun r H' nx' h => ?_)
    simp -implicitDefEqProofs only [go_sem, reduceIte, Nat.reduceEqDiff]
    exact h
end Go.Ab
end PCh5

section PPl2
/- Plain law, part 2: what an op makes of a graph that may be is one that may be. -/
set_option linter.unusedVariables false
set_option linter.unusedSimpArgs false
namespace Go.Ab
open Go.Proofs

theorem okR_nil : okR [] [] := ⟨by simp, by simp, ⟨List.Pairwise.nil, by simp⟩, List.Pairwise.nil, by simp⟩
theorem labelR_ok {l : Sl Str} {p : List MProp} {s : Str} (h : okR l.l p) (h0 : (labelR l s).2 = 0) : okR (labelR l s).1.l p := by
  obtain ⟨h1, h2, ⟨h3, h4⟩, h5, h6⟩ := h
  unfold labelR at h0 ⊢
  split at h0
  case isFalse => cases h0
  rename_i hn
  rw [if_pos hn]
  split at h0
  case isTrue => cases h0
  rename_i hm
  rw [if_neg hm]
  split at h0
  case isTrue => cases h0
  rename_i hl
  rw [if_neg hl]
  have hm' : met id l.l (id s) = false := by simpa using hm
  refine ⟨by simp only [Sl.mk', ins_len]; omega, h2, ⟨rises_ins (a := s) h3 hm', fun a ha => ?_⟩, h5, h6⟩
  rcases mem_insAt.1 ha with rfl | ha
  · exact hn
  · exact h4 a ha
theorem unlabelR_ok {l : Sl Str} {p : List MProp} {s : Str} (h : okR l.l p) (h0 : (unlabelR l s).2 = 0) : okR (unlabelR l s).1.l p := by
  obtain ⟨h1, h2, ⟨h3, h4⟩, h5, h6⟩ := h
  unfold unlabelR at h0 ⊢
  split at h0
  case isFalse => cases h0
  rename_i hm
  rw [if_pos hm]
  refine ⟨?_, h2, ⟨rises_del h3 _, fun a ha => h4 a (mem_delAt ha)⟩, h5, h6⟩
  have := del_len (low_met_lt h3 hm)
  simp only [Sl.mk']
  omega
theorem setR_ok {l : List Str} {p : Sl MProp} {s : Str} {v : MVal} (h : okR l p.l) (h0 : (setR p s v).2 = 0) : okR l (setR p s v).1.l := by
  obtain ⟨h1, h2, h3, h5, h6⟩ := h
  unfold setR at h0 ⊢
  split at h0
  case isFalse => cases h0
  rename_i hn
  rw [if_pos hn]
  have hn' : isName s = true ∧ isVal v = true := by simpa using hn
  split at h0
  · rename_i hm
    rw [if_pos hm]
    obtain ⟨y, hy, hk, _⟩ := split_met h5 hm
    refine ⟨h1, by simpa [Sl.mk'] using h2, h3, rises_set h5 hy (by rw [hk]), fun a ha => ?_⟩
    rcases List.mem_or_eq_of_mem_set ha with ha | rfl
    · exact h6 a ha
    · exact hn'
  · rename_i hm
    rw [if_neg hm]
    split at h0
    case isTrue => cases h0
    rename_i hl
    rw [if_neg hl]
    refine ⟨h1, by simp only [Sl.mk', ins_len]; omega, h3, rises_ins (a := ⟨s, v⟩) h5 (by simpa using hm), fun a ha => ?_⟩
    rcases mem_insAt.1 ha with rfl | ha
    · exact hn'
    · exact h6 a ha
theorem unsetR_ok {l : List Str} {p : Sl MProp} {s : Str} (h : okR l p.l) (h0 : (unsetR p s).2 = 0) : okR l (unsetR p s).1.l := by
  obtain ⟨h1, h2, h3, h5, h6⟩ := h
  unfold unsetR at h0 ⊢
  split at h0
  case isFalse => cases h0
  rename_i hm
  rw [if_pos hm]
  refine ⟨h1, ?_, h3, rises_del h5 _, fun a ha => h6 a (mem_delAt ha)⟩
  have := del_len (low_met_lt h5 hm)
  simp only [Sl.mk']
  omega
theorem turnR_ok {l : Sl Str} {p : Sl MProp} {o : MOp} (h : okR l.l p.l) (h0 : (turnR l p o).2.2 = 0) : okR (turnR l p o).1.l (turnR l p o).2.1.l := by
  have hc : ∀ {α : Type} (x : Sl α), x.clone.l = x.l := fun x => rfl
  unfold turnR at h0 ⊢
  split at h0
  · rename_i hk
    rw [if_pos hk]
    split at h0
    · rename_i he
      rw [if_pos he]
      exact labelR_ok h he
    · rename_i he
      exact absurd h0 he
  rename_i hk
  rw [if_neg hk]
  split at h0
  · rename_i hk
    rw [if_pos hk]
    split at h0
    · rename_i he
      rw [if_pos he]
      exact unlabelR_ok h he
    · rename_i he
      exact absurd h0 he
  rename_i hk
  rw [if_neg hk]
  split at h0
  · rename_i hk
    rw [if_pos hk]
    split at h0
    · rename_i he
      rw [if_pos he]
      exact setR_ok h he
    · rename_i he
      exact absurd h0 he
  rename_i hk
  rw [if_neg hk]
  split at h0
  · rename_i hk
    rw [if_pos hk]
    split at h0
    · rename_i he
      rw [if_pos he]
      exact unsetR_ok h he
    · rename_i he
      exact absurd h0 he
  · cases h0

theorem comesL_ok {xl : List FNode} {yl : List FEdge} {o : MOp} (h : okL xl yl) (hr : rightO o = true) (hk : o.kind = 1 ∨ o.kind = 3) (h0 : (comesL xl yl o).2.2 = 0) : okL (comesL xl yl o).1 (comesL xl yl o).2.1 := by
  obtain ⟨⟨h1, h2⟩, ⟨h3, h4⟩, h5, h6⟩ := h
  have hid : isName o.id = true := by
    unfold rightO at hr
    simp only [Bool.and_eq_true] at hr
    exact hr.1
  unfold comesL at h0 ⊢
  split at h0
  · rename_i k1
    rw [if_pos k1]
    split at h0
    case isTrue => cases h0
    rename_i hm
    rw [if_neg hm]
    split at h0
    case isTrue => cases h0
    rename_i hl
    rw [if_neg hl]
    refine ⟨⟨by simp only [ins_len]; omega, h2⟩, ⟨rises_ins (a := ⟨o.id, .none, .none⟩) h3 (by simpa using hm), fun n hn => ?_⟩, h5, fun e he => ⟨(h6 e he).1, met_ins.2 (.inr (h6 e he).2.1), met_ins.2 (.inr (h6 e he).2.2)⟩⟩
    rcases mem_insAt.1 hn with rfl | hn
    · exact ⟨hid, okR_nil⟩
    · exact h4 n hn
  · rename_i k1
    rw [if_neg k1]
    have k3 : o.kind = 3 := by omega
    split at h0
    case isTrue => cases h0
    rename_i hm
    rw [if_neg hm]
    split at h0
    case isFalse => cases h0
    rename_i hb
    rw [if_pos hb]
    split at h0
    case isTrue => cases h0
    rename_i hl
    rw [if_neg hl]
    have hsd : isName o.src = true ∧ isName o.dst = true := by
      unfold rightO at hr
      rw [if_pos k3] at hr
      simp only [Bool.and_eq_true] at hr
      exact hr.2
    refine ⟨⟨h1, by simp only [ins_len]; omega⟩, ⟨h3, h4⟩, rises_ins (a := ⟨o.id, o.src, o.dst, .none, .none⟩) h5 (by simpa using hm), fun e he => ?_⟩
    rcases mem_insAt.1 he with rfl | he
    · exact ⟨⟨⟨hid, hsd⟩, okR_nil⟩, by simpa using hb⟩
    · exact h6 e he
theorem goesL_ok {xl : List FNode} {yl : List FEdge} {o : MOp} (h : okL xl yl) (h0 : (goesL xl yl o).2.2 = 0) : okL (goesL xl yl o).1 (goesL xl yl o).2.1 := by
  obtain ⟨⟨h1, h2⟩, ⟨h3, h4⟩, h5, h6⟩ := h
  unfold goesL at h0 ⊢
  split at h0
  · rename_i k4
    rw [if_pos k4]
    split at h0
    case isFalse => cases h0
    rename_i hm
    rw [if_pos hm]
    have := del_len (low_met_lt h5 hm)
    exact ⟨⟨h1, by simp only; omega⟩, ⟨h3, h4⟩, rises_del h5 _, fun e he => h6 e (mem_delAt he)⟩
  · rename_i k4
    rw [if_neg k4]
    split at h0
    case isFalse => cases h0
    rename_i hm
    rw [if_pos hm]
    split at h0
    case isTrue => cases h0
    rename_i ha
    rw [if_neg ha]
    have := del_len (low_met_lt h3 hm)
    refine ⟨⟨by simp only; omega, h2⟩, ⟨rises_del h3 _, fun n hn => h4 n (mem_delAt hn)⟩, h5, fun e he => ⟨(h6 e he).1, ?_⟩⟩
    have ht : touches o.id e = false := by
      cases q : touches o.id e with
      | false => rfl
      | true => exact absurd (List.any_eq_true.2 ⟨e, he, q⟩) ha
    simp only [touches, Bool.or_eq_false_iff, decide_eq_false_iff_not] at ht
    exact ⟨(met_del h3 hm).2 ⟨ht.1, (h6 e he).2.1⟩, (met_del h3 hm).2 ⟨ht.2, (h6 e he).2.2⟩⟩
theorem turnsL_ok {xl : List FNode} {yl : List FEdge} {o : MOp} (h : okL xl yl) (h0 : (turnsL xl yl o).2.2 = 0) : okL (turnsL xl yl o).1 (turnsL xl yl o).2.1 := by
  obtain ⟨⟨h1, h2⟩, ⟨h3, h4⟩, h5, h6⟩ := h
  unfold turnsL at h0 ⊢
  split at h0
  · rename_i k
    rw [if_pos k]
    split at h0
    case isFalse => cases h0
    rename_i hm
    rw [if_pos hm]
    obtain ⟨y, hy, hky, _⟩ := split_met h5 hm
    rw [hy] at h0 ⊢
    simp only [turnEd] at h0 ⊢
    split at h0
    case isFalse h => exact absurd h0 h
    rename_i ht
    rw [if_pos ht]
    have hm6 := h6 y (List.mem_of_getElem? hy)
    refine ⟨⟨h1, by simpa using h2⟩, ⟨h3, h4⟩, rises_set h5 hy rfl, fun e he => ?_⟩
    rcases List.mem_or_eq_of_mem_set he with he | rfl
    · exact h6 e he
    · exact ⟨⟨hm6.1.1, turnR_ok hm6.1.2 ht⟩, hm6.2⟩
  · rename_i k
    rw [if_neg k]
    split at h0
    case isFalse => cases h0
    rename_i hm
    rw [if_pos hm]
    obtain ⟨y, hy, hky, _⟩ := split_met h3 hm
    rw [hy] at h0 ⊢
    simp only [turnN] at h0 ⊢
    split at h0
    case isFalse h => exact absurd h0 h
    rename_i ht
    rw [if_pos ht]
    have hm4 := h4 y (List.mem_of_getElem? hy)
    have hmap : (xl.set (low FNode.id xl o.id) (setN y (turnR y.labels y.props o).1 (turnR y.labels y.props o).2.1)).map FNode.id = xl.map FNode.id := map_key_set hy rfl
    refine ⟨⟨by simpa using h1, h2⟩, ⟨rises_set h3 hy rfl, fun n hn => ?_⟩, h5, fun e he => ⟨(h6 e he).1, ?_⟩⟩
    · rcases List.mem_or_eq_of_mem_set hn with hn | rfl
      · exact h4 n hn
      · exact ⟨hm4.1, turnR_ok hm4.2 ht⟩
    · rw [met_map hmap, met_map hmap]; exact (h6 e he).2
theorem doL_ok {xl : List FNode} {yl : List FEdge} {o : MOp} (h : okL xl yl) (h0 : (doL xl yl o).2.2 = 0) : okL (doL xl yl o).1 (doL xl yl o).2.1 := by
  unfold doL at h0 ⊢
  split at h0
  case isFalse => cases h0
  rename_i hr
  rw [if_pos hr]
  split at h0
  · rename_i k; rw [if_pos k]; exact comesL_ok h hr k h0
  · rename_i k
    rw [if_neg k]
    split at h0
    · rename_i k; rw [if_pos k]; exact goesL_ok h h0
    · rename_i k; rw [if_neg k]; exact turnsL_ok h h0
theorem okL_good {xl : List FNode} {yl : List FEdge} (h : okL xl yl) : (∀ n ∈ xl, goodR n.labels.l n.props.l) ∧ ∀ n ∈ yl, goodR n.labels.l n.props.l := by
  have key : ∀ {l : List Str} {p : List MProp}, okR l p → goodR l p := fun h => ⟨h.2.2.1.1, h.2.2.2.1, by have := h.1; omega, by have := h.2.1; omega⟩
  exact ⟨fun n hn => key (h.2.1.2 n hn).2, fun n hn => key (h.2.2.2 n hn).1.2⟩
theorem okL_copy {xl : List FNode} {yl : List FEdge} (h : okL xl yl) : okL (xl.map cN) (yl.map cE) := by
  obtain ⟨⟨h1, h2⟩, ⟨h3, h4⟩, h5, h6⟩ := h
  have e1 : xl.map FNode.id = (xl.map cN).map FNode.id := by rw [List.map_map]; rfl
  have e2 : yl.map FEdge.id = (yl.map cE).map FEdge.id := by rw [List.map_map]; rfl
  refine ⟨⟨by simpa using h1, by simpa using h2⟩, ⟨rises_map e1 h3, fun n hn => ?_⟩, rises_map e2 h5, fun e he => ?_⟩
  · obtain ⟨m, hm, rfl⟩ := List.mem_map.1 hn
    exact h4 m hm
  · obtain ⟨m, hm, rfl⟩ := List.mem_map.1 he
    have := h6 m hm
    exact ⟨this.1, by rw [← met_map e1]; exact this.2.1, by rw [← met_map e1]; exact this.2.2⟩
end Go.Ab
end PPl2

section PCh6
/- Contracts, part 19f: graph.Apply. -/
set_option linter.unusedVariables false
set_option linter.unusedSimpArgs false
set_option maxHeartbeats 4000000
namespace Go.Ab
open Go.Proofs

/-- The ops, one behind the other, till one may not be; with the states of the rows. -/
def runL : Own → Own → List FNode → List FEdge → List MOp → Nat → Option (Own × Own × List FNode × List FEdge) × Nat × Int
  | s, t, xl, yl, [], _ => (some (s, t, xl, yl), 0, 0)
  | s, t, xl, yl, o :: r, i => if (doL xl yl o).2.2 = 0 then runL (stOf s (doL xl yl o).1) (stOf t (doL xl yl o).2.1) (doL xl yl o).1 (doL xl yl o).2.1 r (i + 1) else (none, i, (doL xl yl o).2.2)
/-- A slice out of a row. -/
def Sl.ofSt {α : Type} (s : Own) (l : List α) : Sl α := match s with
  | .nil => ⟨Option.none, [], fun _ => rfl⟩
  | .emp => ⟨some true, [], fun _ => rfl⟩
  | .own => ⟨some false, l, fun h => by cases h⟩
theorem ofSt_l {α : Type} {s : Own} {l : List α} (h : s ≠ .own → l = []) : (Sl.ofSt s l).l = l := by
  cases s with
  | own => rfl
  | _ => rw [h (by decide)]; rfl
theorem frz_ofSt {α : Type} {s : Own} {l : List α} (es : Nat) (enc : α → List PV) : frzPV s es (l.map enc) = (Sl.ofSt s l).pv es enc := by cases s <;> rfl
def nilG : FGraph := ⟨.none, .none⟩
def applyG (g : FGraph) (ops : List MOp) : FGraph × Nat × Int :=
  if wrongG g = 0 then (match runL g.nodes.st g.edges.st (g.nodes.l.map cN) (g.edges.l.map cE) ops 0 with
    | (some (s, t, xl, yl), i, e) => (⟨.ofSt s xl, .ofSt t yl⟩, i, e)
    | (none, i, e) => (nilG, i, e))
  else (nilG, 0, wrongG g)
abbrev AH (v w : Nat) (s t : Own) (n0 m0 : Nat) (xl : List FNode) (yl : List FEdge) : List (Nat × Blk) :=
  [(11, .row 0 2 .own [[.ref 4 v 0 xl.length, .ref 7 w 0 yl.length]]), (9, .row 0 2 .own [[.ref 4 0 0 n0, .ref 7 0 0 m0]]), (7, rowEv w t yl), (4, rowNv v s xl), (1, .row 0 2 .own [[.ref 4 0 0 n0, .ref 7 0 0 m0]]), (0, .row 0 2 .own [[.p .nil, .p .nil]])]

theorem idsB_Nv (nx v : Nat) (st : Own) (l : List FNode) : idsB nx (rowNv v st l) = true := by simp [idsB, idsC]
theorem idsB_Ev (nx v : Nat) (st : Own) (l : List FEdge) : idsB nx (rowEv v st l) = true := by simp [idsB, idsC]
theorem apply_ok (g : FGraph) (ops : Sl MOp) (hs : smG g) (hl : ops.l.length ≤ 1000000000000) :
    PCalls Try.prog n_graph_Apply [aggP (encG g), ops.av 8 encO] (.tup [aggP (encG (applyG g ops.l).1), vI .i64 (applyG g ops.l).2.1, vI .i64 (applyG g ops.l).2.2]) := by
  refine p_graph_Apply (Nat.le_of_ble_eq_true rfl) rfl rfl ?_
  have cC := check_ok g
  obtain ⟨x, y⟩ := g
  unfold applyG
  by_cases hw : wrongG ⟨x, y⟩ = 0
  case neg =>
    simp -implicitDefEqProofs only [go_sem, reduceIte, Nat.reduceEqDiff, s_graph_Apply, encG]
    refine CALL_of cC ?_
    simp -implicitDefEqProofs only [go_sem, reduceIte, Nat.reduceEqDiff, hw, fillA, storeA, setSeg, List.drop_zero, List.cons_append, List.nil_append, List.append_nil, List.drop_succ_cons, List.drop_nil, List.take_succ_cons, List.take_zero, and_self, rowOf, cellA, if_neg]
    rfl
  have hok := okL_copy (wrong_iff.1 hw)
  simp only [hw, if_true]
  simp only at hok
  simp -implicitDefEqProofs only [go_sem, reduceIte, Nat.reduceEqDiff, s_graph_Apply, encG]
  refine CALL_of cC ?_
  simp -implicitDefEqProofs only [go_sem, reduceIte, Nat.reduceEqDiff, hw, rowOf, cellA]
  refine .of (copy_W ⟨x, y⟩ hs rfl rfl ?_)
  simp -implicitDefEqProofs only [go_sem, reduceIte, Nat.reduceEqDiff, fillA, setSeg, List.drop_zero, List.cons_append, List.nil_append, List.append_nil, List.drop_succ_cons, List.drop_nil, List.take_succ_cons, List.take_zero, boxA]
  generalize hn0 : x.l.length = n0
  generalize hm0 : y.l.length = m0
  have hxs : x.st ≠ .own → x.l.map cN = [] := fun h => by rw [x.st_own h]; rfl
  have hys : y.st ≠ .own → y.l.map cE = [] := fun h => by rw [y.st_own h]; rfl
  have hxn : (x.l.map cN).length = n0 := by simpa using hn0
  have hyn : (y.l.map cE).length = m0 := by simpa using hm0
  generalize hX : x.l.map cN = xc at hok hxs hxn
  generalize hY : y.l.map cE = yc at hok hys hyn
  refine loop_row (fun (a : Nat × Nat × Nat × Own × Own × List FNode × List FEdge) => [(4, .c (.ptr 0 0 0 0)), (8, .c (.ptr 11 0 0 0)), (22, ops.av 8 encO), (23, vI .i64 ops.l.length), (24, vI .i64 a.1)])
    (fun a => AH a.2.1 a.2.2.1 a.2.2.2.1 a.2.2.2.2.1 n0 m0 a.2.2.2.2.2.1 a.2.2.2.2.2.2) (fun a => ops.l.length - a.1)
    (fun a => a.1 ≤ ops.l.length ∧ okL a.2.2.2.2.2.1 a.2.2.2.2.2.2 ∧ (a.2.2.2.1 ≠ .own → a.2.2.2.2.2.1 = []) ∧ (a.2.2.2.2.1 ≠ .own → a.2.2.2.2.2.2 = []) ∧
      runL x.st y.st xc yc ops.l 0 = runL a.2.2.2.1 a.2.2.2.2.1 a.2.2.2.2.2.1 a.2.2.2.2.2.2 (ops.l.drop a.1) a.1) (0, 0, 0, x.st, y.st, xc, yc) ?_ ⟨Nat.zero_le _, hok, hxs, hys, rfl⟩ ?_
  · simp -implicitDefEqProofs only [go_sem, reduceIte, Nat.reduceEqDiff, KEEP, idsC, hxn, hyn]
    exact ⟨by simp [idsB_N, idsB_E], by simp only [AH, hxn, hyn]⟩
  rintro ⟨i, v, w, s, t, xl, yl⟩ ⟨hi, hk, hs1, ht1, hI⟩
  simp only at hi hk hs1 ht1 hI ⊢
  simp -implicitDefEqProofs only [go_sem, reduceIte, Nat.reduceEqDiff, b_graph_Apply_0]
  refine condW_split (fun h => ?_) (fun h => ?_)
  · have hlt : i < ops.l.length := by simpa using h
    obtain ⟨o, ho⟩ : ∃ o, ops.l[i]? = some o := ⟨_, List.getElem?_eq_getElem hlt⟩
    rw [drop_cons ho] at hI
    simp only [runL] at hI
    obtain ⟨g1, g2⟩ := okL_good hk
    have hd : ∀ nx, (∀ z ∈ HG v w s t xl yl, z.1 < nx) → ACalls Try.prog n_graph_change_do [.c (.ptr 11 0 0 0), aggP (encO o)] (HG v w s t xl yl) nx (GQ s t (doL xl yl o)) := fun nx hn => by
      have : 11 < nx := hn (11, _) (List.mem_cons_self)
      obtain ⟨k, rfl⟩ : ∃ k, nx = k + 12 := ⟨nx - 12, by omega⟩
      exact do_ok hs1 ht1 hk.2.1.1 hk.2.2.1 (by have := hk.1.1; omega) (by have := hk.1.2; omega) g1 g2 o k
    simp -implicitDefEqProofs only [go_sem, reduceIte, Nat.reduceEqDiff, ho, encO, storeA, setSeg, List.drop_zero, List.cons_append, List.nil_append, List.append_nil, List.drop_succ_cons, List.drop_nil, ghK, doGh, and_self]
    refine .of ((ACalls.frame (R := HG v w s t xl yl) (Post := GPost s t (doL xl yl o)) rfl ⟨_, Try.func59, by kernel_rfl, of_decide_eq_true (by kernel_rfl)⟩ hd ?_).mono fun r H' nx' hq => ?_)
    · intro z hz
      simp only [HG, List.mem_cons, List.not_mem_nil, or_false] at hz
      rcases hz with rfl | rfl | rfl <;> rfl
    obtain ⟨R', ⟨rfl, v', w', rfl⟩, rfl, rfl⟩ := hq
    have e : setR' (HG v' w' (stOf s (doL xl yl o).1) (stOf t (doL xl yl o).2.1) (doL xl yl o).1 (doL xl yl o).2.1) (AH v w s t n0 m0 xl yl) = AH v' w' (stOf s (doL xl yl o).1) (stOf t (doL xl yl o).2.1) n0 m0 (doL xl yl o).1 (doL xl yl o).2.1 := rfl
    have ht' := doL_ok (o := o) hk
    generalize doL xl yl o = q at e ht' hI
    simp only [AH] at e
    by_cases h0 : q.2.2 = 0
    · rw [if_pos h0] at hI
      simp -implicitDefEqProofs only [go_sem, reduceIte, Nat.reduceEqDiff, e, h0, one_cast, wadd (show i + 1 ≤ 9000000000000000000 by omega), KEEP, idsC, idsB_Nv, idsB_Ev, Nat.reduceLeDiff, true_and]
      exact ⟨(i + 1, v', w', stOf s q.1, stOf t q.2.1, q.1, q.2.1), ⟨hlt, ht' h0, stOf_own, stOf_own, hI⟩, by simp only; omega, rfl⟩
    · rw [if_neg h0] at hI
      simp -implicitDefEqProofs only [go_sem, reduceIte, Nat.reduceEqDiff, e, h0, fillA, storeA, setSeg, List.drop_zero, List.cons_append, List.nil_append, List.append_nil, List.drop_succ_cons, List.drop_nil, List.take_succ_cons, List.take_zero, rowOf, cellA, and_self]
      rw [hI]
      rfl
  · have hlt : i = ops.l.length := by have : ¬ i < ops.l.length := by simpa using h
                                      omega
    rw [List.drop_eq_nil_of_le (by omega)] at hI
    simp only [runL] at hI
    simp -implicitDefEqProofs only [go_sem, reduceIte, Nat.reduceEqDiff, hI, nilChkA, rowOf, cellA, storeA, setSeg, List.drop_zero, List.cons_append, List.nil_append, List.append_nil, List.drop_succ_cons, List.drop_nil, List.take_succ_cons, List.take_zero, and_self]
    rw [frz_ofSt, frz_ofSt]
    rfl
end Go.Ab
end PCh6

section PCh7
/- Contracts, part 19g: the example of the chapter on graphs: an edge comes to an empty graph; GraphOps. -/
set_option linter.unusedVariables false
set_option linter.unusedSimpArgs false
set_option maxHeartbeats 1000000
namespace Go.Ab
open Go.Proofs

def opX : MOp := ⟨3, [120], [97], [98], [], ⟨0, 0, []⟩⟩
theorem applyX : applyG nilG [opX] = (nilG, 0, 9) := by rfl
theorem applyNil_ok : PCalls Try.prog n_graph_Apply [gNil, .c (.p (.sl 8 true [encO opX]))] (.tup [gNil, vI .i64 0, vI .i64 9]) := by
  have h := apply_ok nilG ⟨some true, [opX], fun h => by cases h⟩ ⟨by simp [nilG, Sl.none], by simp [nilG, Sl.none], by simp [nilG, Sl.none], by simp [nilG, Sl.none]⟩ (by simp)
  simp only [applyX] at h
  exact h
theorem awake26_ok : PCalls Try.prog n_pleachlaw26_awake [] (vB true) := by
  refine p_pleachlaw26_awake (Nat.le_of_ble_eq_true rfl) rfl rfl ?_
  simp -implicitDefEqProofs only [go_sem, reduceIte, Nat.reduceEqDiff, s_pleachlaw26_awake, fillA, setSeg, List.drop_zero, List.cons_append, List.nil_append, List.append_nil, List.drop_succ_cons, List.drop_nil]
  refine CALL_of applyNil_ok ?_
  simp -implicitDefEqProofs only [go_sem, reduceIte, Nat.reduceEqDiff, storeA, setSeg, List.drop_zero, List.cons_append, List.nil_append, List.append_nil, List.drop_succ_cons, List.drop_nil, ghK, doGh, and_self]
theorem graphOps_ok (g : FGraph) (o : MOp) (hg : strG g) (ho : szO o) : PCalls Try.prog n_pleachlaw26_GraphOps [aggP (encG g), aggP (encO o)] (vB true) := lawOps_ok awake26_ok g o hg ho
end Go.Ab
end PCh7

section PSp26
/- Contracts, part 26: are two graphs the same; the law GraphChecks. -/
set_option linter.unusedVariables false
set_option linter.unusedSimpArgs false
set_option maxHeartbeats 4000000
namespace Go.Ab
open Go.Proofs

theorem eqBA_self (b : Bool) : eqBA false (vB b) (vB b) = some (vB true) := by cases b <;> rfl
theorem BIG.of {n : Nat} (h : n ≤ 1000000000) : BIG n := by unfold BIG; omega
theorem graphSame_ok (g h : FGraph) (hs : smG g) : PCalls Try.prog n_graph_Same [aggP (encG g), aggP (encG h)] (vB (sameG g h)) := by
  refine p_graph_Same (Nat.le_of_ble_eq_true rfl) rfl rfl ?_
  have r1 := eqFuncN_ok g.nodes h.nodes (.of hs.1) (fun a ha => ⟨.of (hs.2.2.1 a ha).1, .of (hs.2.2.1 a ha).2⟩)
  have r2 := eqFuncE_ok g.edges h.edges (.of hs.2.1) (fun a ha => ⟨.of (hs.2.2.2 a ha).1, .of (hs.2.2.2 a ha).2⟩)
  obtain ⟨x, y⟩ := g
  obtain ⟨x', y'⟩ := h
  clear hs
  unfold sameG
  simp only at r1 r2 ⊢
  cases h1 : eqBy sameN x.l x'.l <;> cases h2 : eqBy sameE y.l y'.l <;> repeat' (first | simp -implicitDefEqProofs only [go_sem, reduceIte, Nat.reduceEqDiff, s_graph_Same, encG, Bool.and_true, Bool.and_false, *] | refine CALL_of r1 ?_ | refine CALL_of r2 ?_ | refine GRD_true (fun _ => ?_) (fun _ => ?_) | refine GRDD_true (fun _ => ?_) (fun _ => ?_) | refine condW_split (fun _ => ?_) (fun _ => ?_))
theorem refSame_ok (g h : FGraph) (hs : smG g) : PCalls Try.prog n_pleachref26_Same [aggP (encG g), aggP (encG h)] (vB (sameG g h)) := by
  refine p_pleachref26_Same (Nat.le_of_ble_eq_true rfl) rfl rfl ?_
  obtain ⟨x, y⟩ := g
  obtain ⟨x', y'⟩ := h
  obtain ⟨s1, s2, s3, s4⟩ := hs
  simp only at s1 s2 s3 s4
  unfold sameG
  by_cases hl : (x.l.length : Int) = (x'.l.length : Int)
  case neg =>
    have hf : eqBy sameN x.l x'.l = false := eqBy_len (by omega)
    simp -implicitDefEqProofs only [go_sem, reduceIte, Nat.reduceEqDiff, s_pleachref26_Same, encG, lenA_sl, hl, hf, Bool.false_and]
  by_cases hl' : (y.l.length : Int) = (y'.l.length : Int)
  case neg =>
    have hf : eqBy sameE y.l y'.l = false := eqBy_len (by omega)
    simp -implicitDefEqProofs only [go_sem, reduceIte, Nat.reduceEqDiff, s_pleachref26_Same, encG, lenA_sl, hl, hl', hf, Bool.and_false]
  simp -implicitDefEqProofs only [go_sem, reduceIte, Nat.reduceEqDiff, s_pleachref26_Same, encG, lenA_sl, hl, hl']
  refine loop_up x.l.length 0 (fun i => [(2, .c (.p (.ptr [x.pv 3 encN, y.pv 5 encE]))), (3, .c (.p (.ptr [x'.pv 3 encN, y'.pv 5 encE]))), (5, vI .i64 i)]) (fun i => eqBy sameN x.l x'.l = eqBy sameN (x.l.drop i) (x'.l.drop i)) (by omega) (by simp -implicitDefEqProofs only [go_sem, reduceIte, Nat.reduceEqDiff]; try rfl) rfl rfl ?_
  intro i hi hI
  simp -implicitDefEqProofs only [go_sem, reduceIte, Nat.reduceEqDiff, b_pleachref26_Same_0]
  refine condW_split (fun h => ?_) (fun h => ?_)
  · have hlt : i < x.l.length := by simpa using h
    obtain ⟨z, hz⟩ : ∃ z, x.l[i]? = some z := ⟨_, List.getElem?_eq_getElem hlt⟩
    obtain ⟨u, hu⟩ : ∃ u, x'.l[i]? = some u := ⟨_, List.getElem?_eq_getElem (by omega)⟩
    obtain ⟨b1, b2⟩ := s3 z (List.mem_of_getElem? hz)
    have r1 := refSameN_ok z u (.of b1) (.of b2)
    rw [eqBy_drop hz hu] at hI
    simp -implicitDefEqProofs only [go_sem, reduceIte, Nat.reduceEqDiff, hz, hu, encN]
    refine CALLD_of r1 ?_
    cases hs : sameN z u with
    | false =>
      have hf : eqBy sameN x.l x'.l = false := by rw [hI, hs]; rfl
      simp -implicitDefEqProofs only [go_sem, reduceIte, Nat.reduceEqDiff, hf, Bool.false_and]
    | true =>
      simp -implicitDefEqProofs only [go_sem, reduceIte, Nat.reduceEqDiff, one_cast, wadd (show i + 1 ≤ 9000000000000000000 by omega)]
      refine ⟨hlt, ?_⟩
      rw [hI, hs]; rfl
  · have hlt : ¬ i < x.l.length := by simpa using h
    have hz : eqBy sameN x.l x'.l = true := by rw [hI, List.drop_eq_nil_of_le (by omega), List.drop_eq_nil_of_le (by omega)]; rfl
    clear hI
    simp -implicitDefEqProofs only [go_sem, reduceIte, Nat.reduceEqDiff, hz, Bool.true_and]
    refine loop_up y.l.length 0 (fun i => [(2, .c (.p (.ptr [x.pv 3 encN, y.pv 5 encE]))), (3, .c (.p (.ptr [x'.pv 3 encN, y'.pv 5 encE]))), (6, vI .i64 i)]) (fun i => eqBy sameE y.l y'.l = eqBy sameE (y.l.drop i) (y'.l.drop i)) (by omega) (by simp -implicitDefEqProofs only [go_sem, reduceIte, Nat.reduceEqDiff]; try rfl) rfl rfl ?_
    intro i hi hI
    simp -implicitDefEqProofs only [go_sem, reduceIte, Nat.reduceEqDiff, b_pleachref26_Same_2]
    refine condW_split (fun h => ?_) (fun h => ?_)
    · have hlt : i < y.l.length := by simpa using h
      obtain ⟨z, hz⟩ : ∃ z, y.l[i]? = some z := ⟨_, List.getElem?_eq_getElem hlt⟩
      obtain ⟨u, hu⟩ : ∃ u, y'.l[i]? = some u := ⟨_, List.getElem?_eq_getElem (by omega)⟩
      obtain ⟨b1, b2⟩ := s4 z (List.mem_of_getElem? hz)
      have r1 := refSameE_ok z u (.of b1) (.of b2)
      rw [eqBy_drop hz hu] at hI
      simp -implicitDefEqProofs only [go_sem, reduceIte, Nat.reduceEqDiff, hz, hu, encE]
      refine CALLD_of r1 ?_
      cases hs : sameE z u with
      | false =>
        have hf : eqBy sameE y.l y'.l = false := by rw [hI, hs]; rfl
        simp -implicitDefEqProofs only [go_sem, reduceIte, Nat.reduceEqDiff, hf, Bool.false_and]
      | true =>
        simp -implicitDefEqProofs only [go_sem, reduceIte, Nat.reduceEqDiff, one_cast, wadd (show i + 1 ≤ 9000000000000000000 by omega)]
        refine ⟨hlt, ?_⟩
        rw [hI, hs]; rfl
    · have hlt : ¬ i < y.l.length := by simpa using h
      simp -implicitDefEqProofs only [go_sem, reduceIte, Nat.reduceEqDiff]
      rw [hI, List.drop_eq_nil_of_le (by omega), List.drop_eq_nil_of_le (by omega)]; rfl

theorem smG_few {g : FGraph} (hf : fewG g = true) : smG g := by
  unfold fewG at hf
  simp only [Bool.and_eq_true, Bool.not_eq_true', decide_eq_false_iff_not, decide_eq_true_eq] at hf
  obtain ⟨h1, h2, h3⟩ := hf
  refine ⟨by omega, by omega, fun n hn => ?_, fun n hn => ?_⟩
  · have h4 := le_sum nodeW hn
    obtain ⟨c1, c2⟩ := weightN_few (l := n.labels.l) (p := n.props.l) (by have h5 : nodeW n = m5 n.id + weightN n.labels.l n.props.l := rfl; omega)
    exact ⟨by omega, by omega⟩
  · have h4 := le_sum edgeW hn
    obtain ⟨c1, c2⟩ := weightN_few (l := n.labels.l) (p := n.props.l) (by have h5 : edgeW n = m5 n.id + m5 n.src + m5 n.dst + weightN n.labels.l n.props.l := rfl; omega)
    exact ⟨by omega, by omega⟩
theorem smG_copy {g : FGraph} (h : smG g) : smG (copyG g) := by
  obtain ⟨h1, h2, h3, h4⟩ := h
  have e1 : (copyG g).nodes.l = g.nodes.l.map cN := rfl
  have e2 : (copyG g).edges.l = g.edges.l.map cE := rfl
  refine ⟨by rw [e1]; simpa using h1, by rw [e2]; simpa using h2, fun n hn => ?_, fun n hn => ?_⟩
  · rw [e1] at hn
    obtain ⟨m, hm, rfl⟩ := List.mem_map.1 hn
    exact h3 m hm
  · rw [e2] at hn
    obtain ⟨m, hm, rfl⟩ := List.mem_map.1 hn
    exact h4 m hm
theorem graphChecks_ok (g h : FGraph) (hg : strG g) : PCalls Try.prog n_pleachlaw26_GraphChecks [aggP (encG g), aggP (encG h)] (vB true) := by
  refine p_pleachlaw26_GraphChecks (Nat.le_of_ble_eq_true rfl) rfl rfl ?_
  simp -implicitDefEqProofs only [go_sem, reduceIte, Nat.reduceEqDiff, s_pleachlaw26_GraphChecks, encG]
  refine CALL_of (few_ok g) ?_
  cases hf : fewG g with
  | false =>
    simp -implicitDefEqProofs only [go_sem, reduceIte, Nat.reduceEqDiff]
    refine CALL_of awake26_ok ?_
    simp -implicitDefEqProofs only [go_sem, reduceIte, Nat.reduceEqDiff]
  | true =>
  simp -implicitDefEqProofs only [go_sem, reduceIte, Nat.reduceEqDiff]
  refine CALL_of (few_ok h) ?_
  cases hfh : fewG h with
  | false =>
    simp -implicitDefEqProofs only [go_sem, reduceIte, Nat.reduceEqDiff]
    refine CALL_of awake26_ok ?_
    simp -implicitDefEqProofs only [go_sem, reduceIte, Nat.reduceEqDiff]
  | true =>
  have hm := smG_few hf
  simp -implicitDefEqProofs only [go_sem, reduceIte, Nat.reduceEqDiff]
  refine CALLD_of (check_ok g) ?_
  simp -implicitDefEqProofs only [go_sem, reduceIte, Nat.reduceEqDiff]
  refine CALLD_of (refWrong_ok g (szG_few hg hf)) ?_
  simp -implicitDefEqProofs only [go_sem, reduceIte, Nat.reduceEqDiff]
  refine CALLD_of (graphCopy_ok g hm) ?_
  simp -implicitDefEqProofs only [go_sem, reduceIte, Nat.reduceEqDiff]
  refine CALLD_of (refSame_ok (copyG g) g (smG_copy hm)) ?_
  simp -implicitDefEqProofs only [go_sem, reduceIte, Nat.reduceEqDiff, sameG_copy]
  refine CALLD_of (graphSame_ok g h hm) ?_
  simp -implicitDefEqProofs only [go_sem, reduceIte, Nat.reduceEqDiff]
  refine CALLD_of (refSame_ok g h hm) ?_
  simp -implicitDefEqProofs only [go_sem, reduceIte, Nat.reduceEqDiff, eqBA_self]
  refine CALLD_of (graphSame_ok g g hm) ?_
  simp -implicitDefEqProofs only [go_sem, reduceIte, Nat.reduceEqDiff, sameG_refl]
  refine CALLD_of awake26_ok ?_
  simp -implicitDefEqProofs only [go_sem, reduceIte, Nat.reduceEqDiff]
end Go.Ab
end PSp26

section PPl3
/- Plain law, part 3: an op sees of slices their elements alone; ops one behind the other. -/
set_option linter.unusedVariables false
set_option linter.unusedSimpArgs false
namespace Go.Ab
open Go.Proofs

def erN (n : FNode) : Str × List Str × List MProp := (n.id, n.labels.l, n.props.l)
def erE (n : FEdge) : Str × Str × Str × List Str × List MProp := (n.id, n.src, n.dst, n.labels.l, n.props.l)
theorem sameN_er (a b : FNode) : sameN a b = true ↔ erN a = erN b := by simp [sameN, erN]
theorem sameE_er (a b : FEdge) : sameE a b = true ↔ erE a = erE b := by simp [sameE, erE]
theorem eqBy_er {α β : Type} {f : α → α → Bool} {e : α → β} (h : ∀ a b, f a b = true ↔ e a = e b) : ∀ {x y : List α}, eqBy f x y = true ↔ x.map e = y.map e
  | [], [] => by simp [eqBy]
  | [], b :: y => by simp [eqBy]
  | a :: x, [] => by simp [eqBy]
  | a :: x, b :: y => by simp [eqBy, h, eqBy_er h (x := x) (y := y)]
theorem sameG_iff {g h : FGraph} : sameG g h = true ↔ g.nodes.l.map erN = h.nodes.l.map erN ∧ g.edges.l.map erE = h.edges.l.map erE := by
  unfold sameG
  rw [Bool.and_eq_true, eqBy_er sameN_er, eqBy_er sameE_er]

section
variable {α : Type} {β : Type}
theorem insAt_map (f : α → β) (l : List α) (i : Nat) (a : α) : (insAt l i a).map f = insAt (l.map f) i (f a) := by simp [insAt, List.map_take, List.map_drop]
theorem delAt_map (f : α → β) (l : List α) (i : Nat) : (delAt l i).map f = delAt (l.map f) i := by simp [delAt, List.map_take, List.map_drop]
theorem low_map {key : α → Str} {key' : β → Str} {l : List α} {m : List β} (h : l.map key = m.map key') (s : Str) : low key l s = low key' m s := by
  have e1 : low key l s = (l.map key).countP (fun k => lt k s) := by simp [low, List.countP_map, Function.comp_def]
  have e2 : low key' m s = (m.map key').countP (fun k => lt k s) := by simp [low, List.countP_map, Function.comp_def]
  rw [e1, e2, h]
end
theorem key_N {x y : List FNode} (h : x.map erN = y.map erN) : x.map FNode.id = y.map FNode.id := by
  have : ∀ l : List FNode, l.map FNode.id = (l.map erN).map (·.1) := fun l => by rw [List.map_map]; rfl
  rw [this, this, h]
theorem key_E {x y : List FEdge} (h : x.map erE = y.map erE) : x.map FEdge.id = y.map FEdge.id := by
  have : ∀ l : List FEdge, l.map FEdge.id = (l.map erE).map (·.1) := fun l => by rw [List.map_map]; rfl
  rw [this, this, h]
theorem touch_er {x y : List FEdge} (h : x.map erE = y.map erE) (s : Str) : x.any (touches s) = y.any (touches s) := by
  have : ∀ l : List FEdge, l.any (touches s) = (l.map erE).any (fun e => decide (e.2.1 = s) || decide (e.2.2.1 = s)) := fun l => by rw [List.any_map]; rfl
  rw [this, this, h]
theorem labelR_er {l l' : Sl Str} (h : l.l = l'.l) (s : Str) : (labelR l s).2 = (labelR l' s).2 ∧ (labelR l s).1.l = (labelR l' s).1.l := by
  unfold labelR
  rw [h]
  repeat' split
  all_goals simp [Sl.none, Sl.mk']
theorem unlabelR_er {l l' : Sl Str} (h : l.l = l'.l) (s : Str) : (unlabelR l s).2 = (unlabelR l' s).2 ∧ (unlabelR l s).1.l = (unlabelR l' s).1.l := by
  unfold unlabelR
  rw [h]
  repeat' split
  all_goals simp [Sl.none, Sl.mk']
theorem setR_er {l l' : Sl MProp} (h : l.l = l'.l) (s : Str) (v : MVal) : (setR l s v).2 = (setR l' s v).2 ∧ (setR l s v).1.l = (setR l' s v).1.l := by
  unfold setR
  rw [h]
  repeat' split
  all_goals simp [Sl.none, Sl.mk']
theorem unsetR_er {l l' : Sl MProp} (h : l.l = l'.l) (s : Str) : (unsetR l s).2 = (unsetR l' s).2 ∧ (unsetR l s).1.l = (unsetR l' s).1.l := by
  unfold unsetR
  rw [h]
  repeat' split
  all_goals simp [Sl.none, Sl.mk']
theorem turnR_er {l l' : Sl Str} {p p' : Sl MProp} (h : l.l = l'.l) (k : p.l = p'.l) (o : MOp) :
    (turnR l p o).2.2 = (turnR l' p' o).2.2 ∧ (turnR l p o).1.l = (turnR l' p' o).1.l ∧ (turnR l p o).2.1.l = (turnR l' p' o).2.1.l := by
  have hc : ∀ {α : Type} (x : Sl α), x.clone.l = x.l := fun x => rfl
  obtain ⟨a1, a2⟩ := labelR_er h o.key
  obtain ⟨b1, b2⟩ := unlabelR_er h o.key
  obtain ⟨c1, c2⟩ := setR_er k o.key o.val
  obtain ⟨d1, d2⟩ := unsetR_er k o.key
  unfold turnR
  rw [a1, b1, c1, d1]
  repeat' split
  all_goals simp [hc, Sl.none, *]
/-- What two results have alike. -/
def AL3 (q q' : List FNode × List FEdge × Int) : Prop := q.2.2 = q'.2.2 ∧ q.1.map erN = q'.1.map erN ∧ q.2.1.map erE = q'.2.1.map erE
theorem comes_er {x x' : List FNode} {y y' : List FEdge} (hx : x.map erN = x'.map erN) (hy : y.map erE = y'.map erE) (o : MOp) : AL3 (comesL x y o) (comesL x' y' o) := by
  have l1 : x.length = x'.length := by simpa using congrArg List.length hx
  have l2 : y.length = y'.length := by simpa using congrArg List.length hy
  unfold comesL AL3
  rw [met_map (key_N hx), met_map (key_E hy), met_map (key_N hx) o.src, met_map (key_N hx) o.dst, low_map (key_N hx), low_map (key_E hy), l1, l2]
  repeat' split
  all_goals simp only [insAt_map, hx, hy, and_self]
theorem goes_er {x x' : List FNode} {y y' : List FEdge} (hx : x.map erN = x'.map erN) (hy : y.map erE = y'.map erE) (o : MOp) : AL3 (goesL x y o) (goesL x' y' o) := by
  unfold goesL AL3
  rw [met_map (key_N hx), met_map (key_E hy), low_map (key_N hx), low_map (key_E hy), touch_er hy]
  repeat' split
  all_goals simp only [delAt_map, hx, hy, and_self]
theorem get_er {α β : Type} {e : α → β} {x x' : List α} (h : x.map e = x'.map e) (i : Nat) : (x[i]?).map e = (x'[i]?).map e := by
  have := congrArg (·[i]?) h
  simpa using this
theorem turns_er {x x' : List FNode} {y y' : List FEdge} (hx : x.map erN = x'.map erN) (hy : y.map erE = y'.map erE) (o : MOp) : AL3 (turnsL x y o) (turnsL x' y' o) := by
  unfold turnsL AL3
  rw [met_map (key_N hx), met_map (key_E hy), low_map (key_N hx), low_map (key_E hy)]
  split
  · split
    · have hg := get_er hy (low FEdge.id y' o.id)
      cases h1 : y[low FEdge.id y' o.id]? with
      | none =>
        rw [h1] at hg
        cases h2 : y'[low FEdge.id y' o.id]? with
        | none => exact ⟨rfl, hx, hy⟩
        | some b => rw [h2] at hg; cases hg
      | some a =>
        rw [h1] at hg
        cases h2 : y'[low FEdge.id y' o.id]? with
        | none => rw [h2] at hg; cases hg
        | some b =>
          rw [h2] at hg
          have he : erE a = erE b := by simpa using hg
          simp only [erE, Prod.mk.injEq] at he
          obtain ⟨e1, e2, e3⟩ := turnR_er he.2.2.2.1 he.2.2.2.2 o
          simp only [turnEd, e1]
          by_cases h0 : (turnR b.labels b.props o).2.2 = 0
          · simp only [if_pos h0, List.map_set, hx, hy, true_and]
            congr 1
            simp [erE, setE, e2, e3, he]
          · simp only [if_neg h0, List.map_set, hx, hy, true_and]
            congr 1
            simp [erE, he]
    · exact ⟨rfl, hx, hy⟩
  · split
    · have hg := get_er hx (low FNode.id x' o.id)
      cases h1 : x[low FNode.id x' o.id]? with
      | none =>
        rw [h1] at hg
        cases h2 : x'[low FNode.id x' o.id]? with
        | none => exact ⟨rfl, hx, hy⟩
        | some b => rw [h2] at hg; cases hg
      | some a =>
        rw [h1] at hg
        cases h2 : x'[low FNode.id x' o.id]? with
        | none => rw [h2] at hg; cases hg
        | some b =>
          rw [h2] at hg
          have he : erN a = erN b := by simpa using hg
          simp only [erN, Prod.mk.injEq] at he
          obtain ⟨e1, e2, e3⟩ := turnR_er he.2.1 he.2.2 o
          simp only [turnN, e1]
          by_cases h0 : (turnR b.labels b.props o).2.2 = 0
          · simp only [if_pos h0, List.map_set, hx, hy, true_and, and_true]
            congr 1
            simp [erN, setN, e2, e3, he]
          · simp only [if_neg h0, List.map_set, hx, hy, true_and, and_true]
            congr 1
            simp [erN, he]
    · exact ⟨rfl, hx, hy⟩
theorem do_er {x x' : List FNode} {y y' : List FEdge} (hx : x.map erN = x'.map erN) (hy : y.map erE = y'.map erE) (o : MOp) : AL3 (doL x y o) (doL x' y' o) := by
  unfold doL
  split
  · split
    · exact comes_er hx hy o
    · split
      · exact goes_er hx hy o
      · exact turns_er hx hy o
  · exact ⟨rfl, hx, hy⟩
theorem er_copy (x : List FNode) (y : List FEdge) : (x.map cN).map erN = x.map erN ∧ (y.map cE).map erE = y.map erE := by
  constructor <;> (rw [List.map_map]; rfl)

theorem runL_some : ∀ {ops : List MOp} {s t : Own} {x : List FNode} {y : List FEdge} {i : Nat}, okL x y → (s ≠ .own → x = []) → (t ≠ .own → y = []) →
    (∃ s' t' x' y', runL s t x y ops i = (some (s', t', x', y'), 0, 0) ∧ okL x' y' ∧ (s' ≠ .own → x' = []) ∧ (t' ≠ .own → y' = []) ∧ ∀ o, runL s t x y (ops ++ [o]) i = runL s' t' x' y' [o] (i + ops.length)) ∨ (∃ k e, runL s t x y ops i = (none, k, e) ∧ e ≠ 0)
  | [], s, t, x, y, i, h, hs, ht => .inl ⟨s, t, x, y, rfl, h, hs, ht, fun o => rfl⟩
  | o :: r, s, t, x, y, i, h, hs, ht => by
    simp only [runL, List.cons_append]
    by_cases h0 : (doL x y o).2.2 = 0
    · simp only [if_pos h0]
      rcases runL_some (ops := r) (i := i + 1) (doL_ok h h0) (s := stOf s (doL x y o).1) (t := stOf t (doL x y o).2.1) stOf_own stOf_own with ⟨s', t', x', y', e1, e2, e3, e4, e5⟩ | h
      · refine .inl ⟨s', t', x', y', e1, e2, e3, e4, fun o' => ?_⟩
        rw [e5 o']
        simp only [List.length_cons]
        rw [show i + 1 + r.length = i + (r.length + 1) by omega]
        rfl
      · exact .inr h
    · simp only [if_neg h0]
      exact .inr ⟨_, _, rfl, h0⟩
/-- GraphStays, in plain words: what ops make is one that may be; with an op more it is that op's of it. -/
theorem stays {g : FGraph} {ops : List MOp} (o : MOp) (h : (applyG g ops).2.2 = 0) :
    wrongG (applyG g ops).1 = 0 ∧ sameG (applyG (applyG g ops).1 [o]).1 (applyG g (ops ++ [o])).1 = true ∧ (applyG (applyG g ops).1 [o]).2.2 = (applyG g (ops ++ [o])).2.2 := by
  by_cases hw : wrongG g = 0
  case neg =>
    unfold applyG at h
    rw [if_neg hw] at h
    exact absurd h hw
  have hok := okL_copy (wrong_iff.1 hw)
  have hs : g.nodes.st ≠ .own → g.nodes.l.map cN = [] := fun q => by rw [g.nodes.st_own q]; rfl
  have ht : g.edges.st ≠ .own → g.edges.l.map cE = [] := fun q => by rw [g.edges.st_own q]; rfl
  rcases runL_some (ops := ops) (i := 0) hok hs ht with ⟨s', t', x', y', e1, e2, e3, e4, e5⟩ | ⟨k, e, e1, e2⟩
  case inr =>
    unfold applyG at h
    rw [if_pos hw, e1] at h
    exact absurd h e2
  have ha : applyG g ops = (⟨.ofSt s' x', .ofSt t' y'⟩, 0, 0) := by
    unfold applyG
    rw [if_pos hw, e1]
  have hw2 : wrongG ⟨.ofSt s' x', .ofSt t' y'⟩ = 0 := by
    rw [wrong_iff]
    show okL (Sl.ofSt s' x').l (Sl.ofSt t' y').l
    rw [ofSt_l e3, ofSt_l e4]; exact e2
  rw [ha]
  refine ⟨hw2, ?_⟩
  unfold applyG
  rw [if_pos hw2, if_pos hw, e5 o]
  simp only [ofSt_l e3, ofSt_l e4]
  obtain ⟨c1, c2⟩ := er_copy x' y'
  obtain ⟨d1, d2, d3⟩ := do_er c1 c2 o
  simp only [runL]
  rw [d1]
  by_cases h0 : (doL x' y' o).2.2 = 0
  · simp only [if_pos h0]
    refine ⟨sameG_iff.2 ⟨?_, ?_⟩, trivial⟩
    · simp only [ofSt_l stOf_own]; exact d2
    · simp only [ofSt_l stOf_own]; exact d3
  · simp only [if_neg h0]
    exact ⟨sameG_refl _, trivial⟩
end Go.Ab
end PPl3

section PAb28
/- The framework 'Ab', part 28: a call of a function of values that is given a row, which nobody asks for any more. -/
set_option linter.unusedVariables false
set_option linter.unusedSimpArgs false
set_option maxHeartbeats 1000000
namespace Go.Ab

/-- The row is laid anew as one without elements. -/
theorem LCalls.consume {P : Program} {f : Nat} {a r : AV} {l ver es n : Nat} {st : Own} {elems : List (List CV)} {ps : List (List PV)} (h : PCalls P f [a, .c (.p (frzPV st es ps))] r) (hn : n ≤ elems.length) (hps : toPss (elems.take n) = some ps) (al : Nat) :
    LCalls P f [a, .c (.ref l ver 0 n)] [(l, .row ver es st elems)] r (some (l, .row (ver + 1) es .emp [])) al := by
  obtain ⟨he, hp, hr, hc⟩ := h
  have hpa : pureA a = true := List.all_eq_true.1 hp a (by simp)
  refine LCalls.of he rfl (fun _ _ h => by cases h; exact ⟨.inl (by simp), rfl⟩) fun H nx hx => ⟨he, fun w β F vals hs hl hv => ?_⟩
  have hH := hx (l, .row ver es st elems) (by simp)
  simp only at hH
  have hfz : frzA (.c (.ref l ver 0 n)) H = some (.c (.p (frzPV st es ps)), hdel H l) := by
    simp [frzA, frz1, frzC, hH, hn, hps]
  obtain ⟨F2, q1, q2, q3, q4⟩ := frzA_ok hs hfz
  have hlt : l < nx := hs.dom _ _ hH
  refine (hc w F2 vals q1.fin (by simpa using hl) (fun j x u h1 h2 => ?_)).mono ?_
  · match j, h1 with
    | 0, h1 => cases h1; exact ((hv 0 _ u rfl h2).ext q2).pure hpa
    | 1, h1 => cases h1; exact (q4 u (hv 1 _ u rfl h2)).pure rfl
    | j + 2, h1 => simp at h1
  rintro d w' ⟨v, F3, rfl, hrv, hpx⟩
  obtain ⟨k1, k2⟩ := hpx.frame q1
  have k3 := q2.trans k2
  have hup : hget (hset H l (.row (ver + 1) es .emp [])) = upd (hget H) l (.row (ver + 1) es .emp []) := hget_hset H l (.row (ver + 1) es .emp [])
  have hsp : ∀ k, (k = l ∧ upd (hget H) l (.row (ver + 1) es .emp []) k = some (.row (ver + 1) es .emp [])) ∨ (k ≠ l ∧ upd (hget H) l (.row (ver + 1) es .emp []) k = hget (hdel H l) k ∧ upd (hget H) l (.row (ver + 1) es .emp []) k = hget H k) := by
    intro k
    by_cases hk : k = l
    · exact .inl ⟨hk, by simp [upd, hk]⟩
    · refine .inr ⟨hk, ?_, by simp [upd, hk]⟩
      rw [hget_hdel]; simp [upd, hk]
  have hlv : ∀ {k}, live (upd (hget H) l (.row (ver + 1) es .emp [])) k → live (hget (hdel H l)) k := by
    rintro k ⟨a, b, c, q⟩
    rcases hsp k with ⟨_, e⟩ | ⟨_, e, _⟩
    · rw [e] at q; cases q
    · exact ⟨a, b, c, by rw [← e]; exact q⟩
  have hX : Ext w (hget H) β F nx w' (upd (hget H) l (.row (ver + 1) es .emp [])) β F3 nx := by
    refine ⟨k3.os, k3.tape, k3.output, k3.size, Nat.le_refl _, k3.mono, k3.cell, k3.new, ?_, fun k hk => ?_, k3.frame, fun k hk h0 e => ?_⟩
    · intro k hk h0 ver' es' st' elems' hq
      rcases hsp k with ⟨rfl, e⟩ | ⟨_, e, _⟩
      · rw [e] at hq
        cases hq
        exact ⟨ver, st, elems, hH, by omega, fun q => by omega⟩
      · rw [e] at hq
        exact k3.keep k hk h0 _ _ _ _ hq
    · exact k3.orig k (hlv hk)
    · rcases hsp k with ⟨_, e'⟩ | ⟨_, _, e'⟩
      · rw [e'] at e; cases e
      · rw [e'] at e; exact h0 e
  refine ⟨r, hset H l (.row (ver + 1) es .emp []), nx, v, β, F3, rfl, ⟨rfl, hup, rfl⟩, ?_, hrv.pure hr, by rw [hup]; exact hX⟩
  rw [hup]
  refine ⟨fun k b hb => ?_, fun k ver' es' st' elems' hb => ?_, fun k ver' es' elems' hb => ?_, fun k k' h1 h2 => k1.inj _ _ (hlv h1) (hlv h2), fun k h1 => k1.sep _ (hlv h1), k1.fin⟩
  · rcases hsp k with ⟨rfl, _⟩ | ⟨_, _, e⟩
    · exact hlt
    · rw [e] at hb; exact hs.dom _ _ hb
  · rcases hsp k with ⟨rfl, e⟩ | ⟨_, _, e⟩
    · rw [e] at hb
      cases hb
      exact ⟨(hs.pos _ _ _ _ _ hH).1, fun i e h => by simp at h, fun _ => rfl⟩
    · rw [e] at hb; exact hs.pos _ _ _ _ _ hb
  · rcases hsp k with ⟨rfl, e⟩ | ⟨_, _, e⟩
    · rw [e] at hb; cases hb
    · rw [e] at hb
      obtain ⟨arr, ty, ha, hsz, hcc⟩ := hs.row _ _ _ _ hb
      refine ⟨arr, ty, by rw [hpx.old _ (hs.block_lt ⟨_, _, _, hb⟩)]; exact ha, hsz, fun i j e' c h3 h4 => ?_⟩
      obtain ⟨u, hu, hcu⟩ := hcc i j e' c h3 h4
      exact ⟨u, hu, hcu.ext hX⟩
end Go.Ab
end PAb28

section PSp27
/- Contracts, part 27: the law GraphStays. -/
set_option linter.unusedVariables false
set_option linter.unusedSimpArgs false
set_option maxHeartbeats 4000000
namespace Go.Ab
open Go.Proofs

theorem smG_ok {g : FGraph} (h : wrongG g = 0) : smG g := by
  obtain ⟨⟨h1, h2⟩, ⟨h3, h4⟩, h5, h6⟩ := wrong_iff.1 h
  exact ⟨by omega, by omega, fun n hn => ⟨by have := (h4 n hn).2.1; omega, by have := (h4 n hn).2.2.1; omega⟩, fun n hn => ⟨by have := (h6 n hn).1.2.1; omega, by have := (h6 n hn).1.2.2.1; omega⟩⟩
theorem fewOps_len {l : List MOp} (h : fewOps l = true) : l.length ≤ 70 := by
  unfold fewOps at h
  simp only [Bool.and_eq_true, decide_eq_true_eq] at h
  omega
theorem smG_nil : smG nilG := ⟨by simp [nilG, Sl.none], by simp [nilG, Sl.none], by simp [nilG, Sl.none], by simp [nilG, Sl.none]⟩
theorem smG_apply (g : FGraph) (ops : List MOp) : smG (applyG g ops).1 := by
  by_cases h : (applyG g ops).2.2 = 0
  · by_cases hw : wrongG g = 0
    · have hok := okL_copy (wrong_iff.1 hw)
      have hs : g.nodes.st ≠ .own → g.nodes.l.map cN = [] := fun q => by rw [g.nodes.st_own q]; rfl
      have ht : g.edges.st ≠ .own → g.edges.l.map cE = [] := fun q => by rw [g.edges.st_own q]; rfl
      rcases runL_some (ops := ops) (i := 0) hok hs ht with ⟨s', t', x', y', e1, e2, e3, e4, e5⟩ | ⟨k, e, e1, e2⟩
      · unfold applyG
        rw [if_pos hw, e1]
        refine smG_ok ?_
        rw [wrong_iff]
        show okL (Sl.ofSt s' x').l (Sl.ofSt t' y').l
        rw [ofSt_l e3, ofSt_l e4]; exact e2
      · unfold applyG
        rw [if_pos hw, e1]
        exact smG_nil
    · unfold applyG
      rw [if_neg hw]
      exact smG_nil
  · unfold applyG
    split
    · rename_i hw
      have hok := okL_copy (wrong_iff.1 hw)
      have hs : g.nodes.st ≠ .own → g.nodes.l.map cN = [] := fun q => by rw [g.nodes.st_own q]; rfl
      have ht : g.edges.st ≠ .own → g.edges.l.map cE = [] := fun q => by rw [g.edges.st_own q]; rfl
      rcases runL_some (ops := ops) (i := 0) hok hs ht with ⟨s', t', x', y', e1, e2, e3, e4, e5⟩ | ⟨k, e, e1, e2⟩
      · rw [e1]
        refine smG_ok ?_
        rw [wrong_iff]
        show okL (Sl.ofSt s' x').l (Sl.ofSt t' y').l
        rw [ofSt_l e3, ofSt_l e4]; exact e2
      · rw [e1]
        exact smG_nil
    · exact smG_nil
theorem graphStays_ok (g : FGraph) (ops : Sl MOp) (o : MOp) : PCalls Try.prog n_pleachlaw26_GraphStays [aggP (encG g), ops.av 8 encO, aggP (encO o)] (vB true) := by
  refine p_pleachlaw26_GraphStays (Nat.le_of_ble_eq_true rfl) rfl rfl ?_
  have f3 : PCalls Try.prog n_pleachref26_FewOps [.c (.p (.sl 8 true [encO o]))] (vB (fewOps [o])) := fewOps_ok ⟨some true, [o], fun h => by cases h⟩
  simp -implicitDefEqProofs only [go_sem, reduceIte, Nat.reduceEqDiff, s_pleachlaw26_GraphStays, encG, encO]
  refine CALL_of (few_ok g) ?_
  cases hf : fewG g with
  | false =>
    simp -implicitDefEqProofs only [go_sem, reduceIte, Nat.reduceEqDiff]
    refine CALL_of awake26_ok ?_
    simp -implicitDefEqProofs only [go_sem, reduceIte, Nat.reduceEqDiff]
  | true =>
  simp -implicitDefEqProofs only [go_sem, reduceIte, Nat.reduceEqDiff]
  refine CALL_of (fewOps_ok ops) ?_
  cases hfo : fewOps ops.l with
  | false =>
    simp -implicitDefEqProofs only [go_sem, reduceIte, Nat.reduceEqDiff]
    refine CALL_of awake26_ok ?_
    simp -implicitDefEqProofs only [go_sem, reduceIte, Nat.reduceEqDiff]
  | true =>
  simp -implicitDefEqProofs only [go_sem, reduceIte, Nat.reduceEqDiff, litA, setSeg, toPss, Option.bind_some]
  refine CALL_of f3 ?_
  cases hf1 : fewOps [o] with
  | false =>
    simp -implicitDefEqProofs only [go_sem, reduceIte, Nat.reduceEqDiff]
    refine CALL_of awake26_ok ?_
    simp -implicitDefEqProofs only [go_sem, reduceIte, Nat.reduceEqDiff]
  | true =>
  have hm := smG_few hf
  have hl := fewOps_len hfo
  simp -implicitDefEqProofs only [go_sem, reduceIte, Nat.reduceEqDiff]
  refine CALL_of (apply_ok g ops hm (by omega)) ?_
  by_cases h0 : (applyG g ops.l).2.2 = 0
  case neg =>
    simp -implicitDefEqProofs only [go_sem, reduceIte, Nat.reduceEqDiff, h0, fillA, storeA, setSeg, List.drop_zero, List.cons_append, List.nil_append, List.append_nil, List.drop_succ_cons, List.drop_nil, ghK, doGh, and_self]
    refine CALL_of awake26_ok ?_
    simp -implicitDefEqProofs only [go_sem, reduceIte, Nat.reduceEqDiff]
  obtain ⟨w1, w2, w3⟩ := stays o h0
  simp -implicitDefEqProofs only [go_sem, reduceIte, Nat.reduceEqDiff, h0, fillA, storeA, setSeg, List.drop_zero, List.cons_append, List.nil_append, List.append_nil, List.drop_succ_cons, List.drop_nil, ghK, doGh, and_self, litA, toPss, Option.bind_some]
  have c2 := apply_ok (applyG g ops.l).1 ⟨some true, [o], fun h => by cases h⟩ (smG_ok w1) (by simp)
  refine CALL_of c2 ?_
  have hb1 : ops.l.length * 104 ≤ 140737488355328 := by omega
  have hb2 : (ops.l.length + 1) * 104 ≤ 140737488355328 := by omega
  simp -implicitDefEqProofs only [go_sem, reduceIte, Nat.reduceEqDiff, fillA, storeA, setSeg, List.drop_zero, List.cons_append, List.nil_append, List.append_nil, List.drop_succ_cons, List.drop_nil, ghK, doGh, and_self, litA, toPss, Option.bind_some, appendA, content_sl, content_lit, hb1, hb2, grown, List.isEmpty_cons]
  have c3 : PCalls Try.prog n_graph_Apply [aggP (encG g), .c (.p (frzPV .own 8 ((ops.l ++ [o]).map encO)))] (.tup [aggP (encG (applyG g (ops.l ++ [o])).1), vI .i64 (applyG g (ops.l ++ [o])).2.1, vI .i64 (applyG g (ops.l ++ [o])).2.2]) :=
    apply_ok g ⟨some false, ops.l ++ [o], fun h => by cases h⟩ hm (by simp; omega)
  refine (LCalls.consume (l := 5) (ver := 1) (n := ops.l.length + 1) (elems := (ops.l ++ [o]).map fun y => (encO y).map CV.p) c3 (by simp) (by rw [List.take_of_length_le (by simp)]; exact toPss_map encO _) _).calld (by decide) (in1 (by simp [hget])) (by simp -implicitDefEqProofs only [go_sem, reduceIte, Nat.reduceEqDiff]) ?_
  simp -implicitDefEqProofs only [go_sem, reduceIte, Nat.reduceEqDiff, fillA, storeA, setSeg, List.drop_zero, List.cons_append, List.nil_append, List.append_nil, List.drop_succ_cons, List.drop_nil, ghK, doGh, and_self, hset]
  refine CALL_of (check_ok _) ?_
  simp -implicitDefEqProofs only [go_sem, reduceIte, Nat.reduceEqDiff, w1]
  refine CALL_of (refSame_ok _ _ ?_) ?_
  · exact smG_apply _ _
  simp -implicitDefEqProofs only [go_sem, reduceIte, Nat.reduceEqDiff, w2, w3]
  refine CALL_of awake26_ok ?_
  simp -implicitDefEqProofs only [go_sem, reduceIte, Nat.reduceEqDiff]
end Go.Ab
end PSp27
