/- Part 1 of the proof: it joins the texts Ab1, Ab2, Ab3, Ab4, Ab5, Ab6, Ab7, Ab8, Ab9, Ab10, Ab11, Ab12, Ab13, Ab14. -/
import Derived.Calls
import Derived.KernelRfl
import Derived.Laws.Entries
import Derived.Laws.Append
import Derived.Laws.AppendOwn
import Derived.Laws.CopyRow
import Derived.Laws.Slices
import Derived.Laws.StructEq
import Derived.Laws.Tables
import Derived.Laws.BytesArg
section PAb1
/- The framework 'Ab', part 1: abstract values, what they say of memory, and how that is carried from one world to a later one. -/
namespace Go.Ab

/-- Values that never change: the cells of slices and behind pointers lie in memory that nobody writes any more. -/
inductive PV where
  | int (k : IntKind) (n : Int)
  | bool (b : Bool)
  | str (s : List UInt8)
  | nil
  | sl (es : Nat) (full : Bool) (elems : List (List PV))
  | ptr (cells : List PV)
  | fn (f : Nat) (caps : List PV)
  | nilI
  | iface (t : Nat) (v : PV)
  | nilP
  | nilF
  | nilM
  deriving Inhabited, Repr

/-- A cell's value: a pure one, or one that speaks of the abstract heap. -/
inductive CV where
  | p (v : PV)
  | ptr (l ver i o : Nat)
  | ref (l ver off len : Nat)
  | fn (f : Nat) (first caps : List CV)
  deriving Inhabited, Repr

/-- A slot's value. -/
inductive AV where
  | c (v : CV)
  | agg (cs : List CV)
  | tup (vs : List AV)
  | u
  deriving Inhabited, Repr

/-- Has a row a block in memory: a nil slice and an empty one need none. -/
inductive Own where
  | nil
  | emp
  | own
  deriving DecidableEq, Inhabited, Repr

/-- A block of the abstract heap: a row of elements of 'es' cells. -/
inductive Blk where
  | row (ver es : Nat) (st : Own) (elems : List (List CV))
  | rsv
  deriving Inhabited, Repr

abbrev Heap := Nat → Option Blk
/-- Where a new row may lie. -/
def Al (H : Heap) (nx al : Nat) : Prop := (H al = none ∧ nx ≤ al) ∨ (H al = some .rsv ∧ al < nx)
abbrev Imm := Nat → Nat → Prop

def live (H : Heap) (l : Nat) : Prop := ∃ ver es elems, H l = some (.row ver es .own elems)

/-- What a pure value says of a value in the world w; F: the places that nobody writes any more. -/
inductive RepP (w : World) (F : Imm) : PV → Value → Prop where
  | int (k : IntKind) (n : Int) : RepP w F (.int k n) (.int k n)
  | bool (b : Bool) : RepP w F (.bool b) (.bool b)
  | str (s : List UInt8) : RepP w F (.str s) (.string ⟨s.toArray⟩)
  | nil : RepP w F .nil (.slice none 0 0)
  | sl (es : Nat) (full : Bool) (elems : List (List PV)) (a : Addr) (cap : Nat) (vs : Nat → Value)
      (hcap : elems.length ≤ cap) (hfull : full = true → cap = elems.length) (hes : ∀ (i : Nat) (e : List PV), elems[i]? = some e → e.length = es)
      (hc : ∀ j, j < elems.length * es → a.spot = none ∧ w.cell? ⟨a.block, a.off + j, none⟩ = some (vs j) ∧ F a.block (a.off + j))
      (hr : ∀ (i j : Nat) (e : List PV) (c : PV), elems[i]? = some e → e[j]? = some c → RepP w F c (vs (i * es + j))) :
      RepP w F (.sl es full elems) (.slice (some a) elems.length cap)
  | ptr (cells : List PV) (a : Addr) (vs : Nat → Value) (hsp : a.spot = none)
      (hc : ∀ j, j < cells.length → w.cell? ⟨a.block, a.off + j, none⟩ = some (vs j) ∧ F a.block (a.off + j))
      (hr : ∀ (j : Nat) (c : PV), cells[j]? = some c → RepP w F c (vs j)) :
      RepP w F (.ptr cells) (.pointer (some a))
  | fn (f : Nat) (caps : List PV) (vs : Array Value) (hs : vs.size = caps.length)
      (hr : ∀ (j : Nat) (c : PV) (v : Value), caps[j]? = some c → vs[j]? = some v → RepP w F c v) : RepP w F (.fn f caps) (.func (.func f) #[] vs)
  | nilI : RepP w F .nilI .nilIface
  | iface (t : Nat) (p : PV) (v : Value) (hr : RepP w F p v) : RepP w F (.iface t p) (.iface t v)
  | nilP : RepP w F .nilP (.pointer none)
  | nilF : RepP w F .nilF .nilFunc
  | nilM : RepP w F .nilM (.map none)

theorem RepP.mono {w w' : World} {F F' : Imm} (hF : ∀ b o, F b o → F' b o) (hw : ∀ b o, F b o → w'.cell? ⟨b, o, none⟩ = w.cell? ⟨b, o, none⟩)
    {p : PV} {v : Value} (h : RepP w F p v) : RepP w' F' p v := by
  induction h with
  | int k n => exact .int k n
  | bool b => exact .bool b
  | str s => exact .str s
  | nil => exact .nil
  | sl es full elems a cap vs hcap hfull hes hc hr ih =>
    exact .sl es full elems a cap vs hcap hfull hes (fun j hj => ⟨(hc j hj).1, by rw [hw _ _ (hc j hj).2.2]; exact (hc j hj).2.1, hF _ _ (hc j hj).2.2⟩) ih
  | ptr cells a vs hsp hc hr ih =>
    exact .ptr cells a vs hsp (fun j hj => ⟨by rw [hw _ _ (hc j hj).2]; exact (hc j hj).1, hF _ _ (hc j hj).2⟩) ih
  | fn f caps vs hs hr ih => exact .fn f caps vs hs ih
  | nilI => exact .nilI
  | iface t p v hr ih => exact .iface t p v ih
  | nilP => exact .nilP
  | nilF => exact .nilF
  | nilM => exact .nilM

/-- A slice value that stands for the elements off .. off + len of a row in block b. -/
def RefOk (w : World) (b es : Nat) (st : Own) (n off len : Nat) (v : Value) : Prop :=
  off + len ≤ n ∧ (st = .nil → v = .slice none 0 0) ∧ (st = .emp → ∃ a, v = .slice (some a) 0 0) ∧
  (st = .own → ∃ a cap, v = .slice (some a) len cap ∧ len ≤ cap ∧ (cap ≠ 0 → a = ⟨b, off * es, none⟩) ∧
    ∃ arr ty, w.heap[b]? = some (.cells arr ty (0, 0)) ∧ (off + cap) * es = arr.size)

/-- What a cell's value says. -/
inductive RepC (w : World) (F : Imm) (β : Nat → Nat) (H : Heap) (nx : Nat) : CV → Value → Prop where
  | p (p : PV) (v : Value) (h : RepP w F p v) : RepC w F β H nx (.p p) v
  | ptr (l ver i o : Nat) (a : Option Addr) (hl : l < nx ∧ H l ≠ some .rsv) (hv : ∀ ver0 es st elems, H l = some (.row ver0 es st elems) → ver ≤ ver0)
      (h : ∀ es elems, H l = some (.row ver es .own elems) → a = some ⟨β l, i * es + o, none⟩) : RepC w F β H nx (.ptr l ver i o) (.pointer a)
  | ref (l ver off len : Nat) (a : Option Addr) (n cap : Nat) (hl : l < nx ∧ H l ≠ some .rsv) (hv : ∀ ver0 es st elems, H l = some (.row ver0 es st elems) → ver ≤ ver0)
      (h : ∀ es st elems, H l = some (.row ver es st elems) → RefOk w (β l) es st elems.length off len (.slice a n cap)) : RepC w F β H nx (.ref l ver off len) (.slice a n cap)
  | fn (f : Nat) (first caps : List CV) (us vs : Array Value) (hu : us.size = first.length) (hs : vs.size = caps.length)
      (hq : ∀ (j : Nat) (c : CV) (v : Value), first[j]? = some c → us[j]? = some v → RepC w F β H nx c v)
      (hr : ∀ (j : Nat) (c : CV) (v : Value), caps[j]? = some c → vs[j]? = some v → RepC w F β H nx c v) : RepC w F β H nx (.fn f first caps) (.func (.func f) us vs)

/-- What a slot's value says. -/
inductive RepA (w : World) (F : Imm) (β : Nat → Nat) (H : Heap) (nx : Nat) : AV → Value → Prop where
  | c (c : CV) (v : Value) (h : RepC w F β H nx c v) : RepA w F β H nx (.c c) v
  | agg (cs : List CV) (vs : Array Value) (hs : vs.size = cs.length)
      (hr : ∀ (j : Nat) (c : CV) (v : Value), cs[j]? = some c → vs[j]? = some v → RepC w F β H nx c v) : RepA w F β H nx (.agg cs) (.agg vs)
  | tup (as : List AV) (vs : Array Value) (hs : vs.size = as.length)
      (hr : ∀ (j : Nat) (a : AV) (v : Value), as[j]? = some a → vs[j]? = some v → RepA w F β H nx a v) : RepA w F β H nx (.tup as) (.tuple vs)
  | u (v : Value) : RepA w F β H nx .u v

/-- The world bears the abstract heap. -/
structure Sim (w : World) (H : Heap) (β : Nat → Nat) (F : Imm) (nx : Nat) : Prop where
  dom : ∀ l b, H l = some b → l < nx
  pos : ∀ l ver es st elems, H l = some (.row ver es st elems) → 0 < es ∧ (∀ (i : Nat) (e : List CV), elems[i]? = some e → e.length = es) ∧ (st ≠ .own → elems = [])
  row : ∀ l ver es elems, H l = some (.row ver es .own elems) → ∃ arr ty, w.heap[β l]? = some (.cells arr ty (0, 0)) ∧ elems.length * es ≤ arr.size ∧
    ∀ (i j : Nat) (e : List CV) (c : CV), elems[i]? = some e → e[j]? = some c → ∃ v, arr[i * es + j]? = some v ∧ RepC w F β H nx c v
  inj : ∀ l l', live H l → live H l' → β l = β l' → l = l'
  sep : ∀ l, live H l → ∀ o, ¬ F (β l) o
  fin : ∀ b o, F b o → b < w.heap.size

/-- What has become of world and heap: old memory outside of the rows is as it was. -/
structure Ext (w : World) (H : Heap) (β : Nat → Nat) (F : Imm) (nx : Nat) (w' : World) (H' : Heap) (β' : Nat → Nat) (F' : Imm) (nx' : Nat) : Prop where
  os : w'.os = w.os
  tape : w'.tape = w.tape
  output : w'.output = w.output
  size : w.heap.size ≤ w'.heap.size
  nxle : nx ≤ nx'
  mono : ∀ b o, F b o → F' b o
  cell : ∀ b o, F b o → w'.cell? ⟨b, o, none⟩ = w.cell? ⟨b, o, none⟩
  new : ∀ b o, F' b o → F b o ∨ w.heap.size ≤ b ∨ ∃ l, live H l ∧ β l = b
  keep : ∀ l, l < nx → H l ≠ some .rsv → ∀ ver' es st' elems', H' l = some (.row ver' es st' elems') → ∃ ver st elems, H l = some (.row ver es st elems) ∧ ver ≤ ver' ∧
    (ver = ver' → st = st' ∧ elems.length ≤ elems'.length ∧ (st = .own → β' l = β l ∧
      ∀ arr ty, w.heap[β l]? = some (.cells arr ty (0, 0)) → ∃ arr' ty', w'.heap[β l]? = some (.cells arr' ty' (0, 0)) ∧ arr'.size = arr.size))
  orig : ∀ l, live H' l → (live H l ∧ l < nx ∧ β' l = β l) ∨ w.heap.size ≤ β' l
  frame : ∀ b, b < w.heap.size → (∀ l, live H l → β l ≠ b) → w'.heap[b]? = w.heap[b]?
  rsv : ∀ l, l < nx → H l ≠ some .rsv → H' l ≠ some .rsv

theorem Ext.refl (w : World) (H : Heap) (β : Nat → Nat) (F : Imm) (nx : Nat) (hd : ∀ l b, H l = some b → l < nx) : Ext w H β F nx w H β F nx where
  os := rfl
  tape := rfl
  output := rfl
  size := Nat.le_refl _
  nxle := Nat.le_refl _
  mono := fun _ _ h => h
  cell := fun _ _ _ => rfl
  new := fun _ _ h => .inl h
  rsv := fun _ _ h => h
  keep := fun l _ _ ver es st elems h => ⟨ver, st, elems, h, Nat.le_refl _, fun _ => ⟨rfl, Nat.le_refl _, fun _ => ⟨rfl, fun arr ty ha => ⟨arr, ty, ha, rfl⟩⟩⟩⟩
  orig := fun l h => .inl ⟨h, by obtain ⟨ver, es, elems, h⟩ := h; exact hd _ _ h, rfl⟩
  frame := fun _ _ _ => rfl

theorem Ext.trans {w : World} {H : Heap} {β : Nat → Nat} {F : Imm} {nx : Nat} {w1 : World} {H1 : Heap} {β1 : Nat → Nat} {F1 : Imm} {nx1 : Nat}
    {w2 : World} {H2 : Heap} {β2 : Nat → Nat} {F2 : Imm} {nx2 : Nat} (h : Ext w H β F nx w1 H1 β1 F1 nx1) (k : Ext w1 H1 β1 F1 nx1 w2 H2 β2 F2 nx2) : Ext w H β F nx w2 H2 β2 F2 nx2 where
  os := k.os.trans h.os
  tape := k.tape.trans h.tape
  output := k.output.trans h.output
  size := Nat.le_trans h.size k.size
  nxle := Nat.le_trans h.nxle k.nxle
  mono := fun b o hb => k.mono b o (h.mono b o hb)
  cell := fun b o hb => (k.cell b o (h.mono b o hb)).trans (h.cell b o hb)
  new := fun b o hb => by
    rcases k.new b o hb with h1 | h1 | ⟨l, hl, rfl⟩
    · exact h.new b o h1
    · exact .inr (.inl (Nat.le_trans h.size h1))
    · rcases h.orig l hl with ⟨h2, _, h3⟩ | h2
      · exact .inr (.inr ⟨l, h2, h3.symm⟩)
      · exact .inr (.inl h2)
  rsv := fun l hl hn => k.rsv l (Nat.lt_of_lt_of_le hl h.nxle) (h.rsv l hl hn)
  keep := fun l hl hnr ver es st elems hr => by
    obtain ⟨ver1, st1, elems1, h1, hle1, hk1⟩ := k.keep l (Nat.lt_of_lt_of_le hl h.nxle) (h.rsv l hl hnr) ver es st elems hr
    obtain ⟨ver0, st0, elems0, h0, hle0, hk0⟩ := h.keep l hl hnr ver1 es st1 elems1 h1
    refine ⟨ver0, st0, elems0, h0, Nat.le_trans hle0 hle1, fun he => ?_⟩
    obtain rfl : ver0 = ver1 := by omega
    obtain ⟨rfl, hl0, hb0⟩ := hk0 rfl
    obtain ⟨rfl, hl1, hb1⟩ := hk1 (by omega)
    refine ⟨rfl, Nat.le_trans hl0 hl1, fun hst => ?_⟩
    obtain ⟨e0, a0⟩ := hb0 hst
    obtain ⟨e1, a1⟩ := hb1 hst
    refine ⟨e1.trans e0, fun arr ty harr => ?_⟩
    obtain ⟨arr1, ty1, hw1, hs1⟩ := a0 arr ty harr
    obtain ⟨arr2, ty2, hw2, hs2⟩ := a1 arr1 ty1 (by rw [e0]; exact hw1)
    exact ⟨arr2, ty2, by rw [← e0]; exact hw2, hs2.trans hs1⟩
  orig := fun l hl => by
    rcases k.orig l hl with ⟨h1, _, e1⟩ | h1
    · rcases h.orig l h1 with ⟨h0, hlt, e0⟩ | h0
      · exact .inl ⟨h0, hlt, e1.trans e0⟩
      · exact .inr (by rw [e1]; exact h0)
    · exact .inr (Nat.le_trans h.size h1)
  frame := fun b hb hn => by
    rw [k.frame b (Nat.lt_of_lt_of_le hb h.size) ?_, h.frame b hb hn]
    intro l hl he
    rcases h.orig l hl with ⟨h0, _, e0⟩ | h0
    · exact hn l h0 (e0.symm.trans he)
    · omega

theorem RepC.ext {w : World} {H : Heap} {β : Nat → Nat} {F : Imm} {nx : Nat} {w' : World} {H' : Heap} {β' : Nat → Nat} {F' : Imm} {nx' : Nat}
    (x : Ext w H β F nx w' H' β' F' nx') {c : CV} {v : Value} (h : RepC w F β H nx c v) : RepC w' F' β' H' nx' c v := by
  induction h with
  | p p v h => exact .p p v (h.mono x.mono x.cell)
  | ptr l ver i o a hl hv h =>
    refine .ptr l ver i o a ⟨Nat.lt_of_lt_of_le hl.1 x.nxle, x.rsv l hl.1 hl.2⟩ (fun ver0 es st elems h0 => ?_) (fun es elems h0 => ?_)
    · obtain ⟨ver1, st1, elems1, h1, hle, _⟩ := x.keep l hl.1 hl.2 _ _ _ _ h0
      exact Nat.le_trans (hv _ _ _ _ h1) hle
    · obtain ⟨ver1, st1, elems1, h1, hle, hk⟩ := x.keep l hl.1 hl.2 _ _ _ _ h0
      obtain rfl : ver = ver1 := Nat.le_antisymm (hv _ _ _ _ h1) hle
      obtain ⟨rfl, _, hb⟩ := hk rfl
      rw [(hb rfl).1]
      exact h _ _ h1
  | ref l ver off len a n cap hl hv h =>
    refine .ref l ver off len a n cap ⟨Nat.lt_of_lt_of_le hl.1 x.nxle, x.rsv l hl.1 hl.2⟩ (fun ver0 es st elems h0 => ?_) (fun es st elems h0 => ?_)
    · obtain ⟨ver1, st1, elems1, h1, hle, _⟩ := x.keep l hl.1 hl.2 _ _ _ _ h0
      exact Nat.le_trans (hv _ _ _ _ h1) hle
    · obtain ⟨ver1, st1, elems1, h1, hle, hk⟩ := x.keep l hl.1 hl.2 _ _ _ _ h0
      obtain rfl : ver = ver1 := Nat.le_antisymm (hv _ _ _ _ h1) hle
      obtain ⟨rfl, hlen, hb⟩ := hk rfl
      obtain ⟨r1, r2, r2', r3⟩ := h _ _ _ h1
      refine ⟨Nat.le_trans r1 hlen, r2, r2', fun hst => ?_⟩
      obtain ⟨a', cap', e1, e2, e3, arr, ty, e4, e5⟩ := r3 hst
      obtain ⟨b1, b2⟩ := hb hst
      obtain ⟨arr', ty', w1, w2⟩ := b2 arr ty e4
      exact ⟨a', cap', e1, e2, by rw [b1]; exact e3, arr', ty', by rw [b1]; exact w1, by rw [w2]; exact e5⟩
  | fn f first caps us vs hu hs hq hr ihq ihr => exact .fn f first caps us vs hu hs ihq ihr

theorem RepA.ext {w : World} {H : Heap} {β : Nat → Nat} {F : Imm} {nx : Nat} {w' : World} {H' : Heap} {β' : Nat → Nat} {F' : Imm} {nx' : Nat}
    (x : Ext w H β F nx w' H' β' F' nx') {c : AV} {v : Value} (h : RepA w F β H nx c v) : RepA w' F' β' H' nx' c v := by
  induction h with
  | c c v h => exact .c c v (h.ext x)
  | agg cs vs hs hr => exact .agg cs vs hs (fun j c v h1 h2 => (hr j c v h1 h2).ext x)
  | tup as vs hs hr ih => exact .tup as vs hs ih
  | u v => exact .u v

/-! One cell each. -/
theorem RepP.cells {w : World} {F : Imm} {p : PV} {v : Value} (h : RepP w F p v) : v.cells = #[v] := by cases h <;> rfl
theorem RepC.cells {w : World} {F : Imm} {β : Nat → Nat} {H : Heap} {nx : Nat} {c : CV} {v : Value} (h : RepC w F β H nx c v) : v.cells = #[v] := by
  cases h with
  | p p v h => exact h.cells
  | _ => rfl

end Go.Ab
end PAb1

section PAb2
/- The framework 'Ab', part 2: the operations and statements of the abstract machine. -/
set_option linter.unusedVariables false
namespace Go.Ab

/-- An operand. -/
inductive Arg where
  | t (n : Nat)
  | k (v : AV)
  deriving Inhabited, Repr

structure St where
  env : List (Nat × AV)
  H : List (Nat × Blk)
  nx : Nat

def lkp : List (Nat × AV) → Nat → AV
  | [], _ => .u
  | (k, v) :: r, t => if k = t then v else lkp r t
def hget : List (Nat × Blk) → Nat → Option Blk
  | [], _ => none
  | (k, v) :: r, t => if k = t then some v else hget r t
def hset : List (Nat × Blk) → Nat → Blk → List (Nat × Blk)
  | [], l, b => [(l, b)]
  | (k, v) :: r, l, b => if k = l then (k, b) :: r else (k, v) :: hset r l b
def Arg.val (e : List (Nat × AV)) : Arg → AV
  | .t n => lkp e n
  | .k v => v

/-- What may be nil. -/
inductive NK where
  | slice
  | ptr
  | iface
  | func
  | map
  deriving DecidableEq, Inhabited, Repr

/-- What a cell of a struct that is compared holds. -/
inductive CK where
  | int
  | str
  | bool
  deriving DecidableEq, Inhabited, Repr

inductive AO where
  | move (x : Arg)
  | pick (c a b : Arg)
  | allocB (es : Nat) (elems : List (List CV))
  | box (x : Arg)
  | boxI (x : Arg)
  | nilRow (es : Nat)
  | build (zero : List CV) (parts : List (Nat × Nat × Arg))
  | lit (es : Nat) (elems : List (List CV)) (parts : List (Nat × Arg))
  | litR (es : Nat) (elems : List (List CV)) (parts : List (Nat × Arg))
  | load (agg : Bool) (n : Nat) (x : Arg)
  | store (n : Nat) (x v : Arg)
  | nilChk (x : Arg)
  | bin (op : BinOp) (x y : Arg)
  | eqB (neg : Bool) (x y : Arg)
  | eqN (k : NK) (neg : Bool) (x : Arg)
  | eqS (ks : List CK) (neg : Bool) (x y : Arg)
  | un (op : UnOp) (x : Arg)
  | convI (k : IntKind) (x : Arg)
  | convS (x : Arg)
  | bytesS (x : Arg)
  | mkFn (f : Nat) (first caps : List Arg)
  | slice (es : Nat) (x : Arg) (lo hi mx : Option Arg)
  | sliceS (x : Arg) (lo hi : Option Arg)
  | fieldA (off n : Nat) (x : Arg)
  | field (off : Nat) (agg : Bool) (n : Nat) (x : Arg)
  | idxA (es : Nat) (x i : Arg)
  | idxArr (len es : Nat) (x i : Arg)
  | idxS (x i : Arg)
  | idxV (len es : Nat) (agg : Bool) (x i : Arg)
  | extract (x : Arg) (i : Nat)
  | len (x : Arg)
  | lenS (x : Arg)
  | append (es bytes : Nat) (x y : Arg)
  | copy (es : Nat) (x y : Arg)
  | clear (es : Nat) (zero : List CV) (x : Arg)
  | minI (xs : List Arg)
  | maxI (xs : List Arg)
  | call (f : Nat) (args : List Arg)
  | callv (x : Arg) (args : List Arg)
  deriving Inhabited, Repr

abbrev vI (k : IntKind) (n : Int) : AV := .c (.p (.int k n))
abbrev vB (b : Bool) : AV := .c (.p (.bool b))
abbrev vS (s : List UInt8) : AV := .c (.p (.str s))
abbrev vP (p : PV) : AV := .c (.p p)

def intOp (op : BinOp) (k : IntKind) (a b : Int) : Option AV :=
  match op with
  | .add => some (vI k (k.wrap (a + b)))
  | .sub => some (vI k (k.wrap (a - b)))
  | .mul => some (vI k (k.wrap (a * b)))
  | .quo => if b = 0 then none else some (vI k (k.wrap (a.tdiv b)))
  | .rem => if b = 0 then none else some (vI k (a.tmod b))
  | .and => some (vI k (k.wrap (BitVec.ofInt k.bits a &&& BitVec.ofInt k.bits b).toNat))
  | .or => some (vI k (k.wrap (BitVec.ofInt k.bits a ||| BitVec.ofInt k.bits b).toNat))
  | .xor => some (vI k (k.wrap (BitVec.ofInt k.bits a ^^^ BitVec.ofInt k.bits b).toNat))
  | .andNot => some (vI k (k.wrap (BitVec.ofInt k.bits a &&& ~~~BitVec.ofInt k.bits b).toNat))
  | .eql => some (vB (decide (a = b)))
  | .neq => some (vB (!decide (a = b)))
  | .lss => some (vB (decide (a < b)))
  | .leq => some (vB (decide (a ≤ b)))
  | .gtr => some (vB (decide (b < a)))
  | .geq => some (vB (decide (b ≤ a)))
  | _ => none
def shOp (op : BinOp) (k : IntKind) (a b : Int) : Option AV :=
  if b < 0 then none else
  match op with
  | .shl => some (vI k (k.wrap (a * 2 ^ (min b.toNat k.bits))))
  | .shr => some (vI k (a.fdiv (2 ^ (min b.toNat k.bits))))
  | _ => none
def strOp (op : BinOp) (a b : List UInt8) : Option AV :=
  match op with
  | .add => if ((a.length + b.length : Nat) : Int) ≤ 9223372036854775807 then some (vS (a ++ b)) else none
  | .eql => some (vB (decide (a = b)))
  | .neq => some (vB (!decide (a = b)))
  | .lss => some (vB (Op.bytesLess a b))
  | .leq => some (vB (Op.bytesLess a b || decide (a = b)))
  | .gtr => some (vB (!(Op.bytesLess a b || decide (a = b))))
  | .geq => some (vB (!Op.bytesLess a b))
  | _ => none
/-- Is a value nil? -/
def isNilK : NK → AV → Option Bool
  | .slice, .c (.p .nil) => some true
  | .slice, .c (.p (.sl ..)) => some false
  | .iface, .c (.p .nilI) => some true
  | .iface, .c (.p (.iface ..)) => some false
  | .ptr, .c (.p .nilP) => some true
  | .ptr, .c (.p (.ptr _)) => some false
  | .func, .c (.p .nilF) => some true
  | .func, .c (.p (.fn ..)) => some false
  | .map, .c (.p .nilM) => some true
  | _, _ => none
def neg (n b : Bool) : Bool := if n then !b else b
def binA (op : BinOp) (x y : AV) : Option AV :=
  match x, y with
  | .c (.p (.int k a)), .c (.p (.int k' b)) =>
    match op with
    | .shl => shOp .shl k a b
    | .shr => shOp .shr k a b
    | op => if k = k' then intOp op k a b else none
  | .c (.p (.str a)), .c (.p (.str b)) => strOp op a b
  | _, _ => none
def eqBA (n : Bool) (x y : AV) : Option AV :=
  match x, y with
  | .c (.p (.bool a)), .c (.p (.bool b)) => some (vB (neg n (a == b)))
  | _, _ => none
/-- Are two cells the same: texts, numbers, bools. -/
def eqCell : CK → CV → CV → Option Bool
  | .int, .p (.int k a), .p (.int k' b) => if k = k' then some (decide (a = b)) else none
  | .str, .p (.str a), .p (.str b) => some (decide (a = b))
  | .bool, .p (.bool a), .p (.bool b) => some (a == b)
  | _, _, _ => none
def eqCells : List CK → List CV → List CV → Option Bool
  | [], [], [] => some true
  | k :: ks, x :: xs, y :: ys => match eqCell k x y, eqCells ks xs ys with
    | some a, some b => some (a && b)
    | _, _ => none
  | _, _, _ => none
def eqSA (ks : List CK) (n : Bool) (x y : AV) : Option AV :=
  match x, y with
  | .agg xs, .agg ys => (eqCells ks xs ys).map fun b => vB (neg n b)
  | _, _ => none
def unA (op : UnOp) (x : AV) : Option AV :=
  match op, x with
  | .not, .c (.p (.bool b)) => some (vB !b)
  | .neg, .c (.p (.int k n)) => some (vI k (k.wrap (0 - n)))
  | _, _ => none
def convIA (k : IntKind) : AV → Option AV
  | .c (.p (.int _ n)) => some (vI k (k.wrap n))
  | _ => none
def convSA : AV → Option AV
  | .c (.p (.str s)) => some (vS s)
  | _ => none

/-- The cells of a value of a known size. -/
def cellsA : AV → Option (List CV)
  | .c v => some [v]
  | .agg cs => some cs
  | _ => none
def toP : CV → Option PV
  | .p v => some v
  | _ => none
def toPs : List CV → Option (List PV)
  | [] => some []
  | .p v :: r => (toPs r).map (v :: ·)
  | _ :: _ => none
def setSeg {α : Type} (e : List α) (o : Nat) (cs : List α) : List α := e.take o ++ cs ++ e.drop (o + cs.length)

/-- The elements of a live row at its own version. -/
def rowOf (H : Heap) (l ver : Nat) : Option (Nat × List (List CV)) :=
  match H l with
  | some (.row ver' es .own elems) => if ver = ver' then some (es, elems) else none
  | _ => none
def cellA (H : Heap) (l ver i : Nat) : Option (Nat × List CV) :=
  match rowOf H l ver with
  | some (es, elems) => (elems[i]?).map fun e => (es, e)
  | _ => none
def segA (agg : Bool) (n : Nat) (e : List CV) : Option AV :=
  if n ≤ e.length then (if agg then some (.agg (e.take n)) else match n, e with | 1, c :: _ => some (.c c) | _, _ => none) else none
def loadA (agg : Bool) (n : Nat) (x : AV) (H : Heap) : Option AV :=
  match x with
  | .c (.p (.ptr cells)) => segA agg n (cells.map .p)
  | .c (.ptr l ver i o) => match cellA H l ver i with
    | some (_, e) => segA agg n (e.drop o)
    | none => none
  | _ => none
def fieldAA (off n : Nat) (x : AV) (H : Heap) : Option AV :=
  if n = 0 then none else
  match x with
  | .c (.p (.ptr cells)) => some (.c (.p (.ptr (cells.drop off))))
  | .c (.ptr l ver i o) => match rowOf H l ver with
    | some _ => some (.c (.ptr l ver i (o + off)))
    | none => none
  | _ => none
def fieldFA (off : Nat) (agg : Bool) (n : Nat) (x : AV) : Option AV :=
  match x with
  | .agg cs => segA agg n (cs.drop off)
  | _ => none
def idxAA (es : Nat) (x i : AV) (H : Heap) : Option AV :=
  match x, i with
  | .c (.p (.sl es' _ elems)), .c (.p (.int _ i)) =>
    if es = es' ∧ 0 ≤ i then (elems[i.toNat]?).map fun e => .c (.p (.ptr e)) else none
  | .c (.ref l ver off len), .c (.p (.int _ i)) =>
    if 0 ≤ i ∧ i < len then match rowOf H l ver with
      | some (es', _) => if es = es' then some (.c (.ptr l ver (off + i.toNat) 0)) else none
      | none => none
    else none
  | _, _ => none
def idxArrA (len es : Nat) (x i : AV) (H : Heap) : Option AV :=
  match x, i with
  | .c (.p (.ptr cells)), .c (.p (.int _ i)) => if 0 ≤ i ∧ i < len then some (.c (.p (.ptr (cells.drop (i.toNat * es))))) else none
  | .c (.ptr l ver i0 o), .c (.p (.int _ i)) => if 0 ≤ i ∧ i < len then
      match rowOf H l ver with
      | some (es', _) => if es = es' ∧ o = 0 then some (.c (.ptr l ver (i0 + i.toNat) 0)) else some (.c (.ptr l ver i0 (o + i.toNat * es)))
      | none => none
    else none
  | _, _ => none
def idxSA (x i : AV) : Option AV :=
  match x, i with
  | .c (.p (.str s)), .c (.p (.int _ i)) => if 0 ≤ i then (s[i.toNat]?).map fun b => vI .u8 b.toNat else none
  | _, _ => none
def natA : Option AV → Nat → Option Nat
  | none, d => some d
  | some (.c (.p (.int _ n))), _ => if 0 ≤ n then some n.toNat else none
  | _, _ => none
def sliceA (es : Nat) (x : AV) (lo hi mx : Option AV) (H : Heap) : Option AV :=
  match x, mx with
  | .c (.p .nil), none => do
    let h ← natA hi 0
    let l ← natA lo 0
    if l = 0 ∧ h = 0 then some (.c (.p .nil)) else none
  | .c (.p (.sl es' full elems)), none => do
    let h ← natA hi elems.length
    let l ← natA lo 0
    if es = es' ∧ l ≤ h ∧ h ≤ elems.length then some (.c (.p (.sl es (full && decide (h = elems.length)) ((elems.take h).drop l)))) else none
  | .c (.p (.sl es' _ elems)), some m => do
    let m ← natA (some m) 0
    let h ← natA hi m
    let l ← natA lo 0
    if es = es' ∧ l ≤ h ∧ h = m ∧ m ≤ elems.length ∧ hi.isSome then some (.c (.p (.sl es true ((elems.take h).drop l)))) else none
  | .c (.ref r ver off len), none => do
    let h ← natA hi len
    let l ← natA lo 0
    match H r with
    | some (.row ver' es' _ elems) => if es = es' ∧ ver = ver' ∧ l ≤ h ∧ off + h ≤ elems.length then some (.c (.ref r ver (off + l) (h - l))) else none
    | _ => none
  | .c (.ref r ver off len), some m => do
    let m ← natA (some m) 0
    let h ← natA hi m
    let l ← natA lo 0
    match H r with
    | some (.row ver' es' .own elems) => if es = es' ∧ ver = ver' ∧ l ≤ h ∧ h ≤ m ∧ off + m ≤ elems.length ∧ hi.isSome then some .u else none
    | _ => none
  | _, _ => none
def sliceSA (x : AV) (lo hi : Option AV) : Option AV :=
  match x with
  | .c (.p (.str s)) => do
    let h ← natA hi s.length
    let l ← natA lo 0
    if l ≤ h ∧ h ≤ s.length then some (vS ((s.take h).drop l)) else none
  | _ => none
def lenSA : AV → Option AV
  | .c (.p (.str s)) => some (vI .i64 s.length)
  | _ => none
def lenA (x : AV) (H : Heap) : Option AV :=
  match x with
  | .c (.p .nil) => some (vI .i64 0)
  | .c (.p (.sl _ _ elems)) => some (vI .i64 elems.length)
  | .c (.ref l ver _ len) => match H l with
    | some (.row ver' _ _ _) => if ver = ver' then some (vI .i64 len) else none
    | _ => none
  | _ => none
def idxVA (len es : Nat) (agg : Bool) (x i : AV) : Option AV :=
  match x, i with
  | .agg cs, .c (.p (.int _ i)) => if 0 ≤ i ∧ i < len then segA agg es (cs.drop (i.toNat * es)) else none
  | _, _ => none
def extractA (x : AV) (i : Nat) : Option AV :=
  match x with
  | .tup vs => vs[i]?
  | _ => none
/-- The elements that are appended. -/
def content (es : Nat) (y : AV) (H : Heap) : Option (List (List CV)) :=
  match y with
  | .c (.p .nil) => some []
  | .c (.p (.sl es' _ elems)) => if es = es' then some (elems.map (·.map .p)) else none
  | .c (.p (.str s)) => if es = 1 then some (s.map fun b => [.p (.int .u8 b.toNat)]) else none
  | .c (.ref l ver off len) => match H l with
    | some (.row ver' es' st elems) => if es = es' ∧ ver = ver' ∧ off + len ≤ elems.length then some ((elems.drop off).take len) else none
    | _ => none
  | _ => none
/-- What an operation comes to: a value; a row laid anew; a new row. -/
inductive Res where
  | v (x : AV)
  | set (x : AV) (l : Nat) (b : Blk)
  | new (x : AV) (b : Blk)
  deriving Inhabited, Repr
def grown (st : Own) (ys : List (List CV)) : Own := if ys.isEmpty then st else .own
def appendA (es bytes : Nat) (x y : AV) (al : Nat) (H : Heap) : Option Res :=
  match content es y H with
  | none => none
  | some ys =>
    match x with
    | .c (.p .nil) => if ys.length * bytes ≤ 140737488355328 then some (.new (.c (.ref al 0 0 ys.length)) (.row 0 es (grown .nil ys) ys)) else none
    | .c (.p (.sl es' true [])) => if es = es' ∧ ys.length * bytes ≤ 140737488355328 then some (.new (.c (.ref al 0 0 ys.length)) (.row 0 es (grown .emp ys) ys)) else none
    | .c (.ref l ver off len) => match H l with
      | some (.row ver' es' st elems) =>
        if es = es' ∧ ver = ver' ∧ off = 0 ∧ len = elems.length then
          (if (elems.length + ys.length) * bytes ≤ 140737488355328 then
            some (.set (.c (.ref l (ver + 1) 0 (len + ys.length))) l (.row (ver + 1) es (grown st ys) (elems ++ ys))) else none)
        else if es = es' ∧ ver = ver' ∧ st = .own ∧ off + len + ys.length ≤ elems.length then
          some (.set (.c (.ref l ver off (len + ys.length))) l (.row ver es st (setSeg elems (off + len) ys)))
        else none
      | _ => none
    | _ => none
def copyA (es : Nat) (x y : AV) (H : Heap) : Option Res :=
  match x, content es y H with
  | .c (.ref l ver off len), some ys => match H l with
    | some (.row ver' es' st elems) =>
      if es = es' ∧ ver = ver' ∧ st = .own ∧ off + len ≤ elems.length then
        some (.set (vI .i64 (min ys.length len : Nat)) l (.row ver es st (setSeg elems off (ys.take len)))) else none
    | _ => none
  | _, _ => none
def clearA (es : Nat) (zero : List CV) (x : AV) (H : Heap) : Option Res :=
  match x with
  | .c (.ref l ver off len) => match H l with
    | some (.row ver' es' st elems) =>
      if es = es' ∧ ver = ver' ∧ st = .own ∧ off + len ≤ elems.length then
        some (.set (.tup []) l (.row ver es st (setSeg elems off (List.replicate len zero)))) else none
    | _ => none
  | _ => none
def storeA (n : Nat) (x v : AV) (H : Heap) : Option Res :=
  match x, cellsA v with
  | .c (.ptr l ver i o), some cs => match H l with
    | some (.row ver' es .own elems) => match elems[i]? with
      | some e => if ver = ver' ∧ cs.length = n ∧ o + n ≤ e.length then some (.set (.tup []) l (.row ver es .own (elems.set i (setSeg e o cs)))) else none
      | none => none
    | _ => none
  | _, _ => none
def fillA (zero : List CV) : List (Nat × Nat × AV) → Option (List CV)
  | [] => some zero
  | (off, n, v) :: r => match cellsA v with
    | some cs => if cs.length = n ∧ off + n ≤ zero.length then fillA (setSeg zero off cs) r else none
    | _ => none
def litA (es : Nat) (elems : List (List CV)) : List (Nat × AV) → Option (List (List CV))
  | [] => some elems
  | (i, v) :: r => match cellsA v with
    | some cs => if cs.length = es ∧ i < elems.length then litA es (elems.set i cs) r else none
    | none => none
def toPss : List (List CV) → Option (List (List PV))
  | [] => some []
  | e :: r => match toPs e, toPss r with
    | some e, some r => some (e :: r)
    | _, _ => none
def minsI (mx : Bool) (k : IntKind) (a : Int) : List AV → Option AV
  | [] => some (vI k a)
  | .c (.p (.int _ b)) :: r => minsI mx k (if mx then (if b > a then b else a) else (if b < a then b else a)) r
  | _ :: _ => none
def minsA (mx : Bool) : List AV → Option AV
  | .c (.p (.int k a)) :: r => minsI mx k a r
  | _ => none
def pickA (c a b : AV) : Option AV :=
  match c with
  | .c (.p (.bool x)) => some (if x then a else b)
  | _ => none
def cvs : List AV → Option (List CV)
  | [] => some []
  | .c v :: r => (cvs r).map (v :: ·)
  | _ :: _ => none
def mkFnA (f : Nat) (first caps : List AV) : Option AV :=
  match cvs first, cvs caps with
  | some [], some cs => match toPs cs with
    | some ps => some (.c (.p (.fn f ps)))
    | none => some (.c (.fn f [] cs))
  | some us, some cs => some (.c (.fn f us cs))
  | _, _ => none
def nilChkA (x : AV) (H : Heap) : Option AV :=
  match x with
  | .c (.p (.ptr cells)) => some x
  | .c (.p (.fn ..)) => some x
  | .c (.fn ..) => some x
  | .c (.ptr l ver i o) => match rowOf H l ver with
    | some _ => some x
    | none => none
  | _ => none
/-- A slice of bytes, or a part of an array of bytes, as text. -/
def bytesOfCells : List (List CV) → Option (List UInt8)
  | [] => some []
  | [.p (.int .u8 n)] :: r => (bytesOfCells r).map (UInt8.ofNat n.toNat :: ·)
  | _ :: _ => none

def boxA (x : AV) (al : Nat) : Option Res :=
  match cellsA x with
  | some (c :: cs) => some (.new (.c (.ptr al 0 0 0)) (.row 0 (cs.length + 1) .own [c :: cs]))
  | _ => none
def bytesA (x : AV) (H : Heap) : Option AV :=
  match x with
  | .c (.p (.str _)) => none
  | x => ((content 1 x H).bind bytesOfCells).map vS
def pure0 (x : Option AV) : Option Res := x.map .v

/-- An operation that is no call: its value, the rows that it lays, how many of them are new. -/
def evalA (o : AO) (al : Nat) (ρ : Arg → AV) (H : Heap) : Option Res :=
  match o with
  | .move x => some (.v (ρ x))
  | .pick c a b => pure0 (pickA (ρ c) (ρ a) (ρ b))
  | .allocB es elems => some (.new (.c (.ptr al 0 0 0)) (.row 0 es .own elems))
  | .box x => boxA (ρ x) al
  | .boxI x => pure0 (((cellsA (ρ x)).bind toPs).map fun ps => .c (.p (.ptr ps)))
  | .nilRow es => some (.new (.c (.ref al 0 0 0)) (.row 0 es .nil []))
  | .build zero parts => pure0 ((fillA zero (parts.map fun (o, n, x) => (o, n, ρ x))).map .agg)
  | .lit es elems parts => pure0 (((litA es elems (parts.map fun (i, x) => (i, ρ x))).bind toPss).map fun ps => .c (.p (.sl es true ps)))
  | .litR es elems parts => (litA es elems (parts.map fun (i, x) => (i, ρ x))).map fun cs => .new (.c (.ref al 0 0 cs.length)) (.row 0 es .own cs)
  | .load agg n x => pure0 (loadA agg n (ρ x) H)
  | .store n x v => storeA n (ρ x) (ρ v) H
  | .nilChk x => pure0 (nilChkA (ρ x) H)
  | .bin op x y => pure0 (binA op (ρ x) (ρ y))
  | .eqB n x y => pure0 (eqBA n (ρ x) (ρ y))
  | .eqN k n x => pure0 ((isNilK k (ρ x)).map fun b => vB (neg n b))
  | .eqS ks n x y => pure0 (eqSA ks n (ρ x) (ρ y))
  | .un op x => pure0 (unA op (ρ x))
  | .convI k x => pure0 (convIA k (ρ x))
  | .convS x => pure0 (convSA (ρ x))
  | .bytesS x => pure0 (bytesA (ρ x) H)
  | .mkFn f first caps => pure0 (mkFnA f (first.map ρ) (caps.map ρ))
  | .slice es x lo hi mx => pure0 (sliceA es (ρ x) (lo.map ρ) (hi.map ρ) (mx.map ρ) H)
  | .sliceS x lo hi => pure0 (sliceSA (ρ x) (lo.map ρ) (hi.map ρ))
  | .fieldA off n x => pure0 (fieldAA off n (ρ x) H)
  | .field off agg n x => pure0 (fieldFA off agg n (ρ x))
  | .idxA es x i => pure0 (idxAA es (ρ x) (ρ i) H)
  | .idxArr len es x i => pure0 (idxArrA len es (ρ x) (ρ i) H)
  | .idxS x i => pure0 (idxSA (ρ x) (ρ i))
  | .extract x i => pure0 (extractA (ρ x) i)
  | .idxV len es agg x i => pure0 (idxVA len es agg (ρ x) (ρ i))
  | .len x => pure0 (lenA (ρ x) H)
  | .lenS x => pure0 (lenSA (ρ x))
  | .append es bytes x y => appendA es bytes (ρ x) (ρ y) al H
  | .copy es x y => copyA es (ρ x) (ρ y) H
  | .clear es zero x => clearA es zero (ρ x) H
  | .minI xs => pure0 (minsA false (xs.map ρ))
  | .maxI xs => pure0 (minsA true (xs.map ρ))
  | .call .. => none
  | .callv .. => none

structure AOp where
  g : Option (Nat × Bool)
  dst : Option Nat
  op : AO
  deriving Inhabited, Repr

/-- A step of thought: what lies behind the pointer, or in the row, of this slot is never written any more. -/
inductive Gh where
  | frz (t : Nat)
  | trim (t : Nat)
  deriving Inhabited, Repr

inductive S where
  | skip
  | ops (l : List AOp) (gs : List Gh)
  | draw (l : List AOp) (bef : List Nat) (gs : List Gh)
  | seq (a b : S)
  | cond (c : Arg) (a b : S)
  | block (id : Nat) (b : S)
  | loop (ts : List Nat) (b : S)
  | exit (id : Nat)
  | ret
  deriving Inhabited, Repr

inductive Ex where
  | normal
  | exit (id : Nat)
  | ret
  deriving DecidableEq, Inhabited, Repr

def putD (e : List (Nat × AV)) (dst : Option Nat) (v : AV) : List (Nat × AV) :=
  match dst with
  | some d => (d, v) :: e
  | none => e

end Go.Ab
end PAb2

section PAb3
/- The framework 'Ab', part 3: how the tie between world and abstract heap is carried over a row that is laid anew. -/
set_option linter.unusedVariables false
namespace Go.Ab

def upd (H : Heap) (l : Nat) (b : Blk) : Heap := fun x => if x = l then some b else H x
def updN (β : Nat → Nat) (l b : Nat) : Nat → Nat := fun x => if x = l then b else β x

theorem Sim.block_lt {w : World} {H : Heap} {β : Nat → Nat} {F : Imm} {nx : Nat} (hs : Sim w H β F nx) {l : Nat} (hl : live H l) : β l < w.heap.size := by
  obtain ⟨ver, es, elems, h⟩ := hl
  obtain ⟨arr, ty, ha, _⟩ := hs.row l ver es elems h
  exact (Array.getElem?_eq_some_iff.1 ha).1

theorem cell_of_heap {w w' : World} {b : Nat} (h : w'.heap[b]? = w.heap[b]?) (o : Nat) : w'.cell? ⟨b, o, none⟩ = w.cell? ⟨b, o, none⟩ := by
  simp only [World.cell?, h]

theorem simPut {w w' : World} {H : Heap} {β : Nat → Nat} {F : Imm} {nx nx' : Nat} (hs : Sim w H β F nx) (l b' ver' es : Nat) (elems' : List (List CV)) (arr' : Array Value) (ty' : TypeId)
    (hos : w'.os = w.os) (htape : w'.tape = w.tape) (hout : w'.output = w.output)
    (hb' : w'.heap[b']? = some (.cells arr' ty' (0, 0)))
    (hfr : ∀ b, b ≠ b' → b < w.heap.size → w'.heap[b]? = w.heap[b]?) (hsz : w.heap.size ≤ w'.heap.size)
    (hb : w.heap.size ≤ b' ∨ (live H l ∧ b' = β l))
    (hes : 0 < es) (hlen : ∀ (i : Nat) (e : List CV), elems'[i]? = some e → e.length = es) (hle : elems'.length * es ≤ arr'.size)
    (hrep : ∀ (i j : Nat) (e : List CV) (c : CV), elems'[i]? = some e → e[j]? = some c → ∃ v, arr'[i * es + j]? = some v ∧ RepC w F β H nx c v)
    (hver : Al H nx l ∨ (l < nx ∧ ∃ ver st elems, H l = some (.row ver es st elems) ∧ (ver < ver' ∨ (ver = ver' ∧ st = .own ∧ elems.length ≤ elems'.length ∧ b' = β l ∧
      ∀ arr ty, w.heap[β l]? = some (.cells arr ty (0, 0)) → arr'.size = arr.size))))
    (hnx : nx ≤ nx') (hl : l < nx') :
    Sim w' (upd H l (.row ver' es .own elems')) (updN β l b') F nx' ∧ Ext w H β F nx w' (upd H l (.row ver' es .own elems')) (updN β l b') F nx' := by
  have hlt : ∀ l0, live H l0 → β l0 < w.heap.size := fun l0 h => hs.block_lt h
  have hFb : ∀ b o, F b o → b ≠ b' := by
    intro b o hF he
    subst he
    rcases hb with hb | ⟨hb, rfl⟩
    · have := hs.fin _ _ hF; omega
    · exact hs.sep l hb o hF
  have hne : ∀ l0, live H l0 → l0 ≠ l → β l0 ≠ b' := by
    intro l0 h0 hn he
    rcases hb with hb | ⟨hb, rfl⟩
    · have := hlt l0 h0; omega
    · exact hn (hs.inj l0 l h0 hb he)
  have hlv : ∀ l0, live (upd H l (.row ver' es .own elems')) l0 → l0 = l ∨ (l0 ≠ l ∧ live H l0) := by
    rintro l0 ⟨v0, e0, el0, h0⟩
    by_cases h : l0 = l
    · exact .inl h
    · exact .inr ⟨h, v0, e0, el0, by simpa [upd, h] using h0⟩
  have hx : Ext w H β F nx w' (upd H l (.row ver' es .own elems')) (updN β l b') F nx' := by
    refine ⟨hos, htape, hout, hsz, hnx, fun _ _ h => h, fun b o hF => cell_of_heap (hfr b (hFb b o hF) (hs.fin b o hF)) o, fun _ _ h => .inl h, ?_, ?_, ?_, ?_⟩
    · intro l0 hl0 hnr v1 e1 s1 el1 h1
      by_cases h : l0 = l
      · subst h
        rcases hver with (⟨_, hn⟩ | ⟨hn, _⟩) | ⟨_, ver, st, elems, hH, hv⟩
        · omega
        · exact absurd hn hnr
        · simp only [upd, if_true, Option.some.injEq, Blk.row.injEq] at h1
          obtain ⟨rfl, rfl, rfl, rfl⟩ := h1
          refine ⟨ver, st, elems, hH, by omega, fun he => ?_⟩
          rcases hv with hv | ⟨_, rfl, hle', rfl, harr⟩
          · omega
          · refine ⟨rfl, hle', fun _ => ⟨by simp [updN], fun arr ty ha => ⟨arr', ty', hb', harr arr ty ha⟩⟩⟩
      · simp only [upd, if_neg h] at h1
        refine ⟨v1, s1, el1, h1, Nat.le_refl _, fun _ => ⟨rfl, Nat.le_refl _, fun hst => ?_⟩⟩
        subst hst
        have hlv0 : live H l0 := ⟨_, _, _, h1⟩
        refine ⟨by simp [updN, h], fun arr ty ha => ⟨arr, ty, ?_, rfl⟩⟩
        rw [hfr _ (hne l0 hlv0 h) (hlt l0 hlv0)]
        exact ha
    · intro l0 h0
      rcases hlv l0 h0 with rfl | ⟨h, h0'⟩
      · rcases hb with hb | ⟨hb, he⟩
        · exact .inr (by simpa [updN] using hb)
        · refine .inl ⟨hb, ?_, by simp [updN, he]⟩
          obtain ⟨v2, e2, el2, h2⟩ := hb
          exact hs.dom _ _ h2
      · refine .inl ⟨h0', ?_, by simp [updN, h]⟩
        obtain ⟨v2, e2, el2, h2⟩ := h0'
        exact hs.dom _ _ h2
    · intro b hbs hbn
      refine hfr b ?_ hbs
      rintro rfl
      rcases hb with hb | ⟨hb, he⟩
      · omega
      · exact hbn l hb he.symm
    · intro l0 _ h0
      simp only [upd]
      split
      · intro q; cases q
      · exact h0
  refine ⟨⟨?_, ?_, ?_, ?_, ?_, ?_⟩, hx⟩
  · intro l0 b0 h0
    by_cases h : l0 = l
    · omega
    · simp only [upd, if_neg h] at h0
      exact Nat.lt_of_lt_of_le (hs.dom _ _ h0) hnx
  · intro l0 v1 e1 s1 el1 h1
    by_cases h : l0 = l
    · simp only [upd, if_pos h, Option.some.injEq, Blk.row.injEq] at h1
      obtain ⟨rfl, rfl, rfl, rfl⟩ := h1
      exact ⟨hes, hlen, fun hc => absurd rfl hc⟩
    · simp only [upd, if_neg h] at h1
      exact hs.pos _ _ _ _ _ h1
  · intro l0 v1 e1 el1 h1
    by_cases h : l0 = l
    · subst h
      simp only [upd, if_true, Option.some.injEq, Blk.row.injEq] at h1
      obtain ⟨rfl, rfl, _, rfl⟩ := h1
      refine ⟨arr', ty', by simpa [updN] using hb', hle, fun i j e c h2 h3 => ?_⟩
      obtain ⟨v, hv, hr⟩ := hrep i j e c h2 h3
      exact ⟨v, hv, hr.ext hx⟩
    · simp only [upd, if_neg h] at h1
      obtain ⟨arr, ty, ha, hsz1, hr⟩ := hs.row _ _ _ _ h1
      refine ⟨arr, ty, ?_, hsz1, fun i j e c h2 h3 => ?_⟩
      · have : updN β l b' l0 = β l0 := by simp [updN, h]
        rw [this, hfr _ (hne l0 ⟨_, _, _, h1⟩ h) (hlt l0 ⟨_, _, _, h1⟩)]
        exact ha
      · obtain ⟨v, hv, hc⟩ := hr i j e c h2 h3
        exact ⟨v, hv, hc.ext hx⟩
  · intro l0 l1 h0 h1 he
    rcases hlv l0 h0 with h0e | ⟨n0, h0'⟩ <;> rcases hlv l1 h1 with h1e | ⟨n1, h1'⟩
    · rw [h0e, h1e]
    · subst h0e
      simp only [updN, if_true, if_neg n1] at he
      exact absurd he.symm (hne l1 h1' n1)
    · subst h1e
      simp only [updN, if_true, if_neg n0] at he
      exact absurd he (hne l0 h0' n0)
    · simp only [updN, if_neg n0, if_neg n1] at he
      exact hs.inj _ _ h0' h1' he
  · intro l0 h0 o hF
    rcases hlv l0 h0 with rfl | ⟨n0, h0'⟩
    · simp only [updN, if_true] at hF
      exact hFb _ _ hF rfl
    · simp only [updN, if_neg n0] at hF
      exact hs.sep _ h0' _ hF
  · intro b o hF
    exact Nat.lt_of_lt_of_le (hs.fin b o hF) hsz

/-- A row without a block: nothing in memory turns. -/
theorem simVoid {w : World} {H : Heap} {β : Nat → Nat} {F : Imm} {nx nx' : Nat} (hs : Sim w H β F nx) (l ver' es : Nat) (st : Own) (hst : st ≠ .own) (hes : 0 < es)
    (hver : Al H nx l ∨ (l < nx ∧ ∃ ver elems, H l = some (.row ver es st elems) ∧ ver < ver')) (hnx : nx ≤ nx') (hl : l < nx') :
    Sim w (upd H l (.row ver' es st [])) β F nx' ∧ Ext w H β F nx w (upd H l (.row ver' es st [])) β F nx' := by
  have hlv : ∀ l0, live (upd H l (.row ver' es st [])) l0 → l0 ≠ l ∧ live H l0 := by
    rintro l0 ⟨v0, e0, el0, h0⟩
    by_cases h : l0 = l
    · subst h
      simp only [upd, if_true, Option.some.injEq, Blk.row.injEq] at h0
      exact absurd h0.2.2.1 hst
    · exact ⟨h, v0, e0, el0, by simpa [upd, h] using h0⟩
  have hx : Ext w H β F nx w (upd H l (.row ver' es st [])) β F nx' := by
    refine ⟨rfl, rfl, rfl, Nat.le_refl _, hnx, fun _ _ h => h, fun _ _ _ => rfl, fun _ _ h => .inl h, ?_, ?_, fun _ _ _ => rfl, fun l0 _ h0 => by simp only [upd]; split <;> first | exact h0 | (intro q; cases q)⟩
    · intro l0 hl0 hnr v1 e1 s1 el1 h1
      by_cases h : l0 = l
      · subst h
        rcases hver with (⟨_, hn⟩ | ⟨hn, _⟩) | ⟨_, ver, elems, hH, hv⟩
        · omega
        · exact absurd hn hnr
        · simp only [upd, if_true, Option.some.injEq, Blk.row.injEq] at h1
          obtain ⟨rfl, rfl, rfl, rfl⟩ := h1
          exact ⟨ver, st, elems, hH, by omega, fun he => by omega⟩
      · simp only [upd, if_neg h] at h1
        exact ⟨v1, s1, el1, h1, Nat.le_refl _, fun _ => ⟨rfl, Nat.le_refl _, fun _ => ⟨rfl, fun arr ty ha => ⟨arr, ty, ha, rfl⟩⟩⟩⟩
    · intro l0 h0
      obtain ⟨h, h0'⟩ := hlv l0 h0
      refine .inl ⟨h0', ?_, rfl⟩
      obtain ⟨v2, e2, el2, h2⟩ := h0'
      exact hs.dom _ _ h2
  refine ⟨⟨?_, ?_, ?_, ?_, ?_, hs.fin⟩, hx⟩
  · intro l0 b0 h0
    by_cases h : l0 = l
    · omega
    · simp only [upd, if_neg h] at h0
      exact Nat.lt_of_lt_of_le (hs.dom _ _ h0) hnx
  · intro l0 v1 e1 s1 el1 h1
    by_cases h : l0 = l
    · simp only [upd, if_pos h, Option.some.injEq, Blk.row.injEq] at h1
      obtain ⟨rfl, rfl, rfl, rfl⟩ := h1
      exact ⟨hes, fun i e he => by simp at he, fun _ => rfl⟩
    · simp only [upd, if_neg h] at h1
      exact hs.pos _ _ _ _ _ h1
  · intro l0 v1 e1 el1 h1
    obtain ⟨h, _⟩ := hlv l0 ⟨_, _, _, h1⟩
    simp only [upd, if_neg h] at h1
    obtain ⟨arr, ty, ha, hsz1, hr⟩ := hs.row _ _ _ _ h1
    refine ⟨arr, ty, ha, hsz1, fun i j e c h2 h3 => ?_⟩
    obtain ⟨v, hv, hc⟩ := hr i j e c h2 h3
    exact ⟨v, hv, hc.ext hx⟩
  · intro l0 l1 h0 h1 he
    exact hs.inj _ _ (hlv l0 h0).2 (hlv l1 h1).2 he
  · intro l0 h0 o hF
    exact hs.sep _ (hlv l0 h0).2 _ hF

/-- Only the heap and the streams count. -/
theorem Sim.drew {w w' : World} {H : Heap} {β : Nat → Nat} {F : Imm} {nx : Nat} (hs : Sim w H β F nx) (hh : w'.heap = w.heap) (hos : w'.os = w.os) (htape : w'.tape = w.tape) (hout : w'.output = w.output) :
    Sim w' H β F nx ∧ Ext w H β F nx w' H β F nx := by
  have hx : Ext w H β F nx w' H β F nx := by
    refine ⟨hos, htape, hout, by rw [hh]; exact Nat.le_refl _, Nat.le_refl _, fun _ _ h => h, fun b o _ => cell_of_heap (by rw [hh]) o, fun _ _ h => .inl h, ?_, ?_, fun _ _ _ => by rw [hh], fun _ _ h => h⟩
    · intro l0 hl0 _ v1 e1 s1 el1 h1
      exact ⟨v1, s1, el1, h1, Nat.le_refl _, fun _ => ⟨rfl, Nat.le_refl _, fun _ => ⟨rfl, fun arr ty ha => ⟨arr, ty, by rw [hh]; exact ha, rfl⟩⟩⟩⟩
    · intro l h
      refine .inl ⟨h, ?_, rfl⟩
      obtain ⟨v2, e2, el2, h2⟩ := h
      exact hs.dom _ _ h2
  refine ⟨⟨hs.dom, hs.pos, ?_, hs.inj, hs.sep, by rw [hh]; exact hs.fin⟩, hx⟩
  intro l ver es elems h
  obtain ⟨arr, ty, ha, hsz, hr⟩ := hs.row l ver es elems h
  refine ⟨arr, ty, by rw [hh]; exact ha, hsz, fun i j e c h2 h3 => ?_⟩
  obtain ⟨v, hv, hc⟩ := hr i j e c h2 h3
  exact ⟨v, hv, hc.ext hx⟩

/-- Rows may be forgotten. -/
theorem Sim.forget {w : World} {H H' : Heap} {β : Nat → Nat} {F : Imm} {nx : Nat} (hs : Sim w H β F nx) (hH : ∀ l b, H' l = some b → H l = some b) :
    Sim w H' β F nx ∧ Ext w H β F nx w H' β F nx := by
  have hlv : ∀ l, live H' l → live H l := fun l ⟨v, e, el, h⟩ => ⟨v, e, el, hH _ _ h⟩
  have hx : Ext w H β F nx w H' β F nx := by
    refine ⟨rfl, rfl, rfl, Nat.le_refl _, Nat.le_refl _, fun _ _ h => h, fun _ _ _ => rfl, fun _ _ h => .inl h, ?_, ?_, fun _ _ _ => rfl, fun l0 _ h0 q => h0 (hH _ _ q)⟩
    · intro l0 hl0 _ v1 e1 s1 el1 h1
      exact ⟨v1, s1, el1, hH _ _ h1, Nat.le_refl _, fun _ => ⟨rfl, Nat.le_refl _, fun _ => ⟨rfl, fun arr ty ha => ⟨arr, ty, ha, rfl⟩⟩⟩⟩
    · intro l h
      refine .inl ⟨hlv l h, ?_, rfl⟩
      obtain ⟨v2, e2, el2, h2⟩ := h
      exact hs.dom _ _ (hH _ _ h2)
  refine ⟨⟨fun l b h => hs.dom _ _ (hH _ _ h), fun l ver es st elems h => hs.pos _ _ _ _ _ (hH _ _ h), ?_, fun l l' h h' => hs.inj _ _ (hlv _ h) (hlv _ h'), fun l h => hs.sep _ (hlv _ h), hs.fin⟩, hx⟩
  intro l ver es elems h
  obtain ⟨arr, ty, ha, hsz, hr⟩ := hs.row l ver es elems (hH _ _ h)
  refine ⟨arr, ty, ha, hsz, fun i j e c h2 h3 => ?_⟩
  obtain ⟨v, hv, hc⟩ := hr i j e c h2 h3
  exact ⟨v, hv, hc.ext hx⟩

end Go.Ab
end PAb3

section PAb4
/- The framework 'Ab', part 4: the model's operations as operations of the abstract machine. -/
set_option linter.unusedVariables false
namespace Go.Ab

def ofCell : Value → Option CV
  | .int k n => some (.p (.int k n))
  | .bool b => some (.p (.bool b))
  | .string s => some (.p (.str s.data.toList))
  | .slice none 0 0 => some (.p .nil)
  | .nilIface => some (.p .nilI)
  | .pointer none => some (.p .nilP)
  | .nilFunc => some (.p .nilF)
  | .map none => some (.p .nilM)
  | _ => none
def ofCells : List Value → Option (List CV)
  | [] => some []
  | v :: r => match ofCell v, ofCells r with
    | some c, some cs => some (c :: cs)
    | _, _ => none
def ofValue : Value → Option AV
  | .agg cs => (ofCells cs.toList).map .agg
  | v => (ofCell v).map .c
def argO : Operand → Option Arg
  | .tmp t => some (.t t)
  | .const v => (ofValue v).map .k
  | .func f => some (.k (.c (.p (.fn f []))))
  | .global _ => none
def argsO : List Operand → Option (List Arg)
  | [] => some []
  | x :: r => match argO x, argsO r with
    | some a, some as => some (a :: as)
    | _, _ => none
def argM : Option Operand → Option (Option Arg)
  | none => some none
  | some x => (argO x).map some
def nargs : List (Nat × Operand) → Option (List (Nat × Arg))
  | [] => some []
  | (i, x) :: r => match argO x, nargs r with
    | some a, some as => some ((i, a) :: as)
    | _, _ => none

def tSize (P : Program) (t : TypeId) : Option Nat := (P.info? t).map (·.size)
def tAgg (P : Program) (t : TypeId) : Option Bool :=
  match P.underlying t with
  | some (.struct _) => some true
  | some (.array _ _) => some true
  | some _ => some false
  | none => none
def tZero (P : Program) (t : TypeId) : Option (List CV) :=
  match P.info? t with
  | some i => match i.zero with
    | some z => ofCells z.cells.toList
    | none => none
  | none => none
/-- A slice type's element: its type, its cells. -/
def tElem (P : Program) (t : TypeId) : Option (TypeId × Nat) :=
  match P.underlying t with
  | some (.slice e) => (tSize P e).map fun n => (e, n)
  | _ => none
/-- Where a struct's fields lie: offsets, sizes. -/
def placesO (P : Program) (fs : Array Field) : Option (List (Nat × Nat)) := fs.toList.mapM (fun f => (P.info? f.type).map fun i => (f.offset, i.size))
def partsO (ps : List (Nat × Nat)) : List (Nat × Operand) → Option (List (Nat × Nat × Arg))
  | [] => some []
  | (i, x) :: r => match ps[i]?, argO x, partsO ps r with
    | some (o, n), some a, some as => some ((o, n, a) :: as)
    | _, _, _ => none
def partsA (es : Nat) : List (Nat × Operand) → Option (List (Nat × Nat × Arg))
  | [] => some []
  | (i, x) :: r => match argO x, partsA es r with
    | some a, some as => some ((i * es, es, a) :: as)
    | _, _ => none
def chunks {α : Type} (es : Nat) : Nat → List α → List (List α)
  | 0, _ => []
  | n + 1, l => l.take es :: chunks es n (l.drop es)
def isNilConst : Operand → Bool
  | .const (.slice none 0 0) => true
  | _ => false
def nilKind : Value → Option NK
  | .slice none 0 0 => some .slice
  | .nilIface => some .iface
  | .pointer none => some .ptr
  | .nilFunc => some .func
  | .map none => some .map
  | _ => none
/-- A struct of texts, numbers and bools: its cells' kinds. -/
def flatFs (P : Program) (r : TypeId → Option (List CK)) : Nat → List Field → Option (List CK)
  | _, [] => some []
  | off, f :: fs => match r f.type, tAgg P f.type with
    | some ks, some _ => if f.offset = off ∧ f.name ≠ "_" ∧ tSize P f.type = some ks.length ∧ ks ≠ [] then (flatFs P r (off + ks.length) fs).map (ks ++ ·) else none
    | _, _ => none
def flatT (P : Program) : Nat → TypeId → Option (List CK)
  | 0, _ => none
  | d + 1, t =>
    match P.underlying t with
    | some (.int _) => some [.int]
    | some .bool => some [.bool]
    | some .string => some [.str]
    | some (.struct fs) => if P.stoodInHeld t then none else flatFs P (flatT P d) 0 fs.toList
    | _ => none
def eqO (P : Program) (n : Bool) (t : TypeId) (x y : Operand) : Option AO := do
  match ← P.underlying t with
  | .int _ => pure (.bin (if n then .neq else .eql) (← argO x) (← argO y))
  | .string => pure (.bin (if n then .neq else .eql) (← argO x) (← argO y))
  | .bool => pure (.eqB n (← argO x) (← argO y))
  | .slice _ => match x, y with
    | x, .const (.slice none 0 0) => pure (.eqN .slice n (← argO x))
    | .const (.slice none 0 0), y => pure (.eqN .slice n (← argO y))
    | _, _ => none
  | .interface _ => match x, y with
    | x, .const .nilIface => pure (.eqN .iface n (← argO x))
    | .const .nilIface, y => pure (.eqN .iface n (← argO y))
    | _, _ => none
  | .pointer _ => match x, y with
    | x, .const (.pointer none) => pure (.eqN .ptr n (← argO x))
    | .const (.pointer none), y => pure (.eqN .ptr n (← argO y))
    | _, _ => none
  | .struct _ => do
    let ks ← flatT P 10 t
    if P.eqGuardType P.depth t = false then pure (.eqS ks n (← argO x) (← argO y)) else none
  | _ => none
def builtinO (P : Program) (b : Builtin) (ts : List TypeId) (xs : List Operand) : Option AO := do
  match b, ts, xs with
  | .len, [t], [x] => match ← P.underlying t with
    | .string => pure (.lenS (← argO x))
    | .slice _ => pure (.len (← argO x))
    | _ => none
  | .append, [t, t2], [x, y] =>
    let (e, n) ← tElem P t
    let i ← P.info? e
    let z ← i.zero
    if n = 0 ∨ i.bytes = 0 ∨ z.cells.size ≠ n then none else
    match ← P.underlying t2 with
    | .slice _ => pure (.append n i.bytes (← argO x) (← argO y))
    | .string => pure (.append n i.bytes (← argO x) (← argO y))
    | _ => none
  | .copy, [t, _], [x, y] =>
    let (_, n) ← tElem P t
    if n = 0 then none else pure (.copy n (← argO x) (← argO y))
  | .clear, [t], [x] =>
    let (e, n) ← tElem P t
    let z ← tZero P e
    if n = 0 ∨ z.length ≠ n then none else pure (.clear n z (← argO x))
  | .min, _, xs => pure (.minI (← argsO xs))
  | .max, _, xs => pure (.maxI (← argsO xs))
  | _, _, _ => none

/-- The slots whose slices are rows, and whose variables are written. -/
structure Marks where
  own : List Nat
  mt : List Nat

def Marks.isOwn (m : Marks) : Option Nat → Bool
  | some d => m.own.contains d
  | none => false
def Marks.isMut (m : Marks) : Option Nat → Bool
  | some d => m.mt.contains d
  | none => false

def compN (P : Program) (m : Marks) (o : Oper) : Option AO := do
  match o.op with
  | .move x => if m.isOwn o.dst && isNilConst x then do let (_, n) ← tElem P o.type; if n = 0 then none else pure (.nilRow n) else pure (.move (← argO x))
  | .assign x => if m.isOwn o.dst && isNilConst x then do let (_, n) ← tElem P o.type; if n = 0 then none else pure (.nilRow n) else pure (.move (← argO x))
  | .pick c a b => pure (.pick (← argO c) (← argO a) (← argO b))
  | .alloc t =>
    let z ← tZero P t
    match ← P.underlying t with
    | .array n e => do
      let es ← tSize P e
      if es = 0 ∨ n = 0 ∨ z.length ≠ n * es then none else pure (.allocB es (chunks es n z))
    | _ => if z.length = 0 then none else pure (.allocB z.length [z])
  | .box _ x => if m.isMut o.dst then pure (.box (← argO x)) else pure (.boxI (← argO x))
  | .build t parts =>
    let z ← tZero P t
    match ← P.underlying t with
    | .struct fs => do pure (.build z (← partsO (← placesO P fs) parts.toList))
    | .array _ e => do pure (.build z (← partsA (← tSize P e) parts.toList))
    | _ => none
  | .buildSlice t len parts =>
    let (e, es) ← tElem P t
    let z ← tZero P e
    if es = 0 ∨ z.length ≠ es ∨ len * es > 2 ^ 24 then none else
    let ps ← nargs parts.toList
    pure ((if m.isOwn o.dst then AO.litR else AO.lit) es (List.replicate len z) ps)
  | .load t a => pure (.load (← tAgg P t) (← tSize P t) (← argO a))
  | .store t a x => pure (.store (← tSize P t) (← argO a) (← argO x))
  | .nilCheck x => pure (.nilChk (← argO x))
  | .binOp .eql t x y _ => eqO P false t x y
  | .binOp .neq t x y _ => eqO P true t x y
  | .binOp op _ x y _ => pure (.bin op (← argO x) (← argO y))
  | .unOp op _ x => pure (.un op (← argO x))
  | .convert src dst x =>
    match ← P.underlying src, ← P.underlying dst with
    | .int _, .int k => pure (.convI k (← argO x))
    | .string, .string => pure (.convS (← argO x))
    | .slice e, .string => match ← P.underlying e with
      | .int .u8 => pure (.bytesS (← argO x))
      | _ => none
    | _, _ => none
  | .makeFunc (.func f) first caps => pure (.mkFn f (← argsO first.toList) (← argsO caps.toList))
  | .slice t x lo hi mx =>
    match ← P.underlying t with
    | .string => match mx with
      | none => pure (.sliceS (← argO x) (← argM lo) (← argM hi))
      | some _ => none
    | .slice _ => do
      let (_, es) ← tElem P t
      if es = 0 then none else pure (.slice es (← argO x) (← argM lo) (← argM hi) (← argM mx))
    | _ => none
  | .fieldAddr s x f =>
    match ← P.underlying s with
    | .struct fs => do
      let fd ← fs[f]?
      let n ← tSize P fd.type
      if n = 0 then none else pure (.fieldA fd.offset n (← argO x))
    | _ => none
  | .field s x f =>
    match ← P.underlying s with
    | .struct fs => do
      let fd ← fs[f]?
      pure (.field fd.offset (← tAgg P fd.type) (← tSize P fd.type) (← argO x))
    | _ => none
  | .indexAddr t x i =>
    match ← P.underlying t with
    | .slice e => do
      let es ← tSize P e
      if es = 0 then none else pure (.idxA es (← argO x) (← argO i))
    | .array n e => do
      let es ← tSize P e
      if es = 0 ∨ n ≤ 1 then none else pure (.idxArr n es (← argO x) (← argO i))
    | _ => none
  | .index t x i =>
    match ← P.underlying t with
    | .string => pure (.idxS (← argO x) (← argO i))
    | .array n e => do pure (.idxV n (← tSize P e) (← tAgg P e) (← argO x) (← argO i))
    | _ => none
  | .extract x i => pure (.extract (← argO x) i)
  | .call { callee := .builtin b, args, argTypes } => builtinO P b argTypes.toList args.toList
  | _ => none
def AO.isCall : AO → Bool
  | .call .. => true
  | .callv .. => true
  | _ => false
def compC (P : Program) (f : Operand) (args : List Operand) : Option AO :=
  match f with
  | .func f => match P.funcs[f]? with
    | some fn => if fn.body.isSome ∧ fn.name ≠ "runtime.NumGoroutine" then (argsO args).map (.call f) else none
    | none => none
  | f => match argO f, argsO args with
    | some a, some as => some (.callv a as)
    | _, _ => none
def compO (P : Program) (m : Marks) (o : Oper) : Option AO :=
  match o.op with
  | .call { callee := .value f, args, .. } => compC P f args.toList
  | _ => match compN P m o with
    | some a => if a.isCall then none else some a
    | none => none

/-- The slot of the operation that a guard asks. -/
def compG (ops : Array Oper) : Option (Nat × Bool) → Option (Option (Nat × Bool))
  | none => some none
  | some (j, b) => match (ops[j]?).bind (·.dst) with
    | some d => some (some (d, b))
    | none => none
def compOp (P : Program) (m : Marks) (n : Nat) (ops : Array Oper) (o : Oper) : Option AOp := do
  let g ← compG ops o.guard
  let a ← compO P m o
  if o.dst.all (· < n) then pure ⟨g, o.dst, a⟩ else none
def compOps (P : Program) (m : Marks) (n : Nat) (ops : Array Oper) : List Oper → Option (List AOp)
  | [] => some []
  | o :: r => match compOp P m n ops o, compOps P m n ops r with
    | some a, some as => some (a :: as)
    | _, _ => none

end Go.Ab
end PAb4

section PAb5
/- The framework 'Ab', part 5: contracts, the weakest precondition of the abstract machine, the translation of code. -/
set_option linter.unusedVariables false
namespace Go.Ab

/-- A function with a body. -/
def Ent (P : Program) (f : Nat) : Prop := ∃ fn, P.funcs[f]? = some fn ∧ fn.body.isSome = true ∧ fn.name ≠ "runtime.NumGoroutine"

/-- The call of f in a world that bears these values and this heap returns; K says what, and what the heap is then. -/
def ACalls (P : Program) (f : Nat) (args : List AV) (H : List (Nat × Blk)) (nx : Nat) (K : AV → List (Nat × Blk) → Nat → Prop) : Prop :=
  Ent P f ∧ ∀ (w : World) (β : Nat → Nat) (F : Imm) (vals : Array Value), Sim w (hget H) β F nx → vals.size = args.length →
    (∀ (j : Nat) (a : AV) (v : Value), args[j]? = some a → vals[j]? = some v → RepA w F β (hget H) nx a v) →
    Calls P f vals w fun e w' => ∃ r H' nx' v β' F', e = .returned v ∧ K r H' nx' ∧ Sim w' (hget H') β' F' nx' ∧ RepA w' F' β' (hget H') nx' r v ∧
      Ext w (hget H) β F nx w' (hget H') β' F' nx'

theorem ACalls.mono {P : Program} {f : Nat} {args : List AV} {H : List (Nat × Blk)} {nx : Nat} {K K' : AV → List (Nat × Blk) → Nat → Prop}
    (h : ACalls P f args H nx K) (hk : ∀ r H' nx', K r H' nx' → K' r H' nx') : ACalls P f args H nx K' := by
  refine ⟨h.1, fun w β F vals hs hl hv => ?_⟩
  refine (h.2 w β F vals hs hl hv).mono ?_
  rintro e w' ⟨r, H', nx', v, β', F', he, hK, rest⟩
  exact ⟨r, H', nx', v, β', F', he, hk _ _ _ hK, rest⟩

def frzPV (st : Own) (es : Nat) (elems : List (List PV)) : PV :=
  match st with
  | .nil => .nil
  | .emp => .sl es true []
  | .own => .sl es false elems
def hdel (H : List (Nat × Blk)) (l : Nat) : List (Nat × Blk) := H.filter fun x => decide (x.1 ≠ l)
def doGh (g : Gh) (s : St) : Option St :=
  match g with
  | .frz t => match lkp s.env t with
    | .c (.ptr l ver i o) => match hget s.H l with
      | some (.row ver' es .own elems) => if ver = ver' then match elems[i]? with
        | some e => (toPs (e.drop o)).map fun ps => ⟨(t, .c (.p (.ptr ps))) :: s.env, hdel s.H l, s.nx⟩
        | none => none
        else none
      | _ => none
    | .c (.ref l ver off len) => match hget s.H l with
      | some (.row ver' es st elems) => if ver = ver' ∧ off = 0 ∧ len ≤ elems.length then
        (toPss (elems.take len)).map fun ps => ⟨(t, .c (.p (frzPV st es ps))) :: s.env, hdel s.H l, s.nx⟩
        else none
      | _ => none
    | _ => none
  | .trim t => match lkp s.env t with
    | .c (.ref l ver off len) => match hget s.H l with
      | some (.row ver' es st elems) => if ver = ver' ∧ off = 0 ∧ len ≤ elems.length then
        some ⟨(t, .c (.ref l (ver + 1) 0 len)) :: s.env, hset s.H l (.row (ver + 1) es st (elems.take len)), s.nx⟩
        else none
      | _ => none
    | _ => none
def ghK (gs : List Gh) (K : St → Prop) (s : St) : Prop :=
  match gs with
  | [] => K s
  | g :: r => match doGh g s with
    | some s' => ghK r K s'
    | none => False

structure CALL (P : Program) (f : Nat) (args : List AV) (dst : Option Nat) (s : St) (K : St → Prop) : Prop where of ::
  h : ACalls P f args s.H s.nx fun v H' nx' => K ⟨putD s.env dst v, H', nx'⟩
def CALLV (P : Program) (fv : AV) (args : List AV) (dst : Option Nat) (s : St) (K : St → Prop) : Prop :=
  match fv with
  | .c (.p (.fn f caps)) => CALL P f (args ++ caps.map fun c => .c (.p c)) dst s K
  | .c (.fn f first caps) => CALL P f (first.map .c ++ args ++ caps.map .c) dst s K
  | _ => False
def DO (r : Option Res) (dst : Option Nat) (s : St) (K : St → Prop) : Prop :=
  match r with
  | some (.v x) => K ⟨putD s.env dst x, s.H, s.nx⟩
  | some (.set x l b) => K ⟨putD s.env dst x, hset s.H l b, s.nx⟩
  | some (.new x b) => K ⟨putD s.env dst x, (s.nx, b) :: s.H, s.nx + 1⟩
  | none => False
def STEP (P : Program) (dst : Option Nat) (o : AO) (s : St) (K : St → Prop) : Prop :=
  match o with
  | .call f args => CALL P f (args.map (Arg.val s.env)) dst s K
  | .callv x args => CALLV P (x.val s.env) (args.map (Arg.val s.env)) dst s K
  | o => DO (evalA o s.nx (Arg.val s.env) (hget s.H)) dst s K
/-- A guarded operation: the value that is asked, what it is to be. -/
def GRD (P : Program) (b : AV) (want : Bool) (dst : Option Nat) (o : AO) (s : St) (K : St → Prop) : Prop :=
  match b with
  | .c (.p (.bool b)) => if b = want then STEP P dst o s K else K ⟨putD s.env dst (.tup []), s.H, s.nx⟩
  | .tup [] => K ⟨putD s.env dst (.tup []), s.H, s.nx⟩
  | _ => False
def EV (P : Program) : List AOp → (St → Prop) → St → Prop
  | [], K, s => K s
  | o :: r, K, s => match o.g with
    | none => STEP P o.dst o.op s (EV P r K)
    | some (d, want) => GRD P (lkp s.env d) want o.dst o.op s (EV P r K)

/-- The rows that an operation asks, and those that it writes. -/
def locsA : AV → List Nat
  | .c (.ptr l ..) => [l]
  | .c (.ref l ..) => [l]
  | _ => []
def fpA (o : AO) (al : Nat) (ρ : Arg → AV) : List Nat × List Nat :=
  match o with
  | .load _ _ x => (locsA (ρ x), [])
  | .store _ x _ => ([], locsA (ρ x))
  | .nilChk x => (locsA (ρ x), [])
  | .bytesS x => (locsA (ρ x), [])
  | .slice _ x _ _ _ => (locsA (ρ x), [])
  | .fieldA _ _ x => (locsA (ρ x), [])
  | .idxA _ x _ => (locsA (ρ x), [])
  | .idxArr _ _ x _ => (locsA (ρ x), [])
  | .len x => (locsA (ρ x), [])
  | .append _ _ x y => (locsA (ρ y), al :: locsA (ρ x))
  | .copy _ x y => (locsA (ρ y), locsA (ρ x))
  | .clear _ _ x => ([], locsA (ρ x))
  | .allocB .. => ([], [al])
  | .box .. => ([], [al])
  | .nilRow .. => ([], [al])
  | .litR .. => ([], [al])
  | _ => ([], [])
def disj (a b : List Nat) : Bool := a.all fun x => b.all fun y => decide (x ≠ y)
/-- What was touched till now: the operation's place, its rows. -/
abbrev Seen := List (Nat × List Nat × List Nat)
def clear (bef : Nat) (R W : List Nat) (s : Seen) : Bool := s.all fun (i, R', W') => bef.testBit i || (disj W' (R ++ W) && disj R' W)
def addS (i : Nat) (R W : List Nat) (s : Seen) : Seen := if R.isEmpty && W.isEmpty then s else (i, R, W) :: s

/-- What a call does to the rows: nothing, or one row is laid anew. -/
def effH (e : Option (Nat × Blk)) (H : Heap) : Heap :=
  match e with
  | none => H
  | some (l, b) => upd H l b
def effL (al : Nat) (e : Option (Nat × Blk)) (H : List (Nat × Blk)) : List (Nat × Blk) :=
  match e with
  | none => H
  | some (l, b) => if l = al then (l, b) :: H else hset H l b
def effW (e : Option (Nat × Blk)) : List Nat :=
  match e with
  | none => []
  | some (l, _) => [l]
def Blk.isRow : Blk → Bool
  | .row .. => true
  | .rsv => false

/-- A call that asks these rows alone, and lays at most one of them anew, or a new one at the free place al. -/
def LCalls (P : Program) (f : Nat) (args : List AV) (R : List (Nat × Blk)) (r : AV) (e : Option (Nat × Blk)) (al : Nat) : Prop :=
  Ent P f ∧ R.all (fun x => x.2.isRow) = true ∧ (∀ l b, e = some (l, b) → (l ∈ R.map (·.1) ∨ l = al) ∧ b.isRow = true) ∧
  ∀ (w : World) (β : Nat → Nat) (F : Imm) (vals : Array Value) (H : Heap) (nx : Nat), (∀ x, x ∈ R → H x.1 = some x.2) → (H al = some .rsv ∧ al < nx) → Sim w H β F nx → vals.size = args.length →
    (∀ (j : Nat) (a : AV) (v : Value), args[j]? = some a → vals[j]? = some v → RepA w F β H nx a v) →
    Calls P f vals w fun d w' => ∃ v β' F', d = .returned v ∧ Sim w' (effH e H) β' F' nx ∧ RepA w' F' β' (effH e H) nx r v ∧ Ext w H β F nx w' (effH e H) β' F' nx

structure CALLD (P : Program) (bef : List Nat) (n0 i : Nat) (seen : Seen) (f : Nat) (args : List AV) (dst : Option Nat) (s : St) (K : Seen → St → Prop) : Prop where of ::
  h : ∃ R r e, LCalls P f args R r e (n0 + i) ∧ (∀ x, x ∈ R → hget s.H x.1 = some x.2) ∧ clear (bef.getD i 0) (R.map (·.1)) (effW e) seen = true ∧
    K (addS i (R.map (·.1)) (effW e) seen) ⟨putD s.env dst r, effL (n0 + i) e s.H, s.nx⟩

def CALLVD (P : Program) (bef : List Nat) (n0 i : Nat) (seen : Seen) (fv : AV) (args : List AV) (dst : Option Nat) (s : St) (K : Seen → St → Prop) : Prop :=
  match fv with
  | .c (.p (.fn f caps)) => CALLD P bef n0 i seen f (args ++ caps.map fun c => .c (.p c)) dst s K
  | .c (.fn f first caps) => CALLD P bef n0 i seen f (first.map .c ++ args ++ caps.map .c) dst s K
  | _ => False
def DOD (r : Option Res) (al : Nat) (fp : List Nat × List Nat) (bef : List Nat) (i : Nat) (seen : Seen) (dst : Option Nat) (s : St) (K : Seen → St → Prop) : Prop :=
  match r with
  | some (.v x) => clear (bef.getD i 0) fp.1 fp.2 seen = true ∧ K (addS i fp.1 fp.2 seen) ⟨putD s.env dst x, s.H, s.nx⟩
  | some (.set x l b) => clear (bef.getD i 0) fp.1 fp.2 seen = true ∧ K (addS i fp.1 fp.2 seen) ⟨putD s.env dst x, hset s.H l b, s.nx⟩
  | some (.new x b) => clear (bef.getD i 0) fp.1 fp.2 seen = true ∧ K (addS i fp.1 fp.2 seen) ⟨putD s.env dst x, (al, b) :: s.H, s.nx⟩
  | none => False
def STEPD (P : Program) (bef : List Nat) (n0 i : Nat) (seen : Seen) (dst : Option Nat) (o : AO) (s : St) (K : Seen → St → Prop) : Prop :=
  match o with
  | .call f args => CALLD P bef n0 i seen f (args.map (Arg.val s.env)) dst s K
  | .callv x args => CALLVD P bef n0 i seen (x.val s.env) (args.map (Arg.val s.env)) dst s K
  | o => DOD (evalA o (n0 + i) (Arg.val s.env) (hget s.H)) (n0 + i) (fpA o (n0 + i) (Arg.val s.env)) bef i seen dst s K
def GRDD (P : Program) (bef : List Nat) (n0 i : Nat) (seen : Seen) (b : AV) (want : Bool) (dst : Option Nat) (o : AO) (s : St) (K : Seen → St → Prop) : Prop :=
  match b with
  | .c (.p (.bool b)) => if b = want then STEPD P bef n0 i seen dst o s K else K seen ⟨putD s.env dst (.tup []), s.H, s.nx⟩
  | .tup [] => K seen ⟨putD s.env dst (.tup []), s.H, s.nx⟩
  | _ => False
/-- A region whose order is open: in the order of the text, each call with one answer; what is touched must not cross. i: the place; n0: the first free row's number. -/
def EVD (P : Program) (bef : List Nat) (n0 : Nat) : List AOp → Nat → (St → Prop) → Seen → St → Prop
  | [], _, K, _, s => K s
  | o :: r, i, K, seen, s => match o.g with
    | none => STEPD P bef n0 i seen o.dst o.op s (EVD P bef n0 r (i + 1) K)
    | some (d, want) => GRDD P bef n0 i seen (lkp s.env d) want o.dst o.op s (EVD P bef n0 r (i + 1) K)

/-- What a loop keeps: these slots, the rows that were there. -/
def idsC (nx : Nat) : CV → Bool
  | .p _ => true
  | .ptr l .. => decide (l < nx)
  | .ref l .. => decide (l < nx)
  | .fn .. => false
def idsA (nx : Nat) : AV → Bool
  | .c c => idsC nx c
  | .agg cs => cs.all (idsC nx)
  | .tup [] => true
  | .tup _ => false
  | .u => true
def idsB (nx : Nat) : Blk → Bool
  | .row _ _ _ elems => elems.all fun e => e.all (idsC nx)
  | .rsv => false
def keepE (ts : List Nat) (e : List (Nat × AV)) : List (Nat × AV) := ts.map fun t => (t, lkp e t)
def keepH (nx : Nat) (H : List (Nat × Blk)) : List (Nat × Blk) := H.filter fun x => decide (x.1 < nx)
def KEEP (ts : List Nat) (nx : Nat) (s : St) (J : St → Prop) : Prop :=
  (keepE ts s.env).all (fun x => idsA nx x.2) = true ∧ (keepH nx s.H).all (fun x => idsB nx x.2) = true ∧ nx ≤ s.nx ∧ J ⟨keepE ts s.env, keepH nx s.H, nx⟩

/-! The parts of the precondition, each closed to the evaluation till its turn. -/
abbrev Tr := (Ex → St → Prop) → St → Prop
def seqK (f : Tr) (Q : Ex → St → Prop) : Ex → St → Prop := fun e s =>
  match e with
  | .normal => f Q s
  | e => Q e s
def blkK (id : Nat) (Q : Ex → St → Prop) : Ex → St → Prop := fun e s =>
  match e with
  | .exit i => if i = id then Q .normal s else Q (.exit i) s
  | e => Q e s
def condW (c : AV) (f g : Tr) (Q : Ex → St → Prop) (s : St) : Prop :=
  match c with
  | .c (.p (.bool c)) => if c then f Q s else g Q s
  | _ => False
def loopK (ts : List Nat) (nx : Nat) (J : St → Prop) (Q : Ex → St → Prop) : Ex → St → Prop := fun e s =>
  match e with
  | .normal => KEEP ts nx s J
  | e => Q e s
def loopW (f : Tr) (ts : List Nat) (Q : Ex → St → Prop) (s : St) : Prop :=
  ∃ (I : Nat → St → Prop), (∃ n, KEEP ts s.nx s (I n)) ∧ ∀ n s', s'.nx = s.nx → I n s' → f (loopK ts s.nx (fun s3 => ∃ n', n' < n ∧ I n' s3) Q) s'

def W (P : Program) : S → (Ex → St → Prop) → St → Prop
  | .skip, Q, s => Q .normal s
  | .ops l gs, Q, s => EV P l (ghK gs (Q .normal)) s
  | .draw l bef gs, Q, s => EVD P bef s.nx l 0 (ghK gs (Q .normal)) [] ⟨s.env, s.H, s.nx + l.length⟩
  | .seq a b, Q, s => W P a (seqK (W P b) Q) s
  | .cond c a b, Q, s => condW (c.val s.env) (W P a) (W P b) Q s
  | .block id b, Q, s => W P b (blkK id Q) s
  | .loop ts b, Q, s => loopW (W P b) ts Q s
  | .exit id, Q, s => Q (.exit id) s
  | .ret, Q, s => Q .ret s

section
variable (P : Program) (Q : Ex → St → Prop) (s : St) (K : St → Prop)
theorem W_skip : W P .skip Q s = Q .normal s := rfl
theorem W_ops (l : List AOp) (gs : List Gh) : W P (.ops l gs) Q s = EV P l (ghK gs (Q .normal)) s := rfl
theorem W_draw (l : List AOp) (bef : List Nat) (gs : List Gh) : W P (.draw l bef gs) Q s = EVD P bef s.nx l 0 (ghK gs (Q .normal)) [] ⟨s.env, s.H, s.nx + l.length⟩ := rfl
theorem W_seq (a b : S) : W P (.seq a b) Q s = W P a (seqK (W P b) Q) s := rfl
theorem W_cond (c : Arg) (a b : S) : W P (.cond c a b) Q s = condW (c.val s.env) (W P a) (W P b) Q s := rfl
theorem W_block (id : Nat) (b : S) : W P (.block id b) Q s = W P b (blkK id Q) s := rfl
theorem W_loop (ts : List Nat) (b : S) : W P (.loop ts b) Q s = loopW (W P b) ts Q s := rfl
theorem W_exit (id : Nat) : W P (.exit id) Q s = Q (.exit id) s := rfl
theorem W_ret : W P .ret Q s = Q .ret s := rfl
theorem EV_nil : EV P [] K s = K s := rfl
theorem EV_op (dst : Option Nat) (o : AO) (r : List AOp) : EV P (⟨none, dst, o⟩ :: r) K s = STEP P dst o s (EV P r K) := rfl
theorem EV_g (d : Nat) (want : Bool) (dst : Option Nat) (o : AO) (r : List AOp) : EV P (⟨some (d, want), dst, o⟩ :: r) K s = GRD P (lkp s.env d) want dst o s (EV P r K) := rfl
theorem GRD_y (dst : Option Nat) (o : AO) : GRD P (.c (.p (.bool true))) true dst o s K = STEP P dst o s K := rfl
theorem GRD_y' (dst : Option Nat) (o : AO) : GRD P (.c (.p (.bool false))) false dst o s K = STEP P dst o s K := rfl
theorem GRD_n (dst : Option Nat) (o : AO) : GRD P (.c (.p (.bool true))) false dst o s K = K ⟨putD s.env dst (.tup []), s.H, s.nx⟩ := rfl
theorem GRD_n' (dst : Option Nat) (o : AO) : GRD P (.c (.p (.bool false))) true dst o s K = K ⟨putD s.env dst (.tup []), s.H, s.nx⟩ := rfl
theorem GRD_u (want : Bool) (dst : Option Nat) (o : AO) : GRD P (.tup []) want dst o s K = K ⟨putD s.env dst (.tup []), s.H, s.nx⟩ := rfl
theorem DO_v (x : AV) (dst : Option Nat) : DO (some (.v x)) dst s K = K ⟨putD s.env dst x, s.H, s.nx⟩ := rfl
theorem DO_set (x : AV) (l : Nat) (b : Blk) (dst : Option Nat) : DO (some (.set x l b)) dst s K = K ⟨putD s.env dst x, hset s.H l b, s.nx⟩ := rfl
theorem DO_new (x : AV) (b : Blk) (dst : Option Nat) : DO (some (.new x b)) dst s K = K ⟨putD s.env dst x, (s.nx, b) :: s.H, s.nx + 1⟩ := rfl
theorem ghK_nil : ghK [] K s = K s := rfl
theorem pure0_some (x : AV) : pure0 (some x) = some (.v x) := rfl
end
theorem seqK_n (f : Tr) (Q : Ex → St → Prop) (s : St) : seqK f Q .normal s = f Q s := rfl
theorem seqK_e (f : Tr) (Q : Ex → St → Prop) (i : Nat) (s : St) : seqK f Q (.exit i) s = Q (.exit i) s := rfl
theorem seqK_r (f : Tr) (Q : Ex → St → Prop) (s : St) : seqK f Q .ret s = Q .ret s := rfl
theorem blkK_n (id : Nat) (Q : Ex → St → Prop) (s : St) : blkK id Q .normal s = Q .normal s := rfl
theorem blkK_e (id i : Nat) (Q : Ex → St → Prop) (s : St) : blkK id Q (.exit i) s = if i = id then Q .normal s else Q (.exit i) s := rfl
theorem blkK_r (id : Nat) (Q : Ex → St → Prop) (s : St) : blkK id Q .ret s = Q .ret s := rfl
theorem loopK_n (ts : List Nat) (nx : Nat) (J : St → Prop) (Q : Ex → St → Prop) (s : St) : loopK ts nx J Q .normal s = KEEP ts nx s J := rfl
theorem loopK_e (ts : List Nat) (nx : Nat) (J : St → Prop) (Q : Ex → St → Prop) (i : Nat) (s : St) : loopK ts nx J Q (.exit i) s = Q (.exit i) s := rfl
theorem loopK_r (ts : List Nat) (nx : Nat) (J : St → Prop) (Q : Ex → St → Prop) (s : St) : loopK ts nx J Q .ret s = Q .ret s := rfl
theorem condW_t (f g : Tr) (Q : Ex → St → Prop) (s : St) : condW (.c (.p (.bool true))) f g Q s = f Q s := rfl
theorem condW_f (f g : Tr) (Q : Ex → St → Prop) (s : St) : condW (.c (.p (.bool false))) f g Q s = g Q s := rfl
theorem condW_split {b : Bool} {f g : Tr} {Q : Ex → St → Prop} {s : St} (h1 : b = true → f Q s) (h2 : b = false → g Q s) : condW (.c (.p (.bool b))) f g Q s := by
  cases b
  · exact h2 rfl
  · exact h1 rfl

/-! The translation. -/
structure Ann where
  own : List Nat := []
  mt : List Nat := []
  lp : List (Nat × List Nat) := []
  gh : List (Nat × List Gh) := []

def annGet {α : Type} (l : List (Nat × List α)) (i : Nat) : List α :=
  match l with
  | [] => []
  | (k, v) :: r => if k = i then v else annGet r i

/-- Which operations stand ahead of which, as bits. -/
def befGo : List Oper → List Nat → List Nat
  | [], acc => acc
  | o :: r, acc => befGo r (acc ++ [o.after.toList.foldl (fun s e => if Region.binds .any e then s ||| 2 ^ e.on ||| acc.getD e.on 0 else s) 0])
def befs (ops : Array Oper) : List Nat := befGo ops.toList []
/-- Every edge that binds leads back. -/
def backOk : List Oper → Nat → Bool
  | [], _ => true
  | o :: r, i => (o.after.toList.all fun e => !Region.binds .any e || decide (e.on < i)) && backOk r (i + 1)
def AO.args : AO → List Arg
  | .move x => [x]
  | .pick c a b => [c, a, b]
  | .box x => [x]
  | .boxI x => [x]
  | .build _ ps => ps.map (·.2.2)
  | .lit _ _ ps => ps.map (·.2)
  | .litR _ _ ps => ps.map (·.2)
  | .load _ _ x => [x]
  | .store _ x v => [x, v]
  | .nilChk x => [x]
  | .bin _ x y => [x, y]
  | .eqB _ x y => [x, y]
  | .eqN _ _ x => [x]
  | .eqS _ _ x y => [x, y]
  | .un _ x => [x]
  | .convI _ x => [x]
  | .convS x => [x]
  | .bytesS x => [x]
  | .mkFn _ a b => a ++ b
  | .slice _ x a b c => x :: (a.toList ++ b.toList ++ c.toList)
  | .sliceS x a b => x :: (a.toList ++ b.toList)
  | .fieldA _ _ x => [x]
  | .field _ _ _ x => [x]
  | .idxA _ x i => [x, i]
  | .idxArr _ _ x i => [x, i]
  | .idxS x i => [x, i]
  | .idxV _ _ _ x i => [x, i]
  | .extract x _ => [x]
  | .len x => [x]
  | .lenS x => [x]
  | .append _ _ x y => [x, y]
  | .copy _ x y => [x, y]
  | .clear _ _ x => [x]
  | .minI xs => xs
  | .maxI xs => xs
  | .call _ as => as
  | .callv x as => x :: as
  | .allocB .. => []
  | .nilRow .. => []
def Arg.slot : Arg → List Nat
  | .t n => [n]
  | .k _ => []
def AOp.uses (o : AOp) : List Nat :=
  (match o.g with
  | some (d, _) => [d]
  | none => []) ++ o.op.args.flatMap Arg.slot
/-- Two operations of which none touches the slot of the other. -/
def AOp.apart (x y : AOp) : Bool :=
  (match x.dst with
   | some d => !y.uses.contains d && y.dst != some d
   | none => true) &&
  (match y.dst with
   | some d => !x.uses.contains d
   | none => true)
def apartAll (bef : Nat) (y : AOp) : List AOp → Nat → Bool
  | [], _ => true
  | x :: r, i => (bef.testBit i || x.apart y) && apartAll bef y r (i + 1)
/-- Operations that touch one slot stand in order. l: all; r: the rest, from place j. -/
def slotsOk (l : List AOp) (bef : List Nat) : List AOp → Nat → Bool
  | [], _ => true
  | y :: r, j => apartAll (bef.getD j 0) y (l.take j) 0 && slotsOk l bef r (j + 1)

def comp (P : Program) (a : Ann) (n : Nat) : Code → Option S
  | .skip => some .skip
  | .region id ops draw => do
    let l ← compOps P ⟨a.own, a.mt⟩ n ops ops.toList
    if draw then (if slotsOk l (befs ops) l 0 && backOk ops.toList 0 then pure (.draw l (befs ops) (annGet a.gh id)) else none)
    else pure (.ops l (annGet a.gh id))
  | .seq x y => do pure (.seq (← comp P a n x) (← comp P a n y))
  | .cond c x y => do pure (.cond (← argO c) (← comp P a n x) (← comp P a n y))
  | .block id (.loop b) => do pure (.block id (.loop (annGet a.lp id) (← comp P a n b)))
  | .block id b => do pure (.block id (← comp P a n b))
  | .exit id => some (.exit id)
  | .ret => some .ret
  | _ => none

end Go.Ab
end PAb5

section PAb6
/- The framework 'Ab', part 6: each operation of the model does what the abstract machine says: values, loads, addresses. -/
set_option linter.unusedVariables false
set_option linter.unusedSimpArgs false
namespace Go.Ab

def Res.heap (H : Heap) (al : Nat) : Res → Heap
  | .v _ => H
  | .set _ l b => upd H l b
  | .new _ b => upd H al b
def Res.val : Res → AV
  | .v x => x
  | .set x _ _ => x
  | .new x _ => x
def Res.isNew : Res → Bool
  | .new _ _ => true
  | _ => false

def OpOk (P : Program) (w : World) (H : Heap) (β : Nat → Nat) (F : Imm) (nx : Nat) (s : Sem Next) (al : Nat) (r : Res) : Prop :=
  ∃ nv v w' β' F', s.run P w = .ok nv w' ∧ (nv = .value v ∨ (nv = .skip ∧ v = undef)) ∧
    ∀ nx', nx ≤ nx' → (r.isNew = true → al < nx') → Sim w' (r.heap H al) β' F' nx' ∧ Ext w H β F nx w' (r.heap H al) β' F' nx' ∧ RepA w' F' β' (r.heap H al) nx' r.val v

theorem Ext.raise {w : World} {H : Heap} {β : Nat → Nat} {F : Imm} {nx nx' : Nat} (hd : ∀ l b, H l = some b → l < nx) (hn : nx ≤ nx') : Ext w H β F nx w H β F nx' where
  os := rfl
  tape := rfl
  output := rfl
  size := Nat.le_refl _
  nxle := hn
  mono := fun _ _ h => h
  cell := fun _ _ _ => rfl
  new := fun _ _ h => .inl h
  rsv := fun _ _ h => h
  keep := fun l _ _ ver es st elems h => ⟨ver, st, elems, h, Nat.le_refl _, fun _ => ⟨rfl, Nat.le_refl _, fun _ => ⟨rfl, fun arr ty ha => ⟨arr, ty, ha, rfl⟩⟩⟩⟩
  orig := fun l h => .inl ⟨h, by obtain ⟨ver, es, elems, h⟩ := h; exact hd _ _ h, rfl⟩
  frame := fun _ _ _ => rfl

theorem Sim.raise {w : World} {H : Heap} {β : Nat → Nat} {F : Imm} {nx nx' : Nat} (hs : Sim w H β F nx) (hn : nx ≤ nx') : Sim w H β F nx' := by
  refine ⟨fun l b h => Nat.lt_of_lt_of_le (hs.dom l b h) hn, hs.pos, ?_, hs.inj, hs.sep, hs.fin⟩
  intro l ver es elems h
  obtain ⟨arr, ty, ha, hsz, hr⟩ := hs.row l ver es elems h
  refine ⟨arr, ty, ha, hsz, fun i j e c h2 h3 => ?_⟩
  obtain ⟨v, hv, hc⟩ := hr i j e c h2 h3
  exact ⟨v, hv, hc.ext (Ext.raise hs.dom hn)⟩

theorem OpOk.val {P : Program} {w : World} {H : Heap} {β : Nat → Nat} {F : Imm} {nx : Nat} {s : Sem Next} {al : Nat} {x : AV} {v : Value} (hs : Sim w H β F nx)
    (hr : s.run P w = .ok (.value v) w) (hx : RepA w F β H nx x v) : OpOk P w H β F nx s al (.v x) :=
  ⟨_, v, w, β, F, hr, .inl rfl, fun nx' hn _ => ⟨hs.raise hn, Ext.raise hs.dom hn, hx.ext (Ext.raise hs.dom hn)⟩⟩

theorem pure0_inv {x : Option AV} {r : Res} (h : pure0 x = some r) : ∃ y, x = some y ∧ r = .v y := by
  unfold pure0 at h
  obtain ⟨y, hy, rfl⟩ := Option.map_eq_some_iff.1 h
  exact ⟨y, hy, rfl⟩

/-! Constants. -/
section
variable {w : World} {F : Imm} {β : Nat → Nat} {H : Heap} {nx : Nat}
theorem ofCell_rep {v : Value} {c : CV} (h : ofCell v = some c) : RepC w F β H nx c v := by
  unfold ofCell at h
  split at h <;> first
    | (injection h with h; subst h; exact .p _ _ (by constructor))
    | cases h
theorem ofCells_rep : ∀ {l : List Value} {cs : List CV}, ofCells l = some cs → cs.length = l.length ∧ ∀ (j : Nat) (c : CV) (v : Value), cs[j]? = some c → l[j]? = some v → RepC w F β H nx c v
  | [], cs, h => by
    simp only [ofCells, Option.some.injEq] at h
    subst h
    exact ⟨rfl, fun j c v h => by simp at h⟩
  | v :: r, cs, h => by
    simp only [ofCells] at h
    split at h
    · rename_i c cs' h1 h2
      injection h with h
      subst h
      obtain ⟨hl, hr⟩ := ofCells_rep h2
      refine ⟨by simp [hl], fun j c' v' hc hv => ?_⟩
      cases j with
      | zero =>
        simp only [List.getElem?_cons_zero, Option.some.injEq] at hc hv
        subst hc; subst hv
        exact ofCell_rep h1
      | succ j => exact hr j c' v' (by simpa using hc) (by simpa using hv)
    · cases h
theorem ofValue_rep {v : Value} {a : AV} (h : ofValue v = some a) : RepA w F β H nx a v := by
  unfold ofValue at h
  split at h
  · obtain ⟨cs, hc, rfl⟩ := Option.map_eq_some_iff.1 h
    obtain ⟨hl, hr⟩ := ofCells_rep (w := w) (F := F) (β := β) (H := H) (nx := nx) hc
    exact .agg _ _ (by simpa using hl.symm) (fun j c v h1 h2 => hr j c v h1 (by simpa using h2))
  · obtain ⟨c, hc, rfl⟩ := Option.map_eq_some_iff.1 h
    exact .c _ _ (ofCell_rep hc)
end

/-! Types. -/
section
variable {P : Program} {t : TypeId} (w : World)
theorem run_isAgg {b : Bool} (h : tAgg P t = some b) : (isAgg t).run P w = .ok b w := by
  unfold tAgg at h
  unfold isAgg
  split at h
  · rename_i fs h1; injection h with h; subst h; simp [run_underlying h1]
  · rename_i n e h1; injection h with h; subst h; simp [run_underlying h1]
  · rename_i d hn1 hn2 h1
    injection h with h; subst h
    simp only [Sem.run_bind, run_underlying h1, Result.andThen_ok]
    rfl
  · cases h
theorem run_sizeOf {n : Nat} (h : tSize P t = some n) : (sizeOf t).run P w = .ok n w := by
  unfold tSize at h
  obtain ⟨i, hi, rfl⟩ := Option.map_eq_some_iff.1 h
  simp [sizeOf, typeInfo, hi]
theorem info_of_size {n : Nat} (h : tSize P t = some n) : ∃ i, P.info? t = some i ∧ i.size = n := by
  unfold tSize at h
  obtain ⟨i, hi, rfl⟩ := Option.map_eq_some_iff.1 h
  exact ⟨i, hi, rfl⟩
end

theorem addr_add {a : Addr} (h : a.spot = none) (n : Nat) : a.add n = ⟨a.block, a.off + n, none⟩ := by
  unfold Addr.add
  split
  · subst_vars; cases a; simp at h; simp [h]
  · rfl

theorem run_loadVar_of {P : Program} {t : TypeId} {b : Bool} {n : Nat} (hb : tAgg P t = some b) (hn : tSize P t = some n) {w : World} {a : Addr} (hsp : a.spot = none) (vs : Nat → Value)
    (hc : ∀ j, j < n → w.cell? ⟨a.block, a.off + j, none⟩ = some (vs j)) (h1 : b = false → 0 < n) :
    (loadVar t a).run P w = .ok (if b then .agg ((List.range n).map vs).toArray else vs 0) w := by
  unfold loadVar
  simp only [Sem.run_bind, run_isAgg w hb, Result.andThen_ok]
  cases b with
  | true =>
    have hl : ((List.range n).map vs).length = n := by simp
    have := run_loadCells_list (P := P) w a ((List.range n).map vs) (fun j v hv => by
      obtain ⟨hj, rfl⟩ := List.getElem?_eq_some_iff.1 hv
      rw [addr_add hsp]
      simp only [List.length_map, List.length_range] at hj
      rw [hc j hj]
      simp)
    rw [hl] at this
    simp [run_sizeOf w hn, this]
  | false =>
    have h0 := hc 0 (h1 rfl)
    have ha : (⟨a.block, a.off + 0, none⟩ : Addr) = a := by cases a; simp at hsp; simp [hsp]
    rw [ha] at h0
    simp [h0]

section
variable {w : World} {F : Imm} {β : Nat → Nat} {H : Heap} {nx : Nat}
theorem segA_rep {agg : Bool} {n : Nat} {e : List CV} {x : AV} (h : segA agg n e = some x) (vs : Nat → Value) (hr : ∀ (j : Nat) (c : CV), e[j]? = some c → RepC w F β H nx c (vs j)) :
    n ≤ e.length ∧ (agg = false → 0 < n) ∧ RepA w F β H nx x (if agg then .agg ((List.range n).map vs).toArray else vs 0) := by
  unfold segA at h
  split at h
  · rename_i hn
    cases agg with
    | true =>
      simp only [if_true, Option.some.injEq] at h
      subst h
      refine ⟨hn, by simp, ?_⟩
      simp only [if_true]
      refine .agg _ _ (by simp; omega) (fun j c v h1 h2 => ?_)
      have hj : j < n := by
        have := (List.getElem?_eq_some_iff.1 h1).1
        simp at this; omega
      have h1' : e[j]? = some c := by
        rw [List.getElem?_take] at h1
        simpa [hj] using h1
      have h2' : v = vs j := by
        simp [List.getElem?_map, List.getElem?_range, hj] at h2
        exact h2.symm
      rw [h2']
      exact hr j c h1'
    | false =>
      simp only [Bool.false_eq_true, if_false] at h
      split at h
      · rename_i c tl
        injection h with h
        subst h
        refine ⟨hn, by simp, ?_⟩
        simp only [Bool.false_eq_true, if_false]
        exact .c _ _ (hr 0 c (by simp))
      · cases h
  · cases h

theorem rowOf_inv {l ver es : Nat} {elems : List (List CV)} (h : rowOf H l ver = some (es, elems)) : H l = some (.row ver es .own elems) := by
  unfold rowOf at h
  split at h
  · rename_i ver' es' elems' h1
    split at h
    · rename_i hv
      subst hv
      simp only [Option.some.injEq, Prod.mk.injEq] at h
      obtain ⟨rfl, rfl⟩ := h
      exact h1
    · cases h
  · cases h

/-- A pointer to a row that lives. -/
theorem ptr_inv {l ver i o es : Nat} {elems : List (List CV)} {v : Value} (h : RepA w F β H nx (.c (.ptr l ver i o)) v) (hr : H l = some (.row ver es .own elems)) :
    v = .pointer (some ⟨β l, i * es + o, none⟩) := by
  cases h with
  | c c v h =>
    cases h with
    | ptr _ _ _ _ a hl hv h => rw [h _ _ hr]
/-- The cells of a live row. -/
theorem Sim.cells (hs : Sim w H β F nx) {l ver es : Nat} {elems : List (List CV)} (hr : H l = some (.row ver es .own elems)) {i : Nat} {e : List CV} (he : elems[i]? = some e) :
    ∃ vs : Nat → Value, (∀ j, j < e.length → w.cell? ⟨β l, i * es + j, none⟩ = some (vs j)) ∧ ∀ (j : Nat) (c : CV), e[j]? = some c → RepC w F β H nx c (vs j) := by
  obtain ⟨arr, ty, ha, hsz, hc⟩ := hs.row _ _ _ _ hr
  refine ⟨fun j => arr.getD (i * es + j) undef, fun j hj => ?_, fun j c h1 => ?_⟩
  · obtain ⟨v, hv, _⟩ := hc i j e _ he (List.getElem?_eq_getElem hj)
    simp [World.cell?, ha, hv, Array.getD_eq_getD_getElem?]
  · obtain ⟨v, hv, hr⟩ := hc i j e c he h1
    simp only [Array.getD_eq_getD_getElem?, hv, Option.getD_some]
    exact hr

theorem pptr_inv {cells : List PV} {v : Value} (h : RepA w F β H nx (.c (.p (.ptr cells))) v) :
    ∃ (a : Addr) (vs : Nat → Value), v = .pointer (some a) ∧ a.spot = none ∧ (∀ j, j < cells.length → w.cell? ⟨a.block, a.off + j, none⟩ = some (vs j) ∧ F a.block (a.off + j)) ∧
      ∀ (j : Nat) (c : PV), cells[j]? = some c → RepP w F c (vs j) := by
  cases h with
  | c c v h => cases h with
    | p p v h => cases h with
      | ptr _ a vs hsp hc hr => exact ⟨a, vs, rfl, hsp, hc, hr⟩
end

theorem load_ok {P : Program} {w : World} {H : Heap} {β : Nat → Nat} {F : Imm} {nx al : Nat} (hs : Sim w H β F nx) {t : TypeId} {b : Bool} {n : Nat} (hb : tAgg P t = some b) (hn : tSize P t = some n)
    {x y : AV} {v : Value} (hx : RepA w F β H nx x v) (h : loadA b n x H = some y) :
    ∃ u, (Instr.loadAt t v).run P w = .ok u w ∧ RepA w F β H nx y u := by
  unfold loadA at h
  split at h
  · rename_i cells
    obtain ⟨a, vs, rfl, hsp, hc, hr⟩ := pptr_inv hx
    obtain ⟨hl, h1, hrep⟩ := segA_rep (w := w) (F := F) (β := β) (H := H) (nx := nx) h vs (fun j c hj => by
      simp only [List.getElem?_map, Option.map_eq_some_iff] at hj
      obtain ⟨p, hp, rfl⟩ := hj
      exact .p _ _ (hr j p hp))
    simp only [List.length_map] at hl
    exact ⟨if b then .agg ((List.range n).map vs).toArray else vs 0, by simpa [Instr.loadAt, Instr.sureAddr] using run_loadVar_of hb hn hsp vs (fun j hj => (hc j (by omega)).1) h1, hrep⟩
  · rename_i l ver i o
    split at h
    · rename_i es e hce
      unfold cellA at hce
      split at hce
      · rename_i es' elems hro
        obtain ⟨e', he', heq⟩ := Option.map_eq_some_iff.1 hce
        simp only [Prod.mk.injEq] at heq
        obtain ⟨rfl, rfl⟩ := heq
        have hrow := rowOf_inv hro
        obtain rfl := ptr_inv hx hrow
        obtain ⟨vs, hv, hr⟩ := hs.cells hrow he'
        obtain ⟨hl, h1, hrep⟩ := segA_rep (w := w) (F := F) (β := β) (H := H) (nx := nx) h (fun j => vs (o + j)) (fun j c hj => hr (o + j) c (by simpa [List.getElem?_drop] using hj))
        simp only [List.length_drop] at hl
        have hcell : ∀ j, j < n → w.cell? ⟨(⟨β l, i * es' + o, none⟩ : Addr).block, (⟨β l, i * es' + o, none⟩ : Addr).off + j, none⟩ = some (vs (o + j)) := fun j hj => by
          have := hv (o + j) (by omega)
          simpa [Nat.add_assoc] using this
        have hrun := run_loadVar_of (P := P) (a := ⟨β l, i * es' + o, none⟩) hb hn rfl (fun j => vs (o + j)) hcell h1
        exact ⟨_, by simpa only [Instr.loadAt, Instr.sureAddr, Sem.run_bind, Sem.run_pure, Result.andThen_ok] using hrun, hrep⟩
      · cases hce
    · cases h
  · cases h

theorem fieldA_ok {P : Program} {w : World} {H : Heap} {β : Nat → Nat} {F : Imm} {nx : Nat} {s : TypeId} {fs : Array Field} {f : Nat} {fd : Field} {n : Nat} (hu : P.underlying s = some (.struct fs)) (hf : fs[f]? = some fd)
    (hn : tSize P fd.type = some n) {x y : AV} {v : Value} (hx : RepA w F β H nx x v) (h : fieldAA fd.offset n x H = some y) :
    ∃ u, (Instr.fieldAt s v f).run P w = .ok u w ∧ RepA w F β H nx y u := by
  unfold fieldAA at h
  split at h
  · cases h
  rename_i hn0
  split at h
  · rename_i cells
    injection h with h; subst h
    obtain ⟨a, vs, rfl, hsp, hc, hr⟩ := pptr_inv hx
    refine ⟨.pointer (some (a.add fd.offset)), ?_, ?_⟩
    · simp [Instr.fieldAt, run_underlying hu, hf, Instr.sureAddr, fieldPlace, run_sizeOf w hn, hn0]
    · rw [addr_add hsp]
      refine .c _ _ (.p _ _ (.ptr _ _ (fun j => vs (fd.offset + j)) rfl (fun j hj => ?_) (fun j c hj => hr _ c (by simpa [List.getElem?_drop] using hj))))
      simp only [List.length_drop] at hj
      have := hc (fd.offset + j) (by omega)
      simpa [Nat.add_assoc] using this
  · rename_i l ver i o
    split at h
    · rename_i q hro
      obtain ⟨es, elems⟩ := q
      injection h with h; subst h
      have hrow := rowOf_inv hro
      cases hx with
      | c c v hx =>
        cases hx with
        | ptr _ _ _ _ a hl hv hh =>
          have ha := hh _ _ hrow
          subst ha
          refine ⟨.pointer (some ⟨β l, i * es + (o + fd.offset), none⟩), ?_, ?_⟩
          · simp [Instr.fieldAt, run_underlying hu, hf, Instr.sureAddr, fieldPlace, run_sizeOf w hn, hn0, addr_add, Nat.add_assoc]
          · refine .c _ _ (.ptr _ _ _ _ _ hl hv (fun es0 elems0 h0 => ?_))
            rw [hrow] at h0
            injection h0 with h0
            injection h0 with _ h0
            rw [← h0]
    · cases h
  · cases h

theorem int_inv {w : World} {F : Imm} {β : Nat → Nat} {H : Heap} {nx : Nat} {k : IntKind} {n : Int} {v : Value} (h : RepA w F β H nx (.c (.p (.int k n))) v) : v = .int k n := by
  cases h with | c c v h => cases h with | p p v h => cases h; rfl
theorem bool_inv {w : World} {F : Imm} {β : Nat → Nat} {H : Heap} {nx : Nat} {b : Bool} {v : Value} (h : RepA w F β H nx (.c (.p (.bool b))) v) : v = .bool b := by
  cases h with | c c v h => cases h with | p p v h => cases h; rfl
theorem str_inv {w : World} {F : Imm} {β : Nat → Nat} {H : Heap} {nx : Nat} {s : List UInt8} {v : Value} (h : RepA w F β H nx (.c (.p (.str s))) v) : v = .string ⟨s.toArray⟩ := by
  cases h with | c c v h => cases h with | p p v h => cases h; rfl
theorem nil_inv {w : World} {F : Imm} {β : Nat → Nat} {H : Heap} {nx : Nat} {v : Value} (h : RepA w F β H nx (.c (.p .nil)) v) : v = .slice none 0 0 := by
  cases h with | c c v h => cases h with | p p v h => cases h; rfl
theorem sl_inv {w : World} {F : Imm} {β : Nat → Nat} {H : Heap} {nx : Nat} {es : Nat} {full : Bool} {elems : List (List PV)} {v : Value} (h : RepA w F β H nx (.c (.p (.sl es full elems))) v) :
    ∃ (a : Addr) (cap : Nat) (vs : Nat → Value), v = .slice (some a) elems.length cap ∧ elems.length ≤ cap ∧ (full = true → cap = elems.length) ∧ (∀ (i : Nat) (e : List PV), elems[i]? = some e → e.length = es) ∧
      (∀ j, j < elems.length * es → a.spot = none ∧ w.cell? ⟨a.block, a.off + j, none⟩ = some (vs j) ∧ F a.block (a.off + j)) ∧
      ∀ (i j : Nat) (e : List PV) (c : PV), elems[i]? = some e → e[j]? = some c → RepP w F c (vs (i * es + j)) := by
  cases h with | c c v h => cases h with | p p v h => cases h with
    | sl _ _ _ a cap vs hcap hfull hes hc hr => exact ⟨a, cap, vs, rfl, hcap, hfull, hes, hc, hr⟩
theorem row_ne {H : Heap} {l ver es : Nat} {st : Own} {elems : List (List CV)} (h : H l = some (.row ver es st elems)) : H l ≠ some .rsv := by rw [h]; intro q; cases q
theorem ref_inv {w : World} {F : Imm} {β : Nat → Nat} {H : Heap} {nx : Nat} {l ver off len es : Nat} {st : Own} {elems : List (List CV)} {v : Value} (h : RepA w F β H nx (.c (.ref l ver off len)) v) (hr : H l = some (.row ver es st elems)) :
    l < nx ∧ RefOk w (β l) es st elems.length off len v := by
  cases h with | c c v h => cases h with
    | ref _ _ _ _ a n cap hl hv h => exact ⟨hl.1, h _ _ _ hr⟩

theorem idx_lt {i n es j : Nat} (hi : i < n) (hj : j < es) : i * es + j < n * es := by
  have : (i + 1) * es ≤ n * es := Nat.mul_le_mul_right _ hi
  rw [Nat.add_mul] at this
  omega

theorem idxA_ok {P : Program} {w : World} {H : Heap} {β : Nat → Nat} {F : Imm} {nx : Nat} {t e : TypeId} {es : Nat} (hu : P.underlying t = some (.slice e)) (hn : tSize P e = some es) (hes0 : es ≠ 0)
    {x i y : AV} {v u : Value} (hx : RepA w F β H nx x v) (hi : RepA w F β H nx i u) (h : idxAA es x i H = some y) :
    ∃ r, (Instr.indexAt t v u).run P w = .ok r w ∧ RepA w F β H nx y r := by
  unfold idxAA at h
  split at h
  · rename_i es' full elems k i
    split at h
    · rename_i hc
      obtain ⟨rfl, h0⟩ := hc
      obtain ⟨el, hel, rfl⟩ := Option.map_eq_some_iff.1 h
      obtain ⟨a, cap, vs, rfl, hcap, hfull, hes, hc, hr⟩ := sl_inv hx
      obtain rfl := int_inv hi
      have hlt : i.toNat < elems.length := (List.getElem?_eq_some_iff.1 hel).1
      have hle := hes _ _ hel
      refine ⟨.pointer (some (a.add (i.toNat * es))), ?_, ?_⟩
      · simp [Instr.indexAt, asIntOf, run_underlying hu, run_sizeOf w hn, h0, show i < (elems.length : Int) by omega]
      · have hsp : a.spot = none := (hc (i.toNat * es) (idx_lt (j := 0) hlt (by omega))).1
        rw [addr_add hsp]
        refine .c _ _ (.p _ _ (.ptr _ _ (fun j => vs (i.toNat * es + j)) rfl (fun j hj => ?_) (fun j c hj => hr _ _ _ _ hel hj)))
        have := hc (i.toNat * es + j) (idx_lt hlt (by omega))
        simpa [Nat.add_assoc] using this.2
    · cases h
  · rename_i l ver off len k i
    split at h
    · rename_i hc
      obtain ⟨h0, hlen⟩ := hc
      split at h
      · rename_i es' elems hro
        split at h
        · rename_i he
          subst he
          injection h with h; subst h
          have hrow := rowOf_inv hro
          obtain rfl := int_inv hi
          obtain ⟨hl, hle, _, _, hown⟩ := ref_inv hx hrow
          obtain ⟨a, cap, rfl, hcap, ha, arr, ty, harr, hsz⟩ := hown rfl
          obtain rfl := ha (by omega)
          refine ⟨.pointer (some ⟨β l, (off + i.toNat) * es + 0, none⟩), ?_, ?_⟩
          · simp [Instr.indexAt, asIntOf, run_underlying hu, run_sizeOf w hn, h0, hlen, addr_add, Nat.add_mul]
          · cases hx with | c c v hx => cases hx with
              | ref _ _ _ _ _ _ _ _ hv _ =>
                refine .c _ _ (.ptr _ _ _ _ _ ⟨hl, row_ne hrow⟩ hv (fun es0 elems0 h0 => ?_))
                rw [hrow] at h0
                injection h0 with h0
                injection h0 with _ h0
                rw [← h0]
        · cases h
      · cases h
    · cases h
  · cases h

theorem idxS_ok {P : Program} {w : World} {H : Heap} {β : Nat → Nat} {F : Imm} {nx : Nat} {t : TypeId} (hu : P.underlying t = some .string)
    {x i y : AV} {v u : Value} (hx : RepA w F β H nx x v) (hi : RepA w F β H nx i u) (h : idxSA x i = some y) :
    ∃ r, (Instr.index t v u).run P w = .ok r w ∧ RepA w F β H nx y r := by
  unfold idxSA at h
  split at h
  · rename_i s k i
    split at h
    · rename_i h0
      obtain ⟨b, hb, rfl⟩ := Option.map_eq_some_iff.1 h
      obtain rfl := str_inv hx
      obtain rfl := int_inv hi
      obtain ⟨hlt, hbe⟩ := List.getElem?_eq_some_iff.1 hb
      have hg : (⟨s.toArray⟩ : ByteArray)[i.toNat]? = some b := by
        have h1 : i.toNat < (⟨s.toArray⟩ : ByteArray).size := by simpa [ByteArray.size] using hlt
        rw [getElem?_pos (⟨s.toArray⟩ : ByteArray) i.toNat h1]
        exact congrArg some (by rw [← hbe]; rfl)
      refine ⟨.int .u8 b.toNat, ?_, .c _ _ (.p _ _ (.int _ _))⟩
      simp [Instr.index, asIntOf, run_underlying hu, h0, hg]
    · cases h
  · cases h

end Go.Ab
end PAb6

section PAb7
/- The framework 'Ab', part 7: the operations on values: arithmetic, comparison, conversion, slicing, structs. -/
set_option linter.unusedVariables false
set_option linter.unusedSimpArgs false
namespace Go.Ab

section
variable {P : Program} {w : World} {F : Imm} {β : Nat → Nat} {H : Heap} {nx : Nat}

theorem rI (k : IntKind) (n : Int) : RepA w F β H nx (vI k n) (.int k n) := .c _ _ (.p _ _ (.int _ _))
theorem rB (b : Bool) : RepA w F β H nx (vB b) (.bool b) := .c _ _ (.p _ _ (.bool _))
theorem rS (s : List UInt8) : RepA w F β H nx (vS s) (.string ⟨s.toArray⟩) := .c _ _ (.p _ _ (.str _))

theorem beq_l (a b : List UInt8) : (a == b) = decide (a = b) := by rw [Bool.eq_iff_iff]; simp
theorem intOp_ok (t : TypeId) (op : BinOp) (k : IntKind) (a b : Int) {y : AV} (hsh : op ≠ .shl) (hsr : op ≠ .shr) (h : intOp op k a b = some y) :
    ∃ r, (binOp op t (.int k a) (.int k b)).run P w = .ok r w ∧ RepA w F β H nx y r := by
  cases op <;> simp only [intOp] at h <;> try (exfalso; simp_all; done)
  case add => injection h with h; subst h; exact ⟨_, by simp [binOp, Op.intArith], rI _ _⟩
  case sub => injection h with h; subst h; exact ⟨_, by simp [binOp, Op.intArith], rI _ _⟩
  case mul => injection h with h; subst h; exact ⟨_, by simp [binOp, Op.intArith], rI _ _⟩
  case quo =>
    split at h
    · cases h
    · rename_i hb; injection h with h; subst h; exact ⟨_, by simp [binOp, Op.intDiv, hb], rI _ _⟩
  case rem =>
    split at h
    · cases h
    · rename_i hb; injection h with h; subst h; exact ⟨_, by simp [binOp, Op.intDiv, hb], rI _ _⟩
  case and => injection h with h; subst h; exact ⟨_, by simp [binOp, Op.intBits], rI _ _⟩
  case or => injection h with h; subst h; exact ⟨_, by simp [binOp, Op.intBits], rI _ _⟩
  case xor => injection h with h; subst h; exact ⟨_, by simp [binOp, Op.intBits], rI _ _⟩
  case andNot => injection h with h; subst h; exact ⟨_, by simp [binOp, Op.intBits], rI _ _⟩
  case eql => injection h with h; subst h; exact ⟨.bool (decide (a = b)), by simp [binOp, Op.intCmp]; rfl, rB _⟩
  case neq => injection h with h; subst h; exact ⟨.bool (!decide (a = b)), by simp [binOp, Op.intCmp]; rfl, rB _⟩
  case lss => injection h with h; subst h; exact ⟨_, by simp [binOp, Op.intCmp], rB _⟩
  case leq => injection h with h; subst h; exact ⟨_, by simp [binOp, Op.intCmp], rB _⟩
  case gtr => injection h with h; subst h; exact ⟨_, by simp [binOp, Op.intCmp], rB _⟩
  case geq => injection h with h; subst h; exact ⟨_, by simp [binOp, Op.intCmp], rB _⟩

theorem shOp_ok (t : TypeId) (op : BinOp) (k k' : IntKind) (a b : Int) {y : AV} (ho : op = .shl ∨ op = .shr) (h : shOp op k a b = some y) :
    ∃ r, (binOp op t (.int k a) (.int k' b)).run P w = .ok r w ∧ RepA w F β H nx y r := by
  unfold shOp at h
  split at h
  · cases h
  · rename_i hb
    rcases ho with rfl | rfl
    · injection h with h; subst h; exact ⟨_, by simp [binOp, Op.shift, hb], rI _ _⟩
    · injection h with h; subst h; exact ⟨_, by simp [binOp, Op.shift, hb], rI _ _⟩

theorem bytes_toList (s : List UInt8) : (⟨s.toArray⟩ : ByteArray).toList = s := by rw [ByteArray.toList_eq]
theorem bytes_append (a b : List UInt8) : (⟨a.toArray⟩ : ByteArray) ++ (⟨b.toArray⟩ : ByteArray) = ⟨(a ++ b).toArray⟩ := by
  apply ByteArray.ext
  rw [ByteArray.data_append]
  simp

theorem strOp_ok (t : TypeId) (op : BinOp) (a b : List UInt8) {y : AV} (h : strOp op a b = some y) :
    ∃ r, (binOp op t (.string ⟨a.toArray⟩) (.string ⟨b.toArray⟩)).run P w = .ok r w ∧ RepA w F β H nx y r := by
  cases op <;> simp only [strOp] at h <;> try (exfalso; simp_all; done)
  case add =>
    split at h
    · rename_i hl
      injection h with h; subst h
      refine ⟨_, ?_, rS _⟩
      simp only [binOp, Op.stringOp, Sem.run_ite, Sem.run_pure, IntKind.max_i64]
      rw [if_neg (by simp [ByteArray.size] at *; omega), bytes_append]
    · cases h
  case eql => injection h with h; subst h; exact ⟨.bool (decide (a = b)), by simp [binOp, Op.stringOp, bytes_toList, beq_l], rB _⟩
  case neq => injection h with h; subst h; exact ⟨.bool (!decide (a = b)), by simp [binOp, Op.stringOp, bytes_toList, beq_l], rB _⟩
  case lss => injection h with h; subst h; exact ⟨_, by simp [binOp, Op.stringOp, bytes_toList], rB _⟩
  case leq => injection h with h; subst h; exact ⟨.bool (Op.bytesLess a b || decide (a = b)), by simp [binOp, Op.stringOp, bytes_toList, beq_l], rB _⟩
  case gtr => injection h with h; subst h; exact ⟨.bool (!(Op.bytesLess a b || decide (a = b))), by simp [binOp, Op.stringOp, bytes_toList, beq_l], rB _⟩
  case geq => injection h with h; subst h; exact ⟨_, by simp [binOp, Op.stringOp, bytes_toList], rB _⟩

theorem binA_ok (t : TypeId) (op : BinOp) (xo yo : Operand) {x y z : AV} {v u : Value} (hx : RepA w F β H nx x v) (hy : RepA w F β H nx y u) (h : binA op x y = some z) :
    ∃ r, (do eqGuard op t xo yo v u; binOp op t v u : Sem Value).run P w = .ok r w ∧ RepA w F β H nx z r := by
  unfold binA at h
  split at h
  · rename_i k a k' b
    obtain rfl := int_inv hx
    obtain rfl := int_inv hy
    simp only [eqGuard_at_int, Sem.run_bind, Sem.run_pure, Result.andThen_ok]
    split at h
    · exact shOp_ok t .shl k k' a b (.inl rfl) h
    · exact shOp_ok t .shr k k' a b (.inr rfl) h
    · rename_i h1 h2
      split at h
      · rename_i hk; subst hk
        exact intOp_ok t op k a b (fun hh => h1 hh) (fun hh => h2 hh) h
      · cases h
  · rename_i a b
    obtain rfl := str_inv hx
    obtain rfl := str_inv hy
    simp only [eqGuard_at_string, Sem.run_bind, Sem.run_pure, Result.andThen_ok]
    exact strOp_ok t op a b h
  · cases h

theorem eqBA_ok (t : TypeId) (n : Bool) (hu : P.underlying t = some .bool) (xo yo : Operand) {x y z : AV} {v u : Value} (hx : RepA w F β H nx x v) (hy : RepA w F β H nx y u) (h : eqBA n x y = some z) :
    ∃ r, (do eqGuard (if n then .neq else .eql) t xo yo v u; binOp (if n then .neq else .eql) t v u : Sem Value).run P w = .ok r w ∧ RepA w F β H nx z r := by
  unfold eqBA at h
  split at h
  · rename_i a b
    obtain rfl := bool_inv hx
    obtain rfl := bool_inv hy
    injection h with h; subst h
    cases n
    · exact ⟨.bool (a == b), by simp only [eqGuard_at_bool, binOp, Sem.run_bind, Sem.run_pure, Result.andThen_ok, Bool.false_eq_true, if_false, run_equal_bool w t a b hu], rB _⟩
    · exact ⟨.bool (!(a == b)), by simp only [eqGuard_at_bool, binOp, Sem.run_bind, Sem.run_pure, Result.andThen_ok, if_true, run_equal_bool w t a b hu], rB _⟩
  · cases h

theorem unA_ok (op : UnOp) {x y : AV} {v : Value} (hx : RepA w F β H nx x v) (h : unA op x = some y) :
    ∃ r, (Op.unary op v).run P w = .ok r w ∧ RepA w F β H nx y r := by
  unfold unA at h
  split at h
  · rename_i b
    obtain rfl := bool_inv hx
    injection h with h; subst h
    exact ⟨_, by simp [Op.unary], rB _⟩
  · rename_i k n
    obtain rfl := int_inv hx
    injection h with h; subst h
    exact ⟨_, by simp [Op.unary, Op.intArith], rI _ _⟩
  · cases h

theorem convI_ok {src dst : TypeId} {ks kd : IntKind} (hs : P.underlying src = some (.int ks)) (hd : P.underlying dst = some (.int kd)) {x y : AV} {v : Value} (hx : RepA w F β H nx x v) (h : convIA kd x = some y) :
    ∃ r, (convert src dst v).run P w = .ok r w ∧ RepA w F β H nx y r := by
  unfold convIA at h
  split at h
  · rename_i k n
    obtain rfl := int_inv hx
    injection h with h; subst h
    exact ⟨_, by simp [convert, run_underlying hs, run_underlying hd, Conv.intToInt], rI _ _⟩
  · cases h
theorem convS_ok {src dst : TypeId} (hs : P.underlying src = some .string) (hd : P.underlying dst = some .string) {x y : AV} {v : Value} (hx : RepA w F β H nx x v) (h : convSA x = some y) :
    ∃ r, (convert src dst v).run P w = .ok r w ∧ RepA w F β H nx y r := by
  unfold convSA at h
  split at h
  · rename_i s
    obtain rfl := str_inv hx
    injection h with h; subst h
    exact ⟨_, by simp [convert, run_underlying hs, run_underlying hd], rS _⟩
  · cases h

/-! Slices. -/
theorem natA_ok {x : Option AV} {ov : Option Value} (hx : ∀ a, x = some a → ∃ v, ov = some v ∧ RepA w F β H nx a v) (hn : x = none → ov = none) {d n : Nat} (h : natA x d = some n) :
    (ov = none ∧ n = d) ∨ ∃ k, ov = some (.int k (n : Int)) := by
  unfold natA at h
  split at h
  · injection h with h; exact .inl ⟨hn rfl, h.symm⟩
  · rename_i k i
    split at h
    · rename_i h0
      injection h with h; subst h
      obtain ⟨v, hv, hr⟩ := hx _ rfl
      obtain rfl := int_inv hr
      exact .inr ⟨k, by rw [hv]; congr 2; omega⟩
    · cases h
  · cases h

theorem run_sb (k : IntKind) (n y : Nat) (code : BoundsCode) (h : n ≤ y) : (Instr.sliceBound (.int k (n : Int)) y code).run P w = .ok n w := by
  simp [Instr.sliceBound, asIntOf, h]

theorem run_bounds (b : Bool) (len cap h l : Nat) {lo hi : Option Value} (hh : (hi = none ∧ h = len) ∨ ∃ k, hi = some (.int k (h : Int))) (hl : (lo = none ∧ l = 0) ∨ ∃ k, lo = some (.int k (l : Int))) (h1 : l ≤ h) (h2 : h ≤ cap) :
    (Instr.sliceBounds b len cap lo hi none).run P w = .ok (l, h, cap) w := by
  rcases hh with ⟨rfl, rfl⟩ | ⟨kh, rfl⟩ <;> rcases hl with ⟨rfl, rfl⟩ | ⟨kl, rfl⟩ <;> simp [Instr.sliceBounds, run_sb, h1, h2]

theorem sliceS_ok {t : TypeId} (hu : P.underlying t = some .string) {x y : AV} {v : Value} {lo hi : Option AV} {ol oh : Option Value} (hx : RepA w F β H nx x v)
    (hl : ∀ a, lo = some a → ∃ v, ol = some v ∧ RepA w F β H nx a v) (hln : lo = none → ol = none) (hh : ∀ a, hi = some a → ∃ v, oh = some v ∧ RepA w F β H nx a v) (hhn : hi = none → oh = none)
    (h : sliceSA x lo hi = some y) : ∃ r, (Instr.sliceAt t v ol oh none).run P w = .ok r w ∧ RepA w F β H nx y r := by
  unfold sliceSA at h
  split at h
  · rename_i s
    obtain rfl := str_inv hx
    simp only [Option.bind_eq_bind] at h
    obtain ⟨h1, e1, h⟩ := Option.bind_eq_some_iff.1 h
    obtain ⟨l1, e2, h⟩ := Option.bind_eq_some_iff.1 h
    split at h
    · rename_i hc
      injection h with h; subst h
      have a1 := natA_ok hh hhn e1
      have a2 := natA_ok hl hln e2
      refine ⟨_, ?_, rS _⟩
      have hsz : (⟨s.toArray⟩ : ByteArray).size = s.length := by simp [ByteArray.size]
      have hb := run_bounds (P := P) (w := w) false s.length s.length h1 l1 a1 a2 hc.1 hc.2
      simp only [Instr.sliceAt, Instr.slice, Sem.run_bind, run_underlying hu, Result.andThen_ok, hsz, Option.isSome_none, Bool.false_eq_true, if_false, hb, Sem.run_pure]
      congr 2
      apply ByteArray.ext
      simp [ByteArray.data_extract, List.extract_eq_take_drop, List.drop_take]
    · cases h
  · cases h

theorem eqN_run (t : TypeId) (n b : Bool) (xo yo : Operand) (v u : Value) (hg : eqGuard (if n then .neq else .eql) t xo yo v u = pure ())
    (hb : ∀ op, (op = .eql → binOp op t v u = do pure (.bool (← Op.equal t v u))) ∧ (op = .neq → binOp op t v u = do pure (.bool (!(← Op.equal t v u))))) (he : (Op.equal t v u).run P w = .ok b w) :
    (do eqGuard (if n then .neq else .eql) t xo yo v u; binOp (if n then .neq else .eql) t v u : Sem Value).run P w = .ok (.bool (neg n b)) w := by
  rw [hg]
  cases n
  · simp [(hb .eql).1 rfl, he, neg]
  · simp [(hb .neq).2 rfl, he, neg]

theorem eqN_slice {t e : TypeId} (hu : P.underlying t = some (.slice e)) (n : Bool) (xo yo : Operand) {x z : AV} {v : Value} (hx : RepA w F β H nx x v) (h : (isNilK .slice x).map (fun b => vB (neg n b)) = some z) :
    (∃ r, (do eqGuard (if n then .neq else .eql) t xo yo v (.slice none 0 0); binOp (if n then .neq else .eql) t v (.slice none 0 0) : Sem Value).run P w = .ok r w ∧ RepA w F β H nx z r) ∧
    (∃ r, (do eqGuard (if n then .neq else .eql) t xo yo (.slice none 0 0) v; binOp (if n then .neq else .eql) t (.slice none 0 0) v : Sem Value).run P w = .ok r w ∧ RepA w F β H nx z r) := by
  obtain ⟨b, hb, rfl⟩ := Option.map_eq_some_iff.1 h
  have key : ∃ a l c, v = .slice a l c ∧ b = a.isNone := by
    unfold isNilK at hb
    split at hb <;> first | cases hb | skip
    · exact ⟨none, 0, 0, nil_inv hx, rfl⟩
    · obtain ⟨a, cap, vs, rfl, _⟩ := sl_inv hx
      exact ⟨some a, _, _, rfl, rfl⟩
    all_goals (rename_i heq; first | (cases heq) | skip)
  obtain ⟨a, l, c, rfl, rfl⟩ := key
  have e1 : (Op.equal t (.slice a l c) (.slice none 0 0)).run P w = .ok a.isNone w := by
    unfold Op.equal Op.maxDepth
    rw [Op.equalIn]
    simp only [Sem.run_bind, run_underlying hu, Result.andThen_ok]
    cases a <;> rfl
  have e2 : (Op.equal t (.slice none 0 0) (.slice a l c)).run P w = .ok a.isNone w := by
    unfold Op.equal Op.maxDepth
    rw [Op.equalIn]
    simp only [Sem.run_bind, run_underlying hu, Result.andThen_ok]
    rfl
  exact ⟨⟨_, eqN_run t n _ _ _ _ _ (eqGuard_at_slice _ _ _ _ _ _ _ _) (fun op => ⟨fun h => by subst h; rfl, fun h => by subst h; rfl⟩) e1, rB _⟩,
    ⟨_, eqN_run t n _ _ _ _ _ (eqGuard_at_slice _ _ _ _ _ _ _ _) (fun op => ⟨fun h => by subst h; rfl, fun h => by subst h; rfl⟩) e2, rB _⟩⟩

theorem eqN_ptr {t e : TypeId} (hu : P.underlying t = some (.pointer e)) (n : Bool) (xo yo : Operand) {x z : AV} {v : Value} (hx : RepA w F β H nx x v) (h : (isNilK .ptr x).map (fun b => vB (neg n b)) = some z) :
    (∃ r, (do eqGuard (if n then .neq else .eql) t xo yo v (.pointer none); binOp (if n then .neq else .eql) t v (.pointer none) : Sem Value).run P w = .ok r w ∧ RepA w F β H nx z r) ∧
    (∃ r, (do eqGuard (if n then .neq else .eql) t xo yo (.pointer none) v; binOp (if n then .neq else .eql) t (.pointer none) v : Sem Value).run P w = .ok r w ∧ RepA w F β H nx z r) := by
  obtain ⟨b, hb, rfl⟩ := Option.map_eq_some_iff.1 h
  have key : ∃ a, v = .pointer a ∧ b = a.isNone := by
    unfold isNilK at hb
    split at hb <;> first | cases hb | skip
    all_goals (rename_i heq; first | (cases heq; done) | skip)
    · cases hx with | c c v h => cases h with | p p v h => cases h; exact ⟨none, rfl, rfl⟩
    · obtain ⟨a, vs, rfl, _⟩ := pptr_inv hx
      exact ⟨some a, rfl, rfl⟩
  obtain ⟨a, rfl, rfl⟩ := key
  have e1 : (Op.equal t (.pointer a) (.pointer none)).run P w = .ok a.isNone w := by
    unfold Op.equal Op.maxDepth
    rw [Op.equalIn]
    simp only [Sem.run_bind, run_underlying hu, Result.andThen_ok]
    cases a <;> rfl
  have e2 : (Op.equal t (.pointer none) (.pointer a)).run P w = .ok a.isNone w := by
    unfold Op.equal Op.maxDepth
    rw [Op.equalIn]
    simp only [Sem.run_bind, run_underlying hu, Result.andThen_ok]
    rfl
  exact ⟨⟨_, eqN_run t n _ _ _ _ _ (eqGuard_at_pointer _ _ _ _ _ _) (fun op => ⟨fun h => by subst h; rfl, fun h => by subst h; rfl⟩) e1, rB _⟩,
    ⟨_, eqN_run t n _ _ _ _ _ (eqGuard_at_pointer _ _ _ _ _ _) (fun op => ⟨fun h => by subst h; rfl, fun h => by subst h; rfl⟩) e2, rB _⟩⟩

theorem eqN_iface {t : TypeId} {ms : Array (String × TypeId)} (hu : P.underlying t = some (.interface ms)) (n : Bool) (xo : Operand) {x z : AV} {v : Value} (hx : RepA w F β H nx x v) (h : (isNilK .iface x).map (fun b => vB (neg n b)) = some z) :
    (∃ r, (do eqGuard (if n then .neq else .eql) t xo (.const .nilIface) v .nilIface; binOp (if n then .neq else .eql) t v .nilIface : Sem Value).run P w = .ok r w ∧ RepA w F β H nx z r) ∧
    (∃ r, (do eqGuard (if n then .neq else .eql) t (.const .nilIface) xo .nilIface v; binOp (if n then .neq else .eql) t .nilIface v : Sem Value).run P w = .ok r w ∧ RepA w F β H nx z r) := by
  obtain ⟨b, hb, rfl⟩ := Option.map_eq_some_iff.1 h
  have key : (v = .nilIface ∧ b = true) ∨ ∃ d u, v = .iface d u ∧ b = false := by
    unfold isNilK at hb
    split at hb <;> first | cases hb | skip
    all_goals (rename_i heq; first | (cases heq; done) | skip)
    · cases hx with | c c v h => cases h with | p p v h => cases h; exact .inl ⟨rfl, rfl⟩
    · cases hx with | c c v h => cases h with | p p v h => cases h; exact .inr ⟨_, _, rfl, rfl⟩
  rcases key with ⟨rfl, rfl⟩ | ⟨d, u, rfl, rfl⟩
  · have e1 : (Op.equal t .nilIface .nilIface).run P w = .ok true w := by
      unfold Op.equal Op.maxDepth
      rw [Op.equalIn]
      simp only [Sem.run_bind, run_underlying hu, Result.andThen_ok]
      rfl
    exact ⟨⟨_, eqN_run t n _ _ _ _ _ (eqGuard_nil_constR _ _ _ _) (fun op => ⟨fun h => by subst h; rfl, fun h => by subst h; rfl⟩) e1, rB _⟩,
      ⟨_, eqN_run t n _ _ _ _ _ (eqGuard_nil_constL _ _ _ _) (fun op => ⟨fun h => by subst h; rfl, fun h => by subst h; rfl⟩) e1, rB _⟩⟩
  · have e1 : (Op.equal t (.iface d u) .nilIface).run P w = .ok false w := by
      unfold Op.equal Op.maxDepth
      rw [Op.equalIn]
      simp only [Sem.run_bind, run_underlying hu, Result.andThen_ok]
      rfl
    have e2 : (Op.equal t .nilIface (.iface d u)).run P w = .ok false w := by
      unfold Op.equal Op.maxDepth
      rw [Op.equalIn]
      simp only [Sem.run_bind, run_underlying hu, Result.andThen_ok]
      rfl
    exact ⟨⟨_, eqN_run t n _ _ _ _ _ (eqGuard_at_iface _ _ _ _ _ _ _) (fun op => ⟨fun h => by subst h; rfl, fun h => by subst h; rfl⟩) e1, rB _⟩,
      ⟨_, eqN_run t n _ _ _ _ _ (eqGuard_nil_iface _ _ _ _ _ _) (fun op => ⟨fun h => by subst h; rfl, fun h => by subst h; rfl⟩) e2, rB _⟩⟩

theorem slice_ok (hs : Sim w H β F nx) {t e : TypeId} {es : Nat} (hu : P.underlying t = some (.slice e)) (hn : tSize P e = some es) {x y : AV} {v : Value} {lo hi mx : Option AV} {ol oh om : Option Value} (hx : RepA w F β H nx x v)
    (hl : ∀ a, lo = some a → ∃ v, ol = some v ∧ RepA w F β H nx a v) (hln : lo = none → ol = none) (hh : ∀ a, hi = some a → ∃ v, oh = some v ∧ RepA w F β H nx a v) (hhn : hi = none → oh = none)
    (hm : ∀ a, mx = some a → ∃ v, om = some v ∧ RepA w F β H nx a v) (hmn : mx = none → om = none)
    (h : sliceA es x lo hi mx H = some y) : ∃ r, (Instr.sliceAt t v ol oh om).run P w = .ok r w ∧ RepA w F β H nx y r := by
  unfold sliceA at h
  split at h
  · -- nil
    obtain rfl := nil_inv hx
    simp only [Option.bind_eq_bind] at h
    obtain ⟨h1, e1, hz1⟩ := Option.bind_eq_some_iff.1 h
    obtain ⟨l1, e2, hz2⟩ := Option.bind_eq_some_iff.1 hz1
    split at hz2
    · rename_i hc
      obtain ⟨rfl, rfl⟩ := hc
      injection hz2 with hz2; subst hz2
      obtain rfl := hmn rfl
      have hb := run_bounds (P := P) (w := w) true 0 0 0 0 (natA_ok hh hhn e1) (natA_ok hl hln e2) (by omega) (by omega)
      refine ⟨.slice none 0 0, ?_, .c _ _ (.p _ _ .nil)⟩
      simp [Instr.sliceAt, Instr.slice, run_underlying hu, hb, run_sizeOf w hn]
    · cases hz2
  · -- a pure slice
    rename_i es' full elems
    obtain ⟨a, cap, vs, rfl, hcap, hfull, hes, hc, hr⟩ := sl_inv hx
    simp only [Option.bind_eq_bind] at h
    obtain ⟨h1, e1, hz1⟩ := Option.bind_eq_some_iff.1 h
    obtain ⟨l1, e2, hz2⟩ := Option.bind_eq_some_iff.1 hz1
    split at hz2
    · rename_i hcc
      obtain ⟨rfl, h2, h3⟩ := hcc
      injection hz2 with hz2; subst hz2
      obtain rfl := hmn rfl
      have hb := run_bounds (P := P) (w := w) true elems.length cap h1 l1 (natA_ok hh hhn e1) (natA_ok hl hln e2) h2 (by omega)
      have hrun : (Instr.sliceAt t (.slice (some a) elems.length cap) ol oh none).run P w = .ok (.slice (some (if cap = l1 then a else a.add (l1 * es))) (h1 - l1) (cap - l1)) w := by
        simp [Instr.sliceAt, Instr.slice, run_underlying hu, hb, run_sizeOf w hn]
        split <;> rfl
      refine ⟨_, hrun, ?_⟩
      have hlen : ((elems.take h1).drop l1).length = h1 - l1 := by simp; omega
      rw [← hlen]
      refine .c _ _ (.p _ _ (.sl _ _ _ _ _ (fun j => vs (l1 * es + j)) (by rw [hlen]; omega) (fun hf => ?_) (fun i e he => ?_) (fun j hj => ?_) (fun i j e c he hce => ?_)))
      · simp only [Bool.and_eq_true, decide_eq_true_eq] at hf
        rw [hlen, hfull hf.1]; omega
      · refine hes (l1 + i) e ?_
        rw [List.getElem?_drop, List.getElem?_take] at he
        split at he
        · exact he
        · cases he
      · rw [hlen] at hj
        have hpos : l1 < h1 := by
          rcases Nat.lt_or_ge l1 h1 with q | q
          · exact q
          · have : h1 - l1 = 0 := by omega
            rw [this] at hj; simp at hj
        have hlt : l1 * es + j < elems.length * es := by
          have q1 : l1 * es + (h1 - l1) * es = h1 * es := by rw [← Nat.add_mul]; congr 1; omega
          have q2 : h1 * es ≤ elems.length * es := Nat.mul_le_mul_right _ h3
          omega
        have q := hc (l1 * es + j) hlt
        rw [if_neg (by omega), addr_add q.1]
        exact ⟨rfl, by simpa [Nat.add_assoc] using q.2.1, by simpa [Nat.add_assoc] using q.2.2⟩
      · have he' : elems[l1 + i]? = some e := by
          rw [List.getElem?_drop, List.getElem?_take] at he
          split at he
          · exact he
          · cases he
        have := hr (l1 + i) j e c he' hce
        rwa [show (l1 + i) * es + j = l1 * es + (i * es + j) by rw [Nat.add_mul]; omega] at this
    · cases hz2
  · -- with a capacity
    rename_i es' full elems m
    obtain ⟨a, cap, vs, rfl, hcap, hfull, hes, hc, hr⟩ := sl_inv hx
    simp only [Option.bind_eq_bind] at h
    obtain ⟨m1, e0, hz0⟩ := Option.bind_eq_some_iff.1 h
    obtain ⟨h1, e1, hz1⟩ := Option.bind_eq_some_iff.1 hz0
    obtain ⟨l1, e2, hz2⟩ := Option.bind_eq_some_iff.1 hz1
    split at hz2
    · rename_i hcc
      obtain ⟨rfl, h2, rfl, h3, his⟩ := hcc
      injection hz2 with hz2; subst hz2
      have am := natA_ok (x := some m) (ov := om) hm hmn e0
      have ah := natA_ok hh hhn e1
      have al := natA_ok hl hln e2
      have hrun : (Instr.sliceAt t (.slice (some a) elems.length cap) ol oh om).run P w = .ok (.slice (some (if h1 = l1 then a else a.add (l1 * es))) (h1 - l1) (h1 - l1)) w := by
        rcases am with ⟨rfl, _⟩ | ⟨km, rfl⟩
        · obtain ⟨v, hv, _⟩ := hm _ rfl; cases hv
        rcases ah with ⟨rfl, _⟩ | ⟨kh, rfl⟩
        · cases hi with
          | none => simp at his
          | some hi => obtain ⟨v, hv, _⟩ := hh _ rfl; cases hv
        rcases al with ⟨rfl, rfl⟩ | ⟨kl, rfl⟩ <;>
        · simp [Instr.sliceAt, Instr.slice, run_underlying hu, Instr.sliceBounds, run_sb, run_sizeOf w hn, h2, show h1 ≤ cap by omega]
          split <;> rfl
      refine ⟨_, hrun, ?_⟩
      have hlen : ((elems.take h1).drop l1).length = h1 - l1 := by simp; omega
      have hrep : ∀ q : Addr, q = (if h1 = l1 then a else a.add (l1 * es)) → RepA w F β H nx (.c (.p (.sl es true ((elems.take h1).drop l1)))) (.slice (some q) ((elems.take h1).drop l1).length (h1 - l1)) := by
        intro q hq
        refine .c _ _ (.p _ _ (.sl _ _ _ _ _ (fun j => vs (l1 * es + j)) (by rw [hlen]; omega) (fun hf => hlen.symm) (fun i e he => ?_) (fun j hj => ?_) (fun i j e c he hce => ?_)))
        · refine hes (l1 + i) e ?_
          rw [List.getElem?_drop, List.getElem?_take] at he
          split at he
          · exact he
          · cases he
        · rw [hlen] at hj
          have hpos : l1 < h1 := by
            rcases Nat.lt_or_ge l1 h1 with q | q
            · exact q
            · have : h1 - l1 = 0 := by omega
              rw [this] at hj; simp at hj
          have hlt : l1 * es + j < elems.length * es := by
            have q1 : l1 * es + (h1 - l1) * es = h1 * es := by rw [← Nat.add_mul]; congr 1; omega
            have q2 : h1 * es ≤ elems.length * es := Nat.mul_le_mul_right _ h3
            omega
          have r := hc (l1 * es + j) hlt
          rw [hq, if_neg (by omega), addr_add r.1]
          exact ⟨rfl, by simpa [Nat.add_assoc] using r.2.1, by simpa [Nat.add_assoc] using r.2.2⟩
        · have he' : elems[l1 + i]? = some e := by
            rw [List.getElem?_drop, List.getElem?_take] at he
            split at he
            · exact he
            · cases he
          have := hr (l1 + i) j e c he' hce
          rwa [show (l1 + i) * es + j = l1 * es + (i * es + j) by rw [Nat.add_mul]; omega] at this
      have := hrep _ rfl
      rwa [hlen] at this
    · cases hz2
  · -- a row
    rename_i r ver off len
    simp only [Option.bind_eq_bind] at h
    obtain ⟨h1, e1, hz1⟩ := Option.bind_eq_some_iff.1 h
    obtain ⟨l1, e2, hz2⟩ := Option.bind_eq_some_iff.1 hz1
    split at hz2
    · rename_i ver' es' st elems hrow
      split at hz2
      · rename_i hcc
        obtain ⟨rfl, rfl, h2, h3⟩ := hcc
        injection hz2 with hz2; subst hz2
        obtain rfl := hmn rfl
        have ah := natA_ok hh hhn e1
        have al := natA_ok hl hln e2
        obtain ⟨hlt, ro1, ro2, ro3, ro4⟩ := ref_inv hx hrow
        have hver : ∀ ver0 es0 st0 elems0, H r = some (.row ver0 es0 st0 elems0) → ver ≤ ver0 := by
          cases hx with | c c v hx => cases hx with | ref _ _ _ _ _ _ _ _ hv _ => exact hv
        have mk : ∀ (q : Option Addr) (n c : Nat), RefOk w (β r) es st elems.length (off + l1) (h1 - l1) (.slice q n c) → RepA w F β H nx (.c (.ref r ver (off + l1) (h1 - l1))) (.slice q n c) := by
          intro q n c hq
          refine .c _ _ (.ref _ _ _ _ _ _ _ ⟨hlt, row_ne hrow⟩ hver (fun es0 st0 elems0 h0 => ?_))
          rw [hrow] at h0
          injection h0 with h0
          injection h0 with _ q1 q2 q3
          subst q1; subst q2; subst q3
          exact hq
        have hnil : st ≠ .own → elems = [] := (hs.pos _ _ _ _ _ hrow).2.2
        by_cases hst : st = .own
        · subst hst
          obtain ⟨a, cap, rfl, hcap, ha, arr, ty, harr, hsz⟩ := ro4 rfl
          have hb := run_bounds (P := P) (w := w) true len cap h1 l1 ah al h2 (by
            have hpos := (hs.pos _ _ _ _ _ hrow).1
            obtain ⟨arr', ty', harr', hle', _⟩ := hs.row _ _ _ _ hrow
            rw [harr] at harr'
            injection harr' with harr'
            injection harr' with harr'
            subst harr'
            have q1 : (off + h1) * es ≤ (off + cap) * es := by rw [hsz]; exact Nat.le_trans (Nat.mul_le_mul_right _ h3) hle'
            have q2 := Nat.le_of_mul_le_mul_right q1 hpos
            omega)
          refine ⟨.slice (some (if cap = l1 then a else a.add (l1 * es))) (h1 - l1) (cap - l1), ?_, mk _ _ _ ⟨by omega, (by intro q; cases q), (by intro q; cases q), fun _ => ⟨_, _, rfl, ?_, ?_, arr, ty, harr, ?_⟩⟩⟩
          · simp [Instr.sliceAt, Instr.slice, run_underlying hu, hb, run_sizeOf w hn]
            split <;> rfl
          · have hpos := (hs.pos _ _ _ _ _ hrow).1
            obtain ⟨arr', ty', harr', hle', _⟩ := hs.row _ _ _ _ hrow
            rw [harr] at harr'
            injection harr' with harr'
            injection harr' with harr'
            subst harr'
            have q1 : (off + h1) * es ≤ (off + cap) * es := by rw [hsz]; exact Nat.le_trans (Nat.mul_le_mul_right _ h3) hle'
            have q2 := Nat.le_of_mul_le_mul_right q1 hpos
            omega
          · intro hc
            rw [if_neg (by omega), ha (by omega), addr_add rfl, Nat.add_mul]
          · rw [← hsz]
            have hpos := (hs.pos _ _ _ _ _ hrow).1
            obtain ⟨arr', ty', harr', hle', _⟩ := hs.row _ _ _ _ hrow
            rw [harr] at harr'
            injection harr' with harr'
            injection harr' with harr'
            subst harr'
            have q1 : (off + h1) * es ≤ (off + cap) * es := by rw [hsz]; exact Nat.le_trans (Nat.mul_le_mul_right _ h3) hle'
            have q2 := Nat.le_of_mul_le_mul_right q1 hpos
            congr 1; omega
        · obtain rfl := hnil hst
          simp only [List.length_nil] at h3 ro1
          obtain ⟨rfl, rfl⟩ : h1 = 0 ∧ l1 = 0 := by omega
          obtain rfl : off = 0 := by omega
          obtain rfl : len = 0 := by omega
          have hb := run_bounds (P := P) (w := w) true 0 0 0 0 ah al (by omega) (by omega)
          cases st with
          | own => exact absurd rfl hst
          | nil =>
            obtain rfl := ro2 rfl
            refine ⟨.slice none 0 0, ?_, mk _ _ _ ⟨by simp, fun _ => rfl, (by intro q; cases q), (by intro q; cases q)⟩⟩
            simp [Instr.sliceAt, Instr.slice, run_underlying hu, hb, run_sizeOf w hn]
          | emp =>
            obtain ⟨a, rfl⟩ := ro3 rfl
            refine ⟨.slice (some a) 0 0, ?_, mk _ _ _ ⟨by simp, (by intro q; cases q), fun _ => ⟨a, rfl⟩, (by intro q; cases q)⟩⟩
            simp [Instr.sliceAt, Instr.slice, run_underlying hu, hb, run_sizeOf w hn]
      · cases hz2
    · cases hz2
  · -- a row, with a capacity: what comes of it is not told
    rename_i r ver off len m
    simp only [Option.bind_eq_bind] at h
    obtain ⟨m1, e0, hz0⟩ := Option.bind_eq_some_iff.1 h
    obtain ⟨h1, e1, hz1⟩ := Option.bind_eq_some_iff.1 hz0
    obtain ⟨l1, e2, hz2⟩ := Option.bind_eq_some_iff.1 hz1
    split at hz2
    · rename_i ver' es' elems hrow
      split at hz2
      · rename_i hcc
        obtain ⟨rfl, rfl, h2, h3, h4, his⟩ := hcc
        injection hz2 with hz2; subst hz2
        have am := natA_ok (x := some m) (ov := om) hm hmn e0
        have ah := natA_ok hh hhn e1
        have al := natA_ok hl hln e2
        obtain ⟨hlt, ro1, ro2, ro3, ro4⟩ := ref_inv hx hrow
        obtain ⟨a, cap, rfl, hcap, ha, arr, ty, harr, hsz⟩ := ro4 rfl
        have hc : m1 ≤ cap := by
          have hpos := (hs.pos _ _ _ _ _ hrow).1
          obtain ⟨arr', ty', harr', hle', _⟩ := hs.row _ _ _ _ hrow
          rw [harr] at harr'
          injection harr' with harr'
          injection harr' with harr'
          subst harr'
          have q1 : (off + m1) * es ≤ (off + cap) * es := by rw [hsz]; exact Nat.le_trans (Nat.mul_le_mul_right _ h4) hle'
          have q2 := Nat.le_of_mul_le_mul_right q1 hpos
          omega
        have hrun : (Instr.sliceAt t (.slice (some a) len cap) ol oh om).run P w = .ok (.slice (some (if m1 = l1 then a else a.add (l1 * es))) (h1 - l1) (m1 - l1)) w := by
          rcases am with ⟨rfl, _⟩ | ⟨km, rfl⟩
          · obtain ⟨v, hv, _⟩ := hm _ rfl; cases hv
          rcases ah with ⟨rfl, _⟩ | ⟨kh, rfl⟩
          · cases hi with
            | none => simp at his
            | some hi => obtain ⟨v, hv, _⟩ := hh _ rfl; cases hv
          rcases al with ⟨rfl, rfl⟩ | ⟨kl, rfl⟩ <;>
          · simp [Instr.sliceAt, Instr.slice, run_underlying hu, Instr.sliceBounds, run_sb, run_sizeOf w hn, h2, h3, hc]
            split <;> rfl
        exact ⟨_, hrun, .u _⟩
      · cases hz2
    · cases hz2
  · cases h

end

end Go.Ab
end PAb7

section PAb8
/- The framework 'Ab', part 8: structs, arrays, tuples, new memory, stores. -/
set_option linter.unusedVariables false
set_option linter.unusedSimpArgs false
namespace Go.Ab

section
variable {P : Program} {w : World} {F : Imm} {β : Nat → Nat} {H : Heap} {nx : Nat}

theorem agg_inv {cs : List CV} {v : Value} (h : RepA w F β H nx (.agg cs) v) : ∃ vs, v = .agg vs ∧ vs.size = cs.length ∧ ∀ (j : Nat) (c : CV), cs[j]? = some c → RepC w F β H nx c (vs.getD j undef) := by
  cases h with
  | agg _ vs hs hr =>
    refine ⟨vs, rfl, hs, fun j c hj => hr j c _ hj ?_⟩
    have : j < vs.size := by rw [hs]; exact (List.getElem?_eq_some_iff.1 hj).1
    simp [Array.getD_eq_getD_getElem?, Array.getElem?_eq_getElem this]

theorem run_part {t : TypeId} {b : Bool} {n : Nat} (hb : tAgg P t = some b) (hn : tSize P t = some n) (vs : Array Value) (off : Nat) (h : off + n ≤ vs.size) (h1 : b = false → 0 < n) :
    (part t vs off).run P w = .ok (if b then .agg ((List.range n).map fun j => vs.getD (off + j) undef).toArray else vs.getD (off + 0) undef) w := by
  unfold part
  simp only [Sem.run_bind, run_isAgg w hb, Result.andThen_ok]
  cases b with
  | true =>
    simp only [if_true, Sem.run_bind, run_sizeOf w hn, Result.andThen_ok, Sem.run_pure]
    congr 2
    apply Array.ext
    · simp; omega
    · intro i h1 h2
      simp at h1 h2
      simp [Array.getD_eq_getD_getElem?, Array.getElem?_eq_getElem (show off + i < vs.size by omega)]
  | false =>
    have h0 : off < vs.size := by have := h1 rfl; omega
    simp [Array.getElem?_eq_getElem h0, Array.getD_eq_getD_getElem?]

theorem field_ok {s : TypeId} {fs : Array Field} {f : Nat} {fd : Field} {b : Bool} {n : Nat} (hu : P.underlying s = some (.struct fs)) (hf : fs[f]? = some fd) (hb : tAgg P fd.type = some b) (hn : tSize P fd.type = some n)
    {x y : AV} {v : Value} (hx : RepA w F β H nx x v) (h : fieldFA fd.offset b n x = some y) : ∃ u, (Instr.field s v f).run P w = .ok u w ∧ RepA w F β H nx y u := by
  unfold fieldFA at h
  split at h
  · rename_i cs
    obtain ⟨vs, rfl, hs, hr⟩ := agg_inv hx
    obtain ⟨hl, h1, hrep⟩ := segA_rep (w := w) (F := F) (β := β) (H := H) (nx := nx) h (fun j => vs.getD (fd.offset + j) undef) (fun j c hj => hr (fd.offset + j) c (by simpa [List.getElem?_drop] using hj))
    simp only [List.length_drop] at hl
    refine ⟨_, ?_, hrep⟩
    simp only [Instr.field, Sem.run_bind, run_underlying hu, Result.andThen_ok, hf, asAgg, Sem.run_pure]
    by_cases hle : fd.offset + n ≤ vs.size
    · exact run_part hb hn vs fd.offset hle h1
    · have hn0 : n = 0 := by rw [hs] at hle; omega
      subst hn0
      cases b with
      | false => exact absurd (h1 rfl) (by omega)
      | true =>
        unfold part
        simp [run_isAgg w hb, run_sizeOf w hn]
        omega
  · cases h

theorem idxV_ok {t e : TypeId} {len : Nat} {b : Bool} {es : Nat} (hu : P.underlying t = some (.array len e)) (hb : tAgg P e = some b) (hn : tSize P e = some es)
    {x i y : AV} {v u : Value} (hx : RepA w F β H nx x v) (hi : RepA w F β H nx i u) (h : idxVA len es b x i = some y) : ∃ r, (Instr.index t v u).run P w = .ok r w ∧ RepA w F β H nx y r := by
  unfold idxVA at h
  split at h
  · rename_i cs k i
    split at h
    · rename_i hc
      obtain ⟨h0, hl0⟩ := hc
      obtain ⟨vs, rfl, hs, hr⟩ := agg_inv hx
      obtain rfl := int_inv hi
      obtain ⟨hl, h1, hrep⟩ := segA_rep (w := w) (F := F) (β := β) (H := H) (nx := nx) h (fun j => vs.getD (i.toNat * es + j) undef) (fun j c hj => hr (i.toNat * es + j) c (by simpa [List.getElem?_drop] using hj))
      simp only [List.length_drop] at hl
      refine ⟨_, ?_, hrep⟩
      have hrun : (Instr.index t (.agg vs) (.int k i)).run P w = (part e vs (i.toNat * es)).run P w := by
        simp [Instr.index, asIntOf, run_underlying hu, h0, hl0, run_sizeOf w hn]
      rw [hrun]
      by_cases hle : i.toNat * es + es ≤ vs.size
      · exact run_part hb hn vs _ hle h1
      · have hn0 : es = 0 := by rw [hs] at hle; omega
        subst hn0
        cases b with
        | false => exact absurd (h1 rfl) (by omega)
        | true =>
          unfold part
          simp [run_isAgg w hb, run_sizeOf w hn]
          try omega
    · cases h
  · cases h

theorem idxArr_ok {t e : TypeId} {len es : Nat} (hu : P.underlying t = some (.array len e)) (hn : tSize P e = some es) (hes0 : es ≠ 0) (hlen : 1 < len)
    {x i y : AV} {v u : Value} (hx : RepA w F β H nx x v) (hi : RepA w F β H nx i u) (h : idxArrA len es x i H = some y) : ∃ r, (Instr.indexAt t v u).run P w = .ok r w ∧ RepA w F β H nx y r := by
  have hrun : ∀ (a : Addr) (k : IntKind) (i : Int), 0 ≤ i → i < len → (Instr.indexAt t (.pointer (some a)) (.int k i)).run P w = .ok (.pointer (some (a.add (i.toNat * es)))) w := by
    intro a k i h0 h1
    simp [Instr.indexAt, asIntOf, run_underlying hu, run_sizeOf w hn, Instr.sureAddr, h0, h1]
  unfold idxArrA at h
  split at h
  · rename_i cells k i
    split at h
    · rename_i hc
      injection h with h; subst h
      obtain ⟨a, vs, rfl, hsp, hcc, hr⟩ := pptr_inv hx
      obtain rfl := int_inv hi
      refine ⟨_, hrun _ _ _ hc.1 hc.2, ?_⟩
      rw [addr_add hsp]
      refine .c _ _ (.p _ _ (.ptr _ _ (fun j => vs (i.toNat * es + j)) rfl (fun j hj => ?_) (fun j c hj => hr _ c (by simpa [List.getElem?_drop] using hj))))
      simp only [List.length_drop] at hj
      have := hcc (i.toNat * es + j) (by omega)
      simpa [Nat.add_assoc] using this
    · cases h
  · rename_i l ver i0 o k i
    split at h
    · rename_i hc
      split at h
      · rename_i es' elems hro
        have hrow := rowOf_inv hro
        obtain rfl := ptr_inv hx hrow
        obtain rfl := int_inv hi
        have hvl : (l < nx ∧ H l ≠ some .rsv) ∧ ∀ ver0 es0 st0 elems0, H l = some (.row ver0 es0 st0 elems0) → ver ≤ ver0 := by
          cases hx with | c c v hx => cases hx with | ptr _ _ _ _ _ hl hv _ => exact ⟨hl, hv⟩
        refine ⟨_, hrun _ _ _ hc.1 hc.2, ?_⟩
        rw [addr_add rfl]
        split at h
        · rename_i he
          obtain ⟨rfl, rfl⟩ := he
          injection h with h; subst h
          refine .c _ _ (.ptr _ _ _ _ _ hvl.1 hvl.2 (fun es0 elems0 h0 => ?_))
          rw [hrow] at h0
          injection h0 with h0
          injection h0 with _ h0
          subst h0
          simp [Nat.add_mul]
        · injection h with h; subst h
          refine .c _ _ (.ptr _ _ _ _ _ hvl.1 hvl.2 (fun es0 elems0 h0 => ?_))
          rw [hrow] at h0
          injection h0 with h0
          injection h0 with _ h0
          subst h0
          simp [Nat.add_assoc]
      · cases h
    · cases h
  · cases h

theorem extract_ok {x y : AV} {v : Value} {i : Nat} (hx : RepA w F β H nx x v) (h : extractA x i = some y) : ∃ u, (Instr.extract v i).run P w = .ok u w ∧ RepA w F β H nx y u := by
  unfold extractA at h
  split at h
  · rename_i as
    cases hx with
    | tup _ vs hs hr =>
      have hi : i < vs.size := by rw [hs]; exact (List.getElem?_eq_some_iff.1 h).1
      have hv := Array.getElem?_eq_getElem hi
      exact ⟨vs[i], by simp [Instr.extract, hv], hr i y _ h hv⟩
  · cases h

theorem lenS_ok {t ty : TypeId} (hu : P.underlying t = some .string) {x y : AV} {v : Value} (hx : RepA w F β H nx x v) (h : lenSA x = some y) :
    ∃ u, (Builtin.len_ #[t] ty #[v]).run P w = .ok u w ∧ RepA w F β H nx y u := by
  unfold lenSA at h
  split at h
  · rename_i s
    injection h with h; subst h
    obtain rfl := str_inv hx
    have hsz : (⟨s.toArray⟩ : ByteArray).size = s.length := by simp [ByteArray.size]
    exact ⟨.int .i64 s.length, by simp [Builtin.len_, run_underlying hu, goInt, hsz], rI _ _⟩
  · cases h
theorem len_ok {t e ty : TypeId} (hu : P.underlying t = some (.slice e)) (hs : Sim w H β F nx) {x y : AV} {v : Value} (hx : RepA w F β H nx x v) (h : lenA x H = some y) :
    ∃ u, (Builtin.len_ #[t] ty #[v]).run P w = .ok u w ∧ RepA w F β H nx y u := by
  have hrun : ∀ a n c, (Builtin.len_ #[t] ty #[.slice a n c]).run P w = .ok (.int .i64 n) w := by
    intro a n c; simp [Builtin.len_, run_underlying hu, goInt]
  unfold lenA at h
  split at h
  · injection h with h; subst h
    obtain rfl := nil_inv hx
    exact ⟨_, hrun _ _ _, rI _ _⟩
  · injection h with h; subst h
    obtain ⟨a, cap, vs, rfl, _⟩ := sl_inv hx
    exact ⟨_, hrun _ _ _, rI _ _⟩
  · rename_i l ver off len
    split at h
    · rename_i ver' es st elems hrow
      split at h
      · rename_i hv; subst hv
        injection h with h; subst h
        obtain ⟨hl, r1, r2, r3, r4⟩ := ref_inv hx hrow
        cases st with
        | nil =>
          obtain rfl := r2 rfl
          have := (hs.pos _ _ _ _ _ hrow).2.2 (by simp)
          subst this
          simp only [List.length_nil] at r1
          obtain rfl : len = 0 := by omega
          exact ⟨_, hrun _ _ _, rI _ _⟩
        | emp =>
          obtain ⟨a, rfl⟩ := r3 rfl
          have := (hs.pos _ _ _ _ _ hrow).2.2 (by simp)
          subst this
          simp only [List.length_nil] at r1
          obtain rfl : len = 0 := by omega
          exact ⟨_, hrun _ _ _, rI _ _⟩
        | own =>
          obtain ⟨a, cap, rfl, _⟩ := r4 rfl
          exact ⟨_, hrun _ _ _, rI _ _⟩
      · cases h
    · cases h
  · cases h

/-! Functions as values. -/
theorem cvs_rep : ∀ {as : List AV} {cs : List CV} {vs : List Value}, cvs as = some cs → as.length = vs.length → (∀ (j : Nat) (a : AV) (v : Value), as[j]? = some a → vs[j]? = some v → RepA w F β H nx a v) →
    cs.length = vs.length ∧ ∀ (j : Nat) (c : CV) (v : Value), cs[j]? = some c → vs[j]? = some v → RepC w F β H nx c v
  | [], cs, vs, h, hl, hr => by
    simp only [cvs, Option.some.injEq] at h
    subst h
    exact ⟨hl, fun j c v h => by simp at h⟩
  | a :: as, cs, [], h, hl, hr => by simp at hl
  | a :: as, cs, v :: vs, h, hl, hr => by
    unfold cvs at h
    split at h
    · cases ‹_ :: _ = []›
    · rename_i c r heq
      injection heq with heq1 heq2
      subst heq1; subst heq2
      obtain ⟨cs', hc, rfl⟩ := Option.map_eq_some_iff.1 h
      obtain ⟨h1, h2⟩ := cvs_rep hc (by simpa using hl) (fun j a v ha hv => hr (j + 1) a v (by simpa using ha) (by simpa using hv))
      refine ⟨by simp [h1], fun j c' v' hc' hv' => ?_⟩
      cases j with
      | zero =>
        simp only [List.getElem?_cons_zero, Option.some.injEq] at hc' hv'
        subst hc'; subst hv'
        cases hr 0 _ _ rfl rfl with | c c v h => exact h
      | succ j => exact h2 j c' v' (by simpa using hc') (by simpa using hv')
    · cases h
theorem toPs_rep : ∀ {cs : List CV} {ps : List PV}, toPs cs = some ps → cs = ps.map .p
  | [], ps, h => by simp only [toPs, Option.some.injEq] at h; subst h; rfl
  | c :: cs, ps, h => by
    cases c with
    | p v =>
      simp only [toPs] at h
      obtain ⟨ps', hp, rfl⟩ := Option.map_eq_some_iff.1 h
      rw [toPs_rep hp]; rfl
    | _ => simp only [toPs] at h; cases h
theorem mkFn_ok {f : Nat} {first caps : List AV} {us vs : Array Value} (hu : first.length = us.size) (hv : caps.length = vs.size)
    (h1 : ∀ (j : Nat) (a : AV) (v : Value), first[j]? = some a → us[j]? = some v → RepA w F β H nx a v) (h2 : ∀ (j : Nat) (a : AV) (v : Value), caps[j]? = some a → vs[j]? = some v → RepA w F β H nx a v)
    {y : AV} (h : mkFnA f first caps = some y) : RepA w F β H nx y (.func (.func f) us vs) := by
  unfold mkFnA at h
  split at h
  · rename_i cs hf hc
    obtain ⟨l1, r1⟩ := cvs_rep (vs := us.toList) hf (by simpa using hu) (fun j a v ha hv => h1 j a v ha (by simpa using hv))
    obtain ⟨l2, r2⟩ := cvs_rep (vs := vs.toList) hc (by simpa using hv) (fun j a v ha hv => h2 j a v ha (by simpa using hv))
    have hus : us = #[] := by
      apply Array.eq_empty_of_size_eq_zero
      simpa using l1.symm
    subst hus
    split at h
    · rename_i ps hps
      injection h with h; subst h
      have := toPs_rep hps
      subst this
      refine .c _ _ (.p _ _ (.fn _ _ _ (by simpa using l2.symm) (fun j c v hc hv => ?_)))
      cases r2 j (.p c) v (by simp [List.getElem?_map, hc]) (by simpa using hv) with | p p v h => exact h
    · injection h with h; subst h
      exact .c _ _ (.fn _ _ _ _ _ (by simp) (by simpa using l2.symm) (fun j c v h => by simp at h) (fun j c v hc hv => r2 j c v hc (by simpa using hv)))
  · rename_i us' cs hne hf hc
    obtain ⟨l1, r1⟩ := cvs_rep (vs := us.toList) hf (by simpa using hu) (fun j a v ha hv => h1 j a v ha (by simpa using hv))
    obtain ⟨l2, r2⟩ := cvs_rep (vs := vs.toList) hc (by simpa using hv) (fun j a v ha hv => h2 j a v ha (by simpa using hv))
    injection h with h; subst h
    exact .c _ _ (.fn _ _ _ _ _ (by simpa using l1.symm) (by simpa using l2.symm) (fun j c v hc hv => r1 j c v hc (by simpa using hv)) (fun j c v hc hv => r2 j c v hc (by simpa using hv)))
  · cases h

/-- The cells of a value. -/
theorem cellsA_rep {x : AV} {cs : List CV} {v : Value} (hx : RepA w F β H nx x v) (h : cellsA x = some cs) : v.cells.size = cs.length ∧ ∀ (j : Nat) (c : CV), cs[j]? = some c → ∃ u, v.cells[j]? = some u ∧ RepC w F β H nx c u := by
  unfold cellsA at h
  split at h
  · rename_i c
    injection h with h; subst h
    cases hx with
    | c c v h =>
      rw [h.cells]
      refine ⟨rfl, fun j c' hj => ?_⟩
      cases j with
      | zero => simp only [List.getElem?_cons_zero, Option.some.injEq] at hj; subst hj; exact ⟨v, rfl, h⟩
      | succ j => simp at hj
  · rename_i cs'
    injection h with h; subst h
    cases hx with
    | agg _ vs hs hr =>
      refine ⟨hs, fun j c hj => ?_⟩
      have hi : j < vs.size := by rw [hs]; exact (List.getElem?_eq_some_iff.1 hj).1
      exact ⟨vs[j], Array.getElem?_eq_getElem hi, hr j c _ hj (Array.getElem?_eq_getElem hi)⟩
  · cases h

theorem alloc_world {w : World} (cells : Array Value) (t : TypeId) : ({ w with heap := w.heap.push (.cells cells t) } : World).heap[w.heap.size]? = some (.cells cells t (0, 0)) := by simp
theorem alloc_old {w : World} (o : Obj) {b : Nat} (h : b < w.heap.size) : ({ w with heap := w.heap.push o } : World).heap[b]? = w.heap[b]? := by
  show (w.heap.push o)[b]? = _
  rw [Array.getElem?_push, if_neg (by omega)]

/-- New memory that is a row. -/
theorem newRow_ok (hs : Sim w H β F nx) {al nx' : Nat} (hal : Al H nx al) (hn : nx ≤ nx') (hl : al < nx') (cells : Array Value) (t : TypeId) (es : Nat) (elems : List (List CV)) (hes : 0 < es)
    (hlen : ∀ (i : Nat) (e : List CV), elems[i]? = some e → e.length = es) (hsz : elems.length * es = cells.size)
    (hr : ∀ (i j : Nat) (e : List CV) (c : CV), elems[i]? = some e → e[j]? = some c → ∃ v, cells[i * es + j]? = some v ∧ RepC w F β H nx c v) :
    Sim { w with heap := w.heap.push (.cells cells t) } (upd H al (.row 0 es .own elems)) (updN β al w.heap.size) F nx' ∧
    Ext w H β F nx { w with heap := w.heap.push (.cells cells t) } (upd H al (.row 0 es .own elems)) (updN β al w.heap.size) F nx' :=
  simPut hs al w.heap.size 0 es elems cells t rfl rfl rfl (alloc_world cells t) (fun b _ hb => alloc_old _ hb) (by simp) (.inl (Nat.le_refl _)) hes hlen (by omega) hr (.inl hal) hn hl

theorem ptr_new {w' : World} {F' : Imm} {al nx' es : Nat} {elems : List (List CV)} (hl : al < nx') (b : Nat) :
    RepA w' F' (updN β al b) (upd H al (.row 0 es .own elems)) nx' (.c (.ptr al 0 0 0)) (.pointer (some ⟨b, 0, none⟩)) := by
  refine .c _ _ (.ptr _ _ _ _ _ ⟨hl, by simp [upd]⟩ (fun ver0 es0 st0 elems0 h0 => by omega) (fun es0 elems0 h0 => ?_))
  simp [updN]

/-- New memory that nobody writes. -/
theorem newImm_ok (hs : Sim w H β F nx) {nx' : Nat} (hn : nx ≤ nx') (cells : Array Value) (t : TypeId) (ps : List PV) (hsz : ps.length = cells.size)
    (hr : ∀ (j : Nat) (p : PV), ps[j]? = some p → ∃ v, cells[j]? = some v ∧ RepP w F p v) :
    ∃ F' : Imm, Sim { w with heap := w.heap.push (.cells cells t) } H β F' nx' ∧ Ext w H β F nx { w with heap := w.heap.push (.cells cells t) } H β F' nx' ∧
      (∀ b o, F' b o ↔ F b o ∨ (b = w.heap.size ∧ o < cells.size)) := by
  refine ⟨fun b o => F b o ∨ (b = w.heap.size ∧ o < cells.size), ?_⟩
  have hx : Ext w H β F nx { w with heap := w.heap.push (.cells cells t) } H β (fun b o => F b o ∨ (b = w.heap.size ∧ o < cells.size)) nx' := by
    refine ⟨rfl, rfl, rfl, by simp, hn, fun _ _ h => .inl h, fun b o h => cell_of_heap (alloc_old _ (hs.fin b o h)) o, ?_, ?_, ?_, fun b hb _ => alloc_old _ hb, fun _ _ h => h⟩
    · rintro b o (h | ⟨h, _⟩)
      · exact .inl h
      · exact .inr (.inl (by omega))
    · intro l hl _ ver es st elems h
      refine ⟨ver, st, elems, h, Nat.le_refl _, fun _ => ⟨rfl, Nat.le_refl _, fun hst => ⟨rfl, fun arr ty ha => ⟨arr, ty, ?_, rfl⟩⟩⟩⟩
      rw [alloc_old _ (Array.getElem?_eq_some_iff.1 ha).1]
      exact ha
    · intro l h
      refine .inl ⟨h, ?_, rfl⟩
      obtain ⟨v2, e2, el2, h2⟩ := h
      exact hs.dom _ _ h2
  refine ⟨⟨fun l b h => Nat.lt_of_lt_of_le (hs.dom _ _ h) hn, hs.pos, ?_, hs.inj, ?_, ?_⟩, hx, fun _ _ => Iff.rfl⟩
  · intro l ver es elems h
    obtain ⟨arr, ty, ha, hsz, hr⟩ := hs.row l ver es elems h
    refine ⟨arr, ty, ?_, hsz, fun i j e c h2 h3 => ?_⟩
    · rw [alloc_old _ (Array.getElem?_eq_some_iff.1 ha).1]; exact ha
    · obtain ⟨v, hv, hc⟩ := hr i j e c h2 h3
      exact ⟨v, hv, hc.ext hx⟩
  · rintro l hl o (h | ⟨h, _⟩)
    · exact hs.sep l hl o h
    · have := hs.block_lt hl; omega
  · rintro b o (h | ⟨h, _⟩)
    · have := hs.fin b o h; simp; omega
    · simp; omega

theorem setSeg_length {α : Type} (e : List α) (o : Nat) (cs : List α) (h : o + cs.length ≤ e.length) : (setSeg e o cs).length = e.length := by
  simp [setSeg]; omega
theorem setSeg_get {α : Type} (e : List α) (o : Nat) (cs : List α) (h : o + cs.length ≤ e.length) (j : Nat) :
    (setSeg e o cs)[j]? = if j < o then e[j]? else if j < o + cs.length then cs[j - o]? else e[j]? := by
  unfold setSeg
  by_cases h1 : j < o
  · rw [if_pos h1, List.append_assoc, List.getElem?_append_left (by simp; omega), List.getElem?_take, if_pos h1]
  · rw [if_neg h1]
    by_cases h2 : j < o + cs.length
    · rw [if_pos h2, List.append_assoc, List.getElem?_append_right (by simp; omega), List.getElem?_append_left (by simp; omega)]
      congr 1; simp; omega
    · rw [if_neg h2, List.getElem?_append_right (by simp; omega), List.getElem?_drop]
      congr 1; simp; omega

end
end Go.Ab
end PAb8

section PAb9
/- The framework 'Ab', part 9: literals, variables, stores. -/
set_option linter.unusedVariables false
set_option linter.unusedSimpArgs false
namespace Go.Ab

section
variable {P : Program} {w : World} {F : Imm} {β : Nat → Nat} {H : Heap} {nx : Nat}

/-- Cells as they are told. -/
def RepL (w : World) (F : Imm) (β : Nat → Nat) (H : Heap) (nx : Nat) (cs : List CV) (cells : Array Value) : Prop :=
  cells.size = cs.length ∧ ∀ (j : Nat) (c : CV), cs[j]? = some c → ∃ v, cells[j]? = some v ∧ RepC w F β H nx c v

theorem fold_size (off : Nat) : ∀ (l : List (Value × Nat)) (cells : Array Value), (l.foldl (fun cs (x : Value × Nat) => cs.setIfInBounds (off + x.2) x.1) cells).size = cells.size
  | [], cells => rfl
  | x :: l, cells => by rw [List.foldl_cons, fold_size off l]; simp
theorem fold_get (off : Nat) : ∀ (l : List Value) (n : Nat) (cells : Array Value) (k : Nat), off + n + l.length ≤ cells.size →
    ((l.zipIdx n).foldl (fun cs (x : Value × Nat) => cs.setIfInBounds (off + x.2) x.1) cells)[k]? = if off + n ≤ k ∧ k < off + n + l.length then l[k - (off + n)]? else cells[k]?
  | [], n, cells, k, h => by
    simp only [List.zipIdx_nil, List.foldl_nil, List.length_nil, Nat.add_zero]
    rw [if_neg (by omega)]
  | v :: l, n, cells, k, h => by
    simp only [List.length_cons] at h
    simp only [List.zipIdx_cons, List.foldl_cons]
    rw [fold_get off l (n + 1) _ k (by simp; omega)]
    simp only [List.length_cons]
    by_cases h1 : off + (n + 1) ≤ k ∧ k < off + (n + 1) + l.length
    · rw [if_pos h1, if_pos (by omega)]
      rw [show k - (off + n) = (k - (off + (n + 1))) + 1 by omega, List.getElem?_cons_succ]
    · rw [if_neg h1]
      by_cases h2 : k = off + n
      · subst h2
        rw [if_pos (by omega)]
        simp [Array.getElem?_setIfInBounds]
        omega
      · rw [if_neg (by omega)]
        simp [Array.getElem?_setIfInBounds, Ne.symm h2]

theorem setSeg_rep {cs : List CV} {cells : Array Value} (h : RepL w F β H nx cs cells) {v : Value} {ds : List CV} (hs : v.cells.size = ds.length) (hd : ∀ (j : Nat) (c : CV), ds[j]? = some c → ∃ u, v.cells[j]? = some u ∧ RepC w F β H nx c u)
    {off : Nat} (ho : off + ds.length ≤ cs.length) : RepL w F β H nx (setSeg cs off ds) (v.cells.zipIdx.foldl (fun cs (x : Value × Nat) => cs.setIfInBounds (off + x.2) x.1) cells) := by
  obtain ⟨h1, h2⟩ := h
  have hl : v.cells.toList.length = ds.length := by simpa using hs
  have he : (v.cells.zipIdx.foldl (fun cs (x : Value × Nat) => cs.setIfInBounds (off + x.2) x.1) cells) = ((v.cells.toList.zipIdx 0).foldl (fun cs (x : Value × Nat) => cs.setIfInBounds (off + x.2) x.1) cells) := by
    rw [← Array.foldl_toList]; simp
  rw [he]
  refine ⟨by rw [fold_size, setSeg_length _ _ _ ho, h1], fun j c hj => ?_⟩
  rw [fold_get off _ 0 cells j (by omega)]
  rw [setSeg_get _ _ _ ho] at hj
  simp only [Nat.add_zero]
  by_cases q1 : j < off
  · rw [if_pos q1] at hj
    rw [if_neg (by omega)]
    exact h2 j c hj
  · rw [if_neg q1] at hj
    by_cases q2 : j < off + ds.length
    · rw [if_pos q2] at hj
      rw [if_pos (by omega)]
      obtain ⟨u, hu, hr⟩ := hd _ _ hj
      exact ⟨u, by simpa using hu, hr⟩
    · rw [if_neg q2] at hj
      rw [if_neg (by omega)]
      exact h2 j c hj

theorem fill_ok (place : Nat → Option (Nat × Nat)) : ∀ {aps : List (Nat × Nat × AV)} {cps : List (Nat × Value)} {zero cs : List CV} {cells : Array Value}, RepL w F β H nx zero cells → fillA zero aps = some cs →
    aps.length = cps.length → (∀ (k : Nat) (o n : Nat) (x : AV) (i : Nat) (v : Value), aps[k]? = some (o, n, x) → cps[k]? = some (i, v) → place i = some (o, n) ∧ RepA w F β H nx x v) →
    ∃ cells', Instr.fill place cells cps = some cells' ∧ RepL w F β H nx cs cells'
  | [], [], zero, cs, cells, hz, h, _, _ => by
    simp only [fillA, Option.some.injEq] at h
    subst h
    exact ⟨cells, rfl, hz⟩
  | [], _ :: _, _, _, _, _, _, hl, _ => by simp at hl
  | _ :: _, [], _, _, _, _, _, hl, _ => by simp at hl
  | (o, n, x) :: aps, (i, v) :: cps, zero, cs, cells, hz, h, hl, hr => by
    obtain ⟨hp, hx⟩ := hr 0 o n x i v rfl rfl
    simp only [fillA] at h
    split at h
    · rename_i ds hds
      split at h
      · rename_i hc
        obtain ⟨rfl, hle⟩ := hc
        obtain ⟨hs, hd⟩ := cellsA_rep hx hds
        have hz' := setSeg_rep hz hs hd hle
        obtain ⟨cells', hf, hr'⟩ := fill_ok place hz' h (by simpa using hl) (fun k o n x i v h1 h2 => hr (k + 1) o n x i v (by simpa using h1) (by simpa using h2))
        refine ⟨cells', ?_, hr'⟩
        simp only [Instr.fill, hp]
        rw [if_neg (by have := hz.1; simp only [Bool.or_eq_true, decide_eq_true_eq]; omega)]
        exact hf
      · cases h
    · cases h

theorem build_ok {t : TypeId} {parts : Array (Nat × Value)} {zero cs : List CV} {aps : List (Nat × Nat × AV)} (hz : tZero P t = some zero) (place : Nat → Option (Nat × Nat))
    (hpl : ∀ z cells', (∃ it, P.info? t = some it ∧ it.zero = some z) → Instr.fill place z.cells parts.toList = some cells' → P.built t parts.toList = some cells')
    (h : fillA zero aps = some cs) (hl : aps.length = parts.size) (hr : ∀ (k : Nat) (o n : Nat) (x : AV) (i : Nat) (v : Value), aps[k]? = some (o, n, x) → parts[k]? = some (i, v) → place i = some (o, n) ∧ RepA w F β H nx x v) :
    ∃ u, (Instr.build t parts).run P w = .ok u w ∧ RepA w F β H nx (.agg cs) u := by
  unfold tZero at hz
  split at hz
  · rename_i it hit
    split at hz
    · rename_i z hzz
      obtain ⟨hl0, hr0⟩ := ofCells_rep (w := w) (F := F) (β := β) (H := H) (nx := nx) hz
      have hrep : RepL w F β H nx zero z.cells := by
        refine ⟨by simpa using hl0.symm, fun j c hj => ?_⟩
        have hj' : j < z.cells.size := by have := (List.getElem?_eq_some_iff.1 hj).1; simp at hl0; omega
        exact ⟨z.cells[j], Array.getElem?_eq_getElem hj', hr0 j c _ hj (by simp [Array.getElem?_eq_getElem hj'])⟩
      obtain ⟨cells', hf, hsz, hrc⟩ := fill_ok place hrep h (by rw [hl]; rfl) (fun k o n x i v h1 h2 => hr k o n x i v h1 (by simpa using h2))
      refine ⟨.agg cells', run_build w t parts cells' (hpl z cells' ⟨it, hit, hzz⟩ hf), .agg _ _ hsz (fun j c v hc hv => ?_)⟩
      obtain ⟨v', hv', hrc'⟩ := hrc j c hc
      rw [hv] at hv'
      injection hv' with hv'
      rw [hv']; exact hrc'
    · cases hz
  · cases hz

/-- A zero value's cells. -/
theorem zero_ok {t : TypeId} {zero : List CV} (hz : tZero P t = some zero) : ∃ z, (zeroValue t).run P w = .ok z w ∧ RepL w F β H nx zero z.cells := by
  unfold tZero at hz
  split at hz
  · rename_i it hit
    split at hz
    · rename_i z hzz
      obtain ⟨hl0, hr0⟩ := ofCells_rep (w := w) (F := F) (β := β) (H := H) (nx := nx) hz
      refine ⟨z, by simp [zeroValue, typeInfo, hit, hzz], by simpa using hl0.symm, fun j c hj => ?_⟩
      have hj' : j < z.cells.size := by have := (List.getElem?_eq_some_iff.1 hj).1; simp at hl0; omega
      exact ⟨z.cells[j], Array.getElem?_eq_getElem hj', hr0 j c _ hj (by simp [Array.getElem?_eq_getElem hj'])⟩
    · cases hz
  · cases hz

/-- Elements as they are told. -/
def RepE (w : World) (F : Imm) (β : Nat → Nat) (H : Heap) (nx es : Nat) (elems : List (List CV)) (cells : Array Value) : Prop :=
  cells.size = elems.length * es ∧ (∀ (i : Nat) (e : List CV), elems[i]? = some e → e.length = es) ∧
    ∀ (i j : Nat) (e : List CV) (c : CV), elems[i]? = some e → e[j]? = some c → ∃ v, cells[i * es + j]? = some v ∧ RepC w F β H nx c v

theorem chunks_len {α : Type} (es : Nat) : ∀ (n : Nat) (l : List α), (chunks es n l).length = n
  | 0, _ => rfl
  | n + 1, l => by simp [chunks, chunks_len es n]
theorem chunks_get {α : Type} (es : Nat) : ∀ (n : Nat) (l : List α) (i : Nat) (e : List α), (chunks es n l)[i]? = some e → e = (l.drop (i * es)).take es
  | 0, l, i, e, h => by simp [chunks] at h
  | n + 1, l, i, e, h => by
    cases i with
    | zero => simp [chunks] at h; simp [h]
    | succ i =>
      simp only [chunks, List.getElem?_cons_succ] at h
      rw [chunks_get es n _ i e h, List.drop_drop]
      congr 2
      rw [Nat.add_mul]; omega
theorem chunks_rep {es n : Nat} {cs : List CV} {cells : Array Value} (h : RepL w F β H nx cs cells) (hl : cs.length = n * es) : RepE w F β H nx es (chunks es n cs) cells := by
  refine ⟨by rw [chunks_len, h.1, hl], fun i e he => ?_, fun i j e c he hc => ?_⟩
  · have hi : i < n := by have := (List.getElem?_eq_some_iff.1 he).1; rwa [chunks_len] at this
    rw [chunks_get _ _ _ _ _ he]
    simp only [List.length_take, List.length_drop, hl]
    have : (i + 1) * es ≤ n * es := Nat.mul_le_mul_right _ hi
    rw [Nat.add_mul] at this
    omega
  · rw [chunks_get _ _ _ _ _ he] at hc
    rw [List.getElem?_take] at hc
    split at hc
    · rw [List.getElem?_drop] at hc
      exact h.2 _ _ hc
    · cases hc
theorem one_rep {cs : List CV} {cells : Array Value} (h : RepL w F β H nx cs cells) : RepE w F β H nx cs.length [cs] cells := by
  refine ⟨by simp [h.1], fun i e he => ?_, fun i j e c he hc => ?_⟩
  · cases i with
    | zero => simp at he; rw [← he]
    | succ i => simp at he
  · cases i with
    | zero =>
      simp at he; subst he
      simpa using h.2 j c hc
    | succ i => simp at he

theorem lit_ok {es : Nat} : ∀ {aps : List (Nat × AV)} {cps : List (Nat × Value)} {elems cs : List (List CV)} {cells : Array Value}, RepE w F β H nx es elems cells → litA es elems aps = some cs →
    aps.length = cps.length → (∀ (k i : Nat) (x : AV) (i' : Nat) (v : Value), aps[k]? = some (i, x) → cps[k]? = some (i', v) → i' = i ∧ RepA w F β H nx x v) →
    ∃ cells', Instr.fill (fun i => some (i * es, es)) cells cps = some cells' ∧ RepE w F β H nx es cs cells'
  | [], [], elems, cs, cells, hz, h, _, _ => by
    simp only [litA, Option.some.injEq] at h
    subst h
    exact ⟨cells, rfl, hz⟩
  | [], _ :: _, _, _, _, _, _, hl, _ => by simp at hl
  | _ :: _, [], _, _, _, _, _, hl, _ => by simp at hl
  | (i, x) :: aps, (i', v) :: cps, elems, cs, cells, hz, h, hl, hr => by
    obtain ⟨rfl, hx⟩ := hr 0 i x i' v rfl rfl
    simp only [litA] at h
    split at h
    · rename_i ds hds
      split at h
      · rename_i hc
        obtain ⟨hdl, hlt⟩ := hc
        obtain ⟨hs, hd⟩ := cellsA_rep hx hds
        have hle : (i' + 1) * es ≤ elems.length * es := Nat.mul_le_mul_right _ hlt
        rw [Nat.add_mul] at hle
        have he : (v.cells.zipIdx.foldl (fun cs (x : Value × Nat) => cs.setIfInBounds (i' * es + x.2) x.1) cells) = ((v.cells.toList.zipIdx 0).foldl (fun cs (x : Value × Nat) => cs.setIfInBounds (i' * es + x.2) x.1) cells) := by
          rw [← Array.foldl_toList]; simp
        have hvl : v.cells.toList.length = es := by rw [← hdl, ← hs]; simp
        have hz' : RepE w F β H nx es (elems.set i' ds) (v.cells.zipIdx.foldl (fun cs (x : Value × Nat) => cs.setIfInBounds (i' * es + x.2) x.1) cells) := by
          rw [he]
          refine ⟨by rw [fold_size, hz.1]; simp, fun k e hk => ?_, fun k j e c hk hj => ?_⟩
          · rw [List.getElem?_set] at hk
            split at hk
            · injection hk with hk; rw [← hk, hdl]
            · exact hz.2.1 k e hk
          · rw [fold_get _ _ 0 cells _ (by rw [hvl, hz.1]; omega)]
            simp only [Nat.add_zero, hvl]
            rw [List.getElem?_set] at hk
            split at hk
            · rename_i hik
              subst hik
              injection hk with hk; subst hk
              have hj' : j < es := by rw [← hdl]; exact (List.getElem?_eq_some_iff.1 hj).1
              rw [if_pos (by omega)]
              obtain ⟨u, hu, hrc⟩ := hd j c hj
              refine ⟨u, ?_, hrc⟩
              rw [Nat.add_sub_cancel_left]
              simpa using hu
            · rename_i hik
              have hj' : j < es := by rw [← hz.2.1 k e hk]; exact (List.getElem?_eq_some_iff.1 hj).1
              rw [if_neg ?_]
              · exact hz.2.2 k j e c hk hj
              · rintro ⟨q1, q2⟩
                rcases Nat.lt_or_ge k i' with q | q
                · have : (k + 1) * es ≤ i' * es := Nat.mul_le_mul_right _ q
                  rw [Nat.add_mul] at this; omega
                · have : (i' + 1) * es ≤ k * es := Nat.mul_le_mul_right _ (by omega)
                  rw [Nat.add_mul] at this; omega
        obtain ⟨cells', hf, hr'⟩ := lit_ok hz' h (by simpa using hl) (fun k i x i' v h1 h2 => hr (k + 1) i x i' v (by simpa using h1) (by simpa using h2))
        refine ⟨cells', ?_, hr'⟩
        simp only [Instr.fill]
        rw [if_neg (by have := hz.1; simp only [Bool.or_eq_true, decide_eq_true_eq]; omega)]
        exact hf
      · cases h
    · cases h

end
end Go.Ab
end PAb9

section PAb10
/- The framework 'Ab', part 10: stores, append, copy. -/
set_option linter.unusedVariables false
set_option linter.unusedSimpArgs false
namespace Go.Ab

section
variable {P : Program} {w : World} {F : Imm} {β : Nat → Nat} {H : Heap} {nx : Nat}

theorem RepP.one {p : PV} {v : Value} (h : RepP w F p v) : v.oneCell' = true := by cases h <;> rfl
theorem RepC.one {c : CV} {v : Value} (h : RepC w F β H nx c v) : v.oneCell' = true := by
  cases h with
  | p p v h => exact h.one
  | _ => rfl

theorem ver_le {l ver off len : Nat} {v : Value} (hx : RepA w F β H nx (.c (.ref l ver off len)) v) : l < nx ∧ ∀ ver0 es0 st0 elems0, H l = some (.row ver0 es0 st0 elems0) → ver ≤ ver0 := by
  cases hx with | c c v hx => cases hx with | ref _ _ _ _ _ _ _ hl hv _ => exact ⟨hl.1, hv⟩

/-- A piece of a row is laid anew. -/
theorem rowSet_ok (hs : Sim w H β F nx) {nx' l ver es : Nat} {elems elems' : List (List CV)} (hrow : H l = some (.row ver es .own elems)) (hn : nx ≤ nx') {p : Nat} {vs : List Value}
    (h1 : ∀ v ∈ vs, v.oneCell' = true) (hle : p + vs.length ≤ elems.length * es) (hlen : elems'.length = elems.length) (hes : ∀ (i : Nat) (e : List CV), elems'[i]? = some e → e.length = es)
    (hin : ∀ (i j : Nat) (e : List CV) (c : CV), elems'[i]? = some e → e[j]? = some c → p ≤ i * es + j → i * es + j < p + vs.length → ∃ v, vs[i * es + j - p]? = some v ∧ RepC w F β H nx c v)
    (hout : ∀ (i j : Nat) (e : List CV) (c : CV), elems'[i]? = some e → e[j]? = some c → ¬ (p ≤ i * es + j ∧ i * es + j < p + vs.length) → ∃ e0, elems[i]? = some e0 ∧ e0[j]? = some c) :
    ∃ w', (storeCells ⟨β l, p, none⟩ vs).run P w = .ok () w' ∧ Sim w' (upd H l (.row ver es .own elems')) (updN β l (β l)) F nx' ∧ Ext w H β F nx w' (upd H l (.row ver es .own elems')) (updN β l (β l)) F nx' := by
  obtain ⟨arr, ty, ha, hsz, hr⟩ := hs.row _ _ _ _ hrow
  have hpos := hs.pos _ _ _ _ _ hrow
  have hst := run_storeCells_at P (β l) p ty vs 0 arr w ha (by omega) h1
  refine ⟨_, hst, ?_⟩
  simp only [Nat.add_zero]
  have hw := setRow_heap w (β l) arr (arr.toList.take p ++ vs ++ arr.toList.drop (p + vs.length)).toArray ty (0, 0) ha
  have hasz : (arr.toList.take p ++ vs ++ arr.toList.drop (p + vs.length)).toArray.size = arr.size := by simp; omega
  have hget : ∀ k, (arr.toList.take p ++ vs ++ arr.toList.drop (p + vs.length)).toArray[k]? = if k < p then arr[k]? else if k < p + vs.length then vs[k - p]? else arr[k]? := by
    intro k
    have := setSeg_get arr.toList p vs (by simp; omega) k
    unfold setSeg at this
    simpa using this
  refine simPut hs l (β l) ver es elems' _ ty rfl rfl rfl hw (fun b hb _ => setRow_other w (β l) b _ hb) (by simp [World.setRow]) (.inr ⟨⟨_, _, _, hrow⟩, rfl⟩) hpos.1 hes ?_ ?_ (.inr ⟨hs.dom _ _ hrow, ver, .own, elems, hrow, .inr ⟨rfl, rfl, ?_, rfl, ?_⟩⟩) hn (Nat.lt_of_lt_of_le (hs.dom _ _ hrow) hn)
  · rw [hasz, hlen]; exact hsz
  · intro i j e c he hc
    rw [hget]
    by_cases q : p ≤ i * es + j ∧ i * es + j < p + vs.length
    · rw [if_neg (by omega), if_pos q.2]
      exact hin i j e c he hc q.1 q.2
    · obtain ⟨e0, he0, hc0⟩ := hout i j e c he hc q
      by_cases q1 : i * es + j < p
      · rw [if_pos q1]; exact hr i j e0 c he0 hc0
      · rw [if_neg q1, if_neg (by omega)]; exact hr i j e0 c he0 hc0
  · omega
  · intro arr' ty' ha'
    rw [ha] at ha'
    injection ha' with ha'
    injection ha' with ha'
    rw [← ha', hasz]

theorem store_ok (hs : Sim w H β F nx) {t : TypeId} {n : Nat} (hn : tSize P t = some n) {x y : AV} {v u : Value} (hx : RepA w F β H nx x v) (hy : RepA w F β H nx y u) {al : Nat} {r : Res} (h : storeA n x y H = some r) :
    OpOk P w H β F nx (do Instr.storeAt t v u; pure .skip) al r := by
  unfold storeA at h
  split at h
  · rename_i l ver i o cs hcs
    split at h
    · rename_i ver' es elems hrow
      split at h
      · rename_i e he
        split at h
        · rename_i hc
          obtain ⟨rfl, rfl, hle⟩ := hc
          injection h with h; subst h
          obtain rfl := ptr_inv hx hrow
          obtain ⟨hcsz, hcr⟩ := cellsA_rep hy hcs
          have hel := (hs.pos _ _ _ _ _ hrow).2.1 i e he
          have hi : i < elems.length := (List.getElem?_eq_some_iff.1 he).1
          have hbound : (i + 1) * es ≤ elems.length * es := Nat.mul_le_mul_right _ hi
          rw [Nat.add_mul] at hbound
          have hul : u.cells.toList.length = cs.length := by simpa using hcsz
          have main := fun nx' (hnx : nx ≤ nx') => rowSet_ok (P := P) hs (nx' := nx') (elems' := elems.set i (setSeg e o cs)) hrow hnx (p := i * es + o) (vs := u.cells.toList) (by
              intro v hv
              obtain ⟨k, hk, rfl⟩ := List.getElem_of_mem hv
              have hk' : k < cs.length := by omega
              obtain ⟨v', hv', hr'⟩ := hcr k cs[k] (List.getElem?_eq_getElem hk')
              have : u.cells.toList[k] = v' := by
                have h1 : u.cells.toList[k]? = some v' := by simpa using hv'
                rw [List.getElem?_eq_getElem hk] at h1
                injection h1
              rw [this]; exact hr'.one) (by omega) (by simp) (by
              intro k e' hk
              rw [List.getElem?_set] at hk
              split at hk
              · injection hk with hk
                rw [← hk, setSeg_length _ _ _ hle, hel]
              · exact (hs.pos _ _ _ _ _ hrow).2.1 k e' hk) (by
              intro k j e' c hk hj q1 q2
              rw [hul] at q2
              have hki : k = i := by
                have hj' : j < es := by
                  have : e'.length = es := by
                    rw [List.getElem?_set] at hk
                    split at hk
                    · injection hk with hk; rw [← hk, setSeg_length _ _ _ hle, hel]
                    · exact (hs.pos _ _ _ _ _ hrow).2.1 k e' hk
                  rw [← this]; exact (List.getElem?_eq_some_iff.1 hj).1
                rcases Nat.lt_trichotomy k i with q | q | q
                · have : (k + 1) * es ≤ i * es := Nat.mul_le_mul_right _ q
                  rw [Nat.add_mul] at this; omega
                · exact q
                · have : (i + 1) * es ≤ k * es := Nat.mul_le_mul_right _ q
                  rw [Nat.add_mul] at this; omega
              subst hki
              rw [List.getElem?_set, if_pos rfl, if_pos hi] at hk
              injection hk with hk
              subst hk
              rw [setSeg_get _ _ _ hle] at hj
              rw [if_neg (by omega), if_pos (by omega)] at hj
              obtain ⟨v', hv', hr'⟩ := hcr _ _ hj
              refine ⟨v', ?_, hr'⟩
              rw [show k * es + j - (k * es + o) = j - o by omega]
              simpa using hv') (by
              intro k j e' c hk hj q
              rw [hul] at q
              rw [List.getElem?_set] at hk
              split at hk
              · rename_i hik
                subst hik
                injection hk with hk
                subst hk
                rw [setSeg_get _ _ _ hle] at hj
                refine ⟨e, he, ?_⟩
                by_cases q1 : j < o
                · rwa [if_pos q1] at hj
                · rw [if_neg q1, if_neg (by omega)] at hj
                  exact hj
              · exact ⟨e', hk, hj⟩)
          obtain ⟨w', hrun, _⟩ := main nx (Nat.le_refl _)
          refine ⟨.skip, undef, w', updN β l (β l), F, ?_, .inr ⟨rfl, rfl⟩, fun nx' hnx _ => ?_⟩
          · simp only [Instr.storeAt, Instr.sureAddr, storeVar, Sem.run_bind, Sem.run_pure, Result.andThen_ok, run_sizeOf w hn]
            rw [if_neg (by simp [hcsz])]
            simp only [hrun, Result.andThen_ok]
          · obtain ⟨w'', hrun', hsim, hext⟩ := main nx' hnx
            rw [hrun] at hrun'
            injection hrun' with _ hrun'
            subst hrun'
            exact ⟨hsim, hext, .tup _ _ rfl (fun j a v h => by simp at h)⟩
        · cases h
      · cases h
    · cases h
  · cases h

theorem nilChk_run {o : Oper} {ε : Operand → Value} {x : Operand} (ho : o.op = .nilCheck x) {v : Value} (hv : ε x = v) (hok : (∃ a, v = .pointer (some a)) ∨ ∃ f us vs, v = .func (.func f) us vs) :
    (execOp ε o).run P w = .ok (.value v) w := by
  unfold execOp
  rw [ho]
  simp only [hv]
  rcases hok with ⟨a, rfl⟩ | ⟨f, us, vs, rfl⟩ <;> rfl

theorem nilChkA_ok {x y : AV} {v : Value} (hx : RepA w F β H nx x v) (h : nilChkA x H = some y) : y = x ∧ ((∃ a, v = .pointer (some a)) ∨ ∃ f us vs, v = .func (.func f) us vs) := by
  unfold nilChkA at h
  split at h
  · injection h with h
    obtain ⟨a, vs, rfl, _⟩ := pptr_inv hx
    exact ⟨h.symm, .inl ⟨_, rfl⟩⟩
  · injection h with h
    cases hx with | c c v hx => cases hx with | p p v hx => cases hx; exact ⟨h.symm, .inr ⟨_, _, _, rfl⟩⟩
  · injection h with h
    cases hx with | c c v hx => cases hx; exact ⟨h.symm, .inr ⟨_, _, _, rfl⟩⟩
  · split at h
    · rename_i q hro
      obtain ⟨es, elems⟩ := q
      injection h with h
      obtain rfl := ptr_inv hx (rowOf_inv hro)
      exact ⟨h.symm, .inl ⟨_, rfl⟩⟩
    · cases h
  · cases h

/-- What is appended, or copied: as many elements as are asked for. -/
theorem content_ok (hs : Sim w H β F nx) {es : Nat} {y : AV} {v : Value} {ys : List (List CV)} (hy : RepA w F β H nx y v) (h : content es y H = some ys) :
    ∃ news : Nat → Array Value, (∀ w', w'.heap = w.heap → (Builtin.lenOf v).run P w' = .ok ys.length w') ∧
      ∀ m, m ≤ ys.length → (∀ w', w'.heap = w.heap → (Builtin.firstCells es m v).run P w' = .ok (news m) w') ∧ RepE w F β H nx es (ys.take m) (news m) := by
  unfold content at h
  split at h
  · injection h with h; subst h
    obtain rfl := nil_inv hy
    refine ⟨fun _ => #[], fun w' _ => rfl, fun m hm => ⟨fun w' _ => rfl, ?_⟩⟩
    refine ⟨by simp, fun i e he => by simp at he, fun i j e c he => by simp at he⟩
  · rename_i es' full elems
    split at h
    · rename_i he; subst he
      injection h with h; subst h
      obtain ⟨a, cap, vs, rfl, hcap, hfull, hes, hc, hr⟩ := sl_inv hy
      refine ⟨fun m => ((List.range (m * es)).map vs).toArray, fun w' _ => by simp [Builtin.lenOf], fun m hm => ⟨fun w' hw' => ?_, ?_⟩⟩
      · simp only [List.length_map] at hm
        refine run_firstCells_some w' es m a elems.length cap ((List.range (m * es)).map vs) (by simp) (fun j u hu => ?_)
        obtain ⟨hj, rfl⟩ := List.getElem?_eq_some_iff.1 hu
        simp only [List.length_map, List.length_range] at hj
        have hlt : j < elems.length * es := Nat.lt_of_lt_of_le hj (Nat.mul_le_mul_right _ hm)
        have q := hc j hlt
        have e1 : w'.cell? ⟨a.block, a.off + j, none⟩ = w.cell? ⟨a.block, a.off + j, none⟩ := cell_of_heap (by rw [hw']) _
        rw [addr_add q.1, e1, q.2.1]
        simp
      · simp only [List.length_map] at hm
        refine ⟨by simp [Nat.min_eq_left hm], fun i e he => ?_, fun i j e c he hce => ?_⟩
        · rw [List.getElem?_take] at he
          split at he
          · simp only [List.getElem?_map, Option.map_eq_some_iff] at he
            obtain ⟨e0, he0, rfl⟩ := he
            simpa using hes i e0 he0
          · cases he
        · rw [List.getElem?_take] at he
          split at he
          · rename_i him
            simp only [List.getElem?_map, Option.map_eq_some_iff] at he
            obtain ⟨e0, he0, rfl⟩ := he
            simp only [List.getElem?_map, Option.map_eq_some_iff] at hce
            obtain ⟨p, hp, rfl⟩ := hce
            have hj : j < es := by rw [← hes i e0 he0]; exact (List.getElem?_eq_some_iff.1 hp).1
            refine ⟨vs (i * es + j), ?_, .p _ _ (hr i j e0 p he0 hp)⟩
            simp [List.getElem?_range (idx_lt him hj)]
          · cases he
    · cases h
  · rename_i s
    split at h
    · rename_i he; subst he
      injection h with h; subst h
      obtain rfl := str_inv hy
      have hsz : (⟨s.toArray⟩ : ByteArray).size = s.length := by simp [ByteArray.size]
      refine ⟨fun m => ((⟨s.toArray⟩ : ByteArray).extract 0 m).data.map fun b => .int .u8 b.toNat, fun w' _ => by simp [Builtin.lenOf, hsz], fun m hm => ⟨fun w' hw' => rfl, ?_⟩⟩
      simp only [List.length_map] at hm
      refine ⟨by simp [ByteArray.data_extract], fun i e he => ?_, fun i j e c he hce => ?_⟩
      · rw [List.getElem?_take] at he
        split at he
        · simp only [List.getElem?_map, Option.map_eq_some_iff] at he
          obtain ⟨e0, he0, rfl⟩ := he; rfl
        · cases he
      · rw [List.getElem?_take] at he
        split at he
        · rename_i him
          simp only [List.getElem?_map, Option.map_eq_some_iff] at he
          obtain ⟨b, hb, rfl⟩ := he
          cases j with
          | zero =>
            simp only [List.getElem?_cons_zero, Option.some.injEq] at hce
            subst hce
            refine ⟨.int .u8 b.toNat, ?_, .p _ _ (.int _ _)⟩
            obtain ⟨hlt, hbe⟩ := List.getElem?_eq_some_iff.1 hb
            simp [ByteArray.data_extract, Array.getElem?_extract, him, hb]
          | succ j => simp at hce
        · cases he
    · cases h
  · rename_i l ver off len
    split at h
    · rename_i ver' es' st elems hrow
      split at h
      · rename_i hc
        obtain ⟨rfl, rfl, hle⟩ := hc
        injection h with h; subst h
        obtain ⟨hl, r1, r2, r3, r4⟩ := ref_inv hy hrow
        by_cases hst : st = .own
        · subst hst
          obtain ⟨a, cap, rfl, hcap, ha, arr, ty, harr, hsz⟩ := r4 rfl
          obtain ⟨arr', ty', harr', hle', hr⟩ := hs.row _ _ _ _ hrow
          rw [harr] at harr'
          injection harr' with harr'
          injection harr' with harr'
          subst harr'
          have hlen : ((elems.drop off).take len).length = len := by simp; omega
          refine ⟨fun m => ((List.range (m * es)).map fun j => arr.getD (off * es + j) undef).toArray, fun w' _ => by simp [Builtin.lenOf]; omega, fun m hm => ⟨fun w' hw' => ?_, ?_⟩⟩
          · rw [hlen] at hm
            rcases Nat.eq_zero_or_pos m with h0 | h0
            · subst h0
              exact run_firstCells_some w' es 0 a len cap ((List.range (0 * es)).map fun j => arr.getD (off * es + j) undef) (by simp) (fun j u hu => by simp at hu)
            · refine run_firstCells_some w' es m a len cap ((List.range (m * es)).map fun j => arr.getD (off * es + j) undef) (by simp) (fun j u hu => ?_)
              obtain ⟨hj, rfl⟩ := List.getElem?_eq_some_iff.1 hu
              simp only [List.length_map, List.length_range] at hj
              have hlt : off * es + j < arr.size := by
                have q1 : m * es ≤ len * es := Nat.mul_le_mul_right _ hm
                have q2 : (off + len) * es ≤ elems.length * es := Nat.mul_le_mul_right _ hle
                rw [Nat.add_mul] at q2
                omega
              rw [ha (by omega), addr_add rfl]
              simp [World.cell?, hw', harr, Array.getElem?_eq_getElem hlt, Array.getD_eq_getD_getElem?]
          · rw [hlen] at hm
            refine ⟨by simp; rw [Nat.min_eq_left (by omega : len ≤ elems.length - off), Nat.min_eq_left hm], fun i e he => ?_, fun i j e c he hce => ?_⟩
            · rw [List.getElem?_take] at he
              split at he
              · rw [List.getElem?_take] at he
                split at he
                · rw [List.getElem?_drop] at he
                  exact (hs.pos _ _ _ _ _ hrow).2.1 _ e he
                · cases he
              · cases he
            · rw [List.getElem?_take] at he
              split at he
              · rename_i him
                rw [List.getElem?_take] at he
                split at he
                · rw [List.getElem?_drop] at he
                  have hj : j < es := by rw [← (hs.pos _ _ _ _ _ hrow).2.1 _ e he]; exact (List.getElem?_eq_some_iff.1 hce).1
                  obtain ⟨v, hv, hrv⟩ := hr _ j e c he hce
                  refine ⟨v, ?_, hrv⟩
                  rw [Nat.add_mul, Nat.add_assoc] at hv
                  simp [List.getElem?_range (idx_lt him hj), Array.getD_eq_getD_getElem?, hv]
                · cases he
              · cases he
        · have hel := (hs.pos _ _ _ _ _ hrow).2.2 hst
          subst hel
          simp only [List.length_nil] at hle
          obtain ⟨rfl, rfl⟩ : off = 0 ∧ len = 0 := by omega
          refine ⟨fun _ => #[], ?_, ?_⟩
          · intro w' _
            cases st with
            | own => exact absurd rfl hst
            | nil => obtain rfl := r2 rfl; rfl
            | emp => obtain ⟨a, rfl⟩ := r3 rfl; rfl
          · intro m hm
            simp only [List.drop_nil, List.take_nil, List.length_nil, Nat.le_zero] at hm
            subst hm
            refine ⟨fun w' _ => ?_, by simp, fun i e he => by simp at he, fun i j e c he => by simp at he⟩
            cases st with
            | own => exact absurd rfl hst
            | nil => obtain rfl := r2 rfl; rfl
            | emp =>
              obtain ⟨a, rfl⟩ := r3 rfl
              simp [Builtin.firstCells, loadCells, loadCellsFrom]
      · cases h
    · cases h
  · cases h

end
end Go.Ab
end PAb10

section PAb11
/- The framework 'Ab', part 11: append and copy. -/
set_option linter.unusedVariables false
set_option linter.unusedSimpArgs false
namespace Go.Ab

section
variable {P : Program} {w : World} {F : Imm} {β : Nat → Nat} {H : Heap} {nx : Nat}

def notInt : TypeDesc → Bool
  | .slice _ => true
  | .string => true
  | _ => false

set_option maxHeartbeats 1000000

theorem run_append_in {t t2 e ty : TypeId} {i : TypeInfo} {d2 : TypeDesc} (ht : P.underlying t = some (.slice e)) (hi : P.info? e = some i) (ht2 : P.underlying t2 = some d2) (hd2 : notInt d2 = true)
    (base : Option Addr) (sLen sCap n : Nat) (v : Value) (news : Array Value) (hlen : (Builtin.lenOf v).run P w = .ok n w) (hn : sLen + n ≤ sCap) (hf : (Builtin.firstCells i.size n v).run P w = .ok news w) :
    (Builtin.append_ #[t, t2] ty #[.slice base sLen sCap, v]).run P w =
      match base with
      | some a => ((storeCells (a.add (sLen * i.size)) news.toList).run P w).andThen fun _ w' => .ok (.slice base (sLen + n) sCap) w'
      | none => .ok (.slice none (sLen + n) sCap) w := by
  cases d2 <;> first
    | (simp [notInt] at hd2; done)
    | (simp [Builtin.append_, run_underlying ht, run_underlying ht2, sizeOf, typeInfo, hi, hlen, hn, hf]; cases base <;> simp)

theorem run_append_out {t t2 e ty : TypeId} {i : TypeInfo} {z : Value} {d2 : TypeDesc} (ht : P.underlying t = some (.slice e)) (hi : P.info? e = some i) (hz : i.zero = some z) (ht2 : P.underlying t2 = some d2) (hd2 : notInt d2 = true)
    (base : Option Addr) (sLen sCap n : Nat) (v : Value) (olds news : Array Value) (hlen : (Builtin.lenOf v).run P w = .ok n w) (hn : sCap < sLen + n)
    (hb : (sLen + n) * i.bytes ≤ 140737488355328) (h63 : sLen + n ≤ 9223372036854775807)
    (hfo : (Builtin.firstCells i.size sLen (.slice base sLen sCap)).run P w.drew = .ok olds w.drew)
    (hf : (Builtin.firstCells i.size n v).run P w.drew = .ok news w.drew) :
    ∃ cap rest, sLen + n ≤ cap ∧ rest.size = (cap - (sLen + n)) * z.cells.size ∧ (Builtin.append_ #[t, t2] ty #[.slice base sLen sCap, v]).run P w =
      .ok (.slice (some ⟨w.heap.size, 0, none⟩) (sLen + n) cap) (w.drew.alloc (.cells (olds ++ news ++ rest) e)) := by
  refine ⟨grownCap w (sLen + n) sCap e, Builtin.zeroCells z.cells (grownCap w (sLen + n) sCap e - (sLen + n)), grownCap_ge _ _ _ _, size_zeroCells _ _, ?_⟩
  have hn' : ¬ (sLen + n ≤ sCap) := by omega
  have h63' : ¬ (9223372036854775807 < ((sLen : Int) + (n : Int))) := by omega
  have h48' : ¬ (281474976710656 < Builtin.nextslicecap (sLen + n) sCap * i.bytes) := by have := growslice_fits hn hb; omega
  cases d2 <;> first
    | (simp [notInt] at hd2; done)
    | (simp [Builtin.append_, run_underlying ht, run_underlying ht2, sizeOf, typeInfo, zeroValue, hi, hz, hlen, hn', h63', h48', Question.forced, hf, hfo, newRow, grownCap])

theorem repE_append {es : Nat} {a b : List (List CV)} {x y : Array Value} (ha : RepE w F β H nx es a x) (hb : RepE w F β H nx es b y) (rest : Array Value) :
    (∀ (i : Nat) (e : List CV), (a ++ b)[i]? = some e → e.length = es) ∧ (a ++ b).length * es ≤ (x ++ y ++ rest).size ∧
    ∀ (i j : Nat) (e : List CV) (c : CV), (a ++ b)[i]? = some e → e[j]? = some c → ∃ v, (x ++ y ++ rest)[i * es + j]? = some v ∧ RepC w F β H nx c v := by
  obtain ⟨a1, a2, a3⟩ := ha
  obtain ⟨b1, b2, b3⟩ := hb
  have hl : ∀ (i : Nat) (e : List CV), (a ++ b)[i]? = some e → e.length = es := by
    intro i e he
    rw [List.getElem?_append] at he
    split at he
    · exact a2 i e he
    · exact b2 _ e he
  refine ⟨hl, by simp [a1, b1, Nat.add_mul], fun i j e c he hc => ?_⟩
  have hj : j < es := by rw [← hl i e he]; exact (List.getElem?_eq_some_iff.1 hc).1
  rw [List.getElem?_append] at he
  split at he
  · rename_i hi
    obtain ⟨v, hv, hr⟩ := a3 i j e c he hc
    refine ⟨v, ?_, hr⟩
    have := idx_lt hi hj
    rw [Array.append_assoc, Array.getElem?_append_left (by rw [a1]; exact this)]
    exact hv
  · rename_i hi
    obtain ⟨v, hv, hr⟩ := b3 _ j e c he hc
    refine ⟨v, ?_, hr⟩
    have hlt := (Array.getElem?_eq_some_iff.1 hv).1
    have e1 : (i - a.length) * es + j = i * es + j - x.size := by rw [a1, Nat.sub_mul]; have := Nat.mul_le_mul_right es (Nat.le_of_not_lt hi); omega
    have hle : a.length * es ≤ i * es := Nat.mul_le_mul_right es (Nat.le_of_not_lt hi)
    rw [Array.append_assoc, Array.getElem?_append_right (by rw [a1]; omega), ← e1, Array.getElem?_append_left hlt]
    exact hv

/-- What the new block of an append comes to. -/
theorem growOut (hs : Sim w H β F nx) {nx' l ver' es : Nat} {a b : List (List CV)} {x y rest : Array Value} (ha : RepE w F β H nx es a x) (hb : RepE w F β H nx es b y) (hes : 0 < es) (d : Nat) (t : TypeId)
    (hver : Al H nx l ∨ (l < nx ∧ ∃ ver st elems, H l = some (.row ver es st elems) ∧ ver < ver')) (hn : nx ≤ nx') (hl : l < nx') :
    Sim { w with drawn := d, heap := w.heap.push (.cells (x ++ y ++ rest) t) } (upd H l (.row ver' es .own (a ++ b))) (updN β l w.heap.size) F nx' ∧
    Ext w H β F nx { w with drawn := d, heap := w.heap.push (.cells (x ++ y ++ rest) t) } (upd H l (.row ver' es .own (a ++ b))) (updN β l w.heap.size) F nx' := by
  obtain ⟨r1, r2, r3⟩ := repE_append ha hb rest
  refine simPut hs l w.heap.size ver' es (a ++ b) (x ++ y ++ rest) t rfl rfl rfl (by simp) (fun b _ hb => ?_) (by simp) (.inl (Nat.le_refl _)) hes r1 r2 r3 ?_ hn hl
  · show (w.heap.push _)[b]? = _
    rw [Array.getElem?_push, if_neg (by omega)]
  · rcases hver with h | ⟨h1, ver, st, elems, h2, h3⟩
    · exact .inl h
    · exact .inr ⟨h1, ver, st, elems, h2, .inl h3⟩

/-- In place. -/
theorem growIn (hs : Sim w H β F nx) {l ver es : Nat} {elems ys : List (List CV)} {arr news : Array Value} {ty : TypeId} (hrow : H l = some (.row ver es .own elems)) (harr : w.heap[β l]? = some (.cells arr ty (0, 0)))
    (hE : RepE w F β H nx es ys news) (hfit : (elems.length + ys.length) * es ≤ arr.size) :
    ∃ w' arr', (storeCells ⟨β l, elems.length * es, none⟩ news.toList).run P w = .ok () w' ∧ w'.heap[β l]? = some (.cells arr' ty (0, 0)) ∧ arr'.size = arr.size ∧
      ∀ nx', nx ≤ nx' → Sim w' (upd H l (.row (ver + 1) es .own (elems ++ ys))) (updN β l (β l)) F nx' ∧ Ext w H β F nx w' (upd H l (.row (ver + 1) es .own (elems ++ ys))) (updN β l (β l)) F nx' := by
  obtain ⟨n1, n2, n3⟩ := hE
  have hpos := hs.pos _ _ _ _ _ hrow
  obtain ⟨arr0, ty0, harr0, hle0, hr⟩ := hs.row _ _ _ _ hrow
  rw [harr] at harr0
  injection harr0 with harr0
  injection harr0 with q1 q2
  subst q1
  rw [Nat.add_mul] at hfit
  have hnl : news.toList.length = ys.length * es := by simpa using n1
  have hone : ∀ v ∈ news.toList, v.oneCell' = true := by
    intro v hv
    obtain ⟨k, hk, rfl⟩ := List.getElem_of_mem hv
    have hk' : k < ys.length * es := by omega
    have hi : k / es < ys.length := Nat.div_lt_of_lt_mul (by rw [Nat.mul_comm]; exact hk')
    have hj : k % es < es := Nat.mod_lt _ hpos.1
    have hel := n2 _ _ (List.getElem?_eq_getElem hi)
    obtain ⟨v', hv', hr'⟩ := n3 (k / es) (k % es) _ _ (List.getElem?_eq_getElem hi) (List.getElem?_eq_getElem (by rw [hel]; exact hj))
    rw [Nat.div_add_mod' k es] at hv'
    have h1 : news.toList[k]? = some v' := by simpa using hv'
    rw [List.getElem?_eq_getElem hk] at h1
    injection h1 with h1
    rw [h1]; exact hr'.one
  have hst := run_storeCells_at P (β l) (elems.length * es) ty news.toList 0 arr w harr (by omega) hone
  simp only [Nat.add_zero] at hst
  have hw := setRow_heap w (β l) arr (arr.toList.take (elems.length * es) ++ news.toList ++ arr.toList.drop (elems.length * es + news.toList.length)).toArray ty (0, 0) harr
  have hasz : (arr.toList.take (elems.length * es) ++ news.toList ++ arr.toList.drop (elems.length * es + news.toList.length)).toArray.size = arr.size := by simp; simp at hnl; omega
  refine ⟨_, _, hst, hw, hasz, fun nx' hn => ?_⟩
  have hget : ∀ k, (arr.toList.take (elems.length * es) ++ news.toList ++ arr.toList.drop (elems.length * es + news.toList.length)).toArray[k]? = if k < elems.length * es then arr[k]? else if k < elems.length * es + news.toList.length then news.toList[k - elems.length * es]? else arr[k]? := by
    intro k
    have := setSeg_get arr.toList (elems.length * es) news.toList (by simp; simp at hnl; omega) k
    unfold setSeg at this
    simpa using this
  have hl' : ∀ (i : Nat) (e : List CV), (elems ++ ys)[i]? = some e → e.length = es := by
    intro i e he
    rw [List.getElem?_append] at he
    split at he
    · exact hpos.2.1 i e he
    · exact n2 _ e he
  refine simPut hs l (β l) (ver + 1) es (elems ++ ys) _ ty rfl rfl rfl hw (fun b hb _ => setRow_other w (β l) b _ hb) (by simp [World.setRow]) (.inr ⟨⟨_, _, _, hrow⟩, rfl⟩) hpos.1 hl' ?_ ?_ (.inr ⟨hs.dom _ _ hrow, ver, .own, elems, hrow, .inl (by omega)⟩) hn (Nat.lt_of_lt_of_le (hs.dom _ _ hrow) hn)
  · rw [hasz, List.length_append, Nat.add_mul]; exact hfit
  · intro i j e c he hc
    rw [hget]
    have hj : j < es := by rw [← hl' i e he]; exact (List.getElem?_eq_some_iff.1 hc).1
    rw [List.getElem?_append] at he
    split at he
    · rename_i hi
      rw [if_pos (idx_lt hi hj)]
      exact hr i j e c he hc
    · rename_i hi
      have hle : elems.length * es ≤ i * es := Nat.mul_le_mul_right es (Nat.le_of_not_lt hi)
      obtain ⟨v, hv, hrv⟩ := n3 _ j e c he hc
      have hlt := (Array.getElem?_eq_some_iff.1 hv).1
      have e1 : (i - elems.length) * es + j = i * es + j - elems.length * es := by rw [Nat.sub_mul]; omega
      refine ⟨v, ?_, hrv⟩
      rw [if_neg (by omega), if_pos (by rw [hnl, ← n1]; omega), ← e1]
      simpa using hv

/-- Elements are laid over others. -/
theorem rowPut_ok (hs : Sim w H β F nx) {nx' l ver es off : Nat} {elems ys : List (List CV)} {news : Array Value} (hrow : H l = some (.row ver es .own elems)) (hn : nx ≤ nx') (hE : RepE w F β H nx es ys news) (hle : off + ys.length ≤ elems.length) :
    ∃ w', (storeCells ⟨β l, off * es, none⟩ news.toList).run P w = .ok () w' ∧ Sim w' (upd H l (.row ver es .own (setSeg elems off ys))) (updN β l (β l)) F nx' ∧ Ext w H β F nx w' (upd H l (.row ver es .own (setSeg elems off ys))) (updN β l (β l)) F nx' := by
  obtain ⟨n1, n2, n3⟩ := hE
  have hpos := hs.pos _ _ _ _ _ hrow
  have hnl : news.toList.length = ys.length * es := by simpa using n1
  have hl' : ∀ (i : Nat) (e : List CV), (setSeg elems off ys)[i]? = some e → e.length = es := by
    intro i e he
    rw [setSeg_get _ _ _ hle] at he
    split at he
    · exact hpos.2.1 i e he
    · split at he
      · exact n2 _ e he
      · exact hpos.2.1 i e he
  have hmul : (off + ys.length) * es ≤ elems.length * es := Nat.mul_le_mul_right _ hle
  rw [Nat.add_mul] at hmul
  refine rowSet_ok hs hrow hn ?_ (by omega) (setSeg_length _ _ _ hle) hl' ?_ ?_
  · intro v hv
    obtain ⟨k, hk, rfl⟩ := List.getElem_of_mem hv
    have hk' : k < ys.length * es := by omega
    have hi : k / es < ys.length := Nat.div_lt_of_lt_mul (by rw [Nat.mul_comm]; exact hk')
    have hj : k % es < es := Nat.mod_lt _ hpos.1
    have hel := n2 _ _ (List.getElem?_eq_getElem hi)
    obtain ⟨v', hv', hr'⟩ := n3 (k / es) (k % es) _ _ (List.getElem?_eq_getElem hi) (List.getElem?_eq_getElem (by rw [hel]; exact hj))
    rw [Nat.div_add_mod' k es] at hv'
    have h1 : news.toList[k]? = some v' := by simpa using hv'
    rw [List.getElem?_eq_getElem hk] at h1
    injection h1 with h1
    rw [h1]; exact hr'.one
  · intro i j e c he hc q1 q2
    have hj : j < es := by rw [← hl' i e he]; exact (List.getElem?_eq_some_iff.1 hc).1
    have hio : off ≤ i := by
      rcases Nat.lt_or_ge i off with q | q
      · have : (i + 1) * es ≤ off * es := Nat.mul_le_mul_right _ q
        rw [Nat.add_mul] at this; omega
      · exact q
    have hiy : i < off + ys.length := by
      rcases Nat.lt_or_ge i (off + ys.length) with q | q
      · exact q
      · have : (off + ys.length) * es ≤ i * es := Nat.mul_le_mul_right _ q
        rw [Nat.add_mul] at this; omega
    rw [setSeg_get _ _ _ hle, if_neg (by omega), if_pos hiy] at he
    obtain ⟨v, hv, hr⟩ := n3 _ j e c he hc
    refine ⟨v, ?_, hr⟩
    have e1 : i * es + j - off * es = (i - off) * es + j := by
      rw [Nat.sub_mul]
      have := Nat.mul_le_mul_right es hio
      omega
    rw [e1]
    simpa using hv
  · intro i j e c he hc q
    have hj : j < es := by rw [← hl' i e he]; exact (List.getElem?_eq_some_iff.1 hc).1
    rw [setSeg_get _ _ _ hle] at he
    split at he
    · exact ⟨e, he, hc⟩
    · split at he
      · rename_i g1 g2
        exfalso
        apply q
        have g3 : off * es ≤ i * es := Nat.mul_le_mul_right _ (by omega)
        have g4 : (i + 1) * es ≤ (off + ys.length) * es := Nat.mul_le_mul_right _ (by omega)
        rw [Nat.add_mul, Nat.add_mul] at g4
        omega
      · exact ⟨e, he, hc⟩

theorem copy_ok (hs : Sim w H β F nx) {t t2 e ty : TypeId} {es : Nat} (ht : P.underlying t = some (.slice e)) (hn : tSize P e = some es) {x y : AV} {v u : Value} (hx : RepA w F β H nx x v) (hy : RepA w F β H nx y u) {al : Nat} {r : Res} (h : copyA es x y H = some r) :
    OpOk P w H β F nx (do pure (.value (← Builtin.copy_ #[t, t2] ty #[v, u]))) al r := by
  unfold copyA at h
  split at h
  · rename_i l ver off len ys hys
    split at h
    · rename_i ver' es' st elems hrow
      split at h
      · rename_i hc
        obtain ⟨rfl, rfl, rfl, hle⟩ := hc
        injection h with h; subst h
        obtain ⟨_, r1, r2, r3, r4⟩ := ref_inv hx hrow
        obtain ⟨a, cap, rfl, hcap, ha, arr, ty', harr, hsz⟩ := r4 rfl
        obtain ⟨news, hlen, hall⟩ := content_ok (P := P) hs hy hys
        obtain ⟨hfc, hE⟩ := hall (min ys.length len) (Nat.min_le_left _ _)
        have htk : ys.take (min ys.length len) = ys.take len := by
          rcases Nat.le_total ys.length len with q | q
          · rw [Nat.min_eq_left q, List.take_length, List.take_of_length_le q]
          · rw [Nat.min_eq_right q]
        rw [htk] at hE
        have main := fun nx' (hnx : nx ≤ nx') => rowPut_ok (P := P) hs (nx' := nx') (off := off) (ys := ys.take len) (news := news (min ys.length len)) hrow hnx hE (by simp; omega)
        obtain ⟨w', hst', _⟩ := main nx (Nat.le_refl _)
        have hrun' : (Builtin.copy_ #[t, t2] ty #[.slice (some a) len cap, u]).run P w = .ok (.int .i64 ((min ys.length len : Nat) : Int)) w' := by
          have hst2 : (storeCells a (news (min ys.length len)).toList).run P w = .ok () w' := by
            by_cases hcap0 : cap = 0
            · have hl0 : len = 0 := by omega
              have hns : (news (min ys.length len)).toList = [] := by
                apply List.eq_nil_of_length_eq_zero
                have := hE.1
                simpa [hl0] using this
              rw [hns] at hst' ⊢
              simpa [storeCells] using hst'
            · rw [ha hcap0]; exact hst'
          have e1 : Nat.min ys.length len = min ys.length len := rfl
          simp [Builtin.copy_, run_underlying ht, hlen w rfl, run_sizeOf w hn, e1, hfc w rfl, hst2, goInt]
        refine ⟨.value (.int .i64 ((min ys.length len : Nat) : Int)), _, w', updN β l (β l), F, by simp only [Sem.run_bind, hrun']; rfl, .inl rfl, fun nx' hn' _ => ?_⟩
        obtain ⟨w'', hst'', s1, s2⟩ := main nx' hn'
        rw [hst'] at hst''
        injection hst'' with _ hst''
        subst hst''
        exact ⟨s1, s2, rI _ _⟩
      · cases h
    · cases h
  · cases h

theorem refVal {w' : World} {F' : Imm} {β' : Nat → Nat} {nx' l ver off len es : Nat} {st : Own} {elems : List (List CV)} {a : Option Addr} {n c : Nat} (hl : l < nx')
    (hr : RefOk w' (β' l) es st elems.length off len (.slice a n c)) : RepA w' F' β' (upd H l (.row ver es st elems)) nx' (.c (.ref l ver off len)) (.slice a n c) := by
  refine .c _ _ (.ref _ _ _ _ _ _ _ ⟨hl, by simp [upd]⟩ (fun ver0 es0 st0 elems0 h0 => ?_) (fun es0 st0 elems0 h0 => ?_))
  · simp only [upd, if_true, Option.some.injEq, Blk.row.injEq] at h0
    omega
  · simp only [upd, if_true, Option.some.injEq, Blk.row.injEq] at h0
    obtain ⟨_, rfl, rfl, rfl⟩ := h0
    exact hr

theorem new_at (w : World) (β : Nat → Nat) (l : Nat) (o : Obj) : (w.drew.alloc o).heap[updN β l w.heap.size l]? = some o := by
  simp only [updN, if_true]
  exact heap_alloc_new w.drew o

theorem append_ok (hs : Sim w H β F nx) {t t2 e ty : TypeId} {i : TypeInfo} {z : Value} {d2 : TypeDesc} {es : Nat} {zc : List CV} (ht : P.underlying t = some (.slice e)) (hi : P.info? e = some i) (hz : i.zero = some z) (hzs : z.cells.size = i.size) (hes : i.size = es) (hes0 : es ≠ 0)
    (ht2 : P.underlying t2 = some d2) (hd2 : notInt d2 = true) (hb8 : 1 ≤ i.bytes) {x y : AV} {v u : Value} (hx : RepA w F β H nx x v) (hy : RepA w F β H nx y u) {al : Nat} (hal : Al H nx al) {r : Res} (h : appendA es i.bytes x y al H = some r) :
    OpOk P w H β F nx (do pure (.value (← Builtin.append_ #[t, t2] ty #[v, u]))) al r := by
  subst hes
  have hpos : 0 < i.size := by omega
  unfold appendA at h
  split at h
  · cases h
  rename_i ys hys
  obtain ⟨news, hlen, hall⟩ := content_ok (P := P) hs hy hys
  obtain ⟨hfc, hE⟩ := hall ys.length (Nat.le_refl _)
  rw [List.take_length] at hE
  have hl0 := hlen w rfl
  have hf0 := hfc w rfl
  have hf1 := hfc w.drew rfl
  have hysz : ys.length = 0 ↔ ys.isEmpty = true := by cases ys <;> simp
  have hnil : RepE w F β H nx i.size [] #[] := ⟨by simp, fun i e he => by simp at he, fun i j e c he => by simp at he⟩
  -- a new row behind nothing
  have fresh : ∀ (st : Own) (base : Option Addr) (l ver' : Nat), st ≠ .own → ys.length * i.bytes ≤ 140737488355328 →
      (Al H nx l ∨ (l < nx ∧ ∃ ver elems, H l = some (.row ver i.size st elems) ∧ ver < ver')) →
      (st = .nil → base = none) → (st = .emp → ∃ a, base = some a) →
      ∃ v' w' β', (Builtin.append_ #[t, t2] ty #[.slice base 0 0, u]).run P w = .ok v' w' ∧ ∀ nx', nx ≤ nx' → l < nx' →
        Sim w' (upd H l (.row ver' i.size (grown st ys) ys)) β' F nx' ∧ Ext w H β F nx w' (upd H l (.row ver' i.size (grown st ys) ys)) β' F nx' ∧
        RepA w' F β' (upd H l (.row ver' i.size (grown st ys) ys)) nx' (.c (.ref l ver' 0 ys.length)) v' := by
    intro st base l ver' hst hbytes hver hb1 hb2
    by_cases hy0 : ys.length = 0
    · have hy' : ys = [] := List.eq_nil_of_length_eq_zero hy0
      subst hy'
      have hrun := run_append_in (ty := ty) ht hi ht2 hd2 base 0 0 0 u (news 0) hl0 (by omega) hf0
      have hns : (news 0).toList = [] := by
        apply List.eq_nil_of_length_eq_zero
        have := hE.1
        simpa using this
      refine ⟨.slice base 0 0, w, β, ?_, fun nx' hn hl => ?_⟩
      · rw [hrun, hns]
        cases base <;> simp [storeCells]
      · have hver' : Al H nx l ∨ (l < nx ∧ ∃ ver elems, H l = some (.row ver i.size st elems) ∧ ver < ver') := hver
        obtain ⟨s1, s2⟩ := simVoid hs l ver' i.size st hst hpos hver' hn hl
        refine ⟨by simpa [grown] using s1, by simpa [grown] using s2, ?_⟩
        have : RepA w F β (upd H l (.row ver' i.size st [])) nx' (.c (.ref l ver' 0 0)) (.slice base 0 0) := by
          refine refVal hl ⟨by simp, fun q => ?_, fun q => ?_, fun q => absurd q hst⟩
          · rw [hb1 q]
          · obtain ⟨a, ha⟩ := hb2 q
            exact ⟨a, by rw [ha]⟩
        simpa [grown] using this
    · have hg : grown st ys = .own := by
        unfold grown
        rw [if_neg (by rw [← hysz]; exact hy0)]
      rw [hg]
      have hfo : (Builtin.firstCells i.size 0 (.slice base 0 0)).run P w.drew = .ok #[] w.drew := by
        cases base <;> simp [Builtin.firstCells, loadCells, loadCellsFrom]
      obtain ⟨cap, rest, hcap, hrest, hrun⟩ := run_append_out (ty := ty) ht hi hz ht2 hd2 base 0 0 ys.length u #[] (news ys.length) hl0 (by omega) (by simpa using hbytes)
        (by
          have : ys.length ≤ ys.length * i.bytes := Nat.le_mul_of_pos_right _ (by omega)
          omega) hfo hf1
      refine ⟨_, _, updN β l w.heap.size, hrun, fun nx' hn hl => ?_⟩
      obtain ⟨s1, s2⟩ := growOut hs (rest := rest) hnil hE hpos (w.drawn + 1) e (by
        rcases hver with q | ⟨q1, ver, elems, q2, q3⟩
        · exact .inl q
        · exact .inr ⟨q1, ver, st, elems, q2, q3⟩) hn hl
      simp only [List.nil_append] at s1 s2
      refine ⟨s1, s2, ?_⟩
      simp only [Nat.zero_add]
      refine refVal hl ⟨by omega, (by intro q; cases q), (by intro q; cases q), fun _ => ⟨_, _, rfl, by omega, fun _ => by simp [updN], #[] ++ news ys.length ++ rest, e, new_at w β l _, ?_⟩⟩
      simp [hE.1, hrest, hzs]
      rw [← Nat.add_mul]
      congr 1; omega
  split at h
  · -- nil
    split at h
    · rename_i hbytes
      injection h with h; subst h
      obtain rfl := nil_inv hx
      obtain ⟨v', w', β', hrun, hall'⟩ := fresh .nil none al 0 (by simp) hbytes (.inl hal) (fun _ => rfl) (fun q => by cases q)
      exact ⟨.value v', v', w', β', F, by simp [hrun], .inl rfl, fun nx' hn hl => hall' nx' hn (hl rfl)⟩
    · cases h
  · -- empty, full
    rename_i es'
    split at h
    · rename_i hc
      obtain ⟨rfl, hbytes⟩ := hc
      injection h with h; subst h
      obtain ⟨a, cap, vs, rfl, hcap, hfull, _⟩ := sl_inv hx
      have := hfull rfl
      simp only [List.length_nil] at this hcap
      subst this
      obtain ⟨v', w', β', hrun, hall'⟩ := fresh .emp (some a) al 0 (by simp) hbytes (.inl hal) (fun q => by cases q) (fun _ => ⟨a, rfl⟩)
      exact ⟨.value v', v', w', β', F, by simp [hrun], .inl rfl, fun nx' hn hl => hall' nx' hn (hl rfl)⟩
    · cases h
  · -- a row
    rename_i l ver off len
    split at h
    · rename_i ver' es' st elems hrow
      obtain ⟨hlt, hvle⟩ := ver_le hx
      split at h
      · rename_i hc
        obtain ⟨rfl, rfl, rfl, rfl⟩ := hc
        split at h
        · rename_i hbytes
          injection h with h; subst h
          obtain ⟨_, r1, r2, r3, r4⟩ := ref_inv hx hrow
          by_cases hst : st = .own
          · subst hst
            obtain ⟨a, cap, rfl, hcap, ha, arr, ty', harr, hsz⟩ := r4 rfl
            have hg : grown .own ys = .own := by unfold grown; split <;> rfl
            simp only [Nat.zero_add] at hsz
            by_cases hroom : elems.length + ys.length ≤ cap
            · have hrun := run_append_in (ty := ty) ht hi ht2 hd2 (some a) elems.length cap ys.length u (news ys.length) hl0 hroom hf0
              by_cases hcap0 : cap = 0
              · obtain ⟨hel, hyl⟩ : elems.length = 0 ∧ ys.length = 0 := by omega
                have hns : (news ys.length).toList = [] := by
                  apply List.eq_nil_of_length_eq_zero
                  have := hE.1
                  rw [hyl, Nat.zero_mul] at this
                  simpa [hyl] using this
                have hy' : ys = [] := List.eq_nil_of_length_eq_zero hyl
                refine ⟨.value (.slice (some a) (elems.length + ys.length) cap), _, w, updN β l (β l), F, by simp only [Sem.run_bind, hrun, hns]; simp [storeCells], .inl rfl, fun nx' hn _ => ?_⟩
                obtain ⟨arr', ty2, harr', hle', hr'⟩ := hs.row _ _ _ _ hrow
                have hp := hs.pos _ _ _ _ _ hrow
                obtain ⟨s1, s2⟩ := simPut (nx' := nx') hs l (β l) (ver + 1) i.size (elems ++ ys) arr' ty2 rfl rfl rfl harr' (fun _ _ _ => rfl) (Nat.le_refl _) (.inr ⟨⟨_, _, _, hrow⟩, rfl⟩) hp.1
                  (by rw [hy', List.append_nil]; exact hp.2.1) (by rw [hy', List.append_nil]; exact hle') (by rw [hy', List.append_nil]; exact hr') (.inr ⟨hs.dom _ _ hrow, ver, .own, elems, hrow, .inl (by omega)⟩) hn (Nat.lt_of_lt_of_le (hs.dom _ _ hrow) hn)
                simp only [Res.heap, Res.val, hg]
                refine ⟨s1, s2, refVal (Nat.lt_of_lt_of_le hlt hn) ⟨by simp, (by intro q; cases q), (by intro q; cases q), fun _ => ⟨a, cap, rfl, by omega, fun q => absurd hcap0 q, arr, ty', by simpa [updN] using harr, by simpa using hsz⟩⟩⟩
              · have hab := ha hcap0
                simp only [Nat.zero_mul] at hab
                subst hab
                obtain ⟨w', arr', hst', hw', hsz', hall'⟩ := growIn (P := P) hs hrow harr hE (by rw [← hsz]; exact Nat.mul_le_mul_right _ hroom)
                have hrun' : (Builtin.append_ #[t, t2] ty #[.slice (some ⟨β l, 0, none⟩) elems.length cap, u]).run P w = .ok (.slice (some ⟨β l, 0, none⟩) (elems.length + ys.length) cap) w' := by
                  rw [hrun]
                  simp only
                  rw [addr_add rfl]
                  simp only [Nat.zero_add]
                  rw [hst']
                  rfl
                refine ⟨.value (.slice (some ⟨β l, 0, none⟩) (elems.length + ys.length) cap), _, w', updN β l (β l), F, by simp only [Sem.run_bind, hrun']; rfl, .inl rfl, fun nx' hn _ => ?_⟩
                obtain ⟨s1, s2⟩ := hall' nx' hn
                simp only [Res.heap, Res.val, hg]
                refine ⟨s1, s2, refVal (Nat.lt_of_lt_of_le hlt hn) ⟨by simp, (by intro q; cases q), (by intro q; cases q), fun _ => ⟨_, cap, rfl, by omega, fun _ => by simp [updN], arr', ty', by simpa [updN] using hw', by rw [hsz']; simpa using hsz⟩⟩⟩
            · obtain ⟨arr', ty2, harr', hle', hr'⟩ := hs.row _ _ _ _ hrow
              rw [harr] at harr'
              injection harr' with harr'
              injection harr' with q1 q2
              subst q1
              have hp := hs.pos _ _ _ _ _ hrow
              have hE0 : RepE w F β H nx i.size elems ((List.range (elems.length * i.size)).map fun j => arr.getD j undef).toArray := by
                refine ⟨by simp, hp.2.1, fun k j e' c he hc => ?_⟩
                have hk : k < elems.length := (List.getElem?_eq_some_iff.1 he).1
                have hj : j < i.size := by rw [← hp.2.1 k e' he]; exact (List.getElem?_eq_some_iff.1 hc).1
                obtain ⟨v, hv, hrv⟩ := hr' k j e' c he hc
                exact ⟨v, by simp [List.getElem?_range (idx_lt hk hj), Array.getD_eq_getD_getElem?, hv], hrv⟩
              have hfo : (Builtin.firstCells i.size elems.length (.slice (some a) elems.length cap)).run P w.drew = .ok ((List.range (elems.length * i.size)).map fun j => arr.getD j undef).toArray w.drew := by
                refine run_firstCells_some _ i.size elems.length a elems.length cap _ (by simp) (fun j u hu => ?_)
                obtain ⟨hj, rfl⟩ := List.getElem?_eq_some_iff.1 hu
                simp only [List.length_map, List.length_range] at hj
                have hc0 : cap ≠ 0 := by
                  intro q
                  have : elems.length = 0 := by omega
                  rw [this, Nat.zero_mul] at hj; omega
                have hab := ha hc0
                simp only [Nat.zero_mul] at hab
                subst hab
                have hlt' : j < arr.size := by omega
                rw [addr_add rfl]
                have hh : w.drew.heap = w.heap := rfl
                simp [World.cell?, hh, harr, Array.getElem?_eq_getElem hlt', Array.getD_eq_getD_getElem?]
              obtain ⟨cap', rest, hcap', hrest, hrun⟩ := run_append_out (ty := ty) ht hi hz ht2 hd2 (some a) elems.length cap ys.length u _ (news ys.length) hl0 (by omega) hbytes
                (by
                  have : (elems.length + ys.length) ≤ (elems.length + ys.length) * i.bytes := Nat.le_mul_of_pos_right _ (by omega)
                  omega) hfo hf1
              refine ⟨.value (.slice (some ⟨w.heap.size, 0, none⟩) (elems.length + ys.length) cap'), _, _, updN β l w.heap.size, F, by simp only [Sem.run_bind, hrun]; rfl, .inl rfl, fun nx' hn _ => ?_⟩
              obtain ⟨s1, s2⟩ := growOut (ver' := ver + 1) hs (rest := rest) hE0 hE hpos (w.drawn + 1) e (.inr ⟨hlt, ver, .own, elems, hrow, by omega⟩) hn (Nat.lt_of_lt_of_le hlt hn)
              simp only [Res.heap, Res.val, hg]
              refine ⟨s1, s2, refVal (Nat.lt_of_lt_of_le hlt hn) ⟨by simp, (by intro q; cases q), (by intro q; cases q), fun _ => ⟨_, cap', rfl, by omega, fun _ => by simp [updN], _, e, new_at w β l _, ?_⟩⟩⟩
              simp [hE.1, hrest, hzs]
              rw [← Nat.add_mul, ← Nat.add_mul]
              congr 1; omega
          · have hel := (hs.pos _ _ _ _ _ hrow).2.2 hst
            subst hel
            simp only [List.length_nil, Nat.zero_add, List.nil_append] at hbytes ⊢
            have hv0 : ∃ base, v = .slice base 0 0 ∧ (st = .nil → base = none) ∧ (st = .emp → ∃ a, base = some a) := by
              cases st with
              | own => exact absurd rfl hst
              | nil => exact ⟨none, r2 rfl, fun _ => rfl, fun q => by cases q⟩
              | emp => obtain ⟨a, ha⟩ := r3 rfl; exact ⟨some a, ha, fun q => (by cases q), fun _ => ⟨a, rfl⟩⟩
            obtain ⟨base, rfl, hb1, hb2⟩ := hv0
            obtain ⟨v', w', β', hrun, hall'⟩ := fresh st base l (ver + 1) hst hbytes (.inr ⟨hlt, ver, [], hrow, by omega⟩) hb1 hb2
            exact ⟨.value v', v', w', β', F, by simp [hrun], .inl rfl, fun nx' hn _ => hall' nx' hn (Nat.lt_of_lt_of_le hlt hn)⟩
        · cases h
      · split at h
        · rename_i hc
          obtain ⟨rfl, rfl, rfl, hle⟩ := hc
          injection h with h; subst h
          obtain ⟨_, r1, r2, r3, r4⟩ := ref_inv hx hrow
          obtain ⟨a, cap, rfl, hcap, ha, arr, ty', harr, hsz⟩ := r4 rfl
          obtain ⟨arr', ty2, harr', hle', hr'⟩ := hs.row _ _ _ _ hrow
          rw [harr] at harr'
          injection harr' with harr'
          injection harr' with q1 q2
          subst q1
          have hroom : len + ys.length ≤ cap := by
            have q1 : (off + len + ys.length) * i.size ≤ (off + cap) * i.size := by rw [hsz]; exact Nat.le_trans (Nat.mul_le_mul_right _ hle) hle'
            have q2 := Nat.le_of_mul_le_mul_right q1 hpos
            omega
          have hrun := run_append_in (ty := ty) ht hi ht2 hd2 (some a) len cap ys.length u (news ys.length) hl0 hroom hf0
          have main := fun nx' (hnx : nx ≤ nx') => rowPut_ok (P := P) hs (nx' := nx') (off := off + len) (ys := ys) (news := news ys.length) hrow hnx hE hle
          obtain ⟨w', hst', _⟩ := main nx (Nat.le_refl _)
          have hrun' : (Builtin.append_ #[t, t2] ty #[.slice (some a) len cap, u]).run P w = .ok (.slice (some a) (len + ys.length) cap) w' := by
            rw [hrun]
            simp only
            by_cases hcap0 : cap = 0
            · have hyl : ys.length = 0 := by omega
              have hns : (news ys.length).toList = [] := by
                apply List.eq_nil_of_length_eq_zero
                have := hE.1
                rw [hyl, Nat.zero_mul] at this
                simpa [hyl] using this
              rw [hns] at hst' ⊢
              simp only [storeCells, Sem.run_pure] at hst' ⊢
              injection hst' with _ hst'
              rw [hst']; rfl
            · rw [ha hcap0, addr_add rfl]
              simp only [← Nat.add_mul]
              rw [hst']; rfl
          refine ⟨.value (.slice (some a) (len + ys.length) cap), _, w', updN β l (β l), F, by simp only [Sem.run_bind, hrun']; rfl, .inl rfl, fun nx' hn _ => ?_⟩
          obtain ⟨w'', hst'', s1, s2⟩ := main nx' hn
          rw [hst'] at hst''
          injection hst'' with _ hst''
          subst hst''
          refine ⟨s1, s2, ?_⟩
          have hk := s2.keep l hlt (row_ne hrow) ver i.size .own (setSeg elems (off + len) ys) (by simp [upd])
          obtain ⟨v0, st0, el0, g1, g2, g3⟩ := hk
          rw [hrow] at g1
          injection g1 with g1
          injection g1 with g4 g5 g6 g7
          subst g4; subst g6; subst g7
          obtain ⟨_, g8, g9⟩ := g3 rfl
          obtain ⟨g10, g11⟩ := g9 rfl
          obtain ⟨arr2, ty3, g12, g13⟩ := g11 arr ty' harr
          refine refVal (Nat.lt_of_lt_of_le hlt hn) ⟨by rw [setSeg_length _ _ _ hle]; omega, (by intro q; cases q), (by intro q; cases q), fun _ => ⟨a, cap, rfl, hroom, fun q => by simpa [updN] using ha q, arr2, ty3, by simpa [updN] using g12, by rw [g13]; exact hsz⟩⟩
        · cases h
    · cases h
  · cases h


theorem zeroCells_rep {z : Value} {zero : List CV} {es : Nat} (h : RepL w F β H nx zero z.cells) (hl : zero.length = es) (n : Nat) : RepE w F β H nx es (List.replicate n zero) (Builtin.zeroCells z.cells n) := by
  obtain ⟨h1, h2⟩ := h
  have hsz : z.cells.size = es := by omega
  refine ⟨by rw [size_zeroCells, List.length_replicate, hsz], fun i e he => ?_, fun i j e c he hc => ?_⟩
  · rw [List.getElem?_replicate] at he
    split at he
    · injection he with he; rw [← he]; exact hl
    · cases he
  · rw [List.getElem?_replicate] at he
    split at he
    · rename_i hi
      injection he with he
      subst he
      obtain ⟨v, hv, hr⟩ := h2 j c hc
      have hj : j < es := by rw [← hl]; exact (List.getElem?_eq_some_iff.1 hc).1
      have hlt := idx_lt hi hj
      refine ⟨v, ?_, hr⟩
      have hm : (i * es + j) % es = j := by rw [Nat.add_comm, Nat.add_mul_mod_self_right, Nat.mod_eq_of_lt hj]
      rw [Builtin.zeroCells, Array.getElem?_map, hsz, Array.getElem?_range, if_pos hlt]
      simp only [Option.map_some, hm]
      rw [getElem!_pos z.cells j (by omega)]
      rw [Array.getElem?_eq_getElem (by omega)] at hv
      exact hv
    · cases he

theorem clear_ok (hs : Sim w H β F nx) {t e ty : TypeId} {es : Nat} {zero : List CV} (ht : P.underlying t = some (.slice e)) (hz : tZero P e = some zero) (hzl : zero.length = es) {x : AV} {v : Value} (hx : RepA w F β H nx x v) {al : Nat} {r : Res} (h : clearA es zero x H = some r) :
    OpOk P w H β F nx (do pure (.value (← Builtin.clear_ #[t] ty #[v]))) al r := by
  unfold clearA at h
  split at h
  · rename_i l ver off len
    split at h
    · rename_i ver' es' st elems hrow
      split at h
      · rename_i hc
        obtain ⟨rfl, rfl, rfl, hle⟩ := hc
        injection h with h; subst h
        obtain ⟨_, r1, r2, r3, r4⟩ := ref_inv hx hrow
        obtain ⟨a, cap, rfl, hcap, ha, arr, ty', harr, hsz⟩ := r4 rfl
        obtain ⟨z, hzr, hzL⟩ := zero_ok (P := P) (w := w) (F := F) (β := β) (H := H) (nx := nx) hz
        have hE := zeroCells_rep hzL hzl len
        have main := fun nx' (hnx : nx ≤ nx') => rowPut_ok (P := P) hs (nx' := nx') (off := off) (ys := List.replicate len zero) (news := Builtin.zeroCells z.cells len) hrow hnx hE (by simp; omega)
        obtain ⟨w', hst', _⟩ := main nx (Nat.le_refl _)
        have hrun' : (Builtin.clear_ #[t] ty #[.slice (some a) len cap]).run P w = .ok (.tuple #[]) w' := by
          cases len with
          | zero =>
            have h0 : (Builtin.zeroCells z.cells 0).toList = [] := by simp [Builtin.zeroCells]
            rw [h0] at hst'
            simp only [storeCells, Sem.run_pure, Result.ok.injEq, true_and] at hst'
            subst hst'
            simp [Builtin.clear_, run_underlying ht]
          | succ n =>
            rw [ha (by omega)]
            simp [Builtin.clear_, run_underlying ht, hzr, hst']
        refine ⟨.value (.tuple #[]), _, w', updN β l (β l), F, by simp only [Sem.run_bind, hrun']; rfl, .inl rfl, fun nx' hn' _ => ?_⟩
        obtain ⟨w'', hst'', s1, s2⟩ := main nx' hn'
        rw [hst'] at hst''
        injection hst'' with _ hst''
        subst hst''
        exact ⟨s1, s2, .tup _ _ rfl (fun j a v h => by simp at h)⟩
      · cases h
    · cases h
  · cases h

end
end Go.Ab
end PAb11

section PAb12
/- The framework 'Ab', part 12: every operation that is no call does what the abstract machine says. -/
set_option linter.unusedVariables false
set_option linter.unusedSimpArgs false
namespace Go.Ab

section
variable {P : Program} {w : World} {F : Imm} {β : Nat → Nat} {H : Heap} {nx : Nat}

theorem minsI_ok (mx : Bool) : ∀ {as : List AV} {vs : List Value} {k : IntKind} {a : Int} {y : AV}, minsI mx k a as = some y → as.length = vs.length → (∀ (j : Nat) (a : AV) (v : Value), as[j]? = some a → vs[j]? = some v → RepA w F β H nx a v) →
    ∃ r, (vs.foldlM (if mx then Builtin.max2 else Builtin.min2) (.int k a)).run P w = .ok r w ∧ RepA w F β H nx y r
  | [], [], k, a, y, h, _, _ => by
    simp only [minsI, Option.some.injEq] at h
    subst h
    exact ⟨_, rfl, rI _ _⟩
  | [], _ :: _, _, _, _, _, hl, _ => by simp at hl
  | _ :: _, [], _, _, _, _, hl, _ => by simp at hl
  | x :: as, v :: vs, k, a, y, h, hl, hr => by
    unfold minsI at h
    split at h
    · cases ‹_ :: _ = []›
    · rename_i k2 b r heq
      injection heq with e1 e2
      subst e1; subst e2
      obtain rfl := int_inv (hr 0 _ _ rfl rfl)
      obtain ⟨r', h1, h2⟩ := minsI_ok mx h (by simpa using hl) (fun j a v ha hv => hr (j + 1) a v (by simpa using ha) (by simpa using hv))
      refine ⟨r', ?_, h2⟩
      rw [List.foldlM_cons]
      cases mx with
      | true => simpa [Builtin.max2] using h1
      | false => simpa [Builtin.min2] using h1
    · cases h
theorem mins_ok (mx : Bool) {as : List AV} {vs : Array Value} {y : AV} {ts : Array TypeId} {ty : TypeId} (h : minsA mx as = some y) (hl : as.length = vs.size) (hr : ∀ (j : Nat) (a : AV) (v : Value), as[j]? = some a → vs[j]? = some v → RepA w F β H nx a v) :
    ∃ r, (if mx then Builtin.max_ ts ty vs else Builtin.min_ ts ty vs).run P w = .ok r w ∧ RepA w F β H nx y r := by
  obtain ⟨vs⟩ := vs
  cases as with
  | nil => simp [minsA] at h
  | cons x as =>
    cases vs with
    | nil => simp at hl
    | cons v vs =>
      unfold minsA at h
      split at h
      · rename_i k a r heq
        injection heq with e1 e2
        subst e1; subst e2
        obtain rfl := int_inv (hr 0 _ v rfl (by simp))
        obtain ⟨r', h1, h2⟩ := minsI_ok (P := P) mx h (by simpa using hl) (fun j a v ha hv => hr (j + 1) a v (by simpa using ha) (by simpa using hv))
        refine ⟨r', ?_, h2⟩
        cases mx with
        | true => simpa [Builtin.max_] using h1
        | false => simpa [Builtin.min_] using h1
      · cases h

theorem bytesOfCells_inv : ∀ {ys : List (List CV)} {bs : List UInt8}, bytesOfCells ys = some bs → ∃ xs : List Int, ys = xs.map (fun n => [.p (.int .u8 n)]) ∧ bs = xs.map fun n => UInt8.ofNat n.toNat
  | [], bs, h => by simp only [bytesOfCells, Option.some.injEq] at h; subst h; exact ⟨[], rfl, rfl⟩
  | y :: ys, bs, h => by
    unfold bytesOfCells at h
    split at h
    · cases ‹_ :: _ = []›
    · rename_i n r heq
      injection heq with e1 e2
      subst e1; subst e2
      obtain ⟨bs', hb, rfl⟩ := Option.map_eq_some_iff.1 h
      obtain ⟨xs, rfl, rfl⟩ := bytesOfCells_inv hb
      exact ⟨n :: xs, rfl, rfl⟩
    · cases h
theorem bytes_ok (hs : Sim w H β F nx) {src dst e : TypeId} (hsrc : P.underlying src = some (.slice e)) (he : P.underlying e = some (.int .u8)) (hdst : P.underlying dst = some .string) {x y : AV} {v : Value} (hx : RepA w F β H nx x v) (h : bytesA x H = some y) :
    ∃ r, (convert src dst v).run P w = .ok r w ∧ RepA w F β H nx y r := by
  have hconv : ∀ (a : Option Addr) (n c : Nat), (convert src dst (.slice a n c)).run P w = (Conv.bytesToString (.slice a n c)).run P w := by
    intro a n c
    simp [convert, run_underlying hsrc, run_underlying hdst, run_underlying he]
  unfold bytesA at h
  split at h
  · cases h
  · rename_i hns
    obtain ⟨bs, hb, rfl⟩ := Option.map_eq_some_iff.1 h
    obtain ⟨ys, hys, hbs⟩ := Option.bind_eq_some_iff.1 hb
    obtain ⟨xs, rfl, rfl⟩ := bytesOfCells_inv hbs
    obtain ⟨news, hlen, hall⟩ := content_ok (P := P) hs hx hys
    obtain ⟨hfc, n1, n2, n3⟩ := hall _ (Nat.le_refl _)
    have hl0 := hlen w rfl
    have hf0 := hfc w rfl
    rw [List.take_length] at n1 n2 n3
    simp only [List.length_map, Nat.mul_one] at n1 hl0 hf0 n3
    have hnews : news xs.length = (xs.map (Value.int .u8)).toArray := by
      apply Array.ext
      · simpa using n1
      · intro i h1 h2
        have hi : i < xs.length := by simpa using h2
        obtain ⟨v', hv', hr'⟩ := n3 i 0 [.p (.int .u8 xs[i])] (.p (.int .u8 xs[i])) (by simp [List.getElem?_map, List.getElem?_eq_getElem hi]) rfl
        simp only [Nat.add_zero] at hv'
        rw [Array.getElem?_eq_getElem h1] at hv'
        injection hv' with hv'
        rw [hv']
        cases hr' with | p p v hr' => cases hr'; simp
    rw [hnews] at hf0
    have hv : ∃ a n c, v = .slice a n c := by
      cases hx with
      | c c v hx =>
        cases hx with
        | p p v hx =>
          cases hx <;> first
            | exact ⟨_, _, _, rfl⟩
            | (simp [content] at hys; done)
            | exact absurd rfl (hns _)
        | ref _ _ _ _ a n cap _ _ _ => exact ⟨_, _, _, rfl⟩
        | _ => simp [content] at hys
      | _ => simp [content] at hys
    obtain ⟨a, n, c, rfl⟩ := hv
    rw [hconv]
    have hn : n = xs.length := by
      have : (Builtin.lenOf (.slice a n c)).run P w = .ok n w := by simp [Builtin.lenOf]
      rw [this] at hl0
      injection hl0
    subst hn
    cases a with
    | none =>
      have : xs = [] := by
        have h1 : (Builtin.firstCells 1 xs.length (.slice none xs.length c)).run P w = .ok #[] w := by simp [Builtin.firstCells]
        rw [h1] at hf0
        injection hf0 with hf0
        have := congrArg Array.size hf0
        simp at this
        exact List.eq_nil_of_length_eq_zero this.symm
      subst this
      exact ⟨.string .empty, by simp [Conv.bytesToString], rS []⟩
    | some a =>
      have hl : (loadCells a xs.length).run P w = .ok (xs.map (Value.int .u8)).toArray w := by
        simpa [Builtin.firstCells] using hf0
      refine ⟨_, run_bytesToString w _ xs.length c xs hl, ?_⟩
      rw [foldl_push_bytes]
      have := rS (w := w) (F := F) (β := β) (H := H) (nx := nx) (xs.map fun n => UInt8.ofNat n.toNat)
      have e : (⟨ByteArray.empty.data ++ (xs.map fun n => UInt8.ofNat n.toNat).toArray⟩ : ByteArray) = ⟨(xs.map fun n => UInt8.ofNat n.toNat).toArray⟩ := by
        have : ByteArray.empty.data = #[] := rfl
        rw [this, Array.empty_append]
      rw [e]
      exact this

/-! Structs that are compared. -/
def VRep (w : World) (P : Program) (F : Imm) (β : Nat → Nat) (H : Heap) (nx : Nat) (t : TypeId) (v : Value) (cs : List CV) : Prop :=
  match tAgg P t with
  | some true => ∃ vs, v = .agg vs ∧ vs.size = cs.length ∧ ∀ (j : Nat) (c : CV), cs[j]? = some c → RepC w F β H nx c (vs.getD j undef)
  | some false => ∃ c, cs = [c] ∧ RepC w F β H nx c v
  | none => False
theorem eqCells_split : ∀ {ks1 ks2 : List CK} {xs ys : List CV} {b : Bool}, eqCells (ks1 ++ ks2) xs ys = some b →
    ∃ b1 b2, eqCells ks1 (xs.take ks1.length) (ys.take ks1.length) = some b1 ∧ eqCells ks2 (xs.drop ks1.length) (ys.drop ks1.length) = some b2 ∧ b = (b1 && b2) ∧ ks1.length ≤ xs.length ∧ ks1.length ≤ ys.length
  | [], ks2, xs, ys, b, h => ⟨true, b, rfl, by simpa using h, by simp, by simp, by simp⟩
  | k :: ks1, ks2, [], ys, b, h => by simp [eqCells] at h
  | k :: ks1, ks2, x :: xs, [], b, h => by simp [eqCells] at h
  | k :: ks1, ks2, x :: xs, y :: ys, b, h => by
    simp only [List.cons_append, eqCells] at h
    split at h
    · rename_i a b' h1 h2
      injection h with h
      obtain ⟨b1, b2, e1, e2, e3, e4, e5⟩ := eqCells_split h2
      refine ⟨a && b1, b2, ?_, by simpa using e2, by rw [← h, e3, Bool.and_assoc], by simp; omega, by simp; omega⟩
      simp only [List.length_cons, List.take_succ_cons, eqCells, h1, e1]
    · cases h
theorem eqCells_len : ∀ {ks : List CK} {xs ys : List CV} {b : Bool}, eqCells ks xs ys = some b → xs.length = ks.length ∧ ys.length = ks.length
  | [], [], [], b, h => ⟨rfl, rfl⟩
  | [], [], _ :: _, b, h => by simp [eqCells] at h
  | [], _ :: _, _, b, h => by simp [eqCells] at h
  | k :: ks, [], ys, b, h => by simp [eqCells] at h
  | k :: ks, x :: xs, [], b, h => by simp [eqCells] at h
  | k :: ks, x :: xs, y :: ys, b, h => by
    simp only [eqCells] at h
    split at h
    · rename_i a b' h1 h2
      obtain ⟨e1, e2⟩ := eqCells_len h2
      simp [e1, e2]
    · cases h

theorem flat_fields (D : Nat) (r : TypeId → Option (List CK))
    (ih : ∀ t ks va vb cs ds b, r t = some ks → VRep w P F β H nx t va cs → VRep w P F β H nx t vb ds → eqCells ks cs ds = some b → (Op.equalIn D t va vb).run P w = .ok b w)
    (hflat1 : ∀ t ks, r t = some ks → tAgg P t = some false → ks.length = 1)
    (xs ys : Array Value) (cs ds : List CV) (hx : xs.size = cs.length) (hy : ys.size = ds.length) (hxr : ∀ (j : Nat) (c : CV), cs[j]? = some c → RepC w F β H nx c (xs.getD j undef)) (hyr : ∀ (j : Nat) (c : CV), ds[j]? = some c → RepC w F β H nx c (ys.getD j undef)) :
    ∀ (fs : List Field) (off : Nat) (ks : List CK) (b : Bool), flatFs P r off fs = some ks → eqCells ks (cs.drop off) (ds.drop off) = some b → (Op.eqFields D xs ys fs).run P w = .ok b w
  | [], off, ks, b, h, he => by
    simp only [flatFs, Option.some.injEq] at h
    subst h
    cases hc : cs.drop off <;> cases hd : ds.drop off <;> rw [hc, hd] at he <;> simp [eqCells] at he
    subst he
    rfl
  | f :: fs, off, ks, b, h, he => by
    simp only [flatFs] at h
    split at h
    · rename_i ks1 ag hk1 hag
      split at h
      · rename_i hc
        obtain ⟨rfl, hnm, hsz, hne⟩ := hc
        obtain ⟨ks2, hk2, rfl⟩ := Option.map_eq_some_iff.1 h
        obtain ⟨b1, b2, e1, e2, rfl, l1, l2⟩ := eqCells_split he
        simp only [List.length_drop] at l1 l2
        rw [List.drop_drop, List.drop_drop] at e2
        have hpos : 0 < ks1.length := by cases ks1 with | nil => exact absurd rfl hne | cons => simp
        have hpx := run_part (P := P) (w := w) hag hsz xs f.offset (by omega) (fun _ => hpos)
        have hpy := run_part (P := P) (w := w) hag hsz ys f.offset (by omega) (fun _ => hpos)
        have mk : ∀ (zs : Array Value) (es : List CV), zs.size = es.length → f.offset + ks1.length ≤ es.length → (∀ (j : Nat) (c : CV), es[j]? = some c → RepC w F β H nx c (zs.getD j undef)) → (eqCells ks1 ((es.drop f.offset).take ks1.length) ((es.drop f.offset).take ks1.length) = none → True) → (ag = false → ks1.length = 1) →
            VRep w P F β H nx f.type (if ag then .agg ((List.range ks1.length).map fun j => zs.getD (f.offset + j) undef).toArray else zs.getD (f.offset + 0) undef) ((es.drop f.offset).take ks1.length) := by
          intro zs es hz hle hr _ h1
          unfold VRep
          rw [hag]
          cases ag with
          | true =>
            refine ⟨_, rfl, by simp; omega, fun j c hj => ?_⟩
            rw [List.getElem?_take] at hj
            split at hj
            · rename_i hjl
              rw [List.getElem?_drop] at hj
              simpa [Array.getD_eq_getD_getElem?, List.getElem?_range hjl] using hr _ c hj
            · cases hj
          | false =>
            have h1' := h1 rfl
            have hlt : f.offset < es.length := by omega
            refine ⟨es[f.offset], ?_, ?_⟩
            · rw [h1', List.drop_eq_getElem_cons hlt, List.take_succ_cons, List.take_zero]
            · simpa using hr f.offset _ (List.getElem?_eq_getElem hlt)
        have hone : ag = false → ks1.length = 1 := by
          intro ha
          subst ha
          exact hflat1 f.type ks1 hk1 hag
        have r1 := ih f.type ks1 _ _ _ _ b1 hk1 (mk xs cs hx (by omega) hxr (fun _ => trivial) hone) (mk ys ds hy (by omega) hyr (fun _ => trivial) hone) e1
        have r2 := flat_fields D r ih hflat1 xs ys cs ds hx hy hxr hyr fs _ ks2 b2 hk2 e2
        simp only [Op.eqFields, hnm, ne_eq, not_false_eq_true, if_true, Sem.run_bind, hpx, hpy, Result.andThen_ok, r1, Sem.run_ite, Sem.run_pure, r2]
        cases b1 <;> rfl
      · cases h
    · cases h

def aggD : TypeDesc → Bool
  | .struct _ => true
  | .array _ _ => true
  | _ => false
theorem tAgg_of {t : TypeId} {d : TypeDesc} (h : P.underlying t = some d) : tAgg P t = some (aggD d) := by
  unfold tAgg
  simp only [h]
  cases d <;> rfl
theorem cInt {k : IntKind} {n : Int} {v : Value} (h : RepC w F β H nx (.p (.int k n)) v) : v = .int k n := int_inv (.c _ _ h)
theorem cBool {b : Bool} {v : Value} (h : RepC w F β H nx (.p (.bool b)) v) : v = .bool b := bool_inv (.c _ _ h)
theorem cStr {s : List UInt8} {v : Value} (h : RepC w F β H nx (.p (.str s)) v) : v = .string ⟨s.toArray⟩ := str_inv (.c _ _ h)
theorem eqCell_inv {k : CK} {x y : CV} {b : Bool} (h : eqCell k x y = some b) :
    (k = .int ∧ ∃ i a c, x = .p (.int i a) ∧ y = .p (.int i c) ∧ b = decide (a = c)) ∨ (k = .str ∧ ∃ a c, x = .p (.str a) ∧ y = .p (.str c) ∧ b = decide (a = c)) ∨ (k = .bool ∧ ∃ a c, x = .p (.bool a) ∧ y = .p (.bool c) ∧ b = (a == c)) := by
  unfold eqCell at h
  split at h
  · split at h
    · rename_i hk; subst hk; injection h with h; exact .inl ⟨rfl, _, _, _, rfl, rfl, h.symm⟩
    · cases h
  · injection h with h; exact .inr (.inl ⟨rfl, _, _, rfl, rfl, h.symm⟩)
  · injection h with h; exact .inr (.inr ⟨rfl, _, _, rfl, rfl, h.symm⟩)
  · cases h
theorem eqCells_one {k : CK} {x y : CV} {b : Bool} (h : eqCells [k] [x] [y] = some b) : eqCell k x y = some b := by
  simp only [eqCells] at h
  split at h
  · rename_i q1 q2 h1 h2
    injection h2 with h2
    subst h2
    simp only [Bool.and_true, Option.some.injEq] at h
    subst h
    exact h1
  · cases h
theorem flat_one {d : Nat} {t : TypeId} {ks : List CK} (h : flatT P d t = some ks) (ha : tAgg P t = some false) : ks.length = 1 := by
  cases d with
  | zero => simp [flatT] at h
  | succ d =>
    simp only [flatT] at h
    split at h
    · injection h with h; subst h; rfl
    · injection h with h; subst h; rfl
    · injection h with h; subst h; rfl
    · rename_i fs hu
      rw [tAgg_of hu] at ha
      simp [aggD] at ha
    · cases h
theorem flat_ok : ∀ (d D : Nat), d ≤ D → ∀ (t : TypeId) (ks : List CK) (va vb : Value) (cs ds : List CV) (b : Bool), flatT P d t = some ks → VRep w P F β H nx t va cs → VRep w P F β H nx t vb ds → eqCells ks cs ds = some b → (Op.equalIn D t va vb).run P w = .ok b w
  | 0, _, _, t, ks, va, vb, cs, ds, b, h, _, _, _ => by simp [flatT] at h
  | d + 1, 0, hd, _, _, _, _, _, _, _, _, _, _, _ => by omega
  | d + 1, D + 1, hd, t, ks, va, vb, cs, ds, b, h, ha, hb, he => by
    simp only [flatT] at h
    split at h
    · rename_i k hu
      injection h with h; subst h
      unfold VRep at ha hb
      rw [tAgg_of hu] at ha hb
      obtain ⟨c1, rfl, r1⟩ := ha
      obtain ⟨c2, rfl, r2⟩ := hb
      rcases eqCell_inv (eqCells_one he) with ⟨_, i, a, c, rfl, rfl, rfl⟩ | ⟨q, _⟩ | ⟨q, _⟩
      · rw [cInt r1, cInt r2, run_equalIn_int w D t _ _ _ _ hu]
        rfl
      · cases q
      · cases q
    · rename_i hu
      injection h with h; subst h
      unfold VRep at ha hb
      rw [tAgg_of hu] at ha hb
      obtain ⟨c1, rfl, r1⟩ := ha
      obtain ⟨c2, rfl, r2⟩ := hb
      rcases eqCell_inv (eqCells_one he) with ⟨q, _⟩ | ⟨q, _⟩ | ⟨_, a, c, rfl, rfl, rfl⟩
      · cases q
      · cases q
      · rw [cBool r1, cBool r2, run_equalIn_bool w D t _ _ hu]
    · rename_i hu
      injection h with h; subst h
      unfold VRep at ha hb
      rw [tAgg_of hu] at ha hb
      obtain ⟨c1, rfl, r1⟩ := ha
      obtain ⟨c2, rfl, r2⟩ := hb
      rcases eqCell_inv (eqCells_one he) with ⟨q, _⟩ | ⟨_, a, c, rfl, rfl, rfl⟩ | ⟨q, _⟩
      · cases q
      · rw [cStr r1, cStr r2, run_equalIn_string w D t _ _ hu, bytes_toList, bytes_toList, beq_l]
      · cases q
    · rename_i fs hu
      split at h
      · cases h
      · rename_i hsi
        unfold VRep at ha hb
        rw [tAgg_of hu] at ha hb
        obtain ⟨xs, rfl, hx, hxr⟩ := ha
        obtain ⟨ys, rfl, hy, hyr⟩ := hb
        have hfo : P.fieldsOf t = fs := by simp [Program.fieldsOf, hu]
        rw [run_equalIn_struct w D t xs ys (by rw [hfo]; exact hu) (by simpa using hsi), hfo]
        exact flat_fields D (flatT P d) (fun t ks va vb cs ds b h1 h2 h3 h4 => flat_ok d D (by omega) t ks va vb cs ds b h1 h2 h3 h4) (fun t ks h1 h2 => flat_one h1 h2) xs ys cs ds hx hy hxr hyr fs.toList 0 ks b h (by simpa using he)
    · cases h

theorem eqS_ok {t : TypeId} {fs : Array Field} (hu : P.underlying t = some (.struct fs)) {ks : List CK} (hf : flatT P 10 t = some ks) (hg : P.eqGuardType P.depth t = false) (n : Bool) (xo yo : Operand) {x y z : AV} {v u : Value}
    (hx : RepA w F β H nx x v) (hy : RepA w F β H nx y u) (h : eqSA ks n x y = some z) :
    ∃ r, (do eqGuard (if n then .neq else .eql) t xo yo v u; binOp (if n then .neq else .eql) t v u : Sem Value).run P w = .ok r w ∧ RepA w F β H nx z r := by
  unfold eqSA at h
  split at h
  · rename_i xs ys
    obtain ⟨b, hb, rfl⟩ := Option.map_eq_some_iff.1 h
    obtain ⟨vs, rfl, hs, hr⟩ := agg_inv hx
    obtain ⟨us, rfl, hs', hr'⟩ := agg_inv hy
    have he : (Op.equal t (.agg vs) (.agg us)).run P w = .ok b w := by
      refine flat_ok (F := F) (β := β) (H := H) (nx := nx) 10 10000 (by omega) t ks _ _ xs ys b hf ?_ ?_ hb
      · unfold VRep; rw [tAgg_of hu]; exact ⟨vs, rfl, hs, hr⟩
      · unfold VRep; rw [tAgg_of hu]; exact ⟨us, rfl, hs', hr'⟩
    refine ⟨.bool (neg n b), ?_, rB _⟩
    have hgd : ∀ op, (eqGuard op t xo yo (.agg vs) (.agg us)).run P w = .ok () w := by
      intro op
      unfold eqGuard
      cases op <;> simp [hg]
    cases n
    · simp only [Sem.run_bind, hgd, Result.andThen_ok, Bool.false_eq_true, if_false]
      have : binOp .eql t (.agg vs) (.agg us) = (do pure (.bool (← Op.equal t (.agg vs) (.agg us)))) := rfl
      simp [this, he, neg]
    · simp only [Sem.run_bind, hgd, Result.andThen_ok, if_true]
      have : binOp .neq t (.agg vs) (.agg us) = (do pure (.bool (!(← Op.equal t (.agg vs) (.agg us))))) := rfl
      simp [this, he, neg]
  · cases h

end
end Go.Ab
end PAb12

section PAb13
/- The framework 'Ab', part 13: the operations, one by one, joined. -/
set_option linter.unusedVariables false
set_option linter.unusedSimpArgs false
namespace Go.Ab

section
variable {P : Program} {w : World} {F : Imm} {β : Nat → Nat} {H : Heap} {nx : Nat}

theorem OpOk.of (hs : Sim w H β F nx) {s : Sem Value} {al : Nat} {x : Option AV} {r : Res} (h : pure0 x = some r) (hr : ∀ y, x = some y → ∃ u, s.run P w = .ok u w ∧ RepA w F β H nx y u) :
    OpOk P w H β F nx (do pure (.value (← s))) al r := by
  obtain ⟨y, hy, rfl⟩ := pure0_inv h
  obtain ⟨u, h1, h2⟩ := hr y hy
  exact OpOk.val hs (by simp [h1]) h2

theorem argsO_len : ∀ {l : List Operand} {as : List Arg}, argsO l = some as → as.length = l.length ∧ ∀ (j : Nat) (x : Operand) (a : Arg), l[j]? = some x → as[j]? = some a → argO x = some a
  | [], as, h => by simp only [argsO, Option.some.injEq] at h; subst h; exact ⟨rfl, fun j x a h => by simp at h⟩
  | x :: l, as, h => by
    simp only [argsO] at h
    split at h
    · rename_i a as' h1 h2
      injection h with h; subst h
      obtain ⟨e1, e2⟩ := argsO_len h2
      refine ⟨by simp [e1], fun j y b hy hb => ?_⟩
      cases j with
      | zero => simp at hy hb; subst hy; subst hb; exact h1
      | succ j => exact e2 j y b (by simpa using hy) (by simpa using hb)
    · cases h

theorem args_rep {ε : Operand → Value} {ρ : Arg → AV} (hρ : ∀ x y, argO x = some y → RepA w F β H nx (ρ y) (ε x)) {l : Array Operand} {as : List Arg} (h : argsO l.toList = some as) :
    (as.map ρ).length = (l.map ε).size ∧ ∀ (j : Nat) (a : AV) (v : Value), (as.map ρ)[j]? = some a → (l.map ε)[j]? = some v → RepA w F β H nx a v := by
  obtain ⟨e1, e2⟩ := argsO_len h
  refine ⟨by simp [e1], fun j a v ha hv => ?_⟩
  simp only [List.getElem?_map, Option.map_eq_some_iff] at ha
  obtain ⟨b, hb, rfl⟩ := ha
  simp only [Array.getElem?_map, Option.map_eq_some_iff] at hv
  obtain ⟨x, hx, rfl⟩ := hv
  exact hρ _ _ (e2 j x b (by simpa using hx) hb)

theorem argM_rep {ε : Operand → Value} {ρ : Arg → AV} (hρ : ∀ x y, argO x = some y → RepA w F β H nx (ρ y) (ε x)) {x : Option Operand} {a : Option Arg} (h : argM x = some a) :
    (∀ b, a.map ρ = some b → ∃ v, x.map ε = some v ∧ RepA w F β H nx b v) ∧ (a.map ρ = none → x.map ε = none) := by
  cases x with
  | none => simp only [argM, Option.some.injEq] at h; subst h; simp
  | some x =>
    simp only [argM] at h
    obtain ⟨y, hy, rfl⟩ := Option.map_eq_some_iff.1 h
    refine ⟨fun b hb => ?_, fun hb => by simp at hb⟩
    simp only [Option.map_some, Option.some.injEq] at hb
    subst hb
    exact ⟨_, rfl, hρ _ _ hy⟩

theorem nargs_rep {ε : Operand → Value} {ρ : Arg → AV} (hρ : ∀ x y, argO x = some y → RepA w F β H nx (ρ y) (ε x)) : ∀ {l : List (Nat × Operand)} {as : List (Nat × Arg)}, nargs l = some as →
    as.length = l.length ∧ ∀ (k i : Nat) (x : AV) (i' : Nat) (v : Value), (as.map fun (i, x) => (i, ρ x))[k]? = some (i, x) → (l.map fun (i, x) => (i, ε x))[k]? = some (i', v) → i' = i ∧ RepA w F β H nx x v
  | [], as, h => by simp only [nargs, Option.some.injEq] at h; subst h; exact ⟨rfl, fun k i x i' v h => by simp at h⟩
  | (i0, x0) :: l, as, h => by
    simp only [nargs] at h
    split at h
    · rename_i a as' h1 h2
      injection h with h; subst h
      obtain ⟨e1, e2⟩ := nargs_rep hρ h2
      refine ⟨by simp [e1], fun k i x i' v hx hv => ?_⟩
      cases k with
      | zero =>
        simp only [List.map_cons, List.getElem?_cons_zero, Option.some.injEq, Prod.mk.injEq] at hx hv
        obtain ⟨rfl, rfl⟩ := hx
        obtain ⟨rfl, rfl⟩ := hv
        exact ⟨rfl, hρ _ _ h1⟩
      | succ k => exact e2 k i x i' v (by simpa using hx) (by simpa using hv)
    · cases h
theorem partsO_rep {ε : Operand → Value} {ρ : Arg → AV} (hρ : ∀ x y, argO x = some y → RepA w F β H nx (ρ y) (ε x)) (ps : List (Nat × Nat)) : ∀ {l : List (Nat × Operand)} {as : List (Nat × Nat × Arg)}, partsO ps l = some as →
    as.length = l.length ∧ ∀ (k o n : Nat) (x : AV) (i : Nat) (v : Value), (as.map fun (o, n, x) => (o, n, ρ x))[k]? = some (o, n, x) → (l.map fun (i, x) => (i, ε x))[k]? = some (i, v) → ps.toArray[i]? = some (o, n) ∧ RepA w F β H nx x v
  | [], as, h => by simp only [partsO, Option.some.injEq] at h; subst h; exact ⟨rfl, fun k o n x i v h => by simp at h⟩
  | (i0, x0) :: l, as, h => by
    simp only [partsO] at h
    split at h
    · rename_i o0 n0 a as' h0 h1 h2
      injection h with h; subst h
      obtain ⟨e1, e2⟩ := partsO_rep hρ ps h2
      refine ⟨by simp [e1], fun k o n x i v hx hv => ?_⟩
      cases k with
      | zero =>
        simp only [List.map_cons, List.getElem?_cons_zero, Option.some.injEq, Prod.mk.injEq] at hx hv
        obtain ⟨rfl, rfl, rfl⟩ := hx
        obtain ⟨rfl, rfl⟩ := hv
        exact ⟨by simpa using h0, hρ _ _ h1⟩
      | succ k => exact e2 k o n x i v (by simpa using hx) (by simpa using hv)
    · cases h
theorem partsA_rep {ε : Operand → Value} {ρ : Arg → AV} (hρ : ∀ x y, argO x = some y → RepA w F β H nx (ρ y) (ε x)) (es : Nat) : ∀ {l : List (Nat × Operand)} {as : List (Nat × Nat × Arg)}, partsA es l = some as →
    as.length = l.length ∧ ∀ (k o n : Nat) (x : AV) (i : Nat) (v : Value), (as.map fun (o, n, x) => (o, n, ρ x))[k]? = some (o, n, x) → (l.map fun (i, x) => (i, ε x))[k]? = some (i, v) → some (i * es, es) = some (o, n) ∧ RepA w F β H nx x v
  | [], as, h => by simp only [partsA, Option.some.injEq] at h; subst h; exact ⟨rfl, fun k o n x i v h => by simp at h⟩
  | (i0, x0) :: l, as, h => by
    simp only [partsA] at h
    split at h
    · rename_i a as' h1 h2
      injection h with h; subst h
      obtain ⟨e1, e2⟩ := partsA_rep hρ es h2
      refine ⟨by simp [e1], fun k o n x i v hx hv => ?_⟩
      cases k with
      | zero =>
        simp only [List.map_cons, List.getElem?_cons_zero, Option.some.injEq, Prod.mk.injEq] at hx hv
        obtain ⟨rfl, rfl, rfl⟩ := hx
        obtain ⟨rfl, rfl⟩ := hv
        exact ⟨rfl, hρ _ _ h1⟩
      | succ k => exact e2 k o n x i v (by simpa using hx) (by simpa using hv)
    · cases h

theorem move_ok (hs : Sim w H β F nx) {x : AV} {v : Value} {al : Nat} (hx : RepA w F β H nx x v) : OpOk P w H β F nx (pure (.value v)) al (.v x) := OpOk.val hs rfl hx
theorem nilRow_ok (hs : Sim w H β F nx) {es : Nat} (hes : 0 < es) {al : Nat} (hal : Al H nx al) : OpOk P w H β F nx (pure (.value (.slice none 0 0))) al (.new (.c (.ref al 0 0 0)) (.row 0 es .nil [])) := by
  refine ⟨_, .slice none 0 0, w, β, F, rfl, .inl rfl, fun nx' hn hl => ?_⟩
  obtain ⟨s1, s2⟩ := simVoid (nx' := nx') hs al 0 es .nil (by simp) hes (.inl hal) hn (hl rfl)
  exact ⟨s1, s2, refVal (hl rfl) ⟨by simp, fun _ => rfl, (by intro q; cases q), (by intro q; cases q)⟩⟩

theorem tElem_inv {t e : TypeId} {n : Nat} (h : tElem P t = some (e, n)) : P.underlying t = some (.slice e) ∧ tSize P e = some n := by
  unfold tElem at h
  split at h
  · rename_i e' hu
    obtain ⟨n', hn, heq⟩ := Option.map_eq_some_iff.1 h
    simp only [Prod.mk.injEq] at heq
    obtain ⟨rfl, rfl⟩ := heq
    exact ⟨hu, hn⟩
  · cases h

theorem box_ok (hs : Sim w H β F nx) {x : AV} {v : Value} (hx : RepA w F β H nx x v) {al : Nat} (hal : Al H nx al) (t : TypeId) {r : Res}
    (h : boxA x al = some r) : OpOk P w H β F nx (do pure (.value (← Instr.box t v))) al r := by
  unfold boxA at h
  split at h
  case h_2 => cases h
  rename_i c cs' hcs
  injection h with h; subst h
  obtain ⟨cs, hcse⟩ : ∃ cs, cs = c :: cs' := ⟨_, rfl⟩
  rw [← hcse] at hcs
  have hlen : cs'.length + 1 = cs.length := by rw [hcse]; rfl
  rw [hlen, ← hcse]
  obtain ⟨h1, h2⟩ := cellsA_rep hx hcs
  have hpos : 0 < cs.length := by omega
  obtain ⟨e1, e2, e3⟩ := one_rep (w := w) (F := F) (β := β) (H := H) (nx := nx) (cs := cs) (cells := v.cells) ⟨h1, h2⟩
  refine ⟨.value (.pointer (some ⟨w.heap.size, 0, none⟩)), _, { w with heap := w.heap.push (.cells v.cells t) }, updN β al w.heap.size, F, ?_, .inl rfl, fun nx' hn hl => ?_⟩
  · simp [Instr.box, newVar, newRow]
  · obtain ⟨s1, s2⟩ := newRow_ok (nx' := nx') hs hal hn (hl rfl) v.cells t cs.length [cs] hpos e2 (by simp [h1]) e3
    exact ⟨s1, s2, ptr_new (hl rfl) _⟩

theorem boxI_ok (hs : Sim w H β F nx) {x : AV} {v : Value} (hx : RepA w F β H nx x v) {al : Nat} (t : TypeId) {r : Res} (h : pure0 (((cellsA x).bind toPs).map fun ps => .c (.p (.ptr ps))) = some r) :
    OpOk P w H β F nx (do pure (.value (← Instr.box t v))) al r := by
  obtain ⟨y, hy, rfl⟩ := pure0_inv h
  obtain ⟨ps, hps, rfl⟩ := Option.map_eq_some_iff.1 hy
  obtain ⟨cs, hcs, htp⟩ := Option.bind_eq_some_iff.1 hps
  obtain rfl := toPs_rep htp
  obtain ⟨h1, h2⟩ := cellsA_rep hx hcs
  simp only [List.length_map] at h1
  have hr : ∀ (j : Nat) (p : PV), ps[j]? = some p → ∃ u, v.cells[j]? = some u ∧ RepP w F p u := by
    intro j p hj
    obtain ⟨u, hu, hr⟩ := h2 j (.p p) (by simp [hj])
    exact ⟨u, hu, by cases hr with | p p v h => exact h⟩
  have hmk := fun nx' (hn : nx ≤ nx') => newImm_ok hs hn v.cells t ps h1.symm hr
  refine ⟨.value (.pointer (some ⟨w.heap.size, 0, none⟩)), _, { w with heap := w.heap.push (.cells v.cells t) }, β, fun b o => F b o ∨ (b = w.heap.size ∧ o < v.cells.size), ?_, .inl rfl, fun nx' hn _ => ?_⟩
  · simp [Instr.box, newVar, newRow]
  · obtain ⟨F', s1, s2, s3⟩ := hmk nx' hn
    obtain rfl : F' = fun b o => F b o ∨ (b = w.heap.size ∧ o < v.cells.size) := by funext b o; exact propext (s3 b o)
    refine ⟨s1, s2, .c _ _ (.p _ _ (.ptr _ _ (fun j => v.cells.getD j undef) rfl (fun j hj => ?_) (fun j c hj => ?_)))⟩
    · have hj' : j < v.cells.size := by omega
      refine ⟨?_, .inr ⟨rfl, by show 0 + j < _; omega⟩⟩
      simp [World.cell?, Array.getElem?_eq_getElem hj', Array.getD_eq_getD_getElem?]
    · obtain ⟨u, hu, hr'⟩ := hr j c hj
      simp only [Array.getD_eq_getD_getElem?, hu, Option.getD_some]
      exact hr'.mono s2.mono s2.cell

theorem alloc_ok (hs : Sim w H β F nx) {t : TypeId} {zero : List CV} (hz : tZero P t = some zero) {al : Nat} (hal : Al H nx al) (es n : Nat) (elems : List (List CV)) (hes : 0 < es)
    (he : ∀ cells, RepL w F β H nx zero cells → RepE w F β H nx es elems cells) : OpOk P w H β F nx (do pure (.value (← Instr.alloc t true (.tuple #[])))) al (.new (.c (.ptr al 0 0 0)) (.row 0 es .own elems)) := by
  obtain ⟨z, hzr, hrep⟩ := zero_ok (P := P) (w := w) (F := F) (β := β) (H := H) (nx := nx) hz
  obtain ⟨e1, e2, e3⟩ := he _ hrep
  refine ⟨.value (.pointer (some ⟨w.heap.size, 0, none⟩)), _, { w with heap := w.heap.push (.cells z.cells t) }, updN β al w.heap.size, F, ?_, .inl rfl, fun nx' hn hl => ?_⟩
  · simp [Instr.alloc, hzr, newVar, newRow]
  · obtain ⟨s1, s2⟩ := newRow_ok (nx' := nx') hs hal hn (hl rfl) z.cells t es elems hes e2 e1.symm e3
    exact ⟨s1, s2, ptr_new (hl rfl) _⟩

theorem RepL.toE {zero : List CV} {cells : Array Value} (h : RepL w F β H nx zero cells) (n : Nat) (hz : 0 < zero.length) :
    RepE w F β H nx zero.length (List.replicate n zero) ((Array.range (n * zero.length)).map (cells[· % cells.size]!)) := by
  obtain ⟨h1, h2⟩ := h
  refine ⟨by simp, fun i e he => ?_, fun i j e c he hc => ?_⟩
  · rw [List.getElem?_replicate] at he
    split at he
    · injection he with he; rw [← he]
    · cases he
  · rw [List.getElem?_replicate] at he
    split at he
    · rename_i hi
      injection he with he; subst he
      have hj : j < zero.length := (List.getElem?_eq_some_iff.1 hc).1
      obtain ⟨v, hv, hr⟩ := h2 j c hc
      refine ⟨v, ?_, hr⟩
      have hlt := idx_lt hi hj
      have hmod : (i * zero.length + j) % cells.size = j := by rw [h1, Nat.mul_comm, Nat.mul_add_mod, Nat.mod_eq_of_lt hj]
      have hj' : j < cells.size := by omega
      simp [hlt, hmod, getElem!_pos cells j hj']
      rw [Array.getElem?_eq_getElem hj'] at hv
      injection hv
    · cases he

theorem buildSlice_run {t e : TypeId} {len es : Nat} {parts : Array (Nat × Value)} {zero : List CV} (ht : P.underlying t = some (.slice e)) (hn : tSize P e = some es) (hz : tZero P e = some zero) (hzl : zero.length = es) (hes : es ≠ 0) (hbig : ¬ len * es > 2 ^ 24)
    {aps : List (Nat × AV)} {cs : List (List CV)} (h : litA es (List.replicate len zero) aps = some cs) (hl : aps.length = parts.size) (hr : ∀ (k i : Nat) (x : AV) (i' : Nat) (v : Value), aps[k]? = some (i, x) → parts[k]? = some (i', v) → i' = i ∧ RepA w F β H nx x v) :
    ∃ cells, (Instr.buildSlice t len parts).run P w = .ok (.slice (some ⟨w.heap.size, 0, none⟩) len len) { w with heap := w.heap.push (.cells cells e) } ∧ RepE w F β H nx es cs cells := by
  obtain ⟨z, hzr, hrep⟩ := zero_ok (P := P) (w := w) (F := F) (β := β) (H := H) (nx := nx) hz
  have hE := hrep.toE len (by omega)
  rw [hzl] at hE
  obtain ⟨cells', hf, hE'⟩ := lit_ok hE h (cps := parts.toList) (by rw [hl]; rfl) (fun k i x i' v h1 h2 => hr k i x i' v h1 (by simpa using h2))
  refine ⟨cells', ?_, hE'⟩
  by_cases h0 : len = 0
  · subst h0
    have hr0 : Array.range 0 = #[] := rfl
    have hf' : Instr.fill (fun i => some (i * es, es)) #[] parts.toList = some cells' := by simpa [hr0] using hf
    simp [Instr.buildSlice, run_underlying ht, run_sizeOf w hn, hf', hr0, newRow]
  · have hne : len * es ≠ 0 := Nat.mul_ne_zero h0 hes
    have hb : ¬ (16777216 < len * es) := by omega
    simp [Instr.buildSlice, run_underlying ht, run_sizeOf w hn, h0, hes, hb, hzr, hf, newRow]
    intro hq
    exact absurd hq hne

theorem litA_len {es : Nat} : ∀ {aps : List (Nat × AV)} {elems cs : List (List CV)}, litA es elems aps = some cs → cs.length = elems.length
  | [], elems, cs, h => by simp only [litA, Option.some.injEq] at h; rw [h]
  | (i, x) :: aps, elems, cs, h => by
    simp only [litA] at h
    split at h
    · split at h
      · rw [litA_len h]; simp
      · cases h
    · cases h
theorem toPss_rep : ∀ {cs : List (List CV)} {ps : List (List PV)}, toPss cs = some ps → cs = ps.map (·.map .p)
  | [], ps, h => by simp only [toPss, Option.some.injEq] at h; subst h; rfl
  | c :: cs, ps, h => by
    simp only [toPss] at h
    split at h
    · rename_i e r h1 h2
      injection h with h; subst h
      rw [toPs_rep h1, toPss_rep h2]; rfl
    · cases h

/-- A literal that is never written. -/
theorem immSlice_ok (hs : Sim w H β F nx) {nx' : Nat} (hn : nx ≤ nx') {es : Nat} {ps : List (List PV)} {cells : Array Value} (hE : RepE w F β H nx es (ps.map (·.map .p)) cells) (e : TypeId) :
    Sim { w with heap := w.heap.push (.cells cells e) } H β (fun b o => F b o ∨ (b = w.heap.size ∧ o < cells.size)) nx' ∧
    Ext w H β F nx { w with heap := w.heap.push (.cells cells e) } H β (fun b o => F b o ∨ (b = w.heap.size ∧ o < cells.size)) nx' ∧
    RepA { w with heap := w.heap.push (.cells cells e) } (fun b o => F b o ∨ (b = w.heap.size ∧ o < cells.size)) β H nx' (.c (.p (.sl es true ps))) (.slice (some ⟨w.heap.size, 0, none⟩) ps.length ps.length) := by
  obtain ⟨e1, e2, e3⟩ := hE
  simp only [List.length_map] at e1
  have hps : ∀ (i : Nat) (q : List PV), ps[i]? = some q → q.length = es := fun i q hq => by
    have := e2 i (q.map .p) (by simp [hq])
    simpa using this
  -- one flat row of cells
  have hflat : ∃ qs : List PV, qs.length = cells.size ∧ ∀ (j : Nat) (p : PV), qs[j]? = some p → ∃ v, cells[j]? = some v ∧ RepP w F p v := by
    refine ⟨ps.flatten, ?_, ?_⟩
    · rw [e1, List.length_flatten]
      have : ps.map List.length = List.replicate ps.length es := by
        apply List.ext_getElem
        · simp
        · intro i h1 h2
          simp only [List.getElem_map, List.getElem_replicate]
          exact hps i _ (List.getElem?_eq_getElem (by simpa using h1))
      rw [this]; simp
    · intro j p hj
      by_cases hes : es = 0
      · have : ps.flatten = [] := by
          rw [List.flatten_eq_nil_iff]
          intro q hq
          obtain ⟨i, hi, rfl⟩ := List.getElem_of_mem hq
          exact List.eq_nil_of_length_eq_zero (by rw [hps i _ (List.getElem?_eq_getElem hi), hes])
        rw [this] at hj; simp at hj
      · have hkey : ∀ (ps : List (List PV)) (j : Nat) (p : PV), (∀ (i : Nat) (q : List PV), ps[i]? = some q → q.length = es) → ps.flatten[j]? = some p → ∃ i k q, j = i * es + k ∧ ps[i]? = some q ∧ q[k]? = some p := by
          intro ps
          induction ps with
          | nil => intro j p _ hj; simp at hj
          | cons q ps ih =>
            intro j p hl hj
            have hq : q.length = es := hl 0 q rfl
            simp only [List.flatten_cons] at hj
            rw [List.getElem?_append] at hj
            split at hj
            · exact ⟨0, j, q, by simp, rfl, hj⟩
            · rename_i hge
              obtain ⟨i, k, q', h1, h2, h3⟩ := ih (j - q.length) p (fun i q hq => hl (i + 1) q (by simpa using hq)) hj
              refine ⟨i + 1, k, q', ?_, by simpa using h2, h3⟩
              rw [Nat.add_mul]; omega
        obtain ⟨i, k, q, rfl, hq, hk⟩ := hkey ps j p hps hj
        obtain ⟨v, hv, hr⟩ := e3 i k (q.map .p) (.p p) (by simp [hq]) (by simp [hk])
        exact ⟨v, hv, by cases hr with | p p v h => exact h⟩
  obtain ⟨qs, hq1, hq2⟩ := hflat
  obtain ⟨F', s1, s2, s3⟩ := newImm_ok (nx' := nx') hs hn cells e qs hq1 hq2
  obtain rfl : F' = fun b o => F b o ∨ (b = w.heap.size ∧ o < cells.size) := by funext b o; exact propext (s3 b o)
  refine ⟨s1, s2, .c _ _ (.p _ _ (.sl _ _ _ _ _ (fun j => cells.getD j undef) (Nat.le_refl _) (fun _ => rfl) hps (fun j hj => ⟨rfl, ?_, .inr ⟨rfl, by show 0 + j < _; omega⟩⟩) (fun i j q c hq hc => ?_)))⟩
  · have hj' : j < cells.size := by omega
    simp [World.cell?, Array.getElem?_eq_getElem hj', Array.getD_eq_getD_getElem?]
  · obtain ⟨v, hv, hr⟩ := e3 i j (q.map .p) (.p c) (by simp [hq]) (by simp [hc])
    simp only [Array.getD_eq_getD_getElem?, hv, Option.getD_some]
    cases hr with | p p v h => exact h.mono s2.mono s2.cell

theorem lit_op (hs : Sim w H β F nx) {t e : TypeId} {len es : Nat} {parts : Array (Nat × Value)} {zero : List CV} (ht : P.underlying t = some (.slice e)) (hn : tSize P e = some es) (hz : tZero P e = some zero) (hzl : zero.length = es) (hes : es ≠ 0) (hbig : ¬ len * es > 2 ^ 24)
    {aps : List (Nat × AV)} (hl : aps.length = parts.size) (hr : ∀ (k i : Nat) (x : AV) (i' : Nat) (v : Value), aps[k]? = some (i, x) → parts[k]? = some (i', v) → i' = i ∧ RepA w F β H nx x v) {al : Nat} {r : Res}
    (h : pure0 (((litA es (List.replicate len zero) aps).bind toPss).map fun ps => .c (.p (.sl es true ps))) = some r) : OpOk P w H β F nx (do pure (.value (← Instr.buildSlice t len parts))) al r := by
  obtain ⟨y, hy, rfl⟩ := pure0_inv h
  obtain ⟨ps, hps, rfl⟩ := Option.map_eq_some_iff.1 hy
  obtain ⟨cs, hcs, htp⟩ := Option.bind_eq_some_iff.1 hps
  have hcl := litA_len hcs
  obtain rfl := toPss_rep htp
  simp only [List.length_map, List.length_replicate] at hcl
  obtain ⟨cells, hrun, hE⟩ := buildSlice_run ht hn hz hzl hes hbig hcs hl hr
  refine ⟨_, _, _, β, fun b o => F b o ∨ (b = w.heap.size ∧ o < cells.size), by simp only [Sem.run_bind, hrun]; rfl, .inl rfl, fun nx' hnx _ => ?_⟩
  obtain ⟨s1, s2, s3⟩ := immSlice_ok (nx' := nx') hs hnx hE e
  rw [hcl] at s3
  exact ⟨s1, s2, s3⟩

theorem litR_op (hs : Sim w H β F nx) {t e : TypeId} {len es : Nat} {parts : Array (Nat × Value)} {zero : List CV} (ht : P.underlying t = some (.slice e)) (hn : tSize P e = some es) (hz : tZero P e = some zero) (hzl : zero.length = es) (hes : es ≠ 0) (hbig : ¬ len * es > 2 ^ 24)
    {aps : List (Nat × AV)} (hl : aps.length = parts.size) (hr : ∀ (k i : Nat) (x : AV) (i' : Nat) (v : Value), aps[k]? = some (i, x) → parts[k]? = some (i', v) → i' = i ∧ RepA w F β H nx x v) {al : Nat} (hal : Al H nx al) {r : Res}
    (h : ((litA es (List.replicate len zero) aps).map fun cs => Res.new (.c (.ref al 0 0 cs.length)) (.row 0 es .own cs)) = some r) : OpOk P w H β F nx (do pure (.value (← Instr.buildSlice t len parts))) al r := by
  obtain ⟨cs, hcs, rfl⟩ := Option.map_eq_some_iff.1 h
  have hcl := litA_len hcs
  simp only [List.length_replicate] at hcl
  obtain ⟨cells, hrun, e1, e2, e3⟩ := buildSlice_run ht hn hz hzl hes hbig hcs hl hr
  refine ⟨_, _, _, updN β al w.heap.size, F, by simp only [Sem.run_bind, hrun]; rfl, .inl rfl, fun nx' hnx hlt => ?_⟩
  obtain ⟨s1, s2⟩ := newRow_ok (nx' := nx') hs hal hnx (hlt rfl) cells e es cs (by omega) e2 e1.symm e3
  refine ⟨s1, s2, ?_⟩
  rw [← hcl]
  refine refVal (hlt rfl) ⟨by simp, (by intro q; cases q), (by intro q; cases q), fun _ => ⟨_, _, rfl, Nat.le_refl _, fun _ => by simp [updN], cells, e, by simp [updN], by rw [e1]; simp⟩⟩

end
end Go.Ab
end PAb13

section PAb14
/- The framework 'Ab', part 14: the operations joined: what 'compO' gives is sound. -/
set_option linter.unusedVariables false
set_option linter.unusedSimpArgs false
set_option maxHeartbeats 1000000
namespace Go.Ab

section
variable {P : Program} {w : World} {F : Imm} {β : Nat → Nat} {H : Heap} {nx : Nat}

theorem eqO_ok (hs : Sim w H β F nx) {n : Bool} {t : TypeId} {x y : Operand} {ao : AO} (hc : eqO P n t x y = some ao) {ε : Operand → Value} {ρ : Arg → AV} (hρ : ∀ x y, argO x = some y → RepA w F β H nx (ρ y) (ε x)) (hε : ∀ v, ε (.const v) = v)
    {al : Nat} {r : Res} (h : evalA ao al ρ H = some r) :
    OpOk P w H β F nx (do pure (.value (← (do eqGuard (if n then .neq else .eql) t x y (ε x) (ε y); binOp (if n then .neq else .eql) t (ε x) (ε y) : Sem Value)))) al r := by
  unfold eqO at hc
  simp only [Option.bind_eq_bind, Option.pure_def] at hc
  obtain ⟨d, hd, hc⟩ := Option.bind_eq_some_iff.1 hc
  have two : ∀ {a b : Arg} {op : BinOp}, argO x = some a → argO y = some b → op = (if n then .neq else .eql) → evalA (.bin op a b) al ρ H = some r →
      OpOk P w H β F nx (do pure (.value (← (do eqGuard (if n then .neq else .eql) t x y (ε x) (ε y); binOp (if n then .neq else .eql) t (ε x) (ε y) : Sem Value)))) al r := by
    intro a b op ha hb ho h
    subst ho
    simp only [evalA] at h
    exact OpOk.of hs h fun z hz => binA_ok t _ x y (hρ _ _ ha) (hρ _ _ hb) hz
  split at hc
  · obtain ⟨a, ha, hc⟩ := Option.bind_eq_some_iff.1 hc
    obtain ⟨b, hb, hc⟩ := Option.bind_eq_some_iff.1 hc
    injection hc with hc; subst hc
    exact two ha hb (by cases n <;> rfl) h
  · obtain ⟨a, ha, hc⟩ := Option.bind_eq_some_iff.1 hc
    obtain ⟨b, hb, hc⟩ := Option.bind_eq_some_iff.1 hc
    injection hc with hc; subst hc
    exact two ha hb (by cases n <;> rfl) h
  · obtain ⟨a, ha, hc⟩ := Option.bind_eq_some_iff.1 hc
    obtain ⟨b, hb, hc⟩ := Option.bind_eq_some_iff.1 hc
    injection hc with hc; subst hc
    simp only [evalA] at h
    exact OpOk.of hs h fun z hz => eqBA_ok t n hd x y (hρ _ _ ha) (hρ _ _ hb) hz
  · split at hc
    · obtain ⟨a, ha, hc⟩ := Option.bind_eq_some_iff.1 hc
      injection hc with hc; subst hc
      simp only [evalA] at h
      rw [hε]
      exact OpOk.of hs h fun z hz => (eqN_slice hd n _ _ (hρ _ _ ha) hz).1
    · obtain ⟨a, ha, hc⟩ := Option.bind_eq_some_iff.1 hc
      injection hc with hc; subst hc
      simp only [evalA] at h
      rw [hε]
      exact OpOk.of hs h fun z hz => (eqN_slice hd n _ _ (hρ _ _ ha) hz).2
    · cases hc
  · split at hc
    · obtain ⟨a, ha, hc⟩ := Option.bind_eq_some_iff.1 hc
      injection hc with hc; subst hc
      simp only [evalA] at h
      rw [hε]
      exact OpOk.of hs h fun z hz => (eqN_iface hd n _ (hρ _ _ ha) hz).1
    · obtain ⟨a, ha, hc⟩ := Option.bind_eq_some_iff.1 hc
      injection hc with hc; subst hc
      simp only [evalA] at h
      rw [hε]
      exact OpOk.of hs h fun z hz => (eqN_iface hd n _ (hρ _ _ ha) hz).2
    · cases hc
  · split at hc
    · obtain ⟨a, ha, hc⟩ := Option.bind_eq_some_iff.1 hc
      injection hc with hc; subst hc
      simp only [evalA] at h
      rw [hε]
      exact OpOk.of hs h fun z hz => (eqN_ptr hd n _ _ (hρ _ _ ha) hz).1
    · obtain ⟨a, ha, hc⟩ := Option.bind_eq_some_iff.1 hc
      injection hc with hc; subst hc
      simp only [evalA] at h
      rw [hε]
      exact OpOk.of hs h fun z hz => (eqN_ptr hd n _ _ (hρ _ _ ha) hz).2
    · cases hc
  · obtain ⟨ks, hk, hc⟩ := Option.bind_eq_some_iff.1 hc
    split at hc
    · rename_i hg
      obtain ⟨a, ha, hc⟩ := Option.bind_eq_some_iff.1 hc
      obtain ⟨b, hb, hc⟩ := Option.bind_eq_some_iff.1 hc
      injection hc with hc; subst hc
      simp only [evalA] at h
      exact OpOk.of hs h fun z hz => eqS_ok hd hk hg n x y (hρ _ _ ha) (hρ _ _ hb) hz
    · cases hc
  · cases hc

theorem builtinO_ok (hs : Sim w H β F nx) {b : Builtin} {ts : Array TypeId} {xs : Array Operand} {ao : AO} (hc : builtinO P b ts.toList xs.toList = some ao) {ε : Operand → Value} {ρ : Arg → AV} (hρ : ∀ x y, argO x = some y → RepA w F β H nx (ρ y) (ε x))
    {al : Nat} (hal : Al H nx al) {r : Res} (h : evalA ao al ρ H = some r) (ty : TypeId) (cs : Array Bool) :
    OpOk P w H β F nx (builtin b ts ty cs (xs.map ε)) al r := by
  obtain ⟨ts⟩ := ts
  obtain ⟨xs⟩ := xs
  unfold builtinO at hc
  simp only [Option.bind_eq_bind, Option.pure_def] at hc
  split at hc
  · rename_i t x
    obtain ⟨d, hd, hc⟩ := Option.bind_eq_some_iff.1 hc
    split at hc
    · obtain ⟨a, ha, hc⟩ := Option.bind_eq_some_iff.1 hc
      injection hc with hc; subst hc
      simp only [evalA] at h
      simpa [builtin] using OpOk.of (s := Builtin.len_ #[t] ty #[ε x]) hs h fun z hz => lenS_ok hd (hρ _ _ ha) hz
    · obtain ⟨a, ha, hc⟩ := Option.bind_eq_some_iff.1 hc
      injection hc with hc; subst hc
      simp only [evalA] at h
      simpa [builtin] using OpOk.of (s := Builtin.len_ #[t] ty #[ε x]) hs h fun z hz => len_ok hd hs (hρ _ _ ha) hz
    · cases hc
  · rename_i t t2 x y
    obtain ⟨⟨e, n⟩, he, hc⟩ := Option.bind_eq_some_iff.1 hc
    simp only at hc
    obtain ⟨i, hi, hc⟩ := Option.bind_eq_some_iff.1 hc
    obtain ⟨z, hz, hc⟩ := Option.bind_eq_some_iff.1 hc
    obtain ⟨ht, hn⟩ := tElem_inv he
    obtain ⟨i', hi', hin⟩ := info_of_size hn
    rw [hi] at hi'
    injection hi' with hi'
    subst hi'
    split at hc
    · cases hc
    · rename_i hcond
      obtain ⟨d2, hd2, hc⟩ := Option.bind_eq_some_iff.1 hc
      have go : ∀ {a b : Arg}, argO x = some a → argO y = some b → notInt d2 = true → evalA (.append n i.bytes a b) al ρ H = some r → OpOk P w H β F nx (builtin .append #[t, t2] ty cs (#[x, y].map ε)) al r := by
        intro a b ha hb hd h
        simp only [evalA] at h
        have := append_ok (ty := ty) (zc := []) hs ht hi hz (by rw [hin]; omega) hin (by omega) hd2 hd (by omega) (hρ _ _ ha) (hρ _ _ hb) hal h
        simpa [builtin] using this
      split at hc
      · obtain ⟨a, ha, hc⟩ := Option.bind_eq_some_iff.1 hc
        obtain ⟨b, hb, hc⟩ := Option.bind_eq_some_iff.1 hc
        injection hc with hc; subst hc
        exact go ha hb rfl h
      · obtain ⟨a, ha, hc⟩ := Option.bind_eq_some_iff.1 hc
        obtain ⟨b, hb, hc⟩ := Option.bind_eq_some_iff.1 hc
        injection hc with hc; subst hc
        exact go ha hb rfl h
      · cases hc
  · rename_i t t2 x y
    obtain ⟨⟨e, n⟩, he, hc⟩ := Option.bind_eq_some_iff.1 hc
    simp only at hc
    obtain ⟨ht, hn⟩ := tElem_inv he
    split at hc
    · cases hc
    · obtain ⟨a, ha, hc⟩ := Option.bind_eq_some_iff.1 hc
      obtain ⟨b, hb, hc⟩ := Option.bind_eq_some_iff.1 hc
      injection hc with hc; subst hc
      simp only [evalA] at h
      have := copy_ok (t2 := t2) (ty := ty) hs ht hn (hρ _ _ ha) (hρ _ _ hb) (al := al) h
      simpa [builtin] using this
  · rename_i t x
    obtain ⟨⟨e, n⟩, he, hc⟩ := Option.bind_eq_some_iff.1 hc
    simp only at hc
    obtain ⟨z, hz, hc⟩ := Option.bind_eq_some_iff.1 hc
    obtain ⟨ht, hn⟩ := tElem_inv he
    split at hc
    · cases hc
    · rename_i hcond
      obtain ⟨a, ha, hc⟩ := Option.bind_eq_some_iff.1 hc
      injection hc with hc; subst hc
      simp only [evalA] at h
      have := clear_ok (ty := ty) hs ht hz (by omega) (hρ _ _ ha) (al := al) h
      simpa [builtin] using this
  ·
    obtain ⟨as, ha, hc⟩ := Option.bind_eq_some_iff.1 hc
    injection hc with hc; subst hc
    simp only [evalA] at h
    obtain ⟨l1, l2⟩ := args_rep (l := ⟨xs⟩) hρ ha
    have := OpOk.of (al := al) (s := Builtin.min_ ⟨ts⟩ ty ((⟨xs⟩ : Array Operand).map ε)) hs h fun z hz => mins_ok (P := P) (ts := ⟨ts⟩) (ty := ty) false hz l1 l2
    simpa only [builtin] using this
  ·
    obtain ⟨as, ha, hc⟩ := Option.bind_eq_some_iff.1 hc
    injection hc with hc; subst hc
    simp only [evalA] at h
    obtain ⟨l1, l2⟩ := args_rep (l := ⟨xs⟩) hρ ha
    have := OpOk.of (al := al) (s := Builtin.max_ ⟨ts⟩ ty ((⟨xs⟩ : Array Operand).map ε)) hs h fun z hz => mins_ok (P := P) (ts := ⟨ts⟩) (ty := ty) true hz l1 l2
    simpa only [builtin] using this
  · cases hc

theorem evalA_ok (hs : Sim w H β F nx) (m : Marks) {o : Oper} {ao : AO} (hc : compN P m o = some ao) {ε : Operand → Value} {ρ : Arg → AV} (hρ : ∀ x y, argO x = some y → RepA w F β H nx (ρ y) (ε x)) (hε : ∀ v, ε (.const v) = v) (hk : ∀ v, ρ (.k v) = v)
    {al : Nat} (hal : Al H nx al) {r : Res} (h : evalA ao al ρ H = some r) : OpOk P w H β F nx (execOp ε o) al r := by
  unfold compN at hc
  simp only [Option.bind_eq_bind, Option.pure_def] at hc
  split at hc
  case h_1 x hop =>
    unfold execOp
    simp only [hop]
    split at hc
    · rename_i hm
      obtain ⟨⟨e, n⟩, he, hc⟩ := Option.bind_eq_some_iff.1 hc
      simp only at hc
      split at hc
      · cases hc
      · rename_i hn
        injection hc with hc; subst hc
        simp only [evalA, Option.some.injEq] at h
        subst h
        have : x = .const (.slice none 0 0) := by
          simp only [Bool.and_eq_true] at hm
          have := hm.2
          unfold isNilConst at this
          split at this
          · rfl
          · cases this
        subst this
        rw [hε]
        exact nilRow_ok hs (by omega) hal
    · obtain ⟨a, ha, hc⟩ := Option.bind_eq_some_iff.1 hc
      injection hc with hc; subst hc
      simp only [evalA, Option.some.injEq] at h
      subst h
      exact move_ok hs (hρ _ _ ha)
  case h_2 x hop =>
    unfold execOp
    simp only [hop]
    split at hc
    · rename_i hm
      obtain ⟨⟨e, n⟩, he, hc⟩ := Option.bind_eq_some_iff.1 hc
      simp only at hc
      split at hc
      · cases hc
      · rename_i hn
        injection hc with hc; subst hc
        simp only [evalA, Option.some.injEq] at h
        subst h
        have : x = .const (.slice none 0 0) := by
          simp only [Bool.and_eq_true] at hm
          have := hm.2
          unfold isNilConst at this
          split at this
          · rfl
          · cases this
        subst this
        rw [hε]
        exact nilRow_ok hs (by omega) hal
    · obtain ⟨a, ha, hc⟩ := Option.bind_eq_some_iff.1 hc
      injection hc with hc; subst hc
      simp only [evalA, Option.some.injEq] at h
      subst h
      exact move_ok hs (hρ _ _ ha)
  case h_3 c a b hop =>
    unfold execOp
    simp only [hop]
    obtain ⟨ca, hca, hc⟩ := Option.bind_eq_some_iff.1 hc
    obtain ⟨aa, haa, hc⟩ := Option.bind_eq_some_iff.1 hc
    obtain ⟨ba, hba, hc⟩ := Option.bind_eq_some_iff.1 hc
    injection hc with hc; subst hc
    simp only [evalA] at h
    obtain ⟨y, hy, rfl⟩ := pure0_inv h
    unfold pickA at hy
    split at hy
    · rename_i b0 hb0
      injection hy with hy; subst hy
      have hcv := hρ _ _ hca
      rw [hb0] at hcv
      have := bool_inv hcv
      refine OpOk.val (v := if b0 then ε a else ε b) hs (by rw [this]; cases b0 <;> simp [asBool]) ?_
      cases b0
      · exact hρ _ _ hba
      · exact hρ _ _ haa
    · cases hy
  case h_4 t hop =>
    unfold execOp
    simp only [hop]
    obtain ⟨z, hz, hc⟩ := Option.bind_eq_some_iff.1 hc
    obtain ⟨d, hd, hc⟩ := Option.bind_eq_some_iff.1 hc
    split at hc
    · rename_i n e
      obtain ⟨es, hes, hc⟩ := Option.bind_eq_some_iff.1 hc
      split at hc
      · cases hc
      · rename_i hcond
        injection hc with hc; subst hc
        simp only [evalA, Option.some.injEq] at h
        subst h
        exact alloc_ok hs hz hal es n _ (by omega) (fun cells hr => chunks_rep hr (by omega))
    · split at hc
      · cases hc
      · rename_i hcond
        injection hc with hc; subst hc
        simp only [evalA, Option.some.injEq] at h
        subst h
        exact alloc_ok hs hz hal z.length 1 _ (by omega) (fun cells hr => one_rep hr)
  case h_5 t x hop =>
    unfold execOp
    simp only [hop]
    split at hc
    · obtain ⟨a, ha, hc⟩ := Option.bind_eq_some_iff.1 hc
      injection hc with hc; subst hc
      simp only [evalA] at h
      exact box_ok hs (hρ _ _ ha) hal t h
    · obtain ⟨a, ha, hc⟩ := Option.bind_eq_some_iff.1 hc
      injection hc with hc; subst hc
      simp only [evalA] at h
      exact boxI_ok hs (hρ _ _ ha) t h
  case h_6 t parts hop =>
    unfold execOp
    simp only [hop]
    obtain ⟨z, hz, hc⟩ := Option.bind_eq_some_iff.1 hc
    obtain ⟨d, hd, hc⟩ := Option.bind_eq_some_iff.1 hc
    split at hc
    · rename_i fs
      obtain ⟨ps, hps, hc⟩ := Option.bind_eq_some_iff.1 hc
      obtain ⟨as, has, hc⟩ := Option.bind_eq_some_iff.1 hc
      injection hc with hc; subst hc
      simp only [evalA] at h
      obtain ⟨l1, l2⟩ := partsO_rep hρ ps has
      refine OpOk.of hs h fun y hy => ?_
      obtain ⟨cs, hcs, rfl⟩ := Option.map_eq_some_iff.1 hy
      refine build_ok hz (fun i => ps.toArray[i]?) (fun z0 cells' hq hf => ?_) hcs (by simp [l1]) (fun k o n x i v h1 h2 => l2 k o n x i v h1 (by simpa using h2))
      obtain ⟨it, hit, hzz⟩ := hq
      unfold placesO at hps
      simp only [Program.built, hit, hd, hzz, hps]
      exact hf
    · rename_i n e
      obtain ⟨es, hes, hc⟩ := Option.bind_eq_some_iff.1 hc
      obtain ⟨as, has, hc⟩ := Option.bind_eq_some_iff.1 hc
      injection hc with hc; subst hc
      simp only [evalA] at h
      obtain ⟨l1, l2⟩ := partsA_rep hρ es has
      refine OpOk.of hs h fun y hy => ?_
      obtain ⟨cs, hcs, rfl⟩ := Option.map_eq_some_iff.1 hy
      refine build_ok hz (fun i => some (i * es, es)) (fun z0 cells' hq hf => ?_) hcs (by simp [l1]) (fun k o n x i v h1 h2 => l2 k o n x i v h1 (by simpa using h2))
      obtain ⟨it, hit, hzz⟩ := hq
      obtain ⟨ie, hie, rfl⟩ := info_of_size hes
      simp only [Program.built, hit, hd, hzz, hie]
      exact hf
    · cases hc
  case h_7 t len parts hop =>
    unfold execOp
    simp only [hop]
    obtain ⟨⟨e, es⟩, he, hc⟩ := Option.bind_eq_some_iff.1 hc
    simp only at hc
    obtain ⟨ht, hn⟩ := tElem_inv he
    obtain ⟨z, hz, hc⟩ := Option.bind_eq_some_iff.1 hc
    split at hc
    · cases hc
    · rename_i hcond
      obtain ⟨as, has, hc⟩ := Option.bind_eq_some_iff.1 hc
      injection hc with hc
      obtain ⟨l1, l2⟩ := nargs_rep hρ has
      split at hc
      · subst hc
        simp only [evalA] at h
        exact litR_op hs ht hn hz (by omega) (by omega) (by omega) (by simp [l1]) (fun k i x i' v h1 h2 => l2 k i x i' v h1 (by simpa using h2)) hal h
      · subst hc
        simp only [evalA] at h
        exact lit_op hs ht hn hz (by omega) (by omega) (by omega) (by simp [l1]) (fun k i x i' v h1 h2 => l2 k i x i' v h1 (by simpa using h2)) h
  case h_8 t x hop =>
    unfold execOp
    simp only [hop]
    obtain ⟨b, hb, hc⟩ := Option.bind_eq_some_iff.1 hc
    obtain ⟨n, hn, hc⟩ := Option.bind_eq_some_iff.1 hc
    obtain ⟨a, ha, hc⟩ := Option.bind_eq_some_iff.1 hc
    injection hc with hc; subst hc
    simp only [evalA] at h
    exact OpOk.of hs h fun y hy => load_ok (al := al) hs hb hn (hρ _ _ ha) hy
  case h_9 t x y hop =>
    unfold execOp
    simp only [hop]
    obtain ⟨n, hn, hc⟩ := Option.bind_eq_some_iff.1 hc
    obtain ⟨a, ha, hc⟩ := Option.bind_eq_some_iff.1 hc
    obtain ⟨b, hb, hc⟩ := Option.bind_eq_some_iff.1 hc
    injection hc with hc; subst hc
    simp only [evalA] at h
    exact store_ok hs hn (hρ _ _ ha) (hρ _ _ hb) h
  case h_10 x hop =>
    obtain ⟨a, ha, hc⟩ := Option.bind_eq_some_iff.1 hc
    injection hc with hc; subst hc
    simp only [evalA] at h
    obtain ⟨y, hy, rfl⟩ := pure0_inv h
    obtain ⟨rfl, hok⟩ := nilChkA_ok (hρ _ _ ha) hy
    exact OpOk.val hs (nilChk_run hop rfl hok) (hρ _ _ ha)
  case h_11 t x y z hop =>
    unfold execOp
    simp only [hop]
    exact eqO_ok (n := false) hs hc hρ hε h
  case h_12 t x y z hop =>
    unfold execOp
    simp only [hop]
    exact eqO_ok (n := true) hs hc hρ hε h
  case h_13 op t x y z hn1 hn2 hop =>
    unfold execOp
    simp only [hop]
    obtain ⟨a, ha, hc⟩ := Option.bind_eq_some_iff.1 hc
    obtain ⟨b, hb, hc⟩ := Option.bind_eq_some_iff.1 hc
    injection hc with hc; subst hc
    simp only [evalA] at h
    exact OpOk.of hs h fun z hz => binA_ok t op x y (hρ _ _ ha) (hρ _ _ hb) hz
  case h_14 op t x hop =>
    unfold execOp
    simp only [hop]
    obtain ⟨a, ha, hc⟩ := Option.bind_eq_some_iff.1 hc
    injection hc with hc; subst hc
    simp only [evalA] at h
    exact OpOk.of hs h fun z hz => unA_ok op (hρ _ _ ha) hz
  case h_15 src dst x hop =>
    unfold execOp
    simp only [hop]
    obtain ⟨d1, hd1, hc⟩ := Option.bind_eq_some_iff.1 hc
    obtain ⟨d2, hd2, hc⟩ := Option.bind_eq_some_iff.1 hc
    split at hc
    · obtain ⟨a, ha, hc⟩ := Option.bind_eq_some_iff.1 hc
      injection hc with hc; subst hc
      simp only [evalA] at h
      exact OpOk.of hs h fun z hz => convI_ok hd1 hd2 (hρ _ _ ha) hz
    · obtain ⟨a, ha, hc⟩ := Option.bind_eq_some_iff.1 hc
      injection hc with hc; subst hc
      simp only [evalA] at h
      exact OpOk.of hs h fun z hz => convS_ok hd1 hd2 (hρ _ _ ha) hz
    · obtain ⟨d3, hd3, hc⟩ := Option.bind_eq_some_iff.1 hc
      split at hc
      · obtain ⟨a, ha, hc⟩ := Option.bind_eq_some_iff.1 hc
        injection hc with hc; subst hc
        simp only [evalA] at h
        exact OpOk.of hs h fun z hz => bytes_ok hs hd1 hd3 hd2 (hρ _ _ ha) hz
      · cases hc
    · cases hc
  case h_16 f first caps hop =>
    unfold execOp
    simp only [hop]
    obtain ⟨as, ha, hc⟩ := Option.bind_eq_some_iff.1 hc
    obtain ⟨bs, hb, hc⟩ := Option.bind_eq_some_iff.1 hc
    injection hc with hc; subst hc
    simp only [evalA] at h
    obtain ⟨l1, l2⟩ := args_rep hρ ha
    obtain ⟨l3, l4⟩ := args_rep hρ hb
    refine OpOk.of hs h fun y hy => ⟨_, by simp [Instr.makeFunc], mkFn_ok l1 l3 l2 l4 hy⟩
  case h_17 t x lo hi mx hop =>
    unfold execOp
    simp only [hop]
    obtain ⟨d, hd, hc⟩ := Option.bind_eq_some_iff.1 hc
    split at hc
    · split at hc
      · obtain ⟨a, ha, hc⟩ := Option.bind_eq_some_iff.1 hc
        obtain ⟨l, hl, hc⟩ := Option.bind_eq_some_iff.1 hc
        obtain ⟨g, hg, hc⟩ := Option.bind_eq_some_iff.1 hc
        injection hc with hc; subst hc
        simp only [evalA] at h
        obtain ⟨l1, l2⟩ := argM_rep hρ hl
        obtain ⟨g1, g2⟩ := argM_rep hρ hg
        exact OpOk.of hs h fun y hy => sliceS_ok hd (hρ _ _ ha) l1 l2 g1 g2 hy
      · cases hc
    · obtain ⟨⟨e, es⟩, he, hc⟩ := Option.bind_eq_some_iff.1 hc
      simp only at hc
      obtain ⟨ht, hn⟩ := tElem_inv he
      split at hc
      · cases hc
      · obtain ⟨a, ha, hc⟩ := Option.bind_eq_some_iff.1 hc
        obtain ⟨l, hl, hc⟩ := Option.bind_eq_some_iff.1 hc
        obtain ⟨g, hg, hc⟩ := Option.bind_eq_some_iff.1 hc
        obtain ⟨q, hq, hc⟩ := Option.bind_eq_some_iff.1 hc
        injection hc with hc; subst hc
        simp only [evalA] at h
        obtain ⟨l1, l2⟩ := argM_rep hρ hl
        obtain ⟨g1, g2⟩ := argM_rep hρ hg
        obtain ⟨q1, q2⟩ := argM_rep hρ hq
        exact OpOk.of hs h fun y hy => slice_ok hs ht hn (hρ _ _ ha) l1 l2 g1 g2 q1 q2 hy
    · cases hc
  case h_18 s x f hop =>
    unfold execOp
    simp only [hop]
    obtain ⟨d, hd, hc⟩ := Option.bind_eq_some_iff.1 hc
    split at hc
    · rename_i fs
      obtain ⟨fd, hf, hc⟩ := Option.bind_eq_some_iff.1 hc
      obtain ⟨n, hn, hc⟩ := Option.bind_eq_some_iff.1 hc
      split at hc
      · cases hc
      · obtain ⟨a, ha, hc⟩ := Option.bind_eq_some_iff.1 hc
        injection hc with hc; subst hc
        simp only [evalA] at h
        exact OpOk.of hs h fun y hy => fieldA_ok hd hf hn (hρ _ _ ha) hy
    · cases hc
  case h_19 s x f hop =>
    unfold execOp
    simp only [hop]
    obtain ⟨d, hd, hc⟩ := Option.bind_eq_some_iff.1 hc
    split at hc
    · rename_i fs
      obtain ⟨fd, hf, hc⟩ := Option.bind_eq_some_iff.1 hc
      obtain ⟨b, hb, hc⟩ := Option.bind_eq_some_iff.1 hc
      obtain ⟨n, hn, hc⟩ := Option.bind_eq_some_iff.1 hc
      obtain ⟨a, ha, hc⟩ := Option.bind_eq_some_iff.1 hc
      injection hc with hc; subst hc
      simp only [evalA] at h
      exact OpOk.of hs h fun y hy => field_ok hd hf hb hn (hρ _ _ ha) hy
    · cases hc
  case h_20 t x i hop =>
    unfold execOp
    simp only [hop]
    obtain ⟨d, hd, hc⟩ := Option.bind_eq_some_iff.1 hc
    split at hc
    · obtain ⟨es, hes, hc⟩ := Option.bind_eq_some_iff.1 hc
      split at hc
      · cases hc
      · rename_i h0
        obtain ⟨a, ha, hc⟩ := Option.bind_eq_some_iff.1 hc
        obtain ⟨b, hb, hc⟩ := Option.bind_eq_some_iff.1 hc
        injection hc with hc; subst hc
        simp only [evalA] at h
        exact OpOk.of hs h fun y hy => idxA_ok hd hes h0 (hρ _ _ ha) (hρ _ _ hb) hy
    · obtain ⟨es, hes, hc⟩ := Option.bind_eq_some_iff.1 hc
      split at hc
      · cases hc
      · rename_i h0
        obtain ⟨a, ha, hc⟩ := Option.bind_eq_some_iff.1 hc
        obtain ⟨b, hb, hc⟩ := Option.bind_eq_some_iff.1 hc
        injection hc with hc; subst hc
        simp only [evalA] at h
        exact OpOk.of hs h fun y hy => idxArr_ok hd hes (by omega) (by omega) (hρ _ _ ha) (hρ _ _ hb) hy
    · cases hc
  case h_21 t x i hop =>
    unfold execOp
    simp only [hop]
    obtain ⟨d, hd, hc⟩ := Option.bind_eq_some_iff.1 hc
    split at hc
    · obtain ⟨a, ha, hc⟩ := Option.bind_eq_some_iff.1 hc
      obtain ⟨b, hb, hc⟩ := Option.bind_eq_some_iff.1 hc
      injection hc with hc; subst hc
      simp only [evalA] at h
      exact OpOk.of hs h fun y hy => idxS_ok hd (hρ _ _ ha) (hρ _ _ hb) hy
    · obtain ⟨es, hes, hc⟩ := Option.bind_eq_some_iff.1 hc
      obtain ⟨g, hg, hc⟩ := Option.bind_eq_some_iff.1 hc
      obtain ⟨a, ha, hc⟩ := Option.bind_eq_some_iff.1 hc
      obtain ⟨b, hb, hc⟩ := Option.bind_eq_some_iff.1 hc
      injection hc with hc; subst hc
      simp only [evalA] at h
      exact OpOk.of hs h fun y hy => idxV_ok hd hg hes (hρ _ _ ha) (hρ _ _ hb) hy
    · cases hc
  case h_22 x i hop =>
    unfold execOp
    simp only [hop]
    obtain ⟨a, ha, hc⟩ := Option.bind_eq_some_iff.1 hc
    injection hc with hc; subst hc
    simp only [evalA] at h
    exact OpOk.of hs h fun y hy => extract_ok (hρ _ _ ha) hy
  case h_23 b args ts hop =>
    unfold execOp
    simp only [hop]
    have := builtinO_ok hs hc hρ hal h o.type (args.map fun | .const _ => true | _ => false)
    exact this
  case h_24 => cases hc

end
end Go.Ab
end PAb14
