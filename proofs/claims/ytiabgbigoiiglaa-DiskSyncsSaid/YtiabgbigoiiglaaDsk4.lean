/- disk.Blank. -/
import Derived.Test.YtiabgbigoiiglaaDsk3
import Derived.Shelf.Strings.Repeat
import Derived.KernelRfl
import Derived.Test.YtiabgbigoiiglaaProg

set_option linter.unusedVariables false
set_option linter.unusedSimpArgs false
namespace Go.AE
open Go

variable {P : Program} {F : CT} {d : Bool} {dst : Option Nat} {st : St} {K : St → Prop}

/-- A thing that is brought into its form ahead of what goes on with it. -/
def wd {α : Type} (x : α) : α := x
@[simp] theorem wd_go {α : Type} {x : α} : wd x = x := rfl
def onV (v : AV) (k : AV → Prop) : Prop := k v
@[simp] theorem onV_go {v : AV} {k : AV → Prop} : onV v k = k v := rfl
@[congr] theorem onV_cg {v v' : AV} {k : AV → Prop} (h : v = v') : onV v k = onV v' k := by rw [h]
def onN (H : Heap) (T : Nat) (rows : List (List AC)) (c : AC) (k : Heap → Nat → List (List AC) → AC → Prop) : Prop := k H T rows c
@[simp] theorem onN_go {H : Heap} {T : Nat} {rows : List (List AC)} {c : AC} {k : Heap → Nat → List (List AC) → AC → Prop} : onN H T rows c k = k H T rows c := rfl
@[congr] theorem onN_cg {H H' : Heap} {T T' : Nat} {rows rows' : List (List AC)} {c c' : AC} {k : Heap → Nat → List (List AC) → AC → Prop} (h1 : H = H') (h2 : T = T') (h3 : rows = rows') (h4 : c = c') : onN H T rows c k = onN H' T' rows' c' k := by rw [h1, h2, h3, h4]
def onA (H : Heap) (v : AV) (k : Heap → AV → Prop) : Prop := k H v
@[simp] theorem onA_go {H : Heap} {v : AV} {k : Heap → AV → Prop} : onA H v k = k H v := rfl
@[congr] theorem onA_cg {H H' : Heap} {v v' : AV} {k : Heap → AV → Prop} (h1 : H = H') (h2 : v = v') : onA H v k = onA H' v' k := by rw [h1, h2]
theorem acall_pure {dr : Bool} {st : St} {dst : Option Nat} {f : FuncId} {args args' : List AV} {ret : AV} {K : St → Prop} (hp : PEv P f args' ret) (hv : viewA st.H args = some args')
    (hun : adUn (nmOf st dst) st.H 0 ret.flat) (hdr : dr = true → ret.flat.length ≤ 1024 ∧ dst.isSome = true) (hk : onA (wd (adH (nmOf st dst) 0 ret.flat st.H)) (ret.ad (nmOf st dst)) fun H v => K ((st.hto H).put dst v)) : ACall P dr st dst f args K := .inl ⟨false, args', ret, hv, hp, hun, hdr, hk⟩
/-- A call that may hand back rows that were handed in: these stay. -/
theorem acall_prom {dr : Bool} {st : St} {dst : Option Nat} {f : FuncId} {args args' : List AV} {ret : AV} {K : St → Prop} (hv : viewA st.H args = some args') (hp : PEv P f (promA true args args') ret)
    (hun : adUn (nmOf st dst) st.H 0 ret.flat) (hdr : dr = true → ret.flat.length ≤ 1024 ∧ dst.isSome = true) (hk : onA (wd (adH (nmOf st dst) 0 ret.flat st.H)) (ret.ad (nmOf st dst)) fun H v => K ((st.hto H).put dst v)) : ACall P dr st dst f args K := .inl ⟨true, args', ret, hv, hp, hun, hdr, hk⟩
theorem newObj_gon (st : St) (d e sz : Nat) (rows : List (List AC)) (v : Id → AC) (K : St → Prop) :
    newObj st (some d) e sz rows v K = onN (wd st.H) st.T rows (v (st.T, d)) fun H T rows c => H (T, d) = .unborn ∧ K ((st.hto (hset H (T, d) (.arr e sz false rows))).put (some d) (.c c)) := rfl

theorem go_move {x : Operand} : stepS P F d dst (.move x) st K = onV (st.eval x) fun v => K (st.put dst v) := rfl
theorem go_assign {x : Operand} : stepS P F d dst (.assign x) st K = onV (st.eval x) fun v => K (st.put dst v) := rfl
/-- What goes on with a Boolean; with a value on a condition. -/
def onB (v : AV) (k : Bool → Prop) : Prop :=
  match v with
  | .c (.raw (.bool q)) => k q
  | _ => False

def onP {α : Type} (o : Option (Prop × α)) (k : α → Prop) : Prop :=
  match o with
  | some (C, v) => C ∧ k v
  | none => False

@[simp] theorem onB_go {q : Bool} {k : Bool → Prop} : onB (.c (.raw (.bool q))) k = k q := rfl
@[simp] theorem onP_go {α : Type} {C : Prop} {v : α} {k : α → Prop} : onP (some (C, v)) k = (C ∧ k v) := rfl
@[simp] theorem onP_none {α : Type} {k : α → Prop} : onP none k = False := rfl
@[congr] theorem onB_cg {v v' : AV} {k : Bool → Prop} (h : v = v') : onB v k = onB v' k := by rw [h]
@[congr] theorem onP_cg {α : Type} {o o' : Option (Prop × α)} {k : α → Prop} (h : o = o') : onP o k = onP o' k := by rw [h]

/-- A choice: a branch that is not taken is not looked at. -/
def onIf (b : Bool) (y n : Prop) : Prop := (b = true → y) ∧ (b = false → n)
def onUn (b : Bool) (y n : Prop) : Prop := (b = false → y) ∧ (b = true → n)
@[congr] theorem onIf_cg {b b' : Bool} {y n : Prop} (h : b = b') : onIf b y n = onIf b' y n := by rw [h]
@[congr] theorem onUn_cg {b b' : Bool} {y n : Prop} (h : b = b') : onUn b y n = onUn b' y n := by rw [h]
@[simp high, simp ↓] theorem onIf_true {y n : Prop} : onIf true y n = y := by simp [onIf]
@[simp high, simp ↓] theorem onIf_false {y n : Prop} : onIf false y n = n := by simp [onIf]
@[simp high, simp ↓] theorem onUn_true {y n : Prop} : onUn true y n = n := by simp [onUn]
@[simp high, simp ↓] theorem onUn_false {y n : Prop} : onUn false y n = y := by simp [onUn]
@[simp low] theorem onIf_go {b : Bool} {y n : Prop} : onIf b y n = ((b = true → y) ∧ (b = false → n)) := rfl
@[simp low] theorem onUn_go {b : Bool} {y n : Prop} : onUn b y n = ((b = false → y) ∧ (b = true → n)) := rfl

theorem onB_eq {v : AV} {k : Bool → Prop} : (match v with | .c (.raw (.bool q)) => k q | _ => False) = onB v k := rfl

theorem go_pick {c a b : Operand} : stepS P F d dst (.pick c a b) st K = onB (st.eval c) fun q => onIf q (onV (st.eval a) fun v => K (st.put dst v)) (onV (st.eval b) fun v => K (st.put dst v)) := rfl
theorem go_not {t : TypeId} {x : Operand} : stepS P F d dst (.unOp .not t x) st K = onB (st.eval x) fun q => K (st.put dst (.c (.raw (.bool (!q))))) := rfl
theorem go_cond {c : Operand} {x y : SC} {Q : AEx → St → Prop} : awpS P F (.cond c x y) Q st = onB (st.eval c) fun b => onIf b (awpS P F x Q st) (awpS P F y Q st) := rfl
theorem go_alloc {e : TypeId} : stepS P F d dst (.alloc e) st K = ((tyI P e).ok = true ∧ newObj st dst e (tyI P e).sz [(tyI P e).zero.map ofVal] (fun id => .pt id 0 0) K) := rfl

def rBox (ti : TyI) (H : Heap) (v : AV) : Option (Prop × List (List AC)) :=
  match v.cells with
  | some cs => some (ti.ok = true ∧ cs.length = ti.sz ∧ cs.all (AC.one H) = true, [cs])
  | none => none
theorem go_box {e : TypeId} {x : Operand} : stepS P F d dst (.box e x) st K = onP (rBox (tyI P e) st.H (st.eval x)) fun rows => newObj st dst e (tyI P e).sz rows (fun id => .pt id 0 0) K := by
  simp only [stepS, aop, rBox]
  cases (st.eval x).cells with
  | none => rfl
  | some cs => simp only [onP_go, and_assoc]

def rBuild (ti : TyI) (o : Option (List AC)) : Option (Prop × AV) := o.map fun cs => (ti.ok = true ∧ ti.bld = true, .g cs)
theorem go_build {t : TypeId} {parts : Array (Nat × Operand)} : stepS P F d dst (.build t parts) st K = onP (rBuild (tyI P t) (fillP st.H (tyI P t).offs ((tyI P t).zero.map ofVal) (parts.toList.map fun q => (q.1, st.eval q.2)))) fun v => K (st.put dst v) := by
  simp only [stepS, aop, rBuild]
  split
  · rename_i h; rw [h]; rfl
  · rename_i h; rw [h]; rfl

def rRows (ti te : TyI) (len : Nat) (o : Option (List (List AC))) : Option (Prop × List (List AC)) := o.map fun rows => (ti.form = 2 ∧ te.ok = true ∧ rows.length = len ∧ len * te.sz ≤ 16777216 ∧ 0 < te.sz, rows)
theorem go_buildSlice {t : TypeId} {len : Nat} {parts : Array (Nat × Operand)} : stepS P F d dst (.buildSlice t len parts) st K = onP (rRows (tyI P t) (tyI P (tyI P t).elem) len (rowsP st.H (tyI P (tyI P t).elem).sz 0 (parts.toList.map fun q => (q.1, st.eval q.2)))) fun rows => newObj st dst (tyI P t).elem (tyI P (tyI P t).elem).sz rows (fun id => .so id 0 len) K := by
  simp only [stepS, aop, rRows]
  split
  · rename_i h; rw [h]; rfl
  · rename_i h; rw [h]; rfl

def rRead (ti : TyI) (row : Option (List AC)) (j : Nat) : Option (Prop × AV) :=
  match row with
  | some row => (rdRow ti.ag ti.sz row j).map fun v => (ti.ok = true, v)
  | none => none
def rObj (H : Heap) (id : Id) (i : Nat) : Option (List AC) :=
  match H id with
  | .arr _ _ _ rows => rows[i]?
  | _ => none
def rLoad (ti : TyI) (H : Heap) (v : AV) : Option (Prop × AV) :=
  match v with
  | .c (.pt id i j) => rRead ti (rObj H id i) j
  | .c (.pv _ row j) => rRead ti (some row) j
  | _ => none
theorem go_load {t : TypeId} {x : Operand} : stepS P F d dst (.load t x) st K = onP (rLoad (tyI P t) st.H (st.eval x)) fun v => K (st.put dst v) := by
  simp only [stepS, aop]
  generalize st.eval x = v
  cases v with
  | c y =>
    cases y with
    | pt id i j =>
      simp only [rLoad, rRead, rObj]
      cases st.H id with
      | arr e sz frz rows =>
        simp only
        cases rows[i]? with
        | none => rfl
        | some row =>
          simp only
          cases rdRow (tyI P t).ag (tyI P t).sz row j <;> rfl
      | _ => rfl
    | pv tg row j =>
      simp only [rLoad, rRead]
      cases rdRow (tyI P t).ag (tyI P t).sz row j <;> rfl
    | _ => rfl
  | _ => rfl

def rStore (ti : TyI) (H : Heap) (x v : AV) : Option (Prop × Heap) :=
  match x, v.cells with
  | .c (.pt id i j), some cs => match H id with
    | .arr e sz false rows => match rows[i]? with
      | some row => some (ti.ok = true ∧ cs.length = ti.sz ∧ cs.all (AC.one H) = true ∧ j + cs.length ≤ row.length, hset H id (.arr e sz false (rows.set i (lay row j cs))))
      | none => none
    | _ => none
  | _, _ => none
theorem go_store {t : TypeId} {x v : Operand} : stepS P F d dst (.store t x v) st K = onP (rStore (tyI P t) st.H (st.eval x) (st.eval v)) fun H => K ((st.hto H).put dst (.c (.raw undef))) := by
  simp only [stepS, aop]
  generalize st.eval x = u
  generalize st.eval v = q
  unfold rStore
  cases q.cells with
  | none => cases u with
    | c y => cases y <;> rfl
    | _ => rfl
  | some cs => cases u with
    | c y => cases y with
      | pt id i j =>
        simp only
        cases st.H id with
        | arr e sz frz rows =>
          cases frz with
          | true => rfl
          | false =>
            simp only
            cases rows[i]? <;> rfl
        | _ => rfl
      | _ => rfl
    | _ => rfl

def rNil (H : Heap) (v : AV) : Option (Prop × AV) :=
  match v with
  | .c (.pt id i j) => some ((H id).live = true, .c (.pt id i j))
  | _ => none
theorem go_nilCheck {x : Operand} : stepS P F d dst (.nilCheck x) st K = onP (rNil st.H (st.eval x)) fun v => K (st.put dst v) := by
  simp only [stepS, aop]
  generalize st.eval x = v
  cases v with
  | c y => cases y <;> rfl
  | _ => rfl

theorem go_binOp {op : BinOp} {t t' : TypeId} {x y : Operand} (hy : isNilC y = false) : stepS P F d dst (.binOp op t x y t') st K = onP (abin (tyI P t) op (st.eval x) (st.eval y)) fun c => K (st.put dst (.c c)) := by
  simp only [stepS, hy, Bool.false_eq_true, if_false, aop]
  cases abin (tyI P t) op (st.eval x) (st.eval y) <;> rfl
theorem go_bin_t {op : BinOp} {t t' : TypeId} {x : Operand} {y : Nat} : stepS P F d dst (.binOp op t x (.tmp y) t') st K = onP (abin (tyI P t) op (st.eval x) (st.eval (.tmp y))) fun c => K (st.put dst (.c c)) := go_binOp rfl
theorem go_bin_i {op : BinOp} {t t' : TypeId} {x : Operand} {k : IntKind} {n : Int} : stepS P F d dst (.binOp op t x (.const (.int k n)) t') st K = onP (abin (tyI P t) op (st.eval x) (.c (.raw (.int k n)))) fun c => K (st.put dst (.c c)) := go_binOp rfl
theorem go_bin_b {op : BinOp} {t t' : TypeId} {x : Operand} {q : Bool} : stepS P F d dst (.binOp op t x (.const (.bool q)) t') st K = onP (abin (tyI P t) op (st.eval x) (.c (.raw (.bool q)))) fun c => K (st.put dst (.c c)) := go_binOp rfl
theorem go_bin_s {op : BinOp} {t t' : TypeId} {x : Operand} {s : ByteArray} : stepS P F d dst (.binOp op t x (.const (.string s)) t') st K = onP (abin (tyI P t) op (st.eval x) (.c (.str s.data.toList))) fun c => K (st.put dst (.c c)) := go_binOp rfl

def onNil (ti : TyI) (op : BinOp) (d : Bool) (v : AV) (k : Bool → Prop) : Prop :=
  match op, v with
  | .eql, .c (.sl _ _ xs) => d = false ∧ ti.form = 2 ∧ (xs = [] → k true) ∧ k false
  | .neq, .c (.sl _ _ xs) => d = false ∧ ti.form = 2 ∧ (xs = [] → k false) ∧ k true
  | _, _ => False
@[congr] theorem onNil_cg {ti : TyI} {op : BinOp} {v v' : AV} {k : Bool → Prop} (h : v = v') : onNil ti op d v k = onNil ti op d v' k := by rw [h]
@[simp] theorem onNil_eql {ti : TyI} {t : Tag} {cl : Bool} {xs : List (List AC)} {k : Bool → Prop} : onNil ti .eql d (.c (.sl t cl xs)) k = (d = false ∧ ti.form = 2 ∧ (xs = [] → k true) ∧ k false) := rfl
@[simp] theorem onNil_neq {ti : TyI} {t : Tag} {cl : Bool} {xs : List (List AC)} {k : Bool → Prop} : onNil ti .neq d (.c (.sl t cl xs)) k = (d = false ∧ ti.form = 2 ∧ (xs = [] → k false) ∧ k true) := rfl
theorem go_bin_nil {op : BinOp} {t t' : TypeId} {x : Operand} : stepS P F d dst (.binOp op t x (.const (.slice none 0 0)) t') st K = onNil (tyI P t) op d (st.eval x) fun q => K (st.put dst (.c (.raw (.bool q)))) := by
  simp only [stepS, isNilC, if_true, ev_const, ofVal]
  generalize st.eval x = v
  unfold aNil onNil
  cases op <;> (try (simp; done))
  all_goals
    cases v with
    | c y => cases y <;> simp
    | _ => simp

def rConv (ts ti te : TyI) (H : Heap) (v : AV) : Option (Prop × AV) :=
  match v with
  | .c (.raw (.int _ n)) => ti.kind.map fun k => (ts.form = 3, .c (.raw (.int k (k.wrap n))))
  | .c (.str l) => some (ts.form = 1 ∧ ti.form = 1, .c (.str l))
  | .c x => ((rowsOf H x).bind bytesAC).map fun l => (ts.form = 2 ∧ ti.form = 1 ∧ te.kind = some .u8, .c (.str l))
  | _ => none
theorem go_convert {src t : TypeId} {x : Operand} : stepS P F d dst (.convert src t x) st K = onP (rConv (tyI P src) (tyI P t) (tyI P (tyI P src).elem) st.H (st.eval x)) fun v => K (st.put dst v) := by
  simp only [stepS, aop]
  generalize st.eval x = v
  cases v with
  | c y =>
    cases y with
    | str l => rfl
    | raw u =>
      cases u with
      | int k n =>
        simp only [rConv]
        cases (tyI P t).kind <;> rfl
      | _ =>
        simp only [rConv]
        generalize (Option.bind (rowsOf st.H _) bytesAC) = o
        cases o <;> rfl
    | _ =>
      simp only [rConv]
      generalize (Option.bind (rowsOf st.H _) bytesAC) = o
      cases o <;> rfl
  | _ => rfl

def rFn (first : Array Operand) (f : FuncId) (o : Option (List AC)) : Option (Prop × AV) := o.map fun cs => (first = #[], .c (.fn f cs))
theorem go_makeFunc {f : FuncId} {first caps : Array Operand} : stepS P F d dst (.makeFunc (.func f) first caps) st K = onP (rFn first f (capsOf st caps.toList)) fun v => K (st.put dst v) := by
  simp only [stepS, aop, rFn]
  split
  · rename_i h; rw [h]; rfl
  · rename_i h; rw [h]; rfl

def rMake (ti te : TyI) (l c : AV) : Option (Prop × Nat) :=
  match l, c with
  | .c (.raw (.int .i64 n)), .c (.raw (.int .i64 m)) => some (n = m ∧ 0 ≤ n ∧ n ≤ 9223372036854775807 ∧ n * te.bytes ≤ 281474976710656 ∧ ti.form = 2 ∧ te.ok = true ∧ 0 < te.sz, n.toNat)
  | _, _ => none
theorem go_makeSlice {t : TypeId} {l c : Operand} : stepS P F d dst (.makeSlice t l c) st K = onP (rMake (tyI P t) (tyI P (tyI P t).elem) (st.eval l) (st.eval c)) fun n => newObj st dst (tyI P t).elem (tyI P (tyI P t).elem).sz (List.replicate n ((tyI P (tyI P t).elem).zero.map ofVal)) (fun id => .so id 0 n) K := by
  simp only [stepS, aop]
  generalize st.eval l = v
  generalize st.eval c = u
  unfold rMake
  split
  · rfl
  · rename_i n
    split
    · exact (n _ _ rfl rfl).elim
    · rfl

def rFieldA (ti : TyI) (H : Heap) (f : Nat) (v : AV) : Option (Prop × AV) :=
  match v, ti.offs[f]? with
  | .c (.pt id i j), some (off, n, _) => some ((ti.form = 5 ∧ 0 < n) ∧ (H id).live = true, .c (.pt id i (j + off)))
  | .c (.pv tg row j), some (off, n, _) => some (ti.form = 5 ∧ 0 < n, .c (.pv tg row (j + off)))
  | _, _ => none
theorem go_fieldAddr {t : TypeId} {x : Operand} {f : Nat} : stepS P F d dst (.fieldAddr t x f) st K = onP (rFieldA (tyI P t) st.H f (st.eval x)) fun v => K (st.put dst v) := by
  simp only [stepS, aop]
  generalize st.eval x = v
  generalize hq : (tyI P t).offs[f]? = q
  unfold rFieldA
  rw [hq]
  split
  · simp only [onP_go, and_assoc]
  · rfl
  · rename_i n1 n2
    split
    · exact (n1 _ _ _ _ _ _ rfl rfl).elim
    · exact (n2 _ _ _ _ _ _ rfl rfl).elim
    · rfl

def rField (ti : TyI) (f : Nat) (v : AV) : Option (Prop × AV) :=
  match v, ti.offs[f]? with
  | .g xs, some (off, n, ag) => (rdRow ag n xs off).map fun v => (ti.form = 5 ∧ 0 < n, v)
  | _, _ => none
theorem go_field {t : TypeId} {x : Operand} {f : Nat} : stepS P F d dst (.field t x f) st K = onP (rField (tyI P t) f (st.eval x)) fun v => K (st.put dst v) := by
  simp only [stepS, aop]
  generalize st.eval x = v
  unfold rField
  cases hq : (tyI P t).offs[f]? with
  | none => cases v <;> rfl
  | some q =>
    obtain ⟨off, n, ag⟩ := q
    cases v with
    | g xs =>
      simp only
      cases rdRow ag n xs off <;> rfl
    | _ => rfl

def rIndexA (ti te : TyI) (eid : TypeId) (H : Heap) (x ix : AV) : Option (Prop × AV) :=
  match x, ix with
  | .c (.sl tg _ xs), .c (.raw (.int _ i)) => some ((ti.form = 2 ∧ te.ok = true ∧ te.sz = (xs.getD i.toNat []).length) ∧ 0 ≤ i ∧ i < xs.length, .c (.pv tg (xs.getD i.toNat []) 0))
  | .c (.so id off len), .c (.raw (.int _ i)) => some ((ti.form = 2 ∧ te.ok = true ∧ ∃ frz rows, H id = .arr eid te.sz frz rows) ∧ 0 ≤ i ∧ i < len, .c (.pt id (off + i.toNat) 0))
  | _, _ => none
theorem go_indexAddr {t : TypeId} {x ix : Operand} : stepS P F d dst (.indexAddr t x ix) st K = onP (rIndexA (tyI P t) (tyI P (tyI P t).elem) (tyI P t).elem st.H (st.eval x) (st.eval ix)) fun v => K (st.put dst v) := by
  simp only [stepS, aop]
  generalize st.eval x = v
  generalize st.eval ix = u
  unfold rIndexA
  split
  · rfl
  · rfl
  · rename_i n1 n2
    split
    · exact (n1 _ _ _ _ _ rfl rfl).elim
    · exact (n2 _ _ _ _ _ rfl rfl).elim
    · rfl

def rIndex (ti : TyI) (x ix : AV) : Option (Prop × AV) :=
  match x, ix with
  | .c (.str l), .c (.raw (.int _ i)) => some (ti.form = 1 ∧ 0 ≤ i ∧ i < l.length, .c (.raw (.int .u8 (bts l i))))
  | _, _ => none
theorem go_index {t : TypeId} {x ix : Operand} : stepS P F d dst (.index t x ix) st K = onP (rIndex (tyI P t) (st.eval x) (st.eval ix)) fun v => K (st.put dst v) := by
  simp only [stepS, aop]
  generalize st.eval x = v
  generalize st.eval ix = u
  unfold rIndex
  split
  · rfl
  · rename_i n
    split
    · exact (n _ _ _ rfl rfl).elim
    · rfl

def rExtract (i : Nat) (v : AV) : Option (Prop × AV) :=
  match v with
  | .t parts => match parts[i]? with
    | some (true, cs) => some (True, .g cs)
    | some (false, [c]) => some (True, .c c)
    | _ => none
  | _ => none
theorem go_extract {x : Operand} {i : Nat} : stepS P F d dst (.extract x i) st K = onP (rExtract i (st.eval x)) fun v => K (st.put dst v) := by
  simp only [stepS, aop]
  generalize st.eval x = v
  unfold rExtract
  cases v with
  | t parts =>
    simp only
    cases parts[i]? with
    | none => rfl
    | some q =>
      obtain ⟨b, cs⟩ := q
      cases b with
      | true => simp
      | false =>
        cases cs with
        | nil => rfl
        | cons c cs => cases cs <;> simp
  | _ => rfl

def rSlice (ti te : TyI) (eid : TypeId) (H : Heap) (x : AV) (lo hi mx : Option AV) : Option (Prop × AV) :=
  match x with
  | .c (.str l) =>
    match lo.getD (.c (.raw (.int .i64 0))), hi.getD (.c (.raw (.int .i64 l.length))) with
    | .c (.raw (.int _ i)), .c (.raw (.int _ j)) => some (ti.form = 1 ∧ mx.isNone = true ∧ 0 ≤ i ∧ i ≤ j ∧ j ≤ l.length, .c (.str ((l.take j.toNat).drop i.toNat)))
    | _, _ => none
  | .c (.sl tg _ xs) =>
    match lo.getD (.c (.raw (.int .i64 0))), hi.getD (.c (.raw (.int .i64 xs.length))), mx with
    | .c (.raw (.int _ i)), .c (.raw (.int _ j)), none => some (ti.form = 2 ∧ te.ok = true ∧ (∀ r ∈ xs, r.length = te.sz) ∧ 0 ≤ i ∧ i ≤ j ∧ j ≤ xs.length, .c (.sl tg false ((xs.take j.toNat).drop i.toNat)))
    | .c (.raw (.int _ i)), .c (.raw (.int _ j)), some (.c (.raw (.int _ m))) => some (ti.form = 2 ∧ te.ok = true ∧ (∀ r ∈ xs, r.length = te.sz) ∧ 0 ≤ i ∧ i ≤ j ∧ j = m ∧ m ≤ xs.length ∧ hi.isSome = true, .c (.sl tg true ((xs.take j.toNat).drop i.toNat)))
    | _, _, _ => none
  | .c (.so id off len) =>
    match lo.getD (.c (.raw (.int .i64 0))), hi.getD (.c (.raw (.int .i64 len))), mx with
    | .c (.raw (.int _ i)), .c (.raw (.int _ j)), none => some (ti.form = 2 ∧ te.ok = true ∧ (∃ sz frz rows, H id = .arr eid sz frz rows ∧ sz = te.sz) ∧ 0 ≤ i ∧ i ≤ j ∧ j ≤ len, .c (.so id (off + i.toNat) (j.toNat - i.toNat)))
    | _, _, _ => none
  | _ => none
theorem go_slice {t : TypeId} {x : Operand} {lo hi mx : Option Operand} : stepS P F d dst (.slice t x lo hi mx) st K = onP (rSlice (tyI P t) (tyI P (tyI P t).elem) (tyI P t).elem st.H (st.eval x) (lo.map st.eval) (hi.map st.eval) (mx.map st.eval)) fun v => K (st.put dst v) := by
  have e1 : (mx.map st.eval).isNone = mx.isNone := by cases mx <;> rfl
  have e2 : (hi.map st.eval).isSome = hi.isSome := by cases hi <;> rfl
  have e3 : mx.map st.eval = none → True := fun _ => trivial
  simp only [stepS, aop, rSlice, e1, e2]
  generalize st.eval x = v
  generalize lo.map st.eval = l
  generalize hi.map st.eval = h
  generalize mx.map st.eval = m
  cases v with
  | c y =>
    cases y with
    | str s =>
      simp only
      generalize l.getD _ = p
      generalize h.getD _ = q
      cases p <;> (try rfl)
      rename_i p
      cases p <;> (try rfl)
      rename_i p
      cases p <;> (try rfl)
      cases q <;> (try rfl)
      rename_i q
      cases q <;> (try rfl)
      rename_i q
      cases q <;> rfl
    | sl tg cl xs =>
      simp only
      generalize l.getD _ = p
      generalize h.getD _ = q
      cases p <;> (try rfl)
      rename_i p
      cases p <;> (try rfl)
      rename_i p
      cases p <;> (try rfl)
      cases q <;> (try rfl)
      rename_i q
      cases q <;> (try rfl)
      rename_i q
      cases q <;> (try rfl)
      cases m <;> (try rfl)
      rename_i m
      cases m <;> (try rfl)
      rename_i m
      cases m <;> (try rfl)
      rename_i m
      cases m <;> rfl
    | so id off len =>
      simp only
      generalize l.getD _ = p
      generalize h.getD _ = q
      cases p <;> (try rfl)
      rename_i p
      cases p <;> (try rfl)
      rename_i p
      cases p <;> (try rfl)
      cases q <;> (try rfl)
      rename_i q
      cases q <;> (try rfl)
      rename_i q
      cases q <;> (try rfl)
      cases m <;> rfl
    | _ => rfl
  | _ => rfl
def onFn (v : AV) (k : FuncId → List AC → Prop) : Prop :=
  match v with
  | .c (.fn g caps) => k g caps
  | _ => False
@[simp] theorem onFn_go {g : FuncId} {caps : List AC} {k : FuncId → List AC → Prop} : onFn (.c (.fn g caps)) k = k g caps := rfl
@[congr] theorem onFn_cg {v v' : AV} {k : FuncId → List AC → Prop} (h : v = v') : onFn v k = onFn v' k := by rw [h]
theorem go_call {f : Operand} {args : Array Operand} {ts : Array TypeId} : stepS P F d dst (.call { callee := .value f, args := args, argTypes := ts }) st K = onFn (st.eval f) fun g caps => CallS P F d st dst g (args.toList.map st.eval ++ caps.map .c) K := by
  simp only [stepS]
  generalize st.eval f = v
  cases v with
  | c y => cases y <;> rfl
  | _ => rfl
theorem go_builtin {b : Builtin} {args : Array Operand} {ts : Array TypeId} : stepS P F d dst (.call { callee := .builtin b, args := args, argTypes := ts }) st K = abi P dst b args.toList ts.toList st K := rfl

def rLen (ti : TyI) (H : Heap) (v : AV) : Option (Prop × AV) :=
  match v with
  | .c (.str l) => some (ti.form = 1, .c (.raw (.int .i64 l.length)))
  | .c (.so id _ len) => some (ti.form = 2 ∧ (H id).live = true, .c (.raw (.int .i64 len)))
  | .c (.sl _ _ xs) => some (ti.form = 2, .c (.raw (.int .i64 xs.length)))
  | .c (.raw (.slice none 0 0)) => some (ti.form = 2, .c (.raw (.int .i64 0)))
  | _ => none
theorem go_len {x : Operand} {t : TypeId} : abi P dst .len [x] [t] st K = onP (rLen (tyI P t) st.H (st.eval x)) fun v => K (st.put dst v) := by
  simp only [abi]
  generalize st.eval x = v
  unfold rLen
  split
  · rfl
  · rfl
  · rfl
  · rfl
  · rename_i n1 n2 n3 n4
    split
    · exact (n1 _ rfl).elim
    · exact (n2 _ _ _ rfl).elim
    · exact (n3 _ _ _ rfl).elim
    · exact (n4 rfl).elim
    · rfl

/-- A call by the table. -/
def onF (g : Option (List AV → Option (Prop × AV))) (args : Option (List AV)) (fall : Prop) (k : AV → Prop) : Prop :=
  match g with
  | some h => onP (args.bind h) k
  | none => fall
@[simp] theorem onF_some {h : List AV → Option (Prop × AV)} {args : Option (List AV)} {fall : Prop} {k : AV → Prop} : onF (some h) args fall k = onP (args.bind h) k := rfl
@[simp] theorem onF_none {args : Option (List AV)} {fall : Prop} {k : AV → Prop} : onF none args fall k = fall := rfl
@[congr] theorem onF_cg {g g' : Option (List AV → Option (Prop × AV))} {args args' : Option (List AV)} {fall : Prop} {k : AV → Prop} (h : g = g') (h' : args = args') : onF g args fall k = onF g' args' fall k := by rw [h, h']
theorem go_callS {f : FuncId} {args : List AV} : CallS P F d st dst f args K =
    onF (ctGet F f) (viewA st.H args) (ACall P d st dst f args K) fun ret => adUn (nmOf st dst) st.H 0 ret.flat ∧ (d = true → ret.flat.length ≤ 1024 ∧ dst.isSome = true) ∧ onA (wd (adH (nmOf st dst) 0 ret.flat st.H)) (ret.ad (nmOf st dst)) fun H v => K ((st.hto H).put dst v) := by
  unfold CallS
  cases ctGet F f with
  | none => rfl
  | some h =>
    simp only [onF_some]
    cases viewA st.H args with
    | none => rfl
    | some args' =>
      simp only [Option.bind_some]
      cases h args' with
      | none => rfl
      | some q => rfl

section
variable {ti te ts : TyI} {H : Heap} {id : Id} {i j off len n eid : Nat} {row cs : List AC} {rows xs : List (List AC)} {tg : Tag} {cl : Bool} {c : AC} {k k' k'' : IntKind} {a b m : Int} {l : List UInt8} {v : AV}
@[simp] theorem rBox_c : rBox ti H (.c c) = some (ti.ok = true ∧ 1 = ti.sz ∧ AC.one H c = true, [[c]]) := by simp [rBox, AV.cells]
@[simp] theorem rBox_g : rBox ti H (.g cs) = some (ti.ok = true ∧ cs.length = ti.sz ∧ cs.all (AC.one H) = true, [cs]) := rfl
@[simp] theorem rBuild_go : rBuild ti (some cs) = some (ti.ok = true ∧ ti.bld = true, .g cs) := rfl
@[simp] theorem rRows_go : rRows ti te n (some rows) = some (ti.form = 2 ∧ te.ok = true ∧ rows.length = n ∧ n * te.sz ≤ 16777216 ∧ 0 < te.sz, rows) := rfl
@[simp] theorem rRead_go : rRead ti (some row) j = (rdRow ti.ag ti.sz row j).map fun v => (ti.ok = true, v) := rfl
@[simp] theorem rLoad_pt : rLoad ti H (.c (.pt id i j)) = rRead ti (rObj H id i) j := rfl
@[simp] theorem rLoad_pv : rLoad ti H (.c (.pv tg row j)) = rRead ti (some row) j := rfl
def rowAt (o : OK) (i : Nat) : Option (List AC) :=
  match o with
  | .arr _ _ _ rows => rows[i]?
  | _ => none
@[simp] theorem rObj_go : rObj H id i = rowAt (H id) i := rfl
@[simp] theorem rowAt_go {e sz : Nat} {f : Bool} : rowAt (.arr e sz f rows) i = rows[i]? := rfl
def stAt (ti : TyI) (H : Heap) (id : Id) (i j : Nat) (cs : List AC) (o : OK) : Option (Prop × Heap) :=
  match o with
  | .arr e sz false rows => match rows[i]? with
      | some row => some (ti.ok = true ∧ cs.length = ti.sz ∧ cs.all (AC.one H) = true ∧ j + cs.length ≤ row.length, hset H id (.arr e sz false (rows.set i (lay row j cs))))
      | none => none
  | _ => none
def stRow (ti : TyI) (H : Heap) (id : Id) (i j e sz : Nat) (cs : List AC) (rows : List (List AC)) (o : Option (List AC)) : Option (Prop × Heap) :=
  o.map fun row => (ti.ok = true ∧ cs.length = ti.sz ∧ cs.all (AC.one H) = true ∧ j + cs.length ≤ row.length, hset H id (.arr e sz false (rows.set i (lay row j cs))))
@[simp] theorem rStore_c : rStore ti H (.c (.pt id i j)) (.c c) = stAt ti H id i j [c] (H id) := rfl
@[simp] theorem rStore_g : rStore ti H (.c (.pt id i j)) (.g cs) = stAt ti H id i j cs (H id) := rfl
@[simp] theorem stAt_go {e sz : Nat} : stAt ti H id i j cs (.arr e sz false rows) = stRow ti H id i j e sz cs rows rows[i]? := by
  show (match rows[i]? with
      | some row => some (ti.ok = true ∧ cs.length = ti.sz ∧ cs.all (AC.one H) = true ∧ j + cs.length ≤ row.length, hset H id (.arr e sz false (rows.set i (lay row j cs))))
      | none => none) = _
  unfold stRow
  generalize rows[i]? = o
  cases o <;> rfl
@[simp] theorem stRow_go {e sz : Nat} : stRow ti H id i j e sz cs rows (some row) = some (ti.ok = true ∧ cs.length = ti.sz ∧ cs.all (AC.one H) = true ∧ j + cs.length ≤ row.length, hset H id (.arr e sz false (rows.set i (lay row j cs)))) := rfl
@[simp] theorem rNil_go : rNil H (.c (.pt id i j)) = some ((H id).live = true, .c (.pt id i j)) := rfl
@[simp] theorem rConv_int : rConv ts ti te H (.c (.raw (.int k a))) = ti.kind.map fun k => (ts.form = 3, .c (.raw (.int k (k.wrap a)))) := rfl
@[simp] theorem rConv_str : rConv ts ti te H (.c (.str l)) = some (ts.form = 1 ∧ ti.form = 1, .c (.str l)) := rfl
@[simp] theorem rConv_so : rConv ts ti te H (.c (.so id off len)) = ((rowsOf H (.so id off len)).bind bytesAC).map fun l => (ts.form = 2 ∧ ti.form = 1 ∧ te.kind = some .u8, .c (.str l)) := rfl
@[simp] theorem rConv_sl : rConv ts ti te H (.c (.sl tg cl xs)) = (bytesAC xs).map fun l => (ts.form = 2 ∧ ti.form = 1 ∧ te.kind = some .u8, .c (.str l)) := rfl
@[simp] theorem rFn_go {first : Array Operand} {f : FuncId} : rFn first f (some cs) = some (first = #[], .c (.fn f cs)) := rfl
@[simp] theorem rMake_go : rMake ti te (.c (.raw (.int .i64 a))) (.c (.raw (.int .i64 b))) = some (a = b ∧ 0 ≤ a ∧ a ≤ 9223372036854775807 ∧ a * te.bytes ≤ 281474976710656 ∧ ti.form = 2 ∧ te.ok = true ∧ 0 < te.sz, a.toNat) := rfl
def faAt (ti : TyI) (live : Bool) (tg : Id ⊕ Tag) (row : List AC) (i j : Nat) (o : Option (Nat × Nat × Bool)) : Option (Prop × AV) :=
  o.map fun q => match tg with
    | .inl id => ((ti.form = 5 ∧ 0 < q.2.1) ∧ live = true, .c (.pt id i (j + q.1)))
    | .inr t => (ti.form = 5 ∧ 0 < q.2.1, .c (.pv t row (j + q.1)))
@[simp] theorem rFieldA_pt {f : Nat} : rFieldA ti H f (.c (.pt id i j)) = ti.offs[f]?.map fun q => ((ti.form = 5 ∧ 0 < q.2.1) ∧ (H id).live = true, .c (.pt id i (j + q.1))) := by
  unfold rFieldA
  cases ti.offs[f]? <;> rfl
@[simp] theorem rFieldA_pv {f : Nat} : rFieldA ti H f (.c (.pv tg row j)) = ti.offs[f]?.map fun q => (ti.form = 5 ∧ 0 < q.2.1, .c (.pv tg row (j + q.1))) := by
  unfold rFieldA
  cases ti.offs[f]? <;> rfl
@[simp] theorem rField_go {f : Nat} : rField ti f (.g cs) = ti.offs[f]?.bind fun q => (rdRow q.2.2 q.2.1 cs q.1).map fun v => (ti.form = 5 ∧ 0 < q.2.1, v) := by
  unfold rField
  cases ti.offs[f]? <;> rfl
@[simp] theorem rIndexA_sl : rIndexA ti te eid H (.c (.sl tg cl xs)) (.c (.raw (.int k a))) = some ((ti.form = 2 ∧ te.ok = true ∧ te.sz = (xs.getD a.toNat []).length) ∧ 0 ≤ a ∧ a < xs.length, .c (.pv tg (xs.getD a.toNat []) 0)) := rfl
@[simp] theorem rIndexA_so : rIndexA ti te eid H (.c (.so id off len)) (.c (.raw (.int k a))) = some ((ti.form = 2 ∧ te.ok = true ∧ ∃ frz rows, H id = .arr eid te.sz frz rows) ∧ 0 ≤ a ∧ a < len, .c (.pt id (off + a.toNat) 0)) := rfl
@[simp] theorem rIndex_go : rIndex ti (.c (.str l)) (.c (.raw (.int k a))) = some (ti.form = 1 ∧ 0 ≤ a ∧ a < l.length, .c (.raw (.int .u8 (bts l a)))) := rfl
def exAt (o : Option (Bool × List AC)) : Option (Prop × AV) :=
  match o with
  | some (true, cs) => some (True, .g cs)
  | some (false, [c]) => some (True, .c c)
  | _ => none
@[simp] theorem rExtract_go {ps : List (Bool × List AC)} : rExtract i (.t ps) = exAt ps[i]? := rfl
@[simp] theorem exAt_g : exAt (some (true, cs)) = some (True, .g cs) := rfl
@[simp] theorem exAt_c : exAt (some (false, [c])) = some (True, .c c) := rfl
def ivA (o : Option AV) (d : Int) : Option Int :=
  match o with
  | none => some d
  | some (.c (.raw (.int _ i))) => some i
  | _ => none
@[simp] theorem rSlice_str {lo hi mx : Option AV} : rSlice ti te eid H (.c (.str l)) lo hi mx = (match lo.getD (.c (.raw (.int .i64 0))), hi.getD (.c (.raw (.int .i64 l.length))) with
    | .c (.raw (.int _ i)), .c (.raw (.int _ j)) => some (ti.form = 1 ∧ mx.isNone = true ∧ 0 ≤ i ∧ i ≤ j ∧ j ≤ l.length, .c (.str ((l.take j.toNat).drop i.toNat)))
    | _, _ => none) := rfl
@[simp] theorem rSlice_sl {lo hi mx : Option AV} : rSlice ti te eid H (.c (.sl tg cl xs)) lo hi mx = (match lo.getD (.c (.raw (.int .i64 0))), hi.getD (.c (.raw (.int .i64 xs.length))), mx with
    | .c (.raw (.int _ i)), .c (.raw (.int _ j)), none => some (ti.form = 2 ∧ te.ok = true ∧ (∀ r ∈ xs, r.length = te.sz) ∧ 0 ≤ i ∧ i ≤ j ∧ j ≤ xs.length, .c (.sl tg false ((xs.take j.toNat).drop i.toNat)))
    | .c (.raw (.int _ i)), .c (.raw (.int _ j)), some (.c (.raw (.int _ m))) => some (ti.form = 2 ∧ te.ok = true ∧ (∀ r ∈ xs, r.length = te.sz) ∧ 0 ≤ i ∧ i ≤ j ∧ j = m ∧ m ≤ xs.length ∧ hi.isSome = true, .c (.sl tg true ((xs.take j.toNat).drop i.toNat)))
    | _, _, _ => none) := rfl
@[simp] theorem rSlice_so {lo hi mx : Option AV} : rSlice ti te eid H (.c (.so id off len)) lo hi mx = (match lo.getD (.c (.raw (.int .i64 0))), hi.getD (.c (.raw (.int .i64 len))), mx with
    | .c (.raw (.int _ i)), .c (.raw (.int _ j)), none => some (ti.form = 2 ∧ te.ok = true ∧ (∃ sz frz rows, H id = .arr eid sz frz rows ∧ sz = te.sz) ∧ 0 ≤ i ∧ i ≤ j ∧ j ≤ len, .c (.so id (off + i.toNat) (j.toNat - i.toNat)))
    | _, _, _ => none) := rfl
@[simp] theorem rLen_str : rLen ti H (.c (.str l)) = some (ti.form = 1, .c (.raw (.int .i64 l.length))) := rfl
@[simp] theorem rLen_so : rLen ti H (.c (.so id off len)) = some (ti.form = 2 ∧ (H id).live = true, .c (.raw (.int .i64 len))) := rfl
@[simp] theorem rLen_sl : rLen ti H (.c (.sl tg cl xs)) = some (ti.form = 2, .c (.raw (.int .i64 xs.length))) := rfl
@[simp] theorem rLen_nil : rLen ti H (.c (.raw (.slice none 0 0))) = some (ti.form = 2, .c (.raw (.int .i64 0))) := rfl
end


/-! ### Two operands -/

variable {ti : TyI} {k : IntKind} {a b : Int}
theorem bin_add : abin ti .add (.c (.raw (.int k a))) (.c (.raw (.int k b))) = some (True, .raw (.int k (k.wrap (a + b)))) := by simp [abin, aint]
theorem bin_sub : abin ti .sub (.c (.raw (.int k a))) (.c (.raw (.int k b))) = some (True, .raw (.int k (k.wrap (a - b)))) := by simp [abin, aint]
theorem bin_mul : abin ti .mul (.c (.raw (.int k a))) (.c (.raw (.int k b))) = some (True, .raw (.int k (k.wrap (a * b)))) := by simp [abin, aint]
theorem bin_lss : abin ti .lss (.c (.raw (.int k a))) (.c (.raw (.int k b))) = some (True, .raw (.bool (decide (a < b)))) := by simp [abin, aint]
theorem bin_leq : abin ti .leq (.c (.raw (.int k a))) (.c (.raw (.int k b))) = some (True, .raw (.bool (decide (a ≤ b)))) := by simp [abin, aint]
theorem bin_gtr : abin ti .gtr (.c (.raw (.int k a))) (.c (.raw (.int k b))) = some (True, .raw (.bool (decide (b < a)))) := by simp [abin, aint]
theorem bin_geq : abin ti .geq (.c (.raw (.int k a))) (.c (.raw (.int k b))) = some (True, .raw (.bool (decide (b ≤ a)))) := by simp [abin, aint]
theorem bin_eql : abin ti .eql (.c (.raw (.int k a))) (.c (.raw (.int k b))) = some (True, .raw (.bool (decide (a = b)))) := by simp [abin, aint]
theorem bin_neq : abin ti .neq (.c (.raw (.int k a))) (.c (.raw (.int k b))) = some (True, .raw (.bool (!decide (a = b)))) := by simp [abin, aint]
theorem bin_and : abin ti .and (.c (.raw (.int k a))) (.c (.raw (.int k b))) = some (True, .raw (.int k (k.wrap (BitVec.ofInt k.bits a &&& BitVec.ofInt k.bits b).toNat))) := by simp [abin, aint]
theorem bin_or : abin ti .or (.c (.raw (.int k a))) (.c (.raw (.int k b))) = some (True, .raw (.int k (k.wrap (BitVec.ofInt k.bits a ||| BitVec.ofInt k.bits b).toNat))) := by simp [abin, aint]
theorem bin_shl {k' : IntKind} : abin ti .shl (.c (.raw (.int k a))) (.c (.raw (.int k' b))) = some (0 ≤ b, .raw (.int k (k.wrap (a * 2 ^ (min b.toNat k.bits))))) := by simp [abin]
theorem bin_shr {k' : IntKind} : abin ti .shr (.c (.raw (.int k a))) (.c (.raw (.int k' b))) = some (0 ≤ b, .raw (.int k (a.fdiv (2 ^ (min b.toNat k.bits))))) := by simp [abin]
theorem bin_quo : abin ti .quo (.c (.raw (.int k a))) (.c (.raw (.int k b))) = some (b ≠ 0, .raw (.int k (k.wrap (a.tdiv b)))) := by simp [abin]
theorem bin_rem : abin ti .rem (.c (.raw (.int k a))) (.c (.raw (.int k b))) = some (b ≠ 0, .raw (.int k (a.tmod b))) := by simp [abin]
variable {x y : List UInt8} {p q : Bool} {xs ys : List AC}
theorem bin_sadd : abin ti .add (.c (.str x)) (.c (.str y)) = some (x.length + y.length ≤ 9223372036854775807, .str (x ++ y)) := by simp [abin]
theorem bin_seql : abin ti .eql (.c (.str x)) (.c (.str y)) = some (True, .raw (.bool (decide (x = y)))) := by simp [abin]
theorem bin_sneq : abin ti .neq (.c (.str x)) (.c (.str y)) = some (True, .raw (.bool (!decide (x = y)))) := by simp [abin]
theorem bin_beql : abin ti .eql (.c (.raw (.bool p))) (.c (.raw (.bool q))) = some (ti.form = 4, .raw (.bool (p == q))) := by simp [abin]
theorem bin_bneq : abin ti .neq (.c (.raw (.bool p))) (.c (.raw (.bool q))) = some (ti.form = 4, .raw (.bool (p != q))) := by simp [abin]
theorem bin_g {op : BinOp} : abin ti op (.g xs) (.g ys) = aeq op (eqCells ti.eqs xs ys) ti.eqs := by simp [abin]


/-! ### The looks at cells -/

variable {H : Heap} {v v' : Value} {l l' : List UInt8} {t t' : Tag} {cl cl' : Bool} {rows rows' : List (List AC)} {id : Id} {off len e sz : Nat} {n : Int}

@[simp] theorem ofVal_int : ofVal (.int k n) = .raw (.int k n) := rfl
@[simp] theorem ofVal_bool : ofVal (.bool p) = .raw (.bool p) := rfl
@[simp] theorem ofVal_string {s : ByteArray} : ofVal (.string s) = .str s.data.toList := rfl
@[simp] theorem ofVal_slice {x : Option Addr} {i j : Nat} : ofVal (.slice x i j) = .raw (.slice x i j) := rfl
@[simp] theorem ofVal_tuple {vs : Array Value} : ofVal (.tuple vs) = .raw (.tuple vs) := rfl
@[simp] theorem ofVal_pointer {x : Option Addr} : ofVal (.pointer x) = .raw (.pointer x) := rfl
@[simp] theorem live_arr {f : Bool} : (OK.arr e sz f rows).live = true := rfl
@[simp] theorem live_dead : OK.dead.live = false := rfl
@[simp] theorem live_unborn : OK.unborn.live = false := rfl
@[simp] theorem cells_c {x : AC} : (AV.c x).cells = some [x] := rfl
@[simp] theorem cells_g {xs : List AC} : (AV.g xs).cells = some xs := rfl
@[simp] theorem viewL_nil : viewL H [] = some [] := rfl
@[simp] theorem viewL_cons {c : AC} {r : List AC} : viewL H (c :: r) = (match viewC H c, viewL H r with
    | some x, some xs => some (x :: xs)
    | _, _ => none) := rfl
@[simp] theorem viewA_nil : viewA H [] = some [] := rfl
@[simp] theorem viewA_cons {c : AV} {r : List AV} : viewA H (c :: r) = (match viewV H c, viewA H r with
    | some x, some xs => some (x :: xs)
    | _, _ => none) := rfl
section
variable {nm : Nat → Id} {i : Nat} {r : List AC}
@[simp] theorem flat_c {x : AC} : (AV.c x).flat = [x] := rfl
@[simp] theorem flat_g {xs : List AC} : (AV.g xs).flat = xs := rfl
@[simp] theorem flat_t {xs : List (Bool × List AC)} : (AV.t xs).flat = flatT xs := rfl
@[simp] theorem ad_c {x : AC} : (AV.c x).ad nm = .c (adC nm 0 x) := rfl
@[simp] theorem ad_g {xs : List AC} : (AV.g xs).ad nm = .g (adL nm 0 xs) := rfl
@[simp] theorem ad_t {xs : List (Bool × List AC)} : (AV.t xs).ad nm = .t (adT nm 0 xs) := rfl
@[simp] theorem adC_nw : adC nm i (.nw e sz rows) = .so (nm i) 0 rows.length := rfl
@[simp] theorem adC_raw : adC nm i (.raw v) = .raw v := rfl
@[simp] theorem adC_str : adC nm i (.str l) = .str l := rfl
@[simp] theorem adC_sl : adC nm i (.sl t cl rows) = .sl t cl rows := rfl
@[simp] theorem adH1_nw : adH1 id (.nw e sz rows) H = hset H id (.arr e sz false rows) := rfl
@[simp] theorem adH1_raw : adH1 id (.raw v) H = H := rfl
@[simp] theorem adH1_str : adH1 id (.str l) H = H := rfl
@[simp] theorem adH1_sl : adH1 id (.sl t cl rows) H = H := rfl
@[simp] theorem adUn_nil : adUn nm H i [] = True := rfl
@[simp] theorem adUn_nw : adUn nm H i (.nw e sz rows :: r) = (H (nm i) = .unborn ∧ adUn nm H (i + 1) r) := rfl
@[simp] theorem adUn_raw : adUn nm H i (.raw v :: r) = adUn nm H (i + 1) r := rfl
@[simp] theorem adUn_str : adUn nm H i (.str l :: r) = adUn nm H (i + 1) r := rfl
@[simp] theorem adUn_sl : adUn nm H i (.sl t cl rows :: r) = adUn nm H (i + 1) r := rfl
@[simp] theorem soIds_nil : soIds [] = [] := rfl
@[simp] theorem soIds_so : soIds (.so id off len :: r) = id :: soIds r := rfl
@[simp] theorem soIds_raw : soIds (.raw v :: r) = soIds r := rfl
@[simp] theorem soIds_str : soIds (.str l :: r) = soIds r := rfl
@[simp] theorem soIds_sl : soIds (.sl t cl rows :: r) = soIds r := rfl
end
@[simp] theorem exL_nil : exL H [] [] = True := rfl
@[simp] theorem exL_cons {c c' : AC} {r r' : List AC} : exL H (c :: r) (c' :: r') = (exC H c c' ∧ exL H r r') := rfl
@[simp] theorem exT_nil : exT H [] [] = True := rfl
@[simp] theorem exT_cons {b b' : Bool} {c c' : List AC} {r r' : List (Bool × List AC)} : exT H ((b, c) :: r) ((b', c') :: r') = (b = b' ∧ exL H c c' ∧ exT H r r') := rfl
@[simp] theorem bytesAC_nil : bytesAC [] = some [] := rfl
@[simp] theorem bytesAC_cons {r : List (List AC)} : bytesAC ([.raw (.int .u8 n)] :: r) = (bytesAC r).map fun l => UInt8.ofNat n.toNat :: l := rfl
@[simp] theorem exC_raw : exC H (.raw v) (.raw v') = (v = v') := by unfold exC; split <;> simp_all
@[simp] theorem exC_str : exC H (.str l) (.str l') = (l = l') := rfl
@[simp] theorem exC_so_nw : exC H (.so id off len) (.nw e sz rows) = (off = 0 ∧ H id = .arr e sz false rows ∧ len = rows.length) := rfl
@[simp] theorem exC_so_sl : exC H (.so id off len) (.sl t cl rows) = (t ≠ .brw ∧ cl = false ∧ rowsOf H (.so id off len) = some rows) := rfl
@[simp] theorem exC_nil_nw : exC H (.raw (.slice none 0 0)) (.nw e sz rows) = (rows = []) := rfl
@[simp] theorem exC_nil_sl : exC H (.raw (.slice none 0 0)) (.sl t cl rows) = (rows = []) := rfl
@[simp] theorem exC_sl_sl : exC H (.sl t cl rows) (.sl t' cl' rows') = (rows = rows' ∧ (t' = t ∨ (t = .new ∧ t' = .old)) ∧ t' ≠ .brw ∧ (cl' = true → cl = true)) := rfl
@[simp] theorem exV_c {x y : AC} : exV H (.c x) (.c y) = exC H x y := rfl
@[simp] theorem exV_g {x y : List AC} : exV H (.g x) (.g y) = exL H x y := rfl
@[simp] theorem exV_t {x y : List (Bool × List AC)} : exV H (.t x) (.t y) = exT H x y := rfl
@[simp] theorem retC_raw : RetC (.raw v) = True := by simp [RetC, retOK_raw]
@[simp] theorem retC_str : RetC (.str l) = True := by simp [RetC, retOK_str]
@[simp] theorem retC_sl : RetC (.sl t cl rows) = (t ≠ .brw ∧ ∀ r ∈ rows, ∀ c ∈ r, RetOK c) := by simp [RetC, retOK_sl]
@[simp] theorem retC_nw : RetC (.nw e sz rows) = (∀ r ∈ rows, ∀ c ∈ r, RetOK c) := rfl
attribute [simp] retOK_raw retOK_str retOK_sl
@[simp] theorem vok_raw : VOK (.raw v) = True := rfl
@[simp] theorem vok_str : VOK (.str l) = True := rfl
@[simp] theorem vok_sl : VOK (.sl t cl rows) = (∀ r ∈ rows, ∀ c ∈ r, OldOK c) := rfl
@[simp] theorem vok_fn {f : FuncId} {caps : List AC} : VOK (.fn f caps) = (∀ c ∈ caps, VOK1 c) := rfl
@[simp] theorem vok_pv {row : List AC} {i : Nat} : VOK (.pv t row i) = (∀ c ∈ row, VOK0 c) := rfl
@[simp] theorem vok1_pv {row : List AC} {i : Nat} : VOK1 (.pv t row i) = (∀ c ∈ row, VOK0 c) := rfl
@[simp] theorem vok1_raw : VOK1 (.raw v) = True := rfl
@[simp] theorem vok1_str : VOK1 (.str l) = True := rfl
@[simp] theorem vok1_sl : VOK1 (.sl t cl rows) = (∀ r ∈ rows, ∀ c ∈ r, OldOK c) := rfl
@[simp] theorem vok0_raw : VOK0 (.raw v) = True := rfl
@[simp] theorem vok0_str : VOK0 (.str l) = True := rfl
@[simp] theorem vok0_sl : VOK0 (.sl t cl rows) = (∀ r ∈ rows, ∀ c ∈ r, OldOK c) := rfl
@[simp] theorem rowsOf_sl : rowsOf H (.sl t cl rows) = some rows := rfl
def rowsAt (o : OK) (off len : Nat) : Option (List (List AC)) :=
  match o with
  | .arr _ _ _ rows => if off + len ≤ rows.length then some ((rows.drop off).take len) else none
  | _ => none
@[simp] theorem rowsOf_so : rowsOf H (.so id off len) = rowsAt (H id) off len := rfl
@[simp] theorem rowsAt_go {f : Bool} : rowsAt (.arr e sz f rows) off len = if off + len ≤ rows.length then some ((rows.drop off).take len) else none := rfl
@[simp] theorem rowsOf_nil : rowsOf H (.raw (.slice none 0 0)) = some [] := rfl
@[simp] theorem viewC_nil : viewC H (.raw (.slice none 0 0)) = some (.sl .brw false []) := rfl
@[simp] theorem viewC_int : viewC H (.raw (.int k n)) = some (.raw (.int k n)) := rfl
@[simp] theorem viewC_bool : viewC H (.raw (.bool p)) = some (.raw (.bool p)) := rfl
@[simp] theorem viewC_str : viewC H (.str l) = some (.str l) := rfl
@[simp] theorem viewC_sl : viewC H (.sl t cl rows) = some (.sl .brw false rows) := rfl
@[simp] theorem viewC_so : viewC H (.so id off len) = (rowsOf H (.so id off len)).map fun rows => .sl .brw false rows := rfl
@[simp] theorem viewV_g : viewV H (.g xs) = (viewL H xs).map .g := rfl
@[simp] theorem viewV_fn {f : FuncId} {caps : List AC} : viewV H (.c (.fn f caps)) = (viewPL H caps).map fun cs => .c (.fn f cs) := rfl
def viewAt (o : OK) (i j : Nat) : Option AC :=
  match o with
  | .arr _ _ _ rows => match rows[i]? with
      | some row => (viewL noHeap row).map fun cs => .pv .brw cs j
      | none => none
  | _ => none
def viewRow (o : Option (List AC)) (j : Nat) : Option AC := o.bind fun row => (viewL noHeap row).map fun cs => .pv .brw cs j
@[simp] theorem viewRow_go {row : List AC} {j : Nat} : viewRow (some row) j = (viewL noHeap row).map fun cs => .pv .brw cs j := rfl
@[simp] theorem viewP_pt {i j : Nat} : viewP H (.pt id i j) = viewAt (H id) i j := rfl
@[simp] theorem viewAt_go {f : Bool} {i j : Nat} : viewAt (.arr e sz f rows) i j = viewRow rows[i]? j := by
  show (match rows[i]? with
      | some row => (viewL noHeap row).map fun cs => AC.pv .brw cs j
      | none => none) = _
  unfold viewRow
  generalize rows[i]? = o
  cases o <;> rfl
@[simp] theorem viewP_pv {row : List AC} {j : Nat} : viewP H (.pv t row j) = (viewL noHeap row).map fun cs => .pv .brw cs j := rfl
@[simp] theorem viewP_raw : viewP H (.raw v) = viewC H (.raw v) := rfl
@[simp] theorem viewP_str : viewP H (.str l) = some (.str l) := rfl
@[simp] theorem viewP_sl : viewP H (.sl t cl rows) = some (.sl .brw false rows) := rfl
@[simp] theorem viewP_so : viewP H (.so id off len) = viewC H (.so id off len) := rfl
@[simp] theorem viewPL_nil : viewPL H [] = some [] := rfl
@[simp] theorem viewPL_cons {c : AC} {r : List AC} : viewPL H (c :: r) = (match viewP H c, viewPL H r with
    | some x, some xs => some (x :: xs)
    | _, _ => none) := rfl
@[simp] theorem viewV_pt {i j : Nat} : viewV H (.c (.pt id i j)) = (viewP H (.pt id i j)).map .c := rfl
@[simp] theorem viewV_pv {row : List AC} {j : Nat} : viewV H (.c (.pv t row j)) = (viewP H (.pv t row j)).map .c := rfl
@[simp] theorem viewV_raw : viewV H (.c (.raw v)) = (viewC H (.raw v)).map .c := rfl
@[simp] theorem viewV_str : viewV H (.c (.str l)) = some (.c (.str l)) := rfl
@[simp] theorem viewV_sl : viewV H (.c (.sl t cl rows)) = some (.c (.sl .brw false rows)) := rfl
@[simp] theorem viewV_so : viewV H (.c (.so id off len)) = (viewC H (.so id off len)).map .c := rfl
@[simp] theorem one_raw : AC.one H (.raw v) = v.oneCell' := rfl
@[simp] theorem one_str : AC.one H (.str l) = true := rfl
@[simp] theorem one_sl : AC.one H (.sl t cl rows) = true := rfl
@[simp] theorem one_so : AC.one H (.so id off len) = (H id).live := rfl
@[simp] theorem one_fn {f : FuncId} {caps : List AC} : AC.one H (.fn f caps) = true := rfl
@[simp] theorem resV_tmp {i : Nat} : resV P st (.tmp i) = some (st.s i) := rfl
def resAt (ti : TyI) (H : Heap) (v : AV) : Option AV :=
  match v with
  | .c (.pt id i j) => match H id with
      | .arr _ _ _ rows => match rows[i]? with
        | some row => if ti.ok = true then rdRow ti.ag ti.sz row j else none
        | none => none
      | _ => none
  | _ => none
def resRow (ti : TyI) (j : Nat) (o : Option (List AC)) : Option AV := o.bind fun row => if ti.ok = true then rdRow ti.ag ti.sz row j else none
@[simp] theorem resRow_go {ti : TyI} {j : Nat} {row : List AC} : resRow ti j (some row) = if ti.ok = true then rdRow ti.ag ti.sz row j else none := rfl
@[simp] theorem resV_cell {x : Nat} {ty : TypeId} : resV P st (.cell x ty) = resAt (tyI P ty) st.H (st.s x) := rfl
@[simp] theorem resAt_go {ti : TyI} {i j : Nat} : resAt ti H (.c (.pt id i j)) = resRow ti j (rObj H id i) := by
  show (match H id with
      | .arr _ _ _ rows => match rows[i]? with
        | some row => if ti.ok = true then rdRow ti.ag ti.sz row j else none
        | none => none
      | _ => none) = _
  unfold resRow rObj
  generalize H id = o
  cases o with
  | arr e sz f rows =>
    simp only
    generalize rows[i]? = q
    cases q <;> rfl
  | _ => rfl
@[simp] theorem part_c {x : AC} : (AV.c x).part = some (false, [x]) := rfl
@[simp] theorem part_g {xs : List AC} : (AV.g xs).part = some (true, xs) := rfl
@[simp] theorem resL_nil : resL P st [] = some [] := rfl
@[simp] theorem resL_cons {r : ResultVar} {rs : List ResultVar} : resL P st (r :: rs) = (match (resV P st r).bind AV.part, resL P st rs with
    | some p, some ps => some (p :: ps)
    | _, _ => none) := by rfl
@[simp] theorem oneCell_int : (Value.int k n).oneCell' = true := rfl
@[simp] theorem oneCell_bool : (Value.bool p).oneCell' = true := rfl
@[simp] theorem oneCell_nil : (Value.slice none 0 0).oneCell' = true := rfl
def onG (v : AV) (want : Bool) (y n1 n2 : Prop) : Prop :=
  match v with
  | .c (.raw (.bool b)) => (b = want → y) ∧ (b = !want → n1)
  | .c (.raw (.tuple _)) => n2
  | _ => False
@[simp] theorem onG_boolT {y n1 n2 : Prop} : onG (.c (.raw (.bool p))) true y n1 n2 = onIf p y n1 := rfl
@[simp] theorem onG_boolF {y n1 n2 : Prop} : onG (.c (.raw (.bool p))) false y n1 n2 = onUn p y n1 := rfl
@[simp] theorem onG_undef {want : Bool} {y n1 n2 : Prop} {vs : Array Value} : onG (.c (.raw (.tuple vs))) want y n1 n2 = n2 := rfl
@[congr] theorem onG_cg {v v' : AV} {want : Bool} {y n1 n2 : Prop} (h : v = v') : onG v want y n1 n2 = onG v' want y n1 n2 := by rw [h]
theorem agd_go {j : Nat} {want : Bool} {y n : St → Prop} : agd (some j) want st y n = onG (st.s j) want (y (st.put (some j) (.c (.raw (.bool want))))) (n (st.put (some j) (.c (.raw (.bool (!want)))))) (n st) := by
  unfold agd
  simp only
  generalize st.s j = v
  cases v with
  | c c => cases c with
    | raw u => cases u <;> rfl
    | _ => rfl
  | _ => rfl
@[simp] theorem undef_eq : undef = Value.tuple #[] := rfl

attribute [simp ↓] newObj_gon agd_go go_slice go_move go_assign go_pick go_alloc go_box go_build go_buildSlice go_load go_store go_nilCheck go_bin_t go_bin_i go_bin_b go_bin_s go_bin_nil go_not go_convert go_makeFunc go_makeSlice go_fieldAddr go_field go_indexAddr go_index go_extract go_call go_callS go_cond go_builtin go_len
attribute [simp]
  bin_add bin_sub bin_mul bin_lss bin_leq bin_gtr bin_geq bin_eql bin_neq bin_and bin_or bin_shl bin_shr bin_quo bin_rem bin_sadd bin_seql bin_sneq bin_beql bin_bneq bin_g

end Go.AE

/- The abstract machine: loops, rows of texts and numbers. -/
set_option linter.unusedVariables false
set_option linter.unusedSimpArgs false
namespace Go.AE
open Go

variable {P : Program} {F : CT} {st : St}

theorem callS_mono {dr : Bool} {dst : Option Nat} {f : FuncId} {args : List AV} {K K' : St → Prop} (hk : ∀ st, K st → K' st) (h : CallS P F dr st dst f args K) : CallS P F dr st dst f args K' := by
  unfold CallS at *
  split at h
  · split at h
    · split at h
      · exact ⟨h.1, h.2.1, h.2.2.1, hk _ h.2.2.2⟩
      · exact h
    · exact h
  · exact acall_mono hk h

theorem stepS_mono {dr : Bool} {dst : Option Nat} {op : Op} {K K' : St → Prop} (hk : ∀ st, K st → K' st) (h : stepS P F dr dst op st K) : stepS P F dr dst op st K' := by
  cases op
  case call c =>
    simp only [stepS] at h ⊢
    split at h
    · exact abi_mono hk h
    · split at h
      · exact callS_mono hk h
      · exact h.elim
    · exact h.elim
  case binOp op t x y t' =>
    simp only [stepS] at h ⊢
    split at h
    · rename_i e; rw [if_pos e]; exact ⟨h.1, aNil_mono hk h.2⟩
    · rename_i e; rw [if_neg e]; exact aop_mono hk h
  all_goals (simp only [stepS] at h ⊢; exact aop_mono hk h)

theorem opsS_mono {dr : Bool} : ∀ {l : List SO} {K K' : St → Prop} {st : St}, (∀ st, K st → K' st) → opsS P F dr l K st → opsS P F dr l K' st
  | [], K, K', st, hk, h => hk _ h
  | o :: l, K, K', st, hk, h => by
    unfold opsS at h ⊢
    split at h
    · exact stepS_mono (fun st h => opsS_mono hk h) h
    · exact agd_mono (fun st h => stepS_mono (fun st h => opsS_mono hk h) h) (fun st h => opsS_mono hk h) h

theorem awpS_mono : ∀ {c : SC} {Q Q' : AEx → St → Prop} {st : St}, (∀ e st, Q e st → Q' e st) → awpS P F c Q st → awpS P F c Q' st
  | .skip, Q, Q', st, hq, h => hq _ _ h
  | .region id ops d, Q, Q', st, hq, h => opsS_mono (fun st h => hq _ _ h) h
  | .seq x y, Q, Q', st, hq, h => awpS_mono (c := x) (fun e st h => by cases e <;> first | exact awpS_mono (c := y) hq h | exact hq _ _ h) h
  | .cond c x y, Q, Q', st, hq, h => by
    unfold awpS at h ⊢
    split at h
    · exact ⟨fun e => awpS_mono (c := x) hq (h.1 e), fun e => awpS_mono (c := y) hq (h.2 e)⟩
    · exact h
  | .block id x, Q, Q', st, hq, h => awpS_mono (c := x) (fun e st h => by
      cases e with
      | exit j =>
        simp only [ablock] at h ⊢
        split
        · rename_i hj; rw [if_pos hj] at h; exact hq _ _ h
        · rename_i hj; rw [if_neg hj] at h; exact hq _ _ h
      | _ => exact hq _ _ h) h
  | .loop x, Q, Q', st, hq, h => by
    obtain ⟨I, μ, h1, h2⟩ := h
    exact ⟨I, μ, h1, fun st' hi => awpS_mono (c := x) (fun e st h => by cases e <;> first | exact h | exact hq _ _ h) (h2 st' hi)⟩
  | .exit id, Q, Q', st, hq, h => hq _ _ h
  | .ret, Q, Q', st, hq, h => hq _ _ h
  | .no, _, _, _, _, h => h.elim

/-- A loop with a measure that falls. -/
theorem loop_n {x : SC} {Q : AEx → St → Prop} (I : Nat → St → Prop) (n : Nat) (h0 : I n st) (h : ∀ n st', I n st' → awpS P F x (athen (fun st'' => ∃ m, m < n ∧ I m st'') Q) st') : awpS P F (.loop x) Q st := by
  classical
  have least : ∀ (m : Nat) st, I m st → ∃ k, I k st ∧ ∀ j, I j st → k ≤ j := by
    intro m
    induction m using Nat.strongRecOn with
    | _ m ih =>
      intro st hm
      by_cases hq : ∃ j, j < m ∧ I j st
      · obtain ⟨j, hj, hI⟩ := hq
        exact ih j hj st hI
      · exact ⟨m, hm, fun j hj => Nat.le_of_not_lt fun hlt => hq ⟨j, hlt, hj⟩⟩
  let μ : St → Nat := fun st => if hq : ∃ m, I m st then Classical.choose (least (Classical.choose hq) st (Classical.choose_spec hq)) else 0
  have hμ : ∀ m st, I m st → I (μ st) st ∧ μ st ≤ m := fun m st hm => by
    have hq : ∃ m, I m st := ⟨m, hm⟩
    have := Classical.choose_spec (least (Classical.choose hq) st (Classical.choose_spec hq))
    have e : μ st = Classical.choose (least (Classical.choose hq) st (Classical.choose_spec hq)) := by simp only [μ]; rw [dif_pos hq]
    rw [e]
    exact ⟨this.1, this.2 m hm⟩
  refine ⟨fun st => ∃ m, I m st, μ, ⟨n, h0⟩, fun st' ⟨m, hm⟩ => ?_⟩
  refine awpS_mono (fun e st'' q => ?_) (h (μ st') st' (hμ m st' hm).1)
  cases e with
  | normal =>
    obtain ⟨m', hlt, hm'⟩ := q
    exact ⟨⟨m', hm'⟩, Nat.lt_of_le_of_lt (hμ m' st'' hm').2 hlt⟩
  | _ => exact q

/-! ### Rows of what is told by values -/

/-- Values that stand in rows. -/
class Enc (α : Type) where
  w : Nat
  row : α → List AC
  dec : List AC → Option α
  dec_row : ∀ a, dec (row a) = some a
  row_dec : ∀ {r : List AC} {a : α}, dec r = some a → r = row a
  len : ∀ a, (row a).length = w
  old : ∀ a, ∀ c ∈ row a, OldOK c
  ret : ∀ a, ∀ c ∈ row a, RetOK c

section
variable {α : Type} [Enc α]

def rowsE (l : List α) : List (List AC) := l.map Enc.row

def decE : List (List AC) → Option (List α)
  | [] => some []
  | r :: rs => match Enc.dec r, decE rs with
    | some a, some l => some (a :: l)
    | _, _ => none

@[simp] theorem rowsE_length (l : List α) : (rowsE l).length = l.length := by simp [rowsE]
@[simp] theorem rowsE_nil : rowsE ([] : List α) = [] := rfl
@[simp] theorem decE_rows : ∀ l : List α, decE (rowsE l) = some l
  | [] => rfl
  | s :: l => by
    have := decE_rows l
    unfold rowsE at this
    simp [rowsE, decE, this, Enc.dec_row]
theorem decE_some : ∀ {r : List (List AC)} {l : List α}, decE r = some l → r = rowsE l
  | [], l, h => by simp [decE] at h; subst h; rfl
  | r :: rs, l, h => by
    unfold decE at h
    split at h
    · rename_i a l' h1 h2
      cases h
      rw [decE_some h2, Enc.row_dec h1]; rfl
    · cases h
@[simp] theorem rowsE_elem {l : List α} {i : Nat} (h : i < (rowsE l).length) : (rowsE l)[i] = Enc.row (l[i]'(by simpa using h)) := by simp [rowsE]
@[simp] theorem rowsE_at {l : List α} {i : Nat} (h : i < l.length) : (rowsE l)[i]?.getD [] = Enc.row l[i] := by simp [rowsE, h]
@[simp] theorem rowsE_get? {l : List α} {i : Nat} : (rowsE l)[i]? = (l[i]?).map Enc.row := by simp [rowsE]
@[simp] theorem rowsE_old {l : List α} : (∀ r ∈ rowsE l, ∀ c ∈ r, OldOK c) ↔ True := by simp only [rowsE, List.mem_map, iff_true]; rintro r ⟨a, _, rfl⟩; exact Enc.old a
@[simp] theorem rowsE_ret {l : List α} : (∀ r ∈ rowsE l, ∀ c ∈ r, RetOK c) ↔ True := by simp only [rowsE, List.mem_map, iff_true]; rintro r ⟨a, _, rfl⟩; exact Enc.ret a
@[simp] theorem rowsE_len {l : List α} {n : Nat} (h : n = Enc.w α) : (∀ r ∈ rowsE l, r.length = n) ↔ True := by
  subst h
  simp only [rowsE, List.mem_map, iff_true]
  rintro r ⟨a, _, rfl⟩
  exact Enc.len a
theorem rowsE_append (l m : List α) : rowsE (l ++ m) = rowsE l ++ rowsE m := by simp [rowsE]
theorem rowsE_one (a : α) : [Enc.row a] = rowsE [a] := rfl
theorem rowsE_snoc (l : List α) (a : α) : rowsE l ++ [Enc.row a] = rowsE (l ++ [a]) := by simp [rowsE]
theorem rowsE_set (l : List α) (i : Nat) (a : α) : (rowsE l).set i (Enc.row a) = rowsE (l.set i a) := by simp [rowsE, List.map_set]
theorem rowsE_drop (l : List α) (i : Nat) : (rowsE l).drop i = rowsE (l.drop i) := by simp [rowsE, List.map_drop]
theorem rowsE_take (l : List α) (i : Nat) : (rowsE l).take i = rowsE (l.take i) := by simp [rowsE, List.map_take]
theorem rowsE_replicate (n : Nat) (a : α) : List.replicate n (Enc.row a) = rowsE (List.replicate n a) := by simp [rowsE]
@[simp] theorem rowsE_inj {l m : List α} : rowsE l = rowsE m ↔ l = m :=
  ⟨fun h => by have := congrArg (decE (α := α)) h; simpa using this, fun h => by rw [h]⟩
@[simp] theorem rowsE_nil_iff {l : List α} : rowsE l = [] ↔ l = [] := by simp [rowsE]
end

instance encS : Enc (List UInt8) where
  w := 1
  row s := [.str s]
  dec | [.str s] => some s | _ => none
  dec_row _ := rfl
  row_dec {r a} h := by split at h <;> simp_all
  len _ := rfl
  old a c hc := by simp at hc; subst hc; exact .str _
  ret a c hc := by simp at hc; subst hc; exact .str _

instance encI : Enc Int where
  w := 1
  row n := [.raw (.int .i64 n)]
  dec | [.raw (.int .i64 n)] => some n | _ => none
  dec_row _ := rfl
  row_dec {r a} h := by split at h <;> simp_all
  len _ := rfl
  old a c hc := by simp at hc; subst hc; exact .raw _
  ret a c hc := by simp at hc; subst hc; exact .raw _

@[simp] theorem row_S (s : List UInt8) : Enc.row s = [AC.str s] := rfl
@[simp] theorem row_I (n : Int) : Enc.row n = [AC.raw (.int .i64 n)] := rfl
@[simp] theorem w_S : Enc.w (List UInt8) = 1 := rfl
@[simp] theorem w_I : Enc.w Int = 1 := rfl

/-- Two lists are one, place by place. -/
theorem eq_step {α : Type} {a b : List α} {i : Nat} (h : a.take i = b.take i) (ha : i < a.length) (hb : i < b.length) (he : a[i] = b[i]) : a.take (i + 1) = b.take (i + 1) := by
  rw [List.take_add_one, List.take_add_one, h]; simp [ha, hb, he]

theorem wrap64_id {n : Int} (h1 : -9223372036854775808 ≤ n) (h2 : n ≤ 9223372036854775807) : IntKind.wrap .i64 n = n := by
  have : IntKind.wrap .i64 n = if n % 18446744073709551616 ≥ 9223372036854775808 then n % 18446744073709551616 - 18446744073709551616 else n % 18446744073709551616 := by
    simp [IntKind.wrap, IntKind.bits, IntKind.signed]
  rw [this]
  split <;> omega

attribute [simp] Int.natCast_inj Int.ofNat_inj

/-- What append makes: the heap ahead of the new object, its type, its cells, its rows. -/
def apAt (e : TypeId) (te : TyI) (teq same : Prop) (H : Heap) (id : Id) (n : Nat) (ys : List (List AC)) (o : OK) : Option (Prop × (Heap × Nat × Nat × List (List AC))) :=
  match o with
  | .arr e' sz false xs => some (teq ∧ e' = e ∧ sz = te.sz ∧ te.ok = true ∧ (∀ r ∈ ys, r.length = sz) ∧ 0 < sz ∧ n = xs.length ∧ ¬ same ∧
      xs.length + ys.length ≤ 9223372036854775807 ∧ (xs.length + ys.length) * te.bytes ≤ 140737488355328, (hset H id .dead, e', sz, xs ++ ys))
  | _ => none
def rApp (e : TypeId) (te : TyI) (teq : Prop) (H : Heap) (x y : AV) (ys : Option (List (List AC))) : Option (Prop × (Heap × Nat × Nat × List (List AC))) :=
  match x, ys with
  | .c (.raw (.slice none 0 0)), some ys => some (teq ∧ te.ok = true ∧ (∀ r ∈ ys, r.length = te.sz) ∧ 0 < te.sz ∧ ys.length ≤ 9223372036854775807 ∧ ys.length * te.bytes ≤ 140737488355328, (H, e, te.sz, ys))
  | .c (.sl _ true xs), some ys => some (teq ∧ te.ok = true ∧ (∀ r ∈ xs, r.length = te.sz) ∧ (∀ r ∈ ys, r.length = te.sz) ∧ 0 < te.sz ∧ (0 < ys.length ∨ xs = []) ∧
        xs.length + ys.length ≤ 9223372036854775807 ∧ (xs.length + ys.length) * te.bytes ≤ 140737488355328, (H, e, te.sz, xs ++ ys))
  | .c (.so id 0 n), some ys => apAt e te teq (y = .c (.so id 0 n)) H id n ys (H id)
  | _, _ => none
section
variable {e : TypeId} {te : TyI} {teq : Prop} {H : Heap} {y : AV} {ys xs : List (List AC)} {tg : Tag} {id : Id} {n : Nat}
@[simp] theorem rApp_nil : rApp e te teq H (.c (.raw (.slice none 0 0))) y (some ys) = some (teq ∧ te.ok = true ∧ (∀ r ∈ ys, r.length = te.sz) ∧ 0 < te.sz ∧ ys.length ≤ 9223372036854775807 ∧ ys.length * te.bytes ≤ 140737488355328, (H, e, te.sz, ys)) := rfl
@[simp] theorem rApp_sl : rApp e te teq H (.c (.sl tg true xs)) y (some ys) = some (teq ∧ te.ok = true ∧ (∀ r ∈ xs, r.length = te.sz) ∧ (∀ r ∈ ys, r.length = te.sz) ∧ 0 < te.sz ∧ (0 < ys.length ∨ xs = []) ∧
        xs.length + ys.length ≤ 9223372036854775807 ∧ (xs.length + ys.length) * te.bytes ≤ 140737488355328, (H, e, te.sz, xs ++ ys)) := rfl
@[simp] theorem rApp_so : rApp e te teq H (.c (.so id 0 n)) y (some ys) = apAt e te teq (y = .c (.so id 0 n)) H id n ys (H id) := rfl
@[simp] theorem apAt_go {e' sz : Nat} {same : Prop} : apAt e te teq same H id n ys (.arr e' sz false xs) = some (teq ∧ e' = e ∧ sz = te.sz ∧ te.ok = true ∧ (∀ r ∈ ys, r.length = sz) ∧ 0 < sz ∧ n = xs.length ∧ ¬ same ∧
      xs.length + ys.length ≤ 9223372036854775807 ∧ (xs.length + ys.length) * te.bytes ≤ 140737488355328, (hset H id .dead, e', sz, xs ++ ys)) := rfl
end
def rowsV (H : Heap) (v : AV) : Option (List (List AC)) :=
  match v with
  | .c c => rowsOf H c
  | _ => none
@[simp] theorem rowsV_go {H : Heap} {c : AC} : rowsV H (.c c) = rowsOf H c := rfl
theorem go_append {d : Nat} {K : St → Prop} {x y : Operand} {t t' : TypeId} : abi P (some d) .append [x, y] [t, t'] st K =
    onP (rApp (tyI P t).elem (tyI P (tyI P t).elem) ((tyI P t).form = 2 ∧ t' = t) st.H (st.eval x) (st.eval y) (rowsV st.H (st.eval y))) fun r => newObj (st.hto r.1) (some d) r.2.1 r.2.2.1 r.2.2.2 (fun id => .so id 0 r.2.2.2.length) K := by
  simp only [abi]
  generalize hy : st.eval y = yv
  have go : ∀ u : Option (List (List AC)), (match st.eval x, u, some d with
    | .c (.raw (.slice none 0 0)), some ys, some d =>
      ((tyI P t).form = 2 ∧ t' = t ∧ (tyI P (tyI P t).elem).ok = true ∧ (∀ r ∈ ys, r.length = (tyI P (tyI P t).elem).sz) ∧ 0 < (tyI P (tyI P t).elem).sz ∧ ys.length ≤ 9223372036854775807 ∧ ys.length * (tyI P (tyI P t).elem).bytes ≤ 140737488355328) ∧
        newObj st (some d) (tyI P t).elem (tyI P (tyI P t).elem).sz ys (fun id => .so id 0 ys.length) K
    | .c (.sl _ true xs), some ys, some d =>
      ((tyI P t).form = 2 ∧ t' = t ∧ (tyI P (tyI P t).elem).ok = true ∧ (∀ r ∈ xs, r.length = (tyI P (tyI P t).elem).sz) ∧ (∀ r ∈ ys, r.length = (tyI P (tyI P t).elem).sz) ∧ 0 < (tyI P (tyI P t).elem).sz ∧ (0 < ys.length ∨ xs = []) ∧
        xs.length + ys.length ≤ 9223372036854775807 ∧ (xs.length + ys.length) * (tyI P (tyI P t).elem).bytes ≤ 140737488355328) ∧
        newObj st (some d) (tyI P t).elem (tyI P (tyI P t).elem).sz (xs ++ ys) (fun id => .so id 0 (xs.length + ys.length)) K
    | .c (.so id 0 n), some ys, some d =>
      match st.H id with
      | .arr e sz false xs =>
        ((tyI P t).form = 2 ∧ t' = t ∧ e = (tyI P t).elem ∧ sz = (tyI P (tyI P t).elem).sz ∧ (tyI P (tyI P t).elem).ok = true ∧ (∀ r ∈ ys, r.length = sz) ∧ 0 < sz ∧ n = xs.length ∧ yv ≠ .c (.so id 0 n) ∧
          xs.length + ys.length ≤ 9223372036854775807 ∧ (xs.length + ys.length) * (tyI P (tyI P t).elem).bytes ≤ 140737488355328) ∧
          newObj { st with H := hset st.H id .dead } (some d) e sz (xs ++ ys) (fun id => .so id 0 (xs.length + ys.length)) K
      | _ => False
    | _, _, _ => False) = onP (rApp (tyI P t).elem (tyI P (tyI P t).elem) ((tyI P t).form = 2 ∧ t' = t) st.H (st.eval x) yv u) fun r => newObj (st.hto r.1) (some d) r.2.1 r.2.2.1 r.2.2.2 (fun id => .so id 0 r.2.2.2.length) K := fun u => by
    generalize st.eval x = v
    cases u with
    | none =>
      cases v with
      | c c => cases c with
        | raw w => cases w with
          | slice a b c => cases a <;> cases b <;> cases c <;> rfl
          | _ => rfl
        | sl _ b _ => cases b <;> rfl
        | so id off n => cases off <;> rfl
        | _ => rfl
      | _ => rfl
    | some ys =>
      cases v with
      | c c => cases c with
        | raw w => cases w with
          | slice a b c =>
            cases a with
            | some a => rfl
            | none => cases b with
              | zero => cases c with
                | zero => simp only [rApp_nil, onP_go, and_assoc]; rfl
                | succ c => rfl
              | succ b => rfl
          | _ => rfl
        | sl tg b xs => cases b with
          | false => rfl
          | true => simp only [rApp_sl, onP_go, and_assoc, List.length_append]; rfl
        | so id off n => cases off with
          | succ o => rfl
          | zero =>
            simp only [rApp_so]
            cases st.H id with
            | arr ee sz f xs => cases f with
              | true => rfl
              | false => simp only [apAt_go, onP_go, and_assoc, List.length_append, ne_eq]; rfl
            | _ => rfl
        | _ => rfl
      | _ => rfl
  exact go (rowsV st.H yv)

def cpAt (t : TyI) (te : TyI) (H : Heap) (id : Id) (off len : Nat) (ys : List (List AC)) (o : OK) : Option (Prop × (Heap × Nat)) :=
  match o with
  | .arr e sz false rows => some (t.form = 2 ∧ sz = te.sz ∧ te.ok = true ∧ (∀ r ∈ ys, r.length = sz) ∧ 0 < sz ∧ off + len ≤ rows.length, (hset H id (.arr e sz false (rows.take off ++ ys.take len ++ rows.drop (off + min len ys.length))), min len ys.length))
  | _ => none
def rCopy (t te : TyI) (H : Heap) (x : AV) (ys : Option (List (List AC))) : Option (Prop × (Heap × Nat)) :=
  match x, ys with
  | .c (.so id off len), some ys => cpAt t te H id off len ys (H id)
  | _, _ => none
@[simp] theorem rCopy_go {t te : TyI} {H : Heap} {id : Id} {off len : Nat} {ys : List (List AC)} : rCopy t te H (.c (.so id off len)) (some ys) = cpAt t te H id off len ys (H id) := rfl
@[simp] theorem cpAt_go {t te : TyI} {H : Heap} {id : Id} {off len e sz : Nat} {ys rows : List (List AC)} : cpAt t te H id off len ys (.arr e sz false rows) = some (t.form = 2 ∧ sz = te.sz ∧ te.ok = true ∧ (∀ r ∈ ys, r.length = sz) ∧ 0 < sz ∧ off + len ≤ rows.length, (hset H id (.arr e sz false (rows.take off ++ ys.take len ++ rows.drop (off + min len ys.length))), min len ys.length)) := rfl
theorem go_copy {dst : Option Nat} {K : St → Prop} {x y : Operand} {t t' : TypeId} : abi P dst .copy [x, y] [t, t'] st K =
    onP (rCopy (tyI P t) (tyI P (tyI P t).elem) st.H (st.eval x) (rowsV st.H (st.eval y))) fun r => K ((st.hto r.1).put dst (.c (.raw (.int .i64 ((r.2 : Nat) : Int))))) := by
  simp only [abi]
  generalize st.eval x = v
  generalize st.eval y = q
  cases q with
  | c cc =>
    simp only [rowsV_go]
    generalize rowsOf st.H cc = u
    cases v with
    | c c =>
      cases c with
      | so id off len =>
        cases u with
        | none => rfl
        | some ys =>
          simp only [rCopy_go]
          cases st.H id with
          | arr ee sz f rows =>
            cases f with
            | true => rfl
            | false => simp only [cpAt_go, onP_go]; rfl
          | _ => rfl
      | _ => rfl
    | _ => rfl
  | _ =>
    cases v with
    | c c => cases c <;> rfl
    | _ => rfl

attribute [simp ↓] go_append go_copy

section
variable {ks : List Nat} {xs ys eqs : List AC} {k : IntKind} {a b : Int} {p q r : Bool} {s t : List UInt8} {es : List Nat}
@[simp] theorem eqc_nil : eqCells [] [] [] = some true := rfl
@[simp] theorem eqc_int : eqCells (3 :: ks) (.raw (.int k a) :: xs) (.raw (.int k b) :: ys) = (eqCells ks xs ys).map fun r => decide (a = b) && r := by simp [eqCells]
@[simp] theorem eqc_bool : eqCells (4 :: ks) (.raw (.bool p) :: xs) (.raw (.bool q) :: ys) = (eqCells ks xs ys).map fun r => (p == q) && r := by simp [eqCells]
@[simp] theorem eqc_str : eqCells (1 :: ks) (.str s :: xs) (.str t :: ys) = (eqCells ks xs ys).map fun r => decide (s = t) && r := by simp [eqCells]
@[simp] theorem aeq_eql : aeq .eql (some r) es = some (es ≠ [], .raw (.bool r)) := rfl
@[simp] theorem aeq_neq : aeq .neq (some r) es = some (es ≠ [], .raw (.bool (!r))) := rfl
end

@[simp] theorem hto_hto (H H' : Heap) : (st.hto H).hto H' = st.hto H' := rfl

/-- No object has a name that is to come. -/
def Fresh (H : Heap) (T : Nat) : Prop := ∀ k d, T ≤ k → H (k, d) = .unborn
theorem Fresh.set {H : Heap} {T T' : Nat} {i : Id} {o : OK} (h : Fresh H T) (hT : T ≤ T') (hi : i.1 < T') : Fresh (hset H i o) T' := fun k d hk => by
  unfold hset
  rw [if_neg (fun e => by rw [← e] at hi; simp at hi; omega)]
  exact h k d (by omega)
theorem Fresh.mono {H : Heap} {T T' : Nat} (h : Fresh H T) (hT : T ≤ T') : Fresh H T' := fun k d hk => h k d (by omega)
theorem Fresh.lt {H : Heap} {T : Nat} {i : Id} (h : Fresh H T) (hi : H i ≠ .unborn) : i.1 < T := by
  rcases Nat.lt_or_ge i.1 T with q | q
  · exact q
  · exact (hi (h i.1 i.2 q)).elim
theorem Fresh.ne {H : Heap} {T : Nat} {i : Id} (h : Fresh H T) (hi : H i ≠ .unborn) (d : Nat) : (T, d) ≠ i := fun e => by
  have := h.lt hi
  rw [← e] at this
  simp at this
theorem Fresh.nee {H : Heap} {T : Nat} {i : Id} (h : Fresh H T) (hi : H i ≠ .unborn) (k d : Nat) (hk : T ≤ k) : ((k, d) = i) = False := by
  have := h.lt hi
  simp only [eq_iff_iff, iff_false]
  intro e
  rw [← e] at this
  simp at this; omega
theorem Fresh.nee' {H : Heap} {T : Nat} {i : Id} (h : Fresh H T) (hi : H i ≠ .unborn) (k d : Nat) (hk : T ≤ k) : (i = (k, d)) = False := by
  have := h.nee hi k d hk
  simp only [eq_iff_iff, iff_false] at this ⊢
  exact fun e => this e.symm
theorem fresh_no : Fresh noHeap 0 := fun _ _ _ => rfl

end Go.AE

/- The disk's helpers: what they tell. -/
set_option linter.unusedVariables false
set_option linter.unusedSimpArgs false
set_option maxHeartbeats 2000000
namespace Go.AE
open Go Go.Proofs

theorem sector_ev {F : CT} (hF : CTok Try.prog F) (l : List UInt8) : PEv Try.prog 28 [.c (.str l)] (.c (.raw (.bool (decide (l.length = 32))))) := by
  refine tells_of mixed hF Try.func28 sl28 ok28 (by kernel_rfl) (by simp -implicitDefEqProofs) (by simp -implicitDefEqProofs) ?_
  simp -implicitDefEqProofs [s28, ty9, ty3, ty4, Try.results28]
  omega

theorem between_ev {F : CT} (hF : CTok Try.prog F) (n lo hi : Int) : PEv Try.prog 21 [.c (.raw (.int .i64 n)), .c (.raw (.int .i64 lo)), .c (.raw (.int .i64 hi))] (.c (.raw (.bool (decide (lo ≤ n) && decide (n ≤ hi))))) := by
  refine tells_of mixed hF Try.func21 sl21 ok21 (by kernel_rfl) (by simp -implicitDefEqProofs) (by simp -implicitDefEqProofs) ?_
  simp -implicitDefEqProofs [s21, ty9, ty3, ty4, Try.results21]
  omega

theorem eqStrings_ev {F : CT} (hF : CTok Try.prog F) (a b : List (List UInt8)) (ha : a.length < 4611686018427387904) : PEv Try.prog 33 [.c (.sl .brw false (rowsE a)), .c (.sl .brw false (rowsE b))] (.c (.raw (.bool (decide (a = b))))) := by
  refine tells_of mixed hF Try.func33 sl33 ok33 (by kernel_rfl) (by simp -implicitDefEqProofs) (by simp -implicitDefEqProofs) ?_
  simp -implicitDefEqProofs [s33, ty22, ty3, ty4, Try.results33]
  refine ⟨fun h e => h (by rw [e]), fun hl => ?_⟩
  have hl : a.length = b.length := by omega
  refine loop_n (fun n st => ∃ i : Nat, i ≤ a.length ∧ n = a.length - i ∧ st.s 0 = .c (.sl .brw false (rowsE a)) ∧ st.s 1 = .c (.sl .brw false (rowsE b)) ∧ st.s 5 = .c (.raw (.int .i64 i)) ∧ a.take i = b.take i) a.length ⟨0, by simp -implicitDefEqProofs⟩ ?_
  rintro n st ⟨i, hi, rfl, h0, h1, h5, hp⟩
  by_cases hlt : i < a.length
  · have hb : i < b.length := by omega
    simp -implicitDefEqProofs [s33L0, h0, h1, h5, ty22, ty9, ty3, ty4, Try.results33, hlt, hb]
    refine ⟨fun hne e => hne (by subst e; rfl), fun he => ⟨a.length - (i + 1), by omega, i + 1, by omega, rfl, ?_, ?_⟩⟩
    · rw [wrap64_id (by omega) (by omega)]; rfl
    · exact eq_step hp hlt hb he
  · simp -implicitDefEqProofs [s33L0, h0, h1, h5, ty22, ty9, ty3, ty4, Try.results33, hlt]
    have : i = a.length := by omega
    rw [this, List.take_length, hl, List.take_length] at hp
    exact hp

theorem copyStrings_ev {F : CT} (hF : CTok Try.prog F) (l : List (List UInt8)) (hl : l.length < 1000000) : PEv Try.prog 38 [.c (.sl .brw false (rowsE l))] (.c (.nw 9 1 (rowsE l))) := by
  refine tells_of mixed hF Try.func38 sl38 ok38 (by kernel_rfl) (by simp -implicitDefEqProofs) (by simp -implicitDefEqProofs) ?_
  simp -implicitDefEqProofs [s38, ty22, ty3, ty4, Try.results38]
  refine loop_n (fun n st => ∃ i : Nat, i ≤ l.length ∧ n = l.length - i ∧ st.s 0 = .c (.sl .brw false (rowsE l)) ∧ st.s 4 = .c (.raw (.int .i64 i)) ∧ Fresh st.H st.T ∧
    ((st.s 3 = .c (.raw (.slice none 0 0)) ∧ i = 0) ∨ ∃ id, st.s 3 = .c (.so id 0 i) ∧ st.H id = .arr 9 1 false (rowsE (l.take i)))) l.length ⟨0, by simp -implicitDefEqProofs [fresh_no.mono]⟩ ?_
  rintro n st ⟨i, hi, rfl, h0, h4, hf, hown⟩
  have hff := fun d => hf (st.T + 1) d (by omega)
  by_cases hlt : i < l.length
  · have hw : IntKind.wrap .i64 ((i : Int) + 1) = ((i + 1 : Nat) : Int) := by rw [wrap64_id] <;> omega
    have ht : rowsE (l.take (i + 1)) = rowsE (l.take i) ++ [Enc.row l[i]] := by rw [rowsE_snoc, List.take_add_one]; simp -implicitDefEqProofs [hlt]
    rcases hown with ⟨h3, rfl⟩ | ⟨id, h3, hid⟩
    · simp -implicitDefEqProofs [s38L0, h0, h4, h3, ty22, ty9, ty3, ty4, hlt, hff]
      refine ⟨_, ?_, 1, ?_, rfl, rfl, ?_, _, _, ⟨⟨rfl, rfl⟩, rfl⟩, ?_⟩
      · omega
      · omega
      · exact (hf.set (T' := st.T + 2) (by omega) (by simp -implicitDefEqProofs)).set (by omega) (by simp -implicitDefEqProofs)
      · simp -implicitDefEqProofs at ht; simp -implicitDefEqProofs [ht]
    · have hne := hf.nee (i := id) (by rw [hid]; simp -implicitDefEqProofs) (st.T + 1)
      have hne' := hf.nee' (i := id) (by rw [hid]; simp -implicitDefEqProofs) (st.T + 1)
      have hi2 : (rowsE (l.take i)).length = i := by simp -implicitDefEqProofs; omega
      simp -implicitDefEqProofs [s38L0, h0, h4, h3, ty22, ty9, ty3, ty4, hlt, hff, hid, hne, hne', hw, Nat.min_eq_left hi]
      refine ⟨by omega, _, ?_, i + 1, ?_, rfl, rfl, ?_, _, _, ⟨⟨rfl, rfl⟩, rfl⟩, ?_⟩
      · omega
      · omega
      · exact ((hf.set (T' := st.T + 2) (by omega) (by simp -implicitDefEqProofs)).set (T' := st.T + 2) (by omega) (by have := hf.lt (i := id) (by rw [hid]; simp -implicitDefEqProofs); omega)).set (by omega) (by simp -implicitDefEqProofs)
      · simp -implicitDefEqProofs [ht]
  · rcases hown with ⟨h3, rfl⟩ | ⟨id, h3, hid⟩
    · simp -implicitDefEqProofs [s38L0, h0, h4, h3, ty22, ty9, ty3, ty4, Try.results38, hlt, hff]
      simpa using hlt
    · have : i = l.length := by omega
      subst this
      simp -implicitDefEqProofs [s38L0, h0, h4, h3, ty22, ty9, ty3, ty4, Try.results38, hlt, hff, hid]
end Go.AE

/- The abstract machine: tables of what functions tell, by values. -/
set_option linter.unusedVariables false
set_option linter.unusedSimpArgs false
namespace Go.AE
open Go

/-- What holds behind a loop, said once. -/
theorem loop_cut {P : Program} {F : CT} {x y : SC} {id : Nat} {Q Q' : AEx → St → Prop} {st : St} (R : St → Prop) (hl : awpS P F x (ablock id (athen R Q')) st) (hy : ∀ st, R st → awpS P F y Q st) :
    awpS P F x (ablock id (athen (awpS P F y Q) Q')) st := by
  refine awpS_mono (fun e st h => ?_) hl
  cases e with
  | normal => exact hy st h
  | exit j =>
    simp only [ablock_e] at h ⊢
    split
    · rename_i hj
      rw [if_pos hj] at h
      exact hy st h
    · rename_i hj
      rw [if_neg hj] at h
      exact h
  | ret => exact h

/-- Values as arguments. -/
class Arg (α : Type) where
  enc : α → AV
  dec : AV → Option α
  dec_some : ∀ {x : AV} {a : α}, dec x = some a → x = enc a

section
variable {P : Program} {α β γ δ : Type} [Arg α] [Arg β] [Arg γ] [Arg δ]

def t1 (C : α → Prop) (R : α → AV) : List AV → Option (Prop × AV)
  | [x] => (Arg.dec x).map fun a => (C a, R a)
  | _ => none
def t2 (C : α → β → Prop) (R : α → β → AV) : List AV → Option (Prop × AV)
  | [x, y] => match Arg.dec x, Arg.dec y with
    | some a, some b => some (C a b, R a b)
    | _, _ => none
  | _ => none
def t3 (C : α → β → γ → Prop) (R : α → β → γ → AV) : List AV → Option (Prop × AV)
  | [x, y, z] => match Arg.dec x, Arg.dec y, Arg.dec z with
    | some a, some b, some c => some (C a b c, R a b c)
    | _, _, _ => none
  | _ => none

theorem tells1 {f : FuncId} {C : α → Prop} {R : α → AV} (h : ∀ a, C a → PEv P f [Arg.enc a] (R a)) : Tells P f (t1 C R) := by
  intro args D ret he hD
  unfold t1 at he
  split at he
  · rename_i x
    rw [Option.map_eq_some_iff] at he
    obtain ⟨a, h1, h2⟩ := he
    cases h2
    rw [Arg.dec_some h1]
    exact h a hD
  · cases he

theorem tells2 {f : FuncId} {C : α → β → Prop} {R : α → β → AV} (h : ∀ a b, C a b → PEv P f [Arg.enc a, Arg.enc b] (R a b)) : Tells P f (t2 C R) := by
  intro args D ret he hD
  unfold t2 at he
  split at he
  · split at he
    · rename_i a b h1 h2
      cases he
      rw [Arg.dec_some h1, Arg.dec_some h2]
      exact h a b hD
    · cases he
  · cases he

theorem tells3 {f : FuncId} {C : α → β → γ → Prop} {R : α → β → γ → AV} (h : ∀ a b c, C a b c → PEv P f [Arg.enc a, Arg.enc b, Arg.enc c] (R a b c)) : Tells P f (t3 C R) := by
  intro args D ret he hD
  unfold t3 at he
  split at he
  · split at he
    · rename_i a b c h1 h2 h3
      cases he
      rw [Arg.dec_some h1, Arg.dec_some h2, Arg.dec_some h3]
      exact h a b c hD
    · cases he
  · cases he
end

@[simp] theorem t1_go {α : Type} [Arg α] {C : α → Prop} {R : α → AV} {x : AV} : t1 C R [x] = (Arg.dec x).map fun a => (C a, R a) := rfl
@[simp] theorem t2_go {α β : Type} [Arg α] [Arg β] {C : α → β → Prop} {R : α → β → AV} {x y : AV} : t2 C R [x, y] = (match (Arg.dec x : Option α), (Arg.dec y : Option β) with
    | some a, some b => some (C a b, R a b)
    | _, _ => none) := rfl
@[simp] theorem t3_go {α β γ : Type} [Arg α] [Arg β] [Arg γ] {C : α → β → γ → Prop} {R : α → β → γ → AV} {x y z : AV} : t3 C R [x, y, z] = (match (Arg.dec x : Option α), (Arg.dec y : Option β), (Arg.dec z : Option γ) with
    | some a, some b, some c => some (C a b c, R a b c)
    | _, _, _ => none) := rfl

def t0 (R : AV) : List AV → Option (Prop × AV)
  | [] => some (True, R)
  | _ => none
@[simp] theorem t0_go {R : AV} : t0 R [] = some (True, R) := rfl
theorem tells0 {P : Program} {f : FuncId} {R : AV} (h : PEv P f [] R) : Tells P f (t0 R) := by
  intro args D ret he hD
  cases args with
  | nil => cases he; exact h
  | cons a r => cases he

def t4 {α β γ δ : Type} [Arg α] [Arg β] [Arg γ] [Arg δ] (C : α → β → γ → δ → Prop) (R : α → β → γ → δ → AV) : List AV → Option (Prop × AV)
  | [x, y, z, u] => match Arg.dec x, Arg.dec y, Arg.dec z, Arg.dec u with
    | some a, some b, some c, some d => some (C a b c d, R a b c d)
    | _, _, _, _ => none
  | _ => none
@[simp] theorem t4_go {α β γ δ : Type} [Arg α] [Arg β] [Arg γ] [Arg δ] {C : α → β → γ → δ → Prop} {R : α → β → γ → δ → AV} {x y z u : AV} : t4 C R [x, y, z, u] = (match (Arg.dec x : Option α), (Arg.dec y : Option β), (Arg.dec z : Option γ), (Arg.dec u : Option δ) with
    | some a, some b, some c, some d => some (C a b c d, R a b c d)
    | _, _, _, _ => none) := rfl
theorem tells4 {P : Program} {α β γ δ : Type} [Arg α] [Arg β] [Arg γ] [Arg δ] {f : FuncId} {C : α → β → γ → δ → Prop} {R : α → β → γ → δ → AV} (h : ∀ a b c d, C a b c d → PEv P f [Arg.enc a, Arg.enc b, Arg.enc c, Arg.enc d] (R a b c d)) : Tells P f (t4 C R) := by
  intro args D ret he hD
  unfold t4 at he
  split at he
  · split at he
    · rename_i a b c d h1 h2 h3 h4
      cases he
      rw [Arg.dec_some h1, Arg.dec_some h2, Arg.dec_some h3, Arg.dec_some h4]
      exact h a b c d hD
    · cases he
  · cases he

instance argI : Arg Int where
  enc n := .c (.raw (.int .i64 n))
  dec | .c (.raw (.int .i64 n)) => some n | _ => none
  dec_some {x a} h := by split at h <;> simp_all
instance argS : Arg (List UInt8) where
  enc s := .c (.str s)
  dec | .c (.str s) => some s | _ => none
  dec_some {x a} h := by split at h <;> simp_all
instance argL {α : Type} [Enc α] : Arg (List α) where
  enc l := .c (.sl .brw false (rowsE l))
  dec | .c (.sl .brw false xs) => decE xs | _ => none
  dec_some {x a} h := by
    split at h
    · rw [decE_some h]
    · cases h

@[simp] theorem enc_I (n : Int) : Arg.enc n = .c (.raw (.int .i64 n)) := rfl
@[simp] theorem enc_S (s : List UInt8) : Arg.enc s = .c (.str s) := rfl
@[simp] theorem enc_L {α : Type} [Enc α] (l : List α) : @Arg.enc (List α) argL l = .c (.sl .brw false (rowsE l)) := rfl
@[simp] theorem dec_I (n : Int) : Arg.dec (.c (.raw (.int .i64 n))) = some n := rfl
@[simp] theorem dec_S (s : List UInt8) : (Arg.dec (.c (.str s)) : Option (List UInt8)) = some s := rfl
@[simp] theorem dec_L {α : Type} [Enc α] (l : List α) : @Arg.dec (List α) argL (.c (.sl .brw false (rowsE l))) = some l := decE_rows l
@[simp] theorem dec_L0 {α : Type} [Enc α] : @Arg.dec (List α) argL (.c (.sl .brw false [])) = some [] := rfl

end Go.AE

/- The disk's values. -/
set_option linter.unusedVariables false
namespace Go.AE
open Go

structure Sect where
  at_ : Int
  text : List UInt8
  deriving DecidableEq

instance encSect : Enc Sect where
  w := 2
  row s := [.raw (.int .i64 s.at_), .str s.text]
  dec | [.raw (.int .i64 n), .str t] => some ⟨n, t⟩ | _ => none
  dec_row _ := rfl
  row_dec {r a} h := by split at h <;> simp_all; subst h; exact ⟨rfl, rfl⟩
  len _ := rfl
  old a c hc := by simp -implicitDefEqProofs at hc; rcases hc with rfl | rfl <;> constructor
  ret a c hc := by simp -implicitDefEqProofs at hc; rcases hc with rfl | rfl <;> constructor

@[simp] theorem row_Sect (s : Sect) : Enc.row s = [AC.raw (.int .i64 s.at_), AC.str s.text] := rfl
@[simp] theorem w_Sect : Enc.w Sect = 2 := rfl

structure DiskV where
  safe : List (List UInt8)
  wait : List Sect
  deriving DecidableEq

theorem Sect.ext_iff' {a b : Sect} : a = b ↔ a.at_ = b.at_ ∧ a.text = b.text := by
  cases a; cases b; simp -implicitDefEqProofs

end Go.AE

/- The disk's helpers: more of them. -/
set_option linter.unusedVariables false
set_option linter.unusedSimpArgs false
set_option maxHeartbeats 2000000
namespace Go.AE
open Go Go.Proofs

theorem eqSectors_ev {F : CT} (hF : CTok Try.prog F) (a b : List Sect) (ha : a.length < 4611686018427387904) : PEv Try.prog 34 [.c (.sl .brw false (rowsE a)), .c (.sl .brw false (rowsE b))] (.c (.raw (.bool (decide (a = b))))) := by
  refine tells_of mixed hF Try.func34 sl34 ok34 (by kernel_rfl) (by simp -implicitDefEqProofs) (by simp -implicitDefEqProofs) ?_
  simp -implicitDefEqProofs [s34, ty23, ty57, ty3, ty4, Try.results34]
  refine ⟨fun h e => h (by rw [e]), fun hl => ?_⟩
  have hl : a.length = b.length := by omega
  refine loop_n (fun n st => ∃ i : Nat, i ≤ a.length ∧ n = a.length - i ∧ st.s 0 = .c (.sl .brw false (rowsE a)) ∧ st.s 1 = .c (.sl .brw false (rowsE b)) ∧ st.s 5 = .c (.raw (.int .i64 i)) ∧ a.take i = b.take i) a.length ⟨0, by simp -implicitDefEqProofs⟩ ?_
  rintro n st ⟨i, hi, rfl, h0, h1, h5, hp⟩
  by_cases hlt : i < a.length
  · have hb : i < b.length := by omega
    simp -implicitDefEqProofs [s34L0, h0, h1, h5, ty23, ty57, ty3, ty4, Try.results34, hlt, hb]
    refine ⟨by rintro hne rfl; simp -implicitDefEqProofs at hne, fun he he2 => ⟨a.length - (i + 1), by omega, i + 1, by omega, rfl, ?_, ?_⟩⟩
    · rw [wrap64_id (by omega) (by omega)]; rfl
    · exact eq_step hp hlt hb (Sect.ext_iff'.2 ⟨he, he2⟩)
  · simp -implicitDefEqProofs [s34L0, h0, h1, h5, ty23, ty57, ty3, ty4, Try.results34, hlt]
    have : i = a.length := by omega
    rw [this, List.take_length, hl, List.take_length] at hp
    exact hp

theorem copySectors_ev {F : CT} (hF : CTok Try.prog F) (l : List Sect) (hl : l.length < 1000000) : PEv Try.prog 39 [.c (.sl .brw false (rowsE l))] (.c (.nw 57 2 (rowsE l))) := by
  refine tells_of mixed hF Try.func39 sl39 ok39 (by kernel_rfl) (by simp -implicitDefEqProofs) (by simp -implicitDefEqProofs) ?_
  simp -implicitDefEqProofs [s39, ty23, ty57, ty3, ty4, Try.results39]
  refine loop_n (fun n st => ∃ i : Nat, i ≤ l.length ∧ n = l.length - i ∧ st.s 0 = .c (.sl .brw false (rowsE l)) ∧ st.s 4 = .c (.raw (.int .i64 i)) ∧ Fresh st.H st.T ∧
    ((st.s 3 = .c (.raw (.slice none 0 0)) ∧ i = 0) ∨ ∃ id, st.s 3 = .c (.so id 0 i) ∧ st.H id = .arr 57 2 false (rowsE (l.take i)))) l.length ⟨0, by simp -implicitDefEqProofs [fresh_no.mono]⟩ ?_
  rintro n st ⟨i, hi, rfl, h0, h4, hf, hown⟩
  have hff := fun d => hf (st.T + 1) d (by omega)
  by_cases hlt : i < l.length
  · have hw : IntKind.wrap .i64 ((i : Int) + 1) = ((i + 1 : Nat) : Int) := by rw [wrap64_id] <;> omega
    have ht : rowsE (l.take (i + 1)) = rowsE (l.take i) ++ [Enc.row l[i]] := by rw [rowsE_snoc, List.take_add_one]; simp -implicitDefEqProofs [hlt]
    rcases hown with ⟨h3, rfl⟩ | ⟨id, h3, hid⟩
    · simp -implicitDefEqProofs [s39L0, h0, h4, h3, ty23, ty57, ty3, ty4, hlt, hff]
      refine ⟨_, ?_, 1, ?_, rfl, rfl, ?_, _, _, ⟨⟨rfl, rfl⟩, rfl⟩, ?_⟩
      · omega
      · omega
      · exact (hf.set (T' := st.T + 2) (by omega) (by simp -implicitDefEqProofs)).set (by omega) (by simp -implicitDefEqProofs)
      · simp -implicitDefEqProofs at ht; simp -implicitDefEqProofs [ht]
    · have hne := hf.nee (i := id) (by rw [hid]; simp -implicitDefEqProofs) (st.T + 1)
      have hne' := hf.nee' (i := id) (by rw [hid]; simp -implicitDefEqProofs) (st.T + 1)
      simp -implicitDefEqProofs [s39L0, h0, h4, h3, ty23, ty57, ty3, ty4, hlt, hff, hid, hne, hne', hw, Nat.min_eq_left hi]
      refine ⟨by omega, _, ?_, i + 1, ?_, rfl, rfl, ?_, _, _, ⟨⟨rfl, rfl⟩, rfl⟩, ?_⟩
      · omega
      · omega
      · exact ((hf.set (T' := st.T + 2) (by omega) (by simp -implicitDefEqProofs)).set (T' := st.T + 2) (by omega) (by have := hf.lt (i := id) (by rw [hid]; simp -implicitDefEqProofs); omega)).set (by omega) (by simp -implicitDefEqProofs)
      · simp -implicitDefEqProofs [ht]
  · rcases hown with ⟨h3, rfl⟩ | ⟨id, h3, hid⟩
    · simp -implicitDefEqProofs [s39L0, h0, h4, h3, ty23, ty57, ty3, ty4, Try.results39, hlt, hff]
      simpa using hlt
    · have : i = l.length := by omega
      subst this
      simp -implicitDefEqProofs [s39L0, h0, h4, h3, ty23, ty57, ty3, ty4, Try.results39, hlt, hff, hid]

theorem copyNumbers_ev {F : CT} (hF : CTok Try.prog F) (l : List Int) (hl : l.length < 1000000) : PEv Try.prog 41 [.c (.sl .brw false (rowsE l))] (.c (.nw 3 1 (rowsE l))) := by
  refine tells_of mixed hF Try.func41 sl41 ok41 (by kernel_rfl) (by simp -implicitDefEqProofs) (by simp -implicitDefEqProofs) ?_
  simp -implicitDefEqProofs [s41, ty38, ty3, ty3, ty4, Try.results41]
  refine loop_n (fun n st => ∃ i : Nat, i ≤ l.length ∧ n = l.length - i ∧ st.s 0 = .c (.sl .brw false (rowsE l)) ∧ st.s 4 = .c (.raw (.int .i64 i)) ∧ Fresh st.H st.T ∧
    ((st.s 3 = .c (.raw (.slice none 0 0)) ∧ i = 0) ∨ ∃ id, st.s 3 = .c (.so id 0 i) ∧ st.H id = .arr 3 1 false (rowsE (l.take i)))) l.length ⟨0, by simp -implicitDefEqProofs [fresh_no.mono]⟩ ?_
  rintro n st ⟨i, hi, rfl, h0, h4, hf, hown⟩
  have hff := fun d => hf (st.T + 1) d (by omega)
  by_cases hlt : i < l.length
  · have hw : IntKind.wrap .i64 ((i : Int) + 1) = ((i + 1 : Nat) : Int) := by rw [wrap64_id] <;> omega
    have ht : rowsE (l.take (i + 1)) = rowsE (l.take i) ++ [Enc.row l[i]] := by rw [rowsE_snoc, List.take_add_one]; simp -implicitDefEqProofs [hlt]
    rcases hown with ⟨h3, rfl⟩ | ⟨id, h3, hid⟩
    · simp -implicitDefEqProofs [s41L0, h0, h4, h3, ty38, ty3, ty3, ty4, hlt, hff]
      refine ⟨_, ?_, 1, ?_, rfl, rfl, ?_, _, _, ⟨⟨rfl, rfl⟩, rfl⟩, ?_⟩
      · omega
      · omega
      · exact (hf.set (T' := st.T + 2) (by omega) (by simp -implicitDefEqProofs)).set (by omega) (by simp -implicitDefEqProofs)
      · simp -implicitDefEqProofs at ht; simp -implicitDefEqProofs [ht]
    · have hne := hf.nee (i := id) (by rw [hid]; simp -implicitDefEqProofs) (st.T + 1)
      have hne' := hf.nee' (i := id) (by rw [hid]; simp -implicitDefEqProofs) (st.T + 1)
      simp -implicitDefEqProofs [s41L0, h0, h4, h3, ty38, ty3, ty3, ty4, hlt, hff, hid, hne, hne', hw, Nat.min_eq_left hi]
      refine ⟨by omega, _, ?_, i + 1, ?_, rfl, rfl, ?_, _, _, ⟨⟨rfl, rfl⟩, rfl⟩, ?_⟩
      · omega
      · omega
      · exact ((hf.set (T' := st.T + 2) (by omega) (by simp -implicitDefEqProofs)).set (T' := st.T + 2) (by omega) (by have := hf.lt (i := id) (by rw [hid]; simp -implicitDefEqProofs); omega)).set (by omega) (by simp -implicitDefEqProofs)
      · simp -implicitDefEqProofs [ht]
  · rcases hown with ⟨h3, rfl⟩ | ⟨id, h3, hid⟩
    · simp -implicitDefEqProofs [s41L0, h0, h4, h3, ty38, ty3, ty3, ty4, Try.results41, hlt, hff]
      simpa using hlt
    · have : i = l.length := by omega
      subst this
      simp -implicitDefEqProofs [s41L0, h0, h4, h3, ty38, ty3, ty3, ty4, Try.results41, hlt, hff, hid]

end Go.AE

/- The disk's helpers: disks. -/
set_option linter.unusedVariables false
set_option linter.unusedSimpArgs false
set_option maxHeartbeats 2000000
namespace Go.AE
open Go Go.Proofs

def F1_h28 : List AV → Option (Prop × AV) := t1 (fun _ => True) fun l : List UInt8 => .c (.raw (.bool (decide (l.length = 32))))
@[simp] theorem F1_ap28 {l : List AV} : F1_h28 l = (t1 (fun _ => True) fun l : List UInt8 => .c (.raw (.bool (decide (l.length = 32))))) l := rfl
def F1_h33 : List AV → Option (Prop × AV) := t2 (fun a _ => a.length < 4611686018427387904) fun (a b : List (List UInt8)) => .c (.raw (.bool (decide (a = b))))
@[simp] theorem F1_ap33 {l : List AV} : F1_h33 l = (t2 (fun a _ => a.length < 4611686018427387904) fun (a b : List (List UInt8)) => .c (.raw (.bool (decide (a = b))))) l := rfl
def F1_h34 : List AV → Option (Prop × AV) := t2 (fun a _ => a.length < 4611686018427387904) fun (a b : List Sect) => .c (.raw (.bool (decide (a = b))))
@[simp] theorem F1_ap34 {l : List AV} : F1_h34 l = (t2 (fun a _ => a.length < 4611686018427387904) fun (a b : List Sect) => .c (.raw (.bool (decide (a = b))))) l := rfl
def F1_h38 : List AV → Option (Prop × AV) := t1 (fun l => l.length < 1000000) fun l : List (List UInt8) => .c (.nw 9 1 (rowsE l))
@[simp] theorem F1_ap38 {l : List AV} : F1_h38 l = (t1 (fun l => l.length < 1000000) fun l : List (List UInt8) => .c (.nw 9 1 (rowsE l))) l := rfl
def F1_h39 : List AV → Option (Prop × AV) := t1 (fun l => l.length < 1000000) fun l : List Sect => .c (.nw 57 2 (rowsE l))
@[simp] theorem F1_ap39 {l : List AV} : F1_h39 l = (t1 (fun l => l.length < 1000000) fun l : List Sect => .c (.nw 57 2 (rowsE l))) l := rfl
def F1_h41 : List AV → Option (Prop × AV) := t1 (fun l => l.length < 1000000) fun l : List Int => .c (.nw 3 1 (rowsE l))
@[simp] theorem F1_ap41 {l : List AV} : F1_h41 l = (t1 (fun l => l.length < 1000000) fun l : List Int => .c (.nw 3 1 (rowsE l))) l := rfl
def F1_h21 : List AV → Option (Prop × AV) := t3 (fun _ _ _ => True) fun n lo hi : Int => .c (.raw (.bool (decide (lo ≤ n) && decide (n ≤ hi))))
@[simp] theorem F1_ap21 {l : List AV} : F1_h21 l = (t3 (fun _ _ _ => True) fun n lo hi : Int => .c (.raw (.bool (decide (lo ≤ n) && decide (n ≤ hi))))) l := rfl
def F1 : CT := (28, F1_h28) :: (33, F1_h33) :: (34, F1_h34) :: (38, F1_h38) :: (39, F1_h39) :: (41, F1_h41) :: (21, F1_h21) :: []
theorem F1_ok : CTok Try.prog F1 := ⟨tells1 fun l _ => sector_ev (F := []) trivial l,
  tells2 fun a b h => eqStrings_ev (F := []) trivial a b h,
  tells2 fun a b h => eqSectors_ev (F := []) trivial a b h,
  tells1 fun l h => copyStrings_ev (F := []) trivial l h,
  tells1 fun l h => copySectors_ev (F := []) trivial l h,
  tells1 fun l h => copyNumbers_ev (F := []) trivial l h,
  tells3 fun n lo hi _ => between_ev (F := []) trivial n lo hi, trivial⟩
@[simp] theorem F1_get28 : ctGet F1 28 = some F1_h28 := rfl
@[simp] theorem F1_get33 : ctGet F1 33 = some F1_h33 := rfl
@[simp] theorem F1_get34 : ctGet F1 34 = some F1_h34 := rfl
@[simp] theorem F1_get38 : ctGet F1 38 = some F1_h38 := rfl
@[simp] theorem F1_get39 : ctGet F1 39 = some F1_h39 := rfl
@[simp] theorem F1_get41 : ctGet F1 41 = some F1_h41 := rfl
@[simp] theorem F1_get21 : ctGet F1 21 = some F1_h21 := rfl
@[simp] theorem F1_skip {n : Nat} (h : (n == 28 || n == 33 || n == 34 || n == 38 || n == 39 || n == 41 || n == 21) = false) : ctGet F1 n = ctGet ([] : CT) n := by
  simp only [Bool.or_eq_false_iff, beq_eq_false_iff_ne, ne_eq] at h
  simp [F1, ctGet, h]

instance argDisk : Arg DiskV where
  enc d := .g [.sl .brw false (rowsE d.safe), .sl .brw false (rowsE d.wait)]
  dec | .g [.sl .brw false a, .sl .brw false b] => (match decE a, decE b with | some a, some b => some ⟨a, b⟩ | _, _ => none) | _ => none
  dec_some {x d} h := by
    split at h
    · split at h
      · rename_i h1 h2
        cases h
        rw [decE_some h1, decE_some h2]
      · cases h
    · cases h

@[simp] theorem enc_Disk (d : DiskV) : Arg.enc d = .g [.sl .brw false (rowsE d.safe), .sl .brw false (rowsE d.wait)] := rfl
@[simp] theorem dec_Disk (a : List (List UInt8)) (b : List Sect) : Arg.dec (.g [.sl .brw false (rowsE a), .sl .brw false (rowsE b)]) = some (DiskV.mk a b) := by
  show (match decE (rowsE a), decE (rowsE b) with | some a, some b => some (DiskV.mk a b) | _, _ => none) = _
  simp -implicitDefEqProofs

def diskNw (d : DiskV) : List AC := [.nw 9 1 (rowsE d.safe), .nw 57 2 (rowsE d.wait)]

theorem eqDisk_ev (a b : DiskV) (h1 : a.safe.length < 4611686018427387904) (h2 : a.wait.length < 4611686018427387904) : PEv Try.prog 17 [Arg.enc a, Arg.enc b] (.c (.raw (.bool (decide (a = b))))) := by
  refine tells_of mixed F1_ok Try.func17 sl17 ok17 (by kernel_rfl) (by simp -implicitDefEqProofs) (by simp -implicitDefEqProofs) ?_
  simp -implicitDefEqProofs [s17, ty25, ty22, ty23, ty3, ty4, ty57, Try.results17, h1, h2]
  cases a; cases b
  simp -implicitDefEqProofs
  exact ⟨fun h _ => h, fun h h' => (h h').elim⟩

theorem copyDisk_ev (d : DiskV) (h1 : d.safe.length < 1000000) (h2 : d.wait.length < 1000000) : PEv Try.prog 22 [Arg.enc d] (.g (diskNw d)) := by
  refine tells_of mixed F1_ok Try.func22 sl22 ok22 (by kernel_rfl) (by simp -implicitDefEqProofs [diskNw]) (by simp -implicitDefEqProofs) ?_
  simp -implicitDefEqProofs [s22, ty25, ty22, ty23, ty3, ty4, ty57, h1, h2, Try.results22, diskNw]
end Go.AE

/- The disk's helpers: numbers, blanks. -/
set_option linter.unusedVariables false
set_option linter.unusedSimpArgs false
set_option maxHeartbeats 2000000
namespace Go.AE
open Go Go.Proofs

theorem num31_ev (n hi : Int) : PEv Try.prog 31 [.c (.raw (.int .i64 n)), .c (.raw (.int .i64 hi))] (.c (.raw (.bool (decide (0 ≤ n) && decide (n ≤ hi))))) := by
  refine tells_of mixed F1_ok Try.func31 sl31 ok31 (by kernel_rfl) (by simp -implicitDefEqProofs) (by simp -implicitDefEqProofs) ?_
  simp -implicitDefEqProofs [s31]
  omega

theorem num13_ev (n : Int) : PEv Try.prog 13 [.c (.raw (.int .i64 n))] (.c (.raw (.int .i64 n))) := by
  refine tells_of mixed F1_ok Try.func13 sl13 ok13 (by kernel_rfl) (by simp -implicitDefEqProofs) (by simp -implicitDefEqProofs) ?_
  simp -implicitDefEqProofs [s13]

/-- i modulo n, as a whole number without sign. -/
def within (i n : Int) : Int := (i % 18446744073709551616) % n

theorem wrapU_id {n : Int} (h1 : 0 ≤ n) (h2 : n < 18446744073709551616) : IntKind.wrap .u64 n = n := by
  have : IntKind.wrap .u64 n = n % 18446744073709551616 := by simp -implicitDefEqProofs [IntKind.wrap, IntKind.bits, IntKind.signed]
  rw [this]; omega
theorem wrapU {n : Int} : IntKind.wrap .u64 n = n % 18446744073709551616 := by simp -implicitDefEqProofs [IntKind.wrap, IntKind.bits, IntKind.signed]

theorem within_ev (i n : Int) (h1 : 0 < n) (h2 : n ≤ 9223372036854775807) : PEv Try.prog 15 [.c (.raw (.int .i64 i)), .c (.raw (.int .i64 n))] (.c (.raw (.int .i64 (within i n)))) := by
  refine tells_of mixed F1_ok Try.func15 sl15 ok15 (by kernel_rfl) (by simp -implicitDefEqProofs) (by simp -implicitDefEqProofs) ?_
  simp -implicitDefEqProofs [s15, wrapU]
  have e : n % 18446744073709551616 = n := by omega
  rw [e]
  refine ⟨by omega, ?_⟩
  have h3 : 0 ≤ i % 18446744073709551616 := by omega
  rw [Int.tmod_eq_emod_of_nonneg h3]
  unfold within
  have h4 := Int.emod_nonneg (i % 18446744073709551616) (by omega : n ≠ 0)
  have h5 := Int.emod_lt_of_pos (i % 18446744073709551616) h1
  exact wrap64_id (by omega) (by omega)

theorem bytes_zero (n : Nat) : bytesAC (List.replicate n [AC.raw (.int .u8 0)]) = some (List.replicate n 0) := by
  induction n with
  | zero => rfl
  | succ n ih => simp -implicitDefEqProofs [List.replicate_succ, ih]

def blank : List UInt8 := List.replicate 32 0

theorem zeros_ev (n : Nat) (h : n ≤ 1000000) : PEv Try.prog 45 [.c (.raw (.int .i64 n))] (.c (.str (List.replicate n 0))) := by
  refine tells_of mixed F1_ok Try.func45 sl45 ok45 (by kernel_rfl) (by simp -implicitDefEqProofs) (by simp -implicitDefEqProofs) ?_
  simp -implicitDefEqProofs [s45, bytes_zero]
  omega

theorem zerosI_ev (n : Int) (h : 0 ≤ n ∧ n ≤ 1000000) : PEv Try.prog 45 [.c (.raw (.int .i64 n))] (.c (.str (List.replicate n.toNat 0))) := by
  have := zeros_ev n.toNat (by omega)
  rw [Int.toNat_of_nonneg h.1] at this
  exact this

def F2_h31 : List AV → Option (Prop × AV) := t2 (fun _ _ => True) fun n hi : Int => .c (.raw (.bool (decide (0 ≤ n) && decide (n ≤ hi))))
@[simp] theorem F2_ap31 {l : List AV} : F2_h31 l = (t2 (fun _ _ => True) fun n hi : Int => .c (.raw (.bool (decide (0 ≤ n) && decide (n ≤ hi))))) l := rfl
def F2_h13 : List AV → Option (Prop × AV) := t1 (fun _ => True) fun n : Int => .c (.raw (.int .i64 n))
@[simp] theorem F2_ap13 {l : List AV} : F2_h13 l = (t1 (fun _ => True) fun n : Int => .c (.raw (.int .i64 n))) l := rfl
def F2_h15 : List AV → Option (Prop × AV) := t2 (fun _ n => 0 < n ∧ n ≤ 9223372036854775807) fun i n : Int => .c (.raw (.int .i64 (within i n)))
@[simp] theorem F2_ap15 {l : List AV} : F2_h15 l = (t2 (fun _ n => 0 < n ∧ n ≤ 9223372036854775807) fun i n : Int => .c (.raw (.int .i64 (within i n)))) l := rfl
def F2_h45 : List AV → Option (Prop × AV) := t1 (fun n => 0 ≤ n ∧ n ≤ 1000000) fun n : Int => .c (.str (List.replicate n.toNat 0))
@[simp] theorem F2_ap45 {l : List AV} : F2_h45 l = (t1 (fun n => 0 ≤ n ∧ n ≤ 1000000) fun n : Int => .c (.str (List.replicate n.toNat 0))) l := rfl
def F2_h17 : List AV → Option (Prop × AV) := t2 (fun a b => a.safe.length < 4611686018427387904 ∧ a.wait.length < 4611686018427387904) fun a b : DiskV => .c (.raw (.bool (decide (a = b))))
@[simp] theorem F2_ap17 {l : List AV} : F2_h17 l = (t2 (fun a b => a.safe.length < 4611686018427387904 ∧ a.wait.length < 4611686018427387904) fun a b : DiskV => .c (.raw (.bool (decide (a = b))))) l := rfl
def F2_h22 : List AV → Option (Prop × AV) := t1 (fun d => d.safe.length < 1000000 ∧ d.wait.length < 1000000) fun d : DiskV => .g (diskNw d)
@[simp] theorem F2_ap22 {l : List AV} : F2_h22 l = (t1 (fun d => d.safe.length < 1000000 ∧ d.wait.length < 1000000) fun d : DiskV => .g (diskNw d)) l := rfl
def F2 : CT := (31, F2_h31) :: (13, F2_h13) :: (15, F2_h15) :: (45, F2_h45) :: (17, F2_h17) :: (22, F2_h22) :: F1
theorem F2_ok : CTok Try.prog F2 := ⟨tells2 fun n hi _ => num31_ev n hi,
  tells1 fun n _ => num13_ev n,
  tells2 fun i n h => within_ev i n h.1 h.2,
  tells1 fun n h => zerosI_ev n h,
  tells2 fun a b h => eqDisk_ev a b h.1 h.2,
  tells1 fun d h => copyDisk_ev d h.1 h.2, F1_ok⟩
@[simp] theorem F2_get31 : ctGet F2 31 = some F2_h31 := rfl
@[simp] theorem F2_get13 : ctGet F2 13 = some F2_h13 := rfl
@[simp] theorem F2_get15 : ctGet F2 15 = some F2_h15 := rfl
@[simp] theorem F2_get45 : ctGet F2 45 = some F2_h45 := rfl
@[simp] theorem F2_get17 : ctGet F2 17 = some F2_h17 := rfl
@[simp] theorem F2_get22 : ctGet F2 22 = some F2_h22 := rfl
@[simp] theorem F2_skip {n : Nat} (h : (n == 31 || n == 13 || n == 15 || n == 45 || n == 17 || n == 22) = false) : ctGet F2 n = ctGet F1 n := by
  simp only [Bool.or_eq_false_iff, beq_eq_false_iff_ne, ne_eq] at h
  simp [F2, ctGet, h]

theorem blank26_ev : PEv Try.prog 26 [] (.c (.str blank)) := by
  refine tells_of mixed F2_ok Try.func26 sl26 ok26 (by kernel_rfl) (by simp -implicitDefEqProofs) (by simp -implicitDefEqProofs) ?_
  simp -implicitDefEqProofs [s26, blank]

end Go.AE

/- The disk's weight. -/
set_option linter.unusedVariables false
set_option linter.unusedSimpArgs false
set_option maxHeartbeats 2000000
namespace Go.AE
open Go Go.Proofs

/-- Weights of a row, summed up to a bound. -/
def wSum {α : Type} (f : α → Int) : Int → List α → Int
  | n, [] => n
  | n, x :: r => if n < 1048576 then wSum f (n + f x) r else n

def diskWeight (d : DiskV) : Int := wSum (fun s : Sect => (s.text.length : Int) / 16) (wSum (fun s : List UInt8 => (s.length : Int) / 64) ((d.safe.length : Int) / 4 + d.wait.length) d.safe) d.wait

theorem wSum_drop {α : Type} (f : α → Int) (n : Int) (l : List α) (i : Nat) (h : i < l.length) (hn : n < 1048576) : wSum f n (l.drop i) = wSum f (n + f l[i]) (l.drop (i + 1)) := by
  rw [List.drop_eq_getElem_cons h, wSum, if_pos hn]
theorem wSum_stop {α : Type} (f : α → Int) (n : Int) (l : List α) (h : ¬ n < 1048576) : wSum f n l = n := by
  cases l with
  | nil => rfl
  | cons x r => rw [wSum, if_neg h]

theorem tdiv_nat (n k : Nat) : Int.tdiv (n : Int) (k : Int) = (n : Int) / (k : Int) := by
  rw [Int.tdiv_eq_ediv_of_nonneg (by omega)]

theorem diskWeight_ev (d : DiskV) (h1 : d.safe.length < 281474976710656) (h2 : d.wait.length < 281474976710656) (h3 : ∀ s ∈ d.safe, s.length < 281474976710656) (h4 : ∀ s ∈ d.wait, s.text.length < 281474976710656) :
    PEv Try.prog 25 [Arg.enc d] (.c (.raw (.int .i64 (diskWeight d)))) := by
  have hF : CTok Try.prog [] := trivial
  refine tells_of mixed hF Try.func25 sl25 ok25 (by kernel_rfl) (by simp -implicitDefEqProofs) (by simp -implicitDefEqProofs) ?_
  have e0 : IntKind.wrap .i64 (IntKind.wrap .i64 ((d.safe.length : Int) / 4) + d.wait.length) = (d.safe.length : Int) / 4 + d.wait.length := by
    rw [wrap64_id (n := (d.safe.length : Int) / 4) (by omega) (by omega), wrap64_id (by omega) (by omega)]
  simp -implicitDefEqProofs [s25, e0]
  generalize hW : wSum (fun s : List UInt8 => (s.length : Int) / 64) ((d.safe.length : Int) / 4 + d.wait.length) d.safe = W
  refine loop_cut (fun st => st.s 1 = .c (.pt (0, 1) 0 0) ∧ st.H (0, 1) = .arr 25 2 false [[.sl .brw false (rowsE d.safe), .sl .brw false (rowsE d.wait)]] ∧ st.s 3 = .c (.raw (.int .i64 W)) ∧ 0 ≤ W ∧ W < 1125899906842624) ?_ ?_
  · refine loop_n (fun n st => ∃ (i : Nat) (m : Int), i ≤ d.safe.length ∧ n = d.safe.length - i ∧ st.s 1 = .c (.pt (0, 1) 0 0) ∧ st.H (0, 1) = .arr 25 2 false [[.sl .brw false (rowsE d.safe), .sl .brw false (rowsE d.wait)]] ∧
      st.s 3 = .c (.raw (.int .i64 m)) ∧ st.s 4 = .c (.raw (.int .i64 i)) ∧ 0 ≤ m ∧ m < 1125899906842624 ∧ wSum (fun s : List UInt8 => (s.length : Int) / 64) m (d.safe.drop i) = W)
      d.safe.length ⟨0, (d.safe.length : Int) / 4 + d.wait.length, by simp -implicitDefEqProofs [hW]; omega⟩ ?_
    rintro n st ⟨i, m, hi, rfl, g1, gH, g3, g4, hm0, hm1, hw⟩
    by_cases hlt : i < d.safe.length
    · by_cases hm : m < 1048576
      · have hl := h3 d.safe[i] (List.getElem_mem hlt)
        have e1 : IntKind.wrap .i64 (m + IntKind.wrap .i64 ((d.safe[i].length : Int) / 64)) = m + (d.safe[i].length : Int) / 64 := by
          rw [wrap64_id (n := (d.safe[i].length : Int) / 64) (by omega) (by omega), wrap64_id (by omega) (by omega)]
        have e2 : IntKind.wrap .i64 ((i : Int) + 1) = ((i + 1 : Nat) : Int) := by rw [wrap64_id] <;> omega
        simp -implicitDefEqProofs [s25L0, s25L1, g1, gH, g3, g4, hlt, hm, e1, e2]
        refine ⟨_, ?_, i + 1, ?_, rfl, rfl, ?_, ?_, ?_⟩
        · omega
        · omega
        · omega
        · omega
        · rw [← hw, wSum_drop _ _ _ _ hlt hm]
      · rw [wSum_stop _ _ _ hm] at hw
        subst hw
        simp -implicitDefEqProofs [s25L0, s25L1, g1, gH, g3, g4, hlt, hm]
        omega
    · have : d.safe.drop i = [] := List.drop_eq_nil_of_le (by omega)
      rw [this, wSum] at hw
      subst hw
      simp -implicitDefEqProofs [s25L0, s25L1, g1, gH, g3, g4, hlt]
      omega
  · rintro st ⟨g1, gH, g3, hW0, hW1⟩
    simp -implicitDefEqProofs [s25L0, s25L1, g1, gH, g3]
    have hV : diskWeight d = wSum (fun s : Sect => (s.text.length : Int) / 16) W d.wait := by rw [← hW]; rfl
    refine loop_n (fun n st => ∃ (i : Nat) (m : Int), i ≤ d.wait.length ∧ n = d.wait.length - i ∧ st.s 1 = .c (.pt (0, 1) 0 0) ∧ st.H (0, 1) = .arr 25 2 false [[.sl .brw false (rowsE d.safe), .sl .brw false (rowsE d.wait)]] ∧
      st.s 3 = .c (.raw (.int .i64 m)) ∧ st.s 5 = .c (.raw (.int .i64 i)) ∧ 0 ≤ m ∧ m < 2251799813685248 ∧ wSum (fun s : Sect => (s.text.length : Int) / 16) m (d.wait.drop i) = diskWeight d)
      d.wait.length ⟨0, W, by simp -implicitDefEqProofs [hV, g1, gH, g3]; omega⟩ ?_
    rintro n st ⟨i, m, hi, rfl, g1, gH, g3, g4, hm0, hm1, hw⟩
    by_cases hlt : i < d.wait.length
    · by_cases hm : m < 1048576
      · have hl := h4 d.wait[i] (List.getElem_mem hlt)
        have e1 : IntKind.wrap .i64 (m + IntKind.wrap .i64 ((d.wait[i].text.length : Int) / 16)) = m + (d.wait[i].text.length : Int) / 16 := by
          rw [wrap64_id (n := (d.wait[i].text.length : Int) / 16) (by omega) (by omega), wrap64_id (by omega) (by omega)]
        have e2 : IntKind.wrap .i64 ((i : Int) + 1) = ((i + 1 : Nat) : Int) := by rw [wrap64_id] <;> omega
        simp -implicitDefEqProofs [s25L0, s25L1, g1, gH, g3, g4, hlt, hm, e1, e2]
        refine ⟨_, ?_, i + 1, ?_, rfl, rfl, ?_, ?_, ?_⟩
        · omega
        · omega
        · omega
        · omega
        · rw [← hw, wSum_drop _ _ _ _ hlt hm]
      · rw [wSum_stop _ _ _ hm] at hw
        subst hw
        simp -implicitDefEqProofs [s25L0, s25L1, g1, gH, g3, g4, hlt, hm]
    · have : d.wait.drop i = [] := List.drop_eq_nil_of_le (by omega)
      rw [this, wSum] at hw
      subst hw
      simp -implicitDefEqProofs [s25L0, s25L1, g1, gH, g3, g4, hlt]
end Go.AE

/- slices.Clone, disk.Own. -/
set_option linter.unusedVariables false
set_option linter.unusedSimpArgs false
set_option maxHeartbeats 2000000
namespace Go.AE
open Go Go.Proofs

theorem clone32_ev (l : List (List UInt8)) (hl : l.length < 1000000) : PEv Try.prog 32 [.c (.sl .brw false (rowsE l))] (.c (.nw 9 1 (rowsE l))) := by
  have hF : CTok Try.prog [] := trivial
  refine tells_of mixed hF Try.func32 sl32 ok32 (by kernel_rfl) (by simp -implicitDefEqProofs) (by simp -implicitDefEqProofs) ?_
  simp -implicitDefEqProofs [s32]
  omega

theorem clone50_ev (l : List Sect) (hl : l.length < 1000000) : PEv Try.prog 50 [.c (.sl .brw false (rowsE l))] (.c (.nw 57 2 (rowsE l))) := by
  have hF : CTok Try.prog [] := trivial
  refine tells_of mixed hF Try.func50 sl50 ok50 (by kernel_rfl) (by simp -implicitDefEqProofs) (by simp -implicitDefEqProofs) ?_
  simp -implicitDefEqProofs [s50]
  omega

def F3_h32 : List AV → Option (Prop × AV) := t1 (fun l => l.length < 1000000) fun l : List (List UInt8) => .c (.nw 9 1 (rowsE l))
@[simp] theorem F3_ap32 {l : List AV} : F3_h32 l = (t1 (fun l => l.length < 1000000) fun l : List (List UInt8) => .c (.nw 9 1 (rowsE l))) l := rfl
def F3_h50 : List AV → Option (Prop × AV) := t1 (fun l => l.length < 1000000) fun l : List Sect => .c (.nw 57 2 (rowsE l))
@[simp] theorem F3_ap50 {l : List AV} : F3_h50 l = (t1 (fun l => l.length < 1000000) fun l : List Sect => .c (.nw 57 2 (rowsE l))) l := rfl
def F3 : CT := (32, F3_h32) :: (50, F3_h50) :: F2
theorem F3_ok : CTok Try.prog F3 := ⟨tells1 fun l h => clone32_ev l h,
  tells1 fun l h => clone50_ev l h, F2_ok⟩
@[simp] theorem F3_get32 : ctGet F3 32 = some F3_h32 := rfl
@[simp] theorem F3_get50 : ctGet F3 50 = some F3_h50 := rfl
@[simp] theorem F3_skip {n : Nat} (h : (n == 32 || n == 50) = false) : ctGet F3 n = ctGet F2 n := by
  simp only [Bool.or_eq_false_iff, beq_eq_false_iff_ne, ne_eq] at h
  simp [F3, ctGet, h]

theorem own29_ev (d : DiskV) (h1 : d.safe.length < 1000000) (h2 : d.wait.length < 1000000) : PEv Try.prog 29 [Arg.enc d] (.g (diskNw d)) := by
  refine tells_of mixed F3_ok Try.func29 sl29 ok29 (by kernel_rfl) (by simp -implicitDefEqProofs [diskNw]) (by simp -implicitDefEqProofs) ?_
  simp -implicitDefEqProofs [s29, h1, h2, diskNw]
end Go.AE

/- slices.IndexFunc, slices.ContainsFunc, disk.May. -/
set_option linter.unusedVariables false
set_option linter.unusedSimpArgs false
set_option maxHeartbeats 2000000
namespace Go.AE
open Go Go.Proofs

/-- The first place where p holds; -1: none. -/
def idxOf {α : Type} (p : α → Bool) : Nat → List α → Int
  | _, [] => -1
  | i, x :: r => if p x = true then i else idxOf p (i + 1) r

theorem indexFunc53_ev (g : FuncId) (caps : List AC) (p : List UInt8 → Bool) (l : List (List UInt8)) (hl : l.length < 1000000) (hcaps : ∀ c ∈ caps, VOK1 c) (hview : viewA noHeap (caps.map .c) = some (caps.map .c))
    (hp : ∀ s ∈ l, PEv Try.prog g (.c (.str s) :: caps.map .c) (.c (.raw (.bool (p s))))) :
    PEv Try.prog 53 [.c (.sl .brw false (rowsE l)), .c (.fn g caps)] (.c (.raw (.int .i64 (idxOf p 0 l)))) := by
  have hF : CTok Try.prog [] := trivial
  refine tells_of mixed hF Try.func53 sl53 ok53 (by kernel_rfl) (by simp -implicitDefEqProofs) (by simpa using hcaps) ?_
  simp -implicitDefEqProofs [s53]
  refine loop_n (fun n st => ∃ i : Nat, i ≤ l.length ∧ n = l.length - i ∧ st.s 0 = .c (.sl .brw false (rowsE l)) ∧ st.s 1 = .c (.fn g caps) ∧ st.s 7 = .c (.raw (.int .i64 l.length)) ∧ st.s 8 = .c (.raw (.int .i64 i)) ∧ st.H = noHeap ∧
    idxOf p i (l.drop i) = idxOf p 0 l) l.length ⟨0, by simp -implicitDefEqProofs⟩ ?_
  rintro n st ⟨i, hi, rfl, h0, h1, h7, h8, hH, hx⟩
  by_cases hlt : i < l.length
  · have hw : IntKind.wrap .i64 ((i : Int) + 1) = ((i + 1 : Nat) : Int) := by rw [wrap64_id] <;> omega
    have hev := hp l[i] (List.getElem_mem hlt)
    simp -implicitDefEqProofs [s53L0, h0, h1, h7, h8, hH, hlt]
    refine acall_pure hev ?_ (by simp -implicitDefEqProofs) (by simp -implicitDefEqProofs) ?_
    · simp -implicitDefEqProofs [hH, hview]
    · rw [List.drop_eq_getElem_cons hlt, idxOf] at hx
      simp -implicitDefEqProofs [s53L0, h0, h1, h7, h8, hH, hlt, hw]
      refine ⟨fun e => by rw [if_pos e] at hx; exact hx, fun e => ⟨_, ?_, i + 1, ?_, rfl, rfl, ?_⟩⟩
      · omega
      · omega
      · rw [if_neg (by simp -implicitDefEqProofs [e])] at hx; exact hx
  · simp -implicitDefEqProofs [s53L0, h0, h1, h7, h8, hH, hlt]
    rw [← hx, List.drop_eq_nil_of_le (by omega)]
    rfl
theorem indexFunc54_ev (g : FuncId) (caps : List AC) (p : Sect → Bool) (l : List Sect) (hl : l.length < 1000000) (hcaps : ∀ c ∈ caps, VOK1 c) (hview : viewA noHeap (caps.map .c) = some (caps.map .c))
    (hp : ∀ s ∈ l, PEv Try.prog g (.g [.raw (.int .i64 s.at_), .str s.text] :: caps.map .c) (.c (.raw (.bool (p s))))) :
    PEv Try.prog 54 [.c (.sl .brw false (rowsE l)), .c (.fn g caps)] (.c (.raw (.int .i64 (idxOf p 0 l)))) := by
  have hF : CTok Try.prog [] := trivial
  refine tells_of mixed hF Try.func54 sl54 ok54 (by kernel_rfl) (by simp -implicitDefEqProofs) (by simpa using hcaps) ?_
  simp -implicitDefEqProofs [s54]
  refine loop_n (fun n st => ∃ i : Nat, i ≤ l.length ∧ n = l.length - i ∧ st.s 0 = .c (.sl .brw false (rowsE l)) ∧ st.s 1 = .c (.fn g caps) ∧ st.s 7 = .c (.raw (.int .i64 l.length)) ∧ st.s 8 = .c (.raw (.int .i64 i)) ∧ st.H = noHeap ∧
    idxOf p i (l.drop i) = idxOf p 0 l) l.length ⟨0, by simp -implicitDefEqProofs⟩ ?_
  rintro n st ⟨i, hi, rfl, h0, h1, h7, h8, hH, hx⟩
  by_cases hlt : i < l.length
  · have hw : IntKind.wrap .i64 ((i : Int) + 1) = ((i + 1 : Nat) : Int) := by rw [wrap64_id] <;> omega
    have hev := hp l[i] (List.getElem_mem hlt)
    simp -implicitDefEqProofs [s54L0, h0, h1, h7, h8, hH, hlt]
    refine acall_pure hev ?_ (by simp -implicitDefEqProofs) (by simp -implicitDefEqProofs) ?_
    · simp -implicitDefEqProofs [hH, hview]
    · rw [List.drop_eq_getElem_cons hlt, idxOf] at hx
      simp -implicitDefEqProofs [s54L0, h0, h1, h7, h8, hH, hlt, hw]
      refine ⟨fun e => by rw [if_pos e] at hx; exact hx, fun e => ⟨_, ?_, i + 1, ?_, rfl, rfl, ?_⟩⟩
      · omega
      · omega
      · rw [if_neg (by simp -implicitDefEqProofs [e])] at hx; exact hx
  · simp -implicitDefEqProofs [s54L0, h0, h1, h7, h8, hH, hlt]
    rw [← hx, List.drop_eq_nil_of_le (by omega)]
    rfl
theorem idxOf_any {α : Type} (p : α → Bool) : ∀ (l : List α) (i : Nat), (0 ≤ idxOf p i l) ↔ l.any p = true
  | [], i => by simp -implicitDefEqProofs [idxOf]
  | x :: r, i => by
    rw [idxOf, List.any_cons]
    by_cases h : p x = true
    · simp -implicitDefEqProofs [h]
    · rw [if_neg h, idxOf_any p r (i + 1)]
      simp -implicitDefEqProofs [h]

end Go.AE

/- slices.ContainsFunc, disk.May. -/
set_option linter.unusedVariables false
set_option linter.unusedSimpArgs false
set_option maxHeartbeats 2000000
namespace Go.AE
open Go Go.Proofs

theorem contains46_ev (g : FuncId) (caps : List AC) (p : List UInt8 → Bool) (l : List (List UInt8)) (hl : l.length < 1000000) (hcaps : ∀ c ∈ caps, VOK1 c) (hview : viewA noHeap (caps.map .c) = some (caps.map .c)) (hview2 : viewPL noHeap caps = some caps)
    (hp : ∀ s ∈ l, PEv Try.prog g (.c (.str s) :: caps.map .c) (.c (.raw (.bool (p s))))) :
    PEv Try.prog 46 [.c (.sl .brw false (rowsE l)), .c (.fn g caps)] (.c (.raw (.bool (l.any p)))) := by
  have hF : CTok Try.prog [] := trivial
  refine tells_of mixed hF Try.func46 sl46 ok46 (by kernel_rfl) (by simp -implicitDefEqProofs) (by simpa using hcaps) ?_
  simp -implicitDefEqProofs [s46]
  refine acall_pure (indexFunc53_ev g caps p l hl hcaps hview hp) (by simp -implicitDefEqProofs [hview2]) (by simp -implicitDefEqProofs) (by simp -implicitDefEqProofs) ?_
  simp -implicitDefEqProofs
  rw [Bool.eq_iff_iff, decide_eq_true_iff]
  exact idxOf_any p l 0

theorem contains48_ev (g : FuncId) (caps : List AC) (p : Sect → Bool) (l : List Sect) (hl : l.length < 1000000) (hcaps : ∀ c ∈ caps, VOK1 c) (hview : viewA noHeap (caps.map .c) = some (caps.map .c)) (hview2 : viewPL noHeap caps = some caps)
    (hp : ∀ s ∈ l, PEv Try.prog g (.g [.raw (.int .i64 s.at_), .str s.text] :: caps.map .c) (.c (.raw (.bool (p s))))) :
    PEv Try.prog 48 [.c (.sl .brw false (rowsE l)), .c (.fn g caps)] (.c (.raw (.bool (l.any p)))) := by
  have hF : CTok Try.prog [] := trivial
  refine tells_of mixed hF Try.func48 sl48 ok48 (by kernel_rfl) (by simp -implicitDefEqProofs) (by simpa using hcaps) ?_
  simp -implicitDefEqProofs [s48]
  refine acall_pure (indexFunc54_ev g caps p l hl hcaps hview hp) (by simp -implicitDefEqProofs [hview2]) (by simp -implicitDefEqProofs) (by simp -implicitDefEqProofs) ?_
  simp -implicitDefEqProofs
  rw [Bool.eq_iff_iff, decide_eq_true_iff]
  exact idxOf_any p l 0

/-- A sector's text. -/
def isSec (s : List UInt8) : Bool := decide (s.length = 32)

theorem may1_ev (s : List UInt8) : PEv Try.prog 47 [.c (.str s)] (.c (.raw (.bool (!isSec s)))) := by
  refine tells_of mixed F1_ok Try.func47 sl47 ok47 (by kernel_rfl) (by simp -implicitDefEqProofs) (by simp -implicitDefEqProofs) ?_
  simp -implicitDefEqProofs [s47, isSec]

def badSect (n : Nat) (x : Sect) : Bool := !isSec x.text || decide (x.at_ < 0) || decide ((n : Int) ≤ x.at_)

theorem may2_ev (d : DiskV) (x : Sect) : PEv Try.prog 49 [.g [.raw (.int .i64 x.at_), .str x.text], .c (.pv .brw [.sl .brw false (rowsE d.safe), .sl .brw false (rowsE d.wait)] 0)] (.c (.raw (.bool (badSect d.safe.length x)))) := by
  refine tells_of mixed F1_ok Try.func49 sl49 ok49 (by kernel_rfl) (by simp -implicitDefEqProofs) (by simp -implicitDefEqProofs) ?_
  simp -implicitDefEqProofs [s49, badSect, isSec]
  omega

end Go.AE

/- The abstract machine: calls that look at the caller's objects and turn them: the callee's code is walked in the caller's heap. -/
set_option linter.unusedVariables false
set_option linter.unusedSimpArgs false
namespace Go.AE
open Go

variable {P : Program}

/-- The callee begins: its arguments, the caller's objects. -/
def enterS (st : St) (args : List AV) : St := { s := fun t => args.getD t (.c (.raw undef)), H := st.H, T := st.T + 1 }

def finR (P : Program) (fn : Func) (R : AV → Heap → Nat → Prop) (e : AEx) (st : St) : Prop :=
  (match e with | .normal | .ret => True | _ => False) ∧ ∃ res, resA P st fn.results.toList = some res ∧ R res st.H st.T

theorem RelH.ctx {C : Ctx} {H : Heap} {ρ : Lies} {w : World} (h : RelH C H ρ w) (X : World → (Tag → Nat → Prop) → Heap → Lies → Prop)
    (keepX : ∀ {w w' : World} {F F' : Tag → Nat → Prop} {H H' : Heap} {ρ ρ' : Lies}, Keeps w w' F F' H H' ρ ρ' → X w F H ρ → X w' F' H' ρ') : RelH ⟨C.w0, C.G, X, keepX⟩ H ρ w :=
  ⟨h.below, h.row, h.inj⟩
theorem RelH.unctx {C : Ctx} {H : Heap} {ρ : Lies} {w : World} {X : World → (Tag → Nat → Prop) → Heap → Lies → Prop}
    {keepX : ∀ {w w' : World} {F F' : Tag → Nat → Prop} {H H' : Heap} {ρ ρ' : Lies}, Keeps w w' F F' H H' ρ ρ' → X w F H ρ → X w' F' H' ρ'} (h : RelH ⟨C.w0, C.G, X, keepX⟩ H ρ w) : RelH C H ρ w :=
  ⟨h.below, h.row, h.inj⟩

theorem callK_of {calm : Array Oper → Bool} (hcalm : CalmOK P calm) {f : FuncId} {fn : Func} {c : Code} {st : St} {args : List AV} {R : AV → Heap → Nat → Prop} (hf : P.funcs[f]? = some fn) (hb : fn.body = some c)
    (hok : fnOK calm fn args.length = true) (h : awp P c (finR P fn R) (enterS st args)) : CallK P st f args R := by
  simp only [fnOK, hb, Bool.and_eq_true, decide_eq_true_eq, bne_iff_ne, ne_eq] at hok
  obtain ⟨⟨hname, hcode⟩, hle⟩ := hok
  refine ⟨by simp [okCall, hf, hb, hname], fun C ρ a w vs hr hsz hargs => ?_⟩
  let X : World → (Tag → Nat → Prop) → Heap → Lies → Prop := fun w F H ρ => C.X w F H ρ ∧ ∀ t, RelV w F H ρ (st.s t) (a.tmps.getD t undef)
  let C' : Ctx := ⟨C.w0, C.G, X, fun k q => ⟨C.keepX k q.1, fun t => (q.2 t).keep k⟩⟩
  have h0 : Rel C' ρ (enterS st args) { tmps := vs ++ Array.replicate (fn.ntmps - vs.size) undef, defers := [] } w := by
    refine ⟨hr.heap.ctx X _, fun t => ?_, rfl, ⟨hr.ghost, hr.slot⟩⟩
    simp only [enterS]
    by_cases ht : t < args.length
    · have h1 : args[t]? = some (args.getD t (.c (.raw undef))) := by simp [ht]
      have h2 : (vs ++ Array.replicate (fn.ntmps - vs.size) undef).getD t undef = vs.getD t undef := by
        simp [Array.getD_eq_getD_getElem?, Array.getElem?_append, show t < vs.size by omega]
      rw [h2]; exact hargs t _ h1
    · have h1 : args.getD t (.c (.raw undef)) = .c (.raw undef) := by simp [List.getD, List.getElem?_eq_none (Nat.le_of_not_lt ht)]
      have h2 : (vs ++ Array.replicate (fn.ntmps - vs.size) undef).getD t undef = undef := by
        simp only [Array.getD_eq_getD_getElem?, Array.getElem?_append, show ¬ t < vs.size by omega, if_false, Array.getElem?_replicate]
        split <;> rfl
      rw [h1, h2]; exact .c _ _ (.raw _)
  refine calls_of_wp hf hb (Code.wp_mono (fun e a' w' q => ?_) (awp_sound calm hcalm c fn.ntmps _ ρ (enterS st args) _ w hcode (by simp; omega) h0 h))
  have fin : SemK C' fn.ntmps (fun st' => ∃ res, resA P st' fn.results.toList = some res ∧ R res st'.H st'.T) a' w' →
      a'.defers = [] ∧ ∃ v, (results fn a'.tmps).run P w' = .ok v w' ∧ (∃ v', Ending.returned v = .returned v' ∧ ∃ ρ' ret H' T', Rel C ρ' (st.back H' T') a w' ∧ RelV w' (Fr C H' ρ') H' ρ' ret v' ∧ R ret H' T') :=
    fun ⟨_, ρ', st', hr', res, g1, g2⟩ => by
      obtain ⟨v, h1, h2⟩ := resA_sound hr' g1
      exact ⟨hr'.nodef, v, h1, v, rfl, ρ', res, st'.H, st'.T, ⟨hr'.heap.unctx, hr'.ghost.2, hr.nodef, hr'.ghost.1⟩, h2, g2⟩
  cases e with
  | normal => exact fin (SemK.mono q fun st hs => hs.2)
  | ret => exact fin (SemK.mono q fun st hs => hs.2)
  | exit id =>
    obtain ⟨_, _, _, _, hs⟩ := q
    exact hs.1.elim
  | _ => exact q.elim

end Go.AE

/- The abstract machine: a walk through a callee in the caller's heap. -/
set_option linter.unusedVariables false
set_option linter.unusedSimpArgs false
namespace Go.AE
open Go

variable {P : Program}

theorem CallK.mono {st : St} {f : FuncId} {args : List AV} {R R' : AV → Heap → Nat → Prop} (hr : ∀ ret H T, R ret H T → R' ret H T) (h : CallK P st f args R) : CallK P st f args R' :=
  ⟨h.1, fun C ρ a w vs q1 q2 q3 => (h.2 C ρ a w vs q1 q2 q3).mono fun e w' ⟨v, e1, ρ', ret, H', T', g1, g2, g3⟩ => ⟨v, e1, ρ', ret, H', T', g1, g2, hr _ _ _ g3⟩⟩

/-- THE RULE FOR A CALL that looks at the caller's objects. -/
theorem callK_slim (hm : P.follows .mixedOrders = true) {F : CT} (hF : CTok P F) {f : FuncId} {fn : Func} {s : SC} {st : St} {args : List AV} {R : AV → Heap → Nat → Prop} (hf : P.funcs[f]? = some fn) (hs : fn.body.map slim = some s)
    (hok : fnOK calmB fn 0 = true) (hle : Nat.ble args.length fn.ntmps = true) (h : awpS P F s (finR P fn R) (enterS st args)) : CallK P st f args R := by
  cases hb : fn.body with
  | none => rw [hb] at hs; cases hs
  | some c =>
    rw [hb] at hs
    simp only [Option.map_some, Option.some.injEq] at hs
    refine callK_of (calm_ok hm) hf hb ?_ (awpS_sound hF (by rw [hs]; exact h))
    simp only [fnOK, hb, Bool.and_eq_true] at hok ⊢
    exact ⟨hok.1, by simpa using Nat.le_of_ble_eq_true hle⟩

theorem acall_k {st : St} {dst : Option Nat} {f : FuncId} {args : List AV} {R : AV → Heap → Nat → Prop} {K : St → Prop} (h : CallK P st f args R) (hk : ∀ ret H T, R ret H T → K ((st.back H T).put dst ret)) : ACall P false st dst f args K :=
  .inr ⟨rfl, h.mono hk⟩

/-- The callee is walked in its place. -/
theorem acall_in (hm : P.follows .mixedOrders = true) {F : CT} (hF : CTok P F) {f : FuncId} {fn : Func} {s : SC} {st : St} {args : List AV} {dst : Option Nat} {K : St → Prop} (hf : P.funcs[f]? = some fn) (hs : fn.body.map slim = some s)
    (hok : fnOK calmB fn 0 = true) (hle : Nat.ble args.length fn.ntmps = true) (h : awpS P F s (finR P fn fun ret H T => K ((st.back H T).put dst ret)) (enterS st args)) : ACall P false st dst f args K :=
  .inr ⟨rfl, callK_slim hm hF hf hs hok hle h⟩

section
variable {st : St} {H H' : Heap} {T T' : Nat} {args : List AV} {k : Nat}
@[simp] theorem back_s : (st.back H T).s = st.s := rfl
@[simp] theorem back_H : (st.back H T).H = H := rfl
@[simp] theorem back_T : (st.back H T).T = T := rfl
@[simp] theorem back_back : (st.back H T).back H' T' = st.back H' T' := rfl
@[simp] theorem enterS_s : (enterS st args).s k = args.getD k (.c (.raw undef)) := rfl
@[simp] theorem enterS_H : (enterS st args).H = st.H := rfl
@[simp] theorem enterS_T : (enterS st args).T = st.T + 1 := rfl
@[simp] theorem finR_ret {fn : Func} {R : AV → Heap → Nat → Prop} : finR P fn R .ret st = ∃ res, resA P st fn.results.toList = some res ∧ R res st.H st.T := by simp [finR]
@[simp] theorem finR_normal {fn : Func} {R : AV → Heap → Nat → Prop} : finR P fn R .normal st = ∃ res, resA P st fn.results.toList = some res ∧ R res st.H st.T := by simp [finR]
end

/-- All objects but some are as they were. -/
def SameBut (S : List Id) (H H' : Heap) : Prop := ∀ i, H i ≠ .unborn → i ∉ S → H' i = H i

theorem SameBut.refl (S : List Id) (H : Heap) : SameBut S H H := fun _ _ _ => rfl
theorem SameBut.set {S : List Id} {H H' : Heap} {i : Id} {o : OK} (h : SameBut S H H') (hi : H i = .unborn ∨ i ∈ S) : SameBut S H (hset H' i o) := fun j hj hn => by
  unfold hset
  rw [if_neg ?_]
  · exact h j hj hn
  · rintro rfl
    rcases hi with q | q
    · exact hj q
    · exact hn q
theorem SameBut.get {S : List Id} {H H' : Heap} (h : SameBut S H H') {i : Id} {e sz : Nat} {f : Bool} {rows : List (List AC)} (hi : H i = .arr e sz f rows) (hn : i ∉ S) : H' i = .arr e sz f rows := by
  rw [h i (by rw [hi]; simp) hn, hi]

theorem Fresh.set' {H : Heap} {T : Nat} {i : Id} {o : OK} (h : Fresh H T) (hi : i.1 < T) : Fresh (hset H i o) T := h.set (Nat.le_refl _) hi
theorem Fresh.not {H : Heap} {T : Nat} (h : Fresh H T) {i : Id} (hi : H i ≠ .unborn) : (∀ k d, T ≤ k → ((k, d) = i) = False) ∧ (∀ k d, T ≤ k → (i = (k, d)) = False) ∧ i.1 < T :=
  ⟨fun k d hk => h.nee hi k d hk, fun k d hk => h.nee' hi k d hk, h.lt hi⟩
theorem Fresh.arr {H : Heap} {T : Nat} (h : Fresh H T) {i : Id} {e sz : Nat} {f : Bool} {rows : List (List AC)} (hi : H i = .arr e sz f rows) : (∀ k d, T ≤ k → ((k, d) = i) = False) ∧ (∀ k d, T ≤ k → (i = (k, d)) = False) ∧ i.1 < T :=
  h.not (by rw [hi]; simp)

/-- A heap that goes on: but for some objects all that was there is as it was; the names to come are free. -/
def ExtH (S : List Id) (H0 : Heap) (T0 : Nat) (H : Heap) (T : Nat) : Prop := SameBut S H0 H ∧ Fresh H T ∧ T0 ≤ T ∧ Fresh H0 T0

theorem ExtH.refl {S : List Id} {H : Heap} {T : Nat} (h : Fresh H T) : ExtH S H T H T := ⟨SameBut.refl S H, h, Nat.le_refl _, h⟩
theorem ExtH.tick {S : List Id} {H0 H : Heap} {T0 T T' : Nat} (h : ExtH S H0 T0 H T) (hT : T ≤ T') : ExtH S H0 T0 H T' := ⟨h.1, h.2.1.mono hT, Nat.le_trans h.2.2.1 hT, h.2.2.2⟩
theorem ExtH.new {S : List Id} {H0 H : Heap} {T0 T : Nat} {i : Id} {o : OK} (h : ExtH S H0 T0 H T) (h0 : T0 ≤ i.1) (h1 : i.1 < T) : ExtH S H0 T0 (hset H i o) T :=
  ⟨h.1.set (.inl (h.2.2.2 i.1 i.2 h0)), h.2.1.set' h1, h.2.2.1, h.2.2.2⟩
theorem ExtH.set {S : List Id} {H0 H : Heap} {T0 T : Nat} {i : Id} {o : OK} (h : ExtH S H0 T0 H T) (hi : i ∈ S) (h1 : i.1 < T) : ExtH S H0 T0 (hset H i o) T :=
  ⟨h.1.set (.inr hi), h.2.1.set' h1, h.2.2.1, h.2.2.2⟩
theorem ExtH.arr {S : List Id} {H0 H : Heap} {T0 T : Nat} (h : ExtH S H0 T0 H T) {i : Id} {e sz : Nat} {f : Bool} {rows : List (List AC)} (hi : H0 i = .arr e sz f rows) (hn : i ∉ S) : H i = .arr e sz f rows := h.1.get hi hn
theorem ExtH.fresh {S : List Id} {H0 H : Heap} {T0 T : Nat} (h : ExtH S H0 T0 H T) : Fresh H T := h.2.1

/-- A cell that holds a row of one's own: none yet, or an object made since. -/
def OwnL {α : Type} [Enc α] (H : Heap) (e sz T0 : Nat) (c : AC) (l : List α) : Prop := (c = .raw (.slice none 0 0) ∧ l = []) ∨ ∃ id, c = .so id 0 l.length ∧ T0 ≤ id.1 ∧ H id = .arr e sz false (rowsE l)
theorem OwnL.nil {α : Type} [Enc α] {H : Heap} {e sz T0 : Nat} : OwnL (α := α) H e sz T0 (.raw (.slice none 0 0)) [] := .inl ⟨rfl, rfl⟩
theorem OwnL.so {α : Type} [Enc α] {H : Heap} {e sz T0 n : Nat} {id : Id} {l : List α} (hn : n = l.length) (h0 : T0 ≤ id.1) (h : H id = .arr e sz false (rowsE l)) : OwnL H e sz T0 (.so id 0 n) l := .inr ⟨id, by rw [hn], h0, h⟩

end Go.AE

/- disk.May and the reference's: what may be a disk. -/
set_option linter.unusedVariables false
set_option linter.unusedSimpArgs false
set_option maxHeartbeats 2000000
namespace Go.AE
open Go Go.Proofs

def mayB (d : DiskV) : Bool := decide (1 ≤ d.safe.length) && decide (d.safe.length ≤ 400) && decide (d.wait.length ≤ 400) && d.safe.all isSec && d.wait.all fun x => !badSect d.safe.length x

theorem any_not {α : Type} (p : α → Bool) (l : List α) : (l.any fun x => !p x) = !l.all p := by
  induction l with
  | nil => rfl
  | cons x r ih => simp -implicitDefEqProofs [ih]

theorem may_ev (d : DiskV) (h1 : d.safe.length < 1000000) (h2 : d.wait.length < 1000000) : PEv Try.prog 27 [Arg.enc d] (.c (.raw (.bool (mayB d)))) := by
  refine tells_of mixed F1_ok Try.func27 sl27 ok27 (by kernel_rfl) (by simp) (by simp) ?_
  simp -implicitDefEqProofs [s27]
  refine ⟨fun g1 => ⟨fun g2 => ⟨fun g3 => ?_, fun g3 => ?_⟩, fun g2 => ?_⟩, fun g1 => ?_⟩
  · simp -implicitDefEqProofs [mayB]; omega
  · refine acall_pure (contains46_ev 47 [] (fun s => !isSec s) d.safe h1 (by simp -implicitDefEqProofs) (by simp -implicitDefEqProofs) (by simp -implicitDefEqProofs) fun s _ => may1_ev s) ?_ (by simp -implicitDefEqProofs) (by simp -implicitDefEqProofs) ?_
    · simp -implicitDefEqProofs
    · simp -implicitDefEqProofs
      refine ⟨fun s hs hx => ?_, fun hs => ?_⟩
      · simp -implicitDefEqProofs [mayB]; intro _ _ _ ha; rw [ha s hs] at hx; cases hx
      · refine acall_pure (contains48_ev 49 [.pv .brw [.sl .brw false (rowsE d.safe), .sl .brw false (rowsE d.wait)] 0] (badSect d.safe.length) d.wait h2 (by simp -implicitDefEqProofs) (by simp -implicitDefEqProofs) (by simp -implicitDefEqProofs) fun x _ => may2_ev d x) ?_ (by simp -implicitDefEqProofs) (by simp -implicitDefEqProofs) ?_
        · simp -implicitDefEqProofs
        · simp -implicitDefEqProofs
          have e : d.safe.all isSec = true := List.all_eq_true.2 hs
          have e2 : d.wait.any (badSect d.safe.length) = !d.wait.all fun x => !badSect d.safe.length x := by rw [← any_not]; simp -implicitDefEqProofs
          rw [e2, mayB, e]
          simp -implicitDefEqProofs [show 1 ≤ d.safe.length by omega, show d.safe.length ≤ 400 by omega, show d.wait.length ≤ 400 by omega]
  · simp -implicitDefEqProofs [mayB]; omega
  · simp -implicitDefEqProofs [mayB]; omega

theorem all_take_step {α : Type} {p : α → Bool} {l : List α} {i : Nat} (h : (l.take i).all p = true) (hi : i < l.length) (hp : p l[i] = true) : (l.take (i + 1)).all p = true := by
  rw [List.take_add_one, List.all_append, h]; simp -implicitDefEqProofs [hi, hp]
theorem all_false_at {α : Type} {p : α → Bool} {l : List α} {i : Nat} (hi : i < l.length) (hp : p l[i] = false) : l.all p = false := by
  rw [List.all_eq_false]; exact ⟨l[i], List.getElem_mem hi, by simp -implicitDefEqProofs [hp]⟩

/-- A disk in a variable. -/
def diskVar (d : DiskV) (H : Heap) (i : Id) : Prop := H i = .arr 25 2 false [[.sl .brw false (rowsE d.safe), .sl .brw false (rowsE d.wait)]]

theorem refDisk_l0 {F : CT} (d : DiskV) (h1 : d.safe.length < 281474976710656) {Q : AEx → St → Prop} {st : St} (k1 : st.s 1 = .c (.pt (0, 1) 0 0)) (kH : diskVar d st.H (0, 1)) (k3 : st.s 3 = .c (.raw (.int .i64 0)))
    (hn : ∀ st', st'.s 1 = .c (.pt (0, 1) 0 0) → diskVar d st'.H (0, 1) → d.safe.all isSec = true → Q (.exit 0) st') (hr : ∀ st', st'.s 2 = .c (.raw (.bool false)) → d.safe.all isSec = false → Q .ret st') :
    awpS Try.prog F (.loop s14L0) Q st := by
  refine loop_n (fun n st => ∃ i : Nat, i ≤ d.safe.length ∧ n = d.safe.length - i ∧ st.s 1 = .c (.pt (0, 1) 0 0) ∧ diskVar d st.H (0, 1) ∧ st.s 3 = .c (.raw (.int .i64 i)) ∧ (d.safe.take i).all isSec = true) d.safe.length ⟨0, by simp -implicitDefEqProofs [k1, kH, k3]⟩ ?_
  rintro n st ⟨i, hi, rfl, k1, kH', k3, ha⟩
  have kH := kH'
  unfold diskVar at kH
  by_cases hlt : i < d.safe.length
  · have e2 : IntKind.wrap .i64 ((i : Int) + 1) = ((i + 1 : Nat) : Int) := by rw [wrap64_id] <;> omega
    simp -implicitDefEqProofs [s14L0, k1, kH, k3, hlt, e2]
    refine ⟨fun hne => hr _ (by simp -implicitDefEqProofs) (all_false_at (p := isSec) hlt (by simp -implicitDefEqProofs [isSec]; omega)), fun he => ⟨d.safe.length - (i + 1), by omega, i + 1, by omega, rfl, kH', rfl, ?_⟩⟩
    have := all_take_step ha hlt (by simp -implicitDefEqProofs [isSec]; omega)
    simpa using this
  · have : i = d.safe.length := by omega
    subst this
    rw [List.take_length] at ha
    simp -implicitDefEqProofs [s14L0, k1, kH, k3, hlt]
    exact hn _ (by simp -implicitDefEqProofs [k1]) (by simp -implicitDefEqProofs [kH']) ha

theorem refDisk_l1 {F : CT} (d : DiskV) (h0 : 1 ≤ d.safe.length) (h1 : d.safe.length < 281474976710656) (h2 : d.wait.length < 281474976710656) {Q : AEx → St → Prop} {st : St} (k1 : st.s 1 = .c (.pt (0, 1) 0 0)) (kH : diskVar d st.H (0, 1)) (k3 : st.s 4 = .c (.raw (.int .i64 0)))
    (hF : ctGet F 31 = ctGet F2 31)
    (hn : ∀ st', (d.wait.all fun x => !badSect d.safe.length x) = true → Q (.exit 2) st') (hr : ∀ st', st'.s 2 = .c (.raw (.bool false)) → (d.wait.all fun x => !badSect d.safe.length x) = false → Q .ret st') :
    awpS Try.prog F (.loop s14L1) Q st := by
  refine loop_n (fun n st => ∃ i : Nat, i ≤ d.wait.length ∧ n = d.wait.length - i ∧ st.s 1 = .c (.pt (0, 1) 0 0) ∧ diskVar d st.H (0, 1) ∧ st.s 4 = .c (.raw (.int .i64 i)) ∧ (d.wait.take i).all (fun x => !badSect d.safe.length x) = true) d.wait.length ⟨0, by simp -implicitDefEqProofs [k1, kH, k3]⟩ ?_
  rintro n st ⟨i, hi, rfl, k1, kH', k3, ha⟩
  have kH := kH'
  unfold diskVar at kH
  by_cases hlt : i < d.wait.length
  · have e2 : IntKind.wrap .i64 ((i : Int) + 1) = ((i + 1 : Nat) : Int) := by rw [wrap64_id] <;> omega
    have e3 : IntKind.wrap .i64 ((d.safe.length : Int) - 1) = (d.safe.length : Int) - 1 := by rw [wrap64_id] <;> omega
    simp -implicitDefEqProofs [s14L1, k1, kH, k3, hlt, e2, e3, hF]
    refine ⟨fun a b => ⟨fun hne => hr _ (by simp -implicitDefEqProofs) (all_false_at (p := fun x => !badSect d.safe.length x) hlt (by simp -implicitDefEqProofs [badSect, isSec]; omega)), fun he => ⟨d.wait.length - (i + 1), by omega, i + 1, by omega, rfl, kH', rfl, ?_⟩⟩, fun a => hr _ (by simp -implicitDefEqProofs) (all_false_at (p := fun x => !badSect d.safe.length x) hlt (by simp -implicitDefEqProofs [badSect, isSec]; omega))⟩
    have := all_take_step ha hlt (by simp -implicitDefEqProofs [badSect, isSec]; omega)
    simpa using this
  · have : i = d.wait.length := by omega
    subst this
    rw [List.take_length] at ha
    simp -implicitDefEqProofs [s14L1, k1, kH, k3, hlt]
    exact hn _ ha

theorem refDisk_ev (d : DiskV) (h1 : d.safe.length < 281474976710656) (h2 : d.wait.length < 281474976710656) : PEv Try.prog 14 [Arg.enc d] (.c (.raw (.bool (mayB d)))) := by
  refine tells_of mixed F2_ok Try.func14 sl14 ok14 (by kernel_rfl) (by simp) (by simp) ?_
  simp -implicitDefEqProofs [s14]
  repeat' (first | (intro _) | (with_reducible apply And.intro))
  · simp -implicitDefEqProofs [mayB]; omega
  · refine refDisk_l0 d h1 (by simp -implicitDefEqProofs) (by simp -implicitDefEqProofs [diskVar]) (by simp -implicitDefEqProofs) ?_ ?_
    · intro st' k1 kH hs
      simp -implicitDefEqProofs [k1]
      refine refDisk_l1 d (by omega) h1 h2 (by simp -implicitDefEqProofs [k1]) kH (by simp -implicitDefEqProofs) rfl ?_ ?_
      · intro st' hw
        simp -implicitDefEqProofs
        rw [mayB, hs, hw]
        simp -implicitDefEqProofs [show 1 ≤ d.safe.length by omega, show d.safe.length ≤ 400 by omega, show d.wait.length ≤ 400 by omega]
      · intro st' k2 hw
        simp -implicitDefEqProofs [k2]
        rw [mayB, hw]; simp -implicitDefEqProofs
    · intro st' k2 hs
      simp -implicitDefEqProofs [k2]
      rw [mayB, hs]; simp -implicitDefEqProofs
  all_goals (simp -implicitDefEqProofs [mayB]; omega)

def actBad (n : Nat) : Prop := True
end Go.AE

/- Crashes: what the disk's and the reference's tell. -/
set_option linter.unusedVariables false
set_option linter.unusedSimpArgs false
set_option maxHeartbeats 2000000
namespace Go.AE
open Go Go.Proofs

/-- One sector that waits: lost, done, torn. -/
def tear (safe : List (List UInt8)) (w : Sect) (k : Int) : List (List UInt8) :=
  if k = 1 then safe.set w.at_.toNat w.text else if k = 2 then safe.set w.at_.toNat (w.text.take 16 ++ (safe.getD w.at_.toNat []).drop 16) else safe

def keepAt (keep : List Int) (i : Nat) : Int := if (keep.getD i 0) < 0 then 0 else (keep.getD i 0) % 3

def crashGo (keep : List Int) : Nat → List (List UInt8) → List Sect → List (List UInt8)
  | _, safe, [] => safe
  | i, safe, w :: r => crashGo keep (i + 1) (tear safe w (keepAt keep i)) r

def syncGo : List (List UInt8) → List Sect → List (List UInt8)
  | safe, [] => safe
  | safe, w :: r => syncGo (safe.set w.at_.toNat w.text) r

theorem tear_length (safe : List (List UInt8)) (w : Sect) (k : Int) : (tear safe w k).length = safe.length := by
  unfold tear; split <;> (try split) <;> simp -implicitDefEqProofs

theorem crashGo_length (keep : List Int) : ∀ (l : List Sect) (i : Nat) (safe : List (List UInt8)), (crashGo keep i safe l).length = safe.length
  | [], _, _ => rfl
  | w :: r, i, safe => by rw [crashGo, crashGo_length, tear_length]

theorem mayB_of {d : DiskV} (h : mayB d = true) : 1 ≤ d.safe.length ∧ d.safe.length ≤ 400 ∧ d.wait.length ≤ 400 ∧ (∀ s ∈ d.safe, s.length = 32) ∧ ∀ x ∈ d.wait, x.text.length = 32 ∧ 0 ≤ x.at_ ∧ x.at_ < d.safe.length := by
  simp only [mayB, Bool.and_eq_true, decide_eq_true_eq, List.all_eq_true] at h
  obtain ⟨⟨⟨⟨h1, h2⟩, h3⟩, h4⟩, h5⟩ := h
  refine ⟨h1, h2, h3, fun s hs => by simpa [isSec] using h4 s hs, fun x hx => ?_⟩
  have := h5 x hx
  simp -implicitDefEqProofs [badSect, isSec] at this
  omega

theorem all_set {α : Type} {p : α → Prop} {l : List α} {i : Nat} {x : α} (h : ∀ s ∈ l, p s) (hx : p x) : ∀ s ∈ l.set i x, p s := fun s hs => by
  rcases List.mem_or_eq_of_mem_set hs with q | q
  · exact h s q
  · rw [q]; exact hx

theorem tear_sec {safe : List (List UInt8)} {w : Sect} {k : Int} (h : ∀ s ∈ safe, s.length = 32) (hw : w.text.length = 32) (h0 : 0 ≤ w.at_) (h1 : w.at_ < safe.length) : ∀ s ∈ tear safe w k, s.length = 32 := by
  unfold tear
  split
  · exact all_set h hw
  · split
    · refine all_set h ?_
      have : w.at_.toNat < safe.length := by omega
      have := h (safe.getD w.at_.toNat []) (by simp -implicitDefEqProofs [List.getD, this])
      simp -implicitDefEqProofs [hw] at this ⊢
      omega
    · exact h

theorem crashGo_sec {keep : List Int} : ∀ (l : List Sect) (i : Nat) (safe : List (List UInt8)), (∀ s ∈ safe, s.length = 32) → (∀ x ∈ l, x.text.length = 32 ∧ 0 ≤ x.at_ ∧ x.at_ < safe.length) → ∀ s ∈ crashGo keep i safe l, s.length = 32
  | [], _, _, h, _ => h
  | w :: r, i, safe, h, hl => by
    rw [crashGo]
    have hw := hl w (by simp -implicitDefEqProofs)
    exact crashGo_sec r (i + 1) _ (tear_sec h hw.1 hw.2.1 hw.2.2) fun x hx => by
      rw [tear_length]; exact hl x (by simp -implicitDefEqProofs [hx])

def boxDisk (d : DiskV) : OK := .arr 25 2 false [[.sl .brw false (rowsE d.safe), .sl .brw false (rowsE d.wait)]]

/-- A disk's sectors in an own row, in a variable; nothing waits. -/
def ownDisk (H : Heap) (v i : Id) (safe : List (List UInt8)) : Prop := H v = .arr 25 2 false [[.so i 0 safe.length, .raw (.slice none 0 0)]] ∧ H i = .arr 9 1 false (rowsE safe) ∧ v ≠ i

theorem keepAt_id {keep : List Int} {i : Nat} (hk : i < keep.length) : keep.getD i 0 = keep[i] := by simp -implicitDefEqProofs [List.getD, hk]

theorem rowsE_set' {l : List (List UInt8)} {i : Nat} {a : List UInt8} : rowsE (l.set i a) = (rowsE l).set i [AC.str a] := (rowsE_set l i a).symm

theorem diskCrash_l0 {F : CT} (d : DiskV) (keep : List Int) (hd : mayB d = true) (hkl : keep.length < 281474976710656) {Q : AEx → St → Prop} {st : St} (b v i : Id) (k6 : st.s 6 = .c (.pt v 0 0)) (b4 : Id) (k4 : st.s 4 = .c (.pt b4 0 0))
    (k1 : st.s 1 = .c (.sl .brw false (rowsE keep))) (kv : ownDisk st.H v i d.safe) (k18 : st.s 18 = .c (.sl .brw false (rowsE d.wait))) (k19 : st.s 19 = .c (.raw (.int .i64 d.wait.length))) (k20 : st.s 20 = .c (.raw (.int .i64 0)))
    (hf : Fresh st.H st.T)
    (hn : ∀ st', st'.s 6 = .c (.pt v 0 0) → st'.s 4 = .c (.pt b4 0 0) → st'.H i = .arr 9 1 false (rowsE (crashGo keep 0 d.safe d.wait)) → ExtH [i] st.H st.T st'.H st'.T → Q (.exit 0) st') :
    awpS Try.prog F (.loop s16L0) Q st := by
  obtain ⟨hd1, hd2, hd3, hd4, hd5⟩ := mayB_of hd
  obtain ⟨kv, ki, hvi⟩ := kv
  refine loop_n (fun n st' => ∃ (j : Nat) (safe : List (List UInt8)), j ≤ d.wait.length ∧ n = d.wait.length - j ∧ safe.length = d.safe.length ∧ (∀ s ∈ safe, s.length = 32) ∧ st'.s 6 = .c (.pt v 0 0) ∧ st'.s 4 = .c (.pt b4 0 0) ∧
    st'.s 1 = .c (.sl .brw false (rowsE keep)) ∧ st'.H i = .arr 9 1 false (rowsE safe) ∧ st'.s 18 = .c (.sl .brw false (rowsE d.wait)) ∧ st'.s 19 = .c (.raw (.int .i64 d.wait.length)) ∧ st'.s 20 = .c (.raw (.int .i64 j)) ∧ ExtH [i] st.H st.T st'.H st'.T ∧
    crashGo keep j safe (d.wait.drop j) = crashGo keep 0 d.safe d.wait) d.wait.length ⟨0, d.safe, by simp -implicitDefEqProofs [k6, k4, k1, ki, k18, k19, k20, ExtH.refl hf]; exact hd4⟩ ?_
  rintro n st' ⟨j, safe, hj, rfl, hl, hs, k6, k4, k1, ki, k18, k19, k20, he, hc⟩
  have hf' := he.fresh
  have kv := he.arr kv (by simpa using hvi)
  obtain ⟨f4, f5, f6⟩ := hf'.arr kv
  obtain ⟨f7, f8, f9⟩ := hf'.arr ki
  have hfu : ∀ k d, st'.T ≤ k → st'.H (k, d) = .unborn := hf'
  have hT := he.2.2.1
  have hiv : (i = v) = False := by simp only [eq_iff_iff, iff_false]; exact fun e => hvi e.symm
  by_cases hlt : j < d.wait.length
  · have e2 : IntKind.wrap .i64 ((j : Int) + 1) = ((j + 1 : Nat) : Int) := by rw [wrap64_id] <;> omega
    obtain ⟨w1, w2, w3⟩ := hd5 d.wait[j] (List.getElem_mem hlt)
    have w4 : d.wait[j].at_.toNat < safe.length := by omega
    have w5 : d.wait[j].at_ < safe.length := by omega
    have w5' : d.wait[j].at_ < d.safe.length := w3
    have w6 := hs safe[d.wait[j].at_.toNat] (List.getElem_mem w4)
    rw [List.drop_eq_getElem_cons hlt, crashGo] at hc
    have hlen : (tear safe d.wait[j] (keepAt keep j)).length = d.safe.length := by rw [tear_length, hl]
    have hsec := tear_sec (k := keepAt keep j) hs w1 w2 w5
    by_cases hk : j < keep.length
    · have t3 : 0 ≤ keep[j] → keep[j].tmod 3 = keep[j] % 3 := fun h => Int.tmod_eq_emod_of_nonneg h
      have kA : keepAt keep j = if keep[j] < 0 then 0 else keep[j] % 3 := by rw [keepAt, keepAt_id hk]
      have hk' : (keep.length ≤ j) = False := by simp -implicitDefEqProofs; omega
      by_cases g : keep[j] < 0
      · simp -implicitDefEqProofs [s16L0, k6, k4, k1, kv, ki, k18, k19, k20, hlt, e2, f4, f5, f7, f8, hfu, hk, hk', w1, w2, w4, w5', hiv, w6, g]
        refine ⟨d.wait.length - (j + 1), by omega, j + 1, by omega, rfl, _, hlen, hsec, ?_, rfl, ?_, hc⟩
        · rw [kA, if_pos g]; simp -implicitDefEqProofs [tear]
        · repeat' (first | exact he.tick (by first | omega | (simp <;> omega)) | (refine ExtH.new ?_ (by first | omega | (simp <;> omega)) (by first | omega | (simp <;> omega))) | (refine ExtH.set ?_ (by simp) (by first | omega | (simp <;> omega))))
      · have g' : (keep[j] < 0) = False := by simp -implicitDefEqProofs; omega
        by_cases g1 : keep[j].tmod 3 = 1
        · simp -implicitDefEqProofs [s16L0, k6, k4, k1, kv, ki, k18, k19, k20, hlt, e2, f4, f5, f7, f8, hfu, hk, hk', w1, w2, w4, w5', hiv, w6, g', g1]
          refine ⟨d.wait.length - (j + 1), by omega, j + 1, by omega, rfl, _, hlen, hsec, ?_, rfl, ?_, hc⟩
          · rw [kA, if_neg (by omega), ← t3 (by omega), g1]; simp -implicitDefEqProofs [tear, rowsE_set']
          · repeat' (first | exact he.tick (by first | omega | (simp <;> omega)) | (refine ExtH.new ?_ (by first | omega | (simp <;> omega)) (by first | omega | (simp <;> omega))) | (refine ExtH.set ?_ (by simp) (by first | omega | (simp <;> omega))))
        · by_cases g2 : keep[j].tmod 3 = 2
          · simp -implicitDefEqProofs [s16L0, k6, k4, k1, kv, ki, k18, k19, k20, hlt, e2, f4, f5, f7, f8, hfu, hk, hk', w1, w2, w4, w5', hiv, w6, g', g1, g2]
            refine ⟨d.wait.length - (j + 1), by omega, j + 1, by omega, rfl, _, hlen, hsec, ?_, rfl, ?_, hc⟩
            · rw [kA, if_neg (by omega), ← t3 (by omega), g2]; simp -implicitDefEqProofs [tear, rowsE_set', w4, List.take_of_length_le (Nat.le_of_eq w6)]
            · repeat' (first | exact he.tick (by first | omega | (simp <;> omega)) | (refine ExtH.new ?_ (by first | omega | (simp <;> omega)) (by first | omega | (simp <;> omega))) | (refine ExtH.set ?_ (by simp) (by first | omega | (simp <;> omega))))
          · simp -implicitDefEqProofs [s16L0, k6, k4, k1, kv, ki, k18, k19, k20, hlt, e2, f4, f5, f7, f8, hfu, hk, hk', w1, w2, w4, w5', hiv, w6, g', g1, g2]
            refine ⟨d.wait.length - (j + 1), by omega, j + 1, by omega, rfl, _, hlen, hsec, ?_, rfl, ?_, hc⟩
            · rw [kA, if_neg (by omega), ← t3 (by omega)]; simp -implicitDefEqProofs [tear, g1, g2]
            · repeat' (first | exact he.tick (by first | omega | (simp <;> omega)) | (refine ExtH.new ?_ (by first | omega | (simp <;> omega)) (by first | omega | (simp <;> omega))) | (refine ExtH.set ?_ (by simp) (by first | omega | (simp <;> omega))))
    · have kA : keepAt keep j = 0 := by simp -implicitDefEqProofs [keepAt, List.getD, hk]
      simp -implicitDefEqProofs [s16L0, k6, k4, k1, kv, ki, k18, k19, k20, hlt, e2, f4, f5, f7, f8, hfu, hk, w1, w2, w4, w5', hiv, w6]
      refine fun _ => ⟨d.wait.length - (j + 1), by omega, j + 1, by omega, rfl, _, hlen, hsec, ?_, rfl, ?_, hc⟩
      · rw [kA]; simp -implicitDefEqProofs [tear]
      · repeat' (first | exact he.tick (by first | omega | (simp <;> omega)) | (refine ExtH.new ?_ (by first | omega | (simp <;> omega)) (by first | omega | (simp <;> omega))) | (refine ExtH.set ?_ (by simp) (by first | omega | (simp <;> omega))))
  · have : j = d.wait.length := by omega
    subst this
    simp -implicitDefEqProofs [s16L0, k6, k1, kv, ki, k18, k19, k20, hlt]
    rw [List.drop_length, crashGo] at hc
    exact hn _ (by simp -implicitDefEqProofs [k6]) (by simp -implicitDefEqProofs [k4]) (by rw [← hc]; simpa using ki) (he.tick (by simp -implicitDefEqProofs))

end Go.AE

/- disk.Crash, the reference's Crash, Sync, New, Put. -/
set_option linter.unusedVariables false
set_option linter.unusedSimpArgs false
set_option maxHeartbeats 2000000
namespace Go.AE
open Go Go.Proofs

def F4_h27 : List AV → Option (Prop × AV) := t1 (fun d : DiskV => d.safe.length < 1000000 ∧ d.wait.length < 1000000) fun d : DiskV => .c (.raw (.bool (mayB d)))
@[simp] theorem F4_ap27 {l : List AV} : F4_h27 l = (t1 (fun d : DiskV => d.safe.length < 1000000 ∧ d.wait.length < 1000000) fun d : DiskV => .c (.raw (.bool (mayB d)))) l := rfl
def F4_h29 : List AV → Option (Prop × AV) := t1 (fun d : DiskV => d.safe.length < 1000000 ∧ d.wait.length < 1000000) fun d : DiskV => .g (diskNw d)
@[simp] theorem F4_ap29 {l : List AV} : F4_h29 l = (t1 (fun d : DiskV => d.safe.length < 1000000 ∧ d.wait.length < 1000000) fun d : DiskV => .g (diskNw d)) l := rfl
def F4_h14 : List AV → Option (Prop × AV) := t1 (fun d : DiskV => d.safe.length < 281474976710656 ∧ d.wait.length < 281474976710656) fun d : DiskV => .c (.raw (.bool (mayB d)))
@[simp] theorem F4_ap14 {l : List AV} : F4_h14 l = (t1 (fun d : DiskV => d.safe.length < 281474976710656 ∧ d.wait.length < 281474976710656) fun d : DiskV => .c (.raw (.bool (mayB d)))) l := rfl
def F4_h26 : List AV → Option (Prop × AV) := t0 (.c (.str blank))
@[simp] theorem F4_ap26 {l : List AV} : F4_h26 l = (t0 (.c (.str blank))) l := rfl
def F4 : CT := (27, F4_h27) :: (29, F4_h29) :: (14, F4_h14) :: (26, F4_h26) :: F3
theorem F4_ok : CTok Try.prog F4 := ⟨tells1 fun d h => may_ev d h.1 h.2,
  tells1 fun d h => own29_ev d h.1 h.2,
  tells1 fun d h => refDisk_ev d h.1 h.2,
  tells0 blank26_ev, F3_ok⟩
@[simp] theorem F4_get27 : ctGet F4 27 = some F4_h27 := rfl
@[simp] theorem F4_get29 : ctGet F4 29 = some F4_h29 := rfl
@[simp] theorem F4_get14 : ctGet F4 14 = some F4_h14 := rfl
@[simp] theorem F4_get26 : ctGet F4 26 = some F4_h26 := rfl
@[simp] theorem F4_skip {n : Nat} (h : (n == 27 || n == 29 || n == 14 || n == 26) = false) : ctGet F4 n = ctGet F3 n := by
  simp only [Bool.or_eq_false_iff, beq_eq_false_iff_ne, ne_eq] at h
  simp [F4, ctGet, h]

theorem crashGo_may {keep : List Int} {d : DiskV} (h : mayB d = true) : (crashGo keep 0 d.safe d.wait).length = d.safe.length := crashGo_length keep d.wait 0 d.safe

/-- What a crash tells: the disk, the error. -/
def crashR (d : DiskV) (keep : List Int) : DiskV × Int := if mayB d = true then (⟨crashGo keep 0 d.safe d.wait, []⟩, 0) else (⟨[], []⟩, 1)

def diskE (r : DiskV × Int) : AV := .t [(true, diskNw r.1), (false, [.raw (.int .i64 r.2)])]

theorem diskCrash_ev (d : DiskV) (keep : List Int) (h1 : d.safe.length < 1000000) (h2 : d.wait.length < 1000000) (h3 : keep.length < 281474976710656) :
    PEv Try.prog 16 [Arg.enc d, .c (.sl .brw false (rowsE keep))] (diskE (crashR d keep)) := by
  refine tells_of mixed F4_ok Try.func16 sl16 ok16 (by kernel_rfl) (by simp [diskE, diskNw]) (by simp) ?_
  unfold crashR
  by_cases hm : mayB d = true
  · simp -implicitDefEqProofs [s16, h1, h2, hm]
    refine diskCrash_l0 d keep hm h3 (0, 2) (2, 6) (2, 16384) (by simp -implicitDefEqProofs) (0, 4) (by simp -implicitDefEqProofs) (by simp -implicitDefEqProofs) ⟨by simp -implicitDefEqProofs, by simp -implicitDefEqProofs, by simp -implicitDefEqProofs⟩ (by simp -implicitDefEqProofs) (by simp -implicitDefEqProofs) (by simp -implicitDefEqProofs) (by (simp; repeat' (first | exact fresh_no.mono (Nat.zero_le _) | (refine Fresh.set' ?_ (by simp))))) ?_
    intro st' k6 k4 ki he
    have kv := he.1 (2, 6)
    have k4' := he.1 (0, 4)
    simp -implicitDefEqProofs at kv k4'
    simp -implicitDefEqProofs [k6, k4, kv, k4', ki, crashGo_length, diskE, diskNw]
  · simp -implicitDefEqProofs [s16, h1, h2, hm]
    simp -implicitDefEqProofs [diskE, diskNw]

theorem refCrash_l0 {F : CT} (d : DiskV) (keep : List Int) (hd : mayB d = true) (hkl : keep.length < 281474976710656) {Q : AEx → St → Prop} {st : St} (b v i b4 : Id) (k5 : st.s 5 = .c (.pt v 0 0)) (k4 : st.s 4 = .c (.pt b4 0 0))
    (k2 : st.s 2 = .c (.pt b 0 0)) (kb : st.H b = boxDisk d) (hib : b ≠ i)
    (k1 : st.s 1 = .c (.sl .brw false (rowsE keep))) (kv : ownDisk st.H v i d.safe) (k6 : st.s 6 = .c (.raw (.int .i64 0)))
    (hf : Fresh st.H st.T)
    (hn : ∀ st', st'.s 5 = .c (.pt v 0 0) → st'.s 4 = .c (.pt b4 0 0) → st'.H i = .arr 9 1 false (rowsE (crashGo keep 0 d.safe d.wait)) → ExtH [i] st.H st.T st'.H st'.T → Q (.exit 0) st') :
    awpS Try.prog F (.loop s20L0) Q st := by
  obtain ⟨hd1, hd2, hd3, hd4, hd5⟩ := mayB_of hd
  obtain ⟨kv, ki, hvi⟩ := kv
  unfold boxDisk at kb
  refine loop_n (fun n st' => ∃ (j : Nat) (safe : List (List UInt8)), j ≤ d.wait.length ∧ n = d.wait.length - j ∧ safe.length = d.safe.length ∧ (∀ s ∈ safe, s.length = 32) ∧ st'.s 5 = .c (.pt v 0 0) ∧ st'.s 4 = .c (.pt b4 0 0) ∧ st'.s 2 = .c (.pt b 0 0) ∧
    st'.s 1 = .c (.sl .brw false (rowsE keep)) ∧ st'.H i = .arr 9 1 false (rowsE safe) ∧ st'.s 6 = .c (.raw (.int .i64 j)) ∧ ExtH [i] st.H st.T st'.H st'.T ∧
    crashGo keep j safe (d.wait.drop j) = crashGo keep 0 d.safe d.wait) d.wait.length ⟨0, d.safe, by simp -implicitDefEqProofs [k6, k4, k1, ki, k5, k2, ExtH.refl hf]; exact hd4⟩ ?_
  rintro n st' ⟨j, safe, hj, rfl, hl, hs, k5, k4, k2, k1, ki, k6, he, hc⟩
  have hf' := he.fresh
  have kv := he.arr kv (by simpa using hvi)
  have kb := he.arr kb (by simpa using hib)
  obtain ⟨f4, f5, f6⟩ := hf'.arr kv
  obtain ⟨f7, f8, f9⟩ := hf'.arr ki
  obtain ⟨f1, f2, f3⟩ := hf'.arr kb
  have hfu : ∀ k d, st'.T ≤ k → st'.H (k, d) = .unborn := hf'
  have hT := he.2.2.1
  have hiv : (i = v) = False := by simp only [eq_iff_iff, iff_false]; exact fun e => hvi e.symm
  by_cases hlt : j < d.wait.length
  · have e2 : IntKind.wrap .i64 ((j : Int) + 1) = ((j + 1 : Nat) : Int) := by rw [wrap64_id] <;> omega
    obtain ⟨w1, w2, w3⟩ := hd5 d.wait[j] (List.getElem_mem hlt)
    have w4 : d.wait[j].at_.toNat < safe.length := by omega
    have w5 : d.wait[j].at_ < safe.length := by omega
    have w6 := hs safe[d.wait[j].at_.toNat] (List.getElem_mem w4)
    rw [List.drop_eq_getElem_cons hlt, crashGo] at hc
    have hlen : (tear safe d.wait[j] (keepAt keep j)).length = d.safe.length := by rw [tear_length, hl]
    have hsec := tear_sec (k := keepAt keep j) hs w1 w2 w5
    by_cases hk : j < keep.length
    · have t3 : 0 ≤ keep[j] → keep[j].tmod 3 = keep[j] % 3 := fun h => Int.tmod_eq_emod_of_nonneg h
      have kA : keepAt keep j = if keep[j] < 0 then 0 else keep[j] % 3 := by rw [keepAt, keepAt_id hk]
      by_cases g : 0 < keep[j]
      · by_cases g1 : keep[j].tmod 3 = 1
        · simp -implicitDefEqProofs [s20L0, k6, k4, k1, kv, ki, k5, k2, kb, hlt, e2, f4, f5, f7, f8, f1, f2, hfu, hk, w1, w2, w4, w3, hiv, w6, g, g1]
          refine ⟨d.wait.length - (j + 1), by omega, j + 1, by omega, rfl, _, hlen, hsec, ?_, rfl, ?_, hc⟩
          · rw [kA, if_neg (by omega), ← t3 (by omega), g1]; simp -implicitDefEqProofs [tear, rowsE_set']
          · repeat' (first | exact he.tick (by first | omega | (simp <;> omega)) | (refine ExtH.new ?_ (by first | omega | (simp <;> omega)) (by first | omega | (simp <;> omega))) | (refine ExtH.set ?_ (by simp) (by first | omega | (simp <;> omega))))
        · by_cases g2 : keep[j].tmod 3 = 2
          · simp -implicitDefEqProofs [s20L0, k6, k4, k1, kv, ki, k5, k2, kb, hlt, e2, f4, f5, f7, f8, f1, f2, hfu, hk, w1, w2, w4, w3, hiv, w6, g, g1, g2]
            refine ⟨d.wait.length - (j + 1), by omega, j + 1, by omega, rfl, _, hlen, hsec, ?_, rfl, ?_, hc⟩
            · rw [kA, if_neg (by omega), ← t3 (by omega), g2]; simp -implicitDefEqProofs [tear, rowsE_set', w4, List.take_of_length_le (Nat.le_of_eq w6)]
            · repeat' (first | exact he.tick (by first | omega | (simp <;> omega)) | (refine ExtH.new ?_ (by first | omega | (simp <;> omega)) (by first | omega | (simp <;> omega))) | (refine ExtH.set ?_ (by simp) (by first | omega | (simp <;> omega))))
          · simp -implicitDefEqProofs [s20L0, k6, k4, k1, kv, ki, k5, k2, kb, hlt, e2, f4, f5, f7, f8, f1, f2, hfu, hk, w1, w2, w4, w3, hiv, w6, g, g1, g2]
            refine ⟨d.wait.length - (j + 1), by omega, j + 1, by omega, rfl, _, hlen, hsec, ?_, rfl, ?_, hc⟩
            · rw [kA, if_neg (by omega), ← t3 (by omega)]; simp -implicitDefEqProofs [tear, g1, g2]
            · repeat' (first | exact he.tick (by first | omega | (simp <;> omega)) | (refine ExtH.new ?_ (by first | omega | (simp <;> omega)) (by first | omega | (simp <;> omega))) | (refine ExtH.set ?_ (by simp) (by first | omega | (simp <;> omega))))
      · simp -implicitDefEqProofs [s20L0, k6, k4, k1, kv, ki, k5, k2, kb, hlt, e2, f4, f5, f7, f8, f1, f2, hfu, hk, w1, w2, w4, w3, hiv, w6, g]
        refine ⟨d.wait.length - (j + 1), by omega, j + 1, by omega, rfl, _, hlen, hsec, ?_, rfl, ?_, hc⟩
        · have : (if keep[j] < 0 then 0 else keep[j] % 3) = 0 := by split <;> omega
          rw [kA, this]; simp -implicitDefEqProofs [tear]
        · repeat' (first | exact he.tick (by first | omega | (simp <;> omega)) | (refine ExtH.new ?_ (by first | omega | (simp <;> omega)) (by first | omega | (simp <;> omega))) | (refine ExtH.set ?_ (by simp) (by first | omega | (simp <;> omega))))
    · have kA : keepAt keep j = 0 := by simp -implicitDefEqProofs [keepAt, List.getD, hk]
      simp -implicitDefEqProofs [s20L0, k6, k4, k1, kv, ki, k5, k2, kb, hlt, e2, f4, f5, f7, f8, f1, f2, hfu, hk, w1, w2, w4, w3, hiv, w6]
      refine ⟨d.wait.length - (j + 1), by omega, j + 1, by omega, rfl, _, hlen, hsec, ?_, rfl, ?_, hc⟩
      · rw [kA]; simp -implicitDefEqProofs [tear]
      · repeat' (first | exact he.tick (by first | omega | (simp <;> omega)) | (refine ExtH.new ?_ (by first | omega | (simp <;> omega)) (by first | omega | (simp <;> omega))) | (refine ExtH.set ?_ (by simp) (by first | omega | (simp <;> omega))))
  · have : j = d.wait.length := by omega
    subst this
    simp -implicitDefEqProofs [s20L0, k6, k1, kv, ki, k5, k2, kb, hlt]
    rw [List.drop_length, crashGo] at hc
    exact hn _ (by simp -implicitDefEqProofs [k5]) (by simp -implicitDefEqProofs [k4]) (by rw [← hc]; simpa using ki) (he.tick (by simp -implicitDefEqProofs))

theorem refCrash_ev (d : DiskV) (keep : List Int) (hm : mayB d = true) (h3 : keep.length < 281474976710656) :
    PEv Try.prog 20 [Arg.enc d, .c (.sl .brw false (rowsE keep))] (.g (diskNw ⟨crashGo keep 0 d.safe d.wait, []⟩)) := by
  obtain ⟨hd1, hd2, hd3, hd4, hd5⟩ := mayB_of hm
  have h1 : d.safe.length < 1000000 := by omega
  refine tells_of mixed F4_ok Try.func20 sl20 ok20 (by kernel_rfl) (by simp [diskNw]) (by simp) ?_
  simp -implicitDefEqProofs [s20, h1]
  refine refCrash_l0 d keep hm h3 (0, 2) (1, 5) (1, 12288) (0, 4) (by simp -implicitDefEqProofs) (by simp -implicitDefEqProofs) (by simp -implicitDefEqProofs) (by simp -implicitDefEqProofs [boxDisk]) (by simp -implicitDefEqProofs) (by simp -implicitDefEqProofs) ⟨by simp -implicitDefEqProofs, by simp -implicitDefEqProofs, by simp -implicitDefEqProofs⟩ (by simp -implicitDefEqProofs) (by (simp; repeat' (first | exact fresh_no.mono (Nat.zero_le _) | (refine Fresh.set' ?_ (by simp))))) ?_
  intro st' k5 k4 ki he
  have kv := he.1 (1, 5)
  have k4' := he.1 (0, 4)
  simp -implicitDefEqProofs at kv k4'
  simp -implicitDefEqProofs [k5, k4, kv, k4', ki, crashGo_length, diskNw]

theorem refSync_l0 {F : CT} (d : DiskV) (hd : mayB d = true) {Q : AEx → St → Prop} {st : St} (b v i b4 : Id) (k3 : st.s 3 = .c (.pt v 0 0)) (k2 : st.s 2 = .c (.pt b4 0 0))
    (k1 : st.s 1 = .c (.pt b 0 0)) (kb : st.H b = boxDisk d) (hib : b ≠ i) (kv : ownDisk st.H v i d.safe) (k4 : st.s 4 = .c (.raw (.int .i64 0)))
    (hf : Fresh st.H st.T)
    (hn : ∀ st', st'.s 3 = .c (.pt v 0 0) → st'.s 2 = .c (.pt b4 0 0) → st'.H i = .arr 9 1 false (rowsE (syncGo d.safe d.wait)) → ExtH [i] st.H st.T st'.H st'.T → Q (.exit 0) st') :
    awpS Try.prog F (.loop s40L0) Q st := by
  obtain ⟨hd1, hd2, hd3, hd4, hd5⟩ := mayB_of hd
  obtain ⟨kv, ki, hvi⟩ := kv
  unfold boxDisk at kb
  refine loop_n (fun n st' => ∃ (j : Nat) (safe : List (List UInt8)), j ≤ d.wait.length ∧ n = d.wait.length - j ∧ safe.length = d.safe.length ∧ st'.s 3 = .c (.pt v 0 0) ∧ st'.s 2 = .c (.pt b4 0 0) ∧ st'.s 1 = .c (.pt b 0 0) ∧
    st'.H i = .arr 9 1 false (rowsE safe) ∧ st'.s 4 = .c (.raw (.int .i64 j)) ∧ ExtH [i] st.H st.T st'.H st'.T ∧
    syncGo safe (d.wait.drop j) = syncGo d.safe d.wait) d.wait.length ⟨0, d.safe, by simp -implicitDefEqProofs [k4, k3, k2, k1, ki, ExtH.refl hf]⟩ ?_
  rintro n st' ⟨j, safe, hj, rfl, hl, k3, k2, k1, ki, k4, he, hc⟩
  have hf' := he.fresh
  have kv := he.arr kv (by simpa using hvi)
  have kb := he.arr kb (by simpa using hib)
  obtain ⟨f7, f8, f9⟩ := hf'.arr ki
  by_cases hlt : j < d.wait.length
  · have e2 : IntKind.wrap .i64 ((j : Int) + 1) = ((j + 1 : Nat) : Int) := by rw [wrap64_id] <;> omega
    obtain ⟨w1, w2, w3⟩ := hd5 d.wait[j] (List.getElem_mem hlt)
    have w4 : d.wait[j].at_.toNat < safe.length := by omega
    rw [List.drop_eq_getElem_cons hlt, syncGo] at hc
    simp -implicitDefEqProofs [s40L0, k4, k3, k2, k1, kv, ki, kb, hlt, e2, w2, w3, w4]
    refine ⟨d.wait.length - (j + 1), by omega, j + 1, by omega, rfl, _, by rw [List.length_set, hl], rowsE_set'.symm, rfl, ?_, hc⟩
    repeat' (first | exact he.tick (by first | omega | (simp <;> omega)) | (refine ExtH.new ?_ (by first | omega | (simp <;> omega)) (by first | omega | (simp <;> omega))) | (refine ExtH.set ?_ (by simp) (by first | omega | (simp <;> omega))))
  · have : j = d.wait.length := by omega
    subst this
    simp -implicitDefEqProofs [s40L0, k4, k3, k2, k1, kv, ki, kb, hlt]
    rw [List.drop_length, syncGo] at hc
    exact hn _ (by simp -implicitDefEqProofs [k3]) (by simp -implicitDefEqProofs [k2]) (by rw [← hc]; simpa using ki) (he.tick (by simp -implicitDefEqProofs))

theorem syncGo_length : ∀ (l : List Sect) (safe : List (List UInt8)), (syncGo safe l).length = safe.length
  | [], _ => rfl
  | w :: r, safe => by rw [syncGo, syncGo_length, List.length_set]

theorem refSync_ev (d : DiskV) (hm : mayB d = true) : PEv Try.prog 40 [Arg.enc d] (.g (diskNw ⟨syncGo d.safe d.wait, []⟩)) := by
  obtain ⟨hd1, hd2, hd3, hd4, hd5⟩ := mayB_of hm
  have h1 : d.safe.length < 1000000 := by omega
  refine tells_of mixed F4_ok Try.func40 sl40 ok40 (by kernel_rfl) (by simp [diskNw]) (by simp) ?_
  simp -implicitDefEqProofs [s40, h1]
  refine refSync_l0 d hm (0, 1) (1, 3) (1, 8192) (0, 2) (by simp -implicitDefEqProofs) (by simp -implicitDefEqProofs) (by simp -implicitDefEqProofs) (by simp -implicitDefEqProofs [boxDisk]) (by simp -implicitDefEqProofs) ⟨by simp -implicitDefEqProofs, by simp -implicitDefEqProofs, by simp -implicitDefEqProofs⟩ (by simp -implicitDefEqProofs) (by (simp; repeat' (first | exact fresh_no.mono (Nat.zero_le _) | (refine Fresh.set' ?_ (by simp))))) ?_
  intro st' k3 k2 ki he
  have kv := he.1 (1, 3)
  have k4' := he.1 (0, 2)
  simp -implicitDefEqProofs at kv k4'
  simp -implicitDefEqProofs [k3, k2, kv, k4', ki, syncGo_length, diskNw]

end Go.AE

/- slices.Repeat of one element, and what it stands on. -/
set_option linter.unusedVariables false
set_option linter.unusedSimpArgs false
set_option maxHeartbeats 2000000
namespace Go.AE
open Go Go.Proofs

theorem and_mask32 {n : Int} (h0 : 0 ≤ n) (h1 : n < 4294967296) : (((n % 2 ^ IntKind.u64.bits).toNat &&& 4294967295 % 2 ^ IntKind.u64.bits : Nat) : Int) = n := by
  obtain ⟨k, rfl⟩ := Int.eq_ofNat_of_zero_le h0
  have e : ((k : Int) % 2 ^ IntKind.u64.bits).toNat = k := by
    show ((k : Int) % 18446744073709551616).toNat = k
    omega
  have e2 : (4294967295 % 2 ^ IntKind.u64.bits : Nat) = 2 ^ 32 - 1 := rfl
  rw [e, e2, Nat.and_two_pow_sub_one_eq_mod]
  omega

theorem pow32 : (2 : Int) ^ min 32 IntKind.u64.bits = 4294967296 := rfl

theorem mul64_ev {F : CT} (hF : CTok Try.prog F) (a b : Int) (ha0 : 0 ≤ a) (ha : a < 4294967296) (hb0 : 0 ≤ b) (hb : b < 4294967296) (hm : a * b < 4294967296) :
    PEv Try.prog 56 [.c (.raw (.int .u64 a)), .c (.raw (.int .u64 b))] (.t [(false, [.raw (.int .u64 0)]), (false, [.raw (.int .u64 (a * b))])]) := by
  refine tells_of mixed hF Try.func56 sl56 ok56 (by kernel_rfl) (by simp) (by simp) ?_
  have hm0 : 0 ≤ a * b := Int.mul_nonneg ha0 hb0
  have e1 : a.fdiv 4294967296 = 0 := by rw [Int.fdiv_eq_ediv_of_nonneg _ (by omega)]; exact Int.ediv_eq_zero_of_lt ha0 (by omega)
  have e2 : b.fdiv 4294967296 = 0 := by rw [Int.fdiv_eq_ediv_of_nonneg _ (by omega)]; exact Int.ediv_eq_zero_of_lt hb0 (by omega)
  have e3 : (a * b).fdiv 4294967296 = 0 := by rw [Int.fdiv_eq_ediv_of_nonneg _ (by omega)]; exact Int.ediv_eq_zero_of_lt hm0 (by omega)
  have m1 := and_mask32 ha0 (by omega)
  have m2 := and_mask32 hb0 (by omega)
  have w1 : IntKind.wrap .u64 a = a := wrapU_id ha0 (by omega)
  have w2 : IntKind.wrap .u64 b = b := wrapU_id hb0 (by omega)
  have w3 : IntKind.wrap .u64 (a * b) = a * b := wrapU_id hm0 (by omega)
  have w0 : IntKind.wrap .u64 0 = 0 := wrapU_id (by omega) (by omega)
  have m0 := and_mask32 (n := 0) (by omega) (by omega)
  simp -implicitDefEqProofs [s56, pow32, m1, m2, m0, w1, w2, w3, w0, e1, e2, e3]

theorem mul_ev (a b : Int) (ha0 : 0 ≤ a) (ha : a < 4294967296) (hb0 : 0 ≤ b) (hb : b < 4294967296) (hm : a * b < 4294967296) :
    PEv Try.prog 51 [.c (.raw (.int .u64 a)), .c (.raw (.int .u64 b))] (.t [(false, [.raw (.int .u64 0)]), (false, [.raw (.int .u64 (a * b))])]) := by
  refine tells_of mixed F4_ok Try.func51 sl51 ok51 (by kernel_rfl) (by simp) (by simp) ?_
  simp -implicitDefEqProofs [s51]
  refine acall_pure (mul64_ev F4_ok a b ha0 ha hb0 hb hm) (by simp -implicitDefEqProofs) (by simp -implicitDefEqProofs) (by simp -implicitDefEqProofs) ?_
  simp -implicitDefEqProofs

section
variable {α : Type} [Enc α]
theorem rep_take (j k : Nat) (a : α) (z : List AC) : (rowsE (List.replicate j a) ++ List.replicate k z).take j = rowsE (List.replicate j a) := by
  rw [List.take_append_of_le_length (by simp -implicitDefEqProofs)]
  rw [List.take_of_length_le (by simp -implicitDefEqProofs)]
end

/-- slices.Repeat of one element: its rows. -/
theorem repI_l0 {F : CT} (a : Int) (n : Nat) {Q : AEx → St → Prop} {st : St} (id : Id) (hn1 : 1 ≤ n) (hn2 : n < 1000000) (k7 : st.s 7 = .c (.so id 0 n)) (k8 : st.s 8 = .c (.raw (.int .i64 1)))
    (kid : st.H id = .arr 3 1 false (rowsE [a] ++ List.replicate (n - 1) [.raw (.int .i64 0)])) (hn : ∀ st', st'.s 7 = .c (.so id 0 n) → st'.H id = .arr 3 1 false (rowsE (List.replicate n a)) → Q (.exit 0) st') :
    awpS Try.prog F (.loop s30L0) Q st := by
  refine loop_n (fun m st => ∃ j : Nat, 1 ≤ j ∧ j ≤ n ∧ m = n - j ∧ st.s 7 = .c (.so id 0 n) ∧ st.s 8 = .c (.raw (.int .i64 j)) ∧ st.H id = .arr 3 1 false (rowsE (List.replicate j a) ++ List.replicate (n - j) [.raw (.int .i64 0)])) (n - 1)
    ⟨1, by omega, by omega, rfl, k7, by simpa using k8, by simpa using kid⟩ ?_
  rintro m st ⟨j, h1, h2, rfl, k7, k8, kid⟩
  by_cases hlt : j < n
  · have e1 : IntKind.wrap .i64 ((j : Int) + ((min (n - j) j : Nat) : Int)) = ((j + min (n - j) j : Nat) : Int) := by rw [wrap64_id] <;> omega
    simp -implicitDefEqProofs [s30L0, k7, k8, kid, hlt]
    refine ⟨h2, n - (j + min (n - j) j), by omega, j + min (n - j) j, by omega, by omega, rfl, e1, ?_⟩
    have t1 : List.take (n - j) (rowsE (List.replicate j a)) = rowsE (List.replicate (min (n - j) j) a) := by rw [rowsE_take, List.take_replicate]
    have t2 : List.drop (j + min (n - j) j) (rowsE (List.replicate j a) ++ List.replicate (n - j) [AC.raw (Value.int IntKind.i64 0)]) = List.replicate (n - (j + min (n - j) j)) [AC.raw (Value.int IntKind.i64 0)] := by
      rw [List.drop_append, List.drop_eq_nil_of_le (by simp -implicitDefEqProofs), List.nil_append, List.drop_replicate]
      congr 1; simp -implicitDefEqProofs; omega
    rw [t1, t2, ← List.append_assoc, ← rowsE_append, List.replicate_append_replicate]
  · have : j = n := by omega
    subst this
    simp -implicitDefEqProofs [s30L0, k7, k8, kid, hlt]
    exact hn _ (by simp -implicitDefEqProofs [k7]) (by simpa using kid)

theorem repI_ev (a : Int) (n : Int) (h0 : 0 ≤ n) (h1 : n < 1000000) :
    PEv Try.prog 30 [.c (.sl .brw false (rowsE [a])), .c (.raw (.int .i64 n))] (.c (.nw 3 1 (rowsE (List.replicate n.toNat a)))) := by
  refine tells_of mixed F4_ok Try.func30 sl30 ok30 (by kernel_rfl) (by simp) (by simp) ?_
  have w1 : IntKind.wrap .u64 1 = 1 := wrapU_id (by omega) (by omega)
  have w2 : IntKind.wrap .u64 n = n := wrapU_id h0 (by omega)
  have w3 : IntKind.wrap .i64 n = n := wrap64_id (by omega) (by omega)
  have n0 : ¬ n < 0 := by omega
  simp -implicitDefEqProofs [s30, n0, w1, w2]
  refine acall_pure (mul_ev 1 n (by omega) (by omega) h0 (by omega) (by omega)) (by simp -implicitDefEqProofs) (by simp -implicitDefEqProofs) (by simp -implicitDefEqProofs) ?_
  simp -implicitDefEqProofs [n0, w1, w2, w3, show n ≤ 9223372036854775807 by omega, show ¬ 9223372036854775807 < n by omega, h0]
  by_cases hz : n = 0
  · subst hz
    simp -implicitDefEqProofs
    refine loop_n (fun m st => st.s 7 = .c (.so (4, 30) 0 0) ∧ st.s 8 = .c (.raw (.int .i64 0)) ∧ st.H (4, 30) = .arr 3 1 false []) 0 (by simp -implicitDefEqProofs) ?_
    rintro m st ⟨k7, k8, kH⟩
    simp -implicitDefEqProofs [s30L0, k7, k8, kH]
  · obtain ⟨k, rfl⟩ : ∃ k : Nat, n = (k : Int) := ⟨n.toNat, by omega⟩
    have hk : 1 ≤ k := by omega
    have e1 : min k 1 = 1 := by omega
    refine ⟨by omega, repI_l0 a k (4, 30) hk (by omega) (by simp -implicitDefEqProofs) (by simp -implicitDefEqProofs [e1]) ?_ ?_⟩
    · simp -implicitDefEqProofs [e1]
      rw [List.take_of_length_le (by simp -implicitDefEqProofs; omega)]
    · intro st' k7 kH
      simp -implicitDefEqProofs [k7, kH]
/-- slices.Repeat of one text. -/
theorem repS_l0 {F : CT} (a : List UInt8) (n : Nat) {Q : AEx → St → Prop} {st : St} (id : Id) (hn1 : 1 ≤ n) (hn2 : n < 1000000) (k7 : st.s 7 = .c (.so id 0 n)) (k8 : st.s 8 = .c (.raw (.int .i64 1)))
    (kid : st.H id = .arr 9 1 false (rowsE [a] ++ List.replicate (n - 1) [.str []])) (hn : ∀ st', st'.s 7 = .c (.so id 0 n) → st'.H id = .arr 9 1 false (rowsE (List.replicate n a)) → Q (.exit 0) st') :
    awpS Try.prog F (.loop s36L0) Q st := by
  refine loop_n (fun m st => ∃ j : Nat, 1 ≤ j ∧ j ≤ n ∧ m = n - j ∧ st.s 7 = .c (.so id 0 n) ∧ st.s 8 = .c (.raw (.int .i64 j)) ∧ st.H id = .arr 9 1 false (rowsE (List.replicate j a) ++ List.replicate (n - j) [.str []])) (n - 1)
    ⟨1, by omega, by omega, rfl, k7, by simpa using k8, by simpa using kid⟩ ?_
  rintro m st ⟨j, h1, h2, rfl, k7, k8, kid⟩
  by_cases hlt : j < n
  · have e1 : IntKind.wrap .i64 ((j : Int) + ((min (n - j) j : Nat) : Int)) = ((j + min (n - j) j : Nat) : Int) := by rw [wrap64_id] <;> omega
    simp -implicitDefEqProofs [s36L0, k7, k8, kid, hlt]
    refine ⟨h2, n - (j + min (n - j) j), by omega, j + min (n - j) j, by omega, by omega, rfl, e1, ?_⟩
    have t1 : List.take (n - j) (rowsE (List.replicate j a)) = rowsE (List.replicate (min (n - j) j) a) := by rw [rowsE_take, List.take_replicate]
    have t2 : List.drop (j + min (n - j) j) (rowsE (List.replicate j a) ++ List.replicate (n - j) [AC.str []]) = List.replicate (n - (j + min (n - j) j)) [AC.str []] := by
      rw [List.drop_append, List.drop_eq_nil_of_le (by simp -implicitDefEqProofs), List.nil_append, List.drop_replicate]
      congr 1; simp -implicitDefEqProofs; omega
    rw [t1, t2, ← List.append_assoc, ← rowsE_append, List.replicate_append_replicate]
  · have : j = n := by omega
    subst this
    simp -implicitDefEqProofs [s36L0, k7, k8, kid, hlt]
    exact hn _ (by simp -implicitDefEqProofs [k7]) (by simpa using kid)

theorem repS_ev (a : List UInt8) (n : Int) (h0 : 0 ≤ n) (h1 : n < 1000000) :
    PEv Try.prog 36 [.c (.sl .brw false (rowsE [a])), .c (.raw (.int .i64 n))] (.c (.nw 9 1 (rowsE (List.replicate n.toNat a)))) := by
  refine tells_of mixed F4_ok Try.func36 sl36 ok36 (by kernel_rfl) (by simp) (by simp) ?_
  have w1 : IntKind.wrap .u64 1 = 1 := wrapU_id (by omega) (by omega)
  have w2 : IntKind.wrap .u64 n = n := wrapU_id h0 (by omega)
  have w3 : IntKind.wrap .i64 n = n := wrap64_id (by omega) (by omega)
  have n0 : ¬ n < 0 := by omega
  simp -implicitDefEqProofs [s36, n0, w1, w2]
  refine acall_pure (mul_ev 1 n (by omega) (by omega) h0 (by omega) (by omega)) (by simp -implicitDefEqProofs) (by simp -implicitDefEqProofs) (by simp -implicitDefEqProofs) ?_
  simp -implicitDefEqProofs [n0, w1, w2, w3, show n ≤ 9223372036854775807 by omega, show ¬ 9223372036854775807 < n by omega, h0]
  by_cases hz : n = 0
  · subst hz
    simp -implicitDefEqProofs
    refine loop_n (fun m st => st.s 7 = .c (.so (4, 30) 0 0) ∧ st.s 8 = .c (.raw (.int .i64 0)) ∧ st.H (4, 30) = .arr 9 1 false []) 0 (by simp -implicitDefEqProofs) ?_
    rintro m st ⟨k7, k8, kH⟩
    simp -implicitDefEqProofs [s36L0, k7, k8, kH]
  · obtain ⟨k, rfl⟩ : ∃ k : Nat, n = (k : Int) := ⟨n.toNat, by omega⟩
    have hk : 1 ≤ k := by omega
    have e1 : min k 1 = 1 := by omega
    refine ⟨by omega, repS_l0 a k (4, 30) hk (by omega) (by simp -implicitDefEqProofs) (by simp -implicitDefEqProofs [e1]) ?_ ?_⟩
    · simp -implicitDefEqProofs [e1]
      rw [List.take_of_length_le (by simp -implicitDefEqProofs; omega)]
    · intro st' k7 kH
      simp -implicitDefEqProofs [k7, kH]

end Go.AE

/- The abstract machine: contracts of the kit's own form as contracts of plain values. -/
set_option linter.unusedVariables false
set_option linter.unusedSimpArgs false
namespace Go.AE
open Go

variable {P : Program}

/-- A function that hands back a text, and turns nothing that was there. -/
theorem pev_str {f : FuncId} {args : List AV} {l : List UInt8} (hok : okCall P f = true) (ha : ∀ x ∈ args, ∀ c ∈ x.flat, VOK c)
    (h : ∀ (w : World) (F : Tag → Nat → Prop) (vs : Array Value), vs.size = args.length → (∀ (k : Nat) x, args[k]? = some x → RelV w F noHeap noLies x (vs.getD k undef)) →
      Calls P f vs w fun e w' => e = .returned (.string ⟨l.toArray⟩) ∧ RowKit.Below w.heap.size w w') : PEv P f args (.c (.str l)) := by
  refine ⟨⟨hok, by simp, ha⟩, fun w G vs hsz hargs nm inj => ?_⟩
  refine (h w _ vs hsz hargs).mono ?_
  rintro e w' ⟨rfl, hb⟩
  refine ⟨_, rfl, noLies, ⟨hb, (fun id e sz f rows hid => by cases hid), (fun id id' e sz rows e' sz' f' rows' b c s c' s' hid => by cases hid)⟩, ?_⟩
  exact .c _ _ (.str l)

theorem vs2 {vs : Array Value} {a b : Value} (hs : vs.size = 2) (h0 : vs.getD 0 undef = a) (h1 : vs.getD 1 undef = b) : vs = #[a, b] := by
  obtain ⟨l⟩ := vs
  match l, hs with
  | [x, y], _ => simp [Array.getD] at h0 h1; rw [h0, h1]
theorem vs1 {vs : Array Value} {a : Value} (hs : vs.size = 1) (h0 : vs.getD 0 undef = a) : vs = #[a] := by
  obtain ⟨l⟩ := vs
  match l, hs with
  | [x], _ => simp [Array.getD] at h0; rw [h0]

end Go.AE

/- What the library has proved of Go's own functions, at this program's numbers. Printed by a program of this session. -/
namespace Go.AE
open Go Go.Proofs Go.Shelf

def lays105_ren : Go.Shelf.Ren := ⟨fun | 105 => 52 | 212 => 51 | 99 => 57 | 165 => 58 | 166 => 59 | 170 => 60 | 169 => 61 | 263 => 55 | 264 => 56 | 206 => 62 | 240 => 63 | 241 => 64 | 276 => 65 | 277 => 66 | n => n, fun | 9 => 9 | 3 => 3 | 4 => 4 | 20 => 20 | 0 => 0 | 46 => 60 | 109 => 77 | 5 => 5 | 72 => 91 | 76 => 95 | 51 => 82 | 146 => 83 | 53 => 85 | 148 => 86 | 70 => 89 | 37 => 31 | 75 => 94 | 127 => 98 | 164 => 99 | 80 => 54 | n => n, fun  | n => n⟩
theorem lays105 : Lays.n105 Try.prog lays105_ren where
  mixed := by kernel_rfl
  f99 := Try.func57.trans (congrArg some (by kernel_rfl))
  f105 := Try.func52.trans (congrArg some (by kernel_rfl))
  f165 := Try.func58.trans (congrArg some (by kernel_rfl))
  f166 := Try.func59.trans (congrArg some (by kernel_rfl))
  f169 := Try.func61.trans (congrArg some (by kernel_rfl))
  f170 := Try.func60.trans (congrArg some (by kernel_rfl))
  f206 := Try.func62.trans (congrArg some (by kernel_rfl))
  f212 := Try.func51.trans (congrArg some (by kernel_rfl))
  f240 := Try.func63.trans (congrArg some (by kernel_rfl))
  f241 := Try.func64.trans (congrArg some (by kernel_rfl))
  f263 := Try.func55.trans (congrArg some (by kernel_rfl))
  f264 := Try.func56.trans (congrArg some (by kernel_rfl))
  f276 := Try.func65.trans (congrArg some (by kernel_rfl))
  f277 := Try.func66.trans (congrArg some (by kernel_rfl))
  t0 := Try.underlying0
  a0 := Try.isAgg0
  z0 := Try.sizeOf0
  v0 := Try.zeroValue0
  t3 := Try.underlying3
  a3 := Try.isAgg3
  z3 := Try.sizeOf3
  v3 := Try.zeroValue3
  t4 := Try.underlying4
  a4 := Try.isAgg4
  z4 := Try.sizeOf4
  v4 := Try.zeroValue4
  t5 := Try.underlying5
  a5 := Try.isAgg5
  z5 := Try.sizeOf5
  v5 := Try.zeroValue5
  t9 := Try.underlying9
  a9 := Try.isAgg9
  z9 := Try.sizeOf9
  v9 := Try.zeroValue9
  t20 := Try.underlying20
  a20 := Try.isAgg20
  z20 := Try.sizeOf20
  v20 := Try.zeroValue20
  t37 := Try.underlying31
  a37 := Try.isAgg31
  z37 := Try.sizeOf31
  v37 := Try.zeroValue31
  t46 := Try.underlying60
  a46 := Try.isAgg60
  z46 := Try.sizeOf60
  v46 := Try.zeroValue60
  t51 := Try.underlying82
  a51 := Try.isAgg82
  z51 := Try.sizeOf82
  v51 := Try.zeroValue82
  t53 := Try.underlying85
  a53 := Try.isAgg85
  z53 := Try.sizeOf85
  v53 := Try.zeroValue85
  t70 := Try.underlying89
  a70 := Try.isAgg89
  z70 := Try.sizeOf89
  v70 := Try.zeroValue89
  t72 := Try.underlying91
  a72 := Try.isAgg91
  z72 := Try.sizeOf91
  v72 := Try.zeroValue91
  t75 := Try.underlying94
  a75 := Try.isAgg94
  z75 := Try.sizeOf94
  v75 := Try.zeroValue94
  t76 := Try.underlying95
  a76 := Try.isAgg95
  z76 := Try.sizeOf95
  v76 := Try.zeroValue95
  t109 := Try.underlying77
  a109 := Try.isAgg77
  z109 := Try.sizeOf77
  v109 := Try.zeroValue77
  t127 := Try.underlying98
  a127 := Try.isAgg98
  z127 := Try.sizeOf98
  v127 := Try.zeroValue98
  t146 := Try.underlying83
  a146 := Try.isAgg83
  z146 := Try.sizeOf83
  v146 := Try.zeroValue83
  t148 := Try.underlying86
  a148 := Try.isAgg86
  z148 := Try.sizeOf86
  v148 := Try.zeroValue86
  t164 := Try.underlying99
  a164 := Try.isAgg99
  z164 := Try.sizeOf99
  v164 := Try.zeroValue99
theorem lays105X : Builder.Extra Try.prog lays105_ren where
  sizeBuilder := by kernel_rfl
  liesBuilder := by kernel_rfl
  t5 := Try.underlying5
  a5 := Try.isAgg5
  z5 := Try.sizeOf5
  v5 := Try.zeroValue5
  infoByte := by kernel_rfl
  cellsByte := by kernel_rfl
  sizeByte := by kernel_rfl
  neB5 := by decide

end Go.AE

set_option linter.unusedVariables false
set_option linter.unusedSimpArgs false
set_option maxHeartbeats 2000000
namespace Go.AE
open Go Go.Proofs

theorem repeat_ev (s : List UInt8) (n : Nat) (h : s.length * n ≤ 140737488355328) (hn : n ≤ 1000000) : PEv Try.prog 52 [.c (.str s), .c (.raw (.int .i64 n))] (.c (.str (Lib.repeatL s n))) := by
  refine pev_str (by kernel_rfl) (by simp -implicitDefEqProofs) fun w F vs hs hr => ?_
  have h0 := relC_str (relV_c (hr 0 _ rfl))
  have h1 := relC_raw (relV_c (hr 1 _ rfl))
  rw [vs2 hs h0 h1]
  exact Any.strings_Repeat lays105 lays105X ⟨s.toArray⟩ n w (by omega) (by simpa [ByteArray.size] using h)

theorem blank37_ev : PEv Try.prog 37 [] (.c (.str blank)) := by
  refine tells_of mixed F4_ok Try.func37 sl37 ok37 (by kernel_rfl) (by simp) (by simp) ?_
  simp -implicitDefEqProofs [s37]
  refine acall_pure (repeat_ev [0] 32 (by simp -implicitDefEqProofs) (by omega)) (by simp -implicitDefEqProofs) (by simp -implicitDefEqProofs) (by simp -implicitDefEqProofs) ?_
  simp -implicitDefEqProofs [blank]
  decide

end Go.AE
