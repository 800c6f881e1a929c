/- The functions' code without its remarks. Printed by a program of this session. -/
import Derived.Test.YtiabgbigoiiglaaDsk2
import Derived.Test.YtiabgbigoiiglaaProg
import Derived.KernelRfl

set_option linter.unusedVariables false
set_option linter.unusedSimpArgs false
namespace Go.AE
open Go

variable {P : Program}

structure SO where
  dst : Option Nat
  op : Op
  g : Option (Option Nat × Bool)

inductive SC where
  | skip
  | region (id : Nat) (ops : List SO) (draw : Bool)
  | seq (x y : SC)
  | cond (c : Operand) (x y : SC)
  | block (id : Nat) (x : SC)
  | loop (x : SC)
  | exit (id : Nat)
  | ret
  | no

def slimOps (ops : Array Oper) (l : List Oper) : List SO := l.map fun o => ⟨o.dst, o.op, o.guard.map fun q => (gslot ops q.1, q.2)⟩

def slim : Code → SC
  | .skip => .skip
  | .region id ops draw => .region id (slimOps ops ops.toList) draw
  | .seq x y => .seq (slim x) (slim y)
  | .cond c x y => .cond c (slim x) (slim y)
  | .block id x => .block id (slim x)
  | .loop x => .loop (slim x)
  | .exit id => .exit id
  | .ret => .ret
  | _ => .no

/-- What functions tell: a condition, the result. -/
abbrev CT := List (FuncId × (List AV → Option (Prop × AV)))

def ctGet : CT → FuncId → Option (List AV → Option (Prop × AV))
  | [], _ => none
  | (g, h) :: r, f => if f = g then some h else ctGet r f

def Tells (P : Program) (f : FuncId) (h : List AV → Option (Prop × AV)) : Prop := ∀ args C ret, h args = some (C, ret) → C → PEv P f args ret

def CTok (P : Program) : CT → Prop
  | [] => True
  | (f, h) :: r => Tells P f h ∧ CTok P r

theorem ctGet_ok : ∀ {F : CT} {f : FuncId} {h}, CTok P F → ctGet F f = some h → Tells P f h
  | [], _, _, _, h => by simp [ctGet] at h
  | (g, h') :: r, f, h, hF, hg => by
    unfold ctGet at hg
    split at hg
    · rename_i e; subst e; cases hg; exact hF.1
    · exact ctGet_ok hF.2 hg

def CallS (P : Program) (F : CT) (dr : Bool) (st : St) (dst : Option Nat) (f : FuncId) (args : List AV) (K : St → Prop) : Prop :=
  match ctGet F f with
  | some h => match viewA st.H args with
    | some args' => match h args' with
      | some (C, ret) => C ∧ adUn (nmOf st dst) st.H 0 ret.flat ∧ (dr = true → ret.flat.length ≤ 1024 ∧ dst.isSome = true) ∧ K (adopt st dst ret)
      | none => False
    | none => False
  | none => ACall P dr st dst f args K

/-- The constant nil of slices. -/
def isNilC : Operand → Bool
  | .const (.slice none 0 0) => true
  | _ => false

def stepS (P : Program) (F : CT) (dr : Bool) (dst : Option Nat) (op : Op) (st : St) (K : St → Prop) : Prop :=
  match op with
  | .call c =>
    match c.callee with
    | .builtin b => abi P dst b c.args.toList c.argTypes.toList st K
    | .value f => match st.eval f with
      | .c (.fn g caps) => CallS P F dr st dst g (c.args.toList.map st.eval ++ caps.map .c) K
      | _ => False
    | .invoke _ _ => False
  | .binOp op t x y t' => if isNilC y = true then dr = false ∧ aNil P dst op t (st.eval x) (st.eval y) st K else aop P dst (.binOp op t x y t') st K
  | op => aop P dst op st K

def opsS (P : Program) (F : CT) (dr : Bool) : List SO → (St → Prop) → St → Prop
  | [], K, st => K st
  | o :: rest, K, st =>
    match o.g with
    | none => stepS P F dr o.dst o.op st (opsS P F dr rest K)
    | some (gs, want) => agd gs want st (fun st => stepS P F dr o.dst o.op st (opsS P F dr rest K)) (fun st => opsS P F dr rest K (st.put o.dst (.c (.raw undef))))

def St.tick (st : St) : St := { st with T := st.T + 1 }

def awpS (P : Program) (F : CT) : SC → (AEx → St → Prop) → St → Prop
  | .skip, Q, st => Q .normal st
  | .region _ ops draw, Q, st => opsS P F draw ops (fun st => Q .normal st.tick) st
  | .seq x y, Q, st => awpS P F x (athen (awpS P F y Q) Q) st
  | .cond c x y, Q, st =>
    match st.eval c with
    | .c (.raw (.bool b)) => (b = true → awpS P F x Q st) ∧ (b = false → awpS P F y Q st)
    | _ => False
  | .block id x, Q, st => awpS P F x (ablock id Q) st
  | .loop x, Q, st => ∃ (I : St → Prop) (μ : St → Nat), I st ∧ ∀ st', I st' → awpS P F x (athen (fun st'' => I st'' ∧ μ st'' < μ st') Q) st'
  | .exit id, Q, st => Q (.exit id) st
  | .ret, Q, st => Q .ret st
  | .no, _, _ => False

theorem callS_sound {F : CT} (hF : CTok P F) {dr : Bool} {st : St} {dst : Option Nat} {f : FuncId} {args : List AV} {K : St → Prop} (h : CallS P F dr st dst f args K) : ACall P dr st dst f args K := by
  unfold CallS at h
  split at h
  · rename_i g hg
    split at h
    · rename_i args' ha
      split at h
      · rename_i D ret hr
        obtain ⟨h1, h2, h3, h4⟩ := h
        exact .inl ⟨false, args', ret, ha, ctGet_ok hF hg args' D ret hr h1, h2, h3, h4⟩
      · exact h.elim
    · exact h.elim
  · exact h

theorem acall_mono {dr : Bool} {st : St} {dst : Option Nat} {f : FuncId} {args : List AV} {K K' : St → Prop} (hk : ∀ st, K st → K' st) (h : ACall P dr st dst f args K) : ACall P dr st dst f args K' := by
  rcases h with ⟨m, args', ret, h1, h2, h3, h4, h5⟩ | ⟨h1, h2, h3⟩
  · exact .inl ⟨m, args', ret, h1, h2, h3, h4, hk _ h5⟩
  · refine .inr ⟨h1, h2, fun C ρ a w vs hr hs hv => Calls.mono (h3 C ρ a w vs hr hs hv) fun e w' ⟨v, e1, ρ', ret, H', T', q1, q2, q3⟩ => ⟨v, e1, ρ', ret, H', T', q1, q2, hk _ q3⟩⟩

theorem stepS_sound {F : CT} (hF : CTok P F) {dr : Bool} {dst : Option Nat} {op : Op} {st : St} {K : St → Prop} (h : stepS P F dr dst op st K) : astep P dr dst op st K := by
  cases op with
  | call c =>
    simp only [stepS] at h
    simp only [astep]
    split
    · rename_i b hb
      rw [hb] at h
      exact h
    · rename_i f hf
      rw [hf] at h
      simp only at h
      split at h
      · rename_i g caps hfe
        rw [hfe]
        exact callS_sound hF h
      · exact h.elim
    · rename_i r m hr
      rw [hr] at h
      exact h.elim
  | binOp op t x y t' =>
    simp only [stepS] at h
    simp only [astep]
    split at h
    · exact .inr h
    · exact .inl h
  | _ => exact h

theorem newObj_mono {st : St} {dst : Option Nat} {e sz : Nat} {rows : List (List AC)} {v : Id → AC} {K K' : St → Prop} (hk : ∀ st, K st → K' st) (h : newObj st dst e sz rows v K) : newObj st dst e sz rows v K' := by
  cases dst with
  | none => exact h
  | some d => exact ⟨h.1, hk _ h.2⟩

theorem agd_mono {gs : Option Nat} {want : Bool} {st : St} {y n y' n' : St → Prop} (hy : ∀ st, y st → y' st) (hn : ∀ st, n st → n' st) (h : agd gs want st y n) : agd gs want st y' n' := by
  unfold agd at *
  split at h
  · split at h
    · exact ⟨fun e => hy _ (h.1 e), fun e => hn _ (h.2 e)⟩
    · exact hn _ h
    · exact h
  · exact h

theorem aop_mono {dst : Option Nat} {op : Op} {st : St} {K K' : St → Prop} (hk : ∀ st, K st → K' st) (h : aop P dst op st K) : aop P dst op st K' := by
  cases op
  case unOp o t x =>
    cases o <;> simp only [aop] at h ⊢
    repeat' split at h
    all_goals first
      | exact hk _ h
      | exact h.elim
  case makeFunc f a b =>
    cases f <;> simp only [aop] at h ⊢
    repeat' split at h
    all_goals first
      | exact ⟨h.1, hk _ h.2⟩
      | exact h.elim
  all_goals simp only [aop] at h ⊢
  all_goals repeat' split at h
  all_goals first
    | exact hk _ h
    | exact h.elim
    | exact ⟨fun e => hk _ (h.1 e), fun e => hk _ (h.2 e)⟩
    | exact ⟨h.1, hk _ h.2⟩
    | exact ⟨h.1, newObj_mono hk h.2⟩
    | exact ⟨h.1, h.2.1, newObj_mono hk h.2.2⟩
    | exact ⟨h.1, h.2.1, hk _ h.2.2⟩

theorem abi_mono {dst : Option Nat} {b : Builtin} {args : List Operand} {ts : List TypeId} {st : St} {K K' : St → Prop} (hk : ∀ st, K st → K' st) (h : abi P dst b args ts st K) : abi P dst b args ts st K' := by
  unfold abi at h
  split at h
  · simp only [abi]
    split at h <;> first | exact ⟨h.1, hk _ h.2⟩ | exact h.elim
  · simp only [abi]
    split at h <;> first | exact ⟨h.1, hk _ h.2⟩ | exact h.elim
  · simp only [abi]
    split at h
    · exact ⟨h.1, newObj_mono hk h.2⟩
    · exact ⟨h.1, newObj_mono hk h.2⟩
    · split at h
      · exact ⟨h.1, newObj_mono hk h.2⟩
      · exact h.elim
    · exact h.elim
  · simp only [abi]
    split at h
    · split at h
      · exact ⟨h.1, hk _ h.2⟩
      · exact h.elim
    · exact h.elim
  · exact h.elim

theorem aNil_mono {dst : Option Nat} {op : BinOp} {t : TypeId} {x y : AV} {st : St} {K K' : St → Prop} (hk : ∀ st, K st → K' st) (h : aNil P dst op t x y st K) : aNil P dst op t x y st K' := by
  unfold aNil at *
  split at h
  · exact ⟨h.1, fun e => hk _ (h.2.1 e), hk _ h.2.2⟩
  · exact ⟨h.1, fun e => hk _ (h.2.1 e), hk _ h.2.2⟩
  · exact h

theorem astep_mono {dr : Bool} {dst : Option Nat} {op : Op} {st : St} {K K' : St → Prop} (hk : ∀ st, K st → K' st) (h : astep P dr dst op st K) : astep P dr dst op st K' := by
  cases op
  case call c =>
    simp only [astep] at h ⊢
    split at h
    · exact abi_mono hk h
    · split at h
      · exact acall_mono hk h
      · exact h.elim
    · exact h.elim
  case binOp op t x y t' =>
    simp only [astep] at h ⊢
    exact h.imp (aop_mono hk) fun q => ⟨q.1, aNil_mono hk q.2⟩
  all_goals (simp only [astep] at h ⊢; exact aop_mono hk h)

theorem opsS_sound {F : CT} (hF : CTok P F) {dr : Bool} {ops : Array Oper} : ∀ {l : List Oper} {K : St → Prop} {st : St}, opsS P F dr (slimOps ops l) K st → awpOps P dr ops l K st
  | [], K, st, h => h
  | o :: l, K, st, h => by
    unfold slimOps at h
    rw [List.map_cons] at h
    unfold opsS at h
    unfold awpOps
    simp only at h
    cases hg : o.guard with
    | none =>
      rw [hg] at h
      exact astep_mono (fun st h => opsS_sound hF h) (stepS_sound hF h)
    | some q =>
      obtain ⟨j, want⟩ := q
      rw [hg] at h
      exact agd_mono (fun st h => astep_mono (fun st h => opsS_sound hF h) (stepS_sound hF h)) (fun st h => opsS_sound hF h) h

theorem awpOps_mono {dr : Bool} {ops : Array Oper} : ∀ {l : List Oper} {K K' : St → Prop} {st : St}, (∀ st, K st → K' st) → awpOps P dr ops l K st → awpOps P dr ops l K' st
  | [], K, K', st, hk, h => hk _ h
  | o :: l, K, K', st, hk, h => by
    unfold awpOps at h ⊢
    split at h
    · exact astep_mono (fun st h => awpOps_mono hk h) h
    · exact agd_mono (fun st h => astep_mono (fun st h => awpOps_mono hk h) h) (fun st h => awpOps_mono hk h) h

theorem awp_mono : ∀ {c : Code} {Q Q' : AEx → St → Prop} {st : St}, (∀ e st, Q e st → Q' e st) → awp P c Q st → awp P c Q' st
  | .skip, Q, Q', st, hq, h => hq _ _ h
  | .region id ops d, Q, Q', st, hq, h => awpOps_mono (fun st h => hq _ _ h) h
  | .seq x y, Q, Q', st, hq, h => awp_mono (c := x) (fun e st h => by cases e <;> first | exact awp_mono (c := y) hq h | exact hq _ _ h) h
  | .cond c x y, Q, Q', st, hq, h => by
    unfold awp at h ⊢
    split at h
    · exact ⟨fun e => awp_mono (c := x) hq (h.1 e), fun e => awp_mono (c := y) hq (h.2 e)⟩
    · exact h
  | .block id x, Q, Q', st, hq, h => awp_mono (c := x) (fun e st h => by
      cases e with
      | exit j =>
        simp only [ablock] at h ⊢
        split
        · rename_i hj; rw [if_pos hj] at h; exact hq _ _ h
        · rename_i hj; rw [if_neg hj] at h; exact hq _ _ h
      | _ => exact hq _ _ h) h
  | .loop x, Q, Q', st, hq, h => by
    obtain ⟨I, μ, h1, h2⟩ := h
    exact ⟨I, μ, h1, fun st' hi => awp_mono (c := x) (fun e st h => by cases e <;> first | exact h | exact hq _ _ h) (h2 st' hi)⟩
  | .exit id, Q, Q', st, hq, h => hq _ _ h
  | .ret, Q, Q', st, hq, h => hq _ _ h
  | .scope _, _, _, _, _, h => h.elim

theorem awpS_sound {F : CT} (hF : CTok P F) : ∀ {c : Code} {Q : AEx → St → Prop} {st : St}, awpS P F (slim c) Q st → awp P c Q st
  | .skip, Q, st, h => h
  | .region id ops d, Q, st, h => opsS_sound hF h
  | .seq x y, Q, st, h => awp_mono (c := x) (fun e st h => by cases e <;> first | exact awpS_sound hF (c := y) h | exact h) (awpS_sound hF (c := x) h)
  | .cond c x y, Q, st, h => by
    unfold slim awpS at h
    unfold awp
    split at h
    · rename_i b hb
      rw [hb]
      exact ⟨fun e => awpS_sound hF (c := x) (h.1 e), fun e => awpS_sound hF (c := y) (h.2 e)⟩
    · exact h.elim
  | .block id x, Q, st, h => awpS_sound hF (c := x) h
  | .loop x, Q, st, h => by
    obtain ⟨I, μ, h1, h2⟩ := h
    exact ⟨I, μ, h1, fun st' hi => awpS_sound hF (c := x) (h2 st' hi)⟩
  | .exit id, Q, st, h => h
  | .ret, Q, st, h => h
  | .scope _, _, _, h => h.elim

/-- THE RULE FOR A FUNCTION. -/
theorem tells_of (hm : P.follows .mixedOrders = true) {F : CT} (hF : CTok P F) {f : FuncId} {fn : Func} {s : SC} {args : List AV} {ret : AV} (hf : P.funcs[f]? = some fn) (hs : fn.body.map slim = some s)
    (hok : fnOK calmB fn 0 = true) (hle : Nat.ble args.length fn.ntmps = true) (hret : ∀ c ∈ ret.flat, RetC c) (harg : ∀ x ∈ args, ∀ c ∈ x.flat, VOK c) (h : awpS P F s (finK P fn ret) (initS args)) : PEv P f args ret := by
  cases hb : fn.body with
  | none => rw [hb] at hs; cases hs
  | some c =>
    rw [hb] at hs
    simp only [Option.map_some, Option.some.injEq] at hs
    refine pev_of (calm_ok hm) hf hb ?_ hret harg (awpS_sound hF (by rw [hs]; exact h))
    simp only [fnOK, hb, Bool.and_eq_true] at hok ⊢
    exact ⟨hok.1, by simpa using Nat.le_of_ble_eq_true hle⟩

/-! ### How a walk goes -/

def St.hto (st : St) (H : Heap) : St := { st with H := H }

theorem ev_tmp (st : St) (k : Nat) : st.eval (.tmp k) = st.s k := rfl
theorem ev_const (st : St) (v : Value) : st.eval (.const v) = .c (ofVal v) := rfl
theorem ev_func (st : St) (f : FuncId) : st.eval (.func f) = .c (.fn f []) := rfl
theorem put_none (st : St) (v : AV) : st.put none v = st := rfl
theorem put_same (st : St) (d : Nat) (v : AV) : (st.put (some d) v).s d = v := by simp [St.put, upd]
theorem put_ne (st : St) (d k : Nat) (v : AV) (h : (k = d) = False) : (st.put (some d) v).s k = st.s k := by simp [St.put, upd, h]
theorem put_H (st : St) (d : Option Nat) (v : AV) : (st.put d v).H = st.H := by cases d <;> rfl
theorem put_T (st : St) (d : Option Nat) (v : AV) : (st.put d v).T = st.T := by cases d <;> rfl
theorem tick_s (st : St) : st.tick.s = st.s := rfl
theorem tick_H (st : St) : st.tick.H = st.H := rfl
theorem tick_T (st : St) : st.tick.T = st.T + 1 := rfl
theorem hto_s (st : St) (H : Heap) : (st.hto H).s = st.s := rfl
theorem hto_H (st : St) (H : Heap) : (st.hto H).H = H := rfl
theorem hto_T (st : St) (H : Heap) : (st.hto H).T = st.T := rfl
theorem initS_s (args : List AV) (k : Nat) : (initS args).s k = args.getD k (.c (.raw undef)) := rfl
theorem initS_H (args : List AV) : (initS args).H = noHeap := rfl
theorem initS_T (args : List AV) : (initS args).T = 0 := rfl
theorem mk_hto (st : St) (H : Heap) : St.mk st.s H st.T = st.hto H := rfl
theorem mk_hto2 (st : St) (H H' : Heap) : St.mk (st.hto H').s H (st.hto H').T = st.hto H := rfl
theorem newObj_go (st : St) (d e sz : Nat) (rows : List (List AC)) (v : Id → AC) (K : St → Prop) :
    newObj st (some d) e sz rows v K = (st.H (st.T, d) = .unborn ∧ K ((st.hto (hset st.H (st.T, d) (.arr e sz false rows))).put (some d) (.c (v (st.T, d))))) := rfl
theorem adopt_go (st : St) (dst : Option Nat) (ret : AV) : adopt st dst ret = (st.hto (adH (nmOf st dst) 0 ret.flat st.H)).put dst (ret.ad (nmOf st dst)) := rfl
theorem noHeap_go (id : Id) : noHeap id = .unborn := rfl

theorem awpS_skip {F : CT} {Q : AEx → St → Prop} {st : St} : awpS P F .skip Q st = Q .normal st := rfl
theorem awpS_reg {F : CT} {id : Nat} {ops : List SO} {d : Bool} {Q : AEx → St → Prop} {st : St} : awpS P F (.region id ops d) Q st = opsS P F d ops (fun st => Q .normal st.tick) st := rfl
theorem awpS_seq {F : CT} {x y : SC} {Q : AEx → St → Prop} {st : St} : awpS P F (.seq x y) Q st = awpS P F x (athen (awpS P F y Q) Q) st := rfl
theorem awpS_cond {F : CT} {c : Operand} {x y : SC} {Q : AEx → St → Prop} {st : St} : awpS P F (.cond c x y) Q st = (match st.eval c with
    | .c (.raw (.bool b)) => (b = true → awpS P F x Q st) ∧ (b = false → awpS P F y Q st)
    | _ => False) := rfl
theorem awpS_block {F : CT} {id : Nat} {x : SC} {Q : AEx → St → Prop} {st : St} : awpS P F (.block id x) Q st = awpS P F x (ablock id Q) st := rfl
theorem awpS_exit {F : CT} {id : Nat} {Q : AEx → St → Prop} {st : St} : awpS P F (.exit id) Q st = Q (.exit id) st := rfl
theorem awpS_ret {F : CT} {Q : AEx → St → Prop} {st : St} : awpS P F .ret Q st = Q .ret st := rfl
theorem opsS_nil {F : CT} {d : Bool} {K : St → Prop} {st : St} : opsS P F d [] K st = K st := rfl
theorem opsS_cons {F : CT} {d : Bool} {dst : Option Nat} {op : Op} {l : List SO} {K : St → Prop} {st : St} : opsS P F d (⟨dst, op, none⟩ :: l) K st = stepS P F d dst op st (opsS P F d l K) := rfl
theorem opsS_guard {F : CT} {d : Bool} {dst : Option Nat} {op : Op} {gs : Option Nat} {want : Bool} {l : List SO} {K : St → Prop} {st : St} : opsS P F d (⟨dst, op, some (gs, want)⟩ :: l) K st =
    agd gs want st (fun st => stepS P F d dst op st (opsS P F d l K)) (fun st => opsS P F d l K (st.put dst (.c (.raw undef)))) := rfl
theorem athen_n {next : St → Prop} {Q : AEx → St → Prop} {st : St} : athen next Q .normal st = next st := rfl
theorem athen_e {next : St → Prop} {Q : AEx → St → Prop} {st : St} {id : Nat} : athen next Q (.exit id) st = Q (.exit id) st := rfl
theorem athen_r {next : St → Prop} {Q : AEx → St → Prop} {st : St} : athen next Q .ret st = Q .ret st := rfl
theorem ablock_n {id : Nat} {Q : AEx → St → Prop} {st : St} : ablock id Q .normal st = Q .normal st := rfl
theorem ablock_r {id : Nat} {Q : AEx → St → Prop} {st : St} : ablock id Q .ret st = Q .ret st := rfl
theorem ablock_e {id j : Nat} {Q : AEx → St → Prop} {st : St} : ablock id Q (.exit j) st = if j = id then Q .normal st else Q (.exit j) st := rfl

theorem awpS_cg {F : CT} {c : SC} {Q : AEx → St → Prop} {st st' : St} (h : st = st') : awpS P F c Q st = awpS P F c Q st' := by rw [h]
theorem opsS_cg {F : CT} {d : Bool} {l : List SO} {K : St → Prop} {st st' : St} (h : st = st') : opsS P F d l K st = opsS P F d l K st' := by rw [h]
theorem stepS_cg {F : CT} {d : Bool} {dst : Option Nat} {op : Op} {K : St → Prop} {st st' : St} (h : st = st') : stepS P F d dst op st K = stepS P F d dst op st' K := by rw [h]
theorem aop_cg {dst : Option Nat} {op : Op} {K : St → Prop} {st st' : St} (h : st = st') : aop P dst op st K = aop P dst op st' K := by rw [h]
theorem abi_cg {dst : Option Nat} {b : Builtin} {l : List Operand} {ts : List TypeId} {K : St → Prop} {st st' : St} (h : st = st') : abi P dst b l ts st K = abi P dst b l ts st' K := by rw [h]
theorem callS_cg {F : CT} {d : Bool} {dst : Option Nat} {f : FuncId} {args args' : List AV} {K : St → Prop} {st st' : St} (h : st = st') (ha : args = args') : CallS P F d st dst f args K = CallS P F d st' dst f args' K := by rw [h, ha]
theorem acall_cg {d : Bool} {dst : Option Nat} {f : FuncId} {args args' : List AV} {K : St → Prop} {st st' : St} (h : st = st') (ha : args = args') : ACall P d st dst f args K = ACall P d st' dst f args' K := by rw [h, ha]
theorem newObj_cg {dst : Option Nat} {e sz : Nat} {rows rows' : List (List AC)} {v : Id → AC} {K : St → Prop} {st st' : St} (h : st = st') (hr : rows = rows') : newObj st dst e sz rows v K = newObj st' dst e sz rows' v K := by rw [h, hr]
theorem agd_cg {gs : Option Nat} {want : Bool} {y n : St → Prop} {st st' : St} (h : st = st') : agd gs want st y n = agd gs want st' y n := by rw [h]
theorem athen_cg {next : St → Prop} {Q : AEx → St → Prop} {e e' : AEx} {st st' : St} (h' : e = e') (h : st = st') : athen next Q e st = athen next Q e' st' := by rw [h, h']
theorem ablock_cg {id : Nat} {Q : AEx → St → Prop} {e e' : AEx} {st st' : St} (h' : e = e') (h : st = st') : ablock id Q e st = ablock id Q e' st' := by rw [h, h']

attribute [congr] awpS_cg opsS_cg stepS_cg aop_cg abi_cg callS_cg acall_cg newObj_cg agd_cg athen_cg ablock_cg
attribute [simp] ev_tmp ev_const ev_func put_none put_same put_ne put_H put_T tick_s tick_H tick_T hto_s hto_H hto_T initS_s initS_H initS_T adopt_go noHeap_go
  ctGet finK hset rdRow lay fillP rowsP
  resA flatT nmOf adL adT adH
  oldOK_raw oldOK_str oldOK_sl capsOf
attribute [simp ↓] mk_hto mk_hto2 awpS_skip awpS_reg awpS_seq awpS_block awpS_exit awpS_ret opsS_nil opsS_cons opsS_guard athen_n athen_e athen_r ablock_n ablock_r ablock_e

end Go.AE

/- The types of the program, as the abstract machine asks them. Printed by a program of this session. -/
namespace Go.AE
open Go Go.Proofs

@[simp] theorem ty0 : tyI Try.prog 0 = { ok := false, sz := 1, ag := false, bytes := 0, zero := [Value.tuple { toList := [] }], offs := [], elem := 0, kind := none, form := 0, eqs := [], bld := false } := by kernel_rfl
@[simp] theorem ty1 : tyI Try.prog 1 = { ok := true, sz := 1, ag := false, bytes := 8, zero := [Value.nilFunc], offs := [], elem := 0, kind := none, form := 0, eqs := [], bld := false } := by kernel_rfl
@[simp] theorem ty2 : tyI Try.prog 2 = { ok := true, sz := 1, ag := false, bytes := 8, zero := [Value.int IntKind.i64 (0)], offs := [], elem := 0, kind := some IntKind.i64, form := 3, eqs := [], bld := false } := by kernel_rfl
@[simp] theorem ty3 : tyI Try.prog 3 = { ok := true, sz := 1, ag := false, bytes := 8, zero := [Value.int IntKind.i64 (0)], offs := [], elem := 0, kind := some IntKind.i64, form := 3, eqs := [], bld := false } := by kernel_rfl
@[simp] theorem ty4 : tyI Try.prog 4 = { ok := true, sz := 1, ag := false, bytes := 1, zero := [Value.bool false], offs := [], elem := 0, kind := none, form := 4, eqs := [], bld := false } := by kernel_rfl
@[simp] theorem ty5 : tyI Try.prog 5 = { ok := true, sz := 1, ag := false, bytes := 1, zero := [Value.int IntKind.u8 (0)], offs := [], elem := 0, kind := some IntKind.u8, form := 3, eqs := [], bld := false } := by kernel_rfl
@[simp] theorem ty6 : tyI Try.prog 6 = { ok := true, sz := 1, ag := false, bytes := 1, zero := [Value.int IntKind.u8 (0)], offs := [], elem := 0, kind := some IntKind.u8, form := 3, eqs := [], bld := false } := by kernel_rfl
@[simp] theorem ty7 : tyI Try.prog 7 = { ok := true, sz := 4, ag := true, bytes := 24, zero := [Value.int IntKind.i64 (0), Value.int IntKind.i64 (0), Value.bool false, Value.int IntKind.u8 (0)], offs := [(0, 1, false), (1, 1, false), (2, 1, false), (3, 1, false)], elem := 0, kind := none, form := 5, eqs := [3, 3, 4, 3], bld := true } := by kernel_rfl
@[simp] theorem ty8 : tyI Try.prog 8 = { ok := true, sz := 4, ag := true, bytes := 24, zero := [Value.int IntKind.i64 (0), Value.int IntKind.i64 (0), Value.bool false, Value.int IntKind.u8 (0)], offs := [(0, 1, false), (1, 1, false), (2, 1, false), (3, 1, false)], elem := 0, kind := none, form := 5, eqs := [3, 3, 4, 3], bld := true } := by kernel_rfl
@[simp] theorem ty9 : tyI Try.prog 9 = { ok := true, sz := 1, ag := false, bytes := 16, zero := [Value.string ⟨#[]⟩], offs := [], elem := 0, kind := none, form := 1, eqs := [], bld := false } := by kernel_rfl
@[simp] theorem ty10 : tyI Try.prog 10 = { ok := true, sz := 1, ag := false, bytes := 16, zero := [Value.string ⟨#[]⟩], offs := [], elem := 0, kind := none, form := 1, eqs := [], bld := false } := by kernel_rfl
@[simp] theorem ty11 : tyI Try.prog 11 = { ok := true, sz := 1, ag := false, bytes := 16, zero := [Value.string ⟨#[]⟩], offs := [], elem := 0, kind := none, form := 1, eqs := [], bld := false } := by kernel_rfl
@[simp] theorem ty12 : tyI Try.prog 12 = { ok := true, sz := 1, ag := false, bytes := 8, zero := [Value.int IntKind.u64 (0)], offs := [], elem := 0, kind := some IntKind.u64, form := 3, eqs := [], bld := false } := by kernel_rfl
@[simp] theorem ty13 : tyI Try.prog 13 = { ok := true, sz := 2, ag := true, bytes := 24, zero := [Value.string ⟨#[]⟩, Value.int IntKind.u64 (0)], offs := [(0, 1, false), (1, 1, false)], elem := 0, kind := none, form := 5, eqs := [], bld := true } := by kernel_rfl
@[simp] theorem ty14 : tyI Try.prog 14 = { ok := true, sz := 2, ag := true, bytes := 24, zero := [Value.string ⟨#[]⟩, Value.int IntKind.u64 (0)], offs := [(0, 1, false), (1, 1, false)], elem := 0, kind := none, form := 5, eqs := [], bld := true } := by kernel_rfl
@[simp] theorem ty15 : tyI Try.prog 15 = { ok := true, sz := 1, ag := false, bytes := 8, zero := [Value.pointer none], offs := [], elem := 0, kind := none, form := 0, eqs := [], bld := false } := by kernel_rfl
@[simp] theorem ty16 : tyI Try.prog 16 = { ok := true, sz := 1, ag := false, bytes := 8, zero := [Value.pointer none], offs := [], elem := 0, kind := none, form := 0, eqs := [], bld := false } := by kernel_rfl
@[simp] theorem ty17 : tyI Try.prog 17 = { ok := true, sz := 1, ag := false, bytes := 8, zero := [Value.pointer none], offs := [], elem := 0, kind := none, form := 0, eqs := [], bld := false } := by kernel_rfl
@[simp] theorem ty18 : tyI Try.prog 18 = { ok := true, sz := 1, ag := true, bytes := 8, zero := [Value.pointer none], offs := [(0, 1, false)], elem := 0, kind := none, form := 5, eqs := [], bld := true } := by kernel_rfl
@[simp] theorem ty19 : tyI Try.prog 19 = { ok := true, sz := 1, ag := true, bytes := 8, zero := [Value.pointer none], offs := [(0, 1, false)], elem := 0, kind := none, form := 5, eqs := [], bld := true } := by kernel_rfl
@[simp] theorem ty20 : tyI Try.prog 20 = { ok := true, sz := 1, ag := false, bytes := 16, zero := [Value.nilIface], offs := [], elem := 0, kind := none, form := 0, eqs := [], bld := false } := by kernel_rfl
@[simp] theorem ty21 : tyI Try.prog 21 = { ok := true, sz := 1, ag := false, bytes := 4, zero := [Value.int IntKind.i32 (0)], offs := [], elem := 0, kind := some IntKind.i32, form := 3, eqs := [], bld := false } := by kernel_rfl
@[simp] theorem ty22 : tyI Try.prog 22 = { ok := true, sz := 1, ag := false, bytes := 24, zero := [Value.slice none 0 0], offs := [], elem := 9, kind := none, form := 2, eqs := [], bld := false } := by kernel_rfl
@[simp] theorem ty23 : tyI Try.prog 23 = { ok := true, sz := 1, ag := false, bytes := 24, zero := [Value.slice none 0 0], offs := [], elem := 57, kind := none, form := 2, eqs := [], bld := false } := by kernel_rfl
@[simp] theorem ty24 : tyI Try.prog 24 = { ok := true, sz := 2, ag := true, bytes := 48, zero := [Value.slice none 0 0, Value.slice none 0 0], offs := [(0, 1, false), (1, 1, false)], elem := 0, kind := none, form := 5, eqs := [], bld := true } := by kernel_rfl
@[simp] theorem ty25 : tyI Try.prog 25 = { ok := true, sz := 2, ag := true, bytes := 48, zero := [Value.slice none 0 0, Value.slice none 0 0], offs := [(0, 1, false), (1, 1, false)], elem := 0, kind := none, form := 5, eqs := [], bld := true } := by kernel_rfl
@[simp] theorem ty26 : tyI Try.prog 26 = { ok := true, sz := 1, ag := false, bytes := 24, zero := [Value.slice none 0 0], offs := [], elem := 40, kind := none, form := 2, eqs := [], bld := false } := by kernel_rfl
@[simp] theorem ty27 : tyI Try.prog 27 = { ok := true, sz := 4, ag := true, bytes := 80, zero := [Value.slice none 0 0, Value.slice none 0 0, Value.int IntKind.i64 (0), Value.slice none 0 0], offs := [(0, 2, true), (2, 1, false), (3, 1, false)], elem := 0, kind := none, form := 5, eqs := [], bld := true } := by kernel_rfl
@[simp] theorem ty28 : tyI Try.prog 28 = { ok := true, sz := 4, ag := true, bytes := 80, zero := [Value.slice none 0 0, Value.slice none 0 0, Value.int IntKind.i64 (0), Value.slice none 0 0], offs := [(0, 2, true), (2, 1, false), (3, 1, false)], elem := 0, kind := none, form := 5, eqs := [], bld := true } := by kernel_rfl
@[simp] theorem ty29 : tyI Try.prog 29 = { ok := true, sz := 1, ag := false, bytes := 8, zero := [Value.nilFunc], offs := [], elem := 0, kind := none, form := 0, eqs := [], bld := false } := by kernel_rfl
@[simp] theorem ty30 : tyI Try.prog 30 = { ok := true, sz := 1, ag := false, bytes := 8, zero := [Value.nilFunc], offs := [], elem := 0, kind := none, form := 0, eqs := [], bld := false } := by kernel_rfl
@[simp] theorem ty31 : tyI Try.prog 31 = { ok := true, sz := 1, ag := false, bytes := 24, zero := [Value.slice none 0 0], offs := [], elem := 5, kind := none, form := 2, eqs := [], bld := false } := by kernel_rfl
@[simp] theorem ty32 : tyI Try.prog 32 = { ok := true, sz := 1, ag := false, bytes := 8, zero := [Value.int IntKind.i64 (0)], offs := [], elem := 0, kind := some IntKind.i64, form := 3, eqs := [], bld := false } := by kernel_rfl
@[simp] theorem ty33 : tyI Try.prog 33 = { ok := false, sz := 1, ag := false, bytes := 0, zero := [Value.tuple { toList := [Value.agg { toList := [Value.slice none 0 0, Value.slice none 0 0] }, Value.int IntKind.i64 (0)] }], offs := [], elem := 0, kind := none, form := 0, eqs := [], bld := false } := by kernel_rfl
@[simp] theorem ty34 : tyI Try.prog 34 = { ok := true, sz := 1, ag := false, bytes := 8, zero := [Value.nilFunc], offs := [], elem := 0, kind := none, form := 0, eqs := [], bld := false } := by kernel_rfl
@[simp] theorem ty35 : tyI Try.prog 35 = { ok := true, sz := 1, ag := false, bytes := 8, zero := [Value.nilFunc], offs := [], elem := 0, kind := none, form := 0, eqs := [], bld := false } := by kernel_rfl
@[simp] theorem ty36 : tyI Try.prog 36 = { ok := true, sz := 1, ag := false, bytes := 8, zero := [Value.nilFunc], offs := [], elem := 0, kind := none, form := 0, eqs := [], bld := false } := by kernel_rfl
@[simp] theorem ty37 : tyI Try.prog 37 = { ok := true, sz := 1, ag := false, bytes := 8, zero := [Value.nilFunc], offs := [], elem := 0, kind := none, form := 0, eqs := [], bld := false } := by kernel_rfl
@[simp] theorem ty38 : tyI Try.prog 38 = { ok := true, sz := 1, ag := false, bytes := 24, zero := [Value.slice none 0 0], offs := [], elem := 3, kind := none, form := 2, eqs := [], bld := false } := by kernel_rfl
@[simp] theorem ty39 : tyI Try.prog 39 = { ok := true, sz := 4, ag := true, bytes := 56, zero := [Value.int IntKind.i64 (0), Value.int IntKind.i64 (0), Value.string ⟨#[]⟩, Value.slice none 0 0], offs := [(0, 1, false), (1, 1, false), (2, 1, false), (3, 1, false)], elem := 0, kind := none, form := 5, eqs := [], bld := true } := by kernel_rfl
@[simp] theorem ty40 : tyI Try.prog 40 = { ok := true, sz := 4, ag := true, bytes := 56, zero := [Value.int IntKind.i64 (0), Value.int IntKind.i64 (0), Value.string ⟨#[]⟩, Value.slice none 0 0], offs := [(0, 1, false), (1, 1, false), (2, 1, false), (3, 1, false)], elem := 0, kind := none, form := 5, eqs := [], bld := true } := by kernel_rfl
@[simp] theorem ty41 : tyI Try.prog 41 = { ok := true, sz := 1, ag := false, bytes := 8, zero := [Value.nilFunc], offs := [], elem := 0, kind := none, form := 0, eqs := [], bld := false } := by kernel_rfl
@[simp] theorem ty42 : tyI Try.prog 42 = { ok := true, sz := 1, ag := false, bytes := 8, zero := [Value.nilFunc], offs := [], elem := 0, kind := none, form := 0, eqs := [], bld := false } := by kernel_rfl
@[simp] theorem ty43 : tyI Try.prog 43 = { ok := true, sz := 1, ag := false, bytes := 8, zero := [Value.nilFunc], offs := [], elem := 0, kind := none, form := 0, eqs := [], bld := false } := by kernel_rfl
@[simp] theorem ty44 : tyI Try.prog 44 = { ok := true, sz := 1, ag := false, bytes := 8, zero := [Value.nilFunc], offs := [], elem := 0, kind := none, form := 0, eqs := [], bld := false } := by kernel_rfl
@[simp] theorem ty45 : tyI Try.prog 45 = { ok := true, sz := 1, ag := false, bytes := 8, zero := [Value.nilFunc], offs := [], elem := 0, kind := none, form := 0, eqs := [], bld := false } := by kernel_rfl
@[simp] theorem ty46 : tyI Try.prog 46 = { ok := true, sz := 1, ag := false, bytes := 8, zero := [Value.nilFunc], offs := [], elem := 0, kind := none, form := 0, eqs := [], bld := false } := by kernel_rfl
@[simp] theorem ty47 : tyI Try.prog 47 = { ok := true, sz := 1, ag := false, bytes := 8, zero := [Value.nilFunc], offs := [], elem := 0, kind := none, form := 0, eqs := [], bld := false } := by kernel_rfl
@[simp] theorem ty48 : tyI Try.prog 48 = { ok := true, sz := 1, ag := false, bytes := 24, zero := [Value.slice none 0 0], offs := [], elem := 25, kind := none, form := 2, eqs := [], bld := false } := by kernel_rfl
@[simp] theorem ty49 : tyI Try.prog 49 = { ok := true, sz := 1, ag := false, bytes := 8, zero := [Value.nilFunc], offs := [], elem := 0, kind := none, form := 0, eqs := [], bld := false } := by kernel_rfl
@[simp] theorem ty50 : tyI Try.prog 50 = { ok := false, sz := 1, ag := false, bytes := 0, zero := [Value.tuple { toList := [Value.agg { toList := [Value.slice none 0 0, Value.slice none 0 0] }, Value.bool false] }], offs := [], elem := 0, kind := none, form := 0, eqs := [], bld := false } := by kernel_rfl
@[simp] theorem ty51 : tyI Try.prog 51 = { ok := true, sz := 1, ag := false, bytes := 8, zero := [Value.nilFunc], offs := [], elem := 0, kind := none, form := 0, eqs := [], bld := false } := by kernel_rfl
@[simp] theorem ty52 : tyI Try.prog 52 = { ok := true, sz := 1, ag := false, bytes := 8, zero := [Value.nilFunc], offs := [], elem := 0, kind := none, form := 0, eqs := [], bld := false } := by kernel_rfl
@[simp] theorem ty53 : tyI Try.prog 53 = { ok := true, sz := 1, ag := false, bytes := 8, zero := [Value.nilFunc], offs := [], elem := 0, kind := none, form := 0, eqs := [], bld := false } := by kernel_rfl
@[simp] theorem ty54 : tyI Try.prog 54 = { ok := true, sz := 1, ag := false, bytes := 8, zero := [Value.nilFunc], offs := [], elem := 0, kind := none, form := 0, eqs := [], bld := false } := by kernel_rfl
@[simp] theorem ty55 : tyI Try.prog 55 = { ok := true, sz := 1, ag := false, bytes := 8, zero := [Value.nilFunc], offs := [], elem := 0, kind := none, form := 0, eqs := [], bld := false } := by kernel_rfl
@[simp] theorem ty56 : tyI Try.prog 56 = { ok := true, sz := 2, ag := true, bytes := 24, zero := [Value.int IntKind.i64 (0), Value.string ⟨#[]⟩], offs := [(0, 1, false), (1, 1, false)], elem := 0, kind := none, form := 5, eqs := [3, 1], bld := true } := by kernel_rfl
@[simp] theorem ty57 : tyI Try.prog 57 = { ok := true, sz := 2, ag := true, bytes := 24, zero := [Value.int IntKind.i64 (0), Value.string ⟨#[]⟩], offs := [(0, 1, false), (1, 1, false)], elem := 0, kind := none, form := 5, eqs := [3, 1], bld := true } := by kernel_rfl
@[simp] theorem ty58 : tyI Try.prog 58 = { ok := true, sz := 1, ag := false, bytes := 8, zero := [Value.nilFunc], offs := [], elem := 0, kind := none, form := 0, eqs := [], bld := false } := by kernel_rfl
@[simp] theorem ty59 : tyI Try.prog 59 = { ok := true, sz := 1, ag := false, bytes := 8, zero := [Value.nilFunc], offs := [], elem := 0, kind := none, form := 0, eqs := [], bld := false } := by kernel_rfl
@[simp] theorem ty60 : tyI Try.prog 60 = { ok := true, sz := 1, ag := false, bytes := 8, zero := [Value.int IntKind.u64 (0)], offs := [], elem := 0, kind := some IntKind.u64, form := 3, eqs := [], bld := false } := by kernel_rfl
@[simp] theorem ty61 : tyI Try.prog 61 = { ok := true, sz := 1, ag := false, bytes := 8, zero := [Value.nilFunc], offs := [], elem := 0, kind := none, form := 0, eqs := [], bld := false } := by kernel_rfl
@[simp] theorem ty62 : tyI Try.prog 62 = { ok := true, sz := 1, ag := false, bytes := 8, zero := [Value.nilFunc], offs := [], elem := 0, kind := none, form := 0, eqs := [], bld := false } := by kernel_rfl
@[simp] theorem ty63 : tyI Try.prog 63 = { ok := true, sz := 1, ag := false, bytes := 8, zero := [Value.nilFunc], offs := [], elem := 0, kind := none, form := 0, eqs := [], bld := false } := by kernel_rfl
@[simp] theorem ty64 : tyI Try.prog 64 = { ok := false, sz := 1, ag := false, bytes := 0, zero := [Value.tuple { toList := [Value.string ⟨#[]⟩, Value.int IntKind.i64 (0)] }], offs := [], elem := 0, kind := none, form := 0, eqs := [], bld := false } := by kernel_rfl
@[simp] theorem ty65 : tyI Try.prog 65 = { ok := true, sz := 1, ag := false, bytes := 8, zero := [Value.nilFunc], offs := [], elem := 0, kind := none, form := 0, eqs := [], bld := false } := by kernel_rfl
@[simp] theorem ty66 : tyI Try.prog 66 = { ok := true, sz := 1, ag := false, bytes := 8, zero := [Value.nilFunc], offs := [], elem := 0, kind := none, form := 0, eqs := [], bld := false } := by kernel_rfl
@[simp] theorem ty67 : tyI Try.prog 67 = { ok := true, sz := 1, ag := false, bytes := 8, zero := [Value.nilFunc], offs := [], elem := 0, kind := none, form := 0, eqs := [], bld := false } := by kernel_rfl
@[simp] theorem ty68 : tyI Try.prog 68 = { ok := true, sz := 1, ag := false, bytes := 8, zero := [Value.nilFunc], offs := [], elem := 0, kind := none, form := 0, eqs := [], bld := false } := by kernel_rfl
@[simp] theorem ty69 : tyI Try.prog 69 = { ok := false, sz := 1, ag := false, bytes := 0, zero := [Value.tuple { toList := [Value.agg { toList := [Value.slice none 0 0, Value.slice none 0 0] }, Value.int IntKind.i64 (0)] }], offs := [], elem := 0, kind := none, form := 0, eqs := [], bld := false } := by kernel_rfl
@[simp] theorem ty70 : tyI Try.prog 70 = { ok := true, sz := 1, ag := false, bytes := 8, zero := [Value.nilFunc], offs := [], elem := 0, kind := none, form := 0, eqs := [], bld := false } := by kernel_rfl
@[simp] theorem ty71 : tyI Try.prog 71 = { ok := true, sz := 1, ag := false, bytes := 8, zero := [Value.nilFunc], offs := [], elem := 0, kind := none, form := 0, eqs := [], bld := false } := by kernel_rfl
@[simp] theorem ty72 : tyI Try.prog 72 = { ok := true, sz := 1, ag := false, bytes := 8, zero := [Value.nilFunc], offs := [], elem := 0, kind := none, form := 0, eqs := [], bld := false } := by kernel_rfl
@[simp] theorem ty73 : tyI Try.prog 73 = { ok := true, sz := 1, ag := false, bytes := 8, zero := [Value.nilFunc], offs := [], elem := 0, kind := none, form := 0, eqs := [], bld := false } := by kernel_rfl
@[simp] theorem ty74 : tyI Try.prog 74 = { ok := true, sz := 1, ag := false, bytes := 8, zero := [Value.nilFunc], offs := [], elem := 0, kind := none, form := 0, eqs := [], bld := false } := by kernel_rfl
@[simp] theorem ty75 : tyI Try.prog 75 = { ok := true, sz := 1, ag := false, bytes := 8, zero := [Value.nilFunc], offs := [], elem := 0, kind := none, form := 0, eqs := [], bld := false } := by kernel_rfl
@[simp] theorem ty76 : tyI Try.prog 76 = { ok := true, sz := 1, ag := false, bytes := 8, zero := [Value.nilFunc], offs := [], elem := 0, kind := none, form := 0, eqs := [], bld := false } := by kernel_rfl
@[simp] theorem ty77 : tyI Try.prog 77 = { ok := false, sz := 1, ag := false, bytes := 0, zero := [Value.tuple { toList := [Value.int IntKind.u64 (0), Value.int IntKind.u64 (0)] }], offs := [], elem := 0, kind := none, form := 0, eqs := [], bld := false } := by kernel_rfl
@[simp] theorem ty78 : tyI Try.prog 78 = { ok := true, sz := 1, ag := false, bytes := 8, zero := [Value.nilFunc], offs := [], elem := 0, kind := none, form := 0, eqs := [], bld := false } := by kernel_rfl
@[simp] theorem ty79 : tyI Try.prog 79 = { ok := true, sz := 1, ag := false, bytes := 8, zero := [Value.nilFunc], offs := [], elem := 0, kind := none, form := 0, eqs := [], bld := false } := by kernel_rfl
@[simp] theorem ty80 : tyI Try.prog 80 = { ok := true, sz := 1, ag := false, bytes := 8, zero := [Value.nilFunc], offs := [], elem := 0, kind := none, form := 0, eqs := [], bld := false } := by kernel_rfl
@[simp] theorem ty81 : tyI Try.prog 81 = { ok := true, sz := 1, ag := false, bytes := 8, zero := [Value.nilFunc], offs := [], elem := 0, kind := none, form := 0, eqs := [], bld := false } := by kernel_rfl
@[simp] theorem ty82 : tyI Try.prog 82 = { ok := true, sz := 1, ag := false, bytes := 4, zero := [Value.int IntKind.u32 (0)], offs := [], elem := 0, kind := some IntKind.u32, form := 3, eqs := [], bld := false } := by kernel_rfl
@[simp] theorem ty83 : tyI Try.prog 83 = { ok := false, sz := 1, ag := false, bytes := 0, zero := [Value.tuple { toList := [Value.int IntKind.u32 (0), Value.int IntKind.u32 (0)] }], offs := [], elem := 0, kind := none, form := 0, eqs := [], bld := false } := by kernel_rfl
@[simp] theorem ty84 : tyI Try.prog 84 = { ok := true, sz := 1, ag := false, bytes := 8, zero := [Value.nilFunc], offs := [], elem := 0, kind := none, form := 0, eqs := [], bld := false } := by kernel_rfl
@[simp] theorem ty85 : tyI Try.prog 85 = { ok := true, sz := 1, ag := false, bytes := 8, zero := [Value.int IntKind.u64 (0)], offs := [], elem := 0, kind := some IntKind.u64, form := 3, eqs := [], bld := false } := by kernel_rfl
@[simp] theorem ty86 : tyI Try.prog 86 = { ok := false, sz := 1, ag := false, bytes := 0, zero := [Value.tuple { toList := [Value.int IntKind.u64 (0), Value.int IntKind.u64 (0)] }], offs := [], elem := 0, kind := none, form := 0, eqs := [], bld := false } := by kernel_rfl
@[simp] theorem ty87 : tyI Try.prog 87 = { ok := true, sz := 1, ag := false, bytes := 8, zero := [Value.nilFunc], offs := [], elem := 0, kind := none, form := 0, eqs := [], bld := false } := by kernel_rfl
@[simp] theorem ty88 : tyI Try.prog 88 = { ok := true, sz := 1, ag := false, bytes := 8, zero := [Value.nilFunc], offs := [], elem := 0, kind := none, form := 0, eqs := [], bld := false } := by kernel_rfl
@[simp] theorem ty89 : tyI Try.prog 89 = { ok := true, sz := 1, ag := false, bytes := 8, zero := [Value.pointer none], offs := [], elem := 0, kind := none, form := 0, eqs := [], bld := false } := by kernel_rfl
@[simp] theorem ty90 : tyI Try.prog 90 = { ok := true, sz := 2, ag := true, bytes := 32, zero := [Value.pointer none, Value.slice none 0 0], offs := [(0, 1, false), (1, 1, false)], elem := 0, kind := none, form := 5, eqs := [], bld := true } := by kernel_rfl
@[simp] theorem ty91 : tyI Try.prog 91 = { ok := true, sz := 2, ag := true, bytes := 32, zero := [Value.pointer none, Value.slice none 0 0], offs := [(0, 1, false), (1, 1, false)], elem := 0, kind := none, form := 5, eqs := [], bld := true } := by kernel_rfl
@[simp] theorem ty92 : tyI Try.prog 92 = { ok := true, sz := 1, ag := false, bytes := 8, zero := [Value.nilFunc], offs := [], elem := 0, kind := none, form := 0, eqs := [], bld := false } := by kernel_rfl
@[simp] theorem ty93 : tyI Try.prog 93 = { ok := true, sz := 1, ag := false, bytes := 16, zero := [Value.nilIface], offs := [], elem := 0, kind := none, form := 0, eqs := [], bld := false } := by kernel_rfl
@[simp] theorem ty94 : tyI Try.prog 94 = { ok := true, sz := 1, ag := false, bytes := 16, zero := [Value.nilIface], offs := [], elem := 0, kind := none, form := 0, eqs := [], bld := false } := by kernel_rfl
@[simp] theorem ty95 : tyI Try.prog 95 = { ok := false, sz := 1, ag := false, bytes := 0, zero := [Value.tuple { toList := [Value.int IntKind.i64 (0), Value.nilIface] }], offs := [], elem := 0, kind := none, form := 0, eqs := [], bld := false } := by kernel_rfl
@[simp] theorem ty96 : tyI Try.prog 96 = { ok := true, sz := 1, ag := false, bytes := 8, zero := [Value.nilFunc], offs := [], elem := 0, kind := none, form := 0, eqs := [], bld := false } := by kernel_rfl
@[simp] theorem ty97 : tyI Try.prog 97 = { ok := true, sz := 1, ag := false, bytes := 8, zero := [Value.nilFunc], offs := [], elem := 0, kind := none, form := 0, eqs := [], bld := false } := by kernel_rfl
@[simp] theorem ty98 : tyI Try.prog 98 = { ok := true, sz := 1, ag := false, bytes := 8, zero := [Value.pointer none], offs := [], elem := 0, kind := none, form := 0, eqs := [], bld := false } := by kernel_rfl
@[simp] theorem ty99 : tyI Try.prog 99 = { ok := true, sz := 1, ag := false, bytes := 8, zero := [Value.pointer none], offs := [], elem := 0, kind := none, form := 0, eqs := [], bld := false } := by kernel_rfl
@[simp] theorem ty100 : tyI Try.prog 100 = { ok := true, sz := 1, ag := false, bytes := 8, zero := [Value.nilFunc], offs := [], elem := 0, kind := none, form := 0, eqs := [], bld := false } := by kernel_rfl
@[simp] theorem ty101 : tyI Try.prog 101 = { ok := true, sz := 1, ag := false, bytes := 8, zero := [Value.nilFunc], offs := [], elem := 0, kind := none, form := 0, eqs := [], bld := false } := by kernel_rfl
@[simp] theorem ty102 : tyI Try.prog 102 = { ok := true, sz := 4, ag := true, bytes := 40, zero := [Value.pointer none, Value.pointer none, Value.pointer none, Value.string ⟨#[]⟩], offs := [(0, 1, false), (1, 1, false), (2, 1, false), (3, 1, false)], elem := 0, kind := none, form := 5, eqs := [], bld := true } := by kernel_rfl
@[simp] theorem ty103 : tyI Try.prog 103 = { ok := true, sz := 4, ag := true, bytes := 40, zero := [Value.pointer none, Value.pointer none, Value.pointer none, Value.string ⟨#[]⟩], offs := [(0, 1, false), (1, 1, false), (2, 1, false), (3, 1, false)], elem := 0, kind := none, form := 5, eqs := [], bld := true } := by kernel_rfl
@[simp] theorem ty104 : tyI Try.prog 104 = { ok := true, sz := 0, ag := true, bytes := 0, zero := [], offs := [], elem := 0, kind := none, form := 0, eqs := [], bld := false } := by kernel_rfl
@[simp] theorem ty105 : tyI Try.prog 105 = { ok := true, sz := 0, ag := true, bytes := 0, zero := [], offs := [(0, 0, true)], elem := 0, kind := none, form := 5, eqs := [], bld := true } := by kernel_rfl
@[simp] theorem ty106 : tyI Try.prog 106 = { ok := true, sz := 0, ag := true, bytes := 0, zero := [], offs := [(0, 0, true)], elem := 0, kind := none, form := 5, eqs := [], bld := true } := by kernel_rfl
@[simp] theorem ty107 : tyI Try.prog 107 = { ok := true, sz := 1, ag := false, bytes := 1, zero := [Value.int IntKind.u8 (0)], offs := [], elem := 0, kind := some IntKind.u8, form := 3, eqs := [], bld := false } := by kernel_rfl
@[simp] theorem ty108 : tyI Try.prog 108 = { ok := true, sz := 1, ag := false, bytes := 1, zero := [Value.int IntKind.u8 (0)], offs := [], elem := 0, kind := some IntKind.u8, form := 3, eqs := [], bld := false } := by kernel_rfl
@[simp] theorem ty109 : tyI Try.prog 109 = { ok := true, sz := 1, ag := false, bytes := 8, zero := [Value.nilFunc], offs := [], elem := 0, kind := none, form := 0, eqs := [], bld := false } := by kernel_rfl
@[simp] theorem ty110 : tyI Try.prog 110 = { ok := true, sz := 1, ag := false, bytes := 4, zero := [Value.int IntKind.i32 (0)], offs := [], elem := 0, kind := some IntKind.i32, form := 3, eqs := [], bld := false } := by kernel_rfl
@[simp] theorem ty111 : tyI Try.prog 111 = { ok := true, sz := 1, ag := false, bytes := 4, zero := [Value.int IntKind.i32 (0)], offs := [], elem := 0, kind := some IntKind.i32, form := 3, eqs := [], bld := false } := by kernel_rfl
@[simp] theorem ty112 : tyI Try.prog 112 = { ok := true, sz := 11, ag := true, bytes := 48, zero := [Value.int IntKind.u64 (0), Value.int IntKind.u64 (0), Value.int IntKind.u32 (0), Value.int IntKind.u8 (0), Value.int IntKind.u8 (0), Value.int IntKind.u8 (0), Value.int IntKind.u8 (0), Value.nilFunc, Value.pointer none, Value.int IntKind.i32 (0), Value.int IntKind.i32 (0)], offs := [(0, 1, false), (1, 1, false), (2, 1, false), (3, 1, false), (4, 1, false), (5, 1, false), (6, 1, false), (7, 1, false), (8, 1, false), (9, 1, false), (10, 1, false)], elem := 0, kind := none, form := 5, eqs := [], bld := true } := by kernel_rfl
@[simp] theorem ty113 : tyI Try.prog 113 = { ok := true, sz := 11, ag := true, bytes := 48, zero := [Value.int IntKind.u64 (0), Value.int IntKind.u64 (0), Value.int IntKind.u32 (0), Value.int IntKind.u8 (0), Value.int IntKind.u8 (0), Value.int IntKind.u8 (0), Value.int IntKind.u8 (0), Value.nilFunc, Value.pointer none, Value.int IntKind.i32 (0), Value.int IntKind.i32 (0)], offs := [(0, 1, false), (1, 1, false), (2, 1, false), (3, 1, false), (4, 1, false), (5, 1, false), (6, 1, false), (7, 1, false), (8, 1, false), (9, 1, false), (10, 1, false)], elem := 0, kind := none, form := 5, eqs := [], bld := true } := by kernel_rfl

theorem mixed : Try.prog.follows .mixedOrders = true := by kernel_rfl

end Go.AE

set_option maxRecDepth 100000
namespace Go.AE
open Go Go.Proofs

def s3L0 : SC := (((SC.region 19 [⟨some 94, .move (.tmp 13), none⟩,
  ⟨some 95, .move (.tmp 12), none⟩,
  ⟨some 96, .call { callee := .builtin .len, args := #[.tmp 95], argTypes := #[38] }, none⟩,
  ⟨some 97, .binOp .lss 3 (.tmp 94) (.tmp 96) 3, none⟩] false).seq (SC.cond (.tmp 97) SC.skip (SC.exit 2))).seq ((SC.block 3 (SC.region 21 [⟨some 100, .move (.tmp 12), none⟩,
  ⟨some 101, .move (.tmp 13), none⟩,
  ⟨some 102, .indexAddr 38 (.tmp 100) (.tmp 101), none⟩,
  ⟨none, .store 3 (.tmp 102) (.const (.int .i64 1)), none⟩] false)).seq (SC.region 20 [⟨some 98, .move (.tmp 13), none⟩,
  ⟨some 99, .binOp .add 3 (.tmp 98) (.const (.int .i64 1)) 3, none⟩,
  ⟨some 13, .assign (.tmp 99), none⟩] false)))
def s3L1 : SC := (((SC.region 10 [⟨some 56, .move (.tmp 7), none⟩,
  ⟨some 57, .fieldAddr 28 (.tmp 1) 2, none⟩,
  ⟨some 58, .load 26 (.tmp 57), none⟩,
  ⟨some 59, .call { callee := .builtin .len, args := #[.tmp 58], argTypes := #[26] }, none⟩,
  ⟨some 60, .binOp .lss 3 (.tmp 56) (.tmp 59) 3, none⟩,
  ⟨some 61, .move (.tmp 60), none⟩,
  ⟨some 62, .move (.tmp 7), some (some 61, true)⟩,
  ⟨some 63, .binOp .lss 3 (.tmp 62) (.const (.int .i64 24)) 3, some (some 61, true)⟩,
  ⟨some 64, .pick (.tmp 61) (.tmp 63) (.const (.bool false)), none⟩] false).seq (SC.cond (.tmp 64) SC.skip (SC.exit 0))).seq ((SC.block 1 ((SC.region 12 [⟨some 67, .fieldAddr 28 (.tmp 1) 2, none⟩,
  ⟨some 68, .load 26 (.tmp 67), none⟩,
  ⟨some 69, .move (.tmp 7), none⟩,
  ⟨some 70, .indexAddr 26 (.tmp 68) (.tmp 69), none⟩,
  ⟨some 71, .load 40 (.tmp 70), none⟩,
  ⟨some 8, .alloc 40, none⟩,
  ⟨none, .store 40 (.tmp 8) (.tmp 71), none⟩] false).seq ((SC.region 13 [⟨some 72, .fieldAddr 40 (.tmp 8) 2, none⟩,
  ⟨some 73, .load 9 (.tmp 72), none⟩,
  ⟨some 74, .makeSlice 31 (.const (.int .i64 32)) (.const (.int .i64 32)), none⟩,
  ⟨some 75, .convert 31 9 (.tmp 74), none⟩,
  ⟨some 76, .binOp .add 9 (.tmp 73) (.tmp 75) 9, none⟩,
  ⟨some 77, .slice 9 (.tmp 76) none (some (.const (.int .i64 32))) none, none⟩,
  ⟨some 9, .assign (.tmp 77), none⟩] true).seq ((SC.region 14 [⟨some 79, .load 25 (.tmp 3), none⟩,
  ⟨some 80, .fieldAddr 40 (.tmp 8) 1, none⟩,
  ⟨some 81, .load 3 (.tmp 80), none⟩,
  ⟨some 82, .call { callee := .value (.func 15), args := #[.tmp 81, .const (.int .i64 5)], argTypes := #[3, 3] }, none⟩,
  ⟨some 83, .move (.tmp 9), none⟩,
  ⟨some 84, .call { callee := .value (.func 11), args := #[.tmp 79, .tmp 82, .tmp 83], argTypes := #[25, 3, 9] }, none⟩,
  ⟨some 78, .move (.tmp 84), none⟩,
  ⟨some 85, .extract (.tmp 78) 0, none⟩,
  ⟨some 86, .extract (.tmp 78) 1, none⟩,
  ⟨some 10, .alloc 25, none⟩,
  ⟨none, .store 25 (.tmp 10) (.tmp 85), none⟩,
  ⟨some 11, .assign (.tmp 86), none⟩] true).seq (((SC.region 15 [⟨some 87, .move (.tmp 11), none⟩,
  ⟨some 88, .call { callee := .value (.func 13), args := #[.tmp 87], argTypes := #[32] }, none⟩,
  ⟨some 89, .binOp .neq 3 (.tmp 88) (.const (.int .i64 0)) 3, none⟩] false).seq (SC.cond (.tmp 89) ((SC.region 16 [⟨some 2, .assign (.const (.bool false)), none⟩] false).seq SC.ret) SC.skip)).seq ((SC.region 17 [⟨some 90, .fieldAddr 25 (.tmp 10) 1, none⟩,
  ⟨some 91, .load 23 (.tmp 90), none⟩,
  ⟨some 92, .call { callee := .builtin .len, args := #[.tmp 91], argTypes := #[23] }, none⟩,
  ⟨some 93, .makeSlice 38 (.tmp 92) (.tmp 92), none⟩,
  ⟨some 12, .assign (.tmp 93), none⟩] false).seq (((SC.region 18 [⟨some 13, .assign (.const (.int .i64 0)), none⟩] false).seq (SC.block 2 (SC.loop s3L0))).seq ((SC.region 22 [⟨some 104, .load 25 (.tmp 10), none⟩,
  ⟨some 105, .fieldAddr 40 (.tmp 8) 3, none⟩,
  ⟨some 106, .load 38 (.tmp 105), none⟩,
  ⟨some 107, .call { callee := .value (.func 16), args := #[.tmp 104, .tmp 106], argTypes := #[25, 38] }, none⟩,
  ⟨some 103, .move (.tmp 107), none⟩,
  ⟨some 108, .extract (.tmp 103) 0, none⟩,
  ⟨some 109, .extract (.tmp 103) 1, none⟩,
  ⟨some 14, .alloc 25, none⟩,
  ⟨none, .store 25 (.tmp 14) (.tmp 108), none⟩,
  ⟨some 15, .assign (.tmp 109), none⟩] false).seq ((SC.region 23 [⟨some 111, .load 25 (.tmp 10), none⟩,
  ⟨some 112, .move (.tmp 12), none⟩,
  ⟨some 113, .call { callee := .value (.func 16), args := #[.tmp 111, .tmp 112], argTypes := #[25, 38] }, none⟩,
  ⟨some 110, .move (.tmp 113), none⟩,
  ⟨some 114, .extract (.tmp 110) 0, none⟩,
  ⟨some 115, .extract (.tmp 110) 1, none⟩,
  ⟨some 16, .alloc 25, none⟩,
  ⟨none, .store 25 (.tmp 16) (.tmp 114), none⟩,
  ⟨some 17, .assign (.tmp 115), none⟩] false).seq ((SC.region 24 [⟨some 117, .load 25 (.tmp 10), none⟩,
  ⟨some 118, .call { callee := .value (.func 12), args := #[.tmp 117], argTypes := #[25] }, none⟩,
  ⟨some 116, .move (.tmp 118), none⟩,
  ⟨some 119, .extract (.tmp 116) 0, none⟩,
  ⟨some 120, .extract (.tmp 116) 1, none⟩,
  ⟨some 18, .alloc 25, none⟩,
  ⟨none, .store 25 (.tmp 18) (.tmp 119), none⟩,
  ⟨some 19, .assign (.tmp 120), none⟩] false).seq (((SC.region 25 [⟨some 121, .move (.tmp 15), none⟩,
  ⟨some 122, .call { callee := .value (.func 13), args := #[.tmp 121], argTypes := #[32] }, none⟩,
  ⟨some 123, .binOp .neq 3 (.tmp 122) (.const (.int .i64 0)) 3, none⟩,
  ⟨some 124, .move (.tmp 123), none⟩,
  ⟨some 125, .move (.tmp 17), some (some 124, false)⟩,
  ⟨some 126, .call { callee := .value (.func 13), args := #[.tmp 125], argTypes := #[32] }, some (some 124, false)⟩,
  ⟨some 127, .binOp .neq 3 (.tmp 126) (.const (.int .i64 0)) 3, some (some 124, false)⟩,
  ⟨some 128, .pick (.tmp 124) (.const (.bool true)) (.tmp 127), none⟩,
  ⟨some 129, .move (.tmp 128), none⟩,
  ⟨some 130, .move (.tmp 19), some (some 129, false)⟩,
  ⟨some 131, .call { callee := .value (.func 13), args := #[.tmp 130], argTypes := #[32] }, some (some 129, false)⟩,
  ⟨some 132, .binOp .neq 3 (.tmp 131) (.const (.int .i64 0)) 3, some (some 129, false)⟩,
  ⟨some 133, .pick (.tmp 129) (.const (.bool true)) (.tmp 132), none⟩,
  ⟨some 134, .move (.tmp 133), none⟩,
  ⟨some 135, .load 25 (.tmp 14), some (some 134, false)⟩,
  ⟨some 136, .call { callee := .value (.func 14), args := #[.tmp 135], argTypes := #[25] }, some (some 134, false)⟩,
  ⟨some 137, .unOp .not 4 (.tmp 136), some (some 134, false)⟩,
  ⟨some 138, .pick (.tmp 134) (.const (.bool true)) (.tmp 137), none⟩,
  ⟨some 139, .move (.tmp 138), none⟩,
  ⟨some 140, .fieldAddr 25 (.tmp 14) 0, some (some 139, false)⟩,
  ⟨some 141, .load 22 (.tmp 140), some (some 139, false)⟩,
  ⟨some 142, .call { callee := .builtin .len, args := #[.tmp 141], argTypes := #[22] }, some (some 139, false)⟩,
  ⟨some 143, .binOp .neq 3 (.tmp 142) (.const (.int .i64 6)) 3, some (some 139, false)⟩,
  ⟨some 144, .pick (.tmp 139) (.const (.bool true)) (.tmp 143), none⟩,
  ⟨some 145, .move (.tmp 144), none⟩,
  ⟨some 146, .fieldAddr 25 (.tmp 14) 0, some (some 145, false)⟩,
  ⟨some 147, .load 22 (.tmp 146), some (some 145, false)⟩,
  ⟨some 148, .indexAddr 22 (.tmp 147) (.const (.int .i64 5)), some (some 145, false)⟩,
  ⟨some 149, .load 9 (.tmp 148), some (some 145, false)⟩,
  ⟨some 150, .move (.tmp 4), some (some 145, false)⟩,
  ⟨some 151, .binOp .neq 9 (.tmp 149) (.tmp 150) 9, some (some 145, false)⟩,
  ⟨some 152, .pick (.tmp 145) (.const (.bool true)) (.tmp 151), none⟩,
  ⟨some 153, .move (.tmp 152), none⟩,
  ⟨some 154, .load 25 (.tmp 16), some (some 153, false)⟩,
  ⟨some 155, .load 25 (.tmp 18), some (some 153, false)⟩,
  ⟨some 156, .call { callee := .value (.func 17), args := #[.tmp 154, .tmp 155], argTypes := #[25, 25] }, some (some 153, false)⟩,
  ⟨some 157, .unOp .not 4 (.tmp 156), some (some 153, false)⟩,
  ⟨some 158, .pick (.tmp 153) (.const (.bool true)) (.tmp 157), none⟩,
  ⟨some 159, .move (.tmp 158), none⟩,
  ⟨some 160, .fieldAddr 25 (.tmp 18) 0, some (some 159, false)⟩,
  ⟨some 161, .load 22 (.tmp 160), some (some 159, false)⟩,
  ⟨some 162, .call { callee := .builtin .len, args := #[.tmp 161], argTypes := #[22] }, some (some 159, false)⟩,
  ⟨some 163, .binOp .neq 3 (.tmp 162) (.const (.int .i64 6)) 3, some (some 159, false)⟩,
  ⟨some 164, .pick (.tmp 159) (.const (.bool true)) (.tmp 163), none⟩,
  ⟨some 165, .move (.tmp 164), none⟩,
  ⟨some 166, .fieldAddr 25 (.tmp 18) 0, some (some 165, false)⟩,
  ⟨some 167, .load 22 (.tmp 166), some (some 165, false)⟩,
  ⟨some 168, .indexAddr 22 (.tmp 167) (.const (.int .i64 5)), some (some 165, false)⟩,
  ⟨some 169, .load 9 (.tmp 168), some (some 165, false)⟩,
  ⟨some 170, .move (.tmp 4), some (some 165, false)⟩,
  ⟨some 171, .binOp .neq 9 (.tmp 169) (.tmp 170) 9, some (some 165, false)⟩,
  ⟨some 172, .pick (.tmp 165) (.const (.bool true)) (.tmp 171), none⟩] false).seq (SC.cond (.tmp 172) ((SC.region 26 [⟨some 2, .assign (.const (.bool false)), none⟩] false).seq SC.ret) SC.skip)).seq ((SC.region 27 [⟨some 173, .load 25 (.tmp 10), none⟩,
  ⟨none, .store 25 (.tmp 3) (.tmp 173), none⟩] false).seq ((SC.region 28 [⟨some 174, .move (.tmp 7), none⟩,
  ⟨some 175, .binOp .rem 3 (.tmp 174) (.const (.int .i64 4)) 3, none⟩,
  ⟨some 176, .binOp .eql 3 (.tmp 175) (.const (.int .i64 3)) 3, none⟩] false).seq (SC.cond (.tmp 176) (SC.region 29 [⟨some 177, .load 25 (.tmp 14), none⟩,
  ⟨none, .store 25 (.tmp 3) (.tmp 177), none⟩] false) SC.skip)))))))))))))).seq (SC.region 11 [⟨some 65, .move (.tmp 7), none⟩,
  ⟨some 66, .binOp .add 3 (.tmp 65) (.const (.int .i64 1)) 3, none⟩,
  ⟨some 7, .assign (.tmp 66), none⟩] false)))
/-- lectionarylaw14.DiskStays -/
def s3 : SC := ((SC.region 0 [⟨some 1, .box 28 (.tmp 0), none⟩,
  ⟨some 2, .assign (.const (.bool false)), none⟩] false).seq (((SC.region 1 [⟨some 20, .load 28 (.tmp 1), none⟩,
  ⟨some 21, .call { callee := .value (.func 9), args := #[.tmp 20], argTypes := #[28] }, none⟩] false).seq (SC.cond (.tmp 21) ((SC.region 2 [⟨some 2, .assign (.const (.bool true)), none⟩] false).seq SC.ret) SC.skip)).seq ((SC.region 3 [⟨some 22, .call { callee := .value (.func 10), args := #[.const (.int .i64 6)], argTypes := #[3] }, none⟩,
  ⟨some 3, .alloc 25, none⟩,
  ⟨none, .store 25 (.tmp 3) (.tmp 22), none⟩] false).seq ((SC.region 4 [⟨some 23, .makeSlice 31 (.const (.int .i64 31)) (.const (.int .i64 31)), none⟩,
  ⟨some 24, .convert 31 9 (.tmp 23), none⟩,
  ⟨some 25, .binOp .add 9 (.tmp 24) (.const (.string { data := #[121] })) 9, none⟩,
  ⟨some 4, .assign (.tmp 25), none⟩] false).seq ((SC.region 5 [⟨some 27, .load 25 (.tmp 3), none⟩,
  ⟨some 28, .move (.tmp 4), none⟩,
  ⟨some 29, .call { callee := .value (.func 11), args := #[.tmp 27, .const (.int .i64 5), .tmp 28], argTypes := #[25, 3, 9] }, none⟩,
  ⟨some 26, .move (.tmp 29), none⟩,
  ⟨some 30, .extract (.tmp 26) 0, none⟩,
  ⟨some 31, .extract (.tmp 26) 1, none⟩,
  ⟨none, .store 25 (.tmp 3) (.tmp 30), none⟩,
  ⟨some 5, .assign (.tmp 31), none⟩] false).seq ((SC.region 6 [⟨some 33, .load 25 (.tmp 3), none⟩,
  ⟨some 34, .call { callee := .value (.func 12), args := #[.tmp 33], argTypes := #[25] }, none⟩,
  ⟨some 32, .move (.tmp 34), none⟩,
  ⟨some 35, .extract (.tmp 32) 0, none⟩,
  ⟨some 36, .extract (.tmp 32) 1, none⟩,
  ⟨none, .store 25 (.tmp 3) (.tmp 35), none⟩,
  ⟨some 6, .assign (.tmp 36), none⟩] false).seq (((SC.region 7 [⟨some 37, .move (.tmp 5), none⟩,
  ⟨some 38, .call { callee := .value (.func 13), args := #[.tmp 37], argTypes := #[32] }, none⟩,
  ⟨some 39, .binOp .neq 3 (.tmp 38) (.const (.int .i64 0)) 3, none⟩,
  ⟨some 40, .move (.tmp 39), none⟩,
  ⟨some 41, .move (.tmp 6), some (some 40, false)⟩,
  ⟨some 42, .call { callee := .value (.func 13), args := #[.tmp 41], argTypes := #[32] }, some (some 40, false)⟩,
  ⟨some 43, .binOp .neq 3 (.tmp 42) (.const (.int .i64 0)) 3, some (some 40, false)⟩,
  ⟨some 44, .pick (.tmp 40) (.const (.bool true)) (.tmp 43), none⟩,
  ⟨some 45, .move (.tmp 44), none⟩,
  ⟨some 46, .load 25 (.tmp 3), some (some 45, false)⟩,
  ⟨some 47, .call { callee := .value (.func 14), args := #[.tmp 46], argTypes := #[25] }, some (some 45, false)⟩,
  ⟨some 48, .unOp .not 4 (.tmp 47), some (some 45, false)⟩,
  ⟨some 49, .pick (.tmp 45) (.const (.bool true)) (.tmp 48), none⟩,
  ⟨some 50, .move (.tmp 49), none⟩,
  ⟨some 51, .fieldAddr 25 (.tmp 3) 0, some (some 50, false)⟩,
  ⟨some 52, .load 22 (.tmp 51), some (some 50, false)⟩,
  ⟨some 53, .call { callee := .builtin .len, args := #[.tmp 52], argTypes := #[22] }, some (some 50, false)⟩,
  ⟨some 54, .binOp .neq 3 (.tmp 53) (.const (.int .i64 6)) 3, some (some 50, false)⟩,
  ⟨some 55, .pick (.tmp 50) (.const (.bool true)) (.tmp 54), none⟩] false).seq (SC.cond (.tmp 55) ((SC.region 8 [⟨some 2, .assign (.const (.bool false)), none⟩] false).seq SC.ret) SC.skip)).seq (((SC.region 9 [⟨some 7, .assign (.const (.int .i64 0)), none⟩] false).seq (SC.block 0 (SC.loop s3L1))).seq ((SC.region 30 [⟨some 178, .call { callee := .value (.func 18), args := #[], argTypes := #[] }, none⟩,
  ⟨some 2, .assign (.tmp 178), none⟩] false).seq SC.ret)))))))))
theorem sl3 : Try.f3.body.map slim = some s3 := by kernel_rfl
theorem ok3 : fnOK calmB Try.f3 0 = true := by kernel_rfl

def s4L0 : SC := (((SC.region 9 [⟨some 25, .move (.tmp 7), none⟩,
  ⟨some 26, .binOp .lss 3 (.tmp 25) (.const (.int .i64 32)) 3, none⟩] false).seq (SC.cond (.tmp 26) SC.skip (SC.exit 2))).seq ((SC.block 3 (SC.region 11 [⟨some 29, .move (.tmp 6), none⟩,
  ⟨some 30, .move (.tmp 5), none⟩,
  ⟨some 31, .binOp .add 3 (.const (.int .i64 97)) (.tmp 30) 3, none⟩,
  ⟨some 32, .convert 3 5 (.tmp 31), none⟩,
  ⟨some 33, .buildSlice 31 1 #[(0, .tmp 32)], none⟩,
  ⟨some 34, .convert 31 9 (.tmp 33), none⟩,
  ⟨some 35, .binOp .add 9 (.tmp 29) (.tmp 34) 9, none⟩,
  ⟨some 6, .assign (.tmp 35), none⟩] false)).seq (SC.region 10 [⟨some 27, .move (.tmp 7), none⟩,
  ⟨some 28, .binOp .add 3 (.tmp 27) (.const (.int .i64 1)) 3, none⟩,
  ⟨some 7, .assign (.tmp 28), none⟩] false)))
def s4L1 : SC := (((SC.region 5 [⟨some 21, .move (.tmp 5), none⟩,
  ⟨some 22, .binOp .lss 3 (.tmp 21) (.const (.int .i64 5)) 3, none⟩] false).seq (SC.cond (.tmp 22) SC.skip (SC.exit 0))).seq ((SC.block 1 ((SC.region 7 [⟨some 6, .assign (.const (.string { data := #[] })), none⟩] false).seq (((SC.region 8 [⟨some 7, .assign (.const (.int .i64 0)), none⟩] false).seq (SC.block 2 (SC.loop s4L0))).seq ((SC.region 12 [⟨some 37, .load 25 (.tmp 3), none⟩,
  ⟨some 38, .move (.tmp 5), none⟩,
  ⟨some 39, .binOp .rem 3 (.tmp 38) (.const (.int .i64 2)) 3, none⟩,
  ⟨some 40, .move (.tmp 6), none⟩,
  ⟨some 41, .call { callee := .value (.func 11), args := #[.tmp 37, .tmp 39, .tmp 40], argTypes := #[25, 3, 9] }, none⟩,
  ⟨some 36, .move (.tmp 41), none⟩,
  ⟨some 42, .extract (.tmp 36) 0, none⟩,
  ⟨some 43, .extract (.tmp 36) 1, none⟩,
  ⟨some 8, .alloc 25, none⟩,
  ⟨none, .store 25 (.tmp 8) (.tmp 42), none⟩,
  ⟨some 9, .assign (.tmp 43), none⟩] false).seq (((SC.region 13 [⟨some 44, .move (.tmp 9), none⟩,
  ⟨some 45, .call { callee := .value (.func 13), args := #[.tmp 44], argTypes := #[32] }, none⟩,
  ⟨some 46, .binOp .neq 3 (.tmp 45) (.const (.int .i64 0)) 3, none⟩] false).seq (SC.cond (.tmp 46) ((SC.region 14 [⟨some 2, .assign (.const (.bool false)), none⟩] false).seq SC.ret) SC.skip)).seq (SC.region 15 [⟨some 47, .load 25 (.tmp 8), none⟩,
  ⟨none, .store 25 (.tmp 3) (.tmp 47), none⟩] false)))))).seq (SC.region 6 [⟨some 23, .move (.tmp 5), none⟩,
  ⟨some 24, .binOp .add 3 (.tmp 23) (.const (.int .i64 1)) 3, none⟩,
  ⟨some 5, .assign (.tmp 24), none⟩] false)))
def s4L2 : SC := (((SC.region 17 [⟨some 48, .move (.tmp 10), none⟩,
  ⟨some 49, .binOp .lss 3 (.tmp 48) (.const (.int .i64 243)) 3, none⟩] false).seq (SC.cond (.tmp 49) SC.skip (SC.exit 4))).seq ((SC.block 5 ((SC.region 19 [⟨some 52, .move (.tmp 10), none⟩,
  ⟨some 53, .binOp .rem 3 (.tmp 52) (.const (.int .i64 3)) 3, none⟩,
  ⟨some 54, .move (.tmp 10), none⟩,
  ⟨some 55, .binOp .quo 3 (.tmp 54) (.const (.int .i64 3)) 3, none⟩,
  ⟨some 56, .binOp .rem 3 (.tmp 55) (.const (.int .i64 3)) 3, none⟩,
  ⟨some 57, .move (.tmp 10), none⟩,
  ⟨some 58, .binOp .quo 3 (.tmp 57) (.const (.int .i64 9)) 3, none⟩,
  ⟨some 59, .binOp .rem 3 (.tmp 58) (.const (.int .i64 3)) 3, none⟩,
  ⟨some 60, .move (.tmp 10), none⟩,
  ⟨some 61, .binOp .quo 3 (.tmp 60) (.const (.int .i64 27)) 3, none⟩,
  ⟨some 62, .binOp .rem 3 (.tmp 61) (.const (.int .i64 3)) 3, none⟩,
  ⟨some 63, .move (.tmp 10), none⟩,
  ⟨some 64, .binOp .quo 3 (.tmp 63) (.const (.int .i64 81)) 3, none⟩,
  ⟨some 65, .binOp .rem 3 (.tmp 64) (.const (.int .i64 3)) 3, none⟩,
  ⟨some 66, .fieldAddr 28 (.tmp 1) 2, none⟩,
  ⟨some 67, .load 26 (.tmp 66), none⟩,
  ⟨some 68, .call { callee := .builtin .len, args := #[.tmp 67], argTypes := #[26] }, none⟩,
  ⟨some 69, .binOp .rem 3 (.tmp 68) (.const (.int .i64 2)) 3, none⟩,
  ⟨some 70, .binOp .mul 3 (.const (.int .i64 3)) (.tmp 69) 3, none⟩,
  ⟨some 71, .binOp .add 3 (.tmp 65) (.tmp 70) 3, none⟩,
  ⟨some 72, .buildSlice 38 5 #[(0, .tmp 53), (1, .tmp 56), (2, .tmp 59), (3, .tmp 62), (4, .tmp 71)], none⟩,
  ⟨some 11, .assign (.tmp 72), none⟩] false).seq ((SC.region 20 [⟨some 74, .load 25 (.tmp 3), none⟩,
  ⟨some 75, .move (.tmp 11), none⟩,
  ⟨some 76, .call { callee := .value (.func 16), args := #[.tmp 74, .tmp 75], argTypes := #[25, 38] }, none⟩,
  ⟨some 73, .move (.tmp 76), none⟩,
  ⟨some 77, .extract (.tmp 73) 0, none⟩,
  ⟨some 78, .extract (.tmp 73) 1, none⟩,
  ⟨some 12, .alloc 25, none⟩,
  ⟨none, .store 25 (.tmp 12) (.tmp 77), none⟩,
  ⟨some 13, .assign (.tmp 78), none⟩] false).seq ((SC.region 21 [⟨some 79, .move (.tmp 13), none⟩,
  ⟨some 80, .call { callee := .value (.func 13), args := #[.tmp 79], argTypes := #[32] }, none⟩,
  ⟨some 81, .binOp .neq 3 (.tmp 80) (.const (.int .i64 0)) 3, none⟩,
  ⟨some 82, .move (.tmp 81), none⟩,
  ⟨some 83, .load 25 (.tmp 12), some (some 82, false)⟩,
  ⟨some 84, .load 25 (.tmp 3), some (some 82, false)⟩,
  ⟨some 85, .move (.tmp 11), some (some 82, false)⟩,
  ⟨some 86, .call { callee := .value (.func 20), args := #[.tmp 84, .tmp 85], argTypes := #[25, 38] }, some (some 82, false)⟩,
  ⟨some 87, .call { callee := .value (.func 17), args := #[.tmp 83, .tmp 86], argTypes := #[25, 25] }, some (some 82, false)⟩,
  ⟨some 88, .unOp .not 4 (.tmp 87), some (some 82, false)⟩,
  ⟨some 89, .pick (.tmp 82) (.const (.bool true)) (.tmp 88), none⟩] true).seq (SC.cond (.tmp 89) ((SC.region 22 [⟨some 2, .assign (.const (.bool false)), none⟩] false).seq SC.ret) SC.skip))))).seq (SC.region 18 [⟨some 50, .move (.tmp 10), none⟩,
  ⟨some 51, .binOp .add 3 (.tmp 50) (.const (.int .i64 1)) 3, none⟩,
  ⟨some 10, .assign (.tmp 51), none⟩] false)))
/-- lectionarylaw14.DiskTorn -/
def s4 : SC := ((SC.region 0 [⟨some 1, .box 28 (.tmp 0), none⟩,
  ⟨some 2, .assign (.const (.bool false)), none⟩] false).seq ((SC.region 1 [⟨some 15, .call { callee := .value (.func 19), args := #[.const (.int .i64 3)], argTypes := #[3] }, none⟩,
  ⟨some 14, .move (.tmp 15), none⟩,
  ⟨some 16, .extract (.tmp 14) 0, none⟩,
  ⟨some 17, .extract (.tmp 14) 1, none⟩,
  ⟨some 3, .alloc 25, none⟩,
  ⟨none, .store 25 (.tmp 3) (.tmp 16), none⟩,
  ⟨some 4, .assign (.tmp 17), none⟩] false).seq (((SC.region 2 [⟨some 18, .move (.tmp 4), none⟩,
  ⟨some 19, .call { callee := .value (.func 13), args := #[.tmp 18], argTypes := #[32] }, none⟩,
  ⟨some 20, .binOp .neq 3 (.tmp 19) (.const (.int .i64 0)) 3, none⟩] false).seq (SC.cond (.tmp 20) ((SC.region 3 [⟨some 2, .assign (.const (.bool false)), none⟩] false).seq SC.ret) SC.skip)).seq (((SC.region 4 [⟨some 5, .assign (.const (.int .i64 0)), none⟩] false).seq (SC.block 0 (SC.loop s4L1))).seq (((SC.region 16 [⟨some 10, .assign (.const (.int .i64 0)), none⟩] false).seq (SC.block 4 (SC.loop s4L2))).seq ((SC.region 23 [⟨some 90, .call { callee := .value (.func 18), args := #[], argTypes := #[] }, none⟩,
  ⟨some 2, .assign (.tmp 90), none⟩] false).seq SC.ret))))))
theorem sl4 : Try.f4.body.map slim = some s4 := by kernel_rfl
theorem ok4 : fnOK calmB Try.f4 0 = true := by kernel_rfl

def s5L0 : SC := (((SC.region 12 [⟨some 72, .move (.tmp 8), none⟩,
  ⟨some 73, .fieldAddr 28 (.tmp 1) 2, none⟩,
  ⟨some 74, .load 26 (.tmp 73), none⟩,
  ⟨some 75, .call { callee := .builtin .len, args := #[.tmp 74], argTypes := #[26] }, none⟩,
  ⟨some 76, .binOp .lss 3 (.tmp 72) (.tmp 75) 3, none⟩,
  ⟨some 77, .move (.tmp 76), none⟩,
  ⟨some 78, .move (.tmp 8), some (some 77, true)⟩,
  ⟨some 79, .binOp .lss 3 (.tmp 78) (.const (.int .i64 24)) 3, some (some 77, true)⟩,
  ⟨some 80, .pick (.tmp 77) (.tmp 79) (.const (.bool false)), none⟩] false).seq (SC.cond (.tmp 80) SC.skip (SC.exit 2))).seq ((SC.block 3 ((SC.region 14 [⟨some 84, .load 25 (.tmp 7), none⟩,
  ⟨some 85, .fieldAddr 28 (.tmp 1) 2, none⟩,
  ⟨some 86, .load 26 (.tmp 85), none⟩,
  ⟨some 87, .move (.tmp 8), none⟩,
  ⟨some 88, .indexAddr 26 (.tmp 86) (.tmp 87), none⟩,
  ⟨some 89, .load 40 (.tmp 88), none⟩,
  ⟨some 90, .call { callee := .value (.func 23), args := #[.tmp 84, .tmp 89], argTypes := #[25, 40] }, none⟩,
  ⟨some 83, .move (.tmp 90), none⟩,
  ⟨some 91, .extract (.tmp 83) 0, none⟩,
  ⟨some 92, .extract (.tmp 83) 1, none⟩,
  ⟨some 9, .alloc 25, none⟩,
  ⟨none, .store 25 (.tmp 9) (.tmp 91), none⟩,
  ⟨some 10, .assign (.tmp 92), none⟩] true).seq (((SC.region 15 [⟨some 93, .move (.tmp 10), none⟩,
  ⟨some 94, .unOp .not 4 (.tmp 93), none⟩] false).seq (SC.cond (.tmp 94) ((SC.region 16 [⟨some 2, .assign (.const (.bool false)), none⟩] false).seq SC.ret) SC.skip)).seq (SC.region 17 [⟨some 95, .load 25 (.tmp 9), none⟩,
  ⟨none, .store 25 (.tmp 7) (.tmp 95), none⟩] false)))).seq (SC.region 13 [⟨some 81, .move (.tmp 8), none⟩,
  ⟨some 82, .binOp .add 3 (.tmp 81) (.const (.int .i64 1)) 3, none⟩,
  ⟨some 8, .assign (.tmp 82), none⟩] false)))
def s5L1 : SC := (((SC.region 8 [⟨some 63, .move (.tmp 6), none⟩,
  ⟨some 64, .binOp .lss 3 (.tmp 63) (.const (.int .i64 2)) 3, none⟩] false).seq (SC.cond (.tmp 64) SC.skip (SC.exit 0))).seq ((SC.block 1 ((SC.region 10 [⟨some 67, .move (.tmp 5), none⟩,
  ⟨some 68, .move (.tmp 6), none⟩,
  ⟨some 69, .indexAddr 48 (.tmp 67) (.tmp 68), none⟩,
  ⟨some 70, .load 25 (.tmp 69), none⟩,
  ⟨some 71, .call { callee := .value (.func 22), args := #[.tmp 70], argTypes := #[25] }, none⟩,
  ⟨some 7, .alloc 25, none⟩,
  ⟨none, .store 25 (.tmp 7) (.tmp 71), none⟩] false).seq ((SC.region 11 [⟨some 8, .assign (.const (.int .i64 0)), none⟩] false).seq (SC.block 2 (SC.loop s5L0))))).seq (SC.region 9 [⟨some 65, .move (.tmp 6), none⟩,
  ⟨some 66, .binOp .add 3 (.tmp 65) (.const (.int .i64 1)) 3, none⟩,
  ⟨some 6, .assign (.tmp 66), none⟩] false)))
/-- lectionarylaw14.DiskExact -/
def s5 : SC := ((SC.region 0 [⟨some 1, .box 28 (.tmp 0), none⟩,
  ⟨some 2, .assign (.const (.bool false)), none⟩] false).seq (((SC.region 1 [⟨some 11, .load 28 (.tmp 1), none⟩,
  ⟨some 12, .call { callee := .value (.func 9), args := #[.tmp 11], argTypes := #[28] }, none⟩] false).seq (SC.cond (.tmp 12) ((SC.region 2 [⟨some 2, .assign (.const (.bool true)), none⟩] false).seq SC.ret) SC.skip)).seq ((SC.region 3 [⟨some 14, .fieldAddr 28 (.tmp 1) 1, none⟩,
  ⟨some 15, .load 3 (.tmp 14), none⟩,
  ⟨some 16, .call { callee := .value (.func 19), args := #[.tmp 15], argTypes := #[3] }, none⟩,
  ⟨some 13, .move (.tmp 16), none⟩,
  ⟨some 17, .extract (.tmp 13) 0, none⟩,
  ⟨some 18, .extract (.tmp 13) 1, none⟩,
  ⟨some 3, .alloc 25, none⟩,
  ⟨none, .store 25 (.tmp 3) (.tmp 17), none⟩,
  ⟨some 4, .assign (.tmp 18), none⟩] false).seq (((SC.region 4 [⟨some 19, .fieldAddr 28 (.tmp 1) 1, none⟩,
  ⟨some 20, .load 3 (.tmp 19), none⟩,
  ⟨some 21, .call { callee := .value (.func 21), args := #[.tmp 20, .const (.int .i64 1), .const (.int .i64 400)], argTypes := #[3, 3, 3] }, none⟩,
  ⟨some 22, .move (.tmp 4), none⟩,
  ⟨some 23, .call { callee := .value (.func 13), args := #[.tmp 22], argTypes := #[32] }, none⟩,
  ⟨some 24, .binOp .eql 3 (.tmp 23) (.const (.int .i64 0)) 3, none⟩,
  ⟨some 25, .binOp .neq 4 (.tmp 21) (.tmp 24) 4, none⟩,
  ⟨some 26, .move (.tmp 25), none⟩,
  ⟨some 27, .move (.tmp 4), some (some 26, false)⟩,
  ⟨some 28, .call { callee := .value (.func 13), args := #[.tmp 27], argTypes := #[32] }, some (some 26, false)⟩,
  ⟨some 29, .binOp .neq 3 (.tmp 28) (.const (.int .i64 0)) 3, some (some 26, false)⟩,
  ⟨some 30, .move (.tmp 29), some (some 26, false)⟩,
  ⟨some 31, .move (.tmp 4), some (some 30, true)⟩,
  ⟨some 32, .call { callee := .value (.func 13), args := #[.tmp 31], argTypes := #[32] }, some (some 30, true)⟩,
  ⟨some 33, .binOp .neq 3 (.tmp 32) (.const (.int .i64 1)) 3, some (some 30, true)⟩,
  ⟨some 34, .move (.tmp 33), some (some 30, true)⟩,
  ⟨some 35, .load 25 (.tmp 3), some (some 34, false)⟩,
  ⟨some 36, .build 25 #[], some (some 34, false)⟩,
  ⟨some 37, .call { callee := .value (.func 17), args := #[.tmp 35, .tmp 36], argTypes := #[25, 25] }, some (some 34, false)⟩,
  ⟨some 38, .unOp .not 4 (.tmp 37), some (some 34, false)⟩,
  ⟨some 39, .pick (.tmp 34) (.const (.bool true)) (.tmp 38), some (some 30, true)⟩,
  ⟨some 40, .pick (.tmp 30) (.tmp 39) (.const (.bool false)), some (some 26, false)⟩,
  ⟨some 41, .pick (.tmp 26) (.const (.bool true)) (.tmp 40), none⟩,
  ⟨some 42, .move (.tmp 41), none⟩,
  ⟨some 43, .move (.tmp 4), some (some 42, false)⟩,
  ⟨some 44, .call { callee := .value (.func 13), args := #[.tmp 43], argTypes := #[32] }, some (some 42, false)⟩,
  ⟨some 45, .binOp .eql 3 (.tmp 44) (.const (.int .i64 0)) 3, some (some 42, false)⟩,
  ⟨some 46, .move (.tmp 45), some (some 42, false)⟩,
  ⟨some 47, .load 25 (.tmp 3), some (some 46, true)⟩,
  ⟨some 48, .fieldAddr 28 (.tmp 1) 1, some (some 46, true)⟩,
  ⟨some 49, .load 3 (.tmp 48), some (some 46, true)⟩,
  ⟨some 50, .call { callee := .value (.func 10), args := #[.tmp 49], argTypes := #[3] }, some (some 46, true)⟩,
  ⟨some 51, .call { callee := .value (.func 17), args := #[.tmp 47, .tmp 50], argTypes := #[25, 25] }, some (some 46, true)⟩,
  ⟨some 52, .unOp .not 4 (.tmp 51), some (some 46, true)⟩,
  ⟨some 53, .pick (.tmp 46) (.tmp 52) (.const (.bool false)), some (some 42, false)⟩,
  ⟨some 54, .pick (.tmp 42) (.const (.bool true)) (.tmp 53), none⟩] true).seq (SC.cond (.tmp 54) ((SC.region 5 [⟨some 2, .assign (.const (.bool false)), none⟩] false).seq SC.ret) SC.skip)).seq ((SC.region 6 [⟨some 55, .fieldAddr 28 (.tmp 1) 0, none⟩,
  ⟨some 56, .load 25 (.tmp 55), none⟩,
  ⟨some 57, .fieldAddr 28 (.tmp 1) 1, none⟩,
  ⟨some 58, .load 3 (.tmp 57), none⟩,
  ⟨some 59, .call { callee := .value (.func 15), args := #[.tmp 58, .const (.int .i64 6)], argTypes := #[3, 3] }, none⟩,
  ⟨some 60, .binOp .add 3 (.const (.int .i64 1)) (.tmp 59) 3, none⟩,
  ⟨some 61, .call { callee := .value (.func 10), args := #[.tmp 60], argTypes := #[3] }, none⟩,
  ⟨some 62, .buildSlice 48 2 #[(0, .tmp 56), (1, .tmp 61)], none⟩,
  ⟨some 5, .assign (.tmp 62), none⟩] true).seq (((SC.region 7 [⟨some 6, .assign (.const (.int .i64 0)), none⟩] false).seq (SC.block 0 (SC.loop s5L1))).seq ((SC.region 18 [⟨some 96, .call { callee := .value (.func 18), args := #[], argTypes := #[] }, none⟩,
  ⟨some 2, .assign (.tmp 96), none⟩] false).seq SC.ret)))))))
theorem sl5 : Try.f5.body.map slim = some s5 := by kernel_rfl
theorem ok5 : fnOK calmB Try.f5 0 = true := by kernel_rfl

/-- lectionarylaw14.DiskPuts -/
def s6 : SC := ((SC.region 0 [⟨some 1, .box 28 (.tmp 0), none⟩,
  ⟨some 2, .assign (.const (.bool false)), none⟩] false).seq ((SC.region 1 [⟨some 3, .load 28 (.tmp 1), none⟩,
  ⟨some 4, .buildSlice 38 3 #[(0, .const (.int .i64 0)), (1, .const (.int .i64 5)), (2, .const (.int .i64 1))], none⟩,
  ⟨some 5, .call { callee := .value (.func 24), args := #[.tmp 3, .tmp 4], argTypes := #[28, 38] }, none⟩,
  ⟨some 2, .assign (.tmp 5), none⟩] false).seq SC.ret))
theorem sl6 : Try.f6.body.map slim = some s6 := by kernel_rfl
theorem ok6 : fnOK calmB Try.f6 0 = true := by kernel_rfl

/-- lectionarylaw14.DiskSyncs -/
def s7 : SC := ((SC.region 0 [⟨some 1, .box 28 (.tmp 0), none⟩,
  ⟨some 2, .assign (.const (.bool false)), none⟩] false).seq ((SC.region 1 [⟨some 3, .load 28 (.tmp 1), none⟩,
  ⟨some 4, .buildSlice 38 4 #[(0, .const (.int .i64 0)), (1, .const (.int .i64 1)), (2, .const (.int .i64 3)), (3, .const (.int .i64 5))], none⟩,
  ⟨some 5, .call { callee := .value (.func 24), args := #[.tmp 3, .tmp 4], argTypes := #[28, 38] }, none⟩,
  ⟨some 2, .assign (.tmp 5), none⟩] false).seq SC.ret))
theorem sl7 : Try.f7.body.map slim = some s7 := by kernel_rfl
theorem ok7 : fnOK calmB Try.f7 0 = true := by kernel_rfl

/-- lectionarylaw14.DiskCrashes -/
def s8 : SC := ((SC.region 0 [⟨some 1, .box 28 (.tmp 0), none⟩,
  ⟨some 2, .assign (.const (.bool false)), none⟩] false).seq ((SC.region 1 [⟨some 3, .load 28 (.tmp 1), none⟩,
  ⟨some 4, .buildSlice 38 5 #[(0, .const (.int .i64 0)), (1, .const (.int .i64 1)), (2, .const (.int .i64 2)), (3, .const (.int .i64 4)), (4, .const (.int .i64 5))], none⟩,
  ⟨some 5, .call { callee := .value (.func 24), args := #[.tmp 3, .tmp 4], argTypes := #[28, 38] }, none⟩,
  ⟨some 2, .assign (.tmp 5), none⟩] false).seq SC.ret))
theorem sl8 : Try.f8.body.map slim = some s8 := by kernel_rfl
theorem ok8 : fnOK calmB Try.f8 0 = true := by kernel_rfl

def s9L0 : SC := (((SC.region 3 [⟨some 12, .move (.tmp 4), none⟩,
  ⟨some 13, .fieldAddr 28 (.tmp 1) 2, none⟩,
  ⟨some 14, .load 26 (.tmp 13), none⟩,
  ⟨some 15, .call { callee := .builtin .len, args := #[.tmp 14], argTypes := #[26] }, none⟩,
  ⟨some 16, .binOp .lss 3 (.tmp 12) (.tmp 15) 3, none⟩,
  ⟨some 17, .move (.tmp 16), none⟩,
  ⟨some 18, .move (.tmp 3), some (some 17, true)⟩,
  ⟨some 19, .binOp .lss 3 (.tmp 18) (.const (.int .i64 1048576)) 3, some (some 17, true)⟩,
  ⟨some 20, .pick (.tmp 17) (.tmp 19) (.const (.bool false)), none⟩] false).seq (SC.cond (.tmp 20) SC.skip (SC.exit 0))).seq ((SC.block 1 (SC.region 5 [⟨some 23, .move (.tmp 3), none⟩,
  ⟨some 24, .fieldAddr 28 (.tmp 1) 2, none⟩,
  ⟨some 25, .load 26 (.tmp 24), none⟩,
  ⟨some 26, .move (.tmp 4), none⟩,
  ⟨some 27, .indexAddr 26 (.tmp 25) (.tmp 26), none⟩,
  ⟨some 28, .fieldAddr 40 (.tmp 27) 2, none⟩,
  ⟨some 29, .load 9 (.tmp 28), none⟩,
  ⟨some 30, .call { callee := .builtin .len, args := #[.tmp 29], argTypes := #[9] }, none⟩,
  ⟨some 31, .binOp .quo 3 (.tmp 30) (.const (.int .i64 16)) 3, none⟩,
  ⟨some 32, .binOp .add 3 (.tmp 23) (.tmp 31) 3, none⟩,
  ⟨some 33, .fieldAddr 28 (.tmp 1) 2, none⟩,
  ⟨some 34, .load 26 (.tmp 33), none⟩,
  ⟨some 35, .move (.tmp 4), none⟩,
  ⟨some 36, .indexAddr 26 (.tmp 34) (.tmp 35), none⟩,
  ⟨some 37, .fieldAddr 40 (.tmp 36) 3, none⟩,
  ⟨some 38, .load 38 (.tmp 37), none⟩,
  ⟨some 39, .call { callee := .builtin .len, args := #[.tmp 38], argTypes := #[38] }, none⟩,
  ⟨some 40, .binOp .add 3 (.tmp 32) (.tmp 39) 3, none⟩,
  ⟨some 3, .assign (.tmp 40), none⟩] true)).seq (SC.region 4 [⟨some 21, .move (.tmp 4), none⟩,
  ⟨some 22, .binOp .add 3 (.tmp 21) (.const (.int .i64 1)) 3, none⟩,
  ⟨some 4, .assign (.tmp 22), none⟩] false)))
/-- lectionarylaw14.Heavy -/
def s9 : SC := ((SC.region 0 [⟨some 1, .box 28 (.tmp 0), none⟩,
  ⟨some 2, .assign (.const (.bool false)), none⟩] false).seq ((SC.region 1 [⟨some 5, .fieldAddr 28 (.tmp 1) 0, none⟩,
  ⟨some 6, .load 25 (.tmp 5), none⟩,
  ⟨some 7, .call { callee := .value (.func 25), args := #[.tmp 6], argTypes := #[25] }, none⟩,
  ⟨some 8, .fieldAddr 28 (.tmp 1) 2, none⟩,
  ⟨some 9, .load 26 (.tmp 8), none⟩,
  ⟨some 10, .call { callee := .builtin .len, args := #[.tmp 9], argTypes := #[26] }, none⟩,
  ⟨some 11, .binOp .add 3 (.tmp 7) (.tmp 10) 3, none⟩,
  ⟨some 3, .assign (.tmp 11), none⟩] true).seq (((SC.region 2 [⟨some 4, .assign (.const (.int .i64 0)), none⟩] false).seq (SC.block 0 (SC.loop s9L0))).seq ((SC.region 6 [⟨some 41, .move (.tmp 3), none⟩,
  ⟨some 42, .binOp .gtr 3 (.tmp 41) (.const (.int .i64 700)) 3, none⟩,
  ⟨some 2, .assign (.tmp 42), none⟩] false).seq SC.ret))))
theorem sl9 : Try.f9.body.map slim = some s9 := by kernel_rfl
theorem ok9 : fnOK calmB Try.f9 0 = true := by kernel_rfl

/-- lectionarylaw14.num -/
def s13 : SC := ((SC.region 0 [⟨some 2, .assign (.const (.int .i64 0)), none⟩] false).seq ((SC.region 1 [⟨some 3, .move (.tmp 0), none⟩,
  ⟨some 2, .assign (.tmp 3), none⟩] false).seq SC.ret))
theorem sl13 : Try.f13.body.map slim = some s13 := by kernel_rfl
theorem ok13 : fnOK calmB Try.f13 0 = true := by kernel_rfl

/-- lectionarylaw14.wakes -/
def s18 : SC := ((SC.region 0 [⟨some 0, .assign (.const (.bool false)), none⟩] false).seq ((SC.region 1 [⟨some 12, .call { callee := .value (.func 19), args := #[.const (.int .i64 3)], argTypes := #[3] }, none⟩,
  ⟨some 11, .move (.tmp 12), none⟩,
  ⟨some 13, .extract (.tmp 11) 0, none⟩,
  ⟨some 14, .extract (.tmp 11) 1, none⟩,
  ⟨some 1, .alloc 25, none⟩,
  ⟨none, .store 25 (.tmp 1) (.tmp 13), none⟩,
  ⟨some 2, .assign (.tmp 14), none⟩] false).seq ((SC.region 2 [⟨some 15, .makeSlice 31 (.const (.int .i64 31)) (.const (.int .i64 31)), none⟩,
  ⟨some 16, .convert 31 9 (.tmp 15), none⟩,
  ⟨some 17, .binOp .add 9 (.tmp 16) (.const (.string { data := #[120] })) 9, none⟩,
  ⟨some 3, .assign (.tmp 17), none⟩] false).seq ((SC.region 3 [⟨some 19, .load 25 (.tmp 1), none⟩,
  ⟨some 20, .move (.tmp 3), none⟩,
  ⟨some 21, .call { callee := .value (.func 11), args := #[.tmp 19, .const (.int .i64 2), .tmp 20], argTypes := #[25, 3, 9] }, none⟩,
  ⟨some 18, .move (.tmp 21), none⟩,
  ⟨some 22, .extract (.tmp 18) 0, none⟩,
  ⟨some 23, .extract (.tmp 18) 1, none⟩,
  ⟨none, .store 25 (.tmp 1) (.tmp 22), none⟩,
  ⟨some 4, .assign (.tmp 23), none⟩] false).seq ((SC.region 4 [⟨some 25, .load 25 (.tmp 1), none⟩,
  ⟨some 26, .call { callee := .value (.func 16), args := #[.tmp 25, .const (.slice none 0 0)], argTypes := #[25, 38] }, none⟩,
  ⟨some 24, .move (.tmp 26), none⟩,
  ⟨some 27, .extract (.tmp 24) 0, none⟩,
  ⟨some 28, .extract (.tmp 24) 1, none⟩,
  ⟨some 5, .alloc 25, none⟩,
  ⟨none, .store 25 (.tmp 5) (.tmp 27), none⟩,
  ⟨some 6, .assign (.tmp 28), none⟩] false).seq ((SC.region 5 [⟨some 30, .load 25 (.tmp 1), none⟩,
  ⟨some 31, .call { callee := .value (.func 12), args := #[.tmp 30], argTypes := #[25] }, none⟩,
  ⟨some 29, .move (.tmp 31), none⟩,
  ⟨some 32, .extract (.tmp 29) 0, none⟩,
  ⟨some 33, .extract (.tmp 29) 1, none⟩,
  ⟨some 7, .alloc 25, none⟩,
  ⟨none, .store 25 (.tmp 7) (.tmp 32), none⟩,
  ⟨some 8, .assign (.tmp 33), none⟩] false).seq ((SC.region 6 [⟨some 35, .load 25 (.tmp 7), none⟩,
  ⟨some 36, .call { callee := .value (.func 35), args := #[.tmp 35, .const (.int .i64 2)], argTypes := #[25, 3] }, none⟩,
  ⟨some 34, .move (.tmp 36), none⟩,
  ⟨some 37, .extract (.tmp 34) 0, none⟩,
  ⟨some 38, .extract (.tmp 34) 1, none⟩,
  ⟨some 9, .assign (.tmp 37), none⟩,
  ⟨some 10, .assign (.tmp 38), none⟩] false).seq ((SC.region 7 [⟨some 39, .move (.tmp 2), none⟩,
  ⟨some 40, .call { callee := .value (.func 13), args := #[.tmp 39], argTypes := #[32] }, none⟩,
  ⟨some 41, .binOp .eql 3 (.tmp 40) (.const (.int .i64 0)) 3, none⟩,
  ⟨some 42, .move (.tmp 41), none⟩,
  ⟨some 43, .move (.tmp 4), some (some 42, true)⟩,
  ⟨some 44, .call { callee := .value (.func 13), args := #[.tmp 43], argTypes := #[32] }, some (some 42, true)⟩,
  ⟨some 45, .binOp .eql 3 (.tmp 44) (.const (.int .i64 0)) 3, some (some 42, true)⟩,
  ⟨some 46, .pick (.tmp 42) (.tmp 45) (.const (.bool false)), none⟩,
  ⟨some 47, .move (.tmp 46), none⟩,
  ⟨some 48, .move (.tmp 6), some (some 47, true)⟩,
  ⟨some 49, .call { callee := .value (.func 13), args := #[.tmp 48], argTypes := #[32] }, some (some 47, true)⟩,
  ⟨some 50, .binOp .eql 3 (.tmp 49) (.const (.int .i64 0)) 3, some (some 47, true)⟩,
  ⟨some 51, .pick (.tmp 47) (.tmp 50) (.const (.bool false)), none⟩,
  ⟨some 52, .move (.tmp 51), none⟩,
  ⟨some 53, .move (.tmp 8), some (some 52, true)⟩,
  ⟨some 54, .call { callee := .value (.func 13), args := #[.tmp 53], argTypes := #[32] }, some (some 52, true)⟩,
  ⟨some 55, .binOp .eql 3 (.tmp 54) (.const (.int .i64 0)) 3, some (some 52, true)⟩,
  ⟨some 56, .pick (.tmp 52) (.tmp 55) (.const (.bool false)), none⟩,
  ⟨some 57, .move (.tmp 56), none⟩,
  ⟨some 58, .move (.tmp 10), some (some 57, true)⟩,
  ⟨some 59, .call { callee := .value (.func 13), args := #[.tmp 58], argTypes := #[32] }, some (some 57, true)⟩,
  ⟨some 60, .binOp .eql 3 (.tmp 59) (.const (.int .i64 0)) 3, some (some 57, true)⟩,
  ⟨some 61, .pick (.tmp 57) (.tmp 60) (.const (.bool false)), none⟩,
  ⟨some 62, .move (.tmp 61), none⟩,
  ⟨some 63, .fieldAddr 25 (.tmp 5) 0, some (some 62, true)⟩,
  ⟨some 64, .load 22 (.tmp 63), some (some 62, true)⟩,
  ⟨some 65, .call { callee := .builtin .len, args := #[.tmp 64], argTypes := #[22] }, some (some 62, true)⟩,
  ⟨some 66, .binOp .eql 3 (.tmp 65) (.const (.int .i64 3)) 3, some (some 62, true)⟩,
  ⟨some 67, .pick (.tmp 62) (.tmp 66) (.const (.bool false)), none⟩,
  ⟨some 68, .move (.tmp 67), none⟩,
  ⟨some 69, .fieldAddr 25 (.tmp 5) 0, some (some 68, true)⟩,
  ⟨some 70, .load 22 (.tmp 69), some (some 68, true)⟩,
  ⟨some 71, .indexAddr 22 (.tmp 70) (.const (.int .i64 2)), some (some 68, true)⟩,
  ⟨some 72, .load 9 (.tmp 71), some (some 68, true)⟩,
  ⟨some 73, .makeSlice 31 (.const (.int .i64 32)) (.const (.int .i64 32)), some (some 68, true)⟩,
  ⟨some 74, .convert 31 9 (.tmp 73), some (some 68, true)⟩,
  ⟨some 75, .binOp .eql 9 (.tmp 72) (.tmp 74) 9, some (some 68, true)⟩,
  ⟨some 76, .pick (.tmp 68) (.tmp 75) (.const (.bool false)), none⟩,
  ⟨some 77, .move (.tmp 76), none⟩,
  ⟨some 78, .move (.tmp 9), some (some 77, true)⟩,
  ⟨some 79, .move (.tmp 3), some (some 77, true)⟩,
  ⟨some 80, .binOp .eql 9 (.tmp 78) (.tmp 79) 9, some (some 77, true)⟩,
  ⟨some 81, .pick (.tmp 77) (.tmp 80) (.const (.bool false)), none⟩,
  ⟨some 0, .assign (.tmp 81), none⟩] true).seq SC.ret))))))))
theorem sl18 : Try.f18.body.map slim = some s18 := by kernel_rfl
theorem ok18 : fnOK calmB Try.f18 0 = true := by kernel_rfl

/-- lectionarylaw14.step -/
def s23 : SC := ((SC.region 0 [⟨some 2, .box 25 (.tmp 0), none⟩,
  ⟨some 3, .box 40 (.tmp 1), none⟩,
  ⟨some 4, .alloc 25, none⟩,
  ⟨some 5, .assign (.const (.bool false)), none⟩] false).seq ((SC.region 1 [⟨some 16, .load 25 (.tmp 2), none⟩,
  ⟨some 17, .call { callee := .value (.func 22), args := #[.tmp 16], argTypes := #[25] }, none⟩,
  ⟨some 6, .alloc 25, none⟩,
  ⟨none, .store 25 (.tmp 6) (.tmp 17), none⟩] false).seq ((SC.region 2 [⟨some 18, .load 25 (.tmp 2), none⟩,
  ⟨some 19, .call { callee := .value (.func 14), args := #[.tmp 18], argTypes := #[25] }, none⟩,
  ⟨some 7, .assign (.tmp 19), none⟩] false).seq ((SC.region 3 [⟨some 8, .assign (.const (.int .i64 1)), none⟩] false).seq ((SC.region 4 [⟨some 9, .alloc 25, none⟩,
  ⟨some 10, .alloc 25, none⟩] false).seq ((SC.region 5 [⟨some 11, .assign (.const (.int .i64 0)), none⟩] false).seq (((SC.region 6 [⟨some 20, .fieldAddr 40 (.tmp 3) 0, none⟩,
  ⟨some 21, .load 3 (.tmp 20), none⟩,
  ⟨some 22, .call { callee := .value (.func 15), args := #[.tmp 21, .const (.int .i64 6)], argTypes := #[3, 3] }, none⟩] false).seq (SC.block 0 ((SC.region 10 [⟨some 49, .binOp .eql 3 (.tmp 22) (.const (.int .i64 3)) 3, none⟩,
  ⟨some 48, .assign (.tmp 49), none⟩] false).seq (SC.cond (.tmp 48) ((SC.region 11 [⟨some 51, .load 25 (.tmp 6), none⟩,
  ⟨some 52, .call { callee := .value (.func 12), args := #[.tmp 51], argTypes := #[25] }, none⟩,
  ⟨some 50, .move (.tmp 52), none⟩,
  ⟨some 53, .extract (.tmp 50) 0, none⟩,
  ⟨some 54, .extract (.tmp 50) 1, none⟩,
  ⟨none, .store 25 (.tmp 9) (.tmp 53), none⟩,
  ⟨some 11, .assign (.tmp 54), none⟩] false).seq ((SC.region 12 [⟨some 55, .move (.tmp 7), none⟩] false).seq (SC.cond (.tmp 55) (SC.region 13 [⟨some 56, .load 25 (.tmp 2), none⟩,
  ⟨some 57, .call { callee := .value (.func 40), args := #[.tmp 56], argTypes := #[25] }, none⟩,
  ⟨some 8, .assign (.const (.int .i64 0)), none⟩,
  ⟨none, .store 25 (.tmp 10) (.tmp 57), none⟩] false) SC.skip))) ((SC.region 14 [⟨some 59, .binOp .eql 3 (.tmp 22) (.const (.int .i64 4)) 3, none⟩,
  ⟨some 58, .assign (.tmp 59), none⟩] false).seq (SC.cond (.tmp 58) ((SC.region 15 [⟨some 60, .fieldAddr 40 (.tmp 3) 3, none⟩,
  ⟨some 61, .load 38 (.tmp 60), none⟩,
  ⟨some 62, .call { callee := .value (.func 41), args := #[.tmp 61], argTypes := #[38] }, none⟩,
  ⟨some 12, .assign (.tmp 62), none⟩] false).seq ((SC.region 16 [⟨some 64, .load 25 (.tmp 6), none⟩,
  ⟨some 65, .move (.tmp 12), none⟩,
  ⟨some 66, .call { callee := .value (.func 16), args := #[.tmp 64, .tmp 65], argTypes := #[25, 38] }, none⟩,
  ⟨some 63, .move (.tmp 66), none⟩,
  ⟨some 67, .extract (.tmp 63) 0, none⟩,
  ⟨some 68, .extract (.tmp 63) 1, none⟩,
  ⟨none, .store 25 (.tmp 9) (.tmp 67), none⟩,
  ⟨some 11, .assign (.tmp 68), none⟩] false).seq ((SC.region 17 [⟨some 69, .move (.tmp 7), none⟩] false).seq (SC.cond (.tmp 69) (SC.region 18 [⟨some 70, .load 25 (.tmp 2), none⟩,
  ⟨some 71, .fieldAddr 40 (.tmp 3) 3, none⟩,
  ⟨some 72, .load 38 (.tmp 71), none⟩,
  ⟨some 73, .call { callee := .value (.func 20), args := #[.tmp 70, .tmp 72], argTypes := #[25, 38] }, none⟩,
  ⟨some 8, .assign (.const (.int .i64 0)), none⟩,
  ⟨none, .store 25 (.tmp 10) (.tmp 73), none⟩] false) SC.skip)))) ((SC.region 19 [⟨some 75, .binOp .eql 3 (.tmp 22) (.const (.int .i64 5)) 3, none⟩,
  ⟨some 74, .assign (.tmp 75), none⟩] false).seq (SC.cond (.tmp 74) ((SC.region 20 [⟨some 77, .load 25 (.tmp 6), none⟩,
  ⟨some 78, .fieldAddr 40 (.tmp 3) 1, none⟩,
  ⟨some 79, .load 3 (.tmp 78), none⟩,
  ⟨some 80, .call { callee := .value (.func 35), args := #[.tmp 77, .tmp 79], argTypes := #[25, 3] }, none⟩,
  ⟨some 76, .move (.tmp 80), none⟩,
  ⟨some 81, .extract (.tmp 76) 0, none⟩,
  ⟨some 82, .extract (.tmp 76) 1, none⟩,
  ⟨some 13, .assign (.tmp 81), none⟩,
  ⟨some 14, .assign (.tmp 82), none⟩] false).seq ((SC.region 21 [⟨some 15, .assign (.const (.string { data := #[] })), none⟩] false).seq (((SC.region 22 [⟨some 83, .move (.tmp 7), none⟩] false).seq (SC.cond (.tmp 83) ((SC.region 23 [⟨some 8, .assign (.const (.int .i64 3)), none⟩] false).seq ((SC.region 24 [⟨some 84, .fieldAddr 40 (.tmp 3) 1, none⟩,
  ⟨some 85, .load 3 (.tmp 84), none⟩,
  ⟨some 86, .fieldAddr 25 (.tmp 2) 0, none⟩,
  ⟨some 87, .load 22 (.tmp 86), none⟩,
  ⟨some 88, .call { callee := .builtin .len, args := #[.tmp 87], argTypes := #[22] }, none⟩,
  ⟨some 89, .binOp .sub 3 (.tmp 88) (.const (.int .i64 1)) 3, none⟩,
  ⟨some 90, .call { callee := .value (.func 31), args := #[.tmp 85, .tmp 89], argTypes := #[3, 3] }, none⟩] false).seq (SC.cond (.tmp 90) (SC.region 25 [⟨some 91, .load 25 (.tmp 2), none⟩,
  ⟨some 92, .call { callee := .value (.func 40), args := #[.tmp 91], argTypes := #[25] }, none⟩,
  ⟨some 93, .field 25 (.tmp 92) 0, none⟩,
  ⟨some 94, .fieldAddr 40 (.tmp 3) 1, none⟩,
  ⟨some 95, .load 3 (.tmp 94), none⟩,
  ⟨some 96, .indexAddr 22 (.tmp 93) (.tmp 95), none⟩,
  ⟨some 97, .load 9 (.tmp 96), none⟩,
  ⟨some 8, .assign (.const (.int .i64 0)), none⟩,
  ⟨some 15, .assign (.tmp 97), none⟩] true) SC.skip))) SC.skip)).seq ((SC.region 26 [⟨some 98, .load 25 (.tmp 2), none⟩,
  ⟨some 99, .move (.tmp 14), none⟩,
  ⟨some 100, .call { callee := .value (.func 13), args := #[.tmp 99], argTypes := #[32] }, none⟩,
  ⟨some 101, .move (.tmp 8), none⟩,
  ⟨some 102, .binOp .eql 3 (.tmp 100) (.tmp 101) 3, none⟩,
  ⟨some 103, .move (.tmp 102), none⟩,
  ⟨some 104, .move (.tmp 13), some (some 103, true)⟩,
  ⟨some 105, .move (.tmp 15), some (some 103, true)⟩,
  ⟨some 106, .binOp .eql 9 (.tmp 104) (.tmp 105) 9, some (some 103, true)⟩,
  ⟨some 107, .pick (.tmp 103) (.tmp 106) (.const (.bool false)), none⟩,
  ⟨some 108, .move (.tmp 107), none⟩,
  ⟨some 109, .load 25 (.tmp 6), some (some 108, true)⟩,
  ⟨some 110, .load 25 (.tmp 2), some (some 108, true)⟩,
  ⟨some 111, .call { callee := .value (.func 17), args := #[.tmp 109, .tmp 110], argTypes := #[25, 25] }, some (some 108, true)⟩,
  ⟨some 112, .pick (.tmp 108) (.tmp 111) (.const (.bool false)), none⟩,
  ⟨none, .store 25 (.tmp 4) (.tmp 98), none⟩,
  ⟨some 5, .assign (.tmp 112), none⟩] true).seq SC.ret)))) ((SC.region 7 [⟨some 24, .load 25 (.tmp 6), none⟩,
  ⟨some 25, .fieldAddr 40 (.tmp 3) 1, none⟩,
  ⟨some 26, .load 3 (.tmp 25), none⟩,
  ⟨some 27, .fieldAddr 40 (.tmp 3) 2, none⟩,
  ⟨some 28, .load 9 (.tmp 27), none⟩,
  ⟨some 29, .call { callee := .value (.func 11), args := #[.tmp 24, .tmp 26, .tmp 28], argTypes := #[25, 3, 9] }, none⟩,
  ⟨some 23, .move (.tmp 29), none⟩,
  ⟨some 30, .extract (.tmp 23) 0, none⟩,
  ⟨some 31, .extract (.tmp 23) 1, none⟩,
  ⟨none, .store 25 (.tmp 9) (.tmp 30), none⟩,
  ⟨some 11, .assign (.tmp 31), none⟩] false).seq ((SC.region 8 [⟨some 32, .move (.tmp 7), none⟩,
  ⟨some 33, .move (.tmp 32), none⟩,
  ⟨some 34, .fieldAddr 40 (.tmp 3) 2, some (some 33, true)⟩,
  ⟨some 35, .load 9 (.tmp 34), some (some 33, true)⟩,
  ⟨some 36, .call { callee := .builtin .len, args := #[.tmp 35], argTypes := #[9] }, some (some 33, true)⟩,
  ⟨some 37, .binOp .eql 3 (.tmp 36) (.const (.int .i64 32)) 3, some (some 33, true)⟩,
  ⟨some 38, .pick (.tmp 33) (.tmp 37) (.const (.bool false)), none⟩] false).seq (SC.cond (.tmp 38) (SC.region 9 [⟨some 40, .load 25 (.tmp 2), none⟩,
  ⟨some 41, .fieldAddr 40 (.tmp 3) 1, none⟩,
  ⟨some 42, .load 3 (.tmp 41), none⟩,
  ⟨some 43, .fieldAddr 40 (.tmp 3) 2, none⟩,
  ⟨some 44, .load 9 (.tmp 43), none⟩,
  ⟨some 45, .call { callee := .value (.func 42), args := #[.tmp 40, .tmp 42, .tmp 44], argTypes := #[25, 3, 9] }, none⟩,
  ⟨some 39, .move (.tmp 45), none⟩,
  ⟨some 46, .extract (.tmp 39) 0, none⟩,
  ⟨some 47, .extract (.tmp 39) 1, none⟩,
  ⟨none, .store 25 (.tmp 10) (.tmp 46), none⟩,
  ⟨some 8, .assign (.tmp 47), none⟩] false) SC.skip))))))))))).seq (((SC.region 27 [⟨some 113, .move (.tmp 11), none⟩,
  ⟨some 114, .call { callee := .value (.func 13), args := #[.tmp 113], argTypes := #[32] }, none⟩,
  ⟨some 115, .move (.tmp 8), none⟩,
  ⟨some 116, .binOp .neq 3 (.tmp 114) (.tmp 115) 3, none⟩,
  ⟨some 117, .move (.tmp 116), none⟩,
  ⟨some 118, .load 25 (.tmp 9), some (some 117, false)⟩,
  ⟨some 119, .load 25 (.tmp 10), some (some 117, false)⟩,
  ⟨some 120, .call { callee := .value (.func 17), args := #[.tmp 118, .tmp 119], argTypes := #[25, 25] }, some (some 117, false)⟩,
  ⟨some 121, .unOp .not 4 (.tmp 120), some (some 117, false)⟩,
  ⟨some 122, .pick (.tmp 117) (.const (.bool true)) (.tmp 121), none⟩,
  ⟨some 123, .move (.tmp 122), none⟩,
  ⟨some 124, .load 25 (.tmp 6), some (some 123, false)⟩,
  ⟨some 125, .load 25 (.tmp 2), some (some 123, false)⟩,
  ⟨some 126, .call { callee := .value (.func 17), args := #[.tmp 124, .tmp 125], argTypes := #[25, 25] }, some (some 123, false)⟩,
  ⟨some 127, .unOp .not 4 (.tmp 126), some (some 123, false)⟩,
  ⟨some 128, .pick (.tmp 123) (.const (.bool true)) (.tmp 127), none⟩,
  ⟨some 129, .move (.tmp 128), none⟩,
  ⟨some 130, .load 25 (.tmp 6), some (some 129, false)⟩,
  ⟨some 131, .call { callee := .value (.func 43), args := #[.tmp 130], argTypes := #[25] }, some (some 129, false)⟩,
  ⟨some 132, .call { callee := .value (.func 13), args := #[.tmp 131], argTypes := #[32] }, some (some 129, false)⟩,
  ⟨some 133, .binOp .eql 3 (.tmp 132) (.const (.int .i64 0)) 3, some (some 129, false)⟩,
  ⟨some 134, .move (.tmp 7), some (some 129, false)⟩,
  ⟨some 135, .binOp .neq 4 (.tmp 133) (.tmp 134) 4, some (some 129, false)⟩,
  ⟨some 136, .pick (.tmp 129) (.const (.bool true)) (.tmp 135), none⟩] false).seq (SC.cond (.tmp 136) ((SC.region 28 [⟨some 137, .load 25 (.tmp 2), none⟩,
  ⟨none, .store 25 (.tmp 4) (.tmp 137), none⟩,
  ⟨some 5, .assign (.const (.bool false)), none⟩] false).seq SC.ret) SC.skip)).seq ((SC.region 29 [⟨some 138, .load 25 (.tmp 9), none⟩,
  ⟨some 139, .call { callee := .value (.func 44), args := #[.tmp 138], argTypes := #[25] }, none⟩] false).seq (((SC.region 30 [⟨some 140, .load 25 (.tmp 6), none⟩,
  ⟨some 141, .load 25 (.tmp 2), none⟩,
  ⟨some 142, .call { callee := .value (.func 17), args := #[.tmp 140, .tmp 141], argTypes := #[25, 25] }, none⟩,
  ⟨some 143, .unOp .not 4 (.tmp 142), none⟩] false).seq (SC.cond (.tmp 143) ((SC.region 31 [⟨some 144, .load 25 (.tmp 2), none⟩,
  ⟨none, .store 25 (.tmp 4) (.tmp 144), none⟩,
  ⟨some 5, .assign (.const (.bool false)), none⟩] false).seq SC.ret) SC.skip)).seq (((SC.region 32 [⟨some 145, .move (.tmp 8), none⟩,
  ⟨some 146, .binOp .neq 3 (.tmp 145) (.const (.int .i64 0)) 3, none⟩] false).seq (SC.cond (.tmp 146) ((SC.region 33 [⟨some 147, .load 25 (.tmp 2), none⟩,
  ⟨none, .store 25 (.tmp 4) (.tmp 147), none⟩,
  ⟨some 5, .assign (.const (.bool true)), none⟩] false).seq SC.ret) SC.skip)).seq ((SC.region 34 [⟨some 148, .load 25 (.tmp 10), none⟩,
  ⟨some 149, .call { callee := .value (.func 22), args := #[.tmp 148], argTypes := #[25] }, none⟩,
  ⟨none, .store 25 (.tmp 4) (.tmp 149), none⟩,
  ⟨some 5, .assign (.const (.bool true)), none⟩] false).seq SC.ret))))))))))))
theorem sl23 : Try.f23.body.map slim = some s23 := by kernel_rfl
theorem ok23 : fnOK calmB Try.f23 0 = true := by kernel_rfl

def s24L0 : SC := (((SC.region 4 [⟨some 10, .move (.tmp 6), none⟩,
  ⟨some 11, .fieldAddr 28 (.tmp 2) 2, none⟩,
  ⟨some 12, .load 26 (.tmp 11), none⟩,
  ⟨some 13, .call { callee := .builtin .len, args := #[.tmp 12], argTypes := #[26] }, none⟩,
  ⟨some 14, .binOp .lss 3 (.tmp 10) (.tmp 13) 3, none⟩] false).seq (SC.cond (.tmp 14) SC.skip (SC.exit 0))).seq ((SC.block 1 ((SC.region 6 [⟨some 17, .fieldAddr 28 (.tmp 2) 2, none⟩,
  ⟨some 18, .load 26 (.tmp 17), none⟩,
  ⟨some 19, .move (.tmp 6), none⟩,
  ⟨some 20, .indexAddr 26 (.tmp 18) (.tmp 19), none⟩,
  ⟨some 21, .load 40 (.tmp 20), none⟩,
  ⟨some 7, .alloc 40, none⟩,
  ⟨none, .store 40 (.tmp 7) (.tmp 21), none⟩] false).seq ((SC.region 7 [⟨some 22, .move (.tmp 1), none⟩,
  ⟨some 23, .move (.tmp 6), none⟩,
  ⟨some 24, .move (.tmp 1), none⟩,
  ⟨some 25, .call { callee := .builtin .len, args := #[.tmp 24], argTypes := #[38] }, none⟩,
  ⟨some 26, .binOp .rem 3 (.tmp 23) (.tmp 25) 3, none⟩,
  ⟨some 27, .indexAddr 38 (.tmp 22) (.tmp 26), none⟩,
  ⟨some 28, .load 3 (.tmp 27), none⟩,
  ⟨some 29, .fieldAddr 40 (.tmp 7) 0, none⟩,
  ⟨none, .store 3 (.tmp 29) (.tmp 28), none⟩] false).seq (SC.region 8 [⟨some 30, .fieldAddr 28 (.tmp 5) 2, none⟩,
  ⟨some 31, .load 26 (.tmp 30), none⟩,
  ⟨some 32, .load 40 (.tmp 7), none⟩,
  ⟨some 33, .buildSlice 26 1 #[(0, .tmp 32)], none⟩,
  ⟨some 34, .call { callee := .builtin .append, args := #[.tmp 31, .tmp 33], argTypes := #[26, 26] }, none⟩,
  ⟨some 35, .fieldAddr 28 (.tmp 5) 2, none⟩,
  ⟨none, .store 26 (.tmp 35) (.tmp 34), none⟩] false)))).seq (SC.region 5 [⟨some 15, .move (.tmp 6), none⟩,
  ⟨some 16, .binOp .add 3 (.tmp 15) (.const (.int .i64 1)) 3, none⟩,
  ⟨some 6, .assign (.tmp 16), none⟩] false)))
/-- lectionarylaw14.only -/
def s24 : SC := ((SC.region 0 [⟨some 2, .box 28 (.tmp 0), none⟩,
  ⟨some 4, .assign (.const (.bool false)), none⟩] false).seq ((SC.region 1 [⟨some 8, .load 28 (.tmp 2), none⟩,
  ⟨some 5, .alloc 28, none⟩,
  ⟨none, .store 28 (.tmp 5) (.tmp 8), none⟩] false).seq ((SC.region 2 [⟨some 9, .fieldAddr 28 (.tmp 5) 2, none⟩,
  ⟨none, .store 26 (.tmp 9) (.const (.slice none 0 0)), none⟩] false).seq (((SC.region 3 [⟨some 6, .assign (.const (.int .i64 0)), none⟩] false).seq (SC.block 0 (SC.loop s24L0))).seq ((SC.region 9 [⟨some 36, .load 28 (.tmp 5), none⟩,
  ⟨some 37, .call { callee := .value (.func 5), args := #[.tmp 36], argTypes := #[28] }, none⟩,
  ⟨some 4, .assign (.tmp 37), none⟩] false).seq SC.ret)))))
theorem sl24 : Try.f24.body.map slim = some s24 := by kernel_rfl
theorem ok24 : fnOK calmB Try.f24 0 = true := by kernel_rfl

def s10L0 : SC := (((SC.region 3 [⟨some 5, .move (.tmp 4), none⟩,
  ⟨some 6, .move (.tmp 0), none⟩,
  ⟨some 7, .binOp .lss 3 (.tmp 5) (.tmp 6) 3, none⟩] false).seq (SC.cond (.tmp 7) SC.skip (SC.exit 0))).seq ((SC.block 1 (SC.region 5 [⟨some 10, .fieldAddr 25 (.tmp 3) 0, none⟩,
  ⟨some 11, .load 22 (.tmp 10), none⟩,
  ⟨some 12, .call { callee := .value (.func 26), args := #[], argTypes := #[] }, none⟩,
  ⟨some 13, .buildSlice 22 1 #[(0, .tmp 12)], none⟩,
  ⟨some 14, .call { callee := .builtin .append, args := #[.tmp 11, .tmp 13], argTypes := #[22, 22] }, none⟩,
  ⟨some 15, .fieldAddr 25 (.tmp 3) 0, none⟩,
  ⟨none, .store 22 (.tmp 15) (.tmp 14), none⟩] true)).seq (SC.region 4 [⟨some 8, .move (.tmp 4), none⟩,
  ⟨some 9, .binOp .add 3 (.tmp 8) (.const (.int .i64 1)) 3, none⟩,
  ⟨some 4, .assign (.tmp 9), none⟩] false)))
/-- lectionaryref14.New -/
def s10 : SC := ((SC.region 0 [⟨some 2, .alloc 25, none⟩] false).seq ((SC.region 1 [⟨some 3, .alloc 25, none⟩] false).seq (((SC.region 2 [⟨some 4, .assign (.const (.int .i64 0)), none⟩] false).seq (SC.block 0 (SC.loop s10L0))).seq ((SC.region 6 [⟨some 16, .load 25 (.tmp 3), none⟩,
  ⟨none, .store 25 (.tmp 2) (.tmp 16), none⟩] false).seq SC.ret))))
theorem sl10 : Try.f10.body.map slim = some s10 := by kernel_rfl
theorem ok10 : fnOK calmB Try.f10 0 = true := by kernel_rfl

def s14L0 : SC := (((SC.region 4 [⟨some 16, .move (.tmp 3), none⟩,
  ⟨some 17, .fieldAddr 25 (.tmp 1) 0, none⟩,
  ⟨some 18, .load 22 (.tmp 17), none⟩,
  ⟨some 19, .call { callee := .builtin .len, args := #[.tmp 18], argTypes := #[22] }, none⟩,
  ⟨some 20, .binOp .lss 3 (.tmp 16) (.tmp 19) 3, none⟩] false).seq (SC.cond (.tmp 20) SC.skip (SC.exit 0))).seq ((SC.block 1 ((SC.region 6 [⟨some 23, .fieldAddr 25 (.tmp 1) 0, none⟩,
  ⟨some 24, .load 22 (.tmp 23), none⟩,
  ⟨some 25, .move (.tmp 3), none⟩,
  ⟨some 26, .indexAddr 22 (.tmp 24) (.tmp 25), none⟩,
  ⟨some 27, .load 9 (.tmp 26), none⟩,
  ⟨some 28, .call { callee := .builtin .len, args := #[.tmp 27], argTypes := #[9] }, none⟩,
  ⟨some 29, .binOp .neq 3 (.tmp 28) (.const (.int .i64 32)) 3, none⟩] false).seq (SC.cond (.tmp 29) ((SC.region 7 [⟨some 2, .assign (.const (.bool false)), none⟩] false).seq SC.ret) SC.skip))).seq (SC.region 5 [⟨some 21, .move (.tmp 3), none⟩,
  ⟨some 22, .binOp .add 3 (.tmp 21) (.const (.int .i64 1)) 3, none⟩,
  ⟨some 3, .assign (.tmp 22), none⟩] false)))
def s14L1 : SC := (((SC.region 9 [⟨some 30, .move (.tmp 4), none⟩,
  ⟨some 31, .fieldAddr 25 (.tmp 1) 1, none⟩,
  ⟨some 32, .load 23 (.tmp 31), none⟩,
  ⟨some 33, .call { callee := .builtin .len, args := #[.tmp 32], argTypes := #[23] }, none⟩,
  ⟨some 34, .binOp .lss 3 (.tmp 30) (.tmp 33) 3, none⟩] false).seq (SC.cond (.tmp 34) SC.skip (SC.exit 2))).seq ((SC.block 3 ((SC.region 11 [⟨some 37, .fieldAddr 25 (.tmp 1) 1, none⟩,
  ⟨some 38, .load 23 (.tmp 37), none⟩,
  ⟨some 39, .move (.tmp 4), none⟩,
  ⟨some 40, .indexAddr 23 (.tmp 38) (.tmp 39), none⟩,
  ⟨some 41, .fieldAddr 57 (.tmp 40) 0, none⟩,
  ⟨some 42, .load 3 (.tmp 41), none⟩,
  ⟨some 43, .fieldAddr 25 (.tmp 1) 0, none⟩,
  ⟨some 44, .load 22 (.tmp 43), none⟩,
  ⟨some 45, .call { callee := .builtin .len, args := #[.tmp 44], argTypes := #[22] }, none⟩,
  ⟨some 46, .binOp .sub 3 (.tmp 45) (.const (.int .i64 1)) 3, none⟩,
  ⟨some 47, .call { callee := .value (.func 31), args := #[.tmp 42, .tmp 46], argTypes := #[3, 3] }, none⟩,
  ⟨some 48, .unOp .not 4 (.tmp 47), none⟩,
  ⟨some 49, .move (.tmp 48), none⟩,
  ⟨some 50, .fieldAddr 25 (.tmp 1) 1, some (some 49, false)⟩,
  ⟨some 51, .load 23 (.tmp 50), some (some 49, false)⟩,
  ⟨some 52, .move (.tmp 4), some (some 49, false)⟩,
  ⟨some 53, .indexAddr 23 (.tmp 51) (.tmp 52), some (some 49, false)⟩,
  ⟨some 54, .fieldAddr 57 (.tmp 53) 1, some (some 49, false)⟩,
  ⟨some 55, .load 9 (.tmp 54), some (some 49, false)⟩,
  ⟨some 56, .call { callee := .builtin .len, args := #[.tmp 55], argTypes := #[9] }, some (some 49, false)⟩,
  ⟨some 57, .binOp .neq 3 (.tmp 56) (.const (.int .i64 32)) 3, some (some 49, false)⟩,
  ⟨some 58, .pick (.tmp 49) (.const (.bool true)) (.tmp 57), none⟩] true).seq (SC.cond (.tmp 58) ((SC.region 12 [⟨some 2, .assign (.const (.bool false)), none⟩] false).seq SC.ret) SC.skip))).seq (SC.region 10 [⟨some 35, .move (.tmp 4), none⟩,
  ⟨some 36, .binOp .add 3 (.tmp 35) (.const (.int .i64 1)) 3, none⟩,
  ⟨some 4, .assign (.tmp 36), none⟩] false)))
/-- lectionaryref14.Disk -/
def s14 : SC := ((SC.region 0 [⟨some 1, .box 25 (.tmp 0), none⟩,
  ⟨some 2, .assign (.const (.bool false)), none⟩] false).seq (((SC.region 1 [⟨some 5, .fieldAddr 25 (.tmp 1) 0, none⟩,
  ⟨some 6, .load 22 (.tmp 5), none⟩,
  ⟨some 7, .call { callee := .builtin .len, args := #[.tmp 6], argTypes := #[22] }, none⟩,
  ⟨some 8, .call { callee := .value (.func 21), args := #[.tmp 7, .const (.int .i64 1), .const (.int .i64 400)], argTypes := #[3, 3, 3] }, none⟩,
  ⟨some 9, .unOp .not 4 (.tmp 8), none⟩,
  ⟨some 10, .move (.tmp 9), none⟩,
  ⟨some 11, .fieldAddr 25 (.tmp 1) 1, some (some 10, false)⟩,
  ⟨some 12, .load 23 (.tmp 11), some (some 10, false)⟩,
  ⟨some 13, .call { callee := .builtin .len, args := #[.tmp 12], argTypes := #[23] }, some (some 10, false)⟩,
  ⟨some 14, .binOp .gtr 3 (.tmp 13) (.const (.int .i64 400)) 3, some (some 10, false)⟩,
  ⟨some 15, .pick (.tmp 10) (.const (.bool true)) (.tmp 14), none⟩] false).seq (SC.cond (.tmp 15) ((SC.region 2 [⟨some 2, .assign (.const (.bool false)), none⟩] false).seq SC.ret) SC.skip)).seq (((SC.region 3 [⟨some 3, .assign (.const (.int .i64 0)), none⟩] false).seq (SC.block 0 (SC.loop s14L0))).seq (((SC.region 8 [⟨some 4, .assign (.const (.int .i64 0)), none⟩] false).seq (SC.block 2 (SC.loop s14L1))).seq ((SC.region 13 [⟨some 2, .assign (.const (.bool true)), none⟩] false).seq SC.ret)))))
theorem sl14 : Try.f14.body.map slim = some s14 := by kernel_rfl
theorem ok14 : fnOK calmB Try.f14 0 = true := by kernel_rfl

def s20L0 : SC := (((SC.region 3 [⟨some 13, .move (.tmp 6), none⟩,
  ⟨some 14, .fieldAddr 25 (.tmp 2) 1, none⟩,
  ⟨some 15, .load 23 (.tmp 14), none⟩,
  ⟨some 16, .call { callee := .builtin .len, args := #[.tmp 15], argTypes := #[23] }, none⟩,
  ⟨some 17, .binOp .lss 3 (.tmp 13) (.tmp 16) 3, none⟩] false).seq (SC.cond (.tmp 17) SC.skip (SC.exit 0))).seq ((SC.block 1 ((SC.region 5 [⟨some 20, .fieldAddr 25 (.tmp 2) 1, none⟩,
  ⟨some 21, .load 23 (.tmp 20), none⟩,
  ⟨some 22, .move (.tmp 6), none⟩,
  ⟨some 23, .indexAddr 23 (.tmp 21) (.tmp 22), none⟩,
  ⟨some 24, .load 57 (.tmp 23), none⟩,
  ⟨some 7, .alloc 57, none⟩,
  ⟨none, .store 57 (.tmp 7) (.tmp 24), none⟩] false).seq ((SC.region 6 [⟨some 8, .assign (.const (.int .i64 0)), none⟩] false).seq (((SC.region 7 [⟨some 25, .move (.tmp 6), none⟩,
  ⟨some 26, .move (.tmp 1), none⟩,
  ⟨some 27, .call { callee := .builtin .len, args := #[.tmp 26], argTypes := #[38] }, none⟩,
  ⟨some 28, .binOp .lss 3 (.tmp 25) (.tmp 27) 3, none⟩,
  ⟨some 29, .move (.tmp 28), none⟩,
  ⟨some 30, .move (.tmp 1), some (some 29, true)⟩,
  ⟨some 31, .move (.tmp 6), some (some 29, true)⟩,
  ⟨some 32, .indexAddr 38 (.tmp 30) (.tmp 31), some (some 29, true)⟩,
  ⟨some 33, .load 3 (.tmp 32), some (some 29, true)⟩,
  ⟨some 34, .binOp .gtr 3 (.tmp 33) (.const (.int .i64 0)) 3, some (some 29, true)⟩,
  ⟨some 35, .pick (.tmp 29) (.tmp 34) (.const (.bool false)), none⟩] false).seq (SC.cond (.tmp 35) (SC.region 8 [⟨some 36, .move (.tmp 1), none⟩,
  ⟨some 37, .move (.tmp 6), none⟩,
  ⟨some 38, .indexAddr 38 (.tmp 36) (.tmp 37), none⟩,
  ⟨some 39, .load 3 (.tmp 38), none⟩,
  ⟨some 40, .binOp .rem 3 (.tmp 39) (.const (.int .i64 3)) 3, none⟩,
  ⟨some 8, .assign (.tmp 40), none⟩] false) SC.skip)).seq ((SC.region 9 [⟨some 41, .move (.tmp 8), none⟩] false).seq (SC.block 2 ((SC.region 10 [⟨some 43, .binOp .eql 3 (.tmp 41) (.const (.int .i64 1)) 3, none⟩,
  ⟨some 42, .assign (.tmp 43), none⟩] false).seq (SC.cond (.tmp 42) (SC.region 11 [⟨some 44, .fieldAddr 25 (.tmp 5) 0, none⟩,
  ⟨some 45, .load 22 (.tmp 44), none⟩,
  ⟨some 46, .fieldAddr 57 (.tmp 7) 0, none⟩,
  ⟨some 47, .load 3 (.tmp 46), none⟩,
  ⟨some 48, .fieldAddr 57 (.tmp 7) 1, none⟩,
  ⟨some 49, .load 9 (.tmp 48), none⟩,
  ⟨some 50, .indexAddr 22 (.tmp 45) (.tmp 47), none⟩,
  ⟨none, .store 9 (.tmp 50) (.tmp 49), none⟩] false) ((SC.region 12 [⟨some 52, .binOp .eql 3 (.tmp 41) (.const (.int .i64 2)) 3, none⟩,
  ⟨some 51, .assign (.tmp 52), none⟩] false).seq (SC.cond (.tmp 51) (SC.region 13 [⟨some 53, .fieldAddr 25 (.tmp 5) 0, none⟩,
  ⟨some 54, .load 22 (.tmp 53), none⟩,
  ⟨some 55, .fieldAddr 57 (.tmp 7) 0, none⟩,
  ⟨some 56, .load 3 (.tmp 55), none⟩,
  ⟨some 57, .fieldAddr 57 (.tmp 7) 1, none⟩,
  ⟨some 58, .load 9 (.tmp 57), none⟩,
  ⟨some 59, .slice 9 (.tmp 58) none (some (.const (.int .i64 16))) none, none⟩,
  ⟨some 60, .fieldAddr 25 (.tmp 5) 0, none⟩,
  ⟨some 61, .load 22 (.tmp 60), none⟩,
  ⟨some 62, .fieldAddr 57 (.tmp 7) 0, none⟩,
  ⟨some 63, .load 3 (.tmp 62), none⟩,
  ⟨some 64, .indexAddr 22 (.tmp 61) (.tmp 63), none⟩,
  ⟨some 65, .load 9 (.tmp 64), none⟩,
  ⟨some 66, .slice 9 (.tmp 65) (some (.const (.int .i64 16))) none none, none⟩,
  ⟨some 67, .binOp .add 9 (.tmp 59) (.tmp 66) 9, none⟩,
  ⟨some 68, .indexAddr 22 (.tmp 54) (.tmp 56), none⟩,
  ⟨none, .store 9 (.tmp 68) (.tmp 67), none⟩] true) SC.skip)))))))))).seq (SC.region 4 [⟨some 18, .move (.tmp 6), none⟩,
  ⟨some 19, .binOp .add 3 (.tmp 18) (.const (.int .i64 1)) 3, none⟩,
  ⟨some 6, .assign (.tmp 19), none⟩] false)))
/-- lectionaryref14.Crash -/
def s20 : SC := ((SC.region 0 [⟨some 2, .box 25 (.tmp 0), none⟩,
  ⟨some 4, .alloc 25, none⟩] false).seq ((SC.region 1 [⟨some 9, .fieldAddr 25 (.tmp 2) 0, none⟩,
  ⟨some 10, .load 22 (.tmp 9), none⟩,
  ⟨some 11, .call { callee := .value (.func 38), args := #[.tmp 10], argTypes := #[22] }, none⟩,
  ⟨some 12, .build 25 #[(0, .tmp 11)], none⟩,
  ⟨some 5, .alloc 25, none⟩,
  ⟨none, .store 25 (.tmp 5) (.tmp 12), none⟩] false).seq (((SC.region 2 [⟨some 6, .assign (.const (.int .i64 0)), none⟩] false).seq (SC.block 0 (SC.loop s20L0))).seq ((SC.region 14 [⟨some 69, .load 25 (.tmp 5), none⟩,
  ⟨none, .store 25 (.tmp 4) (.tmp 69), none⟩] false).seq SC.ret))))
theorem sl20 : Try.f20.body.map slim = some s20 := by kernel_rfl
theorem ok20 : fnOK calmB Try.f20 0 = true := by kernel_rfl

def s40L0 : SC := (((SC.region 3 [⟨some 9, .move (.tmp 4), none⟩,
  ⟨some 10, .fieldAddr 25 (.tmp 1) 1, none⟩,
  ⟨some 11, .load 23 (.tmp 10), none⟩,
  ⟨some 12, .call { callee := .builtin .len, args := #[.tmp 11], argTypes := #[23] }, none⟩,
  ⟨some 13, .binOp .lss 3 (.tmp 9) (.tmp 12) 3, none⟩] false).seq (SC.cond (.tmp 13) SC.skip (SC.exit 0))).seq ((SC.block 1 (SC.region 5 [⟨some 16, .fieldAddr 25 (.tmp 3) 0, none⟩,
  ⟨some 17, .load 22 (.tmp 16), none⟩,
  ⟨some 18, .fieldAddr 25 (.tmp 1) 1, none⟩,
  ⟨some 19, .load 23 (.tmp 18), none⟩,
  ⟨some 20, .move (.tmp 4), none⟩,
  ⟨some 21, .indexAddr 23 (.tmp 19) (.tmp 20), none⟩,
  ⟨some 22, .fieldAddr 57 (.tmp 21) 0, none⟩,
  ⟨some 23, .load 3 (.tmp 22), none⟩,
  ⟨some 24, .fieldAddr 25 (.tmp 1) 1, none⟩,
  ⟨some 25, .load 23 (.tmp 24), none⟩,
  ⟨some 26, .move (.tmp 4), none⟩,
  ⟨some 27, .indexAddr 23 (.tmp 25) (.tmp 26), none⟩,
  ⟨some 28, .fieldAddr 57 (.tmp 27) 1, none⟩,
  ⟨some 29, .load 9 (.tmp 28), none⟩,
  ⟨some 30, .indexAddr 22 (.tmp 17) (.tmp 23), none⟩,
  ⟨none, .store 9 (.tmp 30) (.tmp 29), none⟩] true)).seq (SC.region 4 [⟨some 14, .move (.tmp 4), none⟩,
  ⟨some 15, .binOp .add 3 (.tmp 14) (.const (.int .i64 1)) 3, none⟩,
  ⟨some 4, .assign (.tmp 15), none⟩] false)))
/-- lectionaryref14.Sync -/
def s40 : SC := ((SC.region 0 [⟨some 1, .box 25 (.tmp 0), none⟩,
  ⟨some 2, .alloc 25, none⟩] false).seq ((SC.region 1 [⟨some 5, .fieldAddr 25 (.tmp 1) 0, none⟩,
  ⟨some 6, .load 22 (.tmp 5), none⟩,
  ⟨some 7, .call { callee := .value (.func 38), args := #[.tmp 6], argTypes := #[22] }, none⟩,
  ⟨some 8, .build 25 #[(0, .tmp 7)], none⟩,
  ⟨some 3, .alloc 25, none⟩,
  ⟨none, .store 25 (.tmp 3) (.tmp 8), none⟩] false).seq (((SC.region 2 [⟨some 4, .assign (.const (.int .i64 0)), none⟩] false).seq (SC.block 0 (SC.loop s40L0))).seq ((SC.region 6 [⟨some 31, .load 25 (.tmp 3), none⟩,
  ⟨none, .store 25 (.tmp 2) (.tmp 31), none⟩] false).seq SC.ret))))
theorem sl40 : Try.f40.body.map slim = some s40 := by kernel_rfl
theorem ok40 : fnOK calmB Try.f40 0 = true := by kernel_rfl

/-- lectionaryref14.Put -/
def s42 : SC := ((SC.region 0 [⟨some 3, .box 25 (.tmp 0), none⟩,
  ⟨some 6, .alloc 25, none⟩,
  ⟨some 7, .assign (.const (.int .i64 0)), none⟩] false).seq (((SC.region 1 [⟨some 8, .move (.tmp 1), none⟩,
  ⟨some 9, .fieldAddr 25 (.tmp 3) 0, none⟩,
  ⟨some 10, .load 22 (.tmp 9), none⟩,
  ⟨some 11, .call { callee := .builtin .len, args := #[.tmp 10], argTypes := #[22] }, none⟩,
  ⟨some 12, .binOp .sub 3 (.tmp 11) (.const (.int .i64 1)) 3, none⟩,
  ⟨some 13, .call { callee := .value (.func 31), args := #[.tmp 8, .tmp 12], argTypes := #[3, 3] }, none⟩,
  ⟨some 14, .unOp .not 4 (.tmp 13), none⟩] false).seq (SC.cond (.tmp 14) ((SC.region 2 [⟨some 15, .build 25 #[], none⟩,
  ⟨none, .store 25 (.tmp 6) (.tmp 15), none⟩,
  ⟨some 7, .assign (.const (.int .i64 3)), none⟩] false).seq SC.ret) SC.skip)).seq (((SC.region 3 [⟨some 16, .fieldAddr 25 (.tmp 3) 1, none⟩,
  ⟨some 17, .load 23 (.tmp 16), none⟩,
  ⟨some 18, .call { callee := .builtin .len, args := #[.tmp 17], argTypes := #[23] }, none⟩,
  ⟨some 19, .binOp .geq 3 (.tmp 18) (.const (.int .i64 400)) 3, none⟩] false).seq (SC.cond (.tmp 19) ((SC.region 4 [⟨some 20, .build 25 #[], none⟩,
  ⟨none, .store 25 (.tmp 6) (.tmp 20), none⟩,
  ⟨some 7, .assign (.const (.int .i64 6)), none⟩] false).seq SC.ret) SC.skip)).seq ((SC.region 5 [⟨some 21, .load 25 (.tmp 3), none⟩,
  ⟨some 22, .call { callee := .value (.func 22), args := #[.tmp 21], argTypes := #[25] }, none⟩,
  ⟨none, .store 25 (.tmp 3) (.tmp 22), none⟩] false).seq ((SC.region 6 [⟨some 23, .fieldAddr 25 (.tmp 3) 1, none⟩,
  ⟨some 24, .load 23 (.tmp 23), none⟩,
  ⟨some 25, .move (.tmp 1), none⟩,
  ⟨some 26, .move (.tmp 2), none⟩,
  ⟨some 27, .build 57 #[(0, .tmp 25), (1, .tmp 26)], none⟩,
  ⟨some 28, .buildSlice 23 1 #[(0, .tmp 27)], none⟩,
  ⟨some 29, .call { callee := .builtin .append, args := #[.tmp 24, .tmp 28], argTypes := #[23, 23] }, none⟩,
  ⟨some 30, .fieldAddr 25 (.tmp 3) 1, none⟩,
  ⟨none, .store 23 (.tmp 30) (.tmp 29), none⟩] false).seq ((SC.region 7 [⟨some 31, .load 25 (.tmp 3), none⟩,
  ⟨none, .store 25 (.tmp 6) (.tmp 31), none⟩,
  ⟨some 7, .assign (.const (.int .i64 0)), none⟩] false).seq SC.ret))))))
theorem sl42 : Try.f42.body.map slim = some s42 := by kernel_rfl
theorem ok42 : fnOK calmB Try.f42 0 = true := by kernel_rfl

/-- lectionaryref14.Blank -/
def s26 : SC := ((SC.region 0 [⟨some 0, .assign (.const (.string { data := #[] })), none⟩] false).seq ((SC.region 1 [⟨some 1, .call { callee := .value (.func 45), args := #[.const (.int .i64 32)], argTypes := #[3] }, none⟩,
  ⟨some 0, .assign (.tmp 1), none⟩] false).seq SC.ret))
theorem sl26 : Try.f26.body.map slim = some s26 := by kernel_rfl
theorem ok26 : fnOK calmB Try.f26 0 = true := by kernel_rfl

/-- disk.Put -/
def s11 : SC := ((SC.region 0 [⟨some 3, .box 25 (.tmp 0), none⟩,
  ⟨some 6, .alloc 25, none⟩,
  ⟨some 7, .assign (.const (.int .i64 0)), none⟩] false).seq ((SC.block 0 ((SC.region 1 [⟨some 9, .load 25 (.tmp 3), none⟩,
  ⟨some 10, .call { callee := .value (.func 27), args := #[.tmp 9], argTypes := #[25] }, none⟩,
  ⟨some 11, .unOp .not 4 (.tmp 10), none⟩,
  ⟨some 12, .move (.tmp 11), none⟩,
  ⟨some 13, .move (.tmp 2), some (some 12, false)⟩,
  ⟨some 14, .call { callee := .value (.func 28), args := #[.tmp 13], argTypes := #[9] }, some (some 12, false)⟩,
  ⟨some 15, .unOp .not 4 (.tmp 14), some (some 12, false)⟩,
  ⟨some 16, .pick (.tmp 12) (.const (.bool true)) (.tmp 15), none⟩,
  ⟨some 8, .assign (.tmp 16), none⟩] false).seq (SC.cond (.tmp 8) ((SC.region 2 [⟨some 17, .build 25 #[], none⟩,
  ⟨none, .store 25 (.tmp 6) (.tmp 17), none⟩,
  ⟨some 7, .assign (.const (.int .i64 1)), none⟩] false).seq SC.ret) ((SC.region 3 [⟨some 19, .move (.tmp 1), none⟩,
  ⟨some 20, .binOp .lss 3 (.tmp 19) (.const (.int .i64 0)) 3, none⟩,
  ⟨some 21, .move (.tmp 20), none⟩,
  ⟨some 22, .move (.tmp 1), some (some 21, false)⟩,
  ⟨some 23, .fieldAddr 25 (.tmp 3) 0, some (some 21, false)⟩,
  ⟨some 24, .load 22 (.tmp 23), some (some 21, false)⟩,
  ⟨some 25, .call { callee := .builtin .len, args := #[.tmp 24], argTypes := #[22] }, some (some 21, false)⟩,
  ⟨some 26, .binOp .geq 3 (.tmp 22) (.tmp 25) 3, some (some 21, false)⟩,
  ⟨some 27, .pick (.tmp 21) (.const (.bool true)) (.tmp 26), none⟩,
  ⟨some 18, .assign (.tmp 27), none⟩] false).seq (SC.cond (.tmp 18) ((SC.region 4 [⟨some 28, .build 25 #[], none⟩,
  ⟨none, .store 25 (.tmp 6) (.tmp 28), none⟩,
  ⟨some 7, .assign (.const (.int .i64 3)), none⟩] false).seq SC.ret) ((SC.region 5 [⟨some 30, .fieldAddr 25 (.tmp 3) 1, none⟩,
  ⟨some 31, .load 23 (.tmp 30), none⟩,
  ⟨some 32, .call { callee := .builtin .len, args := #[.tmp 31], argTypes := #[23] }, none⟩,
  ⟨some 33, .binOp .geq 3 (.tmp 32) (.const (.int .i64 400)) 3, none⟩,
  ⟨some 29, .assign (.tmp 33), none⟩] false).seq (SC.cond (.tmp 29) ((SC.region 6 [⟨some 34, .build 25 #[], none⟩,
  ⟨none, .store 25 (.tmp 6) (.tmp 34), none⟩,
  ⟨some 7, .assign (.const (.int .i64 6)), none⟩] false).seq SC.ret) SC.skip))))))).seq ((SC.region 7 [⟨some 35, .load 25 (.tmp 3), none⟩,
  ⟨some 36, .call { callee := .value (.func 29), args := #[.tmp 35], argTypes := #[25] }, none⟩,
  ⟨none, .store 25 (.tmp 3) (.tmp 36), none⟩] false).seq ((SC.region 8 [⟨some 37, .fieldAddr 25 (.tmp 3) 1, none⟩,
  ⟨some 38, .load 23 (.tmp 37), none⟩,
  ⟨some 39, .move (.tmp 1), none⟩,
  ⟨some 40, .move (.tmp 2), none⟩,
  ⟨some 41, .build 57 #[(0, .tmp 39), (1, .tmp 40)], none⟩,
  ⟨some 42, .buildSlice 23 1 #[(0, .tmp 41)], none⟩,
  ⟨some 43, .call { callee := .builtin .append, args := #[.tmp 38, .tmp 42], argTypes := #[23, 23] }, none⟩,
  ⟨some 44, .fieldAddr 25 (.tmp 3) 1, none⟩,
  ⟨none, .store 23 (.tmp 44) (.tmp 43), none⟩] false).seq ((SC.region 9 [⟨some 45, .load 25 (.tmp 3), none⟩,
  ⟨none, .store 25 (.tmp 6) (.tmp 45), none⟩,
  ⟨some 7, .assign (.const (.int .i64 0)), none⟩] false).seq SC.ret)))))
theorem sl11 : Try.f11.body.map slim = some s11 := by kernel_rfl
theorem ok11 : fnOK calmB Try.f11 0 = true := by kernel_rfl

/-- disk.Sync -/
def s12 : SC := ((SC.region 0 [⟨some 1, .box 25 (.tmp 0), none⟩,
  ⟨some 2, .alloc 25, none⟩,
  ⟨some 3, .assign (.const (.int .i64 0)), none⟩] false).seq ((SC.region 1 [⟨some 4, .load 25 (.tmp 1), none⟩,
  ⟨some 5, .buildSlice 38 1 #[(0, .const (.int .i64 1))], none⟩,
  ⟨some 6, .fieldAddr 25 (.tmp 1) 1, none⟩,
  ⟨some 7, .load 23 (.tmp 6), none⟩,
  ⟨some 8, .call { callee := .builtin .len, args := #[.tmp 7], argTypes := #[23] }, none⟩,
  ⟨some 9, .call { callee := .value (.func 30), args := #[.tmp 5, .tmp 8], argTypes := #[38, 3] }, none⟩,
  ⟨some 10, .call { callee := .value (.func 16), args := #[.tmp 4, .tmp 9], argTypes := #[25, 38] }, none⟩,
  ⟨some 11, .extract (.tmp 10) 0, none⟩,
  ⟨some 12, .extract (.tmp 10) 1, none⟩,
  ⟨none, .store 25 (.tmp 2) (.tmp 11), none⟩,
  ⟨some 3, .assign (.tmp 12), none⟩] true).seq SC.ret))
theorem sl12 : Try.f12.body.map slim = some s12 := by kernel_rfl
theorem ok12 : fnOK calmB Try.f12 0 = true := by kernel_rfl

def s16L0 : SC := ((SC.region 5 [⟨some 21, .binOp .lss 3 (.tmp 20) (.tmp 19) 3, none⟩] false).seq ((SC.cond (.tmp 21) SC.skip (SC.exit 0)).seq ((SC.block 1 ((SC.region 6 [⟨some 22, .move (.tmp 20), none⟩,
  ⟨some 23, .indexAddr 23 (.tmp 18) (.tmp 20), none⟩,
  ⟨some 24, .load 57 (.tmp 23), none⟩,
  ⟨some 8, .alloc 57, none⟩,
  ⟨some 7, .assign (.tmp 22), none⟩,
  ⟨none, .store 57 (.tmp 8) (.tmp 24), none⟩] false).seq (((SC.region 7 [⟨some 25, .move (.tmp 7), none⟩,
  ⟨some 26, .move (.tmp 1), none⟩,
  ⟨some 27, .call { callee := .builtin .len, args := #[.tmp 26], argTypes := #[38] }, none⟩,
  ⟨some 28, .binOp .geq 3 (.tmp 25) (.tmp 27) 3, none⟩,
  ⟨some 29, .move (.tmp 28), none⟩,
  ⟨some 30, .move (.tmp 1), some (some 29, false)⟩,
  ⟨some 31, .move (.tmp 7), some (some 29, false)⟩,
  ⟨some 32, .indexAddr 38 (.tmp 30) (.tmp 31), some (some 29, false)⟩,
  ⟨some 33, .load 3 (.tmp 32), some (some 29, false)⟩,
  ⟨some 34, .binOp .lss 3 (.tmp 33) (.const (.int .i64 0)) 3, some (some 29, false)⟩,
  ⟨some 35, .pick (.tmp 29) (.const (.bool true)) (.tmp 34), none⟩] false).seq (SC.cond (.tmp 35) (SC.exit 1) SC.skip)).seq ((SC.region 8 [⟨some 36, .move (.tmp 1), none⟩,
  ⟨some 37, .move (.tmp 7), none⟩,
  ⟨some 38, .indexAddr 38 (.tmp 36) (.tmp 37), none⟩,
  ⟨some 39, .load 3 (.tmp 38), none⟩,
  ⟨some 40, .binOp .rem 3 (.tmp 39) (.const (.int .i64 3)) 3, none⟩] false).seq (SC.block 2 ((SC.region 9 [⟨some 42, .binOp .eql 3 (.tmp 40) (.const (.int .i64 1)) 3, none⟩,
  ⟨some 41, .assign (.tmp 42), none⟩] false).seq (SC.cond (.tmp 41) (SC.region 10 [⟨some 43, .fieldAddr 25 (.tmp 6) 0, none⟩,
  ⟨some 44, .load 22 (.tmp 43), none⟩,
  ⟨some 45, .fieldAddr 57 (.tmp 8) 0, none⟩,
  ⟨some 46, .load 3 (.tmp 45), none⟩,
  ⟨some 47, .fieldAddr 57 (.tmp 8) 1, none⟩,
  ⟨some 48, .load 9 (.tmp 47), none⟩,
  ⟨some 49, .indexAddr 22 (.tmp 44) (.tmp 46), none⟩,
  ⟨none, .store 9 (.tmp 49) (.tmp 48), none⟩] false) ((SC.region 11 [⟨some 51, .binOp .eql 3 (.tmp 40) (.const (.int .i64 2)) 3, none⟩,
  ⟨some 50, .assign (.tmp 51), none⟩] false).seq (SC.cond (.tmp 50) (SC.region 12 [⟨some 52, .fieldAddr 25 (.tmp 6) 0, none⟩,
  ⟨some 53, .load 22 (.tmp 52), none⟩,
  ⟨some 54, .fieldAddr 57 (.tmp 8) 0, none⟩,
  ⟨some 55, .load 3 (.tmp 54), none⟩,
  ⟨some 56, .fieldAddr 57 (.tmp 8) 1, none⟩,
  ⟨some 57, .load 9 (.tmp 56), none⟩,
  ⟨some 58, .slice 9 (.tmp 57) none (some (.const (.int .i64 16))) none, none⟩,
  ⟨some 59, .fieldAddr 25 (.tmp 6) 0, none⟩,
  ⟨some 60, .load 22 (.tmp 59), none⟩,
  ⟨some 61, .fieldAddr 57 (.tmp 8) 0, none⟩,
  ⟨some 62, .load 3 (.tmp 61), none⟩,
  ⟨some 63, .indexAddr 22 (.tmp 60) (.tmp 62), none⟩,
  ⟨some 64, .load 9 (.tmp 63), none⟩,
  ⟨some 65, .slice 9 (.tmp 64) (some (.const (.int .i64 16))) none none, none⟩,
  ⟨some 66, .binOp .add 9 (.tmp 58) (.tmp 65) 9, none⟩,
  ⟨some 67, .indexAddr 22 (.tmp 53) (.tmp 55), none⟩,
  ⟨none, .store 9 (.tmp 67) (.tmp 66), none⟩] true) SC.skip))))))))).seq (SC.region 13 [⟨some 68, .binOp .add 3 (.tmp 20) (.const (.int .i64 1)) 3, none⟩,
  ⟨some 20, .move (.tmp 68), none⟩] false))))
/-- disk.Crash -/
def s16 : SC := ((SC.region 0 [⟨some 2, .box 25 (.tmp 0), none⟩,
  ⟨some 4, .alloc 25, none⟩,
  ⟨some 5, .assign (.const (.int .i64 0)), none⟩] false).seq (((SC.region 1 [⟨some 9, .load 25 (.tmp 2), none⟩,
  ⟨some 10, .call { callee := .value (.func 27), args := #[.tmp 9], argTypes := #[25] }, none⟩,
  ⟨some 11, .unOp .not 4 (.tmp 10), none⟩] false).seq (SC.cond (.tmp 11) ((SC.region 2 [⟨some 12, .build 25 #[], none⟩,
  ⟨none, .store 25 (.tmp 4) (.tmp 12), none⟩,
  ⟨some 5, .assign (.const (.int .i64 1)), none⟩] false).seq SC.ret) SC.skip)).seq ((SC.region 3 [⟨some 13, .fieldAddr 25 (.tmp 2) 0, none⟩,
  ⟨some 14, .load 22 (.tmp 13), none⟩,
  ⟨some 15, .call { callee := .value (.func 32), args := #[.tmp 14], argTypes := #[22] }, none⟩,
  ⟨some 16, .build 25 #[(0, .tmp 15)], none⟩,
  ⟨some 6, .alloc 25, none⟩,
  ⟨none, .store 25 (.tmp 6) (.tmp 16), none⟩] false).seq (((SC.region 4 [⟨some 17, .fieldAddr 25 (.tmp 2) 1, none⟩,
  ⟨some 18, .load 23 (.tmp 17), none⟩,
  ⟨some 19, .call { callee := .builtin .len, args := #[.tmp 18], argTypes := #[23] }, none⟩,
  ⟨some 20, .move (.const (.int .i64 0)), none⟩] false).seq (SC.block 0 (SC.loop s16L0))).seq ((SC.region 14 [⟨some 69, .load 25 (.tmp 6), none⟩,
  ⟨none, .store 25 (.tmp 4) (.tmp 69), none⟩,
  ⟨some 5, .assign (.const (.int .i64 0)), none⟩] false).seq SC.ret)))))
theorem sl16 : Try.f16.body.map slim = some s16 := by kernel_rfl
theorem ok16 : fnOK calmB Try.f16 0 = true := by kernel_rfl

/-- disk.New -/
def s19 : SC := ((SC.region 0 [⟨some 2, .alloc 25, none⟩,
  ⟨some 3, .assign (.const (.int .i64 0)), none⟩] false).seq (((SC.region 1 [⟨some 4, .move (.tmp 0), none⟩,
  ⟨some 5, .binOp .lss 3 (.tmp 4) (.const (.int .i64 1)) 3, none⟩,
  ⟨some 6, .move (.tmp 5), none⟩,
  ⟨some 7, .move (.tmp 0), some (some 6, false)⟩,
  ⟨some 8, .binOp .gtr 3 (.tmp 7) (.const (.int .i64 400)) 3, some (some 6, false)⟩,
  ⟨some 9, .pick (.tmp 6) (.const (.bool true)) (.tmp 8), none⟩] false).seq (SC.cond (.tmp 9) ((SC.region 2 [⟨some 10, .build 25 #[], none⟩,
  ⟨none, .store 25 (.tmp 2) (.tmp 10), none⟩,
  ⟨some 3, .assign (.const (.int .i64 1)), none⟩] false).seq SC.ret) SC.skip)).seq ((SC.region 3 [⟨some 11, .call { callee := .value (.func 37), args := #[], argTypes := #[] }, none⟩,
  ⟨some 12, .buildSlice 22 1 #[(0, .tmp 11)], none⟩,
  ⟨some 13, .move (.tmp 0), none⟩,
  ⟨some 14, .call { callee := .value (.func 36), args := #[.tmp 12, .tmp 13], argTypes := #[22, 3] }, none⟩,
  ⟨some 15, .build 25 #[(0, .tmp 14)], none⟩,
  ⟨none, .store 25 (.tmp 2) (.tmp 15), none⟩,
  ⟨some 3, .assign (.const (.int .i64 0)), none⟩] false).seq SC.ret)))
theorem sl19 : Try.f19.body.map slim = some s19 := by kernel_rfl
theorem ok19 : fnOK calmB Try.f19 0 = true := by kernel_rfl

/-- disk.May -/
def s27 : SC := ((SC.region 0 [⟨some 1, .box 25 (.tmp 0), none⟩,
  ⟨some 2, .assign (.const (.bool false)), none⟩] false).seq (((SC.region 1 [⟨some 3, .fieldAddr 25 (.tmp 1) 0, none⟩,
  ⟨some 4, .load 22 (.tmp 3), none⟩,
  ⟨some 5, .call { callee := .builtin .len, args := #[.tmp 4], argTypes := #[22] }, none⟩,
  ⟨some 6, .binOp .lss 3 (.tmp 5) (.const (.int .i64 1)) 3, none⟩,
  ⟨some 7, .move (.tmp 6), none⟩,
  ⟨some 8, .fieldAddr 25 (.tmp 1) 0, some (some 7, false)⟩,
  ⟨some 9, .load 22 (.tmp 8), some (some 7, false)⟩,
  ⟨some 10, .call { callee := .builtin .len, args := #[.tmp 9], argTypes := #[22] }, some (some 7, false)⟩,
  ⟨some 11, .binOp .gtr 3 (.tmp 10) (.const (.int .i64 400)) 3, some (some 7, false)⟩,
  ⟨some 12, .pick (.tmp 7) (.const (.bool true)) (.tmp 11), none⟩,
  ⟨some 13, .move (.tmp 12), none⟩,
  ⟨some 14, .fieldAddr 25 (.tmp 1) 1, some (some 13, false)⟩,
  ⟨some 15, .load 23 (.tmp 14), some (some 13, false)⟩,
  ⟨some 16, .call { callee := .builtin .len, args := #[.tmp 15], argTypes := #[23] }, some (some 13, false)⟩,
  ⟨some 17, .binOp .gtr 3 (.tmp 16) (.const (.int .i64 400)) 3, some (some 13, false)⟩,
  ⟨some 18, .pick (.tmp 13) (.const (.bool true)) (.tmp 17), none⟩] false).seq (SC.cond (.tmp 18) ((SC.region 2 [⟨some 2, .assign (.const (.bool false)), none⟩] false).seq SC.ret) SC.skip)).seq (((SC.region 3 [⟨some 19, .fieldAddr 25 (.tmp 1) 0, none⟩,
  ⟨some 20, .load 22 (.tmp 19), none⟩,
  ⟨some 21, .call { callee := .value (.func 46), args := #[.tmp 20, .func 47], argTypes := #[22, 55] }, none⟩] false).seq (SC.cond (.tmp 21) ((SC.region 4 [⟨some 2, .assign (.const (.bool false)), none⟩] false).seq SC.ret) SC.skip)).seq ((SC.region 5 [⟨some 22, .fieldAddr 25 (.tmp 1) 1, none⟩,
  ⟨some 23, .load 23 (.tmp 22), none⟩,
  ⟨some 24, .makeFunc (Fn.func 49) #[] #[.tmp 1], none⟩,
  ⟨some 25, .call { callee := .value (.func 48), args := #[.tmp 23, .tmp 24], argTypes := #[23, 76] }, none⟩,
  ⟨some 26, .unOp .not 4 (.tmp 25), none⟩,
  ⟨some 2, .assign (.tmp 26), none⟩] false).seq SC.ret))))
theorem sl27 : Try.f27.body.map slim = some s27 := by kernel_rfl
theorem ok27 : fnOK calmB Try.f27 0 = true := by kernel_rfl

/-- disk.sector -/
def s28 : SC := ((SC.region 0 [⟨some 2, .assign (.const (.bool false)), none⟩] false).seq ((SC.region 1 [⟨some 3, .move (.tmp 0), none⟩,
  ⟨some 4, .call { callee := .builtin .len, args := #[.tmp 3], argTypes := #[9] }, none⟩,
  ⟨some 5, .binOp .eql 3 (.tmp 4) (.const (.int .i64 32)) 3, none⟩,
  ⟨some 2, .assign (.tmp 5), none⟩] false).seq SC.ret))
theorem sl28 : Try.f28.body.map slim = some s28 := by kernel_rfl
theorem ok28 : fnOK calmB Try.f28 0 = true := by kernel_rfl

/-- disk.Own -/
def s29 : SC := ((SC.region 0 [⟨some 1, .box 25 (.tmp 0), none⟩,
  ⟨some 2, .alloc 25, none⟩] false).seq ((SC.region 1 [⟨some 3, .fieldAddr 25 (.tmp 1) 0, none⟩,
  ⟨some 4, .load 22 (.tmp 3), none⟩,
  ⟨some 5, .call { callee := .value (.func 32), args := #[.tmp 4], argTypes := #[22] }, none⟩,
  ⟨some 6, .fieldAddr 25 (.tmp 1) 1, none⟩,
  ⟨some 7, .load 23 (.tmp 6), none⟩,
  ⟨some 8, .call { callee := .value (.func 50), args := #[.tmp 7], argTypes := #[23] }, none⟩,
  ⟨some 9, .build 25 #[(0, .tmp 5), (1, .tmp 8)], none⟩,
  ⟨none, .store 25 (.tmp 2) (.tmp 9), none⟩] true).seq SC.ret))
theorem sl29 : Try.f29.body.map slim = some s29 := by kernel_rfl
theorem ok29 : fnOK calmB Try.f29 0 = true := by kernel_rfl

/-- disk.Read -/
def s35 : SC := ((SC.region 0 [⟨some 2, .box 25 (.tmp 0), none⟩,
  ⟨some 4, .assign (.const (.string { data := #[] })), none⟩,
  ⟨some 5, .assign (.const (.int .i64 0)), none⟩] false).seq ((SC.region 1 [⟨some 9, .load 25 (.tmp 2), none⟩,
  ⟨some 10, .call { callee := .value (.func 12), args := #[.tmp 9], argTypes := #[25] }, none⟩,
  ⟨some 8, .move (.tmp 10), none⟩,
  ⟨some 11, .extract (.tmp 8) 0, none⟩,
  ⟨some 12, .extract (.tmp 8) 1, none⟩,
  ⟨some 6, .alloc 25, none⟩,
  ⟨none, .store 25 (.tmp 6) (.tmp 11), none⟩,
  ⟨some 7, .assign (.tmp 12), none⟩] false).seq ((SC.block 0 ((SC.region 2 [⟨some 14, .move (.tmp 7), none⟩,
  ⟨some 15, .binOp .neq 32 (.tmp 14) (.const (.int .i64 0)) 32, none⟩,
  ⟨some 13, .assign (.tmp 15), none⟩] false).seq (SC.cond (.tmp 13) ((SC.region 3 [⟨some 16, .move (.tmp 7), none⟩,
  ⟨some 4, .assign (.const (.string { data := #[] })), none⟩,
  ⟨some 5, .assign (.tmp 16), none⟩] false).seq SC.ret) ((SC.region 4 [⟨some 18, .move (.tmp 1), none⟩,
  ⟨some 19, .binOp .lss 3 (.tmp 18) (.const (.int .i64 0)) 3, none⟩,
  ⟨some 20, .move (.tmp 19), none⟩,
  ⟨some 21, .move (.tmp 1), some (some 20, false)⟩,
  ⟨some 22, .fieldAddr 25 (.tmp 6) 0, some (some 20, false)⟩,
  ⟨some 23, .load 22 (.tmp 22), some (some 20, false)⟩,
  ⟨some 24, .call { callee := .builtin .len, args := #[.tmp 23], argTypes := #[22] }, some (some 20, false)⟩,
  ⟨some 25, .binOp .geq 3 (.tmp 21) (.tmp 24) 3, some (some 20, false)⟩,
  ⟨some 26, .pick (.tmp 20) (.const (.bool true)) (.tmp 25), none⟩,
  ⟨some 17, .assign (.tmp 26), none⟩] false).seq (SC.cond (.tmp 17) ((SC.region 5 [⟨some 4, .assign (.const (.string { data := #[] })), none⟩,
  ⟨some 5, .assign (.const (.int .i64 3)), none⟩] false).seq SC.ret) SC.skip))))).seq ((SC.region 6 [⟨some 27, .fieldAddr 25 (.tmp 6) 0, none⟩,
  ⟨some 28, .load 22 (.tmp 27), none⟩,
  ⟨some 29, .move (.tmp 1), none⟩,
  ⟨some 30, .indexAddr 22 (.tmp 28) (.tmp 29), none⟩,
  ⟨some 31, .load 9 (.tmp 30), none⟩,
  ⟨some 4, .assign (.tmp 31), none⟩,
  ⟨some 5, .assign (.const (.int .i64 0)), none⟩] false).seq SC.ret))))
theorem sl35 : Try.f35.body.map slim = some s35 := by kernel_rfl
theorem ok35 : fnOK calmB Try.f35 0 = true := by kernel_rfl

/-- disk.Blank -/
def s37 : SC := ((SC.region 0 [⟨some 0, .assign (.const (.string { data := #[] })), none⟩] false).seq ((SC.region 1 [⟨some 1, .call { callee := .value (.func 52), args := #[.const (.string { data := #[0] }), .const (.int .i64 32)], argTypes := #[9, 3] }, none⟩,
  ⟨some 0, .assign (.tmp 1), none⟩] false).seq SC.ret))
theorem sl37 : Try.f37.body.map slim = some s37 := by kernel_rfl
theorem ok37 : fnOK calmB Try.f37 0 = true := by kernel_rfl

/-- disk.Check -/
def s43 : SC := ((SC.region 0 [⟨some 1, .box 25 (.tmp 0), none⟩,
  ⟨some 2, .assign (.const (.int .i64 0)), none⟩] false).seq (((SC.region 1 [⟨some 3, .load 25 (.tmp 1), none⟩,
  ⟨some 4, .call { callee := .value (.func 27), args := #[.tmp 3], argTypes := #[25] }, none⟩,
  ⟨some 5, .unOp .not 4 (.tmp 4), none⟩] false).seq (SC.cond (.tmp 5) ((SC.region 2 [⟨some 2, .assign (.const (.int .i64 1)), none⟩] false).seq SC.ret) SC.skip)).seq ((SC.region 3 [⟨some 2, .assign (.const (.int .i64 0)), none⟩] false).seq SC.ret)))
theorem sl43 : Try.f43.body.map slim = some s43 := by kernel_rfl
theorem ok43 : fnOK calmB Try.f43 0 = true := by kernel_rfl

/-- disk.May$1 -/
def s47 : SC := ((SC.region 0 [⟨some 2, .assign (.const (.bool false)), none⟩] false).seq ((SC.region 1 [⟨some 3, .move (.tmp 0), none⟩,
  ⟨some 4, .call { callee := .value (.func 28), args := #[.tmp 3], argTypes := #[9] }, none⟩,
  ⟨some 5, .unOp .not 4 (.tmp 4), none⟩,
  ⟨some 2, .assign (.tmp 5), none⟩] false).seq SC.ret))
theorem sl47 : Try.f47.body.map slim = some s47 := by kernel_rfl
theorem ok47 : fnOK calmB Try.f47 0 = true := by kernel_rfl

/-- disk.May$2 -/
def s49 : SC := ((SC.region 0 [⟨some 2, .box 57 (.tmp 0), none⟩,
  ⟨some 3, .assign (.const (.bool false)), none⟩] false).seq ((SC.region 1 [⟨some 4, .fieldAddr 57 (.tmp 2) 1, none⟩,
  ⟨some 5, .load 9 (.tmp 4), none⟩,
  ⟨some 6, .call { callee := .value (.func 28), args := #[.tmp 5], argTypes := #[9] }, none⟩,
  ⟨some 7, .unOp .not 4 (.tmp 6), none⟩,
  ⟨some 8, .move (.tmp 7), none⟩,
  ⟨some 9, .fieldAddr 57 (.tmp 2) 0, some (some 8, false)⟩,
  ⟨some 10, .load 3 (.tmp 9), some (some 8, false)⟩,
  ⟨some 11, .binOp .lss 3 (.tmp 10) (.const (.int .i64 0)) 3, some (some 8, false)⟩,
  ⟨some 12, .pick (.tmp 8) (.const (.bool true)) (.tmp 11), none⟩,
  ⟨some 13, .move (.tmp 12), none⟩,
  ⟨some 14, .fieldAddr 57 (.tmp 2) 0, some (some 13, false)⟩,
  ⟨some 15, .load 3 (.tmp 14), some (some 13, false)⟩,
  ⟨some 16, .fieldAddr 25 (.tmp 1) 0, some (some 13, false)⟩,
  ⟨some 17, .load 22 (.tmp 16), some (some 13, false)⟩,
  ⟨some 18, .call { callee := .builtin .len, args := #[.tmp 17], argTypes := #[22] }, some (some 13, false)⟩,
  ⟨some 19, .binOp .geq 3 (.tmp 15) (.tmp 18) 3, some (some 13, false)⟩,
  ⟨some 20, .pick (.tmp 13) (.const (.bool true)) (.tmp 19), none⟩,
  ⟨some 3, .assign (.tmp 20), none⟩] false).seq SC.ret))
theorem sl49 : Try.f49.body.map slim = some s49 := by kernel_rfl
theorem ok49 : fnOK calmB Try.f49 0 = true := by kernel_rfl

/-- lectionarylaw0.Within -/
def s15 : SC := ((SC.region 0 [⟨some 4, .assign (.const (.int .i64 0)), none⟩] false).seq ((SC.region 1 [⟨some 5, .move (.tmp 0), none⟩,
  ⟨some 6, .convert 3 60 (.tmp 5), none⟩,
  ⟨some 7, .move (.tmp 1), none⟩,
  ⟨some 8, .convert 3 60 (.tmp 7), none⟩,
  ⟨some 9, .binOp .rem 60 (.tmp 6) (.tmp 8) 60, none⟩,
  ⟨some 10, .convert 60 3 (.tmp 9), none⟩,
  ⟨some 4, .assign (.tmp 10), none⟩] false).seq SC.ret))
theorem sl15 : Try.f15.body.map slim = some s15 := by kernel_rfl
theorem ok15 : fnOK calmB Try.f15 0 = true := by kernel_rfl

def s25L0 : SC := (((SC.region 3 [⟨some 14, .move (.tmp 4), none⟩,
  ⟨some 15, .fieldAddr 25 (.tmp 1) 0, none⟩,
  ⟨some 16, .load 22 (.tmp 15), none⟩,
  ⟨some 17, .call { callee := .builtin .len, args := #[.tmp 16], argTypes := #[22] }, none⟩,
  ⟨some 18, .binOp .lss 3 (.tmp 14) (.tmp 17) 3, none⟩,
  ⟨some 19, .move (.tmp 18), none⟩,
  ⟨some 20, .move (.tmp 3), some (some 19, true)⟩,
  ⟨some 21, .binOp .lss 3 (.tmp 20) (.const (.int .i64 1048576)) 3, some (some 19, true)⟩,
  ⟨some 22, .pick (.tmp 19) (.tmp 21) (.const (.bool false)), none⟩] false).seq (SC.cond (.tmp 22) SC.skip (SC.exit 0))).seq ((SC.block 1 (SC.region 5 [⟨some 25, .move (.tmp 3), none⟩,
  ⟨some 26, .fieldAddr 25 (.tmp 1) 0, none⟩,
  ⟨some 27, .load 22 (.tmp 26), none⟩,
  ⟨some 28, .move (.tmp 4), none⟩,
  ⟨some 29, .indexAddr 22 (.tmp 27) (.tmp 28), none⟩,
  ⟨some 30, .load 9 (.tmp 29), none⟩,
  ⟨some 31, .call { callee := .builtin .len, args := #[.tmp 30], argTypes := #[9] }, none⟩,
  ⟨some 32, .binOp .quo 3 (.tmp 31) (.const (.int .i64 64)) 3, none⟩,
  ⟨some 33, .binOp .add 3 (.tmp 25) (.tmp 32) 3, none⟩,
  ⟨some 3, .assign (.tmp 33), none⟩] false)).seq (SC.region 4 [⟨some 23, .move (.tmp 4), none⟩,
  ⟨some 24, .binOp .add 3 (.tmp 23) (.const (.int .i64 1)) 3, none⟩,
  ⟨some 4, .assign (.tmp 24), none⟩] false)))
def s25L1 : SC := (((SC.region 7 [⟨some 34, .move (.tmp 5), none⟩,
  ⟨some 35, .fieldAddr 25 (.tmp 1) 1, none⟩,
  ⟨some 36, .load 23 (.tmp 35), none⟩,
  ⟨some 37, .call { callee := .builtin .len, args := #[.tmp 36], argTypes := #[23] }, none⟩,
  ⟨some 38, .binOp .lss 3 (.tmp 34) (.tmp 37) 3, none⟩,
  ⟨some 39, .move (.tmp 38), none⟩,
  ⟨some 40, .move (.tmp 3), some (some 39, true)⟩,
  ⟨some 41, .binOp .lss 3 (.tmp 40) (.const (.int .i64 1048576)) 3, some (some 39, true)⟩,
  ⟨some 42, .pick (.tmp 39) (.tmp 41) (.const (.bool false)), none⟩] false).seq (SC.cond (.tmp 42) SC.skip (SC.exit 2))).seq ((SC.block 3 (SC.region 9 [⟨some 45, .move (.tmp 3), none⟩,
  ⟨some 46, .fieldAddr 25 (.tmp 1) 1, none⟩,
  ⟨some 47, .load 23 (.tmp 46), none⟩,
  ⟨some 48, .move (.tmp 5), none⟩,
  ⟨some 49, .indexAddr 23 (.tmp 47) (.tmp 48), none⟩,
  ⟨some 50, .fieldAddr 57 (.tmp 49) 1, none⟩,
  ⟨some 51, .load 9 (.tmp 50), none⟩,
  ⟨some 52, .call { callee := .builtin .len, args := #[.tmp 51], argTypes := #[9] }, none⟩,
  ⟨some 53, .binOp .quo 3 (.tmp 52) (.const (.int .i64 16)) 3, none⟩,
  ⟨some 54, .binOp .add 3 (.tmp 45) (.tmp 53) 3, none⟩,
  ⟨some 3, .assign (.tmp 54), none⟩] false)).seq (SC.region 8 [⟨some 43, .move (.tmp 5), none⟩,
  ⟨some 44, .binOp .add 3 (.tmp 43) (.const (.int .i64 1)) 3, none⟩,
  ⟨some 5, .assign (.tmp 44), none⟩] false)))
/-- lectionarylaw0.DiskWeight -/
def s25 : SC := ((SC.region 0 [⟨some 1, .box 25 (.tmp 0), none⟩,
  ⟨some 2, .assign (.const (.int .i64 0)), none⟩] false).seq ((SC.region 1 [⟨some 6, .fieldAddr 25 (.tmp 1) 0, none⟩,
  ⟨some 7, .load 22 (.tmp 6), none⟩,
  ⟨some 8, .call { callee := .builtin .len, args := #[.tmp 7], argTypes := #[22] }, none⟩,
  ⟨some 9, .binOp .quo 3 (.tmp 8) (.const (.int .i64 4)) 3, none⟩,
  ⟨some 10, .fieldAddr 25 (.tmp 1) 1, none⟩,
  ⟨some 11, .load 23 (.tmp 10), none⟩,
  ⟨some 12, .call { callee := .builtin .len, args := #[.tmp 11], argTypes := #[23] }, none⟩,
  ⟨some 13, .binOp .add 3 (.tmp 9) (.tmp 12) 3, none⟩,
  ⟨some 3, .assign (.tmp 13), none⟩] false).seq (((SC.region 2 [⟨some 4, .assign (.const (.int .i64 0)), none⟩] false).seq (SC.block 0 (SC.loop s25L0))).seq (((SC.region 6 [⟨some 5, .assign (.const (.int .i64 0)), none⟩] false).seq (SC.block 2 (SC.loop s25L1))).seq ((SC.region 10 [⟨some 55, .move (.tmp 3), none⟩,
  ⟨some 2, .assign (.tmp 55), none⟩] false).seq SC.ret)))))
theorem sl25 : Try.f25.body.map slim = some s25 := by kernel_rfl
theorem ok25 : fnOK calmB Try.f25 0 = true := by kernel_rfl

def s44L0 : SC := (((SC.region 2 [⟨some 4, .move (.tmp 2), none⟩,
  ⟨some 5, .fieldAddr 25 (.tmp 1) 0, none⟩,
  ⟨some 6, .load 22 (.tmp 5), none⟩,
  ⟨some 7, .call { callee := .builtin .len, args := #[.tmp 6], argTypes := #[22] }, none⟩,
  ⟨some 8, .binOp .lss 3 (.tmp 4) (.tmp 7) 3, none⟩] false).seq (SC.cond (.tmp 8) SC.skip (SC.exit 0))).seq ((SC.block 1 (SC.region 4 [⟨some 11, .fieldAddr 25 (.tmp 1) 0, none⟩,
  ⟨some 12, .load 22 (.tmp 11), none⟩,
  ⟨some 13, .move (.tmp 2), none⟩,
  ⟨some 14, .indexAddr 22 (.tmp 12) (.tmp 13), none⟩,
  ⟨none, .store 9 (.tmp 14) (.const (.string { data := #[115, 112, 111, 105, 108, 116] })), none⟩] false)).seq (SC.region 3 [⟨some 9, .move (.tmp 2), none⟩,
  ⟨some 10, .binOp .add 3 (.tmp 9) (.const (.int .i64 1)) 3, none⟩,
  ⟨some 2, .assign (.tmp 10), none⟩] false)))
def s44L1 : SC := (((SC.region 6 [⟨some 15, .move (.tmp 3), none⟩,
  ⟨some 16, .fieldAddr 25 (.tmp 1) 1, none⟩,
  ⟨some 17, .load 23 (.tmp 16), none⟩,
  ⟨some 18, .call { callee := .builtin .len, args := #[.tmp 17], argTypes := #[23] }, none⟩,
  ⟨some 19, .binOp .lss 3 (.tmp 15) (.tmp 18) 3, none⟩] false).seq (SC.cond (.tmp 19) SC.skip (SC.exit 2))).seq ((SC.block 3 (SC.region 8 [⟨some 22, .fieldAddr 25 (.tmp 1) 1, none⟩,
  ⟨some 23, .load 23 (.tmp 22), none⟩,
  ⟨some 24, .move (.tmp 3), none⟩,
  ⟨some 25, .build 57 #[(0, .const (.int .i64 (-9)))], none⟩,
  ⟨some 26, .indexAddr 23 (.tmp 23) (.tmp 24), none⟩,
  ⟨none, .store 57 (.tmp 26) (.tmp 25), none⟩] false)).seq (SC.region 7 [⟨some 20, .move (.tmp 3), none⟩,
  ⟨some 21, .binOp .add 3 (.tmp 20) (.const (.int .i64 1)) 3, none⟩,
  ⟨some 3, .assign (.tmp 21), none⟩] false)))
/-- lectionarylaw0.Disk -/
def s44 : SC := ((SC.region 0 [⟨some 1, .box 25 (.tmp 0), none⟩] false).seq (((SC.region 1 [⟨some 2, .assign (.const (.int .i64 0)), none⟩] false).seq (SC.block 0 (SC.loop s44L0))).seq ((SC.region 5 [⟨some 3, .assign (.const (.int .i64 0)), none⟩] false).seq (SC.block 2 (SC.loop s44L1)))))
theorem sl44 : Try.f44.body.map slim = some s44 := by kernel_rfl
theorem ok44 : fnOK calmB Try.f44 0 = true := by kernel_rfl

/-- lectionaryref0.EqDisk -/
def s17 : SC := ((SC.region 0 [⟨some 2, .box 25 (.tmp 0), none⟩,
  ⟨some 3, .box 25 (.tmp 1), none⟩,
  ⟨some 4, .assign (.const (.bool false)), none⟩] false).seq ((SC.region 1 [⟨some 5, .fieldAddr 25 (.tmp 2) 0, none⟩,
  ⟨some 6, .load 22 (.tmp 5), none⟩,
  ⟨some 7, .fieldAddr 25 (.tmp 3) 0, none⟩,
  ⟨some 8, .load 22 (.tmp 7), none⟩,
  ⟨some 9, .call { callee := .value (.func 33), args := #[.tmp 6, .tmp 8], argTypes := #[22, 22] }, none⟩,
  ⟨some 10, .move (.tmp 9), none⟩,
  ⟨some 11, .fieldAddr 25 (.tmp 2) 1, some (some 10, true)⟩,
  ⟨some 12, .load 23 (.tmp 11), some (some 10, true)⟩,
  ⟨some 13, .fieldAddr 25 (.tmp 3) 1, some (some 10, true)⟩,
  ⟨some 14, .load 23 (.tmp 13), some (some 10, true)⟩,
  ⟨some 15, .call { callee := .value (.func 34), args := #[.tmp 12, .tmp 14], argTypes := #[23, 23] }, some (some 10, true)⟩,
  ⟨some 16, .pick (.tmp 10) (.tmp 15) (.const (.bool false)), none⟩,
  ⟨some 4, .assign (.tmp 16), none⟩] false).seq SC.ret))
theorem sl17 : Try.f17.body.map slim = some s17 := by kernel_rfl
theorem ok17 : fnOK calmB Try.f17 0 = true := by kernel_rfl

/-- lectionaryref0.Between -/
def s21 : SC := ((SC.region 0 [⟨some 6, .assign (.const (.bool false)), none⟩] false).seq ((SC.region 1 [⟨some 7, .move (.tmp 0), none⟩,
  ⟨some 8, .move (.tmp 1), none⟩,
  ⟨some 9, .binOp .geq 3 (.tmp 7) (.tmp 8) 3, none⟩,
  ⟨some 10, .move (.tmp 9), none⟩,
  ⟨some 11, .move (.tmp 0), some (some 10, true)⟩,
  ⟨some 12, .move (.tmp 2), some (some 10, true)⟩,
  ⟨some 13, .binOp .leq 3 (.tmp 11) (.tmp 12) 3, some (some 10, true)⟩,
  ⟨some 14, .pick (.tmp 10) (.tmp 13) (.const (.bool false)), none⟩,
  ⟨some 6, .assign (.tmp 14), none⟩] false).seq SC.ret))
theorem sl21 : Try.f21.body.map slim = some s21 := by kernel_rfl
theorem ok21 : fnOK calmB Try.f21 0 = true := by kernel_rfl

/-- lectionaryref0.CopyDisk -/
def s22 : SC := ((SC.region 0 [⟨some 1, .box 25 (.tmp 0), none⟩,
  ⟨some 2, .alloc 25, none⟩] false).seq ((SC.region 1 [⟨some 4, .load 25 (.tmp 1), none⟩,
  ⟨some 3, .alloc 25, none⟩,
  ⟨none, .store 25 (.tmp 3) (.tmp 4), none⟩] false).seq ((SC.region 2 [⟨some 5, .fieldAddr 25 (.tmp 1) 0, none⟩,
  ⟨some 6, .load 22 (.tmp 5), none⟩,
  ⟨some 7, .call { callee := .value (.func 38), args := #[.tmp 6], argTypes := #[22] }, none⟩,
  ⟨some 8, .fieldAddr 25 (.tmp 3) 0, none⟩,
  ⟨none, .store 22 (.tmp 8) (.tmp 7), none⟩] false).seq ((SC.region 3 [⟨some 9, .fieldAddr 25 (.tmp 1) 1, none⟩,
  ⟨some 10, .load 23 (.tmp 9), none⟩,
  ⟨some 11, .call { callee := .value (.func 39), args := #[.tmp 10], argTypes := #[23] }, none⟩,
  ⟨some 12, .fieldAddr 25 (.tmp 3) 1, none⟩,
  ⟨none, .store 23 (.tmp 12) (.tmp 11), none⟩] false).seq ((SC.region 4 [⟨some 13, .load 25 (.tmp 3), none⟩,
  ⟨none, .store 25 (.tmp 2) (.tmp 13), none⟩] false).seq SC.ret)))))
theorem sl22 : Try.f22.body.map slim = some s22 := by kernel_rfl
theorem ok22 : fnOK calmB Try.f22 0 = true := by kernel_rfl

/-- lectionaryref0.Num -/
def s31 : SC := ((SC.region 0 [⟨some 4, .assign (.const (.bool false)), none⟩] false).seq ((SC.region 1 [⟨some 5, .move (.tmp 0), none⟩,
  ⟨some 6, .binOp .geq 3 (.tmp 5) (.const (.int .i64 0)) 3, none⟩,
  ⟨some 7, .move (.tmp 6), none⟩,
  ⟨some 8, .move (.tmp 0), some (some 7, true)⟩,
  ⟨some 9, .move (.tmp 1), some (some 7, true)⟩,
  ⟨some 10, .binOp .leq 3 (.tmp 8) (.tmp 9) 3, some (some 7, true)⟩,
  ⟨some 11, .pick (.tmp 7) (.tmp 10) (.const (.bool false)), none⟩,
  ⟨some 4, .assign (.tmp 11), none⟩] false).seq SC.ret))
theorem sl31 : Try.f31.body.map slim = some s31 := by kernel_rfl
theorem ok31 : fnOK calmB Try.f31 0 = true := by kernel_rfl

def s33L0 : SC := (((SC.region 4 [⟨some 11, .move (.tmp 5), none⟩,
  ⟨some 12, .move (.tmp 0), none⟩,
  ⟨some 13, .call { callee := .builtin .len, args := #[.tmp 12], argTypes := #[22] }, none⟩,
  ⟨some 14, .binOp .lss 3 (.tmp 11) (.tmp 13) 3, none⟩] false).seq (SC.cond (.tmp 14) SC.skip (SC.exit 0))).seq ((SC.block 1 ((SC.region 6 [⟨some 17, .move (.tmp 0), none⟩,
  ⟨some 18, .move (.tmp 5), none⟩,
  ⟨some 19, .indexAddr 22 (.tmp 17) (.tmp 18), none⟩,
  ⟨some 20, .load 9 (.tmp 19), none⟩,
  ⟨some 21, .move (.tmp 1), none⟩,
  ⟨some 22, .move (.tmp 5), none⟩,
  ⟨some 23, .indexAddr 22 (.tmp 21) (.tmp 22), none⟩,
  ⟨some 24, .load 9 (.tmp 23), none⟩,
  ⟨some 25, .binOp .neq 9 (.tmp 20) (.tmp 24) 9, none⟩] true).seq (SC.cond (.tmp 25) ((SC.region 7 [⟨some 4, .assign (.const (.bool false)), none⟩] false).seq SC.ret) SC.skip))).seq (SC.region 5 [⟨some 15, .move (.tmp 5), none⟩,
  ⟨some 16, .binOp .add 3 (.tmp 15) (.const (.int .i64 1)) 3, none⟩,
  ⟨some 5, .assign (.tmp 16), none⟩] false)))
/-- lectionaryref0.EqStrings -/
def s33 : SC := ((SC.region 0 [⟨some 4, .assign (.const (.bool false)), none⟩] false).seq (((SC.region 1 [⟨some 6, .move (.tmp 0), none⟩,
  ⟨some 7, .call { callee := .builtin .len, args := #[.tmp 6], argTypes := #[22] }, none⟩,
  ⟨some 8, .move (.tmp 1), none⟩,
  ⟨some 9, .call { callee := .builtin .len, args := #[.tmp 8], argTypes := #[22] }, none⟩,
  ⟨some 10, .binOp .neq 3 (.tmp 7) (.tmp 9) 3, none⟩] false).seq (SC.cond (.tmp 10) ((SC.region 2 [⟨some 4, .assign (.const (.bool false)), none⟩] false).seq SC.ret) SC.skip)).seq (((SC.region 3 [⟨some 5, .assign (.const (.int .i64 0)), none⟩] false).seq (SC.block 0 (SC.loop s33L0))).seq ((SC.region 8 [⟨some 4, .assign (.const (.bool true)), none⟩] false).seq SC.ret))))
theorem sl33 : Try.f33.body.map slim = some s33 := by kernel_rfl
theorem ok33 : fnOK calmB Try.f33 0 = true := by kernel_rfl

def s34L0 : SC := (((SC.region 4 [⟨some 11, .move (.tmp 5), none⟩,
  ⟨some 12, .move (.tmp 0), none⟩,
  ⟨some 13, .call { callee := .builtin .len, args := #[.tmp 12], argTypes := #[23] }, none⟩,
  ⟨some 14, .binOp .lss 3 (.tmp 11) (.tmp 13) 3, none⟩] false).seq (SC.cond (.tmp 14) SC.skip (SC.exit 0))).seq ((SC.block 1 ((SC.region 6 [⟨some 17, .move (.tmp 0), none⟩,
  ⟨some 18, .move (.tmp 5), none⟩,
  ⟨some 19, .indexAddr 23 (.tmp 17) (.tmp 18), none⟩,
  ⟨some 20, .load 57 (.tmp 19), none⟩,
  ⟨some 21, .move (.tmp 1), none⟩,
  ⟨some 22, .move (.tmp 5), none⟩,
  ⟨some 23, .indexAddr 23 (.tmp 21) (.tmp 22), none⟩,
  ⟨some 24, .load 57 (.tmp 23), none⟩,
  ⟨some 25, .binOp .neq 57 (.tmp 20) (.tmp 24) 57, none⟩] true).seq (SC.cond (.tmp 25) ((SC.region 7 [⟨some 4, .assign (.const (.bool false)), none⟩] false).seq SC.ret) SC.skip))).seq (SC.region 5 [⟨some 15, .move (.tmp 5), none⟩,
  ⟨some 16, .binOp .add 3 (.tmp 15) (.const (.int .i64 1)) 3, none⟩,
  ⟨some 5, .assign (.tmp 16), none⟩] false)))
/-- lectionaryref0.EqSectors -/
def s34 : SC := ((SC.region 0 [⟨some 4, .assign (.const (.bool false)), none⟩] false).seq (((SC.region 1 [⟨some 6, .move (.tmp 0), none⟩,
  ⟨some 7, .call { callee := .builtin .len, args := #[.tmp 6], argTypes := #[23] }, none⟩,
  ⟨some 8, .move (.tmp 1), none⟩,
  ⟨some 9, .call { callee := .builtin .len, args := #[.tmp 8], argTypes := #[23] }, none⟩,
  ⟨some 10, .binOp .neq 3 (.tmp 7) (.tmp 9) 3, none⟩] false).seq (SC.cond (.tmp 10) ((SC.region 2 [⟨some 4, .assign (.const (.bool false)), none⟩] false).seq SC.ret) SC.skip)).seq (((SC.region 3 [⟨some 5, .assign (.const (.int .i64 0)), none⟩] false).seq (SC.block 0 (SC.loop s34L0))).seq ((SC.region 8 [⟨some 4, .assign (.const (.bool true)), none⟩] false).seq SC.ret))))
theorem sl34 : Try.f34.body.map slim = some s34 := by kernel_rfl
theorem ok34 : fnOK calmB Try.f34 0 = true := by kernel_rfl

def s38L0 : SC := (((SC.region 3 [⟨some 5, .move (.tmp 4), none⟩,
  ⟨some 6, .move (.tmp 0), none⟩,
  ⟨some 7, .call { callee := .builtin .len, args := #[.tmp 6], argTypes := #[22] }, none⟩,
  ⟨some 8, .binOp .lss 3 (.tmp 5) (.tmp 7) 3, none⟩] false).seq (SC.cond (.tmp 8) SC.skip (SC.exit 0))).seq ((SC.block 1 (SC.region 5 [⟨some 11, .move (.tmp 3), none⟩,
  ⟨some 12, .move (.tmp 0), none⟩,
  ⟨some 13, .move (.tmp 4), none⟩,
  ⟨some 14, .indexAddr 22 (.tmp 12) (.tmp 13), none⟩,
  ⟨some 15, .load 9 (.tmp 14), none⟩,
  ⟨some 16, .buildSlice 22 1 #[(0, .tmp 15)], none⟩,
  ⟨some 17, .call { callee := .builtin .append, args := #[.tmp 11, .tmp 16], argTypes := #[22, 22] }, none⟩,
  ⟨some 3, .assign (.tmp 17), none⟩] false)).seq (SC.region 4 [⟨some 9, .move (.tmp 4), none⟩,
  ⟨some 10, .binOp .add 3 (.tmp 9) (.const (.int .i64 1)) 3, none⟩,
  ⟨some 4, .assign (.tmp 10), none⟩] false)))
/-- lectionaryref0.CopyStrings -/
def s38 : SC := ((SC.region 0 [⟨some 2, .assign (.const (.slice none 0 0)), none⟩] false).seq ((SC.region 1 [⟨some 3, .assign (.const (.slice none 0 0)), none⟩] false).seq (((SC.region 2 [⟨some 4, .assign (.const (.int .i64 0)), none⟩] false).seq (SC.block 0 (SC.loop s38L0))).seq ((SC.region 6 [⟨some 18, .move (.tmp 3), none⟩,
  ⟨some 2, .assign (.tmp 18), none⟩] false).seq SC.ret))))
theorem sl38 : Try.f38.body.map slim = some s38 := by kernel_rfl
theorem ok38 : fnOK calmB Try.f38 0 = true := by kernel_rfl

def s39L0 : SC := (((SC.region 3 [⟨some 5, .move (.tmp 4), none⟩,
  ⟨some 6, .move (.tmp 0), none⟩,
  ⟨some 7, .call { callee := .builtin .len, args := #[.tmp 6], argTypes := #[23] }, none⟩,
  ⟨some 8, .binOp .lss 3 (.tmp 5) (.tmp 7) 3, none⟩] false).seq (SC.cond (.tmp 8) SC.skip (SC.exit 0))).seq ((SC.block 1 (SC.region 5 [⟨some 11, .move (.tmp 3), none⟩,
  ⟨some 12, .move (.tmp 0), none⟩,
  ⟨some 13, .move (.tmp 4), none⟩,
  ⟨some 14, .indexAddr 23 (.tmp 12) (.tmp 13), none⟩,
  ⟨some 15, .load 57 (.tmp 14), none⟩,
  ⟨some 16, .buildSlice 23 1 #[(0, .tmp 15)], none⟩,
  ⟨some 17, .call { callee := .builtin .append, args := #[.tmp 11, .tmp 16], argTypes := #[23, 23] }, none⟩,
  ⟨some 3, .assign (.tmp 17), none⟩] false)).seq (SC.region 4 [⟨some 9, .move (.tmp 4), none⟩,
  ⟨some 10, .binOp .add 3 (.tmp 9) (.const (.int .i64 1)) 3, none⟩,
  ⟨some 4, .assign (.tmp 10), none⟩] false)))
/-- lectionaryref0.CopySectors -/
def s39 : SC := ((SC.region 0 [⟨some 2, .assign (.const (.slice none 0 0)), none⟩] false).seq ((SC.region 1 [⟨some 3, .assign (.const (.slice none 0 0)), none⟩] false).seq (((SC.region 2 [⟨some 4, .assign (.const (.int .i64 0)), none⟩] false).seq (SC.block 0 (SC.loop s39L0))).seq ((SC.region 6 [⟨some 18, .move (.tmp 3), none⟩,
  ⟨some 2, .assign (.tmp 18), none⟩] false).seq SC.ret))))
theorem sl39 : Try.f39.body.map slim = some s39 := by kernel_rfl
theorem ok39 : fnOK calmB Try.f39 0 = true := by kernel_rfl

def s41L0 : SC := (((SC.region 3 [⟨some 5, .move (.tmp 4), none⟩,
  ⟨some 6, .move (.tmp 0), none⟩,
  ⟨some 7, .call { callee := .builtin .len, args := #[.tmp 6], argTypes := #[38] }, none⟩,
  ⟨some 8, .binOp .lss 3 (.tmp 5) (.tmp 7) 3, none⟩] false).seq (SC.cond (.tmp 8) SC.skip (SC.exit 0))).seq ((SC.block 1 (SC.region 5 [⟨some 11, .move (.tmp 3), none⟩,
  ⟨some 12, .move (.tmp 0), none⟩,
  ⟨some 13, .move (.tmp 4), none⟩,
  ⟨some 14, .indexAddr 38 (.tmp 12) (.tmp 13), none⟩,
  ⟨some 15, .load 3 (.tmp 14), none⟩,
  ⟨some 16, .buildSlice 38 1 #[(0, .tmp 15)], none⟩,
  ⟨some 17, .call { callee := .builtin .append, args := #[.tmp 11, .tmp 16], argTypes := #[38, 38] }, none⟩,
  ⟨some 3, .assign (.tmp 17), none⟩] false)).seq (SC.region 4 [⟨some 9, .move (.tmp 4), none⟩,
  ⟨some 10, .binOp .add 3 (.tmp 9) (.const (.int .i64 1)) 3, none⟩,
  ⟨some 4, .assign (.tmp 10), none⟩] false)))
/-- lectionaryref0.CopyNumbers -/
def s41 : SC := ((SC.region 0 [⟨some 2, .assign (.const (.slice none 0 0)), none⟩] false).seq ((SC.region 1 [⟨some 3, .assign (.const (.slice none 0 0)), none⟩] false).seq (((SC.region 2 [⟨some 4, .assign (.const (.int .i64 0)), none⟩] false).seq (SC.block 0 (SC.loop s41L0))).seq ((SC.region 6 [⟨some 18, .move (.tmp 3), none⟩,
  ⟨some 2, .assign (.tmp 18), none⟩] false).seq SC.ret))))
theorem sl41 : Try.f41.body.map slim = some s41 := by kernel_rfl
theorem ok41 : fnOK calmB Try.f41 0 = true := by kernel_rfl

/-- lectionaryref0.Zeros -/
def s45 : SC := ((SC.region 0 [⟨some 2, .assign (.const (.string { data := #[] })), none⟩] false).seq ((SC.region 1 [⟨some 3, .move (.tmp 0), none⟩,
  ⟨some 4, .makeSlice 31 (.tmp 3) (.tmp 3), none⟩,
  ⟨some 5, .convert 31 9 (.tmp 4), none⟩,
  ⟨some 2, .assign (.tmp 5), none⟩] false).seq SC.ret))
theorem sl45 : Try.f45.body.map slim = some s45 := by kernel_rfl
theorem ok45 : fnOK calmB Try.f45 0 = true := by kernel_rfl

def s30L0 : SC := (((SC.region 8 [⟨some 34, .move (.tmp 8), none⟩,
  ⟨some 35, .move (.tmp 7), none⟩,
  ⟨some 36, .call { callee := .builtin .len, args := #[.tmp 35], argTypes := #[38] }, none⟩,
  ⟨some 37, .binOp .lss 3 (.tmp 34) (.tmp 36) 3, none⟩] false).seq (SC.cond (.tmp 37) SC.skip (SC.exit 0))).seq (SC.block 1 (SC.region 9 [⟨some 38, .move (.tmp 8), none⟩,
  ⟨some 39, .move (.tmp 7), none⟩,
  ⟨some 40, .move (.tmp 8), none⟩,
  ⟨some 41, .slice 38 (.tmp 39) (some (.tmp 40)) none none, none⟩,
  ⟨some 42, .move (.tmp 7), none⟩,
  ⟨some 43, .move (.tmp 8), none⟩,
  ⟨some 44, .slice 38 (.tmp 42) none (some (.tmp 43)) none, none⟩,
  ⟨some 45, .call { callee := .builtin .copy, args := #[.tmp 41, .tmp 44], argTypes := #[38, 38] }, none⟩,
  ⟨some 46, .binOp .add 3 (.tmp 38) (.tmp 45) 3, none⟩,
  ⟨some 8, .assign (.tmp 46), none⟩] true)))
/-- slices.Repeat[[]int,int] -/
def s30 : SC := ((SC.region 0 [⟨some 4, .assign (.const (.slice none 0 0)), none⟩] false).seq (((SC.region 1 [⟨some 9, .move (.tmp 1), none⟩,
  ⟨some 10, .binOp .lss 3 (.tmp 9) (.const (.int .i64 0)) 3, none⟩] false).seq (SC.cond (.tmp 10) (SC.region 2 [⟨some 11, .makeInterface 9 (.const (.string { data := #[99, 97, 110, 110, 111, 116, 32, 98, 101, 32, 110, 101, 103, 97, 116, 105, 118, 101] })), none⟩,
  ⟨none, .panic (.tmp 11), none⟩] false) SC.skip)).seq ((SC.region 3 [⟨some 13, .move (.tmp 0), none⟩,
  ⟨some 14, .call { callee := .builtin .len, args := #[.tmp 13], argTypes := #[38] }, none⟩,
  ⟨some 15, .convert 3 60 (.tmp 14), none⟩,
  ⟨some 16, .move (.tmp 1), none⟩,
  ⟨some 17, .convert 3 60 (.tmp 16), none⟩,
  ⟨some 18, .call { callee := .value (.func 51), args := #[.tmp 15, .tmp 17], argTypes := #[60, 60] }, none⟩,
  ⟨some 12, .move (.tmp 18), none⟩,
  ⟨some 19, .extract (.tmp 12) 0, none⟩,
  ⟨some 20, .extract (.tmp 12) 1, none⟩,
  ⟨some 5, .assign (.tmp 19), none⟩,
  ⟨some 6, .assign (.tmp 20), none⟩] false).seq (((SC.region 4 [⟨some 21, .move (.tmp 5), none⟩,
  ⟨some 22, .binOp .gtr 60 (.tmp 21) (.const (.int .u64 0)) 60, none⟩,
  ⟨some 23, .move (.tmp 22), none⟩,
  ⟨some 24, .move (.tmp 6), some (some 23, false)⟩,
  ⟨some 25, .binOp .gtr 60 (.tmp 24) (.const (.int .u64 9223372036854775807)) 60, some (some 23, false)⟩,
  ⟨some 26, .pick (.tmp 23) (.const (.bool true)) (.tmp 25), none⟩] false).seq (SC.cond (.tmp 26) (SC.region 5 [⟨some 27, .makeInterface 9 (.const (.string { data := #[116, 104, 101, 32, 114, 101, 115, 117, 108, 116, 32, 111, 102, 32, 40, 108, 101, 110, 40, 120, 41, 32, 42, 32, 99, 111, 117, 110, 116, 41, 32, 111, 118, 101, 114, 102, 108, 111, 119, 115] })), none⟩,
  ⟨none, .panic (.tmp 27), none⟩] false) SC.skip)).seq ((SC.region 6 [⟨some 28, .move (.tmp 6), none⟩,
  ⟨some 29, .convert 60 3 (.tmp 28), none⟩,
  ⟨some 30, .makeSlice 38 (.tmp 29) (.tmp 29), none⟩,
  ⟨some 7, .assign (.tmp 30), none⟩] false).seq ((SC.region 7 [⟨some 31, .move (.tmp 7), none⟩,
  ⟨some 32, .move (.tmp 0), none⟩,
  ⟨some 33, .call { callee := .builtin .copy, args := #[.tmp 31, .tmp 32], argTypes := #[38, 38] }, none⟩,
  ⟨some 8, .assign (.tmp 33), none⟩] false).seq ((SC.block 0 (SC.loop s30L0)).seq ((SC.region 10 [⟨some 47, .move (.tmp 7), none⟩,
  ⟨some 4, .assign (.tmp 47), none⟩] false).seq SC.ret))))))))
theorem sl30 : Try.f30.body.map slim = some s30 := by kernel_rfl
theorem ok30 : fnOK calmB Try.f30 0 = true := by kernel_rfl

def s36L0 : SC := (((SC.region 8 [⟨some 34, .move (.tmp 8), none⟩,
  ⟨some 35, .move (.tmp 7), none⟩,
  ⟨some 36, .call { callee := .builtin .len, args := #[.tmp 35], argTypes := #[22] }, none⟩,
  ⟨some 37, .binOp .lss 3 (.tmp 34) (.tmp 36) 3, none⟩] false).seq (SC.cond (.tmp 37) SC.skip (SC.exit 0))).seq (SC.block 1 (SC.region 9 [⟨some 38, .move (.tmp 8), none⟩,
  ⟨some 39, .move (.tmp 7), none⟩,
  ⟨some 40, .move (.tmp 8), none⟩,
  ⟨some 41, .slice 22 (.tmp 39) (some (.tmp 40)) none none, none⟩,
  ⟨some 42, .move (.tmp 7), none⟩,
  ⟨some 43, .move (.tmp 8), none⟩,
  ⟨some 44, .slice 22 (.tmp 42) none (some (.tmp 43)) none, none⟩,
  ⟨some 45, .call { callee := .builtin .copy, args := #[.tmp 41, .tmp 44], argTypes := #[22, 22] }, none⟩,
  ⟨some 46, .binOp .add 3 (.tmp 38) (.tmp 45) 3, none⟩,
  ⟨some 8, .assign (.tmp 46), none⟩] true)))
/-- slices.Repeat[[]string,string] -/
def s36 : SC := ((SC.region 0 [⟨some 4, .assign (.const (.slice none 0 0)), none⟩] false).seq (((SC.region 1 [⟨some 9, .move (.tmp 1), none⟩,
  ⟨some 10, .binOp .lss 3 (.tmp 9) (.const (.int .i64 0)) 3, none⟩] false).seq (SC.cond (.tmp 10) (SC.region 2 [⟨some 11, .makeInterface 9 (.const (.string { data := #[99, 97, 110, 110, 111, 116, 32, 98, 101, 32, 110, 101, 103, 97, 116, 105, 118, 101] })), none⟩,
  ⟨none, .panic (.tmp 11), none⟩] false) SC.skip)).seq ((SC.region 3 [⟨some 13, .move (.tmp 0), none⟩,
  ⟨some 14, .call { callee := .builtin .len, args := #[.tmp 13], argTypes := #[22] }, none⟩,
  ⟨some 15, .convert 3 60 (.tmp 14), none⟩,
  ⟨some 16, .move (.tmp 1), none⟩,
  ⟨some 17, .convert 3 60 (.tmp 16), none⟩,
  ⟨some 18, .call { callee := .value (.func 51), args := #[.tmp 15, .tmp 17], argTypes := #[60, 60] }, none⟩,
  ⟨some 12, .move (.tmp 18), none⟩,
  ⟨some 19, .extract (.tmp 12) 0, none⟩,
  ⟨some 20, .extract (.tmp 12) 1, none⟩,
  ⟨some 5, .assign (.tmp 19), none⟩,
  ⟨some 6, .assign (.tmp 20), none⟩] false).seq (((SC.region 4 [⟨some 21, .move (.tmp 5), none⟩,
  ⟨some 22, .binOp .gtr 60 (.tmp 21) (.const (.int .u64 0)) 60, none⟩,
  ⟨some 23, .move (.tmp 22), none⟩,
  ⟨some 24, .move (.tmp 6), some (some 23, false)⟩,
  ⟨some 25, .binOp .gtr 60 (.tmp 24) (.const (.int .u64 9223372036854775807)) 60, some (some 23, false)⟩,
  ⟨some 26, .pick (.tmp 23) (.const (.bool true)) (.tmp 25), none⟩] false).seq (SC.cond (.tmp 26) (SC.region 5 [⟨some 27, .makeInterface 9 (.const (.string { data := #[116, 104, 101, 32, 114, 101, 115, 117, 108, 116, 32, 111, 102, 32, 40, 108, 101, 110, 40, 120, 41, 32, 42, 32, 99, 111, 117, 110, 116, 41, 32, 111, 118, 101, 114, 102, 108, 111, 119, 115] })), none⟩,
  ⟨none, .panic (.tmp 27), none⟩] false) SC.skip)).seq ((SC.region 6 [⟨some 28, .move (.tmp 6), none⟩,
  ⟨some 29, .convert 60 3 (.tmp 28), none⟩,
  ⟨some 30, .makeSlice 22 (.tmp 29) (.tmp 29), none⟩,
  ⟨some 7, .assign (.tmp 30), none⟩] false).seq ((SC.region 7 [⟨some 31, .move (.tmp 7), none⟩,
  ⟨some 32, .move (.tmp 0), none⟩,
  ⟨some 33, .call { callee := .builtin .copy, args := #[.tmp 31, .tmp 32], argTypes := #[22, 22] }, none⟩,
  ⟨some 8, .assign (.tmp 33), none⟩] false).seq ((SC.block 0 (SC.loop s36L0)).seq ((SC.region 10 [⟨some 47, .move (.tmp 7), none⟩,
  ⟨some 4, .assign (.tmp 47), none⟩] false).seq SC.ret))))))))
theorem sl36 : Try.f36.body.map slim = some s36 := by kernel_rfl
theorem ok36 : fnOK calmB Try.f36 0 = true := by kernel_rfl

/-- slices.Clone[[]string,string] -/
def s32 : SC := ((SC.region 0 [⟨some 2, .assign (.const (.slice none 0 0)), none⟩] false).seq (((SC.region 1 [⟨some 3, .move (.tmp 0), none⟩,
  ⟨some 4, .binOp .eql 22 (.tmp 3) (.const (.slice none 0 0)) 22, none⟩] false).seq (SC.cond (.tmp 4) ((SC.region 2 [⟨some 2, .assign (.const (.slice none 0 0)), none⟩] false).seq SC.ret) SC.skip)).seq ((SC.region 3 [⟨some 5, .buildSlice 22 0 #[], none⟩,
  ⟨some 6, .move (.tmp 0), none⟩,
  ⟨some 7, .call { callee := .builtin .append, args := #[.tmp 5, .tmp 6], argTypes := #[22, 22] }, none⟩,
  ⟨some 2, .assign (.tmp 7), none⟩] false).seq SC.ret)))
theorem sl32 : Try.f32.body.map slim = some s32 := by kernel_rfl
theorem ok32 : fnOK calmB Try.f32 0 = true := by kernel_rfl

/-- slices.ContainsFunc[[]string,string] -/
def s46 : SC := ((SC.region 0 [⟨some 4, .assign (.const (.bool false)), none⟩] false).seq ((SC.region 1 [⟨some 5, .move (.tmp 0), none⟩,
  ⟨some 6, .move (.tmp 1), none⟩,
  ⟨some 7, .call { callee := .value (.func 53), args := #[.tmp 5, .tmp 6], argTypes := #[22, 55] }, none⟩,
  ⟨some 8, .binOp .geq 3 (.tmp 7) (.const (.int .i64 0)) 3, none⟩,
  ⟨some 4, .assign (.tmp 8), none⟩] false).seq SC.ret))
theorem sl46 : Try.f46.body.map slim = some s46 := by kernel_rfl
theorem ok46 : fnOK calmB Try.f46 0 = true := by kernel_rfl

/-- slices.ContainsFunc[[]api.Sector,api.Sector] -/
def s48 : SC := ((SC.region 0 [⟨some 4, .assign (.const (.bool false)), none⟩] false).seq ((SC.region 1 [⟨some 5, .move (.tmp 0), none⟩,
  ⟨some 6, .move (.tmp 1), none⟩,
  ⟨some 7, .call { callee := .value (.func 54), args := #[.tmp 5, .tmp 6], argTypes := #[23, 76] }, none⟩,
  ⟨some 8, .binOp .geq 3 (.tmp 7) (.const (.int .i64 0)) 3, none⟩,
  ⟨some 4, .assign (.tmp 8), none⟩] false).seq SC.ret))
theorem sl48 : Try.f48.body.map slim = some s48 := by kernel_rfl
theorem ok48 : fnOK calmB Try.f48 0 = true := by kernel_rfl

/-- slices.Clone[[]api.Sector,api.Sector] -/
def s50 : SC := ((SC.region 0 [⟨some 2, .assign (.const (.slice none 0 0)), none⟩] false).seq (((SC.region 1 [⟨some 3, .move (.tmp 0), none⟩,
  ⟨some 4, .binOp .eql 23 (.tmp 3) (.const (.slice none 0 0)) 23, none⟩] false).seq (SC.cond (.tmp 4) ((SC.region 2 [⟨some 2, .assign (.const (.slice none 0 0)), none⟩] false).seq SC.ret) SC.skip)).seq ((SC.region 3 [⟨some 5, .buildSlice 23 0 #[], none⟩,
  ⟨some 6, .move (.tmp 0), none⟩,
  ⟨some 7, .call { callee := .builtin .append, args := #[.tmp 5, .tmp 6], argTypes := #[23, 23] }, none⟩,
  ⟨some 2, .assign (.tmp 7), none⟩] false).seq SC.ret)))
theorem sl50 : Try.f50.body.map slim = some s50 := by kernel_rfl
theorem ok50 : fnOK calmB Try.f50 0 = true := by kernel_rfl

/-- math/bits.Mul -/
def s51 : SC := ((SC.region 0 [⟨some 4, .assign (.const (.int .u64 0)), none⟩,
  ⟨some 5, .assign (.const (.int .u64 0)), none⟩] false).seq ((SC.cond (.const (.bool false)) ((SC.region 1 [⟨some 11, .move (.tmp 0), none⟩,
  ⟨some 12, .convert 60 82 (.tmp 11), none⟩,
  ⟨some 13, .move (.tmp 1), none⟩,
  ⟨some 14, .convert 60 82 (.tmp 13), none⟩,
  ⟨some 15, .call { callee := .value (.func 55), args := #[.tmp 12, .tmp 14], argTypes := #[82, 82] }, none⟩,
  ⟨some 10, .move (.tmp 15), none⟩,
  ⟨some 16, .extract (.tmp 10) 0, none⟩,
  ⟨some 17, .extract (.tmp 10) 1, none⟩,
  ⟨some 6, .assign (.tmp 16), none⟩,
  ⟨some 7, .assign (.tmp 17), none⟩] false).seq ((SC.region 2 [⟨some 18, .move (.tmp 6), none⟩,
  ⟨some 19, .convert 82 60 (.tmp 18), none⟩,
  ⟨some 20, .move (.tmp 7), none⟩,
  ⟨some 21, .convert 82 60 (.tmp 20), none⟩,
  ⟨some 4, .assign (.tmp 19), none⟩,
  ⟨some 5, .assign (.tmp 21), none⟩] false).seq SC.ret)) SC.skip).seq ((SC.region 3 [⟨some 23, .move (.tmp 0), none⟩,
  ⟨some 24, .move (.tmp 1), none⟩,
  ⟨some 25, .call { callee := .value (.func 56), args := #[.tmp 23, .tmp 24], argTypes := #[85, 85] }, none⟩,
  ⟨some 22, .move (.tmp 25), none⟩,
  ⟨some 26, .extract (.tmp 22) 0, none⟩,
  ⟨some 27, .extract (.tmp 22) 1, none⟩,
  ⟨some 8, .assign (.tmp 26), none⟩,
  ⟨some 9, .assign (.tmp 27), none⟩] false).seq ((SC.region 4 [⟨some 28, .move (.tmp 8), none⟩,
  ⟨some 29, .move (.tmp 9), none⟩,
  ⟨some 4, .assign (.tmp 28), none⟩,
  ⟨some 5, .assign (.tmp 29), none⟩] false).seq SC.ret))))
theorem sl51 : Try.f51.body.map slim = some s51 := by kernel_rfl
theorem ok51 : fnOK calmB Try.f51 0 = true := by kernel_rfl

def s53L0 : SC := ((SC.region 2 [⟨some 9, .binOp .lss 3 (.tmp 8) (.tmp 7) 3, none⟩] false).seq ((SC.cond (.tmp 9) SC.skip (SC.exit 0)).seq ((SC.block 1 ((SC.region 3 [⟨some 10, .move (.tmp 8), none⟩,
  ⟨some 5, .assign (.tmp 10), none⟩] false).seq ((SC.region 4 [⟨some 11, .move (.tmp 1), none⟩,
  ⟨some 12, .move (.tmp 0), none⟩,
  ⟨some 13, .move (.tmp 5), none⟩,
  ⟨some 14, .indexAddr 22 (.tmp 12) (.tmp 13), none⟩,
  ⟨some 15, .load 9 (.tmp 14), none⟩,
  ⟨some 16, .call { callee := .value (.tmp 11), args := #[.tmp 15], argTypes := #[9] }, none⟩] false).seq (SC.cond (.tmp 16) ((SC.region 5 [⟨some 17, .move (.tmp 5), none⟩,
  ⟨some 4, .assign (.tmp 17), none⟩] false).seq SC.ret) SC.skip)))).seq (SC.region 6 [⟨some 18, .binOp .add 3 (.tmp 8) (.const (.int .i64 1)) 3, none⟩,
  ⟨some 8, .move (.tmp 18), none⟩] false))))
/-- slices.IndexFunc[[]string,string] -/
def s53 : SC := ((SC.region 0 [⟨some 4, .assign (.const (.int .i64 0)), none⟩] false).seq (((SC.region 1 [⟨some 6, .move (.tmp 0), none⟩,
  ⟨some 7, .call { callee := .builtin .len, args := #[.tmp 6], argTypes := #[22] }, none⟩,
  ⟨some 8, .move (.const (.int .i64 0)), none⟩] false).seq (SC.block 0 (SC.loop s53L0))).seq ((SC.region 7 [⟨some 4, .assign (.const (.int .i64 (-1))), none⟩] false).seq SC.ret)))
theorem sl53 : Try.f53.body.map slim = some s53 := by kernel_rfl
theorem ok53 : fnOK calmB Try.f53 0 = true := by kernel_rfl

def s54L0 : SC := ((SC.region 2 [⟨some 9, .binOp .lss 3 (.tmp 8) (.tmp 7) 3, none⟩] false).seq ((SC.cond (.tmp 9) SC.skip (SC.exit 0)).seq ((SC.block 1 ((SC.region 3 [⟨some 10, .move (.tmp 8), none⟩,
  ⟨some 5, .assign (.tmp 10), none⟩] false).seq ((SC.region 4 [⟨some 11, .move (.tmp 1), none⟩,
  ⟨some 12, .move (.tmp 0), none⟩,
  ⟨some 13, .move (.tmp 5), none⟩,
  ⟨some 14, .indexAddr 23 (.tmp 12) (.tmp 13), none⟩,
  ⟨some 15, .load 57 (.tmp 14), none⟩,
  ⟨some 16, .call { callee := .value (.tmp 11), args := #[.tmp 15], argTypes := #[57] }, none⟩] false).seq (SC.cond (.tmp 16) ((SC.region 5 [⟨some 17, .move (.tmp 5), none⟩,
  ⟨some 4, .assign (.tmp 17), none⟩] false).seq SC.ret) SC.skip)))).seq (SC.region 6 [⟨some 18, .binOp .add 3 (.tmp 8) (.const (.int .i64 1)) 3, none⟩,
  ⟨some 8, .move (.tmp 18), none⟩] false))))
/-- slices.IndexFunc[[]api.Sector,api.Sector] -/
def s54 : SC := ((SC.region 0 [⟨some 4, .assign (.const (.int .i64 0)), none⟩] false).seq (((SC.region 1 [⟨some 6, .move (.tmp 0), none⟩,
  ⟨some 7, .call { callee := .builtin .len, args := #[.tmp 6], argTypes := #[23] }, none⟩,
  ⟨some 8, .move (.const (.int .i64 0)), none⟩] false).seq (SC.block 0 (SC.loop s54L0))).seq ((SC.region 7 [⟨some 4, .assign (.const (.int .i64 (-1))), none⟩] false).seq SC.ret)))
theorem sl54 : Try.f54.body.map slim = some s54 := by kernel_rfl
theorem ok54 : fnOK calmB Try.f54 0 = true := by kernel_rfl

/-- math/bits.Mul64 -/
def s56 : SC := ((SC.region 0 [⟨some 4, .assign (.const (.int .u64 0)), none⟩,
  ⟨some 5, .assign (.const (.int .u64 0)), none⟩] false).seq ((SC.region 1 [⟨some 14, .move (.tmp 0), none⟩,
  ⟨some 15, .binOp .and 85 (.tmp 14) (.const (.int .u64 4294967295)) 85, none⟩,
  ⟨some 6, .assign (.tmp 15), none⟩] false).seq ((SC.region 2 [⟨some 16, .move (.tmp 0), none⟩,
  ⟨some 17, .binOp .shr 85 (.tmp 16) (.const (.int .u64 32)) 60, none⟩,
  ⟨some 7, .assign (.tmp 17), none⟩] false).seq ((SC.region 3 [⟨some 18, .move (.tmp 1), none⟩,
  ⟨some 19, .binOp .and 85 (.tmp 18) (.const (.int .u64 4294967295)) 85, none⟩,
  ⟨some 8, .assign (.tmp 19), none⟩] false).seq ((SC.region 4 [⟨some 20, .move (.tmp 1), none⟩,
  ⟨some 21, .binOp .shr 85 (.tmp 20) (.const (.int .u64 32)) 60, none⟩,
  ⟨some 9, .assign (.tmp 21), none⟩] false).seq ((SC.region 5 [⟨some 22, .move (.tmp 6), none⟩,
  ⟨some 23, .move (.tmp 8), none⟩,
  ⟨some 24, .binOp .mul 85 (.tmp 22) (.tmp 23) 85, none⟩,
  ⟨some 10, .assign (.tmp 24), none⟩] false).seq ((SC.region 6 [⟨some 25, .move (.tmp 7), none⟩,
  ⟨some 26, .move (.tmp 8), none⟩,
  ⟨some 27, .binOp .mul 85 (.tmp 25) (.tmp 26) 85, none⟩,
  ⟨some 28, .move (.tmp 10), none⟩,
  ⟨some 29, .binOp .shr 85 (.tmp 28) (.const (.int .u64 32)) 60, none⟩,
  ⟨some 30, .binOp .add 85 (.tmp 27) (.tmp 29) 85, none⟩,
  ⟨some 11, .assign (.tmp 30), none⟩] false).seq ((SC.region 7 [⟨some 31, .move (.tmp 11), none⟩,
  ⟨some 32, .binOp .and 85 (.tmp 31) (.const (.int .u64 4294967295)) 85, none⟩,
  ⟨some 12, .assign (.tmp 32), none⟩] false).seq ((SC.region 8 [⟨some 33, .move (.tmp 11), none⟩,
  ⟨some 34, .binOp .shr 85 (.tmp 33) (.const (.int .u64 32)) 60, none⟩,
  ⟨some 13, .assign (.tmp 34), none⟩] false).seq ((SC.region 9 [⟨some 35, .move (.tmp 12), none⟩,
  ⟨some 36, .move (.tmp 6), none⟩,
  ⟨some 37, .move (.tmp 9), none⟩,
  ⟨some 38, .binOp .mul 85 (.tmp 36) (.tmp 37) 85, none⟩,
  ⟨some 39, .binOp .add 85 (.tmp 35) (.tmp 38) 85, none⟩,
  ⟨some 12, .assign (.tmp 39), none⟩] false).seq ((SC.region 10 [⟨some 40, .move (.tmp 7), none⟩,
  ⟨some 41, .move (.tmp 9), none⟩,
  ⟨some 42, .binOp .mul 85 (.tmp 40) (.tmp 41) 85, none⟩,
  ⟨some 43, .move (.tmp 13), none⟩,
  ⟨some 44, .binOp .add 85 (.tmp 42) (.tmp 43) 85, none⟩,
  ⟨some 45, .move (.tmp 12), none⟩,
  ⟨some 46, .binOp .shr 85 (.tmp 45) (.const (.int .u64 32)) 60, none⟩,
  ⟨some 47, .binOp .add 85 (.tmp 44) (.tmp 46) 85, none⟩,
  ⟨some 4, .assign (.tmp 47), none⟩] false).seq ((SC.region 11 [⟨some 48, .move (.tmp 0), none⟩,
  ⟨some 49, .move (.tmp 1), none⟩,
  ⟨some 50, .binOp .mul 85 (.tmp 48) (.tmp 49) 85, none⟩,
  ⟨some 5, .assign (.tmp 50), none⟩] false).seq SC.ret))))))))))))
theorem sl56 : Try.f56.body.map slim = some s56 := by kernel_rfl
theorem ok56 : fnOK calmB Try.f56 0 = true := by kernel_rfl

attribute [simp] Try.results3 Try.results4 Try.results5 Try.results6 Try.results7 Try.results8 Try.results9 Try.results13 Try.results18 Try.results23 Try.results24 Try.results10 Try.results14 Try.results20 Try.results40 Try.results42 Try.results26 Try.results11 Try.results12 Try.results16 Try.results19 Try.results27 Try.results28 Try.results29 Try.results35 Try.results37 Try.results43 Try.results47 Try.results49 Try.results15 Try.results25 Try.results44 Try.results17 Try.results21 Try.results22 Try.results31 Try.results33 Try.results34 Try.results38 Try.results39 Try.results41 Try.results45 Try.results30 Try.results36 Try.results32 Try.results46 Try.results48 Try.results50 Try.results51 Try.results53 Try.results54 Try.results56

end Go.AE
