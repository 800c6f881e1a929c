/- Ops and entries: which may be; what they are as bytes. -/
import Derived.Test.YtjafmhgkfkfimaaSto3
import Derived.Shelf.Strings.Repeat
import Derived.KernelRfl
import Derived.Test.YtjafmhgkfkfimaaProg
import Derived.WalkKit
import Derived.BigCall
import Derived.Shelf.Strings.FuncGrows
import Derived.Shelf.Utf8.RuneCount

set_option linter.unusedVariables false
set_option linter.unusedSimpArgs false
namespace Go.AE
open Go

variable {P : Program}

/-- The callee begins in the caller's heap, at a stamp that is free. -/
def startS (H : Heap) (T : Nat) (args : List AV) : St := { s := fun t => args.getD t (.c (.raw undef)), H := H, T := T }

def finG (P : Program) (fn : Func) (R : AV → Heap → Prop) (e : AEx) (st : St) : Prop :=
  (match e with | .normal | .ret => True | _ => False) ∧ ∃ res, resA P st fn.results.toList = some res ∧ R res st.H

theorem callK_gc {calm : Array Oper → Bool} (hcalm : CalmOK P calm) {f : FuncId} {fn : Func} {c : Code} {st : St} {dst : Option Nat} {args : List AV} {us : List (Id × OK)} {ret : AV} (hf : P.funcs[f]? = some fn) (hb : fn.body = some c)
    (hok : fnOK calm fn args.length = true) (hret : ∀ c ∈ ret.flat, RetC c) (hun : adUn (nmOf st dst) st.H 0 ret.flat) (hub : ∀ q ∈ us, q.2 ≠ .unborn ∧ st.H q.1 ≠ .unborn)
    (hcl : ∀ q ∈ us, ∀ e sz f rows, q.2 = .arr e sz f rows → ∀ r ∈ rows, ∀ c ∈ r, ∀ id, idD id c → st.H id ≠ .unborn)
    (h : ∀ T, Fresh st.H T → awp P c (finG P fn fun res H => exV H res ret ∧ (soIds res.flat).Nodup ∧ (∀ id ∈ soIds res.flat, st.H id = .unborn) ∧ ∀ i, st.H i ≠ .unborn → H i = upH st.H us i) (startS st.H T args)) :
    CallK P st f args fun r H T => r = ret.ad (nmOf st dst) ∧ H = adH (nmOf st dst) 0 ret.flat (upH st.H us) ∧ T = st.T := by
  simp only [fnOK, hb, Bool.and_eq_true, decide_eq_true_eq, bne_iff_ne, ne_eq] at hok
  obtain ⟨⟨hname, hcode⟩, hle⟩ := hok
  refine ⟨by simp [okCall, hf, hb, hname], fun C ρ a w vs hr hsz hargs => ?_⟩
  obtain ⟨N, hN⟩ := hr.heap.fin
  let X : World → (Tag → Nat → Prop) → Heap → Lies → Prop := fun w' F' H' ρ' => Keeps w w' (Fr C st.H ρ) F' st.H H' ρ ρ'
  let C' : Ctx P := ⟨C.w0, C.hI, C.G, X, fun k q => q.trans k⟩
  have h0 : Rel C' ρ (startS st.H N args) { tmps := vs ++ Array.replicate (fn.ntmps - vs.size) undef, defers := [] } w := by
    refine ⟨hr.heap.ctx X _, fun t => ?_, rfl, Keeps.refl _ _ _ _⟩
    simp only [startS]
    by_cases ht : t < args.length
    · have h1 : args[t]? = some (args.getD t (.c (.raw undef))) := by simp [ht]
      have h2 : (vs ++ Array.replicate (fn.ntmps - vs.size) undef).getD t undef = vs.getD t undef := by
        simp [Array.getD_eq_getD_getElem?, Array.getElem?_append, show t < vs.size by omega]
      rw [h2]; exact hargs t _ h1
    · have h1 : args.getD t (.c (.raw undef)) = .c (.raw undef) := by simp [List.getD, List.getElem?_eq_none (Nat.le_of_not_lt ht)]
      have h2 : (vs ++ Array.replicate (fn.ntmps - vs.size) undef).getD t undef = undef := by
        simp only [Array.getD_eq_getD_getElem?, Array.getElem?_append, show ¬ t < vs.size by omega, if_false, Array.getElem?_replicate]
        split <;> rfl
      rw [h1, h2]; exact .c _ _ (.raw _)
  refine calls_of_wp hf hb (Code.wp_mono (fun e a' w' q => ?_) (awp_sound calm hcalm c fn.ntmps _ ρ (startS st.H N args) _ w hcode (by simp; omega) h0 (h N hN)))
  have fin : SemK C' fn.ntmps (fun st' => ∃ res, resA P st' fn.results.toList = some res ∧ exV st'.H res ret ∧ (soIds res.flat).Nodup ∧ (∀ id ∈ soIds res.flat, st.H id = .unborn) ∧ ∀ i, st.H i ≠ .unborn → st'.H i = upH st.H us i) a' w' →
      a'.defers = [] ∧ ∃ v, (results fn a'.tmps).run P w' = .ok v w' ∧ (∃ v', Ending.returned v = .returned v' ∧ ∃ ρ' r H' T', Rel C ρ' (st.back H' T') a w' ∧ RelV w' (Fr C H' ρ') H' ρ' r v' ∧
        r = ret.ad (nmOf st dst) ∧ H' = adH (nmOf st dst) 0 ret.flat (upH st.H us) ∧ T' = st.T) :=
    fun ⟨_, ρ', st', hr', res, g1, g2, g3, g4, g5⟩ => by
      obtain ⟨v, h1, h2⟩ := resA_sound hr' g1
      obtain ⟨ρ2, k1, k2⟩ := gc hr (hr'.heap.unctx) hr'.ghost h2 hret g2 g3 g4 (nmOf st dst) (nmOf_inj st dst) hun g5 hub hcl
      exact ⟨hr'.nodef, v, h1, v, rfl, ρ2, _, _, _, k1, k2, rfl, rfl, rfl⟩
  cases e with
  | normal => exact fin (SemK.mono q fun st hs => hs.2)
  | ret => exact fin (SemK.mono q fun st hs => hs.2)
  | exit id =>
    obtain ⟨_, _, _, _, hs⟩ := q
    exact hs.1.elim
  | _ => exact q.elim

/-- A call that turns one object, handed over by its pointer ahead of other values. -/
def mh1 (e sz : Nat) (g : List AC → List AV → Option (Prop × List AC × AV)) : MH := fun H args =>
  match args with
  | .c (.pt id 0 0) :: rest => match H id with
    | .arr e' sz' false [row] => if e' = e ∧ sz' = sz then (g row rest).map fun r => (r.1, [(id, .arr e sz false [r.2.1])], r.2.2) else none
    | _ => none
  | _ => none

def mhAt (e sz : Nat) (g : List AC → List AV → Option (Prop × List AC × AV)) (id : Id) (rest : List AV) (o : OK) : Option (Prop × List (Id × OK) × AV) :=
  match o with
  | .arr e' sz' false [row] => if e' = e ∧ sz' = sz then (g row rest).map fun r => (r.1, [(id, .arr e sz false [r.2.1])], r.2.2) else none
  | _ => none
@[simp] theorem mh1_go {e sz : Nat} {g : List AC → List AV → Option (Prop × List AC × AV)} {H : Heap} {id : Id} {rest : List AV} : mh1 e sz g H (.c (.pt id 0 0) :: rest) = mhAt e sz g id rest (H id) := rfl
@[simp] theorem mhAt_go {e sz : Nat} {g : List AC → List AV → Option (Prop × List AC × AV)} {id : Id} {rest : List AV} {row : List AC} : mhAt e sz g id rest (.arr e sz false [row]) = (g row rest).map fun r => (r.1, [(id, .arr e sz false [r.2.1])], r.2.2) := by simp [mhAt]

theorem mh1_inv {e sz : Nat} {g : List AC → List AV → Option (Prop × List AC × AV)} {H : Heap} {args : List AV} {r} (h : mh1 e sz g H args = some r) :
    ∃ id rest row q, args = .c (.pt id 0 0) :: rest ∧ H id = .arr e sz false [row] ∧ g row rest = some q ∧ r = (q.1, [(id, .arr e sz false [q.2.1])], q.2.2) := by
  unfold mh1 at h
  split at h
  · rename_i id rest
    split at h
    · rename_i e' sz' row hid
      split at h
      · rename_i he
        obtain ⟨rfl, rfl⟩ := he
        rw [Option.map_eq_some_iff] at h
        obtain ⟨q, hq, rfl⟩ := h
        exact ⟨id, rest, row, q, rfl, hid, hq, rfl⟩
      · cases h
    · cases h
  · cases h

/-- THE RULE FOR A CALL THAT TURNS ONE OBJECT. -/
theorem mtells1 (hm : P.follows .mixedOrders = true) {F : CT} (hF : CTok P F) {f : FuncId} {fn : Func} {s : SC} {e sz : Nat} {g : List AC → List AV → Option (Prop × List AC × AV)} (hf : P.funcs[f]? = some fn) (hs : slimK fn.body s = some (unK s, true))
    (hok : fnOK calmB fn 0 = true)
    (hlo : ∀ row rest q, g row rest = some q → Nat.ble (rest.length + 1) fn.ntmps = true ∧ (∀ c ∈ q.2.2.flat, RetC c) ∧ (∀ c ∈ q.2.1, ∀ id, ¬ idD id c))
    (h : ∀ (H : Heap) (T : Nat) (id : Id) row rest q, H id = .arr e sz false [row] → Fresh H T → g row rest = some q → q.1 →
      awpS P F s (finG P fn fun res H' => exV H' res q.2.2 ∧ (soIds res.flat).Nodup ∧ (∀ i ∈ soIds res.flat, H i = .unborn) ∧ SameBut [id] H H' ∧ H' id = .arr e sz false [q.2.1]) (startS H T (.c (.pt id 0 0) :: rest))) :
    MTells P f (mh1 e sz g) := by
  refine ⟨fun {H H' args r} hr hH => ?_, fun {H args C us ret} hr => ?_, fun {st dst args C us ret} hr hC hun => ?_⟩
  · obtain ⟨id, rest, row, q, rfl, h2, h3, rfl⟩ := mh1_inv hr
    have h4 : H' id = .arr e sz false [row] := by rw [hH id ⟨_, List.mem_cons_self, by simp⟩ (by rw [h2]; simp), h2]
    simp [h4, h3]
  · obtain ⟨id, rest, row, q, rfl, h2, h3, h4⟩ := mh1_inv hr
    simp only [Prod.mk.injEq] at h4
    obtain ⟨_, rfl, _⟩ := h4
    intro p hp
    simp only [List.mem_singleton] at hp
    subst hp
    exact ⟨by simp, by rw [h2]; simp, _, List.mem_cons_self, by simp⟩
  · obtain ⟨id, rest, row, q, rfl, h2, h3, h4⟩ := mh1_inv hr
    simp only [Prod.mk.injEq] at h4
    obtain ⟨rfl, rfl, rfl⟩ := h4
    obtain ⟨l1, l2, l3⟩ := hlo row rest q h3
    cases hb : fn.body with
    | none => rw [hb] at hs; cases hs
    | some c =>
      rw [hb] at hs
      simp only [slimK, Option.map_some, Option.some.injEq, Prod.mk.injEq] at hs
      refine callK_gc (calm_ok hm) hf hb ?_ l2 hun (fun p hp => ?_) (fun p hp e' sz' f' rows he r hr c hc id' hid' => ?_) fun T hT => ?_
      · simp only [fnOK, hb, Bool.and_eq_true] at hok ⊢
        exact ⟨hok.1, by simpa using Nat.le_of_ble_eq_true l1⟩
      · simp only [List.mem_singleton] at hp
        subst hp
        exact ⟨by simp, by rw [h2]; simp⟩
      · simp only [List.mem_singleton] at hp
        subst hp
        cases he
        simp only [List.mem_singleton] at hr
        subst hr
        exact (l3 c hc id' hid').elim
      · refine awp_mono (fun e st' hq => ?_) (awpS_sound hF hs.1 hs.2 (h st.H T id row rest q h2 hT h3 hC))
        obtain ⟨q1, res, q2, q3, q4, q5, q6, q7⟩ := hq
        refine ⟨q1, res, q2, q3, q4, q5, fun i hi => ?_⟩
        simp only [upH]
        by_cases hid : i = id
        · subst hid; simp [hset, q7]
        · simp only [hset, if_neg hid]
          exact q6 i hi (by simpa using hid)

section
variable {st : St} {H : Heap} {T : Nat} {args : List AV} {k : Nat}
@[simp] theorem startS_s : (startS H T args).s k = args.getD k (.c (.raw undef)) := rfl
@[simp] theorem startS_H : (startS H T args).H = H := rfl
@[simp] theorem startS_T : (startS H T args).T = T := rfl
@[simp] theorem finG_ret {fn : Func} {R : AV → Heap → Prop} : finG P fn R .ret st = ∃ res, resA P st fn.results.toList = some res ∧ R res st.H := by simp [finG]
@[simp] theorem finG_normal {fn : Func} {R : AV → Heap → Prop} : finG P fn R .normal st = ∃ res, resA P st fn.results.toList = some res ∧ R res st.H := by simp [finG]
end
@[simp] theorem idD_raw {id : Id} {v : Value} : idD id (.raw v) ↔ False := ⟨(fun h => nomatch h), (fun h => h.elim)⟩
@[simp] theorem idD_str {id : Id} {l : List UInt8} : idD id (.str l) ↔ False := ⟨(fun h => nomatch h), (fun h => h.elim)⟩
theorem RetOK.noD {c : AC} (h : RetOK c) {id : Id} : ¬ idD id c := by
  induction h with
  | raw v => simp
  | str l => simp
  | sl t cl xs ht h ih =>
    intro hi
    cases hi with
    | sl _ _ _ r c hr hc hi => exact ih r hr c hc hi
@[simp] theorem idD_rows {α : Type} [Enc α] {id : Id} {t : Tag} {cl : Bool} {l : List α} : idD id (.sl t cl (rowsE l)) ↔ False := by
  refine ⟨fun h => ?_, fun h => h.elim⟩
  cases h with
  | sl _ _ _ r c hr hc h =>
    simp only [rowsE, List.mem_map] at hr
    obtain ⟨a, _, rfl⟩ := hr
    exact (Enc.ret a c hc).noD h
theorem SameBut.ext {S : List Id} {H0 H : Heap} {T0 T : Nat} (h : ExtH S H0 T0 H T) : SameBut S H0 H := h.1

end Go.AE

/- Numbers and frames as bytes: plain functions. No program in sight. -/
set_option linter.unusedVariables false
namespace Go.AE
open Go

/-- A number's bytes. -/
def bytesF : Nat → Nat → List UInt8
  | 0, n => [UInt8.ofNat n]
  | k + 1, n => if n < 128 then [UInt8.ofNat n] else UInt8.ofNat (n % 128 + 128) :: bytesF k (n / 128)
def bytesN (n : Nat) : List UInt8 := bytesF 9 n

/-- The number at the begin of bytes, and what is behind. -/
def takeF : Nat → Nat → Nat → List UInt8 → Option (Nat × List UInt8)
  | 0, _, _, _ => none
  | _ + 1, _, _, [] => none
  | k + 1, m, acc, b :: s =>
    if 128 ≤ b.toNat then takeF k (m * 128) (acc + (b.toNat % 128) * m) s
    else if 268435456 < acc + (b.toNat % 128) * m ∨ (1 < m ∧ b.toNat = 0) then none else some (acc + (b.toNat % 128) * m, s)
def takeN (s : List UInt8) : Option (Nat × List UInt8) := takeF 5 1 0 s
/-- As it is told: the number, what is behind, the error. -/
def takeR (s : List UInt8) : Nat × List UInt8 × Int := match takeN s with | some (n, r) => (n, r, 0) | none => (0, [], 7)
def takeTextR (s : List UInt8) : List UInt8 × List UInt8 × Int :=
  match takeN s with
  | some (n, r) => if n ≤ r.length then (r.take n, r.drop n, 0) else ([], [], 7)
  | none => ([], [], 7)

/-- A check. -/
def ofF : Nat → List UInt8 → Nat
  | h, [] => h
  | h, b :: s => ofF ((h * 263 + b.toNat + 7) % 4294967291) s
def ofN (s : List UInt8) : Nat := ofF 1 s
def speltN (h : Nat) : List UInt8 := [UInt8.ofNat (h / 16777216), UInt8.ofNat (h / 65536), UInt8.ofNat (h / 256), UInt8.ofNat h]
/-- A frame. -/
def sealA (s : List UInt8) : List UInt8 := if 700 < s.length then [] else bytesN s.length ++ speltN (ofN (bytesN s.length ++ s)) ++ s
def sealT (s : List UInt8) : Option (List UInt8 × List UInt8) :=
  match takeN s with
  | some (n, r) => if 700 < n ∨ r.length < n + 4 then none else
    if r.take 4 = speltN (ofN (s.take (s.length - r.length) ++ (r.take (4 + n)).drop 4)) then some ((r.take (4 + n)).drop 4, r.drop (4 + n)) else none
  | none => none

/-! ### Bytes in rows -/
instance encU8 : Enc UInt8 where
  w := 1
  row b := [.raw (.int .u8 b.toNat)]
  dec | [.raw (.int .u8 n)] => if 0 ≤ n ∧ n < 256 then some (UInt8.ofNat n.toNat) else none | _ => none
  dec_row a := by
    have := a.toNat_lt
    simp
    omega
  row_dec {r a} h := by
    split at h
    · split at h
      · rename_i n hn
        cases h
        simp
        omega
      · cases h
    · cases h
  len _ := rfl
  old a c hc := by simp at hc; subst hc; exact .raw _
  ret a c hc := by simp at hc; subst hc; exact .raw _
@[simp] theorem row_U8 (b : UInt8) : Enc.row b = [AC.raw (.int .u8 b.toNat)] := rfl
@[simp] theorem w_U8 : Enc.w UInt8 = 1 := rfl

theorem bytesAC_snoc : ∀ (l : List UInt8) (v : Int), bytesAC (rowsE l ++ [[.raw (.int .u8 v)]]) = some (l ++ [UInt8.ofNat v.toNat])
  | [], v => rfl
  | b :: l, v => by
    show ((bytesAC (rowsE l ++ [[.raw (.int .u8 v)]])).map fun x => UInt8.ofNat ((b.toNat : Int)).toNat :: x) = _
    rw [bytesAC_snoc l v]
    simp
theorem bytesAC_rowsU : ∀ (l : List UInt8), bytesAC (rowsE l) = some l
  | [] => rfl
  | b :: l => by
    show ((bytesAC (rowsE l)).map fun x => UInt8.ofNat ((b.toNat : Int)).toNat :: x) = _
    rw [bytesAC_rowsU l]
    simp
theorem rowsU8_snoc (l : List UInt8) (v : Int) (h0 : 0 ≤ v) (h1 : v < 256) : rowsE l ++ [[.raw (.int .u8 v)]] = rowsE (l ++ [UInt8.ofNat v.toNat]) := by
  rw [← rowsE_snoc]
  congr 1
  simp
  omega
theorem rowsU8_one (v : Int) (h0 : 0 ≤ v) (h1 : v < 256) : [[AC.raw (.int .u8 v)]] = rowsE [UInt8.ofNat v.toNat] := by
  have := rowsU8_snoc [] v h0 h1
  simpa using this
attribute [simp] bytesAC_snoc bytesAC_rowsU

theorem wrap8_id {n : Int} (h1 : 0 ≤ n) (h2 : n ≤ 255) : IntKind.wrap .u8 n = n := by
  simp [IntKind.wrap, IntKind.bits, IntKind.signed]
  omega
theorem wrap8_mod {n : Int} (h1 : 0 ≤ n) : IntKind.wrap .u8 n = n % 256 := by
  simp [IntKind.wrap, IntKind.bits, IntKind.signed]
theorem wrap32_mod {n : Int} : IntKind.wrap .u32 n = n % 4294967296 := by
  simp [IntKind.wrap, IntKind.bits, IntKind.signed]
theorem wrap64u_mod {n : Int} : IntKind.wrap .u64 n = n % 18446744073709551616 := by
  simp [IntKind.wrap, IntKind.bits, IntKind.signed]

end Go.AE

/- The functions' code without its remarks. Printed by a program of this session. -/
set_option maxRecDepth 100000
namespace Go.AE
open Go Go.Proofs

def s3L0 : SC := (((SC.region 5 [⟨some 30, .move (.tmp 6), none⟩,
  ⟨some 31, .binOp .lss 3 (.tmp 30) (.const (.int .i64 4)) 3, none⟩] false).seq (SC.cond (.tmp 31) SC.skip (SC.exit 0))).seq ((SC.block 1 ((SC.region 7 [⟨some 35, .load 30 (.tmp 4), none⟩,
  ⟨some 36, .move (.tmp 5), none⟩,
  ⟨some 37, .move (.tmp 3), none⟩,
  ⟨some 38, .move (.tmp 6), none⟩,
  ⟨some 39, .indexAddr 34 (.tmp 37) (.tmp 38), none⟩,
  ⟨some 40, .load 47 (.tmp 39), none⟩,
  ⟨some 41, .call { callee := .value (.func 6), args := #[.tmp 35, .tmp 36, .tmp 40], argTypes := #[30, 3, 47] }, none⟩,
  ⟨some 34, .move (.tmp 41), none⟩,
  ⟨some 42, .extract (.tmp 34) 0, none⟩,
  ⟨some 43, .extract (.tmp 34) 1, none⟩,
  ⟨some 44, .extract (.tmp 34) 2, none⟩,
  ⟨some 7, .alloc 30, none⟩,
  ⟨none, .store 30 (.tmp 7) (.tmp 42), none⟩,
  ⟨some 8, .assign (.tmp 43), none⟩,
  ⟨some 9, .assign (.tmp 44), none⟩] true).seq (((SC.region 8 [⟨some 45, .move (.tmp 9), none⟩,
  ⟨some 46, .call { callee := .value (.func 7), args := #[.tmp 45], argTypes := #[39] }, none⟩,
  ⟨some 47, .binOp .neq 3 (.tmp 46) (.const (.int .i64 0)) 3, none⟩] false).seq (SC.cond (.tmp 47) ((SC.region 9 [⟨some 2, .assign (.const (.bool false)), none⟩] false).seq SC.ret) SC.skip)).seq (SC.region 10 [⟨some 48, .load 30 (.tmp 7), none⟩,
  ⟨some 49, .move (.tmp 8), none⟩,
  ⟨none, .store 30 (.tmp 4) (.tmp 48), none⟩,
  ⟨some 5, .assign (.tmp 49), none⟩] false)))).seq (SC.region 6 [⟨some 32, .move (.tmp 6), none⟩,
  ⟨some 33, .binOp .add 3 (.tmp 32) (.const (.int .i64 1)) 3, none⟩,
  ⟨some 6, .assign (.tmp 33), none⟩] false)))
def s3L1 : SC := (((SC.region 17 [⟨some 60, .move (.tmp 13), none⟩,
  ⟨some 61, .move (.tmp 10), none⟩,
  ⟨some 62, .binOp .lss 3 (.tmp 60) (.tmp 61) 3, none⟩] false).seq (SC.cond (.tmp 62) SC.skip (SC.exit 4))).seq ((SC.block 5 ((SC.region 19 [⟨some 65, .move (.tmp 12), none⟩,
  ⟨some 66, .move (.tmp 13), none⟩,
  ⟨some 67, .indexAddr 24 (.tmp 65) (.tmp 66), none⟩,
  ⟨none, .store 3 (.tmp 67) (.const (.int .i64 1)), none⟩] false).seq ((SC.region 20 [⟨some 68, .move (.tmp 13), none⟩,
  ⟨some 69, .move (.tmp 11), none⟩,
  ⟨some 70, .binOp .eql 3 (.tmp 68) (.tmp 69) 3, none⟩] false).seq (SC.cond (.tmp 70) (SC.region 21 [⟨some 71, .move (.tmp 12), none⟩,
  ⟨some 72, .move (.tmp 13), none⟩,
  ⟨some 73, .fieldAddr 36 (.tmp 1) 3, none⟩,
  ⟨some 74, .load 24 (.tmp 73), none⟩,
  ⟨some 75, .call { callee := .builtin .len, args := #[.tmp 74], argTypes := #[24] }, none⟩,
  ⟨some 76, .binOp .rem 3 (.tmp 75) (.const (.int .i64 2)) 3, none⟩,
  ⟨some 77, .binOp .mul 3 (.tmp 76) (.const (.int .i64 2)) 3, none⟩,
  ⟨some 78, .indexAddr 24 (.tmp 71) (.tmp 72), none⟩,
  ⟨none, .store 3 (.tmp 78) (.tmp 77), none⟩] false) SC.skip)))).seq (SC.region 18 [⟨some 63, .move (.tmp 13), none⟩,
  ⟨some 64, .binOp .add 3 (.tmp 63) (.const (.int .i64 1)) 3, none⟩,
  ⟨some 13, .assign (.tmp 64), none⟩] false)))
def s3L2 : SC := (((SC.region 13 [⟨some 53, .move (.tmp 11), none⟩,
  ⟨some 54, .move (.tmp 10), none⟩,
  ⟨some 55, .binOp .lss 3 (.tmp 53) (.tmp 54) 3, none⟩] false).seq (SC.cond (.tmp 55) SC.skip (SC.exit 2))).seq ((SC.block 3 ((SC.region 15 [⟨some 58, .move (.tmp 10), none⟩,
  ⟨some 59, .makeSlice 24 (.tmp 58) (.tmp 58), none⟩,
  ⟨some 12, .assign (.tmp 59), none⟩] false).seq (((SC.region 16 [⟨some 13, .assign (.const (.int .i64 0)), none⟩] false).seq (SC.block 4 (SC.loop s3L1))).seq ((SC.region 22 [⟨some 80, .load 30 (.tmp 4), none⟩,
  ⟨some 81, .move (.tmp 12), none⟩,
  ⟨some 82, .call { callee := .value (.func 8), args := #[.tmp 80, .tmp 81], argTypes := #[30, 24] }, none⟩,
  ⟨some 79, .move (.tmp 82), none⟩,
  ⟨some 83, .extract (.tmp 79) 0, none⟩,
  ⟨some 84, .extract (.tmp 79) 1, none⟩,
  ⟨some 14, .alloc 30, none⟩,
  ⟨none, .store 30 (.tmp 14) (.tmp 83), none⟩,
  ⟨some 15, .assign (.tmp 84), none⟩] false).seq ((SC.region 23 [⟨some 86, .load 30 (.tmp 14), none⟩,
  ⟨some 87, .call { callee := .value (.func 9), args := #[.tmp 86], argTypes := #[30] }, none⟩,
  ⟨some 85, .move (.tmp 87), none⟩,
  ⟨some 88, .extract (.tmp 85) 0, none⟩,
  ⟨some 89, .extract (.tmp 85) 1, none⟩,
  ⟨some 90, .extract (.tmp 85) 2, none⟩,
  ⟨some 16, .assign (.tmp 88), none⟩,
  ⟨some 17, .assign (.tmp 89), none⟩,
  ⟨some 18, .assign (.tmp 90), none⟩] false).seq ((SC.region 24 [⟨some 92, .load 30 (.tmp 14), none⟩,
  ⟨some 93, .move (.tmp 17), none⟩,
  ⟨some 94, .call { callee := .value (.func 10), args := #[.tmp 92, .tmp 93], argTypes := #[30, 3] }, none⟩,
  ⟨some 91, .move (.tmp 94), none⟩,
  ⟨some 95, .extract (.tmp 91) 0, none⟩,
  ⟨some 96, .extract (.tmp 91) 1, none⟩,
  ⟨some 19, .alloc 30, none⟩,
  ⟨none, .store 30 (.tmp 19) (.tmp 95), none⟩,
  ⟨some 20, .assign (.tmp 96), none⟩] false).seq ((SC.region 25 [⟨some 98, .load 30 (.tmp 19), none⟩,
  ⟨some 99, .move (.tmp 17), none⟩,
  ⟨some 100, .move (.tmp 3), none⟩,
  ⟨some 101, .indexAddr 34 (.tmp 100) (.const (.int .i64 4)), none⟩,
  ⟨some 102, .load 47 (.tmp 101), none⟩,
  ⟨some 103, .call { callee := .value (.func 6), args := #[.tmp 98, .tmp 99, .tmp 102], argTypes := #[30, 3, 47] }, none⟩,
  ⟨some 97, .move (.tmp 103), none⟩,
  ⟨some 104, .extract (.tmp 97) 0, none⟩,
  ⟨some 105, .extract (.tmp 97) 1, none⟩,
  ⟨some 106, .extract (.tmp 97) 2, none⟩,
  ⟨some 21, .alloc 30, none⟩,
  ⟨none, .store 30 (.tmp 21) (.tmp 104), none⟩,
  ⟨some 22, .assign (.tmp 105), none⟩,
  ⟨some 23, .assign (.tmp 106), none⟩] true).seq ((SC.region 26 [⟨some 108, .load 30 (.tmp 21), none⟩,
  ⟨some 109, .call { callee := .value (.func 11), args := #[.tmp 108], argTypes := #[30] }, none⟩,
  ⟨some 107, .move (.tmp 109), none⟩,
  ⟨some 110, .extract (.tmp 107) 0, none⟩,
  ⟨some 111, .extract (.tmp 107) 1, none⟩,
  ⟨none, .store 30 (.tmp 21) (.tmp 110), none⟩,
  ⟨some 24, .assign (.tmp 111), none⟩] false).seq ((SC.region 27 [⟨some 113, .load 30 (.tmp 21), none⟩,
  ⟨some 114, .call { callee := .value (.func 9), args := #[.tmp 113], argTypes := #[30] }, none⟩,
  ⟨some 112, .move (.tmp 114), none⟩,
  ⟨some 115, .extract (.tmp 112) 0, none⟩,
  ⟨some 116, .extract (.tmp 112) 1, none⟩,
  ⟨some 117, .extract (.tmp 112) 2, none⟩,
  ⟨some 25, .assign (.tmp 115), none⟩,
  ⟨some 26, .assign (.tmp 116), none⟩,
  ⟨some 27, .assign (.tmp 117), none⟩] false).seq ((SC.region 28 [⟨some 118, .move (.tmp 15), none⟩,
  ⟨some 119, .call { callee := .value (.func 7), args := #[.tmp 118], argTypes := #[39] }, none⟩,
  ⟨some 120, .binOp .neq 3 (.tmp 119) (.const (.int .i64 0)) 3, none⟩,
  ⟨some 121, .move (.tmp 120), none⟩,
  ⟨some 122, .move (.tmp 18), some (some 121, false)⟩,
  ⟨some 123, .call { callee := .value (.func 7), args := #[.tmp 122], argTypes := #[39] }, some (some 121, false)⟩,
  ⟨some 124, .binOp .neq 3 (.tmp 123) (.const (.int .i64 0)) 3, some (some 121, false)⟩,
  ⟨some 125, .pick (.tmp 121) (.const (.bool true)) (.tmp 124), none⟩,
  ⟨some 126, .move (.tmp 125), none⟩,
  ⟨some 127, .move (.tmp 20), some (some 126, false)⟩,
  ⟨some 128, .call { callee := .value (.func 7), args := #[.tmp 127], argTypes := #[39] }, some (some 126, false)⟩,
  ⟨some 129, .binOp .neq 3 (.tmp 128) (.const (.int .i64 0)) 3, some (some 126, false)⟩,
  ⟨some 130, .pick (.tmp 126) (.const (.bool true)) (.tmp 129), none⟩,
  ⟨some 131, .move (.tmp 130), none⟩,
  ⟨some 132, .move (.tmp 23), some (some 131, false)⟩,
  ⟨some 133, .call { callee := .value (.func 7), args := #[.tmp 132], argTypes := #[39] }, some (some 131, false)⟩,
  ⟨some 134, .binOp .neq 3 (.tmp 133) (.const (.int .i64 0)) 3, some (some 131, false)⟩,
  ⟨some 135, .pick (.tmp 131) (.const (.bool true)) (.tmp 134), none⟩,
  ⟨some 136, .move (.tmp 135), none⟩,
  ⟨some 137, .move (.tmp 24), some (some 136, false)⟩,
  ⟨some 138, .call { callee := .value (.func 7), args := #[.tmp 137], argTypes := #[39] }, some (some 136, false)⟩,
  ⟨some 139, .binOp .neq 3 (.tmp 138) (.const (.int .i64 0)) 3, some (some 136, false)⟩,
  ⟨some 140, .pick (.tmp 136) (.const (.bool true)) (.tmp 139), none⟩,
  ⟨some 141, .move (.tmp 140), none⟩,
  ⟨some 142, .move (.tmp 27), some (some 141, false)⟩,
  ⟨some 143, .call { callee := .value (.func 7), args := #[.tmp 142], argTypes := #[39] }, some (some 141, false)⟩,
  ⟨some 144, .binOp .neq 3 (.tmp 143) (.const (.int .i64 0)) 3, some (some 141, false)⟩,
  ⟨some 145, .pick (.tmp 141) (.const (.bool true)) (.tmp 144), none⟩,
  ⟨some 146, .move (.tmp 145), none⟩,
  ⟨some 147, .move (.tmp 25), some (some 146, false)⟩,
  ⟨some 148, .call { callee := .builtin .len, args := #[.tmp 147], argTypes := #[34] }, some (some 146, false)⟩,
  ⟨some 149, .move (.tmp 16), some (some 146, false)⟩,
  ⟨some 150, .call { callee := .builtin .len, args := #[.tmp 149], argTypes := #[34] }, some (some 146, false)⟩,
  ⟨some 151, .binOp .add 3 (.tmp 150) (.const (.int .i64 1)) 3, some (some 146, false)⟩,
  ⟨some 152, .binOp .neq 3 (.tmp 148) (.tmp 151) 3, some (some 146, false)⟩,
  ⟨some 153, .pick (.tmp 146) (.const (.bool true)) (.tmp 152), none⟩,
  ⟨some 154, .move (.tmp 153), none⟩,
  ⟨some 155, .move (.tmp 25), some (some 154, false)⟩,
  ⟨some 156, .move (.tmp 16), some (some 154, false)⟩,
  ⟨some 157, .call { callee := .builtin .len, args := #[.tmp 156], argTypes := #[34] }, some (some 154, false)⟩,
  ⟨some 158, .slice 34 (.tmp 155) none (some (.tmp 157)) none, some (some 154, false)⟩,
  ⟨some 159, .move (.tmp 16), some (some 154, false)⟩,
  ⟨some 160, .call { callee := .value (.func 12), args := #[.tmp 158, .tmp 159], argTypes := #[34, 34] }, some (some 154, false)⟩,
  ⟨some 161, .unOp .not 4 (.tmp 160), some (some 154, false)⟩,
  ⟨some 162, .pick (.tmp 154) (.const (.bool true)) (.tmp 161), none⟩,
  ⟨some 163, .move (.tmp 162), none⟩,
  ⟨some 164, .move (.tmp 25), some (some 163, false)⟩,
  ⟨some 165, .move (.tmp 16), some (some 163, false)⟩,
  ⟨some 166, .call { callee := .builtin .len, args := #[.tmp 165], argTypes := #[34] }, some (some 163, false)⟩,
  ⟨some 167, .indexAddr 34 (.tmp 164) (.tmp 166), some (some 163, false)⟩,
  ⟨some 168, .load 47 (.tmp 167), some (some 163, false)⟩,
  ⟨some 169, .move (.tmp 3), some (some 163, false)⟩,
  ⟨some 170, .indexAddr 34 (.tmp 169) (.const (.int .i64 4)), some (some 163, false)⟩,
  ⟨some 171, .load 47 (.tmp 170), some (some 163, false)⟩,
  ⟨some 172, .call { callee := .value (.func 13), args := #[.tmp 168, .tmp 171], argTypes := #[47, 47] }, some (some 163, false)⟩,
  ⟨some 173, .unOp .not 4 (.tmp 172), some (some 163, false)⟩,
  ⟨some 174, .pick (.tmp 163) (.const (.bool true)) (.tmp 173), none⟩] true).seq (SC.cond (.tmp 174) ((SC.region 29 [⟨some 2, .assign (.const (.bool false)), none⟩] false).seq SC.ret) SC.skip))))))))))).seq (SC.region 14 [⟨some 56, .move (.tmp 11), none⟩,
  ⟨some 57, .binOp .add 3 (.tmp 56) (.const (.int .i64 1)) 3, none⟩,
  ⟨some 11, .assign (.tmp 57), none⟩] false)))
/-- lectionarylaw15.StoreStale -/
def s3 : SC := ((SC.region 0 [⟨some 1, .box 36 (.tmp 0), none⟩,
  ⟨some 2, .assign (.const (.bool false)), none⟩] false).seq ((SC.region 1 [⟨some 28, .call { callee := .value (.func 4), args := #[], argTypes := #[] }, none⟩,
  ⟨some 3, .assign (.tmp 28), none⟩] false).seq ((SC.region 2 [⟨some 29, .call { callee := .value (.func 5), args := #[.const (.int .i64 12)], argTypes := #[3] }, none⟩,
  ⟨some 4, .alloc 30, none⟩,
  ⟨none, .store 30 (.tmp 4) (.tmp 29), none⟩] false).seq ((SC.region 3 [⟨some 5, .assign (.const (.int .i64 0)), none⟩] false).seq (((SC.region 4 [⟨some 6, .assign (.const (.int .i64 0)), none⟩] false).seq (SC.block 0 (SC.loop s3L0))).seq ((SC.region 11 [⟨some 50, .fieldAddr 30 (.tmp 4) 1, none⟩,
  ⟨some 51, .load 28 (.tmp 50), none⟩,
  ⟨some 52, .call { callee := .builtin .len, args := #[.tmp 51], argTypes := #[28] }, none⟩,
  ⟨some 10, .assign (.tmp 52), none⟩] false).seq (((SC.region 12 [⟨some 11, .assign (.const (.int .i64 0)), none⟩] false).seq (SC.block 2 (SC.loop s3L2))).seq ((SC.region 30 [⟨some 175, .call { callee := .value (.func 14), args := #[], argTypes := #[] }, none⟩,
  ⟨some 2, .assign (.tmp 175), none⟩] false).seq SC.ret))))))))
theorem sl3 : slimK Try.f3.body s3 = some (unK s3, true) := by kernel_rfl
theorem ok3 : fnOK calmB Try.f3 0 = true := by kernel_rfl

/-- lectionarylaw15.some -/
def s4 : SC := ((SC.region 0 [⟨some 0, .assign (.const (.slice none 0 0)), none⟩] false).seq ((SC.region 1 [⟨some 2, .build 43 #[(0, .const (.int .i64 2)), (1, .const (.int .i64 1))], none⟩,
  ⟨some 3, .build 43 #[(0, .const (.int .i64 2)), (1, .const (.int .i64 2))], none⟩,
  ⟨some 4, .build 43 #[(0, .const (.int .i64 2)), (1, .const (.int .i64 3))], none⟩,
  ⟨some 5, .build 43 #[(0, .const (.int .i64 2)), (1, .const (.int .i64 4))], none⟩,
  ⟨some 6, .buildSlice 23 4 #[(0, .tmp 2), (1, .tmp 3), (2, .tmp 4), (3, .tmp 5)], none⟩,
  ⟨some 7, .build 45 #[(0, .const (.int .i64 1)), (1, .const (.int .i64 1)), (2, .const (.int .i64 1)), (4, .const (.string { data := #[48, 49, 50, 51, 52, 53, 54, 55, 56, 57, 97, 98] })), (5, .tmp 6)], none⟩,
  ⟨some 1, .alloc 45, none⟩,
  ⟨none, .store 45 (.tmp 1) (.tmp 7), none⟩] false).seq ((SC.region 2 [⟨some 8, .build 47 #[(0, .const (.bool true)), (1, .const (.int .i64 1))], none⟩,
  ⟨some 9, .load 45 (.tmp 1), none⟩,
  ⟨some 10, .build 47 #[(2, .tmp 9)], none⟩,
  ⟨some 11, .build 47 #[(0, .const (.bool true)), (1, .const (.int .i64 2))], none⟩,
  ⟨some 12, .build 47 #[(0, .const (.bool true)), (1, .const (.int .i64 3))], none⟩,
  ⟨some 13, .build 47 #[(0, .const (.bool true)), (1, .const (.int .i64 9))], none⟩,
  ⟨some 14, .buildSlice 34 5 #[(0, .tmp 8), (1, .tmp 10), (2, .tmp 11), (3, .tmp 12), (4, .tmp 13)], none⟩,
  ⟨some 0, .assign (.tmp 14), none⟩] false).seq SC.ret)))
theorem sl4 : slimK Try.f4.body s4 = some (unK s4, true) := by kernel_rfl
theorem ok4 : fnOK calmB Try.f4 0 = true := by kernel_rfl

def s6L0 : SC := ((SC.region 10 [⟨some 51, .binOp .lss 3 (.tmp 50) (.tmp 49) 3, none⟩] false).seq ((SC.cond (.tmp 51) SC.skip (SC.exit 0)).seq ((SC.block 1 ((SC.region 11 [⟨some 52, .move (.tmp 50), none⟩,
  ⟨some 11, .assign (.tmp 52), none⟩] false).seq ((SC.region 12 [⟨some 54, .load 30 (.tmp 3), none⟩,
  ⟨some 55, .move (.tmp 1), none⟩,
  ⟨some 56, .move (.tmp 11), none⟩,
  ⟨some 57, .binOp .add 3 (.tmp 55) (.tmp 56) 3, none⟩,
  ⟨some 58, .move (.tmp 9), none⟩,
  ⟨some 59, .move (.tmp 11), none⟩,
  ⟨some 60, .binOp .mul 3 (.tmp 59) (.const (.int .i64 32)) 3, none⟩,
  ⟨some 61, .move (.tmp 11), none⟩,
  ⟨some 62, .binOp .add 3 (.tmp 61) (.const (.int .i64 1)) 3, none⟩,
  ⟨some 63, .binOp .mul 3 (.tmp 62) (.const (.int .i64 32)) 3, none⟩,
  ⟨some 64, .slice 9 (.tmp 58) (some (.tmp 60)) (some (.tmp 63)) none, none⟩,
  ⟨some 65, .call { callee := .value (.func 19), args := #[.tmp 54, .tmp 57, .tmp 64], argTypes := #[30, 3, 9] }, none⟩,
  ⟨some 53, .move (.tmp 65), none⟩,
  ⟨some 66, .extract (.tmp 53) 0, none⟩,
  ⟨some 67, .extract (.tmp 53) 1, none⟩,
  ⟨none, .store 30 (.tmp 3) (.tmp 66), none⟩,
  ⟨some 8, .assign (.tmp 67), none⟩] true).seq ((SC.region 13 [⟨some 68, .move (.tmp 8), none⟩,
  ⟨some 69, .binOp .neq 39 (.tmp 68) (.const (.int .i64 0)) 39, none⟩] false).seq (SC.cond (.tmp 69) ((SC.region 14 [⟨some 70, .load 30 (.tmp 6), none⟩,
  ⟨some 71, .move (.tmp 8), none⟩,
  ⟨none, .store 30 (.tmp 6) (.tmp 70), none⟩,
  ⟨some 7, .assign (.const (.int .i64 0)), none⟩,
  ⟨some 8, .assign (.tmp 71), none⟩] false).seq SC.ret) SC.skip))))).seq (SC.region 15 [⟨some 72, .binOp .add 3 (.tmp 50) (.const (.int .i64 1)) 3, none⟩,
  ⟨some 50, .move (.tmp 72), none⟩] false))))
/-- store.Append -/
def s6 : SC := ((SC.region 0 [⟨some 3, .box 30 (.tmp 0), none⟩,
  ⟨some 5, .box 47 (.tmp 2), none⟩,
  ⟨some 6, .alloc 30, none⟩,
  ⟨some 7, .assign (.const (.int .i64 0)), none⟩,
  ⟨some 8, .assign (.const (.int .i64 0)), none⟩] false).seq (((SC.region 1 [⟨some 12, .load 30 (.tmp 3), none⟩,
  ⟨some 13, .call { callee := .value (.func 16), args := #[.tmp 12], argTypes := #[30] }, none⟩,
  ⟨some 14, .unOp .not 4 (.tmp 13), none⟩,
  ⟨some 15, .move (.tmp 14), none⟩,
  ⟨some 16, .load 47 (.tmp 5), some (some 15, false)⟩,
  ⟨some 17, .call { callee := .value (.func 17), args := #[.tmp 16], argTypes := #[47] }, some (some 15, false)⟩,
  ⟨some 18, .unOp .not 4 (.tmp 17), some (some 15, false)⟩,
  ⟨some 19, .pick (.tmp 15) (.const (.bool true)) (.tmp 18), none⟩,
  ⟨some 20, .move (.tmp 19), none⟩,
  ⟨some 21, .move (.tmp 1), some (some 20, false)⟩,
  ⟨some 22, .binOp .lss 3 (.tmp 21) (.const (.int .i64 0)) 3, some (some 20, false)⟩,
  ⟨some 23, .pick (.tmp 20) (.const (.bool true)) (.tmp 22), none⟩] false).seq (SC.cond (.tmp 23) ((SC.region 2 [⟨some 24, .load 30 (.tmp 6), none⟩,
  ⟨none, .store 30 (.tmp 6) (.tmp 24), none⟩,
  ⟨some 7, .assign (.const (.int .i64 0)), none⟩,
  ⟨some 8, .assign (.const (.int .i64 1)), none⟩] false).seq SC.ret) SC.skip)).seq ((SC.region 3 [⟨some 26, .load 47 (.tmp 5), none⟩,
  ⟨some 27, .call { callee := .value (.func 18), args := #[.tmp 26], argTypes := #[47] }, none⟩,
  ⟨some 25, .move (.tmp 27), none⟩,
  ⟨some 28, .extract (.tmp 25) 0, none⟩,
  ⟨some 29, .extract (.tmp 25) 1, none⟩,
  ⟨some 9, .assign (.tmp 28), none⟩,
  ⟨some 8, .assign (.tmp 29), none⟩] false).seq (((SC.region 4 [⟨some 30, .move (.tmp 8), none⟩,
  ⟨some 31, .binOp .neq 39 (.tmp 30) (.const (.int .i64 0)) 39, none⟩] false).seq (SC.cond (.tmp 31) ((SC.region 5 [⟨some 32, .load 30 (.tmp 6), none⟩,
  ⟨some 33, .move (.tmp 8), none⟩,
  ⟨none, .store 30 (.tmp 6) (.tmp 32), none⟩,
  ⟨some 7, .assign (.const (.int .i64 0)), none⟩,
  ⟨some 8, .assign (.tmp 33), none⟩] false).seq SC.ret) SC.skip)).seq ((SC.region 6 [⟨some 34, .move (.tmp 9), none⟩,
  ⟨some 35, .call { callee := .builtin .len, args := #[.tmp 34], argTypes := #[9] }, none⟩,
  ⟨some 36, .binOp .quo 3 (.tmp 35) (.const (.int .i64 32)) 3, none⟩,
  ⟨some 10, .assign (.tmp 36), none⟩] false).seq (((SC.region 7 [⟨some 37, .move (.tmp 10), none⟩,
  ⟨some 38, .fieldAddr 30 (.tmp 3) 0, none⟩,
  ⟨some 39, .load 27 (.tmp 38), none⟩,
  ⟨some 40, .call { callee := .builtin .len, args := #[.tmp 39], argTypes := #[27] }, none⟩,
  ⟨some 41, .move (.tmp 1), none⟩,
  ⟨some 42, .fieldAddr 30 (.tmp 3) 0, none⟩,
  ⟨some 43, .load 27 (.tmp 42), none⟩,
  ⟨some 44, .call { callee := .builtin .len, args := #[.tmp 43], argTypes := #[27] }, none⟩,
  ⟨some 45, .call { callee := .builtin .min, args := #[.tmp 41, .tmp 44], argTypes := #[3, 3] }, none⟩,
  ⟨some 46, .binOp .sub 3 (.tmp 40) (.tmp 45) 3, none⟩,
  ⟨some 47, .binOp .gtr 3 (.tmp 37) (.tmp 46) 3, none⟩] false).seq (SC.cond (.tmp 47) ((SC.region 8 [⟨some 48, .load 30 (.tmp 6), none⟩,
  ⟨none, .store 30 (.tmp 6) (.tmp 48), none⟩,
  ⟨some 7, .assign (.const (.int .i64 0)), none⟩,
  ⟨some 8, .assign (.const (.int .i64 6)), none⟩] false).seq SC.ret) SC.skip)).seq (((SC.region 9 [⟨some 49, .move (.tmp 10), none⟩,
  ⟨some 50, .move (.const (.int .i64 0)), none⟩] false).seq (SC.block 0 (SC.loop s6L0))).seq ((SC.region 16 [⟨some 73, .load 30 (.tmp 3), none⟩,
  ⟨some 74, .move (.tmp 1), none⟩,
  ⟨some 75, .move (.tmp 10), none⟩,
  ⟨some 76, .binOp .add 3 (.tmp 74) (.tmp 75) 3, none⟩,
  ⟨none, .store 30 (.tmp 6) (.tmp 73), none⟩,
  ⟨some 7, .assign (.tmp 76), none⟩,
  ⟨some 8, .assign (.const (.int .i64 0)), none⟩] false).seq SC.ret))))))))
theorem sl6 : slimK Try.f6.body s6 = some (unK s6, true) := by kernel_rfl
theorem ok6 : fnOK calmB Try.f6 0 = true := by kernel_rfl

/-- lectionarylaw15.num -/
def s7 : SC := ((SC.region 0 [⟨some 2, .assign (.const (.int .i64 0)), none⟩] false).seq ((SC.region 1 [⟨some 3, .move (.tmp 0), none⟩,
  ⟨some 2, .assign (.tmp 3), none⟩] false).seq SC.ret))
theorem sl7 : slimK Try.f7.body s7 = some (unK s7, true) := by kernel_rfl
theorem ok7 : fnOK calmB Try.f7 0 = true := by kernel_rfl

def s9L0 : SC := (((SC.region 3 [⟨some 11, .move (.tmp 3), none⟩,
  ⟨some 12, .fieldAddr 30 (.tmp 1) 0, none⟩,
  ⟨some 13, .load 27 (.tmp 12), none⟩,
  ⟨some 14, .call { callee := .builtin .len, args := #[.tmp 13], argTypes := #[27] }, none⟩,
  ⟨some 15, .binOp .lss 3 (.tmp 11) (.tmp 14) 3, none⟩] false).seq (SC.cond (.tmp 15) SC.skip (SC.exit 0))).seq (SC.block 1 ((SC.region 4 [⟨some 17, .fieldAddr 30 (.tmp 1) 0, none⟩,
  ⟨some 18, .load 27 (.tmp 17), none⟩,
  ⟨some 19, .move (.tmp 3), none⟩,
  ⟨some 20, .slice 27 (.tmp 18) (some (.tmp 19)) none none, none⟩,
  ⟨some 21, .call { callee := .value (.func 21), args := #[.tmp 20], argTypes := #[27] }, none⟩,
  ⟨some 16, .move (.tmp 21), none⟩,
  ⟨some 22, .extract (.tmp 16) 0, none⟩,
  ⟨some 23, .extract (.tmp 16) 1, none⟩,
  ⟨some 24, .extract (.tmp 16) 2, none⟩,
  ⟨some 5, .alloc 47, none⟩,
  ⟨none, .store 47 (.tmp 5) (.tmp 22), none⟩,
  ⟨some 6, .assign (.tmp 23), none⟩,
  ⟨some 7, .assign (.tmp 24), none⟩] false).seq (((SC.region 5 [⟨some 25, .move (.tmp 7), none⟩,
  ⟨some 26, .unOp .not 4 (.tmp 25), none⟩] false).seq (SC.cond (.tmp 26) (SC.exit 0) SC.skip)).seq ((SC.region 6 [⟨some 27, .move (.tmp 2), none⟩,
  ⟨some 28, .load 47 (.tmp 5), none⟩,
  ⟨some 29, .buildSlice 34 1 #[(0, .tmp 28)], none⟩,
  ⟨some 30, .call { callee := .builtin .append, args := #[.tmp 27, .tmp 29], argTypes := #[34, 34] }, none⟩,
  ⟨some 2, .assign (.tmp 30), none⟩] false).seq (SC.region 7 [⟨some 31, .move (.tmp 3), none⟩,
  ⟨some 32, .move (.tmp 6), none⟩,
  ⟨some 33, .binOp .add 3 (.tmp 31) (.tmp 32) 3, none⟩,
  ⟨some 3, .assign (.tmp 33), none⟩] false))))))
/-- store.Load -/
def s9 : SC := ((SC.region 0 [⟨some 1, .box 30 (.tmp 0), none⟩,
  ⟨some 2, .assign (.const (.slice none 0 0)), none⟩,
  ⟨some 3, .assign (.const (.int .i64 0)), none⟩,
  ⟨some 4, .assign (.const (.int .i64 0)), none⟩] false).seq (((SC.region 1 [⟨some 8, .load 30 (.tmp 1), none⟩,
  ⟨some 9, .call { callee := .value (.func 16), args := #[.tmp 8], argTypes := #[30] }, none⟩,
  ⟨some 10, .unOp .not 4 (.tmp 9), none⟩] false).seq (SC.cond (.tmp 10) ((SC.region 2 [⟨some 2, .assign (.const (.slice none 0 0)), none⟩,
  ⟨some 3, .assign (.const (.int .i64 0)), none⟩,
  ⟨some 4, .assign (.const (.int .i64 1)), none⟩] false).seq SC.ret) SC.skip)).seq ((SC.block 0 (SC.loop s9L0)).seq ((SC.region 8 [⟨some 34, .move (.tmp 2), none⟩,
  ⟨some 35, .move (.tmp 3), none⟩,
  ⟨some 2, .assign (.tmp 34), none⟩,
  ⟨some 3, .assign (.tmp 35), none⟩,
  ⟨some 4, .assign (.const (.int .i64 0)), none⟩] false).seq SC.ret))))
theorem sl9 : slimK Try.f9.body s9 = some (unK s9, true) := by kernel_rfl
theorem ok9 : fnOK calmB Try.f9 0 = true := by kernel_rfl

def s10L0 : SC := ((SC.region 4 [⟨some 21, .binOp .lss 3 (.tmp 20) (.tmp 19) 3, none⟩] false).seq ((SC.cond (.tmp 21) SC.skip (SC.exit 0)).seq ((SC.block 1 ((SC.region 5 [⟨some 22, .move (.tmp 20), none⟩,
  ⟨some 23, .indexAddr 27 (.tmp 18) (.tmp 20), none⟩,
  ⟨some 24, .load 9 (.tmp 23), none⟩,
  ⟨some 6, .assign (.tmp 22), none⟩,
  ⟨some 7, .assign (.tmp 24), none⟩] false).seq (((SC.region 6 [⟨some 25, .move (.tmp 6), none⟩,
  ⟨some 26, .move (.tmp 1), none⟩,
  ⟨some 27, .binOp .lss 3 (.tmp 25) (.tmp 26) 3, none⟩,
  ⟨some 28, .move (.tmp 27), none⟩,
  ⟨some 29, .move (.tmp 7), some (some 28, false)⟩,
  ⟨some 30, .call { callee := .value (.func 22), args := #[], argTypes := #[] }, some (some 28, false)⟩,
  ⟨some 31, .binOp .eql 9 (.tmp 29) (.tmp 30) 9, some (some 28, false)⟩,
  ⟨some 32, .pick (.tmp 28) (.const (.bool true)) (.tmp 31), none⟩] false).seq (SC.cond (.tmp 32) (SC.exit 1) SC.skip)).seq ((SC.region 7 [⟨some 8, .assign (.const (.int .i64 0)), none⟩] false).seq ((SC.region 8 [⟨some 34, .load 30 (.tmp 2), none⟩,
  ⟨some 35, .move (.tmp 6), none⟩,
  ⟨some 36, .call { callee := .value (.func 22), args := #[], argTypes := #[] }, none⟩,
  ⟨some 37, .call { callee := .value (.func 19), args := #[.tmp 34, .tmp 35, .tmp 36], argTypes := #[30, 3, 9] }, none⟩,
  ⟨some 33, .move (.tmp 37), none⟩,
  ⟨some 38, .extract (.tmp 33) 0, none⟩,
  ⟨some 39, .extract (.tmp 33) 1, none⟩,
  ⟨none, .store 30 (.tmp 2) (.tmp 38), none⟩,
  ⟨some 8, .assign (.tmp 39), none⟩] true).seq ((SC.region 9 [⟨some 40, .move (.tmp 8), none⟩,
  ⟨some 41, .binOp .neq 39 (.tmp 40) (.const (.int .i64 0)) 39, none⟩] false).seq (SC.cond (.tmp 41) ((SC.region 10 [⟨some 42, .build 30 #[], none⟩,
  ⟨some 43, .move (.tmp 8), none⟩,
  ⟨none, .store 30 (.tmp 4) (.tmp 42), none⟩,
  ⟨some 5, .assign (.tmp 43), none⟩] false).seq SC.ret) SC.skip))))))).seq (SC.region 11 [⟨some 44, .binOp .add 3 (.tmp 20) (.const (.int .i64 1)) 3, none⟩,
  ⟨some 20, .move (.tmp 44), none⟩] false))))
/-- store.Clean -/
def s10 : SC := ((SC.region 0 [⟨some 2, .box 30 (.tmp 0), none⟩,
  ⟨some 4, .alloc 30, none⟩,
  ⟨some 5, .assign (.const (.int .i64 0)), none⟩] false).seq (((SC.region 1 [⟨some 9, .load 30 (.tmp 2), none⟩,
  ⟨some 10, .call { callee := .value (.func 16), args := #[.tmp 9], argTypes := #[30] }, none⟩,
  ⟨some 11, .unOp .not 4 (.tmp 10), none⟩,
  ⟨some 12, .move (.tmp 11), none⟩,
  ⟨some 13, .move (.tmp 1), some (some 12, false)⟩,
  ⟨some 14, .binOp .lss 3 (.tmp 13) (.const (.int .i64 0)) 3, some (some 12, false)⟩,
  ⟨some 15, .pick (.tmp 12) (.const (.bool true)) (.tmp 14), none⟩] false).seq (SC.cond (.tmp 15) ((SC.region 2 [⟨some 16, .build 30 #[], none⟩,
  ⟨none, .store 30 (.tmp 4) (.tmp 16), none⟩,
  ⟨some 5, .assign (.const (.int .i64 1)), none⟩] false).seq SC.ret) SC.skip)).seq (((SC.region 3 [⟨some 17, .fieldAddr 30 (.tmp 2) 0, none⟩,
  ⟨some 18, .load 27 (.tmp 17), none⟩,
  ⟨some 19, .call { callee := .builtin .len, args := #[.tmp 18], argTypes := #[27] }, none⟩,
  ⟨some 20, .move (.const (.int .i64 0)), none⟩] false).seq (SC.block 0 (SC.loop s10L0))).seq ((SC.region 12 [⟨some 45, .load 30 (.tmp 2), none⟩,
  ⟨some 46, .call { callee := .value (.func 11), args := #[.tmp 45], argTypes := #[30] }, none⟩,
  ⟨some 47, .extract (.tmp 46) 0, none⟩,
  ⟨some 48, .extract (.tmp 46) 1, none⟩,
  ⟨none, .store 30 (.tmp 4) (.tmp 47), none⟩,
  ⟨some 5, .assign (.tmp 48), none⟩] false).seq SC.ret))))
theorem sl10 : slimK Try.f10.body s10 = some (unK s10, true) := by kernel_rfl
theorem ok10 : fnOK calmB Try.f10 0 = true := by kernel_rfl

def s12L0 : SC := (((SC.region 4 [⟨some 11, .move (.tmp 5), none⟩,
  ⟨some 12, .move (.tmp 0), none⟩,
  ⟨some 13, .call { callee := .builtin .len, args := #[.tmp 12], argTypes := #[34] }, none⟩,
  ⟨some 14, .binOp .lss 3 (.tmp 11) (.tmp 13) 3, none⟩] false).seq (SC.cond (.tmp 14) SC.skip (SC.exit 0))).seq ((SC.block 1 ((SC.region 6 [⟨some 17, .move (.tmp 0), none⟩,
  ⟨some 18, .move (.tmp 5), none⟩,
  ⟨some 19, .indexAddr 34 (.tmp 17) (.tmp 18), none⟩,
  ⟨some 20, .load 47 (.tmp 19), none⟩,
  ⟨some 21, .move (.tmp 1), none⟩,
  ⟨some 22, .move (.tmp 5), none⟩,
  ⟨some 23, .indexAddr 34 (.tmp 21) (.tmp 22), none⟩,
  ⟨some 24, .load 47 (.tmp 23), none⟩,
  ⟨some 25, .call { callee := .value (.func 13), args := #[.tmp 20, .tmp 24], argTypes := #[47, 47] }, none⟩,
  ⟨some 26, .unOp .not 4 (.tmp 25), none⟩] true).seq (SC.cond (.tmp 26) ((SC.region 7 [⟨some 4, .assign (.const (.bool false)), none⟩] false).seq SC.ret) SC.skip))).seq (SC.region 5 [⟨some 15, .move (.tmp 5), none⟩,
  ⟨some 16, .binOp .add 3 (.tmp 15) (.const (.int .i64 1)) 3, none⟩,
  ⟨some 5, .assign (.tmp 16), none⟩] false)))
/-- lectionaryref0.EqEntries -/
def s12 : SC := ((SC.region 0 [⟨some 4, .assign (.const (.bool false)), none⟩] false).seq (((SC.region 1 [⟨some 6, .move (.tmp 0), none⟩,
  ⟨some 7, .call { callee := .builtin .len, args := #[.tmp 6], argTypes := #[34] }, none⟩,
  ⟨some 8, .move (.tmp 1), none⟩,
  ⟨some 9, .call { callee := .builtin .len, args := #[.tmp 8], argTypes := #[34] }, none⟩,
  ⟨some 10, .binOp .neq 3 (.tmp 7) (.tmp 9) 3, none⟩] false).seq (SC.cond (.tmp 10) ((SC.region 2 [⟨some 4, .assign (.const (.bool false)), none⟩] false).seq SC.ret) SC.skip)).seq (((SC.region 3 [⟨some 5, .assign (.const (.int .i64 0)), none⟩] false).seq (SC.block 0 (SC.loop s12L0))).seq ((SC.region 8 [⟨some 4, .assign (.const (.bool true)), none⟩] false).seq SC.ret))))
theorem sl12 : slimK Try.f12.body s12 = some (unK s12, true) := by kernel_rfl
theorem ok12 : fnOK calmB Try.f12 0 = true := by kernel_rfl

/-- lectionaryref0.EqEntry -/
def s13 : SC := ((SC.region 0 [⟨some 2, .box 47 (.tmp 0), none⟩,
  ⟨some 3, .box 47 (.tmp 1), none⟩,
  ⟨some 4, .assign (.const (.bool false)), none⟩] false).seq ((SC.region 1 [⟨some 5, .fieldAddr 47 (.tmp 2) 0, none⟩,
  ⟨some 6, .load 4 (.tmp 5), none⟩,
  ⟨some 7, .fieldAddr 47 (.tmp 3) 0, none⟩,
  ⟨some 8, .load 4 (.tmp 7), none⟩,
  ⟨some 9, .binOp .eql 4 (.tmp 6) (.tmp 8) 4, none⟩,
  ⟨some 10, .move (.tmp 9), none⟩,
  ⟨some 11, .fieldAddr 47 (.tmp 2) 1, some (some 10, true)⟩,
  ⟨some 12, .load 3 (.tmp 11), some (some 10, true)⟩,
  ⟨some 13, .fieldAddr 47 (.tmp 3) 1, some (some 10, true)⟩,
  ⟨some 14, .load 3 (.tmp 13), some (some 10, true)⟩,
  ⟨some 15, .binOp .eql 3 (.tmp 12) (.tmp 14) 3, some (some 10, true)⟩,
  ⟨some 16, .pick (.tmp 10) (.tmp 15) (.const (.bool false)), none⟩,
  ⟨some 17, .move (.tmp 16), none⟩,
  ⟨some 18, .fieldAddr 47 (.tmp 2) 2, some (some 17, true)⟩,
  ⟨some 19, .load 45 (.tmp 18), some (some 17, true)⟩,
  ⟨some 20, .fieldAddr 47 (.tmp 3) 2, some (some 17, true)⟩,
  ⟨some 21, .load 45 (.tmp 20), some (some 17, true)⟩,
  ⟨some 22, .call { callee := .value (.func 24), args := #[.tmp 19, .tmp 21], argTypes := #[45, 45] }, some (some 17, true)⟩,
  ⟨some 23, .pick (.tmp 17) (.tmp 22) (.const (.bool false)), none⟩,
  ⟨some 4, .assign (.tmp 23), none⟩] false).seq SC.ret))
theorem sl13 : slimK Try.f13.body s13 = some (unK s13, true) := by kernel_rfl
theorem ok13 : fnOK calmB Try.f13 0 = true := by kernel_rfl

/-- lectionarylaw15.wakes -/
def s14 : SC := ((SC.region 0 [⟨some 0, .assign (.const (.bool false)), none⟩] false).seq ((SC.region 1 [⟨some 9, .call { callee := .value (.func 5), args := #[.const (.int .i64 4)], argTypes := #[3] }, none⟩,
  ⟨some 10, .build 47 #[(0, .const (.bool true)), (1, .const (.int .i64 5))], none⟩,
  ⟨some 11, .call { callee := .value (.func 6), args := #[.tmp 9, .const (.int .i64 0), .tmp 10], argTypes := #[30, 3, 47] }, none⟩,
  ⟨some 8, .move (.tmp 11), none⟩,
  ⟨some 12, .extract (.tmp 8) 0, none⟩,
  ⟨some 13, .extract (.tmp 8) 1, none⟩,
  ⟨some 14, .extract (.tmp 8) 2, none⟩,
  ⟨some 1, .alloc 30, none⟩,
  ⟨none, .store 30 (.tmp 1) (.tmp 12), none⟩,
  ⟨some 2, .assign (.tmp 13), none⟩,
  ⟨some 3, .assign (.tmp 14), none⟩] false).seq ((SC.region 2 [⟨some 16, .load 30 (.tmp 1), none⟩,
  ⟨some 17, .call { callee := .value (.func 11), args := #[.tmp 16], argTypes := #[30] }, none⟩,
  ⟨some 15, .move (.tmp 17), none⟩,
  ⟨some 18, .extract (.tmp 15) 0, none⟩,
  ⟨some 19, .extract (.tmp 15) 1, none⟩,
  ⟨none, .store 30 (.tmp 1) (.tmp 18), none⟩,
  ⟨some 4, .assign (.tmp 19), none⟩] false).seq ((SC.region 3 [⟨some 21, .load 30 (.tmp 1), none⟩,
  ⟨some 22, .call { callee := .value (.func 9), args := #[.tmp 21], argTypes := #[30] }, none⟩,
  ⟨some 20, .move (.tmp 22), none⟩,
  ⟨some 23, .extract (.tmp 20) 0, none⟩,
  ⟨some 24, .extract (.tmp 20) 1, none⟩,
  ⟨some 25, .extract (.tmp 20) 2, none⟩,
  ⟨some 5, .assign (.tmp 23), none⟩,
  ⟨some 6, .assign (.tmp 24), none⟩,
  ⟨some 7, .assign (.tmp 25), none⟩] false).seq ((SC.region 4 [⟨some 26, .move (.tmp 3), none⟩,
  ⟨some 27, .call { callee := .value (.func 7), args := #[.tmp 26], argTypes := #[39] }, none⟩,
  ⟨some 28, .binOp .eql 3 (.tmp 27) (.const (.int .i64 0)) 3, none⟩,
  ⟨some 29, .move (.tmp 28), none⟩,
  ⟨some 30, .move (.tmp 4), some (some 29, true)⟩,
  ⟨some 31, .call { callee := .value (.func 7), args := #[.tmp 30], argTypes := #[39] }, some (some 29, true)⟩,
  ⟨some 32, .binOp .eql 3 (.tmp 31) (.const (.int .i64 0)) 3, some (some 29, true)⟩,
  ⟨some 33, .pick (.tmp 29) (.tmp 32) (.const (.bool false)), none⟩,
  ⟨some 34, .move (.tmp 33), none⟩,
  ⟨some 35, .move (.tmp 7), some (some 34, true)⟩,
  ⟨some 36, .call { callee := .value (.func 7), args := #[.tmp 35], argTypes := #[39] }, some (some 34, true)⟩,
  ⟨some 37, .binOp .eql 3 (.tmp 36) (.const (.int .i64 0)) 3, some (some 34, true)⟩,
  ⟨some 38, .pick (.tmp 34) (.tmp 37) (.const (.bool false)), none⟩,
  ⟨some 39, .move (.tmp 38), none⟩,
  ⟨some 40, .move (.tmp 5), some (some 39, true)⟩,
  ⟨some 41, .call { callee := .builtin .len, args := #[.tmp 40], argTypes := #[34] }, some (some 39, true)⟩,
  ⟨some 42, .binOp .eql 3 (.tmp 41) (.const (.int .i64 1)) 3, some (some 39, true)⟩,
  ⟨some 43, .pick (.tmp 39) (.tmp 42) (.const (.bool false)), none⟩,
  ⟨some 44, .move (.tmp 43), none⟩,
  ⟨some 45, .move (.tmp 5), some (some 44, true)⟩,
  ⟨some 46, .indexAddr 34 (.tmp 45) (.const (.int .i64 0)), some (some 44, true)⟩,
  ⟨some 47, .fieldAddr 47 (.tmp 46) 1, some (some 44, true)⟩,
  ⟨some 48, .load 3 (.tmp 47), some (some 44, true)⟩,
  ⟨some 49, .binOp .eql 3 (.tmp 48) (.const (.int .i64 5)) 3, some (some 44, true)⟩,
  ⟨some 50, .pick (.tmp 44) (.tmp 49) (.const (.bool false)), none⟩,
  ⟨some 51, .move (.tmp 50), none⟩,
  ⟨some 52, .move (.tmp 2), some (some 51, true)⟩,
  ⟨some 53, .binOp .eql 3 (.tmp 52) (.const (.int .i64 1)) 3, some (some 51, true)⟩,
  ⟨some 54, .pick (.tmp 51) (.tmp 53) (.const (.bool false)), none⟩,
  ⟨some 55, .move (.tmp 54), none⟩,
  ⟨some 56, .move (.tmp 6), some (some 55, true)⟩,
  ⟨some 57, .binOp .eql 3 (.tmp 56) (.const (.int .i64 1)) 3, some (some 55, true)⟩,
  ⟨some 58, .pick (.tmp 55) (.tmp 57) (.const (.bool false)), none⟩,
  ⟨some 0, .assign (.tmp 58), none⟩] false).seq SC.ret)))))
theorem sl14 : slimK Try.f14.body s14 = some (unK s14, true) := by kernel_rfl
theorem ok14 : fnOK calmB Try.f14 0 = true := by kernel_rfl

/-- store.May -/
def s17 : SC := ((SC.region 0 [⟨some 1, .box 47 (.tmp 0), none⟩,
  ⟨some 2, .assign (.const (.bool false)), none⟩] false).seq (((SC.region 1 [⟨some 3, .fieldAddr 47 (.tmp 1) 0, none⟩,
  ⟨some 4, .load 4 (.tmp 3), none⟩] false).seq (SC.cond (.tmp 4) ((SC.region 2 [⟨some 5, .fieldAddr 47 (.tmp 1) 1, none⟩,
  ⟨some 6, .load 3 (.tmp 5), none⟩,
  ⟨some 7, .binOp .geq 3 (.tmp 6) (.const (.int .i64 1)) 3, none⟩,
  ⟨some 8, .move (.tmp 7), none⟩,
  ⟨some 9, .fieldAddr 47 (.tmp 1) 1, some (some 8, true)⟩,
  ⟨some 10, .load 3 (.tmp 9), some (some 8, true)⟩,
  ⟨some 11, .binOp .leq 3 (.tmp 10) (.const (.int .i64 268435456)) 3, some (some 8, true)⟩,
  ⟨some 12, .pick (.tmp 8) (.tmp 11) (.const (.bool false)), none⟩,
  ⟨some 13, .move (.tmp 12), none⟩,
  ⟨some 14, .fieldAddr 47 (.tmp 1) 2, some (some 13, true)⟩,
  ⟨some 15, .load 45 (.tmp 14), some (some 13, true)⟩,
  ⟨some 16, .call { callee := .value (.func 31), args := #[.tmp 15], argTypes := #[45] }, some (some 13, true)⟩,
  ⟨some 17, .pick (.tmp 13) (.tmp 16) (.const (.bool false)), none⟩,
  ⟨some 2, .assign (.tmp 17), none⟩] false).seq SC.ret) SC.skip)).seq ((SC.region 3 [⟨some 18, .fieldAddr 47 (.tmp 1) 1, none⟩,
  ⟨some 19, .load 3 (.tmp 18), none⟩,
  ⟨some 20, .binOp .eql 3 (.tmp 19) (.const (.int .i64 0)) 3, none⟩,
  ⟨some 21, .move (.tmp 20), none⟩,
  ⟨some 22, .fieldAddr 47 (.tmp 1) 2, some (some 21, true)⟩,
  ⟨some 23, .load 45 (.tmp 22), some (some 21, true)⟩,
  ⟨some 24, .call { callee := .value (.func 32), args := #[.tmp 23], argTypes := #[45] }, some (some 21, true)⟩,
  ⟨some 25, .pick (.tmp 21) (.tmp 24) (.const (.bool false)), none⟩,
  ⟨some 2, .assign (.tmp 25), none⟩] false).seq SC.ret)))
theorem sl17 : slimK Try.f17.body s17 = some (unK s17, true) := by kernel_rfl
theorem ok17 : fnOK calmB Try.f17 0 = true := by kernel_rfl

/-- store.framed -/
def s18 : SC := ((SC.region 0 [⟨some 1, .box 47 (.tmp 0), none⟩,
  ⟨some 2, .assign (.const (.string { data := #[] })), none⟩,
  ⟨some 3, .assign (.const (.int .i64 0)), none⟩] false).seq ((SC.region 1 [⟨some 5, .call { callee := .value (.func 33), args := #[.const (.int .i64 0)], argTypes := #[3] }, none⟩,
  ⟨some 4, .assign (.tmp 5), none⟩] false).seq (((SC.region 2 [⟨some 6, .fieldAddr 47 (.tmp 1) 0, none⟩,
  ⟨some 7, .load 4 (.tmp 6), none⟩] false).seq (SC.cond (.tmp 7) (SC.region 3 [⟨some 8, .call { callee := .value (.func 33), args := #[.const (.int .i64 1)], argTypes := #[3] }, none⟩,
  ⟨some 9, .fieldAddr 47 (.tmp 1) 1, none⟩,
  ⟨some 10, .load 3 (.tmp 9), none⟩,
  ⟨some 11, .call { callee := .value (.func 33), args := #[.tmp 10], argTypes := #[3] }, none⟩,
  ⟨some 12, .binOp .add 9 (.tmp 8) (.tmp 11) 9, none⟩,
  ⟨some 4, .assign (.tmp 12), none⟩] true) (SC.region 4 [⟨some 13, .move (.tmp 4), none⟩,
  ⟨some 14, .fieldAddr 47 (.tmp 1) 2, none⟩,
  ⟨some 15, .load 45 (.tmp 14), none⟩,
  ⟨some 16, .call { callee := .value (.func 34), args := #[.tmp 15], argTypes := #[45] }, none⟩,
  ⟨some 17, .binOp .add 9 (.tmp 13) (.tmp 16) 9, none⟩,
  ⟨some 4, .assign (.tmp 17), none⟩] false))).seq (((SC.region 5 [⟨some 18, .move (.tmp 4), none⟩,
  ⟨some 19, .call { callee := .builtin .len, args := #[.tmp 18], argTypes := #[9] }, none⟩,
  ⟨some 20, .binOp .gtr 3 (.tmp 19) (.const (.int .i64 700)) 3, none⟩] false).seq (SC.cond (.tmp 20) ((SC.region 6 [⟨some 2, .assign (.const (.string { data := #[] })), none⟩,
  ⟨some 3, .assign (.const (.int .i64 2)), none⟩] false).seq SC.ret) SC.skip)).seq ((SC.region 7 [⟨some 21, .move (.tmp 4), none⟩,
  ⟨some 22, .call { callee := .value (.func 36), args := #[.tmp 21], argTypes := #[9] }, none⟩,
  ⟨some 23, .call { callee := .value (.func 35), args := #[.tmp 22], argTypes := #[9] }, none⟩,
  ⟨some 2, .assign (.tmp 23), none⟩,
  ⟨some 3, .assign (.const (.int .i64 0)), none⟩] false).seq SC.ret)))))
theorem sl18 : slimK Try.f18.body s18 = some (unK s18, true) := by kernel_rfl
theorem ok18 : fnOK calmB Try.f18 0 = true := by kernel_rfl

/-- store.first -/
def s21 : SC := ((SC.region 0 [⟨some 2, .alloc 47, none⟩,
  ⟨some 3, .assign (.const (.int .i64 0)), none⟩,
  ⟨some 4, .assign (.const (.bool false)), none⟩] false).seq ((SC.region 1 [⟨some 10, .move (.tmp 0), none⟩,
  ⟨some 11, .move (.tmp 0), none⟩,
  ⟨some 12, .call { callee := .builtin .len, args := #[.tmp 11], argTypes := #[27] }, none⟩,
  ⟨some 13, .call { callee := .builtin .min, args := #[.tmp 12, .const (.int .i64 23)], argTypes := #[3, 3] }, none⟩,
  ⟨some 14, .slice 27 (.tmp 10) none (some (.tmp 13)) none, none⟩,
  ⟨some 15, .call { callee := .value (.func 38), args := #[.tmp 14, .const (.string { data := #[] })], argTypes := #[27, 9] }, none⟩,
  ⟨some 5, .assign (.tmp 15), none⟩] false).seq ((SC.region 2 [⟨some 17, .move (.tmp 5), none⟩,
  ⟨some 18, .call { callee := .value (.func 39), args := #[.tmp 17], argTypes := #[9] }, none⟩,
  ⟨some 16, .move (.tmp 18), none⟩,
  ⟨some 19, .extract (.tmp 16) 0, none⟩,
  ⟨some 20, .extract (.tmp 16) 1, none⟩,
  ⟨some 21, .extract (.tmp 16) 2, none⟩,
  ⟨some 6, .assign (.tmp 19), none⟩,
  ⟨some 7, .assign (.tmp 20), none⟩,
  ⟨some 4, .assign (.tmp 21), none⟩] false).seq (((SC.region 3 [⟨some 22, .move (.tmp 4), none⟩,
  ⟨some 23, .unOp .not 4 (.tmp 22), none⟩] false).seq (SC.cond (.tmp 23) ((SC.region 4 [⟨some 24, .load 47 (.tmp 2), none⟩,
  ⟨none, .store 47 (.tmp 2) (.tmp 24), none⟩,
  ⟨some 3, .assign (.const (.int .i64 0)), none⟩,
  ⟨some 4, .assign (.const (.bool false)), none⟩] false).seq SC.ret) SC.skip)).seq (((SC.region 5 [⟨some 26, .move (.tmp 6), none⟩,
  ⟨some 27, .call { callee := .value (.func 40), args := #[.tmp 26], argTypes := #[9] }, none⟩,
  ⟨some 25, .move (.tmp 27), none⟩,
  ⟨some 28, .extract (.tmp 25) 0, none⟩,
  ⟨some 29, .extract (.tmp 25) 1, none⟩,
  ⟨none, .store 47 (.tmp 2) (.tmp 28), none⟩,
  ⟨some 4, .assign (.tmp 29), none⟩] false).seq ((SC.region 6 [⟨some 30, .move (.tmp 4), none⟩,
  ⟨some 31, .unOp .not 4 (.tmp 30), none⟩] false).seq (SC.cond (.tmp 31) ((SC.region 7 [⟨some 32, .load 47 (.tmp 2), none⟩,
  ⟨none, .store 47 (.tmp 2) (.tmp 32), none⟩,
  ⟨some 3, .assign (.const (.int .i64 0)), none⟩,
  ⟨some 4, .assign (.const (.bool false)), none⟩] false).seq SC.ret) SC.skip))).seq ((SC.region 8 [⟨some 34, .load 47 (.tmp 2), none⟩,
  ⟨some 35, .call { callee := .value (.func 18), args := #[.tmp 34], argTypes := #[47] }, none⟩,
  ⟨some 33, .move (.tmp 35), none⟩,
  ⟨some 36, .extract (.tmp 33) 0, none⟩,
  ⟨some 37, .extract (.tmp 33) 1, none⟩,
  ⟨some 8, .assign (.tmp 36), none⟩,
  ⟨some 9, .assign (.tmp 37), none⟩] false).seq ((SC.regionK 9 [⟨some 38, .load 47 (.tmp 2), none⟩,
  ⟨some 39, .move (.tmp 8), none⟩,
  ⟨some 40, .call { callee := .builtin .len, args := #[.tmp 39], argTypes := #[9] }, none⟩,
  ⟨some 41, .binOp .quo 3 (.tmp 40) (.const (.int .i64 32)) 3, none⟩,
  ⟨some 42, .move (.tmp 5), none⟩,
  ⟨some 43, .move (.tmp 8), none⟩,
  ⟨some 44, .call { callee := .value (.func 41), args := #[.tmp 42, .tmp 43], argTypes := #[9, 9] }, none⟩,
  ⟨none, .store 47 (.tmp 2) (.tmp 38), none⟩,
  ⟨some 3, .assign (.tmp 41), none⟩,
  ⟨some 4, .assign (.tmp 44), none⟩] [7] [(7, 2)]).seq SC.ret)))))))
theorem sl21 : slimK Try.f21.body s21 = some (unK s21, true) := by kernel_rfl
theorem ok21 : fnOK calmB Try.f21 0 = true := by kernel_rfl

/-- lectionaryref0.EqOp -/
def s24 : SC := ((SC.region 0 [⟨some 2, .box 45 (.tmp 0), none⟩,
  ⟨some 3, .box 45 (.tmp 1), none⟩,
  ⟨some 4, .assign (.const (.bool false)), none⟩] false).seq ((SC.region 1 [⟨some 5, .fieldAddr 45 (.tmp 2) 0, none⟩,
  ⟨some 6, .load 3 (.tmp 5), none⟩,
  ⟨some 7, .fieldAddr 45 (.tmp 3) 0, none⟩,
  ⟨some 8, .load 3 (.tmp 7), none⟩,
  ⟨some 9, .binOp .eql 3 (.tmp 6) (.tmp 8) 3, none⟩,
  ⟨some 10, .move (.tmp 9), none⟩,
  ⟨some 11, .fieldAddr 45 (.tmp 2) 1, some (some 10, true)⟩,
  ⟨some 12, .load 3 (.tmp 11), some (some 10, true)⟩,
  ⟨some 13, .fieldAddr 45 (.tmp 3) 1, some (some 10, true)⟩,
  ⟨some 14, .load 3 (.tmp 13), some (some 10, true)⟩,
  ⟨some 15, .binOp .eql 3 (.tmp 12) (.tmp 14) 3, some (some 10, true)⟩,
  ⟨some 16, .pick (.tmp 10) (.tmp 15) (.const (.bool false)), none⟩,
  ⟨some 17, .move (.tmp 16), none⟩,
  ⟨some 18, .fieldAddr 45 (.tmp 2) 2, some (some 17, true)⟩,
  ⟨some 19, .load 3 (.tmp 18), some (some 17, true)⟩,
  ⟨some 20, .fieldAddr 45 (.tmp 3) 2, some (some 17, true)⟩,
  ⟨some 21, .load 3 (.tmp 20), some (some 17, true)⟩,
  ⟨some 22, .binOp .eql 3 (.tmp 19) (.tmp 21) 3, some (some 17, true)⟩,
  ⟨some 23, .pick (.tmp 17) (.tmp 22) (.const (.bool false)), none⟩,
  ⟨some 24, .move (.tmp 23), none⟩,
  ⟨some 25, .fieldAddr 45 (.tmp 2) 3, some (some 24, true)⟩,
  ⟨some 26, .load 43 (.tmp 25), some (some 24, true)⟩,
  ⟨some 27, .fieldAddr 45 (.tmp 3) 3, some (some 24, true)⟩,
  ⟨some 28, .load 43 (.tmp 27), some (some 24, true)⟩,
  ⟨some 29, .binOp .eql 43 (.tmp 26) (.tmp 28) 43, some (some 24, true)⟩,
  ⟨some 30, .pick (.tmp 24) (.tmp 29) (.const (.bool false)), none⟩,
  ⟨some 31, .move (.tmp 30), none⟩,
  ⟨some 32, .fieldAddr 45 (.tmp 2) 4, some (some 31, true)⟩,
  ⟨some 33, .load 9 (.tmp 32), some (some 31, true)⟩,
  ⟨some 34, .fieldAddr 45 (.tmp 3) 4, some (some 31, true)⟩,
  ⟨some 35, .load 9 (.tmp 34), some (some 31, true)⟩,
  ⟨some 36, .binOp .eql 9 (.tmp 33) (.tmp 35) 9, some (some 31, true)⟩,
  ⟨some 37, .pick (.tmp 31) (.tmp 36) (.const (.bool false)), none⟩,
  ⟨some 38, .move (.tmp 37), none⟩,
  ⟨some 39, .fieldAddr 45 (.tmp 2) 5, some (some 38, true)⟩,
  ⟨some 40, .load 23 (.tmp 39), some (some 38, true)⟩,
  ⟨some 41, .fieldAddr 45 (.tmp 3) 5, some (some 38, true)⟩,
  ⟨some 42, .load 23 (.tmp 41), some (some 38, true)⟩,
  ⟨some 43, .call { callee := .value (.func 44), args := #[.tmp 40, .tmp 42], argTypes := #[23, 23] }, some (some 38, true)⟩,
  ⟨some 44, .pick (.tmp 38) (.tmp 43) (.const (.bool false)), none⟩,
  ⟨some 45, .move (.tmp 44), none⟩,
  ⟨some 46, .fieldAddr 45 (.tmp 2) 6, some (some 45, true)⟩,
  ⟨some 47, .load 3 (.tmp 46), some (some 45, true)⟩,
  ⟨some 48, .fieldAddr 45 (.tmp 3) 6, some (some 45, true)⟩,
  ⟨some 49, .load 3 (.tmp 48), some (some 45, true)⟩,
  ⟨some 50, .binOp .eql 3 (.tmp 47) (.tmp 49) 3, some (some 45, true)⟩,
  ⟨some 51, .pick (.tmp 45) (.tmp 50) (.const (.bool false)), none⟩,
  ⟨some 52, .move (.tmp 51), none⟩,
  ⟨some 53, .fieldAddr 45 (.tmp 2) 7, some (some 52, true)⟩,
  ⟨some 54, .load 3 (.tmp 53), some (some 52, true)⟩,
  ⟨some 55, .fieldAddr 45 (.tmp 3) 7, some (some 52, true)⟩,
  ⟨some 56, .load 3 (.tmp 55), some (some 52, true)⟩,
  ⟨some 57, .binOp .eql 3 (.tmp 54) (.tmp 56) 3, some (some 52, true)⟩,
  ⟨some 58, .pick (.tmp 52) (.tmp 57) (.const (.bool false)), none⟩,
  ⟨some 59, .move (.tmp 58), none⟩,
  ⟨some 60, .fieldAddr 45 (.tmp 2) 8, some (some 59, true)⟩,
  ⟨some 61, .load 3 (.tmp 60), some (some 59, true)⟩,
  ⟨some 62, .fieldAddr 45 (.tmp 3) 8, some (some 59, true)⟩,
  ⟨some 63, .load 3 (.tmp 62), some (some 59, true)⟩,
  ⟨some 64, .binOp .eql 3 (.tmp 61) (.tmp 63) 3, some (some 59, true)⟩,
  ⟨some 65, .pick (.tmp 59) (.tmp 64) (.const (.bool false)), none⟩,
  ⟨some 4, .assign (.tmp 65), none⟩] false).seq SC.ret))
theorem sl24 : slimK Try.f24.body s24 = some (unK s24, true) := by kernel_rfl
theorem ok24 : fnOK calmB Try.f24 0 = true := by kernel_rfl

/-- store.nothing -/
def s31 : SC := ((SC.region 0 [⟨some 1, .box 45 (.tmp 0), none⟩,
  ⟨some 2, .assign (.const (.bool false)), none⟩] false).seq ((SC.region 1 [⟨some 3, .load 45 (.tmp 1), none⟩,
  ⟨some 4, .build 45 #[], none⟩,
  ⟨some 5, .call { callee := .value (.func 47), args := #[.tmp 3, .tmp 4], argTypes := #[45, 45] }, none⟩,
  ⟨some 2, .assign (.tmp 5), none⟩] false).seq SC.ret))
theorem sl31 : slimK Try.f31.body s31 = some (unK s31, true) := by kernel_rfl
theorem ok31 : fnOK calmB Try.f31 0 = true := by kernel_rfl

/-- op.May -/
def s32 : SC := ((SC.region 0 [⟨some 1, .box 45 (.tmp 0), none⟩,
  ⟨some 2, .assign (.const (.bool false)), none⟩] false).seq ((SC.block 0 ((SC.region 1 [⟨some 4, .fieldAddr 45 (.tmp 1) 0, none⟩,
  ⟨some 5, .load 3 (.tmp 4), none⟩,
  ⟨some 6, .fieldAddr 45 (.tmp 1) 1, none⟩,
  ⟨some 7, .load 3 (.tmp 6), none⟩,
  ⟨some 8, .call { callee := .value (.func 48), args := #[.tmp 5, .tmp 7], argTypes := #[3, 3] }, none⟩,
  ⟨some 9, .unOp .not 4 (.tmp 8), none⟩,
  ⟨some 3, .assign (.tmp 9), none⟩] false).seq (SC.cond (.tmp 3) ((SC.region 2 [⟨some 2, .assign (.const (.bool false)), none⟩] false).seq SC.ret) ((SC.region 3 [⟨some 11, .fieldAddr 45 (.tmp 1) 2, none⟩,
  ⟨some 12, .load 3 (.tmp 11), none⟩,
  ⟨some 13, .binOp .eql 3 (.tmp 12) (.const (.int .i64 1)) 3, none⟩,
  ⟨some 10, .assign (.tmp 13), none⟩] false).seq (SC.cond (.tmp 10) ((SC.region 4 [⟨some 14, .load 45 (.tmp 1), none⟩,
  ⟨some 15, .call { callee := .value (.func 49), args := #[.tmp 14], argTypes := #[45] }, none⟩,
  ⟨some 2, .assign (.tmp 15), none⟩] false).seq SC.ret) SC.skip))))).seq ((SC.region 5 [⟨some 16, .fieldAddr 45 (.tmp 1) 2, none⟩,
  ⟨some 17, .load 3 (.tmp 16), none⟩,
  ⟨some 18, .binOp .eql 3 (.tmp 17) (.const (.int .i64 2)) 3, none⟩,
  ⟨some 19, .move (.tmp 18), none⟩,
  ⟨some 20, .load 45 (.tmp 1), some (some 19, true)⟩,
  ⟨some 21, .call { callee := .value (.func 50), args := #[.tmp 20], argTypes := #[45] }, some (some 19, true)⟩,
  ⟨some 22, .pick (.tmp 19) (.tmp 21) (.const (.bool false)), none⟩,
  ⟨some 2, .assign (.tmp 22), none⟩] false).seq SC.ret)))
theorem sl32 : slimK Try.f32.body s32 = some (unK s32, true) := by kernel_rfl
theorem ok32 : fnOK calmB Try.f32 0 = true := by kernel_rfl

def s33L0 : SC := (((SC.region 2 [⟨some 4, .move (.tmp 0), none⟩,
  ⟨some 5, .binOp .geq 3 (.tmp 4) (.const (.int .i64 128)) 3, none⟩] false).seq (SC.cond (.tmp 5) SC.skip (SC.exit 0))).seq (SC.block 1 ((SC.region 3 [⟨some 6, .move (.tmp 3), none⟩,
  ⟨some 7, .move (.tmp 0), none⟩,
  ⟨some 8, .binOp .rem 3 (.tmp 7) (.const (.int .i64 128)) 3, none⟩,
  ⟨some 9, .binOp .add 3 (.tmp 8) (.const (.int .i64 128)) 3, none⟩,
  ⟨some 10, .convert 3 5 (.tmp 9), none⟩,
  ⟨some 11, .buildSlice 92 1 #[(0, .tmp 10)], none⟩,
  ⟨some 12, .call { callee := .builtin .append, args := #[.tmp 6, .tmp 11], argTypes := #[92, 92] }, none⟩,
  ⟨some 3, .assign (.tmp 12), none⟩] false).seq (SC.region 4 [⟨some 13, .move (.tmp 0), none⟩,
  ⟨some 14, .binOp .quo 3 (.tmp 13) (.const (.int .i64 128)) 3, none⟩,
  ⟨some 0, .assign (.tmp 14), none⟩] false))))
/-- number.Bytes -/
def s33 : SC := ((SC.region 0 [⟨some 2, .assign (.const (.string { data := #[] })), none⟩] false).seq ((SC.region 1 [⟨some 3, .assign (.const (.slice none 0 0)), none⟩] false).seq ((SC.block 0 (SC.loop s33L0)).seq ((SC.region 5 [⟨some 15, .move (.tmp 3), none⟩,
  ⟨some 16, .move (.tmp 0), none⟩,
  ⟨some 17, .convert 3 5 (.tmp 16), none⟩,
  ⟨some 18, .buildSlice 92 1 #[(0, .tmp 17)], none⟩,
  ⟨some 19, .call { callee := .builtin .append, args := #[.tmp 15, .tmp 18], argTypes := #[92, 92] }, none⟩,
  ⟨some 20, .convert 92 9 (.tmp 19), none⟩,
  ⟨some 2, .assign (.tmp 20), none⟩] false).seq SC.ret))))
theorem sl33 : slimK Try.f33.body s33 = some (unK s33, true) := by kernel_rfl
theorem ok33 : fnOK calmB Try.f33 0 = true := by kernel_rfl

def s34L0 : SC := ((SC.region 6 [⟨some 46, .binOp .lss 3 (.tmp 45) (.tmp 44) 3, none⟩] false).seq ((SC.cond (.tmp 46) SC.skip (SC.exit 0)).seq ((SC.block 1 ((SC.region 7 [⟨some 47, .indexAddr 23 (.tmp 43) (.tmp 45), none⟩,
  ⟨some 48, .load 43 (.tmp 47), none⟩,
  ⟨some 5, .alloc 43, none⟩,
  ⟨none, .store 43 (.tmp 5) (.tmp 48), none⟩] false).seq (SC.region 8 [⟨some 49, .move (.tmp 3), none⟩,
  ⟨some 50, .load 43 (.tmp 5), none⟩,
  ⟨some 51, .call { callee := .value (.func 52), args := #[.tmp 50], argTypes := #[43] }, none⟩,
  ⟨some 52, .binOp .add 9 (.tmp 49) (.tmp 51) 9, none⟩,
  ⟨some 3, .assign (.tmp 52), none⟩] false))).seq (SC.region 9 [⟨some 53, .binOp .add 3 (.tmp 45) (.const (.int .i64 1)) 3, none⟩,
  ⟨some 45, .move (.tmp 53), none⟩] false))))
/-- pack.Spell -/
def s34 : SC := ((SC.region 0 [⟨some 1, .box 45 (.tmp 0), none⟩,
  ⟨some 2, .assign (.const (.string { data := #[] })), none⟩] false).seq ((SC.region 1 [⟨some 6, .fieldAddr 45 (.tmp 1) 0, none⟩,
  ⟨some 7, .load 3 (.tmp 6), none⟩,
  ⟨some 8, .fieldAddr 45 (.tmp 1) 1, none⟩,
  ⟨some 9, .load 3 (.tmp 8), none⟩,
  ⟨some 10, .fieldAddr 45 (.tmp 1) 2, none⟩,
  ⟨some 11, .load 3 (.tmp 10), none⟩,
  ⟨some 12, .buildSlice 24 3 #[(0, .tmp 7), (1, .tmp 9), (2, .tmp 11)], none⟩,
  ⟨some 13, .call { callee := .value (.func 51), args := #[.tmp 12], argTypes := #[24] }, none⟩,
  ⟨some 3, .assign (.tmp 13), none⟩] false).seq (((SC.region 2 [⟨some 14, .fieldAddr 45 (.tmp 1) 2, none⟩,
  ⟨some 15, .load 3 (.tmp 14), none⟩,
  ⟨some 16, .binOp .eql 3 (.tmp 15) (.const (.int .i64 2)) 3, none⟩] false).seq (SC.cond (.tmp 16) ((SC.region 3 [⟨some 17, .move (.tmp 3), none⟩,
  ⟨some 18, .fieldAddr 45 (.tmp 1) 6, none⟩,
  ⟨some 19, .load 3 (.tmp 18), none⟩,
  ⟨some 20, .fieldAddr 45 (.tmp 1) 7, none⟩,
  ⟨some 21, .load 3 (.tmp 20), none⟩,
  ⟨some 22, .fieldAddr 45 (.tmp 1) 8, none⟩,
  ⟨some 23, .load 3 (.tmp 22), none⟩,
  ⟨some 24, .buildSlice 24 3 #[(0, .tmp 19), (1, .tmp 21), (2, .tmp 23)], none⟩,
  ⟨some 25, .call { callee := .value (.func 51), args := #[.tmp 24], argTypes := #[24] }, none⟩,
  ⟨some 26, .binOp .add 9 (.tmp 17) (.tmp 25) 9, none⟩,
  ⟨some 2, .assign (.tmp 26), none⟩] false).seq SC.ret) SC.skip)).seq ((SC.region 4 [⟨some 27, .move (.tmp 3), none⟩,
  ⟨some 28, .fieldAddr 45 (.tmp 1) 3, none⟩,
  ⟨some 29, .load 43 (.tmp 28), none⟩,
  ⟨some 30, .call { callee := .value (.func 52), args := #[.tmp 29], argTypes := #[43] }, none⟩,
  ⟨some 31, .fieldAddr 45 (.tmp 1) 4, none⟩,
  ⟨some 32, .load 9 (.tmp 31), none⟩,
  ⟨some 33, .call { callee := .value (.func 53), args := #[.tmp 32], argTypes := #[9] }, none⟩,
  ⟨some 34, .binOp .add 9 (.tmp 30) (.tmp 33) 9, none⟩,
  ⟨some 35, .fieldAddr 45 (.tmp 1) 5, none⟩,
  ⟨some 36, .load 23 (.tmp 35), none⟩,
  ⟨some 37, .call { callee := .builtin .len, args := #[.tmp 36], argTypes := #[23] }, none⟩,
  ⟨some 38, .buildSlice 24 1 #[(0, .tmp 37)], none⟩,
  ⟨some 39, .call { callee := .value (.func 51), args := #[.tmp 38], argTypes := #[24] }, none⟩,
  ⟨some 40, .binOp .add 9 (.tmp 34) (.tmp 39) 9, none⟩,
  ⟨some 41, .binOp .add 9 (.tmp 27) (.tmp 40) 9, none⟩,
  ⟨some 3, .assign (.tmp 41), none⟩] true).seq (((SC.region 5 [⟨some 42, .fieldAddr 45 (.tmp 1) 5, none⟩,
  ⟨some 43, .load 23 (.tmp 42), none⟩,
  ⟨some 44, .call { callee := .builtin .len, args := #[.tmp 43], argTypes := #[23] }, none⟩,
  ⟨some 45, .move (.const (.int .i64 0)), none⟩] false).seq (SC.block 0 (SC.loop s34L0))).seq ((SC.region 10 [⟨some 54, .move (.tmp 3), none⟩,
  ⟨some 2, .assign (.tmp 54), none⟩] false).seq SC.ret))))))
theorem sl34 : slimK Try.f34.body s34 = some (unK s34, true) := by kernel_rfl
theorem ok34 : fnOK calmB Try.f34 0 = true := by kernel_rfl

/-- store.padded -/
def s35 : SC := ((SC.region 0 [⟨some 2, .assign (.const (.string { data := #[] })), none⟩] false).seq ((SC.region 1 [⟨some 3, .move (.tmp 0), none⟩,
  ⟨some 4, .move (.tmp 0), none⟩,
  ⟨some 5, .call { callee := .builtin .len, args := #[.tmp 4], argTypes := #[9] }, none⟩,
  ⟨some 6, .binOp .rem 3 (.tmp 5) (.const (.int .i64 32)) 3, none⟩,
  ⟨some 7, .binOp .sub 3 (.const (.int .i64 32)) (.tmp 6) 3, none⟩,
  ⟨some 8, .binOp .rem 3 (.tmp 7) (.const (.int .i64 32)) 3, none⟩,
  ⟨some 9, .call { callee := .value (.func 42), args := #[.const (.string { data := #[0] }), .tmp 8], argTypes := #[9, 3] }, none⟩,
  ⟨some 10, .binOp .add 9 (.tmp 3) (.tmp 9) 9, none⟩,
  ⟨some 2, .assign (.tmp 10), none⟩] false).seq SC.ret))
theorem sl35 : slimK Try.f35.body s35 = some (unK s35, true) := by kernel_rfl
theorem ok35 : fnOK calmB Try.f35 0 = true := by kernel_rfl

/-- seal.Add -/
def s36 : SC := ((SC.region 0 [⟨some 2, .assign (.const (.string { data := #[] })), none⟩] false).seq (((SC.region 1 [⟨some 4, .move (.tmp 0), none⟩,
  ⟨some 5, .call { callee := .builtin .len, args := #[.tmp 4], argTypes := #[9] }, none⟩,
  ⟨some 6, .binOp .gtr 3 (.tmp 5) (.const (.int .i64 700)) 3, none⟩] false).seq (SC.cond (.tmp 6) ((SC.region 2 [⟨some 2, .assign (.const (.string { data := #[] })), none⟩] false).seq SC.ret) SC.skip)).seq ((SC.region 3 [⟨some 7, .move (.tmp 0), none⟩,
  ⟨some 8, .call { callee := .builtin .len, args := #[.tmp 7], argTypes := #[9] }, none⟩,
  ⟨some 9, .call { callee := .value (.func 33), args := #[.tmp 8], argTypes := #[3] }, none⟩,
  ⟨some 3, .assign (.tmp 9), none⟩] false).seq ((SC.region 4 [⟨some 10, .move (.tmp 3), none⟩,
  ⟨some 11, .move (.tmp 3), none⟩,
  ⟨some 12, .move (.tmp 0), none⟩,
  ⟨some 13, .binOp .add 9 (.tmp 11) (.tmp 12) 9, none⟩,
  ⟨some 14, .call { callee := .value (.func 55), args := #[.tmp 13], argTypes := #[9] }, none⟩,
  ⟨some 15, .call { callee := .value (.func 54), args := #[.tmp 14], argTypes := #[99] }, none⟩,
  ⟨some 16, .binOp .add 9 (.tmp 10) (.tmp 15) 9, none⟩,
  ⟨some 17, .move (.tmp 0), none⟩,
  ⟨some 18, .binOp .add 9 (.tmp 16) (.tmp 17) 9, none⟩,
  ⟨some 2, .assign (.tmp 18), none⟩] false).seq SC.ret))))
theorem sl36 : slimK Try.f36.body s36 = some (unK s36, true) := by kernel_rfl
theorem ok36 : fnOK calmB Try.f36 0 = true := by kernel_rfl

/-- seal.Take -/
def s39 : SC := ((SC.region 0 [⟨some 2, .assign (.const (.string { data := #[] })), none⟩,
  ⟨some 3, .assign (.const (.string { data := #[] })), none⟩,
  ⟨some 4, .assign (.const (.bool false)), none⟩] false).seq ((SC.region 1 [⟨some 9, .move (.tmp 0), none⟩,
  ⟨some 10, .call { callee := .value (.func 60), args := #[.tmp 9], argTypes := #[9] }, none⟩,
  ⟨some 8, .move (.tmp 10), none⟩,
  ⟨some 11, .extract (.tmp 8) 0, none⟩,
  ⟨some 12, .extract (.tmp 8) 1, none⟩,
  ⟨some 13, .extract (.tmp 8) 2, none⟩,
  ⟨some 5, .assign (.tmp 11), none⟩,
  ⟨some 3, .assign (.tmp 12), none⟩,
  ⟨some 6, .assign (.tmp 13), none⟩] false).seq (((SC.region 2 [⟨some 14, .move (.tmp 6), none⟩,
  ⟨some 15, .binOp .neq 39 (.tmp 14) (.const (.int .i64 0)) 39, none⟩,
  ⟨some 16, .move (.tmp 15), none⟩,
  ⟨some 17, .move (.tmp 5), some (some 16, false)⟩,
  ⟨some 18, .binOp .gtr 3 (.tmp 17) (.const (.int .i64 700)) 3, some (some 16, false)⟩,
  ⟨some 19, .pick (.tmp 16) (.const (.bool true)) (.tmp 18), none⟩,
  ⟨some 20, .move (.tmp 19), none⟩,
  ⟨some 21, .move (.tmp 5), some (some 20, false)⟩,
  ⟨some 22, .move (.tmp 3), some (some 20, false)⟩,
  ⟨some 23, .call { callee := .builtin .len, args := #[.tmp 22], argTypes := #[9] }, some (some 20, false)⟩,
  ⟨some 24, .binOp .sub 3 (.tmp 23) (.const (.int .i64 4)) 3, some (some 20, false)⟩,
  ⟨some 25, .binOp .gtr 3 (.tmp 21) (.tmp 24) 3, some (some 20, false)⟩,
  ⟨some 26, .pick (.tmp 20) (.const (.bool true)) (.tmp 25), none⟩] false).seq (SC.cond (.tmp 26) ((SC.region 3 [⟨some 2, .assign (.const (.string { data := #[] })), none⟩,
  ⟨some 3, .assign (.const (.string { data := #[] })), none⟩,
  ⟨some 4, .assign (.const (.bool false)), none⟩] false).seq SC.ret) SC.skip)).seq ((SC.region 4 [⟨some 27, .move (.tmp 0), none⟩,
  ⟨some 28, .move (.tmp 0), none⟩,
  ⟨some 29, .call { callee := .builtin .len, args := #[.tmp 28], argTypes := #[9] }, none⟩,
  ⟨some 30, .move (.tmp 3), none⟩,
  ⟨some 31, .call { callee := .builtin .len, args := #[.tmp 30], argTypes := #[9] }, none⟩,
  ⟨some 32, .binOp .sub 3 (.tmp 29) (.tmp 31) 3, none⟩,
  ⟨some 33, .slice 9 (.tmp 27) none (some (.tmp 32)) none, none⟩,
  ⟨some 7, .assign (.tmp 33), none⟩] false).seq ((SC.region 5 [⟨some 34, .move (.tmp 3), none⟩,
  ⟨some 35, .move (.tmp 5), none⟩,
  ⟨some 36, .binOp .add 3 (.const (.int .i64 4)) (.tmp 35) 3, none⟩,
  ⟨some 37, .slice 9 (.tmp 34) (some (.const (.int .i64 4))) (some (.tmp 36)) none, none⟩,
  ⟨some 2, .assign (.tmp 37), none⟩] false).seq (((SC.region 6 [⟨some 38, .move (.tmp 3), none⟩,
  ⟨some 39, .slice 9 (.tmp 38) none (some (.const (.int .i64 4))) none, none⟩,
  ⟨some 40, .move (.tmp 7), none⟩,
  ⟨some 41, .move (.tmp 2), none⟩,
  ⟨some 42, .binOp .add 9 (.tmp 40) (.tmp 41) 9, none⟩,
  ⟨some 43, .call { callee := .value (.func 55), args := #[.tmp 42], argTypes := #[9] }, none⟩,
  ⟨some 44, .call { callee := .value (.func 54), args := #[.tmp 43], argTypes := #[99] }, none⟩,
  ⟨some 45, .binOp .neq 9 (.tmp 39) (.tmp 44) 9, none⟩] true).seq (SC.cond (.tmp 45) ((SC.region 7 [⟨some 2, .assign (.const (.string { data := #[] })), none⟩,
  ⟨some 3, .assign (.const (.string { data := #[] })), none⟩,
  ⟨some 4, .assign (.const (.bool false)), none⟩] false).seq SC.ret) SC.skip)).seq ((SC.region 8 [⟨some 46, .move (.tmp 2), none⟩,
  ⟨some 47, .move (.tmp 3), none⟩,
  ⟨some 48, .move (.tmp 5), none⟩,
  ⟨some 49, .binOp .add 3 (.const (.int .i64 4)) (.tmp 48) 3, none⟩,
  ⟨some 50, .slice 9 (.tmp 47) (some (.tmp 49)) none none, none⟩,
  ⟨some 2, .assign (.tmp 46), none⟩,
  ⟨some 3, .assign (.tmp 50), none⟩,
  ⟨some 4, .assign (.const (.bool true)), none⟩] true).seq SC.ret)))))))
theorem sl39 : slimK Try.f39.body s39 = some (unK s39, true) := by kernel_rfl
theorem ok39 : fnOK calmB Try.f39 0 = true := by kernel_rfl

/-- store.read -/
def s40 : SC := ((SC.region 0 [⟨some 2, .alloc 47, none⟩,
  ⟨some 3, .assign (.const (.bool false)), none⟩] false).seq ((SC.region 1 [⟨some 8, .move (.tmp 0), none⟩,
  ⟨some 9, .call { callee := .value (.func 60), args := #[.tmp 8], argTypes := #[9] }, none⟩,
  ⟨some 7, .move (.tmp 9), none⟩,
  ⟨some 10, .extract (.tmp 7) 0, none⟩,
  ⟨some 11, .extract (.tmp 7) 1, none⟩,
  ⟨some 12, .extract (.tmp 7) 2, none⟩,
  ⟨some 4, .assign (.tmp 10), none⟩,
  ⟨some 5, .assign (.tmp 11), none⟩,
  ⟨some 6, .assign (.tmp 12), none⟩] false).seq ((SC.block 0 ((SC.region 3 [⟨some 21, .move (.tmp 6), none⟩,
  ⟨some 22, .binOp .neq 39 (.tmp 21) (.const (.int .i64 0)) 39, none⟩,
  ⟨some 23, .move (.tmp 22), none⟩,
  ⟨some 24, .move (.tmp 4), some (some 23, false)⟩,
  ⟨some 25, .binOp .gtr 3 (.tmp 24) (.const (.int .i64 1)) 3, some (some 23, false)⟩,
  ⟨some 26, .pick (.tmp 23) (.const (.bool true)) (.tmp 25), none⟩,
  ⟨some 20, .assign (.tmp 26), none⟩] false).seq (SC.cond (.tmp 20) ((SC.region 4 [⟨some 27, .load 47 (.tmp 2), none⟩,
  ⟨none, .store 47 (.tmp 2) (.tmp 27), none⟩,
  ⟨some 3, .assign (.const (.bool false)), none⟩] false).seq SC.ret) ((SC.region 5 [⟨some 29, .move (.tmp 4), none⟩,
  ⟨some 30, .binOp .eql 3 (.tmp 29) (.const (.int .i64 1)) 3, none⟩,
  ⟨some 28, .assign (.tmp 30), none⟩] false).seq (SC.cond (.tmp 28) ((SC.region 6 [⟨some 31, .fieldAddr 47 (.tmp 2) 0, none⟩,
  ⟨none, .store 4 (.tmp 31) (.const (.bool true)), none⟩] false).seq (SC.region 7 [⟨some 33, .move (.tmp 5), none⟩,
  ⟨some 34, .call { callee := .value (.func 60), args := #[.tmp 33], argTypes := #[9] }, none⟩,
  ⟨some 32, .move (.tmp 34), none⟩,
  ⟨some 35, .extract (.tmp 32) 0, none⟩,
  ⟨some 36, .extract (.tmp 32) 1, none⟩,
  ⟨some 37, .extract (.tmp 32) 2, none⟩,
  ⟨some 38, .fieldAddr 47 (.tmp 2) 1, none⟩,
  ⟨none, .store 3 (.tmp 38) (.tmp 35), none⟩,
  ⟨some 5, .assign (.tmp 36), none⟩,
  ⟨some 6, .assign (.tmp 37), none⟩] false)) (SC.region 2 [⟨some 14, .move (.tmp 5), none⟩,
  ⟨some 15, .call { callee := .value (.func 61), args := #[.tmp 14], argTypes := #[9] }, none⟩,
  ⟨some 13, .move (.tmp 15), none⟩,
  ⟨some 16, .extract (.tmp 13) 0, none⟩,
  ⟨some 17, .extract (.tmp 13) 1, none⟩,
  ⟨some 18, .extract (.tmp 13) 2, none⟩,
  ⟨some 19, .fieldAddr 47 (.tmp 2) 2, none⟩,
  ⟨none, .store 45 (.tmp 19) (.tmp 16), none⟩,
  ⟨some 5, .assign (.tmp 17), none⟩,
  ⟨some 6, .assign (.tmp 18), none⟩] false)))))).seq ((SC.region 8 [⟨some 39, .load 47 (.tmp 2), none⟩,
  ⟨some 40, .move (.tmp 6), none⟩,
  ⟨some 41, .binOp .eql 39 (.tmp 40) (.const (.int .i64 0)) 39, none⟩,
  ⟨some 42, .move (.tmp 41), none⟩,
  ⟨some 43, .move (.tmp 5), some (some 42, true)⟩,
  ⟨some 44, .binOp .eql 9 (.tmp 43) (.const (.string { data := #[] })) 9, some (some 42, true)⟩,
  ⟨some 45, .pick (.tmp 42) (.tmp 44) (.const (.bool false)), none⟩,
  ⟨some 46, .move (.tmp 45), none⟩,
  ⟨some 47, .load 47 (.tmp 2), some (some 46, true)⟩,
  ⟨some 48, .call { callee := .value (.func 17), args := #[.tmp 47], argTypes := #[47] }, some (some 46, true)⟩,
  ⟨some 49, .pick (.tmp 46) (.tmp 48) (.const (.bool false)), none⟩,
  ⟨none, .store 47 (.tmp 2) (.tmp 39), none⟩,
  ⟨some 3, .assign (.tmp 49), none⟩] true).seq SC.ret))))
theorem sl40 : slimK Try.f40.body s40 = some (unK s40, true) := by kernel_rfl
theorem ok40 : fnOK calmB Try.f40 0 = true := by kernel_rfl

def s44L0 : SC := (((SC.region 4 [⟨some 11, .move (.tmp 5), none⟩,
  ⟨some 12, .move (.tmp 0), none⟩,
  ⟨some 13, .call { callee := .builtin .len, args := #[.tmp 12], argTypes := #[23] }, none⟩,
  ⟨some 14, .binOp .lss 3 (.tmp 11) (.tmp 13) 3, none⟩] false).seq (SC.cond (.tmp 14) SC.skip (SC.exit 0))).seq ((SC.block 1 ((SC.region 6 [⟨some 17, .move (.tmp 0), none⟩,
  ⟨some 18, .move (.tmp 5), none⟩,
  ⟨some 19, .indexAddr 23 (.tmp 17) (.tmp 18), none⟩,
  ⟨some 20, .load 43 (.tmp 19), none⟩,
  ⟨some 21, .move (.tmp 1), none⟩,
  ⟨some 22, .move (.tmp 5), none⟩,
  ⟨some 23, .indexAddr 23 (.tmp 21) (.tmp 22), none⟩,
  ⟨some 24, .load 43 (.tmp 23), none⟩,
  ⟨some 25, .binOp .neq 43 (.tmp 20) (.tmp 24) 43, none⟩] true).seq (SC.cond (.tmp 25) ((SC.region 7 [⟨some 4, .assign (.const (.bool false)), none⟩] false).seq SC.ret) SC.skip))).seq (SC.region 5 [⟨some 15, .move (.tmp 5), none⟩,
  ⟨some 16, .binOp .add 3 (.tmp 15) (.const (.int .i64 1)) 3, none⟩,
  ⟨some 5, .assign (.tmp 16), none⟩] false)))
/-- lectionaryref0.EqElems -/
def s44 : SC := ((SC.region 0 [⟨some 4, .assign (.const (.bool false)), none⟩] false).seq (((SC.region 1 [⟨some 6, .move (.tmp 0), none⟩,
  ⟨some 7, .call { callee := .builtin .len, args := #[.tmp 6], argTypes := #[23] }, none⟩,
  ⟨some 8, .move (.tmp 1), none⟩,
  ⟨some 9, .call { callee := .builtin .len, args := #[.tmp 8], argTypes := #[23] }, none⟩,
  ⟨some 10, .binOp .neq 3 (.tmp 7) (.tmp 9) 3, none⟩] false).seq (SC.cond (.tmp 10) ((SC.region 2 [⟨some 4, .assign (.const (.bool false)), none⟩] false).seq SC.ret) SC.skip)).seq (((SC.region 3 [⟨some 5, .assign (.const (.int .i64 0)), none⟩] false).seq (SC.block 0 (SC.loop s44L0))).seq ((SC.region 8 [⟨some 4, .assign (.const (.bool true)), none⟩] false).seq SC.ret))))
theorem sl44 : slimK Try.f44.body s44 = some (unK s44, true) := by kernel_rfl
theorem ok44 : fnOK calmB Try.f44 0 = true := by kernel_rfl

/-- op.Same -/
def s47 : SC := ((SC.region 0 [⟨some 2, .box 45 (.tmp 0), none⟩,
  ⟨some 3, .box 45 (.tmp 1), none⟩,
  ⟨some 4, .assign (.const (.bool false)), none⟩] false).seq ((SC.region 1 [⟨some 5, .fieldAddr 45 (.tmp 2) 5, none⟩,
  ⟨some 6, .load 23 (.tmp 5), none⟩,
  ⟨some 7, .fieldAddr 45 (.tmp 3) 5, none⟩,
  ⟨some 8, .load 23 (.tmp 7), none⟩,
  ⟨some 9, .call { callee := .value (.func 66), args := #[.tmp 6, .tmp 8], argTypes := #[23, 23] }, none⟩,
  ⟨some 10, .move (.tmp 9), none⟩,
  ⟨some 11, .fieldAddr 45 (.tmp 2) 0, some (some 10, true)⟩,
  ⟨some 12, .load 3 (.tmp 11), some (some 10, true)⟩,
  ⟨some 13, .fieldAddr 45 (.tmp 3) 0, some (some 10, true)⟩,
  ⟨some 14, .load 3 (.tmp 13), some (some 10, true)⟩,
  ⟨some 15, .binOp .eql 3 (.tmp 12) (.tmp 14) 3, some (some 10, true)⟩,
  ⟨some 16, .pick (.tmp 10) (.tmp 15) (.const (.bool false)), none⟩,
  ⟨some 17, .move (.tmp 16), none⟩,
  ⟨some 18, .fieldAddr 45 (.tmp 2) 1, some (some 17, true)⟩,
  ⟨some 19, .load 3 (.tmp 18), some (some 17, true)⟩,
  ⟨some 20, .fieldAddr 45 (.tmp 3) 1, some (some 17, true)⟩,
  ⟨some 21, .load 3 (.tmp 20), some (some 17, true)⟩,
  ⟨some 22, .binOp .eql 3 (.tmp 19) (.tmp 21) 3, some (some 17, true)⟩,
  ⟨some 23, .pick (.tmp 17) (.tmp 22) (.const (.bool false)), none⟩,
  ⟨some 24, .move (.tmp 23), none⟩,
  ⟨some 25, .fieldAddr 45 (.tmp 2) 2, some (some 24, true)⟩,
  ⟨some 26, .load 3 (.tmp 25), some (some 24, true)⟩,
  ⟨some 27, .fieldAddr 45 (.tmp 3) 2, some (some 24, true)⟩,
  ⟨some 28, .load 3 (.tmp 27), some (some 24, true)⟩,
  ⟨some 29, .binOp .eql 3 (.tmp 26) (.tmp 28) 3, some (some 24, true)⟩,
  ⟨some 30, .pick (.tmp 24) (.tmp 29) (.const (.bool false)), none⟩,
  ⟨some 31, .move (.tmp 30), none⟩,
  ⟨some 32, .fieldAddr 45 (.tmp 2) 3, some (some 31, true)⟩,
  ⟨some 33, .load 43 (.tmp 32), some (some 31, true)⟩,
  ⟨some 34, .fieldAddr 45 (.tmp 3) 3, some (some 31, true)⟩,
  ⟨some 35, .load 43 (.tmp 34), some (some 31, true)⟩,
  ⟨some 36, .binOp .eql 43 (.tmp 33) (.tmp 35) 43, some (some 31, true)⟩,
  ⟨some 37, .pick (.tmp 31) (.tmp 36) (.const (.bool false)), none⟩,
  ⟨some 38, .move (.tmp 37), none⟩,
  ⟨some 39, .fieldAddr 45 (.tmp 2) 4, some (some 38, true)⟩,
  ⟨some 40, .load 9 (.tmp 39), some (some 38, true)⟩,
  ⟨some 41, .fieldAddr 45 (.tmp 3) 4, some (some 38, true)⟩,
  ⟨some 42, .load 9 (.tmp 41), some (some 38, true)⟩,
  ⟨some 43, .binOp .eql 9 (.tmp 40) (.tmp 42) 9, some (some 38, true)⟩,
  ⟨some 44, .pick (.tmp 38) (.tmp 43) (.const (.bool false)), none⟩,
  ⟨some 45, .move (.tmp 44), none⟩,
  ⟨some 46, .fieldAddr 45 (.tmp 2) 6, some (some 45, true)⟩,
  ⟨some 47, .load 3 (.tmp 46), some (some 45, true)⟩,
  ⟨some 48, .fieldAddr 45 (.tmp 3) 6, some (some 45, true)⟩,
  ⟨some 49, .load 3 (.tmp 48), some (some 45, true)⟩,
  ⟨some 50, .binOp .eql 3 (.tmp 47) (.tmp 49) 3, some (some 45, true)⟩,
  ⟨some 51, .pick (.tmp 45) (.tmp 50) (.const (.bool false)), none⟩,
  ⟨some 52, .move (.tmp 51), none⟩,
  ⟨some 53, .fieldAddr 45 (.tmp 2) 7, some (some 52, true)⟩,
  ⟨some 54, .load 3 (.tmp 53), some (some 52, true)⟩,
  ⟨some 55, .fieldAddr 45 (.tmp 3) 7, some (some 52, true)⟩,
  ⟨some 56, .load 3 (.tmp 55), some (some 52, true)⟩,
  ⟨some 57, .binOp .eql 3 (.tmp 54) (.tmp 56) 3, some (some 52, true)⟩,
  ⟨some 58, .pick (.tmp 52) (.tmp 57) (.const (.bool false)), none⟩,
  ⟨some 59, .move (.tmp 58), none⟩,
  ⟨some 60, .fieldAddr 45 (.tmp 2) 8, some (some 59, true)⟩,
  ⟨some 61, .load 3 (.tmp 60), some (some 59, true)⟩,
  ⟨some 62, .fieldAddr 45 (.tmp 3) 8, some (some 59, true)⟩,
  ⟨some 63, .load 3 (.tmp 62), some (some 59, true)⟩,
  ⟨some 64, .binOp .eql 3 (.tmp 61) (.tmp 63) 3, some (some 59, true)⟩,
  ⟨some 65, .pick (.tmp 59) (.tmp 64) (.const (.bool false)), none⟩,
  ⟨some 4, .assign (.tmp 65), none⟩] false).seq SC.ret))
theorem sl47 : slimK Try.f47.body s47 = some (unK s47, true) := by kernel_rfl
theorem ok47 : fnOK calmB Try.f47 0 = true := by kernel_rfl

/-- op.Name -/
def s48 : SC := ((SC.region 0 [⟨some 4, .assign (.const (.bool false)), none⟩] false).seq ((SC.region 1 [⟨some 5, .move (.tmp 0), none⟩,
  ⟨some 6, .call { callee := .value (.func 67), args := #[.tmp 5], argTypes := #[3] }, none⟩,
  ⟨some 7, .move (.tmp 6), none⟩,
  ⟨some 8, .move (.tmp 1), some (some 7, true)⟩,
  ⟨some 9, .binOp .geq 3 (.tmp 8) (.const (.int .i64 1)) 3, some (some 7, true)⟩,
  ⟨some 10, .pick (.tmp 7) (.tmp 9) (.const (.bool false)), none⟩,
  ⟨some 11, .move (.tmp 10), none⟩,
  ⟨some 12, .move (.tmp 1), some (some 11, true)⟩,
  ⟨some 13, .binOp .leq 3 (.tmp 12) (.const (.int .i64 268435456)) 3, some (some 11, true)⟩,
  ⟨some 14, .pick (.tmp 11) (.tmp 13) (.const (.bool false)), none⟩,
  ⟨some 4, .assign (.tmp 14), none⟩] false).seq SC.ret))
theorem sl48 : slimK Try.f48.body s48 = some (unK s48, true) := by kernel_rfl
theorem ok48 : fnOK calmB Try.f48 0 = true := by kernel_rfl

/-- op.edit -/
def s49 : SC := ((SC.region 0 [⟨some 1, .box 45 (.tmp 0), none⟩,
  ⟨some 2, .assign (.const (.bool false)), none⟩] false).seq (((SC.region 1 [⟨some 3, .fieldAddr 45 (.tmp 1) 3, none⟩,
  ⟨some 4, .load 43 (.tmp 3), none⟩,
  ⟨some 5, .call { callee := .value (.func 68), args := #[.tmp 4], argTypes := #[43] }, none⟩,
  ⟨some 6, .unOp .not 4 (.tmp 5), none⟩,
  ⟨some 7, .move (.tmp 6), none⟩,
  ⟨some 8, .load 45 (.tmp 1), some (some 7, false)⟩,
  ⟨some 9, .fieldAddr 45 (.tmp 1) 3, some (some 7, false)⟩,
  ⟨some 10, .load 43 (.tmp 9), some (some 7, false)⟩,
  ⟨some 11, .call { callee := .value (.func 69), args := #[.tmp 8, .tmp 10], argTypes := #[45, 43] }, some (some 7, false)⟩,
  ⟨some 12, .pick (.tmp 7) (.const (.bool true)) (.tmp 11), none⟩,
  ⟨some 13, .move (.tmp 12), none⟩,
  ⟨some 14, .fieldAddr 45 (.tmp 1) 4, some (some 13, false)⟩,
  ⟨some 15, .load 9 (.tmp 14), some (some 13, false)⟩,
  ⟨some 16, .binOp .eql 9 (.tmp 15) (.const (.string { data := #[] })) 9, some (some 13, false)⟩,
  ⟨some 17, .move (.tmp 16), some (some 13, false)⟩,
  ⟨some 18, .fieldAddr 45 (.tmp 1) 3, some (some 17, true)⟩,
  ⟨some 19, .load 43 (.tmp 18), some (some 17, true)⟩,
  ⟨some 20, .build 43 #[], some (some 17, true)⟩,
  ⟨some 21, .binOp .neq 43 (.tmp 19) (.tmp 20) 43, some (some 17, true)⟩,
  ⟨some 22, .pick (.tmp 17) (.tmp 21) (.const (.bool false)), some (some 13, false)⟩,
  ⟨some 23, .pick (.tmp 13) (.const (.bool true)) (.tmp 22), none⟩,
  ⟨some 24, .move (.tmp 23), none⟩,
  ⟨some 25, .fieldAddr 45 (.tmp 1) 4, some (some 24, false)⟩,
  ⟨some 26, .load 9 (.tmp 25), some (some 24, false)⟩,
  ⟨some 27, .binOp .eql 9 (.tmp 26) (.const (.string { data := #[] })) 9, some (some 24, false)⟩,
  ⟨some 28, .move (.tmp 27), some (some 24, false)⟩,
  ⟨some 29, .fieldAddr 45 (.tmp 1) 5, some (some 28, true)⟩,
  ⟨some 30, .load 23 (.tmp 29), some (some 28, true)⟩,
  ⟨some 31, .call { callee := .builtin .len, args := #[.tmp 30], argTypes := #[23] }, some (some 28, true)⟩,
  ⟨some 32, .binOp .eql 3 (.tmp 31) (.const (.int .i64 0)) 3, some (some 28, true)⟩,
  ⟨some 33, .pick (.tmp 28) (.tmp 32) (.const (.bool false)), some (some 24, false)⟩,
  ⟨some 34, .pick (.tmp 24) (.const (.bool true)) (.tmp 33), none⟩] false).seq (SC.cond (.tmp 34) ((SC.region 2 [⟨some 2, .assign (.const (.bool false)), none⟩] false).seq SC.ret) SC.skip)).seq ((SC.region 3 [⟨some 35, .fieldAddr 45 (.tmp 1) 4, none⟩,
  ⟨some 36, .load 9 (.tmp 35), none⟩,
  ⟨some 37, .call { callee := .value (.func 70), args := #[.tmp 36], argTypes := #[9] }, none⟩,
  ⟨some 38, .move (.tmp 37), none⟩,
  ⟨some 39, .load 45 (.tmp 1), some (some 38, true)⟩,
  ⟨some 40, .call { callee := .value (.func 71), args := #[.tmp 39], argTypes := #[45] }, some (some 38, true)⟩,
  ⟨some 41, .binOp .leq 3 (.tmp 40) (.const (.int .i64 12)) 3, some (some 38, true)⟩,
  ⟨some 42, .pick (.tmp 38) (.tmp 41) (.const (.bool false)), none⟩,
  ⟨some 43, .move (.tmp 42), none⟩,
  ⟨some 44, .load 45 (.tmp 1), some (some 43, true)⟩,
  ⟨some 45, .call { callee := .value (.func 72), args := #[.tmp 44], argTypes := #[45] }, some (some 43, true)⟩,
  ⟨some 46, .pick (.tmp 43) (.tmp 45) (.const (.bool false)), none⟩,
  ⟨some 47, .move (.tmp 46), none⟩,
  ⟨some 48, .fieldAddr 45 (.tmp 1) 6, some (some 47, true)⟩,
  ⟨some 49, .load 3 (.tmp 48), some (some 47, true)⟩,
  ⟨some 50, .binOp .eql 3 (.tmp 49) (.const (.int .i64 0)) 3, some (some 47, true)⟩,
  ⟨some 51, .pick (.tmp 47) (.tmp 50) (.const (.bool false)), none⟩,
  ⟨some 52, .move (.tmp 51), none⟩,
  ⟨some 53, .fieldAddr 45 (.tmp 1) 7, some (some 52, true)⟩,
  ⟨some 54, .load 3 (.tmp 53), some (some 52, true)⟩,
  ⟨some 55, .binOp .eql 3 (.tmp 54) (.const (.int .i64 0)) 3, some (some 52, true)⟩,
  ⟨some 56, .pick (.tmp 52) (.tmp 55) (.const (.bool false)), none⟩,
  ⟨some 57, .move (.tmp 56), none⟩,
  ⟨some 58, .fieldAddr 45 (.tmp 1) 8, some (some 57, true)⟩,
  ⟨some 59, .load 3 (.tmp 58), some (some 57, true)⟩,
  ⟨some 60, .binOp .eql 3 (.tmp 59) (.const (.int .i64 0)) 3, some (some 57, true)⟩,
  ⟨some 61, .pick (.tmp 57) (.tmp 60) (.const (.bool false)), none⟩,
  ⟨some 2, .assign (.tmp 61), none⟩] false).seq SC.ret)))
theorem sl49 : slimK Try.f49.body s49 = some (unK s49, true) := by kernel_rfl
theorem ok49 : fnOK calmB Try.f49 0 = true := by kernel_rfl

/-- op.toggle -/
def s50 : SC := ((SC.region 0 [⟨some 1, .box 45 (.tmp 0), none⟩,
  ⟨some 2, .assign (.const (.bool false)), none⟩] false).seq (((SC.region 1 [⟨some 3, .fieldAddr 45 (.tmp 1) 6, none⟩,
  ⟨some 4, .load 3 (.tmp 3), none⟩,
  ⟨some 5, .fieldAddr 45 (.tmp 1) 7, none⟩,
  ⟨some 6, .load 3 (.tmp 5), none⟩,
  ⟨some 7, .call { callee := .value (.func 48), args := #[.tmp 4, .tmp 6], argTypes := #[3, 3] }, none⟩,
  ⟨some 8, .unOp .not 4 (.tmp 7), none⟩,
  ⟨some 9, .move (.tmp 8), none⟩,
  ⟨some 10, .fieldAddr 45 (.tmp 1) 6, some (some 9, false)⟩,
  ⟨some 11, .load 3 (.tmp 10), some (some 9, false)⟩,
  ⟨some 12, .fieldAddr 45 (.tmp 1) 0, some (some 9, false)⟩,
  ⟨some 13, .load 3 (.tmp 12), some (some 9, false)⟩,
  ⟨some 14, .binOp .eql 3 (.tmp 11) (.tmp 13) 3, some (some 9, false)⟩,
  ⟨some 15, .move (.tmp 14), some (some 9, false)⟩,
  ⟨some 16, .fieldAddr 45 (.tmp 1) 7, some (some 15, true)⟩,
  ⟨some 17, .load 3 (.tmp 16), some (some 15, true)⟩,
  ⟨some 18, .fieldAddr 45 (.tmp 1) 1, some (some 15, true)⟩,
  ⟨some 19, .load 3 (.tmp 18), some (some 15, true)⟩,
  ⟨some 20, .binOp .eql 3 (.tmp 17) (.tmp 19) 3, some (some 15, true)⟩,
  ⟨some 21, .pick (.tmp 15) (.tmp 20) (.const (.bool false)), some (some 9, false)⟩,
  ⟨some 22, .pick (.tmp 9) (.const (.bool true)) (.tmp 21), none⟩,
  ⟨some 23, .move (.tmp 22), none⟩,
  ⟨some 24, .fieldAddr 45 (.tmp 1) 8, some (some 23, false)⟩,
  ⟨some 25, .load 3 (.tmp 24), some (some 23, false)⟩,
  ⟨some 26, .binOp .lss 3 (.tmp 25) (.const (.int .i64 0)) 3, some (some 23, false)⟩,
  ⟨some 27, .pick (.tmp 23) (.const (.bool true)) (.tmp 26), none⟩,
  ⟨some 28, .move (.tmp 27), none⟩,
  ⟨some 29, .fieldAddr 45 (.tmp 1) 8, some (some 28, false)⟩,
  ⟨some 30, .load 3 (.tmp 29), some (some 28, false)⟩,
  ⟨some 31, .binOp .gtr 3 (.tmp 30) (.const (.int .i64 268435456)) 3, some (some 28, false)⟩,
  ⟨some 32, .pick (.tmp 28) (.const (.bool true)) (.tmp 31), none⟩] false).seq (SC.cond (.tmp 32) ((SC.region 2 [⟨some 2, .assign (.const (.bool false)), none⟩] false).seq SC.ret) SC.skip)).seq ((SC.region 3 [⟨some 33, .fieldAddr 45 (.tmp 1) 3, none⟩,
  ⟨some 34, .load 43 (.tmp 33), none⟩,
  ⟨some 35, .build 43 #[], none⟩,
  ⟨some 36, .binOp .eql 43 (.tmp 34) (.tmp 35) 43, none⟩,
  ⟨some 37, .move (.tmp 36), none⟩,
  ⟨some 38, .fieldAddr 45 (.tmp 1) 4, some (some 37, true)⟩,
  ⟨some 39, .load 9 (.tmp 38), some (some 37, true)⟩,
  ⟨some 40, .binOp .eql 9 (.tmp 39) (.const (.string { data := #[] })) 9, some (some 37, true)⟩,
  ⟨some 41, .pick (.tmp 37) (.tmp 40) (.const (.bool false)), none⟩,
  ⟨some 42, .move (.tmp 41), none⟩,
  ⟨some 43, .fieldAddr 45 (.tmp 1) 5, some (some 42, true)⟩,
  ⟨some 44, .load 23 (.tmp 43), some (some 42, true)⟩,
  ⟨some 45, .call { callee := .builtin .len, args := #[.tmp 44], argTypes := #[23] }, some (some 42, true)⟩,
  ⟨some 46, .binOp .eql 3 (.tmp 45) (.const (.int .i64 0)) 3, some (some 42, true)⟩,
  ⟨some 47, .pick (.tmp 42) (.tmp 46) (.const (.bool false)), none⟩,
  ⟨some 2, .assign (.tmp 47), none⟩] false).seq SC.ret)))
theorem sl50 : slimK Try.f50.body s50 = some (unK s50, true) := by kernel_rfl
theorem ok50 : fnOK calmB Try.f50 0 = true := by kernel_rfl

/-- pack.elem -/
def s52 : SC := ((SC.region 0 [⟨some 1, .box 43 (.tmp 0), none⟩,
  ⟨some 2, .assign (.const (.string { data := #[] })), none⟩] false).seq ((SC.region 1 [⟨some 3, .fieldAddr 43 (.tmp 1) 0, none⟩,
  ⟨some 4, .load 3 (.tmp 3), none⟩,
  ⟨some 5, .fieldAddr 43 (.tmp 1) 1, none⟩,
  ⟨some 6, .load 3 (.tmp 5), none⟩,
  ⟨some 7, .fieldAddr 43 (.tmp 1) 2, none⟩,
  ⟨some 8, .load 3 (.tmp 7), none⟩,
  ⟨some 9, .buildSlice 24 3 #[(0, .tmp 4), (1, .tmp 6), (2, .tmp 8)], none⟩,
  ⟨some 10, .call { callee := .value (.func 51), args := #[.tmp 9], argTypes := #[24] }, none⟩,
  ⟨some 2, .assign (.tmp 10), none⟩] false).seq SC.ret))
theorem sl52 : slimK Try.f52.body s52 = some (unK s52, true) := by kernel_rfl
theorem ok52 : fnOK calmB Try.f52 0 = true := by kernel_rfl

/-- number.Text -/
def s53 : SC := ((SC.region 0 [⟨some 2, .assign (.const (.string { data := #[] })), none⟩] false).seq ((SC.region 1 [⟨some 3, .move (.tmp 0), none⟩,
  ⟨some 4, .call { callee := .builtin .len, args := #[.tmp 3], argTypes := #[9] }, none⟩,
  ⟨some 5, .call { callee := .value (.func 33), args := #[.tmp 4], argTypes := #[3] }, none⟩,
  ⟨some 6, .move (.tmp 0), none⟩,
  ⟨some 7, .binOp .add 9 (.tmp 5) (.tmp 6) 9, none⟩,
  ⟨some 2, .assign (.tmp 7), none⟩] false).seq SC.ret))
theorem sl53 : slimK Try.f53.body s53 = some (unK s53, true) := by kernel_rfl
theorem ok53 : fnOK calmB Try.f53 0 = true := by kernel_rfl

/-- seal.spelt -/
def s54 : SC := ((SC.region 0 [⟨some 2, .assign (.const (.string { data := #[] })), none⟩] false).seq ((SC.region 1 [⟨some 3, .move (.tmp 0), none⟩,
  ⟨some 4, .binOp .shr 99 (.tmp 3) (.const (.int .u64 24)) 88, none⟩,
  ⟨some 5, .convert 99 5 (.tmp 4), none⟩,
  ⟨some 6, .move (.tmp 0), none⟩,
  ⟨some 7, .binOp .shr 99 (.tmp 6) (.const (.int .u64 16)) 88, none⟩,
  ⟨some 8, .convert 99 5 (.tmp 7), none⟩,
  ⟨some 9, .move (.tmp 0), none⟩,
  ⟨some 10, .binOp .shr 99 (.tmp 9) (.const (.int .u64 8)) 88, none⟩,
  ⟨some 11, .convert 99 5 (.tmp 10), none⟩,
  ⟨some 12, .move (.tmp 0), none⟩,
  ⟨some 13, .convert 99 5 (.tmp 12), none⟩,
  ⟨some 14, .buildSlice 92 4 #[(0, .tmp 5), (1, .tmp 8), (2, .tmp 11), (3, .tmp 13)], none⟩,
  ⟨some 15, .convert 92 9 (.tmp 14), none⟩,
  ⟨some 2, .assign (.tmp 15), none⟩] false).seq SC.ret))
theorem sl54 : slimK Try.f54.body s54 = some (unK s54, true) := by kernel_rfl
theorem ok54 : fnOK calmB Try.f54 0 = true := by kernel_rfl

def s55L0 : SC := ((SC.region 3 [⟨some 8, .binOp .lss 3 (.tmp 7) (.tmp 6) 3, none⟩] false).seq ((SC.cond (.tmp 8) SC.skip (SC.exit 0)).seq ((SC.block 1 ((SC.region 4 [⟨some 9, .move (.tmp 7), none⟩,
  ⟨some 4, .assign (.tmp 9), none⟩] false).seq (SC.region 5 [⟨some 10, .move (.tmp 3), none⟩,
  ⟨some 11, .binOp .mul 117 (.tmp 10) (.const (.int .u64 263)) 117, none⟩,
  ⟨some 12, .move (.tmp 0), none⟩,
  ⟨some 13, .move (.tmp 4), none⟩,
  ⟨some 14, .index 9 (.tmp 12) (.tmp 13), none⟩,
  ⟨some 15, .convert 5 117 (.tmp 14), none⟩,
  ⟨some 16, .binOp .add 117 (.tmp 11) (.tmp 15) 117, none⟩,
  ⟨some 17, .binOp .add 117 (.tmp 16) (.const (.int .u64 7)) 117, none⟩,
  ⟨some 18, .binOp .rem 117 (.tmp 17) (.const (.int .u64 4294967291)) 117, none⟩,
  ⟨some 3, .assign (.tmp 18), none⟩] false))).seq (SC.region 6 [⟨some 19, .binOp .add 3 (.tmp 7) (.const (.int .i64 1)) 3, none⟩,
  ⟨some 7, .move (.tmp 19), none⟩] false))))
/-- seal.Of -/
def s55 : SC := ((SC.region 0 [⟨some 2, .assign (.const (.int .u32 0)), none⟩] false).seq ((SC.region 1 [⟨some 3, .assign (.const (.int .u64 1)), none⟩] false).seq (((SC.region 2 [⟨some 5, .move (.tmp 0), none⟩,
  ⟨some 6, .call { callee := .builtin .len, args := #[.tmp 5], argTypes := #[9] }, none⟩,
  ⟨some 7, .move (.const (.int .i64 0)), none⟩] false).seq (SC.block 0 (SC.loop s55L0))).seq ((SC.region 7 [⟨some 20, .move (.tmp 3), none⟩,
  ⟨some 21, .convert 117 99 (.tmp 20), none⟩,
  ⟨some 2, .assign (.tmp 21), none⟩] false).seq SC.ret))))
theorem sl55 : slimK Try.f55.body s55 = some (unK s55, true) := by kernel_rfl
theorem ok55 : fnOK calmB Try.f55 0 = true := by kernel_rfl

def s60L0 : SC := ((SC.region 2 [⟨some 10, .binOp .lss 3 (.tmp 9) (.tmp 8) 3, none⟩] false).seq ((SC.cond (.tmp 10) SC.skip (SC.exit 0)).seq ((SC.block 1 ((SC.region 3 [⟨some 11, .move (.tmp 9), none⟩,
  ⟨some 5, .assign (.tmp 11), none⟩] false).seq ((SC.region 4 [⟨some 12, .move (.tmp 2), none⟩,
  ⟨some 13, .move (.tmp 0), none⟩,
  ⟨some 14, .move (.tmp 5), none⟩,
  ⟨some 15, .index 9 (.tmp 13) (.tmp 14), none⟩,
  ⟨some 16, .binOp .and 5 (.tmp 15) (.const (.int .u8 127)) 5, none⟩,
  ⟨some 17, .convert 5 3 (.tmp 16), none⟩,
  ⟨some 18, .move (.tmp 5), none⟩,
  ⟨some 19, .binOp .mul 3 (.const (.int .i64 7)) (.tmp 18) 3, none⟩,
  ⟨some 20, .binOp .shl 3 (.tmp 17) (.tmp 19) 3, none⟩,
  ⟨some 21, .binOp .or 3 (.tmp 12) (.tmp 20) 3, none⟩,
  ⟨some 2, .assign (.tmp 21), none⟩] false).seq (((SC.region 5 [⟨some 22, .move (.tmp 0), none⟩,
  ⟨some 23, .move (.tmp 5), none⟩,
  ⟨some 24, .index 9 (.tmp 22) (.tmp 23), none⟩,
  ⟨some 25, .binOp .geq 5 (.tmp 24) (.const (.int .u8 128)) 5, none⟩] false).seq (SC.cond (.tmp 25) (SC.exit 1) SC.skip)).seq (((SC.region 6 [⟨some 26, .move (.tmp 2), none⟩,
  ⟨some 27, .call { callee := .value (.func 75), args := #[.tmp 26], argTypes := #[3] }, none⟩,
  ⟨some 28, .unOp .not 4 (.tmp 27), none⟩,
  ⟨some 29, .move (.tmp 28), none⟩,
  ⟨some 30, .move (.tmp 5), some (some 29, false)⟩,
  ⟨some 31, .binOp .gtr 3 (.tmp 30) (.const (.int .i64 0)) 3, some (some 29, false)⟩,
  ⟨some 32, .move (.tmp 31), some (some 29, false)⟩,
  ⟨some 33, .move (.tmp 0), some (some 32, true)⟩,
  ⟨some 34, .move (.tmp 5), some (some 32, true)⟩,
  ⟨some 35, .index 9 (.tmp 33) (.tmp 34), some (some 32, true)⟩,
  ⟨some 36, .binOp .eql 5 (.tmp 35) (.const (.int .u8 0)) 5, some (some 32, true)⟩,
  ⟨some 37, .pick (.tmp 32) (.tmp 36) (.const (.bool false)), some (some 29, false)⟩,
  ⟨some 38, .pick (.tmp 29) (.const (.bool true)) (.tmp 37), none⟩] false).seq (SC.cond (.tmp 38) (SC.exit 0) SC.skip)).seq ((SC.region 7 [⟨some 39, .move (.tmp 2), none⟩,
  ⟨some 40, .move (.tmp 0), none⟩,
  ⟨some 41, .move (.tmp 5), none⟩,
  ⟨some 42, .binOp .add 3 (.tmp 41) (.const (.int .i64 1)) 3, none⟩,
  ⟨some 43, .slice 9 (.tmp 40) (some (.tmp 42)) none none, none⟩,
  ⟨some 2, .assign (.tmp 39), none⟩,
  ⟨some 3, .assign (.tmp 43), none⟩,
  ⟨some 4, .assign (.const (.int .i64 0)), none⟩] true).seq SC.ret)))))).seq (SC.region 8 [⟨some 44, .binOp .add 3 (.tmp 9) (.const (.int .i64 1)) 3, none⟩,
  ⟨some 9, .move (.tmp 44), none⟩] false))))
/-- number.Take -/
def s60 : SC := ((SC.region 0 [⟨some 2, .assign (.const (.int .i64 0)), none⟩,
  ⟨some 3, .assign (.const (.string { data := #[] })), none⟩,
  ⟨some 4, .assign (.const (.int .i64 0)), none⟩] false).seq (((SC.region 1 [⟨some 6, .move (.tmp 0), none⟩,
  ⟨some 7, .call { callee := .builtin .len, args := #[.tmp 6], argTypes := #[9] }, none⟩,
  ⟨some 8, .call { callee := .builtin .min, args := #[.tmp 7, .const (.int .i64 5)], argTypes := #[3, 3] }, none⟩,
  ⟨some 9, .move (.const (.int .i64 0)), none⟩] false).seq (SC.block 0 (SC.loop s60L0))).seq ((SC.region 9 [⟨some 2, .assign (.const (.int .i64 0)), none⟩,
  ⟨some 3, .assign (.const (.string { data := #[] })), none⟩,
  ⟨some 4, .assign (.const (.int .i64 7)), none⟩] false).seq SC.ret)))
theorem sl60 : slimK Try.f60.body s60 = some (unK s60, true) := by kernel_rfl
theorem ok60 : fnOK calmB Try.f60 0 = true := by kernel_rfl

/-- pack.TakeOp -/
def s61 : SC := ((SC.region 0 [⟨some 2, .alloc 45, none⟩,
  ⟨some 3, .assign (.const (.string { data := #[] })), none⟩,
  ⟨some 4, .assign (.const (.int .i64 0)), none⟩] false).seq ((SC.region 1 [⟨some 6, .move (.tmp 0), none⟩,
  ⟨some 7, .build 127 #[(0, .tmp 6)], none⟩,
  ⟨some 8, .box 127 (.tmp 7), none⟩,
  ⟨some 5, .assign (.tmp 8), none⟩] false).seq ((SC.region 2 [⟨some 9, .move (.tmp 5), none⟩,
  ⟨some 10, .call { callee := .value (.func 76), args := #[.tmp 9], argTypes := #[125] }, none⟩,
  ⟨none, .store 45 (.tmp 2) (.tmp 10), none⟩] false).seq (((SC.region 3 [⟨some 11, .move (.tmp 5), none⟩,
  ⟨some 12, .nilCheck (.tmp 11), none⟩,
  ⟨some 13, .fieldAddr 127 (.tmp 12) 1, none⟩,
  ⟨some 14, .load 4 (.tmp 13), none⟩] false).seq (SC.cond (.tmp 14) ((SC.region 4 [⟨some 15, .build 45 #[], none⟩,
  ⟨none, .store 45 (.tmp 2) (.tmp 15), none⟩,
  ⟨some 3, .assign (.const (.string { data := #[] })), none⟩,
  ⟨some 4, .assign (.const (.int .i64 7)), none⟩] false).seq SC.ret) SC.skip)).seq ((SC.regionK 5 [⟨some 16, .load 45 (.tmp 2), none⟩,
  ⟨some 17, .move (.tmp 5), none⟩,
  ⟨some 18, .nilCheck (.tmp 17), none⟩,
  ⟨some 19, .fieldAddr 127 (.tmp 18) 0, none⟩,
  ⟨some 20, .load 9 (.tmp 19), none⟩,
  ⟨none, .store 45 (.tmp 2) (.tmp 16), none⟩,
  ⟨some 3, .assign (.tmp 20), none⟩,
  ⟨some 4, .assign (.const (.int .i64 0)), none⟩] [5] [(5, 2), (5, 3), (5, 4)]).seq SC.ret)))))
theorem sl61 : slimK Try.f61.body s61 = some (unK s61, true) := by kernel_rfl
theorem ok61 : fnOK calmB Try.f61 0 = true := by kernel_rfl

def s66L0 : SC := ((SC.region 4 [⟨some 14, .binOp .lss 3 (.tmp 13) (.tmp 12) 3, none⟩] false).seq ((SC.cond (.tmp 14) SC.skip (SC.exit 0)).seq ((SC.block 1 ((SC.region 5 [⟨some 15, .move (.tmp 13), none⟩,
  ⟨some 5, .assign (.tmp 15), none⟩] false).seq ((SC.region 6 [⟨some 16, .move (.tmp 0), none⟩,
  ⟨some 17, .move (.tmp 5), none⟩,
  ⟨some 18, .indexAddr 23 (.tmp 16) (.tmp 17), none⟩,
  ⟨some 19, .load 43 (.tmp 18), none⟩,
  ⟨some 20, .move (.tmp 1), none⟩,
  ⟨some 21, .move (.tmp 5), none⟩,
  ⟨some 22, .indexAddr 23 (.tmp 20) (.tmp 21), none⟩,
  ⟨some 23, .load 43 (.tmp 22), none⟩,
  ⟨some 24, .binOp .neq 43 (.tmp 19) (.tmp 23) 43, none⟩] true).seq (SC.cond (.tmp 24) ((SC.region 7 [⟨some 4, .assign (.const (.bool false)), none⟩] false).seq SC.ret) SC.skip)))).seq (SC.region 8 [⟨some 25, .binOp .add 3 (.tmp 13) (.const (.int .i64 1)) 3, none⟩,
  ⟨some 13, .move (.tmp 25), none⟩] false))))
/-- slices.Equal[[]api.Elem,api.Elem] -/
def s66 : SC := ((SC.region 0 [⟨some 4, .assign (.const (.bool false)), none⟩] false).seq (((SC.region 1 [⟨some 6, .move (.tmp 0), none⟩,
  ⟨some 7, .call { callee := .builtin .len, args := #[.tmp 6], argTypes := #[23] }, none⟩,
  ⟨some 8, .move (.tmp 1), none⟩,
  ⟨some 9, .call { callee := .builtin .len, args := #[.tmp 8], argTypes := #[23] }, none⟩,
  ⟨some 10, .binOp .neq 3 (.tmp 7) (.tmp 9) 3, none⟩] false).seq (SC.cond (.tmp 10) ((SC.region 2 [⟨some 4, .assign (.const (.bool false)), none⟩] false).seq SC.ret) SC.skip)).seq (((SC.region 3 [⟨some 11, .move (.tmp 0), none⟩,
  ⟨some 12, .call { callee := .builtin .len, args := #[.tmp 11], argTypes := #[23] }, none⟩,
  ⟨some 13, .move (.const (.int .i64 0)), none⟩] false).seq (SC.block 0 (SC.loop s66L0))).seq ((SC.region 9 [⟨some 4, .assign (.const (.bool true)), none⟩] false).seq SC.ret))))
theorem sl66 : slimK Try.f66.body s66 = some (unK s66, true) := by kernel_rfl
theorem ok66 : fnOK calmB Try.f66 0 = true := by kernel_rfl

/-- op.IsSite -/
def s67 : SC := ((SC.region 0 [⟨some 2, .assign (.const (.bool false)), none⟩] false).seq ((SC.region 1 [⟨some 3, .move (.tmp 0), none⟩,
  ⟨some 4, .binOp .geq 3 (.tmp 3) (.const (.int .i64 1)) 3, none⟩,
  ⟨some 5, .move (.tmp 4), none⟩,
  ⟨some 6, .move (.tmp 0), some (some 5, true)⟩,
  ⟨some 7, .binOp .leq 3 (.tmp 6) (.const (.int .i64 8)) 3, some (some 5, true)⟩,
  ⟨some 8, .pick (.tmp 5) (.tmp 7) (.const (.bool false)), none⟩,
  ⟨some 2, .assign (.tmp 8), none⟩] false).seq SC.ret))
theorem sl67 : slimK Try.f67.body s67 = some (unK s67, true) := by kernel_rfl
theorem ok67 : fnOK calmB Try.f67 0 = true := by kernel_rfl

/-- op.IsElem -/
def s68 : SC := ((SC.region 0 [⟨some 1, .box 43 (.tmp 0), none⟩,
  ⟨some 2, .assign (.const (.bool false)), none⟩] false).seq ((SC.region 1 [⟨some 3, .load 43 (.tmp 1), none⟩,
  ⟨some 4, .build 43 #[], none⟩,
  ⟨some 5, .binOp .eql 43 (.tmp 3) (.tmp 4) 43, none⟩,
  ⟨some 6, .move (.tmp 5), none⟩,
  ⟨some 7, .fieldAddr 43 (.tmp 1) 0, some (some 6, false)⟩,
  ⟨some 8, .load 3 (.tmp 7), some (some 6, false)⟩,
  ⟨some 9, .fieldAddr 43 (.tmp 1) 1, some (some 6, false)⟩,
  ⟨some 10, .load 3 (.tmp 9), some (some 6, false)⟩,
  ⟨some 11, .call { callee := .value (.func 48), args := #[.tmp 8, .tmp 10], argTypes := #[3, 3] }, some (some 6, false)⟩,
  ⟨some 12, .move (.tmp 11), some (some 6, false)⟩,
  ⟨some 13, .fieldAddr 43 (.tmp 1) 2, some (some 12, true)⟩,
  ⟨some 14, .load 3 (.tmp 13), some (some 12, true)⟩,
  ⟨some 15, .binOp .geq 3 (.tmp 14) (.const (.int .i64 0)) 3, some (some 12, true)⟩,
  ⟨some 16, .pick (.tmp 12) (.tmp 15) (.const (.bool false)), some (some 6, false)⟩,
  ⟨some 17, .move (.tmp 16), some (some 6, false)⟩,
  ⟨some 18, .fieldAddr 43 (.tmp 1) 2, some (some 17, true)⟩,
  ⟨some 19, .load 3 (.tmp 18), some (some 17, true)⟩,
  ⟨some 20, .binOp .lss 3 (.tmp 19) (.const (.int .i64 12)) 3, some (some 17, true)⟩,
  ⟨some 21, .pick (.tmp 17) (.tmp 20) (.const (.bool false)), some (some 6, false)⟩,
  ⟨some 22, .pick (.tmp 6) (.const (.bool true)) (.tmp 21), none⟩,
  ⟨some 2, .assign (.tmp 22), none⟩] false).seq SC.ret))
theorem sl68 : slimK Try.f68.body s68 = some (unK s68, true) := by kernel_rfl
theorem ok68 : fnOK calmB Try.f68 0 = true := by kernel_rfl

/-- op.own -/
def s69 : SC := ((SC.region 0 [⟨some 2, .box 45 (.tmp 0), none⟩,
  ⟨some 3, .box 43 (.tmp 1), none⟩,
  ⟨some 4, .assign (.const (.bool false)), none⟩] false).seq ((SC.region 1 [⟨some 5, .fieldAddr 43 (.tmp 3) 0, none⟩,
  ⟨some 6, .load 3 (.tmp 5), none⟩,
  ⟨some 7, .fieldAddr 45 (.tmp 2) 0, none⟩,
  ⟨some 8, .load 3 (.tmp 7), none⟩,
  ⟨some 9, .binOp .eql 3 (.tmp 6) (.tmp 8) 3, none⟩,
  ⟨some 10, .move (.tmp 9), none⟩,
  ⟨some 11, .fieldAddr 43 (.tmp 3) 1, some (some 10, true)⟩,
  ⟨some 12, .load 3 (.tmp 11), some (some 10, true)⟩,
  ⟨some 13, .fieldAddr 45 (.tmp 2) 1, some (some 10, true)⟩,
  ⟨some 14, .load 3 (.tmp 13), some (some 10, true)⟩,
  ⟨some 15, .binOp .eql 3 (.tmp 12) (.tmp 14) 3, some (some 10, true)⟩,
  ⟨some 16, .pick (.tmp 10) (.tmp 15) (.const (.bool false)), none⟩,
  ⟨some 4, .assign (.tmp 16), none⟩] false).seq SC.ret))
theorem sl69 : slimK Try.f69.body s69 = some (unK s69, true) := by kernel_rfl
theorem ok69 : fnOK calmB Try.f69 0 = true := by kernel_rfl

/-- text.May -/
def s70 : SC := ((SC.region 0 [⟨some 2, .assign (.const (.bool false)), none⟩] false).seq ((SC.region 1 [⟨some 3, .move (.tmp 0), none⟩,
  ⟨some 4, .call { callee := .value (.func 77), args := #[.tmp 3, .func 78], argTypes := #[9, 130] }, none⟩,
  ⟨some 5, .unOp .not 4 (.tmp 4), none⟩,
  ⟨some 2, .assign (.tmp 5), none⟩] false).seq SC.ret))
theorem sl70 : slimK Try.f70.body s70 = some (unK s70, true) := by kernel_rfl
theorem ok70 : fnOK calmB Try.f70 0 = true := by kernel_rfl

/-- op.Size -/
def s71 : SC := ((SC.region 0 [⟨some 1, .box 45 (.tmp 0), none⟩,
  ⟨some 2, .assign (.const (.int .i64 0)), none⟩] false).seq ((SC.region 1 [⟨some 3, .fieldAddr 45 (.tmp 1) 4, none⟩,
  ⟨some 4, .load 9 (.tmp 3), none⟩,
  ⟨some 5, .call { callee := .value (.func 79), args := #[.tmp 4], argTypes := #[9] }, none⟩,
  ⟨some 2, .assign (.tmp 5), none⟩] false).seq SC.ret))
theorem sl71 : slimK Try.f71.body s71 = some (unK s71, true) := by kernel_rfl
theorem ok71 : fnOK calmB Try.f71 0 = true := by kernel_rfl

def s72L0 : SC := ((SC.region 2 [⟨some 9, .binOp .lss 3 (.tmp 8) (.tmp 7) 3, none⟩] false).seq ((SC.cond (.tmp 9) SC.skip (SC.exit 0)).seq ((SC.block 1 ((SC.region 3 [⟨some 10, .move (.tmp 8), none⟩,
  ⟨some 11, .indexAddr 23 (.tmp 6) (.tmp 8), none⟩,
  ⟨some 12, .load 43 (.tmp 11), none⟩,
  ⟨some 4, .alloc 43, none⟩,
  ⟨some 3, .assign (.tmp 10), none⟩,
  ⟨none, .store 43 (.tmp 4) (.tmp 12), none⟩] false).seq ((SC.region 4 [⟨some 13, .load 43 (.tmp 4), none⟩,
  ⟨some 14, .build 43 #[], none⟩,
  ⟨some 15, .binOp .eql 43 (.tmp 13) (.tmp 14) 43, none⟩,
  ⟨some 16, .move (.tmp 15), none⟩,
  ⟨some 17, .load 43 (.tmp 4), some (some 16, false)⟩,
  ⟨some 18, .call { callee := .value (.func 68), args := #[.tmp 17], argTypes := #[43] }, some (some 16, false)⟩,
  ⟨some 19, .unOp .not 4 (.tmp 18), some (some 16, false)⟩,
  ⟨some 20, .pick (.tmp 16) (.const (.bool true)) (.tmp 19), none⟩,
  ⟨some 21, .move (.tmp 20), none⟩,
  ⟨some 22, .load 45 (.tmp 1), some (some 21, false)⟩,
  ⟨some 23, .load 43 (.tmp 4), some (some 21, false)⟩,
  ⟨some 24, .call { callee := .value (.func 69), args := #[.tmp 22, .tmp 23], argTypes := #[45, 43] }, some (some 21, false)⟩,
  ⟨some 25, .pick (.tmp 21) (.const (.bool true)) (.tmp 24), none⟩,
  ⟨some 26, .move (.tmp 25), none⟩,
  ⟨some 27, .move (.tmp 3), some (some 26, false)⟩,
  ⟨some 28, .binOp .gtr 3 (.tmp 27) (.const (.int .i64 0)) 3, some (some 26, false)⟩,
  ⟨some 29, .move (.tmp 28), some (some 26, false)⟩,
  ⟨some 30, .fieldAddr 45 (.tmp 1) 5, some (some 29, true)⟩,
  ⟨some 31, .load 23 (.tmp 30), some (some 29, true)⟩,
  ⟨some 32, .move (.tmp 3), some (some 29, true)⟩,
  ⟨some 33, .binOp .sub 3 (.tmp 32) (.const (.int .i64 1)) 3, some (some 29, true)⟩,
  ⟨some 34, .indexAddr 23 (.tmp 31) (.tmp 33), some (some 29, true)⟩,
  ⟨some 35, .load 43 (.tmp 34), some (some 29, true)⟩,
  ⟨some 36, .load 43 (.tmp 4), some (some 29, true)⟩,
  ⟨some 37, .call { callee := .value (.func 80), args := #[.tmp 35, .tmp 36], argTypes := #[43, 43] }, some (some 29, true)⟩,
  ⟨some 38, .unOp .not 4 (.tmp 37), some (some 29, true)⟩,
  ⟨some 39, .pick (.tmp 29) (.tmp 38) (.const (.bool false)), some (some 26, false)⟩,
  ⟨some 40, .pick (.tmp 26) (.const (.bool true)) (.tmp 39), none⟩] true).seq (SC.cond (.tmp 40) ((SC.region 5 [⟨some 2, .assign (.const (.bool false)), none⟩] false).seq SC.ret) SC.skip)))).seq (SC.region 6 [⟨some 41, .binOp .add 3 (.tmp 8) (.const (.int .i64 1)) 3, none⟩,
  ⟨some 8, .move (.tmp 41), none⟩] false))))
/-- op.gone -/
def s72 : SC := ((SC.region 0 [⟨some 1, .box 45 (.tmp 0), none⟩,
  ⟨some 2, .assign (.const (.bool false)), none⟩] false).seq (((SC.region 1 [⟨some 5, .fieldAddr 45 (.tmp 1) 5, none⟩,
  ⟨some 6, .load 23 (.tmp 5), none⟩,
  ⟨some 7, .call { callee := .builtin .len, args := #[.tmp 6], argTypes := #[23] }, none⟩,
  ⟨some 8, .move (.const (.int .i64 0)), none⟩] false).seq (SC.block 0 (SC.loop s72L0))).seq ((SC.region 7 [⟨some 42, .fieldAddr 45 (.tmp 1) 5, none⟩,
  ⟨some 43, .load 23 (.tmp 42), none⟩,
  ⟨some 44, .call { callee := .builtin .len, args := #[.tmp 43], argTypes := #[23] }, none⟩,
  ⟨some 45, .binOp .leq 3 (.tmp 44) (.const (.int .i64 200)) 3, none⟩,
  ⟨some 2, .assign (.tmp 45), none⟩] false).seq SC.ret)))
theorem sl72 : slimK Try.f72.body s72 = some (unK s72, true) := by kernel_rfl
theorem ok72 : fnOK calmB Try.f72 0 = true := by kernel_rfl

/-- number.Is -/
def s75 : SC := ((SC.region 0 [⟨some 2, .assign (.const (.bool false)), none⟩] false).seq ((SC.region 1 [⟨some 3, .move (.tmp 0), none⟩,
  ⟨some 4, .binOp .geq 3 (.tmp 3) (.const (.int .i64 0)) 3, none⟩,
  ⟨some 5, .move (.tmp 4), none⟩,
  ⟨some 6, .move (.tmp 0), some (some 5, true)⟩,
  ⟨some 7, .binOp .leq 3 (.tmp 6) (.const (.int .i64 268435456)) 3, some (some 5, true)⟩,
  ⟨some 8, .pick (.tmp 5) (.tmp 7) (.const (.bool false)), none⟩,
  ⟨some 2, .assign (.tmp 8), none⟩] false).seq SC.ret))
theorem sl75 : slimK Try.f75.body s75 = some (unK s75, true) := by kernel_rfl
theorem ok75 : fnOK calmB Try.f75 0 = true := by kernel_rfl

def s76L0 : SC := ((SC.region 7 [⟨some 35, .binOp .lss 3 (.tmp 34) (.tmp 33) 3, none⟩] false).seq ((SC.cond (.tmp 35) SC.skip (SC.exit 0)).seq ((SC.block 1 (SC.regionK 8 [⟨some 36, .fieldAddr 45 (.tmp 3) 5, none⟩,
  ⟨some 37, .load 23 (.tmp 36), none⟩,
  ⟨some 38, .move (.tmp 0), none⟩,
  ⟨some 39, .call { callee := .value (.func 84), args := #[.tmp 38], argTypes := #[125] }, none⟩,
  ⟨some 40, .buildSlice 23 1 #[(0, .tmp 39)], none⟩,
  ⟨some 41, .call { callee := .builtin .append, args := #[.tmp 37, .tmp 40], argTypes := #[23, 23] }, none⟩,
  ⟨some 42, .fieldAddr 45 (.tmp 3) 5, none⟩,
  ⟨none, .store 23 (.tmp 42) (.tmp 41), none⟩] [3] [(3, 0), (3, 1)])).seq (SC.region 9 [⟨some 43, .binOp .add 3 (.tmp 34) (.const (.int .i64 1)) 3, none⟩,
  ⟨some 34, .move (.tmp 43), none⟩] false))))
/-- (*pack.reader).op -/
def s76 : SC := ((SC.region 0 [⟨some 2, .alloc 45, none⟩] false).seq ((SC.region 1 [⟨some 5, .move (.tmp 0), none⟩,
  ⟨some 6, .call { callee := .value (.func 83), args := #[.tmp 5], argTypes := #[125] }, none⟩,
  ⟨some 7, .move (.tmp 0), none⟩,
  ⟨some 8, .call { callee := .value (.func 83), args := #[.tmp 7], argTypes := #[125] }, none⟩,
  ⟨some 9, .move (.tmp 0), none⟩,
  ⟨some 10, .call { callee := .value (.func 83), args := #[.tmp 9], argTypes := #[125] }, none⟩,
  ⟨some 11, .build 45 #[(0, .tmp 6), (1, .tmp 8), (2, .tmp 10)], none⟩,
  ⟨some 3, .alloc 45, none⟩,
  ⟨none, .store 45 (.tmp 3) (.tmp 11), none⟩] false).seq (((SC.region 2 [⟨some 12, .fieldAddr 45 (.tmp 3) 2, none⟩,
  ⟨some 13, .load 3 (.tmp 12), none⟩,
  ⟨some 14, .binOp .eql 3 (.tmp 13) (.const (.int .i64 2)) 3, none⟩] false).seq (SC.cond (.tmp 14) (SC.region 3 [⟨some 15, .move (.tmp 0), none⟩,
  ⟨some 16, .call { callee := .value (.func 83), args := #[.tmp 15], argTypes := #[125] }, none⟩,
  ⟨some 17, .move (.tmp 0), none⟩,
  ⟨some 18, .call { callee := .value (.func 83), args := #[.tmp 17], argTypes := #[125] }, none⟩,
  ⟨some 19, .move (.tmp 0), none⟩,
  ⟨some 20, .call { callee := .value (.func 83), args := #[.tmp 19], argTypes := #[125] }, none⟩,
  ⟨some 21, .fieldAddr 45 (.tmp 3) 6, none⟩,
  ⟨none, .store 3 (.tmp 21) (.tmp 16), none⟩,
  ⟨some 22, .fieldAddr 45 (.tmp 3) 7, none⟩,
  ⟨none, .store 3 (.tmp 22) (.tmp 18), none⟩,
  ⟨some 23, .fieldAddr 45 (.tmp 3) 8, none⟩,
  ⟨none, .store 3 (.tmp 23) (.tmp 20), none⟩] false) ((SC.region 4 [⟨some 24, .move (.tmp 0), none⟩,
  ⟨some 25, .call { callee := .value (.func 84), args := #[.tmp 24], argTypes := #[125] }, none⟩,
  ⟨some 26, .move (.tmp 0), none⟩,
  ⟨some 27, .call { callee := .value (.func 85), args := #[.tmp 26], argTypes := #[125] }, none⟩,
  ⟨some 28, .fieldAddr 45 (.tmp 3) 3, none⟩,
  ⟨none, .store 43 (.tmp 28) (.tmp 25), none⟩,
  ⟨some 29, .fieldAddr 45 (.tmp 3) 4, none⟩,
  ⟨none, .store 9 (.tmp 29) (.tmp 27), none⟩] false).seq ((SC.region 5 [⟨some 30, .move (.tmp 0), none⟩,
  ⟨some 31, .call { callee := .value (.func 83), args := #[.tmp 30], argTypes := #[125] }, none⟩,
  ⟨some 4, .assign (.tmp 31), none⟩] false).seq (((SC.region 6 [⟨some 32, .move (.tmp 4), none⟩,
  ⟨some 33, .call { callee := .builtin .min, args := #[.tmp 32, .const (.int .i64 200)], argTypes := #[3, 3] }, none⟩,
  ⟨some 34, .move (.const (.int .i64 0)), none⟩] false).seq (SC.block 0 (SC.loop s76L0))).seq (SC.region 10 [⟨some 44, .move (.tmp 0), none⟩,
  ⟨some 45, .move (.tmp 0), none⟩,
  ⟨some 46, .nilCheck (.tmp 45), none⟩,
  ⟨some 47, .fieldAddr 127 (.tmp 46) 1, none⟩,
  ⟨some 48, .load 4 (.tmp 47), none⟩,
  ⟨some 49, .move (.tmp 48), none⟩,
  ⟨some 50, .move (.tmp 4), some (some 49, false)⟩,
  ⟨some 51, .binOp .gtr 3 (.tmp 50) (.const (.int .i64 200)) 3, some (some 49, false)⟩,
  ⟨some 52, .pick (.tmp 49) (.const (.bool true)) (.tmp 51), none⟩,
  ⟨some 53, .nilCheck (.tmp 44), none⟩,
  ⟨some 54, .fieldAddr 127 (.tmp 53) 1, none⟩,
  ⟨none, .store 4 (.tmp 54) (.tmp 52), none⟩] false)))))).seq ((SC.region 11 [⟨some 55, .move (.tmp 0), none⟩,
  ⟨some 56, .move (.tmp 0), none⟩,
  ⟨some 57, .nilCheck (.tmp 56), none⟩,
  ⟨some 58, .fieldAddr 127 (.tmp 57) 1, none⟩,
  ⟨some 59, .load 4 (.tmp 58), none⟩,
  ⟨some 60, .move (.tmp 59), none⟩,
  ⟨some 61, .load 45 (.tmp 3), some (some 60, false)⟩,
  ⟨some 62, .call { callee := .value (.func 32), args := #[.tmp 61], argTypes := #[45] }, some (some 60, false)⟩,
  ⟨some 63, .unOp .not 4 (.tmp 62), some (some 60, false)⟩,
  ⟨some 64, .pick (.tmp 60) (.const (.bool true)) (.tmp 63), none⟩,
  ⟨some 65, .nilCheck (.tmp 55), none⟩,
  ⟨some 66, .fieldAddr 127 (.tmp 65) 1, none⟩,
  ⟨none, .store 4 (.tmp 66) (.tmp 64), none⟩] false).seq ((SC.region 12 [⟨some 67, .load 45 (.tmp 3), none⟩,
  ⟨none, .store 45 (.tmp 2) (.tmp 67), none⟩] false).seq SC.ret)))))
theorem sl76 : slimK Try.f76.body s76 = some (unK s76, true) := by kernel_rfl
theorem ok76 : fnOK calmB Try.f76 0 = true := by kernel_rfl

/-- text.bad -/
def s78 : SC := ((SC.region 0 [⟨some 2, .assign (.const (.bool false)), none⟩] false).seq ((SC.region 1 [⟨some 3, .move (.tmp 0), none⟩,
  ⟨some 4, .call { callee := .value (.func 87), args := #[.tmp 3], argTypes := #[21] }, none⟩,
  ⟨some 5, .unOp .not 4 (.tmp 4), none⟩,
  ⟨some 2, .assign (.tmp 5), none⟩] false).seq SC.ret))
theorem sl78 : slimK Try.f78.body s78 = some (unK s78, true) := by kernel_rfl
theorem ok78 : fnOK calmB Try.f78 0 = true := by kernel_rfl

/-- op.Less -/
def s80 : SC := ((SC.region 0 [⟨some 2, .box 43 (.tmp 0), none⟩,
  ⟨some 3, .box 43 (.tmp 1), none⟩,
  ⟨some 4, .assign (.const (.bool false)), none⟩] false).seq ((SC.region 1 [⟨some 5, .load 43 (.tmp 2), none⟩,
  ⟨some 6, .load 43 (.tmp 3), none⟩,
  ⟨some 7, .call { callee := .value (.func 88), args := #[.tmp 5, .tmp 6], argTypes := #[43, 43] }, none⟩,
  ⟨some 8, .binOp .lss 3 (.tmp 7) (.const (.int .i64 0)) 3, none⟩,
  ⟨some 4, .assign (.tmp 8), none⟩] false).seq SC.ret))
theorem sl80 : slimK Try.f80.body s80 = some (unK s80, true) := by kernel_rfl
theorem ok80 : fnOK calmB Try.f80 0 = true := by kernel_rfl

/-- (*pack.reader).number -/
def s83 : SC := ((SC.region 0 [⟨some 2, .assign (.const (.int .i64 0)), none⟩] false).seq ((SC.region 1 [⟨some 7, .move (.tmp 0), none⟩,
  ⟨some 8, .nilCheck (.tmp 7), none⟩,
  ⟨some 9, .fieldAddr 127 (.tmp 8) 0, none⟩,
  ⟨some 10, .load 9 (.tmp 9), none⟩,
  ⟨some 11, .call { callee := .value (.func 60), args := #[.tmp 10], argTypes := #[9] }, none⟩,
  ⟨some 6, .move (.tmp 11), none⟩,
  ⟨some 12, .extract (.tmp 6) 0, none⟩,
  ⟨some 13, .extract (.tmp 6) 1, none⟩,
  ⟨some 14, .extract (.tmp 6) 2, none⟩,
  ⟨some 3, .assign (.tmp 12), none⟩,
  ⟨some 4, .assign (.tmp 13), none⟩,
  ⟨some 5, .assign (.tmp 14), none⟩] false).seq ((SC.region 2 [⟨some 15, .move (.tmp 0), none⟩,
  ⟨some 16, .move (.tmp 0), none⟩,
  ⟨some 17, .nilCheck (.tmp 16), none⟩,
  ⟨some 18, .fieldAddr 127 (.tmp 17) 1, none⟩,
  ⟨some 19, .load 4 (.tmp 18), none⟩,
  ⟨some 20, .move (.tmp 19), none⟩,
  ⟨some 21, .move (.tmp 5), some (some 20, false)⟩,
  ⟨some 22, .binOp .neq 39 (.tmp 21) (.const (.int .i64 0)) 39, some (some 20, false)⟩,
  ⟨some 23, .pick (.tmp 20) (.const (.bool true)) (.tmp 22), none⟩,
  ⟨some 24, .nilCheck (.tmp 15), none⟩,
  ⟨some 25, .fieldAddr 127 (.tmp 24) 1, none⟩,
  ⟨none, .store 4 (.tmp 25) (.tmp 23), none⟩] false).seq ((SC.region 3 [⟨some 26, .move (.tmp 0), none⟩,
  ⟨some 27, .move (.tmp 4), none⟩,
  ⟨some 28, .nilCheck (.tmp 26), none⟩,
  ⟨some 29, .fieldAddr 127 (.tmp 28) 0, none⟩,
  ⟨none, .store 9 (.tmp 29) (.tmp 27), none⟩] false).seq ((SC.region 4 [⟨some 30, .move (.tmp 3), none⟩,
  ⟨some 2, .assign (.tmp 30), none⟩] false).seq SC.ret)))))
theorem sl83 : slimK Try.f83.body s83 = some (unK s83, true) := by kernel_rfl
theorem ok83 : fnOK calmB Try.f83 0 = true := by kernel_rfl

/-- (*pack.reader).elem -/
def s84 : SC := ((SC.region 0 [⟨some 2, .alloc 43, none⟩] false).seq ((SC.region 1 [⟨some 3, .move (.tmp 0), none⟩,
  ⟨some 4, .call { callee := .value (.func 83), args := #[.tmp 3], argTypes := #[125] }, none⟩,
  ⟨some 5, .move (.tmp 0), none⟩,
  ⟨some 6, .call { callee := .value (.func 83), args := #[.tmp 5], argTypes := #[125] }, none⟩,
  ⟨some 7, .move (.tmp 0), none⟩,
  ⟨some 8, .call { callee := .value (.func 83), args := #[.tmp 7], argTypes := #[125] }, none⟩,
  ⟨some 9, .build 43 #[(0, .tmp 4), (1, .tmp 6), (2, .tmp 8)], none⟩,
  ⟨none, .store 43 (.tmp 2) (.tmp 9), none⟩] false).seq SC.ret))
theorem sl84 : slimK Try.f84.body s84 = some (unK s84, true) := by kernel_rfl
theorem ok84 : fnOK calmB Try.f84 0 = true := by kernel_rfl

/-- (*pack.reader).text -/
def s85 : SC := ((SC.region 0 [⟨some 2, .assign (.const (.string { data := #[] })), none⟩] false).seq ((SC.region 1 [⟨some 7, .move (.tmp 0), none⟩,
  ⟨some 8, .nilCheck (.tmp 7), none⟩,
  ⟨some 9, .fieldAddr 127 (.tmp 8) 0, none⟩,
  ⟨some 10, .load 9 (.tmp 9), none⟩,
  ⟨some 11, .call { callee := .value (.func 89), args := #[.tmp 10], argTypes := #[9] }, none⟩,
  ⟨some 6, .move (.tmp 11), none⟩,
  ⟨some 12, .extract (.tmp 6) 0, none⟩,
  ⟨some 13, .extract (.tmp 6) 1, none⟩,
  ⟨some 14, .extract (.tmp 6) 2, none⟩,
  ⟨some 3, .assign (.tmp 12), none⟩,
  ⟨some 4, .assign (.tmp 13), none⟩,
  ⟨some 5, .assign (.tmp 14), none⟩] false).seq ((SC.region 2 [⟨some 15, .move (.tmp 0), none⟩,
  ⟨some 16, .move (.tmp 0), none⟩,
  ⟨some 17, .nilCheck (.tmp 16), none⟩,
  ⟨some 18, .fieldAddr 127 (.tmp 17) 1, none⟩,
  ⟨some 19, .load 4 (.tmp 18), none⟩,
  ⟨some 20, .move (.tmp 19), none⟩,
  ⟨some 21, .move (.tmp 5), some (some 20, false)⟩,
  ⟨some 22, .binOp .neq 39 (.tmp 21) (.const (.int .i64 0)) 39, some (some 20, false)⟩,
  ⟨some 23, .pick (.tmp 20) (.const (.bool true)) (.tmp 22), none⟩,
  ⟨some 24, .nilCheck (.tmp 15), none⟩,
  ⟨some 25, .fieldAddr 127 (.tmp 24) 1, none⟩,
  ⟨none, .store 4 (.tmp 25) (.tmp 23), none⟩] false).seq ((SC.region 3 [⟨some 26, .move (.tmp 0), none⟩,
  ⟨some 27, .move (.tmp 4), none⟩,
  ⟨some 28, .nilCheck (.tmp 26), none⟩,
  ⟨some 29, .fieldAddr 127 (.tmp 28) 0, none⟩,
  ⟨none, .store 9 (.tmp 29) (.tmp 27), none⟩] false).seq ((SC.region 4 [⟨some 30, .move (.tmp 3), none⟩,
  ⟨some 2, .assign (.tmp 30), none⟩] false).seq SC.ret)))))
theorem sl85 : slimK Try.f85.body s85 = some (unK s85, true) := by kernel_rfl
theorem ok85 : fnOK calmB Try.f85 0 = true := by kernel_rfl

/-- text.Is -/
def s87 : SC := ((SC.region 0 [⟨some 2, .assign (.const (.bool false)), none⟩] false).seq ((SC.block 0 ((SC.region 1 [⟨some 4, .move (.tmp 0), none⟩,
  ⟨some 5, .binOp .eql 21 (.tmp 4) (.const (.int .i32 10)) 21, none⟩,
  ⟨some 3, .assign (.tmp 5), none⟩] false).seq (SC.cond (.tmp 3) ((SC.region 2 [⟨some 2, .assign (.const (.bool true)), none⟩] false).seq SC.ret) ((SC.region 3 [⟨some 7, .move (.tmp 0), none⟩,
  ⟨some 8, .binOp .lss 21 (.tmp 7) (.const (.int .i32 32)) 21, none⟩,
  ⟨some 9, .move (.tmp 8), none⟩,
  ⟨some 10, .move (.tmp 0), some (some 9, false)⟩,
  ⟨some 11, .binOp .gtr 21 (.tmp 10) (.const (.int .i32 1114111)) 21, some (some 9, false)⟩,
  ⟨some 12, .pick (.tmp 9) (.const (.bool true)) (.tmp 11), none⟩,
  ⟨some 13, .move (.tmp 12), none⟩,
  ⟨some 14, .move (.tmp 0), some (some 13, false)⟩,
  ⟨some 15, .binOp .eql 21 (.tmp 14) (.const (.int .i32 127)) 21, some (some 13, false)⟩,
  ⟨some 16, .pick (.tmp 13) (.const (.bool true)) (.tmp 15), none⟩,
  ⟨some 17, .move (.tmp 16), none⟩,
  ⟨some 18, .move (.tmp 0), some (some 17, false)⟩,
  ⟨some 19, .binOp .eql 21 (.tmp 18) (.const (.int .i32 65533)) 21, some (some 17, false)⟩,
  ⟨some 20, .pick (.tmp 17) (.const (.bool true)) (.tmp 19), none⟩,
  ⟨some 6, .assign (.tmp 20), none⟩] false).seq (SC.cond (.tmp 6) ((SC.region 4 [⟨some 2, .assign (.const (.bool false)), none⟩] false).seq SC.ret) SC.skip))))).seq ((SC.region 5 [⟨some 21, .move (.tmp 0), none⟩,
  ⟨some 22, .binOp .leq 21 (.tmp 21) (.const (.int .i32 55295)) 21, none⟩,
  ⟨some 23, .move (.tmp 22), none⟩,
  ⟨some 24, .move (.tmp 0), some (some 23, false)⟩,
  ⟨some 25, .binOp .geq 21 (.tmp 24) (.const (.int .i32 57344)) 21, some (some 23, false)⟩,
  ⟨some 26, .pick (.tmp 23) (.const (.bool true)) (.tmp 25), none⟩,
  ⟨some 2, .assign (.tmp 26), none⟩] false).seq SC.ret)))
theorem sl87 : slimK Try.f87.body s87 = some (unK s87, true) := by kernel_rfl
theorem ok87 : fnOK calmB Try.f87 0 = true := by kernel_rfl

/-- op.Compare -/
def s88 : SC := ((SC.region 0 [⟨some 2, .box 43 (.tmp 0), none⟩,
  ⟨some 3, .box 43 (.tmp 1), none⟩,
  ⟨some 4, .assign (.const (.int .i64 0)), none⟩] false).seq ((SC.region 1 [⟨some 5, .fieldAddr 43 (.tmp 2) 0, none⟩,
  ⟨some 6, .load 3 (.tmp 5), none⟩,
  ⟨some 7, .fieldAddr 43 (.tmp 3) 0, none⟩,
  ⟨some 8, .load 3 (.tmp 7), none⟩,
  ⟨some 9, .call { callee := .value (.func 92), args := #[.tmp 6, .tmp 8], argTypes := #[3, 3] }, none⟩,
  ⟨some 10, .fieldAddr 43 (.tmp 2) 1, none⟩,
  ⟨some 11, .load 3 (.tmp 10), none⟩,
  ⟨some 12, .fieldAddr 43 (.tmp 3) 1, none⟩,
  ⟨some 13, .load 3 (.tmp 12), none⟩,
  ⟨some 14, .call { callee := .value (.func 92), args := #[.tmp 11, .tmp 13], argTypes := #[3, 3] }, none⟩,
  ⟨some 15, .fieldAddr 43 (.tmp 2) 2, none⟩,
  ⟨some 16, .load 3 (.tmp 15), none⟩,
  ⟨some 17, .fieldAddr 43 (.tmp 3) 2, none⟩,
  ⟨some 18, .load 3 (.tmp 17), none⟩,
  ⟨some 19, .call { callee := .value (.func 92), args := #[.tmp 16, .tmp 18], argTypes := #[3, 3] }, none⟩,
  ⟨some 20, .buildSlice 24 3 #[(0, .tmp 9), (1, .tmp 14), (2, .tmp 19)], none⟩,
  ⟨some 21, .call { callee := .value (.func 91), args := #[.tmp 20], argTypes := #[24] }, none⟩,
  ⟨some 4, .assign (.tmp 21), none⟩] true).seq SC.ret))
theorem sl88 : slimK Try.f88.body s88 = some (unK s88, true) := by kernel_rfl
theorem ok88 : fnOK calmB Try.f88 0 = true := by kernel_rfl

/-- number.TakeText -/
def s89 : SC := ((SC.region 0 [⟨some 2, .assign (.const (.string { data := #[] })), none⟩,
  ⟨some 3, .assign (.const (.string { data := #[] })), none⟩,
  ⟨some 4, .assign (.const (.int .i64 0)), none⟩] false).seq ((SC.region 1 [⟨some 7, .move (.tmp 0), none⟩,
  ⟨some 8, .call { callee := .value (.func 60), args := #[.tmp 7], argTypes := #[9] }, none⟩,
  ⟨some 6, .move (.tmp 8), none⟩,
  ⟨some 9, .extract (.tmp 6) 0, none⟩,
  ⟨some 10, .extract (.tmp 6) 1, none⟩,
  ⟨some 11, .extract (.tmp 6) 2, none⟩,
  ⟨some 5, .assign (.tmp 9), none⟩,
  ⟨some 3, .assign (.tmp 10), none⟩,
  ⟨some 4, .assign (.tmp 11), none⟩] false).seq (((SC.region 2 [⟨some 12, .move (.tmp 4), none⟩,
  ⟨some 13, .binOp .neq 39 (.tmp 12) (.const (.int .i64 0)) 39, none⟩,
  ⟨some 14, .move (.tmp 13), none⟩,
  ⟨some 15, .move (.tmp 5), some (some 14, false)⟩,
  ⟨some 16, .move (.tmp 3), some (some 14, false)⟩,
  ⟨some 17, .call { callee := .builtin .len, args := #[.tmp 16], argTypes := #[9] }, some (some 14, false)⟩,
  ⟨some 18, .binOp .gtr 3 (.tmp 15) (.tmp 17) 3, some (some 14, false)⟩,
  ⟨some 19, .pick (.tmp 14) (.const (.bool true)) (.tmp 18), none⟩] false).seq (SC.cond (.tmp 19) ((SC.region 3 [⟨some 2, .assign (.const (.string { data := #[] })), none⟩,
  ⟨some 3, .assign (.const (.string { data := #[] })), none⟩,
  ⟨some 4, .assign (.const (.int .i64 7)), none⟩] false).seq SC.ret) SC.skip)).seq ((SC.region 4 [⟨some 20, .move (.tmp 3), none⟩,
  ⟨some 21, .move (.tmp 5), none⟩,
  ⟨some 22, .slice 9 (.tmp 20) none (some (.tmp 21)) none, none⟩,
  ⟨some 23, .move (.tmp 3), none⟩,
  ⟨some 24, .move (.tmp 5), none⟩,
  ⟨some 25, .slice 9 (.tmp 23) (some (.tmp 24)) none none, none⟩,
  ⟨some 2, .assign (.tmp 22), none⟩,
  ⟨some 3, .assign (.tmp 25), none⟩,
  ⟨some 4, .assign (.const (.int .i64 0)), none⟩] true).seq SC.ret))))
theorem sl89 : slimK Try.f89.body s89 = some (unK s89, true) := by kernel_rfl
theorem ok89 : fnOK calmB Try.f89 0 = true := by kernel_rfl

def s91L0 : SC := ((SC.region 3 [⟨some 9, .binOp .lss 3 (.tmp 8) (.tmp 7) 3, none⟩] false).seq ((SC.cond (.tmp 9) SC.skip (SC.exit 0)).seq ((SC.block 1 ((SC.region 4 [⟨some 10, .indexAddr 24 (.tmp 6) (.tmp 8), none⟩,
  ⟨some 11, .load 3 (.tmp 10), none⟩,
  ⟨some 5, .assign (.tmp 11), none⟩] false).seq ((SC.region 5 [⟨some 12, .move (.tmp 5), none⟩,
  ⟨some 13, .move (.tmp 3), none⟩,
  ⟨some 14, .binOp .neq 3 (.tmp 12) (.tmp 13) 3, none⟩] false).seq (SC.cond (.tmp 14) ((SC.region 6 [⟨some 15, .move (.tmp 5), none⟩,
  ⟨some 2, .assign (.tmp 15), none⟩] false).seq SC.ret) SC.skip)))).seq (SC.region 7 [⟨some 16, .binOp .add 3 (.tmp 8) (.const (.int .i64 1)) 3, none⟩,
  ⟨some 8, .move (.tmp 16), none⟩] false))))
/-- cmp.Or[int] -/
def s91 : SC := ((SC.region 0 [⟨some 2, .assign (.const (.int .i64 0)), none⟩] false).seq ((SC.region 1 [⟨some 3, .assign (.const (.int .i64 0)), none⟩] false).seq (((SC.region 2 [⟨some 6, .move (.tmp 0), none⟩,
  ⟨some 7, .call { callee := .builtin .len, args := #[.tmp 6], argTypes := #[24] }, none⟩,
  ⟨some 8, .move (.const (.int .i64 0)), none⟩] false).seq (SC.block 0 (SC.loop s91L0))).seq ((SC.region 8 [⟨some 17, .move (.tmp 3), none⟩,
  ⟨some 2, .assign (.tmp 17), none⟩] false).seq SC.ret))))
theorem sl91 : slimK Try.f91.body s91 = some (unK s91, true) := by kernel_rfl
theorem ok91 : fnOK calmB Try.f91 0 = true := by kernel_rfl

/-- cmp.Compare[int] -/
def s92 : SC := ((SC.region 0 [⟨some 4, .assign (.const (.int .i64 0)), none⟩] false).seq ((SC.region 1 [⟨some 7, .move (.tmp 0), none⟩,
  ⟨some 8, .call { callee := .value (.func 93), args := #[.tmp 7], argTypes := #[3] }, none⟩,
  ⟨some 5, .assign (.tmp 8), none⟩] false).seq ((SC.region 2 [⟨some 9, .move (.tmp 1), none⟩,
  ⟨some 10, .call { callee := .value (.func 93), args := #[.tmp 9], argTypes := #[3] }, none⟩,
  ⟨some 6, .assign (.tmp 10), none⟩] false).seq (((SC.region 3 [⟨some 11, .move (.tmp 5), none⟩] false).seq (SC.cond (.tmp 11) (((SC.region 4 [⟨some 12, .move (.tmp 6), none⟩] false).seq (SC.cond (.tmp 12) ((SC.region 5 [⟨some 4, .assign (.const (.int .i64 0)), none⟩] false).seq SC.ret) SC.skip)).seq ((SC.region 6 [⟨some 4, .assign (.const (.int .i64 (-1))), none⟩] false).seq SC.ret)) SC.skip)).seq (((SC.region 7 [⟨some 13, .move (.tmp 6), none⟩] false).seq (SC.cond (.tmp 13) ((SC.region 8 [⟨some 4, .assign (.const (.int .i64 1)), none⟩] false).seq SC.ret) SC.skip)).seq (((SC.region 9 [⟨some 14, .move (.tmp 0), none⟩,
  ⟨some 15, .move (.tmp 1), none⟩,
  ⟨some 16, .binOp .lss 3 (.tmp 14) (.tmp 15) 3, none⟩] false).seq (SC.cond (.tmp 16) ((SC.region 10 [⟨some 4, .assign (.const (.int .i64 (-1))), none⟩] false).seq SC.ret) SC.skip)).seq (((SC.region 11 [⟨some 17, .move (.tmp 0), none⟩,
  ⟨some 18, .move (.tmp 1), none⟩,
  ⟨some 19, .binOp .gtr 3 (.tmp 17) (.tmp 18) 3, none⟩] false).seq (SC.cond (.tmp 19) ((SC.region 12 [⟨some 4, .assign (.const (.int .i64 1)), none⟩] false).seq SC.ret) SC.skip)).seq ((SC.region 13 [⟨some 4, .assign (.const (.int .i64 0)), none⟩] false).seq SC.ret))))))))
theorem sl92 : slimK Try.f92.body s92 = some (unK s92, true) := by kernel_rfl
theorem ok92 : fnOK calmB Try.f92 0 = true := by kernel_rfl

/-- cmp.isNaN[int] -/
def s93 : SC := ((SC.region 0 [⟨some 2, .assign (.const (.bool false)), none⟩] false).seq ((SC.region 1 [⟨some 3, .move (.tmp 0), none⟩,
  ⟨some 4, .move (.tmp 0), none⟩,
  ⟨some 5, .binOp .neq 3 (.tmp 3) (.tmp 4) 3, none⟩,
  ⟨some 2, .assign (.tmp 5), none⟩] false).seq SC.ret))
theorem sl93 : slimK Try.f93.body s93 = some (unK s93, true) := by kernel_rfl
theorem ok93 : fnOK calmB Try.f93 0 = true := by kernel_rfl

attribute [simp] Try.results3 Try.results4 Try.results6 Try.results7 Try.results9 Try.results10 Try.results12 Try.results13 Try.results14 Try.results17 Try.results18 Try.results21 Try.results24 Try.results31 Try.results32 Try.results33 Try.results34 Try.results35 Try.results36 Try.results39 Try.results40 Try.results44 Try.results47 Try.results48 Try.results49 Try.results50 Try.results52 Try.results53 Try.results54 Try.results55 Try.results60 Try.results61 Try.results66 Try.results67 Try.results68 Try.results69 Try.results70 Try.results71 Try.results72 Try.results75 Try.results76 Try.results78 Try.results80 Try.results83 Try.results84 Try.results85 Try.results87 Try.results88 Try.results89 Try.results91 Try.results92 Try.results93

end Go.AE

/- Numbers as bytes: what they tell. -/
set_option linter.unusedVariables false
set_option linter.unusedSimpArgs false
set_option maxHeartbeats 2000000
set_option maxRecDepth 100000
namespace Go.AE
open Go Go.Proofs

theorem numIs_ev (n : Int) : PEv Try.prog 75 [.c (.raw (.int .i64 n))] (.c (.raw (.bool (decide (0 ≤ n ∧ n ≤ 268435456))))) := by
  refine tells_of mixed (F := []) trivial Try.func75 sl75 ok75 (by kernel_rfl) (by simp -implicitDefEqProofs (maxSteps := 400000) (maxDischargeDepth := 6)) (by simp -implicitDefEqProofs (maxSteps := 400000) (maxDischargeDepth := 6)) ?_
  by_cases h1 : 0 ≤ n
  · by_cases h2 : n ≤ 268435456
    · simp -implicitDefEqProofs (maxSteps := 400000) (maxDischargeDepth := 6) [s75, h1, h2]
    · simp -implicitDefEqProofs (maxSteps := 400000) (maxDischargeDepth := 6) [s75, h1, h2]
  · simp -implicitDefEqProofs (maxSteps := 400000) (maxDischargeDepth := 6) [s75, h1]

theorem bytesF_step {k n : Nat} (h : 128 ≤ n) : bytesF (k + 1) n = UInt8.ofNat (n % 128 + 128) :: bytesF k (n / 128) := by
  rw [bytesF, if_neg (by omega)]
theorem bytesF_last {k n : Nat} (h : n < 128) : bytesF k n = [UInt8.ofNat n] := by
  cases k with
  | zero => rfl
  | succ k => rw [bytesF, if_pos h]

theorem numBytes_ev (n : Nat) (hn : n < 9223372036854775808) : PEv Try.prog 33 [.c (.raw (.int .i64 n))] (.c (.str (bytesN n))) := by
  refine tells_of mixed (F := []) trivial Try.func33 sl33 ok33 (by kernel_rfl) (by simp -implicitDefEqProofs (maxSteps := 400000) (maxDischargeDepth := 6)) (by simp -implicitDefEqProofs (maxSteps := 400000) (maxDischargeDepth := 6)) ?_
  simp -implicitDefEqProofs (maxSteps := 400000) (maxDischargeDepth := 6) [s33]
  refine loop_n (fun q st => ∃ (k m : Nat) (L : List UInt8) (c : AC), q = k ∧ k ≤ 9 ∧ m < 128 ^ k ∧ L ++ bytesF k m = bytesN n ∧ st.s 0 = .c (.raw (.int .i64 m)) ∧ st.s 3 = .c c ∧ OwnL st.H 5 1 0 c L ∧ L.length + k ≤ 9 ∧ Fresh st.H st.T) 9
    ⟨9, n, [], .raw (.slice none 0 0), rfl, by omega, by omega, rfl, by simp -implicitDefEqProofs (maxSteps := 400000) (maxDischargeDepth := 6), by simp -implicitDefEqProofs (maxSteps := 400000) (maxDischargeDepth := 6), OwnL.nil, by simp -implicitDefEqProofs (maxSteps := 400000) (maxDischargeDepth := 6), by simp -implicitDefEqProofs (maxSteps := 400000) (maxDischargeDepth := 6); exact fresh_no.mono (by omega)⟩ ?_
  rintro q st ⟨k, m, L, c, hq, hk, hm, hL, k0, k3, hc, hl, hf⟩
  have hfu : ∀ k d, st.T ≤ k → st.H (k, d) = .unborn := hf
  have hm9 : m < 9223372036854775808 := Nat.lt_of_lt_of_le hm (Nat.le_trans (Nat.pow_le_pow_right (by omega) hk) (by decide))
  by_cases hlt : 128 ≤ m
  · have hlt' : (128 : Int) ≤ m := by omega
    cases k with
    | zero => simp -implicitDefEqProofs (maxSteps := 400000) (maxDischargeDepth := 6) at hm; omega
    | succ k =>
      have c1 : (m : Int).tmod 128 = ((m % 128 : Nat) : Int) := by rw [Int.tmod_eq_emod_of_nonneg (by omega)]; omega
      have c2 : (m : Int).tdiv 128 = ((m / 128 : Nat) : Int) := by rw [Int.tdiv_eq_ediv_of_nonneg (by omega)]; omega
      obtain ⟨r, hr, hr2⟩ : ∃ r : Nat, m % 128 = r ∧ r < 128 := ⟨m % 128, rfl, by omega⟩
      obtain ⟨p, hp⟩ : ∃ p : Nat, m / 128 = p := ⟨m / 128, rfl⟩
      rw [hr] at c1
      rw [hp] at c2
      have e1 : IntKind.wrap .i64 ((r : Int) + 128) = (r : Int) + 128 := by rw [wrap64_id] <;> omega
      have e2 : IntKind.wrap .u8 ((r : Int) + 128) = (r : Int) + 128 := wrap8_id (by omega) (by omega)
      have e4 : ((r : Int) + 128).toNat = r + 128 := by omega
      have e3 : IntKind.wrap .i64 (p : Int) = p := by rw [wrap64_id] <;> omega
      have hm2 : p < 128 ^ k := by rw [Nat.pow_succ] at hm; omega
      have hL2 : (L ++ [UInt8.ofNat (r + 128)]) ++ bytesF k p = bytesN n := by rw [← hL, bytesF_step hlt, hr, hp]; simp -implicitDefEqProofs (maxSteps := 400000) (maxDischargeDepth := 6)
      rcases hc with ⟨rfl, rfl⟩ | ⟨id, rfl, hid0, hid⟩
      · simp -implicitDefEqProofs (maxSteps := 400000) (maxDischargeDepth := 6) [s33L0, k0, k3, hlt', hfu, c1, c2, e1, e2, e3, Nat.le_add_right_of_le]
        refine ⟨k, by omega, by omega, p, hm2, [UInt8.ofNat (r + 128)], by simpa using hL2, rfl, OwnL.so rfl (Nat.zero_le _) ?_, (by have := hl; simp -implicitDefEqProofs (maxSteps := 400000) (maxDischargeDepth := 6) at this ⊢; omega), ?_⟩
        · simp -implicitDefEqProofs (maxSteps := 400000) (maxDischargeDepth := 6) [rowsU8_one ((r : Int) + 128) (by omega) (by omega), e4]
        · repeat' (first | exact hf.mono (by first | omega | (simp <;> omega)) | (refine Fresh.set' ?_ (by first | omega | (simp <;> omega))))
      · obtain ⟨f1, f2, f3⟩ := hf.arr hid
        simp -implicitDefEqProofs (maxSteps := 400000) (maxDischargeDepth := 6) [s33L0, k0, k3, hlt', hfu, c1, c2, e1, e2, e3, f1, f2, hid, Nat.le_add_right_of_le]
        refine ⟨⟨by omega, by omega⟩, k, by omega, by omega, p, hm2, L ++ [UInt8.ofNat (r + 128)], hL2, rfl, OwnL.so (by simp -implicitDefEqProofs (maxSteps := 400000) (maxDischargeDepth := 6)) (Nat.zero_le _) ?_, by simp -implicitDefEqProofs (maxSteps := 400000) (maxDischargeDepth := 6); omega, ?_⟩
        · simp -implicitDefEqProofs (maxSteps := 400000) (maxDischargeDepth := 6) [rowsU8_snoc L ((r : Int) + 128) (by omega) (by omega), e4]
        · repeat' (first | exact hf.mono (by first | omega | (simp <;> omega)) | (refine Fresh.set' ?_ (by first | omega | (simp <;> omega))))
  · have hlt' : ¬ (128 : Int) ≤ m := by omega
    have e2 : IntKind.wrap .u8 (m : Int) = m := wrap8_id (by omega) (by omega)
    rw [bytesF_last (by omega)] at hL
    rcases hc with ⟨rfl, rfl⟩ | ⟨id, rfl, hid0, hid⟩
    · simp -implicitDefEqProofs (maxSteps := 400000) (maxDischargeDepth := 6) [s33L0, k0, k3, hlt', hfu, e2, Nat.le_add_right_of_le]
      simpa using hL
    · obtain ⟨f1, f2, f3⟩ := hf.arr hid
      simp -implicitDefEqProofs (maxSteps := 400000) (maxDischargeDepth := 6) [s33L0, k0, k3, hlt', hfu, e2, f1, f2, hid, List.take_of_length_le, hL, Nat.le_add_right_of_le]
      omega


def FN0_h75 : List AV → Option (Prop × AV) := t1 (fun _ => True) fun n : Int => .c (.raw (.bool (decide (0 ≤ n ∧ n ≤ 268435456))))
@[simp] theorem FN0_ap75 {l : List AV} : FN0_h75 l = (t1 (fun _ => True) fun n : Int => .c (.raw (.bool (decide (0 ≤ n ∧ n ≤ 268435456))))) l := rfl
def FN0_h33 : List AV → Option (Prop × AV) := t1 (fun n => 0 ≤ n ∧ n < 9223372036854775808) fun n : Int => .c (.str (bytesN n.toNat))
@[simp] theorem FN0_ap33 {l : List AV} : FN0_h33 l = (t1 (fun n => 0 ≤ n ∧ n < 9223372036854775808) fun n : Int => .c (.str (bytesN n.toNat))) l := rfl
def FN0 : CT := (75, .pu FN0_h75) :: (33, .pu FN0_h33) :: []
theorem FN0_ok : CTok Try.prog FN0 := ⟨tells1 fun n _ => numIs_ev n,
  tells1 fun n h => by have := numBytes_ev n.toNat (by omega); rwa [Int.toNat_of_nonneg h.1] at this, trivial⟩
@[simp] theorem FN0_get75 : ctGet FN0 75 = some (.pu FN0_h75) := rfl
@[simp] theorem FN0_get33 : ctGet FN0 33 = some (.pu FN0_h33) := rfl
@[simp] theorem FN0_skip {n : Nat} (h : (n == 75 || n == 33) = false) : ctGet FN0 n = ctGet ([] : CT) n := by
  simp only [Bool.or_eq_false_iff, beq_eq_false_iff_ne, ne_eq] at h
  simp [FN0, ctGet, h]

/-- A text's first bytes. -/
theorem bts_at (l : List UInt8) (i : Nat) (h : i < l.length) : bts l (i : Int) = (l[i].toNat : Int) := by simp -implicitDefEqProofs (maxSteps := 400000) (maxDischargeDepth := 6) [bts, List.getD, h]

theorem and127 (b : UInt8) : iand .u8 (b.toNat : Int) 127 = ((b.toNat % 128 : Nat) : Int) := by
  have hb := b.toNat_lt
  have h1 : ((BitVec.ofInt 8 (b.toNat : Int)) &&& (BitVec.ofInt 8 127)).toNat = b.toNat % 128 := by
    rw [BitVec.toNat_and]
    have e1 : (BitVec.ofInt 8 (b.toNat : Int)).toNat = b.toNat := by simp -implicitDefEqProofs (maxSteps := 400000) (maxDischargeDepth := 6)
    have e2 : (BitVec.ofInt 8 127).toNat = 2 ^ 7 - 1 := by decide
    rw [e1, e2, Nat.and_two_pow_sub_one_eq_mod]
  show IntKind.wrap .u8 (((BitVec.ofInt 8 (b.toNat : Int)) &&& (BitVec.ofInt 8 127)).toNat : Int) = _
  rw [h1]
  exact wrap8_id (by omega) (by omega)

theorem or_add {acc x i : Nat} (ha : acc < 128 ^ i) (hi : i ≤ 4) (hx : x < 128) : ior .i64 (acc : Int) ((x * 128 ^ i : Nat) : Int) = ((acc + x * 128 ^ i : Nat) : Int) := by
  have hp : 128 ^ i ≤ 128 ^ 4 := Nat.pow_le_pow_right (by omega) hi
  have h4 : (128 : Nat) ^ 4 = 268435456 := by decide
  have hxi : x * 128 ^ i ≤ 127 * 268435456 := Nat.mul_le_mul (by omega) (by omega)
  have e1 : (BitVec.ofInt 64 (acc : Int)).toNat = acc := by simp -implicitDefEqProofs (maxSteps := 400000) (maxDischargeDepth := 6); omega
  have e2 : (BitVec.ofInt 64 ((x * 128 ^ i : Nat) : Int)).toNat = x * 128 ^ i := by
    generalize x * 128 ^ i = y at hxi
    simp -implicitDefEqProofs (maxSteps := 400000) (maxDischargeDepth := 6); omega
  have h1 : ((BitVec.ofInt 64 (acc : Int)) ||| (BitVec.ofInt 64 ((x * 128 ^ i : Nat) : Int))).toNat = acc + x * 128 ^ i := by
    rw [BitVec.toNat_or, e1, e2]
    have h7 : (128 : Nat) ^ i = 2 ^ (7 * i) := by rw [show (128 : Nat) = 2 ^ 7 from rfl, ← Nat.pow_mul]
    rw [h7] at ha ⊢
    rw [Nat.mul_comm x, Nat.or_comm, ← Nat.two_pow_add_eq_or_of_lt ha, Nat.add_comm]
  show IntKind.wrap .i64 (((BitVec.ofInt 64 (acc : Int)) ||| (BitVec.ofInt 64 ((x * 128 ^ i : Nat) : Int))).toNat : Int) = _
  rw [h1]
  exact wrap64_id (by omega) (by omega)

theorem take_at {k m acc : Nat} {s : List UInt8} {i : Nat} (h : i < s.length) : takeF (k + 1) m acc (s.drop i) =
    if 128 ≤ s[i].toNat then takeF k (m * 128) (acc + (s[i].toNat % 128) * m) (s.drop (i + 1))
    else if 268435456 < acc + (s[i].toNat % 128) * m ∨ (1 < m ∧ s[i].toNat = 0) then none else some (acc + (s[i].toNat % 128) * m, s.drop (i + 1)) := by
  rw [List.drop_eq_getElem_cons h, takeF]

def takeAV (s : List UInt8) : AV := .t [(false, [.raw (.int .i64 (takeR s).1)]), (false, [.str (takeR s).2.1]), (false, [.raw (.int .i64 (takeR s).2.2)])]

theorem takeAV_some {s r : List UInt8} {n : Nat} (h : some (n, r) = takeN s) : takeAV s = .t [(false, [.raw (.int .i64 n)]), (false, [.str r]), (false, [.raw (.int .i64 0)])] := by simp -implicitDefEqProofs (maxSteps := 400000) (maxDischargeDepth := 6) [takeAV, takeR, ← h]
theorem takeAV_none {s : List UInt8} (h : none = takeN s) : takeAV s = .t [(false, [.raw (.int .i64 0)]), (false, [.str []]), (false, [.raw (.int .i64 7)])] := by simp -implicitDefEqProofs (maxSteps := 400000) (maxDischargeDepth := 6) [takeAV, takeR, ← h]

theorem numTake_ev (s : List UInt8) (hs : s.length < 4611686018427387904) : PEv Try.prog 60 [.c (.str s)] (takeAV s) := by
  refine tells_of mixed FN0_ok Try.func60 sl60 ok60 (by kernel_rfl) (by simp -implicitDefEqProofs (maxSteps := 400000) (maxDischargeDepth := 6) [takeAV]) (by simp -implicitDefEqProofs (maxSteps := 400000) (maxDischargeDepth := 6)) ?_
  have hmin : (if (5 : Int) < s.length then (5 : Int) else s.length) = ((min s.length 5 : Nat) : Int) := by split <;> omega
  simp -implicitDefEqProofs (maxSteps := 400000) (maxDischargeDepth := 6) [s60, hmin]
  refine loop_n (fun q st => ∃ (i acc : Nat), i ≤ min s.length 5 ∧ q = 5 - i ∧ acc < 128 ^ i ∧ st.s 0 = .c (.str s) ∧ st.s 2 = .c (.raw (.int .i64 acc)) ∧ st.s 8 = .c (.raw (.int .i64 (min s.length 5 : Nat))) ∧ st.s 9 = .c (.raw (.int .i64 i)) ∧
      takeF (5 - i) (128 ^ i) acc (s.drop i) = takeN s ∧ Fresh st.H st.T) 5 ⟨0, 0, by omega, rfl, by simp -implicitDefEqProofs (maxSteps := 400000) (maxDischargeDepth := 6), by simp -implicitDefEqProofs (maxSteps := 400000) (maxDischargeDepth := 6), by simp -implicitDefEqProofs (maxSteps := 400000) (maxDischargeDepth := 6), by simp -implicitDefEqProofs (maxSteps := 400000) (maxDischargeDepth := 6), by simp -implicitDefEqProofs (maxSteps := 400000) (maxDischargeDepth := 6), rfl, by simp -implicitDefEqProofs (maxSteps := 400000) (maxDischargeDepth := 6); exact fresh_no.mono (by omega)⟩ ?_
  rintro q st ⟨i, acc, hi, rfl, hacc, k0, k2, k8, k9, hT, hf⟩
  have hfu : ∀ k d, st.T ≤ k → st.H (k, d) = .unborn := hf
  by_cases hlt : i < min s.length 5
  · have hlt2 : i < s.length := by omega
    have hlt' : ((i : Int) < (min s.length 5 : Nat)) := by omega
    have hk : 5 - i = (4 - i) + 1 := by omega
    rw [hk, take_at hlt2] at hT
    have hb := s[i].toNat_lt
    obtain ⟨x, hx, hx2⟩ : ∃ x : Nat, s[i].toNat % 128 = x ∧ x < 128 := ⟨_, rfl, by omega⟩
    have c1 := bts_at s i hlt2
    have c2 := and127 s[i]
    rw [hx] at c2 hT
    have c3 : IntKind.wrap .i64 (x : Int) = x := by rw [wrap64_id] <;> omega
    have c4 : IntKind.wrap .i64 (7 * (i : Int)) = 7 * (i : Int) := by rw [wrap64_id] <;> omega
    have h7 : (128 : Nat) ^ i = 2 ^ (7 * i) := by rw [show (128 : Nat) = 2 ^ 7 from rfl, ← Nat.pow_mul]
    have hmin2 : min (7 * (i : Int)).toNat (IntKind.bits .i64) = 7 * i := by
      have : IntKind.bits .i64 = 64 := rfl
      omega
    have hp : 128 ^ i ≤ 128 ^ 4 := Nat.pow_le_pow_right (by omega) (by omega)
    have h4 : (128 : Nat) ^ 4 = 268435456 := by decide
    have hxi : x * 128 ^ i ≤ 127 * 268435456 := Nat.mul_le_mul (by omega) (by omega)
    have c5 := or_add hacc (i := i) (by omega) hx2
    have c6 : IntKind.wrap .i64 ((x : Int) * 2 ^ (7 * i)) = ((x * 128 ^ i : Nat) : Int) := by
      rw [h7]
      have : ((x : Int) * 2 ^ (7 * i)) = ((x * 2 ^ (7 * i) : Nat) : Int) := by push_cast; rfl
      rw [this, ← h7]
      exact wrap64_id (by omega) (by omega)
    have e2 : IntKind.wrap .i64 ((i : Int) + 1) = (i : Int) + 1 := by rw [wrap64_id] <;> omega
    obtain ⟨y, hy⟩ : ∃ y, x * 128 ^ i = y := ⟨_, rfl⟩
    rw [hy] at c5 c6 hT hxi
    obtain ⟨z, hz⟩ : ∃ z, acc + y = z := ⟨_, rfl⟩
    rw [hz] at c5 hT
    simp -implicitDefEqProofs (maxSteps := 400000) (maxDischargeDepth := 6) [s60L0, k0, k2, k8, k9, hlt', hlt2, hfu, c1, c2, c3, c4, hmin2, c5, c6, e2]
    have hp1 : 0 < i → 1 < 128 ^ i := fun h => Nat.one_lt_pow (by omega) (by omega)
    refine ⟨by omega, fun hge => ?_, fun hl3 => ?_⟩
    · rw [if_pos (by omega)] at hT
      refine ⟨5 - (i + 1), by omega, i + 1, by omega, rfl, z, ?_, rfl, rfl, ?_, hf.mono (by omega)⟩
      · rw [Nat.pow_succ, ← hz, ← hy]
        have : x * 128 ^ i ≤ 127 * 128 ^ i := Nat.mul_le_mul_right _ (by omega)
        omega
      · rw [show 5 - (i + 1) = 4 - i by omega, Nat.pow_succ]
        exact hT
    · rw [if_neg (by omega)] at hT
      refine ⟨fun h1 => ⟨fun h2 => ⟨fun h3 => ?_, fun h3 => ⟨by omega, ?_⟩⟩, fun h2 => ⟨by omega, ?_⟩⟩, fun h1 => ?_⟩
      · rw [if_pos (.inr ⟨hp1 h2, h3⟩)] at hT
        rw [takeAV_none hT]
        simp -implicitDefEqProofs (maxSteps := 400000) (maxDischargeDepth := 6)
      · rw [if_neg (by omega)] at hT
        rw [takeAV_some hT]
        simp -implicitDefEqProofs (maxSteps := 400000) (maxDischargeDepth := 6)
      · subst h2
        rw [if_neg (by simp -implicitDefEqProofs (maxSteps := 400000) (maxDischargeDepth := 6); omega)] at hT
        rw [takeAV_some hT]
        simp -implicitDefEqProofs (maxSteps := 400000) (maxDischargeDepth := 6)
      · rw [if_pos (.inl (by omega))] at hT
        rw [takeAV_none hT]
        simp -implicitDefEqProofs (maxSteps := 400000) (maxDischargeDepth := 6)
  · have hlt' : ¬ ((i : Int) < (min s.length 5 : Nat)) := by omega
    have hi2 : i = min s.length 5 := by omega
    have hn : none = takeN s := by
      rw [← hT]
      by_cases h5 : s.length < 5
      · rw [List.drop_eq_nil_of_le (by omega), show 5 - i = (4 - i) + 1 by omega, takeF]
      · rw [show 5 - i = 0 by omega, takeF]
    simp -implicitDefEqProofs (maxSteps := 400000) (maxDischargeDepth := 6) [s60L0, k0, k2, k8, k9, hlt']
    rw [takeAV_none hn]
    simp -implicitDefEqProofs (maxSteps := 400000) (maxDischargeDepth := 6)

def takeTextAV (s : List UInt8) : AV := .t [(false, [.str (takeTextR s).1]), (false, [.str (takeTextR s).2.1]), (false, [.raw (.int .i64 (takeTextR s).2.2)])]

def FN1_h60 : List AV → Option (Prop × AV) := t1 (fun s => s.length < 4611686018427387904) fun s : List UInt8 => takeAV s
@[simp] theorem FN1_ap60 {l : List AV} : FN1_h60 l = (t1 (fun s => s.length < 4611686018427387904) fun s : List UInt8 => takeAV s) l := rfl
def FN1 : CT := (60, .pu FN1_h60) :: FN0
theorem FN1_ok : CTok Try.prog FN1 := ⟨tells1 fun s h => numTake_ev s h, FN0_ok⟩
@[simp] theorem FN1_get60 : ctGet FN1 60 = some (.pu FN1_h60) := rfl
@[simp] theorem FN1_skip {n : Nat} (h : (n == 60) = false) : ctGet FN1 n = ctGet FN0 n := by
  simp only [Bool.or_eq_false_iff, beq_eq_false_iff_ne, ne_eq] at h
  simp [FN1, ctGet, h]

theorem takeN_len {s r : List UInt8} {n : Nat} (h : takeN s = some (n, r)) : n ≤ 268435456 ∧ r.length < s.length := by
  have go : ∀ (k m acc : Nat) (s r : List UInt8) (n : Nat), takeF k m acc s = some (n, r) → n ≤ 268435456 ∧ r.length < s.length := by
    intro k
    induction k with
    | zero => intro m acc s r n h; cases h
    | succ k ih =>
      intro m acc s r n h
      cases s with
      | nil => cases h
      | cons b s =>
        rw [takeF] at h
        split at h
        · have := ih _ _ _ _ _ h
          simp -implicitDefEqProofs (maxSteps := 400000) (maxDischargeDepth := 6); omega
        · split at h
          · cases h
          · cases h
            simp -implicitDefEqProofs (maxSteps := 400000) (maxDischargeDepth := 6); omega
  exact go _ _ _ _ _ _ h

theorem numTakeText_ev (s : List UInt8) (hs : s.length < 4611686018427387904) : PEv Try.prog 89 [.c (.str s)] (takeTextAV s) := by
  refine tells_of mixed FN1_ok Try.func89 sl89 ok89 (by kernel_rfl) (by simp -implicitDefEqProofs (maxSteps := 400000) (maxDischargeDepth := 6) [takeTextAV]) (by simp -implicitDefEqProofs (maxSteps := 400000) (maxDischargeDepth := 6)) ?_
  cases hn : takeN s with
  | none =>
    simp -implicitDefEqProofs (maxSteps := 400000) (maxDischargeDepth := 6) [s89, hs, takeAV_none hn.symm]
    simp -implicitDefEqProofs (maxSteps := 400000) (maxDischargeDepth := 6) [takeTextAV, takeTextR, hn]
  | some q =>
    obtain ⟨n, r⟩ := q
    obtain ⟨h1, h2⟩ := takeN_len hn
    by_cases hl : n ≤ r.length
    · simp -implicitDefEqProofs (maxSteps := 400000) (maxDischargeDepth := 6) [s89, hs, takeAV_some hn.symm, hl]
      simp -implicitDefEqProofs (maxSteps := 400000) (maxDischargeDepth := 6) [takeTextAV, takeTextR, hn, hl]
    · simp -implicitDefEqProofs (maxSteps := 400000) (maxDischargeDepth := 6) [s89, hs, takeAV_some hn.symm, hl]
      simp -implicitDefEqProofs (maxSteps := 400000) (maxDischargeDepth := 6) [takeTextAV, takeTextR, hn, hl]

theorem numText_ev (s : List UInt8) (hs : s.length < 140737488355328) : PEv Try.prog 53 [.c (.str s)] (.c (.str (bytesN s.length ++ s))) := by
  refine tells_of mixed FN1_ok Try.func53 sl53 ok53 (by kernel_rfl) (by simp -implicitDefEqProofs (maxSteps := 400000) (maxDischargeDepth := 6)) (by simp -implicitDefEqProofs (maxSteps := 400000) (maxDischargeDepth := 6)) ?_
  have h9 : ∀ (k n : Nat), (bytesF k n).length ≤ k + 1 := by
    intro k
    induction k with
    | zero => intro n; simp -implicitDefEqProofs (maxSteps := 400000) (maxDischargeDepth := 6) [bytesF]
    | succ k ih =>
      intro n
      rw [bytesF]
      split
      · simp -implicitDefEqProofs (maxSteps := 400000) (maxDischargeDepth := 6)
      · have := ih (n / 128); simp -implicitDefEqProofs (maxSteps := 400000) (maxDischargeDepth := 6); omega
  have := h9 9 s.length
  simp -implicitDefEqProofs (maxSteps := 400000) (maxDischargeDepth := 6) [s53, show s.length < 9223372036854775808 by omega]
  unfold bytesN
  omega

end Go.AE

/- What the library has proved of Go's own functions, at this program's numbers. Printed by a program of this session. -/
namespace Go.AE
open Go Go.Proofs Go.Shelf

def lays105_ren : Go.Shelf.Ren := ⟨fun | 105 => 42 | 212 => 43 | 99 => 41 | 165 => 57 | 166 => 58 | 170 => 63 | 169 => 59 | 263 => 64 | 264 => 65 | 206 => 62 | 240 => 73 | 241 => 74 | 276 => 81 | 277 => 82 | n => n, fun | 9 => 9 | 3 => 3 | 4 => 4 | 20 => 20 | 0 => 0 | 46 => 88 | 109 => 89 | 5 => 5 | 72 => 104 | 76 => 108 | 51 => 99 | 146 => 115 | 53 => 117 | 148 => 118 | 70 => 102 | 37 => 92 | 75 => 107 | 127 => 124 | 164 => 133 | 80 => 59 | n => n, fun  | n => n⟩
theorem lays105 : Lays.n105 Try.prog lays105_ren where
  mixed := by kernel_rfl
  f99 := Try.func41.trans (congrArg some (by kernel_rfl))
  f105 := Try.func42.trans (congrArg some (by kernel_rfl))
  f165 := Try.func57.trans (congrArg some (by kernel_rfl))
  f166 := Try.func58.trans (congrArg some (by kernel_rfl))
  f169 := Try.func59.trans (congrArg some (by kernel_rfl))
  f170 := Try.func63.trans (congrArg some (by kernel_rfl))
  f206 := Try.func62.trans (congrArg some (by kernel_rfl))
  f212 := Try.func43.trans (congrArg some (by kernel_rfl))
  f240 := Try.func73.trans (congrArg some (by kernel_rfl))
  f241 := Try.func74.trans (congrArg some (by kernel_rfl))
  f263 := Try.func64.trans (congrArg some (by kernel_rfl))
  f264 := Try.func65.trans (congrArg some (by kernel_rfl))
  f276 := Try.func81.trans (congrArg some (by kernel_rfl))
  f277 := Try.func82.trans (congrArg some (by kernel_rfl))
  t0 := Try.underlying0
  a0 := Try.isAgg0
  z0 := Try.sizeOf0
  v0 := Try.zeroValue0
  t3 := Try.underlying3
  a3 := Try.isAgg3
  z3 := Try.sizeOf3
  v3 := Try.zeroValue3
  t4 := Try.underlying4
  a4 := Try.isAgg4
  z4 := Try.sizeOf4
  v4 := Try.zeroValue4
  t5 := Try.underlying5
  a5 := Try.isAgg5
  z5 := Try.sizeOf5
  v5 := Try.zeroValue5
  t9 := Try.underlying9
  a9 := Try.isAgg9
  z9 := Try.sizeOf9
  v9 := Try.zeroValue9
  t20 := Try.underlying20
  a20 := Try.isAgg20
  z20 := Try.sizeOf20
  v20 := Try.zeroValue20
  t37 := Try.underlying92
  a37 := Try.isAgg92
  z37 := Try.sizeOf92
  v37 := Try.zeroValue92
  t46 := Try.underlying88
  a46 := Try.isAgg88
  z46 := Try.sizeOf88
  v46 := Try.zeroValue88
  t51 := Try.underlying99
  a51 := Try.isAgg99
  z51 := Try.sizeOf99
  v51 := Try.zeroValue99
  t53 := Try.underlying117
  a53 := Try.isAgg117
  z53 := Try.sizeOf117
  v53 := Try.zeroValue117
  t70 := Try.underlying102
  a70 := Try.isAgg102
  z70 := Try.sizeOf102
  v70 := Try.zeroValue102
  t72 := Try.underlying104
  a72 := Try.isAgg104
  z72 := Try.sizeOf104
  v72 := Try.zeroValue104
  t75 := Try.underlying107
  a75 := Try.isAgg107
  z75 := Try.sizeOf107
  v75 := Try.zeroValue107
  t76 := Try.underlying108
  a76 := Try.isAgg108
  z76 := Try.sizeOf108
  v76 := Try.zeroValue108
  t109 := Try.underlying89
  a109 := Try.isAgg89
  z109 := Try.sizeOf89
  v109 := Try.zeroValue89
  t127 := Try.underlying124
  a127 := Try.isAgg124
  z127 := Try.sizeOf124
  v127 := Try.zeroValue124
  t146 := Try.underlying115
  a146 := Try.isAgg115
  z146 := Try.sizeOf115
  v146 := Try.zeroValue115
  t148 := Try.underlying118
  a148 := Try.isAgg118
  z148 := Try.sizeOf118
  v148 := Try.zeroValue118
  t164 := Try.underlying133
  a164 := Try.isAgg133
  z164 := Try.sizeOf133
  v164 := Try.zeroValue133
theorem lays105X : Builder.Extra Try.prog lays105_ren where
  sizeBuilder := by kernel_rfl
  liesBuilder := by kernel_rfl
  t5 := Try.underlying5
  a5 := Try.isAgg5
  z5 := Try.sizeOf5
  v5 := Try.zeroValue5
  infoByte := by kernel_rfl
  cellsByte := by kernel_rfl
  sizeByte := by kernel_rfl
  neB5 := by decide

end Go.AE

/- Numbers' bytes, one behind the other: a walk in the kit's own way over a builder. -/
set_option linter.unusedVariables false
set_option linter.unusedSimpArgs false
set_option maxHeartbeats 4000000
set_option maxRecDepth 1000000
namespace Go.AE
open Go Go.Proofs Go.RowKit

def numsN (l : List Int) : List UInt8 := l.flatMap fun n => bytesN n.toNat

theorem pev_str_calls {f : FuncId} {args : List AV} {b : List UInt8} (hp : PEv Try.prog f args (.c (.str b))) {w : World} (hI : Inv Try.prog w) {vs : Array Value} (hs : vs.size = args.length)
    (hr : ∀ (k : Nat) x, args[k]? = some x → RelV w (Fr (Ctx.of w hI fun _ _ => True) noHeap noLies) noHeap noLies x (vs.getD k undef)) :
    Calls Try.prog f vs w fun e w' => e = .returned (.string ⟨b.toArray⟩) ∧ RowKit.Below w.heap.size w w' := by
  refine (hp.2 w hI (fun _ _ => True) vs hs hr (fun k => (0, k)) (fun i j h => by simpa using h)).mono ?_
  rintro e w' ⟨v, rfl, ρ, hH, hR⟩
  have hv := relC_str (relV_c hR)
  subst hv
  exact ⟨rfl, hH.below⟩

theorem bytes_calls (n : Int) (h0 : 0 ≤ n) (h1 : n < 9223372036854775808) {w : World} (hI : Inv Try.prog w) :
    Calls Try.prog 33 #[.int .i64 n] w fun e w' => e = .returned (.string ⟨(bytesN n.toNat).toArray⟩) ∧ RowKit.Below w.heap.size w w' := by
  have := numBytes_ev n.toNat (by omega)
  rw [Int.toNat_of_nonneg h0] at this
  refine pev_str_calls this hI rfl fun k y hk => by
    match k, hk with
    | 0, hk =>
      simp -implicitDefEqProofs (maxSteps := 400000) (maxDischargeDepth := 6) at hk
      subst hk
      exact .c _ _ (.raw _)

theorem bytesN_len' (n : Nat) : (bytesN n).length ≤ 10 := by
  have h9 : ∀ (k n : Nat), (bytesF k n).length ≤ k + 1 := by
    intro k
    induction k with
    | zero => intro n; simp -implicitDefEqProofs (maxSteps := 400000) (maxDischargeDepth := 6) [bytesF]
    | succ k ih =>
      intro n
      rw [bytesF]
      split
      · simp -implicitDefEqProofs (maxSteps := 400000) (maxDischargeDepth := 6)
      · have := ih (n / 128); simp -implicitDefEqProofs (maxSteps := 400000) (maxDischargeDepth := 6); omega
  exact h9 9 n

theorem numsN_len (l : List Int) : (numsN l).length ≤ 10 * l.length := by
  induction l with
  | nil => simp -implicitDefEqProofs (maxSteps := 400000) (maxDischargeDepth := 6) [numsN]
  | cons x l ih =>
    have := bytesN_len' x.toNat
    simp -implicitDefEqProofs (maxSteps := 400000) (maxDischargeDepth := 6) [numsN] at ih ⊢
    omega

theorem bldF_below {T e : TypeId} {B b : Nat} {p : Value} {bs : List Value} {W W' : World} (h : Lib.BuilderAtF T e B b p bs W) (hb : Below W.heap.size W W') : Lib.BuilderAtF T e B b p bs W' := by
  have hlt : b < W.heap.size := by
    obtain ⟨_, v, hv, _⟩ := h
    exact (Array.getElem?_eq_some_iff.1 hv).1
  obtain ⟨h1, v, hv, hown, hne⟩ := h
  refine ⟨h1, v, by rw [hb.block b hlt]; exact hv, ?_, hne⟩
  refine hown.kept (row := none) ⟨hb.os, hb.tape, hb.output, hb.size, fun k hk _ => hb.block k hk⟩ (Classical.em _)
theorem isBld_below {T e : TypeId} {B b : Nat} {bs : List Value} {W W' : World} (h : Lib.IsBuilderF T e B b bs W) (hb : Below W.heap.size W W') : Lib.IsBuilderF T e B b bs W' :=
  h.elim (fun x => .inl (bldF_below x hb)) (fun x => .inr (bldF_below x hb))

theorem numbers_walk (l : List Int) (hl : l.length < 1000000) (h0 : ∀ n ∈ l, 0 ≤ n ∧ n < 9223372036854775808) (w : World) (hI : Inv Try.prog w) (v : Value) (a : Option Addr) (c : Nat) (hv : v = .slice a l.length c)
    (ha : ∀ (i : Nat) (hi : i < l.length), ∃ b o : Nat, a = some ⟨b, o, none⟩ ∧ b < w.heap.size ∧ w.cell? ⟨b, o + i, none⟩ = some (.int .i64 l[i])) :
    Calls Try.prog 51 #[v] w fun e w' => e = .returned (.string ⟨(numsN l).toArray⟩) ∧ RowKit.Below w.heap.size w w' := by
  subst hv
  go_enter Try.func51, Try.ntmps51
  go_wp2
  go_loopw [8] (fun i wr => ∃ k : Nat, k ≤ l.length ∧ i = .int .i64 k ∧ Lib.IsBuilderF 104 5 w.heap.size w.heap.size (Lib.byteCells (numsN (l.take k))) wr ∧ Below w.heap.size w wr) (fun i _ => l.length - (Go.RowKit.intOf i).toNat)
  case atStart =>
    exact ⟨0, Nat.zero_le _, rfl, Lib.IsBuilderF.of (Lib.fresh_isBuilder 104 5 w), (Below.refl _ w).alloc (Nat.le_refl _) _⟩
  case round =>
    obtain ⟨k, hk, rfl, hB, hbw⟩ := hrel
    by_cases hlt : k < l.length
    · obtain ⟨b, o, rfl, hb, hc⟩ := ha k hlt
      have hc' : wr.cell? ⟨b, o + k, none⟩ = some (.int .i64 l[k]) := by
        rw [hbw.cell (p := ⟨b, o + k, none⟩) hb]; exact hc
      have hm : l[k] ∈ l := List.getElem_mem hlt
      obtain ⟨hn0, hn1⟩ := h0 _ hm
      go_wp2_with (go_at_call 33; refine (bytes_calls l[k] hn0 hn1 (hI.keep hbw)).mono ?_)
      rintro e W1 ⟨rfl, b1⟩
      have hlen := numsN_len (l.take k)
      rw [List.length_take] at hlen
      have hb10 := bytesN_len' l[k].toNat
      have hsz : wr.heap.size ≤ W1.heap.size := b1.size
      have hsz0 : w.heap.size ≤ wr.heap.size := hbw.size
      go_wp2_with (go_at_call 58; refine (Any.Builder_WriteString_f { lays105 with } lays105X w.heap.size w.heap.size _ ⟨(bytesN l[k].toNat).toArray⟩ W1 (isBld_below hB b1) (by rw [Lib.byteCells_length]; show _ + (bytesN l[k].toNat).length ≤ _; omega) (by omega)).mono ?_)
      rintro e W2 ⟨rfl, h2, b2⟩
      go_wp2
      go_roundw
      case rel =>
        refine ⟨_, _, _, _, _, _, _, _, _, ?_, rfl⟩
        refine ⟨k + 1, by omega, by go_num, ?_, (hbw.trans (b1.mono hsz0)).trans b2⟩
        have : numsN (l.take (k + 1)) = numsN (l.take k) ++ bytesN l[k].toNat := by
          rw [← List.take_append_getElem hlt, numsN, List.flatMap_append]
          simp -implicitDefEqProofs (maxSteps := 400000) (maxDischargeDepth := 6) [numsN]
        rw [this, Lib.byteCells_append]
        exact Or.inr h2
      case measure =>
        simp -implicitDefEqProofs (maxSteps := 400000) (maxDischargeDepth := 6) [Go.RowKit.intOf]
        omega
    · have hke : k = l.length := by omega
      subst hke
      rw [List.take_length] at hB
      have hsz0 : w.heap.size ≤ wr.heap.size := hbw.size
      go_wp2_with (go_at_call 59; refine (Any.Builder_String_any_f { lays105 with } lays105X w.heap.size w.heap.size _ wr hB hsz0).mono ?_)
      rintro e W1 ⟨rfl, _, b1⟩
      go_wp2
      go_ret
      exact ⟨rfl, hbw.trans b1⟩

theorem numbers_ev (l : List Int) (hl : l.length < 1000000) (h0 : ∀ n ∈ l, 0 ≤ n ∧ n < 9223372036854775808) : PEv Try.prog 51 [Arg.enc l] (.c (.str (numsN l))) := by
  refine pev_str (by kernel_rfl) (by simp -implicitDefEqProofs (maxSteps := 400000) (maxDischargeDepth := 6)) fun w hI F vs hs hr => ?_
  have h1 := relV_c (hr 0 _ rfl)
  generalize hv : vs.getD 0 undef = v at h1
  rw [vs1 hs hv]
  generalize hx : rowsE l = xs at h1
  cases h1 with
  | slNil _ _ _ hn =>
    cases l with
    | cons => cases hx
    | nil =>
      rcases hn with rfl | ⟨a, rfl⟩
      · exact numbers_walk [] hl h0 w hI _ none 0 rfl (fun i hi => by simp -implicitDefEqProofs (maxSteps := 400000) (maxDischargeDepth := 6) at hi)
      · exact numbers_walk [] hl h0 w hI _ (some a) 0 rfl (fun i hi => by simp -implicitDefEqProofs (maxSteps := 400000) (maxDischargeDepth := 6) at hi)
  | sl _ _ _ b o cap sz us hb hF hcap hcl hrow hcell hone hrel =>
    subst hx
    have hlen : (rowsE l).length = l.length := by simp -implicitDefEqProofs (maxSteps := 400000) (maxDischargeDepth := 6) [rowsE]
    refine numbers_walk l hl h0 w hI _ (some ⟨b, o, none⟩) cap (by rw [hlen]) fun i hi => ⟨b, o, rfl, hb, ?_⟩
    have hri : (rowsE l)[i]? = some [AC.raw (.int .i64 l[i])] := by simp -implicitDefEqProofs (maxSteps := 400000) (maxDischargeDepth := 6) [rowsE, hi]
    have hsz : 1 = sz := hrow i _ hri
    subst hsz
    rw [hcell i (by rw [hlen]; omega)]
    have := relC_raw (hrel i 0 _ _ hri rfl)
    simp -implicitDefEqProofs (maxSteps := 400000) (maxDischargeDepth := 6) at this
    rw [this]

end Go.AE

/- Frames: what they tell. -/
set_option linter.unusedVariables false
set_option linter.unusedSimpArgs false
set_option maxHeartbeats 2000000
set_option maxRecDepth 100000
namespace Go.AE
open Go Go.Proofs

/-- A check's number. -/
structure W32 where
  n : Nat
instance argW32 : Arg W32 where
  enc w := .c (.raw (.int .u32 w.n))
  dec | .c (.raw (.int .u32 (.ofNat n))) => some ⟨n⟩ | _ => none
  dec_some {x a} h := by split at h <;> simp_all; subst h; rfl
@[simp] theorem enc_W32 (w : W32) : Arg.enc w = .c (.raw (.int .u32 w.n)) := rfl
@[simp] theorem dec_W32 (n : Nat) : (Arg.dec (.c (.raw (.int .u32 (n : Int)))) : Option W32) = some ⟨n⟩ := rfl

theorem ofF_step {h i : Nat} {s : List UInt8} (hi : i < s.length) : ofF h (s.drop i) = ofF ((h * 263 + s[i].toNat + 7) % 4294967291) (s.drop (i + 1)) := by
  rw [List.drop_eq_getElem_cons hi, ofF]
theorem ofF_lt : ∀ (s : List UInt8) (h : Nat), h < 4294967291 → ofF h s < 4294967291
  | [], h, hh => hh
  | b :: s, h, hh => ofF_lt s _ (Nat.mod_lt _ (by omega))

theorem sealOf_ev (s : List UInt8) (hs : s.length < 4611686018427387904) : PEv Try.prog 55 [.c (.str s)] (.c (.raw (.int .u32 (ofN s)))) := by
  refine tells_of mixed (F := []) trivial Try.func55 sl55 ok55 (by kernel_rfl) (by simp -implicitDefEqProofs (maxSteps := 400000) (maxDischargeDepth := 6)) (by simp -implicitDefEqProofs (maxSteps := 400000) (maxDischargeDepth := 6)) ?_
  simp -implicitDefEqProofs (maxSteps := 400000) (maxDischargeDepth := 6) [s55]
  refine loop_n (fun q st => ∃ (i h : Nat), i ≤ s.length ∧ q = s.length - i ∧ h < 4294967291 ∧ st.s 0 = .c (.str s) ∧ st.s 3 = .c (.raw (.int .u64 h)) ∧ st.s 6 = .c (.raw (.int .i64 s.length)) ∧ st.s 7 = .c (.raw (.int .i64 i)) ∧ ofF h (s.drop i) = ofN s) s.length
    ⟨0, 1, by omega, rfl, by omega, by simp -implicitDefEqProofs (maxSteps := 400000) (maxDischargeDepth := 6), by simp -implicitDefEqProofs (maxSteps := 400000) (maxDischargeDepth := 6), by simp -implicitDefEqProofs (maxSteps := 400000) (maxDischargeDepth := 6), by simp -implicitDefEqProofs (maxSteps := 400000) (maxDischargeDepth := 6), rfl⟩ ?_
  rintro q st ⟨i, h, hi, rfl, hh, k0, k3, k6, k7, hT⟩
  by_cases hlt : i < s.length
  · have hlt' : (i : Int) < s.length := by omega
    have hb := s[i].toNat_lt
    rw [ofF_step hlt] at hT
    have c1 := bts_at s i hlt
    obtain ⟨b, hb2, hb3⟩ : ∃ b : Nat, s[i].toNat = b ∧ b < 256 := ⟨_, rfl, hb⟩
    rw [hb2] at c1 hT
    have c2 : IntKind.wrap .u64 ((h : Int) * 263) = (h : Int) * 263 := by rw [wrap64u_mod]; omega
    have c3 : IntKind.wrap .u64 (b : Int) = b := by rw [wrap64u_mod]; omega
    have c4 : IntKind.wrap .u64 ((h : Int) * 263 + b) = (h : Int) * 263 + b := by rw [wrap64u_mod]; omega
    have c5 : IntKind.wrap .u64 ((h : Int) * 263 + b + 7) = (h : Int) * 263 + b + 7 := by rw [wrap64u_mod]; omega
    obtain ⟨z, hz, hz2⟩ : ∃ z : Nat, (h * 263 + b + 7) % 4294967291 = z ∧ z < 4294967291 := ⟨_, rfl, Nat.mod_lt _ (by omega)⟩
    have c6 : ((h : Int) * 263 + b + 7).tmod 4294967291 = z := by rw [Int.tmod_eq_emod_of_nonneg (by omega)]; omega
    have e2 : IntKind.wrap .i64 ((i : Int) + 1) = (i : Int) + 1 := by rw [wrap64_id] <;> omega
    rw [hz] at hT
    simp -implicitDefEqProofs (maxSteps := 400000) (maxDischargeDepth := 6) [s55L0, k0, k3, k6, k7, hlt, c1, c2, c3, c4, c5, c6, e2]
    exact ⟨s.length - (i + 1), by omega, i + 1, by omega, rfl, z, hz2, rfl, rfl, hT⟩
  · have : i = s.length := by omega
    subst this
    have hr : h = ofN s := by rw [← hT]; simp -implicitDefEqProofs (maxSteps := 400000) (maxDischargeDepth := 6) [ofF]
    have c7 : IntKind.wrap .u32 (h : Int) = h := by rw [wrap32_mod]; omega
    rw [hr] at c7 k3
    simp -implicitDefEqProofs (maxSteps := 400000) (maxDischargeDepth := 6) [s55L0, k0, k3, k6, k7, c7]

theorem spelt_ev (h : Nat) (hh : h < 4294967296) : PEv Try.prog 54 [.c (.raw (.int .u32 h))] (.c (.str (speltN h))) := by
  refine tells_of mixed (F := []) trivial Try.func54 sl54 ok54 (by kernel_rfl) (by simp -implicitDefEqProofs (maxSteps := 400000) (maxDischargeDepth := 6)) (by simp -implicitDefEqProofs (maxSteps := 400000) (maxDischargeDepth := 6)) ?_
  have c : ∀ k : Nat, (h : Int).fdiv (2 ^ k) = ((h / 2 ^ k : Nat) : Int) := fun k => by
    rw [Int.fdiv_eq_ediv_of_nonneg _ (by exact Int.pow_nonneg (by omega))]
    push_cast
    rfl
  have w8 : ∀ n : Nat, IntKind.wrap .u8 (n : Int) = ((n % 256 : Nat) : Int) := fun n => by rw [wrap8_mod (by omega)]; omega
  have u8 : ∀ n : Nat, UInt8.ofNat (n % 256) = UInt8.ofNat n := fun n => by
    apply UInt8.toNat_inj.1
    simp -implicitDefEqProofs (maxSteps := 400000) (maxDischargeDepth := 6)
  have b : IntKind.bits .u32 = 32 := rfl
  have c1 := c 24
  have c2 := c 16
  have c3 := c 8
  simp only [show (2 : Nat) ^ 24 = 16777216 from rfl, show (2 : Nat) ^ 16 = 65536 from rfl, show (2 : Nat) ^ 8 = 256 from rfl, show (2 : Int) ^ 24 = 16777216 from rfl, show (2 : Int) ^ 16 = 65536 from rfl, show (2 : Int) ^ 8 = 256 from rfl] at c1 c2 c3
  obtain ⟨x1, h1⟩ : ∃ x, h / 16777216 = x := ⟨_, rfl⟩
  obtain ⟨x2, h2⟩ : ∃ x, h / 65536 = x := ⟨_, rfl⟩
  obtain ⟨x3, h3⟩ : ∃ x, h / 256 = x := ⟨_, rfl⟩
  rw [h1] at c1
  rw [h2] at c2
  rw [h3] at c3
  have v0 := w8 h
  have v1 := w8 x1
  have v2 := w8 x2
  have v3 := w8 x3
  obtain ⟨y0, g0⟩ : ∃ x, h % 256 = x := ⟨_, rfl⟩
  obtain ⟨y1, g1⟩ : ∃ x, x1 % 256 = x := ⟨_, rfl⟩
  obtain ⟨y2, g2⟩ : ∃ x, x2 % 256 = x := ⟨_, rfl⟩
  obtain ⟨y3, g3⟩ : ∃ x, x3 % 256 = x := ⟨_, rfl⟩
  rw [g0] at v0
  rw [g1] at v1
  rw [g2] at v2
  rw [g3] at v3
  simp -implicitDefEqProofs (maxSteps := 400000) (maxDischargeDepth := 6) [s54, b, c1, c2, c3, v0, v1, v2, v3]
  rw [speltN, h1, h2, h3, ← u8 x1, ← u8 x2, ← u8 x3, ← u8 h, g0, g1, g2, g3]

def FS0_h89 : List AV → Option (Prop × AV) := t1 (fun s => s.length < 4611686018427387904) fun s : List UInt8 => takeTextAV s
@[simp] theorem FS0_ap89 {l : List AV} : FS0_h89 l = (t1 (fun s => s.length < 4611686018427387904) fun s : List UInt8 => takeTextAV s) l := rfl
def FS0_h53 : List AV → Option (Prop × AV) := t1 (fun s => s.length < 140737488355328) fun s : List UInt8 => .c (.str (bytesN s.length ++ s))
@[simp] theorem FS0_ap53 {l : List AV} : FS0_h53 l = (t1 (fun s => s.length < 140737488355328) fun s : List UInt8 => .c (.str (bytesN s.length ++ s))) l := rfl
def FS0_h55 : List AV → Option (Prop × AV) := t1 (fun s => s.length < 4611686018427387904) fun s : List UInt8 => .c (.raw (.int .u32 (ofN s)))
@[simp] theorem FS0_ap55 {l : List AV} : FS0_h55 l = (t1 (fun s => s.length < 4611686018427387904) fun s : List UInt8 => .c (.raw (.int .u32 (ofN s)))) l := rfl
def FS0_h54 : List AV → Option (Prop × AV) := t1 (fun w => w.n < 4294967296) fun w : W32 => .c (.str (speltN w.n))
@[simp] theorem FS0_ap54 {l : List AV} : FS0_h54 l = (t1 (fun w => w.n < 4294967296) fun w : W32 => .c (.str (speltN w.n))) l := rfl
def FS0 : CT := (89, .pu FS0_h89) :: (53, .pu FS0_h53) :: (55, .pu FS0_h55) :: (54, .pu FS0_h54) :: FN1
theorem FS0_ok : CTok Try.prog FS0 := ⟨tells1 fun s h => numTakeText_ev s h,
  tells1 fun s h => numText_ev s h,
  tells1 fun s h => sealOf_ev s h,
  tells1 fun w h => spelt_ev w.n h, FN1_ok⟩
@[simp] theorem FS0_get89 : ctGet FS0 89 = some (.pu FS0_h89) := rfl
@[simp] theorem FS0_get53 : ctGet FS0 53 = some (.pu FS0_h53) := rfl
@[simp] theorem FS0_get55 : ctGet FS0 55 = some (.pu FS0_h55) := rfl
@[simp] theorem FS0_get54 : ctGet FS0 54 = some (.pu FS0_h54) := rfl
@[simp] theorem FS0_skip {n : Nat} (h : (n == 89 || n == 53 || n == 55 || n == 54) = false) : ctGet FS0 n = ctGet FN1 n := by
  simp only [Bool.or_eq_false_iff, beq_eq_false_iff_ne, ne_eq] at h
  simp [FS0, ctGet, h]

theorem ofN_lt (s : List UInt8) : ofN s < 4294967296 := Nat.lt_trans (ofF_lt s 1 (by omega)) (by omega)

theorem bytesN_len (n : Nat) : (bytesN n).length ≤ 10 := by
  have h9 : ∀ (k n : Nat), (bytesF k n).length ≤ k + 1 := by
    intro k
    induction k with
    | zero => intro n; simp -implicitDefEqProofs (maxSteps := 400000) (maxDischargeDepth := 6) [bytesF]
    | succ k ih =>
      intro n
      rw [bytesF]
      split
      · simp -implicitDefEqProofs (maxSteps := 400000) (maxDischargeDepth := 6)
      · have := ih (n / 128); simp -implicitDefEqProofs (maxSteps := 400000) (maxDischargeDepth := 6); omega
  exact h9 9 n

theorem sealAdd_ev (s : List UInt8) (hs : s.length < 4611686018427387904) : PEv Try.prog 36 [.c (.str s)] (.c (.str (sealA s))) := by
  refine tells_of mixed FS0_ok Try.func36 sl36 ok36 (by kernel_rfl) (by simp -implicitDefEqProofs (maxSteps := 400000) (maxDischargeDepth := 6)) (by simp -implicitDefEqProofs (maxSteps := 400000) (maxDischargeDepth := 6)) ?_
  have hb := bytesN_len s.length
  by_cases h7 : 700 < s.length
  · have h7' : (700 : Int) < s.length := by omega
    simp -implicitDefEqProofs (maxSteps := 400000) (maxDischargeDepth := 6) [s36, h7', sealA, h7]
  · have h7' : ¬ (700 : Int) < s.length := by omega
    have l1 : (speltN (ofN (bytesN s.length ++ s))).length = 4 := rfl
    simp -implicitDefEqProofs (maxSteps := 400000) (maxDischargeDepth := 6) [s36, h7', sealA, h7, ofN_lt, l1, show s.length < 9223372036854775808 by omega]
    omega

def sealTAV (s : List UInt8) : AV := match sealT s with
  | some (t, r) => .t [(false, [.str t]), (false, [.str r]), (false, [.raw (.bool true)])]
  | none => .t [(false, [.str []]), (false, [.str []]), (false, [.raw (.bool false)])]

theorem sealTake_ev (s : List UInt8) (hs : s.length < 4611686018427387904) : PEv Try.prog 39 [.c (.str s)] (sealTAV s) := by
  refine tells_of mixed FS0_ok Try.func39 sl39 ok39 (by kernel_rfl) (by unfold sealTAV; split <;> simp -implicitDefEqProofs (maxSteps := 400000) (maxDischargeDepth := 6)) (by simp -implicitDefEqProofs (maxSteps := 400000) (maxDischargeDepth := 6)) ?_
  cases hn : takeN s with
  | none =>
    simp -implicitDefEqProofs (maxSteps := 400000) (maxDischargeDepth := 6) [s39, hs, takeAV_none hn.symm]
    simp -implicitDefEqProofs (maxSteps := 400000) (maxDischargeDepth := 6) [sealTAV, sealT, hn]
  | some q =>
    obtain ⟨n, r⟩ := q
    obtain ⟨h1, h2⟩ := takeN_len hn
    by_cases h7 : 700 < n
    · have h7' : (700 : Int) < n := by omega
      simp -implicitDefEqProofs (maxSteps := 400000) (maxDischargeDepth := 6) [s39, hs, takeAV_some hn.symm, h7']
      simp -implicitDefEqProofs (maxSteps := 400000) (maxDischargeDepth := 6) [sealTAV, sealT, hn, h7]
    · have h7' : ¬ (700 : Int) < n := by omega
      have e1 : IntKind.wrap .i64 ((r.length : Int) - 4) = (r.length : Int) - 4 := by rw [wrap64_id] <;> omega
      by_cases h8 : r.length < n + 4
      · have h8' : (r.length : Int) - 4 < n := by omega
        simp -implicitDefEqProofs (maxSteps := 400000) (maxDischargeDepth := 6) [s39, hs, takeAV_some hn.symm, h7', e1, h8']
        simp -implicitDefEqProofs (maxSteps := 400000) (maxDischargeDepth := 6) [sealTAV, sealT, hn, h7, h8]
      · have h8' : ¬ (r.length : Int) - 4 < n := by omega
        have e2 : IntKind.wrap .i64 ((s.length : Int) - r.length) = ((s.length - r.length : Nat) : Int) := by rw [wrap64_id] <;> omega
        have e3 : IntKind.wrap .i64 (4 + (n : Int)) = ((4 + n : Nat) : Int) := by rw [wrap64_id] <;> omega
        obtain ⟨a, ha⟩ : ∃ a, s.length - r.length = a := ⟨_, rfl⟩
        obtain ⟨b, hb⟩ : ∃ b, 4 + n = b := ⟨_, rfl⟩
        rw [ha] at e2
        rw [hb] at e3
        have e4 : a ≤ s.length := by omega
        have e5 : b ≤ r.length := by omega
        have e6 : 4 ≤ b := by omega
        have e7 : 4 ≤ r.length := by omega
        by_cases hc : r.take 4 = speltN (ofN (s.take a ++ (r.take b).drop 4))
        · simp -implicitDefEqProofs (maxSteps := 400000) (maxDischargeDepth := 6) [s39, hs, takeAV_some hn.symm, h7', e1, h8', e2, e3, e4, e5, e6, e7, ofN_lt, hc]
          refine ⟨by omega, by omega, by omega, by omega, ?_⟩
          simp -implicitDefEqProofs (maxSteps := 400000) (maxDischargeDepth := 6) [sealTAV, sealT, hn, h7, h8, ha, hb, hc]
        · simp -implicitDefEqProofs (maxSteps := 400000) (maxDischargeDepth := 6) [s39, hs, takeAV_some hn.symm, h7', e1, h8', e2, e3, e4, e5, e6, e7, ofN_lt, hc]
          refine ⟨by omega, by omega, by omega, by omega, ?_⟩
          simp -implicitDefEqProofs (maxSteps := 400000) (maxDischargeDepth := 6) [sealTAV, sealT, hn, h7, h8, ha, hb, hc]

def FS1_h36 : List AV → Option (Prop × AV) := t1 (fun s => s.length < 4611686018427387904) fun s : List UInt8 => .c (.str (sealA s))
@[simp] theorem FS1_ap36 {l : List AV} : FS1_h36 l = (t1 (fun s => s.length < 4611686018427387904) fun s : List UInt8 => .c (.str (sealA s))) l := rfl
def FS1_h39 : List AV → Option (Prop × AV) := t1 (fun s => s.length < 4611686018427387904) fun s : List UInt8 => sealTAV s
@[simp] theorem FS1_ap39 {l : List AV} : FS1_h39 l = (t1 (fun s => s.length < 4611686018427387904) fun s : List UInt8 => sealTAV s) l := rfl
def FS1 : CT := (36, .pu FS1_h36) :: (39, .pu FS1_h39) :: FS0
theorem FS1_ok : CTok Try.prog FS1 := ⟨tells1 fun s h => sealAdd_ev s h,
  tells1 fun s h => sealTake_ev s h, FS0_ok⟩
@[simp] theorem FS1_get36 : ctGet FS1 36 = some (.pu FS1_h36) := rfl
@[simp] theorem FS1_get39 : ctGet FS1 39 = some (.pu FS1_h39) := rfl
@[simp] theorem FS1_skip {n : Nat} (h : (n == 36 || n == 39) = false) : ctGet FS1 n = ctGet FS0 n := by
  simp only [Bool.or_eq_false_iff, beq_eq_false_iff_ne, ne_eq] at h
  simp [FS1, ctGet, h]

end Go.AE

/- strings.ContainsFunc's contract of the kit, at this program's numbers. -/
set_option maxRecDepth 100000
namespace Go.AE
open Go Go.Proofs Go.Shelf

def lays17_ren : Go.Shelf.Ren := ⟨fun | 15 => 86 | 17 => 77 | 20 => 90 | n => n, fun | 0 => 0 | 3 => 3 | 4 => 4 | 9 => 9 | 21 => 21 | 23 => 130 | n => n, fun n => n⟩
theorem lays17 : LaysGw.n17 Try.prog lays17_ren where
  mixed := by kernel_rfl
  f15 := Try.func86.trans (congrArg some (by kernel_rfl))
  f17 := Try.func77.trans (congrArg some (by kernel_rfl))
  f20 := Try.func90.trans (congrArg some (by kernel_rfl))
  t0 := Try.underlying0
  a0 := Try.isAgg0
  z0 := Try.sizeOf0
  v0 := Try.zeroValue0
  i0 := by kernel_rfl
  t3 := Try.underlying3
  a3 := Try.isAgg3
  z3 := Try.sizeOf3
  v3 := Try.zeroValue3
  i3 := by kernel_rfl
  t4 := Try.underlying4
  a4 := Try.isAgg4
  z4 := Try.sizeOf4
  v4 := Try.zeroValue4
  i4 := by kernel_rfl
  t9 := Try.underlying9
  a9 := Try.isAgg9
  z9 := Try.sizeOf9
  v9 := Try.zeroValue9
  i9 := by kernel_rfl
  t21 := Try.underlying21
  a21 := Try.isAgg21
  z21 := Try.sizeOf21
  v21 := Try.zeroValue21
  i21 := by kernel_rfl
  t23 := Try.underlying130
  a23 := Try.isAgg130
  z23 := Try.sizeOf130
  v23 := Try.zeroValue130
  i23 := by kernel_rfl

end Go.AE

/- What the library has proved of Go's own functions, at this program's numbers. Printed by a program of this session. -/
namespace Go.AE
open Go Go.Proofs Go.Shelf

def lays195_ren : Go.Shelf.Ren := ⟨fun | 195 => 79 | n => n, fun | 9 => 9 | 3 => 3 | 0 => 0 | 4 => 4 | n => n, fun  | n => n⟩
theorem lays195 : Lays.n195 Try.prog lays195_ren where
  mixed := by kernel_rfl
  f195 := Try.func79.trans (congrArg some (by kernel_rfl))
  t0 := Try.underlying0
  a0 := Try.isAgg0
  z0 := Try.sizeOf0
  v0 := Try.zeroValue0
  t3 := Try.underlying3
  a3 := Try.isAgg3
  z3 := Try.sizeOf3
  v3 := Try.zeroValue3
  t4 := Try.underlying4
  a4 := Try.isAgg4
  z4 := Try.sizeOf4
  v4 := Try.zeroValue4
  t9 := Try.underlying9
  a9 := Try.isAgg9
  z9 := Try.sizeOf9
  v9 := Try.zeroValue9

end Go.AE

/- Ops: what they tell. -/
set_option linter.unusedVariables false
set_option linter.unusedSimpArgs false
set_option maxHeartbeats 2000000
set_option maxRecDepth 100000
namespace Go.AE
open Go Go.Proofs

/-- A rune that may be. -/
def runeB (r : Int) : Bool := r == 10 || (decide (32 ≤ r) && decide (r ≤ 1114111) && r != 127 && r != 65533 && (decide (r ≤ 55295) || decide (57344 ≤ r)))

instance argR : Arg (Int × Unit) where
  enc r := .c (.raw (.int .i32 r.1))
  dec | .c (.raw (.int .i32 n)) => some (n, ()) | _ => none
  dec_some {x a} h := by split at h <;> simp_all; subst h; rfl
@[simp] theorem dec_R (n : Int) : (Arg.dec (.c (.raw (.int .i32 n))) : Option (Int × Unit)) = some (n, ()) := rfl
@[simp] theorem enc_R (r : Int × Unit) : Arg.enc r = .c (.raw (.int .i32 r.1)) := rfl

theorem textIs_ev (r : Int) : PEv Try.prog 87 [.c (.raw (.int .i32 r))] (.c (.raw (.bool (runeB r)))) := by
  refine tells_of mixed (F := []) trivial Try.func87 sl87 ok87 (by kernel_rfl) (by simp -implicitDefEqProofs (maxSteps := 400000) (maxDischargeDepth := 6)) (by simp -implicitDefEqProofs (maxSteps := 400000) (maxDischargeDepth := 6)) ?_
  by_cases h0 : r = 10
  · simp -implicitDefEqProofs (maxSteps := 400000) (maxDischargeDepth := 6) [s87, h0, runeB]
  · by_cases h1 : r < 32
    · simp -implicitDefEqProofs (maxSteps := 400000) (maxDischargeDepth := 6) [s87, h0, h1, runeB, show ¬ 32 ≤ r by omega]
    · by_cases h2 : 1114111 < r
      · simp -implicitDefEqProofs (maxSteps := 400000) (maxDischargeDepth := 6) [s87, h0, h1, h2, runeB, show ¬ r ≤ 1114111 by omega]
      · by_cases h3 : r = 127
        · subst h3; simp -implicitDefEqProofs (maxSteps := 400000) (maxDischargeDepth := 6) [s87, runeB]
        · by_cases h4 : r = 65533
          · subst h4; simp -implicitDefEqProofs (maxSteps := 400000) (maxDischargeDepth := 6) [s87, runeB]
          · by_cases h5 : r ≤ 55295
            · simp -implicitDefEqProofs (maxSteps := 400000) (maxDischargeDepth := 6) [s87, h0, h1, h2, h3, h4, h5, runeB]
              omega
            · by_cases h6 : 57344 ≤ r
              · simp -implicitDefEqProofs (maxSteps := 400000) (maxDischargeDepth := 6) [s87, h0, h1, h2, h3, h4, h5, h6, runeB]
                omega
              · simp -implicitDefEqProofs (maxSteps := 400000) (maxDischargeDepth := 6) [s87, h0, h1, h2, h3, h4, h5, h6, runeB]

def FO0_h87 : List AV → Option (Prop × AV) := t1 (fun _ => True) fun r : Int × Unit => .c (.raw (.bool (runeB r.1)))
@[simp] theorem FO0_ap87 {l : List AV} : FO0_h87 l = (t1 (fun _ => True) fun r : Int × Unit => .c (.raw (.bool (runeB r.1)))) l := rfl
def FO0 : CT := (87, .pu FO0_h87) :: FS1
theorem FO0_ok : CTok Try.prog FO0 := ⟨tells1 fun r _ => textIs_ev r.1, FS1_ok⟩
@[simp] theorem FO0_get87 : ctGet FO0 87 = some (.pu FO0_h87) := rfl
@[simp] theorem FO0_skip {n : Nat} (h : (n == 87) = false) : ctGet FO0 n = ctGet FS1 n := by
  simp only [Bool.or_eq_false_iff, beq_eq_false_iff_ne, ne_eq] at h
  simp [FO0, ctGet, h]

theorem textBad_ev (r : Int) : PEv Try.prog 78 [.c (.raw (.int .i32 r))] (.c (.raw (.bool (!runeB r)))) := by
  refine tells_of mixed FO0_ok Try.func78 sl78 ok78 (by kernel_rfl) (by simp -implicitDefEqProofs (maxSteps := 400000) (maxDischargeDepth := 6)) (by simp -implicitDefEqProofs (maxSteps := 400000) (maxDischargeDepth := 6)) ?_
  simp -implicitDefEqProofs (maxSteps := 400000) (maxDischargeDepth := 6) [s78]

/-- A text that may be. -/
def textB (s : List UInt8) : Bool := !decide (0 ≤ Lib.idxFunc (fun r => !runeB (r : Int)) true ⟨s.toArray⟩)

theorem pev_bool_calls {f : FuncId} {args : List AV} {b : Bool} (hp : PEv Try.prog f args (.c (.raw (.bool b)))) {w : World} (hI : Inv Try.prog w) {vs : Array Value} (hs : vs.size = args.length)
    (hr : ∀ (k : Nat) x, args[k]? = some x → RelV w (Fr (Ctx.of w hI fun _ _ => True) noHeap noLies) noHeap noLies x (vs.getD k undef)) :
    Calls Try.prog f vs w fun e w' => e = .returned (.bool b) ∧ RowKit.Below w.heap.size w w' := by
  refine (hp.2 w hI (fun _ _ => True) vs hs hr (fun k => (0, k)) (fun i j h => by simpa using h)).mono ?_
  rintro e w' ⟨v, rfl, ρ, hH, hR⟩
  have hv := relC_raw (relV_c hR)
  subst hv
  exact ⟨rfl, hH.below⟩

theorem containsBad_ev (s : List UInt8) : PEv Try.prog 77 [.c (.str s), .c (.fn 78 [])] (.c (.raw (.bool (decide (0 ≤ Lib.idxFunc (fun r => !runeB (r : Int)) true ⟨s.toArray⟩))))) := by
  refine pev_raw (by kernel_rfl) (by simp -implicitDefEqProofs (maxSteps := 400000) (maxDischargeDepth := 6)) fun w hI F vs hs hr => ?_
  have h0 := relC_str (relV_c (hr 0 _ rfl))
  have h1 : vs.getD 1 undef = .func (.func 78) #[] #[] := by
    have := relV_c (hr 1 _ rfl)
    generalize vs.getD 1 undef = u at this
    cases this with
    | fn _ _ us hl _ =>
      obtain rfl : us = #[] := by
        cases us; simp -implicitDefEqProofs (maxSteps := 400000) (maxDischargeDepth := 6) at hl; subst hl; rfl
      rfl
  rw [vs2 hs h0 h1]
  refine Any.strings_ContainsFunc_grows lays17 78 #[] (fun args w => callFunc_run (by kernel_rfl) args w) (fun r => !runeB (r : Int)) ⟨s.toArray⟩ w ?_
  intro W x _ hb
  exact pev_bool_calls (textBad_ev (x : Int)) (hI.keep hb) rfl fun k y hk => by
    match k, hk with
    | 0, hk =>
      simp -implicitDefEqProofs (maxSteps := 400000) (maxDischargeDepth := 6) at hk
      subst hk
      exact .c _ _ (.raw _)

theorem textMay_ev (s : List UInt8) : PEv Try.prog 70 [.c (.str s)] (.c (.raw (.bool (textB s)))) := by
  refine tells_of mixed FO0_ok Try.func70 sl70 ok70 (by kernel_rfl) (by simp -implicitDefEqProofs (maxSteps := 400000) (maxDischargeDepth := 6)) (by simp -implicitDefEqProofs (maxSteps := 400000) (maxDischargeDepth := 6)) ?_
  simp -implicitDefEqProofs (maxSteps := 400000) (maxDischargeDepth := 6) [s70]
  refine acall_pure (containsBad_ev s) (by simp -implicitDefEqProofs (maxSteps := 400000) (maxDischargeDepth := 6)) (by simp -implicitDefEqProofs (maxSteps := 400000) (maxDischargeDepth := 6)) (by simp -implicitDefEqProofs (maxSteps := 400000) (maxDischargeDepth := 6)) ?_
  simp -implicitDefEqProofs (maxSteps := 400000) (maxDischargeDepth := 6) [textB]

def runesN (s : List UInt8) : Nat := Lib.runeCount ⟨s.toArray⟩

theorem runeCount_ev (s : List UInt8) (hs : s.length < 9223372036854775807) : PEv Try.prog 79 [.c (.str s)] (.c (.raw (.int .i64 (runesN s)))) := by
  refine pev_raw (by kernel_rfl) (by simp -implicitDefEqProofs (maxSteps := 400000) (maxDischargeDepth := 6)) fun w hI F vs hs' hr => ?_
  have h0 := relC_str (relV_c (hr 0 _ rfl))
  rw [vs1 hs' h0]
  refine (Any.utf8_RuneCountInString lays195 ⟨s.toArray⟩ w (by simpa [ByteArray.size] using hs)).mono ?_
  rintro e w' ⟨he, pos, rfl⟩
  exact ⟨he, (RowKit.Below.refl _ w).alloc (Nat.le_refl _) _⟩

def FO1_h70 : List AV → Option (Prop × AV) := t1 (fun _ => True) fun s : List UInt8 => .c (.raw (.bool (textB s)))
@[simp] theorem FO1_ap70 {l : List AV} : FO1_h70 l = (t1 (fun _ => True) fun s : List UInt8 => .c (.raw (.bool (textB s)))) l := rfl
def FO1_h79 : List AV → Option (Prop × AV) := t1 (fun s => s.length < 9223372036854775807) fun s : List UInt8 => .c (.raw (.int .i64 (runesN s)))
@[simp] theorem FO1_ap79 {l : List AV} : FO1_h79 l = (t1 (fun s => s.length < 9223372036854775807) fun s : List UInt8 => .c (.raw (.int .i64 (runesN s)))) l := rfl
def FO1 : CT := (70, .pu FO1_h70) :: (79, .pu FO1_h79) :: FO0
theorem FO1_ok : CTok Try.prog FO1 := ⟨tells1 fun s _ => textMay_ev s,
  tells1 fun s h => runeCount_ev s h, FO0_ok⟩
@[simp] theorem FO1_get70 : ctGet FO1 70 = some (.pu FO1_h70) := rfl
@[simp] theorem FO1_get79 : ctGet FO1 79 = some (.pu FO1_h79) := rfl
@[simp] theorem FO1_skip {n : Nat} (h : (n == 70 || n == 79) = false) : ctGet FO1 n = ctGet FO0 n := by
  simp only [Bool.or_eq_false_iff, beq_eq_false_iff_ne, ne_eq] at h
  simp [FO1, ctGet, h]

theorem isSite_ev (n : Int) : PEv Try.prog 67 [.c (.raw (.int .i64 n))] (.c (.raw (.bool (decide (1 ≤ n ∧ n ≤ 8))))) := by
  refine tells_of mixed (F := []) trivial Try.func67 sl67 ok67 (by kernel_rfl) (by simp -implicitDefEqProofs (maxSteps := 400000) (maxDischargeDepth := 6)) (by simp -implicitDefEqProofs (maxSteps := 400000) (maxDischargeDepth := 6)) ?_
  by_cases h1 : 1 ≤ n
  · by_cases h2 : n ≤ 8
    · simp -implicitDefEqProofs (maxSteps := 400000) (maxDischargeDepth := 6) [s67, h1, h2]
    · simp -implicitDefEqProofs (maxSteps := 400000) (maxDischargeDepth := 6) [s67, h1, h2]
  · simp -implicitDefEqProofs (maxSteps := 400000) (maxDischargeDepth := 6) [s67, h1]

theorem cmpNaN_ev (n : Int) : PEv Try.prog 93 [.c (.raw (.int .i64 n))] (.c (.raw (.bool false))) := by
  refine tells_of mixed (F := []) trivial Try.func93 sl93 ok93 (by kernel_rfl) (by simp -implicitDefEqProofs (maxSteps := 400000) (maxDischargeDepth := 6)) (by simp -implicitDefEqProofs (maxSteps := 400000) (maxDischargeDepth := 6)) ?_
  simp -implicitDefEqProofs (maxSteps := 400000) (maxDischargeDepth := 6) [s93]

/-- How two numbers stand. -/
def cmpI (a b : Int) : Int := if a < b then -1 else if b < a then 1 else 0
def nameB (site seq : Int) : Bool := decide (1 ≤ site ∧ site ≤ 8) && decide (1 ≤ seq ∧ seq ≤ 268435456)

def FO2_h67 : List AV → Option (Prop × AV) := t1 (fun _ => True) fun n : Int => .c (.raw (.bool (decide (1 ≤ n ∧ n ≤ 8))))
@[simp] theorem FO2_ap67 {l : List AV} : FO2_h67 l = (t1 (fun _ => True) fun n : Int => .c (.raw (.bool (decide (1 ≤ n ∧ n ≤ 8))))) l := rfl
def FO2_h93 : List AV → Option (Prop × AV) := t1 (fun _ => True) fun n : Int => .c (.raw (.bool false))
@[simp] theorem FO2_ap93 {l : List AV} : FO2_h93 l = (t1 (fun _ => True) fun n : Int => .c (.raw (.bool false))) l := rfl
def FO2 : CT := (67, .pu FO2_h67) :: (93, .pu FO2_h93) :: FO1
theorem FO2_ok : CTok Try.prog FO2 := ⟨tells1 fun n _ => isSite_ev n,
  tells1 fun n _ => cmpNaN_ev n, FO1_ok⟩
@[simp] theorem FO2_get67 : ctGet FO2 67 = some (.pu FO2_h67) := rfl
@[simp] theorem FO2_get93 : ctGet FO2 93 = some (.pu FO2_h93) := rfl
@[simp] theorem FO2_skip {n : Nat} (h : (n == 67 || n == 93) = false) : ctGet FO2 n = ctGet FO1 n := by
  simp only [Bool.or_eq_false_iff, beq_eq_false_iff_ne, ne_eq] at h
  simp [FO2, ctGet, h]

theorem cmp_ev (a b : Int) : PEv Try.prog 92 [.c (.raw (.int .i64 a)), .c (.raw (.int .i64 b))] (.c (.raw (.int .i64 (cmpI a b)))) := by
  refine tells_of mixed FO2_ok Try.func92 sl92 ok92 (by kernel_rfl) (by simp -implicitDefEqProofs (maxSteps := 400000) (maxDischargeDepth := 6)) (by simp -implicitDefEqProofs (maxSteps := 400000) (maxDischargeDepth := 6)) ?_
  by_cases h1 : a < b
  · simp -implicitDefEqProofs (maxSteps := 400000) (maxDischargeDepth := 6) [s92, h1, cmpI]
  · by_cases h2 : b < a
    · simp -implicitDefEqProofs (maxSteps := 400000) (maxDischargeDepth := 6) [s92, h1, h2, cmpI]
    · simp -implicitDefEqProofs (maxSteps := 400000) (maxDischargeDepth := 6) [s92, h1, h2, cmpI]

theorem opName_ev (a b : Int) : PEv Try.prog 48 [.c (.raw (.int .i64 a)), .c (.raw (.int .i64 b))] (.c (.raw (.bool (nameB a b)))) := by
  refine tells_of mixed FO2_ok Try.func48 sl48 ok48 (by kernel_rfl) (by simp -implicitDefEqProofs (maxSteps := 400000) (maxDischargeDepth := 6)) (by simp -implicitDefEqProofs (maxSteps := 400000) (maxDischargeDepth := 6)) ?_
  by_cases h1 : 1 ≤ a ∧ a ≤ 8
  · by_cases h2 : 1 ≤ b
    · by_cases h3 : b ≤ 268435456
      · simp -implicitDefEqProofs (maxSteps := 400000) (maxDischargeDepth := 6) [s48, h1, h2, h3, nameB]
      · simp -implicitDefEqProofs (maxSteps := 400000) (maxDischargeDepth := 6) [s48, h1, h2, h3, nameB]
    · simp -implicitDefEqProofs (maxSteps := 400000) (maxDischargeDepth := 6) [s48, h1, h2, nameB]
  · simp -implicitDefEqProofs (maxSteps := 400000) (maxDischargeDepth := 6) [s48, h1, nameB]

end Go.AE

/- Ops: which may be. -/
set_option linter.unusedVariables false
set_option linter.unusedSimpArgs false
set_option maxHeartbeats 4000000
set_option maxRecDepth 100000
namespace Go.AE
open Go Go.Proofs

def FO3_h92 : List AV → Option (Prop × AV) := t2 (fun _ _ => True) fun a b : Int => .c (.raw (.int .i64 (cmpI a b)))
@[simp] theorem FO3_ap92 {l : List AV} : FO3_h92 l = (t2 (fun _ _ => True) fun a b : Int => .c (.raw (.int .i64 (cmpI a b)))) l := rfl
def FO3_h48 : List AV → Option (Prop × AV) := t2 (fun _ _ => True) fun a b : Int => .c (.raw (.bool (nameB a b)))
@[simp] theorem FO3_ap48 {l : List AV} : FO3_h48 l = (t2 (fun _ _ => True) fun a b : Int => .c (.raw (.bool (nameB a b)))) l := rfl
def FO3 : CT := (92, .pu FO3_h92) :: (48, .pu FO3_h48) :: FO2
theorem FO3_ok : CTok Try.prog FO3 := ⟨tells2 fun a b _ => cmp_ev a b,
  tells2 fun a b _ => opName_ev a b, FO2_ok⟩
@[simp] theorem FO3_get92 : ctGet FO3 92 = some (.pu FO3_h92) := rfl
@[simp] theorem FO3_get48 : ctGet FO3 48 = some (.pu FO3_h48) := rfl
@[simp] theorem FO3_skip {n : Nat} (h : (n == 92 || n == 48) = false) : ctGet FO3 n = ctGet FO2 n := by
  simp only [Bool.or_eq_false_iff, beq_eq_false_iff_ne, ne_eq] at h
  simp [FO3, ctGet, h]

/-- The first number that is not 0. -/
def orI : List Int → Int
  | [] => 0
  | x :: l => if x = 0 then orI l else x

theorem cmpOr_ev (l : List Int) (hl : l.length < 4611686018427387904) : PEv Try.prog 91 [.c (.sl .brw false (rowsE l))] (.c (.raw (.int .i64 (orI l)))) := by
  refine tells_of mixed (F := []) trivial Try.func91 sl91 ok91 (by kernel_rfl) (by simp -implicitDefEqProofs (maxSteps := 400000) (maxDischargeDepth := 6)) (by simp -implicitDefEqProofs (maxSteps := 400000) (maxDischargeDepth := 6)) ?_
  simp -implicitDefEqProofs (maxSteps := 400000) (maxDischargeDepth := 6) [s91]
  refine loop_n (fun n st => ∃ i : Nat, i ≤ l.length ∧ n = l.length - i ∧ st.s 6 = .c (.sl .brw false (rowsE l)) ∧ st.s 3 = .c (.raw (.int .i64 0)) ∧ st.s 2 = .c (.raw (.int .i64 0)) ∧ st.s 7 = .c (.raw (.int .i64 l.length)) ∧ st.s 8 = .c (.raw (.int .i64 i)) ∧ orI (l.drop i) = orI l) l.length ⟨0, by simp -implicitDefEqProofs (maxSteps := 400000) (maxDischargeDepth := 6)⟩ ?_
  rintro n st ⟨i, hi, rfl, h6, h3, h2, h7, h8, hp⟩
  by_cases hlt : i < l.length
  · have hlt' : (i : Int) < l.length := by omega
    have hw : IntKind.wrap .i64 ((i : Int) + 1) = ((i + 1 : Nat) : Int) := by rw [wrap64_id] <;> omega
    have hd : l.drop i = l[i] :: l.drop (i + 1) := by rw [List.drop_eq_getElem_cons hlt]
    by_cases h0 : l[i] = 0
    · simp -implicitDefEqProofs (maxSteps := 400000) (maxDischargeDepth := 6) [s91L0, h6, h3, h2, h7, h8, hlt, hlt', hw, h0]
      refine ⟨_, ?_, i + 1, by omega, rfl, by simp -implicitDefEqProofs (maxSteps := 400000) (maxDischargeDepth := 6), ?_⟩
      · omega
      · rw [← hp, hd, orI, if_pos h0]
    · simp -implicitDefEqProofs (maxSteps := 400000) (maxDischargeDepth := 6) [s91L0, h6, h3, h2, h7, h8, hlt, hlt', hw, h0]
      rw [← hp, hd, orI, if_neg h0]
  · have : i = l.length := by omega
    subst this
    simp -implicitDefEqProofs (maxSteps := 400000) (maxDischargeDepth := 6) [s91L0, h6, h3, h2, h7, h8]
    rw [← hp]
    simp -implicitDefEqProofs (maxSteps := 400000) (maxDischargeDepth := 6) [orI]

def elemB (e : ElemV) : Bool := decide (e = ⟨0, 0, 0⟩) || (nameB e.site e.seq && decide (0 ≤ e.i) && decide (e.i < 12))

theorem isElem_ev (e : ElemV) : PEv Try.prog 68 [Arg.enc e] (.c (.raw (.bool (elemB e)))) := by
  refine tells_of mixed FO3_ok Try.func68 sl68 ok68 (by kernel_rfl) (by simp -implicitDefEqProofs (maxSteps := 400000) (maxDischargeDepth := 6)) (by simp -implicitDefEqProofs (maxSteps := 400000) (maxDischargeDepth := 6)) ?_
  obtain ⟨a, b, c⟩ := e
  by_cases h0 : a = 0 ∧ b = 0 ∧ c = 0
  · obtain ⟨rfl, rfl, rfl⟩ := h0
    simp -implicitDefEqProofs (maxSteps := 400000) (maxDischargeDepth := 6) [s68, elemB]
  · have h0' : (decide (a = 0) && (decide (b = 0) && decide (c = 0))) = false := by simpa using h0
    have h0'' : (decide ((⟨a, b, c⟩ : ElemV) = ⟨0, 0, 0⟩)) = false := by simpa using h0
    cases h1 : nameB a b
    · simp -implicitDefEqProofs (maxSteps := 400000) (maxDischargeDepth := 6) [s68, h0', h1, elemB, h0'']
    · by_cases h2 : 0 ≤ c
      · simp -implicitDefEqProofs (maxSteps := 400000) (maxDischargeDepth := 6) [s68, h0', h1, h2, elemB, h0'']
      · simp -implicitDefEqProofs (maxSteps := 400000) (maxDischargeDepth := 6) [s68, h0', h1, h2, elemB, h0'']

def ownB (o : OpV) (e : ElemV) : Bool := decide (e.site = o.site) && decide (e.seq = o.seq)

theorem own_ev (o : OpV) (e : ElemV) : PEv Try.prog 69 [Arg.enc o, Arg.enc e] (.c (.raw (.bool (ownB o e)))) := by
  refine tells_of mixed (F := []) trivial Try.func69 sl69 ok69 (by kernel_rfl) (by simp -implicitDefEqProofs (maxSteps := 400000) (maxDischargeDepth := 6)) (by simp -implicitDefEqProofs (maxSteps := 400000) (maxDischargeDepth := 6) [opRow]) ?_
  obtain ⟨o1, o2, o3, o4, o5, o6, o7, o8, o9⟩ := o
  obtain ⟨a, b, c⟩ := e
  by_cases h1 : a = o1
  · simp -implicitDefEqProofs (maxSteps := 400000) (maxDischargeDepth := 6) [s69, h1, ownB, opRow]
  · simp -implicitDefEqProofs (maxSteps := 400000) (maxDischargeDepth := 6) [s69, h1, ownB, opRow]

def compareE (a b : ElemV) : Int := orI [cmpI a.site b.site, cmpI a.seq b.seq, cmpI a.i b.i]

def FO4_h91 : List AV → Option (Prop × AV) := t1 (fun l => l.length < 4611686018427387904) fun l : List Int => .c (.raw (.int .i64 (orI l)))
@[simp] theorem FO4_ap91 {l : List AV} : FO4_h91 l = (t1 (fun l => l.length < 4611686018427387904) fun l : List Int => .c (.raw (.int .i64 (orI l)))) l := rfl
def FO4_h68 : List AV → Option (Prop × AV) := t1 (fun _ => True) fun e : ElemV => .c (.raw (.bool (elemB e)))
@[simp] theorem FO4_ap68 {l : List AV} : FO4_h68 l = (t1 (fun _ => True) fun e : ElemV => .c (.raw (.bool (elemB e)))) l := rfl
def FO4_h69 : List AV → Option (Prop × AV) := t2 (fun _ _ => True) fun (o : OpV) (e : ElemV) => .c (.raw (.bool (ownB o e)))
@[simp] theorem FO4_ap69 {l : List AV} : FO4_h69 l = (t2 (fun _ _ => True) fun (o : OpV) (e : ElemV) => .c (.raw (.bool (ownB o e)))) l := rfl
def FO4 : CT := (91, .pu FO4_h91) :: (68, .pu FO4_h68) :: (69, .pu FO4_h69) :: FO3
theorem FO4_ok : CTok Try.prog FO4 := ⟨tells1 fun l h => cmpOr_ev l h,
  tells1 fun e _ => isElem_ev e,
  tells2 fun o e _ => own_ev o e, FO3_ok⟩
@[simp] theorem FO4_get91 : ctGet FO4 91 = some (.pu FO4_h91) := rfl
@[simp] theorem FO4_get68 : ctGet FO4 68 = some (.pu FO4_h68) := rfl
@[simp] theorem FO4_get69 : ctGet FO4 69 = some (.pu FO4_h69) := rfl
@[simp] theorem FO4_skip {n : Nat} (h : (n == 91 || n == 68 || n == 69) = false) : ctGet FO4 n = ctGet FO3 n := by
  simp only [Bool.or_eq_false_iff, beq_eq_false_iff_ne, ne_eq] at h
  simp [FO4, ctGet, h]

theorem rows3 (a b c : Int) : [[AC.raw (.int .i64 a)], [AC.raw (.int .i64 b)], [AC.raw (.int .i64 c)]] = rowsE [a, b, c] := rfl
theorem take3 (a b c : Int) : List.take 3 (rowsE [a, b, c]) = rowsE [a, b, c] := rfl

theorem compare_ev (a b : ElemV) : PEv Try.prog 88 [Arg.enc a, Arg.enc b] (.c (.raw (.int .i64 (compareE a b)))) := by
  refine tells_of mixed FO4_ok Try.func88 sl88 ok88 (by kernel_rfl) (by simp -implicitDefEqProofs (maxSteps := 400000) (maxDischargeDepth := 6)) (by simp -implicitDefEqProofs (maxSteps := 400000) (maxDischargeDepth := 6)) ?_
  simp -implicitDefEqProofs (maxSteps := 400000) (maxDischargeDepth := 6) [s88, rows3, take3, compareE]

def FO5_h88 : List AV → Option (Prop × AV) := t2 (fun _ _ => True) fun (a b : ElemV) => .c (.raw (.int .i64 (compareE a b)))
@[simp] theorem FO5_ap88 {l : List AV} : FO5_h88 l = (t2 (fun _ _ => True) fun (a b : ElemV) => .c (.raw (.int .i64 (compareE a b)))) l := rfl
def FO5 : CT := (88, .pu FO5_h88) :: FO4
theorem FO5_ok : CTok Try.prog FO5 := ⟨tells2 fun a b _ => compare_ev a b, FO4_ok⟩
@[simp] theorem FO5_get88 : ctGet FO5 88 = some (.pu FO5_h88) := rfl
@[simp] theorem FO5_skip {n : Nat} (h : (n == 88) = false) : ctGet FO5 n = ctGet FO4 n := by
  simp only [Bool.or_eq_false_iff, beq_eq_false_iff_ne, ne_eq] at h
  simp [FO5, ctGet, h]

def lessB (a b : ElemV) : Bool := decide (compareE a b < 0)
theorem less_ev (a b : ElemV) : PEv Try.prog 80 [Arg.enc a, Arg.enc b] (.c (.raw (.bool (lessB a b)))) := by
  refine tells_of mixed FO5_ok Try.func80 sl80 ok80 (by kernel_rfl) (by simp -implicitDefEqProofs (maxSteps := 400000) (maxDischargeDepth := 6)) (by simp -implicitDefEqProofs (maxSteps := 400000) (maxDischargeDepth := 6)) ?_
  simp -implicitDefEqProofs (maxSteps := 400000) (maxDischargeDepth := 6) [s80, lessB]

theorem size_ev (o : OpV) (h : o.text.length < 9223372036854775807) : PEv Try.prog 71 [Arg.enc o] (.c (.raw (.int .i64 (runesN o.text)))) := by
  refine tells_of mixed FO5_ok Try.func71 sl71 ok71 (by kernel_rfl) (by simp -implicitDefEqProofs (maxSteps := 400000) (maxDischargeDepth := 6)) (by simp -implicitDefEqProofs (maxSteps := 400000) (maxDischargeDepth := 6) [opRow]) ?_
  simp -implicitDefEqProofs (maxSteps := 400000) (maxDischargeDepth := 6) [s71, opRow, h]

/-- Those that go, behind one. -/
def goneG (o : OpV) : Option ElemV → List ElemV → Bool
  | _, [] => true
  | p, e :: l => if decide (e = ⟨0, 0, 0⟩) || !elemB e || ownB o e || (match p with | none => false | some q => !lessB q e) then false else goneG o (some e) l
def goneB (o : OpV) : Bool := goneG o none o.gone && decide (o.gone.length ≤ 200)

def FO6_h80 : List AV → Option (Prop × AV) := t2 (fun _ _ => True) fun (a b : ElemV) => .c (.raw (.bool (lessB a b)))
@[simp] theorem FO6_ap80 {l : List AV} : FO6_h80 l = (t2 (fun _ _ => True) fun (a b : ElemV) => .c (.raw (.bool (lessB a b)))) l := rfl
def FO6_h71 : List AV → Option (Prop × AV) := t1 (fun o => o.text.length < 9223372036854775807) fun o : OpV => .c (.raw (.int .i64 (runesN o.text)))
@[simp] theorem FO6_ap71 {l : List AV} : FO6_h71 l = (t1 (fun o => o.text.length < 9223372036854775807) fun o : OpV => .c (.raw (.int .i64 (runesN o.text)))) l := rfl
def FO6 : CT := (80, .pu FO6_h80) :: (71, .pu FO6_h71) :: FO5
theorem FO6_ok : CTok Try.prog FO6 := ⟨tells2 fun a b _ => less_ev a b,
  tells1 fun o h => size_ev o h, FO5_ok⟩
@[simp] theorem FO6_get80 : ctGet FO6 80 = some (.pu FO6_h80) := rfl
@[simp] theorem FO6_get71 : ctGet FO6 71 = some (.pu FO6_h71) := rfl
@[simp] theorem FO6_skip {n : Nat} (h : (n == 80 || n == 71) = false) : ctGet FO6 n = ctGet FO5 n := by
  simp only [Bool.or_eq_false_iff, beq_eq_false_iff_ne, ne_eq] at h
  simp [FO6, ctGet, h]

end Go.AE

/- Ops: those that go. -/
set_option linter.unusedVariables false
set_option linter.unusedSimpArgs false
set_option maxHeartbeats 4000000
set_option maxRecDepth 100000
namespace Go.AE
open Go Go.Proofs

def prevE (l : List ElemV) : Nat → Option ElemV
  | 0 => none
  | i + 1 => l[i]?

theorem elem0 (e : ElemV) : (decide (e.site = 0) && (decide (e.seq = 0) && decide (e.i = 0))) = decide (e = ⟨0, 0, 0⟩) := by
  obtain ⟨a, b, c⟩ := e
  by_cases h1 : a = 0 <;> by_cases h2 : b = 0 <;> by_cases h3 : c = 0 <;> simp -implicitDefEqProofs (maxSteps := 400000) (maxDischargeDepth := 6) [h1, h2, h3]

theorem goneG_step (o : OpV) {i : Nat} (hi : i < o.gone.length) : goneG o (prevE o.gone i) (o.gone.drop i) =
    if decide (o.gone[i] = ⟨0, 0, 0⟩) || !elemB o.gone[i] || ownB o o.gone[i] || (match prevE o.gone i with | none => false | some q => !lessB q o.gone[i]) then false else goneG o (prevE o.gone (i + 1)) (o.gone.drop (i + 1)) := by
  rw [List.drop_eq_getElem_cons hi]
  have e : prevE o.gone (i + 1) = some o.gone[i] := by simp -implicitDefEqProofs (maxSteps := 400000) (maxDischargeDepth := 6) [prevE, hi]
  rw [e]
  cases prevE o.gone i <;> rfl

theorem gone_ev (o : OpV) (hl : o.gone.length < 4611686018427387904) : PEv Try.prog 72 [Arg.enc o] (.c (.raw (.bool (goneB o)))) := by
  refine tells_of mixed FO6_ok Try.func72 sl72 ok72 (by kernel_rfl) (by simp -implicitDefEqProofs (maxSteps := 400000) (maxDischargeDepth := 6)) (by simp -implicitDefEqProofs (maxSteps := 400000) (maxDischargeDepth := 6) [opRow]) ?_
  simp -implicitDefEqProofs (maxSteps := 400000) (maxDischargeDepth := 6) [s72, opRow]
  refine loop_n (fun n st => ∃ i : Nat, i ≤ o.gone.length ∧ n = o.gone.length - i ∧ st.s 1 = .c (.pt (0, 1) 0 0) ∧ st.s 6 = .c (.sl .brw false (rowsE o.gone)) ∧ st.s 7 = .c (.raw (.int .i64 o.gone.length)) ∧ st.s 8 = .c (.raw (.int .i64 i)) ∧ st.H (0, 1) = .arr 45 11 false [opRow .brw o] ∧ 0 < st.T ∧ Fresh st.H st.T ∧ goneG o (prevE o.gone i) (o.gone.drop i) = goneG o none o.gone) o.gone.length ⟨0, by simp -implicitDefEqProofs (maxSteps := 400000) (maxDischargeDepth := 6) [prevE, opRow]; exact Fresh.set' (fresh_no.mono (Nat.zero_le _)) (by simp -implicitDefEqProofs (maxSteps := 400000) (maxDischargeDepth := 6))⟩ ?_
  rintro n st ⟨i, hi, rfl, h1, h6, h7, h8, hH, hT, hf, hp⟩
  have hfu : ∀ k d, st.T ≤ k → st.H (k, d) = .unborn := hf
  by_cases hlt : i < o.gone.length
  · have hlt' : (i : Int) < o.gone.length := by omega
    have hw : IntKind.wrap .i64 ((i : Int) + 1) = ((i + 1 : Nat) : Int) := by rw [wrap64_id] <;> omega
    rw [goneG_step o hlt] at hp
    have hz := elem0 o.gone[i]
    cases z : decide (o.gone[i] = ⟨0, 0, 0⟩)
    · rw [z] at hz hp
      cases he : elemB o.gone[i]
      · have hg : goneB o = false := by simp -implicitDefEqProofs (maxSteps := 400000) (maxDischargeDepth := 6) [goneB, ← hp, he]
        simp -implicitDefEqProofs (maxSteps := 400000) (maxDischargeDepth := 6) [s72L0, h1, h6, h7, h8, hH, opRow, hlt, hlt', hw, hfu, hz, he, hg]
      · cases hw' : ownB o o.gone[i]
        · by_cases h0 : i = 0
          · subst h0
            have hp' : goneG o (prevE o.gone 1) (o.gone.drop 1) = goneG o none o.gone := by rw [← hp]; simp -implicitDefEqProofs (maxSteps := 400000) (maxDischargeDepth := 6) [he, hw', prevE]
            simp -implicitDefEqProofs (maxSteps := 400000) (maxDischargeDepth := 6) [s72L0, h1, h6, h7, h8, hH, opRow, hlt, hlt', hw, hfu, hz, he, hw']
            refine ⟨_, ?_, 1, by omega, rfl, rfl, ?_, hp'⟩
            · omega
            · repeat' (first | exact hf.mono (by first | omega | (simp <;> omega)) | (refine Fresh.set' ?_ (by first | omega | (simp <;> omega))))
          · obtain ⟨j, hj⟩ : ∃ j, j + 1 = i := ⟨i - 1, by omega⟩
            have hjl : j < o.gone.length := by omega
            have hpe : prevE o.gone i = some o.gone[j] := by subst hj; simp -implicitDefEqProofs (maxSteps := 400000) (maxDischargeDepth := 6) [prevE, hjl]
            have hs : IntKind.wrap .i64 ((i : Int) - 1) = (j : Int) := by rw [wrap64_id] <;> omega
            have hpos : 0 < i := by omega
            cases hl' : lessB o.gone[j] o.gone[i]
            · have hg : goneB o = false := by simp -implicitDefEqProofs (maxSteps := 400000) (maxDischargeDepth := 6) [goneB, ← hp, he, hpe, hl']
              simp -implicitDefEqProofs (maxSteps := 400000) (maxDischargeDepth := 6) [s72L0, h1, h6, h7, h8, hH, opRow, hlt, hlt', hw, hfu, hz, he, hw', hl', hs, hjl, hpos, h0, hg]
            · have hp' : goneG o (prevE o.gone (i + 1)) (o.gone.drop (i + 1)) = goneG o none o.gone := by rw [← hp]; simp -implicitDefEqProofs (maxSteps := 400000) (maxDischargeDepth := 6) [he, hw', hpe, hl']
              simp -implicitDefEqProofs (maxSteps := 400000) (maxDischargeDepth := 6) [s72L0, h1, h6, h7, h8, hH, opRow, hlt, hlt', hw, hfu, hz, he, hw', hl', hs, hjl, hpos, h0]
              refine ⟨_, ?_, i + 1, by omega, rfl, rfl, ?_, hp'⟩
              · omega
              · repeat' (first | exact hf.mono (by first | omega | (simp <;> omega)) | (refine Fresh.set' ?_ (by first | omega | (simp <;> omega))))
        · have hg : goneB o = false := by simp -implicitDefEqProofs (maxSteps := 400000) (maxDischargeDepth := 6) [goneB, ← hp, he, hw']
          simp -implicitDefEqProofs (maxSteps := 400000) (maxDischargeDepth := 6) [s72L0, h1, h6, h7, h8, hH, opRow, hlt, hlt', hw, hfu, hz, he, hw', hg]
    · rw [z] at hz hp
      have hg : goneB o = false := by simp -implicitDefEqProofs (maxSteps := 400000) (maxDischargeDepth := 6) [goneB, ← hp]
      simp -implicitDefEqProofs (maxSteps := 400000) (maxDischargeDepth := 6) [s72L0, h1, h6, h7, h8, hH, opRow, hlt, hlt', hw, hfu, hz, hg]
  · have : i = o.gone.length := by omega
    subst this
    simp -implicitDefEqProofs (maxSteps := 400000) (maxDischargeDepth := 6) at hp
    simp -implicitDefEqProofs (maxSteps := 400000) (maxDischargeDepth := 6) [s72L0, h1, h6, h7, h8, hH, opRow]
    have : goneG o none o.gone = true := by rw [← hp]; cases prevE o.gone o.gone.length <;> rfl
    simp -implicitDefEqProofs (maxSteps := 400000) (maxDischargeDepth := 6) [goneB, this]
    omega

end Go.AE

/- Ops and entries: which may be. -/
set_option linter.unusedVariables false
set_option linter.unusedSimpArgs false
set_option maxHeartbeats 4000000
set_option maxRecDepth 100000
namespace Go.AE
open Go Go.Proofs

def FO7_h72 : List AV → Option (Prop × AV) := t1 (fun o => o.gone.length < 4611686018427387904) fun o : OpV => .c (.raw (.bool (goneB o)))
@[simp] theorem FO7_ap72 {l : List AV} : FO7_h72 l = (t1 (fun o => o.gone.length < 4611686018427387904) fun o : OpV => .c (.raw (.bool (goneB o)))) l := rfl
def FO7_h70 : List AV → Option (Prop × AV) := t1 (fun _ => True) fun s : List UInt8 => .c (.raw (.bool (textB s)))
@[simp] theorem FO7_ap70 {l : List AV} : FO7_h70 l = (t1 (fun _ => True) fun s : List UInt8 => .c (.raw (.bool (textB s)))) l := rfl
def FO7 : CT := (72, .pu FO7_h72) :: (70, .pu FO7_h70) :: FO6
theorem FO7_ok : CTok Try.prog FO7 := ⟨tells1 fun o h => gone_ev o h,
  tells1 fun s _ => textMay_ev s, FO6_ok⟩
@[simp] theorem FO7_get72 : ctGet FO7 72 = some (.pu FO7_h72) := rfl
@[simp] theorem FO7_get70 : ctGet FO7 70 = some (.pu FO7_h70) := rfl
@[simp] theorem FO7_skip {n : Nat} (h : (n == 72 || n == 70) = false) : ctGet FO7 n = ctGet FO6 n := by
  simp only [Bool.or_eq_false_iff, beq_eq_false_iff_ne, ne_eq] at h
  simp [FO7, ctGet, h]

def okO (o : OpV) : Prop := o.text.length < 4611686018427387904 ∧ o.gone.length < 4611686018427387904

def editB (o : OpV) : Bool :=
  elemB o.after && !ownB o o.after && !(decide (o.text = []) && !decide (o.after = ⟨0, 0, 0⟩)) && !(decide (o.text = []) && decide (o.gone.length = 0)) &&
  textB o.text && decide (runesN o.text ≤ 12) && goneB o && decide (o.of_ = 0) && decide (o.num = 0) && decide (o.gen = 0)

theorem edit_ev (o : OpV) (ho : okO o) : PEv Try.prog 49 [Arg.enc o] (.c (.raw (.bool (editB o)))) := by
  refine tells_of mixed FO7_ok Try.func49 sl49 ok49 (by kernel_rfl) (by simp -implicitDefEqProofs (maxSteps := 400000) (maxDischargeDepth := 6)) (by simp -implicitDefEqProofs (maxSteps := 400000) (maxDischargeDepth := 6) [opRow]) ?_
  have hz := elem0 o.after
  have b1 : o.text.length < 9223372036854775807 := by have := ho.1; omega
  have b2 := ho.2
  have er : decide ((runesN o.text : Int) ≤ 12) = decide (runesN o.text ≤ 12) := by
    by_cases h : runesN o.text ≤ 12 <;> simp -implicitDefEqProofs (maxSteps := 400000) (maxDischargeDepth := 6) [h] <;> omega
  cases c1 : elemB o.after
  · simp -implicitDefEqProofs (maxSteps := 400000) (maxDischargeDepth := 6) [s49, opRow, editB, c1]
  cases c2 : ownB o o.after
  rotate_left
  · simp -implicitDefEqProofs (maxSteps := 400000) (maxDischargeDepth := 6) [s49, opRow, editB, c1, c2]
  cases c3 : decide (o.text = [])
  rotate_left
  · cases c4 : decide (o.after = ⟨0, 0, 0⟩)
    · rw [c4] at hz
      simp -implicitDefEqProofs (maxSteps := 400000) (maxDischargeDepth := 6) [s49, opRow, editB, hz, c1, c2, c3, c4]
    rw [c4] at hz
    cases c5 : decide (o.gone = [])
    rotate_left
    · simp -implicitDefEqProofs (maxSteps := 400000) (maxDischargeDepth := 6) [s49, opRow, editB, hz, c1, c2, c3, c4, c5]
    cases c6 : textB o.text
    · simp -implicitDefEqProofs (maxSteps := 400000) (maxDischargeDepth := 6) [s49, opRow, editB, hz, b1, b2, c1, c2, c3, c4, c5, c6]
    cases c7 : decide (runesN o.text ≤ 12)
    · have c7' : decide ((runesN o.text : Int) ≤ 12) = false := by rw [er, c7]
      simp -implicitDefEqProofs (maxSteps := 400000) (maxDischargeDepth := 6) [s49, opRow, editB, hz, b1, b2, c1, c2, c3, c4, c5, c6, c7, c7']
    have c7' : decide ((runesN o.text : Int) ≤ 12) = true := by rw [er, c7]
    cases c8 : goneB o
    · simp -implicitDefEqProofs (maxSteps := 400000) (maxDischargeDepth := 6) [s49, opRow, editB, hz, b1, b2, c1, c2, c3, c4, c5, c6, c7, c7', c8]
    cases c9 : decide (o.of_ = 0)
    · simp -implicitDefEqProofs (maxSteps := 400000) (maxDischargeDepth := 6) [s49, opRow, editB, hz, b1, b2, c1, c2, c3, c4, c5, c6, c7, c7', c8, c9]
    cases c10 : decide (o.num = 0)
    · simp -implicitDefEqProofs (maxSteps := 400000) (maxDischargeDepth := 6) [s49, opRow, editB, hz, b1, b2, c1, c2, c3, c4, c5, c6, c7, c7', c8, c9, c10]
    · simp -implicitDefEqProofs (maxSteps := 400000) (maxDischargeDepth := 6) [s49, opRow, editB, hz, b1, b2, c1, c2, c3, c4, c5, c6, c7, c7', c8, c9, c10]
  · skip
    cases c6 : textB o.text
    · simp -implicitDefEqProofs (maxSteps := 400000) (maxDischargeDepth := 6) [s49, opRow, editB, hz, b1, b2, c1, c2, c3, c6]
    cases c7 : decide (runesN o.text ≤ 12)
    · have c7' : decide ((runesN o.text : Int) ≤ 12) = false := by rw [er, c7]
      simp -implicitDefEqProofs (maxSteps := 400000) (maxDischargeDepth := 6) [s49, opRow, editB, hz, b1, b2, c1, c2, c3, c6, c7, c7']
    have c7' : decide ((runesN o.text : Int) ≤ 12) = true := by rw [er, c7]
    cases c8 : goneB o
    · simp -implicitDefEqProofs (maxSteps := 400000) (maxDischargeDepth := 6) [s49, opRow, editB, hz, b1, b2, c1, c2, c3, c6, c7, c7', c8]
    cases c9 : decide (o.of_ = 0)
    · simp -implicitDefEqProofs (maxSteps := 400000) (maxDischargeDepth := 6) [s49, opRow, editB, hz, b1, b2, c1, c2, c3, c6, c7, c7', c8, c9]
    cases c10 : decide (o.num = 0)
    · simp -implicitDefEqProofs (maxSteps := 400000) (maxDischargeDepth := 6) [s49, opRow, editB, hz, b1, b2, c1, c2, c3, c6, c7, c7', c8, c9, c10]
    · simp -implicitDefEqProofs (maxSteps := 400000) (maxDischargeDepth := 6) [s49, opRow, editB, hz, b1, b2, c1, c2, c3, c6, c7, c7', c8, c9, c10]

end Go.AE

/- Ops: toggles, sameness. -/
set_option linter.unusedVariables false
set_option linter.unusedSimpArgs false
set_option maxHeartbeats 4000000
set_option maxRecDepth 100000
namespace Go.AE
open Go Go.Proofs

theorem ElemV.ext_iff' {a b : ElemV} : a = b ↔ a.site = b.site ∧ a.seq = b.seq ∧ a.i = b.i := by
  obtain ⟨a1, a2, a3⟩ := a
  obtain ⟨b1, b2, b3⟩ := b
  simp -implicitDefEqProofs (maxSteps := 400000) (maxDischargeDepth := 6)

theorem equalE_ev (a b : List ElemV) (ha : a.length < 4611686018427387904) : PEv Try.prog 66 [Arg.enc a, Arg.enc b] (.c (.raw (.bool (decide (a = b))))) := by
  refine tells_of mixed (F := []) trivial Try.func66 sl66 ok66 (by kernel_rfl) (by simp -implicitDefEqProofs (maxSteps := 400000) (maxDischargeDepth := 6)) (by simp -implicitDefEqProofs (maxSteps := 400000) (maxDischargeDepth := 6)) ?_
  simp -implicitDefEqProofs (maxSteps := 400000) (maxDischargeDepth := 6) [s66]
  refine ⟨fun h e => h (by rw [e]), fun hl => ?_⟩
  have hl : a.length = b.length := by omega
  refine loop_n (fun n st => ∃ i : Nat, i ≤ a.length ∧ n = a.length - i ∧ st.s 0 = .c (.sl .brw false (rowsE a)) ∧ st.s 1 = .c (.sl .brw false (rowsE b)) ∧ st.s 12 = .c (.raw (.int .i64 a.length)) ∧ st.s 13 = .c (.raw (.int .i64 i)) ∧ a.take i = b.take i) a.length ⟨0, by simp -implicitDefEqProofs (maxSteps := 400000) (maxDischargeDepth := 6)⟩ ?_
  rintro n st ⟨i, hi, rfl, h0, h1, h12, h5, hp⟩
  by_cases hlt : i < a.length
  · have hb : i < b.length := by omega
    have hw : IntKind.wrap .i64 ((i : Int) + 1) = ((i + 1 : Nat) : Int) := by rw [wrap64_id] <;> omega
    simp -implicitDefEqProofs (maxSteps := 400000) (maxDischargeDepth := 6) [s66L0, h0, h1, h5, h12, hlt, hb]
    refine ⟨?_, ?_⟩
    · intro hne e
      subst e
      simp -implicitDefEqProofs (maxSteps := 400000) (maxDischargeDepth := 6) at hne
    · intro e1 e2 e3
      refine ⟨a.length - (i + 1), by omega, i + 1, by omega, rfl, ?_, ?_⟩
      · rw [wrap64_id (by omega) (by omega)]; rfl
      · exact eq_step hp hlt hb (ElemV.ext_iff'.2 ⟨e1, e2, e3⟩)
  · have : i = a.length := by omega
    subst this
    simp -implicitDefEqProofs (maxSteps := 400000) (maxDischargeDepth := 6) [s66L0, h0, h1, h5, h12]
    rw [List.take_length, hl, List.take_length] at hp
    exact hp

theorem eqElems_ev (a b : List ElemV) (ha : a.length < 4611686018427387904) : PEv Try.prog 44 [Arg.enc a, Arg.enc b] (.c (.raw (.bool (decide (a = b))))) := by
  refine tells_of mixed (F := []) trivial Try.func44 sl44 ok44 (by kernel_rfl) (by simp -implicitDefEqProofs (maxSteps := 400000) (maxDischargeDepth := 6)) (by simp -implicitDefEqProofs (maxSteps := 400000) (maxDischargeDepth := 6)) ?_
  simp -implicitDefEqProofs (maxSteps := 400000) (maxDischargeDepth := 6) [s44]
  refine ⟨fun h e => h (by rw [e]), fun hl => ?_⟩
  have hl : a.length = b.length := by omega
  refine loop_n (fun n st => ∃ i : Nat, i ≤ a.length ∧ n = a.length - i ∧ st.s 0 = .c (.sl .brw false (rowsE a)) ∧ st.s 1 = .c (.sl .brw false (rowsE b)) ∧ st.s 5 = .c (.raw (.int .i64 i)) ∧ a.take i = b.take i) a.length ⟨0, by simp -implicitDefEqProofs (maxSteps := 400000) (maxDischargeDepth := 6)⟩ ?_
  rintro n st ⟨i, hi, rfl, h0, h1, h5, hp⟩
  by_cases hlt : i < a.length
  · have hb : i < b.length := by omega
    simp -implicitDefEqProofs (maxSteps := 400000) (maxDischargeDepth := 6) [s44L0, h0, h1, h5, hlt, hb]
    refine ⟨?_, ?_⟩
    · intro hne e
      subst e
      simp -implicitDefEqProofs (maxSteps := 400000) (maxDischargeDepth := 6) at hne
    · intro e1 e2 e3
      refine ⟨a.length - (i + 1), by omega, i + 1, by omega, rfl, ?_, ?_⟩
      · rw [wrap64_id (by omega) (by omega)]; rfl
      · exact eq_step hp hlt hb (ElemV.ext_iff'.2 ⟨e1, e2, e3⟩)
  · have : i = a.length := by omega
    subst this
    simp -implicitDefEqProofs (maxSteps := 400000) (maxDischargeDepth := 6) [s44L0, h0, h1, h5]
    rw [List.take_length, hl, List.take_length] at hp
    exact hp

def FQ0_h66 : List AV → Option (Prop × AV) := t2 (fun a _ => a.length < 4611686018427387904) fun a b : List ElemV => .c (.raw (.bool (decide (a = b))))
@[simp] theorem FQ0_ap66 {l : List AV} : FQ0_h66 l = (t2 (fun a _ => a.length < 4611686018427387904) fun a b : List ElemV => .c (.raw (.bool (decide (a = b))))) l := rfl
def FQ0_h44 : List AV → Option (Prop × AV) := t2 (fun a _ => a.length < 4611686018427387904) fun a b : List ElemV => .c (.raw (.bool (decide (a = b))))
@[simp] theorem FQ0_ap44 {l : List AV} : FQ0_h44 l = (t2 (fun a _ => a.length < 4611686018427387904) fun a b : List ElemV => .c (.raw (.bool (decide (a = b))))) l := rfl
def FQ0 : CT := (66, .pu FQ0_h66) :: (44, .pu FQ0_h44) :: FO6
theorem FQ0_ok : CTok Try.prog FQ0 := ⟨tells2 fun a b h => equalE_ev a b h,
  tells2 fun a b h => eqElems_ev a b h, FO6_ok⟩
@[simp] theorem FQ0_get66 : ctGet FQ0 66 = some (.pu FQ0_h66) := rfl
@[simp] theorem FQ0_get44 : ctGet FQ0 44 = some (.pu FQ0_h44) := rfl
@[simp] theorem FQ0_skip {n : Nat} (h : (n == 66 || n == 44) = false) : ctGet FQ0 n = ctGet FO6 n := by
  simp only [Bool.or_eq_false_iff, beq_eq_false_iff_ne, ne_eq] at h
  simp [FQ0, ctGet, h]

end Go.AE

/- Ops and entries: which may be; sameness. -/
set_option linter.unusedVariables false
set_option linter.unusedSimpArgs false
set_option maxHeartbeats 4000000
set_option maxRecDepth 100000
namespace Go.AE
open Go Go.Proofs

def toggleB (o : OpV) : Bool :=
  nameB o.of_ o.num && !(decide (o.of_ = o.site) && decide (o.num = o.seq)) && !decide (o.gen < 0) && !decide (268435456 < o.gen) &&
  decide (o.after = ⟨0, 0, 0⟩) && decide (o.text = []) && decide (o.gone = [])

theorem toggle_ev (o : OpV) (ho : okO o) : PEv Try.prog 50 [Arg.enc o] (.c (.raw (.bool (toggleB o)))) := by
  refine tells_of mixed FO7_ok Try.func50 sl50 ok50 (by kernel_rfl) (by simp -implicitDefEqProofs (maxSteps := 400000) (maxDischargeDepth := 6)) (by simp -implicitDefEqProofs (maxSteps := 400000) (maxDischargeDepth := 6) [opRow]) ?_
  have hz := elem0 o.after
  cases c1 : nameB o.of_ o.num
  · simp -implicitDefEqProofs (maxSteps := 400000) (maxDischargeDepth := 6) [s50, opRow, toggleB, hz, c1]
  cases c2 : decide (o.of_ = o.site)
  · cases c4 : decide (o.gen < 0)
    rotate_left
    · simp -implicitDefEqProofs (maxSteps := 400000) (maxDischargeDepth := 6) [s50, opRow, toggleB, hz, c1, c2, c4]
    cases c5 : decide (268435456 < o.gen)
    rotate_left
    · simp -implicitDefEqProofs (maxSteps := 400000) (maxDischargeDepth := 6) [s50, opRow, toggleB, hz, c1, c2, c4, c5]
    cases c6 : decide (o.after = ⟨0, 0, 0⟩)
    · rw [c6] at hz
      simp -implicitDefEqProofs (maxSteps := 400000) (maxDischargeDepth := 6) [s50, opRow, toggleB, hz, c1, c2, c4, c5, c6]
    rw [c6] at hz
    cases c7 : decide (o.text = [])
    · simp -implicitDefEqProofs (maxSteps := 400000) (maxDischargeDepth := 6) [s50, opRow, toggleB, hz, c1, c2, c4, c5, c6, c7]
    · simp -implicitDefEqProofs (maxSteps := 400000) (maxDischargeDepth := 6) [s50, opRow, toggleB, hz, c1, c2, c4, c5, c6, c7]
  cases c3 : decide (o.num = o.seq)
  rotate_left
  · simp -implicitDefEqProofs (maxSteps := 400000) (maxDischargeDepth := 6) [s50, opRow, toggleB, hz, c1, c2, c3]
  cases c4 : decide (o.gen < 0)
  rotate_left
  · simp -implicitDefEqProofs (maxSteps := 400000) (maxDischargeDepth := 6) [s50, opRow, toggleB, hz, c1, c2, c3, c4]
  cases c5 : decide (268435456 < o.gen)
  rotate_left
  · simp -implicitDefEqProofs (maxSteps := 400000) (maxDischargeDepth := 6) [s50, opRow, toggleB, hz, c1, c2, c3, c4, c5]
  cases c6 : decide (o.after = ⟨0, 0, 0⟩)
  · rw [c6] at hz
    simp -implicitDefEqProofs (maxSteps := 400000) (maxDischargeDepth := 6) [s50, opRow, toggleB, hz, c1, c2, c3, c4, c5, c6]
  rw [c6] at hz
  cases c7 : decide (o.text = [])
  · simp -implicitDefEqProofs (maxSteps := 400000) (maxDischargeDepth := 6) [s50, opRow, toggleB, hz, c1, c2, c3, c4, c5, c6, c7]
  · simp -implicitDefEqProofs (maxSteps := 400000) (maxDischargeDepth := 6) [s50, opRow, toggleB, hz, c1, c2, c3, c4, c5, c6, c7]

end Go.AE

/- Ops: sameness. -/
set_option linter.unusedVariables false
set_option linter.unusedSimpArgs false
set_option maxHeartbeats 4000000
set_option maxRecDepth 100000
namespace Go.AE
open Go Go.Proofs

def FQ1_h66 : List AV → Option (Prop × AV) := t2 (fun a _ => a.length < 4611686018427387904) fun a b : List ElemV => .c (.raw (.bool (decide (a = b))))
@[simp] theorem FQ1_ap66 {l : List AV} : FQ1_h66 l = (t2 (fun a _ => a.length < 4611686018427387904) fun a b : List ElemV => .c (.raw (.bool (decide (a = b))))) l := rfl
def FQ1_h44 : List AV → Option (Prop × AV) := t2 (fun a _ => a.length < 4611686018427387904) fun a b : List ElemV => .c (.raw (.bool (decide (a = b))))
@[simp] theorem FQ1_ap44 {l : List AV} : FQ1_h44 l = (t2 (fun a _ => a.length < 4611686018427387904) fun a b : List ElemV => .c (.raw (.bool (decide (a = b))))) l := rfl
def FQ1 : CT := (66, .pu FQ1_h66) :: (44, .pu FQ1_h44) :: FO7
theorem FQ1_ok : CTok Try.prog FQ1 := ⟨tells2 fun a b h => equalE_ev a b h,
  tells2 fun a b h => eqElems_ev a b h, FO7_ok⟩
@[simp] theorem FQ1_get66 : ctGet FQ1 66 = some (.pu FQ1_h66) := rfl
@[simp] theorem FQ1_get44 : ctGet FQ1 44 = some (.pu FQ1_h44) := rfl
@[simp] theorem FQ1_skip {n : Nat} (h : (n == 66 || n == 44) = false) : ctGet FQ1 n = ctGet FO7 n := by
  simp only [Bool.or_eq_false_iff, beq_eq_false_iff_ne, ne_eq] at h
  simp [FQ1, ctGet, h]

theorem elemEq (a b : ElemV) : (decide (a.site = b.site) && (decide (a.seq = b.seq) && decide (a.i = b.i))) = decide (a = b) := by
  obtain ⟨a1, a2, a3⟩ := a
  obtain ⟨b1, b2, b3⟩ := b
  by_cases h1 : a1 = b1 <;> by_cases h2 : a2 = b2 <;> by_cases h3 : a3 = b3 <;> simp -implicitDefEqProofs (maxSteps := 400000) (maxDischargeDepth := 6) [h1, h2, h3]

def sameB (a b : OpV) : Bool :=
  decide (a.gone = b.gone) && decide (a.site = b.site) && decide (a.seq = b.seq) && decide (a.kind = b.kind) && decide (a.after = b.after) && decide (a.text = b.text) && decide (a.of_ = b.of_) && decide (a.num = b.num) && decide (a.gen = b.gen)

theorem sameB_eq (a b : OpV) : sameB a b = decide (a = b) := by
  obtain ⟨a1, a2, a3, a4, a5, a6, a7, a8, a9⟩ := a
  obtain ⟨b1, b2, b3, b4, b5, b6, b7, b8, b9⟩ := b
  rw [Bool.eq_iff_iff]
  simp -implicitDefEqProofs (maxSteps := 400000) (maxDischargeDepth := 6) [sameB]
  constructor
  · rintro ⟨⟨⟨⟨⟨⟨⟨⟨rfl, rfl⟩, rfl⟩, rfl⟩, rfl⟩, rfl⟩, rfl⟩, rfl⟩, rfl⟩
    simp -implicitDefEqProofs (maxSteps := 400000) (maxDischargeDepth := 6)
  · rintro ⟨rfl, rfl, rfl, rfl, rfl, rfl, rfl, rfl, rfl⟩
    simp -implicitDefEqProofs (maxSteps := 400000) (maxDischargeDepth := 6)

theorem same_ev (a b : OpV) (ha : a.gone.length < 4611686018427387904) : PEv Try.prog 47 [Arg.enc a, Arg.enc b] (.c (.raw (.bool (sameB a b)))) := by
  refine tells_of mixed FQ1_ok Try.func47 sl47 ok47 (by kernel_rfl) (by simp -implicitDefEqProofs (maxSteps := 400000) (maxDischargeDepth := 6)) (by simp -implicitDefEqProofs (maxSteps := 400000) (maxDischargeDepth := 6) [opRow]) ?_
  have hz := elemEq a.after b.after
  cases c1 : decide (a.gone = b.gone)
  · simp -implicitDefEqProofs (maxSteps := 400000) (maxDischargeDepth := 6) [s47, opRow, sameB, hz, c1, ha]
  cases c2 : decide (a.site = b.site)
  · simp -implicitDefEqProofs (maxSteps := 400000) (maxDischargeDepth := 6) [s47, opRow, sameB, hz, c1, c2, ha]
  cases c3 : decide (a.seq = b.seq)
  · simp -implicitDefEqProofs (maxSteps := 400000) (maxDischargeDepth := 6) [s47, opRow, sameB, hz, c1, c2, c3, ha]
  cases c4 : decide (a.kind = b.kind)
  · simp -implicitDefEqProofs (maxSteps := 400000) (maxDischargeDepth := 6) [s47, opRow, sameB, hz, c1, c2, c3, c4, ha]
  cases c5 : decide (a.after = b.after)
  · rw [c5] at hz
    simp -implicitDefEqProofs (maxSteps := 400000) (maxDischargeDepth := 6) [s47, opRow, sameB, hz, c1, c2, c3, c4, c5, ha]
  rw [c5] at hz
  cases c6 : decide (a.text = b.text)
  · simp -implicitDefEqProofs (maxSteps := 400000) (maxDischargeDepth := 6) [s47, opRow, sameB, hz, c1, c2, c3, c4, c5, c6, ha]
  cases c7 : decide (a.of_ = b.of_)
  · simp -implicitDefEqProofs (maxSteps := 400000) (maxDischargeDepth := 6) [s47, opRow, sameB, hz, c1, c2, c3, c4, c5, c6, c7, ha]
  cases c8 : decide (a.num = b.num)
  · simp -implicitDefEqProofs (maxSteps := 400000) (maxDischargeDepth := 6) [s47, opRow, sameB, hz, c1, c2, c3, c4, c5, c6, c7, c8, ha]
  · simp -implicitDefEqProofs (maxSteps := 400000) (maxDischargeDepth := 6) [s47, opRow, sameB, hz, c1, c2, c3, c4, c5, c6, c7, c8, ha]

end Go.AE

set_option linter.unusedVariables false
set_option linter.unusedSimpArgs false
set_option maxHeartbeats 4000000
set_option maxRecDepth 100000
namespace Go.AE
open Go Go.Proofs

def FM0_h49 : List AV → Option (Prop × AV) := t1 okO fun o : OpV => .c (.raw (.bool (editB o)))
@[simp] theorem FM0_ap49 {l : List AV} : FM0_h49 l = (t1 okO fun o : OpV => .c (.raw (.bool (editB o)))) l := rfl
def FM0_h50 : List AV → Option (Prop × AV) := t1 okO fun o : OpV => .c (.raw (.bool (toggleB o)))
@[simp] theorem FM0_ap50 {l : List AV} : FM0_h50 l = (t1 okO fun o : OpV => .c (.raw (.bool (toggleB o)))) l := rfl
def FM0_h47 : List AV → Option (Prop × AV) := t2 (fun a _ => a.gone.length < 4611686018427387904) fun a b : OpV => .c (.raw (.bool (sameB a b)))
@[simp] theorem FM0_ap47 {l : List AV} : FM0_h47 l = (t2 (fun a _ => a.gone.length < 4611686018427387904) fun a b : OpV => .c (.raw (.bool (sameB a b)))) l := rfl
def FM0 : CT := (49, .pu FM0_h49) :: (50, .pu FM0_h50) :: (47, .pu FM0_h47) :: FQ1
theorem FM0_ok : CTok Try.prog FM0 := ⟨tells1 fun o h => edit_ev o h,
  tells1 fun o h => toggle_ev o h,
  tells2 fun a b h => same_ev a b h, FQ1_ok⟩
@[simp] theorem FM0_get49 : ctGet FM0 49 = some (.pu FM0_h49) := rfl
@[simp] theorem FM0_get50 : ctGet FM0 50 = some (.pu FM0_h50) := rfl
@[simp] theorem FM0_get47 : ctGet FM0 47 = some (.pu FM0_h47) := rfl
@[simp] theorem FM0_skip {n : Nat} (h : (n == 49 || n == 50 || n == 47) = false) : ctGet FM0 n = ctGet FQ1 n := by
  simp only [Bool.or_eq_false_iff, beq_eq_false_iff_ne, ne_eq] at h
  simp [FM0, ctGet, h]

def opMayB (o : OpV) : Bool := nameB o.site o.seq && (if o.kind = 1 then editB o else decide (o.kind = 2) && toggleB o)

theorem opMay_ev (o : OpV) (ho : okO o) : PEv Try.prog 32 [Arg.enc o] (.c (.raw (.bool (opMayB o)))) := by
  refine tells_of mixed FM0_ok Try.func32 sl32 ok32 (by kernel_rfl) (by simp -implicitDefEqProofs (maxSteps := 400000) (maxDischargeDepth := 6)) (by simp -implicitDefEqProofs (maxSteps := 400000) (maxDischargeDepth := 6) [opRow]) ?_
  cases c1 : nameB o.site o.seq
  · simp -implicitDefEqProofs (maxSteps := 400000) (maxDischargeDepth := 6) [s32, opRow, opMayB, c1, ho]
  cases c2 : decide (o.kind = 1)
  rotate_left
  · have c2' := of_decide_eq_true c2
    simp -implicitDefEqProofs (maxSteps := 400000) (maxDischargeDepth := 6) [s32, opRow, opMayB, c1, c2, ho]
    exact fun h => absurd c2' h
  cases c3 : decide (o.kind = 2)
  · simp -implicitDefEqProofs (maxSteps := 400000) (maxDischargeDepth := 6) [s32, opRow, opMayB, c1, c2, c3, ho]
  · simp -implicitDefEqProofs (maxSteps := 400000) (maxDischargeDepth := 6) [s32, opRow, opMayB, c1, c2, c3, ho]
    exact fun h => absurd h (of_decide_eq_false c2)

def zeroO : OpV := ⟨0, 0, 0, ⟨0, 0, 0⟩, [], [], 0, 0, 0⟩
theorem nothing_ev (o : OpV) (ho : okO o) : PEv Try.prog 31 [Arg.enc o] (.c (.raw (.bool (sameB o zeroO)))) := by
  refine tells_of mixed FM0_ok Try.func31 sl31 ok31 (by kernel_rfl) (by simp -implicitDefEqProofs (maxSteps := 400000) (maxDischargeDepth := 6)) (by simp -implicitDefEqProofs (maxSteps := 400000) (maxDischargeDepth := 6) [opRow]) ?_
  have := ho.2
  simp -implicitDefEqProofs (maxSteps := 400000) (maxDischargeDepth := 6) [s31, opRow, this, zeroO]

def FM1_h32 : List AV → Option (Prop × AV) := t1 okO fun o : OpV => .c (.raw (.bool (opMayB o)))
@[simp] theorem FM1_ap32 {l : List AV} : FM1_h32 l = (t1 okO fun o : OpV => .c (.raw (.bool (opMayB o)))) l := rfl
def FM1_h31 : List AV → Option (Prop × AV) := t1 okO fun o : OpV => .c (.raw (.bool (sameB o zeroO)))
@[simp] theorem FM1_ap31 {l : List AV} : FM1_h31 l = (t1 okO fun o : OpV => .c (.raw (.bool (sameB o zeroO)))) l := rfl
def FM1 : CT := (32, .pu FM1_h32) :: (31, .pu FM1_h31) :: FM0
theorem FM1_ok : CTok Try.prog FM1 := ⟨tells1 fun o h => opMay_ev o h,
  tells1 fun o h => nothing_ev o h, FM0_ok⟩
@[simp] theorem FM1_get32 : ctGet FM1 32 = some (.pu FM1_h32) := rfl
@[simp] theorem FM1_get31 : ctGet FM1 31 = some (.pu FM1_h31) := rfl
@[simp] theorem FM1_skip {n : Nat} (h : (n == 32 || n == 31) = false) : ctGet FM1 n = ctGet FM0 n := by
  simp only [Bool.or_eq_false_iff, beq_eq_false_iff_ne, ne_eq] at h
  simp [FM1, ctGet, h]

def entMayB (e : EntryV) : Bool := if e.join then decide (1 ≤ e.nonce) && decide (e.nonce ≤ 268435456) && sameB e.op zeroO else decide (e.nonce = 0) && opMayB e.op

theorem entMay_ev (e : EntryV) (ho : okO e.op) : PEv Try.prog 17 [Arg.enc e] (.c (.raw (.bool (entMayB e)))) := by
  refine tells_of mixed FM1_ok Try.func17 sl17 ok17 (by kernel_rfl) (by simp -implicitDefEqProofs (maxSteps := 400000) (maxDischargeDepth := 6)) (by simp -implicitDefEqProofs (maxSteps := 400000) (maxDischargeDepth := 6) [entRow, opRow]) ?_
  cases c1 : e.join
  · cases c2 : decide (e.nonce = 0)
    · simp -implicitDefEqProofs (maxSteps := 400000) (maxDischargeDepth := 6) [s17, entRow, opRow, entMayB, c1, c2, ho]
    · simp -implicitDefEqProofs (maxSteps := 400000) (maxDischargeDepth := 6) [s17, entRow, opRow, entMayB, c1, c2, ho]
  · cases c2 : decide (1 ≤ e.nonce)
    · simp -implicitDefEqProofs (maxSteps := 400000) (maxDischargeDepth := 6) [s17, entRow, opRow, entMayB, c1, c2, ho]
    cases c3 : decide (e.nonce ≤ 268435456)
    · simp -implicitDefEqProofs (maxSteps := 400000) (maxDischargeDepth := 6) [s17, entRow, opRow, entMayB, c1, c2, c3, ho]
    · simp -implicitDefEqProofs (maxSteps := 400000) (maxDischargeDepth := 6) [s17, entRow, opRow, entMayB, c1, c2, c3, ho]

theorem nameB_b {a b : Int} (h : nameB a b = true) : 1 ≤ a ∧ a ≤ 8 ∧ 1 ≤ b ∧ b ≤ 268435456 := by
  simp -implicitDefEqProofs (maxSteps := 400000) (maxDischargeDepth := 6) [nameB] at h
  omega
theorem elemB_b {e : ElemV} (h : elemB e = true) : 0 ≤ e.site ∧ e.site ≤ 8 ∧ 0 ≤ e.seq ∧ e.seq ≤ 268435456 ∧ 0 ≤ e.i ∧ e.i < 12 := by
  simp -implicitDefEqProofs (maxSteps := 400000) (maxDischargeDepth := 6) [elemB] at h
  rcases h with rfl | ⟨⟨h1, h2⟩, h3⟩
  · simp -implicitDefEqProofs (maxSteps := 400000) (maxDischargeDepth := 6)
  · have := nameB_b h1
    omega

/-- Numbers that may be spelt. -/
def okN (n : Int) : Prop := 0 ≤ n ∧ n < 9223372036854775808
def okE (e : ElemV) : Prop := okN e.site ∧ okN e.seq ∧ okN e.i
theorem elemB_ok {e : ElemV} (h : elemB e = true) : okE e := by
  have := elemB_b h
  refine ⟨⟨?_, ?_⟩, ⟨?_, ?_⟩, ?_, ?_⟩ <;> omega

def FP0_h17 : List AV → Option (Prop × AV) := t1 (fun e => okO e.op) fun e : EntryV => .c (.raw (.bool (entMayB e)))
@[simp] theorem FP0_ap17 {l : List AV} : FP0_h17 l = (t1 (fun e => okO e.op) fun e : EntryV => .c (.raw (.bool (entMayB e)))) l := rfl
def FP0_h51 : List AV → Option (Prop × AV) := t1 (fun l => l.length < 1000000 ∧ ∀ n ∈ l, okN n) fun l : List Int => .c (.str (numsN l))
@[simp] theorem FP0_ap51 {l : List AV} : FP0_h51 l = (t1 (fun l => l.length < 1000000 ∧ ∀ n ∈ l, okN n) fun l : List Int => .c (.str (numsN l))) l := rfl
def FP0_h53 : List AV → Option (Prop × AV) := t1 (fun s => s.length < 140737488355328) fun s : List UInt8 => .c (.str (bytesN s.length ++ s))
@[simp] theorem FP0_ap53 {l : List AV} : FP0_h53 l = (t1 (fun s => s.length < 140737488355328) fun s : List UInt8 => .c (.str (bytesN s.length ++ s))) l := rfl
def FP0 : CT := (17, .pu FP0_h17) :: (51, .pu FP0_h51) :: (53, .pu FP0_h53) :: FM1
theorem FP0_ok : CTok Try.prog FP0 := ⟨tells1 fun e h => entMay_ev e h,
  tells1 fun l h => numbers_ev l h.1 h.2,
  tells1 fun s h => numText_ev s h, FM1_ok⟩
@[simp] theorem FP0_get17 : ctGet FP0 17 = some (.pu FP0_h17) := rfl
@[simp] theorem FP0_get51 : ctGet FP0 51 = some (.pu FP0_h51) := rfl
@[simp] theorem FP0_get53 : ctGet FP0 53 = some (.pu FP0_h53) := rfl
@[simp] theorem FP0_skip {n : Nat} (h : (n == 17 || n == 51 || n == 53) = false) : ctGet FP0 n = ctGet FM1 n := by
  simp only [Bool.or_eq_false_iff, beq_eq_false_iff_ne, ne_eq] at h
  simp [FP0, ctGet, h]

def elemN (e : ElemV) : List UInt8 := numsN [e.site, e.seq, e.i]

theorem elemN_ev (e : ElemV) (h : okE e) : PEv Try.prog 52 [Arg.enc e] (.c (.str (elemN e))) := by
  refine tells_of mixed FP0_ok Try.func52 sl52 ok52 (by kernel_rfl) (by simp -implicitDefEqProofs (maxSteps := 400000) (maxDischargeDepth := 6)) (by simp -implicitDefEqProofs (maxSteps := 400000) (maxDischargeDepth := 6)) ?_
  obtain ⟨h1, h2, h3⟩ := h
  simp -implicitDefEqProofs (maxSteps := 400000) (maxDischargeDepth := 6) [s52, rows3, take3, h1, h2, h3, elemN]

end Go.AE
