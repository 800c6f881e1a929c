/- DiskPuts, DiskSyncs, DiskCrashes: acts of some kinds, then DiskExact. -/
import Derived.Test.YtiabgbigoiiglaaDsk4
import Derived.ChangeArms
import Derived.ChangeSlices
import Derived.SizedLaws

set_option linter.unusedVariables false
set_option linter.unusedSimpArgs false
set_option maxHeartbeats 2000000
namespace Go.AE
open Go Go.Proofs

def newR (n : Int) : DiskV × Int := if 1 ≤ n ∧ n ≤ 400 then (⟨List.replicate n.toNat blank, []⟩, 0) else (⟨[], []⟩, 1)

/-- A put by the program: the disk, the error. -/
def putR (d : DiskV) (at_ : Int) (s : List UInt8) : DiskV × Int :=
  if mayB d = false ∨ s.length ≠ 32 then (⟨[], []⟩, 1) else if at_ < 0 ∨ (d.safe.length : Int) ≤ at_ then (⟨[], []⟩, 3) else if 400 ≤ d.wait.length then (⟨[], []⟩, 6)
  else (⟨d.safe, d.wait ++ [⟨at_, s⟩]⟩, 0)

def refPutR (d : DiskV) (at_ : Int) (s : List UInt8) : DiskV × Int :=
  if at_ < 0 ∨ (d.safe.length : Int) ≤ at_ then (⟨[], []⟩, 3) else if 400 ≤ d.wait.length then (⟨[], []⟩, 6)
  else (⟨d.safe, d.wait ++ [⟨at_, s⟩]⟩, 0)

def syncR (d : DiskV) : DiskV × Int := crashR d (List.replicate d.wait.length 1)

def readR (d : DiskV) (at_ : Int) : List UInt8 × Int :=
  if mayB d = false then ([], 1) else if at_ < 0 ∨ (d.safe.length : Int) ≤ at_ then ([], 3) else ((syncR d).1.safe.getD at_.toNat [], 0)

theorem diskNew_ev (n : Int) : PEv Try.prog 19 [.c (.raw (.int .i64 n))] (diskE (newR n)) := by
  refine tells_of mixed F4_ok Try.func19 sl19 ok19 (by kernel_rfl) (by simp [diskE, diskNw]) (by simp) ?_
  unfold newR
  by_cases h : 1 ≤ n ∧ n ≤ 400
  · rw [if_pos h]
    have h1 : ¬ n < 1 := by omega
    have h2 : ¬ 400 < n := by omega
    simp -implicitDefEqProofs [s19, h1, h2]
    refine acall_pure blank37_ev (by simp -implicitDefEqProofs) (by simp -implicitDefEqProofs) (by simp -implicitDefEqProofs) ?_
    simp -implicitDefEqProofs
    refine acall_pure (repS_ev blank n (by omega) (by omega)) (by simp -implicitDefEqProofs; rfl) (by simp -implicitDefEqProofs) (by simp -implicitDefEqProofs) ?_
    simp -implicitDefEqProofs [diskE, diskNw]
  · rw [if_neg h]
    by_cases h1 : n < 1
    · simp -implicitDefEqProofs [s19, h1, diskE, diskNw]
    · have h2 : 400 < n := by omega
      simp -implicitDefEqProofs [s19, h1, h2, diskE, diskNw]

theorem refNew_l0 {F : CT} (n : Nat) (hn1 : n ≤ 1000) {Q : AEx → St → Prop} {st : St} (v b : Id) (hF : ctGet F 26 = ctGet F4 26) (k0 : st.s 0 = .c (.raw (.int .i64 n))) (k3 : st.s 3 = .c (.pt v 0 0)) (k2 : st.s 2 = .c (.pt b 0 0))
    (k4 : st.s 4 = .c (.raw (.int .i64 0))) (kv : st.H v = .arr 25 2 false [[.raw (.slice none 0 0), .raw (.slice none 0 0)]]) (hf : Fresh st.H st.T)
    (hq : ∀ st' c, st'.s 3 = .c (.pt v 0 0) → st'.s 2 = .c (.pt b 0 0) → st'.H v = .arr 25 2 false [[c, .raw (.slice none 0 0)]] → OwnL st'.H 9 1 st.T c (List.replicate n blank) →
      ExtH [v] st.H st.T st'.H st'.T → Q (.exit 0) st') :
    awpS Try.prog F (.loop s10L0) Q st := by
  refine loop_n (fun m st' => ∃ j : Nat, j ≤ n ∧ m = n - j ∧ st'.s 0 = .c (.raw (.int .i64 n)) ∧ st'.s 3 = .c (.pt v 0 0) ∧ st'.s 2 = .c (.pt b 0 0) ∧ st'.s 4 = .c (.raw (.int .i64 j)) ∧ ExtH [v] st.H st.T st'.H st'.T ∧
    ∃ c, st'.H v = .arr 25 2 false [[c, .raw (.slice none 0 0)]] ∧ OwnL st'.H 9 1 st.T c (List.replicate j blank)) n
    ⟨0, by simp -implicitDefEqProofs [k0, k3, k2, k4, kv, ExtH.refl hf]; exact OwnL.nil⟩ ?_
  rintro m st' ⟨j, hj, rfl, k0, k3, k2, k4, he, c, kv, hown⟩
  have hf' := he.fresh
  have hT := he.2.2.1
  have hfu : ∀ k d, st'.T ≤ k → st'.H (k, d) = .unborn := hf'
  obtain ⟨f4, f5, f6⟩ := hf'.arr kv
  by_cases hlt : j < n
  · have e2 : IntKind.wrap .i64 ((j : Int) + 1) = ((j + 1 : Nat) : Int) := by rw [wrap64_id] <;> omega
    have hrep : rowsE (List.replicate j blank) ++ [[AC.str blank]] = rowsE (List.replicate (j + 1) blank) := by
      rw [show [[AC.str blank]] = rowsE [blank] from rfl, ← rowsE_append, List.replicate_succ']
    rcases hown with ⟨rfl, hl⟩ | ⟨id, rfl, hid, kid⟩
    · obtain rfl : j = 0 := by simpa using hl
      simp -implicitDefEqProofs [s10L0, k0, k3, k2, k4, kv, hlt, e2, hF, hfu, f4, f5]
      refine ⟨n - 1, by omega, 1, by omega, rfl, rfl, ?_, OwnL.so (by simp -implicitDefEqProofs) (by simp -implicitDefEqProofs; omega) (by simp -implicitDefEqProofs [f4, rowsE])⟩
      repeat' (first | exact he.tick (by first | omega | (simp <;> omega)) | (refine ExtH.new ?_ (by first | omega | (simp <;> omega)) (by first | omega | (simp <;> omega))) | (refine ExtH.set ?_ (by simp) (by first | omega | (simp <;> omega))))
    · obtain ⟨f7, f8, f9⟩ := hf'.arr kid
      have hne : (id = v) = False := by
        simp only [eq_iff_iff, iff_false]; intro e; rw [e, kv] at kid; cases kid
      have hne' : (v = id) = False := by
        simp only [eq_iff_iff, iff_false]; intro e; rw [← e, kv] at kid; cases kid
      simp -implicitDefEqProofs [s10L0, k0, k3, k2, k4, kv, kid, hlt, e2, hF, hfu, f4, f5, f7, f8, hne, hne']
      refine ⟨by omega, n - (j + 1), by omega, j + 1, by omega, rfl, rfl, ?_, OwnL.so (by simp -implicitDefEqProofs) (by simp -implicitDefEqProofs; omega) (by simp -implicitDefEqProofs [f4, hrep])⟩
      repeat' (first | exact he.tick (by first | omega | (simp <;> omega)) | (refine ExtH.new ?_ (by first | omega | (simp <;> omega)) (by first | omega | (simp <;> omega))) | (refine ExtH.set ?_ (by simp) (by first | omega | (simp <;> omega))))
  · have : j = n := by omega
    subst this
    simp -implicitDefEqProofs [s10L0, k0, k3, k2, k4, hlt]
    rcases hown with ⟨rfl, hl⟩ | ⟨id, rfl, hid, kid⟩
    · exact hq _ _ (by simp -implicitDefEqProofs [k3]) (by simp -implicitDefEqProofs [k2]) (by simpa using kv) (.inl ⟨rfl, hl⟩) (he.tick (by simp -implicitDefEqProofs))
    · exact hq _ _ (by simp -implicitDefEqProofs [k3]) (by simp -implicitDefEqProofs [k2]) (by simpa using kv) (.inr ⟨id, rfl, hid, by simpa using kid⟩) (he.tick (by simp -implicitDefEqProofs))

theorem refNew_ev (n : Nat) (hn : n ≤ 1000) : PEv Try.prog 10 [.c (.raw (.int .i64 n))] (.g (diskNw ⟨List.replicate n blank, []⟩)) := by
  refine tells_of mixed F4_ok Try.func10 sl10 ok10 (by kernel_rfl) (by simp [diskNw]) (by simp) ?_
  simp -implicitDefEqProofs [s10]
  refine refNew_l0 n hn (1, 3) (0, 2) rfl (by simp -implicitDefEqProofs) (by simp -implicitDefEqProofs) (by simp -implicitDefEqProofs) (by simp -implicitDefEqProofs) (by simp -implicitDefEqProofs) (by (simp; repeat' (first | exact fresh_no.mono (Nat.zero_le _) | (refine Fresh.set' ?_ (by simp))))) ?_
  intro st' c k3 k2 kv hown he
  have k2' := he.1 (0, 2)
  simp -implicitDefEqProofs at k2'
  rcases hown with ⟨rfl, hl⟩ | ⟨id, rfl, hid, kid⟩
  · obtain rfl : n = 0 := by simpa using hl
    simp -implicitDefEqProofs [k3, k2, kv, k2', diskNw]
  · have hne : id ≠ (0, 2) := by rintro rfl; simp -implicitDefEqProofs at hid
    simp -implicitDefEqProofs [k3, k2, kv, k2', kid, diskNw, hne]

theorem refNewI_ev (n : Int) (h : 0 ≤ n ∧ n ≤ 1000) : PEv Try.prog 10 [.c (.raw (.int .i64 n))] (.g (diskNw ⟨List.replicate n.toNat blank, []⟩)) := by
  obtain ⟨k, rfl⟩ : ∃ k : Nat, n = (k : Int) := ⟨n.toNat, by omega⟩
  exact refNew_ev k (by omega)

theorem refPut_ev (d : DiskV) (at_ : Int) (s : List UInt8) (h1 : d.safe.length < 1000000) (h2 : d.wait.length < 1000000) :
    PEv Try.prog 42 [Arg.enc d, .c (.raw (.int .i64 at_)), .c (.str s)] (diskE (refPutR d at_ s)) := by
  refine tells_of mixed F4_ok Try.func42 sl42 ok42 (by kernel_rfl) (by simp [diskE, diskNw]) (by simp) ?_
  have e3 : IntKind.wrap .i64 ((d.safe.length : Int) - 1) = (d.safe.length : Int) - 1 := by rw [wrap64_id] <;> omega
  unfold refPutR
  by_cases g1 : at_ < 0 ∨ (d.safe.length : Int) ≤ at_
  · rw [if_pos g1]
    have g2 : (decide (0 ≤ at_) && decide (at_ ≤ (d.safe.length : Int) - 1)) = false := by simp -implicitDefEqProofs; omega
    simp -implicitDefEqProofs [s42, e3, g2, diskE, diskNw]
  · rw [if_neg g1]
    have g2 : (decide (0 ≤ at_) && decide (at_ ≤ (d.safe.length : Int) - 1)) = true := by simp -implicitDefEqProofs; omega
    by_cases g3 : 400 ≤ d.wait.length
    · have g3' : (400 : Int) ≤ d.wait.length := by omega
      rw [if_pos g3]
      simp -implicitDefEqProofs [s42, e3, g2, g3', diskE, diskNw]
    · have g3' : ¬ (400 : Int) ≤ d.wait.length := by omega
      rw [if_neg g3]
      simp -implicitDefEqProofs [s42, e3, g2, g3', h1, h2, diskE, diskNw]
      exact ⟨⟨by omega, by omega⟩, by rw [rowsE_append]; rfl⟩

theorem diskPut_ev (d : DiskV) (at_ : Int) (s : List UInt8) (h1 : d.safe.length < 1000000) (h2 : d.wait.length < 1000000) :
    PEv Try.prog 11 [Arg.enc d, .c (.raw (.int .i64 at_)), .c (.str s)] (diskE (putR d at_ s)) := by
  refine tells_of mixed F4_ok Try.func11 sl11 ok11 (by kernel_rfl) (by simp [diskE, diskNw]) (by simp) ?_
  unfold putR
  by_cases hm : mayB d = true
  · by_cases hs : s.length = 32
    · rw [if_neg (by simp -implicitDefEqProofs [hm, hs])]
      by_cases g1 : at_ < 0
      · rw [if_pos (.inl g1)]
        simp -implicitDefEqProofs [s11, h1, h2, hm, hs, g1, diskE, diskNw]
      · by_cases g2 : (d.safe.length : Int) ≤ at_
        · rw [if_pos (.inr g2)]
          simp -implicitDefEqProofs [s11, h1, h2, hm, hs, g1, g2, diskE, diskNw]
        · rw [if_neg (by omega)]
          by_cases g3 : 400 ≤ d.wait.length
          · have g3' : (400 : Int) ≤ d.wait.length := by omega
            rw [if_pos g3]
            simp -implicitDefEqProofs [s11, h1, h2, hm, hs, g1, g2, g3', diskE, diskNw]
          · have g3' : ¬ (400 : Int) ≤ d.wait.length := by omega
            rw [if_neg g3]
            simp -implicitDefEqProofs [s11, h1, h2, hm, hs, g1, g2, g3', diskE, diskNw]
            exact ⟨⟨by omega, by omega⟩, by rw [rowsE_append]; rfl⟩
    · rw [if_pos (.inr hs)]
      simp -implicitDefEqProofs [s11, h1, h2, hm, hs, diskE, diskNw]
  · rw [if_pos (.inl (by simpa using hm))]
    simp -implicitDefEqProofs [s11, h1, h2, hm, diskE, diskNw]

theorem diskSync_ev (d : DiskV) (h1 : d.safe.length < 1000000) (h2 : d.wait.length < 1000000) : PEv Try.prog 12 [Arg.enc d] (diskE (syncR d)) := by
  refine tells_of mixed F4_ok Try.func12 sl12 ok12 (by kernel_rfl) (by simp [diskE, diskNw]) (by simp) ?_
  simp -implicitDefEqProofs [s12]
  refine acall_pure (repI_ev 1 d.wait.length (by omega) (by omega)) (by simp -implicitDefEqProofs; rfl) (by simp -implicitDefEqProofs) (by simp -implicitDefEqProofs) ?_
  simp -implicitDefEqProofs
  refine acall_pure (diskCrash_ev d (List.replicate d.wait.length 1) h1 h2 (by simp -implicitDefEqProofs; omega)) (by simp -implicitDefEqProofs; rw [List.take_of_length_le (by simp -implicitDefEqProofs)]) (by simp -implicitDefEqProofs [diskE, diskNw]) (by simp -implicitDefEqProofs [diskE, diskNw]) ?_
  simp -implicitDefEqProofs [diskE, diskNw, syncR]

theorem crashR_len {d : DiskV} {keep : List Int} (h : mayB d = true) : (crashR d keep).1.safe.length = d.safe.length := by
  rw [crashR, if_pos h]; exact crashGo_length _ _ _ _

theorem diskRead_ev (d : DiskV) (at_ : Int) (h1 : d.safe.length < 1000000) (h2 : d.wait.length < 1000000) :
    PEv Try.prog 35 [Arg.enc d, .c (.raw (.int .i64 at_))] (.t [(false, [.str (readR d at_).1]), (false, [.raw (.int .i64 (readR d at_).2)])]) := by
  refine tells_of mixed F4_ok Try.func35 sl35 ok35 (by kernel_rfl) (by simp) (by simp) ?_
  simp -implicitDefEqProofs [s35]
  refine acall_pure (diskSync_ev d h1 h2) (by simp -implicitDefEqProofs) (by simp -implicitDefEqProofs [diskE, diskNw]) (by simp -implicitDefEqProofs [diskE, diskNw]) ?_
  unfold readR
  by_cases hm : mayB d = true
  · have e1 : (syncR d).2 = 0 := by rw [syncR, crashR, if_pos hm]
    have e2 := crashR_len (keep := List.replicate d.wait.length 1) hm
    rw [← syncR] at e2
    rw [if_neg (by simp -implicitDefEqProofs [hm])]
    by_cases g1 : at_ < 0
    · rw [if_pos (.inl g1)]
      simp -implicitDefEqProofs [diskE, diskNw, e1, g1]
    · by_cases g2 : (d.safe.length : Int) ≤ at_
      · rw [if_pos (.inr g2)]
        simp -implicitDefEqProofs [diskE, diskNw, e1, e2, g1, g2]
      · rw [if_neg (by omega)]
        have g3 : at_.toNat < (syncR d).1.safe.length := by omega
        have g4 : at_ < d.safe.length := by omega
        have g5 : 0 ≤ at_ := by omega
        simp -implicitDefEqProofs [diskE, diskNw, e1, e2, g1, g2, g3, g4, g5]
  · have e1 : (syncR d).2 = 1 := by rw [syncR, crashR, if_neg hm]
    rw [if_pos (by simpa using hm)]
    simp -implicitDefEqProofs [diskE, diskNw, e1]

theorem diskCheck_ev (d : DiskV) (h1 : d.safe.length < 1000000) (h2 : d.wait.length < 1000000) :
    PEv Try.prog 43 [Arg.enc d] (.c (.raw (.int .i64 (if mayB d = true then 0 else 1)))) := by
  refine tells_of mixed F4_ok Try.func43 sl43 ok43 (by kernel_rfl) (by simp) (by simp) ?_
  by_cases hm : mayB d = true
  · simp -implicitDefEqProofs [s43, h1, h2, hm]
  · simp -implicitDefEqProofs [s43, h1, h2, hm]

end Go.AE

/- The disk's statements: acts, the table of what the disk's functions tell, wakes, answers written over. -/
set_option linter.unusedVariables false
set_option linter.unusedSimpArgs false
set_option maxHeartbeats 2000000
set_option maxRecDepth 100000
namespace Go.AE
open Go Go.Proofs

structure ActD where
  do_ : Int
  n : Int
  s : List UInt8
  k : List Int

instance encActD : Enc ActD where
  w := 4
  row a := [.raw (.int .i64 a.do_), .raw (.int .i64 a.n), .str a.s, .sl .old false (rowsE a.k)]
  dec | [.raw (.int .i64 d), .raw (.int .i64 n), .str s, .sl .old false k] => (decE k).map fun k => ⟨d, n, s, k⟩ | _ => none
  dec_row a := by simp -implicitDefEqProofs
  row_dec {r a} h := by
    split at h
    · rw [Option.map_eq_some_iff] at h
      obtain ⟨k, hk, rfl⟩ := h
      rw [decE_some hk]
    · cases h
  len _ := rfl
  old a c hc := by
    simp -implicitDefEqProofs at hc
    rcases hc with rfl | rfl | rfl | rfl
    · exact .raw _
    · exact .raw _
    · exact .str _
    · rw [oldOK_sl]; simp -implicitDefEqProofs
  ret a c hc := by
    simp -implicitDefEqProofs at hc
    rcases hc with rfl | rfl | rfl | rfl
    · exact .raw _
    · exact .raw _
    · exact .str _
    · rw [retOK_sl]; simp -implicitDefEqProofs

@[simp] theorem row_ActD (a : ActD) : Enc.row a = [AC.raw (.int .i64 a.do_), AC.raw (.int .i64 a.n), AC.str a.s, AC.sl .old false (rowsE a.k)] := rfl
@[simp] theorem w_ActD : Enc.w ActD = 4 := rfl

def F5_h19 : List AV → Option (Prop × AV) := t1 (fun _ => True) fun n : Int => diskE (newR n)
@[simp] theorem F5_ap19 {l : List AV} : F5_h19 l = (t1 (fun _ => True) fun n : Int => diskE (newR n)) l := rfl
def F5_h11 : List AV → Option (Prop × AV) := t3 (fun (d : DiskV) _ _ => d.safe.length < 1000000 ∧ d.wait.length < 1000000) fun (d : DiskV) (n : Int) (s : List UInt8) => diskE (putR d n s)
@[simp] theorem F5_ap11 {l : List AV} : F5_h11 l = (t3 (fun (d : DiskV) _ _ => d.safe.length < 1000000 ∧ d.wait.length < 1000000) fun (d : DiskV) (n : Int) (s : List UInt8) => diskE (putR d n s)) l := rfl
def F5_h12 : List AV → Option (Prop × AV) := t1 (fun d : DiskV => d.safe.length < 1000000 ∧ d.wait.length < 1000000) fun d : DiskV => diskE (syncR d)
@[simp] theorem F5_ap12 {l : List AV} : F5_h12 l = (t1 (fun d : DiskV => d.safe.length < 1000000 ∧ d.wait.length < 1000000) fun d : DiskV => diskE (syncR d)) l := rfl
def F5_h16 : List AV → Option (Prop × AV) := t2 (fun (d : DiskV) (k : List Int) => d.safe.length < 1000000 ∧ d.wait.length < 1000000 ∧ k.length < 281474976710656) fun (d : DiskV) (k : List Int) => diskE (crashR d k)
@[simp] theorem F5_ap16 {l : List AV} : F5_h16 l = (t2 (fun (d : DiskV) (k : List Int) => d.safe.length < 1000000 ∧ d.wait.length < 1000000 ∧ k.length < 281474976710656) fun (d : DiskV) (k : List Int) => diskE (crashR d k)) l := rfl
def F5_h35 : List AV → Option (Prop × AV) := t2 (fun (d : DiskV) _ => d.safe.length < 1000000 ∧ d.wait.length < 1000000) fun (d : DiskV) (n : Int) => .t [(false, [.str (readR d n).1]), (false, [.raw (.int .i64 (readR d n).2)])]
@[simp] theorem F5_ap35 {l : List AV} : F5_h35 l = (t2 (fun (d : DiskV) _ => d.safe.length < 1000000 ∧ d.wait.length < 1000000) fun (d : DiskV) (n : Int) => .t [(false, [.str (readR d n).1]), (false, [.raw (.int .i64 (readR d n).2)])]) l := rfl
def F5_h43 : List AV → Option (Prop × AV) := t1 (fun d : DiskV => d.safe.length < 1000000 ∧ d.wait.length < 1000000) fun d : DiskV => .c (.raw (.int .i64 (if mayB d = true then 0 else 1)))
@[simp] theorem F5_ap43 {l : List AV} : F5_h43 l = (t1 (fun d : DiskV => d.safe.length < 1000000 ∧ d.wait.length < 1000000) fun d : DiskV => .c (.raw (.int .i64 (if mayB d = true then 0 else 1)))) l := rfl
def F5_h20 : List AV → Option (Prop × AV) := t2 (fun (d : DiskV) (k : List Int) => mayB d = true ∧ k.length < 281474976710656) fun (d : DiskV) (k : List Int) => .g (diskNw ⟨crashGo k 0 d.safe d.wait, []⟩)
@[simp] theorem F5_ap20 {l : List AV} : F5_h20 l = (t2 (fun (d : DiskV) (k : List Int) => mayB d = true ∧ k.length < 281474976710656) fun (d : DiskV) (k : List Int) => .g (diskNw ⟨crashGo k 0 d.safe d.wait, []⟩)) l := rfl
def F5_h40 : List AV → Option (Prop × AV) := t1 (fun d : DiskV => mayB d = true) fun d : DiskV => .g (diskNw ⟨syncGo d.safe d.wait, []⟩)
@[simp] theorem F5_ap40 {l : List AV} : F5_h40 l = (t1 (fun d : DiskV => mayB d = true) fun d : DiskV => .g (diskNw ⟨syncGo d.safe d.wait, []⟩)) l := rfl
def F5_h10 : List AV → Option (Prop × AV) := t1 (fun n : Int => 0 ≤ n ∧ n ≤ 1000) fun n : Int => .g (diskNw ⟨List.replicate n.toNat blank, []⟩)
@[simp] theorem F5_ap10 {l : List AV} : F5_h10 l = (t1 (fun n : Int => 0 ≤ n ∧ n ≤ 1000) fun n : Int => .g (diskNw ⟨List.replicate n.toNat blank, []⟩)) l := rfl
def F5_h42 : List AV → Option (Prop × AV) := t3 (fun (d : DiskV) _ _ => d.safe.length < 1000000 ∧ d.wait.length < 1000000) fun (d : DiskV) (n : Int) (s : List UInt8) => diskE (refPutR d n s)
@[simp] theorem F5_ap42 {l : List AV} : F5_h42 l = (t3 (fun (d : DiskV) _ _ => d.safe.length < 1000000 ∧ d.wait.length < 1000000) fun (d : DiskV) (n : Int) (s : List UInt8) => diskE (refPutR d n s)) l := rfl
def F5 : CT := (19, F5_h19) :: (11, F5_h11) :: (12, F5_h12) :: (16, F5_h16) :: (35, F5_h35) :: (43, F5_h43) :: (20, F5_h20) :: (40, F5_h40) :: (10, F5_h10) :: (42, F5_h42) :: F4
theorem F5_ok : CTok Try.prog F5 := ⟨tells1 fun n _ => diskNew_ev n,
  tells3 fun d n s h => diskPut_ev d n s h.1 h.2,
  tells1 fun d h => diskSync_ev d h.1 h.2,
  tells2 fun d k h => diskCrash_ev d k h.1 h.2.1 h.2.2,
  tells2 fun d n h => diskRead_ev d n h.1 h.2,
  tells1 fun d h => diskCheck_ev d h.1 h.2,
  tells2 fun d k h => refCrash_ev d k h.1 h.2,
  tells1 fun d h => refSync_ev d h,
  tells1 fun n h => refNewI_ev n h,
  tells3 fun d n s h => refPut_ev d n s h.1 h.2, F4_ok⟩
@[simp] theorem F5_get19 : ctGet F5 19 = some F5_h19 := rfl
@[simp] theorem F5_get11 : ctGet F5 11 = some F5_h11 := rfl
@[simp] theorem F5_get12 : ctGet F5 12 = some F5_h12 := rfl
@[simp] theorem F5_get16 : ctGet F5 16 = some F5_h16 := rfl
@[simp] theorem F5_get35 : ctGet F5 35 = some F5_h35 := rfl
@[simp] theorem F5_get43 : ctGet F5 43 = some F5_h43 := rfl
@[simp] theorem F5_get20 : ctGet F5 20 = some F5_h20 := rfl
@[simp] theorem F5_get40 : ctGet F5 40 = some F5_h40 := rfl
@[simp] theorem F5_get10 : ctGet F5 10 = some F5_h10 := rfl
@[simp] theorem F5_get42 : ctGet F5 42 = some F5_h42 := rfl
@[simp] theorem F5_skip {n : Nat} (h : (n == 19 || n == 11 || n == 12 || n == 16 || n == 35 || n == 43 || n == 20 || n == 40 || n == 10 || n == 42) = false) : ctGet F5 n = ctGet F4 n := by
  simp only [Bool.or_eq_false_iff, beq_eq_false_iff_ne, ne_eq] at h
  simp [F5, ctGet, h]

def wakesText : List UInt8 := List.replicate 31 0 ++ [120]
theorem wkT : List.replicate 31 (0 : UInt8) ++ [120] = wakesText := rfl
theorem wk1 : newR 3 = (⟨List.replicate 3 blank, []⟩, 0) := by decide
theorem wk2 : putR ⟨List.replicate 3 blank, []⟩ 2 wakesText = (⟨List.replicate 3 blank, [⟨2, wakesText⟩]⟩, 0) := by decide
theorem wk3 : crashR ⟨List.replicate 3 blank, [⟨2, wakesText⟩]⟩ [] = (⟨List.replicate 3 blank, []⟩, 0) := by decide
theorem wk4 : syncR ⟨List.replicate 3 blank, [⟨2, wakesText⟩]⟩ = (⟨[blank, blank, wakesText], []⟩, 0) := by decide
theorem wk5 : readR ⟨[blank, blank, wakesText], []⟩ 2 = (wakesText, 0) := by decide

@[simp] theorem rowsE_take_all {α : Type} [Enc α] {l : List α} {n : Nat} (h : l.length ≤ n) : List.take n (rowsE l) = rowsE l := by rw [List.take_of_length_le (by simpa using h)]

@[simp] theorem dec_Disk0 (a : List (List UInt8)) : Arg.dec (.g [.sl .brw false (rowsE a), .sl .brw false []]) = some (DiskV.mk a []) := dec_Disk a []
@[simp] theorem dec_Disk00 : Arg.dec (.g [.sl .brw false [], .sl .brw false []]) = some (DiskV.mk [] []) := dec_Disk [] []
theorem view0 : Arg.dec (AV.c (AC.sl .brw false [])) = some ([] : List Int) := rfl

theorem wakes_ev : PEv Try.prog 18 [] (.c (.raw (.bool true))) := by
  refine tells_of mixed F5_ok Try.func18 sl18 ok18 (by kernel_rfl) (by simp) (by simp) ?_
  have hb : List.replicate 32 (0 : UInt8) = blank := rfl
  simp -implicitDefEqProofs [-List.reduceReplicate, s18, wk1, wk2, wk3, wk4, wk5, wkT, hb, diskE, diskNw, bytes_zero, view0]

end Go.AE

/- What an argument reads as, as the abstract machine's cells. -/
set_option linter.unusedVariables false
set_option linter.unusedSimpArgs false
set_option maxHeartbeats 2000000
namespace Go.AE
open Go Go.ChangeShapes Go.WideShapes

variable {P : Program}

/-- Data of type t are α's. -/
def Opens (α : Type) [Enc α] (P : Program) (t : TypeId) (S : α → Prop) : Prop :=
  ∀ {H : Type} (enc : TypeId × Value → H) (w : World) (F : Tag → Nat → Prop) (fuel : Nat) (cs : List Value) (x : DataW H × List MemPlace), (∀ b, b < w.heap.size → F .old b) →
    DataW.trod enc P w 0 (fun _ => true) true fuel t cs = some x →
    ∃ a : α, cs.length = Enc.w α ∧ (∀ v ∈ cs, v.oneCell' = true) ∧ (∀ (k : Nat) c, (Enc.row a)[k]? = some c → RelC w F noHeap noLies c (cs.getD k undef)) ∧
      ((x.1.weights P t).all (· ≤ reachBytes) = true → S a)

theorem opens_str {t : TypeId} (ht : P.underlying t = some .string) : Opens (List UInt8) P t (fun s => s.length ≤ reachBytes) := by
  intro H enc w F fuel cs x hF h
  obtain ⟨s, rfl, rfl, hs⟩ := DataW.trod_string ht h
  refine ⟨s.data.toList, rfl, by simp [Value.oneCell'], fun k c hk => ?_, fun hw => ?_⟩
  · match k, hk with
    | 0, hk =>
      simp at hk
      subst hk
      exact .str s.data.toList
  · simpa [DataW.weights] using hw

theorem opens_int {t : TypeId} (ht : P.underlying t = some (.int .i64)) : Opens Int P t (fun n => -9223372036854775808 ≤ n ∧ n ≤ 9223372036854775807) := by
  intro H enc w F fuel cs x hF h
  obtain ⟨n, rfl, rfl, hn⟩ := DataW.trod_int ht h
  refine ⟨n, rfl, by simp [Value.oneCell'], fun k c hk => ?_, fun _ => ?_⟩
  · match k, hk with
    | 0, hk =>
      simp at hk
      subst hk
      exact .raw _
  · simp only [Lit.wf, Bool.and_eq_true, decide_eq_true_eq] at hn
    have e1 : IntKind.min .i64 = -9223372036854775808 := rfl
    have e2 : IntKind.max .i64 = 9223372036854775807 := rfl
    omega

/-- A slice's reading: one cell. -/
def OpensL (α : Type) [Enc α] (P : Program) (t : TypeId) (S : List α → Prop) : Prop :=
  ∀ {H : Type} (enc : TypeId × Value → H) (w : World) (F : Tag → Nat → Prop) (fuel : Nat) (cs : List Value) (x : DataW H × List MemPlace), (∀ b, b < w.heap.size → F .old b) →
    DataW.trod enc P w 0 (fun _ => true) true fuel t cs = some x →
    ∃ l : List α, cs.length = 1 ∧ (∀ v ∈ cs, v.oneCell' = true) ∧ RelC w F noHeap noLies (.sl .old false (rowsE l)) (cs.getD 0 undef) ∧
      ((x.1.weights P t).all (· ≤ reachBytes) = true → S l)

theorem weightsAll_mem {H : Type} {e : TypeId} : ∀ {l : List (DataW H)} {d : DataW H}, d ∈ l → ∀ n ∈ d.weights P e, n ∈ DataW.weightsAll P e l
  | [], _, h, _, _ => by simp at h
  | d :: r, _, h, n, hn => by
    rcases List.mem_cons.1 h with rfl | h
    · simp [DataW.weightsAll, hn]
    · simp [DataW.weightsAll, weightsAll_mem h n hn]

theorem opens_slice {α : Type} [Enc α] {t e : TypeId} {S : α → Prop} (ht : P.underlying t = some (.slice e)) (he : Opens α P e S) (hc : P.cellsOf e = Enc.w α) (hpos : 0 < Enc.w α) :
    OpensL α P t (fun l => l.length * P.bytesOf e ≤ reachBytes ∧ ∀ a ∈ l, S a) := by
  intro H enc w F fuel cs x hF h
  rcases DataW.trod_slice ht h with ⟨rfl, rfl⟩ | ⟨a, len, cap, elems, rest, n, _, rfl, rfl, hb, hl, hm, hlen, hel, hsp, hns⟩
  · exact ⟨[], rfl, by simp [Value.oneCell'], .slNil _ _ _ .nil, fun _ => by simp [reachBytes]⟩
  · -- the elements
    have each : ∀ i, i < len → ∃ (y : α) (cells : List Value) (d : DataW H × List MemPlace), elems[i]? = some d ∧ w.cells? 0 (a.add (i * P.cellsOf e)) (P.cellsOf e) = some cells ∧ cells.length = Enc.w α ∧ (∀ v ∈ cells, v.oneCell' = true) ∧
        (∀ (k : Nat) c, (Enc.row y)[k]? = some c → RelC w F noHeap noLies c (cells.getD k undef)) ∧ ((d.1.weights P e).all (· ≤ reachBytes) = true → S y) := fun i hi => by
      have h1 := hel i hi
      have h2 : i < elems.length := by omega
      rw [List.getElem?_eq_getElem h2, Option.bind_eq_some_iff] at h1
      obtain ⟨cells, hcells, htrod⟩ := h1
      obtain ⟨y, g1, g2, g3, g4⟩ := he enc w F n cells elems[i] hF htrod
      exact ⟨y, cells, elems[i], List.getElem?_eq_getElem h2, hcells, g1, g2, g3, g4⟩
    let ys : List α := (List.range len).attach.map fun i => Classical.choose (each i.1 (List.mem_range.1 i.2))
    have hys : ys.length = len := by simp [ys]
    have hyi : ∀ i (hi : i < len), ys[i]? = some (Classical.choose (each i hi)) := fun i hi => by
      simp [ys, hi]
    have spec := fun i (hi : i < len) => Classical.choose_spec (each i hi)
    -- the first cell tells where it lies
    have first : ∀ cells, w.cells? 0 (a.add 0) (P.cellsOf e) = some cells → a.spot = none ∧ a.block < w.heap.size := fun cells hcs => by
      obtain ⟨_, g1, g2⟩ := World.cells?_some hcs
      have g3 := g2 0 (by omega)
      have e0 : (a.add 0).add 0 = a := by simp [Addr.add]
      rw [e0, List.getElem?_eq_getElem (by omega)] at g3
      unfold World.cell? at g3
      split at g3
      · rename_i c _ _ hb
        split at g3
        · cases g3
        · rename_i hs
          exact ⟨by simpa using hs, (Array.getElem?_eq_some_iff.1 hb).1⟩
      · cases g3
    by_cases h0 : len = 0
    · have hy0 : ys = [] := List.eq_nil_of_length_eq_zero (by omega)
      have he0 : elems = [] := List.eq_nil_of_length_eq_zero (by omega)
      have rel : RelC w F noHeap noLies (.sl .old false (rowsE ([] : List α))) ((([Value.slice (some a) len cap] : List Value)).getD 0 undef) := by
        show RelC w F noHeap noLies (.sl .old false []) (.slice (some a) len cap)
        by_cases hc0 : cap = 0
        · rw [h0, hc0]; exact .slNil _ _ _ (.inr ⟨a, rfl⟩)
        · obtain ⟨r1, r2⟩ := hsp rfl
          have r3 := r2 0 (by omega)
          rw [List.getElem?_eq_getElem (by omega), Option.bind_eq_some_iff] at r3
          obtain ⟨cells, hcells, _⟩ := r3
          rw [h0] at hcells
          simp only [Nat.add_zero, Nat.zero_mul] at hcells
          obtain ⟨f1, f2⟩ := first cells hcells
          have ea : a = ⟨a.block, a.off, none⟩ := by cases a; simp at f1; subst f1; rfl
          rw [h0, ea]
          exact .sl _ _ [] a.block a.off cap 0 (fun _ => undef) f2 (hF _ f2) (by simp) (fun q => by cases q) (by simp) (by simp) (by simp) (by simp)
      exact ⟨[], rfl, by simp [Value.oneCell'], rel, fun _ => by simp [reachBytes]⟩
    · obtain ⟨_, cells0, _, _, hc0, _⟩ := each 0 (by omega)
      rw [Nat.zero_mul] at hc0
      obtain ⟨f1, f2⟩ := first cells0 hc0
      have ea : a = ⟨a.block, a.off, none⟩ := by cases a; simp at f1; subst f1; rfl
      generalize hbb : a.block = b at *
      generalize hoo : a.off = o at *
      clear hbb hoo
      subst ea
      have cellAt : ∀ i (hi : i < len) j, j < Enc.w α → ∃ u, w.cell? ⟨b, o + (i * Enc.w α + j), none⟩ = some u ∧ u.oneCell' = true ∧ ∀ c, (Enc.row (Classical.choose (each i hi)))[j]? = some c → RelC w F noHeap noLies c u := fun i hi j hj => by
        obtain ⟨cells, d, g1, g2, g3, g4, g5, g6⟩ := spec i hi
        obtain ⟨_, q1, q2⟩ := World.cells?_some g2
        have q3 := q2 j (by omega)
        rw [Addr.add_lit, Addr.add_lit, hc, List.getElem?_eq_getElem (by omega)] at q3
        refine ⟨cells[j], by rw [← Nat.add_assoc]; exact q3, g4 _ (List.getElem_mem _), fun c hcj => ?_⟩
        have := g5 j c hcj
        rwa [List.getD_eq_getElem?_getD, List.getElem?_eq_getElem (by omega), Option.getD_some] at this
      have hdm : ∀ k, k < len * Enc.w α → k / Enc.w α < len ∧ k % Enc.w α < Enc.w α ∧ k / Enc.w α * Enc.w α + k % Enc.w α = k := fun k hk =>
        ⟨Nat.div_lt_of_lt_mul (by rw [Nat.mul_comm]; exact hk), Nat.mod_lt _ hpos, by rw [Nat.mul_comm]; exact Nat.div_add_mod _ _⟩
      refine ⟨ys, rfl, by simp [Value.oneCell'], ?_, fun hw => ?_⟩
      · show RelC w F noHeap noLies (.sl .old false (rowsE ys)) (.slice (some ⟨b, o, none⟩) len cap)
        have hrl : (rowsE ys).length = len := by simp [hys]
        have := RelC.sl (w := w) (F := F) (H := noHeap) (ρ := noLies) .old false (rowsE ys) b o cap (Enc.w α) (fun k => (w.cell? ⟨b, o + k, none⟩).getD undef) f2 (hF _ f2) (by omega) (fun q => by cases q)
          (fun i r hr => by
            rw [rowsE_get?, Option.map_eq_some_iff] at hr
            obtain ⟨y, _, rfl⟩ := hr
            exact Enc.len y)
          (fun k hk => by
            rw [hrl] at hk
            obtain ⟨d1, d2, d3⟩ := hdm k hk
            obtain ⟨u, u1, _⟩ := cellAt _ d1 _ d2
            rw [d3] at u1
            rw [u1]; rfl)
          (fun k hk => by
            rw [hrl] at hk
            obtain ⟨d1, d2, d3⟩ := hdm k hk
            obtain ⟨u, u1, u2, _⟩ := cellAt _ d1 _ d2
            rw [d3] at u1
            rw [u1]; exact u2)
          (fun i j r c hr hcj => by
            rw [rowsE_get?, Option.map_eq_some_iff] at hr
            obtain ⟨y, hy, rfl⟩ := hr
            have hi : i < len := by have := (List.getElem?_eq_some_iff.1 hy).1; omega
            rw [hyi i hi] at hy
            cases hy
            have hj : j < Enc.w α := by have := (List.getElem?_eq_some_iff.1 hcj).1; rw [Enc.len] at this; exact this
            obtain ⟨u, u1, _, u3⟩ := cellAt i hi j hj
            rw [u1]; exact u3 c hcj)
        rwa [hrl] at this
      · simp only [DataW.weights, ht, List.all_cons, Bool.and_eq_true, decide_eq_true_eq, List.all_append, List.length_map] at hw
        obtain ⟨hw1, hw2, _⟩ := hw
        refine ⟨?_, fun y hy => ?_⟩
        · rw [hys]
          refine Nat.le_trans (Nat.mul_le_mul_right _ ?_) hw1
          omega
        · obtain ⟨i, hi, rfl⟩ := List.getElem_of_mem hy
          have hi' : i < len := by omega
          have e1 : ys[i] = Classical.choose (each i hi') := by
            have := hyi i hi'
            rw [List.getElem?_eq_getElem hi] at this
            exact Option.some.inj this
          rw [e1]
          obtain ⟨cells, d, g1, g2, g3, g4, g5, g6⟩ := spec i hi'
          refine g6 (List.all_eq_true.2 fun n hn => ?_)
          exact List.all_eq_true.1 hw2 n (weightsAll_mem (List.mem_map.2 ⟨d, List.mem_of_getElem? g1, rfl⟩) n hn)

end Go.AE

/- What a disk's script reads as. -/
set_option linter.unusedVariables false
set_option linter.unusedSimpArgs false
set_option maxHeartbeats 2000000
namespace Go.AE
open Go Go.Proofs

theorem opens_Sect : Opens Sect Try.prog 57 (fun s => s.text.length ≤ reachBytes) := by
  intro H enc w F fuel cs x hF h
  obtain ⟨xs, n, _, rfl, hl, hlen, hf⟩ := DataW.trod_struct Try.underlying57 h
  rw [show Try.prog.cellsOf 57 = 2 from by kernel_rfl] at hl
  match cs, hl, xs, hlen with
  | [c0, c1], _, [x0, x1], _ =>
    have h0 := hf 0 _ rfl
    change DataW.trod enc Try.prog w 0 _ true _ 3 (List.take (Try.prog.cellsOf 3) [c0, c1]) = some x0 at h0
    rw [show Try.prog.cellsOf 3 = 1 from by kernel_rfl] at h0
    have h1 := hf 1 _ rfl
    change DataW.trod enc Try.prog w 0 _ true _ 9 (List.take (Try.prog.cellsOf 9) [c1]) = some x1 at h1
    rw [show Try.prog.cellsOf 9 = 1 from by kernel_rfl] at h1
    obtain ⟨a0, _, o0, r0, s0⟩ := opens_int Try.underlying3 enc w F n _ _ hF h0
    obtain ⟨a1, _, o1, r1, s1⟩ := opens_str Try.underlying9 enc w F n _ _ hF h1
    refine ⟨⟨a0, a1⟩, rfl, ?_, ?_, fun hw => ?_⟩
    · intro v hv
      simp -implicitDefEqProofs at hv o0 o1
      rcases hv with rfl | rfl
      · exact o0
      · exact o1
    · intro k c hk
      match k, hk with
      | 0, hk => exact r0 0 c (by simpa using hk)
      | 1, hk => exact r1 0 c (by simpa using hk)
    · simp only [DataW.weights, Try.underlying57, DataW.weightsEach, List.map_cons, List.map_nil, List.append_nil, List.all_append, Bool.and_eq_true] at hw
      exact s1 hw.2

theorem opens_Ints : OpensL Int Try.prog 38 (fun l => l.length * Try.prog.bytesOf 3 ≤ reachBytes ∧ ∀ a ∈ l, -9223372036854775808 ≤ a ∧ a ≤ 9223372036854775807) :=
  opens_slice Try.underlying38 (opens_int Try.underlying3) (by kernel_rfl) (by decide)

theorem opens_Strs : OpensL (List UInt8) Try.prog 22 (fun l => l.length * Try.prog.bytesOf 9 ≤ reachBytes ∧ ∀ a ∈ l, a.length ≤ reachBytes) :=
  opens_slice Try.underlying22 (opens_str Try.underlying9) (by kernel_rfl) (by decide)

theorem opens_Sects : OpensL Sect Try.prog 23 (fun l => l.length * Try.prog.bytesOf 57 ≤ reachBytes ∧ ∀ a ∈ l, a.text.length ≤ reachBytes) :=
  opens_slice Try.underlying23 opens_Sect (by kernel_rfl) (by decide)

theorem opens_ActD : Opens ActD Try.prog 40 (fun a => a.s.length ≤ reachBytes ∧ a.k.length * 8 ≤ reachBytes) := by
  intro H enc w F fuel cs x hF h
  obtain ⟨xs, n, _, rfl, hl, hlen, hf⟩ := DataW.trod_struct Try.underlying40 h
  rw [show Try.prog.cellsOf 40 = 4 from by kernel_rfl] at hl
  match cs, hl, xs, hlen with
  | [c0, c1, c2, c3], _, [x0, x1, x2, x3], _ =>
    have h0 := hf 0 _ rfl
    change DataW.trod enc Try.prog w 0 _ true _ 3 (List.take (Try.prog.cellsOf 3) [c0, c1, c2, c3]) = some x0 at h0
    rw [show Try.prog.cellsOf 3 = 1 from by kernel_rfl] at h0
    have h1 := hf 1 _ rfl
    change DataW.trod enc Try.prog w 0 _ true _ 3 (List.take (Try.prog.cellsOf 3) [c1, c2, c3]) = some x1 at h1
    rw [show Try.prog.cellsOf 3 = 1 from by kernel_rfl] at h1
    have h2 := hf 2 _ rfl
    change DataW.trod enc Try.prog w 0 _ true _ 9 (List.take (Try.prog.cellsOf 9) [c2, c3]) = some x2 at h2
    rw [show Try.prog.cellsOf 9 = 1 from by kernel_rfl] at h2
    have h3 := hf 3 _ rfl
    change DataW.trod enc Try.prog w 0 _ true _ 38 (List.take (Try.prog.cellsOf 38) [c3]) = some x3 at h3
    rw [show Try.prog.cellsOf 38 = 1 from by kernel_rfl] at h3
    obtain ⟨a0, _, o0, r0, s0⟩ := opens_int Try.underlying3 enc w F n _ _ hF h0
    obtain ⟨a1, _, o1, r1, s1⟩ := opens_int Try.underlying3 enc w F n _ _ hF h1
    obtain ⟨a2, _, o2, r2, s2⟩ := opens_str Try.underlying9 enc w F n _ _ hF h2
    obtain ⟨a3, _, o3, r3, s3⟩ := opens_Ints enc w F n _ _ hF h3
    refine ⟨⟨a0, a1, a2, a3⟩, rfl, ?_, ?_, fun hw => ?_⟩
    · intro v hv
      simp -implicitDefEqProofs at hv o0 o1 o2 o3
      rcases hv with rfl | rfl | rfl | rfl
      · exact o0
      · exact o1
      · exact o2
      · exact o3
    · intro k c hk
      match k, hk with
      | 0, hk => exact r0 0 c (by simpa using hk)
      | 1, hk => exact r1 0 c (by simpa using hk)
      | 2, hk => exact r2 0 c (by simpa using hk)
      | 3, hk =>
        simp -implicitDefEqProofs at hk
        subst hk
        exact r3
    · simp only [DataW.weights, Try.underlying40, DataW.weightsEach, List.map_cons, List.map_nil, List.append_nil, List.all_append, Bool.and_eq_true] at hw
      refine ⟨s2 hw.2.2.1, ?_⟩
      have := (s3 hw.2.2.2).1
      rwa [show Try.prog.bytesOf 3 = 8 from by kernel_rfl] at this

theorem opens_Acts : OpensL ActD Try.prog 26 (fun l => l.length * Try.prog.bytesOf 40 ≤ reachBytes ∧ ∀ a ∈ l, a.s.length ≤ reachBytes ∧ a.k.length * 8 ≤ reachBytes) :=
  opens_slice Try.underlying26 opens_ActD (by kernel_rfl) (by decide)

/-- A script: a disk, a number, acts. -/
structure ScriptD where
  d : DiskV
  n : Int
  l : List ActD

def scriptA (p : ScriptD) : AV := .g [.sl .brw false (rowsE p.d.safe), .sl .brw false (rowsE p.d.wait), .raw (.int .i64 p.n), .sl .brw false (rowsE p.l)]

/-- What sizes a script's parts have. -/
structure ScriptS (p : ScriptD) : Prop where
  safe : p.d.safe.length < 281474976710656
  wait : p.d.wait.length < 281474976710656
  safeS : ∀ s ∈ p.d.safe, s.length < 281474976710656
  waitS : ∀ s ∈ p.d.wait, s.text.length < 281474976710656
  acts : p.l.length < 2513169434844
  actS : ∀ a ∈ p.l, a.s.length < 281474976710656 ∧ a.k.length < 281474976710656

theorem RelC.brw {w : World} {F : Tag → Nat → Prop} {H : Heap} {ρ : Lies} {cl : Bool} {xs : List (List AC)} {v : Value} (h : RelC w F H ρ (.sl .old cl xs) v) (hF : ∀ b, F .old b → F .brw b) : RelC w F H ρ (.sl .brw cl xs) v := by
  cases h with
  | slNil _ _ _ h => exact .slNil _ _ _ h
  | sl _ _ _ b o cap sz vs hb hf hcap hcl hr hcell hone hrel => exact .sl _ _ _ b o cap sz vs hb (hF b hf) hcap hcl hr hcell hone hrel

theorem opens_Script {H : Type} (enc : TypeId × Value → H) (w : World) (F : Tag → Nat → Prop) (fuel : Nat) (cs : List Value) (x : DataW H × List MemPlace) (hF : ∀ b, b < w.heap.size → F .old b) (hF2 : ∀ b, F .old b → F .brw b)
    (h : DataW.trod enc Try.prog w 0 (fun _ => true) true fuel 28 cs = some x) (hw : (x.1.weights Try.prog 28).all (· ≤ reachBytes) = true) :
    ∃ p : ScriptD, ScriptS p ∧ RelV w F noHeap noLies (scriptA p) (.agg cs.toArray) := by
  obtain ⟨xs, n, _, rfl, hl, hlen, hf⟩ := DataW.trod_struct Try.underlying28 h
  rw [show Try.prog.cellsOf 28 = 4 from by kernel_rfl] at hl
  match cs, hl, xs, hlen with
  | [c0, c1, c2, c3], _, [x0, x1, x2], _ =>
    have h0 := hf 0 _ rfl
    change DataW.trod enc Try.prog w 0 _ true _ 25 (List.take (Try.prog.cellsOf 25) [c0, c1, c2, c3]) = some x0 at h0
    rw [show Try.prog.cellsOf 25 = 2 from by kernel_rfl] at h0
    have h1 := hf 1 _ rfl
    change DataW.trod enc Try.prog w 0 _ true _ 3 (List.take (Try.prog.cellsOf 3) [c2, c3]) = some x1 at h1
    rw [show Try.prog.cellsOf 3 = 1 from by kernel_rfl] at h1
    have h2 := hf 2 _ rfl
    change DataW.trod enc Try.prog w 0 _ true _ 26 (List.take (Try.prog.cellsOf 26) [c3]) = some x2 at h2
    rw [show Try.prog.cellsOf 26 = 1 from by kernel_rfl] at h2
    obtain ⟨ys, m, _, hx0, hl', hlen', hf'⟩ := DataW.trod_struct Try.underlying25 h0
    obtain ⟨a1, _, o1, r1, s1⟩ := opens_int Try.underlying3 enc w F n _ _ hF h1
    obtain ⟨a2, _, o2, r2, s2⟩ := opens_Acts enc w F n _ _ hF h2
    match ys, hlen' with
    | [y0, y1], _ =>
      have g0 := hf' 0 _ rfl
      change DataW.trod enc Try.prog w 0 _ true _ 22 (List.take (Try.prog.cellsOf 22) [c0, c1]) = some y0 at g0
      rw [show Try.prog.cellsOf 22 = 1 from by kernel_rfl] at g0
      have g1 := hf' 1 _ rfl
      change DataW.trod enc Try.prog w 0 _ true _ 23 (List.take (Try.prog.cellsOf 23) [c1]) = some y1 at g1
      rw [show Try.prog.cellsOf 23 = 1 from by kernel_rfl] at g1
      obtain ⟨b0, _, p0, q0, z0⟩ := opens_Strs enc w F m _ _ hF g0
      obtain ⟨b1, _, p1, q1, z1⟩ := opens_Sects enc w F m _ _ hF g1
      simp only [DataW.weights, Try.underlying28, Try.underlying25, DataW.weightsEach, List.map_cons, List.map_nil, List.append_nil, List.all_append, Bool.and_eq_true, hx0] at hw
      obtain ⟨⟨w0, w1⟩, _, w2⟩ := hw
      obtain ⟨i0, j0⟩ := z0 w0
      obtain ⟨i1, j1⟩ := z1 w1
      obtain ⟨i2, j2⟩ := s2 w2
      rw [show Try.prog.bytesOf 9 = 16 from by kernel_rfl] at i0
      rw [show Try.prog.bytesOf 57 = 24 from by kernel_rfl] at i1
      rw [show Try.prog.bytesOf 40 = 56 from by kernel_rfl] at i2
      have hr : reachBytes = 140737488351232 := rfl
      rw [hr] at i0 i1 i2 j0 j1 j2
      refine ⟨⟨⟨b0, b1⟩, a1, a2⟩, ⟨by simp -implicitDefEqProofs; omega, by simp -implicitDefEqProofs; omega, fun s hs => by have := j0 s hs; omega, fun s hs => by have := j1 s hs; omega, by simp -implicitDefEqProofs; omega, fun a ha => by have := j2 a ha; omega⟩, ?_⟩
      refine .g _ _ rfl fun k c hk => ?_
      match k, hk with
      | 0, hk => simp -implicitDefEqProofs at hk; subst hk; exact q0.brw hF2
      | 1, hk => simp -implicitDefEqProofs at hk; subst hk; exact q1.brw hF2
      | 2, hk => simp -implicitDefEqProofs at hk; subst hk; exact r1 0 _ rfl
      | 3, hk => simp -implicitDefEqProofs at hk; subst hk; exact r2.brw hF2

end Go.AE

/- DiskTorn: the walk. -/
set_option linter.unusedVariables false
set_option linter.unusedSimpArgs false
set_option maxHeartbeats 2000000
set_option maxRecDepth 100000
namespace Go.AE
open Go Go.Proofs

def textI (i : Nat) : List UInt8 := List.replicate 32 (UInt8.ofNat (97 + i))
def tornD : Nat → DiskV
  | 0 => ⟨List.replicate 3 blank, []⟩
  | i + 1 => ⟨(tornD i).safe, (tornD i).wait ++ [⟨(i : Int) % 2, textI i⟩]⟩

theorem torn_put {i : Nat} (h : i < 5) : putR ⟨(tornD i).safe, (tornD i).wait⟩ ((i : Int) % 2) (textI i) = (tornD (i + 1), 0) := by
  match i, h with
  | 0, _ => decide
  | 1, _ => decide
  | 2, _ => decide
  | 3, _ => decide
  | 4, _ => decide

theorem torn_may : mayB (tornD 5) = true := by decide
theorem torn_len {i : Nat} (h : i ≤ 5) : (tornD i).safe.length = 3 ∧ (tornD i).wait.length = i := by
  match i, h with
  | 0, _ => decide
  | 1, _ => decide
  | 2, _ => decide
  | 3, _ => decide
  | 4, _ => decide
  | 5, _ => decide

/-- A disk in a variable: its rows are objects. -/
def VarDisk (H : Heap) (v : Id) (d : DiskV) : Prop := ∃ j1 j2, H v = .arr 25 2 false [[.so j1 0 d.safe.length, .so j2 0 d.wait.length]] ∧ H j1 = .arr 9 1 false (rowsE d.safe) ∧ H j2 = .arr 57 2 false (rowsE d.wait)

theorem VarDisk.ext {S : List Id} {H0 H : Heap} {T0 T : Nat} {v : Id} {d : DiskV} (h : VarDisk H0 v d) (he : ExtH S H0 T0 H T) (hS : ∀ i ∈ S, H0 i = .unborn) : VarDisk H v d := by
  obtain ⟨j1, j2, h1, h2, h3⟩ := h
  have no : ∀ {i e sz f rows}, H0 i = OK.arr e sz f rows → i ∉ S := fun h hi => by rw [hS _ hi] at h; cases h
  exact ⟨j1, j2, he.arr h1 (no h1), he.arr h2 (no h2), he.arr h3 (no h3)⟩

theorem ExtH.trans {S S' : List Id} {H0 H1 H2 : Heap} {T0 T1 T1' T2 : Nat} (h : ExtH S H0 T0 H1 T1) (h' : ExtH S' H1 T1' H2 T2) (hT : T1 ≤ T1') (hS : ∀ i ∈ S', i ∈ S) : ExtH S H0 T0 H2 T2 := by
  refine ⟨fun i hi hn => ?_, h'.2.1, by have := h.2.2.1; have := h'.2.2.1; omega, h.2.2.2⟩
  have e1 := h.1 i hi hn
  rw [h'.1 i (by rw [e1]; exact hi) (fun q => hn (hS i q)), e1]

theorem torn_l0 {F : CT} (i : Nat) (hi : i < 5) {Q : AEx → St → Prop} {st : St} (A1 A3 : AV) (k1 : st.s 1 = A1) (k3 : st.s 3 = A3) (k5 : st.s 5 = .c (.raw (.int .i64 i))) (k6 : st.s 6 = .c (.str [])) (k7 : st.s 7 = .c (.raw (.int .i64 0))) (hf : Fresh st.H st.T)
    (hn : ∀ st', st'.s 1 = A1 → st'.s 3 = A3 → st'.s 5 = .c (.raw (.int .i64 i)) → st'.s 6 = .c (.str (textI i)) → ExtH [] st.H st.T st'.H st'.T → Q (.exit 2) st') :
    awpS Try.prog F (.loop s4L0) Q st := by
  refine loop_n (fun n st' => ∃ j : Nat, j ≤ 32 ∧ n = 32 - j ∧ st'.s 1 = A1 ∧ st'.s 3 = A3 ∧ st'.s 5 = .c (.raw (.int .i64 i)) ∧ st'.s 6 = .c (.str (List.replicate j (UInt8.ofNat (97 + i)))) ∧ st'.s 7 = .c (.raw (.int .i64 j)) ∧ ExtH [] st.H st.T st'.H st'.T) 32
    ⟨0, by simp -implicitDefEqProofs [k1, k3, k5, k6, k7, ExtH.refl hf]⟩ ?_
  rintro n st' ⟨j, hj, rfl, k1, k3, k5, k6, k7, he⟩
  have hf' := he.fresh
  have hT := he.2.2.1
  have hfu : ∀ k d, st'.T ≤ k → st'.H (k, d) = .unborn := hf'
  by_cases hlt : j < 32
  · have e2 : IntKind.wrap .i64 ((j : Int) + 1) = ((j + 1 : Nat) : Int) := by rw [wrap64_id] <;> omega
    have e3 : IntKind.wrap .i64 (97 + (i : Int)) = ((97 + i : Nat) : Int) := by rw [wrap64_id] <;> omega
    have e4 : IntKind.wrap .u8 (((97 + i : Nat) : Int)) = ((97 + i : Nat) : Int) := by
      have : IntKind.wrap .u8 (((97 + i : Nat) : Int)) = ((97 + i : Nat) : Int) % 256 := by simp -implicitDefEqProofs [IntKind.wrap, IntKind.bits, IntKind.signed]
      rw [this]; omega
    have hlt' : (j : Int) < 32 := by omega
    simp -implicitDefEqProofs [s4L0, k1, k3, k5, k6, k7, hlt', e2, e3, e4, hfu]
    have e5 : UInt8.ofNat (IntKind.wrap .u8 (97 + (i : Int))).toNat = 97 + UInt8.ofNat i := by
      have : IntKind.wrap .u8 (97 + (i : Int)) = ((97 + i : Nat) : Int) := by rw [← e4]; rfl
      rw [this, Int.toNat_natCast, UInt8.ofNat_add]; rfl
    refine ⟨by omega, 32 - (j + 1), by omega, j + 1, by omega, rfl, ?_, rfl, ?_⟩
    · rw [e5, List.replicate_succ']
    · repeat' (first | exact he.tick (by first | omega | (simp <;> omega)) | (refine ExtH.new ?_ (by first | omega | (simp <;> omega)) (by first | omega | (simp <;> omega))) | (refine ExtH.set ?_ (by simp) (by first | omega | (simp <;> omega))))
  · have : j = 32 := by omega
    subst this
    simp -implicitDefEqProofs [s4L0, k1, k3, k5, k6, k7]
    exact hn _ (by simp -implicitDefEqProofs [k1]) (by simp -implicitDefEqProofs [k3]) (by simp -implicitDefEqProofs [k5]) (by simp -implicitDefEqProofs [k6, textI]) (he.tick (by simp -implicitDefEqProofs))

theorem torn_l1 {Q : AEx → St → Prop} {st : St} (A1 : AV) (v : Id) (k1 : st.s 1 = A1) (k3 : st.s 3 = .c (.pt v 0 0)) (k5 : st.s 5 = .c (.raw (.int .i64 0))) (hf : Fresh st.H st.T) (hv : VarDisk st.H v (tornD 0)) 
    (hn : ∀ st', st'.s 1 = A1 → st'.s 3 = .c (.pt v 0 0) → VarDisk st'.H v (tornD 5) → ExtH [v] st.H st.T st'.H st'.T → Q (.exit 0) st') :
    awpS Try.prog F5 (.loop s4L1) Q st := by
  refine loop_n (fun n st' => ∃ i : Nat, i ≤ 5 ∧ n = 5 - i ∧ st'.s 1 = A1 ∧ st'.s 3 = .c (.pt v 0 0) ∧ st'.s 5 = .c (.raw (.int .i64 i)) ∧ VarDisk st'.H v (tornD i) ∧ ExtH [v] st.H st.T st'.H st'.T) 5
    ⟨0, by simp -implicitDefEqProofs [k1, k3, k5, hv, ExtH.refl hf]⟩ ?_
  rintro n st' ⟨i, hi, rfl, k1, k3, k5, hv, he⟩
  by_cases hlt : i < 5
  · have e2 : IntKind.wrap .i64 ((i : Int) + 1) = ((i + 1 : Nat) : Int) := by rw [wrap64_id] <;> omega
    have hlt' : (i : Int) < 5 := by omega
    simp -implicitDefEqProofs [s4L1, k5, hlt']
    refine torn_l0 i hlt A1 (.c (.pt v 0 0)) (by simp -implicitDefEqProofs [k1]) (by simp -implicitDefEqProofs [k3]) (by simp -implicitDefEqProofs [k5]) (by simp -implicitDefEqProofs) (by simp -implicitDefEqProofs) (by simpa using he.fresh.mono (by omega)) ?_
    intro st2 m1 m3 m5 m6 he2
    simp -implicitDefEqProofs at he2
    obtain ⟨l1, l2⟩ := torn_len hi
    have hv2 := hv.ext he2 (by simp -implicitDefEqProofs)
    obtain ⟨j1, j2, h1, h2, h3⟩ := hv2
    rw [l1, l2] at h1
    have hf2 := he2.fresh
    have hfu : ∀ k d, st2.T ≤ k → st2.H (k, d) = .unborn := hf2
    obtain ⟨f1, f2, f3⟩ := hf2.arr h1
    obtain ⟨f4, f5, f6⟩ := hf2.arr h2
    obtain ⟨f7, f8, f9⟩ := hf2.arr h3
    have tp := torn_put hlt
    have hT := he2.2.2.1
    have hT' := he.2.2.1
    have c1 : ((i : Int)).tmod 2 = (i : Int) % 2 := by rw [Int.tmod_eq_emod_of_nonneg (by omega)]
    simp -implicitDefEqProofs [m1, m3, m5, m6, h1, h2, h3, hfu, f1, f2, f4, f5, f7, f8, e2, c1, l1, l2, tp, diskE, diskNw]
    have he := he.trans he2 (by omega) (by simp -implicitDefEqProofs)
    refine ⟨by omega, 5 - (i + 1), by omega, i + 1, by omega, rfl, rfl, ⟨(st2.T, 43008), (st2.T, 43009), by simp -implicitDefEqProofs, by simp -implicitDefEqProofs [f1, f2], by simp -implicitDefEqProofs [f1, f2]⟩, ?_⟩
    repeat' (first | exact he.tick (by first | omega | (simp <;> omega)) | (refine ExtH.new ?_ (by first | omega | (simp <;> omega)) (by first | omega | (simp <;> omega))) | (refine ExtH.set ?_ (by simp) (by first | omega | (simp <;> omega))))
  · have : i = 5 := by omega
    subst this
    simp -implicitDefEqProofs [s4L1, k1, k3, k5]
    exact hn _ (by simp -implicitDefEqProofs [k1]) (by simp -implicitDefEqProofs [k3]) (by simpa using hv) (he.tick (by simp -implicitDefEqProofs))

theorem torn_may' : mayB ⟨(tornD 5).safe, (tornD 5).wait⟩ = true := torn_may
theorem dec_I5 (a b c d e : Int) : (Arg.dec (AV.c (AC.sl .brw false [[.raw (.int .i64 a)], [.raw (.int .i64 b)], [.raw (.int .i64 c)], [.raw (.int .i64 d)], [.raw (.int .i64 e)]])) : Option (List Int)) = some [a, b, c, d, e] := rfl
theorem row5 (a b c d e : Int) : rowsE [a, b, c, d, e] = [[.raw (.int .i64 a)], [.raw (.int .i64 b)], [.raw (.int .i64 c)], [.raw (.int .i64 d)], [.raw (.int .i64 e)]] := rfl

theorem torn_l2 (p : ScriptD) (hp : p.l.length < 281474976710656) {Q : AEx → St → Prop} {st : St} (v : Id) (k1 : st.s 1 = .c (.pt (0, 1) 0 0)) (kb : st.H (0, 1) = .arr 28 4 false [[.sl .brw false (rowsE p.d.safe), .sl .brw false (rowsE p.d.wait), .raw (.int .i64 p.n), .sl .brw false (rowsE p.l)]])
    (k3 : st.s 3 = .c (.pt v 0 0)) (k10 : st.s 10 = .c (.raw (.int .i64 0))) (hf : Fresh st.H st.T) (hv : VarDisk st.H v (tornD 5))
    (hn : ∀ st', Q (.exit 4) st') :
    awpS Try.prog F5 (.loop s4L2) Q st := by
  refine loop_n (fun n st' => ∃ i : Nat, i ≤ 243 ∧ n = 243 - i ∧ st'.s 1 = .c (.pt (0, 1) 0 0) ∧ st'.s 3 = .c (.pt v 0 0) ∧ st'.s 10 = .c (.raw (.int .i64 i)) ∧ ExtH [] st.H st.T st'.H st'.T) 243
    ⟨0, by simp -implicitDefEqProofs [k1, k3, k10, ExtH.refl hf]⟩ ?_
  rintro n st' ⟨i, hi, rfl, k1, k3, k10, he⟩
  by_cases hlt : i < 243
  · have e2 : IntKind.wrap .i64 ((i : Int) + 1) = ((i + 1 : Nat) : Int) := by rw [wrap64_id] <;> omega
    have hlt' : (i : Int) < 243 := by omega
    obtain ⟨j1, j2, h1, h2, h3⟩ := hv.ext he (by simp -implicitDefEqProofs)
    obtain ⟨l1, l2⟩ := torn_len (i := 5) (by omega)
    rw [l1, l2] at h1
    have kb := he.arr kb (by simp -implicitDefEqProofs)
    have hf2 := he.fresh
    have hfu : ∀ k d, st'.T ≤ k → st'.H (k, d) = .unborn := hf2
    obtain ⟨f1, f2, f3⟩ := hf2.arr h1
    obtain ⟨f4, f5, f6⟩ := hf2.arr h2
    obtain ⟨f7, f8, f9⟩ := hf2.arr h3
    obtain ⟨f10, f11, f12⟩ := hf2.arr kb
    have hT := he.2.2.1
    simp -implicitDefEqProofs [s4L2, k1, k3, k10, kb, h1, h2, h3, hfu, f1, f2, f4, f5, f7, f8, f10, f11, hlt', e2, l1, l2, torn_may', dec_I5, crashR, crashGo_length, diskE, diskNw, row5, Nat.le_add_right_of_le]
    refine ⟨⟨hfu _ _ (by omega), hfu _ _ (by omega)⟩, 243 - (i + 1), by omega, i + 1, by omega, rfl, rfl, ?_⟩
    repeat' (first | exact he.tick (by first | omega | (simp <;> omega)) | (refine ExtH.new ?_ (by first | omega | (simp <;> omega)) (by first | omega | (simp <;> omega))) | (refine ExtH.set ?_ (by simp) (by first | omega | (simp <;> omega))))
  · have : i = 243 := by omega
    subst this
    simp -implicitDefEqProofs [s4L2, k1, k3, k10]
    exact hn _

def F6_h18 : List AV → Option (Prop × AV) := t0 (.c (.raw (.bool true)))
@[simp] theorem F6_ap18 {l : List AV} : F6_h18 l = (t0 (.c (.raw (.bool true)))) l := rfl
def F6 : CT := (18, F6_h18) :: F5
theorem F6_ok : CTok Try.prog F6 := ⟨tells0 wakes_ev, F5_ok⟩
@[simp] theorem F6_get18 : ctGet F6 18 = some F6_h18 := rfl
@[simp] theorem F6_skip {n : Nat} (h : (n == 18) = false) : ctGet F6 n = ctGet F5 n := by
  simp only [Bool.or_eq_false_iff, beq_eq_false_iff_ne, ne_eq] at h
  simp [F6, ctGet, h]

theorem awpS_F {F F' : CT} (hF : ∀ f, ctGet F' f = none → ctGet F f = none) : True := trivial

theorem diskTorn_ev (p : ScriptD) (hp : ScriptS p) : PEv Try.prog 4 [scriptA p] (.c (.raw (.bool true))) := by
  refine tells_of mixed F5_ok Try.func4 sl4 ok4 (by kernel_rfl) (by simp -implicitDefEqProofs) (by simp -implicitDefEqProofs [scriptA]) ?_
  simp -implicitDefEqProofs [-List.reduceReplicate, s4, scriptA, wk1, diskE, diskNw]
  refine torn_l1 (.c (.pt (0, 1) 0 0)) (1, 3) (by simp -implicitDefEqProofs) (by simp -implicitDefEqProofs) (by simp -implicitDefEqProofs) (by (simp; repeat' (first | exact fresh_no.mono (Nat.zero_le _) | (refine Fresh.set' ?_ (by simp))))) ⟨(1, 16384), (1, 16385), by simp -implicitDefEqProofs [tornD], by simp -implicitDefEqProofs [tornD], by simp -implicitDefEqProofs [tornD]⟩ ?_
  intro st' k1 k3 hv he
  have kb := he.1 (0, 1)
  simp -implicitDefEqProofs at kb
  have hf' := he.fresh
  clear he
  simp -implicitDefEqProofs [k1, k3]
  refine torn_l2 p (by have := hp.acts; omega) (1, 3) (by simp -implicitDefEqProofs [k1]) (by simp -implicitDefEqProofs [kb]) (by simp -implicitDefEqProofs [k3]) (by simp -implicitDefEqProofs) (by simpa using hf'.mono (by omega)) (by simpa using hv) ?_
  intro st2
  simp -implicitDefEqProofs
  refine acall_pure wakes_ev (by simp -implicitDefEqProofs) (by simp -implicitDefEqProofs) (by simp -implicitDefEqProofs) ?_
  simp -implicitDefEqProofs

end Go.AE

/- DiskStays: what is heavy; what stays. -/
set_option linter.unusedVariables false
set_option linter.unusedSimpArgs false
set_option maxHeartbeats 2000000
set_option maxRecDepth 100000
namespace Go.AE
open Go Go.Proofs

/-- The weight of acts, up to a bound. -/
def actsW : Int → List ActD → Int
  | n, [] => n
  | n, a :: r => if n < 1048576 then actsW (n + (a.s.length : Int) / 16 + a.k.length) r else n

def heavyW (p : ScriptD) : Int := actsW (diskWeight p.d + p.l.length) p.l

theorem wSum_ge {α : Type} (f : α → Int) : ∀ (l : List α) (n : Int), (∀ x ∈ l, 0 ≤ f x) → n ≤ wSum f n l
  | [], n, _ => Int.le_refl _
  | x :: r, n, h => by
    unfold wSum
    split
    · have := wSum_ge f r (n + f x) fun y hy => h y (by simp -implicitDefEqProofs [hy])
      have := h x (by simp -implicitDefEqProofs)
      omega
    · exact Int.le_refl _

theorem wSum_bound {α : Type} (f : α → Int) (B : Int) : ∀ (l : List α) (n : Int), (∀ x ∈ l, 0 ≤ f x ∧ f x ≤ B) → 0 ≤ B → n ≤ 1048576 + B → wSum f n l ≤ max n (1048576 + B)
  | [], n, _, _, _ => by rw [wSum]; omega
  | x :: r, n, h, hB, hn => by
    unfold wSum
    split
    · have := wSum_bound f B r (n + f x) (fun y hy => h y (by simp -implicitDefEqProofs [hy])) hB (by have := h x (by simp -implicitDefEqProofs); omega)
      have := h x (by simp -implicitDefEqProofs)
      omega
    · omega

theorem actsW_ge : ∀ (l : List ActD) (n : Int), n ≤ actsW n l
  | [], n => Int.le_refl _
  | a :: r, n => by
    unfold actsW
    split
    · have := actsW_ge r (n + (a.s.length : Int) / 16 + a.k.length)
      omega
    · exact Int.le_refl _

theorem actsW_mem : ∀ (l : List ActD) (n : Int), actsW n l < 1048576 → ∀ a ∈ l, n + (a.s.length : Int) / 16 + a.k.length ≤ actsW n l
  | [], n, _, a, ha => by simp -implicitDefEqProofs at ha
  | b :: r, n, h, a, ha => by
    unfold actsW at h ⊢
    split at h
    · rename_i hn
      rw [if_pos hn]
      rcases List.mem_cons.1 ha with rfl | ha
      · exact actsW_ge r _
      · have := actsW_mem r _ h a ha
        omega
    · omega

theorem diskWeight_bound (d : DiskV) (h1 : d.safe.length < 281474976710656) (h2 : d.wait.length < 281474976710656) (h3 : ∀ s ∈ d.safe, s.length < 281474976710656) (h4 : ∀ s ∈ d.wait, s.text.length < 281474976710656) :
    (d.safe.length : Int) / 4 + d.wait.length ≤ diskWeight d ∧ diskWeight d ≤ 562949954469888 := by
  have a1 := wSum_bound (fun s : List UInt8 => (s.length : Int) / 64) 562949953421312 d.safe ((d.safe.length : Int) / 4 + d.wait.length) (fun x hx => by have := h3 x hx; omega) (by omega) (by omega)
  have a2 := wSum_ge (fun s : List UInt8 => (s.length : Int) / 64) d.safe ((d.safe.length : Int) / 4 + d.wait.length) (fun x hx => by have := h3 x hx; simp -implicitDefEqProofs; omega)
  have b1 := wSum_bound (fun s : Sect => (s.text.length : Int) / 16) 562949953421312 d.wait _ (fun x hx => by have := h4 x hx; omega) (by omega) (Int.le_trans a1 (by omega))
  have b2 := wSum_ge (fun s : Sect => (s.text.length : Int) / 16) d.wait (wSum (fun s : List UInt8 => (s.length : Int) / 64) ((d.safe.length : Int) / 4 + d.wait.length) d.safe) (fun x hx => by have := h4 x hx; simp -implicitDefEqProofs; omega)
  unfold diskWeight
  constructor
  · exact Int.le_trans a2 b2
  · omega

theorem actsW_drop (n : Int) (l : List ActD) (i : Nat) (h : i < l.length) (hn : n < 1048576) : actsW n (l.drop i) = actsW (n + (l[i].s.length : Int) / 16 + l[i].k.length) (l.drop (i + 1)) := by
  rw [List.drop_eq_getElem_cons h, actsW, if_pos hn]
theorem actsW_stop (n : Int) (l : List ActD) (h : ¬ n < 1048576) : actsW n l = n := by
  cases l with
  | nil => rfl
  | cons x r => rw [actsW, if_neg h]

theorem heavy_ev (p : ScriptD) (hp : ScriptS p) : PEv Try.prog 9 [scriptA p] (.c (.raw (.bool (decide (700 < heavyW p))))) := by
  refine tells_of mixed F5_ok Try.func9 sl9 ok9 (by kernel_rfl) (by simp -implicitDefEqProofs) (by simp -implicitDefEqProofs [scriptA]) ?_
  obtain ⟨b1, b2⟩ := diskWeight_bound p.d hp.safe hp.wait hp.safeS hp.waitS
  have hacts := hp.acts
  simp -implicitDefEqProofs [s9, scriptA]
  refine acall_pure (diskWeight_ev p.d hp.safe hp.wait hp.safeS hp.waitS) (by simp -implicitDefEqProofs) (by simp -implicitDefEqProofs) (by simp -implicitDefEqProofs) ?_
  have e0 : IntKind.wrap .i64 (diskWeight p.d + p.l.length) = diskWeight p.d + p.l.length := by rw [wrap64_id] <;> omega
  simp -implicitDefEqProofs [e0]
  refine loop_n (fun n st => ∃ (i : Nat) (m : Int), i ≤ p.l.length ∧ n = p.l.length - i ∧ st.s 1 = .c (.pt (0, 1) 0 0) ∧ st.H (0, 1) = .arr 28 4 false [[.sl .brw false (rowsE p.d.safe), .sl .brw false (rowsE p.d.wait), .raw (.int .i64 p.n), .sl .brw false (rowsE p.l)]] ∧
      st.s 3 = .c (.raw (.int .i64 m)) ∧ st.s 4 = .c (.raw (.int .i64 i)) ∧ 0 ≤ m ∧ m < 2251799813685248 ∧ actsW m (p.l.drop i) = heavyW p)
      p.l.length ⟨0, diskWeight p.d + p.l.length, by simp -implicitDefEqProofs [heavyW]; omega⟩ ?_
  rintro n st ⟨i, m, hi, rfl, g1, gH, g3, g4, hm0, hm1, hw⟩
  by_cases hlt : i < p.l.length
  · by_cases hm : m < 1048576
    · have hl := hp.actS p.l[i] (List.getElem_mem hlt)
      have e1 : IntKind.wrap .i64 (IntKind.wrap .i64 (m + IntKind.wrap .i64 ((p.l[i].s.length : Int) / 16)) + p.l[i].k.length) = m + (p.l[i].s.length : Int) / 16 + p.l[i].k.length := by
        rw [wrap64_id (n := (p.l[i].s.length : Int) / 16) (by omega) (by omega), wrap64_id (n := m + (p.l[i].s.length : Int) / 16) (by omega) (by omega), wrap64_id (by omega) (by omega)]
      have e2 : IntKind.wrap .i64 ((i : Int) + 1) = ((i + 1 : Nat) : Int) := by rw [wrap64_id] <;> omega
      simp -implicitDefEqProofs [s9L0, g1, gH, g3, g4, hlt, hm, e1, e2]
      refine ⟨_, ?_, i + 1, ?_, rfl, rfl, ?_, ?_, ?_⟩
      · omega
      · omega
      · omega
      · omega
      · rw [← hw, actsW_drop _ _ _ hlt hm]
    · rw [actsW_stop _ _ hm] at hw
      subst hw
      simp -implicitDefEqProofs [s9L0, g1, gH, g3, g4, hlt, hm]
  · have : p.l.drop i = [] := List.drop_eq_nil_of_le (by omega)
    rw [this, actsW] at hw
    subst hw
    simp -implicitDefEqProofs [s9L0, g1, gH, g3, g4, hlt]

end Go.AE

/- DiskStays: what stays, in plain words. -/
set_option linter.unusedVariables false
set_option linter.unusedSimpArgs false
set_option maxHeartbeats 2000000
set_option maxRecDepth 100000
namespace Go.AE
open Go Go.Proofs

def staysT : List UInt8 := List.replicate 31 0 ++ [121]
theorem staysT_len : staysT.length = 32 := rfl

structure Stays (d : DiskV) : Prop where
  may : mayB d = true
  six : d.safe.length = 6
  five : d.safe[5]? = some staysT
  at_ : ∀ x ∈ d.wait, x.at_ < 5

theorem mayB_mk {d : DiskV} (h1 : 1 ≤ d.safe.length) (h2 : d.safe.length ≤ 400) (h3 : d.wait.length ≤ 400) (h4 : ∀ s ∈ d.safe, s.length = 32) (h5 : ∀ x ∈ d.wait, x.text.length = 32 ∧ 0 ≤ x.at_ ∧ x.at_ < d.safe.length) : mayB d = true := by
  simp only [mayB, Bool.and_eq_true, decide_eq_true_eq, List.all_eq_true]
  refine ⟨⟨⟨⟨h1, h2⟩, h3⟩, fun s hs => by simpa [isSec] using h4 s hs⟩, fun x hx => ?_⟩
  have := h5 x hx
  simp -implicitDefEqProofs [badSect, isSec]
  omega

theorem crashGo_five (keep : List Int) : ∀ (l : List Sect) (i : Nat) (safe : List (List UInt8)), (∀ x ∈ l, x.at_ < 5) → (crashGo keep i safe l)[5]? = safe[5]?
  | [], _, _, _ => rfl
  | w :: r, i, safe, h => by
    rw [crashGo, crashGo_five keep r _ _ fun x hx => h x (by simp -implicitDefEqProofs [hx])]
    have hw := h w (by simp -implicitDefEqProofs)
    have hne : w.at_.toNat ≠ 5 := by omega
    unfold tear
    split
    · rw [List.getElem?_set_ne hne]
    · split
      · rw [List.getElem?_set_ne hne]
      · rfl

theorem Stays.crash {d : DiskV} (h : Stays d) (k : List Int) : Stays ⟨crashGo k 0 d.safe d.wait, []⟩ := by
  obtain ⟨m1, m2, m3, m4, m5⟩ := mayB_of h.may
  refine ⟨mayB_mk (by simp -implicitDefEqProofs [crashGo_length]; omega) (by simp -implicitDefEqProofs [crashGo_length]; omega) (by simp -implicitDefEqProofs) (crashGo_sec _ _ _ m4 m5) (by simp -implicitDefEqProofs), by simp -implicitDefEqProofs [crashGo_length, h.six], ?_, by simp -implicitDefEqProofs⟩
  simp only
  rw [crashGo_five _ _ _ _ h.at_, h.five]

theorem within5 (n : Int) : 0 ≤ within n 5 ∧ within n 5 < 5 := by unfold within; omega

theorem Stays.put {d : DiskV} (h : Stays d) {w : Int} {s : List UInt8} (hw : 0 ≤ w ∧ w < 5) (hs : s.length = 32) (hl : d.wait.length < 400) : putR d w s = (⟨d.safe, d.wait ++ [⟨w, s⟩]⟩, 0) ∧ Stays ⟨d.safe, d.wait ++ [⟨w, s⟩]⟩ := by
  obtain ⟨m1, m2, m3, m4, m5⟩ := mayB_of h.may
  have h6 := h.six
  constructor
  · unfold putR
    rw [if_neg (by simp -implicitDefEqProofs [h.may, hs]), if_neg (by omega), if_neg (by omega)]
  · refine ⟨mayB_mk m1 m2 (by simp -implicitDefEqProofs; omega) m4 ?_, h6, h.five, ?_⟩
    · intro x hx
      simp -implicitDefEqProofs at hx
      rcases hx with hx | rfl
      · exact m5 x hx
      · simp -implicitDefEqProofs [hs]; omega
    · intro x hx
      simp -implicitDefEqProofs at hx
      rcases hx with hx | rfl
      · exact h.at_ x hx
      · exact hw.2

theorem Stays.crashR {d : DiskV} (h : Stays d) (k : List Int) : crashR d k = (⟨crashGo k 0 d.safe d.wait, []⟩, 0) := by rw [AE.crashR, if_pos h.may]
theorem Stays.ones {d : DiskV} : AE.crashR d (List.replicate d.wait.length 1) = syncR d := rfl

theorem stays_new : putR ⟨List.replicate 6 blank, []⟩ 5 staysT = (⟨List.replicate 6 blank, [⟨5, staysT⟩]⟩, 0) := by decide
def staysD : DiskV := ⟨List.replicate 5 blank ++ [staysT], []⟩
theorem stays_sync : syncR ⟨List.replicate 6 blank, [⟨5, staysT⟩]⟩ = (staysD, 0) := by decide
theorem stays_may : mayB staysD = true := by decide
theorem stays_first : Stays staysD := ⟨stays_may, by decide, by decide, by simp -implicitDefEqProofs [staysD]⟩

theorem not_heavy {p : ScriptD} (hp : ScriptS p) (h : ¬ 700 < heavyW p) : p.l.length ≤ 700 ∧ ∀ a ∈ p.l, a.s.length < 12000 ∧ a.k.length ≤ 700 := by
  obtain ⟨b1, b2⟩ := diskWeight_bound p.d hp.safe hp.wait hp.safeS hp.waitS
  have g := actsW_ge p.l (diskWeight p.d + p.l.length)
  have m := actsW_mem p.l (diskWeight p.d + p.l.length) (by have : heavyW p ≤ 700 := by omega
                                                            unfold heavyW at this; omega)
  unfold heavyW at h
  refine ⟨by omega, fun a ha => ?_⟩
  have := m a ha
  omega

theorem ExtH.trans2 {S S' : List Id} {H0 H1 H2 : Heap} {T0 T1 T1' T2 : Nat} (h : ExtH S H0 T0 H1 T1) (h' : ExtH S' H1 T1' H2 T2) (hT : T1 ≤ T1') (hS : ∀ i ∈ S', i ∈ S ∨ H0 i = .unborn) : ExtH S H0 T0 H2 T2 := by
  refine ⟨fun i hi hn => ?_, h'.2.1, by have := h.2.2.1; have := h'.2.2.1; omega, h.2.2.2⟩
  have e1 := h.1 i hi hn
  rw [h'.1 i (by rw [e1]; exact hi) (fun q => (hS i q).elim hn hi), e1]

def K8 (st : St) (A : Nat → AV) : Prop := st.s 1 = A 1 ∧ st.s 3 = A 3 ∧ st.s 4 = A 4 ∧ st.s 7 = A 7 ∧ st.s 8 = A 8 ∧ st.s 10 = A 10 ∧ st.s 11 = A 11

/-- Ones are laid. -/
theorem stays_l0 {F : CT} (n : Nat) (hn1 : n < 1000000) {Q : AEx → St → Prop} {st : St} (id : Id) (k12 : st.s 12 = .c (.so id 0 n)) (k13 : st.s 13 = .c (.raw (.int .i64 0)))
    (kid : st.H id = .arr 3 1 false (List.replicate n [.raw (.int .i64 0)])) (hf : Fresh st.H st.T)
    (hq : ∀ st', K8 st' st.s → st'.s 12 = .c (.so id 0 n) → st'.H id = .arr 3 1 false (rowsE (List.replicate n (1 : Int))) → ExtH [id] st.H st.T st'.H st'.T → Q (.exit 2) st') :
    awpS Try.prog F (.loop s3L0) Q st := by
  refine loop_n (fun m st' => ∃ j : Nat, ∃ L : List Int, j ≤ n ∧ m = n - j ∧ K8 st' st.s ∧ st'.s 12 = .c (.so id 0 n) ∧ st'.s 13 = .c (.raw (.int .i64 j)) ∧ L.length = n ∧ L.take j = List.replicate j 1 ∧ st'.H id = .arr 3 1 false (rowsE L) ∧
      ExtH [id] st.H st.T st'.H st'.T) n
    ⟨0, List.replicate n 0, by omega, rfl, ⟨rfl, rfl, rfl, rfl, rfl, rfl, rfl⟩, k12, by simpa using k13, by simp -implicitDefEqProofs, by simp -implicitDefEqProofs, by rw [kid, ← rowsE_replicate]; rfl, ExtH.refl hf⟩ ?_
  rintro m st' ⟨j, L, hj, rfl, ⟨a1, a2, a3, a4, a5, a6, a7⟩, k12, k13, rfl, hL, kid, he⟩
  by_cases hlt : j < L.length
  · have e2 : IntKind.wrap .i64 ((j : Int) + 1) = ((j + 1 : Nat) : Int) := by rw [wrap64_id] <;> omega
    simp -implicitDefEqProofs [s3L0, k12, k13, kid, hlt, e2]
    refine ⟨L.length - (j + 1), by omega, j + 1, by omega, rfl, ⟨by simp -implicitDefEqProofs [a1], by simp -implicitDefEqProofs [a2], by simp -implicitDefEqProofs [a3], by simp -implicitDefEqProofs [a4], by simp -implicitDefEqProofs [a5], by simp -implicitDefEqProofs [a6], by simp -implicitDefEqProofs [a7]⟩, rfl, L.set j 1, by simp -implicitDefEqProofs, ?_, ?_, ?_⟩
    · rw [List.take_add_one, List.take_set_of_le (Nat.le_refl _), hL, List.replicate_succ']
      simp -implicitDefEqProofs [hlt]
    · exact rowsE_set L j 1
    · obtain ⟨f1, f2, f3⟩ := he.fresh.arr kid
      have hT := he.2.2.1
      repeat' (first | exact he.tick (by first | omega | (simp <;> omega)) | (refine ExtH.new ?_ (by first | omega | (simp <;> omega)) (by first | omega | (simp <;> omega))) | (refine ExtH.set ?_ (by simp) (by first | omega | (simp <;> omega))))
  · have : j = L.length := by omega
    subst this
    simp -implicitDefEqProofs [s3L0, k12, k13, hlt, kid]
    rw [List.take_of_length_le (Nat.le_refl _)] at hL
    exact hq _ ⟨by simp -implicitDefEqProofs [a1], by simp -implicitDefEqProofs [a2], by simp -implicitDefEqProofs [a3], by simp -implicitDefEqProofs [a4], by simp -implicitDefEqProofs [a5], by simp -implicitDefEqProofs [a6], by simp -implicitDefEqProofs [a7]⟩ (by simp -implicitDefEqProofs [k12]) (by rw [← hL]; exact kid) (he.tick (Nat.le_succ _))

end Go.AE

/- DiskStays: the walk. -/
set_option linter.unusedVariables false
set_option linter.unusedSimpArgs false
set_option maxHeartbeats 4000000
set_option maxRecDepth 100000
namespace Go.AE
open Go Go.Proofs

theorem dec_Disk1 (a : List (List UInt8)) (b : List Sect) : Arg.dec (.g [.sl .brw false (rowsE a), .sl .brw false (rowsE b)]) = some (DiskV.mk a b) := dec_Disk a b

theorem stays_l1 (p : ScriptD) (hl : p.l.length ≤ 700) (ha : ∀ a ∈ p.l, a.s.length < 12000 ∧ a.k.length ≤ 700) {Q : AEx → St → Prop} {st : St} (v : Id) (k1 : st.s 1 = .c (.pt (0, 1) 0 0)) (kb : st.H (0, 1) = .arr 28 4 false [[.sl .brw false (rowsE p.d.safe), .sl .brw false (rowsE p.d.wait), .raw (.int .i64 p.n), .sl .brw false (rowsE p.l)]])
    (k3 : st.s 3 = .c (.pt v 0 0)) (k4 : st.s 4 = .c (.str staysT)) (k7 : st.s 7 = .c (.raw (.int .i64 0))) (hf : Fresh st.H st.T) (hv : VarDisk st.H v staysD)
    (hn : ∀ st', Q (.exit 0) st') :
    awpS Try.prog F5 (.loop s3L1) Q st := by
  have hv0 := hv
  refine loop_n (fun n st' => ∃ (i : Nat) (d : DiskV), i ≤ p.l.length ∧ i ≤ 24 ∧ n = 24 - i ∧ st'.s 1 = .c (.pt (0, 1) 0 0) ∧ st'.s 3 = .c (.pt v 0 0) ∧ st'.s 4 = .c (.str staysT) ∧ st'.s 7 = .c (.raw (.int .i64 i)) ∧ Stays d ∧ d.wait.length ≤ i ∧ VarDisk st'.H v d ∧ ExtH [v] st.H st.T st'.H st'.T) 24
    ⟨0, staysD, by omega, by omega, rfl, k1, k3, k4, by simpa using k7, stays_first, by simp -implicitDefEqProofs [staysD], hv, ExtH.refl hf⟩ ?_
  rintro n st' ⟨i, d, hi, hi2, rfl, k1, k3, k4, k7, hd, hdw, hv, he⟩
  have hx : (0, 1) ∉ [v] := by
    obtain ⟨_, _, g, _⟩ := hv0
    simp only [List.mem_singleton]
    intro e
    rw [← e, kb] at g
    simp -implicitDefEqProofs at g
  have kb := he.arr kb hx
  have hf' := he.fresh
  obtain ⟨j1, j2, h1, h2, h3⟩ := hv
  obtain ⟨f1, f2, f3⟩ := hf'.arr h1
  obtain ⟨f4, f5, f6⟩ := hf'.arr h2
  obtain ⟨f7, f8, f9⟩ := hf'.arr h3
  obtain ⟨f10, f11, f12⟩ := hf'.arr kb
  have hfu : ∀ k d, st'.T ≤ k → st'.H (k, d) = .unborn := hf'
  have hT := he.2.2.1
  by_cases hlt : i < p.l.length
  · by_cases hlt2 : i < 24
    · have e2 : IntKind.wrap .i64 ((i : Int) + 1) = ((i + 1 : Nat) : Int) := by rw [wrap64_id] <;> omega
      have hlt' : (i : Int) < 24 := by omega
      obtain ⟨al, ak⟩ := ha p.l[i] (List.getElem_mem hlt)
      have htx : ((p.l[i].s ++ List.replicate 32 (0 : UInt8)).take 32).length = 32 := by simp -implicitDefEqProofs
      obtain ⟨hp1, hp2⟩ := hd.put (within5 p.l[i].n) htx (by omega)
      have hp3 : putR ⟨d.safe, d.wait⟩ (within p.l[i].n 5) ((p.l[i].s ++ List.replicate 32 (0 : UInt8)).take 32) = _ := hp1
      have q1 := hd.six
      have q2 : d.wait.length < 1000000 := by omega
      have al' : p.l[i].s.length + 32 < 140737488355328 := by omega
      simp -implicitDefEqProofs [-List.reduceReplicate, s3L1, k1, k3, k4, k7, kb, h1, h2, h3, hfu, f1, f2, f4, f5, f7, f8, f10, f11, hlt, hlt', e2, Nat.le_add_right_of_le, bytes_zero, hp3, diskE, diskNw, q1, q2, al']
      refine ⟨by omega, by omega, ⟨hfu _ _ (by omega), hfu _ _ (by omega)⟩, hfu _ _ (by omega), ⟨by omega, by omega, by omega⟩, hfu _ _ (by omega), ?_⟩
      have hf := hf'
      refine stays_l0 (d.wait.length + 1) (by omega) (st'.T + 1 + 1 + 1 + 1 + 1, 93) (by simp -implicitDefEqProofs) (by simp -implicitDefEqProofs) (by simp -implicitDefEqProofs) (by simp -implicitDefEqProofs; repeat' (first | exact hf.mono (by first | omega | (simp <;> omega)) | (refine Fresh.set' ?_ (by first | omega | (simp <;> omega))))) ?_
      rintro st2 ⟨m1, m3, m4, m7, m8, m10, m11⟩ m12 mid he2
      simp -implicitDefEqProofs [-List.reduceReplicate, k1, k3, k4, k7] at m1 m3 m4 m7 m8 m10 m11
      simp -implicitDefEqProofs [-List.reduceReplicate] at he2
      have he3 : ExtH [v] st.H st.T st2.H st2.T := by
        refine ExtH.trans2 ?_ he2 (Nat.le_refl _) ?_
        · repeat' (first | exact he.tick (by first | omega | (simp <;> omega)) | (refine ExtH.new ?_ (by first | omega | (simp <;> omega)) (by first | omega | (simp <;> omega))) | (refine ExtH.set ?_ (by simp) (by first | omega | (simp <;> omega))))
        · simp -implicitDefEqProofs
          exact .inr (he.2.2.2 _ _ (by omega))
      have gb := he2.arr (i := (0, 1)) (e := 28) (sz := 4) (f := false) (rows := [[.sl .brw false (rowsE p.d.safe), .sl .brw false (rowsE p.d.wait), .raw (.int .i64 p.n), .sl .brw false (rowsE p.l)]]) (by simp -implicitDefEqProofs [kb, f10, f11]) (by simp -implicitDefEqProofs)
      have g8 := he2.arr (i := (st'.T + 1, 8)) (e := 40) (sz := 4) (f := false) (rows := [[.raw (.int .i64 p.l[i].do_), .raw (.int .i64 p.l[i].n), .str p.l[i].s, .sl .old false (rowsE p.l[i].k)]]) (by simp -implicitDefEqProofs) (by simp -implicitDefEqProofs)
      have g10 := he2.arr (i := (st'.T + 1 + 1 + 1, 10)) (e := 25) (sz := 2) (f := false) (rows := [[.so (st'.T + 1 + 1 + 1, 87040) 0 6, .so (st'.T + 1 + 1 + 1, 87041) 0 (d.wait.length + 1)]]) (by simp -implicitDefEqProofs) (by simp -implicitDefEqProofs)
      have g40 := he2.arr (i := (st'.T + 1 + 1 + 1, 87040)) (e := 9) (sz := 1) (f := false) (rows := rowsE d.safe) (by simp -implicitDefEqProofs) (by simp -implicitDefEqProofs)
      have g41 := he2.arr (i := (st'.T + 1 + 1 + 1, 87041)) (e := 57) (sz := 2) (f := false) (rows := rowsE (d.wait ++ [Sect.mk (within p.l[i].n 5) (List.take 32 (p.l[i].s ++ List.replicate 32 (0 : UInt8)))])) (by simp -implicitDefEqProofs) (by simp -implicitDefEqProofs)
      have v1 := f2 (st'.T + 1 + 1 + 1 + 1 + 1) 93 (by omega)
      have v2 := f2 (st'.T + 1 + 1 + 1) 10 (by omega)
      have v3 := f2 (st'.T + 1 + 1 + 1) 87040 (by omega)
      have v4 := f2 (st'.T + 1 + 1 + 1) 87041 (by omega)
      have gv := he2.arr (i := v) (e := 25) (sz := 2) (f := false) (rows := [[.so j1 0 d.safe.length, .so j2 0 d.wait.length]]) (by simp -implicitDefEqProofs [-List.reduceReplicate, h1, v1, v2, v3, v4, f1, f2, Nat.le_add_right_of_le]) (by simp -implicitDefEqProofs [v1])
      have F2 := he2.fresh
      clear he2
      have hWl : (d.wait ++ [Sect.mk (within p.l[i].n 5) (List.take 32 (p.l[i].s ++ List.replicate 32 (0 : UInt8)))]).length = d.wait.length + 1 := by simp -implicitDefEqProofs
      generalize hk : p.l[i].k = k at g8 ak
      generalize d.wait ++ [Sect.mk (within p.l[i].n 5) (List.take 32 (p.l[i].s ++ List.replicate 32 (0 : UInt8)))] = W at g41 hp2 hWl
      generalize (st'.T + 1, 8) = o8 at m8 g8
      generalize (st'.T + 1 + 1 + 1, 10) = o10 at m10 g10
      generalize (st'.T + 1 + 1 + 1, 87040) = o40 at g10 g40
      generalize (st'.T + 1 + 1 + 1, 87041) = o41 at g10 g41
      generalize (st'.T + 1 + 1 + 1 + 1 + 1, 93) = o93 at m12 mid
      rw [← hWl] at m12 mid g10
      have wl : W.length ≤ i + 1 := by omega
      obtain ⟨f1, f2, f3⟩ := F2.arr gv
      obtain ⟨f4, f5, f6⟩ := F2.arr g8
      obtain ⟨f7, f8, f9⟩ := F2.arr g10
      obtain ⟨f10, f11, f12⟩ := F2.arr gb
      obtain ⟨f13, f14, f15⟩ := F2.arr g40
      obtain ⟨f16, f17, f18⟩ := F2.arr g41
      obtain ⟨f19, f20, f21⟩ := F2.arr mid
      have hfu2 : ∀ k d, st2.T ≤ k → st2.H (k, d) = .unborn := F2
      clear v1 v2 v3 v4
      clear hk hp1 hp3 htx al al' h1 h2 h3 kb f6 f12 k1 k3 k4 k7 hf he hf' hfu hx hT hv hv0 hd ha
      have he := he3
      have hT2 := he3.2.2.1
      have n1 : (o40 = v) = False := by
        simp only [eq_iff_iff, iff_false]; intro e; rw [e, gv] at g40; simp -implicitDefEqProofs at g40
      have n2 : (o41 = v) = False := by
        simp only [eq_iff_iff, iff_false]; intro e; rw [e, gv] at g41; simp -implicitDefEqProofs at g41
      have hc : ∀ k, crashR ⟨d.safe, W⟩ k = (⟨crashGo k 0 d.safe W, []⟩, 0) := fun k => hp2.crashR k
      have hs : syncR ⟨d.safe, W⟩ = (⟨crashGo (List.replicate W.length 1) 0 d.safe W, []⟩, 0) := hp2.crashR _
      have hm : ∀ k, mayB ⟨crashGo k 0 d.safe W, []⟩ = true := fun k => (hp2.crash k).may
      have h5 : ∀ k, (crashGo k 0 d.safe W)[5]? = some staysT := fun k => (hp2.crash k).five
      have h5' : ∀ k h, (crashGo k 0 d.safe W)[5]'h = staysT := fun k h => by
        have := h5 k
        rw [List.getElem?_eq_getElem h] at this
        simpa using this
      have q3 : W.length < 1000000 := by omega
      have q4 : k.length < 281474976710656 := by omega
      have q5 : W.length < 281474976710656 := by omega
      have q6 : W.length < 4611686018427387904 := by omega
      have c1 : ((i : Int)).tmod 4 = (i : Int) % 4 := by rw [Int.tmod_eq_emod_of_nonneg (by omega)]
      by_cases hq : (i : Int) % 4 = 3
      · simp -implicitDefEqProofs [-List.reduceReplicate, m1, m3, m4, m7, m8, m10, m11, m12, mid, gb, g8, g10, g40, g41, gv, f1, f2, f4, f5, f7, f8, f10, f11, f13, f14, f16, f17, f19, f20, hfu2, hc, hs, hm, h5, h5', q1, q3, q4, q5, q6, c1, hq, crashGo_length, Nat.le_add_right_of_le, diskE, diskNw, e2]
        refine ⟨24 - (i + 1), by omega, i + 1, by omega, by omega, rfl, rfl, ⟨crashGo k 0 d.safe W, []⟩, hp2.crash k, by simp -implicitDefEqProofs, ?_, ?_⟩
        · exact ⟨(st2.T, 110592), (st2.T, 110593), by simp -implicitDefEqProofs [crashGo_length, q1], by simp -implicitDefEqProofs [f1, Nat.le_add_right_of_le], by simp -implicitDefEqProofs [f1, Nat.le_add_right_of_le]⟩
        · repeat' (first | exact he.tick (by first | omega | (simp <;> omega)) | (refine ExtH.new ?_ (by first | omega | (simp <;> omega)) (by first | omega | (simp <;> omega))) | (refine ExtH.set ?_ (by simp) (by first | omega | (simp <;> omega))))
      · simp -implicitDefEqProofs [-List.reduceReplicate, m1, m3, m4, m7, m8, m10, m11, m12, mid, gb, g8, g10, g40, g41, gv, f1, f2, f4, f5, f7, f8, f10, f11, f13, f14, f16, f17, f19, f20, hfu2, hc, hs, hm, h5, h5', q1, q3, q4, q5, q6, c1, hq, crashGo_length, Nat.le_add_right_of_le, diskE, diskNw, e2]
        refine ⟨24 - (i + 1), by omega, i + 1, by omega, by omega, rfl, rfl, ⟨d.safe, W⟩, hp2, by simpa using wl, ⟨o40, o41, by simp -implicitDefEqProofs [q1], by simp -implicitDefEqProofs [g40, n1, f13, f14, Nat.le_add_right_of_le], by simp -implicitDefEqProofs [g41, n2, f16, f17, Nat.le_add_right_of_le]⟩, ?_⟩
        repeat' (first | exact he.tick (by first | omega | (simp <;> omega)) | (refine ExtH.new ?_ (by first | omega | (simp <;> omega)) (by first | omega | (simp <;> omega))) | (refine ExtH.set ?_ (by simp) (by first | omega | (simp <;> omega))))
    · have hlt' : ¬ (i : Int) < 24 := by omega
      simp -implicitDefEqProofs [s3L1, k1, k3, k7, kb, hlt, hlt']
      exact hn _
  · simp -implicitDefEqProofs [s3L1, k1, k3, k7, kb, hlt]
    exact hn _

theorem diskStays_ev (p : ScriptD) (hp : ScriptS p) : PEv Try.prog 3 [scriptA p] (.c (.raw (.bool true))) := by
  refine tells_of mixed F5_ok Try.func3 sl3 ok3 (by kernel_rfl) (by simp -implicitDefEqProofs) (by simp -implicitDefEqProofs [scriptA]) ?_
  have hb : List.replicate 32 (0 : UInt8) = blank := rfl
  simp -implicitDefEqProofs [-List.reduceReplicate, s3, scriptA]
  refine acall_pure (heavy_ev p hp) (by simp -implicitDefEqProofs [scriptA]) (by simp -implicitDefEqProofs) (by simp -implicitDefEqProofs) ?_
  by_cases hh : 700 < heavyW p
  · simp -implicitDefEqProofs [hh]
  · obtain ⟨l1, l2⟩ := not_heavy hp hh
    have hS : List.replicate 31 (0 : UInt8) ++ [121] = staysT := rfl
    have hz : mayB ⟨List.replicate 5 blank ++ [staysT], []⟩ = true := stays_may
    have hl : staysD.safe.length = 6 := rfl
    have hl0 : staysD.wait.length = 0 := rfl
    have hm : mayB ⟨staysD.safe, []⟩ = true := stays_may
    simp -implicitDefEqProofs [-List.reduceReplicate, hh, hS, bytes_zero, stays_new, stays_sync, hl, hl0, hm, diskE, diskNw]
    refine stays_l1 p l1 l2 (2, 3) (by simp -implicitDefEqProofs) (by simp -implicitDefEqProofs) (by simp -implicitDefEqProofs) (by simp -implicitDefEqProofs) (by simp -implicitDefEqProofs) (by (simp; repeat' (first | exact fresh_no.mono (Nat.zero_le _) | (refine Fresh.set' ?_ (by simp))))) ⟨(5, 35840), (5, 35841), by simp -implicitDefEqProofs [hl, hl0], by simp -implicitDefEqProofs, by simp -implicitDefEqProofs⟩ ?_
    · intro st2
      simp -implicitDefEqProofs
      refine acall_pure wakes_ev (by simp -implicitDefEqProofs) (by simp -implicitDefEqProofs) (by simp -implicitDefEqProofs) ?_
      simp -implicitDefEqProofs

end Go.AE

/- A law's call out of its contract. -/
set_option linter.unusedVariables false
set_option linter.unusedSimpArgs false
namespace Go.AE
open Go

variable {P : Program}

def anyF : Tag → Nat → Prop := fun t _ => t ≠ .new

theorem calls_true {f : FuncId} {args : List AV} (hp : PEv P f args (.c (.raw (.bool true)))) {w : World} {vs : Array Value} (hs : vs.size = args.length)
    (hr : ∀ (k : Nat) x, args[k]? = some x → RelV w (Fr (Ctx.of w fun _ _ => True) noHeap noLies) noHeap noLies x (vs.getD k undef)) :
    Calls P f vs w fun e w' => e = .returned (.bool true) ∧ RowKit.Below w.heap.size w w' := by
  refine (hp.2 w (fun _ _ => True) vs hs hr (fun k => (0, k)) (fun i j h => by simpa using h)).mono ?_
  rintro e w' ⟨v, rfl, ρ, hH, hR⟩
  have hv := relC_raw (relV_c hR)
  subst hv
  exact ⟨rfl, hH.below⟩

theorem fr_any {w : World} {t : Tag} {b : Nat} (ht : t ≠ .new) : Fr (Ctx.of w fun _ _ => True) noHeap noLies t b :=
  ⟨.inr ⟨ht, trivial⟩, fun ⟨_, _, _, _, _, _, h, _⟩ => by cases h⟩

end Go.AE

/- The abstract machine: new rows of a result, seen as rows that stay. -/
set_option linter.unusedVariables false
set_option linter.unusedSimpArgs false
namespace Go.AE
open Go

variable {P : Program}

theorem not_mut {b : Nat} : ¬ Mut noHeap noLies b := fun ⟨_, _, _, _, _, _, h, _⟩ => by cases h

theorem so_frz {C : Ctx} {H : Heap} {ρ : Lies} {w : World} {id : Id} {v : Value} {e sz : Nat} {xs : List (List AC)} (hH : RelH C H ρ w) (h : RelC w (Fr C H ρ) H ρ (.so id 0 xs.length) v) (hid : H id = .arr e sz false xs)
    (hr : ∀ r ∈ xs, ∀ c ∈ r, RetOK c) : RelC w (Fr C noHeap noLies) noHeap noLies (.sl .new false xs) v := by
  have hrows : rowsOf H (.so id 0 xs.length) = some xs := by simp [rowsOf, hid]
  have hin : ∀ c u, RetOK c → RelC w (Fr C H ρ) H ρ c u → RelC w (Fr C noHeap noLies) noHeap noLies c u := fun c u hc hu => hu.noid hc fun t b _ hb => ⟨hb.1, not_mut⟩
  have hs : SoVal ρ id 0 xs.length v := by
    cases h with
    | so _ _ _ _ hk hs => exact hs (by rw [hid]; rfl)
  unfold SoVal at hs
  rcases (hH.row id e sz false xs hid).lies with ⟨q1, q2⟩ | ⟨b', cap', cur, q1, q0, q3, _⟩
  · rw [q1] at hs; subst q2; exact .slNil _ _ _ hs.2.2
  · rw [q1] at hs
    obtain ⟨o'', he, _⟩ := hs
    have hb : b' < w.heap.size := (Array.getElem?_eq_some_iff.1 q3).1
    rcases rows_rel hH h hrows with ⟨hn, rfl⟩ | ⟨b, o', cap, sz', rfl, g1, g2, g3⟩
    · exact .slNil _ _ _ hn
    · cases he
      obtain ⟨news, n1, n2, n3, n4⟩ := app_vals g1 g3
      have hbl : ∀ k, k < xs.length * sz' → ∃ u, w.cell? ⟨b', o'' + k, none⟩ = some u ∧ news[k]? = some u := fun k hk => by
        have : k < news.length := by omega
        have h1 := n2 k news[k] (List.getElem?_eq_getElem this)
        rw [Addr.add_lit] at h1
        exact ⟨_, h1, List.getElem?_eq_getElem this⟩
      refine .sl _ _ xs b' o'' _ sz' (fun k => news.getD k undef) hb ⟨.inl q0, not_mut⟩ g2 (fun e => by cases e) (fun i r hi => g1 r (List.mem_of_getElem? hi)) (fun k hk => ?_) (fun k hk => ?_) (fun i j r c hi hj => ?_)
      · obtain ⟨u, u1, u2⟩ := hbl k hk
        rw [u1]; simp [List.getD, u2]
      · obtain ⟨u, u1, u2⟩ := hbl k hk
        have : news.getD k undef = u := by simp [List.getD, u2]
        rw [this]; exact n3 u (List.mem_of_getElem? u2)
      · obtain ⟨u, u1, u2, u3⟩ := n4 i j r c hi hj
        have : news.getD (i * sz' + j) undef = u := by simp [List.getD, u1]
        rw [this]
        exact hin _ _ (hr r (List.mem_of_getElem? hi) c (List.mem_of_getElem? hj)) u3

theorem PEv.frz2 {f : FuncId} {args : List AV} {e1 s1 e2 s2 : Nat} {xs1 xs2 : List (List AC)} (h : PEv P f args (.g [.nw e1 s1 xs1, .nw e2 s2 xs2])) : PEv P f args (.g [.sl .new false xs1, .sl .new false xs2]) := by
  obtain ⟨⟨h1, h2, h3⟩, h4⟩ := h
  have r1 : ∀ r ∈ xs1, ∀ c ∈ r, RetOK c := h2 (.nw e1 s1 xs1) (by simp [AV.flat])
  have r2 : ∀ r ∈ xs2, ∀ c ∈ r, RetOK c := h2 (.nw e2 s2 xs2) (by simp [AV.flat])
  refine ⟨⟨h1, ?_, h3⟩, fun w G vs hs hr nm inj => (h4 w G vs hs hr nm inj).mono ?_⟩
  · intro c hc
    simp [AV.flat] at hc
    rcases hc with rfl | rfl
    · exact .sl _ _ _ (by simp) r1
    · exact .sl _ _ _ (by simp) r2
  · rintro e w' ⟨v, rfl, ρ, hH, hR⟩
    refine ⟨v, rfl, noLies, ⟨hH.below, fun id e sz f rows h => ?_, fun id id' e sz rows e' sz' frz' rows' b c s c' s' h => ?_⟩, ?_⟩
    · simp [AV.flat, adH, adH1, noHeap] at h
    · simp [AV.flat, adH, adH1, noHeap] at h
    · cases hR with
      | g ys vs hl hc =>
        have e0 : nm 0 ≠ nm 1 := fun q => by have := inj _ _ q; omega
        refine .g _ _ (by simpa [AV.ad, adL] using hl) fun k c hk => ?_
        match k, hk with
        | 0, hk =>
          simp at hk
          subst hk
          have g := hc 0 (.so (nm 0) 0 xs1.length) rfl
          exact so_frz (e := e1) (sz := s1) hH g (by simp [AV.flat, adH, adH1, hset, e0]) r1
        | 1, hk =>
          simp at hk
          subst hk
          have g := hc 1 (.so (nm 1) 0 xs2.length) rfl
          exact so_frz (e := e2) (sz := s2) hH g (by simp [AV.flat, adH, adH1, hset]) r2

end Go.AE

/- A disk is written over. -/
set_option linter.unusedVariables false
set_option linter.unusedSimpArgs false
set_option maxHeartbeats 2000000
set_option maxRecDepth 100000
namespace Go.AE
open Go Go.Proofs

theorem spoil_l0 {F : CT} {Q : AEx → St → Prop} {st : St} (n m : Nat) (hn1 : n < 1000000) (b i j : Id) (a : List (List UInt8)) (ha : a.length = n) (k1 : st.s 1 = .c (.pt b 0 0)) (k2 : st.s 2 = .c (.raw (.int .i64 0)))
    (kb : st.H b = .arr 25 2 false [[.so i 0 n, .so j 0 m]]) (ki : st.H i = .arr 9 1 false (rowsE a)) (hf : Fresh st.H st.T)
    (hq : ∀ st', st'.s 1 = .c (.pt b 0 0) → ExtH [i] st.H st.T st'.H st'.T → Q (.exit 0) st') :
    awpS Try.prog F (.loop s44L0) Q st := by
  refine loop_n (fun q st' => ∃ x : Nat, ∃ L : List (List UInt8), x ≤ n ∧ q = n - x ∧ st'.s 1 = .c (.pt b 0 0) ∧ st'.s 2 = .c (.raw (.int .i64 x)) ∧ L.length = n ∧ st'.H i = .arr 9 1 false (rowsE L) ∧ ExtH [i] st.H st.T st'.H st'.T) n
    ⟨0, a, by omega, rfl, k1, by simpa using k2, ha, ki, ExtH.refl hf⟩ ?_
  rintro q st' ⟨x, L, hx, rfl, k1, k2, rfl, ki', he⟩
  have hbi : b ∉ [i] := by
    simp only [List.mem_singleton]; intro e; rw [e, ki] at kb; simp -implicitDefEqProofs at kb
  have kb' := he.arr kb hbi
  obtain ⟨f1, f2, f3⟩ := he.fresh.arr ki'
  have hT := he.2.2.1
  by_cases hlt : x < L.length
  · have e2 : IntKind.wrap .i64 ((x : Int) + 1) = ((x + 1 : Nat) : Int) := by rw [wrap64_id] <;> omega
    simp -implicitDefEqProofs [s44L0, k1, k2, kb', ki', hlt, e2]
    refine ⟨L.length - (x + 1), by omega, x + 1, by omega, rfl, rfl, L.set x [115, 112, 111, 105, 108, 116], by simp -implicitDefEqProofs, rowsE_set L x _, ?_⟩
    repeat' (first | exact he.tick (by first | omega | (simp <;> omega)) | (refine ExtH.new ?_ (by first | omega | (simp <;> omega)) (by first | omega | (simp <;> omega))) | (refine ExtH.set ?_ (by simp) (by first | omega | (simp <;> omega))))
  · have : x = L.length := by omega
    subst this
    simp -implicitDefEqProofs [s44L0, k1, k2, kb', ki', hlt]
    exact hq _ (by simp -implicitDefEqProofs [k1]) (he.tick (Nat.le_succ _))

theorem spoil_l1 {F : CT} {Q : AEx → St → Prop} {st : St} (n m : Nat) (hn1 : m < 1000000) (b i j : Id) (a : List Sect) (ha : a.length = m) (k1 : st.s 1 = .c (.pt b 0 0)) (k2 : st.s 3 = .c (.raw (.int .i64 0)))
    (kb : st.H b = .arr 25 2 false [[.so i 0 n, .so j 0 m]]) (ki : st.H j = .arr 57 2 false (rowsE a)) (hf : Fresh st.H st.T)
    (hq : ∀ st', ExtH [j] st.H st.T st'.H st'.T → Q (.exit 2) st') :
    awpS Try.prog F (.loop s44L1) Q st := by
  refine loop_n (fun q st' => ∃ x : Nat, ∃ L : List Sect, x ≤ m ∧ q = m - x ∧ st'.s 1 = .c (.pt b 0 0) ∧ st'.s 3 = .c (.raw (.int .i64 x)) ∧ L.length = m ∧ st'.H j = .arr 57 2 false (rowsE L) ∧ ExtH [j] st.H st.T st'.H st'.T) m
    ⟨0, a, by omega, rfl, k1, by simpa using k2, ha, ki, ExtH.refl hf⟩ ?_
  rintro q st' ⟨x, L, hx, rfl, k1, k2, rfl, ki', he⟩
  have hbi : b ∉ [j] := by
    simp only [List.mem_singleton]; intro e; rw [e, ki] at kb; simp -implicitDefEqProofs at kb
  have kb' := he.arr kb hbi
  obtain ⟨f1, f2, f3⟩ := he.fresh.arr ki'
  have hT := he.2.2.1
  by_cases hlt : x < L.length
  · have e2 : IntKind.wrap .i64 ((x : Int) + 1) = ((x + 1 : Nat) : Int) := by rw [wrap64_id] <;> omega
    simp -implicitDefEqProofs [s44L1, k1, k2, kb', ki', hlt, e2]
    refine ⟨L.length - (x + 1), by omega, x + 1, by omega, rfl, rfl, L.set x ⟨-9, []⟩, by simp -implicitDefEqProofs, rowsE_set L x ⟨-9, []⟩, ?_⟩
    repeat' (first | exact he.tick (by first | omega | (simp <;> omega)) | (refine ExtH.new ?_ (by first | omega | (simp <;> omega)) (by first | omega | (simp <;> omega))) | (refine ExtH.set ?_ (by simp) (by first | omega | (simp <;> omega))))
  · have : x = L.length := by omega
    subst this
    simp -implicitDefEqProofs [s44L1, k1, k2, kb', ki', hlt]
    exact hq _ (he.tick (Nat.le_succ _))

theorem spoil_k {st : St} (i j : Id) (d : DiskV) (n m : Nat) (hn : d.safe.length = n) (hm : d.wait.length = m) (h1 : d.safe.length < 1000000) (h2 : d.wait.length < 1000000) (ki : st.H i = .arr 9 1 false (rowsE d.safe)) (kj : st.H j = .arr 57 2 false (rowsE d.wait)) (hf : Fresh st.H st.T) :
    CallK Try.prog st 44 [.g [.so i 0 n, .so j 0 m]] fun ret H T => ret = .t [] ∧ ExtH [i, j] st.H st.T H T := by
  subst hn hm
  refine callK_slim mixed F5_ok Try.func44 sl44 ok44 (by kernel_rfl) ?_
  simp -implicitDefEqProofs [s44]
  obtain ⟨f1, f2, f3⟩ := hf.arr ki
  obtain ⟨f4, f5, f6⟩ := hf.arr kj
  refine ⟨⟨by rw [ki]; rfl, by rw [kj]; rfl⟩, hf _ _ (by omega), ?_⟩
  have hij : j ≠ i := by
    rintro rfl; rw [ki] at kj; simp -implicitDefEqProofs at kj
  refine spoil_l0 d.safe.length d.wait.length h1 (st.T + 1, 1) i j d.safe rfl (by simp -implicitDefEqProofs) (by simp -implicitDefEqProofs) (by simp -implicitDefEqProofs) (by simp -implicitDefEqProofs [ki, f1, f2]) (by simp -implicitDefEqProofs; repeat' (first | exact hf.mono (by first | omega | (simp <;> omega)) | (refine Fresh.set' ?_ (by first | omega | (simp <;> omega))))) ?_
  intro st1 k1 he1
  simp -implicitDefEqProofs at he1
  have kb := he1.arr (i := (st.T + 1, 1)) (e := 25) (sz := 2) (f := false) (rows := [[.so i 0 d.safe.length, .so j 0 d.wait.length]]) (by simp -implicitDefEqProofs) (by simp -implicitDefEqProofs [f1])
  have kj1 := he1.arr (i := j) (e := 57) (sz := 2) (f := false) (rows := rowsE d.wait) (by simp -implicitDefEqProofs [kj, f5]) (by simp -implicitDefEqProofs [hij])
  have he : ExtH [i, j] st.H st.T st1.H st1.T := by
    refine ExtH.trans2 ?_ he1 (Nat.le_refl _) (by simp -implicitDefEqProofs)
    have he := ExtH.refl (S := [i, j]) hf
    repeat' (first | exact he.tick (by first | omega | (simp <;> omega)) | (refine ExtH.new ?_ (by first | omega | (simp <;> omega)) (by first | omega | (simp <;> omega))) | (refine ExtH.set ?_ (by simp) (by first | omega | (simp <;> omega))))
  simp -implicitDefEqProofs [k1]
  refine spoil_l1 d.safe.length d.wait.length h2 (st.T + 1, 1) i j d.wait rfl (by simp -implicitDefEqProofs [k1]) (by simp -implicitDefEqProofs) (by simp -implicitDefEqProofs [kb]) (by simp -implicitDefEqProofs [kj1]) (by simpa using he.fresh.mono (by omega)) ?_
  intro st2 he2
  simp -implicitDefEqProofs at he2
  simp -implicitDefEqProofs
  exact he.trans2 he2 (by omega) (by simp -implicitDefEqProofs)

end Go.AE

/- One act of a disk's law. -/
set_option linter.unusedVariables false
set_option linter.unusedSimpArgs false
set_option maxHeartbeats 4000000
set_option maxRecDepth 100000
namespace Go.AE
open Go Go.Proofs

/-- Rows that stay. -/
def diskS (t : Tag) (d : DiskV) : List AC := [.sl t false (rowsE d.safe), .sl t false (rowsE d.wait)]

instance argScript : Arg ScriptD where
  enc p := scriptA p
  dec | .g [.sl .brw false a, .sl .brw false b, .raw (.int .i64 n), .sl .brw false l] => (match decE a, decE b, decE l with | some a, some b, some l => some ⟨⟨a, b⟩, n, l⟩ | _, _, _ => none) | _ => none
  dec_some {x p} h := by
    split at h
    · split at h
      · rename_i h1 h2 h3
        cases h
        rw [decE_some h1, decE_some h2, decE_some h3]
        rfl
      · cases h
    · cases h

@[simp] theorem enc_Script (p : ScriptD) : Arg.enc p = scriptA p := rfl
@[simp] theorem dec_Script0 (a : List (List UInt8)) (b : List Sect) (n : Int) (l : List ActD) : Arg.dec (.g [.sl .brw false (rowsE a), .sl .brw false (rowsE b), .raw (.int .i64 n), .sl .brw false (rowsE l)]) = some (ScriptD.mk ⟨a, b⟩ n l) := by
  show (match decE (rowsE a), decE (rowsE b), decE (rowsE l) with | some a, some b, some l => some (ScriptD.mk ⟨a, b⟩ n l) | _, _, _ => none) = _
  simp -implicitDefEqProofs
@[simp high] theorem dec_Script (p : ScriptD) : Arg.dec (.g [.sl .brw false (rowsE p.d.safe), .sl .brw false (rowsE p.d.wait), .raw (.int .i64 p.n), .sl .brw false (rowsE p.l)]) = some p := dec_Script0 _ _ _ _

def F7_h9 : List AV → Option (Prop × AV) := t1 (fun p : ScriptD => ScriptS p) fun p : ScriptD => .c (.raw (.bool (decide (700 < heavyW p))))
@[simp] theorem F7_ap9 {l : List AV} : F7_h9 l = (t1 (fun p : ScriptD => ScriptS p) fun p : ScriptD => .c (.raw (.bool (decide (700 < heavyW p))))) l := rfl
def F7_h22 : List AV → Option (Prop × AV) := t1 (fun d => d.safe.length < 1000000 ∧ d.wait.length < 1000000) fun d : DiskV => .g (diskS .new d)
@[simp] theorem F7_ap22 {l : List AV} : F7_h22 l = (t1 (fun d => d.safe.length < 1000000 ∧ d.wait.length < 1000000) fun d : DiskV => .g (diskS .new d)) l := rfl
def F7 : CT := (9, F7_h9) :: (22, F7_h22) :: F6
theorem F7_ok : CTok Try.prog F7 := ⟨tells1 fun p h => heavy_ev p h,
  tells1 fun d h => (copyDisk_ev d h.1 h.2).frz2, F6_ok⟩
@[simp] theorem F7_get9 : ctGet F7 9 = some F7_h9 := rfl
@[simp] theorem F7_get22 : ctGet F7 22 = some F7_h22 := rfl
@[simp] theorem F7_skip {n : Nat} (h : (n == 9 || n == 22) = false) : ctGet F7 n = ctGet F6 n := by
  simp only [Bool.or_eq_false_iff, beq_eq_false_iff_ne, ne_eq] at h
  simp [F7, ctGet, h]

/-- What an act tells: the error, and the disk if there is none. -/
def stepR (d : DiskV) (a : ActD) : Option DiskV :=
  if mayB d = false then none else
  if within a.do_ 6 = 3 then some ⟨syncGo d.safe d.wait, []⟩
  else if within a.do_ 6 = 4 then some ⟨crashGo a.k 0 d.safe d.wait, []⟩
  else if within a.do_ 6 = 5 then none
  else if a.s.length = 32 ∧ (refPutR d a.n a.s).2 = 0 then some (refPutR d a.n a.s).1 else none

def stepA (d : DiskV) (a : ActD) : AV :=
  match stepR d a with
  | none => .t [(true, diskS .old d), (false, [.raw (.bool true)])]
  | some e => .t [(true, diskS .new e), (false, [.raw (.bool true)])]

theorem crashGo_ones : ∀ (l : List Sect) (n i : Nat) (safe : List (List UInt8)), i + l.length ≤ n → crashGo (List.replicate n 1) i safe l = syncGo safe l
  | [], _, _, _, _ => rfl
  | w :: r, n, i, safe, h => by
    have hk : keepAt (List.replicate n 1) i = 1 := by
      unfold keepAt
      have : i < n := by simp -implicitDefEqProofs at h; omega
      simp -implicitDefEqProofs [List.getD, this]
    rw [crashGo, syncGo, crashGo_ones r n (i + 1) _ (by simp -implicitDefEqProofs at h; omega), hk]
    rfl

theorem syncR_may {d : DiskV} (h : mayB d = true) : syncR d = (⟨syncGo d.safe d.wait, []⟩, 0) := by
  rw [syncR, crashR, if_pos h, crashGo_ones _ _ _ _ (by simp -implicitDefEqProofs)]
theorem syncR_no {d : DiskV} (h : mayB d = false) : syncR d = (⟨[], []⟩, 1) := by
  rw [syncR, crashR, if_neg (by simp -implicitDefEqProofs [h])]
theorem crashR_may {d : DiskV} (h : mayB d = true) (k : List Int) : crashR d k = (⟨crashGo k 0 d.safe d.wait, []⟩, 0) := by rw [crashR, if_pos h]
theorem crashR_no {d : DiskV} (h : mayB d = false) (k : List Int) : crashR d k = (⟨[], []⟩, 1) := by rw [crashR, if_neg (by simp -implicitDefEqProofs [h])]

theorem within6 (n : Int) : 0 ≤ within n 6 ∧ within n 6 < 6 := by unfold within; omega

end Go.AE

/- One act of a disk's law: a put. -/
set_option linter.unusedVariables false
set_option linter.unusedSimpArgs false
set_option maxHeartbeats 4000000
set_option maxRecDepth 100000
namespace Go.AE
open Go Go.Proofs


theorem step_put (d : DiskV) (a : ActD) (h1 : d.safe.length < 1000000) (h2 : d.wait.length < 1000000) (hk : a.k.length < 1000000) (hm : mayB d = true) (w3 : ¬ within a.do_ 6 = 3) (w4 : ¬ within a.do_ 6 = 4) (w5 : ¬ within a.do_ 6 = 5) (hs : a.s.length = 32) :
    PEv Try.prog 23 [.g (diskS .old d), .g (Enc.row a)] (stepA d a) := by
  refine tells_of mixed F7_ok Try.func23 sl23 ok23 (by kernel_rfl) (by unfold stepA; split <;> simp -implicitDefEqProofs [diskS]) (by simp -implicitDefEqProofs [diskS]) ?_
  have q1 : d.safe.length < 281474976710656 := by omega
  have q2 : d.wait.length < 281474976710656 := by omega
  have q3 : a.k.length < 281474976710656 := by omega
  have q4 : d.safe.length < 4611686018427387904 := by omega
  have q5 : d.wait.length < 4611686018427387904 := by omega
  have hp : putR d a.n a.s = refPutR d a.n a.s := by
    unfold putR refPutR
    rw [if_neg (by simp -implicitDefEqProofs [hm, hs])]
  have hl : (refPutR d a.n a.s).1.safe.length < 1000000 ∧ (refPutR d a.n a.s).1.wait.length < 1000000 := by
    obtain ⟨m1, m2, m3, m4, m5⟩ := mayB_of hm
    unfold refPutR
    split
    · simp -implicitDefEqProofs
    · split
      · simp -implicitDefEqProofs
      · simp -implicitDefEqProofs; omega
  unfold stepA stepR
  rw [if_neg (by simp -implicitDefEqProofs [hm]), if_neg w3, if_neg w4, if_neg w5]
  obtain ⟨r1, r2⟩ := hl
  generalize hr : refPutR d a.n a.s = r at hp r1 r2 ⊢
  obtain ⟨⟨s, w⟩, e⟩ := r
  simp only at r1 r2
  have r3 : s.length < 4611686018427387904 := by omega
  have r4 : w.length < 4611686018427387904 := by omega
  by_cases he : e = 0
  · subst he
    rw [if_pos ⟨hs, rfl⟩]
    simp -implicitDefEqProofs (maxSteps := 1000000) [s23, diskS, h1, h2, hk, q1, q2, q3, diskE, diskNw, hm, w3, w4, w5, q4, q5, hs, hp, hr, r3, r4]
    refine acall_k (spoil_k _ _ ⟨s, w⟩ _ _ rfl rfl r1 r2 (by simp -implicitDefEqProofs) (by simp -implicitDefEqProofs) (by (simp; repeat' (first | exact fresh_no.mono (Nat.zero_le _) | (refine Fresh.set' ?_ (by simp)))))) ?_
    rintro ret H' T' ⟨rfl, he'⟩
    simp -implicitDefEqProofs at he'
    have g2 := he'.arr (i := (0, 2)) (e := 25) (sz := 2) (f := false) (rows := [[.sl .old false (rowsE d.safe), .sl .old false (rowsE d.wait)]]) (by simp -implicitDefEqProofs) (by simp -implicitDefEqProofs)
    have g6 := he'.arr (i := (1, 6)) (e := 25) (sz := 2) (f := false) (rows := [[.sl .new false (rowsE d.safe), .sl .new false (rowsE d.wait)]]) (by simp -implicitDefEqProofs) (by simp -implicitDefEqProofs)
    have g4 := he'.arr (i := (0, 4)) (e := 25) (sz := 2) (f := false) (rows := [[.raw (.slice none 0 0), .raw (.slice none 0 0)]]) (by simp -implicitDefEqProofs) (by simp -implicitDefEqProofs)
    have g10 := he'.arr (i := (4, 10)) (e := 25) (sz := 2) (f := false) (rows := [[.so (12, 47104) 0 s.length, .so (12, 47105) 0 w.length]]) (by simp -implicitDefEqProofs) (by simp -implicitDefEqProofs)
    have g11 := he'.arr (i := (12, 47104)) (e := 9) (sz := 1) (f := false) (rows := rowsE s) (by simp -implicitDefEqProofs) (by simp -implicitDefEqProofs)
    have g12 := he'.arr (i := (12, 47105)) (e := 57) (sz := 2) (f := false) (rows := rowsE w) (by simp -implicitDefEqProofs) (by simp -implicitDefEqProofs)
    simp -implicitDefEqProofs [g2, g4, g6, diskS, h1, h2, hk, q1, q2, q3, diskE, diskNw, g10, g11, g12, hm, q4, q5, r1, r2, r3, r4]
  · rw [if_neg (fun q => he q.2)]
    simp -implicitDefEqProofs (maxSteps := 1000000) [s23, diskS, h1, h2, hk, q1, q2, q3, diskE, diskNw, hm, w3, w4, w5, q4, q5, hs, hp, hr, r3, r4, he]
    refine acall_k (spoil_k _ _ ⟨s, w⟩ _ _ rfl rfl r1 r2 (by simp -implicitDefEqProofs) (by simp -implicitDefEqProofs) (by (simp; repeat' (first | exact fresh_no.mono (Nat.zero_le _) | (refine Fresh.set' ?_ (by simp)))))) ?_
    rintro ret H' T' ⟨rfl, he'⟩
    simp -implicitDefEqProofs at he'
    have g2 := he'.arr (i := (0, 2)) (e := 25) (sz := 2) (f := false) (rows := [[.sl .old false (rowsE d.safe), .sl .old false (rowsE d.wait)]]) (by simp -implicitDefEqProofs) (by simp -implicitDefEqProofs)
    have g6 := he'.arr (i := (1, 6)) (e := 25) (sz := 2) (f := false) (rows := [[.sl .new false (rowsE d.safe), .sl .new false (rowsE d.wait)]]) (by simp -implicitDefEqProofs) (by simp -implicitDefEqProofs)
    have g4 := he'.arr (i := (0, 4)) (e := 25) (sz := 2) (f := false) (rows := [[.raw (.slice none 0 0), .raw (.slice none 0 0)]]) (by simp -implicitDefEqProofs) (by simp -implicitDefEqProofs)
    simp -implicitDefEqProofs [g2, g4, g6, diskS, h1, h2, hk, q1, q2, q3, diskE, diskNw, hm, q4, q5, r1, r2, r3, r4, he]

end Go.AE

/- One act of a disk's law: all acts. -/
set_option linter.unusedVariables false
set_option linter.unusedSimpArgs false
set_option maxHeartbeats 4000000
set_option maxRecDepth 100000
namespace Go.AE
open Go Go.Proofs

theorem step_ev (d : DiskV) (a : ActD) (h1 : d.safe.length < 1000000) (h2 : d.wait.length < 1000000) (hk : a.k.length < 1000000) :
    PEv Try.prog 23 [.g (diskS .old d), .g (Enc.row a)] (stepA d a) := by
  by_cases hD : mayB d = true ∧ ¬ within a.do_ 6 = 3 ∧ ¬ within a.do_ 6 = 4 ∧ ¬ within a.do_ 6 = 5 ∧ a.s.length = 32
  · exact step_put d a h1 h2 hk hD.1 hD.2.1 hD.2.2.1 hD.2.2.2.1 hD.2.2.2.2
  refine tells_of mixed F7_ok Try.func23 sl23 ok23 (by kernel_rfl) (by unfold stepA; split <;> simp -implicitDefEqProofs [diskS]) (by simp -implicitDefEqProofs [diskS]) ?_
  have q1 : d.safe.length < 281474976710656 := by omega
  have q2 : d.wait.length < 281474976710656 := by omega
  have q3 : a.k.length < 281474976710656 := by omega
  have q4 : d.safe.length < 4611686018427387904 := by omega
  have q5 : d.wait.length < 4611686018427387904 := by omega
  unfold stepA stepR
  by_cases hm : mayB d = true
  · have hm' : ¬ mayB d = false := by simp -implicitDefEqProofs [hm]
    rw [if_neg hm']
    have q6 : (syncGo d.safe d.wait).length = d.safe.length := syncGo_length _ _
    have q7 : (crashGo a.k 0 d.safe d.wait).length = d.safe.length := crashGo_length _ _ _ _
    by_cases w3 : within a.do_ 6 = 3
    · rw [if_pos w3]
      simp -implicitDefEqProofs [s23, diskS, h1, h2, hk, q1, q2, q3, diskE, diskNw, hm, w3, q4, q5, q6, syncR_may hm]
      refine acall_k (spoil_k _ _ ⟨syncGo d.safe d.wait, []⟩ _ _ q6 rfl (by simp -implicitDefEqProofs [q6, h1]) (by simp -implicitDefEqProofs) (by simp -implicitDefEqProofs) (by simp -implicitDefEqProofs) (by (simp; repeat' (first | exact fresh_no.mono (Nat.zero_le _) | (refine Fresh.set' ?_ (by simp)))))) ?_
      rintro ret H' T' ⟨rfl, he⟩
      simp -implicitDefEqProofs at he
      have g2 := he.arr (i := (0, 2)) (e := 25) (sz := 2) (f := false) (rows := [[.sl .old false (rowsE d.safe), .sl .old false (rowsE d.wait)]]) (by simp -implicitDefEqProofs) (by simp -implicitDefEqProofs)
      have g6 := he.arr (i := (1, 6)) (e := 25) (sz := 2) (f := false) (rows := [[.sl .new false (rowsE d.safe), .sl .new false (rowsE d.wait)]]) (by simp -implicitDefEqProofs) (by simp -implicitDefEqProofs)
      have g4 := he.arr (i := (0, 4)) (e := 25) (sz := 2) (f := false) (rows := [[.raw (.slice none 0 0), .raw (.slice none 0 0)]]) (by simp -implicitDefEqProofs) (by simp -implicitDefEqProofs)
      have g10 := he.arr (i := (4, 10)) (e := 25) (sz := 2) (f := false) (rows := [[.so (10, 59392) 0 d.safe.length, .so (10, 59393) 0 0]]) (by simp -implicitDefEqProofs) (by simp -implicitDefEqProofs)
      have g11 := he.arr (i := (10, 59392)) (e := 9) (sz := 1) (f := false) (rows := rowsE (syncGo d.safe d.wait)) (by simp -implicitDefEqProofs) (by simp -implicitDefEqProofs)
      have g12 := he.arr (i := (10, 59393)) (e := 57) (sz := 2) (f := false) (rows := []) (by simp -implicitDefEqProofs) (by simp -implicitDefEqProofs)
      simp -implicitDefEqProofs [g2, g4, g6, diskS, h1, h2, hk, q1, q2, q3, diskE, diskNw, g10, g11, g12, hm, w3, q4, q5, q6]
    · rw [if_neg w3]
      by_cases w4 : within a.do_ 6 = 4
      · rw [if_pos w4]
        simp -implicitDefEqProofs [s23, diskS, h1, h2, hk, q1, q2, q3, diskE, diskNw, hm, w3, w4, q4, q5, q7, crashR_may hm]
        refine acall_k (spoil_k _ _ ⟨crashGo a.k 0 d.safe d.wait, []⟩ _ _ q7 rfl (by simp -implicitDefEqProofs [q7, h1]) (by simp -implicitDefEqProofs) (by simp -implicitDefEqProofs) (by simp -implicitDefEqProofs) (by (simp; repeat' (first | exact fresh_no.mono (Nat.zero_le _) | (refine Fresh.set' ?_ (by simp)))))) ?_
        rintro ret H' T' ⟨rfl, he⟩
        simp -implicitDefEqProofs at he
        have g2 := he.arr (i := (0, 2)) (e := 25) (sz := 2) (f := false) (rows := [[.sl .old false (rowsE d.safe), .sl .old false (rowsE d.wait)]]) (by simp -implicitDefEqProofs) (by simp -implicitDefEqProofs)
        have g6 := he.arr (i := (1, 6)) (e := 25) (sz := 2) (f := false) (rows := [[.sl .new false (rowsE d.safe), .sl .new false (rowsE d.wait)]]) (by simp -implicitDefEqProofs) (by simp -implicitDefEqProofs)
        have g4 := he.arr (i := (0, 4)) (e := 25) (sz := 2) (f := false) (rows := [[.raw (.slice none 0 0), .raw (.slice none 0 0)]]) (by simp -implicitDefEqProofs) (by simp -implicitDefEqProofs)
        have g10 := he.arr (i := (4, 10)) (e := 25) (sz := 2) (f := false) (rows := [[.so (12, 75776) 0 d.safe.length, .so (12, 75777) 0 0]]) (by simp -implicitDefEqProofs) (by simp -implicitDefEqProofs)
        have g11 := he.arr (i := (12, 75776)) (e := 9) (sz := 1) (f := false) (rows := rowsE (crashGo a.k 0 d.safe d.wait)) (by simp -implicitDefEqProofs) (by simp -implicitDefEqProofs)
        have g12 := he.arr (i := (12, 75777)) (e := 57) (sz := 2) (f := false) (rows := []) (by simp -implicitDefEqProofs) (by simp -implicitDefEqProofs)
        simp -implicitDefEqProofs [g2, g4, g6, diskS, h1, h2, hk, q1, q2, q3, diskE, diskNw, g10, g11, g12, hm, w3, q4, q5, q7]
      · rw [if_neg w4]
        by_cases w5 : within a.do_ 6 = 5
        · rw [if_pos w5]
          have e3 : IntKind.wrap .i64 ((d.safe.length : Int) - 1) = (d.safe.length : Int) - 1 := by rw [wrap64_id] <;> omega
          by_cases g1 : 0 ≤ a.n ∧ a.n < d.safe.length
          · have hlt : a.n.toNat < (syncGo d.safe d.wait).length := by omega
            have hrd : readR ⟨d.safe, d.wait⟩ a.n = ((syncGo d.safe d.wait)[a.n.toNat], 0) := by
              unfold readR
              rw [if_neg (by simp -implicitDefEqProofs [hm]), if_neg (by simp -implicitDefEqProofs; omega), syncR_may hm]
              simp -implicitDefEqProofs [List.getD, hlt]
            have g2 : (decide (0 ≤ a.n) && decide (a.n ≤ (d.safe.length : Int) - 1)) = true := by simp -implicitDefEqProofs; omega
            simp -implicitDefEqProofs [s23, diskS, h1, h2, hk, q1, q2, q3, diskE, diskNw, hm, w3, w4, w5, q4, q5, q7, e3, g1, g2, hrd, hlt, q6]
            omega
          · have hrd : readR ⟨d.safe, d.wait⟩ a.n = ([], 3) := by
              unfold readR
              rw [if_neg (by simp -implicitDefEqProofs [hm]), if_pos (by simp -implicitDefEqProofs; omega)]
            have g2 : (decide (0 ≤ a.n) && decide (a.n ≤ (d.safe.length : Int) - 1)) = false := by simp -implicitDefEqProofs; omega
            simp -implicitDefEqProofs [s23, diskS, h1, h2, hk, q1, q2, q3, diskE, diskNw, hm, w3, w4, w5, q4, q5, q7, e3, g2, hrd, q6]
        · rw [if_neg w5]
          by_cases hs : a.s.length = 32
          · exact absurd ⟨hm, w3, w4, w5, hs⟩ hD
          · rw [if_neg (fun q => hs q.1)]
            have hp : putR d a.n a.s = (⟨[], []⟩, 1) := by
              unfold putR
              rw [if_pos (.inr hs)]
            have hs' : ¬ (a.s.length : Int) = 32 := by omega
            simp -implicitDefEqProofs (maxSteps := 1000000) [s23, diskS, h1, h2, hk, q1, q2, q3, diskE, diskNw, q4, q5, hm, w3, w4, w5, hs, hs', hp]
            refine acall_k (spoil_k _ _ ⟨[], []⟩ _ _ rfl rfl (by simp -implicitDefEqProofs) (by simp -implicitDefEqProofs) (by simp -implicitDefEqProofs) (by simp -implicitDefEqProofs) (by (simp; repeat' (first | exact fresh_no.mono (Nat.zero_le _) | (refine Fresh.set' ?_ (by simp)))))) ?_
            rintro ret H' T' ⟨rfl, he⟩
            simp -implicitDefEqProofs at he
            have g2 := he.arr (i := (0, 2)) (e := 25) (sz := 2) (f := false) (rows := [[.sl .old false (rowsE d.safe), .sl .old false (rowsE d.wait)]]) (by simp -implicitDefEqProofs) (by simp -implicitDefEqProofs)
            have g6 := he.arr (i := (1, 6)) (e := 25) (sz := 2) (f := false) (rows := [[.sl .new false (rowsE d.safe), .sl .new false (rowsE d.wait)]]) (by simp -implicitDefEqProofs) (by simp -implicitDefEqProofs)
            have g4 := he.arr (i := (0, 4)) (e := 25) (sz := 2) (f := false) (rows := [[.raw (.slice none 0 0), .raw (.slice none 0 0)]]) (by simp -implicitDefEqProofs) (by simp -implicitDefEqProofs)
            simp -implicitDefEqProofs [g2, g4, g6, diskS, h1, h2, hk, q1, q2, q3, diskE, diskNw, q4, q5]
  · have hm' : mayB d = false := by simpa using hm
    rw [if_pos hm']
    by_cases w3 : within a.do_ 6 = 3
    · simp -implicitDefEqProofs (maxSteps := 1000000) [s23, diskS, h1, h2, hk, q1, q2, q3, diskE, diskNw, q4, q5, hm', w3, syncR_no hm']
      refine acall_k (spoil_k _ _ ⟨[], []⟩ _ _ rfl rfl (by simp -implicitDefEqProofs) (by simp -implicitDefEqProofs) (by simp -implicitDefEqProofs) (by simp -implicitDefEqProofs) (by (simp; repeat' (first | exact fresh_no.mono (Nat.zero_le _) | (refine Fresh.set' ?_ (by simp)))))) ?_
      rintro ret H' T' ⟨rfl, he⟩
      simp -implicitDefEqProofs at he
      have g2 := he.arr (i := (0, 2)) (e := 25) (sz := 2) (f := false) (rows := [[.sl .old false (rowsE d.safe), .sl .old false (rowsE d.wait)]]) (by simp -implicitDefEqProofs) (by simp -implicitDefEqProofs)
      have g6 := he.arr (i := (1, 6)) (e := 25) (sz := 2) (f := false) (rows := [[.sl .new false (rowsE d.safe), .sl .new false (rowsE d.wait)]]) (by simp -implicitDefEqProofs) (by simp -implicitDefEqProofs)
      have g4 := he.arr (i := (0, 4)) (e := 25) (sz := 2) (f := false) (rows := [[.raw (.slice none 0 0), .raw (.slice none 0 0)]]) (by simp -implicitDefEqProofs) (by simp -implicitDefEqProofs)
      simp -implicitDefEqProofs [g2, g4, g6, diskS, h1, h2, hk, q1, q2, q3, diskE, diskNw, q4, q5]
    · by_cases w4 : within a.do_ 6 = 4
      · simp -implicitDefEqProofs (maxSteps := 1000000) [s23, diskS, h1, h2, hk, q1, q2, q3, diskE, diskNw, q4, q5, hm', w3, w4, crashR_no hm']
        refine acall_k (spoil_k _ _ ⟨[], []⟩ _ _ rfl rfl (by simp -implicitDefEqProofs) (by simp -implicitDefEqProofs) (by simp -implicitDefEqProofs) (by simp -implicitDefEqProofs) (by (simp; repeat' (first | exact fresh_no.mono (Nat.zero_le _) | (refine Fresh.set' ?_ (by simp)))))) ?_
        rintro ret H' T' ⟨rfl, he⟩
        simp -implicitDefEqProofs at he
        have g2 := he.arr (i := (0, 2)) (e := 25) (sz := 2) (f := false) (rows := [[.sl .old false (rowsE d.safe), .sl .old false (rowsE d.wait)]]) (by simp -implicitDefEqProofs) (by simp -implicitDefEqProofs)
        have g6 := he.arr (i := (1, 6)) (e := 25) (sz := 2) (f := false) (rows := [[.sl .new false (rowsE d.safe), .sl .new false (rowsE d.wait)]]) (by simp -implicitDefEqProofs) (by simp -implicitDefEqProofs)
        have g4 := he.arr (i := (0, 4)) (e := 25) (sz := 2) (f := false) (rows := [[.raw (.slice none 0 0), .raw (.slice none 0 0)]]) (by simp -implicitDefEqProofs) (by simp -implicitDefEqProofs)
        simp -implicitDefEqProofs [g2, g4, g6, diskS, h1, h2, hk, q1, q2, q3, diskE, diskNw, q4, q5]
      · by_cases w5 : within a.do_ 6 = 5
        · have hrd : readR d a.n = ([], 1) := by
            unfold readR
            rw [if_pos hm']
          simp -implicitDefEqProofs (maxSteps := 1000000) [s23, diskS, h1, h2, hk, q1, q2, q3, diskE, diskNw, hm', w3, w4, w5, q4, q5, hrd]
        · have hp : putR d a.n a.s = (⟨[], []⟩, 1) := by
            unfold putR
            rw [if_pos (.inl hm')]
          simp -implicitDefEqProofs (maxSteps := 1000000) [s23, diskS, h1, h2, hk, q1, q2, q3, diskE, diskNw, q4, q5, hm', w3, w4, w5, hp]
          refine acall_k (spoil_k _ _ ⟨[], []⟩ _ _ rfl rfl (by simp -implicitDefEqProofs) (by simp -implicitDefEqProofs) (by simp -implicitDefEqProofs) (by simp -implicitDefEqProofs) (by (simp; repeat' (first | exact fresh_no.mono (Nat.zero_le _) | (refine Fresh.set' ?_ (by simp)))))) ?_
          rintro ret H' T' ⟨rfl, he⟩
          simp -implicitDefEqProofs at he
          have g2 := he.arr (i := (0, 2)) (e := 25) (sz := 2) (f := false) (rows := [[.sl .old false (rowsE d.safe), .sl .old false (rowsE d.wait)]]) (by simp -implicitDefEqProofs) (by simp -implicitDefEqProofs)
          have g6 := he.arr (i := (1, 6)) (e := 25) (sz := 2) (f := false) (rows := [[.sl .new false (rowsE d.safe), .sl .new false (rowsE d.wait)]]) (by simp -implicitDefEqProofs) (by simp -implicitDefEqProofs)
          have g4 := he.arr (i := (0, 4)) (e := 25) (sz := 2) (f := false) (rows := [[.raw (.slice none 0 0), .raw (.slice none 0 0)]]) (by simp -implicitDefEqProofs) (by simp -implicitDefEqProofs)
          simp -implicitDefEqProofs [g2, g4, g6, diskS, h1, h2, hk, q1, q2, q3, diskE, diskNw, q4, q5]

end Go.AE

/- DiskExact: the loop over the acts. -/
set_option linter.unusedVariables false
set_option linter.unusedSimpArgs false
set_option maxHeartbeats 4000000
set_option maxRecDepth 100000
namespace Go.AE
open Go Go.Proofs

theorem stepR_len {d e : DiskV} {a : ActD} (h : stepR d a = some e) : e.safe.length ≤ d.safe.length ∧ e.wait.length ≤ d.wait.length + 1 := by
  unfold stepR at h
  split at h
  · cases h
  · split at h
    · cases h; simp -implicitDefEqProofs [syncGo_length]
    · split at h
      · cases h; simp -implicitDefEqProofs [crashGo_length]
      · split at h
        · cases h
        · split at h
          · rename_i hq
            cases h
            unfold refPutR
            split
            · simp -implicitDefEqProofs
            · split <;> simp -implicitDefEqProofs
          · cases h

/-- The disk behind an act, and how its rows are seen. -/
def stepT (d : DiskV) (a : ActD) : Tag := match stepR d a with | none => .old | some _ => .new
def stepD (d : DiskV) (a : ActD) : DiskV := match stepR d a with | none => d | some e => e
theorem stepA_eq (d : DiskV) (a : ActD) : stepA d a = .t [(true, diskS (stepT d a) (stepD d a)), (false, [.raw (.bool true)])] := by
  unfold stepA stepT stepD
  cases stepR d a <;> rfl
theorem stepT_ok (d : DiskV) (a : ActD) : stepT d a = .old ∨ stepT d a = .new := by
  unfold stepT; cases stepR d a <;> simp -implicitDefEqProofs
theorem stepD_len (d : DiskV) (a : ActD) : (stepD d a).safe.length ≤ d.safe.length ∧ (stepD d a).wait.length ≤ d.wait.length + 1 := by
  unfold stepD
  cases h : stepR d a with
  | none => simp -implicitDefEqProofs
  | some e => exact stepR_len h

theorem exact_l0 (p : ScriptD) (ha : ∀ a ∈ p.l, a.s.length < 12000 ∧ a.k.length ≤ 700) {Q : AEx → St → Prop} {st : St} (A5 A6 : AV) (v : Id) (t0 : Tag) (d0 : DiskV) (ht0 : t0 = .old ∨ t0 = .new) (hd0 : d0.safe.length ≤ 3000 ∧ d0.wait.length ≤ 1000)
    (k1 : st.s 1 = .c (.pt (0, 1) 0 0)) (kb : st.H (0, 1) = .arr 28 4 false [[.sl .brw false (rowsE p.d.safe), .sl .brw false (rowsE p.d.wait), .raw (.int .i64 p.n), .sl .brw false (rowsE p.l)]])
    (k5 : st.s 5 = A5) (k6 : st.s 6 = A6) (k7 : st.s 7 = .c (.pt v 0 0)) (k8 : st.s 8 = .c (.raw (.int .i64 0))) (hv : st.H v = .arr 25 2 false [diskS t0 d0]) (hl : p.l.length ≤ 700) (hf : Fresh st.H st.T)
    (hn : ∀ st', st'.s 1 = .c (.pt (0, 1) 0 0) → st'.s 5 = A5 → st'.s 6 = A6 → ExtH [v] st.H st.T st'.H st'.T → Q (.exit 2) st') :
    awpS Try.prog F7 (.loop s5L0) Q st := by
  have hx : (0, 1) ∉ [v] := by
    simp only [List.mem_singleton]; intro e; rw [← e, kb] at hv; simp -implicitDefEqProofs at hv
  refine loop_n (fun n st' => ∃ (i : Nat) (t : Tag) (d : DiskV), i ≤ p.l.length ∧ i ≤ 24 ∧ n = 24 - i ∧ st'.s 1 = .c (.pt (0, 1) 0 0) ∧ st'.s 5 = A5 ∧ st'.s 6 = A6 ∧ st'.s 7 = .c (.pt v 0 0) ∧ st'.s 8 = .c (.raw (.int .i64 i)) ∧ (t = .old ∨ t = .new) ∧ d.safe.length ≤ 3000 ∧ d.wait.length ≤ 1000 + i ∧ st'.H v = .arr 25 2 false [diskS t d] ∧ ExtH [v] st.H st.T st'.H st'.T) 24
    ⟨0, t0, d0, by omega, by omega, rfl, k1, k5, k6, k7, by simpa using k8, ht0, hd0.1, hd0.2, hv, ExtH.refl hf⟩ ?_
  rintro n st' ⟨i, t, d, hi, hi2, rfl, k1, k5, k6, k7, k8, ht, d1, d2, hv, he⟩
  have kb := he.arr kb hx
  have hf' := he.fresh
  obtain ⟨f1, f2, f3⟩ := hf'.arr hv
  obtain ⟨f10, f11, f12⟩ := hf'.arr kb
  have hfu : ∀ k d, st'.T ≤ k → st'.H (k, d) = .unborn := hf'
  have hT := he.2.2.1
  by_cases hlt : i < p.l.length
  · by_cases hlt2 : i < 24
    · have e2 : IntKind.wrap .i64 ((i : Int) + 1) = ((i + 1 : Nat) : Int) := by rw [wrap64_id] <;> omega
      have hlt' : (i : Int) < 24 := by omega
      obtain ⟨al, ak⟩ := ha p.l[i] (List.getElem_mem hlt)
      have hs := step_ev d p.l[i] (by omega) (by omega) (by omega)
      rw [stepA_eq] at hs
      have ht' := stepT_ok d p.l[i]
      obtain ⟨l1, l2⟩ := stepD_len d p.l[i]
      generalize stepT d p.l[i] = t' at hs ht'
      generalize stepD d p.l[i] = d' at hs l1 l2
      rcases ht with rfl | rfl <;> rcases ht' with rfl | rfl <;>
      · simp -implicitDefEqProofs (maxSteps := 1000000) [s5L0, diskS, k1, k5, k6, k7, k8, kb, hv, hfu, f1, f2, f10, f11, hlt, hlt', e2, Nat.le_add_right_of_le]
        refine acall_prom (args' := [.g [.sl .brw false (rowsE d.safe), .sl .brw false (rowsE d.wait)], .g [.raw (.int .i64 p.l[i].do_), .raw (.int .i64 p.l[i].n), .str p.l[i].s, .sl .brw false (rowsE p.l[i].k)]]) (by simp -implicitDefEqProofs) hs (by simp -implicitDefEqProofs [diskS]) (by simp -implicitDefEqProofs [diskS]) ?_
        simp -implicitDefEqProofs (maxSteps := 1000000) [diskS, k1, k5, k6, k7, k8, kb, hv, hfu, f1, f2, f10, f11, e2, Nat.le_add_right_of_le]
        refine ⟨24 - (i + 1), by omega, i + 1, by omega, by omega, rfl, rfl, d', by omega, by omega, ⟨rfl, rfl⟩, ?_⟩
        repeat' (first | exact he.tick (by first | omega | (simp <;> omega)) | (refine ExtH.new ?_ (by first | omega | (simp <;> omega)) (by first | omega | (simp <;> omega))) | (refine ExtH.set ?_ (by simp) (by first | omega | (simp <;> omega))))
    · have hlt' : ¬ (i : Int) < 24 := by omega
      simp -implicitDefEqProofs [s5L0, k1, k8, kb, hlt, hlt']
      exact hn _ (by simp -implicitDefEqProofs [k1]) (by simp -implicitDefEqProofs [k5]) (by simp -implicitDefEqProofs [k6]) (he.tick (Nat.le_succ _))
  · simp -implicitDefEqProofs [s5L0, k1, k8, kb, hlt]
    exact hn _ (by simp -implicitDefEqProofs [k1]) (by simp -implicitDefEqProofs [k5]) (by simp -implicitDefEqProofs [k6]) (he.tick (Nat.le_succ _))

end Go.AE

/- DiskExact: the loop over two disks; the walk. -/
set_option linter.unusedVariables false
set_option linter.unusedSimpArgs false
set_option maxHeartbeats 4000000
set_option maxRecDepth 100000
namespace Go.AE
open Go Go.Proofs

theorem exact_l1 (p : ScriptD) (ha : ∀ a ∈ p.l, a.s.length < 12000 ∧ a.k.length ≤ 700) (hp1 : p.d.safe.length ≤ 3000) (hp2 : p.d.wait.length ≤ 1000) (m : Nat) (hm : m ≤ 1000) {Q : AEx → St → Prop} {st : St} (id j1 j2 : Id)
    (k1 : st.s 1 = .c (.pt (0, 1) 0 0)) (kb : st.H (0, 1) = .arr 28 4 false [[.sl .brw false (rowsE p.d.safe), .sl .brw false (rowsE p.d.wait), .raw (.int .i64 p.n), .sl .brw false (rowsE p.l)]])
    (k5 : st.s 5 = .c (.so id 0 2)) (k6 : st.s 6 = .c (.raw (.int .i64 0))) (kid : st.H id = .arr 25 2 false [[.sl .brw false (rowsE p.d.safe), .sl .brw false (rowsE p.d.wait)], [.so j1 0 m, .so j2 0 0]])
    (kj1 : st.H j1 = .arr 9 1 false (rowsE (List.replicate m blank))) (kj2 : st.H j2 = .arr 57 2 false []) (hl : p.l.length ≤ 700) (hf : Fresh st.H st.T)
    (hn : ∀ st', Q (.exit 0) st') :
    awpS Try.prog F7 (.loop s5L1) Q st := by
  refine loop_n (fun n st' => ∃ i : Nat, i ≤ 2 ∧ n = 2 - i ∧ st'.s 1 = .c (.pt (0, 1) 0 0) ∧ st'.s 5 = .c (.so id 0 2) ∧ st'.s 6 = .c (.raw (.int .i64 i)) ∧ ExtH [] st.H st.T st'.H st'.T) 2
    ⟨0, by omega, rfl, k1, k5, by simpa using k6, ExtH.refl hf⟩ ?_
  rintro n st' ⟨i, hi, rfl, k1, k5, k6, he⟩
  have kb := he.arr kb (by simp -implicitDefEqProofs)
  have kid := he.arr kid (by simp -implicitDefEqProofs)
  have kj1 := he.arr kj1 (by simp -implicitDefEqProofs)
  have kj2 := he.arr kj2 (by simp -implicitDefEqProofs)
  have hf' := he.fresh
  obtain ⟨f1, f2, f3⟩ := hf'.arr kid
  obtain ⟨f4, f5, f6⟩ := hf'.arr kj1
  obtain ⟨f7, f8, f9⟩ := hf'.arr kj2
  obtain ⟨f10, f11, f12⟩ := hf'.arr kb
  have hfu : ∀ k d, st'.T ≤ k → st'.H (k, d) = .unborn := hf'
  have hT := he.2.2.1
  have q1 : p.d.safe.length < 1000000 := by omega
  have q2 : p.d.wait.length < 1000000 := by omega
  have q3 : m < 1000000 := by omega
  match i, hi with
  | 0, _ =>
    simp -implicitDefEqProofs (maxSteps := 1000000) [s5L1, k1, k5, k6, kb, kid, hfu, f1, f2, f4, f5, f7, f8, f10, f11, q1, q2, q3, Nat.le_add_right_of_le, diskS]
    refine exact_l0 p ha (.c (.so id 0 2)) (.c (.raw (.int .i64 0))) (st'.T + 1, 7) .new ⟨p.d.safe, p.d.wait⟩ (.inr rfl) ⟨hp1, hp2⟩ (by simp -implicitDefEqProofs [k1]) (by simp -implicitDefEqProofs [kb, f10, f11]) (by simp -implicitDefEqProofs [k5]) (by simp -implicitDefEqProofs [k6]) (by simp -implicitDefEqProofs) (by simp -implicitDefEqProofs) (by simp -implicitDefEqProofs [diskS]) hl (by simp -implicitDefEqProofs; have hf := hf'; repeat' (first | exact hf.mono (by first | omega | (simp <;> omega)) | (refine Fresh.set' ?_ (by first | omega | (simp <;> omega))))) ?_
    intro st2 m1 m5 m6 he2
    simp -implicitDefEqProofs at he2
    have he3 : ExtH [] st.H st.T st2.H st2.T := by
      refine ExtH.trans2 ?_ he2 (Nat.le_refl _) ?_
      · repeat' (first | exact he.tick (by first | omega | (simp <;> omega)) | (refine ExtH.new ?_ (by first | omega | (simp <;> omega)) (by first | omega | (simp <;> omega))) | (refine ExtH.set ?_ (by simp) (by first | omega | (simp <;> omega))))
      · simp -implicitDefEqProofs
        exact he.2.2.2 _ _ (by omega)
    simp -implicitDefEqProofs [m1, m5, m6]
    exact ⟨1, by omega, 1, by omega, rfl, by rw [wrap64_id] <;> omega, he3.tick (Nat.le_succ _)⟩
  | 1, _ =>
    simp -implicitDefEqProofs (maxSteps := 1000000) [s5L1, k1, k5, k6, kb, kid, kj1, kj2, hfu, f1, f2, f4, f5, f7, f8, f10, f11, q1, q2, q3, Nat.le_add_right_of_le, diskS]
    refine exact_l0 p ha (.c (.so id 0 2)) (.c (.raw (.int .i64 1))) (st'.T + 1, 7) .new ⟨List.replicate m blank, []⟩ (.inr rfl) ⟨by simp -implicitDefEqProofs; omega, by simp -implicitDefEqProofs⟩ (by simp -implicitDefEqProofs [k1]) (by simp -implicitDefEqProofs [kb, f10, f11]) (by simp -implicitDefEqProofs [k5]) (by simp -implicitDefEqProofs [k6]) (by simp -implicitDefEqProofs) (by simp -implicitDefEqProofs) (by simp -implicitDefEqProofs [diskS]) hl (by simp -implicitDefEqProofs; have hf := hf'; repeat' (first | exact hf.mono (by first | omega | (simp <;> omega)) | (refine Fresh.set' ?_ (by first | omega | (simp <;> omega))))) ?_
    intro st2 m1 m5 m6 he2
    simp -implicitDefEqProofs at he2
    have he3 : ExtH [] st.H st.T st2.H st2.T := by
      refine ExtH.trans2 ?_ he2 (Nat.le_refl _) ?_
      · repeat' (first | exact he.tick (by first | omega | (simp <;> omega)) | (refine ExtH.new ?_ (by first | omega | (simp <;> omega)) (by first | omega | (simp <;> omega))) | (refine ExtH.set ?_ (by simp) (by first | omega | (simp <;> omega))))
      · simp -implicitDefEqProofs
        exact he.2.2.2 _ _ (by omega)
    simp -implicitDefEqProofs [m1, m5, m6]
    exact ⟨2, by omega, rfl, by rw [wrap64_id] <;> omega, he3.tick (Nat.le_succ _)⟩
  | 2, _ =>
    simp -implicitDefEqProofs [s5L1, k1, k5, k6]
    exact hn _

end Go.AE

/- DiskExact: the walk. -/
set_option linter.unusedVariables false
set_option linter.unusedSimpArgs false
set_option maxHeartbeats 4000000
set_option maxRecDepth 100000
namespace Go.AE
open Go Go.Proofs

theorem not_heavy_d {p : ScriptD} (hp : ScriptS p) (h : ¬ 700 < heavyW p) : p.d.safe.length ≤ 3000 ∧ p.d.wait.length ≤ 1000 := by
  obtain ⟨b1, b2⟩ := diskWeight_bound p.d hp.safe hp.wait hp.safeS hp.waitS
  have g := actsW_ge p.l (diskWeight p.d + p.l.length)
  unfold heavyW at h
  omega

theorem diskExact_ev (p : ScriptD) (hp : ScriptS p) : PEv Try.prog 5 [scriptA p] (.c (.raw (.bool true))) := by
  refine tells_of mixed F7_ok Try.func5 sl5 ok5 (by kernel_rfl) (by simp -implicitDefEqProofs) (by simp -implicitDefEqProofs [scriptA]) ?_
  by_cases hh : 700 < heavyW p
  · simp -implicitDefEqProofs [-List.reduceReplicate, s5, scriptA, hp, hh]
  · obtain ⟨l1, l2⟩ := not_heavy hp hh
    obtain ⟨l3, l4⟩ := not_heavy_d hp hh
    obtain ⟨w1, w2⟩ := within6 p.n
    have e1 : IntKind.wrap .i64 (1 + within p.n 6) = 1 + within p.n 6 := by rw [wrap64_id] <;> omega
    have e2 : 0 ≤ 1 + within p.n 6 ∧ 1 + within p.n 6 ≤ 1000 := by omega
    obtain ⟨e3, e4⟩ := e2
    by_cases hn : 1 ≤ p.n ∧ p.n ≤ 400
    · have q1 : newR p.n = (⟨List.replicate p.n.toNat blank, []⟩, 0) := by unfold newR; rw [if_pos hn]
      have q2 : p.n.toNat < 4611686018427387904 := by omega
      have q3 : 0 ≤ p.n := by omega
      have q4 : p.n ≤ 1000 := by omega
      obtain ⟨n1, n2⟩ := hn
      simp -implicitDefEqProofs (maxSteps := 300000) [-List.reduceReplicate, s5, scriptA, hp, hh, q1, q2, q3, q4, n1, n2, e1, e3, e4, diskE, diskNw]
      refine exact_l1 p l2 l3 l4 (1 + within p.n 6).toNat (by omega) (4, 62) (4, 63488) (4, 63489) (by simp -implicitDefEqProofs) (by simp -implicitDefEqProofs) (by simp -implicitDefEqProofs) (by simp -implicitDefEqProofs) (by simp -implicitDefEqProofs) (by simp -implicitDefEqProofs) (by simp -implicitDefEqProofs) l1 (by (simp; repeat' (first | exact fresh_no.mono (Nat.zero_le _) | (refine Fresh.set' ?_ (by simp))))) ?_
      intro st'
      simp -implicitDefEqProofs
    · have q1 : newR p.n = (⟨[], []⟩, 1) := by unfold newR; rw [if_neg hn]
      have q2 : (decide (1 ≤ p.n) && decide (p.n ≤ 400)) = false := by simp -implicitDefEqProofs; omega
      simp -implicitDefEqProofs (maxSteps := 300000) [-List.reduceReplicate, s5, scriptA, hp, hh, q1, q2, e1, e3, e4, diskE, diskNw]
      refine exact_l1 p l2 l3 l4 (1 + within p.n 6).toNat (by omega) (4, 62) (4, 63488) (4, 63489) (by simp -implicitDefEqProofs) (by simp -implicitDefEqProofs) (by simp -implicitDefEqProofs) (by simp -implicitDefEqProofs) (by simp -implicitDefEqProofs) (by simp -implicitDefEqProofs) (by simp -implicitDefEqProofs) l1 (by (simp; repeat' (first | exact fresh_no.mono (Nat.zero_le _) | (refine Fresh.set' ?_ (by simp))))) ?_
      intro st'
      simp -implicitDefEqProofs

end Go.AE

set_option linter.unusedVariables false
set_option linter.unusedSimpArgs false
set_option maxHeartbeats 4000000
set_option maxRecDepth 100000
namespace Go.AE
open Go Go.Proofs

def F8_h5 : List AV → Option (Prop × AV) := t1 (fun p : ScriptD => ScriptS p) fun p : ScriptD => .c (.raw (.bool true))
@[simp] theorem F8_ap5 {l : List AV} : F8_h5 l = (t1 (fun p : ScriptD => ScriptS p) fun p : ScriptD => .c (.raw (.bool true))) l := rfl
def F8 : CT := (5, F8_h5) :: F7
theorem F8_ok : CTok Try.prog F8 := ⟨tells1 fun p h => diskExact_ev p h, F7_ok⟩
@[simp] theorem F8_get5 : ctGet F8 5 = some F8_h5 := rfl
@[simp] theorem F8_skip {n : Nat} (h : (n == 5) = false) : ctGet F8 n = ctGet F7 n := by
  simp only [Bool.or_eq_false_iff, beq_eq_false_iff_ne, ne_eq] at h
  simp [F8, ctGet, h]

theorem only_l0 (p : ScriptD) (hp : p.l.length < 2513169434844) (ks : List Int) (hk : 0 < ks.length) {Q : AEx → St → Prop} {st : St} (v : Id) (a b n : AC)
    (k1 : st.s 1 = .c (.sl .brw false (rowsE ks))) (k2 : st.s 2 = .c (.pt (0, 2) 0 0)) (kb : st.H (0, 2) = .arr 28 4 false [[.sl .brw false (rowsE p.d.safe), .sl .brw false (rowsE p.d.wait), .raw (.int .i64 p.n), .sl .brw false (rowsE p.l)]])
    (k5 : st.s 5 = .c (.pt v 0 0)) (k6 : st.s 6 = .c (.raw (.int .i64 0))) (kv : st.H v = .arr 28 4 false [[a, b, n, .raw (.slice none 0 0)]]) (hf : Fresh st.H st.T) (hx : (0, 2) ≠ v)
    (hn : ∀ st' c (L : List ActD), st'.s 5 = .c (.pt v 0 0) → OwnL st'.H 40 4 st.T c L → st'.H v = .arr 28 4 false [[a, b, n, c]] → L.length = p.l.length → (∀ x ∈ L, ∃ y ∈ p.l, x.s = y.s ∧ x.k = y.k) → Fresh st'.H st'.T → Q (.exit 0) st') :
    awpS Try.prog F8 (.loop s24L0) Q st := by
  refine loop_n (fun m st' => ∃ (i : Nat) (c : AC) (L : List ActD), i ≤ p.l.length ∧ m = p.l.length - i ∧ st'.s 1 = .c (.sl .brw false (rowsE ks)) ∧ st'.s 2 = .c (.pt (0, 2) 0 0) ∧ st'.s 5 = .c (.pt v 0 0) ∧ st'.s 6 = .c (.raw (.int .i64 i)) ∧
      OwnL st'.H 40 4 st.T c L ∧ st'.H v = .arr 28 4 false [[a, b, n, c]] ∧ L.length = i ∧ (∀ x ∈ L, ∃ y ∈ p.l, x.s = y.s ∧ x.k = y.k) ∧ ExtH [v] st.H st.T st'.H st'.T) p.l.length
    ⟨0, .raw (.slice none 0 0), [], by omega, rfl, k1, k2, k5, by simpa using k6, OwnL.nil, kv, rfl, by simp -implicitDefEqProofs, ExtH.refl hf⟩ ?_
  rintro m st' ⟨i, c, L, hi, rfl, k1, k2, k5, k6, hc, kv, hL, hA, he⟩
  have kb := he.arr kb (by simpa using hx)
  have hf' := he.fresh
  obtain ⟨f1, f2, f3⟩ := hf'.arr kv
  obtain ⟨f10, f11, f12⟩ := hf'.arr kb
  have hfu : ∀ k d, st'.T ≤ k → st'.H (k, d) = .unborn := hf'
  have hT := he.2.2.1
  by_cases hlt : i < p.l.length
  · have e2 : IntKind.wrap .i64 ((i : Int) + 1) = ((i + 1 : Nat) : Int) := by rw [wrap64_id] <;> omega
    obtain ⟨j, hj, c1⟩ : ∃ j : Nat, j < ks.length ∧ (i : Int).tmod (ks.length : Int) = (j : Int) :=
      ⟨i % ks.length, Nat.mod_lt _ hk, by rw [Int.tmod_eq_emod_of_nonneg (by omega)]; exact (Int.natCast_emod _ _).symm⟩
    have hk0 : ¬ ks = [] := by rintro rfl; simp -implicitDefEqProofs at hk
    have hx' : (v = (0, 2)) = False := by simp -implicitDefEqProofs; exact fun e => hx e.symm
    have hx'' : ((0, 2) = v) = False := by simp -implicitDefEqProofs; exact hx
    rcases hc with ⟨rfl, rfl⟩ | ⟨id, rfl, hid0, hid⟩
    · simp -implicitDefEqProofs (maxSteps := 300000) (maxDischargeDepth := 8) [s24L0, k1, k2, k5, k6, kv, kb, hlt, e2, c1, hj, hk0, hfu, f1, f2, f10, f11, hx', hx'', Nat.le_add_right_of_le]
      have hi0 : i = 0 := by simpa using hL.symm
      subst hi0
      refine ⟨p.l.length - 1, by omega, 1, by omega, rfl, rfl, _, [⟨ks[j], p.l[0].n, p.l[0].s, p.l[0].k⟩], OwnL.so (id := (st'.T + 1 + 1 + 1, 34)) rfl (by simp -implicitDefEqProofs; omega) (by simp (maxDischargeDepth := 8) [f1, f2, Nat.le_add_right_of_le]; rfl), rfl, rfl, ?_, ?_⟩
      · intro x hx
        simp -implicitDefEqProofs at hx
        subst hx
        exact ⟨p.l[0], List.getElem_mem hlt, rfl, rfl⟩
      · repeat' (first | exact he.tick (by first | omega | (simp <;> omega)) | (refine ExtH.new ?_ (by first | omega | (simp <;> omega)) (by first | omega | (simp <;> omega))) | (refine ExtH.set ?_ (by simp) (by first | omega | (simp <;> omega))))
    · obtain ⟨f4, f5, f6⟩ := hf'.arr hid
      have hvi : (v = id) = False := by
        simp -implicitDefEqProofs; rintro rfl; rw [hid] at kv
        have := congrArg (fun o => match o with | OK.arr e _ _ _ => e | _ => 0) kv
        simp -implicitDefEqProofs at this
      simp -implicitDefEqProofs (maxSteps := 300000) (maxDischargeDepth := 8) [s24L0, k1, k2, k5, k6, kv, kb, hlt, e2, c1, hj, hk0, hfu, f1, f2, f10, f11, f4, f5, hid, hvi, hx', hx'', Nat.le_add_right_of_le]
      refine ⟨⟨by omega, by omega⟩, p.l.length - (i + 1), by omega, i + 1, by omega, by omega, rfl, _, L ++ [⟨ks[j], p.l[i].n, p.l[i].s, p.l[i].k⟩], OwnL.so (id := (st'.T + 1 + 1 + 1, 34)) (by simp -implicitDefEqProofs) (by simp -implicitDefEqProofs; omega) (by simp (maxDischargeDepth := 8) [f1, f2, Nat.le_add_right_of_le]; exact rowsE_snoc L ⟨ks[j], p.l[i].n, p.l[i].s, p.l[i].k⟩), rfl, by simp -implicitDefEqProofs; omega, ?_, ?_⟩
      · intro x hx
        simp -implicitDefEqProofs at hx
        rcases hx with hx | rfl
        · exact hA x hx
        · exact ⟨p.l[i], List.getElem_mem hlt, rfl, rfl⟩
      · repeat' (first | exact he.tick (by first | omega | (simp <;> omega)) | (refine ExtH.new ?_ (by first | omega | (simp <;> omega)) (by first | omega | (simp <;> omega))) | (refine ExtH.set ?_ (by simp) (by first | omega | (simp <;> omega))))
  · have : i = p.l.length := by omega
    subst this
    simp -implicitDefEqProofs [s24L0, k1, k2, k6, kb]
    exact hn _ c L (by simp -implicitDefEqProofs [k5]) (by simpa using hc) (by simpa using kv) hL hA (by simpa using hf'.mono (by omega))

@[simp] theorem dec_Script00 (a : List (List UInt8)) (b : List Sect) (n : Int) : Arg.dec (.g [.sl .brw false (rowsE a), .sl .brw false (rowsE b), .raw (.int .i64 n), .sl .brw false []]) = some (ScriptD.mk ⟨a, b⟩ n []) := dec_Script0 a b n []

theorem only_ev (p : ScriptD) (hp : ScriptS p) (ks : List Int) (hk : 0 < ks.length) : PEv Try.prog 24 [scriptA p, .c (.sl .brw false (rowsE ks))] (.c (.raw (.bool true))) := by
  refine tells_of mixed F8_ok Try.func24 sl24 ok24 (by kernel_rfl) (by simp -implicitDefEqProofs) (by simp -implicitDefEqProofs [scriptA]) ?_
  simp -implicitDefEqProofs (maxSteps := 300000) [s24, scriptA]
  refine only_l0 p hp.acts ks hk (1, 5) _ _ _ (by simp -implicitDefEqProofs) (by simp -implicitDefEqProofs) (by simp -implicitDefEqProofs) (by simp -implicitDefEqProofs) (by simp -implicitDefEqProofs) (by simp -implicitDefEqProofs; exact ⟨rfl, rfl, rfl⟩) (by (simp; repeat' (first | exact fresh_no.mono (Nat.zero_le _) | (refine Fresh.set' ?_ (by simp))))) (by simp -implicitDefEqProofs) ?_
  intro st' c L k5 hc kv hL hA hf
  have hS : ScriptS ⟨p.d, p.n, L⟩ := ⟨hp.safe, hp.wait, hp.safeS, hp.waitS, by simp -implicitDefEqProofs [hL]; exact hp.acts, fun x hx => by
    obtain ⟨y, hy, e1, e2⟩ := hA x hx
    rw [e1, e2]; exact hp.actS y hy⟩
  have hS' : ScriptS ⟨⟨p.d.safe, p.d.wait⟩, p.n, L⟩ := hS
  rcases hc with ⟨rfl, rfl⟩ | ⟨id, rfl, hid0, hid⟩
  · simp -implicitDefEqProofs [k5, kv, hS']
  · simp -implicitDefEqProofs [k5, kv, hid, hS']

def F9_h24 : List AV → Option (Prop × AV) := t2 (fun (p : ScriptD) (ks : List Int) => ScriptS p ∧ 0 < ks.length) fun (p : ScriptD) (ks : List Int) => .c (.raw (.bool true))
@[simp] theorem F9_ap24 {l : List AV} : F9_h24 l = (t2 (fun (p : ScriptD) (ks : List Int) => ScriptS p ∧ 0 < ks.length) fun (p : ScriptD) (ks : List Int) => .c (.raw (.bool true))) l := rfl
def F9 : CT := (24, F9_h24) :: F8
theorem F9_ok : CTok Try.prog F9 := ⟨tells2 fun p ks h => only_ev p h.1 ks h.2, F8_ok⟩
@[simp] theorem F9_get24 : ctGet F9 24 = some F9_h24 := rfl
@[simp] theorem F9_skip {n : Nat} (h : (n == 24) = false) : ctGet F9 n = ctGet F8 n := by
  simp only [Bool.or_eq_false_iff, beq_eq_false_iff_ne, ne_eq] at h
  simp [F9, ctGet, h]

theorem diskPuts_ev (p : ScriptD) (hp : ScriptS p) : PEv Try.prog 6 [scriptA p] (.c (.raw (.bool true))) := by
  refine tells_of mixed F9_ok Try.func6 sl6 ok6 (by kernel_rfl) (by simp -implicitDefEqProofs) (by simp -implicitDefEqProofs [scriptA]) ?_
  have e : ([[.raw (.int .i64 0)], [.raw (.int .i64 5)], [.raw (.int .i64 1)]] : List (List AC)) = rowsE ([0, 5, 1] : List Int) := rfl
  simp -implicitDefEqProofs [s6, scriptA, hp, e]

theorem diskSyncs_ev (p : ScriptD) (hp : ScriptS p) : PEv Try.prog 7 [scriptA p] (.c (.raw (.bool true))) := by
  refine tells_of mixed F9_ok Try.func7 sl7 ok7 (by kernel_rfl) (by simp -implicitDefEqProofs) (by simp -implicitDefEqProofs [scriptA]) ?_
  have e : ([[.raw (.int .i64 0)], [.raw (.int .i64 1)], [.raw (.int .i64 3)], [.raw (.int .i64 5)]] : List (List AC)) = rowsE ([0, 1, 3, 5] : List Int) := rfl
  simp -implicitDefEqProofs [s7, scriptA, hp, e]

theorem diskCrashes_ev (p : ScriptD) (hp : ScriptS p) : PEv Try.prog 8 [scriptA p] (.c (.raw (.bool true))) := by
  refine tells_of mixed F9_ok Try.func8 sl8 ok8 (by kernel_rfl) (by simp -implicitDefEqProofs) (by simp -implicitDefEqProofs [scriptA]) ?_
  have e : ([[.raw (.int .i64 0)], [.raw (.int .i64 1)], [.raw (.int .i64 2)], [.raw (.int .i64 4)], [.raw (.int .i64 5)]] : List (List AC)) = rowsE ([0, 1, 2, 4, 5] : List Int) := rfl
  simp -implicitDefEqProofs [s8, scriptA, hp, e]

end Go.AE
