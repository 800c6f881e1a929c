/- The store's witness. -/
import Derived.Test.YtjafmhgkfkfimaaGreatLng3
import Derived.Test.YtjafmhgkfkfimaaGreatLng4
import Derived.Shelf.Strings.OnBuilder
import Derived.KernelRfl
import Derived.Test.YtjafmhgkfkfimaaGreatProg

set_option linter.unusedVariables false
set_option linter.unusedSimpArgs false
set_option maxHeartbeats 4000000
set_option maxRecDepth 100000
namespace Go.AE
open Go Go.Proofs

def prevE (l : List ElemV) : Nat → Option ElemV
  | 0 => none
  | i + 1 => l[i]?

theorem elem0 (e : ElemV) : (decide (e.site = 0) && (decide (e.seq = 0) && decide (e.i = 0))) = decide (e = ⟨0, 0, 0⟩) := by
  obtain ⟨a, b, c⟩ := e
  by_cases h1 : a = 0 <;> by_cases h2 : b = 0 <;> by_cases h3 : c = 0 <;> simp -implicitDefEqProofs (maxSteps := 400000) (maxDischargeDepth := 6) [h1, h2, h3]

theorem goneG_step (o : OpV) {i : Nat} (hi : i < o.gone.length) : goneG o (prevE o.gone i) (o.gone.drop i) =
    if decide (o.gone[i] = ⟨0, 0, 0⟩) || !elemB o.gone[i] || ownB o o.gone[i] || (match prevE o.gone i with | none => false | some q => !lessB q o.gone[i]) then false else goneG o (prevE o.gone (i + 1)) (o.gone.drop (i + 1)) := by
  rw [List.drop_eq_getElem_cons hi]
  have e : prevE o.gone (i + 1) = some o.gone[i] := by simp -implicitDefEqProofs (maxSteps := 400000) (maxDischargeDepth := 6) [prevE, hi]
  rw [e]
  cases prevE o.gone i <;> rfl

theorem gone_ev (o : OpV) (hl : o.gone.length < 4611686018427387904) : PEv Tryz.prog 81 [Arg.enc o] (.c (.raw (.bool (goneB o)))) := by
  refine tells_of mixed FO6_ok Tryz.func81 sl81 ok81 (by kernel_rfl) (by simp -implicitDefEqProofs (maxSteps := 400000) (maxDischargeDepth := 6)) (by simp -implicitDefEqProofs (maxSteps := 400000) (maxDischargeDepth := 6) [opRow]) ?_
  simp -implicitDefEqProofs (maxSteps := 400000) (maxDischargeDepth := 6) [s81, opRow]
  refine loop_n (fun n st => ∃ i : Nat, i ≤ o.gone.length ∧ n = o.gone.length - i ∧ st.s 1 = .c (.pt (0, 1) 0 0) ∧ st.s 6 = .c (.sl .brw false (rowsE o.gone)) ∧ st.s 7 = .c (.raw (.int .i64 o.gone.length)) ∧ st.s 8 = .c (.raw (.int .i64 i)) ∧ st.H (0, 1) = .arr 40 11 false [opRow .brw o] ∧ 0 < st.T ∧ Fresh st.H st.T ∧ goneG o (prevE o.gone i) (o.gone.drop i) = goneG o none o.gone) o.gone.length ⟨0, by simp -implicitDefEqProofs (maxSteps := 400000) (maxDischargeDepth := 6) [prevE, opRow]; exact Fresh.set' (fresh_no.mono (Nat.zero_le _)) (by simp -implicitDefEqProofs (maxSteps := 400000) (maxDischargeDepth := 6))⟩ ?_
  rintro n st ⟨i, hi, rfl, h1, h6, h7, h8, hH, hT, hf, hp⟩
  have hfu : ∀ k d, st.T ≤ k → st.H (k, d) = .unborn := hf
  by_cases hlt : i < o.gone.length
  · have hlt' : (i : Int) < o.gone.length := by omega
    have hw : IntKind.wrap .i64 ((i : Int) + 1) = ((i + 1 : Nat) : Int) := by rw [wrap64_id] <;> omega
    rw [goneG_step o hlt] at hp
    have hz := elem0 o.gone[i]
    cases z : decide (o.gone[i] = ⟨0, 0, 0⟩)
    · rw [z] at hz hp
      cases he : elemB o.gone[i]
      · have hg : goneB o = false := by simp -implicitDefEqProofs (maxSteps := 400000) (maxDischargeDepth := 6) [goneB, ← hp, he]
        simp -implicitDefEqProofs (maxSteps := 400000) (maxDischargeDepth := 6) [s81L0, h1, h6, h7, h8, hH, opRow, hlt, hlt', hw, hfu, hz, he, hg]
      · cases hw' : ownB o o.gone[i]
        · by_cases h0 : i = 0
          · subst h0
            have hp' : goneG o (prevE o.gone 1) (o.gone.drop 1) = goneG o none o.gone := by rw [← hp]; simp -implicitDefEqProofs (maxSteps := 400000) (maxDischargeDepth := 6) [he, hw', prevE]
            simp -implicitDefEqProofs (maxSteps := 400000) (maxDischargeDepth := 6) [s81L0, h1, h6, h7, h8, hH, opRow, hlt, hlt', hw, hfu, hz, he, hw']
            refine ⟨_, ?_, 1, by omega, rfl, rfl, ?_, hp'⟩
            · omega
            · repeat' (first | exact hf.mono (by first | omega | (simp <;> omega)) | (refine Fresh.set' ?_ (by first | omega | (simp <;> omega))))
          · obtain ⟨j, hj⟩ : ∃ j, j + 1 = i := ⟨i - 1, by omega⟩
            have hjl : j < o.gone.length := by omega
            have hpe : prevE o.gone i = some o.gone[j] := by subst hj; simp -implicitDefEqProofs (maxSteps := 400000) (maxDischargeDepth := 6) [prevE, hjl]
            have hs : IntKind.wrap .i64 ((i : Int) - 1) = (j : Int) := by rw [wrap64_id] <;> omega
            have hpos : 0 < i := by omega
            cases hl' : lessB o.gone[j] o.gone[i]
            · have hg : goneB o = false := by simp -implicitDefEqProofs (maxSteps := 400000) (maxDischargeDepth := 6) [goneB, ← hp, he, hpe, hl']
              simp -implicitDefEqProofs (maxSteps := 400000) (maxDischargeDepth := 6) [s81L0, h1, h6, h7, h8, hH, opRow, hlt, hlt', hw, hfu, hz, he, hw', hl', hs, hjl, hpos, h0, hg]
            · have hp' : goneG o (prevE o.gone (i + 1)) (o.gone.drop (i + 1)) = goneG o none o.gone := by rw [← hp]; simp -implicitDefEqProofs (maxSteps := 400000) (maxDischargeDepth := 6) [he, hw', hpe, hl']
              simp -implicitDefEqProofs (maxSteps := 400000) (maxDischargeDepth := 6) [s81L0, h1, h6, h7, h8, hH, opRow, hlt, hlt', hw, hfu, hz, he, hw', hl', hs, hjl, hpos, h0]
              refine ⟨_, ?_, i + 1, by omega, rfl, rfl, ?_, hp'⟩
              · omega
              · repeat' (first | exact hf.mono (by first | omega | (simp <;> omega)) | (refine Fresh.set' ?_ (by first | omega | (simp <;> omega))))
        · have hg : goneB o = false := by simp -implicitDefEqProofs (maxSteps := 400000) (maxDischargeDepth := 6) [goneB, ← hp, he, hw']
          simp -implicitDefEqProofs (maxSteps := 400000) (maxDischargeDepth := 6) [s81L0, h1, h6, h7, h8, hH, opRow, hlt, hlt', hw, hfu, hz, he, hw', hg]
    · rw [z] at hz hp
      have hg : goneB o = false := by simp -implicitDefEqProofs (maxSteps := 400000) (maxDischargeDepth := 6) [goneB, ← hp]
      simp -implicitDefEqProofs (maxSteps := 400000) (maxDischargeDepth := 6) [s81L0, h1, h6, h7, h8, hH, opRow, hlt, hlt', hw, hfu, hz, hg]
  · have : i = o.gone.length := by omega
    subst this
    simp -implicitDefEqProofs (maxSteps := 400000) (maxDischargeDepth := 6) at hp
    simp -implicitDefEqProofs (maxSteps := 400000) (maxDischargeDepth := 6) [s81L0, h1, h6, h7, h8, hH, opRow]
    have : goneG o none o.gone = true := by rw [← hp]; cases prevE o.gone o.gone.length <;> rfl
    simp -implicitDefEqProofs (maxSteps := 400000) (maxDischargeDepth := 6) [goneB, this]
    omega

end Go.AE

/- Ops and entries: which may be. -/
set_option linter.unusedVariables false
set_option linter.unusedSimpArgs false
set_option maxHeartbeats 4000000
set_option maxRecDepth 100000
namespace Go.AE
open Go Go.Proofs

def FO7_h81 : List AV → Option (Prop × AV) := t1 (fun o => o.gone.length < 4611686018427387904) fun o : OpV => .c (.raw (.bool (goneB o)))
@[simp] theorem FO7_ap81 {l : List AV} : FO7_h81 l = (t1 (fun o => o.gone.length < 4611686018427387904) fun o : OpV => .c (.raw (.bool (goneB o)))) l := rfl
def FO7_h79 : List AV → Option (Prop × AV) := t1 (fun _ => True) fun s : List UInt8 => .c (.raw (.bool (textB s)))
@[simp] theorem FO7_ap79 {l : List AV} : FO7_h79 l = (t1 (fun _ => True) fun s : List UInt8 => .c (.raw (.bool (textB s)))) l := rfl
def FO7 : CT := (81, .pu FO7_h81) :: (79, .pu FO7_h79) :: FO6
theorem FO7_ok : CTok Tryz.prog FO7 := ⟨tells1 fun o h => gone_ev o h,
  tells1 fun s _ => textMay_ev s, FO6_ok⟩
@[simp] theorem FO7_get81 : ctGet FO7 81 = some (.pu FO7_h81) := rfl
@[simp] theorem FO7_get79 : ctGet FO7 79 = some (.pu FO7_h79) := rfl
@[simp] theorem FO7_skip {n : Nat} (h : (n == 81 || n == 79) = false) : ctGet FO7 n = ctGet FO6 n := by
  simp only [Bool.or_eq_false_iff, beq_eq_false_iff_ne, ne_eq] at h
  simp [FO7, ctGet, h]

def okO (o : OpV) : Prop := o.text.length < 4611686018427387904 ∧ o.gone.length < 4611686018427387904

def editB (o : OpV) : Bool :=
  elemB o.after && !ownB o o.after && !(decide (o.text = []) && !decide (o.after = ⟨0, 0, 0⟩)) && !(decide (o.text = []) && decide (o.gone.length = 0)) &&
  textB o.text && decide (runesN o.text ≤ 12) && goneB o && decide (o.of_ = 0) && decide (o.num = 0) && decide (o.gen = 0)

theorem edit_ev (o : OpV) (ho : okO o) : PEv Tryz.prog 54 [Arg.enc o] (.c (.raw (.bool (editB o)))) := by
  refine tells_of mixed FO7_ok Tryz.func54 sl54 ok54 (by kernel_rfl) (by simp -implicitDefEqProofs (maxSteps := 400000) (maxDischargeDepth := 6)) (by simp -implicitDefEqProofs (maxSteps := 400000) (maxDischargeDepth := 6) [opRow]) ?_
  have hz := elem0 o.after
  have b1 : o.text.length < 9223372036854775807 := by have := ho.1; omega
  have b2 := ho.2
  have er : decide ((runesN o.text : Int) ≤ 12) = decide (runesN o.text ≤ 12) := by
    by_cases h : runesN o.text ≤ 12 <;> simp -implicitDefEqProofs (maxSteps := 400000) (maxDischargeDepth := 6) [h] <;> omega
  cases c1 : elemB o.after
  · simp -implicitDefEqProofs (maxSteps := 400000) (maxDischargeDepth := 6) [s54, opRow, editB, c1]
  cases c2 : ownB o o.after
  rotate_left
  · simp -implicitDefEqProofs (maxSteps := 400000) (maxDischargeDepth := 6) [s54, opRow, editB, c1, c2]
  cases c3 : decide (o.text = [])
  rotate_left
  · cases c4 : decide (o.after = ⟨0, 0, 0⟩)
    · rw [c4] at hz
      simp -implicitDefEqProofs (maxSteps := 400000) (maxDischargeDepth := 6) [s54, opRow, editB, hz, c1, c2, c3, c4]
    rw [c4] at hz
    cases c5 : decide (o.gone = [])
    rotate_left
    · simp -implicitDefEqProofs (maxSteps := 400000) (maxDischargeDepth := 6) [s54, opRow, editB, hz, c1, c2, c3, c4, c5]
    cases c6 : textB o.text
    · simp -implicitDefEqProofs (maxSteps := 400000) (maxDischargeDepth := 6) [s54, opRow, editB, hz, b1, b2, c1, c2, c3, c4, c5, c6]
    cases c7 : decide (runesN o.text ≤ 12)
    · have c7' : decide ((runesN o.text : Int) ≤ 12) = false := by rw [er, c7]
      simp -implicitDefEqProofs (maxSteps := 400000) (maxDischargeDepth := 6) [s54, opRow, editB, hz, b1, b2, c1, c2, c3, c4, c5, c6, c7, c7']
    have c7' : decide ((runesN o.text : Int) ≤ 12) = true := by rw [er, c7]
    cases c8 : goneB o
    · simp -implicitDefEqProofs (maxSteps := 400000) (maxDischargeDepth := 6) [s54, opRow, editB, hz, b1, b2, c1, c2, c3, c4, c5, c6, c7, c7', c8]
    cases c9 : decide (o.of_ = 0)
    · simp -implicitDefEqProofs (maxSteps := 400000) (maxDischargeDepth := 6) [s54, opRow, editB, hz, b1, b2, c1, c2, c3, c4, c5, c6, c7, c7', c8, c9]
    cases c10 : decide (o.num = 0)
    · simp -implicitDefEqProofs (maxSteps := 400000) (maxDischargeDepth := 6) [s54, opRow, editB, hz, b1, b2, c1, c2, c3, c4, c5, c6, c7, c7', c8, c9, c10]
    · simp -implicitDefEqProofs (maxSteps := 400000) (maxDischargeDepth := 6) [s54, opRow, editB, hz, b1, b2, c1, c2, c3, c4, c5, c6, c7, c7', c8, c9, c10]
  · skip
    cases c6 : textB o.text
    · simp -implicitDefEqProofs (maxSteps := 400000) (maxDischargeDepth := 6) [s54, opRow, editB, hz, b1, b2, c1, c2, c3, c6]
    cases c7 : decide (runesN o.text ≤ 12)
    · have c7' : decide ((runesN o.text : Int) ≤ 12) = false := by rw [er, c7]
      simp -implicitDefEqProofs (maxSteps := 400000) (maxDischargeDepth := 6) [s54, opRow, editB, hz, b1, b2, c1, c2, c3, c6, c7, c7']
    have c7' : decide ((runesN o.text : Int) ≤ 12) = true := by rw [er, c7]
    cases c8 : goneB o
    · simp -implicitDefEqProofs (maxSteps := 400000) (maxDischargeDepth := 6) [s54, opRow, editB, hz, b1, b2, c1, c2, c3, c6, c7, c7', c8]
    cases c9 : decide (o.of_ = 0)
    · simp -implicitDefEqProofs (maxSteps := 400000) (maxDischargeDepth := 6) [s54, opRow, editB, hz, b1, b2, c1, c2, c3, c6, c7, c7', c8, c9]
    cases c10 : decide (o.num = 0)
    · simp -implicitDefEqProofs (maxSteps := 400000) (maxDischargeDepth := 6) [s54, opRow, editB, hz, b1, b2, c1, c2, c3, c6, c7, c7', c8, c9, c10]
    · simp -implicitDefEqProofs (maxSteps := 400000) (maxDischargeDepth := 6) [s54, opRow, editB, hz, b1, b2, c1, c2, c3, c6, c7, c7', c8, c9, c10]

end Go.AE

/- Ops: toggles, sameness. -/
set_option linter.unusedVariables false
set_option linter.unusedSimpArgs false
set_option maxHeartbeats 4000000
set_option maxRecDepth 100000
namespace Go.AE
open Go Go.Proofs

theorem ElemV.ext_iff' {a b : ElemV} : a = b ↔ a.site = b.site ∧ a.seq = b.seq ∧ a.i = b.i := by
  obtain ⟨a1, a2, a3⟩ := a
  obtain ⟨b1, b2, b3⟩ := b
  simp -implicitDefEqProofs (maxSteps := 400000) (maxDischargeDepth := 6)

theorem equalE_ev (a b : List ElemV) (ha : a.length < 4611686018427387904) : PEv Tryz.prog 75 [Arg.enc a, Arg.enc b] (.c (.raw (.bool (decide (a = b))))) := by
  refine tells_of mixed (F := []) trivial Tryz.func75 sl75 ok75 (by kernel_rfl) (by simp -implicitDefEqProofs (maxSteps := 400000) (maxDischargeDepth := 6)) (by simp -implicitDefEqProofs (maxSteps := 400000) (maxDischargeDepth := 6)) ?_
  simp -implicitDefEqProofs (maxSteps := 400000) (maxDischargeDepth := 6) [s75]
  refine ⟨fun h e => h (by rw [e]), fun hl => ?_⟩
  have hl : a.length = b.length := by omega
  refine loop_n (fun n st => ∃ i : Nat, i ≤ a.length ∧ n = a.length - i ∧ st.s 0 = .c (.sl .brw false (rowsE a)) ∧ st.s 1 = .c (.sl .brw false (rowsE b)) ∧ st.s 12 = .c (.raw (.int .i64 a.length)) ∧ st.s 13 = .c (.raw (.int .i64 i)) ∧ a.take i = b.take i) a.length ⟨0, by simp -implicitDefEqProofs (maxSteps := 400000) (maxDischargeDepth := 6)⟩ ?_
  rintro n st ⟨i, hi, rfl, h0, h1, h12, h5, hp⟩
  by_cases hlt : i < a.length
  · have hb : i < b.length := by omega
    have hw : IntKind.wrap .i64 ((i : Int) + 1) = ((i + 1 : Nat) : Int) := by rw [wrap64_id] <;> omega
    simp -implicitDefEqProofs (maxSteps := 400000) (maxDischargeDepth := 6) [s75L0, h0, h1, h5, h12, hlt, hb]
    refine ⟨?_, ?_⟩
    · intro hne e
      subst e
      simp -implicitDefEqProofs (maxSteps := 400000) (maxDischargeDepth := 6) at hne
    · intro e1 e2 e3
      refine ⟨a.length - (i + 1), by omega, i + 1, by omega, rfl, ?_, ?_⟩
      · rw [wrap64_id (by omega) (by omega)]; rfl
      · exact eq_step hp hlt hb (ElemV.ext_iff'.2 ⟨e1, e2, e3⟩)
  · have : i = a.length := by omega
    subst this
    simp -implicitDefEqProofs (maxSteps := 400000) (maxDischargeDepth := 6) [s75L0, h0, h1, h5, h12]
    rw [List.take_length, hl, List.take_length] at hp
    exact hp

theorem eqElems_ev (a b : List ElemV) (ha : a.length < 4611686018427387904) : PEv Tryz.prog 26 [Arg.enc a, Arg.enc b] (.c (.raw (.bool (decide (a = b))))) := by
  refine tells_of mixed (F := []) trivial Tryz.func26 sl26 ok26 (by kernel_rfl) (by simp -implicitDefEqProofs (maxSteps := 400000) (maxDischargeDepth := 6)) (by simp -implicitDefEqProofs (maxSteps := 400000) (maxDischargeDepth := 6)) ?_
  simp -implicitDefEqProofs (maxSteps := 400000) (maxDischargeDepth := 6) [s26]
  refine ⟨fun h e => h (by rw [e]), fun hl => ?_⟩
  have hl : a.length = b.length := by omega
  refine loop_n (fun n st => ∃ i : Nat, i ≤ a.length ∧ n = a.length - i ∧ st.s 0 = .c (.sl .brw false (rowsE a)) ∧ st.s 1 = .c (.sl .brw false (rowsE b)) ∧ st.s 5 = .c (.raw (.int .i64 i)) ∧ a.take i = b.take i) a.length ⟨0, by simp -implicitDefEqProofs (maxSteps := 400000) (maxDischargeDepth := 6)⟩ ?_
  rintro n st ⟨i, hi, rfl, h0, h1, h5, hp⟩
  by_cases hlt : i < a.length
  · have hb : i < b.length := by omega
    simp -implicitDefEqProofs (maxSteps := 400000) (maxDischargeDepth := 6) [s26L0, h0, h1, h5, hlt, hb]
    refine ⟨?_, ?_⟩
    · intro hne e
      subst e
      simp -implicitDefEqProofs (maxSteps := 400000) (maxDischargeDepth := 6) at hne
    · intro e1 e2 e3
      refine ⟨a.length - (i + 1), by omega, i + 1, by omega, rfl, ?_, ?_⟩
      · rw [wrap64_id (by omega) (by omega)]; rfl
      · exact eq_step hp hlt hb (ElemV.ext_iff'.2 ⟨e1, e2, e3⟩)
  · have : i = a.length := by omega
    subst this
    simp -implicitDefEqProofs (maxSteps := 400000) (maxDischargeDepth := 6) [s26L0, h0, h1, h5]
    rw [List.take_length, hl, List.take_length] at hp
    exact hp

def FQ0_h75 : List AV → Option (Prop × AV) := t2 (fun a _ => a.length < 4611686018427387904) fun a b : List ElemV => .c (.raw (.bool (decide (a = b))))
@[simp] theorem FQ0_ap75 {l : List AV} : FQ0_h75 l = (t2 (fun a _ => a.length < 4611686018427387904) fun a b : List ElemV => .c (.raw (.bool (decide (a = b))))) l := rfl
def FQ0_h26 : List AV → Option (Prop × AV) := t2 (fun a _ => a.length < 4611686018427387904) fun a b : List ElemV => .c (.raw (.bool (decide (a = b))))
@[simp] theorem FQ0_ap26 {l : List AV} : FQ0_h26 l = (t2 (fun a _ => a.length < 4611686018427387904) fun a b : List ElemV => .c (.raw (.bool (decide (a = b))))) l := rfl
def FQ0 : CT := (75, .pu FQ0_h75) :: (26, .pu FQ0_h26) :: FO6
theorem FQ0_ok : CTok Tryz.prog FQ0 := ⟨tells2 fun a b h => equalE_ev a b h,
  tells2 fun a b h => eqElems_ev a b h, FO6_ok⟩
@[simp] theorem FQ0_get75 : ctGet FQ0 75 = some (.pu FQ0_h75) := rfl
@[simp] theorem FQ0_get26 : ctGet FQ0 26 = some (.pu FQ0_h26) := rfl
@[simp] theorem FQ0_skip {n : Nat} (h : (n == 75 || n == 26) = false) : ctGet FQ0 n = ctGet FO6 n := by
  simp only [Bool.or_eq_false_iff, beq_eq_false_iff_ne, ne_eq] at h
  simp [FQ0, ctGet, h]

end Go.AE

/- Ops and entries: which may be; sameness. -/
set_option linter.unusedVariables false
set_option linter.unusedSimpArgs false
set_option maxHeartbeats 4000000
set_option maxRecDepth 100000
namespace Go.AE
open Go Go.Proofs

def toggleB (o : OpV) : Bool :=
  nameB o.of_ o.num && !(decide (o.of_ = o.site) && decide (o.num = o.seq)) && !decide (o.gen < 0) && !decide (268435456 < o.gen) &&
  decide (o.after = ⟨0, 0, 0⟩) && decide (o.text = []) && decide (o.gone = [])

theorem toggle_ev (o : OpV) (ho : okO o) : PEv Tryz.prog 55 [Arg.enc o] (.c (.raw (.bool (toggleB o)))) := by
  refine tells_of mixed FO7_ok Tryz.func55 sl55 ok55 (by kernel_rfl) (by simp -implicitDefEqProofs (maxSteps := 400000) (maxDischargeDepth := 6)) (by simp -implicitDefEqProofs (maxSteps := 400000) (maxDischargeDepth := 6) [opRow]) ?_
  have hz := elem0 o.after
  cases c1 : nameB o.of_ o.num
  · simp -implicitDefEqProofs (maxSteps := 400000) (maxDischargeDepth := 6) [s55, opRow, toggleB, hz, c1]
  cases c2 : decide (o.of_ = o.site)
  · cases c4 : decide (o.gen < 0)
    rotate_left
    · simp -implicitDefEqProofs (maxSteps := 400000) (maxDischargeDepth := 6) [s55, opRow, toggleB, hz, c1, c2, c4]
    cases c5 : decide (268435456 < o.gen)
    rotate_left
    · simp -implicitDefEqProofs (maxSteps := 400000) (maxDischargeDepth := 6) [s55, opRow, toggleB, hz, c1, c2, c4, c5]
    cases c6 : decide (o.after = ⟨0, 0, 0⟩)
    · rw [c6] at hz
      simp -implicitDefEqProofs (maxSteps := 400000) (maxDischargeDepth := 6) [s55, opRow, toggleB, hz, c1, c2, c4, c5, c6]
    rw [c6] at hz
    cases c7 : decide (o.text = [])
    · simp -implicitDefEqProofs (maxSteps := 400000) (maxDischargeDepth := 6) [s55, opRow, toggleB, hz, c1, c2, c4, c5, c6, c7]
    · simp -implicitDefEqProofs (maxSteps := 400000) (maxDischargeDepth := 6) [s55, opRow, toggleB, hz, c1, c2, c4, c5, c6, c7]
  cases c3 : decide (o.num = o.seq)
  rotate_left
  · simp -implicitDefEqProofs (maxSteps := 400000) (maxDischargeDepth := 6) [s55, opRow, toggleB, hz, c1, c2, c3]
  cases c4 : decide (o.gen < 0)
  rotate_left
  · simp -implicitDefEqProofs (maxSteps := 400000) (maxDischargeDepth := 6) [s55, opRow, toggleB, hz, c1, c2, c3, c4]
  cases c5 : decide (268435456 < o.gen)
  rotate_left
  · simp -implicitDefEqProofs (maxSteps := 400000) (maxDischargeDepth := 6) [s55, opRow, toggleB, hz, c1, c2, c3, c4, c5]
  cases c6 : decide (o.after = ⟨0, 0, 0⟩)
  · rw [c6] at hz
    simp -implicitDefEqProofs (maxSteps := 400000) (maxDischargeDepth := 6) [s55, opRow, toggleB, hz, c1, c2, c3, c4, c5, c6]
  rw [c6] at hz
  cases c7 : decide (o.text = [])
  · simp -implicitDefEqProofs (maxSteps := 400000) (maxDischargeDepth := 6) [s55, opRow, toggleB, hz, c1, c2, c3, c4, c5, c6, c7]
  · simp -implicitDefEqProofs (maxSteps := 400000) (maxDischargeDepth := 6) [s55, opRow, toggleB, hz, c1, c2, c3, c4, c5, c6, c7]

end Go.AE

/- Ops: sameness. -/
set_option linter.unusedVariables false
set_option linter.unusedSimpArgs false
set_option maxHeartbeats 4000000
set_option maxRecDepth 100000
namespace Go.AE
open Go Go.Proofs

def FQ1_h75 : List AV → Option (Prop × AV) := t2 (fun a _ => a.length < 4611686018427387904) fun a b : List ElemV => .c (.raw (.bool (decide (a = b))))
@[simp] theorem FQ1_ap75 {l : List AV} : FQ1_h75 l = (t2 (fun a _ => a.length < 4611686018427387904) fun a b : List ElemV => .c (.raw (.bool (decide (a = b))))) l := rfl
def FQ1_h26 : List AV → Option (Prop × AV) := t2 (fun a _ => a.length < 4611686018427387904) fun a b : List ElemV => .c (.raw (.bool (decide (a = b))))
@[simp] theorem FQ1_ap26 {l : List AV} : FQ1_h26 l = (t2 (fun a _ => a.length < 4611686018427387904) fun a b : List ElemV => .c (.raw (.bool (decide (a = b))))) l := rfl
def FQ1 : CT := (75, .pu FQ1_h75) :: (26, .pu FQ1_h26) :: FO7
theorem FQ1_ok : CTok Tryz.prog FQ1 := ⟨tells2 fun a b h => equalE_ev a b h,
  tells2 fun a b h => eqElems_ev a b h, FO7_ok⟩
@[simp] theorem FQ1_get75 : ctGet FQ1 75 = some (.pu FQ1_h75) := rfl
@[simp] theorem FQ1_get26 : ctGet FQ1 26 = some (.pu FQ1_h26) := rfl
@[simp] theorem FQ1_skip {n : Nat} (h : (n == 75 || n == 26) = false) : ctGet FQ1 n = ctGet FO7 n := by
  simp only [Bool.or_eq_false_iff, beq_eq_false_iff_ne, ne_eq] at h
  simp [FQ1, ctGet, h]

theorem elemEq (a b : ElemV) : (decide (a.site = b.site) && (decide (a.seq = b.seq) && decide (a.i = b.i))) = decide (a = b) := by
  obtain ⟨a1, a2, a3⟩ := a
  obtain ⟨b1, b2, b3⟩ := b
  by_cases h1 : a1 = b1 <;> by_cases h2 : a2 = b2 <;> by_cases h3 : a3 = b3 <;> simp -implicitDefEqProofs (maxSteps := 400000) (maxDischargeDepth := 6) [h1, h2, h3]

def sameB (a b : OpV) : Bool :=
  decide (a.gone = b.gone) && decide (a.site = b.site) && decide (a.seq = b.seq) && decide (a.kind = b.kind) && decide (a.after = b.after) && decide (a.text = b.text) && decide (a.of_ = b.of_) && decide (a.num = b.num) && decide (a.gen = b.gen)

theorem sameB_eq (a b : OpV) : sameB a b = decide (a = b) := by
  obtain ⟨a1, a2, a3, a4, a5, a6, a7, a8, a9⟩ := a
  obtain ⟨b1, b2, b3, b4, b5, b6, b7, b8, b9⟩ := b
  rw [Bool.eq_iff_iff]
  simp -implicitDefEqProofs (maxSteps := 400000) (maxDischargeDepth := 6) [sameB]
  constructor
  · rintro ⟨⟨⟨⟨⟨⟨⟨⟨rfl, rfl⟩, rfl⟩, rfl⟩, rfl⟩, rfl⟩, rfl⟩, rfl⟩, rfl⟩
    simp -implicitDefEqProofs (maxSteps := 400000) (maxDischargeDepth := 6)
  · rintro ⟨rfl, rfl, rfl, rfl, rfl, rfl, rfl, rfl, rfl⟩
    simp -implicitDefEqProofs (maxSteps := 400000) (maxDischargeDepth := 6)

theorem same_ev (a b : OpV) (ha : a.gone.length < 4611686018427387904) : PEv Tryz.prog 52 [Arg.enc a, Arg.enc b] (.c (.raw (.bool (sameB a b)))) := by
  refine tells_of mixed FQ1_ok Tryz.func52 sl52 ok52 (by kernel_rfl) (by simp -implicitDefEqProofs (maxSteps := 400000) (maxDischargeDepth := 6)) (by simp -implicitDefEqProofs (maxSteps := 400000) (maxDischargeDepth := 6) [opRow]) ?_
  have hz := elemEq a.after b.after
  cases c1 : decide (a.gone = b.gone)
  · simp -implicitDefEqProofs (maxSteps := 400000) (maxDischargeDepth := 6) [s52, opRow, sameB, hz, c1, ha]
  cases c2 : decide (a.site = b.site)
  · simp -implicitDefEqProofs (maxSteps := 400000) (maxDischargeDepth := 6) [s52, opRow, sameB, hz, c1, c2, ha]
  cases c3 : decide (a.seq = b.seq)
  · simp -implicitDefEqProofs (maxSteps := 400000) (maxDischargeDepth := 6) [s52, opRow, sameB, hz, c1, c2, c3, ha]
  cases c4 : decide (a.kind = b.kind)
  · simp -implicitDefEqProofs (maxSteps := 400000) (maxDischargeDepth := 6) [s52, opRow, sameB, hz, c1, c2, c3, c4, ha]
  cases c5 : decide (a.after = b.after)
  · rw [c5] at hz
    simp -implicitDefEqProofs (maxSteps := 400000) (maxDischargeDepth := 6) [s52, opRow, sameB, hz, c1, c2, c3, c4, c5, ha]
  rw [c5] at hz
  cases c6 : decide (a.text = b.text)
  · simp -implicitDefEqProofs (maxSteps := 400000) (maxDischargeDepth := 6) [s52, opRow, sameB, hz, c1, c2, c3, c4, c5, c6, ha]
  cases c7 : decide (a.of_ = b.of_)
  · simp -implicitDefEqProofs (maxSteps := 400000) (maxDischargeDepth := 6) [s52, opRow, sameB, hz, c1, c2, c3, c4, c5, c6, c7, ha]
  cases c8 : decide (a.num = b.num)
  · simp -implicitDefEqProofs (maxSteps := 400000) (maxDischargeDepth := 6) [s52, opRow, sameB, hz, c1, c2, c3, c4, c5, c6, c7, c8, ha]
  · simp -implicitDefEqProofs (maxSteps := 400000) (maxDischargeDepth := 6) [s52, opRow, sameB, hz, c1, c2, c3, c4, c5, c6, c7, c8, ha]

end Go.AE

/- Ops and entries: which may be; what they are as bytes. -/
set_option linter.unusedVariables false
set_option linter.unusedSimpArgs false
set_option maxHeartbeats 4000000
set_option maxRecDepth 100000
namespace Go.AE
open Go Go.Proofs

def FM0_h54 : List AV → Option (Prop × AV) := t1 okO fun o : OpV => .c (.raw (.bool (editB o)))
@[simp] theorem FM0_ap54 {l : List AV} : FM0_h54 l = (t1 okO fun o : OpV => .c (.raw (.bool (editB o)))) l := rfl
def FM0_h55 : List AV → Option (Prop × AV) := t1 okO fun o : OpV => .c (.raw (.bool (toggleB o)))
@[simp] theorem FM0_ap55 {l : List AV} : FM0_h55 l = (t1 okO fun o : OpV => .c (.raw (.bool (toggleB o)))) l := rfl
def FM0_h52 : List AV → Option (Prop × AV) := t2 (fun a _ => a.gone.length < 4611686018427387904) fun a b : OpV => .c (.raw (.bool (sameB a b)))
@[simp] theorem FM0_ap52 {l : List AV} : FM0_h52 l = (t2 (fun a _ => a.gone.length < 4611686018427387904) fun a b : OpV => .c (.raw (.bool (sameB a b)))) l := rfl
def FM0 : CT := (54, .pu FM0_h54) :: (55, .pu FM0_h55) :: (52, .pu FM0_h52) :: FQ1
theorem FM0_ok : CTok Tryz.prog FM0 := ⟨tells1 fun o h => edit_ev o h,
  tells1 fun o h => toggle_ev o h,
  tells2 fun a b h => same_ev a b h, FQ1_ok⟩
@[simp] theorem FM0_get54 : ctGet FM0 54 = some (.pu FM0_h54) := rfl
@[simp] theorem FM0_get55 : ctGet FM0 55 = some (.pu FM0_h55) := rfl
@[simp] theorem FM0_get52 : ctGet FM0 52 = some (.pu FM0_h52) := rfl
@[simp] theorem FM0_skip {n : Nat} (h : (n == 54 || n == 55 || n == 52) = false) : ctGet FM0 n = ctGet FQ1 n := by
  simp only [Bool.or_eq_false_iff, beq_eq_false_iff_ne, ne_eq] at h
  simp [FM0, ctGet, h]

def opMayB (o : OpV) : Bool := nameB o.site o.seq && (if o.kind = 1 then editB o else decide (o.kind = 2) && toggleB o)

theorem opMay_ev (o : OpV) (ho : okO o) : PEv Tryz.prog 32 [Arg.enc o] (.c (.raw (.bool (opMayB o)))) := by
  refine tells_of mixed FM0_ok Tryz.func32 sl32 ok32 (by kernel_rfl) (by simp -implicitDefEqProofs (maxSteps := 400000) (maxDischargeDepth := 6)) (by simp -implicitDefEqProofs (maxSteps := 400000) (maxDischargeDepth := 6) [opRow]) ?_
  cases c1 : nameB o.site o.seq
  · simp -implicitDefEqProofs (maxSteps := 400000) (maxDischargeDepth := 6) [s32, opRow, opMayB, c1, ho]
  cases c2 : decide (o.kind = 1)
  rotate_left
  · have c2' := of_decide_eq_true c2
    simp -implicitDefEqProofs (maxSteps := 400000) (maxDischargeDepth := 6) [s32, opRow, opMayB, c1, c2, ho]
    exact fun h => absurd c2' h
  cases c3 : decide (o.kind = 2)
  · simp -implicitDefEqProofs (maxSteps := 400000) (maxDischargeDepth := 6) [s32, opRow, opMayB, c1, c2, c3, ho]
  · simp -implicitDefEqProofs (maxSteps := 400000) (maxDischargeDepth := 6) [s32, opRow, opMayB, c1, c2, c3, ho]
    exact fun h => absurd h (of_decide_eq_false c2)

def zeroO : OpV := ⟨0, 0, 0, ⟨0, 0, 0⟩, [], [], 0, 0, 0⟩
theorem nothing_ev (o : OpV) (ho : okO o) : PEv Tryz.prog 31 [Arg.enc o] (.c (.raw (.bool (sameB o zeroO)))) := by
  refine tells_of mixed FM0_ok Tryz.func31 sl31 ok31 (by kernel_rfl) (by simp -implicitDefEqProofs (maxSteps := 400000) (maxDischargeDepth := 6)) (by simp -implicitDefEqProofs (maxSteps := 400000) (maxDischargeDepth := 6) [opRow]) ?_
  have := ho.2
  simp -implicitDefEqProofs (maxSteps := 400000) (maxDischargeDepth := 6) [s31, opRow, this, zeroO]

def FM1_h32 : List AV → Option (Prop × AV) := t1 okO fun o : OpV => .c (.raw (.bool (opMayB o)))
@[simp] theorem FM1_ap32 {l : List AV} : FM1_h32 l = (t1 okO fun o : OpV => .c (.raw (.bool (opMayB o)))) l := rfl
def FM1_h31 : List AV → Option (Prop × AV) := t1 okO fun o : OpV => .c (.raw (.bool (sameB o zeroO)))
@[simp] theorem FM1_ap31 {l : List AV} : FM1_h31 l = (t1 okO fun o : OpV => .c (.raw (.bool (sameB o zeroO)))) l := rfl
def FM1 : CT := (32, .pu FM1_h32) :: (31, .pu FM1_h31) :: FM0
theorem FM1_ok : CTok Tryz.prog FM1 := ⟨tells1 fun o h => opMay_ev o h,
  tells1 fun o h => nothing_ev o h, FM0_ok⟩
@[simp] theorem FM1_get32 : ctGet FM1 32 = some (.pu FM1_h32) := rfl
@[simp] theorem FM1_get31 : ctGet FM1 31 = some (.pu FM1_h31) := rfl
@[simp] theorem FM1_skip {n : Nat} (h : (n == 32 || n == 31) = false) : ctGet FM1 n = ctGet FM0 n := by
  simp only [Bool.or_eq_false_iff, beq_eq_false_iff_ne, ne_eq] at h
  simp [FM1, ctGet, h]

def entMayB (e : EntryV) : Bool := if e.join then decide (1 ≤ e.nonce) && decide (e.nonce ≤ 268435456) && sameB e.op zeroO else decide (e.nonce = 0) && opMayB e.op

theorem entMay_ev (e : EntryV) (ho : okO e.op) : PEv Tryz.prog 16 [Arg.enc e] (.c (.raw (.bool (entMayB e)))) := by
  refine tells_of mixed FM1_ok Tryz.func16 sl16 ok16 (by kernel_rfl) (by simp -implicitDefEqProofs (maxSteps := 400000) (maxDischargeDepth := 6)) (by simp -implicitDefEqProofs (maxSteps := 400000) (maxDischargeDepth := 6) [entRow, opRow]) ?_
  cases c1 : e.join
  · cases c2 : decide (e.nonce = 0)
    · simp -implicitDefEqProofs (maxSteps := 400000) (maxDischargeDepth := 6) [s16, entRow, opRow, entMayB, c1, c2, ho]
    · simp -implicitDefEqProofs (maxSteps := 400000) (maxDischargeDepth := 6) [s16, entRow, opRow, entMayB, c1, c2, ho]
  · cases c2 : decide (1 ≤ e.nonce)
    · simp -implicitDefEqProofs (maxSteps := 400000) (maxDischargeDepth := 6) [s16, entRow, opRow, entMayB, c1, c2, ho]
    cases c3 : decide (e.nonce ≤ 268435456)
    · simp -implicitDefEqProofs (maxSteps := 400000) (maxDischargeDepth := 6) [s16, entRow, opRow, entMayB, c1, c2, c3, ho]
    · simp -implicitDefEqProofs (maxSteps := 400000) (maxDischargeDepth := 6) [s16, entRow, opRow, entMayB, c1, c2, c3, ho]

theorem nameB_b {a b : Int} (h : nameB a b = true) : 1 ≤ a ∧ a ≤ 8 ∧ 1 ≤ b ∧ b ≤ 268435456 := by
  simp -implicitDefEqProofs (maxSteps := 400000) (maxDischargeDepth := 6) [nameB] at h
  omega
theorem elemB_b {e : ElemV} (h : elemB e = true) : 0 ≤ e.site ∧ e.site ≤ 8 ∧ 0 ≤ e.seq ∧ e.seq ≤ 268435456 ∧ 0 ≤ e.i ∧ e.i < 12 := by
  simp -implicitDefEqProofs (maxSteps := 400000) (maxDischargeDepth := 6) [elemB] at h
  rcases h with rfl | ⟨⟨h1, h2⟩, h3⟩
  · simp -implicitDefEqProofs (maxSteps := 400000) (maxDischargeDepth := 6)
  · have := nameB_b h1
    omega

/-- Numbers that may be spelt. -/
def okN (n : Int) : Prop := 0 ≤ n ∧ n < 9223372036854775808
def okE (e : ElemV) : Prop := okN e.site ∧ okN e.seq ∧ okN e.i
theorem elemB_ok {e : ElemV} (h : elemB e = true) : okE e := by
  have := elemB_b h
  refine ⟨⟨?_, ?_⟩, ⟨?_, ?_⟩, ?_, ?_⟩ <;> omega

def FP0_h16 : List AV → Option (Prop × AV) := t1 (fun e => okO e.op) fun e : EntryV => .c (.raw (.bool (entMayB e)))
@[simp] theorem FP0_ap16 {l : List AV} : FP0_h16 l = (t1 (fun e => okO e.op) fun e : EntryV => .c (.raw (.bool (entMayB e)))) l := rfl
def FP0_h56 : List AV → Option (Prop × AV) := t1 (fun l => l.length < 1000000 ∧ ∀ n ∈ l, okN n) fun l : List Int => .c (.str (numsN l))
@[simp] theorem FP0_ap56 {l : List AV} : FP0_h56 l = (t1 (fun l => l.length < 1000000 ∧ ∀ n ∈ l, okN n) fun l : List Int => .c (.str (numsN l))) l := rfl
def FP0_h58 : List AV → Option (Prop × AV) := t1 (fun s => s.length < 140737488355328) fun s : List UInt8 => .c (.str (bytesN s.length ++ s))
@[simp] theorem FP0_ap58 {l : List AV} : FP0_h58 l = (t1 (fun s => s.length < 140737488355328) fun s : List UInt8 => .c (.str (bytesN s.length ++ s))) l := rfl
def FP0 : CT := (16, .pu FP0_h16) :: (56, .pu FP0_h56) :: (58, .pu FP0_h58) :: FM1
theorem FP0_ok : CTok Tryz.prog FP0 := ⟨tells1 fun e h => entMay_ev e h,
  tells1 fun l h => numbers_ev l h.1 h.2,
  tells1 fun s h => numText_ev s h, FM1_ok⟩
@[simp] theorem FP0_get16 : ctGet FP0 16 = some (.pu FP0_h16) := rfl
@[simp] theorem FP0_get56 : ctGet FP0 56 = some (.pu FP0_h56) := rfl
@[simp] theorem FP0_get58 : ctGet FP0 58 = some (.pu FP0_h58) := rfl
@[simp] theorem FP0_skip {n : Nat} (h : (n == 16 || n == 56 || n == 58) = false) : ctGet FP0 n = ctGet FM1 n := by
  simp only [Bool.or_eq_false_iff, beq_eq_false_iff_ne, ne_eq] at h
  simp [FP0, ctGet, h]

def elemN (e : ElemV) : List UInt8 := numsN [e.site, e.seq, e.i]

theorem elemN_ev (e : ElemV) (h : okE e) : PEv Tryz.prog 57 [Arg.enc e] (.c (.str (elemN e))) := by
  refine tells_of mixed FP0_ok Tryz.func57 sl57 ok57 (by kernel_rfl) (by simp -implicitDefEqProofs (maxSteps := 400000) (maxDischargeDepth := 6)) (by simp -implicitDefEqProofs (maxSteps := 400000) (maxDischargeDepth := 6)) ?_
  obtain ⟨h1, h2, h3⟩ := h
  simp -implicitDefEqProofs (maxSteps := 400000) (maxDischargeDepth := 6) [s57, rows3, take3, h1, h2, h3, elemN]

end Go.AE

/- Ops as bytes. -/
set_option linter.unusedVariables false
set_option linter.unusedSimpArgs false
set_option maxHeartbeats 4000000
set_option maxRecDepth 100000
namespace Go.AE
open Go Go.Proofs

def FP1_h57 : List AV → Option (Prop × AV) := t1 okE fun e : ElemV => .c (.str (elemN e))
@[simp] theorem FP1_ap57 {l : List AV} : FP1_h57 l = (t1 okE fun e : ElemV => .c (.str (elemN e))) l := rfl
def FP1 : CT := (57, .pu FP1_h57) :: FP0
theorem FP1_ok : CTok Tryz.prog FP1 := ⟨tells1 fun e h => elemN_ev e h, FP0_ok⟩
@[simp] theorem FP1_get57 : ctGet FP1 57 = some (.pu FP1_h57) := rfl
@[simp] theorem FP1_skip {n : Nat} (h : (n == 57) = false) : ctGet FP1 n = ctGet FP0 n := by
  simp only [Bool.or_eq_false_iff, beq_eq_false_iff_ne, ne_eq] at h
  simp [FP1, ctGet, h]

structure okP (o : OpV) : Prop where
  site : okN o.site
  seq : okN o.seq
  kind : okN o.kind
  of_ : okN o.of_
  num : okN o.num
  gen : okN o.gen
  after : okE o.after
  gone : ∀ e ∈ o.gone, okE e
  text : o.text.length < 1000000
  len : o.gone.length < 1000000

def headN (o : OpV) : List UInt8 := numsN [o.site, o.seq, o.kind]
def midN (o : OpV) : List UInt8 := elemN o.after ++ ((bytesN o.text.length ++ o.text) ++ numsN [(o.gone.length : Int)])
def spellN (o : OpV) : List UInt8 := if o.kind = 2 then headN o ++ numsN [o.of_, o.num, o.gen] else headN o ++ midN o ++ o.gone.flatMap elemN

theorem elemN_len (e : ElemV) : (elemN e).length ≤ 30 := by
  have := numsN_len [e.site, e.seq, e.i]
  simpa [elemN] using this

theorem dec_n1 (a : Int) : (Arg.dec (.c (.sl .brw false [[AC.raw (.int .i64 a)]])) : Option (List Int)) = some [a] := decE_rows [a]
theorem dec_n3 (a b c : Int) : (Arg.dec (.c (.sl .brw false [[AC.raw (.int .i64 a)], [AC.raw (.int .i64 b)], [AC.raw (.int .i64 c)]])) : Option (List Int)) = some [a, b, c] := decE_rows [a, b, c]
theorem flat_len (l : List ElemV) : (l.flatMap elemN).length ≤ 30 * l.length := by
  induction l with
  | nil => simp -implicitDefEqProofs (maxSteps := 400000) (maxDischargeDepth := 6)
  | cons x l ih =>
    have := elemN_len x
    simp -implicitDefEqProofs (maxSteps := 400000) (maxDischargeDepth := 6) at ih ⊢
    omega

theorem spell_ev (o : OpV) (h : okP o) : PEv Tryz.prog 34 [Arg.enc o] (.c (.str (spellN o))) := by
  refine tells_of mixed FP1_ok Tryz.func34 sl34 ok34 (by kernel_rfl) (by simp -implicitDefEqProofs (maxSteps := 400000) (maxDischargeDepth := 6)) (by simp -implicitDefEqProofs (maxSteps := 400000) (maxDischargeDepth := 6) [opRow]) ?_
  have hl1 := numsN_len [o.site, o.seq, o.kind]
  have hl2 := numsN_len [o.of_, o.num, o.gen]
  have hl3 := elemN_len o.after
  have hl4 := bytesN_len' o.text.length
  have hl5 := numsN_len [(o.gone.length : Int)]
  have hl6 := h.text
  have hl7 := h.len
  simp only [List.length_cons, List.length_nil] at hl1 hl2 hl5
  have e1 := h.site; have e2 := h.seq; have e3 := h.kind; have e4 := h.of_; have e5 := h.num; have e6 := h.gen; have e7 := h.after
  have e8 : okN (o.gone.length : Int) := ⟨by omega, by omega⟩
  have l1 : (numsN [o.site, o.seq, o.kind]).length + (numsN [o.of_, o.num, o.gen]).length ≤ 9223372036854775807 := by omega
  have l2 : o.text.length < 140737488355328 := by omega
  have e9 : elemN { site := o.after.site, seq := o.after.seq, i := o.after.i } = elemN o.after := rfl
  cases c : decide (o.kind = 2)
  rotate_left
  · have e10 : spellN o = headN o ++ numsN [o.of_, o.num, o.gen] := by rw [spellN, if_pos (of_decide_eq_true c)]
    simp -implicitDefEqProofs (maxSteps := 400000) (maxDischargeDepth := 6) [s34, opRow, dec_n3, e1, e2, e3, e4, e5, e6, c, l1, e10, headN]
  · have e10 : spellN o = headN o ++ midN o ++ o.gone.flatMap elemN := by rw [spellN, if_neg (of_decide_eq_false c)]
    have l3 : (elemN o.after).length + ((bytesN o.text.length).length + o.text.length) ≤ 9223372036854775807 := by omega
    have l4 : (elemN o.after).length + ((bytesN o.text.length).length + (o.text.length + (numsN [(o.gone.length : Int)]).length)) ≤ 9223372036854775807 := by omega
    have l5 : (numsN [o.site, o.seq, o.kind]).length + ((elemN o.after).length + ((bytesN o.text.length).length + (o.text.length + (numsN [(o.gone.length : Int)]).length))) ≤ 9223372036854775807 := by omega
    simp -implicitDefEqProofs (maxSteps := 400000) (maxDischargeDepth := 6) [s34, opRow, dec_n3, dec_n1, e1, e2, e3, e7, e8, c, l2, l3, l4, l5, e9]
    refine ⟨by omega, ?_⟩
    have lm : (headN o ++ midN o).length ≤ 1000200 := by simp -implicitDefEqProofs (maxSteps := 400000) (maxDischargeDepth := 6) [headN, midN]; omega
    refine loop_n (fun n st => ∃ i : Nat, i ≤ o.gone.length ∧ n = o.gone.length - i ∧ st.s 3 = .c (.str (headN o ++ midN o ++ (o.gone.take i).flatMap elemN)) ∧ st.s 43 = .c (.sl .brw false (rowsE o.gone)) ∧ st.s 44 = .c (.raw (.int .i64 o.gone.length)) ∧ st.s 45 = .c (.raw (.int .i64 i)) ∧ Fresh st.H st.T) o.gone.length ?_ ?_
    · refine ⟨0, by omega, by omega, ?_⟩
      simp -implicitDefEqProofs (maxSteps := 400000) (maxDischargeDepth := 6) [headN, midN]
      (repeat' (first | exact fresh_no.mono (Nat.zero_le _) | (refine Fresh.set' ?_ (by simp))))
    rintro n st ⟨i, hi, rfl, h3, h43, h44, h45, hf⟩
    have hfu : ∀ k d, st.T ≤ k → st.H (k, d) = .unborn := hf
    by_cases hlt : i < o.gone.length
    · have hlt' : (i : Int) < o.gone.length := by omega
      have hw : IntKind.wrap .i64 ((i : Int) + 1) = ((i + 1 : Nat) : Int) := by rw [wrap64_id] <;> omega
      have hg : okE o.gone[i] := h.gone _ (List.getElem_mem hlt)
      have hg' : elemN { site := o.gone[i].site, seq := o.gone[i].seq, i := o.gone[i].i } = elemN o.gone[i] := rfl
      have hg2 : okE { site := o.gone[i].site, seq := o.gone[i].seq, i := o.gone[i].i } := hg
      have g1 := flat_len (o.gone.take i)
      rw [List.length_take] at g1
      have g2 := elemN_len o.gone[i]
      generalize hX : headN o ++ midN o ++ (o.gone.take i).flatMap elemN = X at h3
      have hXl : X.length + (elemN o.gone[i]).length ≤ 9223372036854775807 := by rw [← hX, List.length_append]; omega
      simp -implicitDefEqProofs (maxSteps := 400000) (maxDischargeDepth := 6) [s34L0, h3, h43, h44, h45, hlt, hlt', hw, hfu, hg2, hg', hXl]
      refine ⟨_, ?_, i + 1, by omega, rfl, ?_, rfl, ?_⟩
      · omega
      · rw [← hX, ← List.take_append_getElem hlt, List.flatMap_append]
        simp -implicitDefEqProofs (maxSteps := 400000) (maxDischargeDepth := 6)
      · repeat' (first | exact hf.mono (by first | omega | (simp <;> omega)) | (refine Fresh.set' ?_ (by first | omega | (simp <;> omega))))
    · have : i = o.gone.length := by omega
      subst this
      simp -implicitDefEqProofs (maxSteps := 400000) (maxDischargeDepth := 6) [s34L0, h3, h43, h44, h45, e10]

end Go.AE

/- A reader of bytes: calls that turn it. -/
set_option linter.unusedVariables false
set_option linter.unusedSimpArgs false
set_option maxHeartbeats 4000000
set_option maxRecDepth 100000
namespace Go.AE
open Go Go.Proofs

structure RdV where
  s : List UInt8
  bad : Bool

def rdrRow (r : RdV) : List AC := [.str r.s, .raw (.bool r.bad)]

def rdG {α : Type} (C : RdV → Prop) (f : RdV → α × RdV) (out : α → AV) : List AC → List AV → Option (Prop × List AC × AV) := fun row rest =>
  match row, rest with
  | [.str s, .raw (.bool b)], [] => some (C ⟨s, b⟩, rdrRow (f ⟨s, b⟩).2, out (f ⟨s, b⟩).1)
  | _, _ => none
@[simp] theorem rdG_go {α : Type} {C : RdV → Prop} {f : RdV → α × RdV} {out : α → AV} {s : List UInt8} {b : Bool} :
    rdG C f out [.str s, .raw (.bool b)] [] = some (C ⟨s, b⟩, rdrRow (f ⟨s, b⟩).2, out (f ⟨s, b⟩).1) := rfl

theorem rd_tells {F : CT} (hF : CTok Tryz.prog F) {e : TypeId} {f : FuncId} {fn : Func} {s : SC} {α : Type} {C : RdV → Prop} {g : RdV → α × RdV} {out : α → AV} (hf : Tryz.prog.funcs[f]? = some fn) (hs : slimK fn.body s = some (unK s, true))
    (hok : fnOK calmB fn 0 = true) (hn : Nat.ble 1 fn.ntmps = true) (hout : ∀ a, ∀ c ∈ (out a).flat, RetC c)
    (h : ∀ (H : Heap) (T : Nat) (id : Id) (r : RdV), H id = .arr e 2 false [rdrRow r] → Fresh H T → C r →
      awpS Tryz.prog F s (finG Tryz.prog fn fun res H' => exV H' res (out (g r).1) ∧ (soIds res.flat).Nodup ∧ (∀ i ∈ soIds res.flat, H i = .unborn) ∧ SameBut [id] H H' ∧ H' id = .arr e 2 false [rdrRow (g r).2]) (startS H T [.c (.pt id 0 0)])) :
    MTells Tryz.prog f (mh1 e 2 (rdG C g out)) := by
  have inv : ∀ {row rest q}, rdG C g out row rest = some q → ∃ r : RdV, row = rdrRow r ∧ rest = [] ∧ q = (C r, rdrRow (g r).2, out (g r).1) := by
    intro row rest q hq
    unfold rdG at hq
    split at hq
    · cases hq
      exact ⟨⟨_, _⟩, rfl, rfl, rfl⟩
    · cases hq
  refine mtells1 mixed hF hf hs hok (fun row rest q hq => ?_) fun H T id row rest q hid hfr hq hC => ?_
  · obtain ⟨r, rfl, rfl, rfl⟩ := inv hq
    refine ⟨hn, hout _, fun c hc id => ?_⟩
    simp -implicitDefEqProofs (maxSteps := 400000) (maxDischargeDepth := 6) [rdrRow] at hc
    rcases hc with rfl | rfl <;> simp -implicitDefEqProofs (maxSteps := 400000) (maxDischargeDepth := 6)
  · obtain ⟨r, rfl, rfl, rfl⟩ := inv hq
    exact h H T id r hid hfr hC

def rdNum (r : RdV) : Int × RdV := ((takeR r.s).1, ⟨(takeR r.s).2.1, r.bad || !decide ((takeR r.s).2.2 = 0)⟩)
def rdText (r : RdV) : List UInt8 × RdV := ((takeTextR r.s).1, ⟨(takeTextR r.s).2.1, r.bad || !decide ((takeTextR r.s).2.2 = 0)⟩)
def okR (r : RdV) : Prop := r.s.length < 4611686018427387904
def outN (n : Int) : AV := .c (.raw (.int .i64 n))
def outS (s : List UInt8) : AV := .c (.str s)

def FR0_h72 : List AV → Option (Prop × AV) := t1 (fun s => s.length < 4611686018427387904) fun s : List UInt8 => takeAV s
@[simp] theorem FR0_ap72 {l : List AV} : FR0_h72 l = (t1 (fun s => s.length < 4611686018427387904) fun s : List UInt8 => takeAV s) l := rfl
def FR0_h99 : List AV → Option (Prop × AV) := t1 (fun s => s.length < 4611686018427387904) fun s : List UInt8 => takeTextAV s
@[simp] theorem FR0_ap99 {l : List AV} : FR0_h99 l = (t1 (fun s => s.length < 4611686018427387904) fun s : List UInt8 => takeTextAV s) l := rfl
def FR0 : CT := (72, .pu FR0_h72) :: (99, .pu FR0_h99) :: FP1
theorem FR0_ok : CTok Tryz.prog FR0 := ⟨tells1 fun s h => numTake_ev s h,
  tells1 fun s h => numTakeText_ev s h, FP1_ok⟩
@[simp] theorem FR0_get72 : ctGet FR0 72 = some (.pu FR0_h72) := rfl
@[simp] theorem FR0_get99 : ctGet FR0 99 = some (.pu FR0_h99) := rfl
@[simp] theorem FR0_skip {n : Nat} (h : (n == 72 || n == 99) = false) : ctGet FR0 n = ctGet FP1 n := by
  simp only [Bool.or_eq_false_iff, beq_eq_false_iff_ne, ne_eq] at h
  simp [FR0, ctGet, h]

theorem sameBut_set {id : Id} {H : Heap} {o o' : OK} : SameBut [id] H (hset (hset H id o) id o') := by
  intro i hi hn
  simp -implicitDefEqProofs (maxSteps := 400000) (maxDischargeDepth := 6) at hn
  simp -implicitDefEqProofs (maxSteps := 400000) (maxDischargeDepth := 6) [hset, hn]

theorem rdNum_ev : MTells Tryz.prog 93 (mh1 127 2 (rdG okR rdNum outN)) := by
  refine rd_tells FR0_ok Tryz.func93 sl93 ok93 (by kernel_rfl) (by simp -implicitDefEqProofs (maxSteps := 400000) (maxDischargeDepth := 6) [outN]) fun H T id r hid hf hr => ?_
  obtain ⟨s, bad⟩ := r
  have hr' : s.length < 4611686018427387904 := hr
  have hfu : ∀ k d, T ≤ k → H (k, d) = .unborn := hf
  cases bad
  · simp -implicitDefEqProofs (maxSteps := 400000) (maxDischargeDepth := 6) [s93, hid, hfu, hr', rdrRow, takeAV]
    refine ⟨by simp -implicitDefEqProofs (maxSteps := 400000) (maxDischargeDepth := 6) [outN, rdNum], sameBut_set, rfl, by simp -implicitDefEqProofs (maxSteps := 400000) (maxDischargeDepth := 6) [rdNum]⟩
  · simp -implicitDefEqProofs (maxSteps := 400000) (maxDischargeDepth := 6) [s93, hid, hfu, hr', rdrRow, takeAV]
    refine ⟨by simp -implicitDefEqProofs (maxSteps := 400000) (maxDischargeDepth := 6) [outN, rdNum], sameBut_set, rfl, by simp -implicitDefEqProofs (maxSteps := 400000) (maxDischargeDepth := 6) [rdNum]⟩

theorem rdText_ev : MTells Tryz.prog 95 (mh1 127 2 (rdG okR rdText outS)) := by
  refine rd_tells FR0_ok Tryz.func95 sl95 ok95 (by kernel_rfl) (by simp -implicitDefEqProofs (maxSteps := 400000) (maxDischargeDepth := 6) [outS]) fun H T id r hid hf hr => ?_
  obtain ⟨s, bad⟩ := r
  have hr' : s.length < 4611686018427387904 := hr
  have hfu : ∀ k d, T ≤ k → H (k, d) = .unborn := hf
  cases bad
  · simp -implicitDefEqProofs (maxSteps := 400000) (maxDischargeDepth := 6) [s95, hid, hfu, hr', rdrRow, takeTextAV]
    refine ⟨by simp -implicitDefEqProofs (maxSteps := 400000) (maxDischargeDepth := 6) [outS, rdText], sameBut_set, rfl, by simp -implicitDefEqProofs (maxSteps := 400000) (maxDischargeDepth := 6) [rdText]⟩
  · simp -implicitDefEqProofs (maxSteps := 400000) (maxDischargeDepth := 6) [s95, hid, hfu, hr', rdrRow, takeTextAV]
    refine ⟨by simp -implicitDefEqProofs (maxSteps := 400000) (maxDischargeDepth := 6) [outS, rdText], sameBut_set, rfl, by simp -implicitDefEqProofs (maxSteps := 400000) (maxDischargeDepth := 6) [rdText]⟩

def FR1_h93 : MH := mh1 127 2 (rdG okR rdNum outN)
@[simp] theorem FR1_ap93 {H : Heap} {l : List AV} : FR1_h93 H l = (mh1 127 2 (rdG okR rdNum outN)) H l := rfl
def FR1_h95 : MH := mh1 127 2 (rdG okR rdText outS)
@[simp] theorem FR1_ap95 {H : Heap} {l : List AV} : FR1_h95 H l = (mh1 127 2 (rdG okR rdText outS)) H l := rfl
def FR1 : CT := (93, .mu FR1_h93) :: (95, .mu FR1_h95) :: FR0
theorem FR1_ok : CTok Tryz.prog FR1 := ⟨rdNum_ev,
  rdText_ev, FR0_ok⟩
@[simp] theorem FR1_get93 : ctGet FR1 93 = some (.mu FR1_h93) := rfl
@[simp] theorem FR1_get95 : ctGet FR1 95 = some (.mu FR1_h95) := rfl
@[simp] theorem FR1_skip {n : Nat} (h : (n == 93 || n == 95) = false) : ctGet FR1 n = ctGet FR0 n := by
  simp only [Bool.or_eq_false_iff, beq_eq_false_iff_ne, ne_eq] at h
  simp [FR1, ctGet, h]

def rdElem (r : RdV) : ElemV × RdV :=
  let a := rdNum r
  let b := rdNum a.2
  let c := rdNum b.2
  (⟨a.1, b.1, c.1⟩, c.2)
def outE (e : ElemV) : AV := .g (Enc.row e)

theorem rdNum_ok {r : RdV} (h : okR r) : okR (rdNum r).2 := by
  show (takeR r.s).2.1.length < _
  have h' : r.s.length < 4611686018427387904 := h
  cases hn : takeN r.s with
  | none => simp -implicitDefEqProofs (maxSteps := 400000) (maxDischargeDepth := 6) [takeR, hn]
  | some q =>
    obtain ⟨n, t⟩ := q
    have := (takeN_len hn).2
    simp -implicitDefEqProofs (maxSteps := 400000) (maxDischargeDepth := 6) [takeR, hn]
    omega
theorem rdText_ok {r : RdV} (h : okR r) : okR (rdText r).2 := by
  show (takeTextR r.s).2.1.length < _
  have h' : r.s.length < 4611686018427387904 := h
  cases hn : takeN r.s with
  | none => simp -implicitDefEqProofs (maxSteps := 400000) (maxDischargeDepth := 6) [takeTextR, hn]
  | some q =>
    obtain ⟨n, t⟩ := q
    have := (takeN_len hn).2
    simp only [takeTextR, hn]
    split
    · simp -implicitDefEqProofs (maxSteps := 400000) (maxDischargeDepth := 6); omega
    · simp -implicitDefEqProofs (maxSteps := 400000) (maxDischargeDepth := 6)
theorem rdElem_ok {r : RdV} (h : okR r) : okR (rdElem r).2 := rdNum_ok (rdNum_ok (rdNum_ok h))

theorem rdElem_ev : MTells Tryz.prog 94 (mh1 127 2 (rdG okR rdElem outE)) := by
  refine rd_tells FR1_ok Tryz.func94 sl94 ok94 (by kernel_rfl) (by simp -implicitDefEqProofs (maxSteps := 400000) (maxDischargeDepth := 6) [outE]) fun H T id r hid hf hr => ?_
  obtain ⟨n1, n2, n3⟩ := hf.arr hid
  have hfu : ∀ k d, T ≤ k → H (k, d) = .unborn := hf
  have c1 := rdNum_ok hr
  have c2 := rdNum_ok c1
  obtain ⟨s, bad⟩ := r
  rcases e1 : rdNum ⟨s, bad⟩ with ⟨a1, s1, b1⟩
  rw [e1] at c1 c2
  simp only at c1 c2
  rcases e2 : rdNum ⟨s1, b1⟩ with ⟨a2, s2, b2⟩
  rw [e2] at c2
  simp only at c2
  rcases e3 : rdNum ⟨s2, b2⟩ with ⟨a3, s3, b3⟩
  have e4 : rdElem ⟨s, bad⟩ = (⟨a1, a2, a3⟩, ⟨s3, b3⟩) := by simp -implicitDefEqProofs (maxSteps := 400000) (maxDischargeDepth := 6) [rdElem, e1, e2, e3]
  simp -implicitDefEqProofs (maxSteps := 400000) (maxDischargeDepth := 6) [s94, hid, hfu, hr, c1, c2, e1, e2, e3, e4, rdrRow, outN, outE, n1, n2]
  (repeat' (first | exact SameBut.refl _ _ | assumption | (refine SameBut.set ?_ (by first | (right; simp; done) | (left; simp [hfu]; done) | (left; exact hfu _ _ (by omega)) | (left; assumption)))))

end Go.AE

/- A reader of bytes: ops. -/
set_option linter.unusedVariables false
set_option linter.unusedSimpArgs false
set_option maxHeartbeats 4000000
set_option maxRecDepth 100000
namespace Go.AE
open Go Go.Proofs

def rdElems : Nat → RdV → List ElemV × RdV
  | 0, r => ([], r)
  | n + 1, r => ((rdElems n r).1 ++ [(rdElem (rdElems n r).2).1], (rdElem (rdElems n r).2).2)

def rdOp (r : RdV) : OpV × RdV :=
  let a := rdNum r
  let b := rdNum a.2
  let c := rdNum b.2
  if c.1 = 2 then
    let d := rdNum c.2
    let e := rdNum d.2
    let f := rdNum e.2
    (⟨a.1, b.1, c.1, ⟨0, 0, 0⟩, [], [], d.1, e.1, f.1⟩, ⟨f.2.s, f.2.bad || !opMayB ⟨a.1, b.1, c.1, ⟨0, 0, 0⟩, [], [], d.1, e.1, f.1⟩⟩)
  else
    let d := rdElem c.2
    let e := rdText d.2
    let f := rdNum e.2
    let g := rdElems (min f.1.toNat 200) f.2
    (⟨a.1, b.1, c.1, d.1, e.1, g.1, 0, 0, 0⟩, ⟨g.2.s, g.2.bad || decide (200 < f.1) || !opMayB ⟨a.1, b.1, c.1, d.1, e.1, g.1, 0, 0, 0⟩⟩)

/-- An op whose row of those that go is new. -/
def opRowW (c : AC) (o : OpV) : List AC :=
  [.raw (.int .i64 o.site), .raw (.int .i64 o.seq), .raw (.int .i64 o.kind), .raw (.int .i64 o.after.site), .raw (.int .i64 o.after.seq), .raw (.int .i64 o.after.i), .str o.text, c, .raw (.int .i64 o.of_), .raw (.int .i64 o.num), .raw (.int .i64 o.gen)]
def outO (o : OpV) : AV := .g (opRowW (.nw 38 3 (rowsE o.gone)) o)

def FR2_h94 : MH := mh1 127 2 (rdG okR rdElem outE)
@[simp] theorem FR2_ap94 {H : Heap} {l : List AV} : FR2_h94 H l = (mh1 127 2 (rdG okR rdElem outE)) H l := rfl
def FR2 : CT := (94, .mu FR2_h94) :: FR1
theorem FR2_ok : CTok Tryz.prog FR2 := ⟨rdElem_ev, FR1_ok⟩
@[simp] theorem FR2_get94 : ctGet FR2 94 = some (.mu FR2_h94) := rfl
@[simp] theorem FR2_skip {n : Nat} (h : (n == 94) = false) : ctGet FR2 n = ctGet FR1 n := by
  simp only [Bool.or_eq_false_iff, beq_eq_false_iff_ne, ne_eq] at h
  simp [FR2, ctGet, h]

theorem rdElems_ok {r : RdV} (h : okR r) : ∀ n, okR (rdElems n r).2 ∧ (rdElems n r).1.length = n
  | 0 => ⟨h, rfl⟩
  | n + 1 => by
    obtain ⟨h1, h2⟩ := rdElems_ok h n
    exact ⟨rdElem_ok h1, by simp -implicitDefEqProofs (maxSteps := 400000) (maxDischargeDepth := 6) [rdElems, h2]⟩

theorem rdNum_nn (r : RdV) : 0 ≤ (rdNum r).1 ∧ (rdNum r).1 ≤ 268435456 := by
  simp only [rdNum, takeR]
  cases hn : takeN r.s with
  | none => simp -implicitDefEqProofs (maxSteps := 400000) (maxDischargeDepth := 6)
  | some q =>
    obtain ⟨n, t⟩ := q
    have := (takeN_len hn).1
    simp -implicitDefEqProofs (maxSteps := 400000) (maxDischargeDepth := 6)
    omega
theorem rdText_len {r : RdV} (h : okR r) : (rdText r).1.length < 4611686018427387904 := by
  show (takeTextR r.s).1.length < _
  have h' : r.s.length < 4611686018427387904 := h
  cases hn : takeN r.s with
  | none => simp -implicitDefEqProofs (maxSteps := 400000) (maxDischargeDepth := 6) [takeTextR, hn]
  | some q =>
    obtain ⟨n, t⟩ := q
    have := (takeN_len hn).2
    simp only [takeTextR, hn]
    split
    · simp -implicitDefEqProofs (maxSteps := 400000) (maxDischargeDepth := 6); omega
    · simp -implicitDefEqProofs (maxSteps := 400000) (maxDischargeDepth := 6)

theorem rdOp_ev : MTells Tryz.prog 86 (mh1 127 2 (rdG okR rdOp outO)) := by
  refine rd_tells FR2_ok Tryz.func86 sl86 ok86 (by kernel_rfl) (by simp -implicitDefEqProofs (maxSteps := 400000) (maxDischargeDepth := 6) [outO, opRowW]) fun H T id r hid hf hr => ?_
  obtain ⟨n1, n2, n3⟩ := hf.arr hid
  have hfu : ∀ k d, T ≤ k → H (k, d) = .unborn := hf
  have c1 := rdNum_ok hr
  have c2 := rdNum_ok c1
  have c3 := rdNum_ok c2
  obtain ⟨s, bad⟩ := r
  rcases e1 : rdNum ⟨s, bad⟩ with ⟨a1, s1, b1⟩
  rw [e1] at c1 c2 c3
  simp only at c1 c2 c3
  rcases e2 : rdNum ⟨s1, b1⟩ with ⟨a2, s2, b2⟩
  rw [e2] at c2 c3
  simp only at c2 c3
  rcases e3 : rdNum ⟨s2, b2⟩ with ⟨a3, s3, b3⟩
  rw [e3] at c3
  simp only at c3
  cases k : decide (a3 = 2)
  rotate_left
  · have k' := of_decide_eq_true k
    have c4 := rdNum_ok c3
    have c5 := rdNum_ok c4
    rcases e4 : rdNum ⟨s3, b3⟩ with ⟨a4, s4, b4⟩
    rw [e4] at c4 c5
    simp only at c4 c5
    rcases e5 : rdNum ⟨s4, b4⟩ with ⟨a5, s5, b5⟩
    rw [e5] at c5
    simp only at c5
    rcases e6 : rdNum ⟨s5, b5⟩ with ⟨a6, s6, b6⟩
    generalize ho : (⟨a1, a2, a3, ⟨0, 0, 0⟩, [], [], a4, a5, a6⟩ : OpV) = o
    have hoo : okO o := by subst ho; exact ⟨by simp -implicitDefEqProofs (maxSteps := 400000) (maxDischargeDepth := 6), by simp -implicitDefEqProofs (maxSteps := 400000) (maxDischargeDepth := 6)⟩
    have e7 : rdOp ⟨s, bad⟩ = (o, ⟨s6, b6 || !opMayB o⟩) := by subst ho; simp -implicitDefEqProofs (maxSteps := 400000) (maxDischargeDepth := 6) [rdOp, e1, e2, e3, e4, e5, e6, k']
    cases b6
    · simp -implicitDefEqProofs (maxSteps := 400000) (maxDischargeDepth := 6) [s86, hid, hfu, hr, c1, c2, c3, c4, c5, e1, e2, e3, e4, e5, e6, e7, rdrRow, outN, outE, outO, n1, n2, k, ho, hoo]
      refine ⟨by subst ho; simp -implicitDefEqProofs (maxSteps := 400000) (maxDischargeDepth := 6) [opRowW], ?_⟩
      (repeat' (first | exact SameBut.refl _ _ | assumption | (refine SameBut.set ?_ (by first | (right; simp; done) | (left; simp [hfu]; done) | (left; exact hfu _ _ (by omega)) | (left; assumption)))))
    · simp -implicitDefEqProofs (maxSteps := 400000) (maxDischargeDepth := 6) [s86, hid, hfu, hr, c1, c2, c3, c4, c5, e1, e2, e3, e4, e5, e6, e7, rdrRow, outN, outE, outO, n1, n2, k, ho, hoo]
      refine ⟨by subst ho; simp -implicitDefEqProofs (maxSteps := 400000) (maxDischargeDepth := 6) [opRowW], ?_⟩
      (repeat' (first | exact SameBut.refl _ _ | assumption | (refine SameBut.set ?_ (by first | (right; simp; done) | (left; simp [hfu]; done) | (left; exact hfu _ _ (by omega)) | (left; assumption)))))
  · have k' : ¬ a3 = 2 := of_decide_eq_false k
    have c4 := rdElem_ok c3
    have c5 := rdText_ok c4
    have c6 := rdNum_ok c5
    have lt := rdText_len c4
    rcases e4 : rdElem ⟨s3, b3⟩ with ⟨⟨x1, x2, x3⟩, s4, b4⟩
    rw [e4] at c4 c5 c6 lt
    simp only at c4 c5 c6 lt
    rcases e5 : rdText ⟨s4, b4⟩ with ⟨tx, s5, b5⟩
    rw [e5] at c5 c6 lt
    simp only at c5 c6 lt
    obtain ⟨hn0, hn1⟩ := rdNum_nn ⟨s5, b5⟩
    rcases e6 : rdNum ⟨s5, b5⟩ with ⟨n, s6, b6⟩
    rw [e6] at c6 hn0 hn1
    simp only at c6 hn0 hn1
    obtain ⟨m, hm⟩ : ∃ m, m = min n.toNat 200 := ⟨_, rfl⟩
    have hmi : (if 200 < n then (200 : Int) else n) = (m : Int) := by split <;> omega
    have hm2 : m ≤ 200 := by omega
    generalize ho : (⟨a1, a2, a3, ⟨x1, x2, x3⟩, tx, (rdElems m ⟨s6, b6⟩).1, 0, 0, 0⟩ : OpV) = o
    obtain ⟨cm, lm⟩ := rdElems_ok c6 m
    have hoo : okO o := by subst ho; exact ⟨lt, by show (rdElems m ⟨s6, b6⟩).1.length < _; omega⟩
    have e7 : rdOp ⟨s, bad⟩ = (o, ⟨(rdElems m ⟨s6, b6⟩).2.s, (rdElems m ⟨s6, b6⟩).2.bad || decide (200 < n) || !opMayB o⟩) := by simp -implicitDefEqProofs (maxSteps := 400000) (maxDischargeDepth := 6) [rdOp, e1, e2, e3, e4, e5, e6, k', ho, ← hm]
    simp -implicitDefEqProofs (maxSteps := 400000) (maxDischargeDepth := 6) [s86, hid, hfu, hr, c1, c2, c3, c4, c5, c6, e1, e2, e3, e4, e5, e6, e7, rdrRow, outN, outE, outO, outS, n1, n2, k, hmi]
    obtain ⟨r6, hr6⟩ : ∃ r6 : RdV, r6 = ⟨s6, b6⟩ := ⟨_, rfl⟩
    rw [← hr6] at ho cm lm e7 c6 ⊢
    refine loop_n (fun q st => ∃ (i : Nat) (g : AC), i ≤ m ∧ q = m - i ∧ st.s 0 = .c (.pt id 0 0) ∧ st.s 2 = .c (.pt (T, 2) 0 0) ∧ st.s 3 = .c (.pt (T + 1, 3) 0 0) ∧ st.s 4 = .c (.raw (.int .i64 n)) ∧ st.s 33 = .c (.raw (.int .i64 m)) ∧ st.s 34 = .c (.raw (.int .i64 i)) ∧
      st.H id = .arr 127 2 false [rdrRow (rdElems i r6).2] ∧ st.H (T, 2) = .arr 40 11 false [opRowW (.raw (.slice none 0 0)) ⟨0, 0, 0, ⟨0, 0, 0⟩, [], [], 0, 0, 0⟩] ∧ st.H (T + 1, 3) = .arr 40 11 false [opRowW g ⟨a1, a2, a3, ⟨x1, x2, x3⟩, tx, [], 0, 0, 0⟩] ∧
      ((g = .raw (.slice none 0 0) ∧ i = 0) ∨ ∃ j, g = .so j 0 i ∧ H j = .unborn ∧ st.H j = .arr 38 3 false (rowsE (rdElems i r6).1)) ∧ SameBut [id] H st.H ∧ T + 1 < st.T ∧ Fresh st.H st.T) m ?_ ?_
    · refine ⟨0, .raw (.slice none 0 0), by omega, by omega, ?_⟩
      simp -implicitDefEqProofs (maxSteps := 400000) (maxDischargeDepth := 6) [n1, n2, hid, rdElems, rdrRow, opRowW, hr6]
      refine ⟨?_, ?_⟩
      · (repeat' (first | exact SameBut.refl _ _ | assumption | (refine SameBut.set ?_ (by first | (right; simp; done) | (left; simp [hfu]; done) | (left; exact hfu _ _ (by omega)) | (left; assumption)))))
      · repeat' (first | exact hf.mono (by first | omega | (simp <;> omega)) | (refine Fresh.set' ?_ (by first | omega | (simp <;> omega))))
    rintro q st ⟨i, g, hi, rfl, q0, q2, q3, q4, q33, q34, h1, h2, h3, hg, hsb, hT, hf'⟩
    have hfu' : ∀ k d, st.T ≤ k → st.H (k, d) = .unborn := hf'
    obtain ⟨ci, li⟩ := rdElems_ok c6 i
    rcases er : (rdElems i r6).2 with ⟨si, bi⟩
    rw [er] at h1 ci
    by_cases hlt : i < m
    · have hlt' : (i : Int) < m := by omega
      have hw : IntKind.wrap .i64 ((i : Int) + 1) = ((i + 1 : Nat) : Int) := by rw [wrap64_id] <;> omega
      rcases e8 : rdElem ⟨si, bi⟩ with ⟨⟨y1, y2, y3⟩, s9, b9⟩
      obtain ⟨p1, p2, p3⟩ := hf'.arr h1
      obtain ⟨p4, p5, p6⟩ := hf'.arr h3
      have e9 : (rdElems (i + 1) r6) = ((rdElems i r6).1 ++ [⟨y1, y2, y3⟩], ⟨s9, b9⟩) := by simp -implicitDefEqProofs (maxSteps := 400000) (maxDischargeDepth := 6) [rdElems, er, e8]
      have ht : rowsE (rdElems (i + 1) r6).1 = rowsE (rdElems i r6).1 ++ [Enc.row (⟨y1, y2, y3⟩ : ElemV)] := by rw [e9, rowsE_snoc]
      have d1 := n2 (T + 1) 3 (by omega)
      have d2 := n1 (T + 1) 3 (by omega)
      rcases hg with ⟨rfl, rfl⟩ | ⟨j, rfl, hju, hj⟩
      · simp -implicitDefEqProofs (maxSteps := 400000) (maxDischargeDepth := 6) [s86L0, q0, q2, q3, q4, q33, q34, h1, h2, h3, hlt, hlt', hw, hfu', ci, e8, outE, rdrRow, opRowW, p1, p2, p4, p5, d1, d2]
        refine ⟨fun a a1 b ha hid => ?_, m - 1, by omega, 1, by omega, rfl, rfl, ?_, by rw [n1 T 2 (Nat.le_refl _)]; simp -implicitDefEqProofs (maxSteps := 400000) (maxDischargeDepth := 6), ⟨_, _, ⟨⟨rfl, rfl⟩, rfl⟩, hfu _ _ (by omega), ?_⟩, ?_⟩
        · subst hid
          simp only at n3
          refine ⟨by omega, ?_⟩
          rintro u v (⟨rfl, rfl⟩ | ⟨rfl, rfl⟩) _ <;> simp -implicitDefEqProofs (maxSteps := 400000) (maxDischargeDepth := 6) <;> omega
        · have := e9
          simp -implicitDefEqProofs (maxSteps := 400000) (maxDischargeDepth := 6) at this
          rw [this]
          exact ⟨rfl, rfl⟩
        · simp -implicitDefEqProofs (maxSteps := 400000) (maxDischargeDepth := 6) at ht
          rw [ht]
          simp -implicitDefEqProofs (maxSteps := 400000) (maxDischargeDepth := 6) [rdElems]
        · refine ⟨?_, by omega, ?_⟩
          · (repeat' (first | exact SameBut.refl _ _ | assumption | (refine SameBut.set ?_ (by first | (right; simp; done) | (left; simp [hfu]; done) | (left; exact hfu _ _ (by omega)) | (left; assumption)))))
          · have hf := hf'
            repeat' (first | exact hf.mono (by first | omega | (simp <;> omega)) | (refine Fresh.set' ?_ (by first | omega | (simp <;> omega))))
      · obtain ⟨p7, p8, p9⟩ := hf'.arr hj
        have ne : ∀ {x : Id} {e sz : Nat} {f : Bool} {rows : List (List AC)}, st.H x = .arr e sz f rows → e ≠ 38 → (j = x) = False ∧ (x = j) = False := by
          intro x e sz f rows hx he
          constructor
          · simp -implicitDefEqProofs (maxSteps := 400000) (maxDischargeDepth := 6); rintro rfl; rw [hx] at hj; simp -implicitDefEqProofs (maxSteps := 400000) (maxDischargeDepth := 6) at hj; exact he hj.1
          · simp -implicitDefEqProofs (maxSteps := 400000) (maxDischargeDepth := 6); rintro rfl; rw [hx] at hj; simp -implicitDefEqProofs (maxSteps := 400000) (maxDischargeDepth := 6) at hj; exact he hj.1
        obtain ⟨g1, g2⟩ := ne h1 (by decide)
        obtain ⟨g3, g4⟩ := ne h2 (by decide)
        obtain ⟨g5, g6⟩ := ne h3 (by decide)
        simp -implicitDefEqProofs (maxSteps := 400000) (maxDischargeDepth := 6) [s86L0, q0, q2, q3, q4, q33, q34, h1, h2, h3, hlt, hlt', hw, hfu', ci, e8, outE, rdrRow, opRowW, p1, p2, p4, p5, d1, d2, hj, p7, p8, g1, g2, g3, g4, g5, g6, li]
        refine ⟨⟨by omega, by omega⟩, fun a a1 b ha hid => ?_, m - (i + 1), by omega, i + 1, by omega, rfl, rfl, ?_, by rw [n1 T 2 (Nat.le_refl _)]; simp -implicitDefEqProofs (maxSteps := 400000) (maxDischargeDepth := 6), ⟨_, _, ⟨⟨rfl, rfl⟩, rfl⟩, hfu _ _ (by omega), ?_⟩, ?_⟩
        · subst hid
          simp only at n3
          refine ⟨by omega, ?_⟩
          rintro u v (⟨rfl, rfl⟩ | ⟨rfl, rfl⟩) _ <;> simp -implicitDefEqProofs (maxSteps := 400000) (maxDischargeDepth := 6) <;> omega
        · rw [e9]
          exact ⟨rfl, rfl⟩
        · rw [ht]
          simp -implicitDefEqProofs (maxSteps := 400000) (maxDischargeDepth := 6)
        · refine ⟨?_, by omega, ?_⟩
          · (repeat' (first | exact SameBut.refl _ _ | assumption | (refine SameBut.set ?_ (by first | (right; simp; done) | (left; simp [hfu]; done) | (left; exact hfu _ _ (by omega)) | (left; assumption)))))
          · have hf := hf'
            repeat' (first | exact hf.mono (by first | omega | (simp <;> omega)) | (refine Fresh.set' ?_ (by first | omega | (simp <;> omega))))
    · have : i = m := by omega
      subst this
      have hf0 := hf
      have d3 : ((T, 2) = id) = False := n1 T 2 (Nat.le_refl _)
      have d4 : (id = (T, 2)) = False := n2 T 2 (Nat.le_refl _)
      obtain ⟨p1, p2, p3⟩ := hf'.arr h1
      have d1 := n2 (T + 1) 3 (by omega)
      have d2 := n1 (T + 1) 3 (by omega)
      rw [er] at e7
      have og : o.gone = (rdElems i r6).1 := by rw [← ho]
      rcases hg with ⟨rfl, rfl⟩ | ⟨j, rfl, hju, hj⟩
      · have ho' : (⟨a1, a2, a3, ⟨x1, x2, x3⟩, tx, [], 0, 0, 0⟩ : OpV) = o := by rw [← ho]; rfl
        have hx : (rowsE o.gone) = [] := by rw [og]; rfl
        cases c : (bi || decide (200 < n))
        · obtain ⟨c1, c2⟩ := Bool.or_eq_false_iff.1 c
          subst c1
          simp -implicitDefEqProofs (maxSteps := 400000) (maxDischargeDepth := 6) [s86L0, er, q0, q2, q3, q4, q33, q34, h1, h2, h3, hfu', rdrRow, opRowW, p1, p2, d1, d2, d3, d4, c2, ho', hoo, hx]
          refine ⟨by rw [← ho]; simp -implicitDefEqProofs (maxSteps := 400000) (maxDischargeDepth := 6), ?_⟩
          (repeat' (first | exact SameBut.refl _ _ | assumption | (refine SameBut.set ?_ (by first | (right; simp; done) | (left; simp [hfu]; done) | (left; exact hfu _ _ (by omega)) | (left; assumption)))))
        · cases bi
          · simp only [Bool.false_or] at c
            simp -implicitDefEqProofs (maxSteps := 400000) (maxDischargeDepth := 6) [s86L0, er, q0, q2, q3, q4, q33, q34, h1, h2, h3, hfu', rdrRow, opRowW, p1, p2, d1, d2, d3, d4, c, ho', hoo, hx]
            refine ⟨by rw [← ho]; simp -implicitDefEqProofs (maxSteps := 400000) (maxDischargeDepth := 6), ?_⟩
            (repeat' (first | exact SameBut.refl _ _ | assumption | (refine SameBut.set ?_ (by first | (right; simp; done) | (left; simp [hfu]; done) | (left; exact hfu _ _ (by omega)) | (left; assumption)))))
          · simp -implicitDefEqProofs (maxSteps := 400000) (maxDischargeDepth := 6) [s86L0, er, q0, q2, q3, q4, q33, q34, h1, h2, h3, hfu', rdrRow, opRowW, p1, p2, d1, d2, d3, d4, ho', hoo, hx]
            refine ⟨by rw [← ho]; simp -implicitDefEqProofs (maxSteps := 400000) (maxDischargeDepth := 6), ?_⟩
            (repeat' (first | exact SameBut.refl _ _ | assumption | (refine SameBut.set ?_ (by first | (right; simp; done) | (left; simp [hfu]; done) | (left; exact hfu _ _ (by omega)) | (left; assumption)))))
      · have ho' : (⟨a1, a2, a3, ⟨x1, x2, x3⟩, tx, (rdElems i r6).1, 0, 0, 0⟩ : OpV) = o := ho
        obtain ⟨p7, p8, p9⟩ := hf'.arr hj
        have ne : ∀ {x : Id} {e sz : Nat} {f : Bool} {rows : List (List AC)}, st.H x = .arr e sz f rows → e ≠ 38 → (j = x) = False ∧ (x = j) = False := by
          intro x e sz f rows hx he
          constructor
          · simp -implicitDefEqProofs (maxSteps := 400000) (maxDischargeDepth := 6); rintro rfl; rw [hx] at hj; simp -implicitDefEqProofs (maxSteps := 400000) (maxDischargeDepth := 6) at hj; exact he hj.1
          · simp -implicitDefEqProofs (maxSteps := 400000) (maxDischargeDepth := 6); rintro rfl; rw [hx] at hj; simp -implicitDefEqProofs (maxSteps := 400000) (maxDischargeDepth := 6) at hj; exact he hj.1
        have htk : List.take i (rowsE (rdElems i r6).1) = rowsE (rdElems i r6).1 := List.take_of_length_le (by simp -implicitDefEqProofs (maxSteps := 400000) (maxDischargeDepth := 6) [rowsE, li])
        obtain ⟨g1, g2⟩ := ne h1 (by decide)
        obtain ⟨g3, g4⟩ := ne h2 (by decide)
        obtain ⟨g5, g6⟩ := ne h3 (by decide)
        cases c : (bi || decide (200 < n))
        · obtain ⟨c1, c2⟩ := Bool.or_eq_false_iff.1 c
          subst c1
          simp -implicitDefEqProofs (maxSteps := 400000) (maxDischargeDepth := 6) [s86L0, er, q0, q2, q3, q4, q33, q34, h1, h2, h3, hfu', rdrRow, opRowW, p1, p2, d1, d2, d3, d4, c2, ho', hoo, hj, p7, p8, g1, g2, g3, g4, g5, g6, li, og, htk]
          refine ⟨by rw [← ho]; simp -implicitDefEqProofs (maxSteps := 400000) (maxDischargeDepth := 6), fun a b h => by rw [h]; exact hju, ?_⟩
          (repeat' (first | exact SameBut.refl _ _ | assumption | (refine SameBut.set ?_ (by first | (right; simp; done) | (left; simp [hfu]; done) | (left; exact hfu _ _ (by omega)) | (left; assumption)))))
        · cases bi
          · simp only [Bool.false_or] at c
            simp -implicitDefEqProofs (maxSteps := 400000) (maxDischargeDepth := 6) [s86L0, er, q0, q2, q3, q4, q33, q34, h1, h2, h3, hfu', rdrRow, opRowW, p1, p2, d1, d2, d3, d4, c, ho', hoo, hj, p7, p8, g1, g2, g3, g4, g5, g6, li, og, htk]
            refine ⟨by rw [← ho]; simp -implicitDefEqProofs (maxSteps := 400000) (maxDischargeDepth := 6), fun a b h => by rw [h]; exact hju, ?_⟩
            (repeat' (first | exact SameBut.refl _ _ | assumption | (refine SameBut.set ?_ (by first | (right; simp; done) | (left; simp [hfu]; done) | (left; exact hfu _ _ (by omega)) | (left; assumption)))))
          · simp -implicitDefEqProofs (maxSteps := 400000) (maxDischargeDepth := 6) [s86L0, er, q0, q2, q3, q4, q33, q34, h1, h2, h3, hfu', rdrRow, opRowW, p1, p2, d1, d2, d3, d4, ho', hoo, hj, p7, p8, g1, g2, g3, g4, g5, g6, li, og, htk]
            refine ⟨by rw [← ho]; simp -implicitDefEqProofs (maxSteps := 400000) (maxDischargeDepth := 6), fun a b h => by rw [h]; exact hju, ?_⟩
            (repeat' (first | exact SameBut.refl _ _ | assumption | (refine SameBut.set ?_ (by first | (right; simp; done) | (left; simp [hfu]; done) | (left; exact hfu _ _ (by omega)) | (left; assumption)))))

end Go.AE

/- The disk's helpers: numbers, blanks. -/
set_option linter.unusedVariables false
set_option linter.unusedSimpArgs false
set_option maxHeartbeats 2000000
namespace Go.AE
open Go Go.Proofs

theorem num31_ev (n hi : Int) : PEv Tryz.prog 28 [.c (.raw (.int .i64 n)), .c (.raw (.int .i64 hi))] (.c (.raw (.bool (decide (0 ≤ n) && decide (n ≤ hi))))) := by
  refine tells_of mixed F1_ok Tryz.func28 sl28 ok28 (by kernel_rfl) (by simp -implicitDefEqProofs) (by simp -implicitDefEqProofs) ?_
  simp -implicitDefEqProofs [s28]
  omega

/-- i modulo n, as a whole number without sign. -/
def within (i n : Int) : Int := (i % 18446744073709551616) % n

theorem wrapU_id {n : Int} (h1 : 0 ≤ n) (h2 : n < 18446744073709551616) : IntKind.wrap .u64 n = n := by
  have : IntKind.wrap .u64 n = n % 18446744073709551616 := by simp -implicitDefEqProofs [IntKind.wrap, IntKind.bits, IntKind.signed]
  rw [this]; omega
theorem wrapU {n : Int} : IntKind.wrap .u64 n = n % 18446744073709551616 := by simp -implicitDefEqProofs [IntKind.wrap, IntKind.bits, IntKind.signed]

theorem bytes_zero (n : Nat) : bytesAC (List.replicate n [AC.raw (.int .u8 0)]) = some (List.replicate n 0) := by
  induction n with
  | zero => rfl
  | succ n ih => simp -implicitDefEqProofs [List.replicate_succ, ih]

def blank : List UInt8 := List.replicate 32 0

theorem zeros_ev (n : Nat) (h : n ≤ 1000000) : PEv Tryz.prog 20 [.c (.raw (.int .i64 n))] (.c (.str (List.replicate n 0))) := by
  refine tells_of mixed F1_ok Tryz.func20 sl20 ok20 (by kernel_rfl) (by simp -implicitDefEqProofs) (by simp -implicitDefEqProofs) ?_
  simp -implicitDefEqProofs [s20, bytes_zero]
  omega

theorem zerosI_ev (n : Int) (h : 0 ≤ n ∧ n ≤ 1000000) : PEv Tryz.prog 20 [.c (.raw (.int .i64 n))] (.c (.str (List.replicate n.toNat 0))) := by
  have := zeros_ev n.toNat (by omega)
  rw [Int.toNat_of_nonneg h.1] at this
  exact this

def F2_h28 : List AV → Option (Prop × AV) := t2 (fun _ _ => True) fun n hi : Int => .c (.raw (.bool (decide (0 ≤ n) && decide (n ≤ hi))))
@[simp] theorem F2_ap28 {l : List AV} : F2_h28 l = (t2 (fun _ _ => True) fun n hi : Int => .c (.raw (.bool (decide (0 ≤ n) && decide (n ≤ hi))))) l := rfl
def F2_h20 : List AV → Option (Prop × AV) := t1 (fun n => 0 ≤ n ∧ n ≤ 1000000) fun n : Int => .c (.str (List.replicate n.toNat 0))
@[simp] theorem F2_ap20 {l : List AV} : F2_h20 l = (t1 (fun n => 0 ≤ n ∧ n ≤ 1000000) fun n : Int => .c (.str (List.replicate n.toNat 0))) l := rfl
def F2_h14 : List AV → Option (Prop × AV) := t1 (fun d => d.safe.length < 1000000 ∧ d.wait.length < 1000000) fun d : DiskV => .g (diskNw d)
@[simp] theorem F2_ap14 {l : List AV} : F2_h14 l = (t1 (fun d => d.safe.length < 1000000 ∧ d.wait.length < 1000000) fun d : DiskV => .g (diskNw d)) l := rfl
def F2 : CT := (28, .pu F2_h28) :: (20, .pu F2_h20) :: (14, .pu F2_h14) :: F1
theorem F2_ok : CTok Tryz.prog F2 := ⟨tells2 fun n hi _ => num31_ev n hi,
  tells1 fun n h => zerosI_ev n h,
  tells1 fun d h => copyDisk_ev d h.1 h.2, F1_ok⟩
@[simp] theorem F2_get28 : ctGet F2 28 = some (.pu F2_h28) := rfl
@[simp] theorem F2_get20 : ctGet F2 20 = some (.pu F2_h20) := rfl
@[simp] theorem F2_get14 : ctGet F2 14 = some (.pu F2_h14) := rfl
@[simp] theorem F2_skip {n : Nat} (h : (n == 28 || n == 20 || n == 14) = false) : ctGet F2 n = ctGet F1 n := by
  simp only [Bool.or_eq_false_iff, beq_eq_false_iff_ne, ne_eq] at h
  simp [F2, ctGet, h]

theorem blank26_ev : PEv Tryz.prog 13 [] (.c (.str blank)) := by
  refine tells_of mixed F2_ok Tryz.func13 sl13 ok13 (by kernel_rfl) (by simp -implicitDefEqProofs) (by simp -implicitDefEqProofs) ?_
  simp -implicitDefEqProofs [s13, blank]

end Go.AE

/- The disk's weight. -/
set_option linter.unusedVariables false
set_option linter.unusedSimpArgs false
set_option maxHeartbeats 2000000
namespace Go.AE
open Go Go.Proofs

/-- Weights of a row, summed up to a bound. -/
def wSum {α : Type} (f : α → Int) : Int → List α → Int
  | n, [] => n
  | n, x :: r => if n < 1048576 then wSum f (n + f x) r else n

def diskWeight (d : DiskV) : Int := wSum (fun s : Sect => (s.text.length : Int) / 16) (wSum (fun s : List UInt8 => (s.length : Int) / 64) ((d.safe.length : Int) / 4 + d.wait.length) d.safe) d.wait

theorem wSum_drop {α : Type} (f : α → Int) (n : Int) (l : List α) (i : Nat) (h : i < l.length) (hn : n < 1048576) : wSum f n (l.drop i) = wSum f (n + f l[i]) (l.drop (i + 1)) := by
  rw [List.drop_eq_getElem_cons h, wSum, if_pos hn]
theorem wSum_stop {α : Type} (f : α → Int) (n : Int) (l : List α) (h : ¬ n < 1048576) : wSum f n l = n := by
  cases l with
  | nil => rfl
  | cons x r => rw [wSum, if_neg h]

theorem tdiv_nat (n k : Nat) : Int.tdiv (n : Int) (k : Int) = (n : Int) / (k : Int) := by
  rw [Int.tdiv_eq_ediv_of_nonneg (by omega)]

end Go.AE

/- slices.Clone, disk.Own. -/
set_option linter.unusedVariables false
set_option linter.unusedSimpArgs false
set_option maxHeartbeats 2000000
namespace Go.AE
open Go Go.Proofs

theorem clone32_ev (l : List (List UInt8)) (hl : l.length < 1000000) : PEv Tryz.prog 46 [.c (.sl .brw false (rowsE l))] (.c (.nw 9 1 (rowsE l))) := by
  have hF : CTok Tryz.prog [] := trivial
  refine tells_of mixed hF Tryz.func46 sl46 ok46 (by kernel_rfl) (by simp -implicitDefEqProofs) (by simp -implicitDefEqProofs) ?_
  simp -implicitDefEqProofs [s46]
  omega

theorem clone50_ev (l : List Sect) (hl : l.length < 1000000) : PEv Tryz.prog 66 [.c (.sl .brw false (rowsE l))] (.c (.nw 75 2 (rowsE l))) := by
  have hF : CTok Tryz.prog [] := trivial
  refine tells_of mixed hF Tryz.func66 sl66 ok66 (by kernel_rfl) (by simp -implicitDefEqProofs) (by simp -implicitDefEqProofs) ?_
  simp -implicitDefEqProofs [s66]
  omega

def F3_h46 : List AV → Option (Prop × AV) := t1 (fun l => l.length < 1000000) fun l : List (List UInt8) => .c (.nw 9 1 (rowsE l))
@[simp] theorem F3_ap46 {l : List AV} : F3_h46 l = (t1 (fun l => l.length < 1000000) fun l : List (List UInt8) => .c (.nw 9 1 (rowsE l))) l := rfl
def F3_h66 : List AV → Option (Prop × AV) := t1 (fun l => l.length < 1000000) fun l : List Sect => .c (.nw 75 2 (rowsE l))
@[simp] theorem F3_ap66 {l : List AV} : F3_h66 l = (t1 (fun l => l.length < 1000000) fun l : List Sect => .c (.nw 75 2 (rowsE l))) l := rfl
def F3 : CT := (46, .pu F3_h46) :: (66, .pu F3_h66) :: F2
theorem F3_ok : CTok Tryz.prog F3 := ⟨tells1 fun l h => clone32_ev l h,
  tells1 fun l h => clone50_ev l h, F2_ok⟩
@[simp] theorem F3_get46 : ctGet F3 46 = some (.pu F3_h46) := rfl
@[simp] theorem F3_get66 : ctGet F3 66 = some (.pu F3_h66) := rfl
@[simp] theorem F3_skip {n : Nat} (h : (n == 46 || n == 66) = false) : ctGet F3 n = ctGet F2 n := by
  simp only [Bool.or_eq_false_iff, beq_eq_false_iff_ne, ne_eq] at h
  simp [F3, ctGet, h]

theorem own29_ev (d : DiskV) (h1 : d.safe.length < 1000000) (h2 : d.wait.length < 1000000) : PEv Tryz.prog 45 [Arg.enc d] (.g (diskNw d)) := by
  refine tells_of mixed F3_ok Tryz.func45 sl45 ok45 (by kernel_rfl) (by simp -implicitDefEqProofs [diskNw]) (by simp -implicitDefEqProofs) ?_
  simp -implicitDefEqProofs [s45, h1, h2, diskNw]
end Go.AE

/- slices.IndexFunc, slices.ContainsFunc, disk.May. -/
set_option linter.unusedVariables false
set_option linter.unusedSimpArgs false
set_option maxHeartbeats 2000000
namespace Go.AE
open Go Go.Proofs

/-- The first place where p holds; -1: none. -/
def idxOf {α : Type} (p : α → Bool) : Nat → List α → Int
  | _, [] => -1
  | i, x :: r => if p x = true then i else idxOf p (i + 1) r

theorem indexFunc53_ev (g : FuncId) (caps : List AC) (p : List UInt8 → Bool) (l : List (List UInt8)) (hl : l.length < 1000000) (hcaps : ∀ c ∈ caps, VOK1 c) (hview : viewA noHeap (caps.map .c) = some (caps.map .c))
    (hp : ∀ s ∈ l, PEv Tryz.prog g (.c (.str s) :: caps.map .c) (.c (.raw (.bool (p s))))) :
    PEv Tryz.prog 64 [.c (.sl .brw false (rowsE l)), .c (.fn g caps)] (.c (.raw (.int .i64 (idxOf p 0 l)))) := by
  have hF : CTok Tryz.prog [] := trivial
  refine tells_of mixed hF Tryz.func64 sl64 ok64 (by kernel_rfl) (by simp -implicitDefEqProofs) (by simpa using hcaps) ?_
  simp -implicitDefEqProofs [s64]
  refine loop_n (fun n st => ∃ i : Nat, i ≤ l.length ∧ n = l.length - i ∧ st.s 0 = .c (.sl .brw false (rowsE l)) ∧ st.s 1 = .c (.fn g caps) ∧ st.s 7 = .c (.raw (.int .i64 l.length)) ∧ st.s 8 = .c (.raw (.int .i64 i)) ∧ st.H = noHeap ∧
    idxOf p i (l.drop i) = idxOf p 0 l) l.length ⟨0, by simp -implicitDefEqProofs⟩ ?_
  rintro n st ⟨i, hi, rfl, h0, h1, h7, h8, hH, hx⟩
  by_cases hlt : i < l.length
  · have hw : IntKind.wrap .i64 ((i : Int) + 1) = ((i + 1 : Nat) : Int) := by rw [wrap64_id] <;> omega
    have hev := hp l[i] (List.getElem_mem hlt)
    simp -implicitDefEqProofs [s64L0, h0, h1, h7, h8, hH, hlt]
    refine acall_pure hev ?_ (by simp -implicitDefEqProofs) (by simp -implicitDefEqProofs) ?_
    · simp -implicitDefEqProofs [hH, hview]
    · rw [List.drop_eq_getElem_cons hlt, idxOf] at hx
      simp -implicitDefEqProofs [s64L0, h0, h1, h7, h8, hH, hlt, hw]
      refine ⟨fun e => by rw [if_pos e] at hx; exact hx, fun e => ⟨_, ?_, i + 1, ?_, rfl, rfl, ?_⟩⟩
      · omega
      · omega
      · rw [if_neg (by simp -implicitDefEqProofs [e])] at hx; exact hx
  · simp -implicitDefEqProofs [s64L0, h0, h1, h7, h8, hH, hlt]
    rw [← hx, List.drop_eq_nil_of_le (by omega)]
    rfl
theorem indexFunc54_ev (g : FuncId) (caps : List AC) (p : Sect → Bool) (l : List Sect) (hl : l.length < 1000000) (hcaps : ∀ c ∈ caps, VOK1 c) (hview : viewA noHeap (caps.map .c) = some (caps.map .c))
    (hp : ∀ s ∈ l, PEv Tryz.prog g (.g [.raw (.int .i64 s.at_), .str s.text] :: caps.map .c) (.c (.raw (.bool (p s))))) :
    PEv Tryz.prog 65 [.c (.sl .brw false (rowsE l)), .c (.fn g caps)] (.c (.raw (.int .i64 (idxOf p 0 l)))) := by
  have hF : CTok Tryz.prog [] := trivial
  refine tells_of mixed hF Tryz.func65 sl65 ok65 (by kernel_rfl) (by simp -implicitDefEqProofs) (by simpa using hcaps) ?_
  simp -implicitDefEqProofs [s65]
  refine loop_n (fun n st => ∃ i : Nat, i ≤ l.length ∧ n = l.length - i ∧ st.s 0 = .c (.sl .brw false (rowsE l)) ∧ st.s 1 = .c (.fn g caps) ∧ st.s 7 = .c (.raw (.int .i64 l.length)) ∧ st.s 8 = .c (.raw (.int .i64 i)) ∧ st.H = noHeap ∧
    idxOf p i (l.drop i) = idxOf p 0 l) l.length ⟨0, by simp -implicitDefEqProofs⟩ ?_
  rintro n st ⟨i, hi, rfl, h0, h1, h7, h8, hH, hx⟩
  by_cases hlt : i < l.length
  · have hw : IntKind.wrap .i64 ((i : Int) + 1) = ((i + 1 : Nat) : Int) := by rw [wrap64_id] <;> omega
    have hev := hp l[i] (List.getElem_mem hlt)
    simp -implicitDefEqProofs [s65L0, h0, h1, h7, h8, hH, hlt]
    refine acall_pure hev ?_ (by simp -implicitDefEqProofs) (by simp -implicitDefEqProofs) ?_
    · simp -implicitDefEqProofs [hH, hview]
    · rw [List.drop_eq_getElem_cons hlt, idxOf] at hx
      simp -implicitDefEqProofs [s65L0, h0, h1, h7, h8, hH, hlt, hw]
      refine ⟨fun e => by rw [if_pos e] at hx; exact hx, fun e => ⟨_, ?_, i + 1, ?_, rfl, rfl, ?_⟩⟩
      · omega
      · omega
      · rw [if_neg (by simp -implicitDefEqProofs [e])] at hx; exact hx
  · simp -implicitDefEqProofs [s65L0, h0, h1, h7, h8, hH, hlt]
    rw [← hx, List.drop_eq_nil_of_le (by omega)]
    rfl
theorem idxOf_any {α : Type} (p : α → Bool) : ∀ (l : List α) (i : Nat), (0 ≤ idxOf p i l) ↔ l.any p = true
  | [], i => by simp -implicitDefEqProofs [idxOf]
  | x :: r, i => by
    rw [idxOf, List.any_cons]
    by_cases h : p x = true
    · simp -implicitDefEqProofs [h]
    · rw [if_neg h, idxOf_any p r (i + 1)]
      simp -implicitDefEqProofs [h]

end Go.AE

/- slices.ContainsFunc, disk.May. -/
set_option linter.unusedVariables false
set_option linter.unusedSimpArgs false
set_option maxHeartbeats 2000000
namespace Go.AE
open Go Go.Proofs

theorem contains46_ev (g : FuncId) (caps : List AC) (p : List UInt8 → Bool) (l : List (List UInt8)) (hl : l.length < 1000000) (hcaps : ∀ c ∈ caps, VOK1 c) (hview : viewA noHeap (caps.map .c) = some (caps.map .c)) (hview2 : viewPL noHeap caps = some caps)
    (hp : ∀ s ∈ l, PEv Tryz.prog g (.c (.str s) :: caps.map .c) (.c (.raw (.bool (p s))))) :
    PEv Tryz.prog 40 [.c (.sl .brw false (rowsE l)), .c (.fn g caps)] (.c (.raw (.bool (l.any p)))) := by
  have hF : CTok Tryz.prog [] := trivial
  refine tells_of mixed hF Tryz.func40 sl40 ok40 (by kernel_rfl) (by simp -implicitDefEqProofs) (by simpa using hcaps) ?_
  simp -implicitDefEqProofs [s40]
  refine acall_pure (indexFunc53_ev g caps p l hl hcaps hview hp) (by simp -implicitDefEqProofs [hview2]) (by simp -implicitDefEqProofs) (by simp -implicitDefEqProofs) ?_
  simp -implicitDefEqProofs
  rw [Bool.eq_iff_iff, decide_eq_true_iff]
  exact idxOf_any p l 0

theorem contains48_ev (g : FuncId) (caps : List AC) (p : Sect → Bool) (l : List Sect) (hl : l.length < 1000000) (hcaps : ∀ c ∈ caps, VOK1 c) (hview : viewA noHeap (caps.map .c) = some (caps.map .c)) (hview2 : viewPL noHeap caps = some caps)
    (hp : ∀ s ∈ l, PEv Tryz.prog g (.g [.raw (.int .i64 s.at_), .str s.text] :: caps.map .c) (.c (.raw (.bool (p s))))) :
    PEv Tryz.prog 43 [.c (.sl .brw false (rowsE l)), .c (.fn g caps)] (.c (.raw (.bool (l.any p)))) := by
  have hF : CTok Tryz.prog [] := trivial
  refine tells_of mixed hF Tryz.func43 sl43 ok43 (by kernel_rfl) (by simp -implicitDefEqProofs) (by simpa using hcaps) ?_
  simp -implicitDefEqProofs [s43]
  refine acall_pure (indexFunc54_ev g caps p l hl hcaps hview hp) (by simp -implicitDefEqProofs [hview2]) (by simp -implicitDefEqProofs) (by simp -implicitDefEqProofs) ?_
  simp -implicitDefEqProofs
  rw [Bool.eq_iff_iff, decide_eq_true_iff]
  exact idxOf_any p l 0

/-- A sector's text. -/
def isSec (s : List UInt8) : Bool := decide (s.length = 32)

theorem may1_ev (s : List UInt8) : PEv Tryz.prog 41 [.c (.str s)] (.c (.raw (.bool (!isSec s)))) := by
  refine tells_of mixed F1_ok Tryz.func41 sl41 ok41 (by kernel_rfl) (by simp -implicitDefEqProofs) (by simp -implicitDefEqProofs) ?_
  simp -implicitDefEqProofs [s41, isSec]

def badSect (n : Nat) (x : Sect) : Bool := !isSec x.text || decide (x.at_ < 0) || decide ((n : Int) ≤ x.at_)

theorem may2_ev (d : DiskV) (x : Sect) : PEv Tryz.prog 44 [.g [.raw (.int .i64 x.at_), .str x.text], .c (.pv .brw [.sl .brw false (rowsE d.safe), .sl .brw false (rowsE d.wait)] 0)] (.c (.raw (.bool (badSect d.safe.length x)))) := by
  refine tells_of mixed F1_ok Tryz.func44 sl44 ok44 (by kernel_rfl) (by simp -implicitDefEqProofs) (by simp -implicitDefEqProofs) ?_
  simp -implicitDefEqProofs [s44, badSect, isSec]
  omega

end Go.AE

/- disk.May and the reference's: what may be a disk. -/
set_option linter.unusedVariables false
set_option linter.unusedSimpArgs false
set_option maxHeartbeats 2000000
namespace Go.AE
open Go Go.Proofs

def mayB (d : DiskV) : Bool := decide (1 ≤ d.safe.length) && decide (d.safe.length ≤ 400) && decide (d.wait.length ≤ 400) && d.safe.all isSec && d.wait.all fun x => !badSect d.safe.length x

theorem any_not {α : Type} (p : α → Bool) (l : List α) : (l.any fun x => !p x) = !l.all p := by
  induction l with
  | nil => rfl
  | cons x r ih => simp -implicitDefEqProofs [ih]

theorem may_ev (d : DiskV) (h1 : d.safe.length < 1000000) (h2 : d.wait.length < 1000000) : PEv Tryz.prog 21 [Arg.enc d] (.c (.raw (.bool (mayB d)))) := by
  refine tells_of mixed F1_ok Tryz.func21 sl21 ok21 (by kernel_rfl) (by simp) (by simp) ?_
  simp -implicitDefEqProofs [s21]
  refine ⟨fun g1 => ⟨fun g2 => ⟨fun g3 => ?_, fun g3 => ?_⟩, fun g2 => ?_⟩, fun g1 => ?_⟩
  · simp -implicitDefEqProofs [mayB]; omega
  · refine acall_pure (contains46_ev 41 [] (fun s => !isSec s) d.safe h1 (by simp -implicitDefEqProofs) (by simp -implicitDefEqProofs) (by simp -implicitDefEqProofs) fun s _ => may1_ev s) ?_ (by simp -implicitDefEqProofs) (by simp -implicitDefEqProofs) ?_
    · simp -implicitDefEqProofs
    · simp -implicitDefEqProofs
      refine ⟨fun s hs hx => ?_, fun hs => ?_⟩
      · simp -implicitDefEqProofs [mayB]; intro _ _ _ ha; rw [ha s hs] at hx; cases hx
      · refine acall_pure (contains48_ev 44 [.pv .brw [.sl .brw false (rowsE d.safe), .sl .brw false (rowsE d.wait)] 0] (badSect d.safe.length) d.wait h2 (by simp -implicitDefEqProofs) (by simp -implicitDefEqProofs) (by simp -implicitDefEqProofs) fun x _ => may2_ev d x) ?_ (by simp -implicitDefEqProofs) (by simp -implicitDefEqProofs) ?_
        · simp -implicitDefEqProofs
        · simp -implicitDefEqProofs
          have e : d.safe.all isSec = true := List.all_eq_true.2 hs
          have e2 : d.wait.any (badSect d.safe.length) = !d.wait.all fun x => !badSect d.safe.length x := by rw [← any_not]; simp -implicitDefEqProofs
          rw [e2, mayB, e]
          simp -implicitDefEqProofs [show 1 ≤ d.safe.length by omega, show d.safe.length ≤ 400 by omega, show d.wait.length ≤ 400 by omega]
  · simp -implicitDefEqProofs [mayB]; omega
  · simp -implicitDefEqProofs [mayB]; omega

theorem all_take_step {α : Type} {p : α → Bool} {l : List α} {i : Nat} (h : (l.take i).all p = true) (hi : i < l.length) (hp : p l[i] = true) : (l.take (i + 1)).all p = true := by
  rw [List.take_add_one, List.all_append, h]; simp -implicitDefEqProofs [hi, hp]
theorem all_false_at {α : Type} {p : α → Bool} {l : List α} {i : Nat} (hi : i < l.length) (hp : p l[i] = false) : l.all p = false := by
  rw [List.all_eq_false]; exact ⟨l[i], List.getElem_mem hi, by simp -implicitDefEqProofs [hp]⟩

/-- A disk in a variable. -/
def diskVar (d : DiskV) (H : Heap) (i : Id) : Prop := H i = .arr 30 2 false [[.sl .brw false (rowsE d.safe), .sl .brw false (rowsE d.wait)]]

theorem refDisk_l0 {F : CT} (d : DiskV) (h1 : d.safe.length < 281474976710656) {Q : AEx → St → Prop} {st : St} (k1 : st.s 1 = .c (.pt (0, 1) 0 0)) (kH : diskVar d st.H (0, 1)) (k3 : st.s 3 = .c (.raw (.int .i64 0)))
    (hn : ∀ st', st'.s 1 = .c (.pt (0, 1) 0 0) → diskVar d st'.H (0, 1) → d.safe.all isSec = true → Q (.exit 0) st') (hr : ∀ st', st'.s 2 = .c (.raw (.bool false)) → d.safe.all isSec = false → Q .ret st') :
    awpS Tryz.prog F (.loop s12L0) Q st := by
  refine loop_n (fun n st => ∃ i : Nat, i ≤ d.safe.length ∧ n = d.safe.length - i ∧ st.s 1 = .c (.pt (0, 1) 0 0) ∧ diskVar d st.H (0, 1) ∧ st.s 3 = .c (.raw (.int .i64 i)) ∧ (d.safe.take i).all isSec = true) d.safe.length ⟨0, by simp -implicitDefEqProofs [k1, kH, k3]⟩ ?_
  rintro n st ⟨i, hi, rfl, k1, kH', k3, ha⟩
  have kH := kH'
  unfold diskVar at kH
  by_cases hlt : i < d.safe.length
  · have e2 : IntKind.wrap .i64 ((i : Int) + 1) = ((i + 1 : Nat) : Int) := by rw [wrap64_id] <;> omega
    simp -implicitDefEqProofs [s12L0, k1, kH, k3, hlt, e2]
    refine ⟨fun hne => hr _ (by simp -implicitDefEqProofs) (all_false_at (p := isSec) hlt (by simp -implicitDefEqProofs [isSec]; omega)), fun he => ⟨d.safe.length - (i + 1), by omega, i + 1, by omega, rfl, kH', rfl, ?_⟩⟩
    have := all_take_step ha hlt (by simp -implicitDefEqProofs [isSec]; omega)
    simpa using this
  · have : i = d.safe.length := by omega
    subst this
    rw [List.take_length] at ha
    simp -implicitDefEqProofs [s12L0, k1, kH, k3, hlt]
    exact hn _ (by simp -implicitDefEqProofs [k1]) (by simp -implicitDefEqProofs [kH']) ha

theorem refDisk_l1 {F : CT} (d : DiskV) (h0 : 1 ≤ d.safe.length) (h1 : d.safe.length < 281474976710656) (h2 : d.wait.length < 281474976710656) {Q : AEx → St → Prop} {st : St} (k1 : st.s 1 = .c (.pt (0, 1) 0 0)) (kH : diskVar d st.H (0, 1)) (k3 : st.s 4 = .c (.raw (.int .i64 0)))
    (hF : ctGet F 28 = ctGet F2 28)
    (hn : ∀ st', (d.wait.all fun x => !badSect d.safe.length x) = true → Q (.exit 2) st') (hr : ∀ st', st'.s 2 = .c (.raw (.bool false)) → (d.wait.all fun x => !badSect d.safe.length x) = false → Q .ret st') :
    awpS Tryz.prog F (.loop s12L1) Q st := by
  refine loop_n (fun n st => ∃ i : Nat, i ≤ d.wait.length ∧ n = d.wait.length - i ∧ st.s 1 = .c (.pt (0, 1) 0 0) ∧ diskVar d st.H (0, 1) ∧ st.s 4 = .c (.raw (.int .i64 i)) ∧ (d.wait.take i).all (fun x => !badSect d.safe.length x) = true) d.wait.length ⟨0, by simp -implicitDefEqProofs [k1, kH, k3]⟩ ?_
  rintro n st ⟨i, hi, rfl, k1, kH', k3, ha⟩
  have kH := kH'
  unfold diskVar at kH
  by_cases hlt : i < d.wait.length
  · have e2 : IntKind.wrap .i64 ((i : Int) + 1) = ((i + 1 : Nat) : Int) := by rw [wrap64_id] <;> omega
    have e3 : IntKind.wrap .i64 ((d.safe.length : Int) - 1) = (d.safe.length : Int) - 1 := by rw [wrap64_id] <;> omega
    simp -implicitDefEqProofs [s12L1, k1, kH, k3, hlt, e2, e3, hF]
    refine ⟨fun a b => ⟨fun hne => hr _ (by simp -implicitDefEqProofs) (all_false_at (p := fun x => !badSect d.safe.length x) hlt (by simp -implicitDefEqProofs [badSect, isSec]; omega)), fun he => ⟨d.wait.length - (i + 1), by omega, i + 1, by omega, rfl, kH', rfl, ?_⟩⟩, fun a => hr _ (by simp -implicitDefEqProofs) (all_false_at (p := fun x => !badSect d.safe.length x) hlt (by simp -implicitDefEqProofs [badSect, isSec]; omega))⟩
    have := all_take_step ha hlt (by simp -implicitDefEqProofs [badSect, isSec]; omega)
    simpa using this
  · have : i = d.wait.length := by omega
    subst this
    rw [List.take_length] at ha
    simp -implicitDefEqProofs [s12L1, k1, kH, k3, hlt]
    exact hn _ ha

theorem refDisk_ev (d : DiskV) (h1 : d.safe.length < 281474976710656) (h2 : d.wait.length < 281474976710656) : PEv Tryz.prog 12 [Arg.enc d] (.c (.raw (.bool (mayB d)))) := by
  refine tells_of mixed F2_ok Tryz.func12 sl12 ok12 (by kernel_rfl) (by simp) (by simp) ?_
  simp -implicitDefEqProofs [s12]
  repeat' (first | (intro _) | (with_reducible apply And.intro))
  · simp -implicitDefEqProofs [mayB]; omega
  · refine refDisk_l0 d h1 (by simp -implicitDefEqProofs) (by simp -implicitDefEqProofs [diskVar]) (by simp -implicitDefEqProofs) ?_ ?_
    · intro st' k1 kH hs
      simp -implicitDefEqProofs [k1]
      refine refDisk_l1 d (by omega) h1 h2 (by simp -implicitDefEqProofs [k1]) kH (by simp -implicitDefEqProofs) rfl ?_ ?_
      · intro st' hw
        simp -implicitDefEqProofs
        rw [mayB, hs, hw]
        simp -implicitDefEqProofs [show 1 ≤ d.safe.length by omega, show d.safe.length ≤ 400 by omega, show d.wait.length ≤ 400 by omega]
      · intro st' k2 hw
        simp -implicitDefEqProofs [k2]
        rw [mayB, hw]; simp -implicitDefEqProofs
    · intro st' k2 hs
      simp -implicitDefEqProofs [k2]
      rw [mayB, hs]; simp -implicitDefEqProofs
  all_goals (simp -implicitDefEqProofs [mayB]; omega)

def actBad (n : Nat) : Prop := True
end Go.AE

/- Crashes: what the disk's and the reference's tell. -/
set_option linter.unusedVariables false
set_option linter.unusedSimpArgs false
set_option maxHeartbeats 2000000
namespace Go.AE
open Go Go.Proofs

/-- One sector that waits: lost, done, torn. -/
def tear (safe : List (List UInt8)) (w : Sect) (k : Int) : List (List UInt8) :=
  if k = 1 then safe.set w.at_.toNat w.text else if k = 2 then safe.set w.at_.toNat (w.text.take 16 ++ (safe.getD w.at_.toNat []).drop 16) else safe

def keepAt (keep : List Int) (i : Nat) : Int := if (keep.getD i 0) < 0 then 0 else (keep.getD i 0) % 3

def crashGo (keep : List Int) : Nat → List (List UInt8) → List Sect → List (List UInt8)
  | _, safe, [] => safe
  | i, safe, w :: r => crashGo keep (i + 1) (tear safe w (keepAt keep i)) r

def syncGo : List (List UInt8) → List Sect → List (List UInt8)
  | safe, [] => safe
  | safe, w :: r => syncGo (safe.set w.at_.toNat w.text) r

theorem tear_length (safe : List (List UInt8)) (w : Sect) (k : Int) : (tear safe w k).length = safe.length := by
  unfold tear; split <;> (try split) <;> simp -implicitDefEqProofs

theorem crashGo_length (keep : List Int) : ∀ (l : List Sect) (i : Nat) (safe : List (List UInt8)), (crashGo keep i safe l).length = safe.length
  | [], _, _ => rfl
  | w :: r, i, safe => by rw [crashGo, crashGo_length, tear_length]

theorem mayB_of {d : DiskV} (h : mayB d = true) : 1 ≤ d.safe.length ∧ d.safe.length ≤ 400 ∧ d.wait.length ≤ 400 ∧ (∀ s ∈ d.safe, s.length = 32) ∧ ∀ x ∈ d.wait, x.text.length = 32 ∧ 0 ≤ x.at_ ∧ x.at_ < d.safe.length := by
  simp only [mayB, Bool.and_eq_true, decide_eq_true_eq, List.all_eq_true] at h
  obtain ⟨⟨⟨⟨h1, h2⟩, h3⟩, h4⟩, h5⟩ := h
  refine ⟨h1, h2, h3, fun s hs => by simpa [isSec] using h4 s hs, fun x hx => ?_⟩
  have := h5 x hx
  simp -implicitDefEqProofs [badSect, isSec] at this
  omega

theorem all_set {α : Type} {p : α → Prop} {l : List α} {i : Nat} {x : α} (h : ∀ s ∈ l, p s) (hx : p x) : ∀ s ∈ l.set i x, p s := fun s hs => by
  rcases List.mem_or_eq_of_mem_set hs with q | q
  · exact h s q
  · rw [q]; exact hx

theorem tear_sec {safe : List (List UInt8)} {w : Sect} {k : Int} (h : ∀ s ∈ safe, s.length = 32) (hw : w.text.length = 32) (h0 : 0 ≤ w.at_) (h1 : w.at_ < safe.length) : ∀ s ∈ tear safe w k, s.length = 32 := by
  unfold tear
  split
  · exact all_set h hw
  · split
    · refine all_set h ?_
      have : w.at_.toNat < safe.length := by omega
      have := h (safe.getD w.at_.toNat []) (by simp -implicitDefEqProofs [List.getD, this])
      simp -implicitDefEqProofs [hw] at this ⊢
      omega
    · exact h

theorem crashGo_sec {keep : List Int} : ∀ (l : List Sect) (i : Nat) (safe : List (List UInt8)), (∀ s ∈ safe, s.length = 32) → (∀ x ∈ l, x.text.length = 32 ∧ 0 ≤ x.at_ ∧ x.at_ < safe.length) → ∀ s ∈ crashGo keep i safe l, s.length = 32
  | [], _, _, h, _ => h
  | w :: r, i, safe, h, hl => by
    rw [crashGo]
    have hw := hl w (by simp -implicitDefEqProofs)
    exact crashGo_sec r (i + 1) _ (tear_sec h hw.1 hw.2.1 hw.2.2) fun x hx => by
      rw [tear_length]; exact hl x (by simp -implicitDefEqProofs [hx])

def boxDisk (d : DiskV) : OK := .arr 30 2 false [[.sl .brw false (rowsE d.safe), .sl .brw false (rowsE d.wait)]]

/-- A disk's sectors in an own row, in a variable; nothing waits. -/
def ownDisk (H : Heap) (v i : Id) (safe : List (List UInt8)) : Prop := H v = .arr 30 2 false [[.so i 0 safe.length, .raw (.slice none 0 0)]] ∧ H i = .arr 9 1 false (rowsE safe) ∧ v ≠ i

theorem keepAt_id {keep : List Int} {i : Nat} (hk : i < keep.length) : keep.getD i 0 = keep[i] := by simp -implicitDefEqProofs [List.getD, hk]

theorem rowsE_set' {l : List (List UInt8)} {i : Nat} {a : List UInt8} : rowsE (l.set i a) = (rowsE l).set i [AC.str a] := (rowsE_set l i a).symm

theorem diskCrash_l0 {F : CT} (d : DiskV) (keep : List Int) (hd : mayB d = true) (hkl : keep.length < 281474976710656) {Q : AEx → St → Prop} {st : St} (b v i : Id) (k6 : st.s 6 = .c (.pt v 0 0)) (b4 : Id) (k4 : st.s 4 = .c (.pt b4 0 0))
    (k1 : st.s 1 = .c (.sl .brw false (rowsE keep))) (kv : ownDisk st.H v i d.safe) (k18 : st.s 18 = .c (.sl .brw false (rowsE d.wait))) (k19 : st.s 19 = .c (.raw (.int .i64 d.wait.length))) (k20 : st.s 20 = .c (.raw (.int .i64 0)))
    (hf : Fresh st.H st.T)
    (hn : ∀ st', st'.s 6 = .c (.pt v 0 0) → st'.s 4 = .c (.pt b4 0 0) → st'.H i = .arr 9 1 false (rowsE (crashGo keep 0 d.safe d.wait)) → ExtH [i] st.H st.T st'.H st'.T → Q (.exit 0) st') :
    awpS Tryz.prog F (.loop s23L0) Q st := by
  obtain ⟨hd1, hd2, hd3, hd4, hd5⟩ := mayB_of hd
  obtain ⟨kv, ki, hvi⟩ := kv
  refine loop_n (fun n st' => ∃ (j : Nat) (safe : List (List UInt8)), j ≤ d.wait.length ∧ n = d.wait.length - j ∧ safe.length = d.safe.length ∧ (∀ s ∈ safe, s.length = 32) ∧ st'.s 6 = .c (.pt v 0 0) ∧ st'.s 4 = .c (.pt b4 0 0) ∧
    st'.s 1 = .c (.sl .brw false (rowsE keep)) ∧ st'.H i = .arr 9 1 false (rowsE safe) ∧ st'.s 18 = .c (.sl .brw false (rowsE d.wait)) ∧ st'.s 19 = .c (.raw (.int .i64 d.wait.length)) ∧ st'.s 20 = .c (.raw (.int .i64 j)) ∧ ExtH [i] st.H st.T st'.H st'.T ∧
    crashGo keep j safe (d.wait.drop j) = crashGo keep 0 d.safe d.wait) d.wait.length ⟨0, d.safe, by simp -implicitDefEqProofs [k6, k4, k1, ki, k18, k19, k20, ExtH.refl hf]; exact hd4⟩ ?_
  rintro n st' ⟨j, safe, hj, rfl, hl, hs, k6, k4, k1, ki, k18, k19, k20, he, hc⟩
  have hf' := he.fresh
  have kv := he.arr kv (by simpa using hvi)
  obtain ⟨f4, f5, f6⟩ := hf'.arr kv
  obtain ⟨f7, f8, f9⟩ := hf'.arr ki
  have hfu : ∀ k d, st'.T ≤ k → st'.H (k, d) = .unborn := hf'
  have hT := he.2.2.1
  have hiv : (i = v) = False := by simp only [eq_iff_iff, iff_false]; exact fun e => hvi e.symm
  by_cases hlt : j < d.wait.length
  · have e2 : IntKind.wrap .i64 ((j : Int) + 1) = ((j + 1 : Nat) : Int) := by rw [wrap64_id] <;> omega
    obtain ⟨w1, w2, w3⟩ := hd5 d.wait[j] (List.getElem_mem hlt)
    have w4 : d.wait[j].at_.toNat < safe.length := by omega
    have w5 : d.wait[j].at_ < safe.length := by omega
    have w5' : d.wait[j].at_ < d.safe.length := w3
    have w6 := hs safe[d.wait[j].at_.toNat] (List.getElem_mem w4)
    rw [List.drop_eq_getElem_cons hlt, crashGo] at hc
    have hlen : (tear safe d.wait[j] (keepAt keep j)).length = d.safe.length := by rw [tear_length, hl]
    have hsec := tear_sec (k := keepAt keep j) hs w1 w2 w5
    by_cases hk : j < keep.length
    · have t3 : 0 ≤ keep[j] → keep[j].tmod 3 = keep[j] % 3 := fun h => Int.tmod_eq_emod_of_nonneg h
      have kA : keepAt keep j = if keep[j] < 0 then 0 else keep[j] % 3 := by rw [keepAt, keepAt_id hk]
      have hk' : (keep.length ≤ j) = False := by simp -implicitDefEqProofs; omega
      by_cases g : keep[j] < 0
      · simp -implicitDefEqProofs [s23L0, k6, k4, k1, kv, ki, k18, k19, k20, hlt, e2, f4, f5, f7, f8, hfu, hk, hk', w1, w2, w4, w5', hiv, w6, g]
        refine ⟨d.wait.length - (j + 1), by omega, j + 1, by omega, rfl, _, hlen, hsec, ?_, rfl, ?_, hc⟩
        · rw [kA, if_pos g]; simp -implicitDefEqProofs [tear]
        · repeat' (first | exact he.tick (by first | omega | (simp <;> omega)) | (refine ExtH.new ?_ (by first | omega | (simp <;> omega)) (by first | omega | (simp <;> omega))) | (refine ExtH.set ?_ (by simp) (by first | omega | (simp <;> omega))))
      · have g' : (keep[j] < 0) = False := by simp -implicitDefEqProofs; omega
        by_cases g1 : keep[j].tmod 3 = 1
        · simp -implicitDefEqProofs [s23L0, k6, k4, k1, kv, ki, k18, k19, k20, hlt, e2, f4, f5, f7, f8, hfu, hk, hk', w1, w2, w4, w5', hiv, w6, g', g1]
          refine ⟨d.wait.length - (j + 1), by omega, j + 1, by omega, rfl, _, hlen, hsec, ?_, rfl, ?_, hc⟩
          · rw [kA, if_neg (by omega), ← t3 (by omega), g1]; simp -implicitDefEqProofs [tear, rowsE_set']
          · repeat' (first | exact he.tick (by first | omega | (simp <;> omega)) | (refine ExtH.new ?_ (by first | omega | (simp <;> omega)) (by first | omega | (simp <;> omega))) | (refine ExtH.set ?_ (by simp) (by first | omega | (simp <;> omega))))
        · by_cases g2 : keep[j].tmod 3 = 2
          · simp -implicitDefEqProofs [s23L0, k6, k4, k1, kv, ki, k18, k19, k20, hlt, e2, f4, f5, f7, f8, hfu, hk, hk', w1, w2, w4, w5', hiv, w6, g', g1, g2]
            refine ⟨d.wait.length - (j + 1), by omega, j + 1, by omega, rfl, _, hlen, hsec, ?_, rfl, ?_, hc⟩
            · rw [kA, if_neg (by omega), ← t3 (by omega), g2]; simp -implicitDefEqProofs [tear, rowsE_set', w4, List.take_of_length_le (Nat.le_of_eq w6)]
            · repeat' (first | exact he.tick (by first | omega | (simp <;> omega)) | (refine ExtH.new ?_ (by first | omega | (simp <;> omega)) (by first | omega | (simp <;> omega))) | (refine ExtH.set ?_ (by simp) (by first | omega | (simp <;> omega))))
          · simp -implicitDefEqProofs [s23L0, k6, k4, k1, kv, ki, k18, k19, k20, hlt, e2, f4, f5, f7, f8, hfu, hk, hk', w1, w2, w4, w5', hiv, w6, g', g1, g2]
            refine ⟨d.wait.length - (j + 1), by omega, j + 1, by omega, rfl, _, hlen, hsec, ?_, rfl, ?_, hc⟩
            · rw [kA, if_neg (by omega), ← t3 (by omega)]; simp -implicitDefEqProofs [tear, g1, g2]
            · repeat' (first | exact he.tick (by first | omega | (simp <;> omega)) | (refine ExtH.new ?_ (by first | omega | (simp <;> omega)) (by first | omega | (simp <;> omega))) | (refine ExtH.set ?_ (by simp) (by first | omega | (simp <;> omega))))
    · have kA : keepAt keep j = 0 := by simp -implicitDefEqProofs [keepAt, List.getD, hk]
      simp -implicitDefEqProofs [s23L0, k6, k4, k1, kv, ki, k18, k19, k20, hlt, e2, f4, f5, f7, f8, hfu, hk, w1, w2, w4, w5', hiv, w6]
      refine fun _ => ⟨d.wait.length - (j + 1), by omega, j + 1, by omega, rfl, _, hlen, hsec, ?_, rfl, ?_, hc⟩
      · rw [kA]; simp -implicitDefEqProofs [tear]
      · repeat' (first | exact he.tick (by first | omega | (simp <;> omega)) | (refine ExtH.new ?_ (by first | omega | (simp <;> omega)) (by first | omega | (simp <;> omega))) | (refine ExtH.set ?_ (by simp) (by first | omega | (simp <;> omega))))
  · have : j = d.wait.length := by omega
    subst this
    simp -implicitDefEqProofs [s23L0, k6, k1, kv, ki, k18, k19, k20, hlt]
    rw [List.drop_length, crashGo] at hc
    exact hn _ (by simp -implicitDefEqProofs [k6]) (by simp -implicitDefEqProofs [k4]) (by rw [← hc]; simpa using ki) (he.tick (by simp -implicitDefEqProofs))

end Go.AE

/- disk.Crash, the reference's Crash, Sync, New, Put. -/
set_option linter.unusedVariables false
set_option linter.unusedSimpArgs false
set_option maxHeartbeats 2000000
namespace Go.AE
open Go Go.Proofs

def F4_h21 : List AV → Option (Prop × AV) := t1 (fun d : DiskV => d.safe.length < 1000000 ∧ d.wait.length < 1000000) fun d : DiskV => .c (.raw (.bool (mayB d)))
@[simp] theorem F4_ap21 {l : List AV} : F4_h21 l = (t1 (fun d : DiskV => d.safe.length < 1000000 ∧ d.wait.length < 1000000) fun d : DiskV => .c (.raw (.bool (mayB d)))) l := rfl
def F4_h45 : List AV → Option (Prop × AV) := t1 (fun d : DiskV => d.safe.length < 1000000 ∧ d.wait.length < 1000000) fun d : DiskV => .g (diskNw d)
@[simp] theorem F4_ap45 {l : List AV} : F4_h45 l = (t1 (fun d : DiskV => d.safe.length < 1000000 ∧ d.wait.length < 1000000) fun d : DiskV => .g (diskNw d)) l := rfl
def F4_h12 : List AV → Option (Prop × AV) := t1 (fun d : DiskV => d.safe.length < 281474976710656 ∧ d.wait.length < 281474976710656) fun d : DiskV => .c (.raw (.bool (mayB d)))
@[simp] theorem F4_ap12 {l : List AV} : F4_h12 l = (t1 (fun d : DiskV => d.safe.length < 281474976710656 ∧ d.wait.length < 281474976710656) fun d : DiskV => .c (.raw (.bool (mayB d)))) l := rfl
def F4_h13 : List AV → Option (Prop × AV) := t0 (.c (.str blank))
@[simp] theorem F4_ap13 {l : List AV} : F4_h13 l = (t0 (.c (.str blank))) l := rfl
def F4 : CT := (21, .pu F4_h21) :: (45, .pu F4_h45) :: (12, .pu F4_h12) :: (13, .pu F4_h13) :: F3
theorem F4_ok : CTok Tryz.prog F4 := ⟨tells1 fun d h => may_ev d h.1 h.2,
  tells1 fun d h => own29_ev d h.1 h.2,
  tells1 fun d h => refDisk_ev d h.1 h.2,
  tells0 blank26_ev, F3_ok⟩
@[simp] theorem F4_get21 : ctGet F4 21 = some (.pu F4_h21) := rfl
@[simp] theorem F4_get45 : ctGet F4 45 = some (.pu F4_h45) := rfl
@[simp] theorem F4_get12 : ctGet F4 12 = some (.pu F4_h12) := rfl
@[simp] theorem F4_get13 : ctGet F4 13 = some (.pu F4_h13) := rfl
@[simp] theorem F4_skip {n : Nat} (h : (n == 21 || n == 45 || n == 12 || n == 13) = false) : ctGet F4 n = ctGet F3 n := by
  simp only [Bool.or_eq_false_iff, beq_eq_false_iff_ne, ne_eq] at h
  simp [F4, ctGet, h]

theorem crashGo_may {keep : List Int} {d : DiskV} (h : mayB d = true) : (crashGo keep 0 d.safe d.wait).length = d.safe.length := crashGo_length keep d.wait 0 d.safe

/-- What a crash tells: the disk, the error. -/
def crashR (d : DiskV) (keep : List Int) : DiskV × Int := if mayB d = true then (⟨crashGo keep 0 d.safe d.wait, []⟩, 0) else (⟨[], []⟩, 1)

def diskE (r : DiskV × Int) : AV := .t [(true, diskNw r.1), (false, [.raw (.int .i64 r.2)])]

theorem diskCrash_ev (d : DiskV) (keep : List Int) (h1 : d.safe.length < 1000000) (h2 : d.wait.length < 1000000) (h3 : keep.length < 281474976710656) :
    PEv Tryz.prog 23 [Arg.enc d, .c (.sl .brw false (rowsE keep))] (diskE (crashR d keep)) := by
  refine tells_of mixed F4_ok Tryz.func23 sl23 ok23 (by kernel_rfl) (by simp [diskE, diskNw]) (by simp) ?_
  unfold crashR
  by_cases hm : mayB d = true
  · simp -implicitDefEqProofs [s23, h1, h2, hm]
    refine diskCrash_l0 d keep hm h3 (0, 2) (2, 6) (2, 16384) (by simp -implicitDefEqProofs) (0, 4) (by simp -implicitDefEqProofs) (by simp -implicitDefEqProofs) ⟨by simp -implicitDefEqProofs, by simp -implicitDefEqProofs, by simp -implicitDefEqProofs⟩ (by simp -implicitDefEqProofs) (by simp -implicitDefEqProofs) (by simp -implicitDefEqProofs) (by (simp; repeat' (first | exact fresh_no.mono (Nat.zero_le _) | (refine Fresh.set' ?_ (by simp))))) ?_
    intro st' k6 k4 ki he
    have kv := he.1 (2, 6)
    have k4' := he.1 (0, 4)
    simp -implicitDefEqProofs at kv k4'
    simp -implicitDefEqProofs [k6, k4, kv, k4', ki, crashGo_length, diskE, diskNw]
  · simp -implicitDefEqProofs [s23, h1, h2, hm]
    simp -implicitDefEqProofs [diskE, diskNw]

theorem syncGo_length : ∀ (l : List Sect) (safe : List (List UInt8)), (syncGo safe l).length = safe.length
  | [], _ => rfl
  | w :: r, safe => by rw [syncGo, syncGo_length, List.length_set]

end Go.AE

/- slices.Repeat of one element, and what it stands on. -/
set_option linter.unusedVariables false
set_option linter.unusedSimpArgs false
set_option maxHeartbeats 2000000
namespace Go.AE
open Go Go.Proofs

theorem and_mask32 {n : Int} (h0 : 0 ≤ n) (h1 : n < 4294967296) : (((n % 2 ^ IntKind.u64.bits).toNat &&& 4294967295 % 2 ^ IntKind.u64.bits : Nat) : Int) = n := by
  obtain ⟨k, rfl⟩ := Int.eq_ofNat_of_zero_le h0
  have e : ((k : Int) % 2 ^ IntKind.u64.bits).toNat = k := by
    show ((k : Int) % 18446744073709551616).toNat = k
    omega
  have e2 : (4294967295 % 2 ^ IntKind.u64.bits : Nat) = 2 ^ 32 - 1 := rfl
  rw [e, e2, Nat.and_two_pow_sub_one_eq_mod]
  omega

theorem pow32 : (2 : Int) ^ min 32 IntKind.u64.bits = 4294967296 := rfl

theorem mul64_ev {F : CT} (hF : CTok Tryz.prog F) (a b : Int) (ha0 : 0 ≤ a) (ha : a < 4294967296) (hb0 : 0 ≤ b) (hb : b < 4294967296) (hm : a * b < 4294967296) :
    PEv Tryz.prog 68 [.c (.raw (.int .u64 a)), .c (.raw (.int .u64 b))] (.t [(false, [.raw (.int .u64 0)]), (false, [.raw (.int .u64 (a * b))])]) := by
  refine tells_of mixed hF Tryz.func68 sl68 ok68 (by kernel_rfl) (by simp) (by simp) ?_
  have hm0 : 0 ≤ a * b := Int.mul_nonneg ha0 hb0
  have e1 : a.fdiv 4294967296 = 0 := by rw [Int.fdiv_eq_ediv_of_nonneg _ (by omega)]; exact Int.ediv_eq_zero_of_lt ha0 (by omega)
  have e2 : b.fdiv 4294967296 = 0 := by rw [Int.fdiv_eq_ediv_of_nonneg _ (by omega)]; exact Int.ediv_eq_zero_of_lt hb0 (by omega)
  have e3 : (a * b).fdiv 4294967296 = 0 := by rw [Int.fdiv_eq_ediv_of_nonneg _ (by omega)]; exact Int.ediv_eq_zero_of_lt hm0 (by omega)
  have m1 := and_mask32 ha0 (by omega)
  have m2 := and_mask32 hb0 (by omega)
  have w1 : IntKind.wrap .u64 a = a := wrapU_id ha0 (by omega)
  have w2 : IntKind.wrap .u64 b = b := wrapU_id hb0 (by omega)
  have w3 : IntKind.wrap .u64 (a * b) = a * b := wrapU_id hm0 (by omega)
  have w0 : IntKind.wrap .u64 0 = 0 := wrapU_id (by omega) (by omega)
  have m0 := and_mask32 (n := 0) (by omega) (by omega)
  simp -implicitDefEqProofs [s68, iand, pow32, m1, m2, m0, w1, w2, w3, w0, e1, e2, e3]

theorem mul_ev (a b : Int) (ha0 : 0 ≤ a) (ha : a < 4294967296) (hb0 : 0 ≤ b) (hb : b < 4294967296) (hm : a * b < 4294967296) :
    PEv Tryz.prog 47 [.c (.raw (.int .u64 a)), .c (.raw (.int .u64 b))] (.t [(false, [.raw (.int .u64 0)]), (false, [.raw (.int .u64 (a * b))])]) := by
  refine tells_of mixed F4_ok Tryz.func47 sl47 ok47 (by kernel_rfl) (by simp) (by simp) ?_
  simp -implicitDefEqProofs [s47]
  refine acall_pure (mul64_ev F4_ok a b ha0 ha hb0 hb hm) (by simp -implicitDefEqProofs) (by simp -implicitDefEqProofs) (by simp -implicitDefEqProofs) ?_
  simp -implicitDefEqProofs

section
variable {α : Type} [Enc α]
theorem rep_take (j k : Nat) (a : α) (z : List AC) : (rowsE (List.replicate j a) ++ List.replicate k z).take j = rowsE (List.replicate j a) := by
  rw [List.take_append_of_le_length (by simp -implicitDefEqProofs)]
  rw [List.take_of_length_le (by simp -implicitDefEqProofs)]
end

/-- slices.Repeat of one element: its rows. -/
theorem repI_l0 {F : CT} (a : Int) (n : Nat) {Q : AEx → St → Prop} {st : St} (id : Id) (hn1 : 1 ≤ n) (hn2 : n < 1000000) (k7 : st.s 7 = .c (.so id 0 n)) (k8 : st.s 8 = .c (.raw (.int .i64 1)))
    (kid : st.H id = .arr 3 1 false (rowsE [a] ++ List.replicate (n - 1) [.raw (.int .i64 0)])) (hn : ∀ st', st'.s 7 = .c (.so id 0 n) → st'.H id = .arr 3 1 false (rowsE (List.replicate n a)) → Q (.exit 0) st') :
    awpS Tryz.prog F (.loop s24L0) Q st := by
  refine loop_n (fun m st => ∃ j : Nat, 1 ≤ j ∧ j ≤ n ∧ m = n - j ∧ st.s 7 = .c (.so id 0 n) ∧ st.s 8 = .c (.raw (.int .i64 j)) ∧ st.H id = .arr 3 1 false (rowsE (List.replicate j a) ++ List.replicate (n - j) [.raw (.int .i64 0)])) (n - 1)
    ⟨1, by omega, by omega, rfl, k7, by simpa using k8, by simpa using kid⟩ ?_
  rintro m st ⟨j, h1, h2, rfl, k7, k8, kid⟩
  by_cases hlt : j < n
  · have e1 : IntKind.wrap .i64 ((j : Int) + ((min (n - j) j : Nat) : Int)) = ((j + min (n - j) j : Nat) : Int) := by rw [wrap64_id] <;> omega
    simp -implicitDefEqProofs [s24L0, k7, k8, kid, hlt]
    refine ⟨h2, n - (j + min (n - j) j), by omega, j + min (n - j) j, by omega, by omega, rfl, e1, ?_⟩
    have t1 : List.take (n - j) (rowsE (List.replicate j a)) = rowsE (List.replicate (min (n - j) j) a) := by rw [rowsE_take, List.take_replicate]
    have t2 : List.drop (j + min (n - j) j) (rowsE (List.replicate j a) ++ List.replicate (n - j) [AC.raw (Value.int IntKind.i64 0)]) = List.replicate (n - (j + min (n - j) j)) [AC.raw (Value.int IntKind.i64 0)] := by
      rw [List.drop_append, List.drop_eq_nil_of_le (by simp -implicitDefEqProofs), List.nil_append, List.drop_replicate]
      congr 1; simp -implicitDefEqProofs; omega
    rw [t1, t2, ← List.append_assoc, ← rowsE_append, List.replicate_append_replicate]
  · have : j = n := by omega
    subst this
    simp -implicitDefEqProofs [s24L0, k7, k8, kid, hlt]
    exact hn _ (by simp -implicitDefEqProofs [k7]) (by simpa using kid)

theorem repI_ev (a : Int) (n : Int) (h0 : 0 ≤ n) (h1 : n < 1000000) :
    PEv Tryz.prog 24 [.c (.sl .brw false (rowsE [a])), .c (.raw (.int .i64 n))] (.c (.nw 3 1 (rowsE (List.replicate n.toNat a)))) := by
  refine tells_of mixed F4_ok Tryz.func24 sl24 ok24 (by kernel_rfl) (by simp) (by simp) ?_
  have w1 : IntKind.wrap .u64 1 = 1 := wrapU_id (by omega) (by omega)
  have w2 : IntKind.wrap .u64 n = n := wrapU_id h0 (by omega)
  have w3 : IntKind.wrap .i64 n = n := wrap64_id (by omega) (by omega)
  have n0 : ¬ n < 0 := by omega
  simp -implicitDefEqProofs [s24, n0, w1, w2]
  refine acall_pure (mul_ev 1 n (by omega) (by omega) h0 (by omega) (by omega)) (by simp -implicitDefEqProofs) (by simp -implicitDefEqProofs) (by simp -implicitDefEqProofs) ?_
  simp -implicitDefEqProofs [n0, w1, w2, w3, show n ≤ 9223372036854775807 by omega, show ¬ 9223372036854775807 < n by omega, h0]
  by_cases hz : n = 0
  · subst hz
    simp -implicitDefEqProofs
    refine loop_n (fun m st => st.s 7 = .c (.so (4, 30) 0 0) ∧ st.s 8 = .c (.raw (.int .i64 0)) ∧ st.H (4, 30) = .arr 3 1 false []) 0 (by simp -implicitDefEqProofs) ?_
    rintro m st ⟨k7, k8, kH⟩
    simp -implicitDefEqProofs [s24L0, k7, k8, kH]
  · obtain ⟨k, rfl⟩ : ∃ k : Nat, n = (k : Int) := ⟨n.toNat, by omega⟩
    have hk : 1 ≤ k := by omega
    have e1 : min k 1 = 1 := by omega
    refine ⟨by omega, repI_l0 a k (4, 30) hk (by omega) (by simp -implicitDefEqProofs) (by simp -implicitDefEqProofs [e1]) ?_ ?_⟩
    · simp -implicitDefEqProofs [e1]
      rw [List.take_of_length_le (by simp -implicitDefEqProofs; omega)]
    · intro st' k7 kH
      simp -implicitDefEqProofs [k7, kH]
end Go.AE

/- disk.Blank. -/
set_option linter.unusedVariables false
set_option linter.unusedSimpArgs false
set_option maxHeartbeats 2000000
namespace Go.AE
open Go Go.Proofs

theorem repeat_ev (s : List UInt8) (n : Nat) (h : s.length * n ≤ 140737488355328) (hn : n ≤ 1000000) : PEv Tryz.prog 59 [.c (.str s), .c (.raw (.int .i64 n))] (.c (.str (Lib.repeatL s n))) := by
  refine pev_str (by kernel_rfl) (by simp -implicitDefEqProofs) fun w hI F vs hs hr => ?_
  have h0 := relC_str (relV_c (hr 0 _ rfl))
  have h1 := relC_raw (relV_c (hr 1 _ rfl))
  rw [vs2 hs h0 h1]
  exact Any.strings_Repeat lays105 lays105X ⟨s.toArray⟩ n w (by omega) (by simpa [ByteArray.size] using h)

end Go.AE

/- The disk's functions and the reference's: New, Put, Sync, Read, Check. -/
set_option linter.unusedVariables false
set_option linter.unusedSimpArgs false
set_option maxHeartbeats 2000000
namespace Go.AE
open Go Go.Proofs

def newR (n : Int) : DiskV × Int := if 1 ≤ n ∧ n ≤ 400 then (⟨List.replicate n.toNat blank, []⟩, 0) else (⟨[], []⟩, 1)

/-- A put by the program: the disk, the error. -/
def putR (d : DiskV) (at_ : Int) (s : List UInt8) : DiskV × Int :=
  if mayB d = false ∨ s.length ≠ 32 then (⟨[], []⟩, 1) else if at_ < 0 ∨ (d.safe.length : Int) ≤ at_ then (⟨[], []⟩, 3) else if 400 ≤ d.wait.length then (⟨[], []⟩, 6)
  else (⟨d.safe, d.wait ++ [⟨at_, s⟩]⟩, 0)

def refPutR (d : DiskV) (at_ : Int) (s : List UInt8) : DiskV × Int :=
  if at_ < 0 ∨ (d.safe.length : Int) ≤ at_ then (⟨[], []⟩, 3) else if 400 ≤ d.wait.length then (⟨[], []⟩, 6)
  else (⟨d.safe, d.wait ++ [⟨at_, s⟩]⟩, 0)

def syncR (d : DiskV) : DiskV × Int := crashR d (List.replicate d.wait.length 1)

def readR (d : DiskV) (at_ : Int) : List UInt8 × Int :=
  if mayB d = false then ([], 1) else if at_ < 0 ∨ (d.safe.length : Int) ≤ at_ then ([], 3) else ((syncR d).1.safe.getD at_.toNat [], 0)

theorem refNew_l0 {F : CT} (n : Nat) (hn1 : n ≤ 1000) {Q : AEx → St → Prop} {st : St} (v b : Id) (hF : ctGet F 13 = ctGet F4 13) (k0 : st.s 0 = .c (.raw (.int .i64 n))) (k3 : st.s 3 = .c (.pt v 0 0)) (k2 : st.s 2 = .c (.pt b 0 0))
    (k4 : st.s 4 = .c (.raw (.int .i64 0))) (kv : st.H v = .arr 30 2 false [[.raw (.slice none 0 0), .raw (.slice none 0 0)]]) (hf : Fresh st.H st.T)
    (hq : ∀ st' c, st'.s 3 = .c (.pt v 0 0) → st'.s 2 = .c (.pt b 0 0) → st'.H v = .arr 30 2 false [[c, .raw (.slice none 0 0)]] → OwnL st'.H 9 1 st.T c (List.replicate n blank) →
      ExtH [v] st.H st.T st'.H st'.T → Q (.exit 0) st') :
    awpS Tryz.prog F (.loop s8L0) Q st := by
  refine loop_n (fun m st' => ∃ j : Nat, j ≤ n ∧ m = n - j ∧ st'.s 0 = .c (.raw (.int .i64 n)) ∧ st'.s 3 = .c (.pt v 0 0) ∧ st'.s 2 = .c (.pt b 0 0) ∧ st'.s 4 = .c (.raw (.int .i64 j)) ∧ ExtH [v] st.H st.T st'.H st'.T ∧
    ∃ c, st'.H v = .arr 30 2 false [[c, .raw (.slice none 0 0)]] ∧ OwnL st'.H 9 1 st.T c (List.replicate j blank)) n
    ⟨0, by simp -implicitDefEqProofs [k0, k3, k2, k4, kv, ExtH.refl hf]; exact OwnL.nil⟩ ?_
  rintro m st' ⟨j, hj, rfl, k0, k3, k2, k4, he, c, kv, hown⟩
  have hf' := he.fresh
  have hT := he.2.2.1
  have hfu : ∀ k d, st'.T ≤ k → st'.H (k, d) = .unborn := hf'
  obtain ⟨f4, f5, f6⟩ := hf'.arr kv
  by_cases hlt : j < n
  · have e2 : IntKind.wrap .i64 ((j : Int) + 1) = ((j + 1 : Nat) : Int) := by rw [wrap64_id] <;> omega
    have hrep : rowsE (List.replicate j blank) ++ [[AC.str blank]] = rowsE (List.replicate (j + 1) blank) := by
      rw [show [[AC.str blank]] = rowsE [blank] from rfl, ← rowsE_append, List.replicate_succ']
    rcases hown with ⟨rfl, hl⟩ | ⟨id, rfl, hid, kid⟩
    · obtain rfl : j = 0 := by simpa using hl
      simp -implicitDefEqProofs [s8L0, k0, k3, k2, k4, kv, hlt, e2, hF, hfu, f4, f5]
      refine ⟨n - 1, by omega, 1, by omega, rfl, rfl, ?_, OwnL.so (by simp -implicitDefEqProofs) (by simp -implicitDefEqProofs; omega) (by simp -implicitDefEqProofs [f4, rowsE])⟩
      repeat' (first | exact he.tick (by first | omega | (simp <;> omega)) | (refine ExtH.new ?_ (by first | omega | (simp <;> omega)) (by first | omega | (simp <;> omega))) | (refine ExtH.set ?_ (by simp) (by first | omega | (simp <;> omega))))
    · obtain ⟨f7, f8, f9⟩ := hf'.arr kid
      have hne : (id = v) = False := by
        simp only [eq_iff_iff, iff_false]; intro e; rw [e, kv] at kid; cases kid
      have hne' : (v = id) = False := by
        simp only [eq_iff_iff, iff_false]; intro e; rw [← e, kv] at kid; cases kid
      simp -implicitDefEqProofs [s8L0, k0, k3, k2, k4, kv, kid, hlt, e2, hF, hfu, f4, f5, f7, f8, hne, hne']
      refine ⟨by omega, n - (j + 1), by omega, j + 1, by omega, rfl, rfl, ?_, OwnL.so (by simp -implicitDefEqProofs) (by simp -implicitDefEqProofs; omega) (by simp -implicitDefEqProofs [f4, hrep])⟩
      repeat' (first | exact he.tick (by first | omega | (simp <;> omega)) | (refine ExtH.new ?_ (by first | omega | (simp <;> omega)) (by first | omega | (simp <;> omega))) | (refine ExtH.set ?_ (by simp) (by first | omega | (simp <;> omega))))
  · have : j = n := by omega
    subst this
    simp -implicitDefEqProofs [s8L0, k0, k3, k2, k4, hlt]
    rcases hown with ⟨rfl, hl⟩ | ⟨id, rfl, hid, kid⟩
    · exact hq _ _ (by simp -implicitDefEqProofs [k3]) (by simp -implicitDefEqProofs [k2]) (by simpa using kv) (.inl ⟨rfl, hl⟩) (he.tick (by simp -implicitDefEqProofs))
    · exact hq _ _ (by simp -implicitDefEqProofs [k3]) (by simp -implicitDefEqProofs [k2]) (by simpa using kv) (.inr ⟨id, rfl, hid, by simpa using kid⟩) (he.tick (by simp -implicitDefEqProofs))

theorem refNew_ev (n : Nat) (hn : n ≤ 1000) : PEv Tryz.prog 8 [.c (.raw (.int .i64 n))] (.g (diskNw ⟨List.replicate n blank, []⟩)) := by
  refine tells_of mixed F4_ok Tryz.func8 sl8 ok8 (by kernel_rfl) (by simp [diskNw]) (by simp) ?_
  simp -implicitDefEqProofs [s8]
  refine refNew_l0 n hn (1, 3) (0, 2) rfl (by simp -implicitDefEqProofs) (by simp -implicitDefEqProofs) (by simp -implicitDefEqProofs) (by simp -implicitDefEqProofs) (by simp -implicitDefEqProofs) (by (simp; repeat' (first | exact fresh_no.mono (Nat.zero_le _) | (refine Fresh.set' ?_ (by simp))))) ?_
  intro st' c k3 k2 kv hown he
  have k2' := he.1 (0, 2)
  simp -implicitDefEqProofs at k2'
  rcases hown with ⟨rfl, hl⟩ | ⟨id, rfl, hid, kid⟩
  · obtain rfl : n = 0 := by simpa using hl
    simp -implicitDefEqProofs [k3, k2, kv, k2', diskNw]
  · have hne : id ≠ (0, 2) := by rintro rfl; simp -implicitDefEqProofs at hid
    simp -implicitDefEqProofs [k3, k2, kv, k2', kid, diskNw, hne]

theorem refNewI_ev (n : Int) (h : 0 ≤ n ∧ n ≤ 1000) : PEv Tryz.prog 8 [.c (.raw (.int .i64 n))] (.g (diskNw ⟨List.replicate n.toNat blank, []⟩)) := by
  obtain ⟨k, rfl⟩ : ∃ k : Nat, n = (k : Int) := ⟨n.toNat, by omega⟩
  exact refNew_ev k (by omega)

theorem diskPut_ev (d : DiskV) (at_ : Int) (s : List UInt8) (h1 : d.safe.length < 1000000) (h2 : d.wait.length < 1000000) :
    PEv Tryz.prog 22 [Arg.enc d, .c (.raw (.int .i64 at_)), .c (.str s)] (diskE (putR d at_ s)) := by
  refine tells_of mixed F4_ok Tryz.func22 sl22 ok22 (by kernel_rfl) (by simp [diskE, diskNw]) (by simp) ?_
  unfold putR
  by_cases hm : mayB d = true
  · by_cases hs : s.length = 32
    · rw [if_neg (by simp -implicitDefEqProofs [hm, hs])]
      by_cases g1 : at_ < 0
      · rw [if_pos (.inl g1)]
        simp -implicitDefEqProofs [s22, h1, h2, hm, hs, g1, diskE, diskNw]
      · by_cases g2 : (d.safe.length : Int) ≤ at_
        · rw [if_pos (.inr g2)]
          simp -implicitDefEqProofs [s22, h1, h2, hm, hs, g1, g2, diskE, diskNw]
        · rw [if_neg (by omega)]
          by_cases g3 : 400 ≤ d.wait.length
          · have g3' : (400 : Int) ≤ d.wait.length := by omega
            rw [if_pos g3]
            simp -implicitDefEqProofs [s22, h1, h2, hm, hs, g1, g2, g3', diskE, diskNw]
          · have g3' : ¬ (400 : Int) ≤ d.wait.length := by omega
            rw [if_neg g3]
            simp -implicitDefEqProofs [s22, h1, h2, hm, hs, g1, g2, g3', diskE, diskNw]
            exact ⟨⟨by omega, by omega⟩, by rw [rowsE_append]; rfl⟩
    · rw [if_pos (.inr hs)]
      simp -implicitDefEqProofs [s22, h1, h2, hm, hs, diskE, diskNw]
  · rw [if_pos (.inl (by simpa using hm))]
    simp -implicitDefEqProofs [s22, h1, h2, hm, diskE, diskNw]

theorem diskSync_ev (d : DiskV) (h1 : d.safe.length < 1000000) (h2 : d.wait.length < 1000000) : PEv Tryz.prog 9 [Arg.enc d] (diskE (syncR d)) := by
  refine tells_of mixed F4_ok Tryz.func9 sl9 ok9 (by kernel_rfl) (by simp [diskE, diskNw]) (by simp) ?_
  simp -implicitDefEqProofs [s9]
  refine acall_pure (repI_ev 1 d.wait.length (by omega) (by omega)) (by simp -implicitDefEqProofs; rfl) (by simp -implicitDefEqProofs) (by simp -implicitDefEqProofs) ?_
  simp -implicitDefEqProofs
  refine acall_pure (diskCrash_ev d (List.replicate d.wait.length 1) h1 h2 (by simp -implicitDefEqProofs; omega)) (by simp -implicitDefEqProofs; rw [List.take_of_length_le (by simp -implicitDefEqProofs)]) (by simp -implicitDefEqProofs [diskE, diskNw]) (by simp -implicitDefEqProofs [diskE, diskNw]) ?_
  simp -implicitDefEqProofs [diskE, diskNw, syncR]

theorem crashR_len {d : DiskV} {keep : List Int} (h : mayB d = true) : (crashR d keep).1.safe.length = d.safe.length := by
  rw [crashR, if_pos h]; exact crashGo_length _ _ _ _

end Go.AE

/- The disk's statements: acts, the table of what the disk's functions tell, wakes, answers written over. -/
set_option linter.unusedVariables false
set_option linter.unusedSimpArgs false
set_option maxHeartbeats 2000000
set_option maxRecDepth 100000
namespace Go.AE
open Go Go.Proofs

structure ActD where
  do_ : Int
  n : Int
  s : List UInt8
  k : List Int

instance encActD : Enc ActD where
  w := 4
  row a := [.raw (.int .i64 a.do_), .raw (.int .i64 a.n), .str a.s, .sl .old false (rowsE a.k)]
  dec | [.raw (.int .i64 d), .raw (.int .i64 n), .str s, .sl .old false k] => (decE k).map fun k => ⟨d, n, s, k⟩ | _ => none
  dec_row a := by simp -implicitDefEqProofs
  row_dec {r a} h := by
    split at h
    · rw [Option.map_eq_some_iff] at h
      obtain ⟨k, hk, rfl⟩ := h
      rw [decE_some hk]
    · cases h
  len _ := rfl
  old a c hc := by
    simp -implicitDefEqProofs at hc
    rcases hc with rfl | rfl | rfl | rfl
    · exact .raw _
    · exact .raw _
    · exact .str _
    · rw [oldOK_sl]; simp -implicitDefEqProofs
  ret a c hc := by
    simp -implicitDefEqProofs at hc
    rcases hc with rfl | rfl | rfl | rfl
    · exact .raw _
    · exact .raw _
    · exact .str _
    · rw [retOK_sl]; simp -implicitDefEqProofs

@[simp] theorem row_ActD (a : ActD) : Enc.row a = [AC.raw (.int .i64 a.do_), AC.raw (.int .i64 a.n), AC.str a.s, AC.sl .old false (rowsE a.k)] := rfl
@[simp] theorem w_ActD : Enc.w ActD = 4 := rfl

def F5_h22 : List AV → Option (Prop × AV) := t3 (fun (d : DiskV) _ _ => d.safe.length < 1000000 ∧ d.wait.length < 1000000) fun (d : DiskV) (n : Int) (s : List UInt8) => diskE (putR d n s)
@[simp] theorem F5_ap22 {l : List AV} : F5_h22 l = (t3 (fun (d : DiskV) _ _ => d.safe.length < 1000000 ∧ d.wait.length < 1000000) fun (d : DiskV) (n : Int) (s : List UInt8) => diskE (putR d n s)) l := rfl
def F5_h9 : List AV → Option (Prop × AV) := t1 (fun d : DiskV => d.safe.length < 1000000 ∧ d.wait.length < 1000000) fun d : DiskV => diskE (syncR d)
@[simp] theorem F5_ap9 {l : List AV} : F5_h9 l = (t1 (fun d : DiskV => d.safe.length < 1000000 ∧ d.wait.length < 1000000) fun d : DiskV => diskE (syncR d)) l := rfl
def F5_h23 : List AV → Option (Prop × AV) := t2 (fun (d : DiskV) (k : List Int) => d.safe.length < 1000000 ∧ d.wait.length < 1000000 ∧ k.length < 281474976710656) fun (d : DiskV) (k : List Int) => diskE (crashR d k)
@[simp] theorem F5_ap23 {l : List AV} : F5_h23 l = (t2 (fun (d : DiskV) (k : List Int) => d.safe.length < 1000000 ∧ d.wait.length < 1000000 ∧ k.length < 281474976710656) fun (d : DiskV) (k : List Int) => diskE (crashR d k)) l := rfl
def F5_h8 : List AV → Option (Prop × AV) := t1 (fun n : Int => 0 ≤ n ∧ n ≤ 1000) fun n : Int => .g (diskNw ⟨List.replicate n.toNat blank, []⟩)
@[simp] theorem F5_ap8 {l : List AV} : F5_h8 l = (t1 (fun n : Int => 0 ≤ n ∧ n ≤ 1000) fun n : Int => .g (diskNw ⟨List.replicate n.toNat blank, []⟩)) l := rfl
def F5 : CT := (22, .pu F5_h22) :: (9, .pu F5_h9) :: (23, .pu F5_h23) :: (8, .pu F5_h8) :: F4
theorem F5_ok : CTok Tryz.prog F5 := ⟨tells3 fun d n s h => diskPut_ev d n s h.1 h.2,
  tells1 fun d h => diskSync_ev d h.1 h.2,
  tells2 fun d k h => diskCrash_ev d k h.1 h.2.1 h.2.2,
  tells1 fun n h => refNewI_ev n h, F4_ok⟩
@[simp] theorem F5_get22 : ctGet F5 22 = some (.pu F5_h22) := rfl
@[simp] theorem F5_get9 : ctGet F5 9 = some (.pu F5_h9) := rfl
@[simp] theorem F5_get23 : ctGet F5 23 = some (.pu F5_h23) := rfl
@[simp] theorem F5_get8 : ctGet F5 8 = some (.pu F5_h8) := rfl
@[simp] theorem F5_skip {n : Nat} (h : (n == 22 || n == 9 || n == 23 || n == 8) = false) : ctGet F5 n = ctGet F4 n := by
  simp only [Bool.or_eq_false_iff, beq_eq_false_iff_ne, ne_eq] at h
  simp [F5, ctGet, h]

def wakesText : List UInt8 := List.replicate 31 0 ++ [120]
theorem wkT : List.replicate 31 (0 : UInt8) ++ [120] = wakesText := rfl
theorem wk1 : newR 3 = (⟨List.replicate 3 blank, []⟩, 0) := by decide
theorem wk2 : putR ⟨List.replicate 3 blank, []⟩ 2 wakesText = (⟨List.replicate 3 blank, [⟨2, wakesText⟩]⟩, 0) := by decide
theorem wk3 : crashR ⟨List.replicate 3 blank, [⟨2, wakesText⟩]⟩ [] = (⟨List.replicate 3 blank, []⟩, 0) := by decide
theorem wk4 : syncR ⟨List.replicate 3 blank, [⟨2, wakesText⟩]⟩ = (⟨[blank, blank, wakesText], []⟩, 0) := by decide
theorem wk5 : readR ⟨[blank, blank, wakesText], []⟩ 2 = (wakesText, 0) := by decide

@[simp] theorem rowsE_take_all {α : Type} [Enc α] {l : List α} {n : Nat} (h : l.length ≤ n) : List.take n (rowsE l) = rowsE l := by rw [List.take_of_length_le (by simpa using h)]

@[simp] theorem dec_Disk0 (a : List (List UInt8)) : Arg.dec (.g [.sl .brw false (rowsE a), .sl .brw false []]) = some (DiskV.mk a []) := dec_Disk a []
@[simp] theorem dec_Disk00 : Arg.dec (.g [.sl .brw false [], .sl .brw false []]) = some (DiskV.mk [] []) := dec_Disk [] []
theorem view0 : Arg.dec (AV.c (AC.sl .brw false [])) = some ([] : List Int) := rfl

end Go.AE

/- What the library has proved of Go's own functions, at this program's numbers. Printed by a program of this session. -/
namespace Go.AE
open Go Go.Proofs Go.Shelf

def lays156_ren : Go.Shelf.Ren := ⟨fun | 156 => 48 | 165 => 69 | 166 => 70 | 169 => 71 | 240 => 83 | 241 => 84 | 276 => 91 | 277 => 92 | n => n, fun | 31 => 27 | 9 => 9 | 3 => 3 | 4 => 4 | 0 => 0 | 20 => 20 | 72 => 109 | 76 => 113 | 70 => 107 | 37 => 83 | 75 => 112 | 127 => 124 | 164 => 133 | 5 => 5 | 80 => 58 | n => n, fun  | n => n⟩
theorem lays156 : Lays.n156 Tryz.prog lays156_ren where
  mixed := by kernel_rfl
  f156 := Tryz.func48.trans (congrArg some (by kernel_rfl))
  f165 := Tryz.func69.trans (congrArg some (by kernel_rfl))
  f166 := Tryz.func70.trans (congrArg some (by kernel_rfl))
  f169 := Tryz.func71.trans (congrArg some (by kernel_rfl))
  f240 := Tryz.func83.trans (congrArg some (by kernel_rfl))
  f241 := Tryz.func84.trans (congrArg some (by kernel_rfl))
  f276 := Tryz.func91.trans (congrArg some (by kernel_rfl))
  f277 := Tryz.func92.trans (congrArg some (by kernel_rfl))
  t0 := Tryz.underlying0
  a0 := Tryz.isAgg0
  z0 := Tryz.sizeOf0
  v0 := Tryz.zeroValue0
  t3 := Tryz.underlying3
  a3 := Tryz.isAgg3
  z3 := Tryz.sizeOf3
  v3 := Tryz.zeroValue3
  t4 := Tryz.underlying4
  a4 := Tryz.isAgg4
  z4 := Tryz.sizeOf4
  v4 := Tryz.zeroValue4
  t9 := Tryz.underlying9
  a9 := Tryz.isAgg9
  z9 := Tryz.sizeOf9
  v9 := Tryz.zeroValue9
  t20 := Tryz.underlying20
  a20 := Tryz.isAgg20
  z20 := Tryz.sizeOf20
  v20 := Tryz.zeroValue20
  t31 := Tryz.underlying27
  a31 := Tryz.isAgg27
  z31 := Tryz.sizeOf27
  v31 := Tryz.zeroValue27
  t37 := Tryz.underlying83
  a37 := Tryz.isAgg83
  z37 := Tryz.sizeOf83
  v37 := Tryz.zeroValue83
  t70 := Tryz.underlying107
  a70 := Tryz.isAgg107
  z70 := Tryz.sizeOf107
  v70 := Tryz.zeroValue107
  t72 := Tryz.underlying109
  a72 := Tryz.isAgg109
  z72 := Tryz.sizeOf109
  v72 := Tryz.zeroValue109
  t75 := Tryz.underlying112
  a75 := Tryz.isAgg112
  z75 := Tryz.sizeOf112
  v75 := Tryz.zeroValue112
  t76 := Tryz.underlying113
  a76 := Tryz.isAgg113
  z76 := Tryz.sizeOf113
  v76 := Tryz.zeroValue113
  t127 := Tryz.underlying124
  a127 := Tryz.isAgg124
  z127 := Tryz.sizeOf124
  v127 := Tryz.zeroValue124
  t164 := Tryz.underlying133
  a164 := Tryz.isAgg133
  z164 := Tryz.sizeOf133
  v164 := Tryz.zeroValue133
theorem lays156X : Builder.Extra Tryz.prog lays156_ren where
  sizeBuilder := by kernel_rfl
  liesBuilder := by kernel_rfl
  t5 := Tryz.underlying5
  a5 := Tryz.isAgg5
  z5 := Tryz.sizeOf5
  v5 := Tryz.zeroValue5
  infoByte := by kernel_rfl
  cellsByte := by kernel_rfl
  sizeByte := by kernel_rfl
  neB5 := by decide

end Go.AE

/- An op of bytes; frames of entries. -/
set_option linter.unusedVariables false
set_option linter.unusedSimpArgs false
set_option maxHeartbeats 4000000
set_option maxRecDepth 100000
namespace Go.AE
open Go Go.Proofs

/-- Texts, one behind the other. -/
theorem join_ev (l : List (List UInt8)) (h1 : l.length < 1000000) (h2 : l.flatten.length ≤ 140737488355328) : PEv Tryz.prog 48 [Arg.enc l, .c (.str [])] (.c (.str l.flatten)) := by
  have hj : Lib.join l [] = l.flatten := by
    unfold Lib.join
    induction l with
    | nil => rfl
    | cons x r ih =>
      cases r with
      | nil => simp -implicitDefEqProofs (maxSteps := 400000) (maxDischargeDepth := 6) [List.intercalate]
      | cons y r => 
        have := ih (by simp -implicitDefEqProofs (maxSteps := 400000) (maxDischargeDepth := 6) at h1 ⊢; omega) (by simp -implicitDefEqProofs (maxSteps := 400000) (maxDischargeDepth := 6) at h2 ⊢; omega)
        simp -implicitDefEqProofs (maxSteps := 400000) (maxDischargeDepth := 6) [List.intercalate, List.intersperse] at this ⊢
        rw [this]
  refine pev_str (by kernel_rfl) (by simp -implicitDefEqProofs (maxSteps := 400000) (maxDischargeDepth := 6)) fun w hI F vs hs hr => ?_
  have h0 := relV_c (hr 0 _ rfl)
  have h01 := relC_str (relV_c (hr 1 _ rfl))
  generalize hv : vs.getD 0 undef = v at h0
  rw [vs2 hs hv h01]
  generalize hx : rowsE l = xs at h0
  cases h0 with
  | slNil _ _ _ hn =>
    cases l with
    | cons => cases hx
    | nil =>
      rcases hn with rfl | ⟨a, rfl⟩
      · exact (Any.strings_Join_none lays156 lays156X none 0 ⟨#[]⟩ w).mono fun e w' ⟨he, hw⟩ => ⟨he, hw ▸ RowKit.Below.refl _ _⟩
      · exact (Any.strings_Join_none lays156 lays156X (some a) 0 ⟨#[]⟩ w).mono fun e w' ⟨he, hw⟩ => ⟨he, hw ▸ RowKit.Below.refl _ _⟩
  | sl _ _ _ b o cap sz us hb hF hcap hcl hrow hcell hone hrel =>
    subst hx
    have hlen : (rowsE l).length = l.length := by simp -implicitDefEqProofs (maxSteps := 400000) (maxDischargeDepth := 6) [rowsE]
    have := Any.strings_Join lays156 lays156X b o cap (l.map fun s => (⟨s.toArray⟩ : ByteArray)) ⟨#[]⟩ w (fun j x hjx => ?_) hb (by simp -implicitDefEqProofs (maxSteps := 400000) (maxDischargeDepth := 6); omega) (by simp -implicitDefEqProofs (maxSteps := 400000) (maxDischargeDepth := 6); rw [← hlen]; exact hcap) (by simp -implicitDefEqProofs (maxSteps := 400000) (maxDischargeDepth := 6) [Function.comp_def, hj]; simpa using h2)
    · simp -implicitDefEqProofs (maxSteps := 400000) (maxDischargeDepth := 6) [Function.comp_def, hj] at this
      rw [hlen]
      exact this
    · simp -implicitDefEqProofs (maxSteps := 400000) (maxDischargeDepth := 6) at hjx
      obtain ⟨s, hs', rfl⟩ := hjx
      have hri : (rowsE l)[j]? = some [AC.str s] := by simp -implicitDefEqProofs (maxSteps := 400000) (maxDischargeDepth := 6) [rowsE, hs']
      have hsz : 1 = sz := hrow j _ hri
      subst hsz
      have hjl : j < l.length := (List.getElem?_eq_some_iff.1 hs').1
      rw [hcell j (by rw [hlen]; omega)]
      have := relC_str (hrel j 0 _ _ hri rfl)
      simp -implicitDefEqProofs (maxSteps := 400000) (maxDischargeDepth := 6) at this
      rw [this]

def prefB (s p : List UInt8) : Bool := Lib.hasPrefix s p
theorem hasPrefix_ev (s p : List UInt8) : PEv Tryz.prog 51 [.c (.str s), .c (.str p)] (.c (.raw (.bool (prefB s p)))) := by
  refine pev_raw (by kernel_rfl) (by simp -implicitDefEqProofs (maxSteps := 400000) (maxDischargeDepth := 6)) fun w hI F vs hs hr => ?_
  have h0 := relC_str (relV_c (hr 0 _ rfl))
  have h1 := relC_str (relV_c (hr 1 _ rfl))
  rw [vs2 hs h0 h1]
  exact (Any.strings_HasPrefix { lays105 with } ⟨s.toArray⟩ ⟨p.toArray⟩ w).mono fun e w' ⟨he, hw⟩ => ⟨he, hw ▸ RowKit.Below.refl _ _⟩

end Go.AE

/- An op of bytes; frames of entries. -/
set_option linter.unusedVariables false
set_option linter.unusedSimpArgs false
set_option maxHeartbeats 4000000
set_option maxRecDepth 100000
namespace Go.AE
open Go Go.Proofs

theorem repeatI_ev (s : List UInt8) (n : Int) (h0 : 0 ≤ n ∧ n ≤ 1000000) (h : s.length = 1) : PEv Tryz.prog 59 [.c (.str s), .c (.raw (.int .i64 n))] (.c (.str (Lib.repeatL s n.toNat))) := by
  have := repeat_ev s n.toNat (by rw [h]; omega) (by omega)
  rwa [Int.toNat_of_nonneg h0.1] at this

def FT0_h33 : List AV → Option (Prop × AV) := t1 (fun n => 0 ≤ n ∧ n < 9223372036854775808) fun n : Int => .c (.str (bytesN n.toNat))
@[simp] theorem FT0_ap33 {l : List AV} : FT0_h33 l = (t1 (fun n => 0 ≤ n ∧ n < 9223372036854775808) fun n : Int => .c (.str (bytesN n.toNat))) l := rfl
def FT0_h72 : List AV → Option (Prop × AV) := t1 (fun s => s.length < 4611686018427387904) fun s : List UInt8 => takeAV s
@[simp] theorem FT0_ap72 {l : List AV} : FT0_h72 l = (t1 (fun s => s.length < 4611686018427387904) fun s : List UInt8 => takeAV s) l := rfl
def FT0_h34 : List AV → Option (Prop × AV) := t1 okP fun o : OpV => .c (.str (spellN o))
@[simp] theorem FT0_ap34 {l : List AV} : FT0_h34 l = (t1 okP fun o : OpV => .c (.str (spellN o))) l := rfl
def FT0_h36 : List AV → Option (Prop × AV) := t1 (fun s => s.length < 4611686018427387904) fun s : List UInt8 => .c (.str (sealA s))
@[simp] theorem FT0_ap36 {l : List AV} : FT0_h36 l = (t1 (fun s => s.length < 4611686018427387904) fun s : List UInt8 => .c (.str (sealA s))) l := rfl
def FT0_h49 : List AV → Option (Prop × AV) := t1 (fun s => s.length < 4611686018427387904) fun s : List UInt8 => sealTAV s
@[simp] theorem FT0_ap49 {l : List AV} : FT0_h49 l = (t1 (fun s => s.length < 4611686018427387904) fun s : List UInt8 => sealTAV s) l := rfl
def FT0_h59 : List AV → Option (Prop × AV) := t2 (fun s n => (0 ≤ n ∧ n ≤ 1000000) ∧ s.length = 1) fun (s : List UInt8) (n : Int) => .c (.str (Lib.repeatL s n.toNat))
@[simp] theorem FT0_ap59 {l : List AV} : FT0_h59 l = (t2 (fun s n => (0 ≤ n ∧ n ≤ 1000000) ∧ s.length = 1) fun (s : List UInt8) (n : Int) => .c (.str (Lib.repeatL s n.toNat))) l := rfl
def FT0_h48 : List AV → Option (Prop × AV) := t2 (fun l s => s = [] ∧ l.length < 1000000 ∧ l.flatten.length ≤ 140737488355328) fun (l : List (List UInt8)) (s : List UInt8) => .c (.str l.flatten)
@[simp] theorem FT0_ap48 {l : List AV} : FT0_h48 l = (t2 (fun l s => s = [] ∧ l.length < 1000000 ∧ l.flatten.length ≤ 140737488355328) fun (l : List (List UInt8)) (s : List UInt8) => .c (.str l.flatten)) l := rfl
def FT0_h51 : List AV → Option (Prop × AV) := t2 (fun _ _ => True) fun s p : List UInt8 => .c (.raw (.bool (prefB s p)))
@[simp] theorem FT0_ap51 {l : List AV} : FT0_h51 l = (t2 (fun _ _ => True) fun s p : List UInt8 => .c (.raw (.bool (prefB s p)))) l := rfl
def FT0_h16 : List AV → Option (Prop × AV) := t1 (fun e => okO e.op) fun e : EntryV => .c (.raw (.bool (entMayB e)))
@[simp] theorem FT0_ap16 {l : List AV} : FT0_h16 l = (t1 (fun e => okO e.op) fun e : EntryV => .c (.raw (.bool (entMayB e)))) l := rfl
def FT0_h86 : MH := mh1 127 2 (rdG okR rdOp outO)
@[simp] theorem FT0_ap86 {H : Heap} {l : List AV} : FT0_h86 H l = (mh1 127 2 (rdG okR rdOp outO)) H l := rfl
def FT0 : CT := (33, .pu FT0_h33) :: (72, .pu FT0_h72) :: (34, .pu FT0_h34) :: (36, .pu FT0_h36) :: (49, .pu FT0_h49) :: (59, .pu FT0_h59) :: (48, .pu FT0_h48) :: (51, .pu FT0_h51) :: (16, .pu FT0_h16) :: (86, .mu FT0_h86) :: F5
theorem FT0_ok : CTok Tryz.prog FT0 := ⟨tells1 fun n h => by have := numBytes_ev n.toNat (by omega); rwa [Int.toNat_of_nonneg h.1] at this,
  tells1 fun s h => numTake_ev s h,
  tells1 fun o h => spell_ev o h,
  tells1 fun s h => sealAdd_ev s h,
  tells1 fun s h => sealTake_ev s h,
  tells2 fun s n h => repeatI_ev s n h.1 h.2,
  tells2 fun l s h => by rw [h.1]; exact join_ev l h.2.1 h.2.2,
  tells2 fun s p _ => hasPrefix_ev s p,
  tells1 fun e h => entMay_ev e h,
  rdOp_ev, F5_ok⟩
@[simp] theorem FT0_get33 : ctGet FT0 33 = some (.pu FT0_h33) := rfl
@[simp] theorem FT0_get72 : ctGet FT0 72 = some (.pu FT0_h72) := rfl
@[simp] theorem FT0_get34 : ctGet FT0 34 = some (.pu FT0_h34) := rfl
@[simp] theorem FT0_get36 : ctGet FT0 36 = some (.pu FT0_h36) := rfl
@[simp] theorem FT0_get49 : ctGet FT0 49 = some (.pu FT0_h49) := rfl
@[simp] theorem FT0_get59 : ctGet FT0 59 = some (.pu FT0_h59) := rfl
@[simp] theorem FT0_get48 : ctGet FT0 48 = some (.pu FT0_h48) := rfl
@[simp] theorem FT0_get51 : ctGet FT0 51 = some (.pu FT0_h51) := rfl
@[simp] theorem FT0_get16 : ctGet FT0 16 = some (.pu FT0_h16) := rfl
@[simp] theorem FT0_get86 : ctGet FT0 86 = some (.mu FT0_h86) := rfl
@[simp] theorem FT0_skip {n : Nat} (h : (n == 33 || n == 72 || n == 34 || n == 36 || n == 49 || n == 59 || n == 48 || n == 51 || n == 16 || n == 86) = false) : ctGet FT0 n = ctGet F5 n := by
  simp only [Bool.or_eq_false_iff, beq_eq_false_iff_ne, ne_eq] at h
  simp [FT0, ctGet, h]

def takeOpR (s : List UInt8) : OpV × List UInt8 × Int := if (rdOp ⟨s, false⟩).2.bad then (zeroO, [], 7) else ((rdOp ⟨s, false⟩).1, (rdOp ⟨s, false⟩).2.s, 0)
def takeOpAV (s : List UInt8) : AV := .t [(true, opRow .old (takeOpR s).1), (false, [.str (takeOpR s).2.1]), (false, [.raw (.int .i64 (takeOpR s).2.2)])]

theorem takeOp_ev (s : List UInt8) (hs : s.length < 4611686018427387904) : PEv Tryz.prog 73 [.c (.str s)] (takeOpAV s) := by
  refine tells_of mixed FT0_ok Tryz.func73 sl73 ok73 (by kernel_rfl) (by simp -implicitDefEqProofs (maxSteps := 400000) (maxDischargeDepth := 6) [takeOpAV, opRow]) (by simp -implicitDefEqProofs (maxSteps := 400000) (maxDischargeDepth := 6)) ?_
  have hr : okR ⟨s, false⟩ := hs
  rcases e : rdOp ⟨s, false⟩ with ⟨o, s1, b1⟩
  cases b1
  · have e2 : takeOpR s = (o, s1, 0) := by simp -implicitDefEqProofs (maxSteps := 400000) (maxDischargeDepth := 6) [takeOpR, e]
    simp -implicitDefEqProofs (maxSteps := 400000) (maxDischargeDepth := 6) [s73, e, hr, rdrRow, outO, opRowW, takeOpAV, e2, opRow]
  · have e2 : takeOpR s = (zeroO, [], 7) := by simp -implicitDefEqProofs (maxSteps := 400000) (maxDischargeDepth := 6) [takeOpR, e]
    simp -implicitDefEqProofs (maxSteps := 400000) (maxDischargeDepth := 6) [s73, e, hr, rdrRow, outO, opRowW, takeOpAV, e2, opRow, zeroO]

theorem repeat0 (n : Nat) : Lib.repeatL [0] n = List.replicate n 0 := by
  induction n with
  | zero => rfl
  | succ n ih => rw [Lib.repeatL, ih]; rfl

def padL (n : Nat) : Nat := (32 - n % 32) % 32
def padN (s : List UInt8) : List UInt8 := s ++ List.replicate (padL s.length) 0

theorem padded_ev (s : List UInt8) (hs : s.length < 4611686018427387904) : PEv Tryz.prog 35 [.c (.str s)] (.c (.str (padN s))) := by
  refine tells_of mixed FT0_ok Tryz.func35 sl35 ok35 (by kernel_rfl) (by simp -implicitDefEqProofs (maxSteps := 400000) (maxDischargeDepth := 6)) (by simp -implicitDefEqProofs (maxSteps := 400000) (maxDischargeDepth := 6)) ?_
  have t : ∀ n : Nat, ((n : Int).tmod 32) = ((n % 32 : Nat) : Int) := fun n => rfl
  have e1 := t s.length
  have e2 : IntKind.wrap .i64 (32 - ((s.length % 32 : Nat) : Int)) = ((32 - s.length % 32 : Nat) : Int) := by rw [wrap64_id] <;> omega
  have e3 : (((32 - s.length % 32 : Nat) : Int).tmod 32) = ((padL s.length : Nat) : Int) := t _
  have e4 : padL s.length < 32 := by unfold padL; omega
  generalize hq : s.length % 32 = q at e1 e2 e3
  generalize hq2 : 32 - q = q2 at e2 e3
  simp -implicitDefEqProofs (maxSteps := 400000) (maxDischargeDepth := 6) [s35, e1, e2, e3, repeat0, show padL s.length ≤ 1000000 by omega]
  exact ⟨by omega, by omega, rfl⟩

structure okF (e : EntryV) : Prop where
  join : e.join = true → okN e.nonce
  op : e.join = false → okP e.op

def plainN (e : EntryV) : List UInt8 := if e.join then bytesN 1 ++ bytesN e.nonce.toNat else bytesN 0 ++ spellN e.op
def framedR (e : EntryV) : List UInt8 × Int := if 700 < (plainN e).length then ([], 2) else (padN (sealA (plainN e)), 0)
def framedAV (e : EntryV) : AV := .t [(false, [.str (framedR e).1]), (false, [.raw (.int .i64 (framedR e).2)])]

def FT1_h35 : List AV → Option (Prop × AV) := t1 (fun s => s.length < 4611686018427387904) fun s : List UInt8 => .c (.str (padN s))
@[simp] theorem FT1_ap35 {l : List AV} : FT1_h35 l = (t1 (fun s => s.length < 4611686018427387904) fun s : List UInt8 => .c (.str (padN s))) l := rfl
def FT1_h73 : List AV → Option (Prop × AV) := t1 (fun s => s.length < 4611686018427387904) fun s : List UInt8 => takeOpAV s
@[simp] theorem FT1_ap73 {l : List AV} : FT1_h73 l = (t1 (fun s => s.length < 4611686018427387904) fun s : List UInt8 => takeOpAV s) l := rfl
def FT1 : CT := (35, .pu FT1_h35) :: (73, .pu FT1_h73) :: FT0
theorem FT1_ok : CTok Tryz.prog FT1 := ⟨tells1 fun s h => padded_ev s h,
  tells1 fun s h => takeOp_ev s h, FT0_ok⟩
@[simp] theorem FT1_get35 : ctGet FT1 35 = some (.pu FT1_h35) := rfl
@[simp] theorem FT1_get73 : ctGet FT1 73 = some (.pu FT1_h73) := rfl
@[simp] theorem FT1_skip {n : Nat} (h : (n == 35 || n == 73) = false) : ctGet FT1 n = ctGet FT0 n := by
  simp only [Bool.or_eq_false_iff, beq_eq_false_iff_ne, ne_eq] at h
  simp [FT1, ctGet, h]

theorem spellN_len {o : OpV} (h : okP o) : (spellN o).length ≤ 40000000 := by
  have hl1 := numsN_len [o.site, o.seq, o.kind]
  have hl2 := numsN_len [o.of_, o.num, o.gen]
  have hl3 := elemN_len o.after
  have hl4 := bytesN_len' o.text.length
  have hl5 := numsN_len [(o.gone.length : Int)]
  have hl6 := h.text
  have hl7 := h.len
  have hl8 := flat_len o.gone
  simp only [List.length_cons, List.length_nil] at hl1 hl2 hl5
  unfold spellN headN midN
  split <;> simp only [List.length_append] <;> omega

theorem sealA_len {s : List UInt8} (h : s.length < 4611686018427387800) : (sealA s).length < 4611686018427387904 := by
  have h1 := bytesN_len' s.length
  unfold sealA
  split
  · simp -implicitDefEqProofs (maxSteps := 400000) (maxDischargeDepth := 6)
  · simp only [List.length_append]
    have l1 : (speltN (ofN (bytesN s.length ++ s))).length = 4 := rfl
    omega

theorem framed_ev (e : EntryV) (h : okF e) : PEv Tryz.prog 17 [Arg.enc e] (framedAV e) := by
  refine tells_of mixed FT1_ok Tryz.func17 sl17 ok17 (by kernel_rfl) (by simp -implicitDefEqProofs (maxSteps := 400000) (maxDischargeDepth := 6) [framedAV]) (by simp -implicitDefEqProofs (maxSteps := 400000) (maxDischargeDepth := 6) [entRow, opRow]) ?_
  obtain ⟨h1, h2⟩ := h
  cases c : e.join
  · have ho := h2 c
    have hl := spellN_len ho
    have hb := bytesN_len' 0
    have e1 : plainN e = bytesN 0 ++ spellN e.op := by simp -implicitDefEqProofs (maxSteps := 400000) (maxDischargeDepth := 6) [plainN, c]
    have hp : (bytesN 0 ++ spellN e.op).length ≤ 50000000 := by simp only [List.length_append]; omega
    have hs := sealA_len (s := bytesN 0 ++ spellN e.op) (by omega)
    have l1 : (bytesN 0).length + (spellN e.op).length ≤ 9223372036854775807 := by omega
    by_cases h7 : 700 < (bytesN 0 ++ spellN e.op).length
    · have e2 : framedR e = ([], 2) := by rw [framedR, e1, if_pos h7]
      simp only [List.length_append] at h7
      have h7' : (700 : Int) < (bytesN 0).length + (spellN e.op).length := by omega
      simp -implicitDefEqProofs (maxSteps := 400000) (maxDischargeDepth := 6) [s17, entRow, opRow, c, ho, l1, h7', framedAV, e2]
    · have e2 : framedR e = (padN (sealA (bytesN 0 ++ spellN e.op)), 0) := by rw [framedR, e1, if_neg h7]
      simp only [List.length_append] at h7
      have h7' : ¬ (700 : Int) < (bytesN 0).length + (spellN e.op).length := by omega
      have l2 : (bytesN 0).length + (spellN e.op).length < 4611686018427387904 := by omega
      simp -implicitDefEqProofs (maxSteps := 400000) (maxDischargeDepth := 6) [s17, entRow, opRow, c, ho, l1, l2, h7', framedAV, e2, hs]
  · obtain ⟨ho, ho'⟩ := h1 c
    have hb := bytesN_len' 1
    have hl := bytesN_len' e.nonce.toNat
    have e1 : plainN e = bytesN 1 ++ bytesN e.nonce.toNat := by simp -implicitDefEqProofs (maxSteps := 400000) (maxDischargeDepth := 6) [plainN, c]
    have hs := sealA_len (s := bytesN 1 ++ bytesN e.nonce.toNat) (by simp only [List.length_append]; omega)
    have l1 : (bytesN 1).length + (bytesN e.nonce.toNat).length ≤ 9223372036854775807 := by omega
    have h7 : ¬ 700 < (bytesN 1 ++ bytesN e.nonce.toNat).length := by simp only [List.length_append]; omega
    have e2 : framedR e = (padN (sealA (bytesN 1 ++ bytesN e.nonce.toNat)), 0) := by rw [framedR, e1, if_neg h7]
    have h7' : ¬ (700 : Int) < (bytesN 1).length + (bytesN e.nonce.toNat).length := by omega
    have l2 : (bytesN 1).length + (bytesN e.nonce.toNat).length < 4611686018427387904 := by omega
    simp -implicitDefEqProofs (maxSteps := 400000) (maxDischargeDepth := 6) [s17, entRow, opRow, c, ho, ho', l1, l2, h7', framedAV, e2, hs]

end Go.AE

/- An entry of a frame's text. -/
set_option linter.unusedVariables false
set_option linter.unusedSimpArgs false
set_option maxHeartbeats 4000000
set_option maxRecDepth 100000
namespace Go.AE
open Go Go.Proofs

theorem takeR_len (s : List UInt8) : (takeR s).2.1.length ≤ s.length := by
  cases hn : takeN s with
  | none => simp -implicitDefEqProofs (maxSteps := 400000) (maxDischargeDepth := 6) [takeR, hn]
  | some q =>
    obtain ⟨n, t⟩ := q
    have := (takeN_len hn).2
    simp -implicitDefEqProofs (maxSteps := 400000) (maxDischargeDepth := 6) [takeR, hn]
    omega
theorem takeTextR_len (s : List UInt8) : (takeTextR s).1.length ≤ s.length ∧ (takeTextR s).2.1.length ≤ s.length := by
  cases hn : takeN s with
  | none => simp -implicitDefEqProofs (maxSteps := 400000) (maxDischargeDepth := 6) [takeTextR, hn]
  | some q =>
    obtain ⟨n, t⟩ := q
    have := (takeN_len hn).2
    simp only [takeTextR, hn]
    split
    · simp -implicitDefEqProofs (maxSteps := 400000) (maxDischargeDepth := 6); omega
    · simp -implicitDefEqProofs (maxSteps := 400000) (maxDischargeDepth := 6)
theorem rdNum_len (r : RdV) : (rdNum r).2.s.length ≤ r.s.length := takeR_len r.s
theorem rdElem_len (r : RdV) : (rdElem r).2.s.length ≤ r.s.length := by
  have h1 := rdNum_len r
  have h2 := rdNum_len (rdNum r).2
  have h3 := rdNum_len (rdNum (rdNum r).2).2
  simp only [rdElem]
  omega
theorem rdElems_len (r : RdV) : ∀ n, (rdElems n r).2.s.length ≤ r.s.length ∧ (rdElems n r).1.length = n
  | 0 => ⟨Nat.le_refl _, rfl⟩
  | n + 1 => by
    obtain ⟨h1, h2⟩ := rdElems_len r n
    have := rdElem_len (rdElems n r).2
    refine ⟨?_, by simp -implicitDefEqProofs (maxSteps := 400000) (maxDischargeDepth := 6) [rdElems, h2]⟩
    simp only [rdElems]
    omega
theorem rdOp_len (r : RdV) : (rdOp r).1.text.length ≤ r.s.length ∧ (rdOp r).1.gone.length ≤ 200 ∧ (rdOp r).2.s.length ≤ r.s.length := by
  have h1 := rdNum_len r
  have h2 := rdNum_len (rdNum r).2
  have h3 := rdNum_len (rdNum (rdNum r).2).2
  simp only [rdOp]
  split
  · have h4 := rdNum_len (rdNum (rdNum (rdNum r).2).2).2
    have h5 := rdNum_len (rdNum (rdNum (rdNum (rdNum r).2).2).2).2
    have h6 := rdNum_len (rdNum (rdNum (rdNum (rdNum (rdNum r).2).2).2).2).2
    simp only [List.length_nil]
    omega
  · have h4 := rdElem_len (rdNum (rdNum (rdNum r).2).2).2
    have h5 := takeTextR_len (rdElem (rdNum (rdNum (rdNum r).2).2).2).2.s
    have h6 := rdNum_len (rdText (rdElem (rdNum (rdNum (rdNum r).2).2).2).2).2
    obtain ⟨h7, h8⟩ := rdElems_len (rdNum (rdText (rdElem (rdNum (rdNum (rdNum r).2).2).2).2).2).2 (min (rdNum (rdText (rdElem (rdNum (rdNum (rdNum r).2).2).2).2).2).1.toNat 200)
    obtain ⟨h9, h10⟩ := h5
    simp only [rdText] at h6 h7 h8 ⊢
    refine ⟨by omega, by omega, by omega⟩

theorem takeOpR_len (s : List UInt8) : (takeOpR s).1.text.length ≤ s.length ∧ (takeOpR s).1.gone.length ≤ 200 ∧ (takeOpR s).2.1.length ≤ s.length := by
  obtain ⟨h1, h2, h3⟩ := rdOp_len ⟨s, false⟩
  unfold takeOpR
  split
  · simp -implicitDefEqProofs (maxSteps := 400000) (maxDischargeDepth := 6) [zeroO]
  · exact ⟨h1, h2, h3⟩

def zeroE : EntryV := ⟨false, 0, zeroO⟩
def readE (s : List UInt8) : EntryV × Bool :=
  if (takeR s).2.2 ≠ 0 ∨ 1 < (takeR s).1 then (zeroE, false)
  else if (takeR s).1 = 1 then
    (⟨true, (takeR (takeR s).2.1).1, zeroO⟩, decide ((takeR (takeR s).2.1).2.2 = 0) && decide ((takeR (takeR s).2.1).2.1 = []) && entMayB ⟨true, (takeR (takeR s).2.1).1, zeroO⟩)
  else (⟨false, 0, (takeOpR (takeR s).2.1).1⟩, decide ((takeOpR (takeR s).2.1).2.2 = 0) && decide ((takeOpR (takeR s).2.1).2.1 = []) && entMayB ⟨false, 0, (takeOpR (takeR s).2.1).1⟩)
def readEAV (s : List UInt8) : AV := .t [(true, entRow .old (readE s).1), (false, [.raw (.bool (readE s).2)])]

theorem okO_zero : okO zeroO := ⟨by simp -implicitDefEqProofs (maxSteps := 400000) (maxDischargeDepth := 6) [zeroO], by simp -implicitDefEqProofs (maxSteps := 400000) (maxDischargeDepth := 6) [zeroO]⟩

theorem readE_ev (s : List UInt8) (hs : s.length < 4611686018427387904) : PEv Tryz.prog 50 [.c (.str s)] (readEAV s) := by
  refine tells_of mixed FT1_ok Tryz.func50 sl50 ok50 (by kernel_rfl) (by simp -implicitDefEqProofs (maxSteps := 400000) (maxDischargeDepth := 6) [readEAV, entRow, opRow]) (by simp -implicitDefEqProofs (maxSteps := 400000) (maxDischargeDepth := 6)) ?_
  have l1 := takeR_len s
  rcases e1 : takeR s with ⟨n, r, x⟩
  rw [e1] at l1
  simp only at l1
  have l2 : r.length < 4611686018427387904 := by omega
  have hR : readE s = if x ≠ 0 ∨ 1 < n then (zeroE, false)
      else if n = 1 then (⟨true, (takeR r).1, zeroO⟩, decide ((takeR r).2.2 = 0) && decide ((takeR r).2.1 = []) && entMayB ⟨true, (takeR r).1, zeroO⟩)
      else (⟨false, 0, (takeOpR r).1⟩, decide ((takeOpR r).2.2 = 0) && decide ((takeOpR r).2.1 = []) && entMayB ⟨false, 0, (takeOpR r).1⟩) := by simp only [readE, e1]
  have e1' : takeAV s = .t [(false, [.raw (.int .i64 n)]), (false, [.str r]), (false, [.raw (.int .i64 x)])] := by simp -implicitDefEqProofs (maxSteps := 400000) (maxDischargeDepth := 6) [takeAV, e1]
  by_cases c1 : x = 0
  rotate_left
  · rw [if_pos (Or.inl c1)] at hR
    simp -implicitDefEqProofs (maxSteps := 400000) (maxDischargeDepth := 6) [s50, hs, e1', c1, readEAV, hR, entRow, opRow, zeroE, zeroO]
  by_cases c2 : 1 < n
  · rw [if_pos (Or.inr c2)] at hR
    have c2' : (1 : Int) < n := by omega
    simp -implicitDefEqProofs (maxSteps := 400000) (maxDischargeDepth := 6) [s50, hs, e1', c1, c2', readEAV, hR, entRow, opRow, zeroE, zeroO]
  rw [if_neg (by omega)] at hR
  have c2' : ¬ (1 : Int) < n := by omega
  by_cases c3 : n = 1
  · rw [if_pos c3] at hR
    have c3' : (n : Int) = 1 := by omega
    rcases e2 : takeR r with ⟨m, r2, x2⟩
    rw [e2] at hR
    simp only at hR
    have e2' : takeAV r = .t [(false, [.raw (.int .i64 m)]), (false, [.str r2]), (false, [.raw (.int .i64 x2)])] := by simp -implicitDefEqProofs (maxSteps := 400000) (maxDischargeDepth := 6) [takeAV, e2]
    have hz : okO zeroO := okO_zero
    have hd : (⟨true, (m : Int), ⟨0, 0, 0, ⟨0, 0, 0⟩, [], [], 0, 0, 0⟩⟩ : EntryV) = ⟨true, m, zeroO⟩ := rfl
    have hd2 : ∀ w : Tag, opRow w zeroO = opRow w ⟨0, 0, 0, ⟨0, 0, 0⟩, [], [], 0, 0, 0⟩ := fun _ => rfl
    cases c4 : decide (x2 = 0)
    · rw [c4] at hR
      simp -implicitDefEqProofs (maxSteps := 400000) (maxDischargeDepth := 6) [s50, hs, l2, e1', e2', c1, c2', c3', c4, readEAV, hR, entRow, hd2, opRow]
      simp -implicitDefEqProofs (maxSteps := 400000) (maxDischargeDepth := 6) [zeroO]
    rw [c4] at hR
    cases c5 : decide (r2 = [])
    · rw [c5] at hR
      simp -implicitDefEqProofs (maxSteps := 400000) (maxDischargeDepth := 6) [s50, hs, l2, e1', e2', c1, c2', c3', c4, c5, readEAV, hR, entRow, hd2, opRow]
      simp -implicitDefEqProofs (maxSteps := 400000) (maxDischargeDepth := 6) [zeroO]
    · rw [c5] at hR
      simp -implicitDefEqProofs (maxSteps := 400000) (maxDischargeDepth := 6) [s50, hs, l2, e1', e2', c1, c2', c3', c4, c5, readEAV, hR, entRow, hd2, opRow, hz, hd]
      simp -implicitDefEqProofs (maxSteps := 400000) (maxDischargeDepth := 6) [zeroO]
  · rw [if_neg c3] at hR
    have c3' : ¬ (n : Int) = 1 := by omega
    obtain ⟨g1, g2, g3⟩ := takeOpR_len r
    rcases e2 : takeOpR r with ⟨o, r2, x2⟩
    rw [e2] at hR g1 g2 g3
    simp only at hR g1 g2 g3
    have ho : okO o := ⟨by omega, by omega⟩
    cases c4 : decide (x2 = 0)
    · rw [c4] at hR
      simp -implicitDefEqProofs (maxSteps := 400000) (maxDischargeDepth := 6) [s50, hs, l2, e1', e2, takeOpAV, c1, c2', c3', c4, readEAV, hR, entRow, opRow]
    rw [c4] at hR
    cases c5 : decide (r2 = [])
    · rw [c5] at hR
      simp -implicitDefEqProofs (maxSteps := 400000) (maxDischargeDepth := 6) [s50, hs, l2, e1', e2, takeOpAV, c1, c2', c3', c4, c5, readEAV, hR, entRow, opRow]
    · rw [c5] at hR
      simp -implicitDefEqProofs (maxSteps := 400000) (maxDischargeDepth := 6) [s50, hs, l2, e1', e2, takeOpAV, c1, c2', c3', c4, c5, readEAV, hR, entRow, opRow, ho]

theorem goneG_cons {o : OpV} {p : Option ElemV} {x : ElemV} {l : List ElemV} (h : goneG o p (x :: l) = true) : elemB x = true ∧ goneG o (some x) l = true := by
  have key : ∀ (B : Bool) (X : Bool), (if decide (x = ⟨0, 0, 0⟩) || !elemB x || ownB o x || B then false else X) = true → elemB x = true ∧ X = true := by
    intro B X h
    cases h1 : elemB x
    · rw [h1] at h; simp -implicitDefEqProofs (maxSteps := 400000) (maxDischargeDepth := 6) at h
    · refine ⟨rfl, ?_⟩
      split at h
      · cases h
      · exact h
  cases p with
  | none => exact key _ _ h
  | some q => exact key _ _ h

theorem opMayB_ok {o : OpV} (h : opMayB o = true) (h1 : o.text.length < 1000000) (h2 : o.gone.length < 1000000) : okP o := by
  simp only [opMayB, Bool.and_eq_true] at h
  obtain ⟨hn, h⟩ := h
  have hn := nameB_b hn
  by_cases hk : o.kind = 1
  · rw [if_pos hk] at h
    simp only [editB, Bool.and_eq_true, decide_eq_true_eq] at h
    obtain ⟨⟨⟨⟨⟨⟨⟨⟨⟨e1, _⟩, _⟩, _⟩, _⟩, _⟩, e2⟩, e3⟩, e4⟩, e5⟩ := h
    have hg : ∀ (l : List ElemV) (p : Option ElemV), goneG o p l = true → ∀ e ∈ l, okE e := by
      intro l
      induction l with
      | nil => intro p _ e he; simp -implicitDefEqProofs (maxSteps := 400000) (maxDischargeDepth := 6) at he
      | cons x l ih =>
        intro p hp e he
        obtain ⟨k1, k2⟩ := goneG_cons hp
        rcases List.mem_cons.1 he with rfl | he
        · exact elemB_ok k1
        · exact ih _ k2 e he
    simp only [goneB, Bool.and_eq_true] at e2
    exact ⟨⟨by omega, by omega⟩, ⟨by omega, by omega⟩, by rw [hk]; exact ⟨by omega, by omega⟩, by rw [e3]; exact ⟨by omega, by omega⟩, by rw [e4]; exact ⟨by omega, by omega⟩, by rw [e5]; exact ⟨by omega, by omega⟩, elemB_ok e1, hg _ _ e2.1, h1, h2⟩
  · rw [if_neg hk] at h
    simp only [toggleB, Bool.and_eq_true, decide_eq_true_eq, Bool.not_eq_true', decide_eq_false_iff_not] at h
    obtain ⟨hk2, ⟨⟨⟨⟨⟨e1, _⟩, e2⟩, e3⟩, e4⟩, _⟩, e5⟩ := h
    have e1 := nameB_b e1
    exact ⟨⟨by omega, by omega⟩, ⟨by omega, by omega⟩, by rw [hk2]; exact ⟨by omega, by omega⟩, ⟨by omega, by omega⟩, ⟨by omega, by omega⟩, ⟨by omega, by omega⟩, by rw [e4]; exact ⟨⟨by simp -implicitDefEqProofs (maxSteps := 400000) (maxDischargeDepth := 6), by simp -implicitDefEqProofs (maxSteps := 400000) (maxDischargeDepth := 6)⟩, ⟨by simp -implicitDefEqProofs (maxSteps := 400000) (maxDischargeDepth := 6), by simp -implicitDefEqProofs (maxSteps := 400000) (maxDischargeDepth := 6)⟩, by simp -implicitDefEqProofs (maxSteps := 400000) (maxDischargeDepth := 6), by simp -implicitDefEqProofs (maxSteps := 400000) (maxDischargeDepth := 6)⟩, by rw [e5]; intro e he; simp -implicitDefEqProofs (maxSteps := 400000) (maxDischargeDepth := 6) at he, h1, h2⟩

theorem entMayB_ok {e : EntryV} (h : entMayB e = true) (h1 : e.op.text.length < 1000000) (h2 : e.op.gone.length < 1000000) : okF e := by
  unfold entMayB at h
  refine ⟨fun hj => ?_, fun hj => ?_⟩
  · rw [hj] at h
    simp only [if_true, Bool.and_eq_true, decide_eq_true_eq] at h
    exact ⟨by omega, by omega⟩
  · rw [hj] at h
    simp only [Bool.false_eq_true, if_false, Bool.and_eq_true] at h
    exact opMayB_ok h.2 h1 h2

theorem readE_ok {s : List UInt8} (hs : s.length < 1000000) (h : (readE s).2 = true) : okF (readE s).1 := by
  have l1 := takeR_len s
  obtain ⟨g1, g2, g3⟩ := takeOpR_len (takeR s).2.1
  unfold readE at h ⊢
  split at h
  · cases h
  · rename_i c1
    rw [if_neg c1]
    split at h
    · rename_i c2
      rw [if_pos c2]
      simp only [Bool.and_eq_true] at h
      exact entMayB_ok h.2 (by simp -implicitDefEqProofs (maxSteps := 400000) (maxDischargeDepth := 6) [zeroO]) (by simp -implicitDefEqProofs (maxSteps := 400000) (maxDischargeDepth := 6) [zeroO])
    · rename_i c2
      rw [if_neg c2]
      simp only [Bool.and_eq_true] at h
      exact entMayB_ok h.2 (by show (takeOpR (takeR s).2.1).1.text.length < _; omega) (by show (takeOpR (takeR s).2.1).1.gone.length < _; omega)

end Go.AE

/- Numbers, ops, frames as bytes: what is read is what was spelt. No program in sight. -/
set_option linter.unusedVariables false
namespace Go.AE
open Go

theorem takeN_sp {s r : List UInt8} {n : Nat} (h : takeN s = some (n, r)) : s = bytesN n ++ r := by
  have go : ∀ (k m acc : Nat) (s r : List UInt8) (n j : Nat), 1 ≤ m → takeF k m acc s = some (n, r) → k ≤ j + 1 → ∃ q, n = acc + q * m ∧ s = bytesF j q ++ r ∧ (1 < m → 1 ≤ q) := by
    intro k
    induction k with
    | zero => intro m acc s r n j _ h; cases h
    | succ k ih =>
      intro m acc s r n j hm h hj
      cases s with
      | nil => cases h
      | cons b s =>
        have hb := b.toNat_lt
        rw [takeF] at h
        split at h
        · rename_i hb8
          have hk : k ≠ 0 := by rintro rfl; cases h
          obtain ⟨j, rfl⟩ : ∃ i, j = i + 1 := ⟨j - 1, by omega⟩
          obtain ⟨q, h1, h2, h3⟩ := ih _ _ _ _ _ j (by omega) h (by omega)
          have h3 := h3 (by omega)
          refine ⟨b.toNat % 128 + q * 128, ?_, ?_, fun _ => by omega⟩
          · rw [h1, Nat.add_mul, Nat.mul_assoc, Nat.mul_comm m 128]; omega
          · have e1 : ¬ b.toNat % 128 + q * 128 < 128 := by omega
            have e2 : (b.toNat % 128 + q * 128) % 128 + 128 = b.toNat := by omega
            have e3 : (b.toNat % 128 + q * 128) / 128 = q := by omega
            have e4 : UInt8.ofNat b.toNat = b := by simp
            rw [bytesF, if_neg e1, e2, e3, e4, h2]
            rfl
        · split at h
          · cases h
          · rename_i hb8 hc
            cases h
            have e0 : b.toNat % 128 = b.toNat := by omega
            refine ⟨b.toNat, by rw [e0], ?_, fun h1 => by omega⟩
            have e4 : UInt8.ofNat b.toNat = b := by simp
            cases j with
            | zero => rw [bytesF, e4]; rfl
            | succ j => rw [bytesF, if_pos (by omega), e4]; rfl
  obtain ⟨q, h1, h2, _⟩ := go 5 1 0 s r n 9 (Nat.le_refl _) h (by omega)
  have : n = q := by omega
  rw [this]
  exact h2

theorem rdNum_sp {r : RdV} (h : (rdNum r).2.bad = false) : r.bad = false ∧ r.s = bytesN (rdNum r).1.toNat ++ (rdNum r).2.s := by
  simp only [rdNum, Bool.or_eq_false_iff] at h
  obtain ⟨h1, h2⟩ := h
  refine ⟨h1, ?_⟩
  simp only [rdNum, takeR] at h2 ⊢
  cases hn : takeN r.s with
  | none => simp [hn] at h2
  | some q => exact takeN_sp hn

theorem rdText_sp {r : RdV} (h : (rdText r).2.bad = false) : r.bad = false ∧ r.s = bytesN (rdText r).1.length ++ (rdText r).1 ++ (rdText r).2.s := by
  simp only [rdText, Bool.or_eq_false_iff] at h
  obtain ⟨h1, h2⟩ := h
  refine ⟨h1, ?_⟩
  simp only [rdText, takeTextR] at h2 ⊢
  cases hn : takeN r.s with
  | none => simp [hn] at h2
  | some q =>
    obtain ⟨n, t⟩ := q
    simp only [hn] at h2 ⊢
    split
    · rename_i hl
      have e : (t.take n).length = n := by rw [List.length_take]; omega
      simp only [e]
      rw [List.append_assoc, List.take_append_drop]
      exact takeN_sp hn
    · rename_i hl
      rw [if_neg hl] at h2
      simp at h2

theorem rdElem_sp {r : RdV} (h : (rdElem r).2.bad = false) : r.bad = false ∧ r.s = elemN (rdElem r).1 ++ (rdElem r).2.s := by
  have h3 := rdNum_sp (r := (rdNum (rdNum r).2).2) h
  have h2 := rdNum_sp h3.1
  have h1 := rdNum_sp h2.1
  refine ⟨h1.1, ?_⟩
  rw [h1.2, h2.2, h3.2]
  simp [rdElem, elemN, numsN]

theorem rdElems_sp (r : RdV) : ∀ n, (rdElems n r).2.bad = false → r.bad = false ∧ r.s = (rdElems n r).1.flatMap elemN ++ (rdElems n r).2.s
  | 0, h => ⟨h, rfl⟩
  | n + 1, h => by
    have h1 := rdElem_sp (r := (rdElems n r).2) h
    obtain ⟨h2, h3⟩ := rdElems_sp r n h1.1
    refine ⟨h2, ?_⟩
    rw [h3, h1.2]
    simp [rdElems]

theorem rdOp_sp {r : RdV} (h : (rdOp r).2.bad = false) : r.bad = false ∧ opMayB (rdOp r).1 = true ∧ r.s = spellN (rdOp r).1 ++ (rdOp r).2.s := by
  by_cases hk : (rdNum (rdNum (rdNum r).2).2).1 = 2
  · simp only [rdOp, if_pos hk, Bool.or_eq_false_iff] at h ⊢
    obtain ⟨h, hm⟩ := h
    have h6 := rdNum_sp h
    have h5 := rdNum_sp h6.1
    have h4 := rdNum_sp h5.1
    have h3 := rdNum_sp h4.1
    have h2 := rdNum_sp h3.1
    have h1 := rdNum_sp h2.1
    refine ⟨h1.1, by simpa using hm, ?_⟩
    rw [h1.2, h2.2, h3.2, h4.2, h5.2, h6.2]
    simp [spellN, hk, headN, numsN]
  · simp only [rdOp, if_neg hk, Bool.or_eq_false_iff] at h ⊢
    obtain ⟨⟨h, hn⟩, hm⟩ := h
    have h7 := rdElems_sp _ _ h
    have h6 := rdNum_sp h7.1
    have h5 := rdText_sp h6.1
    have h4 := rdElem_sp h5.1
    have h3 := rdNum_sp h4.1
    have h2 := rdNum_sp h3.1
    have h1 := rdNum_sp h2.1
    refine ⟨h1.1, by simpa using hm, ?_⟩
    have hl := (rdElems_len (rdNum (rdText (rdElem (rdNum (rdNum (rdNum r).2).2).2).2).2).2 (min (rdNum (rdText (rdElem (rdNum (rdNum (rdNum r).2).2).2).2).2).1.toNat 200)).2
    have hnn := rdNum_nn (rdText (rdElem (rdNum (rdNum (rdNum r).2).2).2).2).2
    have hn := of_decide_eq_false hn
    have e : (rdElems (min (rdNum (rdText (rdElem (rdNum (rdNum (rdNum r).2).2).2).2).2).1.toNat 200) (rdNum (rdText (rdElem (rdNum (rdNum (rdNum r).2).2).2).2).2).2).1.length = (rdNum (rdText (rdElem (rdNum (rdNum (rdNum r).2).2).2).2).2).1.toNat := by rw [hl]; omega
    rw [h1.2, h2.2, h3.2, h4.2, h5.2, h6.2, h7.2]
    simp [spellN, hk, headN, midN, numsN, e]
    rw [Int.max_eq_left hnn.1]

theorem takeOpR_sp {s : List UInt8} (h : (takeOpR s).2.2 = 0) : s = spellN (takeOpR s).1 ++ (takeOpR s).2.1 := by
  unfold takeOpR at h ⊢
  split
  · rename_i hb; rw [if_pos hb] at h; cases h
  · rename_i hb
    exact (rdOp_sp (r := ⟨s, false⟩) (by simpa using hb)).2.2

theorem takeR_sp {s : List UInt8} (h : (takeR s).2.2 = 0) : s = bytesN (takeR s).1 ++ (takeR s).2.1 := by
  unfold takeR at h ⊢
  cases hn : takeN s with
  | none => simp [hn] at h
  | some q => exact takeN_sp hn

theorem readE_sp {s : List UInt8} (h : (readE s).2 = true) : plainN (readE s).1 = s := by
  unfold readE at h ⊢
  split
  · rename_i c; rw [if_pos c] at h; cases h
  · rename_i c
    rw [if_neg c] at h
    have c1 : (takeR s).2.2 = 0 := by
      refine Classical.byContradiction fun q => c (.inl q)
    have h1 := takeR_sp c1
    split
    · rename_i c2
      rw [if_pos c2] at h
      simp only [Bool.and_eq_true, decide_eq_true_eq] at h
      have h2 := takeR_sp h.1.1
      rw [h.1.2] at h2
      rw [c2] at h1
      simp only [plainN, if_true, Int.toNat_natCast]
      rw [List.append_nil] at h2
      exact (congrArg (bytesN 1 ++ ·) h2.symm).trans h1.symm
    · rename_i c2
      rw [if_neg c2] at h
      simp only [Bool.and_eq_true, decide_eq_true_eq] at h
      have h2 := takeOpR_sp h.1.1
      rw [h.1.2, List.append_nil] at h2
      have c3 : (takeR s).1 = 0 := by
        have : ¬ 1 < (takeR s).1 := fun q => c (.inr q)
        omega
      rw [c3] at h1
      simp only [plainN, Bool.false_eq_true, if_false]
      rw [← h2]
      exact h1.symm

theorem sealT_sp {s t r : List UInt8} (h : sealT s = some (t, r)) : s = sealA t ++ r ∧ t.length ≤ 700 := by
  unfold sealT at h
  cases hn : takeN s with
  | none => simp [hn] at h
  | some q =>
    obtain ⟨n, q⟩ := q
    simp only [hn] at h
    split at h
    · cases h
    · rename_i hc
      split at h
      · rename_i hs
        have hs1 := takeN_sp hn
        simp only [Option.some.injEq, Prod.mk.injEq] at h
        obtain ⟨ht, hr⟩ := h
        have hl : t.length = n := by rw [← ht]; simp; omega
        have e1 : s.take (s.length - q.length) = bytesN n := by
          conv => lhs; rw [hs1]
          simp
        rw [e1, ht] at hs
        refine ⟨?_, by omega⟩
        have e2 : q = speltN (ofN (bytesN n ++ t)) ++ (t ++ r) := by
          rw [← hs, ← hr, ← ht]
          have : q.take (4 + n) = q.take 4 ++ (q.take (4 + n)).drop 4 := by
            conv => lhs; rw [← List.take_append_drop 4 (q.take (4 + n))]
            rw [List.take_take]
            congr 2
            omega
          rw [← List.append_assoc, ← this, List.take_append_drop]
        rw [sealA, if_neg (by omega), hl]
        conv => lhs; rw [hs1, e2]
        simp
      · cases h

end Go.AE

/- The entry at the begin of sectors. -/
set_option linter.unusedVariables false
set_option linter.unusedSimpArgs false
set_option maxHeartbeats 4000000
set_option maxRecDepth 100000
namespace Go.AE
open Go Go.Proofs

def FT2_h17 : List AV → Option (Prop × AV) := t1 okF fun e : EntryV => framedAV e
@[simp] theorem FT2_ap17 {l : List AV} : FT2_h17 l = (t1 okF fun e : EntryV => framedAV e) l := rfl
def FT2_h50 : List AV → Option (Prop × AV) := t1 (fun s => s.length < 4611686018427387904) fun s : List UInt8 => readEAV s
@[simp] theorem FT2_ap50 {l : List AV} : FT2_h50 l = (t1 (fun s => s.length < 4611686018427387904) fun s : List UInt8 => readEAV s) l := rfl
def FT2 : CT := (17, .pu FT2_h17) :: (50, .pu FT2_h50) :: FT1
theorem FT2_ok : CTok Tryz.prog FT2 := ⟨tells1 fun e h => framed_ev e h,
  tells1 fun s h => readE_ev s h, FT1_ok⟩
@[simp] theorem FT2_get17 : ctGet FT2 17 = some (.pu FT2_h17) := rfl
@[simp] theorem FT2_get50 : ctGet FT2 50 = some (.pu FT2_h50) := rfl
@[simp] theorem FT2_skip {n : Nat} (h : (n == 17 || n == 50) = false) : ctGet FT2 n = ctGet FT1 n := by
  simp only [Bool.or_eq_false_iff, beq_eq_false_iff_ne, ne_eq] at h
  simp [FT2, ctGet, h]

def firstR (s : List UInt8) : EntryV × Nat × Bool :=
  match sealT s with
  | none => (zeroE, 0, false)
  | some (t, _) => if (readE t).2 then ((readE t).1, (framedR (readE t).1).1.length / 32, prefB s (framedR (readE t).1).1) else ((readE t).1, 0, false)
def firstAV (r : EntryV × Nat × Bool) : AV := .t [(true, entRow .old r.1), (false, [.raw (.int .i64 r.2.1)]), (false, [.raw (.bool r.2.2)])]

theorem flat32 : ∀ {l : List (List UInt8)}, (∀ x ∈ l, x.length = 32) → l.flatten.length = 32 * l.length
  | [], _ => rfl
  | x :: l, h => by
    have h1 := h x List.mem_cons_self
    have h2 := flat32 (l := l) fun y hy => h y (List.mem_cons_of_mem _ hy)
    simp only [List.flatten_cons, List.length_append, List.length_cons]
    omega

theorem framedR_len (x : EntryV) : (framedR x).1.length ≤ 800 := by
  unfold framedR
  split
  · simp -implicitDefEqProofs (maxSteps := 400000) (maxDischargeDepth := 6)
  · rename_i h
    have h1 := bytesN_len' (plainN x).length
    have l1 : (speltN (ofN (bytesN (plainN x).length ++ plainN x))).length = 4 := rfl
    simp only [padN, sealA, if_neg h, List.length_append, List.length_replicate, l1, padL]
    omega

/-- One that is found has as many sectors as its bytes. -/
theorem firstR_ok {s : List UInt8} (h : (firstR s).2.2 = true) : 1 ≤ (firstR s).2.1 ∧ 32 * (firstR s).2.1 ≤ s.length ∧ (firstR s).2.1 ≤ 25 := by
  unfold firstR at h ⊢
  cases hq : sealT s with
  | none => simp -implicitDefEqProofs (maxSteps := 400000) (maxDischargeDepth := 6) [hq] at h
  | some q =>
    obtain ⟨t, r⟩ := q
    obtain ⟨hsp, ht7⟩ := sealT_sp hq
    simp only [hq] at h ⊢
    split
    · rename_i hr
      rw [if_pos hr] at h
      have hp := readE_sp hr
      simp only at h ⊢
      have e : (framedR (readE t).1).1 = padN (sealA t) := by rw [framedR, hp, if_neg (by omega)]
      have hl := framedR_len (readE t).1
      rw [e] at h hl ⊢
      have hpre : (padN (sealA t)).length ≤ s.length := by
        have := List.isPrefixOf_iff_prefix.1 h
        exact this.length_le
      have h5 : 5 ≤ (sealA t).length := by
        rw [sealA, if_neg (by omega)]
        have l1 : (speltN (ofN (bytesN t.length ++ t))).length = 4 := rfl
        have l2 : 1 ≤ (bytesN t.length).length := by
          show 1 ≤ (bytesF 9 t.length).length
          rw [bytesF]
          split <;> simp -implicitDefEqProofs (maxSteps := 400000) (maxDischargeDepth := 6)
        simp only [List.length_append, l1]
        omega
      have hm : (padN (sealA t)).length = (sealA t).length + padL (sealA t).length := by simp -implicitDefEqProofs (maxSteps := 400000) (maxDischargeDepth := 6) [padN]
      unfold padL at hm
      omega
    · rename_i hr
      rw [if_neg hr] at h
      cases h

theorem first_ev (l : List (List UInt8)) (hl : ∀ x ∈ l, x.length = 32) (hn : l.length < 1000000) : PEv Tryz.prog 25 [Arg.enc l] (firstAV (firstR (l.take 23).flatten)) := by
  refine tells_of mixed FT2_ok Tryz.func25 sl25 ok25 (by kernel_rfl) (by simp -implicitDefEqProofs (maxSteps := 400000) (maxDischargeDepth := 6) [firstAV, entRow, opRow]) (by simp -implicitDefEqProofs (maxSteps := 400000) (maxDischargeDepth := 6)) ?_
  obtain ⟨m, hm⟩ : ∃ m, m = min l.length 23 := ⟨_, rfl⟩
  have hmi : (if (23 : Int) < l.length then (23 : Int) else l.length) = (m : Int) := by split <;> omega
  have ht : l.take 23 = l.take m := by
    rw [hm]
    by_cases h : l.length ≤ 23
    · rw [Nat.min_eq_left h, List.take_of_length_le h, List.take_length]
    · rw [Nat.min_eq_right (by omega)]
  have htr : List.take m (rowsE l) = rowsE (l.take m) := by simp -implicitDefEqProofs (maxSteps := 400000) (maxDischargeDepth := 6) [rowsE]
  have hf : (l.take m).flatten.length = 32 * m := by
    rw [flat32 fun x hx => hl x (List.mem_of_mem_take hx), List.length_take]
    omega
  have hml : m ≤ l.length := by omega
  have hm23 : m ≤ 23 := by omega
  rw [ht]
  obtain ⟨s, hs⟩ : ∃ s, s = (l.take m).flatten := ⟨_, rfl⟩
  rw [← hs] at hf ⊢
  have b1 : (l.take m).length < 1000000 := by rw [List.length_take]; omega
  have b2 : (l.take m).flatten.length ≤ 140737488355328 := by rw [← hs]; omega
  have b3 : s.length < 4611686018427387904 := by omega
  have b1' : m < 1000000 := by omega
  have b2' : (List.take m (List.map List.length l)).sum ≤ 140737488355328 := by simpa using b2
  cases hq : sealT s with
  | none =>
    have e1 : sealTAV s = .t [(false, [.str []]), (false, [.str []]), (false, [.raw (.bool false)])] := by simp -implicitDefEqProofs (maxSteps := 400000) (maxDischargeDepth := 6) [sealTAV, hq]
    have e2 : firstR s = (zeroE, 0, false) := by simp -implicitDefEqProofs (maxSteps := 400000) (maxDischargeDepth := 6) [firstR, hq]
    simp -implicitDefEqProofs (maxSteps := 400000) (maxDischargeDepth := 6) [s25, hmi, hml, htr, ← hs, b1', b2', b3, e1, e2, firstAV, entRow, opRow, zeroE, zeroO]
  | some q =>
    obtain ⟨t, r⟩ := q
    have e1 : sealTAV s = .t [(false, [.str t]), (false, [.str r]), (false, [.raw (.bool true)])] := by simp -implicitDefEqProofs (maxSteps := 400000) (maxDischargeDepth := 6) [sealTAV, hq]
    obtain ⟨hsp, ht7⟩ := sealT_sp hq
    have b4 : t.length < 4611686018427387904 := by omega
    rcases e3 : readE t with ⟨x, ok⟩
    have e3' : readEAV t = .t [(true, entRow .old x), (false, [.raw (.bool ok)])] := by simp -implicitDefEqProofs (maxSteps := 400000) (maxDischargeDepth := 6) [readEAV, e3]
    cases ok
    · have e2 : firstR s = (x, 0, false) := by simp -implicitDefEqProofs (maxSteps := 400000) (maxDischargeDepth := 6) [firstR, hq, e3]
      simp -implicitDefEqProofs (maxSteps := 400000) (maxDischargeDepth := 6) [s25, hmi, hml, htr, ← hs, b1', b2', b3, b4, e1, e2, e3', firstAV, entRow, opRow]
    · have e2 : firstR s = (x, (framedR x).1.length / 32, prefB s (framedR x).1) := by simp -implicitDefEqProofs (maxSteps := 400000) (maxDischargeDepth := 6) [firstR, hq, e3]
      have hx := readE_ok (s := t) (by omega) (by rw [e3])
      rw [e3] at hx
      simp only at hx
      have e4 : framedAV x = .t [(false, [.str (framedR x).1]), (false, [.raw (.int .i64 (framedR x).2)])] := rfl
      generalize hb : (framedR x).1 = b at e2 e4
      simp -implicitDefEqProofs (maxSteps := 400000) (maxDischargeDepth := 6) [s25, Call.operands, hmi, hml, htr, ← hs, b1', b2', b3, b4, e1, e2, e3', e4, hx, firstAV, entRow, opRow]
      have hbl := framedR_len x
      rw [hb] at hbl
      refine ⟨fun a a1 b _ h _ => by omega, ?_⟩
      rw [wrap64_id] <;> omega

end Go.AE

/- A log's entries. -/
set_option linter.unusedVariables false
set_option linter.unusedSimpArgs false
set_option maxHeartbeats 4000000
set_option maxRecDepth 100000
namespace Go.AE
open Go Go.Proofs

def secs (l : List (List UInt8)) : Prop := ∀ x ∈ l, x.length = 32

def FT3_h25 : List AV → Option (Prop × AV) := t1 (fun l => secs l ∧ l.length < 1000000) fun l : List (List UInt8) => firstAV (firstR (l.take 23).flatten)
@[simp] theorem FT3_ap25 {l : List AV} : FT3_h25 l = (t1 (fun l => secs l ∧ l.length < 1000000) fun l : List (List UInt8) => firstAV (firstR (l.take 23).flatten)) l := rfl
def FT3 : CT := (25, .pu FT3_h25) :: FT2
theorem FT3_ok : CTok Tryz.prog FT3 := ⟨tells1 fun l h => first_ev l h.1 h.2, FT2_ok⟩
@[simp] theorem FT3_get25 : ctGet FT3 25 = some (.pu FT3_h25) := rfl
@[simp] theorem FT3_skip {n : Nat} (h : (n == 25) = false) : ctGet FT3 n = ctGet FT2 n := by
  simp only [Bool.or_eq_false_iff, beq_eq_false_iff_ne, ne_eq] at h
  simp [FT3, ctGet, h]

def loadF : Nat → List (List UInt8) → Nat → List EntryV × Nat
  | 0, _, a => ([], a)
  | k + 1, l, a => if l = [] then ([], a) else
    if (firstR (l.take 23).flatten).2.2 then
      ((firstR (l.take 23).flatten).1 :: (loadF k (l.drop (firstR (l.take 23).flatten).2.1) (a + (firstR (l.take 23).flatten).2.1)).1, (loadF k (l.drop (firstR (l.take 23).flatten).2.1) (a + (firstR (l.take 23).flatten).2.1)).2)
    else ([], a)
def loadR (d : DiskV) : List EntryV × Nat × Int := if mayB d = true then ((loadF d.safe.length d.safe 0).1, (loadF d.safe.length d.safe 0).2, 0) else ([], 0, 1)
def loadAV (r : List EntryV × Nat × Int) : AV := .t [(false, [.nw 45 13 (rowsE r.1)]), (false, [.raw (.int .i64 r.2.1)]), (false, [.raw (.int .i64 r.2.2)])]

theorem mayB_secs {d : DiskV} (h : mayB d = true) : secs d.safe ∧ 1 ≤ d.safe.length ∧ d.safe.length ≤ 400 := by
  simp only [mayB, Bool.and_eq_true, decide_eq_true_eq, List.all_eq_true] at h
  obtain ⟨⟨⟨⟨h1, h2⟩, _⟩, h3⟩, _⟩ := h
  exact ⟨fun x hx => by simpa [isSec] using h3 x hx, h1, h2⟩

theorem load_ev (d : DiskV) (h1 : d.safe.length < 1000000) (h2 : d.wait.length < 1000000) : PEv Tryz.prog 10 [Arg.enc d] (loadAV (loadR d)) := by
  refine tells_of mixed FT3_ok Tryz.func10 sl10 ok10 (by kernel_rfl) (by simp -implicitDefEqProofs (maxSteps := 400000) (maxDischargeDepth := 6) [loadAV]) (by simp -implicitDefEqProofs (maxSteps := 400000) (maxDischargeDepth := 6)) ?_
  cases hm : mayB d
  · have e : loadR d = ([], 0, 1) := by simp -implicitDefEqProofs (maxSteps := 400000) (maxDischargeDepth := 6) [loadR, hm]
    simp -implicitDefEqProofs (maxSteps := 400000) (maxDischargeDepth := 6) [s10, h1, h2, hm, e, loadAV]
  obtain ⟨hsec, hl1, hl4⟩ := mayB_secs hm
  have e : loadR d = ((loadF d.safe.length d.safe 0).1, (loadF d.safe.length d.safe 0).2, 0) := by simp -implicitDefEqProofs (maxSteps := 400000) (maxDischargeDepth := 6) [loadR, hm]
  obtain ⟨R, hR⟩ : ∃ R, R = loadF d.safe.length d.safe 0 := ⟨_, rfl⟩
  rw [← hR] at e
  simp -implicitDefEqProofs (maxSteps := 400000) (maxDischargeDepth := 6) [s10, h1, h2, hm, e, loadAV]
  refine loop_n (fun q st => ∃ (a k : Nat) (acc : List EntryV), a ≤ d.safe.length ∧ q = d.safe.length - a ∧ d.safe.length - a ≤ k ∧ st.s 1 = .c (.pt (0, 1) 0 0) ∧ st.s 3 = .c (.raw (.int .i64 a)) ∧ acc.length ≤ a ∧
    acc ++ (loadF k (d.safe.drop a) a).1 = R.1 ∧ (loadF k (d.safe.drop a) a).2 = R.2 ∧ st.H (0, 1) = .arr 30 2 false [[.sl .brw false (rowsE d.safe), .sl .brw false (rowsE d.wait)]] ∧
    ((st.s 2 = .c (.raw (.slice none 0 0)) ∧ acc = []) ∨ ∃ id, st.s 2 = .c (.so id 0 acc.length) ∧ st.H id = .arr 45 13 false (rowsE acc)) ∧ 0 < st.T ∧ Fresh st.H st.T) d.safe.length ?_ ?_
  · refine ⟨0, d.safe.length, [], by omega, by omega, by omega, ?_⟩
    simp -implicitDefEqProofs (maxSteps := 400000) (maxDischargeDepth := 6) [hR]
    (repeat' (first | exact fresh_no.mono (Nat.zero_le _) | (refine Fresh.set' ?_ (by simp))))
  rintro q st ⟨a, k, acc, ha, rfl, hk, q1, q3, hac, hr1, hr2, hD, hown, hT, hf⟩
  have hfu : ∀ k d, st.T ≤ k → st.H (k, d) = .unborn := hf
  have hfu3 : ∀ d, st.H (st.T + 1 + 1 + 1, d) = .unborn := fun d => hf _ _ (by omega)
  by_cases hlt : a < d.safe.length
  · have hlt' : (a : Int) < d.safe.length := by omega
    have hle : a ≤ d.safe.length := by omega
    have htr : List.drop a (rowsE d.safe) = rowsE (d.safe.drop a) := by simp -implicitDefEqProofs (maxSteps := 400000) (maxDischargeDepth := 6) [rowsE]
    have hs2 : secs (d.safe.drop a) := fun x hx => hsec x (List.mem_of_mem_drop hx)
    have hs3 : d.safe.length - a < 1000000 := by omega
    obtain ⟨k, rfl⟩ : ∃ j, k = j + 1 := ⟨k - 1, by omega⟩
    have hne : d.safe.drop a ≠ [] := by intro h; have := congrArg List.length h; simp -implicitDefEqProofs (maxSteps := 400000) (maxDischargeDepth := 6) at this; omega
    rw [loadF, if_neg hne] at hr1 hr2
    obtain ⟨S, hS⟩ : ∃ S, S = ((d.safe.drop a).take 23).flatten := ⟨_, rfl⟩
    have hSl : S.length ≤ 32 * (d.safe.length - a) := by
      rw [hS, flat32 fun x hx => hs2 x (List.mem_of_mem_take hx), List.length_take, List.length_drop]
      omega
    rw [← hS] at hr1 hr2
    have hok := @firstR_ok S
    rcases hfr : firstR S with ⟨x, n, ok⟩
    rw [hfr] at hr1 hr2 hok
    simp only at hr1 hr2 hok
    cases ok
    · simp only [Bool.false_eq_true, if_false] at hr1 hr2
      rcases hown with ⟨q2, rfl⟩ | ⟨id, q2, hid⟩
      · simp -implicitDefEqProofs (maxSteps := 400000) (maxDischargeDepth := 6) [s10L0, q1, q2, q3, hD, hlt', hle, htr, hs2, hs3, ← hS, hfr, firstAV, entRow, opRow, hfu]
        exact ⟨by simpa using hr1.symm, hr2⟩
      · obtain ⟨p1, p2, p3⟩ := hf.arr hid
        simp -implicitDefEqProofs (maxSteps := 400000) (maxDischargeDepth := 6) [s10L0, q1, q2, q3, hD, hlt', hle, htr, hs2, hs3, ← hS, hfr, firstAV, entRow, opRow, hfu, hid, p1, p2]
        simp only [List.append_nil] at hr1
        exact ⟨⟨hr1, by rw [hr1]⟩, hr2⟩
    · simp only [if_true] at hr1 hr2
      obtain ⟨n1, n2, n3⟩ := hok rfl
      have hdd : (d.safe.drop a).drop n = d.safe.drop (a + n) := by rw [List.drop_drop]
      rw [hdd] at hr1 hr2
      have hr2' := hr2
      have hw : IntKind.wrap .i64 ((a : Int) + n) = ((a + n : Nat) : Int) := by rw [wrap64_id] <;> omega
      rcases hown with ⟨q2, rfl⟩ | ⟨id, q2, hid⟩
      · simp -implicitDefEqProofs (maxSteps := 400000) (maxDischargeDepth := 6) [s10L0, q1, q2, q3, hD, hlt', hle, htr, hs2, hs3, ← hS, hfr, firstAV, entRow, opRow, hfu, hfu3, hw]
        refine ⟨d.safe.length - (a + n), by omega, a + n, by omega, rfl, k, by omega, by simp -implicitDefEqProofs (maxSteps := 400000) (maxDischargeDepth := 6), [x], by simp -implicitDefEqProofs (maxSteps := 400000) (maxDischargeDepth := 6); omega, ?_, hr2', ⟨_, _, ⟨⟨rfl, rfl⟩, rfl⟩, ?_⟩, ?_⟩
        · simpa [hdd] using hr1
        · simp -implicitDefEqProofs (maxSteps := 400000) (maxDischargeDepth := 6) [rowsE, entRow, opRow]
        · repeat' (first | exact hf.mono (by first | omega | (simp <;> omega)) | (refine Fresh.set' ?_ (by first | omega | (simp <;> omega))))
      · obtain ⟨p1, p2, p3⟩ := hf.arr hid
        have p4 : ∀ d, ((st.T + 1 + 1 + 1, d) = id) = False := fun d => p1 _ d (by omega)
        have p5 : ∀ d, (id = (st.T + 1 + 1 + 1, d)) = False := fun d => p2 _ d (by omega)
        have p6 : ∀ d, ((st.T + 1, d) = id) = False := fun d => p1 _ d (by omega)
        have p7 : ∀ d, (id = (st.T + 1, d)) = False := fun d => p2 _ d (by omega)
        simp -implicitDefEqProofs (maxSteps := 400000) (maxDischargeDepth := 6) [s10L0, q1, q2, q3, hD, hlt', hle, htr, hs2, hs3, ← hS, hfr, firstAV, entRow, opRow, hfu, hfu3, hid, p1, p2, p4, p5, p6, p7, hw]
        refine ⟨⟨by omega, by omega⟩, d.safe.length - (a + n), by omega, a + n, by omega, rfl, k, by omega, by simp -implicitDefEqProofs (maxSteps := 400000) (maxDischargeDepth := 6), acc ++ [x], by simp -implicitDefEqProofs (maxSteps := 400000) (maxDischargeDepth := 6); omega, by simpa using hr1, hr2', ?_, ⟨_, _, ⟨⟨rfl, rfl⟩, by simp -implicitDefEqProofs (maxSteps := 400000) (maxDischargeDepth := 6)⟩, ?_⟩, ?_⟩
        · intro h
          rw [← h, hD] at hid
          simp -implicitDefEqProofs (maxSteps := 400000) (maxDischargeDepth := 6) at hid
        · simp -implicitDefEqProofs (maxSteps := 400000) (maxDischargeDepth := 6) [rowsE, entRow, opRow]
        · repeat' (first | exact hf.mono (by first | omega | (simp <;> omega)) | (refine Fresh.set' ?_ (by first | omega | (simp <;> omega))))
  · have : a = d.safe.length := by omega
    subst this
    have hd : d.safe.drop d.safe.length = [] := List.drop_length
    have hr3 : (loadF k (d.safe.drop d.safe.length) d.safe.length) = ([], d.safe.length) := by
      rw [hd]
      cases k with
      | zero => rfl
      | succ k => rw [loadF, if_pos rfl]
    rw [hr3] at hr1 hr2
    simp only [List.append_nil] at hr1 hr2
    rcases hown with ⟨q2, rfl⟩ | ⟨id, q2, hid⟩
    · simp -implicitDefEqProofs (maxSteps := 400000) (maxDischargeDepth := 6) [s10L0, q1, q2, q3, hD, ← hr1, ← hr2]
    · simp -implicitDefEqProofs (maxSteps := 400000) (maxDischargeDepth := 6) [s10L0, q1, q2, q3, hD, ← hr1, ← hr2, hid]

end Go.AE

/- An entry's sectors are put. -/
set_option linter.unusedVariables false
set_option linter.unusedSimpArgs false
set_option maxHeartbeats 4000000
set_option maxRecDepth 100000
namespace Go.AE
open Go Go.Proofs

def noD : DiskV := ⟨[], []⟩
def sect (s : List UInt8) (i : Nat) : List UInt8 := (s.drop (32 * i)).take 32
def appF (s : List UInt8) (at_ : Int) : Nat → Nat → DiskV → DiskV × Int
  | 0, _, d => (d, 0)
  | k + 1, i, d => if (putR d (at_ + i) (sect s i)).2 = 0 then appF s at_ k (i + 1) (putR d (at_ + i) (sect s i)).1 else (noD, (putR d (at_ + i) (sect s i)).2)
def appendR (d : DiskV) (at_ : Int) (e : EntryV) : DiskV × Int × Int :=
  if mayB d = true ∧ entMayB e = true ∧ 0 ≤ at_ then
    if (framedR e).2 = 0 then
      if (((framedR e).1.length / 32 : Nat) : Int) > (d.safe.length : Int) - min at_ (d.safe.length : Int) then (noD, 0, 6)
      else if (appF (framedR e).1 at_ ((framedR e).1.length / 32) 0 d).2 = 0 then ((appF (framedR e).1 at_ ((framedR e).1.length / 32) 0 d).1, at_ + ((framedR e).1.length / 32 : Nat), 0)
      else (noD, 0, (appF (framedR e).1 at_ ((framedR e).1.length / 32) 0 d).2)
    else (noD, 0, (framedR e).2)
  else (noD, 0, 1)
def appendAV (r : DiskV × Int × Int) : AV := .t [(true, diskNw r.1), (false, [.raw (.int .i64 r.2.1)]), (false, [.raw (.int .i64 r.2.2)])]

theorem framedR_ok {e : EntryV} (h : (framedR e).2 = 0) : 1 ≤ (framedR e).1.length / 32 ∧ 32 * ((framedR e).1.length / 32) = (framedR e).1.length ∧ (framedR e).1.length / 32 ≤ 25 := by
  have hl := framedR_len e
  unfold framedR at h hl ⊢
  split at h
  · cases h
  · rename_i h7
    rw [if_neg h7] at hl ⊢
    have h5 : 5 ≤ (sealA (plainN e)).length := by
      rw [sealA, if_neg (by omega)]
      have l1 : (speltN (ofN (bytesN (plainN e).length ++ plainN e))).length = 4 := rfl
      have l2 : 1 ≤ (bytesN (plainN e).length).length := by
        show 1 ≤ (bytesF 9 (plainN e).length).length
        rw [bytesF]
        split <;> simp -implicitDefEqProofs (maxSteps := 400000) (maxDischargeDepth := 6)
      simp only [List.length_append, l1]
      omega
    have hm : (padN (sealA (plainN e))).length = (sealA (plainN e)).length + padL (sealA (plainN e)).length := by simp -implicitDefEqProofs (maxSteps := 400000) (maxDischargeDepth := 6) [padN]
    unfold padL at hm
    simp only at hl ⊢
    omega

theorem mayB_wait {d : DiskV} (h : mayB d = true) : d.wait.length ≤ 400 := by
  simp only [mayB, Bool.and_eq_true, decide_eq_true_eq] at h
  exact h.1.1.2

theorem putR_len (d : DiskV) (n : Int) (s : List UInt8) : (putR d n s).1.safe.length ≤ d.safe.length ∧ (putR d n s).1.wait.length ≤ d.wait.length + 1 := by
  unfold putR
  repeat' split
  all_goals simp -implicitDefEqProofs (maxSteps := 400000) (maxDischargeDepth := 6)

def FT4_h10 : List AV → Option (Prop × AV) := t1 (fun d : DiskV => d.safe.length < 1000000 ∧ d.wait.length < 1000000) fun d : DiskV => loadAV (loadR d)
@[simp] theorem FT4_ap10 {l : List AV} : FT4_h10 l = (t1 (fun d : DiskV => d.safe.length < 1000000 ∧ d.wait.length < 1000000) fun d : DiskV => loadAV (loadR d)) l := rfl
def FT4 : CT := (10, .pu FT4_h10) :: FT3
theorem FT4_ok : CTok Tryz.prog FT4 := ⟨tells1 fun d h => load_ev d h.1 h.2, FT3_ok⟩
@[simp] theorem FT4_get10 : ctGet FT4 10 = some (.pu FT4_h10) := rfl
@[simp] theorem FT4_skip {n : Nat} (h : (n == 10) = false) : ctGet FT4 n = ctGet FT3 n := by
  simp only [Bool.or_eq_false_iff, beq_eq_false_iff_ne, ne_eq] at h
  simp [FT4, ctGet, h]

theorem append_ev (d : DiskV) (at_ : Int) (e : EntryV) (h1 : d.safe.length < 1000000) (h2 : d.wait.length < 1000000) (h3 : e.op.text.length < 1000000) (h4 : e.op.gone.length < 1000000) (hat : at_ < 9223372036854775808) :
    PEv Tryz.prog 7 [Arg.enc d, .c (.raw (.int .i64 at_)), Arg.enc e] (appendAV (appendR d at_ e)) := by
  refine tells_of mixed FT4_ok Tryz.func7 sl7 ok7 (by kernel_rfl) (by simp -implicitDefEqProofs (maxSteps := 400000) (maxDischargeDepth := 6) [appendAV, diskNw]) (by simp -implicitDefEqProofs (maxSteps := 400000) (maxDischargeDepth := 6) [entRow, opRow]) ?_
  have ho : okO e.op := ⟨by omega, by omega⟩
  cases hm : mayB d
  · have er : appendR d at_ e = (noD, 0, 1) := by simp -implicitDefEqProofs (maxSteps := 400000) (maxDischargeDepth := 6) [appendR, hm]
    simp -implicitDefEqProofs (maxSteps := 400000) (maxDischargeDepth := 6) [s7, entRow, opRow, h1, h2, hm, er, appendAV, noD, diskNw]
  cases he : entMayB e
  · have er : appendR d at_ e = (noD, 0, 1) := by simp -implicitDefEqProofs (maxSteps := 400000) (maxDischargeDepth := 6) [appendR, he]
    simp -implicitDefEqProofs (maxSteps := 400000) (maxDischargeDepth := 6) [s7, entRow, opRow, h1, h2, hm, ho, he, er, appendAV, noD, diskNw]
  by_cases ha : at_ < 0
  · have er : appendR d at_ e = (noD, 0, 1) := by rw [appendR, if_neg (by omega)]
    simp -implicitDefEqProofs (maxSteps := 400000) (maxDischargeDepth := 6) [s7, entRow, opRow, h1, h2, hm, ho, he, ha, er, appendAV, noD, diskNw]
  have hof := entMayB_ok he h3 h4
  have er1 : appendR d at_ e = if (framedR e).2 = 0 then
      if (((framedR e).1.length / 32 : Nat) : Int) > (d.safe.length : Int) - min at_ (d.safe.length : Int) then (noD, 0, 6)
      else if (appF (framedR e).1 at_ ((framedR e).1.length / 32) 0 d).2 = 0 then ((appF (framedR e).1 at_ ((framedR e).1.length / 32) 0 d).1, at_ + ((framedR e).1.length / 32 : Nat), 0)
      else (noD, 0, (appF (framedR e).1 at_ ((framedR e).1.length / 32) 0 d).2)
    else (noD, 0, (framedR e).2) := by rw [appendR, if_pos ⟨hm, he, by omega⟩]
  have hfk := @framedR_ok e
  have e4 : framedAV e = .t [(false, [.str (framedR e).1]), (false, [.raw (.int .i64 (framedR e).2)])] := rfl
  rcases hf : framedR e with ⟨b, c⟩
  rw [hf] at er1 hfk e4
  simp only at er1 hfk e4
  by_cases hc : c = 0
  rotate_left
  · rw [if_neg hc] at er1
    simp -implicitDefEqProofs (maxSteps := 400000) (maxDischargeDepth := 6) [s7, entRow, opRow, h1, h2, hm, ho, he, ha, hof, e4, hc, er1, appendAV, noD, diskNw]
  subst hc
  obtain ⟨k1, k2, k3⟩ := hfk rfl
  rw [if_pos rfl] at er1
  have e5 : (b.length : Int).tdiv 32 = ((b.length / 32 : Nat) : Int) := rfl
  obtain ⟨n, hn⟩ : ∃ n, n = b.length / 32 := ⟨_, rfl⟩
  rw [← hn] at er1 k1 k2 k3 e5
  have e6 : IntKind.wrap .i64 (n : Int) = n := by rw [wrap64_id] <;> omega
  have e7 : (if (d.safe.length : Int) < at_ then (d.safe.length : Int) else at_) = min at_ (d.safe.length : Int) := by omega
  have e8 : IntKind.wrap .i64 ((d.safe.length : Int) - min at_ (d.safe.length : Int)) = (d.safe.length : Int) - min at_ (d.safe.length : Int) := by rw [wrap64_id] <;> omega
  obtain ⟨z, hz⟩ : ∃ z, z = (d.safe.length : Int) - min at_ (d.safe.length : Int) := ⟨_, rfl⟩
  rw [← hz] at er1 e8
  by_cases hn2 : z < n
  · rw [if_pos (by omega)] at er1
    simp -implicitDefEqProofs (maxSteps := 400000) (maxDischargeDepth := 6) [s7, entRow, opRow, h1, h2, hm, ho, he, ha, hof, e4, e5, e6, e7, e8, ← hz, hn2, er1, appendAV, noD, diskNw]
  rw [if_neg (by omega)] at er1
  have hat2 : at_ + n ≤ d.safe.length := by omega
  simp -implicitDefEqProofs (maxSteps := 400000) (maxDischargeDepth := 6) [s7, entRow, opRow, h1, h2, hm, ho, he, ha, hof, e4, e5, e6, e7, e8, ← hz, hn2, appendAV, noD, diskNw]
  obtain ⟨R, hR⟩ : ∃ R, R = appF b at_ n 0 d := ⟨_, rfl⟩
  rw [← hR] at er1
  have hw400 := mayB_wait hm
  refine loop_n (fun q st => ∃ (i : Nat) (D : DiskV), i ≤ n ∧ q = n - i ∧ st.s 1 = .c (.raw (.int .i64 at_)) ∧ st.s 3 = .c (.pt (0, 3) 0 0) ∧ st.s 6 = .c (.pt (0, 6) 0 0) ∧ st.s 9 = .c (.str b) ∧ st.s 10 = .c (.raw (.int .i64 n)) ∧ st.s 49 = .c (.raw (.int .i64 n)) ∧ st.s 50 = .c (.raw (.int .i64 i)) ∧
    st.H (0, 6) = .arr 30 2 false [[.raw (.slice none 0 0), .raw (.slice none 0 0)]] ∧ appF b at_ (n - i) i D = R ∧ D.safe.length ≤ d.safe.length ∧ D.wait.length ≤ d.wait.length + i ∧
    ((i = 0 ∧ st.H (0, 3) = .arr 30 2 false [[.sl .brw false (rowsE D.safe), .sl .brw false (rowsE D.wait)]]) ∨
      ∃ j1 j2, j1 ≠ j2 ∧ st.H (0, 3) = .arr 30 2 false [[.so j1 0 D.safe.length, .so j2 0 D.wait.length]] ∧ st.H j1 = .arr 9 1 false (rowsE D.safe) ∧ st.H j2 = .arr 75 2 false (rowsE D.wait)) ∧ 0 < st.T ∧ Fresh st.H st.T) n ?_ ?_
  · refine ⟨0, d, by omega, by omega, ?_⟩
    simp -implicitDefEqProofs (maxSteps := 400000) (maxDischargeDepth := 6) [hR]
    (repeat' (first | exact fresh_no.mono (Nat.zero_le _) | (refine Fresh.set' ?_ (by simp))))
  rintro q st ⟨i, D, hi, rfl, q1, q3, q6, q9, q10, q49, q50, hH6, hap, hs, hwt, hD, hT, hfr⟩
  have hfu : ∀ k d, st.T ≤ k → st.H (k, d) = .unborn := hfr
  by_cases hlt : i < n
  · have hlt' : (i : Int) < n := by omega
    have w1 : IntKind.wrap .i64 (at_ + i) = at_ + i := by rw [wrap64_id] <;> omega
    have w2 : IntKind.wrap .i64 ((i : Int) * 32) = ((32 * i : Nat) : Int) := by rw [wrap64_id] <;> omega
    have w3 : IntKind.wrap .i64 ((i : Int) + 1) = ((i + 1 : Nat) : Int) := by rw [wrap64_id] <;> omega
    have w4 : IntKind.wrap .i64 (((i : Int) + 1) * 32) = ((32 * i + 32 : Nat) : Int) := by rw [wrap64_id] <;> omega
    obtain ⟨lo, hlo⟩ : ∃ x, x = 32 * i := ⟨_, rfl⟩
    obtain ⟨hi2, hhi⟩ : ∃ x, x = 32 * i + 32 := ⟨_, rfl⟩
    rw [← hlo] at w2
    rw [← hhi] at w4
    have w5 : lo ≤ hi2 := by omega
    have w6 : hi2 ≤ b.length := by omega
    have b1 : D.safe.length < 1000000 := by omega
    have b2 : D.wait.length < 1000000 := by omega
    obtain ⟨l1, l2⟩ := putR_len D (at_ + i) (sect b i)
    rw [show n - i = (n - (i + 1)) + 1 by omega, appF] at hap
    have hsec : (b.take hi2).drop lo = sect b i := by
      rw [sect, List.drop_take, ← hlo, hhi, hlo]
      congr 1
      omega
    obtain ⟨Ds, Dw⟩ := D
    rcases hp : putR ⟨Ds, Dw⟩ (at_ + i) (sect b i) with ⟨D2, c⟩
    have hfu4 : ∀ d, st.H (st.T + 1 + 1, d) = .unborn := fun d => hfr _ _ (by omega)
    simp only at b1 b2 hs hwt hD
    rw [hp] at hap l1 l2
    simp only at hap l1 l2
    by_cases hc : c = 0
    · rw [if_pos hc] at hap
      subst hc
      rcases hD with ⟨h0, hH3⟩ | ⟨j1, j2, hjj, hH3, hj1, hj2⟩
      · simp -implicitDefEqProofs (maxSteps := 400000) (maxDischargeDepth := 6) [s7L0, q1, q3, q6, q9, q10, q49, q50, hH6, hH3, hlt', w1, w2, w3, w4, w5, w6, b1, b2, hsec, hp, diskE, diskNw, hfu, hfu4]
        refine ⟨n - (i + 1), by omega, i + 1, by omega, rfl, rfl, D2, hap, by omega, by omega, ⟨_, _, _, _, ?_, ⟨⟨⟨rfl, rfl⟩, rfl⟩, ⟨rfl, rfl⟩, rfl⟩, ?_, ?_⟩, ?_⟩
        · simp -implicitDefEqProofs (maxSteps := 400000) (maxDischargeDepth := 6)
        · simp -implicitDefEqProofs (maxSteps := 400000) (maxDischargeDepth := 6)
        · simp -implicitDefEqProofs (maxSteps := 400000) (maxDischargeDepth := 6)
        · have hf := hfr
          repeat' (first | exact hf.mono (by first | omega | (simp <;> omega)) | (refine Fresh.set' ?_ (by first | omega | (simp <;> omega))))
      · simp -implicitDefEqProofs (maxSteps := 400000) (maxDischargeDepth := 6) [s7L0, q1, q3, q6, q9, q10, q49, q50, hH6, hH3, hj1, hj2, hlt', w1, w2, w3, w4, w5, w6, b1, b2, hsec, hp, diskE, diskNw, hfu, hfu4]
        refine ⟨n - (i + 1), by omega, i + 1, by omega, rfl, rfl, D2, hap, by omega, by omega, ⟨_, _, _, _, ?_, ⟨⟨⟨rfl, rfl⟩, rfl⟩, ⟨rfl, rfl⟩, rfl⟩, ?_, ?_⟩, ?_⟩
        · simp -implicitDefEqProofs (maxSteps := 400000) (maxDischargeDepth := 6)
        · simp -implicitDefEqProofs (maxSteps := 400000) (maxDischargeDepth := 6)
        · simp -implicitDefEqProofs (maxSteps := 400000) (maxDischargeDepth := 6)
        · have hf := hfr
          repeat' (first | exact hf.mono (by first | omega | (simp <;> omega)) | (refine Fresh.set' ?_ (by first | omega | (simp <;> omega))))
    · rw [if_neg hc] at hap
      have er2 : appendR d at_ e = (noD, 0, c) := by rw [er1, ← hap, if_neg hc]
      rcases hD with ⟨h0, hH3⟩ | ⟨j1, j2, hjj, hH3, hj1, hj2⟩
      · simp -implicitDefEqProofs (maxSteps := 400000) (maxDischargeDepth := 6) [s7L0, q1, q3, q6, q9, q10, q49, q50, hH6, hH3, hlt', w1, w2, w3, w4, w5, w6, b1, b2, hsec, hp, diskE, diskNw, hfu, hfu4, hc, er2, noD]
      · simp -implicitDefEqProofs (maxSteps := 400000) (maxDischargeDepth := 6) [s7L0, q1, q3, q6, q9, q10, q49, q50, hH6, hH3, hj1, hj2, hlt', w1, w2, w3, w4, w5, w6, b1, b2, hsec, hp, diskE, diskNw, hfu, hfu4, hc, er2, noD]
  · have : i = n := by omega
    subst this
    rw [Nat.sub_self, appF] at hap
    have w1 : IntKind.wrap .i64 (at_ + i) = at_ + i := by rw [wrap64_id] <;> omega
    have er2 : appendR d at_ e = (D, at_ + i, 0) := by rw [er1, ← hap, if_pos rfl]
    rcases hD with ⟨h0, hH3⟩ | ⟨j1, j2, hjj, hH3, hj1, hj2⟩
    · omega
    · simp -implicitDefEqProofs (maxSteps := 400000) (maxDischargeDepth := 6) [s7L0, q1, q3, q6, q9, q10, q49, q50, hH6, hH3, hj1, hj2, w1, er2]
      refine ⟨⟨?_, ?_⟩, hjj⟩
      · rintro rfl
        rw [hH6] at hj1
        simp -implicitDefEqProofs (maxSteps := 400000) (maxDischargeDepth := 6) at hj1
      · rintro rfl
        rw [hH6] at hj2
        simp -implicitDefEqProofs (maxSteps := 400000) (maxDischargeDepth := 6) at hj2

end Go.AE

/- Sectors are made blank. -/
set_option linter.unusedVariables false
set_option linter.unusedSimpArgs false
set_option maxHeartbeats 4000000
set_option maxRecDepth 100000
namespace Go.AE
open Go Go.Proofs

def FT5 : CT := FT4
theorem FT5_ok : CTok Tryz.prog FT5 := FT4_ok
attribute [simp] FT5


def cleanF (at_ : Int) : List (List UInt8) → Nat → DiskV → DiskV × Int
  | [], _, d => (d, 0)
  | s :: l, i, d => if (i : Int) < at_ ∨ s = blank then cleanF at_ l (i + 1) d
    else if (putR d i blank).2 = 0 then cleanF at_ l (i + 1) (putR d i blank).1 else (noD, (putR d i blank).2)
def cleanR (d : DiskV) (at_ : Int) : DiskV × Int :=
  if mayB d = true ∧ 0 ≤ at_ then (if (cleanF at_ d.safe 0 d).2 = 0 then syncR (cleanF at_ d.safe 0 d).1 else (noD, (cleanF at_ d.safe 0 d).2)) else (noD, 1)

end Go.AE

/- Ops and entries: whether they are the same. -/
set_option linter.unusedVariables false
set_option linter.unusedSimpArgs false
set_option maxHeartbeats 4000000
set_option maxRecDepth 100000
namespace Go.AE
open Go Go.Proofs

def FE0_h26 : List AV → Option (Prop × AV) := t2 (fun a _ => a.length < 4611686018427387904) fun a b : List ElemV => .c (.raw (.bool (decide (a = b))))
@[simp] theorem FE0_ap26 {l : List AV} : FE0_h26 l = (t2 (fun a _ => a.length < 4611686018427387904) fun a b : List ElemV => .c (.raw (.bool (decide (a = b))))) l := rfl
def FE0 : CT := (26, .pu FE0_h26) :: FT5
theorem FE0_ok : CTok Tryz.prog FE0 := ⟨tells2 fun a b h => eqElems_ev a b h, FT5_ok⟩
@[simp] theorem FE0_get26 : ctGet FE0 26 = some (.pu FE0_h26) := rfl
@[simp] theorem FE0_skip {n : Nat} (h : (n == 26) = false) : ctGet FE0 n = ctGet FT5 n := by
  simp only [Bool.or_eq_false_iff, beq_eq_false_iff_ne, ne_eq] at h
  simp [FE0, ctGet, h]

theorem eqOp_ev (a b : OpV) (ha : a.gone.length < 4611686018427387904) : PEv Tryz.prog 11 [Arg.enc a, Arg.enc b] (.c (.raw (.bool (sameB a b)))) := by
  refine tells_of mixed FE0_ok Tryz.func11 sl11 ok11 (by kernel_rfl) (by simp -implicitDefEqProofs (maxSteps := 400000) (maxDischargeDepth := 6)) (by simp -implicitDefEqProofs (maxSteps := 400000) (maxDischargeDepth := 6) [opRow]) ?_
  have hz := elemEq a.after b.after
  cases c2 : decide (a.site = b.site)
  · simp -implicitDefEqProofs (maxSteps := 400000) (maxDischargeDepth := 6) [s11, opRow, sameB, hz, c2, ha]
  cases c3 : decide (a.seq = b.seq)
  · simp -implicitDefEqProofs (maxSteps := 400000) (maxDischargeDepth := 6) [s11, opRow, sameB, hz, c2, c3, ha]
  cases c4 : decide (a.kind = b.kind)
  · simp -implicitDefEqProofs (maxSteps := 400000) (maxDischargeDepth := 6) [s11, opRow, sameB, hz, c2, c3, c4, ha]
  cases c5 : decide (a.after = b.after)
  · rw [c5] at hz
    simp -implicitDefEqProofs (maxSteps := 400000) (maxDischargeDepth := 6) [s11, opRow, sameB, hz, c2, c3, c4, c5, ha]
  rw [c5] at hz
  cases c6 : decide (a.text = b.text)
  · simp -implicitDefEqProofs (maxSteps := 400000) (maxDischargeDepth := 6) [s11, opRow, sameB, hz, c2, c3, c4, c5, c6, ha]
  cases c1 : decide (a.gone = b.gone)
  · simp -implicitDefEqProofs (maxSteps := 400000) (maxDischargeDepth := 6) [s11, opRow, sameB, hz, c1, c2, c3, c4, c5, c6, ha]
  cases c7 : decide (a.of_ = b.of_)
  · simp -implicitDefEqProofs (maxSteps := 400000) (maxDischargeDepth := 6) [s11, opRow, sameB, hz, c1, c2, c3, c4, c5, c6, c7, ha]
  cases c8 : decide (a.num = b.num)
  · simp -implicitDefEqProofs (maxSteps := 400000) (maxDischargeDepth := 6) [s11, opRow, sameB, hz, c1, c2, c3, c4, c5, c6, c7, c8, ha]
  · simp -implicitDefEqProofs (maxSteps := 400000) (maxDischargeDepth := 6) [s11, opRow, sameB, hz, c1, c2, c3, c4, c5, c6, c7, c8, ha]

def FE1_h11 : List AV → Option (Prop × AV) := t2 (fun a _ => a.gone.length < 4611686018427387904) fun a b : OpV => .c (.raw (.bool (sameB a b)))
@[simp] theorem FE1_ap11 {l : List AV} : FE1_h11 l = (t2 (fun a _ => a.gone.length < 4611686018427387904) fun a b : OpV => .c (.raw (.bool (sameB a b)))) l := rfl
def FE1 : CT := (11, .pu FE1_h11) :: FE0
theorem FE1_ok : CTok Tryz.prog FE1 := ⟨tells2 fun a b h => eqOp_ev a b h, FE0_ok⟩
@[simp] theorem FE1_get11 : ctGet FE1 11 = some (.pu FE1_h11) := rfl
@[simp] theorem FE1_skip {n : Nat} (h : (n == 11) = false) : ctGet FE1 n = ctGet FE0 n := by
  simp only [Bool.or_eq_false_iff, beq_eq_false_iff_ne, ne_eq] at h
  simp [FE1, ctGet, h]

def sameE (a b : EntryV) : Bool := (a.join == b.join) && decide (a.nonce = b.nonce) && sameB a.op b.op
theorem sameE_eq (a b : EntryV) : sameE a b = decide (a = b) := by
  obtain ⟨a1, a2, a3⟩ := a
  obtain ⟨b1, b2, b3⟩ := b
  simp only [sameE, sameB_eq]
  rw [Bool.eq_iff_iff]
  simp only [Bool.and_eq_true, beq_iff_eq, decide_eq_true_eq, EntryV.mk.injEq, and_assoc]

def FE2 : CT := FE1
theorem FE2_ok : CTok Tryz.prog FE2 := FE1_ok
attribute [simp] FE2


def okL (l : List EntryV) : Prop := ∀ e ∈ l, e.op.gone.length < 4611686018427387904

end Go.AE

/- The abstract machine: an own row that lies in a row of another one's, seen as one that stays. -/
set_option linter.unusedVariables false
set_option linter.unusedSimpArgs false
namespace Go.AE
open Go

variable {P : Program}

theorem so_frz' {C : Ctx P} {H H2 : Heap} {ρ : Lies} {w : World} {id : Id} {v : Value} {e sz : Nat} {xs : List (List AC)} (hH : RelH C H ρ w) (h : RelC w (Fr C H ρ) H ρ (.so id 0 xs.length) v) (hid : H id = .arr e sz false xs)
    (hr : ∀ r ∈ xs, ∀ c ∈ r, RetOK c) (hF : ∀ t b, Fr C H ρ t b → Fr C H2 ρ t b) (hnm : ∀ b c s, ρ id = some (b, c, s) → ¬ Mut H2 ρ b) : RelC w (Fr C H2 ρ) H2 ρ (.sl .old false xs) v := by
  have hrows : rowsOf H (.so id 0 xs.length) = some xs := by simp [rowsOf, hid]
  have hin : ∀ c u, RetOK c → RelC w (Fr C H ρ) H ρ c u → RelC w (Fr C H2 ρ) H2 ρ c u := fun c u hc hu => hu.noid hc fun t b _ hb => hF t b hb
  have hs : SoVal ρ id 0 xs.length v := by
    cases h with
    | so _ _ _ _ hk hs => exact hs (by rw [hid]; rfl)
  unfold SoVal at hs
  rcases (hH.row id e sz false xs hid).lies with ⟨q1, q2⟩ | ⟨b', cap', cur, q1, q0, q3, _⟩
  · rw [q1] at hs; subst q2; exact .slNil _ _ _ hs.2.2
  · have hnm' := hnm b' cap' sz q1
    rw [q1] at hs
    obtain ⟨o'', he, _⟩ := hs
    have hb : b' < w.heap.size := (Array.getElem?_eq_some_iff.1 q3).1
    rcases rows_rel hH h hrows with ⟨hn, rfl⟩ | ⟨b, o', cap, sz', rfl, g1, g2, g3⟩
    · exact .slNil _ _ _ hn
    · cases he
      obtain ⟨news, n1, n2, n3, n4⟩ := app_vals g1 g3
      have hbl : ∀ k, k < xs.length * sz' → ∃ u, w.cell? ⟨b', o'' + k, none⟩ = some u ∧ news[k]? = some u := fun k hk => by
        have : k < news.length := by omega
        have h1 := n2 k news[k] (List.getElem?_eq_getElem this)
        rw [Addr.add_lit] at h1
        exact ⟨_, h1, List.getElem?_eq_getElem this⟩
      refine .sl _ _ xs b' o'' _ sz' (fun k => news.getD k undef) hb ⟨.inl q0, hnm'⟩ g2 (fun e => by cases e) (fun i r hi => g1 r (List.mem_of_getElem? hi)) (fun k hk => ?_) (fun k hk => ?_) (fun i j r c hi hj => ?_)
      · obtain ⟨u, u1, u2⟩ := hbl k hk
        rw [u1]; simp [List.getD, u2]
      · obtain ⟨u, u1, u2⟩ := hbl k hk
        have : news.getD k undef = u := by simp [List.getD, u2]
        rw [this]; exact n3 u (List.mem_of_getElem? u2)
      · obtain ⟨u, u1, u2, u3⟩ := n4 i j r c hi hj
        have : news.getD (i * sz' + j) undef = u := by simp [List.getD, u1]
        rw [this]
        exact hin _ _ (hr r (List.mem_of_getElem? hi) c (List.mem_of_getElem? hj)) u3

/-- One cell of one object that names an own row: that row is seen as one that stays; nobody writes it any more. -/
def frz1 (H : Heap) (id o : Id) (e2 sz2 : Nat) (rows xs : List (List AC)) (k j : Nat) (r : List AC) : Heap :=
  hset (hset H id .dead) o (.arr e2 sz2 false (rows.set k (r.set j (.sl .old false xs))))

theorem frz1_rel {C : Ctx P} {H : Heap} {ρ : Lies} {w : World} {id o : Id} {e sz e2 sz2 : Nat} {xs rows : List (List AC)} {k j : Nat} {r : List AC} (hH : RelH C H ρ w) (hid : H id = .arr e sz false xs)
    (hx : ∀ r ∈ xs, ∀ c ∈ r, RetOK c) (ho : H o = .arr e2 sz2 false rows) (hne : o ≠ id) (hr : rows[k]? = some r) (hj : r[j]? = some (.so id 0 xs.length)) :
    RelH C (frz1 H id o e2 sz2 rows xs k j r) ρ w ∧ Keeps w w (Fr C H ρ) (Fr C (frz1 H id o e2 sz2 rows xs k j r) ρ) H (frz1 H id o e2 sz2 rows xs k j r) ρ ρ := by
  generalize hH2 : frz1 H id o e2 sz2 rows xs k j r = H2
  have g0 : ∀ i, H2 i = if i = o then .arr e2 sz2 false (rows.set k (r.set j (.sl .old false xs))) else if i = id then .dead else H i := fun i => by
    rw [← hH2]; rfl
  have gun : ∀ i, H2 i = .unborn ↔ H i = .unborn := fun i => by
    rw [g0]
    split
    · rename_i h; subst h; rw [ho]; simp
    · split
      · rename_i h; subst h; rw [hid]; simp
      · exact Iff.rfl
  have garr : ∀ {i e' sz' f' rs}, H2 i = .arr e' sz' f' rs → ∃ rs0, H i = .arr e' sz' f' rs0 ∧ i ≠ id ∧ rs0.length = rs.length := fun {i e' sz' f' rs} h => by
    rw [g0] at h
    split at h
    · rename_i hi
      subst hi
      cases h
      exact ⟨rows, ho, hne, by simp⟩
    · split at h
      · cases h
      · rename_i hi
        exact ⟨rs, h, hi, rfl⟩
  have hmut : ∀ b, Mut H2 ρ b → Mut H ρ b := fun b ⟨i, e', sz', rs, cap, s, h1, h2⟩ => by
    obtain ⟨rs0, h3, _, _⟩ := garr h1
    exact ⟨i, e', sz', rs0, cap, s, h3, h2⟩
  have hF : ∀ t b, Fr C H ρ t b → Fr C H2 ρ t b := fun t b h => ⟨h.1, fun q => h.2 (hmut b q)⟩
  have hk : Keeps w w (Fr C H ρ) (Fr C H2 ρ) H H2 ρ ρ := by
    refine ⟨Nat.le_refl _, fun t b h _ => ⟨hF t b h, rfl⟩, fun i hi => ⟨fun q => hi ((gun i).1 q), fun hl => ⟨?_, rfl⟩⟩⟩
    cases h2 : H2 i with
    | arr e' sz' f' rs =>
      obtain ⟨rs0, h3, _, _⟩ := garr h2
      rw [h3]; rfl
    | _ => rw [h2] at hl; cases hl
  have hnm : ∀ b c s, ρ id = some (b, c, s) → ¬ Mut H2 ρ b := fun b c s hρ ⟨i, e', sz', rs, cap, s', h1, h2⟩ => by
    obtain ⟨rs0, h3, h4, _⟩ := garr h1
    exact h4 (hH.inj i id e' sz' rs0 e sz false xs b cap s' c s h3 hid h2 hρ)
  refine ⟨⟨hH.below, fun i e' sz' f' rs hi => ?_, fun i i' e' sz' rs e'' sz'' f'' rs' b c s c' s' h1 h2 => ?_, ?_⟩, hk⟩
  · by_cases hio : i = o
    · subst hio
      rw [g0, if_pos rfl] at hi
      cases hi
      have hrow := hH.row i e2 sz2 false rows ho
      refine ⟨fun q r' hq => ?_, ?_⟩
      · rw [List.getElem?_set] at hq
        split at hq
        · split at hq
          · cases hq
            rw [List.length_set]
            exact hrow.rowlen k r hr
          · cases hq
        · exact hrow.rowlen q r' hq
      · rcases hrow.lies with ⟨l1, l2⟩ | ⟨b, cap, cur, l1, l2, l3, l4, l5, l6, l7⟩
        · subst l2; simp at hr
        · refine .inr ⟨b, cap, cur, l1, l2, l3, by simpa using l4, l5, l6, fun q q' r' c hq hq' => ?_⟩
          rw [List.getElem?_set] at hq
          split at hq
          · rename_i hkq
            subst hkq
            split at hq
            · cases hq
              rw [List.getElem?_set] at hq'
              split at hq'
              · rename_i hjq
                subst hjq
                split at hq'
                · cases hq'
                  obtain ⟨v, v1, v2, v3⟩ := l7 k j r _ hr hj
                  exact ⟨v, v1, v2, so_frz' hH v3 hid hx hF hnm⟩
                · cases hq'
              · obtain ⟨v, v1, v2, v3⟩ := l7 k q' r c hr hq'
                exact ⟨v, v1, v2, v3.keep hk⟩
            · cases hq
          · obtain ⟨v, v1, v2, v3⟩ := l7 q q' r' c hq hq'
            exact ⟨v, v1, v2, v3.keep hk⟩
    · have h3 : H i = .arr e' sz' f' rs := by
        rw [g0, if_neg hio] at hi
        split at hi
        · cases hi
        · exact hi
      have hrow := hH.row i e' sz' f' rs h3
      refine ⟨hrow.rowlen, ?_⟩
      rcases hrow.lies with l | ⟨b, cap, cur, l1, l2, l3, l4, l5, l6, l7⟩
      · exact .inl l
      · exact .inr ⟨b, cap, cur, l1, l2, l3, l4, l5, l6, fun q q' r' c hq hq' => by
          obtain ⟨v, v1, v2, v3⟩ := l7 q q' r' c hq hq'
          exact ⟨v, v1, v2, v3.keep hk⟩⟩
  · obtain ⟨r0, h3, _, _⟩ := garr h1
    obtain ⟨r1, h4, _, _⟩ := garr h2
    exact hH.inj i i' e' sz' r0 e'' sz'' f'' r1 b c s c' s' h3 h4
  · obtain ⟨N, hN⟩ := hH.fin
    exact ⟨N, fun k d hk => (gun _).2 (hN k d hk)⟩

/-- One cell of one object that is no slice: it is seen as one that stays. -/
def frzN (H : Heap) (o : Id) (e2 sz2 : Nat) (rows : List (List AC)) (k j : Nat) (r : List AC) : Heap :=
  hset H o (.arr e2 sz2 false (rows.set k (r.set j (.sl .old false []))))

theorem frzN_rel {C : Ctx P} {H : Heap} {ρ : Lies} {w : World} {o : Id} {e2 sz2 : Nat} {rows : List (List AC)} {k j : Nat} {r : List AC} (hH : RelH C H ρ w) 
    (ho : H o = .arr e2 sz2 false rows) (hr : rows[k]? = some r) (hj : r[j]? = some (.raw (.slice none 0 0))) :
    RelH C (frzN H o e2 sz2 rows k j r) ρ w ∧ Keeps w w (Fr C H ρ) (Fr C (frzN H o e2 sz2 rows k j r) ρ) H (frzN H o e2 sz2 rows k j r) ρ ρ := by
  generalize hH2 : frzN H o e2 sz2 rows k j r = H2
  have g0 : ∀ i, H2 i = if i = o then .arr e2 sz2 false (rows.set k (r.set j (.sl .old false []))) else H i := fun i => by
    rw [← hH2]; rfl
  have gun : ∀ i, H2 i = .unborn ↔ H i = .unborn := fun i => by
    rw [g0]
    split
    · rename_i h; subst h; rw [ho]; simp
    · exact Iff.rfl
  have garr : ∀ {i e' sz' f' rs}, H2 i = .arr e' sz' f' rs → ∃ rs0, H i = .arr e' sz' f' rs0 ∧ rs0.length = rs.length := fun {i e' sz' f' rs} h => by
    rw [g0] at h
    split at h
    · rename_i hi
      subst hi
      cases h
      exact ⟨rows, ho, by simp⟩
    · exact ⟨rs, h, rfl⟩
  have hmut : ∀ b, Mut H2 ρ b → Mut H ρ b := fun b ⟨i, e', sz', rs, cap, s, h1, h2⟩ => by
    obtain ⟨rs0, h3, _⟩ := garr h1
    exact ⟨i, e', sz', rs0, cap, s, h3, h2⟩
  have hF : ∀ t b, Fr C H ρ t b → Fr C H2 ρ t b := fun t b h => ⟨h.1, fun q => h.2 (hmut b q)⟩
  have hk : Keeps w w (Fr C H ρ) (Fr C H2 ρ) H H2 ρ ρ := by
    refine ⟨Nat.le_refl _, fun t b h _ => ⟨hF t b h, rfl⟩, fun i hi => ⟨fun q => hi ((gun i).1 q), fun hl => ⟨?_, rfl⟩⟩⟩
    cases h2 : H2 i with
    | arr e' sz' f' rs =>
      obtain ⟨rs0, h3, _⟩ := garr h2
      rw [h3]; rfl
    | _ => rw [h2] at hl; cases hl
  refine ⟨⟨hH.below, fun i e' sz' f' rs hi => ?_, fun i i' e' sz' rs e'' sz'' f'' rs' b c s c' s' h1 h2 => ?_, ?_⟩, hk⟩
  · by_cases hio : i = o
    · subst hio
      rw [g0, if_pos rfl] at hi
      cases hi
      have hrow := hH.row i e2 sz2 false rows ho
      refine ⟨fun q r' hq => ?_, ?_⟩
      · rw [List.getElem?_set] at hq
        split at hq
        · split at hq
          · cases hq
            rw [List.length_set]
            exact hrow.rowlen k r hr
          · cases hq
        · exact hrow.rowlen q r' hq
      · rcases hrow.lies with ⟨l1, l2⟩ | ⟨b, cap, cur, l1, l2, l3, l4, l5, l6, l7⟩
        · subst l2; simp at hr
        · refine .inr ⟨b, cap, cur, l1, l2, l3, by simpa using l4, l5, l6, fun q q' r' c hq hq' => ?_⟩
          rw [List.getElem?_set] at hq
          split at hq
          · rename_i hkq
            subst hkq
            split at hq
            · cases hq
              rw [List.getElem?_set] at hq'
              split at hq'
              · rename_i hjq
                subst hjq
                split at hq'
                · cases hq'
                  obtain ⟨v, v1, v2, v3⟩ := l7 k j r _ hr hj
                  have hv := relC_raw v3
                  exact ⟨v, v1, v2, .slNil _ _ _ (.inl hv)⟩
                · cases hq'
              · obtain ⟨v, v1, v2, v3⟩ := l7 k q' r c hr hq'
                exact ⟨v, v1, v2, v3.keep hk⟩
            · cases hq
          · obtain ⟨v, v1, v2, v3⟩ := l7 q q' r' c hq hq'
            exact ⟨v, v1, v2, v3.keep hk⟩
    · have h3 : H i = .arr e' sz' f' rs := by
        rw [g0, if_neg hio] at hi
        exact hi
      have hrow := hH.row i e' sz' f' rs h3
      refine ⟨hrow.rowlen, ?_⟩
      rcases hrow.lies with l | ⟨b, cap, cur, l1, l2, l3, l4, l5, l6, l7⟩
      · exact .inl l
      · exact .inr ⟨b, cap, cur, l1, l2, l3, l4, l5, l6, fun q q' r' c hq hq' => by
          obtain ⟨v, v1, v2, v3⟩ := l7 q q' r' c hq hq'
          exact ⟨v, v1, v2, v3.keep hk⟩⟩
  · obtain ⟨r0, h3, _⟩ := garr h1
    obtain ⟨r1, h4, _⟩ := garr h2
    exact hH.inj i i' e' sz' r0 e'' sz'' f'' r1 b c s c' s' h3 h4
  · obtain ⟨N, hN⟩ := hH.fin
    exact ⟨N, fun k d hk => (gun _).2 (hN k d hk)⟩

inductive Frz : Heap → Heap → Prop where
  | refl (H : Heap) : Frz H H
  | step {H H' : Heap} {id o : Id} {e sz e2 sz2 : Nat} {xs rows : List (List AC)} {k j : Nat} {r : List AC} (hid : H id = .arr e sz false xs) (hx : ∀ r ∈ xs, ∀ c ∈ r, RetOK c)
      (ho : H o = .arr e2 sz2 false rows) (hne : o ≠ id) (hr : rows[k]? = some r) (hj : r[j]? = some (.so id 0 xs.length)) (h : Frz (frz1 H id o e2 sz2 rows xs k j r) H') : Frz H H'
  | nil {H H' : Heap} {o : Id} {e2 sz2 : Nat} {rows : List (List AC)} {k j : Nat} {r : List AC} (ho : H o = .arr e2 sz2 false rows) (hr : rows[k]? = some r) (hj : r[j]? = some (.raw (.slice none 0 0)))
      (h : Frz (frzN H o e2 sz2 rows k j r) H') : Frz H H'

theorem Frz.rel {H H' : Heap} (h : Frz H H') {C : Ctx P} {ρ : Lies} {st : St} {a : Act} {w : World} (hr : Rel C ρ st a w) (he : st.H = H) : Rel C ρ { st with H := H' } a w := by
  induction h generalizing st with
  | refl H => subst he; exact hr
  | step hid hx ho hne hrw hj h ih =>
    subst he
    obtain ⟨h1, h2⟩ := frz1_rel hr.heap hid hx ho hne hrw hj
    have := ih (st := { st with H := frz1 st.H _ _ _ _ _ _ _ _ _ }) (hr.heapTo (T' := st.T) h1 h2) rfl
    exact this
  | nil ho hrw hj h ih =>
    subst he
    obtain ⟨h1, h2⟩ := frzN_rel hr.heap ho hrw hj
    have := ih (st := { st with H := frzN st.H _ _ _ _ _ _ _ }) (hr.heapTo (T' := st.T) h1 h2) rfl
    exact this

/-- What is handed back, once own rows in rows are seen as rows that stay. -/
def finF (P : Program) (fn : Func) (ret : AV) (e : AEx) (st : St) : Prop :=
  (match e with | .normal | .ret => True | _ => False) ∧ ∃ H' res, Frz st.H H' ∧ resA P { st with H := H' } fn.results.toList = some res ∧ exV H' res ret ∧ (soIds res.flat).Nodup

theorem pevF_of {calm : Array Oper → Bool} (hcalm : CalmOK P calm) {f : FuncId} {fn : Func} {c : Code} {args : List AV} {ret : AV} (hf : P.funcs[f]? = some fn) (hb : fn.body = some c)
    (hok : fnOK calm fn args.length = true) (hret : ∀ c ∈ ret.flat, RetC c) (harg : ∀ x ∈ args, ∀ c ∈ x.flat, VOK c) (h : awp P c (finF P fn ret) (initS args)) : PEv P f args ret := by
  simp only [fnOK, hb, Bool.and_eq_true, decide_eq_true_eq, bne_iff_ne, ne_eq] at hok
  obtain ⟨⟨hname, hcode⟩, hle⟩ := hok
  refine ⟨⟨by simp [okCall, hf, hb, hname], hret, harg⟩, fun w hI G vs hsz hargs nm inj => ?_⟩
  refine calls_of_wp hf hb (Code.wp_mono (fun e a w' q => ?_) (awp_sound calm hcalm c fn.ntmps _ noLies (initS args) _ w hcode (by simp; omega) (initRel hsz hargs) h))
  have fin : SemK (Ctx.of w hI G) fn.ntmps (fun st => ∃ H' res, Frz st.H H' ∧ resA P { st with H := H' } fn.results.toList = some res ∧ exV H' res ret ∧ (soIds res.flat).Nodup) a w' →
      a.defers = [] ∧ ∃ v, (results fn a.tmps).run P w' = .ok v w' ∧ (∃ v', Ending.returned v = .returned v' ∧ ∃ ρ, RelH (Ctx.of w hI G) (adH nm 0 ret.flat noHeap) ρ w' ∧
        RelV w' (Fr (Ctx.of w hI G) (adH nm 0 ret.flat noHeap) ρ) (adH nm 0 ret.flat noHeap) ρ (ret.ad nm) v') := fun ⟨_, ρ, st, hr, H', res, gf, g1, g2, g3⟩ => by
    have hr' := gf.rel hr rfl
    obtain ⟨v, h1, h2⟩ := resA_sound hr' g1
    obtain ⟨ρ', h3, h4⟩ := export_rel hr' h2 hret g2 g3 nm inj
    exact ⟨hr.nodef, v, h1, v, rfl, ρ', h3, h4⟩
  cases e with
  | normal => exact fin (SemK.mono q fun st hs => hs.2)
  | ret => exact fin (SemK.mono q fun st hs => hs.2)
  | exit id =>
    obtain ⟨_, _, _, _, hs⟩ := q
    exact hs.1.elim
  | _ => exact q.elim

theorem tells_frz (hm : P.follows .mixedOrders = true) {F : CT} (hF : CTok P F) {f : FuncId} {fn : Func} {s : SC} {args : List AV} {ret : AV} (hf : P.funcs[f]? = some fn) (hs : slimK fn.body s = some (unK s, true))
    (hok : fnOK calmB fn 0 = true) (hle : Nat.ble args.length fn.ntmps = true) (hret : ∀ c ∈ ret.flat, RetC c) (harg : ∀ x ∈ args, ∀ c ∈ x.flat, VOK c) (h : awpS P F s (finF P fn ret) (initS args)) : PEv P f args ret := by
  cases hb : fn.body with
  | none => rw [hb] at hs; cases hs
  | some c =>
    rw [hb] at hs
    simp only [slimK, Option.map_some, Option.some.injEq, Prod.mk.injEq] at hs
    refine pevF_of (calm_ok hm) hf hb ?_ hret harg (awpS_sound hF hs.1 hs.2 h)
    simp only [fnOK, hb, Bool.and_eq_true] at hok ⊢
    exact ⟨hok.1, by simpa using Nat.le_of_ble_eq_true hle⟩

@[simp] theorem finF_ret {fn : Func} {ret : AV} {st : St} : finF P fn ret .ret st = ∃ H' res, Frz st.H H' ∧ resA P { st with H := H' } fn.results.toList = some res ∧ exV H' res ret ∧ (soIds res.flat).Nodup := by simp [finF]
@[simp] theorem finF_normal {fn : Func} {ret : AV} {st : St} : finF P fn ret .normal st = ∃ H' res, Frz st.H H' ∧ resA P { st with H := H' } fn.results.toList = some res ∧ exV H' res ret ∧ (soIds res.flat).Nodup := by simp [finF]

end Go.AE

/- StoreStale's entries. -/
set_option linter.unusedVariables false
set_option linter.unusedSimpArgs false
set_option maxHeartbeats 4000000
set_option maxRecDepth 100000
namespace Go.AE
open Go Go.Proofs

theorem num15_ev (n : Int) : PEv Tryz.prog 6 [.c (.raw (.int .i64 n))] (.c (.raw (.int .i64 n))) := by
  refine tells_of mixed (F := []) trivial Tryz.func6 sl6 ok6 (by kernel_rfl) (by simp -implicitDefEqProofs (maxSteps := 400000) (maxDischargeDepth := 6)) (by simp -implicitDefEqProofs (maxSteps := 400000) (maxDischargeDepth := 6)) ?_
  simp -implicitDefEqProofs (maxSteps := 400000) (maxDischargeDepth := 6) [s6]

def longT : List UInt8 := [48, 49, 50, 51, 52, 53, 54, 55, 56, 57, 97, 98]
def longO : OpV := ⟨1, 1, 1, ⟨0, 0, 0⟩, longT, [⟨2, 1, 0⟩, ⟨2, 2, 0⟩, ⟨2, 3, 0⟩, ⟨2, 4, 0⟩], 0, 0, 0⟩
def joinE (n : Int) : EntryV := ⟨true, n, zeroO⟩
def someL : List EntryV := [joinE 1, ⟨false, 0, longO⟩, joinE 2, joinE 3, joinE 9]

end Go.AE

/- What was torn, and lies behind, is loaded no more once it is cleaned: the plain law. -/
set_option linter.unusedVariables false
set_option maxRecDepth 100000
namespace Go.AE
open Go

theorem longT_text : textB longT = true := by decide +kernel
theorem longT_runes : runesN longT = 12 := by decide +kernel
theorem t0_text : textB [] = true := by decide +kernel

def staleD : Nat → DiskV × Int
  | 0 => (⟨List.replicate 12 blank, []⟩, 0)
  | i + 1 => ((appendR (staleD i).1 (staleD i).2 (someL.getD i zeroE)).1, (appendR (staleD i).1 (staleD i).2 (someL.getD i zeroE)).2.1)

theorem stale_app1 : (appendR (staleD 0).1 (staleD 0).2 (joinE 1)).2.2 = 0 := by decide +kernel
theorem stale_app2 : (appendR (staleD 1).1 (staleD 1).2 ⟨false, 0, longO⟩).2.2 = 0 := by decide +kernel

end Go.AE

/- What was torn, and lies behind, is loaded no more once it is cleaned: the plain law, by the kernel. -/
set_option linter.unusedVariables false
set_option maxRecDepth 100000
set_option maxHeartbeats 2000000
namespace Go.AE
open Go

theorem stale_app {i : Nat} (hi : i < 4) : appendR (staleD i).1 (staleD i).2 (someL.getD i zeroE) = ((staleD (i + 1)).1, (staleD (i + 1)).2, 0) := by
  have h : ∀ i, i < 4 → (appendR (staleD i).1 (staleD i).2 (someL.getD i zeroE)).2.2 = 0 := by decide +kernel
  have := h i hi
  generalize hx : appendR (staleD i).1 (staleD i).2 (someL.getD i zeroE) = x at this
  obtain ⟨a, b, c⟩ := x
  simp only at this
  subst this
  simp only [staleD, hx]

theorem stale_len {i : Nat} (hi : i < 5) : (staleD i).1.safe.length = 12 ∧ (staleD i).1.wait.length < 100 ∧ 0 ≤ (staleD i).2 ∧ (staleD i).2 < 100 := by
  have h : ∀ i, i < 5 → (staleD i).1.safe.length = 12 ∧ (staleD i).1.wait.length < 100 ∧ 0 ≤ (staleD i).2 ∧ (staleD i).2 < 100 := by decide +kernel
  exact h i hi

def dS : DiskV := (staleD 4).1
theorem dS_len : dS.wait.length = 5 := by decide +kernel

/-- The choices: one sector is lost, or torn; the others are kept; up to the k-th. -/
def keepP (par lost k : Nat) : List Int := (List.range 5).map fun j => if j < k then (if j = lost then (par : Int) * 2 else 1) else 0
theorem keepP_0 (par lost : Nat) : keepP par lost 0 = List.replicate 5 0 := by rfl
theorem keepP_len (par lost k : Nat) : (keepP par lost k).length = 5 := by simp [keepP]
theorem keepP_step {par lost k : Nat} (h1 : par < 2) (h2 : lost < 5) (h3 : k < 5) : keepP par lost (k + 1) = if k = lost then ((keepP par lost k).set k 1).set k ((par : Int) * 2) else (keepP par lost k).set k 1 := by
  have h : ∀ par, par < 2 → ∀ lost, lost < 5 → ∀ k, k < 5 → keepP par lost (k + 1) = if k = lost then ((keepP par lost k).set k 1).set k ((par : Int) * 2) else (keepP par lost k).set k 1 := by decide +kernel
  exact h par h1 lost h2 k h3

def sX (par lost : Nat) : DiskV × Int := crashR dS (keepP par lost 5)
def sG (par lost : Nat) : List EntryV × Nat × Int := loadR (sX par lost).1
def sY (par lost : Nat) : DiskV × Int := cleanR (sX par lost).1 (sG par lost).2.1
def sW (par lost : Nat) : DiskV × Int × Int := appendR (sY par lost).1 (sG par lost).2.1 (joinE 9)
def sM (par lost : Nat) : DiskV × Int := syncR (sW par lost).1
def sL (par lost : Nat) : List EntryV × Nat × Int := loadR (sM par lost).1

structure StaleFacts (X : DiskV) (G : List EntryV) (n : Nat) (Y W : DiskV) (k : Int) (M : DiskV) (L : List EntryV) (m : Nat) (K : List Int) : Prop where
  fx : crashR dS K = (X, 0)
  fg : loadR X = (G, n, 0)
  fy : cleanR X n = (Y, 0)
  fw : appendR Y n (joinE 9) = (W, k, 0)
  fm : syncR W = (M, 0)
  fl : loadR M = (L, m, 0)
  x1 : X.safe.length < 1000
  x2 : X.wait.length < 1000
  y1 : Y.safe.length < 1000
  y2 : Y.wait.length < 1000
  w1 : W.safe.length < 1000
  w2 : W.wait.length < 1000
  m1 : M.safe.length < 1000
  m2 : M.wait.length < 1000
  n1 : n < 1000
  len : L.length = G.length + 1
  glen : G.length < 1000
  take : L.take G.length = G
  last : L[G.length]? = some (joinE 9)
  ok : ∀ e ∈ G, e.op.gone.length < 1000

def staleB (par lost : Nat) : Bool :=
  decide ((sX par lost).2 = 0) && decide ((sG par lost).2.2 = 0) && decide ((sY par lost).2 = 0) && decide ((sW par lost).2.2 = 0) && decide ((sM par lost).2 = 0) && decide ((sL par lost).2.2 = 0) &&
  decide ((sX par lost).1.safe.length < 1000) && decide ((sX par lost).1.wait.length < 1000) && decide ((sY par lost).1.safe.length < 1000) && decide ((sY par lost).1.wait.length < 1000) &&
  decide ((sW par lost).1.safe.length < 1000) && decide ((sW par lost).1.wait.length < 1000) && decide ((sM par lost).1.safe.length < 1000) && decide ((sM par lost).1.wait.length < 1000) &&
  decide ((sG par lost).2.1 < 1000) && decide ((sL par lost).1.length = (sG par lost).1.length + 1) && decide ((sG par lost).1.length < 1000) && decide ((sL par lost).1.take (sG par lost).1.length = (sG par lost).1) &&
  decide ((sL par lost).1[(sG par lost).1.length]? = some (joinE 9)) && (sG par lost).1.all fun e => decide (e.op.gone.length < 1000)

theorem staleB_ok : ∀ par, par < 2 → ∀ lost, lost < 5 → staleB par lost = true := by decide +kernel

theorem stale_facts {par lost : Nat} (h1 : par < 2) (h2 : lost < 5) : ∃ X G n Y W k M L m, StaleFacts X G n Y W k M L m (keepP par lost 5) := by
  have h := staleB_ok par h1 lost h2
  simp only [staleB, Bool.and_eq_true, decide_eq_true_eq, List.all_eq_true] at h
  rcases hX : crashR dS (keepP par lost 5) with ⟨X, fx⟩
  have e1 : sX par lost = (X, fx) := hX
  rcases hG : loadR X with ⟨G, n, fg⟩
  have e2 : sG par lost = (G, n, fg) := by rw [sG, e1]; exact hG
  rcases hY : cleanR X n with ⟨Y, fy⟩
  have e3 : sY par lost = (Y, fy) := by rw [sY, e1, e2]; exact hY
  rcases hW : appendR Y n (joinE 9) with ⟨W, k, fw⟩
  have e4 : sW par lost = (W, k, fw) := by rw [sW, e2, e3]; exact hW
  rcases hM : syncR W with ⟨M, fm⟩
  have e5 : sM par lost = (M, fm) := by rw [sM, e4]; exact hM
  rcases hL : loadR M with ⟨L, m, fl⟩
  have e6 : sL par lost = (L, m, fl) := by rw [sL, e5]; exact hL
  rw [e1, e2, e3, e4, e5, e6] at h
  simp only at h
  obtain ⟨⟨⟨⟨⟨⟨⟨⟨⟨⟨⟨⟨⟨⟨⟨⟨⟨⟨⟨a1, a2⟩, a3⟩, a4⟩, a5⟩, a6⟩, b1⟩, b2⟩, b3⟩, b4⟩, b5⟩, b6⟩, b7⟩, b8⟩, b9⟩, c1⟩, c2⟩, c3⟩, c4⟩, c5⟩ := h
  subst a1 a2 a3 a4 a5 a6
  exact ⟨X, G, n, Y, W, k, M, L, m, ⟨hX, hG, hY, hW, hM, hL, b1, b2, b3, b4, b5, b6, b7, b8, b9, c1, c2, c3, c4, c5⟩⟩

end Go.AE

set_option linter.unusedVariables false
set_option linter.unusedSimpArgs false
set_option maxHeartbeats 4000000
set_option maxRecDepth 100000
namespace Go.AE
open Go Go.Proofs

def FE3_h7 : List AV → Option (Prop × AV) := t3 (fun (d : DiskV) (n : Int) (e : EntryV) => d.safe.length < 1000000 ∧ d.wait.length < 1000000 ∧ e.op.text.length < 1000000 ∧ e.op.gone.length < 1000000 ∧ n < 9223372036854775808) fun (d : DiskV) (n : Int) (e : EntryV) => appendAV (appendR d n e)
@[simp] theorem FE3_ap7 {l : List AV} : FE3_h7 l = (t3 (fun (d : DiskV) (n : Int) (e : EntryV) => d.safe.length < 1000000 ∧ d.wait.length < 1000000 ∧ e.op.text.length < 1000000 ∧ e.op.gone.length < 1000000 ∧ n < 9223372036854775808) fun (d : DiskV) (n : Int) (e : EntryV) => appendAV (appendR d n e)) l := rfl
def FE3_h6 : List AV → Option (Prop × AV) := t1 (fun _ => True) fun n : Int => .c (.raw (.int .i64 n))
@[simp] theorem FE3_ap6 {l : List AV} : FE3_h6 l = (t1 (fun _ => True) fun n : Int => .c (.raw (.int .i64 n))) l := rfl
def FE3 : CT := (7, .pu FE3_h7) :: (6, .pu FE3_h6) :: FE2
theorem FE3_ok : CTok Tryz.prog FE3 := ⟨tells3 fun d n e h => append_ev d n e h.1 h.2.1 h.2.2.1 h.2.2.2.1 h.2.2.2.2,
  tells1 fun n _ => num15_ev n, FE2_ok⟩
@[simp] theorem FE3_get7 : ctGet FE3 7 = some (.pu FE3_h7) := rfl
@[simp] theorem FE3_get6 : ctGet FE3 6 = some (.pu FE3_h6) := rfl
@[simp] theorem FE3_skip {n : Nat} (h : (n == 7 || n == 6) = false) : ctGet FE3 n = ctGet FE2 n := by
  simp only [Bool.or_eq_false_iff, beq_eq_false_iff_ne, ne_eq] at h
  simp [FE3, ctGet, h]

def wkD0 : DiskV := ⟨List.replicate 4 blank, []⟩
def wkD1 : DiskV := (appendR wkD0 0 (joinE 5)).1
def wkD2 : DiskV := (syncR wkD1).1
theorem wkk1 : appendR wkD0 0 (joinE 5) = (wkD1, 1, 0) := by decide +kernel
theorem wkk2 : syncR wkD1 = (wkD2, 0) := by decide +kernel
theorem wkk3 : loadR wkD2 = ([joinE 5], 1, 0) := by decide +kernel
theorem wkk4 : wkD1.safe.length = 4 ∧ wkD1.wait.length = 1 ∧ wkD2.safe.length = 4 ∧ wkD2.wait.length = 0 := by decide +kernel

theorem wakes15_ev : PEv Tryz.prog 15 [] (.c (.raw (.bool true))) := by
  refine tells_of mixed FE3_ok Tryz.func15 sl15 ok15 (by kernel_rfl) (by simp -implicitDefEqProofs (maxSteps := 400000) (maxDischargeDepth := 6)) (by simp -implicitDefEqProofs (maxSteps := 400000) (maxDischargeDepth := 6)) ?_
  have w1 : appendR ⟨List.replicate 4 blank, []⟩ 0 ⟨true, 5, 0, 0, 0, ⟨0, 0, 0⟩, [], [], 0, 0, 0⟩ = (wkD1, 1, 0) := wkk1
  have w2 := wkk2
  have w3 := wkk3
  obtain ⟨l1, l2, l3, l4⟩ := wkk4
  generalize wkD1 = D1 at *
  generalize wkD2 = D2 at *
  obtain ⟨a1, b1⟩ := D1
  obtain ⟨a2, b2⟩ := D2
  simp only at l1 l2 l3 l4
  obtain rfl : b2 = [] := List.eq_nil_of_length_eq_zero l4
  simp -implicitDefEqProofs (maxSteps := 400000) (maxDischargeDepth := 6) [-List.reduceReplicate, s15, diskNw, diskE, appendAV, loadAV, w1, w2, w3, l1, l2, l3, l4, joinE, entRow, opRow, zeroO]

end Go.AE
