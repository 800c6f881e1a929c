/- What the store's script reads as, for StoreLong. -/
import Derived.Test.YtjafmhgkfkfimaaGreatLng3
import Derived.Test.YtjafmhgkfkfimaaGreatLng5

set_option linter.unusedVariables false
set_option linter.unusedSimpArgs false
set_option maxHeartbeats 4000000
set_option maxRecDepth 100000
namespace Go.AE
open Go Go.Proofs

theorem and127i {m : Nat} (h : m < 9223372036854775808) : iand .i64 (m : Int) 127 = ((m % 128 : Nat) : Int) := by
  have h1 : ((BitVec.ofInt 64 (m : Int)) &&& (BitVec.ofInt 64 127)).toNat = m % 128 := by
    rw [BitVec.toNat_and]
    have e1 : (BitVec.ofInt 64 (m : Int)).toNat = m := by simp -implicitDefEqProofs (maxSteps := 400000) (maxDischargeDepth := 6); omega
    have e2 : (BitVec.ofInt 64 127).toNat = 2 ^ 7 - 1 := by decide
    rw [e1, e2, Nat.and_two_pow_sub_one_eq_mod]
  show IntKind.wrap .i64 (((BitVec.ofInt 64 (m : Int)) &&& (BitVec.ofInt 64 127)).toNat : Int) = _
  rw [h1]
  exact wrap64_id (by omega) (by omega)

theorem or128 {r : Nat} (h : r < 128) : ior .i64 (r : Int) 128 = ((r + 128 : Nat) : Int) := by
  have := or_add (acc := r) (x := 1) (i := 1) (by omega) (by omega) (by omega)
  simpa using this

theorem refPut_ev (n : Nat) (hn : n < 9223372036854775808) : PEv Tryz.prog 37 [.c (.raw (.int .i64 n))] (.c (.str (bytesN n))) := by
  refine tells_of mixed (F := []) trivial Tryz.func37 sl37 ok37 (by kernel_rfl) (by simp -implicitDefEqProofs (maxSteps := 400000) (maxDischargeDepth := 6)) (by simp -implicitDefEqProofs (maxSteps := 400000) (maxDischargeDepth := 6)) ?_
  simp -implicitDefEqProofs (maxSteps := 400000) (maxDischargeDepth := 6) [s37]
  refine loop_n (fun q st => ∃ (k m : Nat) (L : List UInt8) (c : AC), q = k ∧ k ≤ 9 ∧ m < 128 ^ k ∧ L ++ bytesF k m = bytesN n ∧ st.s 0 = .c (.raw (.int .i64 m)) ∧ st.s 3 = .c c ∧ OwnL st.H 5 1 0 c L ∧ L.length + k ≤ 9 ∧ Fresh st.H st.T) 9
    ⟨9, n, [], .raw (.slice none 0 0), rfl, by omega, by omega, rfl, by simp -implicitDefEqProofs (maxSteps := 400000) (maxDischargeDepth := 6), by simp -implicitDefEqProofs (maxSteps := 400000) (maxDischargeDepth := 6), OwnL.nil, by simp -implicitDefEqProofs (maxSteps := 400000) (maxDischargeDepth := 6), by simp -implicitDefEqProofs (maxSteps := 400000) (maxDischargeDepth := 6); exact fresh_no.mono (by omega)⟩ ?_
  rintro q st ⟨k, m, L, c, hq, hk, hm, hL, k0, k3, hc, hl, hf⟩
  have hfu : ∀ k d, st.T ≤ k → st.H (k, d) = .unborn := hf
  have hm9 : m < 9223372036854775808 := Nat.lt_of_lt_of_le hm (Nat.le_trans (Nat.pow_le_pow_right (by omega) hk) (by decide))
  by_cases hlt : 128 ≤ m
  · have hlt' : (128 : Int) ≤ m := by omega
    cases k with
    | zero => simp -implicitDefEqProofs (maxSteps := 400000) (maxDischargeDepth := 6) at hm; omega
    | succ k =>
      have c1 := and127i hm9
      have c2 : (m : Int).fdiv (2 ^ 7) = ((m / 128 : Nat) : Int) := by
        rw [Int.fdiv_eq_ediv_of_nonneg _ (by exact Int.pow_nonneg (by omega))]; omega
      simp only [show (2 : Int) ^ 7 = 128 from rfl] at c2
      have b : IntKind.bits .i64 = 64 := rfl
      obtain ⟨r, hr, hr2⟩ : ∃ r : Nat, m % 128 = r ∧ r < 128 := ⟨m % 128, rfl, by omega⟩
      obtain ⟨p, hp⟩ : ∃ p : Nat, m / 128 = p := ⟨m / 128, rfl⟩
      rw [hr] at c1
      rw [hp] at c2
      have e1 := or128 hr2
      obtain ⟨y, hy⟩ : ∃ y : Nat, r + 128 = y := ⟨_, rfl⟩
      rw [hy] at e1
      have e2 : IntKind.wrap .u8 (y : Int) = y := wrap8_id (by omega) (by omega)
      have hm2 : p < 128 ^ k := by rw [Nat.pow_succ] at hm; omega
      have hL2 : (L ++ [UInt8.ofNat y]) ++ bytesF k p = bytesN n := by rw [← hL, bytesF_step hlt, hr, hp, hy]; simp -implicitDefEqProofs (maxSteps := 400000) (maxDischargeDepth := 6)
      rcases hc with ⟨rfl, rfl⟩ | ⟨id, rfl, hid0, hid⟩
      · simp -implicitDefEqProofs (maxSteps := 400000) (maxDischargeDepth := 6) [s37L0, k0, k3, hlt', hfu, b, c1, c2, e1, e2, Nat.le_add_right_of_le]
        refine ⟨k, by omega, by omega, p, hm2, [UInt8.ofNat y], by simpa using hL2, rfl, OwnL.so rfl (Nat.zero_le _) ?_, (by have := hl; simp -implicitDefEqProofs (maxSteps := 400000) (maxDischargeDepth := 6) at this ⊢; omega), ?_⟩
        · simp -implicitDefEqProofs (maxSteps := 400000) (maxDischargeDepth := 6) [rowsU8_one (y : Int) (by omega) (by omega)]
        · repeat' (first | exact hf.mono (by first | omega | (simp <;> omega)) | (refine Fresh.set' ?_ (by first | omega | (simp <;> omega))))
      · obtain ⟨f1, f2, f3⟩ := hf.arr hid
        simp -implicitDefEqProofs (maxSteps := 400000) (maxDischargeDepth := 6) [s37L0, k0, k3, hlt', hfu, b, c1, c2, e1, e2, f1, f2, hid, Nat.le_add_right_of_le]
        refine ⟨⟨by omega, by omega⟩, k, by omega, by omega, p, hm2, L ++ [UInt8.ofNat y], hL2, rfl, OwnL.so (by simp -implicitDefEqProofs (maxSteps := 400000) (maxDischargeDepth := 6)) (Nat.zero_le _) ?_, by simp -implicitDefEqProofs (maxSteps := 400000) (maxDischargeDepth := 6); omega, ?_⟩
        · simp -implicitDefEqProofs (maxSteps := 400000) (maxDischargeDepth := 6) [rowsU8_snoc L (y : Int) (by omega) (by omega)]
        · repeat' (first | exact hf.mono (by first | omega | (simp <;> omega)) | (refine Fresh.set' ?_ (by first | omega | (simp <;> omega))))
  · have hlt' : ¬ (128 : Int) ≤ m := by omega
    have e2 : IntKind.wrap .u8 (m : Int) = m := wrap8_id (by omega) (by omega)
    rw [bytesF_last (by omega)] at hL
    rcases hc with ⟨rfl, rfl⟩ | ⟨id, rfl, hid0, hid⟩
    · simp -implicitDefEqProofs (maxSteps := 400000) (maxDischargeDepth := 6) [s37L0, k0, k3, hlt', hfu, e2, Nat.le_add_right_of_le]
      simpa using hL
    · obtain ⟨f1, f2, f3⟩ := hf.arr hid
      simp -implicitDefEqProofs (maxSteps := 400000) (maxDischargeDepth := 6) [s37L0, k0, k3, hlt', hfu, e2, f1, f2, hid, List.take_of_length_le, hL, Nat.le_add_right_of_le]
      omega

theorem refCheck_ev (s : List UInt8) (hs : s.length < 4611686018427387904) : PEv Tryz.prog 39 [.c (.str s)] (.c (.raw (.int .u32 (ofN s)))) := by
  refine tells_of mixed (F := []) trivial Tryz.func39 sl39 ok39 (by kernel_rfl) (by simp -implicitDefEqProofs (maxSteps := 400000) (maxDischargeDepth := 6)) (by simp -implicitDefEqProofs (maxSteps := 400000) (maxDischargeDepth := 6)) ?_
  simp -implicitDefEqProofs (maxSteps := 400000) (maxDischargeDepth := 6) [s39]
  refine loop_n (fun q st => ∃ (i h : Nat), i ≤ s.length ∧ q = s.length - i ∧ h < 4294967291 ∧ st.s 0 = .c (.str s) ∧ st.s 3 = .c (.raw (.int .u64 h)) ∧ st.s 4 = .c (.raw (.int .i64 i)) ∧ ofF h (s.drop i) = ofN s) s.length
    ⟨0, 1, by omega, rfl, by omega, by simp -implicitDefEqProofs (maxSteps := 400000) (maxDischargeDepth := 6), by simp -implicitDefEqProofs (maxSteps := 400000) (maxDischargeDepth := 6), by simp -implicitDefEqProofs (maxSteps := 400000) (maxDischargeDepth := 6), rfl⟩ ?_
  rintro q st ⟨i, h, hi, rfl, hh, k0, k3, k4, hT⟩
  by_cases hlt : i < s.length
  · have hlt' : (i : Int) < s.length := by omega
    have hb := s[i].toNat_lt
    rw [ofF_step hlt] at hT
    have c1 := bts_at s i hlt
    obtain ⟨b, hb2, hb3⟩ : ∃ b : Nat, s[i].toNat = b ∧ b < 256 := ⟨_, rfl, hb⟩
    rw [hb2] at c1 hT
    have c2 : IntKind.wrap .u64 ((h : Int) * 263) = (h : Int) * 263 := by rw [wrap64u_mod]; omega
    have c3 : IntKind.wrap .u64 (b : Int) = b := by rw [wrap64u_mod]; omega
    have c4 : IntKind.wrap .u64 ((h : Int) * 263 + b) = (h : Int) * 263 + b := by rw [wrap64u_mod]; omega
    have c5 : IntKind.wrap .u64 ((h : Int) * 263 + b + 7) = (h : Int) * 263 + b + 7 := by rw [wrap64u_mod]; omega
    obtain ⟨z, hz, hz2⟩ : ∃ z : Nat, (h * 263 + b + 7) % 4294967291 = z ∧ z < 4294967291 := ⟨_, rfl, Nat.mod_lt _ (by omega)⟩
    have c6 : ((h : Int) * 263 + b + 7).tmod 4294967291 = z := by rw [Int.tmod_eq_emod_of_nonneg (by omega)]; omega
    have e2 : IntKind.wrap .i64 ((i : Int) + 1) = (i : Int) + 1 := by rw [wrap64_id] <;> omega
    rw [hz] at hT
    simp -implicitDefEqProofs (maxSteps := 400000) (maxDischargeDepth := 6) [s39L0, k0, k3, k4, hlt, c1, c2, c3, c4, c5, c6, e2]
    exact ⟨s.length - (i + 1), by omega, i + 1, by omega, rfl, z, hz2, rfl, rfl, hT⟩
  · have : i = s.length := by omega
    subst this
    have hr : h = ofN s := by rw [← hT]; simp -implicitDefEqProofs (maxSteps := 400000) (maxDischargeDepth := 6) [ofF]
    have c7 : IntKind.wrap .u32 (h : Int) = h := by rw [wrap32_mod]; omega
    rw [hr] at c7 k3
    simp -implicitDefEqProofs (maxSteps := 400000) (maxDischargeDepth := 6) [s39L0, k0, k3, k4, c7]

def FG0_h37 : List AV → Option (Prop × AV) := t1 (fun n => 0 ≤ n ∧ n < 9223372036854775808) fun n : Int => .c (.str (bytesN n.toNat))
@[simp] theorem FG0_ap37 {l : List AV} : FG0_h37 l = (t1 (fun n => 0 ≤ n ∧ n < 9223372036854775808) fun n : Int => .c (.str (bytesN n.toNat))) l := rfl
def FG0_h39 : List AV → Option (Prop × AV) := t1 (fun s => s.length < 4611686018427387904) fun s : List UInt8 => .c (.raw (.int .u32 (ofN s)))
@[simp] theorem FG0_ap39 {l : List AV} : FG0_h39 l = (t1 (fun s => s.length < 4611686018427387904) fun s : List UInt8 => .c (.raw (.int .u32 (ofN s)))) l := rfl
def FG0 : CT := (37, .pu FG0_h37) :: (39, .pu FG0_h39) :: FE3
theorem FG0_ok : CTok Tryz.prog FG0 := ⟨tells1 fun n h => by have := refPut_ev n.toNat (by omega); rwa [Int.toNat_of_nonneg h.1] at this,
  tells1 fun s h => refCheck_ev s h, FE3_ok⟩
@[simp] theorem FG0_get37 : ctGet FG0 37 = some (.pu FG0_h37) := rfl
@[simp] theorem FG0_get39 : ctGet FG0 39 = some (.pu FG0_h39) := rfl
@[simp] theorem FG0_skip {n : Nat} (h : (n == 37 || n == 39) = false) : ctGet FG0 n = ctGet FE3 n := by
  simp only [Bool.or_eq_false_iff, beq_eq_false_iff_ne, ne_eq] at h
  simp [FG0, ctGet, h]

theorem refText_ev (s : List UInt8) (hs : s.length < 140737488355328) : PEv Tryz.prog 63 [.c (.str s)] (.c (.str (bytesN s.length ++ s))) := by
  refine tells_of mixed FG0_ok Tryz.func63 sl63 ok63 (by kernel_rfl) (by simp) (by simp) ?_
  have := bytesN_len s.length
  simp -implicitDefEqProofs (maxSteps := 400000) (maxDischargeDepth := 6) [s63, show s.length < 9223372036854775808 by omega]
  omega

theorem refFrame_ev (s : List UInt8) (hs : s.length < 4611686018427387904) : PEv Tryz.prog 19 [.c (.str s)] (.c (.str (sealA s))) := by
  refine tells_of mixed FG0_ok Tryz.func19 sl19 ok19 (by kernel_rfl) (by simp) (by simp) ?_
  have hb := bytesN_len s.length
  by_cases h7 : 700 < s.length
  · have h7' : (700 : Int) < s.length := by omega
    simp -implicitDefEqProofs (maxSteps := 400000) (maxDischargeDepth := 6) [s19, h7', sealA, h7]
  · have h7' : ¬ (700 : Int) < s.length := by omega
    have l1 : (speltN (ofN (bytesN s.length ++ s))).length = 4 := rfl
    have hlt4 := ofN_lt (bytesN s.length ++ s)
    rw [sealA, if_neg h7]
    generalize hh : ofN (bytesN s.length ++ s) = h at *
    have c : ∀ k : Nat, (h : Int).fdiv (2 ^ k) = ((h / 2 ^ k : Nat) : Int) := fun k => by
      rw [Int.fdiv_eq_ediv_of_nonneg _ (by exact Int.pow_nonneg (by omega))]
      push_cast
      rfl
    have w8 : ∀ n : Nat, IntKind.wrap .u8 (n : Int) = ((n % 256 : Nat) : Int) := fun n => by rw [wrap8_mod (by omega)]; omega
    have u8 : ∀ n : Nat, UInt8.ofNat (n % 256) = UInt8.ofNat n := fun n => by
      apply UInt8.toNat_inj.1
      simp -implicitDefEqProofs (maxSteps := 400000) (maxDischargeDepth := 6)
    have b : IntKind.bits .u32 = 32 := rfl
    have c1 := c 24
    have c2 := c 16
    have c3 := c 8
    simp only [show (2 : Nat) ^ 24 = 16777216 from rfl, show (2 : Nat) ^ 16 = 65536 from rfl, show (2 : Nat) ^ 8 = 256 from rfl, show (2 : Int) ^ 24 = 16777216 from rfl, show (2 : Int) ^ 16 = 65536 from rfl, show (2 : Int) ^ 8 = 256 from rfl] at c1 c2 c3
    obtain ⟨x1, h1⟩ : ∃ x, h / 16777216 = x := ⟨_, rfl⟩
    obtain ⟨x2, h2⟩ : ∃ x, h / 65536 = x := ⟨_, rfl⟩
    obtain ⟨x3, h3⟩ : ∃ x, h / 256 = x := ⟨_, rfl⟩
    rw [h1] at c1
    rw [h2] at c2
    rw [h3] at c3
    have v0 := w8 h
    have v1 := w8 x1
    have v2 := w8 x2
    have v3 := w8 x3
    obtain ⟨y0, g0⟩ : ∃ x, h % 256 = x := ⟨_, rfl⟩
    obtain ⟨y1, g1⟩ : ∃ x, x1 % 256 = x := ⟨_, rfl⟩
    obtain ⟨y2, g2⟩ : ∃ x, x2 % 256 = x := ⟨_, rfl⟩
    obtain ⟨y3, g3⟩ : ∃ x, x3 % 256 = x := ⟨_, rfl⟩
    rw [g0] at v0
    rw [g1] at v1
    rw [g2] at v2
    rw [g3] at v3
    have n1 : s.length < 9223372036854775808 := by omega
    have n2 : (bytesN s.length).length + s.length < 4611686018427387904 := by omega
    simp -implicitDefEqProofs (maxSteps := 400000) (maxDischargeDepth := 6) [s19, h7', hh, b, c1, c2, c3, v0, v1, v2, v3, n1, n2]
    rw [speltN, h1, h2, h3, ← u8 x1, ← u8 x2, ← u8 x3, ← u8 h, g0, g1, g2, g3]
    simp -implicitDefEqProofs (maxSteps := 400000) (maxDischargeDepth := 6)
    omega

end Go.AE

/- The page's ops and entries as bytes: the same as the program's. -/
set_option linter.unusedVariables false
set_option linter.unusedSimpArgs false
set_option maxHeartbeats 4000000
set_option maxRecDepth 100000
namespace Go.AE
open Go Go.Proofs

def FG1_h63 : List AV → Option (Prop × AV) := t1 (fun s => s.length < 140737488355328) fun s : List UInt8 => .c (.str (bytesN s.length ++ s))
@[simp] theorem FG1_ap63 {l : List AV} : FG1_h63 l = (t1 (fun s => s.length < 140737488355328) fun s : List UInt8 => .c (.str (bytesN s.length ++ s))) l := rfl
def FG1_h19 : List AV → Option (Prop × AV) := t1 (fun s => s.length < 4611686018427387904) fun s : List UInt8 => .c (.str (sealA s))
@[simp] theorem FG1_ap19 {l : List AV} : FG1_h19 l = (t1 (fun s => s.length < 4611686018427387904) fun s : List UInt8 => .c (.str (sealA s))) l := rfl
def FG1 : CT := (63, .pu FG1_h63) :: (19, .pu FG1_h19) :: FG0
theorem FG1_ok : CTok Tryz.prog FG1 := ⟨tells1 fun s h => refText_ev s h,
  tells1 fun s h => refFrame_ev s h, FG0_ok⟩
@[simp] theorem FG1_get63 : ctGet FG1 63 = some (.pu FG1_h63) := rfl
@[simp] theorem FG1_get19 : ctGet FG1 19 = some (.pu FG1_h19) := rfl
@[simp] theorem FG1_skip {n : Nat} (h : (n == 63 || n == 19) = false) : ctGet FG1 n = ctGet FG0 n := by
  simp only [Bool.or_eq_false_iff, beq_eq_false_iff_ne, ne_eq] at h
  simp [FG1, ctGet, h]

theorem refElem_ev (e : ElemV) (h : okE e) : PEv Tryz.prog 62 [Arg.enc e] (.c (.str (elemN e))) := by
  refine tells_of mixed FG1_ok Tryz.func62 sl62 ok62 (by kernel_rfl) (by simp) (by simp) ?_
  obtain ⟨⟨a1, a2⟩, ⟨b1, b2⟩, ⟨c1, c2⟩⟩ := h
  have l1 := bytesN_len' e.site.toNat
  have l2 := bytesN_len' e.seq.toNat
  have l3 := bytesN_len' e.i.toNat
  have m1 : (bytesN e.site.toNat).length + (bytesN e.seq.toNat).length ≤ 9223372036854775807 := by omega
  have m2 : (bytesN e.site.toNat).length + ((bytesN e.seq.toNat).length + (bytesN e.i.toNat).length) ≤ 9223372036854775807 := by omega
  have m3 : (bytesN e.site.toNat).length + (bytesN e.seq.toNat).length + (bytesN e.i.toNat).length ≤ 9223372036854775807 := by omega
  simp -implicitDefEqProofs (maxSteps := 400000) (maxDischargeDepth := 6) [s62, a1, a2, b1, b2, c1, c2, m1, m2, m3, elemN, numsN]

def FG2_h62 : List AV → Option (Prop × AV) := t1 okE fun e : ElemV => .c (.str (elemN e))
@[simp] theorem FG2_ap62 {l : List AV} : FG2_h62 l = (t1 okE fun e : ElemV => .c (.str (elemN e))) l := rfl
def FG2 : CT := (62, .pu FG2_h62) :: FG1
theorem FG2_ok : CTok Tryz.prog FG2 := ⟨tells1 fun e h => refElem_ev e h, FG1_ok⟩
@[simp] theorem FG2_get62 : ctGet FG2 62 = some (.pu FG2_h62) := rfl
@[simp] theorem FG2_skip {n : Nat} (h : (n == 62) = false) : ctGet FG2 n = ctGet FG1 n := by
  simp only [Bool.or_eq_false_iff, beq_eq_false_iff_ne, ne_eq] at h
  simp [FG2, ctGet, h]

theorem refOp_ev (o : OpV) (h : okP o) : PEv Tryz.prog 38 [Arg.enc o] (.c (.str (spellN o))) := by
  refine tells_of mixed FG2_ok Tryz.func38 sl38 ok38 (by kernel_rfl) (by simp -implicitDefEqProofs (maxSteps := 400000) (maxDischargeDepth := 6)) (by simp -implicitDefEqProofs (maxSteps := 400000) (maxDischargeDepth := 6) [opRow]) ?_
  have hl1 := bytesN_len' o.site.toNat
  have hl2 := bytesN_len' o.seq.toNat
  have hl3 := bytesN_len' o.kind.toNat
  have hl4 := elemN_len o.after
  have hl5 := bytesN_len' o.text.length
  have hl6 := bytesN_len' o.gone.length
  have hl7 := bytesN_len' o.of_.toNat
  have hl8 := bytesN_len' o.num.toNat
  have hl9 := bytesN_len' o.gen.toNat
  have ht := h.text
  have hg := h.len
  obtain ⟨a1, a2⟩ := h.site
  obtain ⟨b1, b2⟩ := h.seq
  obtain ⟨c1, c2⟩ := h.kind
  obtain ⟨d1, d2⟩ := h.of_
  obtain ⟨e1, e2⟩ := h.num
  obtain ⟨f1, f2⟩ := h.gen
  have e7 := h.after
  have e9 : elemN { site := o.after.site, seq := o.after.seq, i := o.after.i } = elemN o.after := rfl
  have g1 : o.text.length < 140737488355328 := by omega
  have g2 : o.gone.length < 9223372036854775808 := by omega
  have hh : headN o = bytesN o.site.toNat ++ (bytesN o.seq.toNat ++ bytesN o.kind.toNat) := by simp -implicitDefEqProofs (maxSteps := 400000) (maxDischargeDepth := 6) [headN, numsN]
  have hhl : (headN o).length ≤ 30 := by rw [hh]; simp only [List.length_append]; omega
  have m1 : (bytesN o.site.toNat).length + (bytesN o.seq.toNat).length ≤ 9223372036854775807 := by omega
  have m2 : (bytesN o.site.toNat).length + ((bytesN o.seq.toNat).length + (bytesN o.kind.toNat).length) ≤ 9223372036854775807 := by omega
  cases c : decide (o.kind = 2)
  rotate_left
  · have e10 : spellN o = headN o ++ numsN [o.of_, o.num, o.gen] := by rw [spellN, if_pos (of_decide_eq_true c)]
    have m3 : (bytesN o.site.toNat).length + ((bytesN o.seq.toNat).length + ((bytesN o.kind.toNat).length + (bytesN o.of_.toNat).length)) ≤ 9223372036854775807 := by omega
    have m4 : (bytesN o.site.toNat).length + ((bytesN o.seq.toNat).length + ((bytesN o.kind.toNat).length + ((bytesN o.of_.toNat).length + (bytesN o.num.toNat).length))) ≤ 9223372036854775807 := by omega
    have m5 : (bytesN o.site.toNat).length + ((bytesN o.seq.toNat).length + ((bytesN o.kind.toNat).length + ((bytesN o.of_.toNat).length + ((bytesN o.num.toNat).length + (bytesN o.gen.toNat).length)))) ≤ 9223372036854775807 := by omega
    simp -implicitDefEqProofs (maxSteps := 400000) (maxDischargeDepth := 6) [s38, opRow, a1, a2, b1, b2, c1, c2, d1, d2, e1, e2, f1, f2, c, m1, m2, m3, m4, m5, e10, hh, numsN]
    try omega
  · have e10 : spellN o = headN o ++ midN o ++ o.gone.flatMap elemN := by rw [spellN, if_neg (of_decide_eq_false c)]
    have m3 : (bytesN o.site.toNat).length + ((bytesN o.seq.toNat).length + ((bytesN o.kind.toNat).length + (elemN o.after).length)) ≤ 9223372036854775807 := by omega
    have m4 : (bytesN o.site.toNat).length + ((bytesN o.seq.toNat).length + ((bytesN o.kind.toNat).length + ((elemN o.after).length + ((bytesN o.text.length).length + o.text.length)))) ≤ 9223372036854775807 := by omega
    have m5 : (bytesN o.site.toNat).length + ((bytesN o.seq.toNat).length + ((bytesN o.kind.toNat).length + ((elemN o.after).length + ((bytesN o.text.length).length + (o.text.length + (bytesN o.gone.length).length))))) ≤ 9223372036854775807 := by omega
    simp -implicitDefEqProofs (maxSteps := 400000) (maxDischargeDepth := 6) [s38, opRow, a1, a2, b1, b2, c1, c2, e7, e9, g1, g2, c, m1, m2, m3, m4, m5]
    refine ⟨by omega, by omega, by omega, by omega, by omega, ?_⟩
    have lm : (headN o ++ midN o).length ≤ 1000200 := by simp -implicitDefEqProofs (maxSteps := 400000) (maxDischargeDepth := 6) [hh, midN, numsN]; omega
    refine loop_n (fun n st => ∃ i : Nat, i ≤ o.gone.length ∧ n = o.gone.length - i ∧ st.s 1 = .c (.pt (0, 1) 0 0) ∧ st.H (0, 1) = .arr 40 11 false [opRow .brw o] ∧ st.s 3 = .c (.str (headN o ++ midN o ++ (o.gone.take i).flatMap elemN)) ∧ st.s 4 = .c (.raw (.int .i64 i)) ∧ Fresh st.H st.T) o.gone.length ?_ ?_
    · refine ⟨0, by omega, by omega, ?_⟩
      simp -implicitDefEqProofs (maxSteps := 400000) (maxDischargeDepth := 6) [hh, midN, numsN, opRow]
      (repeat' (first | exact fresh_no.mono (Nat.zero_le _) | (refine Fresh.set' ?_ (by simp))))
    rintro n st ⟨i, hi, rfl, h1, hH, h3, h4, hf⟩
    have hfu : ∀ k d, st.T ≤ k → st.H (k, d) = .unborn := hf
    by_cases hlt : i < o.gone.length
    · have hlt' : (i : Int) < o.gone.length := by omega
      have hw : IntKind.wrap .i64 ((i : Int) + 1) = ((i + 1 : Nat) : Int) := by rw [wrap64_id] <;> omega
      have hg : okE o.gone[i] := h.gone _ (List.getElem_mem hlt)
      have hg' : elemN { site := o.gone[i].site, seq := o.gone[i].seq, i := o.gone[i].i } = elemN o.gone[i] := rfl
      have hg2 : okE { site := o.gone[i].site, seq := o.gone[i].seq, i := o.gone[i].i } := hg
      have g1 := flat_len (o.gone.take i)
      rw [List.length_take] at g1
      have g2 := elemN_len o.gone[i]
      generalize hX : headN o ++ midN o ++ (o.gone.take i).flatMap elemN = X at h3
      have hXl : X.length + (elemN o.gone[i]).length ≤ 9223372036854775807 := by rw [← hX, List.length_append]; omega
      simp -implicitDefEqProofs (maxSteps := 400000) (maxDischargeDepth := 6) [s38L0, h1, hH, opRow, h3, h4, hlt, hlt', hw, hfu, hg2, hg', hXl]
      refine ⟨_, ?_, i + 1, by omega, rfl, ?_, rfl, ?_⟩
      · omega
      · rw [← hX, ← List.take_append_getElem hlt, List.flatMap_append]
        simp -implicitDefEqProofs (maxSteps := 400000) (maxDischargeDepth := 6)
      · repeat' (first | exact hf.mono (by first | omega | (simp <;> omega)) | (refine Fresh.set' ?_ (by first | omega | (simp <;> omega))))
    · have : i = o.gone.length := by omega
      subst this
      simp -implicitDefEqProofs (maxSteps := 400000) (maxDischargeDepth := 6) [s38L0, h1, hH, opRow, h3, h4, e10]

def FG3_h38 : List AV → Option (Prop × AV) := t1 okP fun o : OpV => .c (.str (spellN o))
@[simp] theorem FG3_ap38 {l : List AV} : FG3_h38 l = (t1 okP fun o : OpV => .c (.str (spellN o))) l := rfl
def FG3 : CT := (38, .pu FG3_h38) :: FG2
theorem FG3_ok : CTok Tryz.prog FG3 := ⟨tells1 fun o h => refOp_ev o h, FG2_ok⟩
@[simp] theorem FG3_get38 : ctGet FG3 38 = some (.pu FG3_h38) := rfl
@[simp] theorem FG3_skip {n : Nat} (h : (n == 38) = false) : ctGet FG3 n = ctGet FG2 n := by
  simp only [Bool.or_eq_false_iff, beq_eq_false_iff_ne, ne_eq] at h
  simp [FG3, ctGet, h]

theorem refPlain_ev (e : EntryV) (h : okF e) : PEv Tryz.prog 18 [Arg.enc e] (.c (.str (plainN e))) := by
  refine tells_of mixed FG3_ok Tryz.func18 sl18 ok18 (by kernel_rfl) (by simp -implicitDefEqProofs (maxSteps := 400000) (maxDischargeDepth := 6)) (by simp -implicitDefEqProofs (maxSteps := 400000) (maxDischargeDepth := 6) [entRow, opRow]) ?_
  obtain ⟨h1, h2⟩ := h
  cases c : e.join
  · have ho := h2 c
    have hl := spellN_len ho
    have hb := bytesN_len' 0
    have e1 : plainN e = bytesN 0 ++ spellN e.op := by simp -implicitDefEqProofs (maxSteps := 400000) (maxDischargeDepth := 6) [plainN, c]
    have l1 : (bytesN 0).length + (spellN e.op).length ≤ 9223372036854775807 := by omega
    simp -implicitDefEqProofs (maxSteps := 400000) (maxDischargeDepth := 6) [s18, entRow, opRow, c, ho, l1, e1]
  · obtain ⟨ho, ho'⟩ := h1 c
    have hb := bytesN_len' 1
    have hl := bytesN_len' e.nonce.toNat
    have e1 : plainN e = bytesN 1 ++ bytesN e.nonce.toNat := by simp -implicitDefEqProofs (maxSteps := 400000) (maxDischargeDepth := 6) [plainN, c]
    have l1 : (bytesN 1).length + (bytesN e.nonce.toNat).length ≤ 9223372036854775807 := by omega
    simp -implicitDefEqProofs (maxSteps := 400000) (maxDischargeDepth := 6) [s18, entRow, opRow, c, ho, ho', l1, e1]

def FG4_h18 : List AV → Option (Prop × AV) := t1 okF fun e : EntryV => .c (.str (plainN e))
@[simp] theorem FG4_ap18 {l : List AV} : FG4_h18 l = (t1 okF fun e : EntryV => .c (.str (plainN e))) l := rfl
def FG4 : CT := (18, .pu FG4_h18) :: FG3
theorem FG4_ok : CTok Tryz.prog FG4 := ⟨tells1 fun e h => refPlain_ev e h, FG3_ok⟩
@[simp] theorem FG4_get18 : ctGet FG4 18 = some (.pu FG4_h18) := rfl
@[simp] theorem FG4_skip {n : Nat} (h : (n == 18) = false) : ctGet FG4 n = ctGet FG3 n := by
  simp only [Bool.or_eq_false_iff, beq_eq_false_iff_ne, ne_eq] at h
  simp [FG4, ctGet, h]

theorem plainN_len {e : EntryV} (h : okF e) : (plainN e).length ≤ 50000000 := by
  obtain ⟨h1, h2⟩ := h
  unfold plainN
  cases c : e.join
  · have hl := spellN_len (h2 c)
    have hb := bytesN_len' 0
    simp -implicitDefEqProofs (maxSteps := 400000) (maxDischargeDepth := 6); omega
  · have hb := bytesN_len' 1
    have hl := bytesN_len' e.nonce.toNat
    simp -implicitDefEqProofs (maxSteps := 400000) (maxDischargeDepth := 6); omega

def refBytesR (e : EntryV) : List UInt8 × Bool := if 700 < (plainN e).length then ([], false) else (padN (sealA (plainN e)), true)
def refBytesAV (e : EntryV) : AV := .t [(false, [.str (refBytesR e).1]), (false, [.raw (.bool (refBytesR e).2)])]

theorem refBytes_ev (e : EntryV) (h : okF e) : PEv Tryz.prog 5 [Arg.enc e] (refBytesAV e) := by
  refine tells_of mixed FG4_ok Tryz.func5 sl5 ok5 (by kernel_rfl) (by simp -implicitDefEqProofs (maxSteps := 400000) (maxDischargeDepth := 6) [refBytesAV]) (by simp -implicitDefEqProofs (maxSteps := 400000) (maxDischargeDepth := 6) [entRow, opRow]) ?_
  have hl := plainN_len h
  by_cases h7 : 700 < (plainN e).length
  · have h7' : (700 : Int) < (plainN e).length := by omega
    have e2 : refBytesR e = ([], false) := by rw [refBytesR, if_pos h7]
    simp -implicitDefEqProofs (maxSteps := 400000) (maxDischargeDepth := 6) [s5, entRow, opRow, h, h7', refBytesAV, e2]
  · have h7' : ¬ (700 : Int) < (plainN e).length := by omega
    have e2 : refBytesR e = (padN (sealA (plainN e)), true) := by rw [refBytesR, if_neg h7]
    have l2 : (plainN e).length < 4611686018427387904 := by omega
    have hs : (sealA (plainN e)).length ≤ 800 := by
      have hb := bytesN_len (plainN e).length
      have l1 : (speltN (ofN (bytesN (plainN e).length ++ plainN e))).length = 4 := rfl
      rw [sealA, if_neg h7]
      simp only [List.length_append]
      omega
    rw [show padN (sealA (plainN e)) = sealA (plainN e) ++ List.replicate (padL (sealA (plainN e)).length) 0 from rfl] at e2
    obtain ⟨n, hn⟩ : ∃ n, (sealA (plainN e)).length = n := ⟨_, rfl⟩
    rw [hn] at e2 hs
    have w1 : IntKind.wrap .i64 ((n : Int) + 32) = (n : Int) + 32 := by rw [wrap64_id] <;> omega
    have w2 : IntKind.wrap .i64 ((n : Int) + 32 - 1) = (n : Int) + 31 := by rw [wrap64_id] <;> omega
    have d1 : ((n : Int) + 31).tdiv 32 = (((n + 31) / 32 : Nat) : Int) := by rw [Int.tdiv_eq_ediv_of_nonneg (by omega)]; omega
    obtain ⟨q, hq, hq2⟩ : ∃ q, (n + 31) / 32 = q ∧ padL n = q * 32 - n ∧ n ≤ q * 32 ∧ q ≤ 100 := ⟨_, rfl, by unfold padL; omega, by omega, by omega⟩
    obtain ⟨hq2, hq3, hq4⟩ := hq2
    rw [hq] at d1
    have w3 : IntKind.wrap .i64 (q : Int) = q := by rw [wrap64_id] <;> omega
    have w4 : IntKind.wrap .i64 ((q : Int) * 32) = (q : Int) * 32 := by rw [wrap64_id] <;> omega
    have w5 : IntKind.wrap .i64 ((q : Int) * 32 - n) = ((padL n : Nat) : Int) := by rw [wrap64_id] <;> omega
    have hp : padL n ≤ 100 := by unfold padL; omega
    have hp' : padL n ≤ 1000000 := by omega
    simp -implicitDefEqProofs (maxSteps := 400000) (maxDischargeDepth := 6) [s5, entRow, opRow, h, h7', refBytesAV, e2, l2, hn, w1, w2, w3, w4, w5, d1, hp']
    omega

def storeBytesAV (e : EntryV) : AV := if entMayB e = true then framedAV e else .t [(false, [.str []]), (false, [.raw (.int .i64 1)])]

theorem storeBytes_ev (e : EntryV) (h1 : e.op.text.length < 1000000) (h2 : e.op.gone.length < 1000000) : PEv Tryz.prog 4 [Arg.enc e] (storeBytesAV e) := by
  have ho : okO e.op := ⟨by omega, by omega⟩
  unfold storeBytesAV
  cases c : entMayB e
  · refine tells_of mixed FE3_ok Tryz.func4 sl4 ok4 (by kernel_rfl) (by simp -implicitDefEqProofs (maxSteps := 400000) (maxDischargeDepth := 6)) (by simp -implicitDefEqProofs (maxSteps := 400000) (maxDischargeDepth := 6) [entRow, opRow]) ?_
    simp -implicitDefEqProofs (maxSteps := 400000) (maxDischargeDepth := 6) [s4, entRow, opRow, ho, c]
  · refine tells_of mixed FE3_ok Tryz.func4 sl4 ok4 (by kernel_rfl) (by simp -implicitDefEqProofs (maxSteps := 400000) (maxDischargeDepth := 6) [framedAV]) (by simp -implicitDefEqProofs (maxSteps := 400000) (maxDischargeDepth := 6) [entRow, opRow]) ?_
    have hf := entMayB_ok c h1 h2
    simp -implicitDefEqProofs (maxSteps := 400000) (maxDischargeDepth := 6) [s4, entRow, opRow, ho, c, hf, framedAV]

def FG5_h5 : List AV → Option (Prop × AV) := t1 okF fun e : EntryV => refBytesAV e
@[simp] theorem FG5_ap5 {l : List AV} : FG5_h5 l = (t1 okF fun e : EntryV => refBytesAV e) l := rfl
def FG5_h4 : List AV → Option (Prop × AV) := t1 (fun e => e.op.text.length < 1000000 ∧ e.op.gone.length < 1000000) fun e : EntryV => storeBytesAV e
@[simp] theorem FG5_ap4 {l : List AV} : FG5_h4 l = (t1 (fun e => e.op.text.length < 1000000 ∧ e.op.gone.length < 1000000) fun e : EntryV => storeBytesAV e) l := rfl
def FG5_h15 : List AV → Option (Prop × AV) := t0 (.c (.raw (.bool true)))
@[simp] theorem FG5_ap15 {l : List AV} : FG5_h15 l = (t0 (.c (.raw (.bool true)))) l := rfl
def FG5 : CT := (5, .pu FG5_h5) :: (4, .pu FG5_h4) :: (15, .pu FG5_h15) :: FG4
theorem FG5_ok : CTok Tryz.prog FG5 := ⟨tells1 fun e h => refBytes_ev e h,
  tells1 fun e h => storeBytes_ev e h.1 h.2,
  tells0 wakes15_ev, FG4_ok⟩
@[simp] theorem FG5_get5 : ctGet FG5 5 = some (.pu FG5_h5) := rfl
@[simp] theorem FG5_get4 : ctGet FG5 4 = some (.pu FG5_h4) := rfl
@[simp] theorem FG5_get15 : ctGet FG5 15 = some (.pu FG5_h15) := rfl
@[simp] theorem FG5_skip {n : Nat} (h : (n == 5 || n == 4 || n == 15) = false) : ctGet FG5 n = ctGet FG4 n := by
  simp only [Bool.or_eq_false_iff, beq_eq_false_iff_ne, ne_eq] at h
  simp [FG5, ctGet, h]

end Go.AE

/- Entries of each length are laid and loaded whole, cut off anywhere they are none: the plain law, by the kernel. -/
set_option linter.unusedVariables false
set_option maxRecDepth 100000
set_option maxHeartbeats 4000000
namespace Go.AE
open Go

def gonesK (n : Nat) : List ElemV := (List.range n).map fun i => ⟨2, ((1 + i : Nat) : Int), 0⟩
theorem gonesK_len (n : Nat) : (gonesK n).length = n := by simp [gonesK]
theorem gonesK_succ (n : Nat) : gonesK (n + 1) = gonesK n ++ [⟨2, ((1 + n : Nat) : Int), 0⟩] := by simp [gonesK, List.range_succ]
def longK (n : Nat) : OpV := ⟨1, 1, 1, ⟨0, 0, 0⟩, [97, 98], gonesK n, 0, 0, 0⟩
def longE (n : Nat) : EntryV := ⟨false, 0, longK n⟩
def lB (n : Nat) : List UInt8 := padN (sealA (plainN (longE n)))
def lA (n : Nat) : DiskV × Int × Int := appendR ⟨List.replicate 30 blank, []⟩ 0 (longE n)
def lS (n : Nat) : DiskV × Int := syncR (lA n).1

def longB (n : Nat) : Bool :=
  entMayB (longE n) && decide (¬ 700 < (plainN (longE n)).length) && decide ((lB n).length % 32 = 0) && decide ((lB n).length < 970) && decide ((lA n).2.2 = 0) && decide ((lA n).2.1 = (((lB n).length / 32 : Nat) : Int)) &&
  decide ((lS n).2 = 0) && decide (loadR (lS n).1 = ([longE n], (lB n).length / 32, 0)) && mayB (lS n).1 && decide ((lA n).1.safe.length = 30) && decide ((lA n).1.wait.length < 100) && decide ((lS n).1.safe.length = 30) && decide ((lS n).1.wait = []) &&
  (List.range ((lB n).length / 32)).all fun k => decide ((lS n).1.safe[k]? = some blank) || decide (loadR ⟨(lS n).1.safe.set k blank, (lS n).1.wait⟩ = ([], 0, 0))

theorem longB_0 : ∀ n, n < 15 → longB n = true := by decide +kernel
theorem longB_1 : ∀ n, n < 15 → longB (15 + n) = true := by decide +kernel
theorem longB_2 : ∀ n, n < 15 → longB (30 + n) = true := by decide +kernel
theorem longB_3 : ∀ n, n < 15 → longB (45 + n) = true := by decide +kernel
theorem longB_all {n : Nat} (h : n < 60) : longB n = true := by
  rcases Nat.lt_or_ge n 15 with h1 | h1
  · exact longB_0 n h1
  rcases Nat.lt_or_ge n 30 with h2 | h2
  · have := longB_1 (n - 15) (by omega); rwa [show 15 + (n - 15) = n by omega] at this
  rcases Nat.lt_or_ge n 45 with h3 | h3
  · have := longB_2 (n - 30) (by omega); rwa [show 30 + (n - 30) = n by omega] at this
  · have := longB_3 (n - 45) (by omega); rwa [show 45 + (n - 45) = n by omega] at this

structure LongFacts (n : Nat) (B : List UInt8) (Da : DiskV) (Ds : List (List UInt8)) (q : Nat) : Prop where
  may : entMayB (longE n) = true
  fr : framedR (longE n) = (B, 0)
  rb : refBytesR (longE n) = (B, true)
  b1 : B.length = 32 * q
  b2 : q < 100
  b3 : q ≤ 30
  fa : appendR ⟨List.replicate 30 blank, []⟩ 0 (longE n) = (Da, (q : Int), 0)
  fs : syncR Da = (⟨Ds, []⟩, 0)
  fl : loadR ⟨Ds, []⟩ = ([longE n], q, 0)
  fm : mayB ⟨Ds, []⟩ = true
  a1 : Da.safe.length = 30
  a2 : Da.wait.length < 100
  s1 : Ds.length = 30
  cut : ∀ k, k < q → Ds[k]? = some blank ∨ loadR ⟨Ds.set k blank, []⟩ = ([], 0, 0)

theorem long_facts {n : Nat} (h : n < 60) : ∃ B Da Ds q, LongFacts n B Da Ds q := by
  have h := longB_all h
  simp only [longB, Bool.and_eq_true, decide_eq_true_eq, List.all_eq_true, Bool.or_eq_true, List.mem_range] at h
  obtain ⟨⟨⟨⟨⟨⟨⟨⟨⟨⟨⟨⟨⟨h1, h2⟩, h3⟩, h4⟩, h5⟩, h6⟩, h7⟩, h8⟩, h9⟩, h10⟩, h11⟩, h12⟩, h13⟩, h14⟩ := h
  rcases hA : appendR ⟨List.replicate 30 blank, []⟩ 0 (longE n) with ⟨Da, q, fa⟩
  have e1 : lA n = (Da, q, fa) := hA
  rcases hS : syncR Da with ⟨⟨Ds, Dw⟩, fs⟩
  have e2 : lS n = (⟨Ds, Dw⟩, fs) := by rw [lS, e1]; exact hS
  rw [e1] at h5 h6 h10 h11
  rw [e2] at h7 h8 h9 h12 h13 h14
  simp only at h5 h6 h7 h8 h9 h10 h11 h12 h13 h14
  subst h5 h6 h7 h13
  exact ⟨lB n, Da, Ds, (lB n).length / 32, ⟨h1, by rw [framedR, if_neg h2]; rfl, by rw [refBytesR, if_neg h2]; rfl, by omega, by omega, by omega, hA, hS, h8, h9, h10, h11, h12, h14⟩⟩

end Go.AE

/- StoreLong: the inner loops. -/
set_option linter.unusedVariables false
set_option linter.unusedSimpArgs false
set_option maxHeartbeats 4000000
set_option maxRecDepth 100000
namespace Go.AE
open Go Go.Proofs

def acIds : AC → List Id
  | .so id _ _ => [id]
  | _ => []

def longRow (c : AC) : List AC :=
  [.raw (.int .i64 1), .raw (.int .i64 1), .raw (.int .i64 1), .raw (.int .i64 0), .raw (.int .i64 0), .raw (.int .i64 0), .str [97, 98], c, .raw (.int .i64 0), .raw (.int .i64 0), .raw (.int .i64 0)]

def LongI (st : St) (v3 : Id) (n m : Nat) (c : AC) (q : Nat) (st' : St) : Prop := ∃ (m' : Nat) (c' : AC), m ≤ m' ∧ m' ≤ n ∧ q = n - m' ∧ (∀ t, t < 31 → st'.s t = st.s t) ∧ st'.H v3 = .arr 40 11 false [longRow c'] ∧ OwnL st'.H 38 3 0 c' (gonesK m') ∧
    (∀ id ∈ acIds c', id ∈ acIds c ∨ st.T ≤ id.1) ∧ ExtH (v3 :: acIds c) st.H st.T st'.H st'.T

theorem long_l0 {Q : AEx → St → Prop} {st : St} (v3 : Id) (n m : Nat) (c : AC) (hm : m ≤ n) (hn : n < 100) (k3 : st.s 3 = .c (.pt v3 0 0)) (k4 : st.s 4 = .c (.raw (.int .i64 n))) (hf : Fresh st.H st.T)
    (hv : st.H v3 = .arr 40 11 false [longRow c]) (hc : OwnL st.H 38 3 0 c (gonesK m))
    (hk : ∀ st' c', (∀ t, t < 31 → st'.s t = st.s t) → st'.H v3 = .arr 40 11 false [longRow c'] → OwnL st'.H 38 3 0 c' (gonesK n) → ExtH (v3 :: acIds c) st.H st.T st'.H st'.T → Q (.exit 2) st') :
    awpS Tryz.prog FG5 (.loop s3L0) Q st := by
  refine loop_n (LongI st v3 n m c) (n - m) ?_ ?_
  · exact ⟨m, c, by omega, hm, rfl, fun _ _ => rfl, hv, hc, fun _ h => .inl h, ExtH.refl hf⟩
  rintro q st' ⟨m', c', hm1, hm2, rfl, hs, hv', hc', hid, he⟩
  have q3 := (hs 3 (by omega)).trans k3
  have q4 := (hs 4 (by omega)).trans k4
  have hf' := he.fresh
  have hT := he.2.2.1
  have hfu : ∀ k d, st'.T ≤ k → st'.H (k, d) = .unborn := hf'
  obtain ⟨p1, p2, p3⟩ := hf'.arr hv'
  have hgl := gonesK_len m'
  have w1 : IntKind.wrap .i64 1 = 1 := by decide
  have gt : ∀ t, t < 31 → ∀ d, 31 ≤ d → (t = d) = False := fun t ht d hd => by simp -implicitDefEqProofs (maxSteps := 400000) (maxDischargeDepth := 6); omega
  by_cases hlt : m' < n
  · have hlt' : (m' : Int) < n := by omega
    have hw : IntKind.wrap .i64 (1 + (m' : Int)) = ((1 + m' : Nat) : Int) := by rw [wrap64_id] <;> omega
    rcases hc' with ⟨rfl, hl⟩ | ⟨g, rfl, _, hg⟩
    · have h0 : m' = 0 := by rw [hl] at hgl; simpa using hgl.symm
      subst h0
      have hlt0 : (0 : Int) < n := by omega
      simp -implicitDefEqProofs (maxSteps := 400000) (maxDischargeDepth := 6) [s3L0, longRow, q3, q4, hv', hlt, hlt0, hfu, p1, p2, w1]
      refine ⟨n - 1, by omega, ?_⟩
      refine ⟨1, .so (st'.T + 1, 44) 0 1, by omega, by omega, rfl, fun t ht => ?_, ?_, ?_, ?_, ?_⟩
      · simp -implicitDefEqProofs (maxSteps := 400000) (maxDischargeDepth := 6) [gt t ht, hs t ht]
      · simp -implicitDefEqProofs (maxSteps := 400000) (maxDischargeDepth := 6) [p1, longRow]
      · exact .inr ⟨_, rfl, Nat.zero_le _, by simp -implicitDefEqProofs (maxSteps := 400000) (maxDischargeDepth := 6) [p1, p2, longRow]; rfl⟩
      · intro id h
        simp -implicitDefEqProofs (maxSteps := 400000) (maxDischargeDepth := 6) [acIds] at h
        subst h
        right
        simp -implicitDefEqProofs (maxSteps := 400000) (maxDischargeDepth := 6)
        omega
      · repeat' (first | exact he.tick (by first | omega | (simp <;> omega)) | (refine ExtH.new ?_ (by first | omega | (simp <;> omega)) (by first | omega | (simp <;> omega))) | (refine ExtH.set ?_ (by simp) (by first | omega | (simp <;> omega))))
    · obtain ⟨g1, g2, g3⟩ := hf'.arr hg
      have hne : (v3 = g) = False := by simp -implicitDefEqProofs (maxSteps := 400000) (maxDischargeDepth := 6); rintro rfl; rw [hg] at hv'; simp -implicitDefEqProofs (maxSteps := 400000) (maxDischargeDepth := 6) at hv'
      have hne' : (g = v3) = False := by simp -implicitDefEqProofs (maxSteps := 400000) (maxDischargeDepth := 6); rintro rfl; rw [hg] at hv'; simp -implicitDefEqProofs (maxSteps := 400000) (maxDischargeDepth := 6) at hv'
      have hgi := hid g (by simp -implicitDefEqProofs (maxSteps := 400000) (maxDischargeDepth := 6) [acIds])
      simp -implicitDefEqProofs (maxSteps := 400000) (maxDischargeDepth := 6) [s3L0, longRow, q3, q4, hv', hlt, hlt', hfu, p1, p2, g1, g2, hg, hgl, hne, hne', hw]
      refine ⟨by omega, n - (m' + 1), by omega, ?_⟩
      refine ⟨m' + 1, .so (st'.T + 1, 44) 0 (m' + 1), by omega, by omega, rfl, fun t ht => ?_, ?_, ?_, ?_, ?_⟩
      · simp -implicitDefEqProofs (maxSteps := 400000) (maxDischargeDepth := 6) [gt t ht, hs t ht]
      · simp -implicitDefEqProofs (maxSteps := 400000) (maxDischargeDepth := 6) [p1, longRow]
      · refine .inr ⟨(st'.T + 1, 44), by simp -implicitDefEqProofs (maxSteps := 400000) (maxDischargeDepth := 6) [gonesK_len], Nat.zero_le _, ?_⟩
        simp -implicitDefEqProofs (maxSteps := 400000) (maxDischargeDepth := 6) [p1, p2, gonesK_succ, rowsE]
      · intro id h
        simp -implicitDefEqProofs (maxSteps := 400000) (maxDischargeDepth := 6) [acIds] at h
        subst h
        right
        simp -implicitDefEqProofs (maxSteps := 400000) (maxDischargeDepth := 6)
        omega
      · refine ExtH.set (ExtH.new ?_ (by simp -implicitDefEqProofs (maxSteps := 400000) (maxDischargeDepth := 6); omega) (by simp -implicitDefEqProofs (maxSteps := 400000) (maxDischargeDepth := 6))) (by simp -implicitDefEqProofs (maxSteps := 400000) (maxDischargeDepth := 6)) (by simp -implicitDefEqProofs (maxSteps := 400000) (maxDischargeDepth := 6); omega)
        have hg3 : g.1 < st'.T := g3
        rcases hgi with hgi | hgi
        · refine ExtH.set ?_ (by simp -implicitDefEqProofs (maxSteps := 400000) (maxDischargeDepth := 6) [hgi]) (by simp -implicitDefEqProofs (maxSteps := 400000) (maxDischargeDepth := 6); omega)
          repeat' (first | exact he.tick (by first | omega | (simp <;> omega)) | (refine ExtH.new ?_ (by first | omega | (simp <;> omega)) (by first | omega | (simp <;> omega))) | (refine ExtH.set ?_ (by simp) (by first | omega | (simp <;> omega))))
        · refine ExtH.new ?_ (by omega) (by simp -implicitDefEqProofs (maxSteps := 400000) (maxDischargeDepth := 6); omega)
          repeat' (first | exact he.tick (by first | omega | (simp <;> omega)) | (refine ExtH.new ?_ (by first | omega | (simp <;> omega)) (by first | omega | (simp <;> omega))) | (refine ExtH.set ?_ (by simp) (by first | omega | (simp <;> omega))))
  · have : m' = n := by omega
    subst this
    rcases hc' with ⟨rfl, hl⟩ | ⟨g, rfl, hg0, hg⟩
    · have h0 : m' = 0 := by rw [hl] at hgl; simpa using hgl.symm
      subst h0
      simp -implicitDefEqProofs (maxSteps := 400000) (maxDischargeDepth := 6) [s3L0, longRow, q3, q4, hv']
      refine hk _ (.raw (.slice none 0 0)) (fun t ht => ?_) hv' (.inl ⟨rfl, hl⟩) (he.tick (by simp -implicitDefEqProofs (maxSteps := 400000) (maxDischargeDepth := 6)))
      simp -implicitDefEqProofs (maxSteps := 400000) (maxDischargeDepth := 6) [gt t ht, hs t ht]
    · simp -implicitDefEqProofs (maxSteps := 400000) (maxDischargeDepth := 6) [s3L0, longRow, q3, q4, hv', hg, hgl]
      refine hk _ (.so g 0 (gonesK m').length) (fun t ht => ?_) hv' (.inr ⟨g, rfl, hg0, hg⟩) (he.tick (by simp -implicitDefEqProofs (maxSteps := 400000) (maxDischargeDepth := 6)))
      simp -implicitDefEqProofs (maxSteps := 400000) (maxDischargeDepth := 6) [gt t ht, hs t ht]

def LongJ (st : St) (q : Nat) (n : Nat) (st' : St) : Prop := ∃ k : Nat, k ≤ q ∧ n = q - k ∧ (∀ t, t < 16 → st'.s t = st.s t) ∧ st'.s 16 = .c (.raw (.int .i64 k)) ∧ ExtH [] st.H st.T st'.H st'.T

theorem long_l1 {Q : AEx → St → Prop} {st : St} (v9 f1 f2 : Id) (q : Nat) (Ds : List (List UInt8)) (hq : q < 100) (hql : q ≤ Ds.length) (hDl : Ds.length = 30) (hcut : ∀ k, k < q → Ds[k]? = some blank ∨ loadR ⟨Ds.set k blank, []⟩ = ([], 0, 0))
    (k9 : st.s 9 = .c (.pt v9 0 0)) (k10 : st.s 10 = .c (.raw (.int .i64 q))) (k16 : st.s 16 = .c (.raw (.int .i64 0))) (hf : Fresh st.H st.T) (hv : st.H v9 = .arr 30 2 false [[.so f1 0 30, .so f2 0 0]])
    (h1 : st.H f1 = .arr 9 1 false (rowsE Ds)) (h2 : st.H f2 = .arr 75 2 false [])
    (hn : ∀ st', (∀ t, t < 16 → st'.s t = st.s t) → ExtH [] st.H st.T st'.H st'.T → Q (.exit 4) st') :
    awpS Tryz.prog FG5 (.loop s3L1) Q st := by
  refine loop_n (LongJ st q) q ?_ ?_
  · exact ⟨0, by omega, by omega, fun _ _ => rfl, k16, ExtH.refl hf⟩
  rintro n st' ⟨k, hk, rfl, hs, k16, he⟩
  have q9 := (hs 9 (by omega)).trans k9
  have q10 := (hs 10 (by omega)).trans k10
  have hv' := he.arr hv (by simp -implicitDefEqProofs (maxSteps := 400000) (maxDischargeDepth := 6))
  have h1' := he.arr h1 (by simp -implicitDefEqProofs (maxSteps := 400000) (maxDischargeDepth := 6))
  have h2' := he.arr h2 (by simp -implicitDefEqProofs (maxSteps := 400000) (maxDischargeDepth := 6))
  have hf' := he.fresh
  have hT := he.2.2.1
  have hfu : ∀ k d, st'.T ≤ k → st'.H (k, d) = .unborn := hf'
  by_cases hlt : k < q
  · have hlt' : (k : Int) < q := by omega
    have hw : IntKind.wrap .i64 ((k : Int) + 1) = ((k + 1 : Nat) : Int) := by rw [wrap64_id] <;> omega
    have hkl : k < Ds.length := by omega
    have hk30 : k < 30 := by omega
    have hk30' : (k : Int) < 30 := by omega
    have gt : ∀ t, t < 16 → ∀ d, 16 ≤ d → (t = d) = False := fun t ht d hd => by simp -implicitDefEqProofs (maxSteps := 400000) (maxDischargeDepth := 6); omega
    cases hb : decide (Ds[k] = blank)
    · have hld : loadR ⟨Ds.set k blank, []⟩ = ([], 0, 0) := by
        rcases hcut k hlt with h | h
        · rw [List.getElem?_eq_getElem hkl] at h
          simp -implicitDefEqProofs (maxSteps := 400000) (maxDischargeDepth := 6) at h hb
          exact absurd h hb
        · exact h
      have hrs : List.take 30 ((rowsE Ds).set k [AC.str blank]) = rowsE (Ds.set k blank) := by
        rw [List.take_of_length_le (by simp -implicitDefEqProofs (maxSteps := 400000) (maxDischargeDepth := 6) [rowsE, hDl])]
        simp -implicitDefEqProofs (maxSteps := 400000) (maxDischargeDepth := 6) [rowsE, List.map_set]
      simp -implicitDefEqProofs (maxSteps := 400000) (maxDischargeDepth := 6) [s3L1, q9, q10, k16, hv', h1', h2', hfu, hlt, hlt', hkl, hk30, hk30', hb, hw, hDl, hld, diskNw, loadAV, Nat.le_add_right_of_le, hrs]
      refine ⟨q - (k + 1), by omega, ?_⟩
      refine ⟨k + 1, by omega, rfl, fun t ht => ?_, rfl, ?_⟩
      · simp -implicitDefEqProofs (maxSteps := 400000) (maxDischargeDepth := 6) [gt t ht, hs t ht]
      · repeat' (first | exact he.tick (by first | omega | (simp <;> omega)) | (refine ExtH.new ?_ (by first | omega | (simp <;> omega)) (by first | omega | (simp <;> omega))) | (refine ExtH.set ?_ (by simp) (by first | omega | (simp <;> omega))))
    · simp -implicitDefEqProofs (maxSteps := 400000) (maxDischargeDepth := 6) [s3L1, q9, q10, k16, hv', h1', h2', hfu, hlt, hlt', hkl, hk30, hk30', hb, hw, hDl]
      refine ⟨q - (k + 1), by omega, ?_⟩
      refine ⟨k + 1, by omega, rfl, fun t ht => ?_, rfl, ?_⟩
      · simp -implicitDefEqProofs (maxSteps := 400000) (maxDischargeDepth := 6) [gt t ht, hs t ht]
      · repeat' (first | exact he.tick (by first | omega | (simp <;> omega)) | (refine ExtH.new ?_ (by first | omega | (simp <;> omega)) (by first | omega | (simp <;> omega))) | (refine ExtH.set ?_ (by simp) (by first | omega | (simp <;> omega))))
  · have : k = q := by omega
    subst this
    simp -implicitDefEqProofs (maxSteps := 400000) (maxDischargeDepth := 6) [s3L1, q9, q10, k16]
    refine hn _ (fun t ht => ?_) (he.tick (by simp -implicitDefEqProofs (maxSteps := 400000) (maxDischargeDepth := 6)))
    have g : ∀ d, 16 ≤ d → (t = d) = False := fun d hd => by simp -implicitDefEqProofs (maxSteps := 400000) (maxDischargeDepth := 6); omega
    simp -implicitDefEqProofs (maxSteps := 400000) (maxDischargeDepth := 6) [g, hs t ht]

end Go.AE

/- The abstract machine: cuts and loops whose statements are kept closed while a walk is simplified. -/
set_option linter.unusedVariables false
set_option linter.unusedSimpArgs false
namespace Go.AE
open Go

/-- What holds between two parts of a walk: the walk sees it as a name alone. -/
theorem seq_c {P : Program} {F : CT} {x y : SC} {Q : AEx → St → Prop} {st : St} (R : St → Prop) (h1 : ∀ R' : St → Prop, (∀ s, R s → R' s) → awpS P F x (fun e st' => e = .normal ∧ R' st') st) (h2 : ∀ st', R st' → awpS P F y Q st') : awpS P F (.seq x y) Q st := by
  show awpS P F x (athen (awpS P F y Q) Q) st
  exact awpS_mono (fun e st' ⟨he, hr⟩ => by subst he; exact h2 _ hr) (h1 R fun _ h => h)

theorem loop_c {P : Program} {F : CT} {x : SC} {Q : AEx → St → Prop} {st : St} (I : Nat → St → Prop) (n0 : Nat) (h0 : I n0 st)
    (h : ∀ n st', I n st' → ∀ J : Nat → St → Prop, (∀ m s, I m s → J m s) → awpS P F x (athen (fun st'' => ∃ m, m < n ∧ J m st'') Q) st') : awpS P F (.loop x) Q st :=
  loop_n I n0 h0 fun n st' hi => h n st' hi I fun _ _ h => h

theorem extH_tr {H0 H1 H2 : Heap} {T0 T1 T2 : Nat} (h : ExtH [] H0 T0 H1 T1) (h' : ExtH [] H1 T1 H2 T2) : ExtH [] H0 T0 H2 T2 := by
  refine ⟨fun i hi hn => ?_, h'.2.1, Nat.le_trans h.2.2.1 h'.2.2.1, h.2.2.2⟩
  have e1 := h.1 i hi hn
  rw [h'.1 i (by rw [e1]; exact hi) hn, e1]

theorem gtF (N : Nat) {t : Nat} (h : t < N) (d : Nat) (hd : N ≤ d) : (t = d) = False := by simp; omega

end Go.AE

/- StoreLong: the outer loop. -/
set_option linter.unusedVariables false
set_option linter.unusedSimpArgs false
set_option maxHeartbeats 4000000
set_option maxRecDepth 100000
namespace Go.AE
open Go Go.Proofs

/-- A row of elements: none yet, or an own one. -/
def GoneAt (H : Heap) (c : AC) (G : List ElemV) : Prop := (c = .raw (.slice none 0 0) ∧ G = []) ∨ ∃ g, c = .so g 0 G.length ∧ H g = .arr 38 3 false (rowsE G)
theorem GoneAt.ext {H H' : Heap} {T T' : Nat} {c : AC} {G : List ElemV} (h : GoneAt H c G) (he : ExtH [] H T H' T') : GoneAt H' c G := by
  rcases h with h | ⟨g, h1, h2⟩
  · exact .inl h
  · exact .inr ⟨g, h1, he.arr h2 (by simp -implicitDefEqProofs (maxSteps := 400000) (maxDischargeDepth := 6))⟩

def LongO (v1 v3 : Id) (vs : List Value) (l : List Int) (q : Nat) (st : St) : Prop := ∃ (n m : Nat) (c : AC), m ≤ n ∧ n < 70 ∧ q = 70 - n ∧ st.s 1 = .c (.pt v1 0 0) ∧ st.s 3 = .c (.pt v3 0 0) ∧ st.s 4 = .c (.raw (.int .i64 n)) ∧
  st.H v1 = .arr 36 9 false [vs.map .raw ++ [.sl .brw false (rowsE l)]] ∧ st.H v3 = .arr 40 11 false [longRow c] ∧ OwnL st.H 38 3 0 c (gonesK m) ∧ Fresh st.H st.T

theorem long_l2 {Q : AEx → St → Prop} {st : St} (v1 v3 : Id) (vs : List Value) (l : List Int) (par : Nat) (hp : par < 4) (hpar : (l.length : Int).tmod 4 = (par : Int)) (hvs : vs.length = 8)
    (k1 : st.s 1 = .c (.pt v1 0 0)) (k3 : st.s 3 = .c (.pt v3 0 0)) (k4 : st.s 4 = .c (.raw (.int .i64 0))) (hf : Fresh st.H st.T)
    (hv1 : st.H v1 = .arr 36 9 false [vs.map .raw ++ [.sl .brw false (rowsE l)]]) (hv3 : st.H v3 = .arr 40 11 false [longRow (.raw (.slice none 0 0))])
    (hn : ∀ st', Q (.exit 0) st') :
    awpS Tryz.prog FG5 (.loop s3L2) Q st := by
  match vs, hvs with
  | [u0, u1, u2, u3, u4, u5, u6, u7], _ =>
  refine loop_n (LongO v1 v3 [u0, u1, u2, u3, u4, u5, u6, u7] l) 70 ?_ ?_
  · exact ⟨0, 0, _, by omega, by omega, rfl, k1, k3, k4, hv1, hv3, .inl ⟨rfl, rfl⟩, hf⟩
  rintro q st0 ⟨n, m, c, hm, hn7, rfl, k1, k3, k4, hv1, hv3, hc, hf⟩
  have hfu : ∀ k d, st0.T ≤ k → st0.H (k, d) = .unborn := hf
  by_cases hlt : n < 60
  · have hlt' : (n : Int) < 60 := by omega
    simp -implicitDefEqProofs (maxSteps := 400000) (maxDischargeDepth := 6) [s3L2, k4, hlt']
    refine long_l0 v3 n m c hm (by omega) (by simp -implicitDefEqProofs (maxSteps := 400000) (maxDischargeDepth := 6) [k3]) (by simp -implicitDefEqProofs (maxSteps := 400000) (maxDischargeDepth := 6) [k4]) (by simp -implicitDefEqProofs (maxSteps := 400000) (maxDischargeDepth := 6); exact hf.mono (by omega)) (by simpa using hv3) (by simpa using hc) ?_
    intro st1 c1 hs1 hw3 hc1 he1
    have hne : v1 ∉ v3 :: acIds c := by
      simp -implicitDefEqProofs (maxSteps := 400000) (maxDischargeDepth := 6)
      refine ⟨?_, ?_⟩
      · rintro rfl; rw [hv1] at hv3; simp -implicitDefEqProofs (maxSteps := 400000) (maxDischargeDepth := 6) at hv3
      · rcases hc with ⟨rfl, _⟩ | ⟨g, rfl, _, hg⟩
        · simp -implicitDefEqProofs (maxSteps := 400000) (maxDischargeDepth := 6) [acIds]
        · simp -implicitDefEqProofs (maxSteps := 400000) (maxDischargeDepth := 6) [acIds]; rintro rfl; rw [hv1] at hg; simp -implicitDefEqProofs (maxSteps := 400000) (maxDischargeDepth := 6) at hg
    have hw1 : st1.H v1 = .arr 36 9 false [[.raw u0, .raw u1, .raw u2, .raw u3, .raw u4, .raw u5, .raw u6, .raw u7, .sl .brw false (rowsE l)]] := he1.arr (by simpa using hv1) hne
    have q1 := (hs1 1 (by omega)).trans (by simp -implicitDefEqProofs (maxSteps := 400000) (maxDischargeDepth := 6) [k1] : _ = AV.c (.pt v1 0 0))
    have q3 := (hs1 3 (by omega)).trans (by simp -implicitDefEqProofs (maxSteps := 400000) (maxDischargeDepth := 6) [k3] : _ = AV.c (.pt v3 0 0))
    have q4 := (hs1 4 (by omega)).trans (by simp -implicitDefEqProofs (maxSteps := 400000) (maxDischargeDepth := 6) [k4] : _ = AV.c (.raw (.int .i64 n)))
    have hf1 := he1.fresh
    clear he1 hs1 hne hv1 hv3 hc hf hfu k1 k3 k4
    obtain ⟨B, Da, Ds, q, hF⟩ := long_facts hlt
    obtain ⟨fmay, ffr, frb, fb1, fb2, fb3, fa, fs, fl, fm, fa1, fa2, fs1, fcut⟩ := hF
    obtain ⟨Das, Daw⟩ := Da
    simp only at fa1 fa2
    have hgl := gonesK_len n
    have hok : okF (longE n) := entMayB_ok fmay (by simp -implicitDefEqProofs (maxSteps := 400000) (maxDischargeDepth := 6) [longE, longK]) (by simp -implicitDefEqProofs (maxSteps := 400000) (maxDischargeDepth := 6) [longE, longK, hgl]; omega)
    have hgn : n < 1000000 := by omega
    have hgn2 : n < 4611686018427387904 := by omega
    have hG : GoneAt st1.H c1 (gonesK n) := by
      rcases hc1 with ⟨h1, h2⟩ | ⟨g, h1, _, h2⟩
      · exact .inl ⟨h1, h2⟩
      · exact .inr ⟨g, h1, h2⟩
    have xmay : storeBytesAV ⟨false, 0, 1, 1, 1, ⟨0, 0, 0⟩, [97, 98], gonesK n, 0, 0, 0⟩ = .t [(false, [.str B]), (false, [.raw (.int .i64 0)])] := by
      show storeBytesAV (longE n) = _
      rw [storeBytesAV, if_pos fmay, framedAV, ffr]
    have xrb : refBytesAV ⟨false, 0, 1, 1, 1, ⟨0, 0, 0⟩, [97, 98], gonesK n, 0, 0, 0⟩ = .t [(false, [.str B]), (false, [.raw (.bool true)])] := by
      show refBytesAV (longE n) = _
      rw [refBytesAV, frb]
    have xfa : appendR ⟨List.replicate 30 blank, []⟩ 0 ⟨false, 0, 1, 1, 1, ⟨0, 0, 0⟩, [97, 98], gonesK n, 0, 0, 0⟩ = (⟨Das, Daw⟩, (q : Int), 0) := fa
    have xfl : loadR ⟨Ds, []⟩ = ([⟨false, 0, 1, 1, 1, ⟨0, 0, 0⟩, [97, 98], gonesK n, 0, 0, 0⟩], q, 0) := fl
    have xok : okF ⟨false, 0, 1, 1, 1, ⟨0, 0, 0⟩, [97, 98], gonesK n, 0, 0, 0⟩ := hok
    have xsame : sameB ⟨1, 1, 1, ⟨0, 0, 0⟩, [97, 98], gonesK n, 0, 0, 0⟩ ⟨1, 1, 1, ⟨0, 0, 0⟩, [97, 98], gonesK n, 0, 0, 0⟩ = true := by rw [sameB_eq]; simp -implicitDefEqProofs (maxSteps := 400000) (maxDischargeDepth := 6)
    have xg1 : (gonesK n).length < 1000000 := by omega
    have xg2 : (gonesK n).length < 4611686018427387904 := by omega
    have hGn : OwnL st1.H 38 3 0 c1 (gonesK n) := hc1
    clear hc1 fmay ffr frb fa fl hok
    generalize hGk : gonesK n = G at hG xmay xrb xfa xfl xok xsame xg1 xg2
    have gt : ∀ N t : Nat, t < N → ∀ d, N ≤ d → (t = d) = False := fun N t ht d hd => by simp -implicitDefEqProofs (maxSteps := 400000) (maxDischargeDepth := 6); omega
    have he1 := ExtH.refl (S := []) hf1
    have hfu1 : ∀ k d, st1.T ≤ k → st1.H (k, d) = .unborn := hf1
    have bd := Int.tdiv_eq_ediv_of_nonneg (a := (B.length : Int)) (b := 32) (by omega)
    have bm := Int.tmod_eq_emod_of_nonneg (a := (B.length : Int)) (b := 32) (by omega)
    have b1 : (B.length : Int).tmod 32 = 0 := by rw [bm]; omega
    have b2 : (B.length : Int).tdiv 32 = q := by rw [bd]; omega
    have b3 : IntKind.wrap .i64 (q : Int) = q := by rw [wrap64_id] <;> omega
    -- the bytes
    refine seq_c (fun st' => (∀ t, t < 5 → st'.s t = st1.s t) ∧ st'.s 5 = .c (.str B) ∧ st'.s 6 = .c (.raw (.int .i64 0)) ∧ ExtH [] st1.H st1.T st'.H st'.T) ?_ ?_
    · intro R' hR
      have he := he1
      rcases hG with ⟨rfl, rfl⟩ | ⟨g, rfl, hg⟩
      · simp -implicitDefEqProofs (maxSteps := 400000) (maxDischargeDepth := 6) [q3, hw3, longRow, hfu1, xmay]
        exact hR _ ⟨fun t ht => by simp -implicitDefEqProofs (maxSteps := 400000) (maxDischargeDepth := 6) [gt 5 t ht], by simp -implicitDefEqProofs (maxSteps := 400000) (maxDischargeDepth := 6), by simp -implicitDefEqProofs (maxSteps := 400000) (maxDischargeDepth := 6), by repeat' (first | exact he.tick (by first | omega | (simp <;> omega)) | (refine ExtH.new ?_ (by first | omega | (simp <;> omega)) (by first | omega | (simp <;> omega))) | (refine ExtH.set ?_ (by simp) (by first | omega | (simp <;> omega))))⟩
      · simp -implicitDefEqProofs (maxSteps := 400000) (maxDischargeDepth := 6) [q3, hw3, longRow, hfu1, xmay, hg, xg1]
        exact hR _ ⟨fun t ht => by simp -implicitDefEqProofs (maxSteps := 400000) (maxDischargeDepth := 6) [gt 5 t ht], by simp -implicitDefEqProofs (maxSteps := 400000) (maxDischargeDepth := 6), by simp -implicitDefEqProofs (maxSteps := 400000) (maxDischargeDepth := 6), by repeat' (first | exact he.tick (by first | omega | (simp <;> omega)) | (refine ExtH.new ?_ (by first | omega | (simp <;> omega)) (by first | omega | (simp <;> omega))) | (refine ExtH.set ?_ (by simp) (by first | omega | (simp <;> omega))))⟩
    rintro st2 ⟨hs2, k5, k6, he⟩
    have k3 := (hs2 3 (by omega)).trans q3
    have hv3 := he.arr hw3 (by simp -implicitDefEqProofs (maxSteps := 400000) (maxDischargeDepth := 6))
    have hfu : ∀ k d, st2.T ≤ k → st2.H (k, d) = .unborn := he.fresh
    have hT := he.2.2.1
    -- the page's bytes
    refine seq_c (fun st' => (∀ t, t < 7 → st'.s t = st2.s t) ∧ st'.s 7 = .c (.str B) ∧ st'.s 8 = .c (.raw (.bool true)) ∧ ExtH [] st1.H st1.T st'.H st'.T) ?_ ?_
    · intro R' hR
      rcases hG.ext he with ⟨rfl, rfl⟩ | ⟨g, rfl, hg⟩
      · simp -implicitDefEqProofs (maxSteps := 400000) (maxDischargeDepth := 6) [k3, hv3, longRow, hfu, xrb, xok]
        exact hR _ ⟨fun t ht => by simp -implicitDefEqProofs (maxSteps := 400000) (maxDischargeDepth := 6) [gt 7 t ht], by simp -implicitDefEqProofs (maxSteps := 400000) (maxDischargeDepth := 6), by simp -implicitDefEqProofs (maxSteps := 400000) (maxDischargeDepth := 6), by repeat' (first | exact he.tick (by first | omega | (simp <;> omega)) | (refine ExtH.new ?_ (by first | omega | (simp <;> omega)) (by first | omega | (simp <;> omega))) | (refine ExtH.set ?_ (by simp) (by first | omega | (simp <;> omega))))⟩
      · simp -implicitDefEqProofs (maxSteps := 400000) (maxDischargeDepth := 6) [k3, hv3, longRow, hfu, xrb, hg, xok]
        exact hR _ ⟨fun t ht => by simp -implicitDefEqProofs (maxSteps := 400000) (maxDischargeDepth := 6) [gt 7 t ht], by simp -implicitDefEqProofs (maxSteps := 400000) (maxDischargeDepth := 6), by simp -implicitDefEqProofs (maxSteps := 400000) (maxDischargeDepth := 6), by repeat' (first | exact he.tick (by first | omega | (simp <;> omega)) | (refine ExtH.new ?_ (by first | omega | (simp <;> omega)) (by first | omega | (simp <;> omega))) | (refine ExtH.set ?_ (by simp) (by first | omega | (simp <;> omega))))⟩
    clear hfu hT hv3
    rintro st3 ⟨hs3, k7, k8, he⟩
    have hs : ∀ t, t < 5 → st3.s t = st1.s t := fun t ht => (hs3 t (by omega)).trans (hs2 t ht)
    have k5 := (hs3 5 (by omega)).trans k5
    have k6 := (hs3 6 (by omega)).trans k6
    have hT := he.2.2.1
    -- they are the same
    refine seq_c (fun st' => (∀ t, t < 9 → st'.s t = st3.s t) ∧ ExtH [] st1.H st1.T st'.H st'.T) ?_ ?_
    · intro R' hR
      simp -implicitDefEqProofs (maxSteps := 400000) (maxDischargeDepth := 6) [k5, k6, k7, k8, b1]
      exact hR _ ⟨fun t ht => by simp -implicitDefEqProofs (maxSteps := 400000) (maxDischargeDepth := 6) [gt 9 t ht], by repeat' (first | exact he.tick (by first | omega | (simp <;> omega)) | (refine ExtH.new ?_ (by first | omega | (simp <;> omega)) (by first | omega | (simp <;> omega))) | (refine ExtH.set ?_ (by simp) (by first | omega | (simp <;> omega))))⟩
    clear hT
    rintro st4 ⟨hs4, he⟩
    have hs : ∀ t, t < 5 → st4.s t = st1.s t := fun t ht => (hs4 t (by omega)).trans (hs t ht)
    have k5 := (hs4 5 (by omega)).trans k5
    have k3 := (hs 3 (by omega)).trans q3
    have hv3 := he.arr hw3 (by simp -implicitDefEqProofs (maxSteps := 400000) (maxDischargeDepth := 6))
    have hfu : ∀ k d, st4.T ≤ k → st4.H (k, d) = .unborn := he.fresh
    have hT := he.2.2.1
    -- laid
    refine seq_c (fun st' => ∃ f1 f2 v9, f1 ≠ f2 ∧ st1.T ≤ v9.1 ∧ (∀ t, t < 9 → st'.s t = st4.s t) ∧ st'.s 9 = .c (.pt v9 0 0) ∧ st'.s 10 = .c (.raw (.int .i64 q)) ∧ st'.s 11 = .c (.raw (.int .i64 0)) ∧
        st'.H v9 = .arr 30 2 false [[.so f1 0 Das.length, .so f2 0 Daw.length]] ∧ st'.H f1 = .arr 9 1 false (rowsE Das) ∧ st'.H f2 = .arr 75 2 false (rowsE Daw) ∧ ExtH [] st1.H st1.T st'.H st'.T) ?_ ?_
    · intro R' hR
      obtain ⟨m1, m2, m3⟩ := he.fresh.arr hv3
      rcases hG.ext he with ⟨rfl, rfl⟩ | ⟨g, rfl, hg⟩
      · simp -implicitDefEqProofs (maxSteps := 400000) (maxDischargeDepth := 6) [-List.reduceReplicate, k3, hv3, longRow, hfu, xfa, m1, m2, appendAV, diskNw]
        refine hR _ ⟨(st4.T, 82944), (st4.T, 82945), (st4.T, 9), by simp -implicitDefEqProofs (maxSteps := 400000) (maxDischargeDepth := 6), by simp -implicitDefEqProofs (maxSteps := 400000) (maxDischargeDepth := 6); omega, fun t ht => by simp -implicitDefEqProofs (maxSteps := 400000) (maxDischargeDepth := 6) [gt 9 t ht], by simp -implicitDefEqProofs (maxSteps := 400000) (maxDischargeDepth := 6), by simp -implicitDefEqProofs (maxSteps := 400000) (maxDischargeDepth := 6), by simp -implicitDefEqProofs (maxSteps := 400000) (maxDischargeDepth := 6), by simp -implicitDefEqProofs (maxSteps := 400000) (maxDischargeDepth := 6), by simp -implicitDefEqProofs (maxSteps := 400000) (maxDischargeDepth := 6), by simp -implicitDefEqProofs (maxSteps := 400000) (maxDischargeDepth := 6), ?_⟩
        repeat' (first | exact he.tick (by first | omega | (simp <;> omega)) | (refine ExtH.new ?_ (by first | omega | (simp <;> omega)) (by first | omega | (simp <;> omega))) | (refine ExtH.set ?_ (by simp) (by first | omega | (simp <;> omega))))
      · obtain ⟨p1, p2, p3⟩ := he.fresh.arr hg
        simp -implicitDefEqProofs (maxSteps := 400000) (maxDischargeDepth := 6) [-List.reduceReplicate, k3, hv3, longRow, hfu, xfa, hg, xg1, p1, p2, m1, m2, appendAV, diskNw]
        refine hR _ ⟨(st4.T, 82944), (st4.T, 82945), (st4.T, 9), by simp -implicitDefEqProofs (maxSteps := 400000) (maxDischargeDepth := 6), by simp -implicitDefEqProofs (maxSteps := 400000) (maxDischargeDepth := 6); omega, fun t ht => by simp -implicitDefEqProofs (maxSteps := 400000) (maxDischargeDepth := 6) [gt 9 t ht], by simp -implicitDefEqProofs (maxSteps := 400000) (maxDischargeDepth := 6), by simp -implicitDefEqProofs (maxSteps := 400000) (maxDischargeDepth := 6), by simp -implicitDefEqProofs (maxSteps := 400000) (maxDischargeDepth := 6), by simp -implicitDefEqProofs (maxSteps := 400000) (maxDischargeDepth := 6), by simp -implicitDefEqProofs (maxSteps := 400000) (maxDischargeDepth := 6), by simp -implicitDefEqProofs (maxSteps := 400000) (maxDischargeDepth := 6), ?_⟩
        repeat' (first | exact he.tick (by first | omega | (simp <;> omega)) | (refine ExtH.new ?_ (by first | omega | (simp <;> omega)) (by first | omega | (simp <;> omega))) | (refine ExtH.set ?_ (by simp) (by first | omega | (simp <;> omega))))
    clear hfu hT hv3 k3
    rintro st5 ⟨f1, f2, v9, hf12, h9, hs5, k9, k10, k11, hv9, hf1', hf2', he⟩
    have hs : ∀ t, t < 5 → st5.s t = st1.s t := fun t ht => (hs5 t (by omega)).trans (hs t ht)
    have k5 := (hs5 5 (by omega)).trans k5
    have hfu : ∀ k d, st5.T ≤ k → st5.H (k, d) = .unborn := he.fresh
    have hT := he.2.2.1
    obtain ⟨r1, r2, r3⟩ := he.fresh.arr hv9
    have fa1' : Das.length < 1000000 := by omega
    have fa2' : Daw.length < 1000000 := by omega
    -- synced
    refine seq_c (fun st' => ∃ f1 f2, f1 ≠ f2 ∧ (∀ t, t < 12 → st'.s t = st5.s t) ∧ st'.s 12 = .c (.raw (.int .i64 0)) ∧
        st'.H v9 = .arr 30 2 false [[.so f1 0 Ds.length, .so f2 0 0]] ∧ st'.H f1 = .arr 9 1 false (rowsE Ds) ∧ st'.H f2 = .arr 75 2 false [] ∧ ExtH [] st1.H st1.T st'.H st'.T) ?_ ?_
    · intro R' hR
      simp -implicitDefEqProofs (maxSteps := 400000) (maxDischargeDepth := 6) [k9, hv9, hf1', hf2', hfu, fs, fa1', fa2', r1, r2, diskE, diskNw]
      refine hR _ ⟨(st5.T, 89088), (st5.T, 89089), by simp -implicitDefEqProofs (maxSteps := 400000) (maxDischargeDepth := 6), fun t ht => by simp -implicitDefEqProofs (maxSteps := 400000) (maxDischargeDepth := 6) [gt 12 t ht], by simp -implicitDefEqProofs (maxSteps := 400000) (maxDischargeDepth := 6), by simp -implicitDefEqProofs (maxSteps := 400000) (maxDischargeDepth := 6) [r1, r2], by simp -implicitDefEqProofs (maxSteps := 400000) (maxDischargeDepth := 6) [r1, r2], by simp -implicitDefEqProofs (maxSteps := 400000) (maxDischargeDepth := 6) [r1, r2], ?_⟩
      refine ExtH.new ?_ h9 (by simp -implicitDefEqProofs (maxSteps := 400000) (maxDischargeDepth := 6); omega)
      repeat' (first | exact he.tick (by first | omega | (simp <;> omega)) | (refine ExtH.new ?_ (by first | omega | (simp <;> omega)) (by first | omega | (simp <;> omega))) | (refine ExtH.set ?_ (by simp) (by first | omega | (simp <;> omega))))
    clear hfu hT hf1' hf2' hv9 r1 r2 r3 hf12
    rintro st6 ⟨f1, f2, hf12, hs6, k12, hv9, hf1', hf2', he⟩
    have hs : ∀ t, t < 5 → st6.s t = st1.s t := fun t ht => (hs6 t (by omega)).trans (hs t ht)
    have k5 := (hs6 5 (by omega)).trans k5
    have k9 := (hs6 9 (by omega)).trans k9
    have k10 := (hs6 10 (by omega)).trans k10
    have k11 := (hs6 11 (by omega)).trans k11
    have hfu : ∀ k d, st6.T ≤ k → st6.H (k, d) = .unborn := he.fresh
    have hT := he.2.2.1
    have fs1' : Ds.length < 1000000 := by omega
    -- loaded
    refine seq_c (fun st' => ∃ g13, (∀ t, t < 13 → st'.s t = st6.s t) ∧ st'.s 13 = .c (.so g13 0 1) ∧ st'.s 14 = .c (.raw (.int .i64 q)) ∧ st'.s 15 = .c (.raw (.int .i64 0)) ∧
        st'.H v9 = .arr 30 2 false [[.so f1 0 Ds.length, .so f2 0 0]] ∧ st'.H f1 = .arr 9 1 false (rowsE Ds) ∧ st'.H f2 = .arr 75 2 false [] ∧
        st'.H g13 = .arr 45 13 false (rowsE [(⟨false, 0, 1, 1, 1, ⟨0, 0, 0⟩, [97, 98], G, 0, 0, 0⟩ : EntryV)]) ∧ ExtH [] st1.H st1.T st'.H st'.T) ?_ ?_
    · intro R' hR
      obtain ⟨r1, r2, r3⟩ := he.fresh.arr hv9
      obtain ⟨r4, r5, r6⟩ := he.fresh.arr hf1'
      obtain ⟨r7, r8, r9⟩ := he.fresh.arr hf2'
      simp -implicitDefEqProofs (maxSteps := 400000) (maxDischargeDepth := 6) [k9, hv9, hf1', hf2', hfu, xfl, fs1', r1, r2, r4, r5, r7, r8, loadAV]
      exact hR _ ⟨(st6.T, 94208), fun t ht => by simp -implicitDefEqProofs (maxSteps := 400000) (maxDischargeDepth := 6) [gt 13 t ht], by simp -implicitDefEqProofs (maxSteps := 400000) (maxDischargeDepth := 6), by simp -implicitDefEqProofs (maxSteps := 400000) (maxDischargeDepth := 6), by simp -implicitDefEqProofs (maxSteps := 400000) (maxDischargeDepth := 6), by simp -implicitDefEqProofs (maxSteps := 400000) (maxDischargeDepth := 6) [r1, r2, hv9], by simp -implicitDefEqProofs (maxSteps := 400000) (maxDischargeDepth := 6) [r4, r5, hf1'], by simp -implicitDefEqProofs (maxSteps := 400000) (maxDischargeDepth := 6) [r7, r8, hf2'], by simp -implicitDefEqProofs (maxSteps := 400000) (maxDischargeDepth := 6), by repeat' (first | exact he.tick (by first | omega | (simp <;> omega)) | (refine ExtH.new ?_ (by first | omega | (simp <;> omega)) (by first | omega | (simp <;> omega))) | (refine ExtH.set ?_ (by simp) (by first | omega | (simp <;> omega))))⟩
    clear hfu hT hf1' hf2' hv9
    rintro st7 ⟨g13, hs7, k13, k14, k15, hv9, hf1', hf2', hg13, he⟩
    have hs : ∀ t, t < 5 → st7.s t = st1.s t := fun t ht => (hs7 t (by omega)).trans (hs t ht)
    have k5 := (hs7 5 (by omega)).trans k5
    have k9 := (hs7 9 (by omega)).trans k9
    have k10 := (hs7 10 (by omega)).trans k10
    have k11 := (hs7 11 (by omega)).trans k11
    have k12 := (hs7 12 (by omega)).trans k12
    have k3 := (hs 3 (by omega)).trans q3
    have hv3 := he.arr hw3 (by simp -implicitDefEqProofs (maxSteps := 400000) (maxDischargeDepth := 6))
    have hfu : ∀ k d, st7.T ≤ k → st7.H (k, d) = .unborn := he.fresh
    have hT := he.2.2.1
    -- all is well
    refine seq_c (fun st' => (∀ t, t < 16 → st'.s t = st7.s t) ∧ st'.H v9 = st7.H v9 ∧ st'.H f1 = st7.H f1 ∧ st'.H f2 = st7.H f2 ∧ ExtH [] st1.H st1.T st'.H st'.T) ?_ ?_
    · intro R' hR
      have fs2' : Ds.length < 281474976710656 := by omega
      rcases hG.ext he with ⟨rfl, rfl⟩ | ⟨g, rfl, hg⟩
      · simp -implicitDefEqProofs (maxSteps := 400000) (maxDischargeDepth := 6) [k3, k5, k9, k10, k11, k12, k13, k14, k15, hv3, hv9, hf1', hf2', hg13, longRow, b2, b3, xsame, fm, fs2', entRow, opRow]
        exact hR _ ⟨fun t ht => by simp -implicitDefEqProofs (maxSteps := 400000) (maxDischargeDepth := 6) [gt 16 t ht], by simp -implicitDefEqProofs (maxSteps := 400000) (maxDischargeDepth := 6), by simp -implicitDefEqProofs (maxSteps := 400000) (maxDischargeDepth := 6), by simp -implicitDefEqProofs (maxSteps := 400000) (maxDischargeDepth := 6), by repeat' (first | exact he.tick (by first | omega | (simp <;> omega)) | (refine ExtH.new ?_ (by first | omega | (simp <;> omega)) (by first | omega | (simp <;> omega))) | (refine ExtH.set ?_ (by simp) (by first | omega | (simp <;> omega))))⟩
      · simp -implicitDefEqProofs (maxSteps := 400000) (maxDischargeDepth := 6) [k3, k5, k9, k10, k11, k12, k13, k14, k15, hv3, hv9, hf1', hf2', hg13, longRow, b2, b3, xsame, fm, fs2', hg, xg2, entRow, opRow]
        exact hR _ ⟨fun t ht => by simp -implicitDefEqProofs (maxSteps := 400000) (maxDischargeDepth := 6) [gt 16 t ht], by simp -implicitDefEqProofs (maxSteps := 400000) (maxDischargeDepth := 6), by simp -implicitDefEqProofs (maxSteps := 400000) (maxDischargeDepth := 6), by simp -implicitDefEqProofs (maxSteps := 400000) (maxDischargeDepth := 6), by repeat' (first | exact he.tick (by first | omega | (simp <;> omega)) | (refine ExtH.new ?_ (by first | omega | (simp <;> omega)) (by first | omega | (simp <;> omega))) | (refine ExtH.set ?_ (by simp) (by first | omega | (simp <;> omega))))⟩
    clear hT hfu hv3
    rintro st8 ⟨hs8, w9, w1, w2, he⟩
    rw [← w9] at hv9
    rw [← w1] at hf1'
    rw [← w2] at hf2'
    have hs : ∀ t, t < 5 → st8.s t = st1.s t := fun t ht => (hs8 t (by omega)).trans (hs t ht)
    have k9 := (hs8 9 (by omega)).trans k9
    have k10 := (hs8 10 (by omega)).trans k10
    have ql : q ≤ Ds.length := by omega
    simp -implicitDefEqProofs (maxSteps := 400000) (maxDischargeDepth := 6)
    refine long_l1 v9 f1 f2 q Ds fb2 ql fs1 fcut (by simp -implicitDefEqProofs (maxSteps := 400000) (maxDischargeDepth := 6) [k9]) (by simp -implicitDefEqProofs (maxSteps := 400000) (maxDischargeDepth := 6) [k10]) (by simp -implicitDefEqProofs (maxSteps := 400000) (maxDischargeDepth := 6)) (by simp -implicitDefEqProofs (maxSteps := 400000) (maxDischargeDepth := 6); exact he.fresh.mono (by omega)) (by simpa [fs1] using hv9) (by simpa using hf1') (by simpa using hf2') ?_
    intro st9 hs9 he9
    have he9' : ExtH [] st8.H (st8.T + 1) st9.H st9.T := by simpa using he9
    have heZ : ExtH [] st1.H st1.T st9.H st9.T := extH_tr (he.tick (Nat.le_succ _)) he9'
    have z1 := (hs9 1 (by omega)).trans (by simp -implicitDefEqProofs (maxSteps := 400000) (maxDischargeDepth := 6) [hs 1 (by omega), q1] : _ = AV.c (.pt v1 0 0))
    have z3 := (hs9 3 (by omega)).trans (by simp -implicitDefEqProofs (maxSteps := 400000) (maxDischargeDepth := 6) [hs 3 (by omega), q3] : _ = AV.c (.pt v3 0 0))
    have z4 := (hs9 4 (by omega)).trans (by simp -implicitDefEqProofs (maxSteps := 400000) (maxDischargeDepth := 6) [hs 4 (by omega), q4] : _ = AV.c (.raw (.int .i64 n)))
    have hwn := heZ.arr hw1 (by simp -implicitDefEqProofs (maxSteps := 400000) (maxDischargeDepth := 6))
    have w1 : IntKind.wrap .i64 ((n : Int) + 1) = (n : Int) + 1 := by rw [wrap64_id] <;> omega
    have w2 : IntKind.wrap .i64 ((n : Int) + 1 + par) = ((n + 1 + par : Nat) : Int) := by rw [wrap64_id] <;> omega
    simp -implicitDefEqProofs (maxSteps := 400000) (maxDischargeDepth := 6) [z1, z3, z4, hwn, hpar, w1, w2]
    refine ⟨70 - (n + 1 + par), by omega, ?_⟩
    refine ⟨n + 1 + par, n, c1, by omega, by omega, rfl, by simp -implicitDefEqProofs (maxSteps := 400000) (maxDischargeDepth := 6) [z1], by simp -implicitDefEqProofs (maxSteps := 400000) (maxDischargeDepth := 6) [z3], by simp -implicitDefEqProofs (maxSteps := 400000) (maxDischargeDepth := 6), by simpa using hwn, by simpa using heZ.arr hw3 (by simp -implicitDefEqProofs (maxSteps := 400000) (maxDischargeDepth := 6)), ?_, by simp -implicitDefEqProofs (maxSteps := 400000) (maxDischargeDepth := 6); exact heZ.fresh.mono (by omega)⟩
    rcases hGn with ⟨h1, h2⟩ | ⟨g, h1, h2, h3⟩
    · exact .inl ⟨h1, h2⟩
    · exact .inr ⟨g, h1, h2, by simpa using heZ.arr h3 (by simp -implicitDefEqProofs (maxSteps := 400000) (maxDischargeDepth := 6))⟩
  · simp -implicitDefEqProofs (maxSteps := 400000) (maxDischargeDepth := 6) [s3L2, k4, show ¬ (n : Int) < 60 by omega]
    exact hn _

theorem storeLong_ev (u0 u1 u2 u3 u4 u5 u6 u7 : Value) (h0 : u0.oneCell' = true) (h1 : u1.oneCell' = true) (h2 : u2.oneCell' = true) (h3 : u3.oneCell' = true) (h4 : u4.oneCell' = true) (h5 : u5.oneCell' = true) (h6 : u6.oneCell' = true) (h7 : u7.oneCell' = true) (l : List Int) :
    PEv Tryz.prog 3 [.g [.raw u0, .raw u1, .raw u2, .raw u3, .raw u4, .raw u5, .raw u6, .raw u7, .sl .brw false (rowsE l)]] (.c (.raw (.bool true))) := by
  refine tells_of mixed FG5_ok Tryz.func3 sl3 ok3 (by kernel_rfl) (by simp -implicitDefEqProofs (maxSteps := 400000) (maxDischargeDepth := 6)) (by simp -implicitDefEqProofs (maxSteps := 400000) (maxDischargeDepth := 6)) ?_
  simp -implicitDefEqProofs (maxSteps := 400000) (maxDischargeDepth := 6) [s3, h0, h1, h2, h3, h4, h5, h6, h7]
  refine long_l2 (0, 1) (1, 3) [u0, u1, u2, u3, u4, u5, u6, u7] l (l.length % 4) (by omega) (by rw [Int.tmod_eq_emod_of_nonneg (by omega)]; omega) rfl (by simp -implicitDefEqProofs (maxSteps := 400000) (maxDischargeDepth := 6)) (by simp -implicitDefEqProofs (maxSteps := 400000) (maxDischargeDepth := 6)) (by simp -implicitDefEqProofs (maxSteps := 400000) (maxDischargeDepth := 6)) ?_ (by simp -implicitDefEqProofs (maxSteps := 400000) (maxDischargeDepth := 6)) (by simp -implicitDefEqProofs (maxSteps := 400000) (maxDischargeDepth := 6) [longRow]) ?_
  · simp -implicitDefEqProofs (maxSteps := 400000) (maxDischargeDepth := 6)
    repeat' (first | exact fresh_no.mono (Nat.zero_le _) | (refine Fresh.set' ?_ (by decide)))
  intro st'
  simp -implicitDefEqProofs (maxSteps := 400000) (maxDischargeDepth := 6)

end Go.AE

/- What a disk's script reads as. -/
set_option linter.unusedVariables false
set_option linter.unusedSimpArgs false
set_option maxHeartbeats 2000000
set_option maxRecDepth 100000
namespace Go.AE
open Go Go.Proofs

theorem opens_Sect : Opens Sect Tryz.prog 75 (fun s => s.text.length ≤ reachBytes) := by
  intro H enc w F fuel cs x hF h
  obtain ⟨xs, n, _, rfl, hl, hlen, hf⟩ := DataW.trod_struct Tryz.underlying75 h
  rw [show Tryz.prog.cellsOf 75 = 2 from by kernel_rfl] at hl
  match cs, hl, xs, hlen with
  | [c0, c1], _, [x0, x1], _ =>
    have h0 := hf 0 _ rfl
    change DataW.trod enc Tryz.prog w 0 _ true _ 3 (List.take (Tryz.prog.cellsOf 3) [c0, c1]) = some x0 at h0
    rw [show Tryz.prog.cellsOf 3 = 1 from by kernel_rfl] at h0
    have h1 := hf 1 _ rfl
    change DataW.trod enc Tryz.prog w 0 _ true _ 9 (List.take (Tryz.prog.cellsOf 9) [c1]) = some x1 at h1
    rw [show Tryz.prog.cellsOf 9 = 1 from by kernel_rfl] at h1
    obtain ⟨a0, _, o0, r0, s0⟩ := opens_int Tryz.underlying3 enc w F n _ _ hF h0
    obtain ⟨a1, _, o1, r1, s1⟩ := opens_str Tryz.underlying9 enc w F n _ _ hF h1
    refine ⟨⟨a0, a1⟩, rfl, ?_, ?_, fun hw => ?_⟩
    · intro v hv
      simp -implicitDefEqProofs at hv o0 o1
      rcases hv with rfl | rfl
      · exact o0
      · exact o1
    · intro k c hk
      match k, hk with
      | 0, hk => exact r0 0 c (by simpa using hk)
      | 1, hk => exact r1 0 c (by simpa using hk)
    · simp only [DataW.weights, Tryz.underlying75, DataW.weightsEach, List.map_cons, List.map_nil, List.append_nil, List.all_append, Bool.and_eq_true] at hw
      exact s1 hw.2

theorem opens_Ints : OpensL Int Tryz.prog 24 (fun l => l.length * Tryz.prog.bytesOf 3 ≤ reachBytes ∧ ∀ a ∈ l, -9223372036854775808 ≤ a ∧ a ≤ 9223372036854775807) :=
  opens_slice Tryz.underlying24 (opens_int Tryz.underlying3) (by kernel_rfl) (by decide)

theorem opens_Strs : OpensL (List UInt8) Tryz.prog 27 (fun l => l.length * Tryz.prog.bytesOf 9 ≤ reachBytes ∧ ∀ a ∈ l, a.length ≤ reachBytes) :=
  opens_slice Tryz.underlying27 (opens_str Tryz.underlying9) (by kernel_rfl) (by decide)

theorem opens_Sects : OpensL Sect Tryz.prog 28 (fun l => l.length * Tryz.prog.bytesOf 75 ≤ reachBytes ∧ ∀ a ∈ l, a.text.length ≤ reachBytes) :=
  opens_slice Tryz.underlying28 opens_Sect (by kernel_rfl) (by decide)

theorem opens_ActD : Opens ActD Tryz.prog 157 (fun a => a.s.length ≤ reachBytes ∧ a.k.length * 8 ≤ reachBytes) := by
  intro H enc w F fuel cs x hF h
  obtain ⟨xs, n, _, rfl, hl, hlen, hf⟩ := DataW.trod_struct Tryz.underlying157 h
  rw [show Tryz.prog.cellsOf 157 = 4 from by kernel_rfl] at hl
  match cs, hl, xs, hlen with
  | [c0, c1, c2, c3], _, [x0, x1, x2, x3], _ =>
    have h0 := hf 0 _ rfl
    change DataW.trod enc Tryz.prog w 0 _ true _ 3 (List.take (Tryz.prog.cellsOf 3) [c0, c1, c2, c3]) = some x0 at h0
    rw [show Tryz.prog.cellsOf 3 = 1 from by kernel_rfl] at h0
    have h1 := hf 1 _ rfl
    change DataW.trod enc Tryz.prog w 0 _ true _ 3 (List.take (Tryz.prog.cellsOf 3) [c1, c2, c3]) = some x1 at h1
    rw [show Tryz.prog.cellsOf 3 = 1 from by kernel_rfl] at h1
    have h2 := hf 2 _ rfl
    change DataW.trod enc Tryz.prog w 0 _ true _ 9 (List.take (Tryz.prog.cellsOf 9) [c2, c3]) = some x2 at h2
    rw [show Tryz.prog.cellsOf 9 = 1 from by kernel_rfl] at h2
    have h3 := hf 3 _ rfl
    change DataW.trod enc Tryz.prog w 0 _ true _ 24 (List.take (Tryz.prog.cellsOf 24) [c3]) = some x3 at h3
    rw [show Tryz.prog.cellsOf 24 = 1 from by kernel_rfl] at h3
    obtain ⟨a0, _, o0, r0, s0⟩ := opens_int Tryz.underlying3 enc w F n _ _ hF h0
    obtain ⟨a1, _, o1, r1, s1⟩ := opens_int Tryz.underlying3 enc w F n _ _ hF h1
    obtain ⟨a2, _, o2, r2, s2⟩ := opens_str Tryz.underlying9 enc w F n _ _ hF h2
    obtain ⟨a3, _, o3, r3, s3⟩ := opens_Ints enc w F n _ _ hF h3
    refine ⟨⟨a0, a1, a2, a3⟩, rfl, ?_, ?_, fun hw => ?_⟩
    · intro v hv
      simp -implicitDefEqProofs at hv o0 o1 o2 o3
      rcases hv with rfl | rfl | rfl | rfl
      · exact o0
      · exact o1
      · exact o2
      · exact o3
    · intro k c hk
      match k, hk with
      | 0, hk => exact r0 0 c (by simpa using hk)
      | 1, hk => exact r1 0 c (by simpa using hk)
      | 2, hk => exact r2 0 c (by simpa using hk)
      | 3, hk =>
        simp -implicitDefEqProofs at hk
        subst hk
        exact r3
    · simp only [DataW.weights, Tryz.underlying157, DataW.weightsEach, List.map_cons, List.map_nil, List.append_nil, List.all_append, Bool.and_eq_true] at hw
      refine ⟨s2 hw.2.2.1, ?_⟩
      have := (s3 hw.2.2.2).1
      rwa [show Tryz.prog.bytesOf 3 = 8 from by kernel_rfl] at this

theorem opens_Acts : OpensL ActD Tryz.prog 31 (fun l => l.length * Tryz.prog.bytesOf 157 ≤ reachBytes ∧ ∀ a ∈ l, a.s.length ≤ reachBytes ∧ a.k.length * 8 ≤ reachBytes) :=
  opens_slice Tryz.underlying31 opens_ActD (by kernel_rfl) (by decide)

/-- A script: a disk, a number, acts. -/
structure ScriptD where
  d : DiskV
  n : Int
  l : List ActD

def scriptA (p : ScriptD) : AV := .g [.sl .brw false (rowsE p.d.safe), .sl .brw false (rowsE p.d.wait), .raw (.int .i64 p.n), .sl .brw false (rowsE p.l)]

/-- What sizes a script's parts have. -/
structure ScriptS (p : ScriptD) : Prop where
  safe : p.d.safe.length < 281474976710656
  wait : p.d.wait.length < 281474976710656
  safeS : ∀ s ∈ p.d.safe, s.length < 281474976710656
  waitS : ∀ s ∈ p.d.wait, s.text.length < 281474976710656
  acts : p.l.length < 2513169434844
  actS : ∀ a ∈ p.l, a.s.length < 281474976710656 ∧ a.k.length < 281474976710656

theorem RelC.brw {w : World} {F : Tag → Nat → Prop} {H : Heap} {ρ : Lies} {cl : Bool} {xs : List (List AC)} {v : Value} (h : RelC w F H ρ (.sl .old cl xs) v) (hF : ∀ b, F .old b → F .brw b) : RelC w F H ρ (.sl .brw cl xs) v := by
  cases h with
  | slNil _ _ _ h => exact .slNil _ _ _ h
  | sl _ _ _ b o cap sz vs hb hf hcap hcl hr hcell hone hrel => exact .sl _ _ _ b o cap sz vs hb (hF b hf) hcap hcl hr hcell hone hrel

theorem opens_Script {H : Type} (enc : TypeId × Value → H) (w : World) (F : Tag → Nat → Prop) (fuel : Nat) (cs : List Value) (x : DataW H × List MemPlace) (hF : ∀ b, b < w.heap.size → F .old b) (hF2 : ∀ b, F .old b → F .brw b)
    (h : DataW.trod enc Tryz.prog w 0 (fun _ => true) true fuel 33 cs = some x) (hw : (x.1.weights Tryz.prog 33).all (· ≤ reachBytes) = true) :
    ∃ p : ScriptD, ScriptS p ∧ RelV w F noHeap noLies (scriptA p) (.agg cs.toArray) := by
  obtain ⟨xs, n, _, rfl, hl, hlen, hf⟩ := DataW.trod_struct Tryz.underlying33 h
  rw [show Tryz.prog.cellsOf 33 = 4 from by kernel_rfl] at hl
  match cs, hl, xs, hlen with
  | [c0, c1, c2, c3], _, [x0, x1, x2], _ =>
    have h0 := hf 0 _ rfl
    change DataW.trod enc Tryz.prog w 0 _ true _ 30 (List.take (Tryz.prog.cellsOf 30) [c0, c1, c2, c3]) = some x0 at h0
    rw [show Tryz.prog.cellsOf 30 = 2 from by kernel_rfl] at h0
    have h1 := hf 1 _ rfl
    change DataW.trod enc Tryz.prog w 0 _ true _ 3 (List.take (Tryz.prog.cellsOf 3) [c2, c3]) = some x1 at h1
    rw [show Tryz.prog.cellsOf 3 = 1 from by kernel_rfl] at h1
    have h2 := hf 2 _ rfl
    change DataW.trod enc Tryz.prog w 0 _ true _ 31 (List.take (Tryz.prog.cellsOf 31) [c3]) = some x2 at h2
    rw [show Tryz.prog.cellsOf 31 = 1 from by kernel_rfl] at h2
    obtain ⟨ys, m, _, hx0, hl', hlen', hf'⟩ := DataW.trod_struct Tryz.underlying30 h0
    obtain ⟨a1, _, o1, r1, s1⟩ := opens_int Tryz.underlying3 enc w F n _ _ hF h1
    obtain ⟨a2, _, o2, r2, s2⟩ := opens_Acts enc w F n _ _ hF h2
    match ys, hlen' with
    | [y0, y1], _ =>
      have g0 := hf' 0 _ rfl
      change DataW.trod enc Tryz.prog w 0 _ true _ 27 (List.take (Tryz.prog.cellsOf 27) [c0, c1]) = some y0 at g0
      rw [show Tryz.prog.cellsOf 27 = 1 from by kernel_rfl] at g0
      have g1 := hf' 1 _ rfl
      change DataW.trod enc Tryz.prog w 0 _ true _ 28 (List.take (Tryz.prog.cellsOf 28) [c1]) = some y1 at g1
      rw [show Tryz.prog.cellsOf 28 = 1 from by kernel_rfl] at g1
      obtain ⟨b0, _, p0, q0, z0⟩ := opens_Strs enc w F m _ _ hF g0
      obtain ⟨b1, _, p1, q1, z1⟩ := opens_Sects enc w F m _ _ hF g1
      simp only [DataW.weights, Tryz.underlying33, Tryz.underlying30, DataW.weightsEach, List.map_cons, List.map_nil, List.append_nil, List.all_append, Bool.and_eq_true, hx0] at hw
      obtain ⟨⟨w0, w1⟩, _, w2⟩ := hw
      obtain ⟨i0, j0⟩ := z0 w0
      obtain ⟨i1, j1⟩ := z1 w1
      obtain ⟨i2, j2⟩ := s2 w2
      rw [show Tryz.prog.bytesOf 9 = 16 from by kernel_rfl] at i0
      rw [show Tryz.prog.bytesOf 75 = 24 from by kernel_rfl] at i1
      rw [show Tryz.prog.bytesOf 157 = 56 from by kernel_rfl] at i2
      have hr : reachBytes = 140737488351232 := rfl
      rw [hr] at i0 i1 i2 j0 j1 j2
      refine ⟨⟨⟨b0, b1⟩, a1, a2⟩, ⟨by simp -implicitDefEqProofs; omega, by simp -implicitDefEqProofs; omega, fun s hs => by have := j0 s hs; omega, fun s hs => by have := j1 s hs; omega, by simp -implicitDefEqProofs; omega, fun a ha => by have := j2 a ha; omega⟩, ?_⟩
      refine .g _ _ rfl fun k c hk => ?_
      match k, hk with
      | 0, hk => simp -implicitDefEqProofs at hk; subst hk; exact q0.brw hF2
      | 1, hk => simp -implicitDefEqProofs at hk; subst hk; exact q1.brw hF2
      | 2, hk => simp -implicitDefEqProofs at hk; subst hk; exact r1 0 _ rfl
      | 3, hk => simp -implicitDefEqProofs at hk; subst hk; exact r2.brw hF2

end Go.AE

set_option linter.unusedVariables false
set_option linter.unusedSimpArgs false
set_option maxHeartbeats 2000000
set_option maxRecDepth 100000
namespace Go.AE
open Go Go.Proofs

theorem one_slice {H : Type} {enc : TypeId × Value → H} {w : World} {fuel : Nat} {t e : TypeId} {c : Value} {x : DataW H × List MemPlace} (ht : Tryz.prog.underlying t = some (.slice e)) (h : DataW.trod enc Tryz.prog w 0 (fun _ => true) true fuel t [c] = some x) : c.oneCell' = true := by
  rcases DataW.trod_slice ht h with ⟨hc, _⟩ | ⟨a, len, cap, elems, rest, n, _, hc, _⟩
  · cases hc; rfl
  · cases hc; rfl

theorem opens_Ask {H : Type} (enc : TypeId × Value → H) (w : World) (F : Tag → Nat → Prop) (fuel : Nat) (cs : List Value) (x : DataW H × List MemPlace) (hF : ∀ b, b < w.heap.size → F .old b) (hF2 : ∀ b, F .old b → F .brw b)
    (h : DataW.trod enc Tryz.prog w 0 (fun _ => true) true fuel 36 cs = some x) :
    ∃ (u0 u1 u2 u3 u4 u5 u6 u7 : Value) (l : List Int), u0.oneCell' = true ∧ u1.oneCell' = true ∧ u2.oneCell' = true ∧ u3.oneCell' = true ∧ u4.oneCell' = true ∧ u5.oneCell' = true ∧ u6.oneCell' = true ∧ u7.oneCell' = true ∧
      RelV w F noHeap noLies (.g [.raw u0, .raw u1, .raw u2, .raw u3, .raw u4, .raw u5, .raw u6, .raw u7, .sl .brw false (rowsE l)]) (.agg cs.toArray) := by
  obtain ⟨xs, n, _, rfl, hl, hlen, hf⟩ := DataW.trod_struct Tryz.underlying36 h
  rw [show Tryz.prog.cellsOf 36 = 9 from by kernel_rfl] at hl
  match cs, hl, xs, hlen with
  | [c0, c1, c2, c3, c4, c5, c6, c7, c8], _, [x0, x1, x2, x3], _ =>
    have h0 := hf 0 _ rfl
    change DataW.trod enc Tryz.prog w 0 _ true _ 26 (List.take (Tryz.prog.cellsOf 26) [c0, c1, c2, c3, c4, c5, c6, c7, c8]) = some x0 at h0
    rw [show Tryz.prog.cellsOf 26 = 3 from by kernel_rfl] at h0
    have h1 := hf 1 _ rfl
    change DataW.trod enc Tryz.prog w 0 _ true _ 33 (List.take (Tryz.prog.cellsOf 33) [c3, c4, c5, c6, c7, c8]) = some x1 at h1
    rw [show Tryz.prog.cellsOf 33 = 4 from by kernel_rfl] at h1
    have h2 := hf 2 _ rfl
    change DataW.trod enc Tryz.prog w 0 _ true _ 34 (List.take (Tryz.prog.cellsOf 34) [c7, c8]) = some x2 at h2
    rw [show Tryz.prog.cellsOf 34 = 1 from by kernel_rfl] at h2
    have h3 := hf 3 _ rfl
    change DataW.trod enc Tryz.prog w 0 _ true _ 24 (List.take (Tryz.prog.cellsOf 24) [c8]) = some x3 at h3
    rw [show Tryz.prog.cellsOf 24 = 1 from by kernel_rfl] at h3
    obtain ⟨ys, m, _, hx0, hl', hlen', hf'⟩ := DataW.trod_struct Tryz.underlying26 h0
    obtain ⟨zs, q, _, hx1, hm', hmen', hg'⟩ := DataW.trod_struct Tryz.underlying33 h1
    match ys, hlen', zs, hmen' with
    | [y0, y1, y2], _, [z0, z1, z2], _ =>
      have g0 := hf' 0 _ rfl
      change DataW.trod enc Tryz.prog w 0 _ true _ 22 (List.take (Tryz.prog.cellsOf 22) [c0, c1, c2]) = some y0 at g0
      rw [show Tryz.prog.cellsOf 22 = 1 from by kernel_rfl] at g0
      have g1 := hf' 1 _ rfl
      change DataW.trod enc Tryz.prog w 0 _ true _ 23 (List.take (Tryz.prog.cellsOf 23) [c1, c2]) = some y1 at g1
      rw [show Tryz.prog.cellsOf 23 = 1 from by kernel_rfl] at g1
      have g2 := hf' 2 _ rfl
      change DataW.trod enc Tryz.prog w 0 _ true _ 24 (List.take (Tryz.prog.cellsOf 24) [c2]) = some y2 at g2
      rw [show Tryz.prog.cellsOf 24 = 1 from by kernel_rfl] at g2
      have k0 := hg' 0 _ rfl
      change DataW.trod enc Tryz.prog w 0 _ true _ 30 (List.take (Tryz.prog.cellsOf 30) [c3, c4, c5, c6]) = some z0 at k0
      rw [show Tryz.prog.cellsOf 30 = 2 from by kernel_rfl] at k0
      have k1 := hg' 1 _ rfl
      change DataW.trod enc Tryz.prog w 0 _ true _ 3 (List.take (Tryz.prog.cellsOf 3) [c5, c6]) = some z1 at k1
      rw [show Tryz.prog.cellsOf 3 = 1 from by kernel_rfl] at k1
      have k2 := hg' 2 _ rfl
      change DataW.trod enc Tryz.prog w 0 _ true _ 31 (List.take (Tryz.prog.cellsOf 31) [c6]) = some z2 at k2
      rw [show Tryz.prog.cellsOf 31 = 1 from by kernel_rfl] at k2
      obtain ⟨vs, r, _, _, _, hven, hv'⟩ := DataW.trod_struct Tryz.underlying30 k0
      match vs, hven with
      | [v0, v1], _ =>
        have d0 := hv' 0 _ rfl
        change DataW.trod enc Tryz.prog w 0 _ true _ 27 (List.take (Tryz.prog.cellsOf 27) [c3, c4]) = some v0 at d0
        rw [show Tryz.prog.cellsOf 27 = 1 from by kernel_rfl] at d0
        have d1 := hv' 1 _ rfl
        change DataW.trod enc Tryz.prog w 0 _ true _ 28 (List.take (Tryz.prog.cellsOf 28) [c4]) = some v1 at d1
        rw [show Tryz.prog.cellsOf 28 = 1 from by kernel_rfl] at d1
        obtain ⟨a5, _, o5, _, _⟩ := opens_int Tryz.underlying3 enc w F q _ _ hF k1
        obtain ⟨l, _, _, r8, _⟩ := opens_Ints enc w F n _ _ hF h3
        refine ⟨c0, c1, c2, c3, c4, c5, c6, c7, l, one_slice Tryz.underlying22 g0, one_slice Tryz.underlying23 g1, one_slice Tryz.underlying24 g2, one_slice Tryz.underlying27 d0, one_slice Tryz.underlying28 d1, o5 c5 (by simp -implicitDefEqProofs (maxSteps := 400000) (maxDischargeDepth := 6)), one_slice Tryz.underlying31 k2, one_slice Tryz.underlying34 h2, ?_⟩
        refine .g _ _ rfl fun k c hk => ?_
        match k, hk with
        | 0, hk => simp -implicitDefEqProofs (maxSteps := 400000) (maxDischargeDepth := 6) at hk; subst hk; exact .raw _
        | 1, hk => simp -implicitDefEqProofs (maxSteps := 400000) (maxDischargeDepth := 6) at hk; subst hk; exact .raw _
        | 2, hk => simp -implicitDefEqProofs (maxSteps := 400000) (maxDischargeDepth := 6) at hk; subst hk; exact .raw _
        | 3, hk => simp -implicitDefEqProofs (maxSteps := 400000) (maxDischargeDepth := 6) at hk; subst hk; exact .raw _
        | 4, hk => simp -implicitDefEqProofs (maxSteps := 400000) (maxDischargeDepth := 6) at hk; subst hk; exact .raw _
        | 5, hk => simp -implicitDefEqProofs (maxSteps := 400000) (maxDischargeDepth := 6) at hk; subst hk; exact .raw _
        | 6, hk => simp -implicitDefEqProofs (maxSteps := 400000) (maxDischargeDepth := 6) at hk; subst hk; exact .raw _
        | 7, hk => simp -implicitDefEqProofs (maxSteps := 400000) (maxDischargeDepth := 6) at hk; subst hk; exact .raw _
        | 8, hk => simp -implicitDefEqProofs (maxSteps := 400000) (maxDischargeDepth := 6) at hk; subst hk; exact r8.brw hF2

end Go.AE
