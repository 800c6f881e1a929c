/- What the store's script reads as: none but its numbers are looked at. -/
import Derived.Test.YtjafmhgkfkfimaaSto3
import Derived.Test.YtjafmhgkfkfimaaSto5

set_option linter.unusedVariables false
set_option linter.unusedSimpArgs false
set_option maxHeartbeats 4000000
set_option maxRecDepth 100000
namespace Go.AE
open Go Go.Proofs

theorem storeStale_ev (u0 u1 u2 u3 u4 u5 u6 u7 : Value) (h0 : u0.oneCell' = true) (h1 : u1.oneCell' = true) (h2 : u2.oneCell' = true) (h3 : u3.oneCell' = true) (h4 : u4.oneCell' = true) (h5 : u5.oneCell' = true) (h6 : u6.oneCell' = true) (h7 : u7.oneCell' = true) (l : List Int) :
    PEv Try.prog 3 [.g [.raw u0, .raw u1, .raw u2, .raw u3, .raw u4, .raw u5, .raw u6, .raw u7, .sl .brw false (rowsE l)]] (.c (.raw (.bool true))) := by
  refine tells_of mixed FE4_ok Try.func3 sl3 ok3 (by kernel_rfl) (by simp -implicitDefEqProofs (maxSteps := 400000) (maxDischargeDepth := 6)) (by simp -implicitDefEqProofs (maxSteps := 400000) (maxDischargeDepth := 6)) ?_
  simp -implicitDefEqProofs (maxSteps := 400000) (maxDischargeDepth := 6) [-List.reduceReplicate, s3, h0, h1, h2, h3, h4, h5, h6, h7, diskNw]
  have s0 : (staleD 0).1.safe = List.replicate 12 blank := rfl
  have s1 : (staleD 0).1.wait = [] := rfl
  refine stale_l0 (.c (.pt (0, 1) 0 0)) (1, 29696) (2, 4) (j1 := (2, 30720)) (j2 := (2, 30721)) (by simp -implicitDefEqProofs (maxSteps := 400000) (maxDischargeDepth := 6)) (by simp -implicitDefEqProofs (maxSteps := 400000) (maxDischargeDepth := 6); rfl) (by simp -implicitDefEqProofs (maxSteps := 400000) (maxDischargeDepth := 6)) (by simp -implicitDefEqProofs (maxSteps := 400000) (maxDischargeDepth := 6)) (by simp -implicitDefEqProofs (maxSteps := 400000) (maxDischargeDepth := 6)) ?_ (by simp -implicitDefEqProofs (maxSteps := 400000) (maxDischargeDepth := 6)) (by simp -implicitDefEqProofs (maxSteps := 400000) (maxDischargeDepth := 6)) (by simp -implicitDefEqProofs (maxSteps := 400000) (maxDischargeDepth := 6) [-List.reduceReplicate, s0]) (by simp -implicitDefEqProofs (maxSteps := 400000) (maxDischargeDepth := 6) [s1]) ?_
  · simp -implicitDefEqProofs (maxSteps := 400000) (maxDischargeDepth := 6)
    repeat' (first | exact fresh_no.mono (Nat.zero_le _) | (refine Fresh.set' ?_ (by decide)))
  intro st' j1 j2 k1 k3 k4 hid hv hj1 hj2 he
  have hV : st'.H (0, 1) = .arr 36 9 false [[.raw u0, .raw u1, .raw u2, .raw u3, .raw u4, .raw u5, .raw u6, .raw u7, .sl .brw false (rowsE l)]] := he.arr (by simp -implicitDefEqProofs (maxSteps := 400000) (maxDischargeDepth := 6)) (by simp -implicitDefEqProofs (maxSteps := 400000) (maxDischargeDepth := 6))
  have hw5 := dS_len
  have hf := he.fresh
  simp -implicitDefEqProofs (maxSteps := 400000) (maxDischargeDepth := 6) [k1, k3, k4, hv, hw5, hj2]
  refine stale_l2 (0, 1) (1, 29696) (2, 4) j1 j2 [u0, u1, u2, u3, u4, u5, u6, u7] l (l.length % 2) (by omega) rfl rfl ?_ ?_ ?_ ?_ ?_ ?_ ?_ ?_ ?_ ?_ ?_ ?_
  · simp -implicitDefEqProofs (maxSteps := 400000) (maxDischargeDepth := 6) [k1]
  · simp -implicitDefEqProofs (maxSteps := 400000) (maxDischargeDepth := 6) [k3]
  · simp -implicitDefEqProofs (maxSteps := 400000) (maxDischargeDepth := 6) [k4]
  · simp -implicitDefEqProofs (maxSteps := 400000) (maxDischargeDepth := 6)
  · simp -implicitDefEqProofs (maxSteps := 400000) (maxDischargeDepth := 6)
  · simp -implicitDefEqProofs (maxSteps := 400000) (maxDischargeDepth := 6); exact hf.mono (by omega)
  · simp -implicitDefEqProofs (maxSteps := 400000) (maxDischargeDepth := 6); exact hV
  · simp -implicitDefEqProofs (maxSteps := 400000) (maxDischargeDepth := 6); exact hid
  · simp -implicitDefEqProofs (maxSteps := 400000) (maxDischargeDepth := 6); rw [hv]
  · simp -implicitDefEqProofs (maxSteps := 400000) (maxDischargeDepth := 6); exact hj1
  · simp -implicitDefEqProofs (maxSteps := 400000) (maxDischargeDepth := 6); exact hj2
  intro st2 he2
  simp -implicitDefEqProofs (maxSteps := 400000) (maxDischargeDepth := 6)

end Go.AE

/- What a disk's script reads as. -/
set_option linter.unusedVariables false
set_option linter.unusedSimpArgs false
set_option maxHeartbeats 2000000
set_option maxRecDepth 100000
namespace Go.AE
open Go Go.Proofs

theorem opens_Sect : Opens Sect Try.prog 67 (fun s => s.text.length ≤ reachBytes) := by
  intro H enc w F fuel cs x hF h
  obtain ⟨xs, n, _, rfl, hl, hlen, hf⟩ := DataW.trod_struct Try.underlying67 h
  rw [show Try.prog.cellsOf 67 = 2 from by kernel_rfl] at hl
  match cs, hl, xs, hlen with
  | [c0, c1], _, [x0, x1], _ =>
    have h0 := hf 0 _ rfl
    change DataW.trod enc Try.prog w 0 _ true _ 3 (List.take (Try.prog.cellsOf 3) [c0, c1]) = some x0 at h0
    rw [show Try.prog.cellsOf 3 = 1 from by kernel_rfl] at h0
    have h1 := hf 1 _ rfl
    change DataW.trod enc Try.prog w 0 _ true _ 9 (List.take (Try.prog.cellsOf 9) [c1]) = some x1 at h1
    rw [show Try.prog.cellsOf 9 = 1 from by kernel_rfl] at h1
    obtain ⟨a0, _, o0, r0, s0⟩ := opens_int Try.underlying3 enc w F n _ _ hF h0
    obtain ⟨a1, _, o1, r1, s1⟩ := opens_str Try.underlying9 enc w F n _ _ hF h1
    refine ⟨⟨a0, a1⟩, rfl, ?_, ?_, fun hw => ?_⟩
    · intro v hv
      simp -implicitDefEqProofs at hv o0 o1
      rcases hv with rfl | rfl
      · exact o0
      · exact o1
    · intro k c hk
      match k, hk with
      | 0, hk => exact r0 0 c (by simpa using hk)
      | 1, hk => exact r1 0 c (by simpa using hk)
    · simp only [DataW.weights, Try.underlying67, DataW.weightsEach, List.map_cons, List.map_nil, List.append_nil, List.all_append, Bool.and_eq_true] at hw
      exact s1 hw.2

theorem opens_Ints : OpensL Int Try.prog 24 (fun l => l.length * Try.prog.bytesOf 3 ≤ reachBytes ∧ ∀ a ∈ l, -9223372036854775808 ≤ a ∧ a ≤ 9223372036854775807) :=
  opens_slice Try.underlying24 (opens_int Try.underlying3) (by kernel_rfl) (by decide)

theorem opens_Strs : OpensL (List UInt8) Try.prog 27 (fun l => l.length * Try.prog.bytesOf 9 ≤ reachBytes ∧ ∀ a ∈ l, a.length ≤ reachBytes) :=
  opens_slice Try.underlying27 (opens_str Try.underlying9) (by kernel_rfl) (by decide)

theorem opens_Sects : OpensL Sect Try.prog 28 (fun l => l.length * Try.prog.bytesOf 67 ≤ reachBytes ∧ ∀ a ∈ l, a.text.length ≤ reachBytes) :=
  opens_slice Try.underlying28 opens_Sect (by kernel_rfl) (by decide)

theorem opens_ActD : Opens ActD Try.prog 157 (fun a => a.s.length ≤ reachBytes ∧ a.k.length * 8 ≤ reachBytes) := by
  intro H enc w F fuel cs x hF h
  obtain ⟨xs, n, _, rfl, hl, hlen, hf⟩ := DataW.trod_struct Try.underlying157 h
  rw [show Try.prog.cellsOf 157 = 4 from by kernel_rfl] at hl
  match cs, hl, xs, hlen with
  | [c0, c1, c2, c3], _, [x0, x1, x2, x3], _ =>
    have h0 := hf 0 _ rfl
    change DataW.trod enc Try.prog w 0 _ true _ 3 (List.take (Try.prog.cellsOf 3) [c0, c1, c2, c3]) = some x0 at h0
    rw [show Try.prog.cellsOf 3 = 1 from by kernel_rfl] at h0
    have h1 := hf 1 _ rfl
    change DataW.trod enc Try.prog w 0 _ true _ 3 (List.take (Try.prog.cellsOf 3) [c1, c2, c3]) = some x1 at h1
    rw [show Try.prog.cellsOf 3 = 1 from by kernel_rfl] at h1
    have h2 := hf 2 _ rfl
    change DataW.trod enc Try.prog w 0 _ true _ 9 (List.take (Try.prog.cellsOf 9) [c2, c3]) = some x2 at h2
    rw [show Try.prog.cellsOf 9 = 1 from by kernel_rfl] at h2
    have h3 := hf 3 _ rfl
    change DataW.trod enc Try.prog w 0 _ true _ 24 (List.take (Try.prog.cellsOf 24) [c3]) = some x3 at h3
    rw [show Try.prog.cellsOf 24 = 1 from by kernel_rfl] at h3
    obtain ⟨a0, _, o0, r0, s0⟩ := opens_int Try.underlying3 enc w F n _ _ hF h0
    obtain ⟨a1, _, o1, r1, s1⟩ := opens_int Try.underlying3 enc w F n _ _ hF h1
    obtain ⟨a2, _, o2, r2, s2⟩ := opens_str Try.underlying9 enc w F n _ _ hF h2
    obtain ⟨a3, _, o3, r3, s3⟩ := opens_Ints enc w F n _ _ hF h3
    refine ⟨⟨a0, a1, a2, a3⟩, rfl, ?_, ?_, fun hw => ?_⟩
    · intro v hv
      simp -implicitDefEqProofs at hv o0 o1 o2 o3
      rcases hv with rfl | rfl | rfl | rfl
      · exact o0
      · exact o1
      · exact o2
      · exact o3
    · intro k c hk
      match k, hk with
      | 0, hk => exact r0 0 c (by simpa using hk)
      | 1, hk => exact r1 0 c (by simpa using hk)
      | 2, hk => exact r2 0 c (by simpa using hk)
      | 3, hk =>
        simp -implicitDefEqProofs at hk
        subst hk
        exact r3
    · simp only [DataW.weights, Try.underlying157, DataW.weightsEach, List.map_cons, List.map_nil, List.append_nil, List.all_append, Bool.and_eq_true] at hw
      refine ⟨s2 hw.2.2.1, ?_⟩
      have := (s3 hw.2.2.2).1
      rwa [show Try.prog.bytesOf 3 = 8 from by kernel_rfl] at this

theorem opens_Acts : OpensL ActD Try.prog 31 (fun l => l.length * Try.prog.bytesOf 157 ≤ reachBytes ∧ ∀ a ∈ l, a.s.length ≤ reachBytes ∧ a.k.length * 8 ≤ reachBytes) :=
  opens_slice Try.underlying31 opens_ActD (by kernel_rfl) (by decide)

/-- A script: a disk, a number, acts. -/
structure ScriptD where
  d : DiskV
  n : Int
  l : List ActD

def scriptA (p : ScriptD) : AV := .g [.sl .brw false (rowsE p.d.safe), .sl .brw false (rowsE p.d.wait), .raw (.int .i64 p.n), .sl .brw false (rowsE p.l)]

/-- What sizes a script's parts have. -/
structure ScriptS (p : ScriptD) : Prop where
  safe : p.d.safe.length < 281474976710656
  wait : p.d.wait.length < 281474976710656
  safeS : ∀ s ∈ p.d.safe, s.length < 281474976710656
  waitS : ∀ s ∈ p.d.wait, s.text.length < 281474976710656
  acts : p.l.length < 2513169434844
  actS : ∀ a ∈ p.l, a.s.length < 281474976710656 ∧ a.k.length < 281474976710656

theorem RelC.brw {w : World} {F : Tag → Nat → Prop} {H : Heap} {ρ : Lies} {cl : Bool} {xs : List (List AC)} {v : Value} (h : RelC w F H ρ (.sl .old cl xs) v) (hF : ∀ b, F .old b → F .brw b) : RelC w F H ρ (.sl .brw cl xs) v := by
  cases h with
  | slNil _ _ _ h => exact .slNil _ _ _ h
  | sl _ _ _ b o cap sz vs hb hf hcap hcl hr hcell hone hrel => exact .sl _ _ _ b o cap sz vs hb (hF b hf) hcap hcl hr hcell hone hrel

theorem opens_Script {H : Type} (enc : TypeId × Value → H) (w : World) (F : Tag → Nat → Prop) (fuel : Nat) (cs : List Value) (x : DataW H × List MemPlace) (hF : ∀ b, b < w.heap.size → F .old b) (hF2 : ∀ b, F .old b → F .brw b)
    (h : DataW.trod enc Try.prog w 0 (fun _ => true) true fuel 33 cs = some x) (hw : (x.1.weights Try.prog 33).all (· ≤ reachBytes) = true) :
    ∃ p : ScriptD, ScriptS p ∧ RelV w F noHeap noLies (scriptA p) (.agg cs.toArray) := by
  obtain ⟨xs, n, _, rfl, hl, hlen, hf⟩ := DataW.trod_struct Try.underlying33 h
  rw [show Try.prog.cellsOf 33 = 4 from by kernel_rfl] at hl
  match cs, hl, xs, hlen with
  | [c0, c1, c2, c3], _, [x0, x1, x2], _ =>
    have h0 := hf 0 _ rfl
    change DataW.trod enc Try.prog w 0 _ true _ 30 (List.take (Try.prog.cellsOf 30) [c0, c1, c2, c3]) = some x0 at h0
    rw [show Try.prog.cellsOf 30 = 2 from by kernel_rfl] at h0
    have h1 := hf 1 _ rfl
    change DataW.trod enc Try.prog w 0 _ true _ 3 (List.take (Try.prog.cellsOf 3) [c2, c3]) = some x1 at h1
    rw [show Try.prog.cellsOf 3 = 1 from by kernel_rfl] at h1
    have h2 := hf 2 _ rfl
    change DataW.trod enc Try.prog w 0 _ true _ 31 (List.take (Try.prog.cellsOf 31) [c3]) = some x2 at h2
    rw [show Try.prog.cellsOf 31 = 1 from by kernel_rfl] at h2
    obtain ⟨ys, m, _, hx0, hl', hlen', hf'⟩ := DataW.trod_struct Try.underlying30 h0
    obtain ⟨a1, _, o1, r1, s1⟩ := opens_int Try.underlying3 enc w F n _ _ hF h1
    obtain ⟨a2, _, o2, r2, s2⟩ := opens_Acts enc w F n _ _ hF h2
    match ys, hlen' with
    | [y0, y1], _ =>
      have g0 := hf' 0 _ rfl
      change DataW.trod enc Try.prog w 0 _ true _ 27 (List.take (Try.prog.cellsOf 27) [c0, c1]) = some y0 at g0
      rw [show Try.prog.cellsOf 27 = 1 from by kernel_rfl] at g0
      have g1 := hf' 1 _ rfl
      change DataW.trod enc Try.prog w 0 _ true _ 28 (List.take (Try.prog.cellsOf 28) [c1]) = some y1 at g1
      rw [show Try.prog.cellsOf 28 = 1 from by kernel_rfl] at g1
      obtain ⟨b0, _, p0, q0, z0⟩ := opens_Strs enc w F m _ _ hF g0
      obtain ⟨b1, _, p1, q1, z1⟩ := opens_Sects enc w F m _ _ hF g1
      simp only [DataW.weights, Try.underlying33, Try.underlying30, DataW.weightsEach, List.map_cons, List.map_nil, List.append_nil, List.all_append, Bool.and_eq_true, hx0] at hw
      obtain ⟨⟨w0, w1⟩, _, w2⟩ := hw
      obtain ⟨i0, j0⟩ := z0 w0
      obtain ⟨i1, j1⟩ := z1 w1
      obtain ⟨i2, j2⟩ := s2 w2
      rw [show Try.prog.bytesOf 9 = 16 from by kernel_rfl] at i0
      rw [show Try.prog.bytesOf 67 = 24 from by kernel_rfl] at i1
      rw [show Try.prog.bytesOf 157 = 56 from by kernel_rfl] at i2
      have hr : reachBytes = 140737488351232 := rfl
      rw [hr] at i0 i1 i2 j0 j1 j2
      refine ⟨⟨⟨b0, b1⟩, a1, a2⟩, ⟨by simp -implicitDefEqProofs; omega, by simp -implicitDefEqProofs; omega, fun s hs => by have := j0 s hs; omega, fun s hs => by have := j1 s hs; omega, by simp -implicitDefEqProofs; omega, fun a ha => by have := j2 a ha; omega⟩, ?_⟩
      refine .g _ _ rfl fun k c hk => ?_
      match k, hk with
      | 0, hk => simp -implicitDefEqProofs at hk; subst hk; exact q0.brw hF2
      | 1, hk => simp -implicitDefEqProofs at hk; subst hk; exact q1.brw hF2
      | 2, hk => simp -implicitDefEqProofs at hk; subst hk; exact r1 0 _ rfl
      | 3, hk => simp -implicitDefEqProofs at hk; subst hk; exact r2.brw hF2

end Go.AE

set_option linter.unusedVariables false
set_option linter.unusedSimpArgs false
set_option maxHeartbeats 2000000
set_option maxRecDepth 100000
namespace Go.AE
open Go Go.Proofs

theorem one_slice {H : Type} {enc : TypeId × Value → H} {w : World} {fuel : Nat} {t e : TypeId} {c : Value} {x : DataW H × List MemPlace} (ht : Try.prog.underlying t = some (.slice e)) (h : DataW.trod enc Try.prog w 0 (fun _ => true) true fuel t [c] = some x) : c.oneCell' = true := by
  rcases DataW.trod_slice ht h with ⟨hc, _⟩ | ⟨a, len, cap, elems, rest, n, _, hc, _⟩
  · cases hc; rfl
  · cases hc; rfl

theorem opens_Ask {H : Type} (enc : TypeId × Value → H) (w : World) (F : Tag → Nat → Prop) (fuel : Nat) (cs : List Value) (x : DataW H × List MemPlace) (hF : ∀ b, b < w.heap.size → F .old b) (hF2 : ∀ b, F .old b → F .brw b)
    (h : DataW.trod enc Try.prog w 0 (fun _ => true) true fuel 36 cs = some x) :
    ∃ (u0 u1 u2 u3 u4 u5 u6 u7 : Value) (l : List Int), u0.oneCell' = true ∧ u1.oneCell' = true ∧ u2.oneCell' = true ∧ u3.oneCell' = true ∧ u4.oneCell' = true ∧ u5.oneCell' = true ∧ u6.oneCell' = true ∧ u7.oneCell' = true ∧
      RelV w F noHeap noLies (.g [.raw u0, .raw u1, .raw u2, .raw u3, .raw u4, .raw u5, .raw u6, .raw u7, .sl .brw false (rowsE l)]) (.agg cs.toArray) := by
  obtain ⟨xs, n, _, rfl, hl, hlen, hf⟩ := DataW.trod_struct Try.underlying36 h
  rw [show Try.prog.cellsOf 36 = 9 from by kernel_rfl] at hl
  match cs, hl, xs, hlen with
  | [c0, c1, c2, c3, c4, c5, c6, c7, c8], _, [x0, x1, x2, x3], _ =>
    have h0 := hf 0 _ rfl
    change DataW.trod enc Try.prog w 0 _ true _ 26 (List.take (Try.prog.cellsOf 26) [c0, c1, c2, c3, c4, c5, c6, c7, c8]) = some x0 at h0
    rw [show Try.prog.cellsOf 26 = 3 from by kernel_rfl] at h0
    have h1 := hf 1 _ rfl
    change DataW.trod enc Try.prog w 0 _ true _ 33 (List.take (Try.prog.cellsOf 33) [c3, c4, c5, c6, c7, c8]) = some x1 at h1
    rw [show Try.prog.cellsOf 33 = 4 from by kernel_rfl] at h1
    have h2 := hf 2 _ rfl
    change DataW.trod enc Try.prog w 0 _ true _ 34 (List.take (Try.prog.cellsOf 34) [c7, c8]) = some x2 at h2
    rw [show Try.prog.cellsOf 34 = 1 from by kernel_rfl] at h2
    have h3 := hf 3 _ rfl
    change DataW.trod enc Try.prog w 0 _ true _ 24 (List.take (Try.prog.cellsOf 24) [c8]) = some x3 at h3
    rw [show Try.prog.cellsOf 24 = 1 from by kernel_rfl] at h3
    obtain ⟨ys, m, _, hx0, hl', hlen', hf'⟩ := DataW.trod_struct Try.underlying26 h0
    obtain ⟨zs, q, _, hx1, hm', hmen', hg'⟩ := DataW.trod_struct Try.underlying33 h1
    match ys, hlen', zs, hmen' with
    | [y0, y1, y2], _, [z0, z1, z2], _ =>
      have g0 := hf' 0 _ rfl
      change DataW.trod enc Try.prog w 0 _ true _ 22 (List.take (Try.prog.cellsOf 22) [c0, c1, c2]) = some y0 at g0
      rw [show Try.prog.cellsOf 22 = 1 from by kernel_rfl] at g0
      have g1 := hf' 1 _ rfl
      change DataW.trod enc Try.prog w 0 _ true _ 23 (List.take (Try.prog.cellsOf 23) [c1, c2]) = some y1 at g1
      rw [show Try.prog.cellsOf 23 = 1 from by kernel_rfl] at g1
      have g2 := hf' 2 _ rfl
      change DataW.trod enc Try.prog w 0 _ true _ 24 (List.take (Try.prog.cellsOf 24) [c2]) = some y2 at g2
      rw [show Try.prog.cellsOf 24 = 1 from by kernel_rfl] at g2
      have k0 := hg' 0 _ rfl
      change DataW.trod enc Try.prog w 0 _ true _ 30 (List.take (Try.prog.cellsOf 30) [c3, c4, c5, c6]) = some z0 at k0
      rw [show Try.prog.cellsOf 30 = 2 from by kernel_rfl] at k0
      have k1 := hg' 1 _ rfl
      change DataW.trod enc Try.prog w 0 _ true _ 3 (List.take (Try.prog.cellsOf 3) [c5, c6]) = some z1 at k1
      rw [show Try.prog.cellsOf 3 = 1 from by kernel_rfl] at k1
      have k2 := hg' 2 _ rfl
      change DataW.trod enc Try.prog w 0 _ true _ 31 (List.take (Try.prog.cellsOf 31) [c6]) = some z2 at k2
      rw [show Try.prog.cellsOf 31 = 1 from by kernel_rfl] at k2
      obtain ⟨vs, r, _, _, _, hven, hv'⟩ := DataW.trod_struct Try.underlying30 k0
      match vs, hven with
      | [v0, v1], _ =>
        have d0 := hv' 0 _ rfl
        change DataW.trod enc Try.prog w 0 _ true _ 27 (List.take (Try.prog.cellsOf 27) [c3, c4]) = some v0 at d0
        rw [show Try.prog.cellsOf 27 = 1 from by kernel_rfl] at d0
        have d1 := hv' 1 _ rfl
        change DataW.trod enc Try.prog w 0 _ true _ 28 (List.take (Try.prog.cellsOf 28) [c4]) = some v1 at d1
        rw [show Try.prog.cellsOf 28 = 1 from by kernel_rfl] at d1
        obtain ⟨a5, _, o5, _, _⟩ := opens_int Try.underlying3 enc w F q _ _ hF k1
        obtain ⟨l, _, _, r8, _⟩ := opens_Ints enc w F n _ _ hF h3
        refine ⟨c0, c1, c2, c3, c4, c5, c6, c7, l, one_slice Try.underlying22 g0, one_slice Try.underlying23 g1, one_slice Try.underlying24 g2, one_slice Try.underlying27 d0, one_slice Try.underlying28 d1, o5 c5 (by simp -implicitDefEqProofs (maxSteps := 400000) (maxDischargeDepth := 6)), one_slice Try.underlying31 k2, one_slice Try.underlying34 h2, ?_⟩
        refine .g _ _ rfl fun k c hk => ?_
        match k, hk with
        | 0, hk => simp -implicitDefEqProofs (maxSteps := 400000) (maxDischargeDepth := 6) at hk; subst hk; exact .raw _
        | 1, hk => simp -implicitDefEqProofs (maxSteps := 400000) (maxDischargeDepth := 6) at hk; subst hk; exact .raw _
        | 2, hk => simp -implicitDefEqProofs (maxSteps := 400000) (maxDischargeDepth := 6) at hk; subst hk; exact .raw _
        | 3, hk => simp -implicitDefEqProofs (maxSteps := 400000) (maxDischargeDepth := 6) at hk; subst hk; exact .raw _
        | 4, hk => simp -implicitDefEqProofs (maxSteps := 400000) (maxDischargeDepth := 6) at hk; subst hk; exact .raw _
        | 5, hk => simp -implicitDefEqProofs (maxSteps := 400000) (maxDischargeDepth := 6) at hk; subst hk; exact .raw _
        | 6, hk => simp -implicitDefEqProofs (maxSteps := 400000) (maxDischargeDepth := 6) at hk; subst hk; exact .raw _
        | 7, hk => simp -implicitDefEqProofs (maxSteps := 400000) (maxDischargeDepth := 6) at hk; subst hk; exact .raw _
        | 8, hk => simp -implicitDefEqProofs (maxSteps := 400000) (maxDischargeDepth := 6) at hk; subst hk; exact r8.brw hF2

end Go.AE
