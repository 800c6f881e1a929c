/- Ops: which may be. -/
import Derived.Test.YtjafmhgkfkfimaaGreatLng3
import Derived.Shelf.Strings.Repeat
import Derived.KernelRfl
import Derived.Test.YtjafmhgkfkfimaaGreatProg
import Derived.WalkKit
import Derived.BigCall
import Derived.Shelf.Strings.FuncGrows
import Derived.Shelf.Utf8.RuneCount

set_option linter.unusedVariables false
set_option linter.unusedSimpArgs false
namespace Go.AE
open Go

variable {P : Program}

/-- An object that is named anywhere in a cell. -/
inductive idD (id : Id) : AC → Prop where
  | so (off len : Nat) : idD id (.so id off len)
  | pt (i j : Nat) : idD id (.pt id i j)
  | fn (f : FuncId) (caps : List AC) (c : AC) (hc : c ∈ caps) (h : idD id c) : idD id (.fn f caps)
  | sl (t : Tag) (cl : Bool) (xs : List (List AC)) (r : List AC) (c : AC) (hr : r ∈ xs) (hc : c ∈ r) (h : idD id c) : idD id (.sl t cl xs)
  | pv (t : Tag) (row : List AC) (j : Nat) (c : AC) (hc : c ∈ row) (h : idD id c) : idD id (.pv t row j)

theorem RelC.bornD {w : World} {F : Tag → Nat → Prop} {H : Heap} {ρ : Lies} {c : AC} {v : Value} (h : RelC w F H ρ c v) {id : Id} (hi : idD id c) : H id ≠ .unborn := by
  induction h with
  | raw v => cases hi
  | str l => cases hi
  | junk v => cases hi
  | slNil t cl v h => cases hi with | sl _ _ _ r c hr hc h => simp at hr
  | sl t cl xs b o cap sz vs hb hF hcap hcl hrow hcell hone hrel ih =>
    cases hi with
    | sl _ _ _ r c hr hc h =>
      obtain ⟨i, hi⟩ := List.getElem?_of_mem hr
      obtain ⟨j, hj⟩ := List.getElem?_of_mem hc
      exact ih i j r c hi hj h
  | so id off len v hk h => cases hi; exact hk
  | pt id i j v hk h => cases hi; exact hk
  | pv t row j b o vs hb hF hcell hrel ih =>
    cases hi with
    | pv _ _ _ c hc h =>
      obtain ⟨k, hk⟩ := List.getElem?_of_mem hc
      exact ih k c hk h
  | fn f caps vs hl h ih =>
    cases hi with
    | fn _ _ c hc h =>
      obtain ⟨k, hk⟩ := List.getElem?_of_mem hc
      exact ih k c hk h

theorem RelC.sub {w : World} {F F' : Tag → Nat → Prop} {H H' : Heap} {ρ ρ' : Lies} {c : AC} {v : Value} (h : RelC w F H ρ c v)
    (hid : ∀ id, idD id c → H' id ≠ .unborn ∧ ((H' id).live = true → (H id).live = true ∧ ρ' id = ρ id)) (hF : ∀ t b, F t b → F' t b) : RelC w F' H' ρ' c v := by
  induction h with
  | raw v => exact .raw v
  | str l => exact .str l
  | junk v => exact .junk v
  | slNil t cl v h => exact .slNil t cl v h
  | sl t cl xs b o cap sz vs hb hf hcap hcl hrow hcell hone hrel ih =>
    exact .sl t cl xs b o cap sz vs hb (hF _ _ hf) hcap hcl hrow hcell hone fun i j r c hi hj => ih i j r c hi hj fun id h => hid id (.sl _ _ _ r c (List.mem_of_getElem? hi) (List.mem_of_getElem? hj) h)
  | so id off len v hk h =>
    obtain ⟨h1, h2⟩ := hid id (.so _ _)
    exact .so id off len v h1 fun hl => by
      obtain ⟨h3, h4⟩ := h2 hl
      have := h h3
      unfold SoVal at *
      rw [h4]; exact this
  | pt id i j v hk h =>
    obtain ⟨h1, h2⟩ := hid id (.pt _ _)
    exact .pt id i j v h1 fun hl => by
      obtain ⟨h3, h4⟩ := h2 hl
      obtain ⟨b, cap, sz, h5, h6⟩ := h h3
      exact ⟨b, cap, sz, by rw [h4]; exact h5, h6⟩
  | pv t row j b o vs hb hf hcell hrel ih =>
    exact .pv t row j b o vs hb (hF _ _ hf) hcell fun k c hk => ih k c hk fun id h => hid id (.pv _ _ _ c (List.mem_of_getElem? hk) h)
  | fn f caps vs hl h ih => exact .fn f caps vs hl fun k c hk => ih k c hk fun id h => hid id (.fn _ _ c (List.mem_of_getElem? hk) h)

theorem Keeps.trans {w w' w'' : World} {F F' F'' : Tag → Nat → Prop} {H H' H'' : Heap} {ρ ρ' ρ'' : Lies} (h : Keeps w w' F F' H H' ρ ρ') (h' : Keeps w' w'' F' F'' H' H'' ρ' ρ'') : Keeps w w'' F F'' H H'' ρ ρ'' := by
  refine ⟨Nat.le_trans h.size h'.size, fun t b hf hb => ?_, fun id hi => ?_⟩
  · obtain ⟨h1, h2⟩ := h.blk t b hf hb
    obtain ⟨h3, h4⟩ := h'.blk t b h1 (Nat.lt_of_lt_of_le hb h.size)
    exact ⟨h3, h4.trans h2⟩
  · obtain ⟨h1, h2⟩ := h.obj id hi
    obtain ⟨h3, h4⟩ := h'.obj id h1
    exact ⟨h3, fun l => by
      obtain ⟨h5, h6⟩ := h4 l
      obtain ⟨h7, h8⟩ := h2 h5
      exact ⟨h7, h6.trans h8⟩⟩

theorem soIds_get : ∀ {cs : List AC} {k : Nat} {id : Id} {off len : Nat}, cs[k]? = some (.so id off len) → id ∈ soIds cs
  | c :: cs, 0, id, off, len, h => by simp at h; subst h; simp [soIds]
  | c :: cs, k + 1, id, off, len, h => by
    have := soIds_get (cs := cs) (k := k) (by simpa using h)
    cases c <;> simp [soIds, this]

/-- What was made besides is forgotten: the heap is the one ahead of the call, but for what was turned, and for what is handed back. -/
theorem gc {C : Ctx P} {w0 w : World} {st : St} {a : Act} {ρ0 ρ : Lies} {Hf : Heap} (h0 : Rel C ρ0 st a w0) (h1 : RelH C Hf ρ w) (k : Keeps w0 w (Fr C st.H ρ0) (Fr C Hf ρ) st.H Hf ρ0 ρ)
    {res ret : AV} {v : Value} (hv : RelV w (Fr C Hf ρ) Hf ρ res v) (hret : ∀ c ∈ ret.flat, RetC c) (hex : exV Hf res ret) (hnd : (soIds res.flat).Nodup) (hnew : ∀ id ∈ soIds res.flat, st.H id = .unborn)
    (nm : Nat → Id) (inj : ∀ i j, nm i = nm j → i = j) (hun : adUn nm st.H 0 ret.flat) {us : List (Id × OK)} (hus : ∀ i, st.H i ≠ .unborn → Hf i = upH st.H us i) (hub : ∀ q ∈ us, q.2 ≠ .unborn ∧ st.H q.1 ≠ .unborn)
    (hcl : ∀ q ∈ us, ∀ e sz f rows, q.2 = .arr e sz f rows → ∀ r ∈ rows, ∀ c ∈ r, ∀ id, idD id c → st.H id ≠ .unborn) :
    ∃ ρ', Rel C ρ' { st with H := adH nm 0 ret.flat (upH st.H us) } a w ∧ RelV w (Fr C (adH nm 0 ret.flat (upH st.H us)) ρ') (adH nm 0 ret.flat (upH st.H us)) ρ' (ret.ad nm) v := by
  obtain ⟨hlen, hcell⟩ := exL_get (exV_flat hex)
  generalize hHb : upH st.H us = Hb at hus
  have hbN : ∀ i, Hb i = (upN us i).getD (st.H i) := fun i => by rw [← hHb, upH_upN]
  have hbb : ∀ i, Hb i ≠ .unborn ↔ st.H i ≠ .unborn := fun i => by
    rw [hbN]
    cases hu : upN us i with
    | none => simp
    | some ob => simpa [(hub _ (upN_mem hu)).1] using (hub _ (upN_mem hu)).2
  let lieOf : AC → Option (Nat × Nat × Nat) := fun c => match c with
    | .so id _ _ => ρ id
    | _ => none
  have hdec : ∀ i : Id, Decidable (∃ k, i = nm k ∧ ∃ e sz xs, ret.flat[k]? = some (.nw e sz xs)) := fun i => Classical.propDecidable _
  let ρ' : Lies := fun i => if hk : ∃ k, i = nm k ∧ ∃ e sz xs, ret.flat[k]? = some (.nw e sz xs) then lieOf ((res.flat)[Classical.choose hk]?.getD .junk) else ρ i
  have hρ' : ∀ k e sz xs, ret.flat[k]? = some (.nw e sz xs) → ρ' (nm k) = lieOf ((res.flat)[k]?.getD .junk) := fun k e sz xs hx => by
    have hk : ∃ k', nm k = nm k' ∧ ∃ e sz xs, ret.flat[k']? = some (.nw e sz xs) := ⟨k, rfl, e, sz, xs, hx⟩
    have : Classical.choose hk = k := inj _ _ (Classical.choose_spec hk).1.symm
    simp only [ρ']
    rw [dif_pos hk, this]
  have hρo : ∀ i, (∀ k e sz xs, ret.flat[k]? = some (.nw e sz xs) → i ≠ nm k) → ρ' i = ρ i := fun i hn => by
    simp only [ρ']
    rw [dif_neg]
    rintro ⟨k, hk, e, sz, xs, hx⟩
    exact hn k e sz xs hx hk
  have nmU : ∀ k e sz xs, ret.flat[k]? = some (.nw e sz xs) → st.H (nm k) = .unborn := fun k e sz xs hx => by
    have := adUn_get nm ret.flat 0 st.H hun k e sz xs hx
    rwa [Nat.zero_add] at this
  have old : ∀ i, st.H i ≠ .unborn → ∀ k e sz xs, ret.flat[k]? = some (.nw e sz xs) → i ≠ nm k := fun i hi k e sz xs hx he => hi (by rw [he]; exact nmU k e sz xs hx)
  generalize hHD : adH nm 0 ret.flat Hb = HD
  have look : ∀ id, (∃ k e sz xs, ret.flat[k]? = some (.nw e sz xs) ∧ id = nm k ∧ HD id = .arr e sz false xs) ∨ ((∀ k e sz xs, ret.flat[k]? = some (.nw e sz xs) → id ≠ nm k) ∧ HD id = Hb id) := fun id => by
    rw [← hHD]
    rcases adH_get nm ret.flat 0 Hb id inj with ⟨j, e, sz, xs, q1, q2, q3⟩ | ⟨q1, q2⟩
    · exact .inl ⟨j, e, sz, xs, q1, by rwa [Nat.zero_add] at q2, q3⟩
    · exact .inr ⟨fun k e sz xs hx => by have := q1 k e sz xs hx; rwa [Nat.zero_add] at this, q2⟩
  have hold : ∀ i, st.H i ≠ .unborn → HD i = Hf i ∧ ρ' i = ρ i := fun i hi => by
    rcases look i with ⟨k, e, sz, xs, q1, q2, _⟩ | ⟨q1, q2⟩
    · exact (old i hi k e sz xs q1 q2).elim
    · exact ⟨by rw [q2]; exact (hus i hi).symm, hρo i q1⟩
  -- an object
  have arr : ∀ id e sz f rows, HD id = .arr e sz f rows →
      (f = false ∧ ∃ k, ret.flat[k]? = some (.nw e sz rows) ∧ id = nm k ∧
        ((rows = [] ∧ ρ' id = none) ∨ ∃ id0 n, res.flat[k]? = some (.so id0 0 n) ∧ Hf id0 = .arr e sz false rows ∧ n = rows.length ∧ ρ' id = ρ id0)) ∨
      (st.H id ≠ .unborn ∧ Hf id = .arr e sz f rows ∧ ρ' id = ρ id) := fun id e sz f rows hid => by
    rcases look id with ⟨k, e', sz', xs', hk, rfl, h3⟩ | ⟨q1, q2⟩
    · rw [hid] at h3
      cases h3
      refine .inl ⟨rfl, k, hk, rfl, ?_⟩
      obtain ⟨c, hc, hx⟩ := hcell k _ hk
      have hr := hρ' k _ _ _ hk
      rw [hc] at hr
      simp only [Option.getD_some] at hr
      unfold exC at hx
      split at hx
      · rename_i id0 off len e' sz' rows' heq
        cases heq
        obtain ⟨rfl, h1, h2⟩ := hx
        exact .inr ⟨id0, len, hc, h1, h2, by rw [hr]⟩
      · rename_i heq; cases heq
      · rename_i e' sz' rows' heq
        cases heq
        exact .inl ⟨hx, by rw [hr]⟩
      · rename_i heq; cases heq
      · rename_i heq; cases heq
      · rename_i heq; cases heq
      · rename_i heq; cases heq
      · exact hx.elim
    · have hb : st.H id ≠ .unborn := (hbb id).1 (by rw [← q2, hid]; simp)
      obtain ⟨g1, g2⟩ := hold id hb
      exact .inr ⟨hb, by rw [← g1]; exact hid, g2⟩
  have mut2 : ∀ b, Mut HD ρ' b → Mut Hf ρ b := fun b ⟨id, e, sz, rows, cap, s, hid, hρ⟩ => by
    rcases arr id e sz false rows hid with ⟨_, k, hk, rfl, h2⟩ | ⟨h2, h3, h4⟩
    · rcases h2 with ⟨_, h2⟩ | ⟨id0, n, h2, h3, h4, h5⟩
      · rw [h2] at hρ; cases hρ
      · exact ⟨id0, e, sz, rows, cap, s, h3, by rw [← h5]; exact hρ⟩
    · exact ⟨id, e, sz, rows, cap, s, h3, by rw [← h4]; exact hρ⟩
  have hF : ∀ t b, Fr C Hf ρ t b → Fr C HD ρ' t b := fun t b hf => ⟨hf.1, fun m => hf.2 (mut2 b m)⟩
  have hF' : ∀ t b, t ≠ .brw → Fr C Hf ρ t b → Fr C HD ρ' t b := fun t b _ hf => hF t b hf
  -- cells that name what was there alone
  have subC : ∀ c u, (∀ id, idD id c → st.H id ≠ .unborn) → RelC w (Fr C Hf ρ) Hf ρ c u → RelC w (Fr C HD ρ') HD ρ' c u := fun c u hc hu =>
    hu.sub (fun id hi => by
      obtain ⟨g1, g2⟩ := hold id (hc id hi)
      refine ⟨?_, fun hl => ⟨by rw [← g1]; exact hl, g2⟩⟩
      rw [g1]
      exact (k.obj id (hc id hi)).1) hF
  have hrowOf : ∀ id e sz f rows, HD id = .arr e sz f rows → Row w (Fr C HD ρ') HD ρ' C.p id e sz rows := fun id e sz f rows hid => by
    rcases arr id e sz f rows hid with ⟨_, k, hk, rfl, h2⟩ | ⟨h2, h3, h4⟩
    · have hrc : RetC (.nw e sz rows) := hret _ (List.mem_of_getElem? hk)
      rcases h2 with ⟨rfl, h2⟩ | ⟨id0, n, h2, h3, h4, h5⟩
      · exact ⟨by simp, .inl ⟨h2, rfl⟩⟩
      · have hr := h1.row id0 e sz false rows h3
        refine ⟨hr.rowlen, ?_⟩
        rcases hr.lies with ⟨q1, q2⟩ | ⟨b, cap, cur, q1, q2, q3, q4, q5, q6, q7⟩
        · exact .inl ⟨by rw [h5]; exact q1, q2⟩
        · refine .inr ⟨b, cap, cur, by rw [h5]; exact q1, q2, q3, q4, q5, q6, fun i j r c hi hj => ?_⟩
          obtain ⟨u, u1, u2, u3⟩ := q7 i j r c hi hj
          exact ⟨u, u1, u2, u3.noid (hrc r (List.mem_of_getElem? hi) c (List.mem_of_getElem? hj)) hF'⟩
    · have hr := h1.row id e sz f rows h3
      refine ⟨hr.rowlen, ?_⟩
      rcases hr.lies with ⟨q1, q2⟩ | ⟨b, cap, cur, q1, q2, q3, q4, q5, q6, q7⟩
      · exact .inl ⟨by rw [h4]; exact q1, q2⟩
      · refine .inr ⟨b, cap, cur, by rw [h4]; exact q1, q2, q3, q4, q5, q6, fun i j r c hi hj => ?_⟩
        obtain ⟨u, u1, u2, u3⟩ := q7 i j r c hi hj
        refine ⟨u, u1, u2, subC c u (fun id' hid' => ?_) u3⟩
        have hHb2 : Hb id = .arr e sz f rows := by rw [← hus id h2]; exact h3
        rw [hbN] at hHb2
        cases hu : upN us id with
        | some ob =>
          rw [hu] at hHb2
          exact hcl _ (upN_mem hu) e sz f rows hHb2 r (List.mem_of_getElem? hi) c (List.mem_of_getElem? hj) id' hid'
        | none =>
          rw [hu] at hHb2
          have hr0 := h0.heap.row id e sz f rows hHb2
          rcases hr0.lies with ⟨_, p2⟩ | ⟨_, _, _, _, _, _, _, _, _, p7⟩
          · rw [p2] at hi; simp at hi
          · obtain ⟨u', _, _, u3'⟩ := p7 i j r c hi hj
            exact u3'.bornD hid'
  have hk : Keeps w0 w (Fr C st.H ρ0) (Fr C HD ρ') st.H HD ρ0 ρ' := by
    refine ⟨k.size, fun t b hf hb => ?_, fun id hi => ?_⟩
    · obtain ⟨g1, g2⟩ := k.blk t b hf hb
      exact ⟨hF t b g1, g2⟩
    · obtain ⟨g1, g2⟩ := hold id hi
      obtain ⟨g3, g4⟩ := k.obj id hi
      exact ⟨by rw [g1]; exact g3, fun hl => by
        obtain ⟨g5, g6⟩ := g4 (by rw [← g1]; exact hl)
        exact ⟨g5, g2.trans g6⟩⟩
  have soU : ∀ (k : Nat) id off len, res.flat[k]? = some (.so id off len) → st.H id = .unborn := fun k id off len h => hnew id (soIds_get h)
  -- the cells of the result
  have cellR : ∀ (k : Nat) d c u, ret.flat[k]? = some d → res.flat[k]? = some c → exC Hf c d → RelC w (Fr C Hf ρ) Hf ρ c u → RelC w (Fr C HD ρ') HD ρ' (adC nm k d) u := fun k d c u hk hc hx hu => by
    have hrc := hret d (List.mem_of_getElem? hk)
    have hr : ∀ e sz xs, d = .nw e sz xs → ρ' (nm k) = lieOf c := fun e sz xs hd => by
      have := hρ' k e sz xs (by rw [hk, hd])
      rw [hc] at this
      exact this
    have hun : ∀ e sz rows, d = .nw e sz rows → HD (nm k) ≠ .unborn := fun e sz rows hd => by
      rcases look (nm k) with ⟨j', e', sz', xs', h1, h2, h3⟩ | ⟨h1, _⟩
      · rw [h3]; simp
      · exact (h1 k e sz rows (by rw [hk, hd]) rfl).elim
    unfold exC at hx
    split at hx
    · rename_i id off len e sz rows
      obtain ⟨rfl, h1, h2⟩ := hx
      simp only [adC]
      cases hu with
      | so _ _ _ _ hne hs =>
        have hs := hs (by rw [h1]; rfl)
        refine .so _ _ _ _ (hun _ _ _ rfl) fun _ => ?_
        unfold SoVal at *
        rw [hr _ _ _ rfl]
        subst h2
        exact hs
    · rename_i id off len t cl rows
      obtain ⟨ht, rfl, hrows⟩ := hx
      simp only [adC]
      have live : ∃ e sz f rs, Hf id = .arr e sz f rs := by
        simp only [rowsOf] at hrows
        split at hrows
        · rename_i e sz f rs hid; exact ⟨e, sz, f, rs, hid⟩
        · cases hrows
      obtain ⟨e0, sz0, f0, rs0, hid0⟩ := live
      rcases rows_rel h1 hu hrows with ⟨hn, rfl⟩ | ⟨b, o', cap, sz, rfl, g1, g2, g3⟩
      · exact .slNil _ _ _ hn
      · have hz : (rows = [] ∧ Nil0 (.slice (some ⟨b, o', none⟩) rows.length cap)) ∨ ρ id ≠ none := by
          by_cases hz : ρ id = none
          · left
            rcases (h1.row id e0 sz0 f0 rs0 hid0).lies with ⟨q1, q2⟩ | ⟨b', cap', cur, q1, q2, q3, _⟩
            · subst q2
              cases hu with
              | so _ _ _ _ hne hs =>
                have hs := hs (by rw [hid0]; rfl)
                unfold SoVal at hs
                rw [q1] at hs
                refine ⟨?_, hs.2.2⟩
                simp only [rowsOf, hid0] at hrows
                split at hrows
                · cases hrows; simp
                · cases hrows
            · rw [hz] at q1; cases q1
          · exact .inr hz
        rcases hz with ⟨rfl, hz⟩ | hz
        · exact .slNil _ _ _ hz
        have hbl : b < w.heap.size ∧ C.p ≤ b ∧ ∃ c s, ρ id = some (b, c, s) := by
          cases hu with
          | so _ _ _ _ hne hs =>
            have hs := hs (by rw [hid0]; rfl)
            unfold SoVal at hs
            rcases (h1.row id e0 sz0 f0 rs0 hid0).lies with ⟨q1, _⟩ | ⟨b', cap', cur, q1, q2, q3, _⟩
            · exact (hz q1).elim
            · rw [q1] at hs
              obtain ⟨o'', he, _⟩ := hs
              cases he
              exact ⟨(Array.getElem?_eq_some_iff.1 q3).1, q2, _, _, q1⟩
        obtain ⟨hb, hp, cc, ss, hρid⟩ := hbl
        have hFb : Fr C HD ρ' t b := by
          refine ⟨.inl hp, fun ⟨id1, e1, sz1, rows1, cap1, s1, m1, m2⟩ => ?_⟩
          rcases arr id1 e1 sz1 false rows1 m1 with ⟨_, k2, hk2, rfl, b2⟩ | ⟨b2, b3, b4⟩
          · rcases b2 with ⟨_, b2⟩ | ⟨id2, n2, p1, p2, p3, p4⟩
            · rw [b2] at m2; cases m2
            · rw [p4] at m2
              have : id2 = id := h1.inj id2 id e1 sz1 rows1 e0 sz0 f0 rs0 b cap1 s1 cc ss p2 hid0 m2 hρid
              subst this
              have := soIds_inj hnd p1 hc
              subst this
              rw [hk] at hk2; cases hk2
          · rw [b4] at m2
            have : id1 = id := h1.inj id1 id e1 sz1 rows1 e0 sz0 f0 rs0 b cap1 s1 cc ss b3 hid0 m2 hρid
            subst this
            exact b2 (soU k id1 off len hc)
        obtain ⟨news, n1, n2, n3, n4⟩ := app_vals g1 g3
        have hget : ∀ q, q < rows.length * sz → ∃ u, news[q]? = some u ∧ w.cell? ⟨b, o' + q, none⟩ = some u := fun q hq => by
          have hlt : q < news.length := by omega
          have := n2 q news[q] (List.getElem?_eq_getElem hlt)
          rw [Addr.add_lit] at this
          exact ⟨_, List.getElem?_eq_getElem hlt, this⟩
        refine .sl t false rows b o' cap sz (fun q => news.getD q undef) hb hFb g2 (fun e => by cases e) (fun i r hi => g1 r (List.mem_of_getElem? hi)) (fun q hq => ?_) (fun q hq => ?_) (fun i j r c hi hj => ?_)
        · obtain ⟨u, u1, u2⟩ := hget q hq
          simp [List.getD, u1, u2]
        · obtain ⟨u, u1, u2⟩ := hget q hq
          have : news.getD q undef = u := by simp [List.getD, u1]
          rw [this]; exact n3 u (List.mem_of_getElem? u1)
        · obtain ⟨u, u1, u2, u3⟩ := n4 i j r c hi hj
          have : news.getD (i * sz + j) undef = u := by simp [List.getD, u1]
          rw [this]
          cases hrc with
          | sl _ _ _ _ hn => exact u3.noid (hn r (List.mem_of_getElem? hi) c (List.mem_of_getElem? hj)) hF'
    · rename_i e sz rows
      subst hx
      simp only [adC]
      have := relC_raw hu
      subst this
      refine .so _ _ _ _ (hun _ _ _ rfl) fun _ => ?_
      unfold SoVal
      rw [hr _ _ _ rfl]
      exact ⟨rfl, rfl, .nil⟩
    · rename_i t cl rows
      subst hx
      have := relC_raw hu
      subst this
      exact .slNil _ _ _ .nil
    · rename_i t cl xs t' cl' xs'
      obtain ⟨rfl, ht, hb, hcl⟩ := hx
      simp only [adC]
      cases hu with
      | slNil _ _ _ hn => exact .slNil _ _ _ hn
      | sl _ _ _ b o cap sz vs hb' hf hcap hcl2 hrow hcell hone hrel =>
        have hf' : Fr C HD ρ' t' b := by
          rcases ht with rfl | ⟨rfl, rfl⟩
          · exact hF _ b hf
          · refine ⟨?_, fun m => hf.2 (mut2 b m)⟩
            rcases hf.1 with q | ⟨q, _⟩
            · exact .inl q
            · exact (q rfl).elim
        cases hrc with
        | sl _ _ _ _ hn =>
          exact .sl t' cl' xs b o cap sz vs hb' hf' hcap (fun e => hcl2 (hcl e)) hrow hcell hone fun i j r c hi hj => (hrel i j r c hi hj).noid (hn r (List.mem_of_getElem? hi) c (List.mem_of_getElem? hj)) hF'
    · subst hx
      exact hu.noid (.raw _) hF'
    · subst hx
      exact hu.noid (.str _) hF'
    · exact hx.elim
  refine ⟨ρ', ⟨⟨h1.below, hrowOf, ?_, ?_⟩, fun t => (h0.slot t).keep hk, h0.nodef, C.keepX hk h0.ghost⟩, ?_⟩
  · intro i1 i2 e1 s1 r1 e2 s2 f2 r2 b c s c' s' g1 g2 hρ1 hρ2
    have key : ∀ i e sz f rows c s, HD i = .arr e sz f rows → ρ' i = some (b, c, s) → ∃ i0 f', Hf i0 = .arr e sz f' rows ∧ ρ i0 = some (b, c, s) ∧ (f = false → f' = false) ∧
        ((st.H i ≠ .unborn ∧ i0 = i) ∨ (st.H i0 = .unborn ∧ ∃ (k : Nat) (n : Nat), i = nm k ∧ res.flat[k]? = some (.so i0 0 n))) := fun i e sz f rows c s hi hρ => by
      rcases arr i e sz f rows hi with ⟨rfl, k, hk, rfl, b2⟩ | ⟨b2, b3, b4⟩
      · rcases b2 with ⟨_, b2⟩ | ⟨id2, n2, p1, p2, p3, p4⟩
        · rw [b2] at hρ; cases hρ
        · exact ⟨id2, false, p2, by rw [← p4]; exact hρ, fun h => h, .inr ⟨soU k _ _ _ p1, k, n2, rfl, p1⟩⟩
      · exact ⟨i, f, b3, by rw [← b4]; exact hρ, fun h => h, .inl ⟨b2, rfl⟩⟩
    obtain ⟨j1, f1', a1, a2, a3, a4⟩ := key i1 e1 s1 false r1 c s g1 hρ1
    obtain ⟨j2, f2', b1, b2, b3, b4⟩ := key i2 e2 s2 f2 r2 c' s' g2 hρ2
    have a5 := a3 rfl
    subst a5
    have : j1 = j2 := h1.inj j1 j2 e1 s1 r1 e2 s2 f2' r2 b c s c' s' a1 b1 a2 b2
    subst this
    rcases a4 with ⟨a4, rfl⟩ | ⟨a4, k1, n1, rfl, a6⟩
    · rcases b4 with ⟨b4, rfl⟩ | ⟨b4, _⟩
      · rfl
      · exact (a4 b4).elim
    · rcases b4 with ⟨b4, rfl⟩ | ⟨b4, k2, n2, rfl, b6⟩
      · exact (b4 a4).elim
      · rw [soIds_inj hnd a6 b6]
  · rw [← hHD]
    refine fin_adH nm _ _ ?_
    obtain ⟨N, hN⟩ := h0.heap.fin
    exact ⟨N, fun k d hk => by
      have := hN k d hk
      by_cases e : Hb (k, d) = .unborn
      · exact e
      · exact ((hbb (k, d)).1 e this).elim⟩
  · cases res with
    | c x =>
      cases ret with
      | c y =>
        cases hv with
        | c _ _ hx => exact .c _ _ (cellR 0 y x _ rfl rfl hex hx)
      | _ => exact hex.elim
    | g xs =>
      cases ret with
      | g ys =>
        cases hv with
        | g _ vs hl hx =>
          obtain ⟨g1, g2⟩ := exL_get (H := Hf) (cs := xs) (ds := ys) hex
          refine .g _ vs (by rw [adL_len]; omega) fun k c hc => ?_
          rw [adL_at, Option.map_eq_some_iff] at hc
          obtain ⟨d, hd, rfl⟩ := hc
          obtain ⟨c0, hc0, hx0⟩ := g2 k d hd
          rw [Nat.zero_add]
          exact cellR k d c0 _ hd hc0 hx0 (hx k c0 hc0)
      | _ => exact hex.elim
    | t ps =>
      cases ret with
      | t qs =>
        cases hv with
        | t _ vs hl hx =>
          obtain ⟨g1, g2⟩ := exT_get nm (H := Hf) 0 (ps := ps) (qs := qs) hex
          have hlen2 : (adT nm 0 qs).length = qs.length := by
            have : ∀ (qs : List (Bool × List AC)) (k : Nat), (adT nm k qs).length = qs.length := fun qs => by
              induction qs with
              | nil => intro k; rfl
              | cons q r ih => intro k; obtain ⟨b, cs⟩ := q; simp [adT, ih]
            exact this _ _
          refine .t _ vs (by rw [hlen2]; omega) fun j b cs hj => ?_
          have hjl : j < qs.length := by rw [← hlen2]; exact (List.getElem?_eq_some_iff.1 hj).1
          obtain ⟨b0, ds0, hq⟩ : ∃ b0 ds0, qs[j]? = some (b0, ds0) := ⟨(qs[j]).1, (qs[j]).2, by simp [hjl]⟩
          obtain ⟨cs0, k', p1, p2, p3, p4, p5⟩ := g2 j b0 ds0 hq
          rw [hj] at p5
          simp only [Option.some.injEq, Prod.mk.injEq] at p5
          obtain ⟨rfl, rfl⟩ := p5
          have hxx := hx j _ _ p1
          generalize vs.getD j undef = u at hxx
          obtain ⟨l1, l2⟩ := exL_get p2
          rw [Nat.zero_add]
          cases hxx with
          | c x _ hx0 =>
            match ds0, l1 with
            | [d0], _ =>
              obtain ⟨c0, hc0, hx1⟩ := l2 0 d0 rfl
              simp at hc0
              subst hc0
              exact .c _ _ (cellR (k' + 0) d0 x _ (p4 0 d0 rfl) (p3 0 x rfl) hx1 hx0)
          | g _ us hl hu =>
            refine .g _ us (by rw [adL_len]; omega) fun i c hc => ?_
            rw [adL_at, Option.map_eq_some_iff] at hc
            obtain ⟨d, hd, rfl⟩ := hc
            obtain ⟨c0, hc0, hx0⟩ := l2 i d hd
            exact cellR (k' + i) d c0 _ (p4 i d hd) (p3 i c0 hc0) hx0 (hu i c0 hc0)
      | _ => exact hex.elim

end Go.AE

/- The abstract machine: the rule for a call that turns an object that it is handed. -/
set_option linter.unusedVariables false
set_option linter.unusedSimpArgs false
namespace Go.AE
open Go

variable {P : Program}

/-- The callee begins in the caller's heap, at a stamp that is free. -/
def startS (H : Heap) (T : Nat) (args : List AV) : St := { s := fun t => args.getD t (.c (.raw undef)), H := H, T := T }

def finG (P : Program) (fn : Func) (R : AV → Heap → Prop) (e : AEx) (st : St) : Prop :=
  (match e with | .normal | .ret => True | _ => False) ∧ ∃ res, resA P st fn.results.toList = some res ∧ R res st.H

theorem callK_gc {calm : Array Oper → Bool} (hcalm : CalmOK P calm) {f : FuncId} {fn : Func} {c : Code} {st : St} {dst : Option Nat} {args : List AV} {us : List (Id × OK)} {ret : AV} (hf : P.funcs[f]? = some fn) (hb : fn.body = some c)
    (hok : fnOK calm fn args.length = true) (hret : ∀ c ∈ ret.flat, RetC c) (hun : adUn (nmOf st dst) st.H 0 ret.flat) (hub : ∀ q ∈ us, q.2 ≠ .unborn ∧ st.H q.1 ≠ .unborn)
    (hcl : ∀ q ∈ us, ∀ e sz f rows, q.2 = .arr e sz f rows → ∀ r ∈ rows, ∀ c ∈ r, ∀ id, idD id c → st.H id ≠ .unborn)
    (h : ∀ T, Fresh st.H T → awp P c (finG P fn fun res H => exV H res ret ∧ (soIds res.flat).Nodup ∧ (∀ id ∈ soIds res.flat, st.H id = .unborn) ∧ ∀ i, st.H i ≠ .unborn → H i = upH st.H us i) (startS st.H T args)) :
    CallK P st f args fun r H T => r = ret.ad (nmOf st dst) ∧ H = adH (nmOf st dst) 0 ret.flat (upH st.H us) ∧ T = st.T := by
  simp only [fnOK, hb, Bool.and_eq_true, decide_eq_true_eq, bne_iff_ne, ne_eq] at hok
  obtain ⟨⟨hname, hcode⟩, hle⟩ := hok
  refine ⟨by simp [okCall, hf, hb, hname], fun C ρ a w vs hr hsz hargs => ?_⟩
  obtain ⟨N, hN⟩ := hr.heap.fin
  let X : World → (Tag → Nat → Prop) → Heap → Lies → Prop := fun w' F' H' ρ' => Keeps w w' (Fr C st.H ρ) F' st.H H' ρ ρ'
  let C' : Ctx P := ⟨C.w0, C.hI, C.G, X, fun k q => q.trans k⟩
  have h0 : Rel C' ρ (startS st.H N args) { tmps := vs ++ Array.replicate (fn.ntmps - vs.size) undef, defers := [] } w := by
    refine ⟨hr.heap.ctx X _, fun t => ?_, rfl, Keeps.refl _ _ _ _⟩
    simp only [startS]
    by_cases ht : t < args.length
    · have h1 : args[t]? = some (args.getD t (.c (.raw undef))) := by simp [ht]
      have h2 : (vs ++ Array.replicate (fn.ntmps - vs.size) undef).getD t undef = vs.getD t undef := by
        simp [Array.getD_eq_getD_getElem?, Array.getElem?_append, show t < vs.size by omega]
      rw [h2]; exact hargs t _ h1
    · have h1 : args.getD t (.c (.raw undef)) = .c (.raw undef) := by simp [List.getD, List.getElem?_eq_none (Nat.le_of_not_lt ht)]
      have h2 : (vs ++ Array.replicate (fn.ntmps - vs.size) undef).getD t undef = undef := by
        simp only [Array.getD_eq_getD_getElem?, Array.getElem?_append, show ¬ t < vs.size by omega, if_false, Array.getElem?_replicate]
        split <;> rfl
      rw [h1, h2]; exact .c _ _ (.raw _)
  refine calls_of_wp hf hb (Code.wp_mono (fun e a' w' q => ?_) (awp_sound calm hcalm c fn.ntmps _ ρ (startS st.H N args) _ w hcode (by simp; omega) h0 (h N hN)))
  have fin : SemK C' fn.ntmps (fun st' => ∃ res, resA P st' fn.results.toList = some res ∧ exV st'.H res ret ∧ (soIds res.flat).Nodup ∧ (∀ id ∈ soIds res.flat, st.H id = .unborn) ∧ ∀ i, st.H i ≠ .unborn → st'.H i = upH st.H us i) a' w' →
      a'.defers = [] ∧ ∃ v, (results fn a'.tmps).run P w' = .ok v w' ∧ (∃ v', Ending.returned v = .returned v' ∧ ∃ ρ' r H' T', Rel C ρ' (st.back H' T') a w' ∧ RelV w' (Fr C H' ρ') H' ρ' r v' ∧
        r = ret.ad (nmOf st dst) ∧ H' = adH (nmOf st dst) 0 ret.flat (upH st.H us) ∧ T' = st.T) :=
    fun ⟨_, ρ', st', hr', res, g1, g2, g3, g4, g5⟩ => by
      obtain ⟨v, h1, h2⟩ := resA_sound hr' g1
      obtain ⟨ρ2, k1, k2⟩ := gc hr (hr'.heap.unctx) hr'.ghost h2 hret g2 g3 g4 (nmOf st dst) (nmOf_inj st dst) hun g5 hub hcl
      exact ⟨hr'.nodef, v, h1, v, rfl, ρ2, _, _, _, k1, k2, rfl, rfl, rfl⟩
  cases e with
  | normal => exact fin (SemK.mono q fun st hs => hs.2)
  | ret => exact fin (SemK.mono q fun st hs => hs.2)
  | exit id =>
    obtain ⟨_, _, _, _, hs⟩ := q
    exact hs.1.elim
  | _ => exact q.elim

/-- A call that turns one object, handed over by its pointer ahead of other values. -/
def mh1 (e sz : Nat) (g : List AC → List AV → Option (Prop × List AC × AV)) : MH := fun H args =>
  match args with
  | .c (.pt id 0 0) :: rest => match H id with
    | .arr e' sz' false [row] => if e' = e ∧ sz' = sz then (g row rest).map fun r => (r.1, [(id, .arr e sz false [r.2.1])], r.2.2) else none
    | _ => none
  | _ => none

def mhAt (e sz : Nat) (g : List AC → List AV → Option (Prop × List AC × AV)) (id : Id) (rest : List AV) (o : OK) : Option (Prop × List (Id × OK) × AV) :=
  match o with
  | .arr e' sz' false [row] => if e' = e ∧ sz' = sz then (g row rest).map fun r => (r.1, [(id, .arr e sz false [r.2.1])], r.2.2) else none
  | _ => none
@[simp] theorem mh1_go {e sz : Nat} {g : List AC → List AV → Option (Prop × List AC × AV)} {H : Heap} {id : Id} {rest : List AV} : mh1 e sz g H (.c (.pt id 0 0) :: rest) = mhAt e sz g id rest (H id) := rfl
@[simp] theorem mhAt_go {e sz : Nat} {g : List AC → List AV → Option (Prop × List AC × AV)} {id : Id} {rest : List AV} {row : List AC} : mhAt e sz g id rest (.arr e sz false [row]) = (g row rest).map fun r => (r.1, [(id, .arr e sz false [r.2.1])], r.2.2) := by simp [mhAt]

theorem mh1_inv {e sz : Nat} {g : List AC → List AV → Option (Prop × List AC × AV)} {H : Heap} {args : List AV} {r} (h : mh1 e sz g H args = some r) :
    ∃ id rest row q, args = .c (.pt id 0 0) :: rest ∧ H id = .arr e sz false [row] ∧ g row rest = some q ∧ r = (q.1, [(id, .arr e sz false [q.2.1])], q.2.2) := by
  unfold mh1 at h
  split at h
  · rename_i id rest
    split at h
    · rename_i e' sz' row hid
      split at h
      · rename_i he
        obtain ⟨rfl, rfl⟩ := he
        rw [Option.map_eq_some_iff] at h
        obtain ⟨q, hq, rfl⟩ := h
        exact ⟨id, rest, row, q, rfl, hid, hq, rfl⟩
      · cases h
    · cases h
  · cases h

/-- THE RULE FOR A CALL THAT TURNS ONE OBJECT. -/
theorem mtells1 (hm : P.follows .mixedOrders = true) {F : CT} (hF : CTok P F) {f : FuncId} {fn : Func} {s : SC} {e sz : Nat} {g : List AC → List AV → Option (Prop × List AC × AV)} (hf : P.funcs[f]? = some fn) (hs : slimK fn.body s = some (unK s, true))
    (hok : fnOK calmB fn 0 = true)
    (hlo : ∀ row rest q, g row rest = some q → Nat.ble (rest.length + 1) fn.ntmps = true ∧ (∀ c ∈ q.2.2.flat, RetC c) ∧ (∀ c ∈ q.2.1, ∀ id, ¬ idD id c))
    (h : ∀ (H : Heap) (T : Nat) (id : Id) row rest q, H id = .arr e sz false [row] → Fresh H T → g row rest = some q → q.1 →
      awpS P F s (finG P fn fun res H' => exV H' res q.2.2 ∧ (soIds res.flat).Nodup ∧ (∀ i ∈ soIds res.flat, H i = .unborn) ∧ SameBut [id] H H' ∧ H' id = .arr e sz false [q.2.1]) (startS H T (.c (.pt id 0 0) :: rest))) :
    MTells P f (mh1 e sz g) := by
  refine ⟨fun {H H' args r} hr hH => ?_, fun {H args C us ret} hr => ?_, fun {st dst args C us ret} hr hC hun => ?_⟩
  · obtain ⟨id, rest, row, q, rfl, h2, h3, rfl⟩ := mh1_inv hr
    have h4 : H' id = .arr e sz false [row] := by rw [hH id ⟨_, List.mem_cons_self, by simp⟩ (by rw [h2]; simp), h2]
    simp [h4, h3]
  · obtain ⟨id, rest, row, q, rfl, h2, h3, h4⟩ := mh1_inv hr
    simp only [Prod.mk.injEq] at h4
    obtain ⟨_, rfl, _⟩ := h4
    intro p hp
    simp only [List.mem_singleton] at hp
    subst hp
    exact ⟨by simp, by rw [h2]; simp, _, List.mem_cons_self, by simp⟩
  · obtain ⟨id, rest, row, q, rfl, h2, h3, h4⟩ := mh1_inv hr
    simp only [Prod.mk.injEq] at h4
    obtain ⟨rfl, rfl, rfl⟩ := h4
    obtain ⟨l1, l2, l3⟩ := hlo row rest q h3
    cases hb : fn.body with
    | none => rw [hb] at hs; cases hs
    | some c =>
      rw [hb] at hs
      simp only [slimK, Option.map_some, Option.some.injEq, Prod.mk.injEq] at hs
      refine callK_gc (calm_ok hm) hf hb ?_ l2 hun (fun p hp => ?_) (fun p hp e' sz' f' rows he r hr c hc id' hid' => ?_) fun T hT => ?_
      · simp only [fnOK, hb, Bool.and_eq_true] at hok ⊢
        exact ⟨hok.1, by simpa using Nat.le_of_ble_eq_true l1⟩
      · simp only [List.mem_singleton] at hp
        subst hp
        exact ⟨by simp, by rw [h2]; simp⟩
      · simp only [List.mem_singleton] at hp
        subst hp
        cases he
        simp only [List.mem_singleton] at hr
        subst hr
        exact (l3 c hc id' hid').elim
      · refine awp_mono (fun e st' hq => ?_) (awpS_sound hF hs.1 hs.2 (h st.H T id row rest q h2 hT h3 hC))
        obtain ⟨q1, res, q2, q3, q4, q5, q6, q7⟩ := hq
        refine ⟨q1, res, q2, q3, q4, q5, fun i hi => ?_⟩
        simp only [upH]
        by_cases hid : i = id
        · subst hid; simp [hset, q7]
        · simp only [hset, if_neg hid]
          exact q6 i hi (by simpa using hid)

section
variable {st : St} {H : Heap} {T : Nat} {args : List AV} {k : Nat}
@[simp] theorem startS_s : (startS H T args).s k = args.getD k (.c (.raw undef)) := rfl
@[simp] theorem startS_H : (startS H T args).H = H := rfl
@[simp] theorem startS_T : (startS H T args).T = T := rfl
@[simp] theorem finG_ret {fn : Func} {R : AV → Heap → Prop} : finG P fn R .ret st = ∃ res, resA P st fn.results.toList = some res ∧ R res st.H := by simp [finG]
@[simp] theorem finG_normal {fn : Func} {R : AV → Heap → Prop} : finG P fn R .normal st = ∃ res, resA P st fn.results.toList = some res ∧ R res st.H := by simp [finG]
end
@[simp] theorem idD_raw {id : Id} {v : Value} : idD id (.raw v) ↔ False := ⟨(fun h => nomatch h), (fun h => h.elim)⟩
@[simp] theorem idD_str {id : Id} {l : List UInt8} : idD id (.str l) ↔ False := ⟨(fun h => nomatch h), (fun h => h.elim)⟩
theorem RetOK.noD {c : AC} (h : RetOK c) {id : Id} : ¬ idD id c := by
  induction h with
  | raw v => simp
  | str l => simp
  | sl t cl xs ht h ih =>
    intro hi
    cases hi with
    | sl _ _ _ r c hr hc hi => exact ih r hr c hc hi
@[simp] theorem idD_rows {α : Type} [Enc α] {id : Id} {t : Tag} {cl : Bool} {l : List α} : idD id (.sl t cl (rowsE l)) ↔ False := by
  refine ⟨fun h => ?_, fun h => h.elim⟩
  cases h with
  | sl _ _ _ r c hr hc h =>
    simp only [rowsE, List.mem_map] at hr
    obtain ⟨a, _, rfl⟩ := hr
    exact (Enc.ret a c hc).noD h
theorem SameBut.ext {S : List Id} {H0 H : Heap} {T0 T : Nat} (h : ExtH S H0 T0 H T) : SameBut S H0 H := h.1

end Go.AE

/- Numbers and frames as bytes: plain functions. No program in sight. -/
set_option linter.unusedVariables false
namespace Go.AE
open Go

/-- A number's bytes. -/
def bytesF : Nat → Nat → List UInt8
  | 0, n => [UInt8.ofNat n]
  | k + 1, n => if n < 128 then [UInt8.ofNat n] else UInt8.ofNat (n % 128 + 128) :: bytesF k (n / 128)
def bytesN (n : Nat) : List UInt8 := bytesF 9 n

/-- The number at the begin of bytes, and what is behind. -/
def takeF : Nat → Nat → Nat → List UInt8 → Option (Nat × List UInt8)
  | 0, _, _, _ => none
  | _ + 1, _, _, [] => none
  | k + 1, m, acc, b :: s =>
    if 128 ≤ b.toNat then takeF k (m * 128) (acc + (b.toNat % 128) * m) s
    else if 268435456 < acc + (b.toNat % 128) * m ∨ (1 < m ∧ b.toNat = 0) then none else some (acc + (b.toNat % 128) * m, s)
def takeN (s : List UInt8) : Option (Nat × List UInt8) := takeF 5 1 0 s
/-- As it is told: the number, what is behind, the error. -/
def takeR (s : List UInt8) : Nat × List UInt8 × Int := match takeN s with | some (n, r) => (n, r, 0) | none => (0, [], 7)
def takeTextR (s : List UInt8) : List UInt8 × List UInt8 × Int :=
  match takeN s with
  | some (n, r) => if n ≤ r.length then (r.take n, r.drop n, 0) else ([], [], 7)
  | none => ([], [], 7)

/-- A check. -/
def ofF : Nat → List UInt8 → Nat
  | h, [] => h
  | h, b :: s => ofF ((h * 263 + b.toNat + 7) % 4294967291) s
def ofN (s : List UInt8) : Nat := ofF 1 s
def speltN (h : Nat) : List UInt8 := [UInt8.ofNat (h / 16777216), UInt8.ofNat (h / 65536), UInt8.ofNat (h / 256), UInt8.ofNat h]
/-- A frame. -/
def sealA (s : List UInt8) : List UInt8 := if 700 < s.length then [] else bytesN s.length ++ speltN (ofN (bytesN s.length ++ s)) ++ s
def sealT (s : List UInt8) : Option (List UInt8 × List UInt8) :=
  match takeN s with
  | some (n, r) => if 700 < n ∨ r.length < n + 4 then none else
    if r.take 4 = speltN (ofN (s.take (s.length - r.length) ++ (r.take (4 + n)).drop 4)) then some ((r.take (4 + n)).drop 4, r.drop (4 + n)) else none
  | none => none

/-! ### Bytes in rows -/
instance encU8 : Enc UInt8 where
  w := 1
  row b := [.raw (.int .u8 b.toNat)]
  dec | [.raw (.int .u8 n)] => if 0 ≤ n ∧ n < 256 then some (UInt8.ofNat n.toNat) else none | _ => none
  dec_row a := by
    have := a.toNat_lt
    simp
    omega
  row_dec {r a} h := by
    split at h
    · split at h
      · rename_i n hn
        cases h
        simp
        omega
      · cases h
    · cases h
  len _ := rfl
  old a c hc := by simp at hc; subst hc; exact .raw _
  ret a c hc := by simp at hc; subst hc; exact .raw _
@[simp] theorem row_U8 (b : UInt8) : Enc.row b = [AC.raw (.int .u8 b.toNat)] := rfl
@[simp] theorem w_U8 : Enc.w UInt8 = 1 := rfl

theorem bytesAC_snoc : ∀ (l : List UInt8) (v : Int), bytesAC (rowsE l ++ [[.raw (.int .u8 v)]]) = some (l ++ [UInt8.ofNat v.toNat])
  | [], v => rfl
  | b :: l, v => by
    show ((bytesAC (rowsE l ++ [[.raw (.int .u8 v)]])).map fun x => UInt8.ofNat ((b.toNat : Int)).toNat :: x) = _
    rw [bytesAC_snoc l v]
    simp
theorem bytesAC_rowsU : ∀ (l : List UInt8), bytesAC (rowsE l) = some l
  | [] => rfl
  | b :: l => by
    show ((bytesAC (rowsE l)).map fun x => UInt8.ofNat ((b.toNat : Int)).toNat :: x) = _
    rw [bytesAC_rowsU l]
    simp
theorem rowsU8_snoc (l : List UInt8) (v : Int) (h0 : 0 ≤ v) (h1 : v < 256) : rowsE l ++ [[.raw (.int .u8 v)]] = rowsE (l ++ [UInt8.ofNat v.toNat]) := by
  rw [← rowsE_snoc]
  congr 1
  simp
  omega
theorem rowsU8_one (v : Int) (h0 : 0 ≤ v) (h1 : v < 256) : [[AC.raw (.int .u8 v)]] = rowsE [UInt8.ofNat v.toNat] := by
  have := rowsU8_snoc [] v h0 h1
  simpa using this
attribute [simp] bytesAC_snoc bytesAC_rowsU

theorem wrap8_id {n : Int} (h1 : 0 ≤ n) (h2 : n ≤ 255) : IntKind.wrap .u8 n = n := by
  simp [IntKind.wrap, IntKind.bits, IntKind.signed]
  omega
theorem wrap8_mod {n : Int} (h1 : 0 ≤ n) : IntKind.wrap .u8 n = n % 256 := by
  simp [IntKind.wrap, IntKind.bits, IntKind.signed]
theorem wrap32_mod {n : Int} : IntKind.wrap .u32 n = n % 4294967296 := by
  simp [IntKind.wrap, IntKind.bits, IntKind.signed]
theorem wrap64u_mod {n : Int} : IntKind.wrap .u64 n = n % 18446744073709551616 := by
  simp [IntKind.wrap, IntKind.bits, IntKind.signed]

end Go.AE

/- The functions' code without its remarks. Printed by a program of this session. -/
set_option maxRecDepth 100000
namespace Go.AE
open Go Go.Proofs

def s3L0 : SC := (((SC.region 5 [⟨some 31, .fieldAddr 40 (.tmp 3) 5, none⟩,
  ⟨some 32, .load 23 (.tmp 31), none⟩,
  ⟨some 33, .call { callee := .builtin .len, args := #[.tmp 32], argTypes := #[23] }, none⟩,
  ⟨some 34, .move (.tmp 4), none⟩,
  ⟨some 35, .binOp .lss 3 (.tmp 33) (.tmp 34) 3, none⟩] false).seq (SC.cond (.tmp 35) SC.skip (SC.exit 2))).seq (SC.block 3 (SC.region 6 [⟨some 36, .fieldAddr 40 (.tmp 3) 5, none⟩,
  ⟨some 37, .load 23 (.tmp 36), none⟩,
  ⟨some 38, .fieldAddr 40 (.tmp 3) 5, none⟩,
  ⟨some 39, .load 23 (.tmp 38), none⟩,
  ⟨some 40, .call { callee := .builtin .len, args := #[.tmp 39], argTypes := #[23] }, none⟩,
  ⟨some 41, .binOp .add 3 (.const (.int .i64 1)) (.tmp 40) 3, none⟩,
  ⟨some 42, .build 38 #[(0, .const (.int .i64 2)), (1, .tmp 41)], none⟩,
  ⟨some 43, .buildSlice 23 1 #[(0, .tmp 42)], none⟩,
  ⟨some 44, .call { callee := .builtin .append, args := #[.tmp 37, .tmp 43], argTypes := #[23, 23] }, none⟩,
  ⟨some 45, .fieldAddr 40 (.tmp 3) 5, none⟩,
  ⟨none, .store 23 (.tmp 45) (.tmp 44), none⟩] false)))
def s3L1 : SC := (((SC.region 17 [⟨some 139, .move (.tmp 16), none⟩,
  ⟨some 140, .move (.tmp 10), none⟩,
  ⟨some 141, .binOp .lss 3 (.tmp 139) (.tmp 140) 3, none⟩] false).seq (SC.cond (.tmp 141) SC.skip (SC.exit 4))).seq ((SC.block 5 (((SC.region 19 [⟨some 144, .fieldAddr 30 (.tmp 9) 0, none⟩,
  ⟨some 145, .load 27 (.tmp 144), none⟩,
  ⟨some 146, .move (.tmp 16), none⟩,
  ⟨some 147, .indexAddr 27 (.tmp 145) (.tmp 146), none⟩,
  ⟨some 148, .load 9 (.tmp 147), none⟩,
  ⟨some 149, .call { callee := .value (.func 13), args := #[], argTypes := #[] }, none⟩,
  ⟨some 150, .binOp .eql 9 (.tmp 148) (.tmp 149) 9, none⟩] true).seq (SC.cond (.tmp 150) (SC.exit 5) SC.skip)).seq ((SC.region 20 [⟨some 151, .load 30 (.tmp 9), none⟩,
  ⟨some 152, .call { callee := .value (.func 14), args := #[.tmp 151], argTypes := #[30] }, none⟩,
  ⟨some 17, .alloc 30, none⟩,
  ⟨none, .store 30 (.tmp 17) (.tmp 152), none⟩] false).seq ((SC.region 21 [⟨some 153, .fieldAddr 30 (.tmp 17) 0, none⟩,
  ⟨some 154, .load 27 (.tmp 153), none⟩,
  ⟨some 155, .move (.tmp 16), none⟩,
  ⟨some 156, .call { callee := .value (.func 13), args := #[], argTypes := #[] }, none⟩,
  ⟨some 157, .indexAddr 27 (.tmp 154) (.tmp 155), none⟩,
  ⟨none, .store 9 (.tmp 157) (.tmp 156), none⟩] true).seq ((SC.region 22 [⟨some 159, .load 30 (.tmp 17), none⟩,
  ⟨some 160, .call { callee := .value (.func 10), args := #[.tmp 159], argTypes := #[30] }, none⟩,
  ⟨some 158, .move (.tmp 160), none⟩,
  ⟨some 161, .extract (.tmp 158) 0, none⟩,
  ⟨some 162, .extract (.tmp 158) 1, none⟩,
  ⟨some 163, .extract (.tmp 158) 2, none⟩,
  ⟨some 18, .assign (.tmp 161), none⟩,
  ⟨some 19, .assign (.tmp 162), none⟩,
  ⟨some 20, .assign (.tmp 163), none⟩] false).seq ((SC.region 23 [⟨some 164, .move (.tmp 20), none⟩,
  ⟨some 165, .call { callee := .value (.func 6), args := #[.tmp 164], argTypes := #[41] }, none⟩,
  ⟨some 166, .binOp .neq 3 (.tmp 165) (.const (.int .i64 0)) 3, none⟩,
  ⟨some 167, .move (.tmp 166), none⟩,
  ⟨some 168, .move (.tmp 18), some (some 167, false)⟩,
  ⟨some 169, .call { callee := .builtin .len, args := #[.tmp 168], argTypes := #[34] }, some (some 167, false)⟩,
  ⟨some 170, .binOp .neq 3 (.tmp 169) (.const (.int .i64 0)) 3, some (some 167, false)⟩,
  ⟨some 171, .pick (.tmp 167) (.const (.bool true)) (.tmp 170), none⟩,
  ⟨some 172, .move (.tmp 171), none⟩,
  ⟨some 173, .move (.tmp 19), some (some 172, false)⟩,
  ⟨some 174, .binOp .neq 3 (.tmp 173) (.const (.int .i64 0)) 3, some (some 172, false)⟩,
  ⟨some 175, .pick (.tmp 172) (.const (.bool true)) (.tmp 174), none⟩] false).seq (SC.cond (.tmp 175) ((SC.region 24 [⟨some 2, .assign (.const (.bool false)), none⟩] false).seq SC.ret) SC.skip))))))).seq (SC.region 18 [⟨some 142, .move (.tmp 16), none⟩,
  ⟨some 143, .binOp .add 3 (.tmp 142) (.const (.int .i64 1)) 3, none⟩,
  ⟨some 16, .assign (.tmp 143), none⟩] false)))
def s3L2 : SC := (((SC.region 3 [⟨some 22, .move (.tmp 4), none⟩,
  ⟨some 23, .binOp .lss 3 (.tmp 22) (.const (.int .i64 60)) 3, none⟩] false).seq (SC.cond (.tmp 23) SC.skip (SC.exit 0))).seq ((SC.block 1 ((SC.block 2 (SC.loop s3L0)).seq ((SC.region 7 [⟨some 47, .load 40 (.tmp 3), none⟩,
  ⟨some 48, .build 45 #[(2, .tmp 47)], none⟩,
  ⟨some 49, .call { callee := .value (.func 4), args := #[.tmp 48], argTypes := #[45] }, none⟩,
  ⟨some 46, .move (.tmp 49), none⟩,
  ⟨some 50, .extract (.tmp 46) 0, none⟩,
  ⟨some 51, .extract (.tmp 46) 1, none⟩,
  ⟨some 5, .assign (.tmp 50), none⟩,
  ⟨some 6, .assign (.tmp 51), none⟩] false).seq ((SC.region 8 [⟨some 53, .load 40 (.tmp 3), none⟩,
  ⟨some 54, .build 45 #[(2, .tmp 53)], none⟩,
  ⟨some 55, .call { callee := .value (.func 5), args := #[.tmp 54], argTypes := #[45] }, none⟩,
  ⟨some 52, .move (.tmp 55), none⟩,
  ⟨some 56, .extract (.tmp 52) 0, none⟩,
  ⟨some 57, .extract (.tmp 52) 1, none⟩,
  ⟨some 7, .assign (.tmp 56), none⟩,
  ⟨some 8, .assign (.tmp 57), none⟩] false).seq (((SC.region 9 [⟨some 58, .move (.tmp 8), none⟩,
  ⟨some 59, .unOp .not 4 (.tmp 58), none⟩,
  ⟨some 60, .move (.tmp 59), none⟩,
  ⟨some 61, .move (.tmp 6), some (some 60, false)⟩,
  ⟨some 62, .call { callee := .value (.func 6), args := #[.tmp 61], argTypes := #[41] }, some (some 60, false)⟩,
  ⟨some 63, .binOp .neq 3 (.tmp 62) (.const (.int .i64 0)) 3, some (some 60, false)⟩,
  ⟨some 64, .pick (.tmp 60) (.const (.bool true)) (.tmp 63), none⟩,
  ⟨some 65, .move (.tmp 64), none⟩,
  ⟨some 66, .move (.tmp 5), some (some 65, false)⟩,
  ⟨some 67, .move (.tmp 7), some (some 65, false)⟩,
  ⟨some 68, .binOp .neq 9 (.tmp 66) (.tmp 67) 9, some (some 65, false)⟩,
  ⟨some 69, .pick (.tmp 65) (.const (.bool true)) (.tmp 68), none⟩,
  ⟨some 70, .move (.tmp 69), none⟩,
  ⟨some 71, .move (.tmp 5), some (some 70, false)⟩,
  ⟨some 72, .call { callee := .builtin .len, args := #[.tmp 71], argTypes := #[9] }, some (some 70, false)⟩,
  ⟨some 73, .binOp .rem 3 (.tmp 72) (.const (.int .i64 32)) 3, some (some 70, false)⟩,
  ⟨some 74, .binOp .neq 3 (.tmp 73) (.const (.int .i64 0)) 3, some (some 70, false)⟩,
  ⟨some 75, .pick (.tmp 70) (.const (.bool true)) (.tmp 74), none⟩] false).seq (SC.cond (.tmp 75) ((SC.region 10 [⟨some 2, .assign (.const (.bool false)), none⟩] false).seq SC.ret) SC.skip)).seq ((SC.region 11 [⟨some 77, .call { callee := .value (.func 8), args := #[.const (.int .i64 30)], argTypes := #[3] }, none⟩,
  ⟨some 78, .load 40 (.tmp 3), none⟩,
  ⟨some 79, .build 45 #[(2, .tmp 78)], none⟩,
  ⟨some 80, .call { callee := .value (.func 7), args := #[.tmp 77, .const (.int .i64 0), .tmp 79], argTypes := #[30, 3, 45] }, none⟩,
  ⟨some 76, .move (.tmp 80), none⟩,
  ⟨some 81, .extract (.tmp 76) 0, none⟩,
  ⟨some 82, .extract (.tmp 76) 1, none⟩,
  ⟨some 83, .extract (.tmp 76) 2, none⟩,
  ⟨some 9, .alloc 30, none⟩,
  ⟨none, .store 30 (.tmp 9) (.tmp 81), none⟩,
  ⟨some 10, .assign (.tmp 82), none⟩,
  ⟨some 11, .assign (.tmp 83), none⟩] true).seq ((SC.region 12 [⟨some 85, .load 30 (.tmp 9), none⟩,
  ⟨some 86, .call { callee := .value (.func 9), args := #[.tmp 85], argTypes := #[30] }, none⟩,
  ⟨some 84, .move (.tmp 86), none⟩,
  ⟨some 87, .extract (.tmp 84) 0, none⟩,
  ⟨some 88, .extract (.tmp 84) 1, none⟩,
  ⟨none, .store 30 (.tmp 9) (.tmp 87), none⟩,
  ⟨some 12, .assign (.tmp 88), none⟩] false).seq ((SC.region 13 [⟨some 90, .load 30 (.tmp 9), none⟩,
  ⟨some 91, .call { callee := .value (.func 10), args := #[.tmp 90], argTypes := #[30] }, none⟩,
  ⟨some 89, .move (.tmp 91), none⟩,
  ⟨some 92, .extract (.tmp 89) 0, none⟩,
  ⟨some 93, .extract (.tmp 89) 1, none⟩,
  ⟨some 94, .extract (.tmp 89) 2, none⟩,
  ⟨some 13, .assign (.tmp 92), none⟩,
  ⟨some 14, .assign (.tmp 93), none⟩,
  ⟨some 15, .assign (.tmp 94), none⟩] false).seq (((SC.region 14 [⟨some 95, .move (.tmp 11), none⟩,
  ⟨some 96, .call { callee := .value (.func 6), args := #[.tmp 95], argTypes := #[41] }, none⟩,
  ⟨some 97, .binOp .neq 3 (.tmp 96) (.const (.int .i64 0)) 3, none⟩,
  ⟨some 98, .move (.tmp 97), none⟩,
  ⟨some 99, .move (.tmp 12), some (some 98, false)⟩,
  ⟨some 100, .call { callee := .value (.func 6), args := #[.tmp 99], argTypes := #[41] }, some (some 98, false)⟩,
  ⟨some 101, .binOp .neq 3 (.tmp 100) (.const (.int .i64 0)) 3, some (some 98, false)⟩,
  ⟨some 102, .pick (.tmp 98) (.const (.bool true)) (.tmp 101), none⟩,
  ⟨some 103, .move (.tmp 102), none⟩,
  ⟨some 104, .move (.tmp 15), some (some 103, false)⟩,
  ⟨some 105, .call { callee := .value (.func 6), args := #[.tmp 104], argTypes := #[41] }, some (some 103, false)⟩,
  ⟨some 106, .binOp .neq 3 (.tmp 105) (.const (.int .i64 0)) 3, some (some 103, false)⟩,
  ⟨some 107, .pick (.tmp 103) (.const (.bool true)) (.tmp 106), none⟩,
  ⟨some 108, .move (.tmp 107), none⟩,
  ⟨some 109, .move (.tmp 10), some (some 108, false)⟩,
  ⟨some 110, .move (.tmp 5), some (some 108, false)⟩,
  ⟨some 111, .call { callee := .builtin .len, args := #[.tmp 110], argTypes := #[9] }, some (some 108, false)⟩,
  ⟨some 112, .binOp .quo 3 (.tmp 111) (.const (.int .i64 32)) 3, some (some 108, false)⟩,
  ⟨some 113, .binOp .neq 3 (.tmp 109) (.tmp 112) 3, some (some 108, false)⟩,
  ⟨some 114, .pick (.tmp 108) (.const (.bool true)) (.tmp 113), none⟩,
  ⟨some 115, .move (.tmp 114), none⟩,
  ⟨some 116, .move (.tmp 14), some (some 115, false)⟩,
  ⟨some 117, .move (.tmp 10), some (some 115, false)⟩,
  ⟨some 118, .binOp .neq 3 (.tmp 116) (.tmp 117) 3, some (some 115, false)⟩,
  ⟨some 119, .pick (.tmp 115) (.const (.bool true)) (.tmp 118), none⟩,
  ⟨some 120, .move (.tmp 119), none⟩,
  ⟨some 121, .move (.tmp 13), some (some 120, false)⟩,
  ⟨some 122, .call { callee := .builtin .len, args := #[.tmp 121], argTypes := #[34] }, some (some 120, false)⟩,
  ⟨some 123, .binOp .neq 3 (.tmp 122) (.const (.int .i64 1)) 3, some (some 120, false)⟩,
  ⟨some 124, .pick (.tmp 120) (.const (.bool true)) (.tmp 123), none⟩,
  ⟨some 125, .move (.tmp 124), none⟩,
  ⟨some 126, .move (.tmp 13), some (some 125, false)⟩,
  ⟨some 127, .indexAddr 34 (.tmp 126) (.const (.int .i64 0)), some (some 125, false)⟩,
  ⟨some 128, .fieldAddr 45 (.tmp 127) 2, some (some 125, false)⟩,
  ⟨some 129, .load 40 (.tmp 128), some (some 125, false)⟩,
  ⟨some 130, .load 40 (.tmp 3), some (some 125, false)⟩,
  ⟨some 131, .call { callee := .value (.func 11), args := #[.tmp 129, .tmp 130], argTypes := #[40, 40] }, some (some 125, false)⟩,
  ⟨some 132, .unOp .not 4 (.tmp 131), some (some 125, false)⟩,
  ⟨some 133, .pick (.tmp 125) (.const (.bool true)) (.tmp 132), none⟩,
  ⟨some 134, .move (.tmp 133), none⟩,
  ⟨some 135, .load 30 (.tmp 9), some (some 134, false)⟩,
  ⟨some 136, .call { callee := .value (.func 12), args := #[.tmp 135], argTypes := #[30] }, some (some 134, false)⟩,
  ⟨some 137, .unOp .not 4 (.tmp 136), some (some 134, false)⟩,
  ⟨some 138, .pick (.tmp 134) (.const (.bool true)) (.tmp 137), none⟩] true).seq (SC.cond (.tmp 138) ((SC.region 15 [⟨some 2, .assign (.const (.bool false)), none⟩] false).seq SC.ret) SC.skip)).seq ((SC.region 16 [⟨some 16, .assign (.const (.int .i64 0)), none⟩] false).seq (SC.block 4 (SC.loop s3L1)))))))))))).seq (SC.region 4 [⟨some 24, .move (.tmp 4), none⟩,
  ⟨some 25, .binOp .add 3 (.tmp 24) (.const (.int .i64 1)) 3, none⟩,
  ⟨some 26, .fieldAddr 36 (.tmp 1) 3, none⟩,
  ⟨some 27, .load 24 (.tmp 26), none⟩,
  ⟨some 28, .call { callee := .builtin .len, args := #[.tmp 27], argTypes := #[24] }, none⟩,
  ⟨some 29, .binOp .rem 3 (.tmp 28) (.const (.int .i64 4)) 3, none⟩,
  ⟨some 30, .binOp .add 3 (.tmp 25) (.tmp 29) 3, none⟩,
  ⟨some 4, .assign (.tmp 30), none⟩] false)))
/-- lectionarylaw15.StoreLong -/
def s3 : SC := ((SC.region 0 [⟨some 1, .box 36 (.tmp 0), none⟩,
  ⟨some 2, .assign (.const (.bool false)), none⟩] false).seq ((SC.region 1 [⟨some 21, .build 40 #[(0, .const (.int .i64 1)), (1, .const (.int .i64 1)), (2, .const (.int .i64 1)), (4, .const (.string { data := #[97, 98] }))], none⟩,
  ⟨some 3, .alloc 40, none⟩,
  ⟨none, .store 40 (.tmp 3) (.tmp 21), none⟩] false).seq (((SC.region 2 [⟨some 4, .assign (.const (.int .i64 0)), none⟩] false).seq (SC.block 0 (SC.loop s3L2))).seq ((SC.region 25 [⟨some 176, .call { callee := .value (.func 15), args := #[], argTypes := #[] }, none⟩,
  ⟨some 2, .assign (.tmp 176), none⟩] false).seq SC.ret))))
theorem sl3 : slimK Tryz.f3.body s3 = some (unK s3, true) := by kernel_rfl
theorem ok3 : fnOK calmB Tryz.f3 0 = true := by kernel_rfl

/-- store.Bytes -/
def s4 : SC := ((SC.region 0 [⟨some 1, .box 45 (.tmp 0), none⟩,
  ⟨some 2, .assign (.const (.string { data := #[] })), none⟩,
  ⟨some 3, .assign (.const (.int .i64 0)), none⟩] false).seq (((SC.region 1 [⟨some 4, .load 45 (.tmp 1), none⟩,
  ⟨some 5, .call { callee := .value (.func 16), args := #[.tmp 4], argTypes := #[45] }, none⟩,
  ⟨some 6, .unOp .not 4 (.tmp 5), none⟩] false).seq (SC.cond (.tmp 6) ((SC.region 2 [⟨some 2, .assign (.const (.string { data := #[] })), none⟩,
  ⟨some 3, .assign (.const (.int .i64 1)), none⟩] false).seq SC.ret) SC.skip)).seq ((SC.region 3 [⟨some 7, .load 45 (.tmp 1), none⟩,
  ⟨some 8, .call { callee := .value (.func 17), args := #[.tmp 7], argTypes := #[45] }, none⟩,
  ⟨some 9, .extract (.tmp 8) 0, none⟩,
  ⟨some 10, .extract (.tmp 8) 1, none⟩,
  ⟨some 2, .assign (.tmp 9), none⟩,
  ⟨some 3, .assign (.tmp 10), none⟩] false).seq SC.ret)))
theorem sl4 : slimK Tryz.f4.body s4 = some (unK s4, true) := by kernel_rfl
theorem ok4 : fnOK calmB Tryz.f4 0 = true := by kernel_rfl

/-- lectionaryref14.Bytes -/
def s5 : SC := ((SC.region 0 [⟨some 1, .box 45 (.tmp 0), none⟩,
  ⟨some 2, .assign (.const (.string { data := #[] })), none⟩,
  ⟨some 3, .assign (.const (.bool false)), none⟩] false).seq ((SC.region 1 [⟨some 7, .load 45 (.tmp 1), none⟩,
  ⟨some 8, .call { callee := .value (.func 18), args := #[.tmp 7], argTypes := #[45] }, none⟩,
  ⟨some 4, .assign (.tmp 8), none⟩] false).seq (((SC.region 2 [⟨some 9, .move (.tmp 4), none⟩,
  ⟨some 10, .call { callee := .builtin .len, args := #[.tmp 9], argTypes := #[9] }, none⟩,
  ⟨some 11, .binOp .gtr 3 (.tmp 10) (.const (.int .i64 700)) 3, none⟩] false).seq (SC.cond (.tmp 11) ((SC.region 3 [⟨some 2, .assign (.const (.string { data := #[] })), none⟩,
  ⟨some 3, .assign (.const (.bool false)), none⟩] false).seq SC.ret) SC.skip)).seq ((SC.region 4 [⟨some 12, .move (.tmp 4), none⟩,
  ⟨some 13, .call { callee := .value (.func 19), args := #[.tmp 12], argTypes := #[9] }, none⟩,
  ⟨some 5, .assign (.tmp 13), none⟩] false).seq ((SC.region 5 [⟨some 14, .move (.tmp 5), none⟩,
  ⟨some 15, .call { callee := .builtin .len, args := #[.tmp 14], argTypes := #[9] }, none⟩,
  ⟨some 16, .binOp .add 3 (.tmp 15) (.const (.int .i64 32)) 3, none⟩,
  ⟨some 17, .binOp .sub 3 (.tmp 16) (.const (.int .i64 1)) 3, none⟩,
  ⟨some 18, .binOp .quo 3 (.tmp 17) (.const (.int .i64 32)) 3, none⟩,
  ⟨some 19, .binOp .mul 3 (.tmp 18) (.const (.int .i64 32)) 3, none⟩,
  ⟨some 6, .assign (.tmp 19), none⟩] false).seq ((SC.region 6 [⟨some 20, .move (.tmp 5), none⟩,
  ⟨some 21, .move (.tmp 6), none⟩,
  ⟨some 22, .move (.tmp 5), none⟩,
  ⟨some 23, .call { callee := .builtin .len, args := #[.tmp 22], argTypes := #[9] }, none⟩,
  ⟨some 24, .binOp .sub 3 (.tmp 21) (.tmp 23) 3, none⟩,
  ⟨some 25, .call { callee := .value (.func 20), args := #[.tmp 24], argTypes := #[3] }, none⟩,
  ⟨some 26, .binOp .add 9 (.tmp 20) (.tmp 25) 9, none⟩,
  ⟨some 2, .assign (.tmp 26), none⟩,
  ⟨some 3, .assign (.const (.bool true)), none⟩] false).seq SC.ret))))))
theorem sl5 : slimK Tryz.f5.body s5 = some (unK s5, true) := by kernel_rfl
theorem ok5 : fnOK calmB Tryz.f5 0 = true := by kernel_rfl

/-- lectionarylaw15.num -/
def s6 : SC := ((SC.region 0 [⟨some 2, .assign (.const (.int .i64 0)), none⟩] false).seq ((SC.region 1 [⟨some 3, .move (.tmp 0), none⟩,
  ⟨some 2, .assign (.tmp 3), none⟩] false).seq SC.ret))
theorem sl6 : slimK Tryz.f6.body s6 = some (unK s6, true) := by kernel_rfl
theorem ok6 : fnOK calmB Tryz.f6 0 = true := by kernel_rfl

def s7L0 : SC := ((SC.region 10 [⟨some 51, .binOp .lss 3 (.tmp 50) (.tmp 49) 3, none⟩] false).seq ((SC.cond (.tmp 51) SC.skip (SC.exit 0)).seq ((SC.block 1 ((SC.region 11 [⟨some 52, .move (.tmp 50), none⟩,
  ⟨some 11, .assign (.tmp 52), none⟩] false).seq ((SC.region 12 [⟨some 54, .load 30 (.tmp 3), none⟩,
  ⟨some 55, .move (.tmp 1), none⟩,
  ⟨some 56, .move (.tmp 11), none⟩,
  ⟨some 57, .binOp .add 3 (.tmp 55) (.tmp 56) 3, none⟩,
  ⟨some 58, .move (.tmp 9), none⟩,
  ⟨some 59, .move (.tmp 11), none⟩,
  ⟨some 60, .binOp .mul 3 (.tmp 59) (.const (.int .i64 32)) 3, none⟩,
  ⟨some 61, .move (.tmp 11), none⟩,
  ⟨some 62, .binOp .add 3 (.tmp 61) (.const (.int .i64 1)) 3, none⟩,
  ⟨some 63, .binOp .mul 3 (.tmp 62) (.const (.int .i64 32)) 3, none⟩,
  ⟨some 64, .slice 9 (.tmp 58) (some (.tmp 60)) (some (.tmp 63)) none, none⟩,
  ⟨some 65, .call { callee := .value (.func 22), args := #[.tmp 54, .tmp 57, .tmp 64], argTypes := #[30, 3, 9] }, none⟩,
  ⟨some 53, .move (.tmp 65), none⟩,
  ⟨some 66, .extract (.tmp 53) 0, none⟩,
  ⟨some 67, .extract (.tmp 53) 1, none⟩,
  ⟨none, .store 30 (.tmp 3) (.tmp 66), none⟩,
  ⟨some 8, .assign (.tmp 67), none⟩] true).seq ((SC.region 13 [⟨some 68, .move (.tmp 8), none⟩,
  ⟨some 69, .binOp .neq 41 (.tmp 68) (.const (.int .i64 0)) 41, none⟩] false).seq (SC.cond (.tmp 69) ((SC.region 14 [⟨some 70, .load 30 (.tmp 6), none⟩,
  ⟨some 71, .move (.tmp 8), none⟩,
  ⟨none, .store 30 (.tmp 6) (.tmp 70), none⟩,
  ⟨some 7, .assign (.const (.int .i64 0)), none⟩,
  ⟨some 8, .assign (.tmp 71), none⟩] false).seq SC.ret) SC.skip))))).seq (SC.region 15 [⟨some 72, .binOp .add 3 (.tmp 50) (.const (.int .i64 1)) 3, none⟩,
  ⟨some 50, .move (.tmp 72), none⟩] false))))
/-- store.Append -/
def s7 : SC := ((SC.region 0 [⟨some 3, .box 30 (.tmp 0), none⟩,
  ⟨some 5, .box 45 (.tmp 2), none⟩,
  ⟨some 6, .alloc 30, none⟩,
  ⟨some 7, .assign (.const (.int .i64 0)), none⟩,
  ⟨some 8, .assign (.const (.int .i64 0)), none⟩] false).seq (((SC.region 1 [⟨some 12, .load 30 (.tmp 3), none⟩,
  ⟨some 13, .call { callee := .value (.func 21), args := #[.tmp 12], argTypes := #[30] }, none⟩,
  ⟨some 14, .unOp .not 4 (.tmp 13), none⟩,
  ⟨some 15, .move (.tmp 14), none⟩,
  ⟨some 16, .load 45 (.tmp 5), some (some 15, false)⟩,
  ⟨some 17, .call { callee := .value (.func 16), args := #[.tmp 16], argTypes := #[45] }, some (some 15, false)⟩,
  ⟨some 18, .unOp .not 4 (.tmp 17), some (some 15, false)⟩,
  ⟨some 19, .pick (.tmp 15) (.const (.bool true)) (.tmp 18), none⟩,
  ⟨some 20, .move (.tmp 19), none⟩,
  ⟨some 21, .move (.tmp 1), some (some 20, false)⟩,
  ⟨some 22, .binOp .lss 3 (.tmp 21) (.const (.int .i64 0)) 3, some (some 20, false)⟩,
  ⟨some 23, .pick (.tmp 20) (.const (.bool true)) (.tmp 22), none⟩] false).seq (SC.cond (.tmp 23) ((SC.region 2 [⟨some 24, .load 30 (.tmp 6), none⟩,
  ⟨none, .store 30 (.tmp 6) (.tmp 24), none⟩,
  ⟨some 7, .assign (.const (.int .i64 0)), none⟩,
  ⟨some 8, .assign (.const (.int .i64 1)), none⟩] false).seq SC.ret) SC.skip)).seq ((SC.region 3 [⟨some 26, .load 45 (.tmp 5), none⟩,
  ⟨some 27, .call { callee := .value (.func 17), args := #[.tmp 26], argTypes := #[45] }, none⟩,
  ⟨some 25, .move (.tmp 27), none⟩,
  ⟨some 28, .extract (.tmp 25) 0, none⟩,
  ⟨some 29, .extract (.tmp 25) 1, none⟩,
  ⟨some 9, .assign (.tmp 28), none⟩,
  ⟨some 8, .assign (.tmp 29), none⟩] false).seq (((SC.region 4 [⟨some 30, .move (.tmp 8), none⟩,
  ⟨some 31, .binOp .neq 41 (.tmp 30) (.const (.int .i64 0)) 41, none⟩] false).seq (SC.cond (.tmp 31) ((SC.region 5 [⟨some 32, .load 30 (.tmp 6), none⟩,
  ⟨some 33, .move (.tmp 8), none⟩,
  ⟨none, .store 30 (.tmp 6) (.tmp 32), none⟩,
  ⟨some 7, .assign (.const (.int .i64 0)), none⟩,
  ⟨some 8, .assign (.tmp 33), none⟩] false).seq SC.ret) SC.skip)).seq ((SC.region 6 [⟨some 34, .move (.tmp 9), none⟩,
  ⟨some 35, .call { callee := .builtin .len, args := #[.tmp 34], argTypes := #[9] }, none⟩,
  ⟨some 36, .binOp .quo 3 (.tmp 35) (.const (.int .i64 32)) 3, none⟩,
  ⟨some 10, .assign (.tmp 36), none⟩] false).seq (((SC.region 7 [⟨some 37, .move (.tmp 10), none⟩,
  ⟨some 38, .fieldAddr 30 (.tmp 3) 0, none⟩,
  ⟨some 39, .load 27 (.tmp 38), none⟩,
  ⟨some 40, .call { callee := .builtin .len, args := #[.tmp 39], argTypes := #[27] }, none⟩,
  ⟨some 41, .move (.tmp 1), none⟩,
  ⟨some 42, .fieldAddr 30 (.tmp 3) 0, none⟩,
  ⟨some 43, .load 27 (.tmp 42), none⟩,
  ⟨some 44, .call { callee := .builtin .len, args := #[.tmp 43], argTypes := #[27] }, none⟩,
  ⟨some 45, .call { callee := .builtin .min, args := #[.tmp 41, .tmp 44], argTypes := #[3, 3] }, none⟩,
  ⟨some 46, .binOp .sub 3 (.tmp 40) (.tmp 45) 3, none⟩,
  ⟨some 47, .binOp .gtr 3 (.tmp 37) (.tmp 46) 3, none⟩] false).seq (SC.cond (.tmp 47) ((SC.region 8 [⟨some 48, .load 30 (.tmp 6), none⟩,
  ⟨none, .store 30 (.tmp 6) (.tmp 48), none⟩,
  ⟨some 7, .assign (.const (.int .i64 0)), none⟩,
  ⟨some 8, .assign (.const (.int .i64 6)), none⟩] false).seq SC.ret) SC.skip)).seq (((SC.region 9 [⟨some 49, .move (.tmp 10), none⟩,
  ⟨some 50, .move (.const (.int .i64 0)), none⟩] false).seq (SC.block 0 (SC.loop s7L0))).seq ((SC.region 16 [⟨some 73, .load 30 (.tmp 3), none⟩,
  ⟨some 74, .move (.tmp 1), none⟩,
  ⟨some 75, .move (.tmp 10), none⟩,
  ⟨some 76, .binOp .add 3 (.tmp 74) (.tmp 75) 3, none⟩,
  ⟨none, .store 30 (.tmp 6) (.tmp 73), none⟩,
  ⟨some 7, .assign (.tmp 76), none⟩,
  ⟨some 8, .assign (.const (.int .i64 0)), none⟩] false).seq SC.ret))))))))
theorem sl7 : slimK Tryz.f7.body s7 = some (unK s7, true) := by kernel_rfl
theorem ok7 : fnOK calmB Tryz.f7 0 = true := by kernel_rfl

def s10L0 : SC := (((SC.region 3 [⟨some 11, .move (.tmp 3), none⟩,
  ⟨some 12, .fieldAddr 30 (.tmp 1) 0, none⟩,
  ⟨some 13, .load 27 (.tmp 12), none⟩,
  ⟨some 14, .call { callee := .builtin .len, args := #[.tmp 13], argTypes := #[27] }, none⟩,
  ⟨some 15, .binOp .lss 3 (.tmp 11) (.tmp 14) 3, none⟩] false).seq (SC.cond (.tmp 15) SC.skip (SC.exit 0))).seq (SC.block 1 ((SC.region 4 [⟨some 17, .fieldAddr 30 (.tmp 1) 0, none⟩,
  ⟨some 18, .load 27 (.tmp 17), none⟩,
  ⟨some 19, .move (.tmp 3), none⟩,
  ⟨some 20, .slice 27 (.tmp 18) (some (.tmp 19)) none none, none⟩,
  ⟨some 21, .call { callee := .value (.func 25), args := #[.tmp 20], argTypes := #[27] }, none⟩,
  ⟨some 16, .move (.tmp 21), none⟩,
  ⟨some 22, .extract (.tmp 16) 0, none⟩,
  ⟨some 23, .extract (.tmp 16) 1, none⟩,
  ⟨some 24, .extract (.tmp 16) 2, none⟩,
  ⟨some 5, .alloc 45, none⟩,
  ⟨none, .store 45 (.tmp 5) (.tmp 22), none⟩,
  ⟨some 6, .assign (.tmp 23), none⟩,
  ⟨some 7, .assign (.tmp 24), none⟩] false).seq (((SC.region 5 [⟨some 25, .move (.tmp 7), none⟩,
  ⟨some 26, .unOp .not 4 (.tmp 25), none⟩] false).seq (SC.cond (.tmp 26) (SC.exit 0) SC.skip)).seq ((SC.region 6 [⟨some 27, .move (.tmp 2), none⟩,
  ⟨some 28, .load 45 (.tmp 5), none⟩,
  ⟨some 29, .buildSlice 34 1 #[(0, .tmp 28)], none⟩,
  ⟨some 30, .call { callee := .builtin .append, args := #[.tmp 27, .tmp 29], argTypes := #[34, 34] }, none⟩,
  ⟨some 2, .assign (.tmp 30), none⟩] false).seq (SC.region 7 [⟨some 31, .move (.tmp 3), none⟩,
  ⟨some 32, .move (.tmp 6), none⟩,
  ⟨some 33, .binOp .add 3 (.tmp 31) (.tmp 32) 3, none⟩,
  ⟨some 3, .assign (.tmp 33), none⟩] false))))))
/-- store.Load -/
def s10 : SC := ((SC.region 0 [⟨some 1, .box 30 (.tmp 0), none⟩,
  ⟨some 2, .assign (.const (.slice none 0 0)), none⟩,
  ⟨some 3, .assign (.const (.int .i64 0)), none⟩,
  ⟨some 4, .assign (.const (.int .i64 0)), none⟩] false).seq (((SC.region 1 [⟨some 8, .load 30 (.tmp 1), none⟩,
  ⟨some 9, .call { callee := .value (.func 21), args := #[.tmp 8], argTypes := #[30] }, none⟩,
  ⟨some 10, .unOp .not 4 (.tmp 9), none⟩] false).seq (SC.cond (.tmp 10) ((SC.region 2 [⟨some 2, .assign (.const (.slice none 0 0)), none⟩,
  ⟨some 3, .assign (.const (.int .i64 0)), none⟩,
  ⟨some 4, .assign (.const (.int .i64 1)), none⟩] false).seq SC.ret) SC.skip)).seq ((SC.block 0 (SC.loop s10L0)).seq ((SC.region 8 [⟨some 34, .move (.tmp 2), none⟩,
  ⟨some 35, .move (.tmp 3), none⟩,
  ⟨some 2, .assign (.tmp 34), none⟩,
  ⟨some 3, .assign (.tmp 35), none⟩,
  ⟨some 4, .assign (.const (.int .i64 0)), none⟩] false).seq SC.ret))))
theorem sl10 : slimK Tryz.f10.body s10 = some (unK s10, true) := by kernel_rfl
theorem ok10 : fnOK calmB Tryz.f10 0 = true := by kernel_rfl

/-- lectionaryref0.EqOp -/
def s11 : SC := ((SC.region 0 [⟨some 2, .box 40 (.tmp 0), none⟩,
  ⟨some 3, .box 40 (.tmp 1), none⟩,
  ⟨some 4, .assign (.const (.bool false)), none⟩] false).seq ((SC.region 1 [⟨some 5, .fieldAddr 40 (.tmp 2) 0, none⟩,
  ⟨some 6, .load 3 (.tmp 5), none⟩,
  ⟨some 7, .fieldAddr 40 (.tmp 3) 0, none⟩,
  ⟨some 8, .load 3 (.tmp 7), none⟩,
  ⟨some 9, .binOp .eql 3 (.tmp 6) (.tmp 8) 3, none⟩,
  ⟨some 10, .move (.tmp 9), none⟩,
  ⟨some 11, .fieldAddr 40 (.tmp 2) 1, some (some 10, true)⟩,
  ⟨some 12, .load 3 (.tmp 11), some (some 10, true)⟩,
  ⟨some 13, .fieldAddr 40 (.tmp 3) 1, some (some 10, true)⟩,
  ⟨some 14, .load 3 (.tmp 13), some (some 10, true)⟩,
  ⟨some 15, .binOp .eql 3 (.tmp 12) (.tmp 14) 3, some (some 10, true)⟩,
  ⟨some 16, .pick (.tmp 10) (.tmp 15) (.const (.bool false)), none⟩,
  ⟨some 17, .move (.tmp 16), none⟩,
  ⟨some 18, .fieldAddr 40 (.tmp 2) 2, some (some 17, true)⟩,
  ⟨some 19, .load 3 (.tmp 18), some (some 17, true)⟩,
  ⟨some 20, .fieldAddr 40 (.tmp 3) 2, some (some 17, true)⟩,
  ⟨some 21, .load 3 (.tmp 20), some (some 17, true)⟩,
  ⟨some 22, .binOp .eql 3 (.tmp 19) (.tmp 21) 3, some (some 17, true)⟩,
  ⟨some 23, .pick (.tmp 17) (.tmp 22) (.const (.bool false)), none⟩,
  ⟨some 24, .move (.tmp 23), none⟩,
  ⟨some 25, .fieldAddr 40 (.tmp 2) 3, some (some 24, true)⟩,
  ⟨some 26, .load 38 (.tmp 25), some (some 24, true)⟩,
  ⟨some 27, .fieldAddr 40 (.tmp 3) 3, some (some 24, true)⟩,
  ⟨some 28, .load 38 (.tmp 27), some (some 24, true)⟩,
  ⟨some 29, .binOp .eql 38 (.tmp 26) (.tmp 28) 38, some (some 24, true)⟩,
  ⟨some 30, .pick (.tmp 24) (.tmp 29) (.const (.bool false)), none⟩,
  ⟨some 31, .move (.tmp 30), none⟩,
  ⟨some 32, .fieldAddr 40 (.tmp 2) 4, some (some 31, true)⟩,
  ⟨some 33, .load 9 (.tmp 32), some (some 31, true)⟩,
  ⟨some 34, .fieldAddr 40 (.tmp 3) 4, some (some 31, true)⟩,
  ⟨some 35, .load 9 (.tmp 34), some (some 31, true)⟩,
  ⟨some 36, .binOp .eql 9 (.tmp 33) (.tmp 35) 9, some (some 31, true)⟩,
  ⟨some 37, .pick (.tmp 31) (.tmp 36) (.const (.bool false)), none⟩,
  ⟨some 38, .move (.tmp 37), none⟩,
  ⟨some 39, .fieldAddr 40 (.tmp 2) 5, some (some 38, true)⟩,
  ⟨some 40, .load 23 (.tmp 39), some (some 38, true)⟩,
  ⟨some 41, .fieldAddr 40 (.tmp 3) 5, some (some 38, true)⟩,
  ⟨some 42, .load 23 (.tmp 41), some (some 38, true)⟩,
  ⟨some 43, .call { callee := .value (.func 26), args := #[.tmp 40, .tmp 42], argTypes := #[23, 23] }, some (some 38, true)⟩,
  ⟨some 44, .pick (.tmp 38) (.tmp 43) (.const (.bool false)), none⟩,
  ⟨some 45, .move (.tmp 44), none⟩,
  ⟨some 46, .fieldAddr 40 (.tmp 2) 6, some (some 45, true)⟩,
  ⟨some 47, .load 3 (.tmp 46), some (some 45, true)⟩,
  ⟨some 48, .fieldAddr 40 (.tmp 3) 6, some (some 45, true)⟩,
  ⟨some 49, .load 3 (.tmp 48), some (some 45, true)⟩,
  ⟨some 50, .binOp .eql 3 (.tmp 47) (.tmp 49) 3, some (some 45, true)⟩,
  ⟨some 51, .pick (.tmp 45) (.tmp 50) (.const (.bool false)), none⟩,
  ⟨some 52, .move (.tmp 51), none⟩,
  ⟨some 53, .fieldAddr 40 (.tmp 2) 7, some (some 52, true)⟩,
  ⟨some 54, .load 3 (.tmp 53), some (some 52, true)⟩,
  ⟨some 55, .fieldAddr 40 (.tmp 3) 7, some (some 52, true)⟩,
  ⟨some 56, .load 3 (.tmp 55), some (some 52, true)⟩,
  ⟨some 57, .binOp .eql 3 (.tmp 54) (.tmp 56) 3, some (some 52, true)⟩,
  ⟨some 58, .pick (.tmp 52) (.tmp 57) (.const (.bool false)), none⟩,
  ⟨some 59, .move (.tmp 58), none⟩,
  ⟨some 60, .fieldAddr 40 (.tmp 2) 8, some (some 59, true)⟩,
  ⟨some 61, .load 3 (.tmp 60), some (some 59, true)⟩,
  ⟨some 62, .fieldAddr 40 (.tmp 3) 8, some (some 59, true)⟩,
  ⟨some 63, .load 3 (.tmp 62), some (some 59, true)⟩,
  ⟨some 64, .binOp .eql 3 (.tmp 61) (.tmp 63) 3, some (some 59, true)⟩,
  ⟨some 65, .pick (.tmp 59) (.tmp 64) (.const (.bool false)), none⟩,
  ⟨some 4, .assign (.tmp 65), none⟩] false).seq SC.ret))
theorem sl11 : slimK Tryz.f11.body s11 = some (unK s11, true) := by kernel_rfl
theorem ok11 : fnOK calmB Tryz.f11 0 = true := by kernel_rfl

/-- lectionarylaw15.wakes -/
def s15 : SC := ((SC.region 0 [⟨some 0, .assign (.const (.bool false)), none⟩] false).seq ((SC.region 1 [⟨some 9, .call { callee := .value (.func 8), args := #[.const (.int .i64 4)], argTypes := #[3] }, none⟩,
  ⟨some 10, .build 45 #[(0, .const (.bool true)), (1, .const (.int .i64 5))], none⟩,
  ⟨some 11, .call { callee := .value (.func 7), args := #[.tmp 9, .const (.int .i64 0), .tmp 10], argTypes := #[30, 3, 45] }, none⟩,
  ⟨some 8, .move (.tmp 11), none⟩,
  ⟨some 12, .extract (.tmp 8) 0, none⟩,
  ⟨some 13, .extract (.tmp 8) 1, none⟩,
  ⟨some 14, .extract (.tmp 8) 2, none⟩,
  ⟨some 1, .alloc 30, none⟩,
  ⟨none, .store 30 (.tmp 1) (.tmp 12), none⟩,
  ⟨some 2, .assign (.tmp 13), none⟩,
  ⟨some 3, .assign (.tmp 14), none⟩] false).seq ((SC.region 2 [⟨some 16, .load 30 (.tmp 1), none⟩,
  ⟨some 17, .call { callee := .value (.func 9), args := #[.tmp 16], argTypes := #[30] }, none⟩,
  ⟨some 15, .move (.tmp 17), none⟩,
  ⟨some 18, .extract (.tmp 15) 0, none⟩,
  ⟨some 19, .extract (.tmp 15) 1, none⟩,
  ⟨none, .store 30 (.tmp 1) (.tmp 18), none⟩,
  ⟨some 4, .assign (.tmp 19), none⟩] false).seq ((SC.region 3 [⟨some 21, .load 30 (.tmp 1), none⟩,
  ⟨some 22, .call { callee := .value (.func 10), args := #[.tmp 21], argTypes := #[30] }, none⟩,
  ⟨some 20, .move (.tmp 22), none⟩,
  ⟨some 23, .extract (.tmp 20) 0, none⟩,
  ⟨some 24, .extract (.tmp 20) 1, none⟩,
  ⟨some 25, .extract (.tmp 20) 2, none⟩,
  ⟨some 5, .assign (.tmp 23), none⟩,
  ⟨some 6, .assign (.tmp 24), none⟩,
  ⟨some 7, .assign (.tmp 25), none⟩] false).seq ((SC.region 4 [⟨some 26, .move (.tmp 3), none⟩,
  ⟨some 27, .call { callee := .value (.func 6), args := #[.tmp 26], argTypes := #[41] }, none⟩,
  ⟨some 28, .binOp .eql 3 (.tmp 27) (.const (.int .i64 0)) 3, none⟩,
  ⟨some 29, .move (.tmp 28), none⟩,
  ⟨some 30, .move (.tmp 4), some (some 29, true)⟩,
  ⟨some 31, .call { callee := .value (.func 6), args := #[.tmp 30], argTypes := #[41] }, some (some 29, true)⟩,
  ⟨some 32, .binOp .eql 3 (.tmp 31) (.const (.int .i64 0)) 3, some (some 29, true)⟩,
  ⟨some 33, .pick (.tmp 29) (.tmp 32) (.const (.bool false)), none⟩,
  ⟨some 34, .move (.tmp 33), none⟩,
  ⟨some 35, .move (.tmp 7), some (some 34, true)⟩,
  ⟨some 36, .call { callee := .value (.func 6), args := #[.tmp 35], argTypes := #[41] }, some (some 34, true)⟩,
  ⟨some 37, .binOp .eql 3 (.tmp 36) (.const (.int .i64 0)) 3, some (some 34, true)⟩,
  ⟨some 38, .pick (.tmp 34) (.tmp 37) (.const (.bool false)), none⟩,
  ⟨some 39, .move (.tmp 38), none⟩,
  ⟨some 40, .move (.tmp 5), some (some 39, true)⟩,
  ⟨some 41, .call { callee := .builtin .len, args := #[.tmp 40], argTypes := #[34] }, some (some 39, true)⟩,
  ⟨some 42, .binOp .eql 3 (.tmp 41) (.const (.int .i64 1)) 3, some (some 39, true)⟩,
  ⟨some 43, .pick (.tmp 39) (.tmp 42) (.const (.bool false)), none⟩,
  ⟨some 44, .move (.tmp 43), none⟩,
  ⟨some 45, .move (.tmp 5), some (some 44, true)⟩,
  ⟨some 46, .indexAddr 34 (.tmp 45) (.const (.int .i64 0)), some (some 44, true)⟩,
  ⟨some 47, .fieldAddr 45 (.tmp 46) 1, some (some 44, true)⟩,
  ⟨some 48, .load 3 (.tmp 47), some (some 44, true)⟩,
  ⟨some 49, .binOp .eql 3 (.tmp 48) (.const (.int .i64 5)) 3, some (some 44, true)⟩,
  ⟨some 50, .pick (.tmp 44) (.tmp 49) (.const (.bool false)), none⟩,
  ⟨some 51, .move (.tmp 50), none⟩,
  ⟨some 52, .move (.tmp 2), some (some 51, true)⟩,
  ⟨some 53, .binOp .eql 3 (.tmp 52) (.const (.int .i64 1)) 3, some (some 51, true)⟩,
  ⟨some 54, .pick (.tmp 51) (.tmp 53) (.const (.bool false)), none⟩,
  ⟨some 55, .move (.tmp 54), none⟩,
  ⟨some 56, .move (.tmp 6), some (some 55, true)⟩,
  ⟨some 57, .binOp .eql 3 (.tmp 56) (.const (.int .i64 1)) 3, some (some 55, true)⟩,
  ⟨some 58, .pick (.tmp 55) (.tmp 57) (.const (.bool false)), none⟩,
  ⟨some 0, .assign (.tmp 58), none⟩] false).seq SC.ret)))))
theorem sl15 : slimK Tryz.f15.body s15 = some (unK s15, true) := by kernel_rfl
theorem ok15 : fnOK calmB Tryz.f15 0 = true := by kernel_rfl

/-- store.May -/
def s16 : SC := ((SC.region 0 [⟨some 1, .box 45 (.tmp 0), none⟩,
  ⟨some 2, .assign (.const (.bool false)), none⟩] false).seq (((SC.region 1 [⟨some 3, .fieldAddr 45 (.tmp 1) 0, none⟩,
  ⟨some 4, .load 4 (.tmp 3), none⟩] false).seq (SC.cond (.tmp 4) ((SC.region 2 [⟨some 5, .fieldAddr 45 (.tmp 1) 1, none⟩,
  ⟨some 6, .load 3 (.tmp 5), none⟩,
  ⟨some 7, .binOp .geq 3 (.tmp 6) (.const (.int .i64 1)) 3, none⟩,
  ⟨some 8, .move (.tmp 7), none⟩,
  ⟨some 9, .fieldAddr 45 (.tmp 1) 1, some (some 8, true)⟩,
  ⟨some 10, .load 3 (.tmp 9), some (some 8, true)⟩,
  ⟨some 11, .binOp .leq 3 (.tmp 10) (.const (.int .i64 268435456)) 3, some (some 8, true)⟩,
  ⟨some 12, .pick (.tmp 8) (.tmp 11) (.const (.bool false)), none⟩,
  ⟨some 13, .move (.tmp 12), none⟩,
  ⟨some 14, .fieldAddr 45 (.tmp 1) 2, some (some 13, true)⟩,
  ⟨some 15, .load 40 (.tmp 14), some (some 13, true)⟩,
  ⟨some 16, .call { callee := .value (.func 31), args := #[.tmp 15], argTypes := #[40] }, some (some 13, true)⟩,
  ⟨some 17, .pick (.tmp 13) (.tmp 16) (.const (.bool false)), none⟩,
  ⟨some 2, .assign (.tmp 17), none⟩] false).seq SC.ret) SC.skip)).seq ((SC.region 3 [⟨some 18, .fieldAddr 45 (.tmp 1) 1, none⟩,
  ⟨some 19, .load 3 (.tmp 18), none⟩,
  ⟨some 20, .binOp .eql 3 (.tmp 19) (.const (.int .i64 0)) 3, none⟩,
  ⟨some 21, .move (.tmp 20), none⟩,
  ⟨some 22, .fieldAddr 45 (.tmp 1) 2, some (some 21, true)⟩,
  ⟨some 23, .load 40 (.tmp 22), some (some 21, true)⟩,
  ⟨some 24, .call { callee := .value (.func 32), args := #[.tmp 23], argTypes := #[40] }, some (some 21, true)⟩,
  ⟨some 25, .pick (.tmp 21) (.tmp 24) (.const (.bool false)), none⟩,
  ⟨some 2, .assign (.tmp 25), none⟩] false).seq SC.ret)))
theorem sl16 : slimK Tryz.f16.body s16 = some (unK s16, true) := by kernel_rfl
theorem ok16 : fnOK calmB Tryz.f16 0 = true := by kernel_rfl

/-- store.framed -/
def s17 : SC := ((SC.region 0 [⟨some 1, .box 45 (.tmp 0), none⟩,
  ⟨some 2, .assign (.const (.string { data := #[] })), none⟩,
  ⟨some 3, .assign (.const (.int .i64 0)), none⟩] false).seq ((SC.region 1 [⟨some 5, .call { callee := .value (.func 33), args := #[.const (.int .i64 0)], argTypes := #[3] }, none⟩,
  ⟨some 4, .assign (.tmp 5), none⟩] false).seq (((SC.region 2 [⟨some 6, .fieldAddr 45 (.tmp 1) 0, none⟩,
  ⟨some 7, .load 4 (.tmp 6), none⟩] false).seq (SC.cond (.tmp 7) (SC.region 3 [⟨some 8, .call { callee := .value (.func 33), args := #[.const (.int .i64 1)], argTypes := #[3] }, none⟩,
  ⟨some 9, .fieldAddr 45 (.tmp 1) 1, none⟩,
  ⟨some 10, .load 3 (.tmp 9), none⟩,
  ⟨some 11, .call { callee := .value (.func 33), args := #[.tmp 10], argTypes := #[3] }, none⟩,
  ⟨some 12, .binOp .add 9 (.tmp 8) (.tmp 11) 9, none⟩,
  ⟨some 4, .assign (.tmp 12), none⟩] true) (SC.region 4 [⟨some 13, .move (.tmp 4), none⟩,
  ⟨some 14, .fieldAddr 45 (.tmp 1) 2, none⟩,
  ⟨some 15, .load 40 (.tmp 14), none⟩,
  ⟨some 16, .call { callee := .value (.func 34), args := #[.tmp 15], argTypes := #[40] }, none⟩,
  ⟨some 17, .binOp .add 9 (.tmp 13) (.tmp 16) 9, none⟩,
  ⟨some 4, .assign (.tmp 17), none⟩] false))).seq (((SC.region 5 [⟨some 18, .move (.tmp 4), none⟩,
  ⟨some 19, .call { callee := .builtin .len, args := #[.tmp 18], argTypes := #[9] }, none⟩,
  ⟨some 20, .binOp .gtr 3 (.tmp 19) (.const (.int .i64 700)) 3, none⟩] false).seq (SC.cond (.tmp 20) ((SC.region 6 [⟨some 2, .assign (.const (.string { data := #[] })), none⟩,
  ⟨some 3, .assign (.const (.int .i64 2)), none⟩] false).seq SC.ret) SC.skip)).seq ((SC.region 7 [⟨some 21, .move (.tmp 4), none⟩,
  ⟨some 22, .call { callee := .value (.func 36), args := #[.tmp 21], argTypes := #[9] }, none⟩,
  ⟨some 23, .call { callee := .value (.func 35), args := #[.tmp 22], argTypes := #[9] }, none⟩,
  ⟨some 2, .assign (.tmp 23), none⟩,
  ⟨some 3, .assign (.const (.int .i64 0)), none⟩] false).seq SC.ret)))))
theorem sl17 : slimK Tryz.f17.body s17 = some (unK s17, true) := by kernel_rfl
theorem ok17 : fnOK calmB Tryz.f17 0 = true := by kernel_rfl

/-- lectionaryref14.plain -/
def s18 : SC := ((SC.region 0 [⟨some 1, .box 45 (.tmp 0), none⟩,
  ⟨some 2, .assign (.const (.string { data := #[] })), none⟩] false).seq (((SC.region 1 [⟨some 3, .fieldAddr 45 (.tmp 1) 0, none⟩,
  ⟨some 4, .load 4 (.tmp 3), none⟩] false).seq (SC.cond (.tmp 4) ((SC.region 2 [⟨some 5, .call { callee := .value (.func 37), args := #[.const (.int .i64 1)], argTypes := #[3] }, none⟩,
  ⟨some 6, .fieldAddr 45 (.tmp 1) 1, none⟩,
  ⟨some 7, .load 3 (.tmp 6), none⟩,
  ⟨some 8, .call { callee := .value (.func 37), args := #[.tmp 7], argTypes := #[3] }, none⟩,
  ⟨some 9, .binOp .add 9 (.tmp 5) (.tmp 8) 9, none⟩,
  ⟨some 2, .assign (.tmp 9), none⟩] true).seq SC.ret) SC.skip)).seq ((SC.region 3 [⟨some 10, .call { callee := .value (.func 37), args := #[.const (.int .i64 0)], argTypes := #[3] }, none⟩,
  ⟨some 11, .fieldAddr 45 (.tmp 1) 2, none⟩,
  ⟨some 12, .load 40 (.tmp 11), none⟩,
  ⟨some 13, .call { callee := .value (.func 38), args := #[.tmp 12], argTypes := #[40] }, none⟩,
  ⟨some 14, .binOp .add 9 (.tmp 10) (.tmp 13) 9, none⟩,
  ⟨some 2, .assign (.tmp 14), none⟩] true).seq SC.ret)))
theorem sl18 : slimK Tryz.f18.body s18 = some (unK s18, true) := by kernel_rfl
theorem ok18 : fnOK calmB Tryz.f18 0 = true := by kernel_rfl

/-- lectionaryref1.Frame -/
def s19 : SC := ((SC.region 0 [⟨some 2, .assign (.const (.string { data := #[] })), none⟩] false).seq (((SC.region 1 [⟨some 5, .move (.tmp 0), none⟩,
  ⟨some 6, .call { callee := .builtin .len, args := #[.tmp 5], argTypes := #[9] }, none⟩,
  ⟨some 7, .binOp .gtr 3 (.tmp 6) (.const (.int .i64 700)) 3, none⟩] false).seq (SC.cond (.tmp 7) ((SC.region 2 [⟨some 2, .assign (.const (.string { data := #[] })), none⟩] false).seq SC.ret) SC.skip)).seq ((SC.region 3 [⟨some 8, .move (.tmp 0), none⟩,
  ⟨some 9, .call { callee := .builtin .len, args := #[.tmp 8], argTypes := #[9] }, none⟩,
  ⟨some 10, .call { callee := .value (.func 37), args := #[.tmp 9], argTypes := #[3] }, none⟩,
  ⟨some 3, .assign (.tmp 10), none⟩] false).seq ((SC.region 4 [⟨some 11, .move (.tmp 3), none⟩,
  ⟨some 12, .move (.tmp 0), none⟩,
  ⟨some 13, .binOp .add 9 (.tmp 11) (.tmp 12) 9, none⟩,
  ⟨some 14, .call { callee := .value (.func 39), args := #[.tmp 13], argTypes := #[9] }, none⟩,
  ⟨some 4, .assign (.tmp 14), none⟩] false).seq ((SC.region 5 [⟨some 15, .move (.tmp 3), none⟩,
  ⟨some 16, .move (.tmp 4), none⟩,
  ⟨some 17, .binOp .shr 80 (.tmp 16) (.const (.int .u64 24)) 82, none⟩,
  ⟨some 18, .convert 80 5 (.tmp 17), none⟩,
  ⟨some 19, .move (.tmp 4), none⟩,
  ⟨some 20, .binOp .shr 80 (.tmp 19) (.const (.int .u64 16)) 82, none⟩,
  ⟨some 21, .convert 80 5 (.tmp 20), none⟩,
  ⟨some 22, .move (.tmp 4), none⟩,
  ⟨some 23, .binOp .shr 80 (.tmp 22) (.const (.int .u64 8)) 82, none⟩,
  ⟨some 24, .convert 80 5 (.tmp 23), none⟩,
  ⟨some 25, .move (.tmp 4), none⟩,
  ⟨some 26, .convert 80 5 (.tmp 25), none⟩,
  ⟨some 27, .buildSlice 83 4 #[(0, .tmp 18), (1, .tmp 21), (2, .tmp 24), (3, .tmp 26)], none⟩,
  ⟨some 28, .convert 83 9 (.tmp 27), none⟩,
  ⟨some 29, .binOp .add 9 (.tmp 15) (.tmp 28) 9, none⟩,
  ⟨some 30, .move (.tmp 0), none⟩,
  ⟨some 31, .binOp .add 9 (.tmp 29) (.tmp 30) 9, none⟩,
  ⟨some 2, .assign (.tmp 31), none⟩] false).seq SC.ret)))))
theorem sl19 : slimK Tryz.f19.body s19 = some (unK s19, true) := by kernel_rfl
theorem ok19 : fnOK calmB Tryz.f19 0 = true := by kernel_rfl

/-- store.first -/
def s25 : SC := ((SC.region 0 [⟨some 2, .alloc 45, none⟩,
  ⟨some 3, .assign (.const (.int .i64 0)), none⟩,
  ⟨some 4, .assign (.const (.bool false)), none⟩] false).seq ((SC.region 1 [⟨some 10, .move (.tmp 0), none⟩,
  ⟨some 11, .move (.tmp 0), none⟩,
  ⟨some 12, .call { callee := .builtin .len, args := #[.tmp 11], argTypes := #[27] }, none⟩,
  ⟨some 13, .call { callee := .builtin .min, args := #[.tmp 12, .const (.int .i64 23)], argTypes := #[3, 3] }, none⟩,
  ⟨some 14, .slice 27 (.tmp 10) none (some (.tmp 13)) none, none⟩,
  ⟨some 15, .call { callee := .value (.func 48), args := #[.tmp 14, .const (.string { data := #[] })], argTypes := #[27, 9] }, none⟩,
  ⟨some 5, .assign (.tmp 15), none⟩] false).seq ((SC.region 2 [⟨some 17, .move (.tmp 5), none⟩,
  ⟨some 18, .call { callee := .value (.func 49), args := #[.tmp 17], argTypes := #[9] }, none⟩,
  ⟨some 16, .move (.tmp 18), none⟩,
  ⟨some 19, .extract (.tmp 16) 0, none⟩,
  ⟨some 20, .extract (.tmp 16) 1, none⟩,
  ⟨some 21, .extract (.tmp 16) 2, none⟩,
  ⟨some 6, .assign (.tmp 19), none⟩,
  ⟨some 7, .assign (.tmp 20), none⟩,
  ⟨some 4, .assign (.tmp 21), none⟩] false).seq (((SC.region 3 [⟨some 22, .move (.tmp 4), none⟩,
  ⟨some 23, .unOp .not 4 (.tmp 22), none⟩] false).seq (SC.cond (.tmp 23) ((SC.region 4 [⟨some 24, .load 45 (.tmp 2), none⟩,
  ⟨none, .store 45 (.tmp 2) (.tmp 24), none⟩,
  ⟨some 3, .assign (.const (.int .i64 0)), none⟩,
  ⟨some 4, .assign (.const (.bool false)), none⟩] false).seq SC.ret) SC.skip)).seq (((SC.region 5 [⟨some 26, .move (.tmp 6), none⟩,
  ⟨some 27, .call { callee := .value (.func 50), args := #[.tmp 26], argTypes := #[9] }, none⟩,
  ⟨some 25, .move (.tmp 27), none⟩,
  ⟨some 28, .extract (.tmp 25) 0, none⟩,
  ⟨some 29, .extract (.tmp 25) 1, none⟩,
  ⟨none, .store 45 (.tmp 2) (.tmp 28), none⟩,
  ⟨some 4, .assign (.tmp 29), none⟩] false).seq ((SC.region 6 [⟨some 30, .move (.tmp 4), none⟩,
  ⟨some 31, .unOp .not 4 (.tmp 30), none⟩] false).seq (SC.cond (.tmp 31) ((SC.region 7 [⟨some 32, .load 45 (.tmp 2), none⟩,
  ⟨none, .store 45 (.tmp 2) (.tmp 32), none⟩,
  ⟨some 3, .assign (.const (.int .i64 0)), none⟩,
  ⟨some 4, .assign (.const (.bool false)), none⟩] false).seq SC.ret) SC.skip))).seq ((SC.region 8 [⟨some 34, .load 45 (.tmp 2), none⟩,
  ⟨some 35, .call { callee := .value (.func 17), args := #[.tmp 34], argTypes := #[45] }, none⟩,
  ⟨some 33, .move (.tmp 35), none⟩,
  ⟨some 36, .extract (.tmp 33) 0, none⟩,
  ⟨some 37, .extract (.tmp 33) 1, none⟩,
  ⟨some 8, .assign (.tmp 36), none⟩,
  ⟨some 9, .assign (.tmp 37), none⟩] false).seq ((SC.regionK 9 [⟨some 38, .load 45 (.tmp 2), none⟩,
  ⟨some 39, .move (.tmp 8), none⟩,
  ⟨some 40, .call { callee := .builtin .len, args := #[.tmp 39], argTypes := #[9] }, none⟩,
  ⟨some 41, .binOp .quo 3 (.tmp 40) (.const (.int .i64 32)) 3, none⟩,
  ⟨some 42, .move (.tmp 5), none⟩,
  ⟨some 43, .move (.tmp 8), none⟩,
  ⟨some 44, .call { callee := .value (.func 51), args := #[.tmp 42, .tmp 43], argTypes := #[9, 9] }, none⟩,
  ⟨none, .store 45 (.tmp 2) (.tmp 38), none⟩,
  ⟨some 3, .assign (.tmp 41), none⟩,
  ⟨some 4, .assign (.tmp 44), none⟩] [7] [(7, 2)]).seq SC.ret)))))))
theorem sl25 : slimK Tryz.f25.body s25 = some (unK s25, true) := by kernel_rfl
theorem ok25 : fnOK calmB Tryz.f25 0 = true := by kernel_rfl

def s26L0 : SC := (((SC.region 4 [⟨some 11, .move (.tmp 5), none⟩,
  ⟨some 12, .move (.tmp 0), none⟩,
  ⟨some 13, .call { callee := .builtin .len, args := #[.tmp 12], argTypes := #[23] }, none⟩,
  ⟨some 14, .binOp .lss 3 (.tmp 11) (.tmp 13) 3, none⟩] false).seq (SC.cond (.tmp 14) SC.skip (SC.exit 0))).seq ((SC.block 1 ((SC.region 6 [⟨some 17, .move (.tmp 0), none⟩,
  ⟨some 18, .move (.tmp 5), none⟩,
  ⟨some 19, .indexAddr 23 (.tmp 17) (.tmp 18), none⟩,
  ⟨some 20, .load 38 (.tmp 19), none⟩,
  ⟨some 21, .move (.tmp 1), none⟩,
  ⟨some 22, .move (.tmp 5), none⟩,
  ⟨some 23, .indexAddr 23 (.tmp 21) (.tmp 22), none⟩,
  ⟨some 24, .load 38 (.tmp 23), none⟩,
  ⟨some 25, .binOp .neq 38 (.tmp 20) (.tmp 24) 38, none⟩] true).seq (SC.cond (.tmp 25) ((SC.region 7 [⟨some 4, .assign (.const (.bool false)), none⟩] false).seq SC.ret) SC.skip))).seq (SC.region 5 [⟨some 15, .move (.tmp 5), none⟩,
  ⟨some 16, .binOp .add 3 (.tmp 15) (.const (.int .i64 1)) 3, none⟩,
  ⟨some 5, .assign (.tmp 16), none⟩] false)))
/-- lectionaryref0.EqElems -/
def s26 : SC := ((SC.region 0 [⟨some 4, .assign (.const (.bool false)), none⟩] false).seq (((SC.region 1 [⟨some 6, .move (.tmp 0), none⟩,
  ⟨some 7, .call { callee := .builtin .len, args := #[.tmp 6], argTypes := #[23] }, none⟩,
  ⟨some 8, .move (.tmp 1), none⟩,
  ⟨some 9, .call { callee := .builtin .len, args := #[.tmp 8], argTypes := #[23] }, none⟩,
  ⟨some 10, .binOp .neq 3 (.tmp 7) (.tmp 9) 3, none⟩] false).seq (SC.cond (.tmp 10) ((SC.region 2 [⟨some 4, .assign (.const (.bool false)), none⟩] false).seq SC.ret) SC.skip)).seq (((SC.region 3 [⟨some 5, .assign (.const (.int .i64 0)), none⟩] false).seq (SC.block 0 (SC.loop s26L0))).seq ((SC.region 8 [⟨some 4, .assign (.const (.bool true)), none⟩] false).seq SC.ret))))
theorem sl26 : slimK Tryz.f26.body s26 = some (unK s26, true) := by kernel_rfl
theorem ok26 : fnOK calmB Tryz.f26 0 = true := by kernel_rfl

/-- store.nothing -/
def s31 : SC := ((SC.region 0 [⟨some 1, .box 40 (.tmp 0), none⟩,
  ⟨some 2, .assign (.const (.bool false)), none⟩] false).seq ((SC.region 1 [⟨some 3, .load 40 (.tmp 1), none⟩,
  ⟨some 4, .build 40 #[], none⟩,
  ⟨some 5, .call { callee := .value (.func 52), args := #[.tmp 3, .tmp 4], argTypes := #[40, 40] }, none⟩,
  ⟨some 2, .assign (.tmp 5), none⟩] false).seq SC.ret))
theorem sl31 : slimK Tryz.f31.body s31 = some (unK s31, true) := by kernel_rfl
theorem ok31 : fnOK calmB Tryz.f31 0 = true := by kernel_rfl

/-- op.May -/
def s32 : SC := ((SC.region 0 [⟨some 1, .box 40 (.tmp 0), none⟩,
  ⟨some 2, .assign (.const (.bool false)), none⟩] false).seq ((SC.block 0 ((SC.region 1 [⟨some 4, .fieldAddr 40 (.tmp 1) 0, none⟩,
  ⟨some 5, .load 3 (.tmp 4), none⟩,
  ⟨some 6, .fieldAddr 40 (.tmp 1) 1, none⟩,
  ⟨some 7, .load 3 (.tmp 6), none⟩,
  ⟨some 8, .call { callee := .value (.func 53), args := #[.tmp 5, .tmp 7], argTypes := #[3, 3] }, none⟩,
  ⟨some 9, .unOp .not 4 (.tmp 8), none⟩,
  ⟨some 3, .assign (.tmp 9), none⟩] false).seq (SC.cond (.tmp 3) ((SC.region 2 [⟨some 2, .assign (.const (.bool false)), none⟩] false).seq SC.ret) ((SC.region 3 [⟨some 11, .fieldAddr 40 (.tmp 1) 2, none⟩,
  ⟨some 12, .load 3 (.tmp 11), none⟩,
  ⟨some 13, .binOp .eql 3 (.tmp 12) (.const (.int .i64 1)) 3, none⟩,
  ⟨some 10, .assign (.tmp 13), none⟩] false).seq (SC.cond (.tmp 10) ((SC.region 4 [⟨some 14, .load 40 (.tmp 1), none⟩,
  ⟨some 15, .call { callee := .value (.func 54), args := #[.tmp 14], argTypes := #[40] }, none⟩,
  ⟨some 2, .assign (.tmp 15), none⟩] false).seq SC.ret) SC.skip))))).seq ((SC.region 5 [⟨some 16, .fieldAddr 40 (.tmp 1) 2, none⟩,
  ⟨some 17, .load 3 (.tmp 16), none⟩,
  ⟨some 18, .binOp .eql 3 (.tmp 17) (.const (.int .i64 2)) 3, none⟩,
  ⟨some 19, .move (.tmp 18), none⟩,
  ⟨some 20, .load 40 (.tmp 1), some (some 19, true)⟩,
  ⟨some 21, .call { callee := .value (.func 55), args := #[.tmp 20], argTypes := #[40] }, some (some 19, true)⟩,
  ⟨some 22, .pick (.tmp 19) (.tmp 21) (.const (.bool false)), none⟩,
  ⟨some 2, .assign (.tmp 22), none⟩] false).seq SC.ret)))
theorem sl32 : slimK Tryz.f32.body s32 = some (unK s32, true) := by kernel_rfl
theorem ok32 : fnOK calmB Tryz.f32 0 = true := by kernel_rfl

def s33L0 : SC := (((SC.region 2 [⟨some 4, .move (.tmp 0), none⟩,
  ⟨some 5, .binOp .geq 3 (.tmp 4) (.const (.int .i64 128)) 3, none⟩] false).seq (SC.cond (.tmp 5) SC.skip (SC.exit 0))).seq (SC.block 1 ((SC.region 3 [⟨some 6, .move (.tmp 3), none⟩,
  ⟨some 7, .move (.tmp 0), none⟩,
  ⟨some 8, .binOp .rem 3 (.tmp 7) (.const (.int .i64 128)) 3, none⟩,
  ⟨some 9, .binOp .add 3 (.tmp 8) (.const (.int .i64 128)) 3, none⟩,
  ⟨some 10, .convert 3 5 (.tmp 9), none⟩,
  ⟨some 11, .buildSlice 83 1 #[(0, .tmp 10)], none⟩,
  ⟨some 12, .call { callee := .builtin .append, args := #[.tmp 6, .tmp 11], argTypes := #[83, 83] }, none⟩,
  ⟨some 3, .assign (.tmp 12), none⟩] false).seq (SC.region 4 [⟨some 13, .move (.tmp 0), none⟩,
  ⟨some 14, .binOp .quo 3 (.tmp 13) (.const (.int .i64 128)) 3, none⟩,
  ⟨some 0, .assign (.tmp 14), none⟩] false))))
/-- number.Bytes -/
def s33 : SC := ((SC.region 0 [⟨some 2, .assign (.const (.string { data := #[] })), none⟩] false).seq ((SC.region 1 [⟨some 3, .assign (.const (.slice none 0 0)), none⟩] false).seq ((SC.block 0 (SC.loop s33L0)).seq ((SC.region 5 [⟨some 15, .move (.tmp 3), none⟩,
  ⟨some 16, .move (.tmp 0), none⟩,
  ⟨some 17, .convert 3 5 (.tmp 16), none⟩,
  ⟨some 18, .buildSlice 83 1 #[(0, .tmp 17)], none⟩,
  ⟨some 19, .call { callee := .builtin .append, args := #[.tmp 15, .tmp 18], argTypes := #[83, 83] }, none⟩,
  ⟨some 20, .convert 83 9 (.tmp 19), none⟩,
  ⟨some 2, .assign (.tmp 20), none⟩] false).seq SC.ret))))
theorem sl33 : slimK Tryz.f33.body s33 = some (unK s33, true) := by kernel_rfl
theorem ok33 : fnOK calmB Tryz.f33 0 = true := by kernel_rfl

def s34L0 : SC := ((SC.region 6 [⟨some 46, .binOp .lss 3 (.tmp 45) (.tmp 44) 3, none⟩] false).seq ((SC.cond (.tmp 46) SC.skip (SC.exit 0)).seq ((SC.block 1 ((SC.region 7 [⟨some 47, .indexAddr 23 (.tmp 43) (.tmp 45), none⟩,
  ⟨some 48, .load 38 (.tmp 47), none⟩,
  ⟨some 5, .alloc 38, none⟩,
  ⟨none, .store 38 (.tmp 5) (.tmp 48), none⟩] false).seq (SC.region 8 [⟨some 49, .move (.tmp 3), none⟩,
  ⟨some 50, .load 38 (.tmp 5), none⟩,
  ⟨some 51, .call { callee := .value (.func 57), args := #[.tmp 50], argTypes := #[38] }, none⟩,
  ⟨some 52, .binOp .add 9 (.tmp 49) (.tmp 51) 9, none⟩,
  ⟨some 3, .assign (.tmp 52), none⟩] false))).seq (SC.region 9 [⟨some 53, .binOp .add 3 (.tmp 45) (.const (.int .i64 1)) 3, none⟩,
  ⟨some 45, .move (.tmp 53), none⟩] false))))
/-- pack.Spell -/
def s34 : SC := ((SC.region 0 [⟨some 1, .box 40 (.tmp 0), none⟩,
  ⟨some 2, .assign (.const (.string { data := #[] })), none⟩] false).seq ((SC.region 1 [⟨some 6, .fieldAddr 40 (.tmp 1) 0, none⟩,
  ⟨some 7, .load 3 (.tmp 6), none⟩,
  ⟨some 8, .fieldAddr 40 (.tmp 1) 1, none⟩,
  ⟨some 9, .load 3 (.tmp 8), none⟩,
  ⟨some 10, .fieldAddr 40 (.tmp 1) 2, none⟩,
  ⟨some 11, .load 3 (.tmp 10), none⟩,
  ⟨some 12, .buildSlice 24 3 #[(0, .tmp 7), (1, .tmp 9), (2, .tmp 11)], none⟩,
  ⟨some 13, .call { callee := .value (.func 56), args := #[.tmp 12], argTypes := #[24] }, none⟩,
  ⟨some 3, .assign (.tmp 13), none⟩] false).seq (((SC.region 2 [⟨some 14, .fieldAddr 40 (.tmp 1) 2, none⟩,
  ⟨some 15, .load 3 (.tmp 14), none⟩,
  ⟨some 16, .binOp .eql 3 (.tmp 15) (.const (.int .i64 2)) 3, none⟩] false).seq (SC.cond (.tmp 16) ((SC.region 3 [⟨some 17, .move (.tmp 3), none⟩,
  ⟨some 18, .fieldAddr 40 (.tmp 1) 6, none⟩,
  ⟨some 19, .load 3 (.tmp 18), none⟩,
  ⟨some 20, .fieldAddr 40 (.tmp 1) 7, none⟩,
  ⟨some 21, .load 3 (.tmp 20), none⟩,
  ⟨some 22, .fieldAddr 40 (.tmp 1) 8, none⟩,
  ⟨some 23, .load 3 (.tmp 22), none⟩,
  ⟨some 24, .buildSlice 24 3 #[(0, .tmp 19), (1, .tmp 21), (2, .tmp 23)], none⟩,
  ⟨some 25, .call { callee := .value (.func 56), args := #[.tmp 24], argTypes := #[24] }, none⟩,
  ⟨some 26, .binOp .add 9 (.tmp 17) (.tmp 25) 9, none⟩,
  ⟨some 2, .assign (.tmp 26), none⟩] false).seq SC.ret) SC.skip)).seq ((SC.region 4 [⟨some 27, .move (.tmp 3), none⟩,
  ⟨some 28, .fieldAddr 40 (.tmp 1) 3, none⟩,
  ⟨some 29, .load 38 (.tmp 28), none⟩,
  ⟨some 30, .call { callee := .value (.func 57), args := #[.tmp 29], argTypes := #[38] }, none⟩,
  ⟨some 31, .fieldAddr 40 (.tmp 1) 4, none⟩,
  ⟨some 32, .load 9 (.tmp 31), none⟩,
  ⟨some 33, .call { callee := .value (.func 58), args := #[.tmp 32], argTypes := #[9] }, none⟩,
  ⟨some 34, .binOp .add 9 (.tmp 30) (.tmp 33) 9, none⟩,
  ⟨some 35, .fieldAddr 40 (.tmp 1) 5, none⟩,
  ⟨some 36, .load 23 (.tmp 35), none⟩,
  ⟨some 37, .call { callee := .builtin .len, args := #[.tmp 36], argTypes := #[23] }, none⟩,
  ⟨some 38, .buildSlice 24 1 #[(0, .tmp 37)], none⟩,
  ⟨some 39, .call { callee := .value (.func 56), args := #[.tmp 38], argTypes := #[24] }, none⟩,
  ⟨some 40, .binOp .add 9 (.tmp 34) (.tmp 39) 9, none⟩,
  ⟨some 41, .binOp .add 9 (.tmp 27) (.tmp 40) 9, none⟩,
  ⟨some 3, .assign (.tmp 41), none⟩] true).seq (((SC.region 5 [⟨some 42, .fieldAddr 40 (.tmp 1) 5, none⟩,
  ⟨some 43, .load 23 (.tmp 42), none⟩,
  ⟨some 44, .call { callee := .builtin .len, args := #[.tmp 43], argTypes := #[23] }, none⟩,
  ⟨some 45, .move (.const (.int .i64 0)), none⟩] false).seq (SC.block 0 (SC.loop s34L0))).seq ((SC.region 10 [⟨some 54, .move (.tmp 3), none⟩,
  ⟨some 2, .assign (.tmp 54), none⟩] false).seq SC.ret))))))
theorem sl34 : slimK Tryz.f34.body s34 = some (unK s34, true) := by kernel_rfl
theorem ok34 : fnOK calmB Tryz.f34 0 = true := by kernel_rfl

/-- store.padded -/
def s35 : SC := ((SC.region 0 [⟨some 2, .assign (.const (.string { data := #[] })), none⟩] false).seq ((SC.region 1 [⟨some 3, .move (.tmp 0), none⟩,
  ⟨some 4, .move (.tmp 0), none⟩,
  ⟨some 5, .call { callee := .builtin .len, args := #[.tmp 4], argTypes := #[9] }, none⟩,
  ⟨some 6, .binOp .rem 3 (.tmp 5) (.const (.int .i64 32)) 3, none⟩,
  ⟨some 7, .binOp .sub 3 (.const (.int .i64 32)) (.tmp 6) 3, none⟩,
  ⟨some 8, .binOp .rem 3 (.tmp 7) (.const (.int .i64 32)) 3, none⟩,
  ⟨some 9, .call { callee := .value (.func 59), args := #[.const (.string { data := #[0] }), .tmp 8], argTypes := #[9, 3] }, none⟩,
  ⟨some 10, .binOp .add 9 (.tmp 3) (.tmp 9) 9, none⟩,
  ⟨some 2, .assign (.tmp 10), none⟩] false).seq SC.ret))
theorem sl35 : slimK Tryz.f35.body s35 = some (unK s35, true) := by kernel_rfl
theorem ok35 : fnOK calmB Tryz.f35 0 = true := by kernel_rfl

/-- seal.Add -/
def s36 : SC := ((SC.region 0 [⟨some 2, .assign (.const (.string { data := #[] })), none⟩] false).seq (((SC.region 1 [⟨some 4, .move (.tmp 0), none⟩,
  ⟨some 5, .call { callee := .builtin .len, args := #[.tmp 4], argTypes := #[9] }, none⟩,
  ⟨some 6, .binOp .gtr 3 (.tmp 5) (.const (.int .i64 700)) 3, none⟩] false).seq (SC.cond (.tmp 6) ((SC.region 2 [⟨some 2, .assign (.const (.string { data := #[] })), none⟩] false).seq SC.ret) SC.skip)).seq ((SC.region 3 [⟨some 7, .move (.tmp 0), none⟩,
  ⟨some 8, .call { callee := .builtin .len, args := #[.tmp 7], argTypes := #[9] }, none⟩,
  ⟨some 9, .call { callee := .value (.func 33), args := #[.tmp 8], argTypes := #[3] }, none⟩,
  ⟨some 3, .assign (.tmp 9), none⟩] false).seq ((SC.region 4 [⟨some 10, .move (.tmp 3), none⟩,
  ⟨some 11, .move (.tmp 3), none⟩,
  ⟨some 12, .move (.tmp 0), none⟩,
  ⟨some 13, .binOp .add 9 (.tmp 11) (.tmp 12) 9, none⟩,
  ⟨some 14, .call { callee := .value (.func 61), args := #[.tmp 13], argTypes := #[9] }, none⟩,
  ⟨some 15, .call { callee := .value (.func 60), args := #[.tmp 14], argTypes := #[80] }, none⟩,
  ⟨some 16, .binOp .add 9 (.tmp 10) (.tmp 15) 9, none⟩,
  ⟨some 17, .move (.tmp 0), none⟩,
  ⟨some 18, .binOp .add 9 (.tmp 16) (.tmp 17) 9, none⟩,
  ⟨some 2, .assign (.tmp 18), none⟩] false).seq SC.ret))))
theorem sl36 : slimK Tryz.f36.body s36 = some (unK s36, true) := by kernel_rfl
theorem ok36 : fnOK calmB Tryz.f36 0 = true := by kernel_rfl

def s37L0 : SC := (((SC.region 2 [⟨some 4, .move (.tmp 0), none⟩,
  ⟨some 5, .binOp .geq 3 (.tmp 4) (.const (.int .i64 128)) 3, none⟩] false).seq (SC.cond (.tmp 5) SC.skip (SC.exit 0))).seq (SC.block 1 ((SC.region 3 [⟨some 6, .move (.tmp 3), none⟩,
  ⟨some 7, .move (.tmp 0), none⟩,
  ⟨some 8, .binOp .and 3 (.tmp 7) (.const (.int .i64 127)) 3, none⟩,
  ⟨some 9, .binOp .or 3 (.tmp 8) (.const (.int .i64 128)) 3, none⟩,
  ⟨some 10, .convert 3 5 (.tmp 9), none⟩,
  ⟨some 11, .buildSlice 83 1 #[(0, .tmp 10)], none⟩,
  ⟨some 12, .call { callee := .builtin .append, args := #[.tmp 6, .tmp 11], argTypes := #[83, 83] }, none⟩,
  ⟨some 3, .assign (.tmp 12), none⟩] false).seq (SC.region 4 [⟨some 13, .move (.tmp 0), none⟩,
  ⟨some 14, .binOp .shr 3 (.tmp 13) (.const (.int .u64 7)) 82, none⟩,
  ⟨some 0, .assign (.tmp 14), none⟩] false))))
/-- lectionaryref1.Put -/
def s37 : SC := ((SC.region 0 [⟨some 2, .assign (.const (.string { data := #[] })), none⟩] false).seq ((SC.region 1 [⟨some 3, .assign (.const (.slice none 0 0)), none⟩] false).seq ((SC.block 0 (SC.loop s37L0)).seq ((SC.region 5 [⟨some 15, .move (.tmp 3), none⟩,
  ⟨some 16, .move (.tmp 0), none⟩,
  ⟨some 17, .convert 3 5 (.tmp 16), none⟩,
  ⟨some 18, .buildSlice 83 1 #[(0, .tmp 17)], none⟩,
  ⟨some 19, .call { callee := .builtin .append, args := #[.tmp 15, .tmp 18], argTypes := #[83, 83] }, none⟩,
  ⟨some 20, .convert 83 9 (.tmp 19), none⟩,
  ⟨some 2, .assign (.tmp 20), none⟩] false).seq SC.ret))))
theorem sl37 : slimK Tryz.f37.body s37 = some (unK s37, true) := by kernel_rfl
theorem ok37 : fnOK calmB Tryz.f37 0 = true := by kernel_rfl

def s38L0 : SC := (((SC.region 6 [⟨some 46, .move (.tmp 4), none⟩,
  ⟨some 47, .fieldAddr 40 (.tmp 1) 5, none⟩,
  ⟨some 48, .load 23 (.tmp 47), none⟩,
  ⟨some 49, .call { callee := .builtin .len, args := #[.tmp 48], argTypes := #[23] }, none⟩,
  ⟨some 50, .binOp .lss 3 (.tmp 46) (.tmp 49) 3, none⟩] false).seq (SC.cond (.tmp 50) SC.skip (SC.exit 0))).seq ((SC.block 1 (SC.region 8 [⟨some 53, .move (.tmp 3), none⟩,
  ⟨some 54, .fieldAddr 40 (.tmp 1) 5, none⟩,
  ⟨some 55, .load 23 (.tmp 54), none⟩,
  ⟨some 56, .move (.tmp 4), none⟩,
  ⟨some 57, .indexAddr 23 (.tmp 55) (.tmp 56), none⟩,
  ⟨some 58, .load 38 (.tmp 57), none⟩,
  ⟨some 59, .call { callee := .value (.func 62), args := #[.tmp 58], argTypes := #[38] }, none⟩,
  ⟨some 60, .binOp .add 9 (.tmp 53) (.tmp 59) 9, none⟩,
  ⟨some 3, .assign (.tmp 60), none⟩] false)).seq (SC.region 7 [⟨some 51, .move (.tmp 4), none⟩,
  ⟨some 52, .binOp .add 3 (.tmp 51) (.const (.int .i64 1)) 3, none⟩,
  ⟨some 4, .assign (.tmp 52), none⟩] false)))
/-- lectionaryref12.Op -/
def s38 : SC := ((SC.region 0 [⟨some 1, .box 40 (.tmp 0), none⟩,
  ⟨some 2, .assign (.const (.string { data := #[] })), none⟩] false).seq ((SC.region 1 [⟨some 5, .fieldAddr 40 (.tmp 1) 0, none⟩,
  ⟨some 6, .load 3 (.tmp 5), none⟩,
  ⟨some 7, .call { callee := .value (.func 37), args := #[.tmp 6], argTypes := #[3] }, none⟩,
  ⟨some 8, .fieldAddr 40 (.tmp 1) 1, none⟩,
  ⟨some 9, .load 3 (.tmp 8), none⟩,
  ⟨some 10, .call { callee := .value (.func 37), args := #[.tmp 9], argTypes := #[3] }, none⟩,
  ⟨some 11, .binOp .add 9 (.tmp 7) (.tmp 10) 9, none⟩,
  ⟨some 12, .fieldAddr 40 (.tmp 1) 2, none⟩,
  ⟨some 13, .load 3 (.tmp 12), none⟩,
  ⟨some 14, .call { callee := .value (.func 37), args := #[.tmp 13], argTypes := #[3] }, none⟩,
  ⟨some 15, .binOp .add 9 (.tmp 11) (.tmp 14) 9, none⟩,
  ⟨some 3, .assign (.tmp 15), none⟩] true).seq (((SC.region 2 [⟨some 16, .fieldAddr 40 (.tmp 1) 2, none⟩,
  ⟨some 17, .load 3 (.tmp 16), none⟩,
  ⟨some 18, .binOp .eql 3 (.tmp 17) (.const (.int .i64 2)) 3, none⟩] false).seq (SC.cond (.tmp 18) ((SC.region 3 [⟨some 19, .move (.tmp 3), none⟩,
  ⟨some 20, .fieldAddr 40 (.tmp 1) 6, none⟩,
  ⟨some 21, .load 3 (.tmp 20), none⟩,
  ⟨some 22, .call { callee := .value (.func 37), args := #[.tmp 21], argTypes := #[3] }, none⟩,
  ⟨some 23, .binOp .add 9 (.tmp 19) (.tmp 22) 9, none⟩,
  ⟨some 24, .fieldAddr 40 (.tmp 1) 7, none⟩,
  ⟨some 25, .load 3 (.tmp 24), none⟩,
  ⟨some 26, .call { callee := .value (.func 37), args := #[.tmp 25], argTypes := #[3] }, none⟩,
  ⟨some 27, .binOp .add 9 (.tmp 23) (.tmp 26) 9, none⟩,
  ⟨some 28, .fieldAddr 40 (.tmp 1) 8, none⟩,
  ⟨some 29, .load 3 (.tmp 28), none⟩,
  ⟨some 30, .call { callee := .value (.func 37), args := #[.tmp 29], argTypes := #[3] }, none⟩,
  ⟨some 31, .binOp .add 9 (.tmp 27) (.tmp 30) 9, none⟩,
  ⟨some 2, .assign (.tmp 31), none⟩] true).seq SC.ret) SC.skip)).seq ((SC.region 4 [⟨some 32, .move (.tmp 3), none⟩,
  ⟨some 33, .fieldAddr 40 (.tmp 1) 3, none⟩,
  ⟨some 34, .load 38 (.tmp 33), none⟩,
  ⟨some 35, .call { callee := .value (.func 62), args := #[.tmp 34], argTypes := #[38] }, none⟩,
  ⟨some 36, .binOp .add 9 (.tmp 32) (.tmp 35) 9, none⟩,
  ⟨some 37, .fieldAddr 40 (.tmp 1) 4, none⟩,
  ⟨some 38, .load 9 (.tmp 37), none⟩,
  ⟨some 39, .call { callee := .value (.func 63), args := #[.tmp 38], argTypes := #[9] }, none⟩,
  ⟨some 40, .binOp .add 9 (.tmp 36) (.tmp 39) 9, none⟩,
  ⟨some 41, .fieldAddr 40 (.tmp 1) 5, none⟩,
  ⟨some 42, .load 23 (.tmp 41), none⟩,
  ⟨some 43, .call { callee := .builtin .len, args := #[.tmp 42], argTypes := #[23] }, none⟩,
  ⟨some 44, .call { callee := .value (.func 37), args := #[.tmp 43], argTypes := #[3] }, none⟩,
  ⟨some 45, .binOp .add 9 (.tmp 40) (.tmp 44) 9, none⟩,
  ⟨some 3, .assign (.tmp 45), none⟩] true).seq (((SC.region 5 [⟨some 4, .assign (.const (.int .i64 0)), none⟩] false).seq (SC.block 0 (SC.loop s38L0))).seq ((SC.region 9 [⟨some 61, .move (.tmp 3), none⟩,
  ⟨some 2, .assign (.tmp 61), none⟩] false).seq SC.ret))))))
theorem sl38 : slimK Tryz.f38.body s38 = some (unK s38, true) := by kernel_rfl
theorem ok38 : fnOK calmB Tryz.f38 0 = true := by kernel_rfl

def s39L0 : SC := (((SC.region 3 [⟨some 5, .move (.tmp 4), none⟩,
  ⟨some 6, .move (.tmp 0), none⟩,
  ⟨some 7, .call { callee := .builtin .len, args := #[.tmp 6], argTypes := #[9] }, none⟩,
  ⟨some 8, .binOp .lss 3 (.tmp 5) (.tmp 7) 3, none⟩] false).seq (SC.cond (.tmp 8) SC.skip (SC.exit 0))).seq ((SC.block 1 (SC.region 5 [⟨some 11, .move (.tmp 3), none⟩,
  ⟨some 12, .binOp .mul 100 (.tmp 11) (.const (.int .u64 263)) 100, none⟩,
  ⟨some 13, .move (.tmp 0), none⟩,
  ⟨some 14, .move (.tmp 4), none⟩,
  ⟨some 15, .index 9 (.tmp 13) (.tmp 14), none⟩,
  ⟨some 16, .convert 5 100 (.tmp 15), none⟩,
  ⟨some 17, .binOp .add 100 (.tmp 12) (.tmp 16) 100, none⟩,
  ⟨some 18, .binOp .add 100 (.tmp 17) (.const (.int .u64 7)) 100, none⟩,
  ⟨some 19, .binOp .rem 100 (.tmp 18) (.const (.int .u64 4294967291)) 100, none⟩,
  ⟨some 3, .assign (.tmp 19), none⟩] false)).seq (SC.region 4 [⟨some 9, .move (.tmp 4), none⟩,
  ⟨some 10, .binOp .add 3 (.tmp 9) (.const (.int .i64 1)) 3, none⟩,
  ⟨some 4, .assign (.tmp 10), none⟩] false)))
/-- lectionaryref1.Check -/
def s39 : SC := ((SC.region 0 [⟨some 2, .assign (.const (.int .u32 0)), none⟩] false).seq ((SC.region 1 [⟨some 3, .assign (.const (.int .u64 1)), none⟩] false).seq (((SC.region 2 [⟨some 4, .assign (.const (.int .i64 0)), none⟩] false).seq (SC.block 0 (SC.loop s39L0))).seq ((SC.region 6 [⟨some 20, .move (.tmp 3), none⟩,
  ⟨some 21, .convert 100 80 (.tmp 20), none⟩,
  ⟨some 2, .assign (.tmp 21), none⟩] false).seq SC.ret))))
theorem sl39 : slimK Tryz.f39.body s39 = some (unK s39, true) := by kernel_rfl
theorem ok39 : fnOK calmB Tryz.f39 0 = true := by kernel_rfl

/-- seal.Take -/
def s49 : SC := ((SC.region 0 [⟨some 2, .assign (.const (.string { data := #[] })), none⟩,
  ⟨some 3, .assign (.const (.string { data := #[] })), none⟩,
  ⟨some 4, .assign (.const (.bool false)), none⟩] false).seq ((SC.region 1 [⟨some 9, .move (.tmp 0), none⟩,
  ⟨some 10, .call { callee := .value (.func 72), args := #[.tmp 9], argTypes := #[9] }, none⟩,
  ⟨some 8, .move (.tmp 10), none⟩,
  ⟨some 11, .extract (.tmp 8) 0, none⟩,
  ⟨some 12, .extract (.tmp 8) 1, none⟩,
  ⟨some 13, .extract (.tmp 8) 2, none⟩,
  ⟨some 5, .assign (.tmp 11), none⟩,
  ⟨some 3, .assign (.tmp 12), none⟩,
  ⟨some 6, .assign (.tmp 13), none⟩] false).seq (((SC.region 2 [⟨some 14, .move (.tmp 6), none⟩,
  ⟨some 15, .binOp .neq 41 (.tmp 14) (.const (.int .i64 0)) 41, none⟩,
  ⟨some 16, .move (.tmp 15), none⟩,
  ⟨some 17, .move (.tmp 5), some (some 16, false)⟩,
  ⟨some 18, .binOp .gtr 3 (.tmp 17) (.const (.int .i64 700)) 3, some (some 16, false)⟩,
  ⟨some 19, .pick (.tmp 16) (.const (.bool true)) (.tmp 18), none⟩,
  ⟨some 20, .move (.tmp 19), none⟩,
  ⟨some 21, .move (.tmp 5), some (some 20, false)⟩,
  ⟨some 22, .move (.tmp 3), some (some 20, false)⟩,
  ⟨some 23, .call { callee := .builtin .len, args := #[.tmp 22], argTypes := #[9] }, some (some 20, false)⟩,
  ⟨some 24, .binOp .sub 3 (.tmp 23) (.const (.int .i64 4)) 3, some (some 20, false)⟩,
  ⟨some 25, .binOp .gtr 3 (.tmp 21) (.tmp 24) 3, some (some 20, false)⟩,
  ⟨some 26, .pick (.tmp 20) (.const (.bool true)) (.tmp 25), none⟩] false).seq (SC.cond (.tmp 26) ((SC.region 3 [⟨some 2, .assign (.const (.string { data := #[] })), none⟩,
  ⟨some 3, .assign (.const (.string { data := #[] })), none⟩,
  ⟨some 4, .assign (.const (.bool false)), none⟩] false).seq SC.ret) SC.skip)).seq ((SC.region 4 [⟨some 27, .move (.tmp 0), none⟩,
  ⟨some 28, .move (.tmp 0), none⟩,
  ⟨some 29, .call { callee := .builtin .len, args := #[.tmp 28], argTypes := #[9] }, none⟩,
  ⟨some 30, .move (.tmp 3), none⟩,
  ⟨some 31, .call { callee := .builtin .len, args := #[.tmp 30], argTypes := #[9] }, none⟩,
  ⟨some 32, .binOp .sub 3 (.tmp 29) (.tmp 31) 3, none⟩,
  ⟨some 33, .slice 9 (.tmp 27) none (some (.tmp 32)) none, none⟩,
  ⟨some 7, .assign (.tmp 33), none⟩] false).seq ((SC.region 5 [⟨some 34, .move (.tmp 3), none⟩,
  ⟨some 35, .move (.tmp 5), none⟩,
  ⟨some 36, .binOp .add 3 (.const (.int .i64 4)) (.tmp 35) 3, none⟩,
  ⟨some 37, .slice 9 (.tmp 34) (some (.const (.int .i64 4))) (some (.tmp 36)) none, none⟩,
  ⟨some 2, .assign (.tmp 37), none⟩] false).seq (((SC.region 6 [⟨some 38, .move (.tmp 3), none⟩,
  ⟨some 39, .slice 9 (.tmp 38) none (some (.const (.int .i64 4))) none, none⟩,
  ⟨some 40, .move (.tmp 7), none⟩,
  ⟨some 41, .move (.tmp 2), none⟩,
  ⟨some 42, .binOp .add 9 (.tmp 40) (.tmp 41) 9, none⟩,
  ⟨some 43, .call { callee := .value (.func 61), args := #[.tmp 42], argTypes := #[9] }, none⟩,
  ⟨some 44, .call { callee := .value (.func 60), args := #[.tmp 43], argTypes := #[80] }, none⟩,
  ⟨some 45, .binOp .neq 9 (.tmp 39) (.tmp 44) 9, none⟩] true).seq (SC.cond (.tmp 45) ((SC.region 7 [⟨some 2, .assign (.const (.string { data := #[] })), none⟩,
  ⟨some 3, .assign (.const (.string { data := #[] })), none⟩,
  ⟨some 4, .assign (.const (.bool false)), none⟩] false).seq SC.ret) SC.skip)).seq ((SC.region 8 [⟨some 46, .move (.tmp 2), none⟩,
  ⟨some 47, .move (.tmp 3), none⟩,
  ⟨some 48, .move (.tmp 5), none⟩,
  ⟨some 49, .binOp .add 3 (.const (.int .i64 4)) (.tmp 48) 3, none⟩,
  ⟨some 50, .slice 9 (.tmp 47) (some (.tmp 49)) none none, none⟩,
  ⟨some 2, .assign (.tmp 46), none⟩,
  ⟨some 3, .assign (.tmp 50), none⟩,
  ⟨some 4, .assign (.const (.bool true)), none⟩] true).seq SC.ret)))))))
theorem sl49 : slimK Tryz.f49.body s49 = some (unK s49, true) := by kernel_rfl
theorem ok49 : fnOK calmB Tryz.f49 0 = true := by kernel_rfl

/-- store.read -/
def s50 : SC := ((SC.region 0 [⟨some 2, .alloc 45, none⟩,
  ⟨some 3, .assign (.const (.bool false)), none⟩] false).seq ((SC.region 1 [⟨some 8, .move (.tmp 0), none⟩,
  ⟨some 9, .call { callee := .value (.func 72), args := #[.tmp 8], argTypes := #[9] }, none⟩,
  ⟨some 7, .move (.tmp 9), none⟩,
  ⟨some 10, .extract (.tmp 7) 0, none⟩,
  ⟨some 11, .extract (.tmp 7) 1, none⟩,
  ⟨some 12, .extract (.tmp 7) 2, none⟩,
  ⟨some 4, .assign (.tmp 10), none⟩,
  ⟨some 5, .assign (.tmp 11), none⟩,
  ⟨some 6, .assign (.tmp 12), none⟩] false).seq ((SC.block 0 ((SC.region 3 [⟨some 21, .move (.tmp 6), none⟩,
  ⟨some 22, .binOp .neq 41 (.tmp 21) (.const (.int .i64 0)) 41, none⟩,
  ⟨some 23, .move (.tmp 22), none⟩,
  ⟨some 24, .move (.tmp 4), some (some 23, false)⟩,
  ⟨some 25, .binOp .gtr 3 (.tmp 24) (.const (.int .i64 1)) 3, some (some 23, false)⟩,
  ⟨some 26, .pick (.tmp 23) (.const (.bool true)) (.tmp 25), none⟩,
  ⟨some 20, .assign (.tmp 26), none⟩] false).seq (SC.cond (.tmp 20) ((SC.region 4 [⟨some 27, .load 45 (.tmp 2), none⟩,
  ⟨none, .store 45 (.tmp 2) (.tmp 27), none⟩,
  ⟨some 3, .assign (.const (.bool false)), none⟩] false).seq SC.ret) ((SC.region 5 [⟨some 29, .move (.tmp 4), none⟩,
  ⟨some 30, .binOp .eql 3 (.tmp 29) (.const (.int .i64 1)) 3, none⟩,
  ⟨some 28, .assign (.tmp 30), none⟩] false).seq (SC.cond (.tmp 28) ((SC.region 6 [⟨some 31, .fieldAddr 45 (.tmp 2) 0, none⟩,
  ⟨none, .store 4 (.tmp 31) (.const (.bool true)), none⟩] false).seq (SC.region 7 [⟨some 33, .move (.tmp 5), none⟩,
  ⟨some 34, .call { callee := .value (.func 72), args := #[.tmp 33], argTypes := #[9] }, none⟩,
  ⟨some 32, .move (.tmp 34), none⟩,
  ⟨some 35, .extract (.tmp 32) 0, none⟩,
  ⟨some 36, .extract (.tmp 32) 1, none⟩,
  ⟨some 37, .extract (.tmp 32) 2, none⟩,
  ⟨some 38, .fieldAddr 45 (.tmp 2) 1, none⟩,
  ⟨none, .store 3 (.tmp 38) (.tmp 35), none⟩,
  ⟨some 5, .assign (.tmp 36), none⟩,
  ⟨some 6, .assign (.tmp 37), none⟩] false)) (SC.region 2 [⟨some 14, .move (.tmp 5), none⟩,
  ⟨some 15, .call { callee := .value (.func 73), args := #[.tmp 14], argTypes := #[9] }, none⟩,
  ⟨some 13, .move (.tmp 15), none⟩,
  ⟨some 16, .extract (.tmp 13) 0, none⟩,
  ⟨some 17, .extract (.tmp 13) 1, none⟩,
  ⟨some 18, .extract (.tmp 13) 2, none⟩,
  ⟨some 19, .fieldAddr 45 (.tmp 2) 2, none⟩,
  ⟨none, .store 40 (.tmp 19) (.tmp 16), none⟩,
  ⟨some 5, .assign (.tmp 17), none⟩,
  ⟨some 6, .assign (.tmp 18), none⟩] false)))))).seq ((SC.region 8 [⟨some 39, .load 45 (.tmp 2), none⟩,
  ⟨some 40, .move (.tmp 6), none⟩,
  ⟨some 41, .binOp .eql 41 (.tmp 40) (.const (.int .i64 0)) 41, none⟩,
  ⟨some 42, .move (.tmp 41), none⟩,
  ⟨some 43, .move (.tmp 5), some (some 42, true)⟩,
  ⟨some 44, .binOp .eql 9 (.tmp 43) (.const (.string { data := #[] })) 9, some (some 42, true)⟩,
  ⟨some 45, .pick (.tmp 42) (.tmp 44) (.const (.bool false)), none⟩,
  ⟨some 46, .move (.tmp 45), none⟩,
  ⟨some 47, .load 45 (.tmp 2), some (some 46, true)⟩,
  ⟨some 48, .call { callee := .value (.func 16), args := #[.tmp 47], argTypes := #[45] }, some (some 46, true)⟩,
  ⟨some 49, .pick (.tmp 46) (.tmp 48) (.const (.bool false)), none⟩,
  ⟨none, .store 45 (.tmp 2) (.tmp 39), none⟩,
  ⟨some 3, .assign (.tmp 49), none⟩] true).seq SC.ret))))
theorem sl50 : slimK Tryz.f50.body s50 = some (unK s50, true) := by kernel_rfl
theorem ok50 : fnOK calmB Tryz.f50 0 = true := by kernel_rfl

/-- op.Same -/
def s52 : SC := ((SC.region 0 [⟨some 2, .box 40 (.tmp 0), none⟩,
  ⟨some 3, .box 40 (.tmp 1), none⟩,
  ⟨some 4, .assign (.const (.bool false)), none⟩] false).seq ((SC.region 1 [⟨some 5, .fieldAddr 40 (.tmp 2) 5, none⟩,
  ⟨some 6, .load 23 (.tmp 5), none⟩,
  ⟨some 7, .fieldAddr 40 (.tmp 3) 5, none⟩,
  ⟨some 8, .load 23 (.tmp 7), none⟩,
  ⟨some 9, .call { callee := .value (.func 75), args := #[.tmp 6, .tmp 8], argTypes := #[23, 23] }, none⟩,
  ⟨some 10, .move (.tmp 9), none⟩,
  ⟨some 11, .fieldAddr 40 (.tmp 2) 0, some (some 10, true)⟩,
  ⟨some 12, .load 3 (.tmp 11), some (some 10, true)⟩,
  ⟨some 13, .fieldAddr 40 (.tmp 3) 0, some (some 10, true)⟩,
  ⟨some 14, .load 3 (.tmp 13), some (some 10, true)⟩,
  ⟨some 15, .binOp .eql 3 (.tmp 12) (.tmp 14) 3, some (some 10, true)⟩,
  ⟨some 16, .pick (.tmp 10) (.tmp 15) (.const (.bool false)), none⟩,
  ⟨some 17, .move (.tmp 16), none⟩,
  ⟨some 18, .fieldAddr 40 (.tmp 2) 1, some (some 17, true)⟩,
  ⟨some 19, .load 3 (.tmp 18), some (some 17, true)⟩,
  ⟨some 20, .fieldAddr 40 (.tmp 3) 1, some (some 17, true)⟩,
  ⟨some 21, .load 3 (.tmp 20), some (some 17, true)⟩,
  ⟨some 22, .binOp .eql 3 (.tmp 19) (.tmp 21) 3, some (some 17, true)⟩,
  ⟨some 23, .pick (.tmp 17) (.tmp 22) (.const (.bool false)), none⟩,
  ⟨some 24, .move (.tmp 23), none⟩,
  ⟨some 25, .fieldAddr 40 (.tmp 2) 2, some (some 24, true)⟩,
  ⟨some 26, .load 3 (.tmp 25), some (some 24, true)⟩,
  ⟨some 27, .fieldAddr 40 (.tmp 3) 2, some (some 24, true)⟩,
  ⟨some 28, .load 3 (.tmp 27), some (some 24, true)⟩,
  ⟨some 29, .binOp .eql 3 (.tmp 26) (.tmp 28) 3, some (some 24, true)⟩,
  ⟨some 30, .pick (.tmp 24) (.tmp 29) (.const (.bool false)), none⟩,
  ⟨some 31, .move (.tmp 30), none⟩,
  ⟨some 32, .fieldAddr 40 (.tmp 2) 3, some (some 31, true)⟩,
  ⟨some 33, .load 38 (.tmp 32), some (some 31, true)⟩,
  ⟨some 34, .fieldAddr 40 (.tmp 3) 3, some (some 31, true)⟩,
  ⟨some 35, .load 38 (.tmp 34), some (some 31, true)⟩,
  ⟨some 36, .binOp .eql 38 (.tmp 33) (.tmp 35) 38, some (some 31, true)⟩,
  ⟨some 37, .pick (.tmp 31) (.tmp 36) (.const (.bool false)), none⟩,
  ⟨some 38, .move (.tmp 37), none⟩,
  ⟨some 39, .fieldAddr 40 (.tmp 2) 4, some (some 38, true)⟩,
  ⟨some 40, .load 9 (.tmp 39), some (some 38, true)⟩,
  ⟨some 41, .fieldAddr 40 (.tmp 3) 4, some (some 38, true)⟩,
  ⟨some 42, .load 9 (.tmp 41), some (some 38, true)⟩,
  ⟨some 43, .binOp .eql 9 (.tmp 40) (.tmp 42) 9, some (some 38, true)⟩,
  ⟨some 44, .pick (.tmp 38) (.tmp 43) (.const (.bool false)), none⟩,
  ⟨some 45, .move (.tmp 44), none⟩,
  ⟨some 46, .fieldAddr 40 (.tmp 2) 6, some (some 45, true)⟩,
  ⟨some 47, .load 3 (.tmp 46), some (some 45, true)⟩,
  ⟨some 48, .fieldAddr 40 (.tmp 3) 6, some (some 45, true)⟩,
  ⟨some 49, .load 3 (.tmp 48), some (some 45, true)⟩,
  ⟨some 50, .binOp .eql 3 (.tmp 47) (.tmp 49) 3, some (some 45, true)⟩,
  ⟨some 51, .pick (.tmp 45) (.tmp 50) (.const (.bool false)), none⟩,
  ⟨some 52, .move (.tmp 51), none⟩,
  ⟨some 53, .fieldAddr 40 (.tmp 2) 7, some (some 52, true)⟩,
  ⟨some 54, .load 3 (.tmp 53), some (some 52, true)⟩,
  ⟨some 55, .fieldAddr 40 (.tmp 3) 7, some (some 52, true)⟩,
  ⟨some 56, .load 3 (.tmp 55), some (some 52, true)⟩,
  ⟨some 57, .binOp .eql 3 (.tmp 54) (.tmp 56) 3, some (some 52, true)⟩,
  ⟨some 58, .pick (.tmp 52) (.tmp 57) (.const (.bool false)), none⟩,
  ⟨some 59, .move (.tmp 58), none⟩,
  ⟨some 60, .fieldAddr 40 (.tmp 2) 8, some (some 59, true)⟩,
  ⟨some 61, .load 3 (.tmp 60), some (some 59, true)⟩,
  ⟨some 62, .fieldAddr 40 (.tmp 3) 8, some (some 59, true)⟩,
  ⟨some 63, .load 3 (.tmp 62), some (some 59, true)⟩,
  ⟨some 64, .binOp .eql 3 (.tmp 61) (.tmp 63) 3, some (some 59, true)⟩,
  ⟨some 65, .pick (.tmp 59) (.tmp 64) (.const (.bool false)), none⟩,
  ⟨some 4, .assign (.tmp 65), none⟩] false).seq SC.ret))
theorem sl52 : slimK Tryz.f52.body s52 = some (unK s52, true) := by kernel_rfl
theorem ok52 : fnOK calmB Tryz.f52 0 = true := by kernel_rfl

/-- op.Name -/
def s53 : SC := ((SC.region 0 [⟨some 4, .assign (.const (.bool false)), none⟩] false).seq ((SC.region 1 [⟨some 5, .move (.tmp 0), none⟩,
  ⟨some 6, .call { callee := .value (.func 76), args := #[.tmp 5], argTypes := #[3] }, none⟩,
  ⟨some 7, .move (.tmp 6), none⟩,
  ⟨some 8, .move (.tmp 1), some (some 7, true)⟩,
  ⟨some 9, .binOp .geq 3 (.tmp 8) (.const (.int .i64 1)) 3, some (some 7, true)⟩,
  ⟨some 10, .pick (.tmp 7) (.tmp 9) (.const (.bool false)), none⟩,
  ⟨some 11, .move (.tmp 10), none⟩,
  ⟨some 12, .move (.tmp 1), some (some 11, true)⟩,
  ⟨some 13, .binOp .leq 3 (.tmp 12) (.const (.int .i64 268435456)) 3, some (some 11, true)⟩,
  ⟨some 14, .pick (.tmp 11) (.tmp 13) (.const (.bool false)), none⟩,
  ⟨some 4, .assign (.tmp 14), none⟩] false).seq SC.ret))
theorem sl53 : slimK Tryz.f53.body s53 = some (unK s53, true) := by kernel_rfl
theorem ok53 : fnOK calmB Tryz.f53 0 = true := by kernel_rfl

/-- op.edit -/
def s54 : SC := ((SC.region 0 [⟨some 1, .box 40 (.tmp 0), none⟩,
  ⟨some 2, .assign (.const (.bool false)), none⟩] false).seq (((SC.region 1 [⟨some 3, .fieldAddr 40 (.tmp 1) 3, none⟩,
  ⟨some 4, .load 38 (.tmp 3), none⟩,
  ⟨some 5, .call { callee := .value (.func 77), args := #[.tmp 4], argTypes := #[38] }, none⟩,
  ⟨some 6, .unOp .not 4 (.tmp 5), none⟩,
  ⟨some 7, .move (.tmp 6), none⟩,
  ⟨some 8, .load 40 (.tmp 1), some (some 7, false)⟩,
  ⟨some 9, .fieldAddr 40 (.tmp 1) 3, some (some 7, false)⟩,
  ⟨some 10, .load 38 (.tmp 9), some (some 7, false)⟩,
  ⟨some 11, .call { callee := .value (.func 78), args := #[.tmp 8, .tmp 10], argTypes := #[40, 38] }, some (some 7, false)⟩,
  ⟨some 12, .pick (.tmp 7) (.const (.bool true)) (.tmp 11), none⟩,
  ⟨some 13, .move (.tmp 12), none⟩,
  ⟨some 14, .fieldAddr 40 (.tmp 1) 4, some (some 13, false)⟩,
  ⟨some 15, .load 9 (.tmp 14), some (some 13, false)⟩,
  ⟨some 16, .binOp .eql 9 (.tmp 15) (.const (.string { data := #[] })) 9, some (some 13, false)⟩,
  ⟨some 17, .move (.tmp 16), some (some 13, false)⟩,
  ⟨some 18, .fieldAddr 40 (.tmp 1) 3, some (some 17, true)⟩,
  ⟨some 19, .load 38 (.tmp 18), some (some 17, true)⟩,
  ⟨some 20, .build 38 #[], some (some 17, true)⟩,
  ⟨some 21, .binOp .neq 38 (.tmp 19) (.tmp 20) 38, some (some 17, true)⟩,
  ⟨some 22, .pick (.tmp 17) (.tmp 21) (.const (.bool false)), some (some 13, false)⟩,
  ⟨some 23, .pick (.tmp 13) (.const (.bool true)) (.tmp 22), none⟩,
  ⟨some 24, .move (.tmp 23), none⟩,
  ⟨some 25, .fieldAddr 40 (.tmp 1) 4, some (some 24, false)⟩,
  ⟨some 26, .load 9 (.tmp 25), some (some 24, false)⟩,
  ⟨some 27, .binOp .eql 9 (.tmp 26) (.const (.string { data := #[] })) 9, some (some 24, false)⟩,
  ⟨some 28, .move (.tmp 27), some (some 24, false)⟩,
  ⟨some 29, .fieldAddr 40 (.tmp 1) 5, some (some 28, true)⟩,
  ⟨some 30, .load 23 (.tmp 29), some (some 28, true)⟩,
  ⟨some 31, .call { callee := .builtin .len, args := #[.tmp 30], argTypes := #[23] }, some (some 28, true)⟩,
  ⟨some 32, .binOp .eql 3 (.tmp 31) (.const (.int .i64 0)) 3, some (some 28, true)⟩,
  ⟨some 33, .pick (.tmp 28) (.tmp 32) (.const (.bool false)), some (some 24, false)⟩,
  ⟨some 34, .pick (.tmp 24) (.const (.bool true)) (.tmp 33), none⟩] false).seq (SC.cond (.tmp 34) ((SC.region 2 [⟨some 2, .assign (.const (.bool false)), none⟩] false).seq SC.ret) SC.skip)).seq ((SC.region 3 [⟨some 35, .fieldAddr 40 (.tmp 1) 4, none⟩,
  ⟨some 36, .load 9 (.tmp 35), none⟩,
  ⟨some 37, .call { callee := .value (.func 79), args := #[.tmp 36], argTypes := #[9] }, none⟩,
  ⟨some 38, .move (.tmp 37), none⟩,
  ⟨some 39, .load 40 (.tmp 1), some (some 38, true)⟩,
  ⟨some 40, .call { callee := .value (.func 80), args := #[.tmp 39], argTypes := #[40] }, some (some 38, true)⟩,
  ⟨some 41, .binOp .leq 3 (.tmp 40) (.const (.int .i64 12)) 3, some (some 38, true)⟩,
  ⟨some 42, .pick (.tmp 38) (.tmp 41) (.const (.bool false)), none⟩,
  ⟨some 43, .move (.tmp 42), none⟩,
  ⟨some 44, .load 40 (.tmp 1), some (some 43, true)⟩,
  ⟨some 45, .call { callee := .value (.func 81), args := #[.tmp 44], argTypes := #[40] }, some (some 43, true)⟩,
  ⟨some 46, .pick (.tmp 43) (.tmp 45) (.const (.bool false)), none⟩,
  ⟨some 47, .move (.tmp 46), none⟩,
  ⟨some 48, .fieldAddr 40 (.tmp 1) 6, some (some 47, true)⟩,
  ⟨some 49, .load 3 (.tmp 48), some (some 47, true)⟩,
  ⟨some 50, .binOp .eql 3 (.tmp 49) (.const (.int .i64 0)) 3, some (some 47, true)⟩,
  ⟨some 51, .pick (.tmp 47) (.tmp 50) (.const (.bool false)), none⟩,
  ⟨some 52, .move (.tmp 51), none⟩,
  ⟨some 53, .fieldAddr 40 (.tmp 1) 7, some (some 52, true)⟩,
  ⟨some 54, .load 3 (.tmp 53), some (some 52, true)⟩,
  ⟨some 55, .binOp .eql 3 (.tmp 54) (.const (.int .i64 0)) 3, some (some 52, true)⟩,
  ⟨some 56, .pick (.tmp 52) (.tmp 55) (.const (.bool false)), none⟩,
  ⟨some 57, .move (.tmp 56), none⟩,
  ⟨some 58, .fieldAddr 40 (.tmp 1) 8, some (some 57, true)⟩,
  ⟨some 59, .load 3 (.tmp 58), some (some 57, true)⟩,
  ⟨some 60, .binOp .eql 3 (.tmp 59) (.const (.int .i64 0)) 3, some (some 57, true)⟩,
  ⟨some 61, .pick (.tmp 57) (.tmp 60) (.const (.bool false)), none⟩,
  ⟨some 2, .assign (.tmp 61), none⟩] false).seq SC.ret)))
theorem sl54 : slimK Tryz.f54.body s54 = some (unK s54, true) := by kernel_rfl
theorem ok54 : fnOK calmB Tryz.f54 0 = true := by kernel_rfl

/-- op.toggle -/
def s55 : SC := ((SC.region 0 [⟨some 1, .box 40 (.tmp 0), none⟩,
  ⟨some 2, .assign (.const (.bool false)), none⟩] false).seq (((SC.region 1 [⟨some 3, .fieldAddr 40 (.tmp 1) 6, none⟩,
  ⟨some 4, .load 3 (.tmp 3), none⟩,
  ⟨some 5, .fieldAddr 40 (.tmp 1) 7, none⟩,
  ⟨some 6, .load 3 (.tmp 5), none⟩,
  ⟨some 7, .call { callee := .value (.func 53), args := #[.tmp 4, .tmp 6], argTypes := #[3, 3] }, none⟩,
  ⟨some 8, .unOp .not 4 (.tmp 7), none⟩,
  ⟨some 9, .move (.tmp 8), none⟩,
  ⟨some 10, .fieldAddr 40 (.tmp 1) 6, some (some 9, false)⟩,
  ⟨some 11, .load 3 (.tmp 10), some (some 9, false)⟩,
  ⟨some 12, .fieldAddr 40 (.tmp 1) 0, some (some 9, false)⟩,
  ⟨some 13, .load 3 (.tmp 12), some (some 9, false)⟩,
  ⟨some 14, .binOp .eql 3 (.tmp 11) (.tmp 13) 3, some (some 9, false)⟩,
  ⟨some 15, .move (.tmp 14), some (some 9, false)⟩,
  ⟨some 16, .fieldAddr 40 (.tmp 1) 7, some (some 15, true)⟩,
  ⟨some 17, .load 3 (.tmp 16), some (some 15, true)⟩,
  ⟨some 18, .fieldAddr 40 (.tmp 1) 1, some (some 15, true)⟩,
  ⟨some 19, .load 3 (.tmp 18), some (some 15, true)⟩,
  ⟨some 20, .binOp .eql 3 (.tmp 17) (.tmp 19) 3, some (some 15, true)⟩,
  ⟨some 21, .pick (.tmp 15) (.tmp 20) (.const (.bool false)), some (some 9, false)⟩,
  ⟨some 22, .pick (.tmp 9) (.const (.bool true)) (.tmp 21), none⟩,
  ⟨some 23, .move (.tmp 22), none⟩,
  ⟨some 24, .fieldAddr 40 (.tmp 1) 8, some (some 23, false)⟩,
  ⟨some 25, .load 3 (.tmp 24), some (some 23, false)⟩,
  ⟨some 26, .binOp .lss 3 (.tmp 25) (.const (.int .i64 0)) 3, some (some 23, false)⟩,
  ⟨some 27, .pick (.tmp 23) (.const (.bool true)) (.tmp 26), none⟩,
  ⟨some 28, .move (.tmp 27), none⟩,
  ⟨some 29, .fieldAddr 40 (.tmp 1) 8, some (some 28, false)⟩,
  ⟨some 30, .load 3 (.tmp 29), some (some 28, false)⟩,
  ⟨some 31, .binOp .gtr 3 (.tmp 30) (.const (.int .i64 268435456)) 3, some (some 28, false)⟩,
  ⟨some 32, .pick (.tmp 28) (.const (.bool true)) (.tmp 31), none⟩] false).seq (SC.cond (.tmp 32) ((SC.region 2 [⟨some 2, .assign (.const (.bool false)), none⟩] false).seq SC.ret) SC.skip)).seq ((SC.region 3 [⟨some 33, .fieldAddr 40 (.tmp 1) 3, none⟩,
  ⟨some 34, .load 38 (.tmp 33), none⟩,
  ⟨some 35, .build 38 #[], none⟩,
  ⟨some 36, .binOp .eql 38 (.tmp 34) (.tmp 35) 38, none⟩,
  ⟨some 37, .move (.tmp 36), none⟩,
  ⟨some 38, .fieldAddr 40 (.tmp 1) 4, some (some 37, true)⟩,
  ⟨some 39, .load 9 (.tmp 38), some (some 37, true)⟩,
  ⟨some 40, .binOp .eql 9 (.tmp 39) (.const (.string { data := #[] })) 9, some (some 37, true)⟩,
  ⟨some 41, .pick (.tmp 37) (.tmp 40) (.const (.bool false)), none⟩,
  ⟨some 42, .move (.tmp 41), none⟩,
  ⟨some 43, .fieldAddr 40 (.tmp 1) 5, some (some 42, true)⟩,
  ⟨some 44, .load 23 (.tmp 43), some (some 42, true)⟩,
  ⟨some 45, .call { callee := .builtin .len, args := #[.tmp 44], argTypes := #[23] }, some (some 42, true)⟩,
  ⟨some 46, .binOp .eql 3 (.tmp 45) (.const (.int .i64 0)) 3, some (some 42, true)⟩,
  ⟨some 47, .pick (.tmp 42) (.tmp 46) (.const (.bool false)), none⟩,
  ⟨some 2, .assign (.tmp 47), none⟩] false).seq SC.ret)))
theorem sl55 : slimK Tryz.f55.body s55 = some (unK s55, true) := by kernel_rfl
theorem ok55 : fnOK calmB Tryz.f55 0 = true := by kernel_rfl

/-- pack.elem -/
def s57 : SC := ((SC.region 0 [⟨some 1, .box 38 (.tmp 0), none⟩,
  ⟨some 2, .assign (.const (.string { data := #[] })), none⟩] false).seq ((SC.region 1 [⟨some 3, .fieldAddr 38 (.tmp 1) 0, none⟩,
  ⟨some 4, .load 3 (.tmp 3), none⟩,
  ⟨some 5, .fieldAddr 38 (.tmp 1) 1, none⟩,
  ⟨some 6, .load 3 (.tmp 5), none⟩,
  ⟨some 7, .fieldAddr 38 (.tmp 1) 2, none⟩,
  ⟨some 8, .load 3 (.tmp 7), none⟩,
  ⟨some 9, .buildSlice 24 3 #[(0, .tmp 4), (1, .tmp 6), (2, .tmp 8)], none⟩,
  ⟨some 10, .call { callee := .value (.func 56), args := #[.tmp 9], argTypes := #[24] }, none⟩,
  ⟨some 2, .assign (.tmp 10), none⟩] false).seq SC.ret))
theorem sl57 : slimK Tryz.f57.body s57 = some (unK s57, true) := by kernel_rfl
theorem ok57 : fnOK calmB Tryz.f57 0 = true := by kernel_rfl

/-- number.Text -/
def s58 : SC := ((SC.region 0 [⟨some 2, .assign (.const (.string { data := #[] })), none⟩] false).seq ((SC.region 1 [⟨some 3, .move (.tmp 0), none⟩,
  ⟨some 4, .call { callee := .builtin .len, args := #[.tmp 3], argTypes := #[9] }, none⟩,
  ⟨some 5, .call { callee := .value (.func 33), args := #[.tmp 4], argTypes := #[3] }, none⟩,
  ⟨some 6, .move (.tmp 0), none⟩,
  ⟨some 7, .binOp .add 9 (.tmp 5) (.tmp 6) 9, none⟩,
  ⟨some 2, .assign (.tmp 7), none⟩] false).seq SC.ret))
theorem sl58 : slimK Tryz.f58.body s58 = some (unK s58, true) := by kernel_rfl
theorem ok58 : fnOK calmB Tryz.f58 0 = true := by kernel_rfl

/-- seal.spelt -/
def s60 : SC := ((SC.region 0 [⟨some 2, .assign (.const (.string { data := #[] })), none⟩] false).seq ((SC.region 1 [⟨some 3, .move (.tmp 0), none⟩,
  ⟨some 4, .binOp .shr 80 (.tmp 3) (.const (.int .u64 24)) 82, none⟩,
  ⟨some 5, .convert 80 5 (.tmp 4), none⟩,
  ⟨some 6, .move (.tmp 0), none⟩,
  ⟨some 7, .binOp .shr 80 (.tmp 6) (.const (.int .u64 16)) 82, none⟩,
  ⟨some 8, .convert 80 5 (.tmp 7), none⟩,
  ⟨some 9, .move (.tmp 0), none⟩,
  ⟨some 10, .binOp .shr 80 (.tmp 9) (.const (.int .u64 8)) 82, none⟩,
  ⟨some 11, .convert 80 5 (.tmp 10), none⟩,
  ⟨some 12, .move (.tmp 0), none⟩,
  ⟨some 13, .convert 80 5 (.tmp 12), none⟩,
  ⟨some 14, .buildSlice 83 4 #[(0, .tmp 5), (1, .tmp 8), (2, .tmp 11), (3, .tmp 13)], none⟩,
  ⟨some 15, .convert 83 9 (.tmp 14), none⟩,
  ⟨some 2, .assign (.tmp 15), none⟩] false).seq SC.ret))
theorem sl60 : slimK Tryz.f60.body s60 = some (unK s60, true) := by kernel_rfl
theorem ok60 : fnOK calmB Tryz.f60 0 = true := by kernel_rfl

def s61L0 : SC := ((SC.region 3 [⟨some 8, .binOp .lss 3 (.tmp 7) (.tmp 6) 3, none⟩] false).seq ((SC.cond (.tmp 8) SC.skip (SC.exit 0)).seq ((SC.block 1 ((SC.region 4 [⟨some 9, .move (.tmp 7), none⟩,
  ⟨some 4, .assign (.tmp 9), none⟩] false).seq (SC.region 5 [⟨some 10, .move (.tmp 3), none⟩,
  ⟨some 11, .binOp .mul 100 (.tmp 10) (.const (.int .u64 263)) 100, none⟩,
  ⟨some 12, .move (.tmp 0), none⟩,
  ⟨some 13, .move (.tmp 4), none⟩,
  ⟨some 14, .index 9 (.tmp 12) (.tmp 13), none⟩,
  ⟨some 15, .convert 5 100 (.tmp 14), none⟩,
  ⟨some 16, .binOp .add 100 (.tmp 11) (.tmp 15) 100, none⟩,
  ⟨some 17, .binOp .add 100 (.tmp 16) (.const (.int .u64 7)) 100, none⟩,
  ⟨some 18, .binOp .rem 100 (.tmp 17) (.const (.int .u64 4294967291)) 100, none⟩,
  ⟨some 3, .assign (.tmp 18), none⟩] false))).seq (SC.region 6 [⟨some 19, .binOp .add 3 (.tmp 7) (.const (.int .i64 1)) 3, none⟩,
  ⟨some 7, .move (.tmp 19), none⟩] false))))
/-- seal.Of -/
def s61 : SC := ((SC.region 0 [⟨some 2, .assign (.const (.int .u32 0)), none⟩] false).seq ((SC.region 1 [⟨some 3, .assign (.const (.int .u64 1)), none⟩] false).seq (((SC.region 2 [⟨some 5, .move (.tmp 0), none⟩,
  ⟨some 6, .call { callee := .builtin .len, args := #[.tmp 5], argTypes := #[9] }, none⟩,
  ⟨some 7, .move (.const (.int .i64 0)), none⟩] false).seq (SC.block 0 (SC.loop s61L0))).seq ((SC.region 7 [⟨some 20, .move (.tmp 3), none⟩,
  ⟨some 21, .convert 100 80 (.tmp 20), none⟩,
  ⟨some 2, .assign (.tmp 21), none⟩] false).seq SC.ret))))
theorem sl61 : slimK Tryz.f61.body s61 = some (unK s61, true) := by kernel_rfl
theorem ok61 : fnOK calmB Tryz.f61 0 = true := by kernel_rfl

/-- lectionaryref12.elem -/
def s62 : SC := ((SC.region 0 [⟨some 1, .box 38 (.tmp 0), none⟩,
  ⟨some 2, .assign (.const (.string { data := #[] })), none⟩] false).seq ((SC.region 1 [⟨some 3, .fieldAddr 38 (.tmp 1) 0, none⟩,
  ⟨some 4, .load 3 (.tmp 3), none⟩,
  ⟨some 5, .call { callee := .value (.func 37), args := #[.tmp 4], argTypes := #[3] }, none⟩,
  ⟨some 6, .fieldAddr 38 (.tmp 1) 1, none⟩,
  ⟨some 7, .load 3 (.tmp 6), none⟩,
  ⟨some 8, .call { callee := .value (.func 37), args := #[.tmp 7], argTypes := #[3] }, none⟩,
  ⟨some 9, .binOp .add 9 (.tmp 5) (.tmp 8) 9, none⟩,
  ⟨some 10, .fieldAddr 38 (.tmp 1) 2, none⟩,
  ⟨some 11, .load 3 (.tmp 10), none⟩,
  ⟨some 12, .call { callee := .value (.func 37), args := #[.tmp 11], argTypes := #[3] }, none⟩,
  ⟨some 13, .binOp .add 9 (.tmp 9) (.tmp 12) 9, none⟩,
  ⟨some 2, .assign (.tmp 13), none⟩] true).seq SC.ret))
theorem sl62 : slimK Tryz.f62.body s62 = some (unK s62, true) := by kernel_rfl
theorem ok62 : fnOK calmB Tryz.f62 0 = true := by kernel_rfl

/-- lectionaryref1.Text -/
def s63 : SC := ((SC.region 0 [⟨some 2, .assign (.const (.string { data := #[] })), none⟩] false).seq ((SC.region 1 [⟨some 3, .move (.tmp 0), none⟩,
  ⟨some 4, .call { callee := .builtin .len, args := #[.tmp 3], argTypes := #[9] }, none⟩,
  ⟨some 5, .call { callee := .value (.func 37), args := #[.tmp 4], argTypes := #[3] }, none⟩,
  ⟨some 6, .move (.tmp 0), none⟩,
  ⟨some 7, .binOp .add 9 (.tmp 5) (.tmp 6) 9, none⟩,
  ⟨some 2, .assign (.tmp 7), none⟩] false).seq SC.ret))
theorem sl63 : slimK Tryz.f63.body s63 = some (unK s63, true) := by kernel_rfl
theorem ok63 : fnOK calmB Tryz.f63 0 = true := by kernel_rfl

def s72L0 : SC := ((SC.region 2 [⟨some 10, .binOp .lss 3 (.tmp 9) (.tmp 8) 3, none⟩] false).seq ((SC.cond (.tmp 10) SC.skip (SC.exit 0)).seq ((SC.block 1 ((SC.region 3 [⟨some 11, .move (.tmp 9), none⟩,
  ⟨some 5, .assign (.tmp 11), none⟩] false).seq ((SC.region 4 [⟨some 12, .move (.tmp 2), none⟩,
  ⟨some 13, .move (.tmp 0), none⟩,
  ⟨some 14, .move (.tmp 5), none⟩,
  ⟨some 15, .index 9 (.tmp 13) (.tmp 14), none⟩,
  ⟨some 16, .binOp .and 5 (.tmp 15) (.const (.int .u8 127)) 5, none⟩,
  ⟨some 17, .convert 5 3 (.tmp 16), none⟩,
  ⟨some 18, .move (.tmp 5), none⟩,
  ⟨some 19, .binOp .mul 3 (.const (.int .i64 7)) (.tmp 18) 3, none⟩,
  ⟨some 20, .binOp .shl 3 (.tmp 17) (.tmp 19) 3, none⟩,
  ⟨some 21, .binOp .or 3 (.tmp 12) (.tmp 20) 3, none⟩,
  ⟨some 2, .assign (.tmp 21), none⟩] false).seq (((SC.region 5 [⟨some 22, .move (.tmp 0), none⟩,
  ⟨some 23, .move (.tmp 5), none⟩,
  ⟨some 24, .index 9 (.tmp 22) (.tmp 23), none⟩,
  ⟨some 25, .binOp .geq 5 (.tmp 24) (.const (.int .u8 128)) 5, none⟩] false).seq (SC.cond (.tmp 25) (SC.exit 1) SC.skip)).seq (((SC.region 6 [⟨some 26, .move (.tmp 2), none⟩,
  ⟨some 27, .call { callee := .value (.func 85), args := #[.tmp 26], argTypes := #[3] }, none⟩,
  ⟨some 28, .unOp .not 4 (.tmp 27), none⟩,
  ⟨some 29, .move (.tmp 28), none⟩,
  ⟨some 30, .move (.tmp 5), some (some 29, false)⟩,
  ⟨some 31, .binOp .gtr 3 (.tmp 30) (.const (.int .i64 0)) 3, some (some 29, false)⟩,
  ⟨some 32, .move (.tmp 31), some (some 29, false)⟩,
  ⟨some 33, .move (.tmp 0), some (some 32, true)⟩,
  ⟨some 34, .move (.tmp 5), some (some 32, true)⟩,
  ⟨some 35, .index 9 (.tmp 33) (.tmp 34), some (some 32, true)⟩,
  ⟨some 36, .binOp .eql 5 (.tmp 35) (.const (.int .u8 0)) 5, some (some 32, true)⟩,
  ⟨some 37, .pick (.tmp 32) (.tmp 36) (.const (.bool false)), some (some 29, false)⟩,
  ⟨some 38, .pick (.tmp 29) (.const (.bool true)) (.tmp 37), none⟩] false).seq (SC.cond (.tmp 38) (SC.exit 0) SC.skip)).seq ((SC.region 7 [⟨some 39, .move (.tmp 2), none⟩,
  ⟨some 40, .move (.tmp 0), none⟩,
  ⟨some 41, .move (.tmp 5), none⟩,
  ⟨some 42, .binOp .add 3 (.tmp 41) (.const (.int .i64 1)) 3, none⟩,
  ⟨some 43, .slice 9 (.tmp 40) (some (.tmp 42)) none none, none⟩,
  ⟨some 2, .assign (.tmp 39), none⟩,
  ⟨some 3, .assign (.tmp 43), none⟩,
  ⟨some 4, .assign (.const (.int .i64 0)), none⟩] true).seq SC.ret)))))).seq (SC.region 8 [⟨some 44, .binOp .add 3 (.tmp 9) (.const (.int .i64 1)) 3, none⟩,
  ⟨some 9, .move (.tmp 44), none⟩] false))))
/-- number.Take -/
def s72 : SC := ((SC.region 0 [⟨some 2, .assign (.const (.int .i64 0)), none⟩,
  ⟨some 3, .assign (.const (.string { data := #[] })), none⟩,
  ⟨some 4, .assign (.const (.int .i64 0)), none⟩] false).seq (((SC.region 1 [⟨some 6, .move (.tmp 0), none⟩,
  ⟨some 7, .call { callee := .builtin .len, args := #[.tmp 6], argTypes := #[9] }, none⟩,
  ⟨some 8, .call { callee := .builtin .min, args := #[.tmp 7, .const (.int .i64 5)], argTypes := #[3, 3] }, none⟩,
  ⟨some 9, .move (.const (.int .i64 0)), none⟩] false).seq (SC.block 0 (SC.loop s72L0))).seq ((SC.region 9 [⟨some 2, .assign (.const (.int .i64 0)), none⟩,
  ⟨some 3, .assign (.const (.string { data := #[] })), none⟩,
  ⟨some 4, .assign (.const (.int .i64 7)), none⟩] false).seq SC.ret)))
theorem sl72 : slimK Tryz.f72.body s72 = some (unK s72, true) := by kernel_rfl
theorem ok72 : fnOK calmB Tryz.f72 0 = true := by kernel_rfl

/-- pack.TakeOp -/
def s73 : SC := ((SC.region 0 [⟨some 2, .alloc 40, none⟩,
  ⟨some 3, .assign (.const (.string { data := #[] })), none⟩,
  ⟨some 4, .assign (.const (.int .i64 0)), none⟩] false).seq ((SC.region 1 [⟨some 6, .move (.tmp 0), none⟩,
  ⟨some 7, .build 127 #[(0, .tmp 6)], none⟩,
  ⟨some 8, .box 127 (.tmp 7), none⟩,
  ⟨some 5, .assign (.tmp 8), none⟩] false).seq ((SC.region 2 [⟨some 9, .move (.tmp 5), none⟩,
  ⟨some 10, .call { callee := .value (.func 86), args := #[.tmp 9], argTypes := #[125] }, none⟩,
  ⟨none, .store 40 (.tmp 2) (.tmp 10), none⟩] false).seq (((SC.region 3 [⟨some 11, .move (.tmp 5), none⟩,
  ⟨some 12, .nilCheck (.tmp 11), none⟩,
  ⟨some 13, .fieldAddr 127 (.tmp 12) 1, none⟩,
  ⟨some 14, .load 4 (.tmp 13), none⟩] false).seq (SC.cond (.tmp 14) ((SC.region 4 [⟨some 15, .build 40 #[], none⟩,
  ⟨none, .store 40 (.tmp 2) (.tmp 15), none⟩,
  ⟨some 3, .assign (.const (.string { data := #[] })), none⟩,
  ⟨some 4, .assign (.const (.int .i64 7)), none⟩] false).seq SC.ret) SC.skip)).seq ((SC.regionK 5 [⟨some 16, .load 40 (.tmp 2), none⟩,
  ⟨some 17, .move (.tmp 5), none⟩,
  ⟨some 18, .nilCheck (.tmp 17), none⟩,
  ⟨some 19, .fieldAddr 127 (.tmp 18) 0, none⟩,
  ⟨some 20, .load 9 (.tmp 19), none⟩,
  ⟨none, .store 40 (.tmp 2) (.tmp 16), none⟩,
  ⟨some 3, .assign (.tmp 20), none⟩,
  ⟨some 4, .assign (.const (.int .i64 0)), none⟩] [5] [(5, 2), (5, 3), (5, 4)]).seq SC.ret)))))
theorem sl73 : slimK Tryz.f73.body s73 = some (unK s73, true) := by kernel_rfl
theorem ok73 : fnOK calmB Tryz.f73 0 = true := by kernel_rfl

def s75L0 : SC := ((SC.region 4 [⟨some 14, .binOp .lss 3 (.tmp 13) (.tmp 12) 3, none⟩] false).seq ((SC.cond (.tmp 14) SC.skip (SC.exit 0)).seq ((SC.block 1 ((SC.region 5 [⟨some 15, .move (.tmp 13), none⟩,
  ⟨some 5, .assign (.tmp 15), none⟩] false).seq ((SC.region 6 [⟨some 16, .move (.tmp 0), none⟩,
  ⟨some 17, .move (.tmp 5), none⟩,
  ⟨some 18, .indexAddr 23 (.tmp 16) (.tmp 17), none⟩,
  ⟨some 19, .load 38 (.tmp 18), none⟩,
  ⟨some 20, .move (.tmp 1), none⟩,
  ⟨some 21, .move (.tmp 5), none⟩,
  ⟨some 22, .indexAddr 23 (.tmp 20) (.tmp 21), none⟩,
  ⟨some 23, .load 38 (.tmp 22), none⟩,
  ⟨some 24, .binOp .neq 38 (.tmp 19) (.tmp 23) 38, none⟩] true).seq (SC.cond (.tmp 24) ((SC.region 7 [⟨some 4, .assign (.const (.bool false)), none⟩] false).seq SC.ret) SC.skip)))).seq (SC.region 8 [⟨some 25, .binOp .add 3 (.tmp 13) (.const (.int .i64 1)) 3, none⟩,
  ⟨some 13, .move (.tmp 25), none⟩] false))))
/-- slices.Equal[[]api.Elem,api.Elem] -/
def s75 : SC := ((SC.region 0 [⟨some 4, .assign (.const (.bool false)), none⟩] false).seq (((SC.region 1 [⟨some 6, .move (.tmp 0), none⟩,
  ⟨some 7, .call { callee := .builtin .len, args := #[.tmp 6], argTypes := #[23] }, none⟩,
  ⟨some 8, .move (.tmp 1), none⟩,
  ⟨some 9, .call { callee := .builtin .len, args := #[.tmp 8], argTypes := #[23] }, none⟩,
  ⟨some 10, .binOp .neq 3 (.tmp 7) (.tmp 9) 3, none⟩] false).seq (SC.cond (.tmp 10) ((SC.region 2 [⟨some 4, .assign (.const (.bool false)), none⟩] false).seq SC.ret) SC.skip)).seq (((SC.region 3 [⟨some 11, .move (.tmp 0), none⟩,
  ⟨some 12, .call { callee := .builtin .len, args := #[.tmp 11], argTypes := #[23] }, none⟩,
  ⟨some 13, .move (.const (.int .i64 0)), none⟩] false).seq (SC.block 0 (SC.loop s75L0))).seq ((SC.region 9 [⟨some 4, .assign (.const (.bool true)), none⟩] false).seq SC.ret))))
theorem sl75 : slimK Tryz.f75.body s75 = some (unK s75, true) := by kernel_rfl
theorem ok75 : fnOK calmB Tryz.f75 0 = true := by kernel_rfl

/-- op.IsSite -/
def s76 : SC := ((SC.region 0 [⟨some 2, .assign (.const (.bool false)), none⟩] false).seq ((SC.region 1 [⟨some 3, .move (.tmp 0), none⟩,
  ⟨some 4, .binOp .geq 3 (.tmp 3) (.const (.int .i64 1)) 3, none⟩,
  ⟨some 5, .move (.tmp 4), none⟩,
  ⟨some 6, .move (.tmp 0), some (some 5, true)⟩,
  ⟨some 7, .binOp .leq 3 (.tmp 6) (.const (.int .i64 8)) 3, some (some 5, true)⟩,
  ⟨some 8, .pick (.tmp 5) (.tmp 7) (.const (.bool false)), none⟩,
  ⟨some 2, .assign (.tmp 8), none⟩] false).seq SC.ret))
theorem sl76 : slimK Tryz.f76.body s76 = some (unK s76, true) := by kernel_rfl
theorem ok76 : fnOK calmB Tryz.f76 0 = true := by kernel_rfl

/-- op.IsElem -/
def s77 : SC := ((SC.region 0 [⟨some 1, .box 38 (.tmp 0), none⟩,
  ⟨some 2, .assign (.const (.bool false)), none⟩] false).seq ((SC.region 1 [⟨some 3, .load 38 (.tmp 1), none⟩,
  ⟨some 4, .build 38 #[], none⟩,
  ⟨some 5, .binOp .eql 38 (.tmp 3) (.tmp 4) 38, none⟩,
  ⟨some 6, .move (.tmp 5), none⟩,
  ⟨some 7, .fieldAddr 38 (.tmp 1) 0, some (some 6, false)⟩,
  ⟨some 8, .load 3 (.tmp 7), some (some 6, false)⟩,
  ⟨some 9, .fieldAddr 38 (.tmp 1) 1, some (some 6, false)⟩,
  ⟨some 10, .load 3 (.tmp 9), some (some 6, false)⟩,
  ⟨some 11, .call { callee := .value (.func 53), args := #[.tmp 8, .tmp 10], argTypes := #[3, 3] }, some (some 6, false)⟩,
  ⟨some 12, .move (.tmp 11), some (some 6, false)⟩,
  ⟨some 13, .fieldAddr 38 (.tmp 1) 2, some (some 12, true)⟩,
  ⟨some 14, .load 3 (.tmp 13), some (some 12, true)⟩,
  ⟨some 15, .binOp .geq 3 (.tmp 14) (.const (.int .i64 0)) 3, some (some 12, true)⟩,
  ⟨some 16, .pick (.tmp 12) (.tmp 15) (.const (.bool false)), some (some 6, false)⟩,
  ⟨some 17, .move (.tmp 16), some (some 6, false)⟩,
  ⟨some 18, .fieldAddr 38 (.tmp 1) 2, some (some 17, true)⟩,
  ⟨some 19, .load 3 (.tmp 18), some (some 17, true)⟩,
  ⟨some 20, .binOp .lss 3 (.tmp 19) (.const (.int .i64 12)) 3, some (some 17, true)⟩,
  ⟨some 21, .pick (.tmp 17) (.tmp 20) (.const (.bool false)), some (some 6, false)⟩,
  ⟨some 22, .pick (.tmp 6) (.const (.bool true)) (.tmp 21), none⟩,
  ⟨some 2, .assign (.tmp 22), none⟩] false).seq SC.ret))
theorem sl77 : slimK Tryz.f77.body s77 = some (unK s77, true) := by kernel_rfl
theorem ok77 : fnOK calmB Tryz.f77 0 = true := by kernel_rfl

/-- op.own -/
def s78 : SC := ((SC.region 0 [⟨some 2, .box 40 (.tmp 0), none⟩,
  ⟨some 3, .box 38 (.tmp 1), none⟩,
  ⟨some 4, .assign (.const (.bool false)), none⟩] false).seq ((SC.region 1 [⟨some 5, .fieldAddr 38 (.tmp 3) 0, none⟩,
  ⟨some 6, .load 3 (.tmp 5), none⟩,
  ⟨some 7, .fieldAddr 40 (.tmp 2) 0, none⟩,
  ⟨some 8, .load 3 (.tmp 7), none⟩,
  ⟨some 9, .binOp .eql 3 (.tmp 6) (.tmp 8) 3, none⟩,
  ⟨some 10, .move (.tmp 9), none⟩,
  ⟨some 11, .fieldAddr 38 (.tmp 3) 1, some (some 10, true)⟩,
  ⟨some 12, .load 3 (.tmp 11), some (some 10, true)⟩,
  ⟨some 13, .fieldAddr 40 (.tmp 2) 1, some (some 10, true)⟩,
  ⟨some 14, .load 3 (.tmp 13), some (some 10, true)⟩,
  ⟨some 15, .binOp .eql 3 (.tmp 12) (.tmp 14) 3, some (some 10, true)⟩,
  ⟨some 16, .pick (.tmp 10) (.tmp 15) (.const (.bool false)), none⟩,
  ⟨some 4, .assign (.tmp 16), none⟩] false).seq SC.ret))
theorem sl78 : slimK Tryz.f78.body s78 = some (unK s78, true) := by kernel_rfl
theorem ok78 : fnOK calmB Tryz.f78 0 = true := by kernel_rfl

/-- text.May -/
def s79 : SC := ((SC.region 0 [⟨some 2, .assign (.const (.bool false)), none⟩] false).seq ((SC.region 1 [⟨some 3, .move (.tmp 0), none⟩,
  ⟨some 4, .call { callee := .value (.func 87), args := #[.tmp 3, .func 88], argTypes := #[9, 130] }, none⟩,
  ⟨some 5, .unOp .not 4 (.tmp 4), none⟩,
  ⟨some 2, .assign (.tmp 5), none⟩] false).seq SC.ret))
theorem sl79 : slimK Tryz.f79.body s79 = some (unK s79, true) := by kernel_rfl
theorem ok79 : fnOK calmB Tryz.f79 0 = true := by kernel_rfl

/-- op.Size -/
def s80 : SC := ((SC.region 0 [⟨some 1, .box 40 (.tmp 0), none⟩,
  ⟨some 2, .assign (.const (.int .i64 0)), none⟩] false).seq ((SC.region 1 [⟨some 3, .fieldAddr 40 (.tmp 1) 4, none⟩,
  ⟨some 4, .load 9 (.tmp 3), none⟩,
  ⟨some 5, .call { callee := .value (.func 89), args := #[.tmp 4], argTypes := #[9] }, none⟩,
  ⟨some 2, .assign (.tmp 5), none⟩] false).seq SC.ret))
theorem sl80 : slimK Tryz.f80.body s80 = some (unK s80, true) := by kernel_rfl
theorem ok80 : fnOK calmB Tryz.f80 0 = true := by kernel_rfl

def s81L0 : SC := ((SC.region 2 [⟨some 9, .binOp .lss 3 (.tmp 8) (.tmp 7) 3, none⟩] false).seq ((SC.cond (.tmp 9) SC.skip (SC.exit 0)).seq ((SC.block 1 ((SC.region 3 [⟨some 10, .move (.tmp 8), none⟩,
  ⟨some 11, .indexAddr 23 (.tmp 6) (.tmp 8), none⟩,
  ⟨some 12, .load 38 (.tmp 11), none⟩,
  ⟨some 4, .alloc 38, none⟩,
  ⟨some 3, .assign (.tmp 10), none⟩,
  ⟨none, .store 38 (.tmp 4) (.tmp 12), none⟩] false).seq ((SC.region 4 [⟨some 13, .load 38 (.tmp 4), none⟩,
  ⟨some 14, .build 38 #[], none⟩,
  ⟨some 15, .binOp .eql 38 (.tmp 13) (.tmp 14) 38, none⟩,
  ⟨some 16, .move (.tmp 15), none⟩,
  ⟨some 17, .load 38 (.tmp 4), some (some 16, false)⟩,
  ⟨some 18, .call { callee := .value (.func 77), args := #[.tmp 17], argTypes := #[38] }, some (some 16, false)⟩,
  ⟨some 19, .unOp .not 4 (.tmp 18), some (some 16, false)⟩,
  ⟨some 20, .pick (.tmp 16) (.const (.bool true)) (.tmp 19), none⟩,
  ⟨some 21, .move (.tmp 20), none⟩,
  ⟨some 22, .load 40 (.tmp 1), some (some 21, false)⟩,
  ⟨some 23, .load 38 (.tmp 4), some (some 21, false)⟩,
  ⟨some 24, .call { callee := .value (.func 78), args := #[.tmp 22, .tmp 23], argTypes := #[40, 38] }, some (some 21, false)⟩,
  ⟨some 25, .pick (.tmp 21) (.const (.bool true)) (.tmp 24), none⟩,
  ⟨some 26, .move (.tmp 25), none⟩,
  ⟨some 27, .move (.tmp 3), some (some 26, false)⟩,
  ⟨some 28, .binOp .gtr 3 (.tmp 27) (.const (.int .i64 0)) 3, some (some 26, false)⟩,
  ⟨some 29, .move (.tmp 28), some (some 26, false)⟩,
  ⟨some 30, .fieldAddr 40 (.tmp 1) 5, some (some 29, true)⟩,
  ⟨some 31, .load 23 (.tmp 30), some (some 29, true)⟩,
  ⟨some 32, .move (.tmp 3), some (some 29, true)⟩,
  ⟨some 33, .binOp .sub 3 (.tmp 32) (.const (.int .i64 1)) 3, some (some 29, true)⟩,
  ⟨some 34, .indexAddr 23 (.tmp 31) (.tmp 33), some (some 29, true)⟩,
  ⟨some 35, .load 38 (.tmp 34), some (some 29, true)⟩,
  ⟨some 36, .load 38 (.tmp 4), some (some 29, true)⟩,
  ⟨some 37, .call { callee := .value (.func 90), args := #[.tmp 35, .tmp 36], argTypes := #[38, 38] }, some (some 29, true)⟩,
  ⟨some 38, .unOp .not 4 (.tmp 37), some (some 29, true)⟩,
  ⟨some 39, .pick (.tmp 29) (.tmp 38) (.const (.bool false)), some (some 26, false)⟩,
  ⟨some 40, .pick (.tmp 26) (.const (.bool true)) (.tmp 39), none⟩] true).seq (SC.cond (.tmp 40) ((SC.region 5 [⟨some 2, .assign (.const (.bool false)), none⟩] false).seq SC.ret) SC.skip)))).seq (SC.region 6 [⟨some 41, .binOp .add 3 (.tmp 8) (.const (.int .i64 1)) 3, none⟩,
  ⟨some 8, .move (.tmp 41), none⟩] false))))
/-- op.gone -/
def s81 : SC := ((SC.region 0 [⟨some 1, .box 40 (.tmp 0), none⟩,
  ⟨some 2, .assign (.const (.bool false)), none⟩] false).seq (((SC.region 1 [⟨some 5, .fieldAddr 40 (.tmp 1) 5, none⟩,
  ⟨some 6, .load 23 (.tmp 5), none⟩,
  ⟨some 7, .call { callee := .builtin .len, args := #[.tmp 6], argTypes := #[23] }, none⟩,
  ⟨some 8, .move (.const (.int .i64 0)), none⟩] false).seq (SC.block 0 (SC.loop s81L0))).seq ((SC.region 7 [⟨some 42, .fieldAddr 40 (.tmp 1) 5, none⟩,
  ⟨some 43, .load 23 (.tmp 42), none⟩,
  ⟨some 44, .call { callee := .builtin .len, args := #[.tmp 43], argTypes := #[23] }, none⟩,
  ⟨some 45, .binOp .leq 3 (.tmp 44) (.const (.int .i64 200)) 3, none⟩,
  ⟨some 2, .assign (.tmp 45), none⟩] false).seq SC.ret)))
theorem sl81 : slimK Tryz.f81.body s81 = some (unK s81, true) := by kernel_rfl
theorem ok81 : fnOK calmB Tryz.f81 0 = true := by kernel_rfl

/-- number.Is -/
def s85 : SC := ((SC.region 0 [⟨some 2, .assign (.const (.bool false)), none⟩] false).seq ((SC.region 1 [⟨some 3, .move (.tmp 0), none⟩,
  ⟨some 4, .binOp .geq 3 (.tmp 3) (.const (.int .i64 0)) 3, none⟩,
  ⟨some 5, .move (.tmp 4), none⟩,
  ⟨some 6, .move (.tmp 0), some (some 5, true)⟩,
  ⟨some 7, .binOp .leq 3 (.tmp 6) (.const (.int .i64 268435456)) 3, some (some 5, true)⟩,
  ⟨some 8, .pick (.tmp 5) (.tmp 7) (.const (.bool false)), none⟩,
  ⟨some 2, .assign (.tmp 8), none⟩] false).seq SC.ret))
theorem sl85 : slimK Tryz.f85.body s85 = some (unK s85, true) := by kernel_rfl
theorem ok85 : fnOK calmB Tryz.f85 0 = true := by kernel_rfl

def s86L0 : SC := ((SC.region 7 [⟨some 35, .binOp .lss 3 (.tmp 34) (.tmp 33) 3, none⟩] false).seq ((SC.cond (.tmp 35) SC.skip (SC.exit 0)).seq ((SC.block 1 (SC.regionK 8 [⟨some 36, .fieldAddr 40 (.tmp 3) 5, none⟩,
  ⟨some 37, .load 23 (.tmp 36), none⟩,
  ⟨some 38, .move (.tmp 0), none⟩,
  ⟨some 39, .call { callee := .value (.func 94), args := #[.tmp 38], argTypes := #[125] }, none⟩,
  ⟨some 40, .buildSlice 23 1 #[(0, .tmp 39)], none⟩,
  ⟨some 41, .call { callee := .builtin .append, args := #[.tmp 37, .tmp 40], argTypes := #[23, 23] }, none⟩,
  ⟨some 42, .fieldAddr 40 (.tmp 3) 5, none⟩,
  ⟨none, .store 23 (.tmp 42) (.tmp 41), none⟩] [3] [(3, 0), (3, 1)])).seq (SC.region 9 [⟨some 43, .binOp .add 3 (.tmp 34) (.const (.int .i64 1)) 3, none⟩,
  ⟨some 34, .move (.tmp 43), none⟩] false))))
/-- (*pack.reader).op -/
def s86 : SC := ((SC.region 0 [⟨some 2, .alloc 40, none⟩] false).seq ((SC.region 1 [⟨some 5, .move (.tmp 0), none⟩,
  ⟨some 6, .call { callee := .value (.func 93), args := #[.tmp 5], argTypes := #[125] }, none⟩,
  ⟨some 7, .move (.tmp 0), none⟩,
  ⟨some 8, .call { callee := .value (.func 93), args := #[.tmp 7], argTypes := #[125] }, none⟩,
  ⟨some 9, .move (.tmp 0), none⟩,
  ⟨some 10, .call { callee := .value (.func 93), args := #[.tmp 9], argTypes := #[125] }, none⟩,
  ⟨some 11, .build 40 #[(0, .tmp 6), (1, .tmp 8), (2, .tmp 10)], none⟩,
  ⟨some 3, .alloc 40, none⟩,
  ⟨none, .store 40 (.tmp 3) (.tmp 11), none⟩] false).seq (((SC.region 2 [⟨some 12, .fieldAddr 40 (.tmp 3) 2, none⟩,
  ⟨some 13, .load 3 (.tmp 12), none⟩,
  ⟨some 14, .binOp .eql 3 (.tmp 13) (.const (.int .i64 2)) 3, none⟩] false).seq (SC.cond (.tmp 14) (SC.region 3 [⟨some 15, .move (.tmp 0), none⟩,
  ⟨some 16, .call { callee := .value (.func 93), args := #[.tmp 15], argTypes := #[125] }, none⟩,
  ⟨some 17, .move (.tmp 0), none⟩,
  ⟨some 18, .call { callee := .value (.func 93), args := #[.tmp 17], argTypes := #[125] }, none⟩,
  ⟨some 19, .move (.tmp 0), none⟩,
  ⟨some 20, .call { callee := .value (.func 93), args := #[.tmp 19], argTypes := #[125] }, none⟩,
  ⟨some 21, .fieldAddr 40 (.tmp 3) 6, none⟩,
  ⟨none, .store 3 (.tmp 21) (.tmp 16), none⟩,
  ⟨some 22, .fieldAddr 40 (.tmp 3) 7, none⟩,
  ⟨none, .store 3 (.tmp 22) (.tmp 18), none⟩,
  ⟨some 23, .fieldAddr 40 (.tmp 3) 8, none⟩,
  ⟨none, .store 3 (.tmp 23) (.tmp 20), none⟩] false) ((SC.region 4 [⟨some 24, .move (.tmp 0), none⟩,
  ⟨some 25, .call { callee := .value (.func 94), args := #[.tmp 24], argTypes := #[125] }, none⟩,
  ⟨some 26, .move (.tmp 0), none⟩,
  ⟨some 27, .call { callee := .value (.func 95), args := #[.tmp 26], argTypes := #[125] }, none⟩,
  ⟨some 28, .fieldAddr 40 (.tmp 3) 3, none⟩,
  ⟨none, .store 38 (.tmp 28) (.tmp 25), none⟩,
  ⟨some 29, .fieldAddr 40 (.tmp 3) 4, none⟩,
  ⟨none, .store 9 (.tmp 29) (.tmp 27), none⟩] false).seq ((SC.region 5 [⟨some 30, .move (.tmp 0), none⟩,
  ⟨some 31, .call { callee := .value (.func 93), args := #[.tmp 30], argTypes := #[125] }, none⟩,
  ⟨some 4, .assign (.tmp 31), none⟩] false).seq (((SC.region 6 [⟨some 32, .move (.tmp 4), none⟩,
  ⟨some 33, .call { callee := .builtin .min, args := #[.tmp 32, .const (.int .i64 200)], argTypes := #[3, 3] }, none⟩,
  ⟨some 34, .move (.const (.int .i64 0)), none⟩] false).seq (SC.block 0 (SC.loop s86L0))).seq (SC.region 10 [⟨some 44, .move (.tmp 0), none⟩,
  ⟨some 45, .move (.tmp 0), none⟩,
  ⟨some 46, .nilCheck (.tmp 45), none⟩,
  ⟨some 47, .fieldAddr 127 (.tmp 46) 1, none⟩,
  ⟨some 48, .load 4 (.tmp 47), none⟩,
  ⟨some 49, .move (.tmp 48), none⟩,
  ⟨some 50, .move (.tmp 4), some (some 49, false)⟩,
  ⟨some 51, .binOp .gtr 3 (.tmp 50) (.const (.int .i64 200)) 3, some (some 49, false)⟩,
  ⟨some 52, .pick (.tmp 49) (.const (.bool true)) (.tmp 51), none⟩,
  ⟨some 53, .nilCheck (.tmp 44), none⟩,
  ⟨some 54, .fieldAddr 127 (.tmp 53) 1, none⟩,
  ⟨none, .store 4 (.tmp 54) (.tmp 52), none⟩] false)))))).seq ((SC.region 11 [⟨some 55, .move (.tmp 0), none⟩,
  ⟨some 56, .move (.tmp 0), none⟩,
  ⟨some 57, .nilCheck (.tmp 56), none⟩,
  ⟨some 58, .fieldAddr 127 (.tmp 57) 1, none⟩,
  ⟨some 59, .load 4 (.tmp 58), none⟩,
  ⟨some 60, .move (.tmp 59), none⟩,
  ⟨some 61, .load 40 (.tmp 3), some (some 60, false)⟩,
  ⟨some 62, .call { callee := .value (.func 32), args := #[.tmp 61], argTypes := #[40] }, some (some 60, false)⟩,
  ⟨some 63, .unOp .not 4 (.tmp 62), some (some 60, false)⟩,
  ⟨some 64, .pick (.tmp 60) (.const (.bool true)) (.tmp 63), none⟩,
  ⟨some 65, .nilCheck (.tmp 55), none⟩,
  ⟨some 66, .fieldAddr 127 (.tmp 65) 1, none⟩,
  ⟨none, .store 4 (.tmp 66) (.tmp 64), none⟩] false).seq ((SC.region 12 [⟨some 67, .load 40 (.tmp 3), none⟩,
  ⟨none, .store 40 (.tmp 2) (.tmp 67), none⟩] false).seq SC.ret)))))
theorem sl86 : slimK Tryz.f86.body s86 = some (unK s86, true) := by kernel_rfl
theorem ok86 : fnOK calmB Tryz.f86 0 = true := by kernel_rfl

/-- text.bad -/
def s88 : SC := ((SC.region 0 [⟨some 2, .assign (.const (.bool false)), none⟩] false).seq ((SC.region 1 [⟨some 3, .move (.tmp 0), none⟩,
  ⟨some 4, .call { callee := .value (.func 97), args := #[.tmp 3], argTypes := #[21] }, none⟩,
  ⟨some 5, .unOp .not 4 (.tmp 4), none⟩,
  ⟨some 2, .assign (.tmp 5), none⟩] false).seq SC.ret))
theorem sl88 : slimK Tryz.f88.body s88 = some (unK s88, true) := by kernel_rfl
theorem ok88 : fnOK calmB Tryz.f88 0 = true := by kernel_rfl

/-- op.Less -/
def s90 : SC := ((SC.region 0 [⟨some 2, .box 38 (.tmp 0), none⟩,
  ⟨some 3, .box 38 (.tmp 1), none⟩,
  ⟨some 4, .assign (.const (.bool false)), none⟩] false).seq ((SC.region 1 [⟨some 5, .load 38 (.tmp 2), none⟩,
  ⟨some 6, .load 38 (.tmp 3), none⟩,
  ⟨some 7, .call { callee := .value (.func 98), args := #[.tmp 5, .tmp 6], argTypes := #[38, 38] }, none⟩,
  ⟨some 8, .binOp .lss 3 (.tmp 7) (.const (.int .i64 0)) 3, none⟩,
  ⟨some 4, .assign (.tmp 8), none⟩] false).seq SC.ret))
theorem sl90 : slimK Tryz.f90.body s90 = some (unK s90, true) := by kernel_rfl
theorem ok90 : fnOK calmB Tryz.f90 0 = true := by kernel_rfl

/-- (*pack.reader).number -/
def s93 : SC := ((SC.region 0 [⟨some 2, .assign (.const (.int .i64 0)), none⟩] false).seq ((SC.region 1 [⟨some 7, .move (.tmp 0), none⟩,
  ⟨some 8, .nilCheck (.tmp 7), none⟩,
  ⟨some 9, .fieldAddr 127 (.tmp 8) 0, none⟩,
  ⟨some 10, .load 9 (.tmp 9), none⟩,
  ⟨some 11, .call { callee := .value (.func 72), args := #[.tmp 10], argTypes := #[9] }, none⟩,
  ⟨some 6, .move (.tmp 11), none⟩,
  ⟨some 12, .extract (.tmp 6) 0, none⟩,
  ⟨some 13, .extract (.tmp 6) 1, none⟩,
  ⟨some 14, .extract (.tmp 6) 2, none⟩,
  ⟨some 3, .assign (.tmp 12), none⟩,
  ⟨some 4, .assign (.tmp 13), none⟩,
  ⟨some 5, .assign (.tmp 14), none⟩] false).seq ((SC.region 2 [⟨some 15, .move (.tmp 0), none⟩,
  ⟨some 16, .move (.tmp 0), none⟩,
  ⟨some 17, .nilCheck (.tmp 16), none⟩,
  ⟨some 18, .fieldAddr 127 (.tmp 17) 1, none⟩,
  ⟨some 19, .load 4 (.tmp 18), none⟩,
  ⟨some 20, .move (.tmp 19), none⟩,
  ⟨some 21, .move (.tmp 5), some (some 20, false)⟩,
  ⟨some 22, .binOp .neq 41 (.tmp 21) (.const (.int .i64 0)) 41, some (some 20, false)⟩,
  ⟨some 23, .pick (.tmp 20) (.const (.bool true)) (.tmp 22), none⟩,
  ⟨some 24, .nilCheck (.tmp 15), none⟩,
  ⟨some 25, .fieldAddr 127 (.tmp 24) 1, none⟩,
  ⟨none, .store 4 (.tmp 25) (.tmp 23), none⟩] false).seq ((SC.region 3 [⟨some 26, .move (.tmp 0), none⟩,
  ⟨some 27, .move (.tmp 4), none⟩,
  ⟨some 28, .nilCheck (.tmp 26), none⟩,
  ⟨some 29, .fieldAddr 127 (.tmp 28) 0, none⟩,
  ⟨none, .store 9 (.tmp 29) (.tmp 27), none⟩] false).seq ((SC.region 4 [⟨some 30, .move (.tmp 3), none⟩,
  ⟨some 2, .assign (.tmp 30), none⟩] false).seq SC.ret)))))
theorem sl93 : slimK Tryz.f93.body s93 = some (unK s93, true) := by kernel_rfl
theorem ok93 : fnOK calmB Tryz.f93 0 = true := by kernel_rfl

/-- (*pack.reader).elem -/
def s94 : SC := ((SC.region 0 [⟨some 2, .alloc 38, none⟩] false).seq ((SC.region 1 [⟨some 3, .move (.tmp 0), none⟩,
  ⟨some 4, .call { callee := .value (.func 93), args := #[.tmp 3], argTypes := #[125] }, none⟩,
  ⟨some 5, .move (.tmp 0), none⟩,
  ⟨some 6, .call { callee := .value (.func 93), args := #[.tmp 5], argTypes := #[125] }, none⟩,
  ⟨some 7, .move (.tmp 0), none⟩,
  ⟨some 8, .call { callee := .value (.func 93), args := #[.tmp 7], argTypes := #[125] }, none⟩,
  ⟨some 9, .build 38 #[(0, .tmp 4), (1, .tmp 6), (2, .tmp 8)], none⟩,
  ⟨none, .store 38 (.tmp 2) (.tmp 9), none⟩] false).seq SC.ret))
theorem sl94 : slimK Tryz.f94.body s94 = some (unK s94, true) := by kernel_rfl
theorem ok94 : fnOK calmB Tryz.f94 0 = true := by kernel_rfl

/-- (*pack.reader).text -/
def s95 : SC := ((SC.region 0 [⟨some 2, .assign (.const (.string { data := #[] })), none⟩] false).seq ((SC.region 1 [⟨some 7, .move (.tmp 0), none⟩,
  ⟨some 8, .nilCheck (.tmp 7), none⟩,
  ⟨some 9, .fieldAddr 127 (.tmp 8) 0, none⟩,
  ⟨some 10, .load 9 (.tmp 9), none⟩,
  ⟨some 11, .call { callee := .value (.func 99), args := #[.tmp 10], argTypes := #[9] }, none⟩,
  ⟨some 6, .move (.tmp 11), none⟩,
  ⟨some 12, .extract (.tmp 6) 0, none⟩,
  ⟨some 13, .extract (.tmp 6) 1, none⟩,
  ⟨some 14, .extract (.tmp 6) 2, none⟩,
  ⟨some 3, .assign (.tmp 12), none⟩,
  ⟨some 4, .assign (.tmp 13), none⟩,
  ⟨some 5, .assign (.tmp 14), none⟩] false).seq ((SC.region 2 [⟨some 15, .move (.tmp 0), none⟩,
  ⟨some 16, .move (.tmp 0), none⟩,
  ⟨some 17, .nilCheck (.tmp 16), none⟩,
  ⟨some 18, .fieldAddr 127 (.tmp 17) 1, none⟩,
  ⟨some 19, .load 4 (.tmp 18), none⟩,
  ⟨some 20, .move (.tmp 19), none⟩,
  ⟨some 21, .move (.tmp 5), some (some 20, false)⟩,
  ⟨some 22, .binOp .neq 41 (.tmp 21) (.const (.int .i64 0)) 41, some (some 20, false)⟩,
  ⟨some 23, .pick (.tmp 20) (.const (.bool true)) (.tmp 22), none⟩,
  ⟨some 24, .nilCheck (.tmp 15), none⟩,
  ⟨some 25, .fieldAddr 127 (.tmp 24) 1, none⟩,
  ⟨none, .store 4 (.tmp 25) (.tmp 23), none⟩] false).seq ((SC.region 3 [⟨some 26, .move (.tmp 0), none⟩,
  ⟨some 27, .move (.tmp 4), none⟩,
  ⟨some 28, .nilCheck (.tmp 26), none⟩,
  ⟨some 29, .fieldAddr 127 (.tmp 28) 0, none⟩,
  ⟨none, .store 9 (.tmp 29) (.tmp 27), none⟩] false).seq ((SC.region 4 [⟨some 30, .move (.tmp 3), none⟩,
  ⟨some 2, .assign (.tmp 30), none⟩] false).seq SC.ret)))))
theorem sl95 : slimK Tryz.f95.body s95 = some (unK s95, true) := by kernel_rfl
theorem ok95 : fnOK calmB Tryz.f95 0 = true := by kernel_rfl

/-- text.Is -/
def s97 : SC := ((SC.region 0 [⟨some 2, .assign (.const (.bool false)), none⟩] false).seq ((SC.block 0 ((SC.region 1 [⟨some 4, .move (.tmp 0), none⟩,
  ⟨some 5, .binOp .eql 21 (.tmp 4) (.const (.int .i32 10)) 21, none⟩,
  ⟨some 3, .assign (.tmp 5), none⟩] false).seq (SC.cond (.tmp 3) ((SC.region 2 [⟨some 2, .assign (.const (.bool true)), none⟩] false).seq SC.ret) ((SC.region 3 [⟨some 7, .move (.tmp 0), none⟩,
  ⟨some 8, .binOp .lss 21 (.tmp 7) (.const (.int .i32 32)) 21, none⟩,
  ⟨some 9, .move (.tmp 8), none⟩,
  ⟨some 10, .move (.tmp 0), some (some 9, false)⟩,
  ⟨some 11, .binOp .gtr 21 (.tmp 10) (.const (.int .i32 1114111)) 21, some (some 9, false)⟩,
  ⟨some 12, .pick (.tmp 9) (.const (.bool true)) (.tmp 11), none⟩,
  ⟨some 13, .move (.tmp 12), none⟩,
  ⟨some 14, .move (.tmp 0), some (some 13, false)⟩,
  ⟨some 15, .binOp .eql 21 (.tmp 14) (.const (.int .i32 127)) 21, some (some 13, false)⟩,
  ⟨some 16, .pick (.tmp 13) (.const (.bool true)) (.tmp 15), none⟩,
  ⟨some 17, .move (.tmp 16), none⟩,
  ⟨some 18, .move (.tmp 0), some (some 17, false)⟩,
  ⟨some 19, .binOp .eql 21 (.tmp 18) (.const (.int .i32 65533)) 21, some (some 17, false)⟩,
  ⟨some 20, .pick (.tmp 17) (.const (.bool true)) (.tmp 19), none⟩,
  ⟨some 6, .assign (.tmp 20), none⟩] false).seq (SC.cond (.tmp 6) ((SC.region 4 [⟨some 2, .assign (.const (.bool false)), none⟩] false).seq SC.ret) SC.skip))))).seq ((SC.region 5 [⟨some 21, .move (.tmp 0), none⟩,
  ⟨some 22, .binOp .leq 21 (.tmp 21) (.const (.int .i32 55295)) 21, none⟩,
  ⟨some 23, .move (.tmp 22), none⟩,
  ⟨some 24, .move (.tmp 0), some (some 23, false)⟩,
  ⟨some 25, .binOp .geq 21 (.tmp 24) (.const (.int .i32 57344)) 21, some (some 23, false)⟩,
  ⟨some 26, .pick (.tmp 23) (.const (.bool true)) (.tmp 25), none⟩,
  ⟨some 2, .assign (.tmp 26), none⟩] false).seq SC.ret)))
theorem sl97 : slimK Tryz.f97.body s97 = some (unK s97, true) := by kernel_rfl
theorem ok97 : fnOK calmB Tryz.f97 0 = true := by kernel_rfl

/-- op.Compare -/
def s98 : SC := ((SC.region 0 [⟨some 2, .box 38 (.tmp 0), none⟩,
  ⟨some 3, .box 38 (.tmp 1), none⟩,
  ⟨some 4, .assign (.const (.int .i64 0)), none⟩] false).seq ((SC.region 1 [⟨some 5, .fieldAddr 38 (.tmp 2) 0, none⟩,
  ⟨some 6, .load 3 (.tmp 5), none⟩,
  ⟨some 7, .fieldAddr 38 (.tmp 3) 0, none⟩,
  ⟨some 8, .load 3 (.tmp 7), none⟩,
  ⟨some 9, .call { callee := .value (.func 102), args := #[.tmp 6, .tmp 8], argTypes := #[3, 3] }, none⟩,
  ⟨some 10, .fieldAddr 38 (.tmp 2) 1, none⟩,
  ⟨some 11, .load 3 (.tmp 10), none⟩,
  ⟨some 12, .fieldAddr 38 (.tmp 3) 1, none⟩,
  ⟨some 13, .load 3 (.tmp 12), none⟩,
  ⟨some 14, .call { callee := .value (.func 102), args := #[.tmp 11, .tmp 13], argTypes := #[3, 3] }, none⟩,
  ⟨some 15, .fieldAddr 38 (.tmp 2) 2, none⟩,
  ⟨some 16, .load 3 (.tmp 15), none⟩,
  ⟨some 17, .fieldAddr 38 (.tmp 3) 2, none⟩,
  ⟨some 18, .load 3 (.tmp 17), none⟩,
  ⟨some 19, .call { callee := .value (.func 102), args := #[.tmp 16, .tmp 18], argTypes := #[3, 3] }, none⟩,
  ⟨some 20, .buildSlice 24 3 #[(0, .tmp 9), (1, .tmp 14), (2, .tmp 19)], none⟩,
  ⟨some 21, .call { callee := .value (.func 101), args := #[.tmp 20], argTypes := #[24] }, none⟩,
  ⟨some 4, .assign (.tmp 21), none⟩] true).seq SC.ret))
theorem sl98 : slimK Tryz.f98.body s98 = some (unK s98, true) := by kernel_rfl
theorem ok98 : fnOK calmB Tryz.f98 0 = true := by kernel_rfl

/-- number.TakeText -/
def s99 : SC := ((SC.region 0 [⟨some 2, .assign (.const (.string { data := #[] })), none⟩,
  ⟨some 3, .assign (.const (.string { data := #[] })), none⟩,
  ⟨some 4, .assign (.const (.int .i64 0)), none⟩] false).seq ((SC.region 1 [⟨some 7, .move (.tmp 0), none⟩,
  ⟨some 8, .call { callee := .value (.func 72), args := #[.tmp 7], argTypes := #[9] }, none⟩,
  ⟨some 6, .move (.tmp 8), none⟩,
  ⟨some 9, .extract (.tmp 6) 0, none⟩,
  ⟨some 10, .extract (.tmp 6) 1, none⟩,
  ⟨some 11, .extract (.tmp 6) 2, none⟩,
  ⟨some 5, .assign (.tmp 9), none⟩,
  ⟨some 3, .assign (.tmp 10), none⟩,
  ⟨some 4, .assign (.tmp 11), none⟩] false).seq (((SC.region 2 [⟨some 12, .move (.tmp 4), none⟩,
  ⟨some 13, .binOp .neq 41 (.tmp 12) (.const (.int .i64 0)) 41, none⟩,
  ⟨some 14, .move (.tmp 13), none⟩,
  ⟨some 15, .move (.tmp 5), some (some 14, false)⟩,
  ⟨some 16, .move (.tmp 3), some (some 14, false)⟩,
  ⟨some 17, .call { callee := .builtin .len, args := #[.tmp 16], argTypes := #[9] }, some (some 14, false)⟩,
  ⟨some 18, .binOp .gtr 3 (.tmp 15) (.tmp 17) 3, some (some 14, false)⟩,
  ⟨some 19, .pick (.tmp 14) (.const (.bool true)) (.tmp 18), none⟩] false).seq (SC.cond (.tmp 19) ((SC.region 3 [⟨some 2, .assign (.const (.string { data := #[] })), none⟩,
  ⟨some 3, .assign (.const (.string { data := #[] })), none⟩,
  ⟨some 4, .assign (.const (.int .i64 7)), none⟩] false).seq SC.ret) SC.skip)).seq ((SC.region 4 [⟨some 20, .move (.tmp 3), none⟩,
  ⟨some 21, .move (.tmp 5), none⟩,
  ⟨some 22, .slice 9 (.tmp 20) none (some (.tmp 21)) none, none⟩,
  ⟨some 23, .move (.tmp 3), none⟩,
  ⟨some 24, .move (.tmp 5), none⟩,
  ⟨some 25, .slice 9 (.tmp 23) (some (.tmp 24)) none none, none⟩,
  ⟨some 2, .assign (.tmp 22), none⟩,
  ⟨some 3, .assign (.tmp 25), none⟩,
  ⟨some 4, .assign (.const (.int .i64 0)), none⟩] true).seq SC.ret))))
theorem sl99 : slimK Tryz.f99.body s99 = some (unK s99, true) := by kernel_rfl
theorem ok99 : fnOK calmB Tryz.f99 0 = true := by kernel_rfl

def s101L0 : SC := ((SC.region 3 [⟨some 9, .binOp .lss 3 (.tmp 8) (.tmp 7) 3, none⟩] false).seq ((SC.cond (.tmp 9) SC.skip (SC.exit 0)).seq ((SC.block 1 ((SC.region 4 [⟨some 10, .indexAddr 24 (.tmp 6) (.tmp 8), none⟩,
  ⟨some 11, .load 3 (.tmp 10), none⟩,
  ⟨some 5, .assign (.tmp 11), none⟩] false).seq ((SC.region 5 [⟨some 12, .move (.tmp 5), none⟩,
  ⟨some 13, .move (.tmp 3), none⟩,
  ⟨some 14, .binOp .neq 3 (.tmp 12) (.tmp 13) 3, none⟩] false).seq (SC.cond (.tmp 14) ((SC.region 6 [⟨some 15, .move (.tmp 5), none⟩,
  ⟨some 2, .assign (.tmp 15), none⟩] false).seq SC.ret) SC.skip)))).seq (SC.region 7 [⟨some 16, .binOp .add 3 (.tmp 8) (.const (.int .i64 1)) 3, none⟩,
  ⟨some 8, .move (.tmp 16), none⟩] false))))
/-- cmp.Or[int] -/
def s101 : SC := ((SC.region 0 [⟨some 2, .assign (.const (.int .i64 0)), none⟩] false).seq ((SC.region 1 [⟨some 3, .assign (.const (.int .i64 0)), none⟩] false).seq (((SC.region 2 [⟨some 6, .move (.tmp 0), none⟩,
  ⟨some 7, .call { callee := .builtin .len, args := #[.tmp 6], argTypes := #[24] }, none⟩,
  ⟨some 8, .move (.const (.int .i64 0)), none⟩] false).seq (SC.block 0 (SC.loop s101L0))).seq ((SC.region 8 [⟨some 17, .move (.tmp 3), none⟩,
  ⟨some 2, .assign (.tmp 17), none⟩] false).seq SC.ret))))
theorem sl101 : slimK Tryz.f101.body s101 = some (unK s101, true) := by kernel_rfl
theorem ok101 : fnOK calmB Tryz.f101 0 = true := by kernel_rfl

/-- cmp.Compare[int] -/
def s102 : SC := ((SC.region 0 [⟨some 4, .assign (.const (.int .i64 0)), none⟩] false).seq ((SC.region 1 [⟨some 7, .move (.tmp 0), none⟩,
  ⟨some 8, .call { callee := .value (.func 103), args := #[.tmp 7], argTypes := #[3] }, none⟩,
  ⟨some 5, .assign (.tmp 8), none⟩] false).seq ((SC.region 2 [⟨some 9, .move (.tmp 1), none⟩,
  ⟨some 10, .call { callee := .value (.func 103), args := #[.tmp 9], argTypes := #[3] }, none⟩,
  ⟨some 6, .assign (.tmp 10), none⟩] false).seq (((SC.region 3 [⟨some 11, .move (.tmp 5), none⟩] false).seq (SC.cond (.tmp 11) (((SC.region 4 [⟨some 12, .move (.tmp 6), none⟩] false).seq (SC.cond (.tmp 12) ((SC.region 5 [⟨some 4, .assign (.const (.int .i64 0)), none⟩] false).seq SC.ret) SC.skip)).seq ((SC.region 6 [⟨some 4, .assign (.const (.int .i64 (-1))), none⟩] false).seq SC.ret)) SC.skip)).seq (((SC.region 7 [⟨some 13, .move (.tmp 6), none⟩] false).seq (SC.cond (.tmp 13) ((SC.region 8 [⟨some 4, .assign (.const (.int .i64 1)), none⟩] false).seq SC.ret) SC.skip)).seq (((SC.region 9 [⟨some 14, .move (.tmp 0), none⟩,
  ⟨some 15, .move (.tmp 1), none⟩,
  ⟨some 16, .binOp .lss 3 (.tmp 14) (.tmp 15) 3, none⟩] false).seq (SC.cond (.tmp 16) ((SC.region 10 [⟨some 4, .assign (.const (.int .i64 (-1))), none⟩] false).seq SC.ret) SC.skip)).seq (((SC.region 11 [⟨some 17, .move (.tmp 0), none⟩,
  ⟨some 18, .move (.tmp 1), none⟩,
  ⟨some 19, .binOp .gtr 3 (.tmp 17) (.tmp 18) 3, none⟩] false).seq (SC.cond (.tmp 19) ((SC.region 12 [⟨some 4, .assign (.const (.int .i64 1)), none⟩] false).seq SC.ret) SC.skip)).seq ((SC.region 13 [⟨some 4, .assign (.const (.int .i64 0)), none⟩] false).seq SC.ret))))))))
theorem sl102 : slimK Tryz.f102.body s102 = some (unK s102, true) := by kernel_rfl
theorem ok102 : fnOK calmB Tryz.f102 0 = true := by kernel_rfl

/-- cmp.isNaN[int] -/
def s103 : SC := ((SC.region 0 [⟨some 2, .assign (.const (.bool false)), none⟩] false).seq ((SC.region 1 [⟨some 3, .move (.tmp 0), none⟩,
  ⟨some 4, .move (.tmp 0), none⟩,
  ⟨some 5, .binOp .neq 3 (.tmp 3) (.tmp 4) 3, none⟩,
  ⟨some 2, .assign (.tmp 5), none⟩] false).seq SC.ret))
theorem sl103 : slimK Tryz.f103.body s103 = some (unK s103, true) := by kernel_rfl
theorem ok103 : fnOK calmB Tryz.f103 0 = true := by kernel_rfl

attribute [simp] Tryz.results3 Tryz.results4 Tryz.results5 Tryz.results6 Tryz.results7 Tryz.results10 Tryz.results11 Tryz.results15 Tryz.results16 Tryz.results17 Tryz.results18 Tryz.results19 Tryz.results25 Tryz.results26 Tryz.results31 Tryz.results32 Tryz.results33 Tryz.results34 Tryz.results35 Tryz.results36 Tryz.results37 Tryz.results38 Tryz.results39 Tryz.results49 Tryz.results50 Tryz.results52 Tryz.results53 Tryz.results54 Tryz.results55 Tryz.results57 Tryz.results58 Tryz.results60 Tryz.results61 Tryz.results62 Tryz.results63 Tryz.results72 Tryz.results73 Tryz.results75 Tryz.results76 Tryz.results77 Tryz.results78 Tryz.results79 Tryz.results80 Tryz.results81 Tryz.results85 Tryz.results86 Tryz.results88 Tryz.results90 Tryz.results93 Tryz.results94 Tryz.results95 Tryz.results97 Tryz.results98 Tryz.results99 Tryz.results101 Tryz.results102 Tryz.results103

end Go.AE

/- Numbers as bytes: what they tell. -/
set_option linter.unusedVariables false
set_option linter.unusedSimpArgs false
set_option maxHeartbeats 2000000
set_option maxRecDepth 100000
namespace Go.AE
open Go Go.Proofs

theorem numIs_ev (n : Int) : PEv Tryz.prog 85 [.c (.raw (.int .i64 n))] (.c (.raw (.bool (decide (0 ≤ n ∧ n ≤ 268435456))))) := by
  refine tells_of mixed (F := []) trivial Tryz.func85 sl85 ok85 (by kernel_rfl) (by simp -implicitDefEqProofs (maxSteps := 400000) (maxDischargeDepth := 6)) (by simp -implicitDefEqProofs (maxSteps := 400000) (maxDischargeDepth := 6)) ?_
  by_cases h1 : 0 ≤ n
  · by_cases h2 : n ≤ 268435456
    · simp -implicitDefEqProofs (maxSteps := 400000) (maxDischargeDepth := 6) [s85, h1, h2]
    · simp -implicitDefEqProofs (maxSteps := 400000) (maxDischargeDepth := 6) [s85, h1, h2]
  · simp -implicitDefEqProofs (maxSteps := 400000) (maxDischargeDepth := 6) [s85, h1]

theorem bytesF_step {k n : Nat} (h : 128 ≤ n) : bytesF (k + 1) n = UInt8.ofNat (n % 128 + 128) :: bytesF k (n / 128) := by
  rw [bytesF, if_neg (by omega)]
theorem bytesF_last {k n : Nat} (h : n < 128) : bytesF k n = [UInt8.ofNat n] := by
  cases k with
  | zero => rfl
  | succ k => rw [bytesF, if_pos h]

theorem numBytes_ev (n : Nat) (hn : n < 9223372036854775808) : PEv Tryz.prog 33 [.c (.raw (.int .i64 n))] (.c (.str (bytesN n))) := by
  refine tells_of mixed (F := []) trivial Tryz.func33 sl33 ok33 (by kernel_rfl) (by simp -implicitDefEqProofs (maxSteps := 400000) (maxDischargeDepth := 6)) (by simp -implicitDefEqProofs (maxSteps := 400000) (maxDischargeDepth := 6)) ?_
  simp -implicitDefEqProofs (maxSteps := 400000) (maxDischargeDepth := 6) [s33]
  refine loop_n (fun q st => ∃ (k m : Nat) (L : List UInt8) (c : AC), q = k ∧ k ≤ 9 ∧ m < 128 ^ k ∧ L ++ bytesF k m = bytesN n ∧ st.s 0 = .c (.raw (.int .i64 m)) ∧ st.s 3 = .c c ∧ OwnL st.H 5 1 0 c L ∧ L.length + k ≤ 9 ∧ Fresh st.H st.T) 9
    ⟨9, n, [], .raw (.slice none 0 0), rfl, by omega, by omega, rfl, by simp -implicitDefEqProofs (maxSteps := 400000) (maxDischargeDepth := 6), by simp -implicitDefEqProofs (maxSteps := 400000) (maxDischargeDepth := 6), OwnL.nil, by simp -implicitDefEqProofs (maxSteps := 400000) (maxDischargeDepth := 6), by simp -implicitDefEqProofs (maxSteps := 400000) (maxDischargeDepth := 6); exact fresh_no.mono (by omega)⟩ ?_
  rintro q st ⟨k, m, L, c, hq, hk, hm, hL, k0, k3, hc, hl, hf⟩
  have hfu : ∀ k d, st.T ≤ k → st.H (k, d) = .unborn := hf
  have hm9 : m < 9223372036854775808 := Nat.lt_of_lt_of_le hm (Nat.le_trans (Nat.pow_le_pow_right (by omega) hk) (by decide))
  by_cases hlt : 128 ≤ m
  · have hlt' : (128 : Int) ≤ m := by omega
    cases k with
    | zero => simp -implicitDefEqProofs (maxSteps := 400000) (maxDischargeDepth := 6) at hm; omega
    | succ k =>
      have c1 : (m : Int).tmod 128 = ((m % 128 : Nat) : Int) := by rw [Int.tmod_eq_emod_of_nonneg (by omega)]; omega
      have c2 : (m : Int).tdiv 128 = ((m / 128 : Nat) : Int) := by rw [Int.tdiv_eq_ediv_of_nonneg (by omega)]; omega
      obtain ⟨r, hr, hr2⟩ : ∃ r : Nat, m % 128 = r ∧ r < 128 := ⟨m % 128, rfl, by omega⟩
      obtain ⟨p, hp⟩ : ∃ p : Nat, m / 128 = p := ⟨m / 128, rfl⟩
      rw [hr] at c1
      rw [hp] at c2
      have e1 : IntKind.wrap .i64 ((r : Int) + 128) = (r : Int) + 128 := by rw [wrap64_id] <;> omega
      have e2 : IntKind.wrap .u8 ((r : Int) + 128) = (r : Int) + 128 := wrap8_id (by omega) (by omega)
      have e4 : ((r : Int) + 128).toNat = r + 128 := by omega
      have e3 : IntKind.wrap .i64 (p : Int) = p := by rw [wrap64_id] <;> omega
      have hm2 : p < 128 ^ k := by rw [Nat.pow_succ] at hm; omega
      have hL2 : (L ++ [UInt8.ofNat (r + 128)]) ++ bytesF k p = bytesN n := by rw [← hL, bytesF_step hlt, hr, hp]; simp -implicitDefEqProofs (maxSteps := 400000) (maxDischargeDepth := 6)
      rcases hc with ⟨rfl, rfl⟩ | ⟨id, rfl, hid0, hid⟩
      · simp -implicitDefEqProofs (maxSteps := 400000) (maxDischargeDepth := 6) [s33L0, k0, k3, hlt', hfu, c1, c2, e1, e2, e3, Nat.le_add_right_of_le]
        refine ⟨k, by omega, by omega, p, hm2, [UInt8.ofNat (r + 128)], by simpa using hL2, rfl, OwnL.so rfl (Nat.zero_le _) ?_, (by have := hl; simp -implicitDefEqProofs (maxSteps := 400000) (maxDischargeDepth := 6) at this ⊢; omega), ?_⟩
        · simp -implicitDefEqProofs (maxSteps := 400000) (maxDischargeDepth := 6) [rowsU8_one ((r : Int) + 128) (by omega) (by omega), e4]
        · repeat' (first | exact hf.mono (by first | omega | (simp <;> omega)) | (refine Fresh.set' ?_ (by first | omega | (simp <;> omega))))
      · obtain ⟨f1, f2, f3⟩ := hf.arr hid
        simp -implicitDefEqProofs (maxSteps := 400000) (maxDischargeDepth := 6) [s33L0, k0, k3, hlt', hfu, c1, c2, e1, e2, e3, f1, f2, hid, Nat.le_add_right_of_le]
        refine ⟨⟨by omega, by omega⟩, k, by omega, by omega, p, hm2, L ++ [UInt8.ofNat (r + 128)], hL2, rfl, OwnL.so (by simp -implicitDefEqProofs (maxSteps := 400000) (maxDischargeDepth := 6)) (Nat.zero_le _) ?_, by simp -implicitDefEqProofs (maxSteps := 400000) (maxDischargeDepth := 6); omega, ?_⟩
        · simp -implicitDefEqProofs (maxSteps := 400000) (maxDischargeDepth := 6) [rowsU8_snoc L ((r : Int) + 128) (by omega) (by omega), e4]
        · repeat' (first | exact hf.mono (by first | omega | (simp <;> omega)) | (refine Fresh.set' ?_ (by first | omega | (simp <;> omega))))
  · have hlt' : ¬ (128 : Int) ≤ m := by omega
    have e2 : IntKind.wrap .u8 (m : Int) = m := wrap8_id (by omega) (by omega)
    rw [bytesF_last (by omega)] at hL
    rcases hc with ⟨rfl, rfl⟩ | ⟨id, rfl, hid0, hid⟩
    · simp -implicitDefEqProofs (maxSteps := 400000) (maxDischargeDepth := 6) [s33L0, k0, k3, hlt', hfu, e2, Nat.le_add_right_of_le]
      simpa using hL
    · obtain ⟨f1, f2, f3⟩ := hf.arr hid
      simp -implicitDefEqProofs (maxSteps := 400000) (maxDischargeDepth := 6) [s33L0, k0, k3, hlt', hfu, e2, f1, f2, hid, List.take_of_length_le, hL, Nat.le_add_right_of_le]
      omega


def FN0_h85 : List AV → Option (Prop × AV) := t1 (fun _ => True) fun n : Int => .c (.raw (.bool (decide (0 ≤ n ∧ n ≤ 268435456))))
@[simp] theorem FN0_ap85 {l : List AV} : FN0_h85 l = (t1 (fun _ => True) fun n : Int => .c (.raw (.bool (decide (0 ≤ n ∧ n ≤ 268435456))))) l := rfl
def FN0_h33 : List AV → Option (Prop × AV) := t1 (fun n => 0 ≤ n ∧ n < 9223372036854775808) fun n : Int => .c (.str (bytesN n.toNat))
@[simp] theorem FN0_ap33 {l : List AV} : FN0_h33 l = (t1 (fun n => 0 ≤ n ∧ n < 9223372036854775808) fun n : Int => .c (.str (bytesN n.toNat))) l := rfl
def FN0 : CT := (85, .pu FN0_h85) :: (33, .pu FN0_h33) :: []
theorem FN0_ok : CTok Tryz.prog FN0 := ⟨tells1 fun n _ => numIs_ev n,
  tells1 fun n h => by have := numBytes_ev n.toNat (by omega); rwa [Int.toNat_of_nonneg h.1] at this, trivial⟩
@[simp] theorem FN0_get85 : ctGet FN0 85 = some (.pu FN0_h85) := rfl
@[simp] theorem FN0_get33 : ctGet FN0 33 = some (.pu FN0_h33) := rfl
@[simp] theorem FN0_skip {n : Nat} (h : (n == 85 || n == 33) = false) : ctGet FN0 n = ctGet ([] : CT) n := by
  simp only [Bool.or_eq_false_iff, beq_eq_false_iff_ne, ne_eq] at h
  simp [FN0, ctGet, h]

/-- A text's first bytes. -/
theorem bts_at (l : List UInt8) (i : Nat) (h : i < l.length) : bts l (i : Int) = (l[i].toNat : Int) := by simp -implicitDefEqProofs (maxSteps := 400000) (maxDischargeDepth := 6) [bts, List.getD, h]

theorem and127 (b : UInt8) : iand .u8 (b.toNat : Int) 127 = ((b.toNat % 128 : Nat) : Int) := by
  have hb := b.toNat_lt
  have h1 : ((BitVec.ofInt 8 (b.toNat : Int)) &&& (BitVec.ofInt 8 127)).toNat = b.toNat % 128 := by
    rw [BitVec.toNat_and]
    have e1 : (BitVec.ofInt 8 (b.toNat : Int)).toNat = b.toNat := by simp -implicitDefEqProofs (maxSteps := 400000) (maxDischargeDepth := 6)
    have e2 : (BitVec.ofInt 8 127).toNat = 2 ^ 7 - 1 := by decide
    rw [e1, e2, Nat.and_two_pow_sub_one_eq_mod]
  show IntKind.wrap .u8 (((BitVec.ofInt 8 (b.toNat : Int)) &&& (BitVec.ofInt 8 127)).toNat : Int) = _
  rw [h1]
  exact wrap8_id (by omega) (by omega)

theorem or_add {acc x i : Nat} (ha : acc < 128 ^ i) (hi : i ≤ 4) (hx : x < 128) : ior .i64 (acc : Int) ((x * 128 ^ i : Nat) : Int) = ((acc + x * 128 ^ i : Nat) : Int) := by
  have hp : 128 ^ i ≤ 128 ^ 4 := Nat.pow_le_pow_right (by omega) hi
  have h4 : (128 : Nat) ^ 4 = 268435456 := by decide
  have hxi : x * 128 ^ i ≤ 127 * 268435456 := Nat.mul_le_mul (by omega) (by omega)
  have e1 : (BitVec.ofInt 64 (acc : Int)).toNat = acc := by simp -implicitDefEqProofs (maxSteps := 400000) (maxDischargeDepth := 6); omega
  have e2 : (BitVec.ofInt 64 ((x * 128 ^ i : Nat) : Int)).toNat = x * 128 ^ i := by
    generalize x * 128 ^ i = y at hxi
    simp -implicitDefEqProofs (maxSteps := 400000) (maxDischargeDepth := 6); omega
  have h1 : ((BitVec.ofInt 64 (acc : Int)) ||| (BitVec.ofInt 64 ((x * 128 ^ i : Nat) : Int))).toNat = acc + x * 128 ^ i := by
    rw [BitVec.toNat_or, e1, e2]
    have h7 : (128 : Nat) ^ i = 2 ^ (7 * i) := by rw [show (128 : Nat) = 2 ^ 7 from rfl, ← Nat.pow_mul]
    rw [h7] at ha ⊢
    rw [Nat.mul_comm x, Nat.or_comm, ← Nat.two_pow_add_eq_or_of_lt ha, Nat.add_comm]
  show IntKind.wrap .i64 (((BitVec.ofInt 64 (acc : Int)) ||| (BitVec.ofInt 64 ((x * 128 ^ i : Nat) : Int))).toNat : Int) = _
  rw [h1]
  exact wrap64_id (by omega) (by omega)

theorem take_at {k m acc : Nat} {s : List UInt8} {i : Nat} (h : i < s.length) : takeF (k + 1) m acc (s.drop i) =
    if 128 ≤ s[i].toNat then takeF k (m * 128) (acc + (s[i].toNat % 128) * m) (s.drop (i + 1))
    else if 268435456 < acc + (s[i].toNat % 128) * m ∨ (1 < m ∧ s[i].toNat = 0) then none else some (acc + (s[i].toNat % 128) * m, s.drop (i + 1)) := by
  rw [List.drop_eq_getElem_cons h, takeF]

def takeAV (s : List UInt8) : AV := .t [(false, [.raw (.int .i64 (takeR s).1)]), (false, [.str (takeR s).2.1]), (false, [.raw (.int .i64 (takeR s).2.2)])]

theorem takeAV_some {s r : List UInt8} {n : Nat} (h : some (n, r) = takeN s) : takeAV s = .t [(false, [.raw (.int .i64 n)]), (false, [.str r]), (false, [.raw (.int .i64 0)])] := by simp -implicitDefEqProofs (maxSteps := 400000) (maxDischargeDepth := 6) [takeAV, takeR, ← h]
theorem takeAV_none {s : List UInt8} (h : none = takeN s) : takeAV s = .t [(false, [.raw (.int .i64 0)]), (false, [.str []]), (false, [.raw (.int .i64 7)])] := by simp -implicitDefEqProofs (maxSteps := 400000) (maxDischargeDepth := 6) [takeAV, takeR, ← h]

theorem numTake_ev (s : List UInt8) (hs : s.length < 4611686018427387904) : PEv Tryz.prog 72 [.c (.str s)] (takeAV s) := by
  refine tells_of mixed FN0_ok Tryz.func72 sl72 ok72 (by kernel_rfl) (by simp -implicitDefEqProofs (maxSteps := 400000) (maxDischargeDepth := 6) [takeAV]) (by simp -implicitDefEqProofs (maxSteps := 400000) (maxDischargeDepth := 6)) ?_
  have hmin : (if (5 : Int) < s.length then (5 : Int) else s.length) = ((min s.length 5 : Nat) : Int) := by split <;> omega
  simp -implicitDefEqProofs (maxSteps := 400000) (maxDischargeDepth := 6) [s72, hmin]
  refine loop_n (fun q st => ∃ (i acc : Nat), i ≤ min s.length 5 ∧ q = 5 - i ∧ acc < 128 ^ i ∧ st.s 0 = .c (.str s) ∧ st.s 2 = .c (.raw (.int .i64 acc)) ∧ st.s 8 = .c (.raw (.int .i64 (min s.length 5 : Nat))) ∧ st.s 9 = .c (.raw (.int .i64 i)) ∧
      takeF (5 - i) (128 ^ i) acc (s.drop i) = takeN s ∧ Fresh st.H st.T) 5 ⟨0, 0, by omega, rfl, by simp -implicitDefEqProofs (maxSteps := 400000) (maxDischargeDepth := 6), by simp -implicitDefEqProofs (maxSteps := 400000) (maxDischargeDepth := 6), by simp -implicitDefEqProofs (maxSteps := 400000) (maxDischargeDepth := 6), by simp -implicitDefEqProofs (maxSteps := 400000) (maxDischargeDepth := 6), by simp -implicitDefEqProofs (maxSteps := 400000) (maxDischargeDepth := 6), rfl, by simp -implicitDefEqProofs (maxSteps := 400000) (maxDischargeDepth := 6); exact fresh_no.mono (by omega)⟩ ?_
  rintro q st ⟨i, acc, hi, rfl, hacc, k0, k2, k8, k9, hT, hf⟩
  have hfu : ∀ k d, st.T ≤ k → st.H (k, d) = .unborn := hf
  by_cases hlt : i < min s.length 5
  · have hlt2 : i < s.length := by omega
    have hlt' : ((i : Int) < (min s.length 5 : Nat)) := by omega
    have hk : 5 - i = (4 - i) + 1 := by omega
    rw [hk, take_at hlt2] at hT
    have hb := s[i].toNat_lt
    obtain ⟨x, hx, hx2⟩ : ∃ x : Nat, s[i].toNat % 128 = x ∧ x < 128 := ⟨_, rfl, by omega⟩
    have c1 := bts_at s i hlt2
    have c2 := and127 s[i]
    rw [hx] at c2 hT
    have c3 : IntKind.wrap .i64 (x : Int) = x := by rw [wrap64_id] <;> omega
    have c4 : IntKind.wrap .i64 (7 * (i : Int)) = 7 * (i : Int) := by rw [wrap64_id] <;> omega
    have h7 : (128 : Nat) ^ i = 2 ^ (7 * i) := by rw [show (128 : Nat) = 2 ^ 7 from rfl, ← Nat.pow_mul]
    have hmin2 : min (7 * (i : Int)).toNat (IntKind.bits .i64) = 7 * i := by
      have : IntKind.bits .i64 = 64 := rfl
      omega
    have hp : 128 ^ i ≤ 128 ^ 4 := Nat.pow_le_pow_right (by omega) (by omega)
    have h4 : (128 : Nat) ^ 4 = 268435456 := by decide
    have hxi : x * 128 ^ i ≤ 127 * 268435456 := Nat.mul_le_mul (by omega) (by omega)
    have c5 := or_add hacc (i := i) (by omega) hx2
    have c6 : IntKind.wrap .i64 ((x : Int) * 2 ^ (7 * i)) = ((x * 128 ^ i : Nat) : Int) := by
      rw [h7]
      have : ((x : Int) * 2 ^ (7 * i)) = ((x * 2 ^ (7 * i) : Nat) : Int) := by push_cast; rfl
      rw [this, ← h7]
      exact wrap64_id (by omega) (by omega)
    have e2 : IntKind.wrap .i64 ((i : Int) + 1) = (i : Int) + 1 := by rw [wrap64_id] <;> omega
    obtain ⟨y, hy⟩ : ∃ y, x * 128 ^ i = y := ⟨_, rfl⟩
    rw [hy] at c5 c6 hT hxi
    obtain ⟨z, hz⟩ : ∃ z, acc + y = z := ⟨_, rfl⟩
    rw [hz] at c5 hT
    simp -implicitDefEqProofs (maxSteps := 400000) (maxDischargeDepth := 6) [s72L0, k0, k2, k8, k9, hlt', hlt2, hfu, c1, c2, c3, c4, hmin2, c5, c6, e2]
    have hp1 : 0 < i → 1 < 128 ^ i := fun h => Nat.one_lt_pow (by omega) (by omega)
    refine ⟨by omega, fun hge => ?_, fun hl3 => ?_⟩
    · rw [if_pos (by omega)] at hT
      refine ⟨5 - (i + 1), by omega, i + 1, by omega, rfl, z, ?_, rfl, rfl, ?_, hf.mono (by omega)⟩
      · rw [Nat.pow_succ, ← hz, ← hy]
        have : x * 128 ^ i ≤ 127 * 128 ^ i := Nat.mul_le_mul_right _ (by omega)
        omega
      · rw [show 5 - (i + 1) = 4 - i by omega, Nat.pow_succ]
        exact hT
    · rw [if_neg (by omega)] at hT
      refine ⟨fun h1 => ⟨fun h2 => ⟨fun h3 => ?_, fun h3 => ⟨by omega, ?_⟩⟩, fun h2 => ⟨by omega, ?_⟩⟩, fun h1 => ?_⟩
      · rw [if_pos (.inr ⟨hp1 h2, h3⟩)] at hT
        rw [takeAV_none hT]
        simp -implicitDefEqProofs (maxSteps := 400000) (maxDischargeDepth := 6)
      · rw [if_neg (by omega)] at hT
        rw [takeAV_some hT]
        simp -implicitDefEqProofs (maxSteps := 400000) (maxDischargeDepth := 6)
      · subst h2
        rw [if_neg (by simp -implicitDefEqProofs (maxSteps := 400000) (maxDischargeDepth := 6); omega)] at hT
        rw [takeAV_some hT]
        simp -implicitDefEqProofs (maxSteps := 400000) (maxDischargeDepth := 6)
      · rw [if_pos (.inl (by omega))] at hT
        rw [takeAV_none hT]
        simp -implicitDefEqProofs (maxSteps := 400000) (maxDischargeDepth := 6)
  · have hlt' : ¬ ((i : Int) < (min s.length 5 : Nat)) := by omega
    have hi2 : i = min s.length 5 := by omega
    have hn : none = takeN s := by
      rw [← hT]
      by_cases h5 : s.length < 5
      · rw [List.drop_eq_nil_of_le (by omega), show 5 - i = (4 - i) + 1 by omega, takeF]
      · rw [show 5 - i = 0 by omega, takeF]
    simp -implicitDefEqProofs (maxSteps := 400000) (maxDischargeDepth := 6) [s72L0, k0, k2, k8, k9, hlt']
    rw [takeAV_none hn]
    simp -implicitDefEqProofs (maxSteps := 400000) (maxDischargeDepth := 6)

def takeTextAV (s : List UInt8) : AV := .t [(false, [.str (takeTextR s).1]), (false, [.str (takeTextR s).2.1]), (false, [.raw (.int .i64 (takeTextR s).2.2)])]

def FN1_h72 : List AV → Option (Prop × AV) := t1 (fun s => s.length < 4611686018427387904) fun s : List UInt8 => takeAV s
@[simp] theorem FN1_ap72 {l : List AV} : FN1_h72 l = (t1 (fun s => s.length < 4611686018427387904) fun s : List UInt8 => takeAV s) l := rfl
def FN1 : CT := (72, .pu FN1_h72) :: FN0
theorem FN1_ok : CTok Tryz.prog FN1 := ⟨tells1 fun s h => numTake_ev s h, FN0_ok⟩
@[simp] theorem FN1_get72 : ctGet FN1 72 = some (.pu FN1_h72) := rfl
@[simp] theorem FN1_skip {n : Nat} (h : (n == 72) = false) : ctGet FN1 n = ctGet FN0 n := by
  simp only [Bool.or_eq_false_iff, beq_eq_false_iff_ne, ne_eq] at h
  simp [FN1, ctGet, h]

theorem takeN_len {s r : List UInt8} {n : Nat} (h : takeN s = some (n, r)) : n ≤ 268435456 ∧ r.length < s.length := by
  have go : ∀ (k m acc : Nat) (s r : List UInt8) (n : Nat), takeF k m acc s = some (n, r) → n ≤ 268435456 ∧ r.length < s.length := by
    intro k
    induction k with
    | zero => intro m acc s r n h; cases h
    | succ k ih =>
      intro m acc s r n h
      cases s with
      | nil => cases h
      | cons b s =>
        rw [takeF] at h
        split at h
        · have := ih _ _ _ _ _ h
          simp -implicitDefEqProofs (maxSteps := 400000) (maxDischargeDepth := 6); omega
        · split at h
          · cases h
          · cases h
            simp -implicitDefEqProofs (maxSteps := 400000) (maxDischargeDepth := 6); omega
  exact go _ _ _ _ _ _ h

theorem numTakeText_ev (s : List UInt8) (hs : s.length < 4611686018427387904) : PEv Tryz.prog 99 [.c (.str s)] (takeTextAV s) := by
  refine tells_of mixed FN1_ok Tryz.func99 sl99 ok99 (by kernel_rfl) (by simp -implicitDefEqProofs (maxSteps := 400000) (maxDischargeDepth := 6) [takeTextAV]) (by simp -implicitDefEqProofs (maxSteps := 400000) (maxDischargeDepth := 6)) ?_
  cases hn : takeN s with
  | none =>
    simp -implicitDefEqProofs (maxSteps := 400000) (maxDischargeDepth := 6) [s99, hs, takeAV_none hn.symm]
    simp -implicitDefEqProofs (maxSteps := 400000) (maxDischargeDepth := 6) [takeTextAV, takeTextR, hn]
  | some q =>
    obtain ⟨n, r⟩ := q
    obtain ⟨h1, h2⟩ := takeN_len hn
    by_cases hl : n ≤ r.length
    · simp -implicitDefEqProofs (maxSteps := 400000) (maxDischargeDepth := 6) [s99, hs, takeAV_some hn.symm, hl]
      simp -implicitDefEqProofs (maxSteps := 400000) (maxDischargeDepth := 6) [takeTextAV, takeTextR, hn, hl]
    · simp -implicitDefEqProofs (maxSteps := 400000) (maxDischargeDepth := 6) [s99, hs, takeAV_some hn.symm, hl]
      simp -implicitDefEqProofs (maxSteps := 400000) (maxDischargeDepth := 6) [takeTextAV, takeTextR, hn, hl]

theorem numText_ev (s : List UInt8) (hs : s.length < 140737488355328) : PEv Tryz.prog 58 [.c (.str s)] (.c (.str (bytesN s.length ++ s))) := by
  refine tells_of mixed FN1_ok Tryz.func58 sl58 ok58 (by kernel_rfl) (by simp -implicitDefEqProofs (maxSteps := 400000) (maxDischargeDepth := 6)) (by simp -implicitDefEqProofs (maxSteps := 400000) (maxDischargeDepth := 6)) ?_
  have h9 : ∀ (k n : Nat), (bytesF k n).length ≤ k + 1 := by
    intro k
    induction k with
    | zero => intro n; simp -implicitDefEqProofs (maxSteps := 400000) (maxDischargeDepth := 6) [bytesF]
    | succ k ih =>
      intro n
      rw [bytesF]
      split
      · simp -implicitDefEqProofs (maxSteps := 400000) (maxDischargeDepth := 6)
      · have := ih (n / 128); simp -implicitDefEqProofs (maxSteps := 400000) (maxDischargeDepth := 6); omega
  have := h9 9 s.length
  simp -implicitDefEqProofs (maxSteps := 400000) (maxDischargeDepth := 6) [s58, show s.length < 9223372036854775808 by omega]
  unfold bytesN
  omega

end Go.AE

/- What the library has proved of Go's own functions, at this program's numbers. Printed by a program of this session. -/
namespace Go.AE
open Go Go.Proofs Go.Shelf

def lays105_ren : Go.Shelf.Ren := ⟨fun | 105 => 59 | 212 => 47 | 99 => 51 | 165 => 69 | 166 => 70 | 170 => 82 | 169 => 71 | 263 => 67 | 264 => 68 | 206 => 74 | 240 => 83 | 241 => 84 | 276 => 91 | 277 => 92 | n => n, fun | 9 => 9 | 3 => 3 | 4 => 4 | 20 => 20 | 0 => 0 | 46 => 82 | 109 => 88 | 5 => 5 | 72 => 109 | 76 => 113 | 51 => 80 | 146 => 103 | 53 => 100 | 148 => 105 | 70 => 107 | 37 => 83 | 75 => 112 | 127 => 124 | 164 => 133 | 80 => 58 | n => n, fun  | n => n⟩
theorem lays105 : Lays.n105 Tryz.prog lays105_ren where
  mixed := by kernel_rfl
  f99 := Tryz.func51.trans (congrArg some (by kernel_rfl))
  f105 := Tryz.func59.trans (congrArg some (by kernel_rfl))
  f165 := Tryz.func69.trans (congrArg some (by kernel_rfl))
  f166 := Tryz.func70.trans (congrArg some (by kernel_rfl))
  f169 := Tryz.func71.trans (congrArg some (by kernel_rfl))
  f170 := Tryz.func82.trans (congrArg some (by kernel_rfl))
  f206 := Tryz.func74.trans (congrArg some (by kernel_rfl))
  f212 := Tryz.func47.trans (congrArg some (by kernel_rfl))
  f240 := Tryz.func83.trans (congrArg some (by kernel_rfl))
  f241 := Tryz.func84.trans (congrArg some (by kernel_rfl))
  f263 := Tryz.func67.trans (congrArg some (by kernel_rfl))
  f264 := Tryz.func68.trans (congrArg some (by kernel_rfl))
  f276 := Tryz.func91.trans (congrArg some (by kernel_rfl))
  f277 := Tryz.func92.trans (congrArg some (by kernel_rfl))
  t0 := Tryz.underlying0
  a0 := Tryz.isAgg0
  z0 := Tryz.sizeOf0
  v0 := Tryz.zeroValue0
  t3 := Tryz.underlying3
  a3 := Tryz.isAgg3
  z3 := Tryz.sizeOf3
  v3 := Tryz.zeroValue3
  t4 := Tryz.underlying4
  a4 := Tryz.isAgg4
  z4 := Tryz.sizeOf4
  v4 := Tryz.zeroValue4
  t5 := Tryz.underlying5
  a5 := Tryz.isAgg5
  z5 := Tryz.sizeOf5
  v5 := Tryz.zeroValue5
  t9 := Tryz.underlying9
  a9 := Tryz.isAgg9
  z9 := Tryz.sizeOf9
  v9 := Tryz.zeroValue9
  t20 := Tryz.underlying20
  a20 := Tryz.isAgg20
  z20 := Tryz.sizeOf20
  v20 := Tryz.zeroValue20
  t37 := Tryz.underlying83
  a37 := Tryz.isAgg83
  z37 := Tryz.sizeOf83
  v37 := Tryz.zeroValue83
  t46 := Tryz.underlying82
  a46 := Tryz.isAgg82
  z46 := Tryz.sizeOf82
  v46 := Tryz.zeroValue82
  t51 := Tryz.underlying80
  a51 := Tryz.isAgg80
  z51 := Tryz.sizeOf80
  v51 := Tryz.zeroValue80
  t53 := Tryz.underlying100
  a53 := Tryz.isAgg100
  z53 := Tryz.sizeOf100
  v53 := Tryz.zeroValue100
  t70 := Tryz.underlying107
  a70 := Tryz.isAgg107
  z70 := Tryz.sizeOf107
  v70 := Tryz.zeroValue107
  t72 := Tryz.underlying109
  a72 := Tryz.isAgg109
  z72 := Tryz.sizeOf109
  v72 := Tryz.zeroValue109
  t75 := Tryz.underlying112
  a75 := Tryz.isAgg112
  z75 := Tryz.sizeOf112
  v75 := Tryz.zeroValue112
  t76 := Tryz.underlying113
  a76 := Tryz.isAgg113
  z76 := Tryz.sizeOf113
  v76 := Tryz.zeroValue113
  t109 := Tryz.underlying88
  a109 := Tryz.isAgg88
  z109 := Tryz.sizeOf88
  v109 := Tryz.zeroValue88
  t127 := Tryz.underlying124
  a127 := Tryz.isAgg124
  z127 := Tryz.sizeOf124
  v127 := Tryz.zeroValue124
  t146 := Tryz.underlying103
  a146 := Tryz.isAgg103
  z146 := Tryz.sizeOf103
  v146 := Tryz.zeroValue103
  t148 := Tryz.underlying105
  a148 := Tryz.isAgg105
  z148 := Tryz.sizeOf105
  v148 := Tryz.zeroValue105
  t164 := Tryz.underlying133
  a164 := Tryz.isAgg133
  z164 := Tryz.sizeOf133
  v164 := Tryz.zeroValue133
theorem lays105X : Builder.Extra Tryz.prog lays105_ren where
  sizeBuilder := by kernel_rfl
  liesBuilder := by kernel_rfl
  t5 := Tryz.underlying5
  a5 := Tryz.isAgg5
  z5 := Tryz.sizeOf5
  v5 := Tryz.zeroValue5
  infoByte := by kernel_rfl
  cellsByte := by kernel_rfl
  sizeByte := by kernel_rfl
  neB5 := by decide

end Go.AE

/- Numbers' bytes, one behind the other: a walk in the kit's own way over a builder. -/
set_option linter.unusedVariables false
set_option linter.unusedSimpArgs false
set_option maxHeartbeats 4000000
set_option maxRecDepth 1000000
namespace Go.AE
open Go Go.Proofs Go.RowKit

def numsN (l : List Int) : List UInt8 := l.flatMap fun n => bytesN n.toNat

theorem pev_str_calls {f : FuncId} {args : List AV} {b : List UInt8} (hp : PEv Tryz.prog f args (.c (.str b))) {w : World} (hI : Inv Tryz.prog w) {vs : Array Value} (hs : vs.size = args.length)
    (hr : ∀ (k : Nat) x, args[k]? = some x → RelV w (Fr (Ctx.of w hI fun _ _ => True) noHeap noLies) noHeap noLies x (vs.getD k undef)) :
    Calls Tryz.prog f vs w fun e w' => e = .returned (.string ⟨b.toArray⟩) ∧ RowKit.Below w.heap.size w w' := by
  refine (hp.2 w hI (fun _ _ => True) vs hs hr (fun k => (0, k)) (fun i j h => by simpa using h)).mono ?_
  rintro e w' ⟨v, rfl, ρ, hH, hR⟩
  have hv := relC_str (relV_c hR)
  subst hv
  exact ⟨rfl, hH.below⟩

theorem bytes_calls (n : Int) (h0 : 0 ≤ n) (h1 : n < 9223372036854775808) {w : World} (hI : Inv Tryz.prog w) :
    Calls Tryz.prog 33 #[.int .i64 n] w fun e w' => e = .returned (.string ⟨(bytesN n.toNat).toArray⟩) ∧ RowKit.Below w.heap.size w w' := by
  have := numBytes_ev n.toNat (by omega)
  rw [Int.toNat_of_nonneg h0] at this
  refine pev_str_calls this hI rfl fun k y hk => by
    match k, hk with
    | 0, hk =>
      simp -implicitDefEqProofs (maxSteps := 400000) (maxDischargeDepth := 6) at hk
      subst hk
      exact .c _ _ (.raw _)

theorem bytesN_len' (n : Nat) : (bytesN n).length ≤ 10 := by
  have h9 : ∀ (k n : Nat), (bytesF k n).length ≤ k + 1 := by
    intro k
    induction k with
    | zero => intro n; simp -implicitDefEqProofs (maxSteps := 400000) (maxDischargeDepth := 6) [bytesF]
    | succ k ih =>
      intro n
      rw [bytesF]
      split
      · simp -implicitDefEqProofs (maxSteps := 400000) (maxDischargeDepth := 6)
      · have := ih (n / 128); simp -implicitDefEqProofs (maxSteps := 400000) (maxDischargeDepth := 6); omega
  exact h9 9 n

theorem numsN_len (l : List Int) : (numsN l).length ≤ 10 * l.length := by
  induction l with
  | nil => simp -implicitDefEqProofs (maxSteps := 400000) (maxDischargeDepth := 6) [numsN]
  | cons x l ih =>
    have := bytesN_len' x.toNat
    simp -implicitDefEqProofs (maxSteps := 400000) (maxDischargeDepth := 6) [numsN] at ih ⊢
    omega

theorem bldF_below {T e : TypeId} {B b : Nat} {p : Value} {bs : List Value} {W W' : World} (h : Lib.BuilderAtF T e B b p bs W) (hb : Below W.heap.size W W') : Lib.BuilderAtF T e B b p bs W' := by
  have hlt : b < W.heap.size := by
    obtain ⟨_, v, hv, _⟩ := h
    exact (Array.getElem?_eq_some_iff.1 hv).1
  obtain ⟨h1, v, hv, hown, hne⟩ := h
  refine ⟨h1, v, by rw [hb.block b hlt]; exact hv, ?_, hne⟩
  refine hown.kept (row := none) ⟨hb.os, hb.tape, hb.output, hb.size, fun k hk _ => hb.block k hk⟩ (Classical.em _)
theorem isBld_below {T e : TypeId} {B b : Nat} {bs : List Value} {W W' : World} (h : Lib.IsBuilderF T e B b bs W) (hb : Below W.heap.size W W') : Lib.IsBuilderF T e B b bs W' :=
  h.elim (fun x => .inl (bldF_below x hb)) (fun x => .inr (bldF_below x hb))

theorem numbers_walk (l : List Int) (hl : l.length < 1000000) (h0 : ∀ n ∈ l, 0 ≤ n ∧ n < 9223372036854775808) (w : World) (hI : Inv Tryz.prog w) (v : Value) (a : Option Addr) (c : Nat) (hv : v = .slice a l.length c)
    (ha : ∀ (i : Nat) (hi : i < l.length), ∃ b o : Nat, a = some ⟨b, o, none⟩ ∧ b < w.heap.size ∧ w.cell? ⟨b, o + i, none⟩ = some (.int .i64 l[i])) :
    Calls Tryz.prog 56 #[v] w fun e w' => e = .returned (.string ⟨(numsN l).toArray⟩) ∧ RowKit.Below w.heap.size w w' := by
  subst hv
  go_enter Tryz.func56, Tryz.ntmps56
  go_wp2
  go_loopw [8] (fun i wr => ∃ k : Nat, k ≤ l.length ∧ i = .int .i64 k ∧ Lib.IsBuilderF 109 5 w.heap.size w.heap.size (Lib.byteCells (numsN (l.take k))) wr ∧ Below w.heap.size w wr) (fun i _ => l.length - (Go.RowKit.intOf i).toNat)
  case atStart =>
    exact ⟨0, Nat.zero_le _, rfl, Lib.IsBuilderF.of (Lib.fresh_isBuilder 109 5 w), (Below.refl _ w).alloc (Nat.le_refl _) _⟩
  case round =>
    obtain ⟨k, hk, rfl, hB, hbw⟩ := hrel
    by_cases hlt : k < l.length
    · obtain ⟨b, o, rfl, hb, hc⟩ := ha k hlt
      have hc' : wr.cell? ⟨b, o + k, none⟩ = some (.int .i64 l[k]) := by
        rw [hbw.cell (p := ⟨b, o + k, none⟩) hb]; exact hc
      have hm : l[k] ∈ l := List.getElem_mem hlt
      obtain ⟨hn0, hn1⟩ := h0 _ hm
      go_wp2_with (go_at_call 33; refine (bytes_calls l[k] hn0 hn1 (hI.keep hbw)).mono ?_)
      rintro e W1 ⟨rfl, b1⟩
      have hlen := numsN_len (l.take k)
      rw [List.length_take] at hlen
      have hb10 := bytesN_len' l[k].toNat
      have hsz : wr.heap.size ≤ W1.heap.size := b1.size
      have hsz0 : w.heap.size ≤ wr.heap.size := hbw.size
      go_wp2_with (go_at_call 70; refine (Any.Builder_WriteString_f { lays105 with } lays105X w.heap.size w.heap.size _ ⟨(bytesN l[k].toNat).toArray⟩ W1 (isBld_below hB b1) (by rw [Lib.byteCells_length]; show _ + (bytesN l[k].toNat).length ≤ _; omega) (by omega)).mono ?_)
      rintro e W2 ⟨rfl, h2, b2⟩
      go_wp2
      go_roundw
      case rel =>
        refine ⟨_, _, _, _, _, _, _, _, _, ?_, rfl⟩
        refine ⟨k + 1, by omega, by go_num, ?_, (hbw.trans (b1.mono hsz0)).trans b2⟩
        have : numsN (l.take (k + 1)) = numsN (l.take k) ++ bytesN l[k].toNat := by
          rw [← List.take_append_getElem hlt, numsN, List.flatMap_append]
          simp -implicitDefEqProofs (maxSteps := 400000) (maxDischargeDepth := 6) [numsN]
        rw [this, Lib.byteCells_append]
        exact Or.inr h2
      case measure =>
        simp -implicitDefEqProofs (maxSteps := 400000) (maxDischargeDepth := 6) [Go.RowKit.intOf]
        omega
    · have hke : k = l.length := by omega
      subst hke
      rw [List.take_length] at hB
      have hsz0 : w.heap.size ≤ wr.heap.size := hbw.size
      go_wp2_with (go_at_call 71; refine (Any.Builder_String_any_f { lays105 with } lays105X w.heap.size w.heap.size _ wr hB hsz0).mono ?_)
      rintro e W1 ⟨rfl, _, b1⟩
      go_wp2
      go_ret
      exact ⟨rfl, hbw.trans b1⟩

theorem numbers_ev (l : List Int) (hl : l.length < 1000000) (h0 : ∀ n ∈ l, 0 ≤ n ∧ n < 9223372036854775808) : PEv Tryz.prog 56 [Arg.enc l] (.c (.str (numsN l))) := by
  refine pev_str (by kernel_rfl) (by simp -implicitDefEqProofs (maxSteps := 400000) (maxDischargeDepth := 6)) fun w hI F vs hs hr => ?_
  have h1 := relV_c (hr 0 _ rfl)
  generalize hv : vs.getD 0 undef = v at h1
  rw [vs1 hs hv]
  generalize hx : rowsE l = xs at h1
  cases h1 with
  | slNil _ _ _ hn =>
    cases l with
    | cons => cases hx
    | nil =>
      rcases hn with rfl | ⟨a, rfl⟩
      · exact numbers_walk [] hl h0 w hI _ none 0 rfl (fun i hi => by simp -implicitDefEqProofs (maxSteps := 400000) (maxDischargeDepth := 6) at hi)
      · exact numbers_walk [] hl h0 w hI _ (some a) 0 rfl (fun i hi => by simp -implicitDefEqProofs (maxSteps := 400000) (maxDischargeDepth := 6) at hi)
  | sl _ _ _ b o cap sz us hb hF hcap hcl hrow hcell hone hrel =>
    subst hx
    have hlen : (rowsE l).length = l.length := by simp -implicitDefEqProofs (maxSteps := 400000) (maxDischargeDepth := 6) [rowsE]
    refine numbers_walk l hl h0 w hI _ (some ⟨b, o, none⟩) cap (by rw [hlen]) fun i hi => ⟨b, o, rfl, hb, ?_⟩
    have hri : (rowsE l)[i]? = some [AC.raw (.int .i64 l[i])] := by simp -implicitDefEqProofs (maxSteps := 400000) (maxDischargeDepth := 6) [rowsE, hi]
    have hsz : 1 = sz := hrow i _ hri
    subst hsz
    rw [hcell i (by rw [hlen]; omega)]
    have := relC_raw (hrel i 0 _ _ hri rfl)
    simp -implicitDefEqProofs (maxSteps := 400000) (maxDischargeDepth := 6) at this
    rw [this]

end Go.AE

/- Frames: what they tell. -/
set_option linter.unusedVariables false
set_option linter.unusedSimpArgs false
set_option maxHeartbeats 2000000
set_option maxRecDepth 100000
namespace Go.AE
open Go Go.Proofs

/-- A check's number. -/
structure W32 where
  n : Nat
instance argW32 : Arg W32 where
  enc w := .c (.raw (.int .u32 w.n))
  dec | .c (.raw (.int .u32 (.ofNat n))) => some ⟨n⟩ | _ => none
  dec_some {x a} h := by split at h <;> simp_all; subst h; rfl
@[simp] theorem enc_W32 (w : W32) : Arg.enc w = .c (.raw (.int .u32 w.n)) := rfl
@[simp] theorem dec_W32 (n : Nat) : (Arg.dec (.c (.raw (.int .u32 (n : Int)))) : Option W32) = some ⟨n⟩ := rfl

theorem ofF_step {h i : Nat} {s : List UInt8} (hi : i < s.length) : ofF h (s.drop i) = ofF ((h * 263 + s[i].toNat + 7) % 4294967291) (s.drop (i + 1)) := by
  rw [List.drop_eq_getElem_cons hi, ofF]
theorem ofF_lt : ∀ (s : List UInt8) (h : Nat), h < 4294967291 → ofF h s < 4294967291
  | [], h, hh => hh
  | b :: s, h, hh => ofF_lt s _ (Nat.mod_lt _ (by omega))

theorem sealOf_ev (s : List UInt8) (hs : s.length < 4611686018427387904) : PEv Tryz.prog 61 [.c (.str s)] (.c (.raw (.int .u32 (ofN s)))) := by
  refine tells_of mixed (F := []) trivial Tryz.func61 sl61 ok61 (by kernel_rfl) (by simp -implicitDefEqProofs (maxSteps := 400000) (maxDischargeDepth := 6)) (by simp -implicitDefEqProofs (maxSteps := 400000) (maxDischargeDepth := 6)) ?_
  simp -implicitDefEqProofs (maxSteps := 400000) (maxDischargeDepth := 6) [s61]
  refine loop_n (fun q st => ∃ (i h : Nat), i ≤ s.length ∧ q = s.length - i ∧ h < 4294967291 ∧ st.s 0 = .c (.str s) ∧ st.s 3 = .c (.raw (.int .u64 h)) ∧ st.s 6 = .c (.raw (.int .i64 s.length)) ∧ st.s 7 = .c (.raw (.int .i64 i)) ∧ ofF h (s.drop i) = ofN s) s.length
    ⟨0, 1, by omega, rfl, by omega, by simp -implicitDefEqProofs (maxSteps := 400000) (maxDischargeDepth := 6), by simp -implicitDefEqProofs (maxSteps := 400000) (maxDischargeDepth := 6), by simp -implicitDefEqProofs (maxSteps := 400000) (maxDischargeDepth := 6), by simp -implicitDefEqProofs (maxSteps := 400000) (maxDischargeDepth := 6), rfl⟩ ?_
  rintro q st ⟨i, h, hi, rfl, hh, k0, k3, k6, k7, hT⟩
  by_cases hlt : i < s.length
  · have hlt' : (i : Int) < s.length := by omega
    have hb := s[i].toNat_lt
    rw [ofF_step hlt] at hT
    have c1 := bts_at s i hlt
    obtain ⟨b, hb2, hb3⟩ : ∃ b : Nat, s[i].toNat = b ∧ b < 256 := ⟨_, rfl, hb⟩
    rw [hb2] at c1 hT
    have c2 : IntKind.wrap .u64 ((h : Int) * 263) = (h : Int) * 263 := by rw [wrap64u_mod]; omega
    have c3 : IntKind.wrap .u64 (b : Int) = b := by rw [wrap64u_mod]; omega
    have c4 : IntKind.wrap .u64 ((h : Int) * 263 + b) = (h : Int) * 263 + b := by rw [wrap64u_mod]; omega
    have c5 : IntKind.wrap .u64 ((h : Int) * 263 + b + 7) = (h : Int) * 263 + b + 7 := by rw [wrap64u_mod]; omega
    obtain ⟨z, hz, hz2⟩ : ∃ z : Nat, (h * 263 + b + 7) % 4294967291 = z ∧ z < 4294967291 := ⟨_, rfl, Nat.mod_lt _ (by omega)⟩
    have c6 : ((h : Int) * 263 + b + 7).tmod 4294967291 = z := by rw [Int.tmod_eq_emod_of_nonneg (by omega)]; omega
    have e2 : IntKind.wrap .i64 ((i : Int) + 1) = (i : Int) + 1 := by rw [wrap64_id] <;> omega
    rw [hz] at hT
    simp -implicitDefEqProofs (maxSteps := 400000) (maxDischargeDepth := 6) [s61L0, k0, k3, k6, k7, hlt, c1, c2, c3, c4, c5, c6, e2]
    exact ⟨s.length - (i + 1), by omega, i + 1, by omega, rfl, z, hz2, rfl, rfl, hT⟩
  · have : i = s.length := by omega
    subst this
    have hr : h = ofN s := by rw [← hT]; simp -implicitDefEqProofs (maxSteps := 400000) (maxDischargeDepth := 6) [ofF]
    have c7 : IntKind.wrap .u32 (h : Int) = h := by rw [wrap32_mod]; omega
    rw [hr] at c7 k3
    simp -implicitDefEqProofs (maxSteps := 400000) (maxDischargeDepth := 6) [s61L0, k0, k3, k6, k7, c7]

theorem spelt_ev (h : Nat) (hh : h < 4294967296) : PEv Tryz.prog 60 [.c (.raw (.int .u32 h))] (.c (.str (speltN h))) := by
  refine tells_of mixed (F := []) trivial Tryz.func60 sl60 ok60 (by kernel_rfl) (by simp -implicitDefEqProofs (maxSteps := 400000) (maxDischargeDepth := 6)) (by simp -implicitDefEqProofs (maxSteps := 400000) (maxDischargeDepth := 6)) ?_
  have c : ∀ k : Nat, (h : Int).fdiv (2 ^ k) = ((h / 2 ^ k : Nat) : Int) := fun k => by
    rw [Int.fdiv_eq_ediv_of_nonneg _ (by exact Int.pow_nonneg (by omega))]
    push_cast
    rfl
  have w8 : ∀ n : Nat, IntKind.wrap .u8 (n : Int) = ((n % 256 : Nat) : Int) := fun n => by rw [wrap8_mod (by omega)]; omega
  have u8 : ∀ n : Nat, UInt8.ofNat (n % 256) = UInt8.ofNat n := fun n => by
    apply UInt8.toNat_inj.1
    simp -implicitDefEqProofs (maxSteps := 400000) (maxDischargeDepth := 6)
  have b : IntKind.bits .u32 = 32 := rfl
  have c1 := c 24
  have c2 := c 16
  have c3 := c 8
  simp only [show (2 : Nat) ^ 24 = 16777216 from rfl, show (2 : Nat) ^ 16 = 65536 from rfl, show (2 : Nat) ^ 8 = 256 from rfl, show (2 : Int) ^ 24 = 16777216 from rfl, show (2 : Int) ^ 16 = 65536 from rfl, show (2 : Int) ^ 8 = 256 from rfl] at c1 c2 c3
  obtain ⟨x1, h1⟩ : ∃ x, h / 16777216 = x := ⟨_, rfl⟩
  obtain ⟨x2, h2⟩ : ∃ x, h / 65536 = x := ⟨_, rfl⟩
  obtain ⟨x3, h3⟩ : ∃ x, h / 256 = x := ⟨_, rfl⟩
  rw [h1] at c1
  rw [h2] at c2
  rw [h3] at c3
  have v0 := w8 h
  have v1 := w8 x1
  have v2 := w8 x2
  have v3 := w8 x3
  obtain ⟨y0, g0⟩ : ∃ x, h % 256 = x := ⟨_, rfl⟩
  obtain ⟨y1, g1⟩ : ∃ x, x1 % 256 = x := ⟨_, rfl⟩
  obtain ⟨y2, g2⟩ : ∃ x, x2 % 256 = x := ⟨_, rfl⟩
  obtain ⟨y3, g3⟩ : ∃ x, x3 % 256 = x := ⟨_, rfl⟩
  rw [g0] at v0
  rw [g1] at v1
  rw [g2] at v2
  rw [g3] at v3
  simp -implicitDefEqProofs (maxSteps := 400000) (maxDischargeDepth := 6) [s60, b, c1, c2, c3, v0, v1, v2, v3]
  rw [speltN, h1, h2, h3, ← u8 x1, ← u8 x2, ← u8 x3, ← u8 h, g0, g1, g2, g3]

def FS0_h99 : List AV → Option (Prop × AV) := t1 (fun s => s.length < 4611686018427387904) fun s : List UInt8 => takeTextAV s
@[simp] theorem FS0_ap99 {l : List AV} : FS0_h99 l = (t1 (fun s => s.length < 4611686018427387904) fun s : List UInt8 => takeTextAV s) l := rfl
def FS0_h58 : List AV → Option (Prop × AV) := t1 (fun s => s.length < 140737488355328) fun s : List UInt8 => .c (.str (bytesN s.length ++ s))
@[simp] theorem FS0_ap58 {l : List AV} : FS0_h58 l = (t1 (fun s => s.length < 140737488355328) fun s : List UInt8 => .c (.str (bytesN s.length ++ s))) l := rfl
def FS0_h61 : List AV → Option (Prop × AV) := t1 (fun s => s.length < 4611686018427387904) fun s : List UInt8 => .c (.raw (.int .u32 (ofN s)))
@[simp] theorem FS0_ap61 {l : List AV} : FS0_h61 l = (t1 (fun s => s.length < 4611686018427387904) fun s : List UInt8 => .c (.raw (.int .u32 (ofN s)))) l := rfl
def FS0_h60 : List AV → Option (Prop × AV) := t1 (fun w => w.n < 4294967296) fun w : W32 => .c (.str (speltN w.n))
@[simp] theorem FS0_ap60 {l : List AV} : FS0_h60 l = (t1 (fun w => w.n < 4294967296) fun w : W32 => .c (.str (speltN w.n))) l := rfl
def FS0 : CT := (99, .pu FS0_h99) :: (58, .pu FS0_h58) :: (61, .pu FS0_h61) :: (60, .pu FS0_h60) :: FN1
theorem FS0_ok : CTok Tryz.prog FS0 := ⟨tells1 fun s h => numTakeText_ev s h,
  tells1 fun s h => numText_ev s h,
  tells1 fun s h => sealOf_ev s h,
  tells1 fun w h => spelt_ev w.n h, FN1_ok⟩
@[simp] theorem FS0_get99 : ctGet FS0 99 = some (.pu FS0_h99) := rfl
@[simp] theorem FS0_get58 : ctGet FS0 58 = some (.pu FS0_h58) := rfl
@[simp] theorem FS0_get61 : ctGet FS0 61 = some (.pu FS0_h61) := rfl
@[simp] theorem FS0_get60 : ctGet FS0 60 = some (.pu FS0_h60) := rfl
@[simp] theorem FS0_skip {n : Nat} (h : (n == 99 || n == 58 || n == 61 || n == 60) = false) : ctGet FS0 n = ctGet FN1 n := by
  simp only [Bool.or_eq_false_iff, beq_eq_false_iff_ne, ne_eq] at h
  simp [FS0, ctGet, h]

theorem ofN_lt (s : List UInt8) : ofN s < 4294967296 := Nat.lt_trans (ofF_lt s 1 (by omega)) (by omega)

theorem bytesN_len (n : Nat) : (bytesN n).length ≤ 10 := by
  have h9 : ∀ (k n : Nat), (bytesF k n).length ≤ k + 1 := by
    intro k
    induction k with
    | zero => intro n; simp -implicitDefEqProofs (maxSteps := 400000) (maxDischargeDepth := 6) [bytesF]
    | succ k ih =>
      intro n
      rw [bytesF]
      split
      · simp -implicitDefEqProofs (maxSteps := 400000) (maxDischargeDepth := 6)
      · have := ih (n / 128); simp -implicitDefEqProofs (maxSteps := 400000) (maxDischargeDepth := 6); omega
  exact h9 9 n

theorem sealAdd_ev (s : List UInt8) (hs : s.length < 4611686018427387904) : PEv Tryz.prog 36 [.c (.str s)] (.c (.str (sealA s))) := by
  refine tells_of mixed FS0_ok Tryz.func36 sl36 ok36 (by kernel_rfl) (by simp -implicitDefEqProofs (maxSteps := 400000) (maxDischargeDepth := 6)) (by simp -implicitDefEqProofs (maxSteps := 400000) (maxDischargeDepth := 6)) ?_
  have hb := bytesN_len s.length
  by_cases h7 : 700 < s.length
  · have h7' : (700 : Int) < s.length := by omega
    simp -implicitDefEqProofs (maxSteps := 400000) (maxDischargeDepth := 6) [s36, h7', sealA, h7]
  · have h7' : ¬ (700 : Int) < s.length := by omega
    have l1 : (speltN (ofN (bytesN s.length ++ s))).length = 4 := rfl
    simp -implicitDefEqProofs (maxSteps := 400000) (maxDischargeDepth := 6) [s36, h7', sealA, h7, ofN_lt, l1, show s.length < 9223372036854775808 by omega]
    omega

def sealTAV (s : List UInt8) : AV := match sealT s with
  | some (t, r) => .t [(false, [.str t]), (false, [.str r]), (false, [.raw (.bool true)])]
  | none => .t [(false, [.str []]), (false, [.str []]), (false, [.raw (.bool false)])]

theorem sealTake_ev (s : List UInt8) (hs : s.length < 4611686018427387904) : PEv Tryz.prog 49 [.c (.str s)] (sealTAV s) := by
  refine tells_of mixed FS0_ok Tryz.func49 sl49 ok49 (by kernel_rfl) (by unfold sealTAV; split <;> simp -implicitDefEqProofs (maxSteps := 400000) (maxDischargeDepth := 6)) (by simp -implicitDefEqProofs (maxSteps := 400000) (maxDischargeDepth := 6)) ?_
  cases hn : takeN s with
  | none =>
    simp -implicitDefEqProofs (maxSteps := 400000) (maxDischargeDepth := 6) [s49, hs, takeAV_none hn.symm]
    simp -implicitDefEqProofs (maxSteps := 400000) (maxDischargeDepth := 6) [sealTAV, sealT, hn]
  | some q =>
    obtain ⟨n, r⟩ := q
    obtain ⟨h1, h2⟩ := takeN_len hn
    by_cases h7 : 700 < n
    · have h7' : (700 : Int) < n := by omega
      simp -implicitDefEqProofs (maxSteps := 400000) (maxDischargeDepth := 6) [s49, hs, takeAV_some hn.symm, h7']
      simp -implicitDefEqProofs (maxSteps := 400000) (maxDischargeDepth := 6) [sealTAV, sealT, hn, h7]
    · have h7' : ¬ (700 : Int) < n := by omega
      have e1 : IntKind.wrap .i64 ((r.length : Int) - 4) = (r.length : Int) - 4 := by rw [wrap64_id] <;> omega
      by_cases h8 : r.length < n + 4
      · have h8' : (r.length : Int) - 4 < n := by omega
        simp -implicitDefEqProofs (maxSteps := 400000) (maxDischargeDepth := 6) [s49, hs, takeAV_some hn.symm, h7', e1, h8']
        simp -implicitDefEqProofs (maxSteps := 400000) (maxDischargeDepth := 6) [sealTAV, sealT, hn, h7, h8]
      · have h8' : ¬ (r.length : Int) - 4 < n := by omega
        have e2 : IntKind.wrap .i64 ((s.length : Int) - r.length) = ((s.length - r.length : Nat) : Int) := by rw [wrap64_id] <;> omega
        have e3 : IntKind.wrap .i64 (4 + (n : Int)) = ((4 + n : Nat) : Int) := by rw [wrap64_id] <;> omega
        obtain ⟨a, ha⟩ : ∃ a, s.length - r.length = a := ⟨_, rfl⟩
        obtain ⟨b, hb⟩ : ∃ b, 4 + n = b := ⟨_, rfl⟩
        rw [ha] at e2
        rw [hb] at e3
        have e4 : a ≤ s.length := by omega
        have e5 : b ≤ r.length := by omega
        have e6 : 4 ≤ b := by omega
        have e7 : 4 ≤ r.length := by omega
        by_cases hc : r.take 4 = speltN (ofN (s.take a ++ (r.take b).drop 4))
        · simp -implicitDefEqProofs (maxSteps := 400000) (maxDischargeDepth := 6) [s49, hs, takeAV_some hn.symm, h7', e1, h8', e2, e3, e4, e5, e6, e7, ofN_lt, hc]
          refine ⟨by omega, by omega, by omega, by omega, ?_⟩
          simp -implicitDefEqProofs (maxSteps := 400000) (maxDischargeDepth := 6) [sealTAV, sealT, hn, h7, h8, ha, hb, hc]
        · simp -implicitDefEqProofs (maxSteps := 400000) (maxDischargeDepth := 6) [s49, hs, takeAV_some hn.symm, h7', e1, h8', e2, e3, e4, e5, e6, e7, ofN_lt, hc]
          refine ⟨by omega, by omega, by omega, by omega, ?_⟩
          simp -implicitDefEqProofs (maxSteps := 400000) (maxDischargeDepth := 6) [sealTAV, sealT, hn, h7, h8, ha, hb, hc]

def FS1_h36 : List AV → Option (Prop × AV) := t1 (fun s => s.length < 4611686018427387904) fun s : List UInt8 => .c (.str (sealA s))
@[simp] theorem FS1_ap36 {l : List AV} : FS1_h36 l = (t1 (fun s => s.length < 4611686018427387904) fun s : List UInt8 => .c (.str (sealA s))) l := rfl
def FS1_h49 : List AV → Option (Prop × AV) := t1 (fun s => s.length < 4611686018427387904) fun s : List UInt8 => sealTAV s
@[simp] theorem FS1_ap49 {l : List AV} : FS1_h49 l = (t1 (fun s => s.length < 4611686018427387904) fun s : List UInt8 => sealTAV s) l := rfl
def FS1 : CT := (36, .pu FS1_h36) :: (49, .pu FS1_h49) :: FS0
theorem FS1_ok : CTok Tryz.prog FS1 := ⟨tells1 fun s h => sealAdd_ev s h,
  tells1 fun s h => sealTake_ev s h, FS0_ok⟩
@[simp] theorem FS1_get36 : ctGet FS1 36 = some (.pu FS1_h36) := rfl
@[simp] theorem FS1_get49 : ctGet FS1 49 = some (.pu FS1_h49) := rfl
@[simp] theorem FS1_skip {n : Nat} (h : (n == 36 || n == 49) = false) : ctGet FS1 n = ctGet FS0 n := by
  simp only [Bool.or_eq_false_iff, beq_eq_false_iff_ne, ne_eq] at h
  simp [FS1, ctGet, h]

end Go.AE

/- strings.ContainsFunc's contract of the kit, at this program's numbers. -/
set_option maxRecDepth 100000
namespace Go.AE
open Go Go.Proofs Go.Shelf

def lays17_ren : Go.Shelf.Ren := ⟨fun | 15 => 96 | 17 => 87 | 20 => 100 | n => n, fun | 0 => 0 | 3 => 3 | 4 => 4 | 9 => 9 | 21 => 21 | 23 => 130 | n => n, fun n => n⟩
theorem lays17 : LaysGw.n17 Tryz.prog lays17_ren where
  mixed := by kernel_rfl
  f15 := Tryz.func96.trans (congrArg some (by kernel_rfl))
  f17 := Tryz.func87.trans (congrArg some (by kernel_rfl))
  f20 := Tryz.func100.trans (congrArg some (by kernel_rfl))
  t0 := Tryz.underlying0
  a0 := Tryz.isAgg0
  z0 := Tryz.sizeOf0
  v0 := Tryz.zeroValue0
  i0 := by kernel_rfl
  t3 := Tryz.underlying3
  a3 := Tryz.isAgg3
  z3 := Tryz.sizeOf3
  v3 := Tryz.zeroValue3
  i3 := by kernel_rfl
  t4 := Tryz.underlying4
  a4 := Tryz.isAgg4
  z4 := Tryz.sizeOf4
  v4 := Tryz.zeroValue4
  i4 := by kernel_rfl
  t9 := Tryz.underlying9
  a9 := Tryz.isAgg9
  z9 := Tryz.sizeOf9
  v9 := Tryz.zeroValue9
  i9 := by kernel_rfl
  t21 := Tryz.underlying21
  a21 := Tryz.isAgg21
  z21 := Tryz.sizeOf21
  v21 := Tryz.zeroValue21
  i21 := by kernel_rfl
  t23 := Tryz.underlying130
  a23 := Tryz.isAgg130
  z23 := Tryz.sizeOf130
  v23 := Tryz.zeroValue130
  i23 := by kernel_rfl

end Go.AE

/- What the library has proved of Go's own functions, at this program's numbers. Printed by a program of this session. -/
namespace Go.AE
open Go Go.Proofs Go.Shelf

def lays195_ren : Go.Shelf.Ren := ⟨fun | 195 => 89 | n => n, fun | 9 => 9 | 3 => 3 | 0 => 0 | 4 => 4 | n => n, fun  | n => n⟩
theorem lays195 : Lays.n195 Tryz.prog lays195_ren where
  mixed := by kernel_rfl
  f195 := Tryz.func89.trans (congrArg some (by kernel_rfl))
  t0 := Tryz.underlying0
  a0 := Tryz.isAgg0
  z0 := Tryz.sizeOf0
  v0 := Tryz.zeroValue0
  t3 := Tryz.underlying3
  a3 := Tryz.isAgg3
  z3 := Tryz.sizeOf3
  v3 := Tryz.zeroValue3
  t4 := Tryz.underlying4
  a4 := Tryz.isAgg4
  z4 := Tryz.sizeOf4
  v4 := Tryz.zeroValue4
  t9 := Tryz.underlying9
  a9 := Tryz.isAgg9
  z9 := Tryz.sizeOf9
  v9 := Tryz.zeroValue9

end Go.AE

/- Ops: what they tell. -/
set_option linter.unusedVariables false
set_option linter.unusedSimpArgs false
set_option maxHeartbeats 2000000
set_option maxRecDepth 100000
namespace Go.AE
open Go Go.Proofs

/-- A rune that may be. -/
def runeB (r : Int) : Bool := r == 10 || (decide (32 ≤ r) && decide (r ≤ 1114111) && r != 127 && r != 65533 && (decide (r ≤ 55295) || decide (57344 ≤ r)))

instance argR : Arg (Int × Unit) where
  enc r := .c (.raw (.int .i32 r.1))
  dec | .c (.raw (.int .i32 n)) => some (n, ()) | _ => none
  dec_some {x a} h := by split at h <;> simp_all; subst h; rfl
@[simp] theorem dec_R (n : Int) : (Arg.dec (.c (.raw (.int .i32 n))) : Option (Int × Unit)) = some (n, ()) := rfl
@[simp] theorem enc_R (r : Int × Unit) : Arg.enc r = .c (.raw (.int .i32 r.1)) := rfl

theorem textIs_ev (r : Int) : PEv Tryz.prog 97 [.c (.raw (.int .i32 r))] (.c (.raw (.bool (runeB r)))) := by
  refine tells_of mixed (F := []) trivial Tryz.func97 sl97 ok97 (by kernel_rfl) (by simp -implicitDefEqProofs (maxSteps := 400000) (maxDischargeDepth := 6)) (by simp -implicitDefEqProofs (maxSteps := 400000) (maxDischargeDepth := 6)) ?_
  by_cases h0 : r = 10
  · simp -implicitDefEqProofs (maxSteps := 400000) (maxDischargeDepth := 6) [s97, h0, runeB]
  · by_cases h1 : r < 32
    · simp -implicitDefEqProofs (maxSteps := 400000) (maxDischargeDepth := 6) [s97, h0, h1, runeB, show ¬ 32 ≤ r by omega]
    · by_cases h2 : 1114111 < r
      · simp -implicitDefEqProofs (maxSteps := 400000) (maxDischargeDepth := 6) [s97, h0, h1, h2, runeB, show ¬ r ≤ 1114111 by omega]
      · by_cases h3 : r = 127
        · subst h3; simp -implicitDefEqProofs (maxSteps := 400000) (maxDischargeDepth := 6) [s97, runeB]
        · by_cases h4 : r = 65533
          · subst h4; simp -implicitDefEqProofs (maxSteps := 400000) (maxDischargeDepth := 6) [s97, runeB]
          · by_cases h5 : r ≤ 55295
            · simp -implicitDefEqProofs (maxSteps := 400000) (maxDischargeDepth := 6) [s97, h0, h1, h2, h3, h4, h5, runeB]
              omega
            · by_cases h6 : 57344 ≤ r
              · simp -implicitDefEqProofs (maxSteps := 400000) (maxDischargeDepth := 6) [s97, h0, h1, h2, h3, h4, h5, h6, runeB]
                omega
              · simp -implicitDefEqProofs (maxSteps := 400000) (maxDischargeDepth := 6) [s97, h0, h1, h2, h3, h4, h5, h6, runeB]

def FO0_h97 : List AV → Option (Prop × AV) := t1 (fun _ => True) fun r : Int × Unit => .c (.raw (.bool (runeB r.1)))
@[simp] theorem FO0_ap97 {l : List AV} : FO0_h97 l = (t1 (fun _ => True) fun r : Int × Unit => .c (.raw (.bool (runeB r.1)))) l := rfl
def FO0 : CT := (97, .pu FO0_h97) :: FS1
theorem FO0_ok : CTok Tryz.prog FO0 := ⟨tells1 fun r _ => textIs_ev r.1, FS1_ok⟩
@[simp] theorem FO0_get97 : ctGet FO0 97 = some (.pu FO0_h97) := rfl
@[simp] theorem FO0_skip {n : Nat} (h : (n == 97) = false) : ctGet FO0 n = ctGet FS1 n := by
  simp only [Bool.or_eq_false_iff, beq_eq_false_iff_ne, ne_eq] at h
  simp [FO0, ctGet, h]

theorem textBad_ev (r : Int) : PEv Tryz.prog 88 [.c (.raw (.int .i32 r))] (.c (.raw (.bool (!runeB r)))) := by
  refine tells_of mixed FO0_ok Tryz.func88 sl88 ok88 (by kernel_rfl) (by simp -implicitDefEqProofs (maxSteps := 400000) (maxDischargeDepth := 6)) (by simp -implicitDefEqProofs (maxSteps := 400000) (maxDischargeDepth := 6)) ?_
  simp -implicitDefEqProofs (maxSteps := 400000) (maxDischargeDepth := 6) [s88]

/-- A text that may be. -/
def textB (s : List UInt8) : Bool := !decide (0 ≤ Lib.idxFunc (fun r => !runeB (r : Int)) true ⟨s.toArray⟩)

theorem pev_bool_calls {f : FuncId} {args : List AV} {b : Bool} (hp : PEv Tryz.prog f args (.c (.raw (.bool b)))) {w : World} (hI : Inv Tryz.prog w) {vs : Array Value} (hs : vs.size = args.length)
    (hr : ∀ (k : Nat) x, args[k]? = some x → RelV w (Fr (Ctx.of w hI fun _ _ => True) noHeap noLies) noHeap noLies x (vs.getD k undef)) :
    Calls Tryz.prog f vs w fun e w' => e = .returned (.bool b) ∧ RowKit.Below w.heap.size w w' := by
  refine (hp.2 w hI (fun _ _ => True) vs hs hr (fun k => (0, k)) (fun i j h => by simpa using h)).mono ?_
  rintro e w' ⟨v, rfl, ρ, hH, hR⟩
  have hv := relC_raw (relV_c hR)
  subst hv
  exact ⟨rfl, hH.below⟩

theorem containsBad_ev (s : List UInt8) : PEv Tryz.prog 87 [.c (.str s), .c (.fn 88 [])] (.c (.raw (.bool (decide (0 ≤ Lib.idxFunc (fun r => !runeB (r : Int)) true ⟨s.toArray⟩))))) := by
  refine pev_raw (by kernel_rfl) (by simp -implicitDefEqProofs (maxSteps := 400000) (maxDischargeDepth := 6)) fun w hI F vs hs hr => ?_
  have h0 := relC_str (relV_c (hr 0 _ rfl))
  have h1 : vs.getD 1 undef = .func (.func 88) #[] #[] := by
    have := relV_c (hr 1 _ rfl)
    generalize vs.getD 1 undef = u at this
    cases this with
    | fn _ _ us hl _ =>
      obtain rfl : us = #[] := by
        cases us; simp -implicitDefEqProofs (maxSteps := 400000) (maxDischargeDepth := 6) at hl; subst hl; rfl
      rfl
  rw [vs2 hs h0 h1]
  refine Any.strings_ContainsFunc_grows lays17 88 #[] (fun args w => callFunc_run (by kernel_rfl) args w) (fun r => !runeB (r : Int)) ⟨s.toArray⟩ w ?_
  intro W x _ hb
  exact pev_bool_calls (textBad_ev (x : Int)) (hI.keep hb) rfl fun k y hk => by
    match k, hk with
    | 0, hk =>
      simp -implicitDefEqProofs (maxSteps := 400000) (maxDischargeDepth := 6) at hk
      subst hk
      exact .c _ _ (.raw _)

theorem textMay_ev (s : List UInt8) : PEv Tryz.prog 79 [.c (.str s)] (.c (.raw (.bool (textB s)))) := by
  refine tells_of mixed FO0_ok Tryz.func79 sl79 ok79 (by kernel_rfl) (by simp -implicitDefEqProofs (maxSteps := 400000) (maxDischargeDepth := 6)) (by simp -implicitDefEqProofs (maxSteps := 400000) (maxDischargeDepth := 6)) ?_
  simp -implicitDefEqProofs (maxSteps := 400000) (maxDischargeDepth := 6) [s79]
  refine acall_pure (containsBad_ev s) (by simp -implicitDefEqProofs (maxSteps := 400000) (maxDischargeDepth := 6)) (by simp -implicitDefEqProofs (maxSteps := 400000) (maxDischargeDepth := 6)) (by simp -implicitDefEqProofs (maxSteps := 400000) (maxDischargeDepth := 6)) ?_
  simp -implicitDefEqProofs (maxSteps := 400000) (maxDischargeDepth := 6) [textB]

def runesN (s : List UInt8) : Nat := Lib.runeCount ⟨s.toArray⟩

theorem runeCount_ev (s : List UInt8) (hs : s.length < 9223372036854775807) : PEv Tryz.prog 89 [.c (.str s)] (.c (.raw (.int .i64 (runesN s)))) := by
  refine pev_raw (by kernel_rfl) (by simp -implicitDefEqProofs (maxSteps := 400000) (maxDischargeDepth := 6)) fun w hI F vs hs' hr => ?_
  have h0 := relC_str (relV_c (hr 0 _ rfl))
  rw [vs1 hs' h0]
  refine (Any.utf8_RuneCountInString lays195 ⟨s.toArray⟩ w (by simpa [ByteArray.size] using hs)).mono ?_
  rintro e w' ⟨he, pos, rfl⟩
  exact ⟨he, (RowKit.Below.refl _ w).alloc (Nat.le_refl _) _⟩

def FO1_h79 : List AV → Option (Prop × AV) := t1 (fun _ => True) fun s : List UInt8 => .c (.raw (.bool (textB s)))
@[simp] theorem FO1_ap79 {l : List AV} : FO1_h79 l = (t1 (fun _ => True) fun s : List UInt8 => .c (.raw (.bool (textB s)))) l := rfl
def FO1_h89 : List AV → Option (Prop × AV) := t1 (fun s => s.length < 9223372036854775807) fun s : List UInt8 => .c (.raw (.int .i64 (runesN s)))
@[simp] theorem FO1_ap89 {l : List AV} : FO1_h89 l = (t1 (fun s => s.length < 9223372036854775807) fun s : List UInt8 => .c (.raw (.int .i64 (runesN s)))) l := rfl
def FO1 : CT := (79, .pu FO1_h79) :: (89, .pu FO1_h89) :: FO0
theorem FO1_ok : CTok Tryz.prog FO1 := ⟨tells1 fun s _ => textMay_ev s,
  tells1 fun s h => runeCount_ev s h, FO0_ok⟩
@[simp] theorem FO1_get79 : ctGet FO1 79 = some (.pu FO1_h79) := rfl
@[simp] theorem FO1_get89 : ctGet FO1 89 = some (.pu FO1_h89) := rfl
@[simp] theorem FO1_skip {n : Nat} (h : (n == 79 || n == 89) = false) : ctGet FO1 n = ctGet FO0 n := by
  simp only [Bool.or_eq_false_iff, beq_eq_false_iff_ne, ne_eq] at h
  simp [FO1, ctGet, h]

theorem isSite_ev (n : Int) : PEv Tryz.prog 76 [.c (.raw (.int .i64 n))] (.c (.raw (.bool (decide (1 ≤ n ∧ n ≤ 8))))) := by
  refine tells_of mixed (F := []) trivial Tryz.func76 sl76 ok76 (by kernel_rfl) (by simp -implicitDefEqProofs (maxSteps := 400000) (maxDischargeDepth := 6)) (by simp -implicitDefEqProofs (maxSteps := 400000) (maxDischargeDepth := 6)) ?_
  by_cases h1 : 1 ≤ n
  · by_cases h2 : n ≤ 8
    · simp -implicitDefEqProofs (maxSteps := 400000) (maxDischargeDepth := 6) [s76, h1, h2]
    · simp -implicitDefEqProofs (maxSteps := 400000) (maxDischargeDepth := 6) [s76, h1, h2]
  · simp -implicitDefEqProofs (maxSteps := 400000) (maxDischargeDepth := 6) [s76, h1]

theorem cmpNaN_ev (n : Int) : PEv Tryz.prog 103 [.c (.raw (.int .i64 n))] (.c (.raw (.bool false))) := by
  refine tells_of mixed (F := []) trivial Tryz.func103 sl103 ok103 (by kernel_rfl) (by simp -implicitDefEqProofs (maxSteps := 400000) (maxDischargeDepth := 6)) (by simp -implicitDefEqProofs (maxSteps := 400000) (maxDischargeDepth := 6)) ?_
  simp -implicitDefEqProofs (maxSteps := 400000) (maxDischargeDepth := 6) [s103]

/-- How two numbers stand. -/
def cmpI (a b : Int) : Int := if a < b then -1 else if b < a then 1 else 0
def nameB (site seq : Int) : Bool := decide (1 ≤ site ∧ site ≤ 8) && decide (1 ≤ seq ∧ seq ≤ 268435456)

def FO2_h76 : List AV → Option (Prop × AV) := t1 (fun _ => True) fun n : Int => .c (.raw (.bool (decide (1 ≤ n ∧ n ≤ 8))))
@[simp] theorem FO2_ap76 {l : List AV} : FO2_h76 l = (t1 (fun _ => True) fun n : Int => .c (.raw (.bool (decide (1 ≤ n ∧ n ≤ 8))))) l := rfl
def FO2_h103 : List AV → Option (Prop × AV) := t1 (fun _ => True) fun n : Int => .c (.raw (.bool false))
@[simp] theorem FO2_ap103 {l : List AV} : FO2_h103 l = (t1 (fun _ => True) fun n : Int => .c (.raw (.bool false))) l := rfl
def FO2 : CT := (76, .pu FO2_h76) :: (103, .pu FO2_h103) :: FO1
theorem FO2_ok : CTok Tryz.prog FO2 := ⟨tells1 fun n _ => isSite_ev n,
  tells1 fun n _ => cmpNaN_ev n, FO1_ok⟩
@[simp] theorem FO2_get76 : ctGet FO2 76 = some (.pu FO2_h76) := rfl
@[simp] theorem FO2_get103 : ctGet FO2 103 = some (.pu FO2_h103) := rfl
@[simp] theorem FO2_skip {n : Nat} (h : (n == 76 || n == 103) = false) : ctGet FO2 n = ctGet FO1 n := by
  simp only [Bool.or_eq_false_iff, beq_eq_false_iff_ne, ne_eq] at h
  simp [FO2, ctGet, h]

theorem cmp_ev (a b : Int) : PEv Tryz.prog 102 [.c (.raw (.int .i64 a)), .c (.raw (.int .i64 b))] (.c (.raw (.int .i64 (cmpI a b)))) := by
  refine tells_of mixed FO2_ok Tryz.func102 sl102 ok102 (by kernel_rfl) (by simp -implicitDefEqProofs (maxSteps := 400000) (maxDischargeDepth := 6)) (by simp -implicitDefEqProofs (maxSteps := 400000) (maxDischargeDepth := 6)) ?_
  by_cases h1 : a < b
  · simp -implicitDefEqProofs (maxSteps := 400000) (maxDischargeDepth := 6) [s102, h1, cmpI]
  · by_cases h2 : b < a
    · simp -implicitDefEqProofs (maxSteps := 400000) (maxDischargeDepth := 6) [s102, h1, h2, cmpI]
    · simp -implicitDefEqProofs (maxSteps := 400000) (maxDischargeDepth := 6) [s102, h1, h2, cmpI]

theorem opName_ev (a b : Int) : PEv Tryz.prog 53 [.c (.raw (.int .i64 a)), .c (.raw (.int .i64 b))] (.c (.raw (.bool (nameB a b)))) := by
  refine tells_of mixed FO2_ok Tryz.func53 sl53 ok53 (by kernel_rfl) (by simp -implicitDefEqProofs (maxSteps := 400000) (maxDischargeDepth := 6)) (by simp -implicitDefEqProofs (maxSteps := 400000) (maxDischargeDepth := 6)) ?_
  by_cases h1 : 1 ≤ a ∧ a ≤ 8
  · by_cases h2 : 1 ≤ b
    · by_cases h3 : b ≤ 268435456
      · simp -implicitDefEqProofs (maxSteps := 400000) (maxDischargeDepth := 6) [s53, h1, h2, h3, nameB]
      · simp -implicitDefEqProofs (maxSteps := 400000) (maxDischargeDepth := 6) [s53, h1, h2, h3, nameB]
    · simp -implicitDefEqProofs (maxSteps := 400000) (maxDischargeDepth := 6) [s53, h1, h2, nameB]
  · simp -implicitDefEqProofs (maxSteps := 400000) (maxDischargeDepth := 6) [s53, h1, nameB]

end Go.AE

set_option linter.unusedVariables false
set_option linter.unusedSimpArgs false
set_option maxHeartbeats 4000000
set_option maxRecDepth 100000
namespace Go.AE
open Go Go.Proofs

def FO3_h102 : List AV → Option (Prop × AV) := t2 (fun _ _ => True) fun a b : Int => .c (.raw (.int .i64 (cmpI a b)))
@[simp] theorem FO3_ap102 {l : List AV} : FO3_h102 l = (t2 (fun _ _ => True) fun a b : Int => .c (.raw (.int .i64 (cmpI a b)))) l := rfl
def FO3_h53 : List AV → Option (Prop × AV) := t2 (fun _ _ => True) fun a b : Int => .c (.raw (.bool (nameB a b)))
@[simp] theorem FO3_ap53 {l : List AV} : FO3_h53 l = (t2 (fun _ _ => True) fun a b : Int => .c (.raw (.bool (nameB a b)))) l := rfl
def FO3 : CT := (102, .pu FO3_h102) :: (53, .pu FO3_h53) :: FO2
theorem FO3_ok : CTok Tryz.prog FO3 := ⟨tells2 fun a b _ => cmp_ev a b,
  tells2 fun a b _ => opName_ev a b, FO2_ok⟩
@[simp] theorem FO3_get102 : ctGet FO3 102 = some (.pu FO3_h102) := rfl
@[simp] theorem FO3_get53 : ctGet FO3 53 = some (.pu FO3_h53) := rfl
@[simp] theorem FO3_skip {n : Nat} (h : (n == 102 || n == 53) = false) : ctGet FO3 n = ctGet FO2 n := by
  simp only [Bool.or_eq_false_iff, beq_eq_false_iff_ne, ne_eq] at h
  simp [FO3, ctGet, h]

/-- The first number that is not 0. -/
def orI : List Int → Int
  | [] => 0
  | x :: l => if x = 0 then orI l else x

theorem cmpOr_ev (l : List Int) (hl : l.length < 4611686018427387904) : PEv Tryz.prog 101 [.c (.sl .brw false (rowsE l))] (.c (.raw (.int .i64 (orI l)))) := by
  refine tells_of mixed (F := []) trivial Tryz.func101 sl101 ok101 (by kernel_rfl) (by simp -implicitDefEqProofs (maxSteps := 400000) (maxDischargeDepth := 6)) (by simp -implicitDefEqProofs (maxSteps := 400000) (maxDischargeDepth := 6)) ?_
  simp -implicitDefEqProofs (maxSteps := 400000) (maxDischargeDepth := 6) [s101]
  refine loop_n (fun n st => ∃ i : Nat, i ≤ l.length ∧ n = l.length - i ∧ st.s 6 = .c (.sl .brw false (rowsE l)) ∧ st.s 3 = .c (.raw (.int .i64 0)) ∧ st.s 2 = .c (.raw (.int .i64 0)) ∧ st.s 7 = .c (.raw (.int .i64 l.length)) ∧ st.s 8 = .c (.raw (.int .i64 i)) ∧ orI (l.drop i) = orI l) l.length ⟨0, by simp -implicitDefEqProofs (maxSteps := 400000) (maxDischargeDepth := 6)⟩ ?_
  rintro n st ⟨i, hi, rfl, h6, h3, h2, h7, h8, hp⟩
  by_cases hlt : i < l.length
  · have hlt' : (i : Int) < l.length := by omega
    have hw : IntKind.wrap .i64 ((i : Int) + 1) = ((i + 1 : Nat) : Int) := by rw [wrap64_id] <;> omega
    have hd : l.drop i = l[i] :: l.drop (i + 1) := by rw [List.drop_eq_getElem_cons hlt]
    by_cases h0 : l[i] = 0
    · simp -implicitDefEqProofs (maxSteps := 400000) (maxDischargeDepth := 6) [s101L0, h6, h3, h2, h7, h8, hlt, hlt', hw, h0]
      refine ⟨_, ?_, i + 1, by omega, rfl, by simp -implicitDefEqProofs (maxSteps := 400000) (maxDischargeDepth := 6), ?_⟩
      · omega
      · rw [← hp, hd, orI, if_pos h0]
    · simp -implicitDefEqProofs (maxSteps := 400000) (maxDischargeDepth := 6) [s101L0, h6, h3, h2, h7, h8, hlt, hlt', hw, h0]
      rw [← hp, hd, orI, if_neg h0]
  · have : i = l.length := by omega
    subst this
    simp -implicitDefEqProofs (maxSteps := 400000) (maxDischargeDepth := 6) [s101L0, h6, h3, h2, h7, h8]
    rw [← hp]
    simp -implicitDefEqProofs (maxSteps := 400000) (maxDischargeDepth := 6) [orI]

def elemB (e : ElemV) : Bool := decide (e = ⟨0, 0, 0⟩) || (nameB e.site e.seq && decide (0 ≤ e.i) && decide (e.i < 12))

theorem isElem_ev (e : ElemV) : PEv Tryz.prog 77 [Arg.enc e] (.c (.raw (.bool (elemB e)))) := by
  refine tells_of mixed FO3_ok Tryz.func77 sl77 ok77 (by kernel_rfl) (by simp -implicitDefEqProofs (maxSteps := 400000) (maxDischargeDepth := 6)) (by simp -implicitDefEqProofs (maxSteps := 400000) (maxDischargeDepth := 6)) ?_
  obtain ⟨a, b, c⟩ := e
  by_cases h0 : a = 0 ∧ b = 0 ∧ c = 0
  · obtain ⟨rfl, rfl, rfl⟩ := h0
    simp -implicitDefEqProofs (maxSteps := 400000) (maxDischargeDepth := 6) [s77, elemB]
  · have h0' : (decide (a = 0) && (decide (b = 0) && decide (c = 0))) = false := by simpa using h0
    have h0'' : (decide ((⟨a, b, c⟩ : ElemV) = ⟨0, 0, 0⟩)) = false := by simpa using h0
    cases h1 : nameB a b
    · simp -implicitDefEqProofs (maxSteps := 400000) (maxDischargeDepth := 6) [s77, h0', h1, elemB, h0'']
    · by_cases h2 : 0 ≤ c
      · simp -implicitDefEqProofs (maxSteps := 400000) (maxDischargeDepth := 6) [s77, h0', h1, h2, elemB, h0'']
      · simp -implicitDefEqProofs (maxSteps := 400000) (maxDischargeDepth := 6) [s77, h0', h1, h2, elemB, h0'']

def ownB (o : OpV) (e : ElemV) : Bool := decide (e.site = o.site) && decide (e.seq = o.seq)

theorem own_ev (o : OpV) (e : ElemV) : PEv Tryz.prog 78 [Arg.enc o, Arg.enc e] (.c (.raw (.bool (ownB o e)))) := by
  refine tells_of mixed (F := []) trivial Tryz.func78 sl78 ok78 (by kernel_rfl) (by simp -implicitDefEqProofs (maxSteps := 400000) (maxDischargeDepth := 6)) (by simp -implicitDefEqProofs (maxSteps := 400000) (maxDischargeDepth := 6) [opRow]) ?_
  obtain ⟨o1, o2, o3, o4, o5, o6, o7, o8, o9⟩ := o
  obtain ⟨a, b, c⟩ := e
  by_cases h1 : a = o1
  · simp -implicitDefEqProofs (maxSteps := 400000) (maxDischargeDepth := 6) [s78, h1, ownB, opRow]
  · simp -implicitDefEqProofs (maxSteps := 400000) (maxDischargeDepth := 6) [s78, h1, ownB, opRow]

def compareE (a b : ElemV) : Int := orI [cmpI a.site b.site, cmpI a.seq b.seq, cmpI a.i b.i]

def FO4_h101 : List AV → Option (Prop × AV) := t1 (fun l => l.length < 4611686018427387904) fun l : List Int => .c (.raw (.int .i64 (orI l)))
@[simp] theorem FO4_ap101 {l : List AV} : FO4_h101 l = (t1 (fun l => l.length < 4611686018427387904) fun l : List Int => .c (.raw (.int .i64 (orI l)))) l := rfl
def FO4_h77 : List AV → Option (Prop × AV) := t1 (fun _ => True) fun e : ElemV => .c (.raw (.bool (elemB e)))
@[simp] theorem FO4_ap77 {l : List AV} : FO4_h77 l = (t1 (fun _ => True) fun e : ElemV => .c (.raw (.bool (elemB e)))) l := rfl
def FO4_h78 : List AV → Option (Prop × AV) := t2 (fun _ _ => True) fun (o : OpV) (e : ElemV) => .c (.raw (.bool (ownB o e)))
@[simp] theorem FO4_ap78 {l : List AV} : FO4_h78 l = (t2 (fun _ _ => True) fun (o : OpV) (e : ElemV) => .c (.raw (.bool (ownB o e)))) l := rfl
def FO4 : CT := (101, .pu FO4_h101) :: (77, .pu FO4_h77) :: (78, .pu FO4_h78) :: FO3
theorem FO4_ok : CTok Tryz.prog FO4 := ⟨tells1 fun l h => cmpOr_ev l h,
  tells1 fun e _ => isElem_ev e,
  tells2 fun o e _ => own_ev o e, FO3_ok⟩
@[simp] theorem FO4_get101 : ctGet FO4 101 = some (.pu FO4_h101) := rfl
@[simp] theorem FO4_get77 : ctGet FO4 77 = some (.pu FO4_h77) := rfl
@[simp] theorem FO4_get78 : ctGet FO4 78 = some (.pu FO4_h78) := rfl
@[simp] theorem FO4_skip {n : Nat} (h : (n == 101 || n == 77 || n == 78) = false) : ctGet FO4 n = ctGet FO3 n := by
  simp only [Bool.or_eq_false_iff, beq_eq_false_iff_ne, ne_eq] at h
  simp [FO4, ctGet, h]

theorem rows3 (a b c : Int) : [[AC.raw (.int .i64 a)], [AC.raw (.int .i64 b)], [AC.raw (.int .i64 c)]] = rowsE [a, b, c] := rfl
theorem take3 (a b c : Int) : List.take 3 (rowsE [a, b, c]) = rowsE [a, b, c] := rfl

theorem compare_ev (a b : ElemV) : PEv Tryz.prog 98 [Arg.enc a, Arg.enc b] (.c (.raw (.int .i64 (compareE a b)))) := by
  refine tells_of mixed FO4_ok Tryz.func98 sl98 ok98 (by kernel_rfl) (by simp -implicitDefEqProofs (maxSteps := 400000) (maxDischargeDepth := 6)) (by simp -implicitDefEqProofs (maxSteps := 400000) (maxDischargeDepth := 6)) ?_
  simp -implicitDefEqProofs (maxSteps := 400000) (maxDischargeDepth := 6) [s98, rows3, take3, compareE]

def FO5_h98 : List AV → Option (Prop × AV) := t2 (fun _ _ => True) fun (a b : ElemV) => .c (.raw (.int .i64 (compareE a b)))
@[simp] theorem FO5_ap98 {l : List AV} : FO5_h98 l = (t2 (fun _ _ => True) fun (a b : ElemV) => .c (.raw (.int .i64 (compareE a b)))) l := rfl
def FO5 : CT := (98, .pu FO5_h98) :: FO4
theorem FO5_ok : CTok Tryz.prog FO5 := ⟨tells2 fun a b _ => compare_ev a b, FO4_ok⟩
@[simp] theorem FO5_get98 : ctGet FO5 98 = some (.pu FO5_h98) := rfl
@[simp] theorem FO5_skip {n : Nat} (h : (n == 98) = false) : ctGet FO5 n = ctGet FO4 n := by
  simp only [Bool.or_eq_false_iff, beq_eq_false_iff_ne, ne_eq] at h
  simp [FO5, ctGet, h]

def lessB (a b : ElemV) : Bool := decide (compareE a b < 0)
theorem less_ev (a b : ElemV) : PEv Tryz.prog 90 [Arg.enc a, Arg.enc b] (.c (.raw (.bool (lessB a b)))) := by
  refine tells_of mixed FO5_ok Tryz.func90 sl90 ok90 (by kernel_rfl) (by simp -implicitDefEqProofs (maxSteps := 400000) (maxDischargeDepth := 6)) (by simp -implicitDefEqProofs (maxSteps := 400000) (maxDischargeDepth := 6)) ?_
  simp -implicitDefEqProofs (maxSteps := 400000) (maxDischargeDepth := 6) [s90, lessB]

theorem size_ev (o : OpV) (h : o.text.length < 9223372036854775807) : PEv Tryz.prog 80 [Arg.enc o] (.c (.raw (.int .i64 (runesN o.text)))) := by
  refine tells_of mixed FO5_ok Tryz.func80 sl80 ok80 (by kernel_rfl) (by simp -implicitDefEqProofs (maxSteps := 400000) (maxDischargeDepth := 6)) (by simp -implicitDefEqProofs (maxSteps := 400000) (maxDischargeDepth := 6) [opRow]) ?_
  simp -implicitDefEqProofs (maxSteps := 400000) (maxDischargeDepth := 6) [s80, opRow, h]

/-- Those that go, behind one. -/
def goneG (o : OpV) : Option ElemV → List ElemV → Bool
  | _, [] => true
  | p, e :: l => if decide (e = ⟨0, 0, 0⟩) || !elemB e || ownB o e || (match p with | none => false | some q => !lessB q e) then false else goneG o (some e) l
def goneB (o : OpV) : Bool := goneG o none o.gone && decide (o.gone.length ≤ 200)

def FO6_h90 : List AV → Option (Prop × AV) := t2 (fun _ _ => True) fun (a b : ElemV) => .c (.raw (.bool (lessB a b)))
@[simp] theorem FO6_ap90 {l : List AV} : FO6_h90 l = (t2 (fun _ _ => True) fun (a b : ElemV) => .c (.raw (.bool (lessB a b)))) l := rfl
def FO6_h80 : List AV → Option (Prop × AV) := t1 (fun o => o.text.length < 9223372036854775807) fun o : OpV => .c (.raw (.int .i64 (runesN o.text)))
@[simp] theorem FO6_ap80 {l : List AV} : FO6_h80 l = (t1 (fun o => o.text.length < 9223372036854775807) fun o : OpV => .c (.raw (.int .i64 (runesN o.text)))) l := rfl
def FO6 : CT := (90, .pu FO6_h90) :: (80, .pu FO6_h80) :: FO5
theorem FO6_ok : CTok Tryz.prog FO6 := ⟨tells2 fun a b _ => less_ev a b,
  tells1 fun o h => size_ev o h, FO5_ok⟩
@[simp] theorem FO6_get90 : ctGet FO6 90 = some (.pu FO6_h90) := rfl
@[simp] theorem FO6_get80 : ctGet FO6 80 = some (.pu FO6_h80) := rfl
@[simp] theorem FO6_skip {n : Nat} (h : (n == 90 || n == 80) = false) : ctGet FO6 n = ctGet FO5 n := by
  simp only [Bool.or_eq_false_iff, beq_eq_false_iff_ne, ne_eq] at h
  simp [FO6, ctGet, h]

end Go.AE
