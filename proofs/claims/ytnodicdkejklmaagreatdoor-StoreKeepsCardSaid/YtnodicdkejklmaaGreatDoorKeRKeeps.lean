/- For every input lectionarylaw15.StoreKeeps returns true, and its argument reads behind the call as it read before; the tables of unicode/utf8 are tied to the program's text by the card. -/
import Derived.Test.YtnodicdkejklmaaGreatDoorKe1
import Derived.Test.YtnodicdkejklmaaGreatDoorKe2
import Derived.Test.YtnodicdkejklmaaGreatDoorKe3
import Derived.Test.YtnodicdkejklmaaGreatDoorKe4
import Derived.Test.YtnodicdkejklmaaGreatDoorKe5
import Derived.Test.YtnodicdkejklmaaGreatDoorKe6
import Derived.Test.YtnodicdkejklmaaGreatDoorKe7
import Derived.Test.YtnodicdkejklmaaGreatDoorRows
import Derived.Test.YtnodicdkejklmaaGreatDoorCards
import Derived.Test.YtnodicdkejklmaaGreatDoorTie
import Derived.WalkKit
import Derived.ProofKit
import Derived.OpenShut
import Derived.ShutString
import Derived.ChangeOld
import Derived.Below
import Derived.SizedLaws
import Derived.LaidMore
import Derived.Stop.Joined
import Derived.SevenTiedAt
import Derived.Lib.LaidU8T
import Derived.Lib.LaidIn
namespace Go.Proofs.YtnodicdkejklmaaGreatDoor.storeKeeps
open Go.ChangeShapes Go.WideShapes Go.ChangeAt Go.RowKit
open Go.ChangeMaps (open_string shut_string)
set_option linter.unusedVariables false
theorem own : ownKnob Tryz.prog.godebug = none := by kernel_rfl
theorem laidOut : laidOutB Tryz.prog = true := by kernel_rfl
def laid2 : List (String × DataW Unit) := [("unicode/utf8.acceptRanges", Rows.laid_unicode_utf8_acceptRanges), ("unicode/utf8.first", Rows.laid_unicode_utf8_first)]
theorem data_first : (Rows.laid_unicode_utf8_first : DataW Unit) = Lib.firstData := by kernel_rfl
theorem data_accept : (Rows.laid_unicode_utf8_acceptRanges : DataW Unit) = Lib.acceptData := by kernel_rfl
theorem types8 : U8Types Tryz.prog Go.AE.lays197_ren := ⟨by kernel_rfl, by kernel_rfl, by kernel_rfl, by kernel_rfl⟩
/-- The settled world, the two tables as their initialisers lay them. -/
noncomputable def laidWorld (os : Os) : World :=
  let w0 := World.holding Tryz.prog os ⟨#[], #[], []⟩
  let put (h : Array Obj) (g : Nat) (cs : Array Value) : Array Obj := h.modify g fun
    | .cells _ t frozen => .cells cs t frozen
    | o => o
  let h1 := put w0.heap 0 (Lib.firstTab.map fun z => Value.int .u8 z).toArray
  let h2 := put h1 1 ((List.range 16).flatMap fun i => [Value.int .u8 (Lib.accLo i), Value.int .u8 (Lib.accHi i)]).toArray
  { w0 with heap := h2 }
theorem door_met (os : Os) (args : Array Value) : laidMetH Tryz.prog laid2 ((laidWorld os).forCall (fun _ _ => 0) ⟨#[], args, []⟩).memory := by
  rw [MakeChecks.laidMetH_plain _ _ _ (by kernel_rfl)]
  have h : laid2 = [("unicode/utf8.acceptRanges", Lib.acceptData), ("unicode/utf8.first", Lib.firstData)] := by unfold laid2; rw [data_accept, data_first]
  rw [h]
  exact (LaidIn.of_run (l := [("unicode/utf8.acceptRanges", Lib.acceptData), ("unicode/utf8.first", Lib.firstData)]) [1, 0] 8 (by kernel_rfl) (by kernel_rfl) (by kernel_rfl) (by kernel_rfl)).met
theorem inv_of {W : World} (h : laidMetH Tryz.prog laid2 W) : Go.AE.Inv Tryz.prog W := by
  rw [MakeChecks.laidMetH_plain _ _ _ (by kernel_rfl)] at h
  have hA := Lib.laidMet.reads h (n := "unicode/utf8.acceptRanges") (d := Rows.laid_unicode_utf8_acceptRanges) (.head _)
  have hF := Lib.laidMet.reads h (n := "unicode/utf8.first") (d := Rows.laid_unicode_utf8_first) (.tail _ (.head _))
  rw [data_accept] at hA
  rw [data_first] at hF
  have ht := utf8Tabs_of_readsT types8 ⟨by kernel_rfl, by kernel_rfl, by kernel_rfl, by kernel_rfl, by kernel_rfl, by kernel_rfl, by kernel_rfl⟩ hF hA
  intro a b ha hb
  obtain rfl : Go.AE.lays197_ren.g 3 = a := Option.some.inj ((show Tryz.prog.globalNamed "unicode/utf8.first" = some (Go.AE.lays197_ren.g 3) from by kernel_rfl).symm.trans ha)
  obtain rfl : Go.AE.lays197_ren.g 4 = b := Option.some.inj ((show Tryz.prog.globalNamed "unicode/utf8.acceptRanges" = some (Go.AE.lays197_ren.g 4) from by kernel_rfl).symm.trans hb)
  have e : ∀ c, (Lib.firstT c : Int) = Go.AE.c2a c := fun c => by
    unfold Lib.firstT Go.AE.c2a
    repeat' split
    all_goals first | rfl | omega
  have e2 : ∀ c, (Lib.accLo c : Int) = Go.AE.b4B c := fun c => by
    unfold Lib.accLo Go.AE.b4B
    repeat' split
    all_goals rfl
  have e3 : ∀ c, (Lib.accHi c : Int) = Go.AE.b4C c := fun c => by
    unfold Lib.accHi Go.AE.b4C
    repeat' split
    all_goals rfl
  obtain ⟨h1, h2⟩ := ht
  exact ⟨fun c hc => by rw [← e]; exact h1 c hc, fun i hi => by rw [← e2, ← e3]; exact h2 i hi⟩
set_option maxRecDepth 100000 in
theorem lifted (os : Os) (started : os.Started) (H : Type) (enc : TypeId × Value → H) :
    ReturnsInHanded {} Tryz.checked os 3 .any (fun w args => (Rows.storeKeepsSpec.pre enc Tryz.prog Tryz.f3 [] false w args ∧ laidMetH Tryz.prog laid2 w) ∧ sizedMet enc Tryz.prog Tryz.f3 (OpenSpec.ofChange Rows.storeKeepsSpec) false w args)
      (Rows.storeKeepsSpec.post enc Tryz.prog Tryz.f3 false true false false) := by
  refine returnsInHanded_of_change_and (C := Tryz.checked) (X := fun w _ => laidMetH Tryz.prog laid2 w) (fun _ _ _ hh h => h.of_heap hh) own started (by kernel_rfl) Tryz.func3
    (ChangeSpec.witness_shaped (enc := enc) (C := Tryz.checked) (os := os) (X := fun w _ => laidMetH Tryz.prog laid2 w) false (laidWorld os) #[.agg #[.slice none 0 0, .slice none 0 0, .slice none 0 0, .slice none 0 0, .slice none 0 0, .int .i64 0, .slice none 0 0, .slice none 0 0, .slice none 0 0]] 8 rfl (World.shaped_of_RefB (by kernel_rfl) (by kernel_rfl)) (by kernel_rfl) (by kernel_rfl) (by kernel_rfl) (door_met os _)) ?_
  intro W base args ds gs before hval0 hW hcnd hsz0 hL _
  have hsz : (DataW.weightsEach Tryz.prog (Tryz.f3.params.toList ++ Rows.storeKeepsSpec.plain.varTypes Tryz.prog) (ds ++ gs)).all (· ≤ reachBytes) = true := hsz0
  have hval : ∀ (j : Nat) t v, Tryz.f3.params[j]? = some t → args[j]? = some v → Value.okWide Tryz.prog W .any base t v := hval0
  have hW' := hW
  obtain ⟨p, q, hA0, hV, rfl, hfz, hnd⟩ := hW
  have hA : DataW.TrodAll enc Tryz.prog W 0 (fun _ => true) true Tryz.f3.params.toList args.toList ds p := hA0
  rw [Tryz.params3] at hA hval hsz
  obtain ⟨v0, vs0, d0, ds0, p0, q0, hargs, rfl, rfl, h0, r0⟩ := trodAll_cons hA
  obtain ⟨rfl, rfl, rfl⟩ := trodAll_nil r0
  obtain rfl : args = #[v0] := by cases args; simp_all
  obtain ⟨rfl, rfl⟩ := trodVars_none hV
  obtain ⟨cs, rfl, hcs⟩ := okWide_struct Tryz.underlying36 (hval 0 36 v0 rfl rfl)
  have k0 := h0
  have lt0 : ∀ x ∈ p0, x.block < W.heap.size := by obtain ⟨m, hm⟩ := k0; exact DataW.trod_lt m _ _ _ hm
  obtain ⟨fuel, hf⟩ := h0
  have hI : Go.AE.Inv Tryz.prog W := inv_of hL
  have hw0 : (d0.weights Tryz.prog 36).all (· ≤ reachBytes) = true := by
    simp only [List.cons_append, List.nil_append, DataW.weightsEach, List.all_append, Bool.and_eq_true] at hsz
    exact hsz.1
  obtain ⟨sp, hsp, hrel⟩ := Go.AE.b4t enc W (Go.AE.Fr (Go.AE.Ctx.of W hI fun _ _ => True) Go.AE.a0j Go.AE.a0t) fuel cs.toList (d0, p0) (fun b _ => Go.AE.b81 (by simp)) (fun b _ => Go.AE.b81 (by simp)) hf hw0
  clear hA0 hval0 hsz0 hsz
  refine (Go.AE.b3M (Go.AE.a9f sp hsp) hI (vs := #[.agg cs]) rfl (fun k x hk => ?_)).mono fun e W' ⟨he, bel⟩ => ?_
  · match k, hk with
    | 0, hk =>
      simp at hk
      subst hk
      exact hrel
  subst he
  exact ⟨_, rfl, _, _, _, [], _, [], hW', trodAll_mk1 (shut_bool Tryz.underlying4 _), (trodAll_cons_mk (Below.trod laidOut (by kernel_rfl) (of_decide_eq_true (by kernel_rfl)) k0 bel lt0) trodAll_mk0), rfl, bel.frame _, fun h => by cases h⟩
theorem over : Rows.storeKeepsRow.holds Tryz.pinned (OpenSpec.ofChange Rows.storeKeepsSpec) :=
  OpenClaim.holds_of_wide 3 Tryz.f3 rfl rfl rfl rfl rfl rfl rfl ⟨rfl, rfl, rfl, rfl, rfl⟩ rfl rfl rfl rfl rfl (by kernel_rfl) Tryz.func3 (by kernel_rfl)
    (of_decide_eq_true (by kernel_rfl)) (by unfold Func.isWrapper; first | (rw [if_pos (by decide +kernel)]; kernel_rfl) | (rw [if_neg (by decide +kernel)]; exact ⟨rfl, rfl⟩))
    (fun os started H enc _ => lifted os started H enc)
theorem card : Rows.StoreKeepsCardSaid :=
  Claim7.holds_tied_plain_at .later [] [.data, .pinned] true (true, "4dedca2a998fe41a4149de0b648e37bbc96d35e705f0dc31f030462f436f7e03") false
    over (fun _ h => by cases h) (by kernel_rfl) (fun _ h => by cases h) storeKeeps_row_tie rfl ⟨rfl, rfl⟩ (by kernel_rfl) rfl
    (fun f fn hf hfn => by
      obtain rfl : f = 3 := Option.some.inj ((show Tryz.prog.funcNamed "lectionary/lectionarylaw15.StoreKeeps" = some 3 by kernel_rfl).symm.trans hf) |>.symm
      obtain rfl : fn = Tryz.f3 := (Option.some.inj (Tryz.func3.symm.trans hfn)).symm
      exact ⟨by kernel_rfl, fun j t ht => by
        rw [Tryz.params3] at ht
        have hm : t ∈ [36] := by simpa using Array.mem_of_getElem? ht
        have hall : ([36].all fun u => !Tryz.prog.wantsStandIn u) = true := by kernel_rfl
        exact (show Tryz.prog.wantsStandIn t = false by simpa using List.all_eq_true.1 hall t hm)⟩)
    (by kernel_rfl)
end Go.Proofs.YtnodicdkejklmaaGreatDoor.storeKeeps
namespace Go.Proofs.YtnodicdkejklmaaGreatDoor
/-- The row's card, under a short name, for the claim. -/
theorem storeKeeps_holds : Rows.StoreKeepsCardSaid := storeKeeps.card
end Go.Proofs.YtnodicdkejklmaaGreatDoor
