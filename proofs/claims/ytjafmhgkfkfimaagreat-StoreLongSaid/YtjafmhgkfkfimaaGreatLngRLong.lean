/- For every input lectionarylaw15.StoreLong returns true, and its argument reads behind the call as it read before. No condition. -/
import Derived.Test.YtjafmhgkfkfimaaGreatLng1
import Derived.Test.YtjafmhgkfkfimaaGreatLng2
import Derived.Test.YtjafmhgkfkfimaaGreatLng3
import Derived.Test.YtjafmhgkfkfimaaGreatLng4
import Derived.Test.YtjafmhgkfkfimaaGreatLng5
import Derived.Test.YtjafmhgkfkfimaaGreatLng6
import Derived.Test.YtjafmhgkfkfimaaGreatRows
import Derived.WalkKit
import Derived.ProofKit
import Derived.OpenShut
import Derived.ShutString
import Derived.ChangeOld
import Derived.Below
import Derived.SizedLaws
namespace Go.Proofs.YtjafmhgkfkfimaaGreat.storeLong
open Go.ChangeShapes Go.WideShapes Go.ChangeAt Go.RowKit
open Go.ChangeMaps (open_string shut_string)
set_option linter.unusedVariables false
theorem own : ownKnob Tryz.prog.godebug = none := by kernel_rfl
theorem laidOut : laidOutB Tryz.prog = true := by kernel_rfl
set_option maxRecDepth 100000 in
theorem lifted (os : Os) (started : os.Started) (H : Type) (enc : TypeId × Value → H) :
    ReturnsInHanded {} Tryz.checked os 3 .any (Rows.storeLongSpec.pre6 enc Tryz.prog Tryz.f3 Rows.storeLongRow.domain false) (Rows.storeLongSpec.post enc Tryz.prog Tryz.f3 false true false false) := by
  refine returnsInHanded_of_change_sized (C := Tryz.checked) own started (by kernel_rfl) Tryz.func3
    (ChangeSpec.witness6 (enc := enc) (C := Tryz.checked) false ⟨#[], #[.agg #[.slice none 0 0, .slice none 0 0, .slice none 0 0, .slice none 0 0, .slice none 0 0, .int .i64 0, .slice none 0 0, .slice none 0 0, .slice none 0 0]], []⟩ 8 (by kernel_rfl) (by kernel_rfl) (by kernel_rfl) (by kernel_rfl)) ?_
  intro W base args ds gs before hval0 hW hcnd hsz0 _
  have hsz : (DataW.weightsEach Tryz.prog (Tryz.f3.params.toList ++ Rows.storeLongSpec.plain.varTypes Tryz.prog) (ds ++ gs)).all (· ≤ reachBytes) = true := hsz0
  have hval : ∀ (j : Nat) t v, Tryz.f3.params[j]? = some t → args[j]? = some v → Value.okWide Tryz.prog W .any base t v := hval0
  have hW' := hW
  obtain ⟨p, q, hA0, hV, rfl, hfz, hnd⟩ := hW
  have hA : DataW.TrodAll enc Tryz.prog W 0 (fun _ => true) true Tryz.f3.params.toList args.toList ds p := hA0
  rw [Tryz.params3] at hA hval hsz
  obtain ⟨v0, vs0, d0, ds0, p0, q0, hargs, rfl, rfl, h0, r0⟩ := trodAll_cons hA
  obtain ⟨rfl, rfl, rfl⟩ := trodAll_nil r0
  obtain rfl : args = #[v0] := by cases args; simp_all
  obtain ⟨rfl, rfl⟩ := trodVars_none hV
  obtain ⟨cs, rfl, hcs⟩ := okWide_struct Tryz.underlying36 (hval 0 36 v0 rfl rfl)
  have k0 := h0
  have lt0 : ∀ x ∈ p0, x.block < W.heap.size := by obtain ⟨m, hm⟩ := k0; exact DataW.trod_lt m _ _ _ hm
  obtain ⟨fuel, hf⟩ := h0
  have hI : Go.AE.Inv Tryz.prog W := fun a b h => by
    rw [show Tryz.prog.globalNamed "unicode/utf8.first" = none from by kernel_rfl] at h
    cases h
  obtain ⟨u0, u1, u2, u3, u4, u5, u6, u7, l, o0, o1, o2, o3, o4, o5, o6, o7, hrel⟩ := Go.AE.opens_Ask enc W (Go.AE.Fr (Go.AE.Ctx.of W hI fun _ _ => True) Go.AE.noHeap Go.AE.noLies) fuel cs.toList (d0, p0) (fun b _ => Go.AE.fr_any (by simp)) (fun b _ => Go.AE.fr_any (by simp)) hf
  clear hA0 hval0 hsz0 hsz
  refine (Go.AE.calls_true (Go.AE.storeLong_ev u0 u1 u2 u3 u4 u5 u6 u7 o0 o1 o2 o3 o4 o5 o6 o7 l) hI (vs := #[.agg cs]) rfl (fun k x hk => ?_)).mono fun e W' ⟨he, bel⟩ => ?_
  · match k, hk with
    | 0, hk =>
      simp at hk
      subst hk
      exact hrel
  subst he
  exact ⟨_, rfl, _, _, _, [], _, [], hW', trodAll_mk1 (shut_bool Tryz.underlying4 _), (trodAll_cons_mk (Below.trod laidOut (by kernel_rfl) (of_decide_eq_true (by kernel_rfl)) k0 bel lt0) trodAll_mk0), rfl, bel.frame _, fun h => by cases h⟩
theorem over : Rows.storeLongRow.holds Tryz.pinned (OpenSpec.ofChange Rows.storeLongSpec) :=
  OpenClaim.holds_of_wide 3 Tryz.f3 rfl rfl rfl rfl rfl rfl rfl ⟨rfl, rfl, rfl, rfl, rfl⟩ rfl rfl rfl rfl rfl (by kernel_rfl) Tryz.func3 (by kernel_rfl)
    (of_decide_eq_true (by kernel_rfl)) (by unfold Func.isWrapper; first | (rw [if_pos (by decide +kernel)]; kernel_rfl) | (rw [if_neg (by decide +kernel)]; exact ⟨rfl, rfl⟩))
    (fun os started H enc _ => lifted os started H enc)
theorem proved : Rows.StoreLongSaid := over
end Go.Proofs.YtjafmhgkfkfimaaGreat.storeLong
namespace Go.Proofs.YtjafmhgkfkfimaaGreat
/-- The row, under a short name, for the claim. -/
theorem storeLong_holds : Rows.StoreLongSaid := storeLong.proved
end Go.Proofs.YtjafmhgkfkfimaaGreat
