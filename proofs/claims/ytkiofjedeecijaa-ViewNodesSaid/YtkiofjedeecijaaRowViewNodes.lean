/-
ViewNodes: whatever the input, the law returns true; each argument reads afterwards as it read before.
-/
import Derived.Test.YtkiofjedeecijaaVw14
import Derived.Test.YtkiofjedeecijaaRows
import Derived.ProofKit
import Derived.OpenShut
import Derived.ShutString
import Derived.ChangeOld
import Derived.ChangeSame
import Derived.ChangeVars
import Derived.JoinedOf
import Derived.RowKit
import Derived.RowKitTokens
import Derived.LaidLaws
import Derived.LaidHandle
import Derived.Lib.LaidTab
import Derived.Stop.Joined
import Derived.SevenTiedAt
namespace Go.SX
open Go
theorem seeds_open {w : World} {v : Value} (h : Sh.ok w (.slice 4 (.cat (.int .i64) (.cat (.int .i64) (.cat (.int .i64) (.cat (.slice 1 (.int .u8)) .unit))))) [v]) : ∃ A c ds, v = .slice A (List.length ds) c ∧ (∀ d ∈ ds, d.bs.length ≤ d.c) ∧ (sliceC A c 4 ds.length (recs SH.cells ds)).holds w ∧ (allC (ds.map SH.rd)).holds w := by
  obtain ⟨A, n, c, xs, hv, h1, rfl, h2⟩ := h
  obtain ⟨ds, h3, h4, h5⟩ := ok_list (f := SH.cells) (Q := fun d => d.bs.length ≤ d.c ∧ (SH.rd d).holds w) (fun x hx => by
    obtain ⟨_, _, rfl, ⟨on, rfl, _⟩, _, _, rfl, ⟨node, rfl, _⟩, _, _, rfl, ⟨kind, rfl, _⟩, _, _, rfl, hb, rfl⟩ := hx
    obtain ⟨A, c, bs, rfl, hh⟩ := ok_bytes hb
    exact ⟨⟨on, node, kind, A, c, bs⟩, rfl, (bR_len w hh).2.1, hh⟩) h2
  rw [h3, ← h4] at h1
  refine ⟨A, c, ds, by rw [h4]; exact (List.cons.inj hv).1, fun d hd => (h5 d hd).1, h1, fun c hc => ?_⟩
  obtain ⟨d, hd, rfl⟩ := List.mem_map.1 hc
  exact (h5 d hd).2
end Go.SX
namespace Go.Proofs.Ytkiofjedeecijaa
open Go Go.ChangeShapes Go.WideShapes Go.ChangeAt Go.RowKit
open Go.ChangeMaps (open_string shut_string)
set_option linter.unusedVariables false
theorem own : ownKnob Try.prog.godebug = none := by kernel_rfl
theorem laidOut : laidOutB Try.prog = true := by kernel_rfl
set_option maxRecDepth 100000 in
set_option maxHeartbeats 4000000 in
theorem viewNodes_lifted (os : Os) (started : os.Started) (H : Type) (enc : TypeId × Value → H) :
    ReturnsInHanded {} Try.checked os 3 .any (Rows.viewNodesSpec.pre6 enc Try.prog Try.f3 Rows.viewNodesRow.domain false) (Rows.viewNodesSpec.post enc Try.prog Try.f3 false true false false) := by
      refine returnsInHanded_of_change (C := Try.checked) own started (by kernel_rfl) Try.func3
        (ChangeSpec.witness6 (enc := enc) (C := Try.checked) false ⟨#[], #[.slice none 0 0], []⟩ 8 (by kernel_rfl) (by kernel_rfl) (by kernel_rfl) (by kernel_rfl)) ?_
      intro W base args ds gs before hval0 hW hcnd _
      have hval : ∀ (j : Nat) t v, Try.f3.params[j]? = some t → args[j]? = some v → Value.okWide Try.prog W .any base t v := hval0
      have hW' := hW
      obtain ⟨p, q, hA0, hV, rfl, hfz, hnd⟩ := hW
      have hA : DataW.TrodAll enc Try.prog W 0 (fun _ => true) true Try.f3.params.toList args.toList ds p := hA0
      rw [Try.params3] at hA hval
      obtain ⟨v0, vs0, d0, ds0, p0, q0, hargs, rfl, rfl, h0, r0⟩ := trodAll_cons hA
      obtain ⟨rfl, rfl, rfl⟩ := trodAll_nil r0
      obtain rfl : args = #[v0] := by cases args; simp_all
      obtain ⟨rfl, rfl⟩ := trodVars_none hV
      have k0 := h0
      have lt0 : ∀ x ∈ p0, x.block < W.heap.size := by obtain ⟨m, hm⟩ := k0; exact DataW.trod_lt m _ _ _ hm
      have hs0 := SX.shape_of (sh := (.slice 4 (.cat (.int .i64) (.cat (.int .i64) (.cat (.int .i64) (.cat (.slice 1 (.int .u8)) .unit)))))) h0 (by kernel_rfl)
      have hs0' := SX.slice_one Try.underlying22 (hval 0 22 v0 rfl rfl) hs0
      obtain ⟨A0,  c0,  ss0, rfl, hsc0, hch0, hch1⟩ := SX.seeds_open hs0'
      clear hA0 hval0
      have hspec := (SX.Spec.below (SX.ViewNodes_law A0 c0 ss0 hsc0) W (fun c hc => by
          simp only [List.mem_cons, List.not_mem_nil, or_false] at hc
          rcases hc with rfl | rfl
          · exact hch0
          · exact hch1))
      refine hspec.mono fun e W' ⟨he, bel⟩ => ?_
      subst he
      exact ⟨_, rfl, _, _, _, [], _, [], hW', trodAll_mk1 (shut_bool Try.underlying4 _), (trodAll_cons_mk (Below.trod laidOut (by kernel_rfl) (of_decide_eq_true (by kernel_rfl)) k0 bel lt0) trodAll_mk0), rfl, bel.frame _, fun h => by cases h⟩
theorem viewNodes_row : Rows.viewNodesRow.holds Try.pinned (OpenSpec.ofChange Rows.viewNodesSpec) :=
  OpenClaim.holds_of_wide 3 Try.f3 rfl rfl rfl rfl rfl rfl rfl ⟨rfl, rfl, rfl, rfl, rfl⟩ rfl rfl rfl rfl rfl (by kernel_rfl) Try.func3 (by kernel_rfl)
    (of_decide_eq_true (by kernel_rfl)) (by unfold Func.isWrapper; first | (rw [if_pos (by decide +kernel)]; kernel_rfl) | (rw [if_neg (by decide +kernel)]; exact ⟨rfl, rfl⟩))
    (fun os started H enc _ => viewNodes_lifted os started H enc)
#print axioms viewNodes_row
end Go.Proofs.Ytkiofjedeecijaa
