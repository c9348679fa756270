/-
LeadAgrees: whatever the input, the law returns true; each argument reads afterwards as it read before; the two tables of math/bits hold what the program lays in them.
-/
import Derived.Test.YtmcfcnlglohliaaDoorLd25
import Derived.Test.YtmcfcnlglohliaaDoorRows
import Derived.Test.YtmcfcnlglohliaaDoorCards
import Derived.Test.YtmcfcnlglohliaaDoorTie
import Derived.ProofKit
import Derived.OpenShut
import Derived.ShutString
import Derived.ChangeOld
import Derived.ChangeSame
import Derived.ChangeVars
import Derived.JoinedOf
import Derived.RowKit
import Derived.RowKitTokens
import Derived.LaidLaws
import Derived.LaidHandle
import Derived.Lib.LaidTab
import Derived.Stop.Joined
import Derived.SevenTiedAt
import Derived.LaidSub
namespace Go.SX
open Go
def tz64 : List UInt8 := [0, 1, 56, 2, 57, 49, 28, 3, 61, 58, 42, 50, 38, 29, 17, 4, 62, 47, 59, 36, 45, 43, 51, 22, 53, 39, 33, 30, 24, 18, 12, 5, 63, 55, 48, 27, 60, 41, 37, 16, 46, 35, 44, 21, 52, 32, 23, 11, 54, 26, 40, 15, 34, 20, 31, 10, 25, 14, 19, 9, 13, 8, 7, 6]
theorem bR_tab {W : World} {g : Nat} {zs : List Int} {bs : List UInt8} (hl : zs.length ≤ 1000000) (hz : zs = bs.map (fun b => (b.toNat : Int))) (h : ∀ i, i < zs.length → W.cell? ⟨g, i, none⟩ = some (.int .u8 (zs.getD i 0))) : (bR (some ⟨g, 0, none⟩) zs.length zs.length bs).holds W := by
  have hlen : zs.length = bs.length := by rw [hz, List.length_map]
  refine sliceC_mk (by simp [u8s, hlen]) (Nat.le_refl _) (by simp only [maxLen]; omega) (fun _ => ⟨_, rfl⟩) fun a ha j u hu => ?_
  obtain rfl := Option.some.inj ha
  have hj : j < bs.length := by have := (List.getElem?_eq_some_iff.1 hu).1; simpa [u8s] using this
  have hu2 : u = .int .u8 (bs[j].toNat : Int) := by
    simp only [u8s, List.getElem?_map, List.getElem?_eq_getElem hj, Option.map_some, Option.some.injEq] at hu
    exact hu.symm
  rw [add_lit, Nat.zero_add, h j (by omega), hu2]
  simp [hz, hj]
theorem p3s_open {w : World} {v : Value} (h : Sh.ok w (.slice 3 (.rep 3 (.int .i64))) [v]) : ∃ A c ps, v = .slice A (List.length ps) c ∧ (sliceC A c 3 ps.length (recs P3.cells ps)).holds w ∧ ps.length ≤ 9223372036854775807 := by
  obtain ⟨A, n, c, xs, hv, h1, rfl, h2⟩ := h
  obtain ⟨ds, h3, h4, h5⟩ := ok_list (f := P3.cells) (Q := fun _ => True) (fun x hx => by
    obtain ⟨ys, rfl, hl, _⟩ := ok_arrI hx
    match ys, hl with
    | [x0, x1, x2], _ => exact ⟨⟨x0, x1, x2⟩, rfl, trivial⟩) h2
  rw [h3, ← h4] at h1
  exact ⟨A, c, ds, by rw [h4]; exact (List.cons.inj hv).1, h1, by have := sliceC_len w h1; omega⟩
end Go.SX
namespace Go.Proofs.YtmcfcnlglohliaaDoor
open Go Go.ChangeShapes Go.WideShapes Go.ChangeAt Go.RowKit
open Go.ChangeMaps (open_string shut_string)
set_option linter.unusedVariables false
theorem own : ownKnob Tryd.prog.godebug = none := by kernel_rfl
theorem laidOut : laidOutB Tryd.prog = true := by kernel_rfl
noncomputable def laidHeap (os : Os) : Array Obj :=
  ((World.holding Tryd.prog os ⟨#[], #[], []⟩).heap.modify 0 (fun
      | .cells _ t frozen => .cells (([0, 1, 28, 2, 29, 14, 24, 3, 30, 22, 20, 15, 25, 17, 4, 8, 31, 27, 13, 23, 21, 19, 16, 7, 26, 12, 18, 6, 11, 5, 10, 9] : List Int).map fun z => Value.int .u8 z).toArray t frozen
      | o => o)).modify 1 (fun
      | .cells _ t frozen => .cells (([0, 1, 56, 2, 57, 49, 28, 3, 61, 58, 42, 50, 38, 29, 17, 4, 62, 47, 59, 36, 45, 43, 51, 22, 53, 39, 33, 30, 24, 18, 12, 5, 63, 55, 48, 27, 60, 41, 37, 16, 46, 35, 44, 21, 52, 32, 23, 11, 54, 26, 40, 15, 34, 20, 31, 10, 25, 14, 19, 9, 13, 8, 7, 6] : List Int).map fun z => Value.int .u8 z).toArray t frozen
      | o => o)
noncomputable def laidWorld (os : Os) : World := { World.holding Tryd.prog os ⟨#[], #[], []⟩ with heap := laidHeap os }
theorem laidWorld_met (os : Os) (args : Array Value) : laidMetH Tryd.prog Rows.leadAgreesRow.laid ((laidWorld os).forCall (fun _ _ => 0) ⟨#[], args, []⟩).memory :=
  laidMetH_of_parts (laidMet_of_run' 8 (by kernel_rfl) (by kernel_rfl)) (by kernel_rfl)
set_option maxRecDepth 100000 in
set_option maxHeartbeats 4000000 in
theorem leadAgrees_lifted (os : Os) (started : os.Started) (H : Type) (enc : TypeId × Value → H) :
    ReturnsInHanded {} Tryd.checked os 7 .any (fun w args => (Rows.leadAgreesSpec.pre enc Tryd.prog Tryd.f7 [] false w args ∧ laidMetH Tryd.prog Rows.leadAgreesRow.laid w) ∧ sizedMet enc Tryd.prog Tryd.f7 (OpenSpec.ofChange Rows.leadAgreesSpec) false w args) (Rows.leadAgreesSpec.post enc Tryd.prog Tryd.f7 false true false false) := by
      refine returnsInHanded_of_change_and (C := Tryd.checked) (X := fun w _ => laidMetH Tryd.prog Rows.leadAgreesRow.laid w) (fun _ _ _ hh h => h.of_heap hh) own started (by kernel_rfl) Tryd.func7
        (ChangeSpec.witness_at (enc := enc) (C := Tryd.checked) (os := os) (X := fun w _ => laidMetH Tryd.prog Rows.leadAgreesRow.laid w) false (laidWorld os) #[.slice none 0 0] 8 rfl (by kernel_rfl) (by kernel_rfl) (by kernel_rfl) (by kernel_rfl) (by kernel_rfl) (laidWorld_met os _)) ?_
      intro W base args ds gs before hval0 hW _ _ hL _
      have hval : ∀ (j : Nat) t v, Tryd.f7.params[j]? = some t → args[j]? = some v → Value.okWide Tryd.prog W .any base t v := hval0
      have hW' := hW
      obtain ⟨p, q, hA0, hV, rfl, hfz, hnd⟩ := hW
      have hA : DataW.TrodAll enc Tryd.prog W 0 (fun _ => true) true Tryd.f7.params.toList args.toList ds p := hA0
      rw [Tryd.params7] at hA hval
      obtain ⟨v0, vs0, d0, ds0, p0, q0, hargs, rfl, rfl, h0, r0⟩ := trodAll_cons hA
      obtain ⟨rfl, rfl, rfl⟩ := trodAll_nil r0
      obtain rfl : args = #[v0] := by cases args; simp_all
      obtain ⟨rfl, rfl⟩ := trodVars_none hV
      have k0 := h0
      have lt0 : ∀ x ∈ p0, x.block < W.heap.size := by obtain ⟨m, hm⟩ := k0; exact DataW.trod_lt m _ _ _ hm
      have hs0 := SX.shape_of (sh := (.slice 3 (.rep 3 (.int .i64)))) h0 (by kernel_rfl)
      have hs0' := SX.slice_one Tryd.underlying22 (hval 0 22 v0 rfl rfl) hs0
      obtain ⟨A0,  c0,  ps0, rfl, hch0, hl0⟩ := SX.p3s_open hs0'
      have hLf0 : laidMetH Tryd.prog [("math/bits.deBruijn64tab", Lib.tabData .u8 [0, 1, 56, 2, 57, 49, 28, 3, 61, 58, 42, 50, 38, 29, 17, 4, 62, 47, 59, 36, 45, 43, 51, 22, 53, 39, 33, 30, 24, 18, 12, 5, 63, 55, 48, 27, 60, 41, 37, 16, 46, 35, 44, 21, 52, 32, 23, 11, 54, 26, 40, 15, 34, 20, 31, 10, 25, 14, 19, 9, 13, 8, 7, 6])] W := hL.filter (fun x => x.1 == "math/bits.deBruijn64tab")
      have htab0 : Lib.TabIs Tryd.prog W "math/bits.deBruijn64tab" .u8 [0, 1, 56, 2, 57, 49, 28, 3, 61, 58, 42, 50, 38, 29, 17, 4, 62, 47, 59, 36, 45, 43, 51, 22, 53, 39, 33, 30, 24, 18, 12, 5, 63, 55, 48, 27, 60, 41, 37, 16, 46, 35, 44, 21, 52, 32, 23, 11, 54, 26, 40, 15, 34, 20, 31, 10, 25, 14, 19, 9, 13, 8, 7, 6] := Lib.tabIs_of_head (g := 1) (by kernel_rfl) (by kernel_rfl) Tryd.underlying100 Tryd.underlying5 (by kernel_rfl) (by kernel_rfl) hLf0
      have htc0 := SX.bR_tab (W := W) (g := 1) (zs := [0, 1, 56, 2, 57, 49, 28, 3, 61, 58, 42, 50, 38, 29, 17, 4, 62, 47, 59, 36, 45, 43, 51, 22, 53, 39, 33, 30, 24, 18, 12, 5, 63, 55, 48, 27, 60, 41, 37, 16, 46, 35, 44, 21, 52, 32, 23, 11, 54, 26, 40, 15, 34, 20, 31, 10, 25, 14, 19, 9, 13, 8, 7, 6]) (bs := SX.tz64) (by decide) (by decide) (fun i hi => htab0.cell (g := 1) (by kernel_rfl) i hi)
      clear hA0 hval0
      have hspec := (SX.Spec.below (SX.LeadAgrees_law A0 c0 ps0 hl0 SX.tz64 (by decide)) W (fun c hc => by
          simp only [List.mem_cons, List.not_mem_nil, or_false] at hc
          rcases hc with rfl | rfl
          · exact hch0
          · exact htc0))
      refine hspec.mono fun e W' ⟨he, bel⟩ => ?_
      subst he
      exact ⟨_, rfl, _, _, _, [], _, [], hW', trodAll_mk1 (shut_bool Tryd.underlying4 _), (trodAll_cons_mk (Below.trod laidOut (by kernel_rfl) (of_decide_eq_true (by kernel_rfl)) k0 bel lt0) trodAll_mk0), rfl, bel.frame _, fun h => by cases h⟩
theorem leadAgrees_row : Rows.leadAgreesRow.holds Tryd.pinned (OpenSpec.ofChange Rows.leadAgreesSpec) :=
  OpenClaim.holds_of_wide 7 Tryd.f7 rfl rfl rfl rfl rfl rfl rfl ⟨rfl, rfl, rfl, rfl, rfl⟩ rfl rfl rfl rfl rfl (by kernel_rfl) Tryd.func7 (by kernel_rfl)
    (of_decide_eq_true (by kernel_rfl)) (by unfold Func.isWrapper; first | (rw [if_pos (by decide +kernel)]; kernel_rfl) | (rw [if_neg (by decide +kernel)]; exact ⟨rfl, rfl⟩))
    (fun os started H enc _ => leadAgrees_lifted os started H enc)
theorem leadAgrees_card : Rows.LeadAgreesCardSaid :=
  Claim7.holds_tied_plain_at .later [] [.data, .data] true (true, "97b39d53ad23f08eb3ec0357f3721250e6e253b27ba62ae43d980cea96696e75") false
    leadAgrees_row (fun _ h => by cases h) (by kernel_rfl) (fun _ h => by cases h) leadAgrees_row_tie rfl ⟨rfl, rfl⟩ (by kernel_rfl) rfl
    (fun f fn hf hfn => by
      obtain rfl : f = 7 := Option.some.inj ((show Tryd.prog.funcNamed "sealchain/sealchainlaw16.LeadAgrees" = some 7 by kernel_rfl).symm.trans hf) |>.symm
      obtain rfl : fn = Tryd.f7 := (Option.some.inj (Tryd.func7.symm.trans hfn)).symm
      refine ⟨by kernel_rfl, fun j t ht => ?_⟩
      rw [Tryd.params7] at ht
      rcases j with _ | j
      · obtain rfl : t = 22 := by simpa using ht.symm
        exact (show Tryd.prog.wantsStandIn 22 = false by kernel_rfl)
      · simp at ht)
    (by kernel_rfl)
#print axioms leadAgrees_card
end Go.Proofs.YtmcfcnlglohliaaDoor
