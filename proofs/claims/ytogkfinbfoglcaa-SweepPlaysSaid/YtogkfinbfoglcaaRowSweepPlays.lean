/-
SweepPlays: whatever the input, the law returns true; each argument reads afterwards as it read before.
-/
import Derived.Test.YtogkfinbfoglcaaSw7
import Derived.Test.YtogkfinbfoglcaaRows
import Derived.ProofKit
import Derived.OpenShut
import Derived.ShutString
import Derived.ChangeOld
import Derived.ChangeSame
import Derived.ChangeVars
import Derived.JoinedOf
import Derived.RowKit
import Derived.RowKitTokens
import Derived.LaidLaws
import Derived.LaidHandle
import Derived.Lib.LaidTab
import Derived.Stop.Joined
import Derived.SevenTiedAt
namespace Go.SX
open Go
theorem beg_open {w : World} {cs : List Value} (h : Sh.ok w (.cat .bool (.cat (.rep 32 (.int .u8)) (.cat (.int .i64) .unit))) cs) : ∃ r cur pat, cs = .bool r :: (nm cur ++ [.int .i64 pat]) ∧ cur.length = 32 := by
  obtain ⟨_, _, rfl, ⟨r, rfl⟩, _, _, rfl, hn, _, _, rfl, ⟨pat, rfl, _⟩, rfl⟩ := h
  obtain ⟨cur, rfl, hl⟩ := ok_nm hn
  exact ⟨r, cur, pat, rfl, hl⟩
theorem swDos_open {w : World} {v : Value} (h : Sh.ok w (.slice 7 (.cat .bool (.cat (.cat (.int .i64) (.cat (.slice 1 (.int .u8)) (.cat .bool (.cat (.int .i64) (.cat (.int .i64) (.cat (.int .i64) .unit)))))) .unit))) [v]) : ∃ A n c ds, v = .slice A n c ∧ (sliceC A c 7 n (recs SwDo.cells ds)).holds w := by
  obtain ⟨A, n, c, xs, hv, h1, rfl, h2⟩ := h
  obtain ⟨ds, h3, _, _⟩ := ok_list (f := SwDo.cells) (Q := fun _ => True) (fun x hx => by
    obtain ⟨_, _, rfl, ⟨nx, rfl⟩, _, _, rfl, ⟨_, _, rfl, ⟨c, rfl, _⟩, _, _, rfl, ⟨A, n, k, _, rfl, _⟩, _, _, rfl, ⟨t, rfl⟩, _, _, rfl, ⟨ver, rfl, _⟩, _, _, rfl, ⟨f, rfl, _⟩, _, _, rfl, ⟨l, rfl, _⟩, rfl⟩, rfl⟩ := hx
    exact ⟨⟨nx, c, A, n, k, t, ver, f, l⟩, rfl, trivial⟩) h2
  rw [h3] at h1
  exact ⟨A, _, c, ds, (List.cons.inj hv).1, h1⟩
end Go.SX
namespace Go.Proofs.Ytogkfinbfoglcaa
open Go Go.ChangeShapes Go.WideShapes Go.ChangeAt Go.RowKit
open Go.ChangeMaps (open_string shut_string)
set_option linter.unusedVariables false
theorem own : ownKnob Try.prog.godebug = none := by kernel_rfl
theorem laidOut : laidOutB Try.prog = true := by kernel_rfl
set_option maxRecDepth 100000 in
set_option maxHeartbeats 4000000 in
theorem sweepPlays_lifted (os : Os) (started : os.Started) (H : Type) (enc : TypeId × Value → H) :
    ReturnsInHanded {} Try.checked os 3 .any (Rows.sweepPlaysSpec.pre6 enc Try.prog Try.f3 Rows.sweepPlaysRow.domain false) (Rows.sweepPlaysSpec.post enc Try.prog Try.f3 false true false false) := by
      refine returnsInHanded_of_change (C := Try.checked) own started (by kernel_rfl) Try.func3
        (ChangeSpec.witness6 (enc := enc) (C := Try.checked) false ⟨#[], #[.agg #[(.bool false), (.int .u8 0), (.int .u8 0), (.int .u8 0), (.int .u8 0), (.int .u8 0), (.int .u8 0), (.int .u8 0), (.int .u8 0), (.int .u8 0), (.int .u8 0), (.int .u8 0), (.int .u8 0), (.int .u8 0), (.int .u8 0), (.int .u8 0), (.int .u8 0), (.int .u8 0), (.int .u8 0), (.int .u8 0), (.int .u8 0), (.int .u8 0), (.int .u8 0), (.int .u8 0), (.int .u8 0), (.int .u8 0), (.int .u8 0), (.int .u8 0), (.int .u8 0), (.int .u8 0), (.int .u8 0), (.int .u8 0), (.int .u8 0), (.int .i64 0)], .slice none 0 0], []⟩ 8 (by kernel_rfl) (by kernel_rfl) (by kernel_rfl) (by kernel_rfl)) ?_
      intro W base args ds gs before hval0 hW hcnd _
      have hval : ∀ (j : Nat) t v, Try.f3.params[j]? = some t → args[j]? = some v → Value.okWide Try.prog W .any base t v := hval0
      have hW' := hW
      obtain ⟨p, q, hA0, hV, rfl, hfz, hnd⟩ := hW
      have hA : DataW.TrodAll enc Try.prog W 0 (fun _ => true) true Try.f3.params.toList args.toList ds p := hA0
      rw [Try.params3] at hA hval
      obtain ⟨v0, vs0, d0, ds0, p0, q0, hargs, rfl, rfl, h0, r0⟩ := trodAll_cons hA
      obtain ⟨v1, vs1, d1, ds1, p1, q1, rfl, rfl, rfl, h1, r1⟩ := trodAll_cons r0
      obtain ⟨rfl, rfl, rfl⟩ := trodAll_nil r1
      obtain rfl : args = #[v0, v1] := by cases args; simp_all
      obtain ⟨rfl, rfl⟩ := trodVars_none hV
      have k0 := h0
      have lt0 : ∀ x ∈ p0, x.block < W.heap.size := by obtain ⟨m, hm⟩ := k0; exact DataW.trod_lt m _ _ _ hm
      have hs0 := SX.shape_of (sh := (.cat .bool (.cat (.rep 32 (.int .u8)) (.cat (.int .i64) .unit)))) h0 (by kernel_rfl)
      obtain ⟨cs0, rfl, _⟩ := okWide_struct Try.underlying25 (hval 0 25 v0 rfl rfl)
      obtain ⟨rr0,  cur0,  pat0, hl0, hcur0⟩ := SX.beg_open hs0
      have ha0 := SX.agg_list hl0
      have k1 := h1
      have lt1 : ∀ x ∈ p1, x.block < W.heap.size := by obtain ⟨m, hm⟩ := k1; exact DataW.trod_lt m _ _ _ hm
      have hs1 := SX.shape_of (sh := (.slice 7 (.cat .bool (.cat (.cat (.int .i64) (.cat (.slice 1 (.int .u8)) (.cat .bool (.cat (.int .i64) (.cat (.int .i64) (.cat (.int .i64) .unit)))))) .unit)))) h1 (by kernel_rfl)
      have hs1' := SX.slice_one Try.underlying26 (hval 1 26 v1 rfl rfl) hs1
      obtain ⟨A1,  n1,  c1,  ds1, rfl, hch1⟩ := SX.swDos_open hs1'
      clear hA0 hval0
      have hspec := (SX.Spec.below (SX.SweepPlays_law rr0 cur0 pat0 hcur0 A1 n1 c1 ds1) W (fun c hc => by
          simp only [List.mem_cons, List.not_mem_nil, or_false] at hc
          rcases hc with rfl
          · exact hch1))
      rw [← ha0] at hspec
      refine hspec.mono fun e W' ⟨he, bel⟩ => ?_
      subst he
      exact ⟨_, rfl, _, _, _, [], _, [], hW', trodAll_mk1 (shut_bool Try.underlying4 _), (trodAll_cons_mk (Below.trod laidOut (by kernel_rfl) (of_decide_eq_true (by kernel_rfl)) k0 bel lt0) (trodAll_cons_mk (Below.trod laidOut (by kernel_rfl) (of_decide_eq_true (by kernel_rfl)) k1 bel lt1) trodAll_mk0)), rfl, bel.frame _, fun h => by cases h⟩
theorem sweepPlays_row : Rows.sweepPlaysRow.holds Try.pinned (OpenSpec.ofChange Rows.sweepPlaysSpec) :=
  OpenClaim.holds_of_wide 3 Try.f3 rfl rfl rfl rfl rfl rfl rfl ⟨rfl, rfl, rfl, rfl, rfl⟩ rfl rfl rfl rfl rfl (by kernel_rfl) Try.func3 (by kernel_rfl)
    (of_decide_eq_true (by kernel_rfl)) (by unfold Func.isWrapper; first | (rw [if_pos (by decide +kernel)]; kernel_rfl) | (rw [if_neg (by decide +kernel)]; exact ⟨rfl, rfl⟩))
    (fun os started H enc _ => sweepPlays_lifted os started H enc)
#print axioms sweepPlays_row
end Go.Proofs.Ytogkfinbfoglcaa
