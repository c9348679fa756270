/- What the references' small helpers do. -/
import Derived.Test.YtklegcedpknpdaaDoorTy
namespace Go.SX
open Go Go.RowKit Go.Proofs
set_option linter.unusedVariables false
theorem CopyBytes_spec (A : Option Addr) (c n : Nat) (bs : List UInt8) (hb : n ≤ 140737488351232) :
    Spec Tryd.prog 10 [.slice A n c] [] [bR A c n bs] (fun v l' => ∃ A' c', v = .slice A' n c' ∧ l' = [bO A' c' 5 n bs]) := by
  refine Spec.intro Tryd.func10 rfl rfl Tryd.ntmps10 rfl fun w0 => ?_
  repeat' (first
    | refine WC.seq ?_
    | refine WC.region ?_
    | refine W.nil ?_
    | refine WC.block ?_
    | refine WC.skip ?_
    | refine WC.exit ?_
    | refine WC.ret ?_
    | refine K.norm_then ?_
    | refine K.norm_block ?_
    | refine K.exit_then ?_
    | refine K.exit_hit ?_
    | refine K.exit_miss rfl ?_
    | refine K.ret_then ?_
    | refine K.ret_block ?_
    | refine W.gon rfl rfl (by first | rfl | assumption | (apply decide_eq_true; first | rfl | omega) | (apply decide_eq_false; omega)) ?_
    | refine W.goff rfl rfl (by first | rfl | assumption | (apply decide_eq_true; first | rfl | omega) | (apply decide_eq_false; omega)) rfl ?_
    | refine W.goff0 rfl rfl (by first | rfl | assumption | (apply decide_eq_true; first | rfl | omega) | (apply decide_eq_false; omega)) ?_
    | refine W.goffu rfl rfl rfl ?_
    | refine W.goffu0 rfl rfl ?_
    | refine W.ev (Ev.move rfl) rfl rfl rfl ?_
    | refine W.ev (Ev.assign rfl) rfl rfl rfl ?_
    | (refine W.stp (Stp.copyB rfl rfl (by (repeat (first | exact Rds.nil | refine Rds.cons ?_ ?_ | exact Rd.here (Sub.refl _) | exact Rd.here Sub.row | exact Rd.here (Sub.hiB (by omega)) | exact Rd.here (Sub.loB (by omega)) | exact Rd.here (Sub.cutB (by omega)) | exact Rd.here (Sub.trans (Sub.hiB (by omega)) Sub.row) | exact Rd.here (Sub.trans (Sub.loB (by omega)) Sub.row) | exact Rd.here (Sub.trans (Sub.cutB (by omega)) Sub.row) | refine Rd.there ?_)); fail_if_success (focus skip)) rfl (by omega) (by omega)) rfl rfl rfl ?_; rintro _ _ ⟨A2, c2, rfl, rfl⟩))
  exact ⟨_, rfl, _, ⟨_, _, rfl, rfl⟩, _, by repeat constructor⟩
theorem EqBytes_spec (A B : Option Addr) (c c' n m : Nat) (xs ys : List UInt8) :
    Spec Tryd.prog 13 [.slice A n c, .slice B m c'] [] [bR A c n xs, bR B c' m ys] (fun v l' => v = .bool (decide (xs = ys)) ∧ l' = []) := by
  refine Spec.intro Tryd.func13 rfl rfl Tryd.ntmps13 rfl fun w0 => ?_
  repeat' (first
    | refine WC.seq ?_
    | refine WC.region ?_
    | refine W.nil ?_
    | refine WC.block ?_
    | refine WC.skip ?_
    | refine WC.exit ?_
    | refine WC.ret ?_
    | refine K.norm_then ?_
    | refine K.norm_block ?_
    | refine K.exit_then ?_
    | refine K.exit_hit ?_
    | refine K.exit_miss rfl ?_
    | refine K.ret_then ?_
    | refine K.ret_block ?_
    | refine W.gon rfl rfl (by first | rfl | assumption | (apply decide_eq_true; first | rfl | omega) | (apply decide_eq_false; omega)) ?_
    | refine W.goff rfl rfl (by first | rfl | assumption | (apply decide_eq_true; first | rfl | omega) | (apply decide_eq_false; omega)) rfl ?_
    | refine W.goff0 rfl rfl (by first | rfl | assumption | (apply decide_eq_true; first | rfl | omega) | (apply decide_eq_false; omega)) ?_
    | refine W.goffu rfl rfl rfl ?_
    | refine W.goffu0 rfl rfl ?_
    | refine W.ev (Ev.move rfl) rfl rfl rfl ?_
    | refine W.ev (Ev.assign rfl) rfl rfl rfl ?_
    | refine W.ev (Ev.toStr rfl (by (repeat (first | exact Rds.nil | refine Rds.cons ?_ ?_ | exact Rd.here (Sub.refl _) | exact Rd.here Sub.row | refine Rd.there ?_)); fail_if_success (focus skip))) rfl rfl rfl ?_
    | refine W.ev (Ev.eqlS rfl rfl) rfl rfl rfl ?_)
  have h : ((⟨xs.toArray⟩ : ByteArray).toList == (⟨ys.toArray⟩ : ByteArray).toList) = decide (xs = ys) := by
    rw [ByteArray.toList_eq, ByteArray.toList_eq]
    by_cases hab : xs = ys <;> simp [hab]
  exact ⟨_, rfl, _, ⟨congrArg _ h, rfl⟩, _, by repeat constructor⟩
end Go.SX
