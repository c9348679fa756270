/- The disk: what its methods do, case by case; Trace. -/
import Derived.Test.YtfagffimejmjfaaDk3
namespace Go.SX
open Go Go.RowKit Go.Proofs
set_option linter.unusedVariables false
set_option linter.unusedSimpArgs false
set_option maxHeartbeats 4000000
theorem Spec.to {P : Program} {f : FuncId} {args : List Value} {l r : List Chunk} {post post' : Value → List Chunk → Prop} (h : Spec P f args l r post) (hp : ∀ v l', post v l' → post' v l') : Spec P f args l r post' := h.mono hp
section
variable (g : Nat) (a : DkA) (b : List UInt8) (n : Int) (dead : Bool) (arm : Option Int) (tr : List (List UInt8)) (A : Option Addr) (c k : Nat) (x : List UInt8) (cut : Int)
abbrev DkIs (g : Nat) (e : Int) (s : DK) (v : Value) (l' : List Chunk) : Prop := ∃ a', v = .int .i64 e ∧ l' = [diskC g a' s]
theorem DkPost.is {g : Nat} {m : Int × DK} {e : Int} {s : DK} (h : m = (e, s)) : ∀ v l', DkPost g m v l' → DkIs g e s v l' := by
  rintro v l' ⟨a', rfl, rfl⟩
  exact ⟨a', by rw [h], by rw [h]⟩
theorem DkOK.mk' (h : 0 ≤ n ∧ n ≤ b.length ∧ b.length ≤ 1048576 ∧ tr.length ≤ 1000) (ha : ∀ c, arm = some c → 0 ≤ c ∧ c ≤ 9223372036854775807) : DkOK ⟨b, n, dead, arm, tr⟩ := ⟨⟨h.1, h.2.1⟩, h.2.2.1, h.2.2.2, ha⟩
theorem Write_ok (h : 0 ≤ n ∧ n ≤ b.length ∧ b.length + x.length ≤ 1048576 ∧ tr.length < 1000 ∧ k ≤ 1048577) (ha : ∀ c, arm = some c → 0 ≤ c ∧ c ≤ 9223372036854775807) :
    Spec Try.prog 10 [.pointer (some ⟨g, 0, none⟩), .slice A k c] [diskC g a ⟨b, n, false, arm, tr⟩] [bR A c k x] (DkIs g 0 ⟨b ++ x, n, false, arm, tr ++ [x]⟩) :=
  (Write_spec g a ⟨b, n, false, arm, tr⟩ A c k x (DkOK.mk' _ _ _ _ _ ⟨h.1, h.2.1, by omega, by omega⟩ ha) h.2.2.2.1 h.2.2.2.2).mono (DkPost.is (by unfold dkWrite; dsimp only; rw [if_neg (by simp), if_neg (by omega)]))
theorem Write_dead (h : 0 ≤ n ∧ n ≤ b.length ∧ b.length ≤ 1048576 ∧ tr.length < 1000 ∧ k ≤ 1048577) (ha : ∀ c, arm = some c → 0 ≤ c ∧ c ≤ 9223372036854775807) :
    Spec Try.prog 10 [.pointer (some ⟨g, 0, none⟩), .slice A k c] [diskC g a ⟨b, n, true, arm, tr⟩] [bR A c k x] (DkIs g 130 ⟨b, n, true, arm, tr⟩) :=
  (Write_spec g a ⟨b, n, true, arm, tr⟩ A c k x (DkOK.mk' _ _ _ _ _ ⟨h.1, h.2.1, by omega, by omega⟩ ha) h.2.2.2.1 h.2.2.2.2).mono (DkPost.is rfl)
theorem Sync_ok (h : 0 ≤ n ∧ n ≤ b.length ∧ b.length ≤ 1048576 ∧ tr.length ≤ 1000) :
    Spec Try.prog 11 [.pointer (some ⟨g, 0, none⟩)] [diskC g a ⟨b, n, false, none, tr⟩] [] (DkIs g 0 ⟨b, b.length, false, none, tr⟩) :=
  (Sync_spec g a ⟨b, n, false, none, tr⟩ (DkOK.mk' _ _ _ _ _ h (by simp))).mono (DkPost.is rfl)
theorem Sync_armed (h : 0 ≤ n ∧ n ≤ b.length ∧ b.length ≤ 1048576 ∧ tr.length ≤ 1000) (hc : 0 ≤ cut ∧ cut ≤ 9223372036854775807) :
    Spec Try.prog 11 [.pointer (some ⟨g, 0, none⟩)] [diskC g a ⟨b, n, false, some cut, tr⟩] [] (DkIs g 130 ⟨b.take (n + min ((b.length : Int) - n) cut).toNat, n + min ((b.length : Int) - n) cut, true, some cut, tr⟩) :=
  (Sync_spec g a ⟨b, n, false, some cut, tr⟩ (DkOK.mk' _ _ _ _ _ h (by simpa using hc))).mono (DkPost.is rfl)
theorem Sync_dead (h : 0 ≤ n ∧ n ≤ b.length ∧ b.length ≤ 1048576 ∧ tr.length ≤ 1000) (ha : ∀ c, arm = some c → 0 ≤ c ∧ c ≤ 9223372036854775807) :
    Spec Try.prog 11 [.pointer (some ⟨g, 0, none⟩)] [diskC g a ⟨b, n, true, arm, tr⟩] [] (DkIs g 130 ⟨b, n, true, arm, tr⟩) :=
  (Sync_spec g a ⟨b, n, true, arm, tr⟩ (DkOK.mk' _ _ _ _ _ h ha)).mono (DkPost.is rfl)
theorem Swap_ok (h : 0 ≤ n ∧ n ≤ b.length ∧ b.length ≤ 1048576 ∧ x.length ≤ 1048576 ∧ tr.length < 1000 ∧ k ≤ 1048577) :
    Spec Try.prog 14 [.pointer (some ⟨g, 0, none⟩), .slice A k c] [diskC g a ⟨b, n, false, none, tr⟩] [bR A c k x] (DkIs g 0 ⟨x, x.length, false, none, tr ++ [x]⟩) :=
  (Swap_spec g a ⟨b, n, false, none, tr⟩ A c k x (DkOK.mk' _ _ _ _ _ ⟨h.1, h.2.1, by omega, by omega⟩ (by simp)) h.2.2.2.2.1 h.2.2.2.2.2).mono (DkPost.is (by unfold dkSwap; dsimp only; rw [if_neg (by simp), if_neg (by omega)]))
theorem Swap_armed (h : 0 ≤ n ∧ n ≤ b.length ∧ b.length ≤ 1048576 ∧ x.length ≤ 1048576 ∧ tr.length < 1000 ∧ k ≤ 1048577) (hc : 0 ≤ cut ∧ cut ≤ 9223372036854775807) :
    Spec Try.prog 14 [.pointer (some ⟨g, 0, none⟩), .slice A k c] [diskC g a ⟨b, n, false, some cut, tr⟩] [bR A c k x] (DkIs g 130 ⟨b.take (n + min ((b.length : Int) - n) cut).toNat, n + min ((b.length : Int) - n) cut, true, some cut, tr⟩) :=
  (Swap_spec g a ⟨b, n, false, some cut, tr⟩ A c k x (DkOK.mk' _ _ _ _ _ ⟨h.1, h.2.1, by omega, by omega⟩ (by simpa using hc)) h.2.2.2.2.1 h.2.2.2.2.2).mono (DkPost.is (by unfold dkSwap dkTear; dsimp only; rw [if_neg (by simp), if_neg (by omega)]))
theorem Swap_dead (h : 0 ≤ n ∧ n ≤ b.length ∧ b.length ≤ 1048576 ∧ tr.length < 1000 ∧ k ≤ 1048577) (ha : ∀ c, arm = some c → 0 ≤ c ∧ c ≤ 9223372036854775807) :
    Spec Try.prog 14 [.pointer (some ⟨g, 0, none⟩), .slice A k c] [diskC g a ⟨b, n, true, arm, tr⟩] [bR A c k x] (DkIs g 130 ⟨b, n, true, arm, tr⟩) :=
  (Swap_spec g a ⟨b, n, true, arm, tr⟩ A c k x (DkOK.mk' _ _ _ _ _ ⟨h.1, h.2.1, by omega, by omega⟩ ha) h.2.2.2.1 h.2.2.2.2).mono (DkPost.is rfl)
theorem Cut_dead (h : 0 ≤ n ∧ n ≤ b.length ∧ b.length ≤ 1048576 ∧ tr.length ≤ 1000) (ha : ∀ c, arm = some c → 0 ≤ c ∧ c ≤ 9223372036854775807) :
    Spec Try.prog 22 [.pointer (some ⟨g, 0, none⟩), .int .i64 cut] [diskC g a ⟨b, n, true, arm, tr⟩] [] (DkIs g 130 ⟨b, n, true, arm, tr⟩) :=
  (Cut_spec g a ⟨b, n, true, arm, tr⟩ cut (DkOK.mk' _ _ _ _ _ h ha)).mono (DkPost.is rfl)
theorem Arm_ok (h : 0 ≤ n ∧ n ≤ b.length ∧ b.length ≤ 1048576 ∧ tr.length ≤ 1000) (ha : ∀ c, arm = some c → 0 ≤ c ∧ c ≤ 9223372036854775807) (hc : 0 ≤ cut ∧ cut ≤ 9223372036854775807) :
    Spec Try.prog 13 [.pointer (some ⟨g, 0, none⟩), .int .i64 cut] [diskC g a ⟨b, n, false, arm, tr⟩] [] (DkIs g 0 ⟨b, n, false, some cut, tr⟩) :=
  (Arm_spec g a ⟨b, n, false, arm, tr⟩ cut (DkOK.mk' _ _ _ _ _ h ha) hc.2).mono (DkPost.is (by unfold dkArm; dsimp only; rw [if_neg (by simp), if_neg (by omega)]))
theorem Arm_dead (h : 0 ≤ n ∧ n ≤ b.length ∧ b.length ≤ 1048576 ∧ tr.length ≤ 1000) (ha : ∀ c, arm = some c → 0 ≤ c ∧ c ≤ 9223372036854775807) (hc : cut ≤ 9223372036854775807) :
    Spec Try.prog 13 [.pointer (some ⟨g, 0, none⟩), .int .i64 cut] [diskC g a ⟨b, n, true, arm, tr⟩] [] (DkIs g 130 ⟨b, n, true, arm, tr⟩) :=
  (Arm_spec g a ⟨b, n, true, arm, tr⟩ cut (DkOK.mk' _ _ _ _ _ h ha) hc).mono (DkPost.is rfl)
theorem Crash_live (h : 0 ≤ n ∧ n ≤ b.length ∧ b.length ≤ 1048576 ∧ tr.length ≤ 1000) (ha : ∀ c, arm = some c → 0 ≤ c ∧ c ≤ 9223372036854775807) (hc : 0 ≤ cut ∧ cut ≤ 9223372036854775807) :
    Spec Try.prog 20 [.pointer (some ⟨g, 0, none⟩), .int .i64 cut] [diskC g a ⟨b, n, false, arm, tr⟩] [] (DkIs g 0 ⟨b.take (n + min ((b.length : Int) - n) cut).toNat, n + min ((b.length : Int) - n) cut, true, arm, tr⟩) :=
  (Crash_spec g a ⟨b, n, false, arm, tr⟩ cut (DkOK.mk' _ _ _ _ _ h ha) hc.2).mono (DkPost.is (by unfold dkCrash dkTear; dsimp only; rw [if_neg (by omega), if_neg (by simp)]))
theorem Revive_ok : Spec Try.prog 23 [.pointer (some ⟨g, 0, none⟩)] [diskC g a ⟨b, n, dead, arm, tr⟩] [] (DkIs g 0 ⟨b, n, false, none, tr⟩) :=
  (Revive_spec g a ⟨b, n, dead, arm, tr⟩).mono (DkPost.is rfl)
theorem Read_ok (h : 0 ≤ n ∧ n ≤ b.length ∧ b.length ≤ 1048576 ∧ tr.length ≤ 1000) (ha : ∀ c, arm = some c → 0 ≤ c ∧ c ≤ 9223372036854775807) :
    Spec Try.prog 16 [.pointer (some ⟨g, 0, none⟩)] [] [diskC g a ⟨b, n, dead, arm, tr⟩] (fun v l' => ∃ A c k, k = b.length ∧ v = .slice A k c ∧ l' = [bO A c 5 k b]) :=
  Read_spec g a ⟨b, n, dead, arm, tr⟩ (DkOK.mk' _ _ _ _ _ h ha)



end
end Go.SX














