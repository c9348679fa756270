/- LeadBinds: the plain law; parts of a slice of votes. -/
import Derived.Test.YtmcfcnlglohliaaDoorLd10
namespace Go.SX
open Go Go.RowKit Go.Proofs
set_option linter.unusedVariables false
set_option linter.unusedSimpArgs false
set_option maxHeartbeats 4000000
structure P3 where
  x : Int
  y : Int
  z : Int
instance : Inhabited P3 := ⟨⟨0, 0, 0⟩⟩
def P3.cells (p : P3) : List Value := [.int .i64 p.x, .int .i64 p.y, .int .i64 p.z]
def p3v (p : P3) : VM := ⟨p.x % 24, ⟨p.y % 8, 1, [10 + p.x % 24]⟩⟩
def bestF (f b num best : Int) (v : VM) : Int := if v.c.num = num ∧ f ≤ num ∧ v.b < b then max best v.b else best
theorem bfind_bput (num : Int) (m : VM) : ∀ bs : List VM, bfind num (bput m bs) = if m.c.num = num then some m else bfind num bs
  | [] => by
    unfold bput bfind
    by_cases h : m.c.num = num <;> simp [h]
  | v :: bs => by
    have ih := bfind_bput num m bs
    unfold bput
    by_cases hv : v.c.num = m.c.num
    · rw [if_pos hv]
      unfold bfind
      by_cases h : m.c.num = num
      · simp [h]
      · have h2 : ¬ v.c.num = num := by rw [hv]; exact h
        simp [h, h2]
    · rw [if_neg hv]
      unfold bfind at ih ⊢
      by_cases h : v.c.num = num
      · have h2 : ¬ m.c.num = num := fun hm => hv (by rw [h, hm])
        simp [h, h2]
      · simp only [List.find?_cons, h, decide_false]
        exact ih
def BJ (num best : Int) (o : Option VM) : Prop := 0 ≤ best ∧ (0 < best → ∃ v, o = some v ∧ v.b = best ∧ v.c = ⟨num, 1, [10 + best]⟩) ∧ (best = 0 → o = none)
def vOK (v : VM) : Prop := 0 ≤ v.b ∧ v.c = ⟨v.c.num, 1, [10 + v.b]⟩
theorem p3v_ok (p : P3) : vOK (p3v p) := ⟨by show 0 ≤ p.x % 24; omega, rfl⟩
theorem BJ.got {num best : Int} {o : Option VM} (h : BJ num best o) : (o.map VM.b).getD 0 = best := by
  obtain ⟨h0, h1, h2⟩ := h
  by_cases hb : 0 < best
  · obtain ⟨v, rfl, hv, _⟩ := h1 hb
    exact hv
  · obtain rfl := h2 (by omega)
    show (0 : Int) = best
    omega
theorem BJ.step {f b num best : Int} {bs : List VM} {v : VM} (h : BJ num best (bfind num bs)) (hv : vOK v) : BJ num (bestF f b num best v) (bfind num (bindV f b bs v)) := by
  unfold bestF
  by_cases hn : v.c.num = num
  · subst hn
    have hg := h.got
    unfold bindV
    by_cases hc : f ≤ v.c.num ∧ v.b < b
    · rw [if_pos ⟨rfl, hc⟩]
      by_cases hl : best < v.b
      · rw [if_pos ⟨hc.1, hc.2, by rw [hg]; exact hl⟩, bfind_bput, if_pos rfl]
        have h0 := h.1
        refine ⟨by omega, fun _ => ⟨v, rfl, by omega, ?_⟩, fun hz => by omega⟩
        rw [show max best v.b = v.b by omega]
        exact hv.2
      · rw [if_neg (by rw [hg]; omega), show max best v.b = best by omega]
        exact h
    · rw [if_neg (by omega), if_neg (by omega)]
      exact h
  · rw [if_neg (by omega)]
    unfold bindV
    split
    · rw [bfind_bput, if_neg hn]; exact h
    · exact h
theorem BJ.fold {f b num : Int} : ∀ (ws : List VM) (bs : List VM) (best : Int), (∀ v ∈ ws, vOK v) → BJ num best (bfind num bs) → BJ num (ws.foldl (bestF f b num) best) (bfind num (ws.foldl (bindV f b) bs))
  | [], _, _, _, h => h
  | v :: ws, bs, best, hw, h => BJ.fold ws _ _ (fun x hx => hw x (List.mem_cons_of_mem _ hx)) (h.step (hw v List.mem_cons_self))
theorem bput_mem {m v : VM} : ∀ {bs : List VM}, v ∈ bput m bs → v = m ∨ v ∈ bs
  | [], h => by unfold bput at h; exact .inl (List.mem_singleton.1 h)
  | x :: bs, h => by
    unfold bput at h
    split at h
    · rcases List.mem_cons.1 h with h | h
      · exact .inl h
      · exact .inr (List.mem_cons_of_mem _ h)
    · rcases List.mem_cons.1 h with h | h
      · exact .inr (by rw [h]; exact List.mem_cons_self)
      · rcases bput_mem h with h | h
        · exact .inl h
        · exact .inr (List.mem_cons_of_mem _ h)
theorem bindV_mem {f b : Int} : ∀ (ws bs : List VM) {v : VM}, v ∈ ws.foldl (bindV f b) bs → v ∈ bs ∨ v ∈ ws
  | [], _, _, h => .inl h
  | w :: ws, bs, v, h => by
    rcases bindV_mem ws _ h with h | h
    · unfold bindV at h
      split at h
      · rcases bput_mem h with h | h
        · exact .inr (by rw [h]; exact List.mem_cons_self)
        · exact .inl h
      · exact .inl h
    · exact .inr (List.mem_cons_of_mem _ h)
/-- The leader behind the first, and behind both of them. -/
def bdS (f : Int) (ws : List VM) : LM := ⟨0, 21, f, 1, 2, ws.foldl (bindV f 21) [], none, 0⟩
def bdF (f : Int) (ws : List VM) : LM := ⟨0, 21, f, 2, 6, ws.foldl (bindV f 21) [], none, 0⟩
theorem bd_start {f : Int} (h : 1 ≤ f ∧ f ≤ 5) : ldStart (lm0 0) 20 f = (21, 0, ⟨0, 21, f, 1, 0, [], none, 0⟩) := by
  unfold ldStart
  rw [if_neg (by omega)]
  rfl
theorem bd_one (f : Int) (ws : List VM) : ldPromise ⟨0, 21, f, 1, 0, [], none, 0⟩ 1 21 ws = (false, 0, bdS f ws) := by
  have e : setW 0 (Int.toNat 1) = 2 := by decide
  have e2 : setN 2 = 1 := by decide
  unfold ldPromise
  rw [if_neg (by omega), if_neg (by simp)]
  simp only [e, e2]
  rfl
theorem bd_two (f : Int) (ws vs : List VM) : ldPromise (bdS f ws) 2 21 vs = (true, 0, bdF f (ws ++ vs)) := by
  have e : setW 2 (Int.toNat 2) = 6 := by decide
  have e2 : setN 6 = 2 := by decide
  unfold ldPromise bdS
  rw [if_neg (by omega), if_neg (by simp)]
  unfold bdF
  rw [List.foldl_append]
  simp only [e, e2]
  rfl
theorem bd_ok0 {f : Int} : LdOK ⟨0, 21, f, 1, 0, [], none, 0⟩ := ⟨⟨by show (0 : Int) ≤ 0; decide, by show (0 : Int) < 3; decide⟩, ⟨(by show (0 : Int) ≤ 21; decide), (by show (21 : Int) ≤ 4611686018427387904; decide)⟩, (by show 0 < 8; decide), (by show 0 < 8; decide), fun v hv => (by cases hv), fun c hc => (by cases hc)⟩
theorem bd_len {f : Int} {ws : List VM} (h : ∀ v ∈ ws, vOK v) : ∀ v ∈ ws.foldl (bindV f 21) [], v.c.xs.length ≤ 1000000 := by
  intro v hv
  rcases bindV_mem ws [] hv with hv | hv
  · cases hv
  · rw [(h v hv).2]; show 1 ≤ 1000000; decide
theorem bd_okS {f : Int} {ws : List VM} (h : ∀ v ∈ ws, vOK v) : LdOK (bdS f ws) :=
  ⟨⟨by show (0 : Int) ≤ 0; decide, by show (0 : Int) < 3; decide⟩, ⟨(by show (0 : Int) ≤ 21; decide), (by show (21 : Int) ≤ 4611686018427387904; decide)⟩, (by show 2 < 8; decide), (by show 0 < 8; decide), bd_len h, fun c hc => (by cases hc)⟩
theorem bd_okF {f : Int} {ws : List VM} (h : ∀ v ∈ ws, vOK v) : LdOK (bdF f ws) :=
  ⟨⟨by show (0 : Int) ≤ 0; decide, by show (0 : Int) < 3; decide⟩, ⟨(by show (0 : Int) ≤ 21; decide), (by show (21 : Int) ≤ 4611686018427387904; decide)⟩, (by show 6 < 8; decide), (by show 0 < 8; decide), bd_len h, fun c hc => (by cases hc)⟩
/-! ### Parts of a slice of records -/
theorem recs_takeA {α : Type} {f : α → List Value} {s : Nat} (hs : ∀ x, (f x).length = s) : ∀ (xs : List α) (k : Nat), (recs f xs).take (k * s) = recs f (xs.take k)
  | [], k => by simp [recs]
  | x :: xs, 0 => by simp [recs]
  | x :: xs, k + 1 => by
    have ih := recs_takeA hs xs k
    simp only [recs, List.flatMap_cons, List.take_succ_cons] at ih ⊢
    rw [show (k + 1) * s = (f x).length + k * s by rw [hs, Nat.succ_mul, Nat.add_comm], List.take_length_add_append, ih]
theorem recs_dropA {α : Type} {f : α → List Value} {s : Nat} (hs : ∀ x, (f x).length = s) : ∀ (xs : List α) (k : Nat), (recs f xs).drop (k * s) = recs f (xs.drop k)
  | [], k => by simp [recs]
  | x :: xs, 0 => by simp [recs]
  | x :: xs, k + 1 => by
    have ih := recs_dropA hs xs k
    simp only [recs, List.flatMap_cons, List.drop_succ_cons] at ih ⊢
    rw [show (k + 1) * s = (f x).length + k * s by rw [hs, Nat.succ_mul, Nat.add_comm], List.drop_length_add_append, ih]
theorem Sub.starSubl {l1 l2 : List Chunk} (h : l1.Sublist l2) : Sub (starC l1) (starC l2) :=
  ⟨fun k hk => by obtain ⟨c, hc, hk⟩ := mem_fps.1 hk; exact mem_fps.2 ⟨c, h.subset hc, hk⟩, fun w hw => ⟨fun c hc => hw.1 c (h.subset hc), hw.2.sublist h⟩⟩
theorem Sub.hiRec {α : Type} {f : α → List Value} {s : Nat} (hs : ∀ x, (f x).length = s) {A : Option Addr} {c k : Nat} {xs : List α} (hk : k ≤ xs.length) : Sub (sliceC A c s k (recs f (xs.take k))) (sliceC A c s xs.length (recs f xs)) := by
  have := Sub.cut (A := A) (c := c) (s := s) (n := xs.length) (cs := recs f xs) (lo := 0) (hi := k) ⟨by omega, hk⟩
  rwa [subA_zero, Nat.sub_zero, Nat.sub_zero, Nat.zero_mul, List.drop_zero, recs_takeA hs] at this
theorem Sub.loRec {α : Type} {f : α → List Value} {s : Nat} (hs : ∀ x, (f x).length = s) {A : Option Addr} {c k q : Nat} {xs : List α} (hk : q + k = xs.length) : Sub (sliceC (subA A c k s) (c - k) s q (recs f (xs.drop k))) (sliceC A c s xs.length (recs f xs)) := by
  have := Sub.cut (A := A) (c := c) (s := s) (n := xs.length) (cs := recs f xs) (lo := k) (hi := xs.length) ⟨by omega, Nat.le_refl _⟩
  rw [recs_dropA hs] at this
  have e : xs.length - k = q := by omega
  rw [e, List.take_of_length_le (by rw [recs_length hs, List.length_drop, e]; exact Nat.le_refl _)] at this
  exact this
theorem Sub.starTake {α : Type} {f : α → Chunk} {xs : List α} {k : Nat} : Sub (starM f (xs.take k)) (starM f xs) := Sub.starSubl (List.Sublist.map f (List.take_sublist k xs))
theorem Sub.starDrop {α : Type} {f : α → Chunk} {xs : List α} {k : Nat} : Sub (starM f (xs.drop k)) (starM f xs) := Sub.starSubl (List.Sublist.map f (List.drop_sublist k xs))
section
variable (g : Nat) (a : LA) (s : LM)
theorem Promise_hi (who b : Int) (vA : Option Addr) (vc k : Nat) (ws : List VH) (tb : List UInt8) (n : Nat) (hn : n = ws.length) (m : Bool × Int × LM) (hm : ldPromise s who b ((ws.take k).map VH.vm) = m) (h : LdOK s) (hk : k ≤ ws.length) (hl : ws.length ≤ 1000000) (hws : ∀ v ∈ ws, v.c.xs.length ≤ 1000000) (htb : tb.length = 64) :
    Spec Tryd.prog 13 [.pointer (some ⟨g, 0, none⟩), .int .i64 who, .int .i64 b, .slice vA k vc] [leadC g a s] [sliceC vA vc 4 n (recs VH.cells ws), starM VH.own ws, tzC tb]
      (LdPost g (.tuple #[.bool m.1, .int .i64 m.2.1]) m.2.2) := by
  subst hn
  refine ((Promise_to g a s who b vA vc k (ws.take k) tb m hm h (by rw [List.length_take]; omega) (by rw [List.length_take]; omega) (fun v hv => hws v (List.mem_of_mem_take hv)) htb).frame (l := [leadC g a s]) (l1 := []) (.cons .here .nil)
    (.cons (.here (Sub.hiRec (f := VH.cells) (s := 4) (fun _ => rfl) hk)) (.cons (.there (.here Sub.starTake)) (.cons (.there (.there (.here (Sub.refl _)))) .nil)))).mono fun v l' ⟨l2, ⟨a', h1, h2⟩, h3⟩ => ⟨a', h1, by rw [h3, h2]; rfl⟩
theorem Promise_lo (who b : Int) (vA : Option Addr) (vc k q : Nat) (ws : List VH) (tb : List UInt8) (n : Nat) (hn : n = ws.length) (m : Bool × Int × LM) (hm : ldPromise s who b ((ws.drop k).map VH.vm) = m) (h : LdOK s) (hk : q + k = ws.length) (hl : ws.length ≤ 1000000) (hws : ∀ v ∈ ws, v.c.xs.length ≤ 1000000) (htb : tb.length = 64) :
    Spec Tryd.prog 13 [.pointer (some ⟨g, 0, none⟩), .int .i64 who, .int .i64 b, .slice (subA vA vc k 4) q (vc - k)] [leadC g a s] [sliceC vA vc 4 n (recs VH.cells ws), starM VH.own ws, tzC tb]
      (LdPost g (.tuple #[.bool m.1, .int .i64 m.2.1]) m.2.2) := by
  subst hn
  refine ((Promise_to g a s who b _ _ q (ws.drop k) tb m hm h (by rw [List.length_drop]; omega) (by rw [List.length_drop]; omega) (fun v hv => hws v (List.mem_of_mem_drop hv)) htb).frame (l := [leadC g a s]) (l1 := []) (.cons .here .nil)
    (.cons (.here (Sub.loRec (f := VH.cells) (s := 4) (fun _ => rfl) hk)) (.cons (.there (.here Sub.starDrop)) (.cons (.there (.there (.here (Sub.refl _)))) .nil)))).mono fun v l' ⟨l2, ⟨a', h1, h2⟩, h3⟩ => ⟨a', h1, by rw [h3, h2]; rfl⟩
theorem Bound_bd (f num : Int) (ws : List VM) (h : ∀ v ∈ ws, vOK v) : Spec Tryd.prog 14 [.pointer (some ⟨g, 0, none⟩), .int .i64 num] [] [leadC g a (bdF f ws)]
    (fun v l' => (0 < ws.foldl (bestF f 21 num) 0 ∧ ∃ A k, v = .tuple #[.agg #[.int .i64 num, .int .i64 1, .slice A 1 k], .bool true] ∧ l' = [iO A k 3 1 [10 + ws.foldl (bestF f 21 num) 0]]) ∨
      (ws.foldl (bestF f 21 num) 0 = 0 ∧ ∃ A k, v = .tuple #[.agg #[.int .i64 0, .int .i64 0, .slice A 0 k], .bool false] ∧ l' = [iO A k 3 0 []])) := by
  have hJ : BJ num (ws.foldl (bestF f 21 num) 0) (bfind num (bdF f ws).bs) := BJ.fold ws [] 0 h ⟨by decide, fun h => absurd h (by decide), fun _ => rfl⟩
  refine (Bound_spec g a (bdF f ws) num (bd_okF h)).mono ?_
  rintro v l' ⟨A, k, h1, h2⟩
  unfold ldBound at h1 h2
  by_cases h0 : 0 < ws.foldl (bestF f 21 num) 0
  · obtain ⟨x, e1, e2, e3⟩ := hJ.2.1 h0
    rw [e1] at h1 h2
    simp only [Option.map_some, Option.getD_some, Option.isSome_some, e3] at h1 h2
    exact .inl ⟨h0, A, k, h1, h2⟩
  · have h00 : ws.foldl (bestF f 21 num) 0 = 0 := by have := hJ.1; omega
    have e1 := hJ.2.2 h00
    rw [e1] at h1 h2
    exact .inr ⟨h00, A, k, h1, h2⟩
end
end Go.SX
