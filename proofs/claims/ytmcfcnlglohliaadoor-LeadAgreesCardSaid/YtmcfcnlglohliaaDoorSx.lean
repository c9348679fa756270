/- A small logic of symbolic states over the walk's own rules: frames as lists, memory as chunks with footprints. -/
import Derived.WalkKit
import Derived.OrdersHeld
import Derived.Maps.AppendAt
import Derived.ChangeKeysEq
import Derived.RangeFuncRecord
import Derived.RangeFuncSeq
import Derived.OrdersIn
import Derived.TacticsIn
set_option linter.unusedVariables false
set_option linter.unusedSimpArgs false
namespace Go.SX
open Go Go.RowKit

/-! ### Frames as lists -/
abbrev Env := List (Nat × Value)
def look : Env → Nat → Option Value
  | [], _ => none
  | (t, v) :: e, u => match Nat.beq t u with
    | true => some v
    | false => look e u
def ev (e : Env) : Operand → Option Value
  | .tmp t => look e t
  | .const v => some v
  | .global g => some (.pointer (some ⟨g, 0, none⟩))
  | .func f => some (.func (.func f) #[] #[])
def evs (e : Env) : List Operand → Option (List Value)
  | [] => some []
  | x :: xs => match ev e x, evs e xs with
    | some v, some vs => some (v :: vs)
    | _, _ => none
structure EnvOK (n : Nat) (a : Act) (e : Env) : Prop where
  size : a.tmps.size = n
  at_ : ∀ t v, look e t = some v → a.tmps[t]? = some v
theorem EnvOK.eval {n : Nat} {a : Act} {e : Env} (h : EnvOK n a e) {x : Operand} {v : Value} (hx : ev e x = some v) : a.eval x = v := by
  cases x with
  | tmp t => have := h.at_ t v hx; simp [Act.eval, Array.getD_eq_getD_getElem?, this]
  | const u => simpa [ev, Act.eval] using hx
  | global g => simpa [ev, Act.eval] using hx
  | func f => simpa [ev, Act.eval] using hx
theorem EnvOK.evals {n : Nat} {a : Act} {e : Env} (h : EnvOK n a e) : ∀ {xs : List Operand} {vs : List Value}, evs e xs = some vs → xs.map a.eval = vs := by
  intro xs
  induction xs with
  | nil => intro vs hx; simpa [evs] using hx
  | cons x xs ih =>
    intro vs hx
    simp only [evs] at hx
    split at hx
    · rename_i v us hv hvs
      injection hx with hx
      subst hx
      simp [h.eval hv, ih hvs]
    · cases hx
theorem EnvOK.put {n : Nat} {a : Act} {e : Env} (h : EnvOK n a e) {d : Nat} (hd : Nat.blt d n = true) (v : Value) : EnvOK n (a.put (some d) v) ((d, v) :: e) := by
  have hd' : d < n := by simpa [Nat.blt_eq] using hd
  refine ⟨by simp [Act.put, h.size], ?_⟩
  intro t u hu
  simp only [look] at hu
  split at hu
  · rename_i ht
    have : d = t := Nat.eq_of_beq_eq_true ht
    subst this
    injection hu with hu
    subst hu
    have hd2 : d < a.tmps.size := by rw [h.size]; exact hd'
    simp [Act.put, hd2]
  · rename_i ht
    have hne : d ≠ t := Nat.ne_of_beq_eq_false ht
    simp only [Act.put]
    rw [Array.getElem?_setIfInBounds_ne hne]
    exact h.at_ t u hu
theorem EnvOK.put_none {n : Nat} {a : Act} {e : Env} (h : EnvOK n a e) (v : Value) : EnvOK n (a.put none v) e := h
/-- Every look-up of the second frame is one of the first. -/
def EnvLe (e : Env) : Env → Prop
  | [] => True
  | (t, v) :: e0 => look e t = some v ∧ EnvLe e e0
theorem EnvLe.look {e e0 : Env} (h : EnvLe e e0) : ∀ t v, look e0 t = some v → look e t = some v := by
  induction e0 with
  | nil => intro t v hv; cases hv
  | cons p e0 ih =>
    obtain ⟨t0, v0⟩ := p
    intro t v hv
    simp only [SX.look] at hv
    split at hv
    · rename_i ht
      have : t0 = t := Nat.eq_of_beq_eq_true ht
      subst this
      injection hv with hv
      subst hv
      exact h.1
    · exact ih h.2 t v hv
theorem EnvOK.le {n : Nat} {a : Act} {e e0 : Env} (h : EnvOK n a e) (hle : EnvLe e e0) : EnvOK n a e0 :=
  ⟨h.size, fun t v hv => h.at_ t v (hle.look t v hv)⟩

/-! ### Memory as chunks -/
structure Chunk where
  fp : List Nat
  holds : World → Prop
  loc : ∀ (w w' : World), (∀ k ∈ fp, w'.heap[k]? = w.heap[k]?) → holds w → holds w'
  lt : ∀ (w : World), holds w → ∀ k ∈ fp, k < w.heap.size
structure St (S : List Nat) (w0 w : World) (l r : List Chunk) : Prop where
  os : w.os = w0.os
  tape : w.tape = w0.tape
  output : w.output = w0.output
  size : w0.heap.size ≤ w.heap.size
  frame : ∀ k, k < w0.heap.size → k ∉ S → w.heap[k]? = w0.heap[k]?
  own : ∀ c ∈ l, c.holds w
  ro : ∀ c ∈ r, c.holds w
  sep : l.Pairwise (fun c d => ∀ k ∈ c.fp, k ∉ d.fp)
  sepr : ∀ c ∈ l, ∀ d ∈ r, ∀ k ∈ c.fp, k ∉ d.fp
  within : ∀ c ∈ l, ∀ k ∈ c.fp, k ∈ S ∨ w0.heap.size ≤ k
def fps (l : List Chunk) : List Nat := l.flatMap (·.fp)
theorem mem_fps {l : List Chunk} {k : Nat} : k ∈ fps l ↔ ∃ c ∈ l, k ∈ c.fp := by simp [fps]
theorem sep_symm {c d : Chunk} (h : ∀ k ∈ c.fp, k ∉ d.fp) : ∀ k ∈ d.fp, k ∉ c.fp := fun k hk hc => h k hc hk
theorem St.perm {S : List Nat} {w0 w : World} {l l' r : List Chunk} (h : St S w0 w l r) (hp : l.Perm l') : St S w0 w l' r :=
  { h with
    own := fun c hc => h.own c (hp.mem_iff.2 hc)
    sep := (hp.pairwise_iff (fun {c d} => sep_symm)).1 h.sep
    sepr := fun c hc => h.sepr c (hp.mem_iff.2 hc)
    within := fun c hc => h.within c (hp.mem_iff.2 hc) }
theorem St.drop {S : List Nat} {w0 w : World} {l l' r : List Chunk} (h : St S w0 w (l ++ l') r) : St S w0 w l r :=
  { h with
    own := fun c hc => h.own c (List.mem_append_left _ hc)
    sep := (List.pairwise_append.1 h.sep).1
    sepr := fun c hc => h.sepr c (List.mem_append_left _ hc)
    within := fun c hc => h.within c (List.mem_append_left _ hc) }
inductive Pick (c : Chunk) : List Chunk → List Chunk → Prop
  | here {l : List Chunk} : Pick c (c :: l) l
  | there {d : Chunk} {l l' : List Chunk} : Pick c l l' → Pick c (d :: l) (d :: l')
theorem Pick.perm {c : Chunk} {l l' : List Chunk} (h : Pick c l l') : l.Perm (c :: l') := by
  induction h with
  | here => exact List.Perm.refl _
  | there _ ih => exact (List.Perm.cons _ ih).trans (List.Perm.swap _ _ _)
inductive Picks : List Chunk → List Chunk → List Chunk → Prop
  | nil {l : List Chunk} : Picks [] l l
  | cons {c : Chunk} {cs l l' l'' : List Chunk} : Pick c l l' → Picks cs l' l'' → Picks (c :: cs) l l''
theorem Picks.perm {cs l l' : List Chunk} (h : Picks cs l l') : l.Perm (cs ++ l') := by
  induction h with
  | nil => exact List.Perm.refl _
  | cons h _ ih => exact h.perm.trans (List.Perm.cons _ ih)
/-- A chunk of nothing, that always holds. -/
structure Triv (c : Chunk) : Prop where
  fp : c.fp = []
  holds : ∀ w, c.holds w
theorem St.triv {S : List Nat} {w0 w : World} {l r : List Chunk} {c : Chunk} (h : St S w0 w l r) (hc : Triv c) : St S w0 w (c :: l) r := by
  have hn : ∀ k, k ∉ c.fp := fun k hk => by rw [hc.fp] at hk; cases hk
  refine { h with own := ?_, sep := ?_, sepr := ?_, within := ?_ }
  · intro d hd
    rcases List.mem_cons.1 hd with rfl | hd
    · exact hc.holds w
    · exact h.own d hd
  · exact List.pairwise_cons.2 ⟨fun d _ k hk => absurd hk (hn k), h.sep⟩
  · intro d hd e he k hk
    rcases List.mem_cons.1 hd with rfl | hd
    · exact absurd hk (hn k)
    · exact h.sepr d hd e he k hk
  · intro d hd k hk
    rcases List.mem_cons.1 hd with rfl | hd
    · exact absurd hk (hn k)
    · exact h.within d hd k hk
theorem St.trivs {S : List Nat} {w0 w : World} {l r : List Chunk} (h : St S w0 w l r) : ∀ {ns : List Chunk}, (∀ c ∈ ns, Triv c) → St S w0 w (ns ++ l) r := by
  intro ns
  induction ns with
  | nil => intro _; exact h
  | cons c ns ih => intro hc; exact (ih fun d hd => hc d (List.mem_cons_of_mem _ hd)).triv (hc c List.mem_cons_self)
/-- A chunk that another one bears. -/
def Sub (c d : Chunk) : Prop := (∀ k ∈ c.fp, k ∈ d.fp) ∧ ∀ w, d.holds w → c.holds w
theorem Sub.refl (c : Chunk) : Sub c c := ⟨fun _ h => h, fun _ h => h⟩
/-- Several chunks as one. -/
def starC (cs : List Chunk) : Chunk where
  fp := fps cs
  holds w := (∀ c ∈ cs, c.holds w) ∧ cs.Pairwise (fun (c d : Chunk) => ∀ k ∈ c.fp, k ∉ d.fp)
  loc w w' h hw := ⟨fun c hc => c.loc w w' (fun k hk => h k (mem_fps.2 ⟨c, hc, hk⟩)) (hw.1 c hc), hw.2⟩
  lt w hw k hk := by obtain ⟨c, hc, hk⟩ := mem_fps.1 hk; exact c.lt w (hw.1 c hc) k hk
theorem St.starOpen {S : List Nat} {w0 w : World} {cs l r : List Chunk} (h : St S w0 w (starC cs :: l) r) : St S w0 w (cs ++ l) r := by
  have h1 := h.own _ List.mem_cons_self
  have hp := List.pairwise_cons.1 h.sep
  refine { h with own := ?_, sep := ?_, sepr := ?_, within := ?_ }
  · intro c hc
    rcases List.mem_append.1 hc with hc | hc
    · exact h1.1 c hc
    · exact h.own c (List.mem_cons_of_mem _ hc)
  · exact List.pairwise_append.2 ⟨h1.2, hp.2, fun c hc d hd k hk => hp.1 d hd k (mem_fps.2 ⟨c, hc, hk⟩)⟩
  · intro c hc d hd k hk
    rcases List.mem_append.1 hc with hc | hc
    · exact h.sepr _ List.mem_cons_self d hd k (mem_fps.2 ⟨c, hc, hk⟩)
    · exact h.sepr c (List.mem_cons_of_mem _ hc) d hd k hk
  · intro c hc k hk
    rcases List.mem_append.1 hc with hc | hc
    · exact h.within _ List.mem_cons_self k (mem_fps.2 ⟨c, hc, hk⟩)
    · exact h.within c (List.mem_cons_of_mem _ hc) k hk
theorem St.starClose {S : List Nat} {w0 w : World} {cs l r : List Chunk} (h : St S w0 w (cs ++ l) r) : St S w0 w (starC cs :: l) r := by
  have hp := List.pairwise_append.1 h.sep
  refine { h with own := ?_, sep := ?_, sepr := ?_, within := ?_ }
  · intro c hc
    rcases List.mem_cons.1 hc with rfl | hc
    · exact ⟨fun d hd => h.own d (List.mem_append_left _ hd), hp.1⟩
    · exact h.own c (List.mem_append_right _ hc)
  · refine List.pairwise_cons.2 ⟨fun d hd k hk => ?_, hp.2.1⟩
    obtain ⟨c, hc, hk⟩ := mem_fps.1 hk
    exact hp.2.2 c hc d hd k hk
  · intro c hc d hd k hk
    rcases List.mem_cons.1 hc with rfl | hc
    · obtain ⟨c, hc, hk⟩ := mem_fps.1 hk
      exact h.sepr c (List.mem_append_left _ hc) d hd k hk
    · exact h.sepr c (List.mem_append_right _ hc) d hd k hk
  · intro c hc k hk
    rcases List.mem_cons.1 hc with rfl | hc
    · obtain ⟨c, hc, hk⟩ := mem_fps.1 hk
      exact h.within c (List.mem_append_left _ hc) k hk
    · exact h.within c (List.mem_append_right _ hc) k hk
theorem St.shrink {S : List Nat} {w0 w : World} {c d : Chunk} {l r : List Chunk} (h : St S w0 w (d :: l) r) (hs : Sub c d) : St S w0 w (c :: l) r := by
  have hp := List.pairwise_cons.1 h.sep
  refine { h with own := ?_, sep := ?_, sepr := ?_, within := ?_ }
  · intro x hx
    rcases List.mem_cons.1 hx with rfl | hx
    · exact hs.2 w (h.own d List.mem_cons_self)
    · exact h.own x (List.mem_cons_of_mem _ hx)
  · exact List.pairwise_cons.2 ⟨fun x hx k hk => hp.1 x hx k (hs.1 k hk), hp.2⟩
  · intro x hx y hy k hk
    rcases List.mem_cons.1 hx with rfl | hx
    · exact h.sepr d List.mem_cons_self y hy k (hs.1 k hk)
    · exact h.sepr x (List.mem_cons_of_mem _ hx) y hy k hk
  · intro x hx k hk
    rcases List.mem_cons.1 hx with rfl | hx
    · exact h.within d List.mem_cons_self k (hs.1 k hk)
    · exact h.within x (List.mem_cons_of_mem _ hx) k hk
/-- What is wanted is picked; chunks of nothing may be added; several are taken as one; one is taken for what it bears. -/
inductive PicksT : List Chunk → List Chunk → List Chunk → Prop
  | nil {l : List Chunk} : PicksT [] l l
  | cons {c : Chunk} {cs l l' l'' : List Chunk} : Pick c l l' → PicksT cs l' l'' → PicksT (c :: cs) l l''
  | triv {c : Chunk} {cs l l' : List Chunk} : Triv c → PicksT cs l l' → PicksT (c :: cs) l l'
  | star {ds cs l l' l'' : List Chunk} : PicksT ds l l' → PicksT cs l' l'' → PicksT (starC ds :: cs) l l''
  | via {c d : Chunk} {cs l l' l'' : List Chunk} : PicksT [d] l l' → Sub c d → PicksT cs l' l'' → PicksT (c :: cs) l l''
  | cat {ds es cs l l1 l2 l3 : List Chunk} : Pick (starC ds) l l1 → PicksT es l1 l2 → PicksT cs l2 l3 → PicksT (starC (ds ++ es) :: cs) l l3
theorem St.picksP {S : List Nat} {w0 w : World} {r cs l l' : List Chunk} (hp : PicksT cs l l') : ∀ pre, St S w0 w (pre ++ l) r → St S w0 w (pre ++ cs ++ l') r := by
  induction hp with
  | nil => intro pre h; simpa using h
  | @cons c cs l l' l'' hc _ ih =>
    intro pre h
    have h1 : St S w0 w (pre ++ [c] ++ l') r := h.perm (by simpa using List.Perm.append_left pre hc.perm)
    simpa using ih (pre ++ [c]) h1
  | @triv c cs l l' ht _ ih =>
    intro pre h
    have h1 : St S w0 w (pre ++ [c] ++ l) r := (h.triv ht).perm (by simpa using (List.perm_middle (a := c) (l₁ := pre) (l₂ := l)).symm)
    simpa using ih (pre ++ [c]) h1
  | @star ds cs l l' l'' _ _ ih1 ih2 =>
    intro pre h
    have h1 := ih1 pre h
    have h2 : St S w0 w (ds ++ (pre ++ l')) r := h1.perm (by rw [← List.append_assoc]; exact List.Perm.append_right _ List.perm_append_comm)
    have h3 : St S w0 w (pre ++ [starC ds] ++ l') r := h2.starClose.perm (by simpa using (List.perm_middle (a := starC ds) (l₁ := pre) (l₂ := l')).symm)
    simpa using ih2 (pre ++ [starC ds]) h3
  | @via c d cs l l' l'' _ hs _ ih1 ih =>
    intro pre h
    have h0 : St S w0 w (pre ++ [d] ++ l') r := ih1 pre h
    have h1 : St S w0 w (d :: (pre ++ l')) r := h0.perm (by simp)
    have h2 : St S w0 w (pre ++ [c] ++ l') r := (h1.shrink hs).perm (by simpa using (List.perm_middle (a := c) (l₁ := pre) (l₂ := l')).symm)
    simpa using ih (pre ++ [c]) h2
  | @cat ds es cs l l1 l2 l3 hc _ _ ih1 ih2 =>
    intro pre h
    have h1 : St S w0 w (starC ds :: (pre ++ l1)) r := h.perm ((List.Perm.append_left pre hc.perm).trans List.perm_middle)
    have h2 : St S w0 w ((ds ++ pre) ++ l1) r := by simpa using h1.starOpen
    have h3 := ih1 (ds ++ pre) h2
    have h4 : St S w0 w ((ds ++ es) ++ (pre ++ l2)) r := h3.perm (by
      simp only [List.append_assoc]
      refine List.Perm.append_left ds ?_
      rw [← List.append_assoc, ← List.append_assoc]
      exact List.Perm.append_right _ List.perm_append_comm)
    have h5 : St S w0 w (pre ++ [starC (ds ++ es)] ++ l2) r := h4.starClose.perm (by simpa using (List.perm_middle (a := starC (ds ++ es)) (l₁ := pre) (l₂ := l2)).symm)
    simpa using ih2 (pre ++ [starC (ds ++ es)]) h5
theorem St.picksT {S : List Nat} {w0 w : World} {l cs l' r : List Chunk} (h : St S w0 w l r) (hp : PicksT cs l l') : St S w0 w (cs ++ l') r := by
  simpa using St.picksP hp [] (by simpa using h)
theorem PicksT.sub {c d : Chunk} {cs l l' l'' : List Chunk} (h : Pick d l l') (hs : Sub c d) (k : PicksT cs l' l'') : PicksT (c :: cs) l l'' := .via (.cons h .nil) hs k
theorem PicksT.eqc {c d : Chunk} {cs l l' l'' : List Chunk} (h : Pick d l l') (hs : c = d) (k : PicksT cs l' l'') : PicksT (c :: cs) l l'' := .cons (hs ▸ h) k
/-- What is wanted lies in the list; the rest is forgotten. -/
def ChLe (l l0 : List Chunk) : Prop := ∃ l1, PicksT l0 l l1
theorem St.le {S : List Nat} {w0 w : World} {l l0 r : List Chunk} (h : St S w0 w l r) (hl : ChLe l l0) : St S w0 w l0 r :=
  let ⟨_, hp⟩ := hl; (h.picksT hp).drop
/-- A chunk that may be read. -/
inductive Rd (c : Chunk) : List Chunk → Prop
  | here {d : Chunk} {l : List Chunk} : Sub c d → Rd c (d :: l)
  | there {d : Chunk} {l : List Chunk} : Rd c l → Rd c (d :: l)
  | triv {l : List Chunk} : Triv c → Rd c l
theorem Rd.get {c : Chunk} {l : List Chunk} (h : Rd c l) : (∃ d ∈ l, Sub c d) ∨ Triv c := by
  induction h with
  | here h => exact .inl ⟨_, List.mem_cons_self, h⟩
  | there _ ih =>
    rcases ih with ⟨d, hd, hs⟩ | h
    · exact .inl ⟨d, List.mem_cons_of_mem _ hd, hs⟩
    · exact .inr h
  | triv h => exact .inr h
inductive Rds : List Chunk → List Chunk → Prop
  | nil {l : List Chunk} : Rds [] l
  | cons {c : Chunk} {cs l : List Chunk} : Rd c l → Rds cs l → Rds (c :: cs) l
theorem Rds.get {cs l : List Chunk} (h : Rds cs l) : ∀ c ∈ cs, (∃ d ∈ l, Sub c d) ∨ Triv c := by
  induction h with
  | nil => intro c hc; cases hc
  | cons h _ ih =>
    intro c hc
    rcases List.mem_cons.1 hc with rfl | hc
    · exact h.get
    · exact ih c hc
theorem Rd.holds {c : Chunk} {l : List Chunk} (h : Rd c l) {w : World} (hl : ∀ d ∈ l, d.holds w) : c.holds w := by
  rcases h.get with ⟨d, hd, hs⟩ | h
  · exact hs.2 w (hl d hd)
  · exact h.holds w
theorem St.all {S : List Nat} {w0 w : World} {l r : List Chunk} (h : St S w0 w l r) : ∀ c ∈ l ++ r, c.holds w := by
  intro c hc
  rcases List.mem_append.1 hc with hc | hc
  · exact h.own c hc
  · exact h.ro c hc
theorem St.refl {w : World} {l r : List Chunk} (own : ∀ c ∈ l, c.holds w) (ro : ∀ c ∈ r, c.holds w) (sep : l.Pairwise (fun c d => ∀ k ∈ c.fp, k ∉ d.fp))
    (sepr : ∀ c ∈ l, ∀ d ∈ r, ∀ k ∈ c.fp, k ∉ d.fp) : St (fps l) w w l r :=
  ⟨rfl, rfl, rfl, Nat.le_refl _, fun _ _ _ => rfl, own, ro, sep, sepr, fun c hc k hk => .inl (mem_fps.2 ⟨c, hc, hk⟩)⟩

/-- A part of the memory is handed on, and comes back turned. -/
theorem St.part {S : List Nat} {w0 w w' : World} {l0 l0' l1 r r0 : List Chunk} (h : St S w0 w (l0 ++ l1) r) (k : St (fps l0) w w' l0' r0) : St S w0 w' (l0' ++ l1) r := by
  have hsep := List.pairwise_append.1 h.sep
  have keep : ∀ c : Chunk, c.holds w → (∀ k ∈ c.fp, k ∉ fps l0) → c.holds w' := fun c hc hn =>
    c.loc w w' (fun j hj => k.frame j (c.lt w hc j hj) (hn j hj)) hc
  have out1 : ∀ c ∈ l1, ∀ j ∈ c.fp, j ∉ fps l0 := fun c hc j hj hf => by
    obtain ⟨d, hd, hjd⟩ := mem_fps.1 hf
    exact hsep.2.2 d hd c hc j hjd hj
  have outr : ∀ c ∈ r, ∀ j ∈ c.fp, j ∉ fps l0 := fun c hc j hj hf => by
    obtain ⟨d, hd, hjd⟩ := mem_fps.1 hf
    exact h.sepr d (List.mem_append_left _ hd) c hc j hjd hj
  have fresh : ∀ c ∈ l0', ∀ j ∈ c.fp, ∀ d : Chunk, d.holds w → (∀ k ∈ d.fp, k ∉ fps l0) → j ∉ d.fp := fun c hc j hj d hd hn hjd => by
    rcases k.within c hc j hj with hf | hf
    · exact hn j hjd hf
    · have := d.lt w hd j hjd; omega
  refine ⟨k.os.trans h.os, k.tape.trans h.tape, k.output.trans h.output, Nat.le_trans h.size k.size, ?_, ?_, ?_, ?_, ?_, ?_⟩
  · intro j hj hS
    rw [k.frame j (Nat.lt_of_lt_of_le hj h.size) (fun hf => ?_), h.frame j hj hS]
    obtain ⟨d, hd, hjd⟩ := mem_fps.1 hf
    rcases h.within d (List.mem_append_left _ hd) j hjd with h1 | h1
    · exact hS h1
    · omega
  · intro c hc
    rcases List.mem_append.1 hc with hc | hc
    · exact k.own c hc
    · exact keep c (h.own c (List.mem_append_right _ hc)) (out1 c hc)
  · intro c hc
    exact keep c (h.ro c hc) (outr c hc)
  · refine List.pairwise_append.2 ⟨k.sep, hsep.2.1, fun c hc d hd j hj => ?_⟩
    exact fresh c hc j hj d (h.own d (List.mem_append_right _ hd)) (out1 d hd)
  · intro c hc d hd j hj
    rcases List.mem_append.1 hc with hc | hc
    · exact fresh c hc j hj d (h.ro d hd) (outr d hd)
    · exact h.sepr c (List.mem_append_right _ hc) d hd j hj
  · intro c hc j hj
    rcases List.mem_append.1 hc with hc | hc
    · rcases k.within c hc j hj with hf | hf
      · obtain ⟨d, hd, hjd⟩ := mem_fps.1 hf
        exact h.within d (List.mem_append_left _ hd) j hjd
      · exact .inr (Nat.le_trans h.size hf)
    · exact h.within c (List.mem_append_right _ hc) j hj
/-- The part that is handed on is known by itself. -/
theorem St.handed {S : List Nat} {w0 w : World} {l0 l1 r r0 : List Chunk} (h : St S w0 w (l0 ++ l1) r) (hr : Rds r0 (l1 ++ r)) : St (fps l0) w w l0 r0 := by
  have hsep := List.pairwise_append.1 h.sep
  refine St.refl (fun c hc => h.own c (List.mem_append_left _ hc)) (fun c hc => ?_) hsep.1 (fun c hc d hd j hj hjd => ?_)
  · rcases hr.get c hc with ⟨d, hd, hs⟩ | ht
    · refine hs.2 w ?_
      rcases List.mem_append.1 hd with hd | hd
      · exact h.own d (List.mem_append_right _ hd)
      · exact h.ro d hd
    · exact ht.holds w
  · rcases hr.get d hd with ⟨d', hd', hs⟩ | ht
    · have := hs.1 j hjd
      rcases List.mem_append.1 hd' with hd' | hd'
      · exact hsep.2.2 c hc d' hd' j hj this
      · exact h.sepr c (List.mem_append_left _ hc) d' hd' j hj this
    · rw [ht.fp] at hjd; cases hjd
/-- Some chunks are lent to those that are only read. -/
theorem St.lend {S : List Nat} {w0 w : World} {ls lx r : List Chunk} (h : St S w0 w (ls ++ lx) r) : St S w0 w lx (ls ++ r) := by
  have hsep := List.pairwise_append.1 h.sep
  refine { h with own := ?_, ro := ?_, sep := hsep.2.1, sepr := ?_, within := ?_ }
  · exact fun c hc => h.own c (List.mem_append_right _ hc)
  · intro c hc
    rcases List.mem_append.1 hc with hc | hc
    · exact h.own c (List.mem_append_left _ hc)
    · exact h.ro c hc
  · intro c hc d hd j hj
    rcases List.mem_append.1 hd with hd | hd
    · exact sep_symm (hsep.2.2 d hd c hc) j hj
    · exact h.sepr c (List.mem_append_right _ hc) d hd j hj
  · exact fun c hc => h.within c (List.mem_append_right _ hc)
theorem St.back {S : List Nat} {w0 w w' : World} {ls lx lx' r : List Chunk} (h : St S w0 w (ls ++ lx) r) (k : St S w0 w' lx' (ls ++ r)) : St S w0 w' (ls ++ lx') r := by
  have hsep := List.pairwise_append.1 h.sep
  refine { k with own := ?_, ro := ?_, sep := ?_, sepr := ?_, within := ?_ }
  · intro c hc
    rcases List.mem_append.1 hc with hc | hc
    · exact k.ro c (List.mem_append_left _ hc)
    · exact k.own c hc
  · exact fun c hc => k.ro c (List.mem_append_right _ hc)
  · exact List.pairwise_append.2 ⟨hsep.1, k.sep, fun c hc d hd => sep_symm (k.sepr d hd c (List.mem_append_left _ hc))⟩
  · intro c hc d hd j hj
    rcases List.mem_append.1 hc with hc | hc
    · exact h.sepr c (List.mem_append_left _ hc) d hd j hj
    · exact k.sepr c hc d (List.mem_append_right _ hd) j hj
  · intro c hc j hj
    rcases List.mem_append.1 hc with hc | hc
    · exact h.within c (List.mem_append_left _ hc) j hj
    · exact k.within c hc j hj
theorem St.drew {S : List Nat} {w0 w : World} {l r : List Chunk} (h : St S w0 w l r) : St S w0 { w with drawn := w.drawn + 1 } l r :=
  ⟨h.os, h.tape, h.output, h.size, h.frame, fun c hc => c.loc w _ (fun _ _ => rfl) (h.own c hc), fun c hc => c.loc w _ (fun _ _ => rfl) (h.ro c hc), h.sep, h.sepr, h.within⟩

/-! ### Walks in whatever frame: a function's, or a round's of a range over a function; what is deferred stays as it is -/
def Fz (ρ : Option Nat) : Fence := { fn := fun _ => True, depth := none, alive := false, round := ρ }
theorem fz_room (ρ : Option Nat) (n : Nat) : (Fz ρ).room n := fun _ h => by simp [Fz] at h
def DQ (ds : List Deferred) (Q : Exit → Act → World → Prop) : Exit → Act → World → Prop := fun x a w => a.defers = ds ∧ Q x a w
def OWp (P : Program) (o : Oper) (a : Act) (w : World) (K : Act → World → Prop) (Q : Exit → Act → World → Prop) : Prop :=
  ∀ ρ, o.wpIn (Fz ρ) 0 P a w (fun a' w' => a'.defers = a.defers ∧ K a' w') Q
def LWp (P : Program) (ops : Array Oper) (Q : Exit → Act → World → Prop) (rest : List Oper) (a : Act) (w : World) : Prop :=
  ∀ ρ, wpListIn (Fz ρ) 0 P ops (DQ a.defers Q) rest a w
def CWp (P : Program) (c : Code) (Q : Exit → Act → World → Prop) (a : Act) (w : World) : Prop := ∀ ρ, c.wpIn (Fz ρ) 0 P (DQ a.defers Q) a w
theorem put_ds (a : Act) (d : Option Tmp) (v : Value) : (a.put d v).defers = a.defers := by cases d <;> rfl
theorem calls_fz {P : Program} {f : FuncId} {args : Array Value} {w : World} {R : Ending → World → Prop} (ρ : Option Nat) (n : Nat) (h : Calls P f args w R) : CallsIn (Fz ρ) n P f args w R := by
  have h1 : CallsIn Fence.wide n P f args w R := callsIn_wide.2 h
  cases ρ with
  | none => exact h1
  | some l => exact h1
theorem rows_fz {P : Program} {row : String} {args : Array Value} {w : World} {R : Value → World → Prop} (ρ : Option Nat) (n : Nat) (h : Rows P row args w R) : RowsIn (Fz ρ) n P row args w R := by
  have h1 : RowsIn Fence.wide n P row args w R := fun c cs _ => let ⟨v, w', r, s⟩ := h c cs; ⟨v, w', r, stepsIn_wide.2 s⟩
  cases ρ with
  | none => exact h1
  | some l => exact h1
theorem upon_fz {P : Program} {o : Oper} {a : Act} {K : Act → World → Prop} {Q : Exit → Act → World → Prop} {x : Result Next} (ρ : Option Nat) (h : o.upon P a K Q x) : o.uponIn (Fz ρ) 0 P a K Q x := by
  cases x with
  | halt x w => cases x <;> simp only [Oper.upon, Oper.uponIn] at h ⊢ <;> exact h
  | ok x w =>
    cases x <;> simp only [Oper.upon, Oper.uponIn] at h ⊢
    case value => exact h
    case skip => exact h
    case defer => exact h
    case enter f args => exact ⟨fun hd => by simp [Fz] at hd, calls_fz ρ _ h⟩
    case row row args => exact ⟨fun hd => by simp [Fz] at hd, rows_fz ρ _ h⟩
theorem owp_fz {P : Program} {o : Oper} {a : Act} {w : World} {K : Act → World → Prop} {Q : Exit → Act → World → Prop} (ρ : Option Nat) (nd : ∀ c, o.op ≠ .defer c) (h : o.wp P a w K Q) : o.wpIn (Fz ρ) 0 P a w K Q := by
  refine ⟨fun _ _ => trivial, ?_⟩
  rw [Oper.semAt_eq _ _ _ nd]
  exact upon_fz ρ h
section
variable {P : Program} {ops : Array Oper} {Q : Exit → Act → World → Prop} {a : Act} {w : World} {rest : List Oper} {o : Oper}
theorem LWp.nil (h : Q .normal a w) : LWp P ops Q [] a w := fun _ => ⟨rfl, h⟩
theorem LWp.on (hw : Region.wanted o (yielded ops a.tmps) = true) (h : OWp P o a w (fun a' w' => LWp P ops Q rest a' w') (DQ a.defers Q)) : LWp P ops Q (o :: rest) a w := by
  intro ρ
  unfold wpListIn
  rw [hw, if_pos rfl]
  exact Oper.wpIn_mono (fun a' w' hh => by have := hh.2 ρ; rw [hh.1] at this; exact this) (h ρ)
theorem LWp.off (hw : Region.wanted o (yielded ops a.tmps) = false) (h : LWp P ops Q rest (a.put o.dst undef) w) : LWp P ops Q (o :: rest) a w := by
  intro ρ
  unfold wpListIn
  rw [hw, if_neg (by simp)]
  have := h ρ
  rw [put_ds] at this
  exact ⟨fun _ _ => trivial, this⟩
theorem LWp.guarded {d : Option Tmp} {op : Op} {T : TypeId} {pos : String} {af : Array Edge} {g g' : Option (Nat × Bool)} (hw : Region.wanted ⟨d, op, T, pos, af, g⟩ (yielded ops a.tmps) = true)
    (hw' : Region.wanted ⟨d, op, T, pos, af, g'⟩ (yielded ops a.tmps) = true) (h : LWp P ops Q (⟨d, op, T, pos, af, g⟩ :: rest) a w) : LWp P ops Q (⟨d, op, T, pos, af, g'⟩ :: rest) a w := by
  intro ρ
  have h1 := h ρ
  unfold wpListIn at h1 ⊢
  rw [hw, if_pos rfl] at h1
  rw [hw', if_pos rfl]
  exact h1
theorem OWp.value {v : Value} {w' : World} {K : Act → World → Prop} (nd : ∀ c, o.op ≠ .defer c) (h : (execOp a.eval o).run P w = .ok (.value v) w') (hk : K (a.put o.dst v) w') : OWp P o a w K Q := by
  intro ρ
  refine owp_fz ρ nd ?_
  unfold Oper.wp
  rw [h]
  exact ⟨put_ds _ _ _, hk⟩
theorem CWp.mono {c : Code} {Q' : Exit → Act → World → Prop} (h : CWp P c Q a w) (hq : ∀ e a w, Q e a w → Q' e a w) : CWp P c Q' a w := fun ρ => wpIn_mono (h ρ) fun e a' w' hh => ⟨hh.1, hq e a' w' hh.2⟩
theorem CWp.seq {x y : Code} (h : CWp P x (Exit.then (fun a w => CWp P y Q a w) Q) a w) : CWp P (x.seq y) Q a w := fun ρ => by
  refine wpIn_seq (wpIn_mono (h ρ) fun e a' w' hh => ?_)
  cases e with
  | normal => obtain ⟨h1, h2⟩ := hh; have := h2 ρ; rw [h1] at this; exact this
  | _ => exact hh
theorem CWp.region {id : Nat} {l : List Oper} (h : LWp P l.toArray Q l a w) : CWp P (.region id l.toArray false) Q a w := fun ρ => wpIn_region_lit (h ρ)
theorem CWp.skip (h : Q .normal a w) : CWp P .skip Q a w := fun _ => wpIn_skip ⟨rfl, h⟩
theorem CWp.label {i : Nat} (h : Q .normal a w) : CWp P (.label i) Q a w := fun _ => wpIn_label ⟨rfl, h⟩
theorem CWp.exit {i : Nat} (h : Q (.exit i) a w) : CWp P (.exit i) Q a w := fun _ => wpIn_exit ⟨rfl, h⟩
theorem CWp.goto {i : Nat} (h : Q (.goto i) a w) : CWp P (.goto i) Q a w := fun _ => wpIn_goto ⟨rfl, h⟩
theorem CWp.ret (h : Q .ret a w) : CWp P .ret Q a w := fun _ => wpIn_ret ⟨rfl, h⟩
theorem CWp.cond {c : Operand} {x y : Code} {t : Bool} (hc : a.eval c = .bool t) (ht : t = true → CWp P x Q a w) (hf : t = false → CWp P y Q a w) : CWp P (.cond c x y) Q a w :=
  fun ρ => wpIn_cond_split hc (fun h => ht h ρ) (fun h => hf h ρ)
theorem CWp.block {i : Nat} {c : Code} (h : CWp P c (Exit.inBlock i Q) a w) : CWp P (.block i c) Q a w := fun ρ => by
  refine wpIn_block (wpIn_mono (h ρ) fun e a' w' hh => ?_)
  cases e with
  | exit j =>
    obtain ⟨h1, h2⟩ := hh
    simp only [Exit.inBlock] at h2 ⊢
    split at h2
    · rename_i hj; rw [if_pos hj]; exact ⟨h1, h2⟩
    · rename_i hj; rw [if_neg hj]; exact ⟨h1, h2⟩
  | _ => exact hh
end

/-! ### Posts over symbolic states -/
abbrev QS := Exit → Env → List Chunk → Prop
def den (n : Nat) (S : List Nat) (w0 : World) (r : List Chunk) (K : QS) : Exit → Act → World → Prop
  | .panic _, _, _ => False
  | .outgrown, _, _ => False
  | x, a, w => ∃ e l, K x e l ∧ EnvOK n a e ∧ St S w0 w l r
def thenK (M : Env → List Chunk → Prop) (K : QS) : QS
  | .normal, e, l => M e l
  | x, e, l => K x e l
def blockK (id : Nat) (K : QS) : QS
  | .exit i, e, l => match Nat.beq i id with
    | true => K .normal e l
    | false => K (.exit i) e l
  | x, e, l => K x e l

section
variable {P : Program} {n : Nat} {S : List Nat} {w0 : World} {r : List Chunk}
structure WC (P : Program) (n : Nat) (S : List Nat) (w0 : World) (r : List Chunk) (c : Code) (K : QS) (e : Env) (l : List Chunk) : Prop where
  out : ∀ a w, EnvOK n a e → St S w0 w l r → CWp P c (den n S w0 r K) a w
structure W (P : Program) (n : Nat) (S : List Nat) (w0 : World) (r : List Chunk) (ops : Array Oper) (K : QS) (rest : List Oper) (e : Env) (l : List Chunk) : Prop where
  out : ∀ a w, EnvOK n a e → St S w0 w l r → LWp P ops (den n S w0 r K) rest a w
/-- A yield without any change of the memory. -/
structure Ev (P : Program) (e : Env) (cs : List Chunk) (o : Oper) (v : Value) : Prop where mk' ::
  nd : ∀ c, o.op ≠ .defer c
  out : ∀ n a w, EnvOK n a e → (∀ c ∈ cs, c.holds w) → (execOp a.eval o).run P w = .ok (.value v) w
/-- A step that may turn the memory. -/
structure Stp (P : Program) (S : List Nat) (w0 : World) (r : List Chunk) (o : Oper) (e : Env) (l : List Chunk) (post : Value → List Chunk → Prop) : Prop where
  nd : ∀ c, o.op ≠ .defer c
  out : ∀ (n : Nat) (a : Act) (w : World) (K : Act → World → Prop) (Q : Exit → Act → World → Prop), EnvOK n a e → St S w0 w l r →
    (∀ v l' w', post v l' → St S w0 w' l' r → K (a.put o.dst v) w') → o.wp P a w K Q
theorem Stp.of {o : Oper} {e : Env} {l : List Chunk} {post : Value → List Chunk → Prop} (nd : ∀ c, o.op ≠ .defer c)
    (h : ∀ (n : Nat) (a : Act) (w : World) (K : Act → World → Prop) (Q : Exit → Act → World → Prop), EnvOK n a e → St S w0 w l r →
      (∀ v l' w', post v l' → St S w0 w' l' r → K (a.put o.dst v) w') → o.wp P a w K Q) : Stp P S w0 r o e l post := ⟨nd, h⟩
/-- A step that the fenced walk alone knows: a call of yield. -/
structure StpY (P : Program) (S : List Nat) (w0 : World) (r : List Chunk) (o : Oper) (e : Env) (l : List Chunk) (post : Value → List Chunk → Prop) : Prop where
  out : ∀ (n : Nat) (a : Act) (w : World) (K : Act → World → Prop) (Q : Exit → Act → World → Prop), EnvOK n a e → St S w0 w l r →
    (∀ v l' w', post v l' → St S w0 w' l' r → K (a.put o.dst v) w') → OWp P o a w K Q
theorem Stp.y {o : Oper} {e : Env} {l : List Chunk} {post : Value → List Chunk → Prop} (h : Stp P S w0 r o e l post) : StpY P S w0 r o e l post :=
  ⟨fun n a w K Q he hs hk ρ => owp_fz ρ h.nd (h.out n a w _ Q he hs fun v l' w' hp hs' => ⟨put_ds _ _ _, hk v l' w' hp hs'⟩)⟩

def dstOf (ops : Array Oper) (j : Nat) : Option Tmp := (ops[j]?).bind (·.dst)
def gd (e : Env) (ops : Array Oper) : Option (Nat × Bool) → Option Bool
  | none => some true
  | some (j, want) => match dstOf ops j with
    | some t => match look e t with
      | some (.bool b) => match b, want with
        | true, true => some true
        | false, false => some true
        | true, false => some false
        | false, true => some false
      | some (.tuple _) => some false
      | _ => none
    | none => none
theorem wanted_of_gd {ops : Array Oper} {o : Oper} {a : Act} {e : Env} {b : Bool} (he : EnvOK n a e) (hg : gd e ops o.guard = some b) : Region.wanted o (yielded ops a.tmps) = b := by
  unfold Region.wanted
  cases hgo : o.guard with
  | none => rw [hgo] at hg; simpa [gd] using hg
  | some jw =>
    obtain ⟨j, want⟩ := jw
    rw [hgo] at hg
    simp only [gd] at hg
    split at hg
    · rename_i t ht
      split at hg
      · rename_i b' hl
        have h1 := he.at_ t _ hl
        have h2 : yielded ops a.tmps j = some b' := by
          unfold yielded
          unfold dstOf at ht
          rw [ht]
          simp [h1]
        simp only [h2]
        cases b' <;> cases want <;> simp_all
      · rename_i b' hl
        have h1 := he.at_ t _ hl
        have h2 : yielded ops a.tmps j = none := by
          unfold yielded
          unfold dstOf at ht
          rw [ht]
          simp [h1]
        simp only [h2]
        simpa using hg
      · cases hg
    · cases hg

theorem W.nil {ops : Array Oper} {K : QS} {e : Env} {l : List Chunk} (h : K .normal e l) : W P n S w0 r ops K [] e l :=
  ⟨fun a w he hs => LWp.nil ⟨e, l, h, he, hs⟩⟩
theorem W.next {ops : Array Oper} {M : Env → List Chunk → Prop} {K : QS} {e : Env} {l : List Chunk} (h : M e l) : W P n S w0 r ops (thenK M K) [] e l :=
  ⟨fun a w he hs => LWp.nil ⟨e, l, h, he, hs⟩⟩
theorem W.ev {ops : Array Oper} {K : QS} {e : Env} {l : List Chunk} {o : Oper} {rest : List Oper} {d : Tmp} {v : Value} (hy : Ev P e (l ++ r) o v)
    (hg : gd e ops o.guard = some true) (ho : o.dst = some d) (hd : Nat.blt d n = true) (h : W P n S w0 r ops K rest ((d, v) :: e) l) :
    W P n S w0 r ops K (o :: rest) e l := by
  refine ⟨fun a w he hs => ?_⟩
  refine LWp.on (wanted_of_gd he hg) (OWp.value hy.nd (hy.out n a w he hs.all) ?_)
  rw [ho]
  exact h.out _ w (he.put hd v) hs
theorem W.stpY {ops : Array Oper} {K : QS} {e : Env} {l : List Chunk} {o : Oper} {rest : List Oper} {d : Tmp} {post : Value → List Chunk → Prop} (hy : StpY P S w0 r o e l post)
    (hg : gd e ops o.guard = some true) (ho : o.dst = some d) (hd : Nat.blt d n = true) (h : ∀ v l', post v l' → W P n S w0 r ops K rest ((d, v) :: e) l') :
    W P n S w0 r ops K (o :: rest) e l := by
  refine ⟨fun a w he hs => ?_⟩
  refine LWp.on (wanted_of_gd he hg) (hy.out n a w _ _ he hs fun v l' w' hp hs' => ?_)
  rw [ho]
  exact (h v l' hp).out _ w' (he.put hd v) hs'
theorem W.stp {ops : Array Oper} {K : QS} {e : Env} {l : List Chunk} {o : Oper} {rest : List Oper} {d : Tmp} {post : Value → List Chunk → Prop} (hy : Stp P S w0 r o e l post)
    (hg : gd e ops o.guard = some true) (ho : o.dst = some d) (hd : Nat.blt d n = true) (h : ∀ v l', post v l' → W P n S w0 r ops K rest ((d, v) :: e) l') :
    W P n S w0 r ops K (o :: rest) e l := W.stpY hy.y hg ho hd h
theorem W.stp0 {ops : Array Oper} {K : QS} {e : Env} {l : List Chunk} {o : Oper} {rest : List Oper} {post : Value → List Chunk → Prop} (hy : Stp P S w0 r o e l post)
    (hg : gd e ops o.guard = some true) (ho : o.dst = none) (h : ∀ v l', post v l' → W P n S w0 r ops K rest e l') :
    W P n S w0 r ops K (o :: rest) e l := by
  refine ⟨fun a w he hs => ?_⟩
  refine LWp.on (wanted_of_gd he hg) (hy.y.out n a w _ _ he hs fun v l' w' hp hs' => ?_)
  rw [ho]
  exact (h v l' hp).out _ w' he hs'
theorem W.off {ops : Array Oper} {K : QS} {e : Env} {l : List Chunk} {o : Oper} {rest : List Oper} {d : Tmp}
    (hg : gd e ops o.guard = some false) (ho : o.dst = some d) (hd : Nat.blt d n = true) (h : W P n S w0 r ops K rest ((d, undef) :: e) l) :
    W P n S w0 r ops K (o :: rest) e l := by
  refine ⟨fun a w he hs => ?_⟩
  refine LWp.off (wanted_of_gd he hg) ?_
  rw [ho]
  exact h.out _ w (he.put hd undef) hs
theorem W.off0 {ops : Array Oper} {K : QS} {e : Env} {l : List Chunk} {o : Oper} {rest : List Oper}
    (hg : gd e ops o.guard = some false) (ho : o.dst = none) (h : W P n S w0 r ops K rest e l) :
    W P n S w0 r ops K (o :: rest) e l := by
  refine ⟨fun a w he hs => ?_⟩
  refine LWp.off (wanted_of_gd he hg) ?_
  rw [ho]
  exact h.out _ w he hs
/-- A slot holds what is equal to it. -/
theorem EnvOK.shadow {a : Act} {e : Env} {t : Nat} {v : Value} (he : EnvOK n a e) (hv : look e t = some v) : EnvOK n a ((t, v) :: e) := by
  refine ⟨he.size, fun u x hx => ?_⟩
  simp only [look] at hx
  split at hx
  · rename_i ht
    have : t = u := Nat.eq_of_beq_eq_true ht
    subst this
    injection hx with hx
    subst hx
    exact he.at_ _ _ hv
  · exact he.at_ _ _ hx
/-- The guard's test is decided. -/
theorem W.gknown {ops : Array Oper} {K : QS} {e : Env} {l : List Chunk} {o : Oper} {rest : List Oper} {j : Nat} {want c : Bool} {t : Tmp} (b : Bool)
    (ho : o.guard = some (j, want)) (ht : dstOf ops j = some t) (hv : look e t = some (.bool c)) (hc : c = b)
    (h : W P n S w0 r ops K (o :: rest) ((t, .bool b) :: e) l) : W P n S w0 r ops K (o :: rest) e l := by
  subst hc
  exact ⟨fun a w he hs => h.out a w (he.shadow hv) hs⟩
theorem W.gsplit {ops : Array Oper} {K : QS} {e : Env} {l : List Chunk} {o : Oper} {rest : List Oper} {j : Nat} {want c : Bool} {t : Tmp}
    (ho : o.guard = some (j, want)) (ht : dstOf ops j = some t) (hv : look e t = some (.bool c))
    (h1 : c = true → W P n S w0 r ops K (o :: rest) ((t, .bool true) :: e) l) (h0 : c = false → W P n S w0 r ops K (o :: rest) ((t, .bool false) :: e) l) :
    W P n S w0 r ops K (o :: rest) e l := by
  cases hc : c
  · exact W.gknown false ho ht hv hc (h0 hc)
  · exact W.gknown true ho ht hv hc (h1 hc)
/-- A guarded operation: its test is decided, and it is carried out; or passed over. -/
theorem W.gon {ops : Array Oper} {K : QS} {e : Env} {l : List Chunk} {d : Option Tmp} {op : Op} {T : TypeId} {pos : String} {af : Array Edge} {rest : List Oper} {j : Nat} {want c : Bool} {t : Tmp}
    (ht : dstOf ops j = some t) (hv : look e t = some (.bool c)) (hc : c = want)
    (h : W P n S w0 r ops K (⟨d, op, T, pos, af, none⟩ :: rest) ((t, .bool want) :: e) l) : W P n S w0 r ops K (⟨d, op, T, pos, af, some (j, want)⟩ :: rest) e l := by
  subst hc
  refine ⟨fun a w he hs => ?_⟩
  have hg : gd ((t, .bool c) :: e) ops (some (j, c)) = some true := by
    have hb : Nat.beq t t = true := Nat.beq_refl t
    simp only [gd, ht, look, hb]
    cases c <;> rfl
  have h1 := h.out a w (he.shadow hv) hs
  exact LWp.guarded (wanted_of_gd (o := ⟨d, op, T, pos, af, none⟩) (he.shadow hv) (b := true) rfl) (wanted_of_gd (o := ⟨d, op, T, pos, af, some (j, c)⟩) (he.shadow hv) hg) h1
theorem W.goff {ops : Array Oper} {K : QS} {e : Env} {l : List Chunk} {d : Tmp} {op : Op} {T : TypeId} {pos : String} {af : Array Edge} {rest : List Oper} {j : Nat} {want c : Bool} {t : Tmp}
    (ht : dstOf ops j = some t) (hv : look e t = some (.bool c)) (hc : c = !want) (hd : Nat.blt d n = true)
    (h : W P n S w0 r ops K rest ((d, undef) :: (t, .bool (!want)) :: e) l) : W P n S w0 r ops K (⟨some d, op, T, pos, af, some (j, want)⟩ :: rest) e l := by
  subst hc
  refine ⟨fun a w he hs => ?_⟩
  have hg : gd ((t, .bool (!want)) :: e) ops (some (j, want)) = some false := by
    have hb : Nat.beq t t = true := Nat.beq_refl t
    simp only [gd, ht, look, hb]
    cases want <;> rfl
  exact (W.off (o := ⟨some d, op, T, pos, af, some (j, want)⟩) hg rfl hd h).out a w (he.shadow hv) hs
/-- The test itself was passed over. -/
theorem W.goffu {ops : Array Oper} {K : QS} {e : Env} {l : List Chunk} {d : Tmp} {op : Op} {T : TypeId} {pos : String} {af : Array Edge} {rest : List Oper} {j : Nat} {want : Bool} {t : Tmp} {us : Array Value}
    (ht : dstOf ops j = some t) (hv : look e t = some (.tuple us)) (hd : Nat.blt d n = true)
    (h : W P n S w0 r ops K rest ((d, undef) :: e) l) : W P n S w0 r ops K (⟨some d, op, T, pos, af, some (j, want)⟩ :: rest) e l :=
  W.off (o := ⟨some d, op, T, pos, af, some (j, want)⟩) (by simp only [gd, ht, hv]) rfl hd h
theorem W.goffu0 {ops : Array Oper} {K : QS} {e : Env} {l : List Chunk} {op : Op} {T : TypeId} {pos : String} {af : Array Edge} {rest : List Oper} {j : Nat} {want : Bool} {t : Tmp} {us : Array Value}
    (ht : dstOf ops j = some t) (hv : look e t = some (.tuple us))
    (h : W P n S w0 r ops K rest e l) : W P n S w0 r ops K (⟨none, op, T, pos, af, some (j, want)⟩ :: rest) e l :=
  W.off0 (o := ⟨none, op, T, pos, af, some (j, want)⟩) (by simp only [gd, ht, hv]) rfl h
theorem W.goff0 {ops : Array Oper} {K : QS} {e : Env} {l : List Chunk} {op : Op} {T : TypeId} {pos : String} {af : Array Edge} {rest : List Oper} {j : Nat} {want c : Bool} {t : Tmp}
    (ht : dstOf ops j = some t) (hv : look e t = some (.bool c)) (hc : c = !want)
    (h : W P n S w0 r ops K rest ((t, .bool (!want)) :: e) l) : W P n S w0 r ops K (⟨none, op, T, pos, af, some (j, want)⟩ :: rest) e l := by
  subst hc
  refine ⟨fun a w he hs => ?_⟩
  have hg : gd ((t, .bool (!want)) :: e) ops (some (j, want)) = some false := by
    have hb : Nat.beq t t = true := Nat.beq_refl t
    simp only [gd, ht, look, hb]
    cases want <;> rfl
  exact (W.off0 (o := ⟨none, op, T, pos, af, some (j, want)⟩) hg rfl h).out a w (he.shadow hv) hs
theorem W.gpart {ops : Array Oper} {K : QS} {e : Env} {l : List Chunk} {d : Tmp} {op : Op} {T : TypeId} {pos : String} {af : Array Edge} {rest : List Oper} {j : Nat} {want c : Bool} {t : Tmp}
    (ht : dstOf ops j = some t) (hv : look e t = some (.bool c)) (hd : Nat.blt d n = true)
    (h1 : c = want → W P n S w0 r ops K (⟨some d, op, T, pos, af, none⟩ :: rest) ((t, .bool want) :: e) l)
    (h0 : c = !want → W P n S w0 r ops K rest ((d, undef) :: (t, .bool (!want)) :: e) l) : W P n S w0 r ops K (⟨some d, op, T, pos, af, some (j, want)⟩ :: rest) e l := by
  by_cases hc : c = want
  · exact W.gon ht hv hc (h1 hc)
  · have hc' : c = !want := by cases c <;> cases want <;> simp_all
    exact W.goff ht hv hc' hd (h0 hc')
/-- The same state, told otherwise. -/
theorem W.conv {ops : Array Oper} {K : QS} {e e' : Env} {l l' : List Chunk} {rest : List Oper} (he : EnvLe e e') (hl : ChLe l l') (h : W P n S w0 r ops K rest e' l') :
    W P n S w0 r ops K rest e l := ⟨fun a w ho hs => h.out a w (ho.le he) (hs.le hl)⟩

/-! ### Code -/
theorem WC.conv {c : Code} {K : QS} {e e' : Env} {l l' : List Chunk} (he : EnvLe e e') (hl : ChLe l l') (h : WC P n S w0 r c K e' l') : WC P n S w0 r c K e l :=
  ⟨fun a w ho hs => h.out a w (ho.le he) (hs.le hl)⟩
theorem WC.seq {x y : Code} {K : QS} {e : Env} {l : List Chunk} (h : WC P n S w0 r x (thenK (fun e l => WC P n S w0 r y K e l) K) e l) : WC P n S w0 r (x.seq y) K e l := by
  refine ⟨fun a w he hs => ?_⟩
  refine CWp.seq (CWp.mono (h.out a w he hs) fun x a' w' hq => ?_)
  cases x with
  | normal => obtain ⟨e', l', hk, he', hs'⟩ := hq; exact hk.out a' w' he' hs'
  | panic c => exact hq.elim
  | outgrown => exact hq.elim
  | exit i => exact hq
  | goto i => exact hq
  | ret => exact hq
theorem WC.region {id : Nat} {ops : List Oper} {K : QS} {e : Env} {l : List Chunk} (h : W P n S w0 r ops.toArray K ops e l) : WC P n S w0 r (.region id ops.toArray false) K e l :=
  ⟨fun a w he hs => CWp.region (h.out a w he hs)⟩
theorem WC.skip {K : QS} {e : Env} {l : List Chunk} (h : K .normal e l) : WC P n S w0 r .skip K e l := ⟨fun a w he hs => CWp.skip ⟨e, l, h, he, hs⟩⟩
theorem WC.label {i : Nat} {K : QS} {e : Env} {l : List Chunk} (h : K .normal e l) : WC P n S w0 r (.label i) K e l := ⟨fun a w he hs => CWp.label ⟨e, l, h, he, hs⟩⟩
theorem WC.exit {i : Nat} {K : QS} {e : Env} {l : List Chunk} (h : K (.exit i) e l) : WC P n S w0 r (.exit i) K e l := ⟨fun a w he hs => CWp.exit ⟨e, l, h, he, hs⟩⟩
theorem WC.goto {i : Nat} {K : QS} {e : Env} {l : List Chunk} (h : K (.goto i) e l) : WC P n S w0 r (.goto i) K e l := ⟨fun a w he hs => CWp.goto ⟨e, l, h, he, hs⟩⟩
theorem WC.ret {K : QS} {e : Env} {l : List Chunk} (h : K .ret e l) : WC P n S w0 r .ret K e l := ⟨fun a w he hs => CWp.ret ⟨e, l, h, he, hs⟩⟩
theorem WC.cond {c : Operand} {x y : Code} {K : QS} {e : Env} {l : List Chunk} {b : Bool} (hc : ev e c = some (.bool b)) (h1 : b = true → WC P n S w0 r x K e l) (h0 : b = false → WC P n S w0 r y K e l) :
    WC P n S w0 r (.cond c x y) K e l :=
  ⟨fun a w he hs => CWp.cond (he.eval hc) (fun hb => (h1 hb).out a w he hs) (fun hb => (h0 hb).out a w he hs)⟩
theorem WC.condT {c : Operand} {x y : Code} {K : QS} {e : Env} {l : List Chunk} {b : Bool} (hc : ev e c = some (.bool b)) (hb : b = true) (h : WC P n S w0 r x K e l) :
    WC P n S w0 r (.cond c x y) K e l := WC.cond hc (fun _ => h) (fun h0 => by rw [hb] at h0; cases h0)
theorem WC.condF {c : Operand} {x y : Code} {K : QS} {e : Env} {l : List Chunk} {b : Bool} (hc : ev e c = some (.bool b)) (hb : b = false) (h : WC P n S w0 r y K e l) :
    WC P n S w0 r (.cond c x y) K e l := WC.cond hc (fun h0 => by rw [hb] at h0; cases h0) (fun _ => h)
theorem WC.block {id : Nat} {c : Code} {K : QS} {e : Env} {l : List Chunk} (h : WC P n S w0 r c (blockK id K) e l) : WC P n S w0 r (.block id c) K e l := by
  refine ⟨fun a w he hs => ?_⟩
  refine CWp.block (CWp.mono (h.out a w he hs) fun x a' w' hq => ?_)
  cases x with
  | exit i =>
    obtain ⟨e', l', hk, he', hs'⟩ := hq
    simp only [blockK] at hk
    simp only [Exit.inBlock]
    split at hk
    · rename_i hb
      rw [if_pos (Nat.eq_of_beq_eq_true hb)]
      exact ⟨e', l', hk, he', hs'⟩
    · rename_i hb
      rw [if_neg (Nat.ne_of_beq_eq_false hb)]
      exact ⟨e', l', hk, he', hs'⟩
  | panic c => exact hq.elim
  | outgrown => exact hq.elim
  | normal => exact hq
  | goto i => exact hq
  | ret => exact hq
/-- A loop: 'p x' what holds of the ghost x at each round's head, 'E x' the frame, 'L x' the memory. -/
theorem WC.loop {X : Type} (x0 : X) (p : X → Prop) (E : X → Env) (L : X → List Chunk) (μ : X → Nat) {c : Code} {K : QS} {e : Env} {l : List Chunk}
    (hp : p x0) (he : EnvLe e (E x0)) (hl : ChLe l (L x0))
    (round : ∀ x, p x → WC P n S w0 r c (thenK (fun e' l' => ∃ x', p x' ∧ EnvLe e' (E x') ∧ ChLe l' (L x') ∧ μ x' < μ x) K) (E x) (L x)) :
    WC P n S w0 r (.loop c) K e l := by
  refine ⟨fun a w ho hs ρ => ?_⟩
  -- the measure goes by the ghost: the loop's law is used with the least ghost's measure
  have key : ∀ k x, μ x = k → p x → ∀ a1 w, a1.defers = a.defers → EnvOK n a1 (E x) → St S w0 w (L x) r → ∀ (b : Frame) (ks : List Item) (cs : List Frame), b.roundOf = ρ →
      ∃ ex a' w', DQ a.defers (den n S w0 r K) ex a' w' ∧ ArrivesIn (Machine.fenced P (Fz ρ)) P (lone (b.atR a1 (.code c :: .inLoop c :: ks)) cs w) b ks cs ex a' w' := by
    intro k
    induction k using Nat.strongRecOn with
    | _ k ih =>
      intro x hk hx a1 w hd1 ho hs b ks cs hb
      obtain ⟨ex, a2, w2, ⟨hd, hq⟩, harr⟩ := (round x hx).out a1 w ho hs ρ b (.inLoop c :: ks) cs hb trivial (fz_room ρ _)
      rw [hd1] at hd
      cases ex with
      | normal =>
        obtain ⟨e', l', ⟨x', hx', hle, hch, hlt⟩, ho', hs'⟩ := hq
        obtain ⟨e2, a3, w3, hq2, harr2⟩ := ih (μ x') (hk ▸ hlt) x' rfl hx' a2 w2 hd (ho'.le hle) (hs'.le hch) b ks cs hb
        exact ⟨e2, a3, w3, hq2, .of_steps (StepsIn.trans harr (.one (fenced_calm (F := Fz ρ) (n := 0) trivial (fz_room ρ _) rfl) stepR_inLoop)) harr2⟩
      | exit id => exact ⟨.exit id, a2, w2, ⟨hd, hq⟩, .pass (x := .inLoop c) rfl (fun _ _ => .inl (by simp)) harr⟩
      | goto i => exact ⟨.goto i, a2, w2, ⟨hd, hq⟩, .pass (x := .inLoop c) rfl (fun _ _ => .inl (by simp)) harr⟩
      | ret => exact ⟨.ret, a2, w2, ⟨hd, hq⟩, .pass (x := .inLoop c) rfl (fun _ _ => .inl (by simp)) harr⟩
      | panic ch => exact hq.elim
      | outgrown => exact hq.elim
  intro b ks cs hb _ _
  obtain ⟨ex, a', w', hq, harr⟩ := key _ x0 rfl hp a w rfl (ho.le he) (hs.le hl) b ks cs hb
  exact ⟨ex, a', w', hq, .of_steps (.one (fenced_calm (F := Fz ρ) (n := 0) trivial (fz_room ρ _) rfl) stepR_loop) harr⟩
/-- A post that is weaker, piece by piece. -/
theorem WC.mono {c : Code} {K K' : QS} {e : Env} {l : List Chunk} (h : WC P n S w0 r c K e l) (hk : ∀ x e l, K x e l → K' x e l) : WC P n S w0 r c K' e l := by
  refine ⟨fun a w he hs => ?_⟩
  refine CWp.mono (h.out a w he hs) fun x a' w' hq => ?_
  cases x with
  | panic c => exact hq.elim
  | outgrown => exact hq.elim
  | _ => obtain ⟨e', l', hk', he', hs'⟩ := hq; exact ⟨e', l', hk _ _ _ hk', he', hs'⟩
/-- What stands behind is walked once: the way to it may part and meet again. -/
theorem WC.cut {X : Type} (p : X → Prop) (E : X → Env) (L : X → List Chunk) {x y : Code} {K : QS} {e : Env} {l : List Chunk}
    (h : WC P n S w0 r x (thenK (fun e' l' => ∃ z, p z ∧ EnvLe e' (E z) ∧ ChLe l' (L z)) K) e l) (hy : ∀ z, p z → WC P n S w0 r y K (E z) (L z)) : WC P n S w0 r (x.seq y) K e l := by
  refine WC.seq (WC.mono h fun ex e' l' hq => ?_)
  cases ex with
  | normal => obtain ⟨z, hp, he, hl⟩ := hq; exact WC.conv he hl (hy z hp)
  | _ => exact hq
end

/-! ### Functions -/
def resv (e : Env) : List ResultVar → Option (List Value)
  | [] => some []
  | .tmp t :: rs => match look e t, resv e rs with
    | some v, some vs => some (v :: vs)
    | _, _ => none
  | .cell _ _ :: _ => none
def tup : List Value → Value
  | [v] => v
  | vs => .tuple vs.toArray
def retK (rs : List ResultVar) (post : Value → List Chunk → Prop) : QS
  | .ret, e, l => ∃ vs, resv e rs = some vs ∧ ∃ l', post (tup vs) l' ∧ ChLe l l'
  | .normal, e, l => ∃ vs, resv e rs = some vs ∧ ∃ l', post (tup vs) l' ∧ ChLe l l'
  | _, _, _ => False
def envOf : Nat → List Value → Env
  | _, [] => []
  | i, v :: vs => (i, v) :: envOf (i + 1) vs
/-- What a function does, called with these arguments, where these chunks lie in memory and those may be read. -/
structure Spec (P : Program) (f : FuncId) (args : List Value) (l r : List Chunk) (post : Value → List Chunk → Prop) : Prop where
  out : ∀ w, St (fps l) w w l r → Calls P f args.toArray w fun e w' => ∃ v l', e = .returned v ∧ post v l' ∧ St (fps l) w w' l' r
theorem run_results {P : Program} {fn : Func} {n : Nat} {a : Act} {e : Env} {w : World} (he : EnvOK n a e) {rs : List ResultVar} (hr : fn.results = rs.toArray) {vs : List Value} (hv : resv e rs = some vs) :
    (results fn a.tmps).run P w = .ok (tup vs) w := by
  have key : ∀ (rs : List ResultVar) (vs : List Value) (g : ResultVar → Sem Value), (∀ t v, look e t = some v → g (.tmp t) = pure v) → resv e rs = some vs → rs.mapM g = (pure vs : Sem (List Value)) := by
    intro rs
    induction rs with
    | nil => intro vs g hg h; simp only [resv] at h; injection h with h; subst h; rfl
    | cons x rs ih =>
      intro vs g hg h
      cases x with
      | cell c t => cases h
      | tmp t =>
        simp only [resv] at h
        split at h
        · rename_i v us h1 h2
          injection h with h
          subst h
          rw [List.mapM_cons, ih us g hg h2, hg t v h1]
          rfl
        · cases h
  unfold results
  rw [hr, List.mapM_toArray, key rs vs _ (fun t v ht => by have h3 := he.at_ t v ht; simp [Array.getD_eq_getD_getElem?, h3]) hv]
  cases vs with
  | nil => simp [tup]
  | cons v vs => cases vs with
    | nil => simp [tup]
    | cons u vs => simp [tup]
theorem envOf_look (args : List Value) : ∀ (i t : Nat) (v : Value), look (envOf i args) t = some v → i ≤ t ∧ args[t - i]? = some v := by
  induction args with
  | nil => intro i t v h; cases h
  | cons x xs ih =>
    intro i t v h
    simp only [envOf, look] at h
    split at h
    · rename_i ht
      have : i = t := Nat.eq_of_beq_eq_true ht
      subst this
      simpa using h
    · rename_i ht
      have hne : i ≠ t := Nat.ne_of_beq_eq_false ht
      obtain ⟨h1, h2⟩ := ih (i + 1) t v h
      refine ⟨by omega, ?_⟩
      have : t - i = (t - (i + 1)) + 1 := by omega
      rw [this]
      simpa using h2
theorem Spec.intro {P : Program} {f : FuncId} {fn : Func} {c : Code} {args : List Value} {l r : List Chunk} {post : Value → List Chunk → Prop} {rs : List ResultVar} {n : Nat}
    (hf : P.funcs[f]? = some fn) (hb : fn.body = some c) (hr : fn.results = rs.toArray) (hn : fn.ntmps = n) (ha : Nat.ble args.length n = true)
    (h : ∀ w0, WC P n (fps l) w0 r c (retK rs post) (envOf 0 args) l) : Spec P f args l r post := by
  refine ⟨fun w hs => ?_⟩
  have ha' : args.length ≤ n := Nat.le_of_ble_eq_true ha
  refine callsIn_wide.1 (callsIn_of_wp (F := Fence.wide) (n := 0) hf hb trivial ?_ rfl)
  rw [hn]
  have hok : EnvOK n { tmps := args.toArray ++ Array.replicate (n - args.toArray.size) undef, defers := [] } (envOf 0 args) := by
    refine ⟨by simp; omega, fun t v hv => ?_⟩
    obtain ⟨_, h2⟩ := envOf_look args 0 t v hv
    have h2 : args[t]? = some v := by simpa using h2
    have hlt : t < args.length := (List.getElem?_eq_some_iff.1 h2).1
    show (args.toArray ++ Array.replicate _ undef)[t]? = some v
    rw [Array.getElem?_append_left (by simpa using hlt)]
    simpa using h2
  refine wpIn_mono ((h w).out _ w hok hs none) fun x a w' hq => ?_
  obtain ⟨hds, hq⟩ := hq
  cases x with
  | panic c => exact hq.elim
  | outgrown => exact hq.elim
  | normal =>
    obtain ⟨e, l', ⟨vs, hv, l2, hp, hl⟩, he, hs'⟩ := hq
    exact ⟨hds, tup vs, run_results he hr hv, tup vs, l2, rfl, hp, hs'.le hl⟩
  | ret =>
    obtain ⟨e, l', ⟨vs, hv, l2, hp, hl⟩, he, hs'⟩ := hq
    exact ⟨hds, tup vs, run_results he hr hv, tup vs, l2, rfl, hp, hs'.le hl⟩
  | exit i => obtain ⟨e, l', hk, _⟩ := hq; exact hk.elim
  | goto i => obtain ⟨e, l', hk, _⟩ := hq; exact hk.elim
theorem Spec.mono {P : Program} {f : FuncId} {args : List Value} {l r : List Chunk} {post post' : Value → List Chunk → Prop} (h : Spec P f args l r post) (hp : ∀ v l', post v l' → post' v l') : Spec P f args l r post' :=
  ⟨fun w hs => (h.out w hs).mono fun e w' ⟨v, l', h1, h2, h3⟩ => ⟨v, l', h1, hp v l' h2, h3⟩⟩
/-! ### Types, as instances: laid once a program -/
class Und (P : Program) (t : TypeId) (d : outParam TypeDesc) : Prop where eq : P.underlying t = some d
class Inf (P : Program) (t : TypeId) (z : outParam Value) (size bytes : outParam Nat) : Prop where
  ex : ∃ i, P.info? t = some i ∧ i.zero = some z ∧ i.size = size ∧ i.bytes = bytes
theorem Und.run {P : Program} {t : TypeId} {d : TypeDesc} (h : Und P t d) (w : World) : (underlying t).run P w = .ok d w := run_underlying h.eq w
theorem Inf.run_size {P : Program} {t : TypeId} {z : Value} {size bytes : Nat} (h : Inf P t z size bytes) (w : World) : (sizeOf t).run P w = .ok size w := by
  obtain ⟨i, hi, hz, hs, hb⟩ := h.ex
  simp [sizeOf, typeInfo, hi, hs]
theorem Inf.run_zero {P : Program} {t : TypeId} {z : Value} {size bytes : Nat} (h : Inf P t z size bytes) (w : World) : (zeroValue t).run P w = .ok z w := by
  obtain ⟨i, hi, hz, hs, hb⟩ := h.ex
  simp [zeroValue, typeInfo, hi, hz]
theorem Inf.run_info {P : Program} {t : TypeId} {z : Value} {size bytes : Nat} (h : Inf P t z size bytes) (w : World) : ∃ i, (typeInfo t).run P w = .ok i w ∧ i.zero = some z ∧ i.size = size ∧ i.bytes = bytes := by
  obtain ⟨i, hi, hz, hs, hb⟩ := h.ex
  exact ⟨i, by simp [typeInfo, hi], hz, hs, hb⟩

/-! ### Yields -/
section
variable {P : Program} {e : Env} {cs : List Chunk} {T p : Nat} {pos : String} {af : Array Edge} {gu : Option (Nat × Bool)} {d : Option Tmp}

theorem Ev.move {x : Operand} {v : Value} (hx : ev e x = some v) : Ev P e cs ⟨d, .move x, T, pos, af, gu⟩ v := by
  refine ⟨(by intro _ hq; cases hq), fun n a w he hc => ?_⟩; simp [execOp, he.eval hx]
theorem Ev.assign {x : Operand} {v : Value} (hx : ev e x = some v) : Ev P e cs ⟨d, .assign x, T, pos, af, gu⟩ v := by
  refine ⟨(by intro _ hq; cases hq), fun n a w he hc => ?_⟩; simp [execOp, he.eval hx]
theorem Ev.pickT {c x y : Operand} {v : Value} (hc : ev e c = some (.bool true)) (hx : ev e x = some v) : Ev P e cs ⟨d, .pick c x y, T, pos, af, gu⟩ v := by
  refine ⟨(by intro _ hq; cases hq), fun n a w he _ => ?_⟩; simp [execOp, he.eval hc, he.eval hx, asBool]
theorem Ev.pickF {c x y : Operand} {v : Value} (hc : ev e c = some (.bool false)) (hy : ev e y = some v) : Ev P e cs ⟨d, .pick c x y, T, pos, af, gu⟩ v := by
  refine ⟨(by intro _ hq; cases hq), fun n a w he _ => ?_⟩; simp [execOp, he.eval hc, he.eval hy, asBool]
theorem Ev.pickB {c x y : Operand} {b s t : Bool} (hc : ev e c = some (.bool b)) (hx : ev e x = some (.bool s)) (hy : ev e y = some (.bool t)) :
    Ev P e cs ⟨d, .pick c x y, T, pos, af, gu⟩ (.bool (if b then s else t)) := by
  refine ⟨(by intro _ hq; cases hq), fun n a w he _ => ?_⟩; cases b <;> simp [execOp, he.eval hc, he.eval hx, he.eval hy, asBool]
theorem Ev.extract {x : Operand} {vs : List Value} {i : Nat} {v : Value} (hx : ev e x = some (.tuple vs.toArray)) (hi : vs[i]? = some v) : Ev P e cs ⟨d, .extract x i, T, pos, af, gu⟩ v := by
  refine ⟨(by intro _ hq; cases hq), fun n a w he _ => ?_⟩; simp [execOp, he.eval hx, Instr.extract, hi]
theorem Ev.not {t : TypeId} {x : Operand} {b : Bool} (hx : ev e x = some (.bool b)) : Ev P e cs ⟨d, .unOp .not t x, T, pos, af, gu⟩ (.bool !b) := by
  refine ⟨(by intro _ hq; cases hq), fun n a w he _ => ?_⟩; simp [execOp, he.eval hx, Op.unary]
theorem Ev.makeFunc {fn : Fn} {xs ys : List Operand} {us vs : List Value} (hx : evs e xs = some us) (hy : evs e ys = some vs) : Ev P e cs ⟨d, .makeFunc fn xs.toArray ys.toArray, T, pos, af, gu⟩ (.func fn us.toArray vs.toArray) := by
  refine ⟨(by intro _ hq; cases hq), fun n a w he _ => ?_⟩; simp [execOp, Instr.makeFunc, he.evals hx, he.evals hy]

/-- A binary operation, whatever the kinds. -/
theorem Ev.bin {op : BinOp} {t t' : TypeId} {x y : Operand} {u v z : Value} (hx : ev e x = some u) (hy : ev e y = some v) (hg : ∀ w, (eqGuard op t x y u v).run P w = .ok () w)
    (hr : ∀ w, (binOp op t u v).run P w = .ok z w) : Ev P e cs ⟨d, .binOp op t x y t', T, pos, af, gu⟩ z := by
  refine ⟨(by intro _ hq; cases hq), fun n a w he _ => ?_⟩; simp [execOp, he.eval hx, he.eval hy, hg, hr]
theorem guard_int (op : BinOp) (t : TypeId) (x y : Operand) (k k' : IntKind) (a b : Int) (w : World) : (eqGuard op t x y (.int k a) (.int k' b)).run P w = .ok () w := by
  unfold eqGuard; split <;> rfl
theorem wrap_in {n : Int} (h1 : -9223372036854775808 ≤ n) (h2 : n ≤ 9223372036854775807) : IntKind.i64.wrap n = n := by
  simp only [IntKind.wrap, IntKind.bits, IntKind.signed]; simp only [Bool.true_and]; split <;> rename_i h <;> simp at h <;> omega
theorem Ev.addk {t t' : TypeId} {x y : Operand} {k : IntKind} {a b : Int} (hx : ev e x = some (.int k a)) (hy : ev e y = some (.int k b)) :
    Ev P e cs ⟨d, .binOp .add t x y t', T, pos, af, gu⟩ (.int k (k.wrap (a + b))) :=
  Ev.bin hx hy (guard_int _ _ _ _ _ _ _ _) fun w => by simp [binOp, Op.intArith]
theorem Ev.subk {t t' : TypeId} {x y : Operand} {k : IntKind} {a b : Int} (hx : ev e x = some (.int k a)) (hy : ev e y = some (.int k b)) :
    Ev P e cs ⟨d, .binOp .sub t x y t', T, pos, af, gu⟩ (.int k (k.wrap (a - b))) :=
  Ev.bin hx hy (guard_int _ _ _ _ _ _ _ _) fun w => by simp [binOp, Op.intArith]
theorem Ev.mulk {t t' : TypeId} {x y : Operand} {k : IntKind} {a b : Int} (hx : ev e x = some (.int k a)) (hy : ev e y = some (.int k b)) :
    Ev P e cs ⟨d, .binOp .mul t x y t', T, pos, af, gu⟩ (.int k (k.wrap (a * b))) :=
  Ev.bin hx hy (guard_int _ _ _ _ _ _ _ _) fun w => by simp [binOp, Op.intArith]
theorem Ev.add {t t' : TypeId} {x y : Operand} {a b : Int} (hx : ev e x = some (.int .i64 a)) (hy : ev e y = some (.int .i64 b)) (h : -9223372036854775808 ≤ a + b ∧ a + b ≤ 9223372036854775807) :
    Ev P e cs ⟨d, .binOp .add t x y t', T, pos, af, gu⟩ (.int .i64 (a + b)) := by
  have := Ev.addk (P := P) (cs := cs) (d := d) (T := T) (pos := pos) (af := af) (gu := gu) (t := t) (t' := t') hx hy; rwa [wrap_in h.1 h.2] at this
theorem Ev.sub {t t' : TypeId} {x y : Operand} {a b : Int} (hx : ev e x = some (.int .i64 a)) (hy : ev e y = some (.int .i64 b)) (h : -9223372036854775808 ≤ a - b ∧ a - b ≤ 9223372036854775807) :
    Ev P e cs ⟨d, .binOp .sub t x y t', T, pos, af, gu⟩ (.int .i64 (a - b)) := by
  have := Ev.subk (P := P) (cs := cs) (d := d) (T := T) (pos := pos) (af := af) (gu := gu) (t := t) (t' := t') hx hy; rwa [wrap_in h.1 h.2] at this
theorem Ev.mul {t t' : TypeId} {x y : Operand} {a b : Int} (hx : ev e x = some (.int .i64 a)) (hy : ev e y = some (.int .i64 b)) (h : -9223372036854775808 ≤ a * b ∧ a * b ≤ 9223372036854775807) :
    Ev P e cs ⟨d, .binOp .mul t x y t', T, pos, af, gu⟩ (.int .i64 (a * b)) := by
  have := Ev.mulk (P := P) (cs := cs) (d := d) (T := T) (pos := pos) (af := af) (gu := gu) (t := t) (t' := t') hx hy; rwa [wrap_in h.1 h.2] at this
theorem Ev.lss {t t' : TypeId} {x y : Operand} {k : IntKind} {a b : Int} (hx : ev e x = some (.int k a)) (hy : ev e y = some (.int k b)) :
    Ev P e cs ⟨d, .binOp .lss t x y t', T, pos, af, gu⟩ (.bool (decide (a < b))) :=
  Ev.bin hx hy (guard_int _ _ _ _ _ _ _ _) fun w => by simp [binOp, Op.intCmp]
theorem Ev.leq {t t' : TypeId} {x y : Operand} {k : IntKind} {a b : Int} (hx : ev e x = some (.int k a)) (hy : ev e y = some (.int k b)) :
    Ev P e cs ⟨d, .binOp .leq t x y t', T, pos, af, gu⟩ (.bool (decide (a ≤ b))) :=
  Ev.bin hx hy (guard_int _ _ _ _ _ _ _ _) fun w => by simp [binOp, Op.intCmp]
theorem Ev.gtr {t t' : TypeId} {x y : Operand} {k : IntKind} {a b : Int} (hx : ev e x = some (.int k a)) (hy : ev e y = some (.int k b)) :
    Ev P e cs ⟨d, .binOp .gtr t x y t', T, pos, af, gu⟩ (.bool (decide (b < a))) :=
  Ev.bin hx hy (guard_int _ _ _ _ _ _ _ _) fun w => by simp [binOp, Op.intCmp]
theorem Ev.geq {t t' : TypeId} {x y : Operand} {k : IntKind} {a b : Int} (hx : ev e x = some (.int k a)) (hy : ev e y = some (.int k b)) :
    Ev P e cs ⟨d, .binOp .geq t x y t', T, pos, af, gu⟩ (.bool (decide (b ≤ a))) :=
  Ev.bin hx hy (guard_int _ _ _ _ _ _ _ _) fun w => by simp [binOp, Op.intCmp]
theorem beq_dec (a b : Int) : (a == b) = decide (a = b) := by by_cases h : a = b <;> simp [h]
theorem Ev.eql {t t' : TypeId} {x y : Operand} {k : IntKind} {a b : Int} (hx : ev e x = some (.int k a)) (hy : ev e y = some (.int k b)) :
    Ev P e cs ⟨d, .binOp .eql t x y t', T, pos, af, gu⟩ (.bool (decide (a = b))) :=
  Ev.bin hx hy (guard_int _ _ _ _ _ _ _ _) fun w => by simp [binOp, Op.intCmp, beq_dec]
theorem Ev.neq {t t' : TypeId} {x y : Operand} {k : IntKind} {a b : Int} (hx : ev e x = some (.int k a)) (hy : ev e y = some (.int k b)) :
    Ev P e cs ⟨d, .binOp .neq t x y t', T, pos, af, gu⟩ (.bool (decide (a ≠ b))) :=
  Ev.bin hx hy (guard_int _ _ _ _ _ _ _ _) fun w => by simp [binOp, Op.intCmp, bne, beq_dec]
theorem Ev.quo {t t' : TypeId} {x y : Operand} {a b : Int} (hx : ev e x = some (.int .i64 a)) (hy : ev e y = some (.int .i64 b)) (h : 0 ≤ a ∧ a ≤ 9223372036854775807 ∧ 0 < b) :
    Ev P e cs ⟨d, .binOp .quo t x y t', T, pos, af, gu⟩ (.int .i64 (a / b)) :=
  Ev.bin hx hy (guard_int _ _ _ _ _ _ _ _) fun w => by
    have hb : b ≠ 0 := by omega
    have h1 : a.tdiv b = a / b := Int.tdiv_eq_ediv_of_nonneg h.1
    have h2 : 0 ≤ a / b := Int.ediv_nonneg h.1 (by omega)
    have h3 : a / b ≤ a := Int.ediv_le_self b h.1
    simp [binOp, Op.intDiv, hb, h1, wrap_in (show -9223372036854775808 ≤ a / b by omega) (by omega)]
theorem Ev.rem {t t' : TypeId} {x y : Operand} {k : IntKind} {a b : Int} (hx : ev e x = some (.int k a)) (hy : ev e y = some (.int k b)) (h : 0 ≤ a ∧ 0 < b) :
    Ev P e cs ⟨d, .binOp .rem t x y t', T, pos, af, gu⟩ (.int k (a % b)) :=
  Ev.bin hx hy (guard_int _ _ _ _ _ _ _ _) fun w => by
    have hb : b ≠ 0 := by omega
    simp [binOp, Op.intDiv, hb, Int.tmod_eq_emod_of_nonneg h.1]
theorem Ev.quot {t t' : TypeId} {x y : Operand} {k : IntKind} {a b : Int} (hx : ev e x = some (.int k a)) (hy : ev e y = some (.int k b)) (h : b ≠ 0) :
    Ev P e cs ⟨d, .binOp .quo t x y t', T, pos, af, gu⟩ (.int k (k.wrap (a.tdiv b))) :=
  Ev.bin hx hy (guard_int _ _ _ _ _ _ _ _) fun w => by simp [binOp, Op.intDiv, h]
theorem Ev.remt {t t' : TypeId} {x y : Operand} {k : IntKind} {a b : Int} (hx : ev e x = some (.int k a)) (hy : ev e y = some (.int k b)) (h : b ≠ 0) :
    Ev P e cs ⟨d, .binOp .rem t x y t', T, pos, af, gu⟩ (.int k (a.tmod b)) :=
  Ev.bin hx hy (guard_int _ _ _ _ _ _ _ _) fun w => by simp [binOp, Op.intDiv, h]
/-- The bits' operations, as numbers. -/
def bitI (op : BinOp) (k : IntKind) (x y : Int) : Int :=
  match op with
  | .and => k.wrap (BitVec.ofInt k.bits x &&& BitVec.ofInt k.bits y).toNat
  | .or => k.wrap (BitVec.ofInt k.bits x ||| BitVec.ofInt k.bits y).toNat
  | .xor => k.wrap (BitVec.ofInt k.bits x ^^^ BitVec.ofInt k.bits y).toNat
  | _ => k.wrap (BitVec.ofInt k.bits x &&& ~~~(BitVec.ofInt k.bits y)).toNat
theorem Ev.and {t t' : TypeId} {x y : Operand} {k : IntKind} {a b : Int} (hx : ev e x = some (.int k a)) (hy : ev e y = some (.int k b)) :
    Ev P e cs ⟨d, .binOp .and t x y t', T, pos, af, gu⟩ (.int k (bitI .and k a b)) :=
  Ev.bin hx hy (guard_int _ _ _ _ _ _ _ _) fun w => by simp [binOp, Op.intBits, bitI]
theorem Ev.or {t t' : TypeId} {x y : Operand} {k : IntKind} {a b : Int} (hx : ev e x = some (.int k a)) (hy : ev e y = some (.int k b)) :
    Ev P e cs ⟨d, .binOp .or t x y t', T, pos, af, gu⟩ (.int k (bitI .or k a b)) :=
  Ev.bin hx hy (guard_int _ _ _ _ _ _ _ _) fun w => by simp [binOp, Op.intBits, bitI]
theorem Ev.xor {t t' : TypeId} {x y : Operand} {k : IntKind} {a b : Int} (hx : ev e x = some (.int k a)) (hy : ev e y = some (.int k b)) :
    Ev P e cs ⟨d, .binOp .xor t x y t', T, pos, af, gu⟩ (.int k (bitI .xor k a b)) :=
  Ev.bin hx hy (guard_int _ _ _ _ _ _ _ _) fun w => by simp [binOp, Op.intBits, bitI]
theorem Ev.shr {t t' : TypeId} {x y : Operand} {k k' : IntKind} {a b : Int} (hx : ev e x = some (.int k a)) (hy : ev e y = some (.int k' b)) (h : 0 ≤ b ∧ b ≤ k.bits) :
    Ev P e cs ⟨d, .binOp .shr t x y t', T, pos, af, gu⟩ (.int k (a / 2 ^ b.toNat)) :=
  Ev.bin hx hy (guard_int _ _ _ _ _ _ _ _) fun w => by
    have h1 : ¬ b < 0 := by omega
    have h2 : min b.toNat k.bits = b.toNat := by omega
    have h3 : a.fdiv (2 ^ b.toNat) = a / 2 ^ b.toNat := Int.fdiv_eq_ediv_of_nonneg a (Int.le_of_lt (Int.pow_pos (by omega)))
    simp [binOp, Op.shift, h1, h2, h3]
theorem Ev.shl {t t' : TypeId} {x y : Operand} {k k' : IntKind} {a b : Int} (hx : ev e x = some (.int k a)) (hy : ev e y = some (.int k' b)) (h : 0 ≤ b ∧ b ≤ k.bits) :
    Ev P e cs ⟨d, .binOp .shl t x y t', T, pos, af, gu⟩ (.int k (k.wrap (a * 2 ^ b.toNat))) :=
  Ev.bin hx hy (guard_int _ _ _ _ _ _ _ _) fun w => by
    have h1 : ¬ b < 0 := by omega
    have h2 : min b.toNat k.bits = b.toNat := by omega
    simp [binOp, Op.shift, h1, h2]
theorem equal_step (t : TypeId) (x y : Value) : Op.equal t x y = Op.equalIn (9999 + 1) t x y := rfl
theorem Ev.eqlG {t t' : TypeId} {x y : Operand} {u v : Value} {b : Bool} (hx : ev e x = some u) (hy : ev e y = some v) (hg : ∀ w, (eqGuard .eql t x y u v).run P w = .ok () w)
    (hb : binOp .eql t u v = (do pure (.bool (← Op.equal t u v)))) (hr : ∀ w, (Op.equal t u v).run P w = .ok b w) :
    Ev P e cs ⟨d, .binOp .eql t x y t', T, pos, af, gu⟩ (.bool b) :=
  Ev.bin hx hy hg fun w => by rw [hb]; simp [hr]
theorem Ev.neqG {t t' : TypeId} {x y : Operand} {u v : Value} {b : Bool} (hx : ev e x = some u) (hy : ev e y = some v) (hg : ∀ w, (eqGuard .neq t x y u v).run P w = .ok () w)
    (hb : binOp .neq t u v = (do pure (.bool (!(← Op.equal t u v))))) (hr : ∀ w, (Op.equal t u v).run P w = .ok b w) :
    Ev P e cs ⟨d, .binOp .neq t x y t', T, pos, af, gu⟩ (.bool (!b)) :=
  Ev.bin hx hy hg fun w => by rw [hb]; simp [hr]
theorem Ev.eqlB {t t' : TypeId} {x y : Operand} {a b : Bool} [hu : Und P t .bool] (hx : ev e x = some (.bool a)) (hy : ev e y = some (.bool b)) :
    Ev P e cs ⟨d, .binOp .eql t x y t', T, pos, af, gu⟩ (.bool (a == b)) :=
  Ev.eqlG hx hy (fun w => by simp [eqGuard]) rfl fun w => by rw [equal_step, Op.equalIn]; simp [hu.run]
theorem Ev.neqB {t t' : TypeId} {x y : Operand} {a b : Bool} [hu : Und P t .bool] (hx : ev e x = some (.bool a)) (hy : ev e y = some (.bool b)) :
    Ev P e cs ⟨d, .binOp .neq t x y t', T, pos, af, gu⟩ (.bool (!(a == b))) :=
  Ev.neqG hx hy (fun w => by simp [eqGuard]) rfl fun w => by rw [equal_step, Op.equalIn]; simp [hu.run]
theorem toList_inj {s t : ByteArray} : s.toList = t.toList ↔ s = t := by
  constructor
  · intro h
    rw [ByteArray.toList_eq, ByteArray.toList_eq] at h
    cases s; cases t; congr 1; exact Array.toList_inj.1 h
  · intro h; rw [h]
theorem Ev.eqlS {t t' : TypeId} {x y : Operand} {a b : ByteArray} (hx : ev e x = some (.string a)) (hy : ev e y = some (.string b)) :
    Ev P e cs ⟨d, .binOp .eql t x y t', T, pos, af, gu⟩ (.bool (a.toList == b.toList)) :=
  Ev.bin hx hy (fun w => by simp [eqGuard]) fun w => by simp [binOp, Op.stringOp]
theorem Ev.neqS {t t' : TypeId} {x y : Operand} {a b : ByteArray} (hx : ev e x = some (.string a)) (hy : ev e y = some (.string b)) :
    Ev P e cs ⟨d, .binOp .neq t x y t', T, pos, af, gu⟩ (.bool !(a.toList == b.toList)) :=
  Ev.bin hx hy (fun w => by simp [eqGuard]) fun w => by simp [binOp, Op.stringOp]
theorem Ev.lssS {t t' : TypeId} {x y : Operand} {a b : ByteArray} (hx : ev e x = some (.string a)) (hy : ev e y = some (.string b)) :
    Ev P e cs ⟨d, .binOp .lss t x y t', T, pos, af, gu⟩ (.bool (Op.bytesLess a.toList b.toList)) :=
  Ev.bin hx hy (fun w => by simp [eqGuard]) fun w => by simp [binOp, Op.stringOp]
theorem Ev.eqlP {t t' el : TypeId} {x y : Operand} {A : Option Addr} [hu : Und P t (.pointer el)] (hx : ev e x = some (.pointer A)) (hy : ev e y = some (.pointer none)) :
    Ev P e cs ⟨d, .binOp .eql t x y t', T, pos, af, gu⟩ (.bool (A.isNone)) :=
  Ev.eqlG hx hy (fun w => by simp [eqGuard]) rfl fun w => by rw [equal_step, Op.equalIn]; cases A <;> simp [hu.run]
theorem Ev.neqP {t t' el : TypeId} {x y : Operand} {A : Option Addr} [hu : Und P t (.pointer el)] (hx : ev e x = some (.pointer A)) (hy : ev e y = some (.pointer none)) :
    Ev P e cs ⟨d, .binOp .neq t x y t', T, pos, af, gu⟩ (.bool (!A.isNone)) :=
  Ev.neqG hx hy (fun w => by simp [eqGuard]) rfl fun w => by rw [equal_step, Op.equalIn]; cases A <;> simp [hu.run]
theorem Ev.eqlL {t t' el : TypeId} {x y : Operand} {A : Option Addr} {n c n' c' : Nat} [hu : Und P t (.slice el)] (hx : ev e x = some (.slice A n c)) (hy : ev e y = some (.slice none n' c')) :
    Ev P e cs ⟨d, .binOp .eql t x y t', T, pos, af, gu⟩ (.bool (A.isNone)) :=
  Ev.eqlG hx hy (fun w => by simp [eqGuard]) rfl fun w => by rw [equal_step, Op.equalIn]; cases A <;> simp [hu.run]
theorem Ev.neqL {t t' el : TypeId} {x y : Operand} {A : Option Addr} {n c n' c' : Nat} [hu : Und P t (.slice el)] (hx : ev e x = some (.slice A n c)) (hy : ev e y = some (.slice none n' c')) :
    Ev P e cs ⟨d, .binOp .neq t x y t', T, pos, af, gu⟩ (.bool (!A.isNone)) :=
  Ev.neqG hx hy (fun w => by simp [eqGuard]) rfl fun w => by rw [equal_step, Op.equalIn]; cases A <;> simp [hu.run]
theorem Ev.eqlF {t t' : TypeId} {ps rs : Array TypeId} {vr : Bool} {x y : Operand} {fn : Fn} {us vs : Array Value} [hu : Und P t (.func ps rs vr)] (hx : ev e x = some (.func fn us vs)) (hy : ev e y = some .nilFunc) :
    Ev P e cs ⟨d, .binOp .eql t x y t', T, pos, af, gu⟩ (.bool (false)) :=
  Ev.eqlG hx hy (fun w => by simp [eqGuard]) rfl fun w => by rw [equal_step, Op.equalIn]; simp [hu.run]
theorem Ev.eqlF0 {t t' : TypeId} {ps rs : Array TypeId} {vr : Bool} {x y : Operand} [hu : Und P t (.func ps rs vr)] (hx : ev e x = some .nilFunc) (hy : ev e y = some .nilFunc) :
    Ev P e cs ⟨d, .binOp .eql t x y t', T, pos, af, gu⟩ (.bool (true)) :=
  Ev.eqlG hx hy (fun w => by simp [eqGuard]) rfl fun w => by rw [equal_step, Op.equalIn]; simp [hu.run]
theorem Ev.neqF {t t' : TypeId} {ps rs : Array TypeId} {vr : Bool} {x y : Operand} {fn : Fn} {us vs : Array Value} [hu : Und P t (.func ps rs vr)] (hx : ev e x = some (.func fn us vs)) (hy : ev e y = some .nilFunc) :
    Ev P e cs ⟨d, .binOp .neq t x y t', T, pos, af, gu⟩ (.bool (!false)) :=
  Ev.neqG hx hy (fun w => by simp [eqGuard]) rfl fun w => by rw [equal_step, Op.equalIn]; simp [hu.run]
theorem Ev.neqF0 {t t' : TypeId} {ps rs : Array TypeId} {vr : Bool} {x y : Operand} [hu : Und P t (.func ps rs vr)] (hx : ev e x = some .nilFunc) (hy : ev e y = some .nilFunc) :
    Ev P e cs ⟨d, .binOp .neq t x y t', T, pos, af, gu⟩ (.bool (!true)) :=
  Ev.neqG hx hy (fun w => by simp [eqGuard]) rfl fun w => by rw [equal_step, Op.equalIn]; simp [hu.run]
/-- A whole number made one of another kind. -/
theorem Ev.convk {s t : TypeId} {ds : TypeDesc} {k k' : IntKind} {x : Operand} {a : Int} [hs : Und P s ds] [ht : Und P t (.int k)] (hx : ev e x = some (.int k' a)) :
    Ev P e cs ⟨d, .convert s t x, T, pos, af, gu⟩ (.int k (k.wrap a)) := by
  refine ⟨(by intro _ hq; cases hq), fun n a' w he _ => ?_⟩
  simp [execOp, he.eval hx, convert, hs.run, ht.run, Conv.intToInt]
theorem Ev.conv {s t : TypeId} {ds : TypeDesc} {k' : IntKind} {x : Operand} {a : Int} [hs : Und P s ds] [ht : Und P t (.int .i64)] (hx : ev e x = some (.int k' a)) (h : -9223372036854775808 ≤ a ∧ a ≤ 9223372036854775807) :
    Ev P e cs ⟨d, .convert s t x, T, pos, af, gu⟩ (.int .i64 a) := by
  have := Ev.convk (P := P) (cs := cs) (d := d) (T := T) (pos := pos) (af := af) (gu := gu) (s := s) (t := t) hx; rwa [wrap_in h.1 h.2] at this

/-! the built-in functions that only reckon -/
theorem Ev.len {t el : TypeId} {x : Operand} {A : Option Addr} {m c : Nat} [hu : Und P t (.slice el)] (hx : ev e x = some (.slice A m c)) :
    Ev P e cs ⟨d, .call ⟨.builtin .len, #[x], #[t]⟩, T, pos, af, gu⟩ (.int .i64 m) := by
  refine ⟨(by intro _ hq; cases hq), fun n a w he _ => ?_⟩
  simp [execOp, resolve, invoke, builtin, he.eval hx, Builtin.len_, hu.run, goInt]
theorem Ev.lenS {t : TypeId} {x : Operand} {s : ByteArray} [hu : Und P t .string] (hx : ev e x = some (.string s)) :
    Ev P e cs ⟨d, .call ⟨.builtin .len, #[x], #[t]⟩, T, pos, af, gu⟩ (.int .i64 s.size) := by
  refine ⟨(by intro _ hq; cases hq), fun n a w he _ => ?_⟩
  simp [execOp, resolve, invoke, builtin, he.eval hx, Builtin.len_, hu.run, goInt]
theorem Ev.lenA {t el : TypeId} {x : Operand} {m : Nat} {v : Value} [hu : Und P t (.array m el)] (hx : ev e x = some v) :
    Ev P e cs ⟨d, .call ⟨.builtin .len, #[x], #[t]⟩, T, pos, af, gu⟩ (.int .i64 m) := by
  refine ⟨(by intro _ hq; cases hq), fun n a w he _ => ?_⟩
  simp [execOp, resolve, invoke, builtin, Builtin.len_, hu.run, goInt]
theorem Ev.min2 {x y : Operand} {ts : Array TypeId} {k k' : IntKind} {a b : Int} (hx : ev e x = some (.int k a)) (hy : ev e y = some (.int k' b)) :
    Ev P e cs ⟨d, .call ⟨.builtin .min, #[x, y], ts⟩, T, pos, af, gu⟩ (.int k (if b < a then b else a)) := by
  refine ⟨(by intro _ hq; cases hq), fun n a' w he _ => ?_⟩
  simp [execOp, resolve, invoke, builtin, he.eval hx, he.eval hy, Builtin.min_, Builtin.min2]
theorem Ev.min3 {x y z : Operand} {ts : Array TypeId} {k k' k'' : IntKind} {a b c : Int} (hx : ev e x = some (.int k a)) (hy : ev e y = some (.int k' b)) (hz : ev e z = some (.int k'' c)) :
    Ev P e cs ⟨d, .call ⟨.builtin .min, #[x, y, z], ts⟩, T, pos, af, gu⟩ (.int k (if c < (if b < a then b else a) then c else (if b < a then b else a))) := by
  refine ⟨(by intro _ hq; cases hq), fun n a' w he _ => ?_⟩
  simp [execOp, resolve, invoke, builtin, he.eval hx, he.eval hy, he.eval hz, Builtin.min_, Builtin.min2]
theorem Ev.max2 {x y : Operand} {ts : Array TypeId} {k k' : IntKind} {a b : Int} (hx : ev e x = some (.int k a)) (hy : ev e y = some (.int k' b)) :
    Ev P e cs ⟨d, .call ⟨.builtin .max, #[x, y], ts⟩, T, pos, af, gu⟩ (.int k (if b > a then b else a)) := by
  refine ⟨(by intro _ hq; cases hq), fun n a' w he _ => ?_⟩
  simp [execOp, resolve, invoke, builtin, he.eval hx, he.eval hy, Builtin.max_, Builtin.max2]
end
/-! ### Memory: kinds of chunks -/
def blk : Option Addr → List Nat
  | some a => [a.block]
  | none => []
/-- A row of variables, known whole: a struct, a boxed variable. -/
def cellsC (g : Nat) (T : TypeId) (cs : List Value) : Chunk where
  fp := [g]
  holds w := w.heap[g]? = some (.cells cs.toArray T (0, 0))
  loc w w' h hw := by rw [h g (by simp)]; exact hw
  lt w hw k hk := by
    obtain rfl : k = g := by simpa using hk
    exact (Array.getElem?_eq_some_iff.1 hw).1
/-- A slice's own array: it starts at its head, may be written and appended to. -/
def rowC (A : Option Addr) (c : Nat) (T : TypeId) (s n : Nat) (cs : List Value) : Chunk where
  fp := blk A
  holds w := w.ownsRow 0 T s (.slice A n c) n cs
  loc w w' h hw := by
    refine ⟨hw.1, ?_⟩
    rcases hw.2 with h0 | ⟨g, cap, cur, hv, hb, hh, rest⟩
    · exact .inl h0
    · refine .inr ⟨g, cap, cur, hv, hb, ?_, rest⟩
      injection hv with hA
      rw [h g (by rw [hA]; simp [blk])]; exact hh
  lt w hw k hk := by
    rcases hw.2 with h0 | ⟨g, cap, cur, hv, hb, hh, rest⟩
    · injection h0.1 with hA; rw [hA] at hk; simp [blk] at hk
    · injection hv with hA
      rw [hA] at hk
      obtain rfl : k = g := by simpa [blk] using hk
      exact (Array.getElem?_eq_some_iff.1 hh).1
theorem rowC_holds {A : Option Addr} {c : Nat} {T : TypeId} {s n : Nat} {cs : List Value} {w : World} : (rowC A c T s n cs).holds w ↔ w.ownsRow 0 T s (.slice A n c) n cs := Iff.rfl
theorem rowC_fp {A : Option Addr} {c : Nat} {T : TypeId} {s n : Nat} {cs : List Value} : (rowC A c T s n cs).fp = blk A := rfl
/-- What may be read through a slice. -/
def sliceC (A : Option Addr) (c s n : Nat) (cs : List Value) : Chunk where
  fp := match cs with
    | [] => []
    | _ :: _ => blk A
  holds w := cs.length = n * s ∧ n ≤ c ∧ c ≤ maxLen ∧ (0 < cs.length → ∃ a, A = some a) ∧ ∀ a, A = some a → ∀ j u, cs[j]? = some u → w.cell? (a.add j) = some u
  loc w w' h hw := by
    refine ⟨hw.1, hw.2.1, hw.2.2.1, hw.2.2.2.1, fun a ha j u hu => ?_⟩
    have h0 := hw.2.2.2.2 a ha j u hu
    subst ha
    cases cs with
    | nil => simp at hu
    | cons x xs =>
      have hb : (a.add j).block = a.block := by unfold Addr.add; split <;> rfl
      rw [World.cell?_of_block (w := w)]
      · exact h0
      · rw [hb]; exact h a.block (by simp [blk])
  lt w hw k hk := by
    cases cs with
    | nil => simp at hk
    | cons x xs =>
      obtain ⟨a, rfl⟩ := hw.2.2.2.1 (by simp)
      have h0 := hw.2.2.2.2 a rfl 0 x (by simp)
      obtain rfl : k = a.block := by simpa [blk] using hk
      have := World.block_lt_of_cell? w _ h0
      simpa [Addr.add] using this
def ablk : Option Addr → Nat
  | some a => a.block
  | none => 0
def aoff : Option Addr → Nat
  | some a => a.off
  | none => 0
def ptrAt (A : Option Addr) (k : Nat) : Value := .pointer (some ⟨ablk A, aoff A + k, none⟩)
theorem add_plain (a : Addr) (k : Nat) (h : a.spot = none) : a.add k = ⟨a.block, a.off + k, none⟩ := by
  obtain ⟨g, o, s⟩ := a
  simp only at h
  subst h
  unfold Addr.add
  split <;> simp_all
theorem ptrAt_some (a : Addr) (k : Nat) (h : a.spot = none) : ptrAt (some a) k = .pointer (some (a.add k)) := by rw [add_plain a k h]; rfl
theorem spot_of_cell {w : World} {a : Addr} {v : Value} (h : w.cell? a = some v) : a.spot = none := by
  unfold World.cell? at h
  split at h
  · split at h
    · cases h
    · rename_i hs; simpa using hs
  · cases h
theorem sliceC_spot {w : World} {a : Addr} {c s n : Nat} {cs : List Value} (h : (sliceC (some a) c s n cs).holds w) (h0 : 0 < cs.length) : a.spot = none := by
  have := h.2.2.2.2 a rfl 0 cs[0] (List.getElem?_eq_getElem h0)
  have := spot_of_cell this
  simpa [Addr.add] using this
def subA (A : Option Addr) (c lo s : Nat) : Option Addr := if c = lo then A else A.map (·.add (lo * s))

theorem add_add (a : Addr) (i j : Nat) : (a.add i).add j = a.add (i + j) := by
  unfold Addr.add
  by_cases hi : i = 0
  · subst hi; simp
  · by_cases hj : j = 0
    · subst hj; simp [hi]
    · simp [hi, hj]; omega
theorem add_lit (g o j : Nat) : (⟨g, o, none⟩ : Addr).add j = ⟨g, o + j, none⟩ := by unfold Addr.add; split <;> simp_all
/-- A slice's own array may be read. -/
theorem Sub.row {A : Option Addr} {c : Nat} {T : TypeId} {s n : Nat} {cs : List Value} : Sub (sliceC A c s n cs) (rowC A c T s n cs) := by
  constructor
  · intro k hk
    cases cs with
    | nil => simp [sliceC] at hk
    | cons x xs => exact hk
  · intro w hw
    have hw : w.ownsRow 0 T s (.slice A n c) n cs := hw
    refine ⟨hw.1, ?_, ?_, ?_, ?_⟩
    · rcases hw.2 with h0 | ⟨g, cap, cur, hv, hb, hh, h1, h2, h3, h4⟩
      · injection h0.1 with _ h1 h2; omega
      · injection hv with _ _ hc; omega
    · rcases hw.2 with h0 | ⟨g, cap, cur, hv, hb, hh, h1, h2, h3, h4⟩
      · injection h0.1 with _ h1 h2; rw [h2]; exact Nat.zero_le _
      · injection hv with _ _ hc; omega
    · intro hl
      rcases hw.2 with h0 | ⟨g, cap, cur, hv, hb, hh, h1, h2, h3, h4⟩
      · have := hw.1; rw [h0.2] at this; omega
      · injection hv with hA; exact ⟨_, hA⟩
    · intro a ha j u hu
      rcases hw.2 with h0 | ⟨g, cap, cur, hv, hb, hh, h1, h2, h3, h4⟩
      · have := hw.1; rw [h0.2] at this; simp at this; subst this; simp at hu
      · injection hv with hA
        have hg : a = ⟨g, 0, none⟩ := by rw [ha] at hA; injection hA
        subst hg
        exact hw.cells (g := g) (by rw [hA]; simp [Value.ownBlock]) j u hu
/-- A part of what may be read. -/
theorem Sub.cut {A : Option Addr} {c s n lo hi : Nat} {cs : List Value} (h : lo ≤ hi ∧ hi ≤ n) :
    Sub (sliceC (subA A c lo s) (c - lo) s (hi - lo) ((cs.drop (lo * s)).take ((hi - lo) * s))) (sliceC A c s n cs) := by
  constructor
  · intro k hk
    cases cs with
    | nil => simp [sliceC] at hk
    | cons x xs =>
      generalize hcs : ((x :: xs).drop (lo * s)).take ((hi - lo) * s) = ys at hk
      cases ys with
      | nil => simp [sliceC] at hk
      | cons y ys =>
        simp only [sliceC, subA] at hk ⊢
        split at hk
        · exact hk
        · cases A with
          | none => simp [blk] at hk
          | some a =>
            simp only [Option.map, blk] at hk ⊢
            have : (a.add (lo * s)).block = a.block := by unfold Addr.add; split <;> rfl
            rwa [this] at hk
  · intro w hw
    obtain ⟨h1, h2, h3, h4, h5⟩ := hw
    have hlen : ((cs.drop (lo * s)).take ((hi - lo) * s)).length = (hi - lo) * s := by
      rw [List.length_take, List.length_drop, h1, ← Nat.sub_mul]
      exact Nat.min_eq_left (Nat.mul_le_mul_right _ (by omega))
    refine ⟨hlen, by omega, by omega, ?_, ?_⟩
    · intro hp
      obtain ⟨a, rfl⟩ := h4 (by rw [List.length_take, List.length_drop] at hp; omega)
      unfold subA; split
      · exact ⟨_, rfl⟩
      · exact ⟨_, rfl⟩
    · intro a ha j u hu
      have hj : j < (hi - lo) * s := by
        rcases Nat.lt_or_ge j ((hi - lo) * s) with hj | hj
        · exact hj
        · rw [List.getElem?_eq_none (by rw [hlen]; exact hj)] at hu; cases hu
      have hu' : cs[lo * s + j]? = some u := by
        rw [List.getElem?_take, if_pos hj, List.getElem?_drop] at hu; exact hu
      unfold subA at ha
      split at ha
      · rename_i hc
        have : hi - lo = 0 := by omega
        rw [this] at hj; simp at hj
      · cases A with
        | none => simp at ha
        | some a0 =>
          simp at ha
          subst ha
          rw [add_add]
          exact h5 a0 rfl _ u hu'

/-! ### Steps of the memory -/
theorem St.newC {S : List Nat} {w0 w : World} {l r : List Chunk} (h : St S w0 w l r) (o : Obj) {c : Chunk} (hc : c.holds (w.alloc o)) (hf : ∀ k ∈ c.fp, k = w.heap.size) : St S w0 (w.alloc o) (c :: l) r := by
  have k : St (fps []) w (w.alloc o) [c] [] := by
    refine ⟨rfl, rfl, rfl, by simp, fun j hj _ => heap_alloc_old w o hj, ?_, ?_, ?_, ?_, ?_⟩
    · intro d hd; obtain rfl := List.mem_singleton.1 hd; exact hc
    · intro d hd; cases hd
    · simp
    · intro d hd e he; cases he
    · intro d hd j hj; obtain rfl := List.mem_singleton.1 hd; exact .inr (Nat.le_of_eq (hf j hj).symm)
  exact St.part (l0 := []) (l0' := [c]) (by simpa using h) k
theorem St.write {S : List Nat} {w0 w w' : World} {l l1 r : List Chunk} {c c' : Chunk} (h : St S w0 w l r) (hp : Pick c l l1) (hos : w'.os = w.os) (htape : w'.tape = w.tape) (hout : w'.output = w.output) (hsize : w.heap.size ≤ w'.heap.size)
    (hframe : ∀ k, k < w.heap.size → k ∉ c.fp → w'.heap[k]? = w.heap[k]?) (hc : c'.holds w') (hf : ∀ k ∈ c'.fp, k ∈ c.fp ∨ w.heap.size ≤ k) : St S w0 w' (c' :: l1) r := by
  have hfps : fps [c] = c.fp := by simp [fps]
  have k : St (fps [c]) w w' [c'] [] := by
    refine ⟨hos, htape, hout, hsize, fun j hj hn => hframe j hj (by rwa [hfps] at hn), ?_, ?_, ?_, ?_, ?_⟩
    · intro d hd; obtain rfl := List.mem_singleton.1 hd; exact hc
    · intro d hd; cases hd
    · simp
    · intro d hd e he; cases he
    · intro d hd j hj; obtain rfl := List.mem_singleton.1 hd; rw [hfps]; exact hf j hj
  exact St.part (l0 := [c]) (l0' := [c']) (h.perm hp.perm) k
theorem St.weakdrop {S : List Nat} {w0 w : World} {c : Chunk} {l r : List Chunk} (h : St S w0 w (c :: l) r) : St S w0 w l r :=
  St.drop (l' := [c]) (h.perm (by simpa using (List.perm_append_comm (l₁ := [c]) (l₂ := l))))

theorem heap_setCell_same (w : World) (g o : Nat) (v : Value) (cs : List Value) (T : TypeId) (h : w.heap[g]? = some (.cells cs.toArray T (0, 0))) :
    (w.setCell ⟨g, o, none⟩ v).heap[g]? = some (.cells (cs.set o v).toArray T (0, 0)) := by
  simp [World.setCell, Array.getElem?_modify, h]
theorem run_store_cell (P : Program) (w : World) (g o : Nat) (v old : Value) (cs : List Value) (T : TypeId) (h : w.heap[g]? = some (.cells cs.toArray T (0, 0))) (ho : cs[o]? = some old) (h1 : v.oneCell' = true) :
    (store ⟨g, o, none⟩ v).run P w = .ok () (w.setCell ⟨g, o, none⟩ v) := by
  have hc : w.cell? ⟨g, o, none⟩ = some old := by rw [cell_of_row w g o _ T _ h]; simpa using ho
  have hz : w.frozen? ⟨g, o, none⟩ = false := by simp [World.frozen?, h]
  cases v <;> first | (simp [Value.oneCell'] at h1; done) | simp [store, Sem.run, hc, hz]
theorem oneCell_cells {v : Value} (h : v.oneCell' = true) : v.cells = #[v] := by cases v <;> first | rfl | (simp [Value.oneCell'] at h)

section
variable {P : Program} {S : List Nat} {w0 : World} {r : List Chunk} {e : Env} {l cs : List Chunk} {T : TypeId} {pos : String} {af : Array Edge} {gu : Option (Nat × Bool)} {d : Option Tmp}

/-- A variable that is asked for by address: made with its zero value. -/
theorem Stp.alloc {el : TypeId} {z : Value} {sz by_ : Nat} [hi : Inf P el z sz by_] :
    Stp P S w0 r ⟨d, .alloc el, T, pos, af, gu⟩ e l (fun v l' => ∃ g, v = .pointer (some ⟨g, 0, none⟩) ∧ l' = cellsC g el z.cells.toList :: l) := by
  refine Stp.of (by intro _ hq; cases hq) fun n a w K Q he hs h => ?_
  unfold Oper.wp
  have hrun : (execOp a.eval ⟨d, .alloc el, T, pos, af, gu⟩).run P w = .ok (.value (.pointer (some ⟨w.heap.size, 0, none⟩))) (w.alloc (.cells z.cells el)) := by
    simp [execOp, Instr.alloc, hi.run_zero, newVar, newRow]
  rw [hrun]
  refine h _ _ _ ⟨_, rfl, rfl⟩ (hs.newC _ ?_ (fun k hk => by simpa [cellsC] using hk))
  show (w.alloc _).heap[w.heap.size]? = _
  rw [heap_alloc_new]
theorem Stp.box {el : TypeId} {x : Operand} {v : Value} (hx : ev e x = some v) :
    Stp P S w0 r ⟨d, .box el x, T, pos, af, gu⟩ e l (fun u l' => ∃ g, u = .pointer (some ⟨g, 0, none⟩) ∧ l' = cellsC g el v.cells.toList :: l) := by
  refine Stp.of (by intro _ hq; cases hq) fun n a w K Q he hs h => ?_
  unfold Oper.wp
  have hrun : (execOp a.eval ⟨d, .box el x, T, pos, af, gu⟩).run P w = .ok (.value (.pointer (some ⟨w.heap.size, 0, none⟩))) (w.alloc (.cells v.cells el)) := by
    simp [execOp, Instr.box, he.eval hx, newVar, newRow]
  rw [hrun]
  refine h _ _ _ ⟨_, rfl, rfl⟩ (hs.newC _ ?_ (fun k hk => by simpa [cellsC] using hk))
  show (w.alloc _).heap[w.heap.size]? = _
  rw [heap_alloc_new]
/-- A new row is a slice's own array. -/
theorem St.newRow {w : World} (hs : St S w0 w l r) (el : TypeId) (arr : Array Value) (s n : Nat) (hn : arr.size = n * s) (hm : n ≤ maxLen) :
    St S w0 (w.alloc (.cells arr el)) (rowC (some ⟨w.heap.size, 0, none⟩) n el s n arr.toList :: l) r := by
  refine hs.newC _ ?_ (fun k hk => by simpa [rowC, blk] using hk)
  refine ⟨by simpa using hn, .inr ⟨w.heap.size, n, arr, rfl, Nat.zero_le _, ?_, Nat.le_refl _, hm, hn, ?_⟩⟩
  · exact heap_alloc_new w _
  · rw [List.take_of_length_le (by simp [hn])]
def seqParts : Nat → List (Nat × Operand) → Option (List Operand)
  | _, [] => some []
  | i, (j, x) :: ps => match Nat.beq i j, seqParts (i + 1) ps with
    | true, some xs => some (x :: xs)
    | _, _ => none
theorem seqParts_spec : ∀ (ps : List (Nat × Operand)) (i : Nat) (xs : List Operand), seqParts i ps = some xs → ps = xs.zipIdx.map (fun q => (q.2 + i, q.1)) ∧ ps.length = xs.length := by
  intro ps
  induction ps with
  | nil => intro i xs h; simp [seqParts] at h; subst h; simp
  | cons q ps ih =>
    intro i xs h
    obtain ⟨j, x⟩ := q
    simp only [seqParts] at h
    split at h
    · rename_i ys hb hys
      injection h with h
      subst h
      obtain ⟨h1, h2⟩ := ih (i + 1) ys hys
      have hij : i = j := Nat.eq_of_beq_eq_true hb
      subst hij
      refine ⟨?_, by simp [h2]⟩
      rw [h1, List.zipIdx_cons, List.map_cons]
      congr 1
      · simp
      · rw [List.zipIdx_succ, List.map_map]
        apply List.map_congr_left
        intro q _
        simp
        omega
    · cases h
theorem fill_seq (place : Nat → Option (Nat × Nat)) (hpl : ∀ i, place i = some (i, 1)) : ∀ (vs : List Value) (i : Nat) (cells : Array Value), (∀ v ∈ vs, v.oneCell' = true) → i + vs.length ≤ cells.size →
    Instr.fill place cells (vs.zipIdx.map (fun q => (q.2 + i, q.1))) = some (cells.toList.take i ++ vs ++ cells.toList.drop (i + vs.length)).toArray := by
  intro vs
  induction vs with
  | nil => intro i cells _ _; simp [Instr.fill]
  | cons v vs ih =>
    intro i cells hv hl
    have hc := oneCell_cells (hv v List.mem_cons_self)
    simp only [List.length_cons] at hl
    rw [List.zipIdx_cons, List.map_cons]
    have hsz : v.cells.size = 1 := by rw [hc]; rfl
    simp only [Instr.fill, Nat.zero_add, hpl, hsz]
    rw [if_neg (by simp; omega), List.zipIdx_succ, List.map_map]
    have e1 : (List.map ((fun q : Value × Nat => (q.2 + i, q.1)) ∘ fun x => match x with | (v, i) => (v, i + 1)) vs.zipIdx) = vs.zipIdx.map (fun q => (q.2 + (i + 1), q.1)) := by
      apply List.map_congr_left
      intro q _
      simp; omega
    rw [e1]
    have e2 : (v.cells.zipIdx.foldl (fun cs (c, j) => cs.setIfInBounds (i + j) c) cells) = cells.setIfInBounds i v := by rw [hc]; simp
    simp only [e2]
    rw [ih (i + 1) _ (fun u hu => hv u (List.mem_cons_of_mem _ hu)) (by simp; omega)]
    congr 2
    simp only [Array.toList_setIfInBounds]
    have hi : i < cells.toList.length := by simp; omega
    rw [List.take_succ_eq_append_getElem (by simpa using hi)]
    simp only [List.getElem_set_self, List.append_assoc, List.singleton_append, List.cons_append]
    rw [List.take_set_of_le (Nat.le_refl _), List.drop_set_of_lt (by omega)]
    simp [Nat.add_comm, Nat.add_left_comm]
/-- A slice literal of elements of one cell each. -/
theorem Stp.buildSlice {t el : TypeId} {z : Value} {by_ m : Nat} {ps : List (Nat × Operand)} {xs : List Operand} {vs : List Value} [hu : Und P t (.slice el)] [hi : Inf P el z 1 by_]
    (hp : seqParts 0 ps = some xs) (hv : evs e xs = some vs) (hm : Nat.beq m ps.length = true) (hle : Nat.ble m 16777216 = true) (h1 : ∀ v ∈ vs, v.oneCell' = true) (hz : z.cells.size = 1) :
    Stp P S w0 r ⟨d, .buildSlice t m ps.toArray, T, pos, af, gu⟩ e l (fun v l' => ∃ g, v = .slice (some ⟨g, 0, none⟩) m m ∧ l' = rowC (some ⟨g, 0, none⟩) m el 1 m vs :: l) := by
  refine Stp.of (by intro _ hq; cases hq) fun n a w K Q he hs h => ?_
  obtain ⟨hps, hlen⟩ := seqParts_spec ps 0 xs hp
  have hml : m = ps.length := Nat.eq_of_beq_eq_true hm
  have hvs : xs.map a.eval = vs := he.evals hv
  have hvl : vs.length = m := by rw [← hvs, List.length_map, hml, hlen]
  have hle' : m ≤ 16777216 := Nat.le_of_ble_eq_true hle
  unfold Oper.wp
  have hparts : (ps.toArray.map fun (q : Nat × Operand) => (q.1, a.eval q.2)).toList = vs.zipIdx.map (fun q => (q.2 + 0, q.1)) := by
    rw [hps, ← hvs]
    simp [List.zipIdx_map]
  have hfill := fill_seq (fun i => some (i * 1, 1)) (fun i => by simp) vs 0 ((Array.range (m * 1)).map ((if m * 1 = 0 then #[] else z.cells)[· % (if m * 1 = 0 then #[] else z.cells).size]!)) h1 (by simp [hvl])
  have hdrop : ((Array.range (m * 1)).map ((if m * 1 = 0 then #[] else z.cells)[· % (if m * 1 = 0 then #[] else z.cells).size]!)).toList.drop (0 + vs.length) = [] := List.drop_eq_nil_of_le (by simp [hvl])
  rw [hdrop, ← hparts] at hfill
  simp only [List.take_zero, List.nil_append, List.append_nil] at hfill
  have hrun : (execOp a.eval ⟨d, .buildSlice t m ps.toArray, T, pos, af, gu⟩).run P w = .ok (.value (.slice (some ⟨w.heap.size, 0, none⟩) m m)) (w.alloc (.cells vs.toArray el)) := by
    have hnot : ¬ m * 1 > 2 ^ 24 := by omega
    have hsame : (ps.toArray.map fun x => match x with | (i, x) => (i, a.eval x)) = (ps.toArray.map fun (q : Nat × Operand) => (q.1, a.eval q.2)) := rfl
    simp only [execOp, Instr.buildSlice, Sem.run_bind, hu.run, Result.andThen_ok, hi.run_size, hsame]
    rw [if_neg hnot]
    by_cases h0 : m * 1 = 0
    · rw [if_pos h0]
      simp only [if_pos h0] at hfill
      simp only [Sem.run_bind, Sem.run_pure, Result.andThen_ok, hfill]
      simp [newRow]
    · rw [if_neg h0]
      simp only [if_neg h0] at hfill
      simp only [Sem.run_bind, hi.run_zero, Sem.run_pure, Result.andThen_ok, hfill]
      simp [newRow]
  rw [hrun]
  have hnew := hs.newRow el vs.toArray 1 m (by simp [hvl]) (by simp only [maxLen]; omega)
  exact h _ _ _ ⟨_, rfl, rfl⟩ hnew
end
section
variable {P : Program} {S : List Nat} {w0 : World} {r : List Chunk} {e : Env} {l cs : List Chunk} {T : TypeId} {pos : String} {af : Array Edge} {gu : Option (Nat × Bool)} {d : Option Tmp}

def plainD : TypeDesc → Bool
  | .struct _ => false
  | .array _ _ => false
  | _ => true
theorem Und.run_agg {t : TypeId} {ds : TypeDesc} (h : Und P t ds) (hp : plainD ds = true) (w : World) : (isAgg t).run P w = .ok false w := by
  cases ds <;> first | (simp [plainD] at hp; done) | simp [isAgg, h.run]
theorem Und.run_agg' {t : TypeId} {ds : TypeDesc} (h : Und P t ds) (hp : plainD ds = false) (w : World) : (isAgg t).run P w = .ok true w := by
  cases ds <;> first | (simp [plainD] at hp; done) | simp [isAgg, h.run]

/-! addresses -/
theorem Ev.indexAddr {t el : TypeId} {z : Value} {sz by_ n c : Nat} {A : Option Addr} {k : IntKind} {i : Int} {x y : Operand} {s : Nat} {us : List Value} [hu : Und P t (.slice el)] [hi : Inf P el z sz by_]
    (hx : ev e x = some (.slice A n c)) (hy : ev e y = some (.int k i)) (hr : Rd (sliceC A c s n us) cs) (hb : 0 ≤ i ∧ i < n) (hs : 0 < s) :
    Ev P e cs ⟨d, .indexAddr t x y, T, pos, af, gu⟩ (ptrAt A (i.toNat * sz)) := by
  refine ⟨(by intro _ hq; cases hq), fun m a w he hc => ?_⟩
  have hh := hr.holds hc
  obtain ⟨h1, _, _, h4, _⟩ := hr.holds hc
  have hp : 0 < n * s := Nat.mul_pos (by omega) hs
  obtain ⟨ad, rfl⟩ := h4 (by rw [h1]; exact hp)
  rw [ptrAt_some ad _ (sliceC_spot hh (by rw [h1]; exact hp))]
  simp [execOp, Instr.indexAt, he.eval hx, he.eval hy, asIntOf, hu.run, hi.run_size, hb]
theorem Ev.indexAddr1 {t el : TypeId} {z : Value} {by_ n c : Nat} {A : Option Addr} {k : IntKind} {i : Int} {x y : Operand} {us : List Value} [hu : Und P t (.slice el)] [hi : Inf P el z 1 by_]
    (hx : ev e x = some (.slice A n c)) (hy : ev e y = some (.int k i)) (hr : Rd (sliceC A c 1 n us) cs) (hb : 0 ≤ i ∧ i < n) :
    Ev P e cs ⟨d, .indexAddr t x y, T, pos, af, gu⟩ (ptrAt A i.toNat) := by
  have := Ev.indexAddr (P := P) (t := t) (d := d) (T := T) (pos := pos) (af := af) (gu := gu) hx hy hr hb (by omega)
  rwa [Nat.mul_one] at this
/-- An element that is one cell. -/
theorem Ev.loadAt {t : TypeId} {ds : TypeDesc} {A : Option Addr} {c s n k : Nat} {x : Operand} {us : List Value} {v : Value} [hu : Und P t ds] (hp : plainD ds = true)
    (hx : ev e x = some (ptrAt A k)) (hr : Rd (sliceC A c s n us) cs) (hk : us[k]? = some v) : Ev P e cs ⟨d, .load t x, T, pos, af, gu⟩ v := by
  refine ⟨(by intro _ hq; cases hq), fun m a w he hc => ?_⟩
  have hh := hr.holds hc
  obtain ⟨_, _, _, h4, h5⟩ := hr.holds hc
  have h0 : 0 < us.length := by have := (List.getElem?_eq_some_iff.1 hk).1; omega
  obtain ⟨ad, rfl⟩ := h4 h0
  rw [ptrAt_some ad _ (sliceC_spot hh h0)] at hx
  have := h5 ad rfl k v hk
  simp [execOp, Instr.loadAt, Instr.sureAddr, he.eval hx, loadVar, hu.run_agg hp, this]
/-- A field of an element. -/
theorem Ev.loadAtF {t : TypeId} {ds : TypeDesc} {A : Option Addr} {c s n k o : Nat} {x : Operand} {us : List Value} {v : Value} [hu : Und P t ds] (hp : plainD ds = true)
    (hx : ev e x = some (.pointer (some ⟨ablk A, aoff A + k + o, none⟩))) (hr : Rd (sliceC A c s n us) cs) (hk : us[k + o]? = some v) : Ev P e cs ⟨d, .load t x, T, pos, af, gu⟩ v :=
  Ev.loadAt (A := A) (k := k + o) hp (by rw [hx, Nat.add_assoc]; rfl) hr hk
/-- An element of several cells. -/
theorem Ev.loadAtAgg {t : TypeId} {ds : TypeDesc} {z : Value} {sz by_ : Nat} {A : Option Addr} {c s n k : Nat} {x : Operand} {us : List Value} [hu : Und P t ds] [hi : Inf P t z sz by_] (hp : plainD ds = false)
    (hx : ev e x = some (ptrAt A k)) (hr : Rd (sliceC A c s n us) cs) (hk : k + sz ≤ us.length) (h0 : 0 < sz) : Ev P e cs ⟨d, .load t x, T, pos, af, gu⟩ (.agg ((us.drop k).take sz).toArray) := by
  refine ⟨(by intro _ hq; cases hq), fun m a w he hc => ?_⟩
  have hh := hr.holds hc
  obtain ⟨_, _, _, h4, h5⟩ := hr.holds hc
  obtain ⟨ad, rfl⟩ := h4 (by omega)
  rw [ptrAt_some ad _ (sliceC_spot hh (by omega))] at hx
  have hl : ((us.drop k).take sz).length = sz := by rw [List.length_take, List.length_drop]; omega
  have hload : (loadCells (ad.add k) sz).run P w = .ok ((us.drop k).take sz).toArray w := by
    have := run_loadCells_list (P := P) w (ad.add k) ((us.drop k).take sz) (fun j v hv => by
      rw [add_add]
      refine h5 ad rfl _ v ?_
      rw [List.getElem?_take] at hv
      split at hv
      · rw [List.getElem?_drop] at hv; exact hv
      · cases hv)
    rwa [hl] at this
  simp [execOp, Instr.loadAt, Instr.sureAddr, he.eval hx, loadVar, hu.run_agg' hp, hi.run_size, hload]
theorem Ev.loadAtFAgg {t : TypeId} {ds : TypeDesc} {z : Value} {sz by_ : Nat} {A : Option Addr} {c s n k o : Nat} {x : Operand} {us : List Value} [hu : Und P t ds] [hi : Inf P t z sz by_] (hp : plainD ds = false)
    (hx : ev e x = some (.pointer (some ⟨ablk A, aoff A + k + o, none⟩))) (hr : Rd (sliceC A c s n us) cs) (hk : k + o + sz ≤ us.length) (h0 : 0 < sz) : Ev P e cs ⟨d, .load t x, T, pos, af, gu⟩ (.agg ((us.drop (k + o)).take sz).toArray) :=
  Ev.loadAtAgg (A := A) (k := k + o) hp (by rw [hx, Nat.add_assoc]; rfl) hr hk h0
/-- A field of what is known whole. -/
theorem Ev.load {t : TypeId} {ds : TypeDesc} {g o : Nat} {T' : TypeId} {x : Operand} {us : List Value} {v : Value} [hu : Und P t ds] (hp : plainD ds = true)
    (hx : ev e x = some (.pointer (some ⟨g, o, none⟩))) (hr : Rd (cellsC g T' us) cs) (hk : us[o]? = some v) : Ev P e cs ⟨d, .load t x, T, pos, af, gu⟩ v := by
  refine ⟨(by intro _ hq; cases hq), fun m a w he hc => ?_⟩
  have h : w.heap[g]? = some (.cells us.toArray T' (0, 0)) := hr.holds hc
  have := cell_of_row w g o _ T' _ h
  simp at this
  rw [hk] at this
  simp [execOp, Instr.loadAt, Instr.sureAddr, he.eval hx, loadVar, hu.run_agg hp, this]
theorem Ev.loadAgg {t : TypeId} {ds : TypeDesc} {z : Value} {sz by_ : Nat} {g o : Nat} {T' : TypeId} {x : Operand} {us : List Value} [hu : Und P t ds] [hi : Inf P t z sz by_] (hp : plainD ds = false)
    (hx : ev e x = some (.pointer (some ⟨g, o, none⟩))) (hr : Rd (cellsC g T' us) cs) (hk : o + sz ≤ us.length) : Ev P e cs ⟨d, .load t x, T, pos, af, gu⟩ (.agg ((us.drop o).take sz).toArray) := by
  refine ⟨(by intro _ hq; cases hq), fun m a w he hc => ?_⟩
  have h : w.heap[g]? = some (.cells us.toArray T' (0, 0)) := hr.holds hc
  have hl : ((us.drop o).take sz).length = sz := by rw [List.length_take, List.length_drop]; omega
  have hload : (loadCells ⟨g, o, none⟩ sz).run P w = .ok ((us.drop o).take sz).toArray w := by
    have := run_loadCells_list (P := P) w ⟨g, o, none⟩ ((us.drop o).take sz) (fun j v hv => by
      rw [add_lit, cell_of_row w g _ _ T' _ h]
      rw [List.getElem?_take] at hv
      split at hv
      · rw [List.getElem?_drop] at hv; simpa using hv
      · cases hv)
    rwa [hl] at this
  simp [execOp, Instr.loadAt, Instr.sureAddr, he.eval hx, loadVar, hu.run_agg' hp, hi.run_size, hload]
theorem Ev.fieldAddr {t : TypeId} {fs : Array Field} {fd : Field} {f g o : Nat} {z : Value} {sz by_ : Nat} {x : Operand} [hu : Und P t (.struct fs)]
    (hx : ev e x = some (.pointer (some ⟨g, o, none⟩))) (hf : fs[f]? = some fd) (hi : Inf P fd.type z sz by_) (h0 : 0 < sz) : Ev P e cs ⟨d, .fieldAddr t x f, T, pos, af, gu⟩ (.pointer (some ⟨g, o + fd.offset, none⟩)) := by
  refine ⟨(by intro _ hq; cases hq), fun m a w he _ => ?_⟩
  have hne : sz ≠ 0 := by omega
  simp [execOp, Instr.fieldAt, hu.run, hf, Instr.sureAddr, he.eval hx, fieldPlace, hi.run_size, hne, add_lit]
theorem Ev.nilCheck {x : Operand} {ad : Addr} (hx : ev e x = some (.pointer (some ad))) : Ev P e cs ⟨d, .nilCheck x, T, pos, af, gu⟩ (.pointer (some ad)) := by
  refine ⟨(by intro _ hq; cases hq), fun m a w he _ => ?_⟩; simp [execOp, he.eval hx]
theorem Ev.nilCheckF {x : Operand} {f : FuncId} {us vs : Array Value} (hx : ev e x = some (.func (.func f) us vs)) : Ev P e cs ⟨d, .nilCheck x, T, pos, af, gu⟩ (.func (.func f) us vs) := by
  refine ⟨(by intro _ hq; cases hq), fun m a w he _ => ?_⟩; simp [execOp, he.eval hx]
theorem Ev.field {t : TypeId} {fs : Array Field} {fd : Field} {ds : TypeDesc} {f : Nat} {x : Operand} {us : List Value} {v : Value} [hu : Und P t (.struct fs)]
    (hx : ev e x = some (.agg us.toArray)) (hf : fs[f]? = some fd) (hd : Und P fd.type ds) (hp : plainD ds = true) (hv : us[fd.offset]? = some v) : Ev P e cs ⟨d, .field t x f, T, pos, af, gu⟩ v := by
  refine ⟨(by intro _ hq; cases hq), fun m a w he _ => ?_⟩
  simp [execOp, Instr.field, hu.run, hf, he.eval hx, asAgg, part, hd.run_agg hp, hv]
theorem Ev.fieldAgg {t : TypeId} {fs : Array Field} {fd : Field} {ds : TypeDesc} {f : Nat} {z : Value} {sz by_ : Nat} {x : Operand} {us : List Value} [hu : Und P t (.struct fs)]
    (hx : ev e x = some (.agg us.toArray)) (hf : fs[f]? = some fd) (hd : Und P fd.type ds) (hi : Inf P fd.type z sz by_) (hp : plainD ds = false) : Ev P e cs ⟨d, .field t x f, T, pos, af, gu⟩ (.agg ((us.drop fd.offset).take sz).toArray) := by
  refine ⟨(by intro _ hq; cases hq), fun m a w he _ => ?_⟩
  simp [execOp, Instr.field, hu.run, hf, he.eval hx, asAgg, part, hd.run_agg' hp, hi.run_size, List.extract_eq_take_drop]

/-! slices of slices -/
theorem Ev.sliceHi {t el : TypeId} {z : Value} {sz by_ n c : Nat} {A : Option Addr} {k : IntKind} {hi : Int} {x y : Operand} [hu : Und P t (.slice el)] [hinf : Inf P el z sz by_]
    (hx : ev e x = some (.slice A n c)) (hy : ev e y = some (.int k hi)) (hb : 0 ≤ hi ∧ hi ≤ c) : Ev P e cs ⟨d, .slice t x none (some y) none, T, pos, af, gu⟩ (.slice A hi.toNat c) := by
  refine ⟨(by intro _ hq; cases hq), fun m a w he _ => ?_⟩
  have h0 : ∀ A : Option Addr, A.map (fun x => x.add 0) = A := by intro A; cases A <;> simp [Addr.add]
  simp [execOp, Instr.sliceAt, hu.run, Instr.slice, he.eval hx, he.eval hy, Instr.sliceBounds, Instr.sliceBound, asIntOf, hb, hinf.run_size, h0]
theorem Ev.sliceLo {t el : TypeId} {z : Value} {sz by_ n c : Nat} {A : Option Addr} {k : IntKind} {lo : Int} {x y : Operand} [hu : Und P t (.slice el)] [hinf : Inf P el z sz by_]
    (hx : ev e x = some (.slice A n c)) (hy : ev e y = some (.int k lo)) (hb : 0 ≤ lo ∧ lo ≤ n) : Ev P e cs ⟨d, .slice t x (some y) none none, T, pos, af, gu⟩ (.slice (subA A c lo.toNat sz) (n - lo.toNat) (c - lo.toNat)) := by
  refine ⟨(by intro _ hq; cases hq), fun m a w he _ => ?_⟩
  simp [execOp, Instr.sliceAt, hu.run, Instr.slice, he.eval hx, he.eval hy, Instr.sliceBounds, Instr.sliceBound, asIntOf, hb, hinf.run_size, subA]
theorem Ev.slice2 {t el : TypeId} {z : Value} {sz by_ n c : Nat} {A : Option Addr} {k k' : IntKind} {lo hi : Int} {x y y' : Operand} [hu : Und P t (.slice el)] [hinf : Inf P el z sz by_]
    (hx : ev e x = some (.slice A n c)) (hy : ev e y = some (.int k lo)) (hy' : ev e y' = some (.int k' hi)) (hb : 0 ≤ lo ∧ lo ≤ hi ∧ hi ≤ c) :
    Ev P e cs ⟨d, .slice t x (some y) (some y') none, T, pos, af, gu⟩ (.slice (subA A c lo.toNat sz) (hi.toNat - lo.toNat) (c - lo.toNat)) := by
  refine ⟨(by intro _ hq; cases hq), fun m a w he _ => ?_⟩
  have h1 : 0 ≤ hi := by omega
  have h2 : lo ≤ hi.toNat := by omega
  have h3 : ¬ (max hi 0 < lo) := by omega
  simp [execOp, Instr.sliceAt, hu.run, Instr.slice, he.eval hx, he.eval hy, he.eval hy', Instr.sliceBounds, Instr.sliceBound, asIntOf, hb, h1, h2, h3, hinf.run_size, subA]
/-- A whole array as a slice. -/
theorem Ev.sliceArr {t el : TypeId} {n : Nat} {x : Operand} {z : Value} {sz by_ : Nat} {ad : Addr} [hu : Und P t (.array n el)] [hinf : Inf P el z sz by_] (hx : ev e x = some (.pointer (some ad))) :
    Ev P e cs ⟨d, .slice t x none none none, T, pos, af, gu⟩ (.slice (some ad) n n) := by
  refine ⟨(by intro _ hq; cases hq), fun m a w he _ => ?_⟩
  have h0 : ad.add 0 = ad := by simp [Addr.add]
  simp [execOp, Instr.sliceAt, hu.run, Instr.sureAddr, he.eval hx, Instr.sliceBounds, hinf.run_size, h0]

/-! stores -/
theorem Stp.store {t : TypeId} {z : Value} {by_ g o : Nat} {T' : TypeId} {x y : Operand} {v old : Value} {us : List Value} {l1 : List Chunk} [hi : Inf P t z 1 by_]
    (hx : ev e x = some (.pointer (some ⟨g, o, none⟩))) (hy : ev e y = some v) (h1 : v.oneCell' = true) (hp : Pick (cellsC g T' us) l l1) (ho : us[o]? = some old) :
    Stp P S w0 r ⟨d, .store t x y, T, pos, af, gu⟩ e l (fun _ l' => l' = cellsC g T' (us.set o v) :: l1) := by
  refine Stp.of (by intro _ hq; cases hq) fun n a w K Q he hs h => ?_
  have hg : w.heap[g]? = some (.cells us.toArray T' (0, 0)) := hs.own _ (hp.perm.mem_iff.2 List.mem_cons_self)
  have hrun : (execOp a.eval ⟨d, .store t x y, T, pos, af, gu⟩).run P w = .ok .skip (w.setCell ⟨g, o, none⟩ v) := by
    have h0 : (⟨g, o, none⟩ : Addr).add 0 = ⟨g, o, none⟩ := by simp [Addr.add]
    simp [execOp, Instr.storeAt, Instr.sureAddr, he.eval hx, he.eval hy, storeVar, oneCell_cells h1, hi.run_size, storeCells, h0, run_store_cell P w g o v old us T' hg ho h1]
  unfold Oper.wp
  rw [hrun]
  refine h _ _ _ rfl (hs.write hp rfl rfl rfl (by simp) (fun k _ hk => ?_) (heap_setCell_same w g o v us T' hg) (fun k hk => .inl hk))
  refine Below.heap_setCell w _ _ k (fun hkg => hk ?_)
  rw [hkg]; simp [cellsC]
/-- A whole struct or array, into what is known whole. -/
theorem Stp.storeAll {t : TypeId} {z : Value} {sz by_ g : Nat} {T' : TypeId} {x y : Operand} {vs : List Value} {us : List Value} {l1 : List Chunk} [hi : Inf P t z sz by_]
    (hx : ev e x = some (.pointer (some ⟨g, 0, none⟩))) (hy : ev e y = some (.agg vs.toArray)) (h1 : ∀ v ∈ vs, v.oneCell' = true) (hp : Pick (cellsC g T' us) l l1) (hv : vs.length = sz) (hl : us.length = sz) :
    Stp P S w0 r ⟨d, .store t x y, T, pos, af, gu⟩ e l (fun _ l' => l' = cellsC g T' vs :: l1) := by
  refine Stp.of (by intro _ hq; cases hq) fun n a w K Q he hs h => ?_
  have hg : w.heap[g]? = some (.cells us.toArray T' (0, 0)) := hs.own _ (hp.perm.mem_iff.2 List.mem_cons_self)
  have hst := run_storeCells_at P g 0 T' vs 0 us.toArray w hg (by simp; omega) h1
  have hset : (us.toArray.toList.take (0 + 0) ++ vs ++ us.toArray.toList.drop (0 + 0 + vs.length)).toArray = vs.toArray := by
    simp [hv, hl]
  rw [hset] at hst
  have hrun : (execOp a.eval ⟨d, .store t x y, T, pos, af, gu⟩).run P w = .ok .skip (w.setRow g vs.toArray) := by
    simp [execOp, Instr.storeAt, Instr.sureAddr, he.eval hx, he.eval hy, storeVar, Value.cells, hi.run_size, hv, hst]
  unfold Oper.wp
  rw [hrun]
  refine h _ _ _ rfl (hs.write hp rfl rfl rfl (by simp [World.setRow]) (fun k _ hk => ?_) (setRow_heap w g _ _ T' _ hg) (fun k hk => .inl hk))
  have hne : g ≠ k := fun hgk => hk (by simp [cellsC, hgk])
  simp [World.setRow, Array.getElem?_modify, hne]
theorem ownsRow_set {w : World} {A : Option Addr} {c n s k : Nat} {T' : TypeId} {us : List Value} {v : Value} (h : w.ownsRow 0 T' s (.slice A n c) n us) (hk : k < us.length) (h1 : v.oneCell' = true) :
    ∃ g, A = some ⟨g, 0, none⟩ ∧ (store ⟨g, k, none⟩ v).run (α := Unit) = (store ⟨g, k, none⟩ v).run ∧ (w.setCell ⟨g, k, none⟩ v).ownsRow 0 T' s (.slice A n c) n (us.set k v) ∧
      (∃ cur : List Value, w.heap[g]? = some (.cells cur.toArray T' (0, 0)) ∧ k < cur.length) := by
  rcases h.2 with h0 | ⟨g, cap, cur, hv, hb, hh, a1, a2, a3, a4⟩
  · have := h.1; rw [h0.2] at this; simp at this; subst this; simp at hk
  · injection hv with hA hn hc
    subst hA
    subst hc
    refine ⟨g, rfl, rfl, ⟨by simpa using h.1, .inr ⟨g, c, cur.setIfInBounds k v, rfl, Nat.zero_le _, ?_, a1, a2, by simpa using a3, ?_⟩⟩, cur.toList, by simpa using hh, ?_⟩
    · have := heap_setCell_same w g k v cur.toList T' (by simpa using hh)
      simpa [← Array.toList_setIfInBounds] using this
    · rw [Array.toList_setIfInBounds, List.take_set, a4]
    · rw [← a4] at hk; rw [List.length_take] at hk; omega
/-- An element of a slice's own array. -/
theorem Stp.storeAt {t : TypeId} {z : Value} {by_ c s n k : Nat} {A : Option Addr} {T' : TypeId} {x y : Operand} {v : Value} {us : List Value} {l1 : List Chunk} [hi : Inf P t z 1 by_]
    (hx : ev e x = some (ptrAt A k)) (hy : ev e y = some v) (h1 : v.oneCell' = true) (hp : Pick (rowC A c T' s n us) l l1) (hk : k < us.length) :
    Stp P S w0 r ⟨d, .store t x y, T, pos, af, gu⟩ e l (fun _ l' => l' = rowC A c T' s n (us.set k v) :: l1) := by
  refine Stp.of (by intro _ hq; cases hq) fun m a w K Q he hs h => ?_
  have hown : w.ownsRow 0 T' s (.slice A n c) n us := hs.own _ (hp.perm.mem_iff.2 List.mem_cons_self)
  obtain ⟨g, rfl, _, hown', cur, hg, hkc⟩ := ownsRow_set hown hk h1
  have hrun : (execOp a.eval ⟨d, .store t x y, T, pos, af, gu⟩).run P w = .ok .skip (w.setCell ⟨g, k, none⟩ v) := by
    have h0 : (⟨g, k, none⟩ : Addr).add 0 = ⟨g, k, none⟩ := by simp [Addr.add]
    have hadd : (⟨g, 0, none⟩ : Addr).add k = ⟨g, k, none⟩ := by rw [add_lit]; simp
    have hx' := hx
    rw [ptrAt_some _ _ rfl] at hx'
    simp [execOp, Instr.storeAt, Instr.sureAddr, he.eval hx', he.eval hy, storeVar, oneCell_cells h1, hi.run_size, storeCells, hadd, h0,
      run_store_cell P w g k v _ cur T' hg (List.getElem?_eq_getElem hkc) h1]
  unfold Oper.wp
  rw [hrun]
  refine h _ _ _ rfl (hs.write hp rfl rfl rfl (by simp) (fun j _ hj => ?_) hown' (fun j hj => .inl hj))
  refine Below.heap_setCell w _ _ j (fun hkg => hj ?_)
  rw [hkg]; simp [rowC, blk]

/-! append -/
/-- append(x, y...): x a slice of one's own, y a slice that may be read. -/
theorem Stp.append {t el : TypeId} {z : Value} {sz by_ n c m c' : Nat} {A A' : Option Addr} {us vs : List Value} {x y : Operand} {l1 : List Chunk} [hu : Und P t (.slice el)] [hi : Inf P el z sz by_]
    (hx : ev e x = some (.slice A n c)) (hy : ev e y = some (.slice A' m c')) (hp : Pick (rowC A c el sz n us) l l1) (hr : Rd (sliceC A' c' sz m vs) (l1 ++ r)) (h1 : ∀ v ∈ vs, v.oneCell' = true)
    (hz : z.cells.size = sz) (hs0 : 0 < sz) (hb0 : 0 < by_) (hby : (n + m) * by_ ≤ 140737488355328) :
    Stp P S w0 r ⟨d, .call ⟨.builtin .append, #[x, y], #[t, t]⟩, T, pos, af, gu⟩ e l (fun v l' => ∃ A2 c2, v = .slice A2 (n + m) c2 ∧ l' = rowC A2 c2 el sz (n + m) (us ++ vs) :: l1) := by
  refine Stp.of (by intro _ hq; cases hq) fun k a w K Q he hs h => ?_
  have hown : w.ownsRow 0 el sz (.slice A n c) n us := hs.own _ (hp.perm.mem_iff.2 List.mem_cons_self)
  have hsl := hs.perm hp.perm
  obtain ⟨g1, g2, g3, g4, g5⟩ := hr.holds (w := w) (fun dd hd => by
    rcases List.mem_append.1 hd with hd | hd
    · exact hsl.own _ (List.mem_cons_of_mem _ hd)
    · exact hsl.ro _ hd)
  have hlim : n + m ≤ 140737488355328 := Nat.le_trans (Nat.le_mul_of_pos_right _ hb0) hby
  obtain ⟨i, hinfo, hiz, his, hib⟩ := hi.ex
  have hrun : ∃ v' w', (Builtin.append_ #[t, t] T #[.slice A n c, .slice A' m c']).run P w = .ok v' w' ∧ w'.ownsRow 0 el sz v' (n + m) (us ++ vs) ∧ w.grownBy w' (Value.slice A n c).ownBlock ∧
      (v'.ownBlock = (Value.slice A n c).ownBlock ∨ v'.ownBlock = some w.heap.size ∨ v'.ownBlock = none) := by
    cases A' with
    | none =>
      have hvs : vs = [] := by
        cases vs with
        | nil => rfl
        | cons v vs => obtain ⟨a, ha⟩ := g4 (by simp); cases ha
      subst hvs
      have hm : m = 0 := by
        rcases Nat.eq_zero_or_pos m with h0 | h0
        · exact h0
        · have : 0 < m * sz := Nat.mul_pos h0 hs0
          rw [← g1] at this; simp at this
      subst hm
      refine ⟨.slice A n c, w, ?_, by simpa using hown, World.grownBy.refl w _, .inl rfl⟩
      have hnc : n ≤ c := by
        rcases hown.2 with ⟨hv, _⟩ | ⟨g, cap, cur, hv, _, _, hnc, _⟩
        · injection hv with _ h2 h3; omega
        · injection hv with _ _ h3; omega
      rcases hown.2 with ⟨hv, _⟩ | ⟨g, cap, cur, hv, _⟩ <;>
        (injection hv with hA; subst hA; simp [Builtin.append_, run_underlying hu.eq, sizeOf, typeInfo, hinfo, Builtin.lenOf, Builtin.firstCells, hnc, storeCells])
    | some ad =>
      obtain ⟨v', w', q1, q2, q3, _, q5⟩ := run_append_own_at (P := P) w 0 t T el i z sz by_ hu.eq hinfo hiz his hib hz hs0 (.slice A n c) n us hown ad m c' vs (by rw [g1]) (g5 ad rfl) h1 (by simp only [maxLen]; omega) hby (Nat.zero_le _)
      exact ⟨v', w', q1, q2, q3, by rcases q5 with q | q; exact .inl q; exact .inr (.inl q)⟩
  obtain ⟨v', w', q1, q2, q3, q4⟩ := hrun
  obtain ⟨A2, c2, rfl⟩ : ∃ A2 c2, v' = .slice A2 (n + m) c2 := by
    rcases q2.2 with ⟨rfl, h0⟩ | ⟨g, cap, cur, rfl, _⟩
    · exact ⟨none, 0, by rw [h0]⟩
    · exact ⟨_, _, rfl⟩
  have hrun' : (execOp a.eval ⟨d, .call ⟨.builtin .append, #[x, y], #[t, t]⟩, T, pos, af, gu⟩).run P w = .ok (.value (.slice A2 (n + m) c2)) w' := by
    simp [execOp, resolve, invoke, builtin, he.eval hx, he.eval hy, q1]
  unfold Oper.wp
  rw [hrun']
  refine h _ _ _ ⟨A2, c2, rfl, rfl⟩ (hs.write hp q3.os q3.tape q3.output q3.size (fun j hj hn => q3.block j hj (fun hjb => hn ?_)) q2 (fun j hj => ?_))
  · cases A with
    | none => simp [Value.ownBlock] at hjb
    | some aa => simp [Value.ownBlock] at hjb; subst hjb; simp [rowC, blk]
  · have hj' : (Value.slice A2 (n + m) c2).ownBlock = some j := by
      cases A2 with
      | none => simp [rowC, blk] at hj
      | some aa => simp [rowC, blk] at hj; simp [Value.ownBlock, hj]
    rw [hj'] at q4
    rcases q4 with q | q | q
    · left
      cases A with
      | none => simp [Value.ownBlock] at q
      | some aa => simp [Value.ownBlock] at q; subst q; simp [rowC, blk]
    · injection q with q; exact .inr (by omega)
    · cases q
/-- append(nil, y...): a new slice. -/
theorem St.nilRow {w : World} (hs : St S w0 w l r) (el : TypeId) (s : Nat) : St S w0 w (rowC none 0 el s 0 [] :: l) r := by
  have k : St (fps []) w w [rowC none 0 el s 0 []] [] := by
    refine ⟨rfl, rfl, rfl, Nat.le_refl _, fun _ _ _ => rfl, ?_, ?_, by simp, ?_, ?_⟩
    · intro c hc; obtain rfl := List.mem_singleton.1 hc; exact World.ownsRow_nil w 0 el s
    · intro c hc; cases hc
    · intro c hc dd hd; cases hd
    · intro c hc j hj; obtain rfl := List.mem_singleton.1 hc; simp [rowC, blk] at hj
  exact St.part (l0 := []) (l0' := [_]) (by simpa using hs) k
theorem Stp.nil {o : Oper} {el : TypeId} {s : Nat} {post : Value → List Chunk → Prop} (h : Stp P S w0 r o e (rowC none 0 el s 0 [] :: l) post) : Stp P S w0 r o e l post :=
  ⟨h.nd, fun n a w K Q he hs k => h.out n a w K Q he (hs.nilRow el s) k⟩

/-! calls -/
theorem Stp.call {f : FuncId} {fn : Func} {c : Code} {xs : List Operand} {vs : List Value} {ts : Array TypeId} {y : Operand} {l0 l1 r0 : List Chunk} {post : Value → List Chunk → Prop}
    (hf : P.funcs[f]? = some fn) (hb : fn.body = some c) (hn : (fn.name == "runtime.NumGoroutine") = false)
    (hy : ev e y = some (.func (.func f) #[] #[])) (hx : evs e xs = some vs) (hsp : Spec P f vs l0 r0 post) (hp : PicksT l0 l l1) (hr : Rds r0 (l1 ++ r)) :
    Stp P S w0 r ⟨d, .call ⟨.value y, xs.toArray, ts⟩, T, pos, af, gu⟩ e l (fun v l' => ∃ l2, post v l2 ∧ l' = l2 ++ l1) := by
  refine Stp.of (by intro _ hq; cases hq) fun n a w K Q he hs h => ?_
  have hs' := hs.picksT hp
  have hcall := hsp.out w (hs'.handed hr)
  have hn' : ¬ fn.name = "runtime.NumGoroutine" := by simpa using hn
  have hargs : (xs.map a.eval).toArray = vs.toArray := by rw [he.evals hx]
  have hrun : (execOp a.eval ⟨d, .call ⟨.value y, xs.toArray, ts⟩, T, pos, af, gu⟩).run P w = .ok (.enter f vs.toArray) w := by
    simp [execOp, resolve, he.eval hy, Deferred.ofValue, invoke, callFunc, hf, hb, hn', hargs]
  unfold Oper.wp
  rw [hrun]
  show Calls P f vs.toArray w _
  refine hcall.mono fun en w' hen => ?_
  obtain ⟨v, l2, rfl, hpost, hst⟩ := hen
  exact h v (l2 ++ l1) w' ⟨l2, hpost, rfl⟩ (hs'.part hst)
end
end Go.SX
/- Regions that draw their order. -/
namespace Go.SX
open Go Go.RowKit
/-- An order that is walked: what is taken first, what comes alone, what comes in either order. -/
inductive DT where
  | nil
  | fl (i : Nat) (t : DT)
  | one (i : Nat) (t : DT)
  | two (i : Nat) (t : DT) (j : Nat) (u : DT)
  | three (i : Nat) (t : DT) (j : Nat) (u : DT) (k : Nat) (v : DT)
def drawOK (ops : Array Oper) : DT → Nat → Array Bool → Bool
  | .nil, m, listed => Nat.beq m 0 && (Region.ready .any ops listed).isEmpty
  | .fl i t, m, listed => Region.free .any ops listed i && (Region.ready .any ops listed).contains i && match m with
    | 0 => false
    | m + 1 => drawOK ops t m (listed.setIfInBounds i true)
  | .one i t, m, listed => (Region.ready .any ops listed == [i]) && match m with
    | 0 => false
    | m + 1 => drawOK ops t m (listed.setIfInBounds i true)
  | .two i t j u, m, listed => (Region.ready .any ops listed == [i, j]) && match m with
    | 0 => false
    | m + 1 => drawOK ops t m (listed.setIfInBounds i true) && drawOK ops u m (listed.setIfInBounds j true)
  | .three i t j u k v, m, listed => (Region.ready .any ops listed == [i, j, k]) && match m with
    | 0 => false
    | m + 1 => drawOK ops t m (listed.setIfInBounds i true) && drawOK ops u m (listed.setIfInBounds j true) && drawOK ops v m (listed.setIfInBounds k true)
def wpDraw (P : Program) (ops : Array Oper) (Q : Exit → Act → World → Prop) (Sh : World → Prop) : DT → Act → World → Prop
  | .nil, a, w => Q .normal a w
  | .fl i t, a, w => ∃ oi v, ops[i]? = some oi ∧ YieldsIf P ops Sh oi v a ∧ wpDraw P ops Q Sh t (a.put oi.dst v) w
  | .one i t, a, w => wpOp P ops Q i (fun a' w' => Sh w' ∧ wpDraw P ops Q Sh t a' w') a w
  | .two i t j u, a, w => wpOp P ops Q i (fun a' w' => Sh w' ∧ wpDraw P ops Q Sh t a' w') a w ∧ wpOp P ops Q j (fun a' w' => Sh w' ∧ wpDraw P ops Q Sh u a' w') a w
  | .three i t j u k v, a, w => wpOp P ops Q i (fun a' w' => Sh w' ∧ wpDraw P ops Q Sh t a' w') a w ∧ wpOp P ops Q j (fun a' w' => Sh w' ∧ wpDraw P ops Q Sh u a' w') a w ∧
      wpOp P ops Q k (fun a' w' => Sh w' ∧ wpDraw P ops Q Sh v a' w') a w
theorem draw_sound {P : Program} {ops : Array Oper} {Q : Exit → Act → World → Prop} {Sh : World → Prop} (hns : Region.noSelect ops = true)
    (hQ : ∀ c a d v w, Q (.panic c) (Act.put a d v) w → Q (.panic c) a w) : ∀ (t : DT) (m : Nat) (listed : Array Bool) (a : Act) (w : World), drawOK ops t m listed = true → Sh w → wpDraw P ops Q Sh t a w →
      wpAnyH P .any ops Q Sh m listed a w := by
  intro t
  induction t with
  | nil =>
    intro m listed a w hok hS h
    simp only [drawOK, Bool.and_eq_true] at hok
    exact wpAnyH_done (by simpa using hok.2) h m
  | fl i t ih =>
    intro m listed a w hok hS h
    simp only [drawOK, Bool.and_eq_true] at hok
    obtain ⟨⟨h1, h2⟩, h3⟩ := hok
    cases m with
    | zero => cases h3
    | succ m =>
      obtain ⟨oi, v, hi, hy, hrest⟩ := h
      exact wpAnyH_take hi hns h1 h2 (fun c a w => hQ c a _ _ w) hy hS (ih m _ _ w h3 hS hrest)
  | one i t ih =>
    intro m listed a w hok hS h
    simp only [drawOK, Bool.and_eq_true] at hok
    obtain ⟨h1, h3⟩ := hok
    cases m with
    | zero => cases h3
    | succ m =>
      refine wpAnyH_all (rs := [i]) (by simpa using h1) (by simp) (fun j hj => ?_)
      obtain rfl : j = i := by simpa using hj
      exact wpOp_mono (fun a' w' hh => ⟨hh.1, ih m _ _ _ h3 hh.1 hh.2⟩) h
  | two i t j u iht ihu =>
    intro m listed a w hok hS h
    simp only [drawOK, Bool.and_eq_true] at hok
    obtain ⟨h1, h3⟩ := hok
    cases m with
    | zero => cases h3
    | succ m =>
      simp only [Bool.and_eq_true] at h3
      refine wpAnyH_all (rs := [i, j]) (by simpa using h1) (by simp) (fun x hx => ?_)
      rcases List.mem_cons.1 hx with rfl | hx
      · exact wpOp_mono (fun a' w' hh => ⟨hh.1, iht m _ _ _ h3.1 hh.1 hh.2⟩) h.1
      · obtain rfl : x = j := by simpa using hx
        exact wpOp_mono (fun a' w' hh => ⟨hh.1, ihu m _ _ _ h3.2 hh.1 hh.2⟩) h.2
  | three i t j u k v iht ihu ihv =>
    intro m listed a w hok hS h
    simp only [drawOK, Bool.and_eq_true] at hok
    obtain ⟨h1, h3⟩ := hok
    cases m with
    | zero => cases h3
    | succ m =>
      simp only [Bool.and_eq_true] at h3
      refine wpAnyH_all (rs := [i, j, k]) (by simpa using h1) (by simp) (fun x hx => ?_)
      rcases List.mem_cons.1 hx with rfl | hx
      · exact wpOp_mono (fun a' w' hh => ⟨hh.1, iht m _ _ _ h3.1.1 hh.1 hh.2⟩) h.1
      rcases List.mem_cons.1 hx with rfl | hx
      · exact wpOp_mono (fun a' w' hh => ⟨hh.1, ihu m _ _ _ h3.1.2 hh.1 hh.2⟩) h.2.1
      · obtain rfl : x = k := by simpa using hx
        exact wpOp_mono (fun a' w' hh => ⟨hh.1, ihv m _ _ _ h3.2 hh.1 hh.2⟩) h.2.2
class Mix (P : Program) : Prop where eq : P.follows .mixedOrders = true

section
variable {P : Program} {n : Nat} {S : List Nat} {w0 : World} {r : List Chunk}
def noDefer (ops : List Oper) : Bool := ops.all fun o => match o.op with
  | .defer _ => false
  | _ => true
theorem noDefer_spec {ops : List Oper} (h : noDefer ops = true) (j : Nat) (o : Oper) (ho : ops.toArray[j]? = some o) (c : Call) : o.op ≠ .defer c := by
  intro hc
  have hm : o ∈ ops := List.mem_of_getElem? (by simpa using ho)
  have := List.all_eq_true.1 h o hm
  rw [hc] at this
  cases this
theorem wpOp_fz {ops : Array Oper} {Q : Exit → Act → World → Prop} {i : Nat} {K : Act → World → Prop} {a : Act} {w : World} (ρ : Option Nat) (hnd : ∀ (j : Nat) (o : Oper), ops[j]? = some o → ∀ c, o.op ≠ .defer c) (hlo : ¬ LetsOut Q)
    (h : wpOp P ops Q i K a w) : wpOpIn (Fz ρ) 0 P ops Q i K a w := by
  unfold wpOp at h
  unfold wpOpIn
  cases ho : ops[i]? with
  | none => rw [ho] at h; exact h
  | some o =>
    rw [ho] at h
    simp only at h ⊢
    split at h
    · rename_i hw
      rw [if_pos hw]
      rcases h with h | h
      · exact owp_fz ρ (hnd i o ho) h
      · exact absurd h.2 hlo
    · rename_i hw
      rw [if_neg hw]
      exact ⟨fun _ _ => trivial, h⟩
theorem wpAny_fz {md : Region.Mode} {ops : Array Oper} {Q : Exit → Act → World → Prop} (ρ : Option Nat) (hnd : ∀ (j : Nat) (o : Oper), ops[j]? = some o → ∀ c, o.op ≠ .defer c) (hlo : ¬ LetsOut Q) :
    ∀ (fuel : Nat) (listed : Array Bool) (a : Act) (w : World), wpAny P md ops Q fuel listed a w → wpAnyIn (Fz ρ) 0 P md ops Q fuel listed a w
  | 0, _, _, _, h => h
  | fuel + 1, _, _, _, h => ⟨h.1, fun i hi => wpOpIn_mono (fun a' w' h' => wpAny_fz ρ hnd hlo fuel _ a' w' h') (wpOp_fz ρ hnd hlo (h.2 i hi))⟩
def Holds (r : List Chunk) (w : World) : Prop := ∀ c ∈ r, c.holds w
structure WD (P : Program) (n : Nat) (S : List Nat) (w0 : World) (r : List Chunk) (ops : Array Oper) (K : QS) (t : DT) (e : Env) (l : List Chunk) : Prop where
  out : ∀ a w, EnvOK n a e → St S w0 w l r → wpDraw P ops (DQ a.defers (den n S w0 r K)) (Holds r) t a w
def drawK (ls : List Chunk) (K : QS) : QS
  | .normal, e, l => K .normal e (ls ++ l)
  | _, _, _ => False
theorem WC.draw {id : Nat} {ops : List Oper} {K : QS} {e : Env} {l ls lx : List Chunk} [hm : Mix P] (t : DT) (hsel : (Region.noSelect ops.toArray && noDefer ops) = true)
    (hok : drawOK ops.toArray t ops.toArray.size (Array.replicate ops.toArray.size false) = true) (hp : Picks ls l lx) (h : WD P n S w0 (ls ++ r) ops.toArray (drawK ls K) t e lx) :
    WC P n S w0 r (.region id ops.toArray true) K e l := by
  rw [Bool.and_eq_true] at hsel
  obtain ⟨hsel, hnd⟩ := hsel
  refine ⟨fun a w he hs ρ => ?_⟩
  have hs' := hs.perm hp.perm
  have hw := h.out a { w with drawn := w.drawn + 1 } he hs'.lend.drew
  have hlo : ¬ LetsOut (DQ a.defers (den n S w0 (ls ++ r) (drawK ls K))) := fun ⟨_, _, _, hq⟩ => hq
  have hreg : (Code.region id ops.toArray true).wpIn (Fz ρ) 0 P (DQ a.defers (den n S w0 (ls ++ r) (drawK ls K))) a w := wpIn_region_any hm.eq (wpAny_fz ρ (noDefer_spec hnd) hlo _ _ _ _ (wpAny_of_held (S := Holds (ls ++ r)) _ _ _ _
    (draw_sound hsel (fun c a d v w hq => hq.2.elim) t _ _ a _ hok (fun c hc => hs'.lend.drew.ro c hc) hw)))
  refine wpIn_mono hreg fun x a' w' hq => ?_
  obtain ⟨hds, hq⟩ := hq
  cases x with
  | normal => obtain ⟨e', l', hk, he', hs2⟩ := hq; exact ⟨hds, e', ls ++ l', hk, he', hs'.back hs2⟩
  | panic c => exact hq.elim
  | outgrown => exact hq.elim
  | exit i => obtain ⟨e', l', hk, _⟩ := hq; exact hk.elim
  | goto i => obtain ⟨e', l', hk, _⟩ := hq; exact hk.elim
  | ret => obtain ⟨e', l', hk, _⟩ := hq; exact hk.elim

theorem WD.nil {ops : Array Oper} {K : QS} {e : Env} {l : List Chunk} (h : K .normal e l) : WD P n S w0 r ops K .nil e l := ⟨fun a w he hs => ⟨rfl, e, l, h, he, hs⟩⟩
theorem WD.next {ops : Array Oper} {ls : List Chunk} {M : Env → List Chunk → Prop} {K : QS} {e : Env} {l : List Chunk} (h : M e (ls ++ l)) : WD P n S w0 r ops (drawK ls (thenK M K)) .nil e l := ⟨fun a w he hs => ⟨rfl, e, l, h, he, hs⟩⟩
theorem WD.ev {ops : Array Oper} {K : QS} {t : DT} {e : Env} {l : List Chunk} {i : Nat} {o : Oper} {d : Tmp} {v : Value} (hi : ops[i]? = some o) (hy : Ev P e r o v) (hg : gd e ops o.guard = some true)
    (ho : o.dst = some d) (hd : Nat.blt d n = true) (h : WD P n S w0 r ops K t ((d, v) :: e) l) : WD P n S w0 r ops K (.fl i t) e l := by
  refine ⟨fun a w he hs => ?_⟩
  refine ⟨o, v, hi, .inl ⟨wanted_of_gd he hg, fun w' hw' => hy.out n a w' he hw'⟩, ?_⟩
  rw [ho]
  exact h.out _ w (he.put hd v) hs
theorem WD.off {ops : Array Oper} {K : QS} {t : DT} {e : Env} {l : List Chunk} {i : Nat} {o : Oper} {d : Tmp} (hi : ops[i]? = some o) (hg : gd e ops o.guard = some false)
    (ho : o.dst = some d) (hd : Nat.blt d n = true) (h : WD P n S w0 r ops K t ((d, undef) :: e) l) : WD P n S w0 r ops K (.fl i t) e l := by
  refine ⟨fun a w he hs => ?_⟩
  refine ⟨o, undef, hi, .inr ⟨wanted_of_gd he hg, rfl⟩, ?_⟩
  rw [ho]
  exact h.out _ w (he.put hd undef) hs
/-- One step of a chain, said once for all trees. -/
structure WO (P : Program) (n : Nat) (S : List Nat) (w0 : World) (r : List Chunk) (ops : Array Oper) (K : QS) (i : Nat) (t : DT) (e : Env) (l : List Chunk) : Prop where
  out : ∀ a w, EnvOK n a e → St S w0 w l r → wpOp P ops (DQ a.defers (den n S w0 r K)) i (fun a' w' => Holds r w' ∧ wpDraw P ops (DQ a.defers (den n S w0 r K)) (Holds r) t a' w') a w
theorem WO.stp {ops : Array Oper} {K : QS} {t : DT} {e : Env} {l : List Chunk} {i : Nat} {o : Oper} {d : Tmp} {post : Value → List Chunk → Prop} (hi : ops[i]? = some o) (hy : Stp P S w0 r o e l post) (hg : gd e ops o.guard = some true)
    (ho : o.dst = some d) (hd : Nat.blt d n = true) (h : ∀ v l', post v l' → WD P n S w0 r ops K t ((d, v) :: e) l') : WO P n S w0 r ops K i t e l := by
  refine ⟨fun a w he hs => ?_⟩
  unfold wpOp
  simp only [hi]
  rw [wanted_of_gd he hg, if_pos rfl]
  refine .inl (hy.out n a w _ _ he hs fun v l' w' hp hs' => ⟨fun c hc => hs'.ro c hc, ?_⟩)
  rw [ho]
  exact (h v l' hp).out _ w' (he.put hd v) hs'
theorem WO.stp0 {ops : Array Oper} {K : QS} {t : DT} {e : Env} {l : List Chunk} {i : Nat} {o : Oper} {post : Value → List Chunk → Prop} (hi : ops[i]? = some o) (hy : Stp P S w0 r o e l post) (hg : gd e ops o.guard = some true)
    (ho : o.dst = none) (h : ∀ v l', post v l' → WD P n S w0 r ops K t e l') : WO P n S w0 r ops K i t e l := by
  refine ⟨fun a w he hs => ?_⟩
  unfold wpOp
  simp only [hi]
  rw [wanted_of_gd he hg, if_pos rfl]
  refine .inl (hy.out n a w _ _ he hs fun v l' w' hp hs' => ⟨fun c hc => hs'.ro c hc, ?_⟩)
  rw [ho]
  exact (h v l' hp).out _ w' he hs'
theorem WO.ev {ops : Array Oper} {K : QS} {t : DT} {e : Env} {l : List Chunk} {i : Nat} {o : Oper} {d : Tmp} {v : Value} (hi : ops[i]? = some o) (hy : Ev P e (l ++ r) o v) (hg : gd e ops o.guard = some true)
    (ho : o.dst = some d) (hd : Nat.blt d n = true) (h : WD P n S w0 r ops K t ((d, v) :: e) l) : WO P n S w0 r ops K i t e l := by
  refine ⟨fun a w he hs => ?_⟩
  unfold wpOp
  simp only [hi]
  rw [wanted_of_gd he hg, if_pos rfl]
  refine .inl ?_
  unfold Oper.wp
  rw [hy.out n a w he hs.all]
  simp only [Oper.upon]
  rw [ho]
  exact ⟨fun c hc => hs.ro c hc, h.out _ w (he.put hd v) hs⟩
theorem WO.off {ops : Array Oper} {K : QS} {t : DT} {e : Env} {l : List Chunk} {i : Nat} {o : Oper} {d : Tmp} (hi : ops[i]? = some o) (hg : gd e ops o.guard = some false)
    (ho : o.dst = some d) (hd : Nat.blt d n = true) (h : WD P n S w0 r ops K t ((d, undef) :: e) l) : WO P n S w0 r ops K i t e l := by
  refine ⟨fun a w he hs => ?_⟩
  unfold wpOp
  simp only [hi]
  rw [wanted_of_gd he hg, if_neg (by simp), ho]
  exact ⟨fun c hc => hs.ro c hc, h.out _ w (he.put hd undef) hs⟩
theorem WD.one {ops : Array Oper} {K : QS} {t : DT} {e : Env} {l : List Chunk} {i : Nat} (h : WO P n S w0 r ops K i t e l) : WD P n S w0 r ops K (.one i t) e l := ⟨h.out⟩
theorem WD.two {ops : Array Oper} {K : QS} {t u : DT} {e : Env} {l : List Chunk} {i j : Nat} (h : WO P n S w0 r ops K i t e l) (h' : WO P n S w0 r ops K j u e l) : WD P n S w0 r ops K (.two i t j u) e l :=
  ⟨fun a w he hs => ⟨h.out a w he hs, h'.out a w he hs⟩⟩
theorem WD.three {ops : Array Oper} {K : QS} {t u v : DT} {e : Env} {l : List Chunk} {i j k : Nat} (h : WO P n S w0 r ops K i t e l) (h' : WO P n S w0 r ops K j u e l) (h'' : WO P n S w0 r ops K k v e l) : WD P n S w0 r ops K (.three i t j u k v) e l :=
  ⟨fun a w he hs => ⟨h.out a w he hs, h'.out a w he hs, h''.out a w he hs⟩⟩
theorem WD.shadow {ops : Array Oper} {K : QS} {t : DT} {e : Env} {l : List Chunk} {x : Tmp} {v : Value} (hv : look e x = some v) (h : WD P n S w0 r ops K t ((x, v) :: e) l) : WD P n S w0 r ops K t e l :=
  ⟨fun a w he hs => h.out a w (he.shadow hv) hs⟩
theorem K.norm_draw {ls : List Chunk} {K : QS} {e : Env} {l : List Chunk} (h : K .normal e (ls ++ l)) : drawK ls K .normal e l := h
end
end Go.SX
/- Ways out, bytes, what programs lay. -/
namespace Go.SX
open Go Go.RowKit
section
variable {M : Env → List Chunk → Prop} {K : QS} {e : Env} {l : List Chunk} {i id : Nat}
theorem K.norm_then (h : M e l) : thenK M K .normal e l := h
theorem K.norm_block (h : K .normal e l) : blockK id K .normal e l := h
theorem K.exit_then (h : K (.exit i) e l) : thenK M K (.exit i) e l := h
theorem K.exit_hit (h : K .normal e l) : blockK id K (.exit id) e l := by
  simp only [blockK]
  split
  · exact h
  · rename_i hb; exact absurd rfl (Nat.ne_of_beq_eq_false hb)
theorem K.exit_miss (hb : Nat.beq i id = false) (h : K (.exit i) e l) : blockK id K (.exit i) e l := by
  simp only [blockK, hb]; exact h
theorem K.goto_then (h : K (.goto i) e l) : thenK M K (.goto i) e l := h
theorem K.goto_block (h : K (.goto i) e l) : blockK id K (.goto i) e l := h
theorem K.ret_then (h : K .ret e l) : thenK M K .ret e l := h
theorem K.ret_block (h : K .ret e l) : blockK id K .ret e l := h
end
theorem Inf.of {P : Program} {t : TypeId} {z : Value} {s b : Nat} (h : (P.info? t).map (fun i => (i.zero, i.size, i.bytes)) = some (some z, s, b)) : Inf P t z s b := by
  obtain ⟨i, hi, hq⟩ := Option.map_eq_some_iff.1 h
  simp only [Prod.mk.injEq] at hq
  exact ⟨i, hi, hq.1, hq.2.1, hq.2.2⟩
/-! bytes and whole numbers in memory -/
def u8 (b : UInt8) : Value := .int .u8 (b.toNat : Int)
def u8s (bs : List UInt8) : List Value := bs.map u8
def i64s (xs : List Int) : List Value := xs.map fun x => .int .i64 x
@[simp] theorem u8s_length (bs : List UInt8) : (u8s bs).length = bs.length := by simp [u8s]
@[simp] theorem i64s_length (xs : List Int) : (i64s xs).length = xs.length := by simp [i64s]
theorem u8s_append (a b : List UInt8) : u8s (a ++ b) = u8s a ++ u8s b := by simp [u8s]
theorem i64s_append (a b : List Int) : i64s (a ++ b) = i64s a ++ i64s b := by simp [i64s]
theorem u8s_one (bs : List UInt8) : ∀ v ∈ u8s bs, v.oneCell' = true := by intro v hv; simp only [u8s, List.mem_map] at hv; obtain ⟨b, _, rfl⟩ := hv; rfl
theorem i64s_one (xs : List Int) : ∀ v ∈ i64s xs, v.oneCell' = true := by intro v hv; simp only [i64s, List.mem_map] at hv; obtain ⟨b, _, rfl⟩ := hv; rfl
theorem u8s_get {bs : List UInt8} {k : Nat} (h : k < bs.length) : (u8s bs)[k]? = some (u8 bs[k]) := by simp [u8s, h]
theorem i64s_get {xs : List Int} {k : Nat} (h : k < xs.length) : (i64s xs)[k]? = some (.int .i64 xs[k]) := by simp [i64s, h]
theorem u8s_set (bs : List UInt8) (k : Nat) (b : UInt8) : (u8s bs).set k (u8 b) = u8s (bs.set k b) := by simp [u8s, List.map_set]
theorem i64s_set (xs : List Int) (k : Nat) (x : Int) : (i64s xs).set k (.int .i64 x) = i64s (xs.set k x) := by simp [i64s, List.map_set]
theorem u8s_take (bs : List UInt8) (k : Nat) : (u8s bs).take k = u8s (bs.take k) := by simp [u8s, List.map_take]
theorem u8s_drop (bs : List UInt8) (k : Nat) : (u8s bs).drop k = u8s (bs.drop k) := by simp [u8s, List.map_drop]
/-- Bytes that may be read; bytes of one's own. -/
abbrev bR (A : Option Addr) (c n : Nat) (bs : List UInt8) : Chunk := sliceC A c 1 n (u8s bs)
abbrev bO (A : Option Addr) (c : Nat) (T : TypeId) (n : Nat) (bs : List UInt8) : Chunk := rowC A c T 1 n (u8s bs)
abbrev iR (A : Option Addr) (c n : Nat) (xs : List Int) : Chunk := sliceC A c 1 n (i64s xs)
abbrev iO (A : Option Addr) (c : Nat) (T : TypeId) (n : Nat) (xs : List Int) : Chunk := rowC A c T 1 n (i64s xs)
section
variable {P : Program} {S : List Nat} {w0 : World} {r : List Chunk} {e : Env} {l cs : List Chunk} {T : TypeId} {pos : String} {af : Array Edge} {gu : Option (Nat × Bool)} {d : Option Tmp}
theorem Ev.toStr {s t el : TypeId} {x : Operand} {A : Option Addr} {n c : Nat} {bs : List UInt8} [hs : Und P s (.slice el)] [ht : Und P t .string] [hel : Und P el (.int .u8)] (hx : ev e x = some (.slice A n c)) (hr : Rd (sliceC A c 1 n (u8s bs)) cs) :
    Ev P e cs ⟨d, .convert s t x, T, pos, af, gu⟩ (.string ⟨bs.toArray⟩) := by
  refine ⟨(by intro _ hq; cases hq), fun m a w he hc => ?_⟩
  obtain ⟨h1, h2, h3, h4, h5⟩ := hr.holds hc
  have hn : bs.length = n := by simpa using h1
  subst hn
  have hrun : (convert s t (.slice A bs.length c)).run P w = .ok (.string ⟨bs.toArray⟩) w := by
    cases A with
    | none =>
      have hb : bs = [] := by
        cases bs with
        | nil => rfl
        | cons b bs => obtain ⟨a, ha⟩ := h4 (by simp [u8s]); cases ha
      subst hb
      rw [run_convert_bytes_nil w s el hs.eq hel.eq _ _ t ht.eq]
      rfl
    | some ad =>
      refine run_convert_bytes_back w s t el ad c bs hs.eq hel.eq ht.eq (fun j hj => h5 ad rfl j _ ?_)
      rw [u8s_get hj]; rfl
  simp [execOp, he.eval hx, hrun]
end
end Go.SX
/- What is known of chunks; appends, copies, new slices of bytes and numbers. -/
namespace Go.SX
open Go Go.RowKit
section
variable {P : Program} {n : Nat} {S : List Nat} {w0 : World} {r : List Chunk}
theorem W.fact {ops : Array Oper} {K : QS} {rest : List Oper} {e : Env} {l : List Chunk} {c : Chunk} {φ : Prop} (hc : Rd c (l ++ r)) (hf : ∀ w, c.holds w → φ) (h : φ → W P n S w0 r ops K rest e l) : W P n S w0 r ops K rest e l :=
  ⟨fun a w he hs => (h (hf w (hc.holds hs.all))).out a w he hs⟩
theorem WC.fact {c : Code} {K : QS} {e : Env} {l : List Chunk} {d : Chunk} {φ : Prop} (hc : Rd d (l ++ r)) (hf : ∀ w, d.holds w → φ) (h : φ → WC P n S w0 r c K e l) : WC P n S w0 r c K e l :=
  ⟨fun a w he hs => (h (hf w (hc.holds hs.all))).out a w he hs⟩
theorem Spec.fact {f : FuncId} {args : List Value} {l : List Chunk} {post : Value → List Chunk → Prop} {d : Chunk} {φ : Prop} (hc : Rd d (l ++ r)) (hf : ∀ w, d.holds w → φ) (h : φ → Spec P f args l r post) : Spec P f args l r post :=
  ⟨fun w hs => (h (hf w (hc.holds hs.all))).out w hs⟩
theorem sliceC_len {A : Option Addr} {c s n : Nat} {cs : List Value} (w : World) (h : (sliceC A c s n cs).holds w) : cs.length = n * s ∧ n ≤ c ∧ c ≤ 9223372036854775807 := ⟨h.1, h.2.1, h.2.2.1⟩
theorem bR_len {A : Option Addr} {c n : Nat} {bs : List UInt8} (w : World) (h : (bR A c n bs).holds w) : bs.length = n ∧ n ≤ c ∧ c ≤ 9223372036854775807 := by
  have := sliceC_len w h; simpa using this
theorem iR_len {A : Option Addr} {c n : Nat} {xs : List Int} (w : World) (h : (iR A c n xs).holds w) : xs.length = n ∧ n ≤ c ∧ c ≤ 9223372036854775807 := by
  have := sliceC_len w h; simpa using this
theorem sliceC_nil {A : Option Addr} {c s n : Nat} {cs : List Value} (hA : A = none) (w : World) (h : (sliceC A c s n cs).holds w) : cs = [] := by
  cases cs with
  | nil => rfl
  | cons x xs => obtain ⟨a, ha⟩ := h.2.2.2.1 (by simp); rw [hA] at ha; cases ha
end
section
variable {P : Program} {S : List Nat} {w0 : World} {r : List Chunk} {e : Env} {l cs : List Chunk} {T : TypeId} {pos : String} {af : Array Edge} {gu : Option (Nat × Bool)} {d : Option Tmp}
theorem Ev.loadB {t : TypeId} {A : Option Addr} {c m k : Nat} {x : Operand} {bs : List UInt8} [hu : Und P t (.int .u8)] (hx : ev e x = some (ptrAt A k)) (hr : Rd (bR A c m bs) cs) (hk : k < bs.length) :
    Ev P e cs ⟨d, .load t x, T, pos, af, gu⟩ (u8 (bs.getD k 0)) :=
  Ev.loadAt (ds := .int .u8) rfl hx hr (by rw [u8s_get hk]; simp [List.getD, List.getElem?_eq_getElem hk])
theorem Ev.loadI {t : TypeId} {A : Option Addr} {c m k : Nat} {x : Operand} {xs : List Int} [hu : Und P t (.int .i64)] (hx : ev e x = some (ptrAt A k)) (hr : Rd (iR A c m xs) cs) (hk : k < xs.length) :
    Ev P e cs ⟨d, .load t x, T, pos, af, gu⟩ (.int .i64 (xs.getD k 0)) :=
  Ev.loadAt (ds := .int .i64) rfl hx hr (by rw [i64s_get hk]; simp [List.getD, List.getElem?_eq_getElem hk])
theorem Stp.storeB {t : TypeId} {z : Value} {by_ c m k : Nat} {A : Option Addr} {T' : TypeId} {x y : Operand} {b : UInt8} {bs : List UInt8} {l1 : List Chunk} [hi : Inf P t z 1 by_]
    (hx : ev e x = some (ptrAt A k)) (hy : ev e y = some (u8 b)) (hp : Pick (bO A c T' m bs) l l1) (hk : k < bs.length) :
    Stp P S w0 r ⟨d, .store t x y, T, pos, af, gu⟩ e l (fun _ l' => l' = bO A c T' m (bs.set k b) :: l1) := by
  have := Stp.storeAt (P := P) (S := S) (w0 := w0) (r := r) (d := d) (T := T) (pos := pos) (af := af) (gu := gu) (t := t) hx hy rfl hp (by simpa using hk)
  rwa [u8s_set] at this
theorem Stp.storeI {t : TypeId} {z : Value} {by_ c m k : Nat} {A : Option Addr} {T' : TypeId} {x y : Operand} {b : Int} {xs : List Int} {l1 : List Chunk} [hi : Inf P t z 1 by_]
    (hx : ev e x = some (ptrAt A k)) (hy : ev e y = some (.int .i64 b)) (hp : Pick (iO A c T' m xs) l l1) (hk : k < xs.length) :
    Stp P S w0 r ⟨d, .store t x y, T, pos, af, gu⟩ e l (fun _ l' => l' = iO A c T' m (xs.set k b) :: l1) := by
  have := Stp.storeAt (P := P) (S := S) (w0 := w0) (r := r) (d := d) (T := T) (pos := pos) (af := af) (gu := gu) (t := t) hx hy rfl hp (by simpa using hk)
  rwa [i64s_set] at this
/-- append(x, y...) of bytes. -/
theorem Stp.appendB {t el : TypeId} {z : Value} {by_ n c m c' : Nat} {A A' : Option Addr} {xs ys : List UInt8} {x y : Operand} {l1 : List Chunk} [hu : Und P t (.slice el)] [hi : Inf P el z 1 by_]
    (hx : ev e x = some (.slice A n c)) (hy : ev e y = some (.slice A' m c')) (hp : Pick (bO A c el n xs) l l1) (hr : Rd (bR A' c' m ys) (l1 ++ r)) (hz : z.cells.size = 1) (hb0 : 0 < by_) (hby : (n + m) * by_ ≤ 140737488355328) :
    Stp P S w0 r ⟨d, .call ⟨.builtin .append, #[x, y], #[t, t]⟩, T, pos, af, gu⟩ e l (fun v l' => ∃ A2 c2, v = .slice A2 (n + m) c2 ∧ l' = bO A2 c2 el (n + m) (xs ++ ys) :: l1) := by
  have := Stp.append (P := P) (S := S) (w0 := w0) (t := t) (d := d) (T := T) (pos := pos) (af := af) (gu := gu) hx hy hp hr (u8s_one ys) hz (by omega) hb0 hby
  rwa [← u8s_append] at this
theorem Stp.appendI {t el : TypeId} {z : Value} {by_ n c m c' : Nat} {A A' : Option Addr} {xs ys : List Int} {x y : Operand} {l1 : List Chunk} [hu : Und P t (.slice el)] [hi : Inf P el z 1 by_]
    (hx : ev e x = some (.slice A n c)) (hy : ev e y = some (.slice A' m c')) (hp : Pick (iO A c el n xs) l l1) (hr : Rd (iR A' c' m ys) (l1 ++ r)) (hz : z.cells.size = 1) (hb0 : 0 < by_) (hby : (n + m) * by_ ≤ 140737488355328) :
    Stp P S w0 r ⟨d, .call ⟨.builtin .append, #[x, y], #[t, t]⟩, T, pos, af, gu⟩ e l (fun v l' => ∃ A2 c2, v = .slice A2 (n + m) c2 ∧ l' = iO A2 c2 el (n + m) (xs ++ ys) :: l1) := by
  have := Stp.append (P := P) (S := S) (w0 := w0) (t := t) (d := d) (T := T) (pos := pos) (af := af) (gu := gu) hx hy hp hr (i64s_one ys) hz (by omega) hb0 hby
  rwa [← i64s_append] at this
/-- append(nil, y...): a copy. -/
theorem Stp.copyB {t el : TypeId} {z : Value} {by_ m c' : Nat} {A' : Option Addr} {ys : List UInt8} {x y : Operand} [hu : Und P t (.slice el)] [hi : Inf P el z 1 by_]
    (hx : ev e x = some (.slice none 0 0)) (hy : ev e y = some (.slice A' m c')) (hr : Rd (bR A' c' m ys) (l ++ r)) (hz : z.cells.size = 1) (hb0 : 0 < by_) (hby : m * by_ ≤ 140737488355328) :
    Stp P S w0 r ⟨d, .call ⟨.builtin .append, #[x, y], #[t, t]⟩, T, pos, af, gu⟩ e l (fun v l' => ∃ A2 c2, v = .slice A2 m c2 ∧ l' = bO A2 c2 el m ys :: l) := by
  have := Stp.appendB (P := P) (S := S) (w0 := w0) (r := r) (d := d) (T := T) (pos := pos) (af := af) (gu := gu) (t := t) (xs := []) hx hy (Pick.here (l := l)) hr hz hb0 (by simpa using hby)
  simp only [Nat.zero_add, List.nil_append] at this
  exact Stp.nil this
theorem Stp.copyI {t el : TypeId} {z : Value} {by_ m c' : Nat} {A' : Option Addr} {ys : List Int} {x y : Operand} [hu : Und P t (.slice el)] [hi : Inf P el z 1 by_]
    (hx : ev e x = some (.slice none 0 0)) (hy : ev e y = some (.slice A' m c')) (hr : Rd (iR A' c' m ys) (l ++ r)) (hz : z.cells.size = 1) (hb0 : 0 < by_) (hby : m * by_ ≤ 140737488355328) :
    Stp P S w0 r ⟨d, .call ⟨.builtin .append, #[x, y], #[t, t]⟩, T, pos, af, gu⟩ e l (fun v l' => ∃ A2 c2, v = .slice A2 m c2 ∧ l' = iO A2 c2 el m ys :: l) := by
  have := Stp.appendI (P := P) (S := S) (w0 := w0) (r := r) (d := d) (T := T) (pos := pos) (af := af) (gu := gu) (t := t) (xs := []) hx hy (Pick.here (l := l)) hr hz hb0 (by simpa using hby)
  simp only [Nat.zero_add, List.nil_append] at this
  exact Stp.nil this
theorem madeCells_one (z : Value) (m : Nat) : madeCells #[z] m = (List.replicate m z).toArray := by
  unfold madeCells
  apply Array.ext
  · simp
  · intro j h1 h2; simp [Nat.mod_one]
/-- make([]T, l, c), elements of one cell. -/
theorem Stp.make {t el : TypeId} {z : Value} {by_ : Nat} {k k' : IntKind} {n m : Int} {x y : Operand} [hu : Und P t (.slice el)] [hi : Inf P el z 1 by_]
    (hx : ev e x = some (.int k n)) (hy : ev e y = some (.int k' m)) (h0 : 0 ≤ n ∧ n ≤ m ∧ m ≤ 9223372036854775807 ∧ by_ * m ≤ 281474976710656) (h1 : z.oneCell' = true) :
    Stp P S w0 r ⟨d, .makeSlice t x y, T, pos, af, gu⟩ e l (fun v l' => ∃ g, v = .slice (some ⟨g, 0, none⟩) n.toNat m.toNat ∧ l' = rowC (some ⟨g, 0, none⟩) m.toNat el 1 n.toNat (List.replicate n.toNat z) :: l) := by
  refine Stp.of (by intro _ hq; cases hq) fun a' a w K Q he hs h => ?_
  obtain ⟨i, hinfo, hiz, his, hib⟩ := hi.ex
  have hmk := run_make (P := P) w t el i z hu.eq hinfo hiz k k' n m h0.1 h0.2.1 (by rw [hib]; exact h0.2.2.2) h0.2.2.1
  rw [his, oneCell_cells h1, madeCells_one] at hmk
  have hrun : (execOp a.eval ⟨d, .makeSlice t x y, T, pos, af, gu⟩).run P w = .ok (.value (.slice (some ⟨w.heap.size, 0, none⟩) n.toNat m.toNat)) (w.alloc (.cells (List.replicate (m.toNat * 1) z).toArray el)) := by
    simp only [execOp, he.eval hx, he.eval hy, Sem.run_bind, hmk, Result.andThen_ok, Sem.run_pure]
  unfold Oper.wp
  rw [hrun]
  refine h _ _ _ ⟨_, rfl, rfl⟩ (hs.newC _ ?_ (fun k hk => by simpa [rowC, blk] using hk))
  have hle : n.toNat ≤ m.toNat := by omega
  refine ⟨by simp, .inr ⟨w.heap.size, m.toNat, _, rfl, Nat.zero_le _, heap_alloc_new w _, hle, by simp only [maxLen]; omega, by simp, ?_⟩⟩
  simp [List.take_replicate, Nat.min_eq_left hle]
theorem run_storeRow {w : World} {A : Option Addr} {c n lo : Nat} {T' : TypeId} {us vs : List Value} (h : w.ownsRow 0 T' 1 (.slice A n c) n us) (hlo : lo + vs.length ≤ us.length) (h1 : ∀ v ∈ vs, v.oneCell' = true) (h0 : 0 < us.length) :
    ∃ g w', A = some ⟨g, 0, none⟩ ∧ (storeCells ((⟨g, 0, none⟩ : Addr).add lo) vs).run P w = .ok () w' ∧ w'.ownsRow 0 T' 1 (.slice A n c) n (us.take lo ++ vs ++ us.drop (lo + vs.length)) ∧ w.grownBy w' (some g) := by
  rcases h.2 with h2 | ⟨g, cap, cur, hv, hb, hh, a1, a2, a3, a4⟩
  · have := h.1; rw [h2.2] at this; omega
  · injection hv with hA hn hc
    subst hA
    subst hc
    have hcur : us.length ≤ cur.size := by rw [← a4, List.length_take]; simp; omega
    have hst := run_storeCells_at P g lo T' vs 0 cur w hh (by omega) h1
    refine ⟨g, _, rfl, by rw [add_lit]; simpa using hst, ⟨?_, .inr ⟨g, c, _, rfl, Nat.zero_le _, setRow_heap w g _ _ T' _ hh, a1, a2, ?_, ?_⟩⟩, ?_⟩
    · have := h.1
      simp only [List.length_append, List.length_take, List.length_drop]; omega
    · simp only [List.size_toArray, List.length_append, List.length_take, List.length_drop, Array.length_toList, Nat.add_zero]
      omega
    · have hl : us.length = n * 1 := h.1
      have e1 : us.take lo = cur.toList.take lo := by rw [← a4, List.take_take]; congr 1; omega
      have e2 : us.drop (lo + vs.length) = (cur.toList.drop (lo + vs.length)).take (n * 1 - (lo + vs.length)) := by rw [← a4, List.drop_take]
      rw [e1, e2]
      simp only [Nat.add_zero]
      have hl2 : (cur.toList.take lo ++ vs).length = lo + vs.length := by simp; omega
      have e3 : ∀ b : List Value, (cur.toList.take lo ++ vs ++ b).take (n * 1) = cur.toList.take lo ++ vs ++ b.take (n * 1 - (lo + vs.length)) := fun b => by
        rw [List.take_append (l₁ := cur.toList.take lo ++ vs), hl2, List.take_of_length_le (by rw [hl2]; omega)]
      simpa using e3 (cur.toList.drop (lo + vs.length))
    · refine ⟨rfl, rfl, rfl, by simp [World.setRow], fun k hk hne => ?_⟩
      have hne' : g ≠ k := fun hgk => hne (by rw [hgk])
      simp [World.setRow, Array.getElem?_modify, hne']
/-- copy(x[lo:], y): into a slice's own array, from what may be read. -/
theorem Stp.copy {t t' el : TypeId} {z : Value} {by_ n c m c' lo : Nat} {A A' : Option Addr} {us vs : List Value} {x y : Operand} {l1 : List Chunk} [hu : Und P t (.slice el)] [hi : Inf P el z 1 by_]
    (hx : ev e x = some (.slice (subA A c lo 1) (n - lo) (c - lo))) (hy : ev e y = some (.slice A' m c')) (hp : Pick (rowC A c el 1 n us) l l1) (hr : Rd (sliceC A' c' 1 m vs) (l1 ++ r)) (h1 : ∀ v ∈ vs, v.oneCell' = true)
    (hlo : lo ≤ n) (hm : m ≤ n - lo) :
    Stp P S w0 r ⟨d, .call ⟨.builtin .copy, #[x, y], #[t, t']⟩, T, pos, af, gu⟩ e l (fun v l' => v = .int .i64 m ∧ l' = rowC A c el 1 n (us.take lo ++ vs ++ us.drop (lo + m)) :: l1) := by
  refine Stp.of (by intro _ hq; cases hq) fun k a w K Q he hs h => ?_
  have hown : w.ownsRow 0 el 1 (.slice A n c) n us := hs.own _ (hp.perm.mem_iff.2 List.mem_cons_self)
  have hsl := hs.perm hp.perm
  obtain ⟨g1, g2, g3, g4, g5⟩ := hr.holds (w := w) (fun dd hd => by
    rcases List.mem_append.1 hd with hd | hd
    · exact hsl.own _ (List.mem_cons_of_mem _ hd)
    · exact hsl.ro _ hd)
  have hul : us.length = n * 1 := hown.1
  have hvm : vs.length = m := by omega
  have hmin : Nat.min m (n - lo) = m := Nat.min_eq_left hm
  rcases Nat.eq_zero_or_pos m with hm0 | hm0
  · -- nothing is copied
    subst hm0
    have hv0 : vs = [] := List.eq_nil_of_length_eq_zero hvm
    subst hv0
    have hfc : (Builtin.firstCells 1 0 (.slice A' 0 c')).run P w = .ok #[] w := by
      cases A' <;> simp [Builtin.firstCells, loadCells, loadCellsFrom]
    have hrun : (execOp a.eval ⟨d, .call ⟨.builtin .copy, #[x, y], #[t, t']⟩, T, pos, af, gu⟩).run P w = .ok (.value (.int .i64 0)) w := by
      cases hs0 : subA A c lo 1 <;>
        simp [execOp, resolve, invoke, builtin, he.eval hx, he.eval hy, Builtin.copy_, hu.run, hi.run_size, Builtin.lenOf, hmin, hfc, goInt, hs0, storeCells]
    unfold Oper.wp
    rw [hrun]
    refine h _ _ _ ⟨rfl, rfl⟩ ?_
    simpa using hsl
  · obtain ⟨b, rfl⟩ := g4 (by omega)
    obtain ⟨g, w', rfl, hst, hown', hgr⟩ := run_storeRow (P := P) (lo := lo) (vs := vs) hown (by omega) h1 (by omega)
    have hfc : (Builtin.firstCells 1 m (.slice (some b) m c')).run P w = .ok vs.toArray w := by
      have := run_firstCells_some (P := P) w 1 m b m c' vs g1 (g5 b rfl)
      exact this
    have hsub : subA (some ⟨g, 0, none⟩) c lo 1 = some ((⟨g, 0, none⟩ : Addr).add lo) := by
      unfold subA
      split
      · rename_i hc
        have hnc : n ≤ c := by
          rcases hown.2 with ⟨hv, _⟩ | ⟨g', cap, cur, hv, _, _, hnc, _⟩
          · injection hv with hA; cases hA
          · injection hv with _ _ h3; omega
        omega
      · simp
    rw [hsub] at hx
    have hrun : (execOp a.eval ⟨d, .call ⟨.builtin .copy, #[x, y], #[t, t']⟩, T, pos, af, gu⟩).run P w = .ok (.value (.int .i64 m)) w' := by
      simp [execOp, resolve, invoke, builtin, he.eval hx, he.eval hy, Builtin.copy_, hu.run, hi.run_size, Builtin.lenOf, hmin, hfc, goInt, hst]
    unfold Oper.wp
    rw [hrun]
    rw [hvm] at hown'
    refine h _ _ _ ⟨rfl, rfl⟩ (hs.write hp hgr.os hgr.tape hgr.output hgr.size (fun j hj hn => hgr.block j hj (fun hjg => hn ?_)) hown' (fun j hj => .inl hj))
    injection hjg with hjg
    simp [rowC, blk, hjg]
end
end Go.SX
/- Labels; calls by a function's number; arrays that are variables. -/
namespace Go.SX
open Go Go.RowKit
section
variable {P : Program} {n : Nat} {S : List Nat} {w0 : World} {r : List Chunk}
def scopeK (l0 : Nat) (M : Env → List Chunk → Prop) (K : QS) : QS
  | .goto i, e, l => match Nat.beq i l0 with
    | true => M e l
    | false => False
  | x, e, l => K x e l
def noGotoK (K : QS) : QS
  | .goto _, _, _ => False
  | x, e, l => K x e l
theorem stepR_scope {b : Frame} {a : Act} {k : List Item} {cs : List Frame} {w : World} {c : Code} : step P (lone (b.atR a (.code (.scope c) :: k)) cs w) = .next (lone (b.atR a (.code c :: .inScope c :: k)) cs w) :=
  step_lone_go (by simp [stepG, stepG.exec, Frame.atR])
theorem stepR_inScope {b : Frame} {a : Act} {k : List Item} {cs : List Frame} {w : World} {c : Code} : step P (lone (b.atR a (.inScope c :: k)) cs w) = .next (lone (b.atR a k) cs w) :=
  step_lone_go (by simp [stepG, stepG.exec, Frame.atR])
theorem WC.scope {l0 : Nat} {c rest : Code} {K : QS} {e : Env} {l : List Chunk} (hl : findLabel c l0 = some rest)
    (h : WC P n S w0 r c (scopeK l0 (fun e l => WC P n S w0 r rest (noGotoK K) e l) K) e l) : WC P n S w0 r (.scope c) K e l := by
  refine ⟨fun a w he hs ρ b k cs hb _ _ => ?_⟩
  have calm : ∀ {fr : Frame} {w : World}, fr.about P w = none → (lone fr cs w).fenced P (Fz ρ) := fun ha => fenced_calm (F := Fz ρ) (n := 0) trivial (fz_room ρ _) ha
  have hx : ∀ id, exitTo id (.inScope c :: k) = exitTo id k := fun id => by simp [exitTo]
  obtain ⟨x, a1, w1, ⟨hd, hq⟩, harr⟩ := h.out a w he hs ρ b (.inScope c :: k) cs hb trivial (fz_room ρ _)
  cases x with
  | normal => exact ⟨.normal, a1, w1, ⟨hd, hq⟩, .head (calm rfl) stepR_scope (StepsIn.trans harr (.one (calm rfl) stepR_inScope))⟩
  | exit id => exact ⟨.exit id, a1, w1, ⟨hd, hq⟩, fun k' hk => .head (calm rfl) stepR_scope (harr.1 k' (by rw [hx]; exact hk)),
      fun hr' hk => let ⟨k₁, h1, h2⟩ := harr.2 hr' (by rw [hx]; exact hk); ⟨k₁, h1, .head (calm rfl) stepR_scope h2⟩⟩
  | ret => exact ⟨.ret, a1, w1, ⟨hd, hq⟩, .of_steps (e := .ret) (.one (calm rfl) stepR_scope) harr⟩
  | panic ch => exact hq.elim
  | outgrown => exact hq.elim
  | goto i =>
    obtain ⟨e1, l1, hk, he1, hs1⟩ := hq
    simp only [scopeK] at hk
    split at hk
    · rename_i hbq
      obtain rfl : i = l0 := Nat.eq_of_beq_eq_true hbq
      have hsteps := harr.1 (.code rest :: .inScope c :: k) (by simp [gotoIn, hl])
      obtain ⟨x2, a2, w2, ⟨hd2, hq2⟩, harr2⟩ := hk.out a1 w1 he1 hs1 ρ b (.inScope c :: k) cs hb trivial (fz_room ρ _)
      rw [hd] at hd2
      have hgo : StepsIn (Machine.fenced P (Fz ρ)) P (lone (b.atR a (.code (.scope c) :: k)) cs w) (lone (b.atR a1 (.code rest :: .inScope c :: k)) cs w1) := .head (calm rfl) stepR_scope hsteps
      cases x2 with
      | normal => exact ⟨.normal, a2, w2, ⟨hd2, hq2⟩, hgo.trans (StepsIn.trans harr2 (.one (calm rfl) stepR_inScope))⟩
      | exit id => exact ⟨.exit id, a2, w2, ⟨hd2, hq2⟩, fun k' hk => hgo.trans (harr2.1 k' (by rw [hx]; exact hk)),
          fun hr' hk => let ⟨k₁, h1, h2⟩ := harr2.2 hr' (by rw [hx]; exact hk); ⟨k₁, h1, hgo.trans h2⟩⟩
      | ret => exact ⟨.ret, a2, w2, ⟨hd2, hq2⟩, .of_steps (e := .ret) hgo harr2⟩
      | panic ch => exact hq2.elim
      | outgrown => exact hq2.elim
      | goto j => obtain ⟨_, _, hf, _⟩ := hq2; exact hf.elim
    · exact hk.elim
theorem K.goto_hit {l0 : Nat} {M : Env → List Chunk → Prop} {K : QS} {e : Env} {l : List Chunk} (h : M e l) : scopeK l0 M K (.goto l0) e l := by
  simp only [scopeK]
  split
  · exact h
  · rename_i hb; exact absurd rfl (Nat.ne_of_beq_eq_false hb)
theorem K.ret_scope {l0 : Nat} {M : Env → List Chunk → Prop} {K : QS} {e : Env} {l : List Chunk} (h : K .ret e l) : scopeK l0 M K .ret e l := h
theorem K.norm_scope {l0 : Nat} {M : Env → List Chunk → Prop} {K : QS} {e : Env} {l : List Chunk} (h : K .normal e l) : scopeK l0 M K .normal e l := h
theorem K.ret_nogoto {K : QS} {e : Env} {l : List Chunk} (h : K .ret e l) : noGotoK K .ret e l := h
theorem K.norm_nogoto {K : QS} {e : Env} {l : List Chunk} (h : K .normal e l) : noGotoK K .normal e l := h
end
class Fun (P : Program) (f : FuncId) : Prop where ex : ∃ fn c, P.funcs[f]? = some fn ∧ fn.body = some c ∧ (fn.name == "runtime.NumGoroutine") = false
section
variable {P : Program} {S : List Nat} {w0 : World} {r : List Chunk} {e : Env} {l cs : List Chunk} {T : TypeId} {pos : String} {af : Array Edge} {gu : Option (Nat × Bool)} {d : Option Tmp}
theorem Stp.cal {f : FuncId} {xs : List Operand} {vs : List Value} {ts : Array TypeId} {y : Operand} {l0 l1 r0 : List Chunk} {post : Value → List Chunk → Prop} [hf : Fun P f]
    (hy : ev e y = some (.func (.func f) #[] #[])) (hx : evs e xs = some vs) (hsp : Spec P f vs l0 r0 post) (hp : PicksT l0 l l1) (hr : Rds r0 (l1 ++ r)) :
    Stp P S w0 r ⟨d, .call ⟨.value y, xs.toArray, ts⟩, T, pos, af, gu⟩ e l (fun v l' => ∃ l2, post v l2 ∧ l' = l2 ++ l1) := by
  obtain ⟨fn, c, h1, h2, h3⟩ := hf.ex
  exact Stp.call h1 h2 h3 hy hx hsp hp hr
/-- A closure: what it has captured comes behind its arguments. -/
theorem Stp.calc {f : FuncId} {xs : List Operand} {vs us : List Value} {ts : Array TypeId} {y : Operand} {l0 l1 r0 : List Chunk} {post : Value → List Chunk → Prop} [hf : Fun P f]
    (hy : ev e y = some (.func (.func f) #[] us.toArray)) (hx : evs e xs = some vs) (hsp : Spec P f (vs ++ us) l0 r0 post) (hp : PicksT l0 l l1) (hr : Rds r0 (l1 ++ r)) :
    Stp P S w0 r ⟨d, .call ⟨.value y, xs.toArray, ts⟩, T, pos, af, gu⟩ e l (fun v l' => ∃ l2, post v l2 ∧ l' = l2 ++ l1) := by
  obtain ⟨fn, c, hf, hb, hn⟩ := hf.ex
  refine Stp.of (by intro _ hq; cases hq) fun n a w K Q he hs h => ?_
  have hs' := hs.picksT hp
  have hcall := hsp.out w (hs'.handed hr)
  have hn' : ¬ fn.name = "runtime.NumGoroutine" := by simpa using hn
  have hargs : (xs.map a.eval).toArray ++ us.toArray = (vs ++ us).toArray := by rw [he.evals hx]; simp
  have hrun : (execOp a.eval ⟨d, .call ⟨.value y, xs.toArray, ts⟩, T, pos, af, gu⟩).run P w = .ok (.enter f (vs ++ us).toArray) w := by
    rw [← hargs]
    simp [execOp, resolve, he.eval hy, Deferred.ofValue, invoke, callFunc, hf, hb, hn']
  unfold Oper.wp
  rw [hrun]
  show Calls P f (vs ++ us).toArray w _
  refine hcall.mono fun en w' hen => ?_
  obtain ⟨v, l2, rfl, hpost, hst⟩ := hen
  exact h v (l2 ++ l1) w' ⟨l2, hpost, rfl⟩ (hs'.part hst)
theorem Ev.indexArr {t el : TypeId} {z : Value} {sz by_ m g o : Nat} {k : IntKind} {i : Int} {x y : Operand} [hu : Und P t (.array m el)] [hi : Inf P el z sz by_]
    (hx : ev e x = some (.pointer (some ⟨g, o, none⟩))) (hy : ev e y = some (.int k i)) (hb : 0 ≤ i ∧ i < m) : Ev P e cs ⟨d, .indexAddr t x y, T, pos, af, gu⟩ (ptrAt (some ⟨g, o, none⟩) (i.toNat * sz)) := by
  refine ⟨(by intro _ hq; cases hq), fun n a w he hc => ?_⟩
  have hm : ¬ m = 0 := by omega
  by_cases h1 : m ≤ 1 <;> simp [execOp, Instr.indexAt, he.eval hx, he.eval hy, asIntOf, hu.run, hi.run_size, hb, ptrAt_some, Instr.sureAddr, h1]
theorem Ev.indexArr1 {t el : TypeId} {z : Value} {by_ m g o : Nat} {k : IntKind} {i : Int} {x y : Operand} [hu : Und P t (.array m el)] [hi : Inf P el z 1 by_]
    (hx : ev e x = some (.pointer (some ⟨g, o, none⟩))) (hy : ev e y = some (.int k i)) (hb : 0 ≤ i ∧ i < m) : Ev P e cs ⟨d, .indexAddr t x y, T, pos, af, gu⟩ (ptrAt (some ⟨g, o, none⟩) i.toNat) := by
  have := Ev.indexArr (P := P) (t := t) (cs := cs) (d := d) (T := T) (pos := pos) (af := af) (gu := gu) hx hy hb
  rwa [Nat.mul_one] at this
end
end Go.SX
/- Shifts by written counts; conversions in range. -/
namespace Go.SX
open Go Go.RowKit
section
variable {P : Program} {S : List Nat} {w0 : World} {r : List Chunk} {e : Env} {l cs : List Chunk} {T : TypeId} {pos : String} {af : Array Edge} {gu : Option (Nat × Bool)} {d : Option Tmp}
theorem Ev.shrm {t t' : TypeId} {x y : Operand} {k k' : IntKind} {a : Int} (s : Nat) (m : Int) (hx : ev e x = some (.int k a)) (hy : ev e y = some (.int k' (s : Int))) (hs : s ≤ k.bits) (hm : (2 : Int) ^ s = m) :
    Ev P e cs ⟨d, .binOp .shr t x y t', T, pos, af, gu⟩ (.int k (a / m)) := by
  have := Ev.shr (P := P) (cs := cs) (d := d) (T := T) (pos := pos) (af := af) (gu := gu) (t := t) (t' := t') hx hy ⟨by omega, by omega⟩
  rwa [Int.toNat_natCast, hm] at this
theorem Ev.shlw {t t' : TypeId} {x y : Operand} {k k' : IntKind} {a : Int} (s : Nat) (m : Int) (hx : ev e x = some (.int k a)) (hy : ev e y = some (.int k' (s : Int))) (hs : s ≤ k.bits) (hm : (2 : Int) ^ s = m) :
    Ev P e cs ⟨d, .binOp .shl t x y t', T, pos, af, gu⟩ (.int k (k.wrap (a * m))) := by
  have := Ev.shl (P := P) (cs := cs) (d := d) (T := T) (pos := pos) (af := af) (gu := gu) (t := t) (t' := t') hx hy ⟨by omega, by omega⟩
  rwa [Int.toNat_natCast, hm] at this
theorem Ev.shlm {t t' : TypeId} {x y : Operand} {k' : IntKind} {a : Int} (s : Nat) (m : Int) (hx : ev e x = some (.int .i64 a)) (hy : ev e y = some (.int k' (s : Int))) (hs : s ≤ IntKind.i64.bits) (hm : (2 : Int) ^ s = m)
    (h : -9223372036854775808 ≤ a * m ∧ a * m ≤ 9223372036854775807) :
    Ev P e cs ⟨d, .binOp .shl t x y t', T, pos, af, gu⟩ (.int .i64 (a * m)) := by
  have := Ev.shlw (P := P) (cs := cs) (d := d) (T := T) (pos := pos) (af := af) (gu := gu) (t := t) (t' := t') s m hx hy hs hm
  rwa [wrap_in h.1 h.2] at this
theorem wrap_u64 {n : Int} (h1 : 0 ≤ n) (h2 : n ≤ 18446744073709551615) : IntKind.u64.wrap n = n := by
  simp only [IntKind.wrap, IntKind.bits, IntKind.signed]; simp; omega
theorem wrap_u8 {n : Int} (h1 : 0 ≤ n) (h2 : n ≤ 255) : IntKind.u8.wrap n = n := by
  simp only [IntKind.wrap, IntKind.bits, IntKind.signed]; simp; omega
theorem wrap_u8_mod (n : Int) : IntKind.u8.wrap n = n % 256 := by
  simp only [IntKind.wrap, IntKind.bits, IntKind.signed]; simp
theorem Ev.convu {s t : TypeId} {ds : TypeDesc} {k' : IntKind} {x : Operand} {a : Int} [hs : Und P s ds] [ht : Und P t (.int .u64)] (hx : ev e x = some (.int k' a)) (h : 0 ≤ a ∧ a ≤ 18446744073709551615) :
    Ev P e cs ⟨d, .convert s t x, T, pos, af, gu⟩ (.int .u64 a) := by
  have := Ev.convk (P := P) (cs := cs) (d := d) (T := T) (pos := pos) (af := af) (gu := gu) (s := s) (t := t) hx; rwa [wrap_u64 h.1 h.2] at this
/-- A number as a byte. -/
def byteOf (n : Int) : UInt8 := UInt8.ofNat (n % 256).toNat
theorem byteOf_toNat (n : Int) : ((byteOf n).toNat : Int) = n % 256 := by
  have h0 : 0 ≤ n % 256 := Int.emod_nonneg n (by omega)
  have h1 : n % 256 < 256 := Int.emod_lt_of_pos n (by omega)
  simp [byteOf, UInt8.toNat_ofNat']
  omega
theorem Ev.conv8 {s t : TypeId} {ds : TypeDesc} {k' : IntKind} {x : Operand} {a : Int} [hs : Und P s ds] [ht : Und P t (.int .u8)] (hx : ev e x = some (.int k' a)) :
    Ev P e cs ⟨d, .convert s t x, T, pos, af, gu⟩ (u8 (byteOf a)) := by
  have := Ev.convk (P := P) (cs := cs) (d := d) (T := T) (pos := pos) (af := af) (gu := gu) (s := s) (t := t) hx
  rw [wrap_u8_mod] at this
  unfold u8
  rwa [byteOf_toNat]
theorem u8_bound (b : UInt8) : 0 ≤ (b.toNat : Int) ∧ (b.toNat : Int) ≤ 255 := by have := b.toNat_lt; omega
/-- A byte as a whole number. -/
theorem Ev.of8 {s t : TypeId} {ds : TypeDesc} {x : Operand} {b : UInt8} [hs : Und P s ds] [ht : Und P t (.int .i64)] (hx : ev e x = some (u8 b)) :
    Ev P e cs ⟨d, .convert s t x, T, pos, af, gu⟩ (.int .i64 (b.toNat : Int)) :=
  Ev.conv (k' := .u8) hx (by have := u8_bound b; omega)
theorem Ev.of8u {s t : TypeId} {ds : TypeDesc} {x : Operand} {b : UInt8} [hs : Und P s ds] [ht : Und P t (.int .u64)] (hx : ev e x = some (u8 b)) :
    Ev P e cs ⟨d, .convert s t x, T, pos, af, gu⟩ (.int .u64 (b.toNat : Int)) :=
  Ev.convu (k' := .u8) hx (by have := u8_bound b; omega)
theorem xor8 (a b : UInt8) : bitI .xor .u8 (a.toNat : Int) (b.toNat : Int) = ((a ^^^ b).toNat : Int) := by
  have h : (BitVec.ofInt 8 (a.toNat : Int) ^^^ BitVec.ofInt 8 (b.toNat : Int)) = (a ^^^ b).toBitVec := by
    have e : ∀ c : UInt8, BitVec.ofInt 8 (c.toNat : Int) = c.toBitVec := by
      intro c
      apply BitVec.eq_of_toNat_eq
      have := c.toNat_lt
      simp
    rw [e, e]; rfl
  have h2 : bitI .xor .u8 (a.toNat : Int) (b.toNat : Int) = IntKind.u8.wrap ((BitVec.ofInt 8 (a.toNat : Int) ^^^ BitVec.ofInt 8 (b.toNat : Int)).toNat : Int) := rfl
  rw [h2, h]
  have := u8_bound (a ^^^ b)
  exact wrap_u8 this.1 this.2
theorem Ev.xor8 {t t' : TypeId} {x y : Operand} {a b : UInt8} (hx : ev e x = some (u8 a)) (hy : ev e y = some (u8 b)) :
    Ev P e cs ⟨d, .binOp .xor t x y t', T, pos, af, gu⟩ (u8 (a ^^^ b)) := by
  have := Ev.xor (P := P) (cs := cs) (d := d) (T := T) (pos := pos) (af := af) (gu := gu) (t := t) (t' := t') (k := .u8) hx hy
  rw [SX.xor8] at this
  exact this
/-- A written byte. -/
theorem u8_lit (n : Nat) (h : n < 256) : Value.int .u8 (n : Int) = u8 (UInt8.ofNat n) := by
  unfold u8
  congr 1
  simp [UInt8.toNat_ofNat']
  omega
end
end Go.SX
/- Results that are nil; what is left behind; bytes that are laid, made, stored and copied; drawn orders found by program. -/
namespace Go.SX
open Go Go.RowKit
def pureOp : Op → Bool
  | .move _ | .assign _ | .pick .. | .load .. | .nilCheck _ | .binOp .. | .unOp .. | .makeFunc .. | .slice .. | .fieldAddr .. | .field .. | .indexAddr .. | .index .. | .extract .. => true
  | .convert .. => true
  | .call c => match c.callee with
    | .builtin .len | .builtin .cap | .builtin .min | .builtin .max => true
    | _ => false
  | _ => false
def pureAt (ops : Array Oper) (i : Nat) : Bool := match ops[i]? with
  | some o => pureOp o.op
  | none => false
def autoDT (ops : Array Oper) : Nat → Array Bool → DT
  | 0, _ => .nil
  | m + 1, listed =>
    let rs := Region.ready .any ops listed
    match rs.find? (fun i => pureAt ops i && Region.free .any ops listed i) with
    | some i => .fl i (autoDT ops m (listed.setIfInBounds i true))
    | none => match rs with
      | [i] => .one i (autoDT ops m (listed.setIfInBounds i true))
      | [i, j] => .two i (autoDT ops m (listed.setIfInBounds i true)) j (autoDT ops m (listed.setIfInBounds j true))
      | [i, j, k] => .three i (autoDT ops m (listed.setIfInBounds i true)) j (autoDT ops m (listed.setIfInBounds j true)) k (autoDT ops m (listed.setIfInBounds k true))
      | _ => .nil
theorem Triv.nilRow {el : TypeId} {s : Nat} : Triv (rowC none 0 el s 0 []) := ⟨rfl, fun w => World.ownsRow_nil w 0 el s⟩
theorem Triv.nilSlice {s : Nat} : Triv (sliceC none 0 s 0 []) := ⟨rfl, fun w => ⟨by simp, Nat.le_refl _, Nat.zero_le _, fun h => absurd h (by simp), fun a ha => by cases ha⟩⟩
section
variable {P : Program} {n : Nat} {S : List Nat} {w0 : World} {r : List Chunk}
theorem WC.nilRow {c : Code} {K : QS} {e : Env} {l : List Chunk} (el : TypeId) (s : Nat) (h : WC P n S w0 r c K e (rowC none 0 el s 0 [] :: l)) : WC P n S w0 r c K e l :=
  ⟨fun a w he hs => h.out a w he (hs.nilRow el s)⟩
theorem W.nilRow {ops : Array Oper} {rest : List Oper} {K : QS} {e : Env} {l : List Chunk} (el : TypeId) (s : Nat) (h : W P n S w0 r ops K rest e (rowC none 0 el s 0 [] :: l)) : W P n S w0 r ops K rest e l :=
  ⟨fun a w he hs => h.out a w he (hs.nilRow el s)⟩
theorem WC.retC {K : QS} {e : Env} {l : List Chunk} (l' : List Chunk) (hk : K .ret e l') (hl : ChLe l l') : WC P n S w0 r .ret K e l :=
  ⟨fun a w he hs => CWp.ret ⟨e, l', hk, he, hs.le hl⟩⟩
end
section
variable {P : Program} {S : List Nat} {w0 : World} {r : List Chunk} {e : Env} {l cs : List Chunk} {T : TypeId} {pos : String} {af : Array Edge} {gu : Option (Nat × Bool)} {d : Option Tmp}
theorem u8_byteOf {k : Int} (h : 0 ≤ k ∧ k ≤ 255) : Value.int .u8 k = u8 (byteOf k) := by
  unfold u8; rw [byteOf_toNat]; congr 1; omega
theorem Stp.storeBk {t : TypeId} {z : Value} {by_ c m k : Nat} {A : Option Addr} {T' : TypeId} {x y : Operand} {b : Int} {bs : List UInt8} {l1 : List Chunk} [hi : Inf P t z 1 by_]
    (hx : ev e x = some (ptrAt A k)) (hy : ev e y = some (.int .u8 b)) (hp : Pick (bO A c T' m bs) l l1) (hb : 0 ≤ b ∧ b ≤ 255) (hk : k < bs.length) :
    Stp P S w0 r ⟨d, .store t x y, T, pos, af, gu⟩ e l (fun _ l' => l' = bO A c T' m (bs.set k (byteOf b)) :: l1) :=
  Stp.storeB hx (by rw [hy, u8_byteOf hb]) hp hk
theorem Stp.makeB {t el : TypeId} {by_ : Nat} {k k' : IntKind} {n m : Int} {x y : Operand} [hu : Und P t (.slice el)] [hi : Inf P el (.int .u8 0) 1 by_]
    (hx : ev e x = some (.int k n)) (hy : ev e y = some (.int k' m)) (h0 : 0 ≤ n ∧ n ≤ m ∧ m ≤ 9223372036854775807 ∧ by_ * m ≤ 281474976710656) :
    Stp P S w0 r ⟨d, .makeSlice t x y, T, pos, af, gu⟩ e l (fun v l' => ∃ g, v = .slice (some ⟨g, 0, none⟩) n.toNat m.toNat ∧ l' = bO (some ⟨g, 0, none⟩) m.toNat el n.toNat (List.replicate n.toNat 0) :: l) := by
  have h := Stp.make (P := P) (S := S) (w0 := w0) (r := r) (e := e) (l := l) (d := d) (T := T) (pos := pos) (af := af) (gu := gu) (t := t) hx hy h0 rfl
  have hz : u8s (List.replicate n.toNat 0) = List.replicate n.toNat (.int .u8 0) := by simp [u8s]; exact .inr rfl
  unfold bO
  rw [hz]
  exact h
theorem Stp.copyInB {t t' el : TypeId} {z : Value} {by_ n c m c' lo : Nat} {A A' : Option Addr} {us vs : List UInt8} {x y : Operand} {l1 : List Chunk} [hu : Und P t (.slice el)] [hi : Inf P el z 1 by_]
    (hx : ev e x = some (.slice (subA A c lo 1) (n - lo) (c - lo))) (hy : ev e y = some (.slice A' m c')) (hp : Pick (bO A c el n us) l l1) (hr : Rd (bR A' c' m vs) (l1 ++ r))
    (hlo : lo ≤ n) (hm : m ≤ n - lo) :
    Stp P S w0 r ⟨d, .call ⟨.builtin .copy, #[x, y], #[t, t']⟩, T, pos, af, gu⟩ e l (fun v l' => v = .int .i64 m ∧ l' = bO A c el n (us.take lo ++ vs ++ us.drop (lo + m)) :: l1) := by
  have := Stp.copy (P := P) (S := S) (w0 := w0) (d := d) (T := T) (pos := pos) (af := af) (gu := gu) (t := t) (t' := t') hx hy hp hr (u8s_one vs) hlo hm
  rwa [u8s_take, u8s_drop, ← u8s_append, ← u8s_append] at this
theorem Stp.buildB {t el : TypeId} {z : Value} {by_ m : Nat} {ps : List (Nat × Operand)} {xs : List Operand} (bs : List UInt8) [hu : Und P t (.slice el)] [hi : Inf P el z 1 by_]
    (hp : seqParts 0 ps = some xs) (hv : evs e xs = some (u8s bs)) (hm : Nat.beq m ps.length = true) (hle : Nat.ble m 16777216 = true) (hz : z.cells.size = 1) :
    Stp P S w0 r ⟨d, .buildSlice t m ps.toArray, T, pos, af, gu⟩ e l (fun v l' => ∃ g, v = .slice (some ⟨g, 0, none⟩) m m ∧ l' = bO (some ⟨g, 0, none⟩) m el m bs :: l) :=
  Stp.buildSlice hp hv hm hle (u8s_one bs) hz
theorem or_bytes (a b : UInt8) : bitI .or .i64 ((a.toNat : Int) * 256) (b.toNat : Int) = (a.toNat : Int) * 256 + (b.toNat : Int) := by
  have ha := a.toNat_lt
  have hb := b.toNat_lt
  have h1 : BitVec.ofInt 64 ((a.toNat : Int) * 256) = BitVec.ofNat 64 (a.toNat * 256) := by rw [← BitVec.ofInt_natCast]; congr 1
  have h2 : BitVec.ofInt 64 (b.toNat : Int) = BitVec.ofNat 64 b.toNat := by rw [← BitVec.ofInt_natCast]
  have h3 : (BitVec.ofNat 64 (a.toNat * 256) ||| BitVec.ofNat 64 b.toNat).toNat = a.toNat * 256 + b.toNat := by
    rw [BitVec.toNat_or, BitVec.toNat_ofNat, BitVec.toNat_ofNat, Nat.mod_eq_of_lt (by omega), Nat.mod_eq_of_lt (by omega)]
    have := Nat.two_pow_add_eq_or_of_lt (b := b.toNat) (i := 8) (by omega) a.toNat
    rw [Nat.mul_comm a.toNat 256, ← this]
  have h4 : bitI .or .i64 ((a.toNat : Int) * 256) (b.toNat : Int) = IntKind.i64.wrap ((BitVec.ofInt 64 ((a.toNat : Int) * 256) ||| BitVec.ofInt 64 (b.toNat : Int)).toNat : Int) := rfl
  rw [h4, h1, h2, h3, wrap_in (by omega) (by omega)]
  omega
theorem Ev.orBytes {t t' : TypeId} {x y : Operand} {a b : UInt8} (hx : ev e x = some (.int .i64 ((a.toNat : Int) * 256))) (hy : ev e y = some (.int .i64 (b.toNat : Int))) :
    Ev P e cs ⟨d, .binOp .or t x y t', T, pos, af, gu⟩ (.int .i64 ((a.toNat : Int) * 256 + (b.toNat : Int))) := by
  have := Ev.or (P := P) (cs := cs) (d := d) (T := T) (pos := pos) (af := af) (gu := gu) (t := t) (t' := t') hx hy
  rwa [or_bytes] at this
end
end Go.SX
/- Parts of slices of bytes and of numbers that may be read. -/
namespace Go.SX
open Go Go.RowKit
section
variable {A : Option Addr} {c n lo hi : Nat} {T : TypeId} {bs : List UInt8} {xs : List Int}
theorem Sub.trans {a b d : Chunk} (h : Sub a b) (k : Sub b d) : Sub a d := ⟨fun x hx => k.1 x (h.1 x hx), fun w hw => h.2 w (k.2 w hw)⟩
theorem Sub.cutB (h : lo ≤ hi ∧ hi ≤ n) : Sub (bR (subA A c lo 1) (c - lo) (hi - lo) ((bs.drop lo).take (hi - lo))) (bR A c n bs) := by
  have := Sub.cut (A := A) (c := c) (s := 1) (n := n) (cs := u8s bs) h
  simpa only [Nat.mul_one, u8s_drop, u8s_take] using this
theorem Sub.cutI (h : lo ≤ hi ∧ hi ≤ n) : Sub (iR (subA A c lo 1) (c - lo) (hi - lo) ((xs.drop lo).take (hi - lo))) (iR A c n xs) := by
  have := Sub.cut (A := A) (c := c) (s := 1) (n := n) (cs := i64s xs) h
  have e1 : ∀ k, (i64s xs).drop k = i64s (xs.drop k) := fun k => by simp [i64s, List.map_drop]
  have e2 : ∀ k, (i64s (xs.drop lo)).take k = i64s ((xs.drop lo).take k) := fun k => by simp [i64s, List.map_take]
  simpa only [Nat.mul_one, e1, e2] using this
theorem subA_zero (A : Option Addr) (c s : Nat) : subA A c 0 s = A := by
  unfold subA; split
  · rfl
  · cases A <;> simp [Addr.add]
theorem Sub.hiB (h : hi ≤ n) : Sub (bR A c hi (bs.take hi)) (bR A c n bs) := by
  have := Sub.cutB (A := A) (c := c) (bs := bs) (lo := 0) (hi := hi) (n := n) ⟨by omega, h⟩
  simpa only [subA_zero, Nat.sub_zero, List.drop_zero] using this
theorem Sub.hiI (h : hi ≤ n) : Sub (iR A c hi (xs.take hi)) (iR A c n xs) := by
  have := Sub.cutI (A := A) (c := c) (xs := xs) (lo := 0) (hi := hi) (n := n) ⟨by omega, h⟩
  simpa only [subA_zero, Nat.sub_zero, List.drop_zero] using this
theorem Sub.loB (h : lo ≤ n ∧ bs.length ≤ n) : Sub (bR (subA A c lo 1) (c - lo) (n - lo) (bs.drop lo)) (bR A c n bs) := by
  have k := Sub.cutB (A := A) (c := c) (bs := bs) (lo := lo) (hi := n) (n := n) ⟨h.1, by omega⟩
  rwa [List.take_of_length_le (by rw [List.length_drop]; omega)] at k
theorem Sub.loI (h : lo ≤ n ∧ xs.length ≤ n) : Sub (iR (subA A c lo 1) (c - lo) (n - lo) (xs.drop lo)) (iR A c n xs) := by
  have k := Sub.cutI (A := A) (c := c) (xs := xs) (lo := lo) (hi := n) (n := n) ⟨h.1, by omega⟩
  rwa [List.take_of_length_le (by rw [List.length_drop]; omega)] at k
end
end Go.SX
namespace Go.SX
open Go Go.RowKit
section
variable {P : Program} {n : Nat} {S : List Nat} {w0 : World} {r : List Chunk}
/-- The same list, written otherwise. -/
theorem WC.lst {c : Code} {K : QS} {e : Env} {l l' : List Chunk} (h : l = l') (k : WC P n S w0 r c K e l') : WC P n S w0 r c K e l := h ▸ k
theorem W.lst {ops : Array Oper} {rest : List Oper} {K : QS} {e : Env} {l l' : List Chunk} (h : l = l') (k : W P n S w0 r ops K rest e l') : W P n S w0 r ops K rest e l := h ▸ k
end
end Go.SX
namespace Go.SX
open Go Go.RowKit
section
variable {P : Program} {n : Nat} {S : List Nat} {w0 : World} {r : List Chunk}
/-- A byte is known to be one. -/
theorem W.evB {ops : Array Oper} {K : QS} {e : Env} {l : List Chunk} {o : Oper} {rest : List Oper} {d : Tmp} {b : UInt8} (hy : Ev P e (l ++ r) o (u8 b))
    (hg : gd e ops o.guard = some true) (ho : o.dst = some d) (hd : Nat.blt d n = true) (h : b.toNat < 256 → W P n S w0 r ops K rest ((d, u8 b) :: e) l) :
    W P n S w0 r ops K (o :: rest) e l := W.ev hy hg ho hd (h b.toNat_lt)
theorem WD.evB {ops : Array Oper} {K : QS} {t : DT} {e : Env} {l : List Chunk} {i : Nat} {o : Oper} {d : Tmp} {b : UInt8} (hi : ops[i]? = some o) (hy : Ev P e r o (u8 b)) (hg : gd e ops o.guard = some true)
    (ho : o.dst = some d) (hd : Nat.blt d n = true) (h : b.toNat < 256 → WD P n S w0 r ops K t ((d, u8 b) :: e) l) : WD P n S w0 r ops K (.fl i t) e l := WD.ev hi hy hg ho hd (h b.toNat_lt)
theorem WO.evB {ops : Array Oper} {K : QS} {t : DT} {e : Env} {l : List Chunk} {i : Nat} {o : Oper} {d : Tmp} {b : UInt8} (hi : ops[i]? = some o) (hy : Ev P e (l ++ r) o (u8 b)) (hg : gd e ops o.guard = some true)
    (ho : o.dst = some d) (hd : Nat.blt d n = true) (h : b.toNat < 256 → WD P n S w0 r ops K t ((d, u8 b) :: e) l) : WO P n S w0 r ops K i t e l := WO.ev hi hy hg ho hd (h b.toNat_lt)
end
section
variable {P : Program} {S : List Nat} {w0 : World} {r : List Chunk} {e : Env} {l cs : List Chunk} {T : TypeId} {pos : String} {af : Array Edge} {gu : Option (Nat × Bool)} {d : Option Tmp}
/-- A written place. -/
theorem Ev.indexAddrK {t el : TypeId} {z : Value} {by_ n c k : Nat} {i : Int} {A : Option Addr} {kk : IntKind} {x : Operand} {us : List Value} [hu : Und P t (.slice el)] [hi : Inf P el z 1 by_]
    (hx : ev e x = some (.slice A n c)) (hk : i.toNat = k) (hr : Rd (sliceC A c 1 n us) cs) (hb : 0 ≤ i ∧ i < n) :
    Ev P e cs ⟨d, .indexAddr t x (.const (.int kk i)), T, pos, af, gu⟩ (ptrAt A k) := by
  have := Ev.indexAddr1 (P := P) (t := t) (d := d) (T := T) (pos := pos) (af := af) (gu := gu) (y := .const (.int kk i)) hx rfl hr hb
  rwa [hk] at this
end
end Go.SX
namespace Go.SX
open Go Go.RowKit
section
variable {P : Program} {S : List Nat} {w0 : World} {r : List Chunk} {e : Env} {l cs : List Chunk} {T : TypeId} {pos : String} {af : Array Edge} {gu : Option (Nat × Bool)} {d : Option Tmp}
theorem Ev.xor8k {t t' : TypeId} {x y : Operand} {a : UInt8} {k : Int} (hx : ev e x = some (u8 a)) (hy : ev e y = some (.int .u8 k)) (hk : 0 ≤ k ∧ k ≤ 255) :
    Ev P e cs ⟨d, .binOp .xor t x y t', T, pos, af, gu⟩ (u8 (a ^^^ byteOf k)) := Ev.xor8 hx (by rw [hy, u8_byteOf hk])
theorem Ev.neqBs {t t' : TypeId} {x y : Operand} {b : Bool} [hu : Und P t .bool] (hx : ev e x = some (.bool b)) (hy : ev e y = some (.bool b)) :
    Ev P e cs ⟨d, .binOp .neq t x y t', T, pos, af, gu⟩ (.bool false) := by
  have h := Ev.neqB (P := P) (cs := cs) (d := d) (T := T) (pos := pos) (af := af) (gu := gu) (t := t) (t' := t') hx hy
  have e1 : (b != b) = false := by cases b <;> rfl
  first | rwa [e1] at h | simpa using h
end
end Go.SX
/- Operations that only reckon, and the code around them, carried out by evaluation. -/
set_option linter.unusedVariables false
namespace Go.SX
open Go Go.RowKit
/-- What is to be shown, and what comes then. -/
structure Ob (p q : Prop) : Prop where
  h : p
  k : q
noncomputable def spl (c : Bool) (x y : Prop) : Prop := @Bool.rec (fun _ => Prop) y x c
theorem spl_mk {c : Bool} {x y : Prop} (h1 : c = true → x) (h0 : c = false → y) : @Bool.rec (fun _ => Prop) y x c := by
  cases c
  · exact h0 rfl
  · exact h1 rfl
theorem spl_el {c : Bool} {x y : Prop} (h : spl c x y) : (c = true ∧ x) ∨ (c = false ∧ y) := by
  cases c
  · exact .inr ⟨rfl, h⟩
  · exact .inl ⟨rfl, h⟩
/-- A whole number that is a natural one. -/
structure NatK (l : Int) (p : Nat → Prop) : Prop where
  ex : ∃ m : Nat, l = m ∧ p m
theorem NatK.cast {m : Nat} {p : Nat → Prop} (h : p m) : NatK (m : Int) p := ⟨m, rfl, h⟩
theorem NatK.lit (m : Nat) {l : Int} {p : Nat → Prop} (hl : l = (m : Int)) (h : p m) : NatK l p := ⟨m, hl, h⟩
theorem NatK.sym {l : Int} {p : Nat → Prop} (h0 : 0 ≤ l) (h : ∀ m : Nat, (m : Int) = l → p m) : NatK l p := ⟨l.toNat, by omega, h _ (by omega)⟩
abbrev TT := List (Nat × TypeDesc × Option (Value × Nat × Nat))
def tyOf : TT → Nat → Option TypeDesc
  | [], _ => none
  | (t, d, _) :: r, u => match Nat.beq t u with
    | true => some d
    | false => tyOf r u
def infOf : TT → Nat → Option (Value × Nat × Nat)
  | [], _ => none
  | (t, _, i) :: r, u => match Nat.beq t u with
    | true => i
    | false => infOf r u
def InfO (P : Program) (t : Nat) : Option (Value × Nat × Nat) → Prop
  | none => True
  | some (z, s, b) => Inf P t z s b
def TyOK (P : Program) : TT → Prop
  | [] => True
  | (t, d, i) :: r => (Und P t d ∧ InfO P t i) ∧ TyOK P r
theorem TyOK.und {P : Program} : ∀ {tt : TT} (h : TyOK P tt) {t : Nat} {d : TypeDesc}, tyOf tt t = some d → Und P t d := by
  intro tt
  induction tt with
  | nil => intro h t d ht; cases ht
  | cons x tt ih =>
    obtain ⟨u, du, iu⟩ := x
    intro h t d ht
    simp only [tyOf] at ht
    split at ht
    · rename_i hb
      have := Nat.eq_of_beq_eq_true hb
      subst this
      injection ht with ht
      subst ht
      exact h.1.1
    · exact ih h.2 ht
theorem TyOK.inf {P : Program} : ∀ {tt : TT} (h : TyOK P tt) {t : Nat} {z : Value} {s b : Nat}, infOf tt t = some (z, s, b) → Inf P t z s b := by
  intro tt
  induction tt with
  | nil => intro h t z s b ht; cases ht
  | cons x tt ih =>
    obtain ⟨u, du, iu⟩ := x
    intro h t z s b ht
    simp only [infOf] at ht
    split at ht
    · rename_i hb
      have := Nat.eq_of_beq_eq_true hb
      subst this
      subst ht
      exact h.1.2
    · exact ih h.2 ht
class Tys (P : Program) where
  tt : TT
  ok : TyOK P tt
def kbeq : IntKind → IntKind → Bool
  | .i8, .i8 => true
  | .i16, .i16 => true
  | .i32, .i32 => true
  | .i64, .i64 => true
  | .u8, .u8 => true
  | .u16, .u16 => true
  | .u32, .u32 => true
  | .u64, .u64 => true
  | _, _ => false
theorem kbeq_eq {a b : IntKind} (h : kbeq a b = true) : a = b := by cases a <;> cases b <;> first | rfl | (simp [kbeq] at h)
noncomputable def opt (o : Option Value) (K : Value → Prop) (st : Prop) : Prop :=
  match o with
  | some v => K v
  | none => st
/-- a whole number of a kind, if it fits -/
noncomputable def fit (k : IntKind) (a : Int) (K : Value → Prop) (st : Prop) : Prop :=
  match k with
  | .i64 => Ob (-9223372036854775808 ≤ a ∧ a ≤ 9223372036854775807) (K (.int .i64 a))
  | .u64 => Ob (0 ≤ a ∧ a ≤ 18446744073709551615) (K (.int .u64 a))
  | .u8 => K (u8 (byteOf a))
  | _ => st
noncomputable def pInt (op : BinOp) (k : IntKind) (a b : Int) (K : Value → Prop) (st : Prop) : Prop :=
  match op with
  | .lss => K (.bool (decide (a < b)))
  | .leq => K (.bool (decide (a ≤ b)))
  | .gtr => K (.bool (decide (b < a)))
  | .geq => K (.bool (decide (b ≤ a)))
  | .eql => K (.bool (decide (a = b)))
  | .neq => K (.bool (decide (a ≠ b)))
  | .add => fit k (a + b) K st
  | .sub => fit k (a - b) K st
  | .mul => fit k (a * b) K st
  | _ => st
noncomputable def p2K (m : Nat) (K : Int → Prop) (st : Prop) : Prop :=
  match m with
  | 0 => K 1
  | 1 => K 2
  | 2 => K 4
  | 3 => K 8
  | 4 => K 16
  | 5 => K 32
  | 6 => K 64
  | 7 => K 128
  | 8 => K 256
  | 16 => K 65536
  | 24 => K 16777216
  | 32 => K 4294967296
  | 40 => K 1099511627776
  | 48 => K 281474976710656
  | 56 => K 72057594037927936
  | _ => st
noncomputable def pShift (op : BinOp) (k : IntKind) (a : Int) (y : Operand) (K : Value → Prop) (st : Prop) : Prop :=
  match y with
  | .const (.int _ (.ofNat m)) => p2K m (fun q => match k, op with
    | .i64, .shl => fit .i64 (a * q) K st
    | .i64, .shr => K (.int .i64 (a / q))
    | .u64, .shl => fit .u64 (a * q) K st
    | .u64, .shr => K (.int .u64 (a / q))
    | _, _ => st) st
  | _ => st
noncomputable def pBin (tt : TT) (e : Env) (op : BinOp) (t : Nat) (x y : Operand) (K : Value → Prop) (st : Prop) : Prop :=
  match ev e x with
  | some (.int k a) => (match op with
    | .shl => pShift .shl k a y K st
    | .shr => pShift .shr k a y K st
    | op => (match ev e y with
      | some (.int k' b) => spl (kbeq k k') (pInt op k a b K st) st
      | _ => st))
  | some (.bool a) => (match ev e y with
    | some (.bool b) => (match tyOf tt t with
      | some .bool => (match op with
        | .eql => K (.bool (a == b))
        | .neq => K (.bool (!(a == b)))
        | _ => st)
      | _ => st)
    | _ => st)
  | some (.string a) => (match ev e y with
    | some (.string b) => (match op with
      | .eql => K (.bool (a.toList == b.toList))
      | .neq => K (.bool (!(a.toList == b.toList)))
      | .lss => K (.bool (Op.bytesLess a.toList b.toList))
      | _ => st)
    | _ => st)
  | some (.pointer A) => (match ev e y with
    | some (.pointer none) => (match tyOf tt t with
      | some (.pointer _) => (match op with
        | .eql => K (.bool A.isNone)
        | .neq => K (.bool (!A.isNone))
        | _ => st)
      | _ => st)
    | _ => st)
  | some (.slice A _ _) => (match ev e y with
    | some (.slice none _ _) => (match tyOf tt t with
      | some (.slice _) => (match op with
        | .eql => K (.bool A.isNone)
        | .neq => K (.bool (!A.isNone))
        | _ => st)
      | _ => st)
    | _ => st)
  | some (.func _ _ _) => (match ev e y with
    | some .nilFunc => (match tyOf tt t with
      | some (.func _ _ _) => (match op with
        | .eql => K (.bool false)
        | .neq => K (.bool true)
        | _ => st)
      | _ => st)
    | _ => st)
  | some .nilFunc => (match ev e y with
    | some .nilFunc => (match tyOf tt t with
      | some (.func _ _ _) => (match op with
        | .eql => K (.bool true)
        | .neq => K (.bool false)
        | _ => st)
      | _ => st)
    | _ => st)
  | _ => st
noncomputable def pConv (tt : TT) (e : Env) (s t : Nat) (x : Operand) (K : Value → Prop) (st : Prop) : Prop :=
  match ev e x with
  | some (.int k a) => (match tyOf tt s with
    | some _ => (match tyOf tt t with
      | some (.int kt) => fit kt a K st
      | _ => st)
    | _ => st)
  | _ => st
noncomputable def pCall (tt : TT) (e : Env) (b : Builtin) (xs : List Operand) (ts : List Nat) (K : Value → Prop) (st : Prop) : Prop :=
  match b, xs, ts with
  | .len, [x], [t] => (match tyOf tt t with
    | some (.slice _) => (match ev e x with
      | some (.slice _ m _) => K (.int .i64 m)
      | _ => st)
    | some .string => (match ev e x with
      | some (.string s) => K (.int .i64 s.size)
      | _ => st)
    | some (.array m _) => opt (ev e x) (fun _ => K (.int .i64 m)) st
    | _ => st)
  | .min, [x, y], _ => (match ev e x with
    | some (.int k a) => (match ev e y with
      | some (.int _ b) => K (.int k (min b a))
      | _ => st)
    | _ => st)
  | .max, [x, y], _ => (match ev e x with
    | some (.int k a) => (match ev e y with
      | some (.int _ b) => K (.int k (max b a))
      | _ => st)
    | _ => st)
  | .max, [x, y, z], _ => (match ev e x with
    | some (.int k a) => (match ev e y with
      | some (.int _ b) => (match ev e z with
        | some (.int _ c) => K (.int k (max c (max b a)))
        | _ => st)
      | _ => st)
    | _ => st)
  | _, _, _ => st
noncomputable def pSlice (tt : TT) (e : Env) (t : Nat) (x : Operand) (lo hi : Option Operand) (K : Value → Prop) (st : Prop) : Prop :=
  match ev e x with
  | some (.slice A n c) => (match tyOf tt t with
    | some (.slice el) => (match infOf tt el with
      | some (_, sz, _) => (match lo with
        | none => (match hi with
          | some y => (match ev e y with
            | some (.int _ h) => NatK h (fun m => Ob (m ≤ c) (K (.slice A m c)))
            | _ => st)
          | none => st)
        | some y => (match ev e y with
          | some (.int _ l) => (match hi with
            | none => NatK l (fun m => Ob (m ≤ n) (∀ q : Nat, q + m = n → K (.slice (subA A c m sz) q (c - m))))
            | some y' => (match ev e y' with
              | some (.int _ h) => NatK l (fun m => NatK h (fun m' => Ob (m ≤ m' ∧ m' ≤ c) (∀ q : Nat, q + m = m' → K (.slice (subA A c m sz) q (c - m)))))
              | _ => st))
          | _ => st))
      | none => st)
    | _ => st)
  | some (.pointer (some ad)) => (match tyOf tt t with
    | some (.array n el) => (match infOf tt el with
      | some _ => (match lo, hi with
        | none, none => K (.slice (some ad) n n)
        | _, _ => st)
      | none => st)
    | _ => st)
  | _ => st
noncomputable def pFieldAddr (tt : TT) (e : Env) (t : Nat) (x : Operand) (f : Nat) (K : Value → Prop) (st : Prop) : Prop :=
  match ev e x with
  | some (.pointer (some ⟨g, o, none⟩)) => (match tyOf tt t with
    | some (.struct fs) => (match fs.toList[f]? with
      | some fd => (match infOf tt fd.type with
        | some (_, sz, _) => (match sz with
          | 0 => st
          | _ + 1 => K (.pointer (some ⟨g, o + fd.offset, none⟩)))
        | none => st)
      | none => st)
    | _ => st)
  | _ => st
noncomputable def pField (tt : TT) (e : Env) (t : Nat) (x : Operand) (f : Nat) (K : Value → Prop) (st : Prop) : Prop :=
  match ev e x with
  | some (.agg us) => (match tyOf tt t with
    | some (.struct fs) => (match fs.toList[f]? with
      | some fd => (match tyOf tt fd.type with
        | some ds => spl (plainD ds) (opt us.toList[fd.offset]? K st) (match infOf tt fd.type with
          | some (_, sz, _) => K (.agg ((us.toList.drop fd.offset).take sz).toArray)
          | none => st)
        | none => st)
      | none => st)
    | _ => st)
  | _ => st
/-- It yields, whatever stands around it. -/
def EvA (P : Program) (e : Env) (op : Op) (v : Value) : Prop := ∀ cs d T pos af gu, Ev P e cs ⟨d, op, T, pos, af, gu⟩ v
theorem opt_el {K : Value → Prop} {st : Prop} {o : Option Value} (h : opt o K st) : (∃ v, o = some v ∧ K v) ∨ st := by
  cases o with
  | none => exact .inr h
  | some v => exact .inl ⟨v, rfl, h⟩
/-! lists of cells, by evaluation -/
noncomputable def dropK : List Value → Nat → (List Value → Prop) → Prop
  | us, 0, k => k us
  | [], _ + 1, _ => False
  | _ :: us, n + 1, k => dropK us n k
noncomputable def takeK : List Value → Nat → (List Value → Prop) → Prop
  | _, 0, k => k []
  | [], _ + 1, _ => False
  | u :: us, n + 1, k => takeK us n (fun r => k (u :: r))
noncomputable def putK : List Value → Nat → Value → (List Value → Prop) → Prop
  | [], _, _, _ => False
  | _ :: us, 0, v, k => k (v :: us)
  | u :: us, o + 1, v, k => putK us o v (fun r => k (u :: r))
noncomputable def putsK : List Value → Nat → List Value → Nat → (List Value → Prop) → Prop
  | us, 0, vs, sz, k => dropK us sz (fun t => k (vs ++ t))
  | [], _ + 1, _, _, _ => False
  | u :: us, o + 1, vs, sz, k => putsK us o vs sz (fun r => k (u :: r))
theorem dropK_el : ∀ {n : Nat} {us : List Value} {k : List Value → Prop}, dropK us n k → n ≤ us.length ∧ k (us.drop n) := by
  intro n
  induction n with
  | zero => intro us k h; unfold dropK at h; exact ⟨Nat.zero_le _, by simpa using h⟩
  | succ n ih =>
    intro us k h
    cases us with
    | nil => exact h.elim
    | cons u us =>
      obtain ⟨h1, h2⟩ := ih (k := k) h
      exact ⟨by simp only [List.length_cons]; omega, by simpa using h2⟩
theorem takeK_el : ∀ {n : Nat} {us : List Value} {k : List Value → Prop}, takeK us n k → n ≤ us.length ∧ k (us.take n) := by
  intro n
  induction n with
  | zero => intro us k h; unfold takeK at h; exact ⟨Nat.zero_le _, by simpa using h⟩
  | succ n ih =>
    intro us k h
    cases us with
    | nil => exact h.elim
    | cons u us =>
      obtain ⟨h1, h2⟩ := ih (k := fun r => k (u :: r)) h
      exact ⟨by simp only [List.length_cons]; omega, by simpa using h2⟩
theorem putK_el : ∀ {us : List Value} {o : Nat} {v : Value} {k : List Value → Prop}, putK us o v k → o < us.length ∧ k (us.set o v) := by
  intro us
  induction us with
  | nil => intro o v k h; exact h.elim
  | cons u us ih =>
    intro o v k h
    cases o with
    | zero => exact ⟨by simp, h⟩
    | succ o =>
      obtain ⟨h1, h2⟩ := ih (k := fun r => k (u :: r)) h
      exact ⟨by simp only [List.length_cons]; omega, by simpa using h2⟩
theorem putsK_el : ∀ {us : List Value} {o : Nat} {vs : List Value} {sz : Nat} {k : List Value → Prop}, putsK us o vs sz k → o + sz ≤ us.length ∧ k (us.take o ++ vs ++ us.drop (o + sz)) := by
  intro us
  induction us with
  | nil =>
    intro o vs sz k h
    cases o with
    | zero =>
      obtain ⟨h1, h2⟩ := dropK_el (k := fun t => k (vs ++ t)) h
      exact ⟨by simpa using h1, by simpa using h2⟩
    | succ o => exact h.elim
  | cons u us ih =>
    intro o vs sz k h
    cases o with
    | zero =>
      obtain ⟨h1, h2⟩ := dropK_el (k := fun t => k (vs ++ t)) h
      exact ⟨by simpa using h1, by simpa using h2⟩
    | succ o =>
      obtain ⟨h1, h2⟩ := ih (k := fun r => k (u :: r)) h
      refine ⟨by simp only [List.length_cons]; omega, ?_⟩
      have e : o + 1 + sz = (o + sz) + 1 := by omega
      rw [e]
      simpa using h2
/-! literals of structs and arrays -/
noncomputable def bK (e : Env) (place : Nat → Option (Nat × Nat)) : List Value → List (Nat × Operand) → (List Value → Prop) → Prop → Prop
  | us, [], k, _ => k us
  | us, (i, x) :: ps, k, st => match ev e x with
    | some v => match place i with
      | some (o, sz) => match v with
        | .agg cs => (match Nat.beq cs.toList.length sz with
          | true => putsK us o cs.toList sz (fun us' => bK e place us' ps k st)
          | false => st)
        | v => (match Nat.beq 1 sz with
          | true => putK us o v (fun us' => bK e place us' ps k st)
          | false => st)
      | none => st
    | none => st
noncomputable def pBuild (tt : TT) (e : Env) (t : Nat) (ps : List (Nat × Operand)) (K : Value → Prop) (st : Prop) : Prop :=
  match tyOf tt t with
  | some (.struct fs) => (match infOf tt t with
    | some (.agg z, _, _) => bK e (fun i => match fs.toList[i]? with
      | some fd => (match infOf tt fd.type with
        | some (_, sz, _) => some (fd.offset, sz)
        | none => none)
      | none => none) z.toList ps (fun us => K (.agg us.toArray)) st
    | _ => st)
  | some (.array _ el) => (match infOf tt t with
    | some (.agg z, _, _) => (match infOf tt el with
      | some (_, sz, _) => bK e (fun i => some (i * sz, sz)) z.toList ps (fun us => K (.agg us.toArray)) st
      | none => st)
    | _ => st)
  | _ => st
theorem foldl_put (vs : List Value) : ∀ (i o : Nat) (cells : Array Value), (vs.zipIdx i).foldl (fun cs (q : Value × Nat) => cs.setIfInBounds (o + q.2) q.1) cells =
    (if o + i + vs.length ≤ cells.size then (cells.toList.take (o + i) ++ vs ++ cells.toList.drop (o + i + vs.length)).toArray else (vs.zipIdx i).foldl (fun cs (q : Value × Nat) => cs.setIfInBounds (o + q.2) q.1) cells) := by
  induction vs with
  | nil => intro i o cells; split <;> simp
  | cons v vs ih =>
    intro i o cells
    split
    · rename_i h
      simp only [List.length_cons] at h
      rw [List.zipIdx_cons, List.foldl_cons, ih (i + 1) o]
      rw [if_pos (by simp only [Array.size_setIfInBounds]; omega)]
      congr 1
      simp only [Array.toList_setIfInBounds]
      have hi : o + i < cells.toList.length := by simp; omega
      have e1 : o + (i + 1) = o + i + 1 := by omega
      rw [e1, List.take_succ_eq_append_getElem (by simpa using hi)]
      simp only [List.getElem_set_self, List.append_assoc, List.singleton_append, List.cons_append]
      rw [List.take_set_of_le (Nat.le_refl _), List.drop_set_of_lt (by omega)]
      simp [Nat.add_comm, Nat.add_left_comm]
    · rfl
theorem fill_one {place : Nat → Option (Nat × Nat)} {cells : List Value} {i o : Nat} {v : Value} {vs : List Value} {rest : List (Nat × Value)} (hp : place i = some (o, vs.length)) (hv : v.cells = vs.toArray) (ho : o + vs.length ≤ cells.length) :
    Instr.fill place cells.toArray ((i, v) :: rest) = Instr.fill place (cells.take o ++ vs ++ cells.drop (o + vs.length)).toArray rest := by
  have hz : v.cells.size = vs.length := by rw [hv]; simp
  have h1 := foldl_put vs 0 o cells.toArray
  rw [if_pos (by simpa using ho)] at h1
  simp only [Instr.fill, hp, hz]
  rw [if_neg (by simp; omega)]
  congr 1
  rw [hv]
  simpa using h1
def evP (e : Env) : List (Nat × Operand) → Option (List (Nat × Value))
  | [] => some []
  | (i, x) :: ps => match ev e x, evP e ps with
    | some v, some vs => some ((i, v) :: vs)
    | _, _ => none
theorem EnvOK.evP {n : Nat} {a : Act} {e : Env} (h : EnvOK n a e) : ∀ {ps : List (Nat × Operand)} {vs : List (Nat × Value)}, SX.evP e ps = some vs → ps.map (fun q => (q.1, a.eval q.2)) = vs := by
  intro ps
  induction ps with
  | nil => intro vs hx; simpa [SX.evP] using hx
  | cons q ps ih =>
    obtain ⟨i, x⟩ := q
    intro vs hx
    simp only [SX.evP] at hx
    split at hx
    · rename_i v us hv hvs
      injection hx with hx
      subst hx
      simp [h.eval hv, ih hvs]
    · cases hx
theorem bK_el {e : Env} {place : Nat → Option (Nat × Nat)} {st : Prop} : ∀ {ps : List (Nat × Operand)} {us : List Value} {k : List Value → Prop}, bK e place us ps k st →
    (∃ us' vs, evP e ps = some vs ∧ Instr.fill place us.toArray vs = some us'.toArray ∧ k us') ∨ st := by
  intro ps
  induction ps with
  | nil => intro us k h; exact .inl ⟨us, [], rfl, rfl, h⟩
  | cons q ps ih =>
    obtain ⟨i, x⟩ := q
    intro us k h
    unfold bK at h
    split at h
    · rename_i v hx
      split at h
      · rename_i o sz hpl
        split at h
        · rename_i cs
          split at h
          · rename_i hb
            have hsz := Nat.eq_of_beq_eq_true hb
            obtain ⟨h1, h2⟩ := putsK_el h
            rcases ih h2 with ⟨us', vs, h0, h3, h4⟩ | h2
            · refine .inl ⟨us', (i, .agg cs) :: vs, by simp only [evP, hx, h0], ?_, h4⟩
              rw [fill_one (vs := cs.toList) (by rw [hpl, hsz]) (by simp [Value.cells]) (by rw [hsz]; exact h1), hsz]
              exact h3
            · exact .inr h2
          · exact .inr h
        · rename_i _ hne
          split at h
          · rename_i hb
            have hsz := Nat.eq_of_beq_eq_true hb
            obtain ⟨h1, h2⟩ := putK_el h
            have hc : v.cells = #[v] := by
              cases v <;> first | rfl | exact (hne _ rfl).elim
            rcases ih h2 with ⟨us', vs, h0, h3, h4⟩ | h2
            · refine .inl ⟨us', (i, v) :: vs, by simp only [evP, hx, h0], ?_, h4⟩
              rw [fill_one (vs := [v]) (by rw [hpl, ← hsz]; rfl) hc (by show o + 1 ≤ us.length; omega)]
              rw [List.set_eq_take_append_cons_drop, if_pos h1] at h3
              simpa using h3
            · exact .inr h2
          · exact .inr h
      · exact .inr h
    · exact .inr h
section
variable {P : Program} {tt : TT} {e : Env} {K : Value → Prop} {st : Prop}
theorem mapM_places (P : Program) (w : World) {tt : TT} (hT : TyOK P tt) : ∀ (fs : List Field), (∀ f ∈ fs, ∃ q, infOf tt f.type = some q) →
    (fs.mapM (m := Sem) fun f => do pure (f.offset, ← sizeOf f.type)).run P w = .ok (fs.map fun f => (f.offset, match infOf tt f.type with
      | some (_, sz, _) => sz
      | none => 0)) w := by
  intro fs
  induction fs with
  | nil => intro _; simp
  | cons f fs ih =>
    intro h
    obtain ⟨⟨z, sz, b⟩, hq⟩ := h f List.mem_cons_self
    have hi := hT.inf hq
    rw [List.mapM_cons]
    have ih' := ih (fun g hg => h g (List.mem_cons_of_mem _ hg))
    simp only [Sem.run_bind, hi.run_size, Result.andThen_ok, Sem.run_pure, ih', hq, List.map_cons]
def allInf (tt : TT) : List Field → Bool
  | [] => true
  | f :: fs => match infOf tt f.type with
    | some _ => allInf tt fs
    | none => false
theorem allInf_ok {tt : TT} : ∀ {fs : List Field}, allInf tt fs = true → ∀ f ∈ fs, ∃ q, infOf tt f.type = some q := by
  intro fs
  induction fs with
  | nil => intro _ f hf; cases hf
  | cons g fs ih =>
    intro h f hf
    unfold allInf at h
    split at h
    · rename_i q hq
      rcases List.mem_cons.1 hf with rfl | hf
      · exact ⟨q, hq⟩
      · exact ih h f hf
    · cases h
theorem fill_congr {p q : Nat → Option (Nat × Nat)} : ∀ (ps : List (Nat × Value)) (cells r : Array Value), (∀ i o, p i = some o → q i = some o) → Instr.fill p cells ps = some r → Instr.fill q cells ps = some r := by
  intro ps
  induction ps with
  | nil => intro cells r _ h; exact h
  | cons x ps ih =>
    obtain ⟨i, v⟩ := x
    intro cells r hpq h
    unfold Instr.fill at h ⊢
    split at h
    · cases h
    · rename_i off size hp
      rw [hpq i _ hp]
      simp only
      split at h
      · cases h
      · rename_i hc
        rw [if_neg hc]
        exact ih _ _ hpq h
end
/-- What a literal needs of its type: all its fields' sizes. -/
noncomputable def pBuild' (tt : TT) (e : Env) (t : Nat) (ps : List (Nat × Operand)) (K : Value → Prop) (st : Prop) : Prop :=
  match tyOf tt t with
  | some (.struct fs) => spl (allInf tt fs.toList) (pBuild tt e t ps K st) st
  | _ => pBuild tt e t ps K st
section
variable {P : Program} {tt : TT} {e : Env} {K : Value → Prop} {st : Prop}
/-- A literal, once the frame is known. -/
theorem pBuild_el (hT : TyOK P tt) {t : TypeId} {ps : List (Nat × Operand)} (h : pBuild' tt e t ps K st) : (∃ v, EvA P e (.build t ps.toArray) v ∧ K v) ∨ st := by
  have hmap : ∀ a : Act, (ps.toArray.map fun (q : Nat × Operand) => (q.1, a.eval q.2)).toList = ps.map fun q => (q.1, a.eval q.2) := fun a => by simp
  unfold pBuild' at h
  split at h
  · rename_i fs ht
    have hu := hT.und ht
    rcases spl_el h with ⟨hall, h⟩ | ⟨_, h⟩
    · unfold pBuild at h
      rw [ht] at h
      simp only at h
      split at h
      · rename_i z sz by_ hi
        have hi := hT.inf hi
        rcases bK_el h with ⟨us', vs, h0, h1, h2⟩ | h
        · left
          refine ⟨_, fun cs d T pos af gu => ⟨(by intro _ hq; cases hq), fun n a w he _ => ?_⟩, h2⟩
          have hevs := he.evP h0
          have hpl := mapM_places P w hT fs.toList (allInf_ok hall)
          have hfill := fill_congr (q := fun i => (fs.toList.map fun f => (f.offset, match infOf tt f.type with
            | some (_, sz, _) => sz
            | none => 0)).toArray[i]?) _ _ _ (fun i o hio => by
              split at hio
              · rename_i fd hfd
                split at hio
                · rename_i q hq
                  simp only [Option.some.injEq] at hio
                  simp only [List.getElem?_toArray, List.getElem?_map, hfd, Option.map_some, hq, hio]
                · cases hio
              · cases hio) h1
          have hz : (Value.agg z).cells = z.toList.toArray := by simp [Value.cells]
          have hm2 : (fs.mapM (m := Sem) fun f => do pure (f.offset, ← sizeOf f.type)).run P w = .ok (fs.toList.map fun f => (f.offset, match infOf tt f.type with
            | some (_, sz, _) => sz
            | none => 0)).toArray w := by
            obtain ⟨fl⟩ := fs
            rw [List.mapM_toArray]
            simp only [map_eq_pure_bind, Sem.run_bind, hpl, Result.andThen_ok, Sem.run_pure]
          simp only [execOp, Instr.build, hmap, hevs, Sem.run_bind, hi.run_zero, hu.run, Result.andThen_ok, hm2, hz, hfill, Sem.run_pure]
        · exact .inr h
      · exact .inr h
    · exact .inr h
  · rename_i hne
    unfold pBuild at h
    split at h
    · rename_i fs ht
      exact absurd ht (by intro hh; exact hne _ hh)
    · rename_i m el ht
      have hu := hT.und ht
      split at h
      · rename_i z sz by_ hi
        have hi := hT.inf hi
        split at h
        · rename_i z' sz' b' hi'
          have hi' := hT.inf hi'
          rcases bK_el h with ⟨us', vs, h0, h1, h2⟩ | h
          · left
            refine ⟨_, fun cs d T pos af gu => ⟨(by intro _ hq; cases hq), fun n a w he _ => ?_⟩, h2⟩
            have hevs := he.evP h0
            have hz : (Value.agg z).cells = z.toList.toArray := by simp [Value.cells]
            simp only [execOp, Instr.build, hmap, hevs, Sem.run_bind, hi.run_zero, hu.run, Result.andThen_ok, hi'.run_size, hz, h1, Sem.run_pure]
          · exact .inr h
        · exact .inr h
      · exact .inr h
    · exact .inr h
end
noncomputable def pIndex (tt : TT) (e : Env) (t : Nat) (x y : Operand) (K : Value → Prop) (st : Prop) : Prop :=
  match ev e x with
  | some (.agg us) => (match tyOf tt t with
    | some (.array n el) => (match tyOf tt el with
      | some ds => (match infOf tt el with
        | some (_, sz, _) => (match ev e y with
          | some (.int _ i) => NatK i (fun m => Ob (m < n) (spl (plainD ds) (opt us.toList[m * sz]? K st) (dropK us.toList (m * sz) (fun r => takeK r sz (fun q => K (.agg q.toArray))))))
          | _ => st)
        | none => st)
      | none => st)
    | _ => st)
  | _ => st
noncomputable def pIdxAddr (tt : TT) (e : Env) (t : Nat) (x y : Operand) (K : Value → Prop) (st : Prop) : Prop :=
  match ev e x with
  | some (.pointer (some ⟨g, o, none⟩)) => (match tyOf tt t with
    | some (.array n el) => (match infOf tt el with
      | some (_, sz, _) => (match ev e y with
        | some (.int _ i) => NatK i (fun m => Ob (m < n) (K (.pointer (some ⟨g, o + m * sz, none⟩))))
        | _ => st)
      | none => st)
    | _ => st)
  | _ => st
section
variable {P : Program} {tt : TT} {e : Env} {K : Value → Prop} {st : Prop}
theorem pIndex_el (hT : TyOK P tt) {t : TypeId} {x y : Operand} (h : pIndex tt e t x y K st) : (∃ v, EvA P e (.index t x y) v ∧ K v) ∨ st := by
  unfold pIndex at h
  split at h
  · rename_i us hx
    split at h
    · rename_i n el ht
      have hu := hT.und ht
      split at h
      · rename_i ds hd
        have hd := hT.und hd
        split at h
        · rename_i z sz b hi
          have hi := hT.inf hi
          split at h
          · rename_i k i hy
            obtain ⟨m, rfl, hm, h⟩ := h.ex
            have hb : (0 : Int) ≤ (m : Int) ∧ (m : Int) < (n : Int) := ⟨by omega, by omega⟩
            rcases spl_el h with ⟨hp, h'⟩ | ⟨hp, h'⟩
            · rcases opt_el h' with ⟨v, hv, h'⟩ | h'
              · refine .inl ⟨v, fun cs d T pos af gu => ⟨(by intro _ hq; cases hq), fun nn a w he _ => ?_⟩, h'⟩
                have hv' : us[m * sz]? = some v := by simpa using hv
                simp [execOp, Instr.index, he.eval hx, he.eval hy, asIntOf, hu.run, hm, show ¬ n ≤ m from by omega, hi.run_size, part, hd.run_agg hp, hv']
              · exact .inr h'
            · obtain ⟨h1, h2⟩ := dropK_el h'
              obtain ⟨h3, h4⟩ := takeK_el h2
              refine .inl ⟨_, fun cs d T pos af gu => ⟨(by intro _ hq; cases hq), fun nn a w he _ => ?_⟩, h4⟩
              have hex : us.extract (m * sz) (m * sz + sz) = ((us.toList.drop (m * sz)).take sz).toArray := by
                obtain ⟨us⟩ := us
                simp [List.extract_eq_take_drop]
              simp [execOp, Instr.index, he.eval hx, he.eval hy, asIntOf, hu.run, hm, show ¬ n ≤ m from by omega, hi.run_size, part, hd.run_agg' hp, hex]
          · exact .inr h
        · exact .inr h
      · exact .inr h
    · exact .inr h
  · exact .inr h
theorem pIdxAddr_el (hT : TyOK P tt) {t : TypeId} {x y : Operand} (h : pIdxAddr tt e t x y K st) : (∃ v, EvA P e (.indexAddr t x y) v ∧ K v) ∨ st := by
  unfold pIdxAddr at h
  split at h
  · rename_i g o hx
    split at h
    · rename_i n el ht
      have hu := hT.und ht
      split at h
      · rename_i z sz b hi
        have hi := hT.inf hi
        split at h
        · rename_i k i hy
          obtain ⟨m, rfl, hm, h⟩ := h.ex
          refine .inl ⟨_, fun cs d T pos af gu => ?_, h⟩
          have := Ev.indexArr (P := P) (t := t) (cs := cs) (d := d) (T := T) (pos := pos) (af := af) (gu := gu) hx hy ⟨by omega, by omega⟩
          rw [Int.toNat_natCast] at this
          exact this
        · exact .inr h
      · exact .inr h
    · exact .inr h
  · exact .inr h
end
/-- An operation that only reckons: its value is handed on; else: stopped. -/
noncomputable def pOp (tt : TT) (e : Env) (op : Op) (K : Value → Prop) (st : Prop) : Prop :=
  match op with
  | .move x => opt (ev e x) K st
  | .assign x => opt (ev e x) K st
  | .pick c a b => (match ev e c with
    | some (.bool cb) => spl cb (opt (ev e a) K st) (opt (ev e b) K st)
    | _ => st)
  | .extract x i => (match ev e x with
    | some (.tuple vs) => opt vs.toList[i]? K st
    | _ => st)
  | .unOp .not _ x => (match ev e x with
    | some (.bool b) => K (.bool (!b))
    | _ => st)
  | .unOp .neg _ x => (match ev e x with
    | some (.int k a) => fit k (-a) K st
    | _ => st)
  | .binOp op t x y _ => pBin tt e op t x y K st
  | .convert s t x => pConv tt e s t x K st
  | .call ⟨.builtin b, xs, ts⟩ => pCall tt e b xs.toList ts.toList K st
  | .slice t x lo hi none => pSlice tt e t x lo hi K st
  | .fieldAddr t x f => pFieldAddr tt e t x f K st
  | .field t x f => pField tt e t x f K st
  | .build t ps => pBuild' tt e t ps.toList K st
  | .index t x y => pIndex tt e t x y K st
  | .indexAddr t x y => pIdxAddr tt e t x y K st
  | .nilCheck x => (match ev e x with
    | some (.pointer (some ad)) => K (.pointer (some ad))
    | some (.func (.func f) us vs) => K (.func (.func f) us vs)
    | _ => st)
  | .makeFunc fn xs ys => (match evs e xs.toList with
    | some us => (match evs e ys.toList with
      | some vs => K (.func fn us.toArray vs.toArray)
      | none => st)
    | none => st)
  | _ => st
section
variable {P : Program} {tt : TT} {e : Env} {K : Value → Prop} {st G : Prop}
theorem fit_el {k : IntKind} {a : Int} (h : fit k a K st) : K (.int k (k.wrap a)) ∨ st := by
  cases k <;> simp only [fit] at h
  all_goals first
    | exact .inr h
    | (obtain ⟨h1, h2⟩ := h; left; first | rwa [wrap_in h1.1 h1.2] | rwa [wrap_u64 h1.1 h1.2])
    | (left; unfold u8 at h; rw [byteOf_toNat] at h; rwa [wrap_u8_mod])
theorem p2K_el {m : Nat} {K : Int → Prop} (h : p2K m K st) : (m ≤ 64 ∧ K (2 ^ m)) ∨ st := by
  unfold p2K at h
  split at h
  all_goals first
    | exact .inr h
    | exact .inl ⟨by omega, h⟩
theorem pInt_el {op : BinOp} {t t' : TypeId} {x y : Operand} {k : IntKind} {a b : Int} (hx : ev e x = some (.int k a)) (hy : ev e y = some (.int k b)) (h : pInt op k a b K st) :
    (∃ v, EvA P e (.binOp op t x y t') v ∧ K v) ∨ st := by
  cases op <;> simp only [pInt] at h
  case lss => exact .inl ⟨_, fun _ _ _ _ _ _ => Ev.lss hx hy, h⟩
  case leq => exact .inl ⟨_, fun _ _ _ _ _ _ => Ev.leq hx hy, h⟩
  case gtr => exact .inl ⟨_, fun _ _ _ _ _ _ => Ev.gtr hx hy, h⟩
  case geq => exact .inl ⟨_, fun _ _ _ _ _ _ => Ev.geq hx hy, h⟩
  case eql => exact .inl ⟨_, fun _ _ _ _ _ _ => Ev.eql hx hy, h⟩
  case neq => exact .inl ⟨_, fun _ _ _ _ _ _ => Ev.neq hx hy, h⟩
  case add => exact (fit_el h).imp (fun h => ⟨_, fun _ _ _ _ _ _ => Ev.addk hx hy, h⟩) id
  case sub => exact (fit_el h).imp (fun h => ⟨_, fun _ _ _ _ _ _ => Ev.subk hx hy, h⟩) id
  case mul => exact (fit_el h).imp (fun h => ⟨_, fun _ _ _ _ _ _ => Ev.mulk hx hy, h⟩) id
  all_goals exact .inr h
theorem pShift_el {op : BinOp} (hop : op = .shl ∨ op = .shr) {t t' : TypeId} {x y : Operand} {k : IntKind} {a : Int} (hx : ev e x = some (.int k a)) (h : pShift op k a y K st) :
    (∃ v, EvA P e (.binOp op t x y t') v ∧ K v) ∨ st := by
  unfold pShift at h
  split at h
  · rename_i kk m
    rcases p2K_el h with ⟨hm, h⟩ | h
    · have hy : ev e (.const (.int kk (.ofNat m))) = some (.int kk (m : Int)) := rfl
      split at h
      · exact (fit_el h).imp (fun h => ⟨_, fun _ _ _ _ _ _ => Ev.shlw m _ hx hy hm rfl, h⟩) id
      · exact .inl ⟨_, fun _ _ _ _ _ _ => Ev.shrm m _ hx hy hm rfl, h⟩
      · exact (fit_el h).imp (fun h => ⟨_, fun _ _ _ _ _ _ => Ev.shlw m _ hx hy hm rfl, h⟩) id
      · exact .inl ⟨_, fun _ _ _ _ _ _ => Ev.shrm m _ hx hy hm rfl, h⟩
      · exact .inr h
    · exact .inr h
  · exact .inr h
theorem pBin_el (hT : TyOK P tt) {op : BinOp} {t t' : TypeId} {x y : Operand} (h : pBin tt e op t x y K st) : (∃ v, EvA P e (.binOp op t x y t') v ∧ K v) ∨ st := by
  unfold pBin at h
  split at h
  · rename_i k a hx
    split at h
    · exact pShift_el (.inl rfl) hx h
    · exact pShift_el (.inr rfl) hx h
    · split at h
      · rename_i k' b hy
        rcases spl_el h with ⟨hk, h'⟩ | ⟨_, h'⟩
        · have := kbeq_eq hk
          subst this
          exact pInt_el hx hy h'
        · exact .inr h'
      · exact .inr h
  · rename_i a hx
    split at h
    · rename_i b hy
      split at h
      · rename_i ht
        have hu := hT.und ht
        split at h
        · exact .inl ⟨_, fun _ _ _ _ _ _ => Ev.eqlB hx hy, h⟩
        · exact .inl ⟨_, fun _ _ _ _ _ _ => Ev.neqB hx hy, h⟩
        · exact .inr h
      · exact .inr h
    · exact .inr h
  · rename_i a hx
    split at h
    · rename_i b hy
      split at h
      · exact .inl ⟨_, fun _ _ _ _ _ _ => Ev.eqlS hx hy, h⟩
      · exact .inl ⟨_, fun _ _ _ _ _ _ => Ev.neqS hx hy, h⟩
      · exact .inl ⟨_, fun _ _ _ _ _ _ => Ev.lssS hx hy, h⟩
      · exact .inr h
    · exact .inr h
  · rename_i A hx
    split at h
    · rename_i hy
      split at h
      · rename_i el ht
        have hu := hT.und ht
        split at h
        · exact .inl ⟨_, fun _ _ _ _ _ _ => Ev.eqlP hx hy, h⟩
        · exact .inl ⟨_, fun _ _ _ _ _ _ => Ev.neqP hx hy, h⟩
        · exact .inr h
      · exact .inr h
    · exact .inr h
  · rename_i A m c hx
    split at h
    · rename_i hy
      split at h
      · rename_i el ht
        have hu := hT.und ht
        split at h
        · exact .inl ⟨_, fun _ _ _ _ _ _ => Ev.eqlL hx hy, h⟩
        · exact .inl ⟨_, fun _ _ _ _ _ _ => Ev.neqL hx hy, h⟩
        · exact .inr h
      · exact .inr h
    · exact .inr h
  · rename_i hx
    split at h
    · rename_i hy
      split at h
      · rename_i ht
        have hu := hT.und ht
        split at h
        · exact .inl ⟨_, fun _ _ _ _ _ _ => Ev.eqlF hx hy, h⟩
        · exact .inl ⟨_, fun _ _ _ _ _ _ => Ev.neqF hx hy, h⟩
        · exact .inr h
      · exact .inr h
    · exact .inr h
  · rename_i hx
    split at h
    · rename_i hy
      split at h
      · rename_i ht
        have hu := hT.und ht
        split at h
        · exact .inl ⟨_, fun _ _ _ _ _ _ => Ev.eqlF0 hx hy, h⟩
        · exact .inl ⟨_, fun _ _ _ _ _ _ => Ev.neqF0 hx hy, h⟩
        · exact .inr h
      · exact .inr h
    · exact .inr h
  · exact .inr h
theorem Ev.convSame {cs : List Chunk} {d : Option Tmp} {T : TypeId} {pos : String} {af : Array Edge} {gu : Option (Nat × Bool)} {s t : TypeId} {ds : TypeDesc} {k : IntKind} {x : Operand} {a : Int} [hs : Und P s ds] [ht : Und P t (.int k)] (hx : ev e x = some (.int k a)) (hw : k.wrap a = a) :
    Ev P e cs ⟨d, .convert s t x, T, pos, af, gu⟩ (.int k a) := by
  have := Ev.convk (P := P) (cs := cs) (d := d) (T := T) (pos := pos) (af := af) (gu := gu) (s := s) (t := t) (k := k) hx
  rwa [hw] at this
theorem pConv_el (hT : TyOK P tt) {s t : TypeId} {x : Operand} (h : pConv tt e s t x K st) : (∃ v, EvA P e (.convert s t x) v ∧ K v) ∨ st := by
  unfold pConv at h
  split at h
  · rename_i k a hx
    split at h
    · rename_i ds hs
      have hs := hT.und hs
      split at h
      · rename_i kt ht
        have ht := hT.und ht
        exact (fit_el h).imp (fun h => ⟨_, fun _ _ _ _ _ _ => Ev.convk hx, h⟩) id
      · exact .inr h
    · exact .inr h
  · exact .inr h
theorem min_if (a b : Int) : (if b < a then b else a) = min b a := by rw [Int.min_def]; split <;> split <;> omega
theorem max_if (a b : Int) : (if b > a then b else a) = max b a := by rw [Int.max_def]; split <;> split <;> omega
theorem Ev.min2' {cs : List Chunk} {d : Option Tmp} {T : TypeId} {pos : String} {af : Array Edge} {gu : Option (Nat × Bool)} {x y : Operand} {ts : Array TypeId} {k k' : IntKind} {a b : Int} (hx : ev e x = some (.int k a)) (hy : ev e y = some (.int k' b)) :
    Ev P e cs ⟨d, .call ⟨.builtin .min, #[x, y], ts⟩, T, pos, af, gu⟩ (.int k (min b a)) := by
  have := Ev.min2 (P := P) (cs := cs) (d := d) (T := T) (pos := pos) (af := af) (gu := gu) (ts := ts) hx hy; rwa [min_if] at this
theorem Ev.max2' {cs : List Chunk} {d : Option Tmp} {T : TypeId} {pos : String} {af : Array Edge} {gu : Option (Nat × Bool)} {x y : Operand} {ts : Array TypeId} {k k' : IntKind} {a b : Int} (hx : ev e x = some (.int k a)) (hy : ev e y = some (.int k' b)) :
    Ev P e cs ⟨d, .call ⟨.builtin .max, #[x, y], ts⟩, T, pos, af, gu⟩ (.int k (max b a)) := by
  have := Ev.max2 (P := P) (cs := cs) (d := d) (T := T) (pos := pos) (af := af) (gu := gu) (ts := ts) hx hy; rwa [max_if] at this
theorem Ev.max3' {e : Env} {P : Program} {cs : List Chunk} {d : Option Tmp} {T : TypeId} {pos : String} {af : Array Edge} {gu : Option (Nat × Bool)} {x y z : Operand} {ts : Array TypeId} {k k' k'' : IntKind} {a b c : Int} (hx : ev e x = some (.int k a)) (hy : ev e y = some (.int k' b)) (hz : ev e z = some (.int k'' c)) :
    Ev P e cs ⟨d, .call ⟨.builtin .max, #[x, y, z], ts⟩, T, pos, af, gu⟩ (.int k (max c (max b a))) := by
  refine ⟨(by intro _ hq; cases hq), fun n a' w he _ => ?_⟩
  have h1 : (if b > a then b else a) = max b a := by rw [Int.max_def]; split <;> split <;> omega
  have h2 : ∀ m : Int, (if c > m then c else m) = max c m := fun m => by rw [Int.max_def]; split <;> split <;> omega
  simp [execOp, resolve, invoke, builtin, he.eval hx, he.eval hy, he.eval hz, Builtin.max_, Builtin.max2, h1, h2]
theorem pCall_el (hT : TyOK P tt) {b : Builtin} {xs : Array Operand} {ts : Array TypeId} (h : pCall tt e b xs.toList ts.toList K st) : (∃ v, EvA P e (.call ⟨.builtin b, xs, ts⟩) v ∧ K v) ∨ st := by
  obtain ⟨xs⟩ := xs
  obtain ⟨ts⟩ := ts
  unfold pCall at h
  split at h
  · rename_i x t hxs hts
    dsimp only at hxs hts
    subst hxs hts
    split at h
    · rename_i ht
      have hu := hT.und ht
      split at h
      · rename_i hx
        exact .inl ⟨_, fun _ _ _ _ _ _ => Ev.len hx, h⟩
      · exact .inr h
    · rename_i ht
      have hu := hT.und ht
      split at h
      · rename_i hx
        exact .inl ⟨_, fun _ _ _ _ _ _ => Ev.lenS hx, h⟩
      · exact .inr h
    · rename_i ht
      have hu := hT.und ht
      rcases opt_el h with ⟨v, hx, h'⟩ | h'
      · exact .inl ⟨_, fun _ _ _ _ _ _ => Ev.lenA hx, h'⟩
      · exact .inr h'
    · exact .inr h
  · rename_i x y _ hxs
    dsimp only at hxs
    subst hxs
    split at h
    · rename_i hx
      split at h
      · rename_i hy
        exact .inl ⟨_, fun _ _ _ _ _ _ => Ev.min2' hx hy, h⟩
      · exact .inr h
    · exact .inr h
  · rename_i x y _ hxs
    dsimp only at hxs
    subst hxs
    split at h
    · rename_i hx
      split at h
      · rename_i hy
        exact .inl ⟨_, fun _ _ _ _ _ _ => Ev.max2' hx hy, h⟩
      · exact .inr h
    · exact .inr h
  · rename_i x y z _ hxs
    dsimp only at hxs
    subst hxs
    split at h
    · rename_i hx
      split at h
      · rename_i hy
        split at h
        · rename_i hz
          exact .inl ⟨_, fun _ _ _ _ _ _ => Ev.max3' hx hy hz, h⟩
        · exact .inr h
      · exact .inr h
    · exact .inr h
  · exact .inr h
section
variable {cs : List Chunk} {d : Option Tmp} {T : TypeId} {pos : String} {af : Array Edge} {gu : Option (Nat × Bool)}
theorem Ev.sliceHiN {t el : TypeId} {z : Value} {sz by_ n c m : Nat} {A : Option Addr} {k : IntKind} {x y : Operand} [hu : Und P t (.slice el)] [hinf : Inf P el z sz by_]
    (hx : ev e x = some (.slice A n c)) (hy : ev e y = some (.int k (m : Int))) (hb : m ≤ c) : Ev P e cs ⟨d, .slice t x none (some y) none, T, pos, af, gu⟩ (.slice A m c) := by
  have := Ev.sliceHi (P := P) (cs := cs) (d := d) (T := T) (pos := pos) (af := af) (gu := gu) (t := t) hx hy ⟨by omega, by omega⟩
  rwa [Int.toNat_natCast] at this
theorem Ev.sliceLoN {t el : TypeId} {z : Value} {sz by_ n c m q : Nat} {A : Option Addr} {k : IntKind} {x y : Operand} [hu : Und P t (.slice el)] [hinf : Inf P el z sz by_]
    (hx : ev e x = some (.slice A n c)) (hy : ev e y = some (.int k (m : Int))) (hb : q + m = n) : Ev P e cs ⟨d, .slice t x (some y) none none, T, pos, af, gu⟩ (.slice (subA A c m sz) q (c - m)) := by
  have := Ev.sliceLo (P := P) (cs := cs) (d := d) (T := T) (pos := pos) (af := af) (gu := gu) (t := t) hx hy ⟨by omega, by omega⟩
  rwa [Int.toNat_natCast, ← hb, Nat.add_sub_cancel] at this
theorem Ev.slice2N {t el : TypeId} {z : Value} {sz by_ n c m m' q : Nat} {A : Option Addr} {k k' : IntKind} {x y y' : Operand} [hu : Und P t (.slice el)] [hinf : Inf P el z sz by_]
    (hx : ev e x = some (.slice A n c)) (hy : ev e y = some (.int k (m : Int))) (hy' : ev e y' = some (.int k' (m' : Int))) (hb : q + m = m') (hc : m' ≤ c) :
    Ev P e cs ⟨d, .slice t x (some y) (some y') none, T, pos, af, gu⟩ (.slice (subA A c m sz) q (c - m)) := by
  have := Ev.slice2 (P := P) (cs := cs) (d := d) (T := T) (pos := pos) (af := af) (gu := gu) (t := t) hx hy hy' ⟨by omega, by omega, by omega⟩
  rwa [Int.toNat_natCast, Int.toNat_natCast, ← hb, Nat.add_sub_cancel] at this
end
theorem pSlice_el (hT : TyOK P tt) {t : TypeId} {x : Operand} {lo hi : Option Operand} (h : pSlice tt e t x lo hi K st) : (∃ v, EvA P e (.slice t x lo hi none) v ∧ K v) ∨ st := by
  unfold pSlice at h
  split at h
  · rename_i A m c hx
    split at h
    · rename_i el ht
      have hu := hT.und ht
      split at h
      · rename_i z sz by_ hi'
        have hinf := hT.inf hi'
        split at h
        · split at h
          · split at h
            · rename_i hy
              obtain ⟨m, rfl, hb, h1⟩ := h.ex
              exact .inl ⟨_, fun _ _ _ _ _ _ => Ev.sliceHiN hx hy hb, h1⟩
            · exact .inr h
          · exact .inr h
        · split at h
          · rename_i hy
            split at h
            · obtain ⟨m, rfl, hb, h⟩ := h.ex
              have h := h _ (Nat.sub_add_cancel hb)
              exact .inl ⟨_, fun _ _ _ _ _ _ => Ev.sliceLoN hx hy (Nat.sub_add_cancel hb), h⟩
            · split at h
              · rename_i hy'
                obtain ⟨m, rfl, h1⟩ := h.ex
                obtain ⟨m', rfl, hb, h2⟩ := h1.ex
                exact .inl ⟨_, fun _ _ _ _ _ _ => Ev.slice2N hx hy hy' (Nat.sub_add_cancel hb.1) hb.2, h2 _ (Nat.sub_add_cancel hb.1)⟩
              · exact .inr h
          · exact .inr h
      · exact .inr h
    · exact .inr h
  · rename_i ad hx
    split at h
    · rename_i ht
      have hu := hT.und ht
      split at h
      · rename_i q hi'
        obtain ⟨z, sz, by_⟩ := q
        have hinf := hT.inf hi'
        split at h
        · exact .inl ⟨_, fun _ _ _ _ _ _ => Ev.sliceArr hx, h⟩
        · exact .inr h
      · exact .inr h
    · exact .inr h
  · exact .inr h
theorem pFieldAddr_el (hT : TyOK P tt) {t : TypeId} {x : Operand} {f : Nat} (h : pFieldAddr tt e t x f K st) : (∃ v, EvA P e (.fieldAddr t x f) v ∧ K v) ∨ st := by
  unfold pFieldAddr at h
  split at h
  · rename_i hx
    split at h
    · rename_i fs ht
      have hu := hT.und ht
      split at h
      · rename_i fd hf
        split at h
        · rename_i z sz by_ hi
          have hi := hT.inf hi
          split at h
          · exact .inr h
          · exact .inl ⟨_, fun _ _ _ _ _ _ => Ev.fieldAddr hx (by simpa using hf) hi (by omega), h⟩
        · exact .inr h
      · exact .inr h
    · exact .inr h
  · exact .inr h
theorem pField_el (hT : TyOK P tt) {t : TypeId} {x : Operand} {f : Nat} (h : pField tt e t x f K st) : (∃ v, EvA P e (.field t x f) v ∧ K v) ∨ st := by
  unfold pField at h
  split at h
  · rename_i us hx
    obtain ⟨us⟩ := us
    split at h
    · rename_i fs ht
      have hu := hT.und ht
      split at h
      · rename_i fd hf
        split at h
        · rename_i ds hd
          have hd := hT.und hd
          rcases spl_el h with ⟨hp, h'⟩ | ⟨hp, h'⟩
          · rcases opt_el h' with ⟨v, hv, h'⟩ | h'
            · exact .inl ⟨_, fun _ _ _ _ _ _ => Ev.field (us := us) hx (by simpa using hf) hd hp hv, h'⟩
            · exact .inr h'
          · split at h'
            · rename_i hi
              exact .inl ⟨_, fun _ _ _ _ _ _ => Ev.fieldAgg (us := us) hx (by simpa using hf) hd (hT.inf hi) hp, h'⟩
            · exact .inr h'
        · exact .inr h
      · exact .inr h
    · exact .inr h
  · exact .inr h
theorem Ev.negk {cs : List Chunk} {d : Option Tmp} {T : TypeId} {pos : String} {af : Array Edge} {gu : Option (Nat × Bool)} {t : TypeId} {x : Operand} {k : IntKind} {a : Int} (hx : ev e x = some (.int k a)) :
    Ev P e cs ⟨d, .unOp .neg t x, T, pos, af, gu⟩ (.int k (k.wrap (-a))) := by
  refine ⟨(by intro _ hq; cases hq), fun n a' w he _ => ?_⟩; simp [execOp, he.eval hx, Op.unary, Op.intArith]
theorem pOp_el (hT : TyOK P tt) {op : Op} (h : pOp tt e op K st) : (∃ v, EvA P e op v ∧ K v) ∨ st := by
  unfold pOp at h
  split at h
  · rcases opt_el h with ⟨v, hx, h'⟩ | h'
    · exact .inl ⟨_, fun _ _ _ _ _ _ => Ev.move hx, h'⟩
    · exact .inr h'
  · rcases opt_el h with ⟨v, hx, h'⟩ | h'
    · exact .inl ⟨_, fun _ _ _ _ _ _ => Ev.assign hx, h'⟩
    · exact .inr h'
  · split at h
    · rename_i cb hc
      rcases spl_el h with ⟨hb, h'⟩ | ⟨hb, h'⟩
      · subst hb
        rcases opt_el h' with ⟨v, hx, h'⟩ | h'
        · exact .inl ⟨_, fun _ _ _ _ _ _ => Ev.pickT hc hx, h'⟩
        · exact .inr h'
      · subst hb
        rcases opt_el h' with ⟨v, hx, h'⟩ | h'
        · exact .inl ⟨_, fun _ _ _ _ _ _ => Ev.pickF hc hx, h'⟩
        · exact .inr h'
    · exact .inr h
  · split at h
    · rename_i vs hx
      obtain ⟨vs⟩ := vs
      rcases opt_el h with ⟨v, hi, h'⟩ | h'
      · exact .inl ⟨_, fun _ _ _ _ _ _ => Ev.extract (vs := vs) hx hi, h'⟩
      · exact .inr h'
    · exact .inr h
  · split at h
    · rename_i hx
      exact .inl ⟨_, fun _ _ _ _ _ _ => Ev.not hx, h⟩
    · exact .inr h
  · split at h
    · rename_i hx
      exact (fit_el h).imp (fun h => ⟨_, fun _ _ _ _ _ _ => Ev.negk hx, h⟩) id
    · exact .inr h
  · exact pBin_el hT h
  · exact pConv_el hT h
  · exact pCall_el hT h
  · exact pSlice_el hT h
  · exact pFieldAddr_el hT h
  · exact pField_el hT h
  · exact pBuild_el hT h
  · exact pIndex_el hT h
  · exact pIdxAddr_el hT h
  · split at h
    · rename_i hx
      exact .inl ⟨_, fun _ _ _ _ _ _ => Ev.nilCheck hx, h⟩
    · rename_i hx
      exact .inl ⟨_, fun _ _ _ _ _ _ => Ev.nilCheckF hx, h⟩
    · exact .inr h
  · rename_i fn xs ys
    obtain ⟨xs⟩ := xs
    obtain ⟨ys⟩ := ys
    split at h
    · rename_i hx
      split at h
      · rename_i hy
        exact .inl ⟨_, fun _ _ _ _ _ _ => Ev.makeFunc (xs := xs) (ys := ys) hx hy, h⟩
      · exact .inr h
    · exact .inr h
  · exact .inr h
end
/-! regions and code -/
def dstL : List Oper → Nat → Option Tmp
  | [], _ => none
  | o :: _, 0 => o.dst
  | _ :: os, j + 1 => dstL os j
theorem dstL_eq (ops : List Oper) : ∀ j, dstL ops j = dstOf ops.toArray j := by
  induction ops with
  | nil => intro j; simp [dstL, dstOf]
  | cons o os ih =>
    intro j
    cases j with
    | zero => simp [dstL, dstOf]
    | succ j => rw [dstL, ih]; simp [dstOf]
/-- Operations with something to be shown: behind them the evaluation rests. -/
def obOp : Op → Bool
  | .binOp .add _ _ _ _ => true
  | .binOp .sub _ _ _ _ => true
  | .binOp .mul _ _ _ _ => true
  | .binOp .shl _ _ _ _ => true
  | .convert _ _ _ => true
  | .slice _ _ _ _ _ => true
  | .index _ _ _ => true
  | .indexAddr _ _ _ => true
  | .unOp .neg _ _ => true
  | _ => false
/-- Where the evaluation rests. -/
structure WB (P : Program) (n : Nat) (S : List Nat) (w0 : World) (r : List Chunk) (ops : Array Oper) (K : QS) (rest : List Oper) (e : Env) (l : List Chunk) : Prop where
  out : W P n S w0 r ops K rest e l
structure WCB (P : Program) (n : Nat) (S : List Nat) (w0 : World) (r : List Chunk) (c : Code) (K : QS) (e : Env) (l : List Chunk) : Prop where
  out : WC P n S w0 r c K e l
section
variable (P : Program) (tt : TT) (n : Nat) (S : List Nat) (w0 : World) (r : List Chunk) (ops : List Oper) (K : QS) (l : List Chunk)
noncomputable def evR : List Oper → Env → Prop
  | [], e => K .normal e l
  | ⟨d, op, T, pos, af, gu⟩ :: rest, e => match gu with
    | none => (match d with
      | some d => (match Nat.blt d n with
        | true => (match obOp op with
          | true => pOp tt e op (fun v => WB P n S w0 r ops.toArray K rest ((d, v) :: e) l) (W P n S w0 r ops.toArray K (⟨some d, op, T, pos, af, none⟩ :: rest) e l)
          | false => pOp tt e op (fun v => evR rest ((d, v) :: e)) (W P n S w0 r ops.toArray K (⟨some d, op, T, pos, af, none⟩ :: rest) e l))
        | false => W P n S w0 r ops.toArray K (⟨some d, op, T, pos, af, none⟩ :: rest) e l)
      | none => W P n S w0 r ops.toArray K (⟨none, op, T, pos, af, none⟩ :: rest) e l)
    | some (j, want) => (match dstL ops j with
      | some t => (match look e t with
        | some (.bool c) => spl c
          (match want with
            | true => WB P n S w0 r ops.toArray K (⟨d, op, T, pos, af, none⟩ :: rest) ((t, .bool true) :: e) l
            | false => (match d with
              | some d => (match Nat.blt d n with
                | true => WB P n S w0 r ops.toArray K rest ((d, undef) :: (t, .bool true) :: e) l
                | false => False)
              | none => WB P n S w0 r ops.toArray K rest ((t, .bool true) :: e) l))
          (match want with
            | false => WB P n S w0 r ops.toArray K (⟨d, op, T, pos, af, none⟩ :: rest) ((t, .bool false) :: e) l
            | true => (match d with
              | some d => (match Nat.blt d n with
                | true => WB P n S w0 r ops.toArray K rest ((d, undef) :: (t, .bool false) :: e) l
                | false => False)
              | none => WB P n S w0 r ops.toArray K rest ((t, .bool false) :: e) l))
        | some (.tuple _) => (match d with
          | some d => (match Nat.blt d n with
            | true => evR rest ((d, undef) :: e)
            | false => False)
          | none => evR rest e)
        | _ => W P n S w0 r ops.toArray K (⟨d, op, T, pos, af, gu⟩ :: rest) e l)
      | none => W P n S w0 r ops.toArray K (⟨d, op, T, pos, af, gu⟩ :: rest) e l)
end
section
variable {P : Program} {tt : TT} {n : Nat} {S : List Nat} {w0 : World} {r : List Chunk} {ops : List Oper} {K : QS} {l : List Chunk}
theorem evR_op (hT : TyOK P tt) {d : Tmp} {op : Op} {T : TypeId} {pos : String} {af : Array Edge} {rest : List Oper} {e : Env} {M : Value → Prop} (hd : Nat.blt d n = true)
    (ih : ∀ v, M v → W P n S w0 r ops.toArray K rest ((d, v) :: e) l) (h : pOp tt e op M (W P n S w0 r ops.toArray K (⟨some d, op, T, pos, af, none⟩ :: rest) e l)) :
    W P n S w0 r ops.toArray K (⟨some d, op, T, pos, af, none⟩ :: rest) e l := by
  rcases pOp_el hT h with ⟨v, hv, hm⟩ | h
  · exact W.ev (hv _ _ _ _ _ _) rfl rfl hd (ih v hm)
  · exact h
theorem evR_ok (hT : TyOK P tt) : ∀ (rest : List Oper) (e : Env), evR P tt n S w0 r ops K l rest e → W P n S w0 r ops.toArray K rest e l := by
  intro rest
  induction rest with
  | nil => intro e h; exact W.nil h
  | cons o rest ih =>
    obtain ⟨d, op, T, pos, af, gu⟩ := o
    intro e h
    unfold evR at h
    split at h
    · split at h
      · split at h
        · rename_i hd
          split at h
          · exact evR_op hT hd (fun v hv => hv.out) h
          · exact evR_op hT hd (fun v hv => ih _ hv) h
        · exact h
      · exact h
    · rename_i j want
      split at h
      · rename_i t ht
        rw [dstL_eq] at ht
        split at h
        · rename_i c hv
          rcases spl_el h with ⟨hc, h'⟩ | ⟨hc, h'⟩
          · split at h'
            · exact W.gon ht hv hc h'.out
            · split at h'
              · split at h'
                · rename_i hd; exact W.goff ht hv hc hd h'.out
                · exact h'.elim
              · exact W.goff0 ht hv hc h'.out
          · split at h'
            · exact W.gon ht hv hc h'.out
            · split at h'
              · split at h'
                · rename_i hd; exact W.goff ht hv hc hd h'.out
                · exact h'.elim
              · exact W.goff0 ht hv hc h'.out
        · rename_i hv
          split at h
          · split at h
            · rename_i hd; exact W.goffu ht hv hd (ih _ h)
            · exact h.elim
          · exact W.goffu0 ht hv (ih _ h)
        · exact h
      · exact h
end
section
variable (P : Program) (tt : TT) (n : Nat) (S : List Nat) (w0 : World) (r : List Chunk)
noncomputable def evC : Code → QS → Env → List Chunk → Prop
  | .skip, K, e, l => K .normal e l
  | .label _, K, e, l => K .normal e l
  | .exit i, K, e, l => K (.exit i) e l
  | .goto i, K, e, l => K (.goto i) e l
  | .ret, K, e, l => K .ret e l
  | .seq a b, K, e, l => evC a (thenK (fun e' l' => evC b K e' l') K) e l
  | .block id b, K, e, l => evC b (blockK id K) e l
  | .cond c a b, K, e, l => (match ev e c with
    | some (.bool x) => spl x (WCB P n S w0 r a K e l) (WCB P n S w0 r b K e l)
    | _ => WC P n S w0 r (.cond c a b) K e l)
  | .region id ops false, K, e, l => evR P tt n S w0 r ops.toList K l ops.toList e
  | c, K, e, l => WC P n S w0 r c K e l
end
section
variable {P : Program} {tt : TT} {n : Nat} {S : List Nat} {w0 : World} {r : List Chunk}
theorem evC_ok (hT : TyOK P tt) : ∀ (c : Code) (K : QS) (e : Env) (l : List Chunk), evC P tt n S w0 r c K e l → WC P n S w0 r c K e l := by
  intro c
  induction c with
  | skip => intro K e l h; exact WC.skip h
  | label i => intro K e l h; exact WC.label h
  | exit i => intro K e l h; exact WC.exit h
  | goto i => intro K e l h; exact WC.goto h
  | ret => intro K e l h; exact WC.ret h
  | seq a b iha ihb =>
    intro K e l h
    refine WC.seq (WC.mono (iha _ e l h) fun x e' l' hk => ?_)
    cases x with
    | normal => exact ihb _ _ _ hk
    | _ => exact hk
  | block id b ih => intro K e l h; exact WC.block (ih _ e l h)
  | cond c a b iha ihb =>
    intro K e l h
    unfold evC at h
    split at h
    · rename_i x hx
      rcases spl_el h with ⟨hc, h'⟩ | ⟨hc, h'⟩
      · exact WC.condT hx hc h'.out
      · exact WC.condF hx hc h'.out
    · exact h
  | region id ops draw =>
    intro K e l h
    cases draw with
    | true => exact h
    | false =>
      obtain ⟨ops⟩ := ops
      exact WC.region (evR_ok hT ops e h)
  | _ => intro K e l h; exact h
end
theorem WC.auto {P : Program} {n : Nat} {S : List Nat} {w0 : World} {r : List Chunk} [hT : Tys P] {c : Code} {K : QS} {e : Env} {l : List Chunk} (h : evC P hT.tt n S w0 r c K e l) : WC P n S w0 r c K e l := evC_ok hT.ok c K e l h
theorem W.auto {P : Program} {n : Nat} {S : List Nat} {w0 : World} {r : List Chunk} [hT : Tys P] {ops rest : List Oper} {K : QS} {e : Env} {l : List Chunk} (h : evR P hT.tt n S w0 r ops K l rest e) : W P n S w0 r ops.toArray K rest e l := evR_ok hT.ok rest e h
theorem WB.auto {P : Program} {n : Nat} {S : List Nat} {w0 : World} {r : List Chunk} [hT : Tys P] {ops rest : List Oper} {K : QS} {e : Env} {l : List Chunk} (h : evR P hT.tt n S w0 r ops K l rest e) : WB P n S w0 r ops.toArray K rest e l := ⟨evR_ok hT.ok rest e h⟩
theorem WCB.auto {P : Program} {n : Nat} {S : List Nat} {w0 : World} {r : List Chunk} [hT : Tys P] {c : Code} {K : QS} {e : Env} {l : List Chunk} (h : evC P hT.tt n S w0 r c K e l) : WCB P n S w0 r c K e l := ⟨evC_ok hT.ok c K e l h⟩
end Go.SX
/- Loops and cuts whose unchanged slots are found by evaluation. -/
namespace Go.SX
open Go Go.RowKit
theorem Ob.mk' {p q : Prop} (k : q) (h : p) : Ob p q := ⟨h, k⟩
/-- The slots that are named, as they stand. -/
noncomputable def restrK (e : Env) : List Nat → Env → (Env → Prop) → Prop
  | [], acc, k => k acc
  | t :: ts, acc, k => match look e t with
    | some v => restrK e ts ((t, v) :: acc) k
    | none => restrK e ts acc k
theorem restrK_el {e : Env} : ∀ {ts : List Nat} {acc : Env} {k : Env → Prop}, restrK e ts acc k → ∃ rest, k rest := by
  intro ts
  induction ts with
  | nil => intro acc k h; exact ⟨acc, h⟩
  | cons t ts ih =>
    intro acc k h
    unfold restrK at h
    split at h
    · exact ih h
    · exact ih h
section
variable {P : Program} {n : Nat} {S : List Nat} {w0 : World} {r : List Chunk}
/-- What holds at each round's head: the ghost's property, the slots that turn, the memory; the slots named 'live' stay as they are. -/
structure LoopQ (P : Program) (n : Nat) (S : List Nat) (w0 : World) (r : List Chunk) (X : Type) (x0 : X) (p : X → Prop) (E : X → Env) (L : X → List Chunk) (μ : X → Nat) (c : Code) (K : QS) (e : Env) (l : List Chunk) : Prop where
  he : EnvLe e (E x0)
  hl : ChLe l (L x0)
  round : ∀ x, p x → WC P n S w0 r c (thenK (fun e' l' => ∃ x', p x' ∧ EnvLe e' (E x') ∧ ChLe l' (L x') ∧ μ x' < μ x) K) (E x) (L x)
theorem WC.loopL {X : Type} (x0 : X) (p : X → Prop) (M : X → Env) (L : X → List Chunk) (μ : X → Nat) (live : List Nat) {c : Code} {K : QS} {e : Env} {l : List Chunk}
    (hp : p x0) (h : restrK e live [] (fun rest => LoopQ P n S w0 r X x0 p (fun x => M x ++ rest) L μ c K e l)) : WC P n S w0 r (.loop c) K e l := by
  obtain ⟨rest, h⟩ := restrK_el h
  exact WC.loop x0 p (fun x => M x ++ rest) L μ hp h.he h.hl h.round
structure LoopQ2 (P : Program) (n : Nat) (S : List Nat) (w0 : World) (r : List Chunk) (X Y : Type) (x0 : X) (y0 : Y) (p : X → Y → Prop) (E : X → Y → Env) (L : X → Y → List Chunk) (μ : X → Y → Nat) (c : Code) (K : QS) (e : Env) (l : List Chunk) : Prop where
  he : EnvLe e (E x0 y0)
  hl : ChLe l (L x0 y0)
  round : ∀ x y, p x y → WC P n S w0 r c (thenK (fun e' l' => ∃ x' y', p x' y' ∧ EnvLe e' (E x' y') ∧ ChLe l' (L x' y') ∧ μ x' y' < μ x y) K) (E x y) (L x y)
theorem WC.loopL2 {X Y : Type} (x0 : X) (y0 : Y) (p : X → Y → Prop) (M : X → Y → Env) (L : X → Y → List Chunk) (μ : X → Y → Nat) (live : List Nat) {c : Code} {K : QS} {e : Env} {l : List Chunk}
    (hp : p x0 y0) (h : restrK e live [] (fun rest => LoopQ2 P n S w0 r X Y x0 y0 p (fun x y => M x y ++ rest) L μ c K e l)) : WC P n S w0 r (.loop c) K e l := by
  obtain ⟨rest, h⟩ := restrK_el h
  refine WC.loop (X := X × Y) (x0, y0) (fun x => p x.1 x.2) (fun x => M x.1 x.2 ++ rest) (fun x => L x.1 x.2) (fun x => μ x.1 x.2) hp h.he h.hl fun x hx => ?_
  refine WC.mono (h.round x.1 x.2 hx) fun ex e' l' hk => ?_
  cases ex with
  | normal => obtain ⟨x', y', h1, h2, h3, h4⟩ := hk; exact ⟨(x', y'), h1, h2, h3, h4⟩
  | _ => exact hk
structure LoopQ3 (P : Program) (n : Nat) (S : List Nat) (w0 : World) (r : List Chunk) (X Y Z : Type) (x0 : X) (y0 : Y) (z0 : Z) (p : X → Y → Z → Prop) (E : X → Y → Z → Env) (L : X → Y → Z → List Chunk) (μ : X → Y → Z → Nat) (c : Code) (K : QS) (e : Env) (l : List Chunk) : Prop where
  he : EnvLe e (E x0 y0 z0)
  hl : ChLe l (L x0 y0 z0)
  round : ∀ x y z, p x y z → WC P n S w0 r c (thenK (fun e' l' => ∃ x' y' z', p x' y' z' ∧ EnvLe e' (E x' y' z') ∧ ChLe l' (L x' y' z') ∧ μ x' y' z' < μ x y z) K) (E x y z) (L x y z)
theorem WC.loopL3 {X Y Z : Type} (x0 : X) (y0 : Y) (z0 : Z) (p : X → Y → Z → Prop) (M : X → Y → Z → Env) (L : X → Y → Z → List Chunk) (μ : X → Y → Z → Nat) (live : List Nat) {c : Code} {K : QS} {e : Env} {l : List Chunk}
    (hp : p x0 y0 z0) (h : restrK e live [] (fun rest => LoopQ3 P n S w0 r X Y Z x0 y0 z0 p (fun x y z => M x y z ++ rest) L μ c K e l)) : WC P n S w0 r (.loop c) K e l := by
  obtain ⟨rest, h⟩ := restrK_el h
  refine WC.loop (X := X × Y × Z) (x0, y0, z0) (fun x => p x.1 x.2.1 x.2.2) (fun x => M x.1 x.2.1 x.2.2 ++ rest) (fun x => L x.1 x.2.1 x.2.2) (fun x => μ x.1 x.2.1 x.2.2) hp h.he h.hl fun x hx => ?_
  refine WC.mono (h.round x.1 x.2.1 x.2.2 hx) fun ex e' l' hk => ?_
  cases ex with
  | normal => obtain ⟨x', y', z', h1, h2, h3, h4⟩ := hk; exact ⟨(x', y', z'), h1, h2, h3, h4⟩
  | _ => exact hk
structure CutQ (P : Program) (n : Nat) (S : List Nat) (w0 : World) (r : List Chunk) (X : Type) (p : X → Prop) (E : X → Env) (L : X → List Chunk) (x y : Code) (K : QS) (e : Env) (l : List Chunk) : Prop where
  h1 : WC P n S w0 r x (thenK (fun e' l' => ∃ z, p z ∧ EnvLe e' (E z) ∧ ChLe l' (L z)) K) e l
  h2 : ∀ z, p z → WC P n S w0 r y K (E z) (L z)
theorem WC.cutL {X : Type} (p : X → Prop) (M : X → Env) (L : X → List Chunk) (live : List Nat) {x y : Code} {K : QS} {e : Env} {l : List Chunk}
    (h : restrK e live [] (fun rest => CutQ P n S w0 r X p (fun z => M z ++ rest) L x y K e l)) : WC P n S w0 r (x.seq y) K e l := by
  obtain ⟨rest, h⟩ := restrK_el h
  exact WC.cut p (fun z => M z ++ rest) L h.h1 h.h2
end
end Go.SX
namespace Go.SX
open Go Go.RowKit
section
variable {P : Program} {S : List Nat} {w0 : World} {r : List Chunk} {e : Env} {l cs : List Chunk} {T : TypeId} {pos : String} {af : Array Edge} {gu : Option (Nat × Bool)} {d : Option Tmp}
/-- A place that is a natural number. -/
theorem Ev.indexAddrN {t el : TypeId} {z : Value} {by_ n c k : Nat} {A : Option Addr} {kk : IntKind} {x y : Operand} {us : List Value} [hu : Und P t (.slice el)] [hi : Inf P el z 1 by_]
    (hx : ev e x = some (.slice A n c)) (hy : ev e y = some (.int kk (k : Int))) (hr : Rd (sliceC A c 1 n us) cs) (hb : k < n) :
    Ev P e cs ⟨d, .indexAddr t x y, T, pos, af, gu⟩ (ptrAt A k) := by
  have := Ev.indexAddr1 (P := P) (t := t) (d := d) (T := T) (pos := pos) (af := af) (gu := gu) hx hy hr ⟨by omega, by omega⟩
  rwa [Int.toNat_natCast] at this
end
section
variable {A : Option Addr} {c n m q : Nat} {T : TypeId} {bs : List UInt8} {xs : List Int}
theorem Sub.cutBq (h : q + m ≤ n) : Sub (bR (subA A c m 1) (c - m) q ((bs.drop m).take q)) (bR A c n bs) := by
  have := Sub.cutB (A := A) (c := c) (bs := bs) (lo := m) (hi := q + m) (n := n) ⟨by omega, h⟩
  rwa [Nat.add_sub_cancel] at this
theorem Sub.cutIq (h : q + m ≤ n) : Sub (iR (subA A c m 1) (c - m) q ((xs.drop m).take q)) (iR A c n xs) := by
  have := Sub.cutI (A := A) (c := c) (xs := xs) (lo := m) (hi := q + m) (n := n) ⟨by omega, h⟩
  rwa [Nat.add_sub_cancel] at this
theorem Sub.loBq (h : q + m = n ∧ bs.length ≤ n) : Sub (bR (subA A c m 1) (c - m) q (bs.drop m)) (bR A c n bs) := by
  have := Sub.loB (A := A) (c := c) (bs := bs) (lo := m) (n := n) ⟨by omega, h.2⟩
  rwa [show n - m = q by omega] at this
theorem Sub.loIq (h : q + m = n ∧ xs.length ≤ n) : Sub (iR (subA A c m 1) (c - m) q (xs.drop m)) (iR A c n xs) := by
  have := Sub.loI (A := A) (c := c) (xs := xs) (lo := m) (n := n) ⟨by omega, h.2⟩
  rwa [show n - m = q by omega] at this
theorem Stp.copyInBq {P : Program} {S : List Nat} {w0 : World} {r : List Chunk} {e : Env} {l : List Chunk} {T : TypeId} {pos : String} {af : Array Edge} {gu : Option (Nat × Bool)} {d : Option Tmp} {t t' el : TypeId} {z : Value} {by_ n c m c' lo q : Nat} {A A' : Option Addr} {us vs : List UInt8} {x y : Operand} {l1 : List Chunk} [hu : Und P t (.slice el)] [hi : Inf P el z 1 by_]
    (hx : ev e x = some (.slice (subA A c lo 1) q (c - lo))) (hy : ev e y = some (.slice A' m c')) (hp : Pick (bO A c el n us) l l1) (hr : Rd (bR A' c' m vs) (l1 ++ r))
    (hq : q + lo = n) (hm : m ≤ q) :
    Stp P S w0 r ⟨d, .call ⟨.builtin .copy, #[x, y], #[t, t']⟩, T, pos, af, gu⟩ e l (fun v l' => v = .int .i64 m ∧ l' = bO A c el n (us.take lo ++ vs ++ us.drop (lo + m)) :: l1) := by
  obtain rfl : q = n - lo := by omega
  exact Stp.copyInB hx hy hp hr (by omega) hm
end
end Go.SX
/- Regions that draw their order: what only reckons is evaluated. -/
namespace Go.SX
open Go Go.RowKit
theorem getL_arr (ops : List Oper) (i : Nat) : ops.toArray[i]? = ops[i]? := by simp
theorem gd_known {ops : Array Oper} {e : Env} {j u : Nat} {want : Bool} (hj : dstOf ops j = some u) (c : Bool) : gd ((u, .bool c) :: e) ops (some (j, want)) = some (c == want) := by
  have hb : Nat.beq u u = true := Nat.beq_refl u
  simp only [gd, hj, look, hb]
  cases c <;> cases want <;> rfl
theorem gd_undef {ops : Array Oper} {e : Env} {j u : Nat} {want : Bool} {us : Array Value} (hj : dstOf ops j = some u) (hv : look e u = some (.tuple us)) : gd e ops (some (j, want)) = some false := by
  simp only [gd, hj, hv]
structure WDB (P : Program) (n : Nat) (S : List Nat) (w0 : World) (r : List Chunk) (ops : Array Oper) (K : QS) (t : DT) (e : Env) (l : List Chunk) : Prop where
  out : WD P n S w0 r ops K t e l
section
variable (P : Program) (tt : TT) (n : Nat) (S : List Nat) (w0 : World) (r : List Chunk) (ops : List Oper) (K : QS)
noncomputable def evD : DT → Env → List Chunk → Prop
  | .nil, e, l => K .normal e l
  | .fl i t, e, l => (match ops[i]? with
    | some ⟨some d, op, _, _, _, none⟩ => (match Nat.blt d n with
      | true => (match obOp op with
        | true => pOp tt e op (fun v => WDB P n S w0 r ops.toArray K t ((d, v) :: e) l) (WD P n S w0 r ops.toArray K (.fl i t) e l)
        | false => pOp tt e op (fun v => evD t ((d, v) :: e) l) (WD P n S w0 r ops.toArray K (.fl i t) e l))
      | false => WD P n S w0 r ops.toArray K (.fl i t) e l)
    | some ⟨some d, op, _, _, _, some (j, want)⟩ => (match Nat.blt d n with
      | true => (match dstL ops j with
        | some u => (match look e u with
          | some (.bool c) => spl c
            (match want with
              | true => pOp tt ((u, .bool true) :: e) op (fun v => WDB P n S w0 r ops.toArray K t ((d, v) :: (u, .bool true) :: e) l) (WD P n S w0 r ops.toArray K (.fl i t) ((u, .bool true) :: e) l)
              | false => WDB P n S w0 r ops.toArray K t ((d, undef) :: (u, .bool true) :: e) l)
            (match want with
              | false => pOp tt ((u, .bool false) :: e) op (fun v => WDB P n S w0 r ops.toArray K t ((d, v) :: (u, .bool false) :: e) l) (WD P n S w0 r ops.toArray K (.fl i t) ((u, .bool false) :: e) l)
              | true => WDB P n S w0 r ops.toArray K t ((d, undef) :: (u, .bool false) :: e) l)
          | some (.tuple _) => evD t ((d, undef) :: e) l
          | _ => WD P n S w0 r ops.toArray K (.fl i t) e l)
        | none => WD P n S w0 r ops.toArray K (.fl i t) e l)
      | false => WD P n S w0 r ops.toArray K (.fl i t) e l)
    | _ => WD P n S w0 r ops.toArray K (.fl i t) e l)
  | t, e, l => WD P n S w0 r ops.toArray K t e l
end
section
variable {P : Program} {tt : TT} {n : Nat} {S : List Nat} {w0 : World} {r : List Chunk} {ops : List Oper} {K : QS}
theorem evD_op (hT : TyOK P tt) {i d : Nat} {op : Op} {T : TypeId} {pos : String} {af : Array Edge} {gu : Option (Nat × Bool)} {t : DT} {e : Env} {l : List Chunk} {M : Value → Prop} (hi : ops[i]? = some ⟨some d, op, T, pos, af, gu⟩)
    (hd : Nat.blt d n = true) (hg : gd e ops.toArray gu = some true) (ih : ∀ v, M v → WD P n S w0 r ops.toArray K t ((d, v) :: e) l)
    (h : pOp tt e op M (WD P n S w0 r ops.toArray K (.fl i t) e l)) : WD P n S w0 r ops.toArray K (.fl i t) e l := by
  rcases pOp_el hT h with ⟨v, hv, hm⟩ | h
  · exact WD.ev (o := ⟨some d, op, T, pos, af, gu⟩) (by rw [getL_arr]; exact hi) (hv _ _ _ _ _ _) hg rfl hd (ih v hm)
  · exact h
theorem evD_ok (hT : TyOK P tt) : ∀ (t : DT) (e : Env) (l : List Chunk), evD P tt n S w0 r ops K t e l → WD P n S w0 r ops.toArray K t e l := by
  intro t
  induction t with
  | nil => intro e l h; exact WD.nil h
  | fl i t ih =>
    intro e l h
    unfold evD at h
    split at h
    · rename_i d op T pos af hi
      split at h
      · rename_i hd
        split at h
        · exact evD_op hT hi hd rfl (fun v hv => hv.out) h
        · exact evD_op hT hi hd rfl (fun v hv => ih _ _ hv) h
      · exact h
    · rename_i d op T pos af j want hi
      have hi' : ops.toArray[i]? = some ⟨some d, op, T, pos, af, some (j, want)⟩ := by rw [getL_arr]; exact hi
      split at h
      · rename_i hd
        split at h
        · rename_i u hu
          rw [dstL_eq] at hu
          split at h
          · rename_i c hv
            rcases spl_el h with ⟨hc, h'⟩ | ⟨hc, h'⟩
            · subst hc
              refine WD.shadow hv ?_
              split at h'
              · exact evD_op hT hi hd (by rw [gd_known hu]; rfl) (fun v hv => hv.out) h'
              · exact WD.off hi' (by rw [gd_known hu]; rfl) rfl hd h'.out
            · subst hc
              refine WD.shadow hv ?_
              split at h'
              · exact evD_op hT hi hd (by rw [gd_known hu]; rfl) (fun v hv => hv.out) h'
              · exact WD.off hi' (by rw [gd_known hu]; rfl) rfl hd h'.out
          · rename_i hv
            exact WD.off hi' (gd_undef hu hv) rfl hd (ih _ _ h)
          · exact h
        · exact h
      · exact h
    · exact h
  | _ => intro e l h; exact h
end
theorem WD.auto {P : Program} {n : Nat} {S : List Nat} {w0 : World} {r : List Chunk} [hT : Tys P] {ops : List Oper} {K : QS} {t : DT} {e : Env} {l : List Chunk} (h : evD P hT.tt n S w0 r ops K t e l) : WD P n S w0 r ops.toArray K t e l := evD_ok hT.ok t e l h
theorem WDB.auto {P : Program} {n : Nat} {S : List Nat} {w0 : World} {r : List Chunk} [hT : Tys P] {ops : List Oper} {K : QS} {t : DT} {e : Env} {l : List Chunk} (h : evD P hT.tt n S w0 r ops K t e l) : WDB P n S w0 r ops.toArray K t e l := ⟨evD_ok hT.ok t e l h⟩
end Go.SX
namespace Go.SX
open Go Go.RowKit
section
variable {P : Program} {n : Nat} {S : List Nat} {w0 : World} {r : List Chunk}
/-! which step stands next -/
theorem W.at {op : Op} {T : TypeId} {pos : String} {af : Array Edge} {gu : Option (Nat × Bool)} {ops : Array Oper} {rest : List Oper} {K : QS} {e : Env} {l : List Chunk} (d : Tmp)
    (h : W P n S w0 r ops K (⟨some d, op, T, pos, af, gu⟩ :: rest) e l) : W P n S w0 r ops K (⟨some d, op, T, pos, af, gu⟩ :: rest) e l := h
theorem W.at0 {op : Op} {T : TypeId} {pos : String} {af : Array Edge} {gu : Option (Nat × Bool)} {ops : Array Oper} {rest : List Oper} {K : QS} {e : Env} {l : List Chunk}
    (h : W P n S w0 r ops K (⟨none, op, T, pos, af, gu⟩ :: rest) e l) : W P n S w0 r ops K (⟨none, op, T, pos, af, gu⟩ :: rest) e l := h
theorem WO.at {ops : Array Oper} {K : QS} {t : DT} {e : Env} {l : List Chunk} (i : Nat) (h : WO P n S w0 r ops K i t e l) : WO P n S w0 r ops K i t e l := h
theorem WD.at {ops : Array Oper} {K : QS} {t : DT} {e : Env} {l : List Chunk} (i : Nat) (h : WD P n S w0 r ops K (.fl i t) e l) : WD P n S w0 r ops K (.fl i t) e l := h
theorem WC.atR {ops : Array Oper} {b : Bool} {K : QS} {e : Env} {l : List Chunk} (i : Nat) (h : WC P n S w0 r (.region i ops b) K e l) : WC P n S w0 r (.region i ops b) K e l := h
theorem WC.atC {c : Code} {K : QS} {e : Env} {l : List Chunk} (h : WC P n S w0 r c K e l) : WC P n S w0 r c K e l := h
theorem resv_rfl {e : Env} {rs : List ResultVar} {vs : List Value} (h : resv e rs = some vs) : resv e rs = some vs := h
theorem Ob.at {p q : Prop} (h : Ob p q) : Ob p q := h
theorem NatK.at {a : Int} {p : Nat → Prop} (h : NatK a p) : NatK a p := h
end
end Go.SX
namespace Go.SX
open Go Go.RowKit
/-- What the chunks that come back tell is told in the post. -/
theorem Spec.told {P : Program} {f : FuncId} {args : List Value} {l r : List Chunk} {post post' : Value → List Chunk → Prop} (h : Spec P f args l r post)
    (hp : ∀ v l' w, post v l' → (∀ c ∈ l', c.holds w) → post' v l') : Spec P f args l r post' :=
  ⟨fun w hs => (h.out w hs).mono fun e w' ⟨v, l', h1, h2, h3⟩ => ⟨v, l', h1, hp v l' w' h2 h3.own, h3⟩⟩
theorem bO_len {A : Option Addr} {c n : Nat} {T : TypeId} {bs : List UInt8} {w : World} (h : (bO A c T n bs).holds w) : n = bs.length := (bR_len w (Sub.row.2 w h)).1.symm
theorem iO_len {A : Option Addr} {c n : Nat} {T : TypeId} {xs : List Int} {w : World} (h : (iO A c T n xs).holds w) : n = xs.length := (iR_len w (Sub.row.2 w h)).1.symm
end Go.SX
namespace Go.SX
open Go Go.RowKit
theorem Triv.nilB : Triv (bR none 0 0 []) := Triv.nilSlice
theorem Triv.nilI : Triv (iR none 0 0 []) := Triv.nilSlice
section
variable {P : Program} {S : List Nat} {w0 : World} {r : List Chunk} {e : Env} {l cs : List Chunk} {T : TypeId} {pos : String} {af : Array Edge} {gu : Option (Nat × Bool)} {d : Option Tmp}
theorem Stp.makeBN {t el : TypeId} {by_ n : Nat} {k k' : IntKind} {x y : Operand} [hu : Und P t (.slice el)] [hi : Inf P el (.int .u8 0) 1 by_]
    (hx : ev e x = some (.int k (n : Int))) (hy : ev e y = some (.int k' (n : Int))) (h0 : by_ * n ≤ 281474976710656 ∧ n ≤ 281474976710656) :
    Stp P S w0 r ⟨d, .makeSlice t x y, T, pos, af, gu⟩ e l (fun v l' => ∃ g, v = .slice (some ⟨g, 0, none⟩) n n ∧ l' = bO (some ⟨g, 0, none⟩) n el n (List.replicate n 0) :: l) := by
  have h1 := h0.1
  have h := Stp.makeB (P := P) (S := S) (w0 := w0) (r := r) (e := e) (l := l) (d := d) (T := T) (pos := pos) (af := af) (gu := gu) (t := t) hx hy ⟨by omega, by omega, by omega, by rw [← Int.natCast_mul]; omega⟩
  simpa only [Int.toNat_natCast] using h
theorem Stp.makeBK (n : Nat) {i j : Int} {t el : TypeId} {by_ : Nat} {k k' : IntKind} {x y : Operand} [hu : Und P t (.slice el)] [hi : Inf P el (.int .u8 0) 1 by_]
    (hx : ev e x = some (.int k i)) (hn : i = (n : Int)) (hy : ev e y = some (.int k' j)) (hm : j = (n : Int)) (h0 : by_ * n ≤ 281474976710656 ∧ n ≤ 281474976710656) :
    Stp P S w0 r ⟨d, .makeSlice t x y, T, pos, af, gu⟩ e l (fun v l' => ∃ g, v = .slice (some ⟨g, 0, none⟩) n n ∧ l' = bO (some ⟨g, 0, none⟩) n el n (List.replicate n 0) :: l) := by
  subst hn hm
  exact Stp.makeBN hx hy h0
end
end Go.SX
/- From memory to chunks: what a row's frame needs. -/
namespace Go.SX
open Go Go.RowKit
theorem sliceC_mk {A : Option Addr} {c s n : Nat} {cs : List Value} {w : World} (h1 : cs.length = n * s) (h2 : n ≤ c) (h3 : c ≤ maxLen) (h4 : 0 < cs.length → ∃ a, A = some a)
    (h5 : ∀ a, A = some a → ∀ j u, cs[j]? = some u → w.cell? (a.add j) = some u) : (sliceC A c s n cs).holds w := ⟨h1, h2, h3, h4, h5⟩
/-- What a slice of whole numbers of a kind that came in reads as. -/
theorem sliceC_ints {k : IntKind} {W : World} {a : Option Addr} {len cap : Nat} {zs : List Int}
    (h : (a = none ∧ len = 0 ∧ cap = 0 ∧ zs = []) ∨ ∃ x, a = some x ∧ len ≤ cap ∧ cap ≤ maxLen ∧ zs.length = cap ∧ (∀ i, i < zs.length → W.cell? (x.add i) = some (.int k (zs.getD i 0))) ∧ ∀ n ∈ zs, (Lit.int k n).wf = true) :
    (sliceC a cap 1 len ((zs.take len).map fun z => .int k z)).holds W := by
  rcases h with ⟨rfl, rfl, rfl, rfl⟩ | ⟨x, rfl, h1, h2, h3, h4, h5⟩
  · exact sliceC_mk (by simp) (Nat.le_refl _) (Nat.zero_le _) (by simp) (fun a ha => by cases ha)
  · refine sliceC_mk (by simp only [List.length_map, List.length_take]; omega) h1 h2 (fun _ => ⟨x, rfl⟩) fun a ha j u hu => ?_
    obtain rfl : x = a := Option.some.inj ha
    rw [List.getElem?_map, List.getElem?_take] at hu
    split at hu
    · rename_i hj
      have hjz : j < zs.length := by omega
      rw [List.getElem?_eq_getElem hjz] at hu
      simp only [Option.map_some, Option.some.injEq] at hu
      subst hu
      have := h4 j hjz
      rwa [List.getD_eq_getElem?_getD, List.getElem?_eq_getElem hjz, Option.getD_some] at this
    · cases hu
/-- .. as bytes. -/
theorem bR_ints {W : World} {a : Option Addr} {len cap : Nat} {zs : List Int}
    (h : (a = none ∧ len = 0 ∧ cap = 0 ∧ zs = []) ∨ ∃ x, a = some x ∧ len ≤ cap ∧ cap ≤ maxLen ∧ zs.length = cap ∧ (∀ i, i < zs.length → W.cell? (x.add i) = some (.int .u8 (zs.getD i 0))) ∧ ∀ n ∈ zs, (Lit.int .u8 n).wf = true) :
    (bR a cap len ((zs.take len).map byteOf)).holds W := by
  have h1 := sliceC_ints h
  have h2 : ((zs.take len).map fun z => Value.int .u8 z) = u8s ((zs.take len).map byteOf) := by
    unfold u8s
    rw [List.map_map]
    apply List.map_congr_left
    intro z hz
    have hz' : z ∈ zs := List.mem_of_mem_take hz
    have hw : (Lit.int .u8 z).wf = true := by
      rcases h with ⟨_, _, _, rfl⟩ | ⟨x, _, _, _, _, _, h5⟩
      · cases hz'
      · exact h5 z hz'
    simp only [Function.comp]
    refine u8_byteOf ?_
    simpa [Lit.wf, IntKind.min, IntKind.max, IntKind.signed, IntKind.bits] using hw
  rwa [h2] at h1
theorem iR_ints {W : World} {a : Option Addr} {len cap : Nat} {zs : List Int}
    (h : (a = none ∧ len = 0 ∧ cap = 0 ∧ zs = []) ∨ ∃ x, a = some x ∧ len ≤ cap ∧ cap ≤ maxLen ∧ zs.length = cap ∧ (∀ i, i < zs.length → W.cell? (x.add i) = some (.int .i64 (zs.getD i 0))) ∧ ∀ n ∈ zs, (Lit.int .i64 n).wf = true) :
    (iR a cap len (zs.take len)).holds W := sliceC_ints h
/-- A law's walk, as a row asks it. -/
theorem Spec.below {P : Program} {f : FuncId} {args : List Value} {r : List Chunk} (h : Spec P f args [] r (fun v l' => v = .bool true ∧ l' = [])) (w : World) (hr : ∀ c ∈ r, c.holds w) :
    Calls P f args.toArray w fun e w' => e = .returned (.bool true) ∧ Below w.heap.size w w' := by
  refine (h.out w (St.refl (fun c hc => by cases hc) hr (by simp) (fun c hc => by cases hc))).mono ?_
  rintro e w' ⟨v, l', rfl, ⟨rfl, rfl⟩, hs⟩
  exact ⟨rfl, ⟨hs.os, hs.tape, hs.output, hs.size, fun k hk => hs.frame k hk (by simp [fps])⟩⟩
theorem iR_tab {W : World} {g : Nat} {zs : List Int} (hl : zs.length ≤ 1000000) (h : ∀ i, i < zs.length → W.cell? ⟨g, i, none⟩ = some (.int .i64 (zs.getD i 0))) : (iR (some ⟨g, 0, none⟩) zs.length zs.length zs).holds W := by
  refine sliceC_mk (by simp) (Nat.le_refl _) (by simp only [maxLen]; omega) (fun _ => ⟨_, rfl⟩) fun a ha j u hu => ?_
  obtain rfl := Option.some.inj ha
  have hj : j < zs.length := by have := (List.getElem?_eq_some_iff.1 hu).1; simpa using this
  rw [i64s_get hj] at hu
  rw [add_lit, Nat.zero_add, h j hj, ← hu]
  simp [hj]
theorem byte_wf {n : Int} (h : (Lit.int .u8 n).wf = true) : ∃ b : UInt8, n = (b.toNat : Int) := by
  have h1 : 0 ≤ n ∧ n ≤ 255 := by simpa [Lit.wf, IntKind.min, IntKind.max, IntKind.signed, IntKind.bits] using h
  exact ⟨byteOf n, by rw [byteOf_toNat]; omega⟩
theorem int_wf {n : Int} (h : (Lit.int .i64 n).wf = true) : -9223372036854775808 ≤ n ∧ n ≤ 9223372036854775807 := by
  simpa [Lit.wf, IntKind.min, IntKind.max, IntKind.signed, IntKind.bits] using h
end Go.SX
/- Structs in memory: made, read, written; results that lie in memory. -/
namespace Go.SX
open Go Go.RowKit
section
variable {P : Program} {S : List Nat} {w0 : World} {r : List Chunk} {e : Env} {l cs : List Chunk} {T : TypeId} {pos : String} {af : Array Edge} {gu : Option (Nat × Bool)} {d : Option Tmp}
theorem Stp.allocA {el : TypeId} {z : Value} {zs : List Value} {sz by_ : Nat} [hi : Inf P el z sz by_] (hz : z = .agg zs.toArray) :
    Stp P S w0 r ⟨d, .alloc el, T, pos, af, gu⟩ e l (fun v l' => ∃ g, v = .pointer (some ⟨g, 0, none⟩) ∧ l' = cellsC g el zs :: l) := by
  subst hz
  exact Stp.alloc (P := P) (el := el)
theorem Stp.alloc1 {el : TypeId} {z : Value} {sz by_ : Nat} [hi : Inf P el z sz by_] (hz : z.cells = #[z]) :
    Stp P S w0 r ⟨d, .alloc el, T, pos, af, gu⟩ e l (fun v l' => ∃ g, v = .pointer (some ⟨g, 0, none⟩) ∧ l' = cellsC g el [z] :: l) := by
  have h := Stp.alloc (P := P) (S := S) (w0 := w0) (r := r) (e := e) (l := l) (d := d) (T := T) (pos := pos) (af := af) (gu := gu) (el := el)
  rwa [hz] at h
theorem Stp.boxA {el : TypeId} {x : Operand} {us : List Value} (hx : ev e x = some (.agg us.toArray)) :
    Stp P S w0 r ⟨d, .box el x, T, pos, af, gu⟩ e l (fun u l' => ∃ g, u = .pointer (some ⟨g, 0, none⟩) ∧ l' = cellsC g el us :: l) := Stp.box hx
theorem Stp.box1 {el : TypeId} {x : Operand} {v : Value} (hx : ev e x = some v) (hv : v.cells = #[v]) :
    Stp P S w0 r ⟨d, .box el x, T, pos, af, gu⟩ e l (fun u l' => ∃ g, u = .pointer (some ⟨g, 0, none⟩) ∧ l' = cellsC g el [v] :: l) := by
  have h := Stp.box (P := P) (S := S) (w0 := w0) (r := r) (l := l) (d := d) (T := T) (pos := pos) (af := af) (gu := gu) (el := el) hx
  rwa [hv] at h
/-- A whole struct, read whole. -/
theorem Ev.loadAll {t : TypeId} {ds : TypeDesc} {z : Value} {sz by_ : Nat} {g : Nat} {T' : TypeId} {x : Operand} {us : List Value} [hu : Und P t ds] [hi : Inf P t z sz by_] (hp : plainD ds = false)
    (hx : ev e x = some (.pointer (some ⟨g, 0, none⟩))) (hr : Rd (cellsC g T' us) cs) (hk : us.length = sz) : Ev P e cs ⟨d, .load t x, T, pos, af, gu⟩ (.agg us.toArray) := by
  have h := Ev.loadAgg (P := P) (cs := cs) (d := d) (T := T) (pos := pos) (af := af) (gu := gu) (t := t) (o := 0) hp hx hr (by omega)
  rwa [List.drop_zero, List.take_of_length_le (by omega)] at h
/-- A part of several cells, written. -/
theorem Stp.storeM {t : TypeId} {z : Value} {sz by_ g o : Nat} {T' : TypeId} {x y : Operand} {vs : List Value} {us : List Value} {l1 : List Chunk} [hi : Inf P t z sz by_]
    (hx : ev e x = some (.pointer (some ⟨g, o, none⟩))) (hy : ev e y = some (.agg vs.toArray)) (h1 : ∀ v ∈ vs, v.oneCell' = true) (hp : Pick (cellsC g T' us) l l1) (hv : vs.length = sz) (hl : o + sz ≤ us.length) :
    Stp P S w0 r ⟨d, .store t x y, T, pos, af, gu⟩ e l (fun _ l' => l' = cellsC g T' (us.take o ++ vs ++ us.drop (o + sz)) :: l1) := by
  refine Stp.of (by intro _ hq; cases hq) fun n a w K Q he hs h => ?_
  have hg : w.heap[g]? = some (.cells us.toArray T' (0, 0)) := hs.own _ (hp.perm.mem_iff.2 List.mem_cons_self)
  have hst := run_storeCells_at P g o T' vs 0 us.toArray w hg (by simp; omega) h1
  simp only [Nat.add_zero, hv] at hst
  have hrun : (execOp a.eval ⟨d, .store t x y, T, pos, af, gu⟩).run P w = .ok .skip (w.setRow g (us.take o ++ vs ++ us.drop (o + sz)).toArray) := by
    simp [execOp, Instr.storeAt, Instr.sureAddr, he.eval hx, he.eval hy, storeVar, Value.cells, hi.run_size, hv, hst]
  unfold Oper.wp
  rw [hrun]
  refine h _ _ _ rfl (hs.write hp rfl rfl rfl (by simp [World.setRow]) (fun k _ hk => ?_) (setRow_heap w g _ _ T' _ hg) (fun k hk => .inl hk))
  have hne : g ≠ k := fun hgk => hk (by simp [cellsC, hgk])
  simp [World.setRow, Array.getElem?_modify, hne]
end
/-! stores whose new list is reckoned -/
section
variable {P : Program} {tt : TT} {n : Nat} {S : List Nat} {w0 : World} {r : List Chunk} {ops : List Oper} {K : QS}
theorem stW1 [hT : Tys P] {t : TypeId} {z : Value} {by_ g o : Nat} {T T' : TypeId} {pos : String} {af : Array Edge} {x y : Operand} {v : Value} {us : List Value} {e : Env} {l l1 : List Chunk} {rest : List Oper} [hi : Inf P t z 1 by_]
    (hx : ev e x = some (.pointer (some ⟨g, o, none⟩))) (hy : ev e y = some v) (h1 : v.oneCell' = true) (hp : Pick (cellsC g T' us) l l1)
    (h : putK us o v (fun us' => evR P hT.tt n S w0 r ops K (cellsC g T' us' :: l1) rest e)) : W P n S w0 r ops.toArray K (⟨none, .store t x y, T, pos, af, none⟩ :: rest) e l := by
  obtain ⟨ho, hk⟩ := putK_el h
  refine W.stp0 (Stp.store hx hy h1 hp (List.getElem?_eq_getElem ho)) rfl rfl ?_
  rintro _ l' rfl
  exact W.auto hk
theorem stWP [hT : Tys P] {t : TypeId} {z : Value} {sz by_ g o : Nat} {T T' : TypeId} {pos : String} {af : Array Edge} {x y : Operand} {vs : List Value} {us : List Value} {e : Env} {l l1 : List Chunk} {rest : List Oper} [hi : Inf P t z sz by_]
    (hx : ev e x = some (.pointer (some ⟨g, o, none⟩))) (hy : ev e y = some (.agg vs.toArray)) (h1 : ∀ v ∈ vs, v.oneCell' = true) (hv : vs.length = sz) (hp : Pick (cellsC g T' us) l l1)
    (h : putsK us o vs sz (fun us' => evR P hT.tt n S w0 r ops K (cellsC g T' us' :: l1) rest e)) : W P n S w0 r ops.toArray K (⟨none, .store t x y, T, pos, af, none⟩ :: rest) e l := by
  obtain ⟨ho, hk⟩ := putsK_el h
  refine W.stp0 (Stp.storeM hx hy h1 hp hv ho) rfl rfl ?_
  rintro _ l' rfl
  exact W.auto hk
theorem stO1 [hT : Tys P] {t : TypeId} {z : Value} {by_ g o i : Nat} {T T' : TypeId} {pos : String} {af : Array Edge} {x y : Operand} {v : Value} {us : List Value} {e : Env} {l l1 : List Chunk} {tr : DT} [hi : Inf P t z 1 by_]
    (ho : ops[i]? = some ⟨none, .store t x y, T, pos, af, none⟩) (hx : ev e x = some (.pointer (some ⟨g, o, none⟩))) (hy : ev e y = some v) (h1 : v.oneCell' = true) (hp : Pick (cellsC g T' us) l l1)
    (h : putK us o v (fun us' => evD P hT.tt n S w0 r ops K tr e (cellsC g T' us' :: l1))) : WO P n S w0 r ops.toArray K i tr e l := by
  obtain ⟨ho', hk⟩ := putK_el h
  refine WO.stp0 (by rw [getL_arr]; exact ho) (Stp.store hx hy h1 hp (List.getElem?_eq_getElem ho')) rfl rfl ?_
  rintro _ l' rfl
  exact WD.auto hk
theorem stOP [hT : Tys P] {t : TypeId} {z : Value} {sz by_ g o i : Nat} {T T' : TypeId} {pos : String} {af : Array Edge} {x y : Operand} {vs : List Value} {us : List Value} {e : Env} {l l1 : List Chunk} {tr : DT} [hi : Inf P t z sz by_]
    (ho : ops[i]? = some ⟨none, .store t x y, T, pos, af, none⟩) (hx : ev e x = some (.pointer (some ⟨g, o, none⟩))) (hy : ev e y = some (.agg vs.toArray)) (h1 : ∀ v ∈ vs, v.oneCell' = true) (hv : vs.length = sz) (hp : Pick (cellsC g T' us) l l1)
    (h : putsK us o vs sz (fun us' => evD P hT.tt n S w0 r ops K tr e (cellsC g T' us' :: l1))) : WO P n S w0 r ops.toArray K i tr e l := by
  obtain ⟨ho', hk⟩ := putsK_el h
  refine WO.stp0 (by rw [getL_arr]; exact ho) (Stp.storeM hx hy h1 hp hv ho') rfl rfl ?_
  rintro _ l' rfl
  exact WD.auto hk
end
/-! results -/
/-- What a variable of a type holds, whose cells are these. -/
def CellVal (P : Program) (t : TypeId) (us : List Value) (v : Value) : Prop :=
  (∃ ds, Und P t ds ∧ plainD ds = true ∧ us[0]? = some v) ∨ (∃ ds z sz b, Und P t ds ∧ plainD ds = false ∧ Inf P t z sz b ∧ us.length = sz ∧ v = .agg us.toArray)
theorem CellVal.one {P : Program} {t : TypeId} {us : List Value} {v : Value} {ds : TypeDesc} [hu : Und P t ds] (hp : plainD ds = true) (h : us[0]? = some v) : CellVal P t us v := .inl ⟨ds, hu, hp, h⟩
theorem CellVal.all {P : Program} {t : TypeId} {us : List Value} {ds : TypeDesc} {z : Value} {sz b : Nat} [hu : Und P t ds] [hi : Inf P t z sz b] (hp : plainD ds = false) (h : us.length = sz) : CellVal P t us (.agg us.toArray) := .inr ⟨ds, z, sz, b, hu, hp, hi, h, rfl⟩
def resM (P : Program) (e : Env) (l : List Chunk) : List ResultVar → List Value → Prop
  | [], [] => True
  | .tmp t :: rs, v :: vs => look e t = some v ∧ resM P e l rs vs
  | .cell a t :: rs, v :: vs => (∃ g T us, look e a = some (.pointer (some ⟨g, 0, none⟩)) ∧ Rd (cellsC g T us) l ∧ CellVal P t us v) ∧ resM P e l rs vs
  | _, _ => False
def retM (P : Program) (rs : List ResultVar) (post : Value → List Chunk → Prop) : QS
  | .ret, e, l => ∃ vs, resM P e l rs vs ∧ ∃ l', post (tup vs) l' ∧ ChLe l l'
  | .normal, e, l => ∃ vs, resM P e l rs vs ∧ ∃ l', post (tup vs) l' ∧ ChLe l l'
  | _, _, _ => False
theorem resM_mk {P : Program} {e : Env} {l : List Chunk} {rs : List ResultVar} {vs : List Value} (h : resM P e l rs vs) : resM P e l rs vs := h
theorem run_resM {P : Program} {fn : Func} {n : Nat} {a : Act} {e : Env} {w : World} {l : List Chunk} (he : EnvOK n a e) (hl : ∀ c ∈ l, c.holds w) {rs : List ResultVar} (hr : fn.results = rs.toArray) {vs : List Value} (hv : resM P e l rs vs) :
    (results fn a.tmps).run P w = .ok (tup vs) w := by
  have key : ∀ (g : ResultVar → Sem Value), (∀ t, g (.tmp t) = pure (a.tmps.getD t undef)) → (∀ x t, g (.cell x t) = do loadVar t (← asAddr (a.tmps.getD x undef))) →
      ∀ (rs : List ResultVar) (vs : List Value), resM P e l rs vs → (rs.mapM g).run P w = .ok vs w := by
    intro g hg1 hg2 rs
    induction rs with
    | nil =>
      intro vs h
      cases vs with
      | nil => simp
      | cons v vs => exact h.elim
    | cons x rs ih =>
      intro vs h
      cases vs with
      | nil => cases x <;> exact h.elim
      | cons v vs =>
        rw [List.mapM_cons]
        cases x with
        | tmp t =>
          obtain ⟨h1, h2⟩ := h
          have h3 := he.at_ t v h1
          have ih' := ih vs h2
          have hget : a.tmps.getD t undef = v := by simp [Array.getD_eq_getD_getElem?, h3]
          rw [hg1, hget]
          simp only [Sem.run_bind, Sem.run_pure, Result.andThen_ok, ih']
        | cell c t =>
          obtain ⟨⟨gg, T, us, h1, h2, h3⟩, h4⟩ := h
          have h5 := he.at_ c _ h1
          have ih' := ih vs h4
          have hg : w.heap[gg]? = some (.cells us.toArray T (0, 0)) := h2.holds hl
          have hload : (loadVar t ⟨gg, 0, none⟩).run P w = .ok v w := by
            rcases h3 with ⟨ds, hu, hp, hv⟩ | ⟨ds, z, sz, b, hu, hp, hi, hlen, rfl⟩
            · have := cell_of_row w gg 0 _ T _ hg
              simp at this
              rw [hv] at this
              simp [loadVar, hu.run_agg hp, this]
            · have := run_loadCells_list (P := P) w ⟨gg, 0, none⟩ us (fun j v hv => by
                rw [add_lit, Nat.zero_add, cell_of_row w gg _ _ T _ hg]; simpa using hv)
              rw [hlen] at this
              simp [loadVar, hu.run_agg' hp, hi.run_size, this]
          have hget : a.tmps.getD c undef = .pointer (some ⟨gg, 0, none⟩) := by simp [Array.getD_eq_getD_getElem?, h5]
          have haddr : (asAddr (a.tmps.getD c undef)).run P w = .ok ⟨gg, 0, none⟩ w := by rw [hget]; simp [asAddr]
          rw [hg2]
          simp only [Sem.run_bind, haddr, Sem.run_pure, Result.andThen_ok, hload, ih']
  unfold results
  rw [hr, List.mapM_toArray]
  simp only [map_eq_pure_bind, Sem.run_bind]
  rw [key _ _ _ rs vs hv]
  · simp only [Result.andThen_ok, Sem.run_pure]
    cases vs with
    | nil => simp [tup]
    | cons v vs => cases vs with
      | nil => simp [tup]
      | cons u vs => simp [tup]
  · intro t; rfl
  · intro x t; rfl
theorem Spec.introM {P : Program} {f : FuncId} {fn : Func} {c : Code} {args : List Value} {l r : List Chunk} {post : Value → List Chunk → Prop} {rs : List ResultVar} {n : Nat}
    (hf : P.funcs[f]? = some fn) (hb : fn.body = some c) (hr : fn.results = rs.toArray) (hn : fn.ntmps = n) (ha : Nat.ble args.length n = true)
    (h : ∀ w0, WC P n (fps l) w0 r c (retM P rs post) (envOf 0 args) l) : Spec P f args l r post := by
  refine ⟨fun w hs => ?_⟩
  have ha' : args.length ≤ n := Nat.le_of_ble_eq_true ha
  refine callsIn_wide.1 (callsIn_of_wp (F := Fence.wide) (n := 0) hf hb trivial ?_ rfl)
  rw [hn]
  have hok : EnvOK n { tmps := args.toArray ++ Array.replicate (n - args.toArray.size) undef, defers := [] } (envOf 0 args) := by
    refine ⟨by simp; omega, fun t v hv => ?_⟩
    obtain ⟨_, h2⟩ := envOf_look args 0 t v hv
    have h2 : args[t]? = some v := by simpa using h2
    have hlt : t < args.length := (List.getElem?_eq_some_iff.1 h2).1
    show (args.toArray ++ Array.replicate _ undef)[t]? = some v
    rw [Array.getElem?_append_left (by simpa using hlt)]
    simpa using h2
  refine wpIn_mono ((h w).out _ w hok hs none) fun x a w' hq => ?_
  obtain ⟨hds, hq⟩ := hq
  cases x with
  | panic c => exact hq.elim
  | outgrown => exact hq.elim
  | normal =>
    obtain ⟨e, l', ⟨vs, hv, l2, hp, hl⟩, he, hs'⟩ := hq
    exact ⟨hds, tup vs, run_resM he hs'.own hr hv, tup vs, l2, rfl, hp, hs'.le hl⟩
  | ret =>
    obtain ⟨e, l', ⟨vs, hv, l2, hp, hl⟩, he, hs'⟩ := hq
    exact ⟨hds, tup vs, run_resM he hs'.own hr hv, tup vs, l2, rfl, hp, hs'.le hl⟩
  | exit i => obtain ⟨e, l', hk, _⟩ := hq; exact hk.elim
  | goto i => obtain ⟨e, l', hk, _⟩ := hq; exact hk.elim
end Go.SX
namespace Go.SX
open Go Go.RowKit
section
variable {P : Program} {n : Nat} {S : List Nat} {w0 : World} {r : List Chunk}
theorem W.atS {t : TypeId} {y : Operand} {T : TypeId} {pos : String} {af : Array Edge} {gu : Option (Nat × Bool)} {ops : Array Oper} {rest : List Oper} {K : QS} {e : Env} {l : List Chunk} (x : Nat)
    (h : W P n S w0 r ops K (⟨none, .store t (.tmp x) y, T, pos, af, gu⟩ :: rest) e l) : W P n S w0 r ops K (⟨none, .store t (.tmp x) y, T, pos, af, gu⟩ :: rest) e l := h
end
end Go.SX
namespace Go.SX
open Go Go.RowKit
/-- One step of a chain that only reckons. -/
theorem WO.auto {P : Program} {n : Nat} {S : List Nat} {w0 : World} {r : List Chunk} [hT : Tys P] {ops : List Oper} {K : QS} {i d : Nat} {op : Op} {T : TypeId} {pos : String} {af : Array Edge} {t : DT} {e : Env} {l : List Chunk}
    (hi : ops[i]? = some ⟨some d, op, T, pos, af, none⟩) (hd : Nat.blt d n = true) (h : pOp hT.tt e op (fun v => evD P hT.tt n S w0 r ops K t ((d, v) :: e) l) False) : WO P n S w0 r ops.toArray K i t e l := by
  rcases pOp_el hT.ok h with ⟨v, hv, hm⟩ | h
  · exact WO.ev (o := ⟨some d, op, T, pos, af, none⟩) (by rw [getL_arr]; exact hi) (hv _ _ _ _ _ _) rfl rfl hd (WD.auto hm)
  · exact h.elim
end Go.SX
namespace Go.SX
open Go Go.RowKit
/-! arrays of bytes, compared -/
theorem eqItems_u8 {P : Program} (w : World) (d : Nat) {e : TypeId} (he : Und P e (.int .u8)) (xs ys : List UInt8) (hl : xs.length = ys.length) : ∀ (m i : Nat), i + m = xs.length →
    (Op.eqItems (d + 1) e 1 (u8s xs).toArray (u8s ys).toArray (List.range' i m)).run P w = .ok (decide (xs.drop i = ys.drop i)) w := by
  intro m
  induction m with
  | zero =>
    intro i hi
    have h1 : xs.drop i = [] := List.drop_eq_nil_of_le (by omega)
    have h2 : ys.drop i = [] := List.drop_eq_nil_of_le (by omega)
    simp [Op.eqItems, h1, h2]
  | succ m ih =>
    intro i hi
    have hx : i < xs.length := by omega
    have hy : i < ys.length := by omega
    have hpx : (part e (u8s xs).toArray (i * 1)).run P w = .ok (u8 xs[i]) w := by
      have : (u8s xs)[i]? = some (u8 xs[i]) := u8s_get hx
      simp [part, he.run_agg (ds := .int .u8) rfl, this]
    have hpy : (part e (u8s ys).toArray (i * 1)).run P w = .ok (u8 ys[i]) w := by
      have : (u8s ys)[i]? = some (u8 ys[i]) := u8s_get hy
      simp [part, he.run_agg (ds := .int .u8) rfl, this]
    have heq : (Op.equalIn (d + 1) e (u8 xs[i]) (u8 ys[i])).run P w = .ok (decide (xs[i] = ys[i])) w := by
      have := run_equalIn_int (P := P) (w := w) d e .u8 .u8 (xs[i].toNat : Int) (ys[i].toNat : Int) he.eq
      unfold u8
      rw [this, beq_dec]
      congr 1
      have : ((xs[i].toNat : Int) = (ys[i].toNat : Int)) ↔ xs[i] = ys[i] := by rw [Int.ofNat_inj, UInt8.toNat_inj]
      simp [this]
    rw [List.range'_succ]
    simp only [Op.eqItems, Sem.run_bind, hpx, hpy, heq, Result.andThen_ok]
    rw [List.drop_eq_getElem_cons hx, List.drop_eq_getElem_cons hy]
    by_cases h : xs[i] = ys[i]
    · simp only [h, decide_true, Bool.not_true, Bool.false_eq_true, if_false, ih (i + 1) (by omega), List.cons.injEq, true_and]
    · have hne : ¬ (xs[i] :: xs.drop (i + 1) = ys[i] :: ys.drop (i + 1)) := fun hh => h (List.cons.inj hh).1
      simp only [h, decide_false, Bool.not_false, if_true, Sem.run_pure, hne]
section
variable {P : Program} {e : Env} {cs : List Chunk} {T : TypeId} {pos : String} {af : Array Edge} {gu : Option (Nat × Bool)} {d : Option Tmp}
theorem run_equal_u8s {P : Program} (w : World) {t el : TypeId} {n by_ : Nat} {z : Value} (hu : Und P t (.array n el)) (he : Und P el (.int .u8)) (hi : Inf P el z 1 by_) {xs ys : List UInt8} (hx : xs.length = n) (hy : ys.length = n) :
    (Op.equal t (.agg (u8s xs).toArray) (.agg (u8s ys).toArray)).run P w = .ok (decide (xs = ys)) w := by
  obtain ⟨i, h1, h2, h3, h4⟩ := hi.ex
  have hc : P.cellsOf el = 1 := by simp [Program.cellsOf, h1, h3]
  rw [equal_step, run_equalIn_array w 9999 _ _ hu.eq h1, hc, List.range_eq_range', eqItems_u8 w 9998 he xs ys (by omega) n 0 (by omega)]
  simp
theorem Ev.neqArr {t t' el : TypeId} {n by_ : Nat} {z : Value} {x y : Operand} {us vs : List Value} (xs ys : List UInt8) [hu : Und P t (.array n el)] [he : Und P el (.int .u8)] [hi : Inf P el z 1 by_]
    (hx : ev e x = some (.agg us.toArray)) (hy : ev e y = some (.agg vs.toArray)) (hus : us = u8s xs) (hvs : vs = u8s ys) (hlx : xs.length = n) (hly : ys.length = n) (hgt : P.eqGuardType P.depth t = false) :
    Ev P e cs ⟨d, .binOp .neq t x y t', T, pos, af, gu⟩ (.bool (decide (xs ≠ ys))) := by
  subst hus hvs
  have h := Ev.neqG (P := P) (cs := cs) (d := d) (T := T) (pos := pos) (af := af) (gu := gu) (t := t) (t' := t') (b := decide (xs = ys)) hx hy (fun w => by simp [eqGuard, hgt]) rfl (fun w => run_equal_u8s w hu he hi hlx hly)
  have e1 : (!decide (xs = ys)) = decide (xs ≠ ys) := by by_cases h : xs = ys <;> simp [h]
  rwa [e1] at h
theorem Ev.eqlArr {t t' el : TypeId} {n by_ : Nat} {z : Value} {x y : Operand} {us vs : List Value} (xs ys : List UInt8) [hu : Und P t (.array n el)] [he : Und P el (.int .u8)] [hi : Inf P el z 1 by_]
    (hx : ev e x = some (.agg us.toArray)) (hy : ev e y = some (.agg vs.toArray)) (hus : us = u8s xs) (hvs : vs = u8s ys) (hlx : xs.length = n) (hly : ys.length = n) (hgt : P.eqGuardType P.depth t = false) :
    Ev P e cs ⟨d, .binOp .eql t x y t', T, pos, af, gu⟩ (.bool (decide (xs = ys))) := by
  subst hus hvs
  exact Ev.eqlG (P := P) (cs := cs) (d := d) (T := T) (pos := pos) (af := af) (gu := gu) (t := t) (t' := t') (b := decide (xs = ys)) hx hy (fun w => by simp [eqGuard, hgt]) rfl (fun w => run_equal_u8s w hu he hi hlx hly)
end
end Go.SX
namespace Go.SX
open Go Go.RowKit
theorem Stp.buildI {P : Program} {S : List Nat} {w0 : World} {r l : List Chunk} {e : Env} {T : TypeId} {pos : String} {af : Array Edge} {gu : Option (Nat × Bool)} {d : Option Tmp} {t el : TypeId} {z : Value} {by_ m : Nat} {ps : List (Nat × Operand)} {xs : List Operand} (is : List Int) [hu : Und P t (.slice el)] [hi : Inf P el z 1 by_]
    (hp : seqParts 0 ps = some xs) (hv : evs e xs = some (i64s is)) (hm : Nat.beq m ps.length = true) (hle : Nat.ble m 16777216 = true) (hz : z.cells.size = 1) :
    Stp P S w0 r ⟨d, .buildSlice t m ps.toArray, T, pos, af, gu⟩ e l (fun v l' => ∃ g, v = .slice (some ⟨g, 0, none⟩) m m ∧ l' = iO (some ⟨g, 0, none⟩) m el m is :: l) :=
  Stp.buildSlice hp hv hm hle (i64s_one is) hz
end Go.SX
namespace Go.SX
open Go Go.RowKit
variable {P : Program} {n : Nat} {S : List Nat} {w0 : World} {r : List Chunk}
structure LoopQ4 (P : Program) (n : Nat) (S : List Nat) (w0 : World) (r : List Chunk) (X Y Z U : Type) (x0 : X) (y0 : Y) (z0 : Z) (u0 : U) (p : X → Y → Z → U → Prop) (E : X → Y → Z → U → Env) (L : X → Y → Z → U → List Chunk) (μ : X → Y → Z → U → Nat) (c : Code) (K : QS) (e : Env) (l : List Chunk) : Prop where
  he : EnvLe e (E x0 y0 z0 u0)
  hl : ChLe l (L x0 y0 z0 u0)
  round : ∀ x y z u, p x y z u → WC P n S w0 r c (thenK (fun e' l' => ∃ x' y' z' u', p x' y' z' u' ∧ EnvLe e' (E x' y' z' u') ∧ ChLe l' (L x' y' z' u') ∧ μ x' y' z' u' < μ x y z u) K) (E x y z u) (L x y z u)
theorem WC.loopL4 {X Y Z U : Type} (x0 : X) (y0 : Y) (z0 : Z) (u0 : U) (p : X → Y → Z → U → Prop) (M : X → Y → Z → U → Env) (L : X → Y → Z → U → List Chunk) (μ : X → Y → Z → U → Nat) (live : List Nat) {c : Code} {K : QS} {e : Env} {l : List Chunk}
    (hp : p x0 y0 z0 u0) (h : restrK e live [] (fun rest => LoopQ4 P n S w0 r X Y Z U x0 y0 z0 u0 p (fun x y z u => M x y z u ++ rest) L μ c K e l)) : WC P n S w0 r (.loop c) K e l := by
  obtain ⟨rest, h⟩ := restrK_el h
  refine WC.loop (X := X × Y × Z × U) (x0, y0, z0, u0) (fun x => p x.1 x.2.1 x.2.2.1 x.2.2.2) (fun x => M x.1 x.2.1 x.2.2.1 x.2.2.2 ++ rest) (fun x => L x.1 x.2.1 x.2.2.1 x.2.2.2) (fun x => μ x.1 x.2.1 x.2.2.1 x.2.2.2) hp h.he h.hl fun x hx => ?_
  refine WC.mono (h.round x.1 x.2.1 x.2.2.1 x.2.2.2 hx) fun ex e' l' hk => ?_
  cases ex with
  | normal => obtain ⟨x', y', z', u', h1, h2, h3, h4⟩ := hk; exact ⟨(x', y', z', u'), h1, h2, h3, h4⟩
  | _ => exact hk
structure LoopQ5 (P : Program) (n : Nat) (S : List Nat) (w0 : World) (r : List Chunk) (X Y Z U V : Type) (x0 : X) (y0 : Y) (z0 : Z) (u0 : U) (v0 : V) (p : X → Y → Z → U → V → Prop) (E : X → Y → Z → U → V → Env) (L : X → Y → Z → U → V → List Chunk) (μ : X → Y → Z → U → V → Nat) (c : Code) (K : QS) (e : Env) (l : List Chunk) : Prop where
  he : EnvLe e (E x0 y0 z0 u0 v0)
  hl : ChLe l (L x0 y0 z0 u0 v0)
  round : ∀ x y z u v, p x y z u v → WC P n S w0 r c (thenK (fun e' l' => ∃ x' y' z' u' v', p x' y' z' u' v' ∧ EnvLe e' (E x' y' z' u' v') ∧ ChLe l' (L x' y' z' u' v') ∧ μ x' y' z' u' v' < μ x y z u v) K) (E x y z u v) (L x y z u v)
theorem WC.loopL5 {X Y Z U V : Type} (x0 : X) (y0 : Y) (z0 : Z) (u0 : U) (v0 : V) (p : X → Y → Z → U → V → Prop) (M : X → Y → Z → U → V → Env) (L : X → Y → Z → U → V → List Chunk) (μ : X → Y → Z → U → V → Nat) (live : List Nat) {c : Code} {K : QS} {e : Env} {l : List Chunk}
    (hp : p x0 y0 z0 u0 v0) (h : restrK e live [] (fun rest => LoopQ5 P n S w0 r X Y Z U V x0 y0 z0 u0 v0 p (fun x y z u v => M x y z u v ++ rest) L μ c K e l)) : WC P n S w0 r (.loop c) K e l := by
  obtain ⟨rest, h⟩ := restrK_el h
  refine WC.loop (X := X × Y × Z × U × V) (x0, y0, z0, u0, v0) (fun x => p x.1 x.2.1 x.2.2.1 x.2.2.2.1 x.2.2.2.2) (fun x => M x.1 x.2.1 x.2.2.1 x.2.2.2.1 x.2.2.2.2 ++ rest) (fun x => L x.1 x.2.1 x.2.2.1 x.2.2.2.1 x.2.2.2.2) (fun x => μ x.1 x.2.1 x.2.2.1 x.2.2.2.1 x.2.2.2.2) hp h.he h.hl fun x hx => ?_
  refine WC.mono (h.round x.1 x.2.1 x.2.2.1 x.2.2.2.1 x.2.2.2.2 hx) fun ex e' l' hk => ?_
  cases ex with
  | normal => obtain ⟨x', y', z', u', v', h1, h2, h3, h4⟩ := hk; exact ⟨(x', y', z', u', v'), h1, h2, h3, h4⟩
  | _ => exact hk
structure LoopQ6 (P : Program) (n : Nat) (S : List Nat) (w0 : World) (r : List Chunk) (X Y Z U V T : Type) (x0 : X) (y0 : Y) (z0 : Z) (u0 : U) (v0 : V) (t0 : T) (p : X → Y → Z → U → V → T → Prop) (E : X → Y → Z → U → V → T → Env) (L : X → Y → Z → U → V → T → List Chunk) (μ : X → Y → Z → U → V → T → Nat) (c : Code) (K : QS) (e : Env) (l : List Chunk) : Prop where
  he : EnvLe e (E x0 y0 z0 u0 v0 t0)
  hl : ChLe l (L x0 y0 z0 u0 v0 t0)
  round : ∀ x y z u v t, p x y z u v t → WC P n S w0 r c (thenK (fun e' l' => ∃ x' y' z' u' v' t', p x' y' z' u' v' t' ∧ EnvLe e' (E x' y' z' u' v' t') ∧ ChLe l' (L x' y' z' u' v' t') ∧ μ x' y' z' u' v' t' < μ x y z u v t) K) (E x y z u v t) (L x y z u v t)
theorem WC.loopL6 {X Y Z U V T : Type} (x0 : X) (y0 : Y) (z0 : Z) (u0 : U) (v0 : V) (t0 : T) (p : X → Y → Z → U → V → T → Prop) (M : X → Y → Z → U → V → T → Env) (L : X → Y → Z → U → V → T → List Chunk) (μ : X → Y → Z → U → V → T → Nat) (live : List Nat) {c : Code} {K : QS} {e : Env} {l : List Chunk}
    (hp : p x0 y0 z0 u0 v0 t0) (h : restrK e live [] (fun rest => LoopQ6 P n S w0 r X Y Z U V T x0 y0 z0 u0 v0 t0 p (fun x y z u v t => M x y z u v t ++ rest) L μ c K e l)) : WC P n S w0 r (.loop c) K e l := by
  obtain ⟨rest, h⟩ := restrK_el h
  refine WC.loop (X := X × Y × Z × U × V × T) (x0, y0, z0, u0, v0, t0) (fun x => p x.1 x.2.1 x.2.2.1 x.2.2.2.1 x.2.2.2.2.1 x.2.2.2.2.2) (fun x => M x.1 x.2.1 x.2.2.1 x.2.2.2.1 x.2.2.2.2.1 x.2.2.2.2.2 ++ rest) (fun x => L x.1 x.2.1 x.2.2.1 x.2.2.2.1 x.2.2.2.2.1 x.2.2.2.2.2) (fun x => μ x.1 x.2.1 x.2.2.1 x.2.2.2.1 x.2.2.2.2.1 x.2.2.2.2.2) hp h.he h.hl fun x hx => ?_
  refine WC.mono (h.round x.1 x.2.1 x.2.2.1 x.2.2.2.1 x.2.2.2.2.1 x.2.2.2.2.2 hx) fun ex e' l' hk => ?_
  cases ex with
  | normal => obtain ⟨x', y', z', u', v', t', h1, h2, h3, h4⟩ := hk; exact ⟨(x', y', z', u', v', t'), h1, h2, h3, h4⟩
  | _ => exact hk
end Go.SX
namespace Go.SX
open Go Go.RowKit
section
variable {P : Program} {S : List Nat} {w0 : World} {r : List Chunk} {e : Env} {l cs : List Chunk} {T : TypeId} {pos : String} {af : Array Edge} {gu : Option (Nat × Bool)} {d : Option Tmp}
/-- []byte("..") of a constant: the row that was laid is made one of a string: it is only read from now on. -/
theorem Stp.litB {t el T' : TypeId} {x : Operand} {g n c : Nat} {us : List Value} {l1 : List Chunk} [hu : Und P t (.slice el)] [he : Und P el (.int .u8)] (hx : ev e x = some (.slice (some ⟨g, 0, none⟩) n c))
    (hp : Pick (rowC (some ⟨g, 0, none⟩) c T' 1 n us) l l1) : Stp P S w0 r ⟨d, .convert t t x, T, pos, af, gu⟩ e l (fun v l' => v = .slice (some ⟨g, 0, none⟩) n c ∧ l' = sliceC (some ⟨g, 0, none⟩) c 1 n us :: l1) := by
  refine Stp.of (by intro _ hq; cases hq) fun m a w K Q hen hs h => ?_
  have hown : w.ownsRow 0 T' 1 (.slice (some ⟨g, 0, none⟩) n c) n us := hs.own _ (hp.perm.mem_iff.2 List.mem_cons_self)
  obtain ⟨hl, hq⟩ := hown
  rcases hq with ⟨h1, _⟩ | ⟨g', cap, cur, hv, _, hg, h1, h2, h3, h4⟩
  · cases h1
  injection hv with hA hn hc
  injection hA with hA
  injection hA with hA
  subst hA; subst hc
  have hlt : g < w.heap.size := (Array.getElem?_eq_some_iff.1 hg).1
  have hsh : w.shape? g = some (T', cur.size) := by unfold World.shape?; rw [hg]
  have hrun : (execOp a.eval ⟨d, .convert t t x, T, pos, af, gu⟩).run P w = .ok (.value (.slice (some ⟨g, 0, none⟩) n c)) (w.freeze ⟨g, cur.size, none⟩ 1) := by
    simp [execOp, hen.eval hx, convert, hu.run, he.run, markStringish, hsh]
  have hheap : (w.freeze ⟨g, cur.size, none⟩ 1).heap[g]? = some (.cells cur T' (cur.size, cur.size + 1)) := by
    unfold World.freeze
    rw [if_neg (by decide)]
    simp only [Array.getElem?_modify, if_true, hg, Option.map_some]
    rfl
  unfold Oper.wp
  rw [hrun]
  have e1 : (w.freeze ⟨g, cur.size, none⟩ 1).os = w.os ∧ (w.freeze ⟨g, cur.size, none⟩ 1).tape = w.tape ∧ (w.freeze ⟨g, cur.size, none⟩ 1).output = w.output ∧ (w.freeze ⟨g, cur.size, none⟩ 1).heap.size = w.heap.size := by
    unfold World.freeze; rw [if_neg (by decide)]; exact ⟨rfl, rfl, rfl, by simp⟩
  refine h _ _ _ ⟨rfl, rfl⟩ (hs.write hp e1.1 e1.2.1 e1.2.2.1 (by omega) (fun k hk hn => ?_) ?_ (fun k hk => .inl ?_))
  · have hne : g ≠ k := fun hgk => hn (by rw [hgk]; simp [rowC, blk])
    unfold World.freeze
    rw [if_neg (by decide)]
    simp only [Array.getElem?_modify, if_neg hne]
    
  · refine ⟨hl, h1, h2, fun _ => ⟨_, rfl⟩, ?_⟩
    intro ad had j u hu'
    obtain rfl := (Option.some.inj had)
    have : (⟨g, 0, none⟩ : Addr).add j = ⟨g, 0 + j, none⟩ := add_lit g 0 j
    rw [this]
    unfold World.cell?
    simp only [hheap]
    have hj : j < us.length := (List.getElem?_eq_some_iff.1 hu').1
    rw [← h4, List.getElem?_take_of_lt (by omega)] at hu'
    simpa using hu'
  · cases us with
    | nil => simp [sliceC] at hk
    | cons u us => simpa [sliceC, rowC, blk] using hk
end
end Go.SX
namespace Go.SX
open Go Go.RowKit
section
variable {P : Program} {S : List Nat} {w0 : World} {r : List Chunk} {e : Env} {l cs : List Chunk} {T : TypeId} {pos : String} {af : Array Edge} {gu : Option (Nat × Bool)} {d : Option Tmp}
/-- append(x, y...) where x has no room: a new row; x stays. -/
theorem Stp.appendFull {t el : TypeId} {z : Value} {sz by_ n c m c' : Nat} {A A' : Option Addr} {us vs : List Value} {x y : Operand} [hu : Und P t (.slice el)] [hi : Inf P el z sz by_]
    (hx : ev e x = some (.slice A n c)) (hy : ev e y = some (.slice A' m c')) (hrx : Rd (sliceC A c sz n us) (l ++ r)) (hr : Rd (sliceC A' c' sz m vs) (l ++ r))
    (hz : z.cells.size = sz) (hs0 : 0 < sz) (hb0 : 0 < by_) (hc : 0 < n ∧ c < n + m ∧ 0 < m) (hby : (n + m) * by_ ≤ 140737488355328) :
    Stp P S w0 r ⟨d, .call ⟨.builtin .append, #[x, y], #[t, t]⟩, T, pos, af, gu⟩ e l (fun v l' => ∃ A2 c2, v = .slice A2 (n + m) c2 ∧ l' = rowC A2 c2 el sz (n + m) (us ++ vs) :: l) := by
  refine Stp.of (by intro _ hq; cases hq) fun k a w K Q he hs h => ?_
  obtain ⟨f1, f2, f3, f4, f5⟩ := hrx.holds hs.all
  obtain ⟨g1, g2, g3, g4, g5⟩ := hr.holds hs.all
  have hlim : n + m ≤ 140737488355328 := Nat.le_trans (Nat.le_mul_of_pos_right _ hb0) hby
  obtain ⟨i, hinfo, hiz, his, hib⟩ := hi.ex
  obtain ⟨b, rfl⟩ := f4 (by rw [f1]; exact Nat.mul_pos hc.1 hs0)
  obtain ⟨ad, rfl⟩ := g4 (by rw [g1]; exact Nat.mul_pos hc.2.2 hs0)
  subst his
  subst hib
  have hrun0 := run_append_grow (P := P) (w := w) t T el i z hu.eq hinfo hiz b n c us f1 (f5 b rfl) ad m c' vs g1 (g5 ad rfl) (by omega) (by omega) (growslice_fits (by omega) hby)
  have hge := grownCap_ge w (n + m) c el
  have hcm : grownCap w (n + m) c el ≤ maxLen := grownCap_le_maxLen w (n + m) c el (by simp only [maxLen]; omega)
  have hrun : (execOp a.eval ⟨d, .call ⟨.builtin .append, #[x, y], #[t, t]⟩, T, pos, af, gu⟩).run P w = .ok (.value (.slice (some ⟨w.heap.size, 0, none⟩) (n + m) (grownCap w (n + m) c el))) (w.drew.alloc (.cells (us.toArray ++ vs.toArray ++ Builtin.zeroCells z.cells (grownCap w (n + m) c el - (n + m))) el)) := by
    simp [execOp, resolve, invoke, builtin, he.eval hx, he.eval hy, hrun0]
  have hlen : (us ++ vs).length = (n + m) * i.size := by rw [List.length_append, f1, g1, Nat.add_mul]
  unfold Oper.wp
  rw [hrun]
  refine h _ _ _ ⟨_, _, rfl, rfl⟩ (St.newC (w := w.drew) hs.drew _ ?_ (fun k hk => by simpa [rowC, blk] using hk))
  refine ⟨hlen, .inr ⟨w.heap.size, _, _, rfl, Nat.zero_le _, heap_alloc_new w.drew _, hge, hcm, ?_, ?_⟩⟩
  · simp only [Array.size_append, List.size_toArray, size_zeroCells, hz, f1, g1, ← Nat.add_mul]
    congr 1
    omega
  · simp only [Array.toList_append, List.append_assoc]
    rw [← List.append_assoc, ← hlen]
    exact List.take_left
end
end Go.SX
attribute [irreducible] Go.SX.sliceC Go.SX.rowC Go.SX.cellsC
