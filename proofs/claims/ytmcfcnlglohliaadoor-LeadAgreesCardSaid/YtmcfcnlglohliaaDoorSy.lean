import Derived.Test.YtmcfcnlglohliaaDoorSx
import Derived.Deep.Slices
import Derived.OpenShut
/- Records in slices; several chunks as one; what is opened and closed. -/
set_option linter.unusedVariables false
set_option linter.unusedSimpArgs false
namespace Go.SX
open Go Go.RowKit
/-- Several chunks that may be read; they may lie over each other. -/
def allC (cs : List Chunk) : Chunk where
  fp := fps cs
  holds w := ∀ c ∈ cs, c.holds w
  loc w w' h hw := fun c hc => c.loc w w' (fun k hk => h k (mem_fps.2 ⟨c, hc, hk⟩)) (hw c hc)
  lt w hw k hk := by obtain ⟨c, hc, hk⟩ := mem_fps.1 hk; exact c.lt w (hw c hc) k hk
theorem Sub.inAll {c : Chunk} {cs : List Chunk} (h : c ∈ cs) : Sub c (allC cs) := ⟨fun k hk => mem_fps.2 ⟨c, h, hk⟩, fun w hw => hw c h⟩
theorem Sub.inStar {c : Chunk} {cs : List Chunk} (h : c ∈ cs) : Sub c (starC cs) := ⟨fun k hk => mem_fps.2 ⟨c, h, hk⟩, fun w hw => hw.1 c h⟩
theorem Sub.allStar {cs : List Chunk} : Sub (allC cs) (starC cs) := ⟨fun _ h => h, fun w hw => hw.1⟩
theorem fps_star (cs l : List Chunk) : fps (starC cs :: l) = fps (cs ++ l) := by simp [fps, starC]
section
variable {P : Program} {f : FuncId} {args : List Value} {l r cs : List Chunk} {post : Value → List Chunk → Prop}
theorem Spec.open (h : Spec P f args (cs ++ l) r post) : Spec P f args (starC cs :: l) r post :=
  ⟨fun w hs => by
    rw [fps_star] at hs ⊢
    exact h.out w hs.starOpen⟩
theorem St.roAll {S : List Nat} {w0 w : World} (h : St S w0 w l (allC cs :: r)) : St S w0 w l (cs ++ r) :=
  { h with
    ro := fun c hc => by
      rcases List.mem_append.1 hc with hc | hc
      · exact h.ro _ List.mem_cons_self c hc
      · exact h.ro c (List.mem_cons_of_mem _ hc)
    sepr := fun c hc d hd k hk => by
      rcases List.mem_append.1 hd with hd | hd
      · exact fun hkd => h.sepr c hc _ List.mem_cons_self k hk (mem_fps.2 ⟨d, hd, hkd⟩)
      · exact h.sepr c hc d (List.mem_cons_of_mem _ hd) k hk }
theorem St.roAll' {S : List Nat} {w0 w : World} (h : St S w0 w l (cs ++ r)) : St S w0 w l (allC cs :: r) :=
  { h with
    ro := fun c hc => by
      rcases List.mem_cons.1 hc with rfl | hc
      · exact fun d hd => h.ro d (List.mem_append_left _ hd)
      · exact h.ro c (List.mem_append_right _ hc)
    sepr := fun c hc d hd k hk => by
      rcases List.mem_cons.1 hd with rfl | hd
      · exact fun hkd => by obtain ⟨x, hx, hkx⟩ := mem_fps.1 hkd; exact h.sepr c hc x (List.mem_append_left _ hx) k hk hkx
      · exact h.sepr c hc d (List.mem_append_right _ hd) k hk }
theorem Spec.openR (h : Spec P f args l (cs ++ r) post) : Spec P f args l (allC cs :: r) post :=
  ⟨fun w hs => (h.out w hs.roAll).mono fun e w' ⟨v, l', h1, h2, h3⟩ => ⟨v, l', h1, h2, h3.roAll'⟩⟩
theorem Spec.openRS (h : Spec P f args l (cs ++ r) post) : Spec P f args l (starC cs :: r) post :=
  ⟨fun w hs => by
    have hp := (hs.ro _ List.mem_cons_self).2
    have hs' : St (fps l) w w l (allC cs :: r) :=
      { hs with
        ro := fun c hc => by
          rcases List.mem_cons.1 hc with rfl | hc
          · exact (hs.ro _ List.mem_cons_self).1
          · exact hs.ro c (List.mem_cons_of_mem _ hc)
        sepr := fun c hc d hd k hk => by
          rcases List.mem_cons.1 hd with rfl | hd
          · exact hs.sepr c hc _ List.mem_cons_self k hk
          · exact hs.sepr c hc d (List.mem_cons_of_mem _ hd) k hk }
    refine (h.out w hs'.roAll).mono fun e w' ⟨v, l', h1, h2, h3⟩ => ⟨v, l', h1, h2, ?_⟩
    have h4 := h3.roAll'
    exact { h4 with
      ro := fun c hc => by
        rcases List.mem_cons.1 hc with rfl | hc
        · exact ⟨h4.ro _ List.mem_cons_self, hp⟩
        · exact h4.ro c (List.mem_cons_of_mem _ hc)
      sepr := fun c hc d hd k hk => by
        rcases List.mem_cons.1 hd with rfl | hd
        · exact h4.sepr c hc _ List.mem_cons_self k hk
        · exact h4.sepr c hc d (List.mem_cons_of_mem _ hd) k hk }⟩
end
section
variable {P : Program} {n : Nat} {S : List Nat} {w0 : World} {r : List Chunk}
theorem W.starOpen {ops : Array Oper} {K : QS} {rest : List Oper} {e : Env} {cs l : List Chunk} (h : W P n S w0 r ops K rest e (cs ++ l)) : W P n S w0 r ops K rest e (starC cs :: l) :=
  ⟨fun a w he hs => h.out a w he hs.starOpen⟩
theorem WC.starOpen {c : Code} {K : QS} {e : Env} {cs l : List Chunk} (h : WC P n S w0 r c K e (cs ++ l)) : WC P n S w0 r c K e (starC cs :: l) :=
  ⟨fun a w he hs => h.out a w he hs.starOpen⟩
theorem W.lstT {ops : Array Oper} {K : QS} {rest : List Oper} {e : Env} {cs l l' : List Chunk} (hp : PicksT cs l l') (h : W P n S w0 r ops K rest e (cs ++ l')) : W P n S w0 r ops K rest e l :=
  ⟨fun a w he hs => h.out a w he (hs.picksT hp)⟩
theorem WC.lstT {c : Code} {K : QS} {e : Env} {cs l l' : List Chunk} (hp : PicksT cs l l') (h : WC P n S w0 r c K e (cs ++ l')) : WC P n S w0 r c K e l :=
  ⟨fun a w he hs => h.out a w he (hs.picksT hp)⟩
end
/-- Records, one behind the other. -/
def recs {α : Type} (f : α → List Value) (xs : List α) : List Value := xs.flatMap f
def nth {α : Type} [Inhabited α] (xs : List α) (k : Nat) : α := xs.getD k default
theorem nth_get {α : Type} [Inhabited α] {xs : List α} {k : Nat} (h : k < xs.length) : nth xs k = xs[k] := by simp [nth, List.getD, List.getElem?_eq_getElem h]
theorem nth_mem {α : Type} [Inhabited α] {xs : List α} {k : Nat} (h : k < xs.length) : nth xs k ∈ xs := by rw [nth_get h]; exact List.getElem_mem h
theorem recs_snoc {α : Type} (f : α → List Value) (xs : List α) (x : α) : recs f (xs ++ [x]) = recs f xs ++ f x := by simp [recs]
theorem recs_append {α : Type} (f : α → List Value) (xs ys : List α) : recs f (xs ++ ys) = recs f xs ++ recs f ys := by simp [recs]
theorem recs_length {α : Type} {f : α → List Value} {s : Nat} (hs : ∀ x, (f x).length = s) (xs : List α) : (recs f xs).length = xs.length * s := by
  induction xs with
  | nil => simp [recs]
  | cons x xs ih => rw [recs, List.flatMap_cons, List.length_append, hs, show List.flatMap f xs = recs f xs from rfl, ih, List.length_cons, Nat.succ_mul, Nat.add_comm]
theorem recs_drop {α : Type} [Inhabited α] {f : α → List Value} {s : Nat} (hs : ∀ x, (f x).length = s) : ∀ (xs : List α) (k : Nat), k < xs.length → (recs f xs).drop (k * s) = f (nth xs k) ++ recs f (xs.drop (k + 1)) := by
  intro xs
  induction xs with
  | nil => intro k h; simp at h
  | cons x xs ih =>
    intro k h
    cases k with
    | zero => simp [recs, nth]
    | succ k =>
      have h' : k < xs.length := by simpa using h
      rw [recs, List.flatMap_cons, show (k + 1) * s = (f x).length + k * s by rw [hs, Nat.succ_mul]; omega, List.drop_append]
      have := ih k h'
      rw [List.drop_of_length_le (by omega), Nat.add_sub_cancel_left]
      simpa [recs, nth] using this
theorem recs_take {α : Type} [Inhabited α] {f : α → List Value} {s : Nat} (hs : ∀ x, (f x).length = s) {xs : List α} {k : Nat} (h : k < xs.length) : ((recs f xs).drop (k * s)).take s = f (nth xs k) := by
  rw [recs_drop hs xs k h, List.take_append_of_le_length (by rw [hs]; exact Nat.le_refl _), List.take_of_length_le (by rw [hs]; exact Nat.le_refl _)]
theorem recs_get {α : Type} [Inhabited α] {f : α → List Value} {s : Nat} (hs : ∀ x, (f x).length = s) {xs : List α} {k o : Nat} (h : k < xs.length) (ho : o < s) : (recs f xs)[k * s + o]? = (f (nth xs k))[o]? := by
  rw [← List.getElem?_drop, recs_drop hs xs k h, List.getElem?_append_left (by rw [hs]; exact ho)]
theorem recs_len {α : Type} {f : α → List Value} {s n c : Nat} {A : Option Addr} (hs : ∀ x, (f x).length = s) (h0 : 0 < s) {xs : List α} {w : World} (h : (sliceC A c s n (recs f xs)).holds w) : n = xs.length := by
  have h1 := (sliceC_len w h).1
  rw [recs_length hs] at h1
  exact (Nat.eq_of_mul_eq_mul_right h0 h1).symm
section
variable {P : Program} {e : Env} {cs : List Chunk} {T : TypeId} {pos : String} {af : Array Edge} {gu : Option (Nat × Bool)} {d : Option Tmp} {α : Type} [Inhabited α]
theorem Ev.indexRec {t el : TypeId} {z : Value} {sz by_ n c k s : Nat} {A : Option Addr} {kk : IntKind} {x y : Operand} {us : List Value} [hu : Und P t (.slice el)] [hi : Inf P el z sz by_]
    (hx : ev e x = some (.slice A n c)) (hy : ev e y = some (.int kk (k : Int))) (hr : Rd (sliceC A c s n us) cs) (hb : k < n) (hs : Nat.blt 0 s = true) :
    Ev P e cs ⟨d, .indexAddr t x y, T, pos, af, gu⟩ (ptrAt A (k * sz)) := by
  have := Ev.indexAddr (P := P) (t := t) (d := d) (T := T) (pos := pos) (af := af) (gu := gu) hx hy hr ⟨by omega, by omega⟩ (by simpa [Nat.blt_eq] using hs)
  rwa [Int.toNat_natCast] at this
theorem Ev.indexRecK {t el : TypeId} {z : Value} {sz by_ n c k s : Nat} {i : Int} {A : Option Addr} {kk : IntKind} {x : Operand} {us : List Value} [hu : Und P t (.slice el)] [hi : Inf P el z sz by_]
    (hx : ev e x = some (.slice A n c)) (hk : i.toNat = k) (hr : Rd (sliceC A c s n us) cs) (hb : 0 ≤ i ∧ i < n) (hs : Nat.blt 0 s = true) :
    Ev P e cs ⟨d, .indexAddr t x (.const (.int kk i)), T, pos, af, gu⟩ (ptrAt A (k * sz)) := by
  have := Ev.indexAddr (P := P) (t := t) (d := d) (T := T) (pos := pos) (af := af) (gu := gu) (y := .const (.int kk i)) hx rfl hr hb (by simpa [Nat.blt_eq] using hs)
  rwa [hk] at this
/-- A whole record. -/
theorem Ev.loadRec {t : TypeId} {ds : TypeDesc} {z : Value} {by_ s n c k : Nat} {A : Option Addr} {x : Operand} {f : α → List Value} {xs : List α} [hu : Und P t ds] [hi : Inf P t z s by_] (hp : plainD ds = false)
    (hx : ev e x = some (ptrAt A (k * s))) (hr : Rd (sliceC A c s n (recs f xs)) cs) (hs : ∀ x, (f x).length = s) (hk : k < xs.length) (h0 : Nat.blt 0 s = true) :
    Ev P e cs ⟨d, .load t x, T, pos, af, gu⟩ (.agg (f (nth xs k)).toArray) := by
  have hl := recs_length hs xs
  have h1 : (k + 1) * s ≤ xs.length * s := Nat.mul_le_mul_right _ hk
  have := Ev.loadAtAgg (P := P) (t := t) (d := d) (T := T) (pos := pos) (af := af) (gu := gu) hp hx hr (by rw [hl]; rw [Nat.succ_mul] at h1; exact h1) (by simpa [Nat.blt_eq] using h0)
  rwa [recs_take hs hk] at this
/-- A field of a record that is one cell. -/
theorem Ev.loadRecF {t : TypeId} {ds : TypeDesc} {s n c k o : Nat} {A : Option Addr} {x : Operand} {f : α → List Value} {xs : List α} {v : Value} [hu : Und P t ds] (hp : plainD ds = true)
    (hx : ev e x = some (.pointer (some ⟨ablk A, aoff A + k * s + o, none⟩))) (hr : Rd (sliceC A c s n (recs f xs)) cs) (hs : ∀ x, (f x).length = s) (hk : k < xs.length) (ho : Nat.blt o s = true) (hv : (f (nth xs k))[o]? = some v) :
    Ev P e cs ⟨d, .load t x, T, pos, af, gu⟩ v :=
  Ev.loadAtF (A := A) (k := k * s) (o := o) hp hx hr (by rw [recs_get hs hk (by simpa [Nat.blt_eq] using ho)]; exact hv)
theorem Ev.loadRecF2 {t : TypeId} {ds : TypeDesc} {s n c k o o' : Nat} {A : Option Addr} {x : Operand} {f : α → List Value} {xs : List α} {v : Value} [hu : Und P t ds] (hp : plainD ds = true)
    (hx : ev e x = some (.pointer (some ⟨ablk A, aoff A + k * s + o + o', none⟩))) (hr : Rd (sliceC A c s n (recs f xs)) cs) (hs : ∀ x, (f x).length = s) (hk : k < xs.length) (ho : Nat.blt (o + o') s = true) (hv : (f (nth xs k))[o + o']? = some v) :
    Ev P e cs ⟨d, .load t x, T, pos, af, gu⟩ v :=
  Ev.loadRecF (o := o + o') hp (by rw [hx, Nat.add_assoc (aoff A + k * s)]) hr hs hk ho hv
theorem Ev.loadRec0 {t : TypeId} {ds : TypeDesc} {n c k : Nat} {A : Option Addr} {x : Operand} {f : α → List Value} {xs : List α} {v : Value} [hu : Und P t ds] (hp : plainD ds = true)
    (hx : ev e x = some (ptrAt A k)) (hr : Rd (sliceC A c 1 n (recs f xs)) cs) (hs : ∀ x, (f x).length = 1) (hk : k < xs.length) (hv : (f (nth xs k))[0]? = some v) :
    Ev P e cs ⟨d, .load t x, T, pos, af, gu⟩ v :=
  Ev.loadAt (A := A) (k := k) hp hx hr (by have := recs_get hs hk (o := 0) (by omega); rw [Nat.mul_one, Nat.add_zero] at this; rw [this]; exact hv)
/-- A field of a record that is several cells. -/
theorem Ev.loadRecFA {t : TypeId} {ds : TypeDesc} {z : Value} {sz by_ s n c k o : Nat} {A : Option Addr} {x : Operand} {f : α → List Value} {xs : List α} {vs : List Value} [hu : Und P t ds] [hi : Inf P t z sz by_] (hp : plainD ds = false)
    (hx : ev e x = some (.pointer (some ⟨ablk A, aoff A + k * s + o, none⟩))) (hr : Rd (sliceC A c s n (recs f xs)) cs) (hs : ∀ x, (f x).length = s) (hk : k < xs.length) (ho : Nat.ble (o + sz) s = true) (h0 : Nat.blt 0 sz = true)
    (hv : ((f (nth xs k)).drop o).take sz = vs) :
    Ev P e cs ⟨d, .load t x, T, pos, af, gu⟩ (.agg vs.toArray) := by
  have ho' : o + sz ≤ s := Nat.le_of_ble_eq_true ho
  have h0' : 0 < sz := by simpa [Nat.blt_eq] using h0
  have hl := recs_length hs xs
  have h1 : (k + 1) * s ≤ xs.length * s := Nat.mul_le_mul_right _ hk
  rw [Nat.succ_mul] at h1
  have := Ev.loadAtFAgg (P := P) (t := t) (d := d) (T := T) (pos := pos) (af := af) (gu := gu) hp hx hr (by rw [hl]; omega) h0'
  have e1 : ((recs f xs).drop (k * s + o)).take sz = vs := by
    rw [← List.drop_drop, recs_drop hs xs k hk, List.drop_append_of_le_length (by rw [hs]; omega), List.take_append_of_le_length (by rw [List.length_drop, hs]; omega), hv]
  rwa [e1] at this
end
theorem Sub.allAt {α : Type} [Inhabited α] {g : α → Chunk} {xs : List α} {k : Nat} (h : k < xs.length) : Sub (g (nth xs k)) (allC (xs.map g)) := Sub.inAll (List.mem_map_of_mem (nth_mem h))
theorem Sub.starAt {α : Type} [Inhabited α] {g : α → Chunk} {xs : List α} {k : Nat} (h : k < xs.length) : Sub (g (nth xs k)) (starC (xs.map g)) := Sub.inStar (List.mem_map_of_mem (nth_mem h))
end Go.SX
namespace Go.SX
open Go Go.RowKit
section
variable {P : Program} {S : List Nat} {w0 : World} {r : List Chunk} {e : Env} {l : List Chunk} {T : TypeId} {pos : String} {af : Array Edge} {gu : Option (Nat × Bool)} {d : Option Tmp}
theorem Stp.calO {f : FuncId} {xs : List Operand} {vs : List Value} {ts : Array TypeId} {y : Operand} {l0 l1 r0 : List Chunk} {post : Value → List Chunk → Prop} [hf : Fun P f]
    (hy : ev e y = some (.func (.func f) #[] #[])) (hx : evs e xs = some vs) (hp : PicksT l0 l l1) (hr : Rds r0 (l1 ++ r)) (hsp : Spec P f vs l0 r0 post) :
    Stp P S w0 r ⟨d, .call ⟨.value y, xs.toArray, ts⟩, T, pos, af, gu⟩ e l (fun v l' => ∃ l2, post v l2 ∧ l' = l2 ++ l1) := Stp.cal hy hx hsp hp hr
theorem Stp.calcO {f : FuncId} {xs : List Operand} {vs us : List Value} {ts : Array TypeId} {y : Operand} {l0 l1 r0 : List Chunk} {post : Value → List Chunk → Prop} [hf : Fun P f]
    (hy : ev e y = some (.func (.func f) #[] us.toArray)) (hx : evs e xs = some vs) (hp : PicksT l0 l l1) (hr : Rds r0 (l1 ++ r)) (hsp : Spec P f (vs ++ us) l0 r0 post) :
    Stp P S w0 r ⟨d, .call ⟨.value y, xs.toArray, ts⟩, T, pos, af, gu⟩ e l (fun v l' => ∃ l2, post v l2 ∧ l' = l2 ++ l1) := Stp.calc hy hx hsp hp hr
end
end Go.SX
/- Shapes: what an argument's cells are, by its type. -/
namespace Go.SX
open Go Go.RowKit
inductive Sh where
  | bool
  | int (k : IntKind)
  | str
  | slice (s : Nat) (e : Sh)
  | unit
  | cat (a b : Sh)
  | rep (n : Nat) (e : Sh)
def Sh.size : Sh → Nat
  | .bool => 1
  | .int _ => 1
  | .str => 1
  | .slice _ _ => 1
  | .unit => 0
  | .cat a b => a.size + b.size
  | .rep n e => n * e.size
def Sh.ok (w : World) : Sh → List Value → Prop
  | .bool, cs => ∃ b, cs = [.bool b]
  | .int k, cs => ∃ n, cs = [.int k n] ∧ (Lit.int k n).wf = true
  | .str, cs => ∃ s, cs = [.string s] ∧ s.size ≤ maxLen
  | .slice s e, cs => ∃ A n c, ∃ xs : List (List Value), cs = [.slice A n c] ∧ (sliceC A c s n xs.flatten).holds w ∧ xs.length = n ∧ ∀ x ∈ xs, Sh.ok w e x
  | .unit, cs => cs = []
  | .cat a b, cs => ∃ x y, cs = x ++ y ∧ Sh.ok w a x ∧ Sh.ok w b y
  | .rep n e, cs => ∃ xs : List (List Value), cs = xs.flatten ∧ xs.length = n ∧ ∀ x ∈ xs, Sh.ok w e x
def shFs (P : Program) (r : TypeId → Option Sh) : Nat → List Field → Option Sh
  | _, [] => some .unit
  | off, f :: fs => (r f.type).bind fun a => if a.size = P.cellsOf f.type ∧ f.offset = off then (shFs P r (off + a.size) fs).map (.cat a) else none
def shF (P : Program) : Nat → TypeId → Option Sh
  | 0, _ => none
  | n + 1, t => match P.underlying t with
    | some .bool => some .bool
    | some (.int k) => some (.int k)
    | some .string => some .str
    | some (.slice e) => (shF P n e).bind fun s => if s.size = P.cellsOf e ∧ 0 < s.size then some (.slice s.size s) else none
    | some (.array m e) => (shF P n e).bind fun s => if s.size = P.cellsOf e ∧ m * s.size = P.cellsOf t then some (.rep m s) else none
    | some (.struct fs) => (shFs P (shF P n) 0 fs.toList).bind fun s => if s.size = P.cellsOf t then some s else none
    | _ => none
theorem flat_length {xs : List (List Value)} {s : Nat} (hs : ∀ x ∈ xs, x.length = s) : xs.flatten.length = xs.length * s := by
  induction xs with
  | nil => simp
  | cons x xs ih =>
    rw [List.flatten_cons, List.length_append, hs x List.mem_cons_self, ih fun y hy => hs y (List.mem_cons_of_mem _ hy), List.length_cons, Nat.succ_mul, Nat.add_comm]
theorem flat_get {s : Nat} (h0 : 0 < s) : ∀ {xs : List (List Value)} (_ : ∀ x ∈ xs, x.length = s) (j : Nat), xs.flatten[j]? = (xs.getD (j / s) [])[j % s]? := by
  intro xs
  induction xs with
  | nil => intro _ j; simp
  | cons x xs ih =>
    intro hs j
    have hx := hs x List.mem_cons_self
    rw [List.flatten_cons]
    rcases Nat.lt_or_ge j s with hj | hj
    · rw [List.getElem?_append_left (by omega), Nat.div_eq_of_lt hj, Nat.mod_eq_of_lt hj]; simp
    · rw [List.getElem?_append_right (by omega), hx, ih (fun y hy => hs y (List.mem_cons_of_mem _ hy))]
      have h1 : j / s = (j - s) / s + 1 := by
        conv => lhs; rw [show j = (j - s) + s by omega]
        rw [Nat.add_div_right _ h0]
      have h2 : j % s = (j - s) % s := Nat.mod_eq_sub_mod hj
      rw [h1, h2]
      simp
section
variable {H : Type} {enc : TypeId × Value → H} {P : Program} {w : World} {base : Nat} {spare : Nat → Bool} {held : Bool}
theorem ok_size : ∀ (sh : Sh) {cs : List Value}, sh.ok w cs → cs.length = sh.size := by
  intro sh
  induction sh with
  | bool => rintro cs ⟨b, rfl⟩; rfl
  | int k => rintro cs ⟨n, rfl, _⟩; rfl
  | str => rintro cs ⟨n, rfl, _⟩; rfl
  | slice s e _ => rintro cs ⟨A, n, c, xs, rfl, _⟩; rfl
  | unit => rintro cs rfl; rfl
  | cat a b iha ihb => rintro cs ⟨x, y, rfl, hx, hy⟩; rw [List.length_append, iha hx, ihb hy]; rfl
  | rep n e ih => rintro cs ⟨xs, rfl, rfl, hx⟩; exact flat_length fun x h => ih (hx x h)
theorem shFs_ok {r : TypeId → Option Sh} (hr : ∀ t sh cs, r t = some sh → (∃ fuel x, DataW.trod enc P w base spare held fuel t cs = some x) → sh.ok w cs) :
    ∀ (fs : List Field) (off : Nat) (sh : Sh) (cs : List Value), shFs P r off fs = some sh → cs.length = off + sh.size →
      (∀ f ∈ fs, ∃ fuel x, DataW.trod enc P w base spare held fuel f.type ((cs.drop f.offset).take (P.cellsOf f.type)) = some x) → sh.ok w (cs.drop off) := by
  intro fs
  induction fs with
  | nil =>
    intro off sh cs h hl _
    simp only [shFs, Option.some.injEq] at h
    subst h
    simp only [Sh.size] at hl
    exact List.drop_eq_nil_of_le (by omega)
  | cons f fs ih =>
    intro off sh cs h hl hf
    simp only [shFs, Option.bind_eq_some_iff] at h
    obtain ⟨a, ha, h⟩ := h
    split at h
    · rename_i hc
      obtain ⟨h1, h2⟩ := hc
      obtain ⟨b, hb, rfl⟩ := Option.map_eq_some_iff.1 h
      have h3 := hr f.type a _ ha (hf f List.mem_cons_self)
      simp only [Sh.size] at hl
      have h4 := ih (off + a.size) b cs hb (by omega) (fun g hg => hf g (List.mem_cons_of_mem _ hg))
      rw [← h1, h2] at h3
      refine ⟨_, _, ?_, h3, h4⟩
      rw [← List.drop_drop, List.take_append_drop]
    · cases h
theorem shF_ok : ∀ (n : Nat) (t : TypeId) (sh : Sh) (cs : List Value), shF P n t = some sh → (∃ fuel x, DataW.trod enc P w base spare held fuel t cs = some x) → sh.ok w cs := by
  intro n
  induction n with
  | zero => intro t sh cs h; simp [shF] at h
  | succ n ih =>
    intro t sh cs h ⟨fuel, x, hx⟩
    unfold shF at h
    split at h
    · rename_i ht
      obtain rfl := Option.some.inj h
      cases fuel with
      | zero => simp [DataW.trod] at hx
      | succ m =>
        unfold DataW.trod at hx
        rw [ht] at hx
        split at hx <;> simp_all [Sh.ok]
    · rename_i k ht
      obtain rfl := Option.some.inj h
      cases fuel with
      | zero => simp [DataW.trod] at hx
      | succ m =>
        unfold DataW.trod at hx
        rw [ht] at hx
        split at hx <;> simp_all [Sh.ok]
    · rename_i ht
      obtain rfl := Option.some.inj h
      cases fuel with
      | zero => simp [DataW.trod] at hx
      | succ m =>
        unfold DataW.trod at hx
        rw [ht] at hx
        split at hx <;> simp_all [Sh.ok]
    · rename_i e ht
      simp only [Option.bind_eq_some_iff] at h
      obtain ⟨s, hs, h⟩ := h
      split at h
      · rename_i hc
        obtain ⟨h1, h2⟩ := hc
        obtain rfl := Option.some.inj h
        rcases Deep.open_slice ht hx with ⟨rfl, _⟩ | ⟨a, len, cap, m, q, D, Pl, rfl, _, hlc, hcm, hm, _, hi⟩
        · exact ⟨none, 0, 0, [], rfl, sliceC_mk (by simp) (Nat.le_refl _) (Nat.zero_le _) (by simp) (fun a ha => by cases ha), rfl, fun x hx => by cases hx⟩
        · have hml : len ≤ m := by rw [hm]; split <;> omega
          have key : ∀ i : Nat, ∃ cs', i < len → w.cells? base (a.add (i * P.cellsOf e)) (P.cellsOf e) = some cs' ∧ s.ok w cs' := by
            intro i
            by_cases hil : i < len
            · obtain ⟨cs', h3, h4⟩ := hi i (by omega)
              exact ⟨cs', fun _ => ⟨h3, ih e s cs' hs ⟨q, _, h4⟩⟩⟩
            · exact ⟨[], fun h => absurd h hil⟩
          obtain ⟨g, hg⟩ := Classical.axiomOfChoice key
          have hsz : ∀ x ∈ (List.range len).map g, x.length = s.size := by
            intro x hx
            obtain ⟨i, hi, rfl⟩ := List.mem_map.1 hx
            exact ok_size s (hg i (List.mem_range.1 hi)).2
          refine ⟨some a, len, cap, (List.range len).map g, rfl, sliceC_mk ?_ hlc hcm (fun _ => ⟨a, rfl⟩) ?_, by simp, ?_⟩
          · rw [flat_length hsz]; simp
          · intro a' ha j u hu
            obtain rfl := Option.some.inj ha
            rw [flat_get h2 hsz] at hu
            have hjl : j / s.size < len := by
              rcases Nat.lt_or_ge (j / s.size) len with hj | hj
              · exact hj
              · rw [List.getD_eq_getElem?_getD, List.getElem?_map, List.getElem?_eq_none (l := List.range len) (by simpa using hj)] at hu; simp at hu
            have hgi := hg _ hjl
            rw [List.getD_eq_getElem?_getD, List.getElem?_map, List.getElem?_range hjl] at hu
            simp only [Option.map_some, Option.getD_some] at hu
            obtain ⟨_, hcl, hat⟩ := World.cells?_some hgi.1
            have := hat (j % s.size) (by rw [← h1]; exact Nat.mod_lt _ h2)
            rw [hu, add_add, ← h1] at this
            have hdm : j / s.size * s.size + j % s.size = j := by rw [Nat.mul_comm]; exact Nat.div_add_mod j s.size
            rwa [hdm] at this
          · intro x hx
            obtain ⟨i, hi, rfl⟩ := List.mem_map.1 hx
            exact (hg i (List.mem_range.1 hi)).2
      · cases h
    · rename_i m e ht
      simp only [Option.bind_eq_some_iff] at h
      obtain ⟨s, hs, h⟩ := h
      split at h
      · rename_i hc
        obtain ⟨h1, h2⟩ := hc
        obtain rfl := Option.some.inj h
        obtain ⟨xs, q, _, _, hl, hxl, hi⟩ := DataW.trod_array ht hx
        refine ⟨(List.range m).map fun i => (cs.drop (i * s.size)).take s.size, ?_, by simp, ?_⟩
        · have hlen : cs.length = m * s.size := by rw [hl, h2]
          clear hi hl h2 hx hxl
          have flat : ∀ (k i : Nat), i + k = m → ((List.range' i k).map fun i => (cs.drop (i * s.size)).take s.size).flatten = cs.drop (i * s.size) := by
            intro k
            induction k with
            | zero => intro i hi; obtain rfl : i = m := by omega
                      rw [List.drop_eq_nil_of_le (by omega)]; rfl
            | succ k ihk =>
              intro i hi
              rw [List.range'_succ, List.map_cons, List.flatten_cons, ihk (i + 1) (by omega), Nat.succ_mul, ← List.drop_drop, List.take_append_drop]
          have := flat m 0 (by omega)
          rw [List.range_eq_range', this]; simp
        · intro x hx
          obtain ⟨i, him, rfl⟩ := List.mem_map.1 hx
          have him := List.mem_range.1 him
          have h3 := hi i him
          rw [← h1, List.getElem?_eq_getElem (by omega)] at h3
          exact ih e s _ hs ⟨q, _, h3⟩
      · cases h
    · rename_i fs ht
      simp only [Option.bind_eq_some_iff] at h
      obtain ⟨s, hs, h⟩ := h
      split at h
      · rename_i h1
        obtain rfl := Option.some.inj h
        obtain ⟨xs, q, _, _, hl, hxl, hi⟩ := DataW.trod_struct ht hx
        have := shFs_ok (enc := enc) (base := base) (spare := spare) (held := held) (fun t sh cs h1 h2 => ih t sh cs h1 h2) fs.toList 0 s cs hs (by rw [hl, h1]; omega) (fun f hf => by
          obtain ⟨i, hi', rfl⟩ := List.getElem_of_mem hf
          have hif : i < fs.size := by simpa using hi'
          have h3 := hi i _ (Array.getElem?_eq_getElem hif)
          rw [List.getElem?_eq_getElem (by omega)] at h3
          rw [Array.getElem_toList]
          exact ⟨q, _, h3⟩)
        simpa using this
      · cases h
    · cases h
end
/-- Lists of records. -/
theorem ok_list {w : World} {e : Sh} {α : Type} {f : α → List Value} {Q : α → Prop} (h : ∀ x, e.ok w x → ∃ d, x = f d ∧ Q d) : ∀ {xs : List (List Value)} (_ : ∀ x ∈ xs, e.ok w x), ∃ ds : List α, xs.flatten = recs f ds ∧ ds.length = xs.length ∧ ∀ d ∈ ds, Q d := by
  intro xs
  induction xs with
  | nil => intro _; exact ⟨[], rfl, rfl, fun d hd => by cases hd⟩
  | cons x xs ih =>
    intro hx
    obtain ⟨d, rfl, hd⟩ := h x (hx x List.mem_cons_self)
    obtain ⟨ds, h1, h2, h3⟩ := ih fun y hy => hx y (List.mem_cons_of_mem _ hy)
    refine ⟨d :: ds, ?_, by simp [h2], fun y hy => ?_⟩
    · rw [List.flatten_cons, h1]; rfl
    · rcases List.mem_cons.1 hy with rfl | hy
      · exact hd
      · exact h3 y hy
theorem recs_u8 (bs : List UInt8) : recs (fun b => [u8 b]) bs = u8s bs := by
  induction bs with
  | nil => rfl
  | cons b bs ih => rw [recs, List.flatMap_cons, show List.flatMap _ bs = recs (fun b => [u8 b]) bs from rfl, ih]; rfl
theorem recs_i64 (bs : List Int) : recs (fun b => [Value.int .i64 b]) bs = i64s bs := by
  induction bs with
  | nil => rfl
  | cons b bs ih => rw [recs, List.flatMap_cons, show List.flatMap _ bs = recs (fun b => [Value.int .i64 b]) bs from rfl, ih]; rfl
theorem ok_bytes {w : World} {cs : List Value} (h : (Sh.slice 1 (.int .u8)).ok w cs) : ∃ A c bs, cs = [.slice A bs.length c] ∧ (bR A c bs.length bs).holds w := by
  obtain ⟨A, n, c, xs, rfl, h1, rfl, h2⟩ := h
  obtain ⟨bs, h3, h4, _⟩ := ok_list (f := fun b => [u8 b]) (Q := fun _ => True) (e := .int .u8) (fun x ⟨n, hx, hn⟩ => by obtain ⟨b, rfl⟩ := byte_wf hn; exact ⟨b, hx, trivial⟩) h2
  have h5 := recs_u8 bs
  rw [h3, h5, ← h4] at h1
  exact ⟨A, c, bs, by rw [h4], h1⟩
theorem ok_ints {w : World} {cs : List Value} (h : (Sh.slice 1 (.int .i64)).ok w cs) : ∃ A c, ∃ xs : List Int, cs = [.slice A xs.length c] ∧ (iR A c xs.length xs).holds w ∧ ∀ x ∈ xs, (Lit.int .i64 x).wf = true := by
  obtain ⟨A, n, c, xs, rfl, h1, rfl, h2⟩ := h
  obtain ⟨bs, h3, h4, h6⟩ := ok_list (f := fun b => [Value.int .i64 b]) (Q := fun n => (Lit.int .i64 n).wf = true) (e := .int .i64) (fun x ⟨n, hx, hn⟩ => ⟨n, hx, hn⟩) h2
  have h5 := recs_i64 bs
  rw [h3, h5, ← h4] at h1
  exact ⟨A, c, bs, by rw [h4], h1, h6⟩
theorem ok_arr8 {w : World} {n : Nat} {cs : List Value} (h : (Sh.rep n (.int .u8)).ok w cs) : ∃ bs : List UInt8, cs = u8s bs ∧ bs.length = n := by
  obtain ⟨xs, rfl, rfl, h2⟩ := h
  obtain ⟨bs, h3, h4, _⟩ := ok_list (f := fun b => [u8 b]) (Q := fun _ => True) (e := .int .u8) (fun x ⟨n, hx, hn⟩ => by obtain ⟨b, rfl⟩ := byte_wf hn; exact ⟨b, hx, trivial⟩) h2
  have h5 := recs_u8 bs
  exact ⟨bs, by rw [h3, h5], h4⟩
theorem ok_arrI {w : World} {n : Nat} {cs : List Value} (h : (Sh.rep n (.int .i64)).ok w cs) : ∃ xs : List Int, cs = i64s xs ∧ xs.length = n ∧ ∀ x ∈ xs, (Lit.int .i64 x).wf = true := by
  obtain ⟨xs, rfl, rfl, h2⟩ := h
  obtain ⟨bs, h3, h4, h6⟩ := ok_list (f := fun b => [Value.int .i64 b]) (Q := fun n => (Lit.int .i64 n).wf = true) (e := .int .i64) (fun x ⟨n, hx, hn⟩ => ⟨n, hx, hn⟩) h2
  have h5 := recs_i64 bs
  exact ⟨bs, by rw [h3, h5], h4, h6⟩
end Go.SX
/- Names: arrays of 32 bytes, cell by cell. -/
namespace Go.SX
open Go Go.RowKit
/-- A name's bytes as they stand in memory, each by itself. -/
def nmB (x : List UInt8) : List UInt8 := [x.getD 0 0, x.getD 1 0, x.getD 2 0, x.getD 3 0, x.getD 4 0, x.getD 5 0, x.getD 6 0, x.getD 7 0, x.getD 8 0, x.getD 9 0, x.getD 10 0, x.getD 11 0, x.getD 12 0, x.getD 13 0, x.getD 14 0, x.getD 15 0, x.getD 16 0, x.getD 17 0, x.getD 18 0, x.getD 19 0, x.getD 20 0, x.getD 21 0, x.getD 22 0, x.getD 23 0, x.getD 24 0, x.getD 25 0, x.getD 26 0, x.getD 27 0, x.getD 28 0, x.getD 29 0, x.getD 30 0, x.getD 31 0]
def nm (x : List UInt8) : List Value := [u8 (x.getD 0 0), u8 (x.getD 1 0), u8 (x.getD 2 0), u8 (x.getD 3 0), u8 (x.getD 4 0), u8 (x.getD 5 0), u8 (x.getD 6 0), u8 (x.getD 7 0), u8 (x.getD 8 0), u8 (x.getD 9 0), u8 (x.getD 10 0), u8 (x.getD 11 0), u8 (x.getD 12 0), u8 (x.getD 13 0), u8 (x.getD 14 0), u8 (x.getD 15 0), u8 (x.getD 16 0), u8 (x.getD 17 0), u8 (x.getD 18 0), u8 (x.getD 19 0), u8 (x.getD 20 0), u8 (x.getD 21 0), u8 (x.getD 22 0), u8 (x.getD 23 0), u8 (x.getD 24 0), u8 (x.getD 25 0), u8 (x.getD 26 0), u8 (x.getD 27 0), u8 (x.getD 28 0), u8 (x.getD 29 0), u8 (x.getD 30 0), u8 (x.getD 31 0)]
theorem nmB_eq {x : List UInt8} (h : x.length = 32) : nmB x = x := by
  apply List.ext_getElem?
  intro i
  have key : ∀ i, i < 32 → (nmB x)[i]? = some (x.getD i 0) := by
    intro i hi
    iterate 32 (rcases i with _ | i; · rfl)
    omega
  rcases Nat.lt_or_ge i 32 with hi | hi
  · rw [key i hi, List.getD_eq_getElem?_getD, List.getElem?_eq_getElem (by omega), Option.getD_some]
  · rw [List.getElem?_eq_none (show (nmB x).length ≤ i from hi), List.getElem?_eq_none (by omega)]
theorem nm_map (x : List UInt8) : nm x = u8s (nmB x) := rfl
theorem nm_eq {x : List UInt8} (h : x.length = 32) : nm x = u8s x := by rw [nm_map, nmB_eq h]
def nm0 : List UInt8 := List.replicate 32 0
theorem nm0_len : nm0.length = 32 := rfl
section
variable {P : Program} {e : Env} {cs : List Chunk} {T : TypeId} {pos : String} {af : Array Edge} {gu : Option (Nat × Bool)} {d : Option Tmp}
theorem Ev.eqlNm {t t' el : TypeId} {by_ : Nat} {z : Value} {x y : Operand} {us vs : List Value} (xs ys : List UInt8) [hu : Und P t (.array 32 el)] [he : Und P el (.int .u8)] [hi : Inf P el z 1 by_]
    (hx : ev e x = some (.agg us.toArray)) (hy : ev e y = some (.agg vs.toArray)) (hus : us = nm xs) (hvs : vs = nm ys) (hlx : xs.length = 32) (hly : ys.length = 32) (hgt : P.eqGuardType P.depth t = false) :
    Ev P e cs ⟨d, .binOp .eql t x y t', T, pos, af, gu⟩ (.bool (decide (xs = ys))) :=
  Ev.eqlArr xs ys hx hy (by rw [hus, nm_eq hlx]) (by rw [hvs, nm_eq hly]) hlx hly hgt
theorem Ev.neqNm {t t' el : TypeId} {by_ : Nat} {z : Value} {x y : Operand} {us vs : List Value} (xs ys : List UInt8) [hu : Und P t (.array 32 el)] [he : Und P el (.int .u8)] [hi : Inf P el z 1 by_]
    (hx : ev e x = some (.agg us.toArray)) (hy : ev e y = some (.agg vs.toArray)) (hus : us = nm xs) (hvs : vs = nm ys) (hlx : xs.length = 32) (hly : ys.length = 32) (hgt : P.eqGuardType P.depth t = false) :
    Ev P e cs ⟨d, .binOp .neq t x y t', T, pos, af, gu⟩ (.bool (decide (xs ≠ ys))) :=
  Ev.neqArr xs ys hx hy (by rw [hus, nm_eq hlx]) (by rw [hvs, nm_eq hly]) hlx hly hgt
end
theorem ok_nm {w : World} {cs : List Value} (h : (Sh.rep 32 (.int .u8)).ok w cs) : ∃ x : List UInt8, cs = nm x ∧ x.length = 32 := by
  obtain ⟨bs, rfl, hl⟩ := ok_arr8 h
  exact ⟨bs, (nm_eq hl).symm, hl⟩
end Go.SX
/- What a row's frame needs of shapes. -/
namespace Go.SX
open Go Go.RowKit
theorem shape_of {H : Type} {enc : TypeId × Value → H} {P : Program} {w : World} {base : Nat} {spare : Nat → Bool} {held : Bool} {t : TypeId} {v : Value} {d : DataW H} {p : List MemPlace} {sh : Sh}
    (h : DataW.Trod enc P w base spare held t v d p) (hs : shF P 9 t = some sh) : sh.ok w v.cells.toList := by
  obtain ⟨fuel, hf⟩ := h
  exact shF_ok 9 t sh _ hs ⟨fuel, _, hf⟩
theorem slice_one {P : Program} {w : World} {r : Reach} {base : Nat} {t e : TypeId} {v : Value} {sh : Sh} (ht : P.underlying t = some (.slice e)) (h : Value.okWide P w r base t v) (hs : sh.ok w v.cells.toList) : sh.ok w [v] := by
  obtain ⟨a, l, c, rfl⟩ := WideShapes.okWide_slice ht h
  exact hs
theorem okWide_array {P : Program} {w : World} {r : Reach} {base : Nat} {t e : TypeId} {n : Nat} {v : Value} (ht : P.underlying t = some (.array n e)) (h : Value.okWide P w r base t v) : ∃ cs, v = .agg cs := by
  simp only [Value.okWide, ht] at h
  obtain ⟨cs, h1, _⟩ := h
  exact ⟨cs, h1⟩
theorem agg_list {cs : Array Value} {L : List Value} (h : cs.toList = L) : Value.agg cs = .agg L.toArray := by rw [← h]
end Go.SX
/- Structures of one's own: lists of chunks, facts, what grows and what is cut. -/
namespace Go.SX
open Go Go.RowKit
/-- What is only known. -/
def pureC (φ : Prop) : Chunk := ⟨[], fun _ => φ, fun _ _ _ h => h, fun _ _ k hk => by cases hk⟩
theorem Triv.pure {φ : Prop} (h : φ) : Triv (pureC φ) := ⟨rfl, fun _ => h⟩
theorem pureC_holds {φ : Prop} (w : World) (h : (pureC φ).holds w) : φ := h
/-- A list of things, each with its chunk. -/
def starM {α : Type} (f : α → Chunk) (xs : List α) : Chunk := starC (xs.map f)
def holeM {α : Type} (f : α → Chunk) (xs : List α) (i : Nat) : Chunk := starC ((xs.eraseIdx i).map f)
theorem Triv.starM0 {α : Type} {f : α → Chunk} : Triv (starM f []) := ⟨rfl, fun _ => ⟨fun c hc => (by cases hc), List.Pairwise.nil⟩⟩
theorem Sub.starMAt {α : Type} [Inhabited α] {f : α → Chunk} {xs : List α} {k : Nat} (h : k < xs.length) : Sub (f (nth xs k)) (starM f xs) := Sub.starAt h
theorem starM_all {α : Type} {f : α → Chunk} {xs : List α} {w : World} (h : (starM f xs).holds w) : ∀ x ∈ xs, (f x).holds w := fun x hx => h.1 _ (List.mem_map_of_mem hx)
theorem PicksT.snocM {α : Type} {f : α → Chunk} {xs : List α} {x : α} {cs l l1 l2 l3 : List Chunk} (h1 : Pick (starM f xs) l l1) (h2 : Pick (f x) l1 l2) (h3 : PicksT cs l2 l3) : PicksT (starM f (xs ++ [x]) :: cs) l l3 := by
  unfold starM
  rw [List.map_append]
  exact PicksT.cat h1 (PicksT.cons h2 PicksT.nil) h3
theorem PicksT.oneM {α : Type} {f : α → Chunk} {x : α} {cs l l2 l3 : List Chunk} (h2 : Pick (f x) l l2) (h3 : PicksT cs l2 l3) : PicksT (starM f [x] :: cs) l l3 :=
  PicksT.star (PicksT.cons h2 PicksT.nil) h3
theorem PicksT.recSnoc {α : Type} {f : α → List Value} {xs : List α} {x : α} {ys : List Value} {A : Option Addr} {c : Nat} {T : TypeId} {s n : Nat} {cs l l1 l2 : List Chunk} (h1 : Pick (rowC A c T s n (recs f xs ++ ys)) l l1) (hy : f x = ys)
    (h2 : PicksT cs l1 l2) : PicksT (rowC A c T s n (recs f (xs ++ [x])) :: cs) l l2 := by
  rw [recs_snoc, hy]
  exact PicksT.cons h1 h2
theorem Perm.star {cs ds : List Chunk} (h : cs.Perm ds) : Sub (starC ds) (starC cs) :=
  ⟨fun k hk => by obtain ⟨c, hc, hk⟩ := mem_fps.1 hk; exact mem_fps.2 ⟨c, h.mem_iff.2 hc, hk⟩,
   fun w hw => ⟨fun c hc => hw.1 c (h.mem_iff.2 hc), (h.pairwise_iff (fun {c d} => sep_symm)).1 hw.2⟩⟩
theorem holeM_perm {α : Type} [Inhabited α] (xs : List α) (i : Nat) (h : i < xs.length) : (nth xs i :: xs.eraseIdx i).Perm xs := by
  induction xs generalizing i with
  | nil => simp at h
  | cons x xs ih =>
    cases i with
    | zero => exact List.Perm.refl _
    | succ i =>
      have := ih i (by simpa using h)
      exact (List.Perm.swap _ _ _).trans (List.Perm.cons _ this)
theorem eraseIdx_set {α : Type} (xs : List α) (i : Nat) (x : α) : (xs.set i x).eraseIdx i = xs.eraseIdx i := by
  induction xs generalizing i with
  | nil => rfl
  | cons y ys ih => cases i with
    | zero => rfl
    | succ i => simp [ih]
theorem PicksT.fillM {α : Type} [Inhabited α] {f : α → Chunk} {xs : List α} {x : α} {i : Nat} {cs l l1 l2 l3 : List Chunk} (h : i < xs.length) (h1 : Pick (f x) l l1) (h2 : Pick (holeM f xs i) l1 l2) (h3 : PicksT cs l2 l3) :
    PicksT (starM f (xs.set i x) :: cs) l l3 := by
  have hp : ((x :: xs.eraseIdx i).map f).Perm ((xs.set i x).map f) := by
    refine List.Perm.map f ?_
    have := holeM_perm (xs.set i x) i (by simpa using h)
    rw [eraseIdx_set, nth_get (by simpa using h), List.getElem_set_self] at this
    exact this
  -- the hole and the new one, as one
  have k : Sub (starC ((x :: xs.eraseIdx i).map f)) (starC ((xs.eraseIdx i).map f ++ [f x])) := Perm.star (by rw [List.map_cons]; exact (List.perm_append_singleton (f x) _))
  have k2 : Sub (starM f (xs.set i x)) (starC ((xs.eraseIdx i).map f ++ [f x])) := Sub.trans (Perm.star hp) k
  -- the order of picking: the hole lies behind the new one
  obtain ⟨l4, h4, h5⟩ : ∃ l4, Pick (holeM f xs i) l l4 ∧ Pick (f x) l4 l2 := by
    clear k k2 hp h3
    induction h1 generalizing l2 with
    | here => exact ⟨_, Pick.there h2, Pick.here⟩
    | there h1 ih =>
      cases h2 with
      | here => exact ⟨_, Pick.here, h1⟩
      | there h2 =>
        obtain ⟨l4, a, b⟩ := ih h2
        exact ⟨_, Pick.there a, Pick.there b⟩
  exact PicksT.via (PicksT.cat h4 (PicksT.cons h5 PicksT.nil) PicksT.nil) k2 h3
theorem St.focusM {α : Type} [Inhabited α] {f : α → Chunk} {xs : List α} {i : Nat} {S : List Nat} {w0 w : World} {l r : List Chunk} (hi : i < xs.length) (h : St S w0 w (starM f xs :: l) r) : St S w0 w (f (nth xs i) :: holeM f xs i :: l) r := by
  have h1 : St S w0 w (xs.map f ++ l) r := h.starOpen
  have h2 : St S w0 w ((nth xs i :: xs.eraseIdx i).map f ++ l) r := h1.perm (List.Perm.append_right _ (List.Perm.map f (holeM_perm xs i hi).symm))
  have h3 : St S w0 w ((xs.eraseIdx i).map f ++ (f (nth xs i) :: l)) r := h2.perm (by
    rw [List.map_cons, List.cons_append]
    exact (List.perm_middle).symm)
  exact h3.starClose.perm (List.Perm.swap _ _ _)
section
variable {P : Program} {n : Nat} {S : List Nat} {w0 : World} {r : List Chunk} {α : Type} [Inhabited α] {f : α → Chunk} {xs : List α}
theorem W.focusM {ops : Array Oper} {K : QS} {rest : List Oper} {e : Env} {l l1 : List Chunk} (i : Nat) (hp : Pick (starM f xs) l l1) (hi : i < xs.length) (h : W P n S w0 r ops K rest e (f (nth xs i) :: holeM f xs i :: l1)) : W P n S w0 r ops K rest e l :=
  ⟨fun a w he hs => h.out a w he ((hs.perm hp.perm).focusM hi)⟩
theorem WC.focusM {c : Code} {K : QS} {e : Env} {l l1 : List Chunk} (i : Nat) (hp : Pick (starM f xs) l l1) (hi : i < xs.length) (h : WC P n S w0 r c K e (f (nth xs i) :: holeM f xs i :: l1)) : WC P n S w0 r c K e l :=
  ⟨fun a w he hs => h.out a w he ((hs.perm hp.perm).focusM hi)⟩
end
/-- A slice's own array, cut. -/
theorem Sub.hiOwn {A : Option Addr} {c : Nat} {T : TypeId} {s m n : Nat} {us : List Value} (h : m ≤ n) : Sub (rowC A c T s m (us.take (m * s))) (rowC A c T s n us) := by
  constructor
  · intro k hk
    rw [rowC_fp] at hk ⊢
    exact hk
  · intro w hw
    rw [rowC_holds] at hw ⊢
    have hle : m * s ≤ n * s := Nat.mul_le_mul_right _ h
    have hl := hw.1
    rcases hw.2 with h0 | ⟨g, cap, cur, hv, hb, hh, h1, h2, h3, h4⟩
    · have hn : n = 0 := by injection h0.1
      obtain rfl : m = 0 := by omega
      refine ⟨by simp, .inl ⟨?_, ?_⟩⟩
      · rw [← hn]; exact h0.1.trans (by rw [hn])
      · simp
    · injection hv with hA hn hc
      subst hA
      subst hc
      refine ⟨by rw [List.length_take, hl]; exact Nat.min_eq_left hle, .inr ⟨g, c, cur, rfl, hb, hh, by omega, h2, h3, ?_⟩⟩
      rw [← h4, List.take_take, Nat.min_eq_left hle]
theorem Sub.hiOwnB {A : Option Addr} {c : Nat} {T : TypeId} {m n : Nat} {bs : List UInt8} (h : m ≤ n) : Sub (bO A c T m (bs.take m)) (bO A c T n bs) := by
  have := Sub.hiOwn (A := A) (c := c) (T := T) (s := 1) (us := u8s bs) h
  rwa [Nat.mul_one, u8s_take] at this
theorem Sub.hiOwnI {A : Option Addr} {c : Nat} {T : TypeId} {m n : Nat} {xs : List Int} (h : m ≤ n) : Sub (iO A c T m (xs.take m)) (iO A c T n xs) := by
  have := Sub.hiOwn (A := A) (c := c) (T := T) (s := 1) (us := i64s xs) h
  rwa [Nat.mul_one, show (i64s xs).take m = i64s (xs.take m) by simp [i64s, List.map_take]] at this
/-- Slices of bytes, in a slice. -/
structure BH where
  A : Option Addr
  c : Nat
  n : Nat
  bs : List UInt8
  deriving Inhabited
def BH.cell (h : BH) : List Value := [.slice h.A h.n h.c]
def BH.own (T : TypeId) (h : BH) : Chunk := bO h.A h.c T h.n h.bs
theorem BH.own_len {T : TypeId} {hs : List BH} {w : World} (h : (starM (BH.own T) hs).holds w) : ∀ x ∈ hs, x.n = x.bs.length := fun x hx => bO_len (starM_all h x hx)
theorem nth_map {α β : Type} [Inhabited α] [Inhabited β] {f : α → β} {xs : List α} {i : Nat} (h : i < xs.length) : nth (xs.map f) i = f (nth xs i) := by
  rw [nth_get (by simpa using h), nth_get h]; simp
theorem nth_set_self {α : Type} [Inhabited α] {xs : List α} {i : Nat} {x : α} (h : i < xs.length) : nth (xs.set i x) i = x := by rw [nth_get (by simpa using h)]; simp
theorem nth_set_ne {α : Type} [Inhabited α] {xs : List α} {i j : Nat} {x : α} (h : i ≠ j) : nth (xs.set i x) j = nth xs j := by simp [nth, List.getD, List.getElem?_set_ne h]
/-- What is asked of a callee may be found among more. -/
theorem Spec.frame {P : Program} {f : FuncId} {args : List Value} {l0 l l1 r0 r : List Chunk} {post : Value → List Chunk → Prop} (h : Spec P f args l0 r0 post) (hp : PicksT l0 l l1) (hr : Rds r0 (l1 ++ r)) :
    Spec P f args l r (fun v l' => ∃ l2, post v l2 ∧ l' = l2 ++ l1) :=
  ⟨fun w hs => by
    have hs' := hs.picksT hp
    exact (h.out w (hs'.handed hr)).mono fun e w' ⟨v, l2, h1, h2, h3⟩ => ⟨v, l2 ++ l1, h1, ⟨l2, h2, rfl⟩, hs'.part h3⟩⟩
end Go.SX
namespace Go.SX
open Go Go.RowKit
theorem PicksT.pur {φ : Prop} {cs l l1 : List Chunk} (h : φ) (k : PicksT cs l l1) : PicksT (pureC φ :: cs) l l1 := PicksT.triv (Triv.pure h) k
theorem PicksT.cutB {A : Option Addr} {c m n j : Nat} {T : TypeId} {bs : List UInt8} {cs l l1 l2 : List Chunk} (h : Pick (bO A c T n bs) l l1) (hm : m ≤ n) (he : j = m) (k : PicksT cs l1 l2) : PicksT (bO A c T m (bs.take j) :: cs) l l2 := by
  subst he
  exact PicksT.sub h (Sub.hiOwnB hm) k
theorem PicksT.snocBH {A Ax : Option Addr} {c n cx nx : Nat} {T Tu : TypeId} {hs : List BH} {bs : List UInt8} {cs l l1 l2 l3 l4 : List Chunk} (h1 : Pick (rowC A c T 1 n (recs BH.cell hs ++ [.slice Ax nx cx])) l l1) (h2 : Pick (starM (BH.own Tu) hs) l1 l2)
    (h3 : Pick (bO Ax cx Tu nx bs) l2 l3) (k : PicksT cs l3 l4) : PicksT (rowC A c T 1 n (recs BH.cell (hs ++ [⟨Ax, cx, nx, bs⟩])) :: starM (BH.own Tu) (hs ++ [⟨Ax, cx, nx, bs⟩]) :: cs) l l4 := by
  rw [recs_snoc]
  exact PicksT.cons h1 (PicksT.snocM h2 h3 k)
end Go.SX
namespace Go.SX
open Go Go.RowKit
/-- copy(x, y), from the head. -/
theorem Stp.copyIn0 {P : Program} {S : List Nat} {w0 : World} {r l l1 : List Chunk} {e : Env} {T : TypeId} {pos : String} {af : Array Edge} {gu : Option (Nat × Bool)} {d : Option Tmp} {t t' el : TypeId} {z : Value} {by_ n c m c' : Nat} {A A' : Option Addr} {us vs : List UInt8} {x y : Operand} [hu : Und P t (.slice el)] [hi : Inf P el z 1 by_]
    (hx : ev e x = some (.slice A n c)) (hy : ev e y = some (.slice A' m c')) (hp : Pick (bO A c el n us) l l1) (hr : Rd (bR A' c' m vs) (l1 ++ r)) (hm : m ≤ n) :
    Stp P S w0 r ⟨d, .call ⟨.builtin .copy, #[x, y], #[t, t']⟩, T, pos, af, gu⟩ e l (fun v l' => v = .int .i64 m ∧ l' = bO A c el n (vs ++ us.drop m) :: l1) := by
  have := Stp.copyInBq (P := P) (S := S) (w0 := w0) (r := r) (d := d) (T := T) (pos := pos) (af := af) (gu := gu) (t := t) (t' := t') (e := e) (l := l) (lo := 0) (q := n) (n := n) (c := c) (A := A) (x := x) (y := y) (by rw [subA_zero]; exact hx) hy hp hr (by omega) hm
  simpa using this
end Go.SX
namespace Go.SX
open Go Go.RowKit
/-- What a callee asks is shown behind the chunks. -/
theorem Spec.ask {P : Program} {f : FuncId} {args : List Value} {l r : List Chunk} {post : Value → List Chunk → Prop} {φ : Prop} (h : φ → Spec P f args l r post) : Spec P f args l (r ++ [pureC φ]) post :=
  ⟨fun w hs => by
    have hφ : φ := hs.ro (pureC φ) (by simp)
    have hs' : St (fps l) w w l r := { hs with ro := fun c hc => hs.ro c (List.mem_append_left _ hc), sepr := fun c hc d hd => hs.sepr c hc d (List.mem_append_left _ hd) }
    refine ((h hφ).out w hs').mono fun e w' ⟨v, l', h1, h2, h3⟩ => ⟨v, l', h1, h2, ?_⟩
    refine { h3 with ro := ?_, sepr := ?_ }
    · intro c hc
      rcases List.mem_append.1 hc with hc | hc
      · exact h3.ro c hc
      · obtain rfl := List.mem_singleton.1 hc; exact hφ
    · intro c hc d hd k hk
      rcases List.mem_append.1 hd with hd | hd
      · exact h3.sepr c hc d hd k hk
      · obtain rfl := List.mem_singleton.1 hd; simp [pureC]⟩
end Go.SX
namespace Go.SX
open Go Go.RowKit
theorem PicksT.refl : ∀ l : List Chunk, PicksT l l []
  | [] => .nil
  | _ :: l => .cons Pick.here (PicksT.refl l)
theorem ChLe.refl (l : List Chunk) : ChLe l l := ⟨[], PicksT.refl l⟩
/-- A loop that leaves the memory as it is. -/
theorem WC.loopS {P : Program} {n : Nat} {S : List Nat} {w0 : World} {r : List Chunk} {X : Type} (x0 : X) (p : X → Prop) (M : X → Env) (μ : X → Nat) (live : List Nat) {c : Code} {K : QS} {e : Env} {l : List Chunk}
    (hp : p x0) (h : restrK e live [] (fun rest => LoopQ P n S w0 r X x0 p (fun x => M x ++ rest) (fun _ => l) μ c K e l)) : WC P n S w0 r (.loop c) K e l := WC.loopL x0 p M (fun _ => l) μ live hp h
theorem bs_eq {hs ws : List BH} {k : Nat} (h : ws.map BH.bs = hs.map BH.bs) (hk : k < hs.length) : (nth hs k).bs = (nth ws k).bs := by
  have hl : ws.length = hs.length := by simpa using congrArg List.length h
  have : nth (ws.map BH.bs) k = nth (hs.map BH.bs) k := by rw [h]
  rw [nth_map (by omega), nth_map hk] at this
  exact this.symm
end Go.SX
namespace Go.SX
open Go Go.RowKit
theorem Sub.allAt' {α : Type} [Inhabited α] {g : α → Chunk} {xs : List α} {k : Nat} {c : Chunk} (hc : c = g (nth xs k)) (h : k < xs.length) : Sub c (allC (xs.map g)) := by rw [hc]; exact Sub.allAt h
theorem Sub.starMAt' {α : Type} [Inhabited α] {f : α → Chunk} {xs : List α} {k : Nat} {c : Chunk} (hc : c = f (nth xs k)) (h : k < xs.length) : Sub c (starM f xs) := by rw [hc]; exact Sub.starMAt h
end Go.SX
namespace Go.SX
open Go Go.RowKit
theorem Picks.refl : ∀ l : List Chunk, Picks l l []
  | [] => .nil
  | _ :: l => .cons Pick.here (Picks.refl l)
end Go.SX
namespace Go.SX
open Go Go.RowKit
theorem PicksT.asR {A : Option Addr} {c n s : Nat} {T : TypeId} {us : List Value} {cs l l1 l2 : List Chunk} (h : Pick (rowC A c T s n us) l l1) (k : PicksT cs l1 l2) : PicksT (sliceC A c s n us :: cs) l l2 :=
  PicksT.sub h Sub.row k
theorem PicksT.loR {A : Option Addr} {c n m q : Nat} {bs : List UInt8} {cs l l1 l2 : List Chunk} (h : Pick (bR A c n bs) l l1) (hq : q + m = n ∧ bs.length ≤ n) (k : PicksT cs l1 l2) : PicksT (bR (subA A c m 1) (c - m) q (bs.drop m) :: cs) l l2 :=
  PicksT.sub h (Sub.loBq hq) k
theorem chLeI {l l0 : List Chunk} (h : ChLe l l0) : ChLe l l0 := h
end Go.SX
/- The searches for chunks, as default arguments. -/
namespace Go.SX
open Go Go.RowKit
theorem rdA {c : Chunk} {l : List Chunk} (h : Rd c l := by (repeat (first | exact Rds.nil | refine Rds.cons ?_ ?_ | (refine Rd.triv (Triv.pure ?_); (focus (repeat' (first | (refine And.intro ?_ ?_) | (first | assumption | omega | (dsimp only; omega) | rfl | decide | (constructor <;> omega) | (simp only [List.length_take, List.length_append, List.length_map, List.length_singleton, List.length_nil, List.length_cons]; omega) | (simp; done) | (simp; omega) | (simp_all; done)))))) | exact Rd.triv Triv.nilB | exact Rd.triv Triv.nilI | exact Rd.here (Sub.refl _) | exact Rd.here Sub.row | exact Rd.here (Sub.hiB (by omega)) | exact Rd.here (Sub.loBq (by omega)) | exact Rd.here (Sub.cutBq (by omega)) | exact Rd.here (Sub.trans (Sub.hiB (by omega)) Sub.row) | exact Rd.here (Sub.trans (Sub.loBq (by omega)) Sub.row) | exact Rd.here (Sub.trans (Sub.cutBq (by omega)) Sub.row) | exact Rd.here (Sub.hiI (by omega)) | exact Rd.here (Sub.loIq (by omega)) | exact Rd.here (Sub.cutIq (by omega)) | exact Rd.here (Sub.trans (Sub.hiI (by omega)) Sub.row) | exact Rd.here (Sub.trans (Sub.loIq (by omega)) Sub.row) | exact Rd.here (Sub.trans (Sub.cutIq (by omega)) Sub.row) | exact Rd.here (Sub.loB (by omega)) | exact Rd.here (Sub.cutB (by omega)) | exact Rd.here (Sub.trans (Sub.loB (by omega)) Sub.row) | exact Rd.here (Sub.trans (Sub.cutB (by omega)) Sub.row) | exact Rd.here (Sub.loI (by omega)) | exact Rd.here (Sub.cutI (by omega)) | exact Rd.here (Sub.trans (Sub.loI (by omega)) Sub.row) | exact Rd.here (Sub.trans (Sub.cutI (by omega)) Sub.row) | exact Rd.triv Triv.nilSlice | exact Rd.here (Sub.allAt' rfl (by omega)) | exact Rd.here (Sub.trans (Sub.hiB (by omega)) (Sub.allAt' rfl (by omega))) | exact Rd.here (Sub.trans Sub.row (Sub.starMAt' rfl (by omega))) | exact Rd.here (Sub.trans (Sub.hiB (by omega)) (Sub.trans Sub.row (Sub.starMAt' rfl (by omega)))) | refine Rd.there ?_)); fail_if_success (focus skip)) : Rd c l := h
theorem rdsA {cs l : List Chunk} (h : Rds cs l := by (repeat (first | exact Rds.nil | refine Rds.cons ?_ ?_ | (refine Rd.triv (Triv.pure ?_); (focus (repeat' (first | (refine And.intro ?_ ?_) | (first | assumption | omega | (dsimp only; omega) | rfl | decide | (constructor <;> omega) | (simp only [List.length_take, List.length_append, List.length_map, List.length_singleton, List.length_nil, List.length_cons]; omega) | (simp; done) | (simp; omega) | (simp_all; done)))))) | exact Rd.triv Triv.nilB | exact Rd.triv Triv.nilI | exact Rd.here (Sub.refl _) | exact Rd.here Sub.row | exact Rd.here (Sub.hiB (by omega)) | exact Rd.here (Sub.loBq (by omega)) | exact Rd.here (Sub.cutBq (by omega)) | exact Rd.here (Sub.trans (Sub.hiB (by omega)) Sub.row) | exact Rd.here (Sub.trans (Sub.loBq (by omega)) Sub.row) | exact Rd.here (Sub.trans (Sub.cutBq (by omega)) Sub.row) | exact Rd.here (Sub.hiI (by omega)) | exact Rd.here (Sub.loIq (by omega)) | exact Rd.here (Sub.cutIq (by omega)) | exact Rd.here (Sub.trans (Sub.hiI (by omega)) Sub.row) | exact Rd.here (Sub.trans (Sub.loIq (by omega)) Sub.row) | exact Rd.here (Sub.trans (Sub.cutIq (by omega)) Sub.row) | exact Rd.here (Sub.loB (by omega)) | exact Rd.here (Sub.cutB (by omega)) | exact Rd.here (Sub.trans (Sub.loB (by omega)) Sub.row) | exact Rd.here (Sub.trans (Sub.cutB (by omega)) Sub.row) | exact Rd.here (Sub.loI (by omega)) | exact Rd.here (Sub.cutI (by omega)) | exact Rd.here (Sub.trans (Sub.loI (by omega)) Sub.row) | exact Rd.here (Sub.trans (Sub.cutI (by omega)) Sub.row) | exact Rd.triv Triv.nilSlice | exact Rd.here (Sub.allAt' rfl (by omega)) | exact Rd.here (Sub.trans (Sub.hiB (by omega)) (Sub.allAt' rfl (by omega))) | exact Rd.here (Sub.trans Sub.row (Sub.starMAt' rfl (by omega))) | exact Rd.here (Sub.trans (Sub.hiB (by omega)) (Sub.trans Sub.row (Sub.starMAt' rfl (by omega)))) | refine Rd.there ?_)); fail_if_success (focus skip)) : Rds cs l := h
theorem pkA {c : Chunk} {l l' : List Chunk} (h : Pick c l l' := by (repeat constructor); fail_if_success (focus skip)) : Pick c l l' := h
theorem picksA {ls l l' : List Chunk} (h : Picks ls l l' := by (repeat constructor); fail_if_success (focus skip)) : Picks ls l l' := h
theorem pksA {cs l l' : List Chunk} (h : PicksT cs l l' := by (repeat (first | exact PicksT.nil | (apply PicksT.cons; (focus ((repeat constructor); done))) | (apply PicksT.triv Triv.nilRow) | (apply PicksT.triv Triv.starM0) | (apply PicksT.pur; (focus (first | trivial | omega | (refine ⟨?_, ?_⟩ <;> (first | rfl | trivial | assumption | omega | (simp only [List.length_take, List.length_append, List.length_map, List.length_singleton, List.length_nil, List.length_cons, Nat.min_def]; omega) | (simp only [List.length_take, List.length_append, List.length_map, List.length_singleton, List.length_nil, List.length_cons, Nat.min_def]; split <;> omega) | (simp; done) | (simp; omega) | (simp_all; done) | (simp_all; omega))) | (refine ⟨?_, ?_, ?_⟩ <;> (first | rfl | trivial | assumption | omega | (simp only [List.length_take, List.length_append, List.length_map, List.length_singleton, List.length_nil, List.length_cons, Nat.min_def]; omega) | (simp only [List.length_take, List.length_append, List.length_map, List.length_singleton, List.length_nil, List.length_cons, Nat.min_def]; split <;> omega) | (simp; done) | (simp; omega) | (simp_all; done) | (simp_all; omega))) | (refine ⟨?_, ?_, ?_, ?_⟩ <;> (first | rfl | trivial | assumption | omega | (simp only [List.length_take, List.length_append, List.length_map, List.length_singleton, List.length_nil, List.length_cons, Nat.min_def]; omega) | (simp only [List.length_take, List.length_append, List.length_map, List.length_singleton, List.length_nil, List.length_cons, Nat.min_def]; split <;> omega) | (simp; done) | (simp; omega) | (simp_all; done) | (simp_all; omega))) | (first | rfl | trivial | assumption | omega | (simp only [List.length_take, List.length_append, List.length_map, List.length_singleton, List.length_nil, List.length_cons, Nat.min_def]; omega) | (simp only [List.length_take, List.length_append, List.length_map, List.length_singleton, List.length_nil, List.length_cons, Nat.min_def]; split <;> omega) | (simp; done) | (simp; omega) | (simp_all; done) | (simp_all; omega))))) | (apply PicksT.cutB; (focus ((repeat constructor); done)); (focus first | omega | (dsimp only; omega)); (focus first | omega | (dsimp only; omega))) | (apply PicksT.snocBH; (focus ((repeat constructor); done)); (focus ((repeat constructor); done)); (focus ((repeat constructor); done))) | (apply PicksT.triv Triv.nilB) | (apply PicksT.triv Triv.nilSlice) | (apply PicksT.asR; (focus ((repeat constructor); done))) | (apply PicksT.loR; (focus ((repeat constructor); done)); (focus first | omega | (constructor <;> omega) | (simp; omega))) | (apply PicksT.star))); fail_if_success (focus skip)) : PicksT cs l l' := h
end Go.SX
/- Ranges over a function: rounds, calls of yield, the statement. -/
namespace Go.SX
open Go Go.RowKit
theorem Rds.up {cs l : List Chunk} {d : Chunk} (h : Rds cs l) : Rds cs (d :: l) := by
  induction h with
  | nil => exact .nil
  | cons h _ ih => exact .cons (.there h) ih
def objC (l : Nat) (o : Obj) : Chunk where
  fp := [l]
  holds w := w.heap[l]? = some o
  loc := fun w w' hk h => by rw [hk l (by simp)]; exact h
  lt := fun w h k hk => by obtain rfl := List.mem_singleton.1 hk; exact (Array.getElem?_eq_some_iff.1 h).1
/-- The loop's record. -/
def recS (st : LoopState) (pe : Option Code) (fn : FuncId) (tmps : Array Value) (ps : Array Tmp) (assign body : Code) (D : Nat) : Loop :=
  { state := st, pending := pe, fn, tmps, params := ps, assign, body, defers := D }
def loopC (l : Nat) (R : Loop) : Chunk := objC l (.loop R)
def markC (D : Nat) : Chunk := objC D (.deferred (some []))
theorem St.putObj {S : List Nat} {w0 w : World} {l0 : Nat} {o o' : Obj} {l l1 r : List Chunk} (hs : St S w0 w l r) (hp : Pick (objC l0 o) l l1) : St S w0 (w.putObj l0 o') (objC l0 o' :: l1) r := by
  have hg : w.heap[l0]? = some o := hs.own _ (hp.perm.mem_iff.2 List.mem_cons_self)
  refine hs.write hp rfl rfl rfl (by simp) (fun k _ hk => World.putObj_heap_other (fun h => hk (by simp [objC, h]))) ?_ (fun k hk => .inl hk)
  exact World.putObj_heap_same (Array.getElem?_eq_some_iff.1 hg).1
/-- What a call of yield does: one round of the loop whose record lies in block l0. -/
structure YSpec (P : Program) (l0 : Nat) (args : List Value) (l r : List Chunk) (post : Value → List Chunk → Prop) : Prop where
  out : ∀ w, St (fps l) w w l r → ∀ ρ, YieldAt (Fz ρ) 0 P l0 args.toArray w fun e w' => ∃ v l', e = .returned v ∧ post v l' ∧ St (fps l) w w' l' r
theorem YSpec.mono {P : Program} {l0 : Nat} {args : List Value} {l r : List Chunk} {post post' : Value → List Chunk → Prop} (h : YSpec P l0 args l r post) (hp : ∀ v l', post v l' → post' v l') : YSpec P l0 args l r post' :=
  ⟨fun w hs ρ => let ⟨fn, tmps, assign, body, hy, hR⟩ := h.out w hs ρ; ⟨fn, tmps, assign, body, hy, hR.mono fun e w' ⟨v, l', h1, h2, h3⟩ => ⟨v, l', h1, hp v l' h2, h3⟩⟩⟩
section
variable {P : Program} {S : List Nat} {w0 : World} {r : List Chunk} {e : Env} {l cs : List Chunk} {T : TypeId} {pos : String} {af : Array Edge} {gu : Option (Nat × Bool)} {d : Option Tmp}
theorem StpY.yield {l0 : Nat} {xs : List Operand} {vs : List Value} {ts : Array TypeId} {y : Operand} {lc l1 r0 : List Chunk} {post : Value → List Chunk → Prop}
    (hy : ev e y = some (.func (.yield l0) #[] #[])) (hx : evs e xs = some vs) (hsp : YSpec P l0 vs lc r0 post) (hp : PicksT lc l l1) (hr : Rds r0 (l1 ++ r)) :
    StpY P S w0 r ⟨d, .call ⟨.value y, xs.toArray, ts⟩, T, pos, af, gu⟩ e l (fun v l' => ∃ l2, post v l2 ∧ l' = l2 ++ l1) := by
  refine ⟨fun n a w K Q he hs h ρ => ⟨fun _ _ => trivial, ?_⟩⟩
  have hs' := hs.picksT hp
  obtain ⟨fn, tmps, assign, body, hrun, hround⟩ := hsp.out w (hs'.handed hr) ρ
  rw [Oper.semAt_eq _ _ _ (by intro _ hq; cases hq)]
  have hargs : (xs.map a.eval).toArray = vs.toArray := by rw [he.evals hx]
  have hex : (execOp a.eval ⟨d, .call ⟨.value y, xs.toArray, ts⟩, T, pos, af, gu⟩).run P w = .ok (.round l0 fn tmps assign body) w := by
    rw [← hrun]
    simp [execOp, resolve, he.eval hy, Deferred.ofValue, invoke, hargs]
  rw [hex, Oper.uponIn_round]
  refine ⟨fun hd => by simp [Fz] at hd, hround.mono fun en w' hen => ?_⟩
  obtain ⟨v, l2, rfl, hpost, hst⟩ := hen
  exact ⟨put_ds _ _ _, h v (l2 ++ l1) w' ⟨l2, hpost, rfl⟩ (hs'.part hst)⟩
end
/-! ### A round, out of the walks of the assignment and of the body -/
def setPs : List Tmp → List Value → Env → Env
  | p :: ps, v :: vs, e => setPs ps vs ((p, v) :: e)
  | _, _, e => e
theorem setPs_ok {n : Nat} {tmps : Array Value} : ∀ (ps : List Tmp) (vs : List Value) (e : Env) (t : Array Value), (ps.all fun p => Nat.blt p n) = true → EnvOK n { tmps := t, defers := [] } e →
    EnvOK n { tmps := (ps.zip vs).foldl (fun t (q : Tmp × Value) => t.setIfInBounds q.1 q.2) t, defers := [] } (setPs ps vs e) := by
  intro ps
  induction ps with
  | nil => intro vs e t _ he; simpa [setPs] using he
  | cons p ps ih =>
    intro vs e t hp he
    cases vs with
    | nil => simpa [setPs] using he
    | cons v vs =>
      simp only [List.all_cons, Bool.and_eq_true] at hp
      exact ih vs _ _ hp.2 (he.put hp.1 v)
def botK : QS := fun _ _ _ => False
/-- How a body may leave its round: off its end, by 'return', by 'break'. -/
def roundK (l0 : Nat) (R : LoopState → Option Code → Loop) (post : Value → List Chunk → Prop) : QS
  | .normal, _, l => ∃ l1, ChLe l (loopC l0 (R .busy none) :: l1) ∧ post (.bool true) (loopC l0 (R .ready none) :: l1)
  | .ret, _, l => ∃ l1, ChLe l (loopC l0 (R .busy none) :: l1) ∧ post (.bool false) (loopC l0 (R .done (some .ret)) :: l1)
  | .exit i, _, l => ∃ l1, ChLe l (loopC l0 (R .busy none) :: l1) ∧ post (.bool false) (loopC l0 (R .done (some (.exit i))) :: l1)
  | _, _, _ => False
def assignK (P : Program) (n : Nat) (S : List Nat) (w0 : World) (r : List Chunk) (l0 : Nat) (R : LoopState → Option Code → Loop) (body : Code) (post : Value → List Chunk → Prop) : QS
  | .normal, e, l => ∃ l1, ChLe l (loopC l0 (R .ready none) :: l1) ∧ WC P n S w0 r body (roundK l0 R post) e (loopC l0 (R .busy none) :: l1)
  | _, _, _ => False
theorem YSpec.intro {P : Program} {n l0 D : Nat} {fn : FuncId} {tmps : Array Value} {ps : List Tmp} {assign body : Code} {args : List Value} {ls r : List Chunk} {post : Value → List Chunk → Prop} {e : Env}
    (he : EnvOK n { tmps := tmps, defers := [] } e) (hps : (ps.all fun p => Nat.blt p n) = true) (hlen : Nat.beq ps.length args.length = true)
    (h : ∀ S w0, WC P n S w0 r assign (assignK P n S w0 r l0 (fun st pe => recS st pe fn tmps ps.toArray assign body D) body post) (setPs ps args e) (loopC l0 (recS .ready none fn tmps ps.toArray assign body D) :: ls)) :
    YSpec P l0 args (loopC l0 (recS .ready none fn tmps ps.toArray assign body D) :: ls) r post := by
  refine ⟨fun w hs ρ => ?_⟩
  have hl : w.heap[l0]? = some (.loop (recS .ready none fn tmps ps.toArray assign body D)) := hs.own (loopC l0 _) (List.mem_cons_self)
  have hlen' : args.length = ps.length := (Nat.eq_of_beq_eq_true hlen).symm
  have hy := run_yield (P := P) (args := args.toArray) hl (by simp [recS, hlen'])
  refine ⟨_, _, _, _, hy, ?_⟩
  have hok := setPs_ok (tmps := tmps) ps args e tmps hps he
  have hz : (((recS .ready none fn tmps ps.toArray assign body D).params.zip args.toArray).foldl (fun tmps (q : Tmp × Value) => tmps.setIfInBounds q.1 q.2) (recS .ready none fn tmps ps.toArray assign body D).tmps) =
      (ps.zip args).foldl (fun t (q : Tmp × Value) => t.setIfInBounds q.1 q.2) tmps := by simp [recS]
  refine roundIn_of_wpIn (F := Fz ρ) (n := 0) trivial ?_
  show assign.wpIn (Fz (some l0)) 0 P _ { tmps := ((recS .ready none fn tmps ps.toArray assign body D).params.zip args.toArray).foldl (fun tmps (q : Tmp × Value) => tmps.setIfInBounds q.1 q.2) (recS .ready none fn tmps ps.toArray assign body D).tmps, defers := [] } w
  rw [hz]
  refine wpIn_mono ((h _ w).out _ w hok hs (some l0)) fun x a1 w1 hq => ?_
  obtain ⟨hds, hq⟩ := hq
  cases x with
  | panic c => exact hq.elim
  | outgrown => exact hq.elim
  | exit i => obtain ⟨_, _, hk, _⟩ := hq; exact hk.elim
  | goto i => obtain ⟨_, _, hk, _⟩ := hq; exact hk.elim
  | ret => obtain ⟨_, _, hk, _⟩ := hq; exact hk.elim
  | normal =>
    obtain ⟨e1, l1, ⟨l2, hle, hbody⟩, he1, hs1⟩ := hq
    have hs2 := hs1.le hle
    have hl2 : w1.heap[l0]? = some (.loop (recS .ready none fn tmps ps.toArray assign body D)) := hs2.own (loopC l0 _) (List.mem_cons_self)
    refine ⟨_, run_beginRound hl2 rfl, ?_⟩
    have hs3 : St (fps (loopC l0 (recS .ready none fn tmps ps.toArray assign body D) :: ls)) w (w1.putObj l0 (.loop (recS .busy none fn tmps ps.toArray assign body D))) (loopC l0 (recS .busy none fn tmps ps.toArray assign body D) :: l2) r := hs2.putObj .here
    refine wpIn_mono (hbody.out a1 _ he1 hs3 (some l0)) fun x a3 w3 hq3 => ?_
    obtain ⟨_, hq3⟩ := hq3
    have fin : ∀ (jump : Option Code) (l3 lx : List Chunk), St (fps (loopC l0 (recS .ready none fn tmps ps.toArray assign body D) :: ls)) w w3 l3 r → ChLe l3 (loopC l0 (recS .busy none fn tmps ps.toArray assign body D) :: lx) →
        ∃ w4, (Instr.endRound l0 jump).run P w3 = .ok (.bool jump.isNone) w4 ∧ St (fps (loopC l0 (recS .ready none fn tmps ps.toArray assign body D) :: ls)) w w4 (loopC l0 (recS (if jump.isNone then .ready else .done) jump fn tmps ps.toArray assign body D) :: lx) r := by
      intro jump l3 lx hs3 hle3
      have hs4 := hs3.le hle3
      have hl4 : w3.heap[l0]? = some (.loop (recS .busy none fn tmps ps.toArray assign body D)) := hs4.own (loopC l0 _) (List.mem_cons_self)
      exact ⟨_, run_endRound jump hl4, hs4.putObj .here⟩
    cases x with
    | panic c => exact hq3.elim
    | outgrown => exact hq3.elim
    | goto i => obtain ⟨_, _, hk, _⟩ := hq3; exact hk.elim
    | normal =>
      obtain ⟨e3, l3, ⟨lx, hle3, hpost⟩, he3, hs3⟩ := hq3
      obtain ⟨w4, hr, hs4⟩ := fin none l3 lx hs3 hle3
      exact ⟨_, _, hr, _, _, rfl, hpost, hs4⟩
    | ret =>
      obtain ⟨e3, l3, ⟨lx, hle3, hpost⟩, he3, hs3⟩ := hq3
      obtain ⟨w4, hr, hs4⟩ := fin (some .ret) l3 lx hs3 hle3
      exact ⟨_, _, hr, _, _, rfl, hpost, hs4⟩
    | exit i =>
      obtain ⟨e3, l3, ⟨lx, hle3, hpost⟩, he3, hs3⟩ := hq3
      obtain ⟨w4, hr, hs4⟩ := fin (some (.exit i)) l3 lx hs3 hle3
      exact ⟨_, _, hr, _, _, rfl, hpost, hs4⟩
/-! ### Functions that hold one such loop -/
section
variable {P : Program} {n : Nat} {S : List Nat} {w0 : World} {r : List Chunk}
def denR (n : Nat) (S : List Nat) (w0 : World) (r : List Chunk) (K0 : QS) (K1 : Nat → QS) : Exit → Act → World → Prop := fun x a w =>
  (a.defers = [] ∧ den n S w0 r K0 x a w) ∨ ∃ D, a.defers = [{ target := .collected D, args := #[] }] ∧ den n S w0 r (K1 D) x a w
/-- Code ahead of the loop, with the loop in it. -/
structure WT (P : Program) (n : Nat) (S : List Nat) (w0 : World) (r : List Chunk) (c : Code) (K0 : QS) (K1 : Nat → QS) (e : Env) (l : List Chunk) : Prop where
  out : ∀ a w, EnvOK n a e → a.defers = [] → St S w0 w l r → c.wpIn Fence.wide 0 P (denR n S w0 r K0 K1) a w
theorem WT.of {c : Code} {K0 : QS} {K1 : Nat → QS} {e : Env} {l : List Chunk} (h : WC P n S w0 r c K0 e l) : WT P n S w0 r c K0 K1 e l :=
  ⟨fun a w he hd hs => wpIn_mono (h.out a w he hs none) fun x a' w' hq => .inl ⟨hq.1.trans hd, hq.2⟩⟩
theorem WT.seq {x y : Code} {K0 : QS} {K1 : Nat → QS} {e : Env} {l : List Chunk}
    (h : WT P n S w0 r x (thenK (fun e l => WT P n S w0 r y K0 K1 e l) K0) (fun D => thenK (fun e l => WC P n S w0 r y (K1 D) e l) (K1 D)) e l) : WT P n S w0 r (x.seq y) K0 K1 e l := by
  refine ⟨fun a w he hd hs => wpIn_seq (wpIn_mono (h.out a w he hd hs) fun ex a' w' hq => ?_)⟩
  rcases hq with ⟨hd', hq⟩ | ⟨D, hd', hq⟩
  · cases ex with
    | normal => obtain ⟨e', l', hk, he', hs'⟩ := hq; exact hk.out a' w' he' hd' hs'
    | panic c => exact hq.elim
    | outgrown => exact hq.elim
    | exit i => exact .inl ⟨hd', hq⟩
    | goto i => exact .inl ⟨hd', hq⟩
    | ret => exact .inl ⟨hd', hq⟩
  · cases ex with
    | normal => obtain ⟨e', l', hk, he', hs'⟩ := hq; exact wpIn_mono (hk.out a' w' he' hs' none) fun x a2 w2 hq2 => .inr ⟨D, hq2.1.trans hd', hq2.2⟩
    | panic c => exact hq.elim
    | outgrown => exact hq.elim
    | exit i => exact .inr ⟨D, hd', hq⟩
    | goto i => exact .inr ⟨D, hd', hq⟩
    | ret => exact .inr ⟨D, hd', hq⟩
theorem WT.conv {c : Code} {K0 : QS} {K1 : Nat → QS} {e e' : Env} {l l' : List Chunk} (he : EnvLe e e') (hl : ChLe l l') (h : WT P n S w0 r c K0 K1 e' l') : WT P n S w0 r c K0 K1 e l :=
  ⟨fun a w ho hd hs => h.out a w (ho.le he) hd (hs.le hl)⟩
/-- A block around the loop ('break' leaves it). -/
theorem WT.block {id : Nat} {c : Code} {K0 : QS} {K1 : Nat → QS} {e : Env} {l : List Chunk} (h : WT P n S w0 r c (blockK id K0) (fun D => blockK id (K1 D)) e l) : WT P n S w0 r (.block id c) K0 K1 e l := by
  have key : ∀ (K : QS) (x : Exit) (a : Act) (w : World), den n S w0 r (blockK id K) x a w → Exit.inBlock id (den n S w0 r K) x a w := by
    intro K x a w hq
    cases x with
    | exit i =>
      obtain ⟨e', l', hk, he', hs'⟩ := hq
      simp only [blockK] at hk
      simp only [Exit.inBlock]
      split at hk
      · rename_i hb; rw [if_pos (Nat.eq_of_beq_eq_true hb)]; exact ⟨e', l', hk, he', hs'⟩
      · rename_i hb; rw [if_neg (Nat.ne_of_beq_eq_false hb)]; exact ⟨e', l', hk, he', hs'⟩
    | panic c => exact hq.elim
    | outgrown => exact hq.elim
    | normal => exact hq
    | goto i => exact hq
    | ret => exact hq
  refine ⟨fun a w he hd hs => wpIn_block (wpIn_mono (h.out a w he hd hs) fun ex a' w' hq => ?_)⟩
  have key2 : ∀ (A B : Exit → Act → World → Prop) (x : Exit) (a : Act) (w : World), (∀ x a w, A x a w → B x a w) → Exit.inBlock id A x a w → Exit.inBlock id B x a w := by
    intro A B x a w hAB hx
    cases x with
    | exit i => simp only [Exit.inBlock] at hx ⊢; split at hx <;> rename_i hi <;> simp only [hi, if_true, if_false] <;> exact hAB _ _ _ hx
    | _ => exact hAB _ _ _ hx
  rcases hq with ⟨hd', hq⟩ | ⟨D, hd', hq⟩
  · have := key K0 ex a' w' hq
    cases ex with
    | exit i => simp only [Exit.inBlock] at this ⊢; split at this <;> rename_i hi <;> simp only [hi, if_true, if_false] <;> exact .inl ⟨hd', this⟩
    | _ => exact .inl ⟨hd', this⟩
  · have := key (K1 D) ex a' w' hq
    cases ex with
    | exit i => simp only [Exit.inBlock] at this ⊢; split at this <;> rename_i hi <;> simp only [hi, if_true, if_false] <;> exact .inr ⟨D, hd', this⟩
    | _ => exact .inr ⟨D, hd', this⟩
/-- THE STATEMENT. -/
theorem WT.range {g : Operand} {ps : List Tmp} {assign body : Code} {K0 : QS} {K1 : Nat → QS} {e : Env} {l ls l1 rs : List Chunk} {gf : Nat} {lb : List Value} {M : List Chunk → Prop} [hf : Fun P gf]
    (hg : ev e g = some (.func (.func gf) #[] lb.toArray)) (hp : PicksT ls l l1) (hr : Rds rs (l1 ++ r))
    (h : ∀ l0 D fn tmps, EnvOK n { tmps := tmps, defers := [] } e → Spec P gf (.func (.yield l0) #[] #[] :: lb) (loopC l0 (recS .ready none fn tmps ps.toArray assign body D) :: ls) rs
      (fun _ l' => ∃ l2, l' = loopC l0 (recS .ready none fn tmps ps.toArray assign body D) :: l2 ∧ M l2))
    (hk : ∀ D l2, M l2 → K1 D .normal e (markC D :: l2 ++ l1)) : WT P n S w0 r (.rangeFunc g ps.toArray assign body) K0 K1 e l := by
  obtain ⟨fn', c', hf1, hf2, hf3⟩ := hf.ex
  refine ⟨fun a w he hd hs => wpIn_rangeFunc fun fn _ => ?_⟩
  have hs1 : St S w0 (w.alloc (.deferred (some []))) (markC w.heap.size :: (ls ++ l1)) r := St.newC (hs.picksT hp) _ (World.alloc_heap_new w _) (fun k hk => by simpa [markC, objC] using hk)
  have hs2 : St S w0 ((w.alloc (.deferred (some []))).alloc (.loop (recS .ready none fn a.tmps ps.toArray assign body w.heap.size))) (loopC (w.heap.size + 1) (recS .ready none fn a.tmps ps.toArray assign body w.heap.size) :: markC w.heap.size :: (ls ++ l1)) r :=
    St.newC hs1 _ (by have := World.alloc_heap_new (w.alloc (.deferred (some []))) (.loop (recS .ready none fn a.tmps ps.toArray assign body w.heap.size)); rwa [World.size_alloc] at this) (fun k hk => by simpa [loopC, objC] using hk)
  have hs3 : St S w0 _ ((loopC (w.heap.size + 1) (recS .ready none fn a.tmps ps.toArray assign body w.heap.size) :: ls) ++ (markC w.heap.size :: l1)) r := hs2.perm (by
    refine List.Perm.cons _ ?_
    exact (List.perm_middle (l₁ := ls) (a := markC w.heap.size) (l₂ := l1)).symm)
  have hcall := (h (w.heap.size + 1) w.heap.size fn a.tmps ⟨he.size, he.at_⟩).out _ (hs3.handed (r0 := rs) hr.up)
  refine ⟨w.heap.size + 1, [{ target := .collected w.heap.size, args := #[] }], _, { target := .fn (.func gf) lb.toArray, args := #[.func (.yield (w.heap.size + 1)) #[] #[]] }, (w.alloc (.deferred (some []))).alloc (.loop (recS .ready none fn a.tmps ps.toArray assign body w.heap.size)), gf,
    (.func (.yield (w.heap.size + 1)) #[] #[] :: lb).toArray, (w.alloc (.deferred (some []))).alloc (.loop (recS .ready none fn a.tmps ps.toArray assign body w.heap.size)), run_enterLoop_outer _ _ _ _ _, ?_, fun _ _ => trivial, ?_, fun hn => by simp [Fence.wide] at hn, callsIn_wide.2 (hcall.mono ?_)⟩
  · have hev : ∀ v, a.eval (.const v) = v := fun _ => rfl
    simp only [resolve, he.eval hg]
    simp [Deferred.ofValue, hev, recS]
  · have hn' : ¬ fn'.name = "runtime.NumGoroutine" := by simpa using hf3
    simp [invoke, callFunc, hf1, hf2, hn']
  · rintro en w2 ⟨v, l', rfl, ⟨l2, rfl, hM⟩, hst⟩
    have hs4 := hs3.part hst
    have hl4 : w2.heap[w.heap.size + 1]? = some (.loop (recS .ready none fn a.tmps ps.toArray assign body w.heap.size)) := hs4.own (loopC _ _) (List.mem_cons_self)
    refine ⟨none, _, run_endLoop hl4 (by simp [recS]), ?_⟩
    have hs5 : St S w0 (w2.putObj (w.heap.size + 1) (.loop (recS .exhausted none fn a.tmps ps.toArray assign body w.heap.size))) (objC (w.heap.size + 1) (.loop (recS .exhausted none fn a.tmps ps.toArray assign body w.heap.size)) :: (l2 ++ (markC w.heap.size :: l1))) r := St.putObj hs4 .here
    refine .inr ⟨w.heap.size, by simp [hd], ?_⟩
    have hs6 := hs5.weakdrop.perm ((List.perm_middle (l₁ := l2) (a := markC w.heap.size) (l₂ := l1)))
    exact ⟨e, _, hk _ _ hM, ⟨he.size, he.at_⟩, hs6⟩
def retR (P : Program) (rs : List ResultVar) (post : Value → List Chunk → Prop) (D : Nat) : QS
  | .ret, e, l => ∃ l1, ChLe l (markC D :: l1) ∧ ∃ vs, resM P e l1 rs vs ∧ ∃ l', post (tup vs) l' ∧ ChLe l1 l'
  | .normal, e, l => ∃ l1, ChLe l (markC D :: l1) ∧ ∃ vs, resM P e l1 rs vs ∧ ∃ l', post (tup vs) l' ∧ ChLe l1 l'
  | _, _, _ => False
theorem Spec.introR {P : Program} {f : FuncId} {fn : Func} {c : Code} {args : List Value} {l r : List Chunk} {post : Value → List Chunk → Prop} {rs : List ResultVar} {n : Nat}
    (hf : P.funcs[f]? = some fn) (hb : fn.body = some c) (hr : fn.results = rs.toArray) (hn : fn.ntmps = n) (ha : Nat.ble args.length n = true)
    (h : ∀ w0, WT P n (fps l) w0 r c (retM P rs post) (retR P rs post) (envOf 0 args) l) : Spec P f args l r post := by
  refine ⟨fun w hs => ?_⟩
  have ha' : args.length ≤ n := Nat.le_of_ble_eq_true ha
  refine callsIn_wide.1 (callsIn_of_wp_marks (F := Fence.wide) (n := 0) hf hb trivial ?_ rfl)
  rw [hn]
  have hok : EnvOK n { tmps := args.toArray ++ Array.replicate (n - args.toArray.size) undef, defers := [] } (envOf 0 args) := by
    refine ⟨by simp; omega, fun t v hv => ?_⟩
    obtain ⟨_, h2⟩ := envOf_look args 0 t v hv
    have h2 : args[t]? = some v := by simpa using h2
    have hlt : t < args.length := (List.getElem?_eq_some_iff.1 h2).1
    show (args.toArray ++ Array.replicate _ undef)[t]? = some v
    rw [Array.getElem?_append_left (by simpa using hlt)]
    simpa using h2
  refine wpIn_mono ((h w).out _ w hok rfl hs) fun x a w' hq => ?_
  rcases hq with ⟨hds, hq⟩ | ⟨D, hds, hq⟩
  · cases x with
    | panic c => exact hq.elim
    | outgrown => exact hq.elim
    | exit i => obtain ⟨e, l', hk, _⟩ := hq; exact hk.elim
    | goto i => obtain ⟨e, l', hk, _⟩ := hq; exact hk.elim
    | _ =>
      obtain ⟨e, l', ⟨vs, hv, l2, hp, hl⟩, he, hs'⟩ := hq
      show LeavesInM _ _ _ _ _ _ a.defers .returning w'
      rw [hds]
      exact ⟨tup vs, run_resM he hs'.own hr hv, tup vs, l2, rfl, hp, hs'.le hl⟩
  · cases x with
    | panic c => exact hq.elim
    | outgrown => exact hq.elim
    | exit i => obtain ⟨e, l', hk, _⟩ := hq; exact hk.elim
    | goto i => obtain ⟨e, l', hk, _⟩ := hq; exact hk.elim
    | _ =>
      obtain ⟨e, l', ⟨l1, hle, vs, hv, l2, hp, hl⟩, he, hs'⟩ := hq
      have hs2 := hs'.le hle
      have hm : w'.heap[D]? = some (.deferred (some [])) := hs2.own (markC D) (List.mem_cons_self)
      have hs3 : St (fps _) w (w'.putObj D (.deferred none)) l1 r := St.weakdrop (St.putObj (o' := .deferred none) hs2 .here)
      show LeavesInM _ _ _ _ _ _ a.defers .returning w'
      rw [hds]
      exact ⟨by simp, .inl ⟨D, _, rfl, run_takeDeferred hm, tup vs, run_resM he hs3.own hr hv, tup vs, l2, rfl, hp, hs3.le hl⟩⟩
end
/-! ### A loop that is walked round by round -/
section
variable {P : Program} {n : Nat} {S : List Nat} {w0 : World} {r : List Chunk}
structure WL (P : Program) (n : Nat) (S : List Nat) (w0 : World) (r : List Chunk) (c : Code) (K : QS) (e : Env) (l : List Chunk) : Prop where
  out : ∀ a w, EnvOK n a e → St S w0 w l r → ∀ ρ (b : Frame) (ks : List Item) (cs : List Frame), b.roundOf = ρ →
    ∃ ex a' w', DQ a.defers (den n S w0 r K) ex a' w' ∧ ArrivesIn (Machine.fenced P (Fz ρ)) P (lone (b.atR a (.code c :: .inLoop c :: ks)) cs w) b ks cs ex a' w'
theorem WC.loopU {c : Code} {K : QS} {e : Env} {l : List Chunk} (h : WL P n S w0 r c K e l) : WC P n S w0 r (.loop c) K e l :=
  ⟨fun a w ho hs ρ b ks cs hb _ _ => let ⟨ex, a', w', hq, harr⟩ := h.out a w ho hs ρ b ks cs hb
    ⟨ex, a', w', hq, .of_steps (.one (fenced_calm (F := Fz ρ) (n := 0) trivial (fz_room ρ _) rfl) stepR_loop) harr⟩⟩
theorem WL.step {c : Code} {K : QS} {e : Env} {l : List Chunk} (h : WC P n S w0 r c (thenK (fun e l => WL P n S w0 r c K e l) K) e l) : WL P n S w0 r c K e l := by
  refine ⟨fun a w ho hs ρ b ks cs hb => ?_⟩
  obtain ⟨ex, a2, w2, ⟨hd, hq⟩, harr⟩ := h.out a w ho hs ρ b (.inLoop c :: ks) cs hb trivial (fz_room ρ _)
  cases ex with
  | normal =>
    obtain ⟨e', l', hWL, ho', hs'⟩ := hq
    obtain ⟨e2, a3, w3, ⟨hd2, hq2⟩, harr2⟩ := hWL.out a2 w2 ho' hs' ρ b ks cs hb
    exact ⟨e2, a3, w3, ⟨hd2.trans hd, hq2⟩, .of_steps (StepsIn.trans harr (.one (fenced_calm (F := Fz ρ) (n := 0) trivial (fz_room ρ _) rfl) stepR_inLoop)) harr2⟩
  | exit id => exact ⟨.exit id, a2, w2, ⟨hd, hq⟩, .pass (x := .inLoop c) rfl (fun _ _ => .inl (by simp)) harr⟩
  | goto i => exact ⟨.goto i, a2, w2, ⟨hd, hq⟩, .pass (x := .inLoop c) rfl (fun _ _ => .inl (by simp)) harr⟩
  | ret => exact ⟨.ret, a2, w2, ⟨hd, hq⟩, .pass (x := .inLoop c) rfl (fun _ _ => .inl (by simp)) harr⟩
  | panic ch => exact hq.elim
  | outgrown => exact hq.elim
end
end Go.SX
/- Maps whose keys are whole numbers. -/
namespace Go.SX
open Go Go.RowKit
def mfind (k : Int) : List (Int × Value) → Option (Nat × Value)
  | [] => none
  | (k', v) :: es => if k = k' then some (0, v) else (mfind k es).map fun p => (p.1 + 1, p.2)
def mget (k : Int) (es : List (Int × Value)) : Option Value := (mfind k es).map (·.2)
def mput (k : Int) (v : Value) : List (Int × Value) → List (Int × Value)
  | [] => [(k, v)]
  | (k', v') :: es => if k = k' then (k', v) :: es else (k', v') :: mput k v es
def mapEs (es : List (Int × Value)) : List (Value × Value) := es.map fun p => (Value.int .i64 p.1, p.2)
def mapC (g : Nat) (es : List (Int × Value)) : Chunk where
  fp := [g]
  holds w := ∃ a clock, w.heap[g]? = some (.map a clock) ∧ a.toList.map (fun e => (e.key, e.val)) = mapEs es
  loc := fun w w' hk h => by rw [hk g (by simp)]; exact h
  lt := fun w h k hk => by obtain rfl := List.mem_singleton.1 hk; obtain ⟨a, c, h, _⟩ := h; exact (Array.getElem?_eq_some_iff.1 h).1
theorem mfind_put (k : Int) (v : Value) : ∀ es, mput k v es = match mfind k es with
    | none => es ++ [(k, v)]
    | some (j, _) => es.set j (k, v) := by
  intro es
  induction es with
  | nil => rfl
  | cons p es ih =>
    obtain ⟨k', v'⟩ := p
    simp only [mput, mfind]
    by_cases h : k = k'
    · subst h; simp
    · rw [if_neg h, if_neg h, ih]
      cases mfind k es with
      | none => rfl
      | some q => rfl
theorem mfind_lt {k : Int} : ∀ {es : List (Int × Value)} {j : Nat} {v : Value}, mfind k es = some (j, v) → es[j]? = some (k, v) := by
  intro es
  induction es with
  | nil => intro j v h; cases h
  | cons p es ih =>
    obtain ⟨k', v'⟩ := p
    intro j v h
    simp only [mfind] at h
    by_cases hk : k = k'
    · subst hk; rw [if_pos rfl] at h; obtain ⟨rfl, rfl⟩ : 0 = j ∧ v' = v := by simpa using h
      rfl
    · rw [if_neg hk] at h
      cases hm : mfind k es with
      | none => rw [hm] at h; cases h
      | some q =>
        rw [hm] at h
        obtain ⟨rfl, rfl⟩ : q.1 + 1 = j ∧ q.2 = v := by simpa using h
        simpa using ih hm
theorem findNow_ints (q : IntKind) (k : Int) : ∀ (a : List MapEntry) (es : List (Int × Value)) (i : Nat), a.map (fun e => (e.key, e.val)) = mapEs es →
    Instr.findNow (.int q) (.int .i64 k) a i = some ((mfind k es).map fun p => (i + p.1, p.2)) := by
  intro a
  induction a with
  | nil => intro es i h; cases es with
    | nil => rfl
    | cons p es => simp [mapEs] at h
  | cons e a ih =>
    intro es i h
    cases es with
    | nil => simp [mapEs] at h
    | cons p es =>
      obtain ⟨k', v'⟩ := p
      simp only [mapEs, List.map_cons, List.cons.injEq, Prod.mk.injEq] at h
      obtain ⟨⟨hk, hv⟩, ht⟩ := h
      simp only [Instr.findNow, hk, hv, mfind]
      by_cases hkk : k = k'
      · subst hkk
        simp [Instr.sameNow]
      · have hb : (k == k') = false := by simp [hkk]
        simp only [Instr.sameNow, if_true, hb, if_neg hkk]
        rw [ih es (i + 1) ht]
        cases mfind k es with
        | none => rfl
        | some q => simp; omega
section
variable {P : Program} {S : List Nat} {w0 : World} {r : List Chunk} {e : Env} {l cs : List Chunk} {T : TypeId} {pos : String} {af : Array Edge} {gu : Option (Nat × Bool)} {d : Option Tmp}
theorem run_checkKey_int {key : TypeId} [hk : Und P key (.int .i64)] (b : Bool) (k : Int) (w : World) : (Instr.checkKey b 10000 key (.int .i64 k)).run P w = .ok () w := by
  show (Instr.checkKey b (9999 + 1) key (.int .i64 k)).run P w = _
  unfold Instr.checkKey
  simp [hk.run]
theorem run_findKey_int {key : TypeId} [hk : Und P key (.int .i64)] (k : Int) (a : List MapEntry) (es : List (Int × Value)) (h : a.map (fun e => (e.key, e.val)) = mapEs es) (w : World) :
    (Instr.findKey key (.int .i64 k) a).run P w = .ok (mfind k es) w := by
  unfold Instr.findKey
  simp only [Sem.run_bind, hk.run, Result.andThen_ok, findNow_ints .i64 k a es 0 h]
  cases mfind k es <;> simp
theorem run_getObj {w : World} {g : Nat} {A : Array MapEntry} {c : Nat} (h : w.heap[g]? = some (.map A c)) : (getObj g).run P w = .ok (.map A c) w := by simp [getObj, Sem.run, h]
theorem run_setObj {w : World} {g : Nat} {A : Array MapEntry} {c : Nat} {o' : Obj} (h : w.heap[g]? = some (.map A c)) : (setObj g o').run P w = .ok () (w.putObj g o') := by simp [setObj, Sem.run, h, World.putObj]
theorem Ev.lookupS {t key elem : TypeId} {x y : Operand} {g : Nat} {es : List (Int × Value)} {k : Int} {v : Value} [ht : Und P t (.map key elem)] [hk : Und P key (.int .i64)]
    (hx : ev e x = some (.map (some g))) (hy : ev e y = some (.int .i64 k)) (hr : Rd (mapC g es) cs) (hm : mget k es = some v) (c : Bool) :
    Ev P e cs ⟨d, .lookup t x y c, T, pos, af, gu⟩ (cond c (.tuple #[v, .bool true]) v) := by
  refine ⟨(by intro _ hq; cases hq), fun n a w he hc => ?_⟩
  obtain ⟨A, clock, hg, hA⟩ := hr.holds hc
  obtain ⟨q, hq, rfl⟩ : ∃ q, mfind k es = some q ∧ q.2 = v := by simpa [mget] using hm
  have hf := run_findKey_int (P := P) (key := key) k A.toList es hA w
  rw [hq] at hf
  cases c <;> simp [execOp, Instr.lookup, ht.run, he.eval hx, he.eval hy, run_getObj hg, run_checkKey_int, hf]
theorem Ev.lookupN {t key elem : TypeId} {x y : Operand} {g : Nat} {es : List (Int × Value)} {k : Int} {z : Value} {sz by_ : Nat} [ht : Und P t (.map key elem)] [hk : Und P key (.int .i64)] [hi : Inf P elem z sz by_]
    (hx : ev e x = some (.map (some g))) (hy : ev e y = some (.int .i64 k)) (hr : Rd (mapC g es) cs) (hm : mget k es = none) (c : Bool) :
    Ev P e cs ⟨d, .lookup t x y c, T, pos, af, gu⟩ (cond c (.tuple #[z, .bool false]) z) := by
  refine ⟨(by intro _ hq; cases hq), fun n a w he hc => ?_⟩
  obtain ⟨A, clock, hg, hA⟩ := hr.holds hc
  have hq : mfind k es = none := by simpa [mget] using hm
  have hf := run_findKey_int (P := P) (key := key) k A.toList es hA w
  rw [hq] at hf
  cases c <;> simp [execOp, Instr.lookup, ht.run, he.eval hx, he.eval hy, run_getObj hg, run_checkKey_int, hf, hi.run_zero]
theorem Ev.lookup0 {t key elem : TypeId} {x y : Operand} {k : Int} {z : Value} {sz by_ : Nat} [ht : Und P t (.map key elem)] [hk : Und P key (.int .i64)] [hi : Inf P elem z sz by_]
    (hx : ev e x = some (.map none)) (hy : ev e y = some (.int .i64 k)) (c : Bool) :
    Ev P e cs ⟨d, .lookup t x y c, T, pos, af, gu⟩ (cond c (.tuple #[z, .bool false]) z) := by
  refine ⟨(by intro _ hq; cases hq), fun n a w he hc => ?_⟩
  have hf := run_findKey_int (P := P) (key := key) k [] [] rfl w
  cases c <;> simp [execOp, Instr.lookup, ht.run, he.eval hx, he.eval hy, run_checkKey_int, hf, mfind, hi.run_zero]
theorem Stp.makeMap {t : TypeId} : Stp P S w0 r ⟨d, .makeMap t none, T, pos, af, gu⟩ e l (fun v l' => ∃ g, v = .map (some g) ∧ l' = mapC g [] :: l) := by
  refine Stp.of (by intro _ hq; cases hq) fun n a w K Q he hs h => ?_
  unfold Oper.wp
  have hrun : (execOp a.eval ⟨d, .makeMap t none, T, pos, af, gu⟩).run P w = .ok (.value (.map (some w.heap.size))) (w.alloc (.map #[] 0)) := by
    simp [execOp, Instr.makeMap, run_newObj_alloc]
  rw [hrun]
  refine h _ _ _ ⟨_, rfl, rfl⟩ (hs.newC _ ⟨#[], 0, World.alloc_heap_new w _, rfl⟩ (fun k hk => by simpa [mapC] using hk))
theorem Stp.mapUpdate {t key elem : TypeId} {x y z : Operand} {g : Nat} {es : List (Int × Value)} {k : Int} {v : Value} {l1 : List Chunk} [ht : Und P t (.map key elem)] [hk : Und P key (.int .i64)]
    (hx : ev e x = some (.map (some g))) (hy : ev e y = some (.int .i64 k)) (hz : ev e z = some v) (hp : Pick (mapC g es) l l1) :
    Stp P S w0 r ⟨d, .mapUpdate t x y z, T, pos, af, gu⟩ e l (fun _ l' => l' = mapC g (mput k v es) :: l1) := by
  refine Stp.of (by intro _ hq; cases hq) fun n a w K Q he hs h => ?_
  obtain ⟨A, clock, hg, hA⟩ := hs.own _ (hp.perm.mem_iff.2 List.mem_cons_self)
  have hf := run_findKey_int (P := P) (key := key) k A.toList es hA w
  have hstep : ∀ A' clock', A'.toList.map (fun (e : MapEntry) => (e.key, e.val)) = mapEs (mput k v es) → St S w0 (w.putObj g (.map A' clock')) (mapC g (mput k v es) :: l1) r := fun A' clock' hA' => by
    refine hs.write hp rfl rfl rfl (by simp) (fun j _ hj => World.putObj_heap_other (fun hjg => hj (by simp [mapC, hjg]))) ⟨A', clock', World.putObj_heap_same (Array.getElem?_eq_some_iff.1 hg).1, hA'⟩ (fun j hj => .inl hj)
  unfold Oper.wp
  cases hm : mfind k es with
  | none =>
    rw [hm] at hf
    have hrun : (execOp a.eval ⟨d, .mapUpdate t x y z, T, pos, af, gu⟩).run P w = .ok .skip (w.putObj g (.map (A.push { key := .int .i64 k, val := v, born := clock }) (clock + 1))) := by
      simp [execOp, Instr.mapUpdate, ht.run, he.eval hx, he.eval hy, he.eval hz, run_getObj hg, run_checkKey_int, hf, run_setObj hg]
    rw [hrun]
    refine h _ _ _ rfl (hstep _ _ ?_)
    rw [mfind_put, hm]
    simp [mapEs, hA]
  | some q =>
    obtain ⟨j, v0⟩ := q
    rw [hm] at hf
    have hj := mfind_lt hm
    have hlen : A.size = es.length := by have := congrArg List.length hA; simpa [mapEs] using this
    have hjl : j < A.size := by rw [hlen]; exact (List.getElem?_eq_some_iff.1 hj).1
    have hkey : A[j].key = .int .i64 k := by
      have h1 : (A.toList.map fun (e : MapEntry) => (e.key, e.val))[j]? = some (A[j].key, A[j].val) := by simp [hjl]
      rw [hA] at h1
      simp [mapEs, hj] at h1
      exact h1.1.symm
    have hstay : (Instr.keyThatStays (.int .i64 k) (.int .i64 k)).run P w = .ok (.int .i64 k) w := by
      simp [Instr.keyThatStays, Instr.sameBits]
    have hrun : (execOp a.eval ⟨d, .mapUpdate t x y z, T, pos, af, gu⟩).run P w = .ok .skip (w.putObj g (.map (A.modify j fun e => { e with key := .int .i64 k, val := v }) clock)) := by
      simp [execOp, Instr.mapUpdate, ht.run, he.eval hx, he.eval hy, he.eval hz, run_getObj hg, run_checkKey_int, hf, run_setObj hg, hjl, hkey, hstay]
    rw [hrun]
    refine h _ _ _ rfl (hstep _ _ ?_)
    rw [mfind_put, hm]
    show _ = mapEs (es.set j (k, v))
    have hset : mapEs (es.set j (k, v)) = (mapEs es).set j (.int .i64 k, v) := by simp [mapEs, List.map_set]
    rw [hset, ← hA]
    apply List.ext_getElem?
    intro i
    simp only [List.getElem?_map, List.getElem?_set, Array.getElem?_toList, Array.getElem?_modify, List.length_map, Array.length_toList]
    by_cases hij : j = i
    · subst hij; simp [hjl]
    · simp [hij]
end
end Go.SX
/- A slice literal of one struct. -/
namespace Go.SX
open Go Go.RowKit
theorem fold_cells (vs : List Value) : ∀ (i : Nat) (pre base : List Value), pre.length = i → base.length = vs.length →
    (vs.zipIdx i).foldl (fun (cs : Array Value) (q : Value × Nat) => cs.setIfInBounds q.2 q.1) (pre ++ base).toArray = (pre ++ vs).toArray := by
  induction vs with
  | nil => intro i pre base h1 h2; obtain rfl : base = [] := List.length_eq_zero_iff.1 (by simpa using h2); rfl
  | cons v vs ih =>
    intro i pre base h1 h2
    cases base with
    | nil => simp at h2
    | cons b base =>
      rw [List.zipIdx_cons, List.foldl_cons]
      have hset : (pre ++ b :: base).toArray.setIfInBounds i v = ((pre ++ [v]) ++ base).toArray := by
        subst h1
        apply Array.toList_inj.1
        simp
      rw [hset, ih (i + 1) (pre ++ [v]) base (by simp [h1]) (by simpa using h2)]
      simp
section
variable {P : Program} {S : List Nat} {w0 : World} {r : List Chunk} {e : Env} {l cs : List Chunk} {T : TypeId} {pos : String} {af : Array Edge} {gu : Option (Nat × Bool)} {d : Option Tmp}
theorem Stp.buildOne {t el : TypeId} {z : Value} {sz by_ : Nat} {x : Operand} {vs : List Value} [hu : Und P t (.slice el)] [hi : Inf P el z sz by_]
    (hv : ev e x = some (.agg vs.toArray)) (hl : vs.length = sz) (h0 : 0 < sz ∧ sz ≤ 16777216) (hz : z.cells.size = sz) :
    Stp P S w0 r ⟨d, .buildSlice t 1 #[(0, x)], T, pos, af, gu⟩ e l (fun v l' => ∃ g, v = .slice (some ⟨g, 0, none⟩) 1 1 ∧ l' = rowC (some ⟨g, 0, none⟩) 1 el sz 1 vs :: l) := by
  refine Stp.of (by intro _ hq; cases hq) fun n a w K Q he hs h => ?_
  unfold Oper.wp
  have hfill : ∀ base : Array Value, base.size = sz → Instr.fill (fun i => some (i * sz, sz)) base [(0, Value.agg vs.toArray)] = some vs.toArray := by
    intro base hb
    have hf := fold_cells vs 0 [] base.toList rfl (by simp [hl, hb])
    simp only [List.nil_append, Array.toArray_toList] at hf
    have hz : vs.toArray.zipIdx = vs.zipIdx.toArray := by apply Array.ext'; simp
    simp only [Instr.fill, Nat.zero_mul, Nat.zero_add, Value.cells, hz]
    rw [if_neg (by simp [hl, hb])]
    rw [← hf]
    simp
  have hfill := hfill ((Array.range (1 * sz)).map (z.cells[· % z.cells.size]!)) (by simp)
  have hrun : (execOp a.eval ⟨d, .buildSlice t 1 #[(0, x)], T, pos, af, gu⟩).run P w = .ok (.value (.slice (some ⟨w.heap.size, 0, none⟩) 1 1)) (w.alloc (.cells vs.toArray el)) := by
    simp only [execOp, Instr.buildSlice, Sem.run_bind, hu.run, Result.andThen_ok, hi.run_size]
    rw [if_neg (by omega), if_neg (by omega)]
    simp only [Sem.run_bind, hi.run_zero, Sem.run_pure, Result.andThen_ok, List.map_toArray, List.map_cons, List.map_nil, he.eval hv, hfill]
    simp [newRow]
  rw [hrun]
  have hnew := hs.newRow el vs.toArray sz 1 (by simp [hl]) (by simp only [maxLen]; omega)
  exact h _ _ _ ⟨_, rfl, rfl⟩ hnew
end
end Go.SX
