import Derived.Test.YtaopfkmlmpimdaaSx
import Derived.Deep.Slices
import Derived.OpenShut
/- Records in slices; several chunks as one; what is opened and closed. -/
set_option linter.unusedVariables false
set_option linter.unusedSimpArgs false
namespace Go.SX
open Go Go.RowKit
/-- Several chunks that may be read; they may lie over each other. -/
def allC (cs : List Chunk) : Chunk where
  fp := fps cs
  holds w := ∀ c ∈ cs, c.holds w
  loc w w' h hw := fun c hc => c.loc w w' (fun k hk => h k (mem_fps.2 ⟨c, hc, hk⟩)) (hw c hc)
  lt w hw k hk := by obtain ⟨c, hc, hk⟩ := mem_fps.1 hk; exact c.lt w (hw c hc) k hk
theorem Sub.inAll {c : Chunk} {cs : List Chunk} (h : c ∈ cs) : Sub c (allC cs) := ⟨fun k hk => mem_fps.2 ⟨c, h, hk⟩, fun w hw => hw c h⟩
theorem Sub.inStar {c : Chunk} {cs : List Chunk} (h : c ∈ cs) : Sub c (starC cs) := ⟨fun k hk => mem_fps.2 ⟨c, h, hk⟩, fun w hw => hw.1 c h⟩
theorem Sub.allStar {cs : List Chunk} : Sub (allC cs) (starC cs) := ⟨fun _ h => h, fun w hw => hw.1⟩
theorem fps_star (cs l : List Chunk) : fps (starC cs :: l) = fps (cs ++ l) := by simp [fps, starC]
section
variable {P : Program} {f : FuncId} {args : List Value} {l r cs : List Chunk} {post : Value → List Chunk → Prop}
theorem Spec.open (h : Spec P f args (cs ++ l) r post) : Spec P f args (starC cs :: l) r post :=
  ⟨fun w hs => by
    rw [fps_star] at hs ⊢
    exact h.out w hs.starOpen⟩
theorem St.roAll {S : List Nat} {w0 w : World} (h : St S w0 w l (allC cs :: r)) : St S w0 w l (cs ++ r) :=
  { h with
    ro := fun c hc => by
      rcases List.mem_append.1 hc with hc | hc
      · exact h.ro _ List.mem_cons_self c hc
      · exact h.ro c (List.mem_cons_of_mem _ hc)
    sepr := fun c hc d hd k hk => by
      rcases List.mem_append.1 hd with hd | hd
      · exact fun hkd => h.sepr c hc _ List.mem_cons_self k hk (mem_fps.2 ⟨d, hd, hkd⟩)
      · exact h.sepr c hc d (List.mem_cons_of_mem _ hd) k hk }
theorem St.roAll' {S : List Nat} {w0 w : World} (h : St S w0 w l (cs ++ r)) : St S w0 w l (allC cs :: r) :=
  { h with
    ro := fun c hc => by
      rcases List.mem_cons.1 hc with rfl | hc
      · exact fun d hd => h.ro d (List.mem_append_left _ hd)
      · exact h.ro c (List.mem_append_right _ hc)
    sepr := fun c hc d hd k hk => by
      rcases List.mem_cons.1 hd with rfl | hd
      · exact fun hkd => by obtain ⟨x, hx, hkx⟩ := mem_fps.1 hkd; exact h.sepr c hc x (List.mem_append_left _ hx) k hk hkx
      · exact h.sepr c hc d (List.mem_append_right _ hd) k hk }
theorem Spec.openR (h : Spec P f args l (cs ++ r) post) : Spec P f args l (allC cs :: r) post :=
  ⟨fun w hs => (h.out w hs.roAll).mono fun e w' ⟨v, l', h1, h2, h3⟩ => ⟨v, l', h1, h2, h3.roAll'⟩⟩
theorem Spec.openRS (h : Spec P f args l (cs ++ r) post) : Spec P f args l (starC cs :: r) post :=
  ⟨fun w hs => by
    have hp := (hs.ro _ List.mem_cons_self).2
    have hs' : St (fps l) w w l (allC cs :: r) :=
      { hs with
        ro := fun c hc => by
          rcases List.mem_cons.1 hc with rfl | hc
          · exact (hs.ro _ List.mem_cons_self).1
          · exact hs.ro c (List.mem_cons_of_mem _ hc)
        sepr := fun c hc d hd k hk => by
          rcases List.mem_cons.1 hd with rfl | hd
          · exact hs.sepr c hc _ List.mem_cons_self k hk
          · exact hs.sepr c hc d (List.mem_cons_of_mem _ hd) k hk }
    refine (h.out w hs'.roAll).mono fun e w' ⟨v, l', h1, h2, h3⟩ => ⟨v, l', h1, h2, ?_⟩
    have h4 := h3.roAll'
    exact { h4 with
      ro := fun c hc => by
        rcases List.mem_cons.1 hc with rfl | hc
        · exact ⟨h4.ro _ List.mem_cons_self, hp⟩
        · exact h4.ro c (List.mem_cons_of_mem _ hc)
      sepr := fun c hc d hd k hk => by
        rcases List.mem_cons.1 hd with rfl | hd
        · exact h4.sepr c hc _ List.mem_cons_self k hk
        · exact h4.sepr c hc d (List.mem_cons_of_mem _ hd) k hk }⟩
end
section
variable {P : Program} {n : Nat} {S : List Nat} {w0 : World} {r : List Chunk}
theorem W.starOpen {ops : Array Oper} {K : QS} {rest : List Oper} {e : Env} {cs l : List Chunk} (h : W P n S w0 r ops K rest e (cs ++ l)) : W P n S w0 r ops K rest e (starC cs :: l) :=
  ⟨fun a w he hs => h.out a w he hs.starOpen⟩
theorem WC.starOpen {c : Code} {K : QS} {e : Env} {cs l : List Chunk} (h : WC P n S w0 r c K e (cs ++ l)) : WC P n S w0 r c K e (starC cs :: l) :=
  ⟨fun a w he hs => h.out a w he hs.starOpen⟩
theorem W.lstT {ops : Array Oper} {K : QS} {rest : List Oper} {e : Env} {cs l l' : List Chunk} (hp : PicksT cs l l') (h : W P n S w0 r ops K rest e (cs ++ l')) : W P n S w0 r ops K rest e l :=
  ⟨fun a w he hs => h.out a w he (hs.picksT hp)⟩
theorem WC.lstT {c : Code} {K : QS} {e : Env} {cs l l' : List Chunk} (hp : PicksT cs l l') (h : WC P n S w0 r c K e (cs ++ l')) : WC P n S w0 r c K e l :=
  ⟨fun a w he hs => h.out a w he (hs.picksT hp)⟩
end
/-- Records, one behind the other. -/
def recs {α : Type} (f : α → List Value) (xs : List α) : List Value := xs.flatMap f
def nth {α : Type} [Inhabited α] (xs : List α) (k : Nat) : α := xs.getD k default
theorem nth_get {α : Type} [Inhabited α] {xs : List α} {k : Nat} (h : k < xs.length) : nth xs k = xs[k] := by simp [nth, List.getD, List.getElem?_eq_getElem h]
theorem nth_mem {α : Type} [Inhabited α] {xs : List α} {k : Nat} (h : k < xs.length) : nth xs k ∈ xs := by rw [nth_get h]; exact List.getElem_mem h
theorem recs_snoc {α : Type} (f : α → List Value) (xs : List α) (x : α) : recs f (xs ++ [x]) = recs f xs ++ f x := by simp [recs]
theorem recs_append {α : Type} (f : α → List Value) (xs ys : List α) : recs f (xs ++ ys) = recs f xs ++ recs f ys := by simp [recs]
theorem recs_length {α : Type} {f : α → List Value} {s : Nat} (hs : ∀ x, (f x).length = s) (xs : List α) : (recs f xs).length = xs.length * s := by
  induction xs with
  | nil => simp [recs]
  | cons x xs ih => rw [recs, List.flatMap_cons, List.length_append, hs, show List.flatMap f xs = recs f xs from rfl, ih, List.length_cons, Nat.succ_mul, Nat.add_comm]
theorem recs_drop {α : Type} [Inhabited α] {f : α → List Value} {s : Nat} (hs : ∀ x, (f x).length = s) : ∀ (xs : List α) (k : Nat), k < xs.length → (recs f xs).drop (k * s) = f (nth xs k) ++ recs f (xs.drop (k + 1)) := by
  intro xs
  induction xs with
  | nil => intro k h; simp at h
  | cons x xs ih =>
    intro k h
    cases k with
    | zero => simp [recs, nth]
    | succ k =>
      have h' : k < xs.length := by simpa using h
      rw [recs, List.flatMap_cons, show (k + 1) * s = (f x).length + k * s by rw [hs, Nat.succ_mul]; omega, List.drop_append]
      have := ih k h'
      rw [List.drop_of_length_le (by omega), Nat.add_sub_cancel_left]
      simpa [recs, nth] using this
theorem recs_take {α : Type} [Inhabited α] {f : α → List Value} {s : Nat} (hs : ∀ x, (f x).length = s) {xs : List α} {k : Nat} (h : k < xs.length) : ((recs f xs).drop (k * s)).take s = f (nth xs k) := by
  rw [recs_drop hs xs k h, List.take_append_of_le_length (by rw [hs]; exact Nat.le_refl _), List.take_of_length_le (by rw [hs]; exact Nat.le_refl _)]
theorem recs_get {α : Type} [Inhabited α] {f : α → List Value} {s : Nat} (hs : ∀ x, (f x).length = s) {xs : List α} {k o : Nat} (h : k < xs.length) (ho : o < s) : (recs f xs)[k * s + o]? = (f (nth xs k))[o]? := by
  rw [← List.getElem?_drop, recs_drop hs xs k h, List.getElem?_append_left (by rw [hs]; exact ho)]
theorem recs_len {α : Type} {f : α → List Value} {s n c : Nat} {A : Option Addr} (hs : ∀ x, (f x).length = s) (h0 : 0 < s) {xs : List α} {w : World} (h : (sliceC A c s n (recs f xs)).holds w) : n = xs.length := by
  have h1 := (sliceC_len w h).1
  rw [recs_length hs] at h1
  exact (Nat.eq_of_mul_eq_mul_right h0 h1).symm
section
variable {P : Program} {e : Env} {cs : List Chunk} {T : TypeId} {pos : String} {af : Array Edge} {gu : Option (Nat × Bool)} {d : Option Tmp} {α : Type} [Inhabited α]
theorem Ev.indexRec {t el : TypeId} {z : Value} {sz by_ n c k s : Nat} {A : Option Addr} {kk : IntKind} {x y : Operand} {us : List Value} [hu : Und P t (.slice el)] [hi : Inf P el z sz by_]
    (hx : ev e x = some (.slice A n c)) (hy : ev e y = some (.int kk (k : Int))) (hr : Rd (sliceC A c s n us) cs) (hb : k < n) (hs : Nat.blt 0 s = true) :
    Ev P e cs ⟨d, .indexAddr t x y, T, pos, af, gu⟩ (ptrAt A (k * sz)) := by
  have := Ev.indexAddr (P := P) (t := t) (d := d) (T := T) (pos := pos) (af := af) (gu := gu) hx hy hr ⟨by omega, by omega⟩ (by simpa [Nat.blt_eq] using hs)
  rwa [Int.toNat_natCast] at this
theorem Ev.indexRecK {t el : TypeId} {z : Value} {sz by_ n c k s : Nat} {i : Int} {A : Option Addr} {kk : IntKind} {x : Operand} {us : List Value} [hu : Und P t (.slice el)] [hi : Inf P el z sz by_]
    (hx : ev e x = some (.slice A n c)) (hk : i.toNat = k) (hr : Rd (sliceC A c s n us) cs) (hb : 0 ≤ i ∧ i < n) (hs : Nat.blt 0 s = true) :
    Ev P e cs ⟨d, .indexAddr t x (.const (.int kk i)), T, pos, af, gu⟩ (ptrAt A (k * sz)) := by
  have := Ev.indexAddr (P := P) (t := t) (d := d) (T := T) (pos := pos) (af := af) (gu := gu) (y := .const (.int kk i)) hx rfl hr hb (by simpa [Nat.blt_eq] using hs)
  rwa [hk] at this
/-- A whole record. -/
theorem Ev.loadRec {t : TypeId} {ds : TypeDesc} {z : Value} {by_ s n c k : Nat} {A : Option Addr} {x : Operand} {f : α → List Value} {xs : List α} [hu : Und P t ds] [hi : Inf P t z s by_] (hp : plainD ds = false)
    (hx : ev e x = some (ptrAt A (k * s))) (hr : Rd (sliceC A c s n (recs f xs)) cs) (hs : ∀ x, (f x).length = s) (hk : k < xs.length) (h0 : Nat.blt 0 s = true) :
    Ev P e cs ⟨d, .load t x, T, pos, af, gu⟩ (.agg (f (nth xs k)).toArray) := by
  have hl := recs_length hs xs
  have h1 : (k + 1) * s ≤ xs.length * s := Nat.mul_le_mul_right _ hk
  have := Ev.loadAtAgg (P := P) (t := t) (d := d) (T := T) (pos := pos) (af := af) (gu := gu) hp hx hr (by rw [hl]; rw [Nat.succ_mul] at h1; exact h1) (by simpa [Nat.blt_eq] using h0)
  rwa [recs_take hs hk] at this
/-- A field of a record that is one cell. -/
theorem Ev.loadRecF {t : TypeId} {ds : TypeDesc} {s n c k o : Nat} {A : Option Addr} {x : Operand} {f : α → List Value} {xs : List α} {v : Value} [hu : Und P t ds] (hp : plainD ds = true)
    (hx : ev e x = some (.pointer (some ⟨ablk A, aoff A + k * s + o, none⟩))) (hr : Rd (sliceC A c s n (recs f xs)) cs) (hs : ∀ x, (f x).length = s) (hk : k < xs.length) (ho : Nat.blt o s = true) (hv : (f (nth xs k))[o]? = some v) :
    Ev P e cs ⟨d, .load t x, T, pos, af, gu⟩ v :=
  Ev.loadAtF (A := A) (k := k * s) (o := o) hp hx hr (by rw [recs_get hs hk (by simpa [Nat.blt_eq] using ho)]; exact hv)
theorem Ev.loadRecF2 {t : TypeId} {ds : TypeDesc} {s n c k o o' : Nat} {A : Option Addr} {x : Operand} {f : α → List Value} {xs : List α} {v : Value} [hu : Und P t ds] (hp : plainD ds = true)
    (hx : ev e x = some (.pointer (some ⟨ablk A, aoff A + k * s + o + o', none⟩))) (hr : Rd (sliceC A c s n (recs f xs)) cs) (hs : ∀ x, (f x).length = s) (hk : k < xs.length) (ho : Nat.blt (o + o') s = true) (hv : (f (nth xs k))[o + o']? = some v) :
    Ev P e cs ⟨d, .load t x, T, pos, af, gu⟩ v :=
  Ev.loadRecF (o := o + o') hp (by rw [hx, Nat.add_assoc (aoff A + k * s)]) hr hs hk ho hv
theorem Ev.loadRec0 {t : TypeId} {ds : TypeDesc} {n c k : Nat} {A : Option Addr} {x : Operand} {f : α → List Value} {xs : List α} {v : Value} [hu : Und P t ds] (hp : plainD ds = true)
    (hx : ev e x = some (ptrAt A k)) (hr : Rd (sliceC A c 1 n (recs f xs)) cs) (hs : ∀ x, (f x).length = 1) (hk : k < xs.length) (hv : (f (nth xs k))[0]? = some v) :
    Ev P e cs ⟨d, .load t x, T, pos, af, gu⟩ v :=
  Ev.loadAt (A := A) (k := k) hp hx hr (by have := recs_get hs hk (o := 0) (by omega); rw [Nat.mul_one, Nat.add_zero] at this; rw [this]; exact hv)
/-- A field of a record that is several cells. -/
theorem Ev.loadRecFA {t : TypeId} {ds : TypeDesc} {z : Value} {sz by_ s n c k o : Nat} {A : Option Addr} {x : Operand} {f : α → List Value} {xs : List α} {vs : List Value} [hu : Und P t ds] [hi : Inf P t z sz by_] (hp : plainD ds = false)
    (hx : ev e x = some (.pointer (some ⟨ablk A, aoff A + k * s + o, none⟩))) (hr : Rd (sliceC A c s n (recs f xs)) cs) (hs : ∀ x, (f x).length = s) (hk : k < xs.length) (ho : Nat.ble (o + sz) s = true) (h0 : Nat.blt 0 sz = true)
    (hv : ((f (nth xs k)).drop o).take sz = vs) :
    Ev P e cs ⟨d, .load t x, T, pos, af, gu⟩ (.agg vs.toArray) := by
  have ho' : o + sz ≤ s := Nat.le_of_ble_eq_true ho
  have h0' : 0 < sz := by simpa [Nat.blt_eq] using h0
  have hl := recs_length hs xs
  have h1 : (k + 1) * s ≤ xs.length * s := Nat.mul_le_mul_right _ hk
  rw [Nat.succ_mul] at h1
  have := Ev.loadAtFAgg (P := P) (t := t) (d := d) (T := T) (pos := pos) (af := af) (gu := gu) hp hx hr (by rw [hl]; omega) h0'
  have e1 : ((recs f xs).drop (k * s + o)).take sz = vs := by
    rw [← List.drop_drop, recs_drop hs xs k hk, List.drop_append_of_le_length (by rw [hs]; omega), List.take_append_of_le_length (by rw [List.length_drop, hs]; omega), hv]
  rwa [e1] at this
end
theorem Sub.allAt {α : Type} [Inhabited α] {g : α → Chunk} {xs : List α} {k : Nat} (h : k < xs.length) : Sub (g (nth xs k)) (allC (xs.map g)) := Sub.inAll (List.mem_map_of_mem (nth_mem h))
theorem Sub.starAt {α : Type} [Inhabited α] {g : α → Chunk} {xs : List α} {k : Nat} (h : k < xs.length) : Sub (g (nth xs k)) (starC (xs.map g)) := Sub.inStar (List.mem_map_of_mem (nth_mem h))
end Go.SX
namespace Go.SX
open Go Go.RowKit
section
variable {P : Program} {S : List Nat} {w0 : World} {r : List Chunk} {e : Env} {l : List Chunk} {T : TypeId} {pos : String} {af : Array Edge} {gu : Option (Nat × Bool)} {d : Option Tmp}
theorem Stp.calO {f : FuncId} {xs : List Operand} {vs : List Value} {ts : Array TypeId} {y : Operand} {l0 l1 r0 : List Chunk} {post : Value → List Chunk → Prop} [hf : Fun P f]
    (hy : ev e y = some (.func (.func f) #[] #[])) (hx : evs e xs = some vs) (hp : PicksT l0 l l1) (hr : Rds r0 (l1 ++ r)) (hsp : Spec P f vs l0 r0 post) :
    Stp P S w0 r ⟨d, .call ⟨.value y, xs.toArray, ts⟩, T, pos, af, gu⟩ e l (fun v l' => ∃ l2, post v l2 ∧ l' = l2 ++ l1) := Stp.cal hy hx hsp hp hr
theorem Stp.calcO {f : FuncId} {xs : List Operand} {vs us : List Value} {ts : Array TypeId} {y : Operand} {l0 l1 r0 : List Chunk} {post : Value → List Chunk → Prop} [hf : Fun P f]
    (hy : ev e y = some (.func (.func f) #[] us.toArray)) (hx : evs e xs = some vs) (hp : PicksT l0 l l1) (hr : Rds r0 (l1 ++ r)) (hsp : Spec P f (vs ++ us) l0 r0 post) :
    Stp P S w0 r ⟨d, .call ⟨.value y, xs.toArray, ts⟩, T, pos, af, gu⟩ e l (fun v l' => ∃ l2, post v l2 ∧ l' = l2 ++ l1) := Stp.calc hy hx hsp hp hr
end
end Go.SX
/- Shapes: what an argument's cells are, by its type. -/
namespace Go.SX
open Go Go.RowKit
inductive Sh where
  | bool
  | int (k : IntKind)
  | str
  | slice (s : Nat) (e : Sh)
  | unit
  | cat (a b : Sh)
  | rep (n : Nat) (e : Sh)
def Sh.size : Sh → Nat
  | .bool => 1
  | .int _ => 1
  | .str => 1
  | .slice _ _ => 1
  | .unit => 0
  | .cat a b => a.size + b.size
  | .rep n e => n * e.size
def Sh.ok (w : World) : Sh → List Value → Prop
  | .bool, cs => ∃ b, cs = [.bool b]
  | .int k, cs => ∃ n, cs = [.int k n] ∧ (Lit.int k n).wf = true
  | .str, cs => ∃ s, cs = [.string s] ∧ s.size ≤ maxLen
  | .slice s e, cs => ∃ A n c, ∃ xs : List (List Value), cs = [.slice A n c] ∧ (sliceC A c s n xs.flatten).holds w ∧ xs.length = n ∧ ∀ x ∈ xs, Sh.ok w e x
  | .unit, cs => cs = []
  | .cat a b, cs => ∃ x y, cs = x ++ y ∧ Sh.ok w a x ∧ Sh.ok w b y
  | .rep n e, cs => ∃ xs : List (List Value), cs = xs.flatten ∧ xs.length = n ∧ ∀ x ∈ xs, Sh.ok w e x
def shFs (P : Program) (r : TypeId → Option Sh) : Nat → List Field → Option Sh
  | _, [] => some .unit
  | off, f :: fs => (r f.type).bind fun a => if a.size = P.cellsOf f.type ∧ f.offset = off then (shFs P r (off + a.size) fs).map (.cat a) else none
def shF (P : Program) : Nat → TypeId → Option Sh
  | 0, _ => none
  | n + 1, t => match P.underlying t with
    | some .bool => some .bool
    | some (.int k) => some (.int k)
    | some .string => some .str
    | some (.slice e) => (shF P n e).bind fun s => if s.size = P.cellsOf e ∧ 0 < s.size then some (.slice s.size s) else none
    | some (.array m e) => (shF P n e).bind fun s => if s.size = P.cellsOf e ∧ m * s.size = P.cellsOf t then some (.rep m s) else none
    | some (.struct fs) => (shFs P (shF P n) 0 fs.toList).bind fun s => if s.size = P.cellsOf t then some s else none
    | _ => none
theorem flat_length {xs : List (List Value)} {s : Nat} (hs : ∀ x ∈ xs, x.length = s) : xs.flatten.length = xs.length * s := by
  induction xs with
  | nil => simp
  | cons x xs ih =>
    rw [List.flatten_cons, List.length_append, hs x List.mem_cons_self, ih fun y hy => hs y (List.mem_cons_of_mem _ hy), List.length_cons, Nat.succ_mul, Nat.add_comm]
theorem flat_get {s : Nat} (h0 : 0 < s) : ∀ {xs : List (List Value)} (_ : ∀ x ∈ xs, x.length = s) (j : Nat), xs.flatten[j]? = (xs.getD (j / s) [])[j % s]? := by
  intro xs
  induction xs with
  | nil => intro _ j; simp
  | cons x xs ih =>
    intro hs j
    have hx := hs x List.mem_cons_self
    rw [List.flatten_cons]
    rcases Nat.lt_or_ge j s with hj | hj
    · rw [List.getElem?_append_left (by omega), Nat.div_eq_of_lt hj, Nat.mod_eq_of_lt hj]; simp
    · rw [List.getElem?_append_right (by omega), hx, ih (fun y hy => hs y (List.mem_cons_of_mem _ hy))]
      have h1 : j / s = (j - s) / s + 1 := by
        conv => lhs; rw [show j = (j - s) + s by omega]
        rw [Nat.add_div_right _ h0]
      have h2 : j % s = (j - s) % s := Nat.mod_eq_sub_mod hj
      rw [h1, h2]
      simp
section
variable {H : Type} {enc : TypeId × Value → H} {P : Program} {w : World} {base : Nat} {spare : Nat → Bool} {held : Bool}
theorem ok_size : ∀ (sh : Sh) {cs : List Value}, sh.ok w cs → cs.length = sh.size := by
  intro sh
  induction sh with
  | bool => rintro cs ⟨b, rfl⟩; rfl
  | int k => rintro cs ⟨n, rfl, _⟩; rfl
  | str => rintro cs ⟨n, rfl, _⟩; rfl
  | slice s e _ => rintro cs ⟨A, n, c, xs, rfl, _⟩; rfl
  | unit => rintro cs rfl; rfl
  | cat a b iha ihb => rintro cs ⟨x, y, rfl, hx, hy⟩; rw [List.length_append, iha hx, ihb hy]; rfl
  | rep n e ih => rintro cs ⟨xs, rfl, rfl, hx⟩; exact flat_length fun x h => ih (hx x h)
theorem shFs_ok {r : TypeId → Option Sh} (hr : ∀ t sh cs, r t = some sh → (∃ fuel x, DataW.trod enc P w base spare held fuel t cs = some x) → sh.ok w cs) :
    ∀ (fs : List Field) (off : Nat) (sh : Sh) (cs : List Value), shFs P r off fs = some sh → cs.length = off + sh.size →
      (∀ f ∈ fs, ∃ fuel x, DataW.trod enc P w base spare held fuel f.type ((cs.drop f.offset).take (P.cellsOf f.type)) = some x) → sh.ok w (cs.drop off) := by
  intro fs
  induction fs with
  | nil =>
    intro off sh cs h hl _
    simp only [shFs, Option.some.injEq] at h
    subst h
    simp only [Sh.size] at hl
    exact List.drop_eq_nil_of_le (by omega)
  | cons f fs ih =>
    intro off sh cs h hl hf
    simp only [shFs, Option.bind_eq_some_iff] at h
    obtain ⟨a, ha, h⟩ := h
    split at h
    · rename_i hc
      obtain ⟨h1, h2⟩ := hc
      obtain ⟨b, hb, rfl⟩ := Option.map_eq_some_iff.1 h
      have h3 := hr f.type a _ ha (hf f List.mem_cons_self)
      simp only [Sh.size] at hl
      have h4 := ih (off + a.size) b cs hb (by omega) (fun g hg => hf g (List.mem_cons_of_mem _ hg))
      rw [← h1, h2] at h3
      refine ⟨_, _, ?_, h3, h4⟩
      rw [← List.drop_drop, List.take_append_drop]
    · cases h
theorem shF_ok : ∀ (n : Nat) (t : TypeId) (sh : Sh) (cs : List Value), shF P n t = some sh → (∃ fuel x, DataW.trod enc P w base spare held fuel t cs = some x) → sh.ok w cs := by
  intro n
  induction n with
  | zero => intro t sh cs h; simp [shF] at h
  | succ n ih =>
    intro t sh cs h ⟨fuel, x, hx⟩
    unfold shF at h
    split at h
    · rename_i ht
      obtain rfl := Option.some.inj h
      cases fuel with
      | zero => simp [DataW.trod] at hx
      | succ m =>
        unfold DataW.trod at hx
        rw [ht] at hx
        split at hx <;> simp_all [Sh.ok]
    · rename_i k ht
      obtain rfl := Option.some.inj h
      cases fuel with
      | zero => simp [DataW.trod] at hx
      | succ m =>
        unfold DataW.trod at hx
        rw [ht] at hx
        split at hx <;> simp_all [Sh.ok]
    · rename_i ht
      obtain rfl := Option.some.inj h
      cases fuel with
      | zero => simp [DataW.trod] at hx
      | succ m =>
        unfold DataW.trod at hx
        rw [ht] at hx
        split at hx <;> simp_all [Sh.ok]
    · rename_i e ht
      simp only [Option.bind_eq_some_iff] at h
      obtain ⟨s, hs, h⟩ := h
      split at h
      · rename_i hc
        obtain ⟨h1, h2⟩ := hc
        obtain rfl := Option.some.inj h
        rcases Deep.open_slice ht hx with ⟨rfl, _⟩ | ⟨a, len, cap, m, q, D, Pl, rfl, _, hlc, hcm, hm, _, hi⟩
        · exact ⟨none, 0, 0, [], rfl, sliceC_mk (by simp) (Nat.le_refl _) (Nat.zero_le _) (by simp) (fun a ha => by cases ha), rfl, fun x hx => by cases hx⟩
        · have hml : len ≤ m := by rw [hm]; split <;> omega
          have key : ∀ i : Nat, ∃ cs', i < len → w.cells? base (a.add (i * P.cellsOf e)) (P.cellsOf e) = some cs' ∧ s.ok w cs' := by
            intro i
            by_cases hil : i < len
            · obtain ⟨cs', h3, h4⟩ := hi i (by omega)
              exact ⟨cs', fun _ => ⟨h3, ih e s cs' hs ⟨q, _, h4⟩⟩⟩
            · exact ⟨[], fun h => absurd h hil⟩
          obtain ⟨g, hg⟩ := Classical.axiomOfChoice key
          have hsz : ∀ x ∈ (List.range len).map g, x.length = s.size := by
            intro x hx
            obtain ⟨i, hi, rfl⟩ := List.mem_map.1 hx
            exact ok_size s (hg i (List.mem_range.1 hi)).2
          refine ⟨some a, len, cap, (List.range len).map g, rfl, sliceC_mk ?_ hlc hcm (fun _ => ⟨a, rfl⟩) ?_, by simp, ?_⟩
          · rw [flat_length hsz]; simp
          · intro a' ha j u hu
            obtain rfl := Option.some.inj ha
            rw [flat_get h2 hsz] at hu
            have hjl : j / s.size < len := by
              rcases Nat.lt_or_ge (j / s.size) len with hj | hj
              · exact hj
              · rw [List.getD_eq_getElem?_getD, List.getElem?_map, List.getElem?_eq_none (l := List.range len) (by simpa using hj)] at hu; simp at hu
            have hgi := hg _ hjl
            rw [List.getD_eq_getElem?_getD, List.getElem?_map, List.getElem?_range hjl] at hu
            simp only [Option.map_some, Option.getD_some] at hu
            obtain ⟨_, hcl, hat⟩ := World.cells?_some hgi.1
            have := hat (j % s.size) (by rw [← h1]; exact Nat.mod_lt _ h2)
            rw [hu, add_add, ← h1] at this
            have hdm : j / s.size * s.size + j % s.size = j := by rw [Nat.mul_comm]; exact Nat.div_add_mod j s.size
            rwa [hdm] at this
          · intro x hx
            obtain ⟨i, hi, rfl⟩ := List.mem_map.1 hx
            exact (hg i (List.mem_range.1 hi)).2
      · cases h
    · rename_i m e ht
      simp only [Option.bind_eq_some_iff] at h
      obtain ⟨s, hs, h⟩ := h
      split at h
      · rename_i hc
        obtain ⟨h1, h2⟩ := hc
        obtain rfl := Option.some.inj h
        obtain ⟨xs, q, _, _, hl, hxl, hi⟩ := DataW.trod_array ht hx
        refine ⟨(List.range m).map fun i => (cs.drop (i * s.size)).take s.size, ?_, by simp, ?_⟩
        · have hlen : cs.length = m * s.size := by rw [hl, h2]
          clear hi hl h2 hx hxl
          have flat : ∀ (k i : Nat), i + k = m → ((List.range' i k).map fun i => (cs.drop (i * s.size)).take s.size).flatten = cs.drop (i * s.size) := by
            intro k
            induction k with
            | zero => intro i hi; obtain rfl : i = m := by omega
                      rw [List.drop_eq_nil_of_le (by omega)]; rfl
            | succ k ihk =>
              intro i hi
              rw [List.range'_succ, List.map_cons, List.flatten_cons, ihk (i + 1) (by omega), Nat.succ_mul, ← List.drop_drop, List.take_append_drop]
          have := flat m 0 (by omega)
          rw [List.range_eq_range', this]; simp
        · intro x hx
          obtain ⟨i, him, rfl⟩ := List.mem_map.1 hx
          have him := List.mem_range.1 him
          have h3 := hi i him
          rw [← h1, List.getElem?_eq_getElem (by omega)] at h3
          exact ih e s _ hs ⟨q, _, h3⟩
      · cases h
    · rename_i fs ht
      simp only [Option.bind_eq_some_iff] at h
      obtain ⟨s, hs, h⟩ := h
      split at h
      · rename_i h1
        obtain rfl := Option.some.inj h
        obtain ⟨xs, q, _, _, hl, hxl, hi⟩ := DataW.trod_struct ht hx
        have := shFs_ok (enc := enc) (base := base) (spare := spare) (held := held) (fun t sh cs h1 h2 => ih t sh cs h1 h2) fs.toList 0 s cs hs (by rw [hl, h1]; omega) (fun f hf => by
          obtain ⟨i, hi', rfl⟩ := List.getElem_of_mem hf
          have hif : i < fs.size := by simpa using hi'
          have h3 := hi i _ (Array.getElem?_eq_getElem hif)
          rw [List.getElem?_eq_getElem (by omega)] at h3
          rw [Array.getElem_toList]
          exact ⟨q, _, h3⟩)
        simpa using this
      · cases h
    · cases h
end
/-- Lists of records. -/
theorem ok_list {w : World} {e : Sh} {α : Type} {f : α → List Value} {Q : α → Prop} (h : ∀ x, e.ok w x → ∃ d, x = f d ∧ Q d) : ∀ {xs : List (List Value)} (_ : ∀ x ∈ xs, e.ok w x), ∃ ds : List α, xs.flatten = recs f ds ∧ ds.length = xs.length ∧ ∀ d ∈ ds, Q d := by
  intro xs
  induction xs with
  | nil => intro _; exact ⟨[], rfl, rfl, fun d hd => by cases hd⟩
  | cons x xs ih =>
    intro hx
    obtain ⟨d, rfl, hd⟩ := h x (hx x List.mem_cons_self)
    obtain ⟨ds, h1, h2, h3⟩ := ih fun y hy => hx y (List.mem_cons_of_mem _ hy)
    refine ⟨d :: ds, ?_, by simp [h2], fun y hy => ?_⟩
    · rw [List.flatten_cons, h1]; rfl
    · rcases List.mem_cons.1 hy with rfl | hy
      · exact hd
      · exact h3 y hy
theorem recs_u8 (bs : List UInt8) : recs (fun b => [u8 b]) bs = u8s bs := by
  induction bs with
  | nil => rfl
  | cons b bs ih => rw [recs, List.flatMap_cons, show List.flatMap _ bs = recs (fun b => [u8 b]) bs from rfl, ih]; rfl
theorem recs_i64 (bs : List Int) : recs (fun b => [Value.int .i64 b]) bs = i64s bs := by
  induction bs with
  | nil => rfl
  | cons b bs ih => rw [recs, List.flatMap_cons, show List.flatMap _ bs = recs (fun b => [Value.int .i64 b]) bs from rfl, ih]; rfl
theorem ok_bytes {w : World} {cs : List Value} (h : (Sh.slice 1 (.int .u8)).ok w cs) : ∃ A c bs, cs = [.slice A bs.length c] ∧ (bR A c bs.length bs).holds w := by
  obtain ⟨A, n, c, xs, rfl, h1, rfl, h2⟩ := h
  obtain ⟨bs, h3, h4, _⟩ := ok_list (f := fun b => [u8 b]) (Q := fun _ => True) (e := .int .u8) (fun x ⟨n, hx, hn⟩ => by obtain ⟨b, rfl⟩ := byte_wf hn; exact ⟨b, hx, trivial⟩) h2
  have h5 := recs_u8 bs
  rw [h3, h5, ← h4] at h1
  exact ⟨A, c, bs, by rw [h4], h1⟩
theorem ok_ints {w : World} {cs : List Value} (h : (Sh.slice 1 (.int .i64)).ok w cs) : ∃ A c, ∃ xs : List Int, cs = [.slice A xs.length c] ∧ (iR A c xs.length xs).holds w ∧ ∀ x ∈ xs, (Lit.int .i64 x).wf = true := by
  obtain ⟨A, n, c, xs, rfl, h1, rfl, h2⟩ := h
  obtain ⟨bs, h3, h4, h6⟩ := ok_list (f := fun b => [Value.int .i64 b]) (Q := fun n => (Lit.int .i64 n).wf = true) (e := .int .i64) (fun x ⟨n, hx, hn⟩ => ⟨n, hx, hn⟩) h2
  have h5 := recs_i64 bs
  rw [h3, h5, ← h4] at h1
  exact ⟨A, c, bs, by rw [h4], h1, h6⟩
theorem ok_arr8 {w : World} {n : Nat} {cs : List Value} (h : (Sh.rep n (.int .u8)).ok w cs) : ∃ bs : List UInt8, cs = u8s bs ∧ bs.length = n := by
  obtain ⟨xs, rfl, rfl, h2⟩ := h
  obtain ⟨bs, h3, h4, _⟩ := ok_list (f := fun b => [u8 b]) (Q := fun _ => True) (e := .int .u8) (fun x ⟨n, hx, hn⟩ => by obtain ⟨b, rfl⟩ := byte_wf hn; exact ⟨b, hx, trivial⟩) h2
  have h5 := recs_u8 bs
  exact ⟨bs, by rw [h3, h5], h4⟩
theorem ok_arrI {w : World} {n : Nat} {cs : List Value} (h : (Sh.rep n (.int .i64)).ok w cs) : ∃ xs : List Int, cs = i64s xs ∧ xs.length = n ∧ ∀ x ∈ xs, (Lit.int .i64 x).wf = true := by
  obtain ⟨xs, rfl, rfl, h2⟩ := h
  obtain ⟨bs, h3, h4, h6⟩ := ok_list (f := fun b => [Value.int .i64 b]) (Q := fun n => (Lit.int .i64 n).wf = true) (e := .int .i64) (fun x ⟨n, hx, hn⟩ => ⟨n, hx, hn⟩) h2
  have h5 := recs_i64 bs
  exact ⟨bs, by rw [h3, h5], h4, h6⟩
end Go.SX
/- Names: arrays of 32 bytes, cell by cell. -/
namespace Go.SX
open Go Go.RowKit
/-- A name's bytes as they stand in memory, each by itself. -/
def nmB (x : List UInt8) : List UInt8 := [x.getD 0 0, x.getD 1 0, x.getD 2 0, x.getD 3 0, x.getD 4 0, x.getD 5 0, x.getD 6 0, x.getD 7 0, x.getD 8 0, x.getD 9 0, x.getD 10 0, x.getD 11 0, x.getD 12 0, x.getD 13 0, x.getD 14 0, x.getD 15 0, x.getD 16 0, x.getD 17 0, x.getD 18 0, x.getD 19 0, x.getD 20 0, x.getD 21 0, x.getD 22 0, x.getD 23 0, x.getD 24 0, x.getD 25 0, x.getD 26 0, x.getD 27 0, x.getD 28 0, x.getD 29 0, x.getD 30 0, x.getD 31 0]
def nm (x : List UInt8) : List Value := [u8 (x.getD 0 0), u8 (x.getD 1 0), u8 (x.getD 2 0), u8 (x.getD 3 0), u8 (x.getD 4 0), u8 (x.getD 5 0), u8 (x.getD 6 0), u8 (x.getD 7 0), u8 (x.getD 8 0), u8 (x.getD 9 0), u8 (x.getD 10 0), u8 (x.getD 11 0), u8 (x.getD 12 0), u8 (x.getD 13 0), u8 (x.getD 14 0), u8 (x.getD 15 0), u8 (x.getD 16 0), u8 (x.getD 17 0), u8 (x.getD 18 0), u8 (x.getD 19 0), u8 (x.getD 20 0), u8 (x.getD 21 0), u8 (x.getD 22 0), u8 (x.getD 23 0), u8 (x.getD 24 0), u8 (x.getD 25 0), u8 (x.getD 26 0), u8 (x.getD 27 0), u8 (x.getD 28 0), u8 (x.getD 29 0), u8 (x.getD 30 0), u8 (x.getD 31 0)]
theorem nmB_eq {x : List UInt8} (h : x.length = 32) : nmB x = x := by
  apply List.ext_getElem?
  intro i
  have key : ∀ i, i < 32 → (nmB x)[i]? = some (x.getD i 0) := by
    intro i hi
    iterate 32 (rcases i with _ | i; · rfl)
    omega
  rcases Nat.lt_or_ge i 32 with hi | hi
  · rw [key i hi, List.getD_eq_getElem?_getD, List.getElem?_eq_getElem (by omega), Option.getD_some]
  · rw [List.getElem?_eq_none (show (nmB x).length ≤ i from hi), List.getElem?_eq_none (by omega)]
theorem nm_map (x : List UInt8) : nm x = u8s (nmB x) := rfl
theorem nm_eq {x : List UInt8} (h : x.length = 32) : nm x = u8s x := by rw [nm_map, nmB_eq h]
def nm0 : List UInt8 := List.replicate 32 0
theorem nm0_len : nm0.length = 32 := rfl
section
variable {P : Program} {e : Env} {cs : List Chunk} {T : TypeId} {pos : String} {af : Array Edge} {gu : Option (Nat × Bool)} {d : Option Tmp}
theorem Ev.eqlNm {t t' el : TypeId} {by_ : Nat} {z : Value} {x y : Operand} {us vs : List Value} (xs ys : List UInt8) [hu : Und P t (.array 32 el)] [he : Und P el (.int .u8)] [hi : Inf P el z 1 by_]
    (hx : ev e x = some (.agg us.toArray)) (hy : ev e y = some (.agg vs.toArray)) (hus : us = nm xs) (hvs : vs = nm ys) (hlx : xs.length = 32) (hly : ys.length = 32) (hgt : P.eqGuardType P.depth t = false) :
    Ev P e cs ⟨d, .binOp .eql t x y t', T, pos, af, gu⟩ (.bool (decide (xs = ys))) :=
  Ev.eqlArr xs ys hx hy (by rw [hus, nm_eq hlx]) (by rw [hvs, nm_eq hly]) hlx hly hgt
theorem Ev.neqNm {t t' el : TypeId} {by_ : Nat} {z : Value} {x y : Operand} {us vs : List Value} (xs ys : List UInt8) [hu : Und P t (.array 32 el)] [he : Und P el (.int .u8)] [hi : Inf P el z 1 by_]
    (hx : ev e x = some (.agg us.toArray)) (hy : ev e y = some (.agg vs.toArray)) (hus : us = nm xs) (hvs : vs = nm ys) (hlx : xs.length = 32) (hly : ys.length = 32) (hgt : P.eqGuardType P.depth t = false) :
    Ev P e cs ⟨d, .binOp .neq t x y t', T, pos, af, gu⟩ (.bool (decide (xs ≠ ys))) :=
  Ev.neqArr xs ys hx hy (by rw [hus, nm_eq hlx]) (by rw [hvs, nm_eq hly]) hlx hly hgt
end
theorem ok_nm {w : World} {cs : List Value} (h : (Sh.rep 32 (.int .u8)).ok w cs) : ∃ x : List UInt8, cs = nm x ∧ x.length = 32 := by
  obtain ⟨bs, rfl, hl⟩ := ok_arr8 h
  exact ⟨bs, (nm_eq hl).symm, hl⟩
end Go.SX
/- What a row's frame needs of shapes. -/
namespace Go.SX
open Go Go.RowKit
theorem shape_of {H : Type} {enc : TypeId × Value → H} {P : Program} {w : World} {base : Nat} {spare : Nat → Bool} {held : Bool} {t : TypeId} {v : Value} {d : DataW H} {p : List MemPlace} {sh : Sh}
    (h : DataW.Trod enc P w base spare held t v d p) (hs : shF P 9 t = some sh) : sh.ok w v.cells.toList := by
  obtain ⟨fuel, hf⟩ := h
  exact shF_ok 9 t sh _ hs ⟨fuel, _, hf⟩
theorem slice_one {P : Program} {w : World} {r : Reach} {base : Nat} {t e : TypeId} {v : Value} {sh : Sh} (ht : P.underlying t = some (.slice e)) (h : Value.okWide P w r base t v) (hs : sh.ok w v.cells.toList) : sh.ok w [v] := by
  obtain ⟨a, l, c, rfl⟩ := WideShapes.okWide_slice ht h
  exact hs
theorem okWide_array {P : Program} {w : World} {r : Reach} {base : Nat} {t e : TypeId} {n : Nat} {v : Value} (ht : P.underlying t = some (.array n e)) (h : Value.okWide P w r base t v) : ∃ cs, v = .agg cs := by
  simp only [Value.okWide, ht] at h
  obtain ⟨cs, h1, _⟩ := h
  exact ⟨cs, h1⟩
theorem agg_list {cs : Array Value} {L : List Value} (h : cs.toList = L) : Value.agg cs = .agg L.toArray := by rw [← h]
end Go.SX
/- Structures of one's own: lists of chunks, facts, what grows and what is cut. -/
namespace Go.SX
open Go Go.RowKit
/-- What is only known. -/
def pureC (φ : Prop) : Chunk := ⟨[], fun _ => φ, fun _ _ _ h => h, fun _ _ k hk => by cases hk⟩
theorem Triv.pure {φ : Prop} (h : φ) : Triv (pureC φ) := ⟨rfl, fun _ => h⟩
theorem pureC_holds {φ : Prop} (w : World) (h : (pureC φ).holds w) : φ := h
/-- A list of things, each with its chunk. -/
def starM {α : Type} (f : α → Chunk) (xs : List α) : Chunk := starC (xs.map f)
def holeM {α : Type} (f : α → Chunk) (xs : List α) (i : Nat) : Chunk := starC ((xs.eraseIdx i).map f)
theorem Triv.starM0 {α : Type} {f : α → Chunk} : Triv (starM f []) := ⟨rfl, fun _ => ⟨fun c hc => (by cases hc), List.Pairwise.nil⟩⟩
theorem Sub.starMAt {α : Type} [Inhabited α] {f : α → Chunk} {xs : List α} {k : Nat} (h : k < xs.length) : Sub (f (nth xs k)) (starM f xs) := Sub.starAt h
theorem starM_all {α : Type} {f : α → Chunk} {xs : List α} {w : World} (h : (starM f xs).holds w) : ∀ x ∈ xs, (f x).holds w := fun x hx => h.1 _ (List.mem_map_of_mem hx)
theorem PicksT.snocM {α : Type} {f : α → Chunk} {xs : List α} {x : α} {cs l l1 l2 l3 : List Chunk} (h1 : Pick (starM f xs) l l1) (h2 : Pick (f x) l1 l2) (h3 : PicksT cs l2 l3) : PicksT (starM f (xs ++ [x]) :: cs) l l3 := by
  unfold starM
  rw [List.map_append]
  exact PicksT.cat h1 (PicksT.cons h2 PicksT.nil) h3
theorem PicksT.oneM {α : Type} {f : α → Chunk} {x : α} {cs l l2 l3 : List Chunk} (h2 : Pick (f x) l l2) (h3 : PicksT cs l2 l3) : PicksT (starM f [x] :: cs) l l3 :=
  PicksT.star (PicksT.cons h2 PicksT.nil) h3
theorem PicksT.recSnoc {α : Type} {f : α → List Value} {xs : List α} {x : α} {ys : List Value} {A : Option Addr} {c : Nat} {T : TypeId} {s n : Nat} {cs l l1 l2 : List Chunk} (h1 : Pick (rowC A c T s n (recs f xs ++ ys)) l l1) (hy : f x = ys)
    (h2 : PicksT cs l1 l2) : PicksT (rowC A c T s n (recs f (xs ++ [x])) :: cs) l l2 := by
  rw [recs_snoc, hy]
  exact PicksT.cons h1 h2
theorem Perm.star {cs ds : List Chunk} (h : cs.Perm ds) : Sub (starC ds) (starC cs) :=
  ⟨fun k hk => by obtain ⟨c, hc, hk⟩ := mem_fps.1 hk; exact mem_fps.2 ⟨c, h.mem_iff.2 hc, hk⟩,
   fun w hw => ⟨fun c hc => hw.1 c (h.mem_iff.2 hc), (h.pairwise_iff (fun {c d} => sep_symm)).1 hw.2⟩⟩
theorem holeM_perm {α : Type} [Inhabited α] (xs : List α) (i : Nat) (h : i < xs.length) : (nth xs i :: xs.eraseIdx i).Perm xs := by
  induction xs generalizing i with
  | nil => simp at h
  | cons x xs ih =>
    cases i with
    | zero => exact List.Perm.refl _
    | succ i =>
      have := ih i (by simpa using h)
      exact (List.Perm.swap _ _ _).trans (List.Perm.cons _ this)
theorem eraseIdx_set {α : Type} (xs : List α) (i : Nat) (x : α) : (xs.set i x).eraseIdx i = xs.eraseIdx i := by
  induction xs generalizing i with
  | nil => rfl
  | cons y ys ih => cases i with
    | zero => rfl
    | succ i => simp [ih]
theorem PicksT.fillM {α : Type} [Inhabited α] {f : α → Chunk} {xs : List α} {x : α} {i : Nat} {cs l l1 l2 l3 : List Chunk} (h : i < xs.length) (h1 : Pick (f x) l l1) (h2 : Pick (holeM f xs i) l1 l2) (h3 : PicksT cs l2 l3) :
    PicksT (starM f (xs.set i x) :: cs) l l3 := by
  have hp : ((x :: xs.eraseIdx i).map f).Perm ((xs.set i x).map f) := by
    refine List.Perm.map f ?_
    have := holeM_perm (xs.set i x) i (by simpa using h)
    rw [eraseIdx_set, nth_get (by simpa using h), List.getElem_set_self] at this
    exact this
  -- the hole and the new one, as one
  have k : Sub (starC ((x :: xs.eraseIdx i).map f)) (starC ((xs.eraseIdx i).map f ++ [f x])) := Perm.star (by rw [List.map_cons]; exact (List.perm_append_singleton (f x) _))
  have k2 : Sub (starM f (xs.set i x)) (starC ((xs.eraseIdx i).map f ++ [f x])) := Sub.trans (Perm.star hp) k
  -- the order of picking: the hole lies behind the new one
  obtain ⟨l4, h4, h5⟩ : ∃ l4, Pick (holeM f xs i) l l4 ∧ Pick (f x) l4 l2 := by
    clear k k2 hp h3
    induction h1 generalizing l2 with
    | here => exact ⟨_, Pick.there h2, Pick.here⟩
    | there h1 ih =>
      cases h2 with
      | here => exact ⟨_, Pick.here, h1⟩
      | there h2 =>
        obtain ⟨l4, a, b⟩ := ih h2
        exact ⟨_, Pick.there a, Pick.there b⟩
  exact PicksT.via (PicksT.cat h4 (PicksT.cons h5 PicksT.nil) PicksT.nil) k2 h3
theorem St.focusM {α : Type} [Inhabited α] {f : α → Chunk} {xs : List α} {i : Nat} {S : List Nat} {w0 w : World} {l r : List Chunk} (hi : i < xs.length) (h : St S w0 w (starM f xs :: l) r) : St S w0 w (f (nth xs i) :: holeM f xs i :: l) r := by
  have h1 : St S w0 w (xs.map f ++ l) r := h.starOpen
  have h2 : St S w0 w ((nth xs i :: xs.eraseIdx i).map f ++ l) r := h1.perm (List.Perm.append_right _ (List.Perm.map f (holeM_perm xs i hi).symm))
  have h3 : St S w0 w ((xs.eraseIdx i).map f ++ (f (nth xs i) :: l)) r := h2.perm (by
    rw [List.map_cons, List.cons_append]
    exact (List.perm_middle).symm)
  exact h3.starClose.perm (List.Perm.swap _ _ _)
section
variable {P : Program} {n : Nat} {S : List Nat} {w0 : World} {r : List Chunk} {α : Type} [Inhabited α] {f : α → Chunk} {xs : List α}
theorem W.focusM {ops : Array Oper} {K : QS} {rest : List Oper} {e : Env} {l l1 : List Chunk} (i : Nat) (hp : Pick (starM f xs) l l1) (hi : i < xs.length) (h : W P n S w0 r ops K rest e (f (nth xs i) :: holeM f xs i :: l1)) : W P n S w0 r ops K rest e l :=
  ⟨fun a w he hs => h.out a w he ((hs.perm hp.perm).focusM hi)⟩
theorem WC.focusM {c : Code} {K : QS} {e : Env} {l l1 : List Chunk} (i : Nat) (hp : Pick (starM f xs) l l1) (hi : i < xs.length) (h : WC P n S w0 r c K e (f (nth xs i) :: holeM f xs i :: l1)) : WC P n S w0 r c K e l :=
  ⟨fun a w he hs => h.out a w he ((hs.perm hp.perm).focusM hi)⟩
end
/-- A slice's own array, cut. -/
theorem Sub.hiOwn {A : Option Addr} {c : Nat} {T : TypeId} {s m n : Nat} {us : List Value} (h : m ≤ n) : Sub (rowC A c T s m (us.take (m * s))) (rowC A c T s n us) := by
  constructor
  · intro k hk
    rw [rowC_fp] at hk ⊢
    exact hk
  · intro w hw
    rw [rowC_holds] at hw ⊢
    have hle : m * s ≤ n * s := Nat.mul_le_mul_right _ h
    have hl := hw.1
    rcases hw.2 with h0 | ⟨g, cap, cur, hv, hb, hh, h1, h2, h3, h4⟩
    · have hn : n = 0 := by injection h0.1
      obtain rfl : m = 0 := by omega
      refine ⟨by simp, .inl ⟨?_, ?_⟩⟩
      · rw [← hn]; exact h0.1.trans (by rw [hn])
      · simp
    · injection hv with hA hn hc
      subst hA
      subst hc
      refine ⟨by rw [List.length_take, hl]; exact Nat.min_eq_left hle, .inr ⟨g, c, cur, rfl, hb, hh, by omega, h2, h3, ?_⟩⟩
      rw [← h4, List.take_take, Nat.min_eq_left hle]
theorem Sub.hiOwnB {A : Option Addr} {c : Nat} {T : TypeId} {m n : Nat} {bs : List UInt8} (h : m ≤ n) : Sub (bO A c T m (bs.take m)) (bO A c T n bs) := by
  have := Sub.hiOwn (A := A) (c := c) (T := T) (s := 1) (us := u8s bs) h
  rwa [Nat.mul_one, u8s_take] at this
theorem Sub.hiOwnI {A : Option Addr} {c : Nat} {T : TypeId} {m n : Nat} {xs : List Int} (h : m ≤ n) : Sub (iO A c T m (xs.take m)) (iO A c T n xs) := by
  have := Sub.hiOwn (A := A) (c := c) (T := T) (s := 1) (us := i64s xs) h
  rwa [Nat.mul_one, show (i64s xs).take m = i64s (xs.take m) by simp [i64s, List.map_take]] at this
/-- Slices of bytes, in a slice. -/
structure BH where
  A : Option Addr
  c : Nat
  n : Nat
  bs : List UInt8
  deriving Inhabited
def BH.cell (h : BH) : List Value := [.slice h.A h.n h.c]
def BH.own (T : TypeId) (h : BH) : Chunk := bO h.A h.c T h.n h.bs
theorem BH.own_len {T : TypeId} {hs : List BH} {w : World} (h : (starM (BH.own T) hs).holds w) : ∀ x ∈ hs, x.n = x.bs.length := fun x hx => bO_len (starM_all h x hx)
theorem nth_map {α β : Type} [Inhabited α] [Inhabited β] {f : α → β} {xs : List α} {i : Nat} (h : i < xs.length) : nth (xs.map f) i = f (nth xs i) := by
  rw [nth_get (by simpa using h), nth_get h]; simp
theorem nth_set_self {α : Type} [Inhabited α] {xs : List α} {i : Nat} {x : α} (h : i < xs.length) : nth (xs.set i x) i = x := by rw [nth_get (by simpa using h)]; simp
theorem nth_set_ne {α : Type} [Inhabited α] {xs : List α} {i j : Nat} {x : α} (h : i ≠ j) : nth (xs.set i x) j = nth xs j := by simp [nth, List.getD, List.getElem?_set_ne h]
/-- What is asked of a callee may be found among more. -/
theorem Spec.frame {P : Program} {f : FuncId} {args : List Value} {l0 l l1 r0 r : List Chunk} {post : Value → List Chunk → Prop} (h : Spec P f args l0 r0 post) (hp : PicksT l0 l l1) (hr : Rds r0 (l1 ++ r)) :
    Spec P f args l r (fun v l' => ∃ l2, post v l2 ∧ l' = l2 ++ l1) :=
  ⟨fun w hs => by
    have hs' := hs.picksT hp
    exact (h.out w (hs'.handed hr)).mono fun e w' ⟨v, l2, h1, h2, h3⟩ => ⟨v, l2 ++ l1, h1, ⟨l2, h2, rfl⟩, hs'.part h3⟩⟩
end Go.SX
namespace Go.SX
open Go Go.RowKit
theorem PicksT.pur {φ : Prop} {cs l l1 : List Chunk} (h : φ) (k : PicksT cs l l1) : PicksT (pureC φ :: cs) l l1 := PicksT.triv (Triv.pure h) k
theorem PicksT.cutB {A : Option Addr} {c m n j : Nat} {T : TypeId} {bs : List UInt8} {cs l l1 l2 : List Chunk} (h : Pick (bO A c T n bs) l l1) (hm : m ≤ n) (he : j = m) (k : PicksT cs l1 l2) : PicksT (bO A c T m (bs.take j) :: cs) l l2 := by
  subst he
  exact PicksT.sub h (Sub.hiOwnB hm) k
theorem PicksT.snocBH {A Ax : Option Addr} {c n cx nx : Nat} {T Tu : TypeId} {hs : List BH} {bs : List UInt8} {cs l l1 l2 l3 l4 : List Chunk} (h1 : Pick (rowC A c T 1 n (recs BH.cell hs ++ [.slice Ax nx cx])) l l1) (h2 : Pick (starM (BH.own Tu) hs) l1 l2)
    (h3 : Pick (bO Ax cx Tu nx bs) l2 l3) (k : PicksT cs l3 l4) : PicksT (rowC A c T 1 n (recs BH.cell (hs ++ [⟨Ax, cx, nx, bs⟩])) :: starM (BH.own Tu) (hs ++ [⟨Ax, cx, nx, bs⟩]) :: cs) l l4 := by
  rw [recs_snoc]
  exact PicksT.cons h1 (PicksT.snocM h2 h3 k)
end Go.SX
namespace Go.SX
open Go Go.RowKit
/-- copy(x, y), from the head. -/
theorem Stp.copyIn0 {P : Program} {S : List Nat} {w0 : World} {r l l1 : List Chunk} {e : Env} {T : TypeId} {pos : String} {af : Array Edge} {gu : Option (Nat × Bool)} {d : Option Tmp} {t t' el : TypeId} {z : Value} {by_ n c m c' : Nat} {A A' : Option Addr} {us vs : List UInt8} {x y : Operand} [hu : Und P t (.slice el)] [hi : Inf P el z 1 by_]
    (hx : ev e x = some (.slice A n c)) (hy : ev e y = some (.slice A' m c')) (hp : Pick (bO A c el n us) l l1) (hr : Rd (bR A' c' m vs) (l1 ++ r)) (hm : m ≤ n) :
    Stp P S w0 r ⟨d, .call ⟨.builtin .copy, #[x, y], #[t, t']⟩, T, pos, af, gu⟩ e l (fun v l' => v = .int .i64 m ∧ l' = bO A c el n (vs ++ us.drop m) :: l1) := by
  have := Stp.copyInBq (P := P) (S := S) (w0 := w0) (r := r) (d := d) (T := T) (pos := pos) (af := af) (gu := gu) (t := t) (t' := t') (e := e) (l := l) (lo := 0) (q := n) (n := n) (c := c) (A := A) (x := x) (y := y) (by rw [subA_zero]; exact hx) hy hp hr (by omega) hm
  simpa using this
end Go.SX
namespace Go.SX
open Go Go.RowKit
/-- What a callee asks is shown behind the chunks. -/
theorem Spec.ask {P : Program} {f : FuncId} {args : List Value} {l r : List Chunk} {post : Value → List Chunk → Prop} {φ : Prop} (h : φ → Spec P f args l r post) : Spec P f args l (r ++ [pureC φ]) post :=
  ⟨fun w hs => by
    have hφ : φ := hs.ro (pureC φ) (by simp)
    have hs' : St (fps l) w w l r := { hs with ro := fun c hc => hs.ro c (List.mem_append_left _ hc), sepr := fun c hc d hd => hs.sepr c hc d (List.mem_append_left _ hd) }
    refine ((h hφ).out w hs').mono fun e w' ⟨v, l', h1, h2, h3⟩ => ⟨v, l', h1, h2, ?_⟩
    refine { h3 with ro := ?_, sepr := ?_ }
    · intro c hc
      rcases List.mem_append.1 hc with hc | hc
      · exact h3.ro c hc
      · obtain rfl := List.mem_singleton.1 hc; exact hφ
    · intro c hc d hd k hk
      rcases List.mem_append.1 hd with hd | hd
      · exact h3.sepr c hc d hd k hk
      · obtain rfl := List.mem_singleton.1 hd; simp [pureC]⟩
end Go.SX
namespace Go.SX
open Go Go.RowKit
theorem PicksT.refl : ∀ l : List Chunk, PicksT l l []
  | [] => .nil
  | _ :: l => .cons Pick.here (PicksT.refl l)
theorem ChLe.refl (l : List Chunk) : ChLe l l := ⟨[], PicksT.refl l⟩
/-- A loop that leaves the memory as it is. -/
theorem WC.loopS {P : Program} {n : Nat} {S : List Nat} {w0 : World} {r : List Chunk} {X : Type} (x0 : X) (p : X → Prop) (M : X → Env) (μ : X → Nat) (live : List Nat) {c : Code} {K : QS} {e : Env} {l : List Chunk}
    (hp : p x0) (h : restrK e live [] (fun rest => LoopQ P n S w0 r X x0 p (fun x => M x ++ rest) (fun _ => l) μ c K e l)) : WC P n S w0 r (.loop c) K e l := WC.loopL x0 p M (fun _ => l) μ live hp h
theorem bs_eq {hs ws : List BH} {k : Nat} (h : ws.map BH.bs = hs.map BH.bs) (hk : k < hs.length) : (nth hs k).bs = (nth ws k).bs := by
  have hl : ws.length = hs.length := by simpa using congrArg List.length h
  have : nth (ws.map BH.bs) k = nth (hs.map BH.bs) k := by rw [h]
  rw [nth_map (by omega), nth_map hk] at this
  exact this.symm
end Go.SX
namespace Go.SX
open Go Go.RowKit
theorem Sub.allAt' {α : Type} [Inhabited α] {g : α → Chunk} {xs : List α} {k : Nat} {c : Chunk} (hc : c = g (nth xs k)) (h : k < xs.length) : Sub c (allC (xs.map g)) := by rw [hc]; exact Sub.allAt h
theorem Sub.starMAt' {α : Type} [Inhabited α] {f : α → Chunk} {xs : List α} {k : Nat} {c : Chunk} (hc : c = f (nth xs k)) (h : k < xs.length) : Sub c (starM f xs) := by rw [hc]; exact Sub.starMAt h
end Go.SX
namespace Go.SX
open Go Go.RowKit
theorem Picks.refl : ∀ l : List Chunk, Picks l l []
  | [] => .nil
  | _ :: l => .cons Pick.here (Picks.refl l)
end Go.SX
namespace Go.SX
open Go Go.RowKit
theorem PicksT.asR {A : Option Addr} {c n s : Nat} {T : TypeId} {us : List Value} {cs l l1 l2 : List Chunk} (h : Pick (rowC A c T s n us) l l1) (k : PicksT cs l1 l2) : PicksT (sliceC A c s n us :: cs) l l2 :=
  PicksT.sub h Sub.row k
theorem PicksT.loR {A : Option Addr} {c n m q : Nat} {bs : List UInt8} {cs l l1 l2 : List Chunk} (h : Pick (bR A c n bs) l l1) (hq : q + m = n ∧ bs.length ≤ n) (k : PicksT cs l1 l2) : PicksT (bR (subA A c m 1) (c - m) q (bs.drop m) :: cs) l l2 :=
  PicksT.sub h (Sub.loBq hq) k
theorem chLeI {l l0 : List Chunk} (h : ChLe l l0) : ChLe l l0 := h
end Go.SX
/- The searches for chunks, as default arguments. -/
namespace Go.SX
open Go Go.RowKit
theorem rdA {c : Chunk} {l : List Chunk} (h : Rd c l := by (repeat (first | exact Rds.nil | refine Rds.cons ?_ ?_ | (refine Rd.triv (Triv.pure ?_); (focus (repeat' (first | (refine And.intro ?_ ?_) | (first | assumption | omega | (dsimp only; omega) | rfl | decide | (constructor <;> omega) | (simp only [List.length_take, List.length_append, List.length_map, List.length_singleton, List.length_nil, List.length_cons]; omega) | (simp; done) | (simp; omega) | (simp_all; done)))))) | exact Rd.triv Triv.nilB | exact Rd.triv Triv.nilI | exact Rd.here (Sub.refl _) | exact Rd.here Sub.row | exact Rd.here (Sub.hiB (by omega)) | exact Rd.here (Sub.loBq (by omega)) | exact Rd.here (Sub.cutBq (by omega)) | exact Rd.here (Sub.trans (Sub.hiB (by omega)) Sub.row) | exact Rd.here (Sub.trans (Sub.loBq (by omega)) Sub.row) | exact Rd.here (Sub.trans (Sub.cutBq (by omega)) Sub.row) | exact Rd.here (Sub.hiI (by omega)) | exact Rd.here (Sub.loIq (by omega)) | exact Rd.here (Sub.cutIq (by omega)) | exact Rd.here (Sub.trans (Sub.hiI (by omega)) Sub.row) | exact Rd.here (Sub.trans (Sub.loIq (by omega)) Sub.row) | exact Rd.here (Sub.trans (Sub.cutIq (by omega)) Sub.row) | exact Rd.here (Sub.loB (by omega)) | exact Rd.here (Sub.cutB (by omega)) | exact Rd.here (Sub.trans (Sub.loB (by omega)) Sub.row) | exact Rd.here (Sub.trans (Sub.cutB (by omega)) Sub.row) | exact Rd.here (Sub.loI (by omega)) | exact Rd.here (Sub.cutI (by omega)) | exact Rd.here (Sub.trans (Sub.loI (by omega)) Sub.row) | exact Rd.here (Sub.trans (Sub.cutI (by omega)) Sub.row) | exact Rd.triv Triv.nilSlice | exact Rd.here (Sub.allAt' rfl (by omega)) | exact Rd.here (Sub.trans (Sub.hiB (by omega)) (Sub.allAt' rfl (by omega))) | exact Rd.here (Sub.trans Sub.row (Sub.starMAt' rfl (by omega))) | exact Rd.here (Sub.trans (Sub.hiB (by omega)) (Sub.trans Sub.row (Sub.starMAt' rfl (by omega)))) | refine Rd.there ?_)); fail_if_success (focus skip)) : Rd c l := h
theorem rdsA {cs l : List Chunk} (h : Rds cs l := by (repeat (first | exact Rds.nil | refine Rds.cons ?_ ?_ | (refine Rd.triv (Triv.pure ?_); (focus (repeat' (first | (refine And.intro ?_ ?_) | (first | assumption | omega | (dsimp only; omega) | rfl | decide | (constructor <;> omega) | (simp only [List.length_take, List.length_append, List.length_map, List.length_singleton, List.length_nil, List.length_cons]; omega) | (simp; done) | (simp; omega) | (simp_all; done)))))) | exact Rd.triv Triv.nilB | exact Rd.triv Triv.nilI | exact Rd.here (Sub.refl _) | exact Rd.here Sub.row | exact Rd.here (Sub.hiB (by omega)) | exact Rd.here (Sub.loBq (by omega)) | exact Rd.here (Sub.cutBq (by omega)) | exact Rd.here (Sub.trans (Sub.hiB (by omega)) Sub.row) | exact Rd.here (Sub.trans (Sub.loBq (by omega)) Sub.row) | exact Rd.here (Sub.trans (Sub.cutBq (by omega)) Sub.row) | exact Rd.here (Sub.hiI (by omega)) | exact Rd.here (Sub.loIq (by omega)) | exact Rd.here (Sub.cutIq (by omega)) | exact Rd.here (Sub.trans (Sub.hiI (by omega)) Sub.row) | exact Rd.here (Sub.trans (Sub.loIq (by omega)) Sub.row) | exact Rd.here (Sub.trans (Sub.cutIq (by omega)) Sub.row) | exact Rd.here (Sub.loB (by omega)) | exact Rd.here (Sub.cutB (by omega)) | exact Rd.here (Sub.trans (Sub.loB (by omega)) Sub.row) | exact Rd.here (Sub.trans (Sub.cutB (by omega)) Sub.row) | exact Rd.here (Sub.loI (by omega)) | exact Rd.here (Sub.cutI (by omega)) | exact Rd.here (Sub.trans (Sub.loI (by omega)) Sub.row) | exact Rd.here (Sub.trans (Sub.cutI (by omega)) Sub.row) | exact Rd.triv Triv.nilSlice | exact Rd.here (Sub.allAt' rfl (by omega)) | exact Rd.here (Sub.trans (Sub.hiB (by omega)) (Sub.allAt' rfl (by omega))) | exact Rd.here (Sub.trans Sub.row (Sub.starMAt' rfl (by omega))) | exact Rd.here (Sub.trans (Sub.hiB (by omega)) (Sub.trans Sub.row (Sub.starMAt' rfl (by omega)))) | refine Rd.there ?_)); fail_if_success (focus skip)) : Rds cs l := h
theorem pkA {c : Chunk} {l l' : List Chunk} (h : Pick c l l' := by (repeat constructor); fail_if_success (focus skip)) : Pick c l l' := h
theorem picksA {ls l l' : List Chunk} (h : Picks ls l l' := by (repeat constructor); fail_if_success (focus skip)) : Picks ls l l' := h
theorem pksA {cs l l' : List Chunk} (h : PicksT cs l l' := by (repeat (first | exact PicksT.nil | (apply PicksT.cons; (focus ((repeat constructor); done))) | (apply PicksT.triv Triv.nilRow) | (apply PicksT.triv Triv.starM0) | (apply PicksT.pur; (focus (first | trivial | omega | (refine ⟨?_, ?_⟩ <;> (first | rfl | trivial | assumption | omega | (simp only [List.length_take, List.length_append, List.length_map, List.length_singleton, List.length_nil, List.length_cons, Nat.min_def]; omega) | (simp only [List.length_take, List.length_append, List.length_map, List.length_singleton, List.length_nil, List.length_cons, Nat.min_def]; split <;> omega) | (simp; done) | (simp; omega) | (simp_all; done) | (simp_all; omega))) | (refine ⟨?_, ?_, ?_⟩ <;> (first | rfl | trivial | assumption | omega | (simp only [List.length_take, List.length_append, List.length_map, List.length_singleton, List.length_nil, List.length_cons, Nat.min_def]; omega) | (simp only [List.length_take, List.length_append, List.length_map, List.length_singleton, List.length_nil, List.length_cons, Nat.min_def]; split <;> omega) | (simp; done) | (simp; omega) | (simp_all; done) | (simp_all; omega))) | (refine ⟨?_, ?_, ?_, ?_⟩ <;> (first | rfl | trivial | assumption | omega | (simp only [List.length_take, List.length_append, List.length_map, List.length_singleton, List.length_nil, List.length_cons, Nat.min_def]; omega) | (simp only [List.length_take, List.length_append, List.length_map, List.length_singleton, List.length_nil, List.length_cons, Nat.min_def]; split <;> omega) | (simp; done) | (simp; omega) | (simp_all; done) | (simp_all; omega))) | (first | rfl | trivial | assumption | omega | (simp only [List.length_take, List.length_append, List.length_map, List.length_singleton, List.length_nil, List.length_cons, Nat.min_def]; omega) | (simp only [List.length_take, List.length_append, List.length_map, List.length_singleton, List.length_nil, List.length_cons, Nat.min_def]; split <;> omega) | (simp; done) | (simp; omega) | (simp_all; done) | (simp_all; omega))))) | (apply PicksT.cutB; (focus ((repeat constructor); done)); (focus first | omega | (dsimp only; omega)); (focus first | omega | (dsimp only; omega))) | (apply PicksT.snocBH; (focus ((repeat constructor); done)); (focus ((repeat constructor); done)); (focus ((repeat constructor); done))) | (apply PicksT.triv Triv.nilB) | (apply PicksT.triv Triv.nilSlice) | (apply PicksT.asR; (focus ((repeat constructor); done))) | (apply PicksT.loR; (focus ((repeat constructor); done)); (focus first | omega | (constructor <;> omega) | (simp; omega))) | (apply PicksT.star))); fail_if_success (focus skip)) : PicksT cs l l' := h
end Go.SX
