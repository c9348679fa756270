/- Joins: what stands behind is walked once (more ghosts). Printed by a program. -/
import Derived.Test.YtaopfkmlmpimdaaTy
namespace Go.SX
open Go Go.RowKit Go.Proofs
section
variable {P : Program} {n : Nat} {S : List Nat} {w0 : World} {r : List Chunk}
structure CutQ2 (P : Program) (n : Nat) (S : List Nat) (w0 : World) (r : List Chunk) (X Y : Type) (p : X → Y → Prop) (E : X → Y → Env) (L : X → Y → List Chunk) (a b : Code) (K : QS) (e : Env) (l : List Chunk) : Prop where
  h1 : WC P n S w0 r a (thenK (fun e' l' => ∃ x y, p x y ∧ EnvLe e' (E x y) ∧ ChLe l' (L x y)) K) e l
  h2 : ∀ x y, p x y → WC P n S w0 r b K (E x y) (L x y)
theorem WC.cutL2 {X Y : Type} (p : X → Y → Prop) (M : X → Y → Env) (L : X → Y → List Chunk) (live : List Nat) {a b : Code} {K : QS} {e : Env} {l : List Chunk}
    (h : restrK e live [] (fun rest => CutQ2 P n S w0 r X Y p (fun x y => M x y ++ rest) L a b K e l)) : WC P n S w0 r (a.seq b) K e l := by
  obtain ⟨rest, h⟩ := restrK_el h
  refine WC.cut (X := X × Y) (fun w => p w.1 w.2) (fun w => M w.1 w.2 ++ rest) (fun w => L w.1 w.2) (WC.mono h.h1 fun ex e' l' hk => ?_) (fun w hw => h.h2 w.1 w.2 hw)
  cases ex with
  | normal => obtain ⟨x, y, h1, h2, h3⟩ := hk; exact ⟨(x, y), h1, h2, h3⟩
  | _ => exact hk
structure CutQ3 (P : Program) (n : Nat) (S : List Nat) (w0 : World) (r : List Chunk) (X Y Z : Type) (p : X → Y → Z → Prop) (E : X → Y → Z → Env) (L : X → Y → Z → List Chunk) (a b : Code) (K : QS) (e : Env) (l : List Chunk) : Prop where
  h1 : WC P n S w0 r a (thenK (fun e' l' => ∃ x y z, p x y z ∧ EnvLe e' (E x y z) ∧ ChLe l' (L x y z)) K) e l
  h2 : ∀ x y z, p x y z → WC P n S w0 r b K (E x y z) (L x y z)
theorem WC.cutL3 {X Y Z : Type} (p : X → Y → Z → Prop) (M : X → Y → Z → Env) (L : X → Y → Z → List Chunk) (live : List Nat) {a b : Code} {K : QS} {e : Env} {l : List Chunk}
    (h : restrK e live [] (fun rest => CutQ3 P n S w0 r X Y Z p (fun x y z => M x y z ++ rest) L a b K e l)) : WC P n S w0 r (a.seq b) K e l := by
  obtain ⟨rest, h⟩ := restrK_el h
  refine WC.cut (X := X × Y × Z) (fun w => p w.1 w.2.1 w.2.2) (fun w => M w.1 w.2.1 w.2.2 ++ rest) (fun w => L w.1 w.2.1 w.2.2) (WC.mono h.h1 fun ex e' l' hk => ?_) (fun w hw => h.h2 w.1 w.2.1 w.2.2 hw)
  cases ex with
  | normal => obtain ⟨x, y, z, h1, h2, h3⟩ := hk; exact ⟨(x, y, z), h1, h2, h3⟩
  | _ => exact hk
structure CutQ4 (P : Program) (n : Nat) (S : List Nat) (w0 : World) (r : List Chunk) (X Y Z U : Type) (p : X → Y → Z → U → Prop) (E : X → Y → Z → U → Env) (L : X → Y → Z → U → List Chunk) (a b : Code) (K : QS) (e : Env) (l : List Chunk) : Prop where
  h1 : WC P n S w0 r a (thenK (fun e' l' => ∃ x y z u, p x y z u ∧ EnvLe e' (E x y z u) ∧ ChLe l' (L x y z u)) K) e l
  h2 : ∀ x y z u, p x y z u → WC P n S w0 r b K (E x y z u) (L x y z u)
theorem WC.cutL4 {X Y Z U : Type} (p : X → Y → Z → U → Prop) (M : X → Y → Z → U → Env) (L : X → Y → Z → U → List Chunk) (live : List Nat) {a b : Code} {K : QS} {e : Env} {l : List Chunk}
    (h : restrK e live [] (fun rest => CutQ4 P n S w0 r X Y Z U p (fun x y z u => M x y z u ++ rest) L a b K e l)) : WC P n S w0 r (a.seq b) K e l := by
  obtain ⟨rest, h⟩ := restrK_el h
  refine WC.cut (X := X × Y × Z × U) (fun w => p w.1 w.2.1 w.2.2.1 w.2.2.2) (fun w => M w.1 w.2.1 w.2.2.1 w.2.2.2 ++ rest) (fun w => L w.1 w.2.1 w.2.2.1 w.2.2.2) (WC.mono h.h1 fun ex e' l' hk => ?_) (fun w hw => h.h2 w.1 w.2.1 w.2.2.1 w.2.2.2 hw)
  cases ex with
  | normal => obtain ⟨x, y, z, u, h1, h2, h3⟩ := hk; exact ⟨(x, y, z, u), h1, h2, h3⟩
  | _ => exact hk
structure CutQ5 (P : Program) (n : Nat) (S : List Nat) (w0 : World) (r : List Chunk) (X Y Z U V : Type) (p : X → Y → Z → U → V → Prop) (E : X → Y → Z → U → V → Env) (L : X → Y → Z → U → V → List Chunk) (a b : Code) (K : QS) (e : Env) (l : List Chunk) : Prop where
  h1 : WC P n S w0 r a (thenK (fun e' l' => ∃ x y z u v, p x y z u v ∧ EnvLe e' (E x y z u v) ∧ ChLe l' (L x y z u v)) K) e l
  h2 : ∀ x y z u v, p x y z u v → WC P n S w0 r b K (E x y z u v) (L x y z u v)
theorem WC.cutL5 {X Y Z U V : Type} (p : X → Y → Z → U → V → Prop) (M : X → Y → Z → U → V → Env) (L : X → Y → Z → U → V → List Chunk) (live : List Nat) {a b : Code} {K : QS} {e : Env} {l : List Chunk}
    (h : restrK e live [] (fun rest => CutQ5 P n S w0 r X Y Z U V p (fun x y z u v => M x y z u v ++ rest) L a b K e l)) : WC P n S w0 r (a.seq b) K e l := by
  obtain ⟨rest, h⟩ := restrK_el h
  refine WC.cut (X := X × Y × Z × U × V) (fun w => p w.1 w.2.1 w.2.2.1 w.2.2.2.1 w.2.2.2.2) (fun w => M w.1 w.2.1 w.2.2.1 w.2.2.2.1 w.2.2.2.2 ++ rest) (fun w => L w.1 w.2.1 w.2.2.1 w.2.2.2.1 w.2.2.2.2) (WC.mono h.h1 fun ex e' l' hk => ?_) (fun w hw => h.h2 w.1 w.2.1 w.2.2.1 w.2.2.2.1 w.2.2.2.2 hw)
  cases ex with
  | normal => obtain ⟨x, y, z, u, v, h1, h2, h3⟩ := hk; exact ⟨(x, y, z, u, v), h1, h2, h3⟩
  | _ => exact hk
structure CutQ6 (P : Program) (n : Nat) (S : List Nat) (w0 : World) (r : List Chunk) (X Y Z U V T : Type) (p : X → Y → Z → U → V → T → Prop) (E : X → Y → Z → U → V → T → Env) (L : X → Y → Z → U → V → T → List Chunk) (a b : Code) (K : QS) (e : Env) (l : List Chunk) : Prop where
  h1 : WC P n S w0 r a (thenK (fun e' l' => ∃ x y z u v t, p x y z u v t ∧ EnvLe e' (E x y z u v t) ∧ ChLe l' (L x y z u v t)) K) e l
  h2 : ∀ x y z u v t, p x y z u v t → WC P n S w0 r b K (E x y z u v t) (L x y z u v t)
theorem WC.cutL6 {X Y Z U V T : Type} (p : X → Y → Z → U → V → T → Prop) (M : X → Y → Z → U → V → T → Env) (L : X → Y → Z → U → V → T → List Chunk) (live : List Nat) {a b : Code} {K : QS} {e : Env} {l : List Chunk}
    (h : restrK e live [] (fun rest => CutQ6 P n S w0 r X Y Z U V T p (fun x y z u v t => M x y z u v t ++ rest) L a b K e l)) : WC P n S w0 r (a.seq b) K e l := by
  obtain ⟨rest, h⟩ := restrK_el h
  refine WC.cut (X := X × Y × Z × U × V × T) (fun w => p w.1 w.2.1 w.2.2.1 w.2.2.2.1 w.2.2.2.2.1 w.2.2.2.2.2) (fun w => M w.1 w.2.1 w.2.2.1 w.2.2.2.1 w.2.2.2.2.1 w.2.2.2.2.2 ++ rest) (fun w => L w.1 w.2.1 w.2.2.1 w.2.2.2.1 w.2.2.2.2.1 w.2.2.2.2.2) (WC.mono h.h1 fun ex e' l' hk => ?_) (fun w hw => h.h2 w.1 w.2.1 w.2.2.1 w.2.2.2.1 w.2.2.2.2.1 w.2.2.2.2.2 hw)
  cases ex with
  | normal => obtain ⟨x, y, z, u, v, t, h1, h2, h3⟩ := hk; exact ⟨(x, y, z, u, v, t), h1, h2, h3⟩
  | _ => exact hk
end
end Go.SX
