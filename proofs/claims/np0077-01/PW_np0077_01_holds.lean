import PyProof.Rows.All
import Wide.All
import OpenK.AllK
import Wide.FinOn
import Lean
import PySem.Challenge.RW_np0077_01
set_option Elab.async false
set_option bootstrap.genMatcherCode false
set_option genInjectivity false
set_option genSizeOf false
set_option backward.eqns.nonrecursive false
set_option maxRecDepth 100000
set_option linter.unusedVariables false
set_option linter.unusedSimpArgs false
open PySem PySem.W PySem.Calls PyProof.Rows PyProof.V PySem.Spec PySem.SeqAt
set_option autoImplicit false
namespace Mine.Internal
theorem ex1 {A0 : Sort _} {p : A0 → Prop} {C : Prop} (h : ∃ a0, p a0) (f : ∀ a0, p a0 → C) : C := h.elim f
theorem ex2 {A0 : Sort _} {A1 : Sort _} {p : A0 → A1 → Prop} {C : Prop} (h : ∃ a0 a1, p a0 a1) (f : ∀ a0 a1, p a0 a1 → C) : C := h.elim fun a h => ex1 h (f a)
theorem ex3 {A0 : Sort _} {A1 : Sort _} {A2 : Sort _} {p : A0 → A1 → A2 → Prop} {C : Prop} (h : ∃ a0 a1 a2, p a0 a1 a2) (f : ∀ a0 a1 a2, p a0 a1 a2 → C) : C := h.elim fun a h => ex2 h (f a)
theorem ex4 {A0 : Sort _} {A1 : Sort _} {A2 : Sort _} {A3 : Sort _} {p : A0 → A1 → A2 → A3 → Prop} {C : Prop} (h : ∃ a0 a1 a2 a3, p a0 a1 a2 a3) (f : ∀ a0 a1 a2 a3, p a0 a1 a2 a3 → C) : C := h.elim fun a h => ex3 h (f a)
theorem ex5 {A0 : Sort _} {A1 : Sort _} {A2 : Sort _} {A3 : Sort _} {A4 : Sort _} {p : A0 → A1 → A2 → A3 → A4 → Prop} {C : Prop} (h : ∃ a0 a1 a2 a3 a4, p a0 a1 a2 a3 a4) (f : ∀ a0 a1 a2 a3 a4, p a0 a1 a2 a3 a4 → C) : C := h.elim fun a h => ex4 h (f a)
theorem ex6 {A0 : Sort _} {A1 : Sort _} {A2 : Sort _} {A3 : Sort _} {A4 : Sort _} {A5 : Sort _} {p : A0 → A1 → A2 → A3 → A4 → A5 → Prop} {C : Prop} (h : ∃ a0 a1 a2 a3 a4 a5, p a0 a1 a2 a3 a4 a5) (f : ∀ a0 a1 a2 a3 a4 a5, p a0 a1 a2 a3 a4 a5 → C) : C := h.elim fun a h => ex5 h (f a)
theorem ex7 {A0 : Sort _} {A1 : Sort _} {A2 : Sort _} {A3 : Sort _} {A4 : Sort _} {A5 : Sort _} {A6 : Sort _} {p : A0 → A1 → A2 → A3 → A4 → A5 → A6 → Prop} {C : Prop} (h : ∃ a0 a1 a2 a3 a4 a5 a6, p a0 a1 a2 a3 a4 a5 a6) (f : ∀ a0 a1 a2 a3 a4 a5 a6, p a0 a1 a2 a3 a4 a5 a6 → C) : C := h.elim fun a h => ex6 h (f a)
theorem ex8 {A0 : Sort _} {A1 : Sort _} {A2 : Sort _} {A3 : Sort _} {A4 : Sort _} {A5 : Sort _} {A6 : Sort _} {A7 : Sort _} {p : A0 → A1 → A2 → A3 → A4 → A5 → A6 → A7 → Prop} {C : Prop} (h : ∃ a0 a1 a2 a3 a4 a5 a6 a7, p a0 a1 a2 a3 a4 a5 a6 a7) (f : ∀ a0 a1 a2 a3 a4 a5 a6 a7, p a0 a1 a2 a3 a4 a5 a6 a7 → C) : C := h.elim fun a h => ex7 h (f a)
theorem ex9 {A0 : Sort _} {A1 : Sort _} {A2 : Sort _} {A3 : Sort _} {A4 : Sort _} {A5 : Sort _} {A6 : Sort _} {A7 : Sort _} {A8 : Sort _} {p : A0 → A1 → A2 → A3 → A4 → A5 → A6 → A7 → A8 → Prop} {C : Prop} (h : ∃ a0 a1 a2 a3 a4 a5 a6 a7 a8, p a0 a1 a2 a3 a4 a5 a6 a7 a8) (f : ∀ a0 a1 a2 a3 a4 a5 a6 a7 a8, p a0 a1 a2 a3 a4 a5 a6 a7 a8 → C) : C := h.elim fun a h => ex8 h (f a)
theorem ex10 {A0 : Sort _} {A1 : Sort _} {A2 : Sort _} {A3 : Sort _} {A4 : Sort _} {A5 : Sort _} {A6 : Sort _} {A7 : Sort _} {A8 : Sort _} {A9 : Sort _} {p : A0 → A1 → A2 → A3 → A4 → A5 → A6 → A7 → A8 → A9 → Prop} {C : Prop} (h : ∃ a0 a1 a2 a3 a4 a5 a6 a7 a8 a9, p a0 a1 a2 a3 a4 a5 a6 a7 a8 a9) (f : ∀ a0 a1 a2 a3 a4 a5 a6 a7 a8 a9, p a0 a1 a2 a3 a4 a5 a6 a7 a8 a9 → C) : C := h.elim fun a h => ex9 h (f a)
theorem ex11 {A0 : Sort _} {A1 : Sort _} {A2 : Sort _} {A3 : Sort _} {A4 : Sort _} {A5 : Sort _} {A6 : Sort _} {A7 : Sort _} {A8 : Sort _} {A9 : Sort _} {A10 : Sort _} {p : A0 → A1 → A2 → A3 → A4 → A5 → A6 → A7 → A8 → A9 → A10 → Prop} {C : Prop} (h : ∃ a0 a1 a2 a3 a4 a5 a6 a7 a8 a9 a10, p a0 a1 a2 a3 a4 a5 a6 a7 a8 a9 a10) (f : ∀ a0 a1 a2 a3 a4 a5 a6 a7 a8 a9 a10, p a0 a1 a2 a3 a4 a5 a6 a7 a8 a9 a10 → C) : C := h.elim fun a h => ex10 h (f a)
theorem ex12 {A0 : Sort _} {A1 : Sort _} {A2 : Sort _} {A3 : Sort _} {A4 : Sort _} {A5 : Sort _} {A6 : Sort _} {A7 : Sort _} {A8 : Sort _} {A9 : Sort _} {A10 : Sort _} {A11 : Sort _} {p : A0 → A1 → A2 → A3 → A4 → A5 → A6 → A7 → A8 → A9 → A10 → A11 → Prop} {C : Prop} (h : ∃ a0 a1 a2 a3 a4 a5 a6 a7 a8 a9 a10 a11, p a0 a1 a2 a3 a4 a5 a6 a7 a8 a9 a10 a11) (f : ∀ a0 a1 a2 a3 a4 a5 a6 a7 a8 a9 a10 a11, p a0 a1 a2 a3 a4 a5 a6 a7 a8 a9 a10 a11 → C) : C := h.elim fun a h => ex11 h (f a)
theorem ex13 {A0 : Sort _} {A1 : Sort _} {A2 : Sort _} {A3 : Sort _} {A4 : Sort _} {A5 : Sort _} {A6 : Sort _} {A7 : Sort _} {A8 : Sort _} {A9 : Sort _} {A10 : Sort _} {A11 : Sort _} {A12 : Sort _} {p : A0 → A1 → A2 → A3 → A4 → A5 → A6 → A7 → A8 → A9 → A10 → A11 → A12 → Prop} {C : Prop} (h : ∃ a0 a1 a2 a3 a4 a5 a6 a7 a8 a9 a10 a11 a12, p a0 a1 a2 a3 a4 a5 a6 a7 a8 a9 a10 a11 a12) (f : ∀ a0 a1 a2 a3 a4 a5 a6 a7 a8 a9 a10 a11 a12, p a0 a1 a2 a3 a4 a5 a6 a7 a8 a9 a10 a11 a12 → C) : C := h.elim fun a h => ex12 h (f a)
theorem ex14 {A0 : Sort _} {A1 : Sort _} {A2 : Sort _} {A3 : Sort _} {A4 : Sort _} {A5 : Sort _} {A6 : Sort _} {A7 : Sort _} {A8 : Sort _} {A9 : Sort _} {A10 : Sort _} {A11 : Sort _} {A12 : Sort _} {A13 : Sort _} {p : A0 → A1 → A2 → A3 → A4 → A5 → A6 → A7 → A8 → A9 → A10 → A11 → A12 → A13 → Prop} {C : Prop} (h : ∃ a0 a1 a2 a3 a4 a5 a6 a7 a8 a9 a10 a11 a12 a13, p a0 a1 a2 a3 a4 a5 a6 a7 a8 a9 a10 a11 a12 a13) (f : ∀ a0 a1 a2 a3 a4 a5 a6 a7 a8 a9 a10 a11 a12 a13, p a0 a1 a2 a3 a4 a5 a6 a7 a8 a9 a10 a11 a12 a13 → C) : C := h.elim fun a h => ex13 h (f a)
theorem ex15 {A0 : Sort _} {A1 : Sort _} {A2 : Sort _} {A3 : Sort _} {A4 : Sort _} {A5 : Sort _} {A6 : Sort _} {A7 : Sort _} {A8 : Sort _} {A9 : Sort _} {A10 : Sort _} {A11 : Sort _} {A12 : Sort _} {A13 : Sort _} {A14 : Sort _} {p : A0 → A1 → A2 → A3 → A4 → A5 → A6 → A7 → A8 → A9 → A10 → A11 → A12 → A13 → A14 → Prop} {C : Prop} (h : ∃ a0 a1 a2 a3 a4 a5 a6 a7 a8 a9 a10 a11 a12 a13 a14, p a0 a1 a2 a3 a4 a5 a6 a7 a8 a9 a10 a11 a12 a13 a14) (f : ∀ a0 a1 a2 a3 a4 a5 a6 a7 a8 a9 a10 a11 a12 a13 a14, p a0 a1 a2 a3 a4 a5 a6 a7 a8 a9 a10 a11 a12 a13 a14 → C) : C := h.elim fun a h => ex14 h (f a)
theorem ex16 {A0 : Sort _} {A1 : Sort _} {A2 : Sort _} {A3 : Sort _} {A4 : Sort _} {A5 : Sort _} {A6 : Sort _} {A7 : Sort _} {A8 : Sort _} {A9 : Sort _} {A10 : Sort _} {A11 : Sort _} {A12 : Sort _} {A13 : Sort _} {A14 : Sort _} {A15 : Sort _} {p : A0 → A1 → A2 → A3 → A4 → A5 → A6 → A7 → A8 → A9 → A10 → A11 → A12 → A13 → A14 → A15 → Prop} {C : Prop} (h : ∃ a0 a1 a2 a3 a4 a5 a6 a7 a8 a9 a10 a11 a12 a13 a14 a15, p a0 a1 a2 a3 a4 a5 a6 a7 a8 a9 a10 a11 a12 a13 a14 a15) (f : ∀ a0 a1 a2 a3 a4 a5 a6 a7 a8 a9 a10 a11 a12 a13 a14 a15, p a0 a1 a2 a3 a4 a5 a6 a7 a8 a9 a10 a11 a12 a13 a14 a15 → C) : C := h.elim fun a h => ex15 h (f a)
theorem an2 {P0 P1 C : Prop} (h : P0 ∧ P1) (f : P0 → P1 → C) : C := f h.1 h.2
theorem an3 {P0 P1 P2 C : Prop} (h : P0 ∧ P1 ∧ P2) (f : P0 → P1 → P2 → C) : C := an2 h.2 (f h.1)
theorem an4 {P0 P1 P2 P3 C : Prop} (h : P0 ∧ P1 ∧ P2 ∧ P3) (f : P0 → P1 → P2 → P3 → C) : C := an3 h.2 (f h.1)
theorem an5 {P0 P1 P2 P3 P4 C : Prop} (h : P0 ∧ P1 ∧ P2 ∧ P3 ∧ P4) (f : P0 → P1 → P2 → P3 → P4 → C) : C := an4 h.2 (f h.1)
theorem an6 {P0 P1 P2 P3 P4 P5 C : Prop} (h : P0 ∧ P1 ∧ P2 ∧ P3 ∧ P4 ∧ P5) (f : P0 → P1 → P2 → P3 → P4 → P5 → C) : C := an5 h.2 (f h.1)
theorem an7 {P0 P1 P2 P3 P4 P5 P6 C : Prop} (h : P0 ∧ P1 ∧ P2 ∧ P3 ∧ P4 ∧ P5 ∧ P6) (f : P0 → P1 → P2 → P3 → P4 → P5 → P6 → C) : C := an6 h.2 (f h.1)
theorem an8 {P0 P1 P2 P3 P4 P5 P6 P7 C : Prop} (h : P0 ∧ P1 ∧ P2 ∧ P3 ∧ P4 ∧ P5 ∧ P6 ∧ P7) (f : P0 → P1 → P2 → P3 → P4 → P5 → P6 → P7 → C) : C := an7 h.2 (f h.1)
theorem an9 {P0 P1 P2 P3 P4 P5 P6 P7 P8 C : Prop} (h : P0 ∧ P1 ∧ P2 ∧ P3 ∧ P4 ∧ P5 ∧ P6 ∧ P7 ∧ P8) (f : P0 → P1 → P2 → P3 → P4 → P5 → P6 → P7 → P8 → C) : C := an8 h.2 (f h.1)
theorem an10 {P0 P1 P2 P3 P4 P5 P6 P7 P8 P9 C : Prop} (h : P0 ∧ P1 ∧ P2 ∧ P3 ∧ P4 ∧ P5 ∧ P6 ∧ P7 ∧ P8 ∧ P9) (f : P0 → P1 → P2 → P3 → P4 → P5 → P6 → P7 → P8 → P9 → C) : C := an9 h.2 (f h.1)
theorem an11 {P0 P1 P2 P3 P4 P5 P6 P7 P8 P9 P10 C : Prop} (h : P0 ∧ P1 ∧ P2 ∧ P3 ∧ P4 ∧ P5 ∧ P6 ∧ P7 ∧ P8 ∧ P9 ∧ P10) (f : P0 → P1 → P2 → P3 → P4 → P5 → P6 → P7 → P8 → P9 → P10 → C) : C := an10 h.2 (f h.1)
theorem an12 {P0 P1 P2 P3 P4 P5 P6 P7 P8 P9 P10 P11 C : Prop} (h : P0 ∧ P1 ∧ P2 ∧ P3 ∧ P4 ∧ P5 ∧ P6 ∧ P7 ∧ P8 ∧ P9 ∧ P10 ∧ P11) (f : P0 → P1 → P2 → P3 → P4 → P5 → P6 → P7 → P8 → P9 → P10 → P11 → C) : C := an11 h.2 (f h.1)
theorem bg {a N M : Nat} (h : a ≤ N) (e : Nat.ble N M = true) : a ≤ M := Nat.le_trans h (Nat.le_of_ble_eq_true e)
theorem ltk {α : Type _} {l : List α} {n N : Nat} (h : l.length ≤ N) : (l.take n).length ≤ N := Nat.le_trans (List.length_take_le' ..) h
theorem ldr {α : Type _} {l : List α} {n N : Nat} (h : l.length ≤ N) : (l.drop n).length ≤ N := by refine List.length_drop ▸ ?_; exact Nat.le_trans (Nat.sub_le ..) h
theorem lft {α : Type _} {l : List α} {p : α → Bool} {N : Nat} (h : l.length ≤ N) : (l.filter p).length ≤ N := Nat.le_trans (List.length_filter_le ..) h
theorem lapd {α : Type _} {l r : List α} {m n : Nat} (h : l.length ≤ m) (k : r.length ≤ n) : (l ++ r).length ≤ m + n := by refine List.length_append ▸ ?_; exact Nat.add_le_add h k
theorem nope {α : Type _} {a : α} {G : Prop} (e : none = some a) : G := nomatch e
theorem nopb {G : Prop} (e : false = true) : G := nomatch e
theorem cps {P : Prop} (h : ∀ G : Prop, (P → G) → G) : P := h P id
theorem ex1i {A0 : Sort _} {p : A0 → Prop} (a0 : A0) (h : p a0) : ∃ a0, p a0 := ⟨a0, h⟩
theorem ex2i {A0 : Sort _} {A1 : Sort _} {p : A0 → A1 → Prop} (a0 : A0) (a1 : A1) (h : p a0 a1) : ∃ a0 a1, p a0 a1 := ⟨a0, ex1i a1 h⟩
theorem ex3i {A0 : Sort _} {A1 : Sort _} {A2 : Sort _} {p : A0 → A1 → A2 → Prop} (a0 : A0) (a1 : A1) (a2 : A2) (h : p a0 a1 a2) : ∃ a0 a1 a2, p a0 a1 a2 := ⟨a0, ex2i a1 a2 h⟩
theorem ex4i {A0 : Sort _} {A1 : Sort _} {A2 : Sort _} {A3 : Sort _} {p : A0 → A1 → A2 → A3 → Prop} (a0 : A0) (a1 : A1) (a2 : A2) (a3 : A3) (h : p a0 a1 a2 a3) : ∃ a0 a1 a2 a3, p a0 a1 a2 a3 := ⟨a0, ex3i a1 a2 a3 h⟩
theorem ex5i {A0 : Sort _} {A1 : Sort _} {A2 : Sort _} {A3 : Sort _} {A4 : Sort _} {p : A0 → A1 → A2 → A3 → A4 → Prop} (a0 : A0) (a1 : A1) (a2 : A2) (a3 : A3) (a4 : A4) (h : p a0 a1 a2 a3 a4) : ∃ a0 a1 a2 a3 a4, p a0 a1 a2 a3 a4 := ⟨a0, ex4i a1 a2 a3 a4 h⟩
theorem ex6i {A0 : Sort _} {A1 : Sort _} {A2 : Sort _} {A3 : Sort _} {A4 : Sort _} {A5 : Sort _} {p : A0 → A1 → A2 → A3 → A4 → A5 → Prop} (a0 : A0) (a1 : A1) (a2 : A2) (a3 : A3) (a4 : A4) (a5 : A5) (h : p a0 a1 a2 a3 a4 a5) : ∃ a0 a1 a2 a3 a4 a5, p a0 a1 a2 a3 a4 a5 := ⟨a0, ex5i a1 a2 a3 a4 a5 h⟩
theorem ex7i {A0 : Sort _} {A1 : Sort _} {A2 : Sort _} {A3 : Sort _} {A4 : Sort _} {A5 : Sort _} {A6 : Sort _} {p : A0 → A1 → A2 → A3 → A4 → A5 → A6 → Prop} (a0 : A0) (a1 : A1) (a2 : A2) (a3 : A3) (a4 : A4) (a5 : A5) (a6 : A6) (h : p a0 a1 a2 a3 a4 a5 a6) : ∃ a0 a1 a2 a3 a4 a5 a6, p a0 a1 a2 a3 a4 a5 a6 := ⟨a0, ex6i a1 a2 a3 a4 a5 a6 h⟩
theorem ex8i {A0 : Sort _} {A1 : Sort _} {A2 : Sort _} {A3 : Sort _} {A4 : Sort _} {A5 : Sort _} {A6 : Sort _} {A7 : Sort _} {p : A0 → A1 → A2 → A3 → A4 → A5 → A6 → A7 → Prop} (a0 : A0) (a1 : A1) (a2 : A2) (a3 : A3) (a4 : A4) (a5 : A5) (a6 : A6) (a7 : A7) (h : p a0 a1 a2 a3 a4 a5 a6 a7) : ∃ a0 a1 a2 a3 a4 a5 a6 a7, p a0 a1 a2 a3 a4 a5 a6 a7 := ⟨a0, ex7i a1 a2 a3 a4 a5 a6 a7 h⟩
theorem ex9i {A0 : Sort _} {A1 : Sort _} {A2 : Sort _} {A3 : Sort _} {A4 : Sort _} {A5 : Sort _} {A6 : Sort _} {A7 : Sort _} {A8 : Sort _} {p : A0 → A1 → A2 → A3 → A4 → A5 → A6 → A7 → A8 → Prop} (a0 : A0) (a1 : A1) (a2 : A2) (a3 : A3) (a4 : A4) (a5 : A5) (a6 : A6) (a7 : A7) (a8 : A8) (h : p a0 a1 a2 a3 a4 a5 a6 a7 a8) : ∃ a0 a1 a2 a3 a4 a5 a6 a7 a8, p a0 a1 a2 a3 a4 a5 a6 a7 a8 := ⟨a0, ex8i a1 a2 a3 a4 a5 a6 a7 a8 h⟩
theorem ex10i {A0 : Sort _} {A1 : Sort _} {A2 : Sort _} {A3 : Sort _} {A4 : Sort _} {A5 : Sort _} {A6 : Sort _} {A7 : Sort _} {A8 : Sort _} {A9 : Sort _} {p : A0 → A1 → A2 → A3 → A4 → A5 → A6 → A7 → A8 → A9 → Prop} (a0 : A0) (a1 : A1) (a2 : A2) (a3 : A3) (a4 : A4) (a5 : A5) (a6 : A6) (a7 : A7) (a8 : A8) (a9 : A9) (h : p a0 a1 a2 a3 a4 a5 a6 a7 a8 a9) : ∃ a0 a1 a2 a3 a4 a5 a6 a7 a8 a9, p a0 a1 a2 a3 a4 a5 a6 a7 a8 a9 := ⟨a0, ex9i a1 a2 a3 a4 a5 a6 a7 a8 a9 h⟩
theorem ex11i {A0 : Sort _} {A1 : Sort _} {A2 : Sort _} {A3 : Sort _} {A4 : Sort _} {A5 : Sort _} {A6 : Sort _} {A7 : Sort _} {A8 : Sort _} {A9 : Sort _} {A10 : Sort _} {p : A0 → A1 → A2 → A3 → A4 → A5 → A6 → A7 → A8 → A9 → A10 → Prop} (a0 : A0) (a1 : A1) (a2 : A2) (a3 : A3) (a4 : A4) (a5 : A5) (a6 : A6) (a7 : A7) (a8 : A8) (a9 : A9) (a10 : A10) (h : p a0 a1 a2 a3 a4 a5 a6 a7 a8 a9 a10) : ∃ a0 a1 a2 a3 a4 a5 a6 a7 a8 a9 a10, p a0 a1 a2 a3 a4 a5 a6 a7 a8 a9 a10 := ⟨a0, ex10i a1 a2 a3 a4 a5 a6 a7 a8 a9 a10 h⟩
theorem ex12i {A0 : Sort _} {A1 : Sort _} {A2 : Sort _} {A3 : Sort _} {A4 : Sort _} {A5 : Sort _} {A6 : Sort _} {A7 : Sort _} {A8 : Sort _} {A9 : Sort _} {A10 : Sort _} {A11 : Sort _} {p : A0 → A1 → A2 → A3 → A4 → A5 → A6 → A7 → A8 → A9 → A10 → A11 → Prop} (a0 : A0) (a1 : A1) (a2 : A2) (a3 : A3) (a4 : A4) (a5 : A5) (a6 : A6) (a7 : A7) (a8 : A8) (a9 : A9) (a10 : A10) (a11 : A11) (h : p a0 a1 a2 a3 a4 a5 a6 a7 a8 a9 a10 a11) : ∃ a0 a1 a2 a3 a4 a5 a6 a7 a8 a9 a10 a11, p a0 a1 a2 a3 a4 a5 a6 a7 a8 a9 a10 a11 := ⟨a0, ex11i a1 a2 a3 a4 a5 a6 a7 a8 a9 a10 a11 h⟩
theorem ex13i {A0 : Sort _} {A1 : Sort _} {A2 : Sort _} {A3 : Sort _} {A4 : Sort _} {A5 : Sort _} {A6 : Sort _} {A7 : Sort _} {A8 : Sort _} {A9 : Sort _} {A10 : Sort _} {A11 : Sort _} {A12 : Sort _} {p : A0 → A1 → A2 → A3 → A4 → A5 → A6 → A7 → A8 → A9 → A10 → A11 → A12 → Prop} (a0 : A0) (a1 : A1) (a2 : A2) (a3 : A3) (a4 : A4) (a5 : A5) (a6 : A6) (a7 : A7) (a8 : A8) (a9 : A9) (a10 : A10) (a11 : A11) (a12 : A12) (h : p a0 a1 a2 a3 a4 a5 a6 a7 a8 a9 a10 a11 a12) : ∃ a0 a1 a2 a3 a4 a5 a6 a7 a8 a9 a10 a11 a12, p a0 a1 a2 a3 a4 a5 a6 a7 a8 a9 a10 a11 a12 := ⟨a0, ex12i a1 a2 a3 a4 a5 a6 a7 a8 a9 a10 a11 a12 h⟩
theorem ex14i {A0 : Sort _} {A1 : Sort _} {A2 : Sort _} {A3 : Sort _} {A4 : Sort _} {A5 : Sort _} {A6 : Sort _} {A7 : Sort _} {A8 : Sort _} {A9 : Sort _} {A10 : Sort _} {A11 : Sort _} {A12 : Sort _} {A13 : Sort _} {p : A0 → A1 → A2 → A3 → A4 → A5 → A6 → A7 → A8 → A9 → A10 → A11 → A12 → A13 → Prop} (a0 : A0) (a1 : A1) (a2 : A2) (a3 : A3) (a4 : A4) (a5 : A5) (a6 : A6) (a7 : A7) (a8 : A8) (a9 : A9) (a10 : A10) (a11 : A11) (a12 : A12) (a13 : A13) (h : p a0 a1 a2 a3 a4 a5 a6 a7 a8 a9 a10 a11 a12 a13) : ∃ a0 a1 a2 a3 a4 a5 a6 a7 a8 a9 a10 a11 a12 a13, p a0 a1 a2 a3 a4 a5 a6 a7 a8 a9 a10 a11 a12 a13 := ⟨a0, ex13i a1 a2 a3 a4 a5 a6 a7 a8 a9 a10 a11 a12 a13 h⟩
theorem ex15i {A0 : Sort _} {A1 : Sort _} {A2 : Sort _} {A3 : Sort _} {A4 : Sort _} {A5 : Sort _} {A6 : Sort _} {A7 : Sort _} {A8 : Sort _} {A9 : Sort _} {A10 : Sort _} {A11 : Sort _} {A12 : Sort _} {A13 : Sort _} {A14 : Sort _} {p : A0 → A1 → A2 → A3 → A4 → A5 → A6 → A7 → A8 → A9 → A10 → A11 → A12 → A13 → A14 → Prop} (a0 : A0) (a1 : A1) (a2 : A2) (a3 : A3) (a4 : A4) (a5 : A5) (a6 : A6) (a7 : A7) (a8 : A8) (a9 : A9) (a10 : A10) (a11 : A11) (a12 : A12) (a13 : A13) (a14 : A14) (h : p a0 a1 a2 a3 a4 a5 a6 a7 a8 a9 a10 a11 a12 a13 a14) : ∃ a0 a1 a2 a3 a4 a5 a6 a7 a8 a9 a10 a11 a12 a13 a14, p a0 a1 a2 a3 a4 a5 a6 a7 a8 a9 a10 a11 a12 a13 a14 := ⟨a0, ex14i a1 a2 a3 a4 a5 a6 a7 a8 a9 a10 a11 a12 a13 a14 h⟩
theorem ex16i {A0 : Sort _} {A1 : Sort _} {A2 : Sort _} {A3 : Sort _} {A4 : Sort _} {A5 : Sort _} {A6 : Sort _} {A7 : Sort _} {A8 : Sort _} {A9 : Sort _} {A10 : Sort _} {A11 : Sort _} {A12 : Sort _} {A13 : Sort _} {A14 : Sort _} {A15 : Sort _} {p : A0 → A1 → A2 → A3 → A4 → A5 → A6 → A7 → A8 → A9 → A10 → A11 → A12 → A13 → A14 → A15 → Prop} (a0 : A0) (a1 : A1) (a2 : A2) (a3 : A3) (a4 : A4) (a5 : A5) (a6 : A6) (a7 : A7) (a8 : A8) (a9 : A9) (a10 : A10) (a11 : A11) (a12 : A12) (a13 : A13) (a14 : A14) (a15 : A15) (h : p a0 a1 a2 a3 a4 a5 a6 a7 a8 a9 a10 a11 a12 a13 a14 a15) : ∃ a0 a1 a2 a3 a4 a5 a6 a7 a8 a9 a10 a11 a12 a13 a14 a15, p a0 a1 a2 a3 a4 a5 a6 a7 a8 a9 a10 a11 a12 a13 a14 a15 := ⟨a0, ex15i a1 a2 a3 a4 a5 a6 a7 a8 a9 a10 a11 a12 a13 a14 a15 h⟩
inductive AV where
  | int (i : Int) | bool (b : Bool) | none | str (s : Str) | con (v : Value)
  | lst (xs : List Int) | scr (xs : List Int) | rng (lo hi : Int) | tup2 (a b : AV) | tup3 (a b c : AV)
  | ref (n : Nat)
inductive AO where
  | inst (C : Addr) (attrs : List (Str × AV))
  | arr (xs : List Int)
  | dict (rows : List (Int × AV))
  | tab (a : Addr) (q : Str)
  | exc (attrs : List (Str × AV))
structure St where
  hp : List (Nat × AO)
  loc : List (Str × AV)
  cel : List (Str × Option AV)
  fre : List (Str × AV)
  nxt : Nat
noncomputable def lget : Str → List (Str × AV) → Option AV
  | _, [] => none
  | x, (y, v) :: r => if y == x then some v else lget x r
noncomputable def lset : Str → AV → List (Str × AV) → List (Str × AV)
  | x, v, [] => [(x, v)]
  | x, v, (y, u) :: r => if y == x then (y, v) :: r else (y, u) :: lset x v r
noncomputable def cget : Str → List (Str × Option AV) → Option (Option AV)
  | _, [] => none
  | x, (y, v) :: r => if y == x then some v else cget x r
noncomputable def cset : Str → AV → List (Str × Option AV) → List (Str × Option AV)
  | _, _, [] => []
  | x, v, (y, u) :: r => if y == x then (y, some v) :: r else (y, u) :: cset x v r
noncomputable def hget : Nat → List (Nat × AO) → Option AO
  | _, [] => none
  | n, (k, o) :: r => match Nat.beq k n with | true => some o | false => hget n r
noncomputable def hset : Nat → AO → List (Nat × AO) → List (Nat × AO)
  | _, _, [] => []
  | n, o, (k, u) :: r => match Nat.beq k n with | true => (k, o) :: r | false => (k, u) :: hset n o r
theorem lget_lset (x y : Str) (v : AV) : ∀ l, lget y (lset x v l) = if y = x then some v else lget y l
  | [] => by
    simp only [lset, lget]
    by_cases h : y = x
    · subst h; simp
    · rw [if_neg h, if_neg (by simpa using fun e => h e.symm)]
  | (z, u) :: r => by
    simp only [lset]
    by_cases hz : (z == x) = true
    · refine if_pos hz ▸ ?_
      have e : z = x := by simpa using hz
      subst e
      simp only [lget]
      by_cases h : y = z
      · subst h; simp
      · rw [if_neg h, if_neg (by simpa using fun e => h e.symm), if_neg (by simpa using fun e => h e.symm)]
    · refine if_neg hz ▸ ?_
      simp only [lget]
      by_cases hy : (z == y) = true
      · refine if_pos hy ▸ if_pos hy ▸ ?_
        have e : z = y := by simpa using hy
        subst e
        exact if_neg (by simpa using hz) ▸ rfl
      · exact if_neg hy ▸ if_neg hy ▸ (lget_lset x y v r).symm ▸ rfl
structure Wd where
  prog : Program
  w : World
  K : Frag
  p : Program
  loose : List Str
  mean : ExcName → Option Value
  mg : Str → Option Value
  mb : Str → Option Value
  LS : Addr
noncomputable abbrev Z (h₀ : Heap) (frz : List (Addr × Obj)) (a : Addr) (o : Obj) : Prop := h₀.get? a = some o ∨ (a, o) ∈ frz
noncomputable abbrev tupOb (vs : Array Value) (n : Nat) : Obj := { cls := .type "tuple", data := .seq vs n }
noncomputable def Val (Zp : Addr → Obj → Prop) (ρ : Nat → Option Addr) : AV → Value → Prop
  | .int i, v => ∃ t, v = .int i t
  | .bool b, v => v = .bool b
  | .none, v => v = .none
  | .str x, v => ∃ t, v = .str x t
  | .con u, v => v = u
  | .lst xs, v => ∃ a its n, v = .ref a ∧ Zp a (listOf its n) ∧ IntsAre its.toList xs
  | .scr xs, v => ∃ a o its n, v = .ref a ∧ Zp a o ∧ (o.cls = .type "list" ∧ o.data = .seq its n) ∧ IntsAre its.toList xs
  | .rng lo hi, v => ∃ a : Addr, ∃ t₁ t₂ t₃ : Tok, v = .ref a ∧ Zp a { cls := .type "range", dict := none, data := .fields #[.int lo t₁, .int hi t₂, .int 1 t₃], slots := #[] }
  | .tup2 x y, v => ∃ a u w n, v = .ref a ∧ Zp a (tupOb #[u, w] n) ∧ Val Zp ρ x u ∧ Val Zp ρ y w
  | .tup3 x y z, v => ∃ a u w k n, v = .ref a ∧ Zp a (tupOb #[u, w, k] n) ∧ Val Zp ρ x u ∧ Val Zp ρ y w ∧ Val Zp ρ z k
  | .ref n, v => ∃ a, v = .ref a ∧ ρ n = some a
theorem Val.mono {Z₁ Z₂ : Addr → Obj → Prop} {ρ₁ ρ₂ : Nat → Option Addr} (hz : ∀ a o, Z₁ a o → Z₂ a o) (hr : ∀ n a, ρ₁ n = some a → ρ₂ n = some a) : ∀ {x : AV} {v : Value}, Val Z₁ ρ₁ x v → Val Z₂ ρ₂ x v
  | .int _, _, h => h
  | .bool _, _, h => h
  | .none, _, h => h
  | .str _, _, h => h
  | .con _, _, h => h
  | .lst _, _, h => ex3 h fun a its n h => an3 h fun e z i => ex3i a its n ⟨e, hz _ _ z, i⟩
  | .scr _, _, h => ex4 h fun a o its n h => an4 h fun e z q i => ex4i a o its n ⟨e, hz _ _ z, q, i⟩
  | .rng _ _, _, h => ex4 h fun a t₁ t₂ t₃ h => an2 h fun e z => ex4i a t₁ t₂ t₃ ⟨e, hz _ _ z⟩
  | .tup2 _ _, _, h => ex4 h fun a u w n h => an4 h fun e z i j => ex4i a u w n ⟨e, hz _ _ z, Val.mono hz hr i, Val.mono hz hr j⟩
  | .tup3 _ _ _, _, h => ex5 h fun a u w k n h => an5 h fun e z i j l => ex5i a u w k n ⟨e, hz _ _ z, Val.mono hz hr i, Val.mono hz hr j, Val.mono hz hr l⟩
  | .ref _, _, h => h.elim fun a h => an2 h fun e r => ⟨a, e, hr _ _ r⟩
inductive AttrsR (Zp : Addr → Obj → Prop) (ρ : Nat → Option Addr) : List (Str × AV) → List DictEntry → Prop
  | nil : AttrsR Zp ρ [] []
  | cons {x : Str} {v : AV} {h : Int} {t : Tok} {u : Value} {r : List (Str × AV)} {es : List DictEntry} : Val Zp ρ v u → AttrsR Zp ρ r es → AttrsR Zp ρ ((x, v) :: r) (⟨h, .str x t, u⟩ :: es)
theorem AttrsR.mono {Z₁ Z₂ : Addr → Obj → Prop} {ρ₁ ρ₂ : Nat → Option Addr} (hz : ∀ a o, Z₁ a o → Z₂ a o) (hr : ∀ n a, ρ₁ n = some a → ρ₂ n = some a) {l : List (Str × AV)} {es : List DictEntry} (h : AttrsR Z₁ ρ₁ l es) : AttrsR Z₂ ρ₂ l es := by
  induction h with
  | nil => exact .nil
  | cons v _ ih => exact .cons (Val.mono hz hr v) ih
theorem AttrsR.get {Zp : Addr → Obj → Prop} {ρ : Nat → Option Addr} {l : List (Str × AV)} {es : List DictEntry} (h : AttrsR Zp ρ l es) (x : Str) :
    match lget x l with | some v => ∃ u, getL x es = some (some u) ∧ Val Zp ρ v u | none => getL x es = some none := by
  have nr : es.any (·.refKey) = false := by
    induction h with
    | nil => rfl
    | cons v _ ih => refine List.any_cons ▸ ih.symm ▸ ?_; rfl
  induction h with
  | nil => rfl
  | @cons y v hh t u r es hv hr ih =>
    rw [List.any_cons] at nr
    have nr' : es.any (·.refKey) = false := (Bool.or_eq_false_iff.mp nr).2
    have ih := ih nr'
    have e : (Value.str y t).isStr x = (y == x) := by
      show (y == x) = (y == x); rfl
    simp only [lget]
    by_cases hy : (y == x) = true
    · refine if_pos hy ▸ ?_
      refine ⟨u, ?_, hv⟩
      unfold getL
      refine (List.find?_cons) ▸ ?_
      exact (show (Value.str y t).isStr x = true from e.trans hy).symm ▸ rfl
    · refine if_neg hy ▸ ?_
      have hy' : (y == x) = false := by simpa using hy
      have eg : getL x (⟨hh, .str y t, u⟩ :: es) = getL x es := by
        unfold getL
        rw [List.find?_cons, show (Value.str y t).isStr x = false from e.trans hy', List.any_cons]
        rfl
      refine eg ▸ ?_; exact ih
theorem AttrsR.put {Zp : Addr → Obj → Prop} {ρ : Nat → Option Addr} {l : List (Str × AV)} {es : List DictEntry} (h : AttrsR Zp ρ l es) (x : Str) (k : Int) (t : Tok) {v : AV} {u : Value} (hv : Val Zp ρ v u) :
    AttrsR Zp ρ (lset x v l) (putL x k (.str x t) u es) := by
  induction h with
  | nil => exact .cons hv .nil
  | @cons y v' hh t' u' r es hv' hr ih =>
    simp only [lset, putL]
    by_cases hy : (y == x) = true
    · refine if_pos hy ▸ if_pos (show (Value.str y t').isStr x = true from hy) ▸ ?_
      exact .cons hv hr
    · refine if_neg hy ▸ if_neg (show ¬ (Value.str y t').isStr x = true from hy) ▸ ?_
      exact .cons hv' ih
theorem AttrsR.length {Zp : Addr → Obj → Prop} {ρ : Nat → Option Addr} {l : List (Str × AV)} {es : List DictEntry} (h : AttrsR Zp ρ l es) : es.length = l.length := by
  induction h with
  | nil => rfl
  | cons _ _ ih => simp [ih]
noncomputable def grd (b : Bool) (p : Prop) : Prop := match b with | true => p | false => False
theorem grd_iff {b : Bool} {p : Prop} (h : grd b p) : b = true ∧ p := by cases b; exact h.elim; exact ⟨rfl, h⟩
noncomputable def opt {α : Type} (o : Option α) (k : α → Prop) : Prop := match o with | some a => k a | none => False
theorem opt_iff {α : Type} {o : Option α} {k : α → Prop} (h : opt o k) : ∃ a, o = some a ∧ k a := by cases o; exact h.elim; exact ⟨_, rfl, h⟩
theorem opt_el {α : Type} {o : Option α} {k : α → Prop} {G : Prop} (h : opt o k) (f : ∀ a, o = some a → k a → G) : G := by cases o; exact h.elim; exact f _ rfl h
theorem bind_el {α β : Type} {o : Option α} {f : α → Option β} {b : β} {G : Prop} (h : o.bind f = some b) (g : ∀ a, o = some a → f a = some b → G) : G := by cases o; exact nope h; exact g _ rfl h
noncomputable def ifN {α β : Type} (o : Option α) (x : Option β) : Option β := match o with | some _ => none | none => x
theorem ifN_el {α β : Type} {o : Option α} {x : Option β} {b : β} {G : Prop} (h : ifN o x = some b) (f : o = none → x = some b → G) : G := by cases o; exact f rfl h; exact nope h
noncomputable def arg1 (as : List AV) (k : AV → Prop) : Prop := match as with | [] => False | a :: r => match r with | [] => k a | _ :: _ => False
theorem arg1_el {G : List AV → Prop} {as : List AV} {k : AV → Prop} (h : arg1 as k) (f : ∀ a, k a → G [a]) : G as := by
  cases as with
  | nil => exact h.elim
  | cons a r => cases r with
    | nil => exact f a h
    | cons => exact h.elim
noncomputable def arg2 (as : List AV) (k : AV → AV → Prop) : Prop := match as with | [] => False | a :: r => arg1 r (k a)
theorem arg2_el {G : List AV → Prop} {as : List AV} {k : AV → AV → Prop} (h : arg2 as k) (f : ∀ a b, k a b → G [a, b]) : G as := by
  cases as with
  | nil => exact h.elim
  | cons a r => exact arg1_el (G := fun r => G (a :: r)) h (f a)
noncomputable def arg12 (as : List AV) (k : AV → Prop) (k' : AV → AV → Prop) : Prop := match as with | [] => False | a :: r => match r with | [] => k a | _ :: _ => arg1 r (k' a)
theorem arg12_el {G : List AV → Prop} {as : List AV} {k : AV → Prop} {k' : AV → AV → Prop} (h : arg12 as k k') (f : ∀ a, k a → G [a]) (f' : ∀ a b, k' a b → G [a, b]) : G as := by
  cases as with
  | nil => exact h.elim
  | cons a r => cases r with
    | nil => exact f a h
    | cons b r => exact arg1_el (G := fun r => G (a :: r)) (as := b :: r) h (f' a)
noncomputable def asI (a : AV) (k : Int → Prop) : Prop := match a with | .int i => k i | _ => False
theorem asI_el {G : AV → Prop} {a : AV} {k : Int → Prop} (h : asI a k) (f : ∀ i, k i → G (.int i)) : G a := by
  cases a with
  | int i => exact f i h
  | _ => exact h.elim
noncomputable def asR (a : AV) (k : Nat → Prop) : Prop := match a with | .ref i => k i | _ => False
theorem asR_el {G : AV → Prop} {a : AV} {k : Nat → Prop} (h : asR a k) (f : ∀ i, k i → G (.ref i)) : G a := by
  cases a with
  | ref i => exact f i h
  | _ => exact h.elim
noncomputable def asL (a : AV) (k : List Int → Prop) : Prop := match a with | .lst i => k i | _ => False
theorem asL_el {G : AV → Prop} {a : AV} {k : List Int → Prop} (h : asL a k) (f : ∀ i, k i → G (.lst i)) : G a := by
  cases a with
  | lst i => exact f i h
  | _ => exact h.elim
noncomputable def arrOf : AO → Option (List Int) | .arr xs => some xs | _ => none
theorem arrOf_eq {o : AO} {xs : List Int} (h : arrOf o = some xs) : o = .arr xs := by
  cases o with
  | arr ys => cases h; rfl
  | _ => exact nope h
noncomputable def dicOf : AO → Option (List (Int × AV)) | .dict xs => some xs | _ => none
theorem dicOf_eq {o : AO} {xs : List (Int × AV)} (h : dicOf o = some xs) : o = .dict xs := by
  cases o with
  | dict ys => cases h; rfl
  | _ => exact nope h
inductive RowsR (Zp : Addr → Obj → Prop) (ρ : Nat → Option Addr) : List (Int × AV) → List (Int × Value) → Prop
  | nil : RowsR Zp ρ [] []
  | cons {k : Int} {v : AV} {u : Value} {r : List (Int × AV)} {es : List (Int × Value)} : Val Zp ρ v u → RowsR Zp ρ r es → RowsR Zp ρ ((k, v) :: r) ((k, u) :: es)
theorem RowsR.mono {Z₁ Z₂ : Addr → Obj → Prop} {ρ₁ ρ₂ : Nat → Option Addr} (hz : ∀ a o, Z₁ a o → Z₂ a o) (hr : ∀ n a, ρ₁ n = some a → ρ₂ n = some a) {l : List (Int × AV)} {es : List (Int × Value)} (h : RowsR Z₁ ρ₁ l es) : RowsR Z₂ ρ₂ l es := by
  induction h with
  | nil => exact .nil
  | cons v _ ih => exact .cons (Val.mono hz hr v) ih
noncomputable def EntR (W : Wd) (Zp : Addr → Obj → Prop) (ρ : Nat → Option Addr) (n : Nat) : AO → List (Addr × Obj) → Prop
  | .inst C attrs, l => ∃ x d es k, l = [(x, instObj C d), (d, dictOf es k)] ∧ ρ n = some x ∧ AttrsR Zp ρ attrs es
  | .arr xs, l => ∃ x its k, l = [(x, listOf its k)] ∧ ρ n = some x ∧ IntsAre its.toList xs
  | .dict rows, l => ∃ x o kvs, l = [(x, o)] ∧ ρ n = some x ∧ o.IsDictOf (intKind W.prog W.w) kvs ∧ RowsR Zp ρ rows kvs ∧ (x == sysModules) = false
  | .tab a q, l => ∃ ps, l = [(a, tabObj ps)] ∧ TriplesOk ps.toList ∧ ∀ pos cv, codeAmong pos ps.toList = some cv → ∃ c' oc vs t, cv = .ref c' ∧ Zp c' oc ∧ oc.data = .fields vs ∧ vs[1]? = some (.str q t)
  | .exc attrs, l => ∃ e oe vs, oe.cls = .ref W.LS ∧ oe.data = .fields vs ∧ vs[1]? = some Value.none ∧ ρ n = some e ∧ ((attrs = [] ∧ oe.dict = none ∧ l = [(e, oe)]) ∨ ∃ d od mA, oe.dict = some d ∧ l = [(e, oe), (d, od)] ∧ (∀ h : Heap, h.get? d = some od → h.Ns1 d mA) ∧
      (∀ x v, lget x attrs = some v → ∃ u, mA x = some u ∧ Val Zp ρ v u) ∧ (∀ x, lget x attrs = none → mA x = none))
theorem EntR.mono {W : Wd} {Z₁ Z₂ : Addr → Obj → Prop} {ρ₁ ρ₂ : Nat → Option Addr} (hz : ∀ a o, Z₁ a o → Z₂ a o) (hr : ∀ n a, ρ₁ n = some a → ρ₂ n = some a) {n : Nat} {o : AO} {l : List (Addr × Obj)} (h : EntR W Z₁ ρ₁ n o l) : EntR W Z₂ ρ₂ n o l := by
  cases o with
  | inst C attrs => refine ex4 h fun x d es k hq0 => an3 hq0 fun e r a => ?_; try clear hq0; try clear h; exact ex4i x d es k ⟨e, hr _ _ r, a.mono hz hr⟩
  | arr xs => refine ex3 h fun x its k hq0 => an3 hq0 fun e r a => ?_; try clear hq0; try clear h; exact ex3i x its k ⟨e, hr _ _ r, a⟩
  | dict rows => refine ex3 h fun x o kvs hq0 => an5 hq0 fun e r q a z => ?_; try clear hq0; try clear h; exact ex3i x o kvs ⟨e, hr _ _ r, q, a.mono hz hr, z⟩
  | tab a q =>
    refine Exists.elim h fun ps hq0 => an3 hq0 fun h1 h2 h3 => ?_; try clear hq0; try clear h
    exact ⟨ps, h1, h2, fun pos cv e => ex4 (h3 pos cv e) fun c' oc vs t h => an4 h fun q1 q2 q3 q4 => ex4i c' oc vs t ⟨q1, hz _ _ q2, q3, q4⟩⟩
  | exc attrs =>
    refine ex3 h fun e oe vs hq0 => an5 hq0 fun a1 a2 h1 h2 h3 => ?_; try clear hq0; try clear h
    exact ex3i e oe vs ⟨a1, a2, h1, hr _ _ h2, h3.imp id fun h => ex3 h fun d od mA h => an5 h fun h4 h5 h6 h7 h8 => ex3i d od mA ⟨h4, h5, h6, fun x v hx => (h7 x v hx).imp fun u q => ⟨q.1, q.2.mono hz hr⟩, h8⟩⟩
inductive HR (W : Wd) (Zp : Addr → Obj → Prop) (ρ : Nat → Option Addr) : List (Nat × AO) → List (Addr × Obj) → Prop
  | nil : HR W Zp ρ [] []
  | cons {n : Nat} {o : AO} {l : List (Addr × Obj)} {r : List (Nat × AO)} {c : List (Addr × Obj)} : EntR W Zp ρ n o l → HR W Zp ρ r c → HR W Zp ρ ((n, o) :: r) (l ++ c)
theorem HR.mono {W : Wd} {Z₁ Z₂ : Addr → Obj → Prop} {ρ₁ ρ₂ : Nat → Option Addr} (hz : ∀ a o, Z₁ a o → Z₂ a o) (hr : ∀ n a, ρ₁ n = some a → ρ₂ n = some a) {l : List (Nat × AO)} {c : List (Addr × Obj)} (h : HR W Z₁ ρ₁ l c) : HR W Z₂ ρ₂ l c := by
  induction h with
  | nil => exact .nil
  | cons e _ ih => exact .cons (e.mono hz hr) ih
theorem HR.get {W : Wd} {Zp : Addr → Obj → Prop} {ρ : Nat → Option Addr} {hp : List (Nat × AO)} {c : List (Addr × Obj)} (h : HR W Zp ρ hp c) {n : Nat} {o : AO} (e : hget n hp = some o) :
    ∃ pre l post, c = pre ++ (l ++ post) ∧ EntR W Zp ρ n o l ∧ ∀ o' l', EntR W Zp ρ n o' l' → HR W Zp ρ (hset n o' hp) (pre ++ (l' ++ post)) := by
  induction h with
  | nil => exact nope e
  | @cons k u l r c he hr ih =>
    unfold hget at e
    cases hk : Nat.beq k n with
    | true =>
      rw [hk] at e
      cases e
      obtain rfl : k = n := Nat.eq_of_beq_eq_true hk
      refine ex3i [] l c ⟨rfl, he, fun o' l' h' => ?_⟩
      unfold hset
      refine hk ▸ ?_
      show HR W Zp ρ _ (l' ++ c)
      exact .cons h' hr
    | false =>
      rw [hk] at e
      refine ex3 (ih e) fun pre l₂ post hq0 => an3 hq0 fun qe3 h2 h3 => ?_; try clear hq0; subst qe3
      refine ex3i (l ++ pre) l₂ post ⟨by simp [List.append_assoc], h2, fun o' l' h' => ?_⟩
      unfold hset
      refine hk ▸ ?_
      have := HR.cons he (h3 o' l' h')
      simpa [List.append_assoc] using this
structure FC where
  base : Heap
  h₀ : Heap
  hE : Heap
  outer : List Env
  inn : Bool
  A : Around
  L : Addr
  env : Env
  ex : List (Addr × Obj)
  gens : Array GenState
  os : OsState
  rm : Nat
noncomputable abbrev FC.cs (c : FC) : Scope := c.env.scope
noncomputable abbrev FC.cl (c : FC) : List (Str × Addr) := c.env.cells
noncomputable abbrev FC.frames (c : FC) : List Addr := c.outer.filterMap (·.frame)
noncomputable def FC.stk (c : FC) : List Env := if c.inn then c.outer else c.env :: c.outer
structure FC.Ok (K : Frag) (p : Program) (loose : List Str) (mean : ExcName → Option Value) (mg mb : Str → Option Value) (c : FC) : Prop where
  stack : c.A.frames = some c.stk
  kind : c.cs.kind = .function
  eL : c.env.locals = c.L
  eF : c.inn = false → c.env.frame = some c.L
  eG : c.env.globals = mainGlobals
  eB : c.env.builtins = builtinsNs
  X : K.In c.h₀
  T : Top p loose mean mg mb c.h₀
  stays : c.base.StaysIn c.h₀
  new : c.base.get? c.L = none
  FF : c.hE.FunFrames c.base c.outer
  hid : ∀ b ∈ c.frames, c.h₀.get? b = none
  lf : c.L ∉ c.frames
  cnd : (c.cl.map (·.2)).Nodup
  cfr : ∀ x a, c.cl.lookup x = some a → a ∉ c.frames
  cex : ∀ x a, c.cl.lookup x = some a → a ∉ c.ex.map (·.1)
  exf : ∀ b ∈ c.frames, b ∉ c.ex.map (·.1)
  hand : c.A.handled = none
  dep : c.A.depth + c.rm < recursionLimit
  uni : c.A.units + 16 * c.rm + 100 < cLine
structure Rel (W : Wd) (c : FC) (s : Shared) (σ : St) (ρ : Nat → Option Addr) (m : Str → Option Value) (cm ce frz : List (Addr × Obj)) : Prop where
  F : Fr c.h₀ c.L s.heap m
  N : News c.h₀ c.L s.heap (cm ++ (ce ++ frz))
  nd : ((cm ++ (ce ++ frz)).map (·.1)).Nodup
  ou : ∀ b ∈ c.frames, ∀ o, c.hE.get? b = some o → ∃ sl, (b, ({ o with slots := sl } : Obj)) ∈ ce
  ex : ∀ q ∈ c.ex, q ∈ ce
  cv : ∀ x a, c.cl.lookup x = some a → a ∈ ce.map (·.1) ∨ (c.h₀.get? a).isSome = true
  H : HR W (Z c.h₀ frz) ρ σ.hp cm
  V : ∀ x v, lget x σ.loc = some v → ∃ u, m x = some u ∧ Val (Z c.h₀ frz) ρ v u
  C : ∀ x ov, cget x σ.cel = some ov → ∃ a o, c.cl.lookup x = some a ∧ (a, o) ∈ ce ∧ (∃ v₀, o.data = .cell v₀) ∧ ∀ v, ov = some v → ∃ u, o.data = .cell (some u) ∧ Val (Z c.h₀ frz) ρ v u
  Fv : ∀ x v, lget x σ.fre = some v → ∃ a o u, c.cl.lookup x = some a ∧ c.h₀.get? a = some o ∧ o.data = .cell (some u) ∧ Val (Z c.h₀ frz) ρ v u
  rn : ∀ n, σ.nxt ≤ n → ρ n = none
  gens : s.gens = c.gens
  os : s.os = c.os
structure Ext (ρ ρ' : Nat → Option Addr) (frz frz' : List (Addr × Obj)) : Prop where
  r : ∀ n a, ρ n = some a → ρ' n = some a
  z : ∀ q, q ∈ frz → q ∈ frz'
theorem Ext.refl {ρ : Nat → Option Addr} {frz : List (Addr × Obj)} : Ext ρ ρ frz frz := ⟨fun _ _ h => h, fun _ h => h⟩
theorem Ext.trans {ρ ρ' ρ'' : Nat → Option Addr} {f f' f'' : List (Addr × Obj)} (a : Ext ρ ρ' f f') (b : Ext ρ' ρ'' f' f'') : Ext ρ ρ'' f f'' := ⟨fun n x h => b.r n x (a.r n x h), fun q h => b.z q (a.z q h)⟩
theorem Ext.zz {ρ ρ' : Nat → Option Addr} {f f' : List (Addr × Obj)} (a : Ext ρ ρ' f f') {h₀ : Heap} : ∀ x o, Z h₀ f x o → Z h₀ f' x o := fun _ _ h => h.imp id (a.z _)
theorem Val.ext {ρ ρ' : Nat → Option Addr} {f f' : List (Addr × Obj)} {h₀ : Heap} {x : AV} {v : Value} (h : Val (Z h₀ f) ρ x v) (a : Ext ρ ρ' f f') : Val (Z h₀ f') ρ' x v := h.mono a.zz a.r
noncomputable def Qv (W : Wd) (c : FC) (ρ : Nat → Option Addr) (frz : List (Addr × Obj)) (P : AV → St → Prop) (v : Value) (s' : Shared) : Prop :=
  ∃ ρ' m' cm' ce' frz' av σ', Ext ρ ρ' frz frz' ∧ Rel W c s' σ' ρ' m' cm' ce' frz' ∧ Val (Z c.h₀ frz') ρ' av v ∧ P av σ'
noncomputable def Qu (W : Wd) (c : FC) (ρ : Nat → Option Addr) (frz : List (Addr × Obj)) (P : St → Prop) (s' : Shared) : Prop :=
  ∃ ρ' m' cm' ce' frz' σ', Ext ρ ρ' frz frz' ∧ Rel W c s' σ' ρ' m' cm' ce' frz' ∧ P σ'
theorem Qv.el {W : Wd} {c : FC} {ρ : Nat → Option Addr} {frz : List (Addr × Obj)} {P : AV → St → Prop} {v : Value} {s' : Shared} {C : Prop} (h : Qv W c ρ frz P v s') (f : ∀ ρ' m' cm' ce' frz' av σ', Ext ρ ρ' frz frz' → Rel W c s' σ' ρ' m' cm' ce' frz' → Val (Z c.h₀ frz') ρ' av v → P av σ' → C) : C := ex7 h fun a b c d e g i h => an4 h (f a b c d e g i)
theorem Qv.mk {W : Wd} {c : FC} {ρ : Nat → Option Addr} {frz : List (Addr × Obj)} {P : AV → St → Prop} {v : Value} {s' : Shared} (ρ' : Nat → Option Addr) (m' : Str → Option Value) (cm' ce' frz' : List (Addr × Obj)) (av : AV) (σ' : St) (e : Ext ρ ρ' frz frz') (R : Rel W c s' σ' ρ' m' cm' ce' frz') (hv : Val (Z c.h₀ frz') ρ' av v) (q : P av σ') : Qv W c ρ frz P v s' := ex7i ρ' m' cm' ce' frz' av σ' ⟨e, R, hv, q⟩
theorem Qu.mk {W : Wd} {c : FC} {ρ : Nat → Option Addr} {frz : List (Addr × Obj)} {P : St → Prop} {s' : Shared} (ρ' : Nat → Option Addr) (m' : Str → Option Value) (cm' ce' frz' : List (Addr × Obj)) (σ' : St) (e : Ext ρ ρ' frz frz') (R : Rel W c s' σ' ρ' m' cm' ce' frz') (q : P σ') : Qu W c ρ frz P s' := ex6i ρ' m' cm' ce' frz' σ' ⟨e, R, q⟩
theorem Qu.el {W : Wd} {c : FC} {ρ : Nat → Option Addr} {frz : List (Addr × Obj)} {P : St → Prop} {s' : Shared} {C : Prop} (h : Qu W c ρ frz P s') (f : ∀ ρ' m' cm' ce' frz' σ', Ext ρ ρ' frz frz' → Rel W c s' σ' ρ' m' cm' ce' frz' → P σ' → C) : C := ex6 h fun a b c d e g h => an3 h (f a b c d e g)
theorem Qv.ext {W : Wd} {c : FC} {ρ ρ' : Nat → Option Addr} {f f' : List (Addr × Obj)} {P : AV → St → Prop} {v : Value} {s' : Shared} (a : Ext ρ ρ' f f') (h : Qv W c ρ' f' P v s') : Qv W c ρ f P v s' :=
  Qv.el h fun ρ' m' cm' ce' frz' av σ' e => Qv.mk ρ' m' cm' ce' frz' av σ' (a.trans e)
theorem Qu.ext {W : Wd} {c : FC} {ρ ρ' : Nat → Option Addr} {f f' : List (Addr × Obj)} {P : St → Prop} {s' : Shared} (a : Ext ρ ρ' f f') (h : Qu W c ρ' f' P s') : Qu W c ρ f P s' :=
  Qu.el h fun ρ' m' cm' ce' frz' σ' e => Qu.mk ρ' m' cm' ce' frz' σ' (a.trans e)
theorem Rel.toks {W : Wd} {c : FC} {s : Shared} {σ : St} {ρ : Nat → Option Addr} {m : Str → Option Value} {cm ce frz : List (Addr × Obj)} (R : Rel W c s σ ρ m cm ce frz) (t : Nat) : Rel W c { s with toks := t } σ ρ m cm ce frz :=
  ⟨R.F, R.N, R.nd, R.ou, R.ex, R.cv, R.H, R.V, R.C, R.Fv, R.rn, R.gens, R.os⟩
theorem Rel.lt {W : Wd} {c : FC} {s : Shared} {σ : St} {ρ : Nat → Option Addr} {m : Str → Option Value} {cm ce frz : List (Addr × Obj)} (R : Rel W c s σ ρ m cm ce frz) : ∀ q ∈ cm ++ (ce ++ frz), q.1 < s.heap.objs.size := fun q hq => Heap.lt_size (R.N q hq).1
theorem Rel.frozen {W : Wd} {c : FC} {s : Shared} {σ : St} {ρ : Nat → Option Addr} {m : Str → Option Value} {cm ce frz : List (Addr × Obj)} (R : Rel W c s σ ρ m cm ce frz) {h' : Heap} {a : Addr} {o : Obj} {t : Nat}
    (F' : Fr c.h₀ c.L h' m) (N' : News c.h₀ c.L h' ((a, o) :: (cm ++ (ce ++ frz)))) (hf : ∀ q ∈ cm ++ (ce ++ frz), q.1 < a) : Rel W c { s with heap := h', toks := t } σ ρ m cm ce ((a, o) :: frz) := by
  have zz : ∀ x y, Z c.h₀ frz x y → Z c.h₀ ((a, o) :: frz) x y := fun _ _ z => z.imp id (.tail _)
  have rr : ∀ n x, ρ n = some x → ρ n = some x := fun _ _ z => z
  have pm : (cm ++ (ce ++ ((a, o) :: frz))).Perm ((a, o) :: (cm ++ (ce ++ frz))) := by
    refine (List.append_assoc ..) ▸ (List.append_assoc ..) ▸ ?_
    exact List.perm_middle
  refine ⟨F', fun q hq => N' q (pm.mem_iff.mp hq), ?_, R.ou, R.ex, R.cv, R.H.mono zz rr, ?_, ?_, ?_, R.rn, R.gens, R.os⟩
  · rw [(pm.map (·.1)).nodup_iff, List.map_cons, List.nodup_cons]
    refine ⟨fun hm => ?_, R.nd⟩
    obtain ⟨q, hq, e⟩ := List.mem_map.mp hm
    exact absurd (hf q hq) (by refine e ▸ ?_; exact Nat.lt_irrefl _)
  · intro x v hx
    obtain ⟨u, h1, h2⟩ := R.V x v hx
    exact ⟨u, h1, h2.mono zz rr⟩
  · intro x ov hx
    refine ex2 (R.C x ov hx) fun b ob hq0 => an4 hq0 fun h1 h2 h3 h4 => ?_; try clear hq0
    exact ex2i b ob ⟨h1, h2, h3, fun v hv => let ⟨u, h5, h6⟩ := h4 v hv; ⟨u, h5, h6.mono zz rr⟩⟩
  · intro x v hx
    refine ex3 (R.Fv x v hx) fun b ob u hq0 => an4 hq0 fun h1 h2 h3 h4 => ?_; try clear hq0
    exact ex3i b ob u ⟨h1, h2, h3, h4.mono zz rr⟩
theorem Rel.same {W : Wd} {c : FC} {s : Shared} {σ : St} {ρ : Nat → Option Addr} {m : Str → Option Value} {cm ce frz : List (Addr × Obj)} (R : Rel W c s σ ρ m cm ce frz) {h' : Heap} {t : Nat}
    (F' : Fr c.h₀ c.L h' m) (N' : News c.h₀ c.L h' (cm ++ (ce ++ frz))) : Rel W c { s with heap := h', toks := t } σ ρ m cm ce frz :=
  ⟨F', N', R.nd, R.ou, R.ex, R.cv, R.H, R.V, R.C, R.Fv, R.rn, R.gens, R.os⟩
noncomputable abbrev Wd.M (W : Wd) : Model := model W.prog W.w
noncomputable abbrev Wd.Ok (W : Wd) (c : FC) : Prop := c.Ok W.K W.p W.loose W.mean W.mg W.mb
noncomputable def TbAt (c : FC) (h : Heap) (tr : List Addr) (e : Addr) (v : Value) : Prop :=
  v = .none ∨ ∃ T oT ts, v = .ref T ∧ T ≠ e ∧ T ∉ tr ∧ c.h₀.get? T = none ∧ h.get? T = some oT ∧ oT.data = .fields ts ∧ ts[3]? = some .none
noncomputable def ExcAt (W : Wd) (c : FC) (h : Heap) (tr frz : List (Addr × Obj)) (e : Addr) (sym : Str) : Prop :=
  ∃ oe vs d od t v₁, h.get? e = some oe ∧ oe.cls = .ref W.LS ∧ oe.dict = some d ∧ oe.data = .fields vs ∧ vs[1]? = some v₁ ∧ Z c.h₀ frz d od ∧
    lookIn "symbol" od = some (some (.str sym t)) ∧ c.h₀.get? e = none ∧ e ∉ tr.map (·.1) ∧ TbAt c h (tr.map (·.1)) e v₁
noncomputable def Qx (W : Wd) (c : FC) (ρ : Nat → Option Addr) (frz : List (Addr × Obj)) (X : Str → St → Prop) (v : Value) (s' : Shared) : Prop :=
  ∃ ρ' m' cm' ce' frz' e sym σ', v = .ref e ∧ Ext ρ ρ' frz frz' ∧ Rel W c s' σ' ρ' m' cm' ce' frz' ∧ ExcAt W c s'.heap (cm' ++ (ce' ++ frz')) frz' e sym ∧ X sym σ'
theorem Qx.el {W : Wd} {c : FC} {ρ : Nat → Option Addr} {frz : List (Addr × Obj)} {X : Str → St → Prop} {v : Value} {s' : Shared} {C : Prop} (h : Qx W c ρ frz X v s') (f : ∀ ρ' m' cm' ce' frz' e sym σ', v = .ref e → Ext ρ ρ' frz frz' → Rel W c s' σ' ρ' m' cm' ce' frz' → ExcAt W c s'.heap (cm' ++ (ce' ++ frz')) frz' e sym → X sym σ' → C) : C := ex8 h fun a b c d e g i j h => an5 h (f a b c d e g i j)
theorem Qx.mk {W : Wd} {c : FC} {ρ : Nat → Option Addr} {frz : List (Addr × Obj)} {X : Str → St → Prop} {v : Value} {s' : Shared} (ρ' : Nat → Option Addr) (m' : Str → Option Value) (cm' ce' frz' : List (Addr × Obj)) (e : Addr) (sym : Str) (σ' : St) (q : v = .ref e) (x : Ext ρ ρ' frz frz') (R : Rel W c s' σ' ρ' m' cm' ce' frz') (z : ExcAt W c s'.heap (cm' ++ (ce' ++ frz')) frz' e sym) (r : X sym σ') : Qx W c ρ frz X v s' := ex8i ρ' m' cm' ce' frz' e sym σ' ⟨q, x, R, z, r⟩
theorem Qx.ext {W : Wd} {c : FC} {ρ ρ' : Nat → Option Addr} {f f' : List (Addr × Obj)} {X : Str → St → Prop} {v : Value} {s' : Shared} (a : Ext ρ ρ' f f') (h : Qx W c ρ' f' X v s') : Qx W c ρ f X v s' :=
  Qx.el h fun ρ' m' cm' ce' frz' e sym σ' q x => Qx.mk ρ' m' cm' ce' frz' e sym σ' q (a.trans x)
section
variable (W : Wd) (c : FC)
noncomputable def TriE (σ : St) (t : Sem Value) (P : AV → St → Prop) (X : Str → St → Prop) : Prop :=
  ∀ s ρ m cm ce frz, Rel W c s σ ρ m cm ce frz → wpAny W.M c.A t (Qv W c ρ frz P) (Qx W c ρ frz X) s
noncomputable def TriB (σ : St) (t : Sem Bool) (P : Bool → St → Prop) (X : Str → St → Prop) : Prop :=
  ∀ s ρ m cm ce frz, Rel W c s σ ρ m cm ce frz → wpAny W.M c.A t (fun b => Qu W c ρ frz (P b)) (Qx W c ρ frz X) s
noncomputable def TriV (σ : St) (a : AV) (t : Value → Sem Value) (P : AV → St → Prop) (X : Str → St → Prop) : Prop :=
  ∀ s ρ m cm ce frz va, Rel W c s σ ρ m cm ce frz → Val (Z c.h₀ frz) ρ a va → wpAny W.M c.A (t va) (Qv W c ρ frz P) (Qx W c ρ frz X) s
noncomputable def TriV2 (σ : St) (a b : AV) (t : Value → Value → Sem Value) (P : AV → St → Prop) (X : Str → St → Prop) : Prop :=
  ∀ s ρ m cm ce frz va vb, Rel W c s σ ρ m cm ce frz → Val (Z c.h₀ frz) ρ a va → Val (Z c.h₀ frz) ρ b vb → wpAny W.M c.A (t va vb) (Qv W c ρ frz P) (Qx W c ρ frz X) s
noncomputable def TriVU (σ : St) (a : AV) (t : Value → Sem Unit) (P : St → Prop) (X : Str → St → Prop) : Prop :=
  ∀ s ρ m cm ce frz va, Rel W c s σ ρ m cm ce frz → Val (Z c.h₀ frz) ρ a va → wpAny W.M c.A (t va) (fun _ => Qu W c ρ frz P) (Qx W c ρ frz X) s
noncomputable def TriVB (σ : St) (a : AV) (t : Value → Sem Bool) (P : Bool → St → Prop) (X : Str → St → Prop) : Prop :=
  ∀ s ρ m cm ce frz va, Rel W c s σ ρ m cm ce frz → Val (Z c.h₀ frz) ρ a va → wpAny W.M c.A (t va) (fun b => Qu W c ρ frz (P b)) (Qx W c ρ frz X) s
end
section
variable {W : Wd} {c : FC} {σ : St} {P : AV → St → Prop} {X : Str → St → Prop}
theorem Rel.here {s : Shared} {ρ : Nat → Option Addr} {m : Str → Option Value} {cm ce frz : List (Addr × Obj)} (R : Rel W c s σ ρ m cm ce frz) {a : AV} {v : Value} (hv : Val (Z c.h₀ frz) ρ a v) (h : P a σ) : Qv W c ρ frz P v s :=
  (Qv.mk ρ m cm ce frz a σ .refl R hv h)
theorem Rel.hereU {s : Shared} {ρ : Nat → Option Addr} {m : Str → Option Value} {cm ce frz : List (Addr × Obj)} {P : St → Prop} (R : Rel W c s σ ρ m cm ce frz) (h : P σ) : Qu W c ρ frz P s :=
  (Qu.mk ρ m cm ce frz σ .refl R h)
theorem vN {Zp : Addr → Obj → Prop} {ρ : Nat → Option Addr} : Val Zp ρ .none .none := rfl
theorem vB {Zp : Addr → Obj → Prop} {ρ : Nat → Option Addr} {b : Bool} : Val Zp ρ (.bool b) (.bool b) := rfl
theorem vI {Zp : Addr → Obj → Prop} {ρ : Nat → Option Addr} {i : Int} {t : Tok} : Val Zp ρ (.int i) (.int i t) := ⟨t, rfl⟩
theorem vS {Zp : Addr → Obj → Prop} {ρ : Nat → Option Addr} {x : Str} {t : Tok} : Val Zp ρ (.str x) (.str x t) := ⟨t, rfl⟩
theorem vC {Zp : Addr → Obj → Prop} {ρ : Nat → Option Addr} {v : Value} : Val Zp ρ (.con v) v := rfl
theorem tri_none (h : P .none σ) : TriE W c σ (pure .none) P X := fun _ _ _ _ _ _ R => wpAny_pure (R.here vN h)
theorem tri_bool {b : Bool} (h : P (.bool b) σ) : TriE W c σ (pure (.bool b)) P X := fun _ _ _ _ _ _ R => wpAny_pure (R.here vB h)
theorem tri_int {i : Int} (h : P (.int i) σ) : TriE W c σ (mkInt i) P X := fun _ _ _ _ _ _ R => wpAny_bind (wpAny_fresh (wpAny_pure ((R.toks _).here vI h)))
theorem tri_str {x : Str} (h : P (.str x) σ) : TriE W c σ (mkText x) P X := fun _ _ _ _ _ _ R => wpAny_mkText ((R.toks _).here vS h)
theorem tri_local {x : Str} {pos : Pos} {v : AV} (O : W.Ok c) (hk : c.cs.names.lookup x = some .local) (hd : (x == ("__debug__" : Str)) = false) (hv : lget x σ.loc = some v) (h : P v σ) : TriE W c σ (eval (.Name x pos) c.env) P X :=
  fun s ρ m cm ce frz R => by
    obtain ⟨u, hu, hV⟩ := R.V x v hv
    exact wpAny_Name (wpAny_loadName_local O.kind hk (O.eL ▸ R.F.ns) hu (R.here hV h)) hd
theorem tri_cell {x : Str} {pos : Pos} {v : AV} (O : W.Ok c) (hk : c.cs.names.lookup x = some .cell) (hd : (x == ("__debug__" : Str)) = false) (hv : cget x σ.cel = some (some v)) (h : P v σ) : TriE W c σ (eval (.Name x pos) c.env) P X :=
  fun s ρ m cm ce frz R => by
    refine ex2 (R.C x _ hv) fun a o hq0 => an4 hq0 fun hc hm _ hV => ?_; try clear hq0
    obtain ⟨u, hu, hV⟩ := hV v rfl
    exact wpAny_Name (wpAny_loadName_cell O.kind hk hc ⟨o, (R.N _ (List.mem_append_right _ (List.mem_append_left _ hm))).1, hu⟩ (R.here hV h)) hd
theorem tri_free {x : Str} {pos : Pos} {v : AV} (O : W.Ok c) (hk : c.cs.names.lookup x = some .free) (hd : (x == ("__debug__" : Str)) = false) (hn : (x == ("__classdict__" : Str)) = false) (hv : lget x σ.fre = some v) (h : P v σ) : TriE W c σ (eval (.Name x pos) c.env) P X :=
  fun s ρ m cm ce frz R => by
    refine ex3 (R.Fv x _ hv) fun a o u hq0 => an4 hq0 fun hc ho hu hV => ?_; try clear hq0
    exact wpAny_Name (wpAny_loadName_free O.kind hk hc ⟨o, R.F.keep _ _ ho, hu⟩ (R.here hV h) hn) hd
theorem tri_global {x : Str} {pos : Pos} {v : Value} (O : W.Ok c) (hk : c.cs.names.lookup x = some .globalImplicit) (hd : (x == ("__debug__" : Str)) = false) (hv : nsIn W.K mainGlobals x = some (some v)) (h : P (.con v) σ) : TriE W c σ (eval (.Name x pos) c.env) P X :=
  fun s ρ m cm ce frz R => Name_function_global O.kind hk (loadGlobal_global (O.eG.symm ▸ O.T.g.keeps R.F.keep) (mg_of O.X O.T.g hv) (R.here vC h)) hd
theorem tri_builtin {x : Str} {pos : Pos} {v : Value} (O : W.Ok c) (hk : c.cs.names.lookup x = some .globalImplicit) (hd : (x == ("__debug__" : Str)) = false) (he : nsIn W.K mainGlobals x = some none) (hv : bootBuiltins x = some v) (hn : x ≠ "__name__") (h : P (.con v) σ) : TriE W c σ (eval (.Name x pos) c.env) P X :=
  fun s ρ m cm ce frz R => Name_function_global O.kind hk (loadGlobal_builtin (O.eG.symm ▸ O.T.g.keeps R.F.keep) (mg_none_of O.X O.T.g he) (O.eB.symm ▸ O.T.b.keeps R.F.keep) ((O.T.builtins _ hn).trans hv) (R.here vC h)) hd
theorem tri_BinOp {l r : Expr} {op : Operator} {pos : Pos} {P₁ : AV → St → Prop} {P₂ : AV → AV → St → Prop} (h₁ : TriE W c σ (eval l c.env) P₁ X) (h₂ : ∀ a σ₁, P₁ a σ₁ → TriE W c σ₁ (eval r c.env) (P₂ a) X)
    (h₃ : ∀ a b σ₂, P₂ a b σ₂ → TriV2 W c σ₂ a b (binaryOp op) P X) : TriE W c σ (eval (.BinOp l op r pos) c.env) P X :=
  fun s ρ m cm ce frz R => wpAny_BinOp (wpAny_mono (h₁ s ρ m cm ce frz R) (fun va s₁ zz => Qv.el zz fun ρ' m' cm' ce' frz' av σ' e R' hv q =>
    wpAny_mono (h₂ av σ' q s₁ ρ' m' cm' ce' frz' R') (fun vb s₂ zz => Qv.el zz fun ρ'' m'' cm'' ce'' frz'' bv σ'' e' R'' hv' q' =>
      wpAny_mono (h₃ av bv σ'' q' s₂ ρ'' m'' cm'' ce'' frz'' va vb R'' (hv.ext e') hv') (fun _ _ z => z.ext (e.trans e')) fun _ _ z => z.ext (e.trans e')) fun _ _ z => z.ext e) fun _ _ z => z)
theorem tri_IfExp {test body orelse : Expr} {pos : Pos} {P₁ : Bool → St → Prop} (h₁ : TriB W c σ (isTrue test c.env (eval test c.env)) P₁ X) (h₂ : ∀ σ₁, P₁ true σ₁ → TriE W c σ₁ (eval body c.env) P X) (h₃ : ∀ σ₁, P₁ false σ₁ → TriE W c σ₁ (eval orelse c.env) P X) :
    TriE W c σ (eval (.IfExp test body orelse pos) c.env) P X :=
  fun s ρ m cm ce frz R => by
    refine (eval_IfExp ..) ▸ ?_
    refine wpAny_bind (wpAny_mono (h₁ s ρ m cm ce frz R) (fun b s₁ zz => Qu.el zz fun ρ' m' cm' ce' frz' σ' e R' q => ?_) fun _ _ z => z)
    cases b with
    | true => exact wpAny_mono (h₂ σ' q s₁ ρ' m' cm' ce' frz' R') (fun _ _ z => z.ext e) fun _ _ z => z.ext e
    | false => exact wpAny_mono (h₃ σ' q s₁ ρ' m' cm' ce' frz' R') (fun _ _ z => z.ext e) fun _ _ z => z.ext e
theorem tri_UnaryOp {x : Expr} {op : UnaryOp} {pos : Pos} {P₁ : AV → St → Prop} (h₁ : TriE W c σ (eval x c.env) P₁ X) (h₂ : ∀ a σ₁, P₁ a σ₁ → TriV W c σ₁ a (unaryOp op) P X) : TriE W c σ (eval (.UnaryOp op x pos) c.env) P X :=
  fun s ρ m cm ce frz R => wpAny_UnaryOp (wpAny_mono (h₁ s ρ m cm ce frz R) (fun va s₁ zz => Qv.el zz fun ρ' m' cm' ce' frz' av σ' e R' hv q =>
    wpAny_mono (h₂ av σ' q s₁ ρ' m' cm' ce' frz' va R' hv) (fun _ _ z => z.ext e) fun _ _ z => z.ext e) fun _ _ z => z)
end
noncomputable def hpInts (hp : List (Nat × AO)) : AV → Option (List Int)
  | .lst xs => some xs
  | .ref n => (hget n hp).bind arrOf
  | _ => none
noncomputable def asInts (σ : St) (a : AV) : Option (List Int) := hpInts σ.hp a
section
variable {W : Wd} {c : FC} {σ : St} {P : AV → St → Prop} {X : Str → St → Prop} {s : Shared} {ρ : Nat → Option Addr} {m : Str → Option Value} {cm ce frz : List (Addr × Obj)}
theorem Z.get (R : Rel W c s σ ρ m cm ce frz) {a : Addr} {o : Obj} (z : Z c.h₀ frz a o) : s.heap.get? a = some o := z.elim (fun e => R.F.keep _ _ e) fun e => (R.N _ (List.mem_append_right _ (List.mem_append_right _ e))).1
theorem Rel.ints (R : Rel W c s σ ρ m cm ce frz) {a : AV} {xs : List Int} {va : Value} (e : asInts σ a = some xs) (hv : Val (Z c.h₀ frz) ρ a va) : ∃ l its n, va = .ref l ∧ s.heap.get? l = some (listOf its n) ∧ IntsAre its.toList xs := by
  cases a with
  | lst ys => cases e; refine ex3 hv fun l its n hq0 => an3 hq0 fun qe3 z i => ?_; try clear hq0; try clear hv; subst qe3; exact ex3i l its n ⟨rfl, Z.get R z, i⟩
  | ref n =>
    refine bind_el e fun o hg e => ?_
    cases arrOf_eq e; clear e
    obtain ⟨l, rfl, hr⟩ := hv
    refine ex3 (R.H.get hg) fun pre ll post hq0 => an3 hq0 fun qe3 np4 _ => ?_; try clear hq0; subst qe3; refine cps fun GG kG => ?_; obtain ⟨x, its, k, rfl, hx, hi⟩ := np4; refine kG ?_
    rw [hr] at hx; cases hx
    exact ex3i l its k ⟨rfl, (R.N (l, listOf its k) (by simp)).1, hi⟩
  | _ => exact nope e
theorem Rel.isList (R : Rel W c s σ ρ m cm ce frz) {a : AV} {xs : List Int} {va : Value} (e : asInts σ a = some xs) (hv : Val (Z c.h₀ frz) ρ a va) : ∃ l its, va = .ref l ∧ s.heap.IsList l its ∧ IntsAre its.toList xs :=
  let ⟨l, its, n, e, h, i⟩ := R.ints e hv; (ex2i l its ⟨e, ⟨_, h, rfl, n, rfl⟩, i⟩)
theorem Rel.newLst (R : Rel W c s σ ρ m cm ce frz) {h' : Heap} {a : Addr} {its : Array Value} {n : Nat} {t : Nat} {xs : List Int} (F' : Fr c.h₀ c.L h' m) (N' : News c.h₀ c.L h' ((a, listOf its n) :: (cm ++ (ce ++ frz))))
    (hf : ∀ q ∈ cm ++ (ce ++ frz), q.1 < a) (hi : IntsAre its.toList xs) (h : P (.lst xs) σ) : Qv W c ρ frz P (.ref a) { s with heap := h', toks := t } :=
  (ex7i ρ m cm ce ((a, listOf its n) :: frz) (.lst xs) σ ⟨⟨fun _ _ z => z, fun _ z => .tail _ z⟩, R.frozen F' N' hf, ex3i a its n ⟨rfl, .inr (.head _), hi⟩, h⟩)
noncomputable def okMul (i j : Int) : Prop := (-(2 ^ 64) < i ∧ i < 2 ^ 64) ∨ (-(2 ^ 64) < j ∧ j < 2 ^ 64)
theorem intMulOk {i j : Int} (h : okMul i j) : IntMulOk i j := h.elim (fun h => IntMulOk.of_left (intBits_le_64 h.1 h.2)) fun h => IntMulOk.of_right (intBits_le_64 h.1 h.2)
noncomputable def intP (a b : AV) (f : Int → Int → Prop) : Prop := match a with
  | .int i => (match b with | .int j => f i j | _ => False)
  | _ => False
theorem intP_iff {a b : AV} {f : Int → Int → Prop} (h : intP a b f) : ∃ i j, a = .int i ∧ b = .int j ∧ f i j := by
  cases a with
  | int i =>
    cases b with
    | int j => exact ex2i _ _ ⟨rfl, rfl, h⟩
    | _ => exact False.elim h
  | _ => exact False.elim h
noncomputable def catV (σ : St) (a b : AV) (P : AV → Prop) : Prop := match asInts σ a with
  | some xs => (match asInts σ b with | some ys => xs.length + ys.length ≤ 2 ^ 24 ∧ P (.lst (xs ++ ys)) | none => False)
  | none => False
noncomputable def repV (xs : List Int) (b : AV) (P : AV → Prop) : Prop := match xs with
  | [x] => (match b with | .int k => (0 ≤ k ∧ k ≤ 2 ^ 20) ∧ P (.lst (List.replicate k.toNat x)) | _ => False)
  | _ => False
noncomputable def binV (op : Operator) (σ : St) (a b : AV) (P : AV → Prop) : Prop := match op with
  | .Add => (match a with
    | .int i => intP (.int i) b fun i j => P (.int (i + j))
    | a => catV σ a b P)
  | .Sub => intP a b fun i j => P (.int (i - j))
  | .Mult => (match a with
    | .lst xs => repV xs b P
    | a => intP a b fun i j => okMul i j ∧ P (.int (i * j)))
  | .FloorDiv => intP a b fun i j => (j ≠ 0 ∧ j.natAbs < 1073741824) ∧ P (.int (i.fdiv j))
  | .Mod => intP a b fun i j => j ≠ 0 ∧ P (.int (i.fmod j))
  | .Pow => intP a b fun i j => (0 ≤ j ∧ (Builtin.Int.intBits i : Int) * j ≤ 2 ^ 27) ∧ P (.int (i ^ j.toNat))
  | _ => False
theorem intsAre_replicate {x : Int} {t : Tok} : ∀ k : Nat, IntsAre (List.replicate k [Value.int x t]).flatten (List.replicate k x)
  | 0 => .nil
  | k + 1 => .cons x t (intsAre_replicate k)
theorem foldl_flat (items : Array Value) : ∀ (k : Nat) (acc : Array Value), (List.foldl (fun x1 x2 => x1 ++ x2) acc (List.replicate k items)).toList = acc.toList ++ (List.replicate k items.toList).flatten
  | 0, acc => by simp
  | k + 1, acc => by rw [List.replicate_succ, List.foldl_cons, foldl_flat items k]; simp [List.replicate_succ]
theorem tri_bin {op : Operator} {a b : AV} (h : binV op σ a b (fun v => P v σ)) : TriV2 W c σ a b (binaryOp op) P X := by
  intro s ρ m cm ce frz va vb R ha hb
  have two : ∀ {op : Operator} {f : Int → Int → Prop}, intP a b f → (∀ i j t u, f i j → wpAny W.M c.A (binaryOp op (.int i t) (.int j u)) (Qv W c ρ frz P) (Qx W c ρ frz X) s) → wpAny W.M c.A (binaryOp op va vb) (Qv W c ρ frz P) (Qx W c ρ frz X) s := by
    intro op f h k
    refine ex2 (intP_iff h) fun i j hq0 => an3 hq0 fun qe2 qe3 h => ?_; try clear hq0; subst qe2; subst qe3
    obtain ⟨t, rfl⟩ := ha; obtain ⟨u, rfl⟩ := hb
    exact k _ _ _ _ h
  have cat : catV σ a b (fun v => P v σ) → wpAny W.M c.A (binaryOp .Add va vb) (Qv W c ρ frz P) (Qx W c ρ frz X) s := fun h => by
    delta catV at h
    cases e1 : asInts σ a with
    | none => simp only [e1] at h
    | some xs =>
      cases e2 : asInts σ b with
      | none => simp only [e1, e2] at h
      | some ys =>
        simp only [e1, e2] at h
        refine ex2 (R.isList e1 ha) fun l its hq0 => an3 hq0 fun qe2 hl hi => ?_; try clear hq0; subst qe2
        refine ex2 (R.isList e2 hb) fun l' its' hq0 => an3 hq0 fun qe2 hl' hi' => ?_; try clear hq0; subst qe2
        exact add_arrays_ints R.F R.N hl hl' hi hi' (fun h' F' N' i => R.newLst (n := 0) F' N' (fun q hq => R.lt q hq) i h.2) h.1
  cases op with
  | Add =>
    cases a with
    | int i => delta binV at h; exact two (op := .Add) h fun i j t u h => add_int ((R.toks _).here vI h)
    | _ => exact cat h
  | Sub => exact two (op := .Sub) h fun i j t u h => sub_int ((R.toks _).here vI h)
  | FloorDiv => exact two (op := .FloorDiv) h fun i j t u h => floordiv_int h.1.1 ((R.toks _).here vI h.2) (.inl (PyProof.noPylong_small h.1.2))
  | Mod => exact two (op := .Mod) h fun i j t u h => mod_int' h.1 ((R.toks _).here vI h.2)
  | Pow => exact two (op := .Pow) h fun i j t u h => pow_int h.1.1 h.1.2 ((R.toks _).here vI h.2)
  | Mult =>
    have mul := fun (h : intP a b fun i j => okMul i j ∧ P (.int (i * j)) σ) => two (op := .Mult) h fun i j t u h => mul_int ((R.toks _).here vI h.2) (intMulOk h.1)
    cases a with
    | lst xs =>
      rcases xs with _ | ⟨x, _ | ⟨y, r⟩⟩
      · exact False.elim h
      · cases b with
        | int k =>
          obtain ⟨⟨h0, h1⟩, h⟩ := h
          refine ex3 ha fun l its n hq0 => an3 hq0 fun qe3 z i => ?_; try clear hq0; try clear ha; subst qe3; obtain ⟨u, rfl⟩ := hb
          have hz := Z.get R z
          obtain ⟨its⟩ := its
          cases i with
          | cons _ t i =>
            cases i
            refine mul_list R.F R.N hz (Int.le_trans (by decide) h0) (by lia -abstractProof) (by simp; lia -abstractProof) fun h' F' N' => ?_
            refine R.newLst (n := 0) F' N' (fun q hq => R.lt q hq) ?_ h
            refine (foldl_flat ..) ▸ ?_
            exact intsAre_replicate _
        | _ => exact False.elim h
      · exact False.elim h
    | _ => exact mul h
  | _ => exact False.elim h
end
noncomputable def rget : Int → List (Int × AV) → Option AV
  | _, [] => none
  | x, (y, v) :: r => if y = x then some v else rget x r
noncomputable def isNo : AV → Option Bool
  | .none => some true
  | .con _ => none
  | _ => some false
noncomputable def eqB (σ : St) (a b : AV) : Option Bool := match a with
  | .int i => (match b with | .int j => some (i == j) | _ => none)
  | .bool i => (match b with | .bool j => some (i == j) | _ => none)
  | .str x => (match b with | .str y => some (x == y) | _ => none)
  | .tup2 x y => (match x with
    | .int i => (match y with
      | .int j => (match b with
        | .tup2 u v => (match u with
          | .int k => (match v with | .int l => some (i == k && j == l) | _ => none)
          | _ => none)
        | _ => none)
      | _ => none)
    | _ => none)
  | a => (match asInts σ a with
    | some xs => (match asInts σ b with | some ys => some (decide (xs = ys)) | none => none)
    | none => none)
noncomputable def intB (a b : AV) (f : Int → Int → Bool) : Option Bool := match a with
  | .int i => (match b with | .int j => some (f i j) | _ => none)
  | _ => none
noncomputable def dicAt (σ : St) (b : AV) : Option (List (Int × AV)) := match b with
  | .ref n => (hget n σ.hp).bind dicOf
  | _ => none
noncomputable def inB (σ : St) (a b : AV) : Option Bool := match a with
  | .int i => (match asInts σ b with
    | some ys => some (ys.any (· == i))
    | none => (dicAt σ b).map fun rows => (rget i rows).isSome)
  | _ => none
noncomputable def niB (σ : St) (a b : AV) : Option Bool := match a with
  | .int i => (match asInts σ b with
    | some ys => some (!ys.any (· == i))
    | none => none)
  | _ => none
noncomputable def cmpB (op : CmpOp) (σ : St) (a b : AV) : Option Bool := match op with
  | .Eq => eqB σ a b
  | .NotEq => (match eqB σ a b with | some t => some (!t) | none => none)
  | .Lt => intB a b fun i j => decide (i < j)
  | .LtE => intB a b fun i j => decide (i ≤ j)
  | .Gt => intB a b fun i j => decide (i > j)
  | .GtE => intB a b fun i j => decide (i ≥ j)
  | .In => inB σ a b
  | .NotIn => niB σ a b
  | _ => none
noncomputable def isV (a b : AV) (P : Bool → Prop) : Prop := match b with
  | .none => (match isNo a with | some t => P t | none => False)
  | .ref k => (match a with | .ref n => n = k ∧ P true | _ => False)
  | _ => False
noncomputable def cmpV (op : CmpOp) (σ : St) (a b : AV) (P : Bool → Prop) : Prop := match op with
  | .Is => isV a b P
  | .IsNot => isV a b fun t => P (!t)
  | op => (match cmpB op σ a b with | some t => P t | none => False)
theorem isV_iff {a b : AV} {P : Bool → Prop} (h : isV a b P) : ∃ t, P t ∧ ((b = .none ∧ isNo a = some t) ∨ ∃ n, a = .ref n ∧ b = .ref n ∧ t = true) := by
  cases b with
  | none =>
    cases e : isNo a with
    | none => simp only [isV, e] at h
    | some t => simp only [isV, e] at h; exact ⟨t, h, .inl ⟨rfl, rfl⟩⟩
  | ref k =>
    cases a with
    | ref n => obtain ⟨rfl, h⟩ := h; exact ⟨true, h, .inr ⟨_, rfl, rfl, rfl⟩⟩
    | _ => exact False.elim h
  | _ => exact False.elim h
theorem isV_mk {a b : AV} {P : Bool → Prop} {t : Bool} (h : P t) (k : (b = .none ∧ isNo a = some t) ∨ ∃ n, a = .ref n ∧ b = .ref n ∧ t = true) : isV a b P := by
  rcases k with ⟨rfl, e⟩ | ⟨n, rfl, rfl, rfl⟩
  · show (match isNo a with | some t => P t | none => False)
    refine e ▸ ?_; exact h
  · exact ⟨rfl, h⟩
theorem cmpV_mono {op : CmpOp} {σ : St} {a b : AV} {Q Q' : Bool → Prop} (hq : ∀ t, Q t → Q' t) (hc : cmpV op σ a b Q) : cmpV op σ a b Q' := by
  have gen : ∀ o : Option Bool, (match o with | some t => Q t | none => False) → (match o with | some t => Q' t | none => False) := fun o h => by
    cases o with
    | none => exact False.elim h
    | some t => exact hq _ h
  cases op with
  | Is => obtain ⟨t, h, k⟩ := isV_iff hc; exact isV_mk (hq _ h) k
  | IsNot => obtain ⟨t, h, k⟩ := isV_iff hc; exact isV_mk (P := fun u => Q' (!u)) (hq _ h) k
  | _ => exact gen _ hc
section
variable {W : Wd} {c : FC} {σ : St} {P : AV → St → Prop} {X : Str → St → Prop} {s : Shared} {ρ : Nat → Option Addr} {m : Str → Option Value} {cm ce frz : List (Addr × Obj)}
theorem FC.Ok.u64 {K : Frag} {p : Program} {loose : List Str} {mean : ExcName → Option Value} {mg mb : Str → Option Value} (O : c.Ok K p loose mean mg mb) : c.A.units + 64 < cLine := by have := O.uni; lia -abstractProof
theorem isNo_plain {a : AV} {va : Value} {t : Bool} {Zp : Addr → Obj → Prop} (e : isNo a = some t) (h : Val Zp ρ a va) : plainIs va .none = true ∧ (va == Value.none) = t := by
  cases a with
  | none => cases e; cases h; exact ⟨rfl, by decide⟩
  | con => exact nope e
  | int i => cases e; obtain ⟨t, rfl⟩ := h; exact ⟨rfl, by simp⟩
  | bool i => cases e; cases h; exact ⟨rfl, by simp⟩
  | str i => cases e; obtain ⟨t, rfl⟩ := h; exact ⟨rfl, by simp⟩
  | lst i => cases e; refine ex3 h fun a _ _ hq0 => an2 hq0 fun qe3 _ => ?_; try clear hq0; try clear h; subst qe3; exact ⟨rfl, by simp⟩
  | scr i => cases e; refine ex4 h fun a _ _ _ hq0 => an2 hq0 fun qe4 _ => ?_; try clear hq0; try clear h; subst qe4; exact ⟨rfl, by simp⟩
  | rng i j => cases e; refine ex4 h fun a _ _ _ hq0 => an2 hq0 fun qe4 _ => ?_; try clear hq0; try clear h; subst qe4; exact ⟨rfl, by simp⟩
  | tup2 i j => cases e; refine ex4 h fun a _ _ _ hq0 => an2 hq0 fun qe4 _ => ?_; try clear hq0; try clear h; subst qe4; exact ⟨rfl, by simp⟩
  | tup3 i j k => cases e; refine ex5 h fun a _ _ _ _ hq0 => an2 hq0 fun qe5 _ => ?_; try clear hq0; try clear h; subst qe5; exact ⟨rfl, by simp⟩
  | ref n => cases e; obtain ⟨a, rfl, _⟩ := h; exact ⟨rfl, by simp⟩
theorem tup2_reads (R : Rel W c s σ ρ m cm ce frz) {i j : Int} {va : Value} (h : Val (Z c.h₀ frz) ρ (.tup2 (.int i) (.int j)) va) : ∃ t, va = .ref t ∧ Reads s.heap va (.tuple [.int i, .int j]) [] := by
  refine ex4 h fun t u w n hq0 => an4 hq0 fun qe4 z np6 np7 => ?_; try clear hq0; try clear h; subst qe4; obtain ⟨t1, rfl⟩ := np6; obtain ⟨t2, rfl⟩ := np7
  exact ⟨t, rfl, Reads.tuple (Z.get R z) rfl rfl (by simpa using ReadsAll.cons (Reads.int i t1) (ReadsAll.cons (Reads.int j t2) ReadsAll.nil))⟩
theorem shaped_tup2 (i j : Int) : shaped (.tuple [.int i, .int j]) = true := by
  simp [shaped, PyData.canLay0, PyData.canLayAll0, PyData.depth, PyData.depthAll]
theorem RowsR.val_at {Zp : Addr → Obj → Prop} {rows : List (Int × AV)} {kvs : List (Int × Value)} (h : RowsR Zp ρ rows kvs) (i : Int) :
    match rget i rows with | some v => ∃ u, PySem.valueAt kvs i = some u ∧ Val Zp ρ v u | none => PySem.valueAt kvs i = none := by
  induction h with
  | nil => rfl
  | @cons k v u r es hv hr ih =>
    simp only [rget]
    by_cases hk : k = i
    · refine if_pos hk ▸ ?_; exact ⟨u, by simp [PySem.valueAt, List.find?_cons, hk], hv⟩
    · refine if_neg hk ▸ ?_
      have e : PySem.valueAt ((k, u) :: es) i = PySem.valueAt es i := by simp [PySem.valueAt, List.find?_cons, hk]
      refine e ▸ ?_; exact ih
theorem Rel.dict (R : Rel W c s σ ρ m cm ce frz) {n : Nat} {rows : List (Int × AV)} {va : Value} (e : hget n σ.hp = some (.dict rows)) (hv : Val (Z c.h₀ frz) ρ (.ref n) va) :
    ∃ d kvs, va = .ref d ∧ s.heap.DictOf (intKind W.prog W.w) d kvs ∧ RowsR (Z c.h₀ frz) ρ rows kvs := by
  obtain ⟨l, rfl, hr⟩ := hv
  refine ex3 (R.H.get e) fun pre ll post hq0 => an3 hq0 fun qe3 np4 _ => ?_; try clear hq0; subst qe3; refine cps fun GG kG => ?_; obtain ⟨x, o, kvs, rfl, hx, ho, hi, _⟩ := np4; refine kG ?_
  rw [hr] at hx; cases hx
  exact ex2i l kvs ⟨rfl, Heap.dictOf_iff.mpr ⟨o, (R.N (l, o) (by simp)).1, ho⟩, hi⟩
theorem eq_coreF {F : Bool → Value → Value → Prop} (kF : ∀ t va vb, (P (.bool t) σ → wpAny W.M c.A (compareOp .Eq va vb) (Qv W c ρ frz P) (Qx W c ρ frz X) s) ∧ (P (.bool (!t)) σ → wpAny W.M c.A (compareOp .NotEq va vb) (Qv W c ρ frz P) (Qx W c ρ frz X) s) → F t va vb) {a b : AV} {t : Bool} {va vb : Value} (O : W.Ok c) (e : eqB σ a b = some t) (R : Rel W c s σ ρ m cm ce frz) (ha : Val (Z c.h₀ frz) ρ a va) (hb : Val (Z c.h₀ frz) ρ b vb) :
    F t va vb := by
  have ls : (match asInts σ a with | some xs => (match asInts σ b with | some ys => some (decide (xs = ys)) | none => none) | none => none) = some t → F t va vb := by
    intro e
    cases e1 : asInts σ a with
    | none => rw [e1] at e; exact nope e
    | some xs =>
      cases e2 : asInts σ b with
      | none => rw [e1, e2] at e; exact nope e
      | some ys =>
        rw [e1, e2] at e; cases e
        refine ex2 (R.isList e1 ha) fun l its hq0 => an3 hq0 fun qe2 hl hi => ?_; try clear hq0; subst qe2
        refine ex2 (R.isList e2 hb) fun l' its' hq0 => an3 hq0 fun qe2 hl' hi' => ?_; try clear hq0; subst qe2
        exact kF _ _ _ ⟨fun h => eq_intsK (vs := its.toList) (us := its'.toList) hl hi hl' hi' O.u64 (R.here vB h), fun h => ne_intsK (vs := its.toList) (us := its'.toList) hl hi hl' hi' O.u64 (R.here vB h)⟩
  cases a with
  | int i =>
    cases b with
    | int j => cases e; obtain ⟨t, rfl⟩ := ha; obtain ⟨u, rfl⟩ := hb; exact kF _ _ _ ⟨fun h => eq_int (R.here vB h), fun h => ne_int (R.here vB h)⟩
    | _ => exact nope e
  | bool i =>
    cases b with
    | bool j => cases e; cases ha; cases hb; exact kF _ _ _ ⟨fun h => eq_bool (R.here vB h), fun h => ne_bool (R.here vB h)⟩
    | _ => exact nope e
  | str i =>
    cases b with
    | str j => cases e; obtain ⟨t, rfl⟩ := ha; obtain ⟨u, rfl⟩ := hb; exact kF _ _ _ ⟨fun h => eq_str (R.here vB h), fun h => ne_str (R.here vB h)⟩
    | _ => exact nope e
  | tup2 x y =>
    cases x with
    | int i =>
      cases y with
      | int j =>
        cases b with
        | tup2 u v =>
          cases u with
          | int k =>
            cases v with
            | int l =>
              cases e
              obtain ⟨t, rfl, ra⟩ := tup2_reads R ha
              obtain ⟨u, rfl, rb⟩ := tup2_reads R hb
              refine kF _ _ _ ⟨fun h => eq_dataH_same ra rb (shaped_tup2 _ _) (shaped_tup2 _ _) O.u64 (by simp [noMix, noMixAll]) (R.here vB ?_), fun h => ne_dataH_same ra rb (shaped_tup2 _ _) (shaped_tup2 _ _) O.u64 (by simp [noMix, noMixAll]) (R.here vB ?_)⟩
              · simpa [PySem.Spec.same, PySem.Spec.sameAll, Bool.and_assoc] using h
              · simpa [PySem.Spec.same, PySem.Spec.sameAll, Bool.and_assoc] using h
            | _ => exact nope e
          | _ => exact nope e
        | _ => exact nope e
      | _ => exact nope e
    | _ => exact nope e
  | _ => exact ls e
theorem eq_core {a b : AV} {t : Bool} {va vb : Value} (O : W.Ok c) (e : eqB σ a b = some t) (R : Rel W c s σ ρ m cm ce frz) (ha : Val (Z c.h₀ frz) ρ a va) (hb : Val (Z c.h₀ frz) ρ b vb) :
    (P (.bool t) σ → wpAny W.M c.A (compareOp .Eq va vb) (Qv W c ρ frz P) (Qx W c ρ frz X) s) ∧ (P (.bool (!t)) σ → wpAny W.M c.A (compareOp .NotEq va vb) (Qv W c ρ frz P) (Qx W c ρ frz X) s) := eq_coreF (F := fun t va vb => (P (.bool t) σ → wpAny W.M c.A (compareOp .Eq va vb) (Qv W c ρ frz P) (Qx W c ρ frz X) s) ∧ (P (.bool (!t)) σ → wpAny W.M c.A (compareOp .NotEq va vb) (Qv W c ρ frz P) (Qx W c ρ frz X) s)) (fun _ _ _ h => h) O e R ha hb
theorem in_core {a b : AV} {t : Bool} {va vb : Value} (e : inB σ a b = some t) (R : Rel W c s σ ρ m cm ce frz) (ha : Val (Z c.h₀ frz) ρ a va) (hb : Val (Z c.h₀ frz) ρ b vb) (h : P (.bool t) σ) : wpAny W.M c.A (compareOp .In va vb) (Qv W c ρ frz P) (Qx W c ρ frz X) s := by
  cases a with
  | int i =>
    obtain ⟨t, rfl⟩ := ha
    delta inB at e
    cases e1 : asInts σ b with
    | some ys =>
      rw [e1] at e; cases e
      refine ex2 (R.isList e1 hb) fun l its hq0 => an3 hq0 fun qe2 hl hi => ?_; try clear hq0; subst qe2
      exact in_list_ints (vs := its.toList) hl hi (R.here vB h)
    | none =>
      rw [e1] at e
      obtain ⟨rows, hr, rfl⟩ := Option.map_eq_some_iff.mp e
      cases b with
      | ref n =>
        refine bind_el hr fun o e2 e => ?_
        cases dicOf_eq e; clear e
        refine ex3 (R.H.get e2) fun pre ll post hq0 => an3 hq0 fun hcm np4 _ => ?_; try clear hq0; refine cps fun GG kG => ?_; obtain ⟨x, o, kvs, rfl, hx, ho, hi, hlo⟩ := np4; refine kG ?_
        obtain ⟨d, rfl, hd⟩ := hb
        rw [hd] at hx; cases hx
        have hm : (x, o) ∈ cm ++ (ce ++ frz) := by refine hcm ▸ ?_; simp
        have D : s.heap.DictOf (intKind W.prog W.w) x kvs := Heap.dictOf_iff.mpr ⟨o, (R.N (x, o) hm).1, ho⟩
        refine wpAny_in_of (intKind_is W.prog W.w _ t) hlo D.mapOf ((R.toks _).here vB ?_)
        have := hi.val_at i
        revert this h
        cases rget i rows with
        | none => intro h e; refine e ▸ ?_; exact h
        | some v => rintro h ⟨u, e, _⟩; refine e ▸ ?_; exact h
      | _ => exact nope hr
  | _ => exact nope e
theorem ni_core {a b : AV} {t : Bool} {va vb : Value} (e : niB σ a b = some t) (R : Rel W c s σ ρ m cm ce frz) (ha : Val (Z c.h₀ frz) ρ a va) (hb : Val (Z c.h₀ frz) ρ b vb) (h : P (.bool t) σ) : wpAny W.M c.A (compareOp .NotIn va vb) (Qv W c ρ frz P) (Qx W c ρ frz X) s := by
  cases a with
  | int i =>
    obtain ⟨t, rfl⟩ := ha
    delta niB at e
    cases e1 : asInts σ b with
    | some ys =>
      rw [e1] at e; cases e
      refine ex2 (R.isList e1 hb) fun l its hq0 => an3 hq0 fun qe2 hl hi => ?_; try clear hq0; subst qe2
      exact notin_list_ints (vs := its.toList) hl hi (R.here vB h)
    | none => rw [e1] at e; exact nope e
  | _ => exact nope e
theorem intB_iff {a b : AV} {f : Int → Int → Bool} {t : Bool} (e : intB a b f = some t) : ∃ i j, a = .int i ∧ b = .int j ∧ t = f i j := by
  cases a with
  | int i =>
    cases b with
    | int j => cases e; exact ex2i _ _ ⟨rfl, rfl, rfl⟩
    | _ => exact nope e
  | _ => exact nope e
theorem opt_b {o : Option Bool} {P : Bool → Prop} (h : match o with | some t => P t | none => False) : ∃ t, o = some t ∧ P t := by
  cases o with
  | none => exact False.elim h
  | some t => exact ⟨t, rfl, h⟩
theorem tri_cmp {op : CmpOp} {a b : AV} (O : W.Ok c) (h : cmpV op σ a b (fun v => P (.bool v) σ)) : TriV2 W c σ a b (compareOp op) P X := by
  intro s ρ m cm ce frz va vb R ha hb
  cases op with
  | Is =>
    obtain ⟨t, h2, ⟨rfl, e⟩ | ⟨n, rfl, rfl, rfl⟩⟩ := isV_iff h
    · cases hb
      obtain ⟨h1, h3⟩ := isNo_plain e ha
      exact wpAny_is_plain h1 (by refine h3 ▸ ?_; exact R.here vB h2)
    · obtain ⟨x, rfl, hx⟩ := ha; obtain ⟨y, rfl, hy⟩ := hb
      rw [hx] at hy; cases hy
      exact wpAny_is_ref_self (R.here vB h2)
  | IsNot =>
    obtain ⟨t, h2, ⟨rfl, e⟩ | ⟨n, rfl, rfl, rfl⟩⟩ := isV_iff h
    · cases hb
      obtain ⟨h1, h3⟩ := isNo_plain e ha
      exact wpAny_isNot_plain h1 (by refine h3 ▸ ?_; exact R.here vB h2)
    · obtain ⟨x, rfl, hx⟩ := ha; obtain ⟨y, rfl, hy⟩ := hb
      rw [hx] at hy; cases hy
      exact wpAny_isNot_ref_self (R.here vB h2)
  | Eq => obtain ⟨t, e, h⟩ := opt_b h; exact (eq_core O e R ha hb).1 h
  | NotEq =>
    obtain ⟨t, e, h⟩ := opt_b h
    delta cmpB at e
    cases e1 : eqB σ a b with
    | none => simp only [e1] at e; exact nope e
    | some u => simp only [e1] at e; cases e; exact (eq_core O e1 R ha hb).2 h
  | In => obtain ⟨t, e, h⟩ := opt_b h; exact in_core e R ha hb h
  | NotIn => obtain ⟨t, e, h⟩ := opt_b h; exact ni_core e R ha hb h
  | Lt =>
    obtain ⟨t, e, h⟩ := opt_b h
    refine ex2 (intB_iff (f := fun i j => decide (i < j)) e) fun i j hq0 => an3 hq0 fun qe2 qe3 qe4 => ?_; try clear hq0; subst qe2; subst qe3; subst qe4
    obtain ⟨t, rfl⟩ := ha; obtain ⟨u, rfl⟩ := hb
    exact lt_int (R.here vB h)
  | LtE =>
    obtain ⟨t, e, h⟩ := opt_b h
    refine ex2 (intB_iff (f := fun i j => decide (i ≤ j)) e) fun i j hq0 => an3 hq0 fun qe2 qe3 qe4 => ?_; try clear hq0; subst qe2; subst qe3; subst qe4
    obtain ⟨t, rfl⟩ := ha; obtain ⟨u, rfl⟩ := hb
    exact le_int (R.here vB h)
  | Gt =>
    obtain ⟨t, e, h⟩ := opt_b h
    refine ex2 (intB_iff (f := fun i j => decide (i > j)) e) fun i j hq0 => an3 hq0 fun qe2 qe3 qe4 => ?_; try clear hq0; subst qe2; subst qe3; subst qe4
    obtain ⟨t, rfl⟩ := ha; obtain ⟨u, rfl⟩ := hb
    exact gt_int (R.here vB h)
  | GtE =>
    obtain ⟨t, e, h⟩ := opt_b h
    refine ex2 (intB_iff (f := fun i j => decide (i ≥ j)) e) fun i j hq0 => an3 hq0 fun qe2 qe3 qe4 => ?_; try clear hq0; subst qe2; subst qe3; subst qe4
    obtain ⟨t, rfl⟩ := ha; obtain ⟨u, rfl⟩ := hb
    exact ge_int (R.here vB h)
noncomputable def truV (a : AV) (P : Bool → Prop) : Prop := match a with
  | .bool b => P b
  | .int i => P (i != 0)
  | .none => P false
  | _ => False
theorem tri_truthy {a : AV} {P : Bool → St → Prop} (h : truV a (fun b => P b σ)) : TriVB W c σ a truthy P X := by
  intro s ρ m cm ce frz va R ha
  cases a with
  | bool b => cases ha; exact wpAny_truthy_bool (R.hereU h)
  | int i => obtain ⟨t, rfl⟩ := ha; exact truthy_int (R.hereU h)
  | none => cases ha; exact fun _ _ _ => R.hereU h
  | _ => exact False.elim h
noncomputable def unV (op : UnaryOp) (a : AV) (P : AV → Prop) : Prop := match op with
  | .USub => asI a fun i => P (.int (-i))
  | .Not => (match a with | .bool b => P (.bool (!b)) | _ => False)
  | _ => False
theorem tri_un {op : UnaryOp} {a : AV} (h : unV op a (fun b => P b σ)) : TriV W c σ a (unaryOp op) P X := by
  intro s ρ m cm ce frz va R
  cases op with
  | USub => apply asI_el h; intro i h ha; obtain ⟨t, rfl⟩ := ha; exact neg_int ((R.toks _).here vI h)
  | Not =>
    cases a with
    | bool b => intro ha; cases ha; exact not_of (wpAny_truthy_bool (R.here vB h))
    | _ => exact False.elim h
  | _ => exact False.elim h
end
noncomputable def attOk (K : Frag) (C : Addr) (name : Str) : Bool :=
  plainGet K C name && hasDictIn K C && (match findIn K (.ref C) name with | some att => noGet K att | none => false) &&
  (findIn K (.ref C) "__setattr__" == some (some (.builtin "object.__setattr__"))) && plainOver K C && (takerIn K C name == some none)
theorem upd_of {d : Addr} {o o' : Obj} : ∀ {A B : List (Addr × Obj)}, ((A ++ (d, o) :: B).map (·.1)).Nodup → Upd d o o' (A ++ (d, o) :: B) (A ++ (d, o') :: B)
  | [], B, h => .head fun p hp e => by
    rw [List.nil_append, List.map_cons, List.nodup_cons] at h
    exact h.1 (List.mem_map.mpr ⟨p, hp, e⟩)
  | (a, x) :: A, B, h => by
    rw [List.cons_append, List.map_cons, List.nodup_cons] at h
    refine .tail (fun e => h.1 (List.mem_map.mpr ⟨(d, o), by simp, ?_⟩)) (upd_of h.2)
    exact e.symm
section
variable {W : Wd} {c : FC} {σ : St} {P : AV → St → Prop} {X : Str → St → Prop} {s : Shared} {ρ : Nat → Option Addr} {m : Str → Option Value} {cm ce frz : List (Addr × Obj)}
theorem Rel.turn (R : Rel W c s σ ρ m cm ce frz) {n : Nat} {o' : AO} {pre l l' post : List (Addr × Obj)} {h' : Heap} {t : Nat} (hcm : cm = pre ++ (l ++ post)) (hl : l'.map (·.1) = l.map (·.1))
    (H' : HR W (Z c.h₀ frz) ρ (hset n o' σ.hp) (pre ++ (l' ++ post))) (F' : Fr c.h₀ c.L h' m) (N' : News c.h₀ c.L h' ((pre ++ (l' ++ post)) ++ (ce ++ frz))) :
    Rel W c { s with heap := h', toks := t } { σ with hp := hset n o' σ.hp } ρ m (pre ++ (l' ++ post)) ce frz := by
  refine ⟨F', N', ?_, R.ou, R.ex, R.cv, H', R.V, R.C, R.Fv, R.rn, R.gens, R.os⟩
  have := R.nd
  rw [hcm] at this
  simpa [hl] using this
noncomputable def handV : AV → Bool
  | .con v => handedIn v
  | _ => true
theorem hand_of {a : AV} {va : Value} {Zp : Addr → Obj → Prop} (h : Val Zp ρ a va) (e : handV a = true) : handedIn va = true := by
  cases a with
  | con v => cases h; exact e
  | none => cases h; rfl
  | int i => obtain ⟨t, rfl⟩ := h; rfl
  | bool i => cases h; rfl
  | str i => obtain ⟨t, rfl⟩ := h; rfl
  | lst i => refine ex3 h fun a _ _ hq0 => an2 hq0 fun qe3 _ => ?_; try clear hq0; try clear h; subst qe3; rfl
  | scr i => refine ex4 h fun a _ _ _ hq0 => an2 hq0 fun qe4 _ => ?_; try clear hq0; try clear h; subst qe4; rfl
  | rng i j => refine ex4 h fun a _ _ _ hq0 => an2 hq0 fun qe4 _ => ?_; try clear hq0; try clear h; subst qe4; rfl
  | tup2 i j => refine ex4 h fun a _ _ _ hq0 => an2 hq0 fun qe4 _ => ?_; try clear hq0; try clear h; subst qe4; rfl
  | tup3 i j k => refine ex5 h fun a _ _ _ _ hq0 => an2 hq0 fun qe5 _ => ?_; try clear hq0; try clear h; subst qe5; rfl
  | ref n => obtain ⟨a, rfl, _⟩ := h; rfl
theorem tri_getattr {n : Nat} {C : Addr} {attrs : List (Str × AV)} {name : Str} {v : AV} {ex : Bool} (O : W.Ok c) (hp : hget n σ.hp = some (.inst C attrs)) (ha : attOk W.K C name = true) (hl : lget name attrs = some v) (hv : handV v = true) (h : P v σ) :
    TriV W c σ (.ref n) (fun o => getAttr o name ex) P X := by
  intro s ρ m cm ce frz va R hva
  obtain ⟨x, rfl, hx⟩ := hva
  refine ex3 (R.H.get hp) fun pre l post hq0 => an3 hq0 fun qe3 np4 _ => ?_; try clear hq0; subst qe3; refine cps fun GG kG => ?_; obtain ⟨x', d, es, k, rfl, hx', hes⟩ := np4; refine kG ?_
  rw [hx] at hx'; cases hx'
  simp only [attOk, Bool.and_eq_true, beq_iff_eq] at ha
  refine cps fun GG kG => ?_; obtain ⟨⟨⟨⟨⟨h1, h2⟩, h3⟩, _⟩, _⟩, _⟩ := ha; refine kG ?_
  split at h3
  · rename_i att hatt
    have I : InstAt s.heap x (instObj C d) C (some (dictOf es k)) := ⟨(R.N (x, instObj C d) (by simp)).1, rfl, rfl, (R.N (d, dictOf es k) (by simp)).1⟩
    have g := hes.get name
    rw [hl] at g
    obtain ⟨u, e, hu⟩ := g
    exact get_own R.F O.X I h1 h2 hatt h3 e (hand_of hu hv) ((R.toks _).here hu h)
  · exact nopb h3
theorem tri_setattr {n : Nat} {C : Addr} {attrs : List (Str × AV)} {name : Str} {a : AV} {P : St → Prop} (O : W.Ok c) (hp : hget n σ.hp = some (.inst C attrs)) (ha : attOk W.K C name = true) (hlen : (lset name a attrs).length ≤ 1000)
    (h : P { σ with hp := hset n (.inst C (lset name a attrs)) σ.hp }) {s : Shared} {va v : Value} (R : Rel W c s σ ρ m cm ce frz) (hva : Val (Z c.h₀ frz) ρ (.ref n) va) (hv : Val (Z c.h₀ frz) ρ a v) :
    wpAny W.M c.A (setAttr va name v) (fun _ => Qu W c ρ frz P) (Qx W c ρ frz X) s := by
  obtain ⟨x, rfl, hx⟩ := hva
  refine ex3 (R.H.get hp) fun pre l post hq0 => an3 hq0 fun hcm np4 hset' => ?_; try clear hq0; refine cps fun GG kG => ?_; obtain ⟨x', d, es, k, rfl, hx', hes⟩ := np4; refine kG ?_
  rw [hx] at hx'; cases hx'
  simp only [attOk, Bool.and_eq_true, beq_iff_eq] at ha
  refine cps fun GG kG => ?_; obtain ⟨⟨⟨⟨⟨h1, h2⟩, _⟩, h3⟩, h4⟩, h5⟩ := ha; refine kG ?_
  have m1 : (x, instObj C d) ∈ cm ++ (ce ++ frz) := by refine hcm ▸ ?_; simp
  have m2 : (d, dictOf es k) ∈ cm ++ (ce ++ frz) := by refine hcm ▸ ?_; simp
  have I : InstAt s.heap x (instObj C d) C (some (dictOf es k)) := ⟨(R.N _ m1).1, rfl, rfl, (R.N _ m2).1⟩
  have g := hes.get name
  have gs : (getL name es).isSome = true := by
    revert g
    cases lget name attrs with
    | none => intro g; refine g ▸ ?_; rfl
    | some w => rintro ⟨u, e, _⟩; refine e ▸ ?_; rfl
  have hput := hes.put name (PyData.keyHash W.w.params name) (s.toks + 1) hv
  have e : cm ++ (ce ++ frz) = (pre ++ [(x, instObj C d)]) ++ (d, dictOf es k) :: (post ++ (ce ++ frz)) := by refine hcm ▸ ?_; simp
  have U := upd_of (o' := dictOf (putL name (PyData.keyHash W.w.params name) (.str name (s.toks + 1)) v es) (putN name es k)) (e ▸ R.nd)
  rw [← e] at U
  refine set_dict R.F O.X R.N I rfl h3 h4 h5 h2 gs rfl U (by refine hput.length ▸ ?_; exact hlen) fun h' F' N' => ?_
  have H' := hset' (.inst C (lset name a attrs)) [(x, instObj C d), (d, dictOf (putL name (PyData.keyHash W.w.params name) (.str name (s.toks + 1)) v es) (putN name es k))] (ex4i x d _ _ ⟨rfl, hx, hput⟩)
  exact (Qu.mk ρ m _ ce frz _ .refl (R.turn hcm (by rfl) H' F' (by simpa using N')) h)
end
noncomputable def ValL (Zp : Addr → Obj → Prop) (ρ : Nat → Option Addr) : List AV → List Value → Prop
  | [], [] => True
  | a :: as, v :: vs => Val Zp ρ a v ∧ ValL Zp ρ as vs
  | _, _ => False
theorem ValL.mono {Z₁ Z₂ : Addr → Obj → Prop} {ρ₁ ρ₂ : Nat → Option Addr} (hz : ∀ a o, Z₁ a o → Z₂ a o) (hr : ∀ n a, ρ₁ n = some a → ρ₂ n = some a) : ∀ {as : List AV} {vs : List Value}, ValL Z₁ ρ₁ as vs → ValL Z₂ ρ₂ as vs
  | [], [], h => trivial
  | _ :: _, _ :: _, h => ⟨h.1.mono hz hr, ValL.mono hz hr h.2⟩
  | [], _ :: _, h => h
  | _ :: _, [], h => h
theorem ValL.ext {ρ ρ' : Nat → Option Addr} {f f' : List (Addr × Obj)} {h₀ : Heap} {as : List AV} {vs : List Value} (h : ValL (Z h₀ f) ρ as vs) (a : Ext ρ ρ' f f') : ValL (Z h₀ f') ρ' as vs := h.mono a.zz a.r
theorem ValL.append {Zp : Addr → Obj → Prop} {ρ : Nat → Option Addr} : ∀ {as : List AV} {vs : List Value} {bs : List AV} {us : List Value}, ValL Zp ρ as vs → ValL Zp ρ bs us → ValL Zp ρ (as ++ bs) (vs ++ us)
  | [], [], _, _, _, h => h
  | _ :: _, _ :: _, _, _, h, k => ⟨h.1, ValL.append h.2 k⟩
  | [], _ :: _, _, _, h, _ => h.elim
  | _ :: _, [], _, _, h, _ => h.elim
noncomputable abbrev PT := List AV → List (Nat × AO) → Nat → (AV → List (Nat × AO) → Nat → Prop) → (Str → List (Nat × AO) → Nat → Prop) → Prop
noncomputable abbrev St.with (σ : St) (hp : List (Nat × AO)) (n : Nat) : St := { σ with hp := hp, nxt := n }
noncomputable abbrev PT.at (pt : PT) (σ : St) (as : List AV) (P : AV → St → Prop) (X : Str → St → Prop) : Prop := pt as σ.hp σ.nxt (fun v hp n => P v (σ.with hp n)) (fun e hp n => X e (σ.with hp n))
noncomputable def isStar : Expr → Bool
  | .Starred .. => true
  | _ => false
theorem QL.el {W : Wd} {c : FC} {ρ : Nat → Option Addr} {frz : List (Addr × Obj)} {P : List AV → St → Prop} {vs : List Value} {s' : Shared} {C : Prop} (h : ∃ ρ' m' cm' ce' frz' as σ', Ext ρ ρ' frz frz' ∧ Rel W c s' σ' ρ' m' cm' ce' frz' ∧ ValL (Z c.h₀ frz') ρ' as vs ∧ P as σ') (f : ∀ ρ' m' cm' ce' frz' as σ', Ext ρ ρ' frz frz' → Rel W c s' σ' ρ' m' cm' ce' frz' → ValL (Z c.h₀ frz') ρ' as vs → P as σ' → C) : C := ex7 h fun a b c d e g i h => an4 h (f a b c d e g i)
section
variable (W : Wd) (c : FC)
noncomputable def TriL (σ : St) (t : Sem (List Value)) (P : List AV → St → Prop) (X : Str → St → Prop) : Prop :=
  ∀ s ρ m cm ce frz, Rel W c s σ ρ m cm ce frz → wpAny W.M c.A t (fun vs s' => ∃ ρ' m' cm' ce' frz' as σ', Ext ρ ρ' frz frz' ∧ Rel W c s' σ' ρ' m' cm' ce' frz' ∧ ValL (Z c.h₀ frz') ρ' as vs ∧ P as σ') (Qx W c ρ frz X) s
noncomputable def TriC (σ : St) (f : Value) (as : List AV) (P : AV → St → Prop) (X : Str → St → Prop) : Prop :=
  ∀ s ρ m cm ce frz vs, Rel W c s σ ρ m cm ce frz → ValL (Z c.h₀ frz) ρ as vs → wpAny W.M c.A (call f vs) (Qv W c ρ frz P) (Qx W c ρ frz X) s
noncomputable def PTok (n : Nat) (f : Value) (pt : PT) : Prop := ∀ (c : FC), W.Ok c → n ≤ c.rm → ∀ σ as P X, pt.at σ as P X → TriC W c σ f as P X
end
section
variable {W : Wd} {c : FC} {σ : St} {P : AV → St → Prop} {X : Str → St → Prop} {s : Shared} {ρ : Nat → Option Addr} {m : Str → Option Value} {cm ce frz : List (Addr × Obj)}
theorem starEach_cons {e : Expr} {rest : List Expr} {env : Env} (h : isStar e = false) : starEach (e :: rest) env = (false, eval e env) :: starEach rest env := by
  cases e <;> first | rfl | exact nopb h.symm
theorem triL_nil {pos : Pos} {P : List AV → St → Prop} (h : P [] σ) : TriL W c σ (spliced (backTo pos (starEach [] c.env))) P X :=
  fun s ρ m cm ce frz R => spliced_none (ex7i ρ m cm ce frz [] σ ⟨.refl, R, trivial, h⟩)
theorem triL_cons {pos : Pos} {e : Expr} {rest : List Expr} {P : List AV → St → Prop} {P₁ : AV → St → Prop} (hs : isStar e = false) (h₁ : TriE W c σ (eval e c.env) P₁ X)
    (h₂ : ∀ a σ₁, P₁ a σ₁ → TriL W c σ₁ (spliced (backTo pos (starEach rest c.env))) (fun as σ₂ => P (a :: as) σ₂) X) : TriL W c σ (spliced (backTo pos (starEach (e :: rest) c.env))) P X :=
  fun s ρ m cm ce frz R => spliced_more (wpAny_mono (h₁ s ρ m cm ce frz R) (fun v s₁ zz => Qv.el zz fun ρ' m' cm' ce' frz' av σ' x R' hv q =>
    wpAny_mono (h₂ av σ' q s₁ ρ' m' cm' ce' frz' R') (fun vs s₂ zz => QL.el zz fun ρ'' m'' cm'' ce'' frz'' as σ'' x' R'' hvs q' =>
      (ex7i ρ'' m'' cm'' ce'' frz'' (av :: as) σ'' ⟨x.trans x', R'', ⟨hv.ext x', hvs⟩, q'⟩)) fun _ _ z => z.ext x) fun _ _ z => z) (starEach_cons hs)
theorem starEach_plain {env : Env} {pos : Pos} : ∀ {args : List Expr}, args.all (fun e => !isStar e) = true → (backTo pos (starEach args env)).any (·.1) = false
  | [], _ => rfl
  | e :: r, h => by
    simp only [List.all_cons, Bool.and_eq_true, Bool.not_eq_true'] at h
    refine starEach_cons h.1 ▸ ?_
    show (false || (backTo pos (starEach r env)).any (·.1)) = false
    refine (Bool.false_or ..) ▸ ?_; exact starEach_plain h.2
noncomputable def keepV (K : Frag) : Value → Bool
  | .ref a => keepIn K (.ref a)
  | _ => true
theorem keeps_V {K : Frag} {f : Value} (hk : keepV K f = true) {M : Model} (h : Heap) (X : K.In h) : ∃ k, (k = Keeper.frame ∨ k = Keeper.machine ∨ k = Keeper.boundFrame) ∧ Looks M h (keeperOf f) k := by
  cases f with
  | ref a => exact keeps_K (f := .ref a) hk h X
  | _ => exact ⟨.machine, .inr (.inl rfl), Looks.of_pure rfl⟩
theorem triL_evalArgs {f : Value} {args : List Expr} {pos : Pos} {P : List AV → St → Prop} (hs : args.all (fun e => !isStar e) = true) (h : TriL W c σ (spliced (backTo pos (starEach args c.env))) P X) {s : Shared} (R : Rel W c s σ ρ m cm ce frz) {Q : Args → Shared → Prop}
    (k : ∀ vs s' ρ' m' cm' ce' frz' as σ', Ext ρ ρ' frz frz' → Rel W c s' σ' ρ' m' cm' ce' frz' → ValL (Z c.h₀ frz') ρ' as vs → P as σ' → Q ⟨vs, []⟩ s') :
    wpAny W.M c.A (evalArgs f true (backTo pos (starEach args c.env)) []) Q (Qx W c ρ frz X) s := by
  have h' := wpAny_mono (h s ρ m cm ce frz R) (fun vs s' zz => QL.el zz fun ρ' m' cm' ce' frz' as σ' x R' hv q => k vs s' ρ' m' cm' ce' frz' as σ' x R' hv q) fun _ _ z => z
  cases args with
  | nil =>
    unfold evalArgs
    show wpAny W.M c.A (spliced [] >>= _) _ _ s
    refine wpAny_bind (wpAny_mono h' (fun vs s' h'' => ?_) fun _ _ x => x)
    refine wpAny_holding ?_
    exact wpAny_bind (wpAny_pure (wpAny_bind (wpAny_pure (wpAny_pure h''))))
  | cons e r =>
    simp only [List.all_cons, Bool.and_eq_true, Bool.not_eq_true'] at hs
    rw [starEach_cons hs.1] at h' ⊢
    exact evalArgs_plain h'
theorem tri_callWith {f : Value} {args : List Expr} {pos : Pos} {P₁ : List AV → St → Prop} {fas : List AV} {first : List Value} (O : W.Ok c) (hk : keepV W.K f = true) (hs : args.all (fun e => !isStar e) = true)
    (h : TriL W c σ (spliced (backTo pos (starEach args c.env))) P₁ X) (hc : ∀ as σ₁, P₁ as σ₁ → TriC W c σ₁ f (fas ++ as) P X) {s : Shared} (R : Rel W c s σ ρ m cm ce frz) (hf : ValL (Z c.h₀ frz) ρ fas first) :
    wpAny W.M c.A (callWith pos f first (backTo pos (starEach args c.env)) []) (Qv W c ρ frz P) (Qx W c ρ frz X) s := by
  refine callWith_of (P := fun h => W.K.In h) (by refine (starEach_plain hs).symm ▸ ?_; rfl) (fun h X => keeps_V hk h X) ?_
  refine triL_evalArgs hs h R fun vs s' ρ' m' cm' ce' frz' as σ' x R' hv q => ⟨O.X.keeps R'.F.keep, ?_⟩
  exact wpAny_mono (hc as σ' q s' ρ' m' cm' ce' frz' _ R' (ValL.append (hf.ext x) hv)) (fun _ _ z => z.ext x) fun _ _ z => z.ext x
noncomputable def isAtt : Expr → Bool
  | .Attribute .. => true
  | _ => false
theorem eval_Call {f : Expr} {args : List Expr} {pos : Pos} {env : Env} (h : isAtt f = false) : eval (.Call f args [] pos) env = (do callWith pos (← eval f env) [] (backTo pos (starEach args env)) (backToKw pos (keywordEach [] env))) := by
  cases f <;> first | rfl | exact nopb h.symm
theorem tri_Call {f : Expr} {args : List Expr} {pos : Pos} {fv : Value} {P₁ : List AV → St → Prop} (O : W.Ok c) (ha : isAtt f = false) (hf : TriE W c σ (eval f c.env) (fun v σ' => v = .con fv ∧ σ' = σ) X) (hk : keepV W.K fv = true) (hs : args.all (fun e => !isStar e) = true)
    (h : TriL W c σ (spliced (backTo pos (starEach args c.env))) P₁ X) (hc : ∀ as σ₁, P₁ as σ₁ → TriC W c σ₁ fv as P X) : TriE W c σ (eval (.Call f args [] pos) c.env) P X := by
  intro s ρ m cm ce frz R
  refine eval_Call ha ▸ ?_
  refine wpAny_bind (wpAny_mono (hf s ρ m cm ce frz R) (fun v s₁ zz => Qv.el zz fun ρ' m' cm' ce' frz' av σ' e R' hv q => ?_) fun _ _ z => z)
  obtain ⟨rfl, rfl⟩ := q
  cases hv
  exact wpAny_mono (tri_callWith (fas := []) (first := []) O hk hs h hc R' trivial) (fun _ _ z => z.ext e) fun _ _ z => z.ext e
end
noncomputable def metOk (K : Frag) (C : Addr) (name : Str) (f : Addr) : Bool :=
  plainGet K C name && (findIn K (.ref C) name == some (some (.ref f))) && isFn K (.ref f)
noncomputable def listMet (name : Str) : Option String :=
  if name == ("pop" : Str) then some "list.pop" else if name == ("index" : Str) then some "list.index" else none
noncomputable def dictMet (name : Str) : Option String :=
  if name == ("pop" : Str) then some "dict.pop" else none
noncomputable def metO (met : Addr → Str → Option Addr) (name : Str) : AO → Option Value
  | .inst C attrs => ifN (lget name attrs) ((met C name).map .ref)
  | .arr _ => (listMet name).map .builtin
  | .dict _ => (dictMet name).map .builtin
  | _ => none
noncomputable def metV (met : Addr → Str → Option Addr) (σ : St) (a : AV) (name : Str) : Option Value := match a with
  | .lst _ => (listMet name).map .builtin
  | .ref n => (hget n σ.hp).bind (metO met name)
  | _ => none
noncomputable def bareCall : Expr → Bool
  | .Call (.Name _ _) [] [] _ => true
  | _ => false
theorem base_of {o : Expr} {attr : Str} {env : Env} {whole : Sem Value} (h : bareCall o = false) : attributeBase o attr env whole = whole := by
  unfold attributeBase
  split
  · exact nopb h.symm
  · rfl
section
variable {W : Wd} {c : FC} {σ : St} {P : AV → St → Prop} {X : Str → St → Prop} {s : Shared} {ρ : Nat → Option Addr} {m : Str → Option Value} {cm ce frz : List (Addr × Obj)}
theorem list_met {l : Addr} {its : Array Value} {n : Nat} {name : Str} {id : String} {pl : Sem Bool} {Q : Value × List Value → Shared → Prop} {E : Value → Shared → Prop} {A : Around} (hl : s.heap.get? l = some (listOf its n)) (e : listMet name = some id)
    (h : Q (.builtin id, [.ref l]) s) : wpAny W.M A (getMethod (.ref l) name pl) Q E s := by
  have hT : s.TypeIs (.ref l) "list" := ⟨_, hl, rfl⟩
  have hd : ∀ a, Value.ref l = .ref a → ∃ o, s.heap.get? a = some o ∧ o.dict = none := fun a e => by cases e; exact ⟨_, hl, rfl⟩
  unfold listMet at e
  split at e
  · rename_i q; cases e
    obtain rfl : name = ("pop" : Str) := by simpa using q
    exact getMethod_builtin hT PySem.F.plainAttrs_list PySem.F.slot_list_pop PySem.F.type_list_pop hd h
  · split at e
    · rename_i q; cases e
      obtain rfl : name = ("index" : Str) := by simpa using q
      exact getMethod_builtin hT PySem.F.plainAttrs_list PySem.F.slot_list_index PySem.F.type_list_index hd h
    · exact nope e
theorem dict_met {l : Addr} {o : Obj} {name : Str} {id : String} {pl : Sem Bool} {Q : Value × List Value → Shared → Prop} {E : Value → Shared → Prop} {A : Around} (hl : s.heap.get? l = some o) (hc : o.ExactDict) (e : dictMet name = some id)
    (h : Q (.builtin id, [.ref l]) s) : wpAny W.M A (getMethod (.ref l) name pl) Q E s := by
  have hT : s.TypeIs (.ref l) "dict" := ⟨_, hl, hc.1⟩
  have hd : ∀ a, Value.ref l = .ref a → ∃ o, s.heap.get? a = some o ∧ o.dict = none := fun a e => by cases e; exact ⟨_, hl, hc.2.1⟩
  unfold dictMet at e
  split at e
  · rename_i q; cases e
    obtain rfl : name = ("pop" : Str) := by simpa using q
    exact getMethod_builtin hT PySem.F.plainAttrs_dict PySem.F.slot_dict_pop PySem.F.type_dict_pop hd h
  · exact nope e
theorem tri_getMethod {met : Addr → Str → Option Addr} (hm : ∀ C x f, met C x = some f → metOk W.K C x f = true) {a : AV} {name : Str} {fv : Value} {pl : Sem Bool} (O : W.Ok c) (e : metV met σ a name = some fv) (R : Rel W c s σ ρ m cm ce frz) {va : Value} (ha : Val (Z c.h₀ frz) ρ a va)
    {Q : Value × List Value → Shared → Prop} {E : Value → Shared → Prop} (h : Q (fv, [va]) s) : wpAny W.M c.A (getMethod va name pl) Q E s := by
  cases a with
  | lst xs =>
    refine ex3 ha fun l its n hq0 => an3 hq0 fun qe3 z i => ?_; try clear hq0; try clear ha; subst qe3
    obtain ⟨id, hid, rfl⟩ := Option.map_eq_some_iff.mp e
    exact list_met (Z.get R z) hid h
  | ref n =>
    obtain ⟨x, rfl, hx⟩ := ha
    refine bind_el e fun o hg e => ?_
    cases o with
    | inst C attrs =>
      refine ex3 (R.H.get hg) fun pre l post hq0 => an3 hq0 fun qe3 np4 _ => ?_; try clear hq0; subst qe3; refine cps fun GG kG => ?_; obtain ⟨x', d, es, k, rfl, hx', hes⟩ := np4; refine kG ?_
      rw [hx] at hx'; cases hx'
      refine ifN_el e fun hl e => ?_
      obtain ⟨f, hf, rfl⟩ := Option.map_eq_some_iff.mp e
      have hok := hm _ _ _ hf
      simp only [metOk, Bool.and_eq_true, beq_iff_eq] at hok
      obtain ⟨⟨h1, h2⟩, h3⟩ := hok
      have I : InstAt s.heap x (instObj C d) C (some (dictOf es k)) := ⟨(R.N (x, instObj C d) (by simp)).1, rfl, rfl, (R.N (d, dictOf es k) (by simp)).1⟩
      have g := hes.get name
      rw [hl] at g
      exact method_inst R.F O.X I h1 h2 h3 g h
    | arr xs =>
      refine ex3 (R.H.get hg) fun pre l post hq0 => an3 hq0 fun qe3 np4 _ => ?_; try clear hq0; subst qe3; refine cps fun GG kG => ?_; obtain ⟨x', its, k, rfl, hx', _⟩ := np4; refine kG ?_
      rw [hx] at hx'; cases hx'
      obtain ⟨id, hid, rfl⟩ := Option.map_eq_some_iff.mp e
      exact list_met (R.N (x, listOf its k) (by simp)).1 hid h
    | dict rows =>
      refine ex3 (R.H.get hg) fun pre l post hq0 => an3 hq0 fun qe3 np4 _ => ?_; try clear hq0; subst qe3; refine cps fun GG kG => ?_; obtain ⟨x', o, kvs, rfl, hx', ho, _⟩ := np4; refine kG ?_
      rw [hx] at hx'; cases hx'
      obtain ⟨id, hid, rfl⟩ := Option.map_eq_some_iff.mp e
      refine ex2 ho fun _ _ hq0 => an2 hq0 fun hex _ => ?_; try clear hq0; try clear ho
      exact dict_met (R.N (x, o) (by simp)).1 hex hid h
    | _ => exact nope e
  | _ => exact nope e
theorem methodForm {args : List Expr} {env : Env} {pos : Pos} (hs : args.all (fun e => !isStar e) = true) (hn : args.length < 30) : methodCallForm (args.length + ([] : List Keyword).length) (backTo pos (starEach args env)) (backToKw pos (keywordEach [] env)) = true := by
  have h1 : (backTo pos (starEach args env)).all (!·.1) = true := by
    have := starEach_plain (env := env) (pos := pos) hs
    refine List.all_eq_not_any_not ▸ ?_; simpa using this
  unfold methodCallForm
  refine h1.symm ▸ ?_
  show (true && true && decide (args.length + 0 + 0 < 30)) = true
  simpa using hn
theorem tri_MethodCall {met : Addr → Str → Option Addr} (hm : ∀ C x f, met C x = some f → metOk W.K C x f = true) {o : Expr} {name : Str} {args : List Expr} {apos pos : Pos} {P₀ : AV → St → Prop} {P₁ : AV → Value → List AV → St → Prop} (O : W.Ok c)
    (hb : bareCall o = false) (hp : (apos.endLine == pos.line) = true) (hs : args.all (fun e => !isStar e) = true) (hn : args.length < 30)
    (ho : TriE W c σ (eval o c.env) P₀ X) (h : ∀ a σ₁, P₀ a σ₁ → ∃ fv, metV met σ₁ a name = some fv ∧ keepV W.K fv = true ∧ TriL W c σ₁ (spliced (backTo pos (starEach args c.env))) (P₁ a fv) X)
    (hc : ∀ a fv as σ₁, P₁ a fv as σ₁ → TriC W c σ₁ fv (a :: as) P X) : TriE W c σ (eval (.Call (.Attribute o name apos) args [] pos) c.env) P X := by
  intro s ρ m cm ce frz R
  show wpAny W.M c.A (do
    let ov ← attributeBase o name c.env (eval o c.env)
    standAt apos.atName
    methodCall o name apos pos c.env ov (args.length + ([] : List Keyword).length) (backTo pos (starEach args c.env)) (backToKw pos (keywordEach [] c.env))) _ _ s
  refine base_of hb ▸ ?_
  refine wpAny_bind (wpAny_mono (ho s ρ m cm ce frz R) (fun va s₁ zz => Qv.el zz fun ρ' m' cm' ce' frz' av σ' e R' hv q => ?_) fun _ _ z => z)
  refine Exists.elim (h av σ' q) fun fv hq0 => an3 hq0 fun h1 h2 h3 => ?_; try clear hq0
  refine wpAny_bind (wpAny_standAt ?_)
  unfold methodCall
  refine methodForm hs hn ▸ ?_
  refine wpAny_bind (wpAny_holding ?_)
  show wpAny W.M c.A (getMethod va name _) _ _ s₁
  refine tri_getMethod hm O h1 R' hv ?_
  dsimp only
  unfold methodCallPos
  refine hp.symm ▸ ?_
  refine wpAny_bind (wpAny_pure ?_)
  exact wpAny_mono (tri_callWith (fas := [av]) (first := [va]) O h2 hs h3 (fun as σ₁ z => hc av fv as σ₁ z) R' ⟨hv, trivial⟩) (fun _ _ z => z.ext e) fun _ _ z => z.ext e
theorem tri_Attribute {o : Expr} {name : Str} {pos : Pos} {P₀ : AV → St → Prop} (hb : bareCall o = false) (ho : TriE W c σ (eval o c.env) P₀ X) (h : ∀ a σ₁, P₀ a σ₁ → TriV W c σ₁ a (fun v => getAttr v name true) P X) :
    TriE W c σ (eval (.Attribute o name pos) c.env) P X := by
  intro s ρ m cm ce frz R
  show wpAny W.M c.A (do
    let v ← attributeBase o name c.env (eval o c.env)
    standAt pos.atName
    let r ← holding [v] (getAttr v name true)
    letTemporaryGo o v r
    pure r) _ _ s
  refine base_of hb ▸ ?_
  refine wpAny_bind (wpAny_mono (ho s ρ m cm ce frz R) (fun va s₁ zz => Qv.el zz fun ρ' m' cm' ce' frz' av σ' e R' hv q => ?_) fun _ _ z => z)
  refine wpAny_bind (wpAny_standAt (wpAny_bind (wpAny_holding (wpAny_mono (h av σ' q s₁ ρ' m' cm' ce' frz' va R' hv) (fun r s₂ z => ?_) fun _ _ z => z.ext e))))
  exact wpAny_bind (wpAny_letTemporaryGo (wpAny_pure (z.ext e)))
noncomputable def allInts : List AV → Option (List Int)
  | [] => some []
  | .int i :: r => (allInts r).map (i :: ·)
  | _ => none
theorem intsAre_of {Zp : Addr → Obj → Prop} : ∀ {as : List AV} {vs : List Value} {xs : List Int}, allInts as = some xs → ValL Zp ρ as vs → IntsAre vs xs
  | [], [], _, e, _ => by cases e; exact .nil
  | .int i :: r, v :: vs, xs, e, h => by
    obtain ⟨ys, e', rfl⟩ := Option.map_eq_some_iff.mp e
    obtain ⟨⟨t, rfl⟩, h⟩ := h
    exact .cons i t (intsAre_of e' h)
  | [], _ :: _, _, _, h => h.elim
  | .int _ :: _, [], _, _, h => h.elim
  | .bool _ :: _, _, _, e, _ | .none :: _, _, _, e, _ | .str _ :: _, _, _, e, _ | .con _ :: _, _, _, e, _ | .lst _ :: _, _, _, e, _ | .scr _ :: _, _, _, e, _ | .rng _ _ :: _, _, _, e, _ | .tup2 _ _ :: _, _, _, e, _ | .tup3 _ _ _ :: _, _, _, e, _ | .ref _ :: _, _, _, e, _ => by exact nope e
theorem ValL.length {Zp : Addr → Obj → Prop} : ∀ {as : List AV} {vs : List Value}, ValL Zp ρ as vs → vs.length = as.length
  | [], [], _ => rfl
  | _ :: _, _ :: _, h => by simp [ValL.length h.2]
  | [], _ :: _, h => h.elim
  | _ :: _, [], h => h.elim
theorem tri_List {elts : List Expr} {pos : Pos} {P₁ : List AV → St → Prop} (h : TriL W c σ (spliced (backTo pos (starEach elts c.env))) P₁ X) (k : ∀ as σ₁, P₁ as σ₁ → ∃ xs, allInts as = some xs ∧ as.length ≤ 1000 ∧ P (.lst xs) σ₁) : TriE W c σ (eval (.List elts pos) c.env) P X :=
  fun s ρ m cm ce frz R => List_ (wpAny_mono (h s ρ m cm ce frz R) (fun vs s₁ zz => QL.el zz fun ρ' m' cm' ce' frz' as σ' x R' hv q => by
    refine Exists.elim (k as σ' q) fun xs hq0 => an3 hq0 fun h1 h2 h3 => ?_; try clear hq0
    refine newList_K R'.F R'.N (fun l h' F' N' hf => ?_) (by refine hv.length ▸ ?_; exact Nat.le_trans h2 (by decide))
    exact (R'.newLst (t := s₁.toks) F' N' hf (by simpa using intsAre_of h1 hv) h3).ext x) fun _ _ z => z)
theorem Rel.newTup2 (R : Rel W c s σ ρ m cm ce frz) {h' : Heap} {a : Addr} {n : Nat} {t : Nat} {u v : Value} {x y : AV} (F' : Fr c.h₀ c.L h' m) (N' : News c.h₀ c.L h' ((a, tupOb #[u, v] n) :: (cm ++ (ce ++ frz))))
    (hf : ∀ q ∈ cm ++ (ce ++ frz), q.1 < a) (hu : Val (Z c.h₀ frz) ρ x u) (hv : Val (Z c.h₀ frz) ρ y v) (h : P (.tup2 x y) σ) : Qv W c ρ frz P (.ref a) { s with heap := h', toks := t } :=
  have zz : ∀ b o, Z c.h₀ frz b o → Z c.h₀ ((a, tupOb #[u, v] n) :: frz) b o := fun _ _ z => z.imp id (.tail _)
  (ex7i ρ m cm ce ((a, tupOb #[u, v] n) :: frz) (.tup2 x y) σ ⟨⟨fun _ _ z => z, fun _ z => .tail _ z⟩, R.frozen F' N' hf, ex4i a u v n ⟨rfl, .inr (.head _), hu.mono zz (fun _ _ z => z), hv.mono zz (fun _ _ z => z)⟩, h⟩)
theorem Rel.newTup3 (R : Rel W c s σ ρ m cm ce frz) {h' : Heap} {a : Addr} {n : Nat} {t : Nat} {u v w : Value} {x y z : AV} (F' : Fr c.h₀ c.L h' m) (N' : News c.h₀ c.L h' ((a, tupOb #[u, v, w] n) :: (cm ++ (ce ++ frz))))
    (hf : ∀ q ∈ cm ++ (ce ++ frz), q.1 < a) (hu : Val (Z c.h₀ frz) ρ x u) (hv : Val (Z c.h₀ frz) ρ y v) (hw : Val (Z c.h₀ frz) ρ z w) (h : P (.tup3 x y z) σ) : Qv W c ρ frz P (.ref a) { s with heap := h', toks := t } :=
  have zz : ∀ b o, Z c.h₀ frz b o → Z c.h₀ ((a, tupOb #[u, v, w] n) :: frz) b o := fun _ _ z => z.imp id (.tail _)
  (ex7i ρ m cm ce ((a, tupOb #[u, v, w] n) :: frz) (.tup3 x y z) σ ⟨⟨fun _ _ z => z, fun _ z => .tail _ z⟩, R.frozen F' N' hf, ex5i a u v w n ⟨rfl, .inr (.head _), hu.mono zz (fun _ _ z => z), hv.mono zz (fun _ _ z => z), hw.mono zz (fun _ _ z => z)⟩, h⟩)
theorem ValL.one {Zp : Addr → Obj → Prop} {ρ : Nat → Option Addr} {a : AV} {vs : List Value} (h : ValL Zp ρ [a] vs) : ∃ v, vs = [v] ∧ Val Zp ρ a v := by
  cases vs with
  | nil => exact h.elim
  | cons v r => cases r with
    | nil => exact ⟨v, rfl, h.1⟩
    | cons _ _ => exact h.2.elim
theorem ValL.two {Zp : Addr → Obj → Prop} {ρ : Nat → Option Addr} {a b : AV} {vs : List Value} (h : ValL Zp ρ [a, b] vs) : ∃ v w, vs = [v, w] ∧ Val Zp ρ a v ∧ Val Zp ρ b w := by
  cases vs with
  | nil => exact h.elim
  | cons v r =>
    obtain ⟨w, rfl, h2⟩ := ValL.one h.2
    exact ex2i v w ⟨rfl, h.1, h2⟩
noncomputable def mkTup : List AV → Option AV
  | [] => none
  | a :: r => match r with
    | [] => none
    | b :: r => match r with
      | [] => some (.tup2 a b)
      | c :: r => match r with
        | [] => some (.tup3 a b c)
        | _ :: _ => none
theorem tri_Tuple {elts : List Expr} {k : Nat} {pos : Pos} {P₁ : List AV → St → Prop} (h : TriL W c σ (spliced (backTo pos (starEach elts c.env))) P₁ X) (kk : ∀ as σ₁, P₁ as σ₁ → ∃ t, mkTup as = some t ∧ P t σ₁) : TriE W c σ (eval (.Tuple elts k pos) c.env) P X :=
  fun s ρ m cm ce frz R => Tuple_ (wpAny_mono (h s ρ m cm ce frz R) (fun vs s₁ zz => QL.el zz fun ρ' m' cm' ce' frz' as σ' x R' hv q => by
    obtain ⟨t, h1, h3⟩ := kk as σ' q
    rcases as with _ | ⟨a, _ | ⟨b, _ | ⟨d, _ | ⟨_, _⟩⟩⟩⟩
    · exact nope h1
    · exact nope h1
    · cases h1
      obtain ⟨u, v, rfl, hu, hv⟩ := hv.two
      refine newTuple_N R'.F R'.N (fun h' F' N' => ?_) (by simp [sizeLine_eq])
      exact (R'.newTup2 (t := s₁.toks) (n := 0) F' N' (fun q hq => R'.lt q hq) hu hv h3).ext x
    · cases h1
      cases vs with
      | nil => exact False.elim hv
      | cons u vs =>
        obtain ⟨hu, hv⟩ := hv
        obtain ⟨v, w, rfl, hv, hw⟩ := ValL.two hv
        refine newTuple_N R'.F R'.N (fun h' F' N' => ?_) (by simp [sizeLine_eq])
        exact (R'.newTup3 (t := s₁.toks) (n := 0) F' N' (fun q hq => R'.lt q hq) hu hv hw h3).ext x
    · exact nope h1) fun _ _ z => z)
end
noncomputable def br (b : Bool) (p q : Prop) : Prop := match b with | true => p | false => q
theorem br_of {b : Bool} {p q : Prop} (h : b = true → p) (k : b = false → q) : br b p q := by cases b; exact k rfl; exact h rfl
section
variable {W : Wd} {c : FC} {σ : St} {P : AV → St → Prop} {X : Str → St → Prop} {s : Shared} {ρ : Nat → Option Addr} {m : Str → Option Value} {cm ce frz : List (Addr × Obj)}
theorem tri_compareOp {op : CmpOp} {a b : AV} {PB : Bool → St → Prop} (O : W.Ok c) (h : cmpV op σ a b (fun t => PB t σ)) : TriV2 W c σ a b (compareOp op) (fun v σ' => ∃ t, v = .bool t ∧ PB t σ') X :=
  tri_cmp O (cmpV_mono (fun t z => ⟨t, rfl, z⟩) h)
theorem chain_one {op : CmpOp} {r : Expr} {pos : Pos} {a : AV} {P₁ : AV → St → Prop} (O : W.Ok c) (h₁ : TriE W c σ (eval r c.env) P₁ X) (h₂ : ∀ b σ₁, P₁ b σ₁ → cmpV op σ₁ a b (fun t => P (.bool t) σ₁)) :
    TriV W c σ a (fun va => compareChain pos va [op] [eval r c.env]) P X :=
  fun s ρ m cm ce frz va R ha => chain_last (wpAny_mono (h₁ s ρ m cm ce frz R) (fun vb s₁ zz => Qv.el zz fun ρ' m' cm' ce' frz' bv σ' e R' hv q =>
    wpAny_mono (tri_cmp O (h₂ bv σ' q) s₁ ρ' m' cm' ce' frz' va vb R' (ha.ext e) hv) (fun _ _ z => z.ext e) fun _ _ z => z.ext e) fun _ _ z => z)
theorem chain_more {op op' : CmpOp} {ops : List CmpOp} {r r' : Expr} {rs : List (Sem Value)} {pos : Pos} {a : AV} {P₁ : AV → St → Prop} (O : W.Ok c) (h₁ : TriE W c σ (eval r c.env) P₁ X)
    (h₂ : ∀ b σ₁, P₁ b σ₁ → cmpV op σ₁ a b (fun t => br t (TriV W c σ₁ b (fun vb => compareChain pos vb (op' :: ops) (eval r' c.env :: rs)) P X) (P (.bool false) σ₁))) :
    TriV W c σ a (fun va => compareChain pos va (op :: op' :: ops) (eval r c.env :: eval r' c.env :: rs)) P X :=
  fun s ρ m cm ce frz va R ha => chain_link (wpAny_mono (h₁ s ρ m cm ce frz R) (fun vb s₁ zz => Qv.el zz fun ρ' m' cm' ce' frz' bv σ' e R' hv q =>
    wpAny_mono (tri_compareOp (PB := fun t σ₂ => σ₂ = σ' ∧ br t (TriV W c σ' bv (fun vb => compareChain pos vb (op' :: ops) (eval r' c.env :: rs)) P X) (P (.bool false) σ')) (X := X) O (cmpV_mono (fun t z => ⟨rfl, z⟩) (h₂ bv σ' q)) s₁ ρ' m' cm' ce' frz' va vb R' (ha.ext e) hv) (fun vt s₂ zz => Qv.el zz fun ρ'' m'' cm'' ce'' frz'' tv σ'' e' R'' hv' q' => by
      refine Exists.elim q' fun t hq0 => an3 hq0 fun qe1 qe2 hb => ?_; try clear hq0; try clear q'; subst qe1; subst qe2
      cases hv'
      refine wpAny_truthy_bool ?_
      cases t with
      | true => exact wpAny_mono (hb s₂ ρ'' m'' cm'' ce'' frz'' vb R'' (hv.ext e')) (fun _ _ z => z.ext (e.trans e')) fun _ _ z => z.ext (e.trans e')
      | false => exact (R''.here vB hb).ext (e.trans e')) fun _ _ z => z.ext e) fun _ _ z => z)
theorem tri_cmpB {op : CmpOp} {a b : AV} {PB : Bool → St → Prop} (O : W.Ok c) (h : cmpV op σ a b (fun t => PB t σ)) : TriV2 W c σ a b (compareOp op) (fun v σ' => ∃ t, v = .bool t ∧ σ' = σ ∧ PB t σ) X :=
  tri_cmp O (cmpV_mono (fun t z => ⟨t, rfl, rfl, z⟩) h)
theorem test_one {op : CmpOp} {r : Expr} {pos : Pos} {a : AV} {P₁ : AV → St → Prop} {P : Bool → St → Prop} (O : W.Ok c) (h₁ : TriE W c σ (eval r c.env) P₁ X) (h₂ : ∀ b σ₁, P₁ b σ₁ → cmpV op σ₁ a b (fun t => P t σ₁)) :
    TriVB W c σ a (fun va => testChain pos va [op] [eval r c.env]) P X :=
  fun s ρ m cm ce frz va R ha => test_last (wpAny_mono (h₁ s ρ m cm ce frz R) (fun vb s₁ zz => Qv.el zz fun ρ' m' cm' ce' frz' bv σ' e R' hv q =>
    wpAny_mono (tri_cmpB (X := X) O (h₂ bv σ' q) s₁ ρ' m' cm' ce' frz' va vb R' (ha.ext e) hv) (fun vt s₂ zz => Qv.el zz fun ρ'' m'' cm'' ce'' frz'' tv σ'' e' R'' hv' q' => by
      refine Exists.elim q' fun t hq0 => an3 hq0 fun qe1 qe2 hb => ?_; try clear hq0; try clear q'; subst qe1; subst qe2
      cases hv'
      exact wpAny_truthy_bool ((R''.hereU hb).ext (e.trans e'))) fun _ _ z => z.ext e) fun _ _ z => z)
theorem test_more {op op' : CmpOp} {ops : List CmpOp} {r r' : Expr} {rs : List (Sem Value)} {pos : Pos} {a : AV} {P₁ : AV → St → Prop} {P : Bool → St → Prop} (O : W.Ok c) (h₁ : TriE W c σ (eval r c.env) P₁ X)
    (h₂ : ∀ b σ₁, P₁ b σ₁ → cmpV op σ₁ a b (fun t => br t (TriVB W c σ₁ b (fun vb => testChain pos vb (op' :: ops) (eval r' c.env :: rs)) P X) (P false σ₁))) :
    TriVB W c σ a (fun va => testChain pos va (op :: op' :: ops) (eval r c.env :: eval r' c.env :: rs)) P X :=
  fun s ρ m cm ce frz va R ha => test_link (wpAny_mono (h₁ s ρ m cm ce frz R) (fun vb s₁ zz => Qv.el zz fun ρ' m' cm' ce' frz' bv σ' e R' hv q =>
    wpAny_mono (tri_cmpB (X := X) (PB := fun t σ' => br t (TriVB W c σ' bv (fun vb => testChain pos vb (op' :: ops) (eval r' c.env :: rs)) P X) (P false σ')) O (h₂ bv σ' q) s₁ ρ' m' cm' ce' frz' va vb R' (ha.ext e) hv) (fun vt s₂ zz => Qv.el zz fun ρ'' m'' cm'' ce'' frz'' tv σ'' e' R'' hv' q' => by
      refine Exists.elim q' fun t hq0 => an3 hq0 fun qe1 qe2 hb => ?_; try clear hq0; try clear q'; subst qe1; subst qe2
      cases hv'
      refine wpAny_truthy_bool ?_
      cases t with
      | true => exact wpAny_mono (hb s₂ ρ'' m'' cm'' ce'' frz'' vb R'' (hv.ext e')) (fun _ _ z => z.ext (e.trans e')) fun _ _ z => z.ext (e.trans e')
      | false => exact (R''.hereU hb).ext (e.trans e')) fun _ _ z => z.ext e) fun _ _ z => z)
theorem tri_Compare {l : Expr} {ops : List CmpOp} {rs : List Expr} {pos : Pos} {P₁ : AV → St → Prop} (hm : lastMarks ops rs = false) (h₁ : TriE W c σ (eval l c.env) P₁ X) (h₂ : ∀ a σ₁, P₁ a σ₁ → TriV W c σ₁ a (fun va => compareChain pos va ops (evalEach rs c.env)) P X) :
    TriE W c σ (eval (.Compare l ops rs pos) c.env) P X := by
  intro s ρ m cm ce frz R
  show wpAny W.M c.A (do compareChain pos (← eval l c.env) ops (markedEach ops rs (evalEach rs c.env))) _ _ s
  refine markedEach_of_false _ _ _ hm ▸ ?_
  exact wpAny_bind (wpAny_mono (h₁ s ρ m cm ce frz R) (fun va s₁ zz => Qv.el zz fun ρ' m' cm' ce' frz' av σ' e R' hv q =>
    wpAny_mono (h₂ av σ' q s₁ ρ' m' cm' ce' frz' va R' hv) (fun _ _ z => z.ext e) fun _ _ z => z.ext e) fun _ _ z => z)
theorem test_Compare {l : Expr} {ops : List CmpOp} {rs : List Expr} {pos : Pos} {whole : Sem Value} {P₁ : AV → St → Prop} {P : Bool → St → Prop} (hm : lastMarks ops rs = false) (h₁ : TriE W c σ (eval l c.env) P₁ X) (h₂ : ∀ a σ₁, P₁ a σ₁ → TriVB W c σ₁ a (fun va => testChain pos va ops (evalEach rs c.env)) P X) :
    TriB W c σ (isTrue (.Compare l ops rs pos) c.env whole) P X := by
  intro s ρ m cm ce frz R
  show wpAny W.M c.A (do testChain pos (← eval l c.env) ops (markedEach ops rs (evalEach rs c.env))) _ _ s
  refine markedEach_of_false _ _ _ hm ▸ ?_
  exact wpAny_bind (wpAny_mono (h₁ s ρ m cm ce frz R) (fun va s₁ zz => Qv.el zz fun ρ' m' cm' ce' frz' av σ' e R' hv q =>
    wpAny_mono (h₂ av σ' q s₁ ρ' m' cm' ce' frz' va R' hv) (fun _ _ z => z.ext e) fun _ _ z => z.ext e) fun _ _ z => z)
noncomputable def plainTest : Expr → Bool
  | .UnaryOp .Not _ _ => false
  | .BoolOp .. => false
  | .IfExp .. => false
  | .Compare .. => false
  | _ => true
theorem isTrue_of {e : Expr} {env : Env} {whole : Sem Value} (h : plainTest e = true) : isTrue e env whole = (do let v ← whole; standAt e.pos; holding [v] (truthy v)) := by
  cases e with
  | UnaryOp op x p => cases op <;> first | rfl | exact nopb h
  | _ => first | rfl | exact nopb h
theorem test_plain {e : Expr} {P₁ : AV → St → Prop} {P : Bool → St → Prop} (hp : plainTest e = true) (h₁ : TriE W c σ (eval e c.env) P₁ X) (h₂ : ∀ a σ₁, P₁ a σ₁ → truV a (fun t => P t σ₁)) : TriB W c σ (isTrue e c.env (eval e c.env)) P X :=
  fun s ρ m cm ce frz R => isTrue_plain (wpAny_mono (h₁ s ρ m cm ce frz R) (fun va s₁ zz => Qv.el zz fun ρ' m' cm' ce' frz' av σ' e R' hv q =>
    wpAny_mono (tri_truthy (X := X) (h₂ av σ' q) s₁ ρ' m' cm' ce' frz' va R' hv) (fun _ _ z => z.ext e) fun _ _ z => z.ext e) fun _ _ z => z) (isTrue_of hp)
theorem test_not {x : Expr} {pos : Pos} {whole : Sem Value} {P : Bool → St → Prop} (h : TriB W c σ (isTrue x c.env (eval x c.env)) (fun t σ₁ => P (!t) σ₁) X) : TriB W c σ (isTrue (.UnaryOp .Not x pos) c.env whole) P X :=
  fun s ρ m cm ce frz R => isTrue_not (h s ρ m cm ce frz R)
theorem test_IfExp {test body orelse : Expr} {pos : Pos} {whole : Sem Value} {P₁ P : Bool → St → Prop} (h : TriB W c σ (isTrue test c.env (eval test c.env)) P₁ X) (h₂ : ∀ σ₁, P₁ true σ₁ → TriB W c σ₁ (isTrue body c.env (eval body c.env)) P X)
    (h₃ : ∀ σ₁, P₁ false σ₁ → TriB W c σ₁ (isTrue orelse c.env (eval orelse c.env)) P X) : TriB W c σ (isTrue (.IfExp test body orelse pos) c.env whole) P X :=
  fun s ρ m cm ce frz R => isTrue_IfExp (wpAny_mono (h s ρ m cm ce frz R) (fun b s₁ zz => Qu.el zz fun ρ' m' cm' ce' frz' σ' e R' q => by
    cases b with
    | true => exact wpAny_mono (h₂ σ' q s₁ ρ' m' cm' ce' frz' R') (fun _ _ z => z.ext e) fun _ _ z => z.ext e
    | false => exact wpAny_mono (h₃ σ' q s₁ ρ' m' cm' ce' frz' R') (fun _ _ z => z.ext e) fun _ _ z => z.ext e) fun _ _ z => z)
theorem test_and_nil {pos : Pos} {whole : Sem Value} {P : Bool → St → Prop} (h : P true σ) : TriB W c σ (isTrue (.BoolOp .And [] pos) c.env whole) P X := fun s ρ m cm ce frz R => isTrue_and_nil (R.hereU h)
theorem test_or_nil {pos : Pos} {whole : Sem Value} {P : Bool → St → Prop} (h : P false σ) : TriB W c σ (isTrue (.BoolOp .Or [] pos) c.env whole) P X := fun s ρ m cm ce frz R => isTrue_or_nil (R.hereU h)
theorem test_and {x : Expr} {rest : List Expr} {pos : Pos} {whole : Sem Value} {P₁ P : Bool → St → Prop} (h : TriB W c σ (isTrue x c.env (eval x c.env)) P₁ X) (h₂ : ∀ σ₁, P₁ true σ₁ → TriB W c σ₁ (isTrue (.BoolOp .And rest pos) c.env whole) P X)
    (h₃ : ∀ σ₁, P₁ false σ₁ → P false σ₁) : TriB W c σ (isTrue (.BoolOp .And (x :: rest) pos) c.env whole) P X :=
  fun s ρ m cm ce frz R => isTrue_and (wpAny_mono (h s ρ m cm ce frz R) (fun b s₁ zz => Qu.el zz fun ρ' m' cm' ce' frz' σ' e R' q => by
    cases b with
    | true => exact wpAny_mono (h₂ σ' q s₁ ρ' m' cm' ce' frz' R') (fun _ _ z => z.ext e) fun _ _ z => z.ext e
    | false => exact (R'.hereU (h₃ σ' q)).ext e) fun _ _ z => z)
theorem test_or {x : Expr} {rest : List Expr} {pos : Pos} {whole : Sem Value} {P₁ P : Bool → St → Prop} (h : TriB W c σ (isTrue x c.env (eval x c.env)) P₁ X) (h₂ : ∀ σ₁, P₁ false σ₁ → TriB W c σ₁ (isTrue (.BoolOp .Or rest pos) c.env whole) P X)
    (h₃ : ∀ σ₁, P₁ true σ₁ → P true σ₁) : TriB W c σ (isTrue (.BoolOp .Or (x :: rest) pos) c.env whole) P X :=
  fun s ρ m cm ce frz R => isTrue_or (wpAny_mono (h s ρ m cm ce frz R) (fun b s₁ zz => Qu.el zz fun ρ' m' cm' ce' frz' σ' e R' q => by
    cases b with
    | false => exact wpAny_mono (h₂ σ' q s₁ ρ' m' cm' ce' frz' R') (fun _ _ z => z.ext e) fun _ _ z => z.ext e
    | true => exact (R'.hereU (h₃ σ' q)).ext e) fun _ _ z => z)
theorem bool_one {op : BoolOp} {x : Expr} {pos : Pos} (h : TriE W c σ (eval x c.env) P X) : TriE W c σ (eval (.BoolOp op [x] pos) c.env) P X := fun s ρ m cm ce frz R => BoolOp_one (h s ρ m cm ce frz R)
noncomputable def stopsAt (op : BoolOp) (t : Bool) : Bool := match op with | .And => !t | .Or => t
theorem bool_more {op : BoolOp} {x y : Expr} {rest : List Expr} {pos : Pos} {P₁ : AV → St → Prop} (h : TriE W c σ (eval x c.env) P₁ X)
    (h₂ : ∀ a σ₁, P₁ a σ₁ → ∃ t, a = .bool t ∧ br (stopsAt op t) (P (.bool t) σ₁) (TriE W c σ₁ (eval (.BoolOp op (y :: rest) pos) c.env) P X)) : TriE W c σ (eval (.BoolOp op (x :: y :: rest) pos) c.env) P X := by
  intro s ρ m cm ce frz R
  show wpAny W.M c.A (do
    let v ← eval x c.env
    standAt pos
    let t ← holding [v] (truthy v)
    match op, t with
    | .And, false | .Or, true => pure v
    | _, _ => boolOp pos op (evalEach (y :: rest) c.env)) _ _ s
  refine wpAny_bind (wpAny_mono (h s ρ m cm ce frz R) (fun va s₁ zz => Qv.el zz fun ρ' m' cm' ce' frz' av σ' e R' hv q => ?_) fun _ _ z => z)
  obtain ⟨t, rfl, hb⟩ := h₂ av σ' q
  cases hv
  refine wpAny_bind (wpAny_standAt (wpAny_bind (wpAny_holding (wpAny_truthy_bool ?_))))
  have go : TriE W c σ' (eval (.BoolOp op (y :: rest) pos) c.env) P X → wpAny W.M c.A (boolOp pos op (evalEach (y :: rest) c.env)) (Qv W c ρ frz P) (Qx W c ρ frz X) s₁ := fun z =>
    wpAny_mono (z s₁ ρ' m' cm' ce' frz' R') (fun _ _ z => z.ext e) fun _ _ z => z.ext e
  cases op <;> cases t
  · exact wpAny_pure ((R'.here vB hb).ext e)
  · exact go hb
  · exact go hb
  · exact wpAny_pure ((R'.here vB hb).ext e)
end
theorem sub_tail {W : Wd} {A : Around} {E : Value → Shared → Prop} {s : Shared} {value slice : Expr} {o i : Value} {ops : List Value} {T id : String} {Q : Value → Shared → Prop} (hT : s.TypeIs o T)
    (hl : typeLookup (.type T) "__getitem__" = pure (some (.builtin id))) (hs : subscripted slice false o i = operate ops (getItem o i)) (h : wpAny W.M A (getItem o i) Q E s) :
    wpAny W.M A (subscriptTail value slice o i) Q E s := by
  unfold subscriptTail
  refine wpAny_bind ?_
  refine getitemInPython_of_ne hT.not_modules ▸ ?_
  refine wpAny_bind (wpAny_specialOf hT hl ?_)
  have fin : wpAny W.M A (subscripted slice false o i) (fun r s₃ => wpAny W.M A (letTemporaryGo value o r >>= fun _ => pure r) Q E s₃) E s := by
    refine hs ▸ ?_
    exact wpAny_operate' (wpAny_mono h (fun r s₃ h₃ => wpAny_bind (wpAny_letTemporaryGo (wpAny_pure h₃))) fun _ _ x => x)
  first
    | exact wpAny_pure (wpAny_bind fin)
    | exact wpAny_bind (wpAny_pure (wpAny_bind fin))
    | exact wpAny_bind fin
noncomputable def isSlice : Expr → Bool
  | .Slice .. => true
  | _ => false
theorem sub_plain {slice : Expr} {o i : Value} (h : isSlice slice = false) : subscripted slice false o i = operate [o, i] (getItem o i) := by
  unfold subscripted
  split
  · exact nopb h.symm
  · contradiction
  · rfl
theorem clip_nat (n a : Nat) : clipAt n (a : Int) = min a n := by
  unfold clipAt
  refine if_neg (Int.not_lt.mpr (Int.natCast_nonneg a)) ▸ ?_
  rcases Nat.le_total a n with h | h
  · exact (Int.min_eq_left (Int.ofNat_le.mpr h)).symm ▸ (Int.max_eq_right (Int.natCast_nonneg _)).symm ▸ (Int.toNat_natCast ..) ▸ (Nat.min_eq_left h).symm ▸ rfl
  · exact (Int.min_eq_right (Int.ofNat_le.mpr h)).symm ▸ (Int.max_eq_right (Int.natCast_nonneg _)).symm ▸ (Int.toNat_natCast ..) ▸ (Nat.min_eq_right h).symm ▸ rfl
theorem slice_nat (ns : List Int) (a b : Nat) : (ns.drop a).take (b - a) = (ns.drop (min a ns.length)).take (min b ns.length - min a ns.length) := by
  rcases Nat.le_total a ns.length with h | h
  · rw [Nat.min_eq_left h, List.take_eq_take_iff, List.length_drop, Nat.sub_min_sub_right, Nat.sub_min_sub_right, Nat.min_assoc, Nat.min_self]
  · exact (Nat.min_eq_right h).symm ▸ List.drop_eq_nil_of_le h ▸ List.drop_length.symm ▸ List.take_nil.symm ▸ List.take_nil.symm ▸ rfl
theorem slice_xy {vs : List Value} {ns : List Int} (hi : IntsAre vs ns) {x y : Int} (hx : 0 ≤ x) (hy : 0 ≤ y) : IntsAre (slicePick vs.toArray (some x) (some y) none).toList ((ns.drop x.toNat).take (y - x).toNat) := by
  obtain ⟨a, rfl⟩ := Int.eq_ofNat_of_zero_le hx
  obtain ⟨b, rfl⟩ := Int.eq_ofNat_of_zero_le hy
  have h := slice_ints_plain hi a b
  rw [clip_nat, clip_nat, ← slice_nat] at h
  rw [Int.toNat_natCast, Int.toNat_sub]; exact h
inductive PartR : Option Int → Value → Prop
  | none : PartR none .none
  | int (i : Int) (t : Tok) : PartR (some i) (.int i t)
theorem PartR.is {p : Option Int} {v : Value} (h : PartR p v) : IsPart v p := by cases h; exact .none; exact .int _ _
noncomputable def slcV (xs : List Int) (lo hi : Option Int) (P : List Int → Prop) : Prop := match lo, hi with
  | none, none => P xs
  | some x, none => 0 ≤ x ∧ P (xs.drop x.toNat)
  | none, some y => 0 ≤ y ∧ P (xs.take y.toNat)
  | some x, some y => (0 ≤ x ∧ 0 ≤ y) ∧ P ((xs.drop x.toNat).take (y - x).toNat)
theorem slcV_of {its : Array Value} {xs : List Int} (hi : IntsAre its.toList xs) {lo hi' : Option Int} {P : List Int → Prop} (h : slcV xs lo hi' P) : ∃ ys, IntsAre (slicePick its lo hi' none).toList ys ∧ P ys := by
  have hi : IntsAre its.toList xs := hi
  obtain ⟨vs⟩ := its
  unfold slcV at h
  split at h
  · exact ⟨xs, by refine (slicePick_all ..) ▸ ?_; exact hi, h⟩
  · exact ⟨_, slice_ints_fromW hi h.1, h.2⟩
  · exact ⟨_, slice_ints_uptoW hi h.1, h.2⟩
  · exact ⟨_, slice_xy hi h.1.1 h.1.2, h.2⟩
noncomputable def subV (σ : St) (a i : AV) (P : AV → Prop) : Prop := asI i fun k => match asInts σ a with
  | some xs => (0 ≤ k ∧ k < xs.length ∧ xs.length ≤ 2 ^ 24) ∧ P (.int (xs.getD k.toNat 0))
  | none => opt (dicAt σ a) fun rows => opt (rget k rows) P
theorem subV_el {σ : St} {a i : AV} {P : AV → Prop} {G : AV → Prop} (h : subV σ a i P) (f : ∀ (k : Int) xs, asInts σ a = some xs → (0 ≤ k ∧ k < xs.length ∧ xs.length ≤ 2 ^ 24) → P (.int (xs.getD k.toNat 0)) → G (.int k))
    (f' : ∀ (k : Int) rows v, dicAt σ a = some rows → rget k rows = some v → P v → G (.int k)) : G i := by
  apply asI_el h; intro k h
  cases e : asInts σ a with
  | some xs => rw [e] at h; exact f k xs e h.1 h.2
  | none => rw [e] at h; exact opt_el h fun rows e1 h => opt_el h fun v e2 h => f' k rows v e1 e2 h
section
variable {W : Wd} {c : FC} {σ : St} {P : AV → St → Prop} {X : Str → St → Prop} {s : Shared} {ρ : Nat → Option Addr} {m : Str → Option Value} {cm ce frz : List (Addr × Obj)}
theorem intsAre_get {vs : List Value} {xs : List Int} (h : IntsAre vs xs) : ∀ {k : Nat}, k < xs.length → ∃ t, vs[k]? = some (.int (xs.getD k 0) t) := by
  induction h with
  | nil => exact fun h => absurd h (Nat.not_lt_zero _)
  | cons n t r ih =>
    intro k h
    cases k with
    | zero => exact ⟨t, rfl⟩
    | succ k =>
      obtain ⟨u, e⟩ := ih (k := k) (Nat.lt_of_succ_lt_succ h)
      exact ⟨u, e⟩
theorem tri_item {a i : AV} {value slice : Expr} (hs : isSlice slice = false) (h : subV σ a i (fun v => P v σ)) : TriV2 W c σ a i (fun o k => subscriptTail value slice o k) P X := by
  intro s ρ m cm ce frz va vi R ha
  apply subV_el h <;> clear h
  · rintro k xs e ⟨h0, h1, h2⟩ h ⟨t, rfl⟩
    refine ex3 (R.ints e ha) fun l its n hq0 => an3 hq0 fun qe3 hl hx => ?_; try clear hq0; subst qe3
    obtain ⟨u, hu⟩ := intsAre_get hx (k := k.toNat) (by lia -abstractProof)
    have hL : s.heap.IsList l its := ⟨_, hl, rfl, n, rfl⟩
    refine sub_tail hL.typeIs slot_list_getitem.lookup (sub_plain hs) (wpAny_getItem_list hL h0 (by lia -abstractProof) (by simpa using hu) (R.here vI h))
  · rintro k rows v e1 e2 h ⟨t, rfl⟩
    cases a with
    | ref n =>
      refine bind_el e1 fun o hg e => ?_
      cases dicOf_eq e; clear e
      refine ex2 (R.dict hg ha) fun d kvs hq0 => an3 hq0 fun qe2 D hr => ?_; try clear hq0; subst qe2
      have := hr.val_at k
      rw [e2] at this
      obtain ⟨u, e, hv⟩ := this
      have D' := D.mapOf
      refine sub_tail D'.typeIs slot_dict_getitem.lookup (sub_plain hs) (wpAny_getItem_of (intKind_is W.prog W.w k t) D' e ((R.toks _).here hv h))
    | _ => exact nope e1
theorem tri_Subscript {value slice : Expr} {pos : Pos} {P₁ : AV → St → Prop} {P₂ : AV → AV → St → Prop} (hs : isSlice slice = false) (h₁ : TriE W c σ (eval value c.env) P₁ X) (h₂ : ∀ a σ₁, P₁ a σ₁ → TriE W c σ₁ (eval slice c.env) (P₂ a) X)
    (h₃ : ∀ a i σ₂, P₂ a i σ₂ → subV σ₂ a i (fun v => P v σ₂)) : TriE W c σ (eval (.Subscript value slice pos) c.env) P X :=
  fun s ρ m cm ce frz R => Subscript_ (wpAny_mono (h₁ s ρ m cm ce frz R) (fun va s₁ zz => Qv.el zz fun ρ' m' cm' ce' frz' av σ' e R' hv q =>
    wpAny_mono (h₂ av σ' q s₁ ρ' m' cm' ce' frz' R') (fun vb s₂ zz => Qv.el zz fun ρ'' m'' cm'' ce'' frz'' bv σ'' e' R'' hv' q' =>
      wpAny_mono (tri_item (X := X) hs (h₃ av bv σ'' q') s₂ ρ'' m'' cm'' ce'' frz'' va vb R'' (hv.ext e') hv') (fun _ _ z => z.ext (e.trans e')) fun _ _ z => z.ext (e.trans e')) fun _ _ z => z.ext e) fun _ _ z => z)
noncomputable def TriP (W : Wd) (c : FC) (σ : St) (e : Option Expr) (P : Option Int → St → Prop) (X : Str → St → Prop) : Prop := match e with
  | none => P none σ
  | some e => TriE W c σ (eval e c.env) (fun v σ₁ => match v with | .int i => P (some i) σ₁ | _ => False) X
theorem TriP.go {e : Option Expr} {P : Option Int → St → Prop} (h : TriP W c σ e P X) (R : Rel W c s σ ρ m cm ce frz) {Q : Value → Shared → Prop}
    (k : ∀ v s' ρ' m' cm' ce' frz' p σ', Ext ρ ρ' frz frz' → Rel W c s' σ' ρ' m' cm' ce' frz' → PartR p v → P p σ' → Q v s') : wpAny W.M c.A (valueOrNone (evalOpt e c.env)) Q (Qx W c ρ frz X) s := by
  cases e with
  | none => exact wpAny_pure (k _ _ _ _ _ _ _ _ _ .refl R .none h)
  | some e =>
    exact wpAny_mono (h s ρ m cm ce frz R) (fun v s' zz => Qv.el zz fun ρ' m' cm' ce' frz' av σ' x R' hv q => by
      cases av with
      | int i => obtain ⟨t, rfl⟩ := hv; exact k _ _ _ _ _ _ _ _ _ x R' (.int i t) q
      | _ => exact q.elim) fun _ _ z => z
noncomputable def sliInts (σ : St) : AV → Option (List Int)
  | .scr xs => some xs
  | a => asInts σ a
theorem Rel.sli (R : Rel W c s σ ρ m cm ce frz) {a : AV} {xs : List Int} {va : Value} (e : sliInts σ a = some xs) (hv : Val (Z c.h₀ frz) ρ a va) : ∃ l its, va = .ref l ∧ s.heap.IsList l its ∧ IntsAre its.toList xs := by
  have plain : asInts σ a = some xs → ∃ l its, va = .ref l ∧ s.heap.IsList l its ∧ IntsAre its.toList xs := fun e => R.isList e hv
  cases a with
  | scr ys =>
    cases e
    refine ex4 hv fun l o its n hq0 => an4 hq0 fun qe4 z np6 i => ?_; try clear hq0; try clear hv; subst qe4; obtain ⟨q1, q2⟩ := np6
    exact ex2i l its ⟨rfl, ⟨o, Z.get R z, q1, n, q2⟩, i⟩
  | _ => exact plain e
theorem tri_Slice {value : Expr} {lo hi : Option Expr} {sp pos : Pos} {P₁ : AV → St → Prop} {P₂ : AV → Option Int → St → Prop} {P₃ : AV → Option Int → Option Int → St → Prop} (h₁ : TriE W c σ (eval value c.env) P₁ X) (h₂ : ∀ a σ₁, P₁ a σ₁ → TriP W c σ₁ lo (P₂ a) X)
    (h₃ : ∀ a x σ₁, P₂ a x σ₁ → TriP W c σ₁ hi (P₃ a x) X) (h₄ : ∀ a x y σ₂, P₃ a x y σ₂ → ∃ xs, sliInts σ₂ a = some xs ∧ xs.length ≤ 2 ^ 24 ∧ slcV xs x y (fun ys => P (.lst ys) σ₂)) : TriE W c σ (eval (.Subscript value (.Slice lo hi none sp) pos) c.env) P X :=
  fun s ρ m cm ce frz R => Subscript_ (wpAny_mono (h₁ s ρ m cm ce frz R) (fun va s₁ zz => Qv.el zz fun ρ₁ m₁ cm₁ ce₁ frz₁ av σ₁ e₁ R₁ hv q => by
    show wpAny W.M c.A (do
      let l ← valueOrNone (evalOpt lo c.env)
      let u ← holding [l] (valueOrNone (evalOpt hi c.env))
      let s ← holding [l, u] (valueOrNone (evalOpt none c.env))
      newFields "slice" [l, u, s]) _ _ s₁
    refine wpAny_bind (wpAny_mono ((h₂ av σ₁ q).go R₁ (Q := fun vl s' => wpAny W.M c.A (do
      let u ← holding [vl] (valueOrNone (evalOpt hi c.env))
      let s ← holding [vl, u] (valueOrNone (evalOpt none c.env))
      newFields "slice" [vl, u, s]) (fun i s₂ => wpAny W.M c.A (subscriptTail value (.Slice lo hi none sp) va i) (Qv W c ρ frz P) (Qx W c ρ frz X) s₂) (Qx W c ρ frz X) s') ?_) (fun _ _ z => z) fun _ _ z => z.ext e₁)
    intro vl s₂ ρ₂ m₂ cm₂ ce₂ frz₂ x σ₂ e₂ R₂ hpx q₂
    refine wpAny_bind (wpAny_holding (wpAny_mono ((h₃ av x σ₂ q₂).go R₂ (Q := fun vu s' => wpAny W.M c.A (do
      let s ← holding [vl, vu] (valueOrNone (evalOpt none c.env))
      newFields "slice" [vl, vu, s]) (fun i s₂ => wpAny W.M c.A (subscriptTail value (.Slice lo hi none sp) va i) (Qv W c ρ frz P) (Qx W c ρ frz X) s₂) (Qx W c ρ frz X) s') ?_) (fun _ _ z => z) fun _ _ z => z.ext (e₁.trans e₂)))
    intro vu s₃ ρ₃ m₃ cm₃ ce₃ frz₃ y σ₃ e₃ R₃ hpy q₃
    refine wpAny_bind (wpAny_holding (wpAny_pure ?_))
    refine Exists.elim (h₄ av x y σ₃ q₃) fun xs hq0 => an3 hq0 fun hxs hlen hsl => ?_; try clear hq0
    have hv3 := (hv.ext e₂).ext e₃
    refine ex2 (R₃.sli hxs hv3) fun l its hq0 => an3 hq0 fun qe2 hL hi' => ?_; try clear hq0; subst qe2
    obtain ⟨ys, hys, hP⟩ := slcV_of hi' hsl
    unfold newFields
    refine wpAny_newObj_type ?_ (by show (3 : Nat) ≤ sizeLine + 2; decide)
    have hL' := hL.push { cls := .type "slice", data := .fields #[vl, vu, .none] }
    refine sub_tail (hT := Heap.IsList.typeIs (s := { s₃ with heap := s₃.heap.push { cls := .type "slice", data := .fields #[vl, vu, .none] } }) hL') list_getitem_lookup rfl ?_
    refine wpAny_getItem_list_slice hL' (Heap.IsSliceOf.new ..) hpx.is hpy.is .none (by decide) ?_ (by have := hi'.length; rw [Array.length_toList] at this; refine this ▸ ?_; exact hlen)
    have F' := R₃.F.push { cls := .type "slice", data := .fields #[vl, vu, .none] }
    have N' := News.grown R₃.N (h' := s₃.heap.push { cls := .type "slice", data := .fields #[vl, vu, .none] }) (fun _ _ e => Heap.get?_push_of_some _ e)
    have N'' := News.push F' N' { cls := .type "list", data := .seq (slicePick its x y none) }
    refine (Rel.newLst (n := 0) (t := s₃.toks) R₃ (F'.push _) N'' (fun q hq => ?_) hys hP).ext ((e₁.trans e₂).trans e₃)
    refine (Heap.size_push ..) ▸ ?_; exact Nat.lt_succ_of_lt (R₃.lt q hq)) fun _ _ z => z)
end
noncomputable def stV (sc : Scope) (x : Str) (a : AV) (σ : St) : Option St := match sc.names.lookup x with
  | some .local => some { σ with loc := lset x a σ.loc }
  | some .cell => (match cget x σ.cel with | some _ => some { σ with cel := cset x a σ.cel } | none => none)
  | _ => none
theorem cget_cset {x y : Str} {v : AV} : ∀ {l : List (Str × Option AV)}, (cget x l).isSome = true → cget y (cset x v l) = if y = x then some (some v) else cget y l
  | [], h => by exact nopb h
  | (z, u) :: r, h => by
    simp only [cset]
    by_cases hz : (z == x) = true
    · refine if_pos hz ▸ ?_
      have e : z = x := by simpa using hz
      subst e
      simp only [cget]
      by_cases h : y = z
      · subst h; simp
      · rw [if_neg h, if_neg (by simpa using fun e => h e.symm), if_neg (by simpa using fun e => h e.symm)]
    · refine if_neg hz ▸ ?_
      simp only [cget] at h ⊢
      rw [if_neg hz] at h
      by_cases hy : (z == y) = true
      · refine if_pos hy ▸ if_pos hy ▸ ?_
        have e : z = y := by simpa using hy
        subst e
        exact if_neg (by simpa using hz) ▸ rfl
      · exact if_neg hy ▸ if_neg hy ▸ (cget_cset h).symm ▸ rfl
theorem lookup_mem {cl : List (Str × Addr)} {x : Str} {a : Addr} (h : cl.lookup x = some a) : a ∈ cl.map (·.2) := by
  induction cl with
  | nil => exact nope h
  | cons p r ih =>
    obtain ⟨z, b⟩ := p
    rw [List.lookup_cons] at h
    cases h1 : (x == z) with
    | true => rw [h1] at h; cases h; exact List.mem_cons_self ..
    | false => rw [h1] at h; exact List.mem_cons_of_mem _ (ih h)
theorem lookup_inj {cl : List (Str × Addr)} (h : (cl.map (·.2)).Nodup) {x y : Str} {a : Addr} (hx : cl.lookup x = some a) (hy : cl.lookup y = some a) : x = y := by
  induction cl with
  | nil => exact nope hx
  | cons p r ih =>
    obtain ⟨z, b⟩ := p
    rw [List.map_cons, List.nodup_cons] at h
    rw [List.lookup_cons] at hx hy
    have mem : ∀ {w : Str} {a : Addr}, r.lookup w = some a → a ∈ r.map (·.2) := fun e => lookup_mem e
    cases h1 : (x == z) with
    | true =>
      rw [h1] at hx; cases hx
      cases h2 : (y == z) with
      | true => exact (by simpa using h1 : x = z) ▸ (by simpa using h2 : y = z).symm ▸ rfl
      | false => rw [h2] at hy; exact absurd (mem hy) h.1
    | false =>
      rw [h1] at hx
      cases h2 : (y == z) with
      | true => rw [h2] at hy; cases hy; exact absurd (mem hx) h.1
      | false => rw [h2] at hy; exact ih h.2 hx hy
section
variable {W : Wd} {c : FC} {σ : St} {P : AV → St → Prop} {X : Str → St → Prop} {s : Shared} {ρ : Nat → Option Addr} {m : Str → Option Value} {cm ce frz : List (Addr × Obj)}
theorem tri_store {x : Str} {a : AV} {σ' : St} {v : Value} {P : St → Prop} (O : W.Ok c) (e : stV c.cs x a σ = some σ') (h : P σ') (R : Rel W c s σ ρ m cm ce frz) (hv : Val (Z c.h₀ frz) ρ a v) :
    wpAny W.M c.A (storeName c.env x v) (fun _ => Qu W c ρ frz P) (Qx W c ρ frz X) s := by
  unfold stV at e
  split at e
  · rename_i hk
    cases e
    have ns : s.heap.Ns c.env.locals m := O.eL ▸ R.F.ns
    refine wpAny_storeName_local hk ns (fun h' hn hs => ?_) (by show (c.cs.kind == .class || (c.cs.kind == .module && c.env.locals != c.env.globals)) = false; refine O.kind ▸ ?_; rfl)
    rw [O.eL] at hn hs
    have F' := R.F.set hn hs
    have N' := R.N.set hs
    refine (Qu.mk ρ _ cm ce frz ({ σ with loc := lset x a σ.loc }) .refl (⟨F', N', R.nd, R.ou, R.ex, R.cv, R.H, fun y w hy => ?_, R.C, R.Fv, R.rn, R.gens, R.os⟩) h)
    dsimp only at hy
    rw [lget_lset] at hy
    by_cases q : y = x
    · rw [if_pos q] at hy; cases hy; exact ⟨v, by exact if_pos q ▸ rfl, hv⟩
    · rw [if_neg q] at hy; refine if_neg q ▸ ?_; exact R.V y w hy
  · rename_i hk
    split at e
    · rename_i ov hc
      cases e
      refine ex2 (R.C x ov hc) fun a' o hq0 => an4 hq0 fun hcl hm np4 _ => ?_; try clear hq0; obtain ⟨v₀, hd⟩ := np4
      have hmem : (a', o) ∈ cm ++ (ce ++ frz) := List.mem_append_right _ (List.mem_append_left _ hm)
      obtain ⟨pre, post, hpp⟩ := List.append_of_mem hmem
      obtain ⟨p2, q2, hce⟩ := List.append_of_mem hm
      have nd := R.nd
      have disj : ∀ q ∈ cm ++ (ce ++ frz), q ≠ (a', o) → q.1 ≠ a' := by
        intro q hq hne he
        rw [hpp] at nd hq
        rw [List.map_append, List.map_cons, List.nodup_append] at nd
        obtain ⟨_, n2, n3⟩ := nd
        rw [List.nodup_cons] at n2
        rcases List.mem_append.mp hq with hq | hq
        · exact n3 q.1 (List.mem_map.mpr ⟨q, hq, rfl⟩) a' (List.mem_cons_self ..) he
        · rcases List.mem_cons.mp hq with rfl | hq
          · exact hne rfl
          · exact n2.1 (List.mem_map.mpr ⟨q, hq, he⟩)
      refine wpAny_storeName_cell O.kind hk hcl ⟨o, (R.N _ hmem).1, hd⟩ fun h' hv' hs => ?_
      obtain ⟨o', ho', hd'⟩ := hv'
      have Nm := R.N _ hmem
      have F' : Fr c.h₀ c.L h' m := R.F.change hs Nm.2.1 Nm.2.2
      refine ex6i ρ m cm (p2 ++ (a', o') :: q2) frz ({ σ with cel := cset x a σ.cel }) ⟨.refl, ⟨F', ?_, ?_, ?_, ?_, fun y b hy => (by have := R.cv y b hy; rw [hce] at this; simpa using this), R.H, R.V, ?_, R.Fv, R.rn, R.gens, R.os⟩, h⟩
      · intro q hq
        by_cases hqa : q = (a', o')
        · subst hqa; exact ⟨ho', Nm.2⟩
        · have hq' : q ∈ cm ++ (ce ++ frz) ∧ q ≠ (a', o) := by
            refine hce ▸ ?_
            rw [hce] at nd
            rcases List.mem_append.mp hq with hq | hq
            · refine ⟨List.mem_append_left _ hq, fun e => ?_⟩
              subst e
              rw [List.map_append, List.nodup_append] at nd
              exact nd.2.2 a' (List.mem_map.mpr ⟨_, hq, rfl⟩) a' (List.mem_map.mpr ⟨(a', o), by simp, rfl⟩) rfl
            · rcases List.mem_append.mp hq with hq | hq
              · rcases List.mem_append.mp hq with hq | hq
                · refine ⟨by simp [hq], fun e => ?_⟩
                  subst e
                  rw [List.map_append, List.nodup_append] at nd
                  have n2 := nd.2.1
                  rw [List.map_append, List.nodup_append, List.map_append, List.nodup_append] at n2
                  exact n2.1.2.2 a' (List.mem_map.mpr ⟨_, hq, rfl⟩) a' (List.mem_map.mpr ⟨(a', o), by simp, rfl⟩) rfl
                · rcases List.mem_cons.mp hq with rfl | hq
                  · exact absurd rfl hqa
                  · refine ⟨by simp [hq], fun e => ?_⟩
                    subst e
                    rw [List.map_append, List.nodup_append] at nd
                    have n2 := nd.2.1
                    rw [List.map_append, List.nodup_append, List.map_append, List.nodup_append, List.map_cons, List.nodup_cons] at n2
                    exact n2.1.2.1.1 (List.mem_map.mpr ⟨_, hq, rfl⟩)
              · refine ⟨by simp [hq], fun e => ?_⟩
                subst e
                rw [List.map_append, List.nodup_append] at nd
                have n2 := nd.2.1
                rw [List.map_append, List.nodup_append] at n2
                exact n2.2.2 a' (List.mem_map.mpr ⟨(a', o), by simp, rfl⟩) a' (List.mem_map.mpr ⟨_, hq, rfl⟩) rfl
          have z := R.N q hq'.1
          exact ⟨(hs.2 _ (disj q hq'.1 hq'.2)).trans z.1, z.2⟩
      · have := R.nd; rw [hce] at this; simpa using this
      · intro b hb ob hob
        obtain ⟨sl, hsl⟩ := R.ou b hb ob hob
        refine ⟨sl, ?_⟩
        rw [hce] at hsl
        rcases List.mem_append.mp hsl with hsl | hsl
        · exact List.mem_append_left _ hsl
        · rcases List.mem_cons.mp hsl with e | hsl
          · exfalso
            have e1 : b = a' := (Prod.mk.inj e).1
            exact O.cfr x a' hcl (e1 ▸ hb)
          · exact List.mem_append_right _ (.tail _ hsl)
      · intro q hq
        have h2 := R.ex q hq
        rw [hce] at h2
        rcases List.mem_append.mp h2 with h2 | h2
        · exact List.mem_append_left _ h2
        · rcases List.mem_cons.mp h2 with e | h2
          · exact absurd (List.mem_map.mpr ⟨q, hq, by exact e ▸ rfl⟩) (O.cex x a' hcl)
          · exact List.mem_append_right _ (.tail _ h2)
      · intro y oy hy
        dsimp only at hy
        rw [cget_cset (by refine hc ▸ ?_; rfl)] at hy
        by_cases q : y = x
        · rw [if_pos q] at hy; cases hy
          exact ex2i a' o' ⟨q ▸ hcl, by simp, ⟨_, hd'⟩, fun w hw => by cases hw; exact ⟨v, hd', hv⟩⟩
        · rw [if_neg q] at hy
          refine ex2 (R.C y oy hy) fun b ob hq0 => an4 hq0 fun h1 h2 h3 h4 => ?_; try clear hq0
          refine ex2i b ob ⟨h1, ?_, h3, h4⟩
          rw [hce] at h2
          rcases List.mem_append.mp h2 with h2 | h2
          · exact List.mem_append_left _ h2
          · rcases List.mem_cons.mp h2 with e | h2
            · exfalso
              have e1 : b = a' := (Prod.mk.inj e).1
              exact q (lookup_inj O.cnd (e1 ▸ h1) hcl)
            · exact List.mem_append_right _ (.tail _ h2)
    · exact nope e
  · exact nope e
end
noncomputable def isComp : Expr → Bool
  | .ListComp .. => true
  | .SetComp .. => true
  | .DictComp .. => true
  | _ => false
theorem swaps_no {value : Expr} {t : Expr} {line : Nat} {env : Env} (h : isComp value = false) : swapsWithSole [t] value line env = pure false := by
  show swapsWith value (some t) line env = pure false
  unfold swapsWith
  cases value <;> first | rfl | exact nopb h.symm
theorem swaps_none {value : Expr} {line : Nat} {env : Env} (h : isComp value = false) : swapsWith value none line env = pure false := by
  unfold swapsWith
  cases value <;> first | rfl | exact nopb h.symm
noncomputable def isTup : Expr → Bool
  | .Tuple .. => true
  | .List .. => true
  | _ => false
theorem stores_no {t value : Expr} {env : Env} (h : isTup t = false) : swappedStores [t] value env = pure none := by
  unfold swappedStores
  cases t <;> first | rfl | exact nopb h.symm
noncomputable def isTupV : Expr → Bool
  | .Tuple .. => true
  | _ => false
theorem stores_no' {t value : Expr} {env : Env} (h : isTupV value = false) : swappedStores [t] value env = pure none := by
  unfold swappedStores
  cases t with
  | Tuple => cases value <;> first | rfl | exact nopb h.symm
  | List => cases value <;> first | rfl | exact nopb h.symm
  | _ => rfl
noncomputable def swp (sc : Scope) (ts vs : List Expr) : Option (Option (List Str)) :=
  if (!(ts.length == 2 || ts.length == 3) || vs.length != ts.length) = true then some none
  else if vs.any isStar = true then some none
  else
    let line := (ts.head?.map (·.pos.line)).getD 0
    let names := ts.filterMap fun
      | .Name id pos => if sc.names.lookup id == some .local && pos.line == line then some id else none
      | _ => none
    if (names.length != ts.length || names.eraseDups.length != names.length) = true then some none
    else if vs.all (foldedForSure 8) = true then some none
    else if vs.all (constantsAlone 8) = true then none
    else some (some names)
theorem stores_swp {ts vs : List Expr} {k k' : Nat} {p p' : Pos} {env : Env} {r : Option (List Str)} (hk : env.scope.kind = .function) (h : swp env.scope ts vs = some r) : swappedStores [.Tuple ts k p] (.Tuple vs k' p') env = pure r := by
  have hb : (env.blockKind != .function) = false := by
    unfold Env.blockKind
    refine hk.symm ▸ ?_; decide
  unfold swappedStores
  unfold swp at h
  dsimp only
  refine hb.symm ▸ (Bool.or_false ..) ▸ ?_
  split at h
  · cases h; rename_i q; exact (if_pos q).trans rfl
  · rename_i q; refine (if_neg q).trans ?_
    split at h
    · cases h; rename_i q; exact (if_pos q).trans rfl
    · rename_i q; refine (if_neg q).trans ?_
      dsimp only at h
      split at h
      · cases h; rename_i q; exact (if_pos q).trans rfl
      · rename_i q; refine (if_neg q).trans ?_
        split at h
        · cases h; rename_i q; exact (if_pos q).trans rfl
        · rename_i q; refine (if_neg q).trans ?_
          split at h
          · exact nope h
          · cases h; rename_i q; exact (if_neg q).trans rfl
section
variable (W : Wd) (c : FC)
noncomputable def Qf (ρ : Nat → Option Addr) (frz : List (Addr × Obj)) (N : St → Prop) (Rt : AV → St → Prop) (f : Flow) (s' : Shared) : Prop := match f with
  | .next => Qu W c ρ frz N s'
  | .ret v => Qv W c ρ frz Rt v s'
  | _ => False
noncomputable def TriS (σ : St) (t : Sem Flow) (N : St → Prop) (Rt : AV → St → Prop) (X : Str → St → Prop) : Prop :=
  ∀ s ρ m cm ce frz, Rel W c s σ ρ m cm ce frz → wpAny W.M c.A t (Qf W c ρ frz N Rt) (Qx W c ρ frz X) s
end
section
variable {W : Wd} {c : FC} {σ : St} {P : AV → St → Prop} {X : Str → St → Prop} {N : St → Prop} {Rt : AV → St → Prop} {s : Shared} {ρ : Nat → Option Addr} {m : Str → Option Value} {cm ce frz : List (Addr × Obj)}
theorem Qf.ext {ρ' : Nat → Option Addr} {f' : List (Addr × Obj)} {v : Flow} {s' : Shared} (a : Ext ρ ρ' frz f') (h : Qf W c ρ' f' N Rt v s') : Qf W c ρ frz N Rt v s' := by
  cases v with
  | next => exact Qu.ext a h
  | ret v => exact Qv.ext a h
  | brk => exact h
  | cont => exact h
theorem tri_nil (h : N σ) : TriS W c σ (execs [] c.env) N Rt X := fun s ρ m cm ce frz R => wpAny_pure (R.hereU h)
theorem tri_cons {st : Stmt} {rest : List Stmt} {N₁ : St → Prop} (h₁ : TriS W c σ (exec st c.env) N₁ Rt X) (h₂ : ∀ σ₁, N₁ σ₁ → TriS W c σ₁ (execs rest c.env) N Rt X) : TriS W c σ (execs (st :: rest) c.env) N Rt X := by
  intro s ρ m cm ce frz R
  refine (arm_execs_cons ..) ▸ ?_
  refine wpAny_bind (wpAny_mono (h₁ s ρ m cm ce frz R) (fun f s₁ z => ?_) fun _ _ z => z)
  cases f with
  | next =>
    refine Qu.el z fun ρ' m' cm' ce' frz' σ' e R' q => ?_
    exact wpAny_mono (h₂ σ' q s₁ ρ' m' cm' ce' frz' R') (fun _ _ z => z.ext e) fun _ _ z => z.ext e
  | ret v => exact wpAny_pure z
  | brk => exact z.elim
  | cont => exact z.elim
theorem not_inter (O : W.Ok c) : interactive c.env = false := by
  unfold interactive
  refine O.kind ▸ ?_; rfl
theorem tri_ExprSt {e : Expr} {pos : Pos} (O : W.Ok c) (hc : isComp e = false) (h : TriE W c σ (eval e c.env) (fun _ σ₁ => N σ₁) X) : TriS W c σ (exec (.Expr e pos) c.env) N Rt X :=
  fun s ρ m cm ce frz R => wpAny_Expr_any (wpAny_mono (h s ρ m cm ce frz R) (fun _ _ zz => Qv.el zz fun ρ' m' cm' ce' frz' av σ' e R' hv q => (Qu.mk ρ' m' cm' ce' frz' σ' e R' q)) fun _ _ z => z) (not_inter O) (swaps_none hc)
theorem tri_Return {e : Expr} {pos : Pos} (h : TriE W c σ (eval e c.env) Rt X) : TriS W c σ (exec (.Return (some e) pos) c.env) N Rt X := by
  intro s ρ m cm ce frz R
  show wpAny W.M c.A (do standAt pos; return Flow.ret (← eval e c.env)) _ _ s
  exact wpAny_bind (wpAny_standAt (wpAny_bind (wpAny_mono (h s ρ m cm ce frz R) (fun _ _ z => wpAny_pure z) fun _ _ z => z)))
theorem tri_Return0 {pos : Pos} (h : Rt .none σ) : TriS W c σ (exec (.Return none pos) c.env) N Rt X := by
  intro s ρ m cm ce frz R
  show wpAny W.M c.A (do standAt pos; return Flow.ret Value.none) _ _ s
  exact wpAny_bind (wpAny_standAt (wpAny_pure (R.here vN h)))
theorem tri_Pass {pos : Pos} (h : N σ) : TriS W c σ (exec (.Pass pos) c.env) N Rt X :=
  fun s ρ m cm ce frz R => wpAny_bind (wpAny_standAt (wpAny_pure (R.hereU h)))
theorem tri_If {test : Expr} {body orelse : List Stmt} {pos : Pos} {P₁ : Bool → St → Prop} (h : TriB W c σ (isTrue test c.env (eval test c.env)) P₁ X) (h₂ : ∀ σ₁, P₁ true σ₁ → TriS W c σ₁ (execs body c.env) N Rt X)
    (h₃ : ∀ σ₁, P₁ false σ₁ → TriS W c σ₁ (execs orelse c.env) N Rt X) : TriS W c σ (exec (.If test body orelse pos) c.env) N Rt X := by
  intro s ρ m cm ce frz R
  show wpAny W.M c.A (do standAt pos; if ← isTrue test c.env (eval test c.env) then execs body c.env else execs orelse c.env) _ _ s
  refine wpAny_bind (wpAny_standAt (wpAny_bind (wpAny_mono (h s ρ m cm ce frz R) (fun b s₁ zz => Qu.el zz fun ρ' m' cm' ce' frz' σ' e R' q => ?_) fun _ _ z => z)))
  cases b with
  | true => exact wpAny_mono (h₂ σ' q s₁ ρ' m' cm' ce' frz' R') (fun _ _ z => z.ext e) fun _ _ z => z.ext e
  | false => exact wpAny_mono (h₃ σ' q s₁ ρ' m' cm' ce' frz' R') (fun _ _ z => z.ext e) fun _ _ z => z.ext e
theorem tri_Assign {t value : Expr} {pos : Pos} {P₁ : AV → St → Prop} (hs : isStar t = false) (hc : swapsWithSole [t] value pos.line c.env = pure false) (ht : isTup t = false ∨ isTupV value = false) (h₁ : TriE W c σ (eval value c.env) P₁ X) (h₂ : ∀ a σ₁, P₁ a σ₁ → TriVU W c σ₁ a (assign t c.env) N X) :
    TriS W c σ (exec (.Assign [t] value pos) c.env) N Rt X := by
  intro s ρ m cm ce frz R
  refine (exec_Assign ..) ▸ ?_
  refine wpAny_bind (wpAny_standAt ?_)
  refine hc ▸ ?_
  refine wpAny_bind (wpAny_pure ?_)
  rw [if_neg (by decide)]
  refine wpAny_bind (wpAny_mono (h₁ s ρ m cm ce frz R) (fun v s₁ zz => Qv.el zz fun ρ' m' cm' ce' frz' av σ' e R' hv q => ?_) fun _ _ z => z)
  refine (show swappedStores [t] value c.env = pure none from ht.elim stores_no stores_no') ▸ ?_
  refine wpAny_bind (wpAny_pure ?_)
  have hst : (assignEach [t] c.env).map (·.2) = [assign t c.env] := by
    cases t <;> first | rfl | exact nopb hs.symm
  refine hst ▸ ?_
  show wpAny W.M c.A (do assignAll v [assign t c.env]; pure Flow.next) _ _ s₁
  exact wpAny_bind (wpAny_mono (h₂ av σ' q s₁ ρ' m' cm' ce' frz' v R' hv) (fun _ _ x => wpAny_pure (x.ext e)) fun _ _ z => z.ext e)
theorem tri_aName {x : Str} {pos : Pos} {a : AV} {σ' : St} (O : W.Ok c) (e : stV c.cs x a σ = some σ') (h : N σ') : TriVU W c σ a (assign (.Name x pos) c.env) N X :=
  fun s ρ m cm ce frz va R hv => wpAny_assign_Name (tri_store O e h R hv)
end
noncomputable def splice (items new : Array Value) (lo hi : Option Int) : Array Value :=
  items.extract 0 (sliceBounds lo hi none items.size).1.toNat ++ new ++ items.extract (max (sliceBounds lo hi none items.size).1 (sliceBounds lo hi none items.size).2.1).toNat items.size
theorem setItem_slice {W : Wd} {A : Around} {E : Value → Shared → Prop} {s : Shared} {l sl b : Addr} {items new : Array Value} {vl vu : Value} {lo hi : Option Int} {Q : Unit → Shared → Prop} (hl : s.heap.IsList l items)
    (hs : s.heap.IsSliceOf sl vl vu .none) (pl : IsPart vl lo) (pu : IsPart vu hi) (hb : s.heap.IsList b new) (hlb : (l == b) = false) (hst : (sliceBounds lo hi none items.size).2.2 = 1)
    (hz1 : items.size + new.size ≤ sizeLine) (hz : (splice items new lo hi).size ≤ sizeLine)
    (hQ : Q () { s with heap := s.heap.update l (Obj.mapSeq fun xs => xs.extract 0 (sliceBounds lo hi none items.size).1.toNat ++ new ++ xs.extract (max (sliceBounds lo hi none items.size).1 (sliceBounds lo hi none items.size).2.1).toNat xs.size) }) :
    wpAny W.M A (setItem (.ref l) (.ref sl) (.ref b)) Q E s := by
  refine cps fun GG kG => ?_; obtain ⟨o, ho, hc, ne, hd⟩ := id hl; refine kG ?_
  refine cps fun GG kG => ?_; obtain ⟨ob, hob, hcb, nb, hdb⟩ := id hb; refine kG ?_
  refine Exists.elim (id hs) fun os hq0 => an3 hq0 fun hos hcs hds => ?_; try clear hq0
  have hTs : s.TypeIs (.ref sl) "slice" := ⟨os, hos, hcs⟩
  have hTb : s.TypeIs (.ref b) "list" := ⟨ob, hob, hcb⟩
  unfold setItem
  try with_reducible refine wpAny_holding ?_
  refine wpAny_bind (wpAny_sequenceKey hl.typeIs (by decide) ?_)
  refine wpAny_bind (wpAny_callSpecial?_slot (name := Str.ofString "__setitem__") hl.typeIs slot_list_setitem
    (wpAny_call_entry slot_list_setitem hl.typeIs entry_list_setitem ?_ (args_list_setitem _ _ _)))
  show wpAny _ _ (Builtin.List.listSubscript? (.ref sl) >>= _) _ _ s
  refine wpAny_bind ?_
  unfold Builtin.List.listSubscript?
  refine wpAny_bind (wpAny_specialOf hTs slice_no_index ?_)
  simp only [Option.isNone_none, if_true]
  refine wpAny_pure ?_
  show wpAny _ _ (typeOf (.ref sl) >>= _) _ _ s
  refine wpAny_bind (wpAny_typeOf hTs ?_)
  rw [if_neg (by decide)]
  refine (listSliceParts_eq ..) ▸ ?_
  refine wpAny_bind (wpAny_bind (wpAny_field hos hds (x := .none) rfl (wpAny_bind (wpAny_listPart .none ?_))))
  rw [if_neg (by simp [rawPart, rawInt])]
  refine wpAny_bind (wpAny_field hos hds (x := vl) rfl (wpAny_bind (wpAny_listPart pl ?_)))
  refine wpAny_bind (wpAny_field hos hds (x := vu) rfl (wpAny_bind (wpAny_listPart pu (wpAny_pure ?_))))
  have hsame : Builtin.List.listSameRef (.ref l) (.ref b) = false := hlb
  refine hsame ▸ ?_
  simp only [Bool.false_eq_true, if_false]
  unfold Builtin.List.listAllItems
  refine wpAny_bind (wpAny_bind (wpAny_typeOf hTb ?_))
  rw [if_pos (by decide)]
  unfold Builtin.List.listItems
  refine wpAny_bind (wpAny_seqItems hob hdb (wpAny_pure ?_))
  refine wpAny_bind (wpAny_bind (wpAny_seqItems ho hd (wpAny_pure ?_)))
  refine wpAny_bind (wpAny_of_eq (sliceIndices_raw lo hi none items.size (by decide)) ?_)
  revert hst hz hQ
  unfold splice
  generalize sliceBounds lo hi none items.size = B
  obtain ⟨b1, b2, b3⟩ := B
  intro hst hz hQ
  dsimp only at hst hz hQ ⊢
  subst hst
  rw [if_pos (by decide)]
  refine wpAny_bind (wpAny_rule ?_)
  rw [if_neg (by unfold Builtin.List.listTooLong; simpa using hz1)]
  refine wpAny_bind (m := Builtin.List.listUpdate _ _) ?_
  show wpAny _ _ (updateSeq l _) _ _ s
  refine wpAny_updateSeq ho hd ?_ (Nat.le_trans (Nat.le_add_right _ _) hz1) (Nat.le_succ_of_le hz)
  refine wpAny_bind (wpAny_letGo (wpAny_pure ⟨.none, rfl, wpAny_pure hQ⟩))
noncomputable def rset (k : Int) (a : AV) : List (Int × AV) → List (Int × AV)
  | [] => [(k, a)]
  | (y, u) :: r => if y = k then (y, a) :: r else (y, u) :: rset k a r
noncomputable def kset (k : Int) (a : Value) : List (Int × Value) → List (Int × Value)
  | [] => [(k, a)]
  | (y, u) :: r => if y = k then (y, a) :: r else (y, u) :: kset k a r
theorem map_notin {k : Int} {v : Value} : ∀ {r : List (Int × Value)}, k ∉ r.map (·.1) → r.map (fun kv => if kv.1 = k then (kv.1, v) else kv) = r
  | [], _ => rfl
  | (y, u) :: r, h => by
    rw [List.map_cons, List.mem_cons, not_or] at h
    rw [List.map_cons, map_notin h.2, if_neg (fun e => h.1 e.symm)]
theorem stored_kset {k : Int} {v : Value} : ∀ {kvs : List (Int × Value)}, (kvs.map (·.1)).Nodup → stored kvs k v = kset k v kvs
  | [], _ => rfl
  | (y, u) :: r, h => by
    rw [List.map_cons, List.nodup_cons] at h
    have ih := stored_kset (k := k) (v := v) h.2
    unfold kset
    by_cases hy : y = k
    · subst hy
      refine if_pos rfl ▸ ?_
      unfold stored
      rw [if_pos (by simp), List.map_cons, if_pos rfl, map_notin h.1]
    · refine if_neg hy ▸ ih ▸ ?_
      unfold stored
      have e : ((y, u) :: r).any (fun kv => decide (kv.1 = k)) = r.any (fun kv => decide (kv.1 = k)) := by simp [hy]
      refine e.symm ▸ ?_
      split
      · exact List.map_cons ▸ if_neg hy ▸ rfl
      · rfl
theorem RowsR.set {Zp : Addr → Obj → Prop} {ρ : Nat → Option Addr} {rows : List (Int × AV)} {kvs : List (Int × Value)} (h : RowsR Zp ρ rows kvs) {k : Int} {a : AV} {v : Value} (hv : Val Zp ρ a v) : RowsR Zp ρ (rset k a rows) (kset k v kvs) := by
  induction h with
  | nil => exact .cons hv .nil
  | @cons y u w r es hu hr ih =>
    unfold rset kset
    by_cases hy : y = k
    · refine if_pos hy ▸ if_pos hy ▸ ?_; exact .cons hv hr
    · refine if_neg hy ▸ if_neg hy ▸ ?_; exact .cons hu ih
theorem RowsR.length {Zp : Addr → Obj → Prop} {ρ : Nat → Option Addr} {rows : List (Int × AV)} {kvs : List (Int × Value)} (h : RowsR Zp ρ rows kvs) : kvs.length = rows.length := by
  induction h with
  | nil => rfl
  | cons _ _ ih => simp [ih]
theorem intsAre_set {x : Int} {u : Tok} : ∀ {vs : List Value} {ns : List Int}, IntsAre vs ns → ∀ j : Nat, IntsAre (vs.set j (.int x u)) (ns.set j x)
  | _, _, .nil, _ => .nil
  | _, _, .cons n t r, 0 => .cons x u r
  | _, _, .cons n t r, j + 1 => .cons n t (intsAre_set r j)
noncomputable def setV (σ : St) (a b i : AV) (N : St → Prop) : Prop := asR b fun n => asI i fun k => opt (hget n σ.hp) fun o => match o with
  | .arr xs => asI a fun z => (0 ≤ k ∧ k < xs.length ∧ xs.length ≤ 2 ^ 24) ∧ N { σ with hp := hset n (.arr (xs.set k.toNat z)) σ.hp }
  | .dict rows => rows.length ≤ 1000 ∧ N { σ with hp := hset n (.dict (rset k a rows)) σ.hp }
  | _ => False
section
variable {W : Wd} {c : FC} {σ : St} {P : AV → St → Prop} {X : Str → St → Prop} {N : St → Prop} {Rt : AV → St → Prop} {s : Shared} {ρ : Nat → Option Addr} {m : Str → Option Value} {cm ce frz : List (Addr × Obj)}
theorem Rel.chg (R : Rel W c s σ ρ m cm ce frz) {n : Nat} {o' : AO} {pre post : List (Addr × Obj)} {a : Addr} {x y : Obj} {h' : Heap} {t : Nat} (hcm : cm = pre ++ ([(a, x)] ++ post))
    (H' : HR W (Z c.h₀ frz) ρ (hset n o' σ.hp) (pre ++ ([(a, y)] ++ post))) (hs : Heap.SameBut a s.heap h') (hy : h'.get? a = some y) :
    Rel W c { s with heap := h', toks := t } { σ with hp := hset n o' σ.hp } ρ m (pre ++ ([(a, y)] ++ post)) ce frz := by
  have hm : (a, x) ∈ cm ++ (ce ++ frz) := by refine hcm ▸ ?_; simp
  have Nm := R.N _ hm
  have nd := R.nd
  rw [hcm] at nd
  have e : pre ++ ([(a, x)] ++ post) ++ (ce ++ frz) = pre ++ (a, x) :: (post ++ (ce ++ frz)) := by simp
  rw [e, List.map_append, List.map_cons, List.nodup_append] at nd
  obtain ⟨_, n2, n3⟩ := nd
  rw [List.nodup_cons] at n2
  have F' : Fr c.h₀ c.L h' m := R.F.change hs Nm.2.1 Nm.2.2
  refine R.turn hcm (by rfl) H' F' fun q hq => ?_
  have e' : pre ++ ([(a, y)] ++ post) ++ (ce ++ frz) = pre ++ (a, y) :: (post ++ (ce ++ frz)) := by simp
  rw [e'] at hq
  rcases List.mem_append.mp hq with hq | hq
  · have z := R.N q (by refine hcm ▸ ?_; simp [hq])
    exact ⟨(hs.2 _ (n3 q.1 (List.mem_map.mpr ⟨q, hq, rfl⟩) a (List.mem_cons_self ..))).trans z.1, z.2⟩
  · rcases List.mem_cons.mp hq with rfl | hq
    · exact ⟨hy, Nm.2⟩
    · have z := R.N q (by refine hcm ▸ e ▸ ?_; exact List.mem_append_right _ (.tail _ hq))
      exact ⟨(hs.2 _ (fun h => n2.1 (List.mem_map.mpr ⟨q, hq, h⟩))).trans z.1, z.2⟩
theorem tri_setItem {a b i : AV} (h : setV σ a b i N) {va vb vi : Value} (R : Rel W c s σ ρ m cm ce frz) (ha : Val (Z c.h₀ frz) ρ a va) (hb : Val (Z c.h₀ frz) ρ b vb) (hi : Val (Z c.h₀ frz) ρ i vi) :
    wpAny W.M c.A (setItem vb vi va) (fun _ => Qu W c ρ frz N) (Qx W c ρ frz X) s := by
  revert hb hi
  apply asR_el h; intro n h; apply asI_el h; intro k h hb hi
  refine opt_el h fun o hg h => ?_
  obtain ⟨t, rfl⟩ := hi
  obtain ⟨l, rfl, hr⟩ := hb
  cases o with
  | arr xs =>
      revert ha; apply asI_el h; intro z h ha
      obtain ⟨u, rfl⟩ := ha
      obtain ⟨⟨h0, h1, h2⟩, h⟩ := h
      refine ex3 (R.H.get hg) fun pre ll post hq0 => an3 hq0 fun hcm np4 hset' => ?_; try clear hq0; refine cps fun GG kG => ?_; obtain ⟨x, its, kk, rfl, hx, hints⟩ := np4; refine kG ?_
      rw [hr] at hx; cases hx
      have hm : (l, listOf its kk) ∈ cm ++ (ce ++ frz) := by refine hcm ▸ ?_; simp
      obtain ⟨vs⟩ := its
      have hints : IntsAre vs xs := hints
      have e : cm ++ (ce ++ frz) = pre ++ (l, listOf vs.toArray kk) :: (post ++ (ce ++ frz)) := by refine hcm ▸ ?_; simp
      have U := upd_of (o' := listOf (vs.set k.toNat (.int z u)).toArray kk) (e ▸ R.nd)
      rw [← e] at U
      refine ksa_set R.F R.N U hints h0 h1 (by lia -abstractProof) fun h' F' N' _ _ _ => ?_
      have H' := hset' (.arr (xs.set k.toNat z)) [(l, listOf (vs.set k.toNat (.int z u)).toArray kk)] (ex3i l _ kk ⟨rfl, hr, intsAre_set hints _⟩)
      exact (Qu.mk ρ m _ ce frz _ .refl (R.turn (t := s.toks) hcm (by rfl) H' F' (by simpa using N')) h)
  | dict rows =>
      refine ex3 (R.H.get hg) fun pre ll post hq0 => an3 hq0 fun hcm np4 hset' => ?_; try clear hq0; refine cps fun GG kG => ?_; obtain ⟨x, o, kvs, rfl, hx, ho, hrows, hlo⟩ := np4; refine kG ?_
      rw [hr] at hx; cases hx
      have hm : (l, o) ∈ cm ++ (ce ++ frz) := by refine hcm ▸ ?_; simp
      have D : s.heap.DictOf (intKind W.prog W.w) l kvs := Heap.dictOf_iff.mpr ⟨o, (R.N _ hm).1, ho⟩
      have nd : (kvs.map (·.1)).Nodup := by refine ex2 ho fun _ _ hq0 => an5 hq0 fun _ _ _ _ nd => ?_; try clear hq0; try clear ho; exact nd
      refine wpAny_setItem_pairs (intKind_is W.prog W.w k t) D (fun h' D' hs => ?_) (by refine hrows.length ▸ ?_; exact Nat.le_trans h.1 (by decide))
      obtain ⟨o', ho', hd'⟩ := Heap.dictOf_iff.mp D'
      rw [stored_kset nd] at hd'
      exact ex6i ρ m _ ce frz _ ⟨.refl, R.chg hcm (hset' (.dict (rset k a rows)) [(l, o')] (ex3i l o' _ ⟨rfl, hr, hd', hrows.set ha, hlo⟩)) hs ho', h.2⟩
  | _ => exact False.elim h
theorem tri_aItem {o i : Expr} {pos : Pos} {a : AV} {P₁ : AV → St → Prop} {P₂ : AV → AV → St → Prop} (O : W.Ok c) (h₁ : TriE W c σ (eval o c.env) P₁ X) (h₂ : ∀ b σ₁, P₁ b σ₁ → TriE W c σ₁ (eval i c.env) (P₂ b) X)
    (h₃ : ∀ b k σ₂, P₂ b k σ₂ → setV σ₂ a b k N) : TriVU W c σ a (assign (.Subscript o i pos) c.env) N X := by
  intro s ρ m cm ce frz va R hv
  refine (assign_Subscript ..) ▸ ?_
  refine wpAny_bind (wpAny_holding (wpAny_mono (h₁ s ρ m cm ce frz R) (fun vo s₁ zz => Qv.el zz fun ρ' m' cm' ce' frz' bv σ' e R' hvo q => ?_) fun _ _ z => z))
  refine wpAny_bind (wpAny_holding (wpAny_mono (h₂ bv σ' q s₁ ρ' m' cm' ce' frz' R') (fun vi s₂ zz => Qv.el zz fun ρ'' m'' cm'' ce'' frz'' iv σ'' e' R'' hvi q' => ?_) fun _ _ z => z.ext e))
  exact wpAny_bind (wpAny_standAt (wpAny_bind (wpAny_holding (wpAny_mono (tri_setItem (X := X) (h₃ bv iv σ'' q') R'' ((hv.ext e).ext e') (hvo.ext e') hvi) (fun _ _ z => wpAny_release' (z.ext (e.trans e'))) fun _ _ z => z.ext (e.trans e')))))
noncomputable def splV (σ : St) (a b : AV) (lo hi : Option Int) (N : St → Prop) : Prop := asL a fun ys => asR b fun n => opt lo fun x => opt hi fun y => opt ((hget n σ.hp).bind arrOf) fun xs =>
    ((0 ≤ x ∧ x ≤ y ∧ y ≤ xs.length) ∧ xs.length ≤ 2 ^ 20 ∧ ys.length ≤ 2 ^ 20) ∧ N { σ with hp := hset n (.arr (xs.take x.toNat ++ ys ++ xs.drop y.toNat)) σ.hp }
theorem clip_id {n : Nat} {x : Int} (h : 0 ≤ x) (h2 : x ≤ n) : clipAt n x = x.toNat := by
  obtain ⟨a, rfl⟩ := Int.eq_ofNat_of_zero_le h
  exact (clip_nat ..) ▸ (Int.toNat_natCast ..) ▸ (Nat.min_eq_left (Int.ofNat_le.mp h2)).symm ▸ rfl
theorem bounds_in {x y : Int} {n : Nat} (h0 : 0 ≤ x) (h1 : x ≤ y) (h2 : y ≤ n) : sliceBounds (some x) (some y) none n = (x, y, 1) := by
  refine (sliceBounds_plain ..) ▸ ?_
  simp only [Option.elim]
  exact clip_id h0 (Int.le_trans h1 h2) ▸ clip_id (Int.le_trans h0 h1) h2 ▸ (Int.toNat_of_nonneg h0).symm ▸ (Int.toNat_of_nonneg (Int.le_trans h0 h1)).symm ▸ rfl
theorem extract_toList {items : Array Value} {i j : Nat} : (items.extract i j).toList = (items.toList.drop i).take (j - i) := by
  simp [List.extract_eq_take_drop]
theorem splice_ints {vs ws : Array Value} {xs ys : List Int} (hv : IntsAre vs.toList xs) (hw : IntsAre ws.toList ys) {x y : Int} (h0 : 0 ≤ x) (h1 : x ≤ y) (h2 : y ≤ xs.length) :
    IntsAre (vs.extract 0 x.toNat ++ ws ++ vs.extract (max x y).toNat vs.size).toList (xs.take x.toNat ++ ys ++ xs.drop y.toNat) := by
  have hl : vs.toList.length = xs.length := hv.length
  refine Array.toList_append.symm ▸ Array.toList_append.symm ▸ extract_toList ▸ extract_toList.symm ▸ (Int.max_eq_right h1).symm ▸ ?_
  have t : (vs.toList.drop y.toNat).take (vs.size - y.toNat) = vs.toList.drop y.toNat := by
    rw [List.take_of_length_le]
    refine List.length_drop.symm ▸ Array.length_toList.symm ▸ ?_; exact Nat.le_refl _
  refine t.symm ▸ ?_
  simp only [List.drop_zero, Nat.sub_zero]
  exact ((hv.take _).append hw).append (hv.drop _)
theorem tri_aSlice {o : Expr} {lo hi : Option Expr} {sp pos : Pos} {a : AV} {P₁ : AV → St → Prop} {P₂ : AV → Option Int → St → Prop} {P₃ : AV → Option Int → Option Int → St → Prop} (O : W.Ok c) (h₁ : TriE W c σ (eval o c.env) P₁ X)
    (h₂ : ∀ b σ₁, P₁ b σ₁ → TriP W c σ₁ lo (P₂ b) X) (h₃ : ∀ b x σ₁, P₂ b x σ₁ → TriP W c σ₁ hi (P₃ b x) X) (h₄ : ∀ b x y σ₂, P₃ b x y σ₂ → splV σ₂ a b x y N) : TriVU W c σ a (assign (.Subscript o (.Slice lo hi none sp) pos) c.env) N X := by
  intro s ρ m cm ce frz va R hv
  refine (assign_Subscript ..) ▸ ?_
  refine wpAny_bind (wpAny_holding (wpAny_mono (h₁ s ρ m cm ce frz R) (fun vo s₁ zz => Qv.el zz fun ρ₁ m₁ cm₁ ce₁ frz₁ bv σ₁ e₁ R₁ hvo q => ?_) fun _ _ z => z))
  refine wpAny_bind (wpAny_holding ?_)
  show wpAny W.M c.A (do
      let l ← valueOrNone (evalOpt lo c.env)
      let u ← holding [l] (valueOrNone (evalOpt hi c.env))
      let s ← holding [l, u] (valueOrNone (evalOpt none c.env))
      newFields "slice" [l, u, s]) _ _ s₁
  refine wpAny_bind (wpAny_mono ((h₂ bv σ₁ q).go R₁ (Q := fun vl s' => wpAny W.M c.A (do
      let u ← holding [vl] (valueOrNone (evalOpt hi c.env))
      let s ← holding [vl, u] (valueOrNone (evalOpt none c.env))
      newFields "slice" [vl, u, s]) _ (Qx W c ρ frz X) s') ?_) (fun _ _ z => z) fun _ _ z => z.ext e₁)
  intro vl s₂ ρ₂ m₂ cm₂ ce₂ frz₂ x σ₂ e₂ R₂ hpx q₂
  refine wpAny_bind (wpAny_holding (wpAny_mono ((h₃ bv x σ₂ q₂).go R₂ (Q := fun vu s' => wpAny W.M c.A (do
      let s ← holding [vl, vu] (valueOrNone (evalOpt none c.env))
      newFields "slice" [vl, vu, s]) _ (Qx W c ρ frz X) s') ?_) (fun _ _ z => z) fun _ _ z => z.ext (e₁.trans e₂)))
  intro vu s₃ ρ₃ m₃ cm₃ ce₃ frz₃ y σ₃ e₃ R₃ hpy q₃
  refine wpAny_bind (wpAny_holding (wpAny_pure ?_))
  have ee := (e₁.trans e₂).trans e₃
  have hvo3 := (hvo.ext e₂).ext e₃
  have hva3 := ((hv.ext e₁).ext e₂).ext e₃
  have H := h₄ bv x y σ₃ q₃
  clear hv; revert hvo3 hva3
  apply asL_el H; clear H; intro ys H; apply asR_el H; clear H; intro n H hvo3 hva3
  refine opt_el H ?_; clear H; intro x qe2 H; subst qe2
  refine opt_el H ?_; clear H; intro y qe3 H; subst qe3
  refine opt_el H fun xs hg H => bind_el hg fun o hg e => ?_
  cases arrOf_eq e; clear e
  refine cps fun GG kG => ?_; obtain ⟨⟨⟨b0, b1, b2⟩, b3, b4⟩, H⟩ := H; refine kG ?_
  obtain ⟨l, rfl, hr⟩ := hvo3
  refine ex3 hva3 fun b its' k' hq0 => an3 hq0 fun qe3 zb hys => ?_; try clear hq0; try clear hva3; subst qe3
  refine ex3 (R₃.H.get hg) fun pre ll post hq0 => an3 hq0 fun hcm np4 hset' => ?_; try clear hq0; refine cps fun GG kG => ?_; obtain ⟨x', its, kk, rfl, hx, hints⟩ := np4; refine kG ?_
  rw [hr] at hx; cases hx
  have hm : (l, listOf its kk) ∈ cm₃ ++ (ce₃ ++ frz₃) := by refine hcm ▸ ?_; simp
  have hlen : its.size = xs.length := by have := hints.length; rwa [Array.length_toList] at this
  have hlen' : its'.size = ys.length := by have := hys.length; rwa [Array.length_toList] at this
  have hlb : (l == b) = false := by
    cases hq : (l == b) with
    | false => rfl
    | true =>
      exfalso
      obtain rfl : l = b := by simpa using hq
      rcases zb with z | z
      · have := (R₃.N _ hm).2.2
        rw [this] at z; exact nope z
      · have nd := R₃.nd
        rw [List.map_append, List.nodup_append] at nd
        exact nd.2.2 l (List.mem_map.mpr ⟨(l, listOf its kk), by refine hcm ▸ ?_; simp, rfl⟩) l (List.mem_map.mpr ⟨_, List.mem_append_right _ z, rfl⟩) rfl
  unfold newFields
  refine wpAny_newObj_type ?_ (by show (3 : Nat) ≤ sizeLine + 2; decide)
  have hl : s₃.heap.get? l = some (listOf its kk) := (R₃.N _ hm).1
  have hb' : s₃.heap.get? b = some (listOf its' k') := Z.get R₃ zb
  have ho := Heap.get?_push_of_some { cls := .type "slice", data := .fields #[vl, vu, .none] } hl
  have bd := bounds_in b0 b1 (by rw [← hlen] at b2; exact b2)
  refine wpAny_bind (wpAny_standAt (wpAny_bind (wpAny_holding ?_)))
  refine setItem_slice (items := its) (new := its') (lo := some x) (hi := some y) ⟨_, ho, rfl, kk, rfl⟩ ?_ hpx.is hpy.is ⟨_, Heap.get?_push_of_some _ hb', rfl, k', rfl⟩ hlb (by exact bd ▸ rfl) (by refine hlen ▸ hlen' ▸ sizeLine_eq ▸ ?_; lia -abstractProof) ?_ ?_
  · cases hpx; cases hpy; exact Heap.IsSliceOf.new ..
  · have si := (splice_ints hints hys b0 b1 (b2)).length
    unfold splice
    refine bd ▸ ?_
    refine Array.length_toList ▸ si ▸ sizeLine_eq ▸ ?_
    simp only [List.length_append, List.length_take, List.length_drop]; lia -abstractProof
  · refine bd ▸ ?_
    refine wpAny_release' ?_
    have N' := News.grown R₃.N (h' := s₃.heap.push { cls := .type "slice", data := .fields #[vl, vu, .none] }) (fun _ _ e => Heap.get?_push_of_some _ e)
    have R4 := R₃.same (t := s₃.toks) (R₃.F.push { cls := .type "slice", data := .fields #[vl, vu, .none] }) N'
    have si := splice_ints hints hys b0 b1 (b2)
    have hy : ((s₃.heap.push { cls := .type "slice", data := .fields #[vl, vu, .none] }).update l (Obj.mapSeq fun xs => xs.extract 0 x.toNat ++ its' ++ xs.extract (max x y).toNat xs.size)).get? l =
        some (listOf (its.extract 0 x.toNat ++ its' ++ its.extract (max x y).toNat its.size) (if (its.extract 0 x.toNat ++ its' ++ its.extract (max x y).toNat its.size).size == its.size then kk else kk + 1)) := by
      have := Heap.get?_update_self (Obj.mapSeq fun xs => xs.extract 0 x.toNat ++ its' ++ xs.extract (max x y).toNat xs.size) ho (by rfl)
      refine this.symm ▸ ?_; rfl
    have R5 := R4.chg (t := s₃.toks) hcm (hset' (.arr (xs.take x.toNat ++ ys ++ xs.drop y.toNat)) [(l, _)] (ex3i l _ _ ⟨rfl, hr, si⟩)) (Heap.SameBut.update ..) hy
    exact (Qu.mk ρ₃ m₃ _ ce₃ frz₃ _ ee R5 H)
end
noncomputable def tupVals : AV → Option (List AV)
  | .tup2 a b => some [a, b]
  | .tup3 a b c => some [a, b, c]
  | _ => none
section
variable {W : Wd} {c : FC} {σ : St} {P : AV → St → Prop} {X : Str → St → Prop} {N : St → Prop} {Rt : AV → St → Prop} {s : Shared} {ρ : Nat → Option Addr} {m : Str → Option Value} {cm ce frz : List (Addr × Obj)}
theorem tup_vals (R : Rel W c s σ ρ m cm ce frz) {a : AV} {vals : List AV} {va : Value} (e : tupVals a = some vals) (h : Val (Z c.h₀ frz) ρ a va) : ∃ t items, va = .ref t ∧ IsTup s.heap t items ∧ ValL (Z c.h₀ frz) ρ vals items.toList ∧ items.size = vals.length := by
  cases a with
  | tup2 x y => cases e; refine ex4 h fun t u w n hq0 => an4 hq0 fun qe4 z h1 h2 => ?_; try clear hq0; try clear h; subst qe4; exact ex2i t _ ⟨rfl, ⟨_, Z.get R z, rfl, n, rfl⟩, ⟨h1, h2, trivial⟩, rfl⟩
  | tup3 x y z => cases e; refine ex5 h fun t u w k n hq0 => an5 hq0 fun qe5 z h1 h2 h3 => ?_; try clear hq0; try clear h; subst qe5; exact ex2i t _ ⟨rfl, ⟨_, Z.get R z, rfl, n, rfl⟩, ⟨h1, h2, h3, trivial⟩, rfl⟩
  | _ => exact nope e
theorem Rel.extBut (R : Rel W c s σ ρ m cm ce frz) {h' : Heap} {t : Nat} (he : Heap.ExtBut s.heap.objs.size s.heap h') : Rel W c { s with heap := h', toks := t } σ ρ m cm ce frz :=
  R.same (R.F.extBut he (Nat.le_refl _)) fun q hq => ⟨he q.1 q.2 (Nat.ne_of_lt (R.lt q hq)) (R.N q hq).1, (R.N q hq).2⟩
noncomputable def TriAL (W : Wd) (c : FC) (σ : St) (ts : List (Value → Sem Unit)) (as : List AV) (N : St → Prop) (X : Str → St → Prop) : Prop :=
  ∀ s ρ m cm ce frz vs, Rel W c s σ ρ m cm ce frz → ValL (Z c.h₀ frz) ρ as vs → wpAny W.M c.A (assignInOrder ts vs) (fun _ => Qu W c ρ frz N) (Qx W c ρ frz X) s
theorem triAL_nil (h : N σ) : TriAL W c σ [] [] N X := fun s ρ m cm ce frz vs R hv => by
  cases vs with
  | nil => exact wpAny_pure (R.hereU h)
  | cons => exact hv.elim
theorem triAL_cons {t : Value → Sem Unit} {ts : List (Value → Sem Unit)} {a : AV} {as : List AV} {N₁ : St → Prop} (h₁ : TriVU W c σ a t N₁ X) (h₂ : ∀ σ₁, N₁ σ₁ → TriAL W c σ₁ ts as N X) : TriAL W c σ (t :: ts) (a :: as) N X :=
  fun s ρ m cm ce frz vs R hv => by
    cases vs with
    | nil => exact hv.elim
    | cons v vs =>
      show wpAny W.M c.A (do holding vs (t v); assignInOrder ts vs) _ _ s
      exact wpAny_bind (wpAny_holding (wpAny_mono (h₁ s ρ m cm ce frz v R hv.1) (fun _ s₁ zz => Qu.el zz fun ρ' m' cm' ce' frz' σ' e R' q =>
        wpAny_mono (h₂ σ' q s₁ ρ' m' cm' ce' frz' vs R' (hv.2.ext e)) (fun _ _ z => z.ext e) fun _ _ z => z.ext e) fun _ _ z => z))
theorem assignEach_plain {env : Env} : ∀ {elts : List Expr}, elts.all (fun e => !isStar e) = true → (assignEach elts env).map (·.2) = elts.map (fun e => assign e env) ∧ (assignEach elts env).findIdx? (·.1) = none ∧ (assignEach elts env).length = elts.length
  | [], _ => ⟨rfl, rfl, rfl⟩
  | e :: r, h => by
    simp only [List.all_cons, Bool.and_eq_true, Bool.not_eq_true'] at h
    obtain ⟨h1, h2, h3⟩ := assignEach_plain (env := env) h.2
    have he : assignEach (e :: r) env = (false, assign e env) :: assignEach r env := by
      have := h.1
      cases e <;> first | rfl | exact nopb this.symm
    refine he ▸ ?_
    refine ⟨by simp [h1], by simp [List.findIdx?_cons, h2], by simp [h3]⟩
theorem tri_aTuple {elts : List Expr} {k : Nat} {pos : Pos} {a : AV} {vals : List AV} (O : W.Ok c) (hs : elts.all (fun e => !isStar e) = true) (hv : tupVals a = some vals) (hl : vals.length = elts.length)
    (h : TriAL W c σ (elts.map fun e => assign e c.env) vals N X) : TriVU W c σ a (assign (.Tuple elts k pos) c.env) N X := by
  intro s ρ m cm ce frz va R ha
  refine ex2 (tup_vals R hv ha) fun t items hq0 => an4 hq0 fun qe2 ht hvs hsz => ?_; try clear hq0; subst qe2
  obtain ⟨h1, h2, h3⟩ := assignEach_plain (env := c.env) hs
  show wpAny W.M c.A (do standAt pos; unpack (.ref t) (assignEach elts c.env)) _ _ s
  refine wpAny_bind (wpAny_standAt (unpack_tuple O.hand ht (by exact h3 ▸ hsz ▸ hl.symm ▸ rfl) h2 fun h' he => ?_))
  refine h1 ▸ ?_
  exact h _ _ _ _ _ _ _ (R.extBut (t := s.toks) he) hvs
theorem tri_binds {W : Wd} {c : FC} {X : Str → St → Prop} {N : St → Prop} (O : W.Ok c) : ∀ {ns : List Str} {as : List AV} {σ : St} (f : List Str → List AV → St → Option St) (hf0 : ∀ σ, f [] [] σ = some σ) (hf : ∀ n ns a as σ, f (n :: ns) (a :: as) σ = (stV c.cs n a σ).bind (f ns as)) (hfn : ∀ n ns σ, f (n :: ns) [] σ = none) (hfm : ∀ a as σ, f [] (a :: as) σ = none) {σ' : St},
    f ns as σ = some σ' → N σ' → TriAL W c σ (ns.map fun n => bindName c.env n) as N X
  | [], [], σ, f, h0, h1, h2, h3, σ', e, h => by rw [h0] at e; cases e; exact triAL_nil h
  | n :: ns, a :: as, σ, f, h0, h1, h2, h3, σ', e, h => by
    rw [h1] at e
    obtain ⟨σ₁, e1, e2⟩ := Option.bind_eq_some_iff.mp e
    exact triAL_cons (N₁ := fun σ₂ => σ₂ = σ₁) (fun s ρ m cm ce frz va R hv => bindName_ (tri_store O e1 rfl R hv)) (fun σ₂ q => by subst q; exact tri_binds O f h0 h1 h2 h3 e2 h)
  | n :: ns, [], σ, f, h0, h1, h2, h3, σ', e, h => by rw [h2] at e; exact nope e
  | [], a :: as, σ, f, h0, h1, h2, h3, σ', e, h => by rw [h3] at e; exact nope e
noncomputable def stL (sc : Scope) : List Str → List AV → St → Option St
  | [], [], σ => some σ
  | n :: ns, a :: as, σ => (stV sc n a σ).bind (stL sc ns as)
  | _, _, _ => none
theorem ValL.rev {Zp : Addr → Obj → Prop} {ρ : Nat → Option Addr} {as : List AV} {vs : List Value} (h : ValL Zp ρ as vs) : ValL Zp ρ as.reverse vs.reverse := by
  induction as generalizing vs with
  | nil => cases vs with
    | nil => trivial
    | cons => exact h.elim
  | cons a as ih => cases vs with
    | nil => exact h.elim
    | cons v vs =>
      refine List.reverse_cons ▸ List.reverse_cons.symm ▸ ?_
      exact ValL.append (ih h.2) ⟨h.1, trivial⟩
theorem tri_AssignTT {ts vs : List Expr} {k k' : Nat} {p p' pos : Pos} {r : Option (List Str)} {P₁ : AV → St → Prop} (O : W.Ok c) (hs : ts.all (fun e => !isStar e) = true) (hr : swp c.cs ts vs = some r) (h₁ : TriE W c σ (eval (.Tuple vs k' p') c.env) P₁ X)
    (h₂ : ∀ a σ₁, P₁ a σ₁ → ∃ vals, tupVals a = some vals ∧ match r with
      | none => vals.length = ts.length ∧ TriAL W c σ₁ (ts.map fun e => assign e c.env) vals N X
      | some ns => vals.length = ns.length ∧ ∃ σ', stL c.cs ns.reverse vals.reverse σ₁ = some σ' ∧ N σ') : TriS W c σ (exec (.Assign [.Tuple ts k p] (.Tuple vs k' p') pos) c.env) N Rt X := by
  intro s ρ m cm ce frz R
  have hw := stores_swp (k := k) (k' := k') (p := p) (p' := p') (env := c.env) O.kind hr
  cases r with
  | none =>
    refine Assign_Tuple (wpAny_mono (h₁ s ρ m cm ce frz R) (fun v s₁ zz => Qv.el zz fun ρ' m' cm' ce' frz' av σ' e R' hv q => ?_) fun _ _ z => z) (swaps_no rfl) hw
    refine Exists.elim (h₂ av σ' q) fun vals hq0 => an3 hq0 fun e1 e2 e3 => ?_; try clear hq0
    exact wpAny_mono (tri_aTuple (k := k) (pos := p) O hs e1 e2 e3 s₁ ρ' m' cm' ce' frz' v R' hv) (fun _ _ z => z.ext e) fun _ _ z => z.ext e
  | some ns =>
    refine Assign_Tuple_swapped (wpAny_mono (h₁ s ρ m cm ce frz R) (fun v s₁ zz => Qv.el zz fun ρ' m' cm' ce' frz' av σ' e R' hv q => ?_) fun _ _ z => z) (swaps_no rfl) hw
    refine cps fun GG kG => ?_; obtain ⟨vals, e1, e2, σ₂, e3, e4⟩ := h₂ av σ' q; refine kG ?_
    refine ex2 (tup_vals R' e1 hv) fun t items hq0 => an4 hq0 fun qe2 ht hvs hsz => ?_; try clear hq0; subst qe2
    have hn : ns.length = items.size := by exact hsz ▸ e2.symm ▸ rfl
    refine hn ▸ ?_
    refine unpackItems_tuple O.hand ht fun h' he => ?_
    have T := tri_binds (W := W) (c := c) (X := X) (N := N) O (ns := ns.reverse) (as := vals.reverse) (stL c.cs) (fun _ => rfl) (fun _ _ _ _ _ => rfl) (fun _ _ _ => rfl) (fun _ _ _ => rfl) e3 e4
    exact wpAny_mono (T _ _ _ _ _ _ _ (R'.extBut (t := s₁.toks) he) hvs.rev) (fun _ _ z => z.ext e) fun _ _ z => z.ext e
end
noncomputable abbrev FC.wex (c : FC) (l : List (Addr × Obj)) : FC := { c with ex := l }
noncomputable def irange (lo hi : Int) : List Int := (List.range (hi - lo).toNat).map fun (i : Nat) => lo + i
theorem irange_length (lo hi : Int) : (irange lo hi).length = (hi - lo).toNat := by simp [irange]
theorem irange_getD {lo hi : Int} {i : Nat} (h : i < (irange lo hi).length) : (irange lo hi).getD i 0 = lo + i := by
  have h' := h
  rw [irange_length] at h
  simp [irange, List.getD, h]
noncomputable def itV : AV → Option (List Int)
  | .lst xs => some xs
  | .rng lo hi => if (-(2 ^ 60) ≤ lo ∧ lo ≤ 2 ^ 60) ∧ -(2 ^ 60) ≤ hi ∧ hi ≤ 2 ^ 60 then some (irange lo hi) else none
  | _ => none
section
variable {W : Wd} {c : FC} {σ : St} {P : AV → St → Prop} {X : Str → St → Prop} {N : St → Prop} {Rt : AV → St → Prop} {s : Shared} {ρ : Nat → Option Addr} {m : Str → Option Value} {cm ce frz : List (Addr × Obj)}
theorem Rel.wex {l l' : List (Addr × Obj)} (R : Rel W (c.wex l) s σ ρ m cm ce frz) (h : ∀ q ∈ l', q ∈ l) : Rel W (c.wex l') s σ ρ m cm ce frz :=
  ⟨R.F, R.N, R.nd, R.ou, fun q hq => R.ex q (h q hq), R.cv, R.H, R.V, R.C, R.Fv, R.rn, R.gens, R.os⟩
theorem Rel.keepL (R : Rel W c s σ ρ m cm ce frz) {h' : Heap} {wr : List Addr} (hL : c.L ∉ wr) (h0 : ∀ b ∈ wr, c.h₀.get? b = none) (hs : ∀ b o, b ∉ wr → s.heap.get? b = some o → h'.get? b = some o) : Fr c.h₀ c.L h' m := by
  refine ex3 R.F.ns fun oL es ep hq0 => an2 hq0 fun hh r => ?_; try clear hq0
  exact ⟨ex3i oL es ep ⟨hs _ _ hL hh, r⟩, fun b o e => hs b o (fun hb => by rw [h0 b hb] at e; exact nope e) (R.F.keep b o e), R.F.above⟩
theorem Rel.swap {I : Addr} {ob ob' : Obj} {l : List (Addr × Obj)} (R : Rel W (c.wex ((I, ob) :: l)) s σ ρ m cm ce frz) (hc : ∀ x a, c.cl.lookup x = some a → a ≠ I) (hf : I ∉ c.frames) (he : I ∉ l.map (·.1)) {h' : Heap} {t : Nat}
    (hs : ∀ b o, b ∉ [I] → s.heap.get? b = some o → h'.get? b = some o) (ho : h'.get? I = some ob') : ∃ ce', Rel W (c.wex ((I, ob') :: l)) { s with heap := h', toks := t } σ ρ m cm ce' frz := by
  have hm : (I, ob) ∈ ce := R.ex _ (.head _)
  obtain ⟨p, q, rfl⟩ := List.append_of_mem hm
  have hI := R.N (I, ob) (by simp)
  have nd := R.nd
  have e1 : cm ++ ((p ++ (I, ob) :: q) ++ frz) = (cm ++ p) ++ (I, ob) :: (q ++ frz) := by simp
  have e2 : cm ++ ((p ++ (I, ob') :: q) ++ frz) = (cm ++ p) ++ (I, ob') :: (q ++ frz) := by simp
  have ne : ∀ z, z ∈ cm ++ p ∨ z ∈ q ++ frz → z.1 ≠ I := by
    intro z hz hzI
    rw [e1, List.map_append, List.map_cons, List.nodup_append, List.nodup_cons] at nd
    rcases hz with hz | hz
    · exact nd.2.2 z.1 (List.mem_map.mpr ⟨z, hz, rfl⟩) I (List.mem_cons_self ..) hzI
    · exact nd.2.1.1 (List.mem_map.mpr ⟨z, hz, hzI⟩)
  have Nm : ∀ z, z ∈ cm ++ p ∨ z ∈ q ++ frz → h'.get? z.1 = some z.2 ∧ z.1 ≠ c.L ∧ c.h₀.get? z.1 = none := by
    intro z hz
    have z' := R.N z (by refine e1 ▸ ?_; rcases hz with hz | hz; exact List.mem_append_left _ hz; exact List.mem_append_right _ (.tail _ hz))
    exact ⟨hs _ _ (by simpa using ne z hz) z'.1, z'.2⟩
  refine ⟨p ++ (I, ob') :: q, ?_, ?_, ?_, ?_, ?_, ?_, R.H, R.V, ?_, R.Fv, R.rn, R.gens, R.os⟩
  · exact R.keepL (wr := [I]) (by simpa using fun e => hI.2.1 e.symm) (by simpa using hI.2.2) hs
  · intro z hz
    rw [e2] at hz
    rcases List.mem_append.mp hz with hz | hz
    · exact Nm z (.inl hz)
    · rcases List.mem_cons.mp hz with rfl | hz
      · exact ⟨ho, hI.2⟩
      · exact Nm z (.inr hz)
  · refine e2 ▸ ?_; rw [e1] at nd; simpa using nd
  · intro b hb o hbo
    obtain ⟨sl, hsl⟩ := R.ou b hb o hbo
    refine ⟨sl, ?_⟩
    rcases List.mem_append.mp hsl with hsl | hsl
    · exact List.mem_append_left _ hsl
    · rcases List.mem_cons.mp hsl with e | hsl
      · exact absurd ((Prod.mk.inj e).1 ▸ hb) hf
      · exact List.mem_append_right _ (.tail _ hsl)
  · intro z hz
    rcases List.mem_cons.mp hz with rfl | hz
    · simp
    · have := R.ex z (.tail _ hz)
      rcases List.mem_append.mp this with h | h
      · exact List.mem_append_left _ h
      · rcases List.mem_cons.mp h with e | h
        · exact absurd (List.mem_map.mpr ⟨z, hz, by exact e ▸ rfl⟩) he
        · exact List.mem_append_right _ (.tail _ h)
  · intro x a hx
    have := R.cv x a hx
    simpa using this
  · intro x ov hx
    refine ex2 (R.C x ov hx) fun b o hq0 => an4 hq0 fun h1 h2 h3 h4 => ?_; try clear hq0
    refine ex2i b o ⟨h1, ?_, h3, h4⟩
    rcases List.mem_append.mp h2 with h2 | h2
    · exact List.mem_append_left _ h2
    · rcases List.mem_cons.mp h2 with e | h2
      · exact absurd (Prod.mk.inj e).1 (hc x b h1)
      · exact List.mem_append_right _ (.tail _ h2)
theorem Rel.watch (O : W.Ok c) (R : Rel W c s σ ρ m cm ce frz) {ob : Obj} {t : Nat} (hfree : ob.isFreed = false) : Rel W (c.wex ((s.heap.objs.size, ob) :: c.ex)) { s with heap := s.heap.push ob, toks := t } σ ρ m cm ((s.heap.objs.size, ob) :: ce) frz ∧
    (∀ x a, c.cl.lookup x = some a → a ≠ s.heap.objs.size) ∧ s.heap.objs.size ∉ c.frames ∧ s.heap.objs.size ∉ c.ex.map (·.1) := by
  have lt := R.lt
  have ltE : ∀ q ∈ ce, q.1 ≠ s.heap.objs.size := fun q hq => Nat.ne_of_lt (lt q (List.mem_append_right _ (List.mem_append_left _ hq)))
  have N' := News.push R.F R.N ob hfree
  have pm : (cm ++ ((s.heap.objs.size, ob) :: ce ++ frz)).Perm ((s.heap.objs.size, ob) :: (cm ++ (ce ++ frz))) := List.perm_middle
  refine ⟨⟨R.F.push ob, fun q hq => N' q (pm.mem_iff.mp hq), ?_, ?_, ?_, ?_, R.H, R.V, ?_, R.Fv, R.rn, R.gens, R.os⟩, ?_, ?_, ?_⟩
  · rw [(pm.map (·.1)).nodup_iff, List.map_cons, List.nodup_cons]
    refine ⟨fun hm => ?_, R.nd⟩
    obtain ⟨q, hq, e⟩ := List.mem_map.mp hm
    exact absurd (lt q hq) (by refine e ▸ ?_; exact Nat.lt_irrefl _)
  · intro b hb o hbo
    obtain ⟨sl, hsl⟩ := R.ou b hb o hbo
    exact ⟨sl, .tail _ hsl⟩
  · intro z hz
    rcases List.mem_cons.mp hz with rfl | hz
    · exact .head _
    · exact .tail _ (R.ex z hz)
  · intro x a hx
    exact (R.cv x a hx).imp (fun h => by refine List.map_cons ▸ ?_; exact .tail _ h) id
  · intro x ov hx
    refine ex2 (R.C x ov hx) fun b o hq0 => an4 hq0 fun h1 h2 h3 h4 => ?_; try clear hq0
    exact ex2i b o ⟨h1, .tail _ h2, h3, h4⟩
  · intro x a hx
    rcases R.cv x a hx with h | h
    · obtain ⟨q, hq, rfl⟩ := List.mem_map.mp h; exact ltE q hq
    · obtain ⟨o, ho⟩ := Option.isSome_iff_exists.mp h
      exact Nat.ne_of_lt (Heap.lt_size (R.F.keep _ _ ho))
  · intro hb
    obtain ⟨_, o, ho, _⟩ := O.FF.mem hb
    obtain ⟨sl, hsl⟩ := R.ou _ hb o ho
    exact ltE _ hsl rfl
  · intro hb
    obtain ⟨q, hq, e⟩ := List.mem_map.mp hb
    exact ltE q (R.ex q hq) e
end
noncomputable abbrev noX : Str → St → Prop := fun _ _ => False
section
variable {W : Wd} {c : FC} {σ : St} {P : AV → St → Prop} {X : Str → St → Prop} {N : St → Prop} {Rt : AV → St → Prop} {s : Shared} {ρ : Nat → Option Addr} {m : Str → Option Value} {cm ce frz : List (Addr × Obj)}
theorem Qx.no {v : Value} {s' : Shared} (h : Qx W c ρ frz noX v s') : False := by
  refine ex8 h fun _ _ _ _ _ _ _ _ hq0 => an5 hq0 fun _ _ _ _ h => ?_; try clear hq0; exact h
theorem tri_While {test : Expr} {body : List Stmt} {pos : Pos} (I : Nat → St → Prop) (B : Nat → Bool → St → Prop) {n₀ : Nat} (h0 : I n₀ σ) (turn : ∀ n σ₁, I n σ₁ → TriB W c σ₁ (isTrue test c.env (eval test c.env)) (B n) noX)
    (hb : ∀ n σ₂, B n true σ₂ → TriS W c σ₂ (execs body c.env) (fun σ₃ => ∃ k, k < n ∧ I k σ₃) Rt noX) (he : ∀ n σ₂, B n false σ₂ → N σ₂) : TriS W c σ (exec (.While test body [] pos) c.env) N Rt X := by
  intro s ρ m cm ce frz R
  refine wpAny_While (codeAny_whileLoop (fun n s' => ∃ ρ' m' cm' ce' frz' σ', Ext ρ ρ' frz frz' ∧ Rel W c s' σ' ρ' m' cm' ce' frz' ∧ I n σ') ?_ n₀ (Qu.mk ρ m cm ce frz σ .refl R h0))
  intro n s₁ hz0
  refine ex6 hz0 fun ρ₁ m₁ cm₁ ce₁ frz₁ σ₁ hz0 => an3 hz0 fun e₁ R₁ hI => ?_
  clear hz0
  refine wpAny_mono (turn n σ₁ hI s₁ ρ₁ m₁ cm₁ ce₁ frz₁ R₁) (fun b s₂ zz => Qu.el zz fun ρ₂ m₂ cm₂ ce₂ frz₂ σ₂ e₂ R₂ hB => ?_) fun _ _ z => z.no.elim
  cases b with
  | false =>
    rw [if_neg (by decide)]
    exact wpAny_execs_nil (Qu.mk ρ₂ m₂ cm₂ ce₂ frz₂ σ₂ (e₁.trans e₂) R₂ (he n σ₂ hB))
  | true =>
    refine if_pos rfl ▸ ?_
    refine wpAny_mono (hb n σ₂ hB s₂ ρ₂ m₂ cm₂ ce₂ frz₂ R₂) (fun f s₃ z => ?_) fun _ _ z => z.no.elim
    cases f with
    | next =>
      refine cps fun GG kG => ?_; obtain ⟨ρ₃, m₃, cm₃, ce₃, frz₃, σ₃, e₃, R₃, k, hk, hI'⟩ := z; refine kG ?_
      exact ⟨k, hk, (ex6i ρ₃ m₃ cm₃ ce₃ frz₃ σ₃ ⟨(e₁.trans e₂).trans e₃, R₃, hI'⟩)⟩
    | ret v => exact Qv.ext (e₁.trans e₂) z
    | brk => exact z.elim
    | cont => exact z.elim
noncomputable def ForT (W : Wd) (c : FC) (target : Expr) (body : List Stmt) (N : St → Prop) (Rt : AV → St → Prop) : List Int → St → Prop
  | [], σ => N σ
  | k :: r, σ => ∀ l, W.Ok (c.wex l) → TriVU W (c.wex l) σ (.int k) (assign target c.env) (fun σ₁ => TriS W (c.wex l) σ₁ (execs body c.env) (fun σ₂ => ForT W c target body N Rt r σ₂) Rt noX) noX
theorem FC.Ok.wex {K : Frag} {p : Program} {loose : List Str} {mean : ExcName → Option Value} {mg mb : Str → Option Value} (O : c.Ok K p loose mean mg mb) {I : Addr} {ob : Obj} (hc : ∀ x a, c.cl.lookup x = some a → a ≠ I) (hf : I ∉ c.frames) :
    (c.wex ((I, ob) :: c.ex)).Ok K p loose mean mg mb := by
  refine ⟨O.stack, O.kind, O.eL, O.eF, O.eG, O.eB, O.X, O.T, O.stays, O.new, O.FF, O.hid, O.lf, O.cnd, O.cfr, fun x a hx => ?_, fun b hb => ?_, O.hand, O.dep, O.uni⟩
  · rw [List.map_cons, List.mem_cons, not_or]; exact ⟨hc x a hx, O.cex x a hx⟩
  · rw [List.map_cons, List.mem_cons, not_or]; exact ⟨fun e => hf (by refine (show b = I from e) ▸ ?_; exact hb), O.exf b hb⟩
theorem Qv.wex {l : List (Addr × Obj)} {v : Value} {s' : Shared} (hl : ∀ q ∈ c.ex, q ∈ l) (h : Qv W (c.wex l) ρ frz P v s') : Qv W c ρ frz P v s' :=
  Qv.el h fun ρ' m' cm' ce' frz' av σ' e R => Qv.mk ρ' m' cm' ce' frz' av σ' e (Rel.wex (l' := c.ex) R hl)
theorem Rel.unwatch {I : Addr} {ob : Obj} {l : List (Addr × Obj)} (R : Rel W (c.wex ((I, ob) :: l)) s σ ρ m cm ce frz) (hc : ∀ x a, c.cl.lookup x = some a → a ≠ I) (hf : I ∉ c.frames) (he : I ∉ l.map (·.1)) {h' : Heap} {t : Nat}
    (hs : ∀ b o, b ∉ [I] → s.heap.get? b = some o → h'.get? b = some o) : ∃ ce', Rel W (c.wex l) { s with heap := h', toks := t } σ ρ m cm ce' frz := by
  have hm : (I, ob) ∈ ce := R.ex _ (.head _)
  obtain ⟨p, q, rfl⟩ := List.append_of_mem hm
  have hI := R.N (I, ob) (by simp)
  have nd := R.nd
  have e1 : cm ++ ((p ++ (I, ob) :: q) ++ frz) = (cm ++ p) ++ (I, ob) :: (q ++ frz) := by simp
  have e2 : cm ++ ((p ++ q) ++ frz) = (cm ++ p) ++ (q ++ frz) := by simp
  have ne : ∀ z, z ∈ cm ++ p ∨ z ∈ q ++ frz → z.1 ≠ I := by
    intro z hz hzI
    rw [e1, List.map_append, List.map_cons, List.nodup_append, List.nodup_cons] at nd
    rcases hz with hz | hz
    · exact nd.2.2 z.1 (List.mem_map.mpr ⟨z, hz, rfl⟩) I (List.mem_cons_self ..) hzI
    · exact nd.2.1.1 (List.mem_map.mpr ⟨z, hz, hzI⟩)
  have drop : ∀ z : Addr × Obj, z ∈ p ++ (I, ob) :: q → z.1 ≠ I → z ∈ p ++ q := by
    intro z hz hzI
    rcases List.mem_append.mp hz with h | h
    · exact List.mem_append_left _ h
    · rcases List.mem_cons.mp h with e | h
      · exact absurd (by exact e ▸ rfl) hzI
      · exact List.mem_append_right _ h
  refine ⟨p ++ q, ?_, ?_, ?_, ?_, ?_, ?_, R.H, R.V, ?_, R.Fv, R.rn, R.gens, R.os⟩
  · exact R.keepL (wr := [I]) (by simpa using fun e => hI.2.1 e.symm) (by simpa using hI.2.2) hs
  · intro z hz
    rw [e2] at hz
    have hz' := List.mem_append.mp hz
    have z' := R.N z (by refine e1 ▸ ?_; rcases hz' with hz | hz; exact List.mem_append_left _ hz; exact List.mem_append_right _ (.tail _ hz))
    exact ⟨hs _ _ (by simpa using ne z hz') z'.1, z'.2⟩
  · rw [e1, List.map_append, List.map_cons] at nd
    refine e2 ▸ List.map_append ▸ ?_
    rw [List.nodup_append] at nd ⊢
    rw [List.nodup_cons] at nd
    exact ⟨nd.1, nd.2.1.2, fun a ha b hb => nd.2.2 a ha b (.tail _ hb)⟩
  · intro b hb o hbo
    obtain ⟨sl, hsl⟩ := R.ou b hb o hbo
    exact ⟨sl, drop _ hsl fun e => hf (by refine (show b = I from e) ▸ ?_; exact hb)⟩
  · intro z hz
    exact drop _ (R.ex z (.tail _ hz)) fun e => he (List.mem_map.mpr ⟨z, hz, e⟩)
  · intro x a hx
    refine (R.cv x a hx).imp (fun h => ?_) id
    obtain ⟨z, hz, rfl⟩ := List.mem_map.mp h
    exact List.mem_map.mpr ⟨z, drop _ hz (hc x _ hx), rfl⟩
  · intro x ov hx
    refine ex2 (R.C x ov hx) fun b o hq0 => an4 hq0 fun h1 h2 h3 h4 => ?_; try clear hq0
    exact ex2i b o ⟨h1, drop _ h2 (hc x b h1), h3, h4⟩
theorem for_loop {target : Expr} {body : List Stmt} {I : Addr} {fp : List Addr} {xs : List Int} {St : Nat → Heap → Prop} (O : W.Ok c) (ht : ∀ it v, letOwnedTupleGo target it v = pure ())
    (Wk : Walks W.prog W.w c.A I fp [I] xs.length (fun i v => ∃ t, v = .int (xs.getD i 0) t) St) (live : ∀ i h, St i h → ∃ o, h.get? I = some o) {frz₀ : List (Addr × Obj)} {ρ₀ : Nat → Option Addr}
    (hfp : ∀ b ∈ fp, b ≠ I → ∃ o, Z c.h₀ frz b o) (hc : ∀ x a, c.cl.lookup x = some a → a ≠ I) (hf : I ∉ c.frames) (he : I ∉ c.ex.map (·.1)) {ob : Obj} (h : ForT W c target body N Rt xs σ)
    (R : Rel W (c.wex ((I, ob) :: c.ex)) s σ ρ m cm ce frz) (e₀ : Ext ρ₀ ρ frz₀ frz) (hst : St 0 s.heap) :
    codeAny W.M c.A (.forLoop target (.ref I) body [] c.env) (fun r s' => match r with | .ok f => Qf W c ρ₀ frz₀ N Rt f s' | .error e => cameBackBy W.M c.A c.env (Qx W c ρ₀ frz₀ X) e s') s := by
  refine codeAny_forLoop (fun n s' => ∃ i ob ρ' m' cm' ce' frz' σ', Ext ρ ρ' frz frz' ∧ Rel W (c.wex ((I, ob) :: c.ex)) s' σ' ρ' m' cm' ce' frz' ∧ St i s'.heap ∧ i ≤ xs.length ∧ n = xs.length - i ∧ ForT W c target body N Rt (xs.drop i) σ')
    ?_ xs.length (ex8i 0 ob ρ m cm ce frz σ ⟨.refl, R, hst, Nat.zero_le _, rfl, h⟩) (ht _)
  intro n s₁ hz0
  refine ex8 hz0 fun i ob₁ ρ₁ m₁ cm₁ ce₁ frz₁ σ₁ hz0 => an6 hz0 fun e₁ R₁ st₁ hi hn0 hT => ?_
  clear hz0; subst hn0
  by_cases hlt : i < xs.length
  · refine Wk.item i s₁ _ _ hlt st₁ fun v h' tk hv st' hs => ?_
    obtain ⟨t, rfl⟩ := hv
    obtain ⟨ob₂, ho₂⟩ := live _ _ st'
    obtain ⟨ce₂, R₂⟩ := R₁.swap (t := tk) hc hf he hs ho₂
    have hd : xs.drop i = xs.getD i 0 :: xs.drop (i + 1) := by
      refine List.drop_eq_getElem_cons hlt ▸ ?_; simp [List.getD, hlt]
    rw [hd] at hT
    have O' := FC.Ok.wex (ob := ob₂) O hc hf
    refine wpAny_mono (hT ((I, ob₂) :: c.ex) O' _ ρ₁ m₁ cm₁ ce₂ frz₁ _ R₂ vI) (fun _ s₃ zz => Qu.el zz fun ρ₃ m₃ cm₃ ce₃ frz₃ σ₃ e₃ R₃ q₃ => ?_) fun _ _ z => (Qx.no z).elim
    have st₃ : St (i + 1) s₃.heap := Wk.frame _ _ _ st' fun b hb o ho => by
      by_cases hbI : b = I
      · subst hbI
        have h1 := (R₃.N _ (List.mem_append_right _ (List.mem_append_left _ (R₃.ex (b, ob₂) (.head _))))).1
        rw [ho₂] at ho; cases ho; exact h1
      · obtain ⟨o', ho'⟩ := hfp b hb hbI
        have z1 := Z.get R₂ (ho'.imp id (e₁.z _))
        have z2 := Z.get R₃ (ho'.imp id fun z => e₃.z _ (e₁.z _ z))
        dsimp only at z1
        rw [z1] at ho; cases ho; exact z2
    refine wpAny_mono (q₃ s₃ ρ₃ m₃ cm₃ ce₃ frz₃ R₃) (fun f s₄ z => ?_) fun _ _ z => (Qx.no z).elim
    cases f with
    | next =>
      refine Qu.el z fun ρ₄ m₄ cm₄ ce₄ frz₄ σ₄ e₄ R₄ q₄ => ?_
      refine ⟨xs.length - (i + 1), Nat.sub_lt_sub_left ‹i < xs.length› (Nat.lt_succ_self i), (ex8i (i + 1) ob₂ ρ₄ m₄ cm₄ ce₄ frz₄ σ₄ ⟨(e₁.trans e₃).trans e₄, R₄, ?_, hlt, rfl, q₄⟩)⟩
      exact Wk.frame _ _ _ st₃ fun b hb o ho => by
        by_cases hbI : b = I
        · subst hbI
          have h1 := (R₃.N _ (List.mem_append_right _ (List.mem_append_left _ (R₃.ex (b, ob₂) (.head _))))).1
          have h2 := (R₄.N _ (List.mem_append_right _ (List.mem_append_left _ (R₄.ex (b, ob₂) (.head _))))).1
          rw [h1] at ho; cases ho; exact h2
        · obtain ⟨o', ho'⟩ := hfp b hb hbI
          have z1 := Z.get R₃ (ho'.imp id fun z => e₃.z _ (e₁.z _ z))
          have z2 := Z.get R₄ (ho'.imp id fun z => e₄.z _ (e₃.z _ (e₁.z _ z)))
          rw [z1] at ho; cases ho; exact z2
    | ret v => exact Qv.ext ((e₀.trans e₁).trans e₃) (Qv.wex (fun q hq => .tail _ hq) z)
    | brk => exact z.elim
    | cont => exact z.elim
  · have hi' : i = xs.length := by lia -abstractProof
    subst hi'
    refine Wk.done s₁ _ _ st₁ fun h' tk hs => ?_
    rw [List.drop_length] at hT
    refine wpAny_execs_nil ?_
    obtain ⟨ce₂, R₂⟩ := R₁.unwatch (t := tk) hc hf he hs
    exact (Qu.mk ρ₁ m₁ cm₁ ce₂ frz₁ σ₁ (e₀.trans e₁) R₂ hT)
noncomputable def isSet : Expr → Bool
  | .Set .. => true
  | _ => false
theorem folded_no {e : Expr} {env : Env} (h : isSet e = false) (x : Value) : foldedSetIterable e env x = pure x := by
  unfold foldedSetIterable
  cases e <;> first | rfl | exact nopb h.symm
noncomputable def nameOnly : Expr → Bool
  | .Name .. => true
  | _ => false
theorem letOwned_no {t : Expr} (h : nameOnly t = true) (it v : Value) : letOwnedTupleGo t it v = pure () := by
  cases t <;> first | rfl | exact nopb h
theorem small_of {lo hi : Int} (h : (-(2 ^ 60) ≤ lo ∧ lo ≤ 2 ^ 60) ∧ -(2 ^ 60) ≤ hi ∧ hi ≤ 2 ^ 60) : Builtin.Range.small lo hi 1 = true ∧ Builtin.Range.rangeSize lo hi 1 = ((hi - lo).toNat : Int) := by
  have e : Builtin.Range.rangeSize lo hi 1 = ((hi - lo).toNat : Int) := by
    unfold Builtin.Range.rangeSize
    rw [if_pos (by decide)]
    split
    · rename_i h; refine (Int.ediv_one ..) ▸ (Int.toNat_of_nonneg (Int.sub_nonneg_of_le (Int.le_of_lt h))).symm ▸ ?_; simp [Int.sub_add_cancel]
    · rename_i h; refine Int.toNat_of_nonpos (Int.sub_nonpos_of_le (Int.not_lt.mp h)) ▸ ?_; rfl
  refine ⟨?_, e⟩
  have d : hi - lo ≤ 2 ^ 61 := Int.le_trans (Int.sub_le_sub h.2.2 h.1.1) (by decide)
  have m1 : ((hi - lo).toNat : Int) ≤ 2 ^ 61 := by rcases Int.le_total 0 (hi - lo) with k | k
                                                   · refine (Int.toNat_of_nonneg k).symm ▸ ?_; exact d
                                                   · refine Int.toNat_of_nonpos k ▸ ?_; decide
  have m0 : (0 : Int) ≤ ((hi - lo).toNat : Int) := Int.natCast_nonneg _
  unfold Builtin.Range.small
  refine e ▸ ?_
  generalize ((hi - lo).toNat : Int) = m at m0 m1
  have f : ∀ x : Int, -(2 ^ 60) ≤ x → x ≤ 2 ^ 61 → Builtin.Range.rangeFitsLong x = true := fun x h1 h2 => by
    unfold Builtin.Range.rangeFitsLong
    rw [decide_eq_true (Int.le_trans (by decide) h1), decide_eq_true (Int.lt_of_le_of_lt h2 (by decide))]; rfl
  rw [f _ h.1.1 (Int.le_trans h.1.2 (by decide)), f _ h.2.1 (Int.le_trans h.2.2 (by decide)), f _ (Int.le_trans (by decide) m0) m1, if_pos (by decide), Int.sub_self, Int.add_zero, f _ h.2.1 (Int.le_trans h.2.2 (by decide)), f 1 (by decide) (by decide), Bool.or_true]; rfl
theorem tri_For {target iter : Expr} {body : List Stmt} {pos : Pos} {P₁ : AV → St → Prop} (O : W.Ok c) (hs : isSet iter = false) (ht : nameOnly target = true) (h₁ : TriE W c σ (eval iter c.env) P₁ X)
    (h₂ : ∀ a σ₁, P₁ a σ₁ → ∃ xs, itV a = some xs ∧ ForT W c target body N Rt xs σ₁) : TriS W c σ (exec (.For target iter body [] pos) c.env) N Rt X := by
  intro s ρ m cm ce frz R
  refine wpAny_For (wpAny_mono (h₁ s ρ m cm ce frz R) (fun va s₁ zz => Qv.el zz fun ρ₁ m₁ cm₁ ce₁ frz₁ av σ₁ e₁ R₁ hv q => ?_) fun _ _ z => z) (folded_no hs)
  obtain ⟨xs, hxs, hT⟩ := h₂ av σ₁ q
  unfold itV at hxs
  split at hxs
  · cases hxs
    refine ex3 hv fun l its n hq0 => an3 hq0 fun qe3 zl hi => ?_; try clear hq0; try clear hv; subst qe3
    have hl := Z.get R₁ zl
    have hL : s₁.heap.IsList l its := ⟨_, hl, rfl, n, rfl⟩
    refine wpAny_pyIter_list hL ?_
    refine an4 (R₁.watch (t := s₁.toks) (ob := { cls := .type "list_iterator", data := .fields #[.ref l, .int 0 0] }) O rfl) fun R₂ hc hf he => ?_
    have hne : l ≠ s₁.heap.objs.size := Nat.ne_of_lt (Heap.lt_size hl)
    have Wk := Walks.list (prog := W.prog) (w := W.w) (A := c.A) O.hand s₁.heap.objs.size l hne its
    have hlen : its.size = xs.length := by have := hi.length; rwa [Array.length_toList] at this
    refine for_loop (xs := xs) (fp := [s₁.heap.objs.size, l]) (St := fun i h => h.IsListIter s₁.heap.objs.size l i ∧ h.IsList l its) O (letOwned_no ht) ?_ (fun i h st => let ⟨o, ho, _⟩ := st.1; ⟨o, ho⟩) (frz₀ := frz) (ρ₀ := ρ) ?_ hc hf he hT R₂ e₁
      ⟨⟨_, Heap.get?_push_size _ rfl, rfl, rfl⟩, hL.push _⟩
    · refine hlen ▸ ?_
      refine ⟨Wk.sub, Wk.frame, fun i s Q E hi' st hQ => Wk.item i s Q E hi' st fun v h' tk hv => hQ v h' tk ?_, Wk.done, Wk.self⟩
      obtain ⟨t, ht'⟩ := intsAre_get hi (k := i) (by lia -abstractProof)
      refine ⟨t, ?_⟩
      rw [← Array.getElem?_toList, ht'] at hv
      exact (Option.some.inj hv).symm
    · intro b hb hbI
      have : b = l := by simpa [hbI] using hb
      subst this
      exact ⟨_, zl⟩
  · split at hxs
    · rename_i lo hi hb
      cases hxs
      refine ex4 hv fun a t₁ t₂ t₃ hq0 => an2 hq0 fun qe4 zl => ?_; try clear hq0; try clear hv; subst qe4
      obtain ⟨h1, h2⟩ := small_of hb
      refine wpAny_pyIter_range (Z.get R₁ zl) h1 ?_
      refine an4 (R₁.watch (t := s₁.toks) (ob := { cls := .type "range_iterator", data := .fields #[rawInt lo, rawInt (Builtin.Range.rangeSize lo hi 1), rawInt 1] }) O rfl) fun R₂ hc hf he => ?_
      have Wk := Walks.range (prog := W.prog) (w := W.w) (A := c.A) O.hand s₁.heap.objs.size lo 1 (irange lo hi).length
      refine for_loop (xs := irange lo hi) (fp := [s₁.heap.objs.size]) (St := fun i h => IsRangeIter h s₁.heap.objs.size (lo + (i : Nat) * 1) (((irange lo hi).length : Int) - (i : Nat)) 1) O (letOwned_no ht) ?_ (fun i h st => ⟨_, st⟩) (frz₀ := frz) (ρ₀ := ρ) ?_ hc hf he hT R₂ e₁ ?_
      · refine ⟨Wk.sub, Wk.frame, fun i s Q E hi' st hQ => Wk.item i s Q E hi' st fun v h' tk hv => hQ v h' tk ?_, Wk.done, Wk.self⟩
        obtain ⟨t, rfl⟩ := hv
        exact ⟨t, by exact irange_getD hi' ▸ (Int.mul_one ..) ▸ rfl⟩
      · intro b hb hbI
        exact absurd (by simpa using hb) hbI
      · show (s₁.heap.push _).get? _ = _
        rw [Heap.get?_push_size _ rfl, h2, irange_length]
        simp
    · exact nope hxs
  · exact nope hxs
end
noncomputable def isCellO (o : Obj) : Bool := match o.data with
  | .cell _ => true
  | _ => false
noncomputable def dropped (h : Heap) (k : Addr → Obj → Prop) (a : Addr) : Bool := @decide (¬ ∃ o, h.get? a = some o ∧ k a o) (Classical.propDecidable _)
theorem dropped_iff {h : Heap} {k : Addr → Obj → Prop} {a : Addr} : dropped h k a = true ↔ ¬ ∃ o, h.get? a = some o ∧ k a o := by
  unfold dropped; exact @decide_eq_true_iff _ (Classical.propDecidable _)
noncomputable def restr (h : Heap) (k : Addr → Obj → Prop) : Heap := hideAll h ((List.range h.objs.size).filter (dropped h k))
theorem restr_get {h : Heap} {k : Addr → Obj → Prop} {a : Addr} {o : Obj} : (restr h k).get? a = some o ↔ h.get? a = some o ∧ k a o := by
  constructor
  · intro e
    have e' := of_hideAll _ e
    refine ⟨e', ?_⟩
    refine Classical.byContradiction fun hk => ?_
    have hm : a ∈ (List.range h.objs.size).filter (dropped h k) := by
      rw [List.mem_filter]
      refine ⟨List.mem_range.mpr (Heap.lt_size e'), dropped_iff.mpr ?_⟩
      rintro ⟨o', h1, h2⟩
      rw [e'] at h1; cases h1; exact hk h2
    exact nomatch e.symm.trans (hideAll_none _ (h := h) hm)
  · rintro ⟨e, hk⟩
    refine hideAll_get _ e ?_
    intro hm
    exact dropped_iff.mp (List.mem_filter.mp hm).2 ⟨o, e, hk⟩
theorem restr_size (h : Heap) (k : Addr → Obj → Prop) : (restr h k).objs.size = h.objs.size := hideAll_size _ _
theorem Val.mono' {Z₁ Z₂ : Addr → Obj → Prop} {ρ₁ ρ₂ : Nat → Option Addr} (hz : ∀ a o, isCellO o = false → Z₁ a o → Z₂ a o) (hr : ∀ n a, ρ₁ n = some a → ρ₂ n = some a) : ∀ {x : AV} {v : Value}, Val Z₁ ρ₁ x v → Val Z₂ ρ₂ x v
  | .int _, _, h => h
  | .bool _, _, h => h
  | .none, _, h => h
  | .str _, _, h => h
  | .con _, _, h => h
  | .lst _, _, h => ex3 h fun a its n h => an3 h fun e z i => ex3i a its n ⟨e, hz _ _ rfl z, i⟩
  | .scr _, _, h => ex4 h fun a o its n h => an4 h fun e z q i => ex4i a o its n ⟨e, hz _ _ (by unfold isCellO; exact q.2 ▸ rfl) z, q, i⟩
  | .rng _ _, _, h => ex4 h fun a t₁ t₂ t₃ h => an2 h fun e z => ex4i a t₁ t₂ t₃ ⟨e, hz _ _ rfl z⟩
  | .tup2 _ _, _, h => ex4 h fun a u w n h => an4 h fun e z i j => ex4i a u w n ⟨e, hz _ _ rfl z, Val.mono' hz hr i, Val.mono' hz hr j⟩
  | .tup3 _ _ _, _, h => ex5 h fun a u w k n h => an5 h fun e z i j l => ex5i a u w k n ⟨e, hz _ _ rfl z, Val.mono' hz hr i, Val.mono' hz hr j, Val.mono' hz hr l⟩
  | .ref _, _, h => h.elim fun a h => an2 h fun e r => ⟨a, e, hr _ _ r⟩
theorem AttrsR.mono' {Z₁ Z₂ : Addr → Obj → Prop} {ρ₁ ρ₂ : Nat → Option Addr} (hz : ∀ a o, isCellO o = false → Z₁ a o → Z₂ a o) (hr : ∀ n a, ρ₁ n = some a → ρ₂ n = some a) {l : List (Str × AV)} {es : List DictEntry} (h : AttrsR Z₁ ρ₁ l es) : AttrsR Z₂ ρ₂ l es := by
  induction h with
  | nil => exact .nil
  | cons v _ ih => exact .cons (Val.mono' hz hr v) ih
theorem RowsR.mono' {Z₁ Z₂ : Addr → Obj → Prop} {ρ₁ ρ₂ : Nat → Option Addr} (hz : ∀ a o, isCellO o = false → Z₁ a o → Z₂ a o) (hr : ∀ n a, ρ₁ n = some a → ρ₂ n = some a) {l : List (Int × AV)} {es : List (Int × Value)} (h : RowsR Z₁ ρ₁ l es) : RowsR Z₂ ρ₂ l es := by
  induction h with
  | nil => exact .nil
  | cons v _ ih => exact .cons (Val.mono' hz hr v) ih
theorem EntR.mono' {W : Wd} {Z₁ Z₂ : Addr → Obj → Prop} {ρ₁ ρ₂ : Nat → Option Addr} (hz : ∀ a o, isCellO o = false → Z₁ a o → Z₂ a o) (hr : ∀ n a, ρ₁ n = some a → ρ₂ n = some a) {n : Nat} {o : AO} {l : List (Addr × Obj)} (h : EntR W Z₁ ρ₁ n o l) : EntR W Z₂ ρ₂ n o l := by
  cases o with
  | inst C attrs => refine ex4 h fun x d es k hq0 => an3 hq0 fun e r a => ?_; try clear hq0; try clear h; exact ex4i x d es k ⟨e, hr _ _ r, a.mono' hz hr⟩
  | arr xs => refine ex3 h fun x its k hq0 => an3 hq0 fun e r a => ?_; try clear hq0; try clear h; exact ex3i x its k ⟨e, hr _ _ r, a⟩
  | dict rows => refine ex3 h fun x o kvs hq0 => an5 hq0 fun e r q a z => ?_; try clear hq0; try clear h; exact ex3i x o kvs ⟨e, hr _ _ r, q, a.mono' hz hr, z⟩
  | tab a q =>
    refine Exists.elim h fun ps hq0 => an3 hq0 fun h1 h2 h3 => ?_; try clear hq0; try clear h
    exact ⟨ps, h1, h2, fun pos cv e => ex4 (h3 pos cv e) fun c' oc vs t h => an4 h fun q1 q2 q3 q4 => ex4i c' oc vs t ⟨q1, hz _ _ (by unfold isCellO; exact q3 ▸ rfl) q2, q3, q4⟩⟩
  | exc attrs =>
    refine ex3 h fun e oe vs hq0 => an5 hq0 fun a1 a2 h1 h2 h3 => ?_; try clear hq0; try clear h
    exact ex3i e oe vs ⟨a1, a2, h1, hr _ _ h2, h3.imp id fun h => ex3 h fun d od mA h => an5 h fun h4 h5 h6 h7 h8 => ex3i d od mA ⟨h4, h5, h6, fun x v hx => (h7 x v hx).imp fun u q => ⟨q.1, q.2.mono' hz hr⟩, h8⟩⟩
theorem HR.mono' {W : Wd} {Z₁ Z₂ : Addr → Obj → Prop} {ρ₁ ρ₂ : Nat → Option Addr} (hz : ∀ a o, isCellO o = false → Z₁ a o → Z₂ a o) (hr : ∀ n a, ρ₁ n = some a → ρ₂ n = some a) {l : List (Nat × AO)} {c : List (Addr × Obj)} (h : HR W Z₁ ρ₁ l c) : HR W Z₂ ρ₂ l c := by
  induction h with
  | nil => exact .nil
  | cons e _ ih => exact .cons (e.mono' hz hr) ih
noncomputable def isC (c : FC) (q : Addr × Obj) : Bool := @decide (∃ x, c.cl.lookup x = some q.1) (Classical.propDecidable _) && isCellO q.2
theorem isC_iff {c : FC} {q : Addr × Obj} : isC c q = true ↔ (∃ x, c.cl.lookup x = some q.1) ∧ isCellO q.2 = true := by
  unfold isC; rw [Bool.and_eq_true, @decide_eq_true_iff _ (Classical.propDecidable _)]
noncomputable def kp (c : FC) (ce frz : List (Addr × Obj)) (a : Addr) (o : Obj) : Prop := c.h₀.get? a = some o ∨ (a, o) ∈ frz ∨ ((a, o) ∈ ce ∧ isC c (a, o) = true)
noncomputable def ceI (c : FC) (oL : Obj) (ce : List (Addr × Obj)) : List (Addr × Obj) := (c.L, oL) :: ce.filter fun q => !isC c q
noncomputable abbrev FC.fr' (c : FC) : List Addr := c.stk.filterMap (·.frame)
noncomputable def exI (c : FC) (oL : Obj) (ce : List (Addr × Obj)) : List (Addr × Obj) := (ceI c oL ce).filter fun q => decide (q.1 ∉ c.fr')
noncomputable def FC.inner (c : FC) (h : Heap) (oL : Obj) (ce frz ex₂ : List (Addr × Obj)) (inn : Bool) (A : Around) (L : Addr) (env : Env) (rm : Nat) : FC :=
  { base := c.base, h₀ := restr h (kp c ce frz), hE := h, outer := c.stk, inn := inn, A := A, L := L, env := env, ex := ex₂ ++ exI c oL ce, gens := c.gens, os := c.os, rm := rm }
section
variable {W : Wd} {c : FC} {σ : St} {s : Shared} {ρ : Nat → Option Addr} {m : Str → Option Value} {cm ce frz : List (Addr × Obj)}
theorem nd_split {a b d : List (Addr × Obj)} (h : ((a ++ (b ++ d)).map (·.1)).Nodup) : (a.map (·.1)).Nodup ∧ (b.map (·.1)).Nodup ∧ (d.map (·.1)).Nodup ∧ (∀ p ∈ a, ∀ q ∈ b, p.1 ≠ q.1) ∧ (∀ p ∈ a, ∀ q ∈ d, p.1 ≠ q.1) ∧ (∀ p ∈ b, ∀ q ∈ d, p.1 ≠ q.1) := by
  simp only [List.map_append, List.nodup_append] at h
  refine cps fun GG kG => ?_; obtain ⟨h1, ⟨h2, h3, h4⟩, h5⟩ := h; refine kG ?_
  refine ⟨h1, h2, h3, fun p hp q hq => ?_, fun p hp q hq => ?_, fun p hp q hq => ?_⟩
  · exact h5 _ (List.mem_map.mpr ⟨p, hp, rfl⟩) _ (List.mem_append_left _ (List.mem_map.mpr ⟨q, hq, rfl⟩))
  · exact h5 _ (List.mem_map.mpr ⟨p, hp, rfl⟩) _ (List.mem_append_right _ (List.mem_map.mpr ⟨q, hq, rfl⟩))
  · exact h4 _ (List.mem_map.mpr ⟨p, hp, rfl⟩) _ (List.mem_map.mpr ⟨q, hq, rfl⟩)
theorem nd_join {a b d : List (Addr × Obj)} (h : (a.map (·.1)).Nodup ∧ (b.map (·.1)).Nodup ∧ (d.map (·.1)).Nodup ∧ (∀ p ∈ a, ∀ q ∈ b, p.1 ≠ q.1) ∧ (∀ p ∈ a, ∀ q ∈ d, p.1 ≠ q.1) ∧ (∀ p ∈ b, ∀ q ∈ d, p.1 ≠ q.1)) : ((a ++ (b ++ d)).map (·.1)).Nodup := by
  refine an6 h fun h1 h2 h3 h4 h5 h6 => ?_; try clear h
  simp only [List.map_append, List.nodup_append]
  refine ⟨h1, ⟨h2, h3, fun x hx y hy => ?_⟩, fun x hx y hy => ?_⟩
  · obtain ⟨p, hp, rfl⟩ := List.mem_map.mp hx
    obtain ⟨q, hq, rfl⟩ := List.mem_map.mp hy
    exact h6 p hp q hq
  · obtain ⟨p, hp, rfl⟩ := List.mem_map.mp hx
    rcases List.mem_append.mp hy with hy | hy
    · obtain ⟨q, hq, rfl⟩ := List.mem_map.mp hy; exact h4 p hp q hq
    · obtain ⟨q, hq, rfl⟩ := List.mem_map.mp hy; exact h5 p hp q hq
theorem mem_fr' (O : W.Ok c) {b : Addr} (h : b ∈ c.fr') : b ∈ c.frames ∨ (c.inn = false ∧ b = c.L) := by
  unfold FC.fr' FC.stk at h
  cases hi : c.inn with
  | true => rw [hi] at h; exact .inl h
  | false =>
    rw [hi] at h
    simp only [Bool.false_eq_true, if_false, List.filterMap_cons, O.eF hi] at h
    rcases List.mem_cons.mp h with h | h
    · exact .inr ⟨rfl, h⟩
    · exact .inl h
theorem Rel.at (R : Rel W c s σ ρ m cm ce frz) : (∀ q ∈ cm, s.heap.get? q.1 = some q.2 ∧ q.1 ≠ c.L ∧ c.h₀.get? q.1 = none) ∧ (∀ q ∈ ce, s.heap.get? q.1 = some q.2 ∧ q.1 ≠ c.L ∧ c.h₀.get? q.1 = none) ∧ (∀ q ∈ frz, s.heap.get? q.1 = some q.2 ∧ q.1 ≠ c.L ∧ c.h₀.get? q.1 = none) :=
  ⟨fun q hq => R.N q (List.mem_append_left _ hq), fun q hq => R.N q (List.mem_append_right _ (List.mem_append_left _ hq)), fun q hq => R.N q (List.mem_append_right _ (List.mem_append_right _ hq))⟩
theorem Rel.frameAt (O : W.Ok c) (R : Rel W c s σ ρ m cm ce frz) {b : Addr} (hb : b ∈ c.frames) : ∃ o sl, c.hE.get? b = some o ∧ (∀ vs, o.data ≠ .fields vs) ∧ (b, ({ o with slots := sl } : Obj)) ∈ ce ∧ isC c (b, ({ o with slots := sl } : Obj)) = false := by
  obtain ⟨_, o, ho, hd⟩ := O.FF.mem hb
  obtain ⟨sl, hsl⟩ := R.ou b hb o ho
  refine ex2i o sl ⟨ho, hd, hsl, ?_⟩
  rw [← Bool.not_eq_true, isC_iff]
  rintro ⟨⟨x, hx⟩, _⟩
  exact O.cfr x _ hx hb
theorem Rel.Ldata (R : Rel W c s σ ρ m cm ce frz) : ∃ oL, s.heap.get? c.L = some oL ∧ (∃ es ep, oL.data = .dict es ep) ∧ (∀ (sl : Array (Option Value)) h', h'.get? c.L = some { oL with slots := sl } → Heap.Ns h' c.L m) := by
  refine ex3 R.F.ns fun oL es ep hq0 => an3 hq0 fun h1 h2 h3 => ?_; try clear hq0
  exact ⟨oL, h1, ex2i es ep h2, fun sl h' e => ex3i _ es ep ⟨e, h2, h3⟩⟩
theorem inner_z {h : Heap} {a : Addr} {o : Obj} (R : Rel W c s σ ρ m cm ce frz) (hc : isCellO o = false) (z : Z (restr s.heap (kp c ce frz)) [] a o) : Z c.h₀ frz a o := by
  rcases z with z | z
  · obtain ⟨_, z | z | ⟨_, z⟩⟩ := restr_get.mp z
    · exact .inl z
    · exact .inr z
    · rw [(isC_iff.mp z).2] at hc; exact nopb hc.symm
  · cases z
theorem z_inner {a : Addr} {o : Obj} (R : Rel W c s σ ρ m cm ce frz) {l : List (Addr × Obj)} (z : Z c.h₀ frz a o) : Z (restr s.heap (kp c ce frz)) l a o :=
  .inl (restr_get.mpr ⟨z.elim (R.F.keep _ _) fun z => (R.at.2.2 _ z).1, z.imp id .inl⟩)
theorem inner_none (R : Rel W c s σ ρ m cm ce frz) {a : Addr} (h : c.h₀.get? a = none) (hf : ∀ q ∈ frz, q.1 ≠ a) (hc : ∀ q ∈ ce, isC c q = true → q.1 ≠ a) : (restr s.heap (kp c ce frz)).get? a = none := by
  cases e : (restr s.heap (kp c ce frz)).get? a with
  | none => rfl
  | some o =>
    obtain ⟨_, z | z | ⟨z1, z2⟩⟩ := restr_get.mp e
    · rw [h] at z; exact nope z
    · exact absurd rfl (hf _ z)
    · exact absurd rfl (hc _ z1 z2)
theorem inner_new (s : Shared) {k : Addr → Obj → Prop} {a : Addr} (h : s.heap.objs.size ≤ a) : (restr s.heap k).get? a = none := by
  cases e : (restr s.heap k).get? a with
  | none => rfl
  | some o => exact absurd (Heap.lt_size (restr_get.mp e).1) (Nat.not_lt.mpr h)
theorem inner_ok (O : W.Ok c) (R : Rel W c s σ ρ m cm ce frz) {oL : Obj} (hoL : s.heap.get? c.L = some oL) (hdL : ∃ es ep, oL.data = .dict es ep) {ex₂ : List (Addr × Obj)} {inn : Bool} {A : Around} {L : Addr} {env : Env} {rm : Nat}
    (hA : A.frames = some (if inn then c.stk else env :: c.stk)) (hkind : env.scope.kind = .function) (hl : env.locals = L) (hfr : inn = false → env.frame = some L) (hg : env.globals = mainGlobals) (hb : env.builtins = builtinsNs)
    (hL : s.heap.objs.size ≤ L) (hin : c.inn = false → c.cs.kind ≠ .module) (hx₂ : ∀ q ∈ ex₂, s.heap.objs.size ≤ q.1)
    (hnd : (env.cells.map (·.2)).Nodup) (hcl : ∀ x a, env.cells.lookup x = some a → (s.heap.objs.size ≤ a ∧ a ∉ ex₂.map (·.1)) ∨ (∃ ov, cget x σ.cel = some ov ∧ c.cl.lookup x = some a) ∨ (∃ o, c.h₀.get? a = some o))
    (hhand : A.handled = none) (hdep : A.depth + rm < recursionLimit) (huni : A.units + 16 * rm + 100 < cLine) : W.Ok (c.inner s.heap oL ce frz ex₂ inn A L env rm) := by
  have base_lt : ∀ b o, c.base.get? b = some o → b < s.heap.objs.size := fun b o e => Heap.lt_size (R.F.keep _ _ (O.stays _ _ e))
  have st : c.h₀.StaysIn (restr s.heap (kp c ce frz)) := fun b o e => restr_get.mpr ⟨R.F.keep _ _ e, .inl e⟩
  have frAt : ∀ b ∈ c.fr', ∃ o, s.heap.get? b = some o := fun b hb => by
    rcases mem_fr' O hb with h | ⟨_, rfl⟩
    · refine ex2 (R.frameAt O h) fun o sl hq0 => an4 hq0 fun _ _ h1 _ => ?_; try clear hq0
      exact ⟨_, (R.at.2.1 _ h1).1⟩
    · exact ⟨_, hoL⟩
  have celAt : ∀ x a, ((∃ ov, cget x σ.cel = some ov ∧ c.cl.lookup x = some a) ∨ (∃ o, c.h₀.get? a = some o)) → a < s.heap.objs.size ∧ a ≠ c.L ∧ a ∉ (ceI c oL ce).map (·.1) := by
    intro x a h
    rcases h with ⟨ov, h1, h2⟩ | ⟨o, h4⟩
    · refine ex2 (R.C x ov h1) fun a' o hq0 => an4 hq0 fun h3 h4 np4 _ => ?_; try clear hq0; obtain ⟨v₀, h5⟩ := np4
      rw [h2] at h3; cases h3
      have h6 := R.at.2.1 _ h4
      refine ⟨Heap.lt_size h6.1, h6.2.1, ?_⟩
      intro hm
      obtain ⟨q, hq, e⟩ := List.mem_map.mp hm
      rcases List.mem_cons.mp hq with rfl | hq
      · exact h6.2.1 e.symm
      · obtain ⟨hq, hn⟩ := List.mem_filter.mp hq
        have h7 := (R.at.2.1 _ hq).1
        rw [e, h6.1] at h7
        have : isC c q = true := by
          refine isC_iff.mpr ⟨⟨x, by refine e ▸ ?_; exact h2⟩, ?_⟩
          refine Option.some.inj h7 ▸ ?_
          unfold isCellO; exact h5 ▸ rfl
        rw [this] at hn; exact nopb hn
    · refine ⟨Heap.lt_size (R.F.keep _ _ h4), fun e => absurd (Heap.lt_size h4) (by refine e ▸ ?_; exact Nat.not_lt.mpr R.F.above), ?_⟩
      intro hm
      obtain ⟨q, hq, e⟩ := List.mem_map.mp hm
      rcases List.mem_cons.mp hq with rfl | hq
      · exact absurd (Heap.lt_size h4) (by refine e ▸ ?_; exact Nat.not_lt.mpr R.F.above)
      · have := (R.at.2.1 _ (List.mem_filter.mp hq).1).2.2
        rw [e, h4] at this; exact nope this.symm
  refine ⟨?_, hkind, hl, hfr, hg, hb, O.X.keeps st, O.T.keeps st, fun b o e => st _ _ (O.stays _ _ e), ?_, ?_, ?_, ?_, hnd, ?_, ?_, ?_, hhand, hdep, huni⟩
  · exact hA.trans (by cases inn <;> rfl)
  · cases e : c.base.get? L with
    | none => exact e
    | some o => exact absurd (base_lt _ _ e) (Nat.not_lt.mpr hL)
  · show s.heap.FunFrames c.base c.stk
    have h1 : s.heap.FunFrames c.base c.outer := by
      have key : ∀ l : List Env, (∀ b ∈ l.filterMap (·.frame), b ∈ c.frames) → c.hE.FunFrames c.base l → s.heap.FunFrames c.base l := by
        intro l
        induction l with
        | nil => intro _ _; trivial
        | cons e r ih =>
          rintro hm ⟨h1, ⟨L', o, h2, h3, h4, h5⟩, h6⟩
          have hL' : L' ∈ c.frames := hm L' (by simp [h2])
          obtain ⟨sl, hsl⟩ := R.ou L' hL' o h4
          refine ⟨h1, ex2i L' _ ⟨h2, h3, (R.at.2.1 _ hsl).1, h5⟩, ih (fun b hb => hm b ?_) h6⟩
          refine List.filterMap_cons ▸ h2 ▸ ?_; exact .tail _ hb
      exact key _ (fun _ h => h) O.FF
    unfold FC.stk
    cases hi : c.inn with
    | true => exact h1
    | false =>
      obtain ⟨es, ep, hd⟩ := hdL
      exact ⟨hin hi, ex2i c.L oL ⟨O.eF hi, O.new, hoL, fun vs => by refine hd ▸ ?_; exact fun e => nomatch e⟩, h1⟩
  · intro b hb
    rcases mem_fr' O hb with h | ⟨_, rfl⟩
    · refine ex2 (R.frameAt O h) fun o sl hq0 => an4 hq0 fun _ _ h1 h2 => ?_; try clear hq0
      have nd := nd_split R.nd
      refine inner_none R (R.at.2.1 _ h1).2.2 (fun q hq e => nd.2.2.2.2.2 _ h1 q hq e.symm) fun q hq hc e => ?_
      have h3 := (R.at.2.1 _ hq).1
      rw [e, (R.at.2.1 _ h1).1] at h3
      have : q = (b, ({ o with slots := sl } : Obj)) := Prod.ext e (Option.some.inj h3).symm
      rw [this, h2] at hc; exact nopb hc
    · refine inner_none R ?_ (fun q hq => (R.at.2.2 _ hq).2.1) fun q hq _ => (R.at.2.1 _ hq).2.1
      cases e : c.h₀.get? c.L with
      | none => rfl
      | some o => exact absurd (Heap.lt_size e) (Nat.not_lt.mpr R.F.above)
  · intro hm
    obtain ⟨o, ho⟩ := frAt _ hm
    exact absurd (Heap.lt_size ho) (Nat.not_lt.mpr hL)
  · intro x a hx hm
    obtain ⟨o, ho⟩ := frAt _ hm
    rcases hcl x a hx with ⟨h, _⟩ | h
    · exact absurd (Heap.lt_size ho) (Nat.not_lt.mpr h)
    · have h1 := celAt x a h
      rcases mem_fr' O hm with h2 | ⟨_, rfl⟩
      · rcases h with ⟨_, _, h⟩ | ⟨o, h⟩
        · exact O.cfr x a h h2
        · rw [O.hid a h2] at h; exact nope h
      · exact h1.2.1 rfl
  · intro x a hx hm
    show False
    have hm : a ∈ (ex₂ ++ exI c oL ce).map (·.1) := hm
    rw [List.map_append] at hm
    rcases hcl x a hx with ⟨h, h'⟩ | h
    · rcases List.mem_append.mp hm with hm | hm
      · exact h' hm
      · obtain ⟨q, hq, rfl⟩ := List.mem_map.mp hm
        rcases List.mem_cons.mp (List.mem_filter.mp hq).1 with rfl | hq
        · exact absurd (Heap.lt_size hoL) (Nat.not_lt.mpr h)
        · exact absurd (Heap.lt_size (R.at.2.1 _ (List.mem_filter.mp hq).1).1) (Nat.not_lt.mpr h)
    · have h1 := celAt x a h
      rcases List.mem_append.mp hm with hm | hm
      · obtain ⟨q, hq, rfl⟩ := List.mem_map.mp hm
        exact absurd h1.1 (Nat.not_lt.mpr (hx₂ q hq))
      · obtain ⟨q, hq, rfl⟩ := List.mem_map.mp hm
        exact h1.2.2 (List.mem_map.mpr ⟨q, (List.mem_filter.mp hq).1, rfl⟩)
  · intro b hb hm
    have hm : b ∈ (ex₂ ++ exI c oL ce).map (·.1) := hm
    rw [List.map_append] at hm
    rcases List.mem_append.mp hm with hm | hm
    · obtain ⟨q, hq, rfl⟩ := List.mem_map.mp hm
      obtain ⟨o, ho⟩ := frAt _ hb
      exact absurd (Heap.lt_size ho) (Nat.not_lt.mpr (hx₂ q hq))
    · obtain ⟨q, hq, rfl⟩ := List.mem_map.mp hm
      have := (List.mem_filter.mp hq).2
      simp only [decide_eq_true_eq] at this
      exact this hb
theorem Rel.enter (O : W.Ok c) (R : Rel W c s σ ρ m cm ce frz) {oL : Obj} (hoL : s.heap.get? c.L = some oL) {h' : Heap} {t : Nat} {nw ex₂ : List (Addr × Obj)} {inn : Bool} {A : Around} {L : Addr} {env : Env} {rm : Nat} {σ' : St} {m' : Str → Option Value}
    (hL : s.heap.objs.size ≤ L) (hns : h'.Ns L m') (hk : ∀ b o, s.heap.get? b = some o → h'.get? b = some o) (hnw : ∀ q ∈ nw, h'.get? q.1 = some q.2 ∧ q.1 ≠ L ∧ s.heap.objs.size ≤ q.1) (hnn : (nw.map (·.1)).Nodup) (hx : ∀ q ∈ ex₂, q ∈ nw)
    (hhp : σ'.hp = σ.hp) (hnx : σ'.nxt = σ.nxt) (hV : ∀ x v, lget x σ'.loc = some v → ∃ u, m' x = some u ∧ Val (Z c.h₀ frz) ρ v u)
    (hC : ∀ x ov, cget x σ'.cel = some ov → ∃ a o, env.cells.lookup x = some a ∧ (a, o) ∈ nw ∧ (∃ v₀, o.data = .cell v₀) ∧ ∀ v, ov = some v → ∃ u, o.data = .cell (some u) ∧ Val (Z c.h₀ frz) ρ v u)
    (hF : ∀ x v, lget x σ'.fre = some v → ∃ a, env.cells.lookup x = some a ∧ ((c.cl.lookup x = some a ∧ cget x σ.cel = some (some v)) ∨ ∃ o u, c.h₀.get? a = some o ∧ o.data = .cell (some u) ∧ Val (Z c.h₀ frz) ρ v u))
    (hcv : ∀ x a, env.cells.lookup x = some a → a ∈ nw.map (·.1) ∨ (∃ ov, cget x σ.cel = some ov ∧ c.cl.lookup x = some a) ∨ (∃ o, c.h₀.get? a = some o)) :
    Rel W (c.inner s.heap oL ce frz ex₂ inn A L env rm) { s with heap := h', toks := t } σ' ρ m' cm (nw ++ ceI c oL ce) [] := by
  have nd := nd_split R.nd
  have at' := R.at
  have ceIat : ∀ q ∈ ceI c oL ce, s.heap.get? q.1 = some q.2 ∧ c.h₀.get? q.1 = none ∧ (∀ p ∈ frz, p.1 ≠ q.1) ∧ (∀ p ∈ ce, isC c p = true → p.1 ≠ q.1) ∧ ∀ p ∈ cm, p.1 ≠ q.1 := by
    intro q hq
    rcases List.mem_cons.mp hq with rfl | hq
    · refine ⟨hoL, ?_, fun p hp => (at'.2.2 p hp).2.1, fun p hp _ => (at'.2.1 p hp).2.1, fun p hp => (at'.1 p hp).2.1⟩
      cases e : c.h₀.get? c.L with
      | none => rfl
      | some o => exact absurd (Heap.lt_size e) (Nat.not_lt.mpr R.F.above)
    · obtain ⟨hq, hn⟩ := List.mem_filter.mp hq
      have h1 := at'.2.1 q hq
      refine ⟨h1.1, h1.2.2, fun p hp e => nd.2.2.2.2.2 q hq p hp e.symm, fun p hp hc e => ?_, fun p hp => nd.2.2.2.1 p hp q hq⟩
      have h2 := (at'.2.1 p hp).1
      rw [e, h1.1] at h2
      have : p = q := Prod.ext e (Option.some.inj h2).symm
      rw [this] at hc; rw [hc] at hn; exact nopb hn
  have captured : ∀ x a, ((∃ ov, cget x σ.cel = some ov ∧ c.cl.lookup x = some a) ∨ (∃ o, c.h₀.get? a = some o)) → ∃ o, (restr s.heap (kp c ce frz)).get? a = some o := by
    rintro x a (⟨ov, h1, h2⟩ | ⟨o, h4⟩)
    · refine ex2 (R.C x ov h1) fun a' o hq0 => an4 hq0 fun h3 h4 np4 _ => ?_; try clear hq0; obtain ⟨v₀, h5⟩ := np4
      rw [h2] at h3; cases h3
      exact ⟨o, restr_get.mpr ⟨(at'.2.1 _ h4).1, .inr (.inr ⟨h4, isC_iff.mpr ⟨⟨x, h2⟩, by unfold isCellO; exact h5 ▸ rfl⟩⟩)⟩⟩
    · exact ⟨o, restr_get.mpr ⟨R.F.keep _ _ h4, .inl h4⟩⟩
  have zz : ∀ x y, isCellO y = false → Z c.h₀ frz x y → Z (restr s.heap (kp c ce frz)) [] x y := fun _ _ _ z => z_inner R z
  have rr : ∀ n x, ρ n = some x → ρ n = some x := fun _ _ z => z
  refine ⟨⟨hns, fun b o e => hk _ _ (restr_get.mp e).1, (restr_size _ _).symm ▸ hL⟩, ?_, ?_, ?_, ?_, ?_, ?_, ?_, ?_, ?_, ?_, R.gens, R.os⟩
  · intro q hq
    rw [List.append_nil] at hq
    have ltL : ∀ o, s.heap.get? q.1 = some o → q.1 ≠ L := fun o e e' => absurd (Heap.lt_size e) (by refine e' ▸ ?_; exact Nat.not_lt.mpr hL)
    rcases List.mem_append.mp hq with hq | hq
    · have h1 := at'.1 q hq
      refine ⟨hk _ _ h1.1, ltL _ h1.1, inner_none R h1.2.2 (fun p hp e => nd.2.2.2.2.1 q hq p hp e.symm) fun p hp _ e => nd.2.2.2.1 q hq p hp e.symm⟩
    · rcases List.mem_append.mp hq with hq | hq
      · have h1 := hnw q hq
        exact ⟨h1.1, h1.2.1, inner_new s h1.2.2⟩
      · have h1 := ceIat q hq
        exact ⟨hk _ _ h1.1, ltL _ h1.1, inner_none R h1.2.1 h1.2.2.1 h1.2.2.2.1⟩
  · have ceInd : ((ceI c oL ce).map (·.1)).Nodup := by
      unfold ceI
      rw [List.map_cons, List.nodup_cons]
      refine ⟨fun hm => ?_, ?_⟩
      · obtain ⟨q, hq, e⟩ := List.mem_map.mp hm
        exact (at'.2.1 q (List.mem_filter.mp hq).1).2.1 e
      · exact nd.2.1.sublist ((List.filter_sublist ..).map _)
    refine nd_join ⟨nd.1, ?_, List.nodup_nil, ?_, (fun _ _ q h => by cases h), (fun _ _ q h => by cases h)⟩
    · rw [List.map_append, List.nodup_append]
      refine ⟨hnn, ceInd, fun x hx y hy e => ?_⟩
      obtain ⟨p, hp, rfl⟩ := List.mem_map.mp hx
      obtain ⟨q, hq, rfl⟩ := List.mem_map.mp hy
      exact absurd (Heap.lt_size (ceIat q hq).1) (by refine e ▸ ?_; exact Nat.not_lt.mpr (hnw p hp).2.2)
    · intro p hp q hq e
      rcases List.mem_append.mp hq with hq | hq
      · exact absurd (Heap.lt_size (at'.1 p hp).1) (by refine e ▸ ?_; exact Nat.not_lt.mpr (hnw q hq).2.2)
      · exact (ceIat q hq).2.2.2.2 p hp e
  · intro b hb o ho
    have ho : s.heap.get? b = some o := ho
    rcases mem_fr' O hb with h | ⟨_, rfl⟩
    · refine ex2 (R.frameAt O h) fun o' sl hq0 => an4 hq0 fun _ _ h1 h2 => ?_; try clear hq0
      have h3 := (at'.2.1 _ h1).1
      rw [ho] at h3
      refine ⟨o.slots, List.mem_append_right _ (.tail _ (List.mem_filter.mpr ⟨?_, ?_⟩))⟩
      · refine Option.some.inj h3 ▸ ?_; exact h1
      · rw [show (b, ({ o with slots := o.slots } : Obj)) = (b, ({ o' with slots := sl } : Obj)) from by exact Option.some.inj h3 ▸ rfl]
        refine h2 ▸ ?_; rfl
    · rw [hoL] at ho; cases ho
      exact ⟨oL.slots, List.mem_append_right _ (.head _)⟩
  · intro q hq
    rcases List.mem_append.mp hq with hq | hq
    · exact List.mem_append_left _ (hx q hq)
    · exact List.mem_append_right _ (List.mem_filter.mp hq).1
  · intro x a hx'
    rcases hcv x a hx' with h | h
    · exact .inl (by refine List.map_append ▸ ?_; exact List.mem_append_left _ h)
    · obtain ⟨o, ho⟩ := captured x a h
      exact .inr (by refine (show (FC.inner c s.heap oL ce frz ex₂ inn A L env rm).h₀.get? a = some o from ho) ▸ ?_; rfl)
  · refine hhp ▸ ?_; exact R.H.mono' zz rr
  · intro x v hx'
    obtain ⟨u, h1, h2⟩ := hV x v hx'
    exact ⟨u, h1, h2.mono' zz rr⟩
  · intro x ov hx'
    refine ex2 (hC x ov hx') fun a o hq0 => an4 hq0 fun h1 h2 h3 h4 => ?_; try clear hq0
    exact ex2i a o ⟨h1, List.mem_append_left _ h2, h3, fun v hv => let ⟨u, h5, h6⟩ := h4 v hv; ⟨u, h5, h6.mono' zz rr⟩⟩
  · intro x v hx'
    obtain ⟨a, h1, h3⟩ := hF x v hx'
    rcases h3 with ⟨h2, h3⟩ | ⟨o, u, h5, h6, h7⟩
    · refine ex2 (R.C x _ h3) fun a' o hq0 => an4 hq0 fun h4 h5 _ h6 => ?_; try clear hq0
      rw [h2] at h4; cases h4
      obtain ⟨u, h7, h8⟩ := h6 v rfl
      exact ex3i a o u ⟨h1, restr_get.mpr ⟨(at'.2.1 _ h5).1, .inr (.inr ⟨h5, isC_iff.mpr ⟨⟨x, h2⟩, by unfold isCellO; exact h7 ▸ rfl⟩⟩)⟩, h7, h8.mono' zz rr⟩
    · exact ex3i a o u ⟨h1, restr_get.mpr ⟨R.F.keep _ _ h5, .inl h5⟩, h6, h7.mono' zz rr⟩
  · refine hnx ▸ ?_; exact R.rn
theorem Rel.leave (O : W.Ok c) (R : Rel W c s σ ρ m cm ce frz) {oL : Obj} (hoL : s.heap.get? c.L = some oL) (hnL : ∀ (sl : Array (Option Value)) h', h'.get? c.L = some { oL with slots := sl } → Heap.Ns h' c.L m) {ex₂ : List (Addr × Obj)} {inn : Bool} {A : Around} {L : Addr} {env : Env} {rm : Nat}
    {s' : Shared} {σ' : St} {ρ' : Nat → Option Addr} {m' : Str → Option Value} {cm' ce' frz' : List (Addr × Obj)} (hL : s.heap.objs.size ≤ L)
    (R' : Rel W (c.inner s.heap oL ce frz ex₂ inn A L env rm) s' σ' ρ' m' cm' ce' frz') (hr : ∀ n a, ρ n = some a → ρ' n = some a) {h'' : Heap} {t : Nat} {wl : List Addr} (hs : ∀ b o, b ≠ L → b ∉ wl → s'.heap.get? b = some o → h''.get? b = some o) (hwl : ∀ b ∈ wl, (∃ o, (b, o) ∈ ce') ∧ s.heap.objs.size ≤ b)
    {acc : List (Addr × Obj)} (hacc : ∀ q ∈ acc, q ∈ ce') (hacw : ∀ q ∈ acc, q.1 ∉ wl) (hacc₂ : ∀ q ∈ acc, s.heap.objs.size ≤ q.1) (hna : (acc.map (·.1)).Nodup) :
    ∃ ce'', Rel W c { s' with heap := h'', toks := t } { σ with hp := σ'.hp, nxt := σ'.nxt } ρ' m cm' ce'' (acc ++ (frz' ++ frz)) ∧ Ext ρ ρ' frz (acc ++ (frz' ++ frz)) ∧
      (∀ x v, Val (Z (restr s.heap (kp c ce frz)) frz') ρ' x v → Val (Z c.h₀ (acc ++ (frz' ++ frz))) ρ' x v) ∧ (∀ q ∈ cm' ++ (ce'' ++ (acc ++ (frz' ++ frz))), q.1 ≠ L) ∧ (∀ q ∈ ce'', q.1 ∈ ce'.map (·.1) ∨ ((restr s.heap (kp c ce frz)).get? q.1).isSome = true) ∧ (∀ q ∈ ce'', q.1 < s.heap.objs.size) := by
  have nd := nd_split R.nd
  have nd' := nd_split R'.nd
  have at₀ := R.at
  have at' := R'.at
  have hin : ∀ a o, c.h₀.get? a = some o → (restr s.heap (kp c ce frz)).get? a = some o := fun a o e => restr_get.mpr ⟨R.F.keep _ _ e, .inl e⟩
  have hfz : ∀ q ∈ frz, (restr s.heap (kp c ce frz)).get? q.1 = some q.2 := fun q hq => restr_get.mpr ⟨(at₀.2.2 q hq).1, .inr (.inl hq)⟩
  have lt₀ : ∀ q ∈ cm ++ (ce ++ frz), q.1 < s.heap.objs.size := R.lt
  have keep' : ∀ a o, (restr s.heap (kp c ce frz)).get? a = some o → h''.get? a = some o := fun a o e =>
    hs a o (fun e' => absurd (Heap.lt_size (restr_get.mp e).1) (by refine e' ▸ ?_; exact Nat.not_lt.mpr hL)) (fun hm => absurd (Heap.lt_size (restr_get.mp e).1) (Nat.not_lt.mpr (hwl a hm).2)) (R'.F.keep a o e)
  have in' : ∀ q ∈ ce', q.1 ∉ wl → h''.get? q.1 = some q.2 := fun q hq hw => hs _ _ (at'.2.1 q hq).2.1 hw (at'.2.1 q hq).1
  have wlo : ∀ a, a < s.heap.objs.size → a ∉ wl := fun a ha hm => absurd ha (Nat.not_lt.mpr (hwl a hm).2)
  have cew : ∀ q ∈ ceI c oL ce, q.1 ∉ wl := fun q hq => by
    rcases List.mem_cons.mp hq with rfl | hq
    · exact wlo _ (Heap.lt_size hoL)
    · exact wlo _ (Heap.lt_size (at₀.2.1 q (List.mem_filter.mp hq).1).1)
  have wlm : ∀ p : Addr × Obj, (p ∈ cm' ∨ p ∈ frz') → p.1 ∉ wl := fun p hp hm => by
    obtain ⟨⟨o, ho⟩, _⟩ := hwl _ hm
    rcases hp with hp | hp
    · exact nd'.2.2.2.1 p hp _ ho rfl
    · exact nd'.2.2.2.2.2 _ ho p hp rfl
  have key : ∀ q ∈ ceI c oL ce, ∃ sl, (q.1, ({ q.2 with slots := sl } : Obj)) ∈ ce' ∧ (q.1 ∉ c.fr' → q ∈ ce') := by
    intro q hq
    by_cases hf : q.1 ∈ c.fr'
    · have hE : s.heap.get? q.1 = some q.2 := by
        rcases List.mem_cons.mp hq with rfl | hq
        · exact hoL
        · exact (at₀.2.1 q (List.mem_filter.mp hq).1).1
      obtain ⟨sl, h1⟩ := R'.ou q.1 hf q.2 hE
      exact ⟨sl, h1, fun h => absurd hf h⟩
    · have : q ∈ ce' := R'.ex q (List.mem_append_right _ (List.mem_filter.mpr ⟨hq, by simpa using hf⟩))
      exact ⟨q.2.slots, this, fun _ => this⟩
  have key₂ : ∀ q ∈ ce, ∃ sl, h''.get? q.1 = some ({ q.2 with slots := sl } : Obj) ∧ ((q.1, ({ q.2 with slots := sl } : Obj)) ∈ ce' ∨ (restr s.heap (kp c ce frz)).get? q.1 = some q.2) ∧ (isC c q = true ∨ q.1 ∉ c.fr' → h''.get? q.1 = some q.2) := by
    intro q hq
    cases hc : isC c q with
    | true =>
      have h1 : (restr s.heap (kp c ce frz)).get? q.1 = some q.2 := restr_get.mpr ⟨(at₀.2.1 q hq).1, .inr (.inr ⟨hq, hc⟩)⟩
      exact ⟨q.2.slots, keep' _ _ h1, .inr h1, fun _ => keep' _ _ h1⟩
    | false =>
      obtain ⟨sl, h1, h2⟩ := key q (.tail _ (List.mem_filter.mpr ⟨hq, by refine hc ▸ ?_; rfl⟩))
      have hw : q.1 ∉ wl := cew q (.tail _ (List.mem_filter.mpr ⟨hq, by refine hc ▸ ?_; rfl⟩))
      exact ⟨sl, in' _ h1 hw, .inl h1, fun h => h.elim (fun h => nomatch h) fun h => in' _ (h2 h) hw⟩
  obtain ⟨slL, hLin, _⟩ := key (c.L, oL) (.head _)
  have zz : ∀ x y, isCellO y = false → Z (restr s.heap (kp c ce frz)) frz' x y → Z c.h₀ (acc ++ (frz' ++ frz)) x y := by
    intro x y hy z
    rcases z with z | z
    · exact (inner_z (h := s.heap) R hy (.inl z)).imp id fun z => List.mem_append_right _ (List.mem_append_right _ z)
    · exact .inr (List.mem_append_right _ (List.mem_append_left _ z))
  have zf : ∀ x y, Z c.h₀ frz x y → Z c.h₀ (acc ++ (frz' ++ frz)) x y := fun x y z => z.imp id fun z => List.mem_append_right _ (List.mem_append_right _ z)
  have rr : ∀ n x, ρ' n = some x → ρ' n = some x := fun _ _ z => z
  let g : Addr × Obj → Addr × Obj := fun q => (q.1, (h''.get? q.1).getD q.2)
  have hg1 : ∀ q, (g q).1 = q.1 := fun _ => rfl
  have apart : ∀ q ∈ ce, (∀ p ∈ cm', p.1 ≠ q.1) ∧ (∀ p ∈ frz', p.1 ≠ q.1) := by
    intro q hq
    refine Exists.elim (key₂ q hq) fun sl hq0 => an3 hq0 fun _ h1 _ => ?_; try clear hq0
    rcases h1 with h1 | h1
    · exact ⟨fun p hp => nd'.2.2.2.1 p hp (q.1, { q.2 with slots := sl }) h1, fun p hp e => nd'.2.2.2.2.2 (q.1, { q.2 with slots := sl }) h1 p hp e.symm⟩
    · exact ⟨fun p hp e => (by have := (at'.1 p hp).2.2; rw [e] at this; exact nomatch h1.symm.trans this), fun p hp e => (by have := (at'.2.2 p hp).2.2; rw [e] at this; exact nomatch h1.symm.trans this)⟩
  have h0n : ∀ a, (restr s.heap (kp c ce frz)).get? a = none → c.h₀.get? a = none := fun a e => by
    cases e' : c.h₀.get? a with
    | none => rfl
    | some o => exact nomatch (hin _ _ e').symm.trans e
  refine ⟨ce.map g, ⟨⟨?_, fun b o e => keep' _ _ (hin _ _ e), R.F.above⟩, ?_, ?_, ?_, ?_, ?_, ?_, ?_, ?_, ?_, R'.rn, R'.gens, R'.os⟩, ⟨hr, fun q hq => List.mem_append_right _ (List.mem_append_right _ hq)⟩, fun x v hv => hv.mono' zz rr, ?_, ?_, ?_⟩
  · exact hnL slL _ (in' _ hLin (cew (c.L, oL) (.head _)))
  · intro p hp
    rcases List.mem_append.mp hp with hp | hp
    · have h1 := at'.1 p hp
      exact ⟨hs _ _ h1.2.1 (wlm p (.inl hp)) h1.1, nd'.2.2.2.1 p hp _ hLin, h0n _ h1.2.2⟩
    · rcases List.mem_append.mp hp with hp | hp
      · obtain ⟨q, hq, rfl⟩ := List.mem_map.mp hp
        obtain ⟨sl, h1, _⟩ := key₂ q hq
        exact ⟨by show h''.get? q.1 = some ((h''.get? q.1).getD q.2); refine h1 ▸ ?_; rfl, (at₀.2.1 q hq).2⟩
      · rcases List.mem_append.mp hp with hp | hp
        · have h1 := at'.2.1 p (hacc p hp)
          refine ⟨in' _ (hacc p hp) (hacw p hp), fun e => ?_, h0n _ h1.2.2⟩
          exact absurd (Heap.lt_size hoL) (by refine e ▸ ?_; exact Nat.not_lt.mpr (hacc₂ p hp))
        · rcases List.mem_append.mp hp with hp | hp
          · have h1 := at'.2.2 p hp
            exact ⟨hs _ _ h1.2.1 (wlm p (.inr hp)) h1.1, fun e => nd'.2.2.2.2.2 _ hLin p hp e.symm, h0n _ h1.2.2⟩
          · exact ⟨keep' _ _ (hfz p hp), (at₀.2.2 p hp).2⟩
  · have e1 : (ce.map g).map (·.1) = ce.map (·.1) := by refine List.map_map.symm ▸ ?_; rfl
    refine nd_join ⟨nd'.1, by refine e1 ▸ ?_; exact nd.2.1, nd_join ⟨hna, nd'.2.2.1, nd.2.2.1, ?_, ?_, ?_⟩, ?_, ?_, ?_⟩
    · exact fun p hp q hq => nd'.2.2.2.2.2 p (hacc p hp) q hq
    · intro p hp q hq e
      exact absurd (lt₀ q (by simp [hq])) (by refine e ▸ ?_; exact Nat.not_lt.mpr (hacc₂ p hp))
    · intro p hp q hq e
      have := (at'.2.2 p hp).2.2
      rw [e] at this; exact nomatch (hfz q hq).symm.trans this
    · intro p hp q hq e
      obtain ⟨r, hr', rfl⟩ := List.mem_map.mp hq
      exact (apart r hr').1 p hp e
    · intro p hp q hq e
      rcases List.mem_append.mp hq with hq | hq
      · exact nd'.2.2.2.1 p hp q (hacc q hq) e
      · rcases List.mem_append.mp hq with hq | hq
        · exact nd'.2.2.2.2.1 p hp q hq e
        · have := (at'.1 p hp).2.2
          rw [e] at this; exact nomatch (hfz q hq).symm.trans this
    · intro p hp q hq e
      obtain ⟨r, hr', rfl⟩ := List.mem_map.mp hp
      have e : r.1 = q.1 := e
      rcases List.mem_append.mp hq with hq | hq
      · exact absurd (lt₀ r (by simp [hr'])) (by refine e ▸ ?_; exact Nat.not_lt.mpr (hacc₂ q hq))
      · rcases List.mem_append.mp hq with hq | hq
        · exact (apart r hr').2 q hq e.symm
        · exact nd.2.2.2.2.2 r hr' q hq e
  · intro b hb o ho
    obtain ⟨sl, h1⟩ := R.ou b hb o ho
    obtain ⟨sl', h2, _⟩ := key₂ _ h1
    refine ⟨sl', List.mem_map.mpr ⟨_, h1, ?_⟩⟩
    show (b, (h''.get? b).getD _) = _
    have h2 : h''.get? b = some ({ o with slots := sl' } : Obj) := h2
    refine h2 ▸ ?_; rfl
  · intro q hq
    have h1 := R.ex q hq
    have hf : q.1 ∉ c.fr' := by
      intro hf
      rcases mem_fr' O hf with h | ⟨_, h⟩
      · exact O.exf _ h (List.mem_map.mpr ⟨q, hq, rfl⟩)
      · exact (at₀.2.1 q h1).2.1 h
    refine Exists.elim (key₂ q h1) fun _ hq0 => an3 hq0 fun _ _ h2 => ?_; try clear hq0
    refine List.mem_map.mpr ⟨q, h1, ?_⟩
    show (q.1, (h''.get? q.1).getD q.2) = q
    refine h2 (.inr hf) ▸ ?_; rfl
  · intro x a hx
    refine (R.cv x a hx).imp (fun h => ?_) id
    refine List.map_map.symm ▸ ?_; exact h
  · exact R'.H.mono' zz rr
  · intro x v hx
    obtain ⟨u, h1, h2⟩ := R.V x v hx
    exact ⟨u, h1, h2.mono zf hr⟩
  · intro x ov hx
    refine ex2 (R.C x ov hx) fun a o hq0 => an4 hq0 fun h1 h2 np4 h4 => ?_; try clear hq0; obtain ⟨v₀, h3⟩ := np4
    refine Exists.elim (key₂ _ h2) fun _ hq0 => an3 hq0 fun _ _ h5 => ?_; try clear hq0
    refine ex2i a o ⟨h1, List.mem_map.mpr ⟨_, h2, ?_⟩, ⟨v₀, h3⟩, fun v hv => let ⟨u, h6, h7⟩ := h4 v hv; ⟨u, h6, h7.mono zf hr⟩⟩
    show (a, (h''.get? a).getD o) = (a, o)
    rw [h5 (.inl (isC_iff.mpr ⟨⟨x, h1⟩, by unfold isCellO; exact h3 ▸ rfl⟩))]; rfl
  · intro x v hx
    refine ex3 (R.Fv x v hx) fun a o u hq0 => an4 hq0 fun h1 h2 h3 h4 => ?_; try clear hq0
    exact ex3i a o u ⟨h1, h2, h3, h4.mono zf hr⟩
  · have ltL : ∀ a, a < s.heap.objs.size → a ≠ L := fun a ha e => absurd ha (by refine e ▸ ?_; exact Nat.not_lt.mpr hL)
    intro q hq
    rcases List.mem_append.mp hq with hq | hq
    · exact (at'.1 q hq).2.1
    · rcases List.mem_append.mp hq with hq | hq
      · obtain ⟨p, hp, rfl⟩ := List.mem_map.mp hq
        exact ltL _ (lt₀ p (by simp [hp]))
      · rcases List.mem_append.mp hq with hq | hq
        · exact (at'.2.1 q (hacc q hq)).2.1
        · rcases List.mem_append.mp hq with hq | hq
          · exact (at'.2.2 q hq).2.1
          · exact ltL _ (lt₀ q (by simp [hq]))
  · intro q hq
    obtain ⟨p, hp, rfl⟩ := List.mem_map.mp hq
    refine Exists.elim (key₂ p hp) fun sl hq0 => an3 hq0 fun _ h1 _ => ?_; try clear hq0
    rcases h1 with h1 | h1
    · exact .inl (List.mem_map.mpr ⟨_, h1, rfl⟩)
    · exact .inr (by refine (show (g p).1 = p.1 from rfl).symm ▸ h1 ▸ ?_; rfl)
  · intro q hq
    obtain ⟨p, hp, rfl⟩ := List.mem_map.mp hq
    exact lt₀ p (by simp [hp])
end
section
variable {W : Wd} {c : FC} {σ : St} {P : AV → St → Prop} {X : Str → St → Prop} {N : St → Prop} {Rt : AV → St → Prop} {s : Shared} {ρ : Nat → Option Addr} {m : Str → Option Value} {cm ce frz : List (Addr × Obj)}
theorem Rel.forget (R : Rel W c s σ ρ m cm ce frz) : Rel W c s { σ with loc := [] } ρ m cm ce frz :=
  ⟨R.F, R.N, R.nd, R.ou, R.ex, R.cv, R.H, (fun _ _ h => nomatch (show (none : Option AV) = some _ from h)), R.C, R.Fv, R.rn, R.gens, R.os⟩
theorem Rel.swaps {l l' base lst : List (Addr × Obj)} (R : Rel W (c.wex (l ++ base)) s σ ρ m cm ce frz) (hc : ∀ x a, c.cl.lookup x = some a → a ∉ l.map (·.1)) (hf : ∀ b ∈ c.frames, b ∉ l.map (·.1)) (he : ∀ q ∈ base, q.1 ∉ l.map (·.1))
    {h' : Heap} {t : Nat} (hs : ∀ b o, b ∉ l.map (·.1) → s.heap.get? b = some o → h'.get? b = some o) (hl : l'.map (·.1) = l.map (·.1)) (ho : ∀ q ∈ l', h'.get? q.1 = some q.2)
    (hlst : ∀ q ∈ lst, h'.get? q.1 = some q.2 ∧ s.heap.objs.size ≤ q.1) (hln : (lst.map (·.1)).Nodup) : ∃ ce', Rel W (c.wex (l' ++ base)) { s with heap := h', toks := t } σ ρ m cm ce' (lst ++ frz) := by
  have nd := nd_split R.nd
  have at₀ := R.at
  have lin : ∀ q ∈ l, q ∈ ce := fun q hq => R.ex q (List.mem_append_left _ hq)
  have nin : ∀ (p : Addr × Obj), (p ∈ cm ∨ p ∈ frz) → p.1 ∉ l.map (·.1) := fun p hp hm => by
    obtain ⟨q, hq, e⟩ := List.mem_map.mp hm
    rcases hp with hp | hp
    · exact nd.2.2.2.1 p hp q (lin q hq) e.symm
    · exact nd.2.2.2.2.2 q (lin q hq) p hp e
  have hL : c.L ∉ l.map (·.1) := fun hm => by
    obtain ⟨q, hq, e⟩ := List.mem_map.mp hm
    exact (at₀.2.1 q (lin q hq)).2.1 e
  have h0 : ∀ b o, c.h₀.get? b = some o → b ∉ l.map (·.1) := fun b o e hm => by
    obtain ⟨q, hq, rfl⟩ := List.mem_map.mp hm
    exact nomatch e.symm.trans (at₀.2.1 q (lin q hq)).2.2
  have lt := R.lt
  have zz : ∀ x y, Z c.h₀ frz x y → Z c.h₀ (lst ++ frz) x y := fun _ _ z => z.imp id (List.mem_append_right _)
  have rr : ∀ n x, ρ n = some x → ρ n = some x := fun _ _ z => z
  let g : Addr × Obj → Addr × Obj := fun q => (q.1, (h'.get? q.1).getD q.2)
  have inl : ∀ q ∈ l, ∃ q' ∈ l', q'.1 = q.1 := fun q hq => by
    have : q.1 ∈ l'.map (·.1) := by refine hl ▸ ?_; exact List.mem_map.mpr ⟨q, hq, rfl⟩
    obtain ⟨q', h1, h2⟩ := List.mem_map.mp this
    exact ⟨q', h1, h2⟩
  have inl' : ∀ q' ∈ l', ∃ q ∈ l, q.1 = q'.1 := fun q' hq => by
    have : q'.1 ∈ l.map (·.1) := by refine hl ▸ ?_; exact List.mem_map.mpr ⟨q', hq, rfl⟩
    obtain ⟨q, h1, h2⟩ := List.mem_map.mp this
    exact ⟨q, h1, h2⟩
  have hceg : ∀ q ∈ ce, h'.get? q.1 = some (g q).2 := fun q hq => by
    show h'.get? q.1 = some ((h'.get? q.1).getD q.2)
    by_cases hm : q.1 ∈ l.map (·.1)
    · obtain ⟨p, hp, e⟩ := List.mem_map.mp hm
      obtain ⟨p', h1, h2⟩ := inl p hp
      have := ho p' h1
      rw [h2, e] at this; refine this ▸ ?_; rfl
    · refine hs _ _ hm (at₀.2.1 q hq).1 ▸ ?_; rfl
  have gid : ∀ q ∈ ce, q.1 ∉ l.map (·.1) → g q = q := fun q hq hm => by
    show (q.1, (h'.get? q.1).getD q.2) = q
    refine hs _ _ hm (at₀.2.1 q hq).1 ▸ ?_; rfl
  have e1 : (ce.map g).map (·.1) = ce.map (·.1) := by refine List.map_map.symm ▸ ?_; rfl
  refine ⟨ce.map g, ?_, ?_, ?_, ?_, ?_, ?_, R.H.mono zz rr, ?_, ?_, ?_, R.rn, R.gens, R.os⟩
  · refine ex3 R.F.ns fun oL es ep hq0 => an2 hq0 fun hh r => ?_; try clear hq0
    exact ⟨ex3i oL es ep ⟨hs _ _ hL hh, r⟩, fun b o e => hs b o (h0 b o e) (R.F.keep b o e), R.F.above⟩
  · intro q hq
    rcases List.mem_append.mp hq with hq | hq
    · exact ⟨hs _ _ (nin q (.inl hq)) (at₀.1 q hq).1, (at₀.1 q hq).2⟩
    · rcases List.mem_append.mp hq with hq | hq
      · obtain ⟨p, hp, rfl⟩ := List.mem_map.mp hq
        exact ⟨hceg p hp, (at₀.2.1 p hp).2⟩
      · rcases List.mem_append.mp hq with hq | hq
        · refine ⟨(hlst q hq).1, fun e => ?_, ?_⟩
          · exact absurd R.F.ns.lt (by refine (show (c.wex (l ++ base)).L = q.1 from e.symm) ▸ ?_; exact Nat.not_lt.mpr (hlst q hq).2)
          · cases e : (c.wex (l' ++ base)).h₀.get? q.1 with
            | none => rfl
            | some o => exact absurd (Heap.lt_size (R.F.keep _ _ e)) (Nat.not_lt.mpr (hlst q hq).2)
        · exact ⟨hs _ _ (nin q (.inr hq)) (at₀.2.2 q hq).1, (at₀.2.2 q hq).2⟩
  · refine nd_join ⟨nd.1, by refine e1 ▸ ?_; exact nd.2.1, ?_, ?_, ?_, ?_⟩
    · rw [List.map_append, List.nodup_append]
      refine ⟨hln, nd.2.2.1, fun x hx y hy e => ?_⟩
      obtain ⟨p, hp, rfl⟩ := List.mem_map.mp hx
      obtain ⟨q, hq, rfl⟩ := List.mem_map.mp hy
      exact absurd (lt q (by simp [hq])) (by refine e ▸ ?_; exact Nat.not_lt.mpr (hlst p hp).2)
    · intro p hp q hq e
      obtain ⟨r, hr, rfl⟩ := List.mem_map.mp hq
      exact nd.2.2.2.1 p hp r hr e
    · intro p hp q hq e
      rcases List.mem_append.mp hq with hq | hq
      · exact absurd (lt p (by simp [hp])) (by refine e ▸ ?_; exact Nat.not_lt.mpr (hlst q hq).2)
      · exact nd.2.2.2.2.1 p hp q hq e
    · intro p hp q hq e
      obtain ⟨r, hr, rfl⟩ := List.mem_map.mp hp
      have e : r.1 = q.1 := e
      rcases List.mem_append.mp hq with hq | hq
      · exact absurd (lt r (by simp [hr])) (by refine e ▸ ?_; exact Nat.not_lt.mpr (hlst q hq).2)
      · exact nd.2.2.2.2.2 r hr q hq e
  · intro b hb o hbo
    obtain ⟨sl, hsl⟩ := R.ou b hb o hbo
    exact ⟨sl, List.mem_map.mpr ⟨_, hsl, gid _ hsl (hf b hb)⟩⟩
  · intro q hq
    rcases List.mem_append.mp hq with hq | hq
    · obtain ⟨p, hp, e⟩ := inl' q hq
      refine List.mem_map.mpr ⟨p, lin p hp, ?_⟩
      show (p.1, (h'.get? p.1).getD p.2) = q
      refine e ▸ ho q hq ▸ ?_; rfl
    · have h1 := R.ex q (List.mem_append_right _ hq)
      exact List.mem_map.mpr ⟨q, h1, gid q h1 (he q hq)⟩
  · intro x a hx
    refine (R.cv x a hx).imp (fun h => ?_) id
    refine e1 ▸ ?_; exact h
  · intro x v hx
    obtain ⟨u, h1, h2⟩ := R.V x v hx
    exact ⟨u, h1, h2.mono zz rr⟩
  · intro x ov hx
    refine ex2 (R.C x ov hx) fun b o hq0 => an4 hq0 fun h1 h2 h3 h4 => ?_; try clear hq0
    exact ex2i b o ⟨h1, List.mem_map.mpr ⟨_, h2, gid _ h2 (hc x b h1)⟩, h3, fun v hv => let ⟨u, h5, h6⟩ := h4 v hv; ⟨u, h5, h6.mono zz rr⟩⟩
  · intro x v hx
    refine ex3 (R.Fv x v hx) fun b o u hq0 => an4 hq0 fun h1 h2 h3 h4 => ?_; try clear hq0
    exact ex3i b o u ⟨h1, h2, h3, h4.mono zz rr⟩
theorem Rel.watchOld (R : Rel W c s σ ρ m cm ce frz) {a : Addr} {o : Obj} (ho : s.heap.get? a = some o) (hL : a ≠ c.L) (h0 : c.h₀.get? a = none) (ha : ∀ q ∈ cm ++ (ce ++ frz), q.1 ≠ a) :
    Rel W (c.wex ((a, o) :: c.ex)) s σ ρ m cm ((a, o) :: ce) frz := by
  have pm : (cm ++ ((a, o) :: ce ++ frz)).Perm ((a, o) :: (cm ++ (ce ++ frz))) := List.perm_middle
  refine ⟨R.F, fun q hq => ?_, ?_, ?_, ?_, ?_, R.H, R.V, ?_, R.Fv, R.rn, R.gens, R.os⟩
  · rcases List.mem_cons.mp (pm.mem_iff.mp hq) with rfl | hq
    · exact ⟨ho, hL, h0⟩
    · exact R.N q hq
  · rw [(pm.map (·.1)).nodup_iff, List.map_cons, List.nodup_cons]
    refine ⟨fun hm => ?_, R.nd⟩
    obtain ⟨q, hq, e⟩ := List.mem_map.mp hm
    exact ha q hq e
  · intro b hb o hbo
    obtain ⟨sl, hsl⟩ := R.ou b hb o hbo
    exact ⟨sl, .tail _ hsl⟩
  · intro z hz
    rcases List.mem_cons.mp hz with rfl | hz
    · exact .head _
    · exact .tail _ (R.ex z hz)
  · intro x a hx
    exact (R.cv x a hx).imp (fun h => by refine List.map_cons ▸ ?_; exact .tail _ h) id
  · intro x ov hx
    refine ex2 (R.C x ov hx) fun b o hq0 => an4 hq0 fun h1 h2 h3 h4 => ?_; try clear hq0
    exact ex2i b o ⟨h1, .tail _ h2, h3, h4⟩
theorem Rel.freezeOld (R : Rel W c s σ ρ m cm ce frz) {a : Addr} {o : Obj} (ho : s.heap.get? a = some o) (hL : a ≠ c.L) (h0 : c.h₀.get? a = none) (ha : ∀ q ∈ cm ++ (ce ++ frz), q.1 ≠ a) : Rel W c s σ ρ m cm ce ((a, o) :: frz) := by
  have zz : ∀ x y, Z c.h₀ frz x y → Z c.h₀ ((a, o) :: frz) x y := fun _ _ z => z.imp id (.tail _)
  have rr : ∀ n x, ρ n = some x → ρ n = some x := fun _ _ z => z
  have pm : (cm ++ (ce ++ ((a, o) :: frz))).Perm ((a, o) :: (cm ++ (ce ++ frz))) := by
    refine (List.append_assoc ..) ▸ (List.append_assoc ..) ▸ ?_
    exact List.perm_middle
  refine ⟨R.F, fun q hq => ?_, ?_, R.ou, R.ex, R.cv, R.H.mono zz rr, ?_, ?_, ?_, R.rn, R.gens, R.os⟩
  · rcases List.mem_cons.mp (pm.mem_iff.mp hq) with rfl | hq
    · exact ⟨ho, hL, h0⟩
    · exact R.N q hq
  · rw [(pm.map (·.1)).nodup_iff, List.map_cons, List.nodup_cons]
    refine ⟨fun hm => ?_, R.nd⟩
    obtain ⟨q, hq, e⟩ := List.mem_map.mp hm
    exact ha q hq e
  · intro x v hx
    obtain ⟨u, h1, h2⟩ := R.V x v hx
    exact ⟨u, h1, h2.mono zz rr⟩
  · intro x ov hx
    refine ex2 (R.C x ov hx) fun b o hq0 => an4 hq0 fun h1 h2 h3 h4 => ?_; try clear hq0
    exact ex2i b o ⟨h1, h2, h3, fun v hv => let ⟨u, h5, h6⟩ := h4 v hv; ⟨u, h5, h6.mono zz rr⟩⟩
  · intro x v hx
    refine ex3 (R.Fv x v hx) fun b o u hq0 => an4 hq0 fun h1 h2 h3 h4 => ?_; try clear hq0
    exact ex3i b o u ⟨h1, h2, h3, h4.mono zz rr⟩
end
noncomputable def frees (sc : Scope) : List Str := (sc.names.filter fun p => p.2 == .free).map (·.1)
noncomputable def capt : List Str → St → Option (List (Str × AV))
  | [], _ => some []
  | x :: r, σ => match (match cget x σ.cel with | some (some v) => some v | _ => lget x σ.fre), capt r σ with
    | some v, some l => some ((x, v) :: l)
    | _, _ => none
theorem closureFor_of {scope : Scope} {env : Env} (h : ∀ x ∈ frees scope, ∃ a, env.cells.lookup x = some a) :
    closureFor scope env = pure ((frees scope).map fun x => (x, (env.cells.lookup x).getD 0)).reverse := by
  simp only [closureFor, frees]
  have key : ∀ (names : List (Str × NameKind)) (cs : List (Str × Addr)), (∀ p ∈ names, p.2 = .free → ∃ a, env.cells.lookup p.1 = some a) →
      (names.foldl (fun (cs : List (Str × Addr)) p => if (p.2 == NameKind.free) = true then (p.1, (env.cells.lookup p.1).getD 0) :: cs else cs) cs) = (((names.filter fun p => p.2 == .free).map fun p => (p.1, (env.cells.lookup p.1).getD 0)).reverse ++ cs) := by
    intro names
    induction names with
    | nil => intro cs _; rfl
    | cons p r ih =>
      intro cs hp
      rw [List.foldl_cons, ih _ fun q hq => hp q (.tail _ hq), List.filter_cons]
      by_cases hk : (p.2 == NameKind.free) = true
      · refine if_pos hk ▸ if_pos hk ▸ List.map_cons ▸ List.reverse_cons ▸ (List.append_assoc ..) ▸ ?_; rfl
      · exact if_neg hk ▸ if_neg hk ▸ rfl
  have h' : ∀ p ∈ scope.names, p.2 = .free → ∃ a, env.cells.lookup p.1 = some a := fun p hp e => h p.1 (List.mem_map.mpr ⟨p, List.mem_filter.mpr ⟨hp, by refine e.symm ▸ ?_; rfl⟩, rfl⟩)
  have := key scope.names [] h'
  rw [List.append_nil] at this
  refine List.map_map.symm ▸ (show ((fun x => (x, (env.cells.lookup x).getD 0)) ∘ fun (x : Str × NameKind) => x.1) = fun p : Str × NameKind => (p.1, (env.cells.lookup p.1).getD 0) from rfl) ▸ this ▸ ?_
  have gen : ∀ (names : List (Str × NameKind)) (cs : List (Str × Addr)) (f : Str × NameKind → List (Str × Addr) → Sem (ForInStep (List (Str × Addr)))), (∀ p ∈ names, ∀ cs, f p cs = pure (.yield (if (p.2 == NameKind.free) = true then (p.1, (env.cells.lookup p.1).getD 0) :: cs else cs))) →
      forIn names cs f = (pure (names.foldl (fun (cs : List (Str × Addr)) p => if (p.2 == NameKind.free) = true then (p.1, (env.cells.lookup p.1).getD 0) :: cs else cs) cs) : Sem _) := by
    intro names
    induction names with
    | nil => intro cs f _; rfl
    | cons p r ih =>
      intro cs f hf
      rw [List.forIn_cons, hf p (.head _)]
      exact ih _ f fun q hq => hf q (.tail _ hq)
  rw [gen _ _ _ fun p hp cs => ?_]
  · rfl
  · obtain ⟨n, k⟩ := p
    by_cases hk : (k == NameKind.free) = true
    · have e : k = .free := by cases k <;> first | rfl | exact nopb hk
      obtain ⟨a, ha⟩ := h' _ hp e
      simp only [hk, if_true]
      have : cellOf env n = pure a := by unfold cellOf; exact (show env.cells.lookup n = some a from ha) ▸ rfl
      refine this ▸ (show env.cells.lookup n = some a from ha) ▸ ?_
      rfl
    · simp only [hk, Bool.false_eq_true, if_false]
section
variable {prog : Program} {w : World} {A : Around} {R : Result → Shared → Prop} {s : Shared}
theorem compLoop_gen {elt target iter : Expr} {ifs : List Expr} {scope : Scope} {pos : Pos} {it acc : Value} {env : Env} (I : Nat → Shared → Prop)
    (turn : ∀ n s, I n s → wpAny (model prog w) A (pyNext it) (fun r s₁ => match r with
      | none => R (.ok .next) s₁
      | some v => wpAny (model prog w) A (letOwnedTupleGo target it v) (fun _ s₁' => wpAny (model prog w) A (assign target env v) (fun _ s₂ =>
          wpAny (model prog w) A (forIn ifs true fun c r => if r = true then do let ok ← isTrue c env (eval c env); pure (ForInStep.yield ok) else pure (ForInStep.yield r)) (fun ok s₃ =>
            if ok = true then wpAny (model prog w) A (eval elt env) (fun x s₄ =>
              wpAny (model prog w) A (call (.builtin "list.append") [acc, x]) (fun _ s₅ => ∃ m, m < n ∧ I m s₅) (notedBy (model prog w) A env fun e s' => R (.error e) s') s₄) (notedBy (model prog w) A env fun e s' => R (.error e) s') s₃
            else ∃ m, m < n ∧ I m s₃) (notedBy (model prog w) A env fun e s' => R (.error e) s') s₂) (notedBy (model prog w) A env fun e s' => R (.error e) s') s₁') (notedBy (model prog w) A env fun e s' => R (.error e) s') s₁) (notedBy (model prog w) A env fun e s' => R (.error e) s') s)
    (n : Nat) (h : I n s) : codeAny (model prog w) A (.compLoop (.ListComp elt [⟨target, iter, ifs, 0⟩] scope pos) 0 it acc env) R s := by
  refine codeAny_loop rfl I (fun n s hI => ?_) n h
  show wpAny _ A ((compTurn (.ListComp elt [⟨target, iter, ifs, 0⟩] scope pos) 0 it acc env).onRaise (fun x => do noteFrame x env; theTreesLotGoes x)) _ _ s
  refine wpAny_noted ?_
  refine (compTurn_list ..) ▸ ?_
  refine wpAny_bind (wpAny_standAt (wpAny_bind (wpAny_mono (turn n s hI) (fun r s₁ h₁ => ?_) fun _ _ h' => h')))
  cases r with
  | none => exact wpAny_pure h₁
  | some v =>
    refine wpAny_bind (wpAny_mono h₁ (fun _ s₁' h₁' => ?_) fun _ _ h' => h')
    refine wpAny_bind (wpAny_mono h₁' (fun _ s₂ h₂ => wpAny_bind (wpAny_mono h₂ (fun ok s₃ h₃ => ?_) fun _ _ h' => h')) fun _ _ h' => h')
    cases ok with
    | false => exact wpAny_pure ⟨rfl, h₃⟩
    | true =>
      exact wpAny_bind (wpAny_bind (wpAny_mono h₃ (fun x s₄ h₄ => wpAny_bind (wpAny_mono h₄ (fun _ s₅ h₅ => wpAny_pure (wpAny_pure ⟨rfl, h₅⟩)) fun _ _ h' => h')) fun _ _ h' => h'))
end
structure Src (W : Wd) (A : Around) (tgt : Expr) (I : Addr) (ws fp : List Addr) (xs : List AV) (St : Nat → Heap → Prop) : Prop where
  live : ∀ i h, St i h → ∀ b ∈ ws, ∃ o, h.get? b = some o
  frame : ∀ i h h', St i h → (∀ b ∈ fp, ∀ o, h.get? b = some o → h'.get? b = some o) → St i h'
  item : ∀ i (s : Shared) (K : Value → Shared → Prop) (Q : Option Value → Shared → Prop) (E : Value → Shared → Prop), i < xs.length → St i s.heap →
    (∀ v s₁, wpAny W.M A (letOwnedTupleGo tgt (.ref I) v) (fun _ s₂ => K v s₂) E s₁ → Q (some v) s₁) →
    (∀ (v : Value) (h' : Heap) (tk : Nat) (lst : List (Addr × Obj)), (∀ q ∈ lst, h'.get? q.1 = some q.2 ∧ s.heap.objs.size ≤ q.1) → (lst.map (·.1)).Nodup → Val (fun a o => (a, o) ∈ lst) (fun _ => none) (xs.getD i .none) v → St (i + 1) h' →
      (∀ b o, b ∉ ws → s.heap.get? b = some o → h'.get? b = some o) → K v { s with heap := h', toks := tk }) →
    wpAny W.M A (pyNext (.ref I)) Q E s
  done : ∀ (s : Shared) (Q : Option Value → Shared → Prop) (E : Value → Shared → Prop), St xs.length s.heap →
    (∀ h' tk, (∀ b o, b ∉ ws → s.heap.get? b = some o → h'.get? b = some o) → Q none { s with heap := h', toks := tk }) → wpAny W.M A (pyNext (.ref I)) Q E s
  self : ∀ i (s : Shared) (Q : Value → Shared → Prop) (E : Value → Shared → Prop), St i s.heap → Q (.ref I) s → wpAny W.M A (pyIter (.ref I)) Q E s
noncomputable def Same (σ σ' : St) : Prop := σ'.hp = σ.hp ∧ σ'.nxt = σ.nxt ∧ σ'.cel = σ.cel ∧ σ'.fre = σ.fre
noncomputable def testsSem (ifs : List Expr) (env : Env) : Sem Bool := forIn ifs true fun c r => if r = true then do let ok ← isTrue c env (eval c env); pure (ForInStep.yield ok) else pure (ForInStep.yield r)
noncomputable def CompTurn (W : Wd) (c : FC) (tgt : Expr) (ifs : List Expr) (elt : Expr) (σ : St) (a : AV) (r : Option Int) : Prop :=
  TriVU W c σ a (assign tgt c.env) (fun σ₁ => TriB W c σ₁ (testsSem ifs c.env) (fun b σ₂ => match b with
    | true => TriE W c σ₂ (eval elt c.env) (fun v σ₃ => ∃ i, r = some i ∧ v = .int i ∧ Same σ σ₃) noX
    | false => r = none ∧ Same σ σ₂) noX) noX
theorem capt_get : ∀ {l : List Str} {σ : St} {fs : List (Str × AV)}, capt l σ = some fs → (∀ x v, lget x fs = some v → x ∈ l ∧ (cget x σ.cel = some (some v) ∨ lget x σ.fre = some v)) ∧ ∀ x ∈ l, ∃ v, cget x σ.cel = some (some v) ∨ lget x σ.fre = some v
  | [], σ, fs, h => by cases h; exact ⟨(fun x v h => nomatch (show (none : Option AV) = some v from h)), (fun x h => by cases h)⟩
  | y :: r, σ, fs, h => by
    unfold capt at h
    split at h
    · rename_i v l h1 h2
      cases h
      obtain ⟨i1, i2⟩ := capt_get h2
      have hv : cget y σ.cel = some (some v) ∨ lget y σ.fre = some v := by
        split at h1
        · rename_i u hu; cases h1; exact .inl hu
        · exact .inr h1
      refine ⟨fun x u hx => ?_, fun x hx => ?_⟩
      · unfold lget at hx
        split at hx
        · rename_i q
          cases hx
          obtain rfl : y = x := by simpa using q
          exact ⟨.head _, hv⟩
        · exact ⟨.tail _ (i1 x u hx).1, (i1 x u hx).2⟩
      · rcases List.mem_cons.mp hx with rfl | hx
        · exact ⟨v, hv⟩
        · exact i2 x hx
    · exact nope h
section
variable {W : Wd} {c : FC} {σ : St} {P : AV → St → Prop} {X : Str → St → Prop} {N : St → Prop} {Rt : AV → St → Prop} {s : Shared} {ρ : Nat → Option Addr} {m : Str → Option Value} {cm ce frz : List (Addr × Obj)}
noncomputable def clOf (c : FC) (scope : Scope) : List (Str × Addr) := ((frees scope).map fun x => (x, (c.cl.lookup x).getD 0)).reverse
theorem lookup_map_some {f : Str → Addr} : ∀ {l : List Str} {x : Str} {a : Addr}, (l.map fun x => (x, f x)).lookup x = some a → x ∈ l ∧ a = f x
  | [], _, _, h => by exact nope h
  | y :: r, x, a, h => by
    rw [List.map_cons, List.lookup_cons] at h
    split at h
    · rename_i q; cases h; obtain rfl : x = y := by simpa using q
      exact ⟨.head _, rfl⟩
    · exact ⟨.tail _ (lookup_map_some h).1, (lookup_map_some h).2⟩
theorem map_lookup_some {f : Str → Addr} : ∀ {l : List Str} {x : Str}, x ∈ l → (l.map fun x => (x, f x)).lookup x = some (f x)
  | y :: r, x, h => by
    rw [List.map_cons, List.lookup_cons]
    split
    · rename_i q; obtain rfl : x = y := by simpa using q
      rfl
    · rename_i q
      rcases List.mem_cons.mp h with rfl | h
      · simp at q
      · exact map_lookup_some h
theorem captured_at (R : Rel W c s σ ρ m cm ce frz) {x : Str} {v : AV} (h : cget x σ.cel = some (some v) ∨ lget x σ.fre = some v) : ∃ a, c.cl.lookup x = some a := by
  rcases h with h | h
  · refine ex2 (R.C x _ h) fun a o hq0 => an2 hq0 fun h1 _ => ?_; try clear hq0; exact ⟨a, h1⟩
  · refine ex3 (R.Fv x _ h) fun a o u hq0 => an2 hq0 fun h1 _ => ?_; try clear hq0; exact ⟨a, h1⟩
theorem cl_facts (O : W.Ok c) (R : Rel W c s σ ρ m cm ce frz) {scope : Scope} {fs : List (Str × AV)} (hcap : capt (frees scope) σ = some fs) (hfn : (frees scope).Nodup) :
    closureFor scope c.env = pure (clOf c scope) ∧ ((clOf c scope).map (·.2)).Nodup ∧ (∀ x a, (clOf c scope).lookup x = some a → (∃ ov, cget x σ.cel = some ov ∧ c.cl.lookup x = some a) ∨ (∃ o, c.h₀.get? a = some o)) ∧
      ∀ x v, lget x fs = some v → ∃ a, (clOf c scope).lookup x = some a ∧ ((c.cl.lookup x = some a ∧ cget x σ.cel = some (some v)) ∨ ∃ o u, c.h₀.get? a = some o ∧ o.data = .cell (some u) ∧ Val (Z c.h₀ frz) ρ v u) := by
  obtain ⟨g1, g2⟩ := capt_get hcap
  have at_ : ∀ x ∈ frees scope, ∃ a, c.cl.lookup x = some a := fun x hx => let ⟨v, h⟩ := g2 x hx; captured_at R h
  have e : clOf c scope = (frees scope).reverse.map fun x => (x, (c.cl.lookup x).getD 0) := by unfold clOf; exact List.map_reverse.symm ▸ rfl
  refine ⟨closureFor_of at_, ?_, fun x a hx => ?_, fun x v hx => ?_⟩
  · unfold clOf
    refine List.map_reverse.symm ▸ List.map_map.symm ▸ ?_
    refine (List.reverse_perm _).nodup_iff.mpr ?_
    have key : ∀ l : List Str, l.Nodup → (∀ x ∈ l, ∃ a, c.cl.lookup x = some a) → (l.map ((fun x : Str × Addr => x.2) ∘ fun x => (x, (c.cl.lookup x).getD 0))).Nodup := by
      intro l
      induction l with
      | nil => intro _ _; exact List.nodup_nil
      | cons y r ih =>
        intro hn ha
        rw [List.nodup_cons] at hn
        rw [List.map_cons, List.nodup_cons]
        refine ⟨fun hm => ?_, ih hn.2 fun x hx => ha x (.tail _ hx)⟩
        obtain ⟨z, hz, ez⟩ := List.mem_map.mp hm
        obtain ⟨a, h1⟩ := ha y (.head _)
        obtain ⟨b, h2⟩ := ha z (.tail _ hz)
        have ez : (c.cl.lookup z).getD 0 = (c.cl.lookup y).getD 0 := ez
        rw [h1, h2] at ez
        have ez : b = a := ez
        subst ez
        exact hn.1 (lookup_inj O.cnd h2 h1 ▸ hz)
    exact key _ hfn at_
  · rw [e] at hx
    obtain ⟨h1, h2⟩ := lookup_map_some hx
    have hx' := List.mem_reverse.mp h1
    obtain ⟨b, hb⟩ := at_ x hx'
    rw [hb] at h2
    have h2 : a = b := h2
    subst h2
    obtain ⟨v, h3 | h3⟩ := g2 x hx'
    · exact .inl ⟨_, h3, hb⟩
    · refine ex3 (R.Fv x v h3) fun a' o u hq0 => an3 hq0 fun h4 h5 _ => ?_; try clear hq0
      rw [hb] at h4; cases h4
      exact .inr ⟨o, h5⟩
  · obtain ⟨h1, h2⟩ := g1 x v hx
    obtain ⟨a, ha⟩ := at_ x h1
    refine ⟨a, by refine e ▸ map_lookup_some (List.mem_reverse.mpr h1) ▸ ha.symm ▸ ?_; rfl, ?_⟩
    rcases h2 with h2 | h2
    · exact .inl ⟨ha, h2⟩
    · refine ex3 (R.Fv x v h2) fun a' o u hq0 => an4 hq0 fun h4 h5 h6 h7 => ?_; try clear hq0
      rw [ha] at h4; cases h4
      exact .inr (ex2i o u ⟨h5, h6, h7⟩)
theorem take_filterMap {g : AV → Option Int} {xs : List AV} {i : Nat} (h : i < xs.length) : (xs.take (i + 1)).filterMap g = (xs.take i).filterMap g ++ (g (xs.getD i .none)).toList := by
  refine List.take_succ_eq_append_getElem h ▸ List.filterMap_append ▸ ?_
  congr 1
  refine (show xs.getD i .none = xs[i] from by simp [List.getD, h]).symm ▸ ?_
  simp only [List.filterMap_cons, List.filterMap_nil]
  cases g xs[i] <;> rfl
theorem ints_snoc {vs : List Value} {xs : List Int} {i : Int} {t : Tok} (h : IntsAre vs xs) : IntsAre (vs ++ [.int i t]) (xs ++ [i]) := by
  induction h with
  | nil => exact .cons i t .nil
  | cons n t h ih => exact .cons n t ih
theorem comp_core {elt target iter : Expr} {ifs : List Expr} {scope : Scope} {pos : Pos} (O : W.Ok c) (R : Rel W c s σ ρ m cm ce frz) {h₂ : Heap} {t₂ : Nat} (sz₂ : s.heap.objs.size ≤ h₂.objs.size) (hk₂ : ∀ b o, s.heap.get? b = some o → h₂.get? b = some o)
    {I : Addr} {ws fp : List Addr} {xs : List AV} {Sg : Nat → Heap → Prop} (Sr : Src W c.A target I ws fp xs Sg) (hws : ∀ b ∈ ws, s.heap.objs.size ≤ b) (hwn : ws.Nodup) (st₀ : Sg 0 h₂)
    (hfp : ∀ b ∈ fp, b ∉ ws → ∃ o, Z c.h₀ frz b o ∧ isCellO o = false) (hcell : ∀ y ∈ scope.names, y.2 ≠ .cell) (hkind : scope.kind = .function)
    {fs : List (Str × AV)} (hcap : capt (frees scope) σ = some fs) (hfn : (frees scope).Nodup) (hlen : xs.length ≤ 2 ^ 24) {g : AV → Option Int}
    (turn : ∀ c', W.Ok c' → c'.cs = relabel scope c.env → c'.rm = c.rm → ∀ a ∈ xs, CompTurn W c' target ifs elt { hp := σ.hp, loc := [], cel := [], fre := fs, nxt := σ.nxt } a (g a))
    {RR : Value → Addr → Result → Shared → Prop} {E : Value → Shared → Prop}
    (hRR : ∀ D C oC its k s' ρ' cm' ce' frz', Ext ρ ρ' frz frz' → Rel W (c.wex ((C, oC) :: c.ex)) s' σ ρ' m cm' ce' frz' → s'.heap.get? D = some (listOf its k) → IntsAre its.toList (xs.filterMap g) → D ≠ c.L → c.h₀.get? D = none → (∀ q ∈ cm' ++ (ce' ++ frz'), q.1 ≠ D) → (∃ mC, s'.heap.Ns C mC) →
      (∀ x a, c.cl.lookup x = some a → a ≠ C) → C ∉ c.frames → C ∉ c.ex.map (·.1) → RR (.ref D) C (.ok .next) s') :
    wpAny W.M c.A (newList []) (fun acc s₃ => wpAny W.M c.A (newFunctionEnv scope c.env.globals (clOf c scope) [] c.env.qual none .none (some c.env)) (fun cenv s₄ =>
      codeAny W.M c.A (.compStart (.ListComp elt [⟨target, iter, ifs, 0⟩] scope pos) 0 (.ref I) acc { cenv with scope := relabel scope c.env }) (RR acc cenv.locals) s₄) E s₃) E { s with heap := h₂, toks := t₂ } := by
  refine Exists.elim R.Ldata fun oL hq0 => an3 hq0 fun hoL hdL hnL => ?_; try clear hq0
  refine an4 (cl_facts O R hcap hfn) fun hclos hcn hcl hfr => ?_
  refine wpAny_newObj_type (wpAny_newFunctionEnv hcell (by intro y hy; simp at hy) (fun h₁ hns₁ hsb₁ => ?_) hkind)
  dsimp only at hns₁ hsb₁ ⊢
  generalize hH2 : h₂.push { cls := .type "list", dict := none, data := .seq ([] : List Value).toArray } = H2 at hns₁ hsb₁ ⊢
  have hC : H2.objs.size = h₂.objs.size + 1 := by exact hH2 ▸ (Heap.size_push ..).symm ▸ rfl
  have lt₂ : ∀ b o, h₂.get? b = some o → b < h₂.objs.size := fun b o e => Heap.lt_size e
  have old₂ : ∀ b o, h₂.get? b = some o → h₁.get? b = some o := fun b o e => hsb₁.extBut b o (by refine hC ▸ ?_; exact Nat.ne_of_lt (Nat.lt_succ_of_lt (Heap.lt_size e))) (Heap.get?_push_of_some _ (hH2 ▸ Heap.get?_push_of_some _ e))
  have old : ∀ b o, s.heap.get? b = some o → h₁.get? b = some o := fun b o e => old₂ b o (hk₂ b o e)
  generalize hCa : H2.objs.size = C at hns₁ hsb₁ ⊢
  generalize hDa : h₂.objs.size = D at hC ⊢
  have hCL : s.heap.objs.size ≤ C := by lia -abstractProof
  have hDL : s.heap.objs.size ≤ D := by lia -abstractProof
  have hDC : D ≠ C := by lia -abstractProof
  have hD₁ : h₁.get? D = some (listOf #[] 0) := by
    refine hsb₁.extBut D _ hDC (Heap.get?_push_of_some _ ?_)
    refine hH2 ▸ hDa ▸ ?_
    exact Heap.get?_push_size _ rfl
  have st₁ : Sg 0 h₁ := Sr.frame _ _ _ st₀ fun b _ o e => old₂ b o e
  have wsC : ∀ b ∈ ws, b ≠ C ∧ b ≠ D := fun b hb => by
    obtain ⟨o, ho⟩ := Sr.live _ _ st₀ b hb
    have h1 : (b : Nat) < D := hDa ▸ lt₂ b o ho
    exact ⟨Nat.ne_of_lt (Nat.lt_of_lt_of_le h1 (by lia -abstractProof)), Nat.ne_of_lt h1⟩
  have wsl : ∀ i h, Sg i h → ∃ l : List (Addr × Obj), l.map (·.1) = ws ∧ ∀ q ∈ l, h.get? q.1 = some q.2 := fun i h st => by
    have : ∀ ws' : List Addr, (∀ b ∈ ws', b ∈ ws) → ∃ l : List (Addr × Obj), l.map (·.1) = ws' ∧ ∀ q ∈ l, h.get? q.1 = some q.2 := by
      intro ws'
      induction ws' with
      | nil => intro _; exact ⟨[], rfl, fun _ h => nomatch h⟩
      | cons b r ih =>
        intro hb
        obtain ⟨l, h1, h2⟩ := ih fun x hx => hb x (.tail _ hx)
        obtain ⟨o, ho⟩ := Sr.live i h st b (hb b (.head _))
        refine ⟨(b, o) :: l, by exact List.map_cons ▸ h1.symm ▸ rfl, fun q hq => ?_⟩
        rcases List.mem_cons.mp hq with rfl | hq
        · exact ho
        · exact h2 q hq
    exact this ws fun _ h => h
  obtain ⟨l₀, hl₀, hl₀'⟩ := wsl _ _ st₁
  let σi : St := { hp := σ.hp, loc := [], cel := [], fre := fs, nxt := σ.nxt }
  let ci : List (Addr × Obj) → FC := fun l => c.inner s.heap oL ce frz l true c.A C (compEnvC scope (clOf c scope) C c.env) c.rm
  have okci : ∀ l : List (Addr × Obj), (∀ q ∈ l, s.heap.objs.size ≤ q.1) → W.Ok (ci l) := fun l hl =>
    inner_ok O R hoL hdL (by refine O.stack.symm ▸ ?_; rfl) hkind rfl (fun h => nomatch h) O.eG O.eB hCL (fun _ => by refine O.kind ▸ ?_; decide) hl hcn (fun x a hx => .inr (hcl x a hx)) O.hand O.dep O.uni
  have R₁ : Rel W (ci ((D, listOf #[] 0) :: l₀)) { s with heap := h₁, toks := t₂ + ([] : List (Str × Value)).length } σi ρ (fun x => ([] : List (Str × Value)).reverse.lookup x) cm (((D, listOf #[] 0) :: l₀) ++ ceI c oL ce) [] := by
    refine Rel.enter O R hoL (nw := (D, listOf #[] 0) :: l₀) hCL hns₁ old ?_ ?_ (fun q hq => hq) rfl rfl (fun x v h => nomatch (show (none : Option AV) = some v from h)) (fun x v h => nomatch (show (none : Option (Option AV)) = some v from h)) hfr (fun x a hx => .inr (hcl x a hx))
    · intro q hq
      rcases List.mem_cons.mp hq with rfl | hq
      · exact ⟨hD₁, hDC, hDL⟩
      · have hm : q.1 ∈ ws := hl₀ ▸ List.mem_map.mpr ⟨q, hq, rfl⟩
        exact ⟨hl₀' q hq, (wsC _ hm).1, hws _ hm⟩
    · rw [List.map_cons, List.nodup_cons, hl₀]
      exact ⟨fun hm => (wsC _ hm).2 rfl, hwn⟩
  have loop : ∀ s₃ : Shared, s₃ = { s with heap := h₁, toks := t₂ + ([] : List (Str × Value)).length } →
      codeAny W.M c.A (.compLoop (.ListComp elt [⟨target, iter, ifs, 0⟩] scope pos) 0 (.ref I) (.ref D) (compEnvC scope (clOf c scope) C c.env)) (RR (.ref D) C) s₃ := by
    rintro s₃ rfl
    refine compLoop_gen (fun n s' => ∃ i its k l ρ' m' cm' ce' frz' σ', i ≤ xs.length ∧ n = xs.length - i ∧ Ext ρ ρ' [] frz' ∧ Rel W (ci ((D, listOf its k) :: l)) s' σ' ρ' m' cm' ce' frz' ∧ l.map (·.1) = ws ∧ Sg i s'.heap ∧
      IntsAre its.toList ((xs.take i).filterMap g) ∧ Same σi σ') ?_ xs.length (ex10i 0 (#[]) 0 l₀ ρ _ cm _ [] σi ⟨Nat.zero_le _, rfl, .refl, R₁, hl₀, st₁, .nil, rfl, rfl, rfl, rfl⟩)
    intro n s' hz0
    refine ex10 hz0 fun i its k l ρ' m' cm' ce' frz' σ' hz0 => an8 hz0 fun hi hn0 x' R' hl st' hits hsame => ?_
    clear hz0; subst hn0
    have hge : ∀ l : List (Addr × Obj), ∀ its k, l.map (·.1) = ws → ∀ q ∈ ((D, listOf its k) :: l), s.heap.objs.size ≤ q.1 := fun l its k hl q hq => by
      rcases List.mem_cons.mp hq with rfl | hq
      · exact hDL
      · exact hws _ (hl ▸ List.mem_map.mpr ⟨q, hq, rfl⟩)
    by_cases hlt : i < xs.length
    · have eσ : ({ σ' with loc := [] } : St) = σi := by
        refine an4 hsame fun a1 a2 a3 a4 => ?_; try clear hsame
        cases σ'; simp only at a1 a2 a3 a4; subst a1 a2 a3 a4; rfl
      have Rf : Rel W (ci ((D, listOf its k) :: l)) s' σi ρ' m' cm' ce' frz' := eσ ▸ R'.forget
      have okl := okci _ (hge l its k hl)
      refine Sr.item i s' _ _ _ hlt st' (fun v s₁ h => h) fun v h' tk lst hlst hln hv st'' hk => ?_
      obtain ⟨l', hl', hl''⟩ := wsl _ _ st''
      have hexI : ∀ q ∈ exI c oL ce, q.1 < s.heap.objs.size := fun q hq => by
        rcases List.mem_cons.mp (List.mem_filter.mp hq).1 with rfl | hq
        · exact Heap.lt_size hoL
        · exact Heap.lt_size (R.at.2.1 _ (List.mem_filter.mp hq).1).1
      obtain ⟨ce₁, R₁'⟩ := Rel.swaps (c := ci []) (l := l) (l' := l') (base := (D, listOf its k) :: exI c oL ce) (lst := lst) (h' := h') (t := tk)
        (Rel.wex (c := ci []) (l := ((D, listOf its k) :: l) ++ exI c oL ce) Rf fun q hq => by
          rcases List.mem_append.mp hq with hq | hq
          · exact List.mem_append_left _ (.tail _ hq)
          · rcases List.mem_cons.mp hq with rfl | hq
            · exact .head _
            · exact List.mem_append_right _ hq)
        (fun x a hx hm => okl.cex x a hx (by
          show a ∈ (((D, listOf its k) :: l) ++ exI c oL ce).map (·.1)
          refine List.map_append ▸ List.map_cons ▸ ?_; exact List.mem_append_left _ (.tail _ hm)))
        (fun b hb hm => okl.exf b hb (by
          show b ∈ (((D, listOf its k) :: l) ++ exI c oL ce).map (·.1)
          refine List.map_append ▸ List.map_cons ▸ ?_; exact List.mem_append_left _ (.tail _ hm)))
        (fun q hq hm => by
          rw [hl] at hm
          rcases List.mem_cons.mp hq with rfl | hq
          · exact (wsC _ hm).2 rfl
          · exact absurd (hexI q hq) (Nat.not_lt.mpr (hws _ hm)))
        (fun b o hb e => hk b o (hl ▸ hb) e) (hl'.trans hl.symm) hl'' hlst hln
      have R₁ : Rel W (ci ((D, listOf its k) :: l')) { s' with heap := h', toks := tk } σi ρ' m' cm' ce₁ (lst ++ frz') := Rel.wex (c := ci []) (l := l' ++ ((D, listOf its k) :: exI c oL ce)) R₁' fun q hq => by
        rcases List.mem_append.mp hq with hq | hq
        · rcases List.mem_cons.mp hq with rfl | hq
          · exact List.mem_append_right _ (.head _)
          · exact List.mem_append_left _ hq
        · exact List.mem_append_right _ (.tail _ hq)
      have okl' := okci _ (hge l' its k hl')
      have hd : xs.getD i .none ∈ xs := by refine (show xs.getD i .none = xs[i] from by simp [List.getD, hlt]) ▸ ?_; exact List.getElem_mem hlt
      have x₁ : Ext ρ ρ' [] (lst ++ frz') := ⟨x'.r, fun _ h => nomatch h⟩
      have keepS : ∀ {sa sb : Shared} {σa σb : St} {ρa ρb : Nat → Option Addr} {ma mb : Str → Option Value} {ca ea fa cb eb fb : List (Addr × Obj)} {oa ob : Obj},
          Rel W (ci ((D, oa) :: l')) sa σa ρa ma ca ea fa → Rel W (ci ((D, ob) :: l')) sb σb ρb mb cb eb fb → Sg (i + 1) sa.heap → Sg (i + 1) sb.heap := by
        intro sa sb σa σb ρa ρb ma mb ca ea fa cb eb fb oa ob Ra Rb sta
        refine Sr.frame _ _ _ sta fun b hb o ho => ?_
        by_cases hbw : b ∈ ws
        · rw [← hl'] at hbw
          obtain ⟨q, hq, rfl⟩ := List.mem_map.mp hbw
          have h1 := (Ra.at.2.1 _ (Ra.ex q (.tail _ (List.mem_append_left _ hq)))).1
          have h2 := (Rb.at.2.1 _ (Rb.ex q (.tail _ (List.mem_append_left _ hq)))).1
          rw [h1] at ho; cases ho; exact h2
        · obtain ⟨o', z, _⟩ := hfp b hb hbw
          have z' : (restr s.heap (kp c ce frz)).get? b = some o' := (z_inner R (l := []) z).elim id (fun h => nomatch h)
          have h1 := Ra.F.keep _ _ z'
          rw [h1] at ho; cases ho
          exact Rb.F.keep _ _ z'
      refine wpAny_mono (turn (ci ((D, listOf its k) :: l')) okl' rfl rfl _ hd _ ρ' m' cm' ce₁ (lst ++ frz') v R₁ (hv.mono (fun a o z => .inr (List.mem_append_left _ z)) (fun n a h => nomatch (show (none : Option Addr) = some a from h)))) (fun _ s₂ zz => Qu.el zz fun ρ₂ m₂ cm₂ ce₂ frz₂ σ₂ x₂ R₂ q₂ => ?_) fun _ _ z => z.no.elim
      refine wpAny_mono (q₂ s₂ ρ₂ m₂ cm₂ ce₂ frz₂ R₂) (fun b s₃ zz => Qu.el zz fun ρ₃ m₃ cm₃ ce₃ frz₃ σ₃ x₃ R₃ q₃ => ?_) fun _ _ z => z.no.elim
      cases b with
      | false =>
        rw [if_neg (by decide)]
        refine ⟨xs.length - (i + 1), Nat.sub_lt_sub_left ‹i < xs.length› (Nat.lt_succ_self i), (ex10i (i + 1) its k l' ρ₃ m₃ cm₃ ce₃ frz₃ σ₃ ⟨hlt, rfl, (x₁.trans x₂).trans x₃, R₃, hl', keepS R₁ R₃ st'', ?_, q₃.2⟩)⟩
        refine take_filterMap hlt ▸ q₃.1 ▸ (Option.toList_none ..) ▸ (List.append_nil ..) ▸ ?_; exact hits
      | true =>
        refine if_pos rfl ▸ ?_
        refine wpAny_mono (q₃ s₃ ρ₃ m₃ cm₃ ce₃ frz₃ R₃) (fun y s₄ z₄ => ex7 z₄ fun ρ₄ m₄ cm₄ ce₄ frz₄ av σ₄ z₄ => an4 z₄ fun x₄ R₄ hy z₄ => z₄.elim fun i' z₄ => an3 z₄ fun hg hav hsame₄ => ?_) fun _ _ z => z.no.elim
        subst hav
        obtain ⟨t, rfl⟩ := hy
        have hD₄ := (R₄.at.2.1 _ (R₄.ex (D, listOf its k) (.head _))).1
        have hsz : its.size ≤ sizeLine := by
          have e1 := hits.length
          rw [Array.length_toList] at e1
          refine e1 ▸ ?_
          refine Nat.le_trans (List.length_filterMap_le _ _) (Nat.le_trans (List.length_take_le' ..) ?_)
          exact hlen
        refine append_at (hsz := hsz) hD₄ fun h₅ hs₅ ho₅ => ?_
        have okl₄ := okci _ (hge l' its k hl')
        obtain ⟨ce₅, R₅'⟩ := Rel.swaps (c := ci []) (l := [(D, listOf its k)]) (l' := [(D, listOf (its.push (.int i' t)) (k + 1))]) (base := l' ++ exI c oL ce) (lst := []) (h' := h₅) (t := s₄.toks) R₄
          (fun x a hx hm => okl₄.cex x a hx (by refine List.mem_singleton.mp hm ▸ ?_; exact .head _))
          (fun b hb hm => okl₄.exf b hb (by refine List.mem_singleton.mp hm ▸ ?_; exact .head _))
          (fun q hq hm => by
            have hm : q.1 = D := List.mem_singleton.mp hm
            rcases List.mem_append.mp hq with hq | hq
            · exact (wsC q.1 (hl' ▸ List.mem_map.mpr ⟨q, hq, rfl⟩)).2 hm
            · exact absurd (hexI q hq) (by refine hm ▸ ?_; exact Nat.not_lt.mpr hDL))
          (fun b o hb e => hs₅.extBut b o (fun e' => hb (by refine e'.symm ▸ ?_; exact .head _)) e) rfl (fun q hq => by refine List.mem_singleton.mp hq ▸ ?_; exact ho₅) (fun _ h => nomatch h) List.nodup_nil
        have R₅ : Rel W (ci ((D, listOf (its.push (.int i' t)) (k + 1)) :: l')) { s₄ with heap := h₅ } σ₄ ρ₄ m₄ cm₄ ce₅ frz₄ := R₅'
        refine ⟨xs.length - (i + 1), Nat.sub_lt_sub_left ‹i < xs.length› (Nat.lt_succ_self i), (ex10i (i + 1) (its.push (.int i' t)) (k + 1) l' ρ₄ m₄ cm₄ ce₅ frz₄ σ₄ ⟨hlt, rfl, ((x₁.trans x₂).trans x₃).trans x₄, R₅, hl', keepS R₁ R₅ st'', ?_, hsame₄⟩)⟩
        refine take_filterMap hlt ▸ hg ▸ Array.toList_push.symm ▸ ?_
        exact ints_snoc hits
    · have hi' : i = xs.length := by lia -abstractProof
      subst hi'
      refine Sr.done s' _ _ st' fun h' tk hk => ?_
      rw [List.take_length] at hits
      have Din : (D, listOf its k) ∈ ce' := R'.ex _ (.head _)
      have lin : ∀ q ∈ l, q ∈ ce' := fun q hq => R'.ex q (List.mem_cons_of_mem _ (List.mem_append_left _ hq))
      obtain ⟨ce'', Rz, ez, vz, az, _, clt⟩ := Rel.leave O R hoL hnL hCL R' x'.r (h'' := h') (t := tk) (wl := ws) (fun b o _ hb e => hk b o hb e) (fun b hb => by
          rw [← hl] at hb
          obtain ⟨q, hq, rfl⟩ := List.mem_map.mp hb
          exact ⟨⟨q.2, lin q hq⟩, hge l its k hl q (.tail _ hq)⟩) (acc := []) (fun _ h => nomatch h) (fun _ h => nomatch h) (fun _ h => nomatch h) List.nodup_nil
      have nd' := nd_split R'.nd
      have Dn : c.h₀.get? D = none := by
        cases e : c.h₀.get? D with
        | none => rfl
        | some o => exact absurd (Heap.lt_size (R.F.keep _ _ e)) (Nat.not_lt.mpr hDL)
      have DL' : D ≠ c.L := fun e => absurd (Heap.lt_size hoL) (by refine e ▸ ?_; exact Nat.not_lt.mpr hDL)
      have Dfar : ∀ q ∈ cm' ++ (ce'' ++ ([] ++ (frz' ++ frz))), q.1 ≠ D := fun q hq e => by
        rcases List.mem_append.mp hq with hq | hq
        · exact nd'.2.2.2.1 q hq _ Din e
        · rcases List.mem_append.mp hq with hq | hq
          · exact absurd (clt q hq) (by refine e ▸ ?_; exact Nat.not_lt.mpr hDL)
          · rw [List.nil_append] at hq
            rcases List.mem_append.mp hq with hq | hq
            · exact nd'.2.2.2.2.2 _ Din q hq e.symm
            · exact absurd (R.lt q (by simp [hq])) (by refine e ▸ ?_; exact Nat.not_lt.mpr hDL)
      have hD' : h'.get? D = some (listOf its k) := hk D _ (fun hm => (wsC D hm).2 rfl) (R'.at.2.1 _ Din).1
      have eσ : ({ σ with hp := σ'.hp, nxt := σ'.nxt } : St) = σ := by
        obtain ⟨a1, a2, _⟩ := hsame
        exact a1 ▸ a2 ▸ rfl
      rw [eσ] at Rz
      refine ex3 R'.F.ns fun oC es ep hq0 => an3 hq0 fun hC1 hC2 hC3 => ?_; try clear hq0
      have hC' : h'.get? C = some oC := hk C oC (fun hm => (wsC C hm).1 rfl) hC1
      have hCn : c.h₀.get? C = none := by
        cases e : c.h₀.get? C with
        | none => rfl
        | some o => exact absurd (Heap.lt_size (R.F.keep _ _ e)) (Nat.not_lt.mpr hCL)
      refine hRR D C oC its k _ ρ' cm' _ _ ez (Rel.watchOld Rz hC' (fun e => absurd (Heap.lt_size hoL) (by refine (show C = c.L from e) ▸ ?_; exact Nat.not_lt.mpr hCL)) hCn az) hD' hits DL' Dn (fun q hq e => ?_) (ex4i m' oC es ep ⟨hC', hC2, hC3⟩) ?_ ?_ ?_
      · have pm : (cm' ++ ((C, oC) :: ce'' ++ ([] ++ (frz' ++ frz)))).Perm ((C, oC) :: (cm' ++ (ce'' ++ ([] ++ (frz' ++ frz))))) := List.perm_middle
        rcases List.mem_cons.mp (pm.mem_iff.mp hq) with rfl | hq
        · exact hDC e.symm
        · exact Dfar q hq e
      · rintro x a hx rfl
        rcases R.cv x a hx with h | h
        · obtain ⟨q, hq, e⟩ := List.mem_map.mp h
          exact absurd (R.lt q (by simp [hq])) (by refine e ▸ ?_; exact Nat.not_lt.mpr hCL)
        · obtain ⟨o, ho⟩ := Option.isSome_iff_exists.mp h
          exact absurd (Heap.lt_size (R.F.keep _ _ ho)) (Nat.not_lt.mpr hCL)
      · intro hb
        refine ex2 (R.frameAt O hb) fun o sl hq0 => an4 hq0 fun _ _ h1 _ => ?_; try clear hq0
        exact absurd (R.lt _ (by simp [h1] : (C, ({ o with slots := sl } : Obj)) ∈ cm ++ (ce ++ frz))) (Nat.not_lt.mpr hCL)
      · intro hb
        obtain ⟨q, hq, e⟩ := List.mem_map.mp hb
        exact absurd (R.lt q (by simp [R.ex q hq])) (by refine e ▸ ?_; exact Nat.not_lt.mpr hCL)
  exact codeAny_compStart_list (loop _ rfl) (Sr.self 0 _ _ _ st₁ (loop _ rfl))
end
noncomputable def enumA : Int → List Int → List AV
  | _, [] => []
  | i, x :: r => .tup2 (.int i) (.int x) :: enumA (i + 1) r
noncomputable abbrev enumAV (xs : List Int) : List AV := enumA 0 xs
theorem enumA_length : ∀ (xs : List Int) (k : Int), (enumA k xs).length = xs.length
  | [], _ => rfl
  | _ :: r, k => by simp only [enumA, List.length_cons, enumA_length r]
theorem enumA_getD : ∀ (xs : List Int) (k : Int) (i : Nat), i < xs.length → (enumA k xs).getD i .none = .tup2 (.int (k + i)) (.int (xs.getD i 0))
  | x :: r, k, 0, _ => by simp [enumA, List.getD]
  | x :: r, k, i + 1, h => by
    have := enumA_getD r (k + 1) i (by simpa using h)
    simp only [enumA, List.getD_cons_succ, this]
    congr 2
    push_cast
    lia -abstractProof
section
variable {W : Wd} {c : FC} {σ : St} {P : AV → St → Prop} {X : Str → St → Prop} {N : St → Prop} {Rt : AV → St → Prop} {s : Shared} {ρ : Nat → Option Addr} {m : Str → Option Value} {cm ce frz : List (Addr × Obj)}
theorem Src.ofWalks {A : Around} {I : Addr} {fp : List Addr} {xs : List Int} {St : Nat → Heap → Prop} {tgt : Expr} (ht : ∀ it v, letOwnedTupleGo tgt it v = pure ()) (live : ∀ i h, St i h → ∃ o, h.get? I = some o)
    (Wk : Walks W.prog W.w A I fp [I] xs.length (fun i v => ∃ t, v = .int (xs.getD i 0) t) St) : Src W A tgt I [I] fp (xs.map .int) St where
  live := fun i h st b hb => by refine List.mem_singleton.mp hb ▸ ?_; exact live i h st
  frame := Wk.frame
  item := fun i s K Q E hi st hq hk => by
    rw [List.length_map] at hi
    refine Wk.item i s _ _ hi st fun v h' tk hv st' hs => hq _ _ ?_
    refine (ht ..) ▸ ?_
    refine wpAny_pure (hk v h' tk [] (fun _ h => nomatch h) List.nodup_nil ?_ st' hs)
    obtain ⟨t, rfl⟩ := hv
    refine (show (xs.map AV.int).getD i .none = .int (xs.getD i 0) from by simp [List.getD, hi]) ▸ ?_
    exact ⟨t, rfl⟩
  done := fun s Q E st hk => Wk.done s Q E (by rwa [List.length_map] at st) hk
  self := Wk.self
theorem Src.enum {A : Around} (hh : A.handled = none) {e it l : Addr} (hei : e ≠ it) (hle : l ≠ e) (hli : l ≠ it) {its : Array Value} {xs : List Int} (hi : IntsAre its.toList xs) {elts : List Expr} {k : Nat} {pos : Pos} :
    Src W A (.Tuple elts k pos) e [e, it] [e, it, l] (enumAV xs) (fun i h => (∃ old, IsEnum h e it i old) ∧ h.IsListIter it l i ∧ h.IsList l its) where
  live := fun i h st b hb => by
    refine cps fun GG kG => ?_; obtain ⟨⟨old, he⟩, ⟨o, ho, _⟩, _⟩ := st; refine kG ?_
    rcases List.mem_cons.mp hb with rfl | hb
    · exact ⟨_, he⟩
    · refine List.mem_singleton.mp hb ▸ ?_; exact ⟨o, ho⟩
  frame := fun i h h' hst hk => by
    obtain ⟨⟨old, he⟩, hit, hl⟩ := hst
    exact ⟨⟨old, hk e (by simp) _ he⟩, hit.at fun o x => hk it (by simp) o x, hl.at fun o x => hk l (by simp) o x⟩
  item := fun i s K Q E hlt st hq hk => by
    obtain ⟨⟨old, he⟩, hit, hl⟩ := st
    have hlt : i < xs.length := by rwa [enumA_length] at hlt
    obtain ⟨t, ht⟩ := intsAre_get hi (k := i) (hlt)
    have hx : its[i]? = some (.int (xs.getD i 0) t) := by refine (Array.getElem?_toList) ▸ ?_; exact ht
    refine wpAny_pyNext_enum_item he hit hl hx hei fun h' ho hit' hT hsz hs => hq _ _ ?_
    have hTe : s.heap.objs.size ≠ e := Nat.ne_of_gt (Heap.lt_size he)
    have hTi : s.heap.objs.size ≠ it := by obtain ⟨_, x, _⟩ := hit; exact Nat.ne_of_gt (Heap.lt_size x)
    refine wpAny_letOwnedTupleGo_enum ho fun h₂ he₂ hs₂ => ?_
    have hk₂ : ∀ b o, b ∉ [e, it] → h'.get? b = some o → h₂.get? b = some o := fun b o hb y => (hs₂.2 b fun e' => hb (by simp [e'])).trans y
    refine hk (.ref s.heap.objs.size) h₂ (s.toks + 1) [(s.heap.objs.size, tupOb #[.int i s.toks, .int (xs.getD i 0) t] 0)] (fun q hq => ?_) (by simp) ?_ ⟨⟨_, by simpa using he₂⟩, hit'.at fun o y => (hs₂.2 it hei.symm).trans y, (hl.at fun o x => hs l o hle hli x).at fun o y => (hs₂.2 l hle).trans y⟩ fun b o hb y => hk₂ b o hb (hs b o (fun e' => hb (by simp [e'])) (fun e' => hb (by simp [e'])) y)
    · refine List.mem_singleton.mp hq ▸ ?_
      exact ⟨hk₂ _ _ (by simp [hTe, hTi]) hT, Nat.le_refl _⟩
    · refine enumA_getD xs 0 i hlt ▸ (Int.zero_add ..) ▸ ?_
      exact ex4i _ _ _ _ ⟨rfl, .head _, ⟨_, rfl⟩, ⟨_, rfl⟩⟩
  done := fun s Q E st hk => by
    obtain ⟨⟨old, he⟩, hit, hl⟩ := st
    have hn : its[(enumAV xs).length]? = none := by
      have := hi.length
      rw [Array.length_toList] at this
      refine Array.getElem?_eq_none ?_
      refine (enumA_length ..) ▸ this.symm ▸ ?_; exact Nat.le_refl _
    exact wpAny_pyNext_enum_end hh he hit hl hn fun h' hx => hk h' s.toks fun b o hb y => hx b o (fun e' => hb (by simp [e'])) y
  self := fun i s Q E st hQ => by
    obtain ⟨⟨old, he⟩, _⟩ := st
    exact wpAny_pyIter_enum he hQ
theorem iter_list (O : W.Ok c) (R : Rel W c s σ ρ m cm ce frz) {tgt : Expr} (ht : nameOnly tgt = true) {a : AV} {xs : List Int} (hx : itV a = some xs) {va : Value} (hv : Val (Z c.h₀ frz) ρ a va) {Q : Value → Shared → Prop} {E : Value → Shared → Prop}
    (k : ∀ h₂ I ws fp Sg, s.heap.objs.size ≤ h₂.objs.size → (∀ b o, s.heap.get? b = some o → h₂.get? b = some o) → Src W c.A tgt I ws fp (xs.map .int) Sg → (∀ b ∈ ws, s.heap.objs.size ≤ b) → ws.Nodup → Sg 0 h₂ → (∀ b ∈ fp, b ∉ ws → ∃ o, Z c.h₀ frz b o ∧ isCellO o = false) →
      Q (.ref I) { s with heap := h₂, toks := s.toks }) : wpAny W.M c.A (pyIter va) Q E s := by
  unfold itV at hx
  split at hx
  · cases hx
    refine ex3 hv fun l its n hq0 => an3 hq0 fun qe3 zl hi => ?_; try clear hq0; try clear hv; subst qe3
    have hl := Z.get R zl
    have hL : s.heap.IsList l its := ⟨_, hl, rfl, n, rfl⟩
    refine wpAny_pyIter_list hL ?_
    have hne : l ≠ s.heap.objs.size := Nat.ne_of_lt (Heap.lt_size hl)
    have Wk := Walks.list (prog := W.prog) (w := W.w) (A := c.A) O.hand s.heap.objs.size l hne its
    have hlen : its.size = xs.length := by have := hi.length; rwa [Array.length_toList] at this
    refine k _ s.heap.objs.size [s.heap.objs.size] [s.heap.objs.size, l] (fun i h => h.IsListIter s.heap.objs.size l i ∧ h.IsList l its) (by refine (Heap.size_push ..) ▸ ?_; exact Nat.le_succ _) (fun b o e => Heap.get?_push_of_some _ e) (Src.ofWalks (letOwned_no ht) (fun i h st => let ⟨o, ho, _⟩ := st.1; ⟨o, ho⟩) ?_)
      (fun b hb => by refine (List.mem_singleton.mp hb).symm ▸ ?_; exact Nat.le_refl _) (by simp) ⟨⟨_, Heap.get?_push_size _ rfl, rfl, rfl⟩, hL.push _⟩ ?_
    · refine hlen ▸ ?_
      refine ⟨Wk.sub, Wk.frame, fun i s Q E hi' st hQ => Wk.item i s Q E hi' st fun v h' tk hv => hQ v h' tk ?_, Wk.done, Wk.self⟩
      obtain ⟨t, ht'⟩ := intsAre_get hi (k := i) (by lia -abstractProof)
      refine ⟨t, ?_⟩
      rw [← Array.getElem?_toList, ht'] at hv
      exact (Option.some.inj hv).symm
    · intro b hb hbI
      rcases List.mem_cons.mp hb with h | h
      · exact absurd (by refine h.symm ▸ ?_; exact .head _) hbI
      · refine List.mem_singleton.mp h ▸ ?_; exact ⟨_, zl, rfl⟩
  · split at hx
    · rename_i lo hi hb
      cases hx
      refine ex4 hv fun a t₁ t₂ t₃ hq0 => an2 hq0 fun qe4 zl => ?_; try clear hq0; try clear hv; subst qe4
      obtain ⟨h1, h2⟩ := small_of hb
      refine wpAny_pyIter_range (Z.get R zl) h1 ?_
      have Wk := Walks.range (prog := W.prog) (w := W.w) (A := c.A) O.hand s.heap.objs.size lo 1 (irange lo hi).length
      refine k _ s.heap.objs.size [s.heap.objs.size] [s.heap.objs.size] (fun i h => IsRangeIter h s.heap.objs.size (lo + (i : Nat) * 1) (((irange lo hi).length : Int) - (i : Nat)) 1) (by refine (Heap.size_push ..) ▸ ?_; exact Nat.le_succ _) (fun b o e => Heap.get?_push_of_some _ e) (Src.ofWalks (letOwned_no ht) (fun i h st => ⟨_, st⟩) ?_)
        (fun b hb => by refine (List.mem_singleton.mp hb).symm ▸ ?_; exact Nat.le_refl _) (by simp) ?_ ?_
      · refine ⟨Wk.sub, Wk.frame, fun i s Q E hi' st hQ => Wk.item i s Q E hi' st fun v h' tk hv => hQ v h' tk ?_, Wk.done, Wk.self⟩
        obtain ⟨t, rfl⟩ := hv
        exact ⟨t, by exact irange_getD hi' ▸ (Int.mul_one ..) ▸ rfl⟩
      · show (s.heap.push _).get? _ = _
        rw [Heap.get?_push_size _ rfl, h2, irange_length]
        simp
      · intro b hb hbI
        exact absurd hb hbI
    · exact nope hx
  · exact nope hx
noncomputable def nodupS : List Str → Bool
  | [] => true
  | x :: r => !(r.any fun y => y == x) && nodupS r
theorem nodupS_iff : ∀ {l : List Str}, nodupS l = true → l.Nodup
  | [], _ => List.nodup_nil
  | x :: r, h => by
    simp only [nodupS, Bool.and_eq_true, Bool.not_eq_true'] at h
    rw [List.nodup_cons]
    refine ⟨fun hm => ?_, nodupS_iff h.2⟩
    have : r.any (fun y => y == x) = true := List.any_eq_true.mpr ⟨x, hm, by simp⟩
    rw [this] at h; exact nomatch h.1
noncomputable def compOk (scope : Scope) : Bool := nodupS (frees scope) && scope.names.all (fun y => y.2 != .cell && (y.2 != .local || scope.names.lookup y.1 == some .local)) && scope.kind == .function
end
noncomputable def ItrOk (W : Wd) (c : FC) (σ : St) (target iter : Expr) (P₁ : List AV → St → Prop) (X : Str → St → Prop) : Prop :=
  ∀ s ρ m cm ce frz, Rel W c s σ ρ m cm ce frz → ∀ Q : Value → Shared → Prop, (∀ s₁ ρ₁ m₁ cm₁ ce₁ frz₁ σ₁ xs h₂ I ws fp Sg, Ext ρ ρ₁ frz frz₁ → Rel W c s₁ σ₁ ρ₁ m₁ cm₁ ce₁ frz₁ → P₁ xs σ₁ → s₁.heap.objs.size ≤ h₂.objs.size →
    (∀ b o, s₁.heap.get? b = some o → h₂.get? b = some o) → Src W c.A target I ws fp xs Sg → (∀ b ∈ ws, s₁.heap.objs.size ≤ b) → ws.Nodup → Sg 0 h₂ → (∀ b ∈ fp, b ∉ ws → ∃ o, Z c.h₀ frz₁ b o ∧ isCellO o = false) → Q (.ref I) { s₁ with heap := h₂, toks := s₁.toks }) →
    wpAny W.M c.A (eval iter c.env) (fun x s₁ => wpAny W.M c.A (pyIter x) Q (Qx W c ρ frz X) s₁) (Qx W c ρ frz X) s
section
variable {W : Wd} {c : FC} {σ : St} {P : AV → St → Prop} {X : Str → St → Prop} {N : St → Prop} {Rt : AV → St → Prop} {s : Shared} {ρ : Nat → Option Addr} {m : Str → Option Value} {cm ce frz : List (Addr × Obj)}
theorem itr_plain {target iter : Expr} {P₁ : AV → St → Prop} {P₂ : List AV → St → Prop} (O : W.Ok c) (ht : nameOnly target = true) (h : TriE W c σ (eval iter c.env) P₁ X) (k : ∀ a σ₁, P₁ a σ₁ → ∃ xs, itV a = some xs ∧ P₂ (xs.map .int) σ₁) : ItrOk W c σ target iter P₂ X := by
  intro s ρ m cm ce frz R Q hQ
  refine wpAny_mono (h s ρ m cm ce frz R) (fun va s₁ zz => Qv.el zz fun ρ₁ m₁ cm₁ ce₁ frz₁ av σ₁ e₁ R₁ hv q => ?_) fun _ _ z => z
  obtain ⟨xs, hx, hp⟩ := k av σ₁ q
  exact iter_list O R₁ ht hx hv fun h₂ I ws fp Sg a1 a2 a3 a4 a5 a6 a7 => hQ s₁ ρ₁ m₁ cm₁ ce₁ frz₁ σ₁ _ h₂ I ws fp Sg e₁ R₁ hp a1 a2 a3 a4 a5 a6 a7
theorem itr_enum {elts : List Expr} {k : Nat} {tpos : Pos} {f : Expr} {e : Expr} {pos : Pos} {P₁ : AV → St → Prop} {P₂ : List AV → St → Prop} (O : W.Ok c) (ha : isAtt f = false) (hst : isStar e = false) (hf : TriE W c σ (eval f c.env) (fun v σ' => v = .con (.type "enumerate") ∧ σ' = σ) X)
    (h : TriE W c σ (eval e c.env) P₁ X) (k₂ : ∀ a σ₁, P₁ a σ₁ → ∃ xs, a = .lst xs ∧ P₂ (enumAV xs) σ₁) : ItrOk W c σ (.Tuple elts k tpos) (.Call f [e] [] pos) P₂ X := by
  intro s ρ m cm ce frz R Q hQ
  refine eval_Call ha ▸ ?_
  refine wpAny_bind (wpAny_mono (hf s ρ m cm ce frz R) (fun v s₁ zz => Qv.el zz fun ρ₁ m₁ cm₁ ce₁ frz₁ av σ₁ e₁ R₁ hv q => ?_) fun _ _ z => z)
  obtain ⟨rfl, rfl⟩ := q
  cases hv
  have hs : ([e] : List Expr).all (fun e => !isStar e) = true := by simp [hst]
  refine callWith_of (P := fun h => W.K.In h) (by refine (starEach_plain hs).symm ▸ ?_; rfl) (fun h X => keeps_V (K := W.K) rfl h X) ?_
  refine wpAny_mono (triL_evalArgs (X := X) (P := fun as σ₂ => ∃ xs, as = [.lst xs] ∧ P₂ (enumAV xs) σ₂) hs (triL_cons hst (P₁ := P₁) h fun a σ₁ ha => triL_nil ?_) R₁ (Q := fun a s' => ∃ ρ' m' cm' ce' frz' xs σ' va, a = ⟨[va], []⟩ ∧ Ext ρ₁ ρ' frz₁ frz' ∧ Rel W c s' σ' ρ' m' cm' ce' frz' ∧ Val (Z c.h₀ frz') ρ' (.lst xs) va ∧ P₂ (enumAV xs) σ')
    fun vs s' ρ' m' cm' ce' frz' as σ' x R' hv q => ?_) (fun a s' z => ex8 z fun ρ' m' cm' ce' frz' xs σ' va z => an5 z fun ea x R' hv q => ⟨O.X.keeps R'.F.keep, ?_⟩) fun _ _ z => z.ext e₁
  · obtain ⟨xs, rfl, hp⟩ := k₂ a σ₁ ha
    exact ⟨xs, rfl, hp⟩
  · obtain ⟨xs, rfl, hp⟩ := q
    cases vs with
    | nil => exact hv.elim
    | cons va r =>
      cases r with
      | cons _ _ => exact hv.2.elim
      | nil => exact ex8i ρ' m' cm' ce' frz' xs σ' va ⟨rfl, x, R', hv.1, hp⟩
  · subst ea
    refine ex3 hv fun l its n hq0 => an3 hq0 fun qe3 zl hi => ?_; try clear hq0; try clear hv; subst qe3
    have hl := Z.get R' zl
    have hL : s'.heap.IsList l its := ⟨_, hl, rfl, n, rfl⟩
    have hlt := Heap.lt_size hl
    show wpAny W.M c.A (call (.type "enumerate") [.ref l]) _ _ s'
    refine call_enumerate_list hL fun h' hE hI hsz hk => ?_
    refine wpAny_pyIter_enum hE ?_
    refine hQ s' ρ' m' cm' ce' frz' σ' (enumAV xs) h' (s'.heap.objs.size + 1) [s'.heap.objs.size + 1, s'.heap.objs.size] [s'.heap.objs.size + 1, s'.heap.objs.size, l] _ (e₁.trans x) R' q (by lia -abstractProof) hk
      (Src.enum O.hand (Nat.succ_ne_self _) (Nat.ne_of_lt (Nat.lt_succ_of_lt hlt)) (Nat.ne_of_lt hlt) hi) (fun b hb => ?_) (by simp) ⟨⟨_, hE⟩, hI, hL.at fun o x => hk l o x⟩ fun b hb hn => ?_
    · rcases List.mem_cons.mp hb with rfl | hb
      · exact Nat.le_succ _
      · refine (List.mem_singleton.mp hb).symm ▸ ?_; exact Nat.le_refl _
    · have : b = l := by
        rcases List.mem_cons.mp hb with rfl | hb
        · exact absurd (List.mem_cons_self ..) hn
        · rcases List.mem_cons.mp hb with rfl | hb
          · exact absurd (List.mem_cons_of_mem _ (List.mem_cons_self ..)) hn
          · exact List.mem_singleton.mp hb
      subst this
      exact ⟨_, zl, rfl⟩
theorem compOk_iff {scope : Scope} (h : compOk scope = true) : (frees scope).Nodup ∧ (∀ y ∈ scope.names, y.2 ≠ .cell) ∧ scope.kind = .function ∧ ∀ z ∈ scope.names, z.2 = .local → scope.names.lookup z.1 = some .local := by
  unfold compOk at h
  simp only [Bool.and_eq_true, List.all_eq_true, beq_iff_eq, bne_iff_ne, Bool.or_eq_true] at h
  obtain ⟨⟨h1, h2⟩, h3⟩ := h
  exact ⟨nodupS_iff h1, fun y hy => (h2 y hy).1, h3, fun z hz hl => (h2 z hz).2.resolve_left fun hn => hn hl⟩
noncomputable def CompAll (W : Wd) (c : FC) (target elt : Expr) (ifs : List Expr) (scope : Scope) (xs : List AV) (σ : St) (g : AV → Option Int) : Prop :=
  xs.length ≤ 2 ^ 24 ∧ ∃ fs, capt (frees scope) σ = some fs ∧ ∀ c', W.Ok c' → c'.cs = relabel scope c.env → c'.rm = c.rm → ∀ a ∈ xs, CompTurn W c' target ifs elt { hp := σ.hp, loc := [], cel := [], fre := fs, nxt := σ.nxt } a (g a)
theorem tri_ListComp {elt target iter : Expr} {ifs : List Expr} {scope : Scope} {pos : Pos} {P₁ : List AV → St → Prop} (O : W.Ok c) (hs : isSet iter = false) (hok : compOk scope = true) (hcap : (capt (frees scope) σ).isSome = true)
    (h : ItrOk W c σ target iter P₁ X) (k : ∀ xs σ₁, P₁ xs σ₁ → ∃ g, CompAll W c target elt ifs scope xs σ₁ g ∧ P (.lst (xs.filterMap g)) σ₁) : TriE W c σ (eval (.ListComp elt [⟨target, iter, ifs, 0⟩] scope pos) c.env) P X := by
  intro s ρ m cm ce frz R
  refine an4 (compOk_iff hok) fun hfn hcell hkind hnames => ?_
  obtain ⟨fs₀, hfs₀⟩ := Option.isSome_iff_exists.mp hcap
  refine (eval_ListComp ..) ▸ ?_
  refine wpAny_comprehension_free (use := none) rfl (folded_no hs) (cl_facts O R hfs₀ hfn).1 hkind hnames (h s ρ m cm ce frz R _ fun s₁ ρ₁ m₁ cm₁ ce₁ frz₁ σ₁ xs h₂ I ws fp Sg e₁ R₁ hp a1 a2 a3 a4 a5 a6 a7 => ?_)
  refine cps fun GG kG => ?_; obtain ⟨g, ⟨hlen, fs, hcap₁, turn⟩, hP⟩ := k xs σ₁ hp; refine kG ?_
  refine comp_core O R₁ a1 a2 a3 a4 a5 a6 a7 hcell hkind hcap₁ hfn hlen turn (RR := fun acc C => compPost W.M c.A (Qx W c ρ frz X) none (Qv W c ρ frz P) acc C) fun D C oC its k s' ρ' cm' ce' frz' x' R₀' hD hits DL Dn Df hns hc hf he => ?_
  obtain ⟨mC, hns⟩ := hns
  have R' := R₀'.freezeOld hD DL Dn Df
  have hv : Val (Z c.h₀ ((D, listOf its k) :: frz')) ρ' (.lst (xs.filterMap g)) (.ref D) := ex3i D its k ⟨rfl, .inr (.head _), hits⟩
  have x' : Ext ρ₁ ρ' frz₁ ((D, listOf its k) :: frz') := ⟨x'.r, fun q hq => .tail _ (x'.z q hq)⟩
  refine ⟨mC, hns, fun h'' hs'' => ?_⟩
  obtain ⟨ce₂, R₂⟩ := R'.unwatch (l := c.ex) (h' := h'') (t := s'.toks) hc hf he fun b o hb e => hs''.extBut b o (fun e' => hb (by refine e'.symm ▸ ?_; exact .head _)) e
  exact ex7i ρ' m₁ cm' ce₂ _ _ σ₁ ⟨e₁.trans x', R₂, hv, hP⟩
theorem tri_AssignComp {elt target iter : Expr} {ifs : List Expr} {scope : Scope} {pos py spos : Pos} {y : Str} {P₁ : List AV → St → Prop} (O : W.Ok c) (hs : isSet iter = false) (hok : compOk scope = true) (hcap : (capt (frees scope) σ).isSome = true)
    (hsw : swapsWith (.ListComp elt [⟨target, iter, ifs, 0⟩] scope pos) (some (.Name y py)) spos.line c.env = pure true)
    (h : ItrOk W c σ target iter P₁ X) (k : ∀ xs σ₁, P₁ xs σ₁ → ∃ g, CompAll W c target elt ifs scope xs σ₁ g ∧ ∃ σ', stV c.cs y (.lst (xs.filterMap g)) σ₁ = some σ' ∧ N σ') :
    TriS W c σ (exec (.Assign [.Name y py] (.ListComp elt [⟨target, iter, ifs, 0⟩] scope pos) spos) c.env) N Rt X := by
  intro s ρ m cm ce frz R
  refine an4 (compOk_iff hok) fun hfn hcell hkind hnames => ?_
  obtain ⟨fs₀, hfs₀⟩ := Option.isSome_iff_exists.mp hcap
  refine exec_Assign_Name_used _ _ _ _ hsw ▸ ?_
  refine wpAny_bind (wpAny_standAt (wpAny_bind ?_))
  show wpAny _ _ (do let _ ← comprehension (.ListComp elt [⟨target, iter, ifs, 0⟩] scope pos) scope c.env _ (newList []) false (eval iter c.env) (some (assign (.Name y py) c.env))) _ _ s
  refine wpAny_bind (wpAny_mono (wpAny_comprehension_free (use := some (assign (.Name y py) c.env)) (Q := fun _ s' => Qu W c ρ frz N s') rfl (folded_no hs) (cl_facts O R hfs₀ hfn).1 hkind hnames
    (h s ρ m cm ce frz R _ fun s₁ ρ₁ m₁ cm₁ ce₁ frz₁ σ₁ xs h₂ I ws fp Sg e₁ R₁ hp a1 a2 a3 a4 a5 a6 a7 => ?_)) (fun _ s' hq => wpAny_pure (wpAny_pure hq)) fun _ _ e => e)
  refine cps fun GG kG => ?_; obtain ⟨g, ⟨hlen, fs, hcap₁, turn⟩, σ', hst, hN⟩ := k xs σ₁ hp; refine kG ?_
  refine comp_core O R₁ a1 a2 a3 a4 a5 a6 a7 hcell hkind hcap₁ hfn hlen turn (RR := fun acc C => compPost W.M c.A (Qx W c ρ frz X) (some (assign (.Name y py) c.env)) (fun _ s' => Qu W c ρ frz N s') acc C) fun D C oC its k s' ρ' cm' ce' frz' x' R₀' hD hits DL Dn Df hns hc hf he => ?_
  obtain ⟨mC, hns⟩ := hns
  have R' := R₀'.freezeOld hD DL Dn Df
  have hv : Val (Z c.h₀ ((D, listOf its k) :: frz')) ρ' (.lst (xs.filterMap g)) (.ref D) := ex3i D its k ⟨rfl, .inr (.head _), hits⟩
  have x' : Ext ρ₁ ρ' frz₁ ((D, listOf its k) :: frz') := ⟨x'.r, fun q hq => .tail _ (x'.z q hq)⟩
  have O' : W.Ok (c.wex ((C, oC) :: c.ex)) := FC.Ok.wex O hc hf
  show wpAny W.M c.A (assign (.Name y py) c.env (.ref D)) _ _ s'
  refine wpAny_mono (tri_aName (W := W) (c := c.wex ((C, oC) :: c.ex)) (N := N) (X := noX) O' hst hN s' ρ' m₁ cm' ce' _ (.ref D) R' hv) (fun _ s₂ zz => Qu.el zz fun ρ₂ m₂ cm₂ ce₂ frz₂ σ₂ x₂ R₂ q₂ => ?_) fun _ _ z => z.no.elim
  · have hC1 := (R'.at.2.1 _ (R'.ex _ (.head _))).1
    have hC2 := (R₂.at.2.1 _ (R₂.ex _ (.head _))).1
    refine ⟨mC, ?_, fun h'' hs'' => ?_⟩
    · refine ex3 hns fun o es ep hq0 => an2 hq0 fun ho r => ?_; try clear hq0; try clear hns
      rw [hC1] at ho; cases ho
      exact ex3i _ es ep ⟨hC2, r⟩
    · obtain ⟨ce₃, R₃⟩ := R₂.unwatch (l := c.ex) (h' := h'') (t := s₂.toks) hc hf he fun b o hb e => hs''.extBut b o (fun e' => hb (by refine e'.symm ▸ ?_; exact .head _)) e
      exact (Qu.mk ρ₂ m₂ cm₂ ce₃ frz₂ σ₂ ((e₁.trans x').trans x₂) R₃ q₂)
end
section
variable {M : Model} {A : Around} {E : Value → Shared → Prop} {s : Shared}
theorem entryX {base : Heap} {env : Env} {outer : List Env} {L e : Addr} {oe : Obj} {vs : Array Value} {head : Value} {hadNext : Bool} {Q : Unit → Shared → Prop} (hfr : A.frames = some (env :: outer)) (hl : s.heap.FunFrames base (env :: outer)) (hf : env.frame = some L)
    (he : s.heap.get? e = some oe) (hd : oe.data = .fields vs) (hsz : 1 < vs.size)
    (h : ∀ h' T' oT' ts', s.heap.objs.size ≤ T' → h'.get? e = some (oe.mapFields (·.setIfInBounds 1 (Value.ref T'))) → h'.get? T' = some oT' → oT'.data = .fields ts' → ts'[3]? = some .none →
      (∀ b o, b ≠ e → b ∉ (env :: outer).filterMap (·.frame) → s.heap.get? b = some o → h'.get? b = some o) → (∀ b ∈ (env :: outer).filterMap (·.frame), ∀ o, s.heap.get? b = some o → ∃ sl, h'.get? b = some { o with slots := sl }) → Q () { s with heap := h' }) :
    wpAny M A (do let a ← frameOf env; let pl ← entryPlaceOf L hadNext; let b ← EntryCells.newEntry head a .none (rawInt L) .none pl; setField (.ref e) 1 b) (fun _ s' => wpAny M A (setFlight (.ref e) none) Q E s') E s := by
  have hene : e ∉ (env :: outer).filterMap (·.frame) := fun hm => by
    obtain ⟨_, o, ho, hnf⟩ := hl.mem hm
    rw [he] at ho; injection ho with ho; subst ho; exact hnf vs hd
  refine wpAny_bind (wpAny_frameOf_fun hfr hl hf fun h₁ hs₁ => ?_)
  refine wpAny_bind (wpAny_entryPlaceOf fun pl hpl => ?_)
  unfold EntryCells.newEntry newFields
  refine wpAny_bind (wpAny_newObj_type ?_ (hpl.sizeOk5 _ _ _ _ _))
  have he₁ : h₁.get? e = some oe := (hs₁.2.1 e hene).trans he
  generalize hob : ({ cls := .type "traceback", dict := none, data := .fields ([head, .ref L, .none, rawInt L, .none] ++ (if pl.isEmpty then List.replicate 6 Value.none else pl)).toArray } : Obj) = ob
  have hobd : ob.data = .fields ([head, .ref L, .none, rawInt L, .none] ++ (if pl.isEmpty then List.replicate 6 Value.none else pl)).toArray := by exact hob ▸ rfl
  have hobf : ob.isFreed = false := Obj.isFreed_of_fields hobd
  have he₂ := Heap.get?_push_of_some (h := h₁) ob he₁
  refine wpAny_setField he₂ hd hsz ?_
  have hTe : h₁.objs.size ≠ e := Nat.ne_of_gt (Heap.lt_size he₁)
  have hd₃ := Obj.data_mapFields hd (·.setIfInBounds 1 (Value.ref h₁.objs.size))
  have he₃ := Heap.get?_update_self (Obj.mapFields (·.setIfInBounds 1 (Value.ref h₁.objs.size))) he₂ (Obj.isFreed_of_fields hd₃)
  have hT₃ := (Heap.get?_update_other (h₁.push ob) (Obj.mapFields (·.setIfInBounds 1 (Value.ref h₁.objs.size))) (Ne.symm hTe)).trans (Heap.get?_push_size h₁ hobf)
  unfold setFlight
  refine wpAny_bind (wpAny_field he₃ hd₃ (x := .ref h₁.objs.size) (by simp [hsz]) ?_)
  refine if_pos (show (Value.ref h₁.objs.size != Value.none) = true from by simp) ▸ ?_
  refine wpAny_setField hT₃ hobd (by simp only [List.size_toArray, List.length_append, List.length_cons, List.length_nil] <;> lia -abstractProof) ?_
  have keep : ∀ b o, b ≠ e → h₁.get? b = some o → (((h₁.push ob).update e (Obj.mapFields (·.setIfInBounds 1 (Value.ref h₁.objs.size)))).update h₁.objs.size
        (Obj.mapFields (·.setIfInBounds 3 ((none : Option Addr).elim Value.none fun f => rawInt f)))).get? b = some o := fun b o hbe hb => by
    have hbT : h₁.objs.size ≠ b := Nat.ne_of_gt (Heap.lt_size hb)
    refine (Heap.get?_update_other _ _ hbT).symm ▸ (Heap.get?_update_other _ _ (Ne.symm hbe)).symm ▸ ?_
    exact Heap.get?_push_of_some _ hb
  refine h _ h₁.objs.size _ _ (Nat.le_of_eq hs₁.1.symm) ?_ (Heap.get?_update_self _ hT₃ (Obj.isFreed_of_fields (Obj.data_mapFields hobd _))) (Obj.data_mapFields hobd _) (by simp) (fun b o hbe hbf hb => keep b o hbe ((hs₁.2.1 b hbf).trans hb)) fun b hb o ho => ?_
  · refine (Heap.get?_update_other _ _ hTe).symm ▸ ?_; exact he₃
  · obtain ⟨sl, hs⟩ := hs₁.2.2 b o ho
    exact ⟨sl, keep b _ (fun e' => hene (e' ▸ hb)) hs⟩
theorem noteX {base : Heap} {env : Env} {outer : List Env} {L e : Addr} {oe : Obj} {vs : Array Value} {v₁ : Value} {Q : Unit → Shared → Prop} (hfr : A.frames = some (env :: outer)) (hl : s.heap.FunFrames base (env :: outer)) (hf : env.frame = some L)
    (he : s.heap.get? e = some oe) (hd : oe.data = .fields vs) (h1 : vs[1]? = some v₁) (ht : v₁ = .none ∨ ∃ T oT ts, v₁ = .ref T ∧ T ≠ e ∧ s.heap.get? T = some oT ∧ oT.data = .fields ts ∧ ts[3]? = some .none)
    (h : ∀ h' T' oT' ts', s.heap.objs.size ≤ T' → h'.get? e = some (oe.mapFields (·.setIfInBounds 1 (Value.ref T'))) → h'.get? T' = some oT' → oT'.data = .fields ts' → ts'[3]? = some .none →
      (∀ b o, b ≠ e → v₁ ≠ .ref b → b ∉ (env :: outer).filterMap (·.frame) → s.heap.get? b = some o → h'.get? b = some o) → (∀ b ∈ (env :: outer).filterMap (·.frame), ∀ o, s.heap.get? b = some o → ∃ sl, h'.get? b = some { o with slots := sl }) → Q () { s with heap := h' }) :
    wpAny M A (noteFrame (.ref e) env) (fun _ s' => wpAny M A (setFlight (.ref e) none) Q E s') E s := by
  unfold noteFrame
  simp only [hf]
  refine wpAny_bind (wpAny_field he hd h1 ?_)
  rcases ht with rfl | ⟨T, oT, ts, rfl, hTe, hT, hdT, h3⟩
  · rw [if_neg (by decide)]
    exact entryX hfr hl hf he hd (Array.getElem?_eq_some_iff.mp h1).1 fun h' T' oT' ts' a1 a2 a3 a4 a5 a6 a7 => h h' T' oT' ts' a1 a2 a3 a4 a5 (fun b o hb _ => a6 b o hb) a7
  · refine if_pos (show (Value.ref T != Value.none) = true from by simp) ▸ ?_
    refine wpAny_bind (wpAny_field hT hdT h3 ?_)
    refine if_neg (show ¬ ((Value.none == rawInt L) = true) from by simp [rawInt]) ▸ ?_
    refine wpAny_bind (wpAny_setField hT hdT (Array.getElem?_eq_some_iff.mp h3).1 ?_)
    have other : ∀ b, b ≠ T → (s.heap.update T (Obj.mapFields (·.setIfInBounds 3 Value.none))).get? b = s.heap.get? b := fun b hb => Heap.get?_update_other _ _ (Ne.symm hb)
    have noRecord : ∀ b o, s.heap.get? b = some o → (∀ vs, o.data ≠ .fields vs) → b ≠ T := fun b o hb hnf q => by
      rw [q, hT] at hb; injection hb with hb; subst hb; exact hnf ts hdT
    have hl' := hl.of_keeps fun b o hb hnf => ⟨o, (other b (noRecord b o hb hnf)).trans hb, rfl⟩
    have frT : ∀ b ∈ (env :: outer).filterMap (·.frame), b ≠ T := fun b hb => by
      obtain ⟨_, o, ho, hnf⟩ := hl.mem hb
      exact noRecord b o ho hnf
    refine entryX hfr hl' hf ((other e (Ne.symm hTe)).trans he) hd (Array.getElem?_eq_some_iff.mp h1).1 fun h' T' oT' ts' a1 a2 a3 a4 a5 a6 a7 => h h' T' oT' ts' ?_ a2 a3 a4 a5 (fun b o hb hbT hbf ho => a6 b o hb hbf ((other b fun e' => hbT (by exact e'.symm ▸ rfl)).trans ho)) (fun b hb o ho => a7 b hb o ((other b (frT b hb)).trans ho))
    rwa [Heap.size_after_update] at a1
end
section
variable {W : Wd} {c : FC} {σ : St} {P : AV → St → Prop} {X : Str → St → Prop} {N : St → Prop} {Rt : AV → St → Prop} {s : Shared} {ρ : Nat → Option Addr} {m : Str → Option Value} {cm ce frz : List (Addr × Obj)}
theorem outer_frames (O : W.Ok c) (R : Rel W c s σ ρ m cm ce frz) : s.heap.FunFrames c.base c.outer := by
  have key : ∀ l : List Env, (∀ b ∈ l.filterMap (·.frame), b ∈ c.frames) → c.hE.FunFrames c.base l → s.heap.FunFrames c.base l := by
    intro l
    induction l with
    | nil => intro _ _; trivial
    | cons e r ih =>
      rintro hm ⟨h1, ⟨L', o, h2, h3, h4, h5⟩, h6⟩
      have hL' : L' ∈ c.frames := hm L' (by simp [h2])
      obtain ⟨sl, hsl⟩ := R.ou L' hL' o h4
      refine ⟨h1, ex2i L' _ ⟨h2, h3, (R.at.2.1 _ hsl).1, h5⟩, ih (fun b hb => hm b ?_) h6⟩
      refine List.filterMap_cons ▸ h2 ▸ ?_; exact .tail _ hb
  exact key _ (fun _ h => h) O.FF
theorem stk_frames (O : W.Ok c) (hin : c.inn = false) (R : Rel W c s σ ρ m cm ce frz) : s.heap.FunFrames c.base (c.env :: c.outer) := by
  refine Exists.elim R.Ldata fun oL hq0 => an3 hq0 fun hoL np2 _ => ?_; try clear hq0; obtain ⟨es, ep, hd⟩ := np2
  exact ⟨by refine O.kind ▸ ?_; decide, ex2i c.L oL ⟨O.eF hin, O.new, hoL, fun vs => by refine hd ▸ ?_; exact fun e => nomatch e⟩, outer_frames O R⟩
theorem dict_mapFields (o : Obj) (f : Array Value → Array Value) : (o.mapFields f).dict = o.dict := by
  obtain ⟨c, d, dt, sl⟩ := o; cases dt <;> rfl
theorem Rel.note {e : Addr} {sym : Str} {Q : Unit → Shared → Prop} {E : Value → Shared → Prop} (O : W.Ok c) (hin : c.inn = false) (R : Rel W c s σ ρ m cm ce frz) (Xc : ExcAt W c s.heap (cm ++ (ce ++ frz)) frz e sym)
    (h : ∀ h' ce', Rel W c { s with heap := h' } σ ρ m cm ce' frz → ExcAt W c h' (cm ++ (ce' ++ frz)) frz e sym → Q () { s with heap := h' }) :
    wpAny W.M c.A (noteFrame (.ref e) c.env) (fun _ s' => wpAny W.M c.A (setFlight (.ref e) none) Q E s') E s := by
  refine ex6 Xc fun oe vs d od t v₁ hq0 => an10 hq0 fun x1 x2 x3 x4 x5 x6 x7 x8 x9 x10 => ?_; try clear hq0; try clear Xc
  have nd := nd_split R.nd
  have at₀ := R.at
  refine Exists.elim R.Ldata fun oL hq0 => an3 hq0 fun hoL hdL hnL => ?_; try clear hq0
  have eL : e ≠ c.L := by
    rintro rfl
    rw [x1] at hoL; cases hoL
    obtain ⟨_, _, hd⟩ := hdL
    rw [x4] at hd; cases hd
  refine noteX (base := c.base) (outer := c.outer) (L := c.L) (by refine O.stack ▸ ?_; unfold FC.stk; refine hin ▸ ?_; rfl) (stk_frames O hin R) (O.eF hin) x1 x4 x5 (x10.imp id fun h => ex3 h fun T oT ts h => an7 h fun a1 a2 a3 a4 a5 a6 a7 => ex3i T oT ts ⟨a1, a2, a5, a6, a7⟩) fun h' T' oT' ts' b1 b2 b3 b4 b5 b6 b7 => ?_
  have frs : (c.env :: c.outer).filterMap (·.frame) = c.L :: c.frames := by exact List.filterMap_cons ▸ O.eF hin ▸ rfl
  rw [frs] at b6 b7
  have stay : ∀ b o, b ∉ c.L :: c.frames → b ≠ e → v₁ ≠ .ref b → s.heap.get? b = some o → h'.get? b = some o := fun b o h1 h2 h3 h4 => b6 b o h2 h3 h1 h4
  have tbn : ∀ q ∈ cm ++ (ce ++ frz), v₁ ≠ .ref q.1 := by
    intro q hq e'
    rcases x10 with rfl | ⟨T, oT, ts, a1, a2, a3, _⟩
    · cases e'
    · rw [a1] at e'; cases e'
      exact a3 (List.mem_map.mpr ⟨q, hq, rfl⟩)
  have tb0 : ∀ b o, c.h₀.get? b = some o → v₁ ≠ .ref b := by
    intro b o ho e'
    rcases x10 with rfl | ⟨T, oT, ts, a1, a2, a3, a4, _⟩
    · cases e'
    · rw [a1] at e'; cases e'
      rw [ho] at a4; exact nope a4.symm
  have ene : ∀ q ∈ cm ++ (ce ++ frz), q.1 ≠ e := fun q hq e' => x9 (List.mem_map.mpr ⟨q, hq, e'⟩)
  have frn : ∀ q : Addr × Obj, (q ∈ cm ∨ q ∈ frz) → q.1 ∉ c.frames := fun q hq hm => by
    refine ex2 (R.frameAt O hm) fun o sl hq0 => an4 hq0 fun _ _ h1 _ => ?_; try clear hq0
    rcases hq with hq | hq
    · exact nd.2.2.2.1 q hq _ h1 rfl
    · exact nd.2.2.2.2.2 _ h1 q hq rfl
  have nL : ∀ q ∈ cm ++ (ce ++ frz), q.1 ≠ c.L := fun q hq => (R.N q hq).2.1
  have keepQ : ∀ q ∈ cm ++ (ce ++ frz), q.1 ∉ c.frames → h'.get? q.1 = some q.2 := fun q hq hf =>
    stay _ _ (by rw [List.mem_cons, not_or]; exact ⟨nL q hq, hf⟩) (ene q hq) (tbn q hq) (R.N q hq).1
  have ceK : ∀ q ∈ ce, ∃ sl, h'.get? q.1 = some { q.2 with slots := sl } := fun q hq => by
    by_cases hf : q.1 ∈ c.frames
    · exact b7 q.1 (.tail _ hf) q.2 (at₀.2.1 q hq).1
    · exact ⟨q.2.slots, keepQ q (List.mem_append_right _ (List.mem_append_left _ hq)) hf⟩
  let g : Addr × Obj → Addr × Obj := fun q => (q.1, (h'.get? q.1).getD q.2)
  have e1 : (ce.map g).map (·.1) = ce.map (·.1) := by refine List.map_map.symm ▸ ?_; rfl
  have gid : ∀ q ∈ ce, q.1 ∉ c.frames → g q = q := fun q hq hf => by
    show (q.1, (h'.get? q.1).getD q.2) = q
    refine keepQ q (List.mem_append_right _ (List.mem_append_left _ hq)) hf ▸ ?_; rfl
  have lt := R.lt
  refine h h' (ce.map g) ⟨⟨?_, fun b o ho => ?_, R.F.above⟩, ?_, ?_, ?_, ?_, ?_, R.H, R.V, ?_, R.Fv, R.rn, R.gens, R.os⟩ (ex6i (oe.mapFields (·.setIfInBounds 1 (Value.ref T'))) _ d od t (.ref T') ⟨b2, (Obj.cls_mapFields _ _).trans x2, (dict_mapFields _ _).trans x3, Obj.data_mapFields x4 _, ?_, x6, x7, x8, ?_, .inr (ex3i T' oT' ts' ⟨rfl, ?_, ?_, ?_, b3, b4, b5⟩)⟩)
  · obtain ⟨sl, hsl⟩ := b7 c.L (.head _) oL hoL
    exact hnL sl h' hsl
  · refine stay b o (fun hm => ?_) (fun e' => by rw [e', x8] at ho; exact nope ho) (tb0 b o ho) (R.F.keep b o ho)
    rcases List.mem_cons.mp hm with rfl | hm
    · exact absurd (Heap.lt_size ho) (Nat.not_lt.mpr R.F.above)
    · rw [O.hid b hm] at ho; exact nope ho
  · intro q hq
    rcases List.mem_append.mp hq with hq | hq
    · exact ⟨keepQ q (List.mem_append_left _ hq) (frn q (.inl hq)), (at₀.1 q hq).2⟩
    · rcases List.mem_append.mp hq with hq | hq
      · obtain ⟨p, hp, rfl⟩ := List.mem_map.mp hq
        obtain ⟨sl, h1⟩ := ceK p hp
        exact ⟨by show h'.get? p.1 = some ((h'.get? p.1).getD p.2); refine h1 ▸ ?_; rfl, (at₀.2.1 p hp).2⟩
      · exact ⟨keepQ q (List.mem_append_right _ (List.mem_append_right _ hq)) (frn q (.inr hq)), (at₀.2.2 q hq).2⟩
  · have := R.nd
    rw [List.map_append, List.map_append] at this ⊢
    refine e1 ▸ ?_; exact this
  · intro b hb o hbo
    obtain ⟨sl, hsl⟩ := R.ou b hb o hbo
    obtain ⟨sl', h1⟩ := ceK _ hsl
    refine ⟨sl', List.mem_map.mpr ⟨_, hsl, ?_⟩⟩
    show (b, (h'.get? b).getD _) = _
    have h1 : h'.get? b = some ({ o with slots := sl' } : Obj) := h1
    refine h1 ▸ ?_; rfl
  · intro q hq
    have h1 := R.ex q hq
    exact List.mem_map.mpr ⟨q, h1, gid q h1 fun hf => O.exf _ hf (List.mem_map.mpr ⟨q, hq, rfl⟩)⟩
  · intro x a hx
    refine (R.cv x a hx).imp (fun h => ?_) id
    refine e1 ▸ ?_; exact h
  · intro x ov hx
    refine ex2 (R.C x ov hx) fun a o hq0 => an4 hq0 fun h1 h2 h3 h4 => ?_; try clear hq0
    exact ex2i a o ⟨h1, List.mem_map.mpr ⟨_, h2, gid _ h2 (O.cfr x a h1)⟩, h3, h4⟩
  · have : 1 < vs.size := (Array.getElem?_eq_some_iff.mp x5).1
    simp [this]
  · refine List.map_append ▸ List.map_append.symm ▸ e1 ▸ List.map_append ▸ List.map_append ▸ ?_; exact x9
  · exact fun e' => absurd (Heap.lt_size x1) (by refine e' ▸ ?_; exact Nat.not_lt.mpr b1)
  · refine List.map_append ▸ List.map_append.symm ▸ e1 ▸ List.map_append ▸ List.map_append ▸ ?_
    intro hm
    obtain ⟨q, hq, e'⟩ := List.mem_map.mp hm
    exact absurd (lt q hq) (by refine e' ▸ ?_; exact Nat.not_lt.mpr b1)
  · cases e' : c.h₀.get? T' with
    | none => rfl
    | some o => exact absurd (Heap.lt_size (R.F.keep _ _ e')) (Nat.not_lt.mpr b1)
end
noncomputable def bindSt (sc : Scope) : List Str → List AV → List (Str × AV) → List (Str × Option AV) → List (Str × AV) × List (Str × Option AV)
  | x :: xs, a :: as, l, k => (match sc.names.lookup x with
    | some .local => bindSt sc xs as (lset x a l) k
    | _ => bindSt sc xs as l (cset x a k))
  | _, _, l, k => (l, k)
noncomputable def cellNames (sc : Scope) : List Str := (sc.names.filter fun p => p.2 == .cell).map (·.1)
noncomputable def frameSt (sc : Scope) (ps : List Str) (as : List AV) (hp : List (Nat × AO)) (nxt : Nat) : St :=
  { hp := hp, loc := (bindSt sc ps as [] ((cellNames sc).map fun x => (x, none))).1, cel := (bindSt sc ps as [] ((cellNames sc).map fun x => (x, none))).2, fre := [], nxt := nxt }
structure FnOk (K : Frag) (f : Addr) (fd : FuncData) (body : List Stmt) (ps : List Str) (n : Nat) (ds : List (AV × Value)) : Prop where
  at_ : ∃ oc od osl, K.lookup f = some ⟨oc, od, .func fd, osl⟩
  code : codeIn K fd.code fd.qualname = true
  gl : fd.globals = mainGlobals
  bu : fd.builtins = builtinsNs
  clo : fd.closure = []
  co : fd.scope.isCoroutine = false
  gen : fd.scope.isGenerator = false
  kind : fd.scope.kind = .function
  body : fd.body = .stmts body
  bind : ∀ (s : Shared) (vs : List Value), K.In s.heap → vs.length = n → BindsTo s fd ⟨vs, []⟩ (ps.zip (vs ++ ds.map (·.2)))
  names : ∀ x ∈ ps, fd.scope.names.lookup x = some .local ∨ fd.scope.names.lookup x = some .cell
  cells : nodupS (cellNames fd.scope) = true
  len : ps.length = n + ds.length
  dv : ∀ (Zp : Addr → Obj → Prop) (ρ : Nat → Option Addr), ValL Zp ρ (ds.map (·.1)) (ds.map (·.2))
theorem cellsAre_get {cm : Str → Option Value} {cs : List (Str × Addr)} {cells : List (Addr × Obj)} (h : CellsAre cm cs cells) {x : Str} {a : Addr} (e : (x, a) ∈ cs) : ∃ o, (a, o) ∈ cells ∧ o.data = .cell (cm x) := by
  induction h with
  | nil => cases e
  | cons hd _ ih =>
    rcases List.mem_cons.mp e with e | e
    · cases e; exact ⟨_, .head _, hd⟩
    · obtain ⟨o, h1, h2⟩ := ih e; exact ⟨o, .tail _ h1, h2⟩
theorem cellsAre_fst {cm : Str → Option Value} {cs : List (Str × Addr)} {cells : List (Addr × Obj)} (h : CellsAre cm cs cells) : cells.map (·.1) = cs.map (·.2) := by
  induction h with
  | nil => rfl
  | cons _ _ ih => exact List.map_cons ▸ List.map_cons.symm ▸ ih.symm ▸ rfl
theorem lookup_memp {cl : List (Str × Addr)} {x : Str} {a : Addr} (h : cl.lookup x = some a) : (x, a) ∈ cl := by
  induction cl with
  | nil => exact nope h
  | cons p r ih =>
    obtain ⟨z, b⟩ := p
    rw [List.lookup_cons] at h
    split at h
    · rename_i q; cases h; obtain rfl : x = z := by simpa using q
      exact .head _
    · exact .tail _ (ih h)
theorem cellsFrom_names' : ∀ (names : List (Str × NameKind)) (n : Nat) (acc : List (Str × Addr)), (cellsFrom n names acc).map (·.1) = ((names.filter fun p => p.2 == .cell).map (·.1)).reverse ++ acc.map (·.1)
  | [], _, _ => rfl
  | (y, k) :: r, n, acc => by
    unfold cellsFrom
    refine List.filter_cons ▸ ?_
    by_cases hk : (k == .cell) = true
    · rw [if_pos hk, if_pos hk, cellsFrom_names' r]; simp
    · rw [if_neg hk, if_neg hk, cellsFrom_names' r]
theorem lookup_memp' {l : List (Str × NameKind)} {x : Str} {a : NameKind} (h : l.lookup x = some a) : (x, a) ∈ l := by
  induction l with
  | nil => exact nope h
  | cons p r ih =>
    obtain ⟨z, b⟩ := p
    rw [List.lookup_cons] at h
    split at h
    · rename_i q; cases h; obtain rfl : x = z := by simpa using q
      exact .head _
    · exact .tail _ (ih h)
theorem bind_rel {sc : Scope} {Zp : Addr → Obj → Prop} {ρ : Nat → Option Addr} {kindOf : Str → Option NameKind} (hk : ∀ x, kindOf x = sc.names.lookup x) : ∀ (ps : List Str) (as : List AV) (vs : List Value) (l : List (Str × AV)) (k : List (Str × Option AV)) (m cmf : Str → Option Value),
    ValL Zp ρ as vs → (∀ x ∈ ps, sc.names.lookup x = some .local ∨ (sc.names.lookup x = some .cell ∧ (cget x k).isSome = true)) → (∀ x v, lget x l = some v → ∃ u, m x = some u ∧ Val Zp ρ v u) → (∀ x v, cget x k = some (some v) → ∃ u, cmf x = some u ∧ Val Zp ρ v u) →
    (∀ x v, lget x (bindSt sc ps as l k).1 = some v → ∃ u, bindL kindOf (ps.zip vs) m x = some u ∧ Val Zp ρ v u) ∧ (∀ x v, cget x (bindSt sc ps as l k).2 = some (some v) → ∃ u, bindC kindOf (ps.zip vs) cmf x = some u ∧ Val Zp ρ v u) ∧
      ∀ x, (cget x (bindSt sc ps as l k).2).isSome = (cget x k).isSome
  | [], as, vs, l, k, m, cmf, _, _, h1, h2 => by cases as <;> exact ⟨h1, h2, fun _ => rfl⟩
  | p :: ps, [], [], l, k, m, cmf, _, _, h1, h2 => ⟨h1, h2, fun _ => rfl⟩
  | p :: ps, a :: as, v :: vs, l, k, m, cmf, hv, hn, h1, h2 => by
    have hn' : ∀ x ∈ ps, sc.names.lookup x = some .local ∨ (sc.names.lookup x = some .cell ∧ (cget x k).isSome = true) := fun x hx => hn x (.tail _ hx)
    refine List.zip_cons_cons ▸ ?_
    unfold bindSt bindL bindC
    refine (hk p).symm ▸ ?_
    rcases hn p (.head _) with e | ⟨e, e'⟩
    · refine e.symm ▸ if_pos rfl ▸ if_pos rfl ▸ ?_
      refine bind_rel hk ps as vs (lset p a l) k _ cmf hv.2 hn' (fun x w hx => ?_) h2
      rw [lget_lset] at hx
      by_cases hxp : x = p
      · rw [if_pos hxp] at hx ⊢; cases hx; exact ⟨v, rfl, hv.1⟩
      · rw [if_neg hxp] at hx ⊢; exact h1 x w hx
    · rw [e, if_neg (by decide), if_neg (by decide)]
      have hsome : ∀ x, (cget x (cset p a k)).isSome = (cget x k).isSome := fun x => by
        refine cget_cset e' ▸ ?_
        by_cases hxp : x = p
        · refine if_pos hxp ▸ hxp ▸ e' ▸ ?_; rfl
        · exact if_neg hxp ▸ rfl
      obtain ⟨r1, r2, r3⟩ := bind_rel hk ps as vs l (cset p a k) m (fun y => if y = p then some v else cmf y) hv.2 (fun x hx => (hn' x hx).imp id fun h => ⟨h.1, by refine (hsome ..) ▸ ?_; exact h.2⟩) h1 (fun x w hx => by
        rw [cget_cset e'] at hx
        by_cases hxp : x = p
        · rw [if_pos hxp] at hx; cases hx; exact ⟨v, if_pos hxp, hv.1⟩
        · rw [if_neg hxp] at hx
          obtain ⟨u, q1, q2⟩ := h2 x w hx
          exact ⟨u, (if_neg hxp).trans q1, q2⟩)
      exact ⟨r1, r2, fun x => (r3 x).trans (hsome x)⟩
  | _ :: _, [], _ :: _, _, _, _, _, hv, _, _, _ => hv.elim
  | _ :: _, _ :: _, [], _, _, _, _, hv, _, _, _ => hv.elim
theorem cget_nones {x : Str} : ∀ (l : List Str), (cget x (l.map fun y => (y, (none : Option AV)))).isSome = true ↔ x ∈ l
  | [] => ⟨(fun h => nomatch (show (none : Option (Option AV)).isSome = true from h)), (fun h => nomatch h)⟩
  | y :: r => by
    refine List.map_cons ▸ ?_
    unfold cget
    split
    · rename_i q; obtain rfl : y = x := by simpa using q
      exact ⟨fun _ => .head _, fun _ => rfl⟩
    · rename_i q
      rw [cget_nones r]
      exact ⟨fun h => .tail _ h, fun h => by
        rcases List.mem_cons.mp h with rfl | h
        · simp at q
        · exact h⟩
theorem cget_nones' {x : Str} {v : AV} : ∀ (l : List Str), cget x (l.map fun y => (y, (none : Option AV))) = some (some v) → False
  | [], h => nomatch (show (none : Option (Option AV)) = some _ from h)
  | y :: r, h => by
    rw [List.map_cons] at h
    unfold cget at h
    split at h
    · cases h
    · exact cget_nones' r h
section
variable {W : Wd} {c : FC} {σ : St} {P : AV → St → Prop} {X : Str → St → Prop} {N : St → Prop} {Rt : AV → St → Prop} {s : Shared} {ρ : Nat → Option Addr} {m : Str → Option Value} {cm ce frz : List (Addr × Obj)}
theorem exc_out (R : Rel W c s σ ρ m cm ce frz) {A : Around} {L : Addr} {env : Env} {rm : Nat} {inn : Bool} {ex₂ : List (Addr × Obj)} {oL : Obj} {s' : Shared} {cm' ce' ce'' frz' : List (Addr × Obj)} {e : Addr} {sym : Str}
    (x : ExcAt W (c.inner s.heap oL ce frz ex₂ inn A L env rm) s'.heap (cm' ++ (ce' ++ frz')) frz' e sym) (hce : ∀ q ∈ ce'', q.1 ∈ ce'.map (·.1) ∨ ((restr s.heap (kp c ce frz)).get? q.1).isSome = true) :
    ExcAt W c s'.heap (cm' ++ (ce'' ++ ([] ++ (frz' ++ frz)))) ([] ++ (frz' ++ frz)) e sym := by
  refine ex6 x fun oe vs d od t v₁ hq0 => an10 hq0 fun x1 x2 x3 x4 x5 x6 x7 x8 x9 x10 => ?_; try clear hq0; try clear x
  have h0n : ∀ a : Addr, (restr s.heap (kp c ce frz)).get? a = none → c.h₀.get? a = none := fun a e => by
    cases e' : c.h₀.get? a with
    | none => rfl
    | some o => exact nomatch (restr_get.mpr ⟨R.F.keep _ _ e', .inl e'⟩ : (restr s.heap (kp c ce frz)).get? a = some o).symm.trans e
  have out : ∀ a : Addr, (restr s.heap (kp c ce frz)).get? a = none → a ∉ (cm' ++ (ce' ++ frz')).map (·.1) → a ∉ (cm' ++ (ce'' ++ (([] : List (Addr × Obj)) ++ (frz' ++ frz)))).map (·.1) := by
    intro a ha hn hm
    obtain ⟨q, hq, rfl⟩ := List.mem_map.mp hm
    have into : q.1 ∈ (cm' ++ (ce' ++ frz')).map (·.1) → False := hn
    simp only [List.map_append, List.mem_append] at into
    rcases List.mem_append.mp hq with hq | hq
    · exact into (.inl (List.mem_map.mpr ⟨q, hq, rfl⟩))
    · rcases List.mem_append.mp hq with hq | hq
      · rcases hce q hq with h | h
        · exact into (.inr (.inl h))
        · exact absurd h (by refine ha ▸ ?_; decide)
      · rw [List.nil_append] at hq
        rcases List.mem_append.mp hq with hq | hq
        · exact into (.inr (.inr (List.mem_map.mpr ⟨q, hq, rfl⟩)))
        · have : (restr s.heap (kp c ce frz)).get? q.1 = some q.2 := restr_get.mpr ⟨(R.at.2.2 q hq).1, .inr (.inl hq)⟩
          rw [this] at ha; exact nope ha.symm
  refine ex6i oe vs d od t v₁ ⟨x1, x2, x3, x4, x5, ?_, x7, h0n _ x8, out e x8 x9, x10.imp id fun h => ex3 h fun T oT ts h => an7 h fun a1 a2 a3 a4 a5 a6 a7 => ex3i T oT ts ⟨a1, a2, out T a4 a3, h0n _ a4, a5, a6, a7⟩⟩
  rcases x6 with z | z
  · have hcell : isCellO od = false := by
      unfold lookIn at x7
      unfold isCellO
      split at x7
      · rename_i hd; exact hd ▸ rfl
      · exact nope x7
    exact (inner_z (h := s.heap) R hcell (.inl z)).imp id fun z => List.mem_append_right _ (List.mem_append_right _ z)
  · exact .inr (List.mem_append_right _ (List.mem_append_left _ z))
noncomputable def Rc (W : Wd) (c : FC) (ρ : Nat → Option Addr) (frz : List (Addr × Obj)) (P : AV → St → Prop) (X : Str → St → Prop) (r : Result) (s' : Shared) : Prop := match r with
  | .ok (.ret v) => Qv W c ρ frz P v s'
  | .ok _ => False
  | .error e => Qx W c ρ frz X e s'
noncomputable def PTokC (W : Wd) (n : Nat) (f : Value) (pt : PT) : Prop := ∀ (c : FC), W.Ok c → n ≤ c.rm → ∀ σ as P X, pt.at σ as P X → ∀ s ρ m cm ce frz vs, Rel W c s σ ρ m cm ce frz → ValL (Z c.h₀ frz) ρ as vs → codeAny W.M c.A (.call f ⟨vs, []⟩) (Rc W c ρ frz P X) s
theorem PTokC.ok {n : Nat} {f : Value} {pt : PT} (h : PTokC W n f pt) : PTok W n f pt := fun c O hn σ as P X hp s ρ m cm ce frz vs R hv =>
  wpAny_call (codeAny_mono (h c O hn σ as P X hp s ρ m cm ce frz vs R hv) fun r s' z => by
    rcases r with e | (v | _ | _ | _) <;> exact z)
theorem fn_core {k : Nat} {f : Addr} {fd : FuncData} {body : List Stmt} {ps : List Str} {ds : List (AV × Value)} (h : FnOk W.K f fd body ps k ds) (O : W.Ok c) (hn : 1 ≤ c.rm) {as : List AV} {P : AV → St → Prop} {X : Str → St → Prop} (hlen' : as.length = k) {s : Shared} {ρ : Nat → Option Addr} {m : Str → Option Value} {cm ce frz : List (Addr × Obj)} {vs : List Value} (R : Rel W c s σ ρ m cm ce frz) (hv : ValL (Z c.h₀ frz) ρ as vs)
    (hb : ∀ c', W.Ok c' → c'.cs = fd.scope → c'.rm = c.rm - 1 → c'.inn = false → c'.env.code = fd.code → c'.env.qual = fd.qualname ++ ".<locals>." → c'.h₀ = restr s.heap (kp c ce frz) →
      ∀ s' m' ce', Rel W c' s' (frameSt fd.scope ps (as ++ ds.map (·.1)) σ.hp σ.nxt) ρ m' cm ce' [] →
        wpAny W.M c'.A (execs body c'.env) (Qf W c' ρ [] (fun σ' => P .none (σ.with σ'.hp σ'.nxt)) (fun v σ' => P v (σ.with σ'.hp σ'.nxt))) (Qx W c' ρ [] (fun e σ' => X e (σ.with σ'.hp σ'.nxt))) s') :
    codeAny W.M c.A (.call (.ref f) ⟨vs, []⟩) (Rc W c ρ frz P X) s := by
  refine Exists.elim R.Ldata fun oL hq0 => an3 hq0 fun hoL hdL hnL => ?_; try clear hq0
  refine ex3 h.at_ fun oc od osl hat => ?_
  have Xs := O.X.keeps R.F.keep
  have hvl : vs.length = k := by exact hv.length ▸ hlen'.symm ▸ rfl
  refine (codeAny_call_function (fd := fd) (body := body) (by have := O.dep; lia -abstractProof) (Xs _ _ hat) rfl h.co h.gen h.body (codeRec_of Xs h.code) (h.bind s vs Xs hvl _ _ _ _ ?_))
  refine h.clo ▸ ?_
  have hcs : ∀ n', ∀ x, fd.scope.names.lookup x = some .cell → ((cellsFrom n' fd.scope.names []).lookup x).isSome = true := fun n' x hx => cellsFrom_some _ _ _ (.inl hx)
  have hzip : ∀ (xs : List Str) (us : List Value), ∀ x ∈ xs.zip us, x.1 ∈ xs := fun xs us x hx => (List.of_mem_zip (show (x.1, x.2) ∈ xs.zip us from hx)).1
  refine wpAny_newFunctionEnv_cells h.kind (fun x hx => (h.names x.1 (hzip _ _ x hx)).imp id fun e => ⟨e, hcs _ _ e⟩) fun env' he s' x => ?_
  refine ⟨(O.T.nolimit.keeps R.F.keep).keeps x.toInCall.keep, codeAny_func ?_⟩
  refine ex2 x.done fun h₁ tk hq0 => an2 hq0 fun qe2 _ => ?_; try clear hq0; subst qe2
  have hk₁ := x.toInCall.keep
  generalize hLn : s.heap.objs.size = L at he
  have e1 : env'.locals = L := by refine he ▸ ?_; rfl
  have e2 : env'.scope = fd.scope := by refine he ▸ ?_; rfl
  have e3 : env'.cells = cellsFrom (L + 1) fd.scope.names [] := by refine he ▸ ?_; rfl
  have e4 : env'.frame = some L := by refine he ▸ ?_; rfl
  have e5 : env'.globals = mainGlobals := by refine he ▸ ?_; exact h.gl
  have e6 : env'.builtins = builtinsNs := by refine he ▸ ?_; exact h.bu
  have hLs : s.heap.objs.size ≤ L := Nat.le_of_eq hLn
  have hk₀ : ∀ y, env'.kindOf y = fd.scope.names.lookup y := fun y => by unfold Env.kindOf; exact e2.symm ▸ rfl
  have hcn := nodupS_iff h.cells
  have hcellnames : (env'.cells.map (·.1)).Nodup ∧ ∀ y ∈ cellNames fd.scope, ∃ a, env'.cells.lookup y = some a := by
    refine e3 ▸ ?_
    have q := cellsFrom_names' fd.scope.names (L + 1) []
    rw [List.map_nil, List.append_nil] at q
    refine ⟨by refine q ▸ ?_; exact (List.reverse_perm _).nodup_iff.mpr hcn, fun y hy => ?_⟩
    have : y ∈ (cellsFrom (L + 1) fd.scope.names []).map (·.1) := by refine q ▸ ?_; exact List.mem_reverse.mpr hy
    obtain ⟨⟨y', a⟩, hm, rfl⟩ := List.mem_map.mp this
    exact ⟨a, lookup_of_mem_nodup (by refine q ▸ ?_; exact (List.reverse_perm _).nodup_iff.mpr hcn) hm⟩
  obtain ⟨cells, NC, Y⟩ := Cl.news (h₀ := s.heap) (L := L) (h := h₁) (cm := bindC env'.kindOf (ps.zip (vs ++ ds.map (·.2))) fun _ => none) hLs (cs := env'.cells) fun n' a hm => ⟨x.cell n' a (lookup_of_mem_nodup hcellnames.1 hm), e1 ▸ x.above n' a hm⟩
  have hcf := cellsAre_fst Y
  have hva : ValL (Z c.h₀ frz) ρ (as ++ ds.map (·.1)) (vs ++ ds.map (·.2)) := hv.append (h.dv _ _)
  obtain ⟨r1, r2, r3⟩ := bind_rel (sc := fd.scope) hk₀ ps (as ++ ds.map (·.1)) (vs ++ ds.map (·.2)) [] ((cellNames fd.scope).map fun x => (x, none)) (fun _ => none) (fun _ => none) hva
    (fun y hy => (h.names y hy).imp id fun e => ⟨e, (cget_nones _).mpr (by
      unfold cellNames
      exact List.mem_map.mpr ⟨(y, .cell), List.mem_filter.mpr ⟨lookup_memp' e, rfl⟩, rfl⟩)⟩)
    (fun y v hy => nomatch (show (none : Option AV) = some v from hy)) (fun y v hy => (cget_nones' _ hy).elim)
  let env := env'
  have okc : W.Ok (c.inner s.heap oL ce frz [] false (c.A.deeper env') L env' (c.rm - 1)) := by
    refine inner_ok O R hoL hdL ?_ (by refine e2 ▸ ?_; exact h.kind) e1 (fun _ => e4) e5 e6 hLs (fun _ => by refine O.kind ▸ ?_; decide) (fun _ h => nomatch h) ?_ (fun y a hy => .inl ⟨?_, by simp⟩) O.hand ?_ ?_
    · show c.A.frames.map (env' :: ·) = _
      refine O.stack ▸ ?_; rfl
    · exact List.pairwise_map.mpr x.apart
    · exact Nat.le_of_lt (Nat.lt_of_le_of_lt hLs (e1 ▸ x.above y a (lookup_memp hy)))
    · have := O.dep
      show c.A.depth + 1 + (c.rm - 1) < _
      lia -abstractProof
    · have := O.uni
      show c.A.units + 3 + 16 * (c.rm - 1) + 100 < _
      lia -abstractProof
  have R₁ := Rel.enter (ex₂ := []) (inn := false) (A := c.A.deeper env') (env := env') (rm := c.rm - 1) (t := tk) (nw := cells) (σ' := frameSt fd.scope ps (as ++ ds.map (·.1)) σ.hp σ.nxt) O R hoL hLs (e1 ▸ x.toInCall.ns) hk₁
    (fun q hq => ⟨(NC q hq).1, (NC q hq).2.1, ?_⟩) ?_ (fun _ h => nomatch h) rfl rfl r1 (fun y ov hy => ?_) (fun y v hy => nomatch (show (none : Option AV) = some v from hy)) (fun y a hy => .inl ?_)
  rotate_left
  · have hm : q.1 ∈ env'.cells.map (·.2) := by refine hcf ▸ ?_; exact List.mem_map.mpr ⟨q, hq, rfl⟩
    obtain ⟨⟨y, a⟩, hya, e⟩ := List.mem_map.mp hm
    have := x.above y a hya
    rw [e1] at this
    refine (show a = q.1 from e) ▸ ?_
    exact Nat.le_of_lt (Nat.lt_of_le_of_lt hLs this)
  · refine hcf ▸ ?_; exact List.pairwise_map.mpr x.apart
  · have hy' : y ∈ cellNames fd.scope := by
      have := r3 y
      rw [show cget y (bindSt fd.scope ps (as ++ ds.map (·.1)) [] ((cellNames fd.scope).map fun x => (x, none))).2 = some ov from hy] at this
      exact (cget_nones _).mp this.symm
    obtain ⟨a, ha⟩ := hcellnames.2 y hy'
    obtain ⟨o, ho, hd⟩ := cellsAre_get Y (lookup_memp ha)
    refine ex2i a o ⟨ha, ho, ⟨_, hd⟩, fun v hv' => ?_⟩
    subst hv'
    obtain ⟨u, q1, q2⟩ := r2 y v hy
    exact ⟨u, by exact hd ▸ q1.symm ▸ rfl, q2⟩
  · refine hcf ▸ ?_; exact lookup_mem hy
  have body_ := hb _ okc e2 rfl rfl (by show env'.code = _; refine he ▸ ?_; rfl) (by show env'.qual = _; refine he ▸ ?_; rfl) rfl _ _ _ R₁
  refine wpAny_mono body_ (fun fl s₂ hq => ?_) fun e s₂ hq => ?_
  · have fin : ∀ v, Qv W (c.inner s.heap oL ce frz [] false (c.A.deeper env') L env' (c.rm - 1)) ρ [] (fun v σ' => P v (σ.with σ'.hp σ'.nxt)) v s₂ → Qv W c ρ frz P v s₂ := by
      intro v hv0
      refine ex7 hv0 fun ρ₂ m₂ cm₂ ce₂ frz₂ av σ₂ hv0 => an4 hv0 fun x₂ R₂ hv₂ q₂ => ?_
      clear hv0
      refine Exists.elim (Rel.leave O R hoL hnL hLs R₂ x₂.r (h'' := s₂.heap) (t := s₂.toks) (wl := []) (fun b o _ _ e => e) (fun _ h => nomatch h) (acc := []) (fun _ h => nomatch h) (fun _ h => nomatch h) (fun _ h => nomatch h) List.nodup_nil) fun ce₃ hq0 => an5 hq0 fun R₃ x₃ v₃ _ _ => ?_; try clear hq0
      exact ex7i ρ₂ m cm₂ ce₃ _ av _ ⟨x₃, R₃, v₃ _ _ hv₂, q₂⟩
    cases fl with
    | next =>
      refine Qu.el hq fun ρ₂ m₂ cm₂ ce₂ frz₂ σ₂ x₂ R₂ q₂ => ?_
      exact fin _ (Qv.mk ρ₂ m₂ cm₂ ce₂ frz₂ .none σ₂ x₂ R₂ rfl q₂)
    | ret v => exact fin v hq
    | brk => exact hq.elim
    | cont => exact hq.elim
  · refine Qx.el hq fun ρ₂ m₂ cm₂ ce₂ frz₂ e' sym σ₂ qe x₂ R₂ hx₂ q₂ => ?_; subst qe
    show wpAny _ _ (leaving env' (.ref e')) _ _ s₂
    unfold leaving
    refine wpAny_bind (Rel.note (c := c.inner s.heap oL ce frz [] false (c.A.deeper env') L env' (c.rm - 1)) okc rfl R₂ hx₂ fun h₃ ce₃ R₃ hx₃ => ?_)
    refine Exists.elim (Rel.leave O R hoL hnL hLs R₃ x₂.r (h'' := h₃) (t := s₂.toks) (wl := []) (fun b o _ _ e => e) (fun _ h => nomatch h) (acc := []) (fun _ h => nomatch h) (fun _ h => nomatch h) (fun _ h => nomatch h) List.nodup_nil) fun ce₄ hq0 => an6 hq0 fun R₄ x₄ _ _ hce _ => ?_; try clear hq0
    exact ex8i ρ₂ m cm₂ ce₄ _ e' sym _ ⟨rfl, x₄, R₄, exc_out (s' := { s₂ with heap := h₃ }) R hx₃ hce, q₂⟩
theorem fn_sound {n k : Nat} {f : Addr} {fd : FuncData} {body : List Stmt} {ps : List Str} {ds : List (AV × Value)} (h : FnOk W.K f fd body ps k ds) (pt : PT) (hlen : ∀ as hp nx P X, pt as hp nx P X → as.length = k)
    (hb : ∀ c, W.Ok c → c.cs = fd.scope → n ≤ c.rm → c.inn = false → c.env.code = fd.code → c.env.qual = fd.qualname ++ ".<locals>." → ∀ as hp nx P X, pt as hp nx P X → TriS W c (frameSt fd.scope ps (as ++ ds.map (·.1)) hp nx) (execs body c.env) (fun σ => P .none σ.hp σ.nxt) (fun v σ => P v σ.hp σ.nxt) (fun e σ => X e σ.hp σ.nxt)) :
    PTokC W (n + 1) (.ref f) pt := by
  intro c O hn σ as P X hpt s ρ m cm ce frz vs R hv
  exact fn_core h O (by lia -abstractProof) (hlen _ _ _ _ _ hpt) R hv fun c' O' h1 h2 h3 h4 h5 _ s' m' ce' R' => hb c' O' h1 (by refine (‹c'.rm = _›) ▸ ?_; exact Nat.le_sub_of_add_le ‹_›) h3 h4 h5 as σ.hp σ.nxt _ _ hpt s' ρ m' cm ce' [] R'
end
theorem HR.snoc {W : Wd} {Zp : Addr → Obj → Prop} {ρ : Nat → Option Addr} {hp : List (Nat × AO)} {c : List (Addr × Obj)} {n : Nat} {o : AO} {l : List (Addr × Obj)} (h : HR W Zp ρ hp c) (e : EntR W Zp ρ n o l) : HR W Zp ρ (hp ++ [(n, o)]) (c ++ l) := by
  induction h with
  | nil => have := HR.cons e .nil; rwa [List.append_nil] at this
  | cons e' _ ih => refine List.cons_append ▸ (List.append_assoc ..) ▸ ?_; exact .cons e' ih
noncomputable abbrev upd (ρ : Nat → Option Addr) (n : Nat) (x : Addr) : Nat → Option Addr := fun k => if k = n then some x else ρ k
section
variable {W : Wd} {c : FC} {σ : St} {P : AV → St → Prop} {X : Str → St → Prop} {N : St → Prop} {Rt : AV → St → Prop} {s : Shared} {ρ : Nat → Option Addr} {m : Str → Option Value} {cm ce frz : List (Addr × Obj)}
theorem Rel.extUpd (R : Rel W c s σ ρ m cm ce frz) (x : Addr) : Ext ρ (upd ρ σ.nxt x) frz frz :=
  ⟨fun n a h => by
    show (if n = σ.nxt then some x else ρ n) = some a
    rw [if_neg (fun e => by rw [e, R.rn _ (Nat.le_refl _)] at h; exact nope h)]; exact h, fun _ h => h⟩
theorem Rel.adopt (R : Rel W c s σ ρ m cm ce frz) {o : AO} {ln : List (Addr × Obj)} {x : Addr} {h' : Heap} {t : Nat} (hk : ∀ q ∈ cm ++ (ce ++ frz), h'.get? q.1 = some q.2) (F' : Fr c.h₀ c.L h' m) (hln : ∀ q ∈ ln, h'.get? q.1 = some q.2 ∧ q.1 ≠ c.L ∧ c.h₀.get? q.1 = none ∧ ∀ p ∈ cm ++ (ce ++ frz), p.1 ≠ q.1) (hnd : (ln.map (·.1)).Nodup)
    (he : EntR W (Z c.h₀ frz) (upd ρ σ.nxt x) σ.nxt o ln) : Rel W c { s with heap := h', toks := t } { σ with hp := σ.hp ++ [(σ.nxt, o)], nxt := σ.nxt + 1 } (upd ρ σ.nxt x) m (cm ++ ln) ce frz := by
  have nd := nd_split R.nd
  have rr := (R.extUpd x).r
  have zz : ∀ a o, Z c.h₀ frz a o → Z c.h₀ frz a o := fun _ _ z => z
  have far : ∀ q ∈ ln, ∀ p ∈ cm ++ (ce ++ frz), p.1 ≠ q.1 := fun q hq p hp => (hln q hq).2.2.2 p hp
  refine ⟨F', ?_, ?_, R.ou, R.ex, R.cv, (R.H.mono zz rr).snoc he, ?_, ?_, ?_, ?_, R.gens, R.os⟩
  · intro q hq
    rw [List.append_assoc] at hq
    rcases List.mem_append.mp hq with hq | hq
    · exact ⟨hk _ (by simp [hq]), (R.at.1 q hq).2⟩
    · rcases List.mem_append.mp hq with hq | hq
      · exact ⟨(hln q hq).1, (hln q hq).2.1, (hln q hq).2.2.1⟩
      · have := R.N q (List.mem_append_right _ hq)
        exact ⟨hk _ (List.mem_append_right _ hq), this.2⟩
  · refine nd_join ⟨?_, nd.2.1, nd.2.2.1, ?_, ?_, nd.2.2.2.2.2⟩
    · rw [List.map_append, List.nodup_append]
      refine ⟨nd.1, hnd, fun a ha b hb e => ?_⟩
      obtain ⟨p, hp, rfl⟩ := List.mem_map.mp ha
      obtain ⟨q, hq, rfl⟩ := List.mem_map.mp hb
      exact far q hq p (List.mem_append_left _ hp) e
    · intro p hp q hq e
      rcases List.mem_append.mp hp with hp | hp
      · exact nd.2.2.2.1 p hp q hq e
      · exact far p hp q (by simp [hq]) e.symm
    · intro p hp q hq e
      rcases List.mem_append.mp hp with hp | hp
      · exact nd.2.2.2.2.1 p hp q hq e
      · exact far p hp q (by simp [hq]) e.symm
  · intro y v hy
    obtain ⟨u, h1, h2⟩ := R.V y v hy
    exact ⟨u, h1, h2.mono zz rr⟩
  · intro y ov hy
    refine ex2 (R.C y ov hy) fun a o hq0 => an4 hq0 fun h1 h2 h3 h4 => ?_; try clear hq0
    exact ex2i a o ⟨h1, h2, h3, fun v hv => let ⟨u, h5, h6⟩ := h4 v hv; ⟨u, h5, h6.mono zz rr⟩⟩
  · intro y v hy
    refine ex3 (R.Fv y v hy) fun a o u hq0 => an4 hq0 fun h1 h2 h3 h4 => ?_; try clear hq0
    exact ex3i a o u ⟨h1, h2, h3, h4.mono zz rr⟩
  · intro n hn
    have hn : σ.nxt + 1 ≤ n := hn
    show (if n = σ.nxt then some x else ρ n) = none
    rw [if_neg (Nat.ne_of_gt hn)]
    exact R.rn n (Nat.le_of_lt hn)
theorem Rel.alloc (R : Rel W c s σ ρ m cm ce frz) {o : AO} {ln : List (Addr × Obj)} {x : Addr} {h' : Heap} {t : Nat} (hk : ∀ b o, s.heap.get? b = some o → h'.get? b = some o) (hln : ∀ q ∈ ln, h'.get? q.1 = some q.2 ∧ s.heap.get? q.1 = none) (hnd : (ln.map (·.1)).Nodup)
    (he : EntR W (Z c.h₀ frz) (upd ρ σ.nxt x) σ.nxt o ln) : Rel W c { s with heap := h', toks := t } { σ with hp := σ.hp ++ [(σ.nxt, o)], nxt := σ.nxt + 1 } (upd ρ σ.nxt x) m (cm ++ ln) ce frz := by
  refine R.adopt (fun q hq => hk _ _ (R.N q hq).1) ⟨?_, fun b o e => hk b o (R.F.keep b o e), R.F.above⟩ (fun q hq => ⟨(hln q hq).1, fun e => ?_, ?_, fun p hp e => ?_⟩) hnd he
  · refine ex3 R.F.ns fun oL es ep hq0 => an2 hq0 fun hh r => ?_; try clear hq0
    exact ex3i oL es ep ⟨hk _ _ hh, r⟩
  · refine ex3 R.F.ns fun oL _ _ hq0 => an2 hq0 fun hh _ => ?_; try clear hq0
    have := (hln q hq).2
    rw [e, hh] at this; exact nope this.symm
  · cases e : c.h₀.get? q.1 with
    | none => rfl
    | some o => have := R.F.keep _ _ e; rw [(hln q hq).2] at this; exact nope this
  · have := (R.N p hp).1; rw [e, (hln q hq).2] at this; exact nope this
noncomputable abbrev FC.under (c : FC) (A : Around) (rm : Nat) : FC := { c with A := A, rm := rm }
theorem Rel.under (A : Around) (rm : Nat) (R : Rel W c s σ ρ m cm ce frz) : Rel W (c.under A rm) s σ ρ m cm ce frz := ⟨R.F, R.N, R.nd, R.ou, R.ex, R.cv, R.H, R.V, R.C, R.Fv, R.rn, R.gens, R.os⟩
theorem Rel.back {A : Around} {rm : Nat} (R : Rel W (c.under A rm) s σ ρ m cm ce frz) : Rel W c s σ ρ m cm ce frz := ⟨R.F, R.N, R.nd, R.ou, R.ex, R.cv, R.H, R.V, R.C, R.Fv, R.rn, R.gens, R.os⟩
theorem Qx.back {A : Around} {rm : Nat} {v : Value} {s' : Shared} (h : Qx W (c.under A rm) ρ frz X v s') : Qx W c ρ frz X v s' :=
  Qx.el h fun ρ' m' cm' ce' frz' e sym σ' q x R => Qx.mk ρ' m' cm' ce' frz' e sym σ' q x R.back
theorem okUnder (O : W.Ok c) {A : Around} {rm : Nat} (h1 : A.frames = c.A.frames) (h2 : A.handled = c.A.handled) (h3 : A.depth + rm ≤ c.A.depth + c.rm) (h4 : A.units + 16 * rm ≤ c.A.units + 16 * c.rm) : W.Ok (c.under A rm) :=
  ⟨h1.trans O.stack, O.kind, O.eL, O.eF, O.eG, O.eB, O.X, O.T, O.stays, O.new, O.FF, O.hid, O.lf, O.cnd, O.cfr, O.cex, O.exf, h2.trans O.hand, Nat.lt_of_le_of_lt h3 O.dep, by have := O.uni; show A.units + 16 * rm + 100 < cLine; lia -abstractProof⟩
noncomputable def ptNew (C : Addr) (ptI : PT) : PT := fun as hp nx P X => ptI (.ref nx :: as) (hp ++ [(nx, .inst C [])]) (nx + 1) (fun v hp' nx' => v = .none ∧ P (.ref nx) hp' nx') X
noncomputable def clsOk (K : Frag) (C fI : Addr) : Bool := makesIn K C && (findIn K (.ref C) "__init__" == some (some (.ref fI))) && isFn K (.ref fI)
theorem cls_sound {n : Nat} {C fI : Addr} {ptI : PT} (hc : clsOk W.K C fI = true) (h : PTokC W n (.ref fI) ptI) : PTokC W (n + 1) (.ref C) (ptNew C ptI) := by
  intro c O hn σ as P X hpt s ρ m cm ce frz vs R hv
  unfold clsOk at hc
  rw [Bool.and_eq_true, Bool.and_eq_true] at hc
  obtain ⟨⟨hm, hi⟩, hf⟩ := hc
  have Xs := O.X.keeps R.F.keep
  let A' := c.A.under (.builtin "type.__call__" ⟨.ref C :: vs, []⟩)
  have O' : W.Ok (c.under A' (c.rm - 1)) := okUnder O rfl rfl (by show c.A.depth + 1 + (c.rm - 1) ≤ _; lia -abstractProof) (by show c.A.units + 1 + 16 * (c.rm - 1) ≤ _; lia -abstractProof)
  have hL := R.F.ns.lt
  obtain ⟨hh, g, d, t, os⟩ := s
  refine make_core (makes_of Xs hm) (looks_findIn Xs (beq_iff_eq.mp hi)) (fun self => bind_fn Xs self (beq_iff_eq.mp hf)) (.inl rfl) ?_
  have k1 : ∀ b o, hh.get? b = some o → ((hh.push emptyDict).push (instObj C hh.objs.size)).get? b = some o := fun b o e => Heap.get?_push_of_some _ (Heap.get?_push_of_some _ e)
  have e1 : ((hh.push emptyDict).push (instObj C hh.objs.size)).get? hh.objs.size = some (dictOf [] 0) := Heap.get?_push_of_some _ (Heap.get?_push_size _ rfl)
  have e2 : ((hh.push emptyDict).push (instObj C hh.objs.size)).get? (hh.objs.size + 1) = some (instObj C hh.objs.size) := by
    have := Heap.get?_push_size (hh.push emptyDict) (o := instObj C hh.objs.size) rfl
    rwa [Heap.size_push] at this
  have R' := R.alloc (o := .inst C []) (ln := [(hh.objs.size + 1, instObj C hh.objs.size), (hh.objs.size, dictOf [] 0)]) (x := hh.objs.size + 1) (t := t) k1 (fun q hq => by
      rcases List.mem_cons.mp hq with rfl | hq
      · exact ⟨e2, Heap.get?_none_of_le (Nat.le_succ _)⟩
      · refine List.mem_singleton.mp hq ▸ ?_; exact ⟨e1, Heap.get?_none_of_le (Nat.le_refl _)⟩) (by simp) (ex4i _ _ [] 0 ⟨rfl, if_pos rfl, .nil⟩)
  have hv' : ValL (Z c.h₀ frz) (upd ρ σ.nxt (hh.objs.size + 1)) (.ref σ.nxt :: as) (.ref (hh.objs.size + 1) :: vs) := ⟨⟨_, rfl, if_pos rfl⟩, hv.ext (R.extUpd _)⟩
  refine codeAny_mono (h (c.under A' (c.rm - 1)) O' (by show n ≤ c.rm - 1; lia -abstractProof) { σ with hp := σ.hp ++ [(σ.nxt, .inst C [])], nxt := σ.nxt + 1 } (.ref σ.nxt :: as) (fun v σ' => v = .none ∧ P (.ref σ.nxt) σ') X hpt _ _ _ _ _ _ _ (R'.under _ _) hv') fun r s' z => ?_
  cases r with
  | error e => exact Qx.ext (R.extUpd _) (Qx.back z)
  | ok f =>
    cases f with
    | ret v =>
      refine ex7 z fun ρ' m' cm' ce' frz' av σ' hq0 => an5 hq0 fun x R₂ hv₂ qe10 q => ?_; try clear hq0; try clear z; subst qe10
      exact ⟨hv₂, (ex7i ρ' m' cm' ce' frz' (.ref σ.nxt) σ' ⟨(R.extUpd _).trans x, R₂.back, ⟨_, rfl, x.r _ _ (if_pos rfl)⟩, q⟩)⟩
    | next => exact z.elim
    | brk => exact z.elim
    | cont => exact z.elim
end
section
open PySem PySem.W PySem.Calls PyProof.Rows PyProof.V PySem.Spec PySem.SeqAt PySem.Builtin PySem.Builtin.ObjectAttr
set_option maxHeartbeats 4000000
section
variable {prog : Program} {w : World} {A : Around} {E : Value → Shared → Prop} {h : Heap} {g : Array GenState} {d : Drawn} {t : Nat} {os : OsState}
variable {nm q : Str} {C N x : Addr} {bs bm : List Value} {sn : List Str} {sub : List Value} {ab : Bool} {col : Option Bool} {dd : Option Addr} {k0 k1 k2 k3 k5 : Option Value} {B newId sa owner : String}
  {mN mA : Str → Option Value} {name : Str} {v : Value}
theorem first_entry {tk : Tok} {o : Obj} {Q : Fin → Shared → Prop} (SF : StoreFacts B bm sa owner)
    (hC : h.get? C = some (excClassObj nm q C N bs bm true sn sub ab col dd k0 k1 k2 k3 k5 newId)) (hn : h.Ns N mN) (hna : mN name = none) (hB : typeLookup (.type B) name = pure none)
    (hx : h.get? x = some o) (hc : o.cls = .ref C) (hnc : ∀ c, o.data ≠ .cls c) (hdn : o.dict = none)
    (hq : ∀ h' tk', h'.get? x = some { o with dict := some h.objs.size } → h'.Ns1 h.objs.size (fun y => if y = name then some v else none) → (∀ b o', b ≠ x → h.get? b = some o' → h'.get? b = some o') → Q (.done (.ret .none)) ⟨h', g, d, tk', os⟩) :
    wpAny (model prog w) A (Builtin.«object.__setattr__» ⟨[.ref x, .str name tk, v], []⟩) Q E ⟨h, g, d, t, os⟩ := by
  have hpass := SF.passes (.ref x)
  unfold Builtin.«object.__setattr__»
  repeat (first | rw [refuse_eq] | (rw [refuseLoop_ref, hpass]) | (with_reducible refine wpAny_loadPart_at hx ?_; rw [hc]) | with_reducible refine wpAny_mroOf_exc hC ?_ | (with_reducible refine wpAny_typeLookup_exc hC hn SF.mro hB ?_; rw [hna]) | wp_step)
  rw [hdn, if_neg (by simp [typeHasDict])]
  split
  · rename_i hcd; exact nope hcd
  split
  · rename_i c hcd; exact absurd hcd (hnc c)
  · have hx₁ : (h.push { cls := .type "dict", data := .dict #[] }).get? x = some o := Heap.get?_push_of_some _ hx
    have hxs : x ≠ h.objs.size := Nat.ne_of_lt (Heap.lt_size hx)
    refine wpAny_bind (wpAny_alloc' (wpAny_bind (wpAny_update' hx₁ (wpAny_pure ?_))))
    have hgd : ((h.push { cls := .type "dict", data := .dict #[] }).update x fun o => { cls := o.cls, dict := some h.objs.size, data := o.data, slots := o.slots }).get? h.objs.size = some { cls := .type "dict", data := .dict #[] } :=
      (Heap.get?_update_ne _ _ _ _ hxs.symm).trans (Heap.get?_push_at rfl rfl)
    have hnd : ((h.push { cls := .type "dict", data := .dict #[] }).update x fun o => { cls := o.cls, dict := some h.objs.size, data := o.data, slots := o.slots }).Ns h.objs.size (fun _ => none) :=
      (ex3i _ (#[]) _ ⟨hgd, rfl, fun e he => absurd he (by simp), fun _ => rfl⟩)
    show wpAny _ _ (storeInDict h.objs.size (.str name tk) name v) _ _ _
    unfold storeInDict newKeyGuard
    refine wpAny_bind (wpAny_pure (wpAny_bind (wpAny_nsSet1 (Heap.Ns1.of_empty hnd) fun h' hn' hs => ?_)))
    refine ex3 (hn'.count (Within.cons name v Within.nil)) fun oD esD epD hq0 => an3 hq0 fun hoD hdD hcD => ?_; try clear hq0
    refine wpAny_bind (wpAny_lookBehind hoD (by refine hdD ▸ ?_; exact pastItsLine_dict (Nat.le_trans hcD (by refine List.length_cons ▸ List.length_nil ▸ sizeLine_eq ▸ ?_; exact Nat.le_add_left ..))) ?_)
    wp_walk
    refine hq h' _ ?_ hn' fun b ob hbx hb => ?_
    · refine (hs.2 x hxs).trans (Heap.get?_update_self _ hx₁ ?_)
      have hfr := (Heap.get?_some_iff.mp hx).2
      obtain ⟨oc, od, odt, osl⟩ := o
      cases odt <;> first | rfl | exact hfr
    · exact (hs.2 b (Nat.ne_of_lt (Heap.lt_size hb))).trans ((Heap.get?_update_ne _ _ _ _ hbx).trans (Heap.get?_push_of_some _ hb))
theorem first_attr {o : Obj} {Q : Unit → Shared → Prop} (SF : StoreFacts B bm sa owner)
    (hC : h.get? C = some (excClassObj nm q C N bs bm true sn sub ab col dd k0 k1 k2 k3 k5 newId)) (hn : h.Ns N mN) (hns : mN "__setattr__" = none) (hna : mN name = none) (hB : typeLookup (.type B) name = pure none)
    (hx : h.get? x = some o) (hc : o.cls = .ref C) (hnc : ∀ c, o.data ≠ .cls c) (hdn : o.dict = none)
    (hq : ∀ h' tk', h'.get? x = some { o with dict := some h.objs.size } → h'.Ns1 h.objs.size (fun y => if y = name then some v else none) → (∀ b o', b ≠ x → h.get? b = some o' → h'.get? b = some o') → Q () ⟨h', g, d, tk', os⟩) :
    wpAny (model prog w) A (setAttr (.ref x) name v) Q E ⟨h, g, d, t, os⟩ := by
  have f3 := SF.slot.bind (.ref x)
  unfold setAttr callSpecial? specialOf
  repeat (any_goals (first | assumption | (with_reducible refine wpAny_loadPart_at hx ?_; refine hc ▸ ?_) | (with_reducible refine wpAny_typeLookup_exc hC hn SF.mro SF.slot.lookup ?_; refine hns.symm ▸ ?_) | wp_step))
  refine codeAny_call_builtin SF.slot.plain SF.entry (wpAny_check_sa SF hC hx hc (first_entry SF hC hn hna hB hx hc hnc hdn fun h' tk' a1 a2 a3 => ?_))
  repeat (any_goals (first | assumption | wp_step))
  exact hq h' tk' a1 a2 a3
end
end
structure LSOk (W : Wd) (fI : Addr) : Prop where
  cls : ∃ nm q N bs sn sub ab col dd k0 k1 k2 k3 k5, W.K.lookup W.LS = some (excClassObj nm q W.LS N bs [.type "Exception", .type "BaseException", .type "object"] true sn sub ab col dd k0 k1 k2 k3 k5 "Exception.__new__") ∧
    ∃ oN es ep, W.K.lookup N = some oN ∧ oN.data = .dict es ep ∧ StrKeys es ∧ nsFind es "__setattr__" = none ∧ nsFind es "__init__" = some (.ref fI) ∧ nsFind es "symbol" = none ∧ nsFind es "data" = none
  fn : ∃ o, W.K.lookup fI = some o ∧ o.cls = .type "function"
noncomputable def ptExc (ptI : PT) : PT := fun as hp nx P X => ptI (.ref nx :: as) (hp ++ [(nx, .exc [])]) (nx + 1) (fun v hp' nx' => v = .none ∧ P (.ref nx) hp' nx') X
section
variable {W : Wd} {c : FC} {σ : St} {P : AV → St → Prop} {X : Str → St → Prop} {N : St → Prop} {Rt : AV → St → Prop} {s : Shared} {ρ : Nat → Option Addr} {m : Str → Option Value} {cm ce frz : List (Addr × Obj)}
theorem exc_sound {n : Nat} {fI : Addr} {ptI : PT} (hls : LSOk W fI) (h : PTok W n (.ref fI) ptI) : ∀ (c : FC), W.Ok c → n + 1 ≤ c.rm → ∀ σ as P, as.length ≤ 100 → (ptExc ptI).at σ as P noX → TriC W c σ (.ref W.LS) as P noX := by
  intro c O hn σ as P hlen hpt s ρ m cm ce frz vs R hv
  refine cps fun GG kG => ?_; obtain ⟨⟨nm, q, Nn, bs, sn, sub, ab, col, dd, k0, k1, k2, k3, k5, hC, oN, es, ep, hN, hNd, hNs, _, hNi, _, _⟩, oI, hoI, hIc⟩ := hls; refine kG ?_
  have Xs := O.X.keeps R.F.keep
  have O' : W.Ok (c.under (c.A.under (.builtin "type.__call__" ⟨.ref W.LS :: vs, []⟩)) (c.rm - 1)) := okUnder O rfl rfl (by show c.A.depth + 1 + (c.rm - 1) ≤ _; lia -abstractProof) (by show c.A.units + 1 + 16 * (c.rm - 1) ≤ _; lia -abstractProof)
  obtain ⟨hh, g, d, t, os⟩ := s
  refine wpAny_call_exc_init PySem.F.excBase_Exception (Xs _ _ hC) (mN := nsFind es) (ex3i oN es ep ⟨Xs _ _ hN, hNd, hNs, fun _ => rfl⟩) hNi (Xs _ _ hoI) hIc (fun h' e hm => ?_) (by refine hv.length ▸ sizeLine_eq ▸ ?_; exact bg hlen rfl)
  refine Exists.elim hm.there fun tu hq0 => an3 hq0 fun he _ _ => ?_; try clear hq0
  have R' := R.alloc (o := .exc []) (ln := [(e, { cls := .ref W.LS, data := .fields #[.ref tu, .none, .none, .none, .bool false, .none] })]) (x := e) (t := t) hm.keeps (fun q hq => by refine List.mem_singleton.mp hq ▸ ?_; exact ⟨he, hm.new⟩) (by simp)
    (ex3i e _ _ ⟨rfl, rfl, rfl, if_pos rfl, .inl ⟨rfl, rfl, rfl⟩⟩)
  have hv' : ValL (Z c.h₀ frz) (upd ρ σ.nxt e) (.ref σ.nxt :: as) (.ref e :: vs) := ⟨⟨_, rfl, if_pos rfl⟩, hv.ext (R.extUpd _)⟩
  refine wpAny_mono (h _ O' (by show n ≤ c.rm - 1; lia -abstractProof) { σ with hp := σ.hp ++ [(σ.nxt, .exc [])], nxt := σ.nxt + 1 } (.ref σ.nxt :: as) (fun v σ' => v = .none ∧ P (.ref σ.nxt) σ') noX hpt _ _ _ _ _ _ _ (R'.under _ _) hv') (fun v s' z => ?_) fun _ _ z => z.no.elim
  refine ex7 z fun ρ' m' cm' ce' frz' av σ' hq0 => an5 hq0 fun x R₂ hv₂ qe10 q => ?_; try clear hq0; try clear z; subst qe10
  exact ⟨hv₂, (ex7i ρ' m' cm' ce' frz' (.ref σ.nxt) σ' ⟨(R.extUpd _).trans x, R₂.back, ⟨_, rfl, x.r _ _ (if_pos rfl)⟩, q⟩)⟩
end
theorem lget_mem {x : Str} {v : AV} : ∀ {l : List (Str × AV)}, lget x l = some v → x ∈ l.map (·.1)
  | [], h => nomatch (show (none : Option AV) = some v from h)
  | (y, u) :: r, h => by
    unfold lget at h
    split at h
    · rename_i z; obtain rfl : y = x := by simpa using z
      exact .head _
    · exact .tail _ (lget_mem h)
theorem tl_symbol : typeLookup (.type "Exception") "symbol" = pure none := by refine (typeLookup_type ..) ▸ builtinLookup_eq_fast ▸ ?_; kernel_rfl
theorem tl_data : typeLookup (.type "Exception") "data" = pure none := by refine (typeLookup_type ..) ▸ builtinLookup_eq_fast ▸ ?_; kernel_rfl
section
variable {W : Wd} {c : FC} {σ : St} {P : AV → St → Prop} {X : Str → St → Prop} {N : St → Prop} {Rt : AV → St → Prop} {s : Shared} {ρ : Nat → Option Addr} {m : Str → Option Value} {cm ce frz : List (Addr × Obj)}
theorem Rel.turn2 (R : Rel W c s σ ρ m cm ce frz) {n : Nat} {o' : AO} {cm' : List (Addr × Obj)} {h' : Heap} {t : Nat} (H' : HR W (Z c.h₀ frz) ρ (hset n o' σ.hp) cm') (F' : Fr c.h₀ c.L h' m) (N' : News c.h₀ c.L h' (cm' ++ (ce ++ frz)))
    (nd' : ((cm' ++ (ce ++ frz)).map (·.1)).Nodup) : Rel W c { s with heap := h', toks := t } { σ with hp := hset n o' σ.hp } ρ m cm' ce frz :=
  ⟨F', N', nd', R.ou, R.ex, R.cv, H', R.V, R.C, R.Fv, R.rn, R.gens, R.os⟩
theorem tri_setattrE {n fI : Nat} {attrs : List (Str × AV)} {name : Str} {a : AV} {P : St → Prop} (hls : LSOk W fI) (hname : name = "symbol" ∨ name = "data") (O : W.Ok c) (hp : hget n σ.hp = some (.exc attrs)) (hlen : attrs.length ≤ 100)
    (h : P { σ with hp := hset n (.exc (lset name a attrs)) σ.hp }) {s : Shared} {va v : Value} (R : Rel W c s σ ρ m cm ce frz) (hva : Val (Z c.h₀ frz) ρ (.ref n) va) (hv : Val (Z c.h₀ frz) ρ a v) :
    wpAny W.M c.A (setAttr va name v) (fun _ => Qu W c ρ frz P) (Qx W c ρ frz X) s := by
  obtain ⟨x, rfl, hx⟩ := hva
  refine ex3 (R.H.get hp) fun pre l post hq0 => an3 hq0 fun hcm np4 hset' => ?_; try clear hq0; refine cps fun GG kG => ?_; obtain ⟨e, oe, vs, b1, b2, b3, b4, b5⟩ := np4; refine kG ?_
  rw [hx] at b4; cases b4
  refine cps fun GG kG => ?_; obtain ⟨⟨nm, q, Nn, bs, sn, sub, ab, col, dd, k0, k1, k2, k3, k5, hC, oN, es, ep, hN, hNd, hNs, hNa, _, hNy, hNt⟩, _⟩ := hls; refine kG ?_
  have Xs := O.X.keeps R.F.keep
  have hna : nsFind es name = none := by rcases hname with rfl | rfl <;> assumption
  have hB : typeLookup (.type "Exception") name = pure none := by rcases hname with rfl | rfl; exact tl_symbol; exact tl_data
  have hNN : s.heap.Ns Nn (nsFind es) := ex3i oN es ep ⟨Xs _ _ hN, hNd, hNs, fun _ => rfl⟩
  have nd := R.nd
  have hnc : ∀ c, oe.data ≠ .cls c := fun c => by refine b2 ▸ ?_; exact fun e => nomatch e
  have hxin : (x, oe) ∈ cm ++ (ce ++ frz) := by
    refine hcm ▸ ?_
    rcases b5 with ⟨_, _, rfl⟩ | ⟨d, od, mA, _, rfl, _⟩ <;> simp
  have hxo := (R.N _ hxin).1
  have hx0 := (R.N _ hxin).2
  have hLx : c.L ≠ x := fun e => hx0.1 e.symm
  rcases b5 with ⟨rfl, b5, rfl⟩ | ⟨d, od, mA, b5, rfl, b6, b7, b8⟩
  · -- the dict is made
    obtain ⟨hh, g, dr, t, os⟩ := s
    refine first_attr (C := W.LS) PySem.F.store_Exception (Xs _ _ hC) hNN hNa hna hB hxo b1 hnc b5 fun h' tk' a1 a2 a3 => ?_
    refine ex3 a2 fun od es' ep' hq0 => an5 hq0 fun hd1 hd2 hd3 hd4 hd5 => ?_; try clear hq0; try clear a2
    have lt := R.lt
    have F' : Fr c.h₀ c.L h' m := by
      refine ex3 R.F.ns fun oL es ep hq0 => an2 hq0 fun hh' r => ?_; try clear hq0
      exact ⟨ex3i oL es ep ⟨a3 _ _ hLx hh', r⟩, fun b o ho => a3 b o (fun e => by rw [e, hx0.2] at ho; exact nope ho) (R.F.keep b o ho), R.F.above⟩
    have H' := hset' (.exc [(name, a)]) [(x, { oe with dict := some hh.objs.size }), (hh.objs.size, od)] (ex3i x ({ oe with dict := some hh.objs.size }) vs ⟨b1, b2, b3, hx, .inr (ex3i hh.objs.size od (fun y => if y = name then some v else none) ⟨rfl, rfl, fun h e => ex3i od es' ep' ⟨e, hd2, hd3, hd4, hd5⟩, fun y w hy => ?_, fun y hy => ?_⟩)⟩)
    · refine (Qu.mk ρ m _ ce frz _ .refl (R.turn2 H' F' (fun q hq => ?_) ?_) h)
      · have others : ∀ q ∈ cm ++ (ce ++ frz), q.1 ≠ x → h'.get? q.1 = some q.2 ∧ q.1 ≠ c.L ∧ c.h₀.get? q.1 = none := fun q hq hne => ⟨a3 _ _ hne (R.N q hq).1, (R.N q hq).2⟩
        have nx : ∀ q ∈ pre ++ (post ++ (ce ++ frz)), q.1 ≠ x := fun q hq e => by
          rw [hcm] at nd
          have pm : (pre ++ ([(x, oe)] ++ post) ++ (ce ++ frz)).Perm ((x, oe) :: (pre ++ (post ++ (ce ++ frz)))) := by
            simpa using List.perm_middle (a := (x, oe)) (l₁ := pre) (l₂ := post ++ (ce ++ frz))
          rw [(pm.map (·.1)).nodup_iff, List.map_cons, List.nodup_cons] at nd
          exact nd.1 (List.mem_map.mpr ⟨q, hq, e⟩)
        by_cases h1 : q = (x, { oe with dict := some hh.objs.size })
        · subst h1; exact ⟨a1, hx0⟩
        · by_cases h2 : q = (hh.objs.size, od)
          · subst h2
            refine ⟨hd1, fun e => absurd R.F.ns.lt (by refine e ▸ ?_; exact Nat.lt_irrefl _), ?_⟩
            cases e : c.h₀.get? hh.objs.size with
            | none => rfl
            | some o => exact absurd (Heap.lt_size (R.F.keep _ _ e)) (Nat.lt_irrefl _)
          · have hq' : q ∈ pre ++ (post ++ (ce ++ frz)) := by simpa [h1, h2, or_assoc] using hq
            exact others q (by refine hcm ▸ ?_; revert hq'; simp only [List.mem_append]; intro hq'; rcases hq' with h | h | h <;> simp [h]) (nx q hq')
      · rw [hcm] at nd
        have pm : (pre ++ ([(x, { oe with dict := some hh.objs.size }), (hh.objs.size, od)] ++ post) ++ (ce ++ frz)).Perm ((hh.objs.size, od) :: (pre ++ ((x, { oe with dict := some hh.objs.size }) :: (post ++ (ce ++ frz))))) := by
          have := List.perm_middle (a := (hh.objs.size, od)) (l₁ := pre ++ [(x, { oe with dict := some hh.objs.size })]) (l₂ := post ++ (ce ++ frz))
          simpa using this
        rw [(pm.map (·.1)).nodup_iff, List.map_cons, List.nodup_cons]
        have e1 : (pre ++ ((x, { oe with dict := some hh.objs.size }) :: (post ++ (ce ++ frz)))).map (·.1) = (cm ++ (ce ++ frz)).map (·.1) := by refine hcm ▸ ?_; simp
        refine e1 ▸ ?_
        refine ⟨fun hm => ?_, R.nd⟩
        obtain ⟨q, hq, e⟩ := List.mem_map.mp hm
        exact absurd (lt q hq) (by refine e ▸ ?_; exact Nat.lt_irrefl _)
    · unfold lget at hy
      split at hy
      · rename_i z; cases hy
        obtain rfl : name = y := by simpa using z
        exact ⟨v, if_pos rfl, hv⟩
      · exact nope hy
    · unfold lget at hy
      split at hy
      · exact nope hy.symm
      · rename_i z
        exact if_neg fun e => z (by refine e.symm ▸ ?_; simp)
  · -- the dict is there
    have hdx : d ≠ x := fun e => by
      rw [hcm, e] at nd
      have pm : (pre ++ ([(x, oe), (x, od)] ++ post) ++ (ce ++ frz)).Perm ((x, oe) :: (pre ++ ((x, od) :: (post ++ (ce ++ frz))))) := by
        simpa using List.perm_middle (a := (x, oe)) (l₁ := pre) (l₂ := (x, od) :: (post ++ (ce ++ frz)))
      rw [(pm.map (·.1)).nodup_iff, List.map_cons, List.nodup_cons] at nd
      exact nd.1 (List.mem_map.mpr ⟨(x, od), by simp, rfl⟩)
    have hdin : (d, od) ∈ cm ++ (ce ++ frz) := by refine hcm ▸ ?_; simp
    have hdo := (R.N _ hdin).1
    have hd0 := (R.N _ hdin).2
    have I : s.heap.Inst x W.LS mA := ⟨oe, hxo, b1, hnc, .inr ⟨d, b5, hdx, b6 _ hdo⟩⟩
    have hxC : x ≠ W.LS := fun e => by have := hx0.2; rw [e, O.X _ _ hC] at this; exact nope this.symm
    obtain ⟨hh, g, dr, t, os⟩ := s
    refine store_attr (ns := attrs.map (·.1)) PySem.F.store_Exception (Xs _ _ hC) hNN hNa hna hB hxC I (fun h' tk' I' hk hsame => ?_) ?_ (by refine (List.length_map ..).symm ▸ sizeLine_eq ▸ ?_; exact bg hlen rfl)
    · refine Exists.elim (hsame oe hxo) fun oe' hq0 => an5 hq0 fun q1 q2 q3 q4 q5 => ?_; try clear hq0
      refine Exists.elim I' fun o₂ hq0 => an4 hq0 fun r1 r2 r3 r4 => ?_; try clear hq0; try clear I'
      rw [q1] at r1; cases r1
      have q5' := q5 d b5
      rcases r4 with ⟨r4, _⟩ | ⟨d', r4, r5, r6⟩
      · rw [q5'] at r4; exact nope r4.symm
      rw [q5'] at r4; cases r4
      refine ex3 r6 fun od' es' ep' hq0 => an5 hq0 fun hd1 hd2 hd3 hd4 hd5 => ?_; try clear hq0; try clear r6
      have keep : ∀ b o, b ≠ x → b ≠ d → hh.get? b = some o → h'.get? b = some o := fun b o h1 h2 h3 => hk b o h1 (fun o₀ dx e1 e2 => by
        rw [hxo] at e1; cases e1
        rw [b5] at e2; cases e2
        exact h2) h3
      have F' : Fr c.h₀ c.L h' m := by
        refine ex3 R.F.ns fun oL es ep hq0 => an2 hq0 fun hh' r => ?_; try clear hq0
        exact ⟨ex3i oL es ep ⟨keep _ _ hLx (fun e => hd0.1 e.symm) hh', r⟩, fun b o ho => keep b o (fun e => by rw [e, hx0.2] at ho; exact nope ho) (fun e => by rw [e, hd0.2] at ho; exact nope ho) (R.F.keep b o ho), R.F.above⟩
      have H' := hset' (.exc (lset name a attrs)) [(x, oe'), (d, od')] (ex3i x oe' vs ⟨q2.trans b1, q3.trans b2, b3, hx, .inr (ex3i d od' (fun y => if y = name then some v else mA y) ⟨q5', rfl, fun h e => ex3i od' es' ep' ⟨e, hd2, hd3, hd4, hd5⟩, fun y w hy => ?_, fun y hy => ?_⟩)⟩)
      · refine (Qu.mk ρ m _ ce frz _ .refl (R.turn2 H' F' (fun q hq => ?_) ?_) h)
        · have nx : ∀ q ∈ pre ++ (post ++ (ce ++ frz)), q.1 ≠ x ∧ q.1 ≠ d := fun q hq => by
            rw [hcm] at nd
            have pm : (pre ++ ([(x, oe), (d, od)] ++ post) ++ (ce ++ frz)).Perm ((x, oe) :: (d, od) :: (pre ++ (post ++ (ce ++ frz)))) := by
              have p1 := List.perm_middle (a := (x, oe)) (l₁ := pre) (l₂ := (d, od) :: (post ++ (ce ++ frz)))
              have p2 := (List.perm_middle (a := (d, od)) (l₁ := pre) (l₂ := post ++ (ce ++ frz))).cons (x, oe)
              have := p1.trans p2
              simpa using this
            rw [(pm.map (·.1)).nodup_iff, List.map_cons, List.map_cons, List.nodup_cons, List.nodup_cons] at nd
            exact ⟨fun e => nd.1 (.tail _ (List.mem_map.mpr ⟨q, hq, e⟩)), fun e => nd.2.1 (List.mem_map.mpr ⟨q, hq, e⟩)⟩
          by_cases h1 : q = (x, oe')
          · subst h1; exact ⟨q1, hx0⟩
          · by_cases h2 : q = (d, od')
            · subst h2; exact ⟨hd1, hd0⟩
            · have hq' : q ∈ pre ++ (post ++ (ce ++ frz)) := by simpa [h1, h2, or_assoc] using hq
              have hin : q ∈ cm ++ (ce ++ frz) := by refine hcm ▸ ?_; revert hq'; simp only [List.mem_append]; intro hq'; rcases hq' with h | h | h <;> simp [h]
              exact ⟨keep _ _ (nx q hq').1 (nx q hq').2 (R.N q hin).1, (R.N q hin).2⟩
        · have e1 : (pre ++ ([(x, oe'), (d, od')] ++ post) ++ (ce ++ frz)).map (·.1) = (cm ++ (ce ++ frz)).map (·.1) := by refine hcm ▸ ?_; simp
          refine e1 ▸ ?_; exact R.nd
      · rw [lget_lset] at hy
        by_cases hyn : y = name
        · rw [if_pos hyn] at hy; cases hy; exact ⟨v, if_pos hyn, hv⟩
        · rw [if_neg hyn] at hy
          obtain ⟨u, z1, z2⟩ := b7 y w hy
          exact ⟨u, (if_neg hyn).trans z1, z2⟩
      · rw [lget_lset] at hy
        by_cases hyn : y = name
        · rw [if_pos hyn] at hy; exact nope hy.symm
        · rw [if_neg hyn] at hy; exact (if_neg hyn).trans (b8 y hy)
    · intro y hy
      cases e : lget y attrs with
      | none => exact absurd (b8 y e) hy
      | some w => exact lget_mem e
end
section
variable {M : Model} {A : Around} {E : Value → Shared → Prop} {env : Env}
variable {nm q : Str} {C N : Addr} {bs bm : List Value} {hdct : Bool} {sn : List Str} {sub : List Value} {ab : Bool} {col : Option Bool} {dd : Option Addr} {k0 k1 k2 k3 k5 : Option Value} {newId : String}
theorem raise_exc {s : Shared} {x : Sem Value} {Q : Flow → Shared → Prop} (hbase : bm.contains (.type "BaseException") = true) (hh : A.handled = none)
    (h : wpAny M A x (fun v s₁ => ∃ e oe vs, v = .ref e ∧ s₁.heap.get? C = some (excClassObj nm q C N bs bm hdct sn sub ab col dd k0 k1 k2 k3 k5 newId) ∧ s₁.heap.get? e = some oe ∧ oe.cls = .ref C ∧ oe.data = .fields vs ∧ vs[1]? = some .none ∧ E (.ref e) s₁) E s) :
    wpAny M A (raiseStmt env (some x) none) Q E s := by
  have hcB : (Value.ref C :: bm).contains (.type "BaseException") = true := by rw [List.contains_cons, hbase, Bool.or_true]
  unfold raiseStmt
  refine wpAny_bind (wpAny_mono h (fun v s₁ h₁ => ?_) fun _ _ x => x)
  refine ex3 h₁ fun e np1 vs hq0 => an7 hq0 fun qe3 hC he hcls hda h1 hE => ?_; try clear hq0; try clear h₁; obtain ⟨oc, od, oda, osl⟩ := np1; subst qe3
  dsimp only at hcls hda
  subst hcls hda
  obtain ⟨hp, g, d, tk, os⟩ := s₁
  repeat (first | with_reducible refine wpAny_loadPart_at he ?_ | with_reducible refine wpAny_loadPart_at hC ?_ | (with_reducible refine wpAny_isSubtype_exc hC ?_; refine hcB.symm ▸ ?_) | with_reducible refine wpAny_field he rfl h1 ?_ | wp_step)
  exact wpAny_raiseNew_none hh hE
end
theorem HR.unsnoc {W : Wd} {Zp : Addr → Obj → Prop} {ρ : Nat → Option Addr} {n : Nat} {o : AO} : ∀ {hp : List (Nat × AO)} {c : List (Addr × Obj)}, HR W Zp ρ (hp ++ [(n, o)]) c → ∃ c₁ l, c = c₁ ++ l ∧ HR W Zp ρ hp c₁ ∧ EntR W Zp ρ n o l
  | [], c, h => by
    cases h with
    | cons e r => cases r with | nil => exact ex2i [] _ ⟨by refine (List.append_nil ..) ▸ ?_; rfl, .nil, e⟩
  | (k, u) :: r, c, h => by
    rw [List.cons_append] at h
    cases h with
    | @cons _ _ l' _ c' e r' =>
      refine ex2 (HR.unsnoc r') fun c₁ l hq0 => an3 hq0 fun qe2 h1 h2 => ?_; try clear hq0; subst qe2
      exact ex2i (l' ++ c₁) l ⟨by exact (List.append_assoc ..).symm ▸ rfl, .cons e h1, h2⟩
theorem lookIn_of {od : Obj} {es : Array DictEntry} {ep : Nat} {name : Str} {u : Value} (hd : od.data = .dict es ep) (h : nsFind es name = some u) : lookIn name od = some (some u) := by
  unfold lookIn
  refine hd ▸ ?_
  unfold nsFind findBy at h
  obtain ⟨e, he, rfl⟩ := Option.map_eq_some_iff.mp h
  rw [← Array.find?_toList] at he
  have he' : es.toList.find? (fun x => x.key.isStr name) = some e := he
  simp only [he']
section
variable {W : Wd} {c : FC} {σ : St} {P : AV → St → Prop} {X : Str → St → Prop} {N : St → Prop} {Rt : AV → St → Prop} {s : Shared} {ρ : Nat → Option Addr} {m : Str → Option Value} {cm ce frz : List (Addr × Obj)}
theorem tri_Raise {fI : Addr} {e : Expr} {pos : Pos} {P₁ : AV → St → Prop} (hls : LSOk W fI) (O : W.Ok c) (h : TriE W c σ (eval e c.env) P₁ noX)
    (k : ∀ v σ₁, P₁ v σ₁ → ∃ n attrs hp sym, v = .ref n ∧ σ₁.hp = hp ++ [(n, .exc attrs)] ∧ attrs ≠ [] ∧ lget "symbol" attrs = some (.str sym) ∧ X sym { σ₁ with hp := hp }) : TriS W c σ (exec (.Raise (some e) none pos) c.env) N Rt X := by
  intro s ρ m cm ce frz R
  refine cps fun GG kG => ?_; obtain ⟨⟨nm, q, Nn, bs, sn, sub, ab, col, dd, k0, k1, k2, k3, k5, hC, _⟩, _⟩ := hls; refine kG ?_
  refine (arm_exec_Raise ..) ▸ ?_
  refine wpAny_bind (wpAny_standAt (raise_exc (nm := nm) (q := q) (N := Nn) (bs := bs) (hdct := true) (sn := sn) (sub := sub) (ab := ab) (col := col) (dd := dd) (k0 := k0) (k1 := k1) (k2 := k2) (k3 := k3) (k5 := k5) (C := W.LS) (newId := "Exception.__new__") (bm := [.type "Exception", .type "BaseException", .type "object"]) (by decide +kernel) O.hand (wpAny_bind (wpAny_mono (h s ρ m cm ce frz R) (fun v s₁ hv => wpAny_bind (wpAny_standAt (wpAny_pure ?_))) fun _ _ z => z.no.elim))))
  refine Qv.el hv fun ρ₁ m₁ cm₁ ce₁ frz₁ av σ₁ x₁ R₁ hv q₁ => ?_
  refine ex4 (k av σ₁ q₁) fun n attrs hp sym hq0 => an5 hq0 fun qe4 hhp hne hsym hX => ?_; try clear hq0; subst qe4
  obtain ⟨e, rfl, he⟩ := hv
  refine ex2 (HR.unsnoc (hhp ▸ R₁.H)) fun c₁ l hq0 => an3 hq0 fun qe2 H₁ np4 => ?_; try clear hq0; subst qe2; refine cps fun GG kG => ?_; obtain ⟨e', oe, vs, b1, b2, b3, b4, b5⟩ := np4; refine kG ?_
  rw [he] at b4; cases b4
  rcases b5 with ⟨rfl, _, _⟩ | ⟨d, od, mA, b5, rfl, b6, b7, b8⟩
  · exact absurd rfl hne
  have nd := R₁.nd
  have he₁ := R₁.N (e, oe) (by simp)
  have hd₁ := R₁.N (d, od) (by simp)
  obtain ⟨u, hu, hV⟩ := b7 "symbol" _ hsym
  obtain ⟨t, rfl⟩ := hV
  refine ex3 (b6 _ hd₁.1) fun od' es' ep' hq0 => an5 hq0 fun hd1 hd2 _ _ hd5 => ?_; try clear hq0
  rw [hd₁.1] at hd1; cases hd1
  have hlk := lookIn_of hd2 ((hd5 "symbol").trans hu)
  have zz : ∀ a o, Z c.h₀ frz₁ a o → Z c.h₀ ((d, od) :: frz₁) a o := fun _ _ z => z.imp id (.tail _)
  have rr : ∀ n x, ρ₁ n = some x → ρ₁ n = some x := fun _ _ z => z
  have pm : ((c₁ ++ [(e, oe), (d, od)]) ++ (ce₁ ++ frz₁)).Perm ((e, oe) :: (c₁ ++ (ce₁ ++ ((d, od) :: frz₁)))) := by
    have p1 := List.perm_middle (a := (e, oe)) (l₁ := c₁) (l₂ := (d, od) :: (ce₁ ++ frz₁))
    have p2 : (c₁ ++ ((d, od) :: (ce₁ ++ frz₁))).Perm (c₁ ++ (ce₁ ++ ((d, od) :: frz₁))) := List.Perm.append_left _ List.perm_middle.symm
    have := p1.trans (p2.cons (e, oe))
    simpa using this
  have nd' := nd
  rw [(pm.map (·.1)).nodup_iff, List.map_cons, List.nodup_cons] at nd'
  refine ex3i e oe vs ⟨rfl, O.X.keeps R₁.F.keep _ _ hC, he₁.1, b1, b2, b3, ?_⟩
  refine ex8i ρ₁ m₁ c₁ ce₁ ((d, od) :: frz₁) e sym ({ σ₁ with hp := hp }) ⟨rfl, ⟨x₁.r, fun q hq => .tail _ (x₁.z q hq)⟩, ⟨R₁.F, fun q hq => R₁.N q (pm.mem_iff.mpr (.tail _ hq)), nd'.2, R₁.ou, R₁.ex, R₁.cv, H₁.mono zz rr, ?_, ?_, ?_, R₁.rn, R₁.gens, R₁.os⟩, ex6i oe vs d od t .none ⟨he₁.1, b1, b5, b2, b3, .inr (.head _), hlk, he₁.2.2, nd'.1, .inl rfl⟩, hX⟩
  · intro y v hy
    obtain ⟨u, h1, h2⟩ := R₁.V y v hy
    exact ⟨u, h1, h2.mono zz rr⟩
  · intro y ov hy
    refine ex2 (R₁.C y ov hy) fun a o hq0 => an4 hq0 fun h1 h2 h3 h4 => ?_; try clear hq0
    exact ex2i a o ⟨h1, h2, h3, fun v hv => let ⟨u, h5, h6⟩ := h4 v hv; ⟨u, h5, h6.mono zz rr⟩⟩
  · intro y v hy
    refine ex3 (R₁.Fv y v hy) fun a o u hq0 => an4 hq0 fun h1 h2 h3 h4 => ?_; try clear hq0
    exact ex3i a o u ⟨h1, h2, h3, h4.mono zz rr⟩
end
noncomputable def lsGet (K : Frag) (LS : Addr) : Bool := (findIn K (.ref LS) "__getattribute__" == some (some (.builtin "BaseException.__getattribute__")) && findIn K (.ref LS) "__getattr__" == some none && mroIn K LS (.type "BaseException") == some true) && hasDictIn K LS && (match findIn K (.ref LS) "symbol" with | some att => noGet K att | none => false)
theorem get_valueE {prog : Program} {w : World} {A : Around} {E : Value → Shared → Prop} {s : Shared} {K : Frag} {x C : Addr} {ox : Obj} {od : Option Obj} {name : Str} {expr : Bool} {Q : Value → Shared → Prop} {v : Value} (X : K.In s.heap) (I : InstAt s.heap x ox C od)
    (hga : findIn K (.ref C) "__getattribute__" = some (some (.builtin "BaseException.__getattribute__"))) (hgt : findIn K (.ref C) "__getattr__" = some none) (hb : mroIn K C (.type "BaseException") = some true)
    (hf : findObj K C od name = some (.value v)) (hh : handedIn v = true) (h : Q v { s with toks := s.toks + 1 }) : wpAny (model prog w) A (getAttr (.ref x) name expr) Q E s := by
  obtain ⟨hp, g, d, t, os⟩ := s
  have L0 := I.type (M := model prog w)
  have L1 := looks_findIn (M := model prog w) X hga
  have L1' := looks_findIn (M := model prog w) X hgt
  have L2 := looks_mroIn (M := model prog w) X hb
  have L3 := looks_find (M := model prog w) X I hf
  have f3 := F.excAttr_ValueError.ga.bind (.ref x)
  have hx0 : (expr && onTheHeap (Value.builtin "BaseException.__getattribute__")) = false := by cases expr <;> rfl
  have hx2 : (Value.builtin "BaseException.__getattribute__" == Value.builtin "object.__getattribute__") = false := by decide +kernel
  have hk : builtinKind "BaseException.__getattribute__" = some .slot := by decide +kernel
  have hsplit : splitId "BaseException.__getattribute__" = some ("BaseException", "__getattribute__") := by decide +kernel
  unfold getAttr getAttrBy
  refine wpAny_bind (wpAny_mkText (wpAny_holding (wpAny_bind (L0.at (wpAny_bind (L1.at ?_))))))
  dsimp only
  rw [hx2, Bool.and_false, if_neg (by decide)]
  unfold getAttrByItsOwn hookBefore
  refine wpAny_bind (L1'.at ?_)
  dsimp only [Option.toList]
  have T : ∀ R : Result → Shared → Prop, R (.ok (.ret v)) ⟨hp, g, d, t + 1, os⟩ → codeAny (model prog w) A (.call (.builtin "BaseException.__getattribute__") ⟨[.ref x, .str name t], []⟩) R ⟨hp, g, d, t + 1, os⟩ := by
    intro R hR
    refine codeAny_call_builtin F.excAttr_ValueError.ga.plain F.entry_bexc_ga ?_
    have ha := F.args_bexc_ga (.ref x) (.str name t)
    simp only [checkBuiltinCall, hk, hsplit]
    refine wpAny_bind ?_
    · unfold isInstance
      refine wpAny_bind (L0.at (L2.at ?_))
      unfold Builtin.«object.__getattribute__»
      repeat (first | assumption | wp_step)
      refine wpAny_loadPart_at I.at_ ?_
      refine wpAny_pure ?_
      refine I.cls ▸ ?_
      refine wpAny_bind (L3.at ?_)
      exact wpAny_pure hR
  unfold callGetattribute boundAndCalled
  repeat (any_goals (first | assumption | wp_step))
  refine T _ ?_
  show wpAny _ _ (handedOut v) _ _ _
  refine handedOut_of hh ▸ ?_; exact wpAny_pure h
section
variable {W : Wd} {c : FC} {σ : St} {P : AV → St → Prop} {X : Str → St → Prop} {N : St → Prop} {Rt : AV → St → Prop} {s : Shared} {ρ : Nat → Option Addr} {m : Str → Option Value} {cm ce frz : List (Addr × Obj)}
theorem trySym_at {fI : Addr} {body : List Stmt} {lsN n : Str} {p1 p2 p3 p4 p5 pos : Pos} (hls : LSOk W fI) (hget : lsGet W.K W.LS = true) (O : W.Ok c) (hin : c.inn = false) (hk : c.cs.names.lookup lsN = some .globalImplicit) (hd : (lsN == ("__debug__" : Str)) = false)
    (hv : nsIn W.K mainGlobals lsN = some (some (.ref W.LS))) (hn : c.cs.names.lookup n = some .local) (hdn : (n == ("__debug__" : Str)) = false) {s : Shared} {ρ : Nat → Option Addr} {m : Str → Option Value} {cm ce frz : List (Addr × Obj)} (R : Rel W c s σ ρ m cm ce frz)
    (h : wpAny W.M c.A (execs body c.env) (Qf W c ρ frz N Rt) (Qx W c ρ frz (fun sym σ' => Rt (.str sym) { σ' with loc := [] })) s) :
    wpAny W.M c.A (exec (.Try body [.ExceptHandler (some (.Name lsN p1)) (some n) [.Return (some (.Attribute (.Name n p2) "symbol" p3)) p4] p5] [] [] pos) c.env) (Qf W c ρ frz N Rt) (Qx W c ρ frz noX) s := by
  refine cps fun GG kG => ?_; obtain ⟨⟨nm, q, Nn, bs, sn, sub, ab, col, dd, k0, k1, k2, k3, k5, hC, _⟩, _⟩ := hls; refine kG ?_
  refine wpAny_Try_except (wpAny_mono h (fun f s₁ z => ?_) fun ev s₁ z => ?_)
  · cases f with
    | next => exact wpAny_execs_nil z
    | ret v => exact z
    | brk => exact z.elim
    | cont => exact z.elim
  refine Qx.el z fun ρ₁ m₁ cm₁ ce₁ frz₁ e sym σ₁ qe x₁ R₁ Xc₁ hR => ?_; subst qe
  refine Rel.note O hin R₁ Xc₁ fun h₂ ce₂ R₂ Xc₂ => ?_
  generalize hs₂ : ({ s₁ with heap := h₂ } : Shared) = s₂ at R₂ ⊢
  have hh₂ : s₂.heap = h₂ := by exact hs₂ ▸ rfl
  rw [← hh₂] at Xc₂
  refine ex6 Xc₂ fun oe vs d od t v₁ hq0 => an10 hq0 fun y1 y2 y3 y4 y5 y6 y7 y8 y9 y10 => ?_; try clear hq0; try clear Xc₂
  have hCs := O.X.keeps R₂.F.keep _ _ hC
  refine Exists.elim R₂.Ldata fun oL hq0 => an3 hq0 fun hoL np2 _ => ?_; try clear hq0; obtain ⟨_, _, hdL⟩ := np2
  have hp : (c.env.scope.kind == .class || (c.env.scope.kind == .module && c.env.locals != c.env.globals)) = false := by
    have := O.kind
    refine (show c.env.scope.kind = ScopeKind.function from this) ▸ ?_; rfl
  have eL : e ≠ c.L := by
    rintro rfl
    rw [y1] at hoL; cases hoL
    rw [y4] at hdL; cases hdL
  refine wpAny_handleBy_cons (codeAny_handlers_test (Name_function_global O.kind hk (loadGlobal_global (O.eG.symm ▸ O.T.g.keeps R₂.F.keep) (mg_of O.X O.T.g hv) ?_) hd)) (by intro q; cases q)
  obtain ⟨hp₂, g₂, dr₂, tk₂, os₂⟩ := s₂
  refine wpAny_excMatches_sub_self (bm := [.type "Exception", .type "BaseException", .type "object"]) hCs y1 y2 (by decide +kernel) ?_
  show codeAny _ _ _ _ _
  refine codeAny_handlers_suite_as ?_
  have fly : ∀ (K : Shared → Prop), (∀ h₃, (∀ b o, v₁ ≠ .ref b → hp₂.get? b = some o → h₃.get? b = some o) → K ⟨h₃, g₂, dr₂, tk₂, os₂⟩) → ∀ (A : Around) (E : Value → Shared → Prop), wpAny W.M A (setFlight (.ref e) none) (fun _ s => K s) E ⟨hp₂, g₂, dr₂, tk₂, os₂⟩ := by
    intro K hK A E
    unfold setFlight
    refine wpAny_bind (wpAny_field y1 y4 y5 ?_)
    rcases y10 with rfl | ⟨T, oT, ts, rfl, a2, a3, a4, a5, a6, a7⟩
    · rw [if_neg (by decide)]
      exact wpAny_pure (hK _ fun _ _ _ e => e)
    · refine if_pos (show (Value.ref T != Value.none) = true from by simp) ▸ ?_
      refine wpAny_setField a5 a6 (Array.getElem?_eq_some_iff.mp a7).1 (hK _ fun b o hb e => ?_)
      exact (Heap.get?_update_ne _ _ _ _ (fun e' => hb (by exact e'.symm ▸ rfl))).trans e
  refine fly _ (fun h₃ hk₃ => ?_) _ _
  have tbn : ∀ q ∈ cm₁ ++ (ce₂ ++ frz₁), v₁ ≠ .ref q.1 := by
    intro q hq e'
    rcases y10 with rfl | ⟨T, oT, ts, a1, a2, a3, _⟩
    · cases e'
    · rw [a1] at e'; cases e'
      exact a3 (List.mem_map.mpr ⟨q, hq, rfl⟩)
  have tb0 : ∀ b o, c.h₀.get? b = some o → v₁ ≠ .ref b := by
    intro b o ho e'
    rcases y10 with rfl | ⟨T, oT, ts, a1, a2, a3, a4, _⟩
    · cases e'
    · rw [a1] at e'; cases e'
      rw [ho] at a4; exact nope a4.symm
  have tbe : v₁ ≠ .ref e := by
    rcases y10 with rfl | ⟨T, oT, ts, a1, a2, _⟩
    · exact fun e' => by cases e'
    · refine a1 ▸ ?_; exact fun e' => a2 (by cases e'; rfl)
  have tbL : v₁ ≠ .ref c.L := by
    rcases y10 with rfl | ⟨T, oT, ts, a1, a2, a3, a4, a5, a6, _⟩
    · exact fun e' => by cases e'
    · refine a1 ▸ ?_; intro e'; cases e'
      rw [a5] at hoL; cases hoL
      rw [a6] at hdL; cases hdL
  have R₃ : Rel W c ⟨h₃, g₂, dr₂, tk₂, os₂⟩ σ₁ ρ₁ m₁ cm₁ ce₂ frz₁ := by
    refine R₂.same (h' := h₃) (t := tk₂) ?_ fun q hq => ⟨hk₃ _ _ (tbn q hq) (R₂.N q hq).1, (R₂.N q hq).2⟩
    refine ex3 R₂.F.ns fun oL es ep hq0 => an2 hq0 fun hh r => ?_; try clear hq0
    exact ⟨ex3i oL es ep ⟨hk₃ _ _ tbL hh, r⟩, fun b o ho => hk₃ b o (tb0 b o ho) (R₂.F.keep b o ho), R₂.F.above⟩
  have e₃ : h₃.get? e = some oe := hk₃ _ _ tbe y1
  refine wpAny_storeName_local hn (O.eL.symm ▸ R₃.F.ns) (fun h₄ hn₄ hs₄ => ?_) hp
  rw [O.eL] at hn₄ hs₄
  have keepL : ∀ {h h' : Heap} {m' : Str → Option Value} {tk tk' : Nat} {mm : Str → Option Value}, Heap.SameBut c.L h h' → h'.Ns c.L m' → Rel W c ⟨h, g₂, dr₂, tk, os₂⟩ { σ₁ with loc := [] } ρ₁ mm cm₁ ce₂ frz₁ → Rel W c ⟨h', g₂, dr₂, tk', os₂⟩ { σ₁ with loc := [] } ρ₁ m' cm₁ ce₂ frz₁ := by
    intro h h' m' tk tk' mm hs hn R
    exact ⟨R.F.set hn hs, fun q hq => ⟨(hs.2 _ (R.N q hq).2.1).trans (R.N q hq).1, (R.N q hq).2⟩, R.nd, R.ou, R.ex, R.cv, R.H, (fun y v hy => nomatch (show (none : Option AV) = some v from hy)), R.C, R.Fv, R.rn, R.gens, R.os⟩
  have R₄ := keepL (tk' := tk₂ + 1) hs₄ hn₄ R₃.forget
  have e₄ : h₄.get? e = some oe := (hs₄.2 e eL).trans e₃
  refine (arm_execs_cons ..) ▸ ?_
  refine wpAny_bind ?_
  show wpAny _ _ (do standAt p4; return Flow.ret (← eval (.Attribute (.Name n p2) "symbol" p3) c.env)) _ _ _
  refine wpAny_bind (wpAny_standAt (wpAny_bind ?_))
  show wpAny _ _ (do
    let v ← attributeBase (.Name n p2) "symbol" c.env (eval (.Name n p2) c.env)
    standAt p3.atName
    let r ← holding [v] (getAttr v "symbol" true)
    letTemporaryGo (.Name n p2) v r
    pure r) _ _ _
  rw [base_of rfl]
  refine wpAny_bind (wpAny_Name (wpAny_loadName_local O.kind hn (O.eL.symm ▸ hn₄) (if_pos rfl) ?_) hdn)
  refine wpAny_bind (wpAny_standAt (wpAny_bind (wpAny_holding ?_)))
  unfold lsGet at hget
  rw [Bool.and_eq_true, Bool.and_eq_true] at hget
  rw [Bool.and_eq_true, Bool.and_eq_true] at hget
  refine cps fun GG kG => ?_; obtain ⟨⟨⟨⟨hg1, hg1'⟩, hg1''⟩, hg2⟩, hg3⟩ := hget; refine kG ?_
  have od₄ : h₄.get? d = some od := Z.get (s := ⟨h₄, g₂, dr₂, tk₂ + 1, os₂⟩) R₄ y6
  split at hg3
  rotate_left
  · exact nopb hg3
  rename_i att hatt
  have I : InstAt h₄ e oe W.LS (some od) := ⟨e₄, y2, by unfold notCls; exact y4 ▸ rfl, by refine y3 ▸ ?_; exact od₄⟩
  refine get_valueE (s := ⟨h₄, g₂, dr₂, tk₂ + 1, os₂⟩) (O.X.keeps R₄.F.keep) I (beq_iff_eq.mp hg1) (beq_iff_eq.mp hg1') (beq_iff_eq.mp hg1'') (findObj_own hg2 hatt hg3 y7) rfl ?_
  refine wpAny_bind (wpAny_letTemporaryGo (wpAny_pure (wpAny_pure (wpAny_pure ?_))))
  show wpAny W.M c.A (do bindName c.env n .none; unbindBehindTheSuite c.env n p5) _ _ _
  refine wpAny_nameGoes hn (O.eL.symm ▸ hn₄) hp fun h₅ m₅ hn₅ hs₅ => ?_
  rw [O.eL] at hn₅ hs₅
  exact (Qv.mk ρ₁ m₅ cm₁ ce₂ frz₁ (.str sym) _ x₁ (keepL hs₅ hn₅ R₄) (⟨t, rfl⟩) hR)
end
theorem hset_same {n : Nat} {o : AO} : ∀ {hp : List (Nat × AO)}, hget n hp = some o → hset n o hp = hp
  | [], h => by exact nope h
  | (k, u) :: r, h => by
    unfold hget at h
    unfold hset
    cases hk : Nat.beq k n with
    | true => rw [hk] at h; cases h; rfl
    | false => rw [hk] at h; simp only; exact (hset_same h).symm ▸ rfl
theorem ca_app (pos : Pos) (l r : List Value) (h : TriplesOk l) : codeAmong pos (l ++ r) = (match codeAmong pos l with | some v => some v | none => codeAmong pos r) := by
  fun_induction TriplesOk l with
  | case1 => rfl
  | case2 a t b u c rest ih =>
    have e1 : codeAmong pos (.int a t :: .int b u :: c :: (rest ++ r)) = if a == pos.line && b == pos.col then some c else codeAmong pos (rest ++ r) := rfl
    have e2 : codeAmong pos (.int a t :: .int b u :: c :: rest) = if a == pos.line && b == pos.col then some c else codeAmong pos rest := rfl
    show codeAmong pos (.int a t :: .int b u :: c :: (rest ++ r)) = _
    refine e1 ▸ e2 ▸ ?_
    by_cases h' : (a == pos.line && b == pos.col) = true
    · exact if_pos h' ▸ if_pos h' ▸ rfl
    · refine if_neg h' ▸ if_neg h' ▸ ?_; exact ih h
  | case3 => exact h.elim
theorem tr_app (l : List Value) (a b : Int) (t u : Tok) (c : Value) (h : TriplesOk l) : TriplesOk (l ++ [.int a t, .int b u, c]) := by
  fun_induction TriplesOk l with
  | case1 => trivial
  | case2 _ _ _ _ _ rest ih => exact ih h
  | case3 => exact h.elim
section
variable {W : Wd} {c : FC} {σ : St} {P : AV → St → Prop} {X : Str → St → Prop} {N : St → Prop} {Rt : AV → St → Prop} {s : Shared} {ρ : Nat → Option Addr} {m : Str → Option Value} {cm ce frz : List (Addr × Obj)}
structure LamAt (c : FC) (frz : List (Addr × Obj)) (f : Addr) (q : Str) (params : Arguments) (body : Expr) (scope : Scope) (clos : List (Str × Addr)) : Prop where
  fn : ∃ pm c' ctv oc vs t, Z c.h₀ frz f (kla_obj "<lambda>" q params body scope clos pm c' ctv) ∧ Z c.h₀ frz c' oc ∧ oc.data = .fields vs ∧ vs[1]? = some (.str q t)
theorem lam_value {params : Arguments} {body : Expr} {scope : Scope} {lpos : Pos} {cA Pt : Addr} {q : Str} {tn : Nat} {E : Value → Shared → Prop} (O : W.Ok c) (hdef : defaultsOf params c.env = ([], [])) (hcode : c.env.code = .ref cA) (hcd : codeHdIn W.K cA Pt = true)
    (hq : c.env.qual ++ "<lambda>" = q) (htab : hget tn σ.hp = some (.tab Pt q)) {clos : List (Str × Addr)} (hcl : closureFor scope c.env = pure clos) (R : Rel W c s σ ρ m cm ce frz) {Q : Value → Shared → Prop}
    (k : ∀ f s' cm' frz', Ext ρ ρ frz frz' → Rel W c s' σ ρ m cm' ce frz' → LamAt c frz' f q params body scope clos → Q (.ref f) s') : wpAny W.M c.A (eval (.Lambda params body scope lpos) c.env) Q E s := by
  refine kla_eval hdef ?_
  refine hq ▸ ?_
  refine ex3 (R.H.get htab) fun pre l post hq0 => an3 hq0 fun hcm np4 _ => ?_; try clear hq0; obtain ⟨ps, rfl, ht, hcodes⟩ := np4
  have at₀ := R.at
  have hPin : (Pt, tabObj ps) ∈ cm := by refine hcm ▸ ?_; simp
  have hP := at₀.1 _ hPin
  have hgs := O.T.g.keeps R.F.keep
  refine ex2 O.T.bmain fun bm ob hq0 => an6 hq0 fun b1 b2 b3 b4 b5 b6 => ?_; try clear hq0
  have hgP : mainGlobals ≠ Pt := fun e => by
    refine ex3 hgs fun o es ep hq0 => an3 hq0 fun e' hd _ => ?_; try clear hq0; try clear hgs
    rw [e, hP.1] at e'; cases e'; cases hd
  have hbP : bm ≠ Pt := fun e => by
    have e' := R.F.keep _ _ b3
    rw [e, hP.1] at e'; cases e'; cases b4
  have hbG : bm ≠ mainGlobals := fun e => by
    refine ex3 O.T.g fun o es ep hq0 => an3 hq0 fun e' hd _ => ?_; try clear hq0
    rw [e, e'] at b3; cases b3; rw [hd] at b6; cases b6
  have hB : s.heap.BuiltinsAt W.mg Pt := ex2i bm ob ⟨b1, b2, hbG, hbP, R.F.keep _ _ b3, b4, b5, b6⟩
  have CH := codeHd_of_K (O.X.keeps R.F.keep) hcd
  cases hca : codeAmong lpos ps.toList with
  | some cv =>
    refine ex4 (hcodes lpos cv hca) fun c' oc vs t hq0 => an4 hq0 fun qe4 q2 q3 q4 => ?_; try clear hq0; subst qe4
    refine kla_makeFunctionHit (mg := W.mg) hcl O.eG hgs hcode CH hP.1 ht hca hB fun ctv h' tk hk hsz => ?_
    have hff : (kla_obj "<lambda>" q params body scope clos ((W.mg "__name__").getD .none) c' ctv).isFreed = false := rfl
    have R' := R.frozen (h' := h'.push (kla_obj "<lambda>" q params body scope clos ((W.mg "__name__").getD .none) c' ctv)) (a := h'.objs.size) (o := kla_obj "<lambda>" q params body scope clos ((W.mg "__name__").getD .none) c' ctv) (t := tk)
      ⟨(R.F.ns.keeps hk).push _, fun b o e => Heap.get?_push_of_some _ (hk b o (R.F.keep b o e)), R.F.above⟩ (fun p hp => ?_) fun p hp => Nat.lt_of_lt_of_le (R.lt p hp) hsz
    · exact k _ _ cm _ ⟨fun _ _ h => h, fun _ h => .tail _ h⟩ R' ⟨_, c', ctv, oc, vs, t, .inr (.head _), q2.imp id (.tail _), q3, q4⟩
    · rcases List.mem_cons.mp hp with rfl | hp
      · refine ⟨Heap.get?_push_size _ hff, fun e => absurd R.F.ns.lt (by refine e ▸ ?_; exact Nat.not_lt.mpr hsz), ?_⟩
        exact Heap.get?_none_of_le (Nat.le_trans R.F.above (Nat.le_trans (Nat.le_of_lt R.F.ns.lt) hsz))
      · exact ⟨Heap.get?_push_of_some _ (hk _ _ (R.N p hp).1), (R.N p hp).2⟩
  | none =>
    refine kla_makeFunction (mg := W.mg) hcl O.eG hgs hcode CH hP.1 ht hca hgP hB fun c' ctv h' tk hx hge hlt hrec htb => ?_
    refine ex4 hrec fun c₂ oc vs t hq0 => an4 hq0 fun e2 hoc hd hv => ?_; try clear hq0; try clear hrec
    cases e2
    have hLs := R.F.ns.lt
    have old : ∀ b o, c.h₀.get? b = some o → h'.get? b = some o := fun b o e => hx b o (fun e' => by rw [e', hP.2.2] at e; exact nope e) (R.F.keep b o e)
    have fresh : ∀ b, s.heap.objs.size ≤ b → c.h₀.get? b = none := fun b hb => Heap.get?_none_of_le (Nat.le_trans R.F.above (Nat.le_trans (Nat.le_of_lt hLs) hb))
    generalize hfo : kla_obj "<lambda>" q params body scope clos ((W.mg "__name__").getD .none) c' ctv = fo
    have hff : fo.isFreed = false := by refine hfo ▸ ?_; rfl
    have nd := nd_split R.nd
    have zz : ∀ a o, Z c.h₀ frz a o → Z c.h₀ ((h'.objs.size, fo) :: (c', oc) :: frz) a o := fun _ _ z => z.imp id fun z => .tail _ (.tail _ z)
    have rr : ∀ n x, ρ n = some x → ρ n = some x := fun _ _ z => z
    refine ex3 ((R.H.mono zz rr).get htab) fun pre' l' post' hq0 => an3 hq0 fun hcm' np4 hset' => ?_; try clear hq0; obtain ⟨ps', rfl, ht', hcodes'⟩ := np4
    have hP' : (Pt, tabObj ps') ∈ cm := by refine hcm' ▸ ?_; simp
    have : ps' = ps := by
      have := (at₀.1 _ hP').1
      rw [hP.1] at this
      exact (Data.fields.inj (congrArg Obj.data (Option.some.inj this))).symm
    subst this
    have hcodes₂ : ∀ pos cv, codeAmong pos (ps' ++ #[rawInt lpos.line, rawInt lpos.col, .ref c']).toList = some cv → ∃ c₂ oc₂ vs₂ t₂, cv = .ref c₂ ∧ Z c.h₀ ((h'.objs.size, fo) :: (c', oc) :: frz) c₂ oc₂ ∧ oc₂.data = .fields vs₂ ∧ vs₂[1]? = some (.str q t₂) := by
      intro pos cv hcv
      rw [Array.toList_append, ca_app _ _ _ ht'] at hcv
      cases hv' : codeAmong pos ps'.toList with
      | some v => rw [hv'] at hcv; cases hcv; exact hcodes' pos _ hv'
      | none =>
        rw [hv'] at hcv
        have e2 : codeAmong pos [rawInt lpos.line, rawInt lpos.col, .ref c'] = if ((lpos.line : Int) == pos.line && (lpos.col : Int) == pos.col) then some (.ref c') else none := rfl
        have hcv : codeAmong pos [rawInt lpos.line, rawInt lpos.col, .ref c'] = some cv := hcv
        rw [e2] at hcv
        split at hcv
        · cases hcv; exact ex4i c' oc vs t ⟨rfl, .inr (.tail _ (.head _)), hd, hv⟩
        · exact nope hcv
    have H' := hset' (.tab Pt q) [(Pt, tabObj (ps' ++ #[rawInt lpos.line, rawInt lpos.col, .ref c']))] ⟨_, rfl, by refine Array.toList_append ▸ ?_; exact tr_app _ _ _ _ _ _ ht', hcodes₂⟩
    rw [hset_same htab] at H'
    have hsz : s.heap.objs.size ≤ h'.objs.size := Nat.le_trans hge (Nat.le_of_lt hlt)
    have old' : ∀ b o, b ≠ Pt → s.heap.get? b = some o → (h'.push fo).get? b = some o := fun b o hb e => Heap.get?_push_of_some _ (hx b o hb e)
    have nP : ∀ q ∈ pre' ++ (post' ++ (ce ++ frz)), q.1 ≠ Pt := fun p hp e => by
      have nd0 := R.nd
      rw [hcm'] at nd0
      have pm : (pre' ++ ([(Pt, tabObj ps')] ++ post') ++ (ce ++ frz)).Perm ((Pt, tabObj ps') :: (pre' ++ (post' ++ (ce ++ frz)))) := by
        simpa using List.perm_middle (a := (Pt, tabObj ps')) (l₁ := pre') (l₂ := post' ++ (ce ++ frz))
      rw [(pm.map (·.1)).nodup_iff, List.map_cons, List.nodup_cons] at nd0
      exact nd0.1 (List.mem_map.mpr ⟨p, hp, e⟩)
    have ltl := R.lt
    have Nold : ∀ p ∈ pre' ++ (post' ++ (ce ++ frz)), (h'.push fo).get? p.1 = some p.2 ∧ p.1 ≠ c.L ∧ c.h₀.get? p.1 = none := fun p hp => by
      have hin : p ∈ cm ++ (ce ++ frz) := by
        refine hcm' ▸ ?_
        simp only [List.mem_append] at hp ⊢
        rcases hp with h | h | h | h <;> simp [h]
      exact ⟨old' _ _ (nP p hp) (R.N p hin).1, (R.N p hin).2⟩
    refine k _ { s with heap := h'.push fo, toks := tk } (pre' ++ ([(Pt, tabObj (ps' ++ #[rawInt lpos.line, rawInt lpos.col, .ref c']))] ++ post')) ((h'.objs.size, fo) :: (c', oc) :: frz) ⟨fun _ _ h => h, fun _ h => .tail _ (.tail _ h)⟩ ⟨⟨?_, fun b o e => Heap.get?_push_of_some _ (old b o e), R.F.above⟩, ?_, ?_, R.ou, R.ex, R.cv, H', ?_, ?_, ?_, R.rn, R.gens, R.os⟩
      ⟨_, c', ctv, oc, vs, t, .inr (by rw [hfo]; exact .head _), .inr (.tail _ (.head _)), hd, hv⟩
    · exact (R.F.ns.extBut hx hP.2.1.symm).push _
    · intro p hp
      have cases4 : p ∈ pre' ++ (post' ++ (ce ++ frz)) ∨ p = (Pt, tabObj (ps' ++ #[rawInt lpos.line, rawInt lpos.col, .ref c'])) ∨ p = (h'.objs.size, fo) ∨ p = (c', oc) := by
        simp only [List.mem_append, List.mem_cons, List.mem_nil_iff, or_false] at hp ⊢
        rcases hp with (h | h | h) | h | h | h | h <;> simp [h]
      rcases cases4 with hp | rfl | rfl | rfl
      · exact Nold p hp
      · exact ⟨Heap.get?_push_of_some _ htb, hP.2⟩
      · exact ⟨Heap.get?_push_size _ hff, fun e => absurd hLs (by refine e ▸ ?_; exact Nat.not_lt.mpr hsz), fresh _ hsz⟩
      · exact ⟨Heap.get?_push_of_some _ hoc, fun e => absurd hLs (by refine e ▸ ?_; exact Nat.not_lt.mpr hge), fresh _ hge⟩
    · have e1 : ((pre' ++ ([(Pt, tabObj (ps' ++ #[rawInt lpos.line, rawInt lpos.col, .ref c']))] ++ post')).map (·.1)) = cm.map (·.1) := by refine hcm' ▸ ?_; simp
      have nd2 : ((cm ++ (ce ++ ((h'.objs.size, fo) :: (c', oc) :: frz))).map (·.1)).Nodup := by
        refine nd_join ⟨nd.1, nd.2.1, ?_, nd.2.2.2.1, ?_, ?_⟩
        · rw [List.map_cons, List.map_cons, List.nodup_cons, List.nodup_cons]
          refine ⟨fun hm => ?_, fun hm => ?_, nd.2.2.1⟩
          · rcases List.mem_cons.mp hm with e | hm
            · exact absurd hlt (by refine (show h'.objs.size = c' from e) ▸ ?_; exact Nat.lt_irrefl _)
            · obtain ⟨p, hp, e⟩ := List.mem_map.mp hm
              exact absurd (ltl p (by simp [hp])) (by refine e ▸ ?_; exact Nat.not_lt.mpr hsz)
          · obtain ⟨p, hp, e⟩ := List.mem_map.mp hm
            exact absurd (ltl p (by simp [hp])) (by refine e ▸ ?_; exact Nat.not_lt.mpr hge)
        · intro p hp r hr e
          rcases List.mem_cons.mp hr with rfl | hr
          · exact absurd (ltl p (by simp [hp])) (by refine e ▸ ?_; exact Nat.not_lt.mpr hsz)
          · rcases List.mem_cons.mp hr with rfl | hr
            · exact absurd (ltl p (by simp [hp])) (by refine e ▸ ?_; exact Nat.not_lt.mpr hge)
            · exact nd.2.2.2.2.1 p hp r hr e
        · intro p hp r hr e
          rcases List.mem_cons.mp hr with rfl | hr
          · exact absurd (ltl p (by simp [hp])) (by refine e ▸ ?_; exact Nat.not_lt.mpr hsz)
          · rcases List.mem_cons.mp hr with rfl | hr
            · exact absurd (ltl p (by simp [hp])) (by refine e ▸ ?_; exact Nat.not_lt.mpr hge)
            · exact nd.2.2.2.2.2 p hp r hr e
      refine List.map_append ▸ e1 ▸ List.map_append ▸ ?_; exact nd2
    · intro y v hy
      obtain ⟨u, h1, h2⟩ := R.V y v hy
      exact ⟨u, h1, h2.mono zz rr⟩
    · intro y ov hy
      refine ex2 (R.C y ov hy) fun a o hq0 => an4 hq0 fun h1 h2 h3 h4 => ?_; try clear hq0
      exact ex2i a o ⟨h1, h2, h3, fun v hv => let ⟨u, h5, h6⟩ := h4 v hv; ⟨u, h5, h6.mono zz rr⟩⟩
    · intro y v hy
      refine ex3 (R.Fv y v hy) fun a o u hq0 => an4 hq0 fun h1 h2 h3 h4 => ?_; try clear hq0
      exact ex3i a o u ⟨h1, h2, h3, h4.mono zz rr⟩
theorem lam_call {f c' : Addr} {q : Str} {params : Arguments} {body : Expr} {scope : Scope} {clos : List (Str × Addr)} {pm ctv : Value} {oc : Obj} {vs : Array Value} {t : Tok} (O : W.Ok c) (hn : 1 ≤ c.rm) (R : Rel W c s σ ρ m cm ce frz)
    (hf : c.h₀.get? f = some (kla_obj "<lambda>" q params body scope clos pm c' ctv)) (hc : c.h₀.get? c' = some oc) (hod : oc.data = .fields vs) (hov : vs[1]? = some (.str q t)) (hbind : ∀ fd : FuncData, fd.params = params → fd.defaults = .none → fd.kwdefaults = .none → bindArgs fd ⟨[], []⟩ = pure [])
    (hco : scope.isCoroutine = false) (hgen : scope.isGenerator = false) (hkind : scope.kind = .function) (hcell : ∀ x ∈ scope.names, x.2 ≠ .cell) (hnd : (clos.map (·.2)).Nodup) (hcl : ∀ x a, clos.lookup x = some a → ∃ o, c.h₀.get? a = some o)
    {fs : List (Str × AV)} (hfs : ∀ x v, lget x fs = some v → ∃ a, clos.lookup x = some a ∧ ∃ o u, c.h₀.get? a = some o ∧ o.data = .cell (some u) ∧ Val (Z c.h₀ frz) ρ v u)
    (hb : ∀ c₂, W.Ok c₂ → c₂.cs = scope → c₂.rm = c.rm - 1 → c₂.inn = false → TriE W c₂ { hp := σ.hp, loc := [], cel := [], fre := fs, nxt := σ.nxt } (eval body c₂.env) (fun v σ' => P v (σ.with σ'.hp σ'.nxt)) (fun e σ' => X e (σ.with σ'.hp σ'.nxt))) :
    codeAny W.M c.A (.call (.ref f) ⟨[], []⟩) (Rc W c ρ frz P X) s := by
  refine Exists.elim R.Ldata fun oL hq0 => an3 hq0 fun hoL hdL hnL => ?_; try clear hq0
  refine kla_callFunE (by have := O.dep; lia -abstractProof) (R.F.keep _ _ hf) rfl hco hgen rfl (ex4i c' oc vs t ⟨rfl, R.F.keep _ _ hc, hod, hov⟩) ?_
  rw [hbind _ rfl rfl rfl]
  refine wpAny_pure (wpAny_newFunctionEnv hcell (by intro y hy; simp at hy) (fun h₁ hns hsb => ⟨(O.T.nolimit.keeps R.F.keep).fresh _ hsb, ?_⟩) hkind)
  dsimp only at hns hsb ⊢
  have hk₁ : ∀ b o, s.heap.get? b = some o → h₁.get? b = some o := fun b o e => hsb.extBut b o (Nat.ne_of_lt (Heap.lt_size e)) (Heap.get?_push_of_some _ e)
  generalize hLn : s.heap.objs.size = L at hns hsb ⊢
  have hLs : s.heap.objs.size ≤ L := Nat.le_of_eq hLn
  generalize hen : newEnv scope L mainGlobals clos (q ++ ".<locals>.") (some f) (.ref c') none builtinsNs = env'
  have e1 : env'.locals = L := by refine hen ▸ ?_; rfl
  have e2 : env'.scope = scope := by refine hen ▸ ?_; rfl
  have e3 : env'.cells = clos := by refine hen ▸ ?_; rfl
  have e4 : env'.frame = some L := by refine hen ▸ ?_; rfl
  have e5 : env'.globals = mainGlobals := by refine hen ▸ ?_; rfl
  have e6 : env'.builtins = builtinsNs := by refine hen ▸ ?_; rfl
  show codeAny _ _ (.expr body env') _ _
  have okc : W.Ok (c.inner s.heap oL ce frz [] false (c.A.deeper env') L env' (c.rm - 1)) := by
    refine inner_ok O R hoL hdL ?_ (by refine e2 ▸ ?_; exact hkind) e1 (fun _ => e4) e5 e6 hLs (fun _ => by refine O.kind ▸ ?_; decide) (fun _ h => nomatch h) (by refine e3 ▸ ?_; exact hnd) (fun y a hy => .inr (.inr (hcl y a (e3 ▸ hy)))) O.hand ?_ ?_
    · show c.A.frames.map (env' :: ·) = _
      refine O.stack ▸ ?_; rfl
    · have := O.dep
      show c.A.depth + 1 + (c.rm - 1) < _
      lia -abstractProof
    · have := O.uni
      show c.A.units + 3 + 16 * (c.rm - 1) + 100 < _
      lia -abstractProof
  have R₁ := Rel.enter (ex₂ := []) (inn := false) (A := c.A.deeper env') (env := env') (rm := c.rm - 1) (t := s.toks + ([] : List (Str × Value)).length) (nw := []) (σ' := { hp := σ.hp, loc := [], cel := [], fre := fs, nxt := σ.nxt }) O R hoL hLs hns hk₁
    (fun _ h => nomatch h) List.nodup_nil (fun _ h => nomatch h) rfl rfl (fun y v hy => nomatch (show (none : Option AV) = some v from hy)) (fun y ov hy => nomatch (show (none : Option (Option AV)) = some ov from hy)) (fun y v hy => let ⟨a, h1, h2⟩ := hfs y v hy; ⟨a, e3.symm ▸ h1, .inr h2⟩) (fun y a hy => .inr (.inr (hcl y a (e3 ▸ hy))))
  refine kla_codeExpr (wpAny_mono (hb _ okc e2 rfl rfl _ _ _ _ _ _ R₁) (fun v s₂ hq => ?_) fun e s₂ hq => ?_)
  · refine Qv.el hq fun ρ₂ m₂ cm₂ ce₂ frz₂ av σ₂ x₂ R₂ hv₂ q₂ => ?_
    refine Exists.elim (Rel.leave O R hoL hnL hLs R₂ x₂.r (h'' := s₂.heap) (t := s₂.toks) (wl := []) (fun b o _ _ e => e) (fun _ h => nomatch h) (acc := []) (fun _ h => nomatch h) (fun _ h => nomatch h) (fun _ h => nomatch h) List.nodup_nil) fun ce₃ hq0 => an5 hq0 fun R₃ x₃ v₃ _ _ => ?_; try clear hq0
    exact ex7i ρ₂ m cm₂ ce₃ _ av _ ⟨x₃, R₃, v₃ _ _ hv₂, q₂⟩
  · refine Qx.el hq fun ρ₂ m₂ cm₂ ce₂ frz₂ e' sym σ₂ qe x₂ R₂ hx₂ q₂ => ?_; subst qe
    show wpAny _ _ (leaving env' (.ref e')) _ _ s₂
    unfold leaving
    refine wpAny_bind (Rel.note (c := c.inner s.heap oL ce frz [] false (c.A.deeper env') L env' (c.rm - 1)) okc rfl R₂ hx₂ fun h₃ ce₃ R₃ hx₃ => ?_)
    refine Exists.elim (Rel.leave O R hoL hnL hLs R₃ x₂.r (h'' := h₃) (t := s₂.toks) (wl := []) (fun b o _ _ e => e) (fun _ h => nomatch h) (acc := []) (fun _ h => nomatch h) (fun _ h => nomatch h) (fun _ h => nomatch h) List.nodup_nil) fun ce₄ hq0 => an6 hq0 fun R₄ x₄ _ _ hce _ => ?_; try clear hq0
    exact ex8i ρ₂ m cm₂ ce₄ _ e' sym _ ⟨rfl, x₄, R₄, exc_out (s' := { s₂ with heap := h₃ }) R hx₃ hce, q₂⟩
end
noncomputable abbrev toldBody (dn lsN en : Str) (kk : Nat) (pa pb pc p1 p2 p3 p4 p5 p6 p7 p8 : Pos) : List Stmt :=
  [.Try [.Expr (.Call (.Name dn pa) [] [] pb) pc] [.ExceptHandler (some (.Name lsN p1)) (some en) [.Return (some (.Attribute (.Name en p2) "symbol" p3)) p4] p5] [] [] p6, .Return (some (.Constant (.str "done") kk p7)) p8]
structure ToldOk (W : Wd) (tF : Addr) : Prop where
  all : ∃ fd dn lsN en kk pa pb pc p1 p2 p3 p4 p5 p6 p7 p8, FnOk W.K tF fd (toldBody dn lsN en kk pa pb pc p1 p2 p3 p4 p5 p6 p7 p8) [dn] 1 [] ∧ fd.scope.names.lookup dn = some .local ∧ (dn == ("__debug__" : Str)) = false ∧
    fd.scope.names.lookup lsN = some .globalImplicit ∧ (lsN == ("__debug__" : Str)) = false ∧ fd.scope.names.lookup en = some .local ∧ (en == ("__debug__" : Str)) = false ∧ nsIn W.K mainGlobals lsN = some (some (.ref W.LS))
  keep : keepV W.K (.ref tF) = true
section
variable {W : Wd} {c : FC} {σ : St} {P : AV → St → Prop} {X : Str → St → Prop} {N : St → Prop} {Rt : AV → St → Prop} {s : Shared} {ρ : Nat → Option Addr} {m : Str → Option Value} {cm ce frz : List (Addr × Obj)}
theorem tri_told {tF fI : Addr} {x : Str} {p lpos pos : Pos} {params : Arguments} {body : Expr} {scope : Scope} {cA Pt : Addr} {q : Str} {tn : Nat} {fs : List (Str × AV)} (hT : ToldOk W tF) (hls : LSOk W fI) (hlg : lsGet W.K W.LS = true) (O : W.Ok c) (hrm : 2 ≤ c.rm)
    (hk : c.cs.names.lookup x = some .globalImplicit) (hd : (x == ("__debug__" : Str)) = false) (hx : nsIn W.K mainGlobals x = some (some (.ref tF)))
    (hdef : defaultsOf params c.env = ([], [])) (hcode : c.env.code = .ref cA) (hcd : codeHdIn W.K cA Pt = true) (hq : c.env.qual ++ "<lambda>" = q) (htab : hget tn σ.hp = some (.tab Pt q))
    (hbind : ∀ fd : FuncData, fd.params = params → fd.defaults = .none → fd.kwdefaults = .none → bindArgs fd ⟨[], []⟩ = pure []) (hco : scope.isCoroutine = false) (hgen : scope.isGenerator = false) (hkind : scope.kind = .function) (hcell : ∀ x ∈ scope.names, x.2 ≠ .cell)
    (hfn : (frees scope).Nodup) (hcap : capt (frees scope) σ = some fs)
    (hb : ∀ c₂, W.Ok c₂ → c₂.cs = scope → c₂.rm = c.rm - 2 → c₂.inn = false → TriE W c₂ { hp := σ.hp, loc := [], cel := [], fre := fs, nxt := σ.nxt } (eval body c₂.env) (fun _ σ' => P (.str "done") (σ.with σ'.hp σ'.nxt)) (fun sym σ' => P (.str sym) (σ.with σ'.hp σ'.nxt))) :
    TriE W c σ (eval (.Call (.Name x p) [.Lambda params body scope lpos] [] pos) c.env) P noX := by
  intro s ρ m cm ce frz R
  refine cps fun GG kG => ?_; obtain ⟨⟨fd, dn, lsN, en, kk, pa, pb, pc, p1, p2, p3, p4, p5, p6, p7, p8, hF, h1, h2, h3, h4, h5, h6, h7⟩, hkeep⟩ := hT; refine kG ?_
  rw [eval_Call rfl]
  refine wpAny_bind (Name_function_global O.kind hk (loadGlobal_global (O.eG.symm ▸ O.T.g.keeps R.F.keep) (mg_of O.X O.T.g hx) ?_) hd)
  refine callWith_of (P := fun h => W.K.In h) rfl (fun h X => keeps_V hkeep h X) ?_
  refine an4 (cl_facts O R hcap hfn) fun hclos hcn hcl hfr => ?_
  refine evalArgs_plain (spliced_more (lam_value (q := q) O hdef hcode hcd hq htab hclos R fun f s₁ cm₁ frz₁ x₁ R₁ hL => spliced_none ⟨O.X.keeps R₁.F.keep, ?_⟩))
  refine ex6 hL.fn fun pm c' ctv oc vs t hq0 => an4 hq0 fun z1 z2 hod hov => ?_; try clear hq0
  refine an4 (cl_facts O R₁ hcap hfn) fun _ _ hcl₁ hfr₁ => ?_
  show wpAny W.M c.A (call (.ref tF) [.ref f]) _ _ s₁
  have fast : ∀ a o, Z c.h₀ frz₁ a o → (restr s₁.heap (kp c ce frz₁)).get? a = some o := fun a o z => (z_inner R₁ (l := []) z).elim id (fun h => nomatch h)
  have celFast : ∀ {x : Str} {a : Addr} {o : Obj}, c.cl.lookup x = some a → (a, o) ∈ ce → isCellO o = true → (restr s₁.heap (kp c ce frz₁)).get? a = some o := fun hx hm hc => restr_get.mpr ⟨(R₁.at.2.1 _ hm).1, .inr (.inr ⟨hm, isC_iff.mpr ⟨⟨_, hx⟩, hc⟩⟩)⟩
  refine wpAny_call (codeAny_mono (fn_core (P := P) (X := noX) hF O (Nat.le_of_lt hrm) (as := [.con (.ref f)]) rfl R₁ ⟨rfl, trivial⟩ fun c₁ O₁ g1 g2 g3 g4 g5 g6 s' m' ce' R' => ?_) fun r s' z => by
    cases r with
    | error e => exact Qx.ext x₁ z
    | ok fl => cases fl <;> first | exact Qv.ext x₁ z | exact z.elim)
  have hk1 : c₁.cs.names.lookup dn = some .local := by refine g1 ▸ ?_; exact h1
  refine (arm_execs_cons ..) ▸ ?_
  refine wpAny_bind (wpAny_mono (trySym_at (N := fun σ' => P (.str "done") (σ.with σ'.hp σ'.nxt)) (Rt := fun v σ' => P v (σ.with σ'.hp σ'.nxt)) hls hlg O₁ g3 (by refine g1 ▸ ?_; exact h3) h4 h7 (by refine g1 ▸ ?_; exact h5) h6 R' ?_) (fun fl s₂ z => ?_) fun _ _ z => z.no.elim)
  · -- the deed
    refine (arm_execs_cons ..) ▸ ?_
    have deed : wpAny W.M c₁.A (eval (.Call (.Name dn pa) [] [] pb) c₁.env) (Qv W c₁ ρ [] (fun _ σ' => P (.str "done") (σ.with σ'.hp σ'.nxt))) (Qx W c₁ ρ [] (fun sym σ' => P (.str sym) (σ.with σ'.hp σ'.nxt))) s' := by
      rw [eval_Call rfl]
      have hloc : lget dn (frameSt fd.scope [dn] ([.con (.ref f)] ++ ([] : List (AV × Value)).map (·.1)) σ.hp σ.nxt).loc = some (.con (.ref f)) := by
        show lget dn (bindSt fd.scope [dn] [.con (.ref f)] [] _).1 = _
        unfold bindSt
        refine h1 ▸ ?_
        show lget dn (lset dn (.con (.ref f)) []) = _
        exact (lget_lset ..) ▸ if_pos rfl ▸ rfl
      obtain ⟨u, hu, hV⟩ := R'.V dn _ hloc
      cases hV
      refine wpAny_bind (wpAny_Name (wpAny_loadName_local O₁.kind hk1 (O₁.eL ▸ R'.F.ns) hu ?_) h2)
      have hff : c₁.h₀.get? f = _ := g6 ▸ fast _ _ z1
      refine callWith_of (P := FnAt f) rfl (fun h X => keeps_F h X) ?_
      have none_ : ∀ {Q : Args → Shared → Prop} {E : Value → Shared → Prop}, Q ⟨[], []⟩ s' → wpAny W.M c₁.A (evalArgs (.ref f) true (backTo pb (starEach [] c₁.env)) []) Q E s' := fun hQ => by
        unfold evalArgs
        show wpAny W.M c₁.A (spliced [] >>= _) _ _ s'
        refine wpAny_bind (spliced_none (env := c₁.env) (pos := pb) ?_)
        refine wpAny_bind (wpAny_pure ?_)
        refine wpAny_holding ?_
        exact wpAny_bind (wpAny_pure (wpAny_bind (wpAny_pure (wpAny_pure hQ))))
      refine none_ ⟨ex4i _ _ _ _ (R'.F.keep _ _ hff), ?_⟩
      show wpAny W.M c₁.A (call (.ref f) []) _ _ s'
      refine wpAny_call (codeAny_mono (lam_call (fs := fs) (X := fun sym σ' => P (.str sym) (σ.with σ'.hp σ'.nxt)) (P := fun _ σ' => P (.str "done") (σ.with σ'.hp σ'.nxt)) O₁ (by lia -abstractProof) R' hff (g6 ▸ fast _ _ z2) hod hov hbind hco hgen hkind hcell hcn (fun y a hy => ?_) (fun y v hy => ?_) fun c₂ O₂ k1 k2 k3 => hb c₂ O₂ k1 (by rw [‹c₂.rm = _›, ‹c₁.rm = _›, Nat.sub_sub]) k3) fun r s' z => by
        cases r with
        | error e => exact z
        | ok fl => cases fl <;> exact z)
      · rcases hcl₁ y a hy with ⟨ov, w1, w2⟩ | ⟨o, w⟩
        · refine ex2 (R₁.C y ov w1) fun a' o hq0 => an4 hq0 fun w3 w4 np4 _ => ?_; try clear hq0; obtain ⟨v₀, w5⟩ := np4
          rw [w2] at w3; cases w3
          exact ⟨o, g6 ▸ celFast w2 w4 (by unfold isCellO; exact w5 ▸ rfl)⟩
        · exact ⟨o, g6 ▸ fast _ _ (.inl w)⟩
      · obtain ⟨a, w1, w2⟩ := hfr₁ y v hy
        refine ⟨a, w1, ?_⟩
        have zz : ∀ a o, isCellO o = false → Z c.h₀ frz₁ a o → Z c₁.h₀ [] a o := fun a o _ z => .inl (g6 ▸ fast _ _ z)
        rcases w2 with ⟨w2, w3⟩ | ⟨o, u, w2, w3, w4⟩
        · refine ex2 (R₁.C y _ w3) fun a' o hq0 => an4 hq0 fun w4 w5 _ w6 => ?_; try clear hq0
          rw [w2] at w4; cases w4
          obtain ⟨u, w7, w8⟩ := w6 v rfl
          exact ex2i o u ⟨g6 ▸ celFast w2 w5 (by unfold isCellO; exact w7 ▸ rfl), w7, w8.mono' zz fun _ _ h => h⟩
        · exact ex2i o u ⟨g6 ▸ fast _ _ (.inl w2), w3, w4.mono' zz fun _ _ h => h⟩
    refine wpAny_bind (wpAny_Expr_any (wpAny_mono deed (fun _ s₂ zz => Qv.el zz fun ρ₂ m₂ cm₂ ce₂ frz₂ av σ₂ x₂ R₂ _ q₂ => ?_) fun _ _ z => z) (not_inter O₁) (swaps_none rfl))
    exact wpAny_pure (Qu.mk ρ₂ m₂ cm₂ ce₂ frz₂ σ₂ x₂ R₂ q₂)
  · cases fl with
    | next =>
      refine Qu.el z fun ρ₂ m₂ cm₂ ce₂ frz₂ σ₂ x₂ R₂ q₂ => ?_
      refine (arm_execs_cons ..) ▸ ?_
      refine wpAny_bind ?_
      show wpAny W.M c₁.A (do standAt p8; return Flow.ret (← eval (.Constant (.str "done") kk p7) c₁.env)) _ _ s₂
      refine wpAny_bind (wpAny_standAt (wpAny_bind (Constant_str (wpAny_pure ?_))))
      exact wpAny_pure (Qv.mk ρ₂ m₂ cm₂ ce₂ frz₂ (.str "done") σ₂ x₂ (R₂.toks _) (⟨_, rfl⟩) q₂)
    | ret v => exact wpAny_pure z
    | brk => exact z.elim
    | cont => exact z.elim
noncomputable abbrev St.plus (σ : St) (o : AO) : St := { σ with hp := σ.hp ++ [(σ.nxt, o)], nxt := σ.nxt + 1 }
theorem tri_ListCompM {elt target iter : Expr} {ifs : List Expr} {scope : Scope} {pos : Pos} {P₁ : List AV → St → Prop} (O : W.Ok c) (hs : isSet iter = false) (hok : compOk scope = true) (hcap : (capt (frees scope) σ).isSome = true)
    (h : ItrOk W c σ target iter P₁ X) (k : ∀ xs σ₁, P₁ xs σ₁ → ∃ g, CompAll W c target elt ifs scope xs σ₁ g ∧ P (.ref σ₁.nxt) (σ₁.plus (.arr (xs.filterMap g)))) : TriE W c σ (eval (.ListComp elt [⟨target, iter, ifs, 0⟩] scope pos) c.env) P X := by
  intro s ρ m cm ce frz R
  refine an4 (compOk_iff hok) fun hfn hcell hkind hnames => ?_
  obtain ⟨fs₀, hfs₀⟩ := Option.isSome_iff_exists.mp hcap
  refine (eval_ListComp ..) ▸ ?_
  refine wpAny_comprehension_free (use := none) rfl (folded_no hs) (cl_facts O R hfs₀ hfn).1 hkind hnames (h s ρ m cm ce frz R _ fun s₁ ρ₁ m₁ cm₁ ce₁ frz₁ σ₁ xs h₂ I ws fp Sg e₁ R₁ hp a1 a2 a3 a4 a5 a6 a7 => ?_)
  refine cps fun GG kG => ?_; obtain ⟨g, ⟨hlen, fs, hcap₁, turn⟩, hP⟩ := k xs σ₁ hp; refine kG ?_
  refine comp_core O R₁ a1 a2 a3 a4 a5 a6 a7 hcell hkind hcap₁ hfn hlen turn (RR := fun acc C => compPost W.M c.A (Qx W c ρ frz X) none (Qv W c ρ frz P) acc C) fun D C oC its k s' ρ' cm' ce' frz' x' R₀' hD hits DL Dn Df hns hc hf he => ?_
  obtain ⟨mC, hns⟩ := hns
  have R' := R₀'.adopt (o := .arr (xs.filterMap g)) (ln := [(D, listOf its k)]) (x := D) (h' := s'.heap) (t := s'.toks) (fun q hq => (R₀'.N q hq).1) R₀'.F (fun q hq => by refine List.mem_singleton.mp hq ▸ ?_; exact ⟨hD, DL, Dn, Df⟩) (by simp) (ex3i D its k ⟨rfl, if_pos rfl, hits⟩)
  refine ⟨mC, hns, fun h'' hs'' => ?_⟩
  obtain ⟨ce₂, R₂⟩ := R'.unwatch (l := c.ex) (h' := h'') (t := s'.toks) hc hf he fun b o hb e => hs''.extBut b o (fun e' => hb (by refine e'.symm ▸ ?_; exact .head _)) e
  exact ex7i _ m₁ _ ce₂ _ (.ref σ₁.nxt) _ ⟨(e₁.trans x').trans (R₀'.extUpd D), R₂, ⟨D, rfl, if_pos rfl⟩, hP⟩
theorem tri_Dict0 {pos : Pos} (O : W.Ok c) (h : P (.ref σ.nxt) (σ.plus (.dict []))) : TriE W c σ (eval (.Dict [] [] pos) c.env) P X := by
  intro s ρ m cm ce frz R
  refine wpAny_Dict_empty ?_
  have hsm : (s.heap.objs.size == sysModules) = false := by
    obtain ⟨mc, h1, _⟩ := O.T.nodigits
    have h2 : cStatics < s.heap.objs.size := (h1.keeps R.F.keep).lt
    rw [beq_eq_false_iff_ne]
    intro e
    rw [e] at h2
    exact absurd h2 (by decide)
  have R' := R.alloc (o := .dict []) (ln := [(s.heap.objs.size, { cls := .type "dict", data := .dict #[] })]) (x := s.heap.objs.size) (t := s.toks) (h' := s.heap.push { cls := .type "dict", data := .dict #[] }) (fun b o e => Heap.get?_push_of_some _ e)
    (fun q hq => by refine List.mem_singleton.mp hq ▸ ?_; exact ⟨Heap.get?_push_size _ rfl, Heap.get?_none_of_le (Nat.le_refl _)⟩) (by simp) (ex3i _ _ [] ⟨rfl, if_pos rfl, ?_, .nil, hsm⟩)
  · exact (Qv.mk _ m _ ce frz (.ref σ.nxt) _ (R.extUpd _) R' (⟨_, rfl, if_pos rfl⟩) h)
  · obtain ⟨o, ho, hd⟩ := Heap.dictOf_iff.mp (Heap.DictOf.new (knd := intKind W.prog W.w) s.heap)
    rw [Heap.get?_push_size _ rfl] at ho
    cases ho
    exact hd
theorem tri_catM {a b : AV} {xs ys : List Int} (e1 : asInts σ a = some xs) (e2 : asInts σ b = some ys) (hsz : xs.length + ys.length ≤ 2 ^ 24) (h : P (.ref σ.nxt) (σ.plus (.arr (xs ++ ys)))) : TriV2 W c σ a b (binaryOp .Add) P X := by
  intro s ρ m cm ce frz va vb R ha hb
  refine ex2 (R.isList e1 ha) fun l its hq0 => an3 hq0 fun qe2 hl hi => ?_; try clear hq0; subst qe2
  refine ex2 (R.isList e2 hb) fun l' its' hq0 => an3 hq0 fun qe2 hl' hi' => ?_; try clear hq0; subst qe2
  refine add_arrays_ints R.F R.N hl hl' hi hi' (fun h' F' N' i => ?_) hsz
  have R' := R.adopt (o := .arr (xs ++ ys)) (ln := [(s.heap.objs.size, listOf (its.toList ++ its'.toList).toArray 0)]) (x := s.heap.objs.size) (h' := h') (t := s.toks) (fun q hq => (N' q (.tail _ hq)).1) F'
    (fun q hq => by
      refine List.mem_singleton.mp hq ▸ ?_
      have n := N' _ (.head _)
      exact ⟨n.1, n.2.1, n.2.2, fun p hp => Nat.ne_of_lt (R.lt p hp)⟩) (by simp) (ex3i _ _ 0 ⟨rfl, if_pos rfl, i⟩)
  exact (Qv.mk _ m _ ce frz (.ref σ.nxt) _ (R.extUpd _) R' (⟨_, rfl, if_pos rfl⟩) h)
noncomputable def iabs (i : Int) : Int := if i < 0 then -i else i
noncomputable def ptAbs : PT := fun as hp nx P X => arg1 as fun a => asI a fun i => P (.int (iabs i)) hp nx
theorem abs_ok {n : Nat} : PTok W n (.builtin "abs") ptAbs := by
  intro c O hn σ as P X h s ρ m cm ce frz vs R
  apply arg1_el h; intro a h; apply asI_el h; intro i h hv
  obtain ⟨v, rfl, ⟨t, rfl⟩⟩ := hv.one
  exact call_abs_int fun u tk => (R.toks tk).here vI h
noncomputable def ptLen : PT := fun as hp nx P X => arg1 as fun a => opt (hpInts hp a) fun xs => (xs.length ≤ 2 ^ 40) ∧ P (.int xs.length) hp nx
theorem len_ok {n : Nat} : PTok W n (.builtin "len") ptLen := by
  intro c O hn σ as P X h s ρ m cm ce frz vs R
  apply arg1_el h; intro a h hv; refine opt_el h ?_; intro xs hx h
  obtain ⟨v, rfl, hv₁⟩ := hv.one
  refine ex2 (R.isList hx hv₁) fun l its hq0 => an3 hq0 fun qe2 hl hi => ?_; try clear hq0; subst qe2
  have e := hi.length
  rw [Array.length_toList] at e
  refine call_len_list hl (by refine e ▸ ?_; have := h.1; lia -abstractProof) ?_
  refine e ▸ ?_
  exact (R.toks _).here vI h.2
noncomputable def ptRange : PT := fun as hp nx P X => arg12 as (fun a => asI a fun i => P (.rng 0 i) hp nx) fun a b => asI a fun i => asI b fun j => P (.rng i j) hp nx
theorem newFrozen (R : Rel W c s σ ρ m cm ce frz) {o : Obj} {t : Nat} (hf : o.isFreed = false) : Rel W c { s with heap := s.heap.push o, toks := t } σ ρ m cm ce ((s.heap.objs.size, o) :: frz) :=
  R.frozen (R.F.push o) (News.push R.F R.N o hf) fun q hq => R.lt q hq
theorem range_ok {n : Nat} : PTok W n (.type "range") ptRange := by
  intro c O hn σ as P X h s ρ m cm ce frz vs R
  apply arg12_el h <;> intro a
  · intro h; apply asI_el h; intro i h hv
    obtain ⟨v, rfl, ⟨t, rfl⟩⟩ := hv.one
    exact call_range_1 (ex7i ρ m cm ce _ (.rng 0 i) σ ⟨⟨fun _ _ h => h, fun _ h => .tail _ h⟩, newFrozen R rfl, ex4i _ _ _ _ ⟨rfl, .inr (.head _)⟩, h⟩)
  · intro b h; apply asI_el h; intro i h; apply asI_el h; intro j h hv
    refine ex2 hv.two fun v w hq0 => an3 hq0 fun qe2 np3 np4 => ?_; try clear hq0; subst qe2; obtain ⟨t, rfl⟩ := np3; obtain ⟨u, rfl⟩ := np4
    exact call_range_2 (ex7i ρ m cm ce _ (.rng i j) σ ⟨⟨fun _ _ h => h, fun _ h => .tail _ h⟩, newFrozen R rfl, ex4i _ _ _ _ ⟨rfl, .inr (.head _)⟩, h⟩)
noncomputable def imax (a b : Int) : Int := if b > a then b else a
noncomputable def imin (a b : Int) : Int := if b < a then b else a
noncomputable def ptMax : PT := fun as hp nx P X => arg2 as fun a b => asI a fun i => asI b fun j => P (.int (imax i j)) hp nx
noncomputable def ptMin : PT := fun as hp nx P X => arg2 as fun a b => asI a fun i => asI b fun j => P (.int (imin i j)) hp nx
theorem max_ok {n : Nat} : PTok W n (.builtin "max") ptMax := by
  intro c O hn σ as P X h s ρ m cm ce frz vs R
  apply arg2_el h; intro a b h; apply asI_el h; intro i h; apply asI_el h; intro j h hv
  refine ex2 hv.two fun v w hq0 => an3 hq0 fun qe2 np3 np4 => ?_; try clear hq0; subst qe2; obtain ⟨t, rfl⟩ := np3; obtain ⟨u, rfl⟩ := np4
  exact max_two_N O.hand R.F R.N fun h' tk F' N' => (R.same F' N').here vI h
theorem min_ok {n : Nat} : PTok W n (.builtin "min") ptMin := by
  intro c O hn σ as P X h s ρ m cm ce frz vs R
  apply arg2_el h; intro a b h; apply asI_el h; intro i h; apply asI_el h; intro j h hv
  refine ex2 hv.two fun v w hq0 => an3 hq0 fun qe2 np3 np4 => ?_; try clear hq0; subst qe2; obtain ⟨t, rfl⟩ := np3; obtain ⟨u, rfl⟩ := np4
  exact min_two_N O.hand R.F R.N fun h' tk F' N' => (R.same F' N').here vI h
noncomputable def ptPop : PT := fun as hp nx P X => arg2 as fun a b => asR a fun n => asI b fun i => grd (Int.beq' i 0) (opt ((hget n hp).bind arrOf) fun l => match l with | [] => False | x :: xs => xs.length + 1 ≤ 2 ^ 24 ∧ P (.int x) (hset n (.arr xs) hp) nx)
theorem pop_ok {n : Nat} : PTok W n (.builtin "list.pop") ptPop := by
  intro c O hn σ as P X h s ρ m cm ce frz vs R
  apply arg2_el h; intro a b h; apply asR_el h; intro k h; apply asI_el h; intro i h
  obtain ⟨h0, h⟩ := grd_iff h
  cases i with
  | negSucc n => exact nopb h0
  | ofNat n => cases n with
    | succ n => exact nopb h0
    | zero =>
      clear h0
      refine opt_el h fun l hg h hv => bind_el hg fun o hg e => ?_
      cases arrOf_eq e; clear e
      cases l with
      | nil => exact h.elim
      | cons x xs =>
        refine ex2 hv.two fun v w hq0 => an3 hq0 fun qe2 np3 np4 => ?_; try clear hq0; subst qe2; obtain ⟨l, rfl, hl⟩ := np3; obtain ⟨t, rfl⟩ := np4
        refine ex3 (R.H.get hg) fun pre ll post hq0 => an3 hq0 fun hcm np4 hset' => ?_; try clear hq0; refine cps fun GG kG => ?_; obtain ⟨l', its, j, rfl, hl', hi⟩ := np4; refine kG ?_
        rw [hl] at hl'; cases hl'
        obtain ⟨its⟩ := its
        cases hi with
        | cons _ t' hi =>
          rename_i vs'
          have e : cm ++ (ce ++ frz) = pre ++ (l, listOf (Value.int x t' :: vs').toArray j) :: (post ++ (ce ++ frz)) := by refine hcm ▸ ?_; simp
          have U := upd_of (o' := listOf (([] : List Value) ++ vs').toArray (j + 1)) (e ▸ R.nd)
          rw [← e] at U
          have hlen := hi.length
          refine kl_popAt (k := 0) (p := []) (q := vs') (y := .int x t') R.F R.N (by decide +kernel) ?_ rfl U (by simp; refine sizeLine_eq ▸ ?_; lia -abstractProof) fun h' F' N' => ?_
          · show seqIndex? 0 (vs'.length + 1) = some 0
            unfold seqIndex?
            simp
          · have H' := hset' (.arr xs) [(l, listOf vs'.toArray (j + 1))] (ex3i l vs'.toArray (j + 1) ⟨rfl, hl, hi⟩)
            exact (Qv.mk ρ m _ ce frz (.int x) _ .refl (R.turn hcm (by rfl) H' F' (by simpa using N')) (⟨t', rfl⟩) h.2)
noncomputable def rowsOut (k : Int) : List (Int × AV) → List (Int × AV)
  | [] => []
  | (j, v) :: r => if j = k then rowsOut k r else (j, v) :: rowsOut k r
theorem RowsR.without {Zp : Addr → Obj → Prop} {ρ : Nat → Option Addr} {rows : List (Int × AV)} {kvs : List (Int × Value)} (h : RowsR Zp ρ rows kvs) (k : Int) : RowsR Zp ρ (rowsOut k rows) (PySem.without kvs k) := by
  induction h with
  | nil => exact .nil
  | @cons j v u r es hv hr ih =>
    unfold rowsOut PySem.without
    refine List.filter_cons ▸ ?_
    by_cases hj : j = k
    · rw [if_pos hj, if_neg (by simpa using hj)]; exact ih
    · rw [if_neg hj, if_pos (by simpa using hj)]; exact .cons hv ih
theorem updF_of {d : Addr} {o : Obj} : ∀ {A B : List (Addr × Obj)}, ((A ++ (d, o) :: B).map (·.1)).Nodup → UpdF d o (A ++ (d, o) :: B) (fun o' => A ++ (d, o') :: B)
  | [], B, h => .head fun p hp e => by
    rw [List.nil_append, List.map_cons, List.nodup_cons] at h
    exact h.1 (List.mem_map.mpr ⟨p, hp, e⟩)
  | (a, x) :: A, B, h => by
    rw [List.cons_append, List.map_cons, List.nodup_cons] at h
    refine .tail (fun e => h.1 (List.mem_map.mpr ⟨(d, o), by simp, ?_⟩)) (updF_of h.2)
    exact e.symm
theorem dpop_args (a b : Value) : argsOk "dict.pop" ⟨[a, b], []⟩ := by unfold argsOk; kernel_rfl
noncomputable def ptDPop : PT := fun as hp nx P X => arg2 as fun a b => asR a fun n => asI b fun k => opt ((hget n hp).bind dicOf) fun rows => opt (rget k rows) fun v => rows.length ≤ 1000 ∧ P v (hset n (.dict (rowsOut k rows)) hp) nx
theorem dpop_ok {n : Nat} : PTok W n (.builtin "dict.pop") ptDPop := by
  intro c O hn σ as P X h s ρ m cm ce frz vs R
  apply arg2_el h; intro a b h; apply asR_el h; intro id h; apply asI_el h; intro k h hv; refine opt_el h ?_; intro rows hg h; refine opt_el h ?_; intro a ha h; refine bind_el hg ?_; intro o hg e
  cases dicOf_eq e; clear e
  refine ex2 hv.two fun v w hq0 => an3 hq0 fun qe2 np3 np4 => ?_; try clear hq0; subst qe2; obtain ⟨d, rfl, hd⟩ := np3; obtain ⟨t, rfl⟩ := np4
  refine ex3 (R.H.get hg) fun pre ll post hq0 => an3 hq0 fun hcm np4 hset' => ?_; try clear hq0; refine cps fun GG kG => ?_; obtain ⟨d', o, kvs, rfl, hd', hD, hR, hsm⟩ := np4; refine kG ?_
  rw [hd] at hd'; cases hd'
  have e : cm ++ (ce ++ frz) = pre ++ (d, o) :: (post ++ (ce ++ frz)) := by refine hcm ▸ ?_; simp
  have U := updF_of (e ▸ R.nd)
  rw [← e] at U
  have hva := hR.val_at k
  rw [ha] at hva
  obtain ⟨u, hu, hV⟩ := hva
  refine kob_pop (knd := intKind W.prog W.w) (k := k) (key := .int k t) (more := []) R.F R.N U hD (intKind_is W.prog W.w k t) (.inl rfl) rfl (dpop_args _ _) hu (by refine hR.length ▸ sizeLine_eq ▸ ?_; exact bg h.1 rfl) fun h' o' F' N' hD' => ?_
  have H' := hset' (.dict (rowsOut k rows)) [(d, o')] (ex3i d o' _ ⟨rfl, hd, hD', hR.without k, hsm⟩)
  exact (Qv.mk ρ m _ ce frz a _ .refl (R.turn hcm (by rfl) H' F' (by simpa using N')) hV h.2)
noncomputable def ixOf (k : Int) : List Int → Option Nat
  | [] => none
  | x :: r => if x = k then some 0 else (ixOf k r).map (· + 1)
theorem kf_of {k : Int} {vs : List Value} {xs : List Int} (h : IntsAre vs xs) : kf_ints vs = true ∧ kf_at k vs = ixOf k xs := by
  induction h with
  | nil => exact ⟨rfl, rfl⟩
  | cons x t h ih =>
    refine ⟨ih.1, ?_⟩
    unfold kf_at ixOf
    refine ih.2.symm ▸ ?_
    have e : isInt k (.int x t) = decide (x = k) := by
      show (x == k) = decide (x = k)
      rfl
    refine e ▸ ?_
    by_cases hx : x = k
    · simp [hx]
    · refine decide_eq_false hx ▸ if_neg hx ▸ ?_
      show (match ixOf k _ with | some j => some (j + 1) | none => none) = _
      cases ixOf k _ <;> rfl
noncomputable def ptIndex : PT := fun as hp nx P X => arg2 as fun a b => asI b fun k => opt (hpInts hp a) fun xs => xs.length ≤ 2 ^ 24 ∧ ∃ j : Nat, ixOf k xs = some j ∧ P (.int j) hp nx
theorem index_ok {n : Nat} : PTok W n (.builtin "list.index") ptIndex := by
  intro c O hn σ as P X h s ρ m cm ce frz vs R
  apply arg2_el h; intro a b h; apply asI_el h; intro k h hv; refine opt_el h ?_; intro xs hx h
  refine ex2 hv.two fun v w hq0 => an3 hq0 fun qe2 hv₁ np4 => ?_; try clear hq0; subst qe2; obtain ⟨t, rfl⟩ := np4
  refine ex3 (R.ints hx hv₁) fun l its j hq0 => an3 hq0 fun qe3 hl hi => ?_; try clear hq0; subst qe3
  obtain ⟨h1, h2⟩ := kf_of (k := k) hi
  have hlen := hi.length
  obtain ⟨hz, i, hix, h⟩ := h
  refine kf_index (h₀ := {}) (L := l + 1) (news := [(l, listOf its j)]) (i := i) (j := i) (fun q hq => ?_) (.head _) h1 (h2.trans hix) rfl (by refine hlen ▸ sizeLine_eq ▸ ?_; exact hz) ((R.toks _).here vI h)
  refine List.mem_singleton.mp hq ▸ ?_
  exact ⟨hl, Nat.ne_of_lt (Nat.lt_succ_self _), rfl⟩
theorem tri_cellF {x : Str} {pos : Pos} {v : AV} (O : W.Ok c) (hk : c.cs.names.lookup x = some .cell) (hd : (x == ("__debug__" : Str)) = false) (hv : lget x σ.fre = some v) (h : P v σ) : TriE W c σ (eval (.Name x pos) c.env) P X :=
  fun s ρ m cm ce frz R => by
    refine ex3 (R.Fv x _ hv) fun a o u hq0 => an4 hq0 fun hc ho hu hV => ?_; try clear hq0
    exact wpAny_Name (wpAny_loadName_cell O.kind hk hc ⟨o, R.F.keep _ _ ho, hu⟩ (R.here hV h)) hd
noncomputable def ptList : PT := fun as hp nx P X => arg1 as fun a => opt (hpInts hp a) fun xs => xs.length ≤ 2 ^ 24 ∧ P (.lst xs) hp nx
theorem list_ok {n : Nat} : PTok W n (.type "list") ptList := by
  intro c O hn σ as P X h s ρ m cm ce frz vs R
  apply arg1_el h; intro a h hv; refine opt_el h ?_; intro xs hx h
  obtain ⟨v, rfl, hv₁⟩ := hv.one
  refine ex2 (R.isList hx hv₁) fun l its hq0 => an3 hq0 fun qe2 hl hi => ?_; try clear hq0; subst qe2
  have e := hi.length
  rw [Array.length_toList] at e
  exact list_copyK R.F R.N hl (fun D k h' F' N' hf => R.newLst F' N' hf hi h.2) (by refine e ▸ sizeLine_eq ▸ ?_; exact h.1)
end
noncomputable def ins (a : Int) : List Int → List Int
  | [] => [a]
  | b :: r => if a ≤ b then a :: b :: r else b :: ins a r
noncomputable def isort : List Int → List Int
  | [] => []
  | a :: r => ins a (isort r)
theorem ins_perm (a : Int) : ∀ l, (ins a l).Perm (a :: l)
  | [] => .refl _
  | b :: r => by
    unfold ins
    split
    · exact .refl _
    · exact ((ins_perm a r).cons b).trans (.swap a b r)
theorem isort_perm : ∀ l, (isort l).Perm l
  | [] => .refl _
  | a :: r => (ins_perm a _).trans ((isort_perm r).cons a)
theorem ins_sorted (a : Int) : ∀ l, l.Pairwise (· ≤ ·) → (ins a l).Pairwise (· ≤ ·)
  | [], _ => List.pairwise_singleton ..
  | b :: r, h => by
    unfold ins
    rw [List.pairwise_cons] at h
    split
    · rename_i hab
      rw [List.pairwise_cons, List.pairwise_cons]
      refine ⟨fun x hx => ?_, h⟩
      rcases List.mem_cons.mp hx with rfl | hx
      · exact hab
      · have := h.1 x hx; lia -abstractProof
    · rename_i hab
      rw [List.pairwise_cons]
      refine ⟨fun x hx => ?_, ins_sorted a r h.2⟩
      rcases List.mem_cons.mp ((ins_perm a r).mem_iff.mp hx) with rfl | hx
      · lia -abstractProof
      · exact h.1 x hx
theorem isort_sorted : ∀ l, (isort l).Pairwise (· ≤ ·)
  | [] => .nil
  | a :: r => ins_sorted a _ (isort_sorted r)
section
variable {W : Wd} {c : FC} {σ : St} {P : AV → St → Prop} {X : Str → St → Prop} {N : St → Prop} {Rt : AV → St → Prop} {s : Shared} {ρ : Nat → Option Addr} {m : Str → Option Value} {cm ce frz : List (Addr × Obj)}
theorem sort_call {A : Around} {E : Value → Shared → Prop} {D : Addr} {vs : List Value} {ns : List Int} {n : Nat} {Q : Value → Shared → Prop} (ho : s.heap.get? D = some (listOf vs.toArray n)) (hI : IntsAre vs ns) (h64 : vs.length < 64)
    (h : ∀ (out : Array Value) h' k, IntsAre out.toList (isort ns) → (∀ b o, b ≠ D → s.heap.get? b = some o → h'.get? b = some o) → h'.get? D = some (listOf out k) → Q .none { s with heap := h' }) :
    wpAny W.M A (call (.builtin "list.sort") [.ref D]) Q E s := by
  refine wpAny_call_entry PyProof.Rows.slot_list_sort ⟨_, ho, rfl⟩ PyProof.Rows.entry_list_sort (list_sort_tree (n := n) (vs := vs) ho hI h64 fun out ns' hI' hp hP => ⟨.none, rfl, ?_⟩) (PyProof.Rows.args_list_sort _)
  have e : ns' = isort ns := lks_uniq (hp.trans (isort_perm ns).symm) hP (isort_sorted ns)
  subst e
  obtain ⟨k, hk⟩ := sortedHeap_at (out := out) ho
  exact h out _ k hI' (fun b o hb e => (sortedHeap_old hb (Heap.lt_size e)).trans e) hk
noncomputable def ptSorted : PT := fun as hp nx P X => arg1 as fun a => asR a fun n => opt ((hget n hp).bind dicOf) fun rows => rows.length < 64 ∧ P (.lst (isort (rows.map (·.1)))) hp nx
theorem keys_are : ∀ {rows : List (Int × AV)} {kvs : List (Int × Value)} {Zp : Addr → Obj → Prop} {ρ : Nat → Option Addr} {vs : List Value}, RowsR Zp ρ rows kvs → vs.length = kvs.length → (∀ (j : Nat) (v : Value), vs[j]? = some v → ∃ k x, kvs[j]? = some (k, x) ∧ Value.isInt k v = true) → IntsAre vs (rows.map (·.1))
  | _, _, _, _, [], .nil, _, _ => .nil
  | _, _, _, _, _ :: _, .nil, h, _ => by cases h
  | _, _, _, _, [], .cons _ _, h, _ => by cases h
  | _, _, _, _, v :: vs, .cons (k := k) hv hr, hl, h => by
    refine ex2 (h 0 v rfl) fun k' x hq0 => an2 hq0 fun h1 h2 => ?_; try clear hq0
    cases h1
    obtain ⟨t, rfl⟩ := Value.isInt_shape h2
    exact .cons _ t (keys_are hr (by simpa using hl) fun j w hw => h (j + 1) w hw)
theorem sorted_ok {n : Nat} : PTok W n (.builtin "sorted") ptSorted := by
  intro c O hn σ as P X h s ρ m cm ce frz vs R
  apply arg1_el h; intro a h; apply asR_el h; intro id h hv; refine opt_el h ?_; intro rows hg h; refine bind_el hg ?_; intro o hg e
  cases dicOf_eq e; clear e
  refine cps fun GG kG => ?_; obtain ⟨v, rfl, ⟨d, rfl, hd⟩⟩ := hv.one; refine kG ?_
  refine ex3 (R.H.get hg) fun pre ll post hq0 => an3 hq0 fun hcm np4 _ => ?_; try clear hq0; refine cps fun GG kG => ?_; obtain ⟨d', o, kvs, rfl, hd', hD, hR, hsm⟩ := np4; refine kG ?_
  rw [hd] at hd'; cases hd'
  have hm : (d, o) ∈ cm ++ (ce ++ frz) := by refine hcm ▸ ?_; simp
  have Dd : s.heap.DictOf (intKind W.prog W.w) d kvs := Heap.dictOf_iff.mpr ⟨o, (R.N _ hm).1, hD⟩
  obtain ⟨ep, hat⟩ := Dd.dictAt
  have hlen : kvs.length = rows.length := hR.length
  refine kdu_sorted (kdl_dict (knd := intKind W.prog W.w) (kvs := kvs) (ep := ep) hsm) O.hand R.F R.N hat (by refine hlen ▸ sizeLine_eq ▸ ?_; lia -abstractProof) fun B h' tk vs' F' N' l1 hl hk => ?_
  have hI := keys_are hR hl hk
  have hB := (N' _ (.head _)).1
  refine sort_call (n := 0) hB hI (by refine hl ▸ hlen ▸ ?_; exact h.1) fun out h₂ k hI₂ keep hB₂ => ?_
  have nB := (N' _ (.head _)).2
  have F₂ : Fr c.h₀ c.L h₂ m := by
    refine ex3 F'.ns fun oL es ep hq0 => an2 hq0 fun hh r => ?_; try clear hq0
    exact ⟨ex3i oL es ep ⟨keep _ _ (fun e => nB.1 e.symm) hh, r⟩, fun b o e => keep b o (fun e' => by rw [e', nB.2] at e; exact nope e) (F'.keep b o e), F'.above⟩
  refine R.newLst (h' := h₂) (n := k) (t := tk) F₂ (fun q hq => ?_) l1 hI₂ h.2
  rcases List.mem_cons.mp hq with rfl | hq
  · exact ⟨hB₂, nB⟩
  · have := N' q (.tail _ hq)
    exact ⟨keep _ _ (Nat.ne_of_lt (l1 q hq)) this.1, this.2⟩
end
noncomputable def relabelS (scope sc : Scope) : Scope :=
  { scope with names := scope.names.map fun (n, k) => if (k == .free && sc.kind == .function && sc.names.lookup n == some .cell) then (n, .cell) else (n, k) }
theorem relabelS_eq (scope : Scope) (env : Env) : relabel scope env = relabelS scope env.scope := rfl
structure Gx where
  gl : Str → Option Value
  at_ : Addr → Str → Bool
  met : Addr → Str → Option Addr
  spec : Value → Option (Nat × PT)
  told : Option Str
  exc : Option (Nat × Addr × PT)
structure Cx where
  g : Gx
  sc : Scope
  rm : Nat
  lam : Option (Nat × Addr × Addr × Str)
  mutRet : Bool
noncomputable def itP (a : AV) (k : List Int → Prop) : Prop := match a with
  | .lst xs => k xs
  | .rng lo hi => ((-(2 ^ 60) ≤ lo ∧ lo ≤ 2 ^ 60) ∧ -(2 ^ 60) ≤ hi ∧ hi ≤ 2 ^ 60) ∧ k (irange lo hi)
  | _ => False
theorem itP_iff {a : AV} {k : List Int → Prop} (h : itP a k) : ∃ xs, itV a = some xs ∧ k xs := by
  cases a with
  | lst xs => exact ⟨xs, rfl, h⟩
  | rng lo hi => exact ⟨_, if_pos h.1, h.2⟩
  | _ => exact h.elim
noncomputable def isDbg (x : Str) : Bool := x == ("__debug__" : Str)
noncomputable def vConst : Const → Option AV
  | .none => some .none
  | .bool b => some (.bool b)
  | .int i => some (.int i)
  | .str x => some (.str x)
  | _ => none
noncomputable def vName (cx : Cx) (x : Str) (σ : St) : Option AV :=
  match isDbg x with
  | true => none
  | false => match cx.sc.names.lookup x with
    | some .local => lget x σ.loc
    | some .cell => (match cget x σ.cel with | some (some v) => some v | some none => none | none => lget x σ.fre)
    | some .free => (match x == ("__classdict__" : Str) with | true => none | false => lget x σ.fre)
    | some .globalImplicit => (cx.g.gl x).map .con
    | _ => none
noncomputable abbrev XP := Str → St → Prop
structure V where
  E : Cx → Expr → St → (AV → St → Prop) → XP → Prop
  T : Cx → Expr → St → (Bool → St → Prop) → XP → Prop
  A : Cx → Expr → AV → St → (St → Prop) → XP → Prop
  S : Cx → Stmt → St → (St → Prop) → (AV → St → Prop) → XP → Prop
  For : Cx → Expr → List Stmt → (St → Prop) → (AV → St → Prop) → List Int → St → Prop
noncomputable def vL (E : Expr → St → (AV → St → Prop) → Prop) : List Expr → St → (List AV → St → Prop) → Prop
  | [], σ, P => P [] σ
  | e :: r, σ, P => grd (!isStar e) (E e σ fun a σ₁ => vL E r σ₁ fun as σ₂ => P (a :: as) σ₂)
noncomputable def vP (E : Expr → St → (AV → St → Prop) → Prop) : Option Expr → St → (Option Int → St → Prop) → Prop
  | none, σ, P => P none σ
  | some e, σ, P => E e σ fun v σ₁ => match v with | .int i => P (some i) σ₁ | _ => False
noncomputable def vCh (E : Expr → St → (AV → St → Prop) → Prop) : List CmpOp → List Expr → AV → St → (Bool → St → Prop) → Prop
  | [op], [r], a, σ, P => E r σ fun b σ₁ => cmpV op σ₁ a b fun t => P t σ₁
  | op :: op' :: ops, r :: r' :: rs, a, σ, P => E r σ fun b σ₁ => cmpV op σ₁ a b fun t => br t (vCh E (op' :: ops) (r' :: rs) b σ₁ P) (P false σ₁)
  | _, _, _, _, _ => False
noncomputable def vBool (E : Expr → St → (AV → St → Prop) → Prop) (op : BoolOp) : List Expr → St → (AV → St → Prop) → Prop
  | [], _, _ => False
  | [x], σ, P => E x σ P
  | x :: y :: r, σ, P => E x σ fun a σ₁ => match a with | .bool t => br (stopsAt op t) (P (.bool t) σ₁) (vBool E op (y :: r) σ₁ P) | _ => False
noncomputable def vAnd (T : Expr → St → (Bool → St → Prop) → Prop) : List Expr → St → (Bool → St → Prop) → Prop
  | [], σ, P => P true σ
  | x :: r, σ, P => T x σ fun t σ₁ => br t (vAnd T r σ₁ P) (P false σ₁)
noncomputable def vOr (T : Expr → St → (Bool → St → Prop) → Prop) : List Expr → St → (Bool → St → Prop) → Prop
  | [], σ, P => P false σ
  | x :: r, σ, P => T x σ fun t σ₁ => br t (P true σ₁) (vOr T r σ₁ P)
noncomputable def vBl (S : Stmt → St → (St → Prop) → Prop) : List Stmt → St → (St → Prop) → Prop
  | [], σ, N => N σ
  | st :: r, σ, N => S st σ fun σ₁ => vBl S r σ₁ N
noncomputable def vAL (A : Expr → AV → St → (St → Prop) → Prop) : List Expr → List AV → St → (St → Prop) → Prop
  | [], [], σ, N => N σ
  | t :: ts, a :: as, σ, N => A t a σ fun σ₁ => vAL A ts as σ₁ N
  | _, _, _, _ => False
noncomputable def asName : Expr → Option Str | .Name x _ => some x | _ => none
theorem asName_el {G : Expr → Prop} {f : Expr} {x : Str} (h : asName f = some x) (k : ∀ p, G (.Name x p)) : G f := by
  cases f with
  | Name y p => cases h; exact k p
  | _ => exact nope h
noncomputable def oneO {α : Type} : List α → Option α
  | [] => none
  | a :: r => match r with | [] => some a | _ :: _ => none
theorem oneO_eq {α : Type} {l : List α} {a : α} (h : oneO l = some a) : l = [a] := by
  cases l with
  | nil => exact nope h
  | cons b r => cases r with
    | nil => cases h; rfl
    | cons => exact nope h
noncomputable def asLam : Expr → Option (Arguments × Expr × Scope) | .Lambda ps b s _ => some (ps, b, s) | _ => none
theorem asLam_eq {e : Expr} {r : Arguments × Expr × Scope} (h : asLam e = some r) : ∃ lp, e = .Lambda r.1 r.2.1 r.2.2 lp := by
  cases e with
  | Lambda ps b s lp => cases h; exact ⟨lp, rfl⟩
  | _ => exact nope h
noncomputable def grdO {α : Type} (b : Bool) (a : α) : Option α := match b with | true => some a | false => none
theorem grdO_iff {α : Type} {b : Bool} {a r : α} (h : grdO b a = some r) : b = true ∧ a = r := by
  cases b; exact nope h; cases h; exact ⟨rfl, rfl⟩
noncomputable def giB (cx : Cx) (x : Str) : Bool := !isDbg x && cx.sc.names.lookup x == some .globalImplicit
theorem giB_iff {cx : Cx} {x : Str} (h : giB cx x = true) : isDbg x = false ∧ cx.sc.names.lookup x = some .globalImplicit := by
  simpa [giB] using h
noncomputable def isEnumCall (cx : Cx) : Expr → Option Expr
  | .Call f args kw _ => (match kw with
    | [] => (asName f).bind fun x => (oneO args).bind fun e => grdO (giB cx x && cx.g.gl x == some (.type "enumerate") && !isStar e) e
    | _ :: _ => none)
  | _ => none
noncomputable def tupPat : Expr → Bool
  | .Tuple .. => true
  | _ => false
noncomputable def toldArg (cx : Cx) (f : Expr) (args : List Expr) : Option (Arguments × Expr × Scope) :=
  (asName f).bind fun x => (oneO args).bind fun a => (asLam a).bind fun r => cx.g.told.bind fun y => grdO (giB cx x && x == y) r
noncomputable def noArgs (ps : Arguments) : Bool := ps.posonlyargs.isEmpty && ps.args.isEmpty && ps.vararg.isNone && ps.kwonlyargs.isEmpty && ps.kw_defaults.isEmpty && ps.kwarg.isNone && ps.defaults.isEmpty
noncomputable def lamScope (sc : Scope) : Bool := !sc.isCoroutine && !sc.isGenerator && sc.kind == .function && sc.names.all (fun y => y.2 != .cell) && nodupS (frees sc)
noncomputable def compCx (cx : Cx) (scope : Scope) : Cx := { cx with sc := relabelS scope cx.sc, lam := none, mutRet := false }
noncomputable def vTurn (V : V) (cx : Cx) (tgt elt : Expr) (ifs : List Expr) (σ : St) (a : AV) (r : Option Int) : Prop :=
  V.A cx tgt a σ (fun σ₁ => match ifs with
    | [] => V.E cx elt σ₁ (fun v σ₃ => ∃ i, r = some i ∧ v = .int i ∧ Same σ σ₃) noX
    | [t] => V.T cx t σ₁ (fun b σ₂ => br b (V.E cx elt σ₂ (fun v σ₃ => ∃ i, r = some i ∧ v = .int i ∧ Same σ σ₃) noX) (r = none ∧ Same σ σ₂)) noX
    | _ => False) noX
noncomputable def vComp (V : V) (cx : Cx) (elt tgt iter : Expr) (ifs : List Expr) (scope : Scope) (σ : St) (P : List Int → St → Prop) (X : XP) : Prop :=
  grd (!isSet iter && compOk scope && (capt (frees scope) σ).isSome) (match tupPat tgt with
    | true => opt (isEnumCall cx iter) fun e => V.E cx e σ (fun a σ₁ => match a with
        | .lst xs => ∃ g : Nat → Int → Option Int, (xs.length ≤ 2 ^ 24 ∧ opt (capt (frees scope) σ₁) fun fs =>
            ∀ n : Nat, n < xs.length → vTurn V (compCx cx scope) tgt elt ifs { hp := σ₁.hp, loc := [], cel := [], fre := fs, nxt := σ₁.nxt } (.tup2 (.int n) (.int (xs.getD n 0))) (g n (xs.getD n 0))) ∧ P (xs.zipIdx.filterMap fun q => g q.2 q.1) σ₁
        | _ => False) X
    | false => grd (nameOnly tgt) (V.E cx iter σ (fun a σ₁ => itP a fun xs => ∃ g : Int → Option Int, (xs.length ≤ 2 ^ 24 ∧ opt (capt (frees scope) σ₁) fun fs =>
            ∀ y ∈ xs, vTurn V (compCx cx scope) tgt elt ifs { hp := σ₁.hp, loc := [], cel := [], fre := fs, nxt := σ₁.nxt } (.int y) (g y)) ∧ P (xs.filterMap g) σ₁) X))
noncomputable def optE {α : Type} (o : Option α) (k : α → Prop) (d : Prop) : Prop := match o with | some a => k a | none => d
theorem optE_el {α : Type} {o : Option α} {k : α → Prop} {d G : Prop} (h : optE o k d) (f : ∀ a, o = some a → k a → G) (g : d → G) : G := by cases o; exact g h; exact f _ rfl h
noncomputable def vCall (V : V) (cx : Cx) (f : Expr) (args : List Expr) (pos : Pos) (σ : St) (P : AV → St → Prop) (X : XP) : Prop :=
  match f with
  | .Attribute o name apos => grd (!bareCall o && apos.endLine == pos.line && args.all (fun e => !isStar e) && Nat.blt args.length 30)
      (V.E cx o σ (fun a σ₁ => opt (metV cx.g.met σ₁ a name) fun fv => opt (cx.g.spec fv) fun pt => grd (Nat.ble pt.1 cx.rm) (vL (fun e σ P => V.E cx e σ P X) args σ₁ fun as σ₂ => pt.2.at σ₂ (a :: as) P X)) X)
  | .Name x _ => optE (toldArg cx f args) (fun ⟨ps, body, scope⟩ => grd (noArgs ps && lamScope scope && Nat.ble 2 cx.rm) (opt cx.lam fun l => opt (capt (frees scope) σ) fun fs => opt (hget l.1 σ.hp) fun o => (match o with | .tab Pt q => Pt = l.2.2.1 ∧ q = l.2.2.2 | _ => False) ∧
        V.E { cx with sc := scope, rm := cx.rm - 2, lam := none, mutRet := false } body { hp := σ.hp, loc := [], cel := [], fre := fs, nxt := σ.nxt } (fun _ σ' => P (.str "done") (σ.with σ'.hp σ'.nxt)) (fun sym σ' => P (.str sym) (σ.with σ'.hp σ'.nxt))))
    (grd (!isDbg x && cx.sc.names.lookup x == some .globalImplicit && args.all (fun e => !isStar e)) (opt (cx.g.gl x) fun fv => opt (cx.g.spec fv) fun pt => grd (Nat.ble pt.1 cx.rm) (vL (fun e σ P => V.E cx e σ P X) args σ fun as σ₁ => pt.2.at σ₁ as P X)))
  | _ => False
noncomputable def asSl : Expr → Option (Option Expr × Option Expr)
  | .Slice lo hi none _ => some (lo, hi)
  | _ => none
theorem asSl_iff {i : Expr} {r : Option Expr × Option Expr} (h : asSl i = some r) : ∃ p, i = .Slice r.1 r.2 none p := by
  cases i with
  | Slice lo hi st p =>
    cases st with
    | none => cases h; exact ⟨p, rfl⟩
    | some s => exact nope h
  | _ => exact nope h
noncomputable def subE (i : Expr) (A : Option Expr → Option Expr → Prop) (B : Prop) : Prop := match asSl i with
  | some r => A r.1 r.2
  | none => B
theorem subE_iff {i : Expr} {A : Option Expr → Option Expr → Prop} {B : Prop} (h : subE i A B) : (∃ lo hi p, i = .Slice lo hi none p ∧ A lo hi) ∨ B := by
  unfold subE at h
  cases e : asSl i with
  | none => rw [e] at h; exact .inr h
  | some r => rw [e] at h; obtain ⟨p, q⟩ := asSl_iff e; exact .inl (ex3i _ _ p ⟨q, h⟩)
noncomputable def stepE (V : V) (cx : Cx) (e : Expr) (σ : St) (P : AV → St → Prop) (X : XP) : Prop :=
  let E := fun e σ P => V.E cx e σ P X
  match e with
  | .Constant k _ _ => opt (vConst k) fun v => P v σ
  | .Name x _ => opt (vName cx x σ) fun v => P v σ
  | .BinOp l op r _ => E l σ fun a σ₁ => E r σ₁ fun b σ₂ => binV op σ₂ a b fun v => P v σ₂
  | .UnaryOp op x _ => E x σ fun a σ₁ => unV op a fun v => P v σ₁
  | .IfExp t a b _ => V.T cx t σ (fun t σ₁ => br t (E a σ₁ P) (E b σ₁ P)) X
  | .BoolOp op es _ => vBool E op es σ P
  | .Compare l ops rs _ => grd (!lastMarks ops rs) (E l σ fun a σ₁ => vCh E ops rs a σ₁ fun t σ₂ => P (.bool t) σ₂)
  | .Attribute o name _ => grd (!bareCall o) (E o σ fun a σ₁ => match a with
      | .ref n => (match hget n σ₁.hp with | some (.inst C attrs) => grd (cx.g.at_ C name) (opt (lget name attrs) fun v => grd (handV v) (P v σ₁)) | _ => False)
      | _ => False)
  | .Subscript v i _ => subE i (fun lo hi => E v σ fun a σ₁ => vP E lo σ₁ fun x σ₂ => vP E hi σ₂ fun y σ₃ => opt (sliInts σ₃ a) fun xs => xs.length ≤ 2 ^ 24 ∧ slcV xs x y fun ys => P (.lst ys) σ₃) <| grd (!isSlice i) (E v σ fun a σ₁ => E i σ₁ fun b σ₂ => subV σ₂ a b fun v => P v σ₂)
  | .List es _ => grd (es.all (fun e => !isStar e) && Nat.ble es.length 100) (vL E es σ fun as σ₁ => opt (allInts as) fun xs => as.length ≤ 1000 ∧ P (.lst xs) σ₁)
  | .Tuple es _ _ => grd (es.all (fun e => !isStar e)) (vL E es σ fun as σ₁ => opt (mkTup as) fun t => P t σ₁)
  | .Dict [] [] _ => P (.ref σ.nxt) (σ.plus (.dict []))
  | .ListComp elt [⟨tgt, iter, ifs, 0⟩] scope _ => vComp V cx elt tgt iter ifs scope σ (fun ys σ₁ => P (.lst ys) σ₁) X
  | .Call f args [] pos => vCall V cx f args pos σ P X
  | _ => False
noncomputable def stepT (V : V) (cx : Cx) (e : Expr) (σ : St) (P : Bool → St → Prop) (X : XP) : Prop :=
  let E := fun e σ P => V.E cx e σ P X
  let T := fun e σ P => V.T cx e σ P X
  match e with
  | .UnaryOp .Not x _ => T x σ fun t σ₁ => P (!t) σ₁
  | .BoolOp .And es _ => vAnd T es σ P
  | .BoolOp .Or es _ => vOr T es σ P
  | .Compare l ops rs _ => grd (!lastMarks ops rs) (E l σ fun a σ₁ => vCh E ops rs a σ₁ P)
  | .IfExp t a b _ => T t σ fun t σ₁ => br t (T a σ₁ P) (T b σ₁ P)
  | e => grd (plainTest e) (E e σ fun a σ₁ => truV a fun t => P t σ₁)
noncomputable def stepA (V : V) (cx : Cx) (t : Expr) (a : AV) (σ : St) (N : St → Prop) (X : XP) : Prop :=
  let E := fun e σ P => V.E cx e σ P X
  match t with
  | .Name x _ => opt (stV cx.sc x a σ) N
  | .Attribute o name _ => E o σ fun b σ₁ => match b with
      | .ref n => (match hget n σ₁.hp with
        | some (.inst C attrs) => grd (cx.g.at_ C name && Nat.ble (lset name a attrs).length 1000) (N { σ₁ with hp := hset n (.inst C (lset name a attrs)) σ₁.hp })
        | some (.exc attrs) => grd ((name == ("symbol" : Str) || name == ("data" : Str)) && cx.g.exc.isSome && Nat.ble attrs.length 100) (N { σ₁ with hp := hset n (.exc (lset name a attrs)) σ₁.hp })
        | _ => False)
      | _ => False
  | .Subscript o i _ => subE i (fun lo hi => E o σ fun b σ₁ => vP E lo σ₁ fun x σ₂ => vP E hi σ₂ fun y σ₃ => splV σ₃ a b x y N) <| grd (!isSlice i) (E o σ fun b σ₁ => E i σ₁ fun k σ₂ => setV σ₂ a b k N)
  | .Tuple ts _ _ => grd (ts.all (fun e => !isStar e)) (opt (tupVals a) fun vals => grd (vals.length == ts.length) (vAL (fun t a σ N => V.A cx t a σ N X) ts vals σ N))
  | _ => False
noncomputable def swapB (sc : Scope) (cs : Scope) (t : Str) (tl vl : Nat) : Bool := sc.kind == .function && sc.names.lookup t == some .local && tl == vl && !(cs.names.any fun p => p.1 == t && (p.2 == .local || p.2 == .cell))
noncomputable def asComp : Expr → Option ((Expr × Expr × Expr) × List Expr × Scope × Pos)
  | .ListComp elt [⟨tgt, iter, ifs, 0⟩] scope cp => some ((elt, tgt, iter), ifs, scope, cp)
  | _ => none
theorem asComp_iff {v : Expr} {r : (Expr × Expr × Expr) × List Expr × Scope × Pos} (h : asComp v = some r) : v = .ListComp r.1.1 [⟨r.1.2.1, r.1.2.2, r.2.1, 0⟩] r.2.2.1 r.2.2.2 := by
  cases v with
  | ListComp elt gs scope p =>
    cases gs with
    | nil => exact nope h
    | cons g r =>
      obtain ⟨tgt, iter, ifs, n⟩ := g
      cases n with
      | negSucc => cases r <;> exact nope h
      | ofNat n => cases n <;> cases r <;> (first | exact nope h | cases h); rfl
  | _ => exact nope h
noncomputable def compE (v : Expr) (A : Expr → Expr → Expr → List Expr → Scope → Pos → Prop) (B : Prop) : Prop := match asComp v with
  | some r => A r.1.1 r.1.2.1 r.1.2.2 r.2.1 r.2.2.1 r.2.2.2
  | none => B
theorem compE_iff {v : Expr} {A : Expr → Expr → Expr → List Expr → Scope → Pos → Prop} {B : Prop} (h : compE v A B) : (∃ elt tgt iter ifs scope cp, v = .ListComp elt [⟨tgt, iter, ifs, 0⟩] scope cp ∧ A elt tgt iter ifs scope cp) ∨ B := by
  unfold compE at h
  cases e : asComp v with
  | none => rw [e] at h; exact .inr h
  | some r => rw [e] at h; exact .inl (ex6i _ _ _ _ _ _ ⟨asComp_iff e, h⟩)
noncomputable def asgG (V : V) (cx : Cx) (t v : Expr) (σ : St) (N : St → Prop) (X : XP) : Prop := grd (!isStar t && !isComp v && (!isTup t || !isTupV v)) (V.E cx v σ (fun a σ₁ => V.A cx t a σ₁ N X) X)
noncomputable def asgS (V : V) (cx : Cx) (t v : Expr) (σ : St) (N : St → Prop) (X : XP) : Prop :=
  let E := fun e σ P => V.E cx e σ P X
  match t with
  | .Tuple ts k p => (match v with
    | .Tuple vs k' p' => grd (ts.all (fun e => !isStar e)) (opt (swp cx.sc ts vs) fun r => E (.Tuple vs k' p') σ fun a σ₁ => opt (tupVals a) fun vals => match r with
        | none => grd (vals.length == ts.length) (vAL (fun t a σ N => V.A cx t a σ N X) ts vals σ₁ N)
        | some ns => grd (vals.length == ns.length) (opt (stL cx.sc ns.reverse vals.reverse σ₁) N))
    | v => asgG V cx (.Tuple ts k p) v σ N X)
  | .Name y py => compE v (fun elt tgt iter ifs scope cp => br (swapB cx.sc scope y py.line cp.line)
        (vComp V cx elt tgt iter ifs scope σ (fun ys σ₁ => opt (stV cx.sc y (.lst ys) σ₁) N) X)
        (vComp V cx elt tgt iter ifs scope σ (fun ys σ₁ => opt (stV cx.sc y (.lst ys) σ₁) N) X)) (asgG V cx (.Name y py) v σ N X)
  | .Attribute o name p => (match v with
    | .BinOp l op r bp => (match op with
      | .Add => br (name == ("cells" : Str))
        (E l σ fun a σ₁ => E r σ₁ fun b σ₂ => opt (asInts σ₂ a) fun xs => opt (asInts σ₂ b) fun ys => xs.length + ys.length ≤ 2 ^ 24 ∧ V.A cx (.Attribute o name p) (.ref σ₂.nxt) (σ₂.plus (.arr (xs ++ ys))) N X)
        (E (.BinOp l .Add r bp) σ fun a σ₁ => V.A cx (.Attribute o name p) a σ₁ N X)
      | op => asgG V cx (.Attribute o name p) (.BinOp l op r bp) σ N X)
    | v => asgG V cx (.Attribute o name p) v σ N X)
  | t => asgG V cx t v σ N X
noncomputable def stepS (V : V) (cx : Cx) (st : Stmt) (σ : St) (N : St → Prop) (Rt : AV → St → Prop) (X : XP) : Prop :=
  let E := fun e σ P => V.E cx e σ P X
  let Ss := fun l σ N => vBl (fun st σ N => V.S cx st σ N Rt X) l σ N
  match st with
  | .Expr e _ => grd (!isComp e) (E e σ fun _ σ₁ => N σ₁)
  | .Return none _ => Rt .none σ
  | .Return (some e) _ => (match cx.mutRet with
    | true => compE e (fun elt tgt iter ifs scope _ => vComp V cx elt tgt iter ifs scope σ (fun ys σ₁ => Rt (.ref σ₁.nxt) (σ₁.plus (.arr ys))) X) (E e σ Rt)
    | false => E e σ Rt)
  | .Pass _ => N σ
  | .If t a b _ => V.T cx t σ (fun t σ₁ => br t (Ss a σ₁ N) (Ss b σ₁ N)) X
  | .Assign [t] v _ => asgS V cx t v σ N X
  | .While test body [] _ => ∃ (I : Nat → St → Prop) (B : Nat → Bool → St → Prop) (n₀ : Nat), I n₀ σ ∧ (∀ n σ₁, I n σ₁ → V.T cx test σ₁ (B n) noX) ∧
      (∀ n σ₂, B n true σ₂ → vBl (fun st σ N => V.S cx st σ N Rt noX) body σ₂ fun σ₃ => ∃ k, k < n ∧ I k σ₃) ∧ ∀ n σ₂, B n false σ₂ → N σ₂
  | .For tgt iter body [] _ => grd (!isSet iter && nameOnly tgt) (E iter σ fun a σ₁ => itP a fun xs => V.For cx tgt body N Rt xs σ₁)
  | .Raise (some (.Call (.Name x _) args [] _)) none _ => grd (!isDbg x && cx.sc.names.lookup x == some .globalImplicit && args.all (fun e => !isStar e)) (opt (cx.g.gl x) fun fv => opt cx.g.exc fun e => grd (Nat.ble (e.1 + 1) cx.rm) ((fv = .ref e.2.1) ∧
      vL (fun e σ P => V.E cx e σ P noX) args σ fun as σ₁ => as.length ≤ 100 ∧ (ptExc e.2.2).at σ₁ as (fun v σ₂ => ∃ n attrs hp sym, v = .ref n ∧ σ₂.hp = hp ++ [(n, .exc attrs)] ∧ attrs ≠ [] ∧ lget "symbol" attrs = some (.str sym) ∧ X sym { σ₂ with hp := hp }) noX))
  | _ => False
noncomputable def vFor (V : V) (cx : Cx) (tgt : Expr) (body : List Stmt) (N : St → Prop) (Rt : AV → St → Prop) : List Int → St → Prop
  | [], σ => N σ
  | k :: r, σ => V.A cx tgt (.int k) σ (fun σ₁ => vBl (fun st σ N => V.S cx st σ N Rt noX) body σ₁ fun σ₂ => vFor V cx tgt body N Rt r σ₂) noX
structure GOk (W : Wd) (g : Gx) : Prop where
  gl : ∀ x v, g.gl x = some v → nsIn W.K mainGlobals x = some (some v) ∨ (nsIn W.K mainGlobals x = some none ∧ bootBuiltins x = some v ∧ x ≠ "__name__")
  at_ : ∀ C x, g.at_ C x = true → attOk W.K C x = true
  met : ∀ C x f, g.met C x = some f → metOk W.K C x f = true
  spec : ∀ v q, g.spec v = some q → PTok W q.1 v q.2 ∧ keepV W.K v = true
  told : ∀ y, g.told = some y → ∃ tF fI, ToldOk W tF ∧ LSOk W fI ∧ lsGet W.K W.LS = true ∧ nsIn W.K mainGlobals y = some (some (.ref tF))
  exc : ∀ q, g.exc = some q → ∃ fI, q.2.1 = W.LS ∧ LSOk W fI ∧ PTok W q.1 (.ref fI) q.2.2 ∧ keepV W.K (.ref W.LS) = true
structure Fit (W : Wd) (cx : Cx) (c : FC) : Prop where
  O : W.Ok c
  g : GOk W cx.g
  sc : c.cs = cx.sc
  rm : cx.rm ≤ c.rm
  lam : ∀ l, cx.lam = some l → c.env.code = .ref l.2.1 ∧ c.env.qual ++ "<lambda>" = l.2.2.2 ∧ codeHdIn W.K l.2.1 l.2.2.1 = true
section
variable {W : Wd} {c : FC} {σ : St} {P : AV → St → Prop} {X : XP}
theorem TriE.weak {t : Sem Value} (h : TriE W c σ t P noX) : TriE W c σ t P X :=
  fun s ρ m cm ce frz R => wpAny_mono (h s ρ m cm ce frz R) (fun _ _ z => z) fun _ _ z => z.no.elim
theorem vL_ok {E : Expr → St → (AV → St → Prop) → Prop} (hE : ∀ e σ P, E e σ P → TriE W c σ (eval e c.env) P X) {pos : Pos} : ∀ (es : List Expr) (σ : St) (P : List AV → St → Prop), vL E es σ P → TriL W c σ (spliced (backTo pos (starEach es c.env))) P X
  | [], σ, P, h => triL_nil h
  | e :: r, σ, P, h => by
    obtain ⟨h1, h2⟩ := grd_iff h
    exact triL_cons (by simpa using h1) (hE e σ _ h2) fun a σ₁ h => vL_ok hE r σ₁ _ h
theorem vP_ok {E : Expr → St → (AV → St → Prop) → Prop} (hE : ∀ e σ P, E e σ P → TriE W c σ (eval e c.env) P X) : ∀ (e : Option Expr) (σ : St) (P : Option Int → St → Prop), vP E e σ P → TriP W c σ e P X
  | none, σ, P, h => h
  | some e, σ, P, h => hE e σ _ h
theorem vCh_ok {E : Expr → St → (AV → St → Prop) → Prop} (O : W.Ok c) (hE : ∀ e σ P, E e σ P → TriE W c σ (eval e c.env) P X) {pos : Pos} : ∀ (ops : List CmpOp) (rs : List Expr) (a : AV) (σ : St) (P : Bool → St → Prop), vCh E ops rs a σ P →
      TriVB W c σ a (fun va => testChain pos va ops (evalEach rs c.env)) P X ∧ ∀ P' : AV → St → Prop, (∀ t σ, P t σ → P' (.bool t) σ) → TriV W c σ a (fun va => compareChain pos va ops (evalEach rs c.env)) P' X
  | [], rs, a, σ, P, h => by cases rs <;> exact h.elim
  | [op], [], a, σ, P, h => h.elim
  | [op], [r], a, σ, P, h => ⟨test_one O (hE r σ _ h) fun b σ₁ z => z, fun P' hP => chain_one O (hE r σ _ h) fun b σ₁ z => cmpV_mono (fun t z => hP t σ₁ z) z⟩
  | [op], r :: r' :: rs, a, σ, P, h => h.elim
  | op :: op' :: ops, [], a, σ, P, h => h.elim
  | op :: op' :: ops, [r], a, σ, P, h => h.elim
  | op :: op' :: ops, r :: r' :: rs, a, σ, P, h => by
    refine ⟨test_more O (hE r σ _ h) fun b σ₁ z => cmpV_mono (fun t z => ?_) z, fun P' hP => chain_more O (hE r σ _ h) fun b σ₁ z => cmpV_mono (fun t z => ?_) z⟩
    · cases t with
      | true => exact (vCh_ok O hE (op' :: ops) (r' :: rs) b σ₁ P z).1
      | false => exact z
    · cases t with
      | true => exact (vCh_ok O hE (op' :: ops) (r' :: rs) b σ₁ P z).2 P' hP
      | false => exact hP _ _ z
theorem vBool_ok {E : Expr → St → (AV → St → Prop) → Prop} (hE : ∀ e σ P, E e σ P → TriE W c σ (eval e c.env) P X) {op : BoolOp} {pos : Pos} : ∀ (es : List Expr) (σ : St) (P : AV → St → Prop), vBool E op es σ P → TriE W c σ (eval (.BoolOp op es pos) c.env) P X
  | [], σ, P, h => h.elim
  | [x], σ, P, h => bool_one (hE x σ P h)
  | x :: y :: r, σ, P, h => by
    refine bool_more (hE x σ _ h) fun a σ₁ z => ?_
    cases a with
    | bool t =>
      refine ⟨t, rfl, br_of (fun e => ?_) fun e => ?_⟩
      · dsimp only at z; rw [e] at z; exact z
      · dsimp only at z; rw [e] at z; exact vBool_ok hE (y :: r) σ₁ P z
    | _ => exact z.elim
theorem vAnd_ok {T : Expr → St → (Bool → St → Prop) → Prop} (hT : ∀ e σ P, T e σ P → TriB W c σ (isTrue e c.env (eval e c.env)) P X) {pos : Pos} {whole : Sem Value} : ∀ (es : List Expr) (σ : St) (P : Bool → St → Prop), vAnd T es σ P → TriB W c σ (isTrue (.BoolOp .And es pos) c.env whole) P X
  | [], σ, P, h => test_and_nil h
  | x :: r, σ, P, h => test_and (hT x σ _ h) (fun σ₁ z => vAnd_ok hT r σ₁ P z) fun σ₁ z => z
theorem vOr_ok {T : Expr → St → (Bool → St → Prop) → Prop} (hT : ∀ e σ P, T e σ P → TriB W c σ (isTrue e c.env (eval e c.env)) P X) {pos : Pos} {whole : Sem Value} : ∀ (es : List Expr) (σ : St) (P : Bool → St → Prop), vOr T es σ P → TriB W c σ (isTrue (.BoolOp .Or es pos) c.env whole) P X
  | [], σ, P, h => test_or_nil h
  | x :: r, σ, P, h => test_or (hT x σ _ h) (fun σ₁ z => vOr_ok hT r σ₁ P z) fun σ₁ z => z
theorem vBl_ok {S : Stmt → St → (St → Prop) → Prop} {Rt : AV → St → Prop} (hS : ∀ st σ N, S st σ N → TriS W c σ (exec st c.env) N Rt X) : ∀ (l : List Stmt) (σ : St) (N : St → Prop), vBl S l σ N → TriS W c σ (execs l c.env) N Rt X
  | [], σ, N, h => tri_nil h
  | st :: r, σ, N, h => tri_cons (hS st σ _ h) fun σ₁ z => vBl_ok hS r σ₁ N z
theorem vAL_ok {A : Expr → AV → St → (St → Prop) → Prop} (hA : ∀ t a σ N, A t a σ N → TriVU W c σ a (assign t c.env) N X) : ∀ (ts : List Expr) (as : List AV) (σ : St) (N : St → Prop), vAL A ts as σ N → TriAL W c σ (ts.map fun e => assign e c.env) as N X
  | [], [], σ, N, h => triAL_nil h
  | t :: ts, a :: as, σ, N, h => triAL_cons (hA t a σ _ h) fun σ₁ z => vAL_ok hA ts as σ₁ N z
  | [], _ :: _, σ, N, h => h.elim
  | _ :: _, [], σ, N, h => h.elim
end
structure VOk (W : Wd) (V : V) : Prop where
  E : ∀ cx c, Fit W cx c → ∀ e σ P X, V.E cx e σ P X → TriE W c σ (eval e c.env) P X
  T : ∀ cx c, Fit W cx c → ∀ e σ P X, V.T cx e σ P X → TriB W c σ (isTrue e c.env (eval e c.env)) P X
  A : ∀ cx c, Fit W cx c → ∀ t a σ N X, V.A cx t a σ N X → TriVU W c σ a (assign t c.env) N X
  S : ∀ cx c, Fit W cx c → ∀ st σ N Rt X, V.S cx st σ N Rt X → TriS W c σ (exec st c.env) N Rt X
  For : ∀ cx c, Fit W cx c → ∀ tgt body N Rt xs σ, V.For cx tgt body N Rt xs σ → ForT W c tgt body N Rt xs σ
section
variable {W : Wd} {c : FC} {σ : St} {P : AV → St → Prop} {X : XP} {cx : Cx}
theorem tri_gl (F : Fit W cx c) {x : Str} {pos : Pos} {v : Value} (hd : isDbg x = false) (hk : cx.sc.names.lookup x = some .globalImplicit) (hv : cx.g.gl x = some v) (h : P (.con v) σ) : TriE W c σ (eval (.Name x pos) c.env) P X := by
  have hk' : c.cs.names.lookup x = some .globalImplicit := by refine F.sc ▸ ?_; exact hk
  rcases F.g.gl x v hv with h1 | ⟨h1, h2, h3⟩
  · exact tri_global F.O hk' hd h1 h
  · exact tri_builtin F.O hk' hd h1 h2 h3 h
theorem vName_ok (F : Fit W cx c) {x : Str} {pos : Pos} {v : AV} (e : vName cx x σ = some v) (h : P v σ) : TriE W c σ (eval (.Name x pos) c.env) P X := by
  unfold vName at e
  split at e
  · exact nope e
  · rename_i hd
    split at e
    · rename_i hk
      exact tri_local F.O (by refine F.sc ▸ ?_; exact hk) hd e h
    · rename_i hk
      have hk : c.cs.names.lookup x = some .cell := by refine F.sc ▸ ?_; exact hk
      split at e
      · rename_i w hw; cases e; exact tri_cell F.O hk hd hw h
      · exact nope e
      · exact tri_cellF F.O hk hd e h
    · rename_i hk
      have hk : c.cs.names.lookup x = some .free := by refine F.sc ▸ ?_; exact hk
      split at e
      · exact nope e
      · rename_i hn; exact tri_free F.O hk hd hn e h
    · rename_i hk
      obtain ⟨u, hu, rfl⟩ := Option.map_eq_some_iff.mp e
      exact tri_gl F hd hk hu h
    · exact nope e
theorem Fit.sub (F : Fit W cx c) {c' : FC} {sc : Scope} {rm : Nat} (O : W.Ok c') (h1 : c'.cs = sc) (h2 : rm ≤ c'.rm) {b : Bool} : Fit W { cx with sc := sc, rm := rm, lam := none, mutRet := b } c' :=
  ⟨O, F.g, h1, h2, fun l e => by exact nope e⟩
theorem Fit.wex (F : Fit W cx c) {l : List (Addr × Obj)} (O : W.Ok (c.wex l)) : Fit W cx (c.wex l) := ⟨O, F.g, F.sc, F.rm, F.lam⟩
theorem isEnum_iff {iter e : Expr} (F : Fit W cx c) (h : isEnumCall cx iter = some e) : ∃ f pos, iter = .Call f [e] [] pos ∧ isAtt f = false ∧ isStar e = false ∧ TriE W c σ (eval f c.env) (fun v σ' => v = .con (.type "enumerate") ∧ σ' = σ) X := by
  cases iter with
  | Call f args kw pos =>
    cases kw with
    | cons => exact nope h
    | nil =>
      refine bind_el h fun x hx h => bind_el h fun e' he h => ?_
      obtain ⟨hb, rfl⟩ := grdO_iff h
      simp only [Bool.and_eq_true, beq_iff_eq, Bool.not_eq_true'] at hb
      obtain ⟨⟨hb, hg⟩, hst⟩ := hb
      obtain ⟨hd, hk⟩ := giB_iff hb
      cases oneO_eq he; clear he h
      revert h
      apply asName_el hx; intro p _
      exact ex2i _ pos ⟨rfl, rfl, hst, tri_gl F hd hk hg ⟨rfl, rfl⟩⟩
  | _ => exact nope h
theorem enumA_map : ∀ (xs : List Int) (k : Nat) (G : Nat → Int → Option Int), (enumA (k : Int) xs).filterMap (fun a => match a with | .tup2 (.int i) (.int y) => G i.toNat y | _ => none) = (xs.zipIdx k).filterMap fun q => G q.2 q.1
  | [], _, _ => rfl
  | x :: r, k, G => by
    have ih := enumA_map r (k + 1) G
    have e : ((k : Int) + 1) = ((k + 1 : Nat) : Int) := rfl
    refine List.zipIdx_cons ▸ ?_
    unfold enumA
    refine List.filterMap_cons ▸ List.filterMap_cons ▸ e ▸ ih.symm ▸ ?_
    rfl
theorem enumA_mem {a : AV} : ∀ (xs : List Int) (k : Nat), a ∈ enumA (k : Int) xs → ∃ n : Nat, n < xs.length ∧ a = .tup2 (.int (k + n : Nat)) (.int (xs.getD n 0))
  | x :: r, k, h => by
    unfold enumA at h
    rcases List.mem_cons.mp h with rfl | h
    · exact ⟨0, by simp, rfl⟩
    · obtain ⟨n, h1, rfl⟩ := enumA_mem r (k + 1) h
      exact ⟨n + 1, by simpa using h1, by refine (show k + 1 + n = k + (n + 1) by lia -abstractProof).symm ▸ ?_; rfl⟩
theorem testsSem_nil {env : Env} {N : Bool → St → Prop} (h : N true σ) : TriB W c σ (testsSem [] env) N X := fun s ρ m cm ce frz R => wpAny_pure (R.hereU h)
theorem testsSem_one {t : Expr} {N : Bool → St → Prop} (h : TriB W c σ (isTrue t c.env (eval t c.env)) N X) : TriB W c σ (testsSem [t] c.env) N X := by
  intro s ρ m cm ce frz R
  unfold testsSem
  rw [List.forIn_cons]
  refine wpAny_bind ?_
  refine if_pos rfl ▸ ?_
  refine wpAny_bind (wpAny_mono (h s ρ m cm ce frz R) (fun b s₁ z => wpAny_pure ?_) fun _ _ z => z)
  exact wpAny_pure z
theorem vTurn_ok {V : V} (H : VOk W V) (F : Fit W cx c) {tgt elt : Expr} {ifs : List Expr} {a : AV} {r : Option Int} (h : vTurn V cx tgt elt ifs σ a r) : CompTurn W c tgt ifs elt σ a r := by
  intro s ρ m cm ce frz va R hv
  refine wpAny_mono (H.A cx c F _ _ _ _ _ h s ρ m cm ce frz va R hv) (fun _ s₁ zz => Qu.el zz fun ρ' m' cm' ce' frz' σ' x R' q => (Qu.mk ρ' m' cm' ce' frz' σ' x R' ?_)) fun _ _ z => z
  split at q
  · exact testsSem_nil (H.E cx c F _ _ _ _ q)
  · refine testsSem_one ?_
    intro s ρ m cm ce frz R
    refine wpAny_mono (H.T cx c F _ _ _ _ q s ρ m cm ce frz R) (fun b s₁ zz => Qu.el zz fun ρ' m' cm' ce' frz' σ' x R' q => (Qu.mk ρ' m' cm' ce' frz' σ' x R' ?_)) fun _ _ z => z
    cases b with
    | true => exact H.E cx c F _ _ _ _ q
    | false => exact q
  · exact q.elim
theorem vComp_ok {V : V} (H : VOk W V) (F : Fit W cx c) {elt tgt iter : Expr} {ifs : List Expr} {scope : Scope} {Q : List Int → St → Prop} (h : vComp V cx elt tgt iter ifs scope σ Q X) :
    isSet iter = false ∧ compOk scope = true ∧ (capt (frees scope) σ).isSome = true ∧ ∃ P₁, ItrOk W c σ tgt iter P₁ X ∧ ∀ xs σ₁, P₁ xs σ₁ → ∃ g, CompAll W c tgt elt ifs scope xs σ₁ g ∧ Q (xs.filterMap g) σ₁ := by
  obtain ⟨h1, h⟩ := grd_iff h
  simp only [Bool.and_eq_true, Bool.not_eq_true'] at h1
  refine ⟨h1.1.1, h1.1.2, h1.2, ?_⟩
  have fit : ∀ c', W.Ok c' → c'.cs = relabel scope c.env → c'.rm = c.rm → Fit W (compCx cx scope) c' := fun c' O' hc hr =>
    F.sub (b := false) O' (sc := relabelS scope cx.sc) (rm := cx.rm) (by refine hc ▸ (relabelS_eq ..) ▸ ?_; show relabelS scope c.cs = _; exact F.sc.symm ▸ rfl) (by refine hr ▸ ?_; exact F.rm)
  split at h
  · rename_i ht
    obtain ⟨e, he, h2⟩ := opt_iff h
    clear h
    cases tgt with
    | Tuple elts k tpos =>
      refine ex2 (isEnum_iff (σ := σ) (X := X) F he) fun f pos hq0 => an4 hq0 fun qe2 ha hst hf => ?_; try clear hq0; subst qe2
      refine ⟨fun xs σ₁ => ∃ ys : List Int, xs = enumAV ys ∧ ∃ g : Nat → Int → Option Int, (ys.length ≤ 2 ^ 24 ∧ opt (capt (frees scope) σ₁) fun fs =>
            ∀ n : Nat, n < ys.length → vTurn V (compCx cx scope) (.Tuple elts k tpos) elt ifs { hp := σ₁.hp, loc := [], cel := [], fre := fs, nxt := σ₁.nxt } (.tup2 (.int n) (.int (ys.getD n 0))) (g n (ys.getD n 0))) ∧ Q (ys.zipIdx.filterMap fun q => g q.2 q.1) σ₁,
        itr_enum F.O ha hst hf (H.E cx c F _ _ _ _ h2) fun a σ₁ z => ?_, ?_⟩
      · cases a with
        | lst xs => exact ⟨xs, rfl, xs, rfl, z⟩
        | _ => exact z.elim
      · rintro xs σ₁ ⟨ys, rfl, g, ⟨h2, h3⟩, h4⟩
        obtain ⟨fs, hfs, h3⟩ := opt_iff h3
        refine ⟨fun a => match a with | .tup2 (.int i) (.int y) => g i.toNat y | _ => none, ⟨by refine (enumA_length ..) ▸ ?_; exact h2, fs, hfs, fun c' O' hc hr a ha => ?_⟩, ?_⟩
        · obtain ⟨n, hn, rfl⟩ := enumA_mem ys 0 ha
          have := vTurn_ok H (fit c' O' hc hr) (h3 n hn)
          simpa using this
        · exact (enumA_map ys 0 g).symm ▸ h4
    | _ => exact nopb ht
  · obtain ⟨h2, h⟩ := grd_iff h
    refine ⟨fun xs σ₁ => ∃ ys : List Int, xs = ys.map .int ∧ ∃ g : Int → Option Int, (ys.length ≤ 2 ^ 24 ∧ opt (capt (frees scope) σ₁) fun fs =>
            ∀ y ∈ ys, vTurn V (compCx cx scope) tgt elt ifs { hp := σ₁.hp, loc := [], cel := [], fre := fs, nxt := σ₁.nxt } (.int y) (g y)) ∧ Q (ys.filterMap g) σ₁,
      itr_plain F.O h2 (H.E cx c F _ _ _ _ h) fun a σ₁ z => ?_, ?_⟩
    · obtain ⟨ys, e, z⟩ := itP_iff z
      exact ⟨ys, e, ys, rfl, z⟩
    · rintro xs σ₁ ⟨ys, rfl, g, ⟨h2, h3⟩, h4⟩
      obtain ⟨fs, hfs, h3⟩ := opt_iff h3
      refine ⟨fun a => match a with | .int y => g y | _ => none, ⟨by refine (List.length_map ..).symm ▸ ?_; exact h2, fs, hfs, fun c' O' hc hr a ha => ?_⟩, ?_⟩
      · obtain ⟨y, hy, rfl⟩ := List.mem_map.mp ha
        exact vTurn_ok H (fit c' O' hc hr) (h3 y hy)
      · refine List.filterMap_map ▸ ?_; exact h4
end
theorem noArgs_iff {ps : Arguments} (h : noArgs ps = true) : ps = ⟨[], [], none, [], [], none, []⟩ := by
  obtain ⟨a, b, c, d, e, f, g⟩ := ps
  simp only [noArgs, Bool.and_eq_true, List.isEmpty_iff, Option.isNone_iff_eq_none] at h
  refine cps fun GG kG => ?_; obtain ⟨⟨⟨⟨⟨⟨rfl, rfl⟩, rfl⟩, rfl⟩, rfl⟩, rfl⟩, rfl⟩ := h; refine kG ?_
  rfl
theorem noArgs_bind (fd : FuncData) (h : fd.params = ⟨[], [], none, [], [], none, []⟩) (h1 : fd.defaults = .none) (h2 : fd.kwdefaults = .none) : bindArgs fd ⟨[], []⟩ = pure [] := by
  unfold bindArgs
  refine h ▸ h1 ▸ h2.symm ▸ ?_
  rfl
section
variable {W : Wd} {c : FC} {σ : St} {P : AV → St → Prop} {X : XP} {cx : Cx}
theorem toldArg_iff {f : Expr} {args : List Expr} {r : Arguments × Expr × Scope} (h : toldArg cx f args = some r) : ∃ x p lp y, f = .Name x p ∧ args = [.Lambda r.1 r.2.1 r.2.2 lp] ∧ isDbg x = false ∧ cx.sc.names.lookup x = some .globalImplicit ∧ cx.g.told = some y ∧ x = y := by
  refine bind_el h fun x hx h => bind_el h fun e' he h => bind_el h fun r' hr h => bind_el h fun y hy h => ?_
  obtain ⟨hb, rfl⟩ := grdO_iff h
  simp only [Bool.and_eq_true, beq_iff_eq] at hb
  obtain ⟨hd, hk⟩ := giB_iff hb.1
  cases oneO_eq he
  obtain ⟨lp, rfl⟩ := asLam_eq hr
  clear h
  revert h
  apply asName_el hx; intro p _
  exact ex4i x p lp y ⟨rfl, rfl, hd, hk, hy, hb.2⟩
theorem vCall_ok {V : V} (H : VOk W V) (F : Fit W cx c) {f : Expr} {args : List Expr} {pos : Pos} (h : vCall V cx f args pos σ P X) : TriE W c σ (eval (.Call f args [] pos) c.env) P X := by
  cases f with
  | Attribute o name apos =>
    obtain ⟨h1, h⟩ := grd_iff h
    simp only [Bool.and_eq_true, Bool.not_eq_true'] at h1
    obtain ⟨⟨⟨h1, h2⟩, h3⟩, h4⟩ := h1
    refine tri_MethodCall (met := cx.g.met) (P₁ := fun a fv as σ₂ => ∃ pt, cx.g.spec fv = some pt ∧ pt.1 ≤ cx.rm ∧ pt.2.at σ₂ (a :: as) P X) F.g.met F.O h1 h2 h3 (Nat.lt_of_lt_of_le (Nat.lt_succ_self _) (Nat.le_of_ble_eq_true h4)) (H.E cx c F _ _ _ _ h) (fun a σ₁ z => ?_) fun a fv as σ₁ ⟨pt, z1, z2, z3⟩ => ?_
    · obtain ⟨fv, e1, z⟩ := opt_iff z
      obtain ⟨pt, e2, z⟩ := opt_iff z
      obtain ⟨e3, z⟩ := grd_iff z
      refine ⟨fv, e1, (F.g.spec _ _ e2).2, ?_⟩
      have k := vL_ok (fun e σ P h => H.E cx c F e σ P X h) (pos := pos) args σ₁ _ z
      intro s ρ m cm ce frz R
      refine wpAny_mono (k s ρ m cm ce frz R) (fun vs s' zz => QL.el zz fun ρ' m' cm' ce' frz' as σ' x R' hv q => ex7i ρ' m' cm' ce' frz' as σ' ⟨x, R', hv, pt, e2, Nat.le_of_ble_eq_true e3, q⟩) fun _ _ z => z
    · exact (F.g.spec _ _ z1).1 c F.O (Nat.le_trans z2 F.rm) σ₁ _ P X z3
  | Name x p =>
    refine optE_el h ?_ ?_ <;> clear h
    · rintro ⟨ps, body, scope⟩ ht h
      refine ex4 (toldArg_iff ht) fun x' p' lp y hq0 => an6 hq0 fun e1 qe5 hd hk hy qe9 => ?_; try clear hq0; subst qe5; subst qe9
      cases e1
      obtain ⟨h1, h⟩ := grd_iff h
      simp only [Bool.and_eq_true, Bool.not_eq_true'] at h1
      obtain ⟨⟨h1, h2⟩, h3⟩ := h1
      have h3 := Nat.le_of_ble_eq_true h3
      obtain ⟨l, hl, h⟩ := opt_iff h
      obtain ⟨fs, hfs, h⟩ := opt_iff h
      obtain ⟨ob, ho, ⟨h4, h⟩⟩ := opt_iff h
      refine ex2 (F.g.told _ hy) fun tF fI hq0 => an4 hq0 fun hT hls hlg hx => ?_; try clear hq0
      obtain ⟨q1, q2, q3⟩ := F.lam l hl
      simp only [lamScope, Bool.and_eq_true, Bool.not_eq_true', List.all_eq_true, beq_iff_eq] at h2
      refine cps fun GG kG => ?_; obtain ⟨⟨⟨⟨s1, s2⟩, s3⟩, s4⟩, s5⟩ := h2; refine kG ?_
      cases ob with
      | tab Pt q =>
        obtain ⟨rfl, rfl⟩ := h4
        have hp := noArgs_iff h1
        refine TriE.weak (tri_told hT hls hlg F.O (Nat.le_trans h3 F.rm) (by refine F.sc ▸ ?_; exact hk) hd hx (by refine hp ▸ ?_; rfl) q1 q3 q2 ho (fun fd e1 e2 e3 => noArgs_bind fd (by exact e1 ▸ hp.symm ▸ rfl) e2 e3) s1 s2 s3 (fun y hy => by simpa using s4 y hy) (nodupS_iff s5) hfs fun c₂ O₂ e1 e2 e3 => ?_)
        exact H.E _ c₂ (F.sub (b := false) O₂ (sc := scope) (rm := cx.rm - 2) e1 (by refine e2 ▸ ?_; exact Nat.sub_le_sub_right F.rm 2)) _ _ _ _ h
      | _ => exact h4.elim
    · intro h; obtain ⟨h1, h⟩ := grd_iff h
      simp only [Bool.and_eq_true, Bool.not_eq_true', beq_iff_eq] at h1
      obtain ⟨⟨h1, h2⟩, h3⟩ := h1
      obtain ⟨fv, e1, h⟩ := opt_iff h
      obtain ⟨pt, e2, h⟩ := opt_iff h
      obtain ⟨e3, h⟩ := grd_iff h
      obtain ⟨k1, k2⟩ := F.g.spec _ _ e2
      exact tri_Call F.O rfl (tri_gl F h1 h2 e1 ⟨rfl, rfl⟩) k2 h3 (vL_ok (fun e σ P h => H.E cx c F e σ P X h) args σ _ h) fun as σ₁ z => k1 c F.O (Nat.le_trans (Nat.le_of_ble_eq_true e3) F.rm) σ₁ as P X z
  | _ => exact False.elim h
theorem nt {b : Bool} (h : (!b) = true) : b = false := by cases b; rfl; cases h
theorem attE_ok (F : Fit W cx c) {name : Str} {a : AV} {σ₁ : St} (z : match a with
      | .ref n => (match hget n σ₁.hp with | some (.inst C attrs) => grd (cx.g.at_ C name) (opt (lget name attrs) fun v => grd (handV v) (P v σ₁)) | _ => False)
      | _ => False) : TriV W c σ₁ a (fun va => getAttr va name true) P X := by
  cases a with
  | ref n =>
    cases hg : hget n σ₁.hp with
    | none => simp only [hg] at z
    | some o =>
      cases o with
      | inst C attrs =>
        simp only [hg] at z
        obtain ⟨e1, z⟩ := grd_iff z
        obtain ⟨v, e2, z⟩ := opt_iff z
        obtain ⟨e3, z⟩ := grd_iff z
        exact tri_getattr F.O hg (F.g.at_ _ _ e1) e2 e3 z
      | _ => simp only [hg] at z
  | _ => exact False.elim z
theorem stepE_ok {V : V} (H : VOk W V) (F : Fit W cx c) {e : Expr} (h : stepE V cx e σ P X) : TriE W c σ (eval e c.env) P X := by
  have hE : ∀ e σ P, V.E cx e σ P X → TriE W c σ (eval e c.env) P X := fun e σ P h => H.E cx c F e σ P X h
  cases e with
  | Constant k a b =>
    obtain ⟨v, e1, h⟩ := opt_iff h
    cases k <;> first | (cases e1; done) | (cases e1; first | exact tri_none h | exact tri_bool h | exact tri_int h | exact tri_str h)
  | Name x a => obtain ⟨v, e1, h⟩ := opt_iff h; exact vName_ok F e1 h
  | BinOp l op r p => exact tri_BinOp (hE _ _ _ h) (fun a σ₁ z => hE _ _ _ z) fun a b σ₂ z => tri_bin z
  | UnaryOp op x p => exact tri_UnaryOp (hE _ _ _ h) fun a σ₁ z => tri_un z
  | IfExp t a b p => exact tri_IfExp (H.T cx c F _ _ _ _ h) (fun σ₁ z => hE _ _ _ z) fun σ₁ z => hE _ _ _ z
  | BoolOp op es p => exact vBool_ok hE _ _ _ h
  | Compare l ops rs p =>
    obtain ⟨h1, h⟩ := grd_iff h
    exact tri_Compare (nt h1) (hE _ _ _ h) fun a σ₁ z => (vCh_ok F.O hE _ _ _ _ _ z).2 _ fun t σ z => z
  | Attribute o name p =>
    obtain ⟨h1, h⟩ := grd_iff h
    exact tri_Attribute (nt h1) (hE _ _ _ h) fun a σ₁ z => attE_ok F z
  | Subscript v i p =>
    delta stepE at h
    rcases subE_iff h with ⟨lo, hi, q, rfl, h⟩ | h
    · exact tri_Slice (hE _ _ _ h) (fun a σ₁ z => vP_ok hE _ _ _ z) (fun a x σ₁ z => vP_ok hE _ _ _ z) fun a x y σ₂ z => opt_iff z
    · obtain ⟨h1, h⟩ := grd_iff h
      exact tri_Subscript (nt h1) (hE _ _ _ h) (fun a σ₁ z => hE _ _ _ z) fun a i σ₂ z => z
  | List es p =>
    obtain ⟨h1, h⟩ := grd_iff h
    exact tri_List (vL_ok hE _ _ _ h) fun as σ₁ z => opt_iff z
  | Tuple es k p =>
    obtain ⟨h1, h⟩ := grd_iff h
    exact tri_Tuple (vL_ok hE _ _ _ h) fun as σ₁ z => opt_iff z
  | Dict ks vs p => cases ks <;> cases vs <;> first | exact False.elim h | exact tri_Dict0 F.O h
  | ListComp elt gs scope p =>
    delta stepE at h
    cases gs with
    | nil => exact False.elim h
    | cons g r =>
      obtain ⟨tgt, iter, ifs, n⟩ := g
      have main : vComp V cx elt tgt iter ifs scope σ (fun ys σ₁ => P (AV.lst ys) σ₁) X → TriE W c σ (eval (.ListComp elt [⟨tgt, iter, ifs, 0⟩] scope p) c.env) P X := fun h => by
        refine cps fun GG kG => ?_; obtain ⟨h1, h2, h3, P₁, h4, h5⟩ := vComp_ok H F h; refine kG ?_
        exact tri_ListComp F.O h1 h2 h3 h4 h5
      cases n with
      | negSucc => cases r <;> exact False.elim h
      | ofNat n => cases n <;> cases r <;> first | exact False.elim h | exact main h
  | Call f args kw p => cases kw <;> first | exact vCall_ok H F h | exact False.elim h
  | _ => exact False.elim h
theorem stepT_ok {V : V} (H : VOk W V) (F : Fit W cx c) {e : Expr} {P : Bool → St → Prop} (h : stepT V cx e σ P X) : TriB W c σ (isTrue e c.env (eval e c.env)) P X := by
  have hE : ∀ e σ P, V.E cx e σ P X → TriE W c σ (eval e c.env) P X := fun e σ P h => H.E cx c F e σ P X h
  have hT : ∀ e σ P, V.T cx e σ P X → TriB W c σ (isTrue e c.env (eval e c.env)) P X := fun e σ P h => H.T cx c F e σ P X h
  have pl : ∀ e, plainTest e = true → V.E cx e σ (fun a σ₁ => truV a fun t => P t σ₁) X → TriB W c σ (isTrue e c.env (eval e c.env)) P X := fun e h1 h => test_plain h1 (hE _ _ _ h) fun a σ₁ z => z
  cases e with
  | UnaryOp op x p => delta stepT at h; cases op <;> first | exact test_not (hT _ _ _ h) | exact pl _ (grd_iff h).1 (grd_iff h).2
  | BoolOp op es p => cases op <;> first | exact vAnd_ok hT _ _ _ h | exact vOr_ok hT _ _ _ h
  | Compare l ops rs p =>
    obtain ⟨h1, h⟩ := grd_iff h
    exact test_Compare (nt h1) (hE _ _ _ h) fun a σ₁ z => (vCh_ok F.O hE _ _ _ _ _ z).1
  | IfExp t a b p => exact test_IfExp (hT _ _ _ h) (fun σ₁ z => hT _ _ _ z) fun σ₁ z => hT _ _ _ z
  | _ => delta stepT at h; exact pl _ (grd_iff h).1 (grd_iff h).2
end
section
variable {W : Wd} {c : FC} {σ : St} {P : AV → St → Prop} {X : XP} {cx : Cx} {N : St → Prop} {Rt : AV → St → Prop}
theorem tri_aAttrB {fI : Option Addr} {o : Expr} {name : Str} {pos : Pos} {a : AV} {P₁ : AV → St → Prop} (hls : ∀ f, fI = some f → LSOk W f) (O : W.Ok c) (h₁ : TriE W c σ (eval o c.env) P₁ X)
    (h₂ : ∀ b σ₁, P₁ b σ₁ → ∃ n, b = .ref n ∧ ((∃ C attrs, hget n σ₁.hp = some (.inst C attrs) ∧ attOk W.K C name = true ∧ (lset name a attrs).length ≤ 1000 ∧ N { σ₁ with hp := hset n (.inst C (lset name a attrs)) σ₁.hp }) ∨
      ∃ attrs, hget n σ₁.hp = some (.exc attrs) ∧ (name = "symbol" ∨ name = "data") ∧ fI.isSome = true ∧ attrs.length ≤ 100 ∧ N { σ₁ with hp := hset n (.exc (lset name a attrs)) σ₁.hp })) :
    TriVU W c σ a (assign (.Attribute o name pos) c.env) N X := by
  intro s ρ m cm ce frz va R hv
  refine (assign_Attribute ..) ▸ ?_
  refine wpAny_bind (wpAny_holding (wpAny_mono (h₁ s ρ m cm ce frz R) (fun vo s₁ zz => Qv.el zz fun ρ' m' cm' ce' frz' bv σ' e R' hvo q => ?_) fun _ _ z => z))
  obtain ⟨n, rfl, h⟩ := h₂ bv σ' q
  refine wpAny_bind (wpAny_standAt (wpAny_bind (wpAny_holding ?_)))
  rcases h with ⟨C, attrs, h3, h4, h5, h6⟩ | ⟨attrs, h3, h4, h5, h6, h7⟩
  · exact wpAny_mono (tri_setattr (X := X) O h3 h4 h5 h6 R' hvo (hv.ext e)) (fun _ _ z => wpAny_release' (z.ext e)) fun _ _ z => z.ext e
  · obtain ⟨f, hf⟩ := Option.isSome_iff_exists.mp h5
    exact wpAny_mono (tri_setattrE (X := X) (hls f hf) h4 O h3 h6 h7 R' hvo (hv.ext e)) (fun _ _ z => wpAny_release' (z.ext e)) fun _ _ z => z.ext e
theorem stepA_ok {V : V} (H : VOk W V) (F : Fit W cx c) {t : Expr} {a : AV} (h : stepA V cx t a σ N X) : TriVU W c σ a (assign t c.env) N X := by
  have hE : ∀ e σ P, V.E cx e σ P X → TriE W c σ (eval e c.env) P X := fun e σ P h => H.E cx c F e σ P X h
  cases t with
  | Name x p =>
    obtain ⟨σ', e1, h⟩ := opt_iff h
    exact tri_aName F.O (by refine F.sc ▸ ?_; exact e1) h
  | Attribute o name p =>
    have hls : ∃ fI : Option Addr, (∀ f, fI = some f → LSOk W f) ∧ (cx.g.exc.isSome = true → fI.isSome = true) := by
      cases he : cx.g.exc with
      | none => exact ⟨none, (fun f e => by cases e), (fun e => by cases e)⟩
      | some q => refine Exists.elim (F.g.exc q he) fun fI hq0 => an3 hq0 fun _ h2 _ => ?_; try clear hq0; exact ⟨some fI, (fun f e => by cases e; exact h2), fun _ => rfl⟩
    obtain ⟨fI, hls, hex⟩ := hls
    refine tri_aAttrB hls F.O (hE _ _ _ h) fun b σ₁ z => ?_
    cases b with
    | ref n =>
      refine ⟨n, rfl, ?_⟩
      cases hg : hget n σ₁.hp with
      | none => simp only [hg] at z
      | some ob =>
        cases ob with
        | inst C attrs =>
          simp only [hg] at z
          obtain ⟨e1, z⟩ := grd_iff z
          simp only [Bool.and_eq_true] at e1
          exact .inl (ex2i C attrs ⟨rfl, F.g.at_ _ _ e1.1, Nat.le_of_ble_eq_true e1.2, z⟩)
        | exc attrs =>
          simp only [hg] at z
          obtain ⟨e1, z⟩ := grd_iff z
          simp only [Bool.and_eq_true, Bool.or_eq_true, beq_iff_eq] at e1
          exact .inr ⟨attrs, rfl, e1.1.1, hex e1.1.2, Nat.le_of_ble_eq_true e1.2, z⟩
        | _ => simp only [hg] at z
    | _ => exact False.elim z
  | Subscript o i p =>
    delta stepA at h
    rcases subE_iff h with ⟨lo, hi, q, rfl, h⟩ | h
    · exact tri_aSlice F.O (hE _ _ _ h) (fun b σ₁ z => vP_ok hE _ _ _ z) (fun b x σ₁ z => vP_ok hE _ _ _ z) fun b x y σ₂ z => z
    · obtain ⟨h1, h⟩ := grd_iff h
      exact tri_aItem F.O (hE _ _ _ h) (fun b σ₁ z => hE _ _ _ z) fun b k σ₂ z => z
  | Tuple ts k p =>
    obtain ⟨h1, h⟩ := grd_iff h
    obtain ⟨vals, e1, h⟩ := opt_iff h
    obtain ⟨e2, h⟩ := grd_iff h
    exact tri_aTuple F.O h1 e1 (by simpa using e2) (vAL_ok (fun t a σ N h => H.A cx c F t a σ N X h) _ _ _ _ h)
  | _ => exact False.elim h
theorem swapB_ok (F : Fit W cx c) {elt tgt iter : Expr} {ifs : List Expr} {scope : Scope} {cp py : Pos} {y : Str} {line : Nat} : swapsWith (.ListComp elt [⟨tgt, iter, ifs, 0⟩] scope cp) (some (.Name y py)) line c.env = pure (swapB cx.sc scope y py.line cp.line) := by
  have hk : c.cs.kind = .function := F.O.kind
  unfold swapsWith swapB
  dsimp only
  have hb : c.env.blockKind = .function := by unfold Env.blockKind; refine hk.symm ▸ ?_; decide
  refine hb.symm ▸ F.sc ▸ (show c.cs.kind = .function from hk).symm ▸ ?_
  rfl
theorem raise_ok {V : V} (H : VOk W V) (F : Fit W cx c) {x : Str} {xp cp pos : Pos} {args : List Expr} (h1 : isDbg x = false) (h2 : cx.sc.names.lookup x = some .globalImplicit) (h3 : args.all (fun e => !isStar e) = true) {q : Nat × Addr × PT} (e1 : cx.g.gl x = some (.ref q.2.1)) (e2 : cx.g.exc = some q) (e3 : q.1 + 1 ≤ cx.rm)
    (h : vL (fun e σ P => V.E cx e σ P noX) args σ fun as σ₁ => as.length ≤ 100 ∧ (ptExc q.2.2).at σ₁ as (fun v σ₂ => ∃ n attrs hp sym, v = .ref n ∧ σ₂.hp = hp ++ [(n, .exc attrs)] ∧ attrs ≠ [] ∧ lget "symbol" attrs = some (.str sym) ∧ X sym { σ₂ with hp := hp }) noX) :
    TriS W c σ (exec (.Raise (some (.Call (.Name x xp) args [] cp)) none pos) c.env) N Rt X := by
  refine Exists.elim (F.g.exc q e2) fun fI hq0 => an4 hq0 fun k1 k2 k3 k4 => ?_; try clear hq0
  refine tri_Raise k2 F.O (tri_Call F.O rfl (tri_gl F h1 h2 e1 ⟨rfl, rfl⟩) (by refine k1 ▸ ?_; exact k4) h3 (vL_ok (fun e σ P h => H.E cx c F e σ P noX h) args σ _ h) fun as σ₁ z => ?_) fun v σ₁ z => z
  refine k1 ▸ ?_
  exact exc_sound k2 k3 c F.O (Nat.le_trans e3 F.rm) σ₁ as _ z.1 z.2
theorem asgG_ok {V : V} (H : VOk W V) (F : Fit W cx c) {t v : Expr} {p : Pos} (h : asgG V cx t v σ N X) : TriS W c σ (exec (.Assign [t] v p) c.env) N Rt X := by
  obtain ⟨h1, h⟩ := grd_iff h
  simp only [Bool.and_eq_true, Bool.or_eq_true, Bool.not_eq_true'] at h1
  exact tri_Assign h1.1.1 (swaps_no h1.1.2) h1.2 (H.E cx c F _ _ _ _ h) fun a σ₁ z => H.A cx c F _ a σ₁ N X z
theorem asgS_ok {V : V} (H : VOk W V) (F : Fit W cx c) {t v : Expr} {spos : Pos} (h : asgS V cx t v σ N X) : TriS W c σ (exec (.Assign [t] v spos) c.env) N Rt X := by
  have hE : ∀ e σ P, V.E cx e σ P X → TriE W c σ (eval e c.env) P X := fun e σ P h => H.E cx c F e σ P X h
  have hA : ∀ t a σ N, V.A cx t a σ N X → TriVU W c σ a (assign t c.env) N X := fun t a σ N h => H.A cx c F t a σ N X h
  cases t with
  | Tuple ts k p =>
    cases v with
    | Tuple vs k' p' =>
      obtain ⟨h1, h⟩ := grd_iff h
      obtain ⟨r, e1, h⟩ := opt_iff h
      refine tri_AssignTT F.O h1 (by rw [F.sc]; exact e1) (hE _ _ _ h) fun a σ₁ z => ?_
      obtain ⟨vals, e2, z⟩ := opt_iff z
      refine ⟨vals, e2, ?_⟩
      cases r with
      | none =>
        obtain ⟨e3, z⟩ := grd_iff z
        exact ⟨beq_iff_eq.mp e3, vAL_ok hA _ _ _ _ z⟩
      | some ns =>
        obtain ⟨e3, z⟩ := grd_iff z
        obtain ⟨σ', e4, z⟩ := opt_iff z
        exact ⟨beq_iff_eq.mp e3, σ', by refine F.sc ▸ ?_; exact e4, z⟩
    | _ => exact asgG_ok H F h
  | Name y py =>
    delta asgS at h
    rcases compE_iff h with ⟨elt, tgt, iter, ifs, scope, cp, rfl, hx⟩ | hx
    · have sw := fun line => swapB_ok F (elt := elt) (tgt := tgt) (iter := iter) (ifs := ifs) (scope := scope) (cp := cp) (py := py) (y := y) (line := line)
      have h' : vComp V cx elt tgt iter ifs scope σ (fun ys σ₁ => opt (stV cx.sc y (.lst ys) σ₁) N) X := by
        cases hb : swapB cx.sc scope y py.line cp.line <;> (rw [hb] at hx; exact hx)
      refine cps fun GG kG => ?_; obtain ⟨h1, h2, h3, P₁, h4, h5⟩ := vComp_ok H F h'; refine kG ?_
      cases hb : swapB cx.sc scope y py.line cp.line with
      | true =>
        refine tri_AssignComp F.O h1 h2 h3 (by exact (sw ..) ▸ hb.symm ▸ rfl) h4 fun xs σ₁ z => ?_
        obtain ⟨g, z1, z2⟩ := h5 xs σ₁ z
        obtain ⟨σ', z3, z4⟩ := opt_iff z2
        exact ⟨g, z1, σ', by refine F.sc ▸ ?_; exact z3, z4⟩
      | false =>
        refine tri_Assign rfl ((sw spos.line).trans (by exact hb.symm ▸ rfl)) (.inl rfl) (tri_ListComp (P := fun v σ₁ => ∃ σ', stV cx.sc y v σ₁ = some σ' ∧ N σ') F.O h1 h2 h3 h4 fun xs σ₁ z => ?_) fun a σ₁ ⟨σ', z1, z2⟩ => tri_aName F.O (by refine F.sc ▸ ?_; exact z1) z2
        obtain ⟨g, z1, z2⟩ := h5 xs σ₁ z
        exact ⟨g, z1, opt_iff z2⟩
    · exact asgG_ok H F hx
  | Attribute o name p =>
    cases v with
    | BinOp l op r bp =>
      cases op with
      | Add =>
        delta asgS at h
        have h : br (name == ("cells" : Str)) _ _ := h
        cases hb : name == ("cells" : Str) with
        | true =>
          rw [hb] at h
          refine tri_Assign rfl (swaps_no rfl) (.inl rfl) (tri_BinOp (P := fun v σ₁ => V.A cx (.Attribute o name p) v σ₁ N X) (hE _ _ _ h) (fun a σ₁ z => hE _ _ _ z) fun a b σ₂ z => ?_) fun a σ₁ z => hA _ _ _ _ z
          obtain ⟨xs, z1, z⟩ := opt_iff z
          refine Exists.elim (opt_iff z) fun ys hq0 => an3 hq0 fun z2 z3 z => ?_; try clear hq0
          exact tri_catM z1 z2 z3 z
        | false =>
          rw [hb] at h
          exact tri_Assign rfl (swaps_no rfl) (.inl rfl) (hE _ _ _ h) fun a σ₁ z => hA _ _ _ _ z
      | _ => exact asgG_ok H F h
    | _ => exact asgG_ok H F h
  | _ => exact asgG_ok H F h
theorem stepS_ok {V : V} (H : VOk W V) (F : Fit W cx c) {st : Stmt} (h : stepS V cx st σ N Rt X) : TriS W c σ (exec st c.env) N Rt X := by
  have hE : ∀ e σ P, V.E cx e σ P X → TriE W c σ (eval e c.env) P X := fun e σ P h => H.E cx c F e σ P X h
  have hB : ∀ l σ N, vBl (fun st σ N => V.S cx st σ N Rt X) l σ N → TriS W c σ (execs l c.env) N Rt X := fun l σ N h => vBl_ok (fun st σ N h => H.S cx c F st σ N Rt X h) l σ N h
  cases st with
  | Expr e p =>
    obtain ⟨h1, h⟩ := grd_iff h
    exact tri_ExprSt F.O (nt h1) (hE _ _ _ h)
  | Return e p =>
    cases e with
    | none => exact tri_Return0 h
    | some e =>
      have h : (cx.mutRet = true ∧ compE e (fun elt tgt iter ifs scope _ => vComp V cx elt tgt iter ifs scope σ (fun ys σ₁ => Rt (.ref σ₁.nxt) (σ₁.plus (.arr ys))) X) (V.E cx e σ Rt X)) ∨ V.E cx e σ Rt X := by
        delta stepS at h
        cases hm : cx.mutRet with
        | true => simp only [hm] at h; exact .inl ⟨rfl, h⟩
        | false => simp only [hm] at h; exact .inr h
      have gen : V.E cx e σ Rt X → TriS W c σ (exec (.Return (some e) p) c.env) N Rt X := fun h => tri_Return (hE _ _ _ h)
      rcases h with ⟨_, h⟩ | h
      · rcases compE_iff h with ⟨elt, tgt, iter, ifs, scope, cp, rfl, hx⟩ | hx
        · refine cps fun GG kG => ?_; obtain ⟨h1, h2, h3, P₁, h4, h5⟩ := vComp_ok H F hx; refine kG ?_
          exact tri_Return (tri_ListCompM F.O h1 h2 h3 h4 h5)
        · exact gen hx
      · exact gen h
  | Pass p => exact tri_Pass h
  | If t a b p => exact tri_If (H.T cx c F _ _ _ _ h) (fun σ₁ z => hB _ _ _ z) fun σ₁ z => hB _ _ _ z
  | Assign ts v p => rcases ts with _ | ⟨t, _ | ⟨t', r⟩⟩ <;> first | exact False.elim h | exact asgS_ok H F h
  | While test body oe p =>
    cases oe with
    | cons => exact False.elim h
    | nil =>
      refine ex3 h fun I B n₀ hq0 => an4 hq0 fun h0 h1 h2 h3 => ?_; try clear hq0; try clear h
      exact tri_While I B h0 (fun n σ₁ z => H.T cx c F _ _ _ _ (h1 n σ₁ z)) (fun n σ₂ z => vBl_ok (fun st σ N h => H.S cx c F st σ N Rt noX h) _ _ _ (h2 n σ₂ z)) h3
  | For tgt iter body oe p =>
    cases oe with
    | cons => exact False.elim h
    | nil =>
      obtain ⟨h1, h⟩ := grd_iff h
      simp only [Bool.and_eq_true, Bool.not_eq_true'] at h1
      refine tri_For F.O h1.1 h1.2 (hE _ _ _ h) fun a σ₁ z => ?_
      obtain ⟨xs, e, z⟩ := itP_iff z
      exact ⟨xs, e, H.For cx c F _ _ _ _ _ _ z⟩
  | Raise e cs p =>
    cases e with
    | none => exact False.elim h
    | some e =>
      cases e with
      | Call f args kw cp =>
        cases f with
        | Name x xp =>
          cases kw <;> cases cs <;> try exact False.elim h
          obtain ⟨h1, h⟩ := grd_iff h
          simp only [Bool.and_eq_true, Bool.not_eq_true', beq_iff_eq] at h1
          obtain ⟨fv, e1, h⟩ := opt_iff h
          obtain ⟨q, e2, h⟩ := opt_iff h
          obtain ⟨e3, h4, h5⟩ := grd_iff h
          subst h4
          exact raise_ok H F h1.1.1 h1.1.2 h1.2 e1 e2 (Nat.le_of_ble_eq_true e3) h5
        | _ => exact False.elim h
      | _ => exact False.elim h
  | _ => exact False.elim h
theorem vFor_ok {V : V} (H : VOk W V) (F : Fit W cx c) {tgt : Expr} {body : List Stmt} : ∀ (xs : List Int) (σ : St), vFor V cx tgt body N Rt xs σ → ForT W c tgt body N Rt xs σ
  | [], σ, h => h
  | k :: r, σ, h => fun l O => by
    have F' := F.wex O
    intro s ρ m cm ce frz va R hv
    refine wpAny_mono (H.A cx _ F' _ _ _ _ _ h s ρ m cm ce frz va R hv) (fun _ s₁ zz => Qu.el zz fun ρ' m' cm' ce' frz' σ' x R' q => (Qu.mk ρ' m' cm' ce' frz' σ' x R' ?_)) fun _ _ z => z
    intro s ρ m cm ce frz R
    refine wpAny_mono (vBl_ok (c := c.wex l) (fun st σ N h => H.S cx _ F' st σ N Rt noX h) _ _ _ q s ρ m cm ce frz R) (fun f s₁ z => ?_) fun _ _ z => z
    cases f with
    | next =>
      refine Qu.el z fun ρ' m' cm' ce' frz' σ' x R' q => ?_
      exact (Qu.mk ρ' m' cm' ce' frz' σ' x R' (vFor_ok H F r σ' q))
    | ret v => exact z
    | brk => exact z
    | cont => exact z
end
noncomputable def v0 : V := ⟨fun _ _ _ _ _ => False, fun _ _ _ _ _ => False, fun _ _ _ _ _ _ => False, fun _ _ _ _ _ _ => False, fun _ _ _ _ _ _ _ => False⟩
noncomputable def vUp (U : V) : V := ⟨stepE U, stepT U, stepA U, stepS U, vFor U⟩
noncomputable def vAt (n : Nat) : V := Nat.rec v0 (fun _ U => vUp U) n
theorem vAt_ok (W : Wd) : ∀ n, VOk W (vAt n)
  | 0 => ⟨fun _ _ _ _ _ _ _ h => h.elim, fun _ _ _ _ _ _ _ h => h.elim, fun _ _ _ _ _ _ _ _ h => h.elim, fun _ _ _ _ _ _ _ _ h => h.elim, fun _ _ _ _ _ _ _ _ _ h => h.elim⟩
  | n + 1 => by
    have ih := vAt_ok W n
    exact ⟨fun _ _ F _ _ _ _ h => stepE_ok ih F h, fun _ _ F _ _ _ _ h => stepT_ok ih F h, fun _ _ F _ _ _ _ _ h => stepA_ok ih F h, fun _ _ F _ _ _ _ _ h => stepS_ok ih F h, fun _ _ F _ _ _ _ _ _ h => vFor_ok ih F _ _ h⟩
noncomputable def bodyOf : Stmt → List Stmt
  | .FunctionDef _ _ b _ _ _ _ _ _ _ => b
  | .ClassDef _ _ _ b _ _ _ _ _ _ _ => b
  | _ => []
noncomputable def scopeOf : Stmt → Scope
  | .FunctionDef _ _ _ _ _ _ sc _ _ _ => sc
  | _ => default
noncomputable def psOf : Stmt → List Str
  | .FunctionDef _ a _ _ _ _ _ _ _ _ => a.args.map (·.arg)
  | _ => []
noncomputable def F (i : Nat) : Stmt := PySem.Challenge.pw_np0077_01.main.body.getD i (.Pass ⟨0, 0, 0, 0⟩)
noncomputable def M (i j : Nat) : Stmt := (bodyOf (F i)).getD j (.Pass ⟨0, 0, 0, 0⟩)
noncomputable def vFn (m : Nat) (g : Gx) (rm : Nat) (lam : Option (Nat × Addr × Addr × Str)) (mr : Bool) (s : Stmt) : PT := fun as hp nx P X =>
  vBl (fun st σ N => (vAt m).S ⟨g, scopeOf s, rm, lam, mr⟩ st σ N (fun v σ => P v σ.hp σ.nxt) (fun e σ => X e σ.hp σ.nxt)) (bodyOf s) (frameSt (scopeOf s) (psOf s) as hp nx) (fun σ => P .none σ.hp σ.nxt)
structure Has (K : Frag) (a : Addr) (s : Stmt) (k : Nat) (ds : List (AV × Value)) (lam : Option (Nat × Addr × Addr × Str)) : Prop where
  ok : ∃ fd, FnOk K a fd (bodyOf s) (psOf s) k ds ∧ fd.scope = scopeOf s ∧ ∀ l, lam = some l → fd.code = .ref l.2.1 ∧ (fd.qualname ++ ".<locals>.") ++ "<lambda>" = l.2.2.2 ∧ codeHdIn K l.2.1 l.2.2.1 = true
theorem fn_ok {W : Wd} {g : Gx} {a : Addr} {s : Stmt} {k n m : Nat} {ds : List (AV × Value)} {lam : Option (Nat × Addr × Addr × Str)} {mr : Bool} {pt : PT} (hF : Has W.K a s k ds lam) (hg : GOk W g)
    (hb : ∀ as hp nx P X, pt as hp nx P X → as.length = k ∧ vFn m g n lam mr s (as ++ ds.map (·.1)) hp nx P X) : PTokC W (n + 1) (.ref a) pt := by
  refine Exists.elim hF.ok fun fd hq0 => an3 hq0 fun h1 h2 h3 => ?_; try clear hq0
  refine fn_sound h1 pt (fun as hp nx P X h => (hb as hp nx P X h).1) fun c O hc hn hi hcode hq as hp nx P X h => ?_
  have fit : Fit W ⟨g, scopeOf s, n, lam, mr⟩ c := ⟨O, hg, by exact hc ▸ h2.symm ▸ rfl, hn, fun l hl => by
    obtain ⟨q1, q2, q3⟩ := h3 l hl
    exact ⟨by exact hcode ▸ q1.symm ▸ rfl, by exact hq ▸ q2.symm ▸ rfl, q3⟩⟩
  have := (hb as hp nx P X h).2
  refine h2 ▸ ?_
  exact vBl_ok (fun st σ N h => (vAt_ok W m).S _ c fit st σ N _ _ h) _ _ _ this
noncomputable def en {α : Type} (x : String) (v : α) : Str × α := (Str.ofString x, v)
noncomputable def ss (l : List String) : List Str := l.map Str.ofString
noncomputable def glTab : List (Str × Value) := [en "LispSignal" (.ref 38), en "Marker" (.ref 114), en "Markers" (.ref 182), en "set_marker" (.ref 193), en "narrow" (.ref 200), en "widen" (.ref 207), en "is_narrowed" (.ref 214), en "SavedRestriction" (.ref 239), en "save_restriction" (.ref 250), en "SavedExcursion" (.ref 275), en "save_excursion" (.ref 286),
  en "GapText" (.ref 373), en "Buffer" (.ref 479), en "need_writable" (.ref 488), en "reached" (.ref 495), en "tell_ahead" (.ref 502), en "tell_behind" (.ref 509), en "text_out" (.ref 516), en "text_in" (.ref 523), en "hung_out" (.ref 530), en "hung_in" (.ref 537), en "put_in" (.ref 544), en "insert_at" (.ref 552), en "insert" (.ref 560), en "delete" (.ref 567), en "replace" (.ref 574),
  en "_law_deck" (.ref 579), en "_law_draw" (.ref 586), en "_law_first" (.ref 593), en "_law_next" (.ref 600), en "_law_put" (.ref 605), en "_law_changed" (.ref 610), en "_law_place" (.ref 615), en "_law_signs" (.ref 620), en "_law_told" (.ref 627), en "_law_is_so" (.ref 632), en "_law_with" (.ref 639), en "_law_edit" (.ref 644)]
noncomputable def blTab : List (Str × Value) := [en "abs" (.builtin "abs"), en "len" (.builtin "len"), en "min" (.builtin "min"), en "max" (.builtin "max"), en "sorted" (.builtin "sorted"), en "range" (.type "range"), en "list" (.type "list"), en "enumerate" (.type "enumerate")]
noncomputable def atTab : List (Addr × List Str) := [(114, ss ["number", "advances", "buffer", "position"]), (182, ss ["rows"]), (239, ss ["buffer", "first", "last"]), (275, ss ["buffer", "marker"]), (373, ss ["room", "cells", "gap_start", "gap_end"]),
  (479, ss ["number", "name", "text", "markers", "point", "begv", "zv", "mark", "is_live", "is_read_only", "ticks", "codes_ticks", "saved_ticks", "listeners", "undo", "props", "overlays", "locals", "syntax", "file"])]
noncomputable def meTab : List (Addr × List (Str × Addr)) := [(182, [en "numbers" 137, en "put" 144, en "drop" 151, en "inserted" 165, en "deleted" 172, en "replaced" 179]), (239, [en "undo" 236]), (275, [en "undo" 272]),
  (373, [en "size" 307, en "code" 314, en "codes" 321, en "move_gap" 328, en "widen_gap" 335, en "insert" 342, en "delete" 349]), (479, [en "begin" 413, en "end" 420, en "size" 427, en "code_at" 434, en "codes" 441, en "goto" 448, en "touch" 476])]
noncomputable def glF (x : Str) : Option Value := match glTab.lookup x with | some v => some v | none => blTab.lookup x
noncomputable def nlook {α : Type} (n : Nat) : List (Nat × α) → Option α
  | [] => none
  | (k, v) :: r => match Nat.beq k n with | true => some v | false => nlook n r
noncomputable def atF (C : Addr) (x : Str) : Bool := match nlook C atTab with | some l => l.any (fun y => y == x) | none => false
noncomputable def meF (C : Addr) (x : Str) : Option Addr := match nlook C meTab with | some l => l.lookup x | none => none
noncomputable def biF (s : String) : Option PT := if s = "abs" then some ptAbs else if s = "len" then some ptLen else if s = "min" then some ptMin else if s = "max" then some ptMax else if s = "sorted" then some ptSorted else if s = "list.pop" then some ptPop else if s = "list.index" then some ptIndex else if s = "dict.pop" then some ptDPop else none
noncomputable def tyF (s : String) : Option PT := if s = "range" then some ptRange else if s = "list" then some ptList else none
noncomputable def spF (l : List (Addr × Nat × PT)) : Value → Option (Nat × PT)
  | .ref a => nlook a l
  | .builtin s => (biF s).map fun p => (0, p)
  | .type s => (tyF s).map fun p => (0, p)
  | _ => none
noncomputable def gx (l : List (Addr × Nat × PT)) (exc : Option (Nat × Addr × PT)) : Gx := ⟨glF, atF, meF, spF l, some "_law_told", exc⟩
structure Base (W : Wd) : Prop where
  gl : ∀ e ∈ glTab, nsIn W.K mainGlobals e.1 = some (some e.2)
  bl : ∀ e ∈ blTab, nsIn W.K mainGlobals e.1 = some none ∧ bootBuiltins e.1 = some e.2 ∧ e.1 ≠ "__name__"
  at_ : ∀ e ∈ atTab, ∀ x ∈ e.2, attOk W.K e.1 x = true
  me : ∀ e ∈ meTab, ∀ x ∈ e.2, metOk W.K e.1 x.1 x.2 = true
  keep : ∀ e ∈ glTab, keepV W.K e.2 = true
  keepm : ∀ e ∈ meTab, ∀ x ∈ e.2, keepV W.K (.ref x.2) = true
  ls : W.LS = 38
  lsok : LSOk W 35
  lsget : lsGet W.K W.LS = true
  told : ToldOk W 627
theorem lookup_in {α : Type} {x : Str} {v : α} : ∀ {l : List (Str × α)}, l.lookup x = some v → (x, v) ∈ l
  | [], h => by cases h
  | (y, u) :: r, h => by
    rw [List.lookup_cons] at h
    split at h
    · rename_i q; cases h; obtain rfl : x = y := by simpa using q
      exact .head _
    · exact .tail _ (lookup_in h)
theorem nlook_in {α : Type} {n : Nat} {v : α} : ∀ {l : List (Nat × α)}, nlook n l = some v → (n, v) ∈ l
  | [], h => by cases h
  | (y, u) :: r, h => by
    unfold nlook at h
    split at h
    · rename_i q; cases h; obtain rfl : y = n := Nat.eq_of_beq_eq_true q
      exact .head _
    · exact .tail _ (nlook_in h)
theorem bi_ok {W : Wd} {s : String} {p : PT} (h : biF s = some p) : PTok W 0 (.builtin s) p := by
  unfold biF at h
  split at h
  · cases h; rename_i e; refine e ▸ ?_; exact abs_ok
  split at h
  · cases h; rename_i e; refine e ▸ ?_; exact len_ok
  split at h
  · cases h; rename_i e; refine e ▸ ?_; exact min_ok
  split at h
  · cases h; rename_i e; refine e ▸ ?_; exact max_ok
  split at h
  · cases h; rename_i e; refine e ▸ ?_; exact sorted_ok
  split at h
  · cases h; rename_i e; refine e ▸ ?_; exact pop_ok
  split at h
  · cases h; rename_i e; refine e ▸ ?_; exact index_ok
  split at h
  · cases h; rename_i e; refine e ▸ ?_; exact dpop_ok
  · cases h
theorem ty_ok {W : Wd} {s : String} {p : PT} (h : tyF s = some p) : PTok W 0 (.type s) p := by
  unfold tyF at h
  split at h
  · cases h; rename_i e; refine e ▸ ?_; exact range_ok
  split at h
  · cases h; rename_i e; refine e ▸ ?_; exact list_ok
  · cases h
noncomputable def Specs (W : Wd) (l : List (Addr × Nat × PT)) : Prop := ∀ e ∈ l, PTok W e.2.1 (.ref e.1) e.2.2 ∧ keepV W.K (.ref e.1) = true
theorem Specs.nil {W : Wd} : Specs W [] := fun e h => by cases h
theorem Specs.cons {W : Wd} {l : List (Addr × Nat × PT)} {a : Addr} {n : Nat} {p : PT} (h : PTok W n (.ref a) p) (k : keepV W.K (.ref a) = true) (H : Specs W l) : Specs W ((a, n, p) :: l) := fun e he => by
  rcases List.mem_cons.mp he with rfl | he
  · exact ⟨h, k⟩
  · exact H e he
theorem gx_ok {W : Wd} {l : List (Addr × Nat × PT)} {exc : Option (Nat × Addr × PT)} (B : Base W) (H : Specs W l) (hx : ∀ q, exc = some q → q.2.1 = 38 ∧ PTok W q.1 (.ref 35) q.2.2) : GOk W (gx l exc) where
  gl := fun x v h => by
    change glF x = some v at h
    unfold glF at h
    split at h
    · rename_i u hu; cases h; exact .inl (B.gl _ (lookup_in hu))
    · exact .inr (B.bl _ (lookup_in h))
  at_ := fun C x h => by
    change atF C x = true at h
    unfold atF at h
    split at h
    · rename_i l hl
      obtain ⟨y, hy, e⟩ := List.any_eq_true.mp h
      obtain rfl : y = x := by simpa using e
      exact B.at_ _ (nlook_in hl) y hy
    · cases h
  met := fun C x f h => by
    change meF C x = some f at h
    unfold meF at h
    split at h
    · rename_i l hl; exact B.me _ (nlook_in hl) _ (lookup_in h)
    · cases h
  spec := fun v q h => by
    change spF l v = some q at h
    unfold spF at h
    split at h
    · exact H _ (nlook_in h)
    · obtain ⟨p, hp, rfl⟩ := Option.map_eq_some_iff.mp h; exact ⟨bi_ok hp, rfl⟩
    · obtain ⟨p, hp, rfl⟩ := Option.map_eq_some_iff.mp h; exact ⟨ty_ok hp, rfl⟩
    · cases h
  told := fun y h => by
    change some ("_law_told" : Str) = some y at h
    cases h
    exact ex2i 627 35 ⟨B.told, B.lsok, B.lsget, B.gl (en "_law_told" (.ref 627)) (List.mem_of_getElem? (i := 34) rfl)⟩
  exc := fun q h => by
    obtain ⟨h1, h2⟩ := hx q h
    exact ⟨35, by exact h1 ▸ B.ls.symm ▸ rfl, B.lsok, h2, by refine B.ls ▸ ?_; exact B.keep (en "LispSignal" (.ref 38)) (.head _)⟩
noncomputable def qE : Str := "_law_edit.<locals>.<lambda>"
noncomputable def qL : Str := "law.<locals>.<lambda>"
noncomputable def lay (dk cells : List Int) (gs ge p b z tk ck : Int) (rows : List (Int × AV)) (rest : List (Nat × AO)) : List (Nat × AO) :=
  (0, .tab 641 qE) :: (1, .tab 646 qL) :: (2, .arr dk) ::
  (3, .inst 479 [en "number" (.int 1), en "name" (.str "text"), en "text" (.ref 4), en "markers" (.ref 6), en "point" (.int p), en "begv" (.int b), en "zv" (.int z), en "mark" .none, en "is_live" (.bool true), en "is_read_only" (.bool false),
    en "ticks" (.int tk), en "codes_ticks" (.int ck), en "saved_ticks" (.int 1), en "listeners" (.lst []), en "undo" .none, en "props" .none, en "overlays" .none, en "locals" .none, en "syntax" .none, en "file" .none]) ::
  (4, .inst 373 [en "room" (.int 8), en "cells" (.ref 5), en "gap_start" (.int gs), en "gap_end" (.int ge)]) :: (5, .arr cells) :: (6, .inst 182 [en "rows" (.ref 7)]) :: (7, .dict rows) :: rest
structure Gp (cells : List Int) (gs ge : Int) (T : List Int) (B : Nat) : Prop where
  h0 : 0 ≤ gs
  h1 : gs ≤ ge
  h2 : ge ≤ cells.length
  h3 : cells.length ≤ B
  h4 : T = cells.take gs.toNat ++ cells.drop ge.toNat
theorem gplen {n : Nat} {gs ge : Int} (h0 : 0 ≤ gs) (h1 : gs ≤ ge) (h2 : ge ≤ n) : (n : Int) - ge + gs = (min gs.toNat n + (n - ge.toNat) : Nat) := by
  obtain ⟨g, rfl⟩ := Int.eq_ofNat_of_zero_le h0
  obtain ⟨e, rfl⟩ := Int.eq_ofNat_of_zero_le (Int.le_trans h0 h1)
  exact (Int.toNat_natCast ..) ▸ (Int.toNat_natCast ..) ▸ (Nat.min_eq_left (Nat.le_trans (Int.ofNat_le.mp h1) (Int.ofNat_le.mp h2))).symm ▸ (Int.natCast_add ..) ▸ (Int.natCast_sub (Int.ofNat_le.mp h2)).symm ▸ (Int.add_comm ..) ▸ rfl
theorem Gp.len {cells : List Int} {gs ge : Int} {T : List Int} {B : Nat} (h : Gp cells gs ge T B) : (cells.length : Int) - ge + gs = T.length := by
  refine h.h4 ▸ List.length_append ▸ List.length_take ▸ List.length_drop ▸ ?_
  exact gplen h.h0 h.h1 h.h2
noncomputable abbrev PRes := AV → List (Nat × AO) → Nat → Prop
noncomputable def clTab : List (Addr × Addr) := [(114, 90), (182, 130), (239, 228), (275, 264), (373, 300), (479, 392)]
structure Pg (W : Wd) : Prop extends Base W where
  cls : ∀ e ∈ clTab, clsOk W.K e.1 e.2 = true
  f35 : Has W.K 35 (M 2 0) 3 [] none
  f90 : Has W.K 90 (M 6 0) 3 [] none
  f130 : Has W.K 130 (M 7 0) 1 [] none
  f137 : Has W.K 137 (M 7 1) 1 [] none
  f144 : Has W.K 144 (M 7 2) 3 [] none
  f151 : Has W.K 151 (M 7 3) 2 [] none
  f165 : Has W.K 165 (M 7 5) 4 [] none
  f172 : Has W.K 172 (M 7 6) 3 [] none
  f179 : Has W.K 179 (M 7 7) 4 [] none
  f228 : Has W.K 228 (M 14 0) 4 [] none
  f236 : Has W.K 236 (M 14 1) 1 [(.none, .none)] none
  f264 : Has W.K 264 (M 16 0) 3 [] none
  f272 : Has W.K 272 (M 16 1) 1 [(.none, .none)] none
  f300 : Has W.K 300 (M 19 0) 3 [] none
  f307 : Has W.K 307 (M 19 1) 1 [] none
  f314 : Has W.K 314 (M 19 2) 2 [] none
  f321 : Has W.K 321 (M 19 3) 3 [] none
  f328 : Has W.K 328 (M 19 4) 2 [] none
  f335 : Has W.K 335 (M 19 5) 2 [] none
  f342 : Has W.K 342 (M 19 6) 3 [] none
  f349 : Has W.K 349 (M 19 7) 3 [] none
  f392 : ∃ t, Has W.K 392 (M 21 0) 3 [(.int 8, .int 8 t)] none
  f413 : Has W.K 413 (M 21 3) 1 [] none
  f420 : Has W.K 420 (M 21 4) 1 [] none
  f427 : Has W.K 427 (M 21 5) 1 [] none
  f434 : Has W.K 434 (M 21 6) 2 [] none
  f441 : Has W.K 441 (M 21 7) 3 [] none
  f448 : Has W.K 448 (M 21 8) 2 [] none
  f476 : Has W.K 476 (M 21 12) 2 [] none
  f193 : Has W.K 193 (F 9) 3 [] none
  f200 : Has W.K 200 (F 11) 3 [] none
  f207 : Has W.K 207 (F 12) 1 [] none
  f214 : Has W.K 214 (F 13) 1 [] none
  f250 : Has W.K 250 (F 15) 3 [] none
  f286 : Has W.K 286 (F 17) 2 [] none
  f488 : Has W.K 488 (F 23) 1 [] none
  f495 : Has W.K 495 (F 24) 3 [] none
  f502 : Has W.K 502 (F 25) 3 [] none
  f509 : Has W.K 509 (F 26) 4 [] none
  f516 : Has W.K 516 (F 27) 3 [] none
  f523 : Has W.K 523 (F 28) 3 [] none
  f530 : Has W.K 530 (F 29) 3 [] none
  f537 : Has W.K 537 (F 30) 4 [] none
  f544 : Has W.K 544 (F 31) 5 [] none
  f552 : Has W.K 552 (F 32) 3 [(.bool false, .bool false)] none
  f560 : Has W.K 560 (F 33) 2 [(.bool false, .bool false)] none
  f567 : Has W.K 567 (F 34) 3 [] none
  f574 : Has W.K 574 (F 35) 4 [] none
  f579 : Has W.K 579 (F 37) 1 [] none
  f586 : Has W.K 586 (F 38) 2 [] none
  f593 : Has W.K 593 (F 39) 2 [] none
  f600 : Has W.K 600 (F 40) 2 [] none
  f605 : Has W.K 605 (F 41) 4 [] none
  f610 : Has W.K 610 (F 42) 5 [] none
  f615 : Has W.K 615 (F 43) 2 [] none
  f620 : Has W.K 620 (F 44) 1 [] none
  f632 : Has W.K 632 (F 46) 4 [] none
  f639 : Has W.K 639 (F 47) 4 [] none
  f644 : Has W.K 644 (F 48) 6 [] (some (0, 643, 641, qE))
  f649 : Has W.K 649 (F 49) 1 [] (some (1, 648, 646, qL))
noncomputable abbrev XRes := Str → List (Nat × AO) → Nat → Prop
noncomputable def ptTSize : PT := fun as hp nx P X => ∃ dk cells gs ge p b z tk ck rows rest T B, as = [.ref 4] ∧ hp = lay dk cells gs ge p b z tk ck rows rest ∧ Gp cells gs ge T B ∧ B ≤ 65536 ∧ P (.int (T.length : Int)) hp nx
noncomputable def ptTCode : PT := fun as hp nx P X => ∃ dk cells gs ge p b z tk ck rows rest T B at_, as = [.ref 4, .int at_] ∧ hp = lay dk cells gs ge p b z tk ck rows rest ∧ Gp cells gs ge T B ∧ B ≤ 65536 ∧ (0 ≤ at_ ∧ at_ < (T.length : Int)) ∧ P (.int (T.getD at_.toNat 0)) hp nx
noncomputable def ptTCodes : PT := fun as hp nx P X => ∃ dk cells gs ge p b z tk ck rows rest T B s e, as = [.ref 4, .int s, .int e] ∧ hp = lay dk cells gs ge p b z tk ck rows rest ∧ Gp cells gs ge T B ∧ B ≤ 65536 ∧ (0 ≤ s ∧ s ≤ e ∧ e ≤ (T.length : Int)) ∧ P (.lst ((T.drop s.toNat).take (e - s).toNat)) hp nx
noncomputable def ptTMove : PT := fun as hp nx P X => ∃ dk cells gs ge p b z tk ck rows rest T B at_, as = [.ref 4, .int at_] ∧ hp = lay dk cells gs ge p b z tk ck rows rest ∧ Gp cells gs ge T B ∧ B ≤ 65536 ∧ (0 ≤ at_ ∧ at_ ≤ (T.length : Int)) ∧
  ∀ cells' ge', Gp cells' at_ ge' T B → ge' - at_ = ge - gs → P .none (lay dk cells' at_ ge' p b z tk ck rows rest) nx
noncomputable def ptTWide : PT := fun as hp nx P X => ∃ dk cells gs ge p b z tk ck rows rest T B k, as = [.ref 4, .int k] ∧ hp = lay dk cells gs ge p b z tk ck rows rest ∧ Gp cells gs ge T B ∧ B ≤ 60000 ∧ (0 ≤ k ∧ k ≤ 1000) ∧
  ∀ cells' ge', Gp cells' gs ge' T (B + k.toNat + 8) → k ≤ ge' - gs → P .none (lay dk cells' gs ge' p b z tk ck rows rest) nx
noncomputable def ptTIns : PT := fun as hp nx P X => ∃ dk cells gs ge p b z tk ck rows rest T B at_ cs, as = [.ref 4, .int at_, .lst cs] ∧ hp = lay dk cells gs ge p b z tk ck rows rest ∧ Gp cells gs ge T B ∧ B ≤ 60000 ∧ (0 ≤ at_ ∧ at_ ≤ (T.length : Int)) ∧ cs.length ≤ 1000 ∧
  ∀ cells' gs' ge', Gp cells' gs' ge' (T.take at_.toNat ++ cs ++ T.drop at_.toNat) (B + cs.length + 8) → P .none (lay dk cells' gs' ge' p b z tk ck rows rest) nx
noncomputable def ptTDel : PT := fun as hp nx P X => ∃ dk cells gs ge p b z tk ck rows rest T B s e, as = [.ref 4, .int s, .int e] ∧ hp = lay dk cells gs ge p b z tk ck rows rest ∧ Gp cells gs ge T B ∧ B ≤ 60000 ∧ (0 ≤ s ∧ s ≤ e ∧ e ≤ (T.length : Int)) ∧
  ∀ cells' gs' ge', Gp cells' gs' ge' (T.take s.toNat ++ T.drop e.toNat) B → P (.lst ((T.drop s.toNat).take (e - s).toNat)) (lay dk cells' gs' ge' p b z tk ck rows rest) nx
noncomputable def sp1 : List (Addr × Nat × PT) := [(321, 1, ptTCodes), (328, 1, ptTMove), (335, 1, ptTWide)]
theorem vc_tsize (dk cells : List Int) (gs ge p b z tk ck : Int) (rows : List (Int × AV)) (rest : List (Nat × AO)) (nx : Nat) (P : PRes) (X : XRes) : (vFn 14 (gx [] none) 0 none false (M 19 1) [.ref 4] (lay dk cells gs ge p b z tk ck rows rest) nx P X) = (
cells.length ≤ 1099511627776 ∧ P (AV.int (↑cells.length - ge + gs)) (lay dk cells gs ge p b z tk ck rows rest) nx) := by kernel_rfl
theorem vc_tcode (dk cells : List Int) (gs ge p b z tk ck : Int) (rows : List (Int × AV)) (rest : List (Nat × AO)) (nx : Nat) (P : PRes) (X : XRes) (at_ : Int) : (vFn 14 (gx [] none) 0 none false (M 19 2) [.ref 4, .int at_] (lay dk cells gs ge p b z tk ck rows rest) nx P X) = (
br (decide (at_ < gs)) (((0 : Int) ≤ at_ ∧ at_ < ↑cells.length ∧ cells.length ≤ 16777216) ∧ P (AV.int (cells.getD at_.toNat (0 : Int))) (lay dk cells gs ge p b z tk ck rows rest) nx)
 (((0 : Int) ≤ at_ - gs + ge ∧ at_ - gs + ge < ↑cells.length ∧ cells.length ≤ 16777216) ∧ P (AV.int (cells.getD (at_ - gs + ge).toNat (0 : Int))) (lay dk cells gs ge p b z tk ck rows rest) nx)) := by kernel_rfl
theorem vc_tcodes (dk cells : List Int) (gs ge p b z tk ck : Int) (rows : List (Int × AV)) (rest : List (Nat × AO)) (nx : Nat) (P : PRes) (X : XRes) (s e : Int) : (vFn 14 (gx [] none) 0 none false (M 19 3) [.ref 4, .int s, .int e] (lay dk cells gs ge p b z tk ck rows rest) nx P X) = (
br (decide (e ≤ gs)) (cells.length ≤ 16777216 ∧ ((0 : Int) ≤ s ∧ (0 : Int) ≤ e) ∧ P (AV.lst (List.take (e - s).toNat (List.drop s.toNat cells))) (lay dk cells gs ge p b z tk ck rows rest) nx)
 (br (decide (s ≥ gs)) (cells.length ≤ 16777216 ∧ ((0 : Int) ≤ s + (ge - gs) ∧ (0 : Int) ≤ e + (ge - gs)) ∧ P (AV.lst (List.take (e + (ge - gs) - (s + (ge - gs))).toNat (List.drop (s + (ge - gs)).toNat cells))) (lay dk cells gs ge p b z tk ck rows rest) nx)
 (cells.length ≤ 16777216 ∧
 ((0 : Int) ≤ s ∧ (0 : Int) ≤ gs) ∧
 cells.length ≤ 16777216 ∧
 ((0 : Int) ≤ ge ∧ (0 : Int) ≤ e + (ge - gs)) ∧
 (List.take (gs - s).toNat (List.drop s.toNat cells)).length + (List.take (e + (ge - gs) - ge).toNat (List.drop ge.toNat cells)).length ≤ 16777216 ∧
 P (AV.lst (List.take (gs - s).toNat (List.drop s.toNat cells) ++ List.take (e + (ge - gs) - ge).toNat (List.drop ge.toNat cells))) (lay dk cells gs ge p b z tk ck rows rest) nx))) := by kernel_rfl
theorem vc_tmove (dk cells : List Int) (gs ge p b z tk ck : Int) (rows : List (Int × AV)) (rest : List (Nat × AO)) (nx : Nat) (P : PRes) (X : XRes) (at_ : Int) : (vFn 14 (gx [] none) 0 none false (M 19 4) [.ref 4, .int at_] (lay dk cells gs ge p b z tk ck rows rest) nx P X) = (
br (decide (at_ < gs))
 (cells.length ≤ 16777216 ∧
 ((0 : Int) ≤ at_ ∧ (0 : Int) ≤ gs) ∧
 (List.take (gs - at_).toNat (List.drop at_.toNat cells)).length ≤ 1099511627776 ∧
 (((0 : Int) ≤ ge - ↑(List.take (gs - at_).toNat (List.drop at_.toNat cells)).length ∧ ge - ↑(List.take (gs - at_).toNat (List.drop at_.toNat cells)).length ≤ ge ∧ ge ≤ ↑cells.length) ∧
 cells.length ≤ 1048576 ∧ (List.take (gs - at_).toNat (List.drop at_.toNat cells)).length ≤ 1048576) ∧
 (List.take (gs - at_).toNat (List.drop at_.toNat cells)).length ≤ 1099511627776 ∧
 P AV.none
 (lay dk (List.take (ge - ↑(List.take (gs - at_).toNat (List.drop at_.toNat cells)).length).toNat cells ++ List.take (gs - at_).toNat (List.drop at_.toNat cells) ++ List.drop ge.toNat cells) at_ (ge - ↑(List.take (gs - at_).toNat (List.drop at_.toNat cells)).length) p b z tk ck rows
 rest)
 nx)
 (cells.length ≤ 16777216 ∧
 ((0 : Int) ≤ ge ∧ (0 : Int) ≤ ge + at_ - gs) ∧
 (List.take (ge + at_ - gs - ge).toNat (List.drop ge.toNat cells)).length ≤ 1099511627776 ∧
 (((0 : Int) ≤ gs ∧ gs ≤ gs + ↑(List.take (ge + at_ - gs - ge).toNat (List.drop ge.toNat cells)).length ∧ gs + ↑(List.take (ge + at_ - gs - ge).toNat (List.drop ge.toNat cells)).length ≤ ↑cells.length) ∧
 cells.length ≤ 1048576 ∧ (List.take (ge + at_ - gs - ge).toNat (List.drop ge.toNat cells)).length ≤ 1048576) ∧
 (List.take (ge + at_ - gs - ge).toNat (List.drop ge.toNat cells)).length ≤ 1099511627776 ∧
 P AV.none
 (lay dk (List.take gs.toNat cells ++ List.take (ge + at_ - gs - ge).toNat (List.drop ge.toNat cells) ++ List.drop (gs + ↑(List.take (ge + at_ - gs - ge).toNat (List.drop ge.toNat cells)).length).toNat cells) at_
 (ge + ↑(List.take (ge + at_ - gs - ge).toNat (List.drop ge.toNat cells)).length) p b z tk ck rows rest)
 nx)) := by kernel_rfl
theorem vc_twide (dk cells : List Int) (gs ge p b z tk ck : Int) (rows : List (Int × AV)) (rest : List (Nat × AO)) (nx : Nat) (P : PRes) (X : XRes) (k : Int) : (vFn 14 (gx [] none) 0 none false (M 19 5) [.ref 4, .int k] (lay dk cells gs ge p b z tk ck rows rest) nx P X) = (
br (decide (k - (ge - gs) > (0 : Int)))
 (1 ≤ 1000 ∧
 ((0 : Int) ≤ k - (ge - gs) + (8 : Int) ∧ k - (ge - gs) + (8 : Int) ≤ (2 : Int) ^ (20 : Nat)) ∧
 (((0 : Int) ≤ ge ∧ ge ≤ ge ∧ ge ≤ ↑cells.length) ∧ cells.length ≤ 1048576 ∧ (List.replicate (k - (ge - gs) + (8 : Int)).toNat (0 : Int)).length ≤ 1048576) ∧
 P AV.none (lay dk (List.take ge.toNat cells ++ List.replicate (k - (ge - gs) + (8 : Int)).toNat (0 : Int) ++ List.drop ge.toNat cells) gs (ge + (k - (ge - gs)) + (8 : Int)) p b z tk ck rows rest) nx)
 (P AV.none (lay dk cells gs ge p b z tk ck rows rest) nx)) := by kernel_rfl
theorem vc_tins (dk cells : List Int) (gs ge p b z tk ck : Int) (rows : List (Int × AV)) (rest : List (Nat × AO)) (nx : Nat) (P : PRes) (X : XRes) (at_ : Int) (cs : List Int) : (vFn 14 (gx sp1 none) 1 none false (M 19 6) [.ref 4, .int at_, .lst cs] (lay dk cells gs ge p b z tk ck rows rest) nx P X) = (
cs.length ≤ 1099511627776 ∧
 ∃ dk_1 cells_1 gs_1 ge_1 p_1 b_1 z_1 tk_1 ck_1 rows_1 rest_1 T B k,
 [AV.ref 4, AV.int ↑cs.length] = [AV.ref 4, AV.int k] ∧
 lay dk cells gs ge p b z tk ck rows rest = lay dk_1 cells_1 gs_1 ge_1 p_1 b_1 z_1 tk_1 ck_1 rows_1 rest_1 ∧
 Gp cells_1 gs_1 ge_1 T B ∧
 B ≤ 60000 ∧
 ((0 : Int) ≤ k ∧ k ≤ (1000 : Int)) ∧
 ∀ (cells' : List Int) (ge' : Int),
 Gp cells' gs_1 ge' T (B + k.toNat + (8 : Nat)) →
 k ≤ ge' - gs_1 →
 ∃ dk cells gs ge p b z tk ck rows rest T B at__1,
 [AV.ref 4, AV.int at_] = [AV.ref 4, AV.int at__1] ∧
 lay dk_1 cells' gs_1 ge' p_1 b_1 z_1 tk_1 ck_1 rows_1 rest_1 = lay dk cells gs ge p b z tk ck rows rest ∧
 Gp cells gs ge T B ∧
 B ≤ 65536 ∧
 ((0 : Int) ≤ at__1 ∧ at__1 ≤ ↑T.length) ∧
 ∀ (cells' : List Int) (ge' : Int),
 Gp cells' at__1 ge' T B →
 ge' - at__1 = ge - gs →
 cs.length ≤ 1099511627776 ∧
 (((0 : Int) ≤ at_ ∧ at_ ≤ at_ + ↑cs.length ∧ at_ + ↑cs.length ≤ ↑cells'.length) ∧ cells'.length ≤ 1048576 ∧ cs.length ≤ 1048576) ∧
 cs.length ≤ 1099511627776 ∧ P AV.none (lay dk (List.take at_.toNat cells' ++ cs ++ List.drop (at_ + ↑cs.length).toNat cells') (at_ + ↑cs.length) ge' p b z tk ck rows rest) nx) := by kernel_rfl
theorem vc_tdel (dk cells : List Int) (gs ge p b z tk ck : Int) (rows : List (Int × AV)) (rest : List (Nat × AO)) (nx : Nat) (P : PRes) (X : XRes) (s e : Int) : (vFn 14 (gx sp1 none) 1 none false (M 19 7) [.ref 4, .int s, .int e] (lay dk cells gs ge p b z tk ck rows rest) nx P X) = (
∃ dk_1 cells_1 gs_1 ge_1 p_1 b_1 z_1 tk_1 ck_1 rows_1 rest_1 T B s_1 e_1,
 [AV.ref 4, AV.int s, AV.int e] = [AV.ref 4, AV.int s_1, AV.int e_1] ∧
 lay dk cells gs ge p b z tk ck rows rest = lay dk_1 cells_1 gs_1 ge_1 p_1 b_1 z_1 tk_1 ck_1 rows_1 rest_1 ∧
 Gp cells_1 gs_1 ge_1 T B ∧
 B ≤ 65536 ∧
 ((0 : Int) ≤ s_1 ∧ s_1 ≤ e_1 ∧ e_1 ≤ ↑T.length) ∧
 br (decide (e < gs))
 (∃ dk_2 cells_2 gs_2 ge_2 p_2 b_2 z_2 tk_2 ck_2 rows_2 rest_2 T_1 B at_,
 [AV.ref 4, AV.int e] = [AV.ref 4, AV.int at_] ∧
 lay dk cells gs ge p b z tk ck rows rest = lay dk_2 cells_2 gs_2 ge_2 p_2 b_2 z_2 tk_2 ck_2 rows_2 rest_2 ∧
 Gp cells_2 gs_2 ge_2 T_1 B ∧
 B ≤ 65536 ∧
 ((0 : Int) ≤ at_ ∧ at_ ≤ ↑T_1.length) ∧
 ∀ (cells' : List Int) (ge' : Int),
 Gp cells' at_ ge' T_1 B →
 ge' - at_ = ge_2 - gs_2 →
 br (decide (s > at_))
 (∃ dk cells gs ge p b z tk ck rows rest T_2 B at__1,
 [AV.ref 4, AV.int s] = [AV.ref 4, AV.int at__1] ∧
 lay dk_2 cells' at_ ge' p_2 b_2 z_2 tk_2 ck_2 rows_2 rest_2 = lay dk cells gs ge p b z tk ck rows rest ∧
 Gp cells gs ge T_2 B ∧
 B ≤ 65536 ∧
 ((0 : Int) ≤ at__1 ∧ at__1 ≤ ↑T_2.length) ∧
 ∀ (cells' : List Int) (ge' : Int), Gp cells' at__1 ge' T_2 B → ge' - at__1 = ge - gs → P (AV.lst (List.take (e_1 - s_1).toNat (List.drop s_1.toNat T))) (lay dk cells' s (ge' + e - at__1) p b z tk ck rows rest) nx)
 (P (AV.lst (List.take (e_1 - s_1).toNat (List.drop s_1.toNat T))) (lay dk_2 cells' s (ge' + e - at_) p_2 b_2 z_2 tk_2 ck_2 rows_2 rest_2) nx))
 (br (decide (s > gs))
 (∃ dk_2 cells_2 gs_2 ge_2 p_2 b_2 z_2 tk_2 ck_2 rows_2 rest_2 T_1 B at_,
 [AV.ref 4, AV.int s] = [AV.ref 4, AV.int at_] ∧
 lay dk cells gs ge p b z tk ck rows rest = lay dk_2 cells_2 gs_2 ge_2 p_2 b_2 z_2 tk_2 ck_2 rows_2 rest_2 ∧
 Gp cells_2 gs_2 ge_2 T_1 B ∧
 B ≤ 65536 ∧
 ((0 : Int) ≤ at_ ∧ at_ ≤ ↑T_1.length) ∧ ∀ (cells' : List Int) (ge' : Int), Gp cells' at_ ge' T_1 B → ge' - at_ = ge_2 - gs_2 → P (AV.lst (List.take (e_1 - s_1).toNat (List.drop s_1.toNat T))) (lay dk_2 cells' s (ge' + e - at_) p_2 b_2 z_2 tk_2 ck_2 rows_2 rest_2) nx)
 (P (AV.lst (List.take (e_1 - s_1).toNat (List.drop s_1.toNat T))) (lay dk cells s (ge + e - gs) p b z tk ck rows rest) nx))) := by kernel_rfl
theorem getD_app {T : List Int} {A C : List Int} (h : T = A ++ C) (i : Nat) : T.getD i 0 = if i < A.length then A.getD i 0 else C.getD (i - A.length) 0 := by
  subst h
  simp only [List.getD, List.getElem?_append]
  split <;> rfl
theorem getD_take {c : List Int} {n i : Nat} (h : i < n) : (c.take n).getD i 0 = c.getD i 0 := by simp only [List.getD, List.getElem?_take, if_pos h]
theorem getD_drop {c : List Int} {n i : Nat} : (c.drop n).getD i 0 = c.getD (n + i) 0 := by simp only [List.getD, List.getElem?_drop]
theorem takeL {c : List Int} {n : Nat} (h : n ≤ c.length) : (c.take n).length = n := by refine List.length_take ▸ ?_; exact Nat.min_eq_left h
theorem tdropL {c : List Int} {n k : Nat} (h : n + k ≤ c.length) : ((c.drop n).take k).length = k := by refine List.length_take ▸ List.length_drop ▸ ?_; exact Nat.min_eq_left (Nat.le_sub_of_add_le' h)
theorem mv1 (c : List Int) {a g e : Nat} (h1 : a < g) (h2 : g ≤ e) (h3 : e ≤ c.length) : (c.take (e - (g - a)) ++ (c.drop a).take (g - a) ++ c.drop e).take a ++ (c.take (e - (g - a)) ++ (c.drop a).take (g - a) ++ c.drop e).drop (e - (g - a)) = c.take g ++ c.drop e := by
  have k1 : a ≤ e - (g - a) := by lia -abstractProof
  have l1 : (c.take (e - (g - a))).length = e - (g - a) := takeL (Nat.le_trans (Nat.sub_le ..) h3)
  have e1 : (c.take (e - (g - a)) ++ (c.drop a).take (g - a) ++ c.drop e).take a = c.take a := by
    exact (List.append_assoc ..) ▸ List.take_append_of_le_length (by rw [l1]; exact k1) ▸ List.take_take ▸ (Nat.min_eq_left k1).symm ▸ rfl
  have e2 : (c.take (e - (g - a)) ++ (c.drop a).take (g - a) ++ c.drop e).drop (e - (g - a)) = (c.drop a).take (g - a) ++ c.drop e := by
    exact (List.append_assoc ..) ▸ List.drop_append_of_le_length (Nat.le_of_eq l1.symm) ▸ List.drop_of_length_le (Nat.le_of_eq l1) ▸ (List.nil_append ..) ▸ rfl
  refine e1 ▸ e2 ▸ (List.append_assoc ..) ▸ ?_
  congr 1
  have : g = a + (g - a) := (Nat.add_sub_of_le (Nat.le_of_lt h1)).symm
  conv => rhs; rw [this, List.take_add]
theorem mv2 (c : List Int) {a g e : Nat} (h1 : g ≤ a) (h2 : g ≤ e) (h3 : e + (a - g) ≤ c.length) : (c.take g ++ (c.drop e).take (a - g) ++ c.drop a).take a ++ (c.take g ++ (c.drop e).take (a - g) ++ c.drop a).drop (e + (a - g)) = c.take g ++ c.drop e := by
  have l3 : (c.take g ++ (c.drop e).take (a - g)).length = a := by refine List.length_append ▸ (takeL (Nat.le_trans h2 (Nat.le_trans (Nat.le_add_right ..) h3))).symm ▸ (tdropL h3).symm ▸ ?_; exact Nat.add_sub_of_le h1
  have k : a ≤ e + (a - g) := by lia -abstractProof
  have e1 : (c.take g ++ (c.drop e).take (a - g) ++ c.drop a).take a = c.take g ++ (c.drop e).take (a - g) := by
    exact List.take_append_of_le_length (Nat.le_of_eq l3.symm) ▸ (List.take_of_length_le (Nat.le_of_eq l3)).symm ▸ rfl
  have e2 : (c.take g ++ (c.drop e).take (a - g) ++ c.drop a).drop (e + (a - g)) = c.drop (e + (a - g)) := by
    exact List.drop_append ▸ List.drop_of_length_le (by rw [l3]; exact k) ▸ (List.nil_append ..) ▸ List.drop_drop.symm ▸ l3.symm ▸ (Nat.add_sub_of_le k).symm ▸ rfl
  refine e1.symm ▸ e2 ▸ (List.append_assoc ..) ▸ ?_
  congr 1
  exact List.drop_drop ▸ (List.take_append_drop ..) ▸ rfl
theorem Gp.nat {c : List Int} {g e : Int} {T : List Int} {B : Nat} (G : Gp c g e T B) : ∃ g' e' : Nat, g = g' ∧ e = e' ∧ g' ≤ e' ∧ e' ≤ c.length ∧ c.length ≤ B ∧ T = c.take g' ++ c.drop e' := by
  obtain ⟨g0, g1, g2, g3, g4⟩ := G
  obtain ⟨g, rfl⟩ := Int.eq_ofNat_of_zero_le g0
  obtain ⟨e, rfl⟩ := Int.eq_ofNat_of_zero_le (Int.le_trans g0 g1)
  exact ex2i g e ⟨rfl, rfl, Int.ofNat_le.mp g1, Int.ofNat_le.mp g2, g3, g4⟩
theorem Gp.of {c : List Int} {g e : Nat} {T : List Int} {B : Nat} (h1 : g ≤ e) (h2 : e ≤ c.length) (h3 : c.length ≤ B) (h4 : T = c.take g ++ c.drop e) : Gp c g e T B := ⟨Int.natCast_nonneg _, Int.ofNat_le.mpr h1, Int.ofNat_le.mpr h2, h3, h4⟩
theorem gp_move1 {c : List Int} {g e a : Nat} {T : List Int} {B : Nat} (g1 : g ≤ e) (g2 : e ≤ c.length) (g3 : c.length ≤ B) (g4 : T = c.take g ++ c.drop e) (h1 : a < g) : Gp (c.take (e - (g - a)) ++ (c.drop a).take (g - a) ++ c.drop e) a ((e - (g - a) : Nat) : Int) T B := by
  have ln : (c.take (e - (g - a)) ++ (c.drop a).take (g - a) ++ c.drop e).length = c.length := by
    exact List.length_append ▸ List.length_append.symm ▸ (takeL (Nat.le_trans (Nat.sub_le ..) g2)).symm ▸ (tdropL (by rw [Nat.add_sub_of_le (Nat.le_of_lt h1)]; exact Nat.le_trans g1 g2)).symm ▸ List.length_drop ▸ (Nat.sub_add_cancel (Nat.le_trans (Nat.sub_le ..) g1)).symm ▸ (Nat.add_sub_of_le g2).symm ▸ rfl
  exact .of (by lia -abstractProof) (by refine ln ▸ ?_; exact Nat.le_trans (Nat.sub_le ..) g2) (by refine ln ▸ ?_; exact g3) (by exact g4 ▸ (mv1 c h1 g1 g2).symm ▸ rfl)
theorem Gp.move1 {c : List Int} {g e a : Int} {T : List Int} {B : Nat} (G : Gp c g e T B) (h0 : 0 ≤ a) (h1 : a < g) :
    Gp (c.take (e - (((c.drop a.toNat).take (g - a).toNat).length : Int)).toNat ++ (c.drop a.toNat).take (g - a).toNat ++ c.drop e.toNat) a (e - (((c.drop a.toNat).take (g - a).toNat).length : Int)) T B := by
  refine ex2 G.nat fun g e hq0 => an6 hq0 fun qe2 qe3 g1 g2 g3 g4 => ?_; try clear hq0; subst qe2; subst qe3
  obtain ⟨a, rfl⟩ := Int.eq_ofNat_of_zero_le h0
  have h1 : a < g := Int.ofNat_lt.mp h1
  have l2 : ((c.drop a).take (g - a)).length = g - a := tdropL (by refine (Nat.add_sub_of_le (Nat.le_of_lt h1)).symm ▸ ?_; exact Nat.le_trans g1 g2)
  have q := gp_move1 g1 g2 g3 g4 h1
  rw [Int.ofNat_sub (Nat.le_trans (Nat.sub_le ..) g1)] at q
  simp only [Int.toNat_natCast, Int.toNat_sub, l2]
  exact q
theorem Gp.move2 {c : List Int} {g e a : Int} {T : List Int} {B : Nat} (G : Gp c g e T B) (h0 : 0 ≤ a) (h1 : g ≤ a) (h2 : a ≤ T.length) :
    (((c.drop e.toNat).take (e + a - g - e).toNat).length : Int) = a - g ∧ Gp (c.take g.toNat ++ (c.drop e.toNat).take (e + a - g - e).toNat ++ c.drop (g + (((c.drop e.toNat).take (e + a - g - e).toNat).length : Int)).toNat) a (e + (((c.drop e.toNat).take (e + a - g - e).toNat).length : Int)) T B := by
  refine ex2 G.nat fun g e hq0 => an6 hq0 fun qe2 qe3 g1 g2 g3 g4 => ?_; try clear hq0; subst qe2; subst qe3
  obtain ⟨a, rfl⟩ := Int.eq_ofNat_of_zero_le h0
  have h1 : g ≤ a := Int.ofNat_le.mp h1
  have hT : T.length = g + (c.length - e) := by exact g4 ▸ List.length_append ▸ (takeL (Nat.le_trans g1 g2)).symm ▸ List.length_drop.symm ▸ rfl
  have h3 : e + (a - g) ≤ c.length := by have := Int.ofNat_le.mp h2; lia -abstractProof
  have e1 : ((e : Int) + a - g - e).toNat = a - g := by exact (show (e : Int) + a - g - e = (a : Int) - g by lia -abstractProof) ▸ (Int.toNat_sub ..).symm ▸ rfl
  have l2 : ((c.drop e).take (a - g)).length = a - g := tdropL h3
  have ln : (c.take g ++ (c.drop e).take (a - g) ++ c.drop a).length = c.length := by
    rw [List.length_append, List.length_append, takeL (Nat.le_trans g1 g2), l2, List.length_drop, Nat.add_sub_of_le h1, Nat.add_sub_of_le (by lia -abstractProof)]
  have q : Gp (c.take g ++ (c.drop e).take (a - g) ++ c.drop a) a ((e + (a - g) : Nat) : Int) T B := .of (by lia -abstractProof) (by refine ln ▸ ?_; exact h3) (by refine ln ▸ ?_; exact g3) (by exact g4 ▸ (mv2 c h1 g1 h3).symm ▸ rfl)
  simp only [Int.toNat_natCast, e1, l2]
  refine ⟨Int.ofNat_sub h1, ?_⟩
  rw [show ((g : Int) + ((a - g : Nat) : Int)).toNat = a from by refine (Int.natCast_add ..) ▸ (Nat.add_sub_of_le h1).symm ▸ ?_; rfl]
  exact q
theorem Gp.wide {c : List Int} {g e : Int} {T : List Int} {B : Nat} (G : Gp c g e T B) (k : Nat) : Gp (c.take e.toNat ++ List.replicate k 0 ++ c.drop e.toNat) g (e + k) T (B + k) := by
  refine ex2 G.nat fun g e hq0 => an6 hq0 fun qe2 qe3 g1 g2 g3 g4 => ?_; try clear hq0; subst qe2; subst qe3
  simp only [Int.toNat_natCast]
  have l0 : (c.take e ++ List.replicate k 0).length = e + k := by exact List.length_append ▸ (takeL g2).symm ▸ List.length_replicate ▸ rfl
  have ln : (c.take e ++ List.replicate k 0 ++ c.drop e).length = c.length + k := by refine List.length_append ▸ l0 ▸ List.length_drop ▸ ?_; lia -abstractProof
  refine .of (e := e + k) (Nat.le_trans g1 (Nat.le_add_right ..)) (by refine ln ▸ ?_; exact Nat.add_le_add_right g2 k) (by refine ln ▸ ?_; exact Nat.add_le_add_right g3 k) ?_
  exact g4 ▸ l0 ▸ List.drop_left ▸ (List.append_assoc ..) ▸ List.take_append_of_le_length (by rw [takeL g2]; exact g1) ▸ List.take_take ▸ (Nat.min_eq_left g1).symm ▸ rfl
theorem Gp.ins {c : List Int} {e a : Int} {T : List Int} {B : Nat} (G : Gp c a e T B) {cs : List Int} (h : (cs.length : Int) ≤ e - a) : Gp (c.take a.toNat ++ cs ++ c.drop (a + (cs.length : Int)).toNat) (a + cs.length) e (T.take a.toNat ++ cs ++ T.drop a.toNat) B := by
  refine ex2 G.nat fun a e hq0 => an6 hq0 fun qe2 qe3 g1 g2 g3 g4 => ?_; try clear hq0; subst qe2; subst qe3
  have h : a + cs.length ≤ e := by lia -abstractProof
  have k : a + cs.length ≤ c.length := Nat.le_trans h g2
  have l1 : (c.take a).length = a := takeL (Nat.le_trans g1 g2)
  have l2 : (c.take a ++ cs).length = a + cs.length := by exact List.length_append ▸ l1.symm ▸ rfl
  have ln : (c.take a ++ cs ++ c.drop (a + cs.length)).length = c.length := by exact List.length_append ▸ l2.symm ▸ List.length_drop ▸ (Nat.add_sub_of_le k).symm ▸ rfl
  simp only [Int.toNat_natCast]
  refine (show ((a : Int) + (cs.length : Int)).toNat = a + cs.length from rfl) ▸ ?_
  refine .of (g := a + cs.length) h (by refine ln ▸ ?_; exact g2) (by refine ln ▸ ?_; exact g3) ?_
  rw [g4, List.take_left' l1, List.drop_left' l1, List.take_left' l2, List.drop_append, List.drop_of_length_le (show (c.take a ++ cs).length ≤ e by refine l2 ▸ ?_; exact h), List.nil_append, List.drop_drop, l2, Nat.add_sub_of_le h]
theorem Gp.del {c : List Int} {g e s t : Int} {T : List Int} {B : Nat} (G : Gp c g e T B) (h0 : 0 ≤ s) (h1 : s ≤ g) (h2 : g ≤ t) (h3 : t ≤ T.length) : Gp c s (e + t - g) (T.take s.toNat ++ T.drop t.toNat) B := by
  refine ex2 G.nat fun g e hq0 => an6 hq0 fun qe2 qe3 g1 g2 g3 g4 => ?_; try clear hq0; subst qe2; subst qe3
  obtain ⟨s, rfl⟩ := Int.eq_ofNat_of_zero_le h0
  obtain ⟨t, rfl⟩ := Int.eq_ofNat_of_zero_le (Int.le_trans (Int.natCast_nonneg g) h2)
  have h1 : s ≤ g := Int.ofNat_le.mp h1
  have h2 : g ≤ t := Int.ofNat_le.mp h2
  have l1 : (c.take g).length = g := takeL (Nat.le_trans g1 g2)
  have hT : T.length = g + (c.length - e) := by exact g4 ▸ List.length_append ▸ l1.symm ▸ List.length_drop.symm ▸ rfl
  have h3 : t ≤ T.length := Int.ofNat_le.mp h3
  refine (show (e : Int) + t - g = ((e + (t - g) : Nat) : Int) by lia -abstractProof) ▸ ?_
  refine .of (by lia -abstractProof) (by lia -abstractProof) g3 ?_
  simp only [Int.toNat_natCast]
  rw [g4, List.take_append_of_le_length (by rw [l1]; exact h1), List.take_take, Nat.min_eq_left h1, List.drop_append, List.drop_of_length_le (by rw [l1]; exact h2), List.nil_append, List.drop_drop, l1]
theorem Gp.weak {c : List Int} {g e : Int} {T : List Int} {B B' : Nat} (G : Gp c g e T B) (h : B ≤ B') : Gp c g e T B' := ⟨G.h0, G.h1, G.h2, Nat.le_trans G.h3 h, G.h4⟩
theorem Gp.codes1 {c : List Int} {g e s t : Int} {T : List Int} {B : Nat} (G : Gp c g e T B) (h0 : 0 ≤ s) (h1 : s ≤ t) (h2 : t ≤ g) : (c.drop s.toNat).take (t - s).toNat = (T.drop s.toNat).take (t - s).toNat := by
  refine ex2 G.nat fun g e hq0 => an6 hq0 fun qe2 qe3 g1 g2 g3 g4 => ?_; try clear hq0; subst qe2; subst qe3
  obtain ⟨s, rfl⟩ := Int.eq_ofNat_of_zero_le h0
  obtain ⟨t, rfl⟩ := Int.eq_ofNat_of_zero_le (Int.le_trans h0 h1)
  have h1 : s ≤ t := Int.ofNat_le.mp h1
  have h2 : t ≤ g := Int.ofNat_le.mp h2
  simp only [Int.toNat_natCast, Int.toNat_sub]
  have l1 : (c.take g).length = g := takeL (Nat.le_trans g1 g2)
  have l3 : t - s ≤ ((c.take g).drop s).length := by refine List.length_drop ▸ l1.symm ▸ ?_; exact Nat.sub_le_sub_right h2 s
  have ls : s ≤ (c.take g).length := by refine l1.symm ▸ ?_; exact Nat.le_trans h1 h2
  have : c.take g ++ c.drop g = c := List.take_append_drop ..
  conv => lhs; rw [← this]
  exact g4 ▸ List.drop_append_of_le_length ls ▸ (List.drop_append_of_le_length ls).symm ▸ List.take_append_of_le_length l3 ▸ (List.take_append_of_le_length l3).symm ▸ rfl
theorem Gp.codes2 {c : List Int} {g e s t : Int} {T : List Int} {B : Nat} (G : Gp c g e T B) (h0 : g ≤ s) (h1 : s ≤ t) : (c.drop (s + (e - g)).toNat).take (t + (e - g) - (s + (e - g))).toNat = (T.drop s.toNat).take (t - s).toNat := by
  refine ex2 G.nat fun g e hq0 => an6 hq0 fun qe2 qe3 g1 g2 g3 g4 => ?_; try clear hq0; subst qe2; subst qe3
  obtain ⟨s, rfl⟩ := Int.eq_ofNat_of_zero_le (Int.le_trans (Int.natCast_nonneg g) h0)
  have h0 : g ≤ s := Int.ofNat_le.mp h0
  have l1 : (c.take g).length = g := takeL (Nat.le_trans g1 g2)
  refine (show t + ((e : Int) - g) - (s + ((e : Int) - g)) = t - s by lia -abstractProof).symm ▸ (show ((s : Int) + ((e : Int) - g)).toNat = e + (s - g) by lia -abstractProof) ▸ ?_
  simp only [Int.toNat_natCast]
  rw [g4, List.drop_append, List.drop_of_length_le (show (c.take g).length ≤ s by refine l1.symm ▸ ?_; exact h0), List.nil_append, List.drop_drop, l1]
theorem Gp.codes3 {c : List Int} {g e s t : Int} {T : List Int} {B : Nat} (G : Gp c g e T B) (h : 0 ≤ s) (h0 : s ≤ g) (h1 : g ≤ t) : (c.drop s.toNat).take (g - s).toNat ++ (c.drop e.toNat).take (t + (e - g) - e).toNat = (T.drop s.toNat).take (t - s).toNat := by
  refine ex2 G.nat fun g e hq0 => an6 hq0 fun qe2 qe3 g1 g2 g3 g4 => ?_; try clear hq0; subst qe2; subst qe3
  obtain ⟨s, rfl⟩ := Int.eq_ofNat_of_zero_le h
  obtain ⟨t, rfl⟩ := Int.eq_ofNat_of_zero_le (Int.le_trans (Int.natCast_nonneg g) h1)
  have h0 : s ≤ g := Int.ofNat_le.mp h0
  have h1 : g ≤ t := Int.ofNat_le.mp h1
  refine (show (t : Int) + ((e : Int) - g) - e = (t : Int) - g by lia -abstractProof) ▸ ?_
  simp only [Int.toNat_natCast, Int.toNat_sub]
  have l1 : (c.take g).length = g := takeL (Nat.le_trans g1 g2)
  have l2 : ((c.drop s).take (g - s)).length = g - s := tdropL (by refine (Nat.add_sub_of_le h0).symm ▸ ?_; exact Nat.le_trans g1 g2)
  rw [g4, List.drop_append_of_le_length (by rw [l1]; exact h0), List.take_append, List.drop_take, List.take_of_length_le (show ((c.drop s).take (g - s)).length ≤ t - s by refine l2.symm ▸ ?_; exact Nat.sub_le_sub_right h1 s), l2]
  congr 2
  lia -abstractProof
theorem noExc : ∀ {W : Wd} (q : Nat × Addr × PT), (none : Option (Nat × Addr × PT)) = some q → q.2.1 = 38 ∧ PTok W q.1 (.ref 35) q.2.2 := fun q h => by cases h
theorem br_dec {p : Prop} [Decidable p] {a b : Prop} (h : p → a) (k : ¬p → b) : br (decide p) a b := br_of (fun e => h (of_decide_eq_true e)) fun e => k (of_decide_eq_false e)
theorem ok_tsize {W : Wd} (H : Pg W) : PTok W 1 (.ref 307) ptTSize := (fn_ok (m := 14) (mr := false) H.f307 (gx_ok H.toBase Specs.nil noExc) fun as hp nx P X hh => ex13 hh fun dk cells gs ge p b z tk ck rows rest T B hj => an5 hj fun e1 e2 G hB k => by
  clear hj hh
  subst e1 e2
  refine ⟨rfl, (vc_tsize ..).mpr ⟨?_, ?_⟩⟩
  · have := G.h3; lia -abstractProof
  · refine G.len ▸ ?_; exact k).ok
theorem tn1 {a g e : Int} (h0 : 0 ≤ g) (h : g ≤ a) (h1 : 0 ≤ e) : (a - g + e).toNat = e.toNat + (a.toNat - g.toNat) := by
  obtain ⟨x, rfl⟩ := Int.eq_ofNat_of_zero_le h0
  obtain ⟨y, rfl⟩ := Int.eq_ofNat_of_zero_le (Int.le_trans h0 h)
  obtain ⟨z, rfl⟩ := Int.eq_ofNat_of_zero_le h1
  exact Int.natCast_sub (Int.ofNat_le.mp h) ▸ (Int.natCast_add ..) ▸ (Int.toNat_natCast ..) ▸ (Int.toNat_natCast ..) ▸ (Int.toNat_natCast ..) ▸ (Int.toNat_natCast ..) ▸ (Nat.add_comm ..) ▸ rfl
theorem tn2 {a g : Int} (h0 : 0 ≤ a) (h : a ≤ g) : (g - a).toNat + a.toNat = g.toNat := by
  obtain ⟨x, rfl⟩ := Int.eq_ofNat_of_zero_le h0
  obtain ⟨y, rfl⟩ := Int.eq_ofNat_of_zero_le (Int.le_trans h0 h)
  exact (Int.toNat_sub ..) ▸ (Int.toNat_natCast ..) ▸ (Int.toNat_natCast ..) ▸ (Nat.sub_add_cancel (Int.ofNat_le.mp h)).symm ▸ rfl
theorem ok_tcode {W : Wd} (H : Pg W) : PTok W 1 (.ref 314) ptTCode := (fn_ok (m := 14) (mr := false) H.f314 (gx_ok H.toBase Specs.nil noExc) fun as hp nx P X hh => ex14 hh fun dk cells gs ge p b z tk ck rows rest T B at_ hj => an6 hj fun e1 e2 G hB h0 k => by
  clear hj hh
  subst e1 e2
  have hl := G.len; have h3 := G.h3; have h1 := G.h1; have h2 := G.h2; have hg := G.h0
  have l1 : (cells.take gs.toNat).length = gs.toNat := List.length_take_of_le (Int.toNat_le.mpr (Int.le_trans h1 h2))
  have q := getD_app G.h4 at_.toNat
  refine ⟨rfl, (vc_tcode ..).mpr (br_dec (fun h => ⟨by lia -abstractProof, ?_⟩) fun h => ⟨by lia -abstractProof, ?_⟩)⟩
  · have hx := (Int.toNat_lt_toNat (Int.lt_of_le_of_lt h0.1 h)).mpr h
    rw [l1, if_pos hx, getD_take hx] at q
    refine q ▸ ?_; exact k
  · rw [l1, if_neg (Nat.not_lt.mpr (Int.toNat_le_toNat (Int.not_lt.mp h))), getD_drop] at q
    refine tn1 hg (Int.not_lt.mp h) (Int.le_trans hg h1) ▸ q ▸ ?_; exact k).ok
theorem ok_tcodes {W : Wd} (H : Pg W) : PTok W 1 (.ref 321) ptTCodes := (fn_ok (m := 14) (mr := false) H.f321 (gx_ok H.toBase Specs.nil noExc) fun as hp nx P X hh => ex15 hh fun dk cells gs ge p b z tk ck rows rest T B s e hj => an6 hj fun e1 e2 G hB h0 k => by
  clear hj hh
  subst e1 e2
  have hl := G.len; have h3 := G.h3; have h1 := G.h1; have h2 := G.h2; have hg := G.h0
  refine ⟨rfl, (vc_tcodes ..).mpr (br_dec (fun h => ⟨by lia -abstractProof, by lia -abstractProof, ?_⟩) fun h => br_dec (fun h' => ⟨by lia -abstractProof, by lia -abstractProof, ?_⟩) fun h' => ⟨by lia -abstractProof, by lia -abstractProof, by lia -abstractProof, by lia -abstractProof, ?_, ?_⟩)⟩
  · refine G.codes1 h0.1 h0.2.1 h ▸ ?_; exact k
  · refine G.codes2 h' h0.2.1 ▸ ?_; exact k
  · exact bg (Nat.add_le_add (ltk (ldr (Nat.le_trans h3 hB))) (ltk (ldr (Nat.le_trans h3 hB)))) rfl
  · rw [G.codes3 h0.1 (by lia -abstractProof) (by lia -abstractProof)]; exact k).ok
theorem ok_tmove {W : Wd} (H : Pg W) : PTok W 1 (.ref 328) ptTMove := (fn_ok (m := 14) (mr := false) H.f328 (gx_ok H.toBase Specs.nil noExc) fun as hp nx P X hh => ex14 hh fun dk cells gs ge p b z tk ck rows rest T B at_ hj => an6 hj fun e1 e2 G hB h0 k => by
  clear hj hh
  subst e1 e2
  have hl := G.len; have h3 := G.h3; have h1 := G.h1; have h2 := G.h2; have hg := G.h0
  refine ⟨rfl, (vc_tmove ..).mpr (br_dec (fun h => ?_) fun h => ?_)⟩
  · have l2 : (((cells.drop at_.toNat).take (gs - at_).toNat).length : Int) = gs - at_ := by
      have u := tn2 h0.1 (Int.le_of_lt h)
      rw [List.length_take_of_le, Int.toNat_of_nonneg (Int.sub_nonneg_of_le (Int.le_of_lt h))]
      refine List.length_drop ▸ ?_; exact Nat.le_sub_of_add_le (u ▸ Int.toNat_le.mpr (Int.le_trans h1 h2))
    have q := k _ _ (G.move1 h0.1 h) (by refine l2.symm ▸ ?_; lia -abstractProof)
    rw [l2] at q ⊢
    exact ⟨by lia -abstractProof, by lia -abstractProof, by lia -abstractProof, by lia -abstractProof, by lia -abstractProof, q⟩
  · obtain ⟨l2, G'⟩ := G.move2 h0.1 (Int.not_lt.mp h) h0.2
    have q := k _ _ G' (by lia -abstractProof)
    rw [l2] at q ⊢
    exact ⟨by lia -abstractProof, by lia -abstractProof, by lia -abstractProof, by lia -abstractProof, by lia -abstractProof, q⟩).ok
theorem ok_twide {W : Wd} (H : Pg W) : PTok W 1 (.ref 335) ptTWide := (fn_ok (m := 14) (mr := false) H.f335 (gx_ok H.toBase Specs.nil noExc) fun as hp nx P X hh => ex14 hh fun dk cells gs ge p b z tk ck rows rest T B w hj => an6 hj fun e1 e2 G hB h0 k => by
  clear hj hh
  subst e1 e2
  have hl := G.len; have h3 := G.h3; have h1 := G.h1; have h2 := G.h2; have hg := G.h0
  refine ⟨rfl, (vc_twide ..).mpr (br_dec (fun h => ?_) fun h => ?_)⟩
  · have ht : ((w - (ge - gs) + 8).toNat : Int) = w - (ge - gs) + 8 := Int.toNat_of_nonneg (by lia -abstractProof)
    generalize (w - (ge - gs) + 8).toNat = t at ht ⊢
    have G' := (G.wide t).weak (B' := B + w.toNat + 8) (by lia -abstractProof)
    have e : ge + (t : Int) = ge + (w - (ge - gs)) + 8 := by rw [ht, Int.add_assoc]
    rw [e] at G'
    refine ⟨Nat.le_add_left .., by lia -abstractProof, ⟨by lia -abstractProof, by lia -abstractProof, ?_⟩, k _ _ G' (by lia -abstractProof)⟩
    refine List.length_replicate ▸ ?_; lia -abstractProof
  · exact k _ _ (G.weak (by lia -abstractProof)) (by lia -abstractProof)).ok
theorem sp1_ok {W : Wd} (H : Pg W) : Specs W sp1 := .cons (ok_tcodes H) (H.keepm _ (List.mem_of_getElem? (i := 3) rfl) _ (List.mem_of_getElem? (i := 2) rfl)) (.cons (ok_tmove H) (H.keepm _ (List.mem_of_getElem? (i := 3) rfl) _ (List.mem_of_getElem? (i := 3) rfl)) (.cons (ok_twide H) (H.keepm _ (List.mem_of_getElem? (i := 3) rfl) _ (List.mem_of_getElem? (i := 4) rfl)) .nil))
theorem ok_tins {W : Wd} (H : Pg W) : PTok W 2 (.ref 342) ptTIns := (fn_ok (m := 14) (mr := false) H.f342 (gx_ok H.toBase (sp1_ok H) noExc) fun as hp nx P X hh => ex15 hh fun dk cells gs ge p b z tk ck rows rest T B at_ cs hj => an7 hj fun e1 e2 G hB h0 hc k => by
  clear hj hh
  subst e1 e2
  refine ⟨rfl, (vc_tins ..).mpr ⟨bg hc rfl, ex14i _ _ _ _ _ _ _ _ _ _ _ T B _ ⟨rfl, rfl, G, hB, by lia -abstractProof, fun c₁ e₁ G₁ w₁ => (ex14i _ _ _ _ _ _ _ _ _ _ _ T _ _ ⟨rfl, rfl, G₁, by lia -abstractProof, h0, fun c₂ e₂ G₂ w₂ => ?_⟩)⟩⟩⟩
  have h2 := G₂.h2; have h1 := G₂.h1; have h3 := G₂.h3
  exact ⟨bg hc rfl, by lia -abstractProof, bg hc rfl, k _ _ _ ((G₂.ins (by lia -abstractProof)).weak (by lia -abstractProof))⟩).ok
theorem ok_tdel {W : Wd} (H : Pg W) : PTok W 2 (.ref 349) ptTDel := (fn_ok (m := 14) (mr := false) H.f349 (gx_ok H.toBase (sp1_ok H) noExc) fun as hp nx P X hh => ex15 hh fun dk cells gs ge p b z tk ck rows rest T B s e hj => an6 hj fun e1 e2 G hB h0 k => by
  clear hj hh
  subst e1 e2
  refine ⟨rfl, (vc_tdel ..).mpr (ex15i _ _ _ _ _ _ _ _ _ _ _ T B _ _ ⟨rfl, rfl, G, bg hB rfl, h0, br_dec (fun h => ?_) fun h => br_dec (fun h' => ?_) fun h' => ?_⟩)⟩
  · refine (ex14i _ _ _ _ _ _ _ _ _ _ _ T B _ ⟨rfl, rfl, G, bg hB rfl, by lia -abstractProof, fun c₁ e₁ G₁ w₁ => br_dec (fun h' => ?_) fun h' => ?_⟩)
    · exfalso; lia -abstractProof
    · exact k _ _ _ (G₁.del h0.1 (h0.2.1) (Int.le_refl _) h0.2.2)
  · refine (ex14i _ _ _ _ _ _ _ _ _ _ _ T B _ ⟨rfl, rfl, G, bg hB rfl, by lia -abstractProof, fun c₁ e₁ G₁ w₁ => ?_⟩)
    exact k _ _ _ (G₁.del h0.1 (Int.le_refl _) (h0.2.1) h0.2.2)
  · exact k _ _ _ (G.del h0.1 (Int.not_lt.mp h') (Int.not_lt.mp h) h0.2.2)).ok
noncomputable def inl (m : Nat) (g : Gx) (n : Nat) (s : Stmt) (k : Nat) (ds : List AV) : PT := fun as hp nx P X => as.length = k ∧ vFn m g n none false s (as ++ ds) hp nx P X
noncomputable def stA (hp : List (Nat × AO)) (n : Nat) (name : Str) (a : AV) (N : List (Nat × AO) → Prop) : Prop := match hget n hp with
  | some (.inst C attrs) => grd (atF C name && Nat.ble (lset name a attrs).length 1000) (N (hset n (.inst C (lset name a attrs)) hp))
  | some (.exc attrs) => grd ((name == ("symbol" : Str) || name == ("data" : Str)) && true && Nat.ble attrs.length 100) (N (hset n (.exc (lset name a attrs)) hp))
  | _ => False
noncomputable def ptLS : PT := fun as hp nx P X => ∃ n sym d hp0, as = [.ref n, .str sym, .lst d] ∧ hp = hp0 ++ [(n, .exc [])] ∧ hget n hp0 = none ∧ P .none (hp0 ++ [(n, .exc [en "symbol" (.str sym), en "data" (.lst d)])]) nx
noncomputable def exS : Option (Nat × Addr × PT) := some (1, 38, ptLS)
noncomputable def s1 : List (Addr × Nat × PT) := [(307, 1, ptTSize), (314, 1, ptTCode), (321, 1, ptTCodes), (342, 2, ptTIns), (349, 2, ptTDel)]
noncomputable def g1 : Gx := gx s1 exS
noncomputable def ptCodeAt : PT := fun as hp nx P X => ∃ dk cells gs ge p b z tk ck rows rest T B k, as = [.ref 3, .int k] ∧ hp = lay dk cells gs ge p b z tk ck rows rest ∧ Gp cells gs ge T B ∧ B ≤ 65536 ∧ (1 ≤ b ∧ z ≤ (T.length : Int) + 1) ∧ P (.int (if k < b ∨ k ≥ z then -1 else T.getD (k - 1).toNat 0)) hp nx
noncomputable def ptTextOut : PT := fun as hp nx P X => ∃ dk cells gs ge p b z tk ck rows rest T B s e, as = [.ref 3, .int s, .int e] ∧ hp = lay dk cells gs ge p b z tk ck rows rest ∧ Gp cells gs ge T B ∧ B ≤ 60000 ∧ (1 ≤ s ∧ s ≤ e ∧ e ≤ (T.length : Int) + 1) ∧
  ∀ cells gs ge ys, Gp cells gs ge (T.take (s - 1).toNat ++ T.drop (e - 1).toNat) B → P (.lst ys) (lay dk cells gs ge (if p > s then imax s (p - (e - s)) else p) b (z - (e - s)) tk ck rows rest) nx
noncomputable def ptTextIn : PT := fun as hp nx P X => ∃ dk cells gs ge p b z tk ck rows rest T B k cs, as = [.ref 3, .int k, .lst cs] ∧ hp = lay dk cells gs ge p b z tk ck rows rest ∧ Gp cells gs ge T B ∧ B ≤ 60000 ∧ (1 ≤ k ∧ k ≤ (T.length : Int) + 1) ∧ cs.length ≤ 1000 ∧
  ∀ cells gs ge, Gp cells gs ge (T.take (k - 1).toNat ++ cs ++ T.drop (k - 1).toNat) (B + cs.length + 8) → P .none (lay dk cells gs ge (if p > k then p + (cs.length : Int) else p) b (z + (cs.length : Int)) tk ck rows rest) nx
noncomputable def s2 : List (Addr × Nat × PT) := [(413, 1, inl 14 g1 0 (M 21 3) 1 []), (420, 1, inl 14 g1 0 (M 21 4) 1 []), (427, 2, inl 14 g1 1 (M 21 5) 1 []), (434, 2, ptCodeAt), (441, 2, inl 14 g1 1 (M 21 7) 3 []), (448, 1, inl 14 g1 0 (M 21 8) 2 []), (476, 1, inl 14 g1 0 (M 21 12) 2 []),
  (488, 1, inl 14 g1 0 (F 23) 1 []), (495, 3, inl 14 g1 2 (F 24) 3 []), (502, 1, inl 14 g1 0 (F 25) 3 []), (530, 1, inl 14 g1 0 (F 29) 3 []), (537, 1, inl 14 g1 0 (F 30) 4 []), (137, 1, inl 14 g1 0 (M 7 1) 1 []), (144, 1, inl 14 g1 0 (M 7 2) 3 []), (151, 1, inl 14 g1 0 (M 7 3) 2 []),
  (516, 3, ptTextOut), (523, 3, ptTextIn)] ++ s1
noncomputable def g2 : Gx := gx s2 exS
theorem inl_ok {W : Wd} {a : Addr} {m n k : Nat} {g : Gx} {s : Stmt} {ds : List (AV × Value)} (hF : Has W.K a s k ds none) (hg : GOk W g) : PTokC W (n + 1) (.ref a) (inl m g n s k (ds.map (·.1))) := fn_ok hF hg fun as hp nx P X h => h
theorem hget_end {n : Nat} {o : AO} : ∀ {hp : List (Nat × AO)}, hget n hp = none → hget n (hp ++ [(n, o)]) = some o ∧ ∀ o', hset n o' (hp ++ [(n, o)]) = hp ++ [(n, o')]
  | [], _ => by
    simp only [List.nil_append, hget, hset, Nat.beq_refl]
    exact ⟨trivial, fun o' => trivial⟩
  | (k, u) :: r, h => by
    unfold hget at h
    cases hk : Nat.beq k n with
    | true => rw [hk] at h; cases h
    | false =>
      rw [hk] at h
      obtain ⟨h1, h2⟩ := hget_end (o := o) h
      simp only [List.cons_append, hget, hset, hk]
      exact ⟨h1, fun o' => by exact (h2 ..).symm ▸ rfl⟩
theorem grd_mk {b : Bool} {p : Prop} (h : b = true) (k : p) : grd b p := by subst h; exact k
noncomputable def exF : Option (Nat × Addr × PT) := some (0, 38, fun _ _ _ _ _ => False)
theorem vc_ls (n : Nat) (sym : Str) (d : List Int) (hp : List (Nat × AO)) (nx : Nat) (P : PRes) (X : XRes) : vFn 14 (gx [] exF) 0 none false (M 2 0) [.ref n, .str sym, .lst d] hp nx P X =
 (stA hp n "symbol" (.str sym) fun hp => stA hp n "data" (.lst d) fun hp => P .none hp nx) := by kernel_rfl
theorem lsNames : ((("symbol" : Str) == ("symbol" : Str) || ("symbol" : Str) == ("data" : Str)) && true && Nat.ble ([] : List (Str × AV)).length 100) = true ∧ ((("data" : Str) == ("symbol" : Str) || ("data" : Str) == ("data" : Str)) && true && Nat.ble 1 100) = true ∧ ∀ s d, lset "data" (.lst d) (lset "symbol" (.str s) []) = [en "symbol" (.str s), en "data" (.lst d)] :=
  ⟨by kernel_rfl, by kernel_rfl, fun s d => by kernel_rfl⟩
theorem ok_ls {W : Wd} (H : Pg W) : PTok W 1 (.ref 35) ptLS := (fn_ok (m := 14) (mr := false) (n := 0) H.f35 (gx_ok (l := []) (exc := exF) H.toBase Specs.nil fun q h => by cases h; exact ⟨rfl, fun _ _ _ _ _ _ _ h => h.elim⟩) fun as hp nx P X hh => ex4 hh fun n sym d hp0 hj => an4 hj fun e1 e2 h0 k => by
  clear hj hh
  subst e1 e2
  refine ⟨rfl, (vc_ls ..).mpr ?_⟩
  obtain ⟨h1, h2⟩ := hget_end (o := .exc []) h0
  obtain ⟨h3, h4⟩ := hget_end (o := .exc (lset "symbol" (.str sym) [])) h0
  unfold stA
  refine h1 ▸ ?_
  refine grd_mk lsNames.1 ?_
  refine (h2 ..).symm ▸ ?_
  dsimp only
  refine h3 ▸ ?_
  refine grd_mk lsNames.2.1 ?_
  refine (h4 ..).symm ▸ (lsNames.2.2 ..) ▸ ?_
  exact k).ok
theorem exS_ok {W : Wd} (H : Pg W) : ∀ q, exS = some q → q.2.1 = 38 ∧ PTok W q.1 (.ref 35) q.2.2 := fun q h => by cases h; exact ⟨rfl, ok_ls H⟩
theorem met_k {W : Wd} (H : Pg W) {i j : Nat} {a C : Addr} {x : Str} {l : List (Str × Addr)} (h1 : meTab[i]? = some (C, l)) (h2 : l[j]? = some (x, a)) : keepV W.K (.ref a) = true := H.keepm _ (List.mem_of_getElem? h1) _ (List.mem_of_getElem? h2)
theorem fn_k {W : Wd} (H : Pg W) {i : Nat} {x : Str} {a : Addr} (h : glTab[i]? = some (x, .ref a)) : keepV W.K (.ref a) = true := H.keep _ (List.mem_of_getElem? h)
theorem s1_ok {W : Wd} (H : Pg W) : Specs W s1 :=
  .cons (ok_tsize H) (met_k H (i := 3) (j := 0) rfl rfl) (.cons (ok_tcode H) (met_k H (i := 3) (j := 1) rfl rfl) (.cons (ok_tcodes H) (met_k H (i := 3) (j := 2) rfl rfl) (.cons (ok_tins H) (met_k H (i := 3) (j := 5) rfl rfl) (.cons (ok_tdel H) (met_k H (i := 3) (j := 6) rfl rfl) .nil))))
theorem g1_ok {W : Wd} (H : Pg W) : GOk W g1 := gx_ok H.toBase (s1_ok H) (exS_ok H)
theorem vc_codeat (dk cells : List Int) (gs ge p b z tk ck : Int) (rows : List (Int × AV)) (rest : List (Nat × AO)) (nx : Nat) (P : PRes) (X : XRes) (k : Int) : (vFn 14 g1 1 none false (M 21 6) [.ref 3, .int k] (lay dk cells gs ge p b z tk ck rows rest) nx P X) = (
br (decide (k < b)) (P (AV.int (-1 : Int)) (lay dk cells gs ge p b z tk ck rows rest) nx)
 (br (decide (k ≥ z)) (P (AV.int (-1 : Int)) (lay dk cells gs ge p b z tk ck rows rest) nx)
 (∃ dk_1 cells_1 gs_1 ge_1 p_1 b_1 z_1 tk_1 ck_1 rows_1 rest_1 T B at_,
 [AV.ref 4, AV.int (k - (1 : Int))] = [AV.ref 4, AV.int at_] ∧
 lay dk cells gs ge p b z tk ck rows rest = lay dk_1 cells_1 gs_1 ge_1 p_1 b_1 z_1 tk_1 ck_1 rows_1 rest_1 ∧ Gp cells_1 gs_1 ge_1 T B ∧ B ≤ 65536 ∧ ((0 : Int) ≤ at_ ∧ at_ < ↑T.length) ∧ P (AV.int (T.getD at_.toNat (0 : Int))) (lay dk cells gs ge p b z tk ck rows rest) nx))) := by kernel_rfl
theorem vc_textout (dk cells : List Int) (gs ge p b z tk ck : Int) (rows : List (Int × AV)) (rest : List (Nat × AO)) (nx : Nat) (P : PRes) (X : XRes) (s e : Int) : (vFn 14 g1 2 none false (F 27) [.ref 3, .int s, .int e] (lay dk cells gs ge p b z tk ck rows rest) nx P X) = (
∃ dk_1 cells_1 gs_1 ge_1 p_1 b_1 z_1 tk_1 ck_1 rows_1 rest_1 T B s_1 e_1,
 [AV.ref 4, AV.int (s - (1 : Int)), AV.int (e - (1 : Int))] = [AV.ref 4, AV.int s_1, AV.int e_1] ∧
 lay dk cells gs ge p b z tk ck rows rest = lay dk_1 cells_1 gs_1 ge_1 p_1 b_1 z_1 tk_1 ck_1 rows_1 rest_1 ∧
 Gp cells_1 gs_1 ge_1 T B ∧
 B ≤ 60000 ∧
 ((0 : Int) ≤ s_1 ∧ s_1 ≤ e_1 ∧ e_1 ≤ ↑T.length) ∧
 ∀ (cells' : List Int) (gs' ge' : Int),
 Gp cells' gs' ge' (List.take s_1.toNat T ++ List.drop e_1.toNat T) B →
 br (decide (p_1 > s)) (P (AV.lst (List.take (e_1 - s_1).toNat (List.drop s_1.toNat T))) (lay dk_1 cells' gs' ge' (imax s (p_1 - (e - s))) b_1 (z_1 - (e - s)) tk_1 ck_1 rows_1 rest_1) nx)
 (P (AV.lst (List.take (e_1 - s_1).toNat (List.drop s_1.toNat T))) (lay dk_1 cells' gs' ge' p_1 b_1 (z_1 - (e - s)) tk_1 ck_1 rows_1 rest_1) nx)) := by kernel_rfl
theorem vc_textin (dk cells : List Int) (gs ge p b z tk ck : Int) (rows : List (Int × AV)) (rest : List (Nat × AO)) (nx : Nat) (P : PRes) (X : XRes) (k : Int) (cs : List Int) : (vFn 14 g1 2 none false (F 28) [.ref 3, .int k, .lst cs] (lay dk cells gs ge p b z tk ck rows rest) nx P X) = (
∃ dk_1 cells_1 gs_1 ge_1 p_1 b_1 z_1 tk_1 ck_1 rows_1 rest_1 T B at_ cs_1,
 [AV.ref 4, AV.int (k - (1 : Int)), AV.lst cs] = [AV.ref 4, AV.int at_, AV.lst cs_1] ∧
 lay dk cells gs ge p b z tk ck rows rest = lay dk_1 cells_1 gs_1 ge_1 p_1 b_1 z_1 tk_1 ck_1 rows_1 rest_1 ∧
 Gp cells_1 gs_1 ge_1 T B ∧
 B ≤ 60000 ∧
 ((0 : Int) ≤ at_ ∧ at_ ≤ ↑T.length) ∧
 cs_1.length ≤ 1000 ∧
 ∀ (cells' : List Int) (gs' ge' : Int),
 Gp cells' gs' ge' (List.take at_.toNat T ++ cs_1 ++ List.drop at_.toNat T) (B + cs_1.length + (8 : Nat)) →
 cs.length ≤ 1099511627776 ∧
 br (decide (p_1 > k)) (cs.length ≤ 1099511627776 ∧ P AV.none (lay dk_1 cells' gs' ge' (p_1 + ↑cs.length) b_1 (z_1 + ↑cs.length) tk_1 ck_1 rows_1 rest_1) nx) (P AV.none (lay dk_1 cells' gs' ge' p_1 b_1 (z_1 + ↑cs.length) tk_1 ck_1 rows_1 rest_1) nx)) := by kernel_rfl
theorem ok_codeat {W : Wd} (H : Pg W) : PTok W 2 (.ref 434) ptCodeAt := (fn_ok (m := 14) (mr := false) H.f434 (g1_ok H) fun as hp nx P X hh => ex14 hh fun dk cells gs ge p b z tk ck rows rest T B k hj => an6 hj fun e1 e2 G hB h0 q => by
  clear hj hh
  subst e1 e2
  refine ⟨rfl, (vc_codeat ..).mpr (br_dec (fun h => ?_) fun h => br_dec (fun h' => ?_) fun h' => ?_)⟩
  · rw [if_pos (.inl h)] at q; exact q
  · rw [if_pos (.inr h')] at q; exact q
  · rw [if_neg (by lia -abstractProof)] at q
    exact (ex14i _ _ _ _ _ _ _ _ _ _ _ T B _ ⟨rfl, rfl, G, hB, by lia -abstractProof, q⟩)).ok
theorem ok_textout {W : Wd} (H : Pg W) : PTok W 3 (.ref 516) ptTextOut := (fn_ok (m := 14) (mr := false) H.f516 (g1_ok H) fun as hp nx P X hh => ex15 hh fun dk cells gs ge p b z tk ck rows rest T B s e hj => an6 hj fun e1 e2 G hB h0 q => by
  clear hj hh
  subst e1 e2
  refine ⟨rfl, (vc_textout ..).mpr (ex15i _ _ _ _ _ _ _ _ _ _ _ T B _ _ ⟨rfl, rfl, G, hB, by lia -abstractProof, fun c g e G' => ?_⟩)⟩
  have q := fun ys => q c g e ys G'
  exact br_dec (fun h => by simp only [if_pos h] at q; exact q _) fun h => by simp only [if_neg h] at q; exact q _).ok
theorem ok_textin {W : Wd} (H : Pg W) : PTok W 3 (.ref 523) ptTextIn := (fn_ok (m := 14) (mr := false) H.f523 (g1_ok H) fun as hp nx P X hh => ex15 hh fun dk cells gs ge p b z tk ck rows rest T B k cs hj => an7 hj fun e1 e2 G hB h0 hc q => by
  clear hj hh
  subst e1 e2
  refine ⟨rfl, (vc_textin ..).mpr (ex15i _ _ _ _ _ _ _ _ _ _ _ T B _ _ ⟨rfl, rfl, G, hB, by lia -abstractProof, hc, fun c g e G' => ⟨bg hc rfl, ?_⟩⟩)⟩
  have q := q c g e G'
  exact br_dec (fun h => by rw [if_pos h] at q; exact ⟨bg hc rfl, q⟩) fun h => by rw [if_neg h] at q; exact q).ok
theorem s2_ok {W : Wd} (H : Pg W) : Specs W s2 :=
  have g := g1_ok H
  .cons (inl_ok H.f413 g).ok (met_k H (i := 4) (j := 0) rfl rfl) <| .cons (inl_ok H.f420 g).ok (met_k H (i := 4) (j := 1) rfl rfl) <| .cons (inl_ok H.f427 g).ok (met_k H (i := 4) (j := 2) rfl rfl) <| .cons (ok_codeat H) (met_k H (i := 4) (j := 3) rfl rfl) <|
  .cons (inl_ok H.f441 g).ok (met_k H (i := 4) (j := 4) rfl rfl) <| .cons (inl_ok H.f448 g).ok (met_k H (i := 4) (j := 5) rfl rfl) <| .cons (inl_ok H.f476 g).ok (met_k H (i := 4) (j := 6) rfl rfl) <|
  .cons (inl_ok H.f488 g).ok (fn_k H (i := 13) rfl) <| .cons (inl_ok H.f495 g).ok (fn_k H (i := 14) rfl) <| .cons (inl_ok H.f502 g).ok (fn_k H (i := 15) rfl) <| .cons (inl_ok H.f530 g).ok (fn_k H (i := 19) rfl) <| .cons (inl_ok H.f537 g).ok (fn_k H (i := 20) rfl) <|
  .cons (inl_ok H.f137 g).ok (met_k H (i := 0) (j := 0) rfl rfl) <| .cons (inl_ok H.f144 g).ok (met_k H (i := 0) (j := 1) rfl rfl) <| .cons (inl_ok H.f151 g).ok (met_k H (i := 0) (j := 2) rfl rfl) <|
  .cons (ok_textout H) (fn_k H (i := 17) rfl) <| .cons (ok_textin H) (fn_k H (i := 18) rfl) (s1_ok H)
theorem g2_ok {W : Wd} (H : Pg W) : GOk W g2 := gx_ok H.toBase (s2_ok H) (exS_ok H)
inductive Mk where
  | no | one (p : Int) | tri (a b c : Int)
noncomputable def mkOb (n : Int) (adv : Bool) (p : Int) : AO := .inst 114 [en "number" (.int n), en "advances" (.bool adv), en "buffer" (.ref 3), en "position" (.int p)]
noncomputable def Mk.rows : Mk → List (Int × AV)
  | .no => []
  | .one _ => [(3, .ref 9)]
  | .tri _ _ _ => [(1, .ref 8), (2, .ref 9), (3, .ref 11)]
noncomputable def Mk.rest : Mk → List (Nat × AO)
  | .no => []
  | .one p => [(8, .inst 239 [en "buffer" (.ref 3), en "first" .none, en "last" .none]), (9, mkOb 3 false p), (10, .inst 275 [en "buffer" (.ref 3), en "marker" (.ref 9)])]
  | .tri a b c => [(8, mkOb 1 false a), (9, mkOb 2 true b), (10, .inst 239 [en "buffer" (.ref 3), en "first" (.ref 8), en "last" (.ref 9)]), (11, mkOb 3 false c), (12, .inst 275 [en "buffer" (.ref 3), en "marker" (.ref 11)])]
noncomputable def Mk.map (f g h : Int → Int) : Mk → Mk
  | .no => .no
  | .one p => .one (h p)
  | .tri a b c => .tri (f a) (g b) (h c)
noncomputable def mIns (s e : Int) (adv : Bool) (p : Int) : Int := if p > s ∨ (p = s ∧ adv = true) then p + e - s else p
noncomputable def mDel (s e : Int) (p : Int) : Int := if p > e then p - (e - s) else if p > s then s else p
noncomputable def mRep (s e n : Int) (p : Int) : Int := if p ≥ e then p + n - (e - s) else if p > s then s else p
noncomputable def forT : Stmt → Expr
  | .For t _ _ _ _ => t
  | _ => .Constant .none 0 ⟨0, 0, 0, 0⟩
noncomputable def forB : Stmt → List Stmt
  | .For _ _ b _ _ => b
  | _ => []
noncomputable def loopAt (s : Stmt) (i : Nat) : Stmt := (bodyOf s).getD i (.Pass ⟨0, 0, 0, 0⟩)
noncomputable def turn (U : V) (cx : Cx) (l : Stmt) (k : Int) (σ : St) (N : St → Prop) (Rt : AV → St → Prop) : Prop := U.A cx (forT l) (.int k) σ (fun σ₁ => vBl (fun st σ N => U.S cx st σ N Rt noX) (forB l) σ₁ N) noX
noncomputable def mcx (j : Nat) : Cx := ⟨g2, scopeOf (M 7 j), 1, none, false⟩
noncomputable def bI (s e : Int) : List (Str × AV) := [en "self" (.ref 6), en "start" (.int s), en "end" (.int e), en "is_before" (.bool false)]
noncomputable def bD (s e : Int) : List (Str × AV) := [en "self" (.ref 6), en "start" (.int s), en "end" (.int e)]
noncomputable def bR (s e n : Int) : List (Str × AV) := [en "self" (.ref 6), en "start" (.int s), en "end" (.int e), en "many" (.int n)]
noncomputable def nm (k m : Nat) : List (Str × AV) := [en "number" (.int k), en "marker" (.ref m)]
noncomputable def mst (dk cells : List Int) (gs ge p b z tk ck : Int) (nx : Nat) (mk : Mk) (loc : List (Str × AV)) : St := ⟨lay dk cells gs ge p b z tk ck mk.rows mk.rest, loc, [], [], nx⟩
noncomputable def ptMIns : PT := fun as hp nx P X => ∃ dk cells gs ge p b z tk ck mk s e, as = [.ref 6, .int s, .int e, .bool false] ∧ hp = lay dk cells gs ge p b z tk ck (Mk.rows mk) (Mk.rest mk) ∧ P .none (lay dk cells gs ge p b z tk ck (Mk.rows (mk.map (mIns s e false) (mIns s e true) (mIns s e false))) (Mk.rest (mk.map (mIns s e false) (mIns s e true) (mIns s e false)))) nx
noncomputable def ptMDel : PT := fun as hp nx P X => ∃ dk cells gs ge p b z tk ck mk s e, as = [.ref 6, .int s, .int e] ∧ hp = lay dk cells gs ge p b z tk ck (Mk.rows mk) (Mk.rest mk) ∧ P .none (lay dk cells gs ge p b z tk ck (Mk.rows (mk.map (mDel s e) (mDel s e) (mDel s e))) (Mk.rest (mk.map (mDel s e) (mDel s e) (mDel s e)))) nx
noncomputable def ptMRep : PT := fun as hp nx P X => ∃ dk cells gs ge p b z tk ck mk s e n, as = [.ref 6, .int s, .int e, .int n] ∧ hp = lay dk cells gs ge p b z tk ck (Mk.rows mk) (Mk.rest mk) ∧ P .none (lay dk cells gs ge p b z tk ck (Mk.rows (mk.map (mRep s e n) (mRep s e n) (mRep s e n))) (Mk.rest (mk.map (mRep s e n) (mRep s e n) (mRep s e n)))) nx
theorem turn_cons {U : V} {cx : Cx} {l : Stmt} {k : Int} {r : List Int} {σ : St} {N : St → Prop} {Rt : AV → St → Prop} (h : turn U cx l k σ (fun σ => vFor U cx (forT l) (forB l) N Rt r σ) Rt) : vFor U cx (forT l) (forB l) N Rt (k :: r) σ := h
theorem vt_ins_a1 (dk cells : List Int) (gs ge p b z tk ck : Int) (nx : Nat) (s e : Int) (N : St → Prop) (Rt : AV → St → Prop) (a1 a2 a3 : Int) : (turn (vAt 12) (mcx 5) (loopAt (M 7 5) 0) 1 (mst dk cells gs ge p b z tk ck nx (.tri a1 a2 a3) (bI s e)) N Rt) = (
br (decide (a1 > s))
 (N
 ⟨lay dk cells gs ge p b z tk ck [(1, AV.ref 8), (2, AV.ref 9), (3, AV.ref 11)] [(8, AO.inst 114 [en "number" (.int 1), en "advances" (.bool false), en "buffer" (.ref 3), en "position" (.int (a1 + e - s))]), (9, AO.inst 114 [en "number" (.int 2), en "advances" (.bool true), en "buffer" (.ref 3), en "position" (.int a2)]), (10, AO.inst 239 [en "buffer" (.ref 3), en "first" (.ref 8), en "last" (.ref 9)]), (11, AO.inst 114 [en "number" (.int 3), en "advances" (.bool false), en "buffer" (.ref 3), en "position" (.int a3)]), (12, AO.inst 275 [en "buffer" (.ref 3), en "marker" (.ref 11)])], [en "self" (.ref 6), en "start" (.int s), en "end" (.int e), en "is_before" (.bool false), en "number" (.int 1), en "marker" (.ref 8)], [], [], nx⟩)
 (br (a1 == s)
 (N
 ⟨lay dk cells gs ge p b z tk ck [(1, AV.ref 8), (2, AV.ref 9), (3, AV.ref 11)] [(8, AO.inst 114 [en "number" (.int 1), en "advances" (.bool false), en "buffer" (.ref 3), en "position" (.int a1)]), (9, AO.inst 114 [en "number" (.int 2), en "advances" (.bool true), en "buffer" (.ref 3), en "position" (.int a2)]), (10, AO.inst 239 [en "buffer" (.ref 3), en "first" (.ref 8), en "last" (.ref 9)]), (11, AO.inst 114 [en "number" (.int 3), en "advances" (.bool false), en "buffer" (.ref 3), en "position" (.int a3)]), (12, AO.inst 275 [en "buffer" (.ref 3), en "marker" (.ref 11)])], [en "self" (.ref 6), en "start" (.int s), en "end" (.int e), en "is_before" (.bool false), en "number" (.int 1), en "marker" (.ref 8)], [], [], nx⟩)
 (N
 ⟨lay dk cells gs ge p b z tk ck [(1, AV.ref 8), (2, AV.ref 9), (3, AV.ref 11)] [(8, AO.inst 114 [en "number" (.int 1), en "advances" (.bool false), en "buffer" (.ref 3), en "position" (.int a1)]), (9, AO.inst 114 [en "number" (.int 2), en "advances" (.bool true), en "buffer" (.ref 3), en "position" (.int a2)]), (10, AO.inst 239 [en "buffer" (.ref 3), en "first" (.ref 8), en "last" (.ref 9)]), (11, AO.inst 114 [en "number" (.int 3), en "advances" (.bool false), en "buffer" (.ref 3), en "position" (.int a3)]), (12, AO.inst 275 [en "buffer" (.ref 3), en "marker" (.ref 11)])], [en "self" (.ref 6), en "start" (.int s), en "end" (.int e), en "is_before" (.bool false), en "number" (.int 1), en "marker" (.ref 8)], [], [], nx⟩))) := by kernel_rfl
theorem t_ins_a1 {dk cells : List Int} {gs ge p b z tk ck : Int} {nx : Nat} {s e : Int} {N : St → Prop} {Rt : AV → St → Prop} {a1 a2 a3 : Int} (h : N (mst dk cells gs ge p b z tk ck nx (.tri (mIns s e false a1) a2 a3) (bI s e ++ nm 1 8))) : turn (vAt 12) (mcx 5) (loopAt (M 7 5) 0) 1 (mst dk cells gs ge p b z tk ck nx (.tri a1 a2 a3) (bI s e)) N Rt := by
  refine (vt_ins_a1 ..).mpr ?_
  unfold mIns at h
  exact br_dec (fun q => by rw [if_pos (.inl q)] at h; exact h) fun q => by
    rw [if_neg (by simp; exact Int.not_lt.mp q)] at h
    exact br_of (fun _ => h) fun _ => h
theorem vt_ins_a2 (dk cells : List Int) (gs ge p b z tk ck : Int) (nx : Nat) (s e : Int) (N : St → Prop) (Rt : AV → St → Prop) (a1 a2 a3 : Int) : (turn (vAt 12) (mcx 5) (loopAt (M 7 5) 0) 2 (mst dk cells gs ge p b z tk ck nx (.tri a1 a2 a3) (bI s e ++ nm 1 8)) N Rt) = (
br (decide (a2 > s))
 (N
 ⟨lay dk cells gs ge p b z tk ck [(1, AV.ref 8), (2, AV.ref 9), (3, AV.ref 11)] [(8, AO.inst 114 [en "number" (.int 1), en "advances" (.bool false), en "buffer" (.ref 3), en "position" (.int a1)]), (9, AO.inst 114 [en "number" (.int 2), en "advances" (.bool true), en "buffer" (.ref 3), en "position" (.int (a2 + e - s))]), (10, AO.inst 239 [en "buffer" (.ref 3), en "first" (.ref 8), en "last" (.ref 9)]), (11, AO.inst 114 [en "number" (.int 3), en "advances" (.bool false), en "buffer" (.ref 3), en "position" (.int a3)]), (12, AO.inst 275 [en "buffer" (.ref 3), en "marker" (.ref 11)])], [en "self" (.ref 6), en "start" (.int s), en "end" (.int e), en "is_before" (.bool false), en "number" (.int 2), en "marker" (.ref 9)], [], [], nx⟩)
 (br (a2 == s)
 (N
 ⟨lay dk cells gs ge p b z tk ck [(1, AV.ref 8), (2, AV.ref 9), (3, AV.ref 11)] [(8, AO.inst 114 [en "number" (.int 1), en "advances" (.bool false), en "buffer" (.ref 3), en "position" (.int a1)]), (9, AO.inst 114 [en "number" (.int 2), en "advances" (.bool true), en "buffer" (.ref 3), en "position" (.int (a2 + e - s))]), (10, AO.inst 239 [en "buffer" (.ref 3), en "first" (.ref 8), en "last" (.ref 9)]), (11, AO.inst 114 [en "number" (.int 3), en "advances" (.bool false), en "buffer" (.ref 3), en "position" (.int a3)]), (12, AO.inst 275 [en "buffer" (.ref 3), en "marker" (.ref 11)])], [en "self" (.ref 6), en "start" (.int s), en "end" (.int e), en "is_before" (.bool false), en "number" (.int 2), en "marker" (.ref 9)], [], [], nx⟩)
 (N
 ⟨lay dk cells gs ge p b z tk ck [(1, AV.ref 8), (2, AV.ref 9), (3, AV.ref 11)] [(8, AO.inst 114 [en "number" (.int 1), en "advances" (.bool false), en "buffer" (.ref 3), en "position" (.int a1)]), (9, AO.inst 114 [en "number" (.int 2), en "advances" (.bool true), en "buffer" (.ref 3), en "position" (.int a2)]), (10, AO.inst 239 [en "buffer" (.ref 3), en "first" (.ref 8), en "last" (.ref 9)]), (11, AO.inst 114 [en "number" (.int 3), en "advances" (.bool false), en "buffer" (.ref 3), en "position" (.int a3)]), (12, AO.inst 275 [en "buffer" (.ref 3), en "marker" (.ref 11)])], [en "self" (.ref 6), en "start" (.int s), en "end" (.int e), en "is_before" (.bool false), en "number" (.int 2), en "marker" (.ref 9)], [], [], nx⟩))) := by kernel_rfl
theorem t_ins_a2 {dk cells : List Int} {gs ge p b z tk ck : Int} {nx : Nat} {s e : Int} {N : St → Prop} {Rt : AV → St → Prop} {a1 a2 a3 : Int} (h : N (mst dk cells gs ge p b z tk ck nx (.tri a1 (mIns s e true a2) a3) (bI s e ++ nm 2 9))) : turn (vAt 12) (mcx 5) (loopAt (M 7 5) 0) 2 (mst dk cells gs ge p b z tk ck nx (.tri a1 a2 a3) (bI s e ++ nm 1 8)) N Rt := by
  refine (vt_ins_a2 ..).mpr ?_
  unfold mIns at h
  exact br_dec (fun q => by rw [if_pos (.inl q)] at h; exact h) fun q => br_of (fun q' => by rw [if_pos (.inr ⟨by simpa using q', rfl⟩)] at h; exact h) fun q' => by rw [if_neg (by simp at q'; lia -abstractProof)] at h; exact h
theorem vt_ins_a3 (dk cells : List Int) (gs ge p b z tk ck : Int) (nx : Nat) (s e : Int) (N : St → Prop) (Rt : AV → St → Prop) (a1 a2 a3 : Int) : (turn (vAt 12) (mcx 5) (loopAt (M 7 5) 0) 3 (mst dk cells gs ge p b z tk ck nx (.tri a1 a2 a3) (bI s e ++ nm 2 9)) N Rt) = (
br (decide (a3 > s))
 (N
 ⟨lay dk cells gs ge p b z tk ck [(1, AV.ref 8), (2, AV.ref 9), (3, AV.ref 11)] [(8, AO.inst 114 [en "number" (.int 1), en "advances" (.bool false), en "buffer" (.ref 3), en "position" (.int a1)]), (9, AO.inst 114 [en "number" (.int 2), en "advances" (.bool true), en "buffer" (.ref 3), en "position" (.int a2)]), (10, AO.inst 239 [en "buffer" (.ref 3), en "first" (.ref 8), en "last" (.ref 9)]), (11, AO.inst 114 [en "number" (.int 3), en "advances" (.bool false), en "buffer" (.ref 3), en "position" (.int (a3 + e - s))]), (12, AO.inst 275 [en "buffer" (.ref 3), en "marker" (.ref 11)])], [en "self" (.ref 6), en "start" (.int s), en "end" (.int e), en "is_before" (.bool false), en "number" (.int 3), en "marker" (.ref 11)], [], [], nx⟩)
 (br (a3 == s)
 (N
 ⟨lay dk cells gs ge p b z tk ck [(1, AV.ref 8), (2, AV.ref 9), (3, AV.ref 11)] [(8, AO.inst 114 [en "number" (.int 1), en "advances" (.bool false), en "buffer" (.ref 3), en "position" (.int a1)]), (9, AO.inst 114 [en "number" (.int 2), en "advances" (.bool true), en "buffer" (.ref 3), en "position" (.int a2)]), (10, AO.inst 239 [en "buffer" (.ref 3), en "first" (.ref 8), en "last" (.ref 9)]), (11, AO.inst 114 [en "number" (.int 3), en "advances" (.bool false), en "buffer" (.ref 3), en "position" (.int a3)]), (12, AO.inst 275 [en "buffer" (.ref 3), en "marker" (.ref 11)])], [en "self" (.ref 6), en "start" (.int s), en "end" (.int e), en "is_before" (.bool false), en "number" (.int 3), en "marker" (.ref 11)], [], [], nx⟩)
 (N
 ⟨lay dk cells gs ge p b z tk ck [(1, AV.ref 8), (2, AV.ref 9), (3, AV.ref 11)] [(8, AO.inst 114 [en "number" (.int 1), en "advances" (.bool false), en "buffer" (.ref 3), en "position" (.int a1)]), (9, AO.inst 114 [en "number" (.int 2), en "advances" (.bool true), en "buffer" (.ref 3), en "position" (.int a2)]), (10, AO.inst 239 [en "buffer" (.ref 3), en "first" (.ref 8), en "last" (.ref 9)]), (11, AO.inst 114 [en "number" (.int 3), en "advances" (.bool false), en "buffer" (.ref 3), en "position" (.int a3)]), (12, AO.inst 275 [en "buffer" (.ref 3), en "marker" (.ref 11)])], [en "self" (.ref 6), en "start" (.int s), en "end" (.int e), en "is_before" (.bool false), en "number" (.int 3), en "marker" (.ref 11)], [], [], nx⟩))) := by kernel_rfl
theorem t_ins_a3 {dk cells : List Int} {gs ge p b z tk ck : Int} {nx : Nat} {s e : Int} {N : St → Prop} {Rt : AV → St → Prop} {a1 a2 a3 : Int} (h : N (mst dk cells gs ge p b z tk ck nx (.tri a1 a2 (mIns s e false a3)) (bI s e ++ nm 3 11))) : turn (vAt 12) (mcx 5) (loopAt (M 7 5) 0) 3 (mst dk cells gs ge p b z tk ck nx (.tri a1 a2 a3) (bI s e ++ nm 2 9)) N Rt := by
  refine (vt_ins_a3 ..).mpr ?_
  unfold mIns at h
  exact br_dec (fun q => by rw [if_pos (.inl q)] at h; exact h) fun q => by
    rw [if_neg (by simp; exact Int.not_lt.mp q)] at h
    exact br_of (fun _ => h) fun _ => h
theorem vt_ins_o (dk cells : List Int) (gs ge p b z tk ck : Int) (nx : Nat) (s e : Int) (N : St → Prop) (Rt : AV → St → Prop) (a3 : Int) : (turn (vAt 12) (mcx 5) (loopAt (M 7 5) 0) 3 (mst dk cells gs ge p b z tk ck nx (.one a3) (bI s e)) N Rt) = (
br (decide (a3 > s))
 (N
 ⟨lay dk cells gs ge p b z tk ck [(3, AV.ref 9)] [(8, AO.inst 239 [en "buffer" (.ref 3), en "first" .none, en "last" .none]), (9, AO.inst 114 [en "number" (.int 3), en "advances" (.bool false), en "buffer" (.ref 3), en "position" (.int (a3 + e - s))]), (10, AO.inst 275 [en "buffer" (.ref 3), en "marker" (.ref 9)])], [en "self" (.ref 6), en "start" (.int s), en "end" (.int e), en "is_before" (.bool false), en "number" (.int 3), en "marker" (.ref 9)], [], [], nx⟩)
 (br (a3 == s)
 (N
 ⟨lay dk cells gs ge p b z tk ck [(3, AV.ref 9)] [(8, AO.inst 239 [en "buffer" (.ref 3), en "first" .none, en "last" .none]), (9, AO.inst 114 [en "number" (.int 3), en "advances" (.bool false), en "buffer" (.ref 3), en "position" (.int a3)]), (10, AO.inst 275 [en "buffer" (.ref 3), en "marker" (.ref 9)])], [en "self" (.ref 6), en "start" (.int s), en "end" (.int e), en "is_before" (.bool false), en "number" (.int 3), en "marker" (.ref 9)], [], [], nx⟩)
 (N
 ⟨lay dk cells gs ge p b z tk ck [(3, AV.ref 9)] [(8, AO.inst 239 [en "buffer" (.ref 3), en "first" .none, en "last" .none]), (9, AO.inst 114 [en "number" (.int 3), en "advances" (.bool false), en "buffer" (.ref 3), en "position" (.int a3)]), (10, AO.inst 275 [en "buffer" (.ref 3), en "marker" (.ref 9)])], [en "self" (.ref 6), en "start" (.int s), en "end" (.int e), en "is_before" (.bool false), en "number" (.int 3), en "marker" (.ref 9)], [], [], nx⟩))) := by kernel_rfl
theorem t_ins_o {dk cells : List Int} {gs ge p b z tk ck : Int} {nx : Nat} {s e : Int} {N : St → Prop} {Rt : AV → St → Prop} {a3 : Int} (h : N (mst dk cells gs ge p b z tk ck nx (.one (mIns s e false a3)) (bI s e ++ nm 3 9))) : turn (vAt 12) (mcx 5) (loopAt (M 7 5) 0) 3 (mst dk cells gs ge p b z tk ck nx (.one a3) (bI s e)) N Rt := by
  refine (vt_ins_o ..).mpr ?_
  unfold mIns at h
  exact br_dec (fun q => by rw [if_pos (.inl q)] at h; exact h) fun q => by
    rw [if_neg (by simp; exact Int.not_lt.mp q)] at h
    exact br_of (fun _ => h) fun _ => h
theorem vs_ins_no (dk cells : List Int) (gs ge p b z tk ck : Int) (nx : Nat) (s e : Int) (P : PRes) (X : XRes) : vFn 14 g2 1 none false (M 7 5) [.ref 6, .int s, .int e, .bool false] (lay dk cells gs ge p b z tk ck (Mk.rows .no) (Mk.rest .no)) nx P X = (([AV.ref 6] : List AV).length = 1 ∧ (Mk.rows .no).length < 64 ∧ vFor (vAt 12) (mcx 5) (forT (loopAt (M 7 5) 0)) (forB (loopAt (M 7 5) 0)) (fun σ => P .none σ.hp σ.nxt) (fun v σ => P v σ.hp σ.nxt) [] (mst dk cells gs ge p b z tk ck nx .no (bI s e))) := by kernel_rfl
theorem vs_ins_one (dk cells : List Int) (gs ge p b z tk ck : Int) (nx : Nat) (s e : Int) (P : PRes) (X : XRes) (a3 : Int) : vFn 14 g2 1 none false (M 7 5) [.ref 6, .int s, .int e, .bool false] (lay dk cells gs ge p b z tk ck (Mk.rows (.one a3)) (Mk.rest (.one a3))) nx P X = (([AV.ref 6] : List AV).length = 1 ∧ (Mk.rows (.one a3)).length < 64 ∧ vFor (vAt 12) (mcx 5) (forT (loopAt (M 7 5) 0)) (forB (loopAt (M 7 5) 0)) (fun σ => P .none σ.hp σ.nxt) (fun v σ => P v σ.hp σ.nxt) [3] (mst dk cells gs ge p b z tk ck nx (.one a3) (bI s e))) := by kernel_rfl
theorem vs_ins_tri (dk cells : List Int) (gs ge p b z tk ck : Int) (nx : Nat) (s e : Int) (P : PRes) (X : XRes) (a1 a2 a3 : Int) : vFn 14 g2 1 none false (M 7 5) [.ref 6, .int s, .int e, .bool false] (lay dk cells gs ge p b z tk ck (Mk.rows (.tri a1 a2 a3)) (Mk.rest (.tri a1 a2 a3))) nx P X = (([AV.ref 6] : List AV).length = 1 ∧ (Mk.rows (.tri a1 a2 a3)).length < 64 ∧ vFor (vAt 12) (mcx 5) (forT (loopAt (M 7 5) 0)) (forB (loopAt (M 7 5) 0)) (fun σ => P .none σ.hp σ.nxt) (fun v σ => P v σ.hp σ.nxt) [1, 2, 3] (mst dk cells gs ge p b z tk ck nx (.tri a1 a2 a3) (bI s e))) := by kernel_rfl
theorem ok_mins {W : Wd} (H : Pg W) : PTok W 2 (.ref 165) ptMIns := (fn_ok (m := 14) (mr := false) H.f165 (g2_ok H) fun as hp nx P X hh => ex12 hh fun dk cells gs ge p b z tk ck mk s e hj => an3 hj fun e1 e2 q => by
  clear hj hh
  subst e1 e2
  refine ⟨rfl, ?_⟩
  cases mk with
  | no => exact (vs_ins_no ..).mpr ⟨rfl, by decide, q⟩
  | one a => exact (vs_ins_one ..).mpr ⟨rfl, Nat.le_of_ble_eq_true rfl, (turn_cons (t_ins_o q))⟩
  | tri a₁ a₂ a₃ => exact (vs_ins_tri ..).mpr ⟨rfl, Nat.le_of_ble_eq_true rfl, (turn_cons (t_ins_a1 (turn_cons (t_ins_a2 (turn_cons (t_ins_a3 q))))))⟩).ok
theorem vt_del_a1 (dk cells : List Int) (gs ge p b z tk ck : Int) (nx : Nat) (s e : Int) (N : St → Prop) (Rt : AV → St → Prop) (a1 a2 a3 : Int) : (turn (vAt 12) (mcx 6) (loopAt (M 7 6) 0) 1 (mst dk cells gs ge p b z tk ck nx (.tri a1 a2 a3) (bD s e)) N Rt) = (
br (decide (a1 > e))
 (N
 ⟨lay dk cells gs ge p b z tk ck [(1, AV.ref 8), (2, AV.ref 9), (3, AV.ref 11)] [(8, AO.inst 114 [en "number" (.int 1), en "advances" (.bool false), en "buffer" (.ref 3), en "position" (.int (a1 - (e - s)))]), (9, AO.inst 114 [en "number" (.int 2), en "advances" (.bool true), en "buffer" (.ref 3), en "position" (.int a2)]), (10, AO.inst 239 [en "buffer" (.ref 3), en "first" (.ref 8), en "last" (.ref 9)]), (11, AO.inst 114 [en "number" (.int 3), en "advances" (.bool false), en "buffer" (.ref 3), en "position" (.int a3)]), (12, AO.inst 275 [en "buffer" (.ref 3), en "marker" (.ref 11)])], [en "self" (.ref 6), en "start" (.int s), en "end" (.int e), en "number" (.int 1), en "marker" (.ref 8)], [], [], nx⟩)
 (br (decide (a1 > s))
 (N
 ⟨lay dk cells gs ge p b z tk ck [(1, AV.ref 8), (2, AV.ref 9), (3, AV.ref 11)] [(8, AO.inst 114 [en "number" (.int 1), en "advances" (.bool false), en "buffer" (.ref 3), en "position" (.int s)]), (9, AO.inst 114 [en "number" (.int 2), en "advances" (.bool true), en "buffer" (.ref 3), en "position" (.int a2)]), (10, AO.inst 239 [en "buffer" (.ref 3), en "first" (.ref 8), en "last" (.ref 9)]), (11, AO.inst 114 [en "number" (.int 3), en "advances" (.bool false), en "buffer" (.ref 3), en "position" (.int a3)]), (12, AO.inst 275 [en "buffer" (.ref 3), en "marker" (.ref 11)])], [en "self" (.ref 6), en "start" (.int s), en "end" (.int e), en "number" (.int 1), en "marker" (.ref 8)], [], [], nx⟩)
 (N
 ⟨lay dk cells gs ge p b z tk ck [(1, AV.ref 8), (2, AV.ref 9), (3, AV.ref 11)] [(8, AO.inst 114 [en "number" (.int 1), en "advances" (.bool false), en "buffer" (.ref 3), en "position" (.int a1)]), (9, AO.inst 114 [en "number" (.int 2), en "advances" (.bool true), en "buffer" (.ref 3), en "position" (.int a2)]), (10, AO.inst 239 [en "buffer" (.ref 3), en "first" (.ref 8), en "last" (.ref 9)]), (11, AO.inst 114 [en "number" (.int 3), en "advances" (.bool false), en "buffer" (.ref 3), en "position" (.int a3)]), (12, AO.inst 275 [en "buffer" (.ref 3), en "marker" (.ref 11)])], [en "self" (.ref 6), en "start" (.int s), en "end" (.int e), en "number" (.int 1), en "marker" (.ref 8)], [], [], nx⟩))) := by kernel_rfl
theorem t_del_a1 {dk cells : List Int} {gs ge p b z tk ck : Int} {nx : Nat} {s e : Int} {N : St → Prop} {Rt : AV → St → Prop} {a1 a2 a3 : Int} (h : N (mst dk cells gs ge p b z tk ck nx (.tri (mDel s e a1) a2 a3) (bD s e ++ nm 1 8))) : turn (vAt 12) (mcx 6) (loopAt (M 7 6) 0) 1 (mst dk cells gs ge p b z tk ck nx (.tri a1 a2 a3) (bD s e)) N Rt := by
  refine (vt_del_a1 ..).mpr ?_
  unfold mDel at h
  exact br_dec (fun q => by rw [if_pos q] at h; exact h) fun q => br_dec (fun q' => by rw [if_neg q, if_pos q'] at h; exact h) fun q' => by rw [if_neg q, if_neg q'] at h; exact h
theorem vt_del_a2 (dk cells : List Int) (gs ge p b z tk ck : Int) (nx : Nat) (s e : Int) (N : St → Prop) (Rt : AV → St → Prop) (a1 a2 a3 : Int) : (turn (vAt 12) (mcx 6) (loopAt (M 7 6) 0) 2 (mst dk cells gs ge p b z tk ck nx (.tri a1 a2 a3) (bD s e ++ nm 1 8)) N Rt) = (
br (decide (a2 > e))
 (N
 ⟨lay dk cells gs ge p b z tk ck [(1, AV.ref 8), (2, AV.ref 9), (3, AV.ref 11)] [(8, AO.inst 114 [en "number" (.int 1), en "advances" (.bool false), en "buffer" (.ref 3), en "position" (.int a1)]), (9, AO.inst 114 [en "number" (.int 2), en "advances" (.bool true), en "buffer" (.ref 3), en "position" (.int (a2 - (e - s)))]), (10, AO.inst 239 [en "buffer" (.ref 3), en "first" (.ref 8), en "last" (.ref 9)]), (11, AO.inst 114 [en "number" (.int 3), en "advances" (.bool false), en "buffer" (.ref 3), en "position" (.int a3)]), (12, AO.inst 275 [en "buffer" (.ref 3), en "marker" (.ref 11)])], [en "self" (.ref 6), en "start" (.int s), en "end" (.int e), en "number" (.int 2), en "marker" (.ref 9)], [], [], nx⟩)
 (br (decide (a2 > s))
 (N
 ⟨lay dk cells gs ge p b z tk ck [(1, AV.ref 8), (2, AV.ref 9), (3, AV.ref 11)] [(8, AO.inst 114 [en "number" (.int 1), en "advances" (.bool false), en "buffer" (.ref 3), en "position" (.int a1)]), (9, AO.inst 114 [en "number" (.int 2), en "advances" (.bool true), en "buffer" (.ref 3), en "position" (.int s)]), (10, AO.inst 239 [en "buffer" (.ref 3), en "first" (.ref 8), en "last" (.ref 9)]), (11, AO.inst 114 [en "number" (.int 3), en "advances" (.bool false), en "buffer" (.ref 3), en "position" (.int a3)]), (12, AO.inst 275 [en "buffer" (.ref 3), en "marker" (.ref 11)])], [en "self" (.ref 6), en "start" (.int s), en "end" (.int e), en "number" (.int 2), en "marker" (.ref 9)], [], [], nx⟩)
 (N
 ⟨lay dk cells gs ge p b z tk ck [(1, AV.ref 8), (2, AV.ref 9), (3, AV.ref 11)] [(8, AO.inst 114 [en "number" (.int 1), en "advances" (.bool false), en "buffer" (.ref 3), en "position" (.int a1)]), (9, AO.inst 114 [en "number" (.int 2), en "advances" (.bool true), en "buffer" (.ref 3), en "position" (.int a2)]), (10, AO.inst 239 [en "buffer" (.ref 3), en "first" (.ref 8), en "last" (.ref 9)]), (11, AO.inst 114 [en "number" (.int 3), en "advances" (.bool false), en "buffer" (.ref 3), en "position" (.int a3)]), (12, AO.inst 275 [en "buffer" (.ref 3), en "marker" (.ref 11)])], [en "self" (.ref 6), en "start" (.int s), en "end" (.int e), en "number" (.int 2), en "marker" (.ref 9)], [], [], nx⟩))) := by kernel_rfl
theorem t_del_a2 {dk cells : List Int} {gs ge p b z tk ck : Int} {nx : Nat} {s e : Int} {N : St → Prop} {Rt : AV → St → Prop} {a1 a2 a3 : Int} (h : N (mst dk cells gs ge p b z tk ck nx (.tri a1 (mDel s e a2) a3) (bD s e ++ nm 2 9))) : turn (vAt 12) (mcx 6) (loopAt (M 7 6) 0) 2 (mst dk cells gs ge p b z tk ck nx (.tri a1 a2 a3) (bD s e ++ nm 1 8)) N Rt := by
  refine (vt_del_a2 ..).mpr ?_
  unfold mDel at h
  exact br_dec (fun q => by rw [if_pos q] at h; exact h) fun q => br_dec (fun q' => by rw [if_neg q, if_pos q'] at h; exact h) fun q' => by rw [if_neg q, if_neg q'] at h; exact h
theorem vt_del_a3 (dk cells : List Int) (gs ge p b z tk ck : Int) (nx : Nat) (s e : Int) (N : St → Prop) (Rt : AV → St → Prop) (a1 a2 a3 : Int) : (turn (vAt 12) (mcx 6) (loopAt (M 7 6) 0) 3 (mst dk cells gs ge p b z tk ck nx (.tri a1 a2 a3) (bD s e ++ nm 2 9)) N Rt) = (
br (decide (a3 > e))
 (N
 ⟨lay dk cells gs ge p b z tk ck [(1, AV.ref 8), (2, AV.ref 9), (3, AV.ref 11)] [(8, AO.inst 114 [en "number" (.int 1), en "advances" (.bool false), en "buffer" (.ref 3), en "position" (.int a1)]), (9, AO.inst 114 [en "number" (.int 2), en "advances" (.bool true), en "buffer" (.ref 3), en "position" (.int a2)]), (10, AO.inst 239 [en "buffer" (.ref 3), en "first" (.ref 8), en "last" (.ref 9)]), (11, AO.inst 114 [en "number" (.int 3), en "advances" (.bool false), en "buffer" (.ref 3), en "position" (.int (a3 - (e - s)))]), (12, AO.inst 275 [en "buffer" (.ref 3), en "marker" (.ref 11)])], [en "self" (.ref 6), en "start" (.int s), en "end" (.int e), en "number" (.int 3), en "marker" (.ref 11)], [], [], nx⟩)
 (br (decide (a3 > s))
 (N
 ⟨lay dk cells gs ge p b z tk ck [(1, AV.ref 8), (2, AV.ref 9), (3, AV.ref 11)] [(8, AO.inst 114 [en "number" (.int 1), en "advances" (.bool false), en "buffer" (.ref 3), en "position" (.int a1)]), (9, AO.inst 114 [en "number" (.int 2), en "advances" (.bool true), en "buffer" (.ref 3), en "position" (.int a2)]), (10, AO.inst 239 [en "buffer" (.ref 3), en "first" (.ref 8), en "last" (.ref 9)]), (11, AO.inst 114 [en "number" (.int 3), en "advances" (.bool false), en "buffer" (.ref 3), en "position" (.int s)]), (12, AO.inst 275 [en "buffer" (.ref 3), en "marker" (.ref 11)])], [en "self" (.ref 6), en "start" (.int s), en "end" (.int e), en "number" (.int 3), en "marker" (.ref 11)], [], [], nx⟩)
 (N
 ⟨lay dk cells gs ge p b z tk ck [(1, AV.ref 8), (2, AV.ref 9), (3, AV.ref 11)] [(8, AO.inst 114 [en "number" (.int 1), en "advances" (.bool false), en "buffer" (.ref 3), en "position" (.int a1)]), (9, AO.inst 114 [en "number" (.int 2), en "advances" (.bool true), en "buffer" (.ref 3), en "position" (.int a2)]), (10, AO.inst 239 [en "buffer" (.ref 3), en "first" (.ref 8), en "last" (.ref 9)]), (11, AO.inst 114 [en "number" (.int 3), en "advances" (.bool false), en "buffer" (.ref 3), en "position" (.int a3)]), (12, AO.inst 275 [en "buffer" (.ref 3), en "marker" (.ref 11)])], [en "self" (.ref 6), en "start" (.int s), en "end" (.int e), en "number" (.int 3), en "marker" (.ref 11)], [], [], nx⟩))) := by kernel_rfl
theorem t_del_a3 {dk cells : List Int} {gs ge p b z tk ck : Int} {nx : Nat} {s e : Int} {N : St → Prop} {Rt : AV → St → Prop} {a1 a2 a3 : Int} (h : N (mst dk cells gs ge p b z tk ck nx (.tri a1 a2 (mDel s e a3)) (bD s e ++ nm 3 11))) : turn (vAt 12) (mcx 6) (loopAt (M 7 6) 0) 3 (mst dk cells gs ge p b z tk ck nx (.tri a1 a2 a3) (bD s e ++ nm 2 9)) N Rt := by
  refine (vt_del_a3 ..).mpr ?_
  unfold mDel at h
  exact br_dec (fun q => by rw [if_pos q] at h; exact h) fun q => br_dec (fun q' => by rw [if_neg q, if_pos q'] at h; exact h) fun q' => by rw [if_neg q, if_neg q'] at h; exact h
theorem vt_del_o (dk cells : List Int) (gs ge p b z tk ck : Int) (nx : Nat) (s e : Int) (N : St → Prop) (Rt : AV → St → Prop) (a3 : Int) : (turn (vAt 12) (mcx 6) (loopAt (M 7 6) 0) 3 (mst dk cells gs ge p b z tk ck nx (.one a3) (bD s e)) N Rt) = (
br (decide (a3 > e))
 (N
 ⟨lay dk cells gs ge p b z tk ck [(3, AV.ref 9)] [(8, AO.inst 239 [en "buffer" (.ref 3), en "first" .none, en "last" .none]), (9, AO.inst 114 [en "number" (.int 3), en "advances" (.bool false), en "buffer" (.ref 3), en "position" (.int (a3 - (e - s)))]), (10, AO.inst 275 [en "buffer" (.ref 3), en "marker" (.ref 9)])], [en "self" (.ref 6), en "start" (.int s), en "end" (.int e), en "number" (.int 3), en "marker" (.ref 9)], [], [], nx⟩)
 (br (decide (a3 > s))
 (N
 ⟨lay dk cells gs ge p b z tk ck [(3, AV.ref 9)] [(8, AO.inst 239 [en "buffer" (.ref 3), en "first" .none, en "last" .none]), (9, AO.inst 114 [en "number" (.int 3), en "advances" (.bool false), en "buffer" (.ref 3), en "position" (.int s)]), (10, AO.inst 275 [en "buffer" (.ref 3), en "marker" (.ref 9)])], [en "self" (.ref 6), en "start" (.int s), en "end" (.int e), en "number" (.int 3), en "marker" (.ref 9)], [], [], nx⟩)
 (N
 ⟨lay dk cells gs ge p b z tk ck [(3, AV.ref 9)] [(8, AO.inst 239 [en "buffer" (.ref 3), en "first" .none, en "last" .none]), (9, AO.inst 114 [en "number" (.int 3), en "advances" (.bool false), en "buffer" (.ref 3), en "position" (.int a3)]), (10, AO.inst 275 [en "buffer" (.ref 3), en "marker" (.ref 9)])], [en "self" (.ref 6), en "start" (.int s), en "end" (.int e), en "number" (.int 3), en "marker" (.ref 9)], [], [], nx⟩))) := by kernel_rfl
theorem t_del_o {dk cells : List Int} {gs ge p b z tk ck : Int} {nx : Nat} {s e : Int} {N : St → Prop} {Rt : AV → St → Prop} {a3 : Int} (h : N (mst dk cells gs ge p b z tk ck nx (.one (mDel s e a3)) (bD s e ++ nm 3 9))) : turn (vAt 12) (mcx 6) (loopAt (M 7 6) 0) 3 (mst dk cells gs ge p b z tk ck nx (.one a3) (bD s e)) N Rt := by
  refine (vt_del_o ..).mpr ?_
  unfold mDel at h
  exact br_dec (fun q => by rw [if_pos q] at h; exact h) fun q => br_dec (fun q' => by rw [if_neg q, if_pos q'] at h; exact h) fun q' => by rw [if_neg q, if_neg q'] at h; exact h
theorem vs_del_no (dk cells : List Int) (gs ge p b z tk ck : Int) (nx : Nat) (s e : Int) (P : PRes) (X : XRes) : vFn 14 g2 1 none false (M 7 6) [.ref 6, .int s, .int e] (lay dk cells gs ge p b z tk ck (Mk.rows .no) (Mk.rest .no)) nx P X = (([AV.ref 6] : List AV).length = 1 ∧ (Mk.rows .no).length < 64 ∧ vFor (vAt 12) (mcx 6) (forT (loopAt (M 7 6) 0)) (forB (loopAt (M 7 6) 0)) (fun σ => P .none σ.hp σ.nxt) (fun v σ => P v σ.hp σ.nxt) [] (mst dk cells gs ge p b z tk ck nx .no (bD s e))) := by kernel_rfl
theorem vs_del_one (dk cells : List Int) (gs ge p b z tk ck : Int) (nx : Nat) (s e : Int) (P : PRes) (X : XRes) (a3 : Int) : vFn 14 g2 1 none false (M 7 6) [.ref 6, .int s, .int e] (lay dk cells gs ge p b z tk ck (Mk.rows (.one a3)) (Mk.rest (.one a3))) nx P X = (([AV.ref 6] : List AV).length = 1 ∧ (Mk.rows (.one a3)).length < 64 ∧ vFor (vAt 12) (mcx 6) (forT (loopAt (M 7 6) 0)) (forB (loopAt (M 7 6) 0)) (fun σ => P .none σ.hp σ.nxt) (fun v σ => P v σ.hp σ.nxt) [3] (mst dk cells gs ge p b z tk ck nx (.one a3) (bD s e))) := by kernel_rfl
theorem vs_del_tri (dk cells : List Int) (gs ge p b z tk ck : Int) (nx : Nat) (s e : Int) (P : PRes) (X : XRes) (a1 a2 a3 : Int) : vFn 14 g2 1 none false (M 7 6) [.ref 6, .int s, .int e] (lay dk cells gs ge p b z tk ck (Mk.rows (.tri a1 a2 a3)) (Mk.rest (.tri a1 a2 a3))) nx P X = (([AV.ref 6] : List AV).length = 1 ∧ (Mk.rows (.tri a1 a2 a3)).length < 64 ∧ vFor (vAt 12) (mcx 6) (forT (loopAt (M 7 6) 0)) (forB (loopAt (M 7 6) 0)) (fun σ => P .none σ.hp σ.nxt) (fun v σ => P v σ.hp σ.nxt) [1, 2, 3] (mst dk cells gs ge p b z tk ck nx (.tri a1 a2 a3) (bD s e))) := by kernel_rfl
theorem ok_mdel {W : Wd} (H : Pg W) : PTok W 2 (.ref 172) ptMDel := (fn_ok (m := 14) (mr := false) H.f172 (g2_ok H) fun as hp nx P X hh => ex12 hh fun dk cells gs ge p b z tk ck mk s e hj => an3 hj fun e1 e2 q => by
  clear hj hh
  subst e1 e2
  refine ⟨rfl, ?_⟩
  cases mk with
  | no => exact (vs_del_no ..).mpr ⟨rfl, by decide, q⟩
  | one a => exact (vs_del_one ..).mpr ⟨rfl, Nat.le_of_ble_eq_true rfl, (turn_cons (t_del_o q))⟩
  | tri a₁ a₂ a₃ => exact (vs_del_tri ..).mpr ⟨rfl, Nat.le_of_ble_eq_true rfl, (turn_cons (t_del_a1 (turn_cons (t_del_a2 (turn_cons (t_del_a3 q))))))⟩).ok
theorem vt_rep_a1 (dk cells : List Int) (gs ge p b z tk ck : Int) (nx : Nat) (s e n : Int) (N : St → Prop) (Rt : AV → St → Prop) (a1 a2 a3 : Int) : (turn (vAt 12) (mcx 7) (loopAt (M 7 7) 0) 1 (mst dk cells gs ge p b z tk ck nx (.tri a1 a2 a3) (bR s e n)) N Rt) = (
br (decide (a1 ≥ e))
 (N
 ⟨lay dk cells gs ge p b z tk ck [(1, AV.ref 8), (2, AV.ref 9), (3, AV.ref 11)] [(8, AO.inst 114 [en "number" (.int 1), en "advances" (.bool false), en "buffer" (.ref 3), en "position" (.int (a1 + n - (e - s)))]), (9, AO.inst 114 [en "number" (.int 2), en "advances" (.bool true), en "buffer" (.ref 3), en "position" (.int a2)]), (10, AO.inst 239 [en "buffer" (.ref 3), en "first" (.ref 8), en "last" (.ref 9)]), (11, AO.inst 114 [en "number" (.int 3), en "advances" (.bool false), en "buffer" (.ref 3), en "position" (.int a3)]), (12, AO.inst 275 [en "buffer" (.ref 3), en "marker" (.ref 11)])], [en "self" (.ref 6), en "start" (.int s), en "end" (.int e), en "many" (.int n), en "number" (.int 1), en "marker" (.ref 8)], [], [], nx⟩)
 (br (decide (a1 > s))
 (N
 ⟨lay dk cells gs ge p b z tk ck [(1, AV.ref 8), (2, AV.ref 9), (3, AV.ref 11)] [(8, AO.inst 114 [en "number" (.int 1), en "advances" (.bool false), en "buffer" (.ref 3), en "position" (.int s)]), (9, AO.inst 114 [en "number" (.int 2), en "advances" (.bool true), en "buffer" (.ref 3), en "position" (.int a2)]), (10, AO.inst 239 [en "buffer" (.ref 3), en "first" (.ref 8), en "last" (.ref 9)]), (11, AO.inst 114 [en "number" (.int 3), en "advances" (.bool false), en "buffer" (.ref 3), en "position" (.int a3)]), (12, AO.inst 275 [en "buffer" (.ref 3), en "marker" (.ref 11)])], [en "self" (.ref 6), en "start" (.int s), en "end" (.int e), en "many" (.int n), en "number" (.int 1), en "marker" (.ref 8)], [], [], nx⟩)
 (N
 ⟨lay dk cells gs ge p b z tk ck [(1, AV.ref 8), (2, AV.ref 9), (3, AV.ref 11)] [(8, AO.inst 114 [en "number" (.int 1), en "advances" (.bool false), en "buffer" (.ref 3), en "position" (.int a1)]), (9, AO.inst 114 [en "number" (.int 2), en "advances" (.bool true), en "buffer" (.ref 3), en "position" (.int a2)]), (10, AO.inst 239 [en "buffer" (.ref 3), en "first" (.ref 8), en "last" (.ref 9)]), (11, AO.inst 114 [en "number" (.int 3), en "advances" (.bool false), en "buffer" (.ref 3), en "position" (.int a3)]), (12, AO.inst 275 [en "buffer" (.ref 3), en "marker" (.ref 11)])], [en "self" (.ref 6), en "start" (.int s), en "end" (.int e), en "many" (.int n), en "number" (.int 1), en "marker" (.ref 8)], [], [], nx⟩))) := by kernel_rfl
theorem t_rep_a1 {dk cells : List Int} {gs ge p b z tk ck : Int} {nx : Nat} {s e n : Int} {N : St → Prop} {Rt : AV → St → Prop} {a1 a2 a3 : Int} (h : N (mst dk cells gs ge p b z tk ck nx (.tri (mRep s e n a1) a2 a3) (bR s e n ++ nm 1 8))) : turn (vAt 12) (mcx 7) (loopAt (M 7 7) 0) 1 (mst dk cells gs ge p b z tk ck nx (.tri a1 a2 a3) (bR s e n)) N Rt := by
  refine (vt_rep_a1 ..).mpr ?_
  unfold mRep at h
  exact br_dec (fun q => by rw [if_pos q] at h; exact h) fun q => br_dec (fun q' => by rw [if_neg q, if_pos q'] at h; exact h) fun q' => by rw [if_neg q, if_neg q'] at h; exact h
theorem vt_rep_a2 (dk cells : List Int) (gs ge p b z tk ck : Int) (nx : Nat) (s e n : Int) (N : St → Prop) (Rt : AV → St → Prop) (a1 a2 a3 : Int) : (turn (vAt 12) (mcx 7) (loopAt (M 7 7) 0) 2 (mst dk cells gs ge p b z tk ck nx (.tri a1 a2 a3) (bR s e n ++ nm 1 8)) N Rt) = (
br (decide (a2 ≥ e))
 (N
 ⟨lay dk cells gs ge p b z tk ck [(1, AV.ref 8), (2, AV.ref 9), (3, AV.ref 11)] [(8, AO.inst 114 [en "number" (.int 1), en "advances" (.bool false), en "buffer" (.ref 3), en "position" (.int a1)]), (9, AO.inst 114 [en "number" (.int 2), en "advances" (.bool true), en "buffer" (.ref 3), en "position" (.int (a2 + n - (e - s)))]), (10, AO.inst 239 [en "buffer" (.ref 3), en "first" (.ref 8), en "last" (.ref 9)]), (11, AO.inst 114 [en "number" (.int 3), en "advances" (.bool false), en "buffer" (.ref 3), en "position" (.int a3)]), (12, AO.inst 275 [en "buffer" (.ref 3), en "marker" (.ref 11)])], [en "self" (.ref 6), en "start" (.int s), en "end" (.int e), en "many" (.int n), en "number" (.int 2), en "marker" (.ref 9)], [], [], nx⟩)
 (br (decide (a2 > s))
 (N
 ⟨lay dk cells gs ge p b z tk ck [(1, AV.ref 8), (2, AV.ref 9), (3, AV.ref 11)] [(8, AO.inst 114 [en "number" (.int 1), en "advances" (.bool false), en "buffer" (.ref 3), en "position" (.int a1)]), (9, AO.inst 114 [en "number" (.int 2), en "advances" (.bool true), en "buffer" (.ref 3), en "position" (.int s)]), (10, AO.inst 239 [en "buffer" (.ref 3), en "first" (.ref 8), en "last" (.ref 9)]), (11, AO.inst 114 [en "number" (.int 3), en "advances" (.bool false), en "buffer" (.ref 3), en "position" (.int a3)]), (12, AO.inst 275 [en "buffer" (.ref 3), en "marker" (.ref 11)])], [en "self" (.ref 6), en "start" (.int s), en "end" (.int e), en "many" (.int n), en "number" (.int 2), en "marker" (.ref 9)], [], [], nx⟩)
 (N
 ⟨lay dk cells gs ge p b z tk ck [(1, AV.ref 8), (2, AV.ref 9), (3, AV.ref 11)] [(8, AO.inst 114 [en "number" (.int 1), en "advances" (.bool false), en "buffer" (.ref 3), en "position" (.int a1)]), (9, AO.inst 114 [en "number" (.int 2), en "advances" (.bool true), en "buffer" (.ref 3), en "position" (.int a2)]), (10, AO.inst 239 [en "buffer" (.ref 3), en "first" (.ref 8), en "last" (.ref 9)]), (11, AO.inst 114 [en "number" (.int 3), en "advances" (.bool false), en "buffer" (.ref 3), en "position" (.int a3)]), (12, AO.inst 275 [en "buffer" (.ref 3), en "marker" (.ref 11)])], [en "self" (.ref 6), en "start" (.int s), en "end" (.int e), en "many" (.int n), en "number" (.int 2), en "marker" (.ref 9)], [], [], nx⟩))) := by kernel_rfl
theorem t_rep_a2 {dk cells : List Int} {gs ge p b z tk ck : Int} {nx : Nat} {s e n : Int} {N : St → Prop} {Rt : AV → St → Prop} {a1 a2 a3 : Int} (h : N (mst dk cells gs ge p b z tk ck nx (.tri a1 (mRep s e n a2) a3) (bR s e n ++ nm 2 9))) : turn (vAt 12) (mcx 7) (loopAt (M 7 7) 0) 2 (mst dk cells gs ge p b z tk ck nx (.tri a1 a2 a3) (bR s e n ++ nm 1 8)) N Rt := by
  refine (vt_rep_a2 ..).mpr ?_
  unfold mRep at h
  exact br_dec (fun q => by rw [if_pos q] at h; exact h) fun q => br_dec (fun q' => by rw [if_neg q, if_pos q'] at h; exact h) fun q' => by rw [if_neg q, if_neg q'] at h; exact h
theorem vt_rep_a3 (dk cells : List Int) (gs ge p b z tk ck : Int) (nx : Nat) (s e n : Int) (N : St → Prop) (Rt : AV → St → Prop) (a1 a2 a3 : Int) : (turn (vAt 12) (mcx 7) (loopAt (M 7 7) 0) 3 (mst dk cells gs ge p b z tk ck nx (.tri a1 a2 a3) (bR s e n ++ nm 2 9)) N Rt) = (
br (decide (a3 ≥ e))
 (N
 ⟨lay dk cells gs ge p b z tk ck [(1, AV.ref 8), (2, AV.ref 9), (3, AV.ref 11)] [(8, AO.inst 114 [en "number" (.int 1), en "advances" (.bool false), en "buffer" (.ref 3), en "position" (.int a1)]), (9, AO.inst 114 [en "number" (.int 2), en "advances" (.bool true), en "buffer" (.ref 3), en "position" (.int a2)]), (10, AO.inst 239 [en "buffer" (.ref 3), en "first" (.ref 8), en "last" (.ref 9)]), (11, AO.inst 114 [en "number" (.int 3), en "advances" (.bool false), en "buffer" (.ref 3), en "position" (.int (a3 + n - (e - s)))]), (12, AO.inst 275 [en "buffer" (.ref 3), en "marker" (.ref 11)])], [en "self" (.ref 6), en "start" (.int s), en "end" (.int e), en "many" (.int n), en "number" (.int 3), en "marker" (.ref 11)], [], [], nx⟩)
 (br (decide (a3 > s))
 (N
 ⟨lay dk cells gs ge p b z tk ck [(1, AV.ref 8), (2, AV.ref 9), (3, AV.ref 11)] [(8, AO.inst 114 [en "number" (.int 1), en "advances" (.bool false), en "buffer" (.ref 3), en "position" (.int a1)]), (9, AO.inst 114 [en "number" (.int 2), en "advances" (.bool true), en "buffer" (.ref 3), en "position" (.int a2)]), (10, AO.inst 239 [en "buffer" (.ref 3), en "first" (.ref 8), en "last" (.ref 9)]), (11, AO.inst 114 [en "number" (.int 3), en "advances" (.bool false), en "buffer" (.ref 3), en "position" (.int s)]), (12, AO.inst 275 [en "buffer" (.ref 3), en "marker" (.ref 11)])], [en "self" (.ref 6), en "start" (.int s), en "end" (.int e), en "many" (.int n), en "number" (.int 3), en "marker" (.ref 11)], [], [], nx⟩)
 (N
 ⟨lay dk cells gs ge p b z tk ck [(1, AV.ref 8), (2, AV.ref 9), (3, AV.ref 11)] [(8, AO.inst 114 [en "number" (.int 1), en "advances" (.bool false), en "buffer" (.ref 3), en "position" (.int a1)]), (9, AO.inst 114 [en "number" (.int 2), en "advances" (.bool true), en "buffer" (.ref 3), en "position" (.int a2)]), (10, AO.inst 239 [en "buffer" (.ref 3), en "first" (.ref 8), en "last" (.ref 9)]), (11, AO.inst 114 [en "number" (.int 3), en "advances" (.bool false), en "buffer" (.ref 3), en "position" (.int a3)]), (12, AO.inst 275 [en "buffer" (.ref 3), en "marker" (.ref 11)])], [en "self" (.ref 6), en "start" (.int s), en "end" (.int e), en "many" (.int n), en "number" (.int 3), en "marker" (.ref 11)], [], [], nx⟩))) := by kernel_rfl
theorem t_rep_a3 {dk cells : List Int} {gs ge p b z tk ck : Int} {nx : Nat} {s e n : Int} {N : St → Prop} {Rt : AV → St → Prop} {a1 a2 a3 : Int} (h : N (mst dk cells gs ge p b z tk ck nx (.tri a1 a2 (mRep s e n a3)) (bR s e n ++ nm 3 11))) : turn (vAt 12) (mcx 7) (loopAt (M 7 7) 0) 3 (mst dk cells gs ge p b z tk ck nx (.tri a1 a2 a3) (bR s e n ++ nm 2 9)) N Rt := by
  refine (vt_rep_a3 ..).mpr ?_
  unfold mRep at h
  exact br_dec (fun q => by rw [if_pos q] at h; exact h) fun q => br_dec (fun q' => by rw [if_neg q, if_pos q'] at h; exact h) fun q' => by rw [if_neg q, if_neg q'] at h; exact h
theorem vt_rep_o (dk cells : List Int) (gs ge p b z tk ck : Int) (nx : Nat) (s e n : Int) (N : St → Prop) (Rt : AV → St → Prop) (a3 : Int) : (turn (vAt 12) (mcx 7) (loopAt (M 7 7) 0) 3 (mst dk cells gs ge p b z tk ck nx (.one a3) (bR s e n)) N Rt) = (
br (decide (a3 ≥ e))
 (N
 ⟨lay dk cells gs ge p b z tk ck [(3, AV.ref 9)] [(8, AO.inst 239 [en "buffer" (.ref 3), en "first" .none, en "last" .none]), (9, AO.inst 114 [en "number" (.int 3), en "advances" (.bool false), en "buffer" (.ref 3), en "position" (.int (a3 + n - (e - s)))]), (10, AO.inst 275 [en "buffer" (.ref 3), en "marker" (.ref 9)])], [en "self" (.ref 6), en "start" (.int s), en "end" (.int e), en "many" (.int n), en "number" (.int 3), en "marker" (.ref 9)], [], [], nx⟩)
 (br (decide (a3 > s))
 (N
 ⟨lay dk cells gs ge p b z tk ck [(3, AV.ref 9)] [(8, AO.inst 239 [en "buffer" (.ref 3), en "first" .none, en "last" .none]), (9, AO.inst 114 [en "number" (.int 3), en "advances" (.bool false), en "buffer" (.ref 3), en "position" (.int s)]), (10, AO.inst 275 [en "buffer" (.ref 3), en "marker" (.ref 9)])], [en "self" (.ref 6), en "start" (.int s), en "end" (.int e), en "many" (.int n), en "number" (.int 3), en "marker" (.ref 9)], [], [], nx⟩)
 (N
 ⟨lay dk cells gs ge p b z tk ck [(3, AV.ref 9)] [(8, AO.inst 239 [en "buffer" (.ref 3), en "first" .none, en "last" .none]), (9, AO.inst 114 [en "number" (.int 3), en "advances" (.bool false), en "buffer" (.ref 3), en "position" (.int a3)]), (10, AO.inst 275 [en "buffer" (.ref 3), en "marker" (.ref 9)])], [en "self" (.ref 6), en "start" (.int s), en "end" (.int e), en "many" (.int n), en "number" (.int 3), en "marker" (.ref 9)], [], [], nx⟩))) := by kernel_rfl
theorem t_rep_o {dk cells : List Int} {gs ge p b z tk ck : Int} {nx : Nat} {s e n : Int} {N : St → Prop} {Rt : AV → St → Prop} {a3 : Int} (h : N (mst dk cells gs ge p b z tk ck nx (.one (mRep s e n a3)) (bR s e n ++ nm 3 9))) : turn (vAt 12) (mcx 7) (loopAt (M 7 7) 0) 3 (mst dk cells gs ge p b z tk ck nx (.one a3) (bR s e n)) N Rt := by
  refine (vt_rep_o ..).mpr ?_
  unfold mRep at h
  exact br_dec (fun q => by rw [if_pos q] at h; exact h) fun q => br_dec (fun q' => by rw [if_neg q, if_pos q'] at h; exact h) fun q' => by rw [if_neg q, if_neg q'] at h; exact h
theorem vs_rep_no (dk cells : List Int) (gs ge p b z tk ck : Int) (nx : Nat) (s e n : Int) (P : PRes) (X : XRes) : vFn 14 g2 1 none false (M 7 7) [.ref 6, .int s, .int e, .int n] (lay dk cells gs ge p b z tk ck (Mk.rows .no) (Mk.rest .no)) nx P X = (([AV.ref 6] : List AV).length = 1 ∧ (Mk.rows .no).length < 64 ∧ vFor (vAt 12) (mcx 7) (forT (loopAt (M 7 7) 0)) (forB (loopAt (M 7 7) 0)) (fun σ => P .none σ.hp σ.nxt) (fun v σ => P v σ.hp σ.nxt) [] (mst dk cells gs ge p b z tk ck nx .no (bR s e n))) := by kernel_rfl
theorem vs_rep_one (dk cells : List Int) (gs ge p b z tk ck : Int) (nx : Nat) (s e n : Int) (P : PRes) (X : XRes) (a3 : Int) : vFn 14 g2 1 none false (M 7 7) [.ref 6, .int s, .int e, .int n] (lay dk cells gs ge p b z tk ck (Mk.rows (.one a3)) (Mk.rest (.one a3))) nx P X = (([AV.ref 6] : List AV).length = 1 ∧ (Mk.rows (.one a3)).length < 64 ∧ vFor (vAt 12) (mcx 7) (forT (loopAt (M 7 7) 0)) (forB (loopAt (M 7 7) 0)) (fun σ => P .none σ.hp σ.nxt) (fun v σ => P v σ.hp σ.nxt) [3] (mst dk cells gs ge p b z tk ck nx (.one a3) (bR s e n))) := by kernel_rfl
theorem vs_rep_tri (dk cells : List Int) (gs ge p b z tk ck : Int) (nx : Nat) (s e n : Int) (P : PRes) (X : XRes) (a1 a2 a3 : Int) : vFn 14 g2 1 none false (M 7 7) [.ref 6, .int s, .int e, .int n] (lay dk cells gs ge p b z tk ck (Mk.rows (.tri a1 a2 a3)) (Mk.rest (.tri a1 a2 a3))) nx P X = (([AV.ref 6] : List AV).length = 1 ∧ (Mk.rows (.tri a1 a2 a3)).length < 64 ∧ vFor (vAt 12) (mcx 7) (forT (loopAt (M 7 7) 0)) (forB (loopAt (M 7 7) 0)) (fun σ => P .none σ.hp σ.nxt) (fun v σ => P v σ.hp σ.nxt) [1, 2, 3] (mst dk cells gs ge p b z tk ck nx (.tri a1 a2 a3) (bR s e n))) := by kernel_rfl
theorem ok_mrep {W : Wd} (H : Pg W) : PTok W 2 (.ref 179) ptMRep := (fn_ok (m := 14) (mr := false) H.f179 (g2_ok H) fun as hp nx P X hh => ex13 hh fun dk cells gs ge p b z tk ck mk s e n hj => an3 hj fun e1 e2 q => by
  clear hj hh
  subst e1 e2
  refine ⟨rfl, ?_⟩
  cases mk with
  | no => exact (vs_rep_no ..).mpr ⟨rfl, by decide, q⟩
  | one a => exact (vs_rep_one ..).mpr ⟨rfl, Nat.le_of_ble_eq_true rfl, (turn_cons (t_rep_o q))⟩
  | tri a₁ a₂ a₃ => exact (vs_rep_tri ..).mpr ⟨rfl, Nat.le_of_ble_eq_true rfl, (turn_cons (t_rep_a1 (turn_cons (t_rep_a2 (turn_cons (t_rep_a3 q))))))⟩).ok
noncomputable def s3 : List (Addr × Nat × PT) := [(509, 2, inl 14 g2 1 (F 26) 4 []), (165, 2, ptMIns), (172, 2, ptMDel), (179, 2, ptMRep)] ++ s2
noncomputable def g3 : Gx := gx s3 exS
noncomputable def mEd (s e n : Int) (adv : Bool) (p : Int) : Int := if s = e then (if p > s ∨ (p = s ∧ adv = true) then p + n else p) else (if p ≥ e then p + n - (e - s) else if p > s then s else p)
noncomputable def Mk.ed (s e n : Int) (mk : Mk) : Mk := mk.map (mEd s e n false) (mEd s e n true) (mEd s e n false)
noncomputable def aoor : Str := "args-out-of-range"
noncomputable def edBody (dk cells : List Int) (gs ge p b z tk ck : Int) (mk : Mk) (T : List Int) (B : Nat) (s e : Int) (cs : List Int) (hp : List (Nat × AO)) (nx : Nat) (P : PRes) (X : XRes) : Prop :=
  hp = lay dk cells gs ge p b z tk ck mk.rows mk.rest ∧ Gp cells gs ge T B ∧ B ≤ 60000 ∧ cs.length ≤ 1000 ∧ (1 ≤ b ∧ b ≤ p ∧ p ≤ z ∧ z ≤ (T.length : Int) + 1) ∧ s ≤ e ∧ hget nx hp = none ∧ (s < b ∨ e > z → X aoor hp (nx + 1)) ∧
  (b ≤ s → e ≤ z → ∀ v cells gs ge p tk ck, (v = .none ∨ ∃ ys, v = .lst ys) → Gp cells gs ge (T.take (s - 1).toNat ++ cs ++ T.drop (e - 1).toNat) (B + cs.length + 8) → b ≤ p → p ≤ z - (e - s) + (cs.length : Int) →
    P v (lay dk cells gs ge p b (z - (e - s) + (cs.length : Int)) tk ck (mk.ed s e (cs.length : Int)).rows (mk.ed s e (cs.length : Int)).rest) nx)
noncomputable def ptPutIn : PT := fun as hp nx P X => ∃ dk cells gs ge p b z tk ck mk T B k cs ib, as = [.ref 3, .int k, .lst cs, .bool false, .bool ib] ∧ edBody dk cells gs ge p b z tk ck mk T B k k cs hp nx P X
noncomputable def ptDelete : PT := fun as hp nx P X => ∃ dk cells gs ge p b z tk ck mk T B s e, as = [.ref 3, .int s, .int e] ∧ edBody dk cells gs ge p b z tk ck mk T B s e [] hp nx P X
noncomputable def ptReplace : PT := fun as hp nx P X => ∃ dk cells gs ge p b z tk ck mk T B s e cs, as = [.ref 3, .int s, .int e, .lst cs] ∧ edBody dk cells gs ge p b z tk ck mk T B s e cs hp nx P X
noncomputable def s4 : List (Addr × Nat × PT) := (544, 5, ptPutIn) :: s3
noncomputable def g4 : Gx := gx s4 exS
noncomputable def s5 : List (Addr × Nat × PT) := [(552, 6, inl 14 g4 5 (F 32) 3 [.bool false]), (560, 6, inl 14 g4 5 (F 33) 2 [.bool false]), (567, 5, ptDelete)] ++ s4
noncomputable def g5 : Gx := gx s5 exS
noncomputable def rz (hp : List (Nat × AO)) (nx : Nat) (sym : Str) (l : List Int) (X : XRes) : Prop := Value.ref (38 : Addr) = Value.ref (38 : Addr) ∧ 2 ≤ 1000 ∧ 2 ≤ 100 ∧ ∃ n s d hp0, [AV.ref nx, AV.str sym, AV.lst l] = [AV.ref n, AV.str s, AV.lst d] ∧ hp ++ [(nx, AO.exc [])] = hp0 ++ [(n, AO.exc [])] ∧ hget n hp0 = none ∧
  AV.none = AV.none ∧ ∃ n1 attrs hp1 s1, AV.ref nx = AV.ref n1 ∧ hp0 ++ [(n, AO.exc [en "symbol" (AV.str s), en "data" (AV.lst d)])] = hp1 ++ [(n1, AO.exc attrs)] ∧ attrs ≠ [] ∧ lget "symbol" attrs = some (AV.str s1) ∧ X s1 hp1 (nx + 1)
theorem sym_get (s : Str) (d : List Int) : lget "symbol" [en "symbol" (AV.str s), en "data" (AV.lst d)] = some (AV.str s) := by kernel_rfl
theorem rz_of {hp : List (Nat × AO)} {nx : Nat} {sym : Str} {l : List Int} {X : XRes} (h : hget nx hp = none) (k : X sym hp (nx + 1)) : rz hp nx sym l X :=
  ⟨rfl, by decide, by decide, (ex4i nx sym l hp ⟨rfl, rfl, h, rfl, (ex4i nx _ hp sym ⟨rfl, rfl, (fun e => by cases e), sym_get .., k⟩)⟩)⟩
theorem vc_putin (dk cells : List Int) (gs ge p b z tk ck : Int) (rows : List (Int × AV)) (rest : List (Nat × AO)) (nx : Nat) (P : PRes) (X : XRes) (k : Int) (cs : List Int) (ib : Bool) : (vFn 14 g3 4 none false (F 31) [.ref 3, .int k, .lst cs, .bool false, .bool ib] (lay dk cells gs ge p b z tk ck rows rest) nx P X) = (
1 = 1 ∧
 3 = 3 ∧
 br (decide (imin k k < b))
 (rz (lay dk cells gs ge p b z tk ck rows rest) nx (Str.ofString "args-out-of-range") [k, k] X)
 (br (decide (imax k k > z))
 (rz (lay dk cells gs ge p b z tk ck rows rest) nx (Str.ofString "args-out-of-range") [k, k] X)
 (cs.length ≤ 1099511627776 ∧
 br (↑cs.length == (0 : Int)) (P AV.none (lay dk cells gs ge p b z tk ck rows rest) nx)
 (3 = 3 ∧
 0 ≤ 16777216 ∧
 ∃ dk_1 cells_1 gs_1 ge_1 p_1 b_1 z_1 tk_1 ck_1 rows_1 rest_1 T B k_1 cs_1,
 [AV.ref 3, AV.int k, AV.lst cs] = [AV.ref 3, AV.int k_1, AV.lst cs_1] ∧
 lay dk cells gs ge p b z tk ck rows rest = lay dk_1 cells_1 gs_1 ge_1 p_1 b_1 z_1 tk_1 ck_1 rows_1 rest_1 ∧
 Gp cells_1 gs_1 ge_1 T B ∧
 B ≤ 60000 ∧
 ((1 : Int) ≤ k_1 ∧ k_1 ≤ ↑T.length + (1 : Int)) ∧
 cs_1.length ≤ 1000 ∧
 ∀ (cells : List Int) (gs ge : Int),
 Gp cells gs ge (List.take (k_1 - (1 : Int)).toNat T ++ cs_1 ++ List.drop (k_1 - (1 : Int)).toNat T) (B + cs_1.length + (8 : Nat)) →
 br ib
 (cs.length ≤ 1099511627776 ∧
 cs.length ≤ 1099511627776 ∧
 ∃ dk cells_2 gs_2 ge_2 p b z tk ck mk s e,
 [AV.ref 6, AV.int k, AV.int (k + ↑cs.length), AV.bool false] = [AV.ref 6, AV.int s, AV.int e, AV.bool false] ∧
 lay dk_1 cells gs ge (k + ↑cs.length) b_1 (z_1 + ↑cs_1.length) tk_1 ck_1 rows_1 rest_1 = lay dk cells_2 gs_2 ge_2 p b z tk ck mk.rows mk.rest ∧
 cs.length ≤ 1099511627776 ∧
 4 = 4 ∧
 cs.length ≤ 1099511627776 ∧
 4 = 4 ∧
 2 = 2 ∧
 0 ≤ 16777216 ∧
 P AV.none (lay dk cells_2 gs_2 ge_2 p b z (tk + (1 : Int)) (tk + (1 : Int)) (Mk.map (mIns s e false) (mIns s e true) (mIns s e false) mk).rows (Mk.map (mIns s e false) (mIns s e true) (mIns s e false) mk).rest) nx)
 (cs.length ≤ 1099511627776 ∧
 ∃ dk cells_2 gs_2 ge_2 p b z tk ck mk s e,
 [AV.ref 6, AV.int k, AV.int (k + ↑cs.length), AV.bool false] = [AV.ref 6, AV.int s, AV.int e, AV.bool false] ∧
 lay dk_1 cells gs ge (if p_1 > k_1 then p_1 + ↑cs_1.length else p_1) b_1 (z_1 + ↑cs_1.length) tk_1 ck_1 rows_1 rest_1 = lay dk cells_2 gs_2 ge_2 p b z tk ck mk.rows mk.rest ∧
 cs.length ≤ 1099511627776 ∧
 4 = 4 ∧
 cs.length ≤ 1099511627776 ∧
 4 = 4 ∧
 2 = 2 ∧
 0 ≤ 16777216 ∧
 P AV.none (lay dk cells_2 gs_2 ge_2 p b z (tk + (1 : Int)) (tk + (1 : Int)) (Mk.map (mIns s e false) (mIns s e true) (mIns s e false) mk).rows (Mk.map (mIns s e false) (mIns s e true) (mIns s e false) mk).rest) nx))))) := by kernel_rfl
theorem vc_delete (dk cells : List Int) (gs ge p b z tk ck : Int) (rows : List (Int × AV)) (rest : List (Nat × AO)) (nx : Nat) (P : PRes) (X : XRes) (s e : Int) : (vFn 14 g4 4 none false (F 34) [.ref 3, .int s, .int e] (lay dk cells gs ge p b z tk ck rows rest) nx P X) = (
1 = 1 ∧
 3 = 3 ∧
 br (decide (imin s e < b))
 (rz (lay dk cells gs ge p b z tk ck rows rest) nx (Str.ofString "args-out-of-range") [s, e] X)
 (br (decide (imax s e > z))
 (rz (lay dk cells gs ge p b z tk ck rows rest) nx (Str.ofString "args-out-of-range") [s, e] X)
 (br (imin s e == imax s e) (0 ≤ 1000 ∧ P (AV.lst []) (lay dk cells gs ge p b z tk ck rows rest) nx)
 (3 = 3 ∧
 0 ≤ 16777216 ∧
 ∃ dk_1 cells_1 gs_1 ge_1 p_1 b_1 z_1 tk_1 ck_1 rows_1 rest_1 T B s_1 e_1,
 [AV.ref 3, AV.int (imin s e), AV.int (imax s e)] = [AV.ref 3, AV.int s_1, AV.int e_1] ∧
 lay dk cells gs ge p b z tk ck rows rest = lay dk_1 cells_1 gs_1 ge_1 p_1 b_1 z_1 tk_1 ck_1 rows_1 rest_1 ∧
 Gp cells_1 gs_1 ge_1 T B ∧
 B ≤ 60000 ∧
 ((1 : Int) ≤ s_1 ∧ s_1 ≤ e_1 ∧ e_1 ≤ ↑T.length + (1 : Int)) ∧
 ∀ (cells : List Int) (gs ge : Int) (ys : List Int),
 Gp cells gs ge (List.take (s_1 - (1 : Int)).toNat T ++ List.drop (e_1 - (1 : Int)).toNat T) B →
 ∃ dk cells_2 gs_2 ge_2 p b z tk ck mk s_2 e_2,
 [AV.ref 6, AV.int (imin s e), AV.int (imax s e)] = [AV.ref 6, AV.int s_2, AV.int e_2] ∧
 lay dk_1 cells gs ge (if p_1 > s_1 then imax s_1 (p_1 - (e_1 - s_1)) else p_1) b_1 (z_1 - (e_1 - s_1)) tk_1 ck_1 rows_1 rest_1 = lay dk cells_2 gs_2 ge_2 p b z tk ck mk.rows mk.rest ∧
 3 = 3 ∧
 4 = 4 ∧
 2 = 2 ∧
 0 ≤ 16777216 ∧ P (AV.lst ys) (lay dk cells_2 gs_2 ge_2 p b z (tk + (1 : Int)) (tk + (1 : Int)) (Mk.map (mDel s_2 e_2) (mDel s_2 e_2) (mDel s_2 e_2) mk).rows (Mk.map (mDel s_2 e_2) (mDel s_2 e_2) (mDel s_2 e_2) mk).rest) nx)))) := by kernel_rfl
theorem vc_replace (dk cells : List Int) (gs ge p b z tk ck : Int) (rows : List (Int × AV)) (rest : List (Nat × AO)) (nx : Nat) (P : PRes) (X : XRes) (s e : Int) (cs : List Int) : (vFn 14 g5 6 none false (F 35) [.ref 3, .int s, .int e, .lst cs] (lay dk cells gs ge p b z tk ck rows rest) nx P X) = (
1 = 1 ∧
 3 = 3 ∧
 br (decide (imin s e < b))
 (rz (lay dk cells gs ge p b z tk ck rows rest) nx (Str.ofString "args-out-of-range") [s, e] X)
 (br (decide (imax s e > z))
 (rz (lay dk cells gs ge p b z tk ck rows rest) nx (Str.ofString "args-out-of-range") [s, e] X)
 (br (imin s e == imax s e)
 (3 = 3 ∧
 ∃ dk_1 cells_1 gs_1 ge_1 p_1 b_1 z_1 tk_1 ck_1 mk T B k cs_1 ib,
 [AV.ref 3, AV.int (imin s e), AV.lst cs, AV.bool false, AV.bool false] = [AV.ref 3, AV.int k, AV.lst cs_1, AV.bool false, AV.bool ib] ∧
 lay dk cells gs ge p b z tk ck rows rest = lay dk_1 cells_1 gs_1 ge_1 p_1 b_1 z_1 tk_1 ck_1 mk.rows mk.rest ∧
 Gp cells_1 gs_1 ge_1 T B ∧
 B ≤ 60000 ∧
 cs_1.length ≤ 1000 ∧
 ((1 : Int) ≤ b_1 ∧ b_1 ≤ p_1 ∧ p_1 ≤ z_1 ∧ z_1 ≤ ↑T.length + (1 : Int)) ∧
 k ≤ k ∧
 hget nx (lay dk cells gs ge p b z tk ck rows rest) = none ∧
 (k < b_1 ∨ k > z_1 → X aoor (lay dk cells gs ge p b z tk ck rows rest) (nx + (1 : Nat))) ∧
 (b_1 ≤ k →
 k ≤ z_1 →
 ∀ (v : AV) (cells : List Int) (gs ge p tk ck : Int),
 (v = AV.none ∨ ∃ ys, v = AV.lst ys) →
 Gp cells gs ge (List.take (k - (1 : Int)).toNat T ++ cs_1 ++ List.drop (k - (1 : Int)).toNat T) (B + cs_1.length + (8 : Nat)) →
 b_1 ≤ p → p ≤ z_1 - (k - k) + ↑cs_1.length → 0 ≤ 1000 ∧ P (AV.lst []) (lay dk_1 cells gs ge p b_1 (z_1 - (k - k) + ↑cs_1.length) tk ck (Mk.ed k k (↑cs_1.length) mk).rows (Mk.ed k k (↑cs_1.length) mk).rest) nx))
 (cs.length ≤ 1099511627776 ∧
 br (↑cs.length == (0 : Int))
 (∃ dk_1 cells_1 gs_1 ge_1 p_1 b_1 z_1 tk_1 ck_1 mk T B s_1 e_1,
 [AV.ref 3, AV.int (imin s e), AV.int (imax s e)] = [AV.ref 3, AV.int s_1, AV.int e_1] ∧
 lay dk cells gs ge p b z tk ck rows rest = lay dk_1 cells_1 gs_1 ge_1 p_1 b_1 z_1 tk_1 ck_1 mk.rows mk.rest ∧
 Gp cells_1 gs_1 ge_1 T B ∧
 B ≤ 60000 ∧
 0 ≤ 1000 ∧
 ((1 : Int) ≤ b_1 ∧ b_1 ≤ p_1 ∧ p_1 ≤ z_1 ∧ z_1 ≤ ↑T.length + (1 : Int)) ∧
 s_1 ≤ e_1 ∧
 hget nx (lay dk cells gs ge p b z tk ck rows rest) = none ∧
 (s_1 < b_1 ∨ e_1 > z_1 → X aoor (lay dk cells gs ge p b z tk ck rows rest) (nx + (1 : Nat))) ∧
 (b_1 ≤ s_1 →
 e_1 ≤ z_1 →
 ∀ (v : AV) (cells : List Int) (gs ge p tk ck : Int),
 (v = AV.none ∨ ∃ ys, v = AV.lst ys) →
 Gp cells gs ge (List.take (s_1 - (1 : Int)).toNat T ++ ([] : List Int) ++ List.drop (e_1 - (1 : Int)).toNat T) (B + ([] : List Int).length + (8 : Nat)) →
 b_1 ≤ p → p ≤ z_1 - (e_1 - s_1) + (([] : List Int).length : Int) → P v (lay dk_1 cells gs ge p b_1 (z_1 - (e_1 - s_1) + (([] : List Int).length : Int)) tk ck (Mk.ed s_1 e_1 ((([] : List Int).length : Int)) mk).rows (Mk.ed s_1 e_1 ((([] : List Int).length : Int)) mk).rest) nx))
 (3 = 3 ∧
 0 ≤ 16777216 ∧
 ∃ dk_1 cells_1 gs_1 ge_1 p_1 b_1 z_1 tk_1 ck_1 rows_1 rest_1 T B s_1 e_1,
 [AV.ref 3, AV.int (imin s e), AV.int (imax s e)] = [AV.ref 3, AV.int s_1, AV.int e_1] ∧
 lay dk cells gs ge p b z tk ck rows rest = lay dk_1 cells_1 gs_1 ge_1 p_1 b_1 z_1 tk_1 ck_1 rows_1 rest_1 ∧
 Gp cells_1 gs_1 ge_1 T B ∧
 B ≤ 60000 ∧
 ((1 : Int) ≤ s_1 ∧ s_1 ≤ e_1 ∧ e_1 ≤ ↑T.length + (1 : Int)) ∧
 ∀ (cells : List Int) (gs ge : Int) (ys : List Int),
 Gp cells gs ge (List.take (s_1 - (1 : Int)).toNat T ++ List.drop (e_1 - (1 : Int)).toNat T) B →
 ∃ dk cells_2 gs_2 ge_2 p_2 b z tk ck rows rest T B k cs_1,
 [AV.ref 3, AV.int (imin s e), AV.lst cs] = [AV.ref 3, AV.int k, AV.lst cs_1] ∧
 lay dk_1 cells gs ge (if p_1 > s_1 then imax s_1 (p_1 - (e_1 - s_1)) else p_1) b_1 (z_1 - (e_1 - s_1)) tk_1 ck_1 rows_1 rest_1 = lay dk cells_2 gs_2 ge_2 p_2 b z tk ck rows rest ∧
 Gp cells_2 gs_2 ge_2 T B ∧
 B ≤ 60000 ∧
 ((1 : Int) ≤ k ∧ k ≤ ↑T.length + (1 : Int)) ∧
 cs_1.length ≤ 1000 ∧
 ∀ (cells : List Int) (gs ge : Int),
 Gp cells gs ge (List.take (k - (1 : Int)).toNat T ++ cs_1 ++ List.drop (k - (1 : Int)).toNat T) (B + cs_1.length + (8 : Nat)) →
 br (decide (p ≥ imax s e))
 (cs.length ≤ 1099511627776 ∧
 cs.length ≤ 1099511627776 ∧
 ∃ dk_2 cells_3 gs_3 ge_3 p_3 b_2 z_2 tk_2 ck_2 mk s_2 e_2 n,
 [AV.ref 6, AV.int (imin s e), AV.int (imax s e), AV.int ↑cs.length] = [AV.ref 6, AV.int s_2, AV.int e_2, AV.int n] ∧
 lay dk cells gs ge (p + ↑cs.length - (imax s e - imin s e)) b (z + ↑cs_1.length) tk ck rows rest = lay dk_2 cells_3 gs_3 ge_3 p_3 b_2 z_2 tk_2 ck_2 mk.rows mk.rest ∧
 3 = 3 ∧
 cs.length ≤ 1099511627776 ∧
 4 = 4 ∧
 cs.length ≤ 1099511627776 ∧
 4 = 4 ∧
 2 = 2 ∧
 0 ≤ 16777216 ∧
 P (AV.lst ys)
 (lay dk_2 cells_3 gs_3 ge_3 p_3 b_2 z_2 (tk_2 + (1 : Int)) (tk_2 + (1 : Int)) (Mk.map (mRep s_2 e_2 n) (mRep s_2 e_2 n) (mRep s_2 e_2 n) mk).rows (Mk.map (mRep s_2 e_2 n) (mRep s_2 e_2 n) (mRep s_2 e_2 n) mk).rest) nx)
 (cs.length ≤ 1099511627776 ∧
 ∃ dk_2 cells_3 gs_3 ge_3 p b_2 z_2 tk_2 ck_2 mk s_2 e_2 n,
 [AV.ref 6, AV.int (imin s e), AV.int (imax s e), AV.int ↑cs.length] = [AV.ref 6, AV.int s_2, AV.int e_2, AV.int n] ∧
 lay dk cells gs ge (if p_2 > k then p_2 + ↑cs_1.length else p_2) b (z + ↑cs_1.length) tk ck rows rest = lay dk_2 cells_3 gs_3 ge_3 p b_2 z_2 tk_2 ck_2 mk.rows mk.rest ∧
 3 = 3 ∧
 cs.length ≤ 1099511627776 ∧
 4 = 4 ∧
 cs.length ≤ 1099511627776 ∧
 4 = 4 ∧
 2 = 2 ∧
 0 ≤ 16777216 ∧
 P (AV.lst ys)
 (lay dk_2 cells_3 gs_3 ge_3 p b_2 z_2 (tk_2 + (1 : Int)) (tk_2 + (1 : Int)) (Mk.map (mRep s_2 e_2 n) (mRep s_2 e_2 n) (mRep s_2 e_2 n) mk).rows (Mk.map (mRep s_2 e_2 n) (mRep s_2 e_2 n) (mRep s_2 e_2 n) mk).rest) nx)))))) := by kernel_rfl
theorem imin_le {s e : Int} (h : s ≤ e) : imin s e = s := by unfold imin; rw [if_neg (Int.not_lt.mpr h)]
theorem imax_le {s e : Int} (h : s ≤ e) : imax s e = e := by unfold imax; split <;> lia -abstractProof
theorem Mk.map_congr {f g h f' g' h' : Int → Int} (mk : Mk) (e1 : ∀ x, f x = f' x) (e2 : ∀ x, g x = g' x) (e3 : ∀ x, h x = h' x) : mk.map f g h = mk.map f' g' h' := by
  cases mk with
  | no => rfl
  | one p => simp only [Mk.map, e3]
  | tri a b c => simp only [Mk.map, e1, e2, e3]
theorem Mk.map_id {f g h : Int → Int} (mk : Mk) (e1 : ∀ x, f x = x) (e2 : ∀ x, g x = x) (e3 : ∀ x, h x = x) : mk.map f g h = mk := by
  cases mk with
  | no => rfl
  | one p => simp only [Mk.map, e3]
  | tri a b c => simp only [Mk.map, e1, e2, e3]
theorem ed_ins (mk : Mk) (s n : Int) : mk.ed s s n = mk.map (mIns s (s + n) false) (mIns s (s + n) true) (mIns s (s + n) false) := by
  have q : ∀ a x, mEd s s n a x = mIns s (s + n) a x := fun a x => by
    unfold mEd mIns
    refine if_pos rfl ▸ ?_
    split <;> lia -abstractProof
  exact mk.map_congr (q _) (q _) (q _)
theorem ed_id (mk : Mk) (s : Int) : mk.ed s s 0 = mk := by
  have q : ∀ a x, mEd s s 0 a x = x := fun a x => by
    unfold mEd
    refine if_pos rfl ▸ ?_
    split <;> lia -abstractProof
  exact mk.map_id (q _) (q _) (q _)
theorem ed_del (mk : Mk) {s e : Int} (h : s < e) : mk.ed s e 0 = mk.map (mDel s e) (mDel s e) (mDel s e) := by
  have q : ∀ a x, mEd s e 0 a x = mDel s e x := fun a x => by
    unfold mEd mDel
    rw [if_neg (Int.ne_of_lt h)]
    (repeat' split) <;> lia -abstractProof
  exact mk.map_congr (q _) (q _) (q _)
theorem ed_rep (mk : Mk) {s e n : Int} (h : s < e) : mk.ed s e n = mk.map (mRep s e n) (mRep s e n) (mRep s e n) := by
  have q : ∀ a x, mEd s e n a x = mRep s e n x := fun a x => by
    unfold mEd mRep
    rw [if_neg (Int.ne_of_lt h)]
  exact mk.map_congr (q _) (q _) (q _)
theorem nil_len : ((([] : List Int).length : Nat) : Int) = 0 := rfl
theorem split_nil (T : List Int) (n : Nat) : T.take n ++ ([] : List Int) ++ T.drop n = T := by exact (List.append_nil ..) ▸ (List.take_append_drop ..) ▸ rfl
theorem s3_ok {W : Wd} (H : Pg W) : Specs W s3 :=
  .cons (inl_ok H.f509 (g2_ok H)).ok (fn_k H (i := 16) rfl) <| .cons (ok_mins H) (met_k H (i := 0) (j := 3) rfl rfl) <| .cons (ok_mdel H) (met_k H (i := 0) (j := 4) rfl rfl) <| .cons (ok_mrep H) (met_k H (i := 0) (j := 5) rfl rfl) (s2_ok H)
theorem g3_ok {W : Wd} (H : Pg W) : GOk W g3 := gx_ok H.toBase (s3_ok H) (exS_ok H)
theorem ok_putin {W : Wd} (H : Pg W) : PTok W 5 (.ref 544) ptPutIn := (fn_ok (m := 14) (mr := false) H.f544 (g3_ok H) fun as hp nx P X hh => ex15 hh fun dk cells gs ge p b z tk ck mk T B k cs ib hj => an10 hj fun e1 e2 G hB hc h0 hs hn hx q => by
  clear hj hh
  subst e1 e2
  refine ⟨rfl, (vc_putin ..).mpr ?_⟩
  refine (imin_le (Int.le_refl k)).symm ▸ (imax_le (Int.le_refl k)).symm ▸ ?_
  refine ⟨rfl, rfl, br_dec (fun h => rz_of hn (hx (.inl h))) fun h => br_dec (fun h' => rz_of hn (hx (.inr h'))) fun h' => ⟨bg hc rfl, br_of (fun w => ?_) fun w => ?_⟩⟩
  · have hl : cs = [] := by
      have w : (cs.length : Int) = 0 := by simpa using w
      exact List.length_eq_zero_iff.mp (by lia -abstractProof)
    subst hl
    have q := q (Int.not_lt.mp h) (Int.not_lt.mp h') .none cells gs ge p tk ck (.inl rfl) (by refine (split_nil ..) ▸ ?_; exact G.weak (by lia -abstractProof)) (h0.2.1) (by refine nil_len ▸ ?_; lia -abstractProof)
    rw [nil_len, ed_id, show z - (k - k) + 0 = z by lia -abstractProof] at q
    exact q
  · refine ⟨rfl, by decide, ex15i _ _ _ _ _ _ _ _ _ _ _ T B _ _ ⟨rfl, rfl, G, hB, by lia -abstractProof, hc, fun c g e G' => ?_⟩⟩
    have q := fun p' h1 h2 => q (Int.not_lt.mp h) (Int.not_lt.mp h') .none c g e p' (tk + 1) (tk + 1) (.inl rfl) G' h1 h2
    rw [ed_ins, show z - (k - k) + (cs.length : Int) = z + (cs.length : Int) by lia -abstractProof] at q
    refine br_of (fun _ => ?_) fun _ => ?_
    · exact ⟨bg hc rfl, bg hc rfl, ex12i _ _ _ _ _ _ _ _ _ mk _ _ ⟨rfl, rfl, bg hc rfl, rfl, bg hc rfl, rfl, rfl, by decide, q _ (by lia -abstractProof) (by lia -abstractProof)⟩⟩
    · exact ⟨bg hc rfl, ex12i _ _ _ _ _ _ _ _ _ mk _ _ ⟨rfl, rfl, bg hc rfl, rfl, bg hc rfl, rfl, rfl, by decide, q _ (by split <;> lia -abstractProof) (by split <;> lia -abstractProof)⟩⟩).ok
theorem s4_ok {W : Wd} (H : Pg W) : Specs W s4 := .cons (ok_putin H) (fn_k H (i := 21) rfl) (s3_ok H)
theorem g4_ok {W : Wd} (H : Pg W) : GOk W g4 := gx_ok H.toBase (s4_ok H) (exS_ok H)
theorem ok_delete {W : Wd} (H : Pg W) : PTok W 5 (.ref 567) ptDelete := (fn_ok (m := 14) (mr := false) H.f567 (g4_ok H) fun as hp nx P X hh => ex14 hh fun dk cells gs ge p b z tk ck mk T B s e hj => an10 hj fun e1 e2 G hB hc h0 hs hn hx q => by
  clear hj hh
  subst e1 e2
  refine ⟨rfl, (vc_delete ..).mpr ?_⟩
  refine (imin_le hs).symm ▸ (imax_le hs).symm ▸ ?_
  rw [nil_len] at q
  refine ⟨rfl, rfl, br_dec (fun h => rz_of hn (hx (.inl h))) fun h => br_dec (fun h' => rz_of hn (hx (.inr h'))) fun h' => br_of (fun w => ?_) fun w => ?_⟩
  · obtain rfl : s = e := by simpa using w
    have q := q (Int.not_lt.mp h) (Int.not_lt.mp h') (.lst []) cells gs ge p tk ck (.inr ⟨_, rfl⟩) (by refine (split_nil ..) ▸ ?_; exact G.weak (by lia -abstractProof)) (h0.2.1) (by lia -abstractProof)
    rw [ed_id, show z - (s - s) + 0 = z by lia -abstractProof] at q
    exact ⟨by decide, q⟩
  · have hse : s < e := by have w : ¬ s = e := by simpa using w
                           lia -abstractProof
    refine ⟨rfl, by decide, ex15i _ _ _ _ _ _ _ _ _ _ _ T B _ _ ⟨rfl, rfl, G, hB, by lia -abstractProof, fun c g e' ys G' => ?_⟩⟩
    have q := fun p' h1 h2 => q (Int.not_lt.mp h) (Int.not_lt.mp h') (.lst ys) c g e' p' (tk + 1) (tk + 1) (.inr ⟨_, rfl⟩) (by refine (List.append_nil ..) ▸ ?_; exact G'.weak (by lia -abstractProof)) h1 h2
    rw [ed_del mk hse, show z - (e - s) + 0 = z - (e - s) by lia -abstractProof] at q
    exact (ex12i _ _ _ _ _ _ _ _ _ mk _ _ ⟨rfl, rfl, rfl, rfl, rfl, by decide, q _ (by unfold imax; (repeat' split) <;> lia -abstractProof) (by unfold imax; (repeat' split) <;> lia -abstractProof)⟩)).ok
theorem s5_ok {W : Wd} (H : Pg W) : Specs W s5 := .cons (inl_ok H.f552 (g4_ok H)).ok (fn_k H (i := 22) rfl) <| .cons (inl_ok H.f560 (g4_ok H)).ok (fn_k H (i := 23) rfl) <| .cons (ok_delete H) (fn_k H (i := 24) rfl) (s4_ok H)
theorem g5_ok {W : Wd} (H : Pg W) : GOk W g5 := gx_ok H.toBase (s5_ok H) (exS_ok H)
theorem edl {n : Nat} {s e : Int} (h0 : 1 ≤ s) (h1 : s ≤ e) (h2 : e ≤ n + 1) : (((s - 1).toNat + (n - (e - 1).toNat) : Nat) : Int) = (n:Int) - (e - s) := by
  have h : (e - 1).toNat ≤ n := Int.toNat_le.mpr (Int.sub_right_le_of_le_add h2)
  refine (Int.natCast_add ..) ▸ Int.natCast_sub h ▸ (Int.toNat_of_nonneg (Int.sub_nonneg_of_le h0)).symm ▸ (Int.toNat_of_nonneg (Int.sub_nonneg_of_le (Int.le_trans h0 h1))).symm ▸ ?_
  lia -abstractProof
theorem ok_replace {W : Wd} (H : Pg W) : PTok W 7 (.ref 574) ptReplace := (fn_ok (m := 14) (mr := false) H.f574 (g5_ok H) fun as hp nx P X hh => ex15 hh fun dk cells gs ge p b z tk ck mk T B s e cs hj => an10 hj fun e1 e2 G hB hc h0 hs hn hx q => by
  clear hj hh
  subst e1 e2
  refine ⟨rfl, (vc_replace ..).mpr ?_⟩
  refine (imin_le hs).symm ▸ (imax_le hs).symm ▸ ?_
  refine ⟨rfl, rfl, br_dec (fun h => rz_of hn (hx (.inl h))) fun h => br_dec (fun h' => rz_of hn (hx (.inr h'))) fun h' => br_of (fun w => ?_) fun w => ⟨bg hc rfl, br_of (fun w' => ?_) fun w' => ?_⟩⟩
  · obtain rfl : s = e := by simpa using w
    exact ⟨rfl, ex15i _ _ _ _ _ _ _ _ _ mk T B _ _ _ ⟨rfl, rfl, G, hB, hc, h0, Int.le_refl _, hn, hx, fun h1 h2 v c g e' p' tk' ck' hv G' h3 h4 => ⟨by decide, q h1 h2 (.lst []) c g e' p' tk' ck' (.inr ⟨_, rfl⟩) G' h3 h4⟩⟩⟩
  · have hl : cs = [] := by
      have w : (cs.length : Int) = 0 := by simpa using w'
      exact List.length_eq_zero_iff.mp (by lia -abstractProof)
    subst hl
    exact (ex14i _ _ _ _ _ _ _ _ _ mk T B _ _ ⟨rfl, rfl, G, hB, by decide, h0, hs, hn, hx, q⟩)
  · have hse : s < e := by have w : ¬ s = e := by simpa using w
                           lia -abstractProof
    refine ⟨rfl, by decide, ex15i _ _ _ _ _ _ _ _ _ _ _ T B _ _ ⟨rfl, rfl, G, hB, by lia -abstractProof, fun c g e' ys G' => ?_⟩⟩
    have l1 : (T.take (s - 1).toNat).length = (s - 1).toNat := List.length_take_of_le (Int.toNat_le.mpr (by lia -abstractProof))
    have l2 : ((T.take (s - 1).toNat ++ T.drop (e - 1).toNat).length : Int) = T.length - (e - s) := by refine List.length_append ▸ l1.symm ▸ List.length_drop ▸ ?_; exact edl (by lia -abstractProof) hs (by lia -abstractProof)
    refine (ex15i _ _ _ _ _ _ _ _ _ _ _ _ B _ _ ⟨rfl, rfl, G', hB, by refine l2 ▸ ?_; exact ⟨by lia -abstractProof, by lia -abstractProof⟩, hc, fun c₂ g₂ e₂ G₂ => ?_⟩)
    rw [List.take_left' l1, List.drop_left' l1] at G₂
    have q := fun p' h1 h2 => q (Int.not_lt.mp h) (Int.not_lt.mp h') (.lst ys) c₂ g₂ e₂ p' (tk + 1) (tk + 1) (.inr ⟨_, rfl⟩) G₂ h1 h2
    rw [ed_rep mk hse] at q
    refine br_dec (fun w => ?_) fun w => ?_
    · exact ⟨bg hc rfl, bg hc rfl, ex13i _ _ _ _ _ _ _ _ _ mk _ _ _ ⟨rfl, rfl, rfl, bg hc rfl, rfl, bg hc rfl, rfl, rfl, by decide, q _ (by lia -abstractProof) (by lia -abstractProof)⟩⟩
    · exact ⟨by lia -abstractProof, ex13i _ _ _ _ _ _ _ _ _ mk _ _ _ ⟨rfl, rfl, rfl, by lia -abstractProof, rfl, by lia -abstractProof, rfl, rfl, by decide, q _ (by unfold imax; (repeat' split) <;> lia -abstractProof) (by unfold imax; (repeat' split) <;> lia -abstractProof)⟩⟩).ok
noncomputable def seg (m : Nat) (cx : Cx) (l : List Stmt) (σ : St) (N : St → Prop) (Rt : AV → St → Prop) (X : XP) : Prop := vBl (fun st σ N => (vAt m).S cx st σ N Rt X) l σ N
noncomputable def whT : Stmt → Expr
  | .While t _ _ _ => t
  | _ => .Constant .none 0 ⟨0, 0, 0, 0⟩
noncomputable def whB : Stmt → List Stmt
  | .While _ b _ _ => b
  | _ => []
noncomputable def isWh : Stmt → Bool
  | .While _ _ [] _ => true
  | _ => false
noncomputable def cxG (s : Stmt) (n : Nat) (g : Gx) : Cx := ⟨g, scopeOf s, n, none, false⟩
noncomputable def g0 : Gx := gx [] none
noncomputable def sg (row : List Int) : List Int := row.filter fun x => decide (x ≥ 0)
noncomputable def fst : List Int → Nat → Nat
  | _, 0 => 0
  | [], _ => 0
  | x :: r, k + 1 => 1 + fst r (if x ≥ 0 then k else k + 1)
noncomputable def nxt (row : List Int) (h : Nat) : Nat := h + ((row.drop h).takeWhile fun x => decide (x < 0)).length
noncomputable def ptFirst : PT := fun as hp nx P X => ∃ row k, as = [.lst row, .int k] ∧ (1 ≤ k ∧ k ≤ ((sg row).length : Int) + 1) ∧ row.length ≤ 10000 ∧ P (.int (fst row (k - 1).toNat : Nat)) hp nx
noncomputable def ptNext : PT := fun as hp nx P X => ∃ row h, as = [.lst row, .int h] ∧ 0 ≤ h ∧ row.length ≤ 10000 ∧ P (.int (nxt row h.toNat : Nat)) hp nx
noncomputable def stF (row : List Int) (k : Int) (hp : List (Nat × AO)) (nx : Nat) (q : Int × Int) : St := ⟨hp, [en "row" (.lst row), en "place" (.int k), en "seen" (.int q.1), en "at" (.int q.2)], [], [], nx⟩
noncomputable def stN (row : List Int) (hp : List (Nat × AO)) (nx : Nat) (q : Int) : St := ⟨hp, [en "row" (.lst row), en "at" (.int q)], [], [], nx⟩
noncomputable def stD (dk cells : List Int) (gs ge p b z tk ck : Int) (rows : List (Int × AV)) (rest : List (Nat × AO)) (nx : Nat) (many : Int) : St := ⟨lay dk cells gs ge p b z tk ck rows rest, [en "deck" (.ref 2), en "many" (.int many)], [], [], nx⟩
noncomputable def ptDraw : PT := fun as hp nx P X => ∃ dk cells gs ge p b z tk ck rows rest many, as = [.ref 2, .int many] ∧ hp = lay dk cells gs ge p b z tk ck rows rest ∧ (1 ≤ many ∧ many ≤ 1000) ∧ dk.length ≤ 16 ∧
  ∀ dk' r, dk'.length ≤ 16 → 0 ≤ r → r < many → P (.int r) (lay dk' cells gs ge p b z tk ck rows rest) nx
theorem whl {α : Type} {m : Nat} {cx : Cx} {s : Stmt} {N : St → Prop} {Rt : AV → St → Prop} {X : XP} (hs : isWh s = true) (st : α → St) (good : α → Prop) (ms : α → Nat) (c : α → Bool) (a₀ : α) (h0 : good a₀)
    (hT : ∀ a, good a → ∀ Q : Bool → St → Prop, Q (c a) (st a) → (vAt m).T cx (whT s) (st a) Q noX) (hB : ∀ a, good a → c a = true → ∀ Q : St → Prop, (∀ a', good a' → ms a' < ms a → Q (st a')) → seg m cx (whB s) (st a) Q Rt noX)
    (hE : ∀ a, good a → c a = false → N (st a)) : (vAt (m + 1)).S cx s (st a₀) N Rt X := by
  cases s with
  | While t b o p =>
    cases o with
    | nil =>
      refine ⟨fun n σ => ∃ a, good a ∧ σ = st a ∧ n = ms a, fun n t σ => ∃ a, good a ∧ σ = st a ∧ n = ms a ∧ t = c a, ms a₀, ⟨a₀, h0, rfl, rfl⟩, ?_, ?_, ?_⟩
      · rintro n σ ⟨a, h1, rfl, rfl⟩
        exact hT a h1 _ ⟨a, h1, rfl, rfl, rfl⟩
      · rintro n σ ⟨a, h1, rfl, rfl, h2⟩
        exact hB a h1 h2.symm _ fun a' h3 h4 => ⟨_, h4, a', h3, rfl, rfl⟩
      · rintro n σ ⟨a, h1, rfl, rfl, h2⟩
        exact hE a h1 h2.symm
    | cons => cases hs
  | _ => cases hs
theorem wf_t (row : List Int) (k : Int) (hp : List (Nat × AO)) (nx : Nat) (seen at_ : Int) (Q : Bool → St → Prop) : ((vAt 13).T (cxG (F 39) 0 g0) (whT (loopAt (F 39) 1)) (stF row k hp nx (seen, at_)) Q noX) = (
Q (decide (seen < k - (1 : Int))) ⟨hp, [en "row" (.lst row), en "place" (.int k), en "seen" (.int seen), en "at" (.int at_)], [], [], nx⟩) := by kernel_rfl
theorem wf_b (row : List Int) (k : Int) (hp : List (Nat × AO)) (nx : Nat) (seen at_ : Int) (Q : St → Prop) (Rt : AV → St → Prop) : (seg 13 (cxG (F 39) 0 g0) (whB (loopAt (F 39) 1)) (stF row k hp nx (seen, at_)) Q Rt noX) = (
((0 : Int) ≤ at_ ∧ at_ < ↑row.length ∧ row.length ≤ 16777216) ∧
 br (decide (row.getD at_.toNat (0 : Int) ≥ (0 : Int))) (Q { hp := hp, loc := [en "row" (.lst row), en "place" (.int k), en "seen" (.int (seen + (1 : Int))), en "at" (.int (at_ + (1 : Int)))], cel := [], fre := [], nxt := nx })
 (Q { hp := hp, loc := [en "row" (.lst row), en "place" (.int k), en "seen" (.int (seen + (0 : Int))), en "at" (.int (at_ + (1 : Int)))], cel := [], fre := [], nxt := nx })) := by kernel_rfl
theorem wf_r (row : List Int) (k : Int) (hp : List (Nat × AO)) (nx : Nat) (seen at_ : Int) (N : St → Prop) (Rt : AV → St → Prop) (X : XP) : (seg 14 (cxG (F 39) 0 g0) ((bodyOf (F 39)).drop 2) (stF row k hp nx (seen, at_)) N Rt X) = (
Rt (AV.int at_) ⟨hp, [en "row" (.lst row), en "place" (.int k), en "seen" (.int seen), en "at" (.int at_)], [], [], nx⟩) := by kernel_rfl
theorem wn_t (row : List Int) (hp : List (Nat × AO)) (nx : Nat) (at_ : Int) (Q : Bool → St → Prop) : ((vAt 13).T (cxG (F 40) 0 g0) (whT (loopAt (F 40) 0)) (stN row hp nx at_) Q noX) = (
row.length ≤ 1099511627776 ∧
 br (decide (at_ < ↑row.length))
 (((0 : Int) ≤ at_ ∧ at_ < ↑row.length ∧ row.length ≤ 16777216) ∧
 br (decide (row.getD at_.toNat (0 : Int) < (0 : Int))) (Q true ⟨hp, [en "row" (.lst row), en "at" (.int at_)], [], [], nx⟩)
 (Q false ⟨hp, [en "row" (.lst row), en "at" (.int at_)], [], [], nx⟩))
 (Q false ⟨hp, [en "row" (.lst row), en "at" (.int at_)], [], [], nx⟩)) := by kernel_rfl
theorem wn_b (row : List Int) (hp : List (Nat × AO)) (nx : Nat) (at_ : Int) (Q : St → Prop) (Rt : AV → St → Prop) : (seg 13 (cxG (F 40) 0 g0) (whB (loopAt (F 40) 0)) (stN row hp nx at_) Q Rt noX) = (
Q { hp := hp, loc := [en "row" (.lst row), en "at" (.int (at_ + (1 : Int)))], cel := [], fre := [], nxt := nx }) := by kernel_rfl
theorem wn_r (row : List Int) (hp : List (Nat × AO)) (nx : Nat) (at_ : Int) (N : St → Prop) (Rt : AV → St → Prop) (X : XP) : (seg 14 (cxG (F 40) 0 g0) ((bodyOf (F 40)).drop 1) (stN row hp nx at_) N Rt X) = (
Rt (AV.int at_) ⟨hp, [en "row" (.lst row), en "at" (.int at_)], [], [], nx⟩) := by kernel_rfl
theorem wd_t (dk cells : List Int) (gs ge p b z tk ck : Int) (rows : List (Int × AV)) (rest : List (Nat × AO)) (nx : Nat) (many : Int) (Q : Bool → St → Prop) : ((vAt 13).T (cxG (F 38) 0 g0) (whT (loopAt (F 38) 0)) (stD dk cells gs ge p b z tk ck rows rest nx many) Q noX) = (
0 ≤ 1000 ∧
 br (!decide (dk = []))
 (((0 : Int) ≤ (0 : Int) ∧ (0 : Int) < ↑dk.length ∧ dk.length ≤ 16777216) ∧
 br (dk.getD (Int.toNat (0 : Int)) (0 : Int) == (0 : Int)) (Q true ⟨lay dk cells gs ge p b z tk ck rows rest, [en "deck" (.ref 2), en "many" (.int many)], [], [], nx⟩)
 (Q false ⟨lay dk cells gs ge p b z tk ck rows rest, [en "deck" (.ref 2), en "many" (.int many)], [], [], nx⟩))
 (Q false ⟨lay dk cells gs ge p b z tk ck rows rest, [en "deck" (.ref 2), en "many" (.int many)], [], [], nx⟩)) := by kernel_rfl
theorem wd_b (x : Int) (dk cells : List Int) (gs ge p b z tk ck : Int) (rows : List (Int × AV)) (rest : List (Nat × AO)) (nx : Nat) (many : Int) (Q : St → Prop) (Rt : AV → St → Prop) : (seg 13 (cxG (F 38) 0 g0) (whB (loopAt (F 38) 0)) (stD (x :: dk) cells gs ge p b z tk ck rows rest nx many) Q Rt noX) = (
dk.length + (1 : Nat) ≤ 16777216 ∧ Q ⟨lay dk cells gs ge p b z tk ck rows rest, [en "deck" (.ref 2), en "many" (.int many)], [], [], nx⟩) := by kernel_rfl
theorem wd_r (dk cells : List Int) (gs ge p b z tk ck : Int) (rows : List (Int × AV)) (rest : List (Nat × AO)) (nx : Nat) (many : Int) (N : St → Prop) (P : PRes) (X : XP) : (seg 14 (cxG (F 38) 0 g0) ((bodyOf (F 38)).drop 1) (stD dk cells gs ge p b z tk ck rows rest nx many) N (fun v σ => P v σ.hp σ.nxt) X) = (
0 ≤ 1000 ∧
 br (decide (dk = [])) (P (AV.int 0) (lay dk cells gs ge p b z tk ck rows rest) nx)
 (((0 : Int) ≤ (0 : Int) ∧ (0 : Int) < ↑dk.length ∧ dk.length ≤ 16777216) ∧
 many ≠ (0 : Int) ∧
 ((0 : Int) ≤ (0 : Int) ∧ (0 : Int) < ↑dk.length ∧ dk.length ≤ 16777216) ∧
 (many ≠ (0 : Int) ∧ many.natAbs < 1073741824) ∧
 ((0 : Int) ≤ (0 : Int) ∧ (0 : Int) < ↑dk.length ∧ dk.length ≤ 16777216) ∧ P (AV.int ((dk.getD (Int.toNat (0 : Int)) (0 : Int)).fmod many)) (lay (dk.set (Int.toNat (0 : Int)) ((dk.getD (Int.toNat (0 : Int)) (0 : Int)).fdiv many)) cells gs ge p b z tk ck rows rest) nx)) := by kernel_rfl
theorem sg_cons (x : Int) (r : List Int) : sg (x :: r) = if x ≥ 0 then x :: sg r else sg r := by
  unfold sg; refine List.filter_cons ▸ ?_; by_cases h : x ≥ 0 <;> simp [h]
theorem fst_zero (r : List Int) : fst r 0 = 0 := by cases r <;> rfl
theorem fst_cons (x : Int) (r : List Int) (k : Nat) : fst (x :: r) (k + 1) = 1 + fst r (if x ≥ 0 then k else k + 1) := rfl
theorem drop_getD {r : List Int} {i : Nat} (h : i < r.length) : r.drop i = r.getD i 0 :: r.drop (i + 1) := by
  refine List.drop_eq_getElem_cons h ▸ ?_; simp [List.getD, h]
theorem sp_first (row : List Int) (k : Int) (hp : List (Nat × AO)) (nx : Nat) (P : PRes) (X : XRes) : vFn 14 g0 0 none false (F 39) [.lst row, .int k] hp nx P X = (vAt 14).S (cxG (F 39) 0 g0) (loopAt (F 39) 1) (stF row k hp nx (0, 0))
 (fun σ => seg 14 (cxG (F 39) 0 g0) ((bodyOf (F 39)).drop 2) σ (fun σ => P .none σ.hp σ.nxt) (fun v σ => P v σ.hp σ.nxt) (fun e σ => X e σ.hp σ.nxt)) (fun v σ => P v σ.hp σ.nxt) (fun e σ => X e σ.hp σ.nxt) := by kernel_rfl
noncomputable def inF (row : List Int) (k : Int) (a : Int × Int) : Prop := ∃ n d : Nat, a = (k - 1 - d, (n : Int)) ∧ n ≤ row.length ∧ (d : Int) ≤ k - 1 ∧ fst row (k - 1).toNat = n + fst (row.drop n) d ∧ d ≤ (sg (row.drop n)).length
theorem inF_step {row : List Int} {k : Int} {n m : Nat} (h1 : n ≤ row.length) (h2 : ((m + 1 : Nat) : Int) ≤ k - 1) (h3 : fst row (k - 1).toNat = n + fst (row.drop n) (m + 1)) (h4 : m + 1 ≤ (sg (row.drop n)).length) :
    n < row.length ∧ (row.getD n 0 ≥ 0 → inF row k (k - 1 - (m + 1 : Nat) + 1, (n : Int) + 1)) ∧ (¬ row.getD n 0 ≥ 0 → inF row k (k - 1 - (m + 1 : Nat) + 0, (n : Int) + 1)) := by
  have hlt : n < row.length := by
    rcases Nat.lt_or_ge n row.length with h | h
    · exact h
    · rw [List.drop_of_length_le h] at h4
      exact absurd h4 (Nat.not_succ_le_zero m)
  have hd := drop_getD hlt
  rw [hd, fst_cons] at h3
  rw [hd, sg_cons] at h4
  refine ⟨hlt, fun w => ex2i (n + 1) m ⟨?_, hlt, ?_, ?_, ?_⟩, fun w => ex2i (n + 1) (m + 1) ⟨?_, hlt, h2, ?_, ?_⟩⟩
  · show (k - 1 - ((m : Int) + 1) + 1, (n : Int) + 1) = _
    rw [← Int.sub_sub, Int.sub_add_cancel]; rfl
  · exact Int.le_trans (Int.ofNat_le.mpr (Nat.le_succ m)) h2
  · rw [if_pos w] at h3; rw [h3, Nat.add_assoc]
  · rw [if_pos w] at h4; exact Nat.le_of_succ_le_succ h4
  · rw [Int.add_zero]; rfl
  · rw [if_neg w] at h3; rw [h3, Nat.add_assoc]
  · rw [if_neg w] at h4; exact h4
theorem ok_first {W : Wd} (H : Pg W) : PTok W 1 (.ref 593) ptFirst := (fn_ok (m := 14) (mr := false) (n := 0) H.f593 (gx_ok (l := []) (exc := none) H.toBase Specs.nil noExc) fun as hp nx P X hh => ex2 hh fun row k hj => an4 hj fun e1 h0 hr q => by
  clear hj hh
  subst e1
  refine ⟨rfl, (sp_first row k hp nx P X).mpr ?_⟩
  refine whl (m := 13) (by kernel_rfl) (stF row k hp nx) (inF row k) (fun a => row.length - a.2.toNat) (fun a => decide (a.1 < k - 1)) (0, 0)
    (ex2i 0 (k - 1).toNat ⟨?_, Nat.zero_le _, ?_, (Nat.zero_add _).symm, ?_⟩) (fun ⟨s, a⟩ _ Q h => (wf_t ..).mpr h) (fun a g hc Q h => ?_) fun a g hc => ?_
  · rw [Int.toNat_of_nonneg (Int.sub_nonneg_of_le h0.1), Int.sub_self]; rfl
  · rw [Int.toNat_of_nonneg (Int.sub_nonneg_of_le h0.1)]; exact Int.le_refl _
  · exact Int.toNat_le.mpr (Int.sub_right_le_of_le_add h0.2)
  · refine ex2 g fun n d g => an5 g fun e g2 g3 g4 g5 => ?_
    clear g
    subst e
    cases d with
    | zero => exact absurd (of_decide_eq_true hc) (by rw [show k - 1 - ((0 : Nat) : Int) = k - 1 from Int.sub_zero _]; exact Int.lt_irrefl _)
    | succ m =>
      obtain ⟨hlt, f1, f2⟩ := inF_step g2 g3 g4 g5
      have hm : row.length - ((n : Int) + 1).toNat < row.length - ((n : Int)).toNat := Nat.sub_lt_sub_left hlt (Nat.lt_succ_self n)
      exact (wf_b ..).mpr ⟨⟨Int.natCast_nonneg _, Int.ofNat_lt.mpr hlt, bg hr rfl⟩, br_dec (fun w => h _ (f1 w) hm) fun w => h _ (f2 w) hm⟩
  · refine ex2 g fun n d g => an5 g fun e g2 g3 g4 g5 => ?_
    clear g
    subst e
    cases d with
    | zero =>
      rw [g4, fst_zero, Nat.add_zero] at q
      exact (wf_r ..).mpr q
    | succ m => exact absurd (show k - 1 - ((m + 1 : Nat) : Int) < k - 1 from Int.sub_lt_self _ (Int.ofNat_lt.mpr (Nat.succ_pos m))) (of_decide_eq_false hc)).ok
theorem nxt_step {row : List Int} {a : Nat} (h : a < row.length) (hn : row.getD a 0 < 0) : nxt row a = nxt row (a + 1) := by
  unfold nxt
  rw [drop_getD h, List.takeWhile_cons, if_pos (by simpa using hn), List.length_cons]
  lia -abstractProof
theorem nxt_stop {row : List Int} {a : Nat} (h : ¬ (a < row.length ∧ row.getD a 0 < 0)) : nxt row a = a := by
  unfold nxt
  rcases Nat.lt_or_ge a row.length with h' | h'
  · rw [drop_getD h', List.takeWhile_cons, if_neg (by rw [decide_eq_true_eq]; exact fun e => h ⟨h', e⟩)]; rfl
  · refine List.drop_of_length_le h' ▸ ?_; rfl
theorem sp_next (row : List Int) (a : Int) (hp : List (Nat × AO)) (nx : Nat) (P : PRes) (X : XRes) : vFn 14 g0 0 none false (F 40) [.lst row, .int a] hp nx P X = (vAt 14).S (cxG (F 40) 0 g0) (loopAt (F 40) 0) (stN row hp nx a)
 (fun σ => seg 14 (cxG (F 40) 0 g0) ((bodyOf (F 40)).drop 1) σ (fun σ => P .none σ.hp σ.nxt) (fun v σ => P v σ.hp σ.nxt) (fun e σ => X e σ.hp σ.nxt)) (fun v σ => P v σ.hp σ.nxt) (fun e σ => X e σ.hp σ.nxt) := by kernel_rfl
theorem ok_next {W : Wd} (H : Pg W) : PTok W 1 (.ref 600) ptNext := (fn_ok (m := 14) (mr := false) (n := 0) H.f600 (gx_ok (l := []) (exc := none) H.toBase Specs.nil noExc) fun as hp nx P X hh => ex2 hh fun row k hj => an4 hj fun e1 h0 hr q => by
  clear hj hh
  subst e1
  refine ⟨rfl, (sp_next row k hp nx P X).mpr ?_⟩
  refine whl (m := 13) (by kernel_rfl) (stN row hp nx) (fun a => 0 ≤ a ∧ nxt row k.toNat = nxt row a.toNat) (fun a => row.length - a.toNat) (fun a => decide (a.toNat < row.length ∧ row.getD a.toNat 0 < 0)) k ⟨h0, rfl⟩
    (fun a ⟨g1, g2⟩ Q h => (wn_t ..).mpr ⟨bg hr rfl, br_dec (fun w => ⟨by lia -abstractProof, br_dec (fun w' => ?_) fun w' => ?_⟩) fun w => ?_⟩) (fun a ⟨g1, g2⟩ hc Q h => (wn_b ..).mpr (h (a + 1) ⟨by lia -abstractProof, ?_⟩ ?_)) fun a ⟨g1, g2⟩ hc => ?_
  · rw [decide_eq_true (by lia -abstractProof)] at h; exact h
  · rw [decide_eq_false (by lia -abstractProof)] at h; exact h
  · rw [decide_eq_false (by lia -abstractProof)] at h; exact h
  · have hc := of_decide_eq_true hc
    refine g2 ▸ (show (a + 1).toNat = a.toNat + 1 by lia -abstractProof) ▸ ?_; exact nxt_step hc.1 hc.2
  · have hc := of_decide_eq_true hc
    lia -abstractProof
  · have hc := of_decide_eq_false hc
    refine (wn_r ..).mpr ?_
    rw [g2, nxt_stop hc, show ((a.toNat : Nat) : Int) = a from Int.toNat_of_nonneg g1] at q
    exact q).ok
theorem sp_draw (dk cells : List Int) (gs ge p b z tk ck : Int) (rows : List (Int × AV)) (rest : List (Nat × AO)) (nx : Nat) (many : Int) (P : PRes) (X : XRes) : vFn 14 g0 0 none false (F 38) [.ref 2, .int many] (lay dk cells gs ge p b z tk ck rows rest) nx P X =
 (vAt 14).S (cxG (F 38) 0 g0) (loopAt (F 38) 0) (stD dk cells gs ge p b z tk ck rows rest nx many)
 (fun σ => seg 14 (cxG (F 38) 0 g0) ((bodyOf (F 38)).drop 1) σ (fun σ => P .none σ.hp σ.nxt) (fun v σ => P v σ.hp σ.nxt) (fun e σ => X e σ.hp σ.nxt)) (fun v σ => P v σ.hp σ.nxt) (fun e σ => X e σ.hp σ.nxt) := by kernel_rfl
theorem ok_draw {W : Wd} (H : Pg W) : PTok W 1 (.ref 586) ptDraw := (fn_ok (m := 14) (mr := false) (n := 0) H.f586 (gx_ok (l := []) (exc := none) H.toBase Specs.nil noExc) fun as hp nx P X hh => ex12 hh fun dk cells gs ge p b z tk ck rows rest many hj => an5 hj fun e1 e2 h0 hl q => by
  clear hj hh
  subst e1 e2
  refine ⟨rfl, (sp_draw ..).mpr ?_⟩
  refine whl (m := 13) (by kernel_rfl) (fun d => stD d cells gs ge p b z tk ck rows rest nx many) (fun d => d.length ≤ 16) (fun d => d.length) (fun d => decide (d ≠ [] ∧ d.getD 0 0 = 0)) dk hl
    (fun d g Q h => (wd_t ..).mpr ⟨by decide, ?_⟩) (fun d g hc Q h => ?_) fun d g hc => (wd_r ..).mpr ⟨by decide, br_dec (fun w => q d 0 g (Int.le_refl _) (by lia -abstractProof)) fun w => ?_⟩
  · cases d with
    | nil => exact h
    | cons x r =>
      have g' : r.length + 1 ≤ 16 := g
      refine br_of (fun _ => ⟨by simp; lia -abstractProof, br_of (fun w => ?_) fun w => ?_⟩) fun w => by simp at w
      · rw [decide_eq_true ⟨by simp, by simpa using w⟩] at h; exact h
      · rw [decide_eq_false (fun e => by simp at w; exact w e.2)] at h; exact h
  · have hc := of_decide_eq_true hc
    cases d with
    | nil => exact absurd rfl hc.1
    | cons x r => exact (wd_b ..).mpr ⟨by simp at g; lia -abstractProof, h r (by simp at g; exact bg g rfl) (by simp)⟩
  · cases d with
    | nil => exact absurd rfl w
    | cons x r =>
      refine ⟨by simp at g ⊢; exact bg g rfl, by lia -abstractProof, by simp at g ⊢; exact bg g rfl, by lia -abstractProof, by simp at g ⊢; exact bg g rfl, q _ _ (by simpa using g) (Int.fmod_nonneg_of_pos _ (by lia -abstractProof)) (Int.fmod_lt_of_pos _ (by lia -abstractProof))⟩).ok
noncomputable def s6 : List (Addr × Nat × PT) := [(593, 1, ptFirst), (600, 1, ptNext)]
noncomputable def g6 : Gx := gx s6 none
noncomputable def plc (row : List Int) (m : Int) : Nat := 1 + (sg (row.takeWhile fun x => decide (x ≠ m))).length
noncomputable def ptSigns : PT := fun as hp nx P X => ∃ row, as = [.lst row] ∧ row.length ≤ 10000 ∧ P (.lst (sg row)) hp nx
noncomputable def ptPlace : PT := fun as hp nx P X => ∃ row m, as = [.lst row, .int m] ∧ row.length ≤ 10000 ∧ m ∈ row ∧ P (.int (plc row m : Nat)) hp nx
noncomputable def putR (row : List Int) (k : Nat) (cs go : List Int) : List Int :=
  row.take (fst row k) ++ (((row.drop (fst row k)).take (nxt row (fst row k) - fst row k)).filter fun x => !go.any (· == x)) ++ cs ++ (((row.drop (fst row k)).take (nxt row (fst row k) - fst row k)).filter fun x => go.any (· == x)) ++ row.drop (nxt row (fst row k))
noncomputable def ptPut : PT := fun as hp nx P X => ∃ row k cs go, as = [.lst row, .int k, .lst cs, .lst go] ∧ (1 ≤ k ∧ k ≤ ((sg row).length : Int) + 1) ∧ row.length ≤ 10000 ∧ cs.length ≤ 1000 ∧ P (.lst (putR row (k - 1).toNat cs go)) hp nx
noncomputable def wthR (row : List Int) (m : Int) (k : Nat) (il : Bool) : List Int := row.take (if il = true then nxt row (fst row k) else fst row k) ++ [m] ++ row.drop (if il = true then nxt row (fst row k) else fst row k)
noncomputable def ptWith : PT := fun as hp nx P X => ∃ row m k il, as = [.lst row, .int m, .int k, .bool il] ∧ (1 ≤ k ∧ k ≤ ((sg row).length : Int) + 1) ∧ row.length ≤ 10000 ∧ P (.lst (wthR row m (k - 1).toNat il)) hp nx
noncomputable def s7 : List (Addr × Nat × PT) := (605, 2, ptPut) :: s6
noncomputable def g7 : Gx := gx s7 none
noncomputable def hops (row : List Int) : Nat → Nat → Nat
  | 0, h => h
  | n + 1, h => hops row n (nxt row h + 1)
noncomputable def chgR (row : List Int) (s e : Nat) (cs go : List Int) : List Int := if s = e then putR row s cs go else
  row.take (nxt row (fst row s)) ++ (((row.drop (nxt row (fst row s))).take (hops row (e - s) (nxt row (fst row s)) - nxt row (fst row s))).filter fun x => decide (x < 0)) ++ cs ++ row.drop (hops row (e - s) (nxt row (fst row s)))
noncomputable def ptChanged : PT := fun as hp nx P X => ∃ row s e cs go, as = [.lst row, .int s, .int e, .lst cs, .lst go] ∧ (1 ≤ s ∧ s ≤ e ∧ e ≤ ((sg row).length : Int) + 1) ∧ row.length ≤ 10000 ∧ cs.length ≤ 1000 ∧ P (.lst (chgR row (s - 1).toNat (e - 1).toNat cs go)) hp nx
noncomputable def stC (row : List Int) (s e : Int) (cs go : List Int) (hp : List (Nat × AO)) (nx : Nat) (lo : Nat) (h : Nat) (lap : Option Int) : St :=
  ⟨hp, [en "row" (.lst row), en "start" (.int s), en "end" (.int e), en "signs" (.lst cs), en "going" (.lst go), en "low" (.int lo), en "high" (.int h)] ++ (match lap with | none => [] | some k => [en "lap" (.int k)]), [], [], nx⟩
theorem vl_signs (row : List Int) (hp : List (Nat × AO)) (nx : Nat) (P : PRes) (X : XRes) : (vFn 14 g6 1 none false (F 44) [.lst row] hp nx P X) = (
∃ (g : Int → Option Int),
 (row.length ≤ 16777216 ∧
 ∀ (y : Int),
 y ∈ row →
 br (decide (y ≥ (0 : Int))) (∃ i, g y = some i ∧ AV.int y = AV.int i ∧ Same ⟨hp, [], [], [], nx⟩ ⟨hp, [en "own" (.int y)], [], [], nx⟩)
 (g y = none ∧ Same ⟨hp, [], [], [], nx⟩ ⟨hp, [en "own" (.int y)], [], [], nx⟩)) ∧
 P (AV.lst (List.filterMap g row)) hp nx) := by kernel_rfl
theorem vl_place (row : List Int) (m : Int) (hp : List (Nat × AO)) (nx : Nat) (P : PRes) (X : XRes) : (vFn 14 g6 1 none false (F 43) [.lst row, .int m] hp nx P X) = (
row.length ≤ 16777216 ∧
 ∃ j,
 ixOf m row = some j ∧
 row.length ≤ 16777216 ∧
 (0 : Int) ≤ (↑j : Int) ∧
 ∃ (g : Int → Option Int),
 ((List.take (↑j : Int).toNat row).length ≤ 16777216 ∧
 ∀ (y : Int),
 y ∈ List.take (↑j : Int).toNat row →
 br (decide (y ≥ (0 : Int))) (∃ i, g y = some i ∧ AV.int y = AV.int i ∧ Same ⟨hp, [], [], [], nx⟩ ⟨hp, [en "own" (.int y)], [], [], nx⟩)
 (g y = none ∧ Same ⟨hp, [], [], [], nx⟩ ⟨hp, [en "own" (.int y)], [], [], nx⟩)) ∧
 (List.filterMap g (List.take (↑j : Int).toNat row)).length ≤ 1099511627776 ∧ P (AV.int ((1 : Int) + (↑(List.filterMap g (List.take (↑j : Int).toNat row)).length : Int))) hp nx) := by kernel_rfl
theorem vl_put (row : List Int) (k : Int) (cs go : List Int) (hp : List (Nat × AO)) (nx : Nat) (P : PRes) (X : XRes) : (vFn 14 g6 1 none false (F 41) [.lst row, .int k, .lst cs, .lst go] hp nx P X) = (
∃ row_1 k_1,
 [AV.lst row, AV.int k] = [AV.lst row_1, AV.int k_1] ∧
 ((1 : Int) ≤ k_1 ∧ k_1 ≤ (↑(sg row_1).length : Int) + (1 : Int)) ∧
 row_1.length ≤ 10000 ∧
 ∃ row_2 h,
 [AV.lst row, AV.int (↑(fst row_1 (k_1 - (1 : Int)).toNat) : Int)] = [AV.lst row_2, AV.int h] ∧
 (0 : Int) ≤ h ∧
 row_2.length ≤ 10000 ∧
 row.length ≤ 16777216 ∧
 ((0 : Int) ≤ (↑(fst row_1 (k_1 - (1 : Int)).toNat) : Int) ∧ (0 : Int) ≤ (↑(nxt row_2 h.toNat) : Int)) ∧
 ∃ (g : Int → Option Int),
 ((List.take ((↑(nxt row_2 h.toNat) : Int) - (↑(fst row_1 (k_1 - (1 : Int)).toNat) : Int)).toNat (List.drop (↑(fst row_1 (k_1 - (1 : Int)).toNat) : Int).toNat row)).length ≤ 16777216 ∧
 ∀ (y : Int),
 y ∈ List.take ((↑(nxt row_2 h.toNat) : Int) - (↑(fst row_1 (k_1 - (1 : Int)).toNat) : Int)).toNat (List.drop (↑(fst row_1 (k_1 - (1 : Int)).toNat) : Int).toNat row) →
 br (!go.any fun x => x == y)
 (∃ i, g y = some i ∧ AV.int y = AV.int i ∧ Same ⟨hp, [], [], [en "going" (.lst go)], nx⟩ ⟨hp, [en "own" (.int y)], [], [en "going" (.lst go)], nx⟩)
 (g y = none ∧ Same ⟨hp, [], [], [en "going" (.lst go)], nx⟩ ⟨hp, [en "own" (.int y)], [], [en "going" (.lst go)], nx⟩)) ∧
 row.length ≤ 16777216 ∧
 (0 : Int) ≤ (↑(fst row_1 (k_1 - (1 : Int)).toNat) : Int) ∧
 (List.take (↑(fst row_1 (k_1 - (1 : Int)).toNat) : Int).toNat row).length + (List.filterMap g (List.take ((↑(nxt row_2 h.toNat) : Int) - (↑(fst row_1 (k_1 - (1 : Int)).toNat) : Int)).toNat (List.drop (↑(fst row_1 (k_1 - (1 : Int)).toNat) : Int).toNat row))).length ≤
 16777216 ∧
 (List.take (↑(fst row_1 (k_1 - (1 : Int)).toNat) : Int).toNat row ++ List.filterMap g (List.take ((↑(nxt row_2 h.toNat) : Int) - (↑(fst row_1 (k_1 - (1 : Int)).toNat) : Int)).toNat (List.drop (↑(fst row_1 (k_1 - (1 : Int)).toNat) : Int).toNat row))).length + cs.length ≤
 16777216 ∧
 row.length ≤ 16777216 ∧
 ((0 : Int) ≤ (↑(fst row_1 (k_1 - (1 : Int)).toNat) : Int) ∧ (0 : Int) ≤ (↑(nxt row_2 h.toNat) : Int)) ∧
 ∃ (g_1 : Int → Option Int),
 ((List.take ((↑(nxt row_2 h.toNat) : Int) - (↑(fst row_1 (k_1 - (1 : Int)).toNat) : Int)).toNat (List.drop (↑(fst row_1 (k_1 - (1 : Int)).toNat) : Int).toNat row)).length ≤ 16777216 ∧
 ∀ (y : Int),
 y ∈ List.take ((↑(nxt row_2 h.toNat) : Int) - (↑(fst row_1 (k_1 - (1 : Int)).toNat) : Int)).toNat (List.drop (↑(fst row_1 (k_1 - (1 : Int)).toNat) : Int).toNat row) →
 br (go.any fun x => x == y)
 (∃ i,
 g_1 y = some i ∧
 AV.int y = AV.int i ∧ Same ⟨hp, [], [], [en "going" (.lst go)], nx⟩ ⟨hp, [en "own" (.int y)], [], [en "going" (.lst go)], nx⟩)
 (g_1 y = none ∧ Same ⟨hp, [], [], [en "going" (.lst go)], nx⟩ ⟨hp, [en "own" (.int y)], [], [en "going" (.lst go)], nx⟩)) ∧
 (List.take (↑(fst row_1 (k_1 - (1 : Int)).toNat) : Int).toNat row ++ List.filterMap g (List.take ((↑(nxt row_2 h.toNat) : Int) - (↑(fst row_1 (k_1 - (1 : Int)).toNat) : Int)).toNat (List.drop (↑(fst row_1 (k_1 - (1 : Int)).toNat) : Int).toNat row)) ++
 cs).length +
 (List.filterMap g_1 (List.take ((↑(nxt row_2 h.toNat) : Int) - (↑(fst row_1 (k_1 - (1 : Int)).toNat) : Int)).toNat (List.drop (↑(fst row_1 (k_1 - (1 : Int)).toNat) : Int).toNat row))).length ≤
 16777216 ∧
 row.length ≤ 16777216 ∧
 (0 : Int) ≤ (↑(nxt row_2 h.toNat) : Int) ∧
 (List.take (↑(fst row_1 (k_1 - (1 : Int)).toNat) : Int).toNat row ++ List.filterMap g (List.take ((↑(nxt row_2 h.toNat) : Int) - (↑(fst row_1 (k_1 - (1 : Int)).toNat) : Int)).toNat (List.drop (↑(fst row_1 (k_1 - (1 : Int)).toNat) : Int).toNat row)) ++
 cs ++
 List.filterMap g_1 (List.take ((↑(nxt row_2 h.toNat) : Int) - (↑(fst row_1 (k_1 - (1 : Int)).toNat) : Int)).toNat (List.drop (↑(fst row_1 (k_1 - (1 : Int)).toNat) : Int).toNat row))).length +
 (List.drop (↑(nxt row_2 h.toNat) : Int).toNat row).length ≤
 16777216 ∧
 P
 (AV.lst
 (List.take (↑(fst row_1 (k_1 - (1 : Int)).toNat) : Int).toNat row ++
 List.filterMap g (List.take ((↑(nxt row_2 h.toNat) : Int) - (↑(fst row_1 (k_1 - (1 : Int)).toNat) : Int)).toNat (List.drop (↑(fst row_1 (k_1 - (1 : Int)).toNat) : Int).toNat row)) ++
 cs ++
 List.filterMap g_1 (List.take ((↑(nxt row_2 h.toNat) : Int) - (↑(fst row_1 (k_1 - (1 : Int)).toNat) : Int)).toNat (List.drop (↑(fst row_1 (k_1 - (1 : Int)).toNat) : Int).toNat row)) ++
 List.drop (↑(nxt row_2 h.toNat) : Int).toNat row))
 hp nx) := by kernel_rfl
theorem vl_with (row : List Int) (m k : Int) (il : Bool) (hp : List (Nat × AO)) (nx : Nat) (P : PRes) (X : XRes) : (vFn 14 g6 1 none false (F 47) [.lst row, .int m, .int k, .bool il] hp nx P X) = (
∃ row_1 k_1,
 [AV.lst row, AV.int k] = [AV.lst row_1, AV.int k_1] ∧
 ((1 : Int) ≤ k_1 ∧ k_1 ≤ (↑(sg row_1).length : Int) + (1 : Int)) ∧
 row_1.length ≤ 10000 ∧
 br il
 (∃ row_2 h,
 [AV.lst row, AV.int (↑(fst row_1 (k_1 - (1 : Int)).toNat) : Int)] = [AV.lst row_2, AV.int h] ∧
 (0 : Int) ≤ h ∧
 row_2.length ≤ 10000 ∧
 row.length ≤ 16777216 ∧
 (0 : Int) ≤ (↑(nxt row_2 h.toNat) : Int) ∧
 1 ≤ 1000 ∧
 (List.take (↑(nxt row_2 h.toNat) : Int).toNat row).length + [m].length ≤ 16777216 ∧
 row.length ≤ 16777216 ∧
 (0 : Int) ≤ (↑(nxt row_2 h.toNat) : Int) ∧
 (List.take (↑(nxt row_2 h.toNat) : Int).toNat row ++ [m]).length + (List.drop (↑(nxt row_2 h.toNat) : Int).toNat row).length ≤ 16777216 ∧
 P (AV.lst (List.take (↑(nxt row_2 h.toNat) : Int).toNat row ++ [m] ++ List.drop (↑(nxt row_2 h.toNat) : Int).toNat row)) hp nx)
 (row.length ≤ 16777216 ∧
 (0 : Int) ≤ (↑(fst row_1 (k_1 - (1 : Int)).toNat) : Int) ∧
 1 ≤ 1000 ∧
 (List.take (↑(fst row_1 (k_1 - (1 : Int)).toNat) : Int).toNat row).length + [m].length ≤ 16777216 ∧
 row.length ≤ 16777216 ∧
 (0 : Int) ≤ (↑(fst row_1 (k_1 - (1 : Int)).toNat) : Int) ∧
 (List.take (↑(fst row_1 (k_1 - (1 : Int)).toNat) : Int).toNat row ++ [m]).length + (List.drop (↑(fst row_1 (k_1 - (1 : Int)).toNat) : Int).toNat row).length ≤ 16777216 ∧
 P (AV.lst (List.take (↑(fst row_1 (k_1 - (1 : Int)).toNat) : Int).toNat row ++ [m] ++ List.drop (↑(fst row_1 (k_1 - (1 : Int)).toNat) : Int).toNat row)) hp nx)) := by kernel_rfl
theorem vg_1 (row : List Int) (s e : Int) (cs go : List Int) (hp : List (Nat × AO)) (nx : Nat) (N : St → Prop) (P : PRes) (X : XP) : (seg 14 (cxG (F 42) 2 g7) ((bodyOf (F 42)).take 3) (frameSt (scopeOf (F 42)) (psOf (F 42)) [.lst row, .int s, .int e, .lst cs, .lst go] hp nx) N (fun v σ => P v σ.hp σ.nxt) X) = (
br (s == e)
 (∃ row_1 k cs_1 go_1,
 [AV.lst row, AV.int s, AV.lst cs, AV.lst go] = [AV.lst row_1, AV.int k, AV.lst cs_1, AV.lst go_1] ∧ ((1 : Int) ≤ k ∧ k ≤ (↑(sg row_1).length : Int) + (1 : Int)) ∧ row_1.length ≤ 10000 ∧ cs_1.length ≤ 1000 ∧ P (AV.lst (putR row_1 (k - (1 : Int)).toNat cs_1 go_1)) hp nx)
 (∃ row_1 k,
 [AV.lst row, AV.int s] = [AV.lst row_1, AV.int k] ∧
 ((1 : Int) ≤ k ∧ k ≤ (↑(sg row_1).length : Int) + (1 : Int)) ∧
 row_1.length ≤ 10000 ∧
 ∃ row_2 h,
 [AV.lst row, AV.int (↑(fst row_1 (k - (1 : Int)).toNat) : Int)] = [AV.lst row_2, AV.int h] ∧
 (0 : Int) ≤ h ∧
 row_2.length ≤ 10000 ∧
 N
 { hp := hp, loc := [en "row" (.lst row), en "start" (.int s), en "end" (.int e), en "signs" (.lst cs), en "going" (.lst go), en "low" (.int (↑(nxt row_2 h.toNat) : Int)), en "high" (.int (↑(nxt row_2 h.toNat) : Int))], cel := [], fre := [], nxt := nx })) := by kernel_rfl
theorem vg_t0 (row : List Int) (s e : Int) (cs go : List Int) (hp : List (Nat × AO)) (nx : Nat) (lo h : Nat) (k : Int) (N : St → Prop) (Rt : AV → St → Prop) : (turn (vAt 12) (cxG (F 42) 2 g7) (loopAt (F 42) 3) k (stC row s e cs go hp nx lo h none) N Rt) = (
∃ row_1 h_1,
 [AV.lst row, AV.int (↑h : Int)] = [AV.lst row_1, AV.int h_1] ∧
 (0 : Int) ≤ h_1 ∧
 row_1.length ≤ 10000 ∧
 N
 { hp := hp,
            loc :=
              [en "row" (.lst row), en "start" (.int s), en "end" (.int e), en "signs" (.lst cs), en "going" (.lst go), en "low" (.int (↑lo : Int)),
                en "high" (.int ((↑(nxt row_1 h_1.toNat) : Int) + (1 : Int))), en "lap" (.int k)],
            cel := [], fre := [], nxt := nx }) := by kernel_rfl
theorem vg_t1 (row : List Int) (s e : Int) (cs go : List Int) (hp : List (Nat × AO)) (nx : Nat) (lo h : Nat) (k j : Int) (N : St → Prop) (Rt : AV → St → Prop) : (turn (vAt 12) (cxG (F 42) 2 g7) (loopAt (F 42) 3) k (stC row s e cs go hp nx lo h (some j)) N Rt) = (
∃ row_1 h_1,
 [AV.lst row, AV.int (↑h : Int)] = [AV.lst row_1, AV.int h_1] ∧
 (0 : Int) ≤ h_1 ∧
 row_1.length ≤ 10000 ∧
 N
 { hp := hp,
            loc :=
              [en "row" (.lst row), en "start" (.int s), en "end" (.int e), en "signs" (.lst cs), en "going" (.lst go), en "low" (.int (↑lo : Int)),
                en "high" (.int ((↑(nxt row_1 h_1.toNat) : Int) + (1 : Int))), en "lap" (.int k)],
            cel := [], fre := [], nxt := nx }) := by kernel_rfl
theorem vg_r0 (row : List Int) (s e : Int) (cs go : List Int) (hp : List (Nat × AO)) (nx : Nat) (lo h : Nat) (N : St → Prop) (P : PRes) (X : XP) : (seg 14 (cxG (F 42) 2 g7) ((bodyOf (F 42)).drop 4) (stC row s e cs go hp nx lo h none) N (fun v σ => P v σ.hp σ.nxt) X) = (
row.length ≤ 16777216 ∧
 (0 : Int) ≤ (↑lo : Int) ∧
 row.length ≤ 16777216 ∧
 ((0 : Int) ≤ (↑lo : Int) ∧ (0 : Int) ≤ (↑h : Int)) ∧
 ∃ (g : Int → Option Int),
 ((List.take ((↑h : Int) - (↑lo : Int)).toNat (List.drop (↑lo : Int).toNat row)).length ≤ 16777216 ∧
 ∀ (y : Int),
 y ∈ List.take ((↑h : Int) - (↑lo : Int)).toNat (List.drop (↑lo : Int).toNat row) →
 br (decide (y < (0 : Int))) (∃ i, g y = some i ∧ AV.int y = AV.int i ∧ Same ⟨hp, [], [], [], nx⟩ ⟨hp, [en "own" (.int y)], [], [], nx⟩)
 (g y = none ∧ Same ⟨hp, [], [], [], nx⟩ ⟨hp, [en "own" (.int y)], [], [], nx⟩)) ∧
 (List.take (↑lo : Int).toNat row).length + (List.filterMap g (List.take ((↑h : Int) - (↑lo : Int)).toNat (List.drop (↑lo : Int).toNat row))).length ≤ 16777216 ∧
 (List.take (↑lo : Int).toNat row ++ List.filterMap g (List.take ((↑h : Int) - (↑lo : Int)).toNat (List.drop (↑lo : Int).toNat row))).length + cs.length ≤ 16777216 ∧
 row.length ≤ 16777216 ∧
 (0 : Int) ≤ (↑h : Int) ∧
 (List.take (↑lo : Int).toNat row ++ List.filterMap g (List.take ((↑h : Int) - (↑lo : Int)).toNat (List.drop (↑lo : Int).toNat row)) ++ cs).length + (List.drop (↑h : Int).toNat row).length ≤ 16777216 ∧
 P (AV.lst (List.take (↑lo : Int).toNat row ++ List.filterMap g (List.take ((↑h : Int) - (↑lo : Int)).toNat (List.drop (↑lo : Int).toNat row)) ++ cs ++ List.drop (↑h : Int).toNat row)) hp nx) := by kernel_rfl
theorem vg_r1 (row : List Int) (s e : Int) (cs go : List Int) (hp : List (Nat × AO)) (nx : Nat) (lo h : Nat) (j : Int) (N : St → Prop) (P : PRes) (X : XP) : (seg 14 (cxG (F 42) 2 g7) ((bodyOf (F 42)).drop 4) (stC row s e cs go hp nx lo h (some j)) N (fun v σ => P v σ.hp σ.nxt) X) = (
row.length ≤ 16777216 ∧
 (0 : Int) ≤ (↑lo : Int) ∧
 row.length ≤ 16777216 ∧
 ((0 : Int) ≤ (↑lo : Int) ∧ (0 : Int) ≤ (↑h : Int)) ∧
 ∃ (g : Int → Option Int),
 ((List.take ((↑h : Int) - (↑lo : Int)).toNat (List.drop (↑lo : Int).toNat row)).length ≤ 16777216 ∧
 ∀ (y : Int),
 y ∈ List.take ((↑h : Int) - (↑lo : Int)).toNat (List.drop (↑lo : Int).toNat row) →
 br (decide (y < (0 : Int))) (∃ i, g y = some i ∧ AV.int y = AV.int i ∧ Same ⟨hp, [], [], [], nx⟩ ⟨hp, [en "own" (.int y)], [], [], nx⟩)
 (g y = none ∧ Same ⟨hp, [], [], [], nx⟩ ⟨hp, [en "own" (.int y)], [], [], nx⟩)) ∧
 (List.take (↑lo : Int).toNat row).length + (List.filterMap g (List.take ((↑h : Int) - (↑lo : Int)).toNat (List.drop (↑lo : Int).toNat row))).length ≤ 16777216 ∧
 (List.take (↑lo : Int).toNat row ++ List.filterMap g (List.take ((↑h : Int) - (↑lo : Int)).toNat (List.drop (↑lo : Int).toNat row))).length + cs.length ≤ 16777216 ∧
 row.length ≤ 16777216 ∧
 (0 : Int) ≤ (↑h : Int) ∧
 (List.take (↑lo : Int).toNat row ++ List.filterMap g (List.take ((↑h : Int) - (↑lo : Int)).toNat (List.drop (↑lo : Int).toNat row)) ++ cs).length + (List.drop (↑h : Int).toNat row).length ≤ 16777216 ∧
 P (AV.lst (List.take (↑lo : Int).toNat row ++ List.filterMap g (List.take ((↑h : Int) - (↑lo : Int)).toNat (List.drop (↑lo : Int).toNat row)) ++ cs ++ List.drop (↑h : Int).toNat row)) hp nx) := by kernel_rfl
theorem br_comp {c : Bool} {v : Int} {S : Prop} (hS : S) : br c (∃ i, (if c = true then some v else none) = some i ∧ AV.int v = AV.int i ∧ S) ((if c = true then some v else none) = none ∧ S) := by
  cases c
  · exact ⟨rfl, hS⟩
  · exact ⟨v, rfl, rfl, hS⟩
theorem fm_filter (c : Int → Bool) : ∀ xs : List Int, xs.filterMap (fun y => if c y = true then some y else none) = xs.filter c
  | [] => rfl
  | x :: r => by
    refine List.filterMap_cons ▸ List.filter_cons ▸ (fm_filter c r).symm ▸ ?_
    cases c x <;> rfl
noncomputable abbrev gC (c : Int → Bool) : Int → Option Int := fun y => if c y = true then some y else none
theorem ixOf_mem {m : Int} : ∀ {row : List Int}, m ∈ row → ∃ j, ixOf m row = some j ∧ row.take j = row.takeWhile fun x => decide (x ≠ m)
  | x :: r, h => by
    unfold ixOf
    by_cases e : x = m
    · exact ⟨0, by exact if_pos e ▸ rfl, by rw [List.takeWhile_cons, if_neg (by simpa using e)]; rfl⟩
    · obtain ⟨j, h1, h2⟩ := ixOf_mem (m := m) (row := r) ((List.mem_cons.mp h).resolve_left fun e' => e e'.symm)
      exact ⟨j + 1, by refine if_neg e ▸ h1 ▸ ?_; rfl, by rw [List.takeWhile_cons, if_pos (by simpa using e), List.take_succ_cons, h2]⟩
theorem s6_ok {W : Wd} (H : Pg W) : Specs W s6 := .cons (ok_first H) (fn_k H (i := 28) rfl) <| .cons (ok_next H) (fn_k H (i := 29) rfl) .nil
theorem g6_ok {W : Wd} (H : Pg W) : GOk W g6 := gx_ok H.toBase (s6_ok H) noExc
theorem ok_signs {W : Wd} (H : Pg W) : PTok W 2 (.ref 620) ptSigns := (fn_ok (m := 14) (mr := false) (n := 1) H.f620 (g6_ok H) fun as hp nx P X hh => ex1 hh fun row hj => an3 hj fun e1 hr q => by
  clear hj hh
  subst e1
  refine ⟨rfl, (vl_signs ..).mpr ⟨gC fun y => decide (y ≥ 0), ⟨bg hr rfl, fun y _ => br_comp ⟨rfl, rfl, rfl, rfl⟩⟩, ?_⟩⟩
  refine (fm_filter ..) ▸ ?_; exact q).ok
theorem ok_place {W : Wd} (H : Pg W) : PTok W 2 (.ref 615) ptPlace := (fn_ok (m := 14) (mr := false) (n := 1) H.f615 (g6_ok H) fun as hp nx P X hh => ex2 hh fun row m hj => an4 hj fun e1 hr hm q => by
  clear hj hh
  subst e1
  obtain ⟨j, h1, h2⟩ := ixOf_mem hm
  have e : ((j : Int)).toNat = j := Int.toNat_natCast _
  refine ⟨rfl, (vl_place ..).mpr ⟨bg hr rfl, j, h1, bg hr rfl, Int.natCast_nonneg _, gC fun y => decide (y ≥ 0), ⟨by refine List.length_take ▸ ?_; lia -abstractProof, fun y _ => br_comp ⟨rfl, rfl, rfl, rfl⟩⟩, ?_⟩⟩
  refine (fm_filter ..) ▸ e.symm ▸ h2 ▸ ?_
  refine ⟨?_, ?_⟩
  · have h3 := List.length_filter_le (fun y : Int => decide (y ≥ 0)) (row.takeWhile fun x => decide (x ≠ m))
    have h4 : (row.takeWhile fun x => decide (x ≠ m)).length ≤ row.length := by refine h2 ▸ List.length_take ▸ ?_; lia -abstractProof
    lia -abstractProof
  · have e2 : ((plc row m : Nat) : Int) = 1 + (((row.takeWhile fun x => decide (x ≠ m)).filter fun y => decide (y ≥ 0)).length : Int) := by unfold plc sg; lia -abstractProof
    rw [e2] at q; exact q).ok
theorem ok_with {W : Wd} (H : Pg W) : PTok W 2 (.ref 639) ptWith := (fn_ok (m := 14) (mr := false) (n := 1) H.f639 (g6_ok H) fun as hp nx P X hh => ex4 hh fun row m k il hj => an4 hj fun e1 h0 hr q => by
  clear hj hh
  subst e1
  unfold wthR at q
  refine ⟨rfl, (vl_with ..).mpr (ex2i row k ⟨rfl, h0, hr, ?_⟩)⟩
  have e : ((fst row (k - 1).toNat : Nat) : Int).toNat = fst row (k - 1).toNat := Int.toNat_natCast _
  refine br_of (fun w => ex2i row _ ⟨rfl, Int.natCast_nonneg _, hr, bg hr rfl, Int.natCast_nonneg _, by decide, ?_, bg hr rfl, Int.natCast_nonneg _, ?_, ?_⟩) fun w => ⟨bg hr rfl, Int.natCast_nonneg _, by decide, ?_, bg hr rfl, Int.natCast_nonneg _, ?_, ?_⟩
  · exact bg (Nat.add_le_add (ltk hr) (Nat.le_refl 1)) rfl
  · exact bg (Nat.add_le_add (lapd (ltk hr) (Nat.le_refl 1)) (ldr hr)) rfl
  · rw [if_pos w] at q
    refine e.symm ▸ (Int.toNat_natCast ..) ▸ ?_; exact q
  · exact bg (Nat.add_le_add (ltk hr) (Nat.le_refl 1)) rfl
  · exact bg (Nat.add_le_add (lapd (ltk hr) (Nat.le_refl 1)) (ldr hr)) rfl
  · rw [if_neg (by refine w ▸ ?_; decide)] at q
    refine e.symm ▸ ?_; exact q).ok
theorem ok_put {W : Wd} (H : Pg W) : PTok W 2 (.ref 605) ptPut := (fn_ok (m := 14) (mr := false) (n := 1) H.f605 (g6_ok H) fun as hp nx P X hh => ex4 hh fun row k cs go hj => an5 hj fun e1 h0 hr hc q => by
  clear hj hh
  subst e1
  unfold putR at q
  generalize hA : fst row (k - 1).toNat = A at q
  generalize hB : nxt row A = B at q
  have eA : ((A : Nat) : Int).toNat = A := Int.toNat_natCast _
  have eB : ((B : Nat) : Int).toNat = B := Int.toNat_natCast _
  have eAB : ((B : Int) - (A : Int)).toNat = B - A := Int.toNat_sub ..
  refine ⟨rfl, (vl_put ..).mpr (ex2i row k ⟨rfl, h0, hr, ?_⟩)⟩
  refine hA ▸ ?_
  refine ex2i row A ⟨rfl, Int.natCast_nonneg _, hr, bg hr rfl, ?_⟩
  refine eA.symm ▸ hB ▸ eAB ▸ ?_
  refine ⟨⟨Int.natCast_nonneg _, Int.natCast_nonneg _⟩, gC fun y => !go.any (· == y), ⟨bg (ltk (ldr hr)) rfl, fun y _ => br_comp ⟨rfl, rfl, rfl, rfl⟩⟩, ?_⟩
  refine (fm_filter ..) ▸ ?_
  refine ⟨bg hr rfl, Int.natCast_nonneg _, ?_, ?_, bg hr rfl, by lia -abstractProof, gC fun y => go.any (· == y), ⟨bg (ltk (ldr hr)) rfl, fun y _ => br_comp ⟨rfl, rfl, rfl, rfl⟩⟩, ?_⟩
  · exact bg (Nat.add_le_add (ltk hr) (lft (ltk (ldr hr)))) rfl
  · exact bg (Nat.add_le_add (lapd (ltk hr) (lft (ltk (ldr hr)))) hc) rfl
  refine (fm_filter ..).symm ▸ eB.symm ▸ ?_
  refine ⟨?_, bg hr rfl, Int.natCast_nonneg _, ?_, q⟩
  · exact bg (Nat.add_le_add (lapd (lapd (ltk hr) (lft (ltk (ldr hr)))) hc) (lft (ltk (ldr hr)))) rfl
  · exact bg (Nat.add_le_add (lapd (lapd (lapd (ltk hr) (lft (ltk (ldr hr)))) hc) (lft (ltk (ldr hr)))) (ldr hr)) rfl).ok
theorem for_ind {U : V} {cx : Cx} {l : Stmt} {N : St → Prop} {Rt : AV → St → Prop} (J : List Int → St → Prop) (hJ : ∀ k r σ, J (k :: r) σ → ∀ Q : St → Prop, (∀ σ', J r σ' → Q σ') → turn U cx l k σ Q Rt) (h0 : ∀ σ, J [] σ → N σ) :
    ∀ (xs : List Int) (σ : St), J xs σ → vFor U cx (forT l) (forB l) N Rt xs σ
  | [], σ, h => h0 σ h
  | k :: r, σ, h => turn_cons (hJ k r σ h _ fun σ' h' => for_ind J hJ h0 r σ' h')
theorem itP_rng {k : Int} {K : List Int → Prop} (h0 : 0 ≤ k) (h1 : k ≤ 100000) (h : K (irange 0 k)) : itP (.rng 0 k) K := ⟨⟨⟨by decide, by decide⟩, Int.le_trans (by decide) h0, by lia -abstractProof⟩, h⟩
theorem sp_chg1 (row : List Int) (s e : Int) (cs go : List Int) (hp : List (Nat × AO)) (nx : Nat) (P : PRes) (X : XRes) : vFn 14 g7 2 none false (F 42) [.lst row, .int s, .int e, .lst cs, .lst go] hp nx P X =
 seg 14 (cxG (F 42) 2 g7) ((bodyOf (F 42)).take 3) (frameSt (scopeOf (F 42)) (psOf (F 42)) [.lst row, .int s, .int e, .lst cs, .lst go] hp nx) (fun σ => (vAt 14).S (cxG (F 42) 2 g7) (loopAt (F 42) 3) σ
 (fun σ => seg 14 (cxG (F 42) 2 g7) ((bodyOf (F 42)).drop 4) σ (fun σ => P .none σ.hp σ.nxt) (fun v σ => P v σ.hp σ.nxt) (fun e σ => X e σ.hp σ.nxt)) (fun v σ => P v σ.hp σ.nxt) (fun e σ => X e σ.hp σ.nxt)) (fun v σ => P v σ.hp σ.nxt) (fun e σ => X e σ.hp σ.nxt) := by kernel_rfl
theorem sp_chg2 (row : List Int) (s e : Int) (cs go : List Int) (hp : List (Nat × AO)) (nx : Nat) (lo h : Nat) (N : St → Prop) (Rt : AV → St → Prop) (X : XP) : (vAt 14).S (cxG (F 42) 2 g7) (loopAt (F 42) 3) (stC row s e cs go hp nx lo h none) N Rt X =
 itP (.rng 0 (e - s)) fun xs => vFor (vAt 12) (cxG (F 42) 2 g7) (forT (loopAt (F 42) 3)) (forB (loopAt (F 42) 3)) N Rt xs (stC row s e cs go hp nx lo h none) := by kernel_rfl
theorem s7_ok {W : Wd} (H : Pg W) : Specs W s7 := .cons (ok_put H) (fn_k H (i := 30) rfl) (s6_ok H)
theorem g7_ok {W : Wd} (H : Pg W) : GOk W g7 := gx_ok H.toBase (s7_ok H) noExc
theorem ok_changed {W : Wd} (H : Pg W) : PTok W 3 (.ref 610) ptChanged := (fn_ok (m := 14) (mr := false) (n := 2) H.f610 (g7_ok H) fun as hp nx P X hh => ex5 hh fun row s e cs go hj => an5 hj fun e1 h0 hr hc q => by
  clear hj hh
  subst e1
  refine ⟨rfl, (sp_chg1 ..).mpr ((vg_1 ..).mpr (br_of (fun w => ?_) fun w => ?_))⟩
  · obtain rfl : s = e := by simpa using w
    unfold chgR at q
    rw [if_pos rfl] at q
    exact ex4i row s cs go ⟨rfl, by lia -abstractProof, hr, hc, q⟩
  · have hse : s ≠ e := by simpa using w
    unfold chgR at q
    rw [if_neg (by lia -abstractProof)] at q
    generalize hA : fst row (s - 1).toNat = A at q
    generalize hL : nxt row A = L at q
    refine ex2i row s ⟨rfl, by lia -abstractProof, hr, (ex2i row _ ⟨rfl, Int.natCast_nonneg _, hr, ?_⟩)⟩
    refine hA ▸ (show ((A : Nat) : Int).toNat = A by lia -abstractProof).symm ▸ hL ▸ ?_
    refine (sp_chg2 row s e cs go hp nx L L _ _ _).mpr (itP_rng (by lia -abstractProof) (by have := List.length_filter_le (fun x : Int => decide (x ≥ 0)) row; unfold sg at h0; lia -abstractProof) ?_)
    have hl : (irange 0 (e - s)).length = (e - 1).toNat - (s - 1).toNat := by refine (irange_length ..).symm ▸ ?_; lia -abstractProof
    refine for_ind (fun xs σ => ∃ h lap, σ = stC row s e cs go hp nx L h lap ∧ hops row xs.length h = hops row ((e - 1).toNat - (s - 1).toNat) L) ?_ ?_ _ _ (ex2i L none ⟨rfl, by exact hl.symm ▸ rfl⟩)
    · rintro k r σ ⟨h, lap, rfl, hh⟩ Q hQ
      have e2 : ((h : Nat) : Int).toNat = h := Int.toNat_natCast _
      have go' : Q (stC row s e cs go hp nx L (nxt row h + 1) (some k)) := hQ _ (ex2i _ _ ⟨rfl, hh⟩)
      cases lap with
      | none => refine (vg_t0 ..).mpr (ex2i row h ⟨rfl, Int.natCast_nonneg _, hr, ?_⟩); refine e2.symm ▸ ?_; exact go'
      | some j => refine (vg_t1 ..).mpr (ex2i row h ⟨rfl, Int.natCast_nonneg _, hr, ?_⟩); refine e2.symm ▸ ?_; exact go'
    · rintro σ ⟨h, lap, rfl, hh⟩
      have hh : h = hops row ((e - 1).toNat - (s - 1).toNat) L := hh
      rw [← hh] at q
      have e1 : ((L : Nat) : Int).toNat = L := Int.toNat_natCast _
      have e2 : ((h : Nat) : Int).toNat = h := Int.toNat_natCast _
      have e3 : ((h : Int) - (L : Int)).toNat = h - L := Int.toNat_sub ..
      have fin : row.length ≤ 16777216 ∧ (0 : Int) ≤ (L : Int) ∧ row.length ≤ 16777216 ∧ ((0 : Int) ≤ (L : Int) ∧ (0 : Int) ≤ (h : Int)) ∧ ∃ g : Int → Option Int, ((List.take ((h : Int) - (L : Int)).toNat (List.drop (L : Int).toNat row)).length ≤ 16777216 ∧
          ∀ (y : Int), y ∈ List.take ((h : Int) - (L : Int)).toNat (List.drop (L : Int).toNat row) →
            br (decide (y < (0 : Int))) (∃ i, g y = some i ∧ AV.int y = AV.int i ∧ Same ⟨hp, [], [], [], nx⟩ ⟨hp, [en "own" (.int y)], [], [], nx⟩)
              (g y = none ∧ Same ⟨hp, [], [], [], nx⟩ ⟨hp, [en "own" (.int y)], [], [], nx⟩)) ∧
          (List.take (L : Int).toNat row).length + (List.filterMap g (List.take ((h : Int) - (L : Int)).toNat (List.drop (L : Int).toNat row))).length ≤ 16777216 ∧
            (List.take (L : Int).toNat row ++ List.filterMap g (List.take ((h : Int) - (L : Int)).toNat (List.drop (L : Int).toNat row))).length + cs.length ≤ 16777216 ∧
              row.length ≤ 16777216 ∧ (0 : Int) ≤ (h : Int) ∧
                (List.take (L : Int).toNat row ++ List.filterMap g (List.take ((h : Int) - (L : Int)).toNat (List.drop (L : Int).toNat row)) ++ cs).length + (List.drop (h : Int).toNat row).length ≤ 16777216 ∧
                  P (AV.lst (List.take (L : Int).toNat row ++ List.filterMap g (List.take ((h : Int) - (L : Int)).toNat (List.drop (L : Int).toNat row)) ++ cs ++ List.drop (h : Int).toNat row)) hp nx := by
        refine e1.symm ▸ e2.symm ▸ e3 ▸ ?_
        refine ⟨bg hr rfl, Int.natCast_nonneg _, bg hr rfl, ⟨Int.natCast_nonneg _, Int.natCast_nonneg _⟩, gC fun y => decide (y < 0), ⟨bg (ltk (ldr hr)) rfl, fun y _ => br_comp ⟨rfl, rfl, rfl, rfl⟩⟩, ?_⟩
        refine (fm_filter ..) ▸ ?_
        refine ⟨?_, ?_, bg hr rfl, Int.natCast_nonneg _, ?_, q⟩
        · exact bg (Nat.add_le_add (ltk hr) (lft (ltk (ldr hr)))) rfl
        · exact bg (Nat.add_le_add (lapd (ltk hr) (lft (ltk (ldr hr)))) hc) rfl
        · exact bg (Nat.add_le_add (lapd (lapd (ltk hr) (lft (ltk (ldr hr)))) hc) (ldr hr)) rfl
      cases lap with
      | none => exact (vg_r0 ..).mpr fin
      | some j => exact (vg_r1 ..).mpr fin).ok
noncomputable def bgn (row : List Int) (lo : Int) : Int := if lo = 0 then 1 else plc row lo
noncomputable def fin (row : List Int) (hi : Int) : Int := if hi = 0 then (sg row).length + 1 else plc row hi
noncomputable def s8 : List (Addr × Nat × PT) := [(620, 2, ptSigns), (615, 2, ptPlace), (214, 3, inl 14 g2 2 (F 13) 1 [])] ++ s2
noncomputable def g8 : Gx := gx s8 none
noncomputable def ptIsSo : PT := fun as hp nx P X => ∃ dk cells gs ge p b z tk ck rows rest T B row lo hi, as = [.ref 3, .lst row, .int lo, .int hi] ∧ hp = lay dk cells gs ge p b z tk ck rows rest ∧ Gp cells gs ge T B ∧ B ≤ 60000 ∧ row.length ≤ 5000 ∧ T = sg row ∧ b = bgn row lo ∧ z = fin row hi ∧
  (1 ≤ b ∧ b ≤ p ∧ p ≤ z ∧ z ≤ (T.length : Int) + 1) ∧ (lo ≠ 0 → lo ∈ row) ∧ (hi ≠ 0 → hi ∈ row) ∧ P (.bool true) hp nx
noncomputable def ptNarrow : PT := fun as hp nx P X => ∃ dk cells gs ge p b z tk ck rows rest T B s e, as = [.ref 3, .int s, .int e] ∧ hp = lay dk cells gs ge p b z tk ck rows rest ∧ Gp cells gs ge T B ∧ B ≤ 60000 ∧ hget nx hp = none ∧ ((imin s e < 1 ∨ imax s e > (T.length : Int) + 1) → X aoor hp (nx + 1)) ∧
  (1 ≤ imin s e → imax s e ≤ (T.length : Int) + 1 → P .none (lay dk cells gs ge (imin (imax p (imin s e)) (imax s e)) (imin s e) (imax s e) tk ck rows rest) nx)
noncomputable def stS (row : List Int) (lo hi : Int) (S : List Int) (b' z' : Int) (hp : List (Nat × AO)) (nx : Nat) : St := ⟨hp, [en "row" (.lst row), en "low" (.int lo), en "high" (.int hi), en "signs" (.lst S)], [en "buffer" (some (.ref 3)), en "begin" (some (.int b')), en "end" (some (.int z'))], [], nx⟩
theorem vn (dk cells : List Int) (gs ge p b z tk ck : Int) (rows : List (Int × AV)) (rest : List (Nat × AO)) (nx : Nat) (P : PRes) (X : XRes) (s e : Int) : (vFn 14 g2 2 none false (F 11) [.ref 3, .int s, .int e] (lay dk cells gs ge p b z tk ck rows rest) nx P X) = (
br (decide (imin s e < (1 : Int)))
 (rz (lay dk cells gs ge p b z tk ck rows rest) nx (Str.ofString "args-out-of-range") [s, e] X)
 (1 = 1 ∧
 ∃ dk_1 cells_1 gs_1 ge_1 p_1 b_1 z_1 tk_1 ck_1 rows_1 rest_1 T B,
 [AV.ref 4] = [AV.ref 4] ∧
 lay dk cells gs ge p b z tk ck rows rest = lay dk_1 cells_1 gs_1 ge_1 p_1 b_1 z_1 tk_1 ck_1 rows_1 rest_1 ∧
 Gp cells_1 gs_1 ge_1 T B ∧
 B ≤ 65536 ∧
 br (decide (imax s e > (↑T.length : Int) + (1 : Int)))
 (rz (lay dk cells gs ge p b z tk ck rows rest) nx (Str.ofString "args-out-of-range") [s, e] X)
 (2 = 2 ∧ P AV.none (lay dk cells gs ge (imin (imax p (imin s e)) (imax s e)) (imin s e) (imax s e) tk ck rows rest) nx))) := by kernel_rfl
theorem vso1 (hp : List (Nat × AO)) (nx : Nat) (N : St → Prop) (Rt : AV → St → Prop) (X : XP) (row : List Int) (lo hi : Int) : (seg 14 (cxG (F 46) 3 g8) ((bodyOf (F 46)).take 3) (frameSt (scopeOf (F 46)) (psOf (F 46)) [.ref 3, .lst row, .int lo, .int hi] hp nx) N Rt X) = (
∃ row_1,
 [AV.lst row] = [AV.lst row_1] ∧
 row_1.length ≤ 10000 ∧
 br (lo == (0 : Int))
 (br (hi == (0 : Int))
 ((sg row_1).length ≤ 1099511627776 ∧
 N
 { hp := hp, loc := [en "row" (.lst row), en "low" (.int lo), en "high" (.int hi), en "signs" (.lst (sg row_1))],
                cel := [(Str.ofString "buffer", some (AV.ref 3)), (Str.ofString "begin", some (AV.int 1)), (Str.ofString "end", some (AV.int ((↑(sg row_1).length : Int) + (1 : Int))))], fre := [], nxt := nx })
 (∃ row_2 m,
 [AV.lst row, AV.int hi] = [AV.lst row_2, AV.int m] ∧
 row_2.length ≤ 10000 ∧
 m ∈ row_2 ∧
 N
 { hp := hp, loc := [en "row" (.lst row), en "low" (.int lo), en "high" (.int hi), en "signs" (.lst (sg row_1))], cel := [(Str.ofString "buffer", some (AV.ref 3)), (Str.ofString "begin", some (AV.int 1)), (Str.ofString "end", some (AV.int (↑(plc row_2 m) : Int)))], fre := [], nxt := nx }))
 (∃ row_2 m,
 [AV.lst row, AV.int lo] = [AV.lst row_2, AV.int m] ∧
 row_2.length ≤ 10000 ∧
 m ∈ row_2 ∧
 br (hi == (0 : Int))
 ((sg row_1).length ≤ 1099511627776 ∧
 N
 { hp := hp, loc := [en "row" (.lst row), en "low" (.int lo), en "high" (.int hi), en "signs" (.lst (sg row_1))], cel := [(Str.ofString "buffer", some (AV.ref 3)), (Str.ofString "begin", some (AV.int (↑(plc row_2 m) : Int))), (Str.ofString "end", some (AV.int ((↑(sg row_1).length : Int) + (1 : Int))))], fre := [], nxt := nx })
 (∃ row_3 m_1,
 [AV.lst row, AV.int hi] = [AV.lst row_3, AV.int m_1] ∧
 row_3.length ≤ 10000 ∧
 m_1 ∈ row_3 ∧
 N
 { hp := hp, loc := [en "row" (.lst row), en "low" (.int lo), en "high" (.int hi), en "signs" (.lst (sg row_1))], cel := [(Str.ofString "buffer", some (AV.ref 3)), (Str.ofString "begin", some (AV.int (↑(plc row_2 m) : Int))), (Str.ofString "end", some (AV.int (↑(plc row_3 m_1) : Int)))], fre := [], nxt := nx }))) := by kernel_rfl
theorem vso2 (dk cells : List Int) (gs ge p b z tk ck : Int) (rows : List (Int × AV)) (rest : List (Nat × AO)) (nx : Nat) (row S : List Int) (lo hi b' z' : Int) (N : St → Prop) (P : PRes) (X : XP) : (seg 14 (cxG (F 46) 3 g8) ((bodyOf (F 46)).drop 3) (stS row lo hi S b' z' (lay dk cells gs ge p b z tk ck rows rest) nx) N (fun v σ => P v σ.hp σ.nxt) X) = (
1 = 1 ∧
 ∃ dk_1 cells_1 gs_1 ge_1 p_1 b_1 z_1 tk_1 ck_1 rows_1 rest_1 T B,
 [AV.ref 4] = [AV.ref 4] ∧
 lay dk cells gs ge p b z tk ck rows rest = lay dk_1 cells_1 gs_1 ge_1 p_1 b_1 z_1 tk_1 ck_1 rows_1 rest_1 ∧
 Gp cells_1 gs_1 ge_1 T B ∧
 B ≤ 65536 ∧
 3 = 3 ∧
 ∃ dk_2 cells_2 gs_2 ge_2 p_2 b_2 z_2 tk_2 ck_2 rows_2 rest_2 T_1 B s e,
 [AV.ref 4, AV.int ((1 : Int) - (1 : Int)), AV.int ((↑T.length : Int) + (1 : Int) - (1 : Int))] = [AV.ref 4, AV.int s, AV.int e] ∧
 lay dk cells gs ge p b z tk ck rows rest = lay dk_2 cells_2 gs_2 ge_2 p_2 b_2 z_2 tk_2 ck_2 rows_2 rest_2 ∧
 Gp cells_2 gs_2 ge_2 T_1 B ∧
 B ≤ 65536 ∧
 ((0 : Int) ≤ s ∧ s ≤ e ∧ e ≤ (↑T_1.length : Int)) ∧
 br (!decide (List.take (e - s).toNat (List.drop s.toNat T_1) = S)) (P (AV.bool false) (lay dk cells gs ge p b z tk ck rows rest) nx)
 (1 = 1 ∧
 1 = 1 ∧
 br (!(b == b' && z == z')) (P (AV.bool false) (lay dk cells gs ge p b z tk ck rows rest) nx)
 (∃ (g : Nat → Int → Option Int),
 (S.length ≤ 16777216 ∧
 ∀ (n : Nat),
 n < S.length →
 br (decide (b' ≤ (↑n : Int) + (1 : Int)))
 (br (decide ((↑n : Int) + (1 : Int) < z'))
 (∃ i,
 g n (S.getD n (0 : Int)) = some i ∧
 AV.int (S.getD n (0 : Int)) = AV.int i ∧
 Same ⟨lay dk cells gs ge p b z tk ck rows rest, [], [], [en "begin" (.int b'), en "end" (.int z')], nx⟩
 { hp := lay dk cells gs ge p b z tk ck rows rest, loc := [en "at" (.int (↑n : Int)), en "own" (.int (S.getD n (0 : Int)))], cel := [], fre := [en "begin" (.int b'), en "end" (.int z')], nxt := nx })
 (∃ i,
 g n (S.getD n (0 : Int)) = some i ∧
 AV.int (-1 : Int) = AV.int i ∧
 Same ⟨lay dk cells gs ge p b z tk ck rows rest, [], [], [en "begin" (.int b'), en "end" (.int z')], nx⟩
 { hp := lay dk cells gs ge p b z tk ck rows rest, loc := [en "at" (.int (↑n : Int)), en "own" (.int (S.getD n (0 : Int)))], cel := [], fre := [en "begin" (.int b'), en "end" (.int z')], nxt := nx }))
 (∃ i,
 g n (S.getD n (0 : Int)) = some i ∧
 AV.int (-1 : Int) = AV.int i ∧
 Same ⟨lay dk cells gs ge p b z tk ck rows rest, [], [], [en "begin" (.int b'), en "end" (.int z')], nx⟩
 { hp := lay dk cells gs ge p b z tk ck rows rest, loc := [en "at" (.int (↑n : Int)), en "own" (.int (S.getD n (0 : Int)))], cel := [], fre := [en "begin" (.int b'), en "end" (.int z')], nxt := nx })) ∧
 S.length ≤ 1099511627776 ∧
 ((-(2 : Int) ^ (60 : Nat) ≤ (0 : Int) ∧ (0 : Int) ≤ (2 : Int) ^ (60 : Nat)) ∧ -(2 : Int) ^ (60 : Nat) ≤ (↑S.length : Int) + (2 : Int) ∧ (↑S.length : Int) + (2 : Int) ≤ (2 : Int) ^ (60 : Nat)) ∧
 ∃ (g_1 : Int → Option Int),
 ((irange (0 : Int) ((↑S.length : Int) + (2 : Int))).length ≤ 16777216 ∧
 ∀ (y : Int),
 y ∈ irange (0 : Int) ((↑S.length : Int) + (2 : Int)) →
 ∃ dk_3 cells_3 gs_3 ge_3 p_3 b_3 z_3 tk_3 ck_3 rows_3 rest_3 T B k,
 [AV.ref 3, AV.int y] = [AV.ref 3, AV.int k] ∧
 lay dk cells gs ge p b z tk ck rows rest = lay dk_3 cells_3 gs_3 ge_3 p_3 b_3 z_3 tk_3 ck_3 rows_3 rest_3 ∧
 Gp cells_3 gs_3 ge_3 T B ∧
 B ≤ 65536 ∧
 ((1 : Int) ≤ b_3 ∧ z_3 ≤ (↑T.length : Int) + (1 : Int)) ∧
 ∃ i,
 g_1 y = some i ∧
 AV.int (if k < b_3 ∨ k ≥ z_3 then (-1 : Int) else T.getD (k - (1 : Int)).toNat (0 : Int)) = AV.int i ∧
 Same ⟨lay dk cells gs ge p b z tk ck rows rest, [], [], [en "buffer" (.ref 3)], nx⟩
 ⟨lay dk cells gs ge p b z tk ck rows rest, [en "at" (.int y)], [], [en "buffer" (.ref 3)], nx⟩) ∧
 1 ≤ 1000 ∧
 [(-1 : Int)].length + (List.filterMap (fun q => g q.snd q.fst) S.zipIdx).length ≤ 16777216 ∧
 1 ≤ 1000 ∧
 ([(-1 : Int)] ++ List.filterMap (fun q => g q.snd q.fst) S.zipIdx).length + [(-1 : Int)].length ≤ 16777216 ∧
 br (!decide (List.filterMap g_1 (irange (0 : Int) ((↑S.length : Int) + (2 : Int))) = [(-1 : Int)] ++ List.filterMap (fun q => g q.snd q.fst) S.zipIdx ++ [(-1 : Int)])) (P (AV.bool false) (lay dk cells gs ge p b z tk ck rows rest) nx)
 (br (decide (b' ≤ p))
 (br (stopsAt BoolOp.And (decide (p ≤ z'))) (P (AV.bool (decide (p ≤ z'))) (lay dk cells gs ge p b z tk ck rows rest) nx)
 (1 = 1 ∧
 br (stopsAt BoolOp.Or (b != (1 : Int))) (S.length ≤ 1099511627776 ∧ P (AV.bool ((b != (1 : Int)) == !(b' == (1 : Int) && z' == (↑S.length : Int) + (1 : Int)))) (lay dk cells gs ge p b z tk ck rows rest) nx)
 (1 = 1 ∧
 ∃ dk_3 cells_3 gs_3 ge_3 p_3 b_3 z_3 tk_3 ck_3 rows_3 rest_3 T B,
 [AV.ref 4] = [AV.ref 4] ∧
 lay dk cells gs ge p b z tk ck rows rest = lay dk_3 cells_3 gs_3 ge_3 p_3 b_3 z_3 tk_3 ck_3 rows_3 rest_3 ∧
 Gp cells_3 gs_3 ge_3 T B ∧
 B ≤ 65536 ∧ S.length ≤ 1099511627776 ∧ P (AV.bool ((z != (↑T.length : Int) + (1 : Int)) == !(b' == (1 : Int) && z' == (↑S.length : Int) + (1 : Int)))) (lay dk cells gs ge p b z tk ck rows rest) nx)))
 (P (AV.bool false) (lay dk cells gs ge p b z tk ck rows rest) nx))))) := by kernel_rfl
theorem due_eq (S : List Int) (b z : Int) (h1 : 1 ≤ b) (h2 : z ≤ (S.length : Int) + 1) : (irange 0 ((S.length : Int) + 2)).filterMap (fun y => some (if y < b ∨ y ≥ z then (-1 : Int) else S.getD (y - 1).toNat 0)) =
    [-1] ++ (S.zipIdx.filterMap fun q => some (if b ≤ (q.2 : Int) + 1 ∧ (q.2 : Int) + 1 < z then q.1 else (-1 : Int))) ++ [-1] := by
  rw [show (fun y : Int => some (if y < b ∨ y ≥ z then (-1 : Int) else S.getD (y - 1).toNat 0)) = some ∘ (fun y : Int => if y < b ∨ y ≥ z then (-1 : Int) else S.getD (y - 1).toNat 0) from rfl, List.filterMap_eq_map,
    show (fun q : Int × Nat => some (if b ≤ (q.2 : Int) + 1 ∧ (q.2 : Int) + 1 < z then q.1 else (-1 : Int))) = some ∘ (fun q : Int × Nat => if b ≤ (q.2 : Int) + 1 ∧ (q.2 : Int) + 1 < z then q.1 else (-1 : Int)) from rfl, List.filterMap_eq_map]
  have e : ((S.length : Int) + 2 - 0).toNat = S.length + 1 + 1 := by lia -abstractProof
  unfold irange
  refine e ▸ List.range_succ ▸ List.range_succ_eq_map ▸ List.map_map.symm ▸ List.map_append ▸ List.map_cons ▸ List.map_map.symm ▸ ?_
  have a1 : (((fun y : Int => if y < b ∨ y ≥ z then (-1 : Int) else S.getD (y - 1).toNat 0) ∘ fun i : Nat => (0 : Int) + (i : Int)) 0) = -1 := if_pos (.inl (by simp; lia -abstractProof))
  have a2 : (((fun y : Int => if y < b ∨ y ≥ z then (-1 : Int) else S.getD (y - 1).toNat 0) ∘ fun i : Nat => (0 : Int) + (i : Int)) (S.length + 1)) = -1 := if_pos (.inr (by simp; exact h2))
  rw [a1, List.map_cons, a2, List.map_nil, List.singleton_append]
  congr 2
  refine List.ext_getElem (by simp) fun i h3 h4 => ?_
  have hi : i < S.length := by simpa using h3
  simp only [List.getElem_map, List.getElem_range, List.getElem_zipIdx, Function.comp]
  have e2 : ((0 : Int) + ((i + 1 : Nat) : Int) - 1).toNat = i := by lia -abstractProof
  rw [show Nat.succ i = i + 1 from rfl, e2, List.getD, List.getElem?_eq_getElem hi]
  simp only [Option.getD_some]
  split <;> split <;> first | rfl | lia -abstractProof
theorem s8_ok {W : Wd} (H : Pg W) : Specs W s8 := .cons (ok_signs H) (fn_k H (i := 33) rfl) <| .cons (ok_place H) (fn_k H (i := 32) rfl) <| .cons (inl_ok H.f214 (g2_ok H)).ok (fn_k H (i := 6) rfl) (s2_ok H)
theorem g8_ok {W : Wd} (H : Pg W) : GOk W g8 := gx_ok H.toBase (s8_ok H) noExc
theorem sp_isso (hp : List (Nat × AO)) (nx : Nat) (P : PRes) (X : XRes) (row : List Int) (lo hi : Int) : vFn 14 g8 3 none false (F 46) [.ref 3, .lst row, .int lo, .int hi] hp nx P X =
 seg 14 (cxG (F 46) 3 g8) ((bodyOf (F 46)).take 3) (frameSt (scopeOf (F 46)) (psOf (F 46)) [.ref 3, .lst row, .int lo, .int hi] hp nx) (fun σ => seg 14 (cxG (F 46) 3 g8) ((bodyOf (F 46)).drop 3) σ (fun σ => P .none σ.hp σ.nxt) (fun v σ => P v σ.hp σ.nxt) (fun e σ => X e σ.hp σ.nxt)) (fun v σ => P v σ.hp σ.nxt) (fun e σ => X e σ.hp σ.nxt) := by kernel_rfl
theorem sg_len (row : List Int) : (sg row).length ≤ row.length := List.length_filter_le ..
theorem ok_isso {W : Wd} (H : Pg W) : PTok W 4 (.ref 632) ptIsSo := (fn_ok (m := 14) (mr := false) (n := 3) H.f632 (g8_ok H) fun as hp nx P X hh => ex16 hh fun dk cells gs ge p b z tk ck rows rest T B row lo hi hj => an12 hj fun e1 e2 G hB hr hT hb hz h0 hlo hhi q => by
  clear hj hh
  subst e1 e2
  have hl := sg_len row
  have hTl : T.length = (sg row).length := by exact hT.symm ▸ rfl
  have main : ∀ b' z' S, b' = b → z' = z → S = T → seg 14 (cxG (F 46) 3 g8) ((bodyOf (F 46)).drop 3) (stS row lo hi S b' z' (lay dk cells gs ge p b z tk ck rows rest) nx) (fun σ => P .none σ.hp σ.nxt) (fun v σ => P v σ.hp σ.nxt) (fun e σ => X e σ.hp σ.nxt) := by
    intro b' z' S e1 e2 e3
    subst e1 e2 e3
    refine (vso2 ..).mpr ⟨rfl, ex13i _ _ _ _ _ _ _ _ _ _ _ S B ⟨rfl, rfl, G, bg hB rfl, rfl, (ex15i _ _ _ _ _ _ _ _ _ _ _ S B _ _ ⟨rfl, rfl, G, bg hB rfl, by lia -abstractProof, ?_⟩)⟩⟩
    refine br_of (fun w => ?_) fun _ => ⟨rfl, rfl, br_of (fun w => by simp at w) fun _ => ?_⟩
    · exfalso
      rw [show ((S.length : Int) + 1 - 1 - (1 - 1)).toNat = S.length by lia -abstractProof, show ((1 : Int) - 1).toNat = 0 from rfl] at w
      simp at w
    refine ⟨fun n x => some (if b' ≤ (n : Int) + 1 ∧ (n : Int) + 1 < z' then x else -1), ⟨by lia -abstractProof, fun n hn => br_dec (fun w => br_dec (fun w' => ⟨_, congrArg some (if_pos ⟨w, w'⟩), rfl, rfl, rfl, rfl, rfl⟩) fun w' => ⟨_, congrArg some (if_neg fun h => w' h.2), rfl, rfl, rfl, rfl, rfl⟩) fun w => ⟨_, congrArg some (if_neg fun h => w h.1), rfl, rfl, rfl, rfl, rfl⟩⟩,
      by lia -abstractProof, ⟨⟨by decide, by decide⟩, by lia -abstractProof, by lia -abstractProof⟩, fun y => some (if y < b' ∨ y ≥ z' then (-1 : Int) else S.getD (y - 1).toNat 0), ⟨by refine (irange_length ..) ▸ ?_; lia -abstractProof, fun y _ => (ex14i _ _ _ _ _ _ _ _ _ _ _ S B _ ⟨rfl, rfl, G, bg hB rfl, by lia -abstractProof, _, rfl, rfl, rfl, rfl, rfl, rfl⟩)⟩, by decide, ?_⟩
    have ln : ((S.zipIdx.filterMap fun q => some (if b' ≤ (q.2 : Int) + 1 ∧ (q.2 : Int) + 1 < z' then q.1 else (-1 : Int)))).length ≤ S.length := by
      have := List.length_filterMap_le (fun q : Int × Nat => some (if b' ≤ (q.2 : Int) + 1 ∧ (q.2 : Int) + 1 < z' then q.1 else (-1 : Int))) S.zipIdx
      rwa [List.length_zipIdx] at this
    refine ⟨by simp only [List.length_cons, List.length_nil]; lia -abstractProof, by decide, by simp only [List.length_append, List.length_cons, List.length_nil]; lia -abstractProof, br_of (fun w => ?_) fun _ => br_dec (fun _ => br_of (fun w => ?_) fun _ => ⟨rfl, br_of (fun w => ⟨by lia -abstractProof, ?_⟩) fun w => ⟨rfl, ex13i _ _ _ _ _ _ _ _ _ _ _ S B ⟨rfl, rfl, G, bg hB rfl, by lia -abstractProof, ?_⟩⟩⟩) fun w => ?_⟩
    · rw [due_eq S b' z' (h0.1) (h0.2.2.2)] at w
      simp at w
    · have : decide (p ≤ z') = true := decide_eq_true (h0.2.2.1)
      rw [this] at w; exact absurd w (by decide)
    · have w : ¬ b' = 1 := by simpa [stopsAt] using w
      refine (show ((b' != (1 : Int)) == !(b' == (1 : Int) && z' == (S.length : Int) + (1 : Int))) = true by rw [bne, show (b' == (1 : Int)) = false by simpa using w]; rfl) ▸ ?_
      exact q
    · have w : b' = 1 := by simpa [stopsAt] using w
      rw [show ((z' != (S.length : Int) + (1 : Int)) == !(b' == (1 : Int) && z' == (S.length : Int) + (1 : Int))) = true by refine w.symm ▸ ?_; cases h : (z' == (S.length : Int) + 1) <;> simp [bne, h]]
      exact q
    · lia -abstractProof
  refine ⟨rfl, (sp_isso ..).mpr ((vso1 ..).mpr ⟨row, rfl, bg hr rfl, br_of (fun w => br_of (fun w' => ⟨by lia -abstractProof, ?_⟩) fun w' => ex2i row hi ⟨rfl, bg hr rfl, hhi (by simpa using w'), ?_⟩) fun w => ex2i row lo ⟨rfl, bg hr rfl, hlo (by simpa using w), br_of (fun w' => ⟨by lia -abstractProof, ?_⟩) fun w' => ex2i row hi ⟨rfl, by lia -abstractProof, hhi (by simpa using w'), ?_⟩⟩⟩)⟩
  all_goals refine main _ _ _ ?_ ?_ hT.symm
  · rw [hb, bgn, if_pos (by simpa using w)]
  · rw [hz, fin, if_pos (by simpa using w')]
  · rw [hb, bgn, if_pos (by simpa using w)]
  · rw [hz, fin, if_neg (by simpa using w')]
  · rw [hb, bgn, if_neg (by simpa using w)]
  · rw [hz, fin, if_pos (by simpa using w')]
  · rw [hb, bgn, if_neg (by simpa using w)]
  · rw [hz, fin, if_neg (by simpa using w')]).ok
theorem ok_narrow {W : Wd} (H : Pg W) : PTok W 3 (.ref 200) ptNarrow := (fn_ok (m := 14) (mr := false) (n := 2) H.f200 (g2_ok H) fun as hp nx P X hh => ex15 hh fun dk cells gs ge p b z tk ck rows rest T B s e hj => an7 hj fun e1 e2 G hB hn hx q => by
  clear hj hh
  subst e1 e2
  refine ⟨rfl, (vn ..).mpr (br_dec (fun w => rz_of hn (hx (.inl w))) fun w => ⟨rfl, ex13i _ _ _ _ _ _ _ _ _ _ _ T B ⟨rfl, rfl, G, bg hB rfl, br_dec (fun w' => rz_of hn (hx (.inr w'))) fun w' => ⟨rfl, q (Int.not_lt.mp w) (Int.not_lt.mp w')⟩⟩⟩)⟩).ok
noncomputable def s9 : List (Addr × Nat × PT) := [(620, 2, ptSigns), (586, 1, ptDraw), (610, 3, ptChanged), (574, 7, ptReplace)] ++ s5
noncomputable def g9 : Gx := gx s9 none
noncomputable def cxE : Cx := ⟨g9, scopeOf (F 48), 9, some (0, 643, 641, qE), false⟩
noncomputable def stE (row : List Int) (lo hi lap way s e b z : Int) (cs : List Int) (hp : List (Nat × AO)) (nx : Nat) (ex : List (Str × AV)) : St :=
  ⟨hp, [en "deck" (.ref 2), en "row" (.lst row), en "low" (.int lo), en "high" (.int hi), en "many" (.int ((sg row).length : Int)), en "way" (.int way), en "last" (.int z), en "begin" (.int b)] ++ ex,
    [en "buffer" (some (.ref 3)), en "lap" (some (.int lap)), en "end" (some (.int e)), en "signs" (some (.lst cs)), en "start" (some (.int s))], [], nx⟩
noncomputable def tl (x : Str) : List (Str × AV) := [en "tale" (.str x)]
theorem ve1 (dk cells : List Int) (gs ge p b z tk ck : Int) (rows : List (Int × AV)) (rest : List (Nat × AO)) (nx : Nat) (row : List Int) (lo hi lap : Int) (N : St → Prop) (Rt : AV → St → Prop) (X : XP) : (seg 14 cxE ((bodyOf (F 48)).take 6) (frameSt (scopeOf (F 48)) (psOf (F 48)) [.ref 2, .ref 3, .lst row, .int lo, .int hi, .int lap] (lay dk cells gs ge p b z tk ck rows rest) nx) N Rt X) = (
∃ row_1,
 [AV.lst row] = [AV.lst row_1] ∧
 row_1.length ≤ 10000 ∧
 (sg row_1).length ≤ 1099511627776 ∧
 ∃ dk_1 cells_1 gs_1 ge_1 p_1 b_1 z_1 tk_1 ck_1 rows_1 rest_1 many,
 [AV.ref 2, AV.int 3] = [AV.ref 2, AV.int many] ∧
 lay dk cells gs ge p b z tk ck rows rest = lay dk_1 cells_1 gs_1 ge_1 p_1 b_1 z_1 tk_1 ck_1 rows_1 rest_1 ∧
 ((1 : Int) ≤ many ∧ many ≤ (1000 : Int)) ∧
 dk_1.length ≤ 16 ∧
 ∀ (dk' : List Int) (r : Int),
 dk'.length ≤ 16 →
 (0 : Int) ≤ r →
 r < many →
 ∃ dk cells gs ge p b z tk ck rows rest many,
 [AV.ref 2, AV.int ((↑(sg row_1).length : Int) + (1 : Int))] = [AV.ref 2, AV.int many] ∧
 lay dk' cells_1 gs_1 ge_1 p_1 b_1 z_1 tk_1 ck_1 rows_1 rest_1 = lay dk cells gs ge p b z tk ck rows rest ∧
 ((1 : Int) ≤ many ∧ many ≤ (1000 : Int)) ∧
 dk.length ≤ 16 ∧
 ∀ (dk' : List Int) (r_1 : Int),
 dk'.length ≤ 16 →
 (0 : Int) ≤ r_1 →
 r_1 < many →
 ∃ dk cells_2 gs_2 ge_2 p_2 b_2 z_2 tk_2 ck_2 rows_2 rest_2 many,
 [AV.ref 2, AV.int ((↑(sg row_1).length : Int) - ((1 : Int) + r_1) + (2 : Int))] = [AV.ref 2, AV.int many] ∧
 lay dk' cells gs ge p b z tk ck rows rest = lay dk cells_2 gs_2 ge_2 p_2 b_2 z_2 tk_2 ck_2 rows_2 rest_2 ∧
 ((1 : Int) ≤ many ∧ many ≤ (1000 : Int)) ∧
 dk.length ≤ 16 ∧
 ∀ (dk' : List Int) (r_2 : Int),
 dk'.length ≤ 16 →
 (0 : Int) ≤ r_2 →
 r_2 < many →
 ∃ dk cells gs ge p b z tk ck rows rest many,
 [AV.ref 2, AV.int 3] = [AV.ref 2, AV.int many] ∧
 lay dk' cells_2 gs_2 ge_2 p_2 b_2 z_2 tk_2 ck_2 rows_2 rest_2 = lay dk cells gs ge p b z tk ck rows rest ∧
 ((1 : Int) ≤ many ∧ many ≤ (1000 : Int)) ∧
 dk.length ≤ 16 ∧
 ∀ (dk' : List Int) (r_3 : Int),
 dk'.length ≤ 16 →
 (0 : Int) ≤ r_3 →
 r_3 < many →
 ((-(2 : Int) ^ (60 : Nat) ≤ (0 : Int) ∧ (0 : Int) ≤ (2 : Int) ^ (60 : Nat)) ∧ -(2 : Int) ^ (60 : Nat) ≤ r_3 ∧ r_3 ≤ (2 : Int) ^ (60 : Nat)) ∧
 ∃ (g : Int → Option Int),
 ((irange (0 : Int) r_3).length ≤ 16777216 ∧
 ∀ (y : Int),
 y ∈ irange (0 : Int) r_3 →
 okMul (10 : Int) lap ∧
 ∃ i,
 g y = some i ∧
 AV.int ((10 : Int) * lap + (20 : Int) + y) = AV.int i ∧
 Same ⟨lay dk' cells gs ge p b z tk ck rows rest, [], [], [en "lap" (.int lap)], nx⟩
 ⟨lay dk' cells gs ge p b z tk ck rows rest, [en "own" (.int y)], [], [en "lap" (.int lap)], nx⟩) ∧
 br (r == (0 : Int))
 (1 = 1 ∧
 1 = 1 ∧
 N
 { hp := lay dk' cells gs ge p b z tk ck rows rest, loc := [en "deck" (.ref 2), en "row" (.lst row), en "low" (.int lo), en "high" (.int hi), en "many" (.int (↑(sg row_1).length : Int)), en "way" (.int r), en "last" (.int z), en "begin" (.int b)], cel := [(Str.ofString "buffer", some (AV.ref 3)), (Str.ofString "lap", some (AV.int lap)), (Str.ofString "end", some (AV.int ((1 : Int) + r_1))), (Str.ofString "signs", some (AV.lst (List.filterMap g (irange (0 : Int) r_3)))), (Str.ofString "start", some (AV.int ((1 : Int) + r_1)))], fre := [], nxt := nx })
 (1 = 1 ∧
 1 = 1 ∧
 N
 { hp := lay dk' cells gs ge p b z tk ck rows rest, loc := [en "deck" (.ref 2), en "row" (.lst row), en "low" (.int lo), en "high" (.int hi), en "many" (.int (↑(sg row_1).length : Int)), en "way" (.int r), en "last" (.int z), en "begin" (.int b)], cel := [(Str.ofString "buffer", some (AV.ref 3)), (Str.ofString "lap", some (AV.int lap)), (Str.ofString "end", some (AV.int ((1 : Int) + r_1 + r_2))), (Str.ofString "signs", some (AV.lst (List.filterMap g (irange (0 : Int) r_3)))), (Str.ofString "start", some (AV.int ((1 : Int) + r_1)))], fre := [], nxt := nx })) := by kernel_rfl
theorem ve2 (dk cells : List Int) (gs ge p b z tk ck : Int) (mk : Mk) (nx : Nat) (row cs : List Int) (lo hi lap way s e b' z' : Int) (N : St → Prop) (Rt : AV → St → Prop) (X : XP) : (seg 14 cxE (((bodyOf (F 48)).drop 6).take 1) (stE row lo hi lap way s e b' z' cs (lay dk cells gs ge p b z tk ck mk.rows mk.rest) nx []) N Rt X) = (
br (way == (0 : Int))
 ((641 = 641 ∧ qE = qE) ∧
 3 = 3 ∧
 ∃ dk_1 cells_1 gs_1 ge_1 p_1 b_1 z_1 tk_1 ck_1 mk_1 T B k cs_1 ib,
 [AV.ref 3, AV.int s, AV.lst cs, AV.bool false, AV.bool false] = [AV.ref 3, AV.int k, AV.lst cs_1, AV.bool false, AV.bool ib] ∧
 lay dk cells gs ge p b z tk ck mk.rows mk.rest = lay dk_1 cells_1 gs_1 ge_1 p_1 b_1 z_1 tk_1 ck_1 mk_1.rows mk_1.rest ∧
 Gp cells_1 gs_1 ge_1 T B ∧
 B ≤ 60000 ∧
 cs_1.length ≤ 1000 ∧
 ((1 : Int) ≤ b_1 ∧ b_1 ≤ p_1 ∧ p_1 ≤ z_1 ∧ z_1 ≤ (↑T.length : Int) + (1 : Int)) ∧
 k ≤ k ∧
 hget nx (lay dk cells gs ge p b z tk ck mk.rows mk.rest) = none ∧
 (k < b_1 ∨ k > z_1 →
 N
 { hp := lay dk cells gs ge p b z tk ck mk.rows mk.rest, loc := [en "deck" (.ref 2), en "row" (.lst row), en "low" (.int lo), en "high" (.int hi), en "many" (.int (↑(sg row).length : Int)), en "way" (.int way), en "last" (.int z'), en "begin" (.int b'), en "tale" (.str aoor)], cel := [(Str.ofString "buffer", some (AV.ref 3)), (Str.ofString "lap", some (AV.int lap)), (Str.ofString "end", some (AV.int e)), (Str.ofString "signs", some (AV.lst cs)), (Str.ofString "start", some (AV.int s))], fre := [], nxt := nx + (1 : Nat) }) ∧
 (b_1 ≤ k →
 k ≤ z_1 →
 ∀ (v : AV) (cells : List Int) (gs ge p tk ck : Int),
 (v = AV.none ∨ ∃ ys, v = AV.lst ys) →
 Gp cells gs ge (List.take (k - (1 : Int)).toNat T ++ cs_1 ++ List.drop (k - (1 : Int)).toNat T) (B + cs_1.length + (8 : Nat)) →
 b_1 ≤ p →
 p ≤ z_1 - (k - k) + (↑cs_1.length : Int) →
 N
 { hp := lay dk_1 cells gs ge p b_1 (z_1 - (k - k) + (↑cs_1.length : Int)) tk ck (Mk.ed k k (↑cs_1.length : Int) mk_1).rows (Mk.ed k k (↑cs_1.length : Int) mk_1).rest, loc := [en "deck" (.ref 2), en "row" (.lst row), en "low" (.int lo), en "high" (.int hi), en "many" (.int (↑(sg row).length : Int)), en "way" (.int way), en "last" (.int z'), en "begin" (.int b'), en "tale" (.str (Str.ofString "done"))], cel := [(Str.ofString "buffer", some (AV.ref 3)), (Str.ofString "lap", some (AV.int lap)), (Str.ofString "end", some (AV.int e)), (Str.ofString "signs", some (AV.lst cs)), (Str.ofString "start", some (AV.int s))], fre := [], nxt := nx }))
 (br (way == (1 : Int))
 ((641 = 641 ∧ qE = qE) ∧
 ∃ dk_1 cells_1 gs_1 ge_1 p_1 b_1 z_1 tk_1 ck_1 mk_1 T B s_1 e_1,
 [AV.ref 3, AV.int s, AV.int e] = [AV.ref 3, AV.int s_1, AV.int e_1] ∧
 lay dk cells gs ge p b z tk ck mk.rows mk.rest = lay dk_1 cells_1 gs_1 ge_1 p_1 b_1 z_1 tk_1 ck_1 mk_1.rows mk_1.rest ∧
 Gp cells_1 gs_1 ge_1 T B ∧
 B ≤ 60000 ∧
 0 ≤ 1000 ∧
 ((1 : Int) ≤ b_1 ∧ b_1 ≤ p_1 ∧ p_1 ≤ z_1 ∧ z_1 ≤ (↑T.length : Int) + (1 : Int)) ∧
 s_1 ≤ e_1 ∧
 hget nx (lay dk cells gs ge p b z tk ck mk.rows mk.rest) = none ∧
 (s_1 < b_1 ∨ e_1 > z_1 →
 N
 { hp := lay dk cells gs ge p b z tk ck mk.rows mk.rest, loc := [en "deck" (.ref 2), en "row" (.lst row), en "low" (.int lo), en "high" (.int hi), en "many" (.int (↑(sg row).length : Int)), en "way" (.int way), en "last" (.int z'), en "begin" (.int b'), en "tale" (.str aoor)], cel := [(Str.ofString "buffer", some (AV.ref 3)), (Str.ofString "lap", some (AV.int lap)), (Str.ofString "end", some (AV.int e)), (Str.ofString "signs", some (AV.lst cs)), (Str.ofString "start", some (AV.int s))], fre := [], nxt := nx + (1 : Nat) }) ∧
 (b_1 ≤ s_1 →
 e_1 ≤ z_1 →
 ∀ (v : AV) (cells : List Int) (gs ge p tk ck : Int),
 (v = AV.none ∨ ∃ ys, v = AV.lst ys) →
 Gp cells gs ge (List.take (s_1 - (1 : Int)).toNat T ++ ([] : List Int) ++ List.drop (e_1 - (1 : Int)).toNat T) (B + ([] : List Int).length + (8 : Nat)) →
 b_1 ≤ p →
 p ≤ z_1 - (e_1 - s_1) + ((([] : List Int).length : Int) : Int) →
 N
 { hp := lay dk_1 cells gs ge p b_1 (z_1 - (e_1 - s_1) + ((([] : List Int).length : Int) : Int)) tk ck (Mk.ed s_1 e_1 ((([] : List Int).length : Int) : Int) mk_1).rows (Mk.ed s_1 e_1 ((([] : List Int).length : Int) : Int) mk_1).rest, loc := [en "deck" (.ref 2), en "row" (.lst row), en "low" (.int lo), en "high" (.int hi), en "many" (.int (↑(sg row).length : Int)), en "way" (.int way), en "last" (.int z'), en "begin" (.int b'), en "tale" (.str (Str.ofString "done"))], cel := [(Str.ofString "buffer", some (AV.ref 3)), (Str.ofString "lap", some (AV.int lap)), (Str.ofString "end", some (AV.int e)), (Str.ofString "signs", some (AV.lst cs)), (Str.ofString "start", some (AV.int s))], fre := [], nxt := nx }))
 ((641 = 641 ∧ qE = qE) ∧
 ∃ dk_1 cells_1 gs_1 ge_1 p_1 b_1 z_1 tk_1 ck_1 mk_1 T B s_1 e_1 cs_1,
 [AV.ref 3, AV.int s, AV.int e, AV.lst cs] = [AV.ref 3, AV.int s_1, AV.int e_1, AV.lst cs_1] ∧
 lay dk cells gs ge p b z tk ck mk.rows mk.rest = lay dk_1 cells_1 gs_1 ge_1 p_1 b_1 z_1 tk_1 ck_1 mk_1.rows mk_1.rest ∧
 Gp cells_1 gs_1 ge_1 T B ∧
 B ≤ 60000 ∧
 cs_1.length ≤ 1000 ∧
 ((1 : Int) ≤ b_1 ∧ b_1 ≤ p_1 ∧ p_1 ≤ z_1 ∧ z_1 ≤ (↑T.length : Int) + (1 : Int)) ∧
 s_1 ≤ e_1 ∧
 hget nx (lay dk cells gs ge p b z tk ck mk.rows mk.rest) = none ∧
 (s_1 < b_1 ∨ e_1 > z_1 →
 N
 { hp := lay dk cells gs ge p b z tk ck mk.rows mk.rest, loc := [en "deck" (.ref 2), en "row" (.lst row), en "low" (.int lo), en "high" (.int hi), en "many" (.int (↑(sg row).length : Int)), en "way" (.int way), en "last" (.int z'), en "begin" (.int b'), en "tale" (.str aoor)], cel := [(Str.ofString "buffer", some (AV.ref 3)), (Str.ofString "lap", some (AV.int lap)), (Str.ofString "end", some (AV.int e)), (Str.ofString "signs", some (AV.lst cs)), (Str.ofString "start", some (AV.int s))], fre := [], nxt := nx + (1 : Nat) }) ∧
 (b_1 ≤ s_1 →
 e_1 ≤ z_1 →
 ∀ (v : AV) (cells : List Int) (gs ge p tk ck : Int),
 (v = AV.none ∨ ∃ ys, v = AV.lst ys) →
 Gp cells gs ge (List.take (s_1 - (1 : Int)).toNat T ++ cs_1 ++ List.drop (e_1 - (1 : Int)).toNat T) (B + cs_1.length + (8 : Nat)) →
 b_1 ≤ p →
 p ≤ z_1 - (e_1 - s_1) + (↑cs_1.length : Int) →
 N
 { hp := lay dk_1 cells gs ge p b_1 (z_1 - (e_1 - s_1) + (↑cs_1.length : Int)) tk ck (Mk.ed s_1 e_1 (↑cs_1.length : Int) mk_1).rows (Mk.ed s_1 e_1 (↑cs_1.length : Int) mk_1).rest, loc := [en "deck" (.ref 2), en "row" (.lst row), en "low" (.int lo), en "high" (.int hi), en "many" (.int (↑(sg row).length : Int)), en "way" (.int way), en "last" (.int z'), en "begin" (.int b'), en "tale" (.str (Str.ofString "done"))], cel := [(Str.ofString "buffer", some (AV.ref 3)), (Str.ofString "lap", some (AV.int lap)), (Str.ofString "end", some (AV.int e)), (Str.ofString "signs", some (AV.lst cs)), (Str.ofString "start", some (AV.int s))], fre := [], nxt := nx })))) := by kernel_rfl
theorem ve3d (hp : List (Nat × AO)) (nx : Nat) (row cs : List Int) (lo hi lap way s e b' z' : Int) (N : St → Prop) (P : PRes) (X : XP) : (seg 14 cxE ((bodyOf (F 48)).drop 7) (stE row lo hi lap way s e b' z' cs hp nx (tl "done")) N (fun v σ => P v σ.hp σ.nxt) X) = (
br (way == (1 : Int))
 (0 ≤ 1000 ∧
 br (decide (s < b')) (P AV.none hp nx)
 (br (decide (e > z')) (P AV.none hp nx)
 (2 ≤ 1000 ∧
 ∃ row_1 s_1 e_1 cs go,
 [AV.lst row, AV.int s, AV.int e, AV.lst [], AV.lst [hi, (-4 : Int)]] = [AV.lst row_1, AV.int s_1, AV.int e_1, AV.lst cs, AV.lst go] ∧
 ((1 : Int) ≤ s_1 ∧ s_1 ≤ e_1 ∧ e_1 ≤ (↑(sg row_1).length : Int) + (1 : Int)) ∧ row_1.length ≤ 10000 ∧ cs.length ≤ 1000 ∧ P (AV.lst (chgR row_1 (s_1 - (1 : Int)).toNat (e_1 - (1 : Int)).toNat cs go)) hp nx)))
 (br (decide (s < b')) (P AV.none hp nx)
 (br (decide (e > z')) (P AV.none hp nx)
 (2 ≤ 1000 ∧
 ∃ row_1 s_1 e_1 cs_1 go,
 [AV.lst row, AV.int s, AV.int e, AV.lst cs, AV.lst [hi, (-4 : Int)]] = [AV.lst row_1, AV.int s_1, AV.int e_1, AV.lst cs_1, AV.lst go] ∧
 ((1 : Int) ≤ s_1 ∧ s_1 ≤ e_1 ∧ e_1 ≤ (↑(sg row_1).length : Int) + (1 : Int)) ∧ row_1.length ≤ 10000 ∧ cs_1.length ≤ 1000 ∧ P (AV.lst (chgR row_1 (s_1 - (1 : Int)).toNat (e_1 - (1 : Int)).toNat cs_1 go)) hp nx)))) := by kernel_rfl
theorem ve3a (hp : List (Nat × AO)) (nx : Nat) (row cs : List Int) (lo hi lap way s e b' z' : Int) (N : St → Prop) (P : PRes) (X : XP) : (seg 14 cxE ((bodyOf (F 48)).drop 7) (stE row lo hi lap way s e b' z' cs hp nx (tl aoor)) N (fun v σ => P v σ.hp σ.nxt) X) = (
br (way == (1 : Int)) (0 ≤ 1000 ∧ br (decide (s < b')) (P (AV.lst row) hp nx) (br (decide (e > z')) (P (AV.lst row) hp nx) (P AV.none hp nx))) (br (decide (s < b')) (P (AV.lst row) hp nx) (br (decide (e > z')) (P (AV.lst row) hp nx) (P AV.none hp nx)))) := by kernel_rfl
noncomputable def pre (m : Int) (X : List Int) : Nat := (sg (X.takeWhile fun x => decide (x ≠ m))).length
theorem plc_pre (row : List Int) (m : Int) : plc row m = 1 + pre m row := rfl
theorem sg_app (X Y : List Int) : sg (X ++ Y) = sg X ++ sg Y := List.filter_append ..
theorem sg_neg {X : List Int} (h : ∀ x ∈ X, x < 0) : sg X = [] := List.filter_eq_nil_iff.mpr fun x hx => by have := h x hx; simp; exact this
theorem sg_pos {X : List Int} (h : ∀ x ∈ X, 0 ≤ x) : sg X = X := List.filter_eq_self.mpr fun x hx => by have := h x hx; simp; exact this
theorem pre_cons (m x : Int) (r : List Int) : pre m (x :: r) = if x = m then 0 else (if x ≥ 0 then 1 else 0) + pre m r := by
  unfold pre
  refine List.takeWhile_cons ▸ ?_
  by_cases e : x = m
  · rw [if_pos e, if_neg (by simpa using e)]; rfl
  · rw [if_neg e, if_pos (by simpa using e), sg_cons]
    split
    · refine List.length_cons ▸ ?_; lia -abstractProof
    · lia -abstractProof
theorem pre_le (m : Int) : ∀ X, pre m X ≤ (sg X).length
  | [] => Nat.le_refl _
  | x :: r => by
    have ih := pre_le m r
    refine (pre_cons ..) ▸ (sg_cons ..) ▸ ?_
    split
    · exact Nat.zero_le _
    · split
      · refine List.length_cons ▸ ?_; lia -abstractProof
      · lia -abstractProof
theorem pre_in {m : Int} (Y : List Int) : ∀ {X : List Int}, m ∈ X → pre m (X ++ Y) = pre m X
  | x :: r, h => by
    refine List.cons_append ▸ (pre_cons ..) ▸ (pre_cons ..).symm ▸ ?_
    by_cases e : x = m
    · exact if_pos e ▸ if_pos e ▸ rfl
    · exact if_neg e ▸ if_neg e ▸ (pre_in Y ((List.mem_cons.mp h).resolve_left fun e' => e e'.symm)).symm ▸ rfl
theorem pre_out {m : Int} (Y : List Int) : ∀ {X : List Int}, m ∉ X → pre m (X ++ Y) = (sg X).length + pre m Y
  | [], _ => by refine (List.nil_append ..) ▸ (show (sg ([] : List Int)).length = 0 from rfl) ▸ ?_; lia -abstractProof
  | x :: r, h => by
    have e : ¬ x = m := fun e => h (by refine e.symm ▸ ?_; exact List.mem_cons_self ..)
    rw [List.cons_append, pre_cons, if_neg e, pre_out Y fun h' => h (List.mem_cons_of_mem _ h'), sg_cons]
    split
    · refine List.length_cons ▸ ?_; lia -abstractProof
    · lia -abstractProof
theorem pre_neg {m : Int} {X : List Int} (h : ∀ x ∈ X, x < 0) : pre m X = 0 := by
  have := pre_le m X
  rw [sg_neg h] at this
  exact Nat.le_zero.mp this
theorem fst_sg : ∀ (X : List Int) (k : Nat), k ≤ (sg X).length → sg (X.take (fst X k)) = (sg X).take k ∧ sg (X.drop (fst X k)) = (sg X).drop k
  | X, 0, _ => by refine (fst_zero ..).symm ▸ ?_; exact ⟨rfl, rfl⟩
  | [], k + 1, h => absurd h (Nat.not_succ_le_zero _)
  | x :: r, k + 1, h => by
    rw [sg_cons] at h
    rw [fst_cons, Nat.add_comm 1, List.take_succ_cons, List.drop_succ_cons, sg_cons, sg_cons]
    by_cases e : x ≥ 0
    · rw [if_pos e] at h
      refine if_pos e ▸ if_pos e ▸ if_pos e ▸ ?_
      obtain ⟨h1, h2⟩ := fst_sg r k (Nat.le_of_succ_le_succ h)
      refine h1 ▸ h2.symm ▸ ?_; exact ⟨rfl, rfl⟩
    · rw [if_neg e] at h
      refine if_neg e ▸ if_neg e ▸ if_neg e ▸ ?_
      exact fst_sg r (k + 1) h
theorem fst_pre {m : Int} (hm : m < 0) : ∀ (X : List Int) (k : Nat), m ∈ X.take (fst X k) → pre m (X.take (fst X k)) < k
  | X, 0, h => by rw [fst_zero] at h; cases h
  | [], k + 1, h => by cases h
  | x :: r, k + 1, h => by
    rw [fst_cons, Nat.add_comm 1, List.take_succ_cons] at h ⊢
    refine (pre_cons ..) ▸ ?_
    by_cases e : x = m
    · refine if_pos e ▸ ?_; lia -abstractProof
    · have h' := (List.mem_cons.mp h).resolve_left fun e' => e e'.symm
      refine if_neg e ▸ ?_
      by_cases p : x ≥ 0
      · rw [if_pos p] at h' ⊢
        refine if_pos p ▸ ?_
        have := fst_pre hm r k h'
        lia -abstractProof
      · rw [if_neg p] at h' ⊢
        refine if_neg p ▸ ?_
        have := fst_pre hm r (k + 1) h'
        lia -abstractProof
theorem fst_le : ∀ (X : List Int) (k : Nat), fst X k ≤ X.length
  | X, 0 => by refine (fst_zero ..).symm ▸ ?_; exact Nat.zero_le _
  | [], k + 1 => Nat.zero_le _
  | x :: r, k + 1 => by
    refine (fst_cons ..) ▸ List.length_cons ▸ ?_
    have := fst_le r (if x ≥ 0 then k else k + 1)
    lia -abstractProof
noncomputable abbrev ng (x : Int) : Bool := decide (x < 0)
theorem nxt_split (row : List Int) (h : Nat) : (row.drop h).take (nxt row h - h) = (row.drop h).takeWhile ng ∧ row.drop (nxt row h) = (row.drop h).dropWhile ng := by
  have e : nxt row h - h = ((row.drop h).takeWhile ng).length := by show h + ((row.drop h).takeWhile ng).length - h = _; lia -abstractProof
  have q : (row.drop h).takeWhile ng ++ (row.drop h).dropWhile ng = row.drop h := List.takeWhile_append_dropWhile
  refine ⟨?_, ?_⟩
  · have := List.take_left (l₁ := (row.drop h).takeWhile ng) (l₂ := (row.drop h).dropWhile ng)
    rw [q] at this; refine e ▸ ?_; exact this
  · refine (show nxt row h = h + ((row.drop h).takeWhile ng).length from rfl) ▸ List.drop_drop ▸ ?_
    have := List.drop_left (l₁ := (row.drop h).takeWhile ng) (l₂ := (row.drop h).dropWhile ng)
    rw [q] at this; exact this
theorem tw_neg {X : List Int} : ∀ x ∈ X.takeWhile ng, x < 0 := fun x hx => by
  have := List.all_takeWhile (l := X) (p := ng)
  have := List.all_eq_true.mp this x hx
  simpa using this
theorem dw_pre {m : Int} (hm : m < 0) : ∀ {X : List Int}, m ∈ X.dropWhile ng → 1 ≤ pre m (X.dropWhile ng)
  | [], h => by cases h
  | x :: r, h => by
    rw [List.dropWhile_cons] at h ⊢
    by_cases e : ng x = true
    · rw [if_pos e] at h ⊢; exact dw_pre hm h
    · rw [if_neg e] at h ⊢
      have e : ¬ x < 0 := by simpa using e
      rw [pre_cons, if_neg (by lia -abstractProof), if_pos (Int.not_lt.mp e)]; exact Nat.le_add_right ..
theorem fst_skip : ∀ (X : List Int) (n : Nat), 1 ≤ (sg X).length → fst X (n + 1) = (X.takeWhile ng).length + 1 + fst (X.drop ((X.takeWhile ng).length + 1)) n
  | [], n, h => absurd h (by decide)
  | x :: r, n, h => by
    refine (fst_cons ..) ▸ List.takeWhile_cons ▸ ?_
    by_cases e : x ≥ 0
    · rw [if_pos e, if_neg (by simp; exact e)]; simp
    · rw [sg_cons, if_neg e] at h
      rw [if_neg e, if_pos (by simp; exact Int.not_le.mp e), fst_skip r n h, List.length_cons, List.drop_succ_cons]; lia -abstractProof
theorem hops_fst (row : List Int) : ∀ (n h : Nat), n ≤ (sg (row.drop h)).length → hops row n h = h + fst (row.drop h) n
  | 0, h, _ => by refine (fst_zero ..).symm ▸ ?_; rfl
  | n + 1, h, hn => by
    have h1 : 1 ≤ (sg (row.drop h)).length := by lia -abstractProof
    have q := fst_skip (row.drop h) n h1
    have q1 := fst_skip (row.drop h) 0 h1
    rw [fst_zero] at q1
    have s1 := (fst_sg (row.drop h) 1 h1).2
    rw [q1, Nat.add_zero, List.drop_drop] at s1
    show hops row n (nxt row h + 1) = _
    have e : nxt row h + 1 = h + (((row.drop h).takeWhile ng).length + 1) := by show h + ((row.drop h).takeWhile ng).length + 1 = _; lia -abstractProof
    refine e.symm ▸ hops_fst row n _ (by rw [s1, List.length_drop]; lia -abstractProof) ▸ q ▸ List.drop_drop.symm ▸ ?_
    lia -abstractProof
theorem filter_split (c : Int → Bool) : ∀ M : List Int, (M.filter (fun x => !c x)).length + (M.filter c).length = M.length
  | [] => rfl
  | x :: r => by
    have ih := filter_split c r
    refine List.filter_cons ▸ List.filter_cons ▸ ?_
    cases h : c x
    · simp; lia -abstractProof
    · simp; lia -abstractProof
structure Chg (row row' : List Int) (s e : Nat) (cs go : List Int) : Prop where
  sg' : sg row' = (sg row).take s ++ cs ++ (sg row).drop e
  len : row'.length ≤ row.length + cs.length
  at_ : ∀ m, m < 0 → m ∈ row → m ∈ row' ∧ (plc row' m : Int) = mEd (s + 1) (e + 1) cs.length (go.any (· == m)) (plc row m)
theorem put_law {row cs go : List Int} {k : Nat} (hk : k ≤ (sg row).length) (hc : ∀ x ∈ cs, 0 ≤ x) : Chg row (putR row k cs go) k k cs go := by
  have hA := fst_sg row k hk
  have hA2 := fst_le row k
  obtain ⟨m1, m2⟩ := nxt_split row (fst row k)
  have hM : ∀ x ∈ (row.drop (fst row k)).takeWhile ng, x < 0 := tw_neg
  have hpre : ∀ m, m < 0 → m ∈ row.take (fst row k) → pre m (row.take (fst row k)) < k := fun m hm => fst_pre hm row k
  have hdw : ∀ m, m < 0 → m ∈ row.drop (nxt row (fst row k)) → 1 ≤ pre m (row.drop (nxt row (fst row k))) := fun m hm => by refine m2 ▸ ?_; exact dw_pre hm
  have hrow : row = row.take (fst row k) ++ ((row.drop (fst row k)).takeWhile ng ++ row.drop (nxt row (fst row k))) := by
    exact m2 ▸ List.takeWhile_append_dropWhile ▸ (List.take_append_drop ..) ▸ rfl
  unfold putR
  refine m1 ▸ ?_
  generalize row.take (fst row k) = A at *
  generalize (row.drop (fst row k)).takeWhile ng = M at *
  generalize row.drop (nxt row (fst row k)) = C at *
  have hsA : (sg A).length = k := by refine hA.1 ▸ List.length_take ▸ ?_; lia -abstractProof
  have hsr : sg row = sg A ++ sg C := by rw [hrow, sg_app, sg_app, sg_neg hM, List.nil_append]
  have f1 : ∀ x ∈ M.filter (fun x => !go.any (· == x)), x < 0 := fun x hx => hM x (List.mem_filter.mp hx).1
  have f2 : ∀ x ∈ M.filter (fun x => go.any (· == x)), x < 0 := fun x hx => hM x (List.mem_filter.mp hx).1
  refine ⟨?_, ?_, fun m hm hmem => ?_⟩
  · exact (sg_app ..) ▸ (sg_app ..).symm ▸ (sg_app ..).symm ▸ (sg_app ..).symm ▸ sg_neg f1 ▸ (sg_neg f2).symm ▸ (sg_pos hc).symm ▸ (List.append_nil ..) ▸ (List.append_nil ..) ▸ hsr ▸ (List.take_left' hsA).symm ▸ List.drop_left' hsA ▸ rfl
  · have l1 : (M.filter (fun x => !go.any (· == x))).length + (M.filter (fun x => go.any (· == x))).length = M.length := by
      exact filter_split (fun x => go.any (· == x)) M
    have l2 : row.length = A.length + (M.length + C.length) := by exact hrow ▸ List.length_append.symm ▸ List.length_append.symm ▸ rfl
    simp only [List.length_append]; lia -abstractProof
  · have hncs : m ∉ cs := fun h => absurd (hc m h) (Int.not_le.mpr hm)
    refine (plc_pre ..) ▸ (plc_pre ..).symm ▸ ?_
    by_cases hA' : m ∈ A
    · refine ⟨by simp [hA'], ?_⟩
      have e1 : pre m (A ++ M.filter (fun x => !go.any (· == x)) ++ cs ++ M.filter (fun x => go.any (· == x)) ++ C) = pre m A := by
        simp only [List.append_assoc]; exact pre_in _ hA'
      have e2 : pre m row = pre m A := by refine hrow ▸ ?_; exact pre_in _ hA'
      have := hpre m hm hA'
      refine e1 ▸ e2.symm ▸ ?_; unfold mEd
      rw [if_pos rfl, if_neg (by lia -abstractProof)]
    · have e2 : pre m row = k + pre m (M ++ C) := by exact hrow ▸ pre_out _ hA' ▸ hsA.symm ▸ rfl
      have e3 : ∀ Z, pre m (A ++ Z) = k + pre m Z := fun Z => by exact pre_out _ hA' ▸ hsA.symm ▸ rfl
      by_cases hM' : m ∈ M
      · have e4 : pre m (M ++ C) = 0 := by refine pre_in _ hM' ▸ ?_; exact pre_neg hM
        cases hg : go.any (· == m) with
        | true =>
          have n1 : m ∉ M.filter (fun x => !go.any (· == x)) := fun h => by have := (List.mem_filter.mp h).2; rw [hg] at this; cases this
          have n2 : m ∈ M.filter (fun x => go.any (· == x)) := List.mem_filter.mpr ⟨hM', hg⟩
          refine ⟨by simp only [List.mem_append]; exact .inl (.inr n2), ?_⟩
          simp only [List.append_assoc]
          refine (e3 ..) ▸ e2 ▸ e4 ▸ pre_out _ n1 ▸ sg_neg f1 ▸ pre_out _ hncs ▸ (sg_pos hc).symm ▸ pre_in _ n2 ▸ (pre_neg f2).symm ▸ ?_
          unfold mEd
          rw [if_pos rfl, if_pos (.inr ⟨by simp; lia -abstractProof, rfl⟩)]; simp; lia -abstractProof
        | false =>
          have n1 : m ∈ M.filter (fun x => !go.any (· == x)) := List.mem_filter.mpr ⟨hM', by refine hg ▸ ?_; rfl⟩
          refine ⟨by simp only [List.mem_append]; exact .inl (.inl (.inl (.inr n1))), ?_⟩
          simp only [List.append_assoc]
          refine (e3 ..) ▸ e2 ▸ e4 ▸ pre_in _ n1 ▸ (pre_neg f1).symm ▸ ?_
          unfold mEd
          rw [if_pos rfl, if_neg (by simp; lia -abstractProof)]
      · have hC' : m ∈ C := by
          rw [hrow] at hmem
          simp only [List.mem_append] at hmem
          rcases hmem with h | h | h
          · exact absurd h hA'
          · exact absurd h hM'
          · exact h
        have n1 : m ∉ M.filter (fun x => !go.any (· == x)) := fun h => hM' (List.mem_filter.mp h).1
        have n2 : m ∉ M.filter (fun x => go.any (· == x)) := fun h => hM' (List.mem_filter.mp h).1
        have := hdw m hm hC'
        refine ⟨by simp only [List.mem_append]; exact .inr hC', ?_⟩
        simp only [List.append_assoc]
        refine (e3 ..) ▸ e2 ▸ pre_out _ hM' ▸ pre_out _ n1 ▸ pre_out _ hncs ▸ pre_out _ n2 ▸ sg_neg f1 ▸ (sg_neg f2).symm ▸ (sg_neg hM).symm ▸ (sg_pos hc).symm ▸ ?_
        unfold mEd
        rw [if_pos rfl, if_pos (.inl (by simp; lia -abstractProof))]; simp; lia -abstractProof
theorem chg_law {row cs go : List Int} {s e : Nat} (hse : s ≤ e) (he : e ≤ (sg row).length) (hc : ∀ x ∈ cs, 0 ≤ x) : Chg row (chgR row s e cs go) s e cs go := by
  unfold chgR
  by_cases q : s = e
  · subst q; refine if_pos rfl ▸ ?_; exact put_law he hc
  refine if_neg q ▸ ?_
  have hA := fst_sg row s (by lia -abstractProof)
  have hA2 := fst_le row s
  obtain ⟨m1, m2⟩ := nxt_split row (fst row s)
  have hM : ∀ x ∈ (row.drop (fst row s)).takeWhile ng, x < 0 := tw_neg
  have hpre : ∀ m, m < 0 → m ∈ row.take (fst row s) → pre m (row.take (fst row s)) < s := fun m hm => fst_pre hm row s
  have hdw : ∀ m, m < 0 → m ∈ row.drop (nxt row (fst row s)) → 1 ≤ pre m (row.drop (nxt row (fst row s))) := fun m hm => by refine m2 ▸ ?_; exact dw_pre hm
  have hrow : row = row.take (fst row s) ++ ((row.drop (fst row s)).takeWhile ng ++ row.drop (nxt row (fst row s))) := by
    exact m2 ▸ List.takeWhile_append_dropWhile ▸ (List.take_append_drop ..) ▸ rfl
  have hlow : row.take (nxt row (fst row s)) = row.take (fst row s) ++ (row.drop (fst row s)).takeWhile ng := by
    refine m1 ▸ List.take_add ▸ ?_; congr 1; show _ = _ + (fst row s + _ - fst row s); show fst row s + _ = _; lia -abstractProof
  have hC0 : sg (row.drop (nxt row (fst row s))) = (sg row).drop s := by
    refine hA.2 ▸ ?_
    have : row.drop (fst row s) = (row.drop (fst row s)).takeWhile ng ++ row.drop (nxt row (fst row s)) := by exact m2 ▸ List.takeWhile_append_dropWhile ▸ rfl
    conv => rhs; rw [this]
    exact (sg_app ..) ▸ sg_neg hM ▸ (List.nil_append ..) ▸ rfl
  have hCl : e - s ≤ (sg (row.drop (nxt row (fst row s)))).length := by refine hC0 ▸ List.length_drop ▸ ?_; exact Nat.sub_le_sub_right he _
  have hh := hops_fst row (e - s) (nxt row (fst row s)) hCl
  rw [hh, Nat.add_sub_cancel_left, ← List.drop_drop, hlow]
  have hD := fst_sg (row.drop (nxt row (fst row s))) (e - s) hCl
  have hDp : ∀ m, m < 0 → m ∈ (row.drop (nxt row (fst row s))).take (fst (row.drop (nxt row (fst row s))) (e - s)) → pre m ((row.drop (nxt row (fst row s))).take (fst (row.drop (nxt row (fst row s))) (e - s))) < e - s := fun m hm => fst_pre hm _ _
  have hCD : row.drop (nxt row (fst row s)) = (row.drop (nxt row (fst row s))).take (fst (row.drop (nxt row (fst row s))) (e - s)) ++ (row.drop (nxt row (fst row s))).drop (fst (row.drop (nxt row (fst row s))) (e - s)) := (List.take_append_drop ..).symm
  generalize row.take (fst row s) = A at *
  generalize (row.drop (fst row s)).takeWhile ng = M at *
  generalize row.drop (nxt row (fst row s)) = C at *
  generalize C.take (fst C (e - s)) = D at *
  generalize C.drop (fst C (e - s)) = E at *
  have hsA : (sg A).length = s := by refine hA.1 ▸ List.length_take ▸ ?_; lia -abstractProof
  have hsD : (sg D).length = e - s := by refine hD.1 ▸ List.length_take ▸ ?_; lia -abstractProof
  have hsr : sg row = sg A ++ (sg D ++ sg E) := by rw [hrow, sg_app, sg_app, sg_neg hM, List.nil_append, hCD, sg_app]
  have f1 : ∀ x ∈ D.filter (fun x => decide (x < 0)), x < 0 := fun x hx => by simpa using (List.mem_filter.mp hx).2
  refine ⟨?_, ?_, fun m hm hmem => ?_⟩
  · rw [sg_app, sg_app, sg_app, sg_app, sg_neg f1, sg_neg hM, sg_pos hc, List.append_nil, List.append_nil, hsr, List.take_left' hsA, ← List.append_assoc (sg A), List.drop_left' (by rw [List.length_append]; lia -abstractProof)]
  · have l1 := List.length_filter_le (fun x : Int => decide (x < 0)) D
    have l2 : row.length = A.length + (M.length + (D.length + E.length)) := by exact hrow ▸ List.length_append.symm ▸ List.length_append.symm ▸ hCD ▸ List.length_append.symm ▸ rfl
    simp only [List.length_append]; lia -abstractProof
  · have hncs : m ∉ cs := fun h => absurd (hc m h) (Int.not_le.mpr hm)
    refine (plc_pre ..) ▸ (plc_pre ..).symm ▸ ?_
    unfold mEd
    rw [if_neg (by lia -abstractProof)]
    simp only [List.append_assoc]
    by_cases hA' : m ∈ A
    · have e2 : pre m row = pre m A := by refine hrow ▸ ?_; exact pre_in _ hA'
      have := hpre m hm hA'
      refine ⟨by simp [hA'], ?_⟩
      rw [pre_in _ hA', e2, if_neg (by lia -abstractProof), if_neg (by lia -abstractProof)]
    · have e2 : pre m row = s + pre m (M ++ C) := by exact hrow ▸ pre_out _ hA' ▸ hsA.symm ▸ rfl
      refine pre_out _ hA' ▸ hsA.symm ▸ e2 ▸ ?_
      by_cases hM' : m ∈ M
      · refine ⟨by simp [hM'], ?_⟩
        rw [pre_in _ hM', pre_in _ hM', pre_neg hM, if_neg (by lia -abstractProof), if_neg (by lia -abstractProof)]
      · refine pre_out _ hM' ▸ (pre_out _ hM').symm ▸ sg_neg hM ▸ ?_
        have hC' : m ∈ C := by
          rw [hrow] at hmem
          simp only [List.mem_append] at hmem
          rcases hmem with h | h | h
          · exact absurd h hA'
          · exact absurd h hM'
          · exact h
        have w1 := hdw m hm hC'
        by_cases hD' : m ∈ D
        · have n1 : m ∈ D.filter (fun x => decide (x < 0)) := List.mem_filter.mpr ⟨hD', by simpa using hm⟩
          have w2 := hDp m hm hD'
          have w3 : pre m C = pre m D := by refine hCD ▸ ?_; exact pre_in _ hD'
          refine ⟨by simp only [List.mem_append]; exact .inr (.inr (.inl n1)), ?_⟩
          rw [pre_in _ n1, pre_neg f1, if_neg (by simp; lia -abstractProof), if_pos (by simp; lia -abstractProof)]; simp; lia -abstractProof
        · have n1 : m ∉ D.filter (fun x => decide (x < 0)) := fun h => hD' (List.mem_filter.mp h).1
          have hE' : m ∈ E := by
            rw [hCD] at hC'
            exact (List.mem_append.mp hC').resolve_left hD'
          have w3 : pre m C = (e - s) + pre m E := by exact hCD ▸ pre_out _ hD' ▸ hsD.symm ▸ rfl
          refine ⟨by simp only [List.mem_append]; exact .inr (.inr (.inr (.inr hE'))), ?_⟩
          rw [pre_out _ n1, pre_out _ hncs, sg_neg f1, sg_pos hc, w3, if_pos (by simp; lia -abstractProof)]; simp; lia -abstractProof
structure Wth (row row' : List Int) (m : Int) (k : Nat) : Prop where
  sg' : sg row' = sg row
  len : row'.length = row.length + 1
  in_ : m ∈ row'
  at_ : m ∉ row → plc row' m = k + 1
  other : ∀ j, j < 0 → j ≠ m → j ∈ row → j ∈ row' ∧ plc row' j = plc row j
  only : ∀ j, j ∈ row' → j = m ∨ j ∈ row
theorem with_law {row : List Int} {m : Int} {k : Nat} (il : Bool) (hm : m < 0) (hk : k ≤ (sg row).length) : Wth row (wthR row m k il) m k := by
  have main : ∀ A C : List Int, row = A ++ C → (sg A).length = k → Wth row (A ++ [m] ++ C) m k := by
    intro A C hrow hsA
    have hmm : sg [m] = [] := sg_neg fun x hx => by refine List.mem_singleton.mp hx ▸ ?_; exact hm
    refine ⟨?_, ?_, by simp, fun hn => ?_, fun j hj hjm hmem => ?_, fun j hj => ?_⟩
    · exact (sg_app ..) ▸ (sg_app ..).symm ▸ hmm.symm ▸ (List.append_nil ..) ▸ hrow ▸ (sg_app ..).symm ▸ rfl
    · refine hrow ▸ ?_; simp only [List.length_append, List.length_cons, List.length_nil]; lia -abstractProof
    · have : m ∉ A := fun h => hn (by refine hrow ▸ ?_; exact List.mem_append_left _ h)
      refine (plc_pre ..) ▸ (List.append_assoc ..) ▸ pre_out _ this ▸ hsA.symm ▸ List.singleton_append.symm ▸ (pre_cons ..) ▸ if_pos rfl ▸ ?_; lia -abstractProof
    · rw [hrow] at hmem ⊢
      refine (plc_pre ..) ▸ (plc_pre ..).symm ▸ (List.append_assoc ..) ▸ ?_
      by_cases hA : j ∈ A
      · exact ⟨by simp [hA], by exact pre_in _ hA ▸ (pre_in _ hA).symm ▸ rfl⟩
      · have hC := (List.mem_append.mp hmem).resolve_left hA
        refine ⟨by simp [hC], ?_⟩
        refine pre_out _ hA ▸ (pre_out _ hA).symm ▸ pre_out (X := [m]) _ (fun h => hjm (List.mem_singleton.mp h)) ▸ hmm.symm ▸ ?_; simp
    · refine hrow ▸ ?_
      simp only [List.mem_append, List.mem_singleton] at hj ⊢
      rcases hj with (h | h) | h
      · exact .inr (.inl h)
      · exact .inl h
      · exact .inr (.inr h)
  have hA := fst_sg row k hk
  unfold wthR
  cases il with
  | false =>
    refine main _ _ (List.take_append_drop ..).symm ?_
    rw [if_neg (by decide), hA.1, List.length_take]; lia -abstractProof
  | true =>
    refine main _ _ (List.take_append_drop ..).symm ?_
    obtain ⟨m1, m2⟩ := nxt_split row (fst row k)
    have hM : ∀ x ∈ (row.drop (fst row k)).takeWhile ng, x < 0 := tw_neg
    have hlow : row.take (nxt row (fst row k)) = row.take (fst row k) ++ (row.drop (fst row k)).takeWhile ng := by
      refine m1 ▸ List.take_add ▸ ?_; congr 1; show fst row k + _ = fst row k + (fst row k + _ - fst row k); lia -abstractProof
    refine if_pos rfl ▸ hlow ▸ (sg_app ..) ▸ sg_neg hM ▸ (List.append_nil ..) ▸ hA.1 ▸ List.length_take ▸ ?_; lia -abstractProof
noncomputable def Mk.sh : Mk → Nat
  | .no => 0
  | .one _ => 1
  | .tri _ _ _ => 2
noncomputable def Mk.top : Mk → Nat
  | .no => 8
  | .one _ => 11
  | .tri _ _ _ => 13
noncomputable def Mk.in (row : List Int) : Mk → Prop
  | .no => True
  | .one c => -9 ∈ row ∧ c = plc row (-9)
  | .tri a b c => (-1 ∈ row ∧ a = plc row (-1)) ∧ (-4 ∈ row ∧ b = plc row (-4)) ∧ (-9 ∈ row ∧ c = plc row (-9)) ∧ a ≤ b
structure Agr (row : List Int) (lo hi : Int) (mk : Mk) (T : List Int) (p b z : Int) : Prop where
  hT : T = sg row
  hb : b = bgn row lo
  hz : z = fin row hi
  bd : 1 ≤ b ∧ b ≤ p ∧ p ≤ z ∧ z ≤ (T.length : Int) + 1
  lh : (lo = 0 ∧ hi = 0) ∨ (lo = -2 ∧ hi = -3)
  lo_in : lo ≠ 0 → lo ∈ row
  hi_in : hi ≠ 0 → hi ∈ row
  ms : Mk.in row mk
noncomputable def ptEdit : PT := fun as hp nx P X => ∃ dk cells gs ge p b z tk ck mk T B row lo hi lap, as = [.ref 2, .ref 3, .lst row, .int lo, .int hi, .int lap] ∧ hp = lay dk cells gs ge p b z tk ck (Mk.rows mk) (Mk.rest mk) ∧ Gp cells gs ge T B ∧ B ≤ 50000 ∧ row.length ≤ 900 ∧ (0 ≤ lap ∧ lap ≤ 100) ∧ dk.length ≤ 16 ∧ Mk.top mk ≤ nx ∧ Agr row lo hi mk T p b z ∧
  ∀ dk' cells' gs' ge' p' b' z' tk' ck' mk' T' row' nx', dk'.length ≤ 16 → Gp cells' gs' ge' T' (B + 20) → Agr row' lo hi mk' T' p' b' z' → row'.length ≤ row.length + 2 → Mk.top mk' ≤ nx' → Mk.sh mk' = Mk.sh mk → P (.lst row') (lay dk' cells' gs' ge' p' b' z' tk' ck' (Mk.rows mk') (Mk.rest mk')) nx'
theorem mEd_lo {s e n b : Int} (h : b ≤ s) (h2 : s ≤ e) : mEd s e n false b = b := by
  unfold mEd
  split
  · exact if_neg fun h => h.elim (fun h => by lia -abstractProof) fun h => by cases h.2
  · rw [if_neg (by lia -abstractProof), if_neg (Int.not_lt.mpr h)]
theorem mEd_hi {s e n z : Int} (h : e ≤ z) (h2 : s ≤ e) : mEd s e n true z = z - (e - s) + n := by
  unfold mEd
  split
  · rw [if_pos (by rcases Int.lt_or_eq_of_le (show s ≤ z by lia -abstractProof) with q | q; exact .inl q; exact .inr ⟨q.symm, rfl⟩)]; lia -abstractProof
  · first | lia -abstractProof | (rw [if_pos (by lia -abstractProof)]; lia -abstractProof)
theorem mEd_mono {s e n x y : Int} (h : x ≤ y) (h2 : s ≤ e) (hn : 0 ≤ n) : mEd s e n false x ≤ mEd s e n true y := by
  unfold mEd
  split
  · rename_i q
    by_cases hx : x > s
    · rw [if_pos (.inl hx), if_pos (.inl (by lia -abstractProof))]; lia -abstractProof
    · rw [if_neg (fun h => h.elim hx fun h => by cases h.2)]
      split <;> lia -abstractProof
  · (repeat' split) <;> lia -abstractProof
theorem inv_ed {row row' : List Int} {lo hi : Int} {mk : Mk} {T cs : List Int} {p b z s e p' : Int} (I : Agr row lo hi mk T p b z) (C : Chg row row' (s - 1).toNat (e - 1).toNat cs [hi, -4]) (h1 : b ≤ s) (h2 : s ≤ e) (h3 : e ≤ z) (h4 : b ≤ p') (h5 : p' ≤ z - (e - s) + (cs.length : Int)) :
    Agr row' lo hi (mk.ed s e (cs.length : Int)) (T.take (s - 1).toNat ++ cs ++ T.drop (e - 1).toNat) p' b (z - (e - s) + (cs.length : Int)) := by
  have bd := I.bd
  have es : (((s - 1).toNat : Nat) : Int) + 1 = s := by lia -abstractProof
  have ee : (((e - 1).toNat : Nat) : Int) + 1 = e := by lia -abstractProof
  have at_ : ∀ m, m < 0 → m ∈ row → m ∈ row' ∧ (plc row' m : Int) = mEd s e cs.length ([hi, -4].any (· == m)) (plc row m) := fun m hm hr => by
    have := C.at_ m hm hr
    rwa [es, ee] at this
  have hl : ((sg row').length : Int) = (sg row).length - (e - s) + cs.length := by
    have := bd.2.2.2; rw [I.hT] at this
    refine C.sg' ▸ ?_; simp only [List.length_append, List.length_take, List.length_drop]; lia -abstractProof
  have hTl : ((T.take (s - 1).toNat ++ cs ++ T.drop (e - 1).toNat).length : Int) = (sg row).length - (e - s) + cs.length := by exact I.hT.symm ▸ C.sg' ▸ hl.symm ▸ rfl
  have a1 : [hi, -4].any (· == (-1 : Int)) = false := by rcases I.lh with ⟨_, h⟩ | ⟨_, h⟩ <;> subst h <;> decide
  have a2 : [hi, -4].any (· == (-2 : Int)) = false := by rcases I.lh with ⟨_, h⟩ | ⟨_, h⟩ <;> subst h <;> decide
  have a4 : [hi, -4].any (· == (-4 : Int)) = true := by rcases I.lh with ⟨_, h⟩ | ⟨_, h⟩ <;> subst h <;> decide
  have a9 : [hi, -4].any (· == (-9 : Int)) = false := by rcases I.lh with ⟨_, h⟩ | ⟨_, h⟩ <;> subst h <;> decide
  refine ⟨by exact I.hT ▸ C.sg'.symm ▸ rfl, ?_, ?_, ⟨bd.1, h4, h5, by refine hTl ▸ ?_; have := bd.2.2.2; rw [I.hT] at this; lia -abstractProof⟩, I.lh, fun h => ?_, fun h => ?_, ?_⟩
  · rcases I.lh with ⟨rfl, rfl⟩ | ⟨rfl, rfl⟩
    · exact I.hb
    · have ib := I.hb
      obtain ⟨_, q⟩ := at_ (-2) (by decide) (I.lo_in (by decide))
      unfold bgn at ib ⊢
      rw [if_neg (by decide)] at ib ⊢
      exact q ▸ a2 ▸ ib ▸ (mEd_lo h1 h2).symm ▸ rfl
  · rcases I.lh with ⟨rfl, rfl⟩ | ⟨rfl, rfl⟩
    · have iz := I.hz
      unfold fin at iz ⊢
      rw [if_pos rfl] at iz ⊢
      lia -abstractProof
    · have iz := I.hz
      obtain ⟨_, q⟩ := at_ (-3) (by decide) (I.hi_in (by decide))
      unfold fin at iz ⊢
      rw [if_neg (by decide)] at iz ⊢
      exact q ▸ iz ▸ (show [(-3 : Int), -4].any (· == (-3 : Int)) = true by decide) ▸ (mEd_hi h3 h2).symm ▸ rfl
  · rcases I.lh with ⟨rfl, rfl⟩ | ⟨rfl, rfl⟩
    · exact absurd rfl h
    · exact (at_ (-2) (by decide) (I.lo_in h)).1
  · rcases I.lh with ⟨rfl, rfl⟩ | ⟨rfl, rfl⟩
    · exact absurd rfl h
    · exact (at_ (-3) (by decide) (I.hi_in h)).1
  · have im := I.ms
    cases mk with
    | no => trivial
    | one c =>
      obtain ⟨i1, i2⟩ := im
      obtain ⟨j1, j2⟩ := at_ (-9) (by decide) i1
      exact ⟨j1, by exact j2 ▸ a9.symm ▸ i2 ▸ rfl⟩
    | tri a b c =>
      refine an4 im fun np0 np1 np2 i7 => ?_; try clear im; obtain ⟨i1, i2⟩ := np0; obtain ⟨i3, i4⟩ := np1; obtain ⟨i5, i6⟩ := np2
      obtain ⟨j1, j2⟩ := at_ (-1) (by decide) i1
      obtain ⟨j3, j4⟩ := at_ (-4) (by decide) i3
      obtain ⟨j5, j6⟩ := at_ (-9) (by decide) i5
      exact ⟨⟨j1, by exact j2 ▸ a1.symm ▸ i2 ▸ rfl⟩, ⟨j3, by exact j4 ▸ a4.symm ▸ i4 ▸ rfl⟩, ⟨j5, by exact j6 ▸ a9.symm ▸ i6 ▸ rfl⟩, mEd_mono i7 h2 (Int.natCast_nonneg _)⟩
theorem hget_none {n : Nat} : ∀ {l : List (Nat × AO)}, (∀ q ∈ l, q.1 ≠ n) → hget n l = none
  | [], _ => rfl
  | (k, o) :: r, h => by
    unfold hget
    cases q : Nat.beq k n with
    | true => exact absurd (Nat.eq_of_beq_eq_true q) (h (k, o) (.head _))
    | false => exact hget_none fun p hp => h p (.tail _ hp)
theorem fresh {dk cells : List Int} {gs ge p b z tk ck : Int} {mk : Mk} {nx : Nat} (h : mk.top ≤ nx) : hget nx (lay dk cells gs ge p b z tk ck mk.rows mk.rest) = none := by
  refine hget_none fun q hq => ?_
  have h8 : 8 ≤ mk.top := by
    cases mk with
    | no => exact Nat.le_refl 8
    | one c => show 8 ≤ 11; decide
    | tri a b c => show 8 ≤ 13; decide
  have : q.1 < mk.top := by
    unfold lay at hq
    simp only [List.mem_cons] at hq
    rcases hq with rfl | rfl | rfl | rfl | rfl | rfl | rfl | rfl | hq
    · show 0 < _; lia -abstractProof
    · show 1 < _; lia -abstractProof
    · show 2 < _; lia -abstractProof
    · show 3 < _; lia -abstractProof
    · show 4 < _; lia -abstractProof
    · show 5 < _; lia -abstractProof
    · show 6 < _; lia -abstractProof
    · show 7 < _; exact Nat.lt_of_succ_le h8
    · cases mk with
      | no => cases hq
      | one c =>
        simp only [Mk.rest, List.mem_cons, List.not_mem_nil, or_false] at hq
        rcases hq with rfl | rfl | rfl
        · show 8 < 11; decide
        · show 9 < 11; decide
        · show 10 < 11; decide
      | tri a b c =>
        simp only [Mk.rest, List.mem_cons, List.not_mem_nil, or_false] at hq
        rcases hq with rfl | rfl | rfl | rfl | rfl
        · show 8 < 13; decide
        · show 9 < 13; decide
        · show 10 < 13; decide
        · show 11 < 13; decide
        · show 12 < 13; decide
  lia -abstractProof
theorem Mk.top_ed (mk : Mk) (s e n : Int) : (mk.ed s e n).top = mk.top := by cases mk <;> rfl
theorem Mk.sh_ed (mk : Mk) (s e n : Int) : (mk.ed s e n).sh = mk.sh := by cases mk <;> rfl
theorem s9_ok {W : Wd} (H : Pg W) : Specs W s9 := .cons (ok_signs H) (fn_k H (i := 33) rfl) <| .cons (ok_draw H) (fn_k H (i := 27) rfl) <| .cons (ok_changed H) (fn_k H (i := 31) rfl) <| .cons (ok_replace H) (fn_k H (i := 25) rfl) (s5_ok H)
theorem g9_ok {W : Wd} (H : Pg W) : GOk W g9 := gx_ok H.toBase (s9_ok H) noExc
theorem sp_edit (hp : List (Nat × AO)) (nx : Nat) (row : List Int) (lo hi lap : Int) (P : PRes) (X : XRes) : vFn 14 g9 9 (some (0, 643, 641, qE)) false (F 48) [.ref 2, .ref 3, .lst row, .int lo, .int hi, .int lap] hp nx P X =
 seg 14 cxE ((bodyOf (F 48)).take 6) (frameSt (scopeOf (F 48)) (psOf (F 48)) [.ref 2, .ref 3, .lst row, .int lo, .int hi, .int lap] hp nx) (fun σ => seg 14 cxE (((bodyOf (F 48)).drop 6).take 1) σ
 (fun σ => seg 14 cxE ((bodyOf (F 48)).drop 7) σ (fun σ => P .none σ.hp σ.nxt) (fun v σ => P v σ.hp σ.nxt) (fun e σ => X e σ.hp σ.nxt)) (fun v σ => P v σ.hp σ.nxt) (fun e σ => X e σ.hp σ.nxt)) (fun v σ => P v σ.hp σ.nxt) (fun e σ => X e σ.hp σ.nxt) := by kernel_rfl
theorem ok_edit {W : Wd} (H : Pg W) : PTok W 10 (.ref 644) ptEdit := (fn_ok (m := 14) (mr := false) (n := 9) H.f644 (g9_ok H) fun as hp nx P X hh => ex16 hh fun dk cells gs ge p b z tk ck mk T B row lo hi lap hj => an10 hj fun e1 e2 G hB hr hlap hdk hnx I q => by
  clear hj hh
  subst e1 e2
  have hl := sg_len row
  have bd := I.bd
  have hTl : T.length = (sg row).length := by exact I.hT.symm ▸ rfl
  have main : ∀ dk way s e cs, dk.length ≤ 16 → 1 ≤ s → s ≤ e → e ≤ (T.length : Int) + 1 → cs.length ≤ 2 → (∀ x ∈ cs, (0 : Int) ≤ x) → (way = 0 → e = s) →
      seg 14 cxE (((bodyOf (F 48)).drop 6).take 1) (stE row lo hi lap way s e b z cs (lay dk cells gs ge p b z tk ck mk.rows mk.rest) nx [])
        (fun σ => seg 14 cxE ((bodyOf (F 48)).drop 7) σ (fun σ => P .none σ.hp σ.nxt) (fun v σ => P v σ.hp σ.nxt) (fun e σ => X e σ.hp σ.nxt)) (fun v σ => P v σ.hp σ.nxt) (fun e σ => X e σ.hp σ.nxt) := by
    intro dk way s e cs hdk hs hse he hc hc0 hw
    have bad : s < b ∨ e > z → P (.lst row) (lay dk cells gs ge p b z tk ck mk.rows mk.rest) (nx + 1) := fun _ => q _ _ _ _ _ _ _ _ _ _ _ _ _ hdk (G.weak (Nat.le_add_right ..)) I (Nat.le_add_right ..) (by lia -abstractProof) rfl
    have bad' : s < b ∨ e > z → seg 14 cxE ((bodyOf (F 48)).drop 7) (stE row lo hi lap way s e b z cs (lay dk cells gs ge p b z tk ck mk.rows mk.rest) (nx + 1) (tl aoor)) (fun σ => P .none σ.hp σ.nxt) (fun v σ => P v σ.hp σ.nxt) (fun e σ => X e σ.hp σ.nxt) := fun h => by
      have k : br (decide (s < b)) (P (.lst row) (lay dk cells gs ge p b z tk ck mk.rows mk.rest) (nx + 1)) (br (decide (e > z)) (P (.lst row) (lay dk cells gs ge p b z tk ck mk.rows mk.rest) (nx + 1)) (P .none (lay dk cells gs ge p b z tk ck mk.rows mk.rest) (nx + 1))) :=
        br_dec (fun _ => bad h) fun h1 => br_dec (fun _ => bad h) fun h2 => by lia -abstractProof
      exact (ve3a ..).mpr (br_of (fun _ => ⟨by decide, k⟩) fun _ => k)
    have good : ∀ (cs' : List Int) cells' gs' ge' p' tk' ck', cs'.length ≤ 2 → (∀ x ∈ cs', (0 : Int) ≤ x) → b ≤ s → e ≤ z → Gp cells' gs' ge' (T.take (s - 1).toNat ++ cs' ++ T.drop (e - 1).toNat) (B + cs'.length + 8) → b ≤ p' → p' ≤ z - (e - s) + (cs'.length : Int) →
        P (.lst (chgR row (s - 1).toNat (e - 1).toNat cs' [hi, -4])) (lay dk cells' gs' ge' p' b (z - (e - s) + (cs'.length : Int)) tk' ck' (mk.ed s e (cs'.length : Int)).rows (mk.ed s e (cs'.length : Int)).rest) nx := by
      intro cs' cells' gs' ge' p' tk' ck' k1 k2 k3 k4 G' k5 k6
      have C := chg_law (row := row) (cs := cs') (go := [hi, -4]) (s := (s - 1).toNat) (e := (e - 1).toNat) (by lia -abstractProof) (by lia -abstractProof) k2
      have := C.len
      exact q _ _ _ _ _ _ _ _ _ _ _ _ _ hdk (G'.weak (by lia -abstractProof)) (inv_ed I C k3 hse k4 k5 k6) (by lia -abstractProof) (by refine (Mk.top_ed ..).symm ▸ ?_; exact hnx) (Mk.sh_ed ..)
    have good' : ∀ cells' gs' ge' p' tk' ck', b ≤ s → e ≤ z → Gp cells' gs' ge' (T.take (s - 1).toNat ++ (if way = 1 then [] else cs) ++ T.drop (e - 1).toNat) (B + (if way = 1 then [] else cs).length + 8) → b ≤ p' → p' ≤ z - (e - s) + ((if way = 1 then [] else cs).length : Int) →
        seg 14 cxE ((bodyOf (F 48)).drop 7) (stE row lo hi lap way s e b z cs (lay dk cells' gs' ge' p' b (z - (e - s) + ((if way = 1 then [] else cs).length : Int)) tk' ck' (mk.ed s e ((if way = 1 then [] else cs).length : Int)).rows (mk.ed s e ((if way = 1 then [] else cs).length : Int)).rest) nx (tl "done"))
          (fun σ => P .none σ.hp σ.nxt) (fun v σ => P v σ.hp σ.nxt) (fun e σ => X e σ.hp σ.nxt) := by
      intro cells' gs' ge' p' tk' ck' k3 k4 G' k5 k6
      refine (ve3d ..).mpr (br_of (fun w => ?_) fun w => ?_)
      · have w : way = 1 := by simpa using w
        simp only [if_pos w] at G' k6 ⊢
        exact ⟨by decide, br_dec (fun h => by lia -abstractProof) fun _ => br_dec (fun h => by lia -abstractProof) fun _ => ⟨by decide, (ex5i row s e [] _ ⟨rfl, by lia -abstractProof, by lia -abstractProof, by decide, good [] _ _ _ _ _ _ (by decide) (by simp) k3 k4 G' k5 k6⟩)⟩⟩
      · have w : ¬ way = 1 := by simpa using w
        simp only [if_neg w] at G' k6 ⊢
        exact br_dec (fun h => by lia -abstractProof) fun _ => br_dec (fun h => by lia -abstractProof) fun _ => ⟨by decide, (ex5i row s e cs _ ⟨rfl, by lia -abstractProof, by lia -abstractProof, by lia -abstractProof, good cs _ _ _ _ _ _ hc hc0 k3 k4 G' k5 k6⟩)⟩
    refine (ve2 ..).mpr (br_of (fun w => ?_) fun w => br_of (fun w' => ?_) fun w' => ?_)
    · have w : way = 0 := by simpa using w
      obtain rfl := hw w
      have w1 : ¬ way = 1 := by lia -abstractProof
      simp only [if_neg w1] at good'
      exact ⟨⟨rfl, rfl⟩, rfl, ex15i _ _ _ _ _ _ _ _ _ mk T B _ _ _ ⟨rfl, rfl, G, by lia -abstractProof, by lia -abstractProof, bd, Int.le_refl _, fresh hnx, fun h => bad' h, fun h1 h2 v c g e' p' tk' ck' _ G' k1 k2 => good' c g e' p' tk' ck' h1 h2 G' k1 k2⟩⟩
    · have w' : way = 1 := by simpa using w'
      simp only [if_pos w'] at good'
      exact ⟨⟨rfl, rfl⟩, ex14i _ _ _ _ _ _ _ _ _ mk T B _ _ ⟨rfl, rfl, G, by lia -abstractProof, by decide, bd, hse, fresh hnx, fun h => bad' h, fun h1 h2 v c g e' p' tk' ck' _ G' k1 k2 => good' c g e' p' tk' ck' h1 h2 G' k1 k2⟩⟩
    · have w' : ¬ way = 1 := by simpa using w'
      simp only [if_neg w'] at good'
      exact ⟨⟨rfl, rfl⟩, ex15i _ _ _ _ _ _ _ _ _ mk T B _ _ _ ⟨rfl, rfl, G, by lia -abstractProof, by lia -abstractProof, bd, hse, fresh hnx, fun h => bad' h, fun h1 h2 v c g e' p' tk' ck' _ G' k1 k2 => good' c g e' p' tk' ck' h1 h2 G' k1 k2⟩⟩
  refine ⟨rfl, (sp_edit ..).mpr ((ve1 ..).mpr ⟨row, rfl, by lia -abstractProof, by lia -abstractProof, ex12i _ _ _ _ _ _ _ _ _ _ _ _ ⟨rfl, rfl, by lia -abstractProof, hdk, fun dk1 r1 h1 h2 h3 => (ex12i _ _ _ _ _ _ _ _ _ _ _ _ ⟨rfl, rfl, by lia -abstractProof, h1, fun dk2 r2 h4 h5 h6 => (ex12i _ _ _ _ _ _ _ _ _ _ _ _ ⟨rfl, rfl, by lia -abstractProof, h4, fun dk3 r3 h7 h8 h9 => (ex12i _ _ _ _ _ _ _ _ _ _ _ _ ⟨rfl, rfl, by lia -abstractProof, h7, fun dk4 r4 h10 h11 h12 => ?_⟩)⟩)⟩)⟩⟩)⟩
  have lc : ((irange 0 r4).filterMap fun y => some (10 * lap + 20 + y)).length ≤ 2 := by
    have := List.length_filterMap_le (fun y => some (10 * lap + 20 + y)) (irange 0 r4)
    rw [irange_length] at this; lia -abstractProof
  have c0 : ∀ x ∈ ((irange 0 r4).filterMap fun y => some (10 * lap + 20 + y)), (0 : Int) ≤ x := fun x hx => by
    obtain ⟨y, hy, e⟩ := List.mem_filterMap.mp hx
    unfold irange at hy
    obtain ⟨i, _, rfl⟩ := List.mem_map.mp hy
    cases e; lia -abstractProof
  refine ⟨⟨⟨by decide, by decide⟩, by lia -abstractProof, by lia -abstractProof⟩, fun y => some (10 * lap + 20 + y), ⟨by refine (irange_length ..) ▸ ?_; lia -abstractProof, fun y hy => ⟨.inl ⟨by decide, by decide⟩, _, rfl, rfl, rfl, rfl, rfl, rfl⟩⟩, br_of (fun w => ?_) fun w => ?_⟩
  · exact ⟨rfl, rfl, main dk4 _ _ _ _ h10 (by lia -abstractProof) (Int.le_refl _) (by lia -abstractProof) lc c0 fun _ => rfl⟩
  · exact ⟨rfl, rfl, main dk4 _ _ _ _ h10 (by lia -abstractProof) (by lia -abstractProof) (by lia -abstractProof) lc c0 fun h => by simp at w; lia -abstractProof⟩).ok
noncomputable def ptDeck : PT := fun as hp nx P X => ∃ xs, as = [.scr xs] ∧ xs.length ≤ 10000 ∧ ∀ dk : List Int, dk.length ≤ 16 → P (.ref nx) (hp ++ [(nx, .arr dk)]) (nx + 1)
noncomputable def sB : List (Addr × Nat × PT) := [(373, 2, ptNew 373 (inl 14 g0 0 (M 19 0) 3 [])), (182, 2, ptNew 182 (inl 14 g0 0 (M 7 0) 1 []))]
noncomputable def gB : Gx := gx sB none
noncomputable def sS : List (Addr × Nat × PT) := [(214, 3, inl 14 g2 2 (F 13) 1 []), (114, 2, ptNew 114 (inl 14 g0 0 (M 6 0) 3 [])), (239, 2, ptNew 239 (inl 14 g0 0 (M 14 0) 4 [])), (275, 2, ptNew 275 (inl 14 g0 0 (M 16 0) 3 [])), (193, 3, inl 14 g2 2 (F 9) 3 []), (200, 3, inl 14 g2 2 (F 11) 3 []), (207, 3, inl 14 g2 2 (F 12) 1 [])] ++ s2
noncomputable def gS : Gx := gx sS none
noncomputable def s10 : List (Addr × Nat × PT) := [(200, 3, ptNarrow), (579, 2, ptDeck), (586, 1, ptDraw), (639, 2, ptWith), (632, 4, ptIsSo), (644, 10, ptEdit), (615, 2, ptPlace), (479, 4, ptNew 479 (inl 14 gB 2 (M 21 0) 3 [.int 8])), (560, 6, inl 14 g4 5 (F 33) 2 [.bool false]),
  (250, 4, inl 14 gS 3 (F 15) 3 []), (286, 4, inl 14 gS 3 (F 17) 2 []), (236, 4, inl 14 gS 3 (M 14 1) 1 [.none]), (272, 4, inl 14 gS 3 (M 16 1) 1 [.none])] ++ sS
noncomputable def g10 : Gx := gx s10 none
noncomputable def cxL : Cx := ⟨g10, scopeOf (F 49), 12, some (1, 648, 646, qL), false⟩
noncomputable def hp0 : List (Nat × AO) := [(0, .tab 641 qE), (1, .tab 646 qL)]
noncomputable def cL : List (Str × Option AV) := [en "buffer" (some (.ref 3))]
noncomputable def l5 (S : List Int) (start : Int) : List (Str × AV) := [en "deck" (.ref 2), en "signs" (.lst S), en "row" (.lst S), en "first" (.int 0), en "last" (.int 0), en "start" (.int start)]
noncomputable def l6 (S row : List Int) (f l : Int) : List (Str × AV) := [en "deck" (.ref 2), en "signs" (.lst S), en "row" (.lst row), en "first" (.int f), en "last" (.int l)]
noncomputable def l9 (S row : List Int) (f l : Int) (kp pl : Nat) : List (Str × AV) := [en "deck" (.ref 2), en "signs" (.lst S), en "row" (.lst row), en "first" (.int f), en "last" (.int l), en "kept" (.ref kp), en "place" (.ref pl)]
noncomputable def l13 (S row : List Int) (f l : Int) (kp pl : Nat) (lo hi : Int) : List (Str × AV) := [en "deck" (.ref 2), en "signs" (.lst S), en "row" (.lst row), en "first" (.int f), en "last" (.int l), en "kept" (.ref kp), en "place" (.ref pl), en "low" (.int lo), en "high" (.int hi)]
noncomputable def uRest (c : Int) : List (Nat × AO) := [(8, .inst 114 [en "number" (.int 1), en "advances" (.bool false), en "buffer" .none, en "position" (.int 0)]), (9, .inst 114 [en "number" (.int 2), en "advances" (.bool true), en "buffer" .none, en "position" (.int 0)]),
  (10, .inst 239 [en "buffer" (.ref 3), en "first" (.ref 8), en "last" (.ref 9)]), (11, mkOb 3 false c), (12, .inst 275 [en "buffer" (.ref 3), en "marker" (.ref 11)])]
theorem vk (xs : List Int) (hp : List (Nat × AO)) (nx : Nat) (P : PRes) (X : XRes) : (vFn 14 g0 1 none true (F 37) [.scr xs] hp nx P X) = (
xs.length ≤ 16777216 ∧
 (0 : Int) ≤ (16 : Int) ∧
 ∃ (g : Int → Option Int),
 ((List.take (Int.toNat (16 : Int)) xs).length ≤ 16777216 ∧
 ∀ (y : Int),
 y ∈ List.take (Int.toNat (16 : Int)) xs →
 ((0 : Int) ≤ (30 : Int) ∧ (↑(Builtin.Int.intBits (10 : Int)) : Int) * (30 : Int) ≤ (2 : Int) ^ (27 : Nat)) ∧
 (10 : Int) ^ Int.toNat (30 : Int) ≠ (0 : Int) ∧
 ∃ i, g y = some i ∧ AV.int ((iabs y).fmod ((10 : Int) ^ Int.toNat (30 : Int))) = AV.int i ∧ Same ⟨hp, [], [], [], nx⟩ ⟨hp, [en "cell" (.int y)], [], [], nx⟩) ∧
 P (AV.ref nx) (hp ++ [(nx, AO.arr (List.filterMap g (List.take (Int.toNat (16 : Int)) xs)))]) (nx + (1 : Nat))) := by kernel_rfl
theorem va1 (xs : List Int) (N : St → Prop) (Rt : AV → St → Prop) (X : XP) : (seg 14 cxL ((bodyOf (F 49)).take 5) (frameSt (scopeOf (F 49)) (psOf (F 49)) [.scr xs] hp0 2) N Rt X) = (
∃ xs_1,
 [AV.scr xs] = [AV.scr xs_1] ∧
 xs_1.length ≤ 10000 ∧
 ∀ (dk : List Int),
 dk.length ≤ 16 →
 3 = 3 ∧
 0 ≤ 1000 ∧
 3 = 3 ∧
 0 ≤ 16777216 ∧
 1 ≤ 1000 ∧
 ((0 : Int) ≤ (8 : Int) ∧ (8 : Int) ≤ (2 : Int) ^ (20 : Nat)) ∧
 8 ≤ 16777216 ∧
 0 ≤ 1099511627776 ∧
 0 ≤ 1099511627776 ∧
 AV.none = AV.none ∧
 1 = 1 ∧
 AV.none = AV.none ∧
 0 ≤ 1000 ∧
 AV.none = AV.none ∧
 ∃ dk_1 cells gs ge p b z tk ck rows rest many,
 [AV.ref 2, AV.int 8] = [AV.ref 2, AV.int many] ∧
 lay dk [(0 : Int), (0 : Int), (0 : Int), (0 : Int), (0 : Int), (0 : Int), (0 : Int), (0 : Int)] ((([] : List Int).length : Int) : Int) (((([] : List Int).length : Int) : Int) + (8 : Int)) (1 : Int) (1 : Int) (1 : Int) (1 : Int) (1 : Int) [] [] = lay dk_1 cells gs ge p b z tk ck rows rest ∧
 ((1 : Int) ≤ many ∧ many ≤ (1000 : Int)) ∧
 dk_1.length ≤ 16 ∧
 ∀ (dk' : List Int) (r : Int),
 dk'.length ≤ 16 →
 (0 : Int) ≤ r →
 r < many →
 ((-(2 : Int) ^ (60 : Nat) ≤ (0 : Int) ∧ (0 : Int) ≤ (2 : Int) ^ (60 : Nat)) ∧ -(2 : Int) ^ (60 : Nat) ≤ r ∧ r ≤ (2 : Int) ^ (60 : Nat)) ∧
 ∃ (g : Int → Option Int),
 ((irange (0 : Int) r).length ≤ 16777216 ∧
 ∀ (y : Int),
 y ∈ irange (0 : Int) r →
 ∃ i,
 g y = some i ∧
 AV.int (y + (1 : Int)) = AV.int i ∧
 Same ⟨lay dk' cells gs ge p b z tk ck rows rest, [], [], [], 8⟩
 ⟨lay dk' cells gs ge p b z tk ck rows rest, [en "own" (.int y)], [], [], 8⟩) ∧
 2 = 2 ∧
 ∃ dk cells_1 gs_1 ge_1 p_1 b_1 z_1 tk_1 ck_1 mk T B k cs ib,
 [AV.ref 3, AV.int p, AV.lst (List.filterMap g (irange (0 : Int) r)), AV.bool false, AV.bool true] = [AV.ref 3, AV.int k, AV.lst cs, AV.bool false, AV.bool ib] ∧
 lay dk' cells gs ge p b z tk ck rows rest = lay dk cells_1 gs_1 ge_1 p_1 b_1 z_1 tk_1 ck_1 mk.rows mk.rest ∧
 Gp cells_1 gs_1 ge_1 T B ∧
 B ≤ 60000 ∧
 cs.length ≤ 1000 ∧
 ((1 : Int) ≤ b_1 ∧ b_1 ≤ p_1 ∧ p_1 ≤ z_1 ∧ z_1 ≤ (↑T.length : Int) + (1 : Int)) ∧
 k ≤ k ∧
 hget ((2 : Nat) + (1 : Nat) + (1 : Nat) + (1 : Nat) + (1 : Nat) + (1 : Nat) + (1 : Nat)) (lay dk' cells gs ge p b z tk ck rows rest) = none ∧
 (k < b_1 ∨ k > z_1 →
 X aoor
 { hp := lay dk' cells gs ge p b z tk ck rows rest, loc := [en "script" (.scr xs), en "deck" (.ref 2), en "signs" (.lst (List.filterMap g (irange (0 : Int) r)))], cel := [(Str.ofString "buffer", some (AV.ref 3))], fre := [], nxt := 9 }) ∧
 (b_1 ≤ k →
 k ≤ z_1 →
 ∀ (v : AV) (cells : List Int) (gs ge p tk ck : Int),
 (v = AV.none ∨ ∃ ys, v = AV.lst ys) →
 Gp cells gs ge (List.take (k - (1 : Int)).toNat T ++ cs ++ List.drop (k - (1 : Int)).toNat T) (B + cs.length + (8 : Nat)) →
 b_1 ≤ p →
 p ≤ z_1 - (k - k) + (↑cs.length : Int) →
 (List.filterMap g (irange (0 : Int) r)).length ≤ 1099511627776 ∧
 ∃ dk_2 cells_2 gs_2 ge_2 p_2 b z tk_2 ck_2 rows rest many,
 [AV.ref 2, AV.int ((↑(List.filterMap g (irange (0 : Int) r)).length : Int) + (1 : Int))] = [AV.ref 2, AV.int many] ∧
 lay dk cells gs ge p b_1 (z_1 - (k - k) + (↑cs.length : Int)) tk ck (Mk.ed k k (↑cs.length : Int) mk).rows (Mk.ed k k (↑cs.length : Int) mk).rest =
 lay dk_2 cells_2 gs_2 ge_2 p_2 b z tk_2 ck_2 rows rest ∧
 ((1 : Int) ≤ many ∧ many ≤ (1000 : Int)) ∧
 dk_2.length ≤ 16 ∧
 ∀ (dk' : List Int) (r_1 : Int),
 dk'.length ≤ 16 →
 (0 : Int) ≤ r_1 →
 r_1 < many →
 N
 { hp := lay dk' cells_2 gs_2 ge_2 p_2 b z tk_2 ck_2 rows rest, loc := [en "script" (.scr xs), en "deck" (.ref 2), en "signs" (.lst (List.filterMap g (irange (0 : Int) r))), en "last" (.int 0), en "first" (.int 0), en "row" (.lst (List.filterMap g (irange (0 : Int) r))), en "start" (.int ((1 : Int) + r_1))], cel := [(Str.ofString "buffer", some (AV.ref 3))], fre := [], nxt := 8 })) := by kernel_rfl
theorem va2 (dk cells : List Int) (gs ge p b z tk ck : Int) (rows : List (Int × AV)) (rest : List (Nat × AO)) (nx : Nat) (S : List Int) (start : Int) (N : St → Prop) (Rt : AV → St → Prop) (X : XP) : (seg 14 cxL (((bodyOf (F 49)).drop 5).take 1) ⟨lay dk cells gs ge p b z tk ck rows rest, l5 S start, cL, [], nx⟩ N Rt X) = (
∃ dk_1 cells_1 gs_1 ge_1 p_1 b_1 z_1 tk_1 ck_1 rows_1 rest_1 many,
 [AV.ref 2, AV.int 3] = [AV.ref 2, AV.int many] ∧
 lay dk cells gs ge p b z tk ck rows rest = lay dk_1 cells_1 gs_1 ge_1 p_1 b_1 z_1 tk_1 ck_1 rows_1 rest_1 ∧
 ((1 : Int) ≤ many ∧ many ≤ (1000 : Int)) ∧
 dk_1.length ≤ 16 ∧
 ∀ (dk' : List Int) (r : Int),
 dk'.length ≤ 16 →
 (0 : Int) ≤ r →
 r < many →
 br (decide (r > (0 : Int)))
 (S.length ≤ 1099511627776 ∧
 ∃ dk cells gs ge p b z tk ck rows rest many,
 [AV.ref 2, AV.int ((↑S.length : Int) - start + (2 : Int))] = [AV.ref 2, AV.int many] ∧
 lay dk' cells_1 gs_1 ge_1 p_1 b_1 z_1 tk_1 ck_1 rows_1 rest_1 = lay dk cells gs ge p b z tk ck rows rest ∧
 ((1 : Int) ≤ many ∧ many ≤ (1000 : Int)) ∧
 dk.length ≤ 16 ∧
 ∀ (dk' : List Int) (r : Int),
 dk'.length ≤ 16 →
 (0 : Int) ≤ r →
 r < many →
 ∃ dk cells_2 gs_2 ge_2 p_2 b_2 z_2 tk_2 ck_2 rows_2 rest_2 T B s e,
 [AV.ref 3, AV.int (start + r), AV.int start] = [AV.ref 3, AV.int s, AV.int e] ∧
 lay dk' cells gs ge p b z tk ck rows rest = lay dk cells_2 gs_2 ge_2 p_2 b_2 z_2 tk_2 ck_2 rows_2 rest_2 ∧
 Gp cells_2 gs_2 ge_2 T B ∧
 B ≤ 60000 ∧
 hget nx (lay dk' cells gs ge p b z tk ck rows rest) = none ∧
 (imin s e < (1 : Int) ∨ imax s e > (↑T.length : Int) + (1 : Int) →
 X aoor
 { hp := lay dk' cells gs ge p b z tk ck rows rest, loc := [en "deck" (.ref 2), en "signs" (.lst S), en "row" (.lst S), en "first" (.int 0), en "last" (.int 0), en "start" (.int start), en "end" (.int (start + r))], cel := [(Str.ofString "buffer", some (AV.ref 3))], fre := [], nxt := nx + (1 : Nat) }) ∧
 ((1 : Int) ≤ imin s e →
 imax s e ≤ (↑T.length : Int) + (1 : Int) →
 ∃ row m k il,
 [AV.lst S, AV.int (-1 : Int), AV.int start, AV.bool false] = [AV.lst row, AV.int m, AV.int k, AV.bool il] ∧
 ((1 : Int) ≤ k ∧ k ≤ (↑(sg row).length : Int) + (1 : Int)) ∧
 row.length ≤ 10000 ∧
 ∃ row_1 m_1 k_1 il_1,
 [AV.lst (wthR row m (k - (1 : Int)).toNat il), AV.int (-4 : Int), AV.int (start + r), AV.bool true] = [AV.lst row_1, AV.int m_1, AV.int k_1, AV.bool il_1] ∧
 ((1 : Int) ≤ k_1 ∧ k_1 ≤ (↑(sg row_1).length : Int) + (1 : Int)) ∧
 row_1.length ≤ 10000 ∧
 1 = 1 ∧
 1 = 1 ∧
 S.length ≤ 1099511627776 ∧
 br (imin s e == (1 : Int) && imax s e == (↑S.length : Int) + (1 : Int))
 (N
 ⟨lay dk cells_2 gs_2 ge_2 (imin (imax p_2 (imin s e)) (imax s e)) (imin s e) (imax s e) tk_2 ck_2 rows_2 rest_2, [en "deck" (.ref 2), en "signs" (.lst S), en "row" (.lst S), en "first" (.int 0), en "last" (.int 0), en "start" (.int start), en "end" (.int (start + r))], [(Str.ofString "buffer", some (AV.ref 3))], [], nx⟩)
 (N
 { hp := lay dk cells_2 gs_2 ge_2 (imin (imax p_2 (imin s e)) (imax s e)) (imin s e) (imax s e) tk_2 ck_2 rows_2 rest_2, loc := [en "deck" (.ref 2), en "signs" (.lst S), en "row" (.lst (wthR row_1 m_1 (k_1 - (1 : Int)).toNat il_1)), en "first" (.int (-1 : Int)), en "last" (.int (-4 : Int)), en "start" (.int start), en "end" (.int (start + r))], cel := [(Str.ofString "buffer", some (AV.ref 3))], fre := [], nxt := nx })))
 (N
 ⟨lay dk' cells_1 gs_1 ge_1 p_1 b_1 z_1 tk_1 ck_1 rows_1 rest_1, [en "deck" (.ref 2), en "signs" (.lst S), en "row" (.lst S), en "first" (.int 0), en "last" (.int 0), en "start" (.int start)], [(Str.ofString "buffer", some (AV.ref 3))], [], nx⟩)) := by kernel_rfl
theorem vb0 (dk cells : List Int) (gs ge p b z tk ck : Int) (rows : List (Int × AV)) (rest : List (Nat × AO)) (nx : Nat) (S row : List Int) (f l : Int) (N : St → Prop) (Rt : AV → St → Prop) (X : XP) : (seg 14 cxL (((bodyOf (F 49)).drop 6).take 1) ⟨lay dk cells gs ge p b z tk ck rows rest, l6 S row f l, cL, [], nx⟩ N Rt X) = (
∃ dk_1 cells_1 gs_1 ge_1 p_1 b_1 z_1 tk_1 ck_1 rows_1 rest_1 many,
 [AV.ref 2, AV.int 10] = [AV.ref 2, AV.int many] ∧
 lay dk cells gs ge p b z tk ck rows rest = lay dk_1 cells_1 gs_1 ge_1 p_1 b_1 z_1 tk_1 ck_1 rows_1 rest_1 ∧
 ((1 : Int) ≤ many ∧ many ≤ (1000 : Int)) ∧
 dk_1.length ≤ 16 ∧
 ∀ (dk' : List Int) (r : Int),
 dk'.length ≤ 16 →
 (0 : Int) ≤ r →
 r < many →
 2 = 2 ∧
 N
 ⟨lay dk' cells_1 gs_1 ge_1 (imin (imax r b_1) z_1) b_1 z_1 tk_1 ck_1 rows_1 rest_1, [en "deck" (.ref 2), en "signs" (.lst S), en "row" (.lst row), en "first" (.int f), en "last" (.int l)], [(Str.ofString "buffer", some (AV.ref 3))], [], nx⟩) := by kernel_rfl
theorem vb1 (dk cells : List Int) (gs ge p b z tk ck : Int) (S row : List Int) (f l : Int) (N : St → Prop) (Rt : AV → St → Prop) (X : XP) : (seg 14 cxL (((bodyOf (F 49)).drop 7).take 1) ⟨lay dk cells gs ge p b z tk ck [] [], l6 S row f l, cL, [], 8⟩ N Rt X) = (
3 = 3 ∧
 1 = 1 ∧
 br (stopsAt BoolOp.Or (b != (1 : Int)))
 (br (!b != (1 : Int))
 (4 = 4 ∧
 AV.none = AV.none ∧
 2 = 2 ∧
 3 = 3 ∧
 AV.none = AV.none ∧
 3 = 3 ∧
 1 = 1 ∧
 ∃ dk_1 cells_1 gs_1 ge_1 p_1 b_1 z_1 tk_1 ck_1 rows rest T B,
 [AV.ref 4] = [AV.ref 4] ∧
 lay dk cells gs ge p b z tk ck []
 [(8, AO.inst 239 [en "buffer" (.ref 3), en "first" .none, en "last" .none]), (9, AO.inst 114 [en "number" (.int 3), en "advances" (.bool false), en "buffer" (.ref 3), en "position" (.int 0)])] =
 lay dk_1 cells_1 gs_1 ge_1 p_1 b_1 z_1 tk_1 ck_1 rows rest ∧
 Gp cells_1 gs_1 ge_1 T B ∧
 B ≤ 65536 ∧
 3 = 3 ∧
 0 ≤ 1000 ∧
 3 = 3 ∧
 AV.none = AV.none ∧
 N
 { hp := lay dk cells gs ge p b z tk ck [(3, AV.ref 9)] [(8, AO.inst 239 [en "buffer" (.ref 3), en "first" .none, en "last" .none]), (9, AO.inst 114 [en "number" (.int 3), en "advances" (.bool false), en "buffer" (.ref 3), en "position" (.int (imin (imax p (1 : Int)) ((↑T.length : Int) + (1 : Int))))]), (10, AO.inst 275 [en "buffer" (.ref 3), en "marker" (.ref 9)])], loc := [en "deck" (.ref 2), en "signs" (.lst S), en "row" (.lst row), en "first" (.int f), en "last" (.int l), en "place" (.ref 10), en "kept" (.ref 8)], cel := [(Str.ofString "buffer", some (AV.ref 3))], fre := [], nxt := 11 })
 (3 = 3 ∧
 AV.none = AV.none ∧
 3 = 3 ∧
 AV.none = AV.none ∧
 3 = 3 ∧
 1 = 1 ∧
 ∃ dk_1 cells_1 gs_1 ge_1 p_1 b_1 z_1 tk_1 ck_1 rows rest T B,
 [AV.ref 4] = [AV.ref 4] ∧
 lay dk cells gs ge p b z tk ck []
 [(8, AO.inst 114 [en "number" (.int 1), en "advances" (.bool false), en "buffer" (.ref 3), en "position" (.int 0)]), (9, AO.inst 114 [en "number" (.int 2), en "advances" (.bool true), en "buffer" .none, en "position" (.int 0)])] =
 lay dk_1 cells_1 gs_1 ge_1 p_1 b_1 z_1 tk_1 ck_1 rows rest ∧
 Gp cells_1 gs_1 ge_1 T B ∧
 B ≤ 65536 ∧
 3 = 3 ∧
 0 ≤ 1000 ∧
 3 = 3 ∧
 1 = 1 ∧
 ∃ dk_2 cells_2 gs_2 ge_2 p_2 b_2 z_2 tk_2 ck_2 rows rest T_1 B,
 [AV.ref 4] = [AV.ref 4] ∧
 lay dk cells gs ge p b z tk ck [(1, AV.ref 8)]
 [(8, AO.inst 114 [en "number" (.int 1), en "advances" (.bool false), en "buffer" (.ref 3), en "position" (.int (imin (imax b (1 : Int)) ((↑T.length : Int) + (1 : Int))))]), (9, AO.inst 114 [en "number" (.int 2), en "advances" (.bool true), en "buffer" (.ref 3), en "position" (.int 0)])] =
 lay dk_2 cells_2 gs_2 ge_2 p_2 b_2 z_2 tk_2 ck_2 rows rest ∧
 Gp cells_2 gs_2 ge_2 T_1 B ∧
 B ≤ 65536 ∧
 3 = 3 ∧
 1 ≤ 1000 ∧
 4 = 4 ∧
 AV.none = AV.none ∧
 2 = 2 ∧
 3 = 3 ∧
 AV.none = AV.none ∧
 3 = 3 ∧
 1 = 1 ∧
 ∃ dk_3 cells_3 gs_3 ge_3 p_3 b_3 z_3 tk_3 ck_3 rows rest T_2 B,
 [AV.ref 4] = [AV.ref 4] ∧
 lay dk cells gs ge p b z tk ck [(1, AV.ref 8), (2, AV.ref 9)]
 [(8, AO.inst 114 [en "number" (.int 1), en "advances" (.bool false), en "buffer" (.ref 3), en "position" (.int (imin (imax b (1 : Int)) ((↑T.length : Int) + (1 : Int))))]), (9, AO.inst 114 [en "number" (.int 2), en "advances" (.bool true), en "buffer" (.ref 3), en "position" (.int (imin (imax z (1 : Int)) ((↑T_1.length : Int) + (1 : Int))))]), (10, AO.inst 239 [en "buffer" (.ref 3), en "first" (.ref 8), en "last" (.ref 9)]), (11, AO.inst 114 [en "number" (.int 3), en "advances" (.bool false), en "buffer" (.ref 3), en "position" (.int 0)])] =
 lay dk_3 cells_3 gs_3 ge_3 p_3 b_3 z_3 tk_3 ck_3 rows rest ∧
 Gp cells_3 gs_3 ge_3 T_2 B ∧
 B ≤ 65536 ∧
 3 = 3 ∧
 2 ≤ 1000 ∧
 3 = 3 ∧
 AV.none = AV.none ∧
 N
 { hp := lay dk cells gs ge p b z tk ck [(1, AV.ref 8), (2, AV.ref 9), (3, AV.ref 11)] [(8, AO.inst 114 [en "number" (.int 1), en "advances" (.bool false), en "buffer" (.ref 3), en "position" (.int (imin (imax b (1 : Int)) ((↑T.length : Int) + (1 : Int))))]), (9, AO.inst 114 [en "number" (.int 2), en "advances" (.bool true), en "buffer" (.ref 3), en "position" (.int (imin (imax z (1 : Int)) ((↑T_1.length : Int) + (1 : Int))))]), (10, AO.inst 239 [en "buffer" (.ref 3), en "first" (.ref 8), en "last" (.ref 9)]), (11, AO.inst 114 [en "number" (.int 3), en "advances" (.bool false), en "buffer" (.ref 3), en "position" (.int (imin (imax p (1 : Int)) ((↑T_2.length : Int) + (1 : Int))))]), (12, AO.inst 275 [en "buffer" (.ref 3), en "marker" (.ref 11)])], loc := [en "deck" (.ref 2), en "signs" (.lst S), en "row" (.lst row), en "first" (.int f), en "last" (.int l), en "place" (.ref 12), en "kept" (.ref 10)], cel := [(Str.ofString "buffer", some (AV.ref 3))], fre := [], nxt := 13 }))
 (1 = 1 ∧
 ∃ dk_1 cells_1 gs_1 ge_1 p_1 b_1 z_1 tk_1 ck_1 rows rest T B,
 [AV.ref 4] = [AV.ref 4] ∧
 lay dk cells gs ge p b z tk ck [] [] = lay dk_1 cells_1 gs_1 ge_1 p_1 b_1 z_1 tk_1 ck_1 rows rest ∧
 Gp cells_1 gs_1 ge_1 T B ∧
 B ≤ 65536 ∧
 br (!z != (↑T.length : Int) + (1 : Int))
 (4 = 4 ∧
 AV.none = AV.none ∧
 2 = 2 ∧
 3 = 3 ∧
 AV.none = AV.none ∧
 3 = 3 ∧
 1 = 1 ∧
 ∃ dk_2 cells_2 gs_2 ge_2 p_2 b_2 z_2 tk_2 ck_2 rows rest T B,
 [AV.ref 4] = [AV.ref 4] ∧
 lay dk cells gs ge p b z tk ck []
 [(8, AO.inst 239 [en "buffer" (.ref 3), en "first" .none, en "last" .none]), (9, AO.inst 114 [en "number" (.int 3), en "advances" (.bool false), en "buffer" (.ref 3), en "position" (.int 0)])] =
 lay dk_2 cells_2 gs_2 ge_2 p_2 b_2 z_2 tk_2 ck_2 rows rest ∧
 Gp cells_2 gs_2 ge_2 T B ∧
 B ≤ 65536 ∧
 3 = 3 ∧
 0 ≤ 1000 ∧
 3 = 3 ∧
 AV.none = AV.none ∧
 N
 { hp := lay dk cells gs ge p b z tk ck [(3, AV.ref 9)] [(8, AO.inst 239 [en "buffer" (.ref 3), en "first" .none, en "last" .none]), (9, AO.inst 114 [en "number" (.int 3), en "advances" (.bool false), en "buffer" (.ref 3), en "position" (.int (imin (imax p (1 : Int)) ((↑T.length : Int) + (1 : Int))))]), (10, AO.inst 275 [en "buffer" (.ref 3), en "marker" (.ref 9)])], loc := [en "deck" (.ref 2), en "signs" (.lst S), en "row" (.lst row), en "first" (.int f), en "last" (.int l), en "place" (.ref 10), en "kept" (.ref 8)], cel := [(Str.ofString "buffer", some (AV.ref 3))], fre := [], nxt := 11 })
 (3 = 3 ∧
 AV.none = AV.none ∧
 3 = 3 ∧
 AV.none = AV.none ∧
 3 = 3 ∧
 1 = 1 ∧
 ∃ dk_2 cells_2 gs_2 ge_2 p_2 b_2 z_2 tk_2 ck_2 rows rest T B,
 [AV.ref 4] = [AV.ref 4] ∧
 lay dk cells gs ge p b z tk ck []
 [(8, AO.inst 114 [en "number" (.int 1), en "advances" (.bool false), en "buffer" (.ref 3), en "position" (.int 0)]), (9, AO.inst 114 [en "number" (.int 2), en "advances" (.bool true), en "buffer" .none, en "position" (.int 0)])] =
 lay dk_2 cells_2 gs_2 ge_2 p_2 b_2 z_2 tk_2 ck_2 rows rest ∧
 Gp cells_2 gs_2 ge_2 T B ∧
 B ≤ 65536 ∧
 3 = 3 ∧
 0 ≤ 1000 ∧
 3 = 3 ∧
 1 = 1 ∧
 ∃ dk_3 cells_3 gs_3 ge_3 p_3 b_3 z_3 tk_3 ck_3 rows rest T_1 B,
 [AV.ref 4] = [AV.ref 4] ∧
 lay dk cells gs ge p b z tk ck [(1, AV.ref 8)]
 [(8, AO.inst 114 [en "number" (.int 1), en "advances" (.bool false), en "buffer" (.ref 3), en "position" (.int (imin (imax b (1 : Int)) ((↑T.length : Int) + (1 : Int))))]), (9, AO.inst 114 [en "number" (.int 2), en "advances" (.bool true), en "buffer" (.ref 3), en "position" (.int 0)])] =
 lay dk_3 cells_3 gs_3 ge_3 p_3 b_3 z_3 tk_3 ck_3 rows rest ∧
 Gp cells_3 gs_3 ge_3 T_1 B ∧
 B ≤ 65536 ∧
 3 = 3 ∧
 1 ≤ 1000 ∧
 4 = 4 ∧
 AV.none = AV.none ∧
 2 = 2 ∧
 3 = 3 ∧
 AV.none = AV.none ∧
 3 = 3 ∧
 1 = 1 ∧
 ∃ dk_4 cells_4 gs_4 ge_4 p_4 b_4 z_4 tk_4 ck_4 rows rest T_2 B,
 [AV.ref 4] = [AV.ref 4] ∧
 lay dk cells gs ge p b z tk ck [(1, AV.ref 8), (2, AV.ref 9)]
 [(8, AO.inst 114 [en "number" (.int 1), en "advances" (.bool false), en "buffer" (.ref 3), en "position" (.int (imin (imax b (1 : Int)) ((↑T.length : Int) + (1 : Int))))]), (9, AO.inst 114 [en "number" (.int 2), en "advances" (.bool true), en "buffer" (.ref 3), en "position" (.int (imin (imax z (1 : Int)) ((↑T_1.length : Int) + (1 : Int))))]), (10, AO.inst 239 [en "buffer" (.ref 3), en "first" (.ref 8), en "last" (.ref 9)]), (11, AO.inst 114 [en "number" (.int 3), en "advances" (.bool false), en "buffer" (.ref 3), en "position" (.int 0)])] =
 lay dk_4 cells_4 gs_4 ge_4 p_4 b_4 z_4 tk_4 ck_4 rows rest ∧
 Gp cells_4 gs_4 ge_4 T_2 B ∧
 B ≤ 65536 ∧
 3 = 3 ∧
 2 ≤ 1000 ∧
 3 = 3 ∧
 AV.none = AV.none ∧
 N
 { hp := lay dk cells gs ge p b z tk ck [(1, AV.ref 8), (2, AV.ref 9), (3, AV.ref 11)] [(8, AO.inst 114 [en "number" (.int 1), en "advances" (.bool false), en "buffer" (.ref 3), en "position" (.int (imin (imax b (1 : Int)) ((↑T.length : Int) + (1 : Int))))]), (9, AO.inst 114 [en "number" (.int 2), en "advances" (.bool true), en "buffer" (.ref 3), en "position" (.int (imin (imax z (1 : Int)) ((↑T_1.length : Int) + (1 : Int))))]), (10, AO.inst 239 [en "buffer" (.ref 3), en "first" (.ref 8), en "last" (.ref 9)]), (11, AO.inst 114 [en "number" (.int 3), en "advances" (.bool false), en "buffer" (.ref 3), en "position" (.int (imin (imax p (1 : Int)) ((↑T_2.length : Int) + (1 : Int))))]), (12, AO.inst 275 [en "buffer" (.ref 3), en "marker" (.ref 11)])], loc := [en "deck" (.ref 2), en "signs" (.lst S), en "row" (.lst row), en "first" (.int f), en "last" (.int l), en "place" (.ref 12), en "kept" (.ref 10)], cel := [(Str.ofString "buffer", some (AV.ref 3))], fre := [], nxt := 13 }))) := by kernel_rfl
theorem vb2 (dk cells : List Int) (gs ge p b z tk ck : Int) (rows : List (Int × AV)) (rest : List (Nat × AO)) (nx : Nat) (S row : List Int) (f l : Int) (kp pl : Nat) (N : St → Prop) (Rt : AV → St → Prop) (X : XP) : (seg 14 cxL (((bodyOf (F 49)).drop 8).take 2) ⟨lay dk cells gs ge p b z tk ck rows rest, l9 S row f l kp pl, cL, [], nx⟩ N Rt X) = (
∃ row_1 m k il,
 [AV.lst row, AV.int (-9 : Int), AV.int p, AV.bool false] = [AV.lst row_1, AV.int m, AV.int k, AV.bool il] ∧
 ((1 : Int) ≤ k ∧ k ≤ (↑(sg row_1).length : Int) + (1 : Int)) ∧
 row_1.length ≤ 10000 ∧
 ∃ dk_1 cells_1 gs_1 ge_1 p_1 b_1 z_1 tk_1 ck_1 rows_1 rest_1 T B row lo hi,
 [AV.ref 3, AV.lst (wthR row_1 m (k - (1 : Int)).toNat il), AV.int f, AV.int l] = [AV.ref 3, AV.lst row, AV.int lo, AV.int hi] ∧
 lay dk cells gs ge p b z tk ck rows rest = lay dk_1 cells_1 gs_1 ge_1 p_1 b_1 z_1 tk_1 ck_1 rows_1 rest_1 ∧
 Gp cells_1 gs_1 ge_1 T B ∧
 B ≤ 60000 ∧
 row.length ≤ 5000 ∧
 T = sg row ∧
 b_1 = bgn row lo ∧
 z_1 = fin row hi ∧
 ((1 : Int) ≤ b_1 ∧ b_1 ≤ p_1 ∧ p_1 ≤ z_1 ∧ z_1 ≤ (↑T.length : Int) + (1 : Int)) ∧
 (lo ≠ (0 : Int) → lo ∈ row) ∧
 (hi ≠ (0 : Int) → hi ∈ row) ∧
 N
 { hp := lay dk cells gs ge p b z tk ck rows rest, loc := [en "deck" (.ref 2), en "signs" (.lst S), en "row" (.lst (wthR row_1 m (k - (1 : Int)).toNat il)), en "first" (.int f), en "last" (.int l), en "kept" (.ref kp), en "place" (.ref pl)], cel := [(Str.ofString "buffer", some (AV.ref 3))], fre := [], nxt := nx }) := by kernel_rfl
theorem vc1 (dk cells : List Int) (gs ge p b z tk ck : Int) (rows : List (Int × AV)) (rest : List (Nat × AO)) (nx : Nat) (S row : List Int) (f l : Int) (kp pl : Nat) (N : St → Prop) (Rt : AV → St → Prop) (X : XP) : (seg 14 cxL (((bodyOf (F 49)).drop 10).take 3) ⟨lay dk cells gs ge p b z tk ck rows rest, l9 S row f l kp pl, cL, [], nx⟩ N Rt X) = (
1 = 1 ∧
 1 = 1 ∧
 ∃ dk_1 cells_1 gs_1 ge_1 p_1 b_1 z_1 tk_1 ck_1 rows_1 rest_1 T B,
 [AV.ref 4] = [AV.ref 4] ∧
 lay dk cells gs ge p b z tk ck rows rest = lay dk_1 cells_1 gs_1 ge_1 p_1 b_1 z_1 tk_1 ck_1 rows_1 rest_1 ∧
 Gp cells_1 gs_1 ge_1 T B ∧
 B ≤ 65536 ∧
 ∃ dk_2 cells_2 gs_2 ge_2 p_2 b z tk_2 ck_2 rows_2 rest_2 many,
 [AV.ref 2, AV.int 4] = [AV.ref 2, AV.int many] ∧
 lay dk cells gs ge p (1 : Int) ((↑T.length : Int) + (1 : Int)) tk ck rows rest = lay dk_2 cells_2 gs_2 ge_2 p_2 b z tk_2 ck_2 rows_2 rest_2 ∧
 ((1 : Int) ≤ many ∧ many ≤ (1000 : Int)) ∧
 dk_2.length ≤ 16 ∧
 ∀ (dk' : List Int) (r : Int),
 dk'.length ≤ 16 →
 (0 : Int) ≤ r →
 r < many →
 br (decide (r > (0 : Int)))
 (S.length ≤ 1099511627776 ∧
 ∃ dk cells gs ge p b_2 z_2 tk ck rows rest many,
 [AV.ref 2, AV.int ((↑S.length : Int) + (1 : Int))] = [AV.ref 2, AV.int many] ∧
 lay dk' cells_2 gs_2 ge_2 p_2 b z tk_2 ck_2 rows_2 rest_2 = lay dk cells gs ge p b_2 z_2 tk ck rows rest ∧
 ((1 : Int) ≤ many ∧ many ≤ (1000 : Int)) ∧
 dk.length ≤ 16 ∧
 ∀ (dk' : List Int) (r : Int),
 dk'.length ≤ 16 →
 (0 : Int) ≤ r →
 r < many →
 S.length ≤ 1099511627776 ∧
 ∃ dk cells_3 gs_3 ge_3 p_3 b z tk_3 ck_3 rows_3 rest_3 many,
 [AV.ref 2, AV.int ((↑S.length : Int) - ((1 : Int) + r) + (2 : Int))] = [AV.ref 2, AV.int many] ∧
 lay dk' cells gs ge p b_2 z_2 tk ck rows rest = lay dk cells_3 gs_3 ge_3 p_3 b z tk_3 ck_3 rows_3 rest_3 ∧
 ((1 : Int) ≤ many ∧ many ≤ (1000 : Int)) ∧
 dk.length ≤ 16 ∧
 ∀ (dk' : List Int) (r_1 : Int),
 dk'.length ≤ 16 →
 (0 : Int) ≤ r_1 →
 r_1 < many →
 ∃ dk cells gs ge p b_3 z_3 tk ck rows rest T B s e,
 [AV.ref 3, AV.int ((1 : Int) + r), AV.int ((1 : Int) + r + r_1)] = [AV.ref 3, AV.int s, AV.int e] ∧
 lay dk' cells_3 gs_3 ge_3 p_3 b z tk_3 ck_3 rows_3 rest_3 = lay dk cells gs ge p b_3 z_3 tk ck rows rest ∧
 Gp cells gs ge T B ∧
 B ≤ 60000 ∧
 hget nx (lay dk' cells_3 gs_3 ge_3 p_3 b z tk_3 ck_3 rows_3 rest_3) = none ∧
 (imin s e < (1 : Int) ∨ imax s e > (↑T.length : Int) + (1 : Int) →
 X aoor
 { hp := lay dk' cells_3 gs_3 ge_3 p_3 b z tk_3 ck_3 rows_3 rest_3, loc := [en "deck" (.ref 2), en "signs" (.lst S), en "row" (.lst row), en "first" (.int f), en "last" (.int l), en "kept" (.ref kp), en "place" (.ref pl), en "low" (.int 0), en "high" (.int 0), en "start" (.int ((1 : Int) + r)), en "end" (.int ((1 : Int) + r + r_1))], cel := [(Str.ofString "buffer", some (AV.ref 3))], fre := [], nxt := nx + (1 : Nat) }) ∧
 ((1 : Int) ≤ imin s e →
 imax s e ≤ (↑T.length : Int) + (1 : Int) →
 ∃ row_1 m k il,
 [AV.lst row, AV.int (-2 : Int), AV.int ((1 : Int) + r), AV.bool false] = [AV.lst row_1, AV.int m, AV.int k, AV.bool il] ∧
 ((1 : Int) ≤ k ∧ k ≤ (↑(sg row_1).length : Int) + (1 : Int)) ∧
 row_1.length ≤ 10000 ∧
 ∃ row m_1 k_1 il_1,
 [AV.lst (wthR row_1 m (k - (1 : Int)).toNat il), AV.int (-3 : Int), AV.int ((1 : Int) + r + r_1), AV.bool true] = [AV.lst row, AV.int m_1, AV.int k_1, AV.bool il_1] ∧
 ((1 : Int) ≤ k_1 ∧ k_1 ≤ (↑(sg row).length : Int) + (1 : Int)) ∧
 row.length ≤ 10000 ∧
 N
 { hp := lay dk cells gs ge (imin (imax p (imin s e)) (imax s e)) (imin s e) (imax s e) tk ck rows rest, loc := [en "deck" (.ref 2), en "signs" (.lst S), en "row" (.lst (wthR row m_1 (k_1 - (1 : Int)).toNat il_1)), en "first" (.int f), en "last" (.int l), en "kept" (.ref kp), en "place" (.ref pl), en "low" (.int (-2 : Int)), en "high" (.int (-3 : Int)), en "start" (.int ((1 : Int) + r)), en "end" (.int ((1 : Int) + r + r_1))], cel := [(Str.ofString "buffer", some (AV.ref 3))], fre := [], nxt := nx }))
 (N
 ⟨lay dk' cells_2 gs_2 ge_2 p_2 b z tk_2 ck_2 rows_2 rest_2, [en "deck" (.ref 2), en "signs" (.lst S), en "row" (.lst row), en "first" (.int f), en "last" (.int l), en "kept" (.ref kp), en "place" (.ref pl), en "low" (.int 0), en "high" (.int 0)], [(Str.ofString "buffer", some (AV.ref 3))], [], nx⟩)) := by kernel_rfl
theorem vc2 (dk cells : List Int) (gs ge p b z tk ck : Int) (rows : List (Int × AV)) (rest : List (Nat × AO)) (nx : Nat) (S row : List Int) (f l : Int) (kp pl : Nat) (lo hi : Int) (N : St → Prop) (Rt : AV → St → Prop) (X : XP) : (seg 14 cxL (((bodyOf (F 49)).drop 13).take 1) ⟨lay dk cells gs ge p b z tk ck rows rest, l13 S row f l kp pl lo hi, cL, [], nx⟩ N Rt X) = (
(646 = 646 ∧ qL = qL) ∧
 ∃ dk_1 cells_1 gs_1 ge_1 p_1 b_1 z_1 tk_1 ck_1 rows_1 rest_1 T B s e,
 [AV.ref 3, AV.int 0, AV.int 1] = [AV.ref 3, AV.int s, AV.int e] ∧
 lay dk cells gs ge p b z tk ck rows rest = lay dk_1 cells_1 gs_1 ge_1 p_1 b_1 z_1 tk_1 ck_1 rows_1 rest_1 ∧
 Gp cells_1 gs_1 ge_1 T B ∧
 B ≤ 60000 ∧
 hget nx (lay dk cells gs ge p b z tk ck rows rest) = none ∧
 (imin s e < (1 : Int) ∨ imax s e > (↑T.length : Int) + (1 : Int) →
 N
 { hp := lay dk cells gs ge p b z tk ck rows rest, loc := [en "deck" (.ref 2), en "signs" (.lst S), en "row" (.lst row), en "first" (.int f), en "last" (.int l), en "kept" (.ref kp), en "place" (.ref pl), en "low" (.int lo), en "high" (.int hi)], cel := [(Str.ofString "buffer", some (AV.ref 3))], fre := [], nxt := nx + (1 : Nat) }) ∧
 ((1 : Int) ≤ imin s e →
 imax s e ≤ (↑T.length : Int) + (1 : Int) →
 Rt (AV.bool false)
 ⟨lay dk_1 cells_1 gs_1 ge_1 (imin (imax p_1 (imin s e)) (imax s e)) (imin s e) (imax s e) tk_1 ck_1 rows_1 rest_1, [en "deck" (.ref 2), en "signs" (.lst S), en "row" (.lst row), en "first" (.int f), en "last" (.int l), en "kept" (.ref kp), en "place" (.ref pl), en "low" (.int lo), en "high" (.int hi)], [(Str.ofString "buffer", some (AV.ref 3))], [], nx⟩)) := by kernel_rfl
theorem vd0 (dk cells : List Int) (gs ge p b z tk ck : Int) (mk : Mk) (nx : Nat) (S row : List Int) (f l : Int) (kp pl : Nat) (lo hi k : Int) (N : St → Prop) (Rt : AV → St → Prop) : (turn (vAt 12) cxL (loopAt (F 49) 14) k ⟨lay dk cells gs ge p b z tk ck mk.rows mk.rest, l13 S row f l kp pl lo hi, cL, [], nx⟩ N Rt) = (
∃ dk_1 cells_1 gs_1 ge_1 p_1 b_1 z_1 tk_1 ck_1 mk_1 T B row_1 lo_1 hi_1 lap,
 [AV.ref 2, AV.ref 3, AV.lst row, AV.int lo, AV.int hi, AV.int k] = [AV.ref 2, AV.ref 3, AV.lst row_1, AV.int lo_1, AV.int hi_1, AV.int lap] ∧
 lay dk cells gs ge p b z tk ck mk.rows mk.rest = lay dk_1 cells_1 gs_1 ge_1 p_1 b_1 z_1 tk_1 ck_1 mk_1.rows mk_1.rest ∧
 Gp cells_1 gs_1 ge_1 T B ∧
 B ≤ 50000 ∧
 row_1.length ≤ 900 ∧
 ((0 : Int) ≤ lap ∧ lap ≤ (100 : Int)) ∧
 dk_1.length ≤ 16 ∧
 mk_1.top ≤ nx ∧
 Agr row_1 lo_1 hi_1 mk_1 T p_1 b_1 z_1 ∧
 ∀ (dk' cells' : List Int) (gs' ge' p' b' z' tk' ck' : Int) (mk' : Mk) (T' row' : List Int) (nx' : Nat),
 dk'.length ≤ 16 →
 Gp cells' gs' ge' T' (B + (20 : Nat)) →
 Agr row' lo_1 hi_1 mk' T' p' b' z' →
 row'.length ≤ row_1.length + (2 : Nat) →
 mk'.top ≤ nx' →
 mk'.sh = mk_1.sh →
 ∃ dk cells gs ge p b z tk ck rows rest T B row lo_2 hi_2,
 [AV.ref 3, AV.lst row', AV.int lo, AV.int hi] = [AV.ref 3, AV.lst row, AV.int lo_2, AV.int hi_2] ∧
 lay dk' cells' gs' ge' p' b' z' tk' ck' mk'.rows mk'.rest = lay dk cells gs ge p b z tk ck rows rest ∧
 Gp cells gs ge T B ∧
 B ≤ 60000 ∧
 row.length ≤ 5000 ∧
 T = sg row ∧
 b = bgn row lo_2 ∧
 z = fin row hi_2 ∧
 ((1 : Int) ≤ b ∧ b ≤ p ∧ p ≤ z ∧ z ≤ (↑T.length : Int) + (1 : Int)) ∧
 (lo_2 ≠ (0 : Int) → lo_2 ∈ row) ∧
 (hi_2 ≠ (0 : Int) → hi_2 ∈ row) ∧
 N
 ⟨lay dk' cells' gs' ge' p' b' z' tk' ck' mk'.rows mk'.rest, [en "deck" (.ref 2), en "signs" (.lst S), en "row" (.lst row'), en "first" (.int f), en "last" (.int l), en "kept" (.ref kp), en "place" (.ref pl), en "low" (.int lo), en "high" (.int hi), en "lap" (.int k)], [(Str.ofString "buffer", some (AV.ref 3))], [], nx'⟩) := by kernel_rfl
theorem vd1 (dk cells : List Int) (gs ge p b z tk ck : Int) (mk : Mk) (nx : Nat) (S row : List Int) (f l : Int) (kp pl : Nat) (lo hi k j : Int) (N : St → Prop) (Rt : AV → St → Prop) : (turn (vAt 12) cxL (loopAt (F 49) 14) k ⟨lay dk cells gs ge p b z tk ck mk.rows mk.rest, l13 S row f l kp pl lo hi ++ [en "lap" (.int j)], cL, [], nx⟩ N Rt) = (
∃ dk_1 cells_1 gs_1 ge_1 p_1 b_1 z_1 tk_1 ck_1 mk_1 T B row_1 lo_1 hi_1 lap,
 [AV.ref 2, AV.ref 3, AV.lst row, AV.int lo, AV.int hi, AV.int k] = [AV.ref 2, AV.ref 3, AV.lst row_1, AV.int lo_1, AV.int hi_1, AV.int lap] ∧
 lay dk cells gs ge p b z tk ck mk.rows mk.rest = lay dk_1 cells_1 gs_1 ge_1 p_1 b_1 z_1 tk_1 ck_1 mk_1.rows mk_1.rest ∧
 Gp cells_1 gs_1 ge_1 T B ∧
 B ≤ 50000 ∧
 row_1.length ≤ 900 ∧
 ((0 : Int) ≤ lap ∧ lap ≤ (100 : Int)) ∧
 dk_1.length ≤ 16 ∧
 mk_1.top ≤ nx ∧
 Agr row_1 lo_1 hi_1 mk_1 T p_1 b_1 z_1 ∧
 ∀ (dk' cells' : List Int) (gs' ge' p' b' z' tk' ck' : Int) (mk' : Mk) (T' row' : List Int) (nx' : Nat),
 dk'.length ≤ 16 →
 Gp cells' gs' ge' T' (B + (20 : Nat)) →
 Agr row' lo_1 hi_1 mk' T' p' b' z' →
 row'.length ≤ row_1.length + (2 : Nat) →
 mk'.top ≤ nx' →
 mk'.sh = mk_1.sh →
 ∃ dk cells gs ge p b z tk ck rows rest T B row lo_2 hi_2,
 [AV.ref 3, AV.lst row', AV.int lo, AV.int hi] = [AV.ref 3, AV.lst row, AV.int lo_2, AV.int hi_2] ∧
 lay dk' cells' gs' ge' p' b' z' tk' ck' mk'.rows mk'.rest = lay dk cells gs ge p b z tk ck rows rest ∧
 Gp cells gs ge T B ∧
 B ≤ 60000 ∧
 row.length ≤ 5000 ∧
 T = sg row ∧
 b = bgn row lo_2 ∧
 z = fin row hi_2 ∧
 ((1 : Int) ≤ b ∧ b ≤ p ∧ p ≤ z ∧ z ≤ (↑T.length : Int) + (1 : Int)) ∧
 (lo_2 ≠ (0 : Int) → lo_2 ∈ row) ∧
 (hi_2 ≠ (0 : Int) → hi_2 ∈ row) ∧
 N
 ⟨lay dk' cells' gs' ge' p' b' z' tk' ck' mk'.rows mk'.rest, [en "deck" (.ref 2), en "signs" (.lst S), en "row" (.lst row'), en "first" (.int f), en "last" (.int l), en "kept" (.ref kp), en "place" (.ref pl), en "low" (.int lo), en "high" (.int hi), en "lap" (.int k)], [(Str.ofString "buffer", some (AV.ref 3))], [], nx'⟩) := by kernel_rfl
theorem vz1 (dk cells : List Int) (gs ge p b z tk ck : Int) (c : Int) (nx : Nat) (S row : List Int) (f l : Int) (lo hi : Int) (N : St → Prop) (P : PRes) (X : XP) : (seg 14 cxL ((bodyOf (F 49)).drop 15) ⟨lay dk cells gs ge p b z tk ck (Mk.rows (.one c)) (Mk.rest (.one c)), l13 S row f l 8 10 lo hi, cL, [], nx⟩ N (fun v σ => P v σ.hp σ.nxt) X) = (
1 = 1 ∧
 1 = 1 ∧
 1 = 1 ∧
 ∃ dk_1 cells_1 gs_1 ge_1 p_1 b_1 z_1 tk_1 ck_1 rows rest T B,
 [AV.ref 4] = [AV.ref 4] ∧
 lay dk cells gs ge p b z tk ck [(3, AV.ref 9)]
 [(8, AO.inst 239 [en "buffer" (.ref 3), en "first" .none, en "last" .none]), (9, AO.inst 114 [en "number" (.int 3), en "advances" (.bool false), en "buffer" (.ref 3), en "position" (.int c)]), (10, AO.inst 275 [en "buffer" (.ref 3), en "marker" (.ref 9)])] =
 lay dk_1 cells_1 gs_1 ge_1 p_1 b_1 z_1 tk_1 ck_1 rows rest ∧
 Gp cells_1 gs_1 ge_1 T B ∧
 B ≤ 65536 ∧
 1 = 1 ∧
 2 = 2 ∧
 3 = 3 ∧
 2 = 2 ∧
 1 ≤ 1000 ∧
 ∃ dk_2 cells_2 gs_2 ge_2 p b z tk_2 ck_2 rows rest T_1 B row_1 lo hi,
 [AV.ref 3, AV.lst row, AV.int f, AV.int l] = [AV.ref 3, AV.lst row_1, AV.int lo, AV.int hi] ∧
 lay dk cells gs ge (imin (imax c (1 : Int)) ((↑T.length : Int) + (1 : Int))) (1 : Int) ((↑T.length : Int) + (1 : Int)) tk ck []
 [(8, AO.inst 239 [en "buffer" (.ref 3), en "first" .none, en "last" .none]), (9, AO.inst 114 [en "number" (.int 3), en "advances" (.bool false), en "buffer" .none, en "position" (.int 0)]), (10, AO.inst 275 [en "buffer" (.ref 3), en "marker" (.ref 9)])] =
 lay dk_2 cells_2 gs_2 ge_2 p b z tk_2 ck_2 rows rest ∧
 Gp cells_2 gs_2 ge_2 T_1 B ∧
 B ≤ 60000 ∧
 row_1.length ≤ 5000 ∧
 T_1 = sg row_1 ∧
 b = bgn row_1 lo ∧
 z = fin row_1 hi ∧
 ((1 : Int) ≤ b ∧ b ≤ p ∧ p ≤ z ∧ z ≤ (↑T_1.length : Int) + (1 : Int)) ∧
 (lo ≠ (0 : Int) → lo ∈ row_1) ∧
 (hi ≠ (0 : Int) → hi ∈ row_1) ∧
 ∃ row_2 m,
 [AV.lst row, AV.int (-9 : Int)] = [AV.lst row_2, AV.int m] ∧
 row_2.length ≤ 10000 ∧
 m ∈ row_2 ∧
 1 = 1 ∧
 1 = 1 ∧
 br (stopsAt BoolOp.And (imin (imax c (1 : Int)) ((↑T.length : Int) + (1 : Int)) == imin (imax (↑(plc row_2 m) : Int) (1 : Int)) ((↑T.length : Int) + (1 : Int))))
 (P (AV.bool (imin (imax c (1 : Int)) ((↑T.length : Int) + (1 : Int)) == imin (imax (↑(plc row_2 m) : Int) (1 : Int)) ((↑T.length : Int) + (1 : Int))))
 (lay dk cells gs ge (imin (imax c (1 : Int)) ((↑T.length : Int) + (1 : Int))) (1 : Int) ((↑T.length : Int) + (1 : Int)) tk ck []
 [(8, AO.inst 239 [en "buffer" (.ref 3), en "first" .none, en "last" .none]), (9, AO.inst 114 [en "number" (.int 3), en "advances" (.bool false), en "buffer" .none, en "position" (.int 0)]), (10, AO.inst 275 [en "buffer" (.ref 3), en "marker" (.ref 9)])])
 nx)
 (1 = 1 ∧
 0 < 64 ∧
 0 ≤ 1000 ∧
 P (AV.bool (decide (isort (List.map (fun x => x.fst) (rowsOut (3 : Int) (Mk.one c).rows)) = [])))
 (lay dk cells gs ge (imin (imax c (1 : Int)) ((↑T.length : Int) + (1 : Int))) (1 : Int) ((↑T.length : Int) + (1 : Int)) tk ck []
 [(8, AO.inst 239 [en "buffer" (.ref 3), en "first" .none, en "last" .none]), (9, AO.inst 114 [en "number" (.int 3), en "advances" (.bool false), en "buffer" .none, en "position" (.int 0)]), (10, AO.inst 275 [en "buffer" (.ref 3), en "marker" (.ref 9)])])
 nx)) := by kernel_rfl
theorem vz3 (dk cells : List Int) (gs ge p b z tk ck : Int) (a1 a2 a3 : Int) (nx : Nat) (S row : List Int) (f l : Int) (lo hi : Int) (N : St → Prop) (Rt : AV → St → Prop) (X : XP) : (seg 14 cxL (((bodyOf (F 49)).drop 15).take 1) ⟨lay dk cells gs ge p b z tk ck (Mk.rows (.tri a1 a2 a3)) (Mk.rest (.tri a1 a2 a3)), l13 S row f l 10 12 lo hi, cL, [], nx⟩ N Rt X) = (
1 = 1 ∧
 3 = 3 ∧
 br (decide (imin a1 a2 < (1 : Int)))
 (Value.ref (38 : Addr) = Value.ref (38 : Addr) ∧
 2 ≤ 1000 ∧
 2 ≤ 100 ∧
 ∃ n sym d hp0,
 [AV.ref nx, AV.str (Str.ofString "args-out-of-range"), AV.lst [a1, a2]] = [AV.ref n, AV.str sym, AV.lst d] ∧
 lay dk cells gs ge p b z tk ck [(1, AV.ref 8), (2, AV.ref 9), (3, AV.ref 11)]
 [(8, AO.inst 114 [en "number" (.int 1), en "advances" (.bool false), en "buffer" (.ref 3), en "position" (.int a1)]), (9, AO.inst 114 [en "number" (.int 2), en "advances" (.bool true), en "buffer" (.ref 3), en "position" (.int a2)]), (10, AO.inst 239 [en "buffer" (.ref 3), en "first" (.ref 8), en "last" (.ref 9)]), (11, AO.inst 114 [en "number" (.int 3), en "advances" (.bool false), en "buffer" (.ref 3), en "position" (.int a3)]), (12, AO.inst 275 [en "buffer" (.ref 3), en "marker" (.ref 11)]), (nx, AO.exc [])] =
 hp0 ++ [(n, AO.exc [])] ∧
 hget n hp0 = none ∧
 AV.none = AV.none ∧
 ∃ n_1 attrs hp sym_1,
 AV.ref nx = AV.ref n_1 ∧
 hp0 ++ [(n, AO.exc [en "symbol" (AV.str sym), en "data" (AV.lst d)])] = hp ++ [(n_1, AO.exc attrs)] ∧
 attrs ≠ [] ∧
 lget (Str.ofString "symbol") attrs = some (AV.str sym_1) ∧
 X sym_1
 { hp := hp, loc := [en "deck" (.ref 2), en "signs" (.lst S), en "row" (.lst row), en "first" (.int f), en "last" (.int l), en "kept" (.ref 10), en "place" (.ref 12), en "low" (.int lo), en "high" (.int hi)], cel := [(Str.ofString "buffer", some (AV.ref 3))], fre := [], nxt := nx + (1 : Nat) })
 (1 = 1 ∧
 ∃ dk_1 cells_1 gs_1 ge_1 p_1 b_1 z_1 tk_1 ck_1 rows rest T B,
 [AV.ref 4] = [AV.ref 4] ∧
 lay dk cells gs ge p b z tk ck [(1, AV.ref 8), (2, AV.ref 9), (3, AV.ref 11)]
 [(8, AO.inst 114 [en "number" (.int 1), en "advances" (.bool false), en "buffer" (.ref 3), en "position" (.int a1)]), (9, AO.inst 114 [en "number" (.int 2), en "advances" (.bool true), en "buffer" (.ref 3), en "position" (.int a2)]), (10, AO.inst 239 [en "buffer" (.ref 3), en "first" (.ref 8), en "last" (.ref 9)]), (11, AO.inst 114 [en "number" (.int 3), en "advances" (.bool false), en "buffer" (.ref 3), en "position" (.int a3)]), (12, AO.inst 275 [en "buffer" (.ref 3), en "marker" (.ref 11)])] =
 lay dk_1 cells_1 gs_1 ge_1 p_1 b_1 z_1 tk_1 ck_1 rows rest ∧
 Gp cells_1 gs_1 ge_1 T B ∧
 B ≤ 65536 ∧
 br (decide (imax a1 a2 > (↑T.length : Int) + (1 : Int)))
 (Value.ref (38 : Addr) = Value.ref (38 : Addr) ∧
 2 ≤ 1000 ∧
 2 ≤ 100 ∧
 ∃ n sym d hp0,
 [AV.ref nx, AV.str (Str.ofString "args-out-of-range"), AV.lst [a1, a2]] = [AV.ref n, AV.str sym, AV.lst d] ∧
 lay dk cells gs ge p b z tk ck [(1, AV.ref 8), (2, AV.ref 9), (3, AV.ref 11)]
 [(8, AO.inst 114 [en "number" (.int 1), en "advances" (.bool false), en "buffer" (.ref 3), en "position" (.int a1)]), (9, AO.inst 114 [en "number" (.int 2), en "advances" (.bool true), en "buffer" (.ref 3), en "position" (.int a2)]), (10, AO.inst 239 [en "buffer" (.ref 3), en "first" (.ref 8), en "last" (.ref 9)]), (11, AO.inst 114 [en "number" (.int 3), en "advances" (.bool false), en "buffer" (.ref 3), en "position" (.int a3)]), (12, AO.inst 275 [en "buffer" (.ref 3), en "marker" (.ref 11)]), (nx, AO.exc [])] =
 hp0 ++ [(n, AO.exc [])] ∧
 hget n hp0 = none ∧
 AV.none = AV.none ∧
 ∃ n_1 attrs hp sym_1,
 AV.ref nx = AV.ref n_1 ∧
 hp0 ++ [(n, AO.exc [en "symbol" (AV.str sym), en "data" (AV.lst d)])] = hp ++ [(n_1, AO.exc attrs)] ∧
 attrs ≠ [] ∧
 lget (Str.ofString "symbol") attrs = some (AV.str sym_1) ∧
 X sym_1
 { hp := hp, loc := [en "deck" (.ref 2), en "signs" (.lst S), en "row" (.lst row), en "first" (.int f), en "last" (.int l), en "kept" (.ref 10), en "place" (.ref 12), en "low" (.int lo), en "high" (.int hi)], cel := [(Str.ofString "buffer", some (AV.ref 3))], fre := [], nxt := nx + (1 : Nat) })
 (2 = 2 ∧
 3 = 3 ∧
 2 = 2 ∧
 3 ≤ 1000 ∧
 3 = 3 ∧
 2 = 2 ∧
 2 ≤ 1000 ∧
 N
 ⟨lay dk cells gs ge (imin (imax p (imin a1 a2)) (imax a1 a2)) (imin a1 a2) (imax a1 a2) tk ck [(3, AV.ref 11)] [(8, AO.inst 114 [en "number" (.int 1), en "advances" (.bool false), en "buffer" .none, en "position" (.int 0)]), (9, AO.inst 114 [en "number" (.int 2), en "advances" (.bool true), en "buffer" .none, en "position" (.int 0)]), (10, AO.inst 239 [en "buffer" (.ref 3), en "first" (.ref 8), en "last" (.ref 9)]), (11, AO.inst 114 [en "number" (.int 3), en "advances" (.bool false), en "buffer" (.ref 3), en "position" (.int a3)]), (12, AO.inst 275 [en "buffer" (.ref 3), en "marker" (.ref 11)])], [en "deck" (.ref 2), en "signs" (.lst S), en "row" (.lst row), en "first" (.int f), en "last" (.int l), en "kept" (.ref 10), en "place" (.ref 12), en "low" (.int lo), en "high" (.int hi)], [(Str.ofString "buffer", some (AV.ref 3))], [], nx⟩))) := by kernel_rfl
theorem vz4 (dk cells : List Int) (gs ge p b z tk ck : Int) (c : Int) (nx : Nat) (S row : List Int) (f l : Int) (lo hi : Int) (N : St → Prop) (P : PRes) (X : XP) : (seg 14 cxL ((bodyOf (F 49)).drop 16) ⟨lay dk cells gs ge p b z tk ck [(3, .ref 11)] (uRest c), l13 S row f l 10 12 lo hi, cL, [], nx⟩ N (fun v σ => P v σ.hp σ.nxt) X) = (
1 = 1 ∧
 2 = 2 ∧
 3 = 3 ∧
 2 = 2 ∧
 1 ≤ 1000 ∧
 ∃ dk_1 cells_1 gs_1 ge_1 p b_1 z_1 tk_1 ck_1 rows rest T B row_1 lo hi,
 [AV.ref 3, AV.lst row, AV.int f, AV.int l] = [AV.ref 3, AV.lst row_1, AV.int lo, AV.int hi] ∧
 lay dk cells gs ge (imin (imax c b) z) b z tk ck []
 [(8, AO.inst 114 [en "number" (.int 1), en "advances" (.bool false), en "buffer" .none, en "position" (.int 0)]), (9, AO.inst 114 [en "number" (.int 2), en "advances" (.bool true), en "buffer" .none, en "position" (.int 0)]), (10, AO.inst 239 [en "buffer" (.ref 3), en "first" (.ref 8), en "last" (.ref 9)]), (11, AO.inst 114 [en "number" (.int 3), en "advances" (.bool false), en "buffer" .none, en "position" (.int 0)]), (12, AO.inst 275 [en "buffer" (.ref 3), en "marker" (.ref 11)])] =
 lay dk_1 cells_1 gs_1 ge_1 p b_1 z_1 tk_1 ck_1 rows rest ∧
 Gp cells_1 gs_1 ge_1 T B ∧
 B ≤ 60000 ∧
 row_1.length ≤ 5000 ∧
 T = sg row_1 ∧
 b_1 = bgn row_1 lo ∧
 z_1 = fin row_1 hi ∧
 ((1 : Int) ≤ b_1 ∧ b_1 ≤ p ∧ p ≤ z_1 ∧ z_1 ≤ (↑T.length : Int) + (1 : Int)) ∧
 (lo ≠ (0 : Int) → lo ∈ row_1) ∧
 (hi ≠ (0 : Int) → hi ∈ row_1) ∧
 ∃ row_2 m,
 [AV.lst row, AV.int (-9 : Int)] = [AV.lst row_2, AV.int m] ∧
 row_2.length ≤ 10000 ∧
 m ∈ row_2 ∧
 1 = 1 ∧
 1 = 1 ∧
 br (stopsAt BoolOp.And (imin (imax c b) z == imin (imax (↑(plc row_2 m) : Int) b) z))
 (P (AV.bool (imin (imax c b) z == imin (imax (↑(plc row_2 m) : Int) b) z))
 (lay dk cells gs ge (imin (imax c b) z) b z tk ck []
 [(8, AO.inst 114 [en "number" (.int 1), en "advances" (.bool false), en "buffer" .none, en "position" (.int 0)]), (9, AO.inst 114 [en "number" (.int 2), en "advances" (.bool true), en "buffer" .none, en "position" (.int 0)]), (10, AO.inst 239 [en "buffer" (.ref 3), en "first" (.ref 8), en "last" (.ref 9)]), (11, AO.inst 114 [en "number" (.int 3), en "advances" (.bool false), en "buffer" .none, en "position" (.int 0)]), (12, AO.inst 275 [en "buffer" (.ref 3), en "marker" (.ref 11)])])
 nx)
 (1 = 1 ∧
 0 < 64 ∧
 0 ≤ 1000 ∧
 P (AV.bool (decide (isort (List.map (fun x => x.fst) (rowsOut (3 : Int) [((3 : Int), AV.ref (11 : Nat))])) = [])))
 (lay dk cells gs ge (imin (imax c b) z) b z tk ck []
 [(8, AO.inst 114 [en "number" (.int 1), en "advances" (.bool false), en "buffer" .none, en "position" (.int 0)]), (9, AO.inst 114 [en "number" (.int 2), en "advances" (.bool true), en "buffer" .none, en "position" (.int 0)]), (10, AO.inst 239 [en "buffer" (.ref 3), en "first" (.ref 8), en "last" (.ref 9)]), (11, AO.inst 114 [en "number" (.int 3), en "advances" (.bool false), en "buffer" .none, en "position" (.int 0)]), (12, AO.inst 275 [en "buffer" (.ref 3), en "marker" (.ref 11)])])
 nx)) := by kernel_rfl
theorem sp_for (σ : St) (N : St → Prop) (Rt : AV → St → Prop) (X : XP) (dk cells : List Int) (gs ge p b z tk ck : Int) (mk : Mk) (nx : Nat) (S row : List Int) (f l : Int) (kp pl : Nat) (lo hi : Int) (h : σ = ⟨lay dk cells gs ge p b z tk ck mk.rows mk.rest, l13 S row f l kp pl lo hi, cL, [], nx⟩) :
    seg 14 cxL (((bodyOf (F 49)).drop 14).take 1) σ N Rt X = itP (.rng 0 4) fun xs => vFor (vAt 12) cxL (forT (loopAt (F 49) 14)) (forB (loopAt (F 49) 14)) N Rt xs σ := by
  subst h; kernel_rfl
noncomputable def subL : List (Str × AV) → List (Str × AV) → Prop
  | [], _ => True
  | (x, v) :: r, l => lget x l = some v ∧ subL r l
theorem subL_get {x : Str} {v : AV} {l : List (Str × AV)} : ∀ {l' : List (Str × AV)}, subL l' l → lget x l' = some v → lget x l = some v
  | [], _, h => by cases h
  | (y, u) :: r, h, hx => by
    unfold lget at hx
    split at hx
    · rename_i q; cases hx; obtain rfl : y = x := by simpa using q
      exact h.1
    · exact subL_get h.2 hx
section
variable {W : Wd} {c : FC}
theorem TriS.forget {t : Sem Flow} {N : St → Prop} {Rt : AV → St → Prop} {X : XP} {hp : List (Nat × AO)} {l l' : List (Str × AV)} {cel : List (Str × Option AV)} {fre : List (Str × AV)} {nx : Nat} (hs : subL l' l) (h : TriS W c ⟨hp, l', cel, fre, nx⟩ t N Rt X) : TriS W c ⟨hp, l, cel, fre, nx⟩ t N Rt X :=
  fun s ρ m cm ce frz R => h s ρ m cm ce frz ⟨R.F, R.N, R.nd, R.ou, R.ex, R.cv, R.H, fun x v hx => R.V x v (subL_get hs hx), R.C, R.Fv, R.rn, R.gens, R.os⟩
theorem seg_tri {m : Nat} {cx : Cx} (F : Fit W cx c) {l₂ : List Stmt} {N : St → Prop} {Rt : AV → St → Prop} {X : XP} : ∀ (l₁ : List Stmt) (σ : St), seg m cx l₁ σ (fun σ₁ => TriS W c σ₁ (execs l₂ c.env) N Rt X) Rt X → TriS W c σ (execs (l₁ ++ l₂) c.env) N Rt X
  | [], σ, h => h
  | st :: r, σ, h => tri_cons ((vAt_ok W m).S cx c F st σ _ Rt X h) fun σ₁ z => seg_tri F r σ₁ z
theorem seg_all {m : Nat} {cx : Cx} (F : Fit W cx c) {l : List Stmt} {σ : St} {N : St → Prop} {Rt : AV → St → Prop} {X : XP} (h : seg m cx l σ N Rt X) : TriS W c σ (execs l c.env) N Rt X :=
  vBl_ok (fun st σ N h => (vAt_ok W m).S cx c F st σ N Rt X h) l σ N h
end
noncomputable abbrev lb : List Stmt := bodyOf (F 49)
section
variable {W : Wd} {c : FC} {N : St → Prop} {P : PRes} {X : XP}
noncomputable abbrev TL (W : Wd) (c : FC) (N : St → Prop) (P : PRes) (X : XP) (l : List Stmt) (σ : St) : Prop := TriS W c σ (execs l c.env) N (fun v σ => P v σ.hp σ.nxt) X
theorem tl_step (Fi : Fit W cxL c) (k j : Nat) {σ : St} (h : seg 14 cxL ((lb.drop k).take j) σ (fun σ₁ => TL W c N P X (lb.drop (k + j)) σ₁) (fun v σ => P v σ.hp σ.nxt) X) : TL W c N P X (lb.drop k) σ := by
  have := seg_tri Fi _ _ h
  rwa [← List.drop_drop, List.take_append_drop] at this
theorem clamp_in {x a b : Int} (h : a ≤ b) : a ≤ imin (imax x a) b ∧ imin (imax x a) b ≤ b := by
  unfold imin imax
  constructor <;> (repeat' split) <;> lia -abstractProof
theorem clamp_id {x a b : Int} (h1 : a ≤ x) (h2 : x ≤ b) : imin (imax x a) b = x := by
  unfold imin imax
  (repeat' split) <;> lia -abstractProof
theorem plc_le (row : List Int) (m : Int) : 1 ≤ (plc row m : Int) ∧ (plc row m : Int) ≤ ((sg row).length : Int) + 1 := by
  have := pre_le m row
  refine (plc_pre ..) ▸ ?_; lia -abstractProof
structure AtEnd (P : PRes) : Prop where
  at_ : ∀ dk cells gs ge p b z tk ck rows rest n, P (.bool true) (lay dk cells gs ge p b z tk ck rows rest) n
theorem law_E1 (Fi : Fit W cxL c) (hP : AtEnd P) {dk cells : List Int} {gs ge p b z tk ck : Int} {a : Int} {nx : Nat} {S row T : List Int} {lo hi : Int} {B : Nat} (G : Gp cells gs ge T B) (hB : B ≤ 50000) (hr : row.length ≤ 900) (I : Agr row lo hi (.one a) T p b z) :
    TL W c N P X (lb.drop 15) ⟨lay dk cells gs ge p b z tk ck (Mk.rows (.one a)) (Mk.rest (.one a)), l13 S row 0 0 8 10 lo hi, cL, [], nx⟩ := by
  obtain ⟨i1, i2⟩ := I.ms
  have hT := I.hT
  have hl := sg_len row
  have hTl : T.length = (sg row).length := by exact hT.symm ▸ rfl
  have cl := clamp_in (x := a) (a := 1) (b := (T.length : Int) + 1) (by lia -abstractProof)
  refine seg_all Fi ((vz1 ..).mpr ⟨rfl, rfl, rfl, ex13i _ _ _ _ _ _ _ _ _ _ _ T B ⟨rfl, rfl, G, bg hB rfl, rfl, rfl, rfl, rfl, by decide, (ex15i _ _ _ _ _ _ _ _ _ _ _ T B row 0 ⟨0, rfl, rfl, G, bg hB rfl, bg hr rfl, hT, rfl, by unfold fin; exact if_pos rfl ▸ hTl.symm ▸ rfl, ⟨Int.le_refl _, cl.1, cl.2, Int.le_refl _⟩, fun h => absurd rfl h, fun h => absurd rfl h, row, -9, rfl, bg hr rfl, i1, rfl, rfl, ?_⟩)⟩⟩)
  refine br_of (fun w => ?_) fun _ => ⟨rfl, by decide, by decide, hP.at_ ..⟩
  rw [← i2] at w
  simp [stopsAt] at w
theorem law_E3 (Fi : Fit W cxL c) (hP : AtEnd P) {dk cells : List Int} {gs ge p b z tk ck : Int} {a1 a2 a3 : Int} {nx : Nat} {S row T : List Int} {lo hi : Int} {B : Nat} (G : Gp cells gs ge T B) (hB : B ≤ 50000) (hr : row.length ≤ 900) (I : Agr row lo hi (.tri a1 a2 a3) T p b z) :
    TL W c N P X (lb.drop 15) ⟨lay dk cells gs ge p b z tk ck (Mk.rows (.tri a1 a2 a3)) (Mk.rest (.tri a1 a2 a3)), l13 S row (-1) (-4) 10 12 lo hi, cL, [], nx⟩ := by
  refine an4 I.ms fun np0 np1 np2 i7 => ?_; obtain ⟨i1, i2⟩ := np0; obtain ⟨i3, i4⟩ := np1; obtain ⟨i5, i6⟩ := np2
  have hT := I.hT
  have hl := sg_len row
  have hTl : T.length = (sg row).length := by exact hT.symm ▸ rfl
  have q1 := plc_le row (-1)
  have q4 := plc_le row (-4)
  have cl := clamp_in (x := a3) (a := a1) (b := a2) i7
  refine tl_step Fi 15 1 ((vz3 ..).mpr ⟨rfl, rfl, ?_⟩)
  refine (imin_le i7).symm ▸ (imax_le i7).symm ▸ ?_
  refine br_dec (fun h => by lia -abstractProof) fun _ => ⟨rfl, ex13i _ _ _ _ _ _ _ _ _ _ _ T B ⟨rfl, rfl, G, bg hB rfl, br_dec (fun h => by lia -abstractProof) fun _ => ⟨rfl, rfl, rfl, by decide, rfl, rfl, by decide, ?_⟩⟩⟩
  refine seg_all Fi ((vz4 (c := a3) ..).mpr ⟨rfl, rfl, rfl, rfl, by decide, (ex16i _ _ _ _ _ _ _ _ _ _ _ T B row (-1) (-4) ⟨rfl, rfl, G, bg hB rfl, bg hr rfl, hT, by unfold bgn; rw [if_neg (by decide), i2], by unfold fin; rw [if_neg (by decide), i4], ⟨by lia -abstractProof, cl.1, cl.2, by lia -abstractProof⟩, fun _ => i1, fun _ => i3, row, -9, rfl, bg hr rfl, i5, rfl, rfl, ?_⟩)⟩)
  refine br_of (fun w => ?_) fun _ => ⟨rfl, by decide, by decide, hP.at_ ..⟩
  rw [← i6] at w
  simp [stopsAt] at w
structure Kd (mk : Mk) (f l : Int) (kp pl : Nat) : Prop where
  at_ : (∃ a, mk = .one a ∧ f = 0 ∧ l = 0 ∧ kp = 8 ∧ pl = 10) ∨ ∃ a b c, mk = .tri a b c ∧ f = -1 ∧ l = -4 ∧ kp = 10 ∧ pl = 12
theorem Kd.same {mk mk' : Mk} {f l : Int} {kp pl : Nat} (h : Kd mk f l kp pl) (e : mk'.sh = mk.sh) : Kd mk' f l kp pl := by
  rcases h.at_ with ⟨a, rfl, h'⟩ | ⟨a, b, c, rfl, h'⟩
  · cases mk' with
    | one a' => exact ⟨.inl ⟨a', rfl, h'⟩⟩
    | no => cases e
    | tri _ _ _ => cases e
  · cases mk' with
    | tri a' b' c' => exact ⟨.inr (ex3i a' b' c' ⟨rfl, h'⟩)⟩
    | no => cases e
    | one _ => cases e
theorem law_E (Fi : Fit W cxL c) (hP : AtEnd P) {dk cells : List Int} {gs ge p b z tk ck : Int} {mk : Mk} {nx : Nat} {S row T : List Int} {f l lo hi : Int} {kp pl : Nat} {B : Nat} (K : Kd mk f l kp pl) (G : Gp cells gs ge T B) (hB : B ≤ 50000) (hr : row.length ≤ 900) (I : Agr row lo hi mk T p b z) :
    TL W c N P X (lb.drop 15) ⟨lay dk cells gs ge p b z tk ck mk.rows mk.rest, l13 S row f l kp pl lo hi, cL, [], nx⟩ := by
  rcases K.at_ with ⟨a, rfl, rfl, rfl, rfl, rfl⟩ | ⟨a1, a2, a3, rfl, rfl, rfl, rfl, rfl⟩
  · exact law_E1 Fi hP G hB hr I
  · exact law_E3 Fi hP G hB hr I
theorem sub_lap (S row : List Int) (f l : Int) (kp pl : Nat) (lo hi j : Int) : subL (l13 S row f l kp pl lo hi) (l13 S row f l kp pl lo hi ++ [en "lap" (.int j)]) := by
  refine ⟨?_, ?_, ?_, ?_, ?_, ?_, ?_, ?_, ?_, trivial⟩ <;> kernel_rfl
theorem law_D (Fi : Fit W cxL c) (hP : AtEnd P) {dk cells : List Int} {gs ge p b z tk ck : Int} {mk : Mk} {nx : Nat} {S row T : List Int} {f l lo hi : Int} {kp pl : Nat} {B : Nat} (K : Kd mk f l kp pl) (G : Gp cells gs ge T B) (hB : B ≤ 1000) (hr : row.length ≤ 100) (hdk : dk.length ≤ 16) (hn : mk.top ≤ nx) (I : Agr row lo hi mk T p b z) :
    TL W c N P X (lb.drop 14) ⟨lay dk cells gs ge p b z tk ck mk.rows mk.rest, l13 S row f l kp pl lo hi, cL, [], nx⟩ := by
  refine tl_step Fi 14 1 ((sp_for _ _ _ _ dk cells gs ge p b z tk ck mk nx S row f l kp pl lo hi rfl).mpr ⟨⟨⟨by decide, by decide⟩, by decide, by decide⟩, ?_⟩)
  refine for_ind (fun xs σ => ∃ dk cells gs ge p b z tk ck mk nx row T B lap, σ = ⟨lay dk cells gs ge p b z tk ck (Mk.rows mk) (Mk.rest mk), l13 S row f l kp pl lo hi ++ (match lap with | none => [] | some j => [en "lap" (.int j)]), cL, [], nx⟩ ∧ Kd mk f l kp pl ∧ Gp cells gs ge T B ∧ B + 20 * xs.length ≤ 2000 ∧
    row.length + 2 * xs.length ≤ 200 ∧ dk.length ≤ 16 ∧ Mk.top mk ≤ nx ∧ Agr row lo hi mk T p b z ∧ ∀ k ∈ xs, 0 ≤ k ∧ k ≤ 100) ?_ ?_ _ _ (ex15i dk cells gs ge p b z tk ck mk nx row T B none ⟨rfl, K, G, by refine (irange_length ..) ▸ ?_; lia -abstractProof, by refine (irange_length ..) ▸ ?_; lia -abstractProof, hdk, hn, I, fun k hk => ?_⟩)
  · intro k r σ hr0 Q hQ
    refine ex15 hr0 fun dk cells gs ge p b z tk ck mk nx row T B lap hr0 => an9 hr0 fun hσ K G hB hr hdk hn I hk => ?_
    subst hσ; clear hr0
    rw [List.length_cons] at hB hr
    have hkk := hk k (.head _)
    have nextQ : ∀ (dk' cells' : List Int) (gs' ge' p' b' z' tk' ck' : Int) (mk' : Mk) (T' row' : List Int) (nx' : Nat), dk'.length ≤ 16 → Gp cells' gs' ge' T' (B + 20) → Agr row' lo hi mk' T' p' b' z' → row'.length ≤ row.length + 2 → mk'.top ≤ nx' → mk'.sh = mk.sh →
        ∃ dk cells gs ge p b z tk ck rows rest T B row lo_2 hi_2, [AV.ref 3, AV.lst row', AV.int lo, AV.int hi] = [AV.ref 3, AV.lst row, AV.int lo_2, AV.int hi_2] ∧ lay dk' cells' gs' ge' p' b' z' tk' ck' mk'.rows mk'.rest = lay dk cells gs ge p b z tk ck rows rest ∧ Gp cells gs ge T B ∧ B ≤ 60000 ∧ row.length ≤ 5000 ∧ T = sg row ∧ b = bgn row lo_2 ∧ z = fin row hi_2 ∧
          ((1 : Int) ≤ b ∧ b ≤ p ∧ p ≤ z ∧ z ≤ (T.length : Int) + 1) ∧ (lo_2 ≠ (0 : Int) → lo_2 ∈ row) ∧ (hi_2 ≠ (0 : Int) → hi_2 ∈ row) ∧ Q ⟨lay dk' cells' gs' ge' p' b' z' tk' ck' mk'.rows mk'.rest, l13 S row' f l kp pl lo hi ++ [en "lap" (.int k)], cL, [], nx'⟩ := by
      intro dk' cells' gs' ge' p' b' z' tk' ck' mk' T' row' nx' h1 h2 h3 h4 h5 h6
      exact (ex16i _ _ _ _ _ _ _ _ _ _ _ T' _ row' lo hi ⟨rfl, rfl, h2, by lia -abstractProof, by lia -abstractProof, h3.hT, h3.hb, h3.hz, h3.bd, h3.lo_in, h3.hi_in, hQ _ (ex15i dk' cells' gs' ge' p' b' z' tk' ck' mk' nx' row' T' _ (some k) ⟨rfl, K.same h6, h2, by lia -abstractProof, by lia -abstractProof, h1, h5, h3, fun j hj => hk j (.tail _ hj)⟩)⟩)
    cases lap with
    | none => exact (vd0 ..).mpr (ex16i _ _ _ _ _ _ _ _ _ mk T B row lo hi k ⟨rfl, rfl, G, by lia -abstractProof, by lia -abstractProof, hkk, hdk, hn, I, nextQ⟩)
    | some j => exact (vd1 ..).mpr (ex16i _ _ _ _ _ _ _ _ _ mk T B row lo hi k ⟨rfl, rfl, G, by lia -abstractProof, by lia -abstractProof, hkk, hdk, hn, I, nextQ⟩)
  · intro σ hr0
    refine ex15 hr0 fun dk cells gs ge p b z tk ck mk nx row T B lap hr0 => an9 hr0 fun hσ K G hB hr hdk hn I hk => ?_
    subst hσ; clear hr0
    have e := law_E (N := N) (X := X) (dk := dk) (tk := tk) (ck := ck) (nx := nx) (S := S) Fi hP K G (bg hB rfl) (by simp at hr; exact bg hr rfl) I
    cases lap with
    | none => exact e
    | some j => exact e.forget (sub_lap ..)
  · unfold irange at hk
    obtain ⟨i, hi, rfl⟩ := List.mem_map.mp hk
    have := List.mem_range.mp hi
    lia -abstractProof
theorem law_T (Fi : Fit W cxL c) (hP : AtEnd P) {dk cells : List Int} {gs ge p b z tk ck : Int} {mk : Mk} {nx : Nat} {S row T : List Int} {f l lo hi : Int} {kp pl : Nat} {B : Nat} (K : Kd mk f l kp pl) (G : Gp cells gs ge T B) (hB : B ≤ 1000) (hr : row.length ≤ 100) (hdk : dk.length ≤ 16) (hn : mk.top ≤ nx) (I : Agr row lo hi mk T p b z) :
    TL W c N P X (lb.drop 13) ⟨lay dk cells gs ge p b z tk ck mk.rows mk.rest, l13 S row f l kp pl lo hi, cL, [], nx⟩ := by
  refine tl_step Fi 13 1 ((vc2 ..).mpr ⟨⟨rfl, rfl⟩, ex15i _ _ _ _ _ _ _ _ _ _ _ T B _ _ ⟨rfl, rfl, G, bg hB rfl, fresh hn, fun _ => ?_, fun h => ?_⟩⟩)
  · exact law_D Fi hP K G hB hr hdk (Nat.le_succ_of_le hn) I
  · exact absurd h (by decide)
theorem sub_se (S row : List Int) (f l : Int) (kp pl : Nat) (lo hi s e : Int) : subL (l13 S row f l kp pl lo hi) (l13 S row f l kp pl lo hi ++ [en "start" (.int s), en "end" (.int e)]) := by
  refine ⟨?_, ?_, ?_, ?_, ?_, ?_, ?_, ?_, ?_, trivial⟩ <;> kernel_rfl
theorem Mks.with {row row' : List Int} {mk : Mk} {m : Int} {k : Nat} (h : mk.in row) (w : Wth row row' m k) (h1 : m ≠ -1) (h4 : m ≠ -4) (h9 : m ≠ -9) : mk.in row' := by
  cases mk with
  | no => trivial
  | one c =>
    obtain ⟨i1, i2⟩ := h
    obtain ⟨j1, j2⟩ := w.other (-9) (by decide) (fun e => h9 e.symm) i1
    exact ⟨j1, by refine j2 ▸ ?_; exact i2⟩
  | tri a b c =>
    refine an4 h fun np0 np1 np2 i7 => ?_; try clear h; obtain ⟨i1, i2⟩ := np0; obtain ⟨i3, i4⟩ := np1; obtain ⟨i5, i6⟩ := np2
    obtain ⟨j1, j2⟩ := w.other (-1) (by decide) (fun e => h1 e.symm) i1
    obtain ⟨j3, j4⟩ := w.other (-4) (by decide) (fun e => h4 e.symm) i3
    obtain ⟨j5, j6⟩ := w.other (-9) (by decide) (fun e => h9 e.symm) i5
    exact ⟨⟨j1, by refine j2 ▸ ?_; exact i2⟩, ⟨j3, by refine j4 ▸ ?_; exact i4⟩, ⟨j5, by refine j6 ▸ ?_; exact i6⟩, i7⟩
theorem law_C (Fi : Fit W cxL c) (hP : AtEnd P) {dk cells : List Int} {gs ge p b z tk ck : Int} {mk : Mk} {nx : Nat} {S row T : List Int} {f l : Int} {kp pl : Nat} {B : Nat} (K : Kd mk f l kp pl) (G : Gp cells gs ge T B) (hB : B ≤ 1000) (hr : row.length ≤ 90) (hdk : dk.length ≤ 16) (hn : mk.top ≤ nx)
    (hT : T = sg row) (hS : S.length = T.length) (bd : 1 ≤ b ∧ b ≤ p ∧ p ≤ z ∧ z ≤ (T.length : Int) + 1) (hm : mk.in row) (n2 : -2 ∉ row) (n3 : -3 ∉ row) :
    TL W c N P X (lb.drop 10) ⟨lay dk cells gs ge p b z tk ck mk.rows mk.rest, l9 S row f l kp pl, cL, [], nx⟩ := by
  have hl := sg_len row
  have hTl : T.length = (sg row).length := by exact hT.symm ▸ rfl
  refine tl_step Fi 10 3 ((vc1 ..).mpr ⟨rfl, rfl, ex13i _ _ _ _ _ _ _ _ _ _ _ T B ⟨rfl, rfl, G, bg hB rfl, (ex12i _ _ _ _ _ _ _ _ _ _ _ _ ⟨rfl, rfl, by lia -abstractProof, hdk, fun dk1 r h1 h2 h3 => br_dec (fun _ => ?_) fun _ => ?_⟩)⟩⟩)
  · refine ⟨by lia -abstractProof, ex12i _ _ _ _ _ _ _ _ _ _ _ _ ⟨rfl, rfl, by lia -abstractProof, h1, fun dk2 r2 h4 h5 h6 => ⟨by lia -abstractProof, ex12i _ _ _ _ _ _ _ _ _ _ _ _ ⟨rfl, rfl, by lia -abstractProof, h4, fun dk3 r3 h7 h8 h9 => ?_⟩⟩⟩⟩
    refine (ex15i _ _ _ _ _ _ _ _ _ _ _ T B _ _ ⟨rfl, rfl, G, bg hB rfl, fresh hn, fun h => ?_, fun _ _ => ?_⟩)
    · rw [imin_le (by lia -abstractProof), imax_le (by lia -abstractProof)] at h; lia -abstractProof
    · refine (imin_le (show 1 + r2 ≤ 1 + r2 + r3 by lia -abstractProof)).symm ▸ (imax_le (show 1 + r2 ≤ 1 + r2 + r3 by lia -abstractProof)).symm ▸ ?_
      have w1 := with_law (row := row) (m := -2) (k := (1 + r2 - 1).toNat) false (by decide) (by lia -abstractProof)
      have w2 := with_law (row := wthR row (-2) (1 + r2 - 1).toNat false) (m := -3) (k := (1 + r2 + r3 - 1).toNat) true (by decide) (by refine w1.sg' ▸ ?_; lia -abstractProof)
      refine ex4i row (-2) _ false ⟨rfl, by lia -abstractProof, by lia -abstractProof, (ex4i _ (-3) _ true ⟨rfl, by refine w1.sg' ▸ ?_; lia -abstractProof, by refine w1.len ▸ ?_; lia -abstractProof, ?_⟩)⟩
      have cl := clamp_in (x := p) (a := 1 + r2) (b := 1 + r2 + r3) (by lia -abstractProof)
      obtain ⟨o1, o2⟩ := w2.other (-2) (by decide) (by decide) w1.in_
      refine TriS.forget (sub_se ..) (law_T Fi hP K G hB (by refine w2.len ▸ w1.len ▸ ?_; lia -abstractProof) h7 hn ⟨by refine w2.sg' ▸ w1.sg' ▸ ?_; exact hT, ?_, ?_, ⟨by lia -abstractProof, cl.1, cl.2, by lia -abstractProof⟩, .inr ⟨rfl, rfl⟩, fun _ => o1, fun _ => w2.in_, ?_⟩)
      · unfold bgn; rw [if_neg (by decide), o2, w1.at_ n2]; lia -abstractProof
      · unfold fin
        rw [if_neg (by decide), w2.at_ (fun h => (w1.only _ h).elim (by decide) n3)]; lia -abstractProof
      · exact Mks.with (Mks.with hm w1 (by decide) (by decide) (by decide)) w2 (by decide) (by decide) (by decide)
  · exact law_T Fi hP K G hB (by lia -abstractProof) h1 hn ⟨hT, rfl, by unfold fin; exact if_pos rfl ▸ hTl.symm ▸ rfl, ⟨by lia -abstractProof, by lia -abstractProof, by lia -abstractProof, by lia -abstractProof⟩, .inl ⟨rfl, rfl⟩, fun h => absurd rfl h, fun h => absurd rfl h, hm⟩
theorem sub_kp (S row : List Int) (f l : Int) (kp pl : Nat) : subL (l9 S row f l kp pl) (l6 S row f l ++ [en "place" (.ref pl), en "kept" (.ref kp)]) := by
  refine ⟨?_, ?_, ?_, ?_, ?_, ?_, ?_, trivial⟩ <;> kernel_rfl
theorem law_B2 (Fi : Fit W cxL c) (hP : AtEnd P) {dk cells : List Int} {gs ge p b z tk ck : Int} {mk : Mk} {nx : Nat} {S row T : List Int} {f l : Int} {kp pl : Nat} {B : Nat} (K : Kd mk f l kp pl) (G : Gp cells gs ge T B) (hB : B ≤ 1000) (hr : row.length ≤ 80) (hdk : dk.length ≤ 16) (hn : mk.top ≤ nx)
    (hT : T = sg row) (hS : S.length = T.length) (bd : 1 ≤ b ∧ b ≤ p ∧ p ≤ z ∧ z ≤ (T.length : Int) + 1) (hb : b = bgn row f) (hz : z = fin row l) (hf : f ≠ 0 → f ∈ row) (hll : l ≠ 0 → l ∈ row) (n2 : -2 ∉ row) (n3 : -3 ∉ row) (n9 : -9 ∉ row)
    (hm : (∃ a, mk = .one a ∧ a = p) ∨ ∃ a b' c', mk = .tri a b' c' ∧ a = b ∧ b' = z ∧ c' = p) :
    TL W c N P X (lb.drop 8) ⟨lay dk cells gs ge p b z tk ck mk.rows mk.rest, l9 S row f l kp pl, cL, [], nx⟩ := by
  have hl := sg_len row
  have hTl : T.length = (sg row).length := by exact hT.symm ▸ rfl
  have w := with_law (row := row) (m := -9) (k := (p - 1).toNat) false (by decide) (by lia -abstractProof)
  have w9 := w.at_ n9
  have fl : (f = 0 ∧ l = 0) ∨ (f = -1 ∧ l = -4) := by
    rcases K.at_ with ⟨a, _, h1, h2, _⟩ | ⟨_, _, _, _, h1, h2, _⟩
    · exact .inl ⟨h1, h2⟩
    · exact .inr ⟨h1, h2⟩
  have of : ∀ j, j = f ∨ j = l → j ≠ 0 → j ∈ row → j ∈ wthR row (-9) (p - 1).toNat false ∧ plc (wthR row (-9) (p - 1).toNat false) j = plc row j := fun j hj h0 hr => w.other j (by lia -abstractProof) (by lia -abstractProof) hr
  have hb' : b = bgn (wthR row (-9) (p - 1).toNat false) f := by
    refine hb ▸ ?_; unfold bgn
    split
    · rfl
    · rename_i h; exact ((of f (.inl rfl) h (hf h)).2).symm ▸ rfl
  have hz' : z = fin (wthR row (-9) (p - 1).toNat false) l := by
    refine hz ▸ ?_; unfold fin
    split
    · exact w.sg'.symm ▸ rfl
    · rename_i h; exact ((of l (.inr rfl) h (hll h)).2).symm ▸ rfl
  refine tl_step Fi 8 2 ((vb2 ..).mpr (ex4i row (-9) p false ⟨rfl, by lia -abstractProof, bg hr rfl, ex16i _ _ _ _ _ _ _ _ _ _ _ T B _ f l ⟨rfl, rfl, G, bg hB rfl, by refine w.len ▸ ?_; lia -abstractProof, by refine w.sg' ▸ ?_; exact hT, hb', hz', bd, fun h => (of f (.inl rfl) h (hf h)).1, fun h => (of l (.inr rfl) h (hll h)).1, ?_⟩⟩))
  refine law_C Fi hP K G hB (by refine w.len ▸ ?_; lia -abstractProof) hdk hn (by refine w.sg' ▸ ?_; exact hT) hS bd ?_ (fun h => (w.only _ h).elim (by decide) n2) fun h => (w.only _ h).elim (by decide) n3
  have e9 : p = (plc (wthR row (-9) (p - 1).toNat false) (-9) : Int) := by refine w9 ▸ ?_; lia -abstractProof
  rcases hm with ⟨a, rfl, rfl⟩ | ⟨a, b', c', rfl, rfl, rfl, rfl⟩
  · exact ⟨w.in_, e9⟩
  · rcases K.at_ with ⟨_, e, _⟩ | ⟨_, _, _, _, rfl, rfl, _⟩
    · cases e
    · have b1 := hb'; have z1 := hz'
      unfold bgn at b1; unfold fin at z1
      rw [if_neg (by decide)] at b1 z1
      exact ⟨⟨(of (-1) (.inl rfl) (by decide) (hf (by decide))).1, b1⟩, ⟨(of (-4) (.inr rfl) (by decide) (hll (by decide))).1, z1⟩, ⟨w.in_, e9⟩, by lia -abstractProof⟩
theorem law_B (Fi : Fit W cxL c) (hP : AtEnd P) {dk cells : List Int} {gs ge p b z tk ck : Int} {S row T : List Int} {f l : Int} {B : Nat} (G : Gp cells gs ge T B) (hB : B ≤ 1000) (hr : row.length ≤ 80) (hdk : dk.length ≤ 16)
    (hT : T = sg row) (hS : S.length = T.length) (bd : 1 ≤ b ∧ b ≤ p ∧ p ≤ z ∧ z ≤ (T.length : Int) + 1) (hb : b = bgn row f) (hz : z = fin row l) (hf : f ≠ 0 → f ∈ row) (hll : l ≠ 0 → l ∈ row) (n2 : -2 ∉ row) (n3 : -3 ∉ row) (n9 : -9 ∉ row)
    (kd : (f = 0 ∧ l = 0 ∧ b = 1 ∧ z = (T.length : Int) + 1) ∨ (f = -1 ∧ l = -4 ∧ ¬ (b = 1 ∧ z = (T.length : Int) + 1))) :
    TL W c N P X (lb.drop 6) ⟨lay dk cells gs ge p b z tk ck [] [], l6 S row f l, cL, [], 8⟩ := by
  refine tl_step Fi 6 1 ((vb0 ..).mpr (ex12i _ _ _ _ _ _ _ _ _ _ _ _ ⟨rfl, rfl, by lia -abstractProof, hdk, fun dk1 r h1 h2 h3 => ⟨rfl, ?_⟩⟩))
  have cl := clamp_in (x := r) (a := b) (b := z) (by lia -abstractProof)
  generalize imin (imax r b) z = p at cl ⊢
  have e1 : ∀ x : Int, 1 ≤ x → x ≤ (T.length : Int) + 1 → imin (imax x 1) ((T.length : Int) + 1) = x := fun x a b => clamp_id a b
  have bd' : 1 ≤ b ∧ b ≤ p ∧ p ≤ z ∧ z ≤ (T.length : Int) + 1 := ⟨bd.1, cl.1, cl.2, bd.2.2.2⟩
  refine tl_step Fi 7 1 ((vb1 ..).mpr ⟨rfl, rfl, br_of (fun w => br_of (fun w' => ?_) fun _ => ?_) fun w => ⟨rfl, ex13i _ _ _ _ _ _ _ _ _ _ _ T B ⟨rfl, rfl, G, bg hB rfl, br_of (fun w' => ?_) fun w' => ?_⟩⟩⟩)
  · have w : (b != 1) = true := w
    rw [w] at w'; cases w'
  · have w : ¬ b = 1 := by simpa [stopsAt] using w
    have fl : f = -1 ∧ l = -4 := by rcases kd with h | h; exact absurd h.2.2.1 w; exact ⟨h.1, h.2.1⟩
    refine ⟨rfl, rfl, rfl, rfl, rfl, rfl, ex13i _ _ _ _ _ _ _ _ _ _ _ T B ⟨rfl, rfl, G, bg hB rfl, rfl, by decide, rfl, rfl, (ex13i _ _ _ _ _ _ _ _ _ _ _ T B ⟨rfl, rfl, G, bg hB rfl, rfl, by decide, rfl, rfl, rfl, rfl, rfl, rfl, rfl, _, _, _, _, _, _, _, _, _, _, _, T, B, rfl, rfl, G, bg hB rfl, rfl, by decide, rfl, rfl, ?_⟩)⟩⟩
    exact TriS.forget (sub_kp ..) (law_B2 Fi hP (mk := .tri _ _ _) ⟨.inr (ex3i _ _ _ ⟨rfl, fl.1, fl.2, rfl, rfl⟩)⟩ G hB hr h1 (Nat.le_refl 13) hT hS bd' hb hz hf hll n2 n3 n9 (.inr (ex3i _ _ _ ⟨rfl, e1 b (bd'.1) (by lia -abstractProof), e1 z (by lia -abstractProof) (bd'.2.2.2), e1 p (by lia -abstractProof) (by lia -abstractProof)⟩)))
  · have w : b = 1 := by simpa [stopsAt] using w
    have w' : z = (T.length : Int) + 1 := by simpa using w'
    have fl : f = 0 ∧ l = 0 := by rcases kd with h | h; exact ⟨h.1, h.2.1⟩; exact absurd ⟨w, w'⟩ h.2.2
    refine ⟨rfl, rfl, rfl, rfl, rfl, rfl, rfl, ex13i _ _ _ _ _ _ _ _ _ _ _ T B ⟨rfl, rfl, G, bg hB rfl, rfl, by decide, rfl, rfl, ?_⟩⟩
    exact TriS.forget (sub_kp ..) (law_B2 Fi hP (mk := .one _) ⟨.inl ⟨_, rfl, fl.1, fl.2, rfl, rfl⟩⟩ G hB hr h1 (Nat.le_refl 11) hT hS bd' hb hz hf hll n2 n3 n9 (.inl ⟨_, rfl, e1 p (by lia -abstractProof) (by lia -abstractProof)⟩))
  · have w : b = 1 := by simpa [stopsAt] using w
    have w' : ¬ z = (T.length : Int) + 1 := by simpa using w'
    have fl : f = -1 ∧ l = -4 := by rcases kd with h | h; exact absurd h.2.2.2 w'; exact ⟨h.1, h.2.1⟩
    refine ⟨rfl, rfl, rfl, rfl, rfl, rfl, ex13i _ _ _ _ _ _ _ _ _ _ _ T B ⟨rfl, rfl, G, by lia -abstractProof, rfl, by decide, rfl, rfl, (ex13i _ _ _ _ _ _ _ _ _ _ _ T B ⟨rfl, rfl, G, by lia -abstractProof, rfl, by decide, rfl, rfl, rfl, rfl, rfl, rfl, rfl, _, _, _, _, _, _, _, _, _, _, _, T, B, rfl, rfl, G, by lia -abstractProof, rfl, by decide, rfl, rfl, ?_⟩)⟩⟩
    exact TriS.forget (sub_kp ..) (law_B2 Fi hP (mk := .tri _ _ _) ⟨.inr (ex3i _ _ _ ⟨rfl, fl.1, fl.2, rfl, rfl⟩)⟩ G hB hr h1 (Nat.le_refl 13) hT hS bd' hb hz hf hll n2 n3 n9 (.inr (ex3i _ _ _ ⟨rfl, e1 b (by lia -abstractProof) (by lia -abstractProof), e1 z (by lia -abstractProof) (by lia -abstractProof), e1 p (by lia -abstractProof) (by lia -abstractProof)⟩)))
theorem sub_a (S row : List Int) (f l s e : Int) : subL (l6 S row f l) [en "deck" (.ref 2), en "signs" (.lst S), en "row" (.lst row), en "first" (.int f), en "last" (.int l), en "start" (.int s), en "end" (.int e)] := by
  refine ⟨?_, ?_, ?_, ?_, ?_, trivial⟩ <;> kernel_rfl
theorem sub_b (S : List Int) (s : Int) : subL (l6 S S 0 0) (l5 S s) := by
  refine ⟨?_, ?_, ?_, ?_, ?_, trivial⟩ <;> kernel_rfl
theorem sub_c (xs S : List Int) (s : Int) : subL (l5 S s) [en "script" (.scr xs), en "deck" (.ref 2), en "signs" (.lst S), en "last" (.int 0), en "first" (.int 0), en "row" (.lst S), en "start" (.int s)] := by
  refine ⟨?_, ?_, ?_, ?_, ?_, ?_, trivial⟩ <;> kernel_rfl
theorem law_A2 (Fi : Fit W cxL c) (hP : AtEnd P) {dk cells : List Int} {gs ge p tk ck start : Int} {S : List Int} {B : Nat} (G : Gp cells gs ge S B) (hB : B ≤ 1000) (hS : S.length ≤ 40) (hdk : dk.length ≤ 16) (hp : ∀ x ∈ S, 0 ≤ x) (bd : 1 ≤ p ∧ p ≤ (S.length : Int) + 1) (hs : 1 ≤ start ∧ start ≤ (S.length : Int) + 1) :
    TL W c N P X (lb.drop 5) ⟨lay dk cells gs ge p 1 ((S.length : Int) + 1) tk ck [] [], l5 S start, cL, [], 8⟩ := by
  have hsg : sg S = S := sg_pos hp
  have no : ∀ j : Int, j < 0 → j ∉ S := fun j hj h => by have := hp j h; lia -abstractProof
  have whole : ∀ (dk cells : List Int) (gs ge p tk ck : Int), Gp cells gs ge S B → dk.length ≤ 16 → 1 ≤ p → p ≤ (S.length : Int) + 1 → TL W c N P X (lb.drop 6) ⟨lay dk cells gs ge p 1 ((S.length : Int) + 1) tk ck [] [], l6 S S 0 0, cL, [], 8⟩ := fun dk cells gs ge p tk ck G hdk h1 h2 =>
    law_B Fi hP G hB (by lia -abstractProof) hdk hsg.symm rfl ⟨by lia -abstractProof, h1, h2, by lia -abstractProof⟩ rfl (by unfold fin; exact if_pos rfl ▸ hsg.symm ▸ rfl) (fun h => absurd rfl h) (fun h => absurd rfl h) (no _ (by decide)) (no _ (by decide)) (no _ (by decide)) (.inl ⟨rfl, rfl, rfl, rfl⟩)
  refine tl_step Fi 5 1 ((va2 ..).mpr (ex12i _ _ _ _ _ _ _ _ _ _ _ _ ⟨rfl, rfl, by lia -abstractProof, hdk, fun dk1 r h1 h2 h3 => br_dec (fun _ => ⟨bg hS rfl, ex12i _ _ _ _ _ _ _ _ _ _ _ _ ⟨rfl, rfl, by lia -abstractProof, h1, fun dk2 r2 h4 h5 h6 => ?_⟩⟩) fun _ => TriS.forget (sub_b ..) (whole _ _ _ _ _ _ _ G h1 bd.1 bd.2)⟩))
  have m1 : imin (start + r2) start = start := by unfold imin; split <;> lia -abstractProof
  have m2 : imax (start + r2) start = start + r2 := by unfold imax; split <;> lia -abstractProof
  refine (ex15i _ _ _ _ _ _ _ _ _ _ _ S B _ _ ⟨rfl, rfl, G, bg hB rfl, rfl, fun h => by rw [m1, m2] at h; lia -abstractProof, fun _ _ => ?_⟩)
  refine m1.symm ▸ m2.symm ▸ ?_
  have w1 := with_law (row := S) (m := -1) (k := (start - 1).toNat) false (by decide) (by refine hsg.symm ▸ ?_; lia -abstractProof)
  have w2 := with_law (row := wthR S (-1) (start - 1).toNat false) (m := -4) (k := (start + r2 - 1).toNat) true (by decide) (by refine w1.sg' ▸ hsg.symm ▸ ?_; lia -abstractProof)
  have cl := clamp_in (x := p) (a := start) (b := start + r2) (by lia -abstractProof)
  refine ex4i S (-1) _ false ⟨rfl, by refine hsg.symm ▸ ?_; lia -abstractProof, by lia -abstractProof, (ex4i _ (-4) _ true ⟨rfl, by refine w1.sg' ▸ hsg.symm ▸ ?_; lia -abstractProof, by refine w1.len ▸ ?_; lia -abstractProof, rfl, rfl, by lia -abstractProof, br_of (fun w => ?_) fun w => ?_⟩)⟩
  · have w : start = 1 ∧ start + r2 = (S.length : Int) + 1 := by simpa using w
    obtain ⟨rfl, w⟩ := w
    rw [w] at cl ⊢
    exact TriS.forget (sub_a ..) (whole _ _ _ _ _ _ _ G h4 cl.1 cl.2)
  · have w : ¬ (start = 1 ∧ start + r2 = (S.length : Int) + 1) := fun h => by rw [h.1] at w h; simp [h.2] at w
    obtain ⟨o1, o2⟩ := w2.other (-1) (by decide) (by decide) w1.in_
    have nn : ∀ j : Int, j < 0 → j ≠ -1 → j ≠ -4 → j ∉ wthR (wthR S (-1) (start - 1).toNat false) (-4) (start + r2 - 1).toNat true := fun j hj a b h => (w2.only _ h).elim b fun h => (w1.only _ h).elim a (no j hj)
    refine TriS.forget (sub_a ..) (law_B Fi hP G hB (by refine w2.len ▸ w1.len ▸ ?_; lia -abstractProof) h4 (by exact w2.sg' ▸ w1.sg' ▸ hsg.symm ▸ rfl) rfl ⟨hs.1, cl.1, cl.2, by lia -abstractProof⟩ ?_ ?_ (fun _ => o1) (fun _ => w2.in_) (nn _ (by decide) (by decide) (by decide)) (nn _ (by decide) (by decide) (by decide)) (nn _ (by decide) (by decide) (by decide)) (.inr ⟨rfl, rfl, w⟩))
    · unfold bgn; rw [if_neg (by decide), o2, w1.at_ (no _ (by decide))]; lia -abstractProof
    · unfold fin; rw [if_neg (by decide), w2.at_ fun h => (w1.only _ h).elim (by decide) (no _ (by decide))]; lia -abstractProof
theorem law_all (Fi : Fit W cxL c) (hP : AtEnd P) {xs : List Int} (hxs : xs.length ≤ 10000) : TL W c N P X lb (frameSt (scopeOf (F 49)) (psOf (F 49)) [.scr xs] hp0 2) := by
  have G0 : Gp [0, 0, 0, 0, 0, 0, 0, 0] ((([] : List Int).length : Int) : Int) (((([] : List Int).length : Int) : Int) + (8 : Int)) [] 8 := ⟨by decide, by decide, by decide, by decide, rfl⟩
  refine tl_step Fi 0 5 ((va1 ..).mpr ⟨xs, rfl, hxs, fun dk hdk => ⟨rfl, by decide, rfl, by decide, by decide, by decide, by decide, by decide, by decide, rfl, rfl, rfl, by decide, rfl, ex12i _ _ _ _ _ _ _ _ _ _ _ _ ⟨rfl, rfl, by lia -abstractProof, hdk, fun dk1 r h1 h2 h3 => ?_⟩⟩⟩)
  have ln : ((irange 0 r).filterMap fun y => some (y + 1)).length ≤ 7 := by
    have := List.length_filterMap_le (fun y : Int => some (y + 1)) (irange 0 r)
    rw [irange_length] at this; lia -abstractProof
  have pos : ∀ x ∈ ((irange 0 r).filterMap fun y => some (y + 1)), (0 : Int) ≤ x := fun x hx => by
    obtain ⟨y, hy, e⟩ := List.mem_filterMap.mp hx
    unfold irange at hy
    obtain ⟨i, _, rfl⟩ := List.mem_map.mp hy
    cases e; lia -abstractProof
  refine ⟨⟨⟨by decide, by decide⟩, Int.le_trans (by decide) h2, by lia -abstractProof⟩, fun y => some (y + 1), ⟨by refine (irange_length ..) ▸ ?_; lia -abstractProof, fun y _ => ⟨_, rfl, rfl, rfl, rfl, rfl, rfl⟩⟩, rfl, ?_⟩
  generalize ((irange 0 r).filterMap fun y => some (y + 1)) = S at ln pos ⊢
  refine ex15i _ _ _ _ _ _ _ _ _ .no [] 8 _ S _ ⟨rfl, rfl, G0, by decide, bg ln rfl, by decide, Int.le_refl _, rfl, fun h => by lia -abstractProof, fun _ _ v cells gs ge p tk ck _ G k1 k2 => ⟨bg ln rfl, ex12i _ _ _ _ _ _ _ _ _ _ _ _ ⟨rfl, rfl, by lia -abstractProof, h1, fun dk2 r1 h4 h5 h6 => ?_⟩⟩⟩
  have e1 : (1 : Int) - (1 - 1) + (S.length : Int) = (S.length : Int) + 1 := by lia -abstractProof
  have G' : Gp cells gs ge S (8 + S.length + 8) := by
    have : ([] : List Int).take ((1 : Int) - 1).toNat ++ S ++ ([] : List Int).drop ((1 : Int) - 1).toNat = S := by simp
    rw [this] at G; exact G
  rw [e1] at k2 ⊢
  exact TriS.forget (sub_c ..) (law_A2 Fi hP G' (by lia -abstractProof) (by lia -abstractProof) h4 pos ⟨k1, k2⟩ (by lia -abstractProof))
end
theorem ok_deck {W : Wd} (H : Pg W) : PTok W 2 (.ref 579) ptDeck := (fn_ok (m := 14) (mr := true) (n := 1) H.f579 (gx_ok (l := []) (exc := none) H.toBase Specs.nil noExc) fun as hp nx P X hh => ex1 hh fun xs hj => an3 hj fun e1 hx q => by
  clear hj hh
  subst e1
  have ln : ((xs.take (Int.toNat 16)).filterMap fun y => some ((iabs y).fmod ((10 : Int) ^ Int.toNat 30))).length ≤ 16 := by
    refine Nat.le_trans (List.length_filterMap_le ..) ?_
    refine List.length_take ▸ ?_; exact Nat.min_le_left _ _
  refine ⟨rfl, (vk ..).mpr ⟨bg hx rfl, by decide, fun y => some ((iabs y).fmod ((10 : Int) ^ Int.toNat 30)), ⟨by refine List.length_take ▸ ?_; lia -abstractProof, fun y _ => ⟨⟨by decide, by decide⟩, by decide, _, rfl, rfl, rfl, rfl, rfl, rfl⟩⟩, q _ ln⟩⟩).ok
theorem clsK {W : Wd} (H : Pg W) {i : Nat} {C f : Addr} (h : clTab[i]? = some (C, f)) : clsOk W.K C f = true := H.cls _ (List.mem_of_getElem? h)
theorem g0_ok {W : Wd} (H : Pg W) : GOk W g0 := gx_ok (l := []) (exc := none) H.toBase Specs.nil noExc
theorem sB_ok {W : Wd} (H : Pg W) : Specs W sB := .cons (cls_sound (clsK H (i := 4) rfl) (inl_ok H.f300 (g0_ok H))).ok (fn_k H (i := 11) rfl) <| .cons (cls_sound (clsK H (i := 1) rfl) (inl_ok H.f130 (g0_ok H))).ok (fn_k H (i := 2) rfl) .nil
theorem gB_ok {W : Wd} (H : Pg W) : GOk W gB := gx_ok H.toBase (sB_ok H) noExc
theorem sS_ok {W : Wd} (H : Pg W) : Specs W sS :=
  .cons (inl_ok H.f214 (g2_ok H)).ok (fn_k H (i := 6) rfl) <| .cons (cls_sound (clsK H (i := 0) rfl) (inl_ok H.f90 (g0_ok H))).ok (fn_k H (i := 1) rfl) <| .cons (cls_sound (clsK H (i := 2) rfl) (inl_ok H.f228 (g0_ok H))).ok (fn_k H (i := 7) rfl) <|
  .cons (cls_sound (clsK H (i := 3) rfl) (inl_ok H.f264 (g0_ok H))).ok (fn_k H (i := 9) rfl) <| .cons (inl_ok H.f193 (g2_ok H)).ok (fn_k H (i := 3) rfl) <| .cons (inl_ok H.f200 (g2_ok H)).ok (fn_k H (i := 4) rfl) <| .cons (inl_ok H.f207 (g2_ok H)).ok (fn_k H (i := 5) rfl) (s2_ok H)
theorem gS_ok {W : Wd} (H : Pg W) : GOk W gS := gx_ok H.toBase (sS_ok H) noExc
theorem ok_buffer {W : Wd} (H : Pg W) : PTok W 4 (.ref 479) (ptNew 479 (inl 14 gB 2 (M 21 0) 3 [.int 8])) := by
  obtain ⟨t, h⟩ := H.f392
  exact (cls_sound (clsK H (i := 5) rfl) (inl_ok h (gB_ok H))).ok
theorem s10_ok {W : Wd} (H : Pg W) : Specs W s10 :=
  .cons (ok_narrow H) (fn_k H (i := 4) rfl) <| .cons (ok_deck H) (fn_k H (i := 26) rfl) <| .cons (ok_draw H) (fn_k H (i := 27) rfl) <| .cons (ok_with H) (fn_k H (i := 36) rfl) <| .cons (ok_isso H) (fn_k H (i := 35) rfl) <| .cons (ok_edit H) (fn_k H (i := 37) rfl) <| .cons (ok_place H) (fn_k H (i := 32) rfl) <|
  .cons (ok_buffer H) (fn_k H (i := 12) rfl) <| .cons (inl_ok H.f560 (g4_ok H)).ok (fn_k H (i := 23) rfl) <| .cons (inl_ok H.f250 (gS_ok H)).ok (fn_k H (i := 8) rfl) <| .cons (inl_ok H.f286 (gS_ok H)).ok (fn_k H (i := 10) rfl) <| .cons (inl_ok H.f236 (gS_ok H)).ok (met_k H (i := 1) (j := 0) rfl rfl) <|
  .cons (inl_ok H.f272 (gS_ok H)).ok (met_k H (i := 2) (j := 0) rfl rfl) (sS_ok H)
theorem g10_ok {W : Wd} (H : Pg W) : GOk W g10 := gx_ok H.toBase (s10_ok H) noExc
theorem law_ok {W : Wd} (H : Pg W) {c : FC} (O : W.Ok c) (hsc : c.cs = scopeOf (F 49)) (hrm : 12 ≤ c.rm) (hcode : c.env.code = .ref 648) (hq : c.env.qual ++ "<lambda>" = qL) (hcd : codeHdIn W.K 648 646 = true) {xs : List Int} (hxs : xs.length ≤ 10000) :
    TriS W c (frameSt (scopeOf (F 49)) (psOf (F 49)) [.scr xs] hp0 2) (execs (bodyOf (F 49)) c.env) (fun _ => False) (fun v σ => v = .bool true ∧ ∃ tl, σ.hp = (0, .tab 641 qE) :: (1, .tab 646 qL) :: tl) noX :=
  law_all (N := fun _ => False) (P := fun v hp _ => v = .bool true ∧ ∃ tl, hp = (0, .tab 641 qE) :: (1, .tab 646 qL) :: tl) (X := noX) ⟨O, g10_ok H, hsc, hrm, fun l e => by cases e; exact ⟨hcode, hq, hcd⟩⟩ ⟨fun _ _ _ _ _ _ _ _ _ _ _ _ => ⟨rfl, _, rfl⟩⟩ hxs
noncomputable def fdOf (K : Frag) (a : Addr) : FuncData := match K.lookup a with
  | some ⟨_, _, .func fd, _⟩ => fd
  | _ => default
noncomputable def isFd (K : Frag) (a : Addr) : Bool := match K.lookup a with
  | some ⟨_, _, .func _, _⟩ => true
  | _ => false
theorem isFd_iff {K : Frag} {a : Addr} (h : isFd K a = true) : ∃ oc od osl, K.lookup a = some ⟨oc, od, .func (fdOf K a), osl⟩ := by
  unfold isFd at h
  split at h
  · rename_i oc od fd osl e
    exact ex3i oc od osl (by unfold fdOf; exact e ▸ rfl)
  · cases h
noncomputable def bndP (K : Frag) (fd : FuncData) (ps : List Str) (dv : List Value) : Nat → List Value → Prop
  | 0, vs => ∀ S, peek K S (bindArgs fd ⟨vs, []⟩) = some (ps.zip (vs ++ dv))
  | n + 1, vs => ∀ v, bndP K fd ps dv n (vs ++ [v])
theorem bndP_of {K : Frag} {fd : FuncData} {ps : List Str} {dv : List Value} : ∀ {k : Nat} {acc : List Value}, bndP K fd ps dv k acc → ∀ vs, vs.length = k → ∀ S, peek K S (bindArgs fd ⟨acc ++ vs, []⟩) = some (ps.zip (acc ++ vs ++ dv))
  | 0, acc, h, vs, hl, S => by
    obtain rfl := List.length_eq_zero_iff.mp hl
    refine (List.append_nil ..) ▸ ?_; exact h S
  | k + 1, acc, h, [], hl, S => by cases hl
  | k + 1, acc, h, v :: vs, hl, S => by
    have := bndP_of (h v) vs (by simpa using hl) S
    simpa using this
noncomputable def scB (s : Stmt) (ps : List Str) (n : Nat) : Bool := !(scopeOf s).isCoroutine && !(scopeOf s).isGenerator && (scopeOf s).kind == .function && ps.all (fun x => (scopeOf s).names.lookup x == some .local || (scopeOf s).names.lookup x == some .cell) && nodupS (cellNames (scopeOf s)) && ps.length == n
structure FdOk (K : Frag) (a : Addr) (s : Stmt) (k : Nat) (dv : List Value) : Prop where
  is : isFd K a = true
  eq : ((fdOf K a).scope, (fdOf K a).body, (fdOf K a).globals, (fdOf K a).builtins, (fdOf K a).closure) = (scopeOf s, .stmts (bodyOf s), mainGlobals, builtinsNs, [])
  code : codeIn K (fdOf K a).code (fdOf K a).qualname = true
  sc : scB s (psOf s) (k + dv.length) = true
  bind : bndP K (fdOf K a) (psOf s) dv k []
theorem FdOk.fn {K : Frag} {a : Addr} {s : Stmt} {k : Nat} {ds : List (AV × Value)} (h : FdOk K a s k (ds.map (·.2))) (hd : ∀ (Zp : Addr → Obj → Prop) (ρ : Nat → Option Addr), ValL Zp ρ (ds.map (·.1)) (ds.map (·.2))) : FnOk K a (fdOf K a) (bodyOf s) (psOf s) k ds := by
  have e := h.eq
  simp only [Prod.mk.injEq] at e
  refine an5 e fun e1 e2 e3 e4 e5 => ?_; try clear e
  have sc := h.sc
  simp only [scB, Bool.and_eq_true, Bool.not_eq_true', List.all_eq_true, Bool.or_eq_true, beq_iff_eq, List.length_map] at sc
  refine cps fun GG kG => ?_; obtain ⟨⟨⟨⟨⟨s1, s2⟩, s3⟩, s4⟩, s5⟩, s6⟩ := sc; refine kG ?_
  exact { at_ := isFd_iff h.is, code := h.code, gl := e3, bu := e4, clo := e5, co := by refine e1 ▸ ?_; exact s1, gen := by refine e1 ▸ ?_; exact s2, kind := by refine e1 ▸ ?_; exact s3, body := e2,
          bind := fun st vs X hl => kp_binds X fun S => by have := bndP_of h.bind vs hl S; simpa using this
          names := by refine e1 ▸ ?_; exact s4
          cells := by refine e1 ▸ ?_; exact s5
          len := s6, dv := hd }
theorem FdOk.has {K : Frag} {a : Addr} {s : Stmt} {k : Nat} (ds : List (AV × Value)) (h : FdOk K a s k (ds.map (·.2))) (hd : ∀ (Zp : Addr → Obj → Prop) (ρ : Nat → Option Addr), ValL Zp ρ (ds.map (·.1)) (ds.map (·.2))) : Has K a s k ds none := by
  have e := h.eq
  simp only [Prod.mk.injEq] at e
  exact ⟨_, h.fn hd, e.1, fun l hl => by cases hl⟩
theorem FdOk.hasL {K : Frag} {a : Addr} {s : Stmt} {k : Nat} {l : Nat × Addr × Addr × Str} (h : FdOk K a s k []) (h1 : (fdOf K a).code = .ref l.2.1) (h2 : ((fdOf K a).qualname ++ ".<locals>.") ++ "<lambda>" = l.2.2.2) (h3 : codeHdIn K l.2.1 l.2.2.1 = true) : Has K a s k [] (some l) := by
  have e := h.eq
  simp only [Prod.mk.injEq] at e
  exact ⟨_, FdOk.fn (ds := []) h fun _ _ => trivial, e.1, fun l' hl => by cases hl; exact ⟨h1, h2, h3⟩⟩
noncomputable def objOf (K : Frag) (a : Addr) : Obj := match K.lookup a with
  | some o => o
  | none => default
noncomputable def cdOf (o : Obj) : ClassData := match o.data with
  | .cls d => d
  | _ => default
noncomputable def deOf (o : Obj) : Array DictEntry × Nat := match o.data with
  | .dict es ep => (es, ep)
  | _ => default
noncomputable def sqOf (o : Obj) : Array Value := match o.data with
  | .seq xs _ => xs
  | _ => #[]
noncomputable def tok8 (K : Frag) : Tok := match (fdOf K 392).defaults with
  | .ref d => (match (sqOf (objOf K d)).toList with | .int _ t :: _ => t | _ => default)
  | _ => default
noncomputable def strKey (e : DictEntry) : Bool := match e.key with
  | .str _ _ => true
  | _ => false
theorem strKeys_of {es : Array DictEntry} (h : es.toList.all strKey = true) : StrKeys es := fun e he => by
  have := List.all_eq_true.mp h e (Array.mem_def.mp he)
  unfold strKey at this
  split at this
  · exact ex2i _ _ (by assumption)
  · cases this
noncomputable def lsN (K : Frag) : Addr := (cdOf (objOf K 38)).ns
theorem told_body : ∃ kk pa pb pc p1 p2 p3 p4 p5 p6 p7 p8, bodyOf (F 45) = toldBody "deed" "LispSignal" "error" kk pa pb pc p1 p2 p3 p4 p5 p6 p7 p8 := (ex12i _ _ _ _ _ _ _ _ _ _ _ _ rfl)
structure Facts (K : Frag) : Prop where
  c1 : glTab.all (fun e => nsIn K mainGlobals e.1 == some (some e.2)) = true
  c2 : blTab.all (fun e => nsIn K mainGlobals e.1 == some none && bootBuiltins e.1 == some e.2 && e.1 != "__name__") = true
  c3 : atTab.all (fun e => e.2.all fun x => attOk K e.1 x) = true
  c4 : meTab.all (fun e => e.2.all fun x => metOk K e.1 x.1 x.2) = true
  c5 : glTab.all (fun e => keepV K e.2) = true
  c6 : meTab.all (fun e => e.2.all fun x => keepV K (.ref x.2)) = true
  c7 : clTab.all (fun e => clsOk K e.1 e.2) = true
  l1 : K.lookup 38 = some (excClassObj (cdOf (objOf K 38)).name (cdOf (objOf K 38)).qualname 38 (lsN K) (cdOf (objOf K 38)).bases [.type "Exception", .type "BaseException", .type "object"] true (cdOf (objOf K 38)).slotNames (cdOf (objOf K 38)).subclasses (cdOf (objOf K 38)).abstract (cdOf (objOf K 38)).collection (objOf K 38).dict
    ((objOf K 38).slots.getD 0 none) ((objOf K 38).slots.getD 1 none) ((objOf K 38).slots.getD 2 none) ((objOf K 38).slots.getD 3 none) ((objOf K 38).slots.getD 5 none) "Exception.__new__")
  l2 : (K.lookup (lsN K)).isSome = true
  l3 : (objOf K (lsN K)).data = .dict (deOf (objOf K (lsN K))).1 (deOf (objOf K (lsN K))).2
  l4 : (deOf (objOf K (lsN K))).1.toList.all strKey = true
  l5 : (nsFind (deOf (objOf K (lsN K))).1 "__setattr__", nsFind (deOf (objOf K (lsN K))).1 "__init__", nsFind (deOf (objOf K (lsN K))).1 "symbol", nsFind (deOf (objOf K (lsN K))).1 "data") = (none, some (.ref 35), none, none)
  l6 : (K.lookup 35).isSome = true
  l7 : (objOf K 35).cls = .type "function"
  l8 : lsGet K 38 = true
  l9 : keepV K (.ref 627) = true
  f627 : FdOk K 627 (F 45) 1 []
  f35 : FdOk K 35 (M 2 0) 3 []
  f90 : FdOk K 90 (M 6 0) 3 []
  f130 : FdOk K 130 (M 7 0) 1 []
  f137 : FdOk K 137 (M 7 1) 1 []
  f144 : FdOk K 144 (M 7 2) 3 []
  f151 : FdOk K 151 (M 7 3) 2 []
  f165 : FdOk K 165 (M 7 5) 4 []
  f172 : FdOk K 172 (M 7 6) 3 []
  f179 : FdOk K 179 (M 7 7) 4 []
  f228 : FdOk K 228 (M 14 0) 4 []
  f236 : FdOk K 236 (M 14 1) 1 [.none]
  f264 : FdOk K 264 (M 16 0) 3 []
  f272 : FdOk K 272 (M 16 1) 1 [.none]
  f300 : FdOk K 300 (M 19 0) 3 []
  f307 : FdOk K 307 (M 19 1) 1 []
  f314 : FdOk K 314 (M 19 2) 2 []
  f321 : FdOk K 321 (M 19 3) 3 []
  f328 : FdOk K 328 (M 19 4) 2 []
  f335 : FdOk K 335 (M 19 5) 2 []
  f342 : FdOk K 342 (M 19 6) 3 []
  f349 : FdOk K 349 (M 19 7) 3 []
  f392 : FdOk K 392 (M 21 0) 3 [.int 8 (tok8 K)]
  f413 : FdOk K 413 (M 21 3) 1 []
  f420 : FdOk K 420 (M 21 4) 1 []
  f427 : FdOk K 427 (M 21 5) 1 []
  f434 : FdOk K 434 (M 21 6) 2 []
  f441 : FdOk K 441 (M 21 7) 3 []
  f448 : FdOk K 448 (M 21 8) 2 []
  f476 : FdOk K 476 (M 21 12) 2 []
  f193 : FdOk K 193 (F 9) 3 []
  f200 : FdOk K 200 (F 11) 3 []
  f207 : FdOk K 207 (F 12) 1 []
  f214 : FdOk K 214 (F 13) 1 []
  f250 : FdOk K 250 (F 15) 3 []
  f286 : FdOk K 286 (F 17) 2 []
  f488 : FdOk K 488 (F 23) 1 []
  f495 : FdOk K 495 (F 24) 3 []
  f502 : FdOk K 502 (F 25) 3 []
  f509 : FdOk K 509 (F 26) 4 []
  f516 : FdOk K 516 (F 27) 3 []
  f523 : FdOk K 523 (F 28) 3 []
  f530 : FdOk K 530 (F 29) 3 []
  f537 : FdOk K 537 (F 30) 4 []
  f544 : FdOk K 544 (F 31) 5 []
  f552 : FdOk K 552 (F 32) 3 [.bool false]
  f560 : FdOk K 560 (F 33) 2 [.bool false]
  f567 : FdOk K 567 (F 34) 3 []
  f574 : FdOk K 574 (F 35) 4 []
  f579 : FdOk K 579 (F 37) 1 []
  f586 : FdOk K 586 (F 38) 2 []
  f593 : FdOk K 593 (F 39) 2 []
  f600 : FdOk K 600 (F 40) 2 []
  f605 : FdOk K 605 (F 41) 4 []
  f610 : FdOk K 610 (F 42) 5 []
  f615 : FdOk K 615 (F 43) 2 []
  f620 : FdOk K 620 (F 44) 1 []
  f632 : FdOk K 632 (F 46) 4 []
  f639 : FdOk K 639 (F 47) 4 []
  f644 : FdOk K 644 (F 48) 6 []
  g644 : (fdOf K 644).code = .ref 643
  q644 : ((fdOf K 644).qualname ++ ".<locals>.") ++ "<lambda>" = qE
  r644 : codeHdIn K 643 641 = true
  f649 : FdOk K 649 (F 49) 1 []
  g649 : (fdOf K 649).code = .ref 648
  q649 : ((fdOf K 649).qualname ++ ".<locals>.") ++ "<lambda>" = qL
  r649 : codeHdIn K 648 646 = true
theorem isSome_obj {K : Frag} {a : Addr} (h : (K.lookup a).isSome = true) : K.lookup a = some (objOf K a) := by
  unfold objOf
  cases e : K.lookup a with
  | none => rw [e] at h; cases h
  | some o => rfl
theorem lsok_of {W : Wd} (h : Facts W.K) (e : W.LS = 38) : LSOk W 35 := by
  have h5 := h.l5
  simp only [Prod.mk.injEq] at h5
  refine ⟨ex14i _ _ _ _ _ _ _ _ _ _ _ _ _ _ ⟨by rw [e]; exact h.l1, (ex3i _ _ _ ⟨isSome_obj h.l2, h.l3, strKeys_of h.l4, h5.1, h5.2.1, h5.2.2.1, h5.2.2.2⟩)⟩, _, isSome_obj h.l6, h.l7⟩
theorem told_of {W : Wd} (h : Facts W.K) (e : W.LS = 38) : ToldOk W 627 := by
  refine ex12 told_body fun kk pa pb pc p1 p2 p3 p4 p5 p6 p7 p8 hb => ?_; try clear told_body
  have f := FdOk.fn (ds := []) h.f627 fun _ _ => trivial
  have hsc : (fdOf W.K 627).scope = scopeOf (F 45) := by have := h.f627.eq; simp only [Prod.mk.injEq] at this; exact this.1
  rw [hb] at f
  have c1 := List.all_eq_true.mp h.c1 (en "LispSignal" (.ref 38)) (.head _)
  refine ⟨ex16i _ _ _ _ kk pa pb pc p1 p2 p3 p4 p5 p6 p7 p8 ⟨f, ?_, by kernel_rfl, ?_, by kernel_rfl, ?_, by kernel_rfl, by refine e ▸ ?_; exact eq_of_beq c1⟩, h.l9⟩
  · refine hsc ▸ ?_; kernel_rfl
  · refine hsc ▸ ?_; kernel_rfl
  · refine hsc ▸ ?_; kernel_rfl
theorem pg_of {W : Wd} (h : Facts W.K) (e : W.LS = 38) : Pg W where
  gl := fun q hq => by simpa using List.all_eq_true.mp h.c1 q hq
  bl := fun q hq => by
    have := List.all_eq_true.mp h.c2 q hq
    simp only [Bool.and_eq_true, beq_iff_eq, bne_iff_ne] at this
    exact ⟨this.1.1, this.1.2, this.2⟩
  at_ := fun q hq x hx => List.all_eq_true.mp (List.all_eq_true.mp h.c3 q hq) x hx
  me := fun q hq x hx => List.all_eq_true.mp (List.all_eq_true.mp h.c4 q hq) x hx
  keep := fun q hq => List.all_eq_true.mp h.c5 q hq
  keepm := fun q hq x hx => List.all_eq_true.mp (List.all_eq_true.mp h.c6 q hq) x hx
  ls := e
  lsok := lsok_of h e
  lsget := by refine e ▸ ?_; exact h.l8
  told := told_of h e
  cls := fun q hq => List.all_eq_true.mp h.c7 q hq
  f35 := FdOk.has [] h.f35 fun _ _ => trivial
  f90 := FdOk.has [] h.f90 fun _ _ => trivial
  f130 := FdOk.has [] h.f130 fun _ _ => trivial
  f137 := FdOk.has [] h.f137 fun _ _ => trivial
  f144 := FdOk.has [] h.f144 fun _ _ => trivial
  f151 := FdOk.has [] h.f151 fun _ _ => trivial
  f165 := FdOk.has [] h.f165 fun _ _ => trivial
  f172 := FdOk.has [] h.f172 fun _ _ => trivial
  f179 := FdOk.has [] h.f179 fun _ _ => trivial
  f228 := FdOk.has [] h.f228 fun _ _ => trivial
  f236 := FdOk.has [(.none, .none)] h.f236 fun _ _ => ⟨rfl, trivial⟩
  f264 := FdOk.has [] h.f264 fun _ _ => trivial
  f272 := FdOk.has [(.none, .none)] h.f272 fun _ _ => ⟨rfl, trivial⟩
  f300 := FdOk.has [] h.f300 fun _ _ => trivial
  f307 := FdOk.has [] h.f307 fun _ _ => trivial
  f314 := FdOk.has [] h.f314 fun _ _ => trivial
  f321 := FdOk.has [] h.f321 fun _ _ => trivial
  f328 := FdOk.has [] h.f328 fun _ _ => trivial
  f335 := FdOk.has [] h.f335 fun _ _ => trivial
  f342 := FdOk.has [] h.f342 fun _ _ => trivial
  f349 := FdOk.has [] h.f349 fun _ _ => trivial
  f392 := ⟨tok8 W.K, FdOk.has [(.int 8, .int 8 (tok8 W.K))] h.f392 fun _ _ => ⟨⟨_, rfl⟩, trivial⟩⟩
  f413 := FdOk.has [] h.f413 fun _ _ => trivial
  f420 := FdOk.has [] h.f420 fun _ _ => trivial
  f427 := FdOk.has [] h.f427 fun _ _ => trivial
  f434 := FdOk.has [] h.f434 fun _ _ => trivial
  f441 := FdOk.has [] h.f441 fun _ _ => trivial
  f448 := FdOk.has [] h.f448 fun _ _ => trivial
  f476 := FdOk.has [] h.f476 fun _ _ => trivial
  f193 := FdOk.has [] h.f193 fun _ _ => trivial
  f200 := FdOk.has [] h.f200 fun _ _ => trivial
  f207 := FdOk.has [] h.f207 fun _ _ => trivial
  f214 := FdOk.has [] h.f214 fun _ _ => trivial
  f250 := FdOk.has [] h.f250 fun _ _ => trivial
  f286 := FdOk.has [] h.f286 fun _ _ => trivial
  f488 := FdOk.has [] h.f488 fun _ _ => trivial
  f495 := FdOk.has [] h.f495 fun _ _ => trivial
  f502 := FdOk.has [] h.f502 fun _ _ => trivial
  f509 := FdOk.has [] h.f509 fun _ _ => trivial
  f516 := FdOk.has [] h.f516 fun _ _ => trivial
  f523 := FdOk.has [] h.f523 fun _ _ => trivial
  f530 := FdOk.has [] h.f530 fun _ _ => trivial
  f537 := FdOk.has [] h.f537 fun _ _ => trivial
  f544 := FdOk.has [] h.f544 fun _ _ => trivial
  f552 := FdOk.has [(.bool false, .bool false)] h.f552 fun _ _ => ⟨rfl, trivial⟩
  f560 := FdOk.has [(.bool false, .bool false)] h.f560 fun _ _ => ⟨rfl, trivial⟩
  f567 := FdOk.has [] h.f567 fun _ _ => trivial
  f574 := FdOk.has [] h.f574 fun _ _ => trivial
  f579 := FdOk.has [] h.f579 fun _ _ => trivial
  f586 := FdOk.has [] h.f586 fun _ _ => trivial
  f593 := FdOk.has [] h.f593 fun _ _ => trivial
  f600 := FdOk.has [] h.f600 fun _ _ => trivial
  f605 := FdOk.has [] h.f605 fun _ _ => trivial
  f610 := FdOk.has [] h.f610 fun _ _ => trivial
  f615 := FdOk.has [] h.f615 fun _ _ => trivial
  f620 := FdOk.has [] h.f620 fun _ _ => trivial
  f632 := FdOk.has [] h.f632 fun _ _ => trivial
  f639 := FdOk.has [] h.f639 fun _ _ => trivial
  f644 := FdOk.hasL h.f644 h.g644 h.q644 h.r644
  f649 := FdOk.hasL h.f649 h.g649 h.q649 h.r649
theorem frame49 (xs : List Int) : frameSt (scopeOf (F 49)) (psOf (F 49)) [.scr xs] hp0 2 = { hp := hp0, loc := [("script", .scr xs)], cel := [("buffer", none)], fre := [], nxt := 2 } := by kernel_rfl
theorem kind49 : (scopeOf (F 49)).kind = .function := by kernel_rfl
theorem join {prog : Program} {w : World} {K : Frag} {loose : List Str} {mean : ExcName → Option Value} {mg mb : Str → Option Value} {H h₁ : Heap} {L fa l : Addr} {name : Str} {scope : Scope} {body : List Stmt} {m : Str → Option Value} {co : Obj}
    {its : Array Value} {xs : List Int} {g : Array GenState} {dr : Drawn} {tk : Nat} {os : OsState} {Q : Flow → Shared → Prop} {E : Value → Shared → Prop}
    (FK : Facts K) (X : K.In H) (T : Top topProg loose mean mg mb H) (F' : Fr H L h₁ m) (N : News H L h₁ [(L + 1, co), (641, tabObj #[]), (646, tabObj #[])]) (hco : co.data = .cell none) (hl : H.IsList l its) (hI : IntsAre its.toList xs)
    (hm : m "script" = some (.ref l)) (hL : 646 < L) (hsc : scope = scopeOf (F 49)) (hb : body = bodyOf (F 49)) (hcl : cellsFrom (L + 1) scope.names [] = [(("buffer" : Str), L + 1)]) (hn : (name ++ ".<locals>.") ++ "<lambda>" = qL) (hxs : xs.length ≤ 10000)
    (hq : ∀ s' m', Fr H L s'.heap m' → s'.gens = g → s'.os = os → GrownAll [(643, 641), (648, 646)] s'.heap → Q (.ret (.bool true)) s') :
    wpAny (model prog w) (callerA.deeper (envOfC name scope L fa (.ref 648))) (execs body (envOfC name scope L fa (.ref 648))) Q E ⟨h₁, g, dr, tk, os⟩ := by
  subst hsc hb
  let W : Wd := { prog := prog, w := w, K := K, p := topProg, loose := loose, mean := mean, mg := mg, mb := mb, LS := 38 }
  let c : FC := { base := H, h₀ := H, hE := H, outer := [], inn := false, A := callerA.deeper (envOfC name (scopeOf (F 49)) L fa (.ref 648)), L := L, env := envOfC name (scopeOf (F 49)) L fa (.ref 648), ex := [], gens := g, os := os, rm := 14 }
  have ecl : c.cl = [(("buffer" : Str), L + 1)] := hcl
  have O : W.Ok c := {
    stack := rfl, kind := kind49, eL := rfl, eF := fun _ => rfl, eG := rfl, eB := rfl, X := X, T := T, stays := fun _ _ e => e
    new := Heap.get?_none_of_le F'.above, FF := trivial, hid := (fun _ hb => nomatch hb), lf := (fun hb => nomatch hb)
    cnd := by refine ecl ▸ ?_; simp
    cfr := fun _ _ _ hb => nomatch hb
    cex := fun _ _ _ hb => nomatch hb
    exf := (fun _ hb => nomatch hb), hand := rfl
    dep := by show 1 + claimMargin + 1 + 14 < recursionLimit; decide +kernel
    uni := by show 4 + 3 + 16 * 14 + 100 < cLine; decide +kernel }
  have P : Pg W := pg_of FK rfl
  have R : Rel W c ⟨h₁, g, dr, tk, os⟩ (frameSt (scopeOf (F 49)) (psOf (F 49)) [.scr xs] hp0 2) (fun _ => none) m [(641, tabObj #[]), (646, tabObj #[])] [(L + 1, co)] [] := by
    refine (frame49 ..) ▸ ?_
    refine cps fun GG kG => ?_; obtain ⟨o, ho, hc, n, hd⟩ := hl; refine kG ?_
    exact {
      F := F'
      N := fun p hp => N p (by simp only [List.cons_append, List.nil_append, List.append_nil, List.mem_cons, List.not_mem_nil, or_false] at hp ⊢; rcases hp with h | h | h <;> simp [h])
      nd := by
        simp only [List.cons_append, List.nil_append, List.append_nil, List.map_cons, List.map_nil, List.nodup_cons, List.mem_cons, List.not_mem_nil, or_false, not_or, not_false_iff, List.nodup_nil, and_true]
        exact ⟨⟨by decide, Nat.ne_of_lt (Nat.lt_succ_of_lt (Nat.lt_trans (by decide : 641 < 646) hL))⟩, Nat.ne_of_lt (Nat.lt_succ_of_lt hL)⟩
      ou := fun _ hb => nomatch hb
      ex := fun _ hb => nomatch hb
      cv := by
        intro x a h
        rw [ecl] at h
        rw [List.lookup_cons] at h
        split at h
        · cases h; exact .inl (by simp)
        · cases h
      H := .cons (l := [(641, tabObj #[])]) (c := [(646, tabObj #[])]) ⟨_, rfl, True.intro, fun _ _ h => by cases h⟩ (.cons (l := [(646, tabObj #[])]) (c := []) ⟨_, rfl, True.intro, fun _ _ h => by cases h⟩ .nil)
      V := by
        intro x v h
        simp only [lget] at h
        split at h
        · rename_i e
          obtain rfl := beq_iff_eq.mp e
          cases h
          exact ⟨_, hm, (ex4i l o its n ⟨rfl, .inl ho, ⟨hc, hd⟩, hI⟩)⟩
        · cases h
      C := by
        intro x ov h
        simp only [cget] at h
        split at h
        · rename_i e
          obtain rfl := beq_iff_eq.mp e
          cases h
          exact ex2i (L + 1) co ⟨by refine ecl ▸ ?_; rfl, .head _, ⟨_, hco⟩, fun v e => by cases e⟩
        · cases h
      Fv := fun x v h => by cases h
      rn := fun _ _ => rfl
      gens := rfl
      os := rfl }
  refine wpAny_mono (law_ok P O rfl (show 12 ≤ 14 by decide) rfl hn FK.r649 hxs _ _ _ _ _ _ R) (fun f s' z => ?_) fun e s' z => ?_
  · cases f with
    | next => refine ex6 z fun _ _ _ _ _ _ hq0 => an3 hq0 fun _ _ z => ?_; try clear hq0; exact z.elim
    | brk => exact z.elim
    | cont => exact z.elim
    | ret v =>
      refine cps fun GG kG => ?_; obtain ⟨ρ', m', cm', ce', frz', av, σ', _, R', hv, rfl, tl, ht⟩ := z; refine kG ?_
      obtain rfl : v = .bool true := hv
      refine hq s' m' R'.F R'.gens R'.os ?_
      have HH := R'.H
      rw [ht] at HH
      cases HH with
      | cons e1 r1 =>
        obtain ⟨p1, rfl, _⟩ := e1
        cases r1 with
        | cons e2 r2 =>
          obtain ⟨p2, rfl, _⟩ := e2
          have N' := R'.N
          exact ⟨.of N' (ps := p1) (by simp), .of N' (ps := p2) (by simp), trivial⟩
  · refine ex8 z fun _ _ _ _ _ _ _ _ hq0 => an5 hq0 fun _ _ _ _ z => ?_; try clear hq0
    exact z.elim
end Mine.Internal
set_option maxHeartbeats 8000000
set_option Elab.async true
namespace Mine.Internal.hd
theorem tw3375278095736836948 : True := ⟨⟩
theorem tw15997621484053126302 : True := ⟨⟩
theorem tw14851662188348016525 : True := ⟨⟩
theorem tw16056010900274531365 : True := ⟨⟩
theorem tw12818627796774177369 : True := ⟨⟩
theorem tw12796116070787326683 : True := ⟨⟩
theorem tw6522172905358542568 : True := ⟨⟩
theorem tw13955131345884952785 : True := ⟨⟩
theorem tw17587535071971633485 : True := ⟨⟩
theorem tw5562797223335664404 : True := ⟨⟩
theorem tw18314178852535619927 : True := ⟨⟩
theorem tw3299161351370674110 : True := ⟨⟩
theorem tw3694568018632376814 : True := ⟨⟩
theorem tw6658619521983790353 : True := ⟨⟩
theorem tw1514736985781360580 : True := ⟨⟩
theorem tw11130944772180058126 : True := ⟨⟩
theorem tw14263468659301548020 : True := ⟨⟩
theorem tw14727973948776507358 : True := ⟨⟩
theorem tw4392624960454411441 : True := ⟨⟩
theorem tw9439055975577994365 : True := ⟨⟩
theorem tw9191262796994957769 : True := ⟨⟩
theorem tw14068399292559793597 : True := ⟨⟩
theorem tw15954617418576163654 : True := ⟨⟩
theorem tw12448615408785822738 : True := ⟨⟩
theorem tw8886676353466617286 : True := ⟨⟩
theorem tw16876290765625790874 : True := ⟨⟩
theorem tw3696469011609010626 : True := ⟨⟩
theorem tw1884399729814107754 : True := ⟨⟩
theorem tw2857093527191813627 : True := ⟨⟩
theorem tw18416071368914092631 : True := ⟨⟩
theorem tw15210833644466028912 : True := ⟨⟩
theorem tw13034690579477884622 : True := ⟨⟩
theorem tw4853578551445522630 : True := ⟨⟩
theorem tw14260483616928936680 : True := ⟨⟩
theorem tw14899289831457817711 : True := ⟨⟩
theorem tw6760662844775422206 : True := ⟨⟩
theorem tw1756488131837449251 : True := ⟨⟩
theorem tw628826382804869247 : True := ⟨⟩
theorem tw2557189256652083335 : True := ⟨⟩
theorem tw893644547651322600 : True := ⟨⟩
theorem tw15575071372768740936 : True := ⟨⟩
theorem tw11432382262962725059 : True := ⟨⟩
theorem tw15208779795234195778 : True := ⟨⟩
theorem tw4834755124440303813 : True := ⟨⟩
theorem tw13152900647210115318 : True := ⟨⟩
theorem tw12580157457374322825 : True := ⟨⟩
theorem tw5654540503010958517 : True := ⟨⟩
theorem tw14076141398139754965 : True := ⟨⟩
theorem tw270159884227141191 : True := ⟨⟩
theorem tw195797228579154521 : True := ⟨⟩
theorem tw10913585522690886933 : True := ⟨⟩
theorem tw18045596184195472670 : True := ⟨⟩
theorem tw5216735753287636777 : True := ⟨⟩
theorem tw16045600132092593285 : True := ⟨⟩
theorem tw13953861978323313743 : True := ⟨⟩
theorem tw1311894858572065410 : True := ⟨⟩
theorem tw12023000035769693673 : True := ⟨⟩
theorem tw17682009817383010814 : True := ⟨⟩
theorem tw7076120885198085643 : True := ⟨⟩
theorem tw8019583575661373409 : True := ⟨⟩
theorem tw10257909930514227660 : True := ⟨⟩
theorem tw7808421317679229744 : True := ⟨⟩
theorem tw3732530698148308345 : True := ⟨⟩
theorem tw3241314515751092627 : True := ⟨⟩
theorem tw7046368057735379631 : True := ⟨⟩
theorem tw2601553834287326237 : True := ⟨⟩
theorem tw15872721093973134059 : True := ⟨⟩
theorem tw15645235441062275636 : True := ⟨⟩
theorem tw14170626163746665929 : True := ⟨⟩
theorem tw16331016480089262388 : True := ⟨⟩
theorem tw6418394132375852581 : True := ⟨⟩
theorem tw7483599358628703746 : True := ⟨⟩
theorem tw9687556985513317663 : True := ⟨⟩
theorem tw16762059770042763196 : True := ⟨⟩
theorem tw1838016361993159935 : True := ⟨⟩
theorem tw9366875484532515407 : True := ⟨⟩
theorem tw9013603393401162020 : True := ⟨⟩
theorem tw12917748928761252462 : True := ⟨⟩
theorem tw13673710656853086251 : True := ⟨⟩
theorem tw4507420085913086705 : True := ⟨⟩
theorem tw4455062051430825911 : True := ⟨⟩
theorem tw8620653264166131082 : True := ⟨⟩
theorem tw15210470473946732509 : True := ⟨⟩
theorem tw11060829935219159128 : True := ⟨⟩
theorem tw15725300006707927175 : True := ⟨⟩
theorem tw2130250830938240763 : True := ⟨⟩
theorem tw15610926135251115398 : True := ⟨⟩
theorem tw5079330015975024831 : True := ⟨⟩
theorem tw17848483983322774464 : True := ⟨⟩
theorem tw3261694639857263868 : True := ⟨⟩
theorem tw16028368227544363629 : True := ⟨⟩
theorem tw9812517637422296469 : True := ⟨⟩
theorem tw14885124812403076695 : True := ⟨⟩
theorem tw14295902748450531312 : True := ⟨⟩
theorem tw12899943327723670910 : True := ⟨⟩
theorem tw7670109990956578547 : True := ⟨⟩
theorem tw13988012559056256269 : True := ⟨⟩
theorem tw17438610683811369668 : True := ⟨⟩
theorem tw17777096316016710046 : True := ⟨⟩
theorem tw17523582860893176437 : True := ⟨⟩
theorem tw13056049162108353537 : True := ⟨⟩
theorem tw2488860425557155003 : True := ⟨⟩
theorem tw4577393864431605276 : True := ⟨⟩
theorem tw13292936899121948504 : True := ⟨⟩
theorem tw15170166819509798712 : True := ⟨⟩
theorem tw803298182361166000 : True := ⟨⟩
theorem tw2942616286324163607 : True := ⟨⟩
theorem tw15027813657048799489 : True := ⟨⟩
theorem tw8764165114954018434 : True := ⟨⟩
theorem tw9368504840272485767 : True := ⟨⟩
theorem tw287947231083746679 : True := ⟨⟩
theorem tw14234986236628817851 : True := ⟨⟩
theorem tw10624226597165476215 : True := ⟨⟩
theorem tw9826395005243518002 : True := ⟨⟩
theorem tw7095182050415464044 : True := ⟨⟩
theorem tw5155557033790407861 : True := ⟨⟩
theorem tw1173135590058218265 : True := ⟨⟩
theorem tw896392117091262416 : True := ⟨⟩
theorem tw7928477069593319606 : True := ⟨⟩
theorem tw14569192112799493162 : True := ⟨⟩
theorem tw13610488569139708922 : True := ⟨⟩
theorem tw1070806864712125225 : True := ⟨⟩
theorem tw8386983601427270016 : True := ⟨⟩
theorem tw3613764528863817497 : True := ⟨⟩
theorem tw18002567053797782338 : True := ⟨⟩
theorem tw17110113439582799386 : True := ⟨⟩
theorem tw11328591614603762405 : True := ⟨⟩
theorem tw9046533771756868877 : True := ⟨⟩
theorem tw588414361728750325 : True := ⟨⟩
theorem tw5585562161386960571 : True := ⟨⟩
theorem tw9180358300632990600 : True := ⟨⟩
theorem tw16987089875077307720 : True := ⟨⟩
theorem tw3713774561306115620 : True := ⟨⟩
theorem tw15161326946880079398 : True := ⟨⟩
theorem tw7828148429267724845 : True := ⟨⟩
theorem tw10610930620100246578 : True := ⟨⟩
theorem tw9372208762206411727 : True := ⟨⟩
theorem tw15473961653952966477 : True := ⟨⟩
theorem tw15328818835906777346 : True := ⟨⟩
theorem tw7524951473946329476 : True := ⟨⟩
theorem tw13522595751371437881 : True := ⟨⟩
theorem tw8418850081465071547 : True := ⟨⟩
theorem tw7306873896866421051 : True := ⟨⟩
theorem tw16611703323094282476 : True := ⟨⟩
theorem tw6350475880396880301 : True := ⟨⟩
theorem tw16874378897286668274 : True := ⟨⟩
theorem tw15850850952774717093 : True := ⟨⟩
theorem tw2634524516542322496 : True := ⟨⟩
theorem tw9729328000736971776 : True := ⟨⟩
theorem tw13562634003028335048 : True := ⟨⟩
theorem tw14304563500966998132 : True := ⟨⟩
theorem tw12634883239147335504 : True := ⟨⟩
theorem tw12149660499277099224 : True := ⟨⟩
theorem tw6064361311239337953 : True := ⟨⟩
theorem tw11170986363074059871 : True := ⟨⟩
theorem tw1513407473488127497 : True := ⟨⟩
theorem tw17745206419663925312 : True := ⟨⟩
theorem tw6156775387982992289 : True := ⟨⟩
theorem tw8620886767091428669 : True := ⟨⟩
theorem tw3312639428575888987 : True := ⟨⟩
theorem tw8184985727622759877 : True := ⟨⟩
theorem tw17237978297281736309 : True := ⟨⟩
theorem tw9061976029859154695 : True := ⟨⟩
theorem tw15101716383203956559 : True := ⟨⟩
theorem tw4413494717353474276 : True := ⟨⟩
theorem tw16575594610192822480 : True := ⟨⟩
theorem tw18313958262992902728 : True := ⟨⟩
theorem tw6742079255410503971 : True := ⟨⟩
theorem tw10777565216647047016 : True := ⟨⟩
theorem tw8113946606531873331 : True := ⟨⟩
theorem tw17562630884545722471 : True := ⟨⟩
theorem tw2277299923939199616 : True := ⟨⟩
theorem tw18001230695176581838 : True := ⟨⟩
theorem tw4794295470348331434 : True := ⟨⟩
theorem tw14154010076438239110 : True := ⟨⟩
theorem tw2938735568688020788 : True := ⟨⟩
theorem tw7504022934668878425 : True := ⟨⟩
theorem tw5636303146250169470 : True := ⟨⟩
theorem tw14479959197142875710 : True := ⟨⟩
theorem tw8594091374061654533 : True := ⟨⟩
theorem tw3517015006915437578 : True := ⟨⟩
theorem tw14194955961183906216 : True := ⟨⟩
theorem tw14784423416584386534 : True := ⟨⟩
theorem tw13253541544203528774 : True := ⟨⟩
theorem tw10193104807299194216 : True := ⟨⟩
theorem tw12978694689486476534 : True := ⟨⟩
theorem tw58351903789159699 : True := ⟨⟩
theorem tw15265042437909298333 : True := ⟨⟩
theorem tw4887793233202170652 : True := ⟨⟩
theorem tw18225048404721366151 : True := ⟨⟩
theorem tw17244905008012452814 : True := ⟨⟩
theorem tw69890677706110351 : True := ⟨⟩
theorem tw6264115543738340563 : True := ⟨⟩
theorem tw1235247223174674489 : True := ⟨⟩
theorem tw18212267438146297484 : True := ⟨⟩
theorem tw1324119301739381 : True := ⟨⟩
theorem tw16738745784312259678 : True := ⟨⟩
theorem tw1434398142359552746 : True := ⟨⟩
theorem tw4144914912218024235 : True := ⟨⟩
theorem tw11815352881546339388 : True := ⟨⟩
theorem tw15544853520655005638 : True := ⟨⟩
theorem tw9205932166849929317 : True := ⟨⟩
theorem tw2582875464695293758 : True := ⟨⟩
theorem tw187721451887068916 : True := ⟨⟩
theorem tw4996283469597685290 : True := ⟨⟩
theorem tw12904261374257909793 : True := ⟨⟩
theorem tw73932630633417052 : True := ⟨⟩
theorem tw5330046652437701267 : True := ⟨⟩
theorem tw4318662949951621594 : True := ⟨⟩
theorem tw17734745681671571602 : True := ⟨⟩
theorem tw18280231356768202928 : True := ⟨⟩
theorem tw3916285193714390168 : True := ⟨⟩
theorem tw5469443151430644227 : True := ⟨⟩
theorem tw3076281753983609132 : True := ⟨⟩
theorem tw2487633121026635805 : True := ⟨⟩
theorem tw6034331834246549318 : True := ⟨⟩
theorem tw6100019897110745148 : True := ⟨⟩
theorem tw3564083277989941625 : True := ⟨⟩
theorem tw168994441188853045 : True := ⟨⟩
theorem tw3867037960071472045 : True := ⟨⟩
theorem tw11203017424089718567 : True := ⟨⟩
theorem tw2116293081078497426 : True := ⟨⟩
theorem tw9959168783939394535 : True := ⟨⟩
theorem tw8753742132941547738 : True := ⟨⟩
theorem tw17287459089854585945 : True := ⟨⟩
theorem tw8390539997926843411 : True := ⟨⟩
theorem tw3416535462228283139 : True := ⟨⟩
theorem tw12887234407305532606 : True := ⟨⟩
theorem tw12538513643702813137 : True := ⟨⟩
theorem tw8890726212758104139 : True := ⟨⟩
theorem tw16912601836600679760 : True := ⟨⟩
theorem tw10056392159520603492 : True := ⟨⟩
theorem tw15127604789221709464 : True := ⟨⟩
theorem tw17877473435196805177 : True := ⟨⟩
theorem tw1280408269989808285 : True := ⟨⟩
theorem tw4158538966326616356 : True := ⟨⟩
theorem tw1209259664397189692 : True := ⟨⟩
theorem tw3062554034549116351 : True := ⟨⟩
theorem tw3219386304998410691 : True := ⟨⟩
theorem tw80207222412747470 : True := ⟨⟩
theorem tw7107885837275350853 : True := ⟨⟩
theorem tw18066081243835392563 : True := ⟨⟩
theorem tw18344054339320819672 : True := ⟨⟩
theorem tw1292574782506224866 : True := ⟨⟩
theorem tw6383293400628747032 : True := ⟨⟩
theorem tw5588271506499744379 : True := ⟨⟩
theorem tw15834621417332309486 : True := ⟨⟩
theorem tw1760938099516911481 : True := ⟨⟩
theorem tw1387449649885023538 : True := ⟨⟩
theorem tw11360155759697910294 : True := ⟨⟩
theorem tw2782680217427406503 : True := ⟨⟩
theorem tw8974285638726340953 : True := ⟨⟩
theorem tw6714678847661489262 : True := ⟨⟩
theorem tw4551586886017427205 : True := ⟨⟩
theorem tw15441256140065102201 : True := ⟨⟩
theorem tw141379768648097825 : True := ⟨⟩
theorem tw2217210030526828308 : True := ⟨⟩
theorem tw11810988563341916252 : True := ⟨⟩
theorem tw6584964919600876763 : True := ⟨⟩
theorem tw2417802982746472137 : True := ⟨⟩
theorem tw14323767728887713897 : True := ⟨⟩
theorem tw13814786413287485596 : True := ⟨⟩
theorem tw11656587275550533016 : True := ⟨⟩
theorem tw9464389324830640952 : True := ⟨⟩
theorem tw2655586099545260437 : True := ⟨⟩
theorem tw8434754763198761545 : True := ⟨⟩
theorem tw2908595245633717595 : True := ⟨⟩
theorem tw3780787445193727532 : True := ⟨⟩
theorem tw8971800947757722863 : True := ⟨⟩
theorem tw865256926295866735 : True := ⟨⟩
theorem tw4572055151466897615 : True := ⟨⟩
theorem tw9807025249006525022 : True := ⟨⟩
theorem tw8631647698044649071 : True := ⟨⟩
theorem tw5848525411004977341 : True := ⟨⟩
theorem tw5109750279720785074 : True := ⟨⟩
theorem tw10932325485557636262 : True := ⟨⟩
theorem tw6585647535407982122 : True := ⟨⟩
theorem tw11155353856842241703 : True := ⟨⟩
theorem tw11082318014727886095 : True := ⟨⟩
theorem tw10098858484532871584 : True := ⟨⟩
theorem tw5165858259965997201 : True := ⟨⟩
theorem tw3731684781155429145 : True := ⟨⟩
theorem tw16064010049021166651 : True := ⟨⟩
theorem tw123068294514122753 : True := ⟨⟩
theorem tw12284123929361467263 : True := ⟨⟩
theorem tw7569833724000825925 : True := ⟨⟩
theorem tw6179258418468663141 : True := ⟨⟩
theorem tw5963049168890907350 : True := ⟨⟩
theorem tw3595355477287675206 : True := ⟨⟩
theorem tw2075781144131075437 : True := ⟨⟩
theorem tw9465431125875546204 : True := ⟨⟩
theorem tw7182486151376732564 : True := ⟨⟩
theorem tw7669143873086936922 : True := ⟨⟩
theorem tw10671393477618117455 : True := ⟨⟩
theorem tw16698072605275554026 : True := ⟨⟩
theorem tw8149274712835364755 : True := ⟨⟩
theorem tw4484312828943147451 : True := ⟨⟩
theorem tw14811596470062305402 : True := ⟨⟩
theorem tw17548301592722837999 : True := ⟨⟩
theorem tw17204449605386721941 : True := ⟨⟩
theorem tw10976678710191227778 : True := ⟨⟩
theorem tw14946310595379027892 : True := ⟨⟩
theorem tw6778391522916555698 : True := ⟨⟩
theorem tw15614994299816657964 : True := ⟨⟩
theorem tw8363449657656907623 : True := ⟨⟩
theorem tw16009306857160682382 : True := ⟨⟩
theorem tw13397267326918798082 : True := ⟨⟩
theorem tw3751741238260587452 : True := ⟨⟩
theorem tw17698727481433063041 : True := ⟨⟩
theorem tw7343300513203493971 : True := ⟨⟩
theorem tw5695148799593641189 : True := ⟨⟩
theorem tw1844586762473781984 : True := ⟨⟩
theorem tw15373592851439433439 : True := ⟨⟩
theorem tw6196946367736269074 : True := ⟨⟩
theorem tw4544679596462431387 : True := ⟨⟩
theorem tw2234841607322767675 : True := ⟨⟩
theorem tw5197284449146708579 : True := ⟨⟩
theorem tw12083575760338326149 : True := ⟨⟩
theorem tw778996663928911553 : True := ⟨⟩
theorem tw17630102493349999429 : True := ⟨⟩
theorem tw13345808911917323032 : True := ⟨⟩
theorem tw7350544599812273793 : True := ⟨⟩
theorem tw5498244211294084031 : True := ⟨⟩
theorem tw1728196956790604047 : True := ⟨⟩
theorem tw1532897608927182526 : True := ⟨⟩
theorem tw13721701085657304472 : True := ⟨⟩
theorem tw14330866029970894518 : True := ⟨⟩
theorem tw1006474142936029432 : True := ⟨⟩
theorem tw8376689464294639256 : True := ⟨⟩
theorem tw12063813234649006523 : True := ⟨⟩
theorem tw7677069738282807967 : True := ⟨⟩
theorem tw4427974247585970236 : True := ⟨⟩
theorem tw8455509636433690358 : True := ⟨⟩
theorem tw4854368506661825922 : True := ⟨⟩
theorem tw1080807525618032726 : True := ⟨⟩
theorem tw880765996842172355 : True := ⟨⟩
theorem tw16973133056051306746 : True := ⟨⟩
theorem tw7238881122909273056 : True := ⟨⟩
theorem tw5504556581544584004 : True := ⟨⟩
theorem tw13054651096227442229 : True := ⟨⟩
theorem tw14585109114721359362 : True := ⟨⟩
theorem tw3992577438768274325 : True := ⟨⟩
theorem tw7966823312900173658 : True := ⟨⟩
theorem tw3692403537964248751 : True := ⟨⟩
theorem tw9424071236715195469 : True := ⟨⟩
theorem tw10554151724961605560 : True := ⟨⟩
theorem tw3490399344014754336 : True := ⟨⟩
theorem tw7635829786263382596 : True := ⟨⟩
theorem tw7430934849479919532 : True := ⟨⟩
theorem tw10200596682531068870 : True := ⟨⟩
theorem tw10200059711980206030 : True := ⟨⟩
theorem tw7690266627064258982 : True := ⟨⟩
theorem tw1626954789893016217 : True := ⟨⟩
theorem tw9365843419700471067 : True := ⟨⟩
theorem tw10953358419278093953 : True := ⟨⟩
theorem tw5058971680067830842 : True := ⟨⟩
theorem tw3058765270845314565 : True := ⟨⟩
theorem tw16568257914760601096 : True := ⟨⟩
theorem tw1479833339227408067 : True := ⟨⟩
theorem tw4855435815858847083 : True := ⟨⟩
theorem tw15068095265764424882 : True := ⟨⟩
theorem tw16490958093706603973 : True := ⟨⟩
theorem tw16192249821931289364 : True := ⟨⟩
theorem tw2389079507042779699 : True := ⟨⟩
theorem tw10418821070498059912 : True := ⟨⟩
theorem tw5604250919994444252 : True := ⟨⟩
theorem tw1487619136494144620 : True := ⟨⟩
theorem tw9417033243287817803 : True := ⟨⟩
theorem tw9276349011584097663 : True := ⟨⟩
theorem tw9193979096431994668 : True := ⟨⟩
theorem tw791894052214622578 : True := ⟨⟩
theorem tw13436793889874751463 : True := ⟨⟩
theorem tw12280789728482893115 : True := ⟨⟩
theorem tw11243312107713688672 : True := ⟨⟩
theorem tw1480571949376996046 : True := ⟨⟩
theorem tw7104915865109316593 : True := ⟨⟩
theorem tw12382532101624025837 : True := ⟨⟩
theorem tw10611771540298893143 : True := ⟨⟩
theorem tw18272491874396864091 : True := ⟨⟩
theorem tw9503991325330020860 : True := ⟨⟩
theorem tw11476253306716732098 : True := ⟨⟩
theorem tw6324595852799433117 : True := ⟨⟩
theorem tw17714025838733488182 : True := ⟨⟩
theorem tw7459606713180098869 : True := ⟨⟩
theorem tw16898703421338395802 : True := ⟨⟩
theorem tw17992777665364332788 : True := ⟨⟩
theorem tw9139467792480963413 : True := ⟨⟩
theorem tw16821842716671950988 : True := ⟨⟩
theorem tw14487415735459167684 : True := ⟨⟩
theorem tw12752725365382290980 : True := ⟨⟩
theorem tw10584903055604394054 : True := ⟨⟩
theorem tw18257728168264807195 : True := ⟨⟩
theorem tw16860289788575630689 : True := ⟨⟩
theorem tw5594199804548315133 : True := ⟨⟩
theorem tw4958336132010393679 : True := ⟨⟩
theorem tw4873480283540838167 : True := ⟨⟩
theorem tw6128699546485818623 : True := ⟨⟩
theorem tw3020274298221478276 : True := ⟨⟩
theorem tw6597962789093873526 : True := ⟨⟩
theorem tw543636222009071611 : True := ⟨⟩
theorem tw18260245816743181511 : True := ⟨⟩
theorem tw231678842138440352 : True := ⟨⟩
theorem tw12387470312852788890 : True := ⟨⟩
theorem tw3655753129109681850 : True := ⟨⟩
theorem tw1847498129718734126 : True := ⟨⟩
theorem tw17519745973974767739 : True := ⟨⟩
theorem tw15722214150439884324 : True := ⟨⟩
theorem tw1295079835146089599 : True := ⟨⟩
theorem tw10305269356859574647 : True := ⟨⟩
theorem tw9692193050773601005 : True := ⟨⟩
theorem tw1942723855846508794 : True := ⟨⟩
theorem tw18229235640690726180 : True := ⟨⟩
theorem tw17631733924889304326 : True := ⟨⟩
theorem tw14791417324727343718 : True := ⟨⟩
theorem tw10592794516085672850 : True := ⟨⟩
theorem tw4901217085786567169 : True := ⟨⟩
theorem tw11680542252808841068 : True := ⟨⟩
theorem tw6046201485432095634 : True := ⟨⟩
theorem tw1523212933880916979 : True := ⟨⟩
theorem tw9810849677208565135 : True := ⟨⟩
theorem tw2241180450144564393 : True := ⟨⟩
theorem tw14662617371843658649 : True := ⟨⟩
theorem tw4992423415846252249 : True := ⟨⟩
theorem tw17419490979579898423 : True := ⟨⟩
theorem tw9691164852092459200 : True := ⟨⟩
theorem tw13675884382191442351 : True := ⟨⟩
theorem tw8138335841240258086 : True := ⟨⟩
theorem tw14874740015416403351 : True := ⟨⟩
theorem tw13291438424144138419 : True := ⟨⟩
theorem tw9452872987620912765 : True := ⟨⟩
theorem tw9240168550403210075 : True := ⟨⟩
theorem tw9221647939110133654 : True := ⟨⟩
theorem tw7562163892257148404 : True := ⟨⟩
theorem tw567898682632124531 : True := ⟨⟩
theorem tw5533284921534288411 : True := ⟨⟩
theorem tw4736157901138370405 : True := ⟨⟩
theorem tw428484052712917160 : True := ⟨⟩
theorem tw2173964782534647824 : True := ⟨⟩
theorem tw1984363972637095396 : True := ⟨⟩
theorem tw1861754713845661025 : True := ⟨⟩
theorem tw17896979994045829828 : True := ⟨⟩
theorem tw17873168446024335648 : True := ⟨⟩
theorem tw1736350178976864181 : True := ⟨⟩
theorem tw17148754175671867601 : True := ⟨⟩
theorem tw16607972267231536329 : True := ⟨⟩
theorem tw16531839799347345522 : True := ⟨⟩
theorem tw15974211974722447953 : True := ⟨⟩
theorem tw15482834225003803977 : True := ⟨⟩
theorem tw14066897420323017581 : True := ⟨⟩
theorem tw13585729697985622802 : True := ⟨⟩
theorem tw13029036752043021494 : True := ⟨⟩
theorem tw12481797993636667465 : True := ⟨⟩
theorem tw10503033235834121926 : True := ⟨⟩
theorem tw1479440292816680990 : True := ⟨⟩
theorem tw690909109011163107 : True := ⟨⟩
theorem tw9576667148146664971 : True := ⟨⟩
theorem tw9027985886240724871 : True := ⟨⟩
theorem tw8994223850203857199 : True := ⟨⟩
theorem tw8983397095688490290 : True := ⟨⟩
theorem tw8637924245605089610 : True := ⟨⟩
theorem tw16732195475098059574 : True := ⟨⟩
theorem tw16633321846759511662 : True := ⟨⟩
theorem tw12386524454841638718 : True := ⟨⟩
theorem tw11122842944015723790 : True := ⟨⟩
theorem tw6812285832159228509 : True := ⟨⟩
theorem tw5479632107175813453 : True := ⟨⟩
theorem tw3503359234994187029 : True := ⟨⟩
theorem tw2155373148024153087 : True := ⟨⟩
theorem tw14199497947161861042 : True := ⟨⟩
theorem tw11043565332798135927 : True := ⟨⟩
theorem tw10982043714301441875 : True := ⟨⟩
theorem tw10314814847376767113 : True := ⟨⟩
theorem tw1555437378128666086 : True := ⟨⟩
theorem tw6235530936889558916 : True := ⟨⟩
theorem tw10287841801749109433 : True := ⟨⟩
theorem tw27347020408234108 : True := ⟨⟩
theorem tw18352704746069975241 : True := ⟨⟩
theorem tw126899189614909607 : True := ⟨⟩
theorem tw9285060498679892708 : True := ⟨⟩
theorem tw6767105285010031935 : True := ⟨⟩
theorem tw5764951542481038590 : True := ⟨⟩
theorem tw4932915121498799041 : True := ⟨⟩
theorem tw4212550544905979133 : True := ⟨⟩
theorem tw18059793885086720939 : True := ⟨⟩
theorem tw16671430358935201974 : True := ⟨⟩
theorem tw15313804776001833728 : True := ⟨⟩
theorem tw12905145899662694839 : True := ⟨⟩
theorem tw10652557068286136655 : True := ⟨⟩
theorem tw5486493490053360157 : True := ⟨⟩
theorem tw10261226752179379232 : True := ⟨⟩
theorem tw9878135420369046608 : True := ⟨⟩
theorem tw9870564867049460845 : True := ⟨⟩
theorem tw9821591817271157005 : True := ⟨⟩
theorem tw9789424005658652060 : True := ⟨⟩
theorem tw9522278419015659552 : True := ⟨⟩
theorem tw9257564877634915833 : True := ⟨⟩
theorem tw8882255173952614290 : True := ⟨⟩
theorem tw8722938342819674158 : True := ⟨⟩
theorem tw8715868543458076471 : True := ⟨⟩
theorem tw8673760779264423547 : True := ⟨⟩
theorem tw8583156150137307454 : True := ⟨⟩
theorem tw8499867674576427667 : True := ⟨⟩
theorem tw8293519452102458304 : True := ⟨⟩
theorem tw7863745022479089229 : True := ⟨⟩
theorem tw7839665609038958061 : True := ⟨⟩
theorem tw7793654075249205795 : True := ⟨⟩
theorem tw754995371310844855 : True := ⟨⟩
theorem tw7529130512179515739 : True := ⟨⟩
theorem tw736559914600380603 : True := ⟨⟩
theorem tw7352393279153081721 : True := ⟨⟩
theorem tw7252744027004354421 : True := ⟨⟩
theorem tw7011742071773796823 : True := ⟨⟩
theorem tw6902259678686825763 : True := ⟨⟩
theorem tw6897007368991420636 : True := ⟨⟩
theorem tw6825992141876648016 : True := ⟨⟩
theorem tw6809180150348452684 : True := ⟨⟩
theorem tw6743835506366012284 : True := ⟨⟩
theorem tw6679102955309959600 : True := ⟨⟩
theorem tw6645754676732357884 : True := ⟨⟩
theorem tw6617686139246983403 : True := ⟨⟩
theorem tw6467283406827068179 : True := ⟨⟩
theorem tw6362447207671622590 : True := ⟨⟩
theorem tw6276673660110437445 : True := ⟨⟩
theorem tw6269251234911203764 : True := ⟨⟩
theorem tw6254241358121603344 : True := ⟨⟩
theorem tw6231300445862588781 : True := ⟨⟩
theorem tw6219950571994921479 : True := ⟨⟩
theorem tw6087493978418456603 : True := ⟨⟩
theorem tw603594558354810906 : True := ⟨⟩
theorem tw5930415463011625340 : True := ⟨⟩
theorem tw5910955368310942365 : True := ⟨⟩
theorem tw5766817342387943034 : True := ⟨⟩
theorem tw5724930324438531845 : True := ⟨⟩
theorem tw5630533868503338980 : True := ⟨⟩
theorem tw5462893749543862879 : True := ⟨⟩
theorem tw5285049794066362645 : True := ⟨⟩
theorem tw5246941504419573690 : True := ⟨⟩
theorem tw5129100327938481947 : True := ⟨⟩
theorem tw4812445951556440385 : True := ⟨⟩
theorem tw4650248630828124516 : True := ⟨⟩
theorem tw4636975807341552304 : True := ⟨⟩
theorem tw4568231203091369911 : True := ⟨⟩
theorem tw4535849701284284645 : True := ⟨⟩
theorem tw4458026342584188919 : True := ⟨⟩
theorem tw4445787948887339598 : True := ⟨⟩
theorem tw4412262172769576561 : True := ⟨⟩
theorem tw4324768590502034390 : True := ⟨⟩
theorem tw4277449665417238038 : True := ⟨⟩
theorem tw42479039228130786 : True := ⟨⟩
theorem tw4239049415839531936 : True := ⟨⟩
theorem tw4217311925018217667 : True := ⟨⟩
theorem tw420110763358337415 : True := ⟨⟩
theorem tw4184917019135499818 : True := ⟨⟩
theorem tw4011730449221504619 : True := ⟨⟩
theorem tw3896432864908169337 : True := ⟨⟩
theorem tw3877861454377741623 : True := ⟨⟩
theorem tw3610102804104083065 : True := ⟨⟩
theorem tw358998308624483670 : True := ⟨⟩
theorem tw3471617488691342163 : True := ⟨⟩
theorem tw3361780842719999595 : True := ⟨⟩
theorem tw3278898641362494929 : True := ⟨⟩
theorem tw324789982251995979 : True := ⟨⟩
theorem tw2848176756851099411 : True := ⟨⟩
theorem tw2796045569192068878 : True := ⟨⟩
theorem tw2777310486606898128 : True := ⟨⟩
theorem tw2485592187805179729 : True := ⟨⟩
theorem tw2399103561582609577 : True := ⟨⟩
theorem tw2382034009712293678 : True := ⟨⟩
theorem tw2310416840173604703 : True := ⟨⟩
theorem tw2253076609543119693 : True := ⟨⟩
theorem tw2245258775325047736 : True := ⟨⟩
theorem tw2177979273374649106 : True := ⟨⟩
theorem tw2114883523508822293 : True := ⟨⟩
theorem tw2092355116749281574 : True := ⟨⟩
theorem tw1976320048464600139 : True := ⟨⟩
theorem tw1920314895626431374 : True := ⟨⟩
theorem tw1874159405358719183 : True := ⟨⟩
theorem tw18403829441425892717 : True := ⟨⟩
theorem tw18251112825599106275 : True := ⟨⟩
theorem tw18153037698230563350 : True := ⟨⟩
theorem tw18150562674833509941 : True := ⟨⟩
theorem tw1802135716158502341 : True := ⟨⟩
theorem tw1764190043647282684 : True := ⟨⟩
theorem tw17510691922017120571 : True := ⟨⟩
theorem tw17480675751169399666 : True := ⟨⟩
theorem tw17417785148129514321 : True := ⟨⟩
theorem tw17386589932338058259 : True := ⟨⟩
theorem tw17327716533671561472 : True := ⟨⟩
theorem tw17213202801741711188 : True := ⟨⟩
theorem tw17085629754188750694 : True := ⟨⟩
theorem tw1697823684261348857 : True := ⟨⟩
theorem tw16869773528944115042 : True := ⟨⟩
theorem tw1669287690364492995 : True := ⟨⟩
theorem tw16655954734093074254 : True := ⟨⟩
theorem tw1665519426611977725 : True := ⟨⟩
theorem tw16644201821892198081 : True := ⟨⟩
theorem tw16561031784554278298 : True := ⟨⟩
theorem tw16558604503322718569 : True := ⟨⟩
theorem tw16555405951933438768 : True := ⟨⟩
theorem tw16222965213611063096 : True := ⟨⟩
theorem tw16116582832771544909 : True := ⟨⟩
theorem tw16049856711259736594 : True := ⟨⟩
theorem tw15972030042294211563 : True := ⟨⟩
theorem tw15831449180804048182 : True := ⟨⟩
theorem tw15808516280766499198 : True := ⟨⟩
theorem tw1575818370579092412 : True := ⟨⟩
theorem tw15709432073139065983 : True := ⟨⟩
theorem tw15662535594664088486 : True := ⟨⟩
theorem tw15459919231471728178 : True := ⟨⟩
theorem tw15362009611261821448 : True := ⟨⟩
theorem tw1527838690883220852 : True := ⟨⟩
theorem tw15184348022372230366 : True := ⟨⟩
theorem tw15080681613647853314 : True := ⟨⟩
theorem tw15015567032572629849 : True := ⟨⟩
theorem tw15008555091322755903 : True := ⟨⟩
theorem tw14846430730451215336 : True := ⟨⟩
theorem tw1479959440485337153 : True := ⟨⟩
theorem tw14766628837263464153 : True := ⟨⟩
theorem tw1425572920642684092 : True := ⟨⟩
theorem tw14252316831149585619 : True := ⟨⟩
theorem tw14228869016593613808 : True := ⟨⟩
theorem tw14204155614346801693 : True := ⟨⟩
theorem tw14117766483522153913 : True := ⟨⟩
theorem tw14084754144043732904 : True := ⟨⟩
theorem tw13997896966902399118 : True := ⟨⟩
theorem tw13894634725453916923 : True := ⟨⟩
theorem tw13862642468083079315 : True := ⟨⟩
theorem tw13819635886744424586 : True := ⟨⟩
theorem tw13704628199583507327 : True := ⟨⟩
theorem tw13661864377559211056 : True := ⟨⟩
theorem tw13565630665325419216 : True := ⟨⟩
theorem tw13411596345087251410 : True := ⟨⟩
theorem tw13402166490378460096 : True := ⟨⟩
theorem tw13257976950880005937 : True := ⟨⟩
theorem tw13185193354669925997 : True := ⟨⟩
theorem tw13078271307976294731 : True := ⟨⟩
theorem tw13016227033810113515 : True := ⟨⟩
theorem tw12801012565498045964 : True := ⟨⟩
theorem tw12785757555996779899 : True := ⟨⟩
theorem tw12652299772924304202 : True := ⟨⟩
theorem tw12426564226344084313 : True := ⟨⟩
theorem tw12289785986931056098 : True := ⟨⟩
theorem tw120949319569067898 : True := ⟨⟩
theorem tw12010918843540018363 : True := ⟨⟩
theorem tw11990059301537373963 : True := ⟨⟩
theorem tw11934350699983728027 : True := ⟨⟩
theorem tw11912248818721715553 : True := ⟨⟩
theorem tw11798513794507384182 : True := ⟨⟩
theorem tw11790099413888845297 : True := ⟨⟩
theorem tw11747188248321908775 : True := ⟨⟩
theorem tw11745692727488381282 : True := ⟨⟩
theorem tw1160317203684671307 : True := ⟨⟩
theorem tw11585793122591300342 : True := ⟨⟩
theorem tw11406844259604597016 : True := ⟨⟩
theorem tw11239992877300529265 : True := ⟨⟩
theorem tw11234803216861417679 : True := ⟨⟩
theorem tw11145164175221040675 : True := ⟨⟩
theorem tw1111395655364133852 : True := ⟨⟩
theorem tw1109879514587821502 : True := ⟨⟩
theorem tw11056149785067698321 : True := ⟨⟩
theorem tw11026102214843661311 : True := ⟨⟩
theorem tw10981247840145607329 : True := ⟨⟩
theorem tw10954896027920521500 : True := ⟨⟩
theorem tw10942831735398218583 : True := ⟨⟩
theorem tw10754876068304953247 : True := ⟨⟩
theorem tw10708561578853574150 : True := ⟨⟩
theorem tw1066297216363992635 : True := ⟨⟩
theorem tw10310522070392361284 : True := ⟨⟩
theorem tw10290247671117069052 : True := ⟨⟩
theorem tw10223230911338949651 : True := ⟨⟩
theorem tw10168931427177779312 : True := ⟨⟩
theorem tw10126381309830911881 : True := ⟨⟩
theorem tw10010880442989136664 : True := ⟨⟩
theorem tw10000147801426223185 : True := ⟨⟩
end Mine.Internal.hd
theorem Mine.Internal.hd : PySem.Challenge.rw_np0077_01.Holds := by
  w_on; o_law; k_head
  case hw => w_witness2
  k_go0
  refine Mine.Internal.join ?FK (by assumption) (by assumption) (by assumption) (by assumption) ?hco (by assumption) (by assumption) ?hm ?hL ?hsc ?hb ?hcl ?hn ?hxs ?hq
  case FK =>
    constructor
    all_goals first | kernel_rfl | exact ⟨by kernel_rfl, by kernel_rfl, by kernel_rfl, by kernel_rfl, by (repeat intro _); kernel_rfl⟩
  case hco => exact Eq.trans (b := Data.cell _) (by assumption) (by kernel_rfl)
  case hm => kernel_rfl
  case hL => exact And.right (a := 641 < _) (by assumption)
  case hsc => kernel_rfl
  case hb => kernel_rfl
  case hcl => kernel_rfl
  case hn => kernel_rfl
  case hxs => omega
  case hq =>
    intro s' m' F g o G
    refine ⟨goodW_bool F ?_ ?_ ?_ o, G⟩
    · exact g.trans (by assumption)
    · intro cls; rfl
    · kernel_rfl
theorem PySem.Challenge.cw_np0077_01_holds : PySem.Challenge.rw_np0077_01.Holds :=
  Mine.Internal.hd
