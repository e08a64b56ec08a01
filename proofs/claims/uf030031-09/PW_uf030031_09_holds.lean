import PyProof.Rows.All
import Wide.All
import Open.Line
import Open.Boot
import Open.Tree
import PySem.Challenge.RW_uf030031_09
set_option Elab.async false
set_option genSizeOf false

-- part LibOm
namespace Mine
theorem oc6 {A0 A1 A2 A3 A4 A5 P : Prop} (h : (((((A0 ∧ A1) ∧ A2) ∧ A3) ∧ A4) ∧ A5)) (k : A0 → A1 → A2 → A3 → A4 → A5 → P) : P := k h.1.1.1.1.1 h.1.1.1.1.2 h.1.1.1.2 h.1.1.2 h.1.2 h.2
theorem oc7 {A0 A1 A2 A3 A4 A5 A6 P : Prop} (h : ((((((A0 ∧ A1) ∧ A2) ∧ A3) ∧ A4) ∧ A5) ∧ A6)) (k : A0 → A1 → A2 → A3 → A4 → A5 → A6 → P) : P := k h.1.1.1.1.1.1 h.1.1.1.1.1.2 h.1.1.1.1.2 h.1.1.1.2 h.1.1.2 h.1.2 h.2
theorem ob02 {A0 A1 : Prop} {P : Prop} (h : A0 ∧ A1) (k : A0 → A1 → P) : P := k h.1 h.2
theorem ob03 {A0 A1 A2 : Prop} {P : Prop} (h : A0 ∧ A1 ∧ A2) (k : A0 → A1 → A2 → P) : P := k h.1 h.2.1 h.2.2
theorem ob04 {A0 A1 A2 A3 : Prop} {P : Prop} (h : A0 ∧ A1 ∧ A2 ∧ A3) (k : A0 → A1 → A2 → A3 → P) : P := k h.1 h.2.1 h.2.2.1 h.2.2.2
theorem ob05 {A0 A1 A2 A3 A4 : Prop} {P : Prop} (h : A0 ∧ A1 ∧ A2 ∧ A3 ∧ A4) (k : A0 → A1 → A2 → A3 → A4 → P) : P := k h.1 h.2.1 h.2.2.1 h.2.2.2.1 h.2.2.2.2
theorem ob08 {A0 A1 A2 A3 A4 A5 A6 A7 : Prop} {P : Prop} (h : A0 ∧ A1 ∧ A2 ∧ A3 ∧ A4 ∧ A5 ∧ A6 ∧ A7) (k : A0 → A1 → A2 → A3 → A4 → A5 → A6 → A7 → P) : P := k h.1 h.2.1 h.2.2.1 h.2.2.2.1 h.2.2.2.2.1 h.2.2.2.2.2.1 h.2.2.2.2.2.2.1 h.2.2.2.2.2.2.2
theorem ob11.{u0} {α0 : Sort u0} {A0 : α0 → Prop} {P : Prop} (h : ∃ x0, A0 x0) (k : ∀ x0, A0 x0 → P) : P := h.elim fun x0 h => k x0 h
theorem ob12.{u0} {α0 : Sort u0} {A0 A1 : α0 → Prop} {P : Prop} (h : ∃ x0, A0 x0 ∧ A1 x0) (k : ∀ x0, A0 x0 → A1 x0 → P) : P := h.elim fun x0 h => k x0 h.1 h.2
theorem ob13.{u0} {α0 : Sort u0} {A0 A1 A2 : α0 → Prop} {P : Prop} (h : ∃ x0, A0 x0 ∧ A1 x0 ∧ A2 x0) (k : ∀ x0, A0 x0 → A1 x0 → A2 x0 → P) : P := h.elim fun x0 h => k x0 h.1 h.2.1 h.2.2
theorem ob14.{u0} {α0 : Sort u0} {A0 A1 A2 A3 : α0 → Prop} {P : Prop} (h : ∃ x0, A0 x0 ∧ A1 x0 ∧ A2 x0 ∧ A3 x0) (k : ∀ x0, A0 x0 → A1 x0 → A2 x0 → A3 x0 → P) : P := h.elim fun x0 h => k x0 h.1 h.2.1 h.2.2.1 h.2.2.2
theorem ob15.{u0} {α0 : Sort u0} {A0 A1 A2 A3 A4 : α0 → Prop} {P : Prop} (h : ∃ x0, A0 x0 ∧ A1 x0 ∧ A2 x0 ∧ A3 x0 ∧ A4 x0) (k : ∀ x0, A0 x0 → A1 x0 → A2 x0 → A3 x0 → A4 x0 → P) : P := h.elim fun x0 h => k x0 h.1 h.2.1 h.2.2.1 h.2.2.2.1 h.2.2.2.2
theorem ob16.{u0} {α0 : Sort u0} {A0 A1 A2 A3 A4 A5 : α0 → Prop} {P : Prop} (h : ∃ x0, A0 x0 ∧ A1 x0 ∧ A2 x0 ∧ A3 x0 ∧ A4 x0 ∧ A5 x0) (k : ∀ x0, A0 x0 → A1 x0 → A2 x0 → A3 x0 → A4 x0 → A5 x0 → P) : P := h.elim fun x0 h => k x0 h.1 h.2.1 h.2.2.1 h.2.2.2.1 h.2.2.2.2.1 h.2.2.2.2.2
theorem ob17.{u0} {α0 : Sort u0} {A0 A1 A2 A3 A4 A5 A6 : α0 → Prop} {P : Prop} (h : ∃ x0, A0 x0 ∧ A1 x0 ∧ A2 x0 ∧ A3 x0 ∧ A4 x0 ∧ A5 x0 ∧ A6 x0) (k : ∀ x0, A0 x0 → A1 x0 → A2 x0 → A3 x0 → A4 x0 → A5 x0 → A6 x0 → P) : P := h.elim fun x0 h => k x0 h.1 h.2.1 h.2.2.1 h.2.2.2.1 h.2.2.2.2.1 h.2.2.2.2.2.1 h.2.2.2.2.2.2
theorem ob18.{u0} {α0 : Sort u0} {A0 A1 A2 A3 A4 A5 A6 A7 : α0 → Prop} {P : Prop} (h : ∃ x0, A0 x0 ∧ A1 x0 ∧ A2 x0 ∧ A3 x0 ∧ A4 x0 ∧ A5 x0 ∧ A6 x0 ∧ A7 x0) (k : ∀ x0, A0 x0 → A1 x0 → A2 x0 → A3 x0 → A4 x0 → A5 x0 → A6 x0 → A7 x0 → P) : P := h.elim fun x0 h => k x0 h.1 h.2.1 h.2.2.1 h.2.2.2.1 h.2.2.2.2.1 h.2.2.2.2.2.1 h.2.2.2.2.2.2.1 h.2.2.2.2.2.2.2
theorem ob21.{u0, u1} {α0 : Sort u0} {α1 : Sort u1} {A0 : α0 → α1 → Prop} {P : Prop} (h : ∃ x0 x1, A0 x0 x1) (k : ∀ x0 x1, A0 x0 x1 → P) : P := h.elim fun x0 h => h.elim fun x1 h => k x0 x1 h
theorem ob22.{u0, u1} {α0 : Sort u0} {α1 : Sort u1} {A0 A1 : α0 → α1 → Prop} {P : Prop} (h : ∃ x0 x1, A0 x0 x1 ∧ A1 x0 x1) (k : ∀ x0 x1, A0 x0 x1 → A1 x0 x1 → P) : P := h.elim fun x0 h => h.elim fun x1 h => k x0 x1 h.1 h.2
theorem ob23.{u0, u1} {α0 : Sort u0} {α1 : Sort u1} {A0 A1 A2 : α0 → α1 → Prop} {P : Prop} (h : ∃ x0 x1, A0 x0 x1 ∧ A1 x0 x1 ∧ A2 x0 x1) (k : ∀ x0 x1, A0 x0 x1 → A1 x0 x1 → A2 x0 x1 → P) : P := h.elim fun x0 h => h.elim fun x1 h => k x0 x1 h.1 h.2.1 h.2.2
theorem ob24.{u0, u1} {α0 : Sort u0} {α1 : Sort u1} {A0 A1 A2 A3 : α0 → α1 → Prop} {P : Prop} (h : ∃ x0 x1, A0 x0 x1 ∧ A1 x0 x1 ∧ A2 x0 x1 ∧ A3 x0 x1) (k : ∀ x0 x1, A0 x0 x1 → A1 x0 x1 → A2 x0 x1 → A3 x0 x1 → P) : P := h.elim fun x0 h => h.elim fun x1 h => k x0 x1 h.1 h.2.1 h.2.2.1 h.2.2.2
theorem ob25.{u0, u1} {α0 : Sort u0} {α1 : Sort u1} {A0 A1 A2 A3 A4 : α0 → α1 → Prop} {P : Prop} (h : ∃ x0 x1, A0 x0 x1 ∧ A1 x0 x1 ∧ A2 x0 x1 ∧ A3 x0 x1 ∧ A4 x0 x1) (k : ∀ x0 x1, A0 x0 x1 → A1 x0 x1 → A2 x0 x1 → A3 x0 x1 → A4 x0 x1 → P) : P := h.elim fun x0 h => h.elim fun x1 h => k x0 x1 h.1 h.2.1 h.2.2.1 h.2.2.2.1 h.2.2.2.2
theorem ob26.{u0, u1} {α0 : Sort u0} {α1 : Sort u1} {A0 A1 A2 A3 A4 A5 : α0 → α1 → Prop} {P : Prop} (h : ∃ x0 x1, A0 x0 x1 ∧ A1 x0 x1 ∧ A2 x0 x1 ∧ A3 x0 x1 ∧ A4 x0 x1 ∧ A5 x0 x1) (k : ∀ x0 x1, A0 x0 x1 → A1 x0 x1 → A2 x0 x1 → A3 x0 x1 → A4 x0 x1 → A5 x0 x1 → P) : P := h.elim fun x0 h => h.elim fun x1 h => k x0 x1 h.1 h.2.1 h.2.2.1 h.2.2.2.1 h.2.2.2.2.1 h.2.2.2.2.2
theorem ob27.{u0, u1} {α0 : Sort u0} {α1 : Sort u1} {A0 A1 A2 A3 A4 A5 A6 : α0 → α1 → Prop} {P : Prop} (h : ∃ x0 x1, A0 x0 x1 ∧ A1 x0 x1 ∧ A2 x0 x1 ∧ A3 x0 x1 ∧ A4 x0 x1 ∧ A5 x0 x1 ∧ A6 x0 x1) (k : ∀ x0 x1, A0 x0 x1 → A1 x0 x1 → A2 x0 x1 → A3 x0 x1 → A4 x0 x1 → A5 x0 x1 → A6 x0 x1 → P) : P := h.elim fun x0 h => h.elim fun x1 h => k x0 x1 h.1 h.2.1 h.2.2.1 h.2.2.2.1 h.2.2.2.2.1 h.2.2.2.2.2.1 h.2.2.2.2.2.2
theorem ob28.{u0, u1} {α0 : Sort u0} {α1 : Sort u1} {A0 A1 A2 A3 A4 A5 A6 A7 : α0 → α1 → Prop} {P : Prop} (h : ∃ x0 x1, A0 x0 x1 ∧ A1 x0 x1 ∧ A2 x0 x1 ∧ A3 x0 x1 ∧ A4 x0 x1 ∧ A5 x0 x1 ∧ A6 x0 x1 ∧ A7 x0 x1) (k : ∀ x0 x1, A0 x0 x1 → A1 x0 x1 → A2 x0 x1 → A3 x0 x1 → A4 x0 x1 → A5 x0 x1 → A6 x0 x1 → A7 x0 x1 → P) : P := h.elim fun x0 h => h.elim fun x1 h => k x0 x1 h.1 h.2.1 h.2.2.1 h.2.2.2.1 h.2.2.2.2.1 h.2.2.2.2.2.1 h.2.2.2.2.2.2.1 h.2.2.2.2.2.2.2
theorem ob31.{u0, u1, u2} {α0 : Sort u0} {α1 : Sort u1} {α2 : Sort u2} {A0 : α0 → α1 → α2 → Prop} {P : Prop} (h : ∃ x0 x1 x2, A0 x0 x1 x2) (k : ∀ x0 x1 x2, A0 x0 x1 x2 → P) : P := h.elim fun x0 h => h.elim fun x1 h => h.elim fun x2 h => k x0 x1 x2 h
theorem ob32.{u0, u1, u2} {α0 : Sort u0} {α1 : Sort u1} {α2 : Sort u2} {A0 A1 : α0 → α1 → α2 → Prop} {P : Prop} (h : ∃ x0 x1 x2, A0 x0 x1 x2 ∧ A1 x0 x1 x2) (k : ∀ x0 x1 x2, A0 x0 x1 x2 → A1 x0 x1 x2 → P) : P := h.elim fun x0 h => h.elim fun x1 h => h.elim fun x2 h => k x0 x1 x2 h.1 h.2
theorem ob33.{u0, u1, u2} {α0 : Sort u0} {α1 : Sort u1} {α2 : Sort u2} {A0 A1 A2 : α0 → α1 → α2 → Prop} {P : Prop} (h : ∃ x0 x1 x2, A0 x0 x1 x2 ∧ A1 x0 x1 x2 ∧ A2 x0 x1 x2) (k : ∀ x0 x1 x2, A0 x0 x1 x2 → A1 x0 x1 x2 → A2 x0 x1 x2 → P) : P := h.elim fun x0 h => h.elim fun x1 h => h.elim fun x2 h => k x0 x1 x2 h.1 h.2.1 h.2.2
theorem ob34.{u0, u1, u2} {α0 : Sort u0} {α1 : Sort u1} {α2 : Sort u2} {A0 A1 A2 A3 : α0 → α1 → α2 → Prop} {P : Prop} (h : ∃ x0 x1 x2, A0 x0 x1 x2 ∧ A1 x0 x1 x2 ∧ A2 x0 x1 x2 ∧ A3 x0 x1 x2) (k : ∀ x0 x1 x2, A0 x0 x1 x2 → A1 x0 x1 x2 → A2 x0 x1 x2 → A3 x0 x1 x2 → P) : P := h.elim fun x0 h => h.elim fun x1 h => h.elim fun x2 h => k x0 x1 x2 h.1 h.2.1 h.2.2.1 h.2.2.2
theorem ob35.{u0, u1, u2} {α0 : Sort u0} {α1 : Sort u1} {α2 : Sort u2} {A0 A1 A2 A3 A4 : α0 → α1 → α2 → Prop} {P : Prop} (h : ∃ x0 x1 x2, A0 x0 x1 x2 ∧ A1 x0 x1 x2 ∧ A2 x0 x1 x2 ∧ A3 x0 x1 x2 ∧ A4 x0 x1 x2) (k : ∀ x0 x1 x2, A0 x0 x1 x2 → A1 x0 x1 x2 → A2 x0 x1 x2 → A3 x0 x1 x2 → A4 x0 x1 x2 → P) : P := h.elim fun x0 h => h.elim fun x1 h => h.elim fun x2 h => k x0 x1 x2 h.1 h.2.1 h.2.2.1 h.2.2.2.1 h.2.2.2.2
theorem ob36.{u0, u1, u2} {α0 : Sort u0} {α1 : Sort u1} {α2 : Sort u2} {A0 A1 A2 A3 A4 A5 : α0 → α1 → α2 → Prop} {P : Prop} (h : ∃ x0 x1 x2, A0 x0 x1 x2 ∧ A1 x0 x1 x2 ∧ A2 x0 x1 x2 ∧ A3 x0 x1 x2 ∧ A4 x0 x1 x2 ∧ A5 x0 x1 x2) (k : ∀ x0 x1 x2, A0 x0 x1 x2 → A1 x0 x1 x2 → A2 x0 x1 x2 → A3 x0 x1 x2 → A4 x0 x1 x2 → A5 x0 x1 x2 → P) : P := h.elim fun x0 h => h.elim fun x1 h => h.elim fun x2 h => k x0 x1 x2 h.1 h.2.1 h.2.2.1 h.2.2.2.1 h.2.2.2.2.1 h.2.2.2.2.2
theorem ob37.{u0, u1, u2} {α0 : Sort u0} {α1 : Sort u1} {α2 : Sort u2} {A0 A1 A2 A3 A4 A5 A6 : α0 → α1 → α2 → Prop} {P : Prop} (h : ∃ x0 x1 x2, A0 x0 x1 x2 ∧ A1 x0 x1 x2 ∧ A2 x0 x1 x2 ∧ A3 x0 x1 x2 ∧ A4 x0 x1 x2 ∧ A5 x0 x1 x2 ∧ A6 x0 x1 x2) (k : ∀ x0 x1 x2, A0 x0 x1 x2 → A1 x0 x1 x2 → A2 x0 x1 x2 → A3 x0 x1 x2 → A4 x0 x1 x2 → A5 x0 x1 x2 → A6 x0 x1 x2 → P) : P := h.elim fun x0 h => h.elim fun x1 h => h.elim fun x2 h => k x0 x1 x2 h.1 h.2.1 h.2.2.1 h.2.2.2.1 h.2.2.2.2.1 h.2.2.2.2.2.1 h.2.2.2.2.2.2
theorem ob38.{u0, u1, u2} {α0 : Sort u0} {α1 : Sort u1} {α2 : Sort u2} {A0 A1 A2 A3 A4 A5 A6 A7 : α0 → α1 → α2 → Prop} {P : Prop} (h : ∃ x0 x1 x2, A0 x0 x1 x2 ∧ A1 x0 x1 x2 ∧ A2 x0 x1 x2 ∧ A3 x0 x1 x2 ∧ A4 x0 x1 x2 ∧ A5 x0 x1 x2 ∧ A6 x0 x1 x2 ∧ A7 x0 x1 x2) (k : ∀ x0 x1 x2, A0 x0 x1 x2 → A1 x0 x1 x2 → A2 x0 x1 x2 → A3 x0 x1 x2 → A4 x0 x1 x2 → A5 x0 x1 x2 → A6 x0 x1 x2 → A7 x0 x1 x2 → P) : P := h.elim fun x0 h => h.elim fun x1 h => h.elim fun x2 h => k x0 x1 x2 h.1 h.2.1 h.2.2.1 h.2.2.2.1 h.2.2.2.2.1 h.2.2.2.2.2.1 h.2.2.2.2.2.2.1 h.2.2.2.2.2.2.2
theorem ob41.{u0, u1, u2, u3} {α0 : Sort u0} {α1 : Sort u1} {α2 : Sort u2} {α3 : Sort u3} {A0 : α0 → α1 → α2 → α3 → Prop} {P : Prop} (h : ∃ x0 x1 x2 x3, A0 x0 x1 x2 x3) (k : ∀ x0 x1 x2 x3, A0 x0 x1 x2 x3 → P) : P := h.elim fun x0 h => h.elim fun x1 h => h.elim fun x2 h => h.elim fun x3 h => k x0 x1 x2 x3 h
theorem ob42.{u0, u1, u2, u3} {α0 : Sort u0} {α1 : Sort u1} {α2 : Sort u2} {α3 : Sort u3} {A0 A1 : α0 → α1 → α2 → α3 → Prop} {P : Prop} (h : ∃ x0 x1 x2 x3, A0 x0 x1 x2 x3 ∧ A1 x0 x1 x2 x3) (k : ∀ x0 x1 x2 x3, A0 x0 x1 x2 x3 → A1 x0 x1 x2 x3 → P) : P := h.elim fun x0 h => h.elim fun x1 h => h.elim fun x2 h => h.elim fun x3 h => k x0 x1 x2 x3 h.1 h.2
theorem ob43.{u0, u1, u2, u3} {α0 : Sort u0} {α1 : Sort u1} {α2 : Sort u2} {α3 : Sort u3} {A0 A1 A2 : α0 → α1 → α2 → α3 → Prop} {P : Prop} (h : ∃ x0 x1 x2 x3, A0 x0 x1 x2 x3 ∧ A1 x0 x1 x2 x3 ∧ A2 x0 x1 x2 x3) (k : ∀ x0 x1 x2 x3, A0 x0 x1 x2 x3 → A1 x0 x1 x2 x3 → A2 x0 x1 x2 x3 → P) : P := h.elim fun x0 h => h.elim fun x1 h => h.elim fun x2 h => h.elim fun x3 h => k x0 x1 x2 x3 h.1 h.2.1 h.2.2
theorem ob44.{u0, u1, u2, u3} {α0 : Sort u0} {α1 : Sort u1} {α2 : Sort u2} {α3 : Sort u3} {A0 A1 A2 A3 : α0 → α1 → α2 → α3 → Prop} {P : Prop} (h : ∃ x0 x1 x2 x3, A0 x0 x1 x2 x3 ∧ A1 x0 x1 x2 x3 ∧ A2 x0 x1 x2 x3 ∧ A3 x0 x1 x2 x3) (k : ∀ x0 x1 x2 x3, A0 x0 x1 x2 x3 → A1 x0 x1 x2 x3 → A2 x0 x1 x2 x3 → A3 x0 x1 x2 x3 → P) : P := h.elim fun x0 h => h.elim fun x1 h => h.elim fun x2 h => h.elim fun x3 h => k x0 x1 x2 x3 h.1 h.2.1 h.2.2.1 h.2.2.2
theorem ob45.{u0, u1, u2, u3} {α0 : Sort u0} {α1 : Sort u1} {α2 : Sort u2} {α3 : Sort u3} {A0 A1 A2 A3 A4 : α0 → α1 → α2 → α3 → Prop} {P : Prop} (h : ∃ x0 x1 x2 x3, A0 x0 x1 x2 x3 ∧ A1 x0 x1 x2 x3 ∧ A2 x0 x1 x2 x3 ∧ A3 x0 x1 x2 x3 ∧ A4 x0 x1 x2 x3) (k : ∀ x0 x1 x2 x3, A0 x0 x1 x2 x3 → A1 x0 x1 x2 x3 → A2 x0 x1 x2 x3 → A3 x0 x1 x2 x3 → A4 x0 x1 x2 x3 → P) : P := h.elim fun x0 h => h.elim fun x1 h => h.elim fun x2 h => h.elim fun x3 h => k x0 x1 x2 x3 h.1 h.2.1 h.2.2.1 h.2.2.2.1 h.2.2.2.2
theorem ob46.{u0, u1, u2, u3} {α0 : Sort u0} {α1 : Sort u1} {α2 : Sort u2} {α3 : Sort u3} {A0 A1 A2 A3 A4 A5 : α0 → α1 → α2 → α3 → Prop} {P : Prop} (h : ∃ x0 x1 x2 x3, A0 x0 x1 x2 x3 ∧ A1 x0 x1 x2 x3 ∧ A2 x0 x1 x2 x3 ∧ A3 x0 x1 x2 x3 ∧ A4 x0 x1 x2 x3 ∧ A5 x0 x1 x2 x3) (k : ∀ x0 x1 x2 x3, A0 x0 x1 x2 x3 → A1 x0 x1 x2 x3 → A2 x0 x1 x2 x3 → A3 x0 x1 x2 x3 → A4 x0 x1 x2 x3 → A5 x0 x1 x2 x3 → P) : P := h.elim fun x0 h => h.elim fun x1 h => h.elim fun x2 h => h.elim fun x3 h => k x0 x1 x2 x3 h.1 h.2.1 h.2.2.1 h.2.2.2.1 h.2.2.2.2.1 h.2.2.2.2.2
theorem ob47.{u0, u1, u2, u3} {α0 : Sort u0} {α1 : Sort u1} {α2 : Sort u2} {α3 : Sort u3} {A0 A1 A2 A3 A4 A5 A6 : α0 → α1 → α2 → α3 → Prop} {P : Prop} (h : ∃ x0 x1 x2 x3, A0 x0 x1 x2 x3 ∧ A1 x0 x1 x2 x3 ∧ A2 x0 x1 x2 x3 ∧ A3 x0 x1 x2 x3 ∧ A4 x0 x1 x2 x3 ∧ A5 x0 x1 x2 x3 ∧ A6 x0 x1 x2 x3) (k : ∀ x0 x1 x2 x3, A0 x0 x1 x2 x3 → A1 x0 x1 x2 x3 → A2 x0 x1 x2 x3 → A3 x0 x1 x2 x3 → A4 x0 x1 x2 x3 → A5 x0 x1 x2 x3 → A6 x0 x1 x2 x3 → P) : P := h.elim fun x0 h => h.elim fun x1 h => h.elim fun x2 h => h.elim fun x3 h => k x0 x1 x2 x3 h.1 h.2.1 h.2.2.1 h.2.2.2.1 h.2.2.2.2.1 h.2.2.2.2.2.1 h.2.2.2.2.2.2
theorem ob48.{u0, u1, u2, u3} {α0 : Sort u0} {α1 : Sort u1} {α2 : Sort u2} {α3 : Sort u3} {A0 A1 A2 A3 A4 A5 A6 A7 : α0 → α1 → α2 → α3 → Prop} {P : Prop} (h : ∃ x0 x1 x2 x3, A0 x0 x1 x2 x3 ∧ A1 x0 x1 x2 x3 ∧ A2 x0 x1 x2 x3 ∧ A3 x0 x1 x2 x3 ∧ A4 x0 x1 x2 x3 ∧ A5 x0 x1 x2 x3 ∧ A6 x0 x1 x2 x3 ∧ A7 x0 x1 x2 x3) (k : ∀ x0 x1 x2 x3, A0 x0 x1 x2 x3 → A1 x0 x1 x2 x3 → A2 x0 x1 x2 x3 → A3 x0 x1 x2 x3 → A4 x0 x1 x2 x3 → A5 x0 x1 x2 x3 → A6 x0 x1 x2 x3 → A7 x0 x1 x2 x3 → P) : P := h.elim fun x0 h => h.elim fun x1 h => h.elim fun x2 h => h.elim fun x3 h => k x0 x1 x2 x3 h.1 h.2.1 h.2.2.1 h.2.2.2.1 h.2.2.2.2.1 h.2.2.2.2.2.1 h.2.2.2.2.2.2.1 h.2.2.2.2.2.2.2
theorem ob51.{u0, u1, u2, u3, u4} {α0 : Sort u0} {α1 : Sort u1} {α2 : Sort u2} {α3 : Sort u3} {α4 : Sort u4} {A0 : α0 → α1 → α2 → α3 → α4 → Prop} {P : Prop} (h : ∃ x0 x1 x2 x3 x4, A0 x0 x1 x2 x3 x4) (k : ∀ x0 x1 x2 x3 x4, A0 x0 x1 x2 x3 x4 → P) : P := h.elim fun x0 h => h.elim fun x1 h => h.elim fun x2 h => h.elim fun x3 h => h.elim fun x4 h => k x0 x1 x2 x3 x4 h
theorem ob52.{u0, u1, u2, u3, u4} {α0 : Sort u0} {α1 : Sort u1} {α2 : Sort u2} {α3 : Sort u3} {α4 : Sort u4} {A0 A1 : α0 → α1 → α2 → α3 → α4 → Prop} {P : Prop} (h : ∃ x0 x1 x2 x3 x4, A0 x0 x1 x2 x3 x4 ∧ A1 x0 x1 x2 x3 x4) (k : ∀ x0 x1 x2 x3 x4, A0 x0 x1 x2 x3 x4 → A1 x0 x1 x2 x3 x4 → P) : P := h.elim fun x0 h => h.elim fun x1 h => h.elim fun x2 h => h.elim fun x3 h => h.elim fun x4 h => k x0 x1 x2 x3 x4 h.1 h.2
theorem ob53.{u0, u1, u2, u3, u4} {α0 : Sort u0} {α1 : Sort u1} {α2 : Sort u2} {α3 : Sort u3} {α4 : Sort u4} {A0 A1 A2 : α0 → α1 → α2 → α3 → α4 → Prop} {P : Prop} (h : ∃ x0 x1 x2 x3 x4, A0 x0 x1 x2 x3 x4 ∧ A1 x0 x1 x2 x3 x4 ∧ A2 x0 x1 x2 x3 x4) (k : ∀ x0 x1 x2 x3 x4, A0 x0 x1 x2 x3 x4 → A1 x0 x1 x2 x3 x4 → A2 x0 x1 x2 x3 x4 → P) : P := h.elim fun x0 h => h.elim fun x1 h => h.elim fun x2 h => h.elim fun x3 h => h.elim fun x4 h => k x0 x1 x2 x3 x4 h.1 h.2.1 h.2.2
theorem ob54.{u0, u1, u2, u3, u4} {α0 : Sort u0} {α1 : Sort u1} {α2 : Sort u2} {α3 : Sort u3} {α4 : Sort u4} {A0 A1 A2 A3 : α0 → α1 → α2 → α3 → α4 → Prop} {P : Prop} (h : ∃ x0 x1 x2 x3 x4, A0 x0 x1 x2 x3 x4 ∧ A1 x0 x1 x2 x3 x4 ∧ A2 x0 x1 x2 x3 x4 ∧ A3 x0 x1 x2 x3 x4) (k : ∀ x0 x1 x2 x3 x4, A0 x0 x1 x2 x3 x4 → A1 x0 x1 x2 x3 x4 → A2 x0 x1 x2 x3 x4 → A3 x0 x1 x2 x3 x4 → P) : P := h.elim fun x0 h => h.elim fun x1 h => h.elim fun x2 h => h.elim fun x3 h => h.elim fun x4 h => k x0 x1 x2 x3 x4 h.1 h.2.1 h.2.2.1 h.2.2.2
theorem ob55.{u0, u1, u2, u3, u4} {α0 : Sort u0} {α1 : Sort u1} {α2 : Sort u2} {α3 : Sort u3} {α4 : Sort u4} {A0 A1 A2 A3 A4 : α0 → α1 → α2 → α3 → α4 → Prop} {P : Prop} (h : ∃ x0 x1 x2 x3 x4, A0 x0 x1 x2 x3 x4 ∧ A1 x0 x1 x2 x3 x4 ∧ A2 x0 x1 x2 x3 x4 ∧ A3 x0 x1 x2 x3 x4 ∧ A4 x0 x1 x2 x3 x4) (k : ∀ x0 x1 x2 x3 x4, A0 x0 x1 x2 x3 x4 → A1 x0 x1 x2 x3 x4 → A2 x0 x1 x2 x3 x4 → A3 x0 x1 x2 x3 x4 → A4 x0 x1 x2 x3 x4 → P) : P := h.elim fun x0 h => h.elim fun x1 h => h.elim fun x2 h => h.elim fun x3 h => h.elim fun x4 h => k x0 x1 x2 x3 x4 h.1 h.2.1 h.2.2.1 h.2.2.2.1 h.2.2.2.2
theorem ob56.{u0, u1, u2, u3, u4} {α0 : Sort u0} {α1 : Sort u1} {α2 : Sort u2} {α3 : Sort u3} {α4 : Sort u4} {A0 A1 A2 A3 A4 A5 : α0 → α1 → α2 → α3 → α4 → Prop} {P : Prop} (h : ∃ x0 x1 x2 x3 x4, A0 x0 x1 x2 x3 x4 ∧ A1 x0 x1 x2 x3 x4 ∧ A2 x0 x1 x2 x3 x4 ∧ A3 x0 x1 x2 x3 x4 ∧ A4 x0 x1 x2 x3 x4 ∧ A5 x0 x1 x2 x3 x4) (k : ∀ x0 x1 x2 x3 x4, A0 x0 x1 x2 x3 x4 → A1 x0 x1 x2 x3 x4 → A2 x0 x1 x2 x3 x4 → A3 x0 x1 x2 x3 x4 → A4 x0 x1 x2 x3 x4 → A5 x0 x1 x2 x3 x4 → P) : P := h.elim fun x0 h => h.elim fun x1 h => h.elim fun x2 h => h.elim fun x3 h => h.elim fun x4 h => k x0 x1 x2 x3 x4 h.1 h.2.1 h.2.2.1 h.2.2.2.1 h.2.2.2.2.1 h.2.2.2.2.2
theorem ob57.{u0, u1, u2, u3, u4} {α0 : Sort u0} {α1 : Sort u1} {α2 : Sort u2} {α3 : Sort u3} {α4 : Sort u4} {A0 A1 A2 A3 A4 A5 A6 : α0 → α1 → α2 → α3 → α4 → Prop} {P : Prop} (h : ∃ x0 x1 x2 x3 x4, A0 x0 x1 x2 x3 x4 ∧ A1 x0 x1 x2 x3 x4 ∧ A2 x0 x1 x2 x3 x4 ∧ A3 x0 x1 x2 x3 x4 ∧ A4 x0 x1 x2 x3 x4 ∧ A5 x0 x1 x2 x3 x4 ∧ A6 x0 x1 x2 x3 x4) (k : ∀ x0 x1 x2 x3 x4, A0 x0 x1 x2 x3 x4 → A1 x0 x1 x2 x3 x4 → A2 x0 x1 x2 x3 x4 → A3 x0 x1 x2 x3 x4 → A4 x0 x1 x2 x3 x4 → A5 x0 x1 x2 x3 x4 → A6 x0 x1 x2 x3 x4 → P) : P := h.elim fun x0 h => h.elim fun x1 h => h.elim fun x2 h => h.elim fun x3 h => h.elim fun x4 h => k x0 x1 x2 x3 x4 h.1 h.2.1 h.2.2.1 h.2.2.2.1 h.2.2.2.2.1 h.2.2.2.2.2.1 h.2.2.2.2.2.2
theorem ob58.{u0, u1, u2, u3, u4} {α0 : Sort u0} {α1 : Sort u1} {α2 : Sort u2} {α3 : Sort u3} {α4 : Sort u4} {A0 A1 A2 A3 A4 A5 A6 A7 : α0 → α1 → α2 → α3 → α4 → Prop} {P : Prop} (h : ∃ x0 x1 x2 x3 x4, A0 x0 x1 x2 x3 x4 ∧ A1 x0 x1 x2 x3 x4 ∧ A2 x0 x1 x2 x3 x4 ∧ A3 x0 x1 x2 x3 x4 ∧ A4 x0 x1 x2 x3 x4 ∧ A5 x0 x1 x2 x3 x4 ∧ A6 x0 x1 x2 x3 x4 ∧ A7 x0 x1 x2 x3 x4) (k : ∀ x0 x1 x2 x3 x4, A0 x0 x1 x2 x3 x4 → A1 x0 x1 x2 x3 x4 → A2 x0 x1 x2 x3 x4 → A3 x0 x1 x2 x3 x4 → A4 x0 x1 x2 x3 x4 → A5 x0 x1 x2 x3 x4 → A6 x0 x1 x2 x3 x4 → A7 x0 x1 x2 x3 x4 → P) : P := h.elim fun x0 h => h.elim fun x1 h => h.elim fun x2 h => h.elim fun x3 h => h.elim fun x4 h => k x0 x1 x2 x3 x4 h.1 h.2.1 h.2.2.1 h.2.2.2.1 h.2.2.2.2.1 h.2.2.2.2.2.1 h.2.2.2.2.2.2.1 h.2.2.2.2.2.2.2
theorem ob61.{u0, u1, u2, u3, u4, u5} {α0 : Sort u0} {α1 : Sort u1} {α2 : Sort u2} {α3 : Sort u3} {α4 : Sort u4} {α5 : Sort u5} {A0 : α0 → α1 → α2 → α3 → α4 → α5 → Prop} {P : Prop} (h : ∃ x0 x1 x2 x3 x4 x5, A0 x0 x1 x2 x3 x4 x5) (k : ∀ x0 x1 x2 x3 x4 x5, A0 x0 x1 x2 x3 x4 x5 → P) : P := h.elim fun x0 h => h.elim fun x1 h => h.elim fun x2 h => h.elim fun x3 h => h.elim fun x4 h => h.elim fun x5 h => k x0 x1 x2 x3 x4 x5 h
theorem ob62.{u0, u1, u2, u3, u4, u5} {α0 : Sort u0} {α1 : Sort u1} {α2 : Sort u2} {α3 : Sort u3} {α4 : Sort u4} {α5 : Sort u5} {A0 A1 : α0 → α1 → α2 → α3 → α4 → α5 → Prop} {P : Prop} (h : ∃ x0 x1 x2 x3 x4 x5, A0 x0 x1 x2 x3 x4 x5 ∧ A1 x0 x1 x2 x3 x4 x5) (k : ∀ x0 x1 x2 x3 x4 x5, A0 x0 x1 x2 x3 x4 x5 → A1 x0 x1 x2 x3 x4 x5 → P) : P := h.elim fun x0 h => h.elim fun x1 h => h.elim fun x2 h => h.elim fun x3 h => h.elim fun x4 h => h.elim fun x5 h => k x0 x1 x2 x3 x4 x5 h.1 h.2
theorem ob63.{u0, u1, u2, u3, u4, u5} {α0 : Sort u0} {α1 : Sort u1} {α2 : Sort u2} {α3 : Sort u3} {α4 : Sort u4} {α5 : Sort u5} {A0 A1 A2 : α0 → α1 → α2 → α3 → α4 → α5 → Prop} {P : Prop} (h : ∃ x0 x1 x2 x3 x4 x5, A0 x0 x1 x2 x3 x4 x5 ∧ A1 x0 x1 x2 x3 x4 x5 ∧ A2 x0 x1 x2 x3 x4 x5) (k : ∀ x0 x1 x2 x3 x4 x5, A0 x0 x1 x2 x3 x4 x5 → A1 x0 x1 x2 x3 x4 x5 → A2 x0 x1 x2 x3 x4 x5 → P) : P := h.elim fun x0 h => h.elim fun x1 h => h.elim fun x2 h => h.elim fun x3 h => h.elim fun x4 h => h.elim fun x5 h => k x0 x1 x2 x3 x4 x5 h.1 h.2.1 h.2.2
theorem ob64.{u0, u1, u2, u3, u4, u5} {α0 : Sort u0} {α1 : Sort u1} {α2 : Sort u2} {α3 : Sort u3} {α4 : Sort u4} {α5 : Sort u5} {A0 A1 A2 A3 : α0 → α1 → α2 → α3 → α4 → α5 → Prop} {P : Prop} (h : ∃ x0 x1 x2 x3 x4 x5, A0 x0 x1 x2 x3 x4 x5 ∧ A1 x0 x1 x2 x3 x4 x5 ∧ A2 x0 x1 x2 x3 x4 x5 ∧ A3 x0 x1 x2 x3 x4 x5) (k : ∀ x0 x1 x2 x3 x4 x5, A0 x0 x1 x2 x3 x4 x5 → A1 x0 x1 x2 x3 x4 x5 → A2 x0 x1 x2 x3 x4 x5 → A3 x0 x1 x2 x3 x4 x5 → P) : P := h.elim fun x0 h => h.elim fun x1 h => h.elim fun x2 h => h.elim fun x3 h => h.elim fun x4 h => h.elim fun x5 h => k x0 x1 x2 x3 x4 x5 h.1 h.2.1 h.2.2.1 h.2.2.2
theorem ob65.{u0, u1, u2, u3, u4, u5} {α0 : Sort u0} {α1 : Sort u1} {α2 : Sort u2} {α3 : Sort u3} {α4 : Sort u4} {α5 : Sort u5} {A0 A1 A2 A3 A4 : α0 → α1 → α2 → α3 → α4 → α5 → Prop} {P : Prop} (h : ∃ x0 x1 x2 x3 x4 x5, A0 x0 x1 x2 x3 x4 x5 ∧ A1 x0 x1 x2 x3 x4 x5 ∧ A2 x0 x1 x2 x3 x4 x5 ∧ A3 x0 x1 x2 x3 x4 x5 ∧ A4 x0 x1 x2 x3 x4 x5) (k : ∀ x0 x1 x2 x3 x4 x5, A0 x0 x1 x2 x3 x4 x5 → A1 x0 x1 x2 x3 x4 x5 → A2 x0 x1 x2 x3 x4 x5 → A3 x0 x1 x2 x3 x4 x5 → A4 x0 x1 x2 x3 x4 x5 → P) : P := h.elim fun x0 h => h.elim fun x1 h => h.elim fun x2 h => h.elim fun x3 h => h.elim fun x4 h => h.elim fun x5 h => k x0 x1 x2 x3 x4 x5 h.1 h.2.1 h.2.2.1 h.2.2.2.1 h.2.2.2.2
theorem ob66.{u0, u1, u2, u3, u4, u5} {α0 : Sort u0} {α1 : Sort u1} {α2 : Sort u2} {α3 : Sort u3} {α4 : Sort u4} {α5 : Sort u5} {A0 A1 A2 A3 A4 A5 : α0 → α1 → α2 → α3 → α4 → α5 → Prop} {P : Prop} (h : ∃ x0 x1 x2 x3 x4 x5, A0 x0 x1 x2 x3 x4 x5 ∧ A1 x0 x1 x2 x3 x4 x5 ∧ A2 x0 x1 x2 x3 x4 x5 ∧ A3 x0 x1 x2 x3 x4 x5 ∧ A4 x0 x1 x2 x3 x4 x5 ∧ A5 x0 x1 x2 x3 x4 x5) (k : ∀ x0 x1 x2 x3 x4 x5, A0 x0 x1 x2 x3 x4 x5 → A1 x0 x1 x2 x3 x4 x5 → A2 x0 x1 x2 x3 x4 x5 → A3 x0 x1 x2 x3 x4 x5 → A4 x0 x1 x2 x3 x4 x5 → A5 x0 x1 x2 x3 x4 x5 → P) : P := h.elim fun x0 h => h.elim fun x1 h => h.elim fun x2 h => h.elim fun x3 h => h.elim fun x4 h => h.elim fun x5 h => k x0 x1 x2 x3 x4 x5 h.1 h.2.1 h.2.2.1 h.2.2.2.1 h.2.2.2.2.1 h.2.2.2.2.2
theorem ob67.{u0, u1, u2, u3, u4, u5} {α0 : Sort u0} {α1 : Sort u1} {α2 : Sort u2} {α3 : Sort u3} {α4 : Sort u4} {α5 : Sort u5} {A0 A1 A2 A3 A4 A5 A6 : α0 → α1 → α2 → α3 → α4 → α5 → Prop} {P : Prop} (h : ∃ x0 x1 x2 x3 x4 x5, A0 x0 x1 x2 x3 x4 x5 ∧ A1 x0 x1 x2 x3 x4 x5 ∧ A2 x0 x1 x2 x3 x4 x5 ∧ A3 x0 x1 x2 x3 x4 x5 ∧ A4 x0 x1 x2 x3 x4 x5 ∧ A5 x0 x1 x2 x3 x4 x5 ∧ A6 x0 x1 x2 x3 x4 x5) (k : ∀ x0 x1 x2 x3 x4 x5, A0 x0 x1 x2 x3 x4 x5 → A1 x0 x1 x2 x3 x4 x5 → A2 x0 x1 x2 x3 x4 x5 → A3 x0 x1 x2 x3 x4 x5 → A4 x0 x1 x2 x3 x4 x5 → A5 x0 x1 x2 x3 x4 x5 → A6 x0 x1 x2 x3 x4 x5 → P) : P := h.elim fun x0 h => h.elim fun x1 h => h.elim fun x2 h => h.elim fun x3 h => h.elim fun x4 h => h.elim fun x5 h => k x0 x1 x2 x3 x4 x5 h.1 h.2.1 h.2.2.1 h.2.2.2.1 h.2.2.2.2.1 h.2.2.2.2.2.1 h.2.2.2.2.2.2
theorem ob68.{u0, u1, u2, u3, u4, u5} {α0 : Sort u0} {α1 : Sort u1} {α2 : Sort u2} {α3 : Sort u3} {α4 : Sort u4} {α5 : Sort u5} {A0 A1 A2 A3 A4 A5 A6 A7 : α0 → α1 → α2 → α3 → α4 → α5 → Prop} {P : Prop} (h : ∃ x0 x1 x2 x3 x4 x5, A0 x0 x1 x2 x3 x4 x5 ∧ A1 x0 x1 x2 x3 x4 x5 ∧ A2 x0 x1 x2 x3 x4 x5 ∧ A3 x0 x1 x2 x3 x4 x5 ∧ A4 x0 x1 x2 x3 x4 x5 ∧ A5 x0 x1 x2 x3 x4 x5 ∧ A6 x0 x1 x2 x3 x4 x5 ∧ A7 x0 x1 x2 x3 x4 x5) (k : ∀ x0 x1 x2 x3 x4 x5, A0 x0 x1 x2 x3 x4 x5 → A1 x0 x1 x2 x3 x4 x5 → A2 x0 x1 x2 x3 x4 x5 → A3 x0 x1 x2 x3 x4 x5 → A4 x0 x1 x2 x3 x4 x5 → A5 x0 x1 x2 x3 x4 x5 → A6 x0 x1 x2 x3 x4 x5 → A7 x0 x1 x2 x3 x4 x5 → P) : P := h.elim fun x0 h => h.elim fun x1 h => h.elim fun x2 h => h.elim fun x3 h => h.elim fun x4 h => h.elim fun x5 h => k x0 x1 x2 x3 x4 x5 h.1 h.2.1 h.2.2.1 h.2.2.2.1 h.2.2.2.2.1 h.2.2.2.2.2.1 h.2.2.2.2.2.2.1 h.2.2.2.2.2.2.2
theorem ob71.{u0, u1, u2, u3, u4, u5, u6} {α0 : Sort u0} {α1 : Sort u1} {α2 : Sort u2} {α3 : Sort u3} {α4 : Sort u4} {α5 : Sort u5} {α6 : Sort u6} {A0 : α0 → α1 → α2 → α3 → α4 → α5 → α6 → Prop} {P : Prop} (h : ∃ x0 x1 x2 x3 x4 x5 x6, A0 x0 x1 x2 x3 x4 x5 x6) (k : ∀ x0 x1 x2 x3 x4 x5 x6, A0 x0 x1 x2 x3 x4 x5 x6 → P) : P := h.elim fun x0 h => h.elim fun x1 h => h.elim fun x2 h => h.elim fun x3 h => h.elim fun x4 h => h.elim fun x5 h => h.elim fun x6 h => k x0 x1 x2 x3 x4 x5 x6 h
theorem ob72.{u0, u1, u2, u3, u4, u5, u6} {α0 : Sort u0} {α1 : Sort u1} {α2 : Sort u2} {α3 : Sort u3} {α4 : Sort u4} {α5 : Sort u5} {α6 : Sort u6} {A0 A1 : α0 → α1 → α2 → α3 → α4 → α5 → α6 → Prop} {P : Prop} (h : ∃ x0 x1 x2 x3 x4 x5 x6, A0 x0 x1 x2 x3 x4 x5 x6 ∧ A1 x0 x1 x2 x3 x4 x5 x6) (k : ∀ x0 x1 x2 x3 x4 x5 x6, A0 x0 x1 x2 x3 x4 x5 x6 → A1 x0 x1 x2 x3 x4 x5 x6 → P) : P := h.elim fun x0 h => h.elim fun x1 h => h.elim fun x2 h => h.elim fun x3 h => h.elim fun x4 h => h.elim fun x5 h => h.elim fun x6 h => k x0 x1 x2 x3 x4 x5 x6 h.1 h.2
theorem ob73.{u0, u1, u2, u3, u4, u5, u6} {α0 : Sort u0} {α1 : Sort u1} {α2 : Sort u2} {α3 : Sort u3} {α4 : Sort u4} {α5 : Sort u5} {α6 : Sort u6} {A0 A1 A2 : α0 → α1 → α2 → α3 → α4 → α5 → α6 → Prop} {P : Prop} (h : ∃ x0 x1 x2 x3 x4 x5 x6, A0 x0 x1 x2 x3 x4 x5 x6 ∧ A1 x0 x1 x2 x3 x4 x5 x6 ∧ A2 x0 x1 x2 x3 x4 x5 x6) (k : ∀ x0 x1 x2 x3 x4 x5 x6, A0 x0 x1 x2 x3 x4 x5 x6 → A1 x0 x1 x2 x3 x4 x5 x6 → A2 x0 x1 x2 x3 x4 x5 x6 → P) : P := h.elim fun x0 h => h.elim fun x1 h => h.elim fun x2 h => h.elim fun x3 h => h.elim fun x4 h => h.elim fun x5 h => h.elim fun x6 h => k x0 x1 x2 x3 x4 x5 x6 h.1 h.2.1 h.2.2
theorem ob74.{u0, u1, u2, u3, u4, u5, u6} {α0 : Sort u0} {α1 : Sort u1} {α2 : Sort u2} {α3 : Sort u3} {α4 : Sort u4} {α5 : Sort u5} {α6 : Sort u6} {A0 A1 A2 A3 : α0 → α1 → α2 → α3 → α4 → α5 → α6 → Prop} {P : Prop} (h : ∃ x0 x1 x2 x3 x4 x5 x6, A0 x0 x1 x2 x3 x4 x5 x6 ∧ A1 x0 x1 x2 x3 x4 x5 x6 ∧ A2 x0 x1 x2 x3 x4 x5 x6 ∧ A3 x0 x1 x2 x3 x4 x5 x6) (k : ∀ x0 x1 x2 x3 x4 x5 x6, A0 x0 x1 x2 x3 x4 x5 x6 → A1 x0 x1 x2 x3 x4 x5 x6 → A2 x0 x1 x2 x3 x4 x5 x6 → A3 x0 x1 x2 x3 x4 x5 x6 → P) : P := h.elim fun x0 h => h.elim fun x1 h => h.elim fun x2 h => h.elim fun x3 h => h.elim fun x4 h => h.elim fun x5 h => h.elim fun x6 h => k x0 x1 x2 x3 x4 x5 x6 h.1 h.2.1 h.2.2.1 h.2.2.2
theorem ob75.{u0, u1, u2, u3, u4, u5, u6} {α0 : Sort u0} {α1 : Sort u1} {α2 : Sort u2} {α3 : Sort u3} {α4 : Sort u4} {α5 : Sort u5} {α6 : Sort u6} {A0 A1 A2 A3 A4 : α0 → α1 → α2 → α3 → α4 → α5 → α6 → Prop} {P : Prop} (h : ∃ x0 x1 x2 x3 x4 x5 x6, A0 x0 x1 x2 x3 x4 x5 x6 ∧ A1 x0 x1 x2 x3 x4 x5 x6 ∧ A2 x0 x1 x2 x3 x4 x5 x6 ∧ A3 x0 x1 x2 x3 x4 x5 x6 ∧ A4 x0 x1 x2 x3 x4 x5 x6) (k : ∀ x0 x1 x2 x3 x4 x5 x6, A0 x0 x1 x2 x3 x4 x5 x6 → A1 x0 x1 x2 x3 x4 x5 x6 → A2 x0 x1 x2 x3 x4 x5 x6 → A3 x0 x1 x2 x3 x4 x5 x6 → A4 x0 x1 x2 x3 x4 x5 x6 → P) : P := h.elim fun x0 h => h.elim fun x1 h => h.elim fun x2 h => h.elim fun x3 h => h.elim fun x4 h => h.elim fun x5 h => h.elim fun x6 h => k x0 x1 x2 x3 x4 x5 x6 h.1 h.2.1 h.2.2.1 h.2.2.2.1 h.2.2.2.2
theorem ob76.{u0, u1, u2, u3, u4, u5, u6} {α0 : Sort u0} {α1 : Sort u1} {α2 : Sort u2} {α3 : Sort u3} {α4 : Sort u4} {α5 : Sort u5} {α6 : Sort u6} {A0 A1 A2 A3 A4 A5 : α0 → α1 → α2 → α3 → α4 → α5 → α6 → Prop} {P : Prop} (h : ∃ x0 x1 x2 x3 x4 x5 x6, A0 x0 x1 x2 x3 x4 x5 x6 ∧ A1 x0 x1 x2 x3 x4 x5 x6 ∧ A2 x0 x1 x2 x3 x4 x5 x6 ∧ A3 x0 x1 x2 x3 x4 x5 x6 ∧ A4 x0 x1 x2 x3 x4 x5 x6 ∧ A5 x0 x1 x2 x3 x4 x5 x6) (k : ∀ x0 x1 x2 x3 x4 x5 x6, A0 x0 x1 x2 x3 x4 x5 x6 → A1 x0 x1 x2 x3 x4 x5 x6 → A2 x0 x1 x2 x3 x4 x5 x6 → A3 x0 x1 x2 x3 x4 x5 x6 → A4 x0 x1 x2 x3 x4 x5 x6 → A5 x0 x1 x2 x3 x4 x5 x6 → P) : P := h.elim fun x0 h => h.elim fun x1 h => h.elim fun x2 h => h.elim fun x3 h => h.elim fun x4 h => h.elim fun x5 h => h.elim fun x6 h => k x0 x1 x2 x3 x4 x5 x6 h.1 h.2.1 h.2.2.1 h.2.2.2.1 h.2.2.2.2.1 h.2.2.2.2.2
theorem ob77.{u0, u1, u2, u3, u4, u5, u6} {α0 : Sort u0} {α1 : Sort u1} {α2 : Sort u2} {α3 : Sort u3} {α4 : Sort u4} {α5 : Sort u5} {α6 : Sort u6} {A0 A1 A2 A3 A4 A5 A6 : α0 → α1 → α2 → α3 → α4 → α5 → α6 → Prop} {P : Prop} (h : ∃ x0 x1 x2 x3 x4 x5 x6, A0 x0 x1 x2 x3 x4 x5 x6 ∧ A1 x0 x1 x2 x3 x4 x5 x6 ∧ A2 x0 x1 x2 x3 x4 x5 x6 ∧ A3 x0 x1 x2 x3 x4 x5 x6 ∧ A4 x0 x1 x2 x3 x4 x5 x6 ∧ A5 x0 x1 x2 x3 x4 x5 x6 ∧ A6 x0 x1 x2 x3 x4 x5 x6) (k : ∀ x0 x1 x2 x3 x4 x5 x6, A0 x0 x1 x2 x3 x4 x5 x6 → A1 x0 x1 x2 x3 x4 x5 x6 → A2 x0 x1 x2 x3 x4 x5 x6 → A3 x0 x1 x2 x3 x4 x5 x6 → A4 x0 x1 x2 x3 x4 x5 x6 → A5 x0 x1 x2 x3 x4 x5 x6 → A6 x0 x1 x2 x3 x4 x5 x6 → P) : P := h.elim fun x0 h => h.elim fun x1 h => h.elim fun x2 h => h.elim fun x3 h => h.elim fun x4 h => h.elim fun x5 h => h.elim fun x6 h => k x0 x1 x2 x3 x4 x5 x6 h.1 h.2.1 h.2.2.1 h.2.2.2.1 h.2.2.2.2.1 h.2.2.2.2.2.1 h.2.2.2.2.2.2
theorem ob78.{u0, u1, u2, u3, u4, u5, u6} {α0 : Sort u0} {α1 : Sort u1} {α2 : Sort u2} {α3 : Sort u3} {α4 : Sort u4} {α5 : Sort u5} {α6 : Sort u6} {A0 A1 A2 A3 A4 A5 A6 A7 : α0 → α1 → α2 → α3 → α4 → α5 → α6 → Prop} {P : Prop} (h : ∃ x0 x1 x2 x3 x4 x5 x6, A0 x0 x1 x2 x3 x4 x5 x6 ∧ A1 x0 x1 x2 x3 x4 x5 x6 ∧ A2 x0 x1 x2 x3 x4 x5 x6 ∧ A3 x0 x1 x2 x3 x4 x5 x6 ∧ A4 x0 x1 x2 x3 x4 x5 x6 ∧ A5 x0 x1 x2 x3 x4 x5 x6 ∧ A6 x0 x1 x2 x3 x4 x5 x6 ∧ A7 x0 x1 x2 x3 x4 x5 x6) (k : ∀ x0 x1 x2 x3 x4 x5 x6, A0 x0 x1 x2 x3 x4 x5 x6 → A1 x0 x1 x2 x3 x4 x5 x6 → A2 x0 x1 x2 x3 x4 x5 x6 → A3 x0 x1 x2 x3 x4 x5 x6 → A4 x0 x1 x2 x3 x4 x5 x6 → A5 x0 x1 x2 x3 x4 x5 x6 → A6 x0 x1 x2 x3 x4 x5 x6 → A7 x0 x1 x2 x3 x4 x5 x6 → P) : P := h.elim fun x0 h => h.elim fun x1 h => h.elim fun x2 h => h.elim fun x3 h => h.elim fun x4 h => h.elim fun x5 h => h.elim fun x6 h => k x0 x1 x2 x3 x4 x5 x6 h.1 h.2.1 h.2.2.1 h.2.2.2.1 h.2.2.2.2.1 h.2.2.2.2.2.1 h.2.2.2.2.2.2.1 h.2.2.2.2.2.2.2
theorem om1 : ∀ {a0 a1 : Nat}, a0 < a1 → a0 + 1 ≤ a1 := fun h0 => Nat.succ_le_of_lt h0
theorem om2 : ∀ {a0 a1 a2 : Nat}, a0 = a2 → a1 = a2 → a0 = a1 := fun h0 h1 => h1 ▸ h0
theorem om3 : ∀ {a0 a1 a2 : Nat}, a2 = a1 → a0 < a2 → a0 < a1 := fun h0 h1 => Nat.lt_of_lt_of_eq h1 h0
theorem om4 : ∀ {a0 a1 a2 : Nat}, a0 + (a2 + 1) < a1 → a0 < a1 := fun h0 => Nat.lt_of_add_right_lt h0
theorem om5 : ∀ {a0 a1 a2 : Nat}, a0 + (a1 + 1) < a2 → a0 + 1 + a1 < a2 := fun h0 => Nat.lt_of_le_of_lt (Nat.le_of_eq (Nat.succ_add _ _)) h0
theorem om6 : ∀ {a0 a1 : Nat}, a0 + 2 * a1 + 1 < 900 → a0 + 2 * a1 < 900 := fun h0 => (Nat.le_trans (Nat.le_succ _) h0)
theorem om7 : ∀ {a0 a1 : Nat}, a0 + 20 * (a1 % 1000) + 110 < 9900 → a1 < 1000 → a0 + 20 * a1 + 100 < 9900 := by omega
theorem om8 : ∀ {a0 a1 a2 : Nat}, a1 ≤ 100 → a0 + 20 * (a2 % 1000) + 110 < 9900 → a0 + a1 < 9900 := by omega
theorem om10 : ∀ {a0 : Nat}, ¬(↑a0 : Int) + 1 = 0 := not_eq_of_beq_eq_false rfl
theorem om11 : ∀ {a0 : Nat}, a0 ≤ 1048576 → (↑a0 : Int) < 9223372036854775808 := fun h0 => Int.ofNat_lt.mpr (Nat.lt_of_le_of_lt h0 (by decide))
theorem om12 : 0 ≤ 64 := Nat.zero_le 64
theorem om14 : ∀ {a0 : Nat}, a0 < 63 → a0 + 1 ≤ 64 := fun h0 => Nat.le_succ_of_le h0
theorem om15 : ∀ {a0 : Int} {a1 : Nat}, 0 ≤ a0 → a0 < (↑a1 : Int) → a0.toNat < a1 := fun h0 h1 => (Int.toNat_lt h0).mpr h1
theorem om16 : ∀ {a0 : Nat} {a1 : Int}, 0 ≤ a1 → -(↑a0 : Int) ≤ a1 := by omega
theorem om17 : ∀ {a0 : Int} {a1 : Nat}, a0 < (↑a1 : Int) → a0 < (↑a1 : Int) := fun h0 => Int.lt_of_add_one_le h0
theorem om18 : ∀ {a0 : Int}, ¬0 ≤ a0 → a0 < 0 := fun h0 => Int.lt_of_not_ge h0
theorem om19 : ∀ {a0 : Nat} {a1 : Int}, -a1 ≤ (↑a0 : Int) → -(↑a0 : Int) ≤ a1 := fun h0 => Int.neg_le_of_neg_le h0
theorem om20 : ∀ {a0 : Int} {a1 : Nat}, ¬0 ≤ a0 → -a0 ≤ (↑a1 : Int) → (a0 + (↑a1 : Int)).toNat < a1 := by omega
theorem om21 : ∀ {a0 : Int} {a1 : Nat}, ¬0 ≤ a0 → a0 < (↑a1 : Int) := fun h0 => Int.lt_of_lt_of_le (Int.not_le.mp h0) (Int.natCast_nonneg _)
theorem om22 : ∀ {a0 : Int}, 0 < a0 ∧ a0 < 1073741824 → a0 ≠ 0 := fun h0 => Int.ne_of_gt h0.1
theorem om24 : ∀ {a0 : Int}, 0 < a0 ∧ a0 < 1073741824 → 0 ≤ a0 := fun h0 => Int.le_of_lt h0.1
theorem om25 : ∀ {a0 : Int}, 0 < a0 → a0 ≠ 0 := fun h0 => Ne.symm (Int.ne_of_lt h0)
theorem om26 : ∀ {a0 : Int}, 0 < a0 → 0 ≤ a0 := fun h0 => Int.le_of_lt h0
theorem om28 : ∀ {a0 a1 : Nat}, a0 ≤ a1 → a1 = 1048576 → a0 ≤ 16777216 := fun h0 h1 => (Nat.le_trans h0 (Nat.le_trans (Nat.le_of_eq h1) (by decide)))
theorem om29 : ∀ {a0 : Int} {a1 : Nat}, a0 ≤ (↑a1 : Int) ∧ -(↑a1 : Int) ≤ a0 → a1 = 1048576 → -9223372036854775808 ≤ a0 ∧ a0 < 9223372036854775808 := by omega
theorem om31 : ∀ {a0 : Nat}, a0 ≤ 16777216 → a0 ≤ 16777216 := fun h0 => h0
theorem om33 : ∀ {a0 a1 : Nat}, a0 + 5 < a1 → a0 + 1 + 4 < a1 := fun h0 => Nat.lt_of_succ_le h0
theorem om35 : ∀ {a0 : Int} {a1 : Nat}, -(↑a1 : Int) ≤ a0 → a0 < (↑a1 : Int) → a1 ≤ 1048576 → -9223372036854775808 ≤ a0 ∧ a0 < 9223372036854775808 := by omega
theorem om39 : ∀ {a0 : Nat} {a1 : Int}, -(↑a0 : Int) ≤ a1 → -(↑a0 : Int) ≤ a1 := fun h0 => Int.le_def.mpr h0
theorem om40 : ∀ {a0 : Int} {a1 : Nat}, (a0 + (↑a1 : Int)).toNat < a1 → a0 < 0 := by omega
theorem om41 : ∀ {a0 a1 : Nat}, (↑a0 : Int) < (↑a1 : Int) → a0 < a1 := fun h0 => Int.ofNat_lt.mp h0
theorem om43 : ∀ {a0 : Int} {a1 : Nat}, 0 ≤ a0 ∧ a0 < (↑a1 : Int) → a0 < (↑a1 : Int) := fun h0 => h0.2
theorem om55 : ∀ {a0 a1 : Nat}, a1 ≤ 1048576 → a0 = a1 → (↑a0 : Int) < 9223372036854775808 := by omega
theorem om60 : ∀ {a0 a1 : Nat}, a0 ≤ 1048576 → a1 = 1048576 → a0 ≤ a1 + 1 := fun h0 h1 => h1 ▸ Nat.le_trans h0 (by decide)
theorem om61 : ∀ {a0 a1 : Nat}, a0 = a1 → a0 ≤ a1 - 1 + 1 := by omega
theorem om62 : ∀ {a0 : Int} {a1 : Nat}, a1 ≤ 1048576 → -(↑a1 : Int) ≤ a0 → a0 < (↑a1 : Int) → -9223372036854775808 ≤ a0 ∧ a0 < 9223372036854775808 := by omega
theorem om63 : ∀ {a0 a1 : Nat}, a1 ≤ 1048576 → a0 ≤ a1 → a0 ≤ 1048576 := fun h0 h1 => Nat.le_trans h1 h0
theorem om64 : ∀ {a0 : Int} {a1 a2 : Nat}, 0 ≤ a0 ∧ a0 ≤ (↑a1 : Int) ∧ a1 < a2 → a2 = 1048576 → -9223372036854775808 ≤ a0 ∧ a0 < 9223372036854775808 := by omega
theorem om67 : ∀ {a0 : Int} {a1 a2 : Nat}, 0 ≤ a0 ∧ a0 ≤ (↑a1 : Int) ∧ a1 < a2 → ¬a0 < 0 := by intros; simp_all
theorem om79 : ∀ {a0 : Nat} {a1 a2 : Int}, 0 ≤ a2 → a2 < 0 → a0 = a1.toNat := by omega
theorem om82 : ∀ {a0 : Int} {a1 : Nat} {a2 : Int}, ¬0 ≤ a0 → ¬a0 < 0 → (a0 + (↑a1 : Int)).toNat = a2.toNat := by intros; simp_all
theorem om91 : ∀ {a0 a1 : Nat}, a0 < a1 → a0 + 1 < a1 + 1 := fun h0 => Nat.add_lt_add_right h0 1
theorem om92 : ∀ {a0 : Int} {a1 : Nat}, a0 + 1 + (↑a1 : Int) = a0 + (↑(a1 + 1) : Int) := by omega
theorem om93 : ∀ {a0 a1 : Nat}, a1 < a0 → 0 < (↑a0 : Int) - (↑a1 : Int) := fun h0 => Int.sub_pos_of_lt (Int.ofNat_lt.mpr h0)
theorem om94 : ∀ {a0 : Int} {a1 : Nat}, a0 + (↑(a1 + 1) : Int) = a0 + (↑a1 : Int) + 1 := by omega
theorem om95 : ∀ {a0 a1 : Nat}, (↑a0 : Int) - (↑(a1 + 1) : Int) = (↑a0 : Int) - (↑a1 : Int) - 1 := by omega
theorem om96 : ∀ {a0 : Nat}, (↑a0 : Int) - (↑a0 : Int) ≤ 0 := Int.le_of_eq (Int.sub_self _)
theorem om97 : ∀ {a0 : Nat}, a0 < 20 → a0 + 0 + 0 < 30 := fun h0 => Nat.le_trans h0 (by decide)
theorem om102 : 1 > 0 := Nat.one_pos
theorem om103 : ∀ {a0 a1 : Int}, a1 < a0 → a0 - a1 - 1 + 1 = (↑(a0 - a1).toNat : Int) := fun h0 => by rw [Int.sub_add_cancel]; exact (Int.toNat_of_nonneg (Int.le_of_lt (Int.sub_pos_of_lt h0))).symm
theorem om104 : ∀ {a0 a1 : Int}, ¬a1 < a0 → 0 = (↑(a0 - a1).toNat : Int) := by omega
theorem om109 : ∀ {a0 a1 : Int} {a2 : Nat}, (((-(↑a2 : Int) ≤ a1 ∧ a1 ≤ (↑a2 : Int)) ∧ -(↑a2 : Int) ≤ a0) ∧ a0 ≤ (↑a2 : Int)) ∧ a0 - a1 ≤ (↑a2 : Int) → (a0 - a1).toNat ≤ a2 := by intros; simp_all
theorem om110 : ∀ {a0 : Nat}, a0 < 3 → a0 = 0 ∨ a0 = 1 ∨ a0 = 2 := by omega
theorem om111 : ∀ {a0 : Nat}, a0 ≠ a0 + 1 := Nat.ne_of_lt (Nat.le_refl _)
theorem om112 : ∀ {a0 a1 : Nat}, ¬a1 = a0 → a0 + 1 ≠ a1 + 1 := fun h0 => Nat.add_one_ne_add_one_iff.mpr fun a => h0 (id (Eq.symm a))
theorem om113 : ∀ {a0 a1 : Nat}, a0 ≥ a1 → a0 = a1 + (a0 - a1) := fun h0 => by simp [h0]
theorem om114 : ∀ {a0 : Nat}, a0 ≤ a0 + 1 := Nat.le_add_right _ _
theorem om115 : ∀ {a0 a1 a2 : Nat}, a0 = a2 + 1 → a1 = a2 + 1 → a0 = a1 := fun h0 h1 => h1 ▸ h0
theorem om116 : ∀ {a0 a1 : Nat}, a0 + 2 * a1 + 1 < 900 → a0 + 1 + 2 * a1 < 900 := fun h0 => Nat.lt_of_le_of_lt (Nat.le_of_eq (Nat.succ_add _ _)) h0
theorem om117 : ∀ {a0 a1 a2 : Nat}, a0 + 20 * (a2 % 1000) + 110 < 9900 → a2 < 1000 → a1 ≤ 10 → a0 + a1 + 20 * a2 + 100 < 9900 := by omega
theorem om119 : ∀ {a0 a1 : Nat}, a1 < a0 → a0 - (a1 + 1) < a0 - a1 := fun h0 => Nat.sub_lt_sub_left h0 (Nat.lt_succ_self _)
theorem om120 : ∀ {a0 a1 : Nat}, a0 ≤ a1 → a0 ≤ a1 := fun h0 => String.Pos.Raw.mk_le_mk.mp h0
theorem om121 : ∀ {a0 a1 : Nat}, a0 ≤ a1 → a0 ≤ a1 + 1 := fun h0 => Nat.le_add_right_of_le h0
theorem om129 : ∀ {a0 a1 : Nat}, a0 < a1 ∧ a0 < 3 → a0 = 0 ∨ a0 = 1 ∨ a0 = 2 := by omega
theorem om130 : ∀ {a0 a1 : Nat}, a0 + 1 ≤ a1 → a0 ≤ a1 := fun h0 => Nat.le_of_succ_le h0
theorem om131 : ∀ {a0 a1 : Nat}, a1 + 1 ≤ a0 → a0 - a1 = a0 - (a1 + 1) + 1 := fun h0 => (Nat.sub_add_cancel (Nat.sub_pos_of_lt h0)).symm
theorem om132 : ∀ {a0 : Nat}, a0 + 1 < 1000 → a0 < 1000 := fun h0 => (Nat.le_trans (Nat.le_succ _) h0)
theorem om134 : ∀ {a0 a1 : Nat}, a1 = a0 → a0 ≤ a1 := fun h0 => Nat.le_of_eq (id (Eq.symm h0))
theorem om135 : ∀ {a0 a1 : Nat}, a0 + 2 * (a1 + 1) < 900 → a0 < 1000 := fun h0 => Nat.lt_of_lt_of_le (Nat.lt_add_of_pos_right (Nat.succ_pos _)) (Nat.le_trans h0 (by decide))
theorem om136 : ∀ {a0 a1 : Nat}, a0 + 2 * (a1 + 1) < 900 → a0 + 1 + 2 * a1 + 1 < 900 := fun h0 => by rw [Nat.succ_add]; exact h0
theorem om137 : ∀ {a0 a1 : Nat}, a0 + 20 * (a1 + 1) + 100 < 9900 → a0 + 3 + 20 * (a1 % 1000) + 110 < 9900 := by omega
theorem om138 : ∀ {a0 : Nat}, a0 ≤ 63 → a0 ≤ 1048576 := fun h0 => Nat.le_trans h0 (by decide)
theorem om139 : ∀ {a0 : Nat}, a0 < 200 → a0 < 1000 := fun h0 => Nat.le_trans h0 (by decide)
theorem om140 : ∀ {a0 : Nat}, a0 < 200 → 301 + 2 * a0 < 900 := fun h0 => Nat.lt_of_le_of_lt (Nat.add_le_add_left (Nat.mul_le_mul_left _ (Nat.le_of_lt h0)) _) (by decide)
theorem om141 : ∀ {a0 : Nat}, a0 < 200 → 4 + 20 * a0 + 100 < 9900 := fun h0 => Nat.lt_of_le_of_lt (Nat.add_le_add_right (Nat.add_le_add_left (Nat.mul_le_mul_left _ (Nat.le_of_lt h0)) _) _) (by decide)
theorem om142 : ∀ {a0 : Int} {a1 : Nat}, a0 + 1 + (↑a1 : Int) = a0 + (↑a1.succ : Int) := by omega
theorem om143 : ∀ {a0 a1 : Nat}, a1 + 1 ≤ a0 → a0 = a0 - 1 + 1 := fun h0 => (Nat.sub_add_cancel (Nat.le_trans (Nat.succ_le_succ (Nat.zero_le _)) h0)).symm
theorem om144 : ∀ {a0 a1 : Nat}, a0 + 1 ≤ a1 + 1 → a0 ≤ a1 := fun h0 => Nat.le_of_lt_succ h0
theorem om147 : ∀ {a0 : Nat}, a0 ≤ 1 → a0 + 1 ≤ 2 := fun h0 => Nat.succ_le_succ h0
theorem om148 : ∀ {a0 : Int} {a1 : Nat}, a0.toNat < a1 → a0 < (↑a1 : Int) := fun h0 => Int.lt_of_toNat_lt h0
theorem om149 : ∀ {a0 : Nat}, a0 ≤ 1000000 → (↑a0 : Int) ≤ 1048576 := fun h0 => Int.ofNat_le.mpr (Nat.le_trans h0 (by decide))
theorem om150 : ∀ {a0 : Nat}, -1048576 ≤ (↑a0 : Int) := Int.ofNat_nonneg _
theorem om152 : ∀ {a0 : Nat}, 0 < (↑a0 : Int) → (↑a0 : Int) ≠ 0 := fun h0 => Ne.symm (Int.ne_of_lt h0)
theorem om157 : ∀ {a0 a1 : Nat}, a0 + (a1 + 1) ≤ 1000000 → a0 + 1 + a1 ≤ 1000000 := fun h0 => Nat.le_trans (Nat.le_of_eq (Nat.succ_add _ _)) h0
theorem om158 : ∀ {a0 a1 : Nat}, a0 + (a1 + 1) ≤ 1000000 → a0 < 1048576 := fun h0 => Nat.lt_of_lt_of_le (Nat.lt_add_of_pos_right (Nat.succ_pos _)) (Nat.le_trans h0 (by decide))
theorem om159 : ∀ {a0 : Nat}, a0 ≤ 1000000 → a0 ≤ 1000000 := fun h0 => h0
theorem om168 : 0 ≤ 0 := Nat.zero_le 0
theorem om174 : ∀ {a0 : Nat}, 0 ≤ (↑a0 : Int) := Int.ofNat_nonneg _
theorem om175 : ∀ {a0 a1 : Nat}, a0 < a1 → (↑a0 : Int) < (↑a1 : Int) := fun h0 => Int.ofNat_lt.mpr h0
theorem om179 : ∀ {a0 : Nat}, a0 ≤ 1000000 → a0 < 1048576 := fun h0 => Nat.lt_of_le_of_lt h0 (by decide)
theorem om182 : ∀ {a0 a1 : Nat}, a1 ≤ 9 → a0 = a1 → a0 ≤ 1048576 := fun h0 h1 => h1 ▸ Nat.le_trans h0 (by decide)
theorem om183 : ∀ {a0 a1 : Nat}, a0 + 1 + a1 = a0 + (a1 + 1) := Nat.succ_add _ _
theorem om184 : ∀ {a0 a1 : Nat}, a0 ≤ a0 + a1 := Nat.le_add_right _ _
theorem om185 : ∀ {a0 a1 : Nat}, a0 + a1 - a0 = a1 := Nat.add_sub_cancel_left ..
theorem om188 : ∀ {a0 a1 : Nat}, a0 ≤ a0 + (a1 + 0) := Nat.le_add_right _ _
theorem om189 : ∀ {a0 a1 : Nat}, a0 + (a1 + 1) = a0 + 1 + a1 := (Nat.succ_add _ _).symm
theorem om190 : 1000 ≤ 1000000 := Nat.le_of_ble_eq_true rfl
theorem om192 : ∀ {a0 : Nat}, a0 ≤ 1000 → a0 ≤ 1048576 := fun h0 => Nat.le_trans h0 (by decide)
theorem om193 : ∀ {a0 a1 a2 : Nat}, a0 + (a2 + 1) = a1 → a0 < a1 := fun h0 => Nat.lt_of_lt_of_le (Nat.lt_add_of_pos_right (Nat.succ_pos _)) (Nat.le_of_eq h0)
theorem om194 : ∀ {a0 a1 a2 : Nat}, a0 + (a1 + 1) = a2 → a0 + 1 + a1 = a2 := fun h0 => (Nat.succ_add _ _).trans h0
theorem om195 : ∀ {a0 : Nat}, 0 + a0 = a0 := Nat.zero_add _
theorem om196 : ∀ {a0 : Nat}, 0 ≤ a0 := Nat.zero_le _
theorem om197 : ∀ {a0 a1 : Nat}, a0 ≤ a1 → a0 ≥ a1 → a0 = a1 := fun h0 h1 => Nat.le_antisymm h0 h1
theorem om200 : ∀ {a0 a1 : Nat}, ¬a0 = a1 → ¬(↑a0 : Int) = (↑a1 : Int) := fun h0 => Nat.ToInt.of_diseq rfl rfl h0
theorem om207 : ∀ {a0 : Nat} {a1 : Int}, a1 % 8 = (↑a0 : Int) → a0 < 8 := fun h0 => Int.ofNat_lt.mp (lt_of_eq_of_lt h0.symm (Int.emod_lt_of_pos _ (by decide)))
theorem om208 : ∀ {a0 : Nat} {a1 : Int}, a1 / 9 % 9 = (↑a0 : Int) → a0 < 9 := fun h0 => Int.ofNat_lt.mp (lt_of_eq_of_lt h0.symm (Int.emod_lt_of_pos _ (by decide)))
theorem om209 : ∀ {a0 : Nat}, 1 < (↑a0 : Int) → 0 < (↑a0 : Int) := fun h0 => Int.le_of_lt h0
theorem om210 : 0 < 1 := Nat.one_pos
theorem om211 : ∀ {a0 : Int} {a1 : Nat}, a1 = 46 → a0 < 46 → a0.toNat < a1 := by intros; simp_all
theorem om212 : ∀ {a0 : Nat}, a0 ≤ 40 → a0 ≤ 1000000 := fun h0 => Nat.le_trans h0 (by decide)
theorem om213 : ∀ {a0 : Nat}, a0 ≤ 40 → a0 ≤ 1048576 := fun h0 => Nat.le_trans h0 (by decide)
theorem om214 : ∀ {a0 a1 : Nat}, a1 ≤ 40 → a0 < a1 → (↑a0 : Int) < 46 := by omega
theorem om215 : 0 ≤ 41 := Nat.zero_le 41
theorem om216 : 41 < 46 := Nat.lt_of_sub_eq_succ rfl
theorem om217 : 0 < 12 := Nat.zero_lt_succ 11
theorem om218 : 0 < 4 := Nat.zero_lt_succ 3
theorem om219 : 0 ≤ 43 := Nat.zero_le 43
theorem om220 : 43 < 46 := Nat.lt_of_sub_eq_succ rfl
theorem om221 : ∀ {a0 a1 : Nat}, a0 < a1 → a1 ≤ a0 → False := fun h0 h1 => absurd (Nat.le_trans (Nat.succ_le_succ h0) (Nat.succ_le_succ h1)) (Nat.lt_irrefl _)
theorem om222 : 0 ≤ 42 := Nat.zero_le 42
theorem om223 : 42 < 46 := Nat.lt_of_sub_eq_succ rfl
theorem om224 : ∀ {a0 a1 : Nat}, a0 = a1 → a0 ≤ a1 := fun h0 => (Nat.le_of_eq h0)
theorem om225 : ∀ {a0 a1 a2 : Nat}, a0 < a2 → a2 ≤ a1 → a0 < a1 := fun h0 h1 => (Nat.le_trans h0 h1)
theorem om226 : ∀ {a0 a1 : Nat}, a0 < a1 → a0 ≤ a1 := fun h0 => Nat.le_of_succ_le h0
theorem om227 : ∀ {a0 : Nat}, (↑a0 : Int) + 1 ≠ 0 := Ne.symm (not_eq_of_beq_eq_false rfl)
theorem om228 : ∀ {a0 : Nat}, 0 < (↑a0 : Int) + 1 := Int.lt_add_one_of_le (Int.natCast_nonneg _)
theorem om229 : ∀ {a0 : Int} {a1 a2 : Nat}, a1 = a2 → a0 < (↑a2 : Int) + 1 → a0 ≤ (↑a1 : Int) := fun h0 h1 => Int.le_of_lt_add_one (h0 ▸ h1)
theorem om230 : ∀ {a0 a1 : Nat}, a1 ≤ 40 → a0 = a1 → a0 < 1048576 := fun h0 h1 => Eq.symm h1 ▸ Nat.lt_of_le_of_lt h0 (by decide)
theorem om233 : ∀ {a0 a1 : Nat}, a0 = a1 → a0 ≤ a1 + 1 := fun h0 => (Nat.le_trans (Nat.le_of_eq h0) (Nat.le_succ _))
theorem om234 : ∀ {a0 a1 : Nat}, a1 ≤ 40 → a0 ≤ a1 + 1 → a0 ≤ 51 := fun h0 h1 => Nat.le_trans h1 (Nat.le_trans (Nat.succ_le_succ h0) (by decide))
theorem om235 : ∀ {a0 a1 : Nat}, a1 ≤ 40 → a0 ≤ a1 + 1 → a0 ≤ 50 := fun h0 h1 => Nat.le_trans h1 (Nat.le_trans (Nat.succ_le_succ h0) (by decide))
theorem om236 : ∀ {a0 : Nat}, a0 ≤ a0 := Nat.le_refl _
theorem om237 : 46 ≤ 1000000 := (by decide)
theorem om238 : 0 ≤ 44 := Nat.zero_le 44
theorem om239 : 44 < 46 := Nat.lt_of_sub_eq_succ rfl
theorem om240 : 0 < 3 := Nat.zero_lt_succ 2
theorem om241 : 3 < 1073741824 := Nat.lt_of_sub_eq_succ rfl
theorem om242 : 0 < 16 := Nat.zero_lt_succ 15
theorem om243 : ∀ {a0 a1 a2 : Nat}, a2 = a0 + 1 → a2 ≤ a1 → a0 ≤ a1 := fun h0 h1 => (Nat.le_trans (Nat.le_succ _) (Nat.le_trans (Nat.le_of_eq (Eq.symm h0)) h1))
theorem om244 : ∀ {a0 a1 : Nat}, a1 = a0 + 1 → a0 ≤ a1 := fun h0 => (Nat.le_trans (Nat.le_succ _) (Nat.le_of_eq (Eq.symm h0)))
theorem om245 : 0 ≤ 40 := Nat.zero_le 40
theorem om246 : 40 < 46 := Nat.lt_of_sub_eq_succ rfl
theorem om247 : ∀ {a0 : Nat}, a0 ≤ 9 → a0 ≤ 40 := fun h0 => Nat.le_trans h0 (by decide)
theorem om248 : 0 ≤ 39 := Nat.zero_le 39
theorem om249 : 39 < 46 := Nat.lt_of_sub_eq_succ rfl
theorem om250 : 0 ≤ 38 := Nat.zero_le 38
theorem om251 : 38 < 46 := Nat.lt_of_sub_eq_succ rfl
theorem om252 : 0 < 7 := Nat.zero_lt_succ 6
theorem om253 : 7 < 1073741824 := Nat.lt_of_sub_eq_succ rfl
theorem om254 : 0 ≤ 45 := Nat.zero_le 45
theorem om255 : 45 < 46 := Nat.lt_add_one 45
theorem om256 : ∀ {a0 a1 a2 a3 a4 : Nat}, a2 = a0 + 1 → a2 ≤ a3 → a3 ≤ a4 → a4 ≤ a1 → a0 ≤ a1 := fun h0 h1 h2 h3 => (Nat.le_trans (Nat.le_succ _) (Nat.le_trans (Nat.le_of_eq (Eq.symm h0)) (Nat.le_trans h1 (Nat.le_trans h2 h3))))
theorem om257 : ∀ {a0 a1 a2 a3 : Nat}, a2 = a0 + 1 → a2 ≤ a3 → a3 ≤ a1 → a0 ≤ a1 := fun h0 h1 h2 => (Nat.le_trans (Nat.le_succ _) (Nat.le_trans (Nat.le_of_eq (Eq.symm h0)) (Nat.le_trans h1 h2)))
theorem om258 : 0 ≤ 1 := Nat.zero_le 1
theorem om259 : ∀ {a0 : Nat}, ¬a0 = 9 → ¬(↑a0 : Int) = 9 := fun h0 => Nat.ToInt.of_diseq rfl rfl h0
theorem om260 : ∀ {a0 : Nat}, a0 ≤ 9 → ¬(↑a0 : Int) = 9 → ¬9 ≤ a0 := fun h0 h1 => fun e => absurd (Nat.le_antisymm h0 e) (fun z => h1 (congrArg _ z))
theorem om261 : ∀ {a0 : Nat}, ¬a0 = 40 → ¬(↑a0 : Int) = 40 := fun h0 => Nat.ToInt.of_diseq rfl rfl h0
theorem om262 : ∀ {a0 : Nat}, a0 ≤ 40 → ¬(↑a0 : Int) = 40 → ¬40 ≤ a0 := fun h0 h1 => fun e => absurd (Nat.le_antisymm h0 e) (fun z => h1 (congrArg _ z))
theorem om263 : 0 ≤ 2 := Nat.zero_le 2
theorem om264 : 0 ≤ 3 := Nat.zero_le 3
theorem om265 : ∀ {a0 : Nat}, 18 < a0 → a0 = 16 → False := by intros; simp_all
theorem om266 : ∀ {a0 : Nat}, 18 < a0 → a0 = 18 → False := fun h0 h1 => absurd (Nat.le_trans (Nat.succ_le_succ (Nat.le_of_eq h1)) h0) (Nat.lt_irrefl _)
theorem om267 : ∀ {a0 a1 a2 : Nat}, a0 < a1 → a0 = a2 → a1 ≤ a2 → False := fun h0 h1 h2 => absurd (Nat.le_trans (Nat.succ_le_succ h0) (Nat.le_trans (Nat.succ_le_succ h2) (Nat.succ_le_succ (Nat.le_of_eq (Eq.symm h1))))) (Nat.lt_irrefl _)
theorem om268 : ∀ {a0 a1 : Nat}, a0 < a1 → a0 < a1 + 1 := fun h0 => Nat.lt_add_right 1 h0
theorem om269 : ∀ {a0 : Nat}, a0 < 5000 → a0 ≤ 4999 := fun h0 => Nat.le_of_lt_succ h0
theorem om270 : ∀ {a0 a1 a2 : Nat}, a0 < a2 → a1 = a2 + 1 → a0 < a1 := fun h0 h1 => (Nat.le_trans h0 (Nat.le_trans (Nat.le_succ _) (Nat.le_of_eq (Eq.symm h1))))
theorem om271 : ∀ {a0 a1 : Nat}, a0 < a1 → a0 ≠ a1 := fun h0 => Nat.ne_of_lt h0
theorem om272 : ∀ {a0 a1 : Nat}, a1 ≤ 5000 → a0 = a1 → a0 ≤ 1000000 := fun h0 h1 => h1 ▸ Nat.le_trans h0 (by decide)
theorem om273 : ∀ {a0 a1 a2 : Nat}, a0 ≤ a2 → a2 ≤ a1 → a0 ≤ a1 := fun h0 h1 => Nat.le_trans h0 h1
theorem om274 : ∀ {a0 a1 a2 : Nat}, a2 ≤ a1 → a0 < a2 → a0 < a1 := fun h0 h1 => Nat.lt_of_lt_of_le h1 h0
theorem om275 : ∀ {a0 a1 : Nat}, a0 = a1 → a1 ≤ 40 → a0 ≤ 1000 := fun h0 h1 => h0 ▸ Nat.le_trans h1 (by decide)
theorem om276 : ∀ {a0 : Nat}, a0 ≤ 9 → a0 ≤ 1048576 := fun h0 => Nat.le_trans h0 (by decide)
theorem om277 : ∀ {a0 : Nat}, 9 ≤ a0 → (↑a0 : Int) ≥ 9 := fun h0 => Int.toNat_le.mp h0
theorem om278 : ∀ {a0 : Nat}, ¬9 ≤ a0 → ¬(↑a0 : Int) ≥ 9 := fun h0 => fun e => h0 (Int.ofNat_lt.mp e)
theorem om279 : ∀ {a0 a1 : Nat}, a0 = a1 → a1 ≤ 40 → a0 ≤ 1048576 := fun h0 h1 => h0 ▸ Nat.le_trans h1 (by decide)
theorem om280 : ∀ {a0 a1 : Nat}, a0 = a1 → a1 ≤ 9 → a0 ≤ 1048575 := fun h0 h1 => h0 ▸ Nat.le_trans h1 (by decide)
theorem om281 : ∀ {a0 a1 : Nat}, a0 ≤ a1 → a0 ≤ a1 + 2 := fun h0 => (Nat.le_trans h0 (Nat.le_add_right _ _))
theorem om282 : ∀ {a0 : Nat}, ¬9 ≤ a0 → a0 ≤ 8 := fun h0 => Nat.le_of_not_lt h0
theorem om283 : ∀ {a0 a1 : Nat}, 0 ≤ (↑a0 : Int) ∧ (↑a0 : Int) < (↑a1 : Int) → a0 < a1 := fun h0 => Int.ofNat_lt.mp h0.2
theorem om284 : ∀ {a0 a1 : Nat}, a0 < a1 → a0 < a1 := fun h0 => Nat.lt_of_succ_le h0
theorem om285 : ∀ {a0 a1 : Nat}, a1 ≤ 9 → a0 ≤ a1 → a0 ≤ 9 := fun h0 h1 => Nat.le_trans h1 h0
theorem om287 : ∀ {a0 a1 a2 : Nat}, a0 = a2 → a2 ≤ 40 → a0 ≤ 1048576 + (a1 + 1) := by omega
theorem om290 : ∀ {a0 : Nat}, 0 ≤ (↑a0 : Int) + 1 := by omega
theorem om291 : ∀ {a0 a1 : Nat}, a0 = a1 → a1 ≤ 40 → a0 - 1 ≤ 1048576 := by omega
theorem om292 : ∀ {a0 a1 : Nat}, a0 ≤ a1 → a0 ≤ a1 + 4 := fun h0 => (Nat.le_trans h0 (Nat.le_add_right _ _))
theorem om293 : ∀ {a0 a1 : Nat}, a0 = a1 → a1 ≤ 9 → a0 ≤ 1048576 := fun h0 h1 => h0 ▸ Nat.le_trans h1 (by decide)
theorem om294 : ∀ {a0 : Nat}, a0 ≤ 40 → a0 - 1 ≤ 40 := fun h0 => Nat.le_trans (Nat.sub_le _ _) h0
theorem om295 : ∀ {a0 a1 : Nat}, a1 < a0 → (↑a0 : Int) - 1 = (↑(a0 - 1) : Int) := by omega
theorem om296 : ∀ {a0 : Nat}, 40 ≤ a0 → (↑a0 : Int) ≥ 40 := fun h0 => Int.toNat_le.mp h0
theorem om297 : ∀ {a0 : Nat}, ¬40 ≤ a0 → ¬(↑a0 : Int) ≥ 40 := fun h0 => fun e => h0 (Int.ofNat_lt.mp e)
theorem om298 : ∀ {a0 : Nat}, a0 ≤ 1000 → a0 ≤ 1048575 := fun h0 => Nat.le_trans h0 (by decide)
theorem om301 : ∀ {a0 : Nat}, ¬40 ≤ a0 → a0 + 1 ≤ 40 := fun h0 => Nat.not_le.mp h0
theorem om303 : ∀ {a0 : Nat}, a0 ≤ 4999 → a0 ≤ 5000 := fun h0 => (Nat.le_trans h0 (by decide))
theorem om304 : ∀ {a0 a1 : Nat}, a1 ≤ 40 → a0 = a1 → a0 ≤ 1048576 := fun h0 h1 => h1 ▸ Nat.le_trans h0 (by decide)
theorem om305 : ∀ {a0 a1 : Nat}, a0 = a1 → ¬9 ≤ a1 → a0 ≤ 1048575 := fun h0 h1 => (Nat.le_trans (Nat.le_of_eq h0) (Nat.le_trans (Nat.le_succ _) (Nat.le_trans (Nat.lt_of_not_le h1) (by decide))))
theorem om306 : ∀ {a0 a1 a2 : Nat}, a0 ≤ a2 → a1 = a2 + 2 → a0 ≤ a1 := fun h0 h1 => (Nat.le_trans h0 (Nat.le_trans (Nat.le_add_right _ _) (Nat.le_of_eq (Eq.symm h1))))
theorem om307 : ∀ {a0 a1 a2 : Nat}, a1 = a2 + 2 → a0 < a2 → a0 ≠ a1 := fun h0 h1 => Nat.ne_of_lt (Nat.le_trans h1 (Nat.le_trans (Nat.le_add_right _ _) (Nat.le_of_eq (Eq.symm h0))))
theorem om308 : ∀ {a0 a1 : Nat}, a1 ≤ 9 → a0 = a1 → a0 ≤ 1000000 := fun h0 h1 => h1 ▸ Nat.le_trans h0 (by decide)
theorem om309 : ∀ {a0 a1 a2 : Nat}, a1 ≤ 9 → a2 = a1 → a0 ≤ a2 → a0 ≤ 1048576 := fun h0 h1 h2 => (Nat.le_trans h2 (Nat.le_trans (Nat.le_of_eq h1) (Nat.le_trans h0 (by decide))))
theorem om310 : ∀ {a0 a1 a2 a3 : Nat}, a2 = a3 → a1 = a3 → a0 < a2 → (↑a0 : Int).toNat < a1 := by intros; simp_all
theorem om311 : ∀ {a0 : Nat}, ¬40 ≤ a0 → a0 ≤ 1048575 := fun h0 => (Nat.le_trans (Nat.le_succ _) (Nat.le_trans (Nat.lt_of_not_le h0) (by decide)))
theorem om312 : ∀ {a0 a1 a2 : Nat}, a1 ≤ 9 → a2 = a1 → a0 = a2 → a0 ≤ 1048576 := fun h0 h1 h2 => (Nat.le_trans (Nat.le_of_eq h2) (Nat.le_trans (Nat.le_of_eq h1) (Nat.le_trans h0 (by decide))))
theorem om315 : ∀ {a0 a1 a2 : Nat}, a2 ≤ 40 → a0 = a2 → a0 ≤ 1048576 + (a1 + 1) := by omega
theorem om316 : ∀ {a0 a1 : Nat}, a1 ≤ 40 → a0 = a1 → a0 - 1 ≤ 1048576 := by omega
theorem om317 : ∀ {a0 a1 a2 : Nat}, a1 < a2 → a0 = a2 → ¬a1 < a0 → a0 ≤ 1048576 := by intros; simp_all
theorem om318 : ∀ {a0 a1 : Nat}, a1 ≤ 40 → a0 = a1 → a0 ≤ 1000 := fun h0 h1 => h1 ▸ Nat.le_trans h0 (by decide)
theorem om319 : ∀ {a0 : Nat}, a0 ≤ 2 → a0 ≤ 8 := fun h0 => Nat.le_trans h0 (by decide)
theorem om320 : ∀ {a0 a1 : Nat}, a1 ≤ a0 → ¬a0 < a1 := fun h0 => fun e => absurd (Nat.le_trans (Nat.succ_le_succ e) (Nat.succ_le_succ h0)) (Nat.lt_irrefl _)
theorem om321 : ∀ {a0 a1 : Nat}, a1 = a0 + 1 → a0 ≠ a1 := fun h0 => Nat.ne_of_lt (Nat.le_of_eq (Eq.symm h0))
theorem om322 : ∀ {a0 a1 a2 : Nat}, a0 ≤ a2 → a1 = a2 + 1 → a0 ≤ a1 := fun h0 h1 => (Nat.le_trans h0 (Nat.le_trans (Nat.le_succ _) (Nat.le_of_eq (Eq.symm h1))))
theorem om323 : ∀ {a0 : Nat}, a0 < a0 + 1 + 1 := Nat.le_add_right _ _
theorem om324 : ∀ {a0 a1 : Nat}, a0 = a1 + 1 → a0 ≠ a1 := fun h0 => Nat.ne_of_gt (Nat.le_of_eq (Eq.symm h0))
theorem om325 : ∀ {a0 : Nat}, a0 ≤ 50 → a0 ≤ 1048576 := fun h0 => Nat.le_trans h0 (by decide)
theorem om329 : ∀ {a0 a1 : Nat}, a0 + (a1 + 1) = a0 + a1 + 1 := Int.toNat_natCast_add_one ..
theorem om330 : ∀ {a0 a1 : Nat}, a1 < 1000 → a0 = a1 → a0 ≤ 1000000 := fun h0 h1 => (Nat.le_trans (Nat.le_of_eq h1) (Nat.le_trans (Nat.le_succ _) (Nat.le_trans h0 (by decide))))
theorem om331 : ∀ {a0 a1 : Nat}, a0 ≠ a1 → ¬a0 = a1 := fun h0 => Ne.intro h0
theorem om332 : ∀ {a0 : Nat}, a0 < 1000 → a0 ≤ 999 := fun h0 => Nat.le_of_lt_succ h0
theorem om333 : ∀ {a0 a1 a2 a3 a4 : Nat}, a0 ≤ a2 → a3 = a2 + a4 + 1 → a3 ≤ a1 → a0 ≤ a1 := by omega
theorem om334 : ∀ {a0 a1 a2 a3 a4 a5 : Nat}, a2 ≤ a3 → a4 = a3 + a5 + 1 → a4 ≤ a0 → a1 < a2 → ¬a0 = a1 := by omega
theorem om335 : ∀ {a0 a1 a2 a3 : Nat}, a0 ≤ a2 → a1 = a2 + a3 + 1 → a0 ≤ a1 := by omega
theorem om336 : ∀ {a0 : Nat}, a0 ≤ 50 → a0 ≤ 1000000 := fun h0 => Nat.le_trans h0 (by decide)
theorem om337 : ∀ {a0 a1 a2 : Nat}, a1 ≤ a2 → 18 < a1 → a2 ≤ a0 → 18 < a0 := fun h0 h1 h2 => Nat.le_trans h1 (Nat.le_trans h0 h2)
theorem om338 : ∀ {a0 a1 a2 : Nat}, a2 ≤ a1 → a0 ≤ a2 → a0 ≤ a1 := fun h0 h1 => Nat.le_trans h1 h0
theorem om339 : ∀ {a0 : Nat}, a0 < 4000 → a0 < 5000 := fun h0 => Nat.le_trans h0 (by decide)
theorem om340 : ∀ {a0 a1 : Nat}, a0 ≤ a1 → a1 < a0 → False := fun h0 h1 => absurd (Nat.le_trans (Nat.succ_le_succ h0) h1) (Nat.lt_irrefl _)
theorem om341 : ∀ {a0 a1 : Nat}, a0 ≠ a1 → a1 = a0 → False := fun h0 h1 => (iff_false_intro h0).mp (id (Eq.symm h1))
theorem om342 : ∀ {a0 a1 a2 a3 : Nat}, a2 ≤ a3 → a1 < a2 → a3 ≤ a0 → ¬a0 = a1 := fun h0 h1 h2 => Nat.ne_of_gt (Nat.lt_of_lt_of_le h1 (Nat.le_trans h0 h2))
theorem om343 : ∀ {a0 a1 a2 a3 : Nat}, a2 ≤ a1 → a3 < a2 → a0 = a3 → a0 < a1 := fun h0 h1 h2 => Eq.symm h2 ▸ Nat.le_trans h1 h0
theorem om344 : ∀ {a0 a1 a2 a3 a4 : Nat}, a0 ≤ a2 → a2 ≤ a3 → a3 ≤ a4 → a1 = a4 + 1 → a0 ≤ a1 := fun h0 h1 h2 h3 => (Nat.le_trans h0 (Nat.le_trans h1 (Nat.le_trans h2 (Nat.le_trans (Nat.le_succ _) (Nat.le_of_eq (Eq.symm h3))))))
theorem om345 : ∀ {a0 a1 a2 a3 a4 a5 a6 : Nat}, a2 ≤ a3 → a3 ≤ a4 → a4 ≤ a5 → a6 = a5 + 1 → a0 < a2 → a6 ≤ a1 → a0 < a1 := fun h0 h1 h2 h3 h4 h5 => (Nat.le_trans h4 (Nat.le_trans h0 (Nat.le_trans h1 (Nat.le_trans h2 (Nat.le_trans (Nat.le_succ _) (Nat.le_trans (Nat.le_of_eq (Eq.symm h3)) h5))))))
theorem om346 : ∀ {a0 a1 a2 : Nat}, a2 < a1 → a0 = a2 → a0 < a1 := fun h0 h1 => lt_of_eq_of_lt h1 h0
theorem om347 : ∀ {a0 a1 a2 : Nat}, a0 ≠ a1 → a0 ≠ a2 → ¬(a0 = a1 ∨ a0 = a2) := fun h0 h1 => not_or_intro h0 h1
theorem om348 : ∀ {a0 a1 a2 a3 a4 : Nat}, a2 ≤ a3 → a3 ≤ a4 → a4 ≤ a1 → a0 < a2 → a0 ≠ a1 := fun h0 h1 h2 h3 => Nat.ne_of_lt (Nat.le_trans h3 (Nat.le_trans h0 (Nat.le_trans h1 h2)))
theorem om349 : ∀ {a0 a1 a2 a3 a4 : Nat}, a2 ≤ a3 → a3 ≤ a4 → a4 ≤ a1 → a0 < a2 → a0 < a1 + 1 := fun h0 h1 h2 h3 => (Nat.le_trans h3 (Nat.le_trans h0 (Nat.le_trans h1 (Nat.le_trans h2 (Nat.le_succ _)))))
theorem om350 : ∀ {a0 a1 : Nat}, a1 ≠ a0 → ¬a0 = a1 := fun h0 => Ne.intro (id (Ne.symm h0))
theorem om351 : ∀ {a0 a1 a2 a3 a4 : Nat}, a2 ≤ a3 → a3 ≤ a4 → a4 ≤ a0 → a1 < a2 → ¬a0 = a1 := fun h0 h1 h2 h3 => Nat.ne_of_gt (Nat.le_trans h3 (Nat.le_trans h0 (Nat.le_trans h1 h2)))
theorem om352 : ∀ {a0 a1 a2 a3 : Nat}, a0 ≤ a2 → a2 ≤ a3 → a3 ≤ a1 → a0 ≤ a1 := fun h0 h1 h2 => Nat.le_trans h0 (Nat.le_trans h1 h2)
theorem om353 : ∀ {a0 a1 a2 : Nat}, a1 ≤ a2 → a2 ≤ a0 → 18 < a1 → 18 < a0 := fun h0 h1 h2 => Nat.le_trans h2 (Nat.le_trans h0 h1)
theorem om354 : ∀ {a0 a1 a2 a3 : Nat}, a2 ≤ a3 → a1 < a2 → a3 ≤ a0 → a0 ≠ a1 := fun h0 h1 h2 => Nat.ne_of_gt (Nat.lt_of_lt_of_le h1 (Nat.le_trans h0 h2))
theorem om355 : ∀ {a0 a1 a2 : Nat}, a2 ≤ a0 → a1 < a2 → a0 ≠ a1 := fun h0 h1 => Nat.ne_of_gt (Nat.lt_of_lt_of_le h1 h0)
theorem om356 : ∀ {a0 a1 a2 a3 : Nat}, a2 ≤ a3 → a1 = a3 + 1 → a0 < a2 → a0 < a1 := fun h0 h1 h2 => (Nat.le_trans h2 (Nat.le_trans h0 (Nat.le_trans (Nat.le_succ _) (Nat.le_of_eq (Eq.symm h1)))))
theorem om357 : ∀ {a0 a1 a2 a3 : Nat}, a2 ≤ a3 → a0 < a2 → a3 ≤ a1 → a0 ≠ a1 := fun h0 h1 h2 => Nat.ne_of_lt (Nat.lt_of_lt_of_le h1 (Nat.le_trans h0 h2))
theorem om358 : ∀ {a0 a1 a2 a3 a4 : Nat}, a2 ≤ a3 → a4 = a3 + 1 → a4 ≤ a1 → a0 < a2 → a0 < a1 := fun h0 h1 h2 h3 => (Nat.le_trans h3 (Nat.le_trans h0 (Nat.le_trans (Nat.le_succ _) (Nat.le_trans (Nat.le_of_eq (Eq.symm h1)) h2))))
theorem om359 : ∀ {a0 a1 a2 a3 a4 a5 : Nat}, a2 ≤ a3 → a4 ≤ a0 → a1 < a2 → a3 ≤ a5 → a5 < a4 → ¬a0 = a1 := fun h0 h1 h2 h3 h4 => Nat.ne_of_gt (Nat.le_trans h2 (Nat.le_trans h0 (Nat.le_trans h3 (Nat.le_trans (Nat.le_succ _) (Nat.le_trans h4 h1)))))
theorem om360 : ∀ {a0 a1 a2 a3 a4 : Nat}, a0 ≤ a2 → a3 ≤ a1 → a2 ≤ a4 → a4 < a3 → a0 ≤ a1 := fun h0 h1 h2 h3 => (Nat.le_trans h0 (Nat.le_trans h2 (Nat.le_trans (Nat.le_succ _) (Nat.le_trans h3 h1))))
theorem om361 : ∀ {a0 a1 a2 a3 a4 : Nat}, a3 ≤ a4 → a2 < a3 → a1 < a3 → a4 ≤ a0 → ¬(a0 = a1 ∨ a0 = a2) := by omega
theorem om362 : ∀ {a0 a1 a2 a3 a4 : Nat}, a0 ≤ a2 → a2 ≤ a3 → a3 ≤ a4 → a4 ≤ a1 → a0 ≤ a1 := fun h0 h1 h2 h3 => (Nat.le_trans h0 (Nat.le_trans h1 (Nat.le_trans h2 h3)))
theorem om363 : ∀ {a0 a1 : Nat}, a1 < 4000 → a0 = a1 → a0 ≤ 1000000 := fun h0 h1 => (Nat.le_trans (Nat.le_of_eq h1) (Nat.le_trans (Nat.le_succ _) (Nat.le_trans h0 (by decide))))
theorem om364 : ∀ {a0 a1 : Nat}, a1 ≠ a0 → a0 ≠ a1 := fun h0 => Ne.intro (id (Ne.symm h0))
theorem om365 : ∀ {a0 a1 a2 a3 a4 a5 : Nat}, a2 ≤ a3 → a3 ≤ a4 → a0 < a2 → a4 ≤ a5 → a1 = a5 + 2 → a0 < a1 := fun h0 h1 h2 h3 h4 => (Nat.le_trans h2 (Nat.le_trans h0 (Nat.le_trans h1 (Nat.le_trans h3 (Nat.le_trans (Nat.le_add_right _ _) (Nat.le_of_eq (Eq.symm h4)))))))
theorem om366 : ∀ {a0 a1 : Nat}, a0 ≠ a1 → a0 ≠ a1 := fun h0 => h0
theorem om367 : ∀ {a0 a1 a2 : Nat}, a1 ≠ a0 → a2 ≠ a0 → ¬(a0 = a1 ∨ a0 = a2) := fun h0 h1 => not_or_intro (id (Ne.symm h0)) (id (Ne.symm h1))
theorem om368 : ∀ {a0 a1 a2 a3 a4 : Nat}, a3 ≤ a4 → a4 ≤ a0 → a2 < a3 → a1 < a3 → ¬(a0 = a1 ∨ a0 = a2) := by omega
theorem om369 : ∀ {a0 a1 : Nat}, a0 ≤ a1 + 1 → a0 ≤ a1 + 1 + 1 := fun h0 => Nat.le_add_right_of_le h0
theorem om370 : ∀ {a0 a1 : Nat}, a0 = a1 → a1 ≤ 9 → a0 ≤ 9 := fun h0 h1 => (Nat.le_trans (Nat.le_of_eq h0) h1)
theorem om371 : ∀ {a0 a1 a2 : Nat}, a0 ≤ a1 → a2 = a1 → a2 < a0 → False := fun h0 h1 h2 => absurd (Nat.le_trans (Nat.succ_le_succ h2) (Nat.le_trans (Nat.succ_le_succ h0) (Nat.succ_le_succ (Nat.le_of_eq (Eq.symm h1))))) (Nat.lt_irrefl _)
theorem om372 : ∀ {a0 a1 : Nat}, a1 < 4500 → a0 = a1 → a0 ≤ 1000000 := fun h0 h1 => (Nat.le_trans (Nat.le_of_eq h1) (Nat.le_trans (Nat.le_succ _) (Nat.le_trans h0 (by decide))))
theorem om373 : ∀ {a0 a1 a2 : Nat}, a2 = a0 → a1 < a2 → a0 - (a1 + 1) < a0 := by omega
theorem om374 : ∀ {a0 a1 a2 : Nat}, a2 = a0 → a1 < a2 → a0 - a1 = a0 - (a1 + 1) + 1 := by omega
theorem om375 : ∀ {a0 a1 : Nat}, a1 < a0 → 0 ≤ (↑a0 : Int) - 1 - (↑a1 : Int) := by omega
theorem om376 : ∀ {a0 a1 a2 : Nat}, a0 = a2 → ((↑a0 : Int) - 1 - (↑a1 : Int)).toNat = a2 - (a1 + 1) := by omega
theorem om377 : ∀ {a0 a1 : Nat}, a1 < 5000 → a0 = a1 → a0 ≤ 1000000 := fun h0 h1 => (Nat.le_trans (Nat.le_of_eq h1) (Nat.le_trans (Nat.le_succ _) (Nat.le_trans h0 (by decide))))
theorem om378 : ∀ {a0 : Nat}, a0 < 40 → ¬40 ≤ a0 := fun h0 => fun e => absurd (Nat.le_trans (Nat.succ_le_succ h0) (Nat.succ_le_succ e)) (Nat.lt_irrefl _)
theorem om379 : ∀ {a0 a1 : Nat}, a0 + (0 + 1) ≤ a1 → a0 ≤ a1 := fun h0 => (Nat.le_trans (Nat.le_add_right _ _) h0)
theorem om380 : 38 ≤ 1000000 := (by decide)
theorem om381 : ∀ {a0 : Nat}, a0 < 38 → a0 < 40 := fun h0 => Nat.le_trans h0 (by decide)
theorem om382 : ∀ {a0 : Nat}, a0 < 38 → a0 < 5000 := fun h0 => Nat.le_trans h0 (by decide)
theorem om383 : ∀ {a0 : Nat}, a0 < 200 → 0 ≤ (↑a0 : Int) ∧ (↑a0 : Int) ≤ 1000000000000 := fun h0 => ⟨Int.natCast_nonneg _, Int.ofNat_le.mpr (Nat.le_trans (Nat.le_of_lt h0) (by decide))⟩
theorem om384 : 0 < 40 := (by decide)
theorem om385 : 200 ≤ 1000000 := (by decide)
theorem om386 : ∀ {a0 a1 a2 a3 a4 a5 : Nat}, a0 ≤ a2 → a2 ≤ a3 → a3 ≤ a4 → a4 ≤ a5 → a5 ≤ a1 → a0 ≤ a1 := fun h0 h1 h2 h3 h4 => (Nat.le_trans h0 (Nat.le_trans h1 (Nat.le_trans h2 (Nat.le_trans h3 h4))))
theorem om387 : ∀ {a0 : Nat}, a0 < 200 → a0 + 2 < 5000 := fun h0 => Nat.add_lt_add_right (Nat.lt_of_lt_of_le h0 (by decide)) 2
theorem om388 : ∀ {a0 : Nat}, ¬a0 = 0 → 0 < a0 := fun h0 => Nat.zero_lt_of_ne_zero h0
theorem om389 : ∀ {a0 : Nat}, ¬a0 = 0 → (↑a0 : Int) - 1 = (↑(a0 - 1) : Int) := fun h0 => (Int.ofNat_sub (Nat.pos_of_ne_zero h0)).symm
theorem om390 : 200 + 2 ≤ 300 := by simp
theorem om391 : 6 ≠ 5 := Nat.ne_of_gt (Nat.le_refl _)
theorem om392 : ∀ {a0 : Nat}, 6 < a0 → 5 < a0 := fun h0 => (Nat.le_trans (by decide) h0)
theorem om393 : ∀ {a0 : Nat}, a0 < 14 → a0 = 14 ∨ a0 = 17 ∨ a0 = 21 ∨ a0 = 19 ∨ a0 = 20 → False := by omega
theorem om394 : 1 < 14 := (by decide)
theorem om395 : 12 < 14 := (by decide)
theorem om396 : 10 < 14 := (by decide)
theorem om397 : ∀ {a0 a1 a2 a3 : Nat}, 24 ≤ a1 → a1 ≤ a2 → a2 ≤ a3 → a3 ≤ a0 → 22 ≤ a0 := fun h0 h1 h2 h3 => (Nat.le_trans (by decide) (Nat.le_trans h0 (Nat.le_trans h1 (Nat.le_trans h2 h3))))
theorem om398 : ∀ {a0 a1 : Nat}, a1 ≤ 63 → a0 ≤ 300 + a1 → a0 < 4500 := fun h0 h1 => Nat.lt_of_le_of_lt h1 (Nat.lt_of_le_of_lt (Nat.add_le_add_left h0 _) (by decide))
theorem om399 : 0 = 14 ∨ 0 = 17 ∨ 0 = 21 ∨ 0 = 19 ∨ 0 = 20 → False := by intros; simp_all
theorem om400 : ∀ {a0 : Nat}, 24 ≤ a0 → 22 ≤ a0 := fun h0 => (Nat.le_trans (by decide) h0)
theorem om401 : ∀ {a0 a1 a2 : Nat}, a1 ≤ 63 → a2 < a1 → a0 ≤ 300 + a2 → a0 < 4000 := by omega
theorem om402 : ∀ {a0 a1 a2 : Nat}, a1 ≤ 63 → a2 < a1 → a0 ≤ a2 → a0 < 1000 := fun h0 h1 h2 => (Nat.le_trans (Nat.succ_le_succ h2) (Nat.le_trans h1 (Nat.le_trans h0 (by decide))))
theorem om403 : ∀ {a0 a1 a2 : Nat}, a2 ≤ 300 + a1 → a0 ≤ a2 + 1 → a0 ≤ 300 + (a1 + 1) := fun h0 h1 => Nat.le_trans h1 (Nat.succ_le_succ h0)
theorem om404 : ∀ {a0 a1 a2 : Nat}, a2 ≤ a1 → a0 ≤ a2 + 1 → a0 ≤ a1 + 1 := fun h0 h1 => (Nat.le_trans h1 (Nat.succ_le_succ h0))
theorem om405 : 22 ≤ 24 := (by decide)
theorem om406 : ∀ {a0 : Nat}, a0 ≤ 300 → a0 ≤ 300 + 0 := fun h0 => (Nat.le_trans h0 (Nat.le_add_right _ _))
end Mine


-- part MiniDef
namespace Mine
open PySem (Operator UnaryOp CmpOp)

inductive Val where
  | none | bool (b : Bool) | int (i : Int) | str (s : List Nat) | ref (i : Nat)
  deriving DecidableEq

inductive MObj where
  | list (xs : List Val) | ro (xs : List Val) | tup (xs : List Val) | inst (fs : List (Option Val)) | aux
  deriving DecidableEq

noncomputable abbrev MH := List MObj
noncomputable abbrev Rho := List (Option Val)

inductive Res (α : Type) where
  | ok (a : α) (h : MH) | exc (c : Nat) (h : MH) | stuck

noncomputable def Res.bind {α β : Type} (r : Res α) (f : α → MH → Res β) : Res β :=
  match r with
  | .ok a h => f a h
  | .exc c h => .exc c h
  | .stuck => .stuck

@[simp] theorem Res.bind_ok {α β : Type} (a : α) (h : MH) (f : α → MH → Res β) : (Res.ok a h).bind f = f a h := rfl
@[simp] theorem Res.bind_exc {α β : Type} (c : Nat) (h : MH) (f : α → MH → Res β) : (Res.exc c h : Res α).bind f = .exc c h := rfl
@[simp] theorem Res.bind_stuck {α β : Type} (f : α → MH → Res β) : (Res.stuck : Res α).bind f = .stuck := rfl
theorem Res.bind_assoc {α β γ : Type} (r : Res α) (f : α → MH → Res β) (g : β → MH → Res γ) : (r.bind f).bind g = r.bind fun a h => (f a h).bind g := by
  cases r <;> rfl

noncomputable def Res.opt {α : Type} (o : Option α) (h : MH) : Res α := match o with | some a => .ok a h | none => .stuck
@[simp] theorem Res.opt_some {α : Type} (a : α) (h : MH) : Res.opt (some a) h = .ok a h := rfl
@[simp] theorem Res.opt_none {α : Type} (h : MH) : (Res.opt none h : Res α) = .stuck := rfl

inductive BI where
  | len | sum | min | max | int | str | all | list
  deriving DecidableEq
inductive Ty where
  | int | bool | list | tuple | str
  deriving DecidableEq
inductive Me where
  | append
  | pop
  | insert
  deriving DecidableEq

set_option genSizeOfSpec false in
set_option genInjectivity false in
inductive MExpr where
  | const (v : Val)
  | gconst (v : Val)
  | loc (i : Nat)
  | bin (op : Operator) (a b : MExpr)
  | un (op : UnaryOp) (a : MExpr)
  | and (a b : MExpr)
  | or (a b : MExpr)
  | cmp (op : CmpOp) (a b : MExpr)
  | cmp2 (op₁ op₂ : CmpOp) (a b c : MExpr)
  | isinst (t : Ty) (a : MExpr)
  | call (f : Nat) (args : MExpr)
  | bi (b : BI) (args : MExpr)
  | meth (m : Me) (o args : MExpr)
  | lst (es : MExpr)
  | tup (es : MExpr)
  | sub (o i : MExpr)
  | slice (o lo hi : MExpr)
  | comp (elt tgt it cond : MExpr)
  | attr (o : MExpr) (k : Nat)
  | mcall (f : Nat) (o args : MExpr)
  | newT (f : Nat)
  | compp (elt : MExpr) (i j : Nat) (a cond : MExpr)
  | compq (elt : MExpr) (i j : Nat) (a b : MExpr)
  | nil
  | cons (a b : MExpr)
  | irange (a : MExpr)
  | iobj (a : MExpr)

set_option genSizeOfSpec false in
set_option genInjectivity false in
inductive MStmt where
  | nil
  | cons (s r : MStmt)
  | assign (i : Nat) (e : MExpr)
  | asub (o i e : MExpr)
  | aattr (o : MExpr) (k : Nat) (e : MExpr)
  | asub2 (o1 i1 o2 i2 e : MExpr)
  | expr (e : MExpr)
  | ifs (c : MExpr) (t e : MStmt)
  | fors (tgt it : MExpr) (b : MStmt)
  | ret (e : MExpr)
  | raise (c : Nat)
  | tryx (b : MStmt) (hs : List (Nat × Bool × Val))
  | wild

inductive MFlow where
  | next | ret (v : Val)
  deriving DecidableEq

structure MFun where
  np : Nat
  ns : Nat
  body : MStmt

noncomputable abbrev Cf := Nat → List Val → MH → Res Val

noncomputable def lim : Nat := 1048576

noncomputable def seqOf (h : MH) (i : Nat) : Option (Bool × List Val) :=
  match h[i]? with
  | some (.list xs) => some (true, xs)
  | some (.ro xs) => some (true, xs)
  | some (.tup xs) => some (false, xs)
  | _ => none

noncomputable def truthyV (h : MH) : Val → Option Bool
  | .none => some false
  | .bool b => some b
  | .int i => some (i != 0)
  | .str s => some (!s.isEmpty)
  | .ref i => match seqOf h i with | some (true, xs) => some (!xs.isEmpty) | _ => none

noncomputable def eqL (f : Val → Val → Option Bool) : List Val → List Val → Option Bool
  | x :: xs, y :: ys => (f x y).bind fun b => (eqL f xs ys).map fun c => b && c
  | _, _ => some true

noncomputable def eqP (v w : Val) : Option Bool := match v with
  | .none => (match w with | .none => some true | .ref _ => none | .bool _ => some false | .int _ => some false | .str _ => some false)
  | .bool a => (match w with | .bool b => some (a == b) | .int b => some ((if a then 1 else 0) == b) | .ref _ => none | .none => some false | .str _ => some false)
  | .int a => (match w with | .int b => some (a == b) | .bool b => some (a == (if b then 1 else 0)) | .ref _ => none | .none => some false | .str _ => some false)
  | .str a => (match w with | .str b => some (a == b) | .ref _ => none | .none => some false | .bool _ => some false | .int _ => some false)
  | .ref _ => none

noncomputable def eqV : Nat → MH → Val → Val → Option Bool
  | 0, _, v, w => eqP v w
  | n + 1, h, v, w =>
    match v, w with
    | .ref i, .ref j =>
      match seqOf h i, seqOf h j with
      | some (k, xs), some (l, ys) => if k = l then (if xs.length = ys.length then eqL (eqV n h) xs ys else if k then some false else none) else some false
      | _, _ => none
    | .ref i, _ => (seqOf h i).map fun _ => false
    | _, .ref j => (seqOf h j).map fun _ => false
    | v, w => eqP v w

noncomputable def inL (h : MH) (v : Val) : List Val → Option Bool
  | [] => some false
  | x :: xs => (eqV 4 h x v).bind fun b => (inL h v xs).map fun c => b || c

noncomputable def cmpI : CmpOp → Int → Int → Option Bool
  | .Lt, a, b => some (decide (a < b))
  | .LtE, a, b => some (decide (a ≤ b))
  | .Gt, a, b => some (decide (a > b))
  | .GtE, a, b => some (decide (a ≥ b))
  | _, _, _ => none

noncomputable def isNone : Val → Bool
  | .none => true
  | _ => false

noncomputable def inV (h : MH) (v w : Val) : Option Bool := match w with
  | .ref i => (match seqOf h i with | some (true, xs) => inL h v xs | some (false, _) => none | none => none)
  | .str _ => none
  | .none => none | .bool _ => none | .int _ => none

noncomputable def cmpII (op : CmpOp) (v w : Val) : Option Bool := match v with
  | .int a => (match w with | .int b => cmpI op a b | .none => none | .bool _ => none | .str _ => none | .ref _ => none)
  | .none => none | .bool _ => none | .str _ => none | .ref _ => none
noncomputable def onNone (b : Bool) (w : Val) : Option Bool := match w with | .none => some b | .int _ => none | .bool _ => none | .str _ => none | .ref _ => none
noncomputable def cmpV (h : MH) (op : CmpOp) (v w : Val) : Option Bool := match op with
  | .Eq => eqV 8 h v w
  | .NotEq => (eqV 8 h v w).map (!·)
  | .Is => onNone (isNone v) w
  | .IsNot => onNone (!isNone v) w
  | .In => inV h v w
  | .NotIn => (inV h v w).map (!·)
  | .Lt => cmpII .Lt v w
  | .LtE => cmpII .LtE v w
  | .Gt => cmpII .Gt v w
  | .GtE => cmpII .GtE v w

noncomputable def mulOk (a b : Int) : Bool := decide (a.natAbs < 9223372036854775808) || decide (b.natAbs < 9223372036854775808)

noncomputable def newObj (o : MObj) (h : MH) : Res Val := .ok (.ref h.length) (h ++ [o])
noncomputable def newList (xs : List Val) (h : MH) : Res Val := if xs.length ≤ lim then newObj (.list xs) h else .stuck

noncomputable def addRR (h : MH) (i j : Nat) : Res Val :=
  match h[i]?, h[j]? with
  | some (.list xs), some (.list ys) => newList (xs ++ ys) h
  | _, _ => .stuck
noncomputable def mulRI (h : MH) (i : Nat) (n : Int) : Res Val :=
  match h[i]? with
  | some (.list xs) => if n ≤ lim ∧ -lim ≤ n then newList (List.replicate n.toNat xs).flatten h else .stuck
  | _ => .stuck

noncomputable def binI (h : MH) (op : Operator) (a b : Int) : Res Val := match op with
  | .Add => .ok (.int (a + b)) h
  | .Sub => .ok (.int (a - b)) h
  | .Mult => if mulOk a b then .ok (.int (a * b)) h else .stuck
  | .FloorDiv => if 0 < b ∧ b < 1073741824 then .ok (.int (a / b)) h else .stuck
  | .Mod => if 0 < b then .ok (.int (a % b)) h else .stuck
  | _ => .stuck
noncomputable def binV (h : MH) (op : Operator) (v w : Val) : Res Val := match v with
  | .int a => (match w with | .int b => binI h op a b | .none => .stuck | .bool _ => .stuck | .str _ => .stuck | .ref _ => .stuck)
  | .str a => (match w with
    | .str b => (match op with | .Add => if a.length + b.length ≤ lim then .ok (.str (a ++ b)) h else .stuck | _ => .stuck)
    | .none => .stuck | .bool _ => .stuck | .int _ => .stuck | .ref _ => .stuck)
  | .ref i => (match w with
    | .ref j => (match op with | .Add => addRR h i j | _ => .stuck)
    | .int n => (match op with | .Mult => mulRI h i n | _ => .stuck)
    | .none => .stuck | .bool _ => .stuck | .str _ => .stuck)
  | .none => .stuck
  | .bool _ => .stuck

noncomputable def unV (h : MH) : UnaryOp → Val → Res Val
  | .Not, v => match truthyV h v with | some b => .ok (.bool (!b)) h | none => .stuck
  | .USub, .int a => .ok (.int (-a)) h
  | _, _ => .stuck

noncomputable def isInstV (h : MH) (t : Ty) (v : Val) : Option Bool := match v with
  | .ref i => (seqOf h i).map fun p => match t with | .list => p.1 | .tuple => !p.1 | .int => false | .bool => false | .str => false
  | .none => some false
  | .bool _ => some (match t with | .int => true | .bool => true | .list => false | .tuple => false | .str => false)
  | .int _ => some (match t with | .int => true | .bool => false | .list => false | .tuple => false | .str => false)
  | .str _ => some (match t with | .str => true | .int => false | .bool => false | .list => false | .tuple => false)

noncomputable def intsOf : List Val → Option (List Int)
  | [] => some []
  | .int i :: r => (intsOf r).map (i :: ·)
  | _ :: _ => none
noncomputable def boolsOf : List Val → Option (List Bool)
  | [] => some []
  | .bool i :: r => (boolsOf r).map (i :: ·)
  | _ :: _ => none
noncomputable def strsOf : List Val → Option (List (List Nat))
  | [] => some []
  | .str i :: r => (strsOf r).map (i :: ·)
  | _ :: _ => none


noncomputable def biL (h : MH) (v : Val) : Res Val := match v with
  | .str s => .ok (.int s.length) h
  | .ref i => (match seqOf h i with | some (_, xs) => .ok (.int xs.length) h | none => .stuck)
  | .none => .stuck
  | .bool _ => .stuck
  | .int _ => .stuck
noncomputable def biSum (h : MH) (i : Nat) : Res Val := match h[i]? with
  | some (.list xs) => (match intsOf xs with | some ns => .ok (.int ns.sum) h | none => .stuck)
  | _ => .stuck
noncomputable def biAll (h : MH) (i : Nat) : Res Val := match h[i]? with
  | some (.list xs) => (match boolsOf xs with | some bs => .ok (.bool (bs.all id)) h | none => .stuck)
  | _ => .stuck
noncomputable def biList (h : MH) (i : Nat) : Res Val := match h[i]? with
  | some (.list xs) => newList xs h
  | _ => .stuck
noncomputable def onRef (f : Nat → Res Val) (v : Val) : Res Val := match v with | .ref i => f i | .none => .stuck | .bool _ => .stuck | .int _ => .stuck | .str _ => .stuck
noncomputable def onB (h : MH) (v : Val) : Res Val := match v with
  | .bool b => .ok (.int (if b then 1 else 0)) h
  | .str _ => .stuck
  | .none => .stuck | .ref _ => .stuck | .int _ => .stuck
noncomputable def bi1 (h : MH) (b : BI) (v : Val) : Res Val := match b with
  | .len => biL h v
  | .sum => onRef (biSum h) v
  | .all => onRef (biAll h) v
  | .list => onRef (biList h) v
  | .int => onB h v
  | .min => .stuck
  | .max => .stuck
  | .str => .stuck
noncomputable def bi2 (h : MH) (f : Int → Int → Int) (v w : Val) : Res Val := match v, w with
  | .int a, .int b => .ok (.int (f a b)) h
  | _, _ => .stuck
noncomputable def biV (h : MH) (b : BI) (vs : List Val) : Res Val := match vs with
  | [v] => bi1 h b v
  | [v, w] => (match b with
    | .min => bi2 h (fun a b => if b < a then b else a) v w
    | .max => bi2 h (fun a b => if b > a then b else a) v w
    | .len => .stuck | .sum => .stuck | .all => .stuck | .list => .stuck | .int => .stuck | .str => .stuck)
  | _ => .stuck

noncomputable def idxOf (i : Int) (n : Nat) : Option Nat :=
  if 0 ≤ i then (if i < n then some i.toNat else none)
  else if -i ≤ n then some (i + n).toNat else none

noncomputable def onL (h : MH) (v : Val) (f : Nat → List Val → Res Val) : Res Val := match v with
  | .ref i => (match h[i]? with | some (.list xs) => f i xs | some (.ro _) => .stuck | some (.tup _) => .stuck | some (.inst _) => .stuck | some .aux => .stuck | none => .stuck)
  | .none => .stuck | .bool _ => .stuck | .int _ => .stuck | .str _ => .stuck
noncomputable def onI (v : Val) (f : Int → Res Val) : Res Val := match v with | .int k => f k | .none => .stuck | .bool _ => .stuck | .ref _ => .stuck | .str _ => .stuck
noncomputable def arg0 (vs : List Val) (r : Res Val) : Res Val := match vs with | [] => r | _ :: _ => .stuck
noncomputable def arg1 (vs : List Val) (f : Val → Res Val) : Res Val := match vs with | [] => .stuck | x :: r => (match r with | [] => f x | _ :: _ => .stuck)
noncomputable def arg2 (vs : List Val) (f : Val → Val → Res Val) : Res Val := match vs with | [] => .stuck | x :: r => arg1 r (f x)
noncomputable def meApp (h : MH) (v : Val) (vs : List Val) : Res Val := onL h v fun i xs => arg1 vs fun x => if xs.length < lim then .ok .none (h.set i (.list (xs ++ [x]))) else .stuck
noncomputable def popLast (h : MH) (i : Nat) (xs : List Val) : Res Val := match xs.getLast? with | some x => .ok x (h.set i (.list xs.dropLast)) | none => .stuck
noncomputable def popAt (h : MH) (i : Nat) (xs : List Val) (k : Int) : Res Val := match idxOf k xs.length with
  | some j => (match xs[j]? with | some x => .ok x (h.set i (.list (xs.eraseIdx j))) | none => .stuck)
  | none => .stuck
noncomputable def mePop (h : MH) (v : Val) (vs : List Val) : Res Val := onL h v fun i xs => match vs with | [] => popLast h i xs | k :: r => arg0 r (onI k (popAt h i xs))
noncomputable def meIns (h : MH) (v : Val) (vs : List Val) : Res Val := onL h v fun i xs => arg2 vs fun k x => onI k fun k => if 0 ≤ k ∧ k ≤ xs.length ∧ xs.length < lim then .ok .none (h.set i (.list (xs.take k.toNat ++ x :: xs.drop k.toNat))) else .stuck
noncomputable def onS (v : Val) (f : List Nat → Res Val) : Res Val := match v with | .str s => f s | .none => .stuck | .bool _ => .stuck | .int _ => .stuck | .ref _ => .stuck
noncomputable def onC (s : List Nat) (f : Nat → Res Val) : Res Val := match s with | [] => .stuck | c :: r => (match r with | [] => f c | _ :: _ => .stuck)
noncomputable def meV (h : MH) (m : Me) (v : Val) (vs : List Val) : Res Val := match m with
  | .append => meApp h v vs
  | .pop => mePop h v vs
  | .insert => meIns h v vs

noncomputable def isListAt (h : MH) (i : Nat) : Bool := match h[i]? with | some (.list _) => true | _ => false
noncomputable def isLV (h : MH) (v : Val) : Bool := match v with | .ref i => isListAt h i | .none => false | .bool _ => false | .int _ => false | .str _ => false
noncomputable def isSV (v : Val) : Bool := match v with | .str _ => true | .none => false | .bool _ => false | .int _ => false | .ref _ => false
noncomputable def meOk (h : MH) (m : Me) (v : Val) : Bool := match m with
  | .append => isLV h v
  | .pop => isLV h v
  | .insert => isLV h v

noncomputable def subV (h : MH) : Val → Val → Option Val
  | .str s, .int k => (idxOf k s.length).bind fun j => s[j]?.map fun c => .str [c]
  | .ref i, .int k => (seqOf h i).bind fun p => (idxOf k p.2.length).bind fun j => p.2[j]?
  | _, _ => none

noncomputable def cutAt (v : Val) (d : Nat) (n : Nat) : Option Nat :=
  match v with
  | .none => some d
  | .int i => if 0 ≤ i then some (min i.toNat n) else some (i + n).toNat
  | _ => none

noncomputable def sliceL (h : MH) (xs : List Val) (lo hi : Val) : Res Val := match cutAt lo 0 xs.length, cutAt hi xs.length xs.length with
  | some a, some b => newList ((xs.take b).drop a) h
  | _, _ => .stuck
noncomputable def sliceV (h : MH) (v lo hi : Val) : Res Val := match v with
  | .ref i => (match h[i]? with | some (.list xs) => sliceL h xs lo hi | some (.ro _) => .stuck | some (.tup _) => .stuck | some (.inst _) => .stuck | some .aux => .stuck | none => .stuck)
  | .str _ => .stuck
  | .none => .stuck | .bool _ => .stuck | .int _ => .stuck

noncomputable def srevV (h : MH) : Val → Res Val
  | .ref i => match h[i]? with | some (.list xs) => newList xs.reverse h | _ => .stuck
  | _ => .stuck

noncomputable def asubV (h : MH) : Val → Val → Val → Res Unit
  | .ref i, .int k, v => match h[i]? with
    | some (.list xs) => if 0 ≤ k ∧ k < xs.length then .ok () (h.set i (.list (xs.set k.toNat v))) else .stuck
    | _ => .stuck
  | _, _, _ => .stuck

noncomputable def rangeVals (a : Int) : Nat → List Val
  | 0 => []
  | n + 1 => .int a :: rangeVals (a + 1) n

/-- bind a target: a slot; slots against a tuple -/
noncomputable def bindS : List Nat → List Val → Rho → Option Rho
  | [], vs, ρ => (match vs with | [] => some ρ | _ :: _ => none)
  | i :: is, vs, ρ => (match vs with | [] => none | v :: vs => bindS is vs (ρ.set i (some v)))
noncomputable def tupV (h : MH) (v : Val) : Option (List Val) := match v with
  | .ref i => (match h[i]? with | some (.tup vs) => some vs | some (.list _) => none | some (.ro _) => none | some (.inst _) => none | some .aux => none | none => none)
  | .none => none | .bool _ => none | .int _ => none | .str _ => none
noncomputable def bindTgt (_ : MH) (t : MExpr) (v : Val) (ρ : Rho) : Option Rho := match t with
  | .loc i => some (ρ.set i (some v))
  | _ => none

noncomputable abbrev Src := List Val × (MH → Bool)

noncomputable def zipVals : List Val → List Val → List (Val × Val)
  | x :: xs, y :: ys => (x, y) :: zipVals xs ys
  | _, _ => []

noncomputable def compLoop {α : Type} (f : α → MH → Res (Option Val)) (ck : MH → Bool) : List α → MH → Res (List Val)
  | [], h => .ok [] h
  | x :: xs, h => (f x h).bind fun o h1 => if ck h1 then (compLoop f ck xs h1).bind fun vs h2 => .ok (match o with | some v => v :: vs | none => vs) h2 else .stuck

noncomputable def forLoop (f : Val → Rho → MH → Res (MFlow × Rho)) (ck : MH → Bool) : List Val → Rho → MH → Res (MFlow × Rho)
  | [], ρ, h => .ok (.next, ρ) h
  | x :: xs, ρ, h => (f x ρ h).bind fun p h1 => match p.1 with
    | .next => if ck h1 then forLoop f ck xs p.2 h1 else .stuck
    | .ret v => .ok (.ret v, p.2) h1

noncomputable def whileLoop (t : Rho → MH → Res Bool) (f : Rho → MH → Res (MFlow × Rho)) : Nat → Rho → MH → Res (MFlow × Rho)
  | 0, _, _ => .stuck
  | n + 1, ρ, h => (t ρ h).bind fun b h1 => if b then (f ρ h1).bind fun p h2 => match p.1 with
      | .next => whileLoop t f n p.2 h2
      | .ret v => .ok (.ret v, p.2) h2
    else .ok (.next, ρ) h1

noncomputable def srcOf (h : MH) (v : Val) : Option Src := match v with
  | .ref i => (match h[i]? with
    | some (.list xs) => some (xs, fun h' => decide (h'[i]? = some (.list xs)))
    | some (.ro xs) => some (xs, fun h' => decide (h'[i]? = some (.ro xs)))
    | some (.tup _) => none | some (.inst _) => none | some .aux => none | none => none)
  | .str _ => none
  | .none => none | .bool _ => none | .int _ => none

noncomputable def rangeOk (a b : Int) : Bool := decide (-lim ≤ a) && decide (a ≤ lim) && decide (-lim ≤ b) && decide (b ≤ lim) && decide (b - a ≤ lim)

structure Den where
  E : Rho → MH → Res Val
  T : Rho → MH → Res Bool
  Es : Rho → MH → Res (List Val)
  I : Rho → MH → Res Src

noncomputable def tOf (E : Rho → MH → Res Val) (ρ : Rho) (h : MH) : Res Bool := (E ρ h).bind fun v h => Res.opt (truthyV h v) h
noncomputable def denE (E : Rho → MH → Res Val) : Den := ⟨E, tOf E, fun _ _ => .stuck, fun _ _ => .stuck⟩
noncomputable def denB (E : Rho → MH → Res Val) (T : Rho → MH → Res Bool) : Den := ⟨E, T, fun _ _ => .stuck, fun _ _ => .stuck⟩
noncomputable def denS (Es : Rho → MH → Res (List Val)) : Den := ⟨fun _ _ => .stuck, fun _ _ => .stuck, Es, fun _ _ => .stuck⟩
noncomputable def denI (I : Rho → MH → Res Src) : Den := ⟨fun _ _ => .stuck, fun _ _ => .stuck, fun _ _ => .stuck, I⟩

noncomputable def optOf : List Val → Option Val
  | [] => some .none
  | [v] => some v
  | _ => none

noncomputable def irangeV (v : Val) (h : MH) : Res Src :=
  match v with
  | .int n => if rangeOk 0 n then .ok (rangeVals 0 n.toNat, fun _ => true) h else .stuck
  | _ => .stuck
noncomputable def irange2V (v w : Val) (h : MH) : Res Src :=
  match v, w with
  | .int n, .int m => if rangeOk n m then .ok (rangeVals n (m - n).toNat, fun _ => true) h else .stuck
  | _, _ => .stuck
noncomputable def lrangeV (v : Val) (h : MH) : Res Val :=
  match v with
  | .int n => if rangeOk 0 n then newList (rangeVals 0 n.toNat) h else .stuck
  | _ => .stuck
noncomputable def onInst {α : Type} (h : MH) (v : Val) (f : Nat → List (Option Val) → Res α) : Res α := match v with
  | .ref i => (match h[i]? with | some (.inst fs) => f i fs | some (.list _) => .stuck | some (.ro _) => .stuck | some (.tup _) => .stuck | some .aux => .stuck | none => .stuck)
  | .none => .stuck | .bool _ => .stuck | .int _ => .stuck | .str _ => .stuck
noncomputable def fieldV (h : MH) (o : Option (Option Val)) : Res Val := match o with | some (some w) => .ok w h | some none => .stuck | none => .stuck
noncomputable def attrV (k : Nat) (v : Val) (h : MH) : Res Val := onInst h v fun _ fs => fieldV h fs[k]?
noncomputable def isIV (h : MH) (v : Val) : Bool := match v with
  | .ref i => (match h[i]? with | some (.inst _) => true | some (.list _) => false | some (.ro _) => false | some (.tup _) => false | some .aux => false | none => false)
  | .none => false | .bool _ => false | .int _ => false | .str _ => false
noncomputable def newTV (h : MH) (r : Res Val) : Res Val := r.bind fun v h' => match v with | .none => .ok (.ref h.length) h' | .bool _ => .stuck | .int _ => .stuck | .str _ => .stuck | .ref _ => .stuck
noncomputable def listsOf (h : MH) (v : Val) : Option (List Val) := match v with
  | .ref i => (match h[i]? with | some (.list xs) => some xs | some (.ro _) => none | some (.tup _) => none | some (.inst _) => none | some .aux => none | none => none)
  | .none => none | .bool _ => none | .int _ => none | .str _ => none
noncomputable def locV (i : Nat) (ρ : Rho) (h : MH) : Res Val := match ρ[i]? with | some (some v) => .ok v h | _ => .stuck
noncomputable def compStep (tgt : MExpr) (cond : Rho → MH → Res Bool) (elt : Rho → MH → Res Val) (ρ : Rho) (x : Val) (h : MH) : Res (Option Val) :=
  match bindTgt h tgt x ρ with
  | some ρ' => (cond ρ' h).bind fun b h => if b then (elt ρ' h).bind fun v h => .ok (some v) h else .ok none h
  | none => .stuck

noncomputable def gStep (cond : Rho → MH → Res Bool) (elt : Rho → MH → Res Val) (ρ : Rho) (h : MH) : Res (Option Val) := (cond ρ h).bind fun b h => if b then (elt ρ h).bind fun v h => .ok (some v) h else .ok none h
noncomputable def pairsOf (h : MH) : List Val → Option (List (Val × Val))
  | [] => some []
  | v :: r => match v with
    | .ref i => (match h[i]? with
      | some (.tup [u, w]) => (pairsOf h r).map fun ps => (u, w) :: ps
      | _ => none)
    | _ => none
noncomputable def comppL (f : Val × Val → MH → Res (Option Val)) (h : MH) (v : Val) : Res (List Val) := match listsOf h v with
  | some xs => (match pairsOf h xs with | some ps => compLoop f (fun h' => decide (listsOf h' v = some xs) && decide (pairsOf h' xs = some ps)) ps h | none => .stuck)
  | none => .stuck
noncomputable def compqL (f : Val × Val → MH → Res (Option Val)) (h : MH) (v w : Val) : Res (List Val) := match listsOf h v with
  | some xs => (match listsOf h w with | some ys => compLoop f (fun h' => decide (listsOf h' v = some xs) && decide (listsOf h' w = some ys)) (zipVals xs ys) h | none => .stuck)
  | none => .stuck
noncomputable def pStep (cond : Rho → MH → Res Bool) (elt : Rho → MH → Res Val) (i j : Nat) (ρ : Rho) (p : Val × Val) (h : MH) : Res (Option Val) := gStep cond elt ((ρ.set i (some p.1)).set j (some p.2)) h

variable (C : Cf)

noncomputable def sem : MExpr → Den
  | .const v => denE fun _ h => .ok v h
  | .gconst v => denE fun _ h => .ok v h
  | .loc i => denE (locV i)
  | .bin op a b => denE fun ρ h => ((sem a).E ρ h).bind fun v h => ((sem b).E ρ h).bind fun w h => binV h op v w
  | .un op a => denB (fun ρ h => ((sem a).E ρ h).bind fun v h => unV h op v) (fun ρ h => match op with
      | .Not => ((sem a).T ρ h).bind fun b h => .ok (!b) h
      | op => (((sem a).E ρ h).bind fun v h => unV h op v).bind fun v h => Res.opt (truthyV h v) h)
  | .and a b => denB (fun ρ h => ((sem a).E ρ h).bind fun v h => (Res.opt (truthyV h v) h).bind fun t h => if t then (sem b).E ρ h else .ok v h)
      (fun ρ h => ((sem a).T ρ h).bind fun t h => if t then (sem b).T ρ h else .ok false h)
  | .or a b => denB (fun ρ h => ((sem a).E ρ h).bind fun v h => (Res.opt (truthyV h v) h).bind fun t h => if t then .ok v h else (sem b).E ρ h)
      (fun ρ h => ((sem a).T ρ h).bind fun t h => if t then .ok true h else (sem b).T ρ h)
  | .cmp op a b => denB (fun ρ h => ((sem a).E ρ h).bind fun v h => ((sem b).E ρ h).bind fun w h => (Res.opt (cmpV h op v w) h).bind fun t h => .ok (.bool t) h)
      (fun ρ h => ((sem a).E ρ h).bind fun v h => ((sem b).E ρ h).bind fun w h => Res.opt (cmpV h op v w) h)
  | .cmp2 o₁ o₂ a b c => denB (fun ρ h => ((sem a).E ρ h).bind fun v h => ((sem b).E ρ h).bind fun w h => (Res.opt (cmpV h o₁ v w) h).bind fun t h =>
        if t then ((sem c).E ρ h).bind fun x h => (Res.opt (cmpV h o₂ w x) h).bind fun t h => .ok (.bool t) h else .ok (.bool false) h)
      (fun ρ h => ((sem a).E ρ h).bind fun v h => ((sem b).E ρ h).bind fun w h => (Res.opt (cmpV h o₁ v w) h).bind fun t h =>
        if t then ((sem c).E ρ h).bind fun x h => Res.opt (cmpV h o₂ w x) h else .ok false h)
  | .isinst t a => denE fun ρ h => ((sem a).E ρ h).bind fun v h => (Res.opt (isInstV h t v) h).bind fun b h => .ok (.bool b) h
  | .call f args => denE fun ρ h => ((sem args).Es ρ h).bind fun vs h => C f vs h
  | .bi b args => denE fun ρ h => ((sem args).Es ρ h).bind fun vs h => biV h b vs
  | .meth m o args => denE fun ρ h => ((sem o).E ρ h).bind fun v h => if meOk h m v then ((sem args).Es ρ h).bind fun vs h => meV h m v vs else .stuck
  | .lst es => denE fun ρ h => ((sem es).Es ρ h).bind newList
  | .tup es => denE fun ρ h => ((sem es).Es ρ h).bind fun vs h => if vs.length ≤ lim then newObj (.tup vs) h else .stuck
  | .sub o i => denE fun ρ h => ((sem o).E ρ h).bind fun v h => ((sem i).E ρ h).bind fun w h => Res.opt (subV h v w) h
  | .slice o lo hi => denE fun ρ h => ((sem o).E ρ h).bind fun v h => (((sem lo).Es ρ h).bind fun a h => Res.opt (optOf a) h).bind fun a h => (((sem hi).Es ρ h).bind fun b h => Res.opt (optOf b) h).bind fun b h => sliceV h v a b
  | .comp elt tgt it cond => denE fun ρ h => ((sem it).I ρ h).bind fun s h =>
      (compLoop (compStep tgt (sem cond).T (sem elt).E ρ) s.2 s.1 h).bind newList
  | .attr o k => denE fun ρ h => ((sem o).E ρ h).bind (attrV k)
  | .mcall f o args => denE fun ρ h => ((sem o).E ρ h).bind fun v h => if isIV h v then ((sem args).Es ρ h).bind fun vs h => C f (v :: vs) h else .stuck
  | .newT f => denE fun _ h => newTV h (C f [.ref h.length] (h ++ [.inst [none, none, none], .aux]))
  | .compp elt i j a cond => denE fun ρ h => (((sem a).E ρ h).bind fun v h => comppL (pStep (sem cond).T (sem elt).E i j ρ) h v).bind newList
  | .compq elt i j a b => denE fun ρ h => (((sem a).E ρ h).bind fun v h => ((sem b).E ρ h).bind fun w h => compqL (pStep (fun _ h => .ok true h) (sem elt).E i j ρ) h v w).bind newList
  | .nil => denS fun _ h => .ok [] h
  | .cons a b => denS fun ρ h => ((sem a).E ρ h).bind fun v h => ((sem b).Es ρ h).bind fun vs h => .ok (v :: vs) h
  | .irange a => denI fun ρ h => ((sem a).E ρ h).bind irangeV
  | .iobj a => denI fun ρ h => ((sem a).E ρ h).bind fun v h => Res.opt (srcOf h v) h

noncomputable abbrev evalE (e : MExpr) := (sem C e).E
noncomputable abbrev evalT (e : MExpr) := (sem C e).T
noncomputable abbrev evalEs (e : MExpr) := (sem C e).Es
noncomputable abbrev evalI (e : MExpr) := (sem C e).I

noncomputable def aattrV (k : Nat) (v w : Val) (h : MH) : Res Unit := onInst h v fun i fs => if k < fs.length ∧ k < 3 then .ok () (h.set i (.inst (fs.set k (some w)))) else .stuck

noncomputable def forStep (tgt : MExpr) (b : Rho → MH → Res (MFlow × Rho)) (x : Val) (ρ : Rho) (h : MH) : Res (MFlow × Rho) :=
  match bindTgt h tgt x ρ with
  | some ρ' => b ρ' h
  | none => .stuck

noncomputable def caught (c : Nat) : List (Nat × Bool × Val) → Option Val
  | [] => none
  | h :: r => if h.1 = c ∨ h.1 = 0 then some h.2.2 else caught c r
noncomputable def tryV (hs : List (Nat × Bool × Val)) (ρ : Rho) (r : Res (MFlow × Rho)) : Res (MFlow × Rho) := match r with
  | .ok p h => .ok p h
  | .exc c h => (match caught c hs with | some v => .ok (.ret v, ρ) h | none => .stuck)
  | .stuck => .stuck

noncomputable def asub2K (o1 i1 o2 i2 : MExpr) (ρ : Rho) (vs : List Val) (h : MH) : Res (MFlow × Rho) := match vs with
    | [a, b] => ((sem C o1).E ρ h).bind fun ov h => ((sem C i1).E ρ h).bind fun iv h => (asubV h ov iv a).bind fun _ h =>
        ((sem C o2).E ρ h).bind fun ov h => ((sem C i2).E ρ h).bind fun iv h => (asubV h ov iv b).bind fun _ h => .ok (.next, ρ) h
    | _ => .stuck
noncomputable def asub2 (o1 i1 o2 i2 e : MExpr) (ρ : Rho) (h : MH) : Res (MFlow × Rho) :=
  ((sem C e).E ρ h).bind fun v h => (Res.opt (tupV h v) h).bind (asub2K C o1 i1 o2 i2 ρ)
noncomputable def exec (W : Nat) : MStmt → Rho → MH → Res (MFlow × Rho)
  | .nil, ρ, h => .ok (.next, ρ) h
  | .cons s r, ρ, h => (exec W s ρ h).bind fun p h => match p.1 with
      | .next => exec W r p.2 h
      | .ret v => .ok (.ret v, p.2) h
  | .assign i e, ρ, h => (evalE C e ρ h).bind fun v h => .ok (.next, ρ.set i (some v)) h
  | .asub o i e, ρ, h => (evalE C e ρ h).bind fun v h => (evalE C o ρ h).bind fun ov h => (evalE C i ρ h).bind fun iv h =>
      (asubV h ov iv v).bind fun _ h => .ok (.next, ρ) h
  | .aattr o k e, ρ, h => (evalE C e ρ h).bind fun v h => (evalE C o ρ h).bind fun ov h => (aattrV k ov v h).bind fun _ h => .ok (.next, ρ) h
  | .asub2 o1 i1 o2 i2 e, ρ, h => asub2 C o1 i1 o2 i2 e ρ h
  | .expr e, ρ, h => (evalE C e ρ h).bind fun _ h => .ok (.next, ρ) h
  | .ifs c t e, ρ, h => (evalT C c ρ h).bind fun b h => if b then exec W t ρ h else exec W e ρ h
  | .fors tgt it b, ρ, h => (evalI C it ρ h).bind fun s h => forLoop (forStep tgt (exec W b)) s.2 s.1 ρ h
  | .ret e, ρ, h => (evalE C e ρ h).bind fun v h => .ok (.ret v, ρ) h
  | .raise c, _, h => .exc c h
  | .tryx b hs, ρ, h => tryV hs ρ (exec W b ρ h)
  | .wild, _, _ => .stuck

end Mine

namespace Mine

noncomputable def callN (F : Nat → Option MFun) (W : Nat) : Nat → Cf
  | 0, _, _, _ => .stuck
  | n + 1, f, vs, h => match F f with
    | some d => if vs.length = d.np then
        (exec (callN F W n) W d.body (vs.map some ++ List.replicate (d.ns - d.np) none) h).bind fun p h => match p.1 with
          | .ret v => .ok v h
          | .next => .ok .none h
        else .stuck
    | none => .stuck

end Mine


-- part MiniRel
set_option maxRecDepth 4000
set_option linter.unusedVariables false
namespace Mine
open PySem

noncomputable def VRel (μ : List Addr) : Val → Value → Prop
  | .none, v => v = .none
  | .bool b, v => v = .bool b
  | .int i, v => ∃ t, v = .int i t
  | .str s, v => s.length ≤ lim ∧ ∃ t, v = .str ⟨s.toArray⟩ t
  | .ref i, v => ∃ a, μ[i]? = some a ∧ v = .ref a

noncomputable def VsRel (μ : List Addr) : List Val → List Value → Prop
  | [], ys => ys = []
  | v :: vs, ys => ∃ w ws, ys = w :: ws ∧ VRel μ v w ∧ VsRel μ vs ws

theorem getElem?_prefix {α : Type} {l l' : List α} (p : l <+: l') {i : Nat} {a : α} (h : l[i]? = some a) : l'[i]? = some a := by
  refine ob11 p fun t ez0x1 => ?_; clear p; subst ez0x1
  rw [List.getElem?_append_left]; exact h
  exact (List.getElem?_eq_some_iff.mp h).1

theorem VRel.mono {μ μ' : List Addr} (p : μ <+: μ') {v : Val} {w : Value} (h : VRel μ v w) : VRel μ' v w := by
  cases v with
  | ref i => refine ob12 h fun a e r => ?_; clear h; exact ⟨a, getElem?_prefix p e, r⟩
  | _ => exact h
theorem VsRel.mono {μ μ' : List Addr} (p : μ <+: μ') : ∀ {vs : List Val} {ws : List Value}, VsRel μ vs ws → VsRel μ' vs ws
  | [], _, h => h
  | _ :: _, _, ⟨w, ws, e, r, rs⟩ => ⟨w, ws, e, r.mono p, rs.mono p⟩
theorem VsRel.length {μ : List Addr} : ∀ {vs : List Val} {ws : List Value}, VsRel μ vs ws → ws.length = vs.length
  | [], _, h => by rw [show _ = [] from h]; rfl
  | _ :: _, _, ⟨w, ws, e, _, rs⟩ => by rw [e, List.length_cons, List.length_cons, rs.length]
theorem VsRel.nil {μ : List Addr} : VsRel μ [] [] := rfl
theorem VsRel.cons {μ : List Addr} {v w vs ws} (h : VRel μ v w) (hs : VsRel μ vs ws) : VsRel μ (v :: vs) (w :: ws) := ⟨w, ws, rfl, h, hs⟩
theorem VsRel.get {μ : List Addr} : ∀ {vs : List Val} {ws : List Value} {i : Nat} {v : Val}, VsRel μ vs ws → vs[i]? = some v → ∃ w, ws[i]? = some w ∧ VRel μ v w
  | [], _, _, _, _, e => by simp at e
  | _ :: _, _, 0, _, ⟨w, ws, e, r, _⟩, q => by simp at q; subst q; exact ⟨w, by rw [e]; rfl, r⟩
  | _ :: _, _, i + 1, _, ⟨w, ws, e, _, rs⟩, q => by
    simp at q; refine ob12 (rs.get q) fun x h1 h2 => ?_; exact ⟨x, by rw [e]; simpa using h1, h2⟩
theorem VsRel.append {μ : List Addr} : ∀ {vs us : List Val} {ws xs : List Value}, VsRel μ vs ws → VsRel μ us xs → VsRel μ (vs ++ us) (ws ++ xs)
  | [], _, _, _, h, k => by rw [show _ = [] from h]; exact k
  | _ :: _, _, _, _, ⟨w, ws, e, r, rs⟩, k => by rw [e]; exact ⟨w, _, rfl, r, rs.append k⟩
theorem VsRel.take {μ : List Addr} : ∀ {vs : List Val} {ws : List Value} (n : Nat), VsRel μ vs ws → VsRel μ (vs.take n) (ws.take n)
  | [], _, n, h => by rw [show _ = [] from h]; simp; rfl
  | _ :: _, _, 0, _ => by simp; rfl
  | _ :: _, _, n + 1, ⟨w, ws, e, r, rs⟩ => by rw [e]; exact ⟨w, _, rfl, r, rs.take n⟩
theorem VsRel.drop {μ : List Addr} : ∀ {vs : List Val} {ws : List Value} (n : Nat), VsRel μ vs ws → VsRel μ (vs.drop n) (ws.drop n)
  | [], _, n, h => by rw [show _ = [] from h]; simp; rfl
  | _ :: _, _, 0, h => h
  | _ :: _, _, n + 1, ⟨w, ws, e, r, rs⟩ => by rw [e]; exact rs.drop n
theorem VsRel.set {μ : List Addr} : ∀ {vs : List Val} {ws : List Value} (n : Nat) {v w}, VsRel μ vs ws → VRel μ v w → VsRel μ (vs.set n v) (ws.set n w)
  | [], _, n, _, _, h, _ => by rw [show _ = [] from h]; simp; rfl
  | _ :: _, _, 0, _, _, ⟨w, ws, e, _, rs⟩, k => by rw [e]; exact ⟨_, _, rfl, k, rs⟩
  | _ :: _, _, n + 1, _, _, ⟨w, ws, e, r, rs⟩, k => by rw [e]; exact ⟨_, _, rfl, r, rs.set n k⟩
theorem VsRel.eraseIdx {μ : List Addr} : ∀ {vs : List Val} {ws : List Value} (n : Nat), VsRel μ vs ws → VsRel μ (vs.eraseIdx n) (ws.eraseIdx n)
  | [], _, n, h => by rw [show _ = [] from h]; simp; rfl
  | _ :: _, _, 0, ⟨w, ws, e, _, rs⟩ => by rw [e]; exact rs
  | _ :: _, _, n + 1, ⟨w, ws, e, r, rs⟩ => by rw [e]; exact ⟨_, _, rfl, r, rs.eraseIdx n⟩
theorem VsRel.reverse {μ : List Addr} : ∀ {vs : List Val} {ws : List Value}, VsRel μ vs ws → VsRel μ vs.reverse ws.reverse
  | [], _, h => by rw [show _ = [] from h]; exact .nil
  | _ :: _, _, ⟨w, ws, e, r, rs⟩ => by rw [e, List.reverse_cons, List.reverse_cons]; exact rs.reverse.append ⟨w, [], rfl, r, rfl⟩
theorem VsRel.flat {μ : List Addr} {vs : List Val} {ws : List Value} (h : VsRel μ vs ws) : ∀ n, VsRel μ (List.replicate n vs).flatten (List.replicate n ws).flatten
  | 0 => rfl
  | n + 1 => by rw [List.replicate_succ, List.replicate_succ, List.flatten_cons, List.flatten_cons]; exact h.append (h.flat n)

noncomputable abbrev listObj (ys : List Value) (n : Nat) : Obj := { cls := .type "list", dict := none, data := .seq ys.toArray n, slots := #[] }
noncomputable abbrev tupObj (ys : List Value) (n : Nat) : Obj := { cls := .type "tuple", dict := none, data := .seq ys.toArray n, slots := #[] }

noncomputable def ORel (μ : List Addr) (h : Heap) (a : Addr) : MObj → Prop
  | .list xs => xs.length ≤ lim ∧ ∃ ys n, h.get? a = some (listObj ys n) ∧ VsRel μ xs ys
  | .ro xs => xs.length ≤ lim ∧ ∃ ys n, h.get? a = some (listObj ys n) ∧ VsRel μ xs ys
  | .tup xs => xs.length ≤ lim ∧ ∃ ys n, h.get? a = some (tupObj ys n) ∧ VsRel μ xs ys
  | .inst _ => ∃ o, h.get? a = some o
  | .aux => ∃ o, h.get? a = some o

noncomputable def MObj.isRo : MObj → Bool
  | .ro _ => true
  | _ => false

noncomputable def MObj.isInst : MObj → Bool
  | .inst _ => true
  | _ => false
noncomputable def MObj.isAux : MObj → Bool
  | .aux => true
  | _ => false
noncomputable def attrName : Nat → Str
  | 0 => "kept" | 1 => "goods" | _ => "past"
/-- the class Table -/
noncomputable def tabK (B : Heap) : Addr := match B.nsMap mainGlobals "Table" with | some (.ref a) => a | _ => 0
/-- an instance of ours, its dict at dx -/
noncomputable def InstR (B : Heap) (μ : List Addr) (h : Heap) (a dx : Addr) (fs : List (Option Val)) : Prop :=
  ∃ o mA, h.get? a = some o ∧ o.cls = .ref (tabK B) ∧ o.dict = some dx ∧ (∀ c, o.data ≠ .cls c) ∧ dx ≠ a ∧ h.Ns1 dx mA ∧
    (∀ (k : Nat) (v : Val), k < 3 → fs[k]? = some (some v) → ∃ w, mA (attrName k) = some w ∧ VRel μ v w) ∧ (∀ y, mA y ≠ none → y ∈ [attrName 0, attrName 1, attrName 2])
theorem InstR.mono {B : Heap} {μ μ' : List Addr} {h h' : Heap} {a dx : Addr} {fs : List (Option Val)} (p : μ <+: μ') (k : ∀ ob, h.get? a = some ob → h'.get? a = some ob) (kd : ∀ ob, h.get? dx = some ob → h'.get? dx = some ob) (r : InstR B μ h a dx fs) : InstR B μ' h' a dx fs := by
  refine ob28 r fun o mA h1 h2 h3 h4 h5 h6 h7 h8 => ?_; clear r
  exact ⟨o, mA, k _ h1, h2, h3, h4, h5, h6.at kd, fun j v hj e => let ⟨w, e1, e2⟩ := h7 j v hj e; ⟨w, e1, e2.mono p⟩, h8⟩

structure HRel (B : Heap) (μ : List Addr) (σ : MH) (h : Heap) : Prop where
  len : μ.length = σ.length
  inj : ∀ (i j : Nat) (a : Addr), μ[i]? = some a → μ[j]? = some a → i = j
  base : ∀ b o, B.get? b = some o → h.get? b = some o
  obj : ∀ (i : Nat) (a : Addr) (o : MObj), μ[i]? = some a → σ[i]? = some o → ORel μ h a o
  new : ∀ (i : Nat) (a : Addr) (o : MObj), μ[i]? = some a → σ[i]? = some o → o.isRo = false → B.get? a = none
  ins : ∀ (i : Nat) (a : Addr) (fs : List (Option Val)), μ[i]? = some a → σ[i]? = some (.inst fs) → σ[i + 1]? = some .aux ∧ ∃ dx, μ[i + 1]? = some dx ∧ InstR B μ h a dx fs

/-- an object, a dict's slots aside -/
noncomputable def nrm (o : Obj) : Obj := match o.data with
  | .dict _ _ => { o with slots := #[] }
  | _ => o
noncomputable def look (h : Heap) (b : Addr) : Option Obj := (h.get? b).map nrm
theorem nrm_data (o : Obj) : (nrm o).data = o.data := by
  unfold nrm; split <;> rfl
theorem nrm_of {o : Obj} (h : ∀ es ep, o.data ≠ .dict es ep) : nrm o = o := by
  unfold nrm; split
  · rename_i es ep e; exact absurd e (h es ep)
  · rfl
theorem look_of {h : Heap} {b : Addr} {o : Obj} (e : h.get? b = some o) : look h b = some (nrm o) := by unfold look; rw [e]; rfl
theorem look_elim {h : Heap} {b : Addr} {o : Obj} (e : look h b = some o) : ∃ o', h.get? b = some o' ∧ nrm o' = o := Option.map_eq_some_iff.mp e
theorem look_keep {h h' : Heap} {b : Addr} (k : ∀ o, h.get? b = some o → h'.get? b = some o) {o : Obj} (e : look h b = some o) : look h' b = some o := by
  refine ob12 (look_elim e) fun o' e1 ez3x2 => ?_; subst ez3x2
  exact look_of (k o' e1)
theorem get_of_look {h : Heap} {b : Addr} {o : Obj} (e : look h b = some o) (n : ∀ es ep, o.data ≠ .dict es ep) : h.get? b = some o := by
  refine ob12 (look_elim e) fun o' e1 ez4x2 => ?_; subst ez4x2
  rw [nrm_data] at n
  rw [e1, nrm_of n]

structure Step (μ μ' : List Addr) (h h' : Heap) : Prop where
  pre : μ <+: μ'
  keep : ∀ b o, b ∉ μ → look h b = some o → look h' b = some o
  fresh : ∀ b, b ∈ μ' → b ∉ μ → h.get? b = none

theorem Step.refl (μ : List Addr) (h : Heap) : Step μ μ h h := ⟨List.prefix_refl _, fun _ _ _ e => e, fun _ x y => absurd x y⟩
theorem Step.notMem {μ μ' : List Addr} {h h' : Heap} (s : Step μ μ' h h') {b : Addr} {o : Obj} (n : b ∉ μ) (e : h.get? b = some o) : b ∉ μ' := fun q => by
  rw [s.fresh b q n] at e; cases e
theorem Step.notMemL {μ μ' : List Addr} {h h' : Heap} (s : Step μ μ' h h') {b : Addr} {o : Obj} (n : b ∉ μ) (e : look h b = some o) : b ∉ μ' := by
  refine ob12 (look_elim e) fun o' e' _ => ?_
  exact s.notMem n e'
theorem Step.get {μ μ' : List Addr} {h h' : Heap} (s : Step μ μ' h h') {b : Addr} {o : Obj} (n : b ∉ μ) (e : h.get? b = some o) (nd : ∀ es ep, o.data ≠ .dict es ep) : h'.get? b = some o := by
  have := s.keep b _ n (look_of e)
  rw [nrm_of nd] at this
  exact get_of_look this nd
theorem Step.trans {μ μ' μ'' : List Addr} {h h' h'' : Heap} (s : Step μ μ' h h') (t : Step μ' μ'' h' h'') : Step μ μ'' h h'' :=
  ⟨s.pre.trans t.pre, fun b o n e => t.keep b o (s.notMemL n e) (s.keep b o n e), fun b x y => by
    by_cases q : b ∈ μ'
    · exact s.fresh b q y
    · cases e : h.get? b with
      | none => rfl
      | some o =>
        have := t.fresh b x q
        refine ob12 (look_elim (s.keep b _ y (look_of e))) fun o' e' _ => ?_
        rw [e'] at this; cases this⟩
/-- objects are only added -/
theorem Step.grow {μ : List Addr} {h h' : Heap} (k : ∀ b o, h.get? b = some o → h'.get? b = some o) : Step μ μ h h' :=
  ⟨List.prefix_refl _, fun b o _ e => look_keep (k b) e, fun _ x y => absurd x y⟩

theorem ORel.mono {μ μ' : List Addr} {h h' : Heap} {a : Addr} {o : MObj} (p : μ <+: μ') (k : ∀ ob, h.get? a = some ob → h'.get? a = some ob) (r : ORel μ h a o) : ORel μ' h' a o := by
  cases o with
  | list xs => refine ob02 r fun l wz7 => ?_; clear r; refine ob22 wz7 fun ys n e v => ?_; clear wz7; exact ⟨l, ys, n, k _ e, v.mono p⟩
  | ro xs => refine ob02 r fun l wz8 => ?_; clear r; refine ob22 wz8 fun ys n e v => ?_; clear wz8; exact ⟨l, ys, n, k _ e, v.mono p⟩
  | tup xs => refine ob02 r fun l wz9 => ?_; clear r; refine ob22 wz9 fun ys n e v => ?_; clear wz9; exact ⟨l, ys, n, k _ e, v.mono p⟩
  | inst _ => refine ob11 r fun ob e => ?_; clear r; exact ⟨ob, k _ e⟩
  | aux => refine ob11 r fun ob e => ?_; clear r; exact ⟨ob, k _ e⟩

/-- the heap grows, nothing of ours changes -/
theorem HRel.grow {B : Heap} {μ : List Addr} {σ : MH} {h h' : Heap} (r : HRel B μ σ h) (k : ∀ b o, h.get? b = some o → h'.get? b = some o) : HRel B μ σ h' :=
  ⟨r.len, r.inj, fun b o e => k b o (r.base b o e), fun i a o e q => (r.obj i a o e q).mono (List.prefix_refl _) (k a), r.new, fun i a fs e q => by
    refine ob02 (r.ins i a fs e q) fun h1 wz10 => ?_; refine ob12 wz10 fun dx h2 h3 => ?_; clear wz10
    exact ⟨h1, dx, h2, h3.mono (List.prefix_refl _) (k a) (k dx)⟩⟩

/-- a new object of ours -/
theorem HRel.alloc {B : Heap} {μ : List Addr} {σ : MH} {h h' : Heap} (r : HRel B μ σ h) {a : Addr} {o : MObj} (k : ∀ b o, h.get? b = some o → h'.get? b = some o)
    (f : a ∉ μ) (b : B.get? a = none) (ho : ORel (μ ++ [a]) h' a o) (no : o.isInst = false := by rfl) : HRel B (μ ++ [a]) (σ ++ [o]) h' := by
  have len' := r.len
  have old : ∀ {i : Nat} {x : Addr}, (μ ++ [a])[i]? = some x → (μ[i]? = some x ∧ i < μ.length) ∨ (x = a ∧ i = μ.length) := fun {i x} e => by
    rcases Nat.lt_trichotomy i μ.length with q | q | q
    · rw [List.getElem?_append_left q] at e; exact .inl ⟨e, q⟩
    · subst q; rw [List.getElem?_append_right (Nat.le_refl _), Nat.sub_self] at e; cases e; exact .inr ⟨rfl, rfl⟩
    · rw [List.getElem?_eq_none (by simp; (first | exact om1 q | omega))] at e; cases e
  have mem : ∀ {i : Nat} {x : Addr}, μ[i]? = some x → x ∈ μ := fun e => List.mem_of_getElem? e
  refine ⟨by simp [len'], fun i j x e q => ?_, fun b o e => k b o (r.base b o e), fun i x o' e q => ?_, fun i x o' e q n => ?_, fun i x fs e q => ?_⟩
  · rcases old e with ⟨e, _⟩ | ⟨rfl, e⟩ <;> rcases old q with ⟨q, _⟩ | ⟨q', q⟩
    · exact r.inj i j x e q
    · exact absurd (mem e) (q' ▸ f)
    · exact absurd (mem q) f
    · (first | exact om2 ‹_› q | omega)
  · rcases old e with ⟨e, l⟩ | ⟨rfl, z⟩
    · rw [List.getElem?_append_left (by (first | exact om3 len' l | omega))] at q
      exact (r.obj i x o' e q).mono (List.prefix_append _ _) (k x)
    · subst z; rw [len', List.getElem?_append_right (Nat.le_refl _), Nat.sub_self] at q; cases q; exact ho
  · rcases old e with ⟨e, l⟩ | ⟨rfl, e⟩
    · rw [List.getElem?_append_left (by (first | exact om3 len' l | omega))] at q
      exact r.new i x o' e q n
    · exact b
  · rcases old e with ⟨e, l⟩ | ⟨rfl, z⟩
    · rw [List.getElem?_append_left (by (first | exact om3 len' l | omega))] at q
      refine ob02 (r.ins i x fs e q) fun h1 wz11 => ?_; refine ob12 wz11 fun dx h2 h3 => ?_; clear wz11
      exact ⟨by rw [List.getElem?_append_left (List.getElem?_eq_some_iff.mp h1).1]; exact h1, dx, getElem?_prefix (List.prefix_append _ _) h2, h3.mono (List.prefix_append _ _) (k x) (k dx)⟩
    · subst z; rw [len', List.getElem?_append_right (Nat.le_refl _), Nat.sub_self] at q; cases q; cases no

/-- an object of ours changes -/
theorem HRel.upd {B : Heap} {μ : List Addr} {σ : MH} {h h' : Heap} (r : HRel B μ σ h) {i : Nat} {a : Addr} {o o' : MObj} (e : μ[i]? = some a) (q : σ[i]? = some o) (n : o.isRo = false)
    (k : ∀ b x, b ≠ a → h.get? b = some x → h'.get? b = some x) (ho : ORel μ h' a o') (no : o'.isInst = false := by rfl) (na : o.isAux = false := by rfl) : HRel B μ (σ.set i o') h' := by
  have nb := r.new i a o e q n
  refine ⟨by simp [r.len], r.inj, fun b x y => k b x (fun z => by rw [z, nb] at y; cases y) (r.base b x y), fun j x p u v => ?_, fun j x p u v w => ?_, fun j x fs u v => ?_⟩
  · by_cases z : i = j
    · subst z
      rw [List.getElem?_set_self (by exact (List.getElem?_eq_some_iff.mp q).1)] at v
      cases v; rw [e] at u; cases u; exact ho
    · rw [List.getElem?_set_ne z] at v
      exact (r.obj j x p u v).mono (List.prefix_refl _) (fun ob y => k x ob (fun c => z (by subst c; exact r.inj i j x e u)) y)
  · by_cases z : i = j
    · subst z; rw [e] at u; cases u; exact nb
    · rw [List.getElem?_set_ne z] at v; exact r.new j x p u v w
  · by_cases z : i = j
    · subst z
      rw [List.getElem?_set_self (by exact (List.getElem?_eq_some_iff.mp q).1)] at v
      cases v; cases no
    · rw [List.getElem?_set_ne z] at v
      refine ob02 (r.ins j x fs u v) fun h1 wz12 => ?_; refine ob12 wz12 fun dx h2 h3 => ?_; clear wz12
      have z2 : i ≠ j + 1 := fun c => by subst c; rw [q] at h1; cases h1; cases na
      exact ⟨by rw [List.getElem?_set_ne z2]; exact h1, dx, h2, h3.mono (List.prefix_refl _) (fun ob y => k x ob (fun c => z (by subst c; exact r.inj i j x e u)) y) (fun ob y => k dx ob (fun c => z2 (by subst c; exact r.inj i (j + 1) dx e h2)) y)⟩

theorem HRel.alive {B : Heap} {μ : List Addr} {σ : MH} {h : Heap} (r : HRel B μ σ h) {a : Addr} (q : a ∈ μ) : ∃ o, h.get? a = some o := by
  refine ob11 (List.getElem_of_mem q) fun i wz13 => ?_; refine ob11 wz13 fun hi e => ?_; clear wz13
  have ei : μ[i]? = some a := by rw [List.getElem?_eq_getElem hi, e]
  have hs : i < σ.length := by rw [← r.len]; exact hi
  have := r.obj i _ _ ei (List.getElem?_eq_getElem hs)
  cases q : σ[i] with
  | list xs => rw [q] at this; refine ob02 this fun _ wz14 => ?_; clear this; refine ob22 wz14 fun ys n g _ => ?_; clear wz14; exact ⟨_, g⟩
  | ro xs => rw [q] at this; refine ob02 this fun _ wz15 => ?_; clear this; refine ob22 wz15 fun ys n g _ => ?_; clear wz15; exact ⟨_, g⟩
  | tup xs => rw [q] at this; refine ob02 this fun _ wz16 => ?_; clear this; refine ob22 wz16 fun ys n g _ => ?_; clear wz16; exact ⟨_, g⟩
  | inst fs => rw [q] at this; exact this
  | aux => rw [q] at this; exact this
theorem HRel.ref {B : Heap} {μ : List Addr} {σ : MH} {h : Heap} (r : HRel B μ σ h) {i : Nat} {o : MObj} (q : σ[i]? = some o) : ∃ a, μ[i]? = some a ∧ ORel μ h a o := by
  have l : i < μ.length := by rw [r.len]; exact (List.getElem?_eq_some_iff.mp q).1
  exact ⟨μ[i], List.getElem?_eq_getElem l, r.obj i _ o (List.getElem?_eq_getElem l) q⟩
theorem HRel.at {B : Heap} {μ : List Addr} {σ : MH} {h : Heap} (r : HRel B μ σ h) {i : Nat} {a : Addr} {o : MObj} (e : μ[i]? = some a) (q : σ[i]? = some o) : ORel μ h a o := r.obj i a o e q

/-- what a sequence of ours is in the heap -/
theorem HRel.seq {B : Heap} {μ : List Addr} {σ : MH} {h : Heap} (r : HRel B μ σ h) {i : Nat} {a : Addr} {k : Bool} {xs : List Val} (e : μ[i]? = some a) (q : seqOf σ i = some (k, xs)) :
    xs.length ≤ lim ∧ ∃ ys n, VsRel μ xs ys ∧ h.get? a = some (if k then listObj ys n else tupObj ys n) := by
  unfold seqOf at q
  split at q
  · rename_i xs' z; cases q; refine ob02 (r.at e z) fun l wz17 => ?_; refine ob22 wz17 fun ys n u v => ?_; clear wz17; exact ⟨l, ys, n, v, u⟩
  · rename_i xs' z; cases q; refine ob02 (r.at e z) fun l wz18 => ?_; refine ob22 wz18 fun ys n u v => ?_; clear wz18; exact ⟨l, ys, n, v, u⟩
  · rename_i xs' z; cases q; refine ob02 (r.at e z) fun l wz19 => ?_; refine ob22 wz19 fun ys n u v => ?_; clear wz19; exact ⟨l, ys, n, v, u⟩
  · cases q

noncomputable def isVar : Option NameKind → Bool
  | some .local | some .cell | some .free => true
  | _ => false

noncomputable def Bound (env : Env) (h : Heap) (x : Str) (v : Value) : Prop :=
  (env.kindOf x = some .local ∧ ∃ m, h.Ns env.locals m ∧ m x = some v) ∨
  ((env.kindOf x = some .cell ∨ env.kindOf x = some .free) ∧ ∃ c, env.cells.lookup x = some c ∧ h.IsCell c (some v))

/-- the frame: where it lies -/
structure Frm (B : Heap) (env : Env) (μ : List Addr) (h : Heap) : Prop where
  kind : env.scope.kind = .function
  glob : env.globals = mainGlobals
  bl : env.builtins = builtinsNs
  ns : ∃ m, h.Ns env.locals m
  locMu : env.locals ∉ μ
  locB : B.get? env.locals = none
  cell : ∀ x c, env.cells.lookup x = some c → (∃ v, h.IsCell c v) ∧ c ≠ env.locals ∧ c ∉ μ ∧ B.get? c = none
  cinj : ∀ x y c, env.cells.lookup x = some c → env.cells.lookup y = some c → x = y
  has : ∀ x, (env.kindOf x = some .cell ∨ env.kindOf x = some .free) → ∃ c, env.cells.lookup x = some c

noncomputable def Vars (env : Env) (sm : List (Str × Nat)) (ρ : Rho) (μ : List Addr) (h : Heap) : Prop :=
  ∀ (x : Str) (i : Nat) (v : Val), isVar (env.kindOf x) = true → sm.lookup x = some i → ρ[i]? = some (some v) → ∃ w, Bound env h x w ∧ VRel μ v w

theorem Ns_alive {h : Heap} {a : Addr} {m : Str → Option Value} (x : h.Ns a m) : ∃ o, h.get? a = some o := let ⟨o, _, _, e, _⟩ := x; ⟨o, e⟩
theorem Ns_at {h h' : Heap} {a : Addr} {m : Str → Option Value} (x : h.Ns a m) (k : ∀ o, h.get? a = some o → h'.get? a = some o) : h'.Ns a m := let ⟨o, es, ep, e, r⟩ := x; ⟨o, es, ep, k _ e, r⟩
theorem IsCell_at {h h' : Heap} {c : Addr} {v : Option Value} (x : h.IsCell c v) (k : ∀ o, h.get? c = some o → h'.get? c = some o) : h'.IsCell c v := let ⟨o, e, r⟩ := x; ⟨o, k _ e, r⟩
theorem Ns_look {h h' : Heap} {a : Addr} {m : Str → Option Value} (x : h.Ns a m) (k : ∀ o, look h a = some o → look h' a = some o) : h'.Ns a m := by
  refine ob33 x fun o es ep e d r => ?_; clear x
  refine ob12 (look_elim (k _ (look_of e))) fun o' e' q => ?_
  exact ⟨o', es, ep, e', by rw [← nrm_data o', q, nrm_data]; exact d, r⟩
theorem IsCell_look {h h' : Heap} {c : Addr} {v : Option Value} (x : h.IsCell c v) (k : ∀ o, look h c = some o → look h' c = some o) : h'.IsCell c v := by
  refine ob12 x fun o e d => ?_; clear x
  refine ob12 (look_elim (k _ (look_of e))) fun o' e' q => ?_
  exact ⟨o', e', by rw [← nrm_data o', q, nrm_data]; exact d⟩
theorem Ns_uniq {h : Heap} {a : Addr} {m m' : Str → Option Value} (x : h.Ns a m) (y : h.Ns a m') : m = m' := by
  refine ob34 x fun o es ep e d _ r => ?_; clear x
  refine ob34 y fun o' es' ep' e' d' _ r' => ?_; clear y
  rw [e] at e'; cases e'; rw [d] at d'; cases d'
  exact funext fun z => (r z).symm.trans (r' z)

/-- what a step leaves of a frame -/
theorem Bound.atL {env : Env} {h h' : Heap} {x : Str} {v : Value} (b : Bound env h x v) (kl : ∀ o, look h env.locals = some o → look h' env.locals = some o)
    (kc : ∀ c o, env.cells.lookup x = some c → look h c = some o → look h' c = some o) : Bound env h' x v := by
  rcases b with ⟨k, m, n, e⟩ | ⟨k, c, l, e⟩
  · exact .inl ⟨k, m, Ns_look n kl, e⟩
  · exact .inr ⟨k, c, l, IsCell_look e fun o => kc c o l⟩
theorem Bound.at {env : Env} {h h' : Heap} {x : Str} {v : Value} (b : Bound env h x v) (kl : ∀ o, h.get? env.locals = some o → h'.get? env.locals = some o)
    (kc : ∀ c o, env.cells.lookup x = some c → h.get? c = some o → h'.get? c = some o) : Bound env h' x v := b.atL (fun _ e => look_keep kl e) fun c _ q e => look_keep (fun o => kc c o q) e

theorem Frm.step {B : Heap} {env : Env} {μ μ' : List Addr} {h h' : Heap} (f : Frm B env μ h) (s : Step μ μ' h h') : Frm B env μ' h' := by
  refine ob11 f.ns fun m n => ?_
  refine ob11 (Ns_alive n) fun o e => ?_
  refine ⟨f.kind, f.glob, f.bl, ⟨m, Ns_look n fun o e => s.keep _ o f.locMu e⟩, s.notMem f.locMu e, f.locB, fun x c l => ?_, f.cinj, f.has⟩
  refine ob04 (f.cell x c l) fun wz26x0 ne nm nb => ?_; refine ob11 wz26x0 fun v ic => ?_; clear wz26x0
  have ⟨o', e', _⟩ := ic
  exact ⟨⟨v, IsCell_look ic fun o e => s.keep _ o nm e⟩, ne, s.notMem nm e', nb⟩
theorem Vars.step {B : Heap} {env : Env} {sm : List (Str × Nat)} {ρ : Rho} {μ μ' : List Addr} {h h' : Heap} (f : Frm B env μ h) (vs : Vars env sm ρ μ h) (s : Step μ μ' h h') : Vars env sm ρ μ' h' :=
  fun x i v k l e => by
    refine ob12 (vs x i v k l e) fun w b r => ?_
    exact ⟨w, b.atL (fun o e => s.keep _ o f.locMu e) (fun c o q e => s.keep _ o (f.cell x c q).2.2.1 e), r.mono s.pre⟩

end Mine


-- part MiniHd
set_option maxRecDepth 100000
set_option linter.unusedVariables false
namespace Mine
open PySem

/-- an exception that is being handled has no other behind it -/
noncomputable def HdOk (A : Around) (μ : List Addr) (h : Heap) : Prop := ∀ v, A.handled = some v → ∃ e oe vs, v = .ref e ∧ e ∉ μ ∧ h.get? e = some oe ∧ oe.data = .fields vs ∧ vs[2]? = some .none
theorem HdOk.none {A : Around} {μ : List Addr} {h : Heap} (q : A.handled = none) : HdOk A μ h := fun v e => by rw [q] at e; cases e
theorem HdOk.step {A : Around} {μ μ' : List Addr} {h h' : Heap} (q : HdOk A μ h) (st : Step μ μ' h h') : HdOk A μ' h' := fun v e => by
  refine ob35 (q v e) fun a oe vs q1 q2 q3 q4 q5 => ?_
  exact ⟨a, oe, vs, q1, st.notMem q2 q3, st.get q2 q3 (fun es ep z => by rw [q4] at z; cases z), q4, q5⟩

theorem entry_unchain : entryFor table "proto.unchain" = some Builtin.«proto.unchain» := entryFor_of_tree (by kernel_rfl)

section
variable {prog : Program} {w : World} {A : Around} {E : Value → Shared → Prop} {s : Shared}

theorem raiseNew_h {α : Type} {a : Addr} {oa : Obj} {va : Array Value} {μ : List Addr} {Q : α → Shared → Prop} (hd : HdOk A μ s.heap) (ha : s.heap.get? a = some oa) (hva : oa.data = .fields va) (h2 : 2 < va.size)
    (h : ∀ h' oa', h'.get? a = some oa' → oa'.cls = oa.cls → Heap.SameBut a s.heap h' → E (.ref a) { s with heap := h' }) : wpAny (model prog w) A (raiseNew (.ref a) : Sem α) Q E s := by
  unfold raiseNew
  refine wpAny_bind (wpAny_handled ?_)
  cases q : A.handled with
  | none => exact wpAny_bind (wpAny_pure (wpAny_throw (h s.heap oa ha rfl ⟨rfl, fun _ _ => rfl⟩)))
  | some v =>
    refine ob35 (hd v q) fun e oe vs ez1x3 q2 q3 q4 q5 => ?_; subst ez1x3
    show wpAny (model prog w) A (if (Value.ref e != Value.ref a) = true then _ else _) Q E s
    by_cases z : (Value.ref e != Value.ref a) = true
    · rw [if_pos z]
      refine wpAny_bind (wpAny_holding (wpAny_runValue (codeAny_builtin entry_unchain ?_)))
      unfold Builtin.«proto.unchain»
      refine wpAny_bind (wpAny_field q3 q4 q5 ?_)
      rw [if_pos (by decide)]
      refine wpAny_pure (wpAny_bind (wpAny_setField (i := 2) (x := .ref e) ha hva h2 (wpAny_throw (h _ _ (Heap.get?_update_self _ ha (Obj.isFreed_of_fields (Obj.data_mapFields hva _))) (Obj.cls_mapFields ..) (Heap.SameBut.update ..)))))
    · rw [if_neg z]
      exact wpAny_throw (h s.heap oa ha rfl ⟨rfl, fun _ _ => rfl⟩)

theorem pyNext_range_end_h {it : Addr} {x left step : Int} {μ : List Addr} {Q : Option Value → Shared → Prop} (hd : HdOk A μ s.heap) (hit : IsRangeIter s.heap it x left step) (hleft : left ≤ 0)
    (hQ : ∀ h', Heap.ExtBut it s.heap h' → Q none { s with heap := h' }) : wpAny (model prog w) A (pyNext (.ref it)) Q E s := by
  have hT : s.TypeIs (.ref it) "range_iterator" := ⟨_, hit, rfl⟩
  unfold pyNext
  refine wpAny_bind (wpAny_attempt (wpAny_callSpecial?_slot (name := Str.ofString "__next__") hT F.slot_range_iterator_next
    (wpAny_call_entry F.slot_range_iterator_next hT F.entry_range_iterator_next ?_ (F.args_range_iterator_next_1 _))))
  show wpAny _ _ (field (.ref it) 0 >>= _) _ _ s
  refine wpAny_bind (wpAny_field hit rfl (x := rawInt x) rfl ?_)
  show wpAny _ _ (field (.ref it) 1 >>= _) _ _ s
  refine wpAny_bind (wpAny_field hit rfl (x := rawInt left) rfl ?_)
  show wpAny _ _ (field (.ref it) 2 >>= _) _ _ s
  refine wpAny_bind (wpAny_field hit rfl (x := rawInt step) rfl ?_)
  show wpAny _ _ (if left ≤ 0 then _ else _) _ _ s
  rw [if_pos hleft]
  refine wpAny_bind (wpAny_rule ?_)
  refine wpAny_bind ?_
  show wpAny _ _ (newExc (.type "StopIteration") [] >>= _) _ _ _
  refine wpAny_bind ?_
  simp only [newExc, newTuple]
  refine wpAny_bind (wpAny_newObj_type ?_ (by size_fits))
  refine wpAny_bind (m := firstArgMember _ _) (wpAny_of_eq (a := Value.none) (by first | rfl | (simp only [firstArgMember]; rfl)) ?_)
  refine wpAny_newObj_type ?_ (by size_fits)
  refine raiseNew_h (μ := []) (A := A.in1) ?_ (Heap.get?_push_size _ rfl) rfl (by show 2 < 6; decide) fun h' oa' e1 e2 sb => ?_
  · intro v e
    refine ob35 (hd v e) fun a oe vs q1 q2 q3 q4 q5 => ?_
    exact ⟨a, oe, vs, q1, List.not_mem_nil, Heap.get?_push_of_some _ (Heap.get?_push_of_some _ q3), q4, q5⟩
  · refine wpAny_bind (wpAny_isInstance (T := "StopIteration") (b := true) ⟨_, e1, e2⟩ isSubtype_stop ?_)
    refine wpAny_pure (hQ _ fun b o nb e => ?_)
    rw [sb.2 b (fun z => by rw [z] at e; exact absurd (Heap.lt_size e) (by simp))]
    exact Heap.get?_push_of_some _ (Heap.get?_push_of_some _ e)
end
end Mine


-- part MiniEq
set_option maxRecDepth 4000
set_option linter.unusedVariables false
namespace Mine
open PySem PySem.SeqAt

theorem eqP_refl {v : Val} {b : Bool} (h : eqP v v = some b) : b = true := by
  cases v with
  | none => cases h; rfl
  | bool a => have h : some (a == a) = some b := h; rw [beq_self_eq_true] at h; cases h; rfl
  | int a => have h : some (a == a) = some b := h; rw [beq_self_eq_true] at h; cases h; rfl
  | str a => have h : some (a == a) = some b := h; rw [beq_self_eq_true] at h; cases h; rfl
  | ref a => cases h
theorem eqL_refl {f : Val → Val → Option Bool} (hf : ∀ v b, f v v = some b → b = true) : ∀ {xs : List Val} {b : Bool}, eqL f xs xs = some b → b = true
  | [], _, h => by simpa [eqL] using h.symm
  | x :: xs, b, h => by
    simp only [eqL, Option.bind_eq_some_iff, Option.map_eq_some_iff] at h
    refine ob12 h fun c hc wz0 => ?_; clear h; obtain ⟨d, hd, e⟩ := wz0
    rw [← e, hf x c hc, eqL_refl hf hd]; rfl
theorem eqV_refl {σ : MH} : ∀ {n : Nat} {v : Val} {b : Bool}, eqV n σ v v = some b → b = true
  | 0, v, b, h => eqP_refl h
  | n + 1, v, b, h => by
    cases v with
    | ref i =>
      simp only [eqV] at h
      cases q : seqOf σ i with
      | none => rw [q] at h; simp at h
      | some p => obtain ⟨k, xs⟩ := p; rw [q] at h; simp at h; exact eqL_refl (fun v b => eqV_refl) h
    | none => exact eqP_refl (v := .none) h
    | bool b => exact eqP_refl (v := .bool b) h
    | int b => exact eqP_refl (v := .int b) h
    | str b => exact eqP_refl (v := .str b) h

theorem isList_of {h : Heap} {a : Addr} {ys : List Value} {n : Nat} (e : h.get? a = some (listObj ys n)) : h.IsList a ys.toArray := ⟨_, e, rfl, n, rfl⟩
theorem isTup_of {h : Heap} {a : Addr} {ys : List Value} {n : Nat} (e : h.get? a = some (tupObj ys n)) : h.IsTuple a ys.toArray := ⟨_, e, rfl, n, rfl⟩

theorem strBeq (a b : List Nat) : ((⟨a.toArray⟩ : Str) == ⟨b.toArray⟩) = (a == b) := by
  rw [Bool.eq_iff_iff]; simp

/-- both answers at once -/
noncomputable def Both (A : Around) (s : Shared) (v w : Value) (b : Bool) : Prop := RcAt A s v w b ∧ EqAt A s v w b ∧ RcNeAt A s v w (!b)

theorem eqP_both {A : Around} {s : Shared} {μ : List Addr} {v w : Val} {v' w' : Value} {b : Bool} (hv : VRel μ v v') (hw : VRel μ w w') (h : eqP v w = some b) : Both A s v' w' b := by
  cases v <;> cases w <;> first | (exact (Option.noConfusion h)) | skip
  all_goals simp only [VRel] at hv hw
  all_goals first
    | (obtain ⟨_, t, rfl⟩ := hv; obtain ⟨_, u, rfl⟩ := hw)
    | (obtain ⟨_, t, rfl⟩ := hv; obtain ⟨u, rfl⟩ := hw)
    | (obtain ⟨_, t, rfl⟩ := hv; subst hw)
    | (obtain ⟨t, rfl⟩ := hv; obtain ⟨_, u, rfl⟩ := hw)
    | (subst hv; obtain ⟨_, u, rfl⟩ := hw)
    | (obtain ⟨t, rfl⟩ := hv; obtain ⟨u, rfl⟩ := hw)
    | (obtain ⟨t, rfl⟩ := hv; subst hw)
    | (subst hv; obtain ⟨u, rfl⟩ := hw)
    | (subst hv; subst hw)
  all_goals cases h
  · exact ⟨RcAt.none_none, EqAt.same _, RcNeAt.none_none⟩
  · exact ⟨RcAt.none_bool _, EqAt.none_bool _, RcNeAt.none_bool _⟩
  · exact ⟨RcAt.none_int _ _, EqAt.none_int _ _, RcNeAt.none_int _ _⟩
  · exact ⟨RcAt.none_str _ _, EqAt.none_str _ _, RcNeAt.none_str _ _⟩
  · exact ⟨RcAt.bool_none _, EqAt.bool_none _, RcNeAt.bool_none _⟩
  · exact ⟨RcAt.bool_bool _ _, EqAt.bool_bool _ _, RcNeAt.bool_bool _ _⟩
  · exact ⟨RcAt.bool_int _ _ _, EqAt.bool_int _ _ _, RcNeAt.bool_int _ _ _⟩
  · exact ⟨RcAt.bool_str _ _ _, EqAt.bool_str _ _ _, RcNeAt.bool_str _ _ _⟩
  · exact ⟨RcAt.int_none _ _, EqAt.int_none _ _, RcNeAt.int_none _ _⟩
  · exact ⟨RcAt.int_bool _ _ _, EqAt.int_bool _ _ _, RcNeAt.int_bool _ _ _⟩
  · exact ⟨RcAt.int_int _ _ _ _, EqAt.int_int _ _ _ _, RcNeAt.int_int _ _ _ _⟩
  · exact ⟨RcAt.int_str _ _ _ _, EqAt.int_str _ _ _ _, RcNeAt.int_str _ _ _ _⟩
  · exact ⟨RcAt.str_none _ _, EqAt.str_none _ _, RcNeAt.str_none _ _⟩
  · exact ⟨RcAt.str_bool _ _ _, EqAt.str_bool _ _ _, RcNeAt.str_bool _ _ _⟩
  · exact ⟨RcAt.str_int _ _ _ _, EqAt.str_int _ _ _ _, RcNeAt.str_int _ _ _ _⟩
  · rename_i a c _ _
    have := strBeq a c
    exact ⟨by rw [← this]; exact RcAt.str_str _ _ _ _, by rw [← this]; exact EqAt.str_str _ _ _ _, by rw [← this]; exact RcNeAt.str_str _ _ _ _⟩

theorem eqL_get {f : Val → Val → Option Bool} : ∀ {xs ys : List Val} {b : Bool}, eqL f xs ys = some b → xs.length = ys.length →
    ∃ e : Nat → Bool, (∀ (j : Nat) x y, xs[j]? = some x → ys[j]? = some y → f x y = some (e j)) ∧ b = (List.range xs.length).all e
  | [], [], b, h, _ => ⟨fun _ => true, by simp, by simpa [eqL] using h.symm⟩
  | x :: xs, y :: ys, b, h, l => by
    simp only [eqL, Option.bind_eq_some_iff, Option.map_eq_some_iff] at h
    refine ob12 h fun c hc wz7 => ?_; clear h; obtain ⟨d, hd, e⟩ := wz7
    refine ob12 (eqL_get hd (by simpa using l)) fun g h1 h2 => ?_
    refine ⟨fun j => match j with | 0 => c | j + 1 => g j, fun j x' y' q r => ?_, ?_⟩
    · cases j with
      | zero => simp at q r; subst q; subst r; exact hc
      | succ j => simp at q r; exact h1 j x' y' q r
    · rw [← e, h2, List.length_cons, List.range_succ_eq_map]
      simp [List.all_map, Function.comp_def]
  | [], _ :: _, _, _, l => by simp at l
  | _ :: _, [], _, _, l => by simp at l

theorem mixedBoth {A : Around} {s : Shared} {μ : List Addr} {a : Addr} {v : Val} {v' : Value} (x : (∃ ys, s.heap.IsList a ys) ∨ (∃ ys, s.heap.IsTuple a ys)) (hu : A.units < cLine) (hv : VRel μ v v') (nr : ∀ i, v ≠ .ref i) :
    Both A s (.ref a) v' false ∧ Both A s v' (.ref a) false := by
  cases v with
  | none =>
    rw [show v' = _ from hv]
    rcases x with ⟨_, x⟩ | ⟨_, x⟩
    · exact ⟨⟨RcAt.list_none x hu, EqAt.list_none x hu, RcNeAt.list_none x hu⟩, ⟨RcAt.none_list x hu, EqAt.none_list x hu, RcNeAt.none_list x hu⟩⟩
    · exact ⟨⟨RcAt.tuple_none x hu, EqAt.tuple_none x hu, RcNeAt.tuple_none x hu⟩, ⟨RcAt.none_tuple x hu, EqAt.none_tuple x hu, RcNeAt.none_tuple x hu⟩⟩
  | bool b =>
    rw [show v' = _ from hv]
    rcases x with ⟨_, x⟩ | ⟨_, x⟩
    · exact ⟨⟨RcAt.list_bool _ x hu, EqAt.list_bool _ x hu, RcNeAt.list_bool _ x hu⟩, ⟨RcAt.bool_list _ x hu, EqAt.bool_list _ x hu, RcNeAt.bool_list _ x hu⟩⟩
    · exact ⟨⟨RcAt.tuple_bool _ x hu, EqAt.tuple_bool _ x hu, RcNeAt.tuple_bool _ x hu⟩, ⟨RcAt.bool_tuple _ x hu, EqAt.bool_tuple _ x hu, RcNeAt.bool_tuple _ x hu⟩⟩
  | int b =>
    obtain ⟨t, rfl⟩ := hv
    rcases x with ⟨_, x⟩ | ⟨_, x⟩
    · exact ⟨⟨RcAt.list_int _ _ x hu, EqAt.list_int _ _ x hu, RcNeAt.list_int _ _ x hu⟩, ⟨RcAt.int_list _ _ x hu, EqAt.int_list _ _ x hu, RcNeAt.int_list _ _ x hu⟩⟩
    · exact ⟨⟨RcAt.tuple_int _ _ x hu, EqAt.tuple_int _ _ x hu, RcNeAt.tuple_int _ _ x hu⟩, ⟨RcAt.int_tuple _ _ x hu, EqAt.int_tuple _ _ x hu, RcNeAt.int_tuple _ _ x hu⟩⟩
  | str b =>
    refine ob02 hv fun _ wz9 => ?_; clear hv; obtain ⟨t, rfl⟩ := wz9
    rcases x with ⟨_, x⟩ | ⟨_, x⟩
    · exact ⟨⟨RcAt.list_str _ _ x hu, EqAt.list_str _ _ x hu, RcNeAt.list_str _ _ x hu⟩, ⟨RcAt.str_list _ _ x hu, EqAt.str_list _ _ x hu, RcNeAt.str_list _ _ x hu⟩⟩
    · exact ⟨⟨RcAt.tuple_str _ _ x hu, EqAt.tuple_str _ _ x hu, RcNeAt.tuple_str _ _ x hu⟩, ⟨RcAt.str_tuple _ _ x hu, EqAt.str_tuple _ _ x hu, RcNeAt.str_tuple _ _ x hu⟩⟩
  | ref i => exact absurd rfl (nr i)

theorem eqV_both {B : Heap} {μ : List Addr} {σ : MH} {s : Shared} (r : HRel B μ σ s.heap) : ∀ {n : Nat} {A : Around} {v w : Val} {v' w' : Value} {b : Bool}, A.units + n < cLine →
    VRel μ v v' → VRel μ w w' → eqV n σ v w = some b → Both A s v' w' b
  | 0, A, v, w, v', w', b, _, hv, hw, h => eqP_both hv hw h
  | n + 1, A, v, w, v', w', b, hu, hv, hw, h => by
    have hu' : A.units < cLine := by (first | exact om4 hu | omega)
    have mixed : ∀ {i : Nat} {a : Addr} {p : Bool × List Val}, μ[i]? = some a → seqOf σ i = some p → (∃ ys, s.heap.IsList a ys) ∨ (∃ ys, s.heap.IsTuple a ys) := fun {i a p} e q => by
      obtain ⟨k, xs⟩ := p
      refine ob02 (r.seq e q) fun _ wz10 => ?_; obtain ⟨ys, n, _, u⟩ := wz10
      cases k
      · exact .inr ⟨_, isTup_of u⟩
      · exact .inl ⟨_, isList_of u⟩
    by_cases hr : ∃ i j, v = .ref i ∧ w = .ref j
    · refine ob22 hr fun i j ez11x2 ez11x3 => ?_; clear hr; subst ez11x2; subst ez11x3
      refine ob12 hv fun a ea ez12x2 => ?_; clear hv; subst ez12x2
      refine ob12 hw fun c ec ez13x2 => ?_; clear hw; subst ez13x2
      have same : a = c → b = true := fun q => by
        have := r.inj i j a ea (q ▸ ec); subst this; exact eqV_refl h
      have both : (RcAt A s (.ref a) (.ref c) b ∧ RcNeAt A s (.ref a) (.ref c) (!b)) → Both A s (.ref a) (.ref c) b := fun x => ⟨x.1, by
        by_cases q : a = c
        · rw [same q, q]; exact EqAt.same _
        · exact EqAt.of_refs q x.1, x.2⟩
      simp only [eqV] at h
      split at h
      · rename_i k xs l ys q1 q2
        refine ob02 (r.seq ea q1) fun l1 wz14 => ?_; obtain ⟨xs', n1, v1, u1⟩ := wz14
        refine ob02 (r.seq ec q2) fun l2 wz15 => ?_; obtain ⟨ys', n2, v2, u2⟩ := wz15
        refine both ?_
        have items : ∀ e : Nat → Bool, (∀ (j : Nat) x y, xs[j]? = some x → ys[j]? = some y → eqV n σ x y = some (e j)) → ∀ j (h1 : j < xs'.toArray.size) (h2 : j < ys'.toArray.size), EqAt A.in1 s xs'.toArray[j] ys'.toArray[j] (e j) := fun e he j h1 h2 => by
          have g1 : j < xs.length := by rw [← v1.length]; simpa using h1
          have g2 : j < ys.length := by rw [← v2.length]; simpa using h2
          refine ob12 (v1.get (List.getElem?_eq_getElem g1)) fun x' p1 p2 => ?_
          refine ob12 (v2.get (List.getElem?_eq_getElem g2)) fun y' p3 p4 => ?_
          have t1 : xs'.toArray[j] = x' := by simp at h1 ⊢; rw [List.getElem?_eq_getElem h1] at p1; exact Option.some.inj p1
          have t2 : ys'.toArray[j] = y' := by simp at h2 ⊢; rw [List.getElem?_eq_getElem h2] at p3; exact Option.some.inj p3
          rw [t1, t2]
          exact (eqV_both r (n := n) (A := A.in1) (by show A.units + 1 + n < cLine; (first | exact om5 hu | omega)) p2 p4 (he j _ _ (List.getElem?_eq_getElem g1) (List.getElem?_eq_getElem g2))).2.1
        split at h
        · rename_i hkl; subst hkl
          split at h
          · rename_i hlen
            refine ob12 (eqL_get h hlen) fun e he hb => ?_
            cases k
            · have t1 := RcAt.tuples (isTup_of u1) (isTup_of u2) hu' (items e he)
              have t2 := RcNeAt.tuples (isTup_of u1) (isTup_of u2) hu' (items e he)
              rw [hb]
              have z : xs'.toArray.size = ys'.toArray.size := by simp [v1.length, v2.length, hlen]
              rw [z, Nat.min_self, ← z] at t1 t2
              exact ⟨by simpa [v1.length] using t1, by simpa [v1.length] using t2⟩
            · have t1 := RcAt.lists (isList_of u1) (isList_of u2) (by simp [v1.length, v2.length, hlen]) hu' (items e he)
              have t2 := RcNeAt.lists (isList_of u1) (isList_of u2) (by simp [v1.length, v2.length, hlen]) hu' (items e he)
              rw [hb]; exact ⟨by simpa [v1.length] using t1, by simpa [v1.length] using t2⟩
          · rename_i hlen
            have z : (xs'.toArray.size != ys'.toArray.size) = true := by simp [v1.length, v2.length, hlen]
            cases k
            · simp at h
            · simp at h; subst h; exact ⟨RcAt.lists_lengths (isList_of u1) (isList_of u2) z hu', RcNeAt.lists_lengths (isList_of u1) (isList_of u2) z hu'⟩
        · rename_i hkl; cases h
          cases k <;> cases l
          · exact absurd rfl hkl
          · exact ⟨RcAt.tuple_list (isTup_of u1) (isList_of u2) hu', RcNeAt.tuple_list (isTup_of u1) (isList_of u2) hu'⟩
          · exact ⟨RcAt.list_tuple (isList_of u1) (isTup_of u2) hu', RcNeAt.list_tuple (isList_of u1) (isTup_of u2) hu'⟩
          · exact absurd rfl hkl
      · cases h
    · cases v with
      | ref i =>
        refine ob12 hv fun a ea ez19x2 => ?_; clear hv; subst ez19x2
        cases w with
        | ref j => exact absurd ⟨_, _, rfl, rfl⟩ hr
        | _ =>
          simp only [eqV, Option.map_eq_some_iff] at h
          refine ob12 h fun p hp ez20x2 => ?_; clear h; subst ez20x2
          exact (mixedBoth (mixed ea hp) hu' hw (by intro _; simp)).1
      | _ =>
        cases w with
        | ref j =>
          refine ob12 hw fun a ea ez21x2 => ?_; clear hw; subst ez21x2
          simp only [eqV, Option.map_eq_some_iff] at h
          refine ob12 h fun p hp ez22x2 => ?_; clear h; subst ez22x2
          exact (mixedBoth (mixed ea hp) hu' hv (by intro _; simp)).2
        | _ => exact eqP_both hv hw h

end Mine


-- part MiniVal
set_option maxRecDepth 4000
set_option linter.unusedVariables false
namespace Mine
open PySem

/-- where exceptions go: the frames, the post -/
structure XE where
  l : List Env
  E : Value → Shared → Prop

/-- the classes of exceptions, by number -/
noncomputable def clsName : Nat → Str
  | 0 => "SplitError" | 1 => "NoPeople" | 2 => "TooMany" | 3 => "Uneven" | 4 => "BadBid" | 5 => "NoDeal" | 6 => "NoPerson" | 7 => "NoGood" | _ => "NoText"
noncomputable def clsK (B : Heap) (c : Nat) : Addr := match B.nsMap mainGlobals (clsName c) with | some (.ref a) => a | _ => 0

noncomputable abbrev bmVE : List Value := [.type "ValueError", .type "Exception", .type "BaseException", .type "object"]
noncomputable def tlK (B : Heap) (c : Nat) : List Value := (if c = 0 then [] else [.ref (clsK B 0)]) ++ bmVE
noncomputable abbrev exQuiet : List Str := ["__init__", "__getattribute__", "__getattr__", "__class__"]
/-- a class of exceptions as it stands -/
structure XR where
  nm : Str
  N : Addr
  q : Str
  bs : List Value
  hdct : Bool
  sn : List Str
  sub : List Value
  ab : Bool
  col : Option Bool
  dd : Option Addr
  k0 : Option Value
  k1 : Option Value
  k2 : Option Value
  k3 : Option Value
  k5 : Option Value
  mN : Str → Option Value
@[reducible] noncomputable def XR.obj (r : XR) (B : Heap) (c : Nat) : Obj := excClassObj (clsName c) r.q (clsK B c) r.N r.bs (tlK B c) r.hdct r.sn r.sub r.ab r.col r.dd r.k0 r.k1 r.k2 r.k3 r.k5 "ValueError.__new__"
@[reducible] noncomputable def XR.cls (r : XR) (C N : Addr) : Obj := excClassObj r.nm r.q C N r.bs [Value.type "object"] true r.sn r.sub false r.col r.dd r.k0 r.k1 r.k2 r.k3 r.k5 "object.__new__"
theorem clsObj {h : Heap} {C N : Addr} {mN : Str → Option Value} (T : PyProof.Rows.ClsAt h C N mN) : ∃ r : XR, h.get? C = some (r.cls C N) := by
  refine ob71 T.obj fun nm q bs sn sub col dd wz0 => ?_; refine ob51 wz0 fun k0 k1 k2 k3 k5 hC => ?_; clear wz0
  exact ⟨⟨nm, N, q, bs, true, sn, sub, false, col, dd, k0, k1, k2, k3, k5, mN⟩, hC⟩
noncomputable def ExcCls (B : Heap) (c : Nat) : Prop := c < 9 ∧ (∃ c0 dd sl cd m0, B.get? (clsK B 0) = some { cls := c0, dict := dd, data := .cls cd, slots := sl } ∧ cd.name = clsName 0 ∧ B.Ns cd.ns m0 ∧ ∀ n ∈ exQuiet, m0 n = none) ∧
  ∃ r : XR, B.get? (clsK B c) = some (r.obj B c) ∧ B.Ns r.N r.mN ∧ (∀ n ∈ exQuiet, r.mN n = none) ∧ OwnTail B bmVE (tlK B c)
noncomputable abbrev HX (B : Heap) (μ : List Addr) (σ : MH) (base : Heap) (c : Nat) : Prop := HRel B μ σ base ∧ ExcCls B c

/-- no other exception behind it -/
noncomputable def Ctx0 (h : Heap) (e : Addr) : Prop := ∃ oe vs, h.get? e = some oe ∧ oe.data = .fields vs ∧ vs[2]? = some .none
noncomputable def Trc (h base : Heap) (e : Addr) (cls : Value) : Prop := (∃ a0 fl, h.TracedAtW base e cls a0 fl) ∧ Ctx0 h e
/-- an exception at a frame: just made there, or with a traceback -/
noncomputable def ExcAt (base : Heap) (l : List Env) (C e : Addr) (h' : Heap) : Prop :=
  base.StaysIn h' ∧ base.get? e = none ∧ h'.FunFrames base l ∧
  ((∃ oe vs a0, h'.get? e = some oe ∧ oe.cls = .ref C ∧ oe.data = .fields vs ∧ vs[0]? = some a0 ∧ vs[1]? = some .none ∧ vs[2]? = some .none) ∨ Trc h' base e (.ref C))
/-- the way to an exception: what was there, dicts aside, stands in the base -/
structure StepX (μ μ' : List Addr) (h base h' : Heap) : Prop where
  step : Step μ μ' h h'
  based : ∀ b o, b ∉ μ → look h b = some o → (∀ es ep, o.data ≠ .dict es ep) → ∃ o', base.get? b = some o'
theorem Step.transX' {μ μ' μ'' : List Addr} {h h' h'' base : Heap} (s : Step μ μ' h h') (t : StepX μ' μ'' h' base h'') : StepX μ μ'' h base h'' :=
  ⟨s.trans t.step, fun b o n e nd => t.based b o (s.notMemL n e) (s.keep b o n e) nd⟩
noncomputable def PostX (B : Heap) (X : XE) (μ : List Addr) (s : Shared) (c : Nat) (σ : MH) : Prop :=
  ∀ μ' h' tk e base, HX B μ' σ base c → StepX μ μ' s.heap base h' → ExcAt base X.l (clsK B c) e h' → X.E (.ref e) { s with heap := h', toks := tk }
theorem PostX.step {B : Heap} {X : XE} {μ μ' : List Addr} {s : Shared} {c : Nat} {σ : MH} {h' : Heap} {tk : Nat} (p : PostX B X μ s c σ) (st : Step μ μ' s.heap h') : PostX B X μ' { s with heap := h', toks := tk } c σ :=
  fun μ'' h'' tk' e base r st' x => p μ'' h'' tk' e base r (st.transX' st') x

noncomputable def Post {α β : Type} (B : Heap) (X : XE) (V : List Addr → α → β → Prop) (μ : List Addr) (s : Shared) (Q : β → Shared → Prop) : Res α → Prop
  | .ok v σ => ∀ μ' w h' tk, HRel B μ' σ h' → Step μ μ' s.heap h' → V μ' v w → Q w { s with heap := h', toks := tk }
  | .exc c σ => PostX B X μ s c σ
  | .stuck => False

noncomputable def BRel (_ : List Addr) (a b : Bool) : Prop := a = b

class Small (n : Nat) : Prop where
  lt : n < 1000
/-- n = 1000: inside of a handler -/
structure AOk (n : Nat) (A : Around) : Prop where
  hnd : n < 1000 → A.handled = none
  depth : n < 1000 → A.depth + 2 * n + 1 < 900
  units : A.units + 20 * (n % 1000) + 110 < 9900
theorem AOk.handled {n : Nat} [i : Small n] {A : Around} (h : AOk n A) : A.handled = none := h.hnd i.lt
/-- what a call wants -/
structure AOk0 (n : Nat) (A : Around) : Prop where
  handled : A.handled = none
  depth : A.depth + 2 * n < 900
  units : A.units + 20 * n + 100 < 9900
theorem AOk.low {n : Nat} [i : Small n] {A : Around} (h : AOk n A) : AOk0 n A := ⟨h.handled, by have := h.depth i.lt; (first | exact om6 this | omega), by have := h.units; have := i.lt; (first | exact om7 ‹_› this | omega)⟩

theorem AOk.u {n : Nat} {A : Around} (h : AOk n A) (k : Nat) (hk : k ≤ 100 := by omega) : A.units + k < cLine := by have := h.units; show _ < 9900; (first | exact om8 hk this | omega)

section
variable {B : Heap} {X : XE} {μ : List Addr} {σ : MH} {s : Shared}

theorem Post.here {α β : Type} {V : List Addr → α → β → Prop} {Q : β → Shared → Prop} {v : α} {w : β} {tk : Nat} (r : HRel B μ σ s.heap) (p : Post B X V μ s Q (.ok v σ)) (hv : V μ v w) : Q w { s with toks := tk } :=
  p μ w s.heap tk r (Step.refl _ _) hv
theorem Post.here' {α β : Type} {V : List Addr → α → β → Prop} {Q : β → Shared → Prop} {v : α} {w : β} (r : HRel B μ σ s.heap) (p : Post B X V μ s Q (.ok v σ)) (hv : V μ v w) : Q w s :=
  p μ w s.heap s.toks r (Step.refl _ _) hv
theorem Post.grow {α β : Type} {V : List Addr → α → β → Prop} {Q : β → Shared → Prop} {v : α} {w : β} {h' : Heap} {tk : Nat} (r : HRel B μ σ s.heap) (p : Post B X V μ s Q (.ok v σ)) (k : ∀ b o, s.heap.get? b = some o → h'.get? b = some o) (hv : V μ v w) : Q w { s with heap := h', toks := tk } :=
  p μ w h' tk (r.grow k) (Step.grow k) hv
theorem Post.step {α β : Type} {V : List Addr → α → β → Prop} {Q : β → Shared → Prop} {x : Res α} {μ' : List Addr} {h' : Heap} {tk : Nat} (p : Post B X V μ s Q x) (st : Step μ μ' s.heap h') : Post B X V μ' { s with heap := h', toks := tk } Q x := by
  cases x with
  | ok v σ' => intro μ'' w h'' tk' r st' hv; exact p μ'' w h'' tk' r (st.trans st') hv
  | exc c h => exact PostX.step p st
  | stuck => exact p

theorem HRel.fresh (r : HRel B μ σ s.heap) : s.heap.objs.size ∉ μ := fun q => by
  refine ob11 (r.alive q) fun o g => ?_; exact absurd (Heap.lt_size g) (Nat.lt_irrefl _)
theorem HRel.freshB (r : HRel B μ σ s.heap) : B.get? s.heap.objs.size = none := by
  cases e : B.get? s.heap.objs.size with
  | none => rfl
  | some o => exact absurd (Heap.lt_size (r.base _ _ e)) (Nat.lt_irrefl _)
theorem size_none (h : Heap) : h.get? h.objs.size = none := by
  cases e : h.get? h.objs.size with
  | none => rfl
  | some o => exact absurd (Heap.lt_size e) (Nat.lt_irrefl _)

/-- a new object at the heap's end, or at any address that was free -/
theorem Post.newAt {Q : Value → Shared → Prop} {o : MObj} {a : Addr} {h' : Heap} {tk : Nat} (r : HRel B μ σ s.heap) (p : Post B X VRel μ s Q (newObj o σ)) (k : ∀ b ob, s.heap.get? b = some ob → h'.get? b = some ob)
    (fm : a ∉ μ) (fb : B.get? a = none) (fh : s.heap.get? a = none) (ho : ORel (μ ++ [a]) h' a o) (no : o.isInst = false := by rfl) : Q (.ref a) { s with heap := h', toks := tk } := by
  refine p (μ ++ [a]) _ h' tk (r.alloc k fm fb ho no) ⟨List.prefix_append _ _, fun b ob _ e => look_keep (k b) e, fun b x y => ?_⟩ ⟨a, ?_, rfl⟩
  · rcases List.mem_append.mp x with x | x
    · exact absurd x y
    · rw [List.mem_singleton.mp x]; exact fh
  · rw [← r.len, List.getElem?_append_right (Nat.le_refl _), Nat.sub_self]; rfl
theorem Post.new {Q : Value → Shared → Prop} {o : MObj} {h' : Heap} {tk : Nat} (r : HRel B μ σ s.heap) (p : Post B X VRel μ s Q (newObj o σ)) (k : ∀ b ob, s.heap.get? b = some ob → h'.get? b = some ob)
    (ho : ORel (μ ++ [s.heap.objs.size]) h' s.heap.objs.size o) (no : o.isInst = false := by rfl) : Q (.ref s.heap.objs.size) { s with heap := h', toks := tk } :=
  p.newAt r k r.fresh r.freshB (size_none _) ho no
theorem Post.newList {Q : Value → Shared → Prop} {xs : List Val} {ys : List Value} {n : Nat} {h' : Heap} {tk : Nat} (r : HRel B μ σ s.heap) (p : Post B X VRel μ s Q (newList xs σ)) (k : ∀ b ob, s.heap.get? b = some ob → h'.get? b = some ob)
    (e : h'.get? s.heap.objs.size = some (listObj ys n)) (hv : VsRel μ xs ys) : Q (.ref s.heap.objs.size) { s with heap := h', toks := tk } := by
  unfold Mine.newList at p
  split at p
  · rename_i hl; exact p.new r k ⟨hl, ys, n, e, hv.mono (List.prefix_append _ _)⟩
  · exact p.elim
theorem newList_len {Q : Value → Shared → Prop} {xs : List Val} (p : Post B X VRel μ s Q (Mine.newList xs σ)) : xs.length ≤ lim := by
  unfold Mine.newList at p
  split at p
  · assumption
  · exact p.elim
theorem push_keep (h : Heap) (o : Obj) : ∀ b ob, h.get? b = some ob → (h.push o).get? b = some ob := fun _ _ e => Heap.get?_push_of_some o e

/-- an object of ours changes -/
theorem Post.upd {α β : Type} {V : List Addr → α → β → Prop} {Q : β → Shared → Prop} {v : α} {w : β} {i : Nat} {a : Addr} {o o' : MObj} {h' : Heap} {tk : Nat} (r : HRel B μ σ s.heap) (p : Post B X V μ s Q (.ok v (σ.set i o')))
    (e : μ[i]? = some a) (q : σ[i]? = some o) (nr : o.isRo = false) (k : ∀ b x, b ≠ a → s.heap.get? b = some x → h'.get? b = some x) (ho : ORel μ h' a o') (hv : V μ v w) (no : o'.isInst = false := by rfl) (na : o.isAux = false := by rfl) : Q w { s with heap := h', toks := tk } :=
  p μ w h' tk (r.upd e q nr k ho no na) ⟨List.prefix_refl _, fun b ob n g => look_keep (fun o' => k b o' (fun z => n (z ▸ List.mem_of_getElem? e))) g, fun _ x y => absurd x y⟩ hv

variable {prog : Program} {w : World} {A : Around} {E : Value → Shared → Prop} {n : Nat}

theorem truthy_sound {v : Val} {v' : Value} {Q : Bool → Shared → Prop} (r : HRel B μ σ s.heap) (hv : VRel μ v v') (p : Post B X BRel μ s Q (Res.opt (truthyV σ v) σ)) : wpAny (model prog w) A (truthy v') Q E s := by
  cases v with
  | none => rw [show v' = _ from hv]; exact PyProof.Rows.truthy_none (p.here' r rfl)
  | bool b => rw [show v' = _ from hv]; exact wpAny_truthy_bool (p.here' r rfl)
  | int i => refine ob11 hv fun t ez2x1 => ?_; clear hv; subst ez2x1; exact PyProof.Rows.truthy_int (p.here' r rfl)
  | str x =>
    refine ob02 hv fun l wz1 => ?_; clear hv; refine ob11 wz1 fun t ez3x1 => ?_; clear wz1; subst ez3x1
    have hl : x.length ≤ 1048576 := l
    have e : (⟨x.toArray⟩ : Str).length = x.length := by simp [Str.length]
    refine P.truthy_str (by rw [e]; omega) (p.here r ?_)
    rw [e]; cases x <;> simp [BRel]
    (first | exact om10 | omega)
  | ref i =>
    refine ob12 hv fun a ea ez2x2 => ?_; clear hv; subst ez2x2
    simp only [truthyV] at p
    cases q : seqOf σ i with
    | none => rw [q] at p; exact p.elim
    | some z =>
      obtain ⟨k, xs⟩ := z
      rw [q] at p
      cases k
      · exact p.elim
      · refine ob02 (r.seq ea q) fun l wz3 => ?_; refine ob22 wz3 fun ys n hv u => ?_; clear wz3
        have hl : ys.length ≤ 1048576 := by rw [hv.length]; exact l
        refine wpAny_truthy_list (isList_of u) (by simp; (first | exact om11 hl | omega)) (p.here r ?_)
        show (!xs.isEmpty) = _
        have := hv.length
        cases xs <;> cases ys <;> simp_all

theorem mulOk_of {a b : Int} (h : mulOk a b = true) : IntMulOk a b := by
  have key : ∀ x : Int, x.natAbs < 9223372036854775808 → Builtin.Int.intBits x ≤ 64 := fun x hx => by
    unfold Builtin.Int.intBits
    split
    · (first | exact om12 | omega)
    · have : x.natAbs.log2 < 63 := (Nat.log2_lt (by simp_all)).mpr (by omega)
      (first | exact om14 this | omega)
  unfold mulOk at h
  rcases Bool.or_eq_true_iff.mp h with h | h
  · exact IntMulOk.of_left (key a (of_decide_eq_true h))
  · exact IntMulOk.of_right (key b (of_decide_eq_true h))

theorem idx_seq {i : Int} {n k : Nat} (h : idxOf i n = some k) : seqIndex? i n = some k ∧ k < n ∧ -(n : Int) ≤ i ∧ i < n := by
  unfold idxOf at h
  split at h
  · split at h
    · cases h; exact ⟨seqIndex_of (by assumption) (by assumption), by (first | exact om15 ‹_› ‹_› | omega), by (first | exact om16 ‹_› | omega), by (first | exact om17 ‹_› | omega)⟩
    · cases h
  · split at h
    · cases h; exact ⟨seqIndex_neg (by (first | exact om18 ‹_› | omega)) (by (first | exact om19 ‹_› | omega)), by (first | exact om20 ‹_› ‹_› | omega), by (first | exact om19 ‹_› | omega), by (first | exact om21 ‹_› | omega)⟩
    · cases h

theorem strLen (x : List Nat) : (⟨x.toArray⟩ : Str).length = x.length := by simp [Str.length]
theorem strApp (x y : List Nat) : (⟨x.toArray⟩ : Str) ++ ⟨y.toArray⟩ = ⟨(x ++ y).toArray⟩ := by
  show Str.append _ _ = _; unfold Str.append; simp

theorem foldl_app (items : Array Value) : ∀ (n : Nat) (acc : Array Value), (List.foldl (fun x1 x2 => x1 ++ x2) acc (List.replicate n items)) = acc ++ (List.replicate n items.toList).flatten.toArray
  | 0, acc => by simp
  | n + 1, acc => by rw [List.replicate_succ, List.foldl_cons, foldl_app items n, List.replicate_succ, List.flatten_cons, Array.append_assoc]; congr 1; apply Array.toList_inj.mp; simp

theorem bin_sound {op : Operator} {v u : Val} {v' u' : Value} {Q : Value → Shared → Prop} (r : HRel B μ σ s.heap) (hv : VRel μ v v') (hu : VRel μ u u') (p : Post B X VRel μ s Q (binV σ op v u)) : wpAny (model prog w) A (binaryOp op v' u') Q E s := by
  cases v with
  | none => exact p.elim
  | bool => exact p.elim
  | int a =>
    cases u with
    | int b =>
      cases op with
      | Add =>
        refine ob11 hv fun t ez6x1 => ?_; clear hv; subst ez6x1; refine ob11 hu fun t' ez7x1 => ?_; clear hu; subst ez7x1; exact PyProof.Rows.add_int (p.here r ⟨_, rfl⟩)
      | Sub =>
        refine ob11 hv fun t ez8x1 => ?_; clear hv; subst ez8x1; refine ob11 hu fun t' ez9x1 => ?_; clear hu; subst ez9x1; exact PyProof.Rows.sub_int (p.here r ⟨_, rfl⟩)
      | Mult =>
        have p : Post B X VRel μ s Q (if mulOk a b then .ok (.int (a * b)) σ else .stuck) := p
        refine ob11 hv fun t ez10x1 => ?_; clear hv; subst ez10x1; refine ob11 hu fun t' ez11x1 => ?_; clear hu; subst ez11x1
        split at p
        · rename_i hm
          exact PyProof.Rows.mul_int (p.here r ⟨_, rfl⟩) (mulOk_of hm)
        · exact p.elim
      | FloorDiv =>
        have p : Post B X VRel μ s Q (if 0 < b ∧ b < 1073741824 then .ok (.int (a / b)) σ else .stuck) := p
        refine ob11 hv fun t ez12x1 => ?_; clear hv; subst ez12x1; refine ob11 hu fun t' ez13x1 => ?_; clear hu; subst ez13x1
        split at p
        · rename_i hm
          refine PyProof.Rows.floordiv_int (by (first | exact om22 hm | omega)) ?_ (.inl (PyProof.noPylong_small (by omega)))
          rw [Int.fdiv_eq_ediv_of_nonneg _ (by (first | exact om24 hm | omega))]
          exact p.here r ⟨_, rfl⟩
        · exact p.elim
      | Mod =>
        have p : Post B X VRel μ s Q (if 0 < b then .ok (.int (a % b)) σ else .stuck) := p
        refine ob11 hv fun t ez14x1 => ?_; clear hv; subst ez14x1; refine ob11 hu fun t' ez15x1 => ?_; clear hu; subst ez15x1
        split at p
        · rename_i hm
          refine PyProof.Rows.mod_int' (by (first | exact om25 hm | omega)) ?_
          rw [Int.fmod_eq_emod_of_nonneg _ (by (first | exact om26 hm | omega))]
          exact p.here r ⟨_, rfl⟩
        · exact p.elim
      | _ => exact p.elim
    | _ => exact p.elim
  | str a =>
    cases u with
    | str b =>
      cases op with
      | Add =>
        have p : Post B X VRel μ s Q (if a.length + b.length ≤ lim then .ok (.str (a ++ b)) σ else .stuck) := p
        refine ob02 hv fun l1 wz4 => ?_; clear hv; refine ob11 wz4 fun t ez16x1 => ?_; clear wz4; subst ez16x1; refine ob02 hu fun l2 wz5 => ?_; clear hu; refine ob11 wz5 fun t' ez17x1 => ?_; clear wz5; subst ez17x1
        split at p
        · rename_i hm
          have l3 : a.length ≤ 1048576 := l1
          have l4 : b.length ≤ 1048576 := l2
          refine PyProof.Rows.add_str (fun t' tk => ?_) (by rw [strLen, strLen]; show _ ≤ 2 ^ 24; omega)
          rw [strApp]
          exact p.here r ⟨by rw [List.length_append]; exact hm, t', rfl⟩
        · exact p.elim
      | _ => exact p.elim
    | _ => exact p.elim
  | ref i =>
    cases u with
    | ref j =>
      cases op with
      | Add =>
        have p : Post B X VRel μ s Q (addRR σ i j) := p
        refine ob12 hv fun a ea ez6x2 => ?_; clear hv; subst ez6x2; refine ob12 hu fun b eb ez7x2 => ?_; clear hu; subst ez7x2
        unfold addRR at p
        split at p
        · rename_i xs ys q1 q2
          refine ob02 (r.at ea q1) fun l1 wz8 => ?_; refine ob22 wz8 fun xs' n1 u1 v1 => ?_; clear wz8
          refine ob02 (r.at eb q2) fun l2 wz9 => ?_; refine ob22 wz9 fun ys' n2 u2 v2 => ?_; clear wz9
          have l3 : xs.length ≤ 1048576 := l1
          have l4 : ys.length ≤ 1048576 := l2
          refine PySem.P.add_list u1 u2 (p.newList (ys := xs' ++ ys') (n := 0) r (push_keep _ _) ?_ (v1.append v2)) (by simp [v1.length, v2.length]; show _ ≤ 2 ^ 24; omega)
          rw [Heap.get?_push_size _ rfl]; simp
        · exact p.elim
      | _ => exact p.elim
    | int m =>
      cases op with
      | Mult =>
        have p : Post B X VRel μ s Q (mulRI σ i m) := p
        refine ob12 hv fun a ea ez10x2 => ?_; clear hv; subst ez10x2; refine ob11 hu fun t ez20x1 => ?_; clear hu; subst ez20x1
        unfold mulRI at p
        split at p
        · rename_i xs q1
          split at p
          · rename_i hb
            refine ob02 (r.at ea q1) fun l1 wz11 => ?_; refine ob22 wz11 fun xs' n1 u1 v1 => ?_; clear wz11
            have l3 : xs.length ≤ 1048576 := l1
            have hl := newList_len p
            have hm : (List.replicate m.toNat xs).flatten.length = m.toNat * xs.length := by simp [List.length_flatten]
            have hlim : lim = 1048576 := rfl
            have hsz : xs'.toArray.size * m.toNat ≤ 2 ^ 24 := by
              rw [hm] at hl
              simp [v1.length]; rw [Nat.mul_comm]; (first | exact om28 hl hlim | omega)
            refine wpAny_binaryOp_repeat_ref (T := "list") (U := "int") (by decide) ⟨_, u1, rfl⟩ (fun s' => typeIs_int s' m t) noFill_list_mul F.fills_int_mul F.slot_int_rmul repeat_list F.slot_int_index.lookup
              (call_meets F.slot_int_rmul (typeIs_int s m t) F.entry_int_rmul (F.args_int_rmul_2 _ _) (int___rmul___int_list m t a xs'.toArray n1)
                ⟨u1, rfl, ⟨_, u1, rfl⟩, call_meets F.slot_list_mul ⟨_, u1, rfl⟩ F.entry_list_mul (F.args_list_mul_2 _ _)
                  (AutoListH.list___mul___list_int_3 a xs'.toArray n1 m t (by simp [Builtin.List.listFitsIndex]; (first | exact om29 hb hlim | omega)) (by omega) (by simp [Builtin.List.listTooLong, sizeLine]; simp at hsz; (first | exact om31 hsz | omega)))
                  ⟨u1, ?_⟩⟩)
            have e2 : (List.foldl (fun x1 x2 => x1 ++ x2) #[] (List.replicate (if xs'.toArray.isEmpty = true then 0 else m.toNat) xs'.toArray)) = (List.replicate m.toNat xs').flatten.toArray := by
              rw [foldl_app]
              split
              · rename_i he
                have : xs' = [] := by simpa using he
                subst this
                simp
              · simp
            rw [e2]
            exact p.newList (n := 0) r (push_keep _ _) (Heap.get?_push_size _ rfl) (v1.flat _)
          · exact p.elim
        · exact p.elim
      | _ => exact p.elim
    | _ => exact p.elim

end
end Mine


-- part MiniExc
set_option maxRecDepth 4000
set_option linter.unusedVariables false
namespace Mine
open PySem

/-- changes outside of ours -/
theorem HRel.other {B : Heap} {μ : List Addr} {σ : MH} {h h' : Heap} {P : Addr → Prop} (r : HRel B μ σ h) (k : ∀ b o, ¬ P b → h.get? b = some o → h'.get? b = some o) (hm : ∀ b, P b → b ∉ μ) (hB : ∀ b, P b → B.get? b = none) : HRel B μ σ h' :=
  ⟨r.len, r.inj, fun b o e => k b o (fun q => by rw [hB b q] at e; cases e) (r.base b o e), fun i a o e q => (r.obj i a o e q).mono (List.prefix_refl _) fun ob g => k a ob (fun z => hm a z (List.mem_of_getElem? e)) g, r.new, fun i a fs e q => by
    refine ob02 (r.ins i a fs e q) fun h1 wz0 => ?_; refine ob12 wz0 fun dx h2 h3 => ?_
    exact ⟨h1, dx, h2, h3.mono (List.prefix_refl _) (fun ob g => k a ob (fun z => hm a z (List.mem_of_getElem? e)) g) (fun ob g => k dx ob (fun z => hm dx z (List.mem_of_getElem? h2)) g)⟩⟩

open Classical in
/-- a heap, some addresses taken out -/
noncomputable def cut (P : Addr → Prop) (h : Heap) : Heap := { h with objs := h.objs.mapIdx fun i o => if P i then { o with data := .freed } else o }
theorem cut_none {P : Addr → Prop} {h : Heap} {b : Addr} (p : P b) : (cut P h).get? b = none := by
  unfold cut Heap.get?
  simp only [Array.getElem?_mapIdx]
  cases h.objs[b]? with
  | none => rfl
  | some o => simp only [Option.map_some, if_pos p]
theorem cut_get {P : Addr → Prop} {h : Heap} {b : Addr} (p : ¬ P b) : (cut P h).get? b = h.get? b := by
  unfold cut Heap.get?
  simp only [Array.getElem?_mapIdx]
  cases h.objs[b]? with
  | none => rfl
  | some o => simp only [Option.map_some, if_neg p]
theorem cut_in {P : Addr → Prop} {h : Heap} : (cut P h).StaysIn h := fun b o e => by
  by_cases p : P b
  · rw [cut_none p] at e; cases e
  · rwa [cut_get p] at e

/-- the frames' locals stand in the heap, apart from our objects -/
noncomputable def FrOk (B : Heap) (l : List Env) (μ : List Addr) (h : Heap) : Prop := ∀ e, e ∈ l → e.scope.kind ≠ .module ∧ ∃ L, e.frame = some L ∧ L ∉ μ ∧ B.get? L = none ∧ ∃ m, h.Ns L m
theorem FrOk.step {B : Heap} {l : List Env} {μ μ' : List Addr} {h h' : Heap} (f : FrOk B l μ h) (st : Step μ μ' h h') : FrOk B l μ' h' := fun e he => by
  refine ob02 (f e he) fun h1 wz1 => ?_; refine ob14 wz1 fun L h2 h3 h4 wz1 => ?_; obtain ⟨m, h5⟩ := wz1
  refine ob11 (Ns_alive h5) fun o e0 => ?_
  exact ⟨h1, L, h2, st.notMem h3 e0, h4, m, Ns_look h5 fun o e => st.keep L o h3 e⟩
theorem FrOk.fun {B : Heap} {μ : List Addr} {h h' base : Heap} : ∀ {l : List Env}, FrOk B l μ h → (∀ e L, e ∈ l → e.frame = some L → base.get? L = none) → (∀ b o, h.get? b = some o → h'.get? b = some o) → h'.FunFrames base l
  | [], _, _, _ => trivial
  | e :: l, f, p, k => by
    refine ob02 (f e (.head _)) fun h1 wz2 => ?_; refine ob14 wz2 fun L h2 h3 h4 wz3 => ?_; clear wz2; obtain ⟨m, o, es, ep, h5, h6, _⟩ := wz3
    exact ⟨h1, ⟨L, o, h2, p e L (.head _) h2, k _ _ h5, fun vs q => by rw [h6] at q; cases q⟩, FrOk.fun (fun e he => f e (.tail _ he)) (fun e L he => p e L (.tail _ he)) k⟩
theorem funFrames_base {h base base' : Heap} (k : ∀ b, base.get? b = none → base'.get? b = none) : ∀ {l : List Env}, h.FunFrames base l → h.FunFrames base' l
  | [], _ => trivial
  | _ :: _, ⟨h1, ⟨L, o, h2, h3, h4⟩, h5⟩ => ⟨h1, ⟨L, o, h2, k _ h3, h4⟩, funFrames_base k h5⟩
theorem funFrames_at {h h' base : Heap} : ∀ {l : List Env}, h.FunFrames base l → (∀ e, e ∈ l → ∀ L o, e.frame = some L → h.get? L = some o → h'.get? L = some o) → h'.FunFrames base l
  | [], _, _ => trivial
  | e :: _, ⟨h1, ⟨L, o, h2, h3, h4, h6⟩, h5⟩, k => ⟨h1, ⟨L, o, h2, h3, k e (.head _) L o h2 h4, h6⟩, funFrames_at h5 fun e he => k e (.tail _ he)⟩
/-- the slots of dicts may change on the way -/
theorem look_hop {base h' h'' : Heap} {b : Addr} {o : Obj} (e : look h' b = some o) (bs : (∀ es ep, o.data ≠ .dict es ep) → ∃ o', base.get? b = some o') (s1 : base.StaysIn h') (s2 : base.StaysIn h'') (u : h'.UpToSlots h'') : look h'' b = some o := by
  by_cases d : ∃ es ep, o.data = .dict es ep
  · refine ob21 d fun es ep d => ?_
    refine ob12 (look_elim e) fun o' e' ez5x2 => ?_; subst ez5x2
    rw [nrm_data] at d
    obtain ⟨sl, e2⟩ := u b o' e' fun vs q => by rw [d] at q; cases q
    rw [look_of e2]
    obtain ⟨c, dd, dt, ss⟩ := o'
    have d : dt = .dict es ep := d
    subst d; rfl
  · refine ob11 (bs fun es ep q => d ⟨es, ep, q⟩) fun o' e' => ?_
    rw [look_of (s1 b o' e')] at e
    rw [look_of (s2 b o' e')]; exact e
theorem StepX.hop {μ μ' : List Addr} {h base h' h'' : Heap} (x : StepX μ μ' h base h') (s1 : base.StaysIn h') (s2 : base.StaysIn h'') (u : h'.UpToSlots h'') : StepX μ μ' h base h'' :=
  ⟨⟨x.step.pre, fun b o n e => look_hop (x.step.keep b o n e) (x.based b o n e) s1 s2 u, x.step.fresh⟩, x.based⟩

section
variable {M : Model} {A : Around} {E : Value → Shared → Prop} {s : Shared} {base : Heap} {l : List Env} {C e : Addr}

theorem fly_set {f : Option Addr} {cls : Value} {Q : Unit → Shared → Prop} (k1 : base.StaysIn s.heap) (k2 : s.heap.FunFrames base l) (t : Trc s.heap base e cls)
    (h : ∀ h', base.StaysIn h' → h'.FunFrames base l → Trc h' base e cls → s.heap.UpToSlots h' → Q () { s with heap := h' }) : wpAny M A (setFlight (.ref e) f) Q E s := by
  refine ob02 t fun wz7x0 wz7 => ?_; clear t; refine ob78 wz7x0 fun a0 fl oe vs T oT ts t1 t2 t3 t4 t5 t6 t7 wz7 => ?_; clear wz7x0; obtain ⟨t8, t9⟩ := wz7; refine ob23 wz7 fun oe' vs' c1 c2 c3 => ?_; clear wz7
  have sz : 3 < ts.size := (Array.getElem?_eq_some_iff.mp t9).1
  unfold setFlight
  refine wpAny_bind (wpAny_field t1 t3 t4 ?_)
  rw [if_pos (show (Value.ref T != Value.none) = true by simp)]
  have ot : ∀ b, b ≠ T → (s.heap.update T (Obj.mapFields (·.setIfInBounds 3 (f.elim Value.none fun f => rawInt f)))).get? b = s.heap.get? b := fun b q => Heap.get?_update_other _ _ (Ne.symm q)
  have up : s.heap.UpToSlots (s.heap.update T (Obj.mapFields (·.setIfInBounds 3 (f.elim Value.none fun f => rawInt f)))) := fun b o q nf => ⟨o.slots, (ot b fun z => by rw [z, t7] at q; cases q; exact nf ts t8).trans q⟩
  refine wpAny_setField t7 t8 sz (h _ (fun b o q => (ot b fun z => by rw [z, t5] at q; cases q).trans (k1 b o q)) (k2.of_keeps fun b o q nf => let ⟨sl, q'⟩ := up b o q nf; ⟨_, q', rfl⟩) ?_ up)
  exact ⟨⟨a0, _, oe, vs, T, _, _, (ot e (Ne.symm t6)).trans t1, t2, t3, t4, t5, t6, Heap.get?_update_self _ t7 (Obj.isFreed_of_fields (Obj.data_mapFields t8 _)), Obj.data_mapFields t8 _, by rw [Array.getElem?_setIfInBounds_self_of_lt sz]⟩, oe', vs', (ot e (Ne.symm t6)).trans c1, c2, c3⟩

/-- a new entry of the traceback -/
theorem entry_c {env : Env} {outer : List Env} {L : Addr} {oe : Obj} {vs : Array Value} {head a0 : Value} {hadNext : Bool} {Q : Unit → Shared → Prop}
    (hfr : A.frames = some (env :: outer)) (hl : s.heap.FunFrames base (env :: outer)) (hf : env.frame = some L)
    (he : s.heap.get? e = some oe) (hkb : base.StaysIn s.heap) (hen : base.get? e = none) (hd : oe.data = .fields vs) (hsz : 1 < vs.size) (h0 : vs[0]? = some a0) (h2 : vs[2]? = some .none)
    (h : ∀ h', base.StaysIn h' → h'.FunFrames base (env :: outer) → Trc h' base e oe.cls → s.heap.UpToSlots h' → Q () { s with heap := h' }) :
    wpAny M A (do let a ← frameOf env; let pl ← entryPlaceOf L hadNext; let b ← EntryCells.newEntry head a .none (rawInt L) .none pl; setField (.ref e) 1 b) Q E s := by
  have rec_ne : ∀ b o, s.heap.get? b = some o → (∀ vs, o.data ≠ .fields vs) → b ≠ e := fun b o hb nf q => by
    rw [q, he] at hb; cases hb; exact nf vs hd
  have hne : e ∉ (env :: outer).filterMap (·.frame) := fun hm => by
    refine ob02 (hl.mem hm) fun _ wz8 => ?_; refine ob12 wz8 fun o ho nf => ?_; clear wz8
    exact rec_ne e o ho nf rfl
  refine wpAny_bind (wpAny_frameOf_fun hfr hl hf fun h₁ hs => wpAny_bind (wpAny_entryPlaceOf fun pl hpl => ?_))
  unfold EntryCells.newEntry newFields
  refine wpAny_bind (wpAny_newObj_type ?_ (hpl.sizeOk5 _ _ _ _ _))
  have e1 : h₁.get? e = some oe := (hs.2.1 e hne).trans he
  have kb : base.StaysIn h₁ := fun b o q => (hs.2.1 b fun hm => by rw [(hl.mem hm).1] at q; cases q).trans (hkb b o q)
  have t3 : ([head, .ref L, .none, rawInt L, .none] ++ (if pl.isEmpty then List.replicate 6 Value.none else pl)).toArray[3]? = some (rawInt L) := by rcases hpl with rfl | ⟨_, _, _, _, _, _, _, rfl⟩ <;> rfl
  dsimp only
  generalize ([head, .ref L, .none, rawInt L, .none] ++ (if pl.isEmpty then List.replicate 6 Value.none else pl)).toArray = tb at t3
  have nT : h₁.objs.size ≠ e := Nat.ne_of_gt (Heap.lt_size e1)
  refine wpAny_setField (s := { s with heap := h₁.push { cls := .type "traceback", data := .fields tb } }) (Heap.get?_push_of_some _ e1) hd hsz ?_
  have keep : ∀ b o, b ≠ e → h₁.get? b = some o → ((h₁.push { cls := .type "traceback", data := .fields tb }).update e (Obj.mapFields (·.setIfInBounds 1 (Value.ref h₁.objs.size)))).get? b = some o := fun b o n q => by
    rw [Heap.get?_update_other _ _ (Ne.symm n)]; exact Heap.get?_push_of_some _ q
  have d3 := Obj.data_mapFields hd (·.setIfInBounds 1 (Value.ref h₁.objs.size))
  have e3 := Heap.get?_update_self (h := h₁.push { cls := .type "traceback", data := .fields tb }) (Obj.mapFields (·.setIfInBounds 1 (Value.ref h₁.objs.size))) (Heap.get?_push_of_some _ e1) (Obj.isFreed_of_fields d3)
  refine h _ (fun b o q => keep b o (fun z => by rw [z, hen] at q; cases q) (kb b o q)) (hl.of_keeps fun b o q nf => ?_) ⟨⟨a0, rawInt L, _, _, h₁.objs.size, _, tb, e3, ⟨Obj.cls_mapFields _ _, by rw [Array.getElem?_setIfInBounds_ne (by decide)]; exact h0⟩, d3, by simp [hsz], kb.fresh, nT,
    (Heap.get?_update_other _ _ (Ne.symm nT)).trans (Heap.get?_push_size h₁ rfl), rfl, t3⟩, _, _, e3, d3, by rw [Array.getElem?_setIfInBounds_ne (by decide)]; exact h2⟩ fun b o q nf => ?_
  · refine ob11 (hs.2.2 b o q) fun sl hs => ?_
    exact ⟨_, keep b _ (rec_ne b o q nf) hs, rfl⟩
  · refine ob11 (hs.2.2 b o q) fun sl hs => ?_
    exact ⟨sl, keep b _ (rec_ne b o q nf) hs⟩

theorem frameOf_eq {a b : Env} (h : a.frame = b.frame) : frameOf a = frameOf b := by unfold frameOf; rw [h]
theorem noteFrame_eq {a b : Env} (h : a.frame = b.frame) (v : Value) : noteFrame v a = noteFrame v b := by unfold noteFrame; rw [h, frameOf_eq h]

theorem fly_note {env e0 : Env} {outer : List Env} {Q : Unit → Shared → Prop} (hfr : A.frames = some (e0 :: outer)) (he : e0.frame = env.frame) (x : ExcAt base (e0 :: outer) C e s.heap)
    (h : ∀ h', base.StaysIn h' → h'.FunFrames base (e0 :: outer) → Trc h' base e (.ref C) → s.heap.UpToSlots h' → Q () { s with heap := h' }) : wpAny M A (noteFrame (.ref e) env) Q E s := by
  rw [noteFrame_eq he.symm]
  refine ob04 x fun k1 k2 k3 k4 => ?_; clear x
  refine ob23 k3.2.1 fun L oL hf _ _ => ?_
  unfold noteFrame
  simp only [hf]
  rcases k4 with w | w
  · refine ob36 w fun oe vs a0 t1 t2 t3 t4 t5 c3 => ?_; clear w
    refine wpAny_bind (wpAny_field t1 t3 t5 ?_)
    rw [if_neg (by decide)]
    exact entry_c hfr k3 hf t1 k1 k2 t3 (Array.getElem?_eq_some_iff.mp t5).1 t4 c3 fun h' n1 n2 n3 n4 => h h' n1 n2 (t2 ▸ n3) n4
  · refine ob21 w.1 fun a0 fl u => ?_
    refine ob58 u fun oe vs T oT ts t1 t2' t3 t4 t5 t6 t7 t8' => ?_; clear u
    refine ob23 w.2 fun oe' vs' c1 c2 c3 => ?_
    have t2 := t2'.1
    have t0 := t2'.2
    have t8 := t8'.1
    have t9 := t8'.2
    refine wpAny_bind (wpAny_field t1 t3 t4 ?_)
    rw [if_pos (show (Value.ref T != Value.none) = true by simp)]
    refine wpAny_bind (wpAny_field t7 t8 t9 ?_)
    by_cases q : (fl == rawInt L) = true
    · rw [if_pos q]
      exact wpAny_pure (h s.heap k1 k3 w (Heap.UpToSlots.refl _))
    · rw [if_neg q]
      have ot : ∀ b, b ≠ T → (s.heap.update T (Obj.mapFields (·.setIfInBounds 3 Value.none))).get? b = s.heap.get? b := fun b q => Heap.get?_update_other _ _ (Ne.symm q)
      have up : s.heap.UpToSlots (s.heap.update T (Obj.mapFields (·.setIfInBounds 3 Value.none))) := fun b o q nf => ⟨o.slots, (ot b fun z => by rw [z, t7] at q; cases q; exact nf ts t8).trans q⟩
      refine wpAny_bind (wpAny_setField t7 t8 (Array.getElem?_eq_some_iff.mp t9).1 ?_)
      rw [t1] at c1; cases c1; rw [t3] at c2; cases c2
      refine entry_c hfr (k3.of_keeps fun b o q nf => let ⟨sl, q'⟩ := up b o q nf; ⟨_, q', rfl⟩) hf ((ot e (Ne.symm t6)).trans t1) (fun b o q => (ot b fun z => by rw [z, t5] at q; cases q).trans (k1 b o q)) k2 t3 (Array.getElem?_eq_some_iff.mp t4).1 t0 c3
        fun h' n1 n2 n3 n4 => h h' n1 n2 (t2 ▸ n3) (up.trans n4)

theorem fly_leave {env : Env} {outer : List Env} {Q : Unit → Shared → Prop} (hfr : A.frames = some (env :: outer)) (x : ExcAt base (env :: outer) C e s.heap)
    (h : ∀ h', ExcAt base outer C e h' → s.heap.UpToSlots h' → Q () { s with heap := h' }) : wpAny M A (leaving env (.ref e)) Q E s := by
  unfold leaving
  refine wpAny_bind (fly_note hfr rfl x fun h1 k1 k2 k3 k4 => ?_)
  exact fly_set (s := { s with heap := h1 }) k1 k2 k3 fun h2 n1 n2 n3 n4 => h h2 ⟨n1, x.2.1, n2.2.2, .inr n3⟩ (k4.trans n4)

variable {B : Heap} {X : XE} {μ : List Addr} {c : Nat} {σ : MH} {env : Env}

/-- the frame's end of the way: a note, and what follows -/
noncomputable def Here (A : Around) (l : List Env) (env : Env) : Prop := A.frames = some l ∧ ∃ e0 outer, l = e0 :: outer ∧ e0.frame = env.frame

theorem PostX.ofNoted {l : List Env} {R : Value → Shared → Prop} (hh : Here A l env)
    (k : ∀ μ' h' tk e base, HX B μ' σ base c → StepX μ μ' s.heap base h' → base.StaysIn h' → base.get? e = none → h'.FunFrames base l → Trc h' base e (.ref (clsK B c)) → R (.ref e) { s with heap := h', toks := tk }) :
    PostX B ⟨l, notedBy M A env R⟩ μ s c σ := fun μ' h' tk e base r st x => by
  refine ob02 hh fun hfr wz10 => ?_; clear hh; refine ob22 wz10 fun e0 outer ez12x2 he => ?_; clear wz10; subst ez12x2
  exact fly_note (s := { s with heap := h', toks := tk }) hfr he x fun h2 n1 n2 n3 n4 => k μ' h2 tk e base r (st.hop x.1 n1 n4) n1 x.2.1 n2 n3
theorem came_back {cls : Value} (k1 : base.StaysIn s.heap) (k2 : s.heap.FunFrames base l) (t : Trc s.heap base e cls)
    (h : ∀ h', base.StaysIn h' → h'.FunFrames base l → Trc h' base e cls → s.heap.UpToSlots h' → E (.ref e) { s with heap := h' }) : cameBackBy M A env E (.ref e) s := by
  refine ob21 t.1 fun _ _ w => ?_
  refine ob55 w fun oe vs T oT ts t1 t2 t3 t4 _ => ?_; clear w
  unfold cameBackBy
  refine wpAny_bind (wpAny_field t1 t3 t4 ?_)
  rw [if_neg (by simp)]
  exact fly_set k1 k2 t h
theorem PostX.back (p : PostX B X μ s c σ) (hh : Here A X.l env) : PostX B ⟨X.l, notedBy M A env (cameBackBy M A env X.E)⟩ μ s c σ :=
  PostX.ofNoted hh fun μ' h' tk e base r st n1 n0 n2 n3 => came_back (s := { s with heap := h', toks := tk }) n1 n2 n3 fun h3 m1 m2 m3 m4 => p μ' h3 tk e base r (st.hop n1 m1 m4) ⟨m1, n0, m2, .inr m3⟩
/-- some addresses that were not there change -/
theorem StepX.cut {P : Addr → Prop} {h h' h'' : Heap} {μ' : List Addr} (x : StepX μ μ' h base h') (hP : ∀ b, P b → h.get? b = none) (k : ∀ b o, ¬ P b → h'.get? b = some o → h''.get? b = some o) : StepX μ μ' h (cut P base) h'' :=
  ⟨⟨x.step.pre, fun b o n e => look_keep (fun o' e' => k b o' (fun q => by refine ob12 (look_elim e) fun o2 e2 _ => ?_; rw [hP b q] at e2; cases e2) e') (x.step.keep b o n e), x.step.fresh⟩, fun b o n e nd => by
    rw [cut_get fun q => by refine ob12 (look_elim e) fun o2 e2 _ => ?_; rw [hP b q] at e2; cases e2]
    exact x.based b o n e nd⟩
theorem cut_less {P : Addr → Prop} {h : Heap} (b : Addr) (e : h.get? b = none) : (cut P h).get? b = none := by
  by_cases p : P b
  · exact cut_none p
  · rw [cut_get p]; exact e
theorem cut_keep {P : Addr → Prop} {h h' h'' : Heap} (s : h.StaysIn h') (k : ∀ b o, ¬ P b → h'.get? b = some o → h''.get? b = some o) : (cut P h).StaysIn h'' := fun b o e => by
  by_cases p : P b
  · rw [cut_none p] at e; cases e
  · rw [cut_get p] at e; exact k b o p (s b o e)
end
end Mine


-- part MiniVal2
set_option maxRecDepth 4000
set_option linter.unusedVariables false
namespace Mine
open PySem PySem.SeqAt

section
variable {B : Heap} {X : XE} {μ : List Addr} {σ : MH} {s : Shared}
variable {prog : Program} {w : World} {A : Around} {E : Value → Shared → Prop} {n : Nat}

noncomputable def boolRes (r : Res Bool) : Res Val := r.bind fun t h => .ok (.bool t) h

theorem inL_get {σ : MH} {v : Val} : ∀ {xs : List Val} {b : Bool}, inL σ v xs = some b → ∃ e : Nat → Bool, (∀ (j : Nat) x, xs[j]? = some x → eqV 4 σ x v = some (e j)) ∧ b = (List.range xs.length).any e
  | [], b, h => ⟨fun _ => true, by simp, by simpa [inL] using h.symm⟩
  | x :: xs, b, h => by
    simp only [inL, Option.bind_eq_some_iff, Option.map_eq_some_iff] at h
    refine ob12 h fun c hc wz0 => ?_; clear h; obtain ⟨d, hd, e⟩ := wz0
    refine ob12 (inL_get hd) fun g h1 h2 => ?_
    refine ⟨fun j => match j with | 0 => c | j + 1 => g j, fun j x' q => ?_, ?_⟩
    · cases j with
      | zero => simp at q; subst q; exact hc
      | succ j => simp at q; exact h1 j x' q
    · rw [← e, h2, List.length_cons, List.range_succ_eq_map]
      simp [List.any_map, Function.comp_def]

theorem VRel.inj {x x' : Val} {y : Value} (r : HRel B μ σ s.heap) (h : VRel μ x y) (h' : VRel μ x' y) : x = x' := by
  cases x <;> cases x' <;> simp only [VRel] at h h'
  all_goals first
    | rfl
    | (subst h; cases h'; done)
    | (subst h; cases h'; rfl)
    | (subst h; obtain ⟨_, q⟩ := h'; cases q; done)
    | (subst h; obtain ⟨_, _, q⟩ := h'; cases q; done)
    | (subst h'; obtain ⟨_, q⟩ := h; cases q; done)
    | (subst h'; obtain ⟨_, _, q⟩ := h; cases q; done)
    | (obtain ⟨_, rfl⟩ := h; obtain ⟨_, q⟩ := h'; cases q; rfl)
    | (obtain ⟨_, rfl⟩ := h; obtain ⟨_, _, q⟩ := h'; cases q; done)
    | (obtain ⟨_, _, rfl⟩ := h; obtain ⟨_, q⟩ := h'; cases q; done)
    | (obtain ⟨_, _, rfl⟩ := h; obtain ⟨_, _, q⟩ := h'; cases q; done)
    | (obtain ⟨_, _, rfl⟩ := h; obtain ⟨_, _, q⟩ := h'; simp at q; rw [q.1]; done)
    | (refine ob12 h fun _ e ez10x2 => ?_; clear h; subst ez10x2; refine ob12 h' fun _ e' q => ?_; clear h'; cases q; rw [r.inj _ _ _ e e']; done)

open Classical in
noncomputable def eV (μ : List Addr) (σ : MH) (v : Val) (y : Value) : Bool := decide (∃ x, VRel μ x y ∧ eqV 4 σ x v = some true)
theorem eV_of {v x : Val} {y : Value} (r : HRel B μ σ s.heap) (h : VRel μ x y) : eV μ σ v y = decide (eqV 4 σ x v = some true) := by
  unfold eV
  rw [Bool.eq_iff_iff]; simp only [decide_eq_true_eq]
  exact ⟨fun ⟨x', p, q⟩ => VRel.inj r p h ▸ q, fun q => ⟨x, h, q⟩⟩

theorem eqs_at {v : Val} {v' : Value} {xs : List Val} {ys : List Value} {b : Bool} (r : HRel B μ σ s.heap) (ub : A.units + 4 < cLine) (hv : VRel μ v v') (hy : VsRel μ xs ys) (h : inL σ v xs = some b) :
    ∃ ev : Value → Bool, (∀ y, y ∈ ys.toArray → EqAt A s y v' (ev y)) ∧ ∀ (j : Nat) x (h1 : j < ys.length), xs[j]? = some x → ev ys[j] = decide (eqV 4 σ x v = some true) := by
  refine ob12 (inL_get h) fun e he _ => ?_
  have ev : ∀ (j : Nat) x (h1 : j < ys.length), xs[j]? = some x → VRel μ x ys[j] := fun j x h1 q => by
    refine ob12 (hy.get q) fun x' p1 p2 => ?_
    rw [List.getElem?_eq_getElem h1] at p1
    rw [Option.some.inj p1]; exact p2
  refine ⟨eV μ σ v, fun y hm => ?_, fun j x h1 q => eV_of r (ev j x h1 q)⟩
  refine ob11 (List.getElem_of_mem (show y ∈ ys by simpa using hm)) fun j wz14 => ?_; obtain ⟨h1, rfl⟩ := wz14
  have g1 : j < xs.length := by rw [← hy.length]; exact h1
  have q := List.getElem?_eq_getElem g1
  rw [eV_of r (ev j _ h1 q)]
  have k := (eqV_both r ub (ev j _ h1 q) hv (he j _ q)).2.1
  rw [he j _ q]
  cases z : e j <;> rw [z] at k <;> simpa using k

theorem in_sound {v u : Val} {v' u' : Value} {b : Bool} (ok : AOk n A) (r : HRel B μ σ s.heap) (hv : VRel μ v v') (hu : VRel μ u u') (h : inV σ v u = some b) :
    (∀ {Q : Value → Shared → Prop}, Q (.bool b) s → wpAny (model prog w) A (compareOp .In v' u') Q E s) ∧ (∀ {Q : Value → Shared → Prop}, Q (.bool (!b)) s → wpAny (model prog w) A (compareOp .NotIn v' u') Q E s) := by
  cases u with
  | none => cases h
  | bool => cases h
  | int => cases h
  | str => cases h
  | ref i =>
    refine ob12 hu fun a ea ez17x2 => ?_; clear hu; subst ez17x2
    have h : (match seqOf σ i with | some (true, xs) => inL σ v xs | some (false, _) => none | none => none) = some b := h
    split at h
    · rename_i xs q
      refine ob02 (r.seq ea q) fun l wz18 => ?_; obtain ⟨ys, k, hy, g⟩ := wz18
      refine ob12 (eqs_at (A := A.in1) r (by have := ok.u 5; show A.units + 1 + 4 < cLine; (first | exact om33 this | omega)) hv hy h) fun ev hall hev => ?_
      refine ob12 (inL_get h) fun e he hb => ?_
      have hany : ys.toArray.any ev = b := by
        have key : ∀ (j : Nat) (h1 : j < ys.length), ev ys[j] = e j := fun j h1 => by
          have g1 : j < xs.length := by rw [← hy.length]; exact h1
          rw [hev j _ h1 (List.getElem?_eq_getElem g1), he j _ (List.getElem?_eq_getElem g1)]; cases e j <;> rfl
        rw [hb, ← hy.length, List.any_toArray, Bool.eq_iff_iff, List.any_eq_true, List.any_eq_true]
        constructor
        · rintro ⟨y, hm, hq⟩
          refine ob11 (List.getElem_of_mem hm) fun j wz21 => ?_; obtain ⟨h1, rfl⟩ := wz21
          exact ⟨j, List.mem_range.mpr h1, by rw [← key j h1]; exact hq⟩
        · rintro ⟨j, hm, hq⟩
          have h1 : j < ys.length := List.mem_range.mp hm
          exact ⟨_, List.getElem_mem h1, by rw [key j h1]; exact hq⟩
      have hl : s.heap.IsList a ys.toArray := isList_of g
      exact ⟨fun {Q} hQ => in_listAt ev hl hall (by rw [hany]; exact hQ), fun {Q} hQ => notIn_listAt ev hl hall (by rw [hany]; exact hQ)⟩
    · cases h
    · cases h

theorem cmp_sound {op : CmpOp} {v u : Val} {v' u' : Value} {Q : Value → Shared → Prop} (ok : AOk n A) (r : HRel B μ σ s.heap) (hv : VRel μ v v') (hu : VRel μ u u')
    (p : Post B X VRel μ s Q (boolRes (Res.opt (cmpV σ op v u) σ))) : wpAny (model prog w) A (compareOp op v' u') Q E s := by
  cases q : cmpV σ op v u with
  | none => rw [q] at p; exact p.elim
  | some b =>
    rw [q] at p
    have fin : Q (.bool b) s := p.here' r rfl
    have ub : A.units + 8 < cLine := ok.u 8
    cases op with
    | Eq =>
      exact (show wpAny (model prog w) A (richCompare .Eq v' u') Q E s from (eqV_both r ub hv hu q).1 _ _ _ _ fin)
    | NotEq =>
      have q : Option.map (!·) (eqV 8 σ v u) = some b := q
      rw [Option.map_eq_some_iff] at q
      refine ob12 q fun c hc ez22x2 => ?_; clear q; subst ez22x2
      exact (show wpAny (model prog w) A (richCompare .NotEq v' u') Q E s from (eqV_both r ub hv hu hc).2.2 _ _ _ _ fin)
    | Is =>
      cases u with
      | none =>
        cases q
        rw [show u' = _ from hu]
        refine is_none ?_
        cases v with
        | none => rw [show v' = _ from hv]; exact fin
        | bool b => rw [show v' = _ from hv]; exact fin
        | int i => obtain ⟨t, rfl⟩ := hv; exact fin
        | str i => refine ob02 hv fun _ wz23 => ?_; clear hv; obtain ⟨t, rfl⟩ := wz23; exact fin
        | ref i => refine ob12 hv fun a _ ez24x2 => ?_; clear hv; subst ez24x2; exact fin
      | _ => cases q
    | IsNot =>
      cases u with
      | none =>
        cases q
        rw [show u' = _ from hu]
        refine isNot_none ?_
        cases v with
        | none => rw [show v' = _ from hv]; exact fin
        | bool b => rw [show v' = _ from hv]; exact fin
        | int i => obtain ⟨t, rfl⟩ := hv; exact fin
        | str i => refine ob02 hv fun _ wz25 => ?_; clear hv; obtain ⟨t, rfl⟩ := wz25; exact fin
        | ref i => refine ob12 hv fun a _ ez26x2 => ?_; clear hv; subst ez26x2; exact fin
      | _ => cases q
    | In =>
      exact (in_sound ok r hv hu q).1 fin
    | NotIn =>
      have q : Option.map (!·) (inV σ v u) = some b := q
      rw [Option.map_eq_some_iff] at q
      refine ob12 q fun c hc ez27x2 => ?_; clear q; subst ez27x2
      exact (in_sound ok r hv hu hc).2 fin
    | Lt =>
      cases v with
      | int x =>
        cases u with
        | int y =>
          obtain ⟨t, rfl⟩ := hv; obtain ⟨t', rfl⟩ := hu
          cases q; exact PyProof.Rows.lt_int fin
        | _ => cases q
      | _ => cases q
    | LtE =>
      cases v with
      | int x =>
        cases u with
        | int y =>
          obtain ⟨t, rfl⟩ := hv; obtain ⟨t', rfl⟩ := hu
          cases q; exact PyProof.Rows.le_int fin
        | _ => cases q
      | _ => cases q
    | Gt =>
      cases v with
      | int x =>
        cases u with
        | int y =>
          obtain ⟨t, rfl⟩ := hv; obtain ⟨t', rfl⟩ := hu
          cases q; exact PyProof.Rows.gt_int fin
        | _ => cases q
      | _ => cases q
    | GtE =>
      cases v with
      | int x =>
        cases u with
        | int y =>
          obtain ⟨t, rfl⟩ := hv; obtain ⟨t', rfl⟩ := hu
          cases q; exact PyProof.Rows.ge_int fin
        | _ => cases q
      | _ => cases q

end
end Mine


-- part MiniVal3
set_option maxRecDepth 4000
set_option linter.unusedVariables false
namespace Mine
open PySem PySem.SeqAt

section
variable {B : Heap} {X : XE} {μ : List Addr} {σ : MH} {s : Shared}
variable {prog : Program} {w : World} {A : Around} {E : Value → Shared → Prop} {n : Nat}

theorem un_sound {op : UnaryOp} {v : Val} {v' : Value} {Q : Value → Shared → Prop} (r : HRel B μ σ s.heap) (hv : VRel μ v v') (p : Post B X VRel μ s Q (unV σ op v)) : wpAny (model prog w) A (unaryOp op v') Q E s := by
  unfold unV at p
  split at p
  · split at p
    · rename_i b hb
      refine not_value (truthy_sound (X := X) r hv ?_)
      rw [hb]
      intro μ' b' h' tk r' st e
      rw [← show b = b' from e]
      exact p μ' _ h' tk r' st rfl
    · exact p.elim
  · refine ob11 hv fun t ez0x1 => ?_; clear hv; subst ez0x1
    exact PyProof.Rows.neg_int (p.here r ⟨_, rfl⟩)
  · exact p.elim

noncomputable def tyName : Ty → String
  | .int => "int" | .bool => "bool" | .list => "list" | .tuple => "tuple" | .str => "str"

theorem isinst_sound {ty : Ty} {v : Val} {v' : Value} {Q : Value → Shared → Prop} (r : HRel B μ σ s.heap) (hv : VRel μ v v') (p : Post B X VRel μ s Q (boolRes (Res.opt (isInstV σ ty v) σ))) :
    wpAny (model prog w) A (call (.builtin "isinstance") [v', .type (tyName ty)]) Q E s := by
  cases v with
  | none =>
    rw [show v' = _ from hv]
    cases ty
    · exact IsiPair.NoneType_int (p.here r rfl)
    · exact IsiPair.NoneType_bool (p.here r rfl)
    · exact IsiPair.NoneType_list (p.here r rfl)
    · exact IsiPair.NoneType_tuple (p.here r rfl)
    · exact IsiPair.NoneType_str (p.here r rfl)
  | bool b =>
    rw [show v' = _ from hv]
    cases ty
    · exact IsiPair.bool_int (p.here' r rfl)
    · exact IsiPair.bool_bool (p.here' r rfl)
    · exact IsiPair.bool_list (p.here r rfl)
    · exact IsiPair.bool_tuple (p.here r rfl)
    · exact IsiPair.bool_str (p.here r rfl)
  | int i =>
    refine ob11 hv fun t ez1x1 => ?_; clear hv; subst ez1x1
    cases ty
    · exact IsiPair.int_int (p.here' r rfl)
    · exact IsiPair.int_bool (p.here r rfl)
    · exact IsiPair.int_list (p.here r rfl)
    · exact IsiPair.int_tuple (p.here r rfl)
    · exact IsiPair.int_str (p.here r rfl)
  | str i =>
    refine ob02 hv fun _ wz0 => ?_; clear hv; refine ob11 wz0 fun t ez2x1 => ?_; clear wz0; subst ez2x1
    cases ty
    · exact IsiPair.str_int (p.here r rfl)
    · exact IsiPair.str_bool (p.here r rfl)
    · exact IsiPair.str_list (p.here r rfl)
    · exact IsiPair.str_tuple (p.here r rfl)
    · exact IsiPair.str_str (p.here' r rfl)
  | ref i =>
    refine ob12 hv fun a ea ez1x2 => ?_; clear hv; subst ez1x2
    cases q : seqOf σ i with
    | none =>
      have e : isInstV σ ty (.ref i) = none := by cases ty <;> (show Option.map _ (seqOf σ i) = none; rw [q]; rfl)
      rw [e] at p; exact p.elim
    | some z =>
      obtain ⟨k, xs⟩ := z
      refine ob02 (r.seq ea q) fun l wz2 => ?_; refine ob22 wz2 fun ys m hy g => ?_; clear wz2
      have e : isInstV σ ty (.ref i) = some (match ty with | .list => k | .tuple => !k | _ => false) := by cases ty <;> (show Option.map _ (seqOf σ i) = _; rw [q]; rfl)
      rw [e] at p
      cases k <;> simp only [Bool.false_eq_true, if_false, if_true] at g <;> cases ty
      · exact IsiPair.tuple_int g rfl (p.here r rfl)
      · exact IsiPair.tuple_bool g rfl (p.here r rfl)
      · exact IsiPair.tuple_list g rfl (p.here r rfl)
      · exact IsiPair.tuple_tuple g rfl (p.here' r rfl)
      · exact IsiPair.tuple_str g rfl (p.here r rfl)
      · exact IsiPair.list_int g rfl (p.here r rfl)
      · exact IsiPair.list_bool g rfl (p.here r rfl)
      · exact IsiPair.list_list g rfl (p.here' r rfl)
      · exact IsiPair.list_tuple g rfl (p.here r rfl)
      · exact IsiPair.list_str g rfl (p.here r rfl)

theorem sub_sound {v u : Val} {v' u' : Value} {value slice : Expr} {Q : Value → Shared → Prop} (r : HRel B μ σ s.heap) (hv : VRel μ v v') (hu : VRel μ u u') (p : Post B X VRel μ s Q (Res.opt (subV σ v u) σ))
    (hs : subscripted slice false v' u' = operate [v', u'] (getItem v' u')) : wpAny (model prog w) A (PyProof.Rows.subscriptTail value slice v' u') Q E s := by
  cases q : subV σ v u with
  | none => rw [q] at p; exact p.elim
  | some x =>
    rw [q] at p
    unfold subV at q
    split at q
    · rename_i x' k
      refine ob02 hv fun l wz3 => ?_; clear hv; refine ob11 wz3 fun t ez5x1 => ?_; clear wz3; subst ez5x1; refine ob11 hu fun t' ez6x1 => ?_; clear hu; subst ez6x1
      simp only [Option.bind_eq_some_iff, Option.map_eq_some_iff] at q
      refine ob12 q fun j hj wz4 => ?_; clear q; refine ob12 wz4 fun c hc ez7x2 => ?_; clear wz4; subst ez7x2
      refine ob04 (idx_seq hj) fun i1 i2 i3 i4 => ?_
      have l' : x'.length ≤ 1048576 := l
      refine PyProof.Rows.tail_any (T := "str") (typeIs_str _ _ _) F.slot_str_getitem.lookup (P.getItem_str (by simp; (first | exact om35 i3 i4 l' | omega)) (c := c) ?_ (p.here r ⟨by simp [lim], _, rfl⟩)) hs
      rw [strLen, i1]; simpa using hc
    · rename_i i k
      refine ob12 hv fun a ea ez6x2 => ?_; clear hv; subst ez6x2; refine ob11 hu fun t' ez8x1 => ?_; clear hu; subst ez8x1
      simp only [Option.bind_eq_some_iff] at q
      refine ob12 q fun wz7x0 hz wz7 => ?_; clear q; obtain ⟨kk, xs⟩ := wz7x0; refine ob12 wz7 fun j hj hx => ?_; clear wz7
      refine ob04 (idx_seq hj) fun i1 i2 i3 i4 => ?_
      refine ob02 (r.seq ea hz) fun l wz9 => ?_; refine ob22 wz9 fun ys m hy g => ?_; clear wz9
      simp only at hx hj i1 i2 i3 i4
      refine ob12 (hy.get hx) fun y e1 e2 => ?_
      have l' : xs.length ≤ 1048576 := l
      have ll := hy.length
      cases kk
      · refine PyProof.Rows.tail_any (T := "tuple") ⟨_, g, rfl⟩ F.slot_tuple_getitem.lookup (P.getItem_tuple g (by omega) (by omega) (k := j) (by simpa [ll] using i1) (by simpa using e1) (p.here' r e2)) hs
      · have hl : s.heap.IsList a ys.toArray := isList_of g
        by_cases h0 : 0 ≤ k
        · have : j = k.toNat := by rw [seqIndex_of h0 i4] at i1; exact (Option.some.inj i1).symm
          subst this
          exact PyProof.Rows.tail_any hl.typeIs slot_list_getitem.lookup (wpAny_getItem_list hl h0 (by omega) (by simpa using e1) (p.here' r e2)) hs
        · have : j = (k + xs.length).toNat := by rw [seqIndex_neg (by (first | exact om18 h0 | omega)) (by (first | exact om39 i3 | omega))] at i1; exact (Option.some.inj i1).symm
          subst this
          exact PyProof.Rows.tail_any hl.typeIs slot_list_getitem.lookup (wpAny_getItem_list_neg hl (by (first | exact om40 i2 | omega)) (by simp [ll]; (first | exact om39 i3 | omega)) (by omega) (by simpa [ll] using e1) (p.here' r e2)) hs
    · cases q

noncomputable def URel (_ : List Addr) (_ _ : Unit) : Prop := True

theorem setItem_exact {l : Addr} {items : Array Value} {m : Nat} {k : Int} {t : Tok} {v : Value} {Q : Unit → Shared → Prop} (ho : s.heap.get? l = some { cls := .type "list", dict := none, data := .seq items m, slots := #[] })
    (h0 : 0 ≤ k) (hfit : k < 2 ^ 63) (hn : k < items.size) (hQ : Q () { s with heap := s.heap.update l (Obj.mapSeq (·.setIfInBounds k.toNat v)) }) : wpAny (model prog w) A (setItem (.ref l) (.int k t) v) Q E s := by
  have hl : s.heap.IsList l items := ⟨_, ho, rfl, m, rfl⟩
  unfold setItem
  try with_reducible refine wpAny_holding ?_
  first | refine wpAny_bind (wpAny_pure ?_) | skip
  refine wpAny_bind (wpAny_sequenceKey hl.typeIs (by decide) ?_)
  refine wpAny_bind (wpAny_callSpecial?_slot (name := Str.ofString "__setitem__") hl.typeIs slot_list_setitem
    (wpAny_call_entry slot_list_setitem hl.typeIs entry_list_setitem ?_ (args_list_setitem _ _ _)))
  show wpAny _ _ (Builtin.List.listSubscript? (.int k t) >>= _) _ _ s
  refine wpAny_bind (wpAny_listSubscript_int (fitsIndex_of h0 hfit) ?_)
  clear hfit
  refine ob11 (Int.eq_ofNat_of_zero_le h0) fun j ez12x1 => ?_; subst ez12x1
  have hj : j < items.size := by (first | exact om41 hn | omega)
  have hx' : items[j]? = some items[j] := Array.getElem?_eq_getElem hj
  show wpAny _ _ ((seqItemAt l j >>= fun r => pure (r.map (j, ·))) >>= _) _ _ s
  refine wpAny_bind (wpAny_bind (wpAny_seqItemAt ho rfl (wpAny_pure ?_)))
  rw [hx']
  show wpAny _ _ (setSeqItemAt l j v >>= _) _ _ s
  refine wpAny_bind (wpAny_setSeqItemAt ho rfl ?_)
  first
    | exact wpAny_bind (wpAny_pure (wpAny_pure ⟨.none, rfl, wpAny_pure hQ⟩))
    | exact wpAny_pure ⟨.none, rfl, wpAny_pure hQ⟩

theorem asub_sound {v u x : Val} {v' u' x' : Value} {Q : Unit → Shared → Prop} (r : HRel B μ σ s.heap) (hv : VRel μ v v') (hu : VRel μ u u') (hx : VRel μ x x') (p : Post B X URel μ s Q (asubV σ v u x)) :
    wpAny (model prog w) A (setItem v' u' x') Q E s := by
  unfold asubV at p
  split at p
  · rename_i i k
    refine ob12 hv fun a ea ez11x2 => ?_; clear hv; subst ez11x2; refine ob11 hu fun t' ez13x1 => ?_; clear hu; subst ez13x1
    split at p
    · rename_i xs hz
      split at p
      · rename_i hj
        refine ob02 (r.at ea hz) fun l wz12 => ?_; refine ob22 wz12 fun ys m g hy => ?_; clear wz12
        have l' : xs.length ≤ 1048576 := l
        have ll := hy.length
        refine setItem_exact g hj.1 (by omega) (by simp [ll]; (first | exact om43 hj | omega)) ?_
        refine p.upd (w := ()) r ea hz rfl (fun b y nb e => (Heap.get?_update_other _ _ (Ne.symm nb)).trans e) ⟨by simpa using l, ys.set k.toNat x', m, ?_, hy.set _ hx⟩ trivial
        rw [Heap.get?_update_self _ g rfl]
        simp [Obj.mapSeq]
      · exact p.elim
    · exact p.elim
  · exact p.elim

end
end Mine


-- part MiniVal4
set_option maxRecDepth 4000
set_option linter.unusedVariables false
namespace Mine
open PySem PySem.SeqAt

section
variable {B : Heap} {X : XE} {μ : List Addr} {σ : MH} {s : Shared}
variable {prog : Program} {w : World} {A : Around} {E : Value → Shared → Prop} {n : Nat}

noncomputable def biFn : BI → Value
  | .len => .builtin "len" | .sum => .builtin "sum" | .min => .builtin "min" | .max => .builtin "max" | .all => .builtin "all"
  | .int => .type "int" | .str => .type "str" | .list => .type "list"

theorem intsOf_rel : ∀ {xs : List Val} {ys : List Value} {ns : List Int}, VsRel μ xs ys → intsOf xs = some ns → ns.length = ys.length ∧ ∀ (i : Nat) v, ys[i]? = some v → ∃ t, v = .int (ns.getD i 0) t
  | [], _, _, h, e => by rw [show _ = [] from h]; cases e; exact ⟨rfl, by simp⟩
  | x :: xs, _, ns, ⟨y, ys, e, r, rs⟩, q => by
    subst e
    cases x <;> simp only [intsOf] at q <;> try (cases q)
    simp only [Option.map_eq_some_iff] at q
    refine ob12 q fun ms hm ez0x2 => ?_; clear q; subst ez0x2
    refine ob11 r fun t ez0x1 => ?_; clear r; subst ez0x1
    refine ob02 (intsOf_rel rs hm) fun h1 h2 => ?_
    refine ⟨by simp [h1], fun i v hv => ?_⟩
    cases i with
    | zero => simp at hv; exact ⟨t, by simp [← hv]⟩
    | succ i => simp at hv; refine ob11 (h2 i v hv) fun t' ht => ?_; exact ⟨t', by simpa using ht⟩

theorem boolsOf_rel : ∀ {xs : List Val} {ys : List Value} {bs : List Bool}, VsRel μ xs ys → boolsOf xs = some bs → bs.length = ys.length ∧ ∀ (i : Nat) v, ys[i]? = some v → v = .bool (bs.getD i true)
  | [], _, _, h, e => by rw [show _ = [] from h]; cases e; exact ⟨rfl, by simp⟩
  | x :: xs, _, ns, ⟨y, ys, e, r, rs⟩, q => by
    subst e
    cases x <;> simp only [boolsOf] at q <;> try (cases q)
    simp only [Option.map_eq_some_iff] at q
    refine ob12 q fun ms hm ez1x2 => ?_; clear q; subst ez1x2
    rw [show y = _ from r]
    refine ob02 (boolsOf_rel rs hm) fun h1 h2 => ?_
    refine ⟨by simp [h1], fun i v hv => ?_⟩
    cases i with
    | zero => simp at hv; simp [← hv]
    | succ i => simp at hv; simpa using h2 i v hv

theorem range_all (bs : List Bool) : (List.range bs.length).all (fun i => bs.getD i true) = bs.all id := by
  rw [Bool.eq_iff_iff, List.all_eq_true, List.all_eq_true]
  constructor
  · intro h b hb
    refine ob11 (List.getElem_of_mem hb) fun j wz2 => ?_; refine ob11 wz2 fun h1 ez4x1 => ?_; clear wz2; subst ez4x1
    have := h j (by simpa using h1)
    simpa [List.getD, List.getElem?_eq_getElem h1] using this
  · intro h j hj
    have h1 : j < bs.length := by simpa using hj
    have := h _ (List.getElem_mem h1)
    simpa [List.getD, List.getElem?_eq_getElem h1] using this

theorem listIter_fresh {a : Addr} {ys : List Value} {m : Nat} (g : s.heap.get? a = some (listObj ys m)) : a ≠ s.heap.objs.size := Nat.ne_of_lt (Heap.lt_size g)

theorem listWalk {a : Addr} {ys : List Value} {m : Nat} (g : s.heap.get? a = some (listObj ys m)) : let h₂ := s.heap.push { cls := .type "list_iterator", data := .fields #[.ref a, .int 0 0] }
    h₂.IsListIter s.heap.objs.size a 0 ∧ h₂.IsList a ys.toArray ∧ (∀ b ∈ [s.heap.objs.size, a], b < h₂.objs.size) :=
  ⟨⟨_, Heap.get?_push_size _ rfl, rfl, rfl⟩, isList_of (Heap.get?_push_of_some _ g), fun b hb => by
    have := Heap.lt_size g
    simp only [List.mem_cons, List.not_mem_nil, or_false] at hb
    show b < (s.heap.push _).objs.size
    rw [Heap.size_push]
    rcases hb with rfl | rfl
    · exact Nat.lt_succ_self _
    · exact Nat.lt_succ_of_lt this⟩

theorem keep_wr {h' : Heap} {o : Obj} (k : ∀ b ob, b ∉ [s.heap.objs.size] → (s.heap.push o).get? b = some ob → h'.get? b = some ob) : ∀ b ob, s.heap.get? b = some ob → h'.get? b = some ob := fun b ob e =>
  k b ob (by simp; exact Nat.ne_of_lt (Heap.lt_size e)) (Heap.get?_push_of_some _ e)

theorem bi_sound [Small n] {b : BI} {vs : List Val} {ws : List Value} {Q : Value → Shared → Prop} (ok : AOk n A) (r : HRel B μ σ s.heap) (hv : VsRel μ vs ws) (p : Post B X VRel μ s Q (biV σ b vs)) : wpAny (model prog w) A (call (biFn b) ws) Q E s := by
  cases vs with
  | nil => exact p.elim
  | cons v0 vs =>
    cases vs with
    | nil =>
      cases b with
      | len =>
        cases v0 with
        | str x' =>
          refine ob23 hv fun x _ ez3x2 hx ez3x4 => ?_; clear hv; subst ez3x2; subst ez3x4
          refine ob02 hx fun l wz4 => ?_; clear hx; refine ob11 wz4 fun t ez5x1 => ?_; clear wz4; subst ez5x1
          have l' : x'.length ≤ 1048576 := l
          refine P.len_str (by rw [strLen]; omega) ?_
          rw [strLen]; exact p.here r ⟨_, rfl⟩
        | ref i =>
          have p : Post B X VRel μ s Q (match seqOf σ i with | some (_, xs) => .ok (.int xs.length) σ | none => .stuck) := p
          refine ob23 hv fun x _ ez5x2 hx ez5x4 => ?_; clear hv; subst ez5x2; subst ez5x4
          refine ob12 hx fun a ea ez6x2 => ?_; clear hx; subst ez6x2
          split at p
          · rename_i k xs hq
            refine ob02 (r.seq ea hq) fun l wz7 => ?_; refine ob22 wz7 fun ys m hy g => ?_; clear wz7
            have l' : xs.length ≤ 1048576 := l
            have ll := hy.length
            cases k
            · refine P.len_tuple g (by simp; (first | exact om55 l' ll | omega)) ?_
              have : ((ys.toArray.size : Nat) : Int) = (xs.length : Int) := by simp [ll]
              rw [this]; exact p.here r ⟨_, rfl⟩
            · refine Calls.call_len_list (isList_of g) (by simp; (first | exact om55 l' ll | omega)) ?_
              have : ((ys.toArray.size : Nat) : Int) = (xs.length : Int) := by simp [ll]
              rw [this]; exact p.here r ⟨_, rfl⟩
          · exact p.elim
        | _ => exact p.elim
      | sum =>
        cases v0 with
        | ref i =>
          have p : Post B X VRel μ s Q (match σ[i]? with | some (.list xs) => (match intsOf xs with | some ns => .ok (.int ns.sum) σ | none => .stuck) | _ => .stuck) := p
          refine ob23 hv fun x _ ez8x2 hx ez8x4 => ?_; clear hv; subst ez8x2; subst ez8x4
          refine ob12 hx fun a ea ez9x2 => ?_; clear hx; subst ez9x2
          split at p
          · rename_i xs hq
            split at p
            · rename_i ns hn
              refine ob02 (r.at ea hq) fun l wz10 => ?_; refine ob22 wz10 fun ys m g hy => ?_; clear wz10
              refine ob02 (intsOf_rel hy hn) fun n1 n2 => ?_
              refine ob03 (listWalk g) fun w1 w2 w3 => ?_
              refine call_sum_walkG (wpAny_pyIter_list (isList_of g) ⟨_, _, _, _, _, _, fun i => ns.getD i 0, rfl, Walks.list (A := A.in1) ok.handled _ a (listIter_fresh g) ys.toArray, ⟨w1, w2⟩, w3, fun i v hi => ?_, fun h' tk t' k => ?_⟩)
              · refine ob11 (n2 i v (by simpa using hi)) fun t ht => ?_; exact ⟨t, ht⟩
              · rw [PyProof.Rows.preSum_getD, List.take_of_length_le (by simp [n1])]
                exact Post.grow (s := s) r p (keep_wr (s := s) k) ⟨_, rfl⟩
            · exact p.elim
          · exact p.elim
        | _ => exact p.elim
      | all =>
        cases v0 with
        | ref i =>
          have p : Post B X VRel μ s Q (match σ[i]? with | some (.list xs) => (match boolsOf xs with | some bs => .ok (.bool (bs.all id)) σ | none => .stuck) | _ => .stuck) := p
          refine ob23 hv fun x _ ez12x2 hx ez12x4 => ?_; clear hv; subst ez12x2; subst ez12x4
          refine ob12 hx fun a ea ez13x2 => ?_; clear hx; subst ez13x2
          split at p
          · rename_i xs hq
            split at p
            · rename_i bs hn
              refine ob02 (r.at ea hq) fun l wz14 => ?_; refine ob22 wz14 fun ys m g hy => ?_; clear wz14
              refine ob02 (boolsOf_rel hy hn) fun n1 n2 => ?_
              refine ob03 (listWalk g) fun w1 w2 w3 => ?_
              refine call_all_walk (wpAny_pyIter_list (isList_of g) ⟨_, _, _, _, _, _, fun i => bs.getD i true, rfl, Walks.list (A := A.in1) ok.handled _ a (listIter_fresh g) ys.toArray, ⟨w1, w2⟩, fun i v s' Q' E' hi hQ => ?_, fun h' tk k => ?_⟩)
              · rw [n2 i v (by simpa using hi)]; exact wpAny_truthy_bool hQ
              · have : ys.toArray.size = bs.length := by simp [n1]
                rw [this, range_all]
                exact Post.grow (s := s) r p (keep_wr (s := s) k) rfl
            · exact p.elim
          · exact p.elim
        | _ => exact p.elim
      | int =>
        cases v0 with
        | bool b =>
          refine ob23 hv fun x _ ez16x2 hx ez16x4 => ?_; clear hv; subst ez16x2; subst ez16x4
          rw [show x = _ from hx]
          exact call_int_bool (p.here r ⟨_, rfl⟩)
        | _ => exact p.elim
      | list =>
        cases v0 with
        | ref i =>
          have p : Post B X VRel μ s Q (match σ[i]? with | some (.list xs) => newList xs σ | _ => .stuck) := p
          refine ob23 hv fun x _ ez20x2 hx ez20x4 => ?_; clear hv; subst ez20x2; subst ez20x4
          refine ob12 hx fun a ea ez21x2 => ?_; clear hx; subst ez21x2
          split at p
          · rename_i xs hq
            refine ob02 (r.at ea hq) fun l wz22 => ?_; refine ob22 wz22 fun ys m g hy => ?_; clear wz22
            have l' : xs.length ≤ 1048576 := l
            have ll := hy.length
            refine call_list_seq a (.inl rfl) g rfl rfl (fun h' c' k e => ?_) (by simp [ll]; show _ ≤ 2 ^ 24; omega)
            exact p.newList r k e hy
          · exact p.elim
        | _ => exact p.elim
      | _ => exact p.elim
    | cons v1 vs =>
      cases vs with
      | cons => exact p.elim
      | nil =>
        cases b with
        | min =>
          cases v0 with
          | int a =>
            cases v1 with
            | int c =>
              have p : Post B X VRel μ s Q (.ok (.int (if c < a then c else a)) σ) := p
              refine ob23 hv fun x _ ez23x2 wz23x3 wz23 => ?_; clear hv; subst ez23x2; refine ob11 wz23x3 fun t ez15x1 => ?_; clear wz23x3; subst ez15x1; refine ob23 wz23 fun y _ ez16x2 wz16x3 ez16x4 => ?_; clear wz23; subst ez16x2; obtain ⟨u, rfl⟩ := wz16x3; subst ez16x4
              refine min_two_ints ok.handled fun h' tk k => ?_
              split <;> rename_i hc
              · rw [if_pos hc] at p; exact p.grow r k ⟨_, rfl⟩
              · rw [if_neg hc] at p; exact p.grow r k ⟨_, rfl⟩
            | _ => exact p.elim
          | _ => exact p.elim
        | max =>
          cases v0 with
          | int a =>
            cases v1 with
            | int c =>
              have p : Post B X VRel μ s Q (.ok (.int (if c > a then c else a)) σ) := p
              refine ob23 hv fun x _ ez24x2 wz24x3 wz24 => ?_; clear hv; subst ez24x2; refine ob11 wz24x3 fun t ez17x1 => ?_; clear wz24x3; subst ez17x1; refine ob23 wz24 fun y _ ez18x2 wz18x3 ez18x4 => ?_; clear wz24; subst ez18x2; obtain ⟨u, rfl⟩ := wz18x3; subst ez18x4
              refine max_two_ints ok.handled fun h' tk k => ?_
              split <;> rename_i hc
              · rw [if_pos hc] at p; exact p.grow r k ⟨_, rfl⟩
              · rw [if_neg hc] at p; exact p.grow r k ⟨_, rfl⟩
            | _ => exact p.elim
          | _ => exact p.elim
        | _ => exact p.elim

end
end Mine


-- part MiniVal5
set_option maxRecDepth 4000
set_option linter.unusedVariables false
namespace Mine
open PySem PySem.SeqAt

section
variable {B : Heap} {X : XE} {μ : List Addr} {σ : MH} {s : Shared}
variable {prog : Program} {w : World} {A : Around} {E : Value → Shared → Prop} {n : Nat}

/-- the method's built-in -/
noncomputable def meFn (m : Me) : String := match m with
  | .append => "list.append"
  | .pop => "list.pop"
  | .insert => "list.insert"

theorem upd_keep {h : Heap} {a : Addr} {f : Obj → Obj} : ∀ b x, b ≠ a → h.get? b = some x → (h.update a f).get? b = some x := fun _ _ nb e => (Heap.get?_update_other _ _ (Ne.symm nb)).trans e

/-- a list of ours turned by a function on its items -/
theorem Post.updList {α β : Type} {V : List Addr → α → β → Prop} {Q : β → Shared → Prop} {v : α} {w : β} {i : Nat} {a : Addr} {xs xs' : List Val} {ys ys' : List Value} {m : Nat} {f : Array Value → Array Value} {tk : Nat}
    (r : HRel B μ σ s.heap) (p : Post B X V μ s Q (.ok v (σ.set i (.list xs')))) (e : μ[i]? = some a) (q : σ[i]? = some (.list xs)) (g : s.heap.get? a = some (listObj ys m)) (hf : f ys.toArray = ys'.toArray)
    (hl : xs'.length ≤ lim) (hy : VsRel μ xs' ys') (hv : V μ v w) : Q w { s with heap := s.heap.update a (Obj.mapSeq f), toks := tk } := by
  refine p.upd r e q rfl upd_keep ⟨hl, ys', if (f ys.toArray).size == ys.toArray.size then m else m + 1, ?_, hy⟩ hv
  rw [Heap.get?_update_self _ g rfl]
  simp only [Obj.mapSeq, hf]

theorem onL_elim {Q : Value → Shared → Prop} {v : Val} {v' : Value} {f : Nat → List Val → Res Val} (r : HRel B μ σ s.heap) (hv : VRel μ v v') (p : Post B X VRel μ s Q (onL σ v f)) :
    ∃ i a xs ys k, v' = .ref a ∧ μ[i]? = some a ∧ σ[i]? = some (.list xs) ∧ xs.length ≤ 1048576 ∧ s.heap.get? a = some (listObj ys k) ∧ VsRel μ xs ys ∧ ys.length = xs.length ∧ Post B X VRel μ s Q (f i xs) := by
  cases v with
  | ref i =>
    refine ob12 hv fun a ea ez0x2 => ?_; clear hv; subst ez0x2
    cases q : σ[i]? with
    | none => simp only [onL, q] at p; exact p.elim
    | some o =>
      cases o with
      | list xs =>
        refine ob02 (r.at ea q) fun l wz1 => ?_; refine ob22 wz1 fun ys k g hys => ?_; clear wz1
        simp only [onL, q] at p
        exact ⟨i, a, xs, ys, k, rfl, ea, q, l, g, hys, hys.length, p⟩
      | _ => simp only [onL, q] at p; exact p.elim
  | _ => exact p.elim
theorem arg1_elim {Q : Value → Shared → Prop} {vs : List Val} {ws : List Value} {f : Val → Res Val} (hvs : VsRel μ vs ws) (p : Post B X VRel μ s Q (arg1 vs f)) : ∃ x y, ws = [y] ∧ VRel μ x y ∧ Post B X VRel μ s Q (f x) := by
  cases vs with
  | nil => exact p.elim
  | cons x r =>
    cases r with
    | nil => refine ob23 hvs fun y _ ez2x2 hy ez2x4 => ?_; clear hvs; subst ez2x2; subst ez2x4; exact ⟨x, y, rfl, hy, p⟩
    | cons => exact p.elim
theorem onI_elim {Q : Value → Shared → Prop} {v : Val} {y : Value} {f : Int → Res Val} (hv : VRel μ v y) (p : Post B X VRel μ s Q (onI v f)) : ∃ k t, y = .int k t ∧ Post B X VRel μ s Q (f k) := by
  cases v with
  | int k => refine ob11 hv fun t ez1x1 => ?_; clear hv; subst ez1x1; exact ⟨k, t, rfl, p⟩
  | _ => exact p.elim

section
variable {v : Val} {vs : List Val} {v' : Value} {ws : List Value} {Q : Value → Shared → Prop}
theorem app_sound (r : HRel B μ σ s.heap) (hv : VRel μ v v') (hvs : VsRel μ vs ws) (p : Post B X VRel μ s Q (meApp σ v vs)) : wpAny (model prog w) A (call (.builtin "list.append") (v' :: ws)) Q E s := by
  refine ob58 (onL_elim r hv p) fun i a xs ys k ez3x5 ea hq l g hys ll p => ?_; subst ez3x5
  refine ob23 (arg1_elim hvs p) fun x y ez4x2 hy p => ?_; subst ez4x2
  split at p
  · rename_i hl
    have lm : lim = 1048576 := rfl
    refine call_meets F.slot_list_append ⟨_, g, rfl⟩ F.entry_list_append (F.args_list_append_2 _ _) (list_append a ys.toArray k y (by simp [ll]; show _ ≤ 2 ^ 24; omega)) ⟨g, ?_⟩
    show Q _ { s with heap := s.heap.update a _, toks := s.toks }
    exact p.updList (xs' := xs ++ [x]) (ys' := ys ++ [y]) r ea hq g (by simp) (by simp; (first | exact om1 hl | omega)) (hys.append ⟨y, [], rfl, hy, rfl⟩) rfl
  · exact p.elim
theorem pop_sound (r : HRel B μ σ s.heap) (hv : VRel μ v v') (hvs : VsRel μ vs ws) (p : Post B X VRel μ s Q (mePop σ v vs)) : wpAny (model prog w) A (call (.builtin "list.pop") (v' :: ws)) Q E s := by
  refine ob58 (onL_elim r hv p) fun i a xs ys k ez5x5 ea hq l g hys ll p => ?_; subst ez5x5
  cases vs with
  | nil =>
    cases hvs
    have p : Post B X VRel μ s Q (popLast σ i xs) := p
    unfold popLast at p
    split at p
    · rename_i x hx
      rw [List.getLast?_eq_getElem?] at hx
      refine ob12 (hys.get hx) fun y e1 e2 => ?_
      refine call_meets F.slot_list_pop ⟨_, g, rfl⟩ F.entry_list_pop (F.args_list_pop_1 _) (MeetsSeq.list_pop_last a ys.toArray k y (by simpa [ll] using e1) (by simp [ll]; show _ ≤ 2 ^ 24; omega)) ⟨g, ?_⟩
      have hd : xs.dropLast = xs.take (xs.length - 1) := List.dropLast_eq_take
      show Q _ { s with heap := s.heap.update a _, toks := s.toks }
      refine p.updList (xs' := xs.dropLast) (ys' := ys.take (xs.length - 1)) r ea hq g ?_ (by have : lim = 1048576 := rfl; rw [hd]; simp; (first | exact om60 l this | omega)) (by rw [hd]; exact hys.take _) e2
      have hd2 : ys.take (xs.length - 1) = ys.eraseIdx (ys.length - 1) := by
        rw [List.eraseIdx_eq_take_drop_succ, ll, List.drop_eq_nil_of_le (by (first | exact om61 ll | omega)), List.append_nil]
      rw [hd2]; simp
    · exact p.elim
  | cons u rs =>
    refine ob23 hvs fun y ws ez7x2 hy hrs => ?_; clear hvs; subst ez7x2
    cases rs with
    | cons => exact p.elim
    | nil =>
      cases hrs
      refine ob22 (onI_elim hy (show Post B X VRel μ s Q (onI u (popAt σ i xs)) from p)) fun k' t ez8x2 p => ?_; subst ez8x2
      unfold popAt at p
      split at p
      · rename_i j hj
        split at p
        · rename_i x hx
          have l' : xs.length ≤ 1048576 := l
          refine ob04 (idx_seq hj) fun i1 i2 i3 i4 => ?_
          refine ob12 (hys.get hx) fun y e1 e2 => ?_
          refine call_meets F.slot_list_pop ⟨_, g, rfl⟩ F.entry_list_pop (F.args_list_pop_2 _ _) (MeetsSeq.list_pop_at a ys.toArray k k' t j y (by simp [Builtin.List.listFitsIndex]; (first | exact om62 l' i3 i4 | omega)) (by simpa [ll] using i1) (by simpa using e1) (by simp [ll]; show _ ≤ 2 ^ 24; omega)) ⟨g, ?_⟩
          show Q _ { s with heap := s.heap.update a _, toks := s.toks }
          refine p.updList (xs' := xs.eraseIdx j) (ys' := ys.eraseIdx j) r ea hq g ?_ ?_ (hys.eraseIdx j) e2
          · simp
          · have := List.length_eraseIdx_le xs j; show _ ≤ 1048576; (first | exact om63 l' this | omega)
        · exact p.elim
      · exact p.elim
theorem ins_sound (r : HRel B μ σ s.heap) (hv : VRel μ v v') (hvs : VsRel μ vs ws) (p : Post B X VRel μ s Q (meIns σ v vs)) : wpAny (model prog w) A (call (.builtin "list.insert") (v' :: ws)) Q E s := by
  refine ob58 (onL_elim r hv p) fun i a xs ys c ez11x5 ea hq l g hys ll p => ?_; subst ez11x5
  cases vs with
  | nil => exact p.elim
  | cons u rs =>
    refine ob23 hvs fun y ws ez12x2 hy hrs => ?_; clear hvs; subst ez12x2
    refine ob23 (arg1_elim hrs (show Post B X VRel μ s Q (arg1 rs _) from p)) fun x z ez13x2 hz p => ?_; subst ez13x2
    refine ob22 (onI_elim hy p) fun k t ez14x2 p => ?_; subst ez14x2
    split at p
    · rename_i hk
      have lm : lim = 1048576 := rfl
      refine call_meets F.slot_list_insert ⟨_, g, rfl⟩ F.entry_list_insert (F.args_list_insert_3 _ _ _) (AutoSeq1.list_insert_list_int_val_1 a ys.toArray c k t z (by simp [Builtin.List.listFitsIndex]; (first | exact om64 hk lm | omega)) (by simp [ll]; show _ ≤ 2 ^ 24; omega)) ⟨g, ?_⟩
      show Q _ { s with heap := s.heap.update a _, toks := s.toks }
      refine p.updList (xs' := xs.take k.toNat ++ x :: xs.drop k.toNat) (ys' := ys.take k.toNat ++ z :: ys.drop k.toNat) r ea hq g ?_ (by simp; omega) ((hys.take _).append ⟨z, _, rfl, hz, hys.drop _⟩) rfl
      have h0 : ¬ k < 0 := by (first | exact om67 hk | omega)
      simp only [h0, if_false]
      apply Array.toList_inj.mp
      have : min k.toNat ys.length = k.toNat := by omega
      simp [this]
      exact List.take_of_length_le (by simp)
    · exact p.elim
theorem me_sound {m : Me} (ok : AOk n A) (r : HRel B μ σ s.heap) (hv : VRel μ v v') (hvs : VsRel μ vs ws) (p : Post B X VRel μ s Q (meV σ m v vs)) : wpAny (model prog w) A (call (.builtin (meFn m)) (v' :: ws)) Q E s := by
  cases m with
  | append => exact app_sound r hv hvs p
  | pop => exact pop_sound r hv hvs p
  | insert => exact ins_sound r hv hvs p
end

end
end Mine


-- part MiniIter
set_option maxRecDepth 4000
set_option linter.unusedVariables false
namespace Mine
open PySem PySem.SeqAt

section
variable {B : Heap} {X : XE} {μ : List Addr} {σ : MH} {s : Shared}
variable {prog : Program} {w : World} {A : Around} {E : Value → Shared → Prop} {n : Nat}

noncomputable def cutOf : Val → Option (Option Int)
  | .none => some none
  | .int i => some (some i)
  | _ => none
theorem cutAt_elim {v : Val} {d m a : Nat} (h : cutAt v d m = some a) : ∃ o : Option Int, cutOf v = some o ∧ a = o.elim d (clipAt m) := by
  unfold cutAt at h
  split at h
  · cases h; exact ⟨none, rfl, rfl⟩
  · refine ⟨some _, rfl, ?_⟩
    unfold clipAt
    split at h <;> cases h <;> simp only [Option.elim] <;> split <;> (first | exact om79 ‹_› ‹_› | exact om82 ‹_› ‹_› | omega)
  · cases h
theorem part_of {v : Val} {v' : Value} {o : Option Int} (hv : VRel μ v v') (h : cutOf v = some o) : IsPart v' o := by
  unfold cutOf at h
  split at h
  · cases h; rw [show v' = _ from hv]; exact .none
  · cases h; refine ob11 hv fun t ez0x1 => ?_; clear hv; subst ez0x1; exact .int _ _
  · cases h

theorem slice_list_sound {i : Nat} {xs : List Val} {v' lo' hi' : Value} {lo hi : Val} {a b : Nat} {value slice : Expr} {Q : Value → Shared → Prop} (r : HRel B μ σ s.heap) (hq : σ[i]? = some (.list xs)) (hv : VRel μ (.ref i) v') (hlo : VRel μ lo lo') (hhi : VRel μ hi hi')
    (ha : cutAt lo 0 xs.length = some a) (hb : cutAt hi xs.length xs.length = some b) (p : Post B X VRel μ s Q (newList ((xs.take b).drop a) σ))
    (hs : ∀ i, subscripted slice false v' i = operate [i, v'] (getItem v' i)) :
    wpAny (model prog w) A (PyProof.Rows.subscriptTail value slice v' (.ref s.heap.objs.size)) Q E { s with heap := s.heap.push { cls := .type "slice", data := .fields #[lo', hi', .none] } } := by
  refine ob12 hv fun ad ea ez0x2 => ?_; clear hv; subst ez0x2
  refine ob02 (r.at ea hq) fun l wz1 => ?_; refine ob22 wz1 fun ys m g hys => ?_; clear wz1
  have l' : xs.length ≤ 1048576 := l
  have ll := hys.length
  refine ob12 (cutAt_elim ha) fun o1 c1 d1 => ?_
  refine ob12 (cutAt_elim hb) fun o2 c2 d2 => ?_
  have g' := Heap.get?_push_of_some (o := { cls := .type "slice", data := .fields #[lo', hi', .none] }) g
  have hl := isList_of g'
  refine PyProof.Rows.tail_any hl.typeIs slot_list_getitem.lookup (wpAny_getItem_list_slice (lo := o1) (hi := o2) (st := none) hl ⟨_, Heap.get?_push_size _ rfl, rfl, rfl⟩ (part_of hlo c1) (part_of hhi c2) .none (by simp) ?_ (by simp [ll]; show _ ≤ 2 ^ 24; omega)) (hs _)
  rw [slicePick_plain]
  have e : ((ys.toArray.toList.drop (o1.elim 0 (clipAt ys.toArray.size))).take (o2.elim ys.toArray.size (clipAt ys.toArray.size) - o1.elim 0 (clipAt ys.toArray.size))).toArray = ((ys.take b).drop a).toArray := by
    simp only [List.size_toArray, ll]
    rw [← d1, ← d2, List.drop_take]
  rw [e]
  exact Post.newList (s := { s with heap := s.heap.push { cls := .type "slice", data := .fields #[lo', hi', .none] }, toks := s.toks }) (n := 0) (r.grow (push_keep _ _)) (p.step (Step.grow (push_keep _ _))) (push_keep _ _) (Heap.get?_push_size _ rfl) ((hys.take _).drop _)


theorem look_fields {h h' : Heap} {I : Addr} {o : Obj} {vs : Array Value} (k : ∀ o, look h I = some o → look h' I = some o) (e : h.get? I = some o) (d : o.data = .fields vs) : h'.get? I = some o := by
  have nd : ∀ es ep, o.data ≠ .dict es ep := fun es ep q => by rw [d] at q; cases q
  refine get_of_look ?_ nd
  have := k _ (look_of e)
  rwa [nrm_of nd] at this
structure Iter (prog : Program) (w : World) (B : Heap) (μ₀ : List Addr) (xs : List Val) (ck : MH → Bool) (I : Addr) (At : Nat → Heap → Prop) : Prop where
  frame : ∀ i h h', At i h → (∀ o, look h I = some o → look h' I = some o) → At i h'
  alive : ∀ i h, At i h → ∃ o, h.get? I = some o
  again : ∀ i (A : Around) (s : Shared) (Q : Value → Shared → Prop) (E : Value → Shared → Prop), At i s.heap → Q (.ref I) s → wpAny (model prog w) A (pyIter (.ref I)) Q E s
  item : ∀ i x (A : Around) (s : Shared) μ σ (Q : Option Value → Shared → Prop) (E : Value → Shared → Prop), xs[i]? = some x → μ₀ <+: μ → At i s.heap → HRel B μ σ s.heap → ck σ = true →
    (∀ v h' tk, VRel μ x v → At (i + 1) h' → (∀ b o, b ≠ I → s.heap.get? b = some o → h'.get? b = some o) → Q (some v) { s with heap := h', toks := tk }) → wpAny (model prog w) A (pyNext (.ref I)) Q E s
  done : ∀ (A : Around) (s : Shared) μ σ (Q : Option Value → Shared → Prop) (E : Value → Shared → Prop), A.handled = none ∨ ((∀ σ, ck σ = true) ∧ (∃ i, .int i ∈ xs) ∧ HdOk A μ s.heap) → μ₀ <+: μ → At xs.length s.heap → HRel B μ σ s.heap → ck σ = true →
    (∀ h' tk, (∀ b o, b ≠ I → s.heap.get? b = some o → h'.get? b = some o) → Q none { s with heap := h', toks := tk }) → wpAny (model prog w) A (pyNext (.ref I)) Q E s

theorem sameBut_keep {a : Addr} {h h' : Heap} (x : Heap.SameBut a h h') : ∀ b o, b ≠ a → h.get? b = some o → h'.get? b = some o := fun b _ nb e => (x.2 b nb).trans e

theorem iter_list {i : Nat} {a I : Addr} {xs : List Val} {ck : MH → Bool} (ea : μ[i]? = some a) (hck : ∀ σ', ck σ' = true → seqOf σ' i = some (true, xs)) : Iter prog w B μ xs ck I (fun i h => h.IsListIter I a i) where
  frame := fun i h h' x k => let ⟨o, e, c, d⟩ := x; ⟨o, look_fields k e d, c, d⟩
  alive := fun i h x => let ⟨o, e, _⟩ := x; ⟨o, e⟩
  again := fun i A s Q E x q => wpAny_pyIter_listiter x q
  item := fun i x A s μ σ Q E hx hp hat r hc hQ => by
    refine ob02 (r.seq (getElem?_prefix hp ea) (hck σ hc)) fun l wz9 => ?_; refine ob22 wz9 fun ys m hy g => ?_; clear wz9
    refine ob12 (hy.get hx) fun y e1 e2 => ?_
    exact wpAny_pyNext_list_item hat (isList_of g) (by simpa using e1) fun h' x1 x2 => hQ y h' s.toks e2 x1 (sameBut_keep x2)
  done := fun A s μ σ Q E hh hp hat r hc hQ => by
    refine ob02 (r.seq (getElem?_prefix hp ea) (hck σ hc)) fun l wz11 => ?_; refine ob22 wz11 fun ys m hy g => ?_; clear wz11
    rcases hh with hh | ⟨hh, _⟩
    case inr => have := hck [] (hh []); simp [seqOf] at this
    exact wpAny_pyNext_list_end hh hat (isList_of g) (by simp [hy.length]) fun h' x1 => hQ h' s.toks x1


theorem rangeVals_get (a : Int) : ∀ (n i : Nat) (x : Val), (rangeVals a n)[i]? = some x → i < n ∧ x = .int (a + i)
  | 0, i, x, h => by simp [rangeVals] at h
  | n + 1, 0, x, h => by simp [rangeVals] at h; exact ⟨Nat.succ_pos _, by simp [← h]⟩
  | n + 1, i + 1, x, h => by
    simp only [rangeVals, List.getElem?_cons_succ] at h
    refine ob02 (rangeVals_get (a + 1) n i x h) fun h1 h2 => ?_
    exact ⟨by (first | exact om91 h1 | omega), by rw [h2]; congr 1; (first | exact om92 | omega)⟩
theorem rangeVals_length (a : Int) : ∀ n, (rangeVals a n).length = n
  | 0 => rfl
  | n + 1 => by simp [rangeVals, rangeVals_length (a + 1) n]

theorem iter_range {a : Int} {n : Nat} {I : Addr} : Iter prog w B μ (rangeVals a n) (fun _ => true) I (fun i h => IsRangeIter h I (a + (i : Nat)) ((n : Int) - (i : Nat)) 1) where
  frame := fun i h h' x k => look_fields k x rfl
  alive := fun i h x => ⟨_, x⟩
  again := fun i A s Q E x q => wpAny_pyIter_rangeiter x q
  item := fun i x A s μ σ Q E hx hp hat r hc hQ => by
    refine ob02 (rangeVals_get a n i x hx) fun h1 ez7x1 => ?_; subst ez7x1
    refine wpAny_pyNext_range_item hat (by (first | exact om93 h1 | omega)) fun h' x1 x2 => hQ _ h' _ ⟨_, rfl⟩ ?_ (sameBut_keep x2)
    have e1 : a + ((i + 1 : Nat) : Int) = a + i + 1 := by (first | exact om94 | omega)
    have e2 : (n : Int) - ((i + 1 : Nat) : Int) = n - i - 1 := by (first | exact om95 | omega)
    rw [e1, e2]; exact x1
  done := fun A s μ σ Q E hh hp hat r hc hQ => by
    rw [rangeVals_length] at hat
    have hd : HdOk A μ s.heap := hh.elim HdOk.none fun z => z.2.2
    exact pyNext_range_end_h hd hat (by (first | exact om96 | omega)) fun h' x1 => hQ h' s.toks x1

end
end Mine


-- part MiniChk
set_option maxRecDepth 4000
set_option linter.unusedVariables false
namespace Mine
open PySem

inductive GI where
  | fn (f : Nat) | const (v : Val) | ty (t : String) | bi (b : String) | cls (c : Nat) | tab (f : Nat) | meth (f : Nat) | kinds
  deriving DecidableEq
noncomputable abbrev GMap := List (Str × GI)

noncomputable def nameOk (x : Str) : Bool := (x == ("__debug__" : Str)) == false && (x == ("__classdict__" : Str)) == false
noncomputable def globK (g : GMap) (sc : Scope) (x : Str) (i : GI) : Bool := sc.names.lookup x == some .globalImplicit && nameOk x && g.lookup x == some i
noncomputable def varK (sc : Scope) (sm : List (Str × Nat)) (x : Str) (i : Nat) : Bool := isVar (sc.names.lookup x) && nameOk x && sm.lookup x == some i

noncomputable def tabNm : Str := "Table"
noncomputable def methKey (nm : Str) : Str := ("Table." : Str) ++ nm
noncomputable def isTab : Option GI → Bool
  | some (.tab _) => true
  | _ => false
noncomputable def constIs : Val → Const → Bool
  | .none, .none => true
  | .bool b, .bool c => b == c
  | .int i, .int j => i == j
  | .str s, .str x => decide (x = ⟨s.toArray⟩) && decide (s.length ≤ lim)
  | _, _ => false

noncomputable def isStar : Expr → Bool
  | .Starred .. => true
  | _ => false
noncomputable def isSlice : Expr → Bool
  | .Slice .. => true
  | _ => false
noncomputable def baseOk : Expr → Bool
  | .Call (.Name _ _) [] [] _ => false
  | _ => true

noncomputable def relabelS (inner outer : Scope) : Scope := { inner with names := inner.names.map fun (n, k) => if (k == .free && outer.kind == .function && outer.names.lookup n == some .cell) then (n, .cell) else (n, k) }

noncomputable def compScOk (inner outer : Scope) (x : Str) : Bool :=
  inner.kind == .function && inner.names.lookup x == some .local &&
  inner.names.all fun p => p.2 != .cell && (p.2 != .local || inner.names.lookup p.1 == some .local) && (p.2 != .free || (outer.names.lookup p.1 == some .cell || outer.names.lookup p.1 == some .free))

noncomputable def compScOk2 (inner outer : Scope) : Bool :=
  inner.kind == .function &&
  inner.names.all fun p => p.2 != .cell && (p.2 != .local || inner.names.lookup p.1 == some .local) && (p.2 != .free || (outer.names.lookup p.1 == some .cell || outer.names.lookup p.1 == some .free))
noncomputable def isTupleT : Expr → Bool
  | .Tuple .. => true
  | _ => false
noncomputable def biGI : BI → GI
  | .len => .bi "len" | .sum => .bi "sum" | .min => .bi "min" | .max => .bi "max" | .all => .bi "all"
  | .int => .ty "int" | .str => .ty "str" | .list => .ty "list"
noncomputable def meName : Me → Str
  | .append => "append"
  | .pop => "pop"
  | .insert => "insert"

noncomputable def isTT : MExpr → Bool
  | .const (.bool true) => true
  | _ => false
noncomputable def isNC : MExpr → Bool
  | .const .none => true
  | _ => false
theorem isTT_eq {m : MExpr} (h : isTT m = true) : m = .const (.bool true) := by
  unfold isTT at h; split at h
  · rfl
  · cases h
theorem isNC_eq {m : MExpr} (h : isNC m = true) : m = .const .none := by
  unfold isNC at h; split at h
  · rfl
  · cases h

structure Chk where
  E : Expr → Bool
  Es : List Expr → Bool
  I : Expr → Bool
noncomputable def ckE (f : Expr → Bool) : Chk := ⟨f, fun _ => false, fun _ => false⟩
noncomputable def ckS (f : List Expr → Bool) : Chk := ⟨fun _ => false, f, fun _ => false⟩
noncomputable def ckI (f : Expr → Bool) : Chk := ⟨fun _ => false, fun _ => false, f⟩

/-- an expression as the checker sees it -/
inductive EV where
  | const (c : Const) | name (x : Str) | bin (l : Expr) (o : Operator) (r : Expr) | un (o : UnaryOp) (x : Expr) | bool (o : BoolOp) (es : List Expr) (p : Pos)
  | cmp (l : Expr) (os : List CmpOp) (rs : List Expr) | call (f : Expr) (es : List Expr) (p : Pos) | attr (o : Expr) (n : Str) (p : Pos) | sub (l r : Expr)
  | slice (x y z : Option Expr) | comp (e : Expr) (gs : List Comprehension) (sc : Scope) | list (l : List Expr) | tup (l : List Expr) | other
noncomputable def eview : Expr → EV
  | .Constant c _ _ => .const c
  | .Name x _ => .name x
  | .BinOp l o r _ => .bin l o r
  | .UnaryOp o x _ => .un o x
  | .BoolOp o es p => .bool o es p
  | .Compare l os rs _ => .cmp l os rs
  | .Call f es [] p => .call f es p
  | .Attribute o n p => .attr o n p
  | .Subscript l r _ => .sub l r
  | .Slice x y z _ => .slice x y z
  | .ListComp e gs sc _ => .comp e gs sc
  | .List l _ => .list l
  | .Tuple l _ _ => .tup l
  | _ => .other
inductive EVOk : Expr → EV → Prop
  | const (c n p) : EVOk (.Constant c n p) (.const c)
  | name (x p) : EVOk (.Name x p) (.name x)
  | bin (l o r p) : EVOk (.BinOp l o r p) (.bin l o r)
  | un (o x p) : EVOk (.UnaryOp o x p) (.un o x)
  | bool (o es p) : EVOk (.BoolOp o es p) (.bool o es p)
  | cmp (l os rs p) : EVOk (.Compare l os rs p) (.cmp l os rs)
  | call (f es p) : EVOk (.Call f es [] p) (.call f es p)
  | attr (o n p) : EVOk (.Attribute o n p) (.attr o n p)
  | sub (l r p) : EVOk (.Subscript l r p) (.sub l r)
  | slice (x y z p) : EVOk (.Slice x y z p) (.slice x y z)
  | comp (e gs sc p) : EVOk (.ListComp e gs sc p) (.comp e gs sc)
  | list (l p) : EVOk (.List l p) (.list l)
  | tup (l c p) : EVOk (.Tuple l c p) (.tup l)
  | other (e) : EVOk e .other
theorem eview_ok (e : Expr) : EVOk e (eview e) := by
  cases e with
  | Call f es kw p =>
    cases kw with
    | nil => exact .call f es p
    | cons => exact .other _
  | _ => first | exact .other _ | constructor
noncomputable def onConst (k : Const → Bool) (e : Expr) : Bool := match eview e with | .const c => k c | _ => false
theorem onConst_elim {k : Const → Bool} {e : Expr} (h : onConst k e = true) : ∃ c n p, e = .Constant c n p ∧ k c = true := by
  have o := eview_ok e
  unfold onConst at h
  generalize eview e = x at o h
  cases o <;> first | exact (Bool.false_ne_true h).elim | exact ⟨_, _, _, rfl, h⟩
@[elab_as_elim] theorem onConst_k {k : Const → Bool} {e : Expr} {P : Expr → Prop} (h : onConst k e = true) (cc : ∀ c n p, k c = true → P (.Constant c n p)) : P e := by
  refine ob32 (onConst_elim h) fun c n p ez0x3 d => ?_; subst ez0x3; exact cc c n p d
noncomputable def onName (k : Str → Bool) (e : Expr) : Bool := match eview e with | .name x => k x | _ => false
theorem onName_elim {k : Str → Bool} {e : Expr} (h : onName k e = true) : ∃ x p, e = .Name x p ∧ k x = true := by
  have o := eview_ok e
  unfold onName at h
  generalize eview e = x at o h
  cases o <;> first | exact (Bool.false_ne_true h).elim | exact ⟨_, _, rfl, h⟩
@[elab_as_elim] theorem onName_k {k : Str → Bool} {e : Expr} {P : Expr → Prop} (h : onName k e = true) (cc : ∀ x p, k x = true → P (.Name x p)) : P e := by
  refine ob22 (onName_elim h) fun x p ez1x2 d => ?_; subst ez1x2; exact cc x p d
noncomputable def onBin (k : Expr → Operator → Expr → Bool) (e : Expr) : Bool := match eview e with | .bin l o r => k l o r | _ => false
theorem onBin_elim {k : Expr → Operator → Expr → Bool} {e : Expr} (h : onBin k e = true) : ∃ l o r p, e = .BinOp l o r p ∧ k l o r = true := by
  have o := eview_ok e
  unfold onBin at h
  generalize eview e = x at o h
  cases o <;> first | exact (Bool.false_ne_true h).elim | exact ⟨_, _, _, _, rfl, h⟩
@[elab_as_elim] theorem onBin_k {k : Expr → Operator → Expr → Bool} {e : Expr} {P : Expr → Prop} (h : onBin k e = true) (cc : ∀ l o r p, k l o r = true → P (.BinOp l o r p)) : P e := by
  refine ob42 (onBin_elim h) fun l o r p ez2x4 d => ?_; subst ez2x4; exact cc l o r p d
noncomputable def onUn (k : UnaryOp → Expr → Bool) (e : Expr) : Bool := match eview e with | .un o x => k o x | _ => false
theorem onUn_elim {k : UnaryOp → Expr → Bool} {e : Expr} (h : onUn k e = true) : ∃ o x p, e = .UnaryOp o x p ∧ k o x = true := by
  have o := eview_ok e
  unfold onUn at h
  generalize eview e = x at o h
  cases o <;> first | exact (Bool.false_ne_true h).elim | exact ⟨_, _, _, rfl, h⟩
@[elab_as_elim] theorem onUn_k {k : UnaryOp → Expr → Bool} {e : Expr} {P : Expr → Prop} (h : onUn k e = true) (cc : ∀ o x p, k o x = true → P (.UnaryOp o x p)) : P e := by
  refine ob32 (onUn_elim h) fun o x p ez3x3 d => ?_; subst ez3x3; exact cc o x p d
noncomputable def onBool (k : BoolOp → List Expr → Pos → Bool) (e : Expr) : Bool := match eview e with | .bool o es p => k o es p | _ => false
theorem onBool_elim {k : BoolOp → List Expr → Pos → Bool} {e : Expr} (h : onBool k e = true) : ∃ o es p, e = .BoolOp o es p ∧ k o es p = true := by
  have o := eview_ok e
  unfold onBool at h
  generalize eview e = x at o h
  cases o <;> first | exact (Bool.false_ne_true h).elim | exact ⟨_, _, _, rfl, h⟩
@[elab_as_elim] theorem onBool_k {k : BoolOp → List Expr → Pos → Bool} {e : Expr} {P : Expr → Prop} (h : onBool k e = true) (cc : ∀ o es p, k o es p = true → P (.BoolOp o es p)) : P e := by
  refine ob32 (onBool_elim h) fun o es p ez4x3 d => ?_; subst ez4x3; exact cc o es p d
noncomputable def onCmp (k : Expr → List CmpOp → List Expr → Bool) (e : Expr) : Bool := match eview e with | .cmp l os rs => k l os rs | _ => false
theorem onCmp_elim {k : Expr → List CmpOp → List Expr → Bool} {e : Expr} (h : onCmp k e = true) : ∃ l os rs p, e = .Compare l os rs p ∧ k l os rs = true := by
  have o := eview_ok e
  unfold onCmp at h
  generalize eview e = x at o h
  cases o <;> first | exact (Bool.false_ne_true h).elim | exact ⟨_, _, _, _, rfl, h⟩
@[elab_as_elim] theorem onCmp_k {k : Expr → List CmpOp → List Expr → Bool} {e : Expr} {P : Expr → Prop} (h : onCmp k e = true) (cc : ∀ l os rs p, k l os rs = true → P (.Compare l os rs p)) : P e := by
  refine ob42 (onCmp_elim h) fun l os rs p ez5x4 d => ?_; subst ez5x4; exact cc l os rs p d
noncomputable def onCallX (k : Expr → List Expr → Pos → Bool) (e : Expr) : Bool := match eview e with | .call f es p => k f es p | _ => false
theorem onCallX_elim {k : Expr → List Expr → Pos → Bool} {e : Expr} (h : onCallX k e = true) : ∃ f es p, e = .Call f es [] p ∧ k f es p = true := by
  have o := eview_ok e
  unfold onCallX at h
  generalize eview e = x at o h
  cases o <;> first | exact (Bool.false_ne_true h).elim | exact ⟨_, _, _, rfl, h⟩
@[elab_as_elim] theorem onCallX_k {k : Expr → List Expr → Pos → Bool} {e : Expr} {P : Expr → Prop} (h : onCallX k e = true) (cc : ∀ f es p, k f es p = true → P (.Call f es [] p)) : P e := by
  refine ob32 (onCallX_elim h) fun f es p ez6x3 d => ?_; subst ez6x3; exact cc f es p d
noncomputable def onCall (k : Str → List Expr → Bool) : Expr → Bool := onCallX fun f es _ => onName (fun x => k x es) f
theorem onCall_elim {k : Str → List Expr → Bool} {e : Expr} (h : onCall k e = true) : ∃ x p es q, e = .Call (.Name x p) es [] q ∧ k x es = true := by
  refine ob32 (onCallX_elim h) fun f es q ez7x3 h2 => ?_; subst ez7x3
  refine ob22 (onName_elim h2) fun x p ez8x2 h3 => ?_; subst ez8x2
  exact ⟨x, p, es, q, rfl, h3⟩
@[elab_as_elim] theorem onCall_k {k : Str → List Expr → Bool} {e : Expr} {P : Expr → Prop} (h : onCall k e = true) (cc : ∀ x p es q, k x es = true → P (.Call (.Name x p) es [] q)) : P e := by
  refine ob42 (onCall_elim h) fun x p es q ez9x4 d => ?_; subst ez9x4; exact cc x p es q d
noncomputable def onAttr (k : Expr → Str → Pos → Bool) (e : Expr) : Bool := match eview e with | .attr o n p => k o n p | _ => false
theorem onAttr_elim {k : Expr → Str → Pos → Bool} {e : Expr} (h : onAttr k e = true) : ∃ o n p, e = .Attribute o n p ∧ k o n p = true := by
  have o := eview_ok e
  unfold onAttr at h
  generalize eview e = x at o h
  cases o <;> first | exact (Bool.false_ne_true h).elim | exact ⟨_, _, _, rfl, h⟩
@[elab_as_elim] theorem onAttr_k {k : Expr → Str → Pos → Bool} {e : Expr} {P : Expr → Prop} (h : onAttr k e = true) (cc : ∀ o n p, k o n p = true → P (.Attribute o n p)) : P e := by
  refine ob32 (onAttr_elim h) fun o n p ez10x3 d => ?_; subst ez10x3; exact cc o n p d
noncomputable def onSub (k : Expr → Expr → Bool) (e : Expr) : Bool := match eview e with | .sub l r => k l r | _ => false
theorem onSub_elim {k : Expr → Expr → Bool} {e : Expr} (h : onSub k e = true) : ∃ l r p, e = .Subscript l r p ∧ k l r = true := by
  have o := eview_ok e
  unfold onSub at h
  generalize eview e = x at o h
  cases o <;> first | exact (Bool.false_ne_true h).elim | exact ⟨_, _, _, rfl, h⟩
@[elab_as_elim] theorem onSub_k {k : Expr → Expr → Bool} {e : Expr} {P : Expr → Prop} (h : onSub k e = true) (cc : ∀ l r p, k l r = true → P (.Subscript l r p)) : P e := by
  refine ob32 (onSub_elim h) fun l r p ez11x3 d => ?_; subst ez11x3; exact cc l r p d
noncomputable def onSlice (k : Option Expr → Option Expr → Option Expr → Bool) (e : Expr) : Bool := match eview e with | .slice x y z => k x y z | _ => false
theorem onSlice_elim {k : Option Expr → Option Expr → Option Expr → Bool} {e : Expr} (h : onSlice k e = true) : ∃ x y z p, e = .Slice x y z p ∧ k x y z = true := by
  have o := eview_ok e
  unfold onSlice at h
  generalize eview e = x at o h
  cases o <;> first | exact (Bool.false_ne_true h).elim | exact ⟨_, _, _, _, rfl, h⟩
@[elab_as_elim] theorem onSlice_k {k : Option Expr → Option Expr → Option Expr → Bool} {e : Expr} {P : Expr → Prop} (h : onSlice k e = true) (cc : ∀ x y z p, k x y z = true → P (.Slice x y z p)) : P e := by
  refine ob42 (onSlice_elim h) fun x y z p ez12x4 d => ?_; subst ez12x4; exact cc x y z p d
noncomputable def onComp (k : Expr → List Comprehension → Scope → Bool) (e : Expr) : Bool := match eview e with | .comp e1 gs sc => k e1 gs sc | _ => false
theorem onComp_elim {k : Expr → List Comprehension → Scope → Bool} {e : Expr} (h : onComp k e = true) : ∃ e1 gs sc p, e = .ListComp e1 gs sc p ∧ k e1 gs sc = true := by
  have o := eview_ok e
  unfold onComp at h
  generalize eview e = x at o h
  cases o <;> first | exact (Bool.false_ne_true h).elim | exact ⟨_, _, _, _, rfl, h⟩
@[elab_as_elim] theorem onComp_k {k : Expr → List Comprehension → Scope → Bool} {e : Expr} {P : Expr → Prop} (h : onComp k e = true) (cc : ∀ e1 gs sc p, k e1 gs sc = true → P (.ListComp e1 gs sc p)) : P e := by
  refine ob42 (onComp_elim h) fun e1 gs sc p ez13x4 d => ?_; subst ez13x4; exact cc e1 gs sc p d
noncomputable def onList (k : List Expr → Bool) (e : Expr) : Bool := match eview e with | .list l => k l | _ => false
theorem onList_elim {k : List Expr → Bool} {e : Expr} (h : onList k e = true) : ∃ l p, e = .List l p ∧ k l = true := by
  have o := eview_ok e
  unfold onList at h
  generalize eview e = x at o h
  cases o <;> first | exact (Bool.false_ne_true h).elim | exact ⟨_, _, rfl, h⟩
@[elab_as_elim] theorem onList_k {k : List Expr → Bool} {e : Expr} {P : Expr → Prop} (h : onList k e = true) (cc : ∀ l p, k l = true → P (.List l p)) : P e := by
  refine ob22 (onList_elim h) fun l p ez14x2 d => ?_; subst ez14x2; exact cc l p d
noncomputable def onTup (k : List Expr → Bool) (e : Expr) : Bool := match eview e with | .tup l => k l | _ => false
theorem onTup_elim {k : List Expr → Bool} {e : Expr} (h : onTup k e = true) : ∃ l c p, e = .Tuple l c p ∧ k l = true := by
  have o := eview_ok e
  unfold onTup at h
  generalize eview e = x at o h
  cases o <;> first | exact (Bool.false_ne_true h).elim | exact ⟨_, _, _, rfl, h⟩
@[elab_as_elim] theorem onTup_k {k : List Expr → Bool} {e : Expr} {P : Expr → Prop} (h : onTup k e = true) (cc : ∀ l c p, k l = true → P (.Tuple l c p)) : P e := by
  refine ob32 (onTup_elim h) fun l c p ez15x3 d => ?_; subst ez15x3; exact cc l c p d
noncomputable def one {α : Type} (k : α → Bool) : List α → Bool
  | [x] => k x
  | _ => false
theorem one_elim {α : Type} {k : α → Bool} {l : List α} (h : one k l = true) : ∃ x, l = [x] ∧ k x = true := by
  match l, h with
  | [x], h => exact ⟨x, rfl, h⟩
@[elab_as_elim] theorem one_k {α : Type} {k : α → Bool} {l : List α} {P : List α → Prop} (h : one k l = true) (cc : ∀ x, k x = true → P ([x])) : P l := by
  refine ob12 (one_elim h) fun x ez16x1 d => ?_; subst ez16x1; exact cc x d
noncomputable def two {α : Type} (k : α → α → Bool) : List α → Bool
  | [x, y] => k x y
  | _ => false
theorem two_elim {α : Type} {k : α → α → Bool} {l : List α} (h : two k l = true) : ∃ x y, l = [x, y] ∧ k x y = true := by
  match l, h with
  | [x, y], h => exact ⟨x, y, rfl, h⟩
@[elab_as_elim] theorem two_k {α : Type} {k : α → α → Bool} {l : List α} {P : List α → Prop} (h : two k l = true) (cc : ∀ x y, k x y = true → P ([x, y])) : P l := by
  refine ob22 (two_elim h) fun x y ez17x2 d => ?_; subst ez17x2; exact cc x y d
noncomputable def cons2 {α : Type} (k : α → α → List α → Bool) : List α → Bool
  | x :: y :: r => k x y r
  | _ => false
theorem cons2_elim {α : Type} {k : α → α → List α → Bool} {l : List α} (h : cons2 k l = true) : ∃ x y r, l = x :: y :: r ∧ k x y r = true := by
  match l, h with
  | x :: y :: r, h => exact ⟨x, y, r, rfl, h⟩
@[elab_as_elim] theorem cons2_k {α : Type} {k : α → α → List α → Bool} {l : List α} {P : List α → Prop} (h : cons2 k l = true) (cc : ∀ x y r, k x y r = true → P (x :: y :: r)) : P l := by
  refine ob32 (cons2_elim h) fun x y r ez18x3 d => ?_; subst ez18x3; exact cc x y r d
noncomputable def isAnd : BoolOp → Bool
  | .And => true
  | .Or => false
theorem isAnd_elim {o : BoolOp} (h : isAnd o = true) : o = .And := by cases o; rfl; cases h
theorem isOr_elim {o : BoolOp} (h : (!isAnd o) = true) : o = .Or := by cases o; cases h; rfl
noncomputable def isOne : Const → Bool
  | .int i => decide (i = 1)
  | _ => false
noncomputable def isRev : Option Expr → Bool
  | some e => onUn (fun op x => decide (op = .USub) && onConst isOne x) e
  | none => false
noncomputable def onPair (k : Str → Str → Bool) (e : Expr) : Bool := onTup (fun l => two (fun a b => onName (fun x => onName (fun y => k x y) b) a) l) e
theorem onPair_elim {k : Str → Str → Bool} {e : Expr} (h : onPair k e = true) : ∃ x px y py c p, e = .Tuple [.Name x px, .Name y py] c p ∧ k x y = true := by
  refine ob32 (onTup_elim h) fun l c p ez21x3 h => ?_; subst ez21x3
  refine ob22 (two_elim h) fun a b ez22x2 h => ?_; subst ez22x2
  refine ob22 (onName_elim h) fun x px ez23x2 h => ?_; subst ez23x2
  refine ob22 (onName_elim h) fun y py ez24x2 h => ?_; subst ez24x2
  exact ⟨x, px, y, py, c, p, rfl, h⟩
@[elab_as_elim] theorem onPair_k {k : Str → Str → Bool} {e : Expr} {P : Expr → Prop} (h : onPair k e = true) (cc : ∀ x px y py c p, k x y = true → P (.Tuple [.Name x px, .Name y py] c p)) : P e := by
  refine ob62 (onPair_elim h) fun x px y py c p ez25x6 d => ?_; subst ez25x6; exact cc x px y py c p d
noncomputable def compP (inner outer : Scope) (sm : List (Str × Nat)) (x y : Str) (i j : Nat) : Bool :=
  compScOk2 inner outer && inner.names.lookup x == some .local && inner.names.lookup y == some .local && (inner.names.all fun p => p.2 != .local || p.1 == x || p.1 == y || (sm.lookup p.1).isNone) && (sm.all fun p => p.2 != i && p.2 != j) && decide (i ≠ j) && decide (x ≠ y) && nameOk x && nameOk y
noncomputable def chk (g : GMap) : MExpr → Scope → List (Str × Nat) → Chk
  | .const v, _, _ => ckE (onConst fun c => constIs v c)
  | .gconst v, sc, _ => ckE (onName fun x => globK g sc x (.const v))
  | .loc i, sc, sm => ckE (onName fun x => varK sc sm x i)
  | .bin op a b, sc, sm => ckE (onBin fun l o r => decide (op = o) && (chk g a sc sm).E l && (chk g b sc sm).E r)
  | .un op a, sc, sm => ckE (onUn fun o x => decide (op = o) && (chk g a sc sm).E x)
  | .and a b, sc, sm => ckE (onBool fun o es p => isAnd o && cons2 (fun x y r => (chk g a sc sm).E x && (chk g b sc sm).E (match r with | [] => y | _ => .BoolOp .And (y :: r) p)) es)
  | .or a b, sc, sm => ckE (onBool fun o es p => !isAnd o && cons2 (fun x y r => (chk g a sc sm).E x && (chk g b sc sm).E (match r with | [] => y | _ => .BoolOp .Or (y :: r) p)) es)
  | .cmp op a b, sc, sm => ckE (onCmp fun l os rs => one (fun o => one (fun r => decide (op = o) && (chk g a sc sm).E l && (chk g b sc sm).E r && !behindInMarks o r) rs) os)
  | .cmp2 op₁ op₂ a b c, sc, sm => ckE (onCmp fun l os rs => two (fun o₁ o₂ => two (fun r₁ r₂ => decide (op₁ = o₁) && decide (op₂ = o₂) && (chk g a sc sm).E l && (chk g b sc sm).E r₁ && (chk g c sc sm).E r₂ && !lastMarks [o₁, o₂] [r₁, r₂]) rs) os)
  | .isinst t a, sc, sm => ckE (onCall fun x es => two (fun y zz => onName (fun z => globK g sc x (.bi "isinstance") && globK g sc z (.ty (tyName t)) && (chk g a sc sm).E y && !isStar y) zz) es)
  | .call f args, sc, sm => ckE (onCall fun x es => globK g sc x (.fn f) && (chk g args sc sm).Es es)
  | .bi b args, sc, sm => ckE (onCall fun x es => globK g sc x (biGI b) && (chk g args sc sm).Es es)
  | .meth m o args, sc, sm => ckE (onCallX fun f es pos => onAttr (fun eo nm apos => decide (nm = meName m) && (chk g o sc sm).E eo && (chk g args sc sm).Es es && apos.endLine == pos.line && baseOk eo && decide (es.length < 20)) f)
  | .lst a, sc, sm => ckE (onList fun l => (chk g a sc sm).Es l)
  | .tup a, sc, sm => ckE (onTup fun l => (chk g a sc sm).Es l)
  | .sub a b, sc, sm => ckE (onSub fun l r => (chk g a sc sm).E l && (chk g b sc sm).E r && !isSlice r)
  | .slice a lo hi, sc, sm => ckE (onSub fun l r => onSlice (fun x y z => z.isNone && ((chk g a sc sm).E l && (chk g lo sc sm).Es x.toList && (chk g hi sc sm).Es y.toList)) r)
  | .comp elt tgt it cond, sc, sm => ckE (onComp fun e1 gs sc' => match tgt with
      | .loc i => one (fun gn => onName (fun x => gn.is_async == 0 && compScOk sc' sc x && (sc'.names.all fun p => p.2 != .local || p.1 == x || (sm.lookup p.1).isNone) && nameOk x && sm.all (fun p => p.2 != i) && (chk g it sc sm).I gn.iter &&
          (chk g elt (relabelS sc' sc) ((x, i) :: sm)).E e1 &&
          (match gn.ifs with | [] => isTT cond | [c] => (chk g cond (relabelS sc' sc) ((x, i) :: sm)).E c | _ => false)) gn.target) gs
      | _ => false)
  | .attr o k, sc, sm => ckE (onAttr fun eo nm _ => isTab (g.lookup tabNm) && decide (nm = attrName k) && decide (k < 3) && onName (fun _ => true) eo && (chk g o sc sm).E eo)
  | .mcall f o args, sc, sm => ckE (onCallX fun fe es pos => onAttr (fun eo nm apos => isTab (g.lookup tabNm) && g.lookup (methKey nm) == some (.meth f) && !([attrName 0, attrName 1, attrName 2].contains nm) && onName (fun _ => true) eo && (chk g o sc sm).E eo && (chk g args sc sm).Es es && apos.endLine == pos.line && decide (es.length < 20)) fe)
  | .newT f, sc, _ => ckE (onCall fun x es => globK g sc x (.tab f) && decide (x = tabNm) && es.isEmpty)
  | .compp elt i j a cond, sc, sm => ckE (onComp fun e1 gs sc' => one (fun gn => onPair (fun x y => gn.is_async == 0 && compP sc' sc sm x y i j && (chk g a sc sm).E gn.iter && (chk g elt (relabelS sc' sc) ((x, i) :: (y, j) :: sm)).E e1 &&
      (match gn.ifs with | [] => isTT cond | [c] => (chk g cond (relabelS sc' sc) ((x, i) :: (y, j) :: sm)).E c | _ => false)) gn.target) gs)
  | .compq elt i j a b, sc, sm => ckE (onComp fun e1 gs sc' => one (fun gn => onPair (fun x y => gn.is_async == 0 && gn.ifs.isEmpty && compP sc' sc sm x y i j && (chk g elt (relabelS sc' sc) ((x, i) :: (y, j) :: sm)).E e1 &&
      onCall (fun z es => globK g sc z (.ty "zip") && two (fun y1 z1 => (chk g a sc sm).E y1 && (chk g b sc sm).E z1 && !isStar y1 && !isStar z1) es) gn.iter) gn.target) gs)
  | .nil, _, _ => ckS fun es => es.isEmpty
  | .cons a b, sc, sm => ckS fun es => match es with | e :: r => (chk g a sc sm).E e && !isStar e && (chk g b sc sm).Es r | [] => false
  | .irange a, sc, sm => ckI (onCall fun x es => one (fun y => globK g sc x (.ty "range") && (chk g a sc sm).E y && !isStar y) es)
  | .iobj a, sc, sm => ckI fun e => (chk g a sc sm).E e

noncomputable def isComp : Expr → Bool
  | .ListComp .. | .SetComp .. | .DictComp .. => true
  | _ => false
noncomputable def isTupleE : Expr → Bool
  | .Tuple .. => true
  | _ => false
noncomputable def stK (sc : Scope) (sm : List (Str × Nat)) (x : Str) (i : Nat) : Bool := (sc.names.lookup x == some .local || sc.names.lookup x == some .cell) && nameOk x && sm.lookup x == some i

/-- slots of a display of names -/
noncomputable def chkSlots (sc : Scope) (sm : List (Str × Nat)) : List Nat → List Expr → Bool
  | [], es => es.isEmpty
  | i :: is, es => (match es with | [] => false | e :: r => onName (fun x => stK sc sm x i) e && chkSlots sc sm is r)
noncomputable def chkTgt (sc : Scope) (sm : List (Str × Nat)) : MExpr → Expr → Bool
  | .loc i => onName fun x => stK sc sm x i
  | _ => fun _ => false

/-- a statement as the checker sees it -/
inductive SV where
  | assign (t v : Expr) | expr (v : Expr) | ifs (x : Expr) (y z : List Stmt) | fors (x y : Expr) (z : List Stmt) | ret (v : Option Expr) | raise (e : Expr) | tryx (y : List Stmt) (hs : List ExceptHandler) | other
noncomputable def sview : Stmt → SV
  | .Assign [t] v _ => .assign t v
  | .Expr v _ => .expr v
  | .If x y z _ => .ifs x y z
  | .For x y z [] _ => .fors x y z
  | .Return v _ => .ret v
  | .Raise (some e) none _ => .raise e
  | .Try y hs [] [] _ => .tryx y hs
  | _ => .other
inductive SVOk : Stmt → SV → Prop
  | assign (t v p) : SVOk (.Assign [t] v p) (.assign t v)
  | expr (v p) : SVOk (.Expr v p) (.expr v)
  | ifs (x y z p) : SVOk (.If x y z p) (.ifs x y z)
  | fors (x y z p) : SVOk (.For x y z [] p) (.fors x y z)
  | ret (v p) : SVOk (.Return v p) (.ret v)
  | raise (e p) : SVOk (.Raise (some e) none p) (.raise e)
  | tryx (y hs p) : SVOk (.Try y hs [] [] p) (.tryx y hs)
  | other (s) : SVOk s .other
theorem sview_ok (s : Stmt) : SVOk s (sview s) := by
  cases s with
  | Assign ts v p =>
    cases ts with
    | nil => exact .other _
    | cons t r =>
      cases r with
      | nil => exact .assign t v p
      | cons => exact .other _
  | For x y z o p =>
    cases o with
    | nil => exact .fors x y z p
    | cons => exact .other _
  | Raise a b p =>
    cases a with
    | none => exact .other _
    | some e =>
      cases b with
      | none => exact .raise e p
      | some => exact .other _
  | Try y hs o f p =>
    cases o with
    | nil =>
      cases f with
      | nil => exact .tryx y hs p
      | cons => exact .other _
    | cons => exact .other _
  | _ => first | exact .other _ | constructor

structure ChkS where
  S : Stmt → Bool
  Ss : List Stmt → Bool
noncomputable def csS (f : Stmt → Bool) : ChkS := ⟨f, fun _ => false⟩
noncomputable def csV (f : SV → Bool) : ChkS := ⟨fun s => f (sview s), fun _ => false⟩
noncomputable def csL (f : List Stmt → Bool) : ChkS := ⟨fun _ => false, f⟩

noncomputable def noAsg : MStmt → Bool
  | .nil => true
  | .cons a b => noAsg a && noAsg b
  | .expr _ => true
  | .ret _ => true
  | .ifs _ t e => noAsg t && noAsg e
  | _ => false
noncomputable def isStrC : Const → Bool
  | .str _ => true
  | _ => false
/-- the suite of `except K as y: return isinstance(y, ValueError)` -/
noncomputable def asOk (g : GMap) (sc : Scope) (sm : List (Str × Nat)) (y : Str) (e : Expr) : Bool :=
  onCall (fun f es => globK g sc f (.bi "isinstance") && two (fun a b => onName (fun z => decide (z = y)) a && onName (fun z => globK g sc z (.ty "ValueError")) b) es) e && (sc.names.lookup y == some .local && nameOk y && (sm.lookup y).isNone)
noncomputable def onRet (k : Expr → Bool) (s : Stmt) : Bool := match sview s with | .ret (some e) => k e | _ => false
noncomputable def chkH1 (g : GMap) (sc : Scope) (sm : List (Str × Nat)) (k : Nat × Bool × Val) (h : ExceptHandler) : Bool := match h with
  | .ExceptHandler (some t) nm body _ => onName (fun x => globK g sc x (.cls k.1)) t && one (onRet fun e => match nm with
      | none => !k.2.1 && onConst (fun c => constIs k.2.2 c) e
      | some y => k.2.1 && asOk g sc sm y e && decide (k.2.2 = .bool true)) body
  | .ExceptHandler none _ _ _ => false
noncomputable def chkH (g : GMap) (sc : Scope) (sm : List (Str × Nat)) : List (Nat × Bool × Val) → List ExceptHandler → Bool
  | [], l => l.isEmpty
  | k :: r, l => (match l with | [] => false | h :: r' => chkH1 g sc sm k h && chkH g sc sm r r')

noncomputable def chkS (g : GMap) (sc : Scope) (sm : List (Str × Nat)) : MStmt → ChkS
  | .nil => csL fun l => l.isEmpty
  | .cons a b => csL fun l => match l with | s :: r => (chkS g sc sm a).S s && (chkS g sc sm b).Ss r | [] => false
  | .assign i e => csV fun s => match s with
      | .assign t v => onName (fun x => stK sc sm x i) t && (chk g e sc sm).E v
      | _ => false
  | .asub o i e => csV fun s => match s with
      | .assign t v => onSub (fun eo ei => (chk g e sc sm).E v && (chk g o sc sm).E eo && (chk g i sc sm).E ei && !isSlice ei) t
      | _ => false
  | .aattr o k e => csV fun s => match s with
      | .assign t v => onAttr (fun eo nm _ => isTab (g.lookup tabNm) && decide (nm = attrName k) && decide (k < 3) && onName (fun _ => true) eo && (chk g o sc sm).E eo && (chk g e sc sm).E v && !isComp v) t
      | _ => false
  | .wild => ⟨fun _ => true, fun _ => true⟩
  | .asub2 o1 i1 o2 i2 e => csV fun s => match s with
      | .assign t v => onTup (fun l => two (fun a b => onSub (fun x1 y1 => onSub (fun x2 y2 => (chk g e sc sm).E v && (chk g o1 sc sm).E x1 && (chk g i1 sc sm).E y1 && (chk g o2 sc sm).E x2 && (chk g i2 sc sm).E y2 && !isTupleE v && !isComp v) b) a) l) t
      | _ => false
  | .expr e => csV fun s => match s with
      | .expr v => (chk g e sc sm).E v && !isComp v
      | _ => false
  | .ifs c t e => csV fun s => match s with
      | .ifs x y z => (chk g c sc sm).E x && (chkS g sc sm t).Ss y && (chkS g sc sm e).Ss z
      | _ => false
  | .fors tgt it b => csV fun s => match s with
      | .fors x y z => chkTgt sc sm tgt x && (chk g it sc sm).I y && (chkS g sc sm b).Ss z
      | _ => false
  | .ret e => csV fun s => match s with
      | .ret (some v) => (chk g e sc sm).E v
      | .ret none => isNC e
      | _ => false
  | .raise c => csV fun s => match s with
      | .raise e => onCall (fun x es => globK g sc x (.cls c) && one (onConst isStrC) es) e
      | _ => false
  | .tryx b hs => csV fun s => match s with
      | .tryx y l => noAsg b && (chkS g sc sm b).Ss y && (!hs.isEmpty && chkH g sc sm hs l)
      | _ => false

noncomputable def chkFun (g : GMap) (names : List Str) (params : Arguments) (sc : Scope) (body : List Stmt) (d : MFun) : Bool :=
  params.posonlyargs.isEmpty && params.kwonlyargs.isEmpty && params.vararg.isNone && params.kwarg.isNone && params.defaults.isEmpty && params.kw_defaults.isEmpty &&
  decide (params.args.map (·.arg) = names.take d.np) && decide (names.Nodup) && decide (d.np ≤ names.length) && decide (names.length ≤ d.ns) &&
  sc.kind == .function && sc.isGenerator == false && sc.isCoroutine == false &&
  (names.all fun x => sc.names.lookup x == some .local || sc.names.lookup x == some .cell) &&
  (sc.names.all fun p => p.2 != .free) && decide (((cellsFrom 0 sc.names []).map (·.1)).Nodup) && (chkS g sc names.zipIdx d.body).Ss body

end Mine


-- part MiniSE
set_option maxRecDepth 4000
set_option linter.unusedVariables false
namespace Mine
open PySem

structure Cx (n : Nat) (B : Heap) (X : XE) (A : Around) (env : Env) (sc : Scope) (sm : List (Str × Nat)) (ρ : Rho) (μ : List Addr) (σ : MH) (h : Heap) : Prop where
  scope : env.scope = sc
  ok : AOk n A
  frm : Frm B env μ h
  vars : Vars env sm ρ μ h
  rel : HRel B μ σ h
  frames : A.frames = some X.l
  fok : FrOk B X.l μ h
  here : ∃ e0 outer, X.l = e0 :: outer ∧ e0.frame = env.frame
  apart : ∀ e, e ∈ X.l → ∀ L, e.frame = some L → ∀ x, env.cells.lookup x ≠ some L
  hd : HdOk A μ h

theorem Cx.step {n : Nat} {B : Heap} {X : XE} {A : Around} {env : Env} {sc : Scope} {sm : List (Str × Nat)} {ρ : Rho} {μ μ' : List Addr} {σ σ' : MH} {h h' : Heap} (c : Cx n B X A env sc sm ρ μ σ h) (st : Step μ μ' h h') (r : HRel B μ' σ' h') : Cx n B X A env sc sm ρ μ' σ' h' :=
  ⟨c.scope, c.ok, c.frm.step st, c.vars.step c.frm st, r, c.frames, c.fok.step st, c.here, c.apart, c.hd.step st⟩
theorem Cx.kind {n : Nat} {B : Heap} {X : XE} {A : Around} {env : Env} {sc : Scope} {sm : List (Str × Nat)} {ρ : Rho} {μ : List Addr} {σ : MH} {h : Heap} (c : Cx n B X A env sc sm ρ μ σ h) (x : Str) : env.kindOf x = sc.names.lookup x := by
  unfold Env.kindOf; rw [c.scope]

section
variable (n : Nat) (C : Cf) (prog : Program) (w : World) (B : Heap) (sc : Scope) (sm : List (Str × Nat))

noncomputable def SE (m : MExpr) (e : Expr) : Prop :=
  ∀ {env ρ σ μ} {s : Shared} {A : Around} {X : XE} {Q : Value → Shared → Prop}, Cx n B X A env sc sm ρ μ σ s.heap → Post B X VRel μ s Q ((sem C m).E ρ σ) → wpAny (model prog w) A (eval e env) Q X.E s
noncomputable def ST (m : MExpr) (e : Expr) : Prop :=
  ∀ {env ρ σ μ} {s : Shared} {A : Around} {X : XE} {Q : Bool → Shared → Prop}, Cx n B X A env sc sm ρ μ σ s.heap → Post B X BRel μ s Q ((sem C m).T ρ σ) → wpAny (model prog w) A (isTrue e env (eval e env)) Q X.E s
noncomputable def SS (m : MExpr) (es : List Expr) : Prop :=
  ∀ {env ρ σ μ} {s : Shared} {A : Around} {X : XE} {Q : List Value → Shared → Prop} (pos : Pos), Cx n B X A env sc sm ρ μ σ s.heap → Post B X VsRel μ s Q ((sem C m).Es ρ σ) → wpAny (model prog w) A (spliced (backTo pos (starEach es env))) Q X.E s

/-- what an iterable gives: an iterator of our own -/
noncomputable def PostI (X : XE) (μ : List Addr) (s : Shared) (Q : Value → Shared → Prop) : Res Src → Prop
  | .ok (xs, ck) σ => ∀ μ' I At h' tk, HRel B μ' σ h' → Step μ μ' s.heap h' → I ∉ μ' → B.get? I = none → s.heap.get? I = none → Iter prog w B μ' xs ck I At → At 0 h' → ck σ = true → xs.length ≤ lim → Q (.ref I) { s with heap := h', toks := tk }
  | .exc c σ => PostX B X μ s c σ
  | .stuck => False
noncomputable def SI (m : MExpr) (e : Expr) : Prop :=
  (∀ env x, foldedSetIterable e env x = pure x) ∧
  ∀ {env ρ σ μ} {s : Shared} {A : Around} {X : XE} {Q : Value → Shared → Prop}, Cx n B X A env sc sm ρ μ σ s.heap → PostI prog w B X μ s Q ((sem C m).I ρ σ) →
    wpAny (model prog w) A (eval e env) (fun x s₁ => wpAny (model prog w) A (pyIter x) Q X.E s₁) X.E s
end

section
variable {n : Nat} {C : Cf} {prog : Program} {w : World} {B : Heap} {sc : Scope} {sm : List (Str × Nat)}
variable {env : Env} {ρ : Rho} {σ : MH} {μ : List Addr} {s : Shared} {A : Around} {E : Value → Shared → Prop} {X : XE}

theorem Post.bindR {α γ β δ : Type} {W : List Addr → γ → δ → Prop} {V : List Addr → α → β → Prop} {Q : β → Shared → Prop} {Q' : δ → Shared → Prop} {r : Res γ} {f : γ → MH → Res α} (p : Post B X V μ s Q (r.bind f))
    (k : ∀ v σ1 μ1 v' h1 tk, HRel B μ1 σ1 h1 → Step μ μ1 s.heap h1 → W μ1 v v' → Post B X V μ1 { s with heap := h1, toks := tk } Q (f v σ1) → Q' v' { s with heap := h1, toks := tk }) : Post B X W μ s Q' r := by
  cases r with
  | ok v σ1 => intro μ1 v' h1 tk r1 st hv; exact k v σ1 μ1 v' h1 tk r1 st hv (Post.step (x := f v σ1) p st)
  | exc c h => exact p
  | stuck => exact p

theorem SE.bind {α β : Type} {m : MExpr} {e : Expr} {V : List Addr → α → β → Prop} {Q : β → Shared → Prop} {Q' : Value → Shared → Prop} {f : Val → MH → Res α} (h : SE n C prog w B sc sm m e) (cx : Cx n B X A env sc sm ρ μ σ s.heap)
    (p : Post B X V μ s Q (((sem C m).E ρ σ).bind f))
    (k : ∀ v σ1 μ1 v' h1 tk, Cx n B X A env sc sm ρ μ1 σ1 h1 → Step μ μ1 s.heap h1 → VRel μ1 v v' → Post B X V μ1 { s with heap := h1, toks := tk } Q (f v σ1) → Q' v' { s with heap := h1, toks := tk }) : wpAny (model prog w) A (eval e env) Q' X.E s :=
  h cx (p.bindR fun v σ1 μ1 v' h1 tk r st hv q => k v σ1 μ1 v' h1 tk (cx.step st r) st hv q)
theorem ST.bind {α β : Type} {m : MExpr} {e : Expr} {V : List Addr → α → β → Prop} {Q : β → Shared → Prop} {Q' : Bool → Shared → Prop} {f : Bool → MH → Res α} (h : ST n C prog w B sc sm m e) (cx : Cx n B X A env sc sm ρ μ σ s.heap)
    (p : Post B X V μ s Q (((sem C m).T ρ σ).bind f))
    (k : ∀ v σ1 μ1 h1 tk, Cx n B X A env sc sm ρ μ1 σ1 h1 → Step μ μ1 s.heap h1 → Post B X V μ1 { s with heap := h1, toks := tk } Q (f v σ1) → Q' v { s with heap := h1, toks := tk }) : wpAny (model prog w) A (isTrue e env (eval e env)) Q' X.E s :=
  h cx (p.bindR fun v σ1 μ1 v' h1 tk r st hv q => by rw [← show v = v' from hv]; exact k v σ1 μ1 h1 tk (cx.step st r) st q)
theorem SS.bind {α β : Type} {m : MExpr} {es : List Expr} {V : List Addr → α → β → Prop} {Q : β → Shared → Prop} {Q' : List Value → Shared → Prop} {f : List Val → MH → Res α} {pos : Pos} (h : SS n C prog w B sc sm m es) (cx : Cx n B X A env sc sm ρ μ σ s.heap)
    (p : Post B X V μ s Q (((sem C m).Es ρ σ).bind f))
    (k : ∀ v σ1 μ1 v' h1 tk, Cx n B X A env sc sm ρ μ1 σ1 h1 → Step μ μ1 s.heap h1 → VsRel μ1 v v' → Post B X V μ1 { s with heap := h1, toks := tk } Q (f v σ1) → Q' v' { s with heap := h1, toks := tk }) : wpAny (model prog w) A (spliced (backTo pos (starEach es env))) Q' X.E s :=
  h pos cx (p.bindR fun v σ1 μ1 v' h1 tk r st hv q => k v σ1 μ1 v' h1 tk (cx.step st r) st hv q)

/-- truth by the value -/
theorem ST.plain {m : MExpr} {e : Expr} (h : SE n C prog w B sc sm m e) (ht : (sem C m).T = tOf (sem C m).E)
    (he : ∀ env whole, isTrue e env whole = (do let v ← whole; standAt e.pos; holding [v] (truthy v))) : ST n C prog w B sc sm m e := fun {env ρ σ μ s A X Q} cx p => by
  rw [ht] at p
  exact wpAny_isTrue_value (h.bind cx p fun v σ1 μ1 v' h1 tk cx1 _ hv q => truthy_sound cx1.rel hv q) (he _ _)

theorem se_const {v : Val} {c : Const} {k : Nat} {pos : Pos} (h : constIs v c = true) : SE n C prog w B sc sm (.const v) (.Constant c k pos) := fun {env ρ σ μ s A X Q} cx p => by
  have p : Post B X VRel μ s Q (.ok v σ) := p
  cases v with
  | none =>
    cases c with
    | none => exact wpAny_Constant_none (p.here' cx.rel rfl)
    | _ => exact (Bool.false_ne_true h).elim
  | bool a =>
    cases c with
    | bool b =>
      have h : (a == b) = true := h
      rw [beq_iff_eq] at h; subst h; exact wpAny_Constant_bool (p.here' cx.rel rfl)
    | _ => exact (Bool.false_ne_true h).elim
  | int a =>
    cases c with
    | int b =>
      have h : (a == b) = true := h
      rw [beq_iff_eq] at h; subst h; exact wpAny_Constant_int (p.here cx.rel ⟨_, rfl⟩)
    | _ => exact (Bool.false_ne_true h).elim
  | str a =>
    cases c with
    | str b =>
      have h : (decide (b = ⟨a.toArray⟩) && decide (a.length ≤ lim)) = true := h
      simp only [Bool.and_eq_true, decide_eq_true_eq] at h
      obtain ⟨rfl, hl⟩ := h
      exact wpAny_Constant_str (p.here cx.rel ⟨hl, _, rfl⟩)
    | _ => exact (Bool.false_ne_true h).elim
  | ref a => exact (Bool.false_ne_true h).elim

theorem nameOk_1 {x : Str} (h : nameOk x = true) : (x == ("__debug__" : Str)) = false := by
  unfold nameOk at h; simp only [Bool.and_eq_true, beq_iff_eq] at h; exact h.1
theorem nameOk_2 {x : Str} (h : nameOk x = true) : (x == ("__classdict__" : Str)) = false := by
  unfold nameOk at h; simp only [Bool.and_eq_true, beq_iff_eq] at h; exact h.2

theorem se_loc {i : Nat} {x : Str} {pos : Pos} (h : varK sc sm x i = true) : SE n C prog w B sc sm (.loc i) (.Name x pos) := fun {env ρ σ μ s A X Q} cx p => by
  have p : Post B X VRel μ s Q (locV i ρ σ) := p
  unfold varK at h
  simp only [Bool.and_eq_true, beq_iff_eq] at h
  obtain ⟨⟨h1, h2⟩, h3⟩ := h
  unfold locV at p
  split at p
  · rename_i v hv
    refine ob12 (cx.vars x i v (by rw [cx.kind]; exact h1) h3 hv) fun u b r => ?_
    refine wpAny_Name ?_ (nameOk_1 h2)
    rcases b with ⟨k, m, hn, hm⟩ | ⟨k | k, c, hc, hi⟩
    · exact wpAny_loadName_local cx.frm.kind k hn hm (p.here' cx.rel r)
    · exact wpAny_loadName_cell cx.frm.kind k hc hi (p.here' cx.rel r)
    · exact wpAny_loadName_free cx.frm.kind k hc hi (p.here' cx.rel r) (nameOk_2 h2)
  · exact p.elim

theorem se_bin {op : Operator} {a b : MExpr} {l r : Expr} {pos : Pos} (ha : SE n C prog w B sc sm a l) (hb : SE n C prog w B sc sm b r) : SE n C prog w B sc sm (.bin op a b) (.BinOp l op r pos) := fun {env ρ σ μ s A X Q} cx p =>
  wpAny_BinOp (ha.bind cx p fun v σ1 μ1 v' h1 tk cx1 _ hv q => hb.bind cx1 q fun u σ2 μ2 u' h2 tk2 cx2 st2 hu q2 => bin_sound cx2.rel (hv.mono st2.pre) hu q2)

theorem se_un {op : UnaryOp} {a : MExpr} {x : Expr} {pos : Pos} (ha : SE n C prog w B sc sm a x) : SE n C prog w B sc sm (.un op a) (.UnaryOp op x pos) := fun {env ρ σ μ s A X Q} cx p =>
  wpAny_UnaryOp (ha.bind cx p fun v σ1 μ1 v' h1 tk cx1 _ hv q => un_sound cx1.rel hv q)

theorem st_un {op : UnaryOp} {a : MExpr} {x : Expr} {pos : Pos} (ha : SE n C prog w B sc sm a x) (ta : ST n C prog w B sc sm a x) : ST n C prog w B sc sm (.un op a) (.UnaryOp op x pos) := fun {env ρ σ μ s A X Q} cx p => by
  cases op with
  | Not => exact wpAny_isTrue_Not (ta.bind cx p fun b σ1 μ1 h1 tk cx1 _ q => q.here' cx1.rel rfl)
  | _ => exact wpAny_isTrue_value (wpAny_UnaryOp (ha.bind cx (by rw [← Res.bind_assoc]; exact p) fun v σ1 μ1 v' h1 tk cx1 _ hv q => un_sound cx1.rel hv (q.bindR fun u σ2 μ2 u' h2 tk2 r2 st2 hu q2 => truthy_sound r2 hu q2)))

theorem eval_BoolOp1 (op : BoolOp) (y : Expr) (p : Pos) (env : Env) : eval (.BoolOp op [y] p) env = eval y env := by
  rw [arm_eval_BoolOp]; rfl
theorem eval_BoolOp2 (op : BoolOp) (x y : Expr) (r : List Expr) (p : Pos) (env : Env) : eval (.BoolOp op (x :: y :: r) p) env = (do
    let v ← eval x env
    standAt p
    let t ← holding [v] (truthy v)
    match op, t with
    | .And, false | .Or, true => pure v
    | _, _ => eval (.BoolOp op (y :: r) p) env) := by
  rw [arm_eval_BoolOp, arm_eval_BoolOp]; rfl

/-- the tail of a chain of and | or -/
noncomputable def tailB (op : BoolOp) (y : Expr) (r : List Expr) (p : Pos) : Expr := match r with | [] => y | _ => .BoolOp op (y :: r) p
theorem eval_tailB (op : BoolOp) (y : Expr) (r : List Expr) (p : Pos) (env : Env) : eval (.BoolOp op (y :: r) p) env = eval (tailB op y r p) env := by
  cases r with
  | nil => exact eval_BoolOp1 op y p env
  | cons z r => rfl

theorem se_and {a b : MExpr} {x y : Expr} {r : List Expr} {p : Pos} (ha : SE n C prog w B sc sm a x) (hb : SE n C prog w B sc sm b (tailB .And y r p)) : SE n C prog w B sc sm (.and a b) (.BoolOp .And (x :: y :: r) p) := fun {env ρ σ μ s A X Q} cx q => by
  rw [eval_BoolOp2]
  refine wpAny_bind (ha.bind cx q fun v σ1 μ1 v' h1 tk cx1 _ hv q1 => wpAny_bind (wpAny_standAt (wpAny_bind (wpAny_holding (truthy_sound cx1.rel hv (q1.bindR fun t σ2 μ2 t' h2 tk2 r2 st2 ht q2 => ?_))))))
  rw [← show t = t' from ht]
  cases t with
  | false => exact wpAny_pure (Post.here' (s := { s with heap := h2, toks := tk2 }) r2 q2 (hv.mono st2.pre))
  | true => rw [eval_tailB]; exact hb (cx1.step st2 r2) q2
theorem se_or {a b : MExpr} {x y : Expr} {r : List Expr} {p : Pos} (ha : SE n C prog w B sc sm a x) (hb : SE n C prog w B sc sm b (tailB .Or y r p)) : SE n C prog w B sc sm (.or a b) (.BoolOp .Or (x :: y :: r) p) := fun {env ρ σ μ s A X Q} cx q => by
  rw [eval_BoolOp2]
  refine wpAny_bind (ha.bind cx q fun v σ1 μ1 v' h1 tk cx1 _ hv q1 => wpAny_bind (wpAny_standAt (wpAny_bind (wpAny_holding (truthy_sound cx1.rel hv (q1.bindR fun t σ2 μ2 t' h2 tk2 r2 st2 ht q2 => ?_))))))
  rw [← show t = t' from ht]
  cases t with
  | true => exact wpAny_pure (Post.here' (s := { s with heap := h2, toks := tk2 }) r2 q2 (hv.mono st2.pre))
  | false => rw [eval_tailB]; exact hb (cx1.step st2 r2) q2

theorem isTrue_BoolOp (op : BoolOp) (vs : List Expr) (p : Pos) (env : Env) (whole : Sem Value) : isTrue (.BoolOp op vs p) env whole = allTrue op vs env := by
  rw [arm_isTrue_BoolOp]
theorem allTrue_tail {Q : Bool → Shared → Prop} (op : BoolOp) (y : Expr) (r : List Expr) (p : Pos) (h : wpAny (model prog w) A (isTrue (tailB op y r p) env (eval (tailB op y r p) env)) Q E s) : wpAny (model prog w) A (allTrue op (y :: r) env) Q E s := by
  cases r with
  | nil =>
    cases op with
    | And => exact wpAny_allTrue_And_cons (wpAny_mono h (fun b s' q => by cases b; exact q; exact wpAny_allTrue_And_nil q) fun _ _ x => x)
    | Or => exact wpAny_allTrue_Or_cons (wpAny_mono h (fun b s' q => by cases b; exact wpAny_allTrue_Or_nil q; exact q) fun _ _ x => x)
  | cons z r => rw [show tailB op y (z :: r) p = .BoolOp op (y :: z :: r) p from rfl, isTrue_BoolOp] at h; exact h

theorem st_and {a b : MExpr} {x y : Expr} {r : List Expr} {p : Pos} (ta : ST n C prog w B sc sm a x) (tb : ST n C prog w B sc sm b (tailB .And y r p)) : ST n C prog w B sc sm (.and a b) (.BoolOp .And (x :: y :: r) p) := fun {env ρ σ μ s A X Q} cx q =>
  wpAny_isTrue_BoolOp (wpAny_allTrue_And_cons (ta.bind cx q fun t σ1 μ1 h1 tk cx1 st1 q1 => by
    cases t with
    | false => exact Post.here' (s := { s with heap := h1, toks := tk }) cx1.rel q1 rfl
    | true => exact allTrue_tail .And y r p (tb cx1 q1)))
theorem st_or {a b : MExpr} {x y : Expr} {r : List Expr} {p : Pos} (ta : ST n C prog w B sc sm a x) (tb : ST n C prog w B sc sm b (tailB .Or y r p)) : ST n C prog w B sc sm (.or a b) (.BoolOp .Or (x :: y :: r) p) := fun {env ρ σ μ s A X Q} cx q =>
  wpAny_isTrue_BoolOp (wpAny_allTrue_Or_cons (ta.bind cx q fun t σ1 μ1 h1 tk cx1 st1 q1 => by
    cases t with
    | true => exact Post.here' (s := { s with heap := h1, toks := tk }) cx1.rel q1 rfl
    | false => exact allTrue_tail .Or y r p (tb cx1 q1)))

theorem se_cmp {op : CmpOp} {a b : MExpr} {l r : Expr} {pos : Pos} (hm : behindInMarks op r = false) (ha : SE n C prog w B sc sm a l) (hb : SE n C prog w B sc sm b r) : SE n C prog w B sc sm (.cmp op a b) (.Compare l [op] [r] pos) := fun {env ρ σ μ s A X Q} cx p =>
  wpAny_Compare1 (ha.bind cx p fun v σ1 μ1 v' h1 tk cx1 _ hv q => hb.bind cx1 q fun u σ2 μ2 u' h2 tk2 cx2 st2 hu q2 => cmp_sound cx2.ok cx2.rel (hv.mono st2.pre) hu q2) hm
theorem cmpT_sound {op : CmpOp} {v u : Val} {v' u' : Value} {Q : Bool → Shared → Prop} (ok : AOk n A) (r : HRel B μ σ s.heap) (hv : VRel μ v v') (hu : VRel μ u u')
    (p : Post B X BRel μ s Q (Res.opt (cmpV σ op v u) σ)) : wpAny (model prog w) A (compareOp op v' u') (fun c s₃ => wpAny (model prog w) A (truthy c) Q E s₃) E s := by
  refine cmp_sound (X := X) ok r hv hu ?_
  cases q : cmpV σ op v u with
  | none => rw [q] at p; exact p.elim
  | some t =>
    rw [q] at p
    intro μ' c h' tk r' st hc
    rw [show c = .bool t from hc]
    exact wpAny_truthy_bool (p μ' t h' tk r' st rfl)
theorem st_cmp {op : CmpOp} {a b : MExpr} {l r : Expr} {pos : Pos} (hm : behindInMarks op r = false) (ha : SE n C prog w B sc sm a l) (hb : SE n C prog w B sc sm b r) : ST n C prog w B sc sm (.cmp op a b) (.Compare l [op] [r] pos) := fun {env ρ σ μ s A X Q} cx p =>
  wpAny_isTrue_Compare1 (ha.bind cx p fun v σ1 μ1 v' h1 tk cx1 _ hv q => hb.bind cx1 q fun u σ2 μ2 u' h2 tk2 cx2 st2 hu q2 => cmpT_sound cx2.ok cx2.rel (hv.mono st2.pre) hu q2) hm

end
end Mine


-- part MiniSF
set_option maxRecDepth 4000
set_option linter.unusedVariables false
namespace Mine
open PySem

noncomputable def FnAt (g : GMap) (F : Nat → Option MFun) (B : Heap) (f : Nat) (a : Addr) : Prop :=
  ∃ o fd body names d, B.get? a = some o ∧ o.data = .func fd ∧ B.CodeRec fd.code fd.qualname ∧ fd.body = .stmts body ∧ fd.closure = [] ∧ fd.globals = mainGlobals ∧ fd.builtins = builtinsNs ∧ fd.defaults = .none ∧
    F f = some d ∧ chkFun g names fd.params fd.scope body d = true

/-- the class Table as it stands: its methods -/
noncomputable def TabOk (g : GMap) (F : Nat → Option MFun) (B : Heap) (f : Nat) : Prop :=
  ∃ N mN, PyProof.Rows.ClsAt B (tabK B) N mN ∧ (∃ a o, mN "__init__" = some (.ref a) ∧ B.get? a = some o ∧ o.cls = .type "function" ∧ FnAt g F B f a) ∧
    mN "__getattribute__" = none ∧ mN "__getattr__" = none ∧ mN "__setattr__" = none ∧ (∀ k, k < 3 → mN (attrName k) = none) ∧
    ∀ nm f', g.lookup (methKey nm) = some (.meth f') → ∃ a o, mN nm = some (.ref a) ∧ B.get? a = some o ∧ o.cls = .type "function" ∧ FnAt g F B f' a
structure GOk (g : GMap) (F : Nat → Option MFun) (B : Heap) (mg mb : Str → Option Value) : Prop where
  ng : B.Ns mainGlobals mg
  nb : B.Ns builtinsNs mb
  lim : B.NoLimit
  fn : ∀ x f, g.lookup x = some (.fn f) → ∃ a, mg x = some (.ref a) ∧ FnAt g F B f a
  const : ∀ x v, g.lookup x = some (.const v) → ∃ u, mg x = some u ∧ VRel [] v u
  ty : ∀ x T, g.lookup x = some (.ty T) → mg x = none ∧ mb x = some (.type T)
  bi : ∀ x T, g.lookup x = some (.bi T) → mg x = none ∧ mb x = some (.builtin T)
  cls : ∀ x c, g.lookup x = some (.cls c) → mg x = some (.ref (clsK B c)) ∧ ExcCls B c
  tab : ∀ f, g.lookup tabNm = some (.tab f) → mg tabNm = some (.ref (tabK B)) ∧ TabOk g F B f

noncomputable def CS (n : Nat) (C : Cf) (prog : Program) (w : World) (g : GMap) (F : Nat → Option MFun) (B : Heap) : Prop :=
  ∀ (f : Nat) (a : Addr) (vs : List Val) (ws : List Value) (μ : List Addr) (σ : MH) (s : Shared) (A : Around) (X : XE) (Q : Value → Shared → Prop), FnAt g F B f a → AOk0 n A → HRel B μ σ s.heap → A.frames = some X.l → FrOk B X.l μ s.heap → VsRel μ vs ws →
    Post B X VRel μ s Q (C f vs σ) → codeAny (model prog w) A (.call (.ref a) ⟨ws, []⟩) (fun r s' => match r with | .ok (.ret v) => Q v s' | .ok _ => False | .error e => X.E e s') s

section
variable {n : Nat} {C : Cf} {prog : Program} {w : World} {B : Heap} {sc : Scope} {sm : List (Str × Nat)} {g : GMap} {F : Nat → Option MFun} {mg mb : Str → Option Value}
variable {env : Env} {ρ : Rho} {σ : MH} {μ : List Addr} {s : Shared} {A : Around} {E : Value → Shared → Prop} {X : XE}

theorem globK_split {x : Str} {i : GI} (h : globK g sc x i = true) : sc.names.lookup x = some .globalImplicit ∧ nameOk x = true ∧ g.lookup x = some i := by
  unfold globK at h; simp only [Bool.and_eq_true, beq_iff_eq] at h; exact ⟨h.1.1, h.1.2, h.2⟩
theorem Ns_base {h : Heap} {a : Addr} {m : Str → Option Value} (r : HRel B μ σ h) (x : B.Ns a m) : h.Ns a m := Ns_at x fun o e => r.base _ o e

theorem glob_some {x : Str} {i : GI} {pos : Pos} {v : Value} {Q : Value → Shared → Prop} (G : GOk g F B mg mb) (h : globK g sc x i = true) (cx : Cx n B X A env sc sm ρ μ σ s.heap) (hv : mg x = some v) (hQ : Q v s) : wpAny (model prog w) A (eval (.Name x pos) env) Q E s := by
  refine ob03 (globK_split h) fun h1 h2 h3 => ?_
  refine Calls.Name_function_global cx.frm.kind (by rw [cx.kind]; exact h1) (Calls.loadGlobal_global (mg := mg) ?_ hv hQ) (nameOk_1 h2)
  rw [cx.frm.glob]; exact Ns_base cx.rel G.ng
theorem glob_none {x : Str} {i : GI} {pos : Pos} {v : Value} {Q : Value → Shared → Prop} (G : GOk g F B mg mb) (h : globK g sc x i = true) (cx : Cx n B X A env sc sm ρ μ σ s.heap) (hv : mg x = none ∧ mb x = some v) (hQ : Q v s) : wpAny (model prog w) A (eval (.Name x pos) env) Q E s := by
  refine ob03 (globK_split h) fun h1 h2 h3 => ?_
  refine Calls.Name_function_global cx.frm.kind (by rw [cx.kind]; exact h1) (Calls.loadGlobal_builtin (mg := mg) (mb := mb) ?_ hv.1 ?_ hv.2 hQ) (nameOk_1 h2)
  · rw [cx.frm.glob]; exact Ns_base cx.rel G.ng
  · rw [cx.frm.bl]; exact Ns_base cx.rel G.nb

theorem se_gconst {v : Val} {x : Str} {pos : Pos} (G : GOk g F B mg mb) (h : globK g sc x (.const v) = true) : SE n C prog w B sc sm (.gconst v) (.Name x pos) := fun {env ρ σ μ s A X Q} cx p => by
  have p : Post B X VRel μ s Q (.ok v σ) := p
  refine ob12 (G.const x v (globK_split h).2.2) fun u e r => ?_
  exact glob_some G h cx e (p.here' cx.rel (r.mono List.nil_prefix))

theorem star_cons {e : Expr} {r : List Expr} (h : isStar e = false) : starEach (e :: r) env = (false, eval e env) :: starEach r env := by
  cases e <;> first | rfl | exact (Bool.false_ne_true h.symm).elim

theorem ss_nil : SS n C prog w B sc sm .nil [] := fun {env ρ σ μ s A X Q} pos cx p => by
  have p : Post B X VsRel μ s Q (.ok [] σ) := p
  exact wpAny_items_nil (p.here' cx.rel rfl)
theorem ss_cons {a b : MExpr} {e : Expr} {r : List Expr} (hs : isStar e = false) (ha : SE n C prog w B sc sm a e) (hb : SS n C prog w B sc sm b r) : SS n C prog w B sc sm (.cons a b) (e :: r) := fun {env ρ σ μ s A X Q} pos cx p => by
  have p : Post B X VsRel μ s Q (((sem C a).E ρ σ).bind fun v h => ((sem C b).Es ρ h).bind fun vs h => .ok (v :: vs) h) := p
  refine wpAny_items_cons (ha.bind cx p fun v σ1 μ1 v' h1 tk cx1 _ hv q => hb.bind cx1 q fun vs σ2 μ2 vs' h2 tk2 cx2 st2 hvs q2 => ?_) (star_cons hs)
  exact Post.here' (s := { s with heap := h2, toks := tk2 }) cx2.rel q2 (VsRel.cons (hv.mono st2.pre) hvs)

noncomputable def NoStar (es : List Expr) : Prop := ∀ e ∈ es, isStar e = false
theorem noStar_back {es : List Expr} (h : NoStar es) {pos : Pos} : (backTo pos (starEach es env)).any (·.1) = false := by
  induction es with
  | nil => rfl
  | cons e r ih =>
    rw [star_cons (h e (.head _))]
    show (false || (backTo pos (starEach r env)).any (·.1)) = false
    rw [ih fun x hx => h x (.tail _ hx)]; rfl
theorem args_eq {f : Value} {es : List Expr} {pos : Pos} {Q : Args → Shared → Prop} (h : NoStar es) (k : wpAny (model prog w) A (spliced (backTo pos (starEach es env))) (fun vs s' => Q ⟨vs, []⟩ s') E s) :
    wpAny (model prog w) A (evalArgs f true (backTo pos (starEach es env)) []) Q E s := by
  cases es with
  | nil =>
    unfold evalArgs
    show wpAny (model prog w) A (spliced [] >>= _) Q E s
    refine wpAny_bind (wpAny_mono k (fun vs s' hq => ?_) fun _ _ h => h)
    refine wpAny_bind (wpAny_pure ?_)
    refine wpAny_holding ?_
    exact wpAny_bind (wpAny_pure (wpAny_bind (wpAny_pure (wpAny_pure hq))))
  | cons e r =>
    rw [star_cons (h e (.head _))] at k ⊢
    exact Calls.evalArgs_plain k

theorem se_call [Small n] {f : Nat} {args : MExpr} {x : Str} {es : List Expr} {p1 pos : Pos} (G : GOk g F B mg mb) (cs : CS n C prog w g F B) (h : globK g sc x (.fn f) = true) (ns : NoStar es) (ha : SS n C prog w B sc sm args es) :
    SE n C prog w B sc sm (.call f args) (.Call (.Name x p1) es [] pos) := fun {env ρ σ μ s A X Q} cx p => by
  have p : Post B X VRel μ s Q (((sem C args).Es ρ σ).bind fun vs h => C f vs h) := p
  refine ob12 (G.fn x f (globK_split h).2.2) fun a e fa => ?_
  have ⟨o, fd, body, names, d, ho, hd, _⟩ := fa
  refine wpAny_Call_Name_kw (glob_some G h cx e ?_)
  show wpAny (model prog w) A (callWith pos (.ref a) [] (backTo pos (starEach es env)) []) Q X.E s
  refine Calls.callWith_function (o := o) (fd := fd) (args_eq ns (ha.bind cx p fun vs σ1 μ1 ws h1 tk cx1 _ hvs q => ⟨⟨cx1.rel.base _ _ ho, hd⟩, ?_⟩))
  exact wpAny_call (cs f a vs ws μ1 σ1 _ A X Q fa cx1.ok.low cx1.rel cx1.frames cx1.fok hvs q)

end
end Mine


-- part MiniSG
set_option maxRecDepth 4000
set_option linter.unusedVariables false
namespace Mine
open PySem

section
variable {n : Nat} {C : Cf} {prog : Program} {w : World} {B : Heap} {sc : Scope} {sm : List (Str × Nat)} {g : GMap} {F : Nat → Option MFun} {mg mb : Str → Option Value}
variable {env : Env} {ρ : Rho} {σ : MH} {μ : List Addr} {s : Shared} {A : Around} {E : Value → Shared → Prop} {X : XE}

theorem cmpB_sound {op : CmpOp} {v u : Val} {v' u' : Value} {α β : Type} {V : List Addr → α → β → Prop} {Q : β → Shared → Prop} {Q' : Value → Bool → Shared → Prop} {f : Bool → MH → Res α} (ok : AOk n A) (r : HRel B μ σ s.heap) (hv : VRel μ v v') (hu : VRel μ u u')
    (p : Post B X V μ s Q ((Res.opt (cmpV σ op v u) σ).bind f))
    (k : ∀ t σ1 μ1 h1 tk, HRel B μ1 σ1 h1 → Step μ μ1 s.heap h1 → Post B X V μ1 { s with heap := h1, toks := tk } Q (f t σ1) → Q' (.bool t) t { s with heap := h1, toks := tk }) :
    wpAny (model prog w) A (compareOp op v' u') (fun c s₃ => wpAny (model prog w) A (truthy c) (fun t s₄ => Q' c t s₄) E s₃) E s := by
  refine cmp_sound (X := X) ok r hv hu ?_
  cases q : cmpV σ op v u with
  | none => rw [q] at p; exact p.elim
  | some t =>
    rw [q] at p
    intro μ' c h' tk r' st hc
    rw [show c = .bool t from hc]
    exact wpAny_truthy_bool (k t σ μ' h' tk r' st (Post.step (x := f t σ) p st))

theorem se_cmp2 {o₁ o₂ : CmpOp} {a b c : MExpr} {l r₁ r₂ : Expr} {pos : Pos} (hm : lastMarks [o₁, o₂] [r₁, r₂] = false) (ha : SE n C prog w B sc sm a l) (hb : SE n C prog w B sc sm b r₁) (hc : SE n C prog w B sc sm c r₂) :
    SE n C prog w B sc sm (.cmp2 o₁ o₂ a b c) (.Compare l [o₁, o₂] [r₁, r₂] pos) := fun {env ρ σ μ s A X Q} cx p => by
  refine PyProof.Rows.Compare_chain (ha.bind cx p fun v σ1 μ1 v' h1 tk cx1 _ hv q => PyProof.Rows.chain_link (hb.bind cx1 q fun u σ2 μ2 u' h2 tk2 cx2 st2 hu q2 =>
    cmpB_sound (Q' := fun c t s₃ => if t then wpAny (model prog w) A (compareChain pos u' [o₂] [eval r₂ env]) Q X.E s₃ else Q c s₃) cx2.ok cx2.rel (hv.mono st2.pre) hu q2 fun t σ3 μ3 h3 tk3 r3 st3 q3 => ?_)) hm
  cases t with
  | false => exact Post.here' (s := { s with heap := h3, toks := tk3 }) r3 q3 rfl
  | true => exact PyProof.Rows.chain_last (hc.bind (cx2.step st3 r3) q3 fun x σ4 μ4 x' h4 tk4 cx4 st4 hx q4 => cmp_sound cx4.ok cx4.rel (hu.mono (st3.pre.trans st4.pre)) hx q4)
theorem st_cmp2 {o₁ o₂ : CmpOp} {a b c : MExpr} {l r₁ r₂ : Expr} {pos : Pos} (hm : lastMarks [o₁, o₂] [r₁, r₂] = false) (ha : SE n C prog w B sc sm a l) (hb : SE n C prog w B sc sm b r₁) (hc : SE n C prog w B sc sm c r₂) :
    ST n C prog w B sc sm (.cmp2 o₁ o₂ a b c) (.Compare l [o₁, o₂] [r₁, r₂] pos) := fun {env ρ σ μ s A X Q} cx p => by
  refine PyProof.Rows.isTrue_chain (ha.bind cx p fun v σ1 μ1 v' h1 tk cx1 _ hv q => PyProof.Rows.test_link (hb.bind cx1 q fun u σ2 μ2 u' h2 tk2 cx2 st2 hu q2 =>
    cmpB_sound (Q' := fun c t s₃ => if t then wpAny (model prog w) A (testChain pos u' [o₂] [eval r₂ env]) Q X.E s₃ else Q false s₃) cx2.ok cx2.rel (hv.mono st2.pre) hu q2 fun t σ3 μ3 h3 tk3 r3 st3 q3 => ?_)) hm
  cases t with
  | false => exact Post.here' (s := { s with heap := h3, toks := tk3 }) r3 q3 rfl
  | true => exact PyProof.Rows.test_last (hc.bind (cx2.step st3 r3) q3 fun x σ4 μ4 x' h4 tk4 cx4 st4 hx q4 => cmpT_sound cx4.ok cx4.rel (hu.mono (st3.pre.trans st4.pre)) hx q4)

/-- a call of a built-in function or type by its name -/
theorem call_bi {x : Str} {i : GI} {v : Value} {es : List Expr} {p1 pos : Pos} {Q : Value → Shared → Prop} (G : GOk g F B mg mb) (h : globK g sc x i = true) (hv : mg x = none ∧ mb x = some v) (hk : (∃ T, v = .type T) ∨ (∃ T, v = .builtin T)) (cx : Cx n B X A env sc sm ρ μ σ s.heap) (ns : NoStar es)
    (k : wpAny (model prog w) A (spliced (backTo pos (starEach es env))) (fun vs s₁ => wpAny (model prog w) A (call v vs) Q E s₁) E s) : wpAny (model prog w) A (eval (.Call (.Name x p1) es [] pos) env) Q E s := by
  refine wpAny_Call_Name_kw (glob_none G h cx hv ?_)
  show wpAny (model prog w) A (callWith pos v [] (backTo pos (starEach es env)) []) Q E s
  rcases hk with ⟨T, rfl⟩ | ⟨T, rfl⟩
  · exact callWith_type (noStar_back ns) (args_eq ns k)
  · exact Calls.callWith_builtin (noStar_back ns) (args_eq ns k)

theorem biGI_ok {b : BI} (G : GOk g F B mg mb) {x : Str} (h : g.lookup x = some (biGI b)) : (mg x = none ∧ mb x = some (biFn b)) ∧ ((∃ T, biFn b = .type T) ∨ (∃ T, biFn b = .builtin T)) := by
  cases b
  · exact ⟨G.bi x _ h, .inr ⟨_, rfl⟩⟩
  · exact ⟨G.bi x _ h, .inr ⟨_, rfl⟩⟩
  · exact ⟨G.bi x _ h, .inr ⟨_, rfl⟩⟩
  · exact ⟨G.bi x _ h, .inr ⟨_, rfl⟩⟩
  · exact ⟨G.ty x _ h, .inl ⟨_, rfl⟩⟩
  · exact ⟨G.ty x _ h, .inl ⟨_, rfl⟩⟩
  · exact ⟨G.bi x _ h, .inr ⟨_, rfl⟩⟩
  · exact ⟨G.ty x _ h, .inl ⟨_, rfl⟩⟩

theorem se_bi [Small n] {b : BI} {args : MExpr} {x : Str} {es : List Expr} {p1 pos : Pos} (G : GOk g F B mg mb) (h : globK g sc x (biGI b) = true) (ns : NoStar es) (ha : SS n C prog w B sc sm args es) :
    SE n C prog w B sc sm (.bi b args) (.Call (.Name x p1) es [] pos) := fun {env ρ σ μ s A X Q} cx p => by
  refine ob02 (biGI_ok G (globK_split h).2.2) fun h1 h2 => ?_
  exact call_bi G h h1 h2 cx ns (ha.bind cx p fun vs σ1 μ1 ws h1 tk cx1 _ hvs q => bi_sound cx1.ok cx1.rel hvs q)

theorem one_spliced {e : Expr} {pos : Pos} {Q : List Value → Shared → Prop} (hs : isStar e = false) (k : wpAny (model prog w) A (eval e env) (fun v s₁ => Q [v] s₁) E s) : wpAny (model prog w) A (spliced (backTo pos (starEach [e] env))) Q E s :=
  wpAny_items_cons (wpAny_mono k (fun v s₁ q => wpAny_items_nil q) fun _ _ h => h) (star_cons hs)
theorem two_spliced {e e' : Expr} {pos : Pos} {Q : List Value → Shared → Prop} (hs : isStar e = false) (hs' : isStar e' = false) (k : wpAny (model prog w) A (eval e env) (fun v s₁ => wpAny (model prog w) A (eval e' env) (fun v' s₂ => Q [v, v'] s₂) E s₁) E s) : wpAny (model prog w) A (spliced (backTo pos (starEach [e, e'] env))) Q E s :=
  wpAny_items_cons (wpAny_mono k (fun v s₁ q => one_spliced hs' q) fun _ _ h => h) (star_cons hs)

theorem se_isinst {t : Ty} {a : MExpr} {x z : Str} {y : Expr} {p1 p2 pos : Pos} (G : GOk g F B mg mb) (h : globK g sc x (.bi "isinstance") = true) (hz : globK g sc z (.ty (tyName t)) = true) (hs : isStar y = false) (ha : SE n C prog w B sc sm a y) :
    SE n C prog w B sc sm (.isinst t a) (.Call (.Name x p1) [y, .Name z p2] [] pos) := fun {env ρ σ μ s A X Q} cx p => by
  refine call_bi G h (G.bi x _ (globK_split h).2.2) (.inr ⟨_, rfl⟩) cx (fun e he => ?_) (two_spliced hs rfl (ha.bind cx p fun v σ1 μ1 v' h1 tk cx1 _ hv q => glob_none G hz cx1 (G.ty z _ (globK_split hz).2.2) (isinst_sound cx1.rel hv q)))
  rcases List.mem_cons.mp he with rfl | he
  · exact hs
  · rw [List.mem_singleton.mp he]; rfl

theorem se_lst {a : MExpr} {es : List Expr} {pos : Pos} (ha : SS n C prog w B sc sm a es) : SE n C prog w B sc sm (.lst a) (.List es pos) := fun {env ρ σ μ s A X Q} cx p =>
  wpAny_List (ha.bind cx p fun vs σ1 μ1 ws h1 tk cx1 _ hvs q => ⟨by
    have := newList_len q; rw [hvs.length]; exact Nat.le_trans this (by decide), Post.newList (s := { s with heap := h1, toks := tk }) (n := 0) cx1.rel q (push_keep _ _) (Heap.get?_push_size _ rfl) hvs⟩)
theorem se_tup {a : MExpr} {es : List Expr} {k : Nat} {pos : Pos} (ha : SS n C prog w B sc sm a es) : SE n C prog w B sc sm (.tup a) (.Tuple es k pos) := fun {env ρ σ μ s A X Q} cx p =>
  wpAny_Tuple (ha.bind cx p fun vs σ1 μ1 ws h1 tk cx1 _ hvs q => by
    by_cases hl : vs.length ≤ lim
    · rw [if_pos hl] at q
      exact ⟨by rw [hvs.length]; exact Nat.le_trans hl (by decide), Post.new (s := { s with heap := h1, toks := tk }) cx1.rel q (push_keep _ _) ⟨hl, ws, 0, Heap.get?_push_size _ rfl, hvs.mono (List.prefix_append _ _)⟩⟩
    · rw [if_neg hl] at q; exact q.elim)

theorem se_sub {a b : MExpr} {l r : Expr} {pos : Pos} (hs : isSlice r = false) (ha : SE n C prog w B sc sm a l) (hb : SE n C prog w B sc sm b r) : SE n C prog w B sc sm (.sub a b) (.Subscript l r pos) := fun {env ρ σ μ s A X Q} cx p =>
  PyProof.Rows.Subscript_ (ha.bind cx p fun v σ1 μ1 v' h1 tk cx1 _ hv q => hb.bind cx1 q fun u σ2 μ2 u' h2 tk2 cx2 st2 hu q2 => sub_sound cx2.rel (hv.mono st2.pre) hu q2 (by
    cases r <;> first | rfl | exact (Bool.false_ne_true hs.symm).elim))

theorem base_ok {o : Expr} {name : Str} {whole : Sem Value} (h : baseOk o = true) : attributeBase o name env whole = whole := by
  cases o with
  | Call f es kw p =>
    cases f with
    | Name x q =>
      cases es with
      | nil =>
        cases kw with
        | nil => exact (Bool.false_ne_true h).elim
        | cons => rfl
      | cons => rfl
    | _ => rfl
  | _ => rfl

theorem me_type {v : Val} {v' : Value} (r : HRel B μ σ s.heap) (hv : VRel μ v v') (h : isLV σ v = true) : s.TypeIs v' "list" ∧ ∀ a, v' = .ref a → ∃ ob, s.heap.get? a = some ob ∧ ob.dict = none := by
  cases v with
  | ref i =>
    refine ob12 hv fun a ea ez0x2 => ?_; clear hv; subst ez0x2
    have h : isListAt σ i = true := h
    unfold isListAt at h
    split at h
    · rename_i xs hz
      refine ob02 (r.at ea hz) fun _ wz1 => ?_; refine ob22 wz1 fun ys k gg _ => ?_; clear wz1
      exact ⟨⟨_, gg, rfl⟩, fun b q => by cases q; exact ⟨_, gg, rfl⟩⟩
    · cases h
  | _ => cases h
theorem me_slot {m : Me} {v : Val} {v' : Value} (r : HRel B μ σ s.heap) (hv : VRel μ v v') (h : meOk σ m v = true) : ∃ T, PlainAttrs T ∧ Slot T (meName m) (meFn m) ∧ typeOf (.builtin (meFn m)) = pure (.type "method_descriptor") ∧ s.TypeIs v' T ∧ ∀ a, v' = .ref a → ∃ ob, s.heap.get? a = some ob ∧ ob.dict = none := by
  cases m with
  | append => exact ⟨_, F.plainAttrs_list, F.slot_list_append, F.type_list_append, me_type r hv h⟩
  | pop => exact ⟨_, F.plainAttrs_list, F.slot_list_pop, F.type_list_pop, me_type r hv h⟩
  | insert => exact ⟨_, F.plainAttrs_list, F.slot_list_insert, F.type_list_insert, me_type r hv h⟩

theorem few_ok {es : List Expr} {pos : Pos} (ns : NoStar es) (hl : es.length < 20) : ((backTo pos (starEach es env)).all (fun x => !x.1) && (backToKw pos (keywordEach [] env)).all (fun x => x.1.isSome)
      && decide (es.length + ([] : List Keyword).length + (if ([] : List Keyword).isEmpty then 0 else 1) < 30)) = true := by
  have h1 := noStar_back (env := env) ns (pos := pos)
  have h2 : (backTo pos (starEach es env)).all (fun x => !x.1) = true := by
    rw [List.all_eq_true]; intro x hx
    rw [List.any_eq_false] at h1
    simpa using h1 x hx
  rw [h2]
  show (true && true && decide (es.length + 0 + 0 < 30)) = true
  simp only [Bool.true_and, decide_eq_true_eq]
  (first | exact om97 hl | omega)

theorem se_meth {m : Me} {o args : MExpr} {eo : Expr} {es : List Expr} {apos pos : Pos} (hb : baseOk eo = true) (hline : (apos.endLine == pos.line) = true) (hl : es.length < 20) (ns : NoStar es) (ho : SE n C prog w B sc sm o eo) (ha : SS n C prog w B sc sm args es) :
    SE n C prog w B sc sm (.meth m o args) (.Call (.Attribute eo (meName m) apos) es [] pos) := fun {env ρ σ μ s A X Q} cx p => by
  refine wpAny_Call_method_late (base_ok hb) (few_ok ns hl) hline rfl (ho.bind cx p fun v σ1 μ1 v' h1 tk cx1 _ hv q => ?_)
  by_cases hm : meOk σ1 m v = true
  · rw [if_pos hm] at q
    refine ob15 (me_slot (s := { s with heap := h1, toks := tk }) cx1.rel hv hm) fun T k0 k1 k2 t1 t2 => ?_
    refine ⟨T, meFn m, k0, k1, k2, t1, t2, ?_⟩
    exact Calls.callWith_builtin (noStar_back ns) (args_eq ns (ha.bind cx1 q fun vs σ2 μ2 ws h2 tk2 cx2 st2 hvs q2 => me_sound cx2.ok cx2.rel (hv.mono st2.pre) hvs q2))
  · rw [if_neg hm] at q; exact q.elim

end
end Mine


-- part MiniSH
set_option maxRecDepth 4000
set_option linter.unusedVariables false
namespace Mine
open PySem

section
variable (n : Nat) (C : Cf) (prog : Program) (w : World) (B : Heap) (sc : Scope) (sm : List (Str × Nat))
noncomputable def SO (m : MExpr) (x : Option Expr) : Prop :=
  ∀ {env ρ σ μ} {s : Shared} {A : Around} {X : XE} {Q : Value → Shared → Prop}, Cx n B X A env sc sm ρ μ σ s.heap → Post B X VRel μ s Q (((sem C m).Es ρ σ).bind fun vs h => Res.opt (optOf vs) h) → wpAny (model prog w) A (evalPart x env) Q X.E s
end

section
variable {n : Nat} {C : Cf} {prog : Program} {w : World} {B : Heap} {sc : Scope} {sm : List (Str × Nat)} {g : GMap} {F : Nat → Option MFun} {mg mb : Str → Option Value}
variable {env : Env} {ρ : Rho} {σ : MH} {μ : List Addr} {s : Shared} {A : Around} {E : Value → Shared → Prop} {X : XE}

theorem so_nil : SO n C prog w B sc sm .nil none := fun {env ρ σ μ s A X Q} cx p => by
  have p : Post B X VRel μ s Q (.ok .none σ) := p
  exact wpAny_pure (p.here' cx.rel rfl)
theorem so_cons {a : MExpr} {e : Expr} (ha : SE n C prog w B sc sm a e) : SO n C prog w B sc sm (.cons a .nil) (some e) := fun {env ρ σ μ s A X Q} cx p => by
  have p : Post B X VRel μ s Q ((((sem C a).E ρ σ).bind fun v h => (Res.ok [] h).bind fun vs h => .ok (v :: vs) h).bind fun vs h => Res.opt (optOf vs) h) := p
  rw [Res.bind_assoc] at p
  show wpAny (model prog w) A (eval e env) Q X.E s
  exact ha.bind cx p fun v σ1 μ1 v' h1 tk cx1 _ hv q => Post.here' (s := { s with heap := h1, toks := tk }) (v := v) cx1.rel q hv
theorem SO.bind {α β : Type} {m : MExpr} {x : Option Expr} {V : List Addr → α → β → Prop} {Q : β → Shared → Prop} {Q' : Value → Shared → Prop} {f : Val → MH → Res α} (h : SO n C prog w B sc sm m x) (cx : Cx n B X A env sc sm ρ μ σ s.heap)
    (p : Post B X V μ s Q ((((sem C m).Es ρ σ).bind fun vs h => Res.opt (optOf vs) h).bind f))
    (k : ∀ v σ1 μ1 v' h1 tk, Cx n B X A env sc sm ρ μ1 σ1 h1 → Step μ μ1 s.heap h1 → VRel μ1 v v' → Post B X V μ1 { s with heap := h1, toks := tk } Q (f v σ1) → Q' v' { s with heap := h1, toks := tk }) : wpAny (model prog w) A (evalPart x env) Q' X.E s :=
  h cx (p.bindR fun v σ1 μ1 v' h1 tk r st hv q => k v σ1 μ1 v' h1 tk (cx.step st r) st hv q)

theorem slice_sound {v lo hi : Val} {v' lo' hi' : Value} {value slice : Expr} {Q : Value → Shared → Prop} (r : HRel B μ σ s.heap) (hv : VRel μ v v') (hlo : VRel μ lo lo') (hhi : VRel μ hi hi') (p : Post B X VRel μ s Q (sliceV σ v lo hi))
    (hs : ∀ i, subscripted slice false v' i = operate [i, v'] (getItem v' i)) :
    wpAny (model prog w) A (PyProof.Rows.subscriptTail value slice v' (.ref s.heap.objs.size)) Q E { s with heap := s.heap.push { cls := .type "slice", data := .fields #[lo', hi', .none] } } := by
  cases v with
  | ref i =>
    cases hq : σ[i]? with
    | none => simp only [sliceV, hq] at p; exact p.elim
    | some o =>
      cases o with
      | list xs =>
        simp only [sliceV, hq] at p
        unfold sliceL at p
        split at p
        · rename_i a b ha hb; exact slice_list_sound r hq hv hlo hhi ha hb p hs
        · exact p.elim
      | _ => simp only [sliceV, hq] at p; exact p.elim
  | _ => exact p.elim

theorem se_slice {a lo hi : MExpr} {l : Expr} {x y : Option Expr} {p1 pos : Pos} (ha : SE n C prog w B sc sm a l) (hlo : SO n C prog w B sc sm lo x) (hhi : SO n C prog w B sc sm hi y) :
    SE n C prog w B sc sm (.slice a lo hi) (.Subscript l (.Slice x y none p1) pos) := fun {env ρ σ μ s A X Q} cx p =>
  PyProof.Rows.Subscript_ (ha.bind cx p fun v σ1 μ1 v' h1 tk cx1 _ hv q => wpAny_Slice (hlo.bind cx1 q fun u σ2 μ2 u' h2 tk2 cx2 st2 hu q2 => hhi.bind cx2 q2 fun z σ3 μ3 z' h3 tk3 cx3 st3 hz q3 =>
    wpAny_pure (slice_sound (s := { s with heap := h3, toks := tk3 }) cx3.rel (hv.mono (st2.pre.trans st3.pre)) (hu.mono st3.pre) hz q3 fun i => rfl)))

theorem rangeSize_of (a b : Int) : Builtin.Range.rangeSize a b 1 = ((b - a).toNat : Int) := by
  unfold Builtin.Range.rangeSize
  rw [if_pos (by (first | exact om102 | omega))]
  split
  · rw [Int.ediv_one]; (first | exact om103 ‹_› | omega)
  · (first | exact om104 ‹_› | omega)

theorem range_iter {a b : Int} {r : Addr} {t u v : Tok} {Q : Value → Shared → Prop} (rel : HRel B μ σ s.heap) (hr : IsRange s.heap r a b 1 t u v) (hok : rangeOk a b = true)
    (p : PostI prog w B X μ s Q (.ok (rangeVals a (b - a).toNat, fun _ => true) σ)) : wpAny (model prog w) A (pyIter (.ref r)) Q E s := by
  have hlim : lim = 1048576 := rfl
  unfold rangeOk at hok
  simp only [Bool.and_eq_true, decide_eq_true_eq] at hok
  refine wpAny_pyIter_range hr ?_ ?_
  · exact small_one (by omega) (by omega) (by omega) (by omega)
  · refine p μ _ (fun i h => IsRangeIter h s.heap.objs.size (a + (i : Nat)) (((b - a).toNat : Int) - (i : Nat)) 1) _ _ (rel.grow (push_keep _ _)) (Step.grow (push_keep _ _)) rel.fresh rel.freshB (size_none _) iter_range ?_ rfl (by rw [rangeVals_length]; (first | exact om109 hok | omega))
    show (s.heap.push _).get? s.heap.objs.size = _
    rw [Heap.get?_push_size _ rfl, rangeSize_of]
    simp

theorem call_range1 {v : Val} {v' : Value} {Q : Value → Shared → Prop} (rel : HRel B μ σ s.heap) (hv : VRel μ v v') (p : PostI prog w B X μ s Q (irangeV v σ)) : wpAny (model prog w) A (call (.type "range") [v']) (fun x s₁ => wpAny (model prog w) A (pyIter x) Q E s₁) E s := by
  unfold irangeV at p
  split at p
  · rename_i k
    refine ob11 hv fun t ez1x1 => ?_; clear hv; subst ez1x1
    split at p
    · rename_i hok
      refine call_range_1 (range_iter (X := X) (s := { s with heap := s.heap.push _, toks := s.toks + 1 + 1 }) (rel.grow (push_keep _ _)) (Heap.get?_push_size _ rfl) hok ?_)
      rw [Int.sub_zero]
      intro μ' I At h' tk r' st a1 a2 a3 a4 a5 a6 a7
      refine p μ' I At h' tk r' ((Step.grow (push_keep _ _)).trans st) a1 a2 ?_ a4 a5 a6 a7
      cases e : s.heap.get? I with
      | none => rfl
      | some o => rw [Heap.get?_push_of_some _ e] at a3; cases a3
    · exact p.elim
  · exact p.elim
theorem PostI.step {Q : Value → Shared → Prop} {x : Res Src} {μ' : List Addr} {h' : Heap} {tk : Nat} (p : PostI prog w B X μ s Q x) (st : Step μ μ' s.heap h') : PostI prog w B X μ' { s with heap := h', toks := tk } Q x := by
  cases x with
  | ok v σ' =>
    obtain ⟨xs, ck⟩ := v
    intro μ'' I At h'' tk' r st' a1 a2 a3 a4 a5 a6 a7
    refine p μ'' I At h'' tk' r (st.trans st') a1 a2 ?_ a4 a5 a6 a7
    cases e : s.heap.get? I with
    | none => rfl
    | some o =>
      by_cases hm : I ∈ μ
      · exact absurd (st.pre.trans st'.pre |>.subset hm) a1
      · refine ob12 (look_elim (st.keep I _ hm (look_of e))) fun o' e' _ => ?_; rw [e'] at a3; cases a3
  | exc c h => exact PostX.step p st
  | stuck => exact p
theorem PostI.bindR {γ δ : Type} {W : List Addr → γ → δ → Prop} {Q : Value → Shared → Prop} {Q' : δ → Shared → Prop} {r : Res γ} {f : γ → MH → Res Src} (p : PostI prog w B X μ s Q (r.bind f))
    (k : ∀ v σ1 μ1 v' h1 tk, HRel B μ1 σ1 h1 → Step μ μ1 s.heap h1 → W μ1 v v' → PostI prog w B X μ1 { s with heap := h1, toks := tk } Q (f v σ1) → Q' v' { s with heap := h1, toks := tk }) : Post B X W μ s Q' r := by
  cases r with
  | ok v σ1 => intro μ1 v' h1 tk r1 st hv; exact k v σ1 μ1 v' h1 tk r1 st hv (PostI.step (x := f v σ1) p st)
  | exc c h => exact p
  | stuck => exact p
theorem SE.bindI {m : MExpr} {e : Expr} {Q Q' : Value → Shared → Prop} {f : Val → MH → Res Src} (h : SE n C prog w B sc sm m e) (cx : Cx n B X A env sc sm ρ μ σ s.heap)
    (p : PostI prog w B X μ s Q (((sem C m).E ρ σ).bind f))
    (k : ∀ v σ1 μ1 v' h1 tk, Cx n B X A env sc sm ρ μ1 σ1 h1 → Step μ μ1 s.heap h1 → VRel μ1 v v' → PostI prog w B X μ1 { s with heap := h1, toks := tk } Q (f v σ1) → Q' v' { s with heap := h1, toks := tk }) : wpAny (model prog w) A (eval e env) Q' X.E s :=
  h cx (p.bindR fun v σ1 μ1 v' h1 tk r st hv q => k v σ1 μ1 v' h1 tk (cx.step st r) st hv q)

theorem noStar_one {e : Expr} (h : isStar e = false) : NoStar [e] := fun x hx => by rw [List.mem_singleton.mp hx]; exact h
theorem noStar_two {e e' : Expr} (h : isStar e = false) (h' : isStar e' = false) : NoStar [e, e'] := fun x hx => by
  rcases List.mem_cons.mp hx with rfl | hx
  · exact h
  · rw [List.mem_singleton.mp hx]; exact h'

theorem si_range {a : MExpr} {x : Str} {y : Expr} {p1 pos : Pos} (G : GOk g F B mg mb) (h : globK g sc x (.ty "range") = true) (hs : isStar y = false) (ha : SE n C prog w B sc sm a y) : SI n C prog w B sc sm (.irange a) (.Call (.Name x p1) [y] [] pos) :=
  ⟨fun _ _ => rfl, fun {env ρ σ μ s A X Q} cx p => call_bi G h (G.ty x _ (globK_split h).2.2) (.inl ⟨_, rfl⟩) cx (noStar_one hs) (one_spliced hs (ha.bindI cx p fun v σ1 μ1 v' h1 tk cx1 _ hv q => call_range1 cx1.rel hv q))⟩
theorem src_list {i : Nat} {a : Addr} {xs : List Val} {ck : MH → Bool} {Q : Value → Shared → Prop} (rel : HRel B μ σ s.heap) (ea : μ[i]? = some a) (hq : seqOf σ i = some (true, xs)) (hck : ∀ σ', ck σ' = true → seqOf σ' i = some (true, xs)) (h0 : ck σ = true)
    (p : PostI prog w B X μ s Q (.ok (xs, ck) σ)) : wpAny (model prog w) A (pyIter (.ref a)) Q E s := by
  refine ob02 (rel.seq ea hq) fun l wz3 => ?_; refine ob22 wz3 fun ys m hy gg => ?_; clear wz3
  refine wpAny_pyIter_list (isList_of gg) (p μ _ (fun j h => h.IsListIter s.heap.objs.size a j) _ _ (rel.grow (push_keep _ _)) (Step.grow (push_keep _ _)) rel.fresh rel.freshB (size_none _) (iter_list ea hck) ⟨_, Heap.get?_push_size _ rfl, rfl, rfl⟩ h0 l)

theorem si_obj {a : MExpr} {e : Expr} (hset : ∀ env x, foldedSetIterable e env x = pure x) (ha : SE n C prog w B sc sm a e) : SI n C prog w B sc sm (.iobj a) e :=
  ⟨hset, fun {env ρ σ μ s A X Q} cx p => ha.bindI cx p fun v σ1 μ1 v' h1 tk cx1 _ hv q => by
    cases v with
    | ref i =>
      refine ob12 hv fun ad ea ez4x2 => ?_; clear hv; subst ez4x2
      cases hx : σ1[i]? with
      | none => simp only [srcOf, hx] at q; exact q.elim
      | some o =>
        cases o with
        | list xs =>
          simp only [srcOf, hx] at q
          exact src_list (s := { s with heap := h1, toks := tk }) cx1.rel ea (by unfold seqOf; rw [hx]) (fun σ' c => by unfold seqOf; rw [of_decide_eq_true c]) (decide_eq_true hx) q
        | ro xs =>
          simp only [srcOf, hx] at q
          exact src_list (s := { s with heap := h1, toks := tk }) cx1.rel ea (by unfold seqOf; rw [hx]) (fun σ' c => by unfold seqOf; rw [of_decide_eq_true c]) (decide_eq_true hx) q
        | _ => simp only [srcOf, hx] at q; exact q.elim
    | _ => exact q.elim⟩

end
end Mine


-- part MiniCls
set_option maxRecDepth 4000
set_option linter.unusedVariables false
namespace Mine
open PySem

theorem attr_obj : ∀ k, k < 3 → typeLookup (.type "object") (attrName k) = pure none := fun k hk => by
  have : k = 0 ∨ k = 1 ∨ k = 2 := by (first | exact om110 hk | omega)
  rcases this with rfl | rfl | rfl
  · rw [typeLookup_type, builtinLookup_eq_fast]; kernel_rfl
  · rw [typeLookup_type, builtinLookup_eq_fast]; kernel_rfl
  · rw [typeLookup_type, builtinLookup_eq_fast]; kernel_rfl
theorem obj_lookup (nm : Str) : ∃ y, typeLookup (.type "object") nm = pure y := by
  rw [typeLookup_type]
  have : ∃ y, builtinLookup "object" nm = some y := by
    unfold builtinLookup
    exact ⟨_, rfl⟩
  refine ob11 this fun y e => ?_; clear this
  rw [e]; exact ⟨y, rfl⟩

theorem attrName_inj {k j : Nat} (hk : k < 3) (hj : j < 3) (e : attrName j = attrName k) : j = k := by
  have h1 : k = 0 ∨ k = 1 ∨ k = 2 := by (first | exact om110 hk | omega)
  have h2 : j = 0 ∨ j = 1 ∨ j = 2 := by (first | exact om110 hj | omega)
  rcases h1 with rfl | rfl | rfl <;> rcases h2 with rfl | rfl | rfl <;> first | rfl | (exact absurd e (by decide +kernel))
theorem isTab_elim {g : GMap} (h : isTab (g.lookup tabNm) = true) : ∃ f, g.lookup tabNm = some (.tab f) := by
  unfold isTab at h
  split at h
  · rename_i f e; exact ⟨f, e⟩
  · cases h

section
variable {n : Nat} {C : Cf} {prog : Program} {w : World} {B : Heap} {sc : Scope} {sm : List (Str × Nat)} {g : GMap} {F : Nat → Option MFun} {mg mb : Str → Option Value}
variable {env : Env} {ρ : Rho} {σ : MH} {μ : List Addr} {s : Shared} {A : Around} {E : Value → Shared → Prop} {X : XE}

theorem handed {v : Val} {v' : Value} (h : VRel μ v v') : handedOut v' = pure v' := by
  cases v with
  | none => rw [show v' = _ from h]; rfl
  | bool b => rw [show v' = _ from h]; rfl
  | int i => refine ob11 h fun t ez1x1 => ?_; clear h; subst ez1x1; rfl
  | str x => refine ob02 h fun _ wz0 => ?_; clear h; refine ob11 wz0 fun t ez2x1 => ?_; clear wz0; subst ez2x1; rfl
  | ref i => refine ob12 h fun a _ ez1x2 => ?_; clear h; subst ez1x2; rfl

/-- what an instance of ours is -/
theorem HRel.inst {h : Heap} (r : HRel B μ σ h) {i : Nat} {a : Addr} {fs : List (Option Val)} (e : μ[i]? = some a) (q : σ[i]? = some (.inst fs)) : ∃ dx mA, σ[i + 1]? = some .aux ∧ μ[i + 1]? = some dx ∧ dx ≠ a ∧ h.Inst a (tabK B) mA ∧ (∀ o, h.get? a = some o → o.dict = some dx) ∧
    (∀ (k : Nat) (v : Val), k < 3 → fs[k]? = some (some v) → ∃ w, mA (attrName k) = some w ∧ VRel μ v w) ∧ (∀ y, mA y ≠ none → y ∈ [attrName 0, attrName 1, attrName 2]) := by
  refine ob02 (r.ins i a fs e q) fun h1 wz2 => ?_; refine ob12 wz2 fun dx h2 wz3 => ?_; clear wz2; obtain ⟨o, mA, i1, i2, i3, i4, i5, i6, i7, i8⟩ := wz3
  exact ⟨dx, mA, h1, h2, i5, ⟨o, i1, i2, i4, .inr ⟨dx, i3, i5, i6⟩⟩, fun o' e' => by rw [i1] at e'; cases e'; exact i3, i7, i8⟩

theorem attr_sound {k : Nat} {v : Val} {v' : Value} {expr : Bool} {Q : Value → Shared → Prop} {f : Nat} (T : TabOk g F B f) (hk : k < 3) (r : HRel B μ σ s.heap) (hv : VRel μ v v') (p : Post B X VRel μ s Q (attrV k v σ)) : wpAny (model prog w) A (getAttr v' (attrName k) expr) Q E s := by
  refine ob27 T fun N mN TC _ t1 t2 t3 t4 _ => ?_; clear T
  cases v with
  | ref i =>
    refine ob12 hv fun a ea ez4x2 => ?_; clear hv; subst ez4x2
    have p : Post B X VRel μ s Q (match σ[i]? with | some (.inst fs) => fieldV σ fs[k]? | some (.list _) => .stuck | some (.ro _) => .stuck | some (.tup _) => .stuck | some .aux => .stuck | none => .stuck) := p
    cases q : σ[i]? with
    | none => rw [q] at p; exact p.elim
    | some o =>
      rw [q] at p
      cases o with
      | inst fs =>
        have p : Post B X VRel μ s Q (fieldV σ fs[k]?) := p
        cases qf : fs[k]? with
        | none => rw [qf] at p; exact p.elim
        | some x =>
          rw [qf] at p
          cases x with
          | none => exact p.elim
          | some u =>
            have p : Post B X VRel μ s Q (.ok u σ) := p
            refine ob27 (r.inst ea q) fun dx mA _ _ _ I _ i7 _ => ?_
            refine ob12 (i7 k u hk qf) fun w' e1 e2 => ?_
            refine ob11 (clsObj (TC.keeps fun b o e => r.base b o e)) fun xr hC => ?_
            obtain ⟨hh, gg, d, t, os⟩ := s
            exact load_attr hC (TC.keeps fun b o e => r.base b o e).ns t1 (t4 k hk) (attr_obj k hk) I e1 (handed e2) (p.here (s := ⟨hh, gg, d, t, os⟩) r e2)
      | _ => exact p.elim
  | _ => exact p.elim

theorem se_attr {o : MExpr} {k : Nat} {x : Str} {px pos : Pos} (G : GOk g F B mg mb) (ht : isTab (g.lookup tabNm) = true) (hk : k < 3) (ho : SE n C prog w B sc sm o (.Name x px)) : SE n C prog w B sc sm (.attr o k) (.Attribute (.Name x px) (attrName k) pos) := fun {env ρ σ μ s A X Q} cx p => by
  refine ob11 (isTab_elim ht) fun f hf => ?_
  rw [arm_eval_Attribute]
  refine wpAny_bind ?_
  show wpAny (model prog w) A (eval (.Name x px) env) _ X.E s
  refine ho.bind cx p fun v σ1 μ1 v' h1 tk cx1 _ hv q => wpAny_bind (wpAny_standAt (wpAny_bind (wpAny_holding (wpAny_mono (attr_sound (G.tab f hf).2 hk cx1.rel hv q) (fun u s' hq => ?_) fun _ _ h => h))))
  show wpAny (model prog w) A ((pure () : Sem Unit) >>= fun _ => pure u) Q X.E s'
  exact wpAny_bind (wpAny_pure (wpAny_pure hq))

theorem isIV_elim {h : MH} {v : Val} (e : isIV h v = true) : ∃ i fs, v = .ref i ∧ h[i]? = some (.inst fs) := by
  cases v with
  | ref i =>
    have e : (match h[i]? with | some (.inst _) => true | some (.list _) => false | some (.ro _) => false | some (.tup _) => false | some .aux => false | none => false) = true := e
    cases q : h[i]? with
    | none => rw [q] at e; cases e
    | some o =>
      rw [q] at e
      cases o with
      | inst fs => exact ⟨i, fs, rfl, q⟩
      | _ => cases e
  | _ => cases e

theorem call_own {o : Expr} {name : Str} {apos pos : Pos} {args : List Expr} {Q : Value → Shared → Prop} (hbase : attributeBase o name env (eval o env) = eval o env)
    (hfew : ((backTo pos (starEach args env)).all (fun x => !x.1) && (backToKw pos (keywordEach [] env)).all (fun x => x.1.isSome) && decide (args.length + ([] : List Keyword).length + (if ([] : List Keyword).isEmpty then 0 else 1) < 30)) = true)
    (hline : (apos.endLine == pos.line) = true)
    (h : wpAny (model prog w) A (eval o env) (fun ov s₁ => ∀ pl, wpAny (model prog w) A (getMethod ov name pl) (fun fx s₂ => wpAny (model prog w) A (callWith pos fx.1 fx.2 (backTo pos (starEach args env)) []) Q E s₂) E s₁) E s) :
    wpAny (model prog w) A (eval (.Call (.Attribute o name apos) args [] pos) env) Q E s := by
  rw [arm_eval_Call, hbase]
  refine wpAny_bind (wpAny_mono h (fun ov s₁ h₁ => ?_) fun _ _ e => e)
  refine wpAny_bind (wpAny_standAt ?_)
  have hform : methodCallForm (args.length + ([] : List Keyword).length) (backTo pos (starEach args env)) (backToKw pos (keywordEach [] env)) = true := hfew
  have hpos : methodCallPos true o env apos pos = pure pos := by unfold methodCallPos; simp [hline]
  unfold methodCall
  rw [hform]
  refine wpAny_bind (wpAny_holding (wpAny_mono (h₁ _) (fun fx s₂ h₂ => ?_) fun _ _ e => e))
  exact wpAny_bind (wpAny_of_eq hpos h₂)

theorem se_mcall [Small n] {f : Nat} {o args : MExpr} {x nm : Str} {es : List Expr} {px apos pos : Pos} (G : GOk g F B mg mb) (cs : CS n C prog w g F B) (ht : isTab (g.lookup tabNm) = true) (hm : g.lookup (methKey nm) = some (.meth f)) (hn : nm ∉ [attrName 0, attrName 1, attrName 2])
    (hline : (apos.endLine == pos.line) = true) (hl : es.length < 20) (ns : NoStar es) (ho : SE n C prog w B sc sm o (.Name x px)) (ha : SS n C prog w B sc sm args es) : SE n C prog w B sc sm (.mcall f o args) (.Call (.Attribute (.Name x px) nm apos) es [] pos) := fun {env ρ σ μ s A X Q} cx p => by
  refine ob11 (isTab_elim ht) fun f0 hf => ?_
  refine ob27 ((G.tab f0 hf).2) fun N mN TC _ t1 t2 t3 t4 t5 => ?_
  refine ob24 (t5 nm f hm) fun a' oF m1 m2 m3 fa => ?_
  have ⟨oF', fd, body, names, d, ho', hd, _⟩ := fa
  refine call_own rfl (few_ok ns hl) hline (ho.bind cx p fun v σ1 μ1 v' h1 tk cx1 _ hv q pl => ?_)
  by_cases hi : isIV σ1 v = true
  · rw [if_pos hi] at q
    refine ob22 (isIV_elim hi) fun i fs ez10x2 qi => ?_; subst ez10x2
    have hv' := hv
    refine ob12 hv fun a ea ez11x2 => ?_; clear hv; subst ez11x2
    refine ob27 (cx1.rel.inst ea qi) fun dx mA _ _ _ I _ _ i8 => ?_
    have kb : ∀ b o, B.get? b = some o → h1.get? b = some o := cx1.rel.base
    refine ob11 (clsObj (TC.keeps kb)) fun xr hC => ?_
    refine ob11 (obj_lookup nm) fun y hy => ?_
    refine method_of hC (TC.keeps kb).ns t1 t2 m1 (kb _ _ m2) m3 hy I (Classical.byContradiction fun z => hn (i8 nm z)) ?_
    refine Calls.callWith_function (o := oF') (fd := fd) (args_eq ns (ha.bind cx1 q fun vs σ2 μ2 ws h2 tk2 cx2 st2 hvs q2 => ⟨⟨cx2.rel.base _ _ ho', hd⟩, ?_⟩))
    exact wpAny_call (cs f a' (.ref i :: vs) (.ref a :: ws) μ2 σ2 _ A X Q fa cx2.ok.low cx2.rel cx2.frames cx2.fok (.cons (hv'.mono st2.pre) hvs) q2)
  · rw [if_neg hi] at q; exact q.elim
end
end Mine


-- part MiniCls2
set_option maxRecDepth 4000
set_option linter.unusedVariables false
namespace Mine
open PySem

/-- an instance of ours changes -/
theorem HRel.updI {B : Heap} {μ : List Addr} {σ : MH} {h h' : Heap} (r : HRel B μ σ h) {i : Nat} {a dx : Addr} {fs fs' : List (Option Val)} (e : μ[i]? = some a) (q : σ[i]? = some (.inst fs)) (ed : μ[i + 1]? = some dx) (qd : σ[i + 1]? = some .aux)
    (k : ∀ b x, b ≠ a → b ≠ dx → h.get? b = some x → h'.get? b = some x) (ho : InstR B μ h' a dx fs') : HRel B μ (σ.set i (.inst fs')) h' := by
  have nb := r.new i a _ e q rfl
  have nd := r.new (i + 1) dx _ ed qd rfl
  have ⟨oa, _, ga, _, _, _, _, ⟨od, _, _, gd, _⟩, _⟩ := ho
  have li : i < σ.length := (List.getElem?_eq_some_iff.mp q).1
  refine ⟨by simp [r.len], r.inj, fun b x y => k b x (fun z => by rw [z, nb] at y; cases y) (fun z => by rw [z, nd] at y; cases y) (r.base b x y), fun j x p u v => ?_, fun j x p u v w => ?_, fun j x fs2 u v => ?_⟩
  · by_cases z : i = j
    · subst z
      rw [List.getElem?_set_self li] at v
      cases v; rw [e] at u; cases u; exact ⟨_, ga⟩
    · rw [List.getElem?_set_ne z] at v
      by_cases z2 : i + 1 = j
      · subst z2; rw [qd] at v; cases v; rw [ed] at u; cases u; exact ⟨_, gd⟩
      · exact (r.obj j x p u v).mono (List.prefix_refl _) fun ob y => k x ob (fun c => z (by subst c; exact r.inj i j x e u)) (fun c => z2 (by subst c; exact r.inj (i + 1) j x ed u)) y
  · by_cases z : i = j
    · subst z; rw [e] at u; cases u; exact nb
    · rw [List.getElem?_set_ne z] at v; exact r.new j x p u v w
  · by_cases z : i = j
    · subst z
      rw [List.getElem?_set_self li] at v
      cases v; rw [e] at u; cases u
      exact ⟨by rw [List.getElem?_set_ne (by (first | exact om111 | omega))]; exact qd, dx, ed, ho⟩
    · rw [List.getElem?_set_ne z] at v
      refine ob02 (r.ins j x fs2 u v) fun h1 wz0 => ?_; refine ob12 wz0 fun dx' h2 h3 => ?_; clear wz0
      have z3 : i ≠ j + 1 := fun c => by subst c; rw [q] at h1; cases h1
      have z4 : i + 1 ≠ j := fun c => by subst c; rw [qd] at v; cases v
      have ne : ∀ {b : Addr} {m : Nat}, μ[m]? = some b → m ≠ i → m ≠ i + 1 → b ≠ a ∧ b ≠ dx := fun {b m} hb n1 n2 => ⟨fun c => n1 (by subst c; exact r.inj m i _ hb e), fun c => n2 (by subst c; exact r.inj m (i + 1) _ hb ed)⟩
      have n1 := ne u (Ne.symm z) (Ne.symm z4)
      have n2 := ne h2 (Ne.symm z3) (by (first | exact om112 z | omega))
      exact ⟨by rw [List.getElem?_set_ne z3]; exact h1, dx', h2, h3.mono (List.prefix_refl _) (fun ob y => k x ob n1.1 n1.2 y) (fun ob y => k dx' ob n2.1 n2.2 y)⟩

/-- a new instance -/
theorem HRel.allocI {B : Heap} {μ : List Addr} {σ : MH} {h h' : Heap} (r : HRel B μ σ h) {a dx : Addr} {fs : List (Option Val)} (k : ∀ b o, h.get? b = some o → h'.get? b = some o)
    (fa : a ∉ μ) (fd : dx ∉ μ) (ba : B.get? a = none) (bd : B.get? dx = none) (ho : InstR B (μ ++ [a, dx]) h' a dx fs) : HRel B (μ ++ [a, dx]) (σ ++ [.inst fs, .aux]) h' := by
  have ⟨oa, _, ga, _, _, _, ne, ⟨od, _, _, gd, _⟩, _⟩ := ho
  have len' := r.len
  have old : ∀ {i : Nat} {x : Addr}, (μ ++ [a, dx])[i]? = some x → (μ[i]? = some x ∧ i < μ.length) ∨ (x = a ∧ i = μ.length) ∨ (x = dx ∧ i = μ.length + 1) := fun {i x} e => by
    rcases Nat.lt_or_ge i μ.length with q | q
    · rw [List.getElem?_append_left q] at e; exact .inl ⟨e, q⟩
    · rw [List.getElem?_append_right q] at e
      obtain ⟨d, rfl⟩ : ∃ d, i = μ.length + d := ⟨i - μ.length, by (first | exact om113 q | omega)⟩
      rw [Nat.add_sub_cancel_left] at e
      match d, e with
      | 0, e => cases e; exact .inr (.inl ⟨rfl, rfl⟩)
      | 1, e => cases e; exact .inr (.inr ⟨rfl, rfl⟩)
  have s0 : (σ ++ [MObj.inst fs, .aux])[μ.length]? = some (.inst fs) := by rw [len', List.getElem?_append_right (Nat.le_refl _), Nat.sub_self]; rfl
  have s1 : (σ ++ [MObj.inst fs, .aux])[μ.length + 1]? = some .aux := by rw [len', List.getElem?_append_right (by (first | exact om114 | omega)), Nat.add_sub_cancel_left]; rfl
  have m1 : (μ ++ [a, dx])[μ.length + 1]? = some dx := by rw [List.getElem?_append_right (by (first | exact om114 | omega)), Nat.add_sub_cancel_left]; rfl
  have mem : ∀ {i : Nat} {x : Addr}, μ[i]? = some x → x ∈ μ := fun e => List.mem_of_getElem? e
  refine ⟨by simp [len'], fun i j x e q => ?_, fun b o e => k b o (r.base b o e), fun i x o' e q => ?_, fun i x o' e q n => ?_, fun i x fs' e q => ?_⟩
  · rcases old e with ⟨e, _⟩ | ⟨rfl, e⟩ | ⟨rfl, e⟩ <;> rcases old q with ⟨q, _⟩ | ⟨q', q⟩ | ⟨q', q⟩
    · exact r.inj i j x e q
    · exact absurd (mem e) (q' ▸ fa)
    · exact absurd (mem e) (q' ▸ fd)
    · exact absurd (mem q) fa
    · (first | exact om2 ‹_› q | omega)
    · exact absurd q' (Ne.symm ne)
    · exact absurd (mem q) fd
    · exact absurd q' ne
    · (first | exact om115 ‹_› q | omega)
  · rcases old e with ⟨e, l⟩ | ⟨rfl, rfl⟩ | ⟨rfl, rfl⟩
    · rw [List.getElem?_append_left (by (first | exact om3 len' l | omega))] at q
      exact (r.obj i x o' e q).mono (List.prefix_append _ _) (k x)
    · rw [s0] at q; cases q; exact ⟨_, ga⟩
    · rw [s1] at q; cases q; exact ⟨_, gd⟩
  · rcases old e with ⟨e, l⟩ | ⟨rfl, e⟩ | ⟨rfl, e⟩
    · rw [List.getElem?_append_left (by (first | exact om3 len' l | omega))] at q
      exact r.new i x o' e q n
    · exact ba
    · exact bd
  · rcases old e with ⟨e, l⟩ | ⟨rfl, rfl⟩ | ⟨rfl, rfl⟩
    · rw [List.getElem?_append_left (by (first | exact om3 len' l | omega))] at q
      refine ob02 (r.ins i x fs' e q) fun h1 wz1 => ?_; refine ob12 wz1 fun dx' h2 h3 => ?_; clear wz1
      exact ⟨by rw [List.getElem?_append_left (List.getElem?_eq_some_iff.mp h1).1]; exact h1, dx', getElem?_prefix (List.prefix_append _ _) h2, h3.mono (List.prefix_append _ _) (k x) (k dx')⟩
    · rw [s0] at q; cases q; exact ⟨s1, _, m1, ho⟩
    · rw [s1] at q; cases q

section
variable {n : Nat} {C : Cf} {prog : Program} {w : World} {B : Heap} {sc : Scope} {sm : List (Str × Nat)} {g : GMap} {F : Nat → Option MFun} {mg mb : Str → Option Value}
variable {env : Env} {ρ : Rho} {σ : MH} {μ : List Addr} {s : Shared} {A : Around} {E : Value → Shared → Prop} {X : XE}

theorem callWith_cls0 {N Cc : Addr} {mN : Str → Option Value} {pos : Pos} {Q : Value → Shared → Prop} (TC : PyProof.Rows.ClsAt s.heap Cc N mN) (h : wpAny (model prog w) A (call (.ref Cc) []) Q E s) : wpAny (model prog w) A (callWith pos (.ref Cc) [] [] []) Q E s := by
  obtain ⟨hh, gg, d, t, os⟩ := s
  refine ob11 (clsObj TC) fun xr hC => ?_
  unfold callWith
  refine wpAny_bind (wpAny_holding (PyProof.Rows.evalArgs_none ?_))
  have f1 := tc_lookup
  have hT : (⟨hh, gg, d, t, os⟩ : Shared).TypeIs (.ref Cc) "type" := ⟨_, hC, rfl⟩
  refine wpAny_bind (wpAny_standAt ?_)
  show wpAny _ _ (keeperOf (.ref Cc) >>= _) _ _ _
  unfold keeperOf specialOf
  have h2 : wpAny (model prog w) A (call (.ref Cc) [] [] >>= fun r => do holding [r] point; pure r) Q E ⟨hh, gg, d, t, os⟩ := wpAny_bind (wpAny_mono h (fun r s' hr => wpAny_bind (wpAny_holding (wpAny_point (wpAny_pure hr)))) fun _ _ x => x)
  repeat (any_goals (first | exact h2 | assumption | with_reducible refine wpAny_loadPart_at hC ?_ | with_reducible refine wpAny_load' hC ?_ | wp_step))

theorem under_ok [sn : Small n] {vals : List Value} {Cc : Addr} (ok : AOk n A) : AOk0 n (A.under (.builtin "type.__call__" ⟨.ref Cc :: vals, []⟩)) := by
  refine ⟨ok.handled, ?_, ?_⟩
  · have := ok.depth sn.lt; show A.depth + 1 + 2 * n < 900; (first | exact om116 this | omega)
  · have := ok.units; have := sn.lt; have u : (Code.builtin "type.__call__" ⟨.ref Cc :: vals, []⟩).cUnits ≤ 10 := Nat.le_of_ble_eq_true (by kernel_rfl)
    show A.units + (Code.builtin "type.__call__" ⟨.ref Cc :: vals, []⟩).cUnits + 20 * n + 100 < 9900; (first | exact om117 ‹_› this u | omega)

theorem se_newT [Small n] {f : Nat} {x : Str} {px pos : Pos} (G : GOk g F B mg mb) (cs : CS n C prog w g F B) (h : globK g sc x (.tab f) = true) (hx : x = tabNm) : SE n C prog w B sc sm (.newT f) (.Call (.Name x px) [] [] pos) := fun {env ρ σ μ s A X Q} cx p => by
  have p : Post B X VRel μ s Q (newTV σ (C f [.ref σ.length] (σ ++ [.inst [none, none, none], .aux]))) := p
  subst hx
  refine ob02 (G.tab f (globK_split h).2.2) fun hm wz3 => ?_; refine ob27 wz3 fun N mN TC wz4x3 t1 t2 t3 t4 t5 => ?_; clear wz3; obtain ⟨aI, oI, i1, i2, i3, fa⟩ := wz4x3
  refine wpAny_Call_Name_kw (glob_some G h cx hm ?_)
  show wpAny (model prog w) A (callWith pos (.ref (tabK B)) [] [] []) Q X.E s
  have kb : ∀ b o, B.get? b = some o → s.heap.get? b = some o := cx.rel.base
  refine callWith_cls0 (TC.keeps kb) ?_
  refine ob11 (clsObj (TC.keeps kb)) fun xr hC => ?_
  have nsN := (TC.keeps kb).ns
  have hI := kb _ _ i2
  obtain ⟨hh, gg, d, t, os⟩ := s
  refine wpAny_call_obj_init PySem.F.objNew hC nsN i1 hI i3 fun h' a dx Mk => ?_
  refine ob14 Mk.inst fun o io ic inc id => ?_
  have idd := Mk.dict o io
  have fm : ∀ b, hh.get? b = none → b ∉ μ := fun b e q => by refine ob11 (cx.rel.alive q) fun o g => ?_; rw [e] at g; cases g
  have fb : ∀ b, hh.get? b = none → B.get? b = none := fun b e => by
    cases q : B.get? b with
    | none => rfl
    | some o => have := kb _ _ q; rw [e] at this; cases this
  have inst : InstR B (μ ++ [a, dx]) h' a dx [none, none, none] := by
    rcases id with ⟨z, _⟩ | ⟨d', e1, e2, e3⟩
    · rw [z] at idd; cases idd
    · rw [idd] at e1; cases e1
      refine ⟨o, _, io, ic, idd, inc, e2, e3, fun k v hk e => ?_, fun y hy => absurd rfl hy⟩
      have : k = 0 ∨ k = 1 ∨ k = 2 := by (first | exact om110 hk | omega)
      rcases this with rfl | rfl | rfl <;> cases e
  have r1 := cx.rel.allocI Mk.keeps (fm a Mk.newX) (fm dx Mk.newD) (fb a Mk.newX) (fb dx Mk.newD) inst
  have st1 : Step μ (μ ++ [a, dx]) hh h' := ⟨List.prefix_append _ _, fun b o _ e => look_keep (Mk.keeps b) e, fun b x y => by
    rcases List.mem_append.mp x with x | x
    · exact absurd x y
    · rcases List.mem_cons.mp x with rfl | x
      · exact Mk.newX
      · rw [List.mem_singleton.mp x]; exact Mk.newD⟩
  have va : (μ ++ [a, dx])[σ.length]? = some a := by rw [← cx.rel.len, List.getElem?_append_right (Nat.le_refl _), Nat.sub_self]; rfl
  refine wpAny_call (cs f aI [.ref σ.length] [.ref a] (μ ++ [a, dx]) _ ⟨h', gg, d, t, os⟩ _ X (fun r s' => r = .none ∧ Q (.ref a) s') fa (under_ok cx.ok) r1 cx.frames (cx.fok.step st1) ⟨_, _, rfl, ⟨a, va, rfl⟩, rfl⟩ ?_)
  cases hq : C f [.ref σ.length] (σ ++ [.inst [none, none, none], .aux]) with
  | stuck => rw [hq] at p; exact p
  | exc c σ' =>
    rw [hq] at p
    exact PostX.step (s := ⟨hh, gg, d, t, os⟩) (tk := t) p st1
  | ok v σ' =>
    rw [hq] at p
    intro μ' u h'' tk r st hv
    cases v with
    | none =>
      refine ⟨hv, ?_⟩
      exact p μ' (.ref a) h'' tk r (st1.trans st) ⟨a, getElem?_prefix st.pre va, rfl⟩
    | _ => exact (show False from p).elim

end
end Mine


-- part MiniComp
set_option maxRecDepth 4000
set_option linter.unusedVariables false
namespace Mine
open PySem

theorem Step.transX {μ μ' μ'' : List Addr} {h h' h'' : Heap} {P : Addr → Prop} (s : Step μ μ' h h') (pre : μ' <+: μ'') (keep : ∀ b o, b ∉ μ' → ¬ P b → h'.get? b = some o → h''.get? b = some o) (fresh : ∀ b, b ∈ μ'' → b ∉ μ' → h.get? b = none)
    (hP : ∀ b, P b → h.get? b = none) : Step μ μ'' h h'' :=
  ⟨s.pre.trans pre, fun b o n e => look_keep (fun o' => keep b o' (s.notMemL n e) (fun q => by refine ob12 (look_elim e) fun o2 e2 _ => ?_; rw [hP b q] at e2; cases e2)) (s.keep b o n e), fun b x y => by
    by_cases q : b ∈ μ'
    · exact s.fresh b q y
    · exact fresh b x q⟩

/-- the cells that a comprehension's block takes along -/
noncomputable def clos (env : Env) : List (Str × NameKind) → List (Str × Addr) → List (Str × Addr)
  | [], acc => acc
  | (n, k) :: r, acc => clos env r (if k == .free then (match env.cells.lookup n with | some c => (n, c) :: acc | none => acc) else acc)

theorem closureFor_of {sc : Scope} {env : Env} (h : ∀ p ∈ sc.names, p.2 = .free → ∃ c, env.cells.lookup p.1 = some c) : closureFor sc env = pure (clos env sc.names []) := by
  have key : ∀ (l : List (Str × NameKind)) (acc : List (Str × Addr)), (∀ p ∈ l, p.2 = .free → ∃ c, env.cells.lookup p.1 = some c) →
      (forIn l acc fun (x : Str × NameKind) (cs : List (Str × Addr)) => (match x with
        | (name, kind) => if (kind == .free) = true then do let c ← cellOf env name; pure (ForInStep.yield ((name, c) :: cs)) else pure (ForInStep.yield cs) : Sem (ForInStep (List (Str × Addr))))) = pure (clos env l acc) := fun l => by
    induction l with
    | nil => intro acc _; rfl
    | cons p r ih =>
      intro acc hl
      obtain ⟨nm, k⟩ := p
      rw [List.forIn_cons]
      by_cases hk : (k == .free) = true
      · refine ob11 (hl (nm, k) (.head _) (by simpa using hk)) fun c hc => ?_
        simp only at hc
        simp only [hk, if_true, clos, hc]
        have : cellOf env nm = pure c := by unfold cellOf; rw [hc]
        rw [this]
        exact ih ((nm, c) :: acc) fun p hp => hl p (.tail _ hp)
      · simp only [hk, if_false, clos]
        exact ih acc fun p hp => hl p (.tail _ hp)
  have := key sc.names [] h
  have e := congrArg (fun m : Sem (List (Str × Addr)) => m >>= fun cs => pure cs) this
  exact Eq.trans (by rfl) e

theorem clos_lookup {env : Env} : ∀ (l : List (Str × NameKind)) (acc : List (Str × Addr)) (x : Str) (c : Addr), (clos env l acc).lookup x = some c → (∃ k, (x, k) ∈ l ∧ k = .free ∧ env.cells.lookup x = some c) ∨ acc.lookup x = some c
  | [], acc, x, c, h => .inr h
  | (nm, k) :: r, acc, x, c, h => by
    rw [clos] at h
    rcases clos_lookup r _ x c h with ⟨k', m, e, q⟩ | q
    · exact .inl ⟨k', .tail _ m, e, q⟩
    · split at q
      · rename_i hk
        split at q
        · rename_i c' hc
          rw [List.lookup_cons] at q
          split at q
          · rename_i hx; cases q; rw [beq_iff_eq] at hx; subst hx; exact .inl ⟨k, .head _, by simpa using hk, hc⟩
          · exact .inr q
        · exact .inr q
      · exact .inr q
theorem clos_some {env : Env} {x : Str} : ∀ (l : List (Str × NameKind)) (acc : List (Str × Addr)), ((x, .free) ∈ l ∧ (∃ c, env.cells.lookup x = some c)) ∨ (∃ c, acc.lookup x = some c) → ∃ c, (clos env l acc).lookup x = some c
  | [], acc, h => h.elim (fun q => nomatch q.1) id
  | (nm, k) :: r, acc, h => by
    rw [clos]
    refine clos_some r _ ?_
    by_cases hx : (x == nm) = true
    · rw [beq_iff_eq] at hx; subst hx
      rcases h with ⟨m, c, hc⟩ | ⟨c, hc⟩
      · by_cases hk : (k == .free) = true
        · exact .inr ⟨c, by simp [hk, hc, List.lookup_cons]⟩
        · rcases List.mem_cons.mp m with q | q
          · cases q; exact absurd rfl hk
          · exact .inl ⟨q, c, hc⟩
      · refine .inr ?_
        split
        · split
          · rename_i c' _; exact ⟨c', by simp⟩
          · exact ⟨c, hc⟩
        · exact ⟨c, hc⟩
    · have hx' : (x == nm) = false := by simpa using hx
      rcases h with ⟨m, c, hc⟩ | ⟨c, hc⟩
      · rcases List.mem_cons.mp m with q | q
        · cases q; simp at hx
        · exact .inl ⟨q, c, hc⟩
      · refine .inr ⟨c, ?_⟩
        split
        · split
          · rw [List.lookup_cons, hx']; exact hc
          · exact hc
        · exact hc

end Mine


-- part MiniComp2
set_option maxRecDepth 4000
set_option linter.unusedVariables false
namespace Mine
open PySem

theorem lookup_relabel (inner outer : Scope) (x : Str) : (relabelS inner outer).names.lookup x = (inner.names.lookup x).map fun k => if (k == .free && outer.kind == .function && outer.names.lookup x == some .cell) then .cell else k := by
  show (inner.names.map _).lookup x = _
  generalize inner.names = l
  induction l with
  | nil => rfl
  | cons p r ih =>
    obtain ⟨n, k⟩ := p
    rw [List.map_cons]
    dsimp only
    by_cases hx : (x == n) = true
    · rw [beq_iff_eq] at hx; subst hx
      by_cases hc : (k == NameKind.free && outer.kind == ScopeKind.function && List.lookup x outer.names == some NameKind.cell) = true
      · rw [if_pos hc, List.lookup_cons, List.lookup_cons, beq_self_eq_true, Option.map_some, if_pos hc]
      · rw [if_neg hc, List.lookup_cons, List.lookup_cons, beq_self_eq_true, Option.map_some, if_neg hc]
    · have hx' : (x == n) = false := by simpa using hx
      by_cases hc : (k == NameKind.free && outer.kind == ScopeKind.function && List.lookup n outer.names == some NameKind.cell) = true
      · rw [if_pos hc, List.lookup_cons, List.lookup_cons, hx']; exact ih
      · rw [if_neg hc, List.lookup_cons, List.lookup_cons, hx']; exact ih

theorem mem_of_lookup {α : Type} {x : Str} {v : α} : ∀ {l : List (Str × α)}, l.lookup x = some v → (x, v) ∈ l
  | [], h => by cases h
  | (n, k) :: r, h => by
    rw [List.lookup_cons] at h
    split at h
    · rename_i hx; rw [beq_iff_eq] at hx; subst hx; cases h; exact .head _
    · exact .tail _ (mem_of_lookup h)

/-- the block's frame -/
noncomputable def cenvOf (env : Env) (inner : Scope) (C : Addr) : Env :=
  { scope := relabel inner env, locals := C, globals := env.globals, cells := clos env inner.names [], qual := env.qual, func := none, code := env.code, frame := env.frame, builtins := env.builtins }

section
variable {n : Nat} {prog : Program} {w : World} {B : Heap} {sc inner : Scope} {sm : List (Str × Nat)}
variable {env : Env} {ρ : Rho} {σ : MH} {μ : List Addr} {h : Heap} {A : Around} {x : Str} {i : Nat} {D : Addr}

structure CompSc (inner sc : Scope) : Prop where
  kind : inner.kind = .function
  nocell : ∀ p ∈ inner.names, p.2 ≠ .cell
  locs : ∀ p ∈ inner.names, p.2 = .local → inner.names.lookup p.1 = some .local
  free : ∀ p ∈ inner.names, p.2 = .free → sc.names.lookup p.1 = some .cell ∨ sc.names.lookup p.1 = some .free
structure CompOk (inner sc : Scope) (sm : List (Str × Nat)) (x : Str) (i : Nat) : Prop where
  sco : CompSc inner sc
  var : inner.names.lookup x = some .local
  only : ∀ p ∈ inner.names, p.2 = .local → p.1 = x ∨ sm.lookup p.1 = none
  slot : ∀ y j, sm.lookup y = some j → j ≠ i

theorem compOk_of (h1 : compScOk inner sc x = true) (h2 : (inner.names.all fun p => p.2 != .local || p.1 == x || (sm.lookup p.1).isNone) = true) (h3 : (sm.all fun p => p.2 != i) = true) : CompOk inner sc sm x i := by
  unfold compScOk at h1
  simp only [Bool.and_eq_true, beq_iff_eq] at h1
  refine ob02 h1 fun wz1x0 al => ?_; obtain ⟨k, v⟩ := wz1x0
  rw [List.all_eq_true] at al h2 h3
  refine ⟨⟨k, fun p hp e => ?_, fun p hp e => ?_, fun p hp e => ?_⟩, v, fun p hp e => ?_, fun y j hy e => ?_⟩
  · have := al p hp; simp [e] at this
  · have := al p hp; simp [e] at this; exact this
  · have := al p hp; simp [e] at this; exact this
  · have := h2 p hp
    simp only [e, bne_self_eq_false, Bool.false_or, Bool.or_eq_true, beq_iff_eq, Option.isNone_iff_eq_none] at this; exact this
  · have := h3 _ (mem_of_lookup hy); simp [e] at this

theorem comp_kind (ok : CompSc inner sc) (hs : env.scope = sc) (hk : sc.kind = .function) (y : Str) : (cenvOf env inner D).kindOf y = some .local ∧ inner.names.lookup y = some .local ∨
    ((cenvOf env inner D).kindOf y = some .cell ∨ (cenvOf env inner D).kindOf y = some .free) ∧ inner.names.lookup y = some .free ∨ isVar ((cenvOf env inner D).kindOf y) = false := by
  have e : (cenvOf env inner D).kindOf y = (inner.names.lookup y).map fun k => if (k == .free && sc.kind == .function && sc.names.lookup y == some .cell) then .cell else k := by
    have := lookup_relabel inner sc y
    rw [← hs] at this ⊢
    exact this
  rw [e]
  cases hl : inner.names.lookup y with
  | none => exact .inr (.inr rfl)
  | some k =>
    cases k with
    | «local» => exact .inl ⟨rfl, rfl⟩
    | cell => exact absurd rfl (ok.nocell _ (mem_of_lookup hl))
    | free =>
      refine .inr (.inl ⟨?_, rfl⟩)
      simp only [Option.map_some]
      split
      · exact .inl rfl
      · exact .inr rfl
    | globalExplicit => exact .inr (.inr rfl)
    | globalImplicit => exact .inr (.inr rfl)

theorem comp_frm (ok : CompSc inner sc) (cx : Cx n B X A env sc sm ρ μ σ h) {m : Str → Option Value} (hn : h.Ns D m) (hD : D ∉ μ) (hB : B.get? D = none) (hne : ∀ y c, env.cells.lookup y = some c → c ≠ D) : Frm B (cenvOf env inner D) μ h := by
  have hk : sc.kind = .function := by rw [← cx.scope]; exact cx.frm.kind
  refine ⟨ok.kind, cx.frm.glob, cx.frm.bl, ⟨m, hn⟩, hD, hB, fun y c l => ?_, fun y z c l l' => ?_, fun y hy => ?_⟩
  · rcases clos_lookup _ _ y c l with ⟨k, hm, rfl, q⟩ | q
    · refine ob04 (cx.frm.cell y c q) fun c1 c2 c3 c4 => ?_
      exact ⟨c1, hne y c q, c3, c4⟩
    · cases q
  · rcases clos_lookup _ _ y c l with ⟨k, hm, rfl, q⟩ | q
    · rcases clos_lookup _ _ z c l' with ⟨k', hm', rfl, q'⟩ | q'
      · exact cx.frm.cinj y z c q q'
      · cases q'
    · cases q
  · rcases comp_kind (D := D) ok cx.scope hk y with ⟨k, _⟩ | ⟨_, hl⟩ | k
    · rw [k] at hy; rcases hy with q | q <;> cases q
    · have hm := mem_of_lookup hl
      have hf := ok.free _ hm rfl
      refine ob11 (cx.frm.has y (by rw [cx.kind]; exact hf)) fun c hc => ?_
      exact clos_some _ _ (.inl ⟨hm, c, hc⟩)
    · rcases hy with q | q <;> (rw [q] at k; cases k)

theorem comp_local {y : Str} (hs : env.scope = sc) (h : inner.names.lookup y = some .local) : (cenvOf env inner D).kindOf y = some .local := by
  have e : (cenvOf env inner D).kindOf y = (inner.names.lookup y).map fun k => if (k == .free && sc.kind == .function && sc.names.lookup y == some .cell) then .cell else k := by
    have := lookup_relabel inner sc y
    rw [← hs] at this ⊢
    exact this
  rw [e, h]; rfl
/-- a name of the outer frame, seen in the block -/
theorem comp_outer {y : Str} (ok : CompSc inner sc) (cx : Cx n B X A env sc sm ρ μ σ h) {k : Nat} {u : Val} (nl : inner.names.lookup y ≠ some .local) (hy : isVar ((cenvOf env inner D).kindOf y) = true) (hl : sm.lookup y = some k) (he : ρ[k]? = some (some u)) : ∃ v, Bound (cenvOf env inner D) h y v ∧ VRel μ u v := by
  have hk : sc.kind = .function := by rw [← cx.scope]; exact cx.frm.kind
  rcases comp_kind (D := D) ok cx.scope hk y with ⟨_, q⟩ | ⟨kk, q⟩ | q
  · exact (nl q).elim
  · have hmem := mem_of_lookup q
    have hf := ok.free _ hmem rfl
    simp only at hf
    refine ob12 (cx.vars y k u (by rw [cx.kind]; rcases hf with q | q <;> rw [q] <;> rfl) hl he) fun u' b r => ?_
    rcases b with ⟨q, _⟩ | ⟨_, c, hc, hi⟩
    · rw [cx.kind] at q; rcases hf with z | z <;> (rw [z] at q; cases q)
    · refine ⟨u', .inr ⟨kk, c, ?_, hi⟩, r⟩
      refine ob11 (clos_some (env := env) (x := y) inner.names [] (.inl ⟨hmem, c, hc⟩)) fun c' hc' => ?_
      rcases clos_lookup _ _ y c' hc' with ⟨_, _, _, q⟩ | q
      · rw [hc] at q; cases q; exact hc'
      · cases q
  · rw [q] at hy; cases hy
theorem slot_val {ρ : Rho} {i : Nat} {v u : Val} (he : (ρ.set i (some v))[i]? = some (some u)) : u = v := by
  have lt : i < (ρ.set i (some v)).length := (List.getElem?_eq_some_iff.mp he).1
  rw [List.getElem?_set_self (by simpa using lt)] at he
  exact (Option.some.inj (Option.some.inj he)).symm
theorem comp_vars (ok : CompOk inner sc sm x i) (cx : Cx n B X A env sc sm ρ μ σ h) {m : Str → Option Value} (hn : h.Ns D m) {v : Val} {v' : Value} (hm : m x = some v') (hv : VRel μ v v') : Vars (cenvOf env inner D) ((x, i) :: sm) (ρ.set i (some v)) μ h := by
  intro y j u hy hl he
  rw [List.lookup_cons] at hl
  by_cases hx : (y == x) = true
  · rw [hx] at hl
    rw [beq_iff_eq] at hx; subst hx
    cases hl
    rw [slot_val he]
    exact ⟨v', .inl ⟨comp_local cx.scope ok.var, m, hn, hm⟩, hv⟩
  · rw [show (y == x) = false by simpa using hx] at hl
    rw [List.getElem?_set_ne (Ne.symm (ok.slot y j hl))] at he
    refine comp_outer ok.sco cx (fun q => ?_) hy hl he
    rcases ok.only _ (mem_of_lookup q) rfl with q | q
    · simp at q; subst q; simp at hx
    · simp only at q; rw [q] at hl; cases hl

end
end Mine


-- part MiniComp3
set_option maxRecDepth 4000
set_option linter.unusedVariables false
namespace Mine
open PySem

section
variable {n : Nat} {C : Cf} {prog : Program} {w : World} {B : Heap} {sc inner : Scope} {sm sm' : List (Str × Nat)}
variable {env : Env} {ρ : Rho} {σ₀ : MH} {μ₀ : List Addr} {s : Shared} {A : Around} {X : XE} {x : Str} {i : Nat} {D I Cn : Addr}

noncomputable def TestOk (n : Nat) (C : Cf) (prog : Program) (w : World) (B : Heap) (sc : Scope) (sm : List (Str × Nat)) (cond : MExpr) (ifs : List Expr) : Prop :=
  ∀ {env ρ σ μ} {s : Shared} {A : Around} {X : XE} {Q : Bool → Shared → Prop}, Cx n B X A env sc sm ρ μ σ s.heap → Post B X BRel μ s Q ((sem C cond).T ρ σ) →
    wpAny (model prog w) A (forIn ifs true fun c r => if r = true then do let ok ← isTrue c env (eval c env); pure (ForInStep.yield ok) else pure (ForInStep.yield r)) Q X.E s

theorem test_nil : TestOk n C prog w B sc sm (.const (.bool true)) [] := fun {env ρ σ μ s A X Q} cx p => by
  have p : Post B X BRel μ s Q (.ok true σ) := p
  exact wpAny_pure (p.here' cx.rel rfl)
theorem test_one {cond : MExpr} {c : Expr} (h : ST n C prog w B sc sm cond c) : TestOk n C prog w B sc sm cond [c] := fun {env ρ σ μ s A X Q} cx p => by
  refine wpAny_forIn_list _ (fun l b s' => (l = [c] ∧ b = true ∧ s' = s) ∨ (l = [] ∧ Q b s')) Q (fun y rest b s' hI => ?_) (fun b s' hI => ?_) [c] true (.inl ⟨rfl, rfl, rfl⟩)
  · rcases hI with ⟨e, rfl, rfl⟩ | ⟨e, _⟩
    · cases e
      rw [if_pos rfl]
      refine wpAny_bind (h cx ?_)
      cases q : (sem C cond).T ρ σ with
      | ok b σ1 => rw [q] at p; intro μ' b' h' tk r st hb; exact wpAny_pure (.inr ⟨rfl, p μ' b' h' tk r st hb⟩)
      | exc c h => rw [q] at p; exact p
      | stuck => rw [q] at p; exact p
    · cases e
  · rcases hI with ⟨e, _⟩ | ⟨_, q⟩
    · cases e
    · exact q

noncomputable def CPost (B : Heap) (X : XE) (μ₀ : List Addr) (s : Shared) (D Cn : Addr) (R : Result → Shared → Prop) : Res (List Val) → Prop
  | .ok vs σ' => ∀ μ' h' tk ys k m, HRel B μ' σ' h' → Step μ₀ μ' s.heap h' → D ∉ μ' → Cn ∉ μ' → h'.get? D = some (listObj ys k) → VsRel μ' vs ys → h'.Ns Cn m → R (.ok .next) { s with heap := h', toks := tk }
  | .exc c σ' => ∀ μ' h' tk e base m, HX B μ' σ' base c → StepX μ₀ μ' s.heap base h' → base.StaysIn h' → base.get? e = none → h'.FunFrames base X.l → Trc h' base e (.ref (clsK B c)) → Cn ∉ μ' → h'.Ns Cn m → R (.error (.ref e)) { s with heap := h', toks := tk }
  | .stuck => False

/-- turns over an iterator whose things are bound to names: own addresses P, what is bound Bnd -/
structure IterG (prog : Program) (w : World) (B : Heap) (A : Around) (μ₁ : List Addr) {α : Type} (items : List α) (ck : MH → Bool) (I : Addr) (P : Addr → Prop) (At : Nat → Heap → Prop) (tgt : Expr) (cenv : Env) (Bnd : α → List Addr → (Str → Option Value) → Prop) : Prop where
  frame : ∀ i h h', At i h → (∀ b o, P b → look h b = some o → look h' b = some o) → At i h'
  alive : ∀ i h, At i h → ∀ b, P b → ∃ o, h.get? b = some o
  item : ∀ i a (s : Shared) μ σ m (Q : Unit → Shared → Prop) (E : Value → Shared → Prop), items[i]? = some a → μ₁ <+: μ → At i s.heap → HRel B μ σ s.heap → ck σ = true → s.heap.Ns cenv.locals m →
    (∀ h' tk m', At (i + 1) h' → h'.Ns cenv.locals m' → Bnd a μ m' → (∀ b o, ¬ P b → b ≠ cenv.locals → s.heap.get? b = some o → h'.get? b = some o) → Q () { s with heap := h', toks := tk }) →
    wpAny (model prog w) A (pyNext (.ref I)) (fun r s₁ => ∃ v, r = some v ∧ wpAny (model prog w) A (letOwnedTupleGo tgt (.ref I) v) (fun _ s₁' => wpAny (model prog w) A (assign tgt cenv v) Q E s₁') E s₁) E s
  done : ∀ (s : Shared) μ σ (Q : Option Value → Shared → Prop) (E : Value → Shared → Prop), μ₁ <+: μ → At items.length s.heap → HRel B μ σ s.heap → ck σ = true → HdOk A μ s.heap →
    (∀ h' tk, (∀ b o, ¬ P b → s.heap.get? b = some o → h'.get? b = some o) → Q none { s with heap := h', toks := tk }) → wpAny (model prog w) A (pyNext (.ref I)) Q E s

theorem compLoop_turns {elt target iter : Expr} {ifs : List Expr} {scope : Scope} {pos : Pos} {it acc : Value} {env : Env} {R : Result → Shared → Prop} (I : Nat → Shared → Prop)
    (turn : ∀ n s, I n s → wpAny (model prog w) A (pyNext it) (fun r s₁ => match r with
      | none => R (.ok .next) s₁
      | some v => wpAny (model prog w) A (letOwnedTupleGo target it v) (fun _ s₁' => wpAny (model prog w) A (assign target env v) (fun _ s₂ =>
          wpAny (model prog w) A (forIn ifs true fun c r => if r = true then do let ok ← isTrue c env (eval c env); pure (ForInStep.yield ok) else pure (ForInStep.yield r)) (fun ok s₃ =>
            if ok = true then wpAny (model prog w) A (eval elt env) (fun x s₄ =>
              wpAny (model prog w) A (call (.builtin "list.append") [acc, x]) (fun _ s₅ => ∃ m, m < n ∧ I m s₅) (notedBy (model prog w) A env fun e s' => R (.error e) s') s₄) (notedBy (model prog w) A env fun e s' => R (.error e) s') s₃
            else ∃ m, m < n ∧ I m s₃) (notedBy (model prog w) A env fun e s' => R (.error e) s') s₂) (notedBy (model prog w) A env fun e s' => R (.error e) s') s₁') (notedBy (model prog w) A env fun e s' => R (.error e) s') s₁) (notedBy (model prog w) A env fun e s' => R (.error e) s') s)
    (n : Nat) (h : I n s) : codeAny (model prog w) A (.compLoop (.ListComp elt [⟨target, iter, ifs, 0⟩] scope pos) 0 it acc env) R s := by
  refine codeAny_loop rfl I (fun n s hI => ?_) n h
  show wpAny _ A ((compTurn (.ListComp elt [⟨target, iter, ifs, 0⟩] scope pos) 0 it acc env).onRaise (fun x => do noteFrame x env; theTreesLotGoes x)) _ _ s
  refine wpAny_noted ?_
  rw [compTurn_list]
  refine wpAny_bind (wpAny_standAt (wpAny_bind (wpAny_mono (turn n s hI) (fun r s₁ h₁ => ?_) fun _ _ h' => h')))
  cases r with
  | none => exact wpAny_pure h₁
  | some v =>
    refine wpAny_bind (wpAny_mono h₁ (fun _ s₁' h₁' => ?_) fun _ _ h' => h')
    refine wpAny_bind (wpAny_mono h₁' (fun _ s₂ h₂ => wpAny_bind (wpAny_mono h₂ (fun ok s₃ h₃ => ?_) fun _ _ h' => h')) fun _ _ h' => h')
    cases ok with
    | false => exact wpAny_pure ⟨rfl, h₃⟩
    | true => exact wpAny_bind (wpAny_bind (wpAny_mono h₃ (fun x s₄ h₄ => wpAny_bind (wpAny_mono h₄ (fun _ s₅ h₅ => wpAny_pure (wpAny_pure ⟨rfl, h₅⟩)) fun _ _ h' => h')) fun _ _ h' => h'))

theorem obCL.{u0, u1, u2, u3, u4, u5, u6, u7, u8} {α0 : Sort u0} {α1 : Sort u1} {α2 : Sort u2} {α3 : Sort u3} {α4 : Sort u4} {α5 : Sort u5} {α6 : Sort u6} {α7 : Sort u7} {α8 : Sort u8} {A0 A1 A2 A3 A4 A5 A6 A7 A8 A9 A10 A11 A12 A13 : α0 → α1 → α2 → α3 → α4 → α5 → α6 → α7 → α8 → Prop} {P : Prop} (h : ∃ x0 x1 x2 x3 x4 x5 x6 x7 x8, A0 x0 x1 x2 x3 x4 x5 x6 x7 x8 ∧ A1 x0 x1 x2 x3 x4 x5 x6 x7 x8 ∧ A2 x0 x1 x2 x3 x4 x5 x6 x7 x8 ∧ A3 x0 x1 x2 x3 x4 x5 x6 x7 x8 ∧ A4 x0 x1 x2 x3 x4 x5 x6 x7 x8 ∧ A5 x0 x1 x2 x3 x4 x5 x6 x7 x8 ∧ A6 x0 x1 x2 x3 x4 x5 x6 x7 x8 ∧ A7 x0 x1 x2 x3 x4 x5 x6 x7 x8 ∧ A8 x0 x1 x2 x3 x4 x5 x6 x7 x8 ∧ A9 x0 x1 x2 x3 x4 x5 x6 x7 x8 ∧ A10 x0 x1 x2 x3 x4 x5 x6 x7 x8 ∧ A11 x0 x1 x2 x3 x4 x5 x6 x7 x8 ∧ A12 x0 x1 x2 x3 x4 x5 x6 x7 x8 ∧ A13 x0 x1 x2 x3 x4 x5 x6 x7 x8) (k : ∀ x0 x1 x2 x3 x4 x5 x6 x7 x8, A0 x0 x1 x2 x3 x4 x5 x6 x7 x8 → A1 x0 x1 x2 x3 x4 x5 x6 x7 x8 → A2 x0 x1 x2 x3 x4 x5 x6 x7 x8 → A3 x0 x1 x2 x3 x4 x5 x6 x7 x8 → A4 x0 x1 x2 x3 x4 x5 x6 x7 x8 → A5 x0 x1 x2 x3 x4 x5 x6 x7 x8 → A6 x0 x1 x2 x3 x4 x5 x6 x7 x8 → A7 x0 x1 x2 x3 x4 x5 x6 x7 x8 → A8 x0 x1 x2 x3 x4 x5 x6 x7 x8 → A9 x0 x1 x2 x3 x4 x5 x6 x7 x8 → A10 x0 x1 x2 x3 x4 x5 x6 x7 x8 → A11 x0 x1 x2 x3 x4 x5 x6 x7 x8 → A12 x0 x1 x2 x3 x4 x5 x6 x7 x8 → A13 x0 x1 x2 x3 x4 x5 x6 x7 x8 → P) : P := h.elim fun x0 h => h.elim fun x1 h => h.elim fun x2 h => h.elim fun x3 h => h.elim fun x4 h => h.elim fun x5 h => h.elim fun x6 h => h.elim fun x7 h => h.elim fun x8 h => k x0 x1 x2 x3 x4 x5 x6 x7 x8 h.1 h.2.1 h.2.2.1 h.2.2.2.1 h.2.2.2.2.1 h.2.2.2.2.2.1 h.2.2.2.2.2.2.1 h.2.2.2.2.2.2.2.1 h.2.2.2.2.2.2.2.2.1 h.2.2.2.2.2.2.2.2.2.1 h.2.2.2.2.2.2.2.2.2.2.1 h.2.2.2.2.2.2.2.2.2.2.2.1 h.2.2.2.2.2.2.2.2.2.2.2.2.1 h.2.2.2.2.2.2.2.2.2.2.2.2.2
theorem comp_loopG {α : Type} {items : List α} {upd : α → Rho} {Bnd : α → List Addr → (Str → Option Value) → Prop} {P : Addr → Prop} {elt cond : MExpr} {e1 iter tgt : Expr} {ifs : List Expr} {pos : Pos} {ck : MH → Bool} {At : Nat → Heap → Prop} {μ₁ : List Addr} {σ₁ : MH} {h₁ : Heap} {tk₁ : Nat} {m₁ : Str → Option Value} {k₁ : Nat} {R : Result → Shared → Prop} {res : Res (List Val)}
    (ok : CompSc inner sc) (cx : Cx n B X A env sc sm ρ μ₀ σ₀ s.heap) (HE : SE n C prog w B (relabelS inner sc) sm' elt e1) (HT : TestOk n C prog w B (relabelS inner sc) sm' cond ifs)
    (it : IterG prog w B A μ₁ items ck I P At tgt (cenvOf env inner Cn) Bnd) (hvar : ∀ a μ σ m h, Bnd a μ m → Cx n B X A env sc sm ρ μ σ h → h.Ns Cn m → Vars (cenvOf env inner Cn) sm' (upd a) μ h)
    (fr : ∀ b, (P b ∨ b = D ∨ b = Cn) → s.heap.get? b = none ∧ b ∉ μ₁ ∧ B.get? b = none) (nID : ¬ P D) (nIC : ¬ P Cn) (nDC : D ≠ Cn) (hl : items.length ≤ lim)
    (r₁ : HRel B μ₁ σ₁ h₁) (st₁ : Step μ₀ μ₁ s.heap h₁) (at₁ : At 0 h₁) (d₁ : h₁.get? D = some (listObj [] k₁)) (n₁ : h₁.Ns Cn m₁) (c₁ : ck σ₁ = true)
    (hres : res = compLoop (fun a => gStep (sem C cond).T (sem C elt).E (upd a)) ck items σ₁) (Pp : CPost B X μ₀ s D Cn R res) :
    codeAny (model prog w) A (.compLoop (.ListComp e1 [⟨tgt, iter, ifs, 0⟩] inner pos) 0 (.ref I) (.ref D) (cenvOf env inner Cn)) R { s with heap := h₁, toks := tk₁ } := by
  have hk : sc.kind = .function := by rw [← cx.scope]; exact cx.frm.kind
  let TI : Nat → Shared → Prop := fun k s' => ∃ j μj σj hj tkj ys nn m done, k = items.length - j ∧ j ≤ items.length ∧ s' = { s with heap := hj, toks := tkj } ∧ HRel B μj σj hj ∧ Step μ₀ μj s.heap hj ∧ μ₁ <+: μj ∧ (∀ b, (P b ∨ b = D ∨ b = Cn) → b ∉ μj) ∧
    At j hj ∧ hj.get? D = some (listObj ys nn) ∧ VsRel μj done ys ∧ hj.Ns Cn m ∧ ck σj = true ∧ (res = (compLoop (fun a => gStep (sem C cond).T (sem C elt).E (upd a)) ck (items.drop j) σj).bind fun vs h => .ok (done ++ vs) h) ∧ done.length ≤ j
  refine compLoop_turns TI
    (fun k s' hI => ?_) items.length ⟨0, μ₁, σ₁, h₁, tk₁, [], k₁, m₁, [], by simp, Nat.zero_le _, rfl, r₁, st₁, List.prefix_refl _, fun b q => (fr b q).2.1, at₁, d₁, rfl, n₁, c₁, by rw [hres, List.drop_zero]; cases compLoop (fun a => gStep (sem C cond).T (sem C elt).E (upd a)) ck items σ₁ <;> rfl, Nat.le_refl _⟩
  refine obCL hI fun j μj σj hj tkj ys nn m done ek hj' es rj stj pj frj atj dj vj nj cj hrj hdl => ?_
  clear hI
  subst ek
  subst es
  have hP : ∀ b, (P b ∨ b = D ∨ b = Cn) → s.heap.get? b = none := fun b q => (fr b q).1
  have hPB : ∀ b, (P b ∨ b = D ∨ b = Cn) → B.get? b = none := fun b q => (fr b q).2.2
  rcases Nat.lt_or_eq_of_le hj' with lt | rfl
  · rw [List.drop_eq_getElem_cons lt] at hrj
    rw [compLoop, gStep] at hrj
    refine wpAny_mono (it.item j items[j] _ μj σj m (fun _ s₂ => wpAny (model prog w) A (forIn ifs true fun c r => if r = true then do let ok ← isTrue c (cenvOf env inner Cn) (eval c (cenvOf env inner Cn)); pure (ForInStep.yield ok) else pure (ForInStep.yield r)) (fun ok s₃ =>
            if ok = true then wpAny (model prog w) A (eval e1 (cenvOf env inner Cn)) (fun x s₄ =>
              wpAny (model prog w) A (call (.builtin "list.append") [.ref D, x]) (fun _ s₅ => ∃ m, m < items.length - j ∧ TI m s₅) (notedBy (model prog w) A (cenvOf env inner Cn) fun e s' => R (.error e) s') s₄) (notedBy (model prog w) A (cenvOf env inner Cn) fun e s' => R (.error e) s') s₃
            else ∃ m, m < items.length - j ∧ TI m s₃) (notedBy (model prog w) A (cenvOf env inner Cn) fun e s' => R (.error e) s') s₂) _ (List.getElem?_eq_getElem lt) pj atj rj cj nj fun h2 tk1 m2 at2 n2 bnd k2 => ?_) (fun r s₁ ⟨v, e, z⟩ => by subst e; exact z) fun _ _ z => z
    have r2 : HRel B μj σj h2 := rj.other (P := fun b => P b ∨ b = D ∨ b = Cn) (fun b o nb e => k2 b o (fun z => nb (.inl z)) (fun z => nb (.inr (.inr z))) e) frj hPB
    have st2 : Step μ₀ μj s.heap h2 := stj.transX (P := fun b => P b ∨ b = D ∨ b = Cn) (List.prefix_refl _) (fun b o _ nb e => k2 b o (fun z => nb (.inl z)) (fun z => nb (.inr (.inr z))) e) (fun b x y => absurd x y) hP
    have d2 : h2.get? D = some (listObj ys nn) := k2 D _ nID nDC dj
    have cxo : Cx n B X A env sc sm ρ μj σj h2 := cx.step st2 r2
    have hne : ∀ y c, env.cells.lookup y = some c → c ≠ Cn := fun y c q z => by
      obtain ⟨⟨v, o, e, _⟩, _⟩ := cx.frm.cell y c q
      rw [z, (fr Cn (.inr (.inr rfl))).1] at e; cases e
    have cx2 : Cx n B ⟨X.l, notedBy (model prog w) A (cenvOf env inner Cn) fun e s' => R (.error e) s'⟩ A (cenvOf env inner Cn) (relabelS inner sc) sm' (upd items[j]) μj σj h2 :=
      ⟨by show relabel inner env = _; rw [← cx.scope]; rfl, cx.ok, comp_frm ok cxo n2 (frj Cn (.inr (.inr rfl))) (hPB Cn (.inr (.inr rfl))) hne, hvar _ _ _ _ _ bnd cxo n2, r2, cxo.frames, cxo.fok, cxo.here, fun e he L hL y q => by
        rcases clos_lookup _ _ y L q with ⟨_, _, _, q⟩ | q
        · exact cxo.apart e he L hL y q
        · exact (nomatch q), cxo.hd⟩
    have frm' : ∀ {μ' : List Addr} {h' : Heap}, Step μj μ' h2 h' → ∀ b, (P b ∨ b = D ∨ b = Cn) → b ∉ μ' := fun st b q => by
      rcases q with q | rfl | rfl
      · obtain ⟨o, e⟩ := it.alive _ _ at2 b q; exact st.notMem (frj _ (.inl q)) e
      · exact st.notMem (frj _ (.inr (.inl rfl))) d2
      · obtain ⟨o, e⟩ := Ns_alive n2; exact st.notMem (frj _ (.inr (.inr rfl))) e
    have hr : Here A X.l (cenvOf env inner Cn) := ⟨cxo.frames, cxo.here⟩
    -- an exception inside
    have exc : ∀ {c : Nat} {σ' : MH} {μ' : List Addr} {h' : Heap} {tk : Nat}, res = .exc c σ' → Step μj μ' h2 h' → PostX B ⟨X.l, notedBy (model prog w) A (cenvOf env inner Cn) fun e s' => R (.error e) s'⟩ μ' { s with heap := h', toks := tk } c σ' := fun {c σ' μ' h' tk} he sta => by
      rw [he] at Pp
      exact PostX.ofNoted hr fun μ'' h'' tk' e base r st b1 b2 b3 b4 => Pp μ'' h'' tk' e base _ r ((st2.trans sta).transX' st) b1 b2 b3 b4 ((frm' (sta.trans st.step)) Cn (.inr (.inr rfl))) (Ns_look n2 fun o e => (sta.trans st.step).keep Cn o (frj Cn (.inr (.inr rfl))) e)
    refine HT (s := { s with heap := h2, toks := tk1 }) cx2 ?_
    cases g1 : (sem C cond).T (upd items[j]) σj with
    | stuck => rw [g1] at hrj; rw [hrj] at Pp; exact Pp
    | exc c σ' => rw [g1] at hrj; exact exc hrj (Step.refl _ _)
    | ok b σa =>
      rw [g1] at hrj
      simp only [Res.bind_ok] at hrj
      intro μa b' ha tka ra sta hb
      rw [← show b = b' from hb]
      have cxa := cx2.step sta ra
      cases b with
      | true =>
        rw [if_pos rfl] at hrj ⊢
        refine HE (s := { s with heap := ha, toks := tka }) cxa ?_
        cases g3 : (sem C elt).E (upd items[j]) σa with
        | stuck => rw [g3] at hrj; rw [hrj] at Pp; exact Pp
        | exc c σ' => rw [g3] at hrj; exact exc hrj sta
        | ok v2 σ1 =>
          rw [g3] at hrj
          simp only [Res.bind_ok] at hrj
          by_cases f2 : ck σ1 = true
          · rw [if_pos f2, Res.bind_assoc] at hrj
            simp only [Res.bind_ok] at hrj
            intro μb v' hb' tkb rb stb hvb
            have stab : Step μj μb h2 hb' := sta.trans stb
            have db : hb'.get? D = some (listObj ys nn) := stab.get (frj D (.inr (.inl rfl))) d2 (fun _ _ q => by cases q)
            have nb := Ns_look n2 fun o e => stab.keep Cn o (frj Cn (.inr (.inr rfl))) e
            have atb : At (j + 1) hb' := it.frame _ _ _ at2 fun b o q e => stab.keep b o (frj b (.inl q)) e
            have ylen := vj.length
            refine wpAny_list_append_plain (s := { s with heap := hb', toks := tkb }) (items := ys.toArray) ⟨nn, db⟩ (fun h3 p3 s3 => ?_) (by
              have : lim = 1048576 := rfl
              simp only [List.size_toArray, ylen]; show _ ≤ 2 ^ 24; omega)
            obtain ⟨n3, d3⟩ := p3
            have d3' : h3.get? D = some (listObj (ys ++ [v']) n3) := by rw [d3]; simp
            have frb := frm' stab
            refine ⟨items.length - (j + 1), by (first | exact om119 lt | omega), j + 1, μb, σ1, h3, tkb, ys ++ [v'], n3, _, done ++ [v2], rfl, lt, rfl,
              rb.other (P := fun b => P b ∨ b = D ∨ b = Cn) (fun b o nb e => sameBut_keep s3 b o (fun z => nb (.inr (.inl z))) e) frb hPB,
              (st2.trans stab).transX (P := fun b => P b ∨ b = D ∨ b = Cn) (List.prefix_refl _) (fun b o _ nb e => sameBut_keep s3 b o (fun z => nb (.inr (.inl z))) e) (fun b x y => absurd x y) hP,
              pj.trans stab.pre, frb, it.frame _ _ _ atb fun b o q e => look_keep (fun o => sameBut_keep s3 b o (fun z => nID (z ▸ q))) e, d3', (vj.mono stab.pre).append ⟨v', [], rfl, hvb, rfl⟩, Ns_at nb fun o e => sameBut_keep s3 Cn o (Ne.symm nDC) e, f2, ?_, by simp; (first | exact om120 hdl | omega)⟩
            rw [hrj]; simp
          · rw [if_neg f2] at hrj; rw [hrj] at Pp; exact Pp.elim
      | false =>
        rw [if_neg (by simp)] at hrj ⊢
        simp only [Res.bind_ok] at hrj
        by_cases f2 : ck σa = true
        · rw [if_pos f2, Res.bind_assoc] at hrj
          simp only [Res.bind_ok] at hrj
          have da : ha.get? D = some (listObj ys nn) := sta.get (frj D (.inr (.inl rfl))) d2 (fun _ _ q => by cases q)
          exact ⟨items.length - (j + 1), by (first | exact om119 lt | omega), j + 1, μa, σa, ha, tka, ys, nn, _, done, rfl, lt, rfl, ra, st2.trans sta, pj.trans sta.pre, frm' sta,
            it.frame _ _ _ at2 fun b o q e => sta.keep b o (frj b (.inl q)) e, da, vj.mono sta.pre, Ns_look n2 fun o e => sta.keep Cn o (frj Cn (.inr (.inr rfl))) e, f2, hrj, by (first | exact om121 hdl | omega)⟩
        · rw [if_neg f2] at hrj; rw [hrj] at Pp; exact Pp.elim
  · rw [List.drop_length] at hrj
    simp only [compLoop, Res.bind_ok, List.append_nil] at hrj
    rw [hrj] at Pp
    refine it.done _ μj σj _ _ pj atj rj cj (cx.step stj rj).hd fun h1 tk1 k1 => ?_
    exact Pp μj h1 tk1 ys nn m (rj.other (P := fun b => P b ∨ b = D ∨ b = Cn) (fun b o nb e => k1 b o (fun z => nb (.inl z)) e) frj hPB)
      (stj.transX (P := fun b => P b ∨ b = D ∨ b = Cn) (List.prefix_refl _) (fun b o _ nb e => k1 b o (fun z => nb (.inl z)) e) (fun b x y => absurd x y) hP)
      (frj D (.inr (.inl rfl))) (frj Cn (.inr (.inr rfl))) (k1 D _ nID dj) vj (Ns_at nj fun o e => k1 Cn o nIC e)


/-- one name -/
noncomputable def Bnd1 (x : Str) (a : Val) (μ : List Addr) (m : Str → Option Value) : Prop := ∃ v, m x = some v ∧ VRel μ a v
theorem iterG_one {xs : List Val} {ck : MH → Bool} {At : Nat → Heap → Prop} {μ₁ : List Addr} {px : Pos} (ok : CompOk inner sc sm x i) (hs : env.scope = sc) (it : Iter prog w B μ₁ xs ck I At) (hq : A.handled = none ∨ ((∀ σ, ck σ = true) ∧ ∃ i, .int i ∈ xs)) (nIC : I ≠ Cn) :
    IterG prog w B A μ₁ xs ck I (fun b => b = I) At (.Name x px) (cenvOf env inner Cn) (Bnd1 x) where
  frame := fun i h h' q k => it.frame i h h' q fun o e => k I o rfl e
  alive := fun i h q b e => let ⟨o, eo⟩ := it.alive i h q; ⟨o, e ▸ eo⟩
  item := fun j a s μ σ m Q E hj hp hat r hc hns hQ => it.item j a A s μ σ _ E hj hp hat r hc fun v h1 tk1 hv at1 k1 => by
    refine ⟨v, rfl, wpAny_of_eq (a := ()) rfl ?_⟩
    have n1 : h1.Ns Cn m := Ns_at hns fun o e => k1 Cn o (Ne.symm nIC) e
    refine wpAny_bind (wpAny_standAt (wpAny_bindName (wpAny_storeName_local (s := { s with heap := h1, toks := tk1 }) (comp_local hs ok.var) n1 (fun h2 n2 s2 => ?_) (by show (inner.kind == .class || (inner.kind == .module && _)) = false; rw [ok.sco.kind]; rfl))))
    exact hQ h2 _ _ (it.frame _ _ _ at1 fun o e => look_keep (fun o => sameBut_keep s2 I o nIC) e) n2 ⟨v, if_pos rfl, hv⟩ fun b o nb nc e => sameBut_keep s2 b o nc (k1 b o nb e)
  done := fun s μ σ Q E hp hat r hc hd hQ => it.done A s μ σ Q E (hq.imp id fun z => ⟨z.1, z.2, hd⟩) hp hat r hc fun h' tk k => hQ h' tk k

end
end Mine


-- part MiniComp4
set_option maxRecDepth 4000
set_option linter.unusedVariables false
namespace Mine
open PySem

section
variable {n : Nat} {C : Cf} {prog : Program} {w : World} {B : Heap} {sc inner : Scope} {sm sm' : List (Str × Nat)}
variable {env : Env} {ρ : Rho} {σ : MH} {μ : List Addr} {s : Shared} {A : Around} {E : Value → Shared → Prop} {X : XE} {x : Str} {i : Nat} {I : Addr}

noncomputable def CorePost (prog : Program) (w : World) (B : Heap) (X : XE) (A : Around) (μ : List Addr) (s : Shared) (use : Option (Value → Sem Unit)) (Q : Value → Shared → Prop) : Res (List Val) → Prop
  | .ok vs σ' => ∀ μ' D Cn h' tk ys k m, HRel B μ' σ' h' → Step μ μ' s.heap h' → D ∉ μ' → Cn ∉ μ' → D ≠ Cn → s.heap.get? D = none → s.heap.get? Cn = none → B.get? D = none → B.get? Cn = none → h'.get? D = some (listObj ys k) → VsRel μ' vs ys → h'.Ns Cn m →
      compPost (model prog w) A X.E use Q (.ref D) Cn (.ok .next) { s with heap := h', toks := tk }
  | .exc c σ' => PostX B X μ s c σ'
  | .stuck => False

/-- the block's names go, and the exception on -/
theorem passed_on {c : Nat} {σ' : MH} {μ' : List Addr} {h' base : Heap} {tk : Nat} {e Cn : Addr} {m : Str → Option Value} {use : Option (Value → Sem Unit)} {Q : Value → Shared → Prop} {acc : Value} (p : PostX B X μ s c σ') (fok : FrOk B X.l μ s.heap)
    (r : HX B μ' σ' base c) (st : StepX μ μ' s.heap base h') (b1 : base.StaysIn h') (b2 : base.get? e = none) (b3 : h'.FunFrames base X.l) (b4 : Trc h' base e (.ref (clsK B c))) (nC : Cn ∉ μ') (ns : h'.Ns Cn m) (sC : s.heap.get? Cn = none) (bC : B.get? Cn = none) :
    compPost (model prog w) A X.E use Q acc Cn (.error (.ref e)) { s with heap := h', toks := tk } := by
  show ∃ m, h'.Ns Cn m ∧ ∀ h2, Heap.SameBut Cn h' h2 → ∀ cenv : Env, cenv.locals = Cn → wpAny (model prog w) A (passOn "comprehension.variables-let-go" (.ref e) cenv : Sem Value) (fun _ _ => False) X.E { s with heap := h2, toks := tk }
  refine ⟨m, ns, fun h2 sb cenv _ => ?_⟩
  refine ob02 b4 fun wz0x0 wz0 => ?_; refine ob78 wz0x0 fun a0 fl oe vs T oT ts t1 t2 t3 t4 t5 t6 t7 wz0 => ?_; obtain ⟨t8, t9⟩ := wz0; refine ob23 wz0 fun oe' vs' c1 c2 c3 => ?_
  refine ob33 ns fun oC es ep eC dC _ => ?_
  have k : ∀ b o, ¬ b = Cn → h'.get? b = some o → h2.get? b = some o := sameBut_keep sb
  have ne : ¬ e = Cn := fun z => by rw [z, eC] at t1; cases t1; rw [dC] at t3; cases t3
  have nT : ¬ T = Cn := fun z => by rw [z, eC] at t7; cases t7; rw [dC] at t8; cases t8
  have k1 : (cut (· = Cn) base).StaysIn h2 := cut_keep b1 k
  have k2 : h2.FunFrames (cut (· = Cn) base) X.l := funFrames_base (fun b => cut_less b) (funFrames_at b3 fun f hf L o hL eo => k L o (fun z => by
    refine ob02 (fok f hf) fun _ wz2 => ?_; refine ob14 wz2 fun L' h1 _ _ wz2 => ?_; obtain ⟨m', h5⟩ := wz2
    rw [hL] at h1; cases h1
    refine ob11 (Ns_alive h5) fun o' e' => ?_
    rw [z, sC] at e'; cases e') eo)
  have k3 : Trc h2 (cut (· = Cn) base) e (.ref (clsK B c)) := ⟨⟨a0, fl, oe, vs, T, oT, ts, k e oe ne t1, t2, t3, t4, cut_less T t5, t6, k T oT nT t7, t8, t9⟩, oe', vs', k e oe' ne c1, c2, c3⟩
  unfold passOn
  refine wpAny_bind (wpAny_field (s := { s with heap := h2, toks := tk }) (k e oe ne t1) t3 t4 ?_)
  rw [if_neg (by simp)]
  refine wpAny_bind (fly_set (s := { s with heap := h2, toks := tk }) k1 k2 k3 fun h3 n1 n2 n3 n4 => wpAny_throw ?_)
  exact p μ' h3 tk e _ ⟨r.1.other (P := fun b => b = Cn) (fun b o nb e => (cut_get (P := fun b => b = Cn) nb).trans e) (fun b z => z ▸ nC) (fun b z => z ▸ bC), r.2⟩ ((st.cut (P := fun b => b = Cn) (fun b z => z ▸ sC) k).hop k1 n1 n4) ⟨n1, cut_less e b2, n2, .inr n3⟩

/-- a comprehension, once its iterator stands -/
theorem comp_coreG {α : Type} {items : List α} {upd : α → Rho} {Bnd : α → List Addr → (Str → Option Value) → Prop} {P : Addr → Prop} {elt cond : MExpr} {e1 iter tgt : Expr} {ifs : List Expr} {pos : Pos} {ck : MH → Bool} {At : Nat → Heap → Prop} {μ₁ : List Addr} {σ₁ : MH} {h₁ : Heap} {tk₁ : Nat} {use : Option (Value → Sem Unit)} {Q : Value → Shared → Prop}
    (ok : CompSc inner sc) (cx : Cx n B X A env sc sm ρ μ σ s.heap) (HE : SE n C prog w B (relabelS inner sc) sm' elt e1) (HT : TestOk n C prog w B (relabelS inner sc) sm' cond ifs)
    (r₁ : HRel B μ₁ σ₁ h₁) (st₁ : Step μ μ₁ s.heap h₁) (fr : ∀ b, P b → s.heap.get? b = none ∧ b ∉ μ₁ ∧ B.get? b = none) (fI : ∀ b, P b → ∃ o, h₁.get? b = some o) (at₁ : At 0 h₁) (c₁ : ck σ₁ = true) (hl : items.length ≤ lim)
    (it : ∀ Cn, (∀ b, P b → b ≠ Cn) → IterG prog w B A μ₁ items ck I P At tgt (cenvOf env inner Cn) Bnd) (hvar : ∀ Cn a μ σ m h, Bnd a μ m → Cx n B X A env sc sm ρ μ σ h → h.Ns Cn m → Vars (cenvOf env inner Cn) sm' (upd a) μ h)
    (again : ∀ (s : Shared) (Q : Value → Shared → Prop) (E : Value → Shared → Prop), At 0 s.heap → Q (.ref I) s → wpAny (model prog w) A (pyIter (.ref I)) Q E s)
    (K : CorePost prog w B X A μ s use Q (compLoop (fun a => gStep (sem C cond).T (sem C elt).E (upd a)) ck items σ₁)) :
    wpAny (model prog w) A (PySem.newList []) (fun acc s₃ => wpAny (model prog w) A (newFunctionEnv inner env.globals (clos env inner.names []) [] env.qual none .none (some env)) (fun cenv s₄ =>
      codeAny (model prog w) A (.compStart (.ListComp e1 [⟨tgt, iter, ifs, 0⟩] inner pos) 0 (.ref I) acc { cenv with scope := relabel inner env }) (compPost (model prog w) A X.E use Q acc cenv.locals) s₄) X.E s₃) X.E { s with heap := h₁, toks := tk₁ } := by
  refine wpAny_newObj_type (wpAny_newFunctionEnv (s := { s with heap := h₁.push _, toks := tk₁ }) ok.nocell (by intro y hy; simp at hy) (fun h₂ hns₂ hsb₂ => ?_) ok.kind)
  dsimp only at hns₂ hsb₂ ⊢
  generalize hH2 : h₁.push { cls := .type "list", dict := none, data := .seq ([] : List Value).toArray } = H2 at hns₂ hsb₂ ⊢
  have hC : H2.objs.size = h₁.objs.size + 1 := by rw [← hH2, Heap.size_push]
  have hDC : h₁.objs.size ≠ H2.objs.size := by rw [hC]; exact Nat.ne_of_lt (Nat.lt_succ_self _)
  have old : ∀ b o, h₁.get? b = some o → h₂.get? b = some o := fun b o e => hsb₂.extBut b o (by rw [hC]; exact Nat.ne_of_lt (Nat.lt_succ_of_lt (Heap.lt_size e))) (Heap.get?_push_of_some _ (hH2 ▸ Heap.get?_push_of_some _ e))
  have hacc : h₂.get? h₁.objs.size = some (listObj [] 0) := hsb₂.extBut _ _ hDC (Heap.get?_push_of_some _ (hH2 ▸ Heap.get?_push_size _ rfl))
  have hnoneC : h₁.get? H2.objs.size = none := by
    cases e : h₁.get? H2.objs.size with
    | none => rfl
    | some o' => exact absurd (Heap.lt_size e) (by rw [hC]; exact Nat.not_lt.mpr (Nat.le_succ _))
  have hs : ∀ b, h₁.get? b = none → b ∉ μ → s.heap.get? b = none := fun b e nm => by
    cases q : s.heap.get? b with
    | none => rfl
    | some o => refine ob12 (look_elim (st₁.keep b _ nm (look_of q))) fun o' e' _ => ?_; rw [e'] at e; cases e
  have r₂ : HRel B μ₁ σ₁ h₂ := r₁.grow old
  have st₂ : Step μ μ₁ s.heap h₂ := st₁.trans (Step.grow old)
  have notmem : ∀ b, h₁.get? b = none → b ∉ μ₁ := fun b e q => by
    refine ob11 (r₁.alive q) fun o g => ?_; rw [e] at g; cases g
  have noB : ∀ b, h₁.get? b = none → B.get? b = none := fun b e => by
    cases q : B.get? b with
    | none => rfl
    | some o => rw [r₁.base b o q] at e; cases e
  have eD := size_none h₁
  have frs : ∀ b, (P b ∨ b = h₁.objs.size ∨ b = H2.objs.size) → s.heap.get? b = none ∧ b ∉ μ₁ ∧ B.get? b = none := fun b q => by
    rcases q with q | rfl | rfl
    · exact fr b q
    · exact ⟨hs _ eD fun q => notmem _ eD (st₁.pre.subset q), notmem _ eD, noB _ eD⟩
    · exact ⟨hs _ hnoneC fun q => notmem _ hnoneC (st₁.pre.subset q), notmem _ hnoneC, noB _ hnoneC⟩
  have nP : ∀ b, h₁.get? b = none → ¬ P b := fun b e q => by refine ob11 (fI b q) fun o eo => ?_; rw [e] at eo; cases eo
  have IT := it H2.objs.size fun b q z => nP _ hnoneC (z ▸ q)
  have at₂ : At 0 h₂ := IT.frame _ _ _ at₁ fun b o _ e => look_keep (old b) e
  have loop : codeAny (model prog w) A (.compLoop (.ListComp e1 [⟨tgt, iter, ifs, 0⟩] inner pos) 0 (.ref I) (.ref h₁.objs.size) (cenvOf env inner H2.objs.size))
      (compPost (model prog w) A X.E use Q (.ref h₁.objs.size) H2.objs.size) { s with heap := h₂, toks := tk₁ + ([] : List (Str × Value)).length } := by
    refine comp_loopG ok cx HE HT IT (hvar _) frs (nP _ eD) (nP _ hnoneC) hDC hl r₂ st₂ at₂ hacc hns₂ c₁ rfl ?_
    revert K
    cases compLoop (fun a => gStep (sem C cond).T (sem C elt).E (upd a)) ck items σ₁ with
    | stuck => exact fun K => K
    | exc c σ' => exact fun K μ' h' tk e base m r st b1 b2 b3 b4 nC ns => passed_on K cx.fok r st b1 b2 b3 b4 nC ns (frs _ (.inr (.inr rfl))).1 (frs _ (.inr (.inr rfl))).2.2
    | ok vs σ' => exact fun K μ' h' tk ys k m q1 q2 q3 q4 q5 q6 q7 =>
      (show CorePost prog w B X A μ s use Q (.ok vs σ') from K) μ' _ _ h' tk ys k m q1 q2 q3 q4 hDC (frs _ (.inr (.inl rfl))).1 (frs _ (.inr (.inr rfl))).1 (frs _ (.inr (.inl rfl))).2.2 (frs _ (.inr (.inr rfl))).2.2 q5 q6 q7
  exact codeAny_compStart_list loop (again _ _ _ at₂ loop)

/-- a comprehension, up to what is done with its list -/
theorem comp_core {elt cond it : MExpr} {e1 iter : Expr} {ifs : List Expr} {px pos cpos : Pos} {use : Option (Value → Sem Unit)} {Q : Value → Shared → Prop} {xs : List Val} {ck : MH → Bool} {σ₁ : MH}
    (ok : CompOk inner sc sm x i) (cx : Cx n B X A env sc sm ρ μ σ s.heap) (HI : SI n C prog w B sc sm it iter) (HE : SE n C prog w B (relabelS inner sc) ((x, i) :: sm) elt e1) (HT : TestOk n C prog w B (relabelS inner sc) ((x, i) :: sm) cond ifs)
    (hi : (sem C it).I ρ σ = .ok (xs, ck) σ₁) (hq : A.handled = none ∨ ((∀ σ, ck σ = true) ∧ ∃ i, .int i ∈ xs)) (K : CorePost prog w B X A μ s use Q (compLoop (compStep (.loc i) (sem C cond).T (sem C elt).E ρ) ck xs σ₁)) :
    wpAny (model prog w) A (comprehension (.ListComp e1 [⟨.Name x px, iter, ifs, 0⟩] inner pos) inner env cpos (PySem.newList []) false (eval iter env) use) Q X.E s := by
  refine wpAny_comprehension_free (g := ⟨.Name x px, iter, ifs, 0⟩) (gs := []) rfl (HI.1 env) (closureFor_of fun p hp q => ?_) ok.sco.kind ok.sco.locs ?_
  · exact cx.frm.has p.1 (by rw [cx.kind]; exact ok.sco.free p hp q)
  refine HI.2 cx ?_
  rw [hi]
  intro μ₁ I At h₁ tk₁ r₁ st₁ i1 i2 i3 itr at₁ c₁ l₁
  exact comp_coreG (P := fun b => b = I) (upd := fun v => ρ.set i (some v)) (Bnd := Bnd1 x) ok.sco cx HE HT r₁ st₁ (fun b q => by subst q; exact ⟨i3, i1, i2⟩) (fun b q => by subst q; exact itr.alive _ _ at₁) at₁ c₁ l₁ (fun Cn hC => iterG_one ok cx.scope itr hq (hC I rfl)) (fun Cn a μ σ m h bnd cx' hn => by
    refine ob12 bnd fun v hm hv => ?_
    exact comp_vars ok cx' hn hm hv) (fun s Q E at0 hQ => itr.again 0 A s Q E at0 hQ) K

/-- a comprehension that comes to a list -/
noncomputable def SC (n : Nat) (C : Cf) (prog : Program) (w : World) (B : Heap) (sc : Scope) (sm : List (Str × Nat)) (res : Rho → MH → Res (List Val)) (e1 tgt iter : Expr) (ifs : List Expr) (inner : Scope) : Prop :=
  ∀ {env ρ σ μ} {s : Shared} {A : Around} {X : XE} {use : Option (Value → Sem Unit)} {Q : Value → Shared → Prop} {pos cpos : Pos}, Cx n B X A env sc sm ρ μ σ s.heap → CorePost prog w B X A μ s use Q (res ρ σ) →
    wpAny (model prog w) A (comprehension (.ListComp e1 [⟨tgt, iter, ifs, 0⟩] inner pos) inner env cpos (PySem.newList []) false (eval iter env) use) Q X.E s
theorem sc_comp {elt cond it : MExpr} {e1 iter : Expr} {ifs : List Expr} {px : Pos} (hq : n < 1000 ∨ ∀ ρ σ xs ck σ₁, (sem C it).I ρ σ = .ok (xs, ck) σ₁ → (∀ σ, ck σ = true) ∧ ∃ i, .int i ∈ xs) (ok : CompOk inner sc sm x i) (HI : SI n C prog w B sc sm it iter) (HE : SE n C prog w B (relabelS inner sc) ((x, i) :: sm) elt e1)
    (HT : TestOk n C prog w B (relabelS inner sc) ((x, i) :: sm) cond ifs) : SC n C prog w B sc sm (fun ρ σ => ((sem C it).I ρ σ).bind fun s h => compLoop (compStep (.loc i) (sem C cond).T (sem C elt).E ρ) s.2 s.1 h) e1 (.Name x px) iter ifs inner := fun {env ρ σ μ s A X use Q pos cpos} cx p => by
  have p : CorePost prog w B X A μ s use Q (((sem C it).I ρ σ).bind fun s h => compLoop (compStep (.loc i) (sem C cond).T (sem C elt).E ρ) s.2 s.1 h) := p
  cases q1 : (sem C it).I ρ σ with
  | exc c h =>
    rw [q1] at p
    refine wpAny_comprehension_free (g := ⟨.Name x px, iter, ifs, 0⟩) (gs := []) rfl (HI.1 env) (closureFor_of fun p hp q => cx.frm.has p.1 (by rw [cx.kind]; exact ok.sco.free p hp q)) ok.sco.kind ok.sco.locs (HI.2 cx ?_)
    rw [q1]; exact p
  | stuck => rw [q1] at p; exact p.elim
  | ok src σ₁ =>
    obtain ⟨xs, ck⟩ := src
    rw [q1] at p
    exact comp_core ok cx HI HE HT q1 (hq.imp (fun z => cx.ok.hnd z) fun z => z _ _ _ _ _ q1) p

/-- the value of a comprehension -/
theorem se_lc {m : MExpr} {res : Rho → MH → Res (List Val)} {e1 tgt iter : Expr} {ifs : List Expr} {pos : Pos} (hE : ∀ ρ h, (sem C m).E ρ h = (res ρ h).bind newList) (H : SC n C prog w B sc sm res e1 tgt iter ifs inner) : SE n C prog w B sc sm m (.ListComp e1 [⟨tgt, iter, ifs, 0⟩] inner pos) := fun {env ρ σ μ s A X Q} cx p => by
  rw [hE] at p
  rw [eval_ListComp]
  refine H cx ?_
  cases q2 : res ρ σ with
  | exc c h => rw [q2] at p; exact p
  | stuck => rw [q2] at p; exact p
  | ok vs σ' =>
    rw [q2] at p
    simp only [Res.bind_ok] at p
    refine fun μ' D Cn h' tk ys k m r st d1 d2 d3 d4 d5 d6 d7 d8 d9 d10 => ⟨m, d10, fun h'' sb => ?_⟩
    unfold newList at p
    split at p
    · rename_i hl
      refine p (μ' ++ [D]) _ h'' tk ?_ ?_ ⟨D, ?_, rfl⟩
      · have r' : HRel B μ' σ' h'' := r.other (P := fun b => b = Cn) (fun b o nb e => sameBut_keep sb b o nb e) (fun b z => z ▸ d2) (fun b z => z ▸ d7)
        exact r'.alloc (fun b o e => e) d1 d6 ⟨hl, ys, k, sameBut_keep sb D _ d3 d8, d9.mono (List.prefix_append _ _)⟩
      · refine ⟨st.pre.trans (List.prefix_append _ _), fun b o nm e => look_keep (fun o' => sameBut_keep sb b o' (fun z => by refine ob12 (look_elim e) fun o2 e2 _ => ?_; rw [z, d5] at e2; cases e2)) (st.keep b o nm e), fun b hb nm => ?_⟩
        rcases List.mem_append.mp hb with hb | hb
        · exact st.fresh b hb nm
        · rw [List.mem_singleton.mp hb]; exact d4
      · rw [← r.len, List.getElem?_append_right (Nat.le_refl _), Nat.sub_self]; rfl
    · exact p.elim
theorem comp_E {elt tgt it cond : MExpr} (ρ : Rho) (h : MH) : (sem C (.comp elt tgt it cond)).E ρ h = (((sem C it).I ρ h).bind fun s h => compLoop (compStep tgt (sem C cond).T (sem C elt).E ρ) s.2 s.1 h).bind newList := by
  rw [Res.bind_assoc]; rfl

end
end Mine


-- part MiniCls3
set_option maxRecDepth 4000
set_option linter.unusedVariables false
namespace Mine
open PySem

section
variable {n : Nat} {C : Cf} {prog : Program} {w : World} {B : Heap} {sc : Scope} {sm : List (Str × Nat)} {g : GMap} {F : Nat → Option MFun} {mg mb : Str → Option Value}
variable {env : Env} {ρ : Rho} {σ : MH} {μ : List Addr} {s : Shared} {A : Around} {E : Value → Shared → Prop} {X : XE}

theorem listsOf_elim {h : MH} {v : Val} {xs : List Val} (e : listsOf h v = some xs) : ∃ i, v = .ref i ∧ h[i]? = some (.list xs) := by
  cases v with
  | ref i =>
    have e : (match h[i]? with | some (.list xs) => some xs | some (.ro _) => none | some (.tup _) => none | some (.inst _) => none | some .aux => none | none => none) = some xs := e
    cases q : h[i]? with
    | none => rw [q] at e; cases e
    | some o =>
      rw [q] at e
      cases o with
      | list ys => cases e; exact ⟨i, rfl, q⟩
      | _ => cases e
  | _ => cases e
theorem CorePost.step {use : Option (Value → Sem Unit)} {Q : Value → Shared → Prop} {x : Res (List Val)} {μ' : List Addr} {h' : Heap} {tk : Nat} (p : CorePost prog w B X A μ s use Q x) (st : Step μ μ' s.heap h') : CorePost prog w B X A μ' { s with heap := h', toks := tk } use Q x := by
  have old : ∀ {b : Addr} {μ'' : List Addr} {h'' : Heap}, Step μ' μ'' h' h'' → h'.get? b = none → b ∉ μ'' → s.heap.get? b = none := fun {b μ'' h''} st' e nm => by
    cases q : s.heap.get? b with
    | none => rfl
    | some o =>
      have n0 : b ∉ μ := fun z => nm ((st.pre.trans st'.pre).subset z)
      refine ob12 (look_elim (st.keep b _ n0 (look_of q))) fun o' e' _ => ?_; rw [e'] at e; cases e
  cases x with
  | ok vs σ' => intro μ'' D Cn h'' tk' ys k m r st' d1 d2 d3 d4 d5 d6 d7 d8 d9 d10; exact p μ'' D Cn h'' tk' ys k m r (st.trans st') d1 d2 d3 (old st' d4 d1) (old st' d5 d2) d6 d7 d8 d9 d10
  | exc c h => exact PostX.step p st
  | stuck => exact p
theorem CorePost.bindR {γ δ : Type} {V : List Addr → γ → δ → Prop} {use : Option (Value → Sem Unit)} {Q : Value → Shared → Prop} {Q' : δ → Shared → Prop} {r : Res γ} {f : γ → MH → Res (List Val)} (cx : Cx n B X A env sc sm ρ μ σ s.heap) (p : CorePost prog w B X A μ s use Q (r.bind f))
    (k : ∀ v σ1 μ1 v' h1 tk, Cx n B X A env sc sm ρ μ1 σ1 h1 → Step μ μ1 s.heap h1 → V μ1 v v' → CorePost prog w B X A μ1 { s with heap := h1, toks := tk } use Q (f v σ1) → Q' v' { s with heap := h1, toks := tk }) : Post B X V μ s Q' r := by
  cases r with
  | ok v σ1 => intro μ1 v' h1 tk r1 st hv; exact k v σ1 μ1 v' h1 tk (cx.step st r1) st hv (CorePost.step (x := f v σ1) p st)
  | exc c h => exact p
  | stuck => exact p

end
end Mine


-- part MiniPair
set_option maxRecDepth 4000
set_option linter.unusedVariables false
namespace Mine
open PySem

section
variable {n : Nat} {C : Cf} {prog : Program} {w : World} {B : Heap} {sc inner : Scope} {sm : List (Str × Nat)}
variable {env : Env} {ρ : Rho} {σ : MH} {μ : List Addr} {s : Shared} {A : Around} {X : XE} {E : Value → Shared → Prop} {x y : Str} {i j : Nat} {D I Cn : Addr} {h : Heap}

theorem assign_pair {px py tp : Pos} {k : Nat} {T : Addr} {a b : Value} {m : Str → Option Value} {Q : Unit → Shared → Prop} (hh : A.handled = none) (kx : env.kindOf x = some .local) (ky : env.kindOf y = some .local)
    (hp : (env.scope.kind == .class || (env.scope.kind == .module && env.locals != env.globals)) = false) (hT : s.heap.IsTuple T #[a, b]) (hn : s.heap.Ns env.locals m)
    (hQ : ∀ h' tk, h'.Ns env.locals (fun z => if z = y then some b else if z = x then some a else m z) → (∀ c o, c ≠ env.locals → s.heap.get? c = some o → h'.get? c = some o) → Q () { s with heap := h', toks := tk }) :
    wpAny (model prog w) A (assign (.Tuple [.Name x px, .Name y py] k tp) env (.ref T)) Q E s := by
  refine wpAny_assign_Tuple hh hT rfl rfl fun h1 eb => ?_
  have k1 : ∀ b o, s.heap.get? b = some o → h1.get? b = some o := fun b o e => eb b o (Nat.ne_of_lt (Heap.lt_size e)) e
  show wpAny (model prog w) A (holding [b] (assign (.Name x px) env a) >>= fun _ => holding [] (assign (.Name y py) env b) >>= fun _ => pure ()) Q E { s with heap := h1 }
  refine wpAny_bind (wpAny_holding (wpAny_bind (wpAny_standAt (wpAny_bindName (wpAny_storeName_local (s := { s with heap := h1 }) kx (Ns_at hn fun o e => k1 _ o e) (fun h2 n2 s2 => ?_) hp)))))
  refine wpAny_bind (wpAny_holding (wpAny_bind (wpAny_standAt (wpAny_bindName (wpAny_storeName_local (s := { s with heap := h2, toks := _ }) ky n2 (fun h3 n3 s3 => ?_) hp)))))
  exact wpAny_pure (hQ h3 _ n3 fun c o nc e => sameBut_keep s3 c o nc (sameBut_keep s2 c o nc (k1 c o e)))

structure CompOk2 (inner sc : Scope) (sm : List (Str × Nat)) (x y : Str) (i j : Nat) : Prop where
  sco : CompSc inner sc
  varx : inner.names.lookup x = some .local
  vary : inner.names.lookup y = some .local
  only : ∀ p ∈ inner.names, p.2 = .local → p.1 = x ∨ p.1 = y ∨ sm.lookup p.1 = none
  slot : ∀ z k, sm.lookup z = some k → k ≠ i ∧ k ≠ j
  nij : i ≠ j
  nxy : x ≠ y

theorem pairsOf_get {h : MH} : ∀ {xs : List Val} {ps : List (Val × Val)} {k : Nat} {p : Val × Val}, pairsOf h xs = some ps → ps[k]? = some p → ∃ i, xs[k]? = some (.ref i) ∧ h[i]? = some (.tup [p.1, p.2])
  | [], ps, k, p, e, g => by cases e; simp at g
  | v :: r, ps, k, p, e, g => by
    unfold pairsOf at e
    split at e
    · rename_i i
      split at e
      · rename_i u w hi
        cases q : pairsOf h r with
        | none => rw [q] at e; cases e
        | some ps' =>
          rw [q] at e; cases e
          cases k with
          | zero => cases g; exact ⟨i, rfl, hi⟩
          | succ k =>
            have g : ps'[k]? = some p := by simpa using g
            have := pairsOf_get (xs := r) q g
            simpa using this
      · cases e
    · cases e
theorem pairsOf_len {h : MH} : ∀ {xs : List Val} {ps : List (Val × Val)}, pairsOf h xs = some ps → ps.length = xs.length
  | [], ps, e => by cases e; rfl
  | v :: r, ps, e => by
    unfold pairsOf at e
    split at e
    · split at e
      · cases q : pairsOf h r with
        | none => rw [q] at e; cases e
        | some ps' => rw [q] at e; cases e; simp [pairsOf_len q]
      · cases e
    · cases e
theorem comp_vars2 (ok : CompOk2 inner sc sm x y i j) (cx : Cx n B X A env sc sm ρ μ σ h) {m : Str → Option Value} (hn : h.Ns D m) {u v : Val} {u' v' : Value} (hx : m x = some u') (hu : VRel μ u u') (hy : m y = some v') (hv : VRel μ v v') :
    Vars (cenvOf env inner D) ((x, i) :: (y, j) :: sm) ((ρ.set i (some u)).set j (some v)) μ h := by
  intro z k t hz hl he
  rw [List.lookup_cons] at hl
  by_cases ex : (z == x) = true
  · rw [ex] at hl
    rw [beq_iff_eq] at ex; subst ex
    cases hl
    rw [List.getElem?_set_ne (Ne.symm ok.nij)] at he
    rw [slot_val he]
    exact ⟨u', .inl ⟨comp_local cx.scope ok.varx, m, hn, hx⟩, hu⟩
  · rw [show (z == x) = false by simpa using ex] at hl
    simp only [List.lookup_cons] at hl
    by_cases ey : (z == y) = true
    · rw [ey] at hl
      rw [beq_iff_eq] at ey; subst ey
      cases hl
      rw [slot_val he]
      exact ⟨v', .inl ⟨comp_local cx.scope ok.vary, m, hn, hy⟩, hv⟩
    · rw [show (z == y) = false by simpa using ey] at hl
      have sl := ok.slot z k hl
      rw [List.getElem?_set_ne (Ne.symm sl.2), List.getElem?_set_ne (Ne.symm sl.1)] at he
      refine comp_outer ok.sco cx (fun q => ?_) hz hl he
      rcases ok.only _ (mem_of_lookup q) rfl with q | q | q
      · simp at q; subst q; simp at ex
      · simp at q; subst q; simp at ey
      · simp only at q; rw [q] at hl; cases hl

/-- what a pair binds -/
noncomputable def Bnd2 (x y : Str) (p : Val × Val) (μ : List Addr) (m : Str → Option Value) : Prop := ∃ u v, m x = some u ∧ VRel μ p.1 u ∧ m y = some v ∧ VRel μ p.2 v

/-- a list of pairs -/
theorem iterG_pairs {xs : List Val} {ps : List (Val × Val)} {ck : MH → Bool} {l : Nat} {al : Addr} {px py tp : Pos} {k : Nat} (hh : A.handled = none) (ok : CompOk2 inner sc sm x y i j) (hs : env.scope = sc) (ea : μ[l]? = some al)
    (hck : ∀ σ', ck σ' = true → seqOf σ' l = some (true, xs) ∧ pairsOf σ' xs = some ps) (hlen : ps.length = xs.length) :
    IterG prog w B A μ ps ck I (fun b => b = I) (fun i h => h.IsListIter I al i) (.Tuple [.Name x px, .Name y py] k tp) (cenvOf env inner Cn) (Bnd2 x y) where
  frame := fun i h h' q k => let ⟨o, e, c, d⟩ := q; ⟨o, look_fields (fun o => k I o rfl) e d, c, d⟩
  alive := fun i h q b e => let ⟨o, eo, _⟩ := q; ⟨o, e ▸ eo⟩
  item := fun k p s μ' σ' m Q E hp hpre hat r hc hns hQ => by
    refine ob02 (hck σ' hc) fun c1 c2 => ?_
    refine ob02 (r.seq (getElem?_prefix hpre ea) c1) fun l' wz0 => ?_; refine ob22 wz0 fun ys mm hy g => ?_; clear wz0
    refine ob12 (pairsOf_get c2 hp) fun t hx ht => ?_
    refine ob12 (hy.get hx) fun v e1 e2 => ?_
    refine ob12 e2 fun at' et ez3x2 => ?_; clear e2; subst ez3x2
    refine ob02 (r.at et ht) fun lt wz4 => ?_; refine ob22 wz4 fun ys2 n2 gt vt => ?_; clear wz4
    refine ob23 vt fun u' _ ez5x2 hu wz5 => ?_; clear vt; subst ez5x2; refine ob23 wz5 fun v' _ ez3x2 hv ez3x4 => ?_; clear wz5; subst ez3x2; subst ez3x4
    refine wpAny_pyNext_list_item hat (isList_of g) (by simpa using e1) fun h' x1 x2 => ⟨_, rfl, wpAny_letOwnedTupleGo_listiter x1 ?_⟩
    have nI : ∀ b o, b ≠ I → s.heap.get? b = some o → h'.get? b = some o := sameBut_keep x2
    have tI : at' ≠ I := fun z => by
      refine ob13 hat fun o eo c d => ?_; clear hat
      rw [z, eo] at gt; cases gt; cases d
    have cI : (cenvOf env inner Cn).locals ≠ I := fun z => by
      refine ob33 hns fun o es ep eo d _ => ?_; clear hns
      refine ob13 hat fun o' eo' c d' => ?_; clear hat
      rw [z, eo'] at eo; cases eo; rw [d'] at d; cases d
    refine assign_pair (s := { s with heap := h' }) hh (comp_local hs ok.varx) (comp_local hs ok.vary) (by show (inner.kind == .class || (inner.kind == .module && _)) = false; rw [ok.sco.kind]; rfl) (isTup_of (nI _ _ tI gt)) (Ns_at hns fun o e => nI _ o cI e) fun h2 tk2 n2 k2 => ?_
    refine hQ h2 tk2 _ ?_ n2 ⟨u', v', (if_neg ok.nxy).trans (if_pos rfl), hu, if_pos rfl, hv⟩ fun b o nb nc e => k2 b o nc (nI b o nb e)
    refine ob13 x1 fun o eo c d => ?_; clear x1
    exact ⟨o, k2 I o (Ne.symm cI) eo, c, d⟩
  done := fun s μ' σ' Q E hpre hat r hc _ hQ => by
    refine ob02 (hck σ' hc) fun c1 c2 => ?_
    refine ob02 (r.seq (getElem?_prefix hpre ea) c1) fun l' wz10 => ?_; refine ob22 wz10 fun ys mm hy g => ?_; clear wz10
    exact wpAny_pyNext_list_end hh hat (isList_of g) (by simp [hy.length, hlen]) fun h' x1 => hQ h' s.toks x1

theorem zip_get : ∀ {xs ys : List Val} {k : Nat} {p : Val × Val}, (zipVals xs ys)[k]? = some p → xs[k]? = some p.1 ∧ ys[k]? = some p.2
  | [], ys, k, p, e => by simp [zipVals] at e
  | x :: xs, [], k, p, e => by simp [zipVals] at e
  | x :: xs, y :: ys, 0, p, e => by cases e; exact ⟨rfl, rfl⟩
  | x :: xs, y :: ys, k + 1, p, e => by simpa using zip_get (xs := xs) (ys := ys) (k := k) (p := p) (by simpa [zipVals] using e)
theorem zip_end : ∀ {xs ys : List Val}, xs[(zipVals xs ys).length]? = none ∨ ys[(zipVals xs ys).length]? = none
  | [], ys => .inl (by simp [zipVals])
  | x :: xs, [] => .inr (by simp [zipVals])
  | x :: xs, y :: ys => by simpa [zipVals] using zip_end (xs := xs) (ys := ys)
theorem zip_len : ∀ {xs ys : List Val}, (zipVals xs ys).length ≤ xs.length
  | [], ys => by simp [zipVals]
  | x :: xs, [] => by simp [zipVals]
  | x :: xs, y :: ys => by simpa [zipVals] using zip_len (xs := xs) (ys := ys)

noncomputable def ZipAt (z TI TO i1 i2 l1 l2 : Addr) (k : Nat) (h : Heap) : Prop := IsZip h z TI TO .none ∧ IsPair h TI (.ref i1) (.ref i2) ∧ (∃ a b, IsPair h TO a b) ∧ h.IsListIter i1 l1 k ∧ h.IsListIter i2 l2 k
/-- zip of two lists -/
theorem iterG_zip {xs ys : List Val} {ck : MH → Bool} {l1 l2 : Nat} {a1 a2 z TI TO i1 i2 : Addr} {px py tp : Pos} {k : Nat} (hh : A.handled = none) (ok : CompOk2 inner sc sm x y i j) (hs : env.scope = sc) (e1 : μ[l1]? = some a1) (e2 : μ[l2]? = some a2) (D : ZipApart z TI TO i1 i2 a1 a2)
    (hck : ∀ σ', ck σ' = true → seqOf σ' l1 = some (true, xs) ∧ seqOf σ' l2 = some (true, ys)) (hC : ∀ b, (b = z ∨ b = TI ∨ b = TO ∨ b = i1 ∨ b = i2) → b ≠ Cn) :
    IterG prog w B A μ (zipVals xs ys) ck z (fun b => b = z ∨ b = TI ∨ b = TO ∨ b = i1 ∨ b = i2) (ZipAt z TI TO i1 i2 a1 a2) (.Tuple [.Name x px, .Name y py] k tp) (cenvOf env inner Cn) (Bnd2 x y) where
  frame := fun k h h' q kp => by
    refine ob05 q fun q1 q2 wz11x2 wz11x3 wz11 => ?_; clear q; refine ob21 wz11x2 fun a b q3 => ?_; clear wz11x2; refine ob13 wz11x3 fun o4 q4 c4 d4 => ?_; clear wz11x3; refine ob13 wz11 fun o5 q5 c5 d5 => ?_; clear wz11
    have kk : ∀ b o, (b = z ∨ b = TI ∨ b = TO ∨ b = i1 ∨ b = i2) → (∀ es ep, o.data ≠ .dict es ep) → h.get? b = some o → h'.get? b = some o := fun b o pb nd e => by
      have := kp b _ pb (look_of e)
      rw [nrm_of nd] at this
      exact get_of_look this nd
    exact ⟨kk _ _ (.inl rfl) (by intro _ _ q; cases q) q1, kk _ _ (.inr (.inl rfl)) (by intro _ _ q; cases q) q2, ⟨a, b, kk _ _ (.inr (.inr (.inl rfl))) (by intro _ _ q; cases q) q3⟩,
      ⟨o4, kk _ _ (.inr (.inr (.inr (.inl rfl)))) (by intro _ _ q; rw [d4] at q; cases q) q4, c4, d4⟩, ⟨o5, kk _ _ (.inr (.inr (.inr (.inr rfl)))) (by intro _ _ q; rw [d5] at q; cases q) q5, c5, d5⟩⟩
  alive := fun k h q b e => by
    refine ob05 q fun q1 q2 wz12x2 wz12x3 wz12 => ?_; clear q; refine ob21 wz12x2 fun a b q3 => ?_; clear wz12x2; refine ob12 wz12x3 fun o4 q4 _ => ?_; clear wz12x3; refine ob12 wz12 fun o5 q5 _ => ?_; clear wz12
    rcases e with rfl | rfl | rfl | rfl | rfl
    · exact ⟨_, q1⟩
    · exact ⟨_, q2⟩
    · exact ⟨_, q3⟩
    · exact ⟨_, q4⟩
    · exact ⟨_, q5⟩
  item := fun k p s μ' σ' m Q E hp hpre hat r hc hns hQ => by
    refine ob02 (hck σ' hc) fun c1 c2 => ?_
    refine ob05 hat fun q1 q2 wz13x2 q4 q5 => ?_; clear hat; refine ob21 wz13x2 fun a b q3 => ?_; clear wz13x2
    refine ob02 (zip_get hp) fun p1 p2 => ?_
    refine ob02 (r.seq (getElem?_prefix hpre e1) c1) fun _ wz14 => ?_; refine ob22 wz14 fun ys1 m1 hy1 g1 => ?_; clear wz14
    refine ob02 (r.seq (getElem?_prefix hpre e2) c2) fun _ wz15 => ?_; refine ob22 wz15 fun ys2 m2 hy2 g2 => ?_; clear wz15
    refine ob12 (hy1.get p1) fun u' f1 hu => ?_
    refine ob12 (hy2.get p2) fun v' f2 hv => ?_
    refine wpAny_pyNext_zip_item D q1 q2 q3 q4 q5 (isList_of g1) (isList_of g2) (by simpa using f1) (by simpa using f2) fun h1 z1 z2 z3 z4 z5 z6 z7 => ⟨_, rfl, wpAny_letOwnedTupleGo_zip (s := { s with heap := h1 }) z1 fun h2 w1 w2 => ?_⟩
    have nz : ∀ b o, b ≠ z → h1.get? b = some o → h2.get? b = some o := sameBut_keep w2
    have lz := Heap.lt_size q1
    have Tz : s.heap.objs.size ≠ z := fun q => by rw [q] at lz; exact Nat.lt_irrefl _ lz
    have n0 : h1.Ns (cenvOf env inner Cn).locals m := Ns_at hns fun o e => z7 _ o (Ne.symm (hC z (.inl rfl))) (Ne.symm (hC TO (.inr (.inr (.inl rfl))))) (Ne.symm (hC i1 (.inr (.inr (.inr (.inl rfl)))))) (Ne.symm (hC i2 (.inr (.inr (.inr (.inr rfl)))))) e
    refine assign_pair (s := { s with heap := h2 }) hh (comp_local hs ok.varx) (comp_local hs ok.vary) (by show (inner.kind == .class || (inner.kind == .module && _)) = false; rw [ok.sco.kind]; rfl) (a := u') (b := v') ⟨_, nz _ _ Tz z5, rfl, _, rfl⟩ (Ns_at n0 fun o e => nz _ o (Ne.symm (hC z (.inl rfl))) e) fun h3 tk3 n3 k3 => ?_
    refine hQ h3 tk3 _ ⟨k3 _ _ (hC z (.inl rfl)) w1, k3 _ _ (hC TI (.inr (.inl rfl))) (nz _ _ D.TIz (z7 _ _ D.TIz D.TITO D.TIi1 D.TIi2 q2)), ⟨_, _, k3 _ _ (hC TO (.inr (.inr (.inl rfl)))) (nz _ _ D.TOz z2)⟩, ?_, ?_⟩ n3 ⟨u', v', (if_neg ok.nxy).trans (if_pos rfl), hu, if_pos rfl, hv⟩ fun b o nb nc e => k3 b o nc (nz b o (fun q => nb (.inl q)) (z7 b o (fun q => nb (.inl q)) (fun q => nb (.inr (.inr (.inl q)))) (fun q => nb (.inr (.inr (.inr (.inl q))))) (fun q => nb (.inr (.inr (.inr (.inr q))))) e))
    · exact (z3.at fun o e => k3 _ _ (hC i1 (.inr (.inr (.inr (.inl rfl))))) (nz _ _ D.i1z e))
    · exact (z4.at fun o e => k3 _ _ (hC i2 (.inr (.inr (.inr (.inr rfl))))) (nz _ _ D.i2z e))
  done := fun s μ' σ' Q E hpre hat r hc _ hQ => by
    refine ob02 (hck σ' hc) fun c1 c2 => ?_
    refine ob05 hat fun q1 q2 wz18x2 q4 q5 => ?_; clear hat; refine ob21 wz18x2 fun a b q3 => ?_; clear wz18x2
    refine ob02 (r.seq (getElem?_prefix hpre e1) c1) fun _ wz19 => ?_; refine ob22 wz19 fun ys1 m1 hy1 g1 => ?_; clear wz19
    refine ob02 (r.seq (getElem?_prefix hpre e2) c2) fun _ wz20 => ?_; refine ob22 wz20 fun ys2 m2 hy2 g2 => ?_; clear wz20
    refine wpAny_pyNext_zip_end hh D q1 q2 q3 q4 q5 (isList_of g1) (isList_of g2) ?_ fun h' k' => hQ h' s.toks fun b o nb e => k' b o (fun q => nb (.inl q)) (fun q => nb (.inr (.inr (.inl q)))) (fun q => nb (.inr (.inr (.inr (.inl q))))) (fun q => nb (.inr (.inr (.inr (.inr q))))) e
    rcases zip_end (xs := xs) (ys := ys) with q | q
    · left; simpa [hy1.length] using q
    · right; simpa [hy2.length] using q
end
end Mine


-- part MiniPair3
set_option maxRecDepth 4000
set_option linter.unusedVariables false
namespace Mine
open PySem

section
variable {n : Nat} {C : Cf} {prog : Program} {w : World} {B : Heap} {sc inner : Scope} {sm : List (Str × Nat)} {g : GMap} {F : Nat → Option MFun} {mg mb : Str → Option Value}
variable {env : Env} {ρ : Rho} {σ : MH} {μ : List Addr} {s : Shared} {A : Around} {X : XE} {E : Value → Shared → Prop} {x y : Str} {i j : Nat} {I : Addr}

theorem lists_seq {h : MH} {l : Nat} {xs : List Val} (e : listsOf h (.ref l) = some xs) : seqOf h l = some (true, xs) := by
  refine ob12 (listsOf_elim e) fun i q g => ?_
  cases q
  unfold seqOf; rw [g]
theorem hvar2 (ok : CompOk2 inner sc sm x y i j) : ∀ (Cn : Addr) (p : Val × Val) (μ : List Addr) (σ : MH) (m : Str → Option Value) (h : Heap), Bnd2 x y p μ m → Cx n B X A env sc sm ρ μ σ h → h.Ns Cn m → Vars (cenvOf env inner Cn) ((x, i) :: (y, j) :: sm) ((ρ.set i (some p.1)).set j (some p.2)) μ h := fun Cn p μ σ m h b cx hn => by
  refine ob24 b fun u v h1 h2 h3 h4 => ?_; clear b
  exact comp_vars2 ok cx hn h1 h2 h3 h4

/-- [.. for x, y in L if ..] -/
theorem sc_compp [Small n] {elt cond a : MExpr} {e1 iter : Expr} {ifs : List Expr} {px py tp : Pos} {k : Nat} (ok : CompOk2 inner sc sm x y i j) (hset : ∀ env x, foldedSetIterable iter env x = pure x) (ha : SE n C prog w B sc sm a iter)
    (HE : SE n C prog w B (relabelS inner sc) ((x, i) :: (y, j) :: sm) elt e1) (HT : TestOk n C prog w B (relabelS inner sc) ((x, i) :: (y, j) :: sm) cond ifs) :
    SC n C prog w B sc sm (fun ρ σ => ((sem C a).E ρ σ).bind fun v h => comppL (pStep (sem C cond).T (sem C elt).E i j ρ) h v) e1 (.Tuple [.Name x px, .Name y py] k tp) iter ifs inner := fun {env ρ σ μ s A X use Q pos cpos} cx p => by
  have p : CorePost prog w B X A μ s use Q (((sem C a).E ρ σ).bind fun v h => comppL (pStep (sem C cond).T (sem C elt).E i j ρ) h v) := p
  refine wpAny_comprehension_free (g := ⟨.Tuple [.Name x px, .Name y py] k tp, iter, ifs, 0⟩) (gs := []) rfl (hset env) (closureFor_of fun p hp q => cx.frm.has p.1 (by rw [cx.kind]; exact ok.sco.free p hp q)) ok.sco.kind ok.sco.locs ?_
  refine ha cx (p.bindR cx fun v σ1 μ1 v' h1 tk cx1 st1 hv q => ?_)
  unfold comppL at q
  cases hx : listsOf σ1 v with
  | none => rw [hx] at q; exact q.elim
  | some xs =>
  cases hy : pairsOf σ1 xs with
  | none => rw [hx] at q; simp only [hy] at q; exact q.elim
  | some ps =>
  rw [hx] at q
  simp only [hy] at q
  refine ob12 (listsOf_elim hx) fun l ez2x1 gl => ?_; subst ez2x1
  refine ob12 hv fun al el ez3x2 => ?_; clear hv; subst ez3x2
  refine ob02 (cx1.rel.at el gl) fun lx wz4 => ?_; refine ob22 wz4 fun xs' n1 gx vx => ?_; clear wz4
  refine wpAny_pyIter_list (s := { s with heap := h1, toks := tk }) (isList_of gx) ?_
  have k2 := push_keep h1 { cls := .type "list_iterator", dict := none, data := .fields #[.ref al, rawInt 0] }
  refine comp_coreG (s := { s with heap := h1, toks := tk }) (I := h1.objs.size) (P := fun b => b = h1.objs.size) (upd := fun p => (ρ.set i (some p.1)).set j (some p.2)) (Bnd := Bnd2 x y) (items := ps) (At := fun i h => h.IsListIter h1.objs.size al i) ok.sco cx1 HE HT (cx1.rel.grow k2) (Step.grow k2) (fun b q => by subst q; exact ⟨size_none _, HRel.fresh (s := { s with heap := h1, toks := tk }) cx1.rel, HRel.freshB (s := { s with heap := h1, toks := tk }) cx1.rel⟩) (fun b q => by subst q; exact ⟨_, Heap.get?_push_size _ rfl⟩)
    ⟨_, Heap.get?_push_size _ rfl, rfl, rfl⟩ ?_ ?_ (fun Cn hC => iterG_pairs (l := l) (xs := xs) cx.ok.handled ok cx.scope el (fun σ' hc => ?_) (pairsOf_len hy)) (fun Cn => hvar2 ok Cn) (fun s Q E at0 hQ => wpAny_pyIter_listiter at0 hQ) q
  · show (decide (listsOf σ1 (.ref l) = some xs) && decide (pairsOf σ1 xs = some ps)) = true
    rw [decide_eq_true hx, decide_eq_true hy]; rfl
  · rw [pairsOf_len hy]; exact lx
  · have hc : (decide (listsOf σ' (.ref l) = some xs) && decide (pairsOf σ' xs = some ps)) = true := hc
    rw [Bool.and_eq_true, decide_eq_true_eq, decide_eq_true_eq] at hc
    exact ⟨lists_seq hc.1, hc.2⟩

/-- [.. for x, y in zip(a, b)] -/
theorem sc_compq [Small n] {elt a b : MExpr} {z : Str} {y1 z1 e1 : Expr} {px py tp p1 p2 : Pos} {k : Nat} (G : GOk g F B mg mb) (h : globK g sc z (.ty "zip") = true) (ok : CompOk2 inner sc sm x y i j) (hs : isStar y1 = false) (hs' : isStar z1 = false) (ha : SE n C prog w B sc sm a y1) (hb : SE n C prog w B sc sm b z1)
    (HE : SE n C prog w B (relabelS inner sc) ((x, i) :: (y, j) :: sm) elt e1) :
    SC n C prog w B sc sm (fun ρ σ => ((sem C a).E ρ σ).bind fun v h => ((sem C b).E ρ h).bind fun w h => compqL (pStep (fun _ h => .ok true h) (sem C elt).E i j ρ) h v w) e1 (.Tuple [.Name x px, .Name y py] k tp) (.Call (.Name z p1) [y1, z1] [] p2) [] inner := fun {env ρ σ μ s A X use Q pos cpos} cx p => by
  have p : CorePost prog w B X A μ s use Q (((sem C a).E ρ σ).bind fun v h => ((sem C b).E ρ h).bind fun w h => compqL (pStep (fun _ h => .ok true h) (sem C elt).E i j ρ) h v w) := p
  refine wpAny_comprehension_free (g := ⟨.Tuple [.Name x px, .Name y py] k tp, .Call (.Name z p1) [y1, z1] [] p2, [], 0⟩) (gs := []) rfl (fun _ => rfl) (closureFor_of fun p hp q => cx.frm.has p.1 (by rw [cx.kind]; exact ok.sco.free p hp q)) ok.sco.kind ok.sco.locs ?_
  refine call_bi G h (G.ty z _ (globK_split h).2.2) (.inl ⟨_, rfl⟩) cx (noStar_two hs hs') (two_spliced hs hs' (ha cx (p.bindR cx fun v σ1 μ1 v' h1 tk cx1 st1 hv q => hb cx1 (q.bindR (s := { s with heap := h1, toks := tk }) cx1 fun u σ2 μ2 u' h2 tk2 cx2 st2 hu q2 => ?_))))
  have q2 : CorePost prog w B X A μ2 { s with heap := h2, toks := tk2 } use Q (compqL (pStep (fun _ h => .ok true h) (sem C elt).E i j ρ) σ2 v u) := q2
  unfold compqL at q2
  cases hx1 : listsOf σ2 v with
  | none => rw [hx1] at q2; exact q2.elim
  | some xs =>
  cases hy1 : listsOf σ2 u with
  | none => rw [hx1] at q2; simp only [hy1] at q2; exact q2.elim
  | some ys =>
  rw [hx1] at q2
  simp only [hy1] at q2
  refine ob12 (listsOf_elim hx1) fun li ez5x1 gi => ?_; subst ez5x1
  refine ob12 (listsOf_elim hy1) fun lj ez6x1 gj => ?_; subst ez6x1
  refine ob12 (hv.mono st2.pre) fun ai ei ez7x2 => ?_; subst ez7x2
  refine ob12 hu fun aj ej ez8x2 => ?_; clear hu; subst ez8x2
  refine ob02 (cx2.rel.at ei gi) fun lx wz9 => ?_; refine ob22 wz9 fun xs' n1 gx vx => ?_; clear wz9
  refine ob02 (cx2.rel.at ej gj) fun ly wz10 => ?_; refine ob22 wz10 fun ys' n2 gy vy => ?_; clear wz10
  refine call_zip_2 (s := { s with heap := h2, toks := tk2 }) (isList_of gx) (isList_of gy) fun h3 z1 z2 z3 z4 z5 z6 z7 => ?_
  refine wpAny_pyIter_zip (s := { s with heap := h3, toks := tk2 }) z1 ?_
  have lx' := Heap.lt_size gx
  have ly' := Heap.lt_size gy
  have D : ZipApart (h2.objs.size + 4) (h2.objs.size + 2) (h2.objs.size + 3) h2.objs.size (h2.objs.size + 1) ai aj := by
    have n1 : ∀ m : Nat, ai ≠ h2.objs.size + m := fun m => Nat.ne_of_lt (Nat.lt_of_lt_of_le lx' (Nat.le_add_right _ _))
    have n2 : ∀ m : Nat, aj ≠ h2.objs.size + m := fun m => Nat.ne_of_lt (Nat.lt_of_lt_of_le ly' (Nat.le_add_right _ _))
    have n3 : ∀ m k : Nat, m ≠ k → h2.objs.size + m ≠ h2.objs.size + k := fun m k h e => h (Nat.add_left_cancel e)
    have n4 : ∀ m : Nat, m ≠ 0 → h2.objs.size + m ≠ h2.objs.size := fun m h e => h (by exact Nat.add_left_cancel (k := 0) (by rw [Nat.add_zero]; exact e))
    constructor <;> first | exact n1 _ | exact n2 _ | exact n3 _ _ (by decide) | exact n4 _ (by decide) | exact Ne.symm (n4 _ (by decide)) | exact n1 0 | exact n2 0
  have none_of : ∀ m : Nat, h2.get? (h2.objs.size + m) = none := fun m => by
    cases e : h2.get? (h2.objs.size + m) with
    | none => rfl
    | some o => exact absurd (Heap.lt_size e) (Nat.not_lt.mpr (Nat.le_add_right _ _))
  have own : ∀ b, (b = h2.objs.size + 4 ∨ b = h2.objs.size + 2 ∨ b = h2.objs.size + 3 ∨ b = h2.objs.size ∨ b = h2.objs.size + 1) → h2.get? b = none := fun b q => by
    rcases q with rfl | rfl | rfl | rfl | rfl
    · exact none_of 4
    · exact none_of 2
    · exact none_of 3
    · exact none_of 0
    · exact none_of 1
  refine comp_coreG (s := { s with heap := h2, toks := tk2 }) (I := h2.objs.size + 4) (upd := fun p => (ρ.set i (some p.1)).set j (some p.2)) (Bnd := Bnd2 x y) (items := zipVals xs ys) (cond := .const (.bool true)) (At := ZipAt (h2.objs.size + 4) (h2.objs.size + 2) (h2.objs.size + 3) h2.objs.size (h2.objs.size + 1) ai aj)
    (P := fun b => b = h2.objs.size + 4 ∨ b = h2.objs.size + 2 ∨ b = h2.objs.size + 3 ∨ b = h2.objs.size ∨ b = h2.objs.size + 1) ok.sco cx2 HE (test_nil (C := C)) (cx2.rel.grow z7) (Step.grow z7) (fun b q => ⟨own b q, fun m => ?_, ?_⟩) (fun b q => ?_)
    ⟨z1, z2, ⟨_, _, z3⟩, z4, z5⟩ ?_ ?_ (fun Cn hC => iterG_zip (l1 := li) (l2 := lj) (xs := xs) (ys := ys) cx.ok.handled ok cx.scope ei ej D (fun σ' hc => ?_) hC) (fun Cn => hvar2 ok Cn) (fun s Q E at0 hQ => wpAny_pyIter_zip at0.1 hQ) q2
  · refine ob11 (cx2.rel.alive m) fun o eo => ?_; rw [own b q] at eo; cases eo
  · cases e : B.get? b with
    | none => rfl
    | some o => have := cx2.rel.base _ _ e; rw [own b q] at this; cases this
  · rcases q with rfl | rfl | rfl | rfl | rfl
    · exact ⟨_, z1⟩
    · exact ⟨_, z2⟩
    · exact ⟨_, z3⟩
    · refine ob12 z4 fun o e _ => ?_; clear z4; exact ⟨o, e⟩
    · refine ob12 z5 fun o e _ => ?_; clear z5; exact ⟨o, e⟩
  · show (decide (listsOf σ2 (.ref li) = some xs) && decide (listsOf σ2 (.ref lj) = some ys)) = true
    rw [decide_eq_true hx1, decide_eq_true hy1]; rfl
  · exact Nat.le_trans zip_len lx
  · have hc : (decide (listsOf σ' (.ref li) = some xs) && decide (listsOf σ' (.ref lj) = some ys)) = true := hc
    rw [Bool.and_eq_true, decide_eq_true_eq, decide_eq_true_eq] at hc
    exact ⟨lists_seq hc.1, lists_seq hc.2⟩
end
end Mine


-- part MiniAllE
set_option maxRecDepth 4000
set_option linter.unusedVariables false
namespace Mine
open PySem

section
variable {n : Nat} {C : Cf} {prog : Program} {w : World} {B : Heap} {sc : Scope} {sm : List (Str × Nat)} {g : GMap} {F : Nat → Option MFun} {mg mb : Str → Option Value}
variable {env : Env} {ρ : Rho} {σ : MH} {μ : List Addr} {s : Shared} {A : Around} {E : Value → Shared → Prop} {X : XE}

noncomputable def PE (n : Nat) (C : Cf) (prog : Program) (w : World) (B : Heap) (g : GMap) (m : MExpr) : Prop := ∀ sc sm,
  (∀ e, (chk g m sc sm).E e = true → SE n C prog w B sc sm m e ∧ ST n C prog w B sc sm m e ∧ ∀ env x, foldedSetIterable e env x = pure x) ∧
  (∀ es, (chk g m sc sm).Es es = true → SS n C prog w B sc sm m es ∧ NoStar es ∧ ∀ x : Option Expr, x.toList = es → SO n C prog w B sc sm m x) ∧
  (∀ e, (chk g m sc sm).I e = true → SI n C prog w B sc sm m e)

theorem pe_of_E {m : MExpr} {f : Scope → List (Str × Nat) → Expr → Bool} (hm : ∀ sc sm, chk g m sc sm = ckE (f sc sm))
    (h : ∀ sc sm e, f sc sm e = true → SE n C prog w B sc sm m e ∧ ST n C prog w B sc sm m e ∧ ∀ env x, foldedSetIterable e env x = pure x) : PE n C prog w B g m := fun sc sm => by
  rw [hm]
  exact ⟨h sc sm, fun es q => (Bool.false_ne_true q).elim, fun e q => (Bool.false_ne_true q).elim⟩

theorem plain3 {m : MExpr} {e : Expr} (h : SE n C prog w B sc sm m e) (ht : (sem C m).T = tOf (sem C m).E) (he : ∀ env whole, isTrue e env whole = (do let v ← whole; standAt e.pos; holding [v] (truthy v))) (hf : ∀ env x, foldedSetIterable e env x = pure x) :
    SE n C prog w B sc sm m e ∧ ST n C prog w B sc sm m e ∧ ∀ env x, foldedSetIterable e env x = pure x := ⟨h, ST.plain h ht he, hf⟩

/-- what a comprehension comes to -/
noncomputable def LC (n : Nat) (C : Cf) (prog : Program) (w : World) (B : Heap) (sc : Scope) (sm : List (Str × Nat)) (m : MExpr) (e : Expr) : Prop :=
  ∃ e1 tgt iter ifs inner pos res, e = .ListComp e1 [⟨tgt, iter, ifs, 0⟩] inner pos ∧ (∀ ρ h, (sem C m).E ρ h = (res ρ h : Res (List Val)).bind newList) ∧ SC n C prog w B sc sm res e1 tgt iter ifs inner
theorem LC.plain {m : MExpr} {e : Expr} (h : LC n C prog w B sc sm m e) (ht : (sem C m).T = tOf (sem C m).E) : SE n C prog w B sc sm m e ∧ ST n C prog w B sc sm m e ∧ ∀ env x, foldedSetIterable e env x = pure x := by
  refine ob73 h fun e1 tgt iter ifs inner pos res ez0x7 h1 h2 => ?_; clear h; subst ez0x7
  exact plain3 (se_lc h1 h2) ht (fun _ _ => rfl) (fun _ _ => rfl)
theorem tests_of {cond : MExpr} {ifs : List Expr} (ic : PE n C prog w B g cond) (q : (match ifs with | [] => isTT cond | [c] => (chk g cond sc sm).E c | _ => false) = true) : TestOk n C prog w B sc sm cond ifs := by
  match ifs, q with
  | [], q => rw [isTT_eq q]; intro _ _ _ _ _ _ _ _ cx p; exact test_nil cx p
  | [c], q => intro _ _ _ _ _ _ _ _ cx p; exact test_one ((ic _ _).1 _ q).2.1 cx p
theorem comp_lc [sn : Small n] {elt tgt it cond : MExpr} (ie : PE n C prog w B g elt) (ii : PE n C prog w B g it) (ic : PE n C prog w B g cond) {e : Expr} (q : (chk g (.comp elt tgt it cond) sc sm).E e = true) : LC n C prog w B sc sm (.comp elt tgt it cond) e := by
  refine onComp_k q fun e1 gs sc' p k => ?_
  cases tgt with
  | loc i =>
    refine one_k k fun gn k' => ?_
    obtain ⟨tg, iter, ifs, a⟩ := gn
    refine ob22 (onName_elim k') fun x p2 hx k'' => ?_
    simp only at hx
    subst hx
    simp only [Bool.and_eq_true, beq_iff_eq] at k''
    obtain ⟨⟨⟨⟨⟨⟨⟨rfl, q1⟩, q2⟩, q3⟩, q4⟩, q5⟩, q6⟩, q7⟩ := k''
    exact ⟨e1, _, iter, ifs, sc', p, _, rfl, comp_E, sc_comp (.inl sn.lt) (compOk_of q1 q2 q4) ((ii sc sm).2.2 _ q5) ((ie _ _).1 _ q6).1 (tests_of ic q7)⟩
  | _ => cases k
theorem oc10 {A0 A1 A2 A3 A4 A5 A6 A7 A8 A9 P : Prop} (h : (((((((((A0 ∧ A1) ∧ A2) ∧ A3) ∧ A4) ∧ A5) ∧ A6) ∧ A7) ∧ A8) ∧ A9)) (k : A0 → A1 → A2 → A3 → A4 → A5 → A6 → A7 → A8 → A9 → P) : P := k h.1.1.1.1.1.1.1.1.1 h.1.1.1.1.1.1.1.1.2 h.1.1.1.1.1.1.1.2 h.1.1.1.1.1.1.2 h.1.1.1.1.1.2 h.1.1.1.1.2 h.1.1.1.2 h.1.1.2 h.1.2 h.2
theorem compP_of {inner : Scope} {x y : Str} {i j : Nat} (h : compP inner sc sm x y i j = true) : CompOk2 inner sc sm x y i j := by
  unfold compP compScOk2 at h
  simp only [Bool.and_eq_true, beq_iff_eq, decide_eq_true_eq, ne_eq] at h
  refine oc10 h fun hk al h1 h2 h3 h4 h5 h6 _ _ => ?_; clear h
  rw [List.all_eq_true] at al h3 h4
  refine ⟨⟨hk, fun p hp e => ?_, fun p hp e => ?_, fun p hp e => ?_⟩, h1, h2, fun p hp e => ?_, fun z k hz => ?_, h5, h6⟩
  · have := al p hp; simp [e] at this
  · have := al p hp; simp [e] at this; exact this
  · have := al p hp; simp [e] at this; exact this
  · have := h3 p hp
    simp only [e, bne_self_eq_false, Bool.false_or, Bool.or_eq_true, beq_iff_eq, Option.isNone_iff_eq_none] at this
    rcases this with (q | q) | q
    · exact .inl q
    · exact .inr (.inl q)
    · exact .inr (.inr q)
  · have := h4 _ (mem_of_lookup hz)
    simpa using this
theorem compp_lc [Small n] {elt a cond : MExpr} {i j : Nat} (ie : PE n C prog w B g elt) (ia : PE n C prog w B g a) (ic : PE n C prog w B g cond) {e : Expr} (q : (chk g (.compp elt i j a cond) sc sm).E e = true) : LC n C prog w B sc sm (.compp elt i j a cond) e := by
  refine onComp_k q fun e1 gs sc' p k => ?_
  refine one_k k fun gn k' => ?_
  obtain ⟨tg, iter, ifs, is⟩ := gn
  refine ob62 (onPair_elim k') fun x px y py c tp hx k'' => ?_
  simp only at hx
  subst hx
  simp only [Bool.and_eq_true, beq_iff_eq] at k''
  obtain ⟨⟨⟨⟨rfl, q1⟩, q2⟩, q3⟩, q4⟩ := k''
  refine ob03 ((ia sc sm).1 _ q2) fun s1 _ s3 => ?_
  exact ⟨e1, _, iter, ifs, sc', p, _, rfl, fun _ _ => rfl, sc_compp (compP_of q1) s3 s1 ((ie _ _).1 _ q3).1 (tests_of ic q4)⟩
theorem compq_lc [Small n] (G : GOk g F B mg mb) {elt a b : MExpr} {i j : Nat} (ie : PE n C prog w B g elt) (ia : PE n C prog w B g a) (ib : PE n C prog w B g b) {e : Expr} (q : (chk g (.compq elt i j a b) sc sm).E e = true) : LC n C prog w B sc sm (.compq elt i j a b) e := by
  refine onComp_k q fun e1 gs sc' p k => ?_
  refine one_k k fun gn k' => ?_
  obtain ⟨tg, iter, ifs, is⟩ := gn
  refine ob62 (onPair_elim k') fun x px y py c tp hx k'' => ?_
  simp only at hx
  subst hx
  simp only [Bool.and_eq_true, beq_iff_eq, List.isEmpty_iff] at k''
  obtain ⟨⟨⟨⟨rfl, rfl⟩, q1⟩, q2⟩, q3⟩ := k''
  refine onCall_k q3 fun z pz es p' k2 => ?_
  rw [Bool.and_eq_true] at k2
  refine two_k k2.2 fun y1 z1 k3 => ?_
  simp only [Bool.and_eq_true, Bool.not_eq_true'] at k3
  obtain ⟨⟨⟨q4, q5⟩, q6⟩, q7⟩ := k3
  exact ⟨e1, _, _, [], sc', p, _, rfl, fun _ _ => rfl, sc_compq G k2.1 (compP_of q1) q6 q7 ((ia sc sm).1 _ q4).1 ((ib sc sm).1 _ q5).1 ((ie _ _).1 _ q2).1⟩

theorem allE [sn : Small n] (G : GOk g F B mg mb) (cs : CS n C prog w g F B) : ∀ m, PE n C prog w B g m := by
  intro m
  induction m with
  | const v =>
    refine pe_of_E (fun _ _ => rfl) fun sc sm e q => ?_
    refine onConst_k q fun c n' p k => ?_
    exact plain3 (se_const k) rfl (fun _ _ => rfl) (fun _ _ => rfl)
  | gconst v =>
    refine pe_of_E (fun _ _ => rfl) fun sc sm e q => ?_
    refine onName_k q fun x p k => ?_
    exact plain3 (se_gconst G k) rfl (fun _ _ => rfl) (fun _ _ => rfl)
  | loc i =>
    refine pe_of_E (fun _ _ => rfl) fun sc sm e q => ?_
    refine onName_k q fun x p k => ?_
    exact plain3 (se_loc k) rfl (fun _ _ => rfl) (fun _ _ => rfl)
  | bin op a b ia ib =>
    refine pe_of_E (fun _ _ => rfl) fun sc sm e q => ?_
    refine onBin_k q fun l o r p k => ?_
    simp only [Bool.and_eq_true, decide_eq_true_eq] at k
    obtain ⟨⟨rfl, q1⟩, q2⟩ := k
    exact plain3 (se_bin (op := op) ((ia sc sm).1 _ q1).1 ((ib sc sm).1 _ q2).1) rfl (fun _ _ => rfl) (fun _ _ => rfl)
  | un op a ia =>
    refine pe_of_E (fun _ _ => rfl) fun sc sm e q => ?_
    refine onUn_k q fun o x p k => ?_
    simp only [Bool.and_eq_true, decide_eq_true_eq] at k
    obtain ⟨rfl, q1⟩ := k
    refine ob03 ((ia sc sm).1 _ q1) fun h1 h2 _ => ?_
    exact ⟨se_un h1, st_un h1 h2, fun _ _ => rfl⟩
  | and a b ia ib =>
    refine pe_of_E (fun _ _ => rfl) fun sc sm e q => ?_
    refine onBool_k q fun o es p k => ?_
    rw [Bool.and_eq_true] at k
    have qo := isAnd_elim k.1
    subst qo
    refine cons2_k k.2 fun x y r k' => ?_
    rw [Bool.and_eq_true] at k'
    refine ob03 ((ia sc sm).1 _ k'.1) fun h1 h2 _ => ?_
    refine ob03 ((ib sc sm).1 _ k'.2) fun h3 h4 _ => ?_
    exact ⟨se_and h1 h3, st_and h2 h4, fun _ _ => rfl⟩
  | or a b ia ib =>
    refine pe_of_E (fun _ _ => rfl) fun sc sm e q => ?_
    refine onBool_k q fun o es p k => ?_
    rw [Bool.and_eq_true] at k
    have qo := isOr_elim k.1
    subst qo
    refine cons2_k k.2 fun x y r k' => ?_
    rw [Bool.and_eq_true] at k'
    refine ob03 ((ia sc sm).1 _ k'.1) fun h1 h2 _ => ?_
    refine ob03 ((ib sc sm).1 _ k'.2) fun h3 h4 _ => ?_
    exact ⟨se_or h1 h3, st_or h2 h4, fun _ _ => rfl⟩
  | cmp op a b ia ib =>
    refine pe_of_E (fun _ _ => rfl) fun sc sm e q => ?_
    refine onCmp_k q fun l os rs p k => ?_
    refine one_k k fun o k' => ?_
    refine one_k k' fun r k'' => ?_
    simp only [Bool.and_eq_true, decide_eq_true_eq, Bool.not_eq_true'] at k''
    obtain ⟨⟨⟨rfl, q1⟩, q2⟩, q3⟩ := k''
    refine ob03 ((ia sc sm).1 _ q1) fun h1 _ _ => ?_
    refine ob03 ((ib sc sm).1 _ q2) fun h2 _ _ => ?_
    exact ⟨se_cmp q3 h1 h2, st_cmp q3 h1 h2, fun _ _ => rfl⟩
  | cmp2 o₁ o₂ a b c ia ib ic =>
    refine pe_of_E (fun _ _ => rfl) fun sc sm e q => ?_
    refine onCmp_k q fun l os rs p k => ?_
    refine two_k k fun p1 p2 k' => ?_
    refine two_k k' fun r1 r2 k'' => ?_
    simp only [Bool.and_eq_true, decide_eq_true_eq, Bool.not_eq_true'] at k''
    obtain ⟨⟨⟨⟨⟨rfl, rfl⟩, q1⟩, q2⟩, q3⟩, q4⟩ := k''
    refine ob03 ((ia sc sm).1 _ q1) fun h1 _ _ => ?_
    refine ob03 ((ib sc sm).1 _ q2) fun h2 _ _ => ?_
    refine ob03 ((ic sc sm).1 _ q3) fun h3 _ _ => ?_
    exact ⟨se_cmp2 q4 h1 h2 h3, st_cmp2 q4 h1 h2 h3, fun _ _ => rfl⟩
  | isinst t a ia =>
    refine pe_of_E (fun _ _ => rfl) fun sc sm e q => ?_
    refine onCall_k q fun x p es p' k => ?_
    refine two_k k fun y zz k' => ?_
    refine onName_k k' fun z p2 k'' => ?_
    simp only [Bool.and_eq_true, Bool.not_eq_true'] at k''
    obtain ⟨⟨⟨q1, q2⟩, q3⟩, q4⟩ := k''
    exact plain3 (se_isinst G q1 q2 q4 ((ia sc sm).1 _ q3).1) rfl (fun _ _ => rfl) (fun _ _ => rfl)
  | call f args ia =>
    refine pe_of_E (fun _ _ => rfl) fun sc sm e q => ?_
    refine onCall_k q fun x p es p' k => ?_
    rw [Bool.and_eq_true] at k
    refine ob03 ((ia sc sm).2.1 _ k.2) fun h1 h2 _ => ?_
    exact plain3 (se_call G cs k.1 h2 h1) rfl (fun _ _ => rfl) (fun _ _ => rfl)
  | bi b args ia =>
    refine pe_of_E (fun _ _ => rfl) fun sc sm e q => ?_
    refine onCall_k q fun x p es p' k => ?_
    rw [Bool.and_eq_true] at k
    refine ob03 ((ia sc sm).2.1 _ k.2) fun h1 h2 _ => ?_
    exact plain3 (se_bi G k.1 h2 h1) rfl (fun _ _ => rfl) (fun _ _ => rfl)
  | meth m o args io ia =>
    refine pe_of_E (fun _ _ => rfl) fun sc sm e q => ?_
    refine onCallX_k q fun f es pos k => ?_
    refine onAttr_k k fun eo nm apos k' => ?_
    simp only [Bool.and_eq_true, decide_eq_true_eq] at k'
    obtain ⟨⟨⟨⟨⟨rfl, q1⟩, q2⟩, q3⟩, q4⟩, q5⟩ := k'
    refine ob03 ((ia sc sm).2.1 _ q2) fun h1 h2 _ => ?_
    exact plain3 (se_meth (m := m) q4 q3 q5 h2 ((io sc sm).1 _ q1).1 h1) rfl (fun _ _ => rfl) (fun _ _ => rfl)
  | lst a ia =>
    refine pe_of_E (fun _ _ => rfl) fun sc sm e q => ?_
    refine onList_k q fun l p k => ?_
    exact plain3 (se_lst ((ia sc sm).2.1 _ k).1) rfl (fun _ _ => rfl) (fun _ _ => rfl)
  | tup a ia =>
    refine pe_of_E (fun _ _ => rfl) fun sc sm e q => ?_
    refine onTup_k q fun l c p k => ?_
    exact plain3 (se_tup ((ia sc sm).2.1 _ k).1) rfl (fun _ _ => rfl) (fun _ _ => rfl)
  | sub a b ia ib =>
    refine pe_of_E (fun _ _ => rfl) fun sc sm e q => ?_
    refine onSub_k q fun l r p k => ?_
    simp only [Bool.and_eq_true, Bool.not_eq_true'] at k
    obtain ⟨⟨q1, q2⟩, q3⟩ := k
    exact plain3 (se_sub q3 ((ia sc sm).1 _ q1).1 ((ib sc sm).1 _ q2).1) rfl (fun _ _ => rfl) (fun _ _ => rfl)
  | slice a lo hi ia il ih =>
    refine pe_of_E (fun _ _ => rfl) fun sc sm e q => ?_
    refine onSub_k q fun l r p k => ?_
    refine onSlice_k k fun x y z p2 k' => ?_
    simp only [Bool.and_eq_true, Option.isNone_iff_eq_none] at k'
    refine ob03 k' fun ez21x0 wz21x1 q3 => ?_; clear k'; subst ez21x0; obtain ⟨q1, q2⟩ := wz21x1
    exact plain3 (se_slice ((ia sc sm).1 _ q1).1 (((il sc sm).2.1 _ q2).2.2 _ rfl) (((ih sc sm).2.1 _ q3).2.2 _ rfl)) rfl (fun _ _ => rfl) (fun _ _ => rfl)
  | comp elt tgt it cond ie _ ii ic => exact pe_of_E (fun _ _ => rfl) fun sc sm e q => (comp_lc ie ii ic q).plain rfl
  | attr o k io =>
    refine pe_of_E (fun _ _ => rfl) fun sc sm e q => ?_
    refine onAttr_k q fun eo nm p k' => ?_
    simp only [Bool.and_eq_true, decide_eq_true_eq] at k'
    obtain ⟨⟨⟨⟨q1, rfl⟩, q2⟩, q3⟩, q4⟩ := k'
    refine ob22 (onName_elim q3) fun x px ez23x2 _ => ?_; subst ez23x2
    exact plain3 (se_attr G q1 q2 ((io sc sm).1 _ q4).1) rfl (fun _ _ => rfl) (fun _ _ => rfl)
  | mcall f o args io ia =>
    refine pe_of_E (fun _ _ => rfl) fun sc sm e q => ?_
    refine onCallX_k q fun fe es pos k => ?_
    refine onAttr_k k fun eo nm apos k' => ?_
    simp only [Bool.and_eq_true, decide_eq_true_eq, Bool.not_eq_true', beq_iff_eq (α := Option GI)] at k'
    obtain ⟨⟨⟨⟨⟨⟨⟨q1, q2⟩, q3⟩, q4⟩, q5⟩, q6⟩, q7⟩, q8⟩ := k'
    refine ob22 (onName_elim q4) fun x px ez24x2 _ => ?_; subst ez24x2
    refine ob03 ((ia sc sm).2.1 _ q6) fun h1 h2 _ => ?_
    exact plain3 (se_mcall G cs q1 q2 (fun z => by rw [List.contains_iff_mem.mpr z] at q3; cases q3) q7 q8 h2 ((io sc sm).1 _ q5).1 h1) rfl (fun _ _ => rfl) (fun _ _ => rfl)
  | newT f =>
    refine pe_of_E (fun _ _ => rfl) fun sc sm e q => ?_
    refine onCall_k q fun x p es p' k => ?_
    simp only [Bool.and_eq_true, decide_eq_true_eq, List.isEmpty_iff] at k
    obtain ⟨⟨q1, q2⟩, rfl⟩ := k
    exact plain3 (se_newT G cs q1 q2) rfl (fun _ _ => rfl) (fun _ _ => rfl)
  | compp elt i j a cond ie ia ic => exact pe_of_E (fun _ _ => rfl) fun sc sm e q => (compp_lc ie ia ic q).plain rfl
  | compq elt i j a b ie ia ib => exact pe_of_E (fun _ _ => rfl) fun sc sm e q => (compq_lc G ie ia ib q).plain rfl
  | nil =>
    intro sc sm
    refine ⟨fun e q => (Bool.false_ne_true q).elim, fun es q => ?_, fun e q => (Bool.false_ne_true q).elim⟩
    have : es = [] := List.isEmpty_iff.mp q
    subst this
    refine ⟨ss_nil, fun e he => (List.not_mem_nil he).elim, fun x hx => ?_⟩
    cases x with
    | none => exact so_nil
    | some e => cases hx
  | cons a b ia ib =>
    intro sc sm
    refine ⟨fun e q => (Bool.false_ne_true q).elim, fun es q => ?_, fun e q => (Bool.false_ne_true q).elim⟩
    cases es with
    | nil => exact (Bool.false_ne_true q).elim
    | cons e r =>
      have q : ((chk g a sc sm).E e && !isStar e && (chk g b sc sm).Es r) = true := q
      simp only [Bool.and_eq_true, Bool.not_eq_true'] at q
      obtain ⟨⟨q1, q2⟩, q3⟩ := q
      refine ob03 ((ia sc sm).1 _ q1) fun h1 _ _ => ?_
      refine ob03 ((ib sc sm).2.1 _ q3) fun h2 h3 _ => ?_
      refine ⟨ss_cons q2 h1 h2, fun y hy => ?_, fun x hx => ?_⟩
      · rcases List.mem_cons.mp hy with rfl | hy
        · exact q2
        · exact h3 y hy
      · cases x with
        | none => cases hx
        | some e' =>
          cases hx
          cases b <;> first | exact so_cons h1 | exact (Bool.false_ne_true q3).elim
  | irange a ia =>
    intro sc sm
    refine ⟨fun e q => (Bool.false_ne_true q).elim, fun es q => (Bool.false_ne_true q).elim, fun e q => ?_⟩
    refine onCall_k q fun x p es p' k => ?_
    refine one_k k fun y k' => ?_
    simp only [Bool.and_eq_true, Bool.not_eq_true'] at k'
    obtain ⟨⟨q1, q2⟩, q3⟩ := k'
    exact si_range G q1 q3 ((ia sc sm).1 _ q2).1
  | iobj a ia =>
    intro sc sm
    refine ⟨fun e q => (Bool.false_ne_true q).elim, fun es q => (Bool.false_ne_true q).elim, fun e q => ?_⟩
    refine ob03 ((ia sc sm).1 _ (show (chk g a sc sm).E e = true from q)) fun h1 _ h2 => ?_
    exact si_obj h2 h1

end
end Mine


-- part MiniStmt
set_option maxRecDepth 4000
set_option linter.unusedVariables false
namespace Mine
open PySem

noncomputable def Own (env : Env) (b : Addr) : Prop := b = env.locals ∨ ∃ x, env.cells.lookup x = some b

structure StepF (env : Env) (μ μ' : List Addr) (h h' : Heap) : Prop where
  pre : μ <+: μ'
  keep : ∀ b o, b ∉ μ → ¬ Own env b → look h b = some o → look h' b = some o
  fresh : ∀ b, b ∈ μ' → b ∉ μ → h.get? b = none
  own : ∀ b o, Own env b → h.get? b = some o → ∃ o', h'.get? b = some o'

theorem StepF.refl {env : Env} {μ : List Addr} {h : Heap} : StepF env μ μ h h := ⟨List.prefix_refl _, fun _ _ _ _ e => e, fun _ x y => absurd x y, fun _ o _ e => ⟨o, e⟩⟩
theorem StepF.notMem {env : Env} {μ μ' : List Addr} {h h' : Heap} (s : StepF env μ μ' h h') {b : Addr} {o : Obj} (n : b ∉ μ) (e : h.get? b = some o) : b ∉ μ' := fun q => by
  rw [s.fresh b q n] at e; cases e
theorem StepF.alive {env : Env} {μ μ' : List Addr} {h h' : Heap} (s : StepF env μ μ' h h') {b : Addr} {o : Obj} (n : b ∉ μ) (e : h.get? b = some o) : ∃ o', h'.get? b = some o' := by
  by_cases q : Own env b
  · exact s.own b o q e
  · refine ob12 (look_elim (s.keep b _ n q (look_of e))) fun o' e' _ => ?_; exact ⟨o', e'⟩
theorem StepF.trans {env : Env} {μ μ' μ'' : List Addr} {h h' h'' : Heap} (s : StepF env μ μ' h h') (t : StepF env μ' μ'' h' h'') : StepF env μ μ'' h h'' :=
  ⟨s.pre.trans t.pre, fun b o n q e => t.keep b o (by refine ob12 (look_elim e) fun o' e' _ => ?_; exact s.notMem n e') q (s.keep b o n q e), fun b x y => by
    by_cases q : b ∈ μ'
    · exact s.fresh b q y
    · cases e : h.get? b with
      | none => rfl
      | some o => (refine ob11 (s.alive y e) fun o' e' => ?_; rw [t.fresh b x q] at e'; exact (by cases e')), fun b o q e => let ⟨o', e'⟩ := s.own b o q e; t.own b o' q e'⟩
theorem Step.toF {env : Env} {μ μ' : List Addr} {h h' : Heap} (s : Step μ μ' h h') (ho : ∀ b, Own env b → b ∉ μ) : StepF env μ μ' h h' :=
  ⟨s.pre, fun b o n _ e => s.keep b o n e, s.fresh, fun b o q e => by refine ob12 (look_elim (s.keep b _ (ho b q) (look_of e))) fun o' e' _ => ?_; exact ⟨o', e'⟩⟩
theorem Frm.ownMu {B : Heap} {env : Env} {μ : List Addr} {h : Heap} (f : Frm B env μ h) : ∀ b, Own env b → b ∉ μ := fun b q => by
  rcases q with rfl | ⟨x, q⟩
  · exact f.locMu
  · exact (f.cell x b q).2.2.1
theorem Frm.ownAlive {B : Heap} {env : Env} {μ : List Addr} {h : Heap} (f : Frm B env μ h) : ∀ b, Own env b → ∃ o, h.get? b = some o := fun b q => by
  rcases q with rfl | ⟨x, q⟩
  · refine ob11 f.ns fun m n => ?_; exact Ns_alive n
  · refine ob02 (f.cell x b q) fun wz2x0 _ => ?_; obtain ⟨v, o, e, _⟩ := wz2x0; exact ⟨o, e⟩

/-- the way to an exception, the frame's own things aside -/
structure StepXF (env : Env) (μ μ' : List Addr) (h base h' : Heap) : Prop where
  pre : μ <+: μ'
  keep : ∀ b o, b ∉ μ → ¬ Own env b → look h b = some o → look h' b = some o
  fresh : ∀ b, b ∈ μ' → b ∉ μ → h.get? b = none
  based : ∀ b o, b ∉ μ → ¬ Own env b → look h b = some o → (∀ es ep, o.data ≠ .dict es ep) → ∃ o', base.get? b = some o'
theorem StepX.toF {env : Env} {μ μ' : List Addr} {h base h' : Heap} (x : StepX μ μ' h base h') : StepXF env μ μ' h base h' :=
  ⟨x.step.pre, fun b o n _ e => x.step.keep b o n e, x.step.fresh, fun b o n _ e nd => x.based b o n e nd⟩
theorem StepF.transX {env : Env} {μ μ' μ'' : List Addr} {h h' base h'' : Heap} (s : StepF env μ μ' h h') (t : StepXF env μ' μ'' h' base h'') : StepXF env μ μ'' h base h'' :=
  ⟨s.pre.trans t.pre, fun b o n q e => t.keep b o (by refine ob12 (look_elim e) fun o' e' _ => ?_; exact s.notMem n e') q (s.keep b o n q e), fun b x y => by
    by_cases q : b ∈ μ'
    · exact s.fresh b q y
    · cases e : h.get? b with
      | none => rfl
      | some o => (refine ob11 (s.alive y e) fun o' e' => ?_; rw [t.fresh b x q] at e'; exact (by cases e')),
    fun b o n q e nd => t.based b o (by refine ob12 (look_elim e) fun o' e' _ => ?_; exact s.notMem n e') q (s.keep b o n q e) nd⟩
theorem StepXF.hop {env : Env} {μ μ' : List Addr} {h base h' h'' : Heap} (x : StepXF env μ μ' h base h') (s1 : base.StaysIn h') (s2 : base.StaysIn h'') (u : h'.UpToSlots h'') : StepXF env μ μ' h base h'' :=
  ⟨x.pre, fun b o n q e => look_hop (x.keep b o n q e) (x.based b o n q e) s1 s2 u, x.fresh, x.based⟩
noncomputable def PostXF (B : Heap) (X : XE) (env : Env) (μ : List Addr) (s : Shared) (c : Nat) (σ : MH) : Prop :=
  ∀ μ' h' tk e base, HX B μ' σ base c → StepXF env μ μ' s.heap base h' → ExcAt base X.l (clsK B c) e h' → X.E (.ref e) { s with heap := h', toks := tk }
theorem PostXF.step {B : Heap} {X : XE} {env : Env} {μ μ' : List Addr} {s : Shared} {c : Nat} {σ : MH} {h' : Heap} {tk : Nat} (p : PostXF B X env μ s c σ) (st : StepF env μ μ' s.heap h') : PostXF B X env μ' { s with heap := h', toks := tk } c σ :=
  fun μ'' h'' tk' e base r st' x => p μ'' h'' tk' e base r (st.transX st') x
theorem PostXF.toX {B : Heap} {X : XE} {env : Env} {μ : List Addr} {s : Shared} {c : Nat} {σ : MH} (p : PostXF B X env μ s c σ) : PostX B X μ s c σ := fun μ' h' tk e base r st x => p μ' h' tk e base r st.toF x
theorem PostXF.back {M : Model} {A : Around} {B : Heap} {X : XE} {env : Env} {μ : List Addr} {s : Shared} {c : Nat} {σ : MH} (p : PostXF B X env μ s c σ) (hh : Here A X.l env) : PostXF B ⟨X.l, notedBy M A env (cameBackBy M A env X.E)⟩ env μ s c σ := fun μ' h' tk e base r st x => by
  refine ob02 hh fun hfr wz5 => ?_; clear hh; refine ob22 wz5 fun e0 outer hl he => ?_; clear wz5
  have x : ExcAt base X.l (clsK B c) e h' := x
  have x' := x
  rw [hl] at x'
  refine fly_note (s := { s with heap := h', toks := tk }) (hl ▸ hfr) he x' fun h2 n1 n2 n3 n4 => ?_
  exact came_back (s := { s with heap := h2, toks := tk }) n1 n2 n3 fun h3 m1 m2 m3 m4 => p μ' h3 tk e base r (st.hop x.1 m1 (n4.trans m4)) ⟨m1, x.2.1, hl ▸ m2, .inr m3⟩

noncomputable def FRel (μ : List Addr) : MFlow → Flow → Prop
  | .next, f => f = .next
  | .ret v, f => ∃ v', f = .ret v' ∧ VRel μ v v'

noncomputable def PostS (B : Heap) (X : XE) (env : Env) (sm : List (Str × Nat)) (μ : List Addr) (s : Shared) (Q : Flow → Shared → Prop) : Res (MFlow × Rho) → Prop
  | .ok p σ' => ∀ μ' f h' tk, HRel B μ' σ' h' → StepF env μ μ' s.heap h' → Frm B env μ' h' → Vars env sm p.2 μ' h' → FRel μ' p.1 f → Q f { s with heap := h', toks := tk }
  | .exc c σ' => PostXF B X env μ s c σ'
  | .stuck => False

theorem PostS.step {B : Heap} {X : XE} {env : Env} {sm : List (Str × Nat)} {μ μ' : List Addr} {s : Shared} {Q : Flow → Shared → Prop} {x : Res (MFlow × Rho)} {h' : Heap} {tk : Nat} (p : PostS B X env sm μ s Q x) (st : StepF env μ μ' s.heap h') : PostS B X env sm μ' { s with heap := h', toks := tk } Q x := by
  cases x with
  | ok v σ' => intro μ'' f h'' tk' r st' f1 f2 f3; exact p μ'' f h'' tk' r (st.trans st') f1 f2 f3
  | exc c h => exact PostXF.step p st
  | stuck => exact p

section
variable (n : Nat) (C : Cf) (W : Nat) (prog : Program) (w : World) (B : Heap) (sc : Scope) (sm : List (Str × Nat))
noncomputable def SX (m : MStmt) (st : Stmt) : Prop :=
  ∀ {env ρ σ μ} {s : Shared} {A : Around} {X : XE} {Q : Flow → Shared → Prop}, Cx n B X A env sc sm ρ μ σ s.heap → PostS B X env sm μ s Q (exec C W m ρ σ) → wpAny (model prog w) A (PySem.exec st env) Q X.E s
noncomputable def SXs (m : MStmt) (l : List Stmt) : Prop :=
  ∀ {env ρ σ μ} {s : Shared} {A : Around} {X : XE} {Q : Flow → Shared → Prop}, Cx n B X A env sc sm ρ μ σ s.heap → PostS B X env sm μ s Q (exec C W m ρ σ) → wpAny (model prog w) A (execs l env) Q X.E s
end

section
variable {n : Nat} {C : Cf} {W : Nat} {prog : Program} {w : World} {B : Heap} {sc : Scope} {sm : List (Str × Nat)} {g : GMap} {F : Nat → Option MFun} {mg mb : Str → Option Value}
variable {env : Env} {ρ : Rho} {σ : MH} {μ : List Addr} {s : Shared} {A : Around} {E : Value → Shared → Prop} {X : XE}

theorem Cx.stepF {μ' : List Addr} {σ' : MH} {ρ' : Rho} {h h' : Heap} (c : Cx n B X A env sc sm ρ μ σ h) (st : StepF env μ μ' h h') (r : HRel B μ' σ' h') (f : Frm B env μ' h') (v : Vars env sm ρ' μ' h') : Cx n B X A env sc sm ρ' μ' σ' h' :=
  ⟨c.scope, c.ok, f, v, r, c.frames, fun e he => by
    refine ob02 (c.fok e he) fun h1 wz6 => ?_; refine ob14 wz6 fun L h2 h3 h4 wz5 => ?_; clear wz6; obtain ⟨m, h5⟩ := wz5
    refine ob11 (Ns_alive h5) fun o e0 => ?_
    refine ⟨h1, L, h2, st.notMem h3 e0, h4, ?_⟩
    by_cases z : L = env.locals
    · subst z; exact f.ns
    · exact ⟨m, Ns_look h5 fun o e => st.keep L o h3 (fun q => by
        rcases q with q | ⟨x, q⟩
        · exact z q
        · exact c.apart _ he L h2 x q) e⟩, c.here, c.apart, fun v hv => by
    refine ob35 (c.hd v hv) fun a oe vs q1 q2 q3 q4 q5 => ?_
    have no : ¬ Own env a := fun q => by
      rcases q with rfl | ⟨x, q⟩
      · refine ob43 c.frm.ns fun m o es ep e1 e2 _ => ?_
        rw [q3] at e1; cases e1; rw [q4] at e2; cases e2
      · refine ob02 (c.frm.cell x a q) fun wz7x0 _ => ?_; obtain ⟨u, o, e1, e2⟩ := wz7x0
        rw [q3] at e1; cases e1; rw [q4] at e2; cases e2
    refine ⟨a, oe, vs, q1, st.notMem q2 q3, ?_, q4, q5⟩
    have nd : ∀ es ep, oe.data ≠ .dict es ep := fun es ep z => by rw [q4] at z; cases z
    have := st.keep a _ q2 no (look_of q3)
    rw [nrm_of nd] at this
    exact get_of_look this nd⟩

theorem PostS.bindR {γ δ : Type} {V : List Addr → γ → δ → Prop} {Q : Flow → Shared → Prop} {Q' : δ → Shared → Prop} {r : Res γ} {f : γ → MH → Res (MFlow × Rho)} (cx : Cx n B X A env sc sm ρ μ σ s.heap) (p : PostS B X env sm μ s Q (r.bind f))
    (k : ∀ v σ1 μ1 v' h1 tk, Cx n B X A env sc sm ρ μ1 σ1 h1 → Step μ μ1 s.heap h1 → V μ1 v v' → PostS B X env sm μ1 { s with heap := h1, toks := tk } Q (f v σ1) → Q' v' { s with heap := h1, toks := tk }) : Post B X V μ s Q' r := by
  cases r with
  | ok v σ1 => intro μ1 v' h1 tk r1 st hv; exact k v σ1 μ1 v' h1 tk (cx.step st r1) st hv (PostS.step (x := f v σ1) p (st.toF cx.frm.ownMu))
  | exc c h => exact PostXF.toX p
  | stuck => exact p
theorem SE.bindS {m : MExpr} {e : Expr} {Q : Flow → Shared → Prop} {Q' : Value → Shared → Prop} {f : Val → MH → Res (MFlow × Rho)} (h : SE n C prog w B sc sm m e) (cx : Cx n B X A env sc sm ρ μ σ s.heap)
    (p : PostS B X env sm μ s Q (((sem C m).E ρ σ).bind f))
    (k : ∀ v σ1 μ1 v' h1 tk, Cx n B X A env sc sm ρ μ1 σ1 h1 → Step μ μ1 s.heap h1 → VRel μ1 v v' → PostS B X env sm μ1 { s with heap := h1, toks := tk } Q (f v σ1) → Q' v' { s with heap := h1, toks := tk }) : wpAny (model prog w) A (eval e env) Q' X.E s :=
  h cx (p.bindR cx k)
theorem ST.bindS {m : MExpr} {e : Expr} {Q : Flow → Shared → Prop} {Q' : Bool → Shared → Prop} {f : Bool → MH → Res (MFlow × Rho)} (h : ST n C prog w B sc sm m e) (cx : Cx n B X A env sc sm ρ μ σ s.heap)
    (p : PostS B X env sm μ s Q (((sem C m).T ρ σ).bind f))
    (k : ∀ v σ1 μ1 h1 tk, Cx n B X A env sc sm ρ μ1 σ1 h1 → Step μ μ1 s.heap h1 → PostS B X env sm μ1 { s with heap := h1, toks := tk } Q (f v σ1) → Q' v { s with heap := h1, toks := tk }) : wpAny (model prog w) A (isTrue e env (eval e env)) Q' X.E s :=
  h cx (p.bindR cx fun v σ1 μ1 v' h1 tk cx1 st hv q => by rw [← show v = v' from hv]; exact k v σ1 μ1 h1 tk cx1 st q)

/-- where we stand, nothing changed -/
theorem PostS.here {Q : Flow → Shared → Prop} {fl : MFlow} {f : Flow} (cx : Cx n B X A env sc sm ρ μ σ s.heap) (p : PostS B X env sm μ s Q (.ok (fl, ρ) σ)) (hf : FRel μ fl f) : Q f s := p μ f s.heap s.toks cx.rel StepF.refl cx.frm cx.vars hf

noncomputable def SmOk (sm : List (Str × Nat)) : Prop := ∀ x y i, sm.lookup x = some i → sm.lookup y = some i → x = y

theorem own_upd {h h' : Heap} {a : Addr} (q : Own env a) (sb : Heap.SameBut a h h') (al : ∃ o, h'.get? a = some o) : StepF env μ μ h h' :=
  ⟨List.prefix_refl _, fun b o _ nq e => look_keep (fun o' => sameBut_keep sb b o' (fun z => nq (z ▸ q))) e, fun _ x y => absurd x y, fun b o qb e => by
    by_cases z : b = a
    · subst z; exact al
    · exact ⟨o, sameBut_keep sb b o z e⟩⟩

theorem store_sound {x : Str} {i : Nat} {v : Val} {v' : Value} {Q : Unit → Shared → Prop} (inj : SmOk sm) (h : stK sc sm x i = true) (cx : Cx n B X A env sc sm ρ μ σ s.heap) (hv : VRel μ v v')
    (k : ∀ h' tk, HRel B μ σ h' → StepF env μ μ s.heap h' → Frm B env μ h' → Vars env sm (ρ.set i (some v)) μ h' → Q () { s with heap := h', toks := tk }) : wpAny (model prog w) A (storeName env x v') Q E s := by
  unfold stK at h
  simp only [Bool.and_eq_true, Bool.or_eq_true, beq_iff_eq] at h
  refine ob02 h fun wz8x0 h3 => ?_; clear h; obtain ⟨h1, h2⟩ := wz8x0
  have slotv : ∀ {u : Val}, (ρ.set i (some v))[i]? = some (some u) → u = v := fun {u} he => by
    have lt : i < (ρ.set i (some v)).length := (List.getElem?_eq_some_iff.mp he).1
    rw [List.getElem?_set_self (by simpa using lt)] at he
    exact (Option.some.inj (Option.some.inj he)).symm
  rcases h1 with hl | hc
  · have kx : env.kindOf x = some .local := by rw [cx.kind]; exact hl
    refine ob11 cx.frm.ns fun m hn => ?_
    refine wpAny_storeName_local kx hn (fun h' n' sb => ?_) (by rw [cx.frm.kind]; rfl)
    have cellk : ∀ {y : Str} {c : Addr} {o : Obj}, env.cells.lookup y = some c → s.heap.get? c = some o → h'.get? c = some o := fun {y c o} q e => sameBut_keep sb c o (cx.frm.cell y c q).2.1 e
    refine k h' _ (cx.rel.other (P := fun b => b = env.locals) (fun b o nb e => sameBut_keep sb b o nb e) (fun b z => z ▸ cx.frm.locMu) (fun b z => z ▸ cx.frm.locB)) (own_upd (.inl rfl) sb (Ns_alive n')) ?_ ?_
    · refine ⟨cx.frm.kind, cx.frm.glob, cx.frm.bl, ⟨_, n'⟩, cx.frm.locMu, cx.frm.locB, fun y c q => ?_, cx.frm.cinj, cx.frm.has⟩
      refine ob02 (cx.frm.cell y c q) fun wz10x0 c2 => ?_; obtain ⟨u, iu⟩ := wz10x0
      exact ⟨⟨u, IsCell_at iu fun o e => cellk q e⟩, c2⟩
    · intro y j u hy hj he
      by_cases hxy : y = x
      · subst hxy
        rw [h3] at hj; cases hj
        rw [slotv he]
        exact ⟨v', .inl ⟨kx, _, n', by rw [if_pos rfl]⟩, hv⟩
      · have ne : i ≠ j := fun z => hxy (inj y x i (z ▸ hj) h3)
        rw [List.getElem?_set_ne ne] at he
        refine ob12 (cx.vars y j u hy hj he) fun u' b r => ?_
        refine ⟨u', ?_, r⟩
        rcases b with ⟨ky, m', hn', e'⟩ | ⟨ky, c, hc, ic⟩
        · exact .inl ⟨ky, _, n', by rw [if_neg hxy, Ns_uniq hn hn']; exact e'⟩
        · exact .inr ⟨ky, c, hc, IsCell_at ic fun o e => cellk hc e⟩
  · have kx : env.kindOf x = some .cell := by rw [cx.kind]; exact hc
    refine ob11 (cx.frm.has x (.inl kx)) fun c hcx => ?_
    refine ob04 (cx.frm.cell x c hcx) fun wz10x0 cl cm cb => ?_; refine ob11 wz10x0 fun u0 iu0 => ?_; clear wz10x0
    refine wpAny_storeName_cell cx.frm.kind kx hcx iu0 fun h' ic sb => ?_
    refine ob11 cx.frm.ns fun m hn => ?_
    have hn' : h'.Ns env.locals m := Ns_at hn fun o e => sameBut_keep sb _ o (Ne.symm cl) e
    refine k h' s.toks (cx.rel.other (P := fun b => b = c) (fun b o nb e => sameBut_keep sb b o nb e) (fun b z => z ▸ cm) (fun b z => z ▸ cb)) (own_upd (.inr ⟨x, hcx⟩) sb (let ⟨o, e, _⟩ := ic; ⟨o, e⟩)) ?_ ?_
    · refine ⟨cx.frm.kind, cx.frm.glob, cx.frm.bl, ⟨m, hn'⟩, cx.frm.locMu, cx.frm.locB, fun y c' q => ?_, cx.frm.cinj, cx.frm.has⟩
      refine ob02 (cx.frm.cell y c' q) fun wz14x0 c2 => ?_; obtain ⟨u, iu⟩ := wz14x0
      by_cases z : c' = c
      · subst z; exact ⟨⟨_, ic⟩, c2⟩
      · exact ⟨⟨u, IsCell_at iu fun o e => sameBut_keep sb _ o z e⟩, c2⟩
    · intro y j u hy hj he
      by_cases hxy : y = x
      · subst hxy
        rw [h3] at hj; cases hj
        rw [slotv he]
        exact ⟨v', .inr ⟨.inl kx, c, hcx, ic⟩, hv⟩
      · have ne : i ≠ j := fun z => hxy (inj y x i (z ▸ hj) h3)
        rw [List.getElem?_set_ne ne] at he
        refine ob12 (cx.vars y j u hy hj he) fun u' b r => ?_
        refine ⟨u', ?_, r⟩
        rcases b with ⟨ky, m', hn'', e'⟩ | ⟨ky, c', hc', ic'⟩
        · exact .inl ⟨ky, m', Ns_at hn'' fun o e => sameBut_keep sb _ o (Ne.symm cl) e, e'⟩
        · exact .inr ⟨ky, c', hc', IsCell_at ic' fun o e => sameBut_keep sb _ o (fun z => hxy (cx.frm.cinj y x c' hc' (z ▸ hcx))) e⟩

theorem sx_nil : SXs n C W prog w B sc sm .nil [] := fun {env ρ σ μ s A X Q} cx p => by
  have p : PostS B X env sm μ s Q (.ok (.next, ρ) σ) := p
  exact wpAny_execs_nil (p.here cx rfl)
theorem sx_cons {a b : MStmt} {st : Stmt} {r : List Stmt} (ha : SX n C W prog w B sc sm a st) (hb : SXs n C W prog w B sc sm b r) : SXs n C W prog w B sc sm (.cons a b) (st :: r) := fun {env ρ σ μ s A X Q} cx p => by
  have p : PostS B X env sm μ s Q ((exec C W a ρ σ).bind fun p h => match p.1 with | .next => exec C W b p.2 h | .ret v => .ok (.ret v, p.2) h) := p
  refine wpAny_execs_cons (ha cx ?_)
  cases q : exec C W a ρ σ with
  | exc c h => rw [q] at p; exact p
  | stuck => rw [q] at p; exact p
  | ok pr σ1 =>
    obtain ⟨fl, ρ1⟩ := pr
    rw [q] at p
    intro μ1 f h1 tk r1 st1 f1 v1 hf
    cases fl with
    | next =>
      rw [show f = .next from hf]
      exact hb (cx.stepF st1 r1 f1 v1) (PostS.step (x := exec C W b ρ1 σ1) p st1)
    | ret v =>
      refine ob12 hf fun v' ez12x1 hv => ?_; clear hf; subst ez12x1
      exact p μ1 _ h1 tk r1 st1 f1 v1 ⟨v', rfl, hv⟩

theorem sx_if {c : MExpr} {t e : MStmt} {x : Expr} {y z : List Stmt} {pos : Pos} (hc : ST n C prog w B sc sm c x) (ht : SXs n C W prog w B sc sm t y) (he : SXs n C W prog w B sc sm e z) : SX n C W prog w B sc sm (.ifs c t e) (.If x y z pos) := fun {env ρ σ μ s A X Q} cx p =>
  wpAny_If (hc.bindS cx p fun b σ1 μ1 h1 tk cx1 st q => by
    cases b with
    | true => rw [if_pos rfl]; exact ht cx1 q
    | false => rw [if_neg (by simp)]; exact he cx1 q)

theorem sx_ret {e : MExpr} {x : Expr} {pos : Pos} (he : SE n C prog w B sc sm e x) : SX n C W prog w B sc sm (.ret e) (.Return (some x) pos) := fun {env ρ σ μ s A X Q} cx p =>
  wpAny_Return_some (he.bindS cx p fun v σ1 μ1 v' h1 tk cx1 st hv q => PostS.here (s := { s with heap := h1, toks := tk }) cx1 q ⟨v', rfl, hv⟩)
theorem sx_ret0 {pos : Pos} : SX n C W prog w B sc sm (.ret (.const .none)) (.Return none pos) := fun {env ρ σ μ s A X Q} cx p => by
  have p : PostS B X env sm μ s Q (.ok (.ret .none, ρ) σ) := p
  exact wpAny_Return_none (p.here cx ⟨_, rfl, rfl⟩)

theorem interactive_of (cx : Cx n B X A env sc sm ρ μ σ s.heap) : interactive env = false := by
  unfold interactive; rw [cx.frm.kind]; rfl
theorem swaps_none {v : Expr} {line : Nat} (h : isComp v = false) : swapsWith v none line env = pure false := by
  cases v <;> first | rfl | exact (Bool.false_ne_true h.symm).elim
theorem swaps_false {v t : Expr} {line : Nat} (h : isComp v = false) : swapsWith v (some t) line env = pure false := by
  cases v <;> first | rfl | exact (Bool.false_ne_true h.symm).elim
theorem sx_expr {e : MExpr} {x : Expr} {pos : Pos} (h : isComp x = false) (he : SE n C prog w B sc sm e x) : SX n C W prog w B sc sm (.expr e) (.Expr x pos) := fun {env ρ σ μ s A X Q} cx p => by
  rw [exec_Expr env _ _ (interactive_of cx) (swaps_none h)]
  exact wpAny_bind (wpAny_standAt (wpAny_bind (he.bindS cx p fun v σ1 μ1 v' h1 tk cx1 st hv q => wpAny_dropValue (PostS.here (s := { s with heap := h1, toks := tk }) cx1 q rfl))))

theorem sx_assign_plain {i : Nat} {e : MExpr} {x : Str} {v : Expr} {px pos : Pos} (inj : SmOk sm) (hs : stK sc sm x i = true) (he : SE n C prog w B sc sm e v) {env ρ σ μ} {s : Shared} {A : Around} {X : XE} {Q : Flow → Shared → Prop}
    (hw : swapsWith v (some (.Name x px)) pos.line env = pure false) (cx : Cx n B X A env sc sm ρ μ σ s.heap) (p : PostS B X env sm μ s Q (exec C W (.assign i e) ρ σ)) : wpAny (model prog w) A (PySem.exec (.Assign [.Name x px] v pos) env) Q X.E s :=
  wpAny_Assign_Name (he.bindS cx p fun u σ1 μ1 u' h1 tk cx1 st hu q => store_sound inj hs cx1 hu fun h2 tk2 r2 st2 f2 v2 => q μ1 .next h2 tk2 r2 st2 f2 v2 rfl) hw

theorem sx_asub {o i e : MExpr} {eo ei v : Expr} {p1 pos : Pos} (he : SE n C prog w B sc sm e v) (ho : SE n C prog w B sc sm o eo) (hi : SE n C prog w B sc sm i ei) : SX n C W prog w B sc sm (.asub o i e) (.Assign [.Subscript eo ei p1] v pos) := fun {env ρ σ μ s A X Q} cx p => by
  refine wpAny_Assign_Subscript (he.bindS cx p fun u σ1 μ1 u' h1 tk cx1 st1 hu q1 => ho.bindS cx1 q1 fun a σ2 μ2 a' h2 tk2 cx2 st2 ha q2 => hi.bindS cx2 q2 fun b σ3 μ3 b' h3 tk3 cx3 st3 hb q3 => ?_) (by cases v <;> rfl)
  refine asub_sound (s := { s with heap := h3, toks := tk3 }) cx3.rel (ha.mono st3.pre) hb (hu.mono (st2.pre.trans st3.pre)) (q3.bindR cx3 fun _ σ4 μ4 _ h4 tk4 cx4 st4 _ q4 => ?_)
  exact PostS.here (s := { s with heap := h4, toks := tk4 }) cx4 q4 rfl

theorem sx_aattr {o e : MExpr} {k : Nat} {x : Str} {v : Expr} {px p1 pos : Pos} (G : GOk g F B mg mb) (ht : isTab (g.lookup tabNm) = true) (hk : k < 3) (hc : isComp v = false) (he : SE n C prog w B sc sm e v) (ho : SE n C prog w B sc sm o (.Name x px)) :
    SX n C W prog w B sc sm (.aattr o k e) (.Assign [.Attribute (.Name x px) (attrName k) p1] v pos) := fun {env ρ σ μ s A X Q} cx p => by
  refine ob11 (isTab_elim ht) fun f hf => ?_
  refine ob27 ((G.tab f hf).2) fun N mN TC _ t1 t2 t3 t4 _ => ?_
  refine plainObj_wpAny_Assign_Attribute (he.bindS cx p fun u σ1 μ1 u' h1 tk cx1 st1 hu q1 => ho.bindS cx1 q1 fun v σ2 μ2 v' h2 tk2 cx2 st2 hv q2 => ?_) (swaps_false hc)
  have q2 : PostS B X env sm μ2 { s with heap := h2, toks := tk2 } Q ((aattrV k v u σ2).bind fun _ h => .ok (.next, ρ) h) := q2
  cases v with
  | ref i =>
    refine ob12 hv fun a ea ez14x2 => ?_; clear hv; subst ez14x2
    have q3 : PostS B X env sm μ2 { s with heap := h2, toks := tk2 } Q ((match σ2[i]? with | some (.inst fs) => (if k < fs.length ∧ k < 3 then Res.ok () (σ2.set i (.inst (fs.set k (some u)))) else .stuck) | some (.list _) => .stuck | some (.ro _) => .stuck | some (.tup _) => .stuck | some .aux => .stuck | none => .stuck).bind fun _ h => .ok (.next, ρ) h) := q2
    cases hz : σ2[i]? with
    | none => rw [hz] at q3; exact q3.elim
    | some ob =>
      rw [hz] at q3
      cases ob with
      | inst fs =>
        have q4 : PostS B X env sm μ2 { s with heap := h2, toks := tk2 } Q ((if k < fs.length ∧ k < 3 then Res.ok () (σ2.set i (.inst (fs.set k (some u)))) else .stuck).bind fun _ h => .ok (.next, ρ) h) := q3
        by_cases hl : k < fs.length ∧ k < 3
        · rw [if_pos hl] at q4
          refine ob27 (cx2.rel.inst ea hz) fun dx mA s1 s2 ne I idd i7 i8 => ?_
          have kb : ∀ b o, B.get? b = some o → h2.get? b = some o := cx2.rel.base
          refine ob11 (clsObj (TC.keeps kb)) fun xr hC => ?_
          have hu2 := hu.mono st2.pre
          have aC : a ≠ tabK B := fun z => by
            refine ob11 (clsObj TC) fun xr hC => ?_
            rw [← z, cx2.rel.new i a _ ea hz rfl] at hC; cases hC
          refine store_attr PySem.F.store_object hC (TC.keeps kb).ns t3 (t4 k hk) (attr_obj k hk) aC I (fun h' tk' I' kk same => ?_) (fun y hy => i8 y hy) (by decide)
          have k2' : ∀ b x, b ≠ a → b ≠ dx → h2.get? b = some x → h'.get? b = some x := fun b x n1 n2 e => kk b x n1 (fun o₀ dx' e1 e2 => by rw [idd o₀ e1] at e2; cases e2; exact n2) e
          refine ob14 (id I) fun o0 io ic inc _ => ?_
          refine ob15 (same o0 io) fun o1 e1 c1 d1 _ dk => ?_
          have dd1 := dk dx (idd o0 io)
          have inst' : InstR B μ2 h' a dx (fs.set k (some u)) := by
            refine ob14 I' fun o2 e2 c2 nc2 hd2 => ?_; clear I'
            rw [e1] at e2; cases e2
            rcases hd2 with ⟨z, _⟩ | ⟨d', z1, z2, z3⟩
            · rw [dd1] at z; cases z
            · rw [dd1] at z1; cases z1
              refine ⟨o1, _, e1, c2, dd1, nc2, z2, z3, fun j v hj e => ?_, fun y hy => ?_⟩
              · by_cases z : k = j
                · subst z
                  rw [List.getElem?_set_self hl.1] at e
                  cases e
                  exact ⟨u', by rw [if_pos rfl], hu2⟩
                · rw [List.getElem?_set_ne z] at e
                  refine ob12 (i7 j v hj e) fun w' w1 w2 => ?_
                  refine ⟨w', ?_, w2⟩
                  rw [if_neg fun z' => z (attrName_inj hk hj z').symm]; exact w1
              · by_cases z : y = attrName k
                · rw [z]
                  have : k = 0 ∨ k = 1 ∨ k = 2 := by (first | exact om129 hl | omega)
                  rcases this with rfl | rfl | rfl <;> simp
                · rw [if_neg z] at hy; exact i8 y hy
          have r' := cx2.rel.updI ea hz s2 s1 k2' inst'
          have st' : Step μ2 μ2 h2 h' := ⟨List.prefix_refl _, fun b ob n e => look_keep (fun o' => k2' b o' (fun z => n (z ▸ List.mem_of_getElem? ea)) (fun z => n (z ▸ List.mem_of_getElem? s2))) e, fun _ x y => absurd x y⟩
          have cx3 := cx2.step st' r'
          exact q4 μ2 .next h' tk' r' (st'.toF cx2.frm.ownMu) cx3.frm cx3.vars rfl
        · rw [if_neg hl] at q4; exact q4.elim
      | _ => exact q3.elim
  | _ => exact q2.elim

end
end Mine


-- part MiniLoop
set_option maxRecDepth 4000
set_option linter.unusedVariables false
namespace Mine
open PySem

section
variable {n : Nat} {C : Cf} {W : Nat} {prog : Program} {w : World} {B : Heap} {sc : Scope} {sm : List (Str × Nat)} {g : GMap} {F : Nat → Option MFun} {mg mb : Str → Option Value}
variable {env : Env} {ρ : Rho} {σ : MH} {μ : List Addr} {s : Shared} {A : Around} {E : Value → Shared → Prop} {X : XE}

/-- x = [..]: the list is stored before the block's names go -/
theorem sx_assign_lc {j : Nat} {m : MExpr} {res : Rho → MH → Res (List Val)} {e1 tgt iter : Expr} {ifs : List Expr} {y : Str} {py pos cpos : Pos} {inner : Scope} (inj : SmOk sm) (hs : stK sc sm y j = true) (hE : ∀ ρ h, (sem C m).E ρ h = (res ρ h).bind newList) (H : SC n C prog w B sc sm res e1 tgt iter ifs inner) :
    SX n C W prog w B sc sm (.assign j m) (.Assign [.Name y py] (.ListComp e1 [⟨tgt, iter, ifs, 0⟩] inner cpos) pos) := fun {env ρ σ μ s A X Q} cx p => by
  have hb : ∃ b, swapsWith (.ListComp e1 [⟨tgt, iter, ifs, 0⟩] inner cpos) (some (.Name y py)) pos.line env = pure b := ⟨_, rfl⟩
  refine ob11 hb fun b hb => ?_
  cases b with
  | false => exact sx_assign_plain inj hs (se_lc hE H) hb cx p
  | true =>
    have p : PostS B X env sm μ s Q (((sem C m).E ρ σ).bind fun v h => .ok (.next, ρ.set j (some v)) h) := p
    rw [hE] at p
    rw [arm_exec_Assign]
    refine wpAny_bind (wpAny_standAt (wpAny_bind ?_))
    rw [show swapsWithSole [.Name y py] (.ListComp e1 [⟨tgt, iter, ifs, 0⟩] inner cpos) pos.line env = pure true from hb]
    refine wpAny_pure ?_
    rw [if_pos rfl]
    refine wpAny_bind ?_
    rw [arm_evalThenUse_ListComp]
    refine wpAny_bind (H cx ?_)
    cases q2 : res ρ σ with
    | exc c h => rw [q2] at p; exact PostXF.toX p
    | stuck => rw [q2] at p; exact p
    | ok vs σ' =>
        rw [q2] at p
        simp only [Res.bind_ok] at p
        intro μ' D Cn h' tk ys k m r st d1 d2 d3 d4 d5 d6 d7 d8 d9 d10
        unfold newList at p
        split at p
        · rename_i hl
          have p : PostS B X env sm μ s Q (.ok (.next, ρ.set j (some (.ref σ'.length))) (σ' ++ [.list vs])) := p
          have r' : HRel B (μ' ++ [D]) (σ' ++ [.list vs]) h' := r.alloc (fun b o e => e) d1 d6 ⟨hl, ys, k, d8, d9.mono (List.prefix_append _ _)⟩
          have st' : Step μ (μ' ++ [D]) s.heap h' := by
            refine ⟨st.pre.trans (List.prefix_append _ _), st.keep, fun b hb nm => ?_⟩
            rcases List.mem_append.mp hb with hb | hb
            · exact st.fresh b hb nm
            · rw [List.mem_singleton.mp hb]; exact d4
          have cx' := cx.step st' r'
          have hv : VRel (μ' ++ [D]) (.ref σ'.length) (.ref D) := ⟨D, by rw [← r.len, List.getElem?_append_right (Nat.le_refl _), Nat.sub_self]; rfl, rfl⟩
          show wpAny (model prog w) A (assignAll (.ref D) ((assignEach [.Name y py] env).map (·.2))) _ X.E { s with heap := h', toks := tk }
          show wpAny (model prog w) A (assign (.Name y py) env (.ref D)) _ X.E { s with heap := h', toks := tk }
          refine wpAny_bind (wpAny_standAt (wpAny_bindName (store_sound (s := { s with heap := h', toks := tk }) inj hs cx' hv fun h2 tk2 r2 st2 f2 v2 => ?_)))
          have ownC : ¬ Own env Cn := fun q => by refine ob11 (cx.frm.ownAlive Cn q) fun o e => ?_; rw [d5] at e; cases e
          refine ⟨m, Ns_look d10 fun o e => st2.keep Cn o (fun q => by
            rcases List.mem_append.mp q with q | q
            · exact d2 q
            · exact d3 (List.mem_singleton.mp q).symm) ownC e, fun h3 sb => wpAny_pure (wpAny_pure ?_)⟩
          have mC : Cn ∉ μ' ++ [D] := fun q => by
            rcases List.mem_append.mp q with q | q
            · exact d2 q
            · exact d3 (List.mem_singleton.mp q).symm
          have aliveC : ∃ o, h2.get? Cn = some o := by
            refine ob11 (Ns_alive d10) fun o e => ?_
            exact st2.alive mC e
          -- the block's names go: no object of ours, none of the frame's
          refine p (μ' ++ [D]) .next h3 tk2 (r2.other (P := fun b => b = Cn) (fun b o nb e => sameBut_keep sb b o nb e) (fun b z => z ▸ mC) (fun b z => z ▸ d7)) ?_ ?_ ?_ rfl
          · have stf := (st'.toF cx.frm.ownMu).trans st2
            exact ⟨stf.pre, fun b o n1 n2 e => look_keep (fun o' => sameBut_keep sb b o' (fun z => by refine ob12 (look_elim e) fun o2 e2 _ => ?_; rw [z, d5] at e2; cases e2)) (stf.keep b o n1 n2 e), stf.fresh, fun b o q e => by
              refine ob11 (stf.own b o q e) fun o' e' => ?_
              exact ⟨o', sameBut_keep sb b o' (fun z => ownC (z ▸ q)) e'⟩⟩
          · refine ob11 f2.ns fun mm nn => ?_
            have nl : env.locals ≠ Cn := fun z => ownC (.inl z.symm)
            refine ⟨f2.kind, f2.glob, f2.bl, ⟨mm, Ns_at nn fun o e => sameBut_keep sb _ o nl e⟩, f2.locMu, f2.locB, fun z c q => ?_, f2.cinj, f2.has⟩
            refine ob02 (f2.cell z c q) fun wz5x0 c2 => ?_; obtain ⟨u, iu⟩ := wz5x0
            exact ⟨⟨u, IsCell_at iu fun o e => sameBut_keep sb _ o (fun t => ownC (.inr ⟨z, t ▸ q⟩)) e⟩, c2⟩
          · intro z jj u hy hj he
            refine ob12 (v2 z jj u hy hj he) fun u' b rr => ?_
            exact ⟨u', b.at (fun o e => sameBut_keep sb _ o (fun t => ownC (.inl t.symm)) e) (fun c o q e => sameBut_keep sb _ o (fun t => ownC (.inr ⟨z, t ▸ q⟩)) e), rr⟩
        · exact p.elim

theorem for_loop [Small n] {i : Nat} {b : MStmt} {x : Str} {px : Pos} {body : List Stmt} {xs : List Val} {ck : MH → Bool} {I : Addr} {At : Nat → Heap → Prop} {μ₁ : List Addr} {σ₁ : MH} {h₁ : Heap} {tk₁ : Nat} {Q : Flow → Shared → Prop} {res : Res (MFlow × Rho)}
    (inj : SmOk sm) (hs : stK sc sm x i = true) (cx : Cx n B X A env sc sm ρ μ σ s.heap) (HB : SXs n C W prog w B sc sm b body) (it : Iter prog w B μ₁ xs ck I At) (i1 : I ∉ μ₁) (i2 : B.get? I = none) (i3 : s.heap.get? I = none)
    (r₁ : HRel B μ₁ σ₁ h₁) (st₁ : Step μ μ₁ s.heap h₁) (at₁ : At 0 h₁) (c₁ : ck σ₁ = true) (hres : res = forLoop (forStep (.loc i) (exec C W b)) ck xs ρ σ₁) (P : PostS B X env sm μ s Q res) :
    codeAny (model prog w) A (.forLoop (.Name x px) (.ref I) body [] env) (fun r s' => match r with | .ok f => Q f s' | .error e => cameBackBy (model prog w) A env X.E e s') { s with heap := h₁, toks := tk₁ } := by
  have ownI : ¬ Own env I := fun q => by refine ob11 (cx.frm.ownAlive I q) fun o e => ?_; rw [i3] at e; cases e
  have cx₁ := cx.step st₁ r₁
  refine codeAny_forLoop_any (fun k s' => ∃ j μj ρj σj hj tkj, k = xs.length - j ∧ j ≤ xs.length ∧ s' = { s with heap := hj, toks := tkj } ∧ HRel B μj σj hj ∧ StepF env μ μj s.heap hj ∧ μ₁ <+: μj ∧ I ∉ μj ∧ At j hj ∧ Frm B env μj hj ∧ Vars env sm ρj μj hj ∧ ck σj = true ∧
      res = forLoop (forStep (.loc i) (exec C W b)) ck (xs.drop j) ρj σj)
    (fun k s' hI => ?_) xs.length ⟨0, μ₁, ρ, σ₁, h₁, tk₁, by simp, Nat.zero_le _, rfl, r₁, st₁.toF cx.frm.ownMu, List.prefix_refl _, i1, at₁, cx₁.frm, cx₁.vars, c₁, hres⟩
  refine ob68 hI fun j μj ρj σj hj tkj ez2x6 hj' ez2x8 rj stj pj frj wz2 => ?_; clear hI; subst ez2x6; subst ez2x8; refine ob05 wz2 fun atj fj vj cj hrj => ?_; clear wz2
  -- a change of the iterator alone
  have keepI : ∀ {h' : Heap}, (∀ b o, b ≠ I → hj.get? b = some o → h'.get? b = some o) → HRel B μj σj h' ∧ Frm B env μj h' ∧ Vars env sm ρj μj h' ∧ StepF env μ μj s.heap h' := fun {h'} k1 => by
    refine ⟨rj.other (P := fun b => b = I) (fun b o nb e => k1 b o nb e) (fun b z => z ▸ frj) (fun b z => z ▸ i2), ?_, ?_, ?_⟩
    · refine ob11 fj.ns fun mm nn => ?_
      refine ⟨fj.kind, fj.glob, fj.bl, ⟨mm, Ns_at nn fun o e => k1 _ o (fun z => ownI (.inl z.symm)) e⟩, fj.locMu, fj.locB, fun z c q => ?_, fj.cinj, fj.has⟩
      refine ob02 (fj.cell z c q) fun wz9x0 c2 => ?_; obtain ⟨u, iu⟩ := wz9x0
      exact ⟨⟨u, IsCell_at iu fun o e => k1 _ o (fun t => ownI (.inr ⟨z, t ▸ q⟩)) e⟩, c2⟩
    · intro z jj u hy hj he
      refine ob12 (vj z jj u hy hj he) fun u' b rr => ?_
      exact ⟨u', b.at (fun o e => k1 _ o (fun t => ownI (.inl t.symm)) e) (fun c o q e => k1 _ o (fun t => ownI (.inr ⟨z, t ▸ q⟩)) e), rr⟩
    · exact ⟨stj.pre, fun b o n1 n2 e => look_keep (fun o' => k1 b o' (fun z => by refine ob12 (look_elim e) fun o2 e2 _ => ?_; rw [z, i3] at e2; cases e2)) (stj.keep b o n1 n2 e), stj.fresh, fun b o q e => by
        refine ob11 (stj.own b o q e) fun o' e' => ?_
        exact ⟨o', k1 b o' (fun z => ownI (z ▸ q)) e'⟩⟩
  rcases Nat.lt_or_eq_of_le hj' with lt | rfl
  · rw [List.drop_eq_getElem_cons lt, forLoop] at hrj
    refine it.item j xs[j] A _ μj σj _ _ (List.getElem?_eq_getElem lt) pj atj rj cj fun v h1 tk1 hv at1 k1 => ?_
    refine ob04 (keepI k1) fun r1 fr1 v1 st1 => ?_
    show wpAny (model prog w) A (letOwnedTupleGo (.Name x px) (.ref I) v) _ _ { s with heap := h1, toks := tk1 }
    refine wpAny_pure ?_
    show wpAny (model prog w) A (assign (.Name x px) env v) _ _ { s with heap := h1, toks := tk1 }
    have cx1 : Cx n B X A env sc sm ρj μj σj h1 := cx.stepF st1 r1 fr1 v1
    refine wpAny_bind (wpAny_standAt (wpAny_bindName (store_sound (s := { s with heap := h1, toks := tk1 }) inj hs cx1 hv fun h2 tk2 r2 st2 fr2 v2 => ?_)))
    have at2 : At (j + 1) h2 := it.frame _ _ _ at1 fun o e => st2.keep I o frj ownI e
    have st12 := st1.trans st2
    have cx2 : Cx n B X A env sc sm (ρj.set i (some xs[j])) μj σj h2 := cx.stepF st12 r2 fr2 v2
    refine HB (X := ⟨X.l, notedBy (model prog w) A env (cameBackBy (model prog w) A env X.E)⟩) (s := { s with heap := h2, toks := tk2 }) ⟨cx2.scope, cx2.ok, cx2.frm, cx2.vars, cx2.rel, cx2.frames, cx2.fok, cx2.here, cx2.apart, cx2.hd⟩ ?_
    have hrj : res = (exec C W b (ρj.set i (some xs[j])) σj).bind fun p h1 => match p.1 with
      | .next => if ck h1 then forLoop (forStep (.loc i) (exec C W b)) ck (xs.drop (j + 1)) p.2 h1 else .stuck
      | .ret v => .ok (.ret v, p.2) h1 := hrj
    cases f1 : exec C W b (ρj.set i (some xs[j])) σj with
    | stuck => rw [f1] at hrj; rw [hrj] at P; exact P
    | exc c σ' =>
      rw [f1] at hrj; rw [hrj] at P
      exact PostXF.back (PostXF.step P st12) ⟨cx2.frames, cx2.here⟩
    | ok pr σ1 =>
      rw [f1] at hrj
      simp only [Res.bind_ok] at hrj
      intro μ3 f h3 tk3 r3 st3 fr3 v3 hf
      have st13 := st12.trans st3
      refine ob11 (it.alive _ _ at2) fun oI eI => ?_
      cases hn : pr.1 with
      | next =>
        rw [hn] at hf hrj
        simp only at hrj
        rw [show f = .next from hf]
        by_cases hc : ck σ1 = true
        · rw [if_pos hc] at hrj
          exact ⟨xs.length - (j + 1), by (first | exact om119 lt | omega), j + 1, μ3, pr.2, σ1, h3, tk3, rfl, lt, rfl, r3, st13, pj.trans st3.pre, st3.notMem frj eI, it.frame _ _ _ at2 fun o e => st3.keep I o frj ownI e, fr3, v3, hc, hrj⟩
        · rw [if_neg hc] at hrj; rw [hrj] at P; exact P.elim
      | ret v' =>
        rw [hn] at hf hrj
        simp only at hrj
        rw [hrj] at P
        refine ob12 hf fun u ez6x1 hu => ?_; clear hf; subst ez6x1
        exact P μ3 _ h3 tk3 r3 st13 fr3 v3 ⟨u, rfl, hu⟩
  · rw [List.drop_length, forLoop] at hrj
    rw [hrj] at P
    refine it.done A _ μj σj _ _ (.inl cx.ok.handled) pj atj rj cj fun h1 tk1 k1 => ?_
    refine ob04 (keepI k1) fun r1 fr1 v1 st1 => ?_
    exact wpAny_execs_nil (P μj .next h1 tk1 r1 st1 fr1 v1 rfl)

theorem sx_for [Small n] {i : Nat} {it : MExpr} {b : MStmt} {x : Str} {px pos : Pos} {iter : Expr} {body : List Stmt} (inj : SmOk sm) (hs : stK sc sm x i = true) (HI : SI n C prog w B sc sm it iter) (HB : SXs n C W prog w B sc sm b body) :
    SX n C W prog w B sc sm (.fors (.loc i) it b) (.For (.Name x px) iter body [] pos) := fun {env ρ σ μ s A X Q} cx p => by
  have p : PostS B X env sm μ s Q (((sem C it).I ρ σ).bind fun s h => forLoop (forStep (.loc i) (exec C W b)) s.2 s.1 ρ h) := p
  refine wpAny_For (HI.2 cx ?_) (HI.1 env)
  cases q1 : (sem C it).I ρ σ with
  | exc c h => rw [q1] at p; exact PostXF.toX p
  | stuck => rw [q1] at p; exact p
  | ok src σ₁ =>
    obtain ⟨xs, ck⟩ := src
    rw [q1] at p
    intro μ₁ I At h₁ tk₁ r₁ st₁ i1 i2 i3 itr at₁ c₁ l₁
    exact for_loop inj hs cx HB itr i1 i2 i3 r₁ st₁ at₁ c₁ rfl p

end
end Mine


-- part MiniTry
set_option maxRecDepth 4000
set_option linter.unusedVariables false
namespace Mine
open PySem

theorem and_left {a b : Bool} (h : (a && b) = true) : a = true := by cases a; cases h; rfl
theorem and_right {a b : Bool} (h : (a && b) = true) : b = true := by cases a; cases h; exact h
theorem clsName_inj : ∀ {c d : Nat}, c < 9 → d < 9 → clsName c = clsName d → c = d := by
  have : ∀ c : Fin 9, ∀ d : Fin 9, clsName c.1 = clsName d.1 → c = d := by decide +kernel
  intro c d hc hd e
  exact congrArg Fin.val (this ⟨c, hc⟩ ⟨d, hd⟩ e)
theorem ExcCls.named {B : Heap} {c : Nat} (h : ExcCls B c) : c < 9 ∧ ∃ o cd, B.get? (clsK B c) = some o ∧ o.data = .cls cd ∧ cd.name = clsName c := by
  refine ob03 h fun h1 _ wz0 => ?_; clear h; refine ob12 wz0 fun r ho _ => ?_; clear wz0
  exact ⟨h1, _, _, ho, rfl, rfl⟩
theorem ExcCls.inj {B : Heap} {c d : Nat} (h : ExcCls B c) (h' : ExcCls B d) (e : clsK B c = clsK B d) : c = d := by
  refine ob02 h.named fun h1 wz1 => ?_; refine ob23 wz1 fun o cd h2 h3 h4 => ?_; clear wz1
  refine ob02 h'.named fun h1' wz2 => ?_; refine ob23 wz2 fun o' cd' h2' h3' h4' => ?_; clear wz2
  rw [e, h2'] at h2; cases h2
  rw [h3'] at h3; cases h3
  exact clsName_inj h1 h1' (h4.symm.trans h4')
theorem ExcCls.inj0 {B : Heap} {c : Nat} (h : ExcCls B c) (e : clsK B c = clsK B 0) : c = 0 := by
  refine ob02 h.named fun h1 wz3 => ?_; refine ob23 wz3 fun o cd h2 h3 h4 => ?_; clear wz3
  refine ob03 h fun _ wz4x1 _ => ?_; clear h; refine ob53 wz4x1 fun c0 dd sl cd' m0 h2' h4' _ => ?_; clear wz4x1
  rw [e, h2'] at h2; cases h2
  cases h3
  exact clsName_inj h1 (by decide) (h4.symm.trans h4')
theorem mro_has {B : Heap} {c k : Nat} (hc : ExcCls B c) (hk : ExcCls B k) : (Value.ref (clsK B c) :: tlK B c).contains (.ref (clsK B k)) = decide (k = c ∨ k = 0) := by
  rw [Bool.eq_iff_iff, List.contains_iff_mem, decide_eq_true_eq, List.mem_cons, tlK, List.mem_append]
  constructor
  · rintro (h | h | h)
    · exact .inl (hk.inj hc (by simpa using h))
    · by_cases z : c = 0
      · rw [if_pos z] at h; cases h
      · rw [if_neg z] at h; exact .inr (hk.inj0 (by simpa using h))
    · simp [bmVE] at h
  · rintro (rfl | rfl)
    · exact .inl rfl
    · by_cases z : c = 0
      · subst z; exact .inl rfl
      · rw [if_neg z]; exact .inr (.inl (.head _))
theorem tlK_has {B : Heap} {c : Nat} {T : String} (h : bmVE.contains (.type T) = true) : (tlK B c).contains (.type T) = true := by
  rw [List.contains_iff_mem] at h ⊢
  exact List.mem_append.mpr (.inr h)

section
variable {M : Model} {A : Around} {E : Value → Shared → Prop} {h B : Heap} {g : Array GenState} {d : Drawn} {t : Nat} {os : OsState} {c k : Nat} {e : Addr} {oe : Obj}

theorem exc_matches {Q : Bool → Shared → Prop} (kk : ∀ b o, B.get? b = some o → h.get? b = some o) (hc : ExcCls B c) (hk : ExcCls B k) (he : h.get? e = some oe) (hcls : oe.cls = .ref (clsK B c))
    (hq : Q (decide (k = c ∨ k = 0)) ⟨h, g, d, t, os⟩) : wpAny M A (excMatches (.ref e) (.ref (clsK B k))) Q E ⟨h, g, d, t, os⟩ := by
  have hm := mro_has hc hk
  refine ob12 hc.2.2 fun r hC _ => ?_
  refine ob03 hk fun _ _ wz6 => ?_; clear hk; refine ob12 wz6 fun r' hK _ => ?_; clear wz6
  have hC := kk _ _ hC
  have hK := kk _ _ hK
  have hB : (Value.ref (clsK B k) :: tlK B k).contains (.type "BaseException") = true := by rw [List.contains_cons, tlK_has (by decide), Bool.or_true]
  have f := tc_notTuple
  unfold excMatches
  generalize decide (k = c ∨ k = 0) = b at hm hq
  repeat (first | (with_reducible refine wpAny_loadPart_at he ?_; rw [hcls]) | with_reducible refine wpAny_loadPart_at hK ?_ | (with_reducible refine wpAny_isSubtype_exc hK ?_; rw [hB]) | (with_reducible refine wpAny_isSubtype_exc hC ?_; rw [hm]) | wp_step)
  cases b <;> (wp_walk; exact hq)
end

section
variable {prog : Program} {w : World} {A : Around} {E : Value → Shared → Prop} {s : Shared}

theorem isi_exc {B : Heap} {c : Nat} {e : Addr} {oe : Obj} {Q : Value → Shared → Prop} (kk : ∀ b o, B.get? b = some o → s.heap.get? b = some o) (hc : ExcCls B c) (he : s.heap.get? e = some oe) (hcls : oe.cls = .ref (clsK B c)) (hq : Q (.bool true) s) :
    wpAny (model prog w) A (call (.builtin "isinstance") [.ref e, .type "ValueError"]) Q E s := by
  refine ob12 hc.2.2 fun r hC _ => ?_
  have hC := kk _ _ hC
  refine call_isinstance (S := fun _ R s => (s.heap.get? e = some oe ∧ s.heap.get? (clsK B c) = some (r.obj B c)) ∧ R (.ok (.ret (.bool true))) s)
    (fun prog w A R s hs => isinstance_outer ?_ (by intro q; cases q)) ⟨⟨he, hC⟩, hq⟩
  obtain ⟨h, gg, dr, tt, os⟩ := s
  refine ob02 hs fun wz9x0 hq => ?_; clear hs; obtain ⟨he, hC⟩ := wz9x0
  have hV : (Value.ref (clsK B c) :: tlK B c).contains (.type "ValueError") = true := by rw [List.contains_cons, tlK_has (by decide), Bool.or_true]
  have f : typeOf (.type "ValueError") = pure (.type "type") := by kernel_rfl
  have f2 : (Value.ref (clsK B c) == Value.type "ValueError") = false := rfl
  unfold Builtin.«isinstance.nested»
  repeat (first | (with_reducible refine wpAny_loadPart_at he ?_; rw [hcls]) | (with_reducible refine wpAny_isSubtype_exc hC ?_; rw [hV]) | wp_step)
  all_goals first | exact hq | skip
end

section
variable {n : Nat} {C : Cf} {W : Nat} {prog : Program} {w : World} {B : Heap} {sc : Scope} {sm : List (Str × Nat)} {g : GMap} {F : Nat → Option MFun} {mg mb : Str → Option Value}
variable {env : Env} {ρ : Rho} {σ : MH} {μ : List Addr} {s : Shared} {A : Around} {E : Value → Shared → Prop} {X : XE}

theorem name_glob {x : Str} {i : GI} {pos : Pos} {v : Value} {Q : Value → Shared → Prop} (hg : s.heap.Ns env.globals mg) (hk : env.scope = sc) (hf : env.scope.kind = .function) (h : globK g sc x i = true) (hv : mg x = some v) (hQ : Q v s) : wpAny (model prog w) A (eval (.Name x pos) env) Q E s := by
  refine ob03 (globK_split h) fun h1 h2 h3 => ?_
  exact Calls.Name_function_global hf (by unfold Env.kindOf; rw [hk]; exact h1) (Calls.loadGlobal_global (mg := mg) hg hv hQ) (nameOk_1 h2)
theorem name_built {x : Str} {i : GI} {pos : Pos} {v : Value} {Q : Value → Shared → Prop} (hg : s.heap.Ns env.globals mg) (hb : s.heap.Ns env.builtins mb) (hk : env.scope = sc) (hf : env.scope.kind = .function) (h : globK g sc x i = true) (hv : mg x = none ∧ mb x = some v) (hQ : Q v s) : wpAny (model prog w) A (eval (.Name x pos) env) Q E s := by
  refine ob03 (globK_split h) fun h1 h2 h3 => ?_
  exact Calls.Name_function_global hf (by unfold Env.kindOf; rw [hk]; exact h1) (Calls.loadGlobal_builtin (mg := mg) (mb := mb) hg hv.1 hb hv.2 hQ) (nameOk_1 h2)

/-- raise K('..') -/
theorem sx_raise [Small n] {c : Nat} {x : Str} {t : Str} {k : Nat} {np p1 cpos pos : Pos} (G : GOk g F B mg mb) (h : globK g sc x (.cls c) = true) : SX n C W prog w B sc sm (.raise c) (.Raise (some (.Call (.Name x np) [.Constant (.str t) k p1] [] cpos)) none pos) := fun {env ρ σ μ s A X Q} cx p => by
  have p : PostXF B X env μ s c σ := p
  refine ob02 (G.cls x c (globK_split h).2.2) fun hm hc => ?_
  refine ob14 hc.2.2 fun r hC hN hi hT => ?_
  refine wpAny_Raise_call_subT (nm := clsName c) (q := r.q) (N := r.N) (bs := r.bs) (hdct := r.hdct) (sn := r.sn) (sub := r.sub) (ab := r.ab) (col := r.col) (dd := r.dd) (k0 := r.k0) (k1 := r.k1) (k2 := r.k2) (k3 := r.k3) (k5 := r.k5) PySem.F.excBase_ValueError (hbase := tlK_has (c := c) (B := B) (by decide)) cx.ok.handled (noStar_back (noStar_one rfl)) (hi _ (.head _)) (glob_some G h cx hm ⟨rfl, args_eq (noStar_one rfl) (one_spliced rfl (wpAny_Constant_str ?_))⟩)
  have kb : ∀ b o, B.get? b = some o → s.heap.get? b = some o := cx.rel.base
  refine ⟨rfl, by show 1 ≤ sizeLine; decide, kb _ _ hC, Ns_at hN fun o e => kb _ _ e, hT.keeps kb, fun h' e hx => ?_⟩
  let P : Addr → Prop := fun b => ∃ f, f ∈ X.l ∧ f.frame = some b
  have hP : ∀ b, P b → b ∉ μ ∧ B.get? b = none ∧ ∃ m, s.heap.Ns b m := fun b ⟨f, hf, hb⟩ => by
    refine ob02 (cx.fok f hf) fun _ wz11 => ?_; refine ob14 wz11 fun L h2 h3 h4 h5 => ?_; clear wz11
    rw [hb] at h2; cases h2
    exact ⟨h3, h4, h5⟩
  have hx' : Heap.MadeExcOf s.heap h' e (.ref (clsK B c)) _ := hx
  refine ob13 hx'.there fun t' te tn tt => ?_
  refine p μ h' _ e (cut P s.heap) ⟨cx.rel.other (P := P) (fun b o nb e => (cut_get nb).trans e) (fun b z => (hP b z).1) (fun b z => (hP b z).2.1), hc⟩ ?_ ⟨fun b o e => hx'.keeps b o (cut_in b o e), cut_less e hx'.new, cx.fok.fun (fun f L hf hL => cut_none ⟨f, hf, hL⟩) hx'.keeps, .inl ⟨_, _, _, te, rfl, rfl, rfl, rfl, rfl⟩⟩
  refine StepX.toF ⟨Step.grow hx'.keeps, fun b o n e nd => ?_⟩
  refine ob12 (look_elim e) fun o' e' ez13x2 => ?_; subst ez13x2
  refine ⟨o', (cut_get fun z => ?_).trans e'⟩
  refine ob03 (hP b z) fun _ _ wz14 => ?_; refine ob43 wz14 fun m o2 es ep e2 d2 _ => ?_; clear wz14
  rw [e'] at e2; cases e2
  exact nd es ep (by rw [nrm_data]; exact d2)

/-- statements that bind nothing: what stands in a try -/
noncomputable def SP (n : Nat) (C : Cf) (W : Nat) (prog : Program) (w : World) (B : Heap) (sc : Scope) (sm : List (Str × Nat)) (m : MStmt) (st : Stmt) : Prop :=
  ∀ {env ρ σ μ} {s : Shared} {A : Around} {X : XE} {Q : Flow → Shared → Prop}, Cx n B X A env sc sm ρ μ σ s.heap → Post B X (fun μ p f => p.2 = ρ ∧ FRel μ p.1 f) μ s Q (exec C W m ρ σ) → wpAny (model prog w) A (PySem.exec st env) Q X.E s
noncomputable def SPs (n : Nat) (C : Cf) (W : Nat) (prog : Program) (w : World) (B : Heap) (sc : Scope) (sm : List (Str × Nat)) (m : MStmt) (l : List Stmt) : Prop :=
  ∀ {env ρ σ μ} {s : Shared} {A : Around} {X : XE} {Q : Flow → Shared → Prop}, Cx n B X A env sc sm ρ μ σ s.heap → Post B X (fun μ p f => p.2 = ρ ∧ FRel μ p.1 f) μ s Q (exec C W m ρ σ) → wpAny (model prog w) A (execs l env) Q X.E s

theorem sp_nil : SPs n C W prog w B sc sm .nil [] := fun {env ρ σ μ s A X Q} cx p => wpAny_execs_nil (Post.here' (σ := σ) (v := (MFlow.next, ρ)) cx.rel p ⟨rfl, rfl⟩)
theorem sp_cons {a b : MStmt} {st : Stmt} {r : List Stmt} (ha : SP n C W prog w B sc sm a st) (hb : SPs n C W prog w B sc sm b r) : SPs n C W prog w B sc sm (.cons a b) (st :: r) := fun {env ρ σ μ s A X Q} cx p => by
  refine wpAny_execs_cons (ha cx (Post.bindR (f := fun p h => match p.1 with | .next => exec C W b p.2 h | .ret v => .ok (.ret v, p.2) h) p fun v σ1 μ1 f h1 tk r1 st1 hv q => ?_))
  obtain ⟨fl, ρ1⟩ := v
  obtain ⟨hr, hf⟩ := hv
  have hr : ρ1 = ρ := hr
  subst hr
  cases fl with
  | next => rw [show f = .next from hf]; exact hb (cx.step st1 r1) q
  | ret v =>
    refine ob12 hf fun v' ez15x1 hv => ?_; clear hf; subst ez15x1
    exact Post.here' (s := { s with heap := h1, toks := tk }) (v := (MFlow.ret v, ρ1)) r1 q ⟨rfl, v', rfl, hv⟩
theorem sp_ret {e : MExpr} {x : Expr} {pos : Pos} (he : SE n C prog w B sc sm e x) : SP n C W prog w B sc sm (.ret e) (.Return (some x) pos) := fun {env ρ σ μ s A X Q} cx p =>
  wpAny_Return_some (he.bind cx p fun v σ1 μ1 v' h1 tk cx1 st hv q => Post.here' (s := { s with heap := h1, toks := tk }) (v := (MFlow.ret v, ρ)) cx1.rel q ⟨rfl, v', rfl, hv⟩)
theorem sp_expr {e : MExpr} {x : Expr} {pos : Pos} (h : isComp x = false) (he : SE n C prog w B sc sm e x) : SP n C W prog w B sc sm (.expr e) (.Expr x pos) := fun {env ρ σ μ s A X Q} cx p => by
  rw [exec_Expr env _ _ (interactive_of cx) (swaps_none h)]
  exact wpAny_bind (wpAny_standAt (wpAny_bind (he.bind cx p fun v σ1 μ1 v' h1 tk cx1 st hv q => wpAny_dropValue (Post.here' (s := { s with heap := h1, toks := tk }) (v := (MFlow.next, ρ)) cx1.rel q ⟨rfl, rfl⟩))))
theorem sp_if {c : MExpr} {t e : MStmt} {x : Expr} {y z : List Stmt} {pos : Pos} (hc : ST n C prog w B sc sm c x) (ht : SPs n C W prog w B sc sm t y) (he : SPs n C W prog w B sc sm e z) : SP n C W prog w B sc sm (.ifs c t e) (.If x y z pos) := fun {env ρ σ μ s A X Q} cx p =>
  wpAny_If (hc.bind cx p fun b σ1 μ1 h1 tk cx1 st q => by
    cases b with
    | true => rw [if_pos rfl]; exact ht cx1 q
    | false => rw [if_neg (by simp)]; exact he cx1 q)

theorem allP [Small n] (G : GOk g F B mg mb) (cs : CS n C prog w g F B) : ∀ m, noAsg m = true → (∀ st, (chkS g sc sm m).S st = true → SP n C W prog w B sc sm m st) ∧ (∀ l, (chkS g sc sm m).Ss l = true → SPs n C W prog w B sc sm m l) := by
  have AE := allE (n := n) (C := C) (prog := prog) (w := w) G cs
  intro m
  induction m with
  | nil =>
    refine fun _ => ⟨fun st q => (Bool.false_ne_true q).elim, fun l q => ?_⟩
    have : l = [] := List.isEmpty_iff.mp q
    subst this; exact @sp_nil _ _ _ _ _ _ _ _
  | cons a b ia ib =>
    intro na
    have na : (noAsg a && noAsg b) = true := na
    rw [Bool.and_eq_true] at na
    refine ⟨fun st q => (Bool.false_ne_true q).elim, fun l q => ?_⟩
    cases l with
    | nil => exact (Bool.false_ne_true q).elim
    | cons st r =>
      have q : ((chkS g sc sm a).S st && (chkS g sc sm b).Ss r) = true := q
      rw [Bool.and_eq_true] at q
      intro _ _ _ _ _ _ _ _ cx p; exact sp_cons ((ia na.1).1 _ q.1) ((ib na.2).2 _ q.2) cx p
  | expr e =>
    refine fun _ => ⟨fun st q => ?_, fun l q => (Bool.false_ne_true q).elim⟩
    have o := sview_ok st
    have q : (match sview st with | .expr v => (chk g e sc sm).E v && !isComp v | _ => false) = true := q
    generalize sview st = vw at o q
    cases o with
    | expr v pos =>
      have q : ((chk g e sc sm).E v && !isComp v) = true := q
      simp only [Bool.and_eq_true, Bool.not_eq_true'] at q
      intro _ _ _ _ _ _ _ _ cx p; exact sp_expr q.2 ((AE e sc sm).1 _ q.1).1 cx p
    | _ => exact (Bool.false_ne_true q).elim
  | ret e =>
    refine fun _ => ⟨fun st q => ?_, fun l q => (Bool.false_ne_true q).elim⟩
    have o := sview_ok st
    have q : (match sview st with | .ret (some v) => (chk g e sc sm).E v | .ret none => isNC e | _ => false) = true := q
    generalize sview st = vw at o q
    cases o with
    | ret v pos =>
      cases v with
      | some v => intro _ _ _ _ _ _ _ _ cx p; exact sp_ret ((AE e sc sm).1 _ q).1 cx p
      | none =>
        rw [isNC_eq q]
        intro env ρ σ μ s A X Q cx p
        exact wpAny_Return_none (Post.here' (σ := σ) (v := (MFlow.ret .none, ρ)) cx.rel p ⟨rfl, _, rfl, rfl⟩)
    | _ => exact (Bool.false_ne_true q).elim
  | ifs c t e it ie =>
    intro na
    have na : (noAsg t && noAsg e) = true := na
    rw [Bool.and_eq_true] at na
    refine ⟨fun st q => ?_, fun l q => (Bool.false_ne_true q).elim⟩
    have o := sview_ok st
    have q : (match sview st with | .ifs x y z => (chk g c sc sm).E x && (chkS g sc sm t).Ss y && (chkS g sc sm e).Ss z | _ => false) = true := q
    generalize sview st = vw at o q
    cases o with
    | ifs x y z pos =>
      have q : ((chk g c sc sm).E x && (chkS g sc sm t).Ss y && (chkS g sc sm e).Ss z) = true := q
      simp only [Bool.and_eq_true] at q
      intro _ _ _ _ _ _ _ _ cx p; exact sp_if ((AE c sc sm).1 _ q.1.1).2.1 ((it na.1).2 _ q.1.2) ((ie na.2).2 _ q.2) cx p
    | _ => exact (Bool.false_ne_true q).elim
  | _ => exact fun na => (Bool.false_ne_true na).elim

end
end Mine


-- part MiniTry2
set_option maxRecDepth 4000
set_option linter.unusedVariables false
namespace Mine
open PySem

section
variable {n : Nat} {C : Cf} {W : Nat} {prog : Program} {w : World} {B : Heap} {sc : Scope} {sm : List (Str × Nat)} {g : GMap} {F : Nat → Option MFun} {mg mb : Str → Option Value}
variable {env : Env} {ρ : Rho} {σ : MH} {μ : List Addr} {s : Shared} {A : Around} {E : Value → Shared → Prop} {X : XE}

theorem const_val {v : Val} {c : Const} {k : Nat} {pos : Pos} {Q : Value → Shared → Prop} (h : constIs v c = true) (hQ : ∀ u tk, VRel [] v u → Q u { s with toks := tk }) : wpAny (model prog w) A (eval (.Constant c k pos) env) Q E s := by
  cases v with
  | none =>
    cases c with
    | none => exact wpAny_Constant_none (hQ _ s.toks rfl)
    | _ => exact (Bool.false_ne_true h).elim
  | bool a =>
    cases c with
    | bool b =>
      have h : (a == b) = true := h
      rw [beq_iff_eq] at h; subst h; exact wpAny_Constant_bool (hQ _ s.toks rfl)
    | _ => exact (Bool.false_ne_true h).elim
  | int a =>
    cases c with
    | int b =>
      have h : (a == b) = true := h
      rw [beq_iff_eq] at h; subst h; exact wpAny_Constant_int (hQ _ _ ⟨_, rfl⟩)
    | _ => exact (Bool.false_ne_true h).elim
  | str a =>
    cases c with
    | str b =>
      have h : (decide (b = ⟨a.toArray⟩) && decide (a.length ≤ lim)) = true := h
      simp only [Bool.and_eq_true, decide_eq_true_eq] at h
      obtain ⟨rfl, hl⟩ := h
      exact wpAny_Constant_str (hQ _ _ ⟨hl, _, rfl⟩)
    | _ => exact (Bool.false_ne_true h).elim
  | ref a => exact (Bool.false_ne_true h).elim

/-- what a handler finds -/
structure AtH (B : Heap) (l : List Env) (μ μ' : List Addr) (σ' : MH) (s : Shared) (c : Nat) (e : Addr) (base h' : Heap) : Prop where
  r : HX B μ' σ' base c
  st : StepX μ μ' s.heap base h'
  b1 : base.StaysIn h'
  b2 : base.get? e = none
  b3 : h'.FunFrames base l
  b4 : Trc h' base e (.ref (clsK B c))
theorem AtH.land {l : List Env} {μ' : List Addr} {σ' : MH} {c : Nat} {e : Addr} {base h' : Heap} {tk : Nat} {Q : Unit → Shared → Prop} (a : AtH B l μ μ' σ' s c e base h') (k : ∀ h2, AtH B l μ μ' σ' s c e base h2 → Q () { s with heap := h2, toks := tk }) :
    wpAny (model prog w) A (setFlight (.ref e) none) Q E { s with heap := h', toks := tk } := by
  exact fly_set (s := { s with heap := h', toks := tk }) a.b1 a.b3 a.b4 fun h2 n1 n2 n3 n4 => k h2 ⟨a.r, a.st.hop a.b1 n1 n4, n1, a.b2, n2, n3⟩
theorem AtH.cls {l : List Env} {μ' : List Addr} {σ' : MH} {c : Nat} {e : Addr} {base h' : Heap} (a : AtH B l μ μ' σ' s c e base h') : ∃ oe vs, h'.get? e = some oe ∧ oe.cls = .ref (clsK B c) ∧ oe.data = .fields vs := by
  refine ob21 a.b4.1 fun a0 fl w => ?_
  refine ob54 w fun oe vs _ _ _ h1 h2 h3 _ => ?_; clear w
  exact ⟨oe, vs, h1, h2.1, h3⟩
theorem AtH.old {l : List Env} {μ' : List Addr} {σ' : MH} {c : Nat} {e : Addr} {base h' : Heap} (a : AtH B l μ μ' σ' s c e base h') : ∀ b o, B.get? b = some o → h'.get? b = some o := fun b o q => a.b1 b o (a.r.1.base b o q)

/-- except K: return .. -/
theorem suite_const {l : List Env} {μ' : List Addr} {σ' : MH} {c : Nat} {e : Addr} {base h' : Heap} {tk : Nat} {v : Val} {k : Const} {kn : Nat} {p1 p2 pos : Pos} {Q : Flow → Shared → Prop} {R : Result → Shared → Prop}
    (cx : Cx n B X A env sc sm ρ μ σ s.heap) (a : AtH B l μ μ' σ' s c e base h') (h : constIs v k = true) (p : PostS B X env sm μ s Q (.ok (.ret v, ρ) σ')) (hR : ∀ f s', Q f s' → R (.ok f) s') (A' : Around) :
    codeAny (model prog w) A' (.handlers (.ref e) [.ExceptHandler none none [.Return (some (.Constant k kn p1)) p2] pos] env) R { s with heap := h', toks := tk } := by
  refine codeAny_handlers_suite (a.land fun h2 a2 => wpAny_execs_cons (wpAny_Return_some (const_val h fun u tk' hu => hR _ _ ?_)))
  exact p μ' (.ret u) h2 tk' (a2.r.1.grow a2.b1) (a2.st.step.toF cx.frm.ownMu) (cx.frm.step a2.st.step) (cx.vars.step cx.frm a2.st.step) ⟨u, rfl, hu.mono List.nil_prefix⟩

/-- except K as y: return isinstance(y, ValueError) -/
theorem suite_as {l : List Env} {μ' : List Addr} {σ' : MH} {c : Nat} {e : Addr} {base h' : Heap} {tk : Nat} {y : Str} {ex : Expr} {p2 pos : Pos} {Q : Flow → Shared → Prop} {R : Result → Shared → Prop}
    (G : GOk g F B mg mb) (cx : Cx n B X A env sc sm ρ μ σ s.heap) (a : AtH B l μ μ' σ' s c e base h') (h : asOk g sc sm y ex = true) (p : PostS B X env sm μ s Q (.ok (.ret (.bool true), ρ) σ'))
    (hR : ∀ f s', wpAny (model prog w) A (do bindName env y .none; unbindBehindTheSuite env y pos) (fun _ s₃ => Q f s₃) X.E s' → R (.ok f) s') (A' : Around) :
    codeAny (model prog w) A' (.handlers (.ref e) [.ExceptHandler none (some y) [.Return (some ex) p2] pos] env) R { s with heap := h', toks := tk } := by
  unfold asOk at h
  simp only [Bool.and_eq_true, beq_iff_eq, Option.isNone_iff_eq_none] at h
  refine ob03 h fun h0 wz0x1 h3 => ?_; clear h; obtain ⟨h1, hy⟩ := wz0x1
  refine ob42 (onCall_elim h0) fun f pf es q ez1x4 h01 => ?_; subst ez1x4
  rw [Bool.and_eq_true] at h01
  obtain ⟨h4, h5⟩ := h01
  refine ob22 (two_elim h5) fun a1 a2 ez2x2 h51 => ?_; subst ez2x2
  rw [Bool.and_eq_true] at h51
  refine ob22 (onName_elim h51.1) fun z1 pz1 ez3x2 h6 => ?_; subst ez3x2
  refine ob22 (onName_elim h51.2) fun z2 pz2 ez4x2 h7 => ?_; subst ez4x2
  have h6 := of_decide_eq_true h6
  subst h6
  have ky : env.kindOf z1 = some .local := by rw [cx.kind]; exact h1
  have hp : (env.scope.kind == .class || (env.scope.kind == .module && env.locals != env.globals)) = false := by rw [cx.frm.kind]; rfl
  refine codeAny_handlers_suite_as (a.land fun h2 a2 => ?_)
  have frm2 := cx.frm.step a2.st.step
  have vars2 := cx.vars.step cx.frm a2.st.step
  obtain ⟨m, hn⟩ := frm2.ns
  refine wpAny_storeName_local (s := { s with heap := h2, toks := tk }) ky hn (fun h3' n3 sb3 => ?_) hp
  have k3 : ∀ b o, b ≠ env.locals → h2.get? b = some o → h3'.get? b = some o := sameBut_keep sb3
  have kB : ∀ b o, B.get? b = some o → h3'.get? b = some o := fun b o q => k3 b o (fun z => by rw [z, frm2.locB] at q; cases q) (a2.old b o q)
  refine ob23 a2.cls fun oe vs e1 e2 e3 => ?_
  have e1' : h3'.get? e = some oe := k3 e oe (fun z => by
    refine ob33 hn fun o es ep eo d _ => ?_; clear hn
    rw [z, eo] at e1; cases e1; rw [d] at e3; cases e3) e1
  have ng : h3'.Ns env.globals mg := by rw [frm2.glob]; exact Ns_at G.ng fun o e => kB _ o e
  have nb : h3'.Ns env.builtins mb := by rw [frm2.bl]; exact Ns_at G.nb fun o e => kB _ o e
  refine wpAny_execs_cons (wpAny_Return_some (wpAny_Call_Name_kw (name_built ng nb cx.scope cx.frm.kind h4 (G.bi _ _ (globK_split h4).2.2) ?_)))
  refine Calls.callWith_builtin (noStar_back (noStar_two rfl rfl)) (args_eq (noStar_two rfl rfl) (two_spliced rfl rfl (wpAny_Name (wpAny_loadName_local cx.frm.kind ky n3 (by rw [if_pos rfl]) ?_) (nameOk_1 hy))))
  refine name_built ng nb cx.scope cx.frm.kind h7 (G.ty _ _ (globK_split h7).2.2) (isi_exc (B := B) (c := c) kB a.r.2 e1' e2 (hR _ _ ?_))
  refine wpAny_nameGoes_keeps (s := { s with heap := h3', toks := _ }) ky n3 hp fun h4' v4 n4 sb4 => ?_
  have k4 : ∀ b o, ¬ b = env.locals → h2.get? b = some o → h4'.get? b = some o := fun b o nb e => sameBut_keep sb4 b o nb (k3 b o nb e)
  refine p μ' _ h4' _ ((a2.r.1.grow a2.b1).other (P := fun b => b = env.locals) k4 (fun b z => z ▸ frm2.locMu) (fun b z => z ▸ frm2.locB)) ?_ ?_ ?_ ⟨_, rfl, rfl⟩
  · have t := a2.st.step.toF cx.frm.ownMu
    exact ⟨t.pre, fun b o n1 n2 q => look_keep (fun o' => k4 b o' fun z => n2 (.inl z)) (t.keep b o n1 n2 q), t.fresh, fun b o q eo => by
      by_cases z : b = env.locals
      · subst z; exact Ns_alive n4
      · obtain ⟨o', e'⟩ := t.own b o q eo
        exact ⟨o', k4 b o' z e'⟩⟩
  · refine ⟨frm2.kind, frm2.glob, frm2.bl, ⟨_, n4⟩, frm2.locMu, frm2.locB, fun x c q => ?_, frm2.cinj, frm2.has⟩
    refine ob04 (frm2.cell x c q) fun wz7x0 ne nm nb => ?_; obtain ⟨v, ic⟩ := wz7x0
    exact ⟨⟨v, IsCell_at ic fun o => k4 c o ne⟩, ne, nm, nb⟩
  · intro x i v hk hl hr
    refine ob12 (vars2 x i v hk hl hr) fun u b rr => ?_
    refine ⟨u, ?_, rr⟩
    have nx : x ≠ z1 := fun z => by rw [z, h3] at hl; cases hl
    rcases b with ⟨k, m', n', e'⟩ | ⟨k, c', l', ic⟩
    · refine .inl ⟨k, _, n4, ?_⟩
      simp only [if_neg nx]
      rw [Ns_uniq hn n']; exact e'
    · exact .inr ⟨k, c', l', IsCell_at ic fun o => k4 c' o (frm2.cell x c' l').2.1⟩

theorem handle_sound (G : GOk g F B mg mb) (cx : Cx n B X A env sc sm ρ μ σ s.heap) {l : List Env} {μ' : List Addr} {σ' : MH} {c : Nat} {e : Addr} {base h' : Heap} {tk : Nat} {v : Val} {Q : Flow → Shared → Prop} (a : AtH B l μ μ' σ' s c e base h') (p : PostS B X env sm μ s Q (.ok (.ret v, ρ) σ')) :
    ∀ (hs : List (Nat × Bool × Val)) (hl : List ExceptHandler), chkH g sc sm hs hl = true → caught c hs = some v → wpAny (model prog w) A (handleBy (.ref e) env hl) Q X.E { s with heap := h', toks := tk }
  | [], _, _, q => by cases q
  | k :: r, [], h, _ => (Bool.false_ne_true h).elim
  | k :: r, .ExceptHandler none nm body pos :: r', h, _ => (Bool.false_ne_true (and_left (a := false) (b := chkH g sc sm r r') h)).elim
  | k :: r, .ExceptHandler (some t) nm body pos :: r', h, q => by
    have h1 := and_left h
    have h2 := and_right h
    refine ob22 (onName_elim (and_left h1)) fun x px ez9x2 h3 => ?_; subst ez9x2
    refine ob12 (one_elim (and_right h1)) fun st ez10x1 h4 => ?_; subst ez10x1
    have o := sview_ok st
    unfold onRet at h4
    generalize sview st = vw at o h4
    obtain ⟨hm, hk⟩ := G.cls x k.1 (globK_split h3).2.2
    refine ob23 a.cls fun oe vs e1 e2 _ => ?_
    have ng : h'.Ns env.globals mg := by rw [cx.frm.glob]; exact Ns_at G.ng fun o e => a.old _ o e
    refine wpAny_handleBy_cons (codeAny_handlers_test (name_glob (s := { s with heap := h', toks := tk }) ng cx.scope cx.frm.kind h3 hm (exc_matches a.old a.r.2 hk e1 e2 ?_))) (by intro z; cases z)
    rw [caught] at q
    by_cases hit : k.1 = c ∨ k.1 = 0
    · rw [if_pos hit] at q
      cases q
      rw [decide_eq_true hit]
      cases o with
      | ret ev p2 =>
        cases ev with
        | none => exact (Bool.false_ne_true h4).elim
        | some ev =>
          cases nm with
          | none =>
            refine ob32 (onConst_elim (and_right h4)) fun k' kn p1 ez12x3 h5 => ?_; subst ez12x3
            exact suite_const cx a h5 p (fun f s' z => z) _
          | some y =>
            have h5 : ((k.2.1 && asOk g sc sm y ev) && decide (k.2.2 = .bool true)) = true := h4
            rw [of_decide_eq_true (and_right h5)] at p
            exact suite_as G cx a (and_right (and_left h5)) p (fun f s' z => z) _
      | _ => exact (Bool.false_ne_true h4).elim
    · rw [if_neg hit] at q
      rw [decide_eq_false hit]
      exact handle_sound G cx a p r r' h2 q

theorem sx_try {b : MStmt} {hs : List (Nat × Bool × Val)} {y : List Stmt} {hl : List ExceptHandler} {pos : Pos} (G : GOk g F B mg mb) (hb : SPs n C W prog w B sc sm b y) (hne : (!hs.isEmpty) = true) (hh : chkH g sc sm hs hl = true) :
    SX n C W prog w B sc sm (.tryx b hs) (.Try y hl [] [] pos) := fun {env ρ σ μ s A X Q} cx p => by
  have p : PostS B X env sm μ s Q (tryV hs ρ (exec C W b ρ σ)) := p
  cases hl with
  | nil =>
    cases hs with
    | nil => cases hne
    | cons => exact (Bool.false_ne_true hh).elim
  | cons h₀ hl =>
    refine wpAny_Try_except (hb (X := ⟨X.l, _⟩) ⟨cx.scope, cx.ok, cx.frm, cx.vars, cx.rel, cx.frames, cx.fok, cx.here, cx.apart, cx.hd⟩ ?_)
    cases q : exec C W b ρ σ with
    | stuck => rw [q] at p; exact p
    | ok pr σ' =>
      rw [q] at p
      intro μ' f h' tk r st hv
      obtain ⟨fl, ρ'⟩ := pr
      obtain ⟨hr, hf⟩ := hv
      have hr : ρ' = ρ := hr
      subst hr
      have q := p μ' f h' tk r (st.toF cx.frm.ownMu) (cx.frm.step st) (cx.vars.step cx.frm st) hf
      cases f with
      | next => exact wpAny_execs_nil q
      | _ => exact q
    | exc c σ' =>
      rw [q] at p
      have p : PostS B X env sm μ s Q (match caught c hs with | some v => .ok (.ret v, ρ) σ' | none => .stuck) := p
      cases q2 : caught c hs with
      | none => rw [q2] at p; exact p.elim
      | some v =>
        rw [q2] at p
        refine ob22 cx.here fun e0 outer hX he => ?_
        have hfr := cx.frames
        intro μ' h' tk e base r st x
        have x : ExcAt base X.l (clsK B c) e h' := x
        have x' := x
        rw [hX] at x' hfr
        refine fly_note (s := { s with heap := h', toks := tk }) hfr he x' fun h2 n1 n2 n3 n4 => ?_
        have a2 : AtH B X.l μ μ' σ' s c e base h2 := ⟨r, st.hop x.1 n1 n4, n1, x.2.1, hX ▸ n2, n3⟩
        exact a2.land fun h3 a3 => handle_sound G cx a3 p hs (h₀ :: hl) hh q2

end
end Mine


-- part MiniArgs
set_option maxRecDepth 4000
set_option linter.unusedVariables false
set_option linter.unusedSimpArgs false
namespace Mine
open PySem

theorem lookup_zip_some : ∀ (ns : List Str) (ws : List Value) (x : Str), x ∈ ns → ns.length = ws.length → ((ns.zip ws).lookup x).isSome = true
  | [], _, _, h, _ => by cases h
  | n :: ns, [], _, _, h => by simp at h
  | n :: ns, w :: ws, x, h, l => by
    rw [List.zip_cons_cons, List.lookup_cons]
    split
    · rfl
    · rename_i hx
      rcases List.mem_cons.mp h with rfl | h
      · simp at hx
      · exact lookup_zip_some ns ws x h (by simpa using l)
theorem filterMap_zip : ∀ (ns : List Str) (ws : List Value) (pre : List (Str × Value)), ns.Nodup → (∀ x ∈ ns, pre.lookup x = none) → ns.length = ws.length → (ns.filterMap fun n => ((pre ++ ns.zip ws).lookup n).map (n, ·)) = ns.zip ws
  | [], _, _, _, _, _ => rfl
  | n :: ns, [], _, _, _, h => by simp at h
  | n :: ns, w :: ws, pre, nd, hp, l => by
    rw [List.zip_cons_cons, List.filterMap_cons]
    have e : (pre ++ (n, w) :: ns.zip ws).lookup n = some w := by
      rw [List.lookup_append, hp n (.head _)]; simp
    rw [e]
    simp only [Option.map_some]
    congr 1
    have := filterMap_zip ns ws (pre ++ [(n, w)]) (List.nodup_cons.mp nd).2 (fun x hx => by
      rw [List.lookup_append, hp x (.tail _ hx)]
      have : (x == n) = false := by
        rw [beq_eq_false_iff_ne]; intro q; subst q; exact (List.nodup_cons.mp nd).1 hx
      simp [List.lookup_cons, this]) (by simpa using l)
    rw [List.append_assoc] at this
    exact this
theorem pureBind {α β : Type} (a : α) (f : α → Sem β) : ((pure a : Sem α) >>= f) = f a := rfl
theorem seqNone : seqItems? .none = pure none := rfl
theorem bindArgs_plain {fd : FuncData} {ws : List Value} {names : List Str} (h1 : fd.params.posonlyargs = []) (h2 : fd.params.kwonlyargs = []) (h3 : fd.params.vararg = none) (h4 : fd.params.kwarg = none) (h5 : fd.defaults = .none)
    (hn : fd.params.args.map (·.arg) = names) (nd : names.Nodup) (hl : ws.length = names.length) : bindArgs fd ⟨ws, []⟩ = pure (names.zip ws) := by
  have hm : (names.filter fun n => ((names.zip ws).lookup n).isNone) = [] := by
    rw [List.filter_eq_nil_iff]; intro x hx
    have := lookup_zip_some names ws x hx hl.symm
    simp only [Option.isNone_iff_eq_none]
    intro q; rw [q] at this; cases this
  have hf := filterMap_zip names ws [] nd (fun _ _ => rfl) hl.symm
  unfold bindArgs
  simp only [h1, h2, h3, h4, h5, hn, List.map_nil, List.nil_append, List.append_nil, hl]
  simp only [List.forIn_nil, pureBind, seqNone, Option.getD_none, List.length_nil, Nat.sub_zero, Nat.zero_sub, List.drop_nil, List.drop_zero, gt_iff_lt, Nat.lt_irrefl, decide_false, Bool.false_and, Bool.false_eq_true, if_false, List.take_length, List.drop_length, List.zip_nil_right, List.zip_nil_left, hm, List.isEmpty_nil, Bool.not_true]
  exact congrArg pure hf

theorem cellsFrom_has {x : Str} : ∀ (names : List (Str × NameKind)) (n : Nat) (acc : List (Str × Addr)), ((x, .cell) ∈ names ∨ ∃ c, acc.lookup x = some c) → ∃ c, (cellsFrom n names acc).lookup x = some c
  | [], _, _, h => h.elim (fun e => by cases e) id
  | (y, k) :: r, n, acc, h => by
    unfold cellsFrom
    by_cases hk : (k == .cell) = true
    · rw [if_pos hk]
      refine cellsFrom_has r (n + 1) ((y, n) :: acc) ?_
      by_cases hy : (x == y) = true
      · exact .inr ⟨n, by rw [List.lookup_cons, hy]⟩
      · have hy' : (x == y) = false := by simpa using hy
        rcases h with h | ⟨c, h⟩
        · rcases List.mem_cons.mp h with q | q
          · cases q; simp at hy
          · exact .inl q
        · exact .inr ⟨c, by rw [List.lookup_cons, hy']; exact h⟩
    · rw [if_neg hk]
      refine cellsFrom_has r n acc ?_
      rcases h with h | h
      · rcases List.mem_cons.mp h with q | q
        · cases q; simp at hk
        · exact .inl q
      · exact .inr h

theorem bindL_skip {kindOf : Str → Option NameKind} {x : Str} : ∀ (binds : List (Str × Value)) (m : Str → Option Value), x ∉ binds.map (·.1) → bindL kindOf binds m x = m x
  | [], _, _ => rfl
  | (y, v) :: r, m, h => by
    rw [bindL, bindL_skip r _ fun q => h (.tail _ q)]
    split
    · show (if x = y then some v else m x) = m x
      rw [if_neg fun q => h (by rw [q]; exact .head _)]
    · rfl
theorem bindC_skip {kindOf : Str → Option NameKind} {x : Str} : ∀ (binds : List (Str × Value)) (m : Str → Option Value), x ∉ binds.map (·.1) → bindC kindOf binds m x = m x
  | [], _, _ => rfl
  | (y, v) :: r, m, h => by
    rw [bindC, bindC_skip r _ fun q => h (.tail _ q)]
    split
    · rfl
    · show (if x = y then some v else m x) = m x
      rw [if_neg fun q => h (by rw [q]; exact .head _)]
theorem bindL_get {kindOf : Str → Option NameKind} {x : Str} {v : Value} (hk : kindOf x = some .local) : ∀ (binds : List (Str × Value)) (m : Str → Option Value), (binds.map (·.1)).Nodup → (x, v) ∈ binds → bindL kindOf binds m x = some v
  | [], _, _, h => by cases h
  | (y, u) :: r, m, nd, h => by
    rw [bindL]
    rcases List.mem_cons.mp h with q | q
    · cases q
      rw [bindL_skip r _ (List.nodup_cons.mp nd).1, if_pos hk]; simp
    · exact bindL_get hk r _ (List.nodup_cons.mp nd).2 q
theorem bindC_get {kindOf : Str → Option NameKind} {x : Str} {v : Value} (hk : kindOf x ≠ some .local) : ∀ (binds : List (Str × Value)) (m : Str → Option Value), (binds.map (·.1)).Nodup → (x, v) ∈ binds → bindC kindOf binds m x = some v
  | [], _, _, h => by cases h
  | (y, u) :: r, m, nd, h => by
    rw [bindC]
    rcases List.mem_cons.mp h with q | q
    · cases q
      rw [bindC_skip r _ (List.nodup_cons.mp nd).1, if_neg hk]; simp
    · exact bindC_get hk r _ (List.nodup_cons.mp nd).2 q

theorem zipIdx_lookup {x : Str} {i : Nat} : ∀ (l : List Str) (k : Nat), (l.zipIdx k).lookup x = some i → k ≤ i ∧ l[i - k]? = some x
  | [], _, h => by cases h
  | y :: l, k, h => by
    rw [List.zipIdx_cons, List.lookup_cons] at h
    split at h
    · rename_i hx; cases h; rw [beq_iff_eq] at hx; subst hx; exact ⟨Nat.le_refl _, by simp⟩
    · refine ob02 (zipIdx_lookup l (k + 1) h) fun h1 h2 => ?_
      refine ⟨by (first | exact om130 h1 | omega), ?_⟩
      have : i - k = (i - (k + 1)) + 1 := by (first | exact om131 h1 | omega)
      rw [this]; simpa using h2
theorem smOk_zip (l : List Str) : SmOk l.zipIdx := fun x y i hx hy => by
  have h1 := (zipIdx_lookup l 0 hx).2
  have h2 := (zipIdx_lookup l 0 hy).2
  rw [h1] at h2; exact Option.some.inj h2

theorem pair_inj {l : List (Str × Addr)} {x y : Str} {c : Addr} (h : l.Pairwise fun a b => a.2 ≠ b.2) (hx : (x, c) ∈ l) (hy : (y, c) ∈ l) : x = y := by
  induction l with
  | nil => cases hx
  | cons p r ih =>
    rw [List.pairwise_cons] at h
    rcases List.mem_cons.mp hx with q | q <;> rcases List.mem_cons.mp hy with z | z
    · rw [← q] at z; exact (Prod.mk.inj z).1.symm
    · exact absurd rfl (by have := h.1 _ z; rw [← q] at this; exact this)
    · exact absurd rfl (by have := h.1 _ q; rw [← z] at this; exact this)
    · exact ih h.2 q z

end Mine


-- part MiniCall
set_option maxRecDepth 4000
set_option linter.unusedVariables false
namespace Mine
open PySem

section
variable {n : Nat} {C : Cf} {W : Nat} {prog : Program} {w : World} {B : Heap} {sc : Scope} {sm : List (Str × Nat)} {g : GMap} {F : Nat → Option MFun} {mg mb : Str → Option Value}
variable {env : Env} {ρ : Rho} {σ : MH} {μ : List Addr} {s : Shared} {A : Around} {E : Value → Shared → Prop} {X : XE}

theorem swappedStores_none {elts : List Expr} {k : Nat} {p1 : Pos} {v : Expr} (h : isTupleE v = false) : swappedStores [.Tuple elts k p1] v env = pure none := by
  cases v <;> first | rfl | exact (Bool.false_ne_true h.symm).elim

theorem assign_sub {o i : Expr} {pos : Pos} {v : Value} {Q : Unit → Shared → Prop} (h : wpAny (model prog w) A (eval o env) (fun a s₁ => wpAny (model prog w) A (eval i env) (fun b s₂ => wpAny (model prog w) A (setItem a b v) Q E s₂) E s₁) E s) :
    wpAny (model prog w) A (assign (.Subscript o i pos) env v) Q E s := by
  rw [arm_assign_Subscript]
  exact wpAny_bind (wpAny_holding (wpAny_mono h (fun a s₁ h₁ => wpAny_bind (wpAny_holding (wpAny_mono h₁ (fun b s₂ h₂ => wpAny_bind (wpAny_standAt (wpAny_bind (wpAny_holding (wpAny_mono h₂ (fun _ s₃ h₃ => wpAny_release h₃) fun _ _ x => x))))) fun _ _ x => x))) fun _ _ x => x))

theorem sx_asub2 [Small n] {o1 i1 o2 i2 e : MExpr} {eo1 ei1 eo2 ei2 v : Expr} {k : Nat} {p1 p2 p3 pos : Pos} (ht : isTupleE v = false) (hn : isComp v = false) (he : SE n C prog w B sc sm e v) (ho1 : SE n C prog w B sc sm o1 eo1) (hi1 : SE n C prog w B sc sm i1 ei1) (ho2 : SE n C prog w B sc sm o2 eo2) (hi2 : SE n C prog w B sc sm i2 ei2)
    {Q : Flow → Shared → Prop} (cx : Cx n B X A env sc sm ρ μ σ s.heap) (p : PostS B X env sm μ s Q (asub2 C o1 i1 o2 i2 e ρ σ)) :
    wpAny (model prog w) A (PySem.exec (.Assign [.Tuple [.Subscript eo1 ei1 p1, .Subscript eo2 ei2 p2] k p3] v pos) env) Q X.E s := by
  refine PyProof.Rows.Assign_Tuple (he.bindS cx p fun u σ1 μ1 u' h1 tk cx1 st hu q => ?_) (show swapsWithSole [.Tuple [.Subscript eo1 ei1 p1, .Subscript eo2 ei2 p2] k p3] v pos.line env = pure false from (swaps_false (t := .Tuple [.Subscript eo1 ei1 p1, .Subscript eo2 ei2 p2] k p3) (line := pos.line) (env := env) hn)) (swappedStores_none ht)
  cases u with
  | ref i =>
    refine ob12 hu fun a ea ez7x2 => ?_; clear hu; subst ez7x2
    cases hz : σ1[i]? with
    | none => simp only [tupV, hz] at q; exact q.elim
    | some o =>
      cases o with
      | tup vs =>
        have q : PostS B X env sm μ1 { s with heap := h1, toks := tk } Q (asub2K C o1 i1 o2 i2 ρ vs σ1) := by
          simp only [tupV, hz] at q; exact q
        match vs, hz, q with
        | [x, y], hz, q =>
          refine ob02 (cx1.rel.at ea hz) fun l wz8 => ?_; obtain ⟨ys, m, gg, x', _, rfl, hx, y', _, rfl, hy, rfl⟩ := wz8
          refine wpAny_assign_Tuple cx.ok.handled (isTup_of gg) rfl rfl fun h2 eb => ?_
          have kk : ∀ b o, h1.get? b = some o → h2.get? b = some o := fun b o e => eb b o (Nat.ne_of_lt (Heap.lt_size e)) e
          have cx2 := cx1.step (Step.grow kk) (cx1.rel.grow kk)
          have q : PostS B X env sm μ1 { s with heap := h2, toks := tk } Q _ := PostS.step (s := { s with heap := h1, toks := tk }) q ((Step.grow (μ := μ1) kk).toF cx1.frm.ownMu)
          show wpAny (model prog w) A (holding [y'] (assign (.Subscript eo1 ei1 p1) env x') >>= fun _ => holding [] (assign (.Subscript eo2 ei2 p2) env y') >>= fun _ => pure ()) _ X.E { s with heap := h2, toks := tk }
          refine wpAny_bind (wpAny_holding (assign_sub (ho1.bindS cx2 q fun a σ3 μ3 a' h3 tk3 cx3 st3 ha q3 => hi1.bindS cx3 q3 fun b σ4 μ4 b' h4 tk4 cx4 st4 hb q4 => ?_)))
          refine asub_sound (s := { s with heap := h4, toks := tk4 }) cx4.rel (ha.mono st4.pre) hb (hx.mono (st3.pre.trans st4.pre)) (q4.bindR cx4 fun _ σ5 μ5 _ h5 tk5 cx5 st5 _ q5 => ?_)
          refine wpAny_bind (wpAny_holding (assign_sub (ho2.bindS cx5 q5 fun a σ6 μ6 a' h6 tk6 cx6 st6 ha q6 => hi2.bindS cx6 q6 fun b σ7 μ7 b' h7 tk7 cx7 st7 hb q7 => ?_)))
          refine asub_sound (s := { s with heap := h7, toks := tk7 }) cx7.rel (ha.mono st7.pre) hb (hy.mono (((st3.pre.trans st4.pre).trans st5.pre).trans (st6.pre.trans st7.pre))) (q7.bindR cx7 fun _ σ8 μ8 _ h8 tk8 cx8 st8 _ q8 => ?_)
          exact wpAny_pure (PostS.here (s := { s with heap := h8, toks := tk8 }) cx8 q8 rfl)
        | [], hz, q => exact q.elim
        | [_], hz, q => exact q.elim
        | _ :: _ :: _ :: _, hz, q => exact q.elim
      | _ => simp only [tupV, hz] at q; exact q.elim
  | _ => exact q.elim

noncomputable def PX (n : Nat) (C : Cf) (W : Nat) (prog : Program) (w : World) (B : Heap) (g : GMap) (sc : Scope) (sm : List (Str × Nat)) (m : MStmt) : Prop :=
  (∀ st, (chkS g sc sm m).S st = true → SX n C W prog w B sc sm m st) ∧ (∀ l, (chkS g sc sm m).Ss l = true → SXs n C W prog w B sc sm m l)

theorem px_of_V {m : MStmt} {f : SV → Bool} (hm : chkS g sc sm m = csV f) (h : ∀ st vw, SVOk st vw → f vw = true → SX n C W prog w B sc sm m st) : PX n C W prog w B g sc sm m := by
  unfold PX; rw [hm]; exact ⟨fun st q => h st _ (sview_ok st) q, fun l q => (Bool.false_ne_true q).elim⟩

theorem comp_of_chk [sn : Small n] (G : GOk g F B mg mb) (AE : ∀ m, PE n C prog w B g m) {m : MExpr} {v : Expr} (hc : isComp v = true) (q : (chk g m sc sm).E v = true) : LC n C prog w B sc sm m v := by
  cases v with
  | ListComp =>
    cases m with
    | comp elt tgt it cond => exact comp_lc (AE _) (AE _) (AE _) q
    | compp elt i j a cond => exact compp_lc (AE _) (AE _) (AE _) q
    | compq elt i j a b => exact compq_lc G (AE _) (AE _) (AE _) q
    | _ => exact (Bool.false_ne_true q).elim
  | SetComp => cases m <;> exact (Bool.false_ne_true q).elim
  | DictComp => cases m <;> exact (Bool.false_ne_true q).elim
  | _ => exact (Bool.false_ne_true hc).elim

theorem allS [sn : Small n] (G : GOk g F B mg mb) (cs : CS n C prog w g F B) (inj : SmOk sm) : ∀ m, PX n C W prog w B g sc sm m := by
  have AE := allE (n := n) (C := C) (prog := prog) (w := w) G cs
  intro m
  induction m with
  | nil =>
    refine ⟨fun st q => (Bool.false_ne_true q).elim, fun l q => ?_⟩
    have : l = [] := List.isEmpty_iff.mp q
    subst this; exact @sx_nil _ _ _ _ _ _ _ _
  | cons a b ia ib =>
    refine ⟨fun st q => (Bool.false_ne_true q).elim, fun l q => ?_⟩
    cases l with
    | nil => exact (Bool.false_ne_true q).elim
    | cons st r =>
      have q : ((chkS g sc sm a).S st && (chkS g sc sm b).Ss r) = true := q
      rw [Bool.and_eq_true] at q
      first | (intro _ _ _ _ _ _ _ _ cx p; exact sx_cons (ia.1 _ q.1) (ib.2 _ q.2) cx p) | (intro cx p; exact sx_cons (ia.1 _ q.1) (ib.2 _ q.2) cx p)
  | assign i e =>
    refine px_of_V rfl fun st vw o q => ?_
    cases o with
    | assign t v pos =>
      have q : (onName (fun x => stK sc sm x i) t && (chk g e sc sm).E v) = true := q
      rw [Bool.and_eq_true] at q
      obtain ⟨q0, q2⟩ := q
      refine onName_k q0 fun x px q1 => ?_
      have q : stK sc sm x i = true ∧ (chk g e sc sm).E v = true := ⟨q1, q2⟩
      rcases Bool.eq_false_or_eq_true (isComp v) with hc | hc
      · obtain ⟨q1, q2⟩ := q
        obtain ⟨e1, tgt, iter, ifs, inner, p2, res, rfl, H1, H2⟩ := comp_of_chk G AE hc q2
        first | (intro _ _ _ _ _ _ _ _ cx p; exact sx_assign_lc inj q1 H1 H2 cx p) | (intro cx p; exact sx_assign_lc inj q1 H1 H2 cx p)
      · first | (intro _ _ _ _ _ _ _ _ cx p; exact sx_assign_plain inj q.1 ((AE e sc sm).1 _ q.2).1 (swaps_false hc) cx p) | (intro cx p; exact sx_assign_plain inj q.1 ((AE e sc sm).1 _ q.2).1 (swaps_false hc) cx p)
    | _ => exact (Bool.false_ne_true q).elim
  | asub o i e =>
    refine px_of_V rfl fun st vw w q => ?_
    cases w with
    | assign t v pos =>
      refine onSub_k q fun eo ei p2 q' => ?_
      simp only [Bool.and_eq_true, Bool.not_eq_true'] at q'
      first | (intro _ _ _ _ _ _ _ _ cx p; exact sx_asub ((AE e sc sm).1 _ q'.1.1.1).1 ((AE o sc sm).1 _ q'.1.1.2).1 ((AE i sc sm).1 _ q'.1.2).1 cx p) | (intro cx p; exact sx_asub ((AE e sc sm).1 _ q'.1.1.1).1 ((AE o sc sm).1 _ q'.1.1.2).1 ((AE i sc sm).1 _ q'.1.2).1 cx p)
    | _ => exact (Bool.false_ne_true q).elim
  | aattr o k e =>
    refine px_of_V rfl fun st vw w q => ?_
    cases w with
    | assign t v pos =>
      refine onAttr_k q fun eo nm p2 q' => ?_
      simp only [Bool.and_eq_true, decide_eq_true_eq, Bool.not_eq_true'] at q'
      refine oc7 q' fun q1 ez0x1 q2 q3 q4 q5 q6 => ?_; clear q'; subst ez0x1
      refine ob22 (onName_elim q3) fun x px ez10x2 _ => ?_; subst ez10x2
      first | (intro _ _ _ _ _ _ _ _ cx p; exact sx_aattr G q1 q2 q6 ((AE e sc sm).1 _ q5).1 ((AE o sc sm).1 _ q4).1 cx p) | (intro cx p; exact sx_aattr G q1 q2 q6 ((AE e sc sm).1 _ q5).1 ((AE o sc sm).1 _ q4).1 cx p)
    | _ => exact (Bool.false_ne_true q).elim
  | asub2 o1 i1 o2 i2 e =>
    refine px_of_V rfl fun st vw w q => ?_
    cases w with
    | assign t v pos =>
      refine onTup_k q fun l c p2 q' => ?_
      refine two_k q' fun a b q' => ?_
      refine onSub_k q' fun x1 y1 pa q' => ?_
      refine onSub_k q' fun x2 y2 pb q' => ?_
      have q' : ((chk g e sc sm).E v && (chk g o1 sc sm).E x1 && (chk g i1 sc sm).E y1 && (chk g o2 sc sm).E x2 && (chk g i2 sc sm).E y2 && !isTupleE v && !isComp v) = true := q'
      simp only [Bool.and_eq_true, Bool.not_eq_true'] at q'
      refine oc7 q' fun r1 r2 r3 r4 r5 r6 r7 => ?_; clear q'
      first | (intro _ _ _ _ _ _ _ _ cx p; exact sx_asub2 r6 r7 ((AE e sc sm).1 _ r1).1 ((AE o1 sc sm).1 _ r2).1 ((AE i1 sc sm).1 _ r3).1 ((AE o2 sc sm).1 _ r4).1 ((AE i2 sc sm).1 _ r5).1 cx p) | (intro cx p; exact sx_asub2 r6 r7 ((AE e sc sm).1 _ r1).1 ((AE o1 sc sm).1 _ r2).1 ((AE i1 sc sm).1 _ r3).1 ((AE o2 sc sm).1 _ r4).1 ((AE i2 sc sm).1 _ r5).1 cx p)
    | _ => exact (Bool.false_ne_true q).elim
  | wild => exact ⟨fun st q => fun cx p => (show False from p).elim, fun l q => fun cx p => (show False from p).elim⟩
  | expr e =>
    refine px_of_V rfl fun st vw w q => ?_
    cases w with
    | expr v pos =>
      have q : ((chk g e sc sm).E v && !isComp v) = true := q
      simp only [Bool.and_eq_true, Bool.not_eq_true'] at q
      first | (intro _ _ _ _ _ _ _ _ cx p; exact sx_expr q.2 ((AE e sc sm).1 _ q.1).1 cx p) | (intro cx p; exact sx_expr q.2 ((AE e sc sm).1 _ q.1).1 cx p)
    | _ => exact (Bool.false_ne_true q).elim
  | ifs c t e it ie =>
    refine px_of_V rfl fun st vw w q => ?_
    cases w with
    | ifs x y z pos =>
      have q : ((chk g c sc sm).E x && (chkS g sc sm t).Ss y && (chkS g sc sm e).Ss z) = true := q
      simp only [Bool.and_eq_true] at q
      first | (intro _ _ _ _ _ _ _ _ cx p; exact sx_if ((AE c sc sm).1 _ q.1.1).2.1 (it.2 _ q.1.2) (ie.2 _ q.2) cx p) | (intro cx p; exact sx_if ((AE c sc sm).1 _ q.1.1).2.1 (it.2 _ q.1.2) (ie.2 _ q.2) cx p)
    | _ => exact (Bool.false_ne_true q).elim
  | fors tgt it b ib =>
    refine px_of_V rfl fun st vw w q => ?_
    cases w with
    | fors x y z pos =>
      have q : (chkTgt sc sm tgt x && (chk g it sc sm).I y && (chkS g sc sm b).Ss z) = true := q
      simp only [Bool.and_eq_true] at q
      obtain ⟨⟨q1, q2⟩, q3⟩ := q
      cases tgt with
      | loc i =>
        refine onName_k q1 fun x px q1 => ?_
        first | (intro _ _ _ _ _ _ _ _ cx p; exact sx_for inj q1 ((AE it sc sm).2.2 _ q2) (ib.2 _ q3) cx p) | (intro cx p; exact sx_for inj q1 ((AE it sc sm).2.2 _ q2) (ib.2 _ q3) cx p)
      | _ => exact (Bool.false_ne_true q1).elim
    | _ => exact (Bool.false_ne_true q).elim
  | ret e =>
    refine px_of_V rfl fun st vw w q => ?_
    cases w with
    | ret v pos =>
      cases v with
      | some v => first | (intro _ _ _ _ _ _ _ _ cx p; exact sx_ret ((AE e sc sm).1 _ q).1 cx p) | (intro cx p; exact sx_ret ((AE e sc sm).1 _ q).1 cx p)
      | none => rw [isNC_eq q]; first | (intro _ _ _ _ _ _ _ _ cx p; exact sx_ret0 cx p) | (intro cx p; exact sx_ret0 cx p)
    | _ => exact (Bool.false_ne_true q).elim
  | raise c =>
    refine px_of_V rfl fun st vw w q => ?_
    cases w with
    | raise e pos =>
      refine onCall_k q fun x np es cp q' => ?_
      rw [Bool.and_eq_true] at q'
      refine one_k q'.2 fun y q2 => ?_
      refine onConst_k q2 fun cc k p1 q3 => ?_
      cases cc with
      | str t => first | (intro _ _ _ _ _ _ _ _ cx p; exact sx_raise G q'.1 cx p) | (intro cx p; exact sx_raise G q'.1 cx p)
      | _ => exact (Bool.false_ne_true q3).elim
    | _ => exact (Bool.false_ne_true q).elim
  | tryx b hs ib =>
    refine px_of_V rfl fun st vw w q => ?_
    cases w with
    | tryx y hl pos =>
      have q : (noAsg b && (chkS g sc sm b).Ss y && (!hs.isEmpty && chkH g sc sm hs hl)) = true := q
      have q1 := and_left (and_left q)
      have q2 := and_right (and_left q)
      have q3 := and_right q
      first | (intro _ _ _ _ _ _ _ _ cx p; exact sx_try G ((allP G cs b q1).2 _ q2) (and_left q3) (and_right q3) cx p) | (intro cx p; exact sx_try G ((allP G cs b q1).2 _ q2) (and_left q3) (and_right q3) cx p)
    | _ => exact (Bool.false_ne_true q).elim

end
end Mine


-- part MiniFun
set_option maxRecDepth 4000
set_option linter.unusedVariables false
set_option linter.unusedSimpArgs false
namespace Mine
open PySem

section
variable {W : Nat} {prog : Program} {w : World} {B : Heap} {g : GMap} {F : Nat → Option MFun} {mg mb : Str → Option Value}

theorem oc17 {A0 A1 A2 A3 A4 A5 A6 A7 A8 A9 A10 A11 A12 A13 A14 A15 A16 P : Prop} (h : ((((((((((((((((A0 ∧ A1) ∧ A2) ∧ A3) ∧ A4) ∧ A5) ∧ A6) ∧ A7) ∧ A8) ∧ A9) ∧ A10) ∧ A11) ∧ A12) ∧ A13) ∧ A14) ∧ A15) ∧ A16)) (k : A0 → A1 → A2 → A3 → A4 → A5 → A6 → A7 → A8 → A9 → A10 → A11 → A12 → A13 → A14 → A15 → A16 → P) : P := k h.1.1.1.1.1.1.1.1.1.1.1.1.1.1.1.1 h.1.1.1.1.1.1.1.1.1.1.1.1.1.1.1.2 h.1.1.1.1.1.1.1.1.1.1.1.1.1.1.2 h.1.1.1.1.1.1.1.1.1.1.1.1.1.2 h.1.1.1.1.1.1.1.1.1.1.1.1.2 h.1.1.1.1.1.1.1.1.1.1.1.2 h.1.1.1.1.1.1.1.1.1.1.2 h.1.1.1.1.1.1.1.1.1.2 h.1.1.1.1.1.1.1.1.2 h.1.1.1.1.1.1.1.2 h.1.1.1.1.1.1.2 h.1.1.1.1.1.2 h.1.1.1.1.2 h.1.1.1.2 h.1.1.2 h.1.2 h.2
theorem callN_sound (G : GOk g F B mg mb) : ∀ k, k < 1000 → CS k (callN F W k) prog w g F B
  | 0 => fun _ f a vs ws μ σ s A X Q fa ok rel hfr hfo hv p => (show False from p).elim
  | k + 1 => fun hk f a vs ws μ σ s A X Q fa ok rel hfr hfo hv p => by
    haveI : Small k := ⟨by (first | exact om132 hk | omega)⟩
    refine ob58 fa fun o fd body names d ho hd hcd hb hcl hgl hbl wz0 => ?_; clear fa; refine ob03 wz0 fun hdf hF hchk => ?_; clear wz0
    unfold chkFun at hchk
    simp only [Bool.and_eq_true, List.isEmpty_iff, Option.isNone_iff_eq_none, decide_eq_true_eq, beq_iff_eq] at hchk
    refine oc17 hchk fun c1 c2 c3 c4 c5 c6 c7 c8 c9 c10 c11 c12 c13 c14 c15 c16 c17 => ?_; clear hchk
    rw [List.all_eq_true] at c14 c15
    have p : Post B X VRel μ s Q (match F f with
      | some d => if vs.length = d.np then (exec (callN F W k) W d.body (vs.map some ++ List.replicate (d.ns - d.np) none) σ).bind fun p h => (match p.1 with | .ret v => .ok v h | .next => .ok .none h) else .stuck
      | none => .stuck) := p
    rw [hF] at p
    simp only at p
    by_cases hlen : vs.length = d.np
    · rw [if_pos hlen] at p
      have wl : ws.length = (names.take d.np).length := by rw [hv.length, hlen, List.length_take]; omega
      have nd : (names.take d.np).Nodup := c8.sublist (List.take_sublist _ _)
      have hbind : bindArgs fd ⟨ws, []⟩ = pure ((names.take d.np).zip ws) := bindArgs_plain c1 c2 c3 c4 hdf c7 nd wl
      have hmap : ((names.take d.np).zip ws).map (·.1) = names.take d.np := List.map_fst_zip (by (first | exact om134 wl | omega))
      have lok : ∀ x ∈ names, fd.scope.names.lookup x = some .local ∨ fd.scope.names.lookup x = some .cell := fun x hx => by
        have := c14 x hx; simpa using this
      have hroom : A.depth < recursionLimit := by have := ok.depth; show _ < 1000; (first | exact om135 this | omega)
      refine codeAny_call_cells hroom (rel.base _ _ ho) hd (G.lim.keeps fun b o e => rel.base b o e) (hcd.keeps fun b o e => rel.base b o e) hb hbind hcl (fun x hx => ?_) (fun s₁ ic => ?_) c13 c12 c11
      · have hm : x.1 ∈ names := List.mem_of_mem_take (by rw [← hmap]; exact List.mem_map_of_mem hx)
        rcases lok _ hm with q | q
        · exact .inl q
        · obtain ⟨c, hc⟩ := cellsFrom_has (x := x.1) fd.scope.names (s.heap.objs.size + 1) [] (.inl (mem_of_lookup q))
          exact .inr ⟨q, by rw [hc]; rfl⟩
      · refine ob22 ic.done fun h₁ tk ez1x2 kk => ?_; subst ez1x2
        have hns := ic.toInCall.ns
        have hloc : (callEnvC fd s.heap.objs.size a).locals = s.heap.objs.size := rfl
        have hsc : (callEnvC fd s.heap.objs.size a).scope = fd.scope := rfl
        rw [hloc] at hns
        have r₁ : HRel B μ σ h₁ := rel.grow kk
        have above : ∀ x c, (callEnvC fd s.heap.objs.size a).cells.lookup x = some c → s.heap.objs.size < c := fun x c q => ic.above x c (mem_of_lookup q)
        have none_of : ∀ c, s.heap.objs.size ≤ c → s.heap.get? c = none := fun c hc => by
          cases e : s.heap.get? c with
          | none => rfl
          | some o => exact absurd (Heap.lt_size e) (Nat.not_lt.mpr hc)
        have notMem : ∀ c, s.heap.objs.size ≤ c → c ∉ μ := fun c hc q => by
          obtain ⟨o, g⟩ := rel.alive q; rw [none_of c hc] at g; cases g
        have noB : ∀ c, s.heap.objs.size ≤ c → B.get? c = none := fun c hc => by
          cases q : B.get? c with
          | none => rfl
          | some o => have := rel.base c o q; rw [none_of c hc] at this; cases this
        have frm : Frm B (callEnvC fd s.heap.objs.size a) μ h₁ := by
          refine ⟨c11, hgl, hbl, ⟨_, hns⟩, notMem _ (Nat.le_refl _), noB _ (Nat.le_refl _), fun x c q => ?_, fun x y c q q' => pair_inj ic.apart (mem_of_lookup q) (mem_of_lookup q'), fun x q => ?_⟩
          · have lt := above x c q
            exact ⟨⟨_, ic.cell x c q⟩, Ne.symm (Nat.ne_of_lt lt), notMem c (Nat.le_of_lt lt), noB c (Nat.le_of_lt lt)⟩
          · rcases q with q | q
            · exact cellsFrom_has fd.scope.names (s.heap.objs.size + 1) [] (.inl (mem_of_lookup q))
            · have := c15 _ (mem_of_lookup (show fd.scope.names.lookup x = some .free from q)); simp at this
        have vars : Vars (callEnvC fd s.heap.objs.size a) names.zipIdx (vs.map some ++ List.replicate (d.ns - d.np) none) μ h₁ := by
          intro x i v hx hi he
          have hlt : i < vs.length := by
            rcases Nat.lt_or_ge i vs.length with q | q
            · exact q
            · rw [List.getElem?_append_right (by simpa using q)] at he
              have := List.mem_of_getElem? he
              rw [List.mem_replicate] at this; cases this.2
          rw [List.getElem?_append_left (by simpa using hlt), List.getElem?_map] at he
          have hvi : vs[i]? = some v := by
            cases q : vs[i]? with
            | none => rw [q] at he; cases he
            | some u => rw [q] at he; simp at he; rw [he]
          refine ob12 (hv.get hvi) fun u hu ru => ?_
          have hxi := (zipIdx_lookup names 0 hi).2
          rw [Nat.sub_zero] at hxi
          have hmem : (x, u) ∈ (names.take d.np).zip ws := by
            have hx2 : (names.take d.np)[i]? = some x := by rw [List.getElem?_take, if_pos (by (first | exact om3 hlen hlt | omega))]; exact hxi
            refine List.mem_of_getElem? (i := i) ?_
            rw [List.getElem?_zip_eq_some]; exact ⟨hx2, hu⟩
          have ndm : (((names.take d.np).zip ws).map (·.1)).Nodup := by rw [hmap]; exact nd
          rcases lok x (List.mem_of_getElem? hxi) with q | q
          · exact ⟨u, .inl ⟨q, _, hns, bindL_get q _ _ ndm hmem⟩, ru⟩
          · obtain ⟨c, hc⟩ := cellsFrom_has fd.scope.names (s.heap.objs.size + 1) [] (.inl (mem_of_lookup q))
            refine ⟨u, .inr ⟨.inl q, c, hc, ?_⟩, ru⟩
            have := ic.cell x c hc
            rw [bindC_get (show (callEnvC fd s.heap.objs.size a).kindOf x ≠ some .local by show fd.scope.names.lookup x ≠ _; rw [q]; simp) _ _ ndm hmem] at this
            exact this
        have hfk : FrOk B X.l μ h₁ := fun e he => by
          refine ob02 (hfo e he) fun h1 wz3 => ?_; obtain ⟨L, h2, h3, h4, m, h5⟩ := wz3
          exact ⟨h1, L, h2, h3, h4, m, Ns_at h5 fun o e => kk _ o e⟩
        have cx : Cx k B ⟨callEnvC fd s.heap.objs.size a :: X.l, fun e s' => wpAny (model prog w) (A.deeper (callEnvC fd s.heap.objs.size a)) (leaving (callEnvC fd s.heap.objs.size a) e) (fun _ s'' => X.E e s'') (fun e' s'' => X.E e' s'') s'⟩ (A.deeper (callEnvC fd s.heap.objs.size a)) (callEnvC fd s.heap.objs.size a) fd.scope names.zipIdx (vs.map some ++ List.replicate (d.ns - d.np) none) μ σ h₁ :=
          ⟨rfl, ⟨fun _ => ok.handled, fun _ => by have := ok.depth; show A.depth + 1 + 2 * k + 1 < 900; (first | exact om136 this | omega), by have := ok.units; show A.units + 3 + 20 * (k % 1000) + 110 < 9900; (first | exact om137 this | omega)⟩, frm, vars, r₁, Around.frames_deeper hfr, fun e he => by
            rcases List.mem_cons.mp he with rfl | he
            · exact ⟨by rw [show (callEnvC fd s.heap.objs.size a).scope.kind = .function from c11]; simp, s.heap.objs.size, rfl, frm.locMu, frm.locB, _, hns⟩
            · exact hfk e he, ⟨_, _, rfl, rfl⟩, fun e he L hL x q => by
            have lt := above x L q
            rcases List.mem_cons.mp he with rfl | he
            · cases hL; exact absurd lt (Nat.lt_irrefl _)
            · refine ob02 (hfo e he) fun _ wz4 => ?_; obtain ⟨L', h2, _, _, m, h5⟩ := wz4
              rw [hL] at h2; cases h2
              obtain ⟨o, eo⟩ := Ns_alive h5
              rw [none_of L (Nat.le_of_lt lt)] at eo; exact (nomatch eo), HdOk.none ok.handled⟩
        have own : ∀ b, Own (callEnvC fd s.heap.objs.size a) b → s.heap.objs.size ≤ b := fun b q => by
          rcases q with rfl | ⟨x, q⟩
          · exact Nat.le_refl _
          · exact Nat.le_of_lt (above x b q)
        refine (allS (W := W) G (callN_sound G k (by (first | exact om132 hk | omega))) (smOk_zip names) d.body).2 body c17 (s := { s with heap := h₁, toks := tk }) cx ?_
        cases q : exec (callN F W k) W d.body (vs.map some ++ List.replicate (d.ns - d.np) none) σ with
        | exc c h =>
          rw [q] at p
          have p : PostX B X μ s c h := p
          intro μ' h' tk' e base r st x
          exact fly_leave (s := { s with heap := h', toks := tk' }) (Around.frames_deeper hfr) x fun h'' x2 up => p μ' h'' tk' e base r (StepX.hop ⟨⟨st.pre, fun b o n e => st.keep b o n (fun z => by refine ob12 (look_elim e) fun o2 e2 _ => ?_; rw [none_of b (own b z)] at e2; cases e2) (look_keep (kk b) e), fun b x y => by
            cases e : s.heap.get? b with
            | none => rfl
            | some o => have := st.fresh b x y; rw [kk b o e] at this; cases this⟩, fun b o n e nd => st.based b o n (fun z => by refine ob12 (look_elim e) fun o2 e2 _ => ?_; rw [none_of b (own b z)] at e2; cases e2) (look_keep (kk b) e) nd⟩ x.1 x2.1 up) x2
        | stuck => rw [q] at p; exact p.elim
        | ok pr σ' =>
          rw [q] at p
          simp only [Res.bind_ok] at p
          intro μ' fl h' tk' r' st' _ _ hf
          have st : Step μ μ' s.heap h' := ⟨st'.pre, fun b o n e => st'.keep b o n (fun z => by refine ob12 (look_elim e) fun o2 e2 _ => ?_; rw [none_of b (own b z)] at e2; cases e2) (look_keep (kk b) e), fun b x y => by
            cases e : s.heap.get? b with
            | none => rfl
            | some o => have := st'.fresh b x y; rw [kk b o e] at this; cases this⟩
          cases q2 : pr.1 with
          | next =>
            rw [q2] at p hf
            rw [show fl = .next from hf]
            exact p μ' .none h' tk' r' st rfl
          | ret v =>
            rw [q2] at p hf
            refine ob12 hf fun u ez8x1 hu => ?_; clear hf; subst ez8x1
            exact p μ' u h' tk' r' st hu
    · rw [if_neg hlen] at p; exact p.elim

end
end Mine


-- part MiniTop
set_option maxRecDepth 4000
set_option linter.unusedVariables false
set_option linter.unusedSimpArgs false
namespace Mine
open PySem PySem.W PyProof.Rows

noncomputable def bootT : List (Str × GI) := [(Str.ofString "len", .bi "len"), (Str.ofString "sum", .bi "sum"), (Str.ofString "min", .bi "min"), (Str.ofString "max", .bi "max"), (Str.ofString "all", .bi "all"),
  (Str.ofString "int", .ty "int"), (Str.ofString "str", .ty "str"), (Str.ofString "list", .ty "list"), (Str.ofString "tuple", .ty "tuple"), (Str.ofString "bool", .ty "bool"), (Str.ofString "range", .ty "range"), (Str.ofString "isinstance", .bi "isinstance"), (Str.ofString "ValueError", .ty "ValueError"), (Str.ofString "zip", .ty "zip")]
noncomputable def bootSays (x : Str) : GI → Prop
  | .ty T => bootBuiltins x = some (.type T)
  | .bi T => bootBuiltins x = some (.builtin T)
  | _ => False
theorem bootT_ok : ∀ q ∈ bootT, bootSays q.1 q.2 := by
  simp only [bootT, List.forall_mem_cons]
  exact ⟨Boot.«len», Boot.«sum», Boot.«min», Boot.«max», Boot.«all», Boot.«int», Boot.«str», Boot.«list», Boot.«tuple», Boot.«bool», Boot.«range», Boot.«isinstance», Boot.«ValueError», Boot.«zip», fun _ h => nomatch h⟩
noncomputable def bootNm : List Str := bootT.map (·.1)

noncomputable def constOk : Val → PyData → Bool
  | .int i, .int j => decide (i = j)
  | .str s, .str t => decide (t = ⟨s.toArray⟩) && decide (s.length ≤ lim)
  | _, _ => false
theorem const_rel {v : Val} {d : PyData} {h : Heap} {u : Value} (e : constOk v d = true) (r : Reads h u d []) : VRel [] v u := by
  cases v with
  | int i =>
    cases d with
    | int j =>
      have e := of_decide_eq_true e
      subst e; cases r; exact ⟨_, rfl⟩
    | _ => exact (Bool.false_ne_true e).elim
  | str i =>
    cases d with
    | str j =>
      have e : (decide (j = ⟨i.toArray⟩) && decide (i.length ≤ lim)) = true := e
      rw [Bool.and_eq_true] at e
      have e1 := of_decide_eq_true e.1
      have e2 := of_decide_eq_true e.2
      subst e1; cases r; exact ⟨e2, _, rfl⟩
    | _ => exact (Bool.false_ne_true e).elim
  | _ => exact (Bool.false_ne_true e).elim

/-- the classes of exceptions, seen behind the top -/
noncomputable def exOk (cs : List Nat) (s : Shared) : Bool := (0 :: cs).all fun c => decide (c < 9) && s.heap.ownExcOk (clsName c) (if c = 0 then [] else [clsName 0]) bmVE "ValueError.__new__" && (match s.heap.clsAt mainGlobals (clsName c) with | some x => decide (x.2.2.name = clsName c) && exQuiet.all (fun n => (s.heap.nsMap x.2.2.ns n).isNone) | none => false)
noncomputable def ExSays (cs : List Nat) (h : Heap) : Prop := ∀ c ∈ 0 :: cs, h.nsMap mainGlobals (clsName c) = some (.ref (clsK h c)) ∧ ExcCls h c
theorem xr_of {h : Heap} {name : Str} {chain : List Str} {bm : List Value} {newId : String} (t : h.ownExcOk name chain bm newId = true) : ∃ (C : Addr) (r : XR), h.nsMap mainGlobals name = some (Value.ref C) ∧ h.get? C = some (excClassObj r.nm r.q C r.N r.bs (List.map (fun n => (h.nsMap mainGlobals n).getD Value.none) chain ++ bm) r.hdct r.sn r.sub r.ab r.col r.dd r.k0 r.k1 r.k2 r.k3 r.k5 newId) ∧ h.Ns r.N r.mN ∧ r.mN = h.nsMap r.N := by
  refine ob71 (Heap.ownExc_of_ok t) fun C N nm q bs hdct sn wz0 => ?_; refine ob71 wz0 fun sub ab col dd k0 k1 k2 wz0 => ?_; obtain ⟨k3, k5, e1, e2, e3, e4⟩ := wz0
  exact ⟨C, ⟨nm, N, q, bs, hdct, sn, sub, ab, col, dd, k0, k1, k2, k3, k5, _⟩, e1, e2, e3, rfl⟩
theorem exSays_of {cs : List Nat} {s : Shared} (e : exOk cs s = true) : ExSays cs s.heap := by
  have ea := List.all_eq_true.mp e
  have one : ∀ c ∈ 0 :: cs, c < 9 ∧ s.heap.ownExcOk (clsName c) (if c = 0 then [] else [clsName 0]) bmVE "ValueError.__new__" = true ∧ ∃ o cd, s.heap.nsMap mainGlobals (clsName c) = some (.ref (clsK s.heap c)) ∧ s.heap.get? (clsK s.heap c) = some o ∧ o.data = .cls cd ∧ cd.name = clsName c ∧ ∀ n ∈ exQuiet, s.heap.nsMap cd.ns n = none := fun c hc => by
    have := ea c hc
    rw [Bool.and_eq_true, Bool.and_eq_true] at this
    refine ob02 this fun wz1x0 t3 => ?_; clear this; obtain ⟨t1, t2⟩ := wz1x0
    refine ⟨of_decide_eq_true t1, t2, ?_⟩
    split at t3
    · rename_i x hx
      obtain ⟨C, o, cd⟩ := x
      refine ob03 (Heap.clsAt_spec hx) fun n1 n2 n3 => ?_
      have hK : clsK s.heap c = C := by unfold clsK; rw [n1]
      rw [hK]
      rw [Bool.and_eq_true] at t3
      exact ⟨o, cd, n1, n2, n3, of_decide_eq_true t3.1, fun n hn => Option.isNone_iff_eq_none.mp (List.all_eq_true.mp t3.2 n hn)⟩
    · cases t3
  refine ob03 (one 0 (.head _)) fun _ t0 wz3 => ?_; refine ob25 wz3 fun o0 cd0 m1 m2 m3 m4 m5 => ?_; clear wz3
  intro c hc
  refine ob03 (one c hc) fun l t wz4 => ?_; refine ob25 wz4 fun o cd n1 n2 n3 n4 n5 => ?_; clear wz4
  have base0 : ∃ c0 dd sl cd m0, s.heap.get? (clsK s.heap 0) = some { cls := c0, dict := dd, data := .cls cd, slots := sl } ∧ cd.name = clsName 0 ∧ s.heap.Ns cd.ns m0 ∧ ∀ n ∈ exQuiet, m0 n = none := by
    refine ob24 (xr_of t0) fun C r e1 e2 e3 e4 => ?_
    rw [m1] at e1; cases e1
    rw [e2] at m2; cases m2; cases m3
    exact ⟨_, _, _, _, _, e2, m4, e3, fun n hn => by rw [e4]; exact m5 n hn⟩
  refine ⟨n1, l, base0, ?_⟩
  refine ob24 (xr_of t) fun C r e1 e2 e3 e4 => ?_
  rw [n1] at e1
  cases e1
  have ht : ((if c = 0 then [] else [clsName 0]).map fun n => (s.heap.nsMap mainGlobals n).getD .none) ++ bmVE = tlK s.heap c := by
    unfold tlK
    by_cases z : c = 0
    · rw [if_pos z, if_pos z]; rfl
    · rw [if_neg z, if_neg z, List.map_cons, List.map_nil, m1]; rfl
  have hnm : r.nm = clsName c ∧ ∀ n ∈ exQuiet, s.heap.nsMap r.N n = none := by
    rw [e2] at n2; cases n2; cases n3; exact ⟨n4, n5⟩
  refine ob02 hnm fun hnm hqn => ?_
  have hT : OwnTail s.heap bmVE (((if c = 0 then [] else [clsName 0]).map fun n => (s.heap.nsMap mainGlobals n).getD .none) ++ bmVE) := OwnTail.of_chain _ fun n hn => by
    by_cases z : c = 0
    · rw [if_pos z] at hn; cases hn
    · rw [if_neg z] at hn; rw [List.mem_singleton.mp hn]; exact ⟨_, _, _, (one 0 (.head _)).2.1⟩
  rw [ht] at e2 hT
  rw [hnm] at e2
  exact ⟨r, e2, e3, fun n hn => by rw [e4]; exact hqn n hn, hT⟩
theorem exSays_keeps {cs : List Nat} {h h' : Heap} (y : ExSays cs h) (k : ∀ b o, h.get? b = some o → h'.get? b = some o) : ExSays cs h' := by
  have nm : ∀ c ∈ 0 :: cs, h'.nsMap mainGlobals = h.nsMap mainGlobals := fun c hc => by
    have := (y c hc).1
    funext x
    cases e : h.get? mainGlobals with
    | none => unfold Heap.nsMap at this; rw [e] at this; cases this
    | some o => unfold Heap.nsMap; rw [k _ _ e, e]
  have hm := nm 0 (.head _)
  have hK : ∀ c, clsK h' c = clsK h c := fun c => by unfold clsK; rw [hm]
  have ht : ∀ c, tlK h' c = tlK h c := fun c => by unfold tlK; rw [hK 0]
  intro c hc
  refine ob04 (y c hc) fun y1 l wz7x2 wz7 => ?_; refine ob54 wz7x2 fun c0 dd0 sl0 cd0 m0 y2 y3 y4 y5 => ?_; clear wz7x2; refine ob14 wz7 fun r z1 z2 z3 z4 => ?_; clear wz7
  rw [hm, hK]
  refine ⟨y1, l, ⟨c0, dd0, sl0, cd0, m0, by rw [hK]; exact k _ _ y2, y3, Ns_at y4 fun o e => k _ o e, y5⟩, r, ?_, Ns_at z2 fun o e => k _ o e, z3, ?_⟩
  · unfold XR.obj; rw [hK, ht]; exact k _ _ z1
  · rw [ht]; exact z4.keeps k
noncomputable def exHook (cs : List Nat) : Hook := ⟨Bool, exOk cs, fun _ => true, fun _ h => ExSays cs h, fun _ _ e => exSays_of e, fun _ _ _ y k => exSays_keeps y k⟩

theorem methKey_inj {x y : Str} (h : methKey x = methKey y) : x = y := by
  unfold methKey at h
  have h : Str.append ("Table." : Str) x = Str.append ("Table." : Str) y := h
  unfold Str.append at h
  obtain ⟨x⟩ := x
  obtain ⟨y⟩ := y
  simp only [Str.mk.injEq] at h
  have := congrArg Array.toList h
  simp only [Array.toList_append] at this
  have := List.append_cancel_left this
  exact congrArg Str.mk (Array.toList_inj.mp this)
noncomputable def tabOf (p : Program) (loose : List Str) : Option ClsRec := (plainsOf p loose).find? fun c => c.name == tabNm
noncomputable def chkM (c : ClsRec) (nm : Nat → List Str) (F : Nat → Option MFun) (g : GMap) (x : Str) (f : Nat) : Bool := match c.meths.find? (fun m => m.name == x), F f with
  | some m, some d => chkFun g (nm f) m.params m.scope m.body d
  | _, _ => false
noncomputable def freeG (p : Program) (loose : List Str) (x : Str) (i : GI) : Bool := bootT.lookup x == some i && (x == ("__name__" : Str)) == false && !startupNames.contains x && !loose.contains x && !((recsOf p).map (·.name)).contains x && !((litsOf p).map (·.1)).contains x && !((clssOf p loose).map (·.name)).contains x
noncomputable def chkG (cs : List Nat) (p : Program) (loose : List Str) (nm : Nat → List Str) (F : Nat → Option MFun) (g : GMap) : Bool := g.all fun q => match q.2 with
  | .fn f => (match (recsOf p).find? (fun d => d.name == q.1), F f with
    | some d, some m => chkFun g (nm f) d.params d.scope d.body m
    | _, _ => false)
  | .const v => (match valOf p q.1 with | some d => constOk v d | none => false)
  | .cls c => decide (q.1 = clsName c) && cs.contains c
  | .tab f => decide (q.1 = tabNm) && (match tabOf p loose with
    | some c => chkM c nm F g "__init__" f && (["__getattribute__", "__getattr__", "__setattr__", attrName 0, attrName 1, attrName 2] : List Str).all fun x => c.withCmp.quiet.contains x
    | none => false)
  | .meth f => (match tabOf p loose with
    | some c => c.meths.any fun m => decide (q.1 = methKey m.name) && chkM c nm F g m.name f
    | none => false)
  | i => freeG p loose q.1 i

theorem free_ok {p : Program} {loose : List Str} {mean : ExcName → Option Value} {mg mb : Str → Option Value} {h : Heap} {x : Str} {i : GI} (T : Top p loose mean mg mb h) (this : freeG p loose x i = true) : mg x = none ∧ mb x = bootBuiltins x ∧ bootSays x i := by
  unfold freeG at this
  simp only [Bool.and_eq_true, beq_iff_eq, Bool.not_eq_true', List.contains_eq_mem, decide_eq_false_iff_not, beq_eq_false_iff_ne, ne_eq] at this
  refine ob02 this fun wz8x0 t7 => ?_; clear this; refine oc6 wz8x0 fun t1 t2 t3 t4 t5 t6 => ?_; clear wz8x0
  exact ⟨T.free x t3 t4 t5 t6 t7, T.builtins x t2, bootT_ok _ (mem_of_lookup t1)⟩
theorem gok_of {p : Program} {loose : List Str} {mean : ExcName → Option Value} {mg mb : Str → Option Value} {h : Heap} {nm : Nat → List Str} {F : Nat → Option MFun} {g : GMap} {cs : List Nat}
    (T : Top p loose mean mg mb h) (e : chkG cs p loose nm F g = true) (Y : ExSays cs h) (TE : TopE p loose mg h) : GOk g F h mg mb := by
  unfold chkG at e
  rw [List.all_eq_true] at e
  refine ⟨T.g, T.b, T.nolimit, fun x f q => ?_, fun x v q => ?_, fun x t q => ?_, fun x t q => ?_, fun x c q => ?_, fun f q => ?_⟩
  · have := e _ (mem_of_lookup q)
    simp only at this
    split at this
    · rename_i d m hd hm
      have hmem := List.mem_of_find?_eq_some hd
      have hname := List.find?_some hd
      simp only [beq_iff_eq] at hname
      refine ob54 (T.fn d hmem) fun a o pm code doc h1 h2 h3 h4 => ?_
      exact ⟨a, by rw [← hname]; exact h1, o, _, d.body, nm f, m, h2, h3, h4, rfl, rfl, rfl, rfl, rfl, hm, this⟩
    · cases this
  · have := e _ (mem_of_lookup q)
    simp only at this
    split at this
    · rename_i d hd
      refine ob12 (T.const x d hd) fun u h1 h2 => ?_
      exact ⟨u, h1, const_rel this (h2 h)⟩
    · cases this
  · have z := free_ok (x := x) (i := .ty t) T (e _ (mem_of_lookup q))
    exact ⟨z.1, z.2.1.trans z.2.2⟩
  · have z := free_ok (x := x) (i := .bi t) T (e _ (mem_of_lookup q))
    exact ⟨z.1, z.2.1.trans z.2.2⟩
  · have := e _ (mem_of_lookup q)
    have this : (decide (x = clsName c) && cs.contains c) = true := this
    rw [Bool.and_eq_true] at this
    have hx := of_decide_eq_true this.1
    subst hx
    refine ob02 (Y c (.tail _ (List.contains_iff_mem.mp this.2))) fun y1 y2 => ?_
    exact ⟨by rw [T.g.eq_nsMap]; exact y1, y2⟩
  · have := e _ (mem_of_lookup q)
    have this : (decide (tabNm = tabNm) && (match tabOf p loose with
      | some c => chkM c nm F g "__init__" f && (["__getattribute__", "__getattr__", "__setattr__", attrName 0, attrName 1, attrName 2] : List Str).all fun x => c.withCmp.quiet.contains x
      | none => false)) = true := this
    have this := and_right this
    cases hc : tabOf p loose with
    | none => rw [hc] at this; cases this
    | some c =>
      rw [hc] at this
      have hmem := List.mem_of_find?_eq_some hc
      have hname := List.find?_some hc
      simp only [beq_iff_eq] at hname
      refine ob32 (TE c hmem) fun C N mN h1 P => ?_
      rw [hname] at h1
      have hK : tabK h = C := by
        unfold tabK
        have : h.nsMap mainGlobals "Table" = some (.ref C) := by rw [← T.g.eq_nsMap]; exact h1
        rw [this]
      have quiet : ∀ x, x ∈ (["__getattribute__", "__getattr__", "__setattr__", attrName 0, attrName 1, attrName 2] : List Str) → mN x = none := fun x hx => P.quiet x (List.contains_iff_mem.mp (List.all_eq_true.mp (and_right this) x hx))
      have meth : ∀ x f', chkM c nm F g x f' = true → ∃ a o, mN x = some (.ref a) ∧ h.get? a = some o ∧ o.cls = .type "function" ∧ FnAt g F h f' a := fun x f' hx => by
        unfold chkM at hx
        split at hx
        · rename_i m d hm hd
          have m1 := List.mem_of_find?_eq_some hm
          have m2 := List.find?_some hm
          simp only [beq_iff_eq] at m2
          refine ob55 (P.meths m m1) fun a o pm cd doc n1 n2 n3 n4 n5 => ?_
          exact ⟨a, o, by rw [← m2]; exact n1, n2, n3, o, _, m.body, nm f', d, n2, n4, n5, rfl, rfl, rfl, rfl, rfl, hd, hx⟩
        · cases hx
      refine ⟨by rw [hK]; exact h1, N, mN, hK ▸ P.cls, meth _ _ (and_left this), quiet _ (by simp), quiet _ (by simp), quiet _ (by simp), fun k hk => quiet _ (by
        have : k = 0 ∨ k = 1 ∨ k = 2 := by (first | exact om110 hk | omega)
        rcases this with rfl | rfl | rfl <;> simp), fun x f' hx => ?_⟩
      have t2 := e _ (mem_of_lookup hx)
      have t2 : (match tabOf p loose with | some c => c.meths.any fun m => decide (methKey x = methKey m.name) && chkM c nm F g m.name f' | none => false) = true := t2
      rw [hc] at t2
      refine ob12 (List.any_eq_true.mp t2) fun m _ hm => ?_
      have hx' : x = m.name := methKey_inj (of_decide_eq_true (and_left hm))
      rw [hx']
      exact meth _ _ (and_right hm)

theorem ints_rel {P : Params} {h : Heap} {a : Addr} : ∀ {vs : List Value} {xs : List Int}, WellAll P h vs (ofPys (xs.map PyData.int)) → VsRel [a] (xs.map .int) vs
  | vs, [], w => by cases w; rfl
  | vs, x :: xs, w => by
    cases w with
    | cons h1 h2 => cases h1; exact ⟨_, _, rfl, ⟨_, rfl⟩, ints_rel h2⟩

theorem law_ends {p prog : Program} {w : World} {loose : List Str} {mean mean' : ExcName → Option Value} {cl : Str → Option Addr} {mg mb : Str → Option Value} {nm : Nat → List Str} {F : Nat → Option MFun} {g : GMap} {s₁ : Shared} {fa a : Addr} {xs : List Int} {c : ClaimW} {args : List WData} {W k f : Nat} {h : MH} {cs : List Nat}
    (T : Top p loose mean mg mb s₁.heap) (e : chkG cs p loose nm F g = true) (Y : ExSays cs s₁.heap) (TE : TopE p loose mg s₁.heap) (hg : s₁.gens = #[]) (hf : g.lookup (Str.ofString "law") = some (.fn f)) (hmg : mg (Str.ofString "law") = some (.ref fa))
    (wl : Well w.params s₁.heap (.ref a) (ofPy (.list (xs.map PyData.int)))) (hk : k < 200) (hl : xs.length ≤ 63)
    (run : callN F W k f [.ref 0] [.ro (xs.map .int)] = .ok (.bool true) h)
    (hn : ∀ cls, c.raises args cls = false) (hp : c.post args (.bool true) args = true) :
    codeAny (model prog w) callerA (.call (.ref fa) { pos := [.ref a] }) (GoodWG c cl mean' args s₁) s₁ := by
  have G := gok_of T e Y TE
  refine ob12 (G.fn _ _ hf) fun fa' q1 q2 => ?_
  rw [hmg] at q1
  cases q1
  cases wl with
  | list ho hw =>
    rename_i vs
    have rel : HRel s₁.heap [a] [.ro (xs.map .int)] s₁.heap := by
      refine ⟨rfl, ?_, fun _ _ e => e, ?_, ?_, ?_⟩
      · intro i j b h1 h2
        cases i <;> cases j <;> simp at h1 h2 ⊢
      · intro i b o h1 h2
        cases i with
        | zero =>
          simp at h1 h2; subst h1 h2
          exact ⟨by simp [lim]; (first | exact om138 hl | omega), vs, _, ho, ints_rel hw⟩
        | succ i => simp at h1
      · intro i b o h1 h2 h3
        cases i with
        | zero => simp at h1 h2; subst h1 h2; cases h3
        | succ i => simp at h1
      · intro i b fs h1 h2
        cases i with
        | zero => simp at h2
        | succ i => simp at h1
    refine codeAny_mono (callN_sound (W := W) G k (by (first | exact om139 hk | omega)) f fa [.ref 0] [.ref a] [a] _ s₁ callerA ⟨[], fun _ _ => False⟩ (fun v s' => v = .bool true ∧ (∀ b o, s₁.heap.get? b = some o → s'.heap.get? b = some o) ∧ s'.os = s₁.os ∧ s'.gens = s₁.gens) q2 ⟨rfl, ?_, ?_⟩ rel rfl (fun _ h => nomatch h) ⟨_, _, rfl, ⟨a, rfl, rfl⟩, rfl⟩ ?_) ?_
    · show 301 + 2 * k < 900; (first | exact om140 hk | omega)
    · show 4 + 20 * k + 100 < 9900; (first | exact om141 hk | omega)
    · rw [run]
      intro μ' u h' tk r st hv
      exact ⟨hv, r.base, rfl, rfl⟩
    · intro r s' q
      cases r with
      | error e => exact q.elim
      | ok r =>
        cases r with
        | ret v =>
          refine ob04 q fun ez15x0 h1 h2 h3 => ?_; clear q; subst ez15x0
          exact GoodW.toG ⟨.inl ⟨_, _, [], rfl, hn, .bool true, hp, fun _ => ⟨List.nodup_nil, fun _ h => nomatch h⟩⟩, h1, h2, by rw [h3, hg]⟩
        | _ => exact q.elim

end Mine


-- part MiniHead
set_option maxRecDepth 100000
set_option linter.unusedVariables false
namespace Mine
open PySem PySem.W PyProof.Rows PySem.Calls
noncomputable def topRunT (tb : String → Option Builtin) (p : Program) (w : World) (n₀ : Nat) (ann : Option Value) : Nat → SharedT → Thread → Option SharedT
  | 0, _, _ => none
  | n + 1, s, t => match through t with
    | true => some s
    | false => match stepOk n₀ ann t with
      | false => none
      | true => match stepT (denote tb) p w s t with
        | some (s', t') => topRunT tb p w n₀ ann n s' t'
        | none => none
theorem topRun_ofT {tb : String → Option Builtin} {p : Program} {w : World} {n₀ : Nat} {ann : Option Value} : ∀ {n : Nat} {s s' : SharedT} {t : Thread}, topRunT tb p w n₀ ann n s t = some s' → topRun tb p w n₀ ann n s.abs t = some s'.abs
  | 0, _, _, _, h => by cases h
  | n + 1, s, s', t, h => by
    unfold topRunT at h
    unfold topRun
    cases he : through t with
    | true => rw [he] at h; cases h; rfl
    | false =>
      rw [he] at h
      cases hk : stepOk n₀ ann t with
      | false => rw [hk] at h; cases h
      | true =>
        rw [hk] at h
        cases hs : stepT (denote tb) p w s t with
        | none => rw [hs] at h; cases h
        | some r => obtain ⟨s₂, t₂⟩ := r; rw [hs] at h; rw [stepT_spec hs]; exact topRun_ofT h
noncomputable def boot_tree (P : Params) : BT := (boot_heap P).objs.toList.foldl (fun (x : BT × Nat) o => (x.1.ins x.2 o, x.2 + 1)) (BT.nil, 0) |>.1
theorem babs (P : Params) : absHeap (boot_tree P) 11 (boot_heap P).life = boot_heap P := by kernel_rfl
theorem left_of_tree {p q : Program} {loose : List Str} {Xt : Shared → Bool} {α : Type} {Yf : Shared → α} {Ya : World → α} {N : Nat} {g0 : Bool} {ann : Option Value}
    (e : opening p = plainProg p.main.scope.names) (hN : Nat.ble 600 N = true) (f : ∀ s, fenceModules? p s = some s)
    (size : ∀ w : World, ((boot_heap w.params).isNs mainGlobals && (Array.mk [] : Array GenState).size == 0, (boot_heap w.params).objs.size, (boot_heap w.params).nsMap mainGlobals "__annotations__") = (true, 11, ann))
    (run : ∀ (w : World) (os : OsState), (topRunT treeTable p w 11 ann N ⟨boot_tree w.params, 11, (boot_heap w.params).life, Array.mk [], boot_drawn, boot_toks, os⟩ (topStub p)).map (fun S =>
      ((staticsOk (importedModules p.main.body) (boot_heap w.params) S.abs.heap && namesBound p S.abs.heap && gensDone S.abs && laidKept (boot_heap w.params) S.abs.heap), openSeen q loose (importedModules p.main.body) Xt g0 S.abs, Yf S.abs)) = some (true, openGood q loose, Ya w)) : LeftO p q loose Xt Yf Ya N g0 := fun w => by
  obtain ⟨⟨h, gs, d, k, os⟩, e1, e'⟩ := Option.map_eq_some_iff.mp (boot_open e hN f w)
  obtain ⟨rfl, rfl, rfl, rfl⟩ : h = boot_heap w.params ∧ gs = Array.mk [] ∧ d = boot_drawn ∧ k = boot_toks := by simpa using e'
  obtain ⟨z1, z2, z3⟩ : _ ∧ _ ∧ _ := by simpa only [Prod.mk.injEq] using size w
  obtain ⟨S, r, l⟩ := Option.map_eq_some_iff.mp (run w os)
  obtain ⟨l1, l2, l3⟩ : _ ∧ _ ∧ _ := by simpa only [Prod.mk.injEq] using l
  have r := topRun_ofT r
  rw [show SharedT.abs ⟨boot_tree w.params, 11, (boot_heap w.params).life, Array.mk [], boot_drawn, boot_toks, os⟩ = ⟨boot_heap w.params, Array.mk [], boot_drawn, boot_toks, os⟩ from by unfold SharedT.abs; rw [babs]] at r
  have t : topFrom treeTable p w N ⟨boot_heap w.params, Array.mk [], boot_drawn, boot_toks, os⟩ = some S.abs := by
    unfold topFrom
    dsimp only
    rw [z1, z2, z3, r]
    show (match staticsOk (importedModules p.main.body) (boot_heap w.params) S.abs.heap && namesBound p S.abs.heap && gensDone S.abs && laidKept (boot_heap w.params) S.abs.heap with | true => _ | false => _) = _
    rw [l1]
  unfold openEnds
  rw [e1]
  show (topFrom treeTable p w N _).map _ = _
  rw [t]
  exact congrArg some (Prod.ext l2 l3)
end Mine


-- part MiniWp
set_option maxRecDepth 4000
set_option linter.unusedVariables false
set_option linter.unusedSimpArgs false
namespace Mine
open PySem (Operator UnaryOp CmpOp)

noncomputable def Wp {α : Type} (r : Res α) (P : α → MH → Prop) : Prop :=
  match r with
  | .ok a h => P a h
  | .exc _ _ => False
  | .stuck => False

@[simp] theorem Wp_ok {α : Type} (a : α) (h : MH) (P : α → MH → Prop) : Wp (.ok a h) P = P a h := rfl
@[simp] theorem Wp_exc {α : Type} (c : Nat) (h : MH) (P : α → MH → Prop) : Wp (.exc c h) P = False := rfl
@[simp] theorem Wp_stuck {α : Type} (P : α → MH → Prop) : Wp .stuck P = False := rfl
@[simp] theorem Wp_bind {α β : Type} (r : Res α) (f : α → MH → Res β) (P : β → MH → Prop) : Wp (r.bind f) P = Wp r (fun a h => Wp (f a h) P) := by cases r <;> rfl
theorem Wp.mono {α : Type} {r : Res α} {P Q : α → MH → Prop} (h : Wp r P) (g : ∀ a h, P a h → Q a h) : Wp r Q := by
  cases r <;> first | exact g _ _ h | exact False.elim h
theorem Wp.get {α : Type} {r : Res α} {P : α → MH → Prop} (h : Wp r P) : ∃ a h', r = .ok a h' ∧ P a h' := by
  cases r <;> first | exact ⟨_, _, rfl, h⟩ | exact False.elim h
@[simp] theorem Wp_opt {α : Type} (o : Option α) (h : MH) (P : α → MH → Prop) : Wp (Res.opt o h) P = (match o with | some a => P a h | none => False) := by cases o <;> rfl
@[simp] theorem Wp_ite {α : Type} (c : Prop) [Decidable c] (a b : Res α) (P : α → MH → Prop) : Wp (if c then a else b) P = (if c then Wp a P else Wp b P) := by split <;> rfl

section
variable (C : Cf) (W : Nat) (ρ : Rho) (h : MH)

@[simp] theorem E_const (v : Val) : (sem C (.const v)).E ρ h = .ok v h := rfl
@[simp] theorem E_gconst (v : Val) : (sem C (.gconst v)).E ρ h = .ok v h := rfl
@[simp] theorem E_loc (i : Nat) : (sem C (.loc i)).E ρ h = locV i ρ h := rfl
@[simp] theorem E_bin (op : Operator) (a b : MExpr) : (sem C (.bin op a b)).E ρ h = ((sem C a).E ρ h).bind fun v h => ((sem C b).E ρ h).bind fun w h => binV h op v w := rfl
@[simp] theorem E_un (op : UnaryOp) (a : MExpr) : (sem C (.un op a)).E ρ h = ((sem C a).E ρ h).bind fun v h => unV h op v := rfl
@[simp] theorem T_not (a : MExpr) : (sem C (.un .Not a)).T ρ h = ((sem C a).T ρ h).bind fun b h => .ok (!b) h := rfl
@[simp] theorem E_and (a b : MExpr) : (sem C (.and a b)).E ρ h = ((sem C a).E ρ h).bind fun v h => (Res.opt (truthyV h v) h).bind fun t h => if t then (sem C b).E ρ h else .ok v h := rfl
@[simp] theorem T_and (a b : MExpr) : (sem C (.and a b)).T ρ h = ((sem C a).T ρ h).bind fun t h => if t then (sem C b).T ρ h else .ok false h := rfl
@[simp] theorem E_or (a b : MExpr) : (sem C (.or a b)).E ρ h = ((sem C a).E ρ h).bind fun v h => (Res.opt (truthyV h v) h).bind fun t h => if t then .ok v h else (sem C b).E ρ h := rfl
@[simp] theorem T_or (a b : MExpr) : (sem C (.or a b)).T ρ h = ((sem C a).T ρ h).bind fun t h => if t then .ok true h else (sem C b).T ρ h := rfl
@[simp] theorem E_cmp (op : CmpOp) (a b : MExpr) : (sem C (.cmp op a b)).E ρ h = ((sem C a).E ρ h).bind fun v h => ((sem C b).E ρ h).bind fun w h => (Res.opt (cmpV h op v w) h).bind fun t h => .ok (.bool t) h := rfl
@[simp] theorem T_cmp (op : CmpOp) (a b : MExpr) : (sem C (.cmp op a b)).T ρ h = ((sem C a).E ρ h).bind fun v h => ((sem C b).E ρ h).bind fun w h => Res.opt (cmpV h op v w) h := rfl
@[simp] theorem E_cmp2 (o₁ o₂ : CmpOp) (a b c : MExpr) : (sem C (.cmp2 o₁ o₂ a b c)).E ρ h = ((sem C a).E ρ h).bind fun v h => ((sem C b).E ρ h).bind fun w h => (Res.opt (cmpV h o₁ v w) h).bind fun t h =>
        if t then ((sem C c).E ρ h).bind fun x h => (Res.opt (cmpV h o₂ w x) h).bind fun t h => .ok (.bool t) h else .ok (.bool false) h := rfl
@[simp] theorem T_cmp2 (o₁ o₂ : CmpOp) (a b c : MExpr) : (sem C (.cmp2 o₁ o₂ a b c)).T ρ h = ((sem C a).E ρ h).bind fun v h => ((sem C b).E ρ h).bind fun w h => (Res.opt (cmpV h o₁ v w) h).bind fun t h =>
        if t then ((sem C c).E ρ h).bind fun x h => Res.opt (cmpV h o₂ w x) h else .ok false h := rfl
@[simp] theorem E_isinst (t : Ty) (a : MExpr) : (sem C (.isinst t a)).E ρ h = ((sem C a).E ρ h).bind fun v h => (Res.opt (isInstV h t v) h).bind fun b h => .ok (.bool b) h := rfl
@[simp] theorem T_isinst (t : Ty) (a : MExpr) : (sem C (.isinst t a)).T ρ h = ((sem C (.isinst t a)).E ρ h).bind fun v h => Res.opt (truthyV h v) h := rfl
@[simp] theorem E_call (f : Nat) (args : MExpr) : (sem C (.call f args)).E ρ h = ((sem C args).Es ρ h).bind fun vs h => C f vs h := rfl
@[simp] theorem T_call (f : Nat) (args : MExpr) : (sem C (.call f args)).T ρ h = ((sem C (.call f args)).E ρ h).bind fun v h => Res.opt (truthyV h v) h := rfl
@[simp] theorem E_bi (b : BI) (args : MExpr) : (sem C (.bi b args)).E ρ h = ((sem C args).Es ρ h).bind fun vs h => biV h b vs := rfl
@[simp] theorem T_bi (b : BI) (args : MExpr) : (sem C (.bi b args)).T ρ h = ((sem C (.bi b args)).E ρ h).bind fun v h => Res.opt (truthyV h v) h := rfl
@[simp] theorem E_meth (m : Me) (o args : MExpr) : (sem C (.meth m o args)).E ρ h = ((sem C o).E ρ h).bind fun v h => if meOk h m v then ((sem C args).Es ρ h).bind fun vs h => meV h m v vs else .stuck := rfl
@[simp] theorem E_lst (es : MExpr) : (sem C (.lst es)).E ρ h = ((sem C es).Es ρ h).bind newList := rfl
@[simp] theorem E_tup (es : MExpr) : (sem C (.tup es)).E ρ h = ((sem C es).Es ρ h).bind fun vs h => if vs.length ≤ lim then newObj (.tup vs) h else .stuck := rfl
@[simp] theorem E_sub (o i : MExpr) : (sem C (.sub o i)).E ρ h = ((sem C o).E ρ h).bind fun v h => ((sem C i).E ρ h).bind fun w h => Res.opt (subV h v w) h := rfl
@[simp] theorem T_sub (o i : MExpr) : (sem C (.sub o i)).T ρ h = ((sem C (.sub o i)).E ρ h).bind fun v h => Res.opt (truthyV h v) h := rfl
@[simp] theorem T_loc (i : Nat) : (sem C (.loc i)).T ρ h = ((sem C (.loc i)).E ρ h).bind fun v h => Res.opt (truthyV h v) h := rfl
@[simp] theorem T_const (v : Val) : (sem C (.const v)).T ρ h = Res.opt (truthyV h v) h := rfl
@[simp] theorem E_slice (o lo hi : MExpr) : (sem C (.slice o lo hi)).E ρ h = ((sem C o).E ρ h).bind fun v h => (((sem C lo).Es ρ h).bind fun a h => Res.opt (optOf a) h).bind fun a h => (((sem C hi).Es ρ h).bind fun b h => Res.opt (optOf b) h).bind fun b h => sliceV h v a b := rfl
@[simp] theorem E_comp (elt tgt it cond : MExpr) : (sem C (.comp elt tgt it cond)).E ρ h = ((sem C it).I ρ h).bind fun s h => (compLoop (compStep tgt (sem C cond).T (sem C elt).E ρ) s.2 s.1 h).bind newList := rfl
@[simp] theorem E_compp (elt : MExpr) (i j : Nat) (a cond : MExpr) : (sem C (.compp elt i j a cond)).E ρ h = (((sem C a).E ρ h).bind fun v h => comppL (pStep (sem C cond).T (sem C elt).E i j ρ) h v).bind newList := rfl
@[simp] theorem E_compq (elt : MExpr) (i j : Nat) (a b : MExpr) : (sem C (.compq elt i j a b)).E ρ h = (((sem C a).E ρ h).bind fun v h => ((sem C b).E ρ h).bind fun w h => compqL (pStep (fun _ h => .ok true h) (sem C elt).E i j ρ) h v w).bind newList := rfl
@[simp] theorem Es_nil : (sem C .nil).Es ρ h = .ok [] h := rfl
@[simp] theorem Es_cons (a b : MExpr) : (sem C (.cons a b)).Es ρ h = ((sem C a).E ρ h).bind fun v h => ((sem C b).Es ρ h).bind fun vs h => .ok (v :: vs) h := rfl
@[simp] theorem I_irange (a : MExpr) : (sem C (.irange a)).I ρ h = ((sem C a).E ρ h).bind irangeV := rfl
@[simp] theorem I_iobj (a : MExpr) : (sem C (.iobj a)).I ρ h = ((sem C a).E ρ h).bind fun v h => Res.opt (srcOf h v) h := rfl

noncomputable def thenX (r : MStmt) (p : MFlow × Rho) (h : MH) : Res (MFlow × Rho) := match p.1 with
      | .next => exec C W r p.2 h
      | .ret v => .ok (.ret v, p.2) h
@[simp] theorem X_cons' (s r : MStmt) : exec C W (.cons s r) ρ h = (exec C W s ρ h).bind (thenX C W r) := rfl
@[simp] theorem thenX_next (r : MStmt) : thenX C W r (.next, ρ) h = exec C W r ρ h := rfl
@[simp] theorem thenX_ret (r : MStmt) (v : Val) : thenX C W r (.ret v, ρ) h = .ok (.ret v, ρ) h := rfl
@[simp] theorem X_nil : exec C W .nil ρ h = .ok (.next, ρ) h := rfl
@[simp] theorem X_assign (i : Nat) (e : MExpr) : exec C W (.assign i e) ρ h = ((sem C e).E ρ h).bind fun v h => .ok (.next, ρ.set i (some v)) h := rfl
@[simp] theorem X_asub (o i e : MExpr) : exec C W (.asub o i e) ρ h = ((sem C e).E ρ h).bind fun v h => ((sem C o).E ρ h).bind fun ov h => ((sem C i).E ρ h).bind fun iv h => (asubV h ov iv v).bind fun _ h => .ok (.next, ρ) h := rfl
@[simp] theorem X_expr (e : MExpr) : exec C W (.expr e) ρ h = ((sem C e).E ρ h).bind fun _ h => .ok (.next, ρ) h := rfl
@[simp] theorem X_ifs (c : MExpr) (t e : MStmt) : exec C W (.ifs c t e) ρ h = ((sem C c).T ρ h).bind fun b h => if b then exec C W t ρ h else exec C W e ρ h := rfl
@[simp] theorem X_fors (tgt it : MExpr) (b : MStmt) : exec C W (.fors tgt it b) ρ h = ((sem C it).I ρ h).bind fun s h => forLoop (forStep tgt (exec C W b)) s.2 s.1 ρ h := rfl
@[simp] theorem X_ret (e : MExpr) : exec C W (.ret e) ρ h = ((sem C e).E ρ h).bind fun v h => .ok (.ret v, ρ) h := rfl
@[simp] theorem X_raise (c : Nat) : exec C W (.raise c) ρ h = .exc c h := rfl
@[simp] theorem X_tryx (b : MStmt) (hs : List (Nat × Bool × Val)) : exec C W (.tryx b hs) ρ h = tryV hs ρ (exec C W b ρ h) := rfl
@[simp] theorem X_asub2 (o1 i1 o2 i2 e : MExpr) : exec C W (.asub2 o1 i1 o2 i2 e) ρ h = asub2 C o1 i1 o2 i2 e ρ h := rfl
end

noncomputable def retOf (p : MFlow × Rho) (h : MH) : Res Val := match p.1 with
          | .ret v => .ok v h
          | .next => .ok .none h
@[simp] theorem retOf_ret (v : Val) (ρ : Rho) (h : MH) : retOf (.ret v, ρ) h = .ok v h := rfl
@[simp] theorem retOf_next (ρ : Rho) (h : MH) : retOf (.next, ρ) h = .ok .none h := rfl
theorem callN_def {F : Nat → Option MFun} {W n f : Nat} {vs : List Val} {h : MH} {d : MFun} (e : F f = some d) (l : vs.length = d.np) : callN F W (n + 1) f vs h = (exec (callN F W n) W d.body (vs.map some ++ List.replicate (d.ns - d.np) none) h).bind retOf := by
  show (match F f with | some d => _ | none => _) = _
  rw [e]; simp only [if_pos l]; rfl

/- the leaves -/
section
variable (h : MH)
@[simp] theorem locV_zero (v : Val) (ρ : Rho) : locV 0 (some v :: ρ) h = .ok v h := rfl
@[simp] theorem locV_succ (i : Nat) (o : Option Val) (ρ : Rho) : locV (i + 1) (o :: ρ) h = locV i ρ h := rfl
@[simp] theorem bin_add (a b : Int) : binV h .Add (.int a) (.int b) = .ok (.int (a + b)) h := rfl
@[simp] theorem bin_sub (a b : Int) : binV h .Sub (.int a) (.int b) = .ok (.int (a - b)) h := rfl
@[simp] theorem bin_mul (a b : Int) : binV h .Mult (.int a) (.int b) = if mulOk a b then .ok (.int (a * b)) h else .stuck := rfl
@[simp] theorem bin_fd (a b : Int) : binV h .FloorDiv (.int a) (.int b) = if 0 < b ∧ b < 1073741824 then .ok (.int (a / b)) h else .stuck := rfl
@[simp] theorem bin_mod (a b : Int) : binV h .Mod (.int a) (.int b) = if 0 < b then .ok (.int (a % b)) h else .stuck := rfl
@[simp] theorem bin_addR (i j : Nat) : binV h .Add (.ref i) (.ref j) = addRR h i j := rfl
@[simp] theorem bin_mulR (i : Nat) (n : Int) : binV h .Mult (.ref i) (.int n) = mulRI h i n := rfl
@[simp] theorem cmp_eqI (a b : Int) : cmpV h .Eq (.int a) (.int b) = some (a == b) := rfl
@[simp] theorem cmp_neI (a b : Int) : cmpV h .NotEq (.int a) (.int b) = some (!(a == b)) := rfl
@[simp] theorem cmp_lt (a b : Int) : cmpV h .Lt (.int a) (.int b) = some (decide (a < b)) := rfl
@[simp] theorem cmp_le (a b : Int) : cmpV h .LtE (.int a) (.int b) = some (decide (a ≤ b)) := rfl
@[simp] theorem cmp_gt (a b : Int) : cmpV h .Gt (.int a) (.int b) = some (decide (a > b)) := rfl
@[simp] theorem cmp_ge (a b : Int) : cmpV h .GtE (.int a) (.int b) = some (decide (a ≥ b)) := rfl
@[simp] theorem truthy_bool (b : Bool) : truthyV h (.bool b) = some b := rfl
@[simp] theorem truthy_int (i : Int) : truthyV h (.int i) = some (i != 0) := rfl
@[simp] theorem mulOk_r (a : Int) (n : Nat) : mulOk a (no_index (OfNat.ofNat n)) = (decide (a.natAbs < 9223372036854775808) || decide ((no_index (OfNat.ofNat n) : Int).natAbs < 9223372036854775808)) := rfl
end

/- loops -/
theorem compLoop_pure {f : Val → MH → Res (Option Val)} {ck : MH → Bool} {h : MH} (o : Val → Option Val) : ∀ (xs : List Val), (∀ x ∈ xs, f x h = .ok (o x) h) → ck h = true → compLoop f ck xs h = .ok (xs.filterMap o) h
  | [], _, _ => rfl
  | x :: xs, hf, hc => by
    rw [compLoop, hf x (.head _)]
    simp only [Res.bind_ok, hc, if_true]
    rw [compLoop_pure o xs (fun y hy => hf y (.tail _ hy)) hc]
    simp only [Res.bind_ok, List.filterMap_cons]
    cases o x <;> rfl

theorem forLoop_inv {f : Val → Rho → MH → Res (MFlow × Rho)} {ck : MH → Bool} {P : MFlow × Rho → MH → Prop} (I : List Val → Rho → MH → Prop)
    (turn : ∀ x rest ρ h, I (x :: rest) ρ h → Wp (f x ρ h) fun p h' => match p.1 with | .next => ck h' = true ∧ I rest p.2 h' | .ret v => P (.ret v, p.2) h')
    (fin : ∀ ρ h, I [] ρ h → P (.next, ρ) h) : ∀ (xs : List Val) (ρ : Rho) (h : MH), I xs ρ h → Wp (forLoop f ck xs ρ h) P
  | [], ρ, h, i => fin _ _ i
  | x :: xs, ρ, h, i => by
    simp only [forLoop, Wp_bind]
    refine (turn x xs ρ h i).mono fun p h1 q => ?_
    obtain ⟨fl, ρ1⟩ := p
    cases fl with
    | next => simp only at q ⊢; rw [if_pos q.1]; exact forLoop_inv I turn fin xs _ h1 q.2
    | ret v => exact q

theorem rangeVals_eq : ∀ (n : Nat) (a : Int), rangeVals a n = (List.range n).map fun i => .int (a + i)
  | 0, a => rfl
  | n + 1, a => by
    rw [rangeVals, rangeVals_eq n, List.range_succ_eq_map]
    simp only [List.map_cons, List.map_map, Int.natCast_zero, Int.add_zero, List.cons.injEq, true_and]
    refine List.map_congr_left fun i _ => ?_
    simp only [Function.comp, Val.int.injEq]; (first | exact om142 | omega)

end Mine


-- part MiniTr
set_option maxRecDepth 4000
set_option linter.unusedVariables false
set_option linter.unusedSimpArgs false
namespace Mine

inductive Tr where
  | int (i : Int) | lst (l : List Tr) | tup (l : List Tr)

/-- a tree's place: from b on, or one of two places that stand by themselves -/
noncomputable def Sp (a : Nat) : Prop := a = 16 ∨ a = 18
noncomputable def Lo (b a : Nat) : Prop := b ≤ a ∨ Sp a
theorem Lo.le {b b' a : Nat} (hb : b' ≤ b) (h : Lo b a) : Lo b' a := h.imp (Nat.le_trans hb) id
mutual
noncomputable def Rd (b : Nat) (h : MH) : Tr → Val → Prop
  | .int i, v => v = .int i
  | .lst ts, v => ∃ a rs, v = .ref a ∧ Lo b a ∧ h[a]? = some (.list rs) ∧ RdL b h ts rs
  | .tup ts, v => ∃ a rs, v = .ref a ∧ Lo b a ∧ h[a]? = some (.tup rs) ∧ RdL b h ts rs
noncomputable def RdL (b : Nat) (h : MH) : List Tr → List Val → Prop
  | [], vs => vs = []
  | t :: ts, vs => ∃ w ws, vs = w :: ws ∧ Rd b h t w ∧ RdL b h ts ws
end

theorem get_pre {h h' : MH} (p : h <+: h') {i : Nat} {o : MObj} (e : h[i]? = some o) : h'[i]? = some o := by
  obtain ⟨t, rfl⟩ := p
  rw [List.getElem?_append_left (List.getElem?_eq_some_iff.mp e).1]; exact e
theorem len_pre {h h' : MH} (p : h <+: h') : h.length ≤ h'.length := p.length_le
theorem pre_app (h t : MH) : h <+: h ++ t := ⟨t, rfl⟩
theorem pre_set {h h' : MH} (p : h <+: h') {i : Nat} {o : MObj} (hi : h.length ≤ i) : h <+: h'.set i o := by
  obtain ⟨t, rfl⟩ := p
  rw [List.set_append_right _ _ hi]; exact ⟨_, rfl⟩

mutual
theorem Rd.mono' {b b' : Nat} {h h' : MH} (hb : b' ≤ b) (p : ∀ i o, Lo b i → h[i]? = some o → h'[i]? = some o) : ∀ {t : Tr} {v : Val}, Rd b h t v → Rd b' h' t v
  | .int i, v, r => by rw [Rd] at r ⊢; exact r
  | .lst ts, v, r => by
    rw [Rd] at r ⊢
    refine ob24 r fun a rs h1 h2 h3 h4 => ?_; clear r
    exact ⟨a, rs, h1, h2.le hb, p _ _ h2 h3, RdL.mono' hb p h4⟩
  | .tup ts, v, r => by
    rw [Rd] at r ⊢
    refine ob24 r fun a rs h1 h2 h3 h4 => ?_; clear r
    exact ⟨a, rs, h1, h2.le hb, p _ _ h2 h3, RdL.mono' hb p h4⟩
theorem RdL.mono' {b b' : Nat} {h h' : MH} (hb : b' ≤ b) (p : ∀ i o, Lo b i → h[i]? = some o → h'[i]? = some o) : ∀ {ts : List Tr} {vs : List Val}, RdL b h ts vs → RdL b' h' ts vs
  | [], vs, r => by rw [RdL] at r ⊢; exact r
  | t :: ts, vs, r => by
    rw [RdL] at r ⊢
    refine ob23 r fun w ws h1 h2 h3 => ?_; clear r
    exact ⟨w, ws, h1, Rd.mono' hb p h2, RdL.mono' hb p h3⟩
end
theorem Rd.mono {b : Nat} {h h' : MH} (p : h <+: h') {t : Tr} {v : Val} (r : Rd b h t v) : Rd b h' t v := r.mono' (Nat.le_refl _) fun _ _ _ e => get_pre p e
theorem RdL.mono {b : Nat} {h h' : MH} (p : h <+: h') {t : List Tr} {v : List Val} (r : RdL b h t v) : RdL b h' t v := r.mono' (Nat.le_refl _) fun _ _ _ e => get_pre p e
theorem RdL.nil {b : Nat} {h : MH} : RdL b h [] [] := by rw [RdL]
theorem RdL.cons {b : Nat} {h : MH} {t : Tr} {ts : List Tr} {v : Val} {vs : List Val} (r : Rd b h t v) (rs : RdL b h ts vs) : RdL b h (t :: ts) (v :: vs) := by rw [RdL]; exact ⟨v, vs, rfl, r, rs⟩
theorem RdL.length {b : Nat} {h : MH} : ∀ {ts : List Tr} {vs : List Val}, RdL b h ts vs → vs.length = ts.length
  | [], vs, r => by rw [RdL] at r; rw [r]; rfl
  | t :: ts, vs, r => by rw [RdL] at r; refine ob23 r fun w ws ez3x2 _ h3 => ?_; clear r; subst ez3x2; simp [h3.length]
theorem RdL.get {b : Nat} {h : MH} : ∀ {ts : List Tr} {vs : List Val} {k : Nat} {t : Tr}, RdL b h ts vs → ts[k]? = some t → ∃ v, vs[k]? = some v ∧ Rd b h t v
  | [], vs, k, t, r, e => by simp at e
  | t' :: ts, vs, k, t, r, e => by
    rw [RdL] at r; refine ob23 r fun w ws ez4x2 h2 h3 => ?_; clear r; subst ez4x2
    cases k with
    | zero => simp at e; subst e; exact ⟨w, rfl, h2⟩
    | succ k => simp at e; simpa using h3.get e
theorem RdL.append {b : Nat} {h : MH} : ∀ {ts us : List Tr} {vs ws : List Val}, RdL b h ts vs → RdL b h us ws → RdL b h (ts ++ us) (vs ++ ws)
  | [], us, vs, ws, r, q => by rw [RdL] at r; subst r; exact q
  | t :: ts, us, vs, ws, r, q => by rw [RdL] at r; refine ob23 r fun w ws' ez5x2 h2 h3 => ?_; clear r; subst ez5x2; exact .cons h2 (h3.append q)
theorem Rd.list {b : Nat} {h : MH} {ts : List Tr} {v : Val} (r : Rd b h (.lst ts) v) : ∃ a rs, v = .ref a ∧ Lo b a ∧ h[a]? = some (.list rs) ∧ RdL b h ts rs := by rw [Rd] at r; exact r
theorem Rd.tuple {b : Nat} {h : MH} {ts : List Tr} {v : Val} (r : Rd b h (.tup ts) v) : ∃ a rs, v = .ref a ∧ Lo b a ∧ h[a]? = some (.tup rs) ∧ RdL b h ts rs := by rw [Rd] at r; exact r
theorem Rd.mkList {b a : Nat} {h : MH} {ts : List Tr} {rs : List Val} (hb : b ≤ a) (e : h[a]? = some (.list rs)) (r : RdL b h ts rs) : Rd b h (.lst ts) (.ref a) := by rw [Rd]; exact ⟨a, rs, rfl, .inl hb, e, r⟩
theorem Rd.mkTup {b a : Nat} {h : MH} {ts : List Tr} {rs : List Val} (hb : b ≤ a) (e : h[a]? = some (.tup rs)) (r : RdL b h ts rs) : Rd b h (.tup ts) (.ref a) := by rw [Rd]; exact ⟨a, rs, rfl, .inl hb, e, r⟩
theorem Rd.int {b : Nat} {h : MH} {i : Int} {v : Val} (r : Rd b h (.int i) v) : v = .int i := by rw [Rd] at r; exact r
theorem Rd.mkInt {b : Nat} {h : MH} {i : Int} : Rd b h (.int i) (.int i) := by rw [Rd]

noncomputable def tI (xs : List Int) : Tr := .lst (xs.map .int)
noncomputable def tII (xss : List (List Int)) : Tr := .lst (xss.map tI)
theorem RdL.ints {b : Nat} {h : MH} : ∀ {xs : List Int} {vs : List Val}, RdL b h (xs.map .int) vs ↔ vs = xs.map .int
  | [], vs => by rw [List.map_nil, RdL]; rfl
  | x :: xs, vs => by
    rw [List.map_cons, RdL]
    constructor
    · rintro ⟨w, ws, rfl, h2, h3⟩; rw [h2.int, RdL.ints.mp h3]; rfl
    · rintro rfl; exact ⟨_, _, rfl, .mkInt, RdL.ints.mpr rfl⟩
theorem Rd.ints {b : Nat} {h : MH} {xs : List Int} {v : Val} (r : Rd b h (tI xs) v) : ∃ a, v = .ref a ∧ Lo b a ∧ h[a]? = some (.list (xs.map .int)) := by
  refine ob24 (Rd.list r) fun a rs h1 h2 h3 h4 => ?_
  rw [RdL.ints.mp h4] at h3; exact ⟨a, h1, h2, h3⟩
theorem Rd.mkInts {b a : Nat} {h : MH} {xs : List Int} (hb : b ≤ a) (e : h[a]? = some (.list (xs.map .int))) : Rd b h (tI xs) (.ref a) := .mkList hb e (RdL.ints.mpr rfl)

theorem seqOf_list {h : MH} {i : Nat} {xs : List Val} (e : h[i]? = some (.list xs)) : seqOf h i = some (true, xs) := by simp [seqOf, e]
theorem seqOf_tup {h : MH} {i : Nat} {xs : List Val} (e : h[i]? = some (.tup xs)) : seqOf h i = some (false, xs) := by simp [seqOf, e]
theorem eqV_seq {m : Nat} {h : MH} {i j : Nat} {k : Bool} {xs ys : List Val} (hi : seqOf h i = some (k, xs)) (hj : seqOf h j = some (k, ys)) (hl : xs.length = ys.length) : eqV (m + 1) h (.ref i) (.ref j) = eqL (eqV m h) xs ys := by
  rw [eqV]; simp only [hi, hj, hl, if_true]

mutual
noncomputable def Tr.dep : Tr → Nat
  | .int _ => 0
  | .lst l => depL l + 1
  | .tup l => depL l + 1
noncomputable def depL : List Tr → Nat
  | [] => 0
  | t :: ts => max t.dep (depL ts)
end
mutual
theorem eq_same {h : MH} {b b' : Nat} : ∀ {t : Tr} {n : Nat} {v w : Val}, t.dep ≤ n → Rd b h t v → Rd b' h t w → eqV n h v w = some true
  | .int i, n, v, w, _, r, q => by rw [r.int, q.int]; cases n <;> simp [eqV, eqP]
  | .lst ts, n, v, w, hd, r, q => by
    refine ob24 r.list fun a rs ez7x2 _ h3 h4 => ?_; subst ez7x2
    refine ob24 q.list fun a' rs' ez8x2 _ h3' h4' => ?_; subst ez8x2
    rw [Tr.dep] at hd
    obtain ⟨m, rfl⟩ : ∃ m, n = m + 1 := ⟨n - 1, by (first | exact om143 hd | omega)⟩
    rw [eqV_seq (seqOf_list h3) (seqOf_list h3') (by rw [h4.length, h4'.length])]
    exact eqL_same (by (first | exact om144 hd | omega)) h4 h4'
  | .tup ts, n, v, w, hd, r, q => by
    refine ob24 r.tuple fun a rs ez9x2 _ h3 h4 => ?_; subst ez9x2
    refine ob24 q.tuple fun a' rs' ez10x2 _ h3' h4' => ?_; subst ez10x2
    rw [Tr.dep] at hd
    obtain ⟨m, rfl⟩ : ∃ m, n = m + 1 := ⟨n - 1, by (first | exact om143 hd | omega)⟩
    rw [eqV_seq (seqOf_tup h3) (seqOf_tup h3') (by rw [h4.length, h4'.length])]
    exact eqL_same (by (first | exact om144 hd | omega)) h4 h4'
theorem eqL_same {h : MH} {b b' : Nat} : ∀ {ts : List Tr} {n : Nat} {vs ws : List Val}, depL ts ≤ n → RdL b h ts vs → RdL b' h ts ws → eqL (eqV n h) vs ws = some true
  | [], n, vs, ws, _, r, q => by rw [RdL] at r q; subst r q; rfl
  | t :: ts, n, vs, ws, hd, r, q => by
    rw [RdL] at r q
    refine ob23 r fun w ws ez11x2 h2 h3 => ?_; clear r; subst ez11x2
    refine ob23 q fun w' ws' ez12x2 h2' h3' => ?_; clear q; subst ez12x2
    rw [depL] at hd
    have e1 := eq_same (n := n) (by omega) h2 h2'
    have e2 := eqL_same (n := n) (by omega) h3 h3'
    simp [eqL, e1, e2]
end
theorem ne_same {h : MH} {t : Tr} {v w : Val} {b b' : Nat} (hd : t.dep ≤ 8) (r : Rd b h t v) (q : Rd b' h t w) : cmpV h .NotEq v w = some false := by
  show (eqV 8 h v w).map (!·) = _
  rw [eq_same hd r q]; rfl
theorem eq_same8 {h : MH} {t : Tr} {v w : Val} {b b' : Nat} (hd : t.dep ≤ 8) (r : Rd b h t v) (q : Rd b' h t w) : cmpV h .Eq v w = some true := eq_same hd r q

theorem depL_ints : ∀ xs : List Int, depL (xs.map .int) = 0
  | [] => rfl
  | x :: xs => by simp [depL, Tr.dep, depL_ints xs]
theorem dep_tI (xs : List Int) : (tI xs).dep = 1 := by simp [tI, Tr.dep, depL_ints]
theorem dep_tII (xss : List (List Int)) : (tII xss).dep ≤ 2 := by
  have : ∀ l : List (List Int), depL (l.map tI) ≤ 1 := by
    intro l; induction l with
    | nil => simp [depL]
    | cons a l ih => simp [depL, dep_tI]; omega
  simp only [tII, Tr.dep]; have := this xss; (first | exact om147 this | omega)

theorem idx_in {i : Int} {n : Nat} (h0 : 0 ≤ i) (h1 : i < n) : idxOf i n = some i.toNat := by
  unfold idxOf; rw [if_pos h0, if_pos h1]
theorem sub_ref {h : MH} {i : Nat} {b : Bool} {xs : List Val} {k : Int} {v : Val} (hs : seqOf h i = some (b, xs)) (h0 : 0 ≤ k) (hv : xs[k.toNat]? = some v) : subV h (.ref i) (.int k) = some v := by
  have hl : k.toNat < xs.length := (List.getElem?_eq_some_iff.mp hv).1
  simp only [subV, hs, Option.bind_some]
  rw [idx_in h0 (by (first | exact om148 hl | omega))]
  exact hv
theorem getD_map {xs : List Int} {k : Nat} (h : k < xs.length) : (xs.map Val.int)[k]? = some (.int (xs.getD k 0)) := by
  simp [h]
theorem len_rd {b : Nat} {h : MH} {ts : List Tr} {v : Val} (r : Rd b h (.lst ts) v) : biV h .len [v] = .ok (.int ts.length) h := by
  refine ob24 r.list fun a rs ez16x2 _ h3 h4 => ?_; subst ez16x2
  simp [biV, bi1, bi2, biL, biSum, biList, onRef, seqOf, h3, h4.length]
theorem len_rows {b : Nat} {h : MH} {xs : List (List Int)} {v : Val} (r : Rd b h (tII xs) v) : biV h .len [v] = .ok (.int xs.length) h := by
  rw [len_rd r]; simp

theorem newList_ok {xs : List Val} {h : MH} (hl : xs.length ≤ 1048576) : newList xs h = .ok (.ref h.length) (h ++ [.list xs]) := by
  unfold newList; rw [if_pos (by simpa [lim] using hl)]; rfl
theorem Rd.new {b : Nat} {h : MH} {ts : List Tr} {rs : List Val} (hb : b ≤ h.length) (r : RdL b h ts rs) : Rd b (h ++ [.list rs]) (.lst ts) (.ref h.length) :=
  .mkList hb (by simp) (r.mono (pre_app _ _))

theorem comp_tr {b : Nat} {f : Val → MH → Res (Option Val)} {ck : MH → Bool} (T : Val → Option Tr) {h0 : MH} (hck : ∀ h, h0 <+: h → ck h = true) : ∀ (xs : List Val) (h : MH), h0 <+: h →
    (∀ x ∈ xs, ∀ h, h0 <+: h → Wp (f x h) fun o h' => h <+: h' ∧ match T x, o with | some t, some v => Rd b h' t v | none, none => True | _, _ => False) →
    Wp (compLoop f ck xs h) fun vs h' => h <+: h' ∧ RdL b h' (xs.filterMap T) vs
  | [], h, p, _ => by simp only [compLoop, Wp_ok]; exact ⟨List.prefix_refl _, .nil⟩
  | x :: xs, h, p, hf => by
    simp only [compLoop, Wp_bind]
    refine (hf x (.head _) h p).mono fun o h1 q => ?_
    obtain ⟨q1, q2⟩ := q
    rw [if_pos (hck _ (p.trans q1)), Wp_bind]
    refine (comp_tr T hck xs h1 (p.trans q1) fun y hy => hf y (.tail _ hy)).mono fun vs h2 z => ?_
    obtain ⟨z1, z2⟩ := z
    simp only [Wp_ok, List.filterMap_cons]
    refine ⟨q1.trans z1, ?_⟩
    cases e : T x <;> cases o <;> rw [e] at q2 <;> simp only at q2 ⊢
    · exact z2
    · exact .cons (q2.mono z1) z2

theorem srcOf_list {h : MH} {i : Nat} {xs : List Val} (e : h[i]? = some (.list xs)) : srcOf h (.ref i) = some (xs, fun h' => decide (h'[i]? = some (.list xs))) := by simp [srcOf, e]
noncomputable def tlS (s : MStmt) : MStmt := match s with | .cons _ r => r | _ => .nil
noncomputable def dropS : Nat → MStmt → MStmt
  | 0, s => s
  | n + 1, s => dropS n (tlS s)

end Mine


-- part MDefs
set_option maxRecDepth 4000
namespace Mine
open PySem
noncomputable def f_law_whole : MFun := ⟨1, 1,
  (.cons (.ret (.and (.isinst .int (.loc 0)) (.un .Not (.isinst .bool (.loc 0)))))
  .nil)⟩
noncomputable def f_law_draws : MFun := ⟨2, 4,
  (.cons (.assign 2 (.lst .nil))
  (.cons (.fors (.loc 3) (.irange (.loc 1))
  (.cons (.assign 0 (.bin .Mod (.bin .Add (.bin .Mult (.loc 0) (.const (.int 48271))) (.const (.int 12345))) (.const (.int 2147483647))))
  (.cons (.expr (.meth .append (.loc 2) (.cons (.bin .FloorDiv (.loc 0) (.const (.int 16))) .nil)))
  .nil)))
  (.cons (.ret (.loc 2))
  .nil)))⟩
noncomputable def f_law_bid : MFun := ⟨2, 2,
  (.cons (.ifs (.cmp .Eq (.loc 1) (.const (.int 0)))
  (.cons (.ret (.bin .Mod (.loc 0) (.const (.int 3))))
  .nil)
  .nil)
  (.cons (.ifs (.cmp .Eq (.loc 1) (.const (.int 1)))
  (.cons (.ret (.bin .Mod (.loc 0) (.const (.int 100))))
  .nil)
  .nil)
  (.cons (.ifs (.cmp .Eq (.loc 1) (.const (.int 2)))
  (.cons (.ret (.bin .Mod (.loc 0) (.const (.int 1000000000001))))
  .nil)
  .nil)
  (.cons (.ret (.bin .Sub (.const (.int 1000000000000)) (.bin .Mult (.bin .Mod (.loc 0) (.const (.int 3))) (.bin .Add (.bin .Mult (.bin .Mod (.bin .FloorDiv (.loc 0) (.const (.int 3))) (.const (.int 2))) (.const (.int 499999999999))) (.const (.int 1))))))
  .nil))))⟩
noncomputable def f_is_number : MFun := ⟨1, 1,
  (.cons (.ret (.and (.isinst .int (.loc 0)) (.un .Not (.isinst .bool (.loc 0)))))
  .nil)⟩
noncomputable def f_is_place : MFun := ⟨2, 2,
  (.cons (.ret (.and (.call 1 (.cons (.loc 0) .nil)) (.cmp2 .LtE .Lt (.const (.int 0)) (.loc 0) (.loc 1))))
  .nil)⟩
noncomputable def f_need_bids : MFun := ⟨1, 2,
  (.cons (.fors (.loc 1) (.iobj (.loc 0))
  (.cons (.ifs (.or (.un .Not (.call 1 (.cons (.loc 1) .nil))) (.un .Not (.cmp2 .LtE .LtE (.const (.int 0)) (.loc 1) (.gconst (.int 1000000000000)))))
  (.cons (.raise 4)
  .nil)
  .nil)
  .nil))
  .nil)⟩
noncomputable def f_need_row : MFun := ⟨2, 2,
  (.cons (.ifs (.cmp .NotEq (.bi .len (.cons (.loc 0) .nil)) (.loc 1))
  (.cons (.raise 3)
  .nil)
  .nil)
  (.cons (.expr (.call 3 (.cons (.loc 0) .nil)))
  .nil))⟩
end Mine


-- part L09F
set_option maxRecDepth 4000
namespace Mine
open PySem
noncomputable def f_law_wrong : MFun := ⟨1, 1,
  (.cons (.ret (.sub (.lst (.cons (.un .USub (.const (.int 1))) (.cons (.const (.int 1000000000001)) (.cons (.const (.bool true)) (.cons (.const (.bool false)) (.cons (.const (.str [49])) (.cons (.const .none) (.cons (.lst (.cons (.const (.int 1)) .nil)) (.cons (.tup (.cons (.const (.int 1)) .nil)) .nil))))))))) (.bin .Mod (.loc 0) (.const (.int 8)))))
  .nil)⟩
noncomputable def f_law_line : MFun := ⟨3, 5,
  (.cons (.assign 3 (.comp (.call 25 (.cons (.sub (.loc 0) (.loc 4)) (.cons (.loc 2) .nil))) (.loc 4) (.irange (.loc 1)) (.const (.bool true))))
  (.cons (.ifs (.and (.cmp .Eq (.bin .Mod (.bin .Mod (.sub (.loc 0) (.const (.int 41))) (.const (.int 12))) (.const (.int 4))) (.const (.int 1))) (.and (.cmp .Lt (.bin .Mod (.sub (.loc 0) (.const (.int 41))) (.const (.int 12))) (.const (.int 6))) (.cmp .Gt (.loc 1) (.const (.int 0)))))
  (.cons (.asub (.loc 3) (.bin .Mod (.sub (.loc 0) (.const (.int 42))) (.loc 1)) (.call 58 (.cons (.sub (.loc 0) (.const (.int 43))) .nil)))
  .nil)
  .nil)
  (.cons (.ifs (.or (.cmp .Eq (.bin .Mod (.sub (.loc 0) (.const (.int 41))) (.const (.int 12))) (.const (.int 2))) (.cmp .Eq (.bin .Mod (.sub (.loc 0) (.const (.int 41))) (.const (.int 12))) (.const (.int 5))))
  (.cons (.expr (.meth .insert (.loc 3) (.cons (.bin .Mod (.sub (.loc 0) (.const (.int 42))) (.bin .Add (.loc 1) (.const (.int 1)))) (.cons (.const (.int 1)) .nil))))
  .nil)
  .nil)
  (.cons (.ifs (.and (.cmp .Eq (.bin .Mod (.sub (.loc 0) (.const (.int 41))) (.const (.int 12))) (.const (.int 3))) (.cmp .Gt (.loc 1) (.const (.int 0))))
  (.cons (.expr (.meth .pop (.loc 3) .nil))
  .nil)
  .nil)
  (.cons (.ret (.loc 3))
  .nil)))))⟩
noncomputable def f_law_place : MFun := ⟨2, 2,
  (.cons (.ifs (.cmp .Eq (.bin .Mod (.loc 0) (.const (.int 9))) (.const (.int 0)))
  (.cons (.ret (.sub (.lst (.cons (.loc 1) (.cons (.un .USub (.const (.int 1))) (.cons (.const (.bool true)) (.cons (.const (.bool false)) (.cons (.const .none) (.cons (.const (.str [48])) (.cons (.lst (.cons (.const (.int 0)) .nil)) (.cons (.tup (.cons (.const (.int 0)) .nil)) (.cons (.bin .Add (.bin .Add (.loc 1) (.const (.int 1))) (.bin .Mod (.bin .FloorDiv (.loc 0) (.const (.int 81))) (.const (.int 1000)))) .nil)))))))))) (.bin .Mod (.bin .FloorDiv (.loc 0) (.const (.int 9))) (.const (.int 9)))))
  .nil)
  .nil)
  (.cons (.ret (.bin .Mod (.bin .FloorDiv (.loc 0) (.const (.int 9))) (.bi .max (.cons (.const (.int 1)) (.cons (.loc 1) .nil)))))
  .nil))⟩
noncomputable def f09_law_fine : MFun := ⟨1, 1,
  (.cons (.ret (.and (.call 22 (.cons (.loc 0) .nil)) (.and (.cmp .GtE (.loc 0) (.const (.int 0))) (.cmp .LtE (.loc 0) (.const (.int 1000000000000))))))
  .nil)⟩
noncomputable def f_law_line_due : MFun := ⟨2, 3,
  (.cons (.ifs (.cmp .NotEq (.bi .len (.cons (.loc 0) .nil)) (.loc 1))
  (.cons (.ret (.const (.str [85, 110, 101, 118, 101, 110])))
  .nil)
  .nil)
  (.cons (.fors (.loc 2) (.iobj (.loc 0))
  (.cons (.ifs (.un .Not (.call 35 (.cons (.loc 2) .nil)))
  (.cons (.ret (.const (.str [66, 97, 100, 66, 105, 100])))
  .nil)
  .nil)
  .nil))
  (.cons (.ret (.const (.str [])))
  .nil)))⟩
noncomputable def f_law_is_place : MFun := ⟨2, 2,
  (.cons (.ret (.and (.call 22 (.cons (.loc 0) .nil)) (.and (.cmp .GtE (.loc 0) (.const (.int 0))) (.cmp .Lt (.loc 0) (.loc 1)))))
  .nil)⟩
noncomputable def f_law_deed : MFun := ⟨3, 6,
  (.cons (.assign 3 (.call 24 (.cons (.loc 0) (.cons (.const (.int 46)) .nil))))
  (.cons (.assign 4 (.bin .Mod (.bin .FloorDiv (.sub (.loc 3) (.const (.int 44))) (.const (.int 3))) (.const (.int 4))))
  (.cons (.ifs (.cmp .Lt (.bin .Mod (.loc 0) (.const (.int 16))) (.const (.int 4)))
  (.cons (.ret (.lst (.cons (.const (.str [99, 111, 109, 101])) (.cons (.call 59 (.cons (.loc 3) (.cons (.loc 2) (.cons (.loc 4) .nil)))) .nil))))
  .nil)
  .nil)
  (.cons (.ifs (.cmp .Eq (.bin .Mod (.loc 0) (.const (.int 16))) (.const (.int 4)))
  (.cons (.ret (.lst (.cons (.const (.str [108, 101, 97, 118, 101])) (.cons (.call 60 (.cons (.sub (.loc 3) (.const (.int 40))) (.cons (.bi .len (.cons (.loc 1) .nil)) .nil))) .nil))))
  .nil)
  .nil)
  (.cons (.ifs (.cmp .Lt (.bin .Mod (.loc 0) (.const (.int 16))) (.const (.int 9)))
  (.cons (.ret (.lst (.cons (.const (.str [112, 117, 116])) (.cons (.call 59 (.cons (.loc 3) (.cons (.bi .len (.cons (.loc 1) .nil)) (.cons (.loc 4) .nil)))) .nil))))
  .nil)
  .nil)
  (.cons (.ifs (.cmp .Eq (.bin .Mod (.loc 0) (.const (.int 16))) (.const (.int 9)))
  (.cons (.ret (.lst (.cons (.const (.str [116, 97, 107, 101])) (.cons (.call 60 (.cons (.sub (.loc 3) (.const (.int 40))) (.cons (.loc 2) .nil))) .nil))))
  .nil)
  .nil)
  (.cons (.ifs (.cmp .Lt (.bin .Mod (.loc 0) (.const (.int 16))) (.const (.int 13)))
  (.cons (.assign 5 (.call 25 (.cons (.sub (.loc 3) (.const (.int 39))) (.cons (.loc 4) .nil))))
  (.cons (.ifs (.cmp .Eq (.bin .Mod (.sub (.loc 3) (.const (.int 38))) (.const (.int 7))) (.const (.int 1)))
  (.cons (.assign 5 (.call 58 (.cons (.bin .FloorDiv (.sub (.loc 3) (.const (.int 38))) (.const (.int 7))) .nil)))
  .nil)
  .nil)
  (.cons (.ret (.lst (.cons (.const (.str [98, 105, 100])) (.cons (.call 60 (.cons (.sub (.loc 3) (.const (.int 40))) (.cons (.bi .len (.cons (.loc 1) .nil)) .nil))) (.cons (.call 60 (.cons (.sub (.loc 3) (.const (.int 45))) (.cons (.loc 2) .nil))) (.cons (.loc 5) .nil))))))
  .nil)))
  .nil)
  (.cons (.ret (.lst (.cons (.const (.str [98, 97, 99, 107])) .nil)))
  .nil))))))))⟩
noncomputable def f_law_due : MFun := ⟨3, 4,
  (.cons (.assign 3 (.sub (.loc 0) (.const (.int 0))))
  (.cons (.ifs (.cmp .Eq (.loc 3) (.const (.str [99, 111, 109, 101])))
  (.cons (.ifs (.cmp .Eq (.bi .len (.cons (.loc 1) .nil)) (.const (.int 9)))
  (.cons (.ret (.const (.str [84, 111, 111, 77, 97, 110, 121])))
  .nil)
  .nil)
  (.cons (.ret (.call 61 (.cons (.sub (.loc 0) (.const (.int 1))) (.cons (.loc 2) .nil))))
  .nil))
  .nil)
  (.cons (.ifs (.cmp .Eq (.loc 3) (.const (.str [112, 117, 116])))
  (.cons (.ifs (.cmp .Eq (.loc 2) (.const (.int 40)))
  (.cons (.ret (.const (.str [84, 111, 111, 77, 97, 110, 121])))
  .nil)
  .nil)
  (.cons (.ret (.call 61 (.cons (.sub (.loc 0) (.const (.int 1))) (.cons (.bi .len (.cons (.loc 1) .nil)) .nil))))
  .nil))
  .nil)
  (.cons (.ifs (.and (.or (.cmp .Eq (.loc 3) (.const (.str [108, 101, 97, 118, 101]))) (.cmp .Eq (.loc 3) (.const (.str [98, 105, 100])))) (.un .Not (.call 62 (.cons (.sub (.loc 0) (.const (.int 1))) (.cons (.bi .len (.cons (.loc 1) .nil)) .nil)))))
  (.cons (.ret (.const (.str [78, 111, 80, 101, 114, 115, 111, 110])))
  .nil)
  .nil)
  (.cons (.ifs (.and (.cmp .Eq (.loc 3) (.const (.str [116, 97, 107, 101]))) (.un .Not (.call 62 (.cons (.sub (.loc 0) (.const (.int 1))) (.cons (.loc 2) .nil)))))
  (.cons (.ret (.const (.str [78, 111, 71, 111, 111, 100])))
  .nil)
  .nil)
  (.cons (.ifs (.and (.cmp .Eq (.loc 3) (.const (.str [98, 105, 100]))) (.un .Not (.call 62 (.cons (.sub (.loc 0) (.const (.int 2))) (.cons (.loc 2) .nil)))))
  (.cons (.ret (.const (.str [78, 111, 71, 111, 111, 100])))
  .nil)
  .nil)
  (.cons (.ifs (.and (.cmp .Eq (.loc 3) (.const (.str [98, 105, 100]))) (.un .Not (.call 35 (.cons (.sub (.loc 0) (.const (.int 3))) .nil))))
  (.cons (.ret (.const (.str [66, 97, 100, 66, 105, 100])))
  .nil)
  .nil)
  (.cons (.ret (.const (.str [])))
  .nil))))))))⟩
noncomputable def f_law_behind : MFun := ⟨2, 8,
  (.cons (.assign 2 (.sub (.loc 0) (.const (.int 0))))
  (.cons (.ifs (.cmp .Eq (.loc 2) (.const (.str [99, 111, 109, 101])))
  (.cons (.ret (.bin .Add (.loc 1) (.lst (.cons (.bi .list (.cons (.sub (.loc 0) (.const (.int 1))) .nil)) .nil))))
  .nil)
  .nil)
  (.cons (.ifs (.cmp .Eq (.loc 2) (.const (.str [108, 101, 97, 118, 101])))
  (.cons (.ret (.comp (.sub (.loc 1) (.loc 4)) (.loc 4) (.irange (.bi .len (.cons (.loc 1) .nil))) (.cmp .NotEq (.loc 4) (.sub (.loc 0) (.const (.int 1))))))
  .nil)
  .nil)
  (.cons (.ifs (.cmp .Eq (.loc 2) (.const (.str [112, 117, 116])))
  (.cons (.ret (.comp (.bin .Add (.sub (.loc 1) (.loc 5)) (.lst (.cons (.sub (.sub (.loc 0) (.const (.int 1))) (.loc 5)) .nil))) (.loc 5) (.irange (.bi .len (.cons (.loc 1) .nil))) (.const (.bool true))))
  .nil)
  .nil)
  (.cons (.ifs (.cmp .Eq (.loc 2) (.const (.str [116, 97, 107, 101])))
  (.cons (.ret (.comp (.bin .Add (.slice (.loc 6) .nil (.cons (.sub (.loc 0) (.const (.int 1))) .nil)) (.slice (.loc 6) (.cons (.bin .Add (.sub (.loc 0) (.const (.int 1))) (.const (.int 1))) .nil) .nil)) (.loc 6) (.iobj (.loc 1)) (.const (.bool true))))
  .nil)
  .nil)
  (.cons (.assign 3 (.comp (.bi .list (.cons (.loc 7) .nil)) (.loc 7) (.iobj (.loc 1)) (.const (.bool true))))
  (.cons (.asub (.sub (.loc 3) (.sub (.loc 0) (.const (.int 1)))) (.sub (.loc 0) (.const (.int 2))) (.sub (.loc 0) (.const (.int 3))))
  (.cons (.ret (.loc 3))
  .nil))))))))⟩
noncomputable def f_law_do : MFun := ⟨2, 2,
  (.cons (.ifs (.cmp .Eq (.sub (.loc 1) (.const (.int 0))) (.const (.str [99, 111, 109, 101])))
  (.cons (.ret (.mcall 83 (.loc 0) (.cons (.sub (.loc 1) (.const (.int 1))) .nil)))
  .nil)
  .nil)
  (.cons (.ifs (.cmp .Eq (.sub (.loc 1) (.const (.int 0))) (.const (.str [108, 101, 97, 118, 101])))
  (.cons (.ret (.mcall 84 (.loc 0) (.cons (.sub (.loc 1) (.const (.int 1))) .nil)))
  .nil)
  .nil)
  (.cons (.ifs (.cmp .Eq (.sub (.loc 1) (.const (.int 0))) (.const (.str [112, 117, 116])))
  (.cons (.ret (.mcall 85 (.loc 0) (.cons (.sub (.loc 1) (.const (.int 1))) .nil)))
  .nil)
  .nil)
  (.cons (.ifs (.cmp .Eq (.sub (.loc 1) (.const (.int 0))) (.const (.str [116, 97, 107, 101])))
  (.cons (.ret (.mcall 86 (.loc 0) (.cons (.sub (.loc 1) (.const (.int 1))) .nil)))
  .nil)
  .nil)
  (.cons (.ifs (.cmp .Eq (.sub (.loc 1) (.const (.int 0))) (.const (.str [98, 105, 100])))
  (.cons (.ret (.mcall 87 (.loc 0) (.cons (.sub (.loc 1) (.const (.int 1))) (.cons (.sub (.loc 1) (.const (.int 2))) (.cons (.sub (.loc 1) (.const (.int 3))) .nil)))))
  .nil)
  .nil)
  (.cons (.ret (.mcall 88 (.loc 0) .nil))
  .nil))))))⟩
noncomputable def f09_law_told : MFun := ⟨2, 2,
  (.cons (.tryx (.cons (.ret (.call 65 (.cons (.loc 0) (.cons (.loc 1) .nil))))
  .nil) [(2, false, (.str [84, 111, 111, 77, 97, 110, 121])), (3, false, (.str [85, 110, 101, 118, 101, 110])), (4, false, (.str [66, 97, 100, 66, 105, 100])), (6, false, (.str [78, 111, 80, 101, 114, 115, 111, 110])), (7, false, (.str [78, 111, 71, 111, 111, 100]))])
  .nil)⟩
noncomputable def f_law_same : MFun := ⟨2, 4,
  (.cons (.ifs (.or (.un .Not (.isinst .list (.loc 0))) (.cmp .NotEq (.bi .len (.cons (.loc 0) .nil)) (.bi .len (.cons (.loc 1) .nil))))
  (.cons (.ret (.const (.bool false)))
  .nil)
  .nil)
  (.cons (.fors (.loc 2) (.iobj (.loc 0))
  (.cons (.ifs (.un .Not (.isinst .list (.loc 2)))
  (.cons (.ret (.const (.bool false)))
  .nil)
  .nil)
  (.cons (.fors (.loc 3) (.iobj (.loc 2))
  (.cons (.ifs (.un .Not (.call 22 (.cons (.loc 3) .nil)))
  (.cons (.ret (.const (.bool false)))
  .nil)
  .nil)
  .nil))
  .nil)))
  (.cons (.ret (.cmp .Eq (.loc 0) (.loc 1)))
  .nil)))⟩
noncomputable def f_law_fits : MFun := ⟨4, 4,
  (.cons (.ifs (.cmp .Eq (.loc 3) (.const (.str [98, 97, 99, 107])))
  (.cons (.ret (.and (.isinst .bool (.loc 0)) (.cmp .Eq (.loc 0) (.cmp .NotEq (.loc 2) (.lst .nil)))))
  .nil)
  .nil)
  (.cons (.ifs (.cmp .Eq (.loc 1) (.const (.str [])))
  (.cons (.ret (.cmp .Is (.loc 0) (.const .none)))
  .nil)
  .nil)
  (.cons (.ret (.and (.isinst .str (.loc 0)) (.cmp .Eq (.loc 0) (.loc 1))))
  .nil)))⟩
noncomputable def f_law_again : MFun := ⟨2, 2,
  (.cons (.tryx (.cons (.expr (.call 65 (.cons (.loc 0) (.cons (.loc 1) .nil))))
  .nil) [(7, false, (.str [78, 111, 71, 111, 111, 100])), (6, false, (.str [78, 111, 80, 101, 114, 115, 111, 110])), (4, false, (.str [66, 97, 100, 66, 105, 100])), (3, false, (.str [85, 110, 101, 118, 101, 110])), (2, false, (.str [84, 111, 111, 77, 97, 110, 121]))])
  (.cons (.ret (.const (.str [])))
  .nil))⟩
noncomputable def f_law_by_base : MFun := ⟨2, 2,
  (.cons (.tryx (.cons (.expr (.call 65 (.cons (.loc 0) (.cons (.loc 1) .nil))))
  .nil) [(0, true, (.bool true))])
  (.cons (.ret (.const (.bool false)))
  .nil))⟩
noncomputable def f_law_step : MFun := ⟨3, 11,
  (.cons (.assign 3 (.sub (.loc 1) (.const (.int 0))))
  (.cons (.assign 4 (.call 63 (.cons (.loc 2) (.cons (.loc 3) (.cons (.sub (.loc 1) (.const (.int 1))) .nil)))))
  (.cons (.assign 5 (.call 39 (.cons (.loc 4) (.cons (.loc 3) (.cons (.sub (.loc 1) (.const (.int 1))) .nil)))))
  (.cons (.assign 6 (.bi .list (.cons (.loc 4) .nil)))
  (.cons (.ifs (.or (.cmp .Eq (.sub (.loc 4) (.const (.int 0))) (.const (.str [99, 111, 109, 101]))) (.cmp .Eq (.sub (.loc 4) (.const (.int 0))) (.const (.str [112, 117, 116]))))
  (.cons (.asub (.loc 6) (.const (.int 1)) (.bi .list (.cons (.sub (.loc 4) (.const (.int 1))) .nil)))
  .nil)
  .nil)
  (.cons (.assign 7 (.call 31 (.cons (.loc 0) (.cons (.loc 4) .nil))))
  (.cons (.ifs (.or (.cmp .NotEq (.loc 4) (.loc 6)) (.un .Not (.call 66 (.cons (.loc 7) (.cons (.loc 5) (.cons (.sub (.loc 1) (.const (.int 2))) (.cons (.sub (.loc 4) (.const (.int 0))) .nil)))))))
  (.cons (.ret (.const (.bool false)))
  .nil)
  .nil)
  (.cons (.ifs (.and (.cmp .NotEq (.loc 5) (.const (.str []))) (.cmp .NotEq (.call 67 (.cons (.loc 0) (.cons (.loc 4) .nil))) (.loc 5)))
  (.cons (.ret (.const (.bool false)))
  .nil)
  .nil)
  (.cons (.ifs (.and (.cmp .NotEq (.loc 5) (.const (.str []))) (.un .Not (.call 43 (.cons (.loc 0) (.cons (.loc 4) .nil)))))
  (.cons (.ret (.const (.bool false)))
  .nil)
  .nil)
  (.cons (.ifs (.cmp .Eq (.sub (.loc 4) (.const (.int 0))) (.const (.str [98, 97, 99, 107])))
  (.cons (.ifs (.cmp .NotEq (.sub (.loc 1) (.const (.int 2))) (.lst .nil))
  (.cons (.asub2 (.loc 1) (.const (.int 0)) (.loc 1) (.const (.int 1)) (.meth .pop (.sub (.loc 1) (.const (.int 2))) .nil))
  .nil)
  .nil)
  .nil)
  (.cons (.ifs (.cmp .Eq (.loc 5) (.const (.str [])))
  (.cons (.expr (.meth .append (.sub (.loc 1) (.const (.int 2))) (.cons (.tup (.cons (.loc 3) (.cons (.sub (.loc 1) (.const (.int 1))) .nil))) .nil)))
  (.cons (.asub (.loc 1) (.const (.int 0)) (.call 64 (.cons (.loc 6) (.cons (.loc 3) .nil))))
  (.cons (.asub (.loc 1) (.const (.int 1)) (.bin .Sub (.bin .Add (.sub (.loc 1) (.const (.int 1))) (.bi .int (.cons (.cmp .Eq (.sub (.loc 4) (.const (.int 0))) (.const (.str [112, 117, 116]))) .nil))) (.bi .int (.cons (.cmp .Eq (.sub (.loc 4) (.const (.int 0))) (.const (.str [116, 97, 107, 101]))) .nil))))
  .nil)))
  .nil)
  .nil))
  (.cons (.ifs (.or (.cmp .Eq (.sub (.loc 4) (.const (.int 0))) (.const (.str [99, 111, 109, 101]))) (.cmp .Eq (.sub (.loc 4) (.const (.int 0))) (.const (.str [112, 117, 116]))))
  (.cons (.expr (.meth .append (.sub (.loc 4) (.const (.int 1))) (.cons (.const (.int 7)) .nil)))
  .nil)
  .nil)
  (.cons (.assign 8 (.mcall 89 (.loc 0) .nil))
  (.cons (.ifs (.un .Not (.call 45 (.cons (.loc 8) (.cons (.sub (.loc 1) (.const (.int 0))) .nil))))
  (.cons (.ret (.const (.bool false)))
  .nil)
  .nil)
  (.cons (.ifs (.cmp .Eq (.bin .Mod (.loc 2) (.const (.int 3))) (.const (.int 1)))
  (.cons (.expr (.meth .append (.sub (.loc 1) (.const (.int 3))) (.cons (.tup (.cons (.loc 8) (.cons (.comp (.bi .list (.cons (.loc 10) .nil)) (.loc 10) (.iobj (.loc 8)) (.const (.bool true))) .nil))) .nil)))
  (.cons (.ret (.const (.bool true)))
  .nil))
  .nil)
  (.cons (.fors (.loc 9) (.iobj (.loc 8))
  (.cons (.expr (.meth .append (.loc 9) (.cons (.const (.int 5)) .nil)))
  .nil))
  (.cons (.fors (.loc 9) (.iobj (.loc 8))
  (.cons (.ifs (.cmp .NotEq (.bi .len (.cons (.loc 9) .nil)) (.bin .Add (.sub (.loc 1) (.const (.int 1))) (.const (.int 1))))
  (.cons (.ret (.const (.bool false)))
  .nil)
  .nil)
  .nil))
  (.cons (.expr (.meth .append (.loc 8) (.cons (.lst .nil) .nil)))
  (.cons (.ret (.const (.bool true)))
  .nil))))))))))))))))))⟩
noncomputable def f_law_begin : MFun := ⟨3, 4,
  (.cons (.ifs (.cmp .Eq (.loc 2) (.const (.int 1)))
  (.cons (.fors (.loc 3) (.irange (.const (.int 38)))
  (.cons (.expr (.mcall 85 (.loc 0) (.cons (.lst .nil) .nil)))
  (.cons (.expr (.meth .append (.sub (.loc 1) (.const (.int 2))) (.cons (.tup (.cons (.lst .nil) (.cons (.loc 3) .nil))) .nil)))
  .nil)))
  (.cons (.asub (.loc 1) (.const (.int 1)) (.const (.int 38)))
  .nil))
  .nil)
  (.cons (.ifs (.cmp .Eq (.loc 2) (.const (.int 2)))
  (.cons (.expr (.mcall 85 (.loc 0) (.cons (.lst .nil) .nil)))
  (.cons (.expr (.mcall 83 (.loc 0) (.cons (.lst (.cons (.const (.int 0)) .nil)) .nil)))
  (.cons (.expr (.meth .append (.sub (.loc 1) (.const (.int 2))) (.cons (.tup (.cons (.lst .nil) (.cons (.const (.int 0)) .nil))) .nil)))
  (.cons (.expr (.meth .append (.sub (.loc 1) (.const (.int 2))) (.cons (.tup (.cons (.lst .nil) (.cons (.const (.int 1)) .nil))) .nil)))
  (.cons (.fors (.loc 3) (.irange (.const (.int 200)))
  (.cons (.expr (.mcall 87 (.loc 0) (.cons (.const (.int 0)) (.cons (.const (.int 0)) (.cons (.loc 3) .nil)))))
  (.cons (.expr (.meth .append (.sub (.loc 1) (.const (.int 2))) (.cons (.tup (.cons (.lst (.cons (.lst (.cons (.bin .Sub (.loc 3) (.bi .int (.cons (.cmp .Gt (.loc 3) (.const (.int 0))) .nil))) .nil)) .nil)) (.cons (.const (.int 1)) .nil))) .nil)))
  .nil)))
  (.cons (.asub (.loc 1) (.const (.int 0)) (.lst (.cons (.lst (.cons (.const (.int 199)) .nil)) .nil)))
  (.cons (.asub (.loc 1) (.const (.int 1)) (.const (.int 1)))
  .nil)))))))
  .nil)
  .nil))⟩
noncomputable def f_law_to_first : MFun := ⟨2, 4,
  (.cons (.fors (.loc 2) (.irange (.bi .len (.cons (.loc 1) .nil)))
  (.cons (.assign 3 (.mcall 88 (.loc 0) .nil))
  (.cons (.ifs (.or (.un .Not (.isinst .bool (.loc 3))) (.or (.un .Not (.loc 3)) (.cmp .NotEq (.mcall 89 (.loc 0) .nil) (.sub (.sub (.loc 1) (.bin .Sub (.bin .Sub (.bi .len (.cons (.loc 1) .nil)) (.const (.int 1))) (.loc 2))) (.const (.int 0))))))
  (.cons (.ret (.const (.bool false)))
  .nil)
  .nil)
  .nil)))
  (.cons (.assign 3 (.mcall 88 (.loc 0) .nil))
  (.cons (.ret (.and (.isinst .bool (.loc 3)) (.and (.un .Not (.loc 3)) (.cmp .Eq (.mcall 89 (.loc 0) .nil) (.lst .nil)))))
  .nil)))⟩
noncomputable def f_law : MFun := ⟨1, 7,
  (.cons (.assign 1 (.newT 79))
  (.cons (.expr (.mcall 85 (.loc 1) (.cons (.lst .nil) .nil)))
  (.cons (.expr (.mcall 83 (.loc 1) (.cons (.lst (.cons (.const (.int 3)) .nil)) .nil)))
  (.cons (.assign 2 (.newT 79))
  (.cons (.assign 3 (.lst (.cons (.lst .nil) (.cons (.const (.int 0)) (.cons (.lst .nil) (.cons (.lst .nil) .nil))))))
  (.cons (.ifs (.un .Not (.call 45 (.cons (.mcall 89 (.loc 2) .nil) (.cons (.lst .nil) .nil))))
  (.cons (.ret (.const (.bool false)))
  .nil)
  .nil)
  (.cons (.ifs (.cmp .Gt (.bi .len (.cons (.loc 0) .nil)) (.const (.int 0)))
  (.cons (.expr (.call 69 (.cons (.loc 2) (.cons (.loc 3) (.cons (.bin .Mod (.bin .FloorDiv (.sub (.loc 0) (.const (.int 0))) (.const (.int 16))) (.const (.int 8))) .nil)))))
  .nil)
  .nil)
  (.cons (.fors (.loc 4) (.iobj (.loc 0))
  (.cons (.ifs (.un .Not (.call 68 (.cons (.loc 2) (.cons (.loc 3) (.cons (.loc 4) .nil)))))
  (.cons (.ret (.const (.bool false)))
  .nil)
  .nil)
  .nil))
  (.cons (.ifs (.or (.un .Not (.call 45 (.cons (.mcall 89 (.loc 2) .nil) (.cons (.sub (.loc 3) (.const (.int 0))) .nil)))) (.un .Not (.call 45 (.cons (.mcall 89 (.loc 1) .nil) (.cons (.lst (.cons (.lst (.cons (.const (.int 3)) .nil)) .nil)) .nil)))))
  (.cons (.ret (.const (.bool false)))
  .nil)
  .nil)
  (.cons (.ret (.and (.call 70 (.cons (.loc 2) (.cons (.sub (.loc 3) (.const (.int 2))) .nil))) (.cmp .Eq (.compp (.const (.int 1)) 5 6 (.sub (.loc 3) (.const (.int 3))) (.cmp .NotEq (.loc 5) (.loc 6))) (.lst .nil))))
  .nil))))))))))⟩
noncomputable def f_T___init__ : MFun := ⟨1, 1,
  (.cons (.aattr (.loc 0) 0 (.lst .nil))
  (.cons (.aattr (.loc 0) 1 (.const (.int 0)))
  (.cons (.aattr (.loc 0) 2 (.lst .nil))
  .nil)))⟩
noncomputable def f_T_become : MFun := ⟨3, 3,
  (.cons (.expr (.meth .append (.attr (.loc 0) 2) (.cons (.tup (.cons (.attr (.loc 0) 0) (.cons (.attr (.loc 0) 1) .nil))) .nil)))
  (.cons (.aattr (.loc 0) 0 (.loc 1))
  (.cons (.aattr (.loc 0) 1 (.loc 2))
  .nil)))⟩
noncomputable def f_T_need_person : MFun := ⟨2, 2,
  (.cons (.ifs (.un .Not (.call 2 (.cons (.loc 1) (.cons (.bi .len (.cons (.attr (.loc 0) 0) .nil)) .nil))))
  (.cons (.raise 6)
  .nil)
  .nil)
  .nil)⟩
noncomputable def f_T_need_good : MFun := ⟨2, 2,
  (.cons (.ifs (.un .Not (.call 2 (.cons (.loc 1) (.cons (.attr (.loc 0) 1) .nil))))
  (.cons (.raise 7)
  .nil)
  .nil)
  .nil)⟩
noncomputable def f_T_come : MFun := ⟨2, 2,
  (.cons (.ifs (.cmp .GtE (.bi .len (.cons (.attr (.loc 0) 0) .nil)) (.gconst (.int 9)))
  (.cons (.raise 2)
  .nil)
  .nil)
  (.cons (.expr (.call 4 (.cons (.loc 1) (.cons (.attr (.loc 0) 1) .nil))))
  (.cons (.expr (.mcall 80 (.loc 0) (.cons (.bin .Add (.mcall 89 (.loc 0) .nil) (.lst (.cons (.bi .list (.cons (.loc 1) .nil)) .nil))) (.cons (.attr (.loc 0) 1) .nil))))
  .nil)))⟩
noncomputable def f_T_leave : MFun := ⟨2, 3,
  (.cons (.expr (.mcall 81 (.loc 0) (.cons (.loc 1) .nil)))
  (.cons (.assign 2 (.mcall 89 (.loc 0) .nil))
  (.cons (.expr (.meth .pop (.loc 2) (.cons (.loc 1) .nil)))
  (.cons (.expr (.mcall 80 (.loc 0) (.cons (.loc 2) (.cons (.attr (.loc 0) 1) .nil))))
  .nil))))⟩
noncomputable def f_T_put : MFun := ⟨2, 5,
  (.cons (.ifs (.cmp .GtE (.attr (.loc 0) 1) (.gconst (.int 40)))
  (.cons (.raise 2)
  .nil)
  .nil)
  (.cons (.expr (.call 4 (.cons (.loc 1) (.cons (.bi .len (.cons (.attr (.loc 0) 0) .nil)) .nil))))
  (.cons (.assign 2 (.compq (.bin .Add (.bi .list (.cons (.loc 3) .nil)) (.lst (.cons (.loc 4) .nil))) 3 4 (.attr (.loc 0) 0) (.loc 1)))
  (.cons (.expr (.mcall 80 (.loc 0) (.cons (.loc 2) (.cons (.bin .Add (.attr (.loc 0) 1) (.const (.int 1))) .nil))))
  .nil))))⟩
noncomputable def f_T_take : MFun := ⟨2, 4,
  (.cons (.expr (.mcall 82 (.loc 0) (.cons (.loc 1) .nil)))
  (.cons (.assign 2 (.comp (.bin .Add (.bi .list (.cons (.slice (.loc 3) .nil (.cons (.loc 1) .nil)) .nil)) (.bi .list (.cons (.slice (.loc 3) (.cons (.bin .Add (.loc 1) (.const (.int 1))) .nil) .nil) .nil))) (.loc 3) (.iobj (.attr (.loc 0) 0)) (.const (.bool true))))
  (.cons (.expr (.mcall 80 (.loc 0) (.cons (.loc 2) (.cons (.bin .Sub (.attr (.loc 0) 1) (.const (.int 1))) .nil))))
  .nil)))⟩
noncomputable def f_T_bid : MFun := ⟨4, 5,
  (.cons (.expr (.mcall 81 (.loc 0) (.cons (.loc 1) .nil)))
  (.cons (.expr (.mcall 82 (.loc 0) (.cons (.loc 2) .nil)))
  (.cons (.expr (.call 3 (.cons (.lst (.cons (.loc 3) .nil)) .nil)))
  (.cons (.assign 4 (.mcall 89 (.loc 0) .nil))
  (.cons (.asub (.sub (.loc 4) (.loc 1)) (.loc 2) (.loc 3))
  (.cons (.expr (.mcall 80 (.loc 0) (.cons (.loc 4) (.cons (.attr (.loc 0) 1) .nil))))
  .nil))))))⟩
noncomputable def f_T_back : MFun := ⟨1, 2,
  (.cons (.ifs (.cmp .Eq (.bi .len (.cons (.attr (.loc 0) 2) .nil)) (.const (.int 0)))
  (.cons (.ret (.const (.bool false)))
  .nil)
  .nil)
  (.cons (.assign 1 (.meth .pop (.attr (.loc 0) 2) .nil))
  (.cons (.aattr (.loc 0) 0 (.sub (.loc 1) (.const (.int 0))))
  (.cons (.aattr (.loc 0) 1 (.sub (.loc 1) (.const (.int 1))))
  (.cons (.ret (.const (.bool true)))
  .nil)))))⟩
noncomputable def f_T_rows : MFun := ⟨1, 2,
  (.cons (.ret (.comp (.bi .list (.cons (.loc 1) .nil)) (.loc 1) (.iobj (.attr (.loc 0) 0)) (.const (.bool true))))
  .nil)⟩
noncomputable def tab : List (Nat × MFun) := [(1, f_is_number), (2, f_is_place), (3, f_need_bids), (4, f_need_row), (22, f_law_whole), (24, f_law_draws), (25, f_law_bid), (58, f_law_wrong), (59, f_law_line), (60, f_law_place), (35, f09_law_fine), (61, f_law_line_due), (62, f_law_is_place), (63, f_law_deed), (39, f_law_due), (64, f_law_behind), (65, f_law_do), (31, f09_law_told), (45, f_law_same), (66, f_law_fits), (67, f_law_again), (43, f_law_by_base), (68, f_law_step), (69, f_law_begin), (70, f_law_to_first), (78, f_law), (79, f_T___init__), (80, f_T_become), (81, f_T_need_person), (82, f_T_need_good), (83, f_T_come), (84, f_T_leave), (85, f_T_put), (86, f_T_take), (87, f_T_bid), (88, f_T_back), (89, f_T_rows)]
noncomputable def F (f : Nat) : Option MFun := tab.lookup f
end Mine


-- part L09G
set_option maxRecDepth 4000
namespace Mine
open PySem
noncomputable def nm : Nat → List Str
  | 1 => [(PySem.Str.ofString "thing")]
  | 2 => [(PySem.Str.ofString "thing"), (PySem.Str.ofString "size")]
  | 3 => [(PySem.Str.ofString "row"), (PySem.Str.ofString "amount")]
  | 4 => [(PySem.Str.ofString "row"), (PySem.Str.ofString "size")]
  | 22 => [(PySem.Str.ofString "_law_found")]
  | 24 => [(PySem.Str.ofString "_law_cell"), (PySem.Str.ofString "_law_many"), (PySem.Str.ofString "_law_found"), (PySem.Str.ofString "_law_k")]
  | 25 => [(PySem.Str.ofString "_law_cell"), (PySem.Str.ofString "_law_kind")]
  | 58 => [(PySem.Str.ofString "_law_cell")]
  | 59 => [(PySem.Str.ofString "_law_draws_here"), (PySem.Str.ofString "_law_many"), (PySem.Str.ofString "_law_kind"), (PySem.Str.ofString "_law_line_here")]
  | 60 => [(PySem.Str.ofString "_law_draw"), (PySem.Str.ofString "_law_many")]
  | 35 => [(PySem.Str.ofString "_law_one")]
  | 61 => [(PySem.Str.ofString "_law_line_here"), (PySem.Str.ofString "_law_many"), (PySem.Str.ofString "_law_one")]
  | 62 => [(PySem.Str.ofString "_law_one"), (PySem.Str.ofString "_law_many")]
  | 63 => [(PySem.Str.ofString "_law_cell"), (PySem.Str.ofString "_law_rows"), (PySem.Str.ofString "_law_goods"), (PySem.Str.ofString "_law_draws_here"), (PySem.Str.ofString "_law_kind"), (PySem.Str.ofString "_law_amount")]
  | 39 => [(PySem.Str.ofString "_law_deed_here"), (PySem.Str.ofString "_law_rows"), (PySem.Str.ofString "_law_goods"), (PySem.Str.ofString "_law_word")]
  | 64 => [(PySem.Str.ofString "_law_deed_here"), (PySem.Str.ofString "_law_rows"), (PySem.Str.ofString "_law_word"), (PySem.Str.ofString "_law_found")]
  | 65 => [(PySem.Str.ofString "_law_table"), (PySem.Str.ofString "_law_deed_here")]
  | 31 => [(PySem.Str.ofString "_law_table"), (PySem.Str.ofString "_law_deed_here")]
  | 45 => [(PySem.Str.ofString "_law_found"), (PySem.Str.ofString "_law_rows"), (PySem.Str.ofString "_law_row"), (PySem.Str.ofString "_law_one")]
  | 66 => [(PySem.Str.ofString "_law_found"), (PySem.Str.ofString "_law_due_here"), (PySem.Str.ofString "_law_past"), (PySem.Str.ofString "_law_word")]
  | 67 => [(PySem.Str.ofString "_law_table"), (PySem.Str.ofString "_law_deed_here")]
  | 43 => [(PySem.Str.ofString "_law_table"), (PySem.Str.ofString "_law_deed_here")]
  | 68 => [(PySem.Str.ofString "_law_table"), (PySem.Str.ofString "_law_state"), (PySem.Str.ofString "_law_cell"), (PySem.Str.ofString "_law_rows"), (PySem.Str.ofString "_law_deed_here"), (PySem.Str.ofString "_law_due_here"), (PySem.Str.ofString "_law_kept"), (PySem.Str.ofString "_law_found"), (PySem.Str.ofString "_law_told_here"), (PySem.Str.ofString "_law_row")]
  | 69 => [(PySem.Str.ofString "_law_table"), (PySem.Str.ofString "_law_state"), (PySem.Str.ofString "_law_way"), (PySem.Str.ofString "_law_k")]
  | 70 => [(PySem.Str.ofString "_law_table"), (PySem.Str.ofString "_law_past"), (PySem.Str.ofString "_law_at"), (PySem.Str.ofString "_law_found")]
  | 78 => [(PySem.Str.ofString "_law_script"), (PySem.Str.ofString "_law_beside"), (PySem.Str.ofString "_law_table"), (PySem.Str.ofString "_law_state"), (PySem.Str.ofString "_law_cell")]
  | 79 => [(PySem.Str.ofString "self")]
  | 80 => [(PySem.Str.ofString "self"), (PySem.Str.ofString "bids"), (PySem.Str.ofString "goods")]
  | 81 => [(PySem.Str.ofString "self"), (PySem.Str.ofString "person")]
  | 82 => [(PySem.Str.ofString "self"), (PySem.Str.ofString "good")]
  | 83 => [(PySem.Str.ofString "self"), (PySem.Str.ofString "row")]
  | 84 => [(PySem.Str.ofString "self"), (PySem.Str.ofString "person"), (PySem.Str.ofString "bids")]
  | 85 => [(PySem.Str.ofString "self"), (PySem.Str.ofString "column"), (PySem.Str.ofString "bids")]
  | 86 => [(PySem.Str.ofString "self"), (PySem.Str.ofString "good"), (PySem.Str.ofString "bids")]
  | 87 => [(PySem.Str.ofString "self"), (PySem.Str.ofString "person"), (PySem.Str.ofString "good"), (PySem.Str.ofString "amount"), (PySem.Str.ofString "bids")]
  | 88 => [(PySem.Str.ofString "self"), (PySem.Str.ofString "before")]
  | 89 => [(PySem.Str.ofString "self")]
  | _ => []
noncomputable def exs : List Nat := [0, 2, 3, 4, 6, 7]
noncomputable def gm : GMap := [((PySem.Str.ofString "is_number"), .fn 1),
  ((PySem.Str.ofString "is_place"), .fn 2),
  ((PySem.Str.ofString "need_bids"), .fn 3),
  ((PySem.Str.ofString "need_row"), .fn 4),
  ((PySem.Str.ofString "_law_whole"), .fn 22),
  ((PySem.Str.ofString "_law_draws"), .fn 24),
  ((PySem.Str.ofString "_law_bid"), .fn 25),
  ((PySem.Str.ofString "_law_wrong"), .fn 58),
  ((PySem.Str.ofString "_law_line"), .fn 59),
  ((PySem.Str.ofString "_law_place"), .fn 60),
  ((PySem.Str.ofString "_law_fine"), .fn 35),
  ((PySem.Str.ofString "_law_line_due"), .fn 61),
  ((PySem.Str.ofString "_law_is_place"), .fn 62),
  ((PySem.Str.ofString "_law_deed"), .fn 63),
  ((PySem.Str.ofString "_law_due"), .fn 39),
  ((PySem.Str.ofString "_law_behind"), .fn 64),
  ((PySem.Str.ofString "_law_do"), .fn 65),
  ((PySem.Str.ofString "_law_told"), .fn 31),
  ((PySem.Str.ofString "_law_same"), .fn 45),
  ((PySem.Str.ofString "_law_fits"), .fn 66),
  ((PySem.Str.ofString "_law_again"), .fn 67),
  ((PySem.Str.ofString "_law_by_base"), .fn 43),
  ((PySem.Str.ofString "_law_step"), .fn 68),
  ((PySem.Str.ofString "_law_begin"), .fn 69),
  ((PySem.Str.ofString "_law_to_first"), .fn 70),
  ((PySem.Str.ofString "law"), .fn 78),
  ((PySem.Str.ofString "Table"), .tab 79),
  ((PySem.Str.ofString "Table.become"), .meth 80),
  ((PySem.Str.ofString "Table.need_person"), .meth 81),
  ((PySem.Str.ofString "Table.need_good"), .meth 82),
  ((PySem.Str.ofString "Table.come"), .meth 83),
  ((PySem.Str.ofString "Table.leave"), .meth 84),
  ((PySem.Str.ofString "Table.put"), .meth 85),
  ((PySem.Str.ofString "Table.take"), .meth 86),
  ((PySem.Str.ofString "Table.bid"), .meth 87),
  ((PySem.Str.ofString "Table.back"), .meth 88),
  ((PySem.Str.ofString "Table.rows"), .meth 89),
  ((PySem.Str.ofString "MOST_PEOPLE"), .const (.int 9)),
  ((PySem.Str.ofString "MOST_GOODS"), .const (.int 40)),
  ((PySem.Str.ofString "MOST_BID"), .const (.int 1000000000000)),
  ((PySem.Str.ofString "len"), .bi "len"),
  ((PySem.Str.ofString "max"), .bi "max"),
  ((PySem.Str.ofString "isinstance"), .bi "isinstance"),
  ((PySem.Str.ofString "int"), .ty "int"),
  ((PySem.Str.ofString "str"), .ty "str"),
  ((PySem.Str.ofString "list"), .ty "list"),
  ((PySem.Str.ofString "bool"), .ty "bool"),
  ((PySem.Str.ofString "range"), .ty "range"),
  ((PySem.Str.ofString "zip"), .ty "zip"),
  ((PySem.Str.ofString "ValueError"), .ty "ValueError"),
  ((PySem.Str.ofString "SplitError"), .cls 0),
  ((PySem.Str.ofString "TooMany"), .cls 2),
  ((PySem.Str.ofString "Uneven"), .cls 3),
  ((PySem.Str.ofString "BadBid"), .cls 4),
  ((PySem.Str.ofString "NoPerson"), .cls 6),
  ((PySem.Str.ofString "NoGood"), .cls 7)]
end Mine


-- part LibA
set_option maxRecDepth 4000
set_option linter.unusedVariables false
set_option linter.unusedSimpArgs false
namespace Mine

theorem forLoop_pure {f : Val → Rho → MH → Res (MFlow × Rho)} {ck : MH → Bool} {h : MH} (P : Rho → Prop) (hc : ck h = true) : ∀ (xs : List Val) (ρ : Rho), (∀ x ∈ xs, ∀ ρ, P ρ → ∃ ρ', f x ρ h = .ok (.next, ρ') h ∧ P ρ') → P ρ →
    ∃ ρ', forLoop f ck xs ρ h = .ok (.next, ρ') h ∧ P ρ'
  | [], ρ, _, p => ⟨ρ, rfl, p⟩
  | x :: xs, ρ, hf, p => by
    refine ob12 (hf x (.head _) ρ p) fun ρ1 e p1 => ?_
    refine ob12 (forLoop_pure P hc xs ρ1 (fun y hy => hf y (.tail _ hy)) p1) fun ρ2 e2 p2 => ?_
    refine ⟨ρ2, ?_, p2⟩
    rw [forLoop, e]
    simp only [Res.bind_ok, hc, if_true, e2]

theorem comp_range {f : Val → MH → Res (Option Val)} {ck : MH → Bool} {m : Nat} {h : MH} (g : Nat → Option Val) (hf : ∀ j, j < m → f (.int j) h = .ok (g j) h) (hc : ck h = true) : compLoop f ck (rangeVals 0 m) h = .ok ((List.range m).filterMap g) h := by
  rw [compLoop_pure (fun v => match v with | .int j => g j.toNat | _ => none) _ ?_ hc]
  · rw [rangeVals_eq, List.filterMap_map]
    congr 1
    congr 1
    funext j
    simp
  · intro x hx
    rw [rangeVals_eq] at hx
    refine ob12 (List.mem_map.mp hx) fun j hj ez2x2 => ?_; subst ez2x2
    simp at hj
    simpa using hf j hj
theorem irange_ok {m : Nat} {h : MH} (hm : m ≤ 1000000) : irangeV (.int m) h = .ok (rangeVals 0 m, fun _ => true) h := by
  simp [irangeV, rangeOk, lim, show ((m : Int) ≤ 1048576) by (first | exact om149 hm | omega), show (-1048576 ≤ (m : Int)) by (first | exact om150 | omega)]

section
variable {F : Nat → Option MFun} {W n : Nat} {h : MH} {b : Nat}

noncomputable def cellI (xs : List Int) (k : Int) : Int :=
  if k < xs.length then xs.getD k.toNat 0 else if xs.length = 0 then k * 7919 else (xs.getD (k * 7 % xs.length).toNat 0 * 48271 + k * 7919) % 2147483647

noncomputable def drawsI : Nat → Int → List Int
  | 0, _ => []
  | n + 1, c => (c * 48271 + 12345) % 2147483647 / 16 :: drawsI n ((c * 48271 + 12345) % 2147483647)
theorem drawsI_len : ∀ n c, (drawsI n c).length = n
  | 0, _ => rfl
  | n + 1, c => by simp [drawsI, drawsI_len n]
theorem draws_eq (hF : F 24 = some f_law_draws) {c : Int} {m : Nat} (hm : m ≤ 1000000) : callN F W (n + 1) 24 [.int c, .int m] h = .ok (.ref h.length) (h ++ [.list ((drawsI m c).map .int)]) := by
  rw [callN_def hF rfl]
  have key : ∀ (M : Int) (m : Nat) (a : Int) (c : Int) (acc : List Int) (o : Option Val), acc.length + m ≤ 1000000 →
      ∃ ρ : Option Val × Option Val, forLoop (forStep (.loc 3) (exec (callN F W n) W (.cons (.assign 0 (.bin .Mod (.bin .Add (.bin .Mult (.loc 0) (.const (.int 48271))) (.const (.int 12345))) (.const (.int 2147483647))))
        (.cons (.expr (.meth .append (.loc 2) (.cons (.bin .FloorDiv (.loc 0) (.const (.int 16))) .nil))) .nil)))) (fun _ => true) (rangeVals a m) [some (.int c), some (.int M), some (.ref h.length), o] (h ++ [.list (acc.map .int)])
        = .ok (.next, [ρ.1, some (.int M), some (.ref h.length), ρ.2]) (h ++ [.list ((acc ++ drawsI m c).map .int)]) := by
    intro M m
    induction m with
    | zero => intro a c acc o hl; exact ⟨(some (.int c), o), by simp [rangeVals, forLoop, drawsI]⟩
    | succ m ih =>
      intro a c acc o hl
      obtain ⟨ρ, e⟩ := ih (a + 1) ((c * 48271 + 12345) % 2147483647) (acc ++ [(c * 48271 + 12345) % 2147483647 / 16]) (some (.int a)) (by simp; (first | exact om157 hl | omega))
      refine ⟨ρ, ?_⟩
      rw [rangeVals, forLoop]
      simp [forStep, bindTgt, mulOk, meOk, isLV, isListAt, meV, meApp, onL, arg1, lim]
      rw [if_pos (by (first | exact om158 hl | omega))]
      simp
      simpa [drawsI] using e
  obtain ⟨ρ, e⟩ := key m m 0 c [] none (by simp; (first | exact om159 hm | omega))
  simp [f_law_draws, newList, newObj, lim, irange_ok hm]
  simp at e
  rw [e]
  simp

noncomputable def bidI (c k : Int) : Int := if k = 0 then c % 3 else if k = 1 then c % 100 else if k = 2 then c % 1000000000001 else 1000000000000 - c % 3 * (c / 3 % 2 * 499999999999 + 1)
theorem bid_eq (hF : F 25 = some f_law_bid) {c k : Int} : callN F W (n + 1) 25 [.int c, .int k] h = .ok (.int (bidI c k)) h := by
  rw [callN_def hF rfl]
  have : (c % 3).natAbs < 9223372036854775808 := by omega
  unfold bidI
  by_cases h0 : k = 0
  · simp [f_law_bid, h0]
  · by_cases h1 : k = 1
    · simp [f_law_bid, h0, h1]
    · by_cases h2 : k = 2
      · simp [f_law_bid, h0, h1, h2]
      · simp [f_law_bid, h0, h1, h2, mulOk, this]

theorem whole_int (hF : F 22 = some f_law_whole) {c : Int} : callN F W (n + 1) 22 [.int c] h = .ok (.bool true) h := by
  rw [callN_def hF rfl]
  simp [f_law_whole, isInstV, unV]
noncomputable def wI (row heap : List Int) : Int := (heap.map fun y => row.getD y.toNat 0).sum

end
end Mine


-- part LibB
set_option maxRecDepth 4000
set_option linter.unusedVariables false
set_option linter.unusedSimpArgs false
namespace Mine
section
variable {F : Nat → Option MFun} {W n : Nat} {h : MH} {b : Nat}

theorem RdL.mem {b : Nat} {h : MH} : ∀ {ts : List Tr} {vs : List Val} {v : Val}, RdL b h ts vs → v ∈ vs → ∃ t ∈ ts, Rd b h t v
  | [], vs, v, r, e => by rw [RdL] at r; subst r; cases e
  | t :: ts, vs, v, r, e => by
    rw [RdL] at r; refine ob23 r fun w ws ez0x2 h2 h3 => ?_; clear r; subst ez0x2
    rcases List.mem_cons.mp e with rfl | e
    · exact ⟨t, .head _, h2⟩
    · refine ob12 (h3.mem e) fun t' m q => ?_; exact ⟨t', .tail _ m, q⟩

/-- bids as the laws build them: p people, m goods -/
structure Bids (bids : List (List Int)) (p m : Nat) : Prop where
  np : bids.length = p
  row : ∀ r ∈ bids, r.length = m ∧ ∀ x ∈ r, 0 ≤ x ∧ x ≤ 1000000000000

theorem Bids.at {bids : List (List Int)} {p m : Nat} (B : Bids bids p m) {k : Nat} (hk : k < p) : (bids.getD k []).length = m ∧ ∀ x ∈ bids.getD k [], 0 ≤ x ∧ x ≤ 1000000000000 := by
  have : k < bids.length := by rw [B.np]; exact hk
  have e : bids.getD k [] = bids[k] := by simp [List.getD_eq_getElem?_getD, this]
  rw [e]; exact B.row _ (List.getElem_mem this)

structure Heaps (heaps : List (List Int)) (p m : Nat) : Prop where
  np : heaps.length = p
  good : ∀ z ∈ heaps, (∀ g ∈ z, 0 ≤ g ∧ g < m) ∧ z.length ≤ 1000
theorem Heaps.at {heaps : List (List Int)} {p m : Nat} (B : Heaps heaps p m) {k : Nat} (hk : k < p) : (∀ g ∈ heaps.getD k [], 0 ≤ g ∧ g < m) ∧ (heaps.getD k []).length ≤ 1000 := by
  have : k < heaps.length := by rw [B.np]; exact hk
  have e : heaps.getD k [] = heaps[k] := by simp [List.getD_eq_getElem?_getD, this]
  rw [e]; exact B.good _ (List.getElem_mem this)

end
end Mine


-- part LibC
set_option maxRecDepth 4000
set_option linter.unusedVariables false
set_option linter.unusedSimpArgs false
namespace Mine

theorem seqOf_pre {h h' : MH} (p : h <+: h') {i : Nat} {q : Bool × List Val} (e : seqOf h i = some q) : seqOf h' i = some q := by
  unfold seqOf at e ⊢
  cases g : h[i]? with
  | none => rw [g] at e; cases e
  | some o => rw [g] at e; rw [get_pre p g]; exact e

theorem rangeVals_mem {a : Int} {n : Nat} {x : Val} (h : x ∈ rangeVals a n) : ∃ j : Nat, j < n ∧ x = .int (a + j) := by
  rw [rangeVals_eq] at h
  refine ob12 (List.mem_map.mp h) fun j hj ez0x2 => ?_; subst ez0x2
  exact ⟨j, by simpa using hj, rfl⟩

section
variable {F : Nat → Option MFun} {W n : Nat} {h : MH} {b : Nat}

theorem append_ok {h : MH} {i : Nat} {xs : List Val} {v : Val} (e : h[i]? = some (.list xs)) (hl : xs.length ≤ 1000000) : meV h .append (.ref i) [v] = .ok .none (h.set i (.list (xs ++ [v]))) := by
  simp only [meV, meApp, onL, arg1, e]; rw [if_pos (by show xs.length < 1048576; (first | exact om179 hl | omega))]
theorem meOk_append {h : MH} {i : Nat} {xs : List Val} (e : h[i]? = some (.list xs)) : meOk h .append (.ref i) = true := by simp [meOk, isLV, isListAt, e]

/-- a comprehension over range(m), no test, whose elements are trees -/
theorem comp_rng {f : Val → MH → Res (Option Val)} {m : Nat} {h : MH} (T : Nat → Tr) (hf : ∀ j, j < m → ∀ h', h <+: h' → Wp (f (.int j) h') fun o h'' => h' <+: h'' ∧ ∃ v, o = some v ∧ Rd b h'' (T j) v) :
    Wp (compLoop f (fun _ => true) (rangeVals 0 m) h) fun vs h' => h <+: h' ∧ RdL b h' ((List.range m).map T) vs := by
  refine (comp_tr (b := b) (fun v => match v with | .int j => some (T j.toNat) | _ => none) (h0 := h) (fun _ _ => rfl) (rangeVals 0 m) h (List.prefix_refl _) fun x hx h' p => ?_).mono fun vs h' q => ⟨q.1, ?_⟩
  · refine ob12 (rangeVals_mem hx) fun j hj ez1x2 => ?_; subst ez1x2
    simp only [Int.zero_add]
    refine (hf j hj h' p).mono fun o h'' q => ⟨q.1, ?_⟩
    refine ob12 q.2 fun v ez2x1 r => ?_; subst ez2x1
    simpa using r
  · have e : (rangeVals 0 m).filterMap (fun v => match v with | .int j => some (T j.toNat) | _ => none) = (List.range m).map T := by
      rw [rangeVals_eq, List.filterMap_map, ← List.filterMap_eq_map]
      congr 1; funext j; simp
    rw [← e]; exact q.2

noncomputable def gainsI (bids heaps : List (List Int)) (sums : List Int) (p : Nat) : List Int := (List.range p).map fun k => wI (bids.getD k []) (heaps.getD k []) * p - sums.getD k 0

noncomputable def rowI (xs : List Int) (first : Int) (m : Nat) (kind : Int) (i : Nat) : List Int := (List.range m).map fun j : Nat => bidI (cellI xs (first + m * i + j)) kind
noncomputable def bidsI (xs : List Int) (first : Int) (p m : Nat) (kind : Int) : List (List Int) := (List.range p).map (rowI xs first m kind)
end
end Mine


-- part LibD
set_option maxRecDepth 4000
set_option linter.unusedVariables false
set_option linter.unusedSimpArgs false
namespace Mine

/-- a comprehension over a list read as trees, no test -/
theorem comp_rdl {b b' : Nat} {f : Val → MH → Res (Option Val)} {ck : MH → Bool} (T : Tr → Tr) {h0 : MH} (hck : ∀ h, h0 <+: h → ck h = true) : ∀ (ts : List Tr) (xs : List Val) (h : MH), h0 <+: h → RdL b h0 ts xs →
    (∀ t ∈ ts, ∀ x h, h0 <+: h → Rd b h0 t x → Wp (f x h) fun o h' => h <+: h' ∧ ∃ v, o = some v ∧ Rd b' h' (T t) v) →
    Wp (compLoop f ck xs h) fun vs h' => h <+: h' ∧ RdL b' h' (ts.map T) vs
  | [], xs, h, p, r, _ => by rw [RdL] at r; subst r; simp only [compLoop, Wp_ok]; exact ⟨List.prefix_refl _, .nil⟩
  | t :: ts, xs, h, p, r, hf => by
    rw [RdL] at r; refine ob23 r fun x xs ez0x2 r1 r2 => ?_; clear r; subst ez0x2
    simp only [compLoop, Wp_bind]
    refine (hf t (.head _) x h p r1).mono fun o h1 q => ?_
    refine ob02 q fun q1 wz1 => ?_; clear q; refine ob12 wz1 fun v ez0x1 rv => ?_; clear wz1; subst ez0x1
    rw [if_pos (hck _ (p.trans q1)), Wp_bind]
    refine (comp_rdl T hck ts xs h1 (p.trans q1) r2 fun t ht => hf t (.tail _ ht)).mono fun vs h2 z => ?_
    simp only [Wp_ok, List.map_cons]
    exact ⟨q1.trans z.1, .cons (rv.mono z.1) z.2⟩

noncomputable def HP (h : MH) (hs : List (List Int)) (t : MH) : MH := h ++ (hs.map fun z => MObj.list (z.map .int)) ++ t
theorem HP_get {h : MH} {hs : List (List Int)} {t : MH} {q : Nat} (hq : q < hs.length) : (HP h hs t)[h.length + q]? = some (.list ((hs.getD q []).map .int)) := by
  unfold HP
  rw [List.append_assoc, List.getElem?_append_right (by (first | exact om184 | omega)), show h.length + q - h.length = q by (first | exact om185 | omega), List.getElem?_append_left (by simpa using hq)]
  simp [hq]
theorem HP_set {h : MH} {hs : List (List Int)} {t : MH} {q : Nat} {z : List Int} (hq : q < hs.length) : (HP h hs t).set (h.length + q) (.list (z.map .int)) = HP h (hs.set q z) t := by
  unfold HP
  rw [List.append_assoc, List.set_append_right _ _ (by (first | exact om184 | omega)), show h.length + q - h.length = q by (first | exact om185 | omega), List.set_append_left _ _ (by simpa using hq), List.map_set, List.append_assoc]
theorem HP_out {h : MH} {hs : List (List Int)} {o : MObj} {t : MH} : (HP h hs (o :: t))[h.length + hs.length]? = some o := by
  unfold HP
  rw [List.append_assoc, List.getElem?_append_right (by (first | exact om184 | omega)), show h.length + hs.length - h.length = hs.length by (first | exact om185 | omega), List.getElem?_append_right (by simp)]
  simp
theorem HP_pre {h : MH} {hs : List (List Int)} {t : MH} : h <+: HP h hs t := by unfold HP; rw [List.append_assoc]; exact pre_app _ _
theorem HP_rd {h : MH} {hs : List (List Int)} {t : MH} : Rd h.length (HP h hs (.list ((List.range hs.length).map fun k => .ref (h.length + k)) :: t)) (tII hs) (.ref (h.length + hs.length)) := by
  refine Rd.mkList (by (first | exact om184 | omega)) HP_out ?_
  generalize hH : HP h hs (.list ((List.range hs.length).map fun k => .ref (h.length + k)) :: t) = H
  have g : ∀ q, q < hs.length → H[h.length + q]? = some (.list ((hs.getD q []).map .int)) := fun q hq => by rw [← hH]; exact HP_get hq
  clear hH
  have key : ∀ (l : List (List Int)) (s : Nat), (∀ q, q < l.length → H[h.length + (s + q)]? = some (.list ((l.getD q []).map .int))) → RdL h.length H (l.map tI) ((List.range l.length).map fun k => .ref (h.length + (s + k))) := by
    intro l
    induction l with
    | nil => intro s _; exact .nil
    | cons z l ih =>
      intro s hg
      rw [List.length_cons, List.range_succ_eq_map, List.map_cons, List.map_cons, List.map_map]
      refine .cons (Rd.mkInts (by (first | exact om188 | omega)) (by simpa using hg 0 (by simp))) ?_
      have := ih (s + 1) fun q hq => by
        have := hg (q + 1) (by simpa using hq)
        rw [show s + 1 + q = s + (q + 1) by (first | exact om183 | omega)]; simpa using this
      have e : ((fun k => Val.ref (h.length + (s + k))) ∘ Nat.succ) = fun k => Val.ref (h.length + (s + 1 + k)) := by
        funext k; simp; (first | exact om189 | omega)
      rw [e]; exact this
  have := key hs 0 (by simpa using g)
  simpa using this

structure GoodH (hs : List (List Int)) (p m L : Nat) : Prop where
  np : hs.length = p
  good : ∀ z ∈ hs, (∀ g ∈ z, 0 ≤ g ∧ g < (m : Int)) ∧ z.length ≤ L
theorem GoodH.push {hs : List (List Int)} {p m L : Nat} (G : GoodH hs p m L) {q : Nat} {g : Int} (hq : q < p) (h0 : 0 ≤ g) (h1 : g < m) : GoodH (hs.set q (hs.getD q [] ++ [g])) p m (L + 1) := by
  refine ⟨by simp [G.np], fun z hz => ?_⟩
  rcases List.mem_or_eq_of_mem_set hz with hz | rfl
  · have := G.good z hz; exact ⟨this.1, by omega⟩
  · have hm : hs.getD q [] ∈ hs := by
      have : q < hs.length := by rw [G.np]; exact hq
      rw [List.getD_eq_getElem?_getD, List.getElem?_eq_getElem this]; exact List.getElem_mem this
    have := G.good _ hm
    refine ⟨fun g' hg => ?_, by simp; simp at this; omega⟩
    rcases List.mem_append.mp hg with hg | hg
    · exact this.1 _ hg
    · simp at hg; subst hg; exact ⟨h0, h1⟩
theorem GoodH.le {hs : List (List Int)} {p m L L' : Nat} (G : GoodH hs p m L) (h : L ≤ L') : GoodH hs p m L' := ⟨G.np, fun z hz => ⟨(G.good z hz).1, Nat.le_trans (G.good z hz).2 h⟩⟩
theorem GoodH.at {hs : List (List Int)} {p m L : Nat} (G : GoodH hs p m L) {k : Nat} (hk : k < p) : (hs.getD k []).length ≤ L := by
  have : k < hs.length := by rw [G.np]; exact hk
  have e : hs.getD k [] = hs[k] := by simp [List.getD_eq_getElem?_getD, this]
  rw [e]; exact (G.good _ (List.getElem_mem this)).2
theorem HP_push {h : MH} {hs : List (List Int)} {p : Nat} {t : MH} {q : Nat} {g : Int} (hp : hs.length = p) (hq : q < p) (hl : (hs.getD q []).length ≤ 1000) : meOk (HP h hs t) .append (.ref (h.length + q)) = true ∧ meV (HP h hs t) .append (.ref (h.length + q)) [.int g] = .ok .none (HP h (hs.set q (hs.getD q [] ++ [g])) t) := by
  subst hp
  refine ⟨meOk_append (HP_get hq), ?_⟩
  rw [append_ok (HP_get hq) (by simpa using Nat.le_trans hl (by (first | exact om190 | omega))), ← HP_set hq]
  simp

section
variable {F : Nat → Option MFun} {W n : Nat} {h : MH} {b : Nat}
end
end Mine


-- part LibE
set_option maxRecDepth 4000
set_option linter.unusedVariables false
set_option linter.unusedSimpArgs false
namespace Mine

theorem newList_one {v : Val} {h : MH} : newList [v] h = .ok (.ref h.length) (h ++ [.list [v]]) := newList_ok (by simp)

theorem for_range' {f : Val → Rho → MH → Res (MFlow × Rho)} {P : MFlow × Rho → MH → Prop} {m : Nat} (I : Nat → Rho → MH → Prop)
    (turn : ∀ k, k < m → ∀ ρ h, I k ρ h → Wp (f (.int k) ρ h) fun p h' => match p.1 with | .next => I (k + 1) p.2 h' | .ret v => P (.ret v, p.2) h')
    (fin : ∀ ρ h, I m ρ h → P (.next, ρ) h) : ∀ (n k : Nat) (ρ : Rho) (h : MH), k + n = m → I k ρ h → Wp (forLoop f (fun _ => true) (rangeVals k n) ρ h) P
  | 0, k, ρ, h, e, i => by simp only [rangeVals, forLoop, Wp_ok]; rw [Nat.add_zero] at e; subst e; exact fin _ _ i
  | n + 1, k, ρ, h, e, i => by
    simp only [rangeVals, forLoop, Wp_bind]
    refine (turn k (by (first | exact om193 e | omega)) ρ h i).mono fun p h1 q => ?_
    obtain ⟨fl, ρ1⟩ := p
    cases fl with
    | next =>
      simp only at q ⊢
      have := for_range' I turn fin n (k + 1) ρ1 h1 (by (first | exact om194 e | omega)) q
      simpa using this
    | ret v => exact q
theorem for_range {f : Val → Rho → MH → Res (MFlow × Rho)} {P : MFlow × Rho → MH → Prop} {m : Nat} (I : Nat → Rho → MH → Prop) {ρ : Rho} {h : MH} (i : I 0 ρ h)
    (turn : ∀ k, k < m → ∀ ρ h, I k ρ h → Wp (f (.int k) ρ h) fun p h' => match p.1 with | .next => I (k + 1) p.2 h' | .ret v => P (.ret v, p.2) h')
    (fin : ∀ ρ h, I m ρ h → P (.next, ρ) h) : Wp (forLoop f (fun _ => true) (rangeVals 0 m) ρ h) P := by
  have := for_range' I turn fin m 0 ρ h (by (first | exact om195 | omega)) i
  simpa using this

end Mine


-- part LibG
set_option maxRecDepth 4000
set_option linter.unusedVariables false
set_option linter.unusedSimpArgs false
namespace Mine

theorem for_vals {f : Val → Rho → MH → Res (MFlow × Rho)} {ck : MH → Bool} {P : MFlow × Rho → MH → Prop} (xs : List Val) (I : Nat → Rho → MH → Prop) {ρ : Rho} {h : MH} (i : I 0 ρ h)
    (ckI : ∀ k ρ h, I k ρ h → ck h = true)
    (turn : ∀ k x, xs[k]? = some x → ∀ ρ h, I k ρ h → Wp (f x ρ h) fun p h' => match p.1 with | .next => I (k + 1) p.2 h' | .ret v => P (.ret v, p.2) h')
    (fin : ∀ ρ h, I xs.length ρ h → P (.next, ρ) h) : Wp (forLoop f ck xs ρ h) P := by
  refine forLoop_inv (fun rest ρ h => ∃ k, k ≤ xs.length ∧ rest = xs.drop k ∧ I k ρ h) ?_ ?_ xs ρ h ⟨0, by (first | exact om196 | omega), by simp, i⟩
  · rintro x rest ρ h ⟨k, hk, e, i⟩
    have hk' : k < xs.length := by
      rcases Nat.lt_or_ge k xs.length with q | q
      · exact q
      · rw [List.drop_eq_nil_of_le q] at e; cases e
    rw [List.drop_eq_getElem_cons hk'] at e
    cases e
    refine (turn k _ (List.getElem?_eq_getElem hk') ρ h i).mono fun p h1 q => ?_
    obtain ⟨fl, ρ1⟩ := p
    cases fl with
    | next => exact ⟨ckI _ _ _ q, k + 1, hk', rfl, q⟩
    | ret v => exact q
  · rintro ρ h ⟨k, hk, e, i⟩
    have : k = xs.length := by
      rcases Nat.lt_or_ge k xs.length with q | q
      · rw [List.drop_eq_getElem_cons q] at e; cases e
      · (first | exact om197 hk q | omega)
    subst this; exact fin _ _ i

noncomputable def bA (bids : List (List Int)) (i j : Nat) : Int := (bids.getD i []).getD j 0
end Mine


-- part LibH
set_option maxRecDepth 4000
set_option linter.unusedVariables false
set_option linter.unusedSimpArgs false
namespace Mine

section
variable {F : Nat → Option MFun} {W n : Nat} {h : MH} {b : Nat}

end
end Mine


-- part LibR
set_option maxRecDepth 4000
set_option linter.unusedVariables false
set_option linter.unusedSimpArgs false
namespace Mine
section
variable {C : Cf} {W : Nat} {ρ : Rho} {h h' : MH} {r : MStmt}
theorem st_assign {i : Nat} {e : MExpr} {v : Val} (he : (sem C e).E ρ h = .ok v h') : exec C W (.cons (.assign i e) r) ρ h = exec C W r (ρ.set i (some v)) h' := by
  rw [X_cons', X_assign, he]; rfl
theorem st_asub {o i e : MExpr} {v ov iv : Val} {h'' : MH} (he : (sem C e).E ρ h = .ok v h') (ho : (sem C o).E ρ h' = .ok ov h') (hi : (sem C i).E ρ h' = .ok iv h') (hs : asubV h' ov iv v = .ok () h'') : exec C W (.cons (.asub o i e) r) ρ h = exec C W r ρ h'' := by
  rw [X_cons', X_asub, he]
  simp only [Res.bind_ok, ho, hi, hs]; rfl
theorem st_fors {t it : MExpr} {b : MStmt} {s : Src} (hi : (sem C it).I ρ h = .ok s h') : exec C W (.cons (.fors t it b) r) ρ h = (forLoop (forStep t (exec C W b)) s.2 s.1 ρ h').bind (thenX C W r) := by
  rw [X_cons', X_fors, hi]; rfl
theorem st_if {c : MExpr} {t e : MStmt} {x : Bool} (hc : (sem C c).T ρ h = .ok x h') : exec C W (.cons (.ifs c t e) r) ρ h = (exec C W (if x then t else e) ρ h').bind (thenX C W r) := by
  rw [X_cons', X_ifs, hc]
  cases x <;> rfl
theorem st_expr {e : MExpr} {v : Val} (he : (sem C e).E ρ h = .ok v h') : exec C W (.cons (.expr e) r) ρ h = exec C W r ρ h' := by
  rw [X_cons', X_expr, he]; rfl
theorem st_ret {e : MExpr} {v : Val} (he : (sem C e).E ρ h = .ok v h') : exec C W (.cons (.ret e) r) ρ h = .ok (.ret v, ρ) h' := by
  rw [X_cons', X_ret, he]; rfl
end
end Mine


-- part LibWs
set_option maxRecDepth 4000
set_option linter.unusedVariables false
set_option linter.unusedSimpArgs false
namespace Mine
section
variable {C : Cf} {W : Nat} {ρ : Rho} {h h' : MH} {r : MStmt} {P : MFlow × Rho → MH → Prop}
theorem w_assign {i : Nat} {e : MExpr} (v : Val) (he : (sem C e).E ρ h = .ok v h') (k : Wp (exec C W r (ρ.set i (some v)) h') P) : Wp (exec C W (.cons (.assign i e) r) ρ h) P := by rw [st_assign he]; exact k
theorem w_expr {e : MExpr} (v : Val) (he : (sem C e).E ρ h = .ok v h') (k : Wp (exec C W r ρ h') P) : Wp (exec C W (.cons (.expr e) r) ρ h) P := by rw [st_expr he]; exact k
theorem w_skip {c : MExpr} {t : MStmt} (hc : (sem C c).T ρ h = .ok false h') (k : Wp (exec C W r ρ h') P) : Wp (exec C W (.cons (.ifs c t .nil) r) ρ h) P := by rw [st_if hc]; exact k
theorem w_then {c e : MExpr} {f : MStmt} (v : Val) {h'' : MH} (hc : (sem C c).T ρ h = .ok true h') (he : (sem C e).E ρ h' = .ok v h'') (k : P (.ret v, ρ) h'') : Wp (exec C W (.cons (.ifs c (.cons (.ret e) .nil) f) r) ρ h) P := by
  rw [st_if hc]; show Wp ((exec C W (.cons (.ret e) .nil) ρ h').bind _) P; rw [st_ret he]; exact k
theorem w_ret {e : MExpr} (v : Val) (he : (sem C e).E ρ h = .ok v h') (k : P (.ret v, ρ) h') : Wp (exec C W (.cons (.ret e) r) ρ h) P := by rw [st_ret he]; exact k
theorem w_for {t it : MExpr} {b : MStmt} {s : Src} (hi : (sem C it).I ρ h = .ok s h') (k : Wp (forLoop (forStep t (exec C W b)) s.2 s.1 ρ h') fun p h => Wp (thenX C W r p h) P) : Wp (exec C W (.cons (.fors t it b) r) ρ h) P := by
  rw [st_fors hi, Wp_bind]; exact k
end
end Mine


-- part LibXa
set_option maxRecDepth 4000
set_option linter.unusedVariables false
set_option linter.unusedSimpArgs false
namespace Mine

/-- what a call gives, with an exception told apart -/
noncomputable def Wx {α : Type} (r : Res α) (P : α → MH → Prop) (E : Nat → MH → Prop) : Prop :=
  match r with
  | .ok a h => P a h
  | .exc c h => E c h
  | .stuck => False
theorem Wx.bind {α β : Type} {r : Res α} {f : α → MH → Res β} {P : β → MH → Prop} {E : Nat → MH → Prop} (h : Wx r (fun a h => Wx (f a h) P E) E) : Wx (r.bind f) P E := by cases r <;> exact h
theorem Wx.mono {α : Type} {r : Res α} {P P' : α → MH → Prop} {E E' : Nat → MH → Prop} (h : Wx r P E) (p : ∀ a h, P a h → P' a h) (e : ∀ c h, E c h → E' c h) : Wx r P' E' := by
  cases r with
  | ok a h' => exact p _ _ h
  | exc c h' => exact e _ _ h
  | stuck => exact h

noncomputable def resOf (o : Option Nat) (h : MH) : Res Val := match o with | some c => .exc c h | none => .ok .none h

theorem forLoop_test {f : Val → Rho → MH → Res (MFlow × Rho)} {ck : MH → Bool} {h : MH} (P : Rho → Prop) (bad : Val → Option Nat) (hc : ck h = true) : ∀ (xs : List Val) (ρ : Rho),
    (∀ x ∈ xs, ∀ ρ, P ρ → match bad x with | some c => f x ρ h = .exc c h | none => ∃ ρ', f x ρ h = .ok (.next, ρ') h ∧ P ρ') → P ρ →
    match xs.findSome? bad with | some c => forLoop f ck xs ρ h = .exc c h | none => ∃ ρ', forLoop f ck xs ρ h = .ok (.next, ρ') h ∧ P ρ'
  | [], ρ, _, p => ⟨ρ, rfl, p⟩
  | x :: xs, ρ, hf, p => by
    have hx := hf x (.head _) ρ p
    rw [List.findSome?_cons]
    cases e : bad x with
    | some c => rw [e] at hx; simp only at hx ⊢; rw [forLoop, hx]; rfl
    | none =>
      rw [e] at hx
      refine ob12 hx fun ρ1 e1 p1 => ?_; clear hx
      have ih := forLoop_test P bad hc xs ρ1 (fun y hy => hf y (.tail _ hy)) p1
      simp only at ih ⊢
      rw [forLoop, e1]
      simp only [Res.bind_ok, hc, if_true]
      exact ih

section
variable {C : Cf} {W : Nat} {ρ : Rho} {h h' : MH} {c : MExpr} {t r : MStmt} {k : Nat}
theorem x_skip (hc : (sem C c).T ρ h = .ok false h') : exec C W (.cons (.ifs c t .nil) r) ρ h = exec C W r ρ h' := by rw [st_if hc]; rfl
theorem x_raise (hc : (sem C c).T ρ h = .ok true h') : exec C W (.cons (.ifs c (.cons (.raise k) .nil) .nil) r) ρ h = .exc k h' := by rw [st_if hc]; rfl
end

noncomputable def Vis (h : MH) (v : Val) : Prop := match v with | .ref i => ∃ p, seqOf h i = some p | _ => True
noncomputable def isI (v : Val) : Bool := match v with | .int _ => true | _ => false
noncomputable def okBid (v : Val) : Bool := match v with | .int i => decide (0 ≤ i ∧ i ≤ 1000000000000) | _ => false
noncomputable def bidBad (v : Val) : Option Nat := if okBid v then none else some 4

section
variable {F : Nat → Option MFun} {W n : Nat} {h : MH}

theorem isnum_x (hF : F 1 = some f_is_number) {v : Val} (hv : Vis h v) : callN F W (n + 1) 1 [v] h = .ok (.bool (isI v)) h := by
  rw [callN_def hF rfl]
  cases v with
  | ref i =>
    obtain ⟨p, hp⟩ := hv
    simp [f_is_number, isInstV, hp, isI]
  | _ => simp [f_is_number, isInstV, unV, isI]

theorem bid_test (hF : F 1 = some f_is_number) {v : Val} {o0 : Option Val} (hv : Vis h v) :
    (sem (callN F W (n + 1)) (.or (.un .Not (.call 1 (.cons (.loc 1) .nil))) (.un .Not (.cmp2 .LtE .LtE (.const (.int 0)) (.loc 1) (.gconst (.int 1000000000000)))))).T [o0, some v] h = .ok (!okBid v) h := by
  have e1 : locV 1 [o0, some v] h = .ok v h := rfl
  simp only [T_or, T_not, T_call, E_call, Es_cons, Es_nil, E_loc, e1, Res.bind_ok, isnum_x hF hv, truthy_bool, Res.opt_some]
  cases v with
  | int i =>
    show (if (!true) = true then _ else _) = _
    rw [if_neg (by decide)]
    simp only [T_cmp2, E_const, E_loc, e1, Res.bind_ok, cmp_le, Res.opt_some, E_gconst]
    by_cases h0 : 0 ≤ i
    · by_cases h1 : i ≤ 1000000000000 <;> simp [h0, h1, okBid]
    · simp [h0, okBid]
  | _ => rfl

theorem needbids_x (hF : F 1 = some f_is_number) (hG : F 3 = some f_need_bids) {a : Nat} {vs : List Val} (ha : h[a]? = some (.list vs)) (hv : ∀ v ∈ vs, Vis h v) : callN F W (n + 2) 3 [.ref a] h = resOf (vs.findSome? bidBad) h := by
  rw [callN_def hG rfl]
  show (exec (callN F W (n + 1)) W f_need_bids.body [some (.ref a), none] h).bind retOf = _
  unfold f_need_bids
  rw [st_fors (s := (vs, fun h' => decide (h'[a]? = some (.list vs)))) (h' := h) (by
    (try dsimp only [I_iobj]; try with_reducible rfl)
    show Res.opt (srcOf h (.ref a)) h = _
    rw [srcOf_list ha]; rfl)]
  have key := forLoop_test (f := forStep (.loc 1) (exec (callN F W (n + 1)) W (.cons (.ifs (.or (.un .Not (.call 1 (.cons (.loc 1) .nil))) (.un .Not (.cmp2 .LtE .LtE (.const (.int 0)) (.loc 1) (.gconst (.int 1000000000000))))) (.cons (.raise 4) .nil) .nil) .nil)))
    (ck := fun h' => decide (h'[a]? = some (.list vs))) (h := h) (fun ρ => ∃ o, ρ = [some (.ref a), o]) bidBad (by simp [ha]) vs [some (.ref a), none] (fun x hx ρ hρ => by
      obtain ⟨o, rfl⟩ := hρ
      have t := bid_test (F := F) (W := W) (n := n) hF (o0 := some (.ref a)) (hv x hx)
      unfold bidBad
      by_cases q : okBid x = true
      · rw [if_pos q]
        refine ⟨[some (.ref a), some x], ?_, _, rfl⟩
        show exec (callN F W (n + 1)) W (.cons _ .nil) [some (.ref a), some x] h = _
        rw [q] at t
        rw [x_skip t]; rfl
      · rw [if_neg q]
        show exec (callN F W (n + 1)) W (.cons _ .nil) [some (.ref a), some x] h = _
        have q' : okBid x = false := by simpa using q
        rw [q'] at t
        exact x_raise t) ⟨_, rfl⟩
  cases e : vs.findSome? bidBad with
  | some c => rw [e] at key; rw [key]; rfl
  | none => rw [e] at key; refine ob12 key fun ρ' e2 wz1 => ?_; clear key; obtain ⟨o, rfl⟩ := wz1; rw [e2]; rfl

noncomputable def rowBad (m : Nat) (r : List Val) : Option Nat := if r.length = m then r.findSome? bidBad else some 3
theorem needrow_x (hF : F 1 = some f_is_number) (hG : F 3 = some f_need_bids) (hH : F 4 = some f_need_row) {a m : Nat} {vs : List Val} (ha : h[a]? = some (.list vs)) (hv : ∀ v ∈ vs, Vis h v) : callN F W (n + 3) 4 [.ref a, .int m] h = resOf (rowBad m vs) h := by
  rw [callN_def hH rfl]
  show (exec (callN F W (n + 2)) W f_need_row.body [some (.ref a), some (.int m)] h).bind retOf = _
  unfold f_need_row
  have t : (sem (callN F W (n + 2)) (.cmp .NotEq (.bi .len (.cons (.loc 0) .nil)) (.loc 1))).T [some (.ref a), some (.int m)] h = .ok (decide (vs.length ≠ m)) h := by
    have l : biV h .len [.ref a] = .ok (.int vs.length) h := by simp [biV, bi1, biL, seqOf_list ha]
    (try dsimp only [T_cmp, E_bi]; try with_reducible rfl)
    show ((biV h .len [.ref a]).bind _) = _
    rw [l]
    show Res.opt (some (!((vs.length : Int) == (m : Int)))) h = _
    (try dsimp only [Res.opt_some]; try with_reducible rfl); congr 1
    by_cases q : vs.length = m
    · simp [q]
    · have : ¬ (vs.length : Int) = m := by (first | exact om200 q | omega)
      simp [q, this]
  unfold rowBad
  by_cases q : vs.length = m
  · rw [decide_eq_false (by simpa using q)] at t
    rw [if_pos q, x_skip t]
    have e : (sem (callN F W (n + 2)) (.call 3 (.cons (.loc 0) .nil))).E [some (.ref a), some (.int m)] h = resOf (vs.findSome? bidBad) h := by
      (try dsimp only [E_call]; try with_reducible rfl)
      show callN F W (n + 2) 3 [.ref a] h = _
      exact needbids_x hF hG ha hv
    (try dsimp only [X_cons', X_expr]; rw [e])
    cases vs.findSome? bidBad <;> rfl
  · rw [decide_eq_true (by simpa using q)] at t
    rw [if_neg q, x_raise t]; rfl

/-- rows, list by list -/
noncomputable def RowsAt (h : MH) : List (List Val) → List Val → Prop
  | [], vs => vs = []
  | r :: rs, vs => ∃ i ws, vs = .ref i :: ws ∧ h[i]? = some (.list r) ∧ (∀ v ∈ r, Vis h v) ∧ RowsAt h rs ws
theorem RowsAt.length {h : MH} : ∀ {rs : List (List Val)} {vs : List Val}, RowsAt h rs vs → vs.length = rs.length
  | [], _, q => by rw [show _ = [] from q]; rfl
  | _ :: _, _, ⟨i, ws, e, _, _, q⟩ => by rw [e, List.length_cons, List.length_cons, q.length]
theorem RowsAt.mem {h : MH} : ∀ {rs : List (List Val)} {vs : List Val}, RowsAt h rs vs → ∀ v ∈ vs, ∃ i r, v = .ref i ∧ h[i]? = some (.list r) ∧ ∀ v ∈ r, Vis h v
  | [], _, q, v, hv => by rw [show _ = [] from q] at hv; cases hv
  | r :: rs, _, ⟨i, ws, e, hi, hv, q⟩, v, hm => by
    rw [e] at hm
    rcases List.mem_cons.mp hm with rfl | hm
    · exact ⟨i, r, rfl, hi, hv⟩
    · exact q.mem v hm
noncomputable def verdict (rs : List (List Val)) : Option Nat := match rs with
  | [] => some 1
  | r :: rs' => if 9 < (r :: rs').length ∨ 40 < r.length then some 2 else (r :: rs').findSome? (rowBad r.length)

end
end Mine


-- part L09a
set_option maxRecDepth 4000
set_option linter.unusedVariables false
set_option linter.unusedSimpArgs false
namespace Mine
open PySem (Operator UnaryOp CmpOp)

section
variable {F : Nat → Option MFun} {W n : Nat} {h : MH}

/-- a thing that stands in a deed: a plain one, or a list or tuple of one number, made behind b -/
noncomputable def Fl (b : Nat) (h : MH) (v : Val) : Prop := match v with
  | .ref i => b ≤ i ∧ ∃ k c, seqOf h i = some (k, [.int c])
  | _ => True
theorem Fl.vis {b : Nat} {v : Val} (f : Fl b h v) : Vis h v := by
  cases v with
  | ref i => refine ob02 f fun _ wz0 => ?_; refine ob21 wz0 fun k c e => ?_; exact ⟨_, e⟩
  | _ => trivial

theorem nat8 {P : Nat → Prop} (h0 : P 0) (h1 : P 1) (h2 : P 2) (h3 : P 3) (h4 : P 4) (h5 : P 5) (h6 : P 6) (h7 : P 7) : ∀ r, r < 8 → P r
  | 0, _ => h0 | 1, _ => h1 | 2, _ => h2 | 3, _ => h3 | 4, _ => h4 | 5, _ => h5 | 6, _ => h6 | 7, _ => h7
theorem nat9 {P : Nat → Prop} (h0 : P 0) (h1 : P 1) (h2 : P 2) (h3 : P 3) (h4 : P 4) (h5 : P 5) (h6 : P 6) (h7 : P 7) (h8 : P 8) (r : Nat) (h : r < 9) : P r :=
  (Nat.lt_succ_iff_lt_or_eq.mp h).elim (nat8 h0 h1 h2 h3 h4 h5 h6 h7 r) fun e => e ▸ h8
noncomputable def W8 (b : Nat) : List Val := [.int (-1), .int 1000000000001, .bool true, .bool false, .str [49], .none, .ref b, .ref (b + 1)]
theorem wrong_ok (hF : F 58 = some f_law_wrong) (c : Int) : ∃ v, callN F W (n + 1) 58 [.int c] h = .ok v (h ++ [.list [.int 1], .tup [.int 1], .list (W8 h.length)]) ∧ Fl h.length (h ++ [.list [.int 1], .tup [.int 1], .list (W8 h.length)]) v := by
  refine ob11 (Int.eq_ofNat_of_zero_le (Int.emod_nonneg c (b := 8) (by decide))) fun r hr => ?_
  have h8 : r < 8 := by have := Int.emod_lt_of_pos c (b := 8) (by decide); (first | exact om207 hr | omega)
  have e1 : (sem (callN F W n) (.lst (.cons (.un .USub (.const (.int 1))) (.cons (.const (.int 1000000000001)) (.cons (.const (.bool true)) (.cons (.const (.bool false)) (.cons (.const (.str [49])) (.cons (.const .none) (.cons (.lst (.cons (.const (.int 1)) .nil)) (.cons (.tup (.cons (.const (.int 1)) .nil)) .nil)))))))))).E [some (.int c)] h = .ok (.ref (h.length + 2)) (h ++ [.list [.int 1], .tup [.int 1], .list (W8 h.length)]) := by
    simp [unV, newList, newObj, lim, W8]
  have e2 : seqOf (h ++ [.list [.int 1], .tup [.int 1], .list (W8 h.length)]) (h.length + 2) = some (true, W8 h.length) := by simp [seqOf]
  have f6 : seqOf (h ++ [.list [.int 1], .tup [.int 1], .list (W8 h.length)]) h.length = some (true, [.int 1]) := by simp [seqOf]
  have f7 : seqOf (h ++ [.list [.int 1], .tup [.int 1], .list (W8 h.length)]) (h.length + 1) = some (false, [.int 1]) := by simp [seqOf]
  have key : ∀ v, (W8 h.length)[r]? = some v → callN F W (n + 1) 58 [.int c] h = .ok v (h ++ [.list [.int 1], .tup [.int 1], .list (W8 h.length)]) := fun v hv => by
    rw [callN_def hF rfl]
    show (exec (callN F W n) W f_law_wrong.body [some (.int c)] h).bind retOf = _
    (try dsimp only [f_law_wrong, X_cons', X_ret, E_sub]; rw [e1])
    simp only [Res.bind_ok, E_bin, E_loc, locV_zero, E_const, bin_mod, hr]
    rw [if_pos (by decide)]
    simp only [Res.bind_ok]
    rw [sub_ref e2 (by (first | exact om174 | omega)) (by simpa using hv)]
    rfl
  have hv : (W8 h.length)[r]? = some ((W8 h.length)[r]'h8) := List.getElem?_eq_getElem h8
  exact ⟨_, key _ hv, nat8 (P := fun r => ∀ v, (W8 h.length)[r]? = some v → Fl h.length (h ++ [.list [.int 1], .tup [.int 1], .list (W8 h.length)]) v) (fun _ e => by cases e; trivial) (fun _ e => by cases e; trivial) (fun _ e => by cases e; trivial) (fun _ e => by cases e; trivial) (fun _ e => by cases e; trivial) (fun _ e => by cases e; trivial) (fun _ e => by cases e; exact ⟨Nat.le_refl _, _, _, f6⟩) (fun _ e => by cases e; exact ⟨Nat.le_succ _, _, _, f7⟩) r h8 _ hv⟩

noncomputable def P9 (m z : Int) (b : Nat) : List Val := [.int m, .int (-1), .bool true, .bool false, .none, .str [48], .ref b, .ref (b + 1), .int z]
theorem place_ok (hF : F 60 = some f_law_place) (d : Int) (m : Nat) : ∃ v h', callN F W (n + 1) 60 [.int d, .int m] h = .ok v h' ∧ h <+: h' ∧ Fl h.length h' v := by
  by_cases h0 : d % 9 = 0
  · refine ob11 (Int.eq_ofNat_of_zero_le (Int.emod_nonneg (d / 9) (b := 9) (by decide))) fun r hr => ?_
    have h9 : r < 9 := by have := Int.emod_lt_of_pos (d / 9) (b := 9) (by decide); (first | exact om208 hr | omega)
    let z : Int := (m : Int) + 1 + d / 81 % 1000
    let H := h ++ [.list [.int 0], .tup [.int 0], .list (P9 m z h.length)]
    have e1 : (sem (callN F W n) (.lst (.cons (.loc 1) (.cons (.un .USub (.const (.int 1))) (.cons (.const (.bool true)) (.cons (.const (.bool false)) (.cons (.const .none) (.cons (.const (.str [48])) (.cons (.lst (.cons (.const (.int 0)) .nil)) (.cons (.tup (.cons (.const (.int 0)) .nil)) (.cons (.bin .Add (.bin .Add (.loc 1) (.const (.int 1))) (.bin .Mod (.bin .FloorDiv (.loc 0) (.const (.int 81))) (.const (.int 1000)))) .nil))))))))))).E [some (.int d), some (.int m)] h = .ok (.ref (h.length + 2)) H := by
      simp [unV, newList, newObj, lim, P9, H, z]
    have e2 : seqOf H (h.length + 2) = some (true, P9 m z h.length) := by simp [seqOf, H]
    have f6 : seqOf H h.length = some (true, [.int 0]) := by simp [seqOf, H]
    have f7 : seqOf H (h.length + 1) = some (false, [.int 0]) := by simp [seqOf, H]
    have key : ∀ v, (P9 m z h.length)[r]? = some v → callN F W (n + 1) 60 [.int d, .int m] h = .ok v H := fun v hv => by
      rw [callN_def hF rfl]
      show (exec (callN F W n) W f_law_place.body [some (.int d), some (.int m)] h).bind retOf = _
      rw [f_law_place, X_cons', X_ifs]
      rw [show (sem (callN F W n) (.cmp .Eq (.bin .Mod (.loc 0) (.const (.int 9))) (.const (.int 0)))).T [some (.int d), some (.int m)] h = .ok true h from by simp [h0]]
      simp only [Res.bind_ok, if_true]
      (try dsimp only [X_cons', X_ret, E_sub]; rw [e1])
      simp only [Res.bind_ok, E_bin, E_loc, locV_zero, E_const, bin_fd, bin_mod]
      rw [if_pos (by decide)]
      simp only [Res.bind_ok, bin_mod]
      rw [if_pos (by decide)]
      simp only [Res.bind_ok]
      rw [hr, sub_ref e2 (by (first | exact om174 | omega)) (by simpa using hv)]
      rfl
    have pre : h <+: H := ⟨_, rfl⟩
    have hv : (P9 m z h.length)[r]? = some ((P9 m z h.length)[r]'h9) := List.getElem?_eq_getElem h9
    exact ⟨_, H, key _ hv, pre, nat9 (P := fun r => ∀ v, (P9 m z h.length)[r]? = some v → Fl h.length H v) (fun _ e => by cases e; trivial) (fun _ e => by cases e; trivial) (fun _ e => by cases e; trivial) (fun _ e => by cases e; trivial) (fun _ e => by cases e; trivial) (fun _ e => by cases e; trivial) (fun _ e => by cases e; exact ⟨Nat.le_refl _, _, _, f6⟩) (fun _ e => by cases e; exact ⟨Nat.le_succ _, _, _, f7⟩) (fun _ e => by cases e; trivial) r h9 _ hv⟩
  · have hm : (0 : Int) < (if (1 : Int) < m then (m : Int) else 1) := by split <;> (first | exact om209 ‹_› | exact om210 | omega)
    refine ⟨.int (d / 9 % (if (1 : Int) < m then (m : Int) else 1)), h, ?_, List.prefix_refl _, trivial⟩
    rw [callN_def hF rfl]
    simp [f_law_place, h0, biV, bi2, hm]

noncomputable def LineAt (b : Nat) (h : MH) (l k : Nat) : Prop := ∃ vs, h[l]? = some (.list vs) ∧ vs.length ≤ k ∧ ∀ v ∈ vs, Fl b h v ∧ v ≠ .ref l
theorem Fl.set {b l : Nat} {o : MObj} {v : Val} (f : Fl b h v) (ne : v ≠ .ref l) : Fl b (h.set l o) v := by
  cases v with
  | ref i =>
    refine ob02 f fun h1 wz1 => ?_; refine ob21 wz1 fun k c e => ?_
    refine ⟨h1, k, c, ?_⟩
    unfold seqOf at e ⊢
    rw [List.getElem?_set_ne (fun z => ne (by rw [z]))]; exact e
  | _ => trivial
theorem Fl.mono {b b' : Nat} {h' : MH} {v : Val} (f : Fl b h v) (hb : b' ≤ b) (k : ∀ i o, b ≤ i → h[i]? = some o → h'[i]? = some o) : Fl b' h' v := by
  cases v with
  | ref i =>
    refine ob02 f fun h1 wz2 => ?_; refine ob21 wz2 fun kk c e => ?_
    refine ⟨Nat.le_trans hb h1, kk, c, ?_⟩
    unfold seqOf at e ⊢
    cases q : h[i]? with
    | none => rw [q] at e; cases e
    | some o => rw [k i o h1 q]; rw [q] at e; exact e
  | _ => trivial
theorem Fl.pre {b : Nat} {h' : MH} {v : Val} (f : Fl b h v) (p : h <+: h') : Fl b h' v := f.mono (Nat.le_refl _) fun _ _ _ e => get_pre p e
end
end Mine


-- part L09b
set_option maxRecDepth 4000
set_option linter.unusedVariables false
set_option linter.unusedSimpArgs false
namespace Mine
open PySem (Operator UnaryOp CmpOp)

section
variable {F : Nat → Option MFun} {W n : Nat} {h h' : MH} {C : Cf} {ρ : Rho}

theorem sub_E {o i : MExpr} {v w u : Val} (ho : (sem C o).E ρ h = .ok v h) (hi : (sem C i).E ρ h = .ok w h) (hs : subV h v w = some u) : (sem C (.sub o i)).E ρ h = .ok u h := by
  (try dsimp only [E_sub]; rw [ho]; try dsimp only [Res.bind_ok]; rw [hi]; try dsimp only [Res.bind_ok]; rw [hs]); rfl
theorem mod_E {e m : MExpr} {x y : Int} (he : (sem C e).E ρ h = .ok (.int x) h) (hm : (sem C m).E ρ h = .ok (.int y) h) (hy : 0 < y) : (sem C (.bin .Mod e m)).E ρ h = .ok (.int (x % y)) h := by
  (try dsimp only [E_bin]; rw [he]; try dsimp only [Res.bind_ok]; rw [hm]; try dsimp only [Res.bind_ok, bin_mod]; rw [if_pos hy])
theorem fdiv_E {e : MExpr} {x m : Int} (he : (sem C e).E ρ h = .ok (.int x) h) (hm : 0 < m) (hm' : m < 1073741824) : (sem C (.bin .FloorDiv e (.const (.int m)))).E ρ h = .ok (.int (x / m)) h := by
  (try dsimp only [E_bin]; rw [he]; try dsimp only [Res.bind_ok, E_const, bin_fd]; rw [if_pos ⟨hm, hm'⟩])
theorem c_E {v : Val} : (sem C (.const v)).E ρ h = .ok v h := rfl
theorem cmp_T {op : CmpOp} {a b : MExpr} {v w : Val} {t : Bool} (ha : (sem C a).E ρ h = .ok v h) (hb : (sem C b).E ρ h = .ok w h) (ht : cmpV h op v w = some t) : (sem C (.cmp op a b)).T ρ h = .ok t h := by
  (try dsimp only [T_cmp]; rw [ha]; try dsimp only [Res.bind_ok]; rw [hb]; try dsimp only [Res.bind_ok]; rw [ht]); rfl
theorem and_T {a b : MExpr} {s t : Bool} (ha : (sem C a).T ρ h = .ok s h) (hb : s = true → (sem C b).T ρ h = .ok t h) : (sem C (.and a b)).T ρ h = .ok (s && t) h := by
  (try dsimp only [T_and]; rw [ha]; try dsimp only [Res.bind_ok]; try with_reducible rfl)
  cases s with
  | true => simp only [if_true, hb rfl, Bool.true_and]
  | false => rfl
theorem or_T {a b : MExpr} {s t : Bool} (ha : (sem C a).T ρ h = .ok s h) (hb : s = false → (sem C b).T ρ h = .ok t h) : (sem C (.or a b)).T ρ h = .ok (s || t) h := by
  (try dsimp only [T_or]; rw [ha]; try dsimp only [Res.bind_ok]; try with_reducible rfl)
  cases s with
  | true => rfl
  | false => simp only [hb rfl, Bool.false_or]; rfl
theorem not_T {a : MExpr} {s : Bool} (ha : (sem C a).T ρ h = .ok s h) : (sem C (.un .Not a)).T ρ h = .ok (!s) h := by (try dsimp only [T_not]; rw [ha]); rfl
theorem w_iff {c : MExpr} {t e r : MStmt} {b : Bool} {P : MFlow × Rho → MH → Prop} (hc : (sem C c).T ρ h = .ok b h') (k : Wp (exec C W (if b = true then t else e) ρ h') fun p h => Wp (thenX C W r p h) P) : Wp (exec C W (.cons (.ifs c t e) r) ρ h) P := by
  rw [st_if hc, Wp_bind]
  cases b <;> exact k

theorem line_ok (h25 : F 25 = some f_law_bid) (h58 : F 58 = some f_law_wrong) (h59 : F 59 = some f_law_line) {d : Nat} {ds : List Int} (hd : h[d]? = some (.list (ds.map .int))) (hl : ds.length = 46) (m : Nat) (hm : m ≤ 40) (kind : Int) :
    Wp (callN F W (n + 2) 59 [.ref d, .int m, .int kind] h) fun v h' => ∃ l, v = .ref l ∧ h.length ≤ l ∧ h <+: h' ∧ LineAt h.length h' l 50 := by
  rw [callN_def h59 rfl, Wp_bind]
  show Wp (exec (callN F W (n + 1)) W f_law_line.body [some (.ref d), some (.int m), some (.int kind), none, none] h) _
  have hw := fun c g => wrong_ok (W := W) (n := n) (h := g) h58 c
  have hb := fun c k g => bid_eq (W := W) (n := n) (h := g) (c := c) (k := k) h25
  generalize callN F W (n + 1) = C at hw hb
  have dS : ∀ {g : MH} {k : Int}, h <+: g → 0 ≤ k → k < 46 → subV g (.ref d) (.int k) = some (.int (ds.getD k.toNat 0)) := fun {g k} p h0 h1 => by
    have : seqOf g d = some (true, ds.map .int) := by unfold seqOf; rw [get_pre p hd]
    exact sub_ref this h0 (getD_map (by (first | exact om211 hl h1 | omega)))
  have dE : ∀ {g : MH} {k : Int} {ρ : Rho}, h <+: g → locV 0 ρ g = .ok (.ref d) g → 0 ≤ k → k < 46 → (sem C (.sub (.loc 0) (.const (.int k)))).E ρ g = .ok (.int (ds.getD k.toNat 0)) g := fun {g k ρ} p hr h0 h1 => sub_E hr c_E (dS p h0 h1)
  -- the bids
  let g1 : Nat → Option Val := fun j => some (.int (bidI (ds.getD j 0) kind))
  have e1 : (sem C (.comp (.call 25 (.cons (.sub (.loc 0) (.loc 4)) (.cons (.loc 2) .nil))) (.loc 4) (.irange (.loc 1)) (.const (.bool true)))).E [some (.ref d), some (.int m), some (.int kind), none, none] h = .ok (.ref h.length) (h ++ [.list ((List.range m).filterMap g1)]) := by
    (try dsimp only [E_comp, I_irange]; try with_reducible rfl)
    simp only [E_loc, locV_succ, locV_zero, Res.bind_ok]
    (rw [irange_ok (by (first | exact om212 hm | omega))]; try dsimp only [Res.bind_ok]; rw [comp_range g1 (fun j hj => ?_) rfl]; try dsimp only [Res.bind_ok]; rw [newList_ok (by simp [g1]; (first | exact om213 hm | omega))])
    have := dS (List.prefix_refl h) (k := (j : Int)) (by (first | exact om174 | omega)) (by (first | exact om214 hm hj | omega))
    simp only [Int.toNat_natCast] at this
    simp [compStep, bindTgt, this, hb, g1, truthyV]
  generalize hvs : (List.range m).filterMap g1 = vs at e1
  have lvs : vs.length = m := by rw [← hvs]; simp [g1]
  have ivs : ∀ v ∈ vs, ∃ i, v = .int i := fun v hv => by
    rw [← hvs] at hv
    obtain ⟨j, _, e⟩ := List.mem_filterMap.mp hv
    exact ⟨_, (Option.some.inj e).symm⟩
  (try dsimp only [f_law_line]; try with_reducible rfl)
  refine w_assign _ e1 ?_
  show Wp (exec C W _ [some (.ref d), some (.int m), some (.int kind), some (.ref h.length), none] _) _
  generalize hL : h.length = L
  have p1 : h <+: h ++ [.list vs] := pre_app _ _
  have A1 : ∃ us, (h ++ [.list vs])[L]? = some (.list us) ∧ us.length = m ∧ ∀ v ∈ us, Fl L (h ++ [.list vs]) v ∧ v ≠ .ref L := ⟨vs, by rw [← hL]; simp, lvs, fun v hv => by
    obtain ⟨i, rfl⟩ := ivs v hv; exact ⟨trivial, by intro z; cases z⟩⟩
  generalize h ++ [.list vs] = h1 at p1 A1
  -- a wrong one
  refine w_iff (h' := h1) (b := (ds.getD 41 0 % 12 % 4 == 1) && (decide (ds.getD 41 0 % 12 < 6) && decide ((m : Int) > 0))) ?_ ?_
  · refine and_T (cmp_T (mod_E (mod_E (dE p1 rfl (by (first | exact om215 | omega)) (by (first | exact om216 | omega))) c_E (by (first | exact om217 | omega))) c_E (by (first | exact om218 | omega))) c_E rfl) fun _ => and_T (cmp_T (mod_E (dE p1 rfl (by (first | exact om215 | omega)) (by (first | exact om216 | omega))) c_E (by (first | exact om217 | omega))) c_E rfl) fun _ => cmp_T (v := .int m) rfl c_E rfl
  have step2 : Wp (exec C W (if ((ds.getD 41 0 % 12 % 4 == 1) && (decide (ds.getD 41 0 % 12 < 6) && decide ((m : Int) > 0))) = true then (.cons (.asub (.loc 3) (.bin .Mod (.sub (.loc 0) (.const (.int 42))) (.loc 1)) (.call 58 (.cons (.sub (.loc 0) (.const (.int 43))) .nil))) .nil) else .nil) [some (.ref d), some (.int m), some (.int kind), some (.ref L), none] h1) fun p g => p = (.next, [some (.ref d), some (.int m), some (.int kind), some (.ref L), none]) ∧ h <+: g ∧ ∃ us, g[L]? = some (.list us) ∧ us.length = m ∧ ∀ v ∈ us, Fl L g v ∧ v ≠ .ref L := by
    split
    · rename_i hc
      simp only [Bool.and_eq_true, decide_eq_true_eq] at hc
      have m0 : 0 < (m : Int) := hc.2.2
      obtain ⟨us, a1, a2, a3⟩ := A1
      have lt : L < h1.length := (List.getElem?_eq_some_iff.mp a1).1
      obtain ⟨v, ev, fv⟩ := hw (ds.getD 43 0) h1
      have ev' : (sem C (.call 58 (.cons (.sub (.loc 0) (.const (.int 43))) .nil))).E [some (.ref d), some (.int m), some (.int kind), some (.ref L), none] h1 = .ok v (h1 ++ [.list [.int 1], .tup [.int 1], .list (W8 h1.length)]) := by
        (try dsimp only [E_call, Es_cons]; rw [dE p1 rfl (by (first | exact om219 | omega)) (by (first | exact om220 | omega))])
        simp only [Res.bind_ok, Es_nil]
        exact ev
      have p2 : h1 <+: h1 ++ [.list [.int 1], .tup [.int 1], .list (W8 h1.length)] := pre_app _ _
      generalize h1 ++ [.list [.int 1], .tup [.int 1], .list (W8 h1.length)] = h2 at ev' fv p2
      have q0 := Int.emod_nonneg (ds.getD 42 0) (b := m) (by (first | exact om152 m0 | omega))
      have q1 := Int.emod_lt_of_pos (ds.getD 42 0) m0
      have b1 : h2[L]? = some (.list us) := get_pre p2 a1
      have ne : v ≠ .ref L := fun z => by
        rw [z] at fv; have := fv.1; (first | exact om221 lt this | omega)
      rw [st_asub ev' (ov := .ref L) rfl (mod_E (x := ds.getD 42 0) (dE (p1.trans p2) rfl (by (first | exact om222 | omega)) (by (first | exact om223 | omega))) (y := m) rfl m0) (h'' := h2.set L (.list (us.set (ds.getD 42 0 % m).toNat v))) (by simp only [asubV, b1]; rw [if_pos ⟨q0, by rw [a2]; exact q1⟩])]
      (try dsimp only [X_nil, Wp_ok]; try with_reducible rfl)
      refine ⟨rfl, pre_set (p1.trans p2) (by (first | exact om224 hL | omega)), us.set (ds.getD 42 0 % m).toNat v, by rw [List.getElem?_set_self (by have := len_pre p2; (first | exact om225 lt this | omega))], by simp [a2], fun u hu => ?_⟩
      rcases List.mem_or_eq_of_mem_set hu with hu | rfl
      · obtain ⟨f1, f2⟩ := a3 u hu
        exact ⟨(f1.pre p2).set f2, f2⟩
      · exact ⟨(fv.mono (by (first | exact om226 lt | omega)) fun _ _ _ e => e).set ne, ne⟩
    · (try dsimp only [X_nil, Wp_ok]; try with_reducible rfl); exact ⟨rfl, p1, A1⟩
  refine step2.mono fun p g q => ?_
  obtain ⟨rfl, p2, us, a1, a2, a3⟩ := q
  (try dsimp only [thenX_next]; try with_reducible rfl)
  -- one more
  refine w_iff (h' := g) (b := (ds.getD 41 0 % 12 == 2) || (ds.getD 41 0 % 12 == 5)) ?_ ?_
  · exact or_T (cmp_T (mod_E (dE p2 rfl (by (first | exact om215 | omega)) (by (first | exact om216 | omega))) c_E (by (first | exact om217 | omega))) c_E rfl) fun _ => cmp_T (mod_E (dE p2 rfl (by (first | exact om215 | omega)) (by (first | exact om216 | omega))) c_E (by (first | exact om217 | omega))) c_E rfl
  have step3 : Wp (exec C W (if ((ds.getD 41 0 % 12 == 2) || (ds.getD 41 0 % 12 == 5)) = true then (.cons (.expr (.meth .insert (.loc 3) (.cons (.bin .Mod (.sub (.loc 0) (.const (.int 42))) (.bin .Add (.loc 1) (.const (.int 1)))) (.cons (.const (.int 1)) .nil)))) .nil) else .nil) [some (.ref d), some (.int m), some (.int kind), some (.ref L), none] g) fun p g => p = (.next, [some (.ref d), some (.int m), some (.int kind), some (.ref L), none]) ∧ h <+: g ∧ ∃ us, g[L]? = some (.list us) ∧ us.length ≤ m + 1 ∧ m ≤ us.length ∧ ∀ v ∈ us, Fl L g v ∧ v ≠ .ref L := by
    split
    · have q0 := Int.emod_nonneg (ds.getD 42 0) (b := (m : Int) + 1) (by (first | exact om227 | omega))
      have q1 := Int.emod_lt_of_pos (ds.getD 42 0) (b := (m : Int) + 1) (by (first | exact om228 | omega))
      have e3 : (sem C (.meth .insert (.loc 3) (.cons (.bin .Mod (.sub (.loc 0) (.const (.int 42))) (.bin .Add (.loc 1) (.const (.int 1)))) (.cons (.const (.int 1)) .nil)))).E [some (.ref d), some (.int m), some (.int kind), some (.ref L), none] g = .ok .none (g.set L (.list (us.take (ds.getD 42 0 % ((m : Int) + 1)).toNat ++ .int 1 :: us.drop (ds.getD 42 0 % ((m : Int) + 1)).toNat))) := by
        (try dsimp only [E_meth, E_loc, locV_zero, locV_succ, Res.bind_ok]; rw [show meOk g .insert (.ref L) = true from by simp [meOk, isLV, isListAt, a1], if_pos rfl])
        rw [Es_cons, mod_E (x := ds.getD 42 0) (dE p2 rfl (by (first | exact om222 | omega)) (by (first | exact om223 | omega))) (y := (m : Int) + 1) rfl (by (first | exact om228 | omega))]
        simp only [Res.bind_ok, Es_cons, E_const, Es_nil]
        show meIns g (.ref L) _ = _
        simp only [meIns, onL, a1, arg2, arg1, onI]
        rw [if_pos ⟨q0, by (first | exact om229 a2 q1 | omega), by simp [lim]; (first | exact om230 hm a2 | omega)⟩]
      (rw [st_expr e3]; try dsimp only [X_nil, Wp_ok]; try with_reducible rfl)
      refine ⟨rfl, pre_set p2 (by (first | exact om224 hL | omega)), _, by rw [List.getElem?_set_self (List.getElem?_eq_some_iff.mp a1).1], by simp; omega, by simp; omega, fun u hu => ?_⟩
      rcases List.mem_append.mp hu with hu | hu
      · obtain ⟨f1, f2⟩ := a3 u (List.mem_of_mem_take hu)
        exact ⟨f1.set f2, f2⟩
      · rcases List.mem_cons.mp hu with rfl | hu
        · exact ⟨trivial, by intro z; cases z⟩
        · obtain ⟨f1, f2⟩ := a3 u (List.mem_of_mem_drop hu)
          exact ⟨f1.set f2, f2⟩
    · (try dsimp only [X_nil, Wp_ok]; try with_reducible rfl); exact ⟨rfl, p2, us, a1, by (first | exact om233 a2 | omega), by (first | exact om134 a2 | omega), a3⟩
  refine step3.mono fun p g q => ?_
  obtain ⟨rfl, p2, us, a1, a2, a2', a3⟩ := q
  (try dsimp only [thenX_next]; try with_reducible rfl)
  -- one less
  refine w_iff (h' := g) (b := (ds.getD 41 0 % 12 == 3) && decide ((m : Int) > 0)) ?_ ?_
  · exact and_T (cmp_T (mod_E (dE p2 rfl (by (first | exact om215 | omega)) (by (first | exact om216 | omega))) c_E (by (first | exact om217 | omega))) c_E rfl) fun _ => cmp_T (v := .int m) rfl c_E rfl
  have step4 : Wp (exec C W (if ((ds.getD 41 0 % 12 == 3) && decide ((m : Int) > 0)) = true then (.cons (.expr (.meth .pop (.loc 3) .nil)) .nil) else .nil) [some (.ref d), some (.int m), some (.int kind), some (.ref L), none] g) fun p g => p = (.next, [some (.ref d), some (.int m), some (.int kind), some (.ref L), none]) ∧ h <+: g ∧ LineAt L g L 50 := by
    split
    · rename_i hc
      simp only [Bool.and_eq_true, decide_eq_true_eq] at hc
      have ne : us ≠ [] := fun z => by rw [z] at a2'; simp at a2'; omega
      have e4 : (sem C (.meth .pop (.loc 3) .nil)).E [some (.ref d), some (.int m), some (.int kind), some (.ref L), none] g = .ok (us.getLast ne) (g.set L (.list us.dropLast)) := by
        (try dsimp only [E_meth, E_loc, locV_zero, locV_succ, Res.bind_ok]; rw [show meOk g .pop (.ref L) = true from by simp [meOk, isLV, isListAt, a1], if_pos rfl]; try dsimp only [Es_nil, Res.bind_ok]; try with_reducible rfl)
        show mePop g (.ref L) [] = _
        simp only [mePop, onL, a1, popLast, List.getLast?_eq_some_getLast ne]
      (rw [st_expr e4]; try dsimp only [X_nil, Wp_ok]; try with_reducible rfl)
      refine ⟨rfl, pre_set p2 (by (first | exact om224 hL | omega)), us.dropLast, by rw [List.getElem?_set_self (List.getElem?_eq_some_iff.mp a1).1], by simp; (first | exact om234 hm a2 | omega), fun u hu => ?_⟩
      obtain ⟨f1, f2⟩ := a3 u ((List.dropLast_sublist us).subset hu)
      exact ⟨f1.set f2, f2⟩
    · (try dsimp only [X_nil, Wp_ok]; try with_reducible rfl); exact ⟨rfl, p2, us, a1, by (first | exact om235 hm a2 | omega), a3⟩
  refine step4.mono fun p g q => ?_
  obtain ⟨rfl, p2, a⟩ := q
  (try dsimp only [thenX_next]; try with_reducible rfl)
  refine w_ret (.ref L) rfl ?_
  (try dsimp only [retOf_ret, Wp_ok]; try with_reducible rfl)
  exact ⟨L, rfl, by (first | exact om236 | omega), p2, a⟩
end
end Mine


-- part L09c
set_option maxRecDepth 4000
set_option linter.unusedVariables false
set_option linter.unusedSimpArgs false
namespace Mine
open PySem (Operator UnaryOp CmpOp)

inductive Dd where
  | come (l : Nat) (vs : List Val) | leave (p : Val) | put (l : Nat) (vs : List Val) | take (p : Val) | bid (p g a : Val) | back
noncomputable def sCome : Val := .str [99, 111, 109, 101]
noncomputable def sLeave : Val := .str [108, 101, 97, 118, 101]
noncomputable def sPut : Val := .str [112, 117, 116]
noncomputable def sTake : Val := .str [116, 97, 107, 101]
noncomputable def sBid : Val := .str [98, 105, 100]
noncomputable def sBack : Val := .str [98, 97, 99, 107]
noncomputable def Dd.vals : Dd → List Val
  | .come l _ => [sCome, .ref l]
  | .leave p => [sLeave, p]
  | .put l _ => [sPut, .ref l]
  | .take p => [sTake, p]
  | .bid p g a => [sBid, p, g, a]
  | .back => [sBack]
noncomputable def LineV (b : Nat) (h : MH) (l : Nat) (vs : List Val) : Prop := b ≤ l ∧ h[l]? = some (.list vs) ∧ vs.length ≤ 50 ∧ ∀ v ∈ vs, Fl b h v ∧ v ≠ .ref l
noncomputable def Dd.ok (b : Nat) (h : MH) (d : Nat) : Dd → Prop
  | .come l vs => LineV b h l vs ∧ l ≠ d
  | .leave p => Fl b h p ∧ p ≠ .ref d
  | .put l vs => LineV b h l vs ∧ l ≠ d
  | .take p => Fl b h p ∧ p ≠ .ref d
  | .bid p g a => Fl b h p ∧ Fl b h g ∧ Fl b h a
  | .back => True

section
variable {F : Nat → Option MFun} {W n : Nat} {h h' : MH} {C : Cf} {ρ : Rho}

theorem w_thenW {c e : MExpr} {f r : MStmt} {P : MFlow × Rho → MH → Prop} (hc : (sem C c).T ρ h = .ok true h') (k : Wp ((sem C e).E ρ h') fun v h'' => P (.ret v, ρ) h'') : Wp (exec C W (.cons (.ifs c (.cons (.ret e) .nil) f) r) ρ h) P := by
  refine ob22 k.get fun v h2 e1 k => ?_
  exact w_then v hc e1 k
theorem Fl.up {b b' : Nat} {v : Val} (f : Fl b' h v) (hb : b ≤ b') : Fl b h v := f.mono hb fun _ _ _ e => e

theorem newList_ok' {xs : List Val} {P : Val → MH → Prop} (hl : xs.length ≤ 1000) (k : P (.ref h.length) (h ++ [.list xs])) : Wp (newList xs h) P := by
  rw [newList_ok (by (first | exact om192 hl | omega))]; exact k
theorem lst_get (h : MH) (o : MObj) : (h ++ [o])[h.length]? = some o := by simp

theorem deed_ok (h24 : F 24 = some f_law_draws) (h25 : F 25 = some f_law_bid) (h58 : F 58 = some f_law_wrong) (h59 : F 59 = some f_law_line) (h60 : F 60 = some f_law_place) (h63 : F 63 = some f_law_deed) {rw : Nat} {rs : List Val} (hr : seqOf h rw = some (true, rs)) (hp : rs.length ≤ 9) (c : Int) (g : Nat) (hg : g ≤ 40) :
    Wp (callN F W (n + 3) 63 [.int c, .ref rw, .int g] h) fun v h' => h <+: h' ∧ ∃ d dd, v = .ref d ∧ h.length ≤ d ∧ h'[d]? = some (.list dd.vals) ∧ Dd.ok h.length h' d dd := by
  rw [callN_def h63 rfl, Wp_bind]
  show Wp (exec (callN F W (n + 2)) W f_law_deed.body [some (.int c), some (.ref rw), some (.int g), none, none, none] h) _
  have hdr := draws_eq (W := W) (n := n + 1) (h := h) (c := c) (m := 46) h24 (by (first | exact om237 | omega))
  have hw := fun c g => wrong_ok (W := W) (n := n + 1) (h := g) h58 c
  have hb := fun c k g => bid_eq (W := W) (n := n + 1) (h := g) (c := c) (k := k) h25
  have hpl := fun d m g => place_ok (W := W) (n := n + 1) (h := g) h60 d m
  have hli := fun {g : MH} {d : Nat} {ds : List Int} (hd : g[d]? = some (.list (ds.map .int))) (hl : ds.length = 46) (m : Nat) (hm : m ≤ 40) (k : Int) => line_ok (W := W) (n := n) h25 h58 h59 hd hl m hm k
  generalize callN F W (n + 2) = C at hdr hw hb hpl hli
  (try dsimp only [f_law_deed]; try with_reducible rfl)
  refine w_assign (.ref h.length) (h' := h ++ [.list ((drawsI 46 c).map .int)]) (by
    simp only [E_call, Es_cons, E_loc, locV_zero, E_const, Es_nil, Res.bind_ok]; exact hdr) ?_
  have ld : (drawsI 46 c).length = 46 := drawsI_len _ _
  generalize drawsI 46 c = ds at ld
  have p1 : h <+: h ++ [.list (ds.map .int)] := pre_app _ _
  have g1 : (h ++ ([.list (ds.map .int)] : MH))[h.length]? = some (.list (ds.map .int)) := lst_get _ _
  have l1 : (h ++ ([.list (ds.map .int)] : MH)).length = h.length + 1 := by simp
  generalize h ++ ([.list (ds.map .int)] : MH) = h1 at p1 g1 l1
  generalize h.length = L at g1 l1
  show Wp (exec C W _ [some (.int c), some (.ref rw), some (.int g), some (.ref L), none, none] h1) _
  have hr1 : ∀ {g : MH}, h1 <+: g → seqOf g rw = some (true, rs) := fun {g} p => seqOf_pre (p1.trans p) hr
  have dE : ∀ {g : MH} {k : Int} {ρ : Rho}, h1 <+: g → locV 3 ρ g = .ok (.ref L) g → 0 ≤ k → k < 46 → (sem C (.sub (.loc 3) (.const (.int k)))).E ρ g = .ok (.int (ds.getD k.toNat 0)) g := fun {g k ρ} p hr h0 h1 => sub_E hr c_E (by
    have : seqOf g L = some (true, ds.map .int) := by unfold seqOf; rw [get_pre p g1]
    exact sub_ref this h0 (getD_map (by (first | exact om211 ld h1 | omega))))
  have r1 := List.prefix_refl h1
  refine w_assign (.int (ds.getD 44 0 / 3 % 4)) (h' := h1) (mod_E (fdiv_E (dE r1 rfl (by (first | exact om238 | omega)) (by (first | exact om239 | omega))) (by (first | exact om240 | omega)) (by (first | exact om241 | omega))) c_E (by (first | exact om218 | omega))) ?_
  generalize ds.getD 44 0 / 3 % 4 = kd
  show Wp (exec C W _ [some (.int c), some (.ref rw), some (.int g), some (.ref L), some (.int kd), none] h1) _
  have cE : ∀ {a : Option Val}, (sem C (.bin .Mod (.loc 0) (.const (.int 16)))).E [some (.int c), some (.ref rw), some (.int g), some (.ref L), some (.int kd), a] h1 = .ok (.int (c % 16)) h1 := fun {a} => mod_E rfl c_E (by (first | exact om242 | omega))
  have lenE : ∀ {a : Option Val} {q : MH}, h1 <+: q → (sem C (.bi .len (.cons (.loc 1) .nil))).E [some (.int c), some (.ref rw), some (.int g), some (.ref L), some (.int kd), a] q = .ok (.int rs.length) q := fun {a q} p => by
    simp [biV, bi1, biL, onRef, hr1 p]
  -- a line
  have lineW : ∀ (s : Val) (e : MExpr) (m : Nat) (mk : Nat → List Val → Dd), (sem C e).E [some (.int c), some (.ref rw), some (.int g), some (.ref L), some (.int kd), none] h1 = .ok (.int m) h1 → m ≤ 40 → (∀ l vs, (mk l vs).vals = [s, .ref l]) → (∀ l vs h' d, LineV L h' l vs → l ≠ d → (mk l vs).ok L h' d) →
      Wp ((sem C (.lst (.cons (.const s) (.cons (.call 59 (.cons (.loc 3) (.cons e (.cons (.loc 4) .nil)))) .nil)))).E [some (.int c), some (.ref rw), some (.int g), some (.ref L), some (.int kd), none] h1) fun v h' => h <+: h' ∧ ∃ d dd, v = .ref d ∧ L ≤ d ∧ h'[d]? = some (.list dd.vals) ∧ Dd.ok L h' d dd := fun s e m mk he hm m1 m2 => by
    simp only [E_lst, Es_cons, E_const, Res.bind_ok, E_call, E_loc, locV_succ, locV_zero, he, Es_nil, Wp_bind]
    refine (hli g1 ld m hm kd).mono fun v h2 q => ?_
    refine ob14 q fun l ez1x1 q1 q2 wz1 => ?_; clear q; subst ez1x1; refine ob13 wz1 fun vs q3 q4 q5 => ?_; clear wz1
    simp only [Wp_ok]
    refine newList_ok' (by simp) ⟨p1.trans (q2.trans (pre_app _ _)), h2.length, mk l vs, rfl, by have := len_pre q2; (first | exact om243 l1 this | omega), by rw [lst_get, m1], m2 _ _ _ _ ⟨by (first | exact om243 l1 q1 | omega), get_pre (pre_app _ _) q3, q4, fun v hv => ⟨((q5 v hv).1.pre (pre_app _ _)).up (by (first | exact om244 l1 | omega)), (q5 v hv).2⟩⟩ (Nat.ne_of_lt (List.getElem?_eq_some_iff.mp q3).1)⟩
  -- a place
  have placeW : ∀ (s : Val) (e : MExpr) (k : Int) (m : Nat) (mk : Val → Dd), 0 ≤ k → k < 46 → (sem C e).E [some (.int c), some (.ref rw), some (.int g), some (.ref L), some (.int kd), none] h1 = .ok (.int m) h1 → (∀ p, (mk p).vals = [s, p]) → (∀ p h' d, Fl L h' p → p ≠ .ref d → (mk p).ok L h' d) →
      Wp ((sem C (.lst (.cons (.const s) (.cons (.call 60 (.cons (.sub (.loc 3) (.const (.int k))) (.cons e .nil))) .nil)))).E [some (.int c), some (.ref rw), some (.int g), some (.ref L), some (.int kd), none] h1) fun v h' => h <+: h' ∧ ∃ d dd, v = .ref d ∧ L ≤ d ∧ h'[d]? = some (.list dd.vals) ∧ Dd.ok L h' d dd := fun s e k m mk h0 h46 he m1 m2 => by
    simp only [E_lst, Es_cons, E_const, Res.bind_ok, E_call, Wp_bind]
    refine ob23 (hpl (ds.getD k.toNat 0) m h1) fun v h2 e2 q2 fv => ?_
    rw [dE r1 rfl h0 h46]
    simp only [Wp_ok, Es_nil, he, e2, Wp_bind]
    refine newList_ok' (by simp) ⟨p1.trans (q2.trans (pre_app _ _)), h2.length, mk v, rfl, by have := len_pre q2; (first | exact om243 l1 this | omega), by rw [lst_get, m1], m2 _ _ _ ((fv.pre (pre_app _ _)).up (by (first | exact om244 l1 | omega))) fun z => ?_⟩
    rw [z] at fv
    refine ob02 fv fun _ wz3 => ?_; clear fv; refine ob21 wz3 fun k c e => ?_; clear wz3
    simp [seqOf] at e
  cases b1 : decide (c % 16 < 4) with
  | true => exact w_thenW (cmp_T cE c_E (by (try dsimp only [cmp_lt]; rw [b1]))) ((lineW sCome (.loc 2) g .come rfl hg (fun _ _ => rfl) fun l vs h' d a b => ⟨a, b⟩).mono fun v h' q => by (try dsimp only [retOf_ret, Wp_ok]; try with_reducible rfl); exact q)
  | false =>
  refine w_skip (cmp_T cE c_E (by (try dsimp only [cmp_lt]; rw [b1]))) ?_
  cases b2 : (c % 16 == 4) with
  | true => exact w_thenW (cmp_T cE c_E (by (try dsimp only [cmp_eqI]; rw [b2]))) ((placeW sLeave (.bi .len (.cons (.loc 1) .nil)) 40 rs.length .leave (by (first | exact om245 | omega)) (by (first | exact om246 | omega)) (lenE r1) (fun _ => rfl) fun p h' d a b => ⟨a, b⟩).mono fun v h' q => by (try dsimp only [retOf_ret, Wp_ok]; try with_reducible rfl); exact q)
  | false =>
  refine w_skip (cmp_T cE c_E (by (try dsimp only [cmp_eqI]; rw [b2]))) ?_
  cases b3 : decide (c % 16 < 9) with
  | true => exact w_thenW (cmp_T cE c_E (by (try dsimp only [cmp_lt]; rw [b3]))) ((lineW sPut (.bi .len (.cons (.loc 1) .nil)) rs.length .put (lenE r1) (by (first | exact om247 hp | omega)) (fun _ _ => rfl) fun l vs h' d a b => ⟨a, b⟩).mono fun v h' q => by (try dsimp only [retOf_ret, Wp_ok]; try with_reducible rfl); exact q)
  | false =>
  refine w_skip (cmp_T cE c_E (by (try dsimp only [cmp_lt]; rw [b3]))) ?_
  cases b4 : (c % 16 == 9) with
  | true => exact w_thenW (cmp_T cE c_E (by (try dsimp only [cmp_eqI]; rw [b4]))) ((placeW sTake (.loc 2) 40 g .take (by (first | exact om245 | omega)) (by (first | exact om246 | omega)) rfl (fun _ => rfl) fun p h' d a b => ⟨a, b⟩).mono fun v h' q => by (try dsimp only [retOf_ret, Wp_ok]; try with_reducible rfl); exact q)
  | false =>
  refine w_skip (cmp_T cE c_E (by (try dsimp only [cmp_eqI]; rw [b4]))) ?_
  refine w_iff (h' := h1) (b := decide (c % 16 < 13)) (cmp_T cE c_E rfl) ?_
  split
  · refine w_assign (.int (bidI (ds.getD 39 0) kd)) (h' := h1) (by
      (try dsimp only [E_call, Es_cons]; rw [dE r1 rfl (by (first | exact om248 | omega)) (by (first | exact om249 | omega))])
      simp only [Res.bind_ok, Es_cons, E_loc, Es_nil]
      exact hb _ _ _) ?_
    show Wp (exec C W _ [some (.int c), some (.ref rw), some (.int g), some (.ref L), some (.int kd), some (.int (bidI (ds.getD 39 0) kd))] h1) _
    refine w_iff (h' := h1) (b := ds.getD 38 0 % 7 == 1) (cmp_T (mod_E (dE r1 rfl (by (first | exact om250 | omega)) (by (first | exact om251 | omega))) c_E (by (first | exact om252 | omega))) c_E rfl) ?_
    have amount : Wp (exec C W (if (ds.getD 38 0 % 7 == 1) = true then (.cons (.assign 5 (.call 58 (.cons (.bin .FloorDiv (.sub (.loc 3) (.const (.int 38))) (.const (.int 7))) .nil))) .nil) else .nil) [some (.int c), some (.ref rw), some (.int g), some (.ref L), some (.int kd), some (.int (bidI (ds.getD 39 0) kd))] h1) fun p h2 => ∃ a, p = (.next, [some (.int c), some (.ref rw), some (.int g), some (.ref L), some (.int kd), some a]) ∧ h1 <+: h2 ∧ Fl L h2 a := by
      split
      · refine ob12 (hw (ds.getD 38 0 / 7) h1) fun v ev fv => ?_
        refine w_assign v (h' := h1 ++ [.list [.int 1], .tup [.int 1], .list (W8 h1.length)]) (by
          (try dsimp only [E_call, Es_cons]; rw [fdiv_E (dE r1 rfl (by (first | exact om250 | omega)) (by (first | exact om251 | omega))) (by (first | exact om252 | omega)) (by (first | exact om253 | omega))])
          simp only [Res.bind_ok, Es_nil]
          exact ev) ?_
        (try dsimp only [X_nil, Wp_ok]; try with_reducible rfl)
        exact ⟨v, rfl, pre_app _ _, fv.up (by (first | exact om244 l1 | omega))⟩
      · (try dsimp only [X_nil, Wp_ok]; try with_reducible rfl); exact ⟨_, rfl, r1, trivial⟩
    refine amount.mono fun p h2 q => ?_
    refine ob13 q fun a ez5x1 q1 q2 => ?_; clear q; subst ez5x1
    (try dsimp only [thenX_next]; try with_reducible rfl)
    refine ob23 (hpl (ds.getD 40 0) rs.length h2) fun v1 h3 e3 p3 f3 => ?_
    refine ob23 (hpl (ds.getD 45 0) g h3) fun v2 h4 e4 p4 f4 => ?_
    have len3 := len_pre q1
    have len4 := len_pre p3
    refine w_ret (.ref h4.length) (h' := h4 ++ [.list [sBid, v1, v2, a]]) ?_ ?_
    · simp only [E_lst, Es_cons, E_const, Res.bind_ok, E_call]
      rw [dE q1 rfl (by (first | exact om245 | omega)) (by (first | exact om246 | omega))]
      simp only [Res.bind_ok, Es_nil]
      rw [lenE q1]
      simp only [Res.bind_ok]
      rw [show C 60 [.int (ds.getD (Int.toNat 40) 0), .int rs.length] h2 = _ from e3]
      simp only [Res.bind_ok]
      rw [dE (q1.trans p3) rfl (by (first | exact om254 | omega)) (by (first | exact om255 | omega))]
      simp only [Res.bind_ok, E_loc, locV_succ, locV_zero]
      rw [show C 60 [.int (ds.getD (Int.toNat 45) 0), .int g] h3 = _ from e4]
      simp only [Res.bind_ok]
      exact newList_ok (by simp)
    · (try dsimp only [thenX_ret, Wp_ok, retOf_ret]; try with_reducible rfl)
      have pp := (p4.trans (pre_app h4 [.list [sBid, v1, v2, a]]))
      exact ⟨p1.trans (q1.trans (p3.trans pp)), h4.length, .bid v1 v2 a, rfl, by have := len_pre p4; (first | exact om256 l1 len3 len4 this | omega), lst_get _ _, (f3.pre pp).up (by (first | exact om243 l1 len3 | omega)), (f4.pre (pre_app _ _)).up (by (first | exact om257 l1 len3 len4 | omega)), q2.pre (p3.trans pp)⟩
  · (try dsimp only [X_nil, Wp_ok, thenX_next]; try with_reducible rfl)
    refine w_ret (.ref h1.length) (h' := h1 ++ [.list [sBack]]) (by
      simp only [E_lst, Es_cons, E_const, Res.bind_ok, Es_nil]; exact newList_ok (by decide)) ?_
    (try dsimp only [retOf_ret, Wp_ok]; try with_reducible rfl)
    exact ⟨p1.trans (pre_app _ _), h1.length, .back, rfl, by (first | exact om244 l1 | omega), lst_get _ _, trivial⟩
end
end Mine


-- part L09d
set_option maxRecDepth 4000
set_option linter.unusedVariables false
set_option linter.unusedSimpArgs false
namespace Mine
open PySem (Operator UnaryOp CmpOp)

noncomputable def nmC : Option Nat → Val
  | some 2 => .str [84, 111, 111, 77, 97, 110, 121]
  | some 3 => .str [85, 110, 101, 118, 101, 110]
  | some 4 => .str [66, 97, 100, 66, 105, 100]
  | some 6 => .str [78, 111, 80, 101, 114, 115, 111, 110]
  | some 7 => .str [78, 111, 71, 111, 111, 100]
  | _ => .str []
theorem nmC0 : nmC none = .str [] := rfl
theorem nmC2 : nmC (some 2) = .str [84, 111, 111, 77, 97, 110, 121] := rfl
theorem nmC3 : nmC (some 3) = .str [85, 110, 101, 118, 101, 110] := rfl
theorem nmC4 : nmC (some 4) = .str [66, 97, 100, 66, 105, 100] := rfl
theorem nmC6 : nmC (some 6) = .str [78, 111, 80, 101, 114, 115, 111, 110] := rfl
theorem nmC7 : nmC (some 7) = .str [78, 111, 71, 111, 111, 100] := rfl
noncomputable def okPlace (m : Nat) (v : Val) : Bool := match v with | .int x => decide (0 ≤ x ∧ x < (m : Int)) | _ => false
noncomputable def dueC (p g : Nat) : Dd → Option Nat
  | .come _ vs => if 9 ≤ p then some 2 else rowBad g vs
  | .put _ vs => if 40 ≤ g then some 2 else rowBad p vs
  | .leave x => if okPlace p x then none else some 6
  | .take x => if okPlace g x then none else some 7
  | .bid x y a => if okPlace p x then (if okPlace g y then bidBad a else some 7) else some 6
  | .back => none

section
variable {F : Nat → Option MFun} {W n : Nat} {h h' : MH} {C : Cf} {ρ : Rho}

theorem whole_x (hF : F 22 = some f_law_whole) {v : Val} (hv : Vis h v) : callN F W (n + 1) 22 [v] h = .ok (.bool (isI v)) h := by
  rw [callN_def hF rfl]
  cases v with
  | ref i => obtain ⟨⟨k, xs⟩, e⟩ := hv; cases k <;> simp [f_law_whole, isInstV, unV, e, isI]
  | bool b => simp [f_law_whole, isInstV, unV, isI]
  | _ => simp [f_law_whole, isInstV, unV, isI]
theorem isplace_x (hF : F 1 = some f_is_number) (hG : F 2 = some f_is_place) {v : Val} (hv : Vis h v) (m : Nat) : callN F W (n + 2) 2 [v, .int m] h = .ok (.bool (okPlace m v)) h := by
  rw [callN_def hG rfl]
  simp only [f_is_place, X_cons', X_ret, E_and, E_call, Es_cons, E_loc, List.map_cons, List.map_nil, List.cons_append, List.nil_append, locV_zero, Es_nil, Res.bind_ok, isnum_x hF hv, truthy_bool, Res.opt_some]
  cases v with
  | int x =>
    by_cases h0 : 0 ≤ x <;> by_cases h1 : x < (m : Int) <;> simp [isI, okPlace, h0, h1]
  | _ => rfl
theorem lplace_x (hF : F 22 = some f_law_whole) (hG : F 62 = some f_law_is_place) {v : Val} (hv : Vis h v) (m : Nat) : callN F W (n + 2) 62 [v, .int m] h = .ok (.bool (okPlace m v)) h := by
  rw [callN_def hG rfl]
  simp only [f_law_is_place, X_cons', X_ret, E_and, E_call, Es_cons, E_loc, List.map_cons, List.map_nil, List.cons_append, List.nil_append, locV_zero, Es_nil, Res.bind_ok, whole_x hF hv, truthy_bool, Res.opt_some]
  cases v with
  | int x =>
    by_cases h0 : 0 ≤ x <;> by_cases h1 : x < (m : Int) <;> simp [isI, okPlace, h0, h1]
  | _ => rfl
theorem fine_x (hF : F 22 = some f_law_whole) (hG : F 35 = some f09_law_fine) {v : Val} (hv : Vis h v) : callN F W (n + 2) 35 [v] h = .ok (.bool (okBid v)) h := by
  rw [callN_def hG rfl]
  simp only [f09_law_fine, X_cons', X_ret, E_and, E_call, Es_cons, E_loc, List.map_cons, List.map_nil, List.cons_append, List.nil_append, locV_zero, Es_nil, Res.bind_ok, whole_x hF hv, truthy_bool, Res.opt_some]
  cases v with
  | int x =>
    by_cases h0 : 0 ≤ x <;> by_cases h1 : x ≤ 1000000000000 <;> simp [isI, okBid, h0, h1]
  | _ => rfl
theorem bad_is {vs : List Val} : vs.findSome? bidBad = if vs.all okBid then none else some 4 := by
  induction vs with
  | nil => rfl
  | cons v vs ih =>
    rw [List.findSome?_cons, List.all_cons]
    cases q : okBid v with
    | true => rw [show bidBad v = none from by simp [bidBad, q]]; simpa using ih
    | false => rw [show bidBad v = some 4 from by simp [bidBad, q]]; rfl
theorem for_ret {f : Val → Rho → MH → Res (MFlow × Rho)} {ck : MH → Bool} {h : MH} (g : Val → Bool) (u : Val) (P : Rho → Prop) (hc : ck h = true) : ∀ (xs : List Val) (ρ : Rho), P ρ →
    (∀ x ∈ xs, ∀ ρ, P ρ → ∃ ρ', P ρ' ∧ f x ρ h = .ok (if g x then .next else .ret u, ρ') h) → ∃ ρ', P ρ' ∧ forLoop f ck xs ρ h = .ok (if xs.all g then .next else .ret u, ρ') h
  | [], ρ, p, _ => ⟨ρ, p, rfl⟩
  | x :: xs, ρ, p, hf => by
    refine ob12 (hf x (.head _) ρ p) fun ρ1 p1 e1 => ?_
    rw [forLoop, e1]
    cases q : g x with
    | true =>
      refine ob12 (for_ret g u P hc xs ρ1 p1 fun y hy => hf y (.tail _ hy)) fun ρ2 p2 e2 => ?_
      exact ⟨ρ2, p2, by simp [q, hc, e2]⟩
    | false => exact ⟨ρ1, p1, by simp [q]⟩
theorem linedue_x (hF : F 22 = some f_law_whole) (hG : F 35 = some f09_law_fine) (hH : F 61 = some f_law_line_due) {l m : Nat} {vs : List Val} (hl : h[l]? = some (.list vs)) (hv : ∀ v ∈ vs, Vis h v) : callN F W (n + 3) 61 [.ref l, .int m] h = .ok (nmC (rowBad m vs)) h := by
  rw [callN_def hH rfl]
  have t : (sem (callN F W (n + 2)) (.cmp .NotEq (.bi .len (.cons (.loc 0) .nil)) (.loc 1))).T [some (.ref l), some (.int m), none] h = .ok (!((vs.length : Int) == m)) h := by
    simp [biV, bi1, biL, onRef, seqOf_list hl]
  show (exec (callN F W (n + 2)) W f_law_line_due.body [some (.ref l), some (.int m), none] h).bind retOf = _
  (try dsimp only [f_law_line_due]; rw [st_if t])
  unfold rowBad
  by_cases q : vs.length = m
  · subst q
    rw [if_pos rfl]
    simp only [BEq.rfl, Bool.not_true, Bool.false_eq_true, if_false, X_nil, Res.bind_ok, thenX_next]
    (try dsimp only [X_cons', X_fors, I_iobj]; try with_reducible rfl)
    simp only [E_loc, locV_zero, Res.bind_ok, srcOf_list hl, Res.opt_some]
    obtain ⟨ρ', p', e⟩ := for_ret (f := forStep (.loc 2) (exec (callN F W (n + 2)) W (.cons (.ifs (.un .Not (.call 35 (.cons (.loc 2) .nil))) (.cons (.ret (.const (.str [66, 97, 100, 66, 105, 100]))) .nil) .nil) .nil))) (ck := fun h' => decide (h'[l]? = some (.list vs))) (h := h) okBid (.str [66, 97, 100, 66, 105, 100]) (fun ρ => ∃ o, ρ = [some (.ref l), some (.int vs.length), o]) (by simp [hl]) vs [some (.ref l), some (.int vs.length), none] ⟨_, rfl⟩ (fun x hx ρ hρ => by
      obtain ⟨o, rfl⟩ := hρ
      refine ⟨[some (.ref l), some (.int vs.length), some x], ⟨_, rfl⟩, ?_⟩
      cases q : okBid x <;> simp [forStep, bindTgt, fine_x hF hG (hv x hx), q])
    rw [e, bad_is]
    cases vs.all okBid <;> simp [nmC0, nmC2, nmC3, nmC4, nmC6, nmC7]
  · have : ¬ (vs.length : Int) = m := by (first | exact om200 q | omega)
    rw [if_neg q]
    simp [this, nmC0, nmC2, nmC3, nmC4, nmC6, nmC7]
end
end Mine


-- part L09e
set_option maxRecDepth 4000
set_option linter.unusedVariables false
set_option linter.unusedSimpArgs false
namespace Mine
open PySem (Operator UnaryOp CmpOp)

section
variable {F : Nat → Option MFun} {W n : Nat} {h h' : MH} {C : Cf} {ρ : Rho}

theorem cmp_eqS (a b : List Nat) : cmpV h .Eq (.str a) (.str b) = some (a == b) := rfl
theorem cmp_neS (a b : List Nat) : cmpV h .NotEq (.str a) (.str b) = some (!(a == b)) := rfl

theorem due_ok (h22 : F 22 = some f_law_whole) (h35 : F 35 = some f09_law_fine) (h61 : F 61 = some f_law_line_due) (h62 : F 62 = some f_law_is_place) (h39 : F 39 = some f_law_due) {b d rw : Nat} {dd : Dd} {rs : List Val} (hd : h[d]? = some (.list dd.vals)) (ok : Dd.ok b h d dd) (hr : seqOf h rw = some (true, rs)) (hp : rs.length ≤ 9) (g : Nat) (hg : g ≤ 40) :
    callN F W (n + 4) 39 [.ref d, .ref rw, .int g] h = .ok (nmC (dueC rs.length g dd)) h := by
  rw [callN_def h39 rfl]
  have S : ∀ {k : Int} {v : Val}, 0 ≤ k → dd.vals[k.toNat]? = some v → subV h (.ref d) (.int k) = some v := fun {k v} h0 hv => sub_ref (seqOf_list hd) h0 hv
  have len : biV h .len [.ref rw] = .ok (.int rs.length) h := by simp [biV, bi1, biL, onRef, hr]
  have pl := fun {v : Val} (hv : Vis h v) (m : Nat) => lplace_x (W := W) (n := n + 1) h22 h62 hv m
  have fi := fun {v : Val} (hv : Vis h v) => fine_x (W := W) (n := n + 1) h22 h35 hv
  have ld := fun {l m : Nat} {vs : List Val} (hl : h[l]? = some (.list vs)) (hv : ∀ v ∈ vs, Vis h v) => linedue_x (W := W) (n := n) (m := m) h22 h35 h61 hl hv
  show (exec (callN F W (n + 3)) W f_law_due.body [some (.ref d), some (.ref rw), some (.int g), none] h).bind retOf = _
  generalize callN F W (n + 3) = C at pl fi ld
  cases dd with
  | come l vs =>
    obtain ⟨⟨_, hl, _, hv⟩, _⟩ := ok
    have s0 := S (k := 0) (by (first | exact om168 | omega)) rfl
    have s1 := S (k := 1) (by (first | exact om258 | omega)) rfl
    have := ld (m := g) hl fun v hv' => (hv v hv').1.vis
    unfold dueC
    by_cases q : rs.length = 9
    · simp [f_law_due, s0, sCome, cmp_eqS, len, q, nmC0, nmC2, nmC3, nmC4, nmC6, nmC7]
    · have q1 : ¬ (rs.length : Int) = 9 := by (first | exact om259 q | omega)
      have q2 : ¬ 9 ≤ rs.length := by (first | exact om260 hp q1 | omega)
      simp [f_law_due, s0, s1, sCome, cmp_eqS, len, q1, q2, this]
  | put l vs =>
    obtain ⟨⟨_, hl, _, hv⟩, _⟩ := ok
    have s0 := S (k := 0) (by (first | exact om168 | omega)) rfl
    have s1 := S (k := 1) (by (first | exact om258 | omega)) rfl
    have := ld (m := rs.length) hl fun v hv' => (hv v hv').1.vis
    unfold dueC
    by_cases q : g = 40
    · simp [f_law_due, s0, sPut, cmp_eqS, len, q, nmC0, nmC2, nmC3, nmC4, nmC6, nmC7]
    · have q1 : ¬ (g : Int) = 40 := by (first | exact om261 q | omega)
      have q2 : ¬ 40 ≤ g := by (first | exact om262 hg q1 | omega)
      simp [f_law_due, s0, s1, sPut, cmp_eqS, len, q1, q2, this]
  | leave p =>
    have s0 := S (k := 0) (by (first | exact om168 | omega)) rfl
    have s1 := S (k := 1) (by (first | exact om258 | omega)) rfl
    have := pl ok.1.vis rs.length
    unfold dueC
    cases q : okPlace rs.length p <;> simp [f_law_due, s0, s1, sLeave, cmp_eqS, len, this, q, nmC0, nmC2, nmC3, nmC4, nmC6, nmC7]
  | take p =>
    have s0 := S (k := 0) (by (first | exact om168 | omega)) rfl
    have s1 := S (k := 1) (by (first | exact om258 | omega)) rfl
    have := pl ok.1.vis g
    unfold dueC
    cases q : okPlace g p <;> simp [f_law_due, s0, s1, sTake, cmp_eqS, len, this, q, nmC0, nmC2, nmC3, nmC4, nmC6, nmC7]
  | bid p y a =>
    have s0 := S (k := 0) (by (first | exact om168 | omega)) rfl
    have s1 := S (k := 1) (by (first | exact om258 | omega)) rfl
    have s2 := S (k := 2) (by (first | exact om263 | omega)) rfl
    have s3 := S (k := 3) (by (first | exact om264 | omega)) rfl
    have t1 := pl ok.1.vis rs.length
    have t2 := pl ok.2.1.vis g
    have t3 := fi ok.2.2.vis
    unfold dueC
    cases q1 : okPlace rs.length p
    · simp [f_law_due, s0, s1, sBid, cmp_eqS, len, t1, q1, nmC0, nmC2, nmC3, nmC4, nmC6, nmC7]
    · cases q2 : okPlace g y
      · simp [f_law_due, s0, s1, s2, sBid, cmp_eqS, len, t1, t2, q1, q2, nmC0, nmC2, nmC3, nmC4, nmC6, nmC7]
      · cases q3 : okBid a <;> simp [f_law_due, s0, s1, s2, s3, sBid, cmp_eqS, len, t1, t2, t3, q1, q2, q3, nmC0, nmC2, nmC3, nmC4, nmC6, nmC7, bidBad]
  | back =>
    have s0 := S (k := 0) (by (first | exact om168 | omega)) rfl
    simp [f_law_due, s0, sBack, cmp_eqS, dueC, nmC0, nmC2, nmC3, nmC4, nmC6, nmC7]
end
end Mine


-- part L09f
set_option maxRecDepth 4000
set_option linter.unusedVariables false
set_option linter.unusedSimpArgs false
namespace Mine
open PySem (Operator UnaryOp CmpOp)

/-- all but some places stand as they are -/
structure Keep (M : Nat → Prop) (h h' : MH) : Prop where
  len : h.length ≤ h'.length
  kp : ∀ i o, ¬ M i → h[i]? = some o → h'[i]? = some o
  sp : ∀ i o, Sp i → h[i]? = some o → h'[i]? = some o
theorem Keep.refl {M : Nat → Prop} {h : MH} : Keep M h h := ⟨Nat.le_refl _, fun _ _ _ e => e, fun _ _ _ e => e⟩
theorem Keep.trans {M : Nat → Prop} {h h' h'' : MH} (a : Keep M h h') (b : Keep M h' h'') : Keep M h h'' := ⟨Nat.le_trans a.1 b.1, fun i o m e => b.2 i o m (a.2 i o m e), fun i o m e => b.3 i o m (a.3 i o m e)⟩
theorem Keep.of_pre {M : Nat → Prop} {h h' : MH} (p : h <+: h') : Keep M h h' := ⟨len_pre p, fun i o _ e => get_pre p e, fun i o _ e => get_pre p e⟩
theorem Keep.set {M : Nat → Prop} {h h' : MH} {i : Nat} {o : MObj} (k : Keep M h h') (m : M i) (ns : ¬ Sp i) : Keep M h (h'.set i o) := ⟨by simpa using k.1, fun j o' nm e => by
  rw [List.getElem?_set_ne (fun z : i = j => nm (z ▸ m))]; exact k.2 j o' nm e, fun j o' nm e => by
  rw [List.getElem?_set_ne (fun z : i = j => ns (z ▸ nm))]; exact k.3 j o' nm e⟩
theorem Keep.weak {M M' : Nat → Prop} {h h' : MH} (k : Keep M h h') (w : ∀ i, M i → M' i) : Keep M' h h' := ⟨k.1, fun i o m e => k.2 i o (fun z => m (w i z)) e, k.3⟩
theorem Keep.lo {M : Nat → Prop} {b : Nat} {h h' : MH} (k : Keep M h h') (hM : ∀ i, M i → i < b) (i : Nat) (o : MObj) (l : Lo b i) : h[i]? = some o → h'[i]? = some o := match l with
  | .inl hi => k.2 i o fun m => absurd (hM i m) (Nat.not_lt.mpr hi)
  | .inr hi => k.3 i o hi
theorem Keep.rd {M : Nat → Prop} {b : Nat} {h h' : MH} (k : Keep M h h') (hM : ∀ i, M i → i < b) {t : Tr} {v : Val} (r : Rd b h t v) : Rd b h' t v := r.mono' (Nat.le_refl _) (k.lo hM)
theorem Keep.rdl {M : Nat → Prop} {b : Nat} {h h' : MH} (k : Keep M h h') (hM : ∀ i, M i → i < b) {t : List Tr} {v : List Val} (r : RdL b h t v) : RdL b h' t v := r.mono' (Nat.le_refl _) (k.lo hM)
theorem notSp {l : Nat} (h : 18 < l) : ¬ Sp l := fun q => by rcases q with q | q <;> (first | exact om265 h q | exact om266 h q | omega)
theorem Lo.ne {b a i : Nat} (l : Lo b a) (hi : i < b) (ns : ¬ Sp i) : i ≠ a := fun z => l.elim (fun l => by (first | exact om267 hi z l | omega)) fun q => ns (z ▸ q)
theorem Rd.low {b b' : Nat} {h : MH} {t : Tr} {v : Val} (r : Rd b' h t v) (hb : b ≤ b') : Rd b h t v := r.mono' hb fun _ _ _ e => e
theorem RdL.low {b b' : Nat} {h : MH} {t : List Tr} {v : List Val} (r : RdL b' h t v) (hb : b ≤ b') : RdL b h t v := r.mono' hb fun _ _ _ e => e

noncomputable def tPast (p : List (List Int) × Nat) : Tr := .tup [tII p.1, .int p.2]
structure Rows (rows : List (List Int)) (g : Nat) : Prop where
  p9 : rows.length ≤ 9
  g40 : g ≤ 40
  row : ∀ r ∈ rows, r.length = g ∧ ∀ x ∈ r, 0 ≤ x ∧ x ≤ 1000000000000
structure TabI (b t pt : Nat) (h : MH) (rows : List (List Int)) (g : Nat) (past : List (List (List Int) × Nat)) : Prop where
  hi : ∃ k, h[t]? = some (.inst [some (.ref k), some (.int g), some (.ref pt)]) ∧ Rd b h (tII rows) (.ref k)
  hp : ∃ pvs, h[pt]? = some (.list pvs) ∧ RdL b h (past.map tPast) pvs
  tb : t < b
  pb : pt < b
  ne : t ≠ pt
  pl : past.length ≤ 5000
  rw : Rows rows g
  pr : ∀ q ∈ past, Rows q.1 q.2
  ns : ¬ Sp t ∧ ¬ Sp pt ∧ 18 < b
noncomputable def TM (t pt : Nat) (i : Nat) : Prop := i = t ∨ i = pt
theorem TabI.m {b t pt : Nat} {h : MH} {rows : List (List Int)} {g : Nat} {past : List (List (List Int) × Nat)} (T : TabI b t pt h rows g past) : ∀ i, TM t pt i → i < b := fun i m => by rcases m with rfl | rfl; exact T.tb; exact T.pb
theorem TabI.grow {b t pt : Nat} {h h' : MH} {rows : List (List Int)} {g : Nat} {past : List (List (List Int) × Nat)} (T : TabI b t pt h rows g past) (p : h <+: h') : TabI b t pt h' rows g past := by
  refine ob12 T.hi fun k i1 i2 => ?_; refine ob12 T.hp fun pvs q1 q2 => ?_; have a := T.tb; have c := T.pb; have d := T.ne; have e := T.pl; have f := T.rw; have f' := T.pr; have f2 := T.ns
  exact ⟨⟨k, get_pre p i1, i2.mono p⟩, ⟨pvs, get_pre p q1, q2.mono p⟩, a, c, d, e, f, f', f2⟩

section
variable {F : Nat → Option MFun} {W n : Nat} {h h' : MH} {C : Cf} {ρ : Rho} {b t pt : Nat} {rows rows' : List (List Int)} {g g' : Nat} {past : List (List (List Int) × Nat)}

theorem attr_0 {k : Nat} {a : Val} {x c : Option Val} (e : h[t]? = some (.inst [some a, x, c])) : attrV 0 (.ref t) h = .ok a h := by simp [attrV, onInst, e, fieldV]
theorem attr_1 {k : Nat} {a : Val} {x c : Option Val} (e : h[t]? = some (.inst [x, some a, c])) : attrV 1 (.ref t) h = .ok a h := by simp [attrV, onInst, e, fieldV]
theorem attr_2 {k : Nat} {a : Val} {x c : Option Val} (e : h[t]? = some (.inst [x, c, some a])) : attrV 2 (.ref t) h = .ok a h := by simp [attrV, onInst, e, fieldV]

noncomputable def becH (h : MH) (t pt k : Nat) (g : Nat) (pvs : List Val) (a g' : Nat) : MH :=
  (((h ++ ([.tup [.ref k, .int g]] : MH)).set pt (MObj.list (pvs ++ [Val.ref h.length]))).set t (.inst [some (.ref a), some (.int g), some (.ref pt)])).set t (.inst [some (.ref a), some (.int g'), some (.ref pt)])
theorem becH_set {k a : Nat} {pvs : List Val} {l : Nat} {o : MObj} (hl : l < h.length) (n1 : l ≠ t) (n2 : l ≠ pt) : (becH h t pt k g pvs a g').set l o = becH (h.set l o) t pt k g pvs a g' := by
  unfold becH
  rw [List.set_comm _ _ (Ne.symm n1), List.set_comm _ _ (Ne.symm n1), List.set_comm _ _ (Ne.symm n2), List.set_append_left _ _ hl, List.length_set]
theorem becH_tab (T : TabI b t pt h rows g past) {k a : Nat} {pvs : List Val} (i1 : h[t]? = some (.inst [some (.ref k), some (.int g), some (.ref pt)])) (q1 : h[pt]? = some (.list pvs)) (ha : Rd b h (tII rows') (.ref a)) (hr : Rows rows' g') (hp : past.length < 5000) (hb : b ≤ h.length) :
    Keep (TM t pt) h (becH h t pt k g pvs a g') ∧ TabI b t pt (becH h t pt k g pvs a g') rows' g' (past ++ [(rows, g)]) := by
  refine ob12 T.hi fun k' i1' i2 => ?_; refine ob12 T.hp fun pvs' q1' q2 => ?_; have tb := T.tb; have pb := T.pb; have ne := T.ne; have pl := T.pl; have rw' := T.rw; have pr := T.pr; have ns := T.ns
  rw [i1] at i1'
  cases i1'
  rw [q1] at q1'
  cases q1'
  have lt := (List.getElem?_eq_some_iff.mp i1).1
  have lp := (List.getElem?_eq_some_iff.mp q1).1
  let h1 := h ++ [.tup [.ref k, .int g]]
  let h2 := h1.set pt (.list (pvs ++ [.ref h.length]))
  let h3 := h2.set t (.inst [some (.ref a), some (.int g), some (.ref pt)])
  have l1 : h1.length = h.length + 1 := by simp [h1]
  have K : Keep (TM t pt) h (becH h t pt k g pvs a g') := (((Keep.of_pre (pre_app _ _)).set (.inr rfl) ns.2.1).set (.inl rfl) ns.1).set (.inl rfl) ns.1
  have hM : ∀ i, TM t pt i → i < b := fun i m => by rcases m with rfl | rfl; exact tb; exact pb
  refine ⟨K, ⟨a, by show (h3.set _ _)[t]? = _; rw [List.getElem?_set_self (by simp [h3, h2, l1]; (first | exact om268 lt | omega))], K.rd hM ha⟩, ⟨pvs ++ [.ref h.length], ?_, ?_⟩, tb, pb, ne, by simp; (first | exact om269 hp | omega), hr, fun q hq => by
    rcases List.mem_append.mp hq with hq | hq
    · exact pr q hq
    · rw [List.mem_singleton.mp hq]; exact rw', ns⟩
  · show ((h2.set _ _).set _ _)[pt]? = _
    rw [List.getElem?_set_ne ne, List.getElem?_set_ne ne]
    show (h1.set _ _)[pt]? = _
    rw [List.getElem?_set_self (by (first | exact om270 lp l1 | omega))]
  · rw [List.map_append]
    refine (K.rdl hM q2).append (.cons (Rd.mkTup hb (a := h.length) (rs := [.ref k, .int g]) ?_ (.cons (K.rd hM i2) (.cons Rd.mkInt .nil))) .nil)
    have : h1[h.length]? = some (.tup [.ref k, .int g]) := lst_get _ _
    show (((h1.set _ _).set _ _).set _ _)[h.length]? = _
    rw [List.getElem?_set_ne (by (first | exact om271 lt | omega)), List.getElem?_set_ne (by (first | exact om271 lt | omega)), List.getElem?_set_ne (by (first | exact om271 lp | omega))]
    exact this
theorem pre_set2 {l : Nat} {o : MObj} (p : h <+: h') (hl : l < h.length) : h.set l o <+: h'.set l o := by
  obtain ⟨x, rfl⟩ := p
  rw [List.set_append_left _ _ hl]; exact ⟨x, rfl⟩
/-- what a done deed leaves; and it leaves so whatever stands at a place beside -/
noncomputable def Done (b t pt : Nat) (h : MH) (r0 : List (List Int)) (g0 : Nat) (p0 : List (List (List Int) × Nat)) (rows : List (List Int)) (g : Nat) (past : List (List (List Int) × Nat)) (v : Val) (h' : MH) : Prop :=
  v = .none ∧ Keep (TM t pt) h h' ∧ TabI b t pt h' rows g past ∧ ∀ l o, l < h.length → ¬ Sp l → l ≠ t → l ≠ pt → TabI b t pt (h.set l o) r0 g0 p0 → TabI b t pt (h'.set l o) rows g past
theorem become_ok (hF : F 80 = some f_T_become) {h0 : MH} (p0 : h0 <+: h) (T0 : TabI b t pt h0 rows g past) {a : Nat} (ha : Rd h0.length h (tII rows') (.ref a)) (hr : Rows rows' g') (hp : past.length < 5000) (hb : b ≤ h0.length) :
    Wp (callN F W (n + 1) 80 [.ref t, .ref a, .int g'] h) (Done b t pt h0 rows g past rows' g' (past ++ [(rows, g)])) := by
  have T := T0.grow p0
  have l0 := len_pre p0
  have T2 := T
  refine ob12 T.hi fun k i1 i2 => ?_; refine ob12 T.hp fun pvs q1 q2 => ?_; have tb := T.tb; have pb := T.pb; have ne := T.ne; have pl := T.pl; have rw' := T.rw; have pr := T.pr; have ns := T.ns
  have lt := (List.getElem?_eq_some_iff.mp i1).1
  have lp := (List.getElem?_eq_some_iff.mp q1).1
  let h1 := h ++ [.tup [.ref k, .int g]]
  have e1 : h1[t]? = some (.inst [some (.ref k), some (.int g), some (.ref pt)]) := get_pre (pre_app _ _) i1
  have e2 : h1[pt]? = some (.list pvs) := get_pre (pre_app _ _) q1
  let h2 := h1.set pt (.list (pvs ++ [.ref h.length]))
  have e3 : h2[t]? = some (.inst [some (.ref k), some (.int g), some (.ref pt)]) := by show (h1.set _ _)[t]? = _; rw [List.getElem?_set_ne (Ne.symm ne)]; exact e1
  let h3 := h2.set t (.inst [some (.ref a), some (.int g), some (.ref pt)])
  have l1 : h1.length = h.length + 1 := by simp [h1]
  have e4 : h3[t]? = some (.inst [some (.ref a), some (.int g), some (.ref pt)]) := by show (h2.set _ _)[t]? = _; rw [List.getElem?_set_self (by simp [h2, l1]; (first | exact om268 lt | omega))]
  let h4 := becH h t pt k g pvs a g'
  have run : callN F W (n + 1) 80 [.ref t, .ref a, .int g'] h = .ok .none h4 := by
    rw [callN_def hF rfl]
    have m1 : meOk h .append (.ref pt) = true := meOk_append q1
    have m2 : meV h1 .append (.ref pt) [.ref h.length] = .ok .none h2 := append_ok e2 (by have := q2.length; simp at this; (first | exact om272 pl this | omega))
    show (exec (callN F W n) W f_T_become.body [some (.ref t), some (.ref a), some (.int g')] h).bind retOf = _
    generalize callN F W n = C
    have a0 : (sem C (.attr (.loc 0) 0)).E [some (.ref t), some (.ref a), some (.int g')] h = .ok (.ref k) h := attr_0 (k := 0) i1
    have a1 : (sem C (.attr (.loc 0) 1)).E [some (.ref t), some (.ref a), some (.int g')] h = .ok (.int g) h := attr_1 (k := 0) i1
    have a2 : (sem C (.attr (.loc 0) 2)).E [some (.ref t), some (.ref a), some (.int g')] h = .ok (.ref pt) h := attr_2 (k := 0) i1
    (try dsimp only [f_T_become, X_cons', X_expr, E_meth]; rw [a2]; try dsimp only [Res.bind_ok]; rw [m1, if_pos rfl])
    simp only [Es_cons, E_tup, a0, a1, Res.bind_ok, Es_nil]
    rw [if_pos (show [Val.ref k, Val.int g].length ≤ lim from by simp [lim])]
    show (((meV h1 .append (.ref pt) [.ref h.length]).bind _).bind _).bind _ = _
    rw [m2]
    simp only [Res.bind_ok, thenX_next, X_cons', X_nil]
    have x1 : exec C W (.aattr (.loc 0) 0 (.loc 1)) [some (.ref t), some (.ref a), some (.int g')] h2 = .ok (.next, [some (.ref t), some (.ref a), some (.int g')]) h3 := by
      show (aattrV 0 (.ref t) (.ref a) h2).bind _ = _
      simp [aattrV, onInst, e3, h3]
    have x2 : exec C W (.aattr (.loc 0) 1 (.loc 2)) [some (.ref t), some (.ref a), some (.int g')] h3 = .ok (.next, [some (.ref t), some (.ref a), some (.int g')]) h4 := by
      show (aattrV 1 (.ref t) (.int g') h3).bind _ = _
      simp [aattrV, onInst, e4, h4, becH, h3, h2, h1]
    rw [x1]
    simp only [Res.bind_ok, thenX_next, X_cons', X_nil]
    rw [x2]; rfl
  rw [run]
  obtain ⟨K, T4⟩ := becH_tab T2 i1 q1 (ha.mono' hb fun _ _ _ e => e) hr hp (by (first | exact om273 hb l0 | omega))
  refine ⟨rfl, (Keep.of_pre p0).trans K, T4, fun l o hl ns n1 n2 Tl => ?_⟩
  have pp := pre_set2 (o := o) p0 hl
  have := becH_tab (Tl.grow pp) (k := k) (a := a) (pvs := pvs) (rows' := rows') (g' := g') (by rw [List.getElem?_set_ne n1]; exact i1) (by rw [List.getElem?_set_ne n2]; exact q1) (ha.mono' hb fun i x hi e => by rw [List.getElem?_set_ne (fun z => by subst z; exact hi.elim (fun z => by (first | exact om221 hl z | omega)) ns)]; exact e) hr hp (by simp; (first | exact om273 hb l0 | omega))
  rw [show h4.set l o = becH (h.set l o) t pt k g pvs a g' from becH_set (by (first | exact om274 l0 hl | omega)) n1 n2]
  exact this.2
end
end Mine


-- part L09g
set_option maxRecDepth 4000
set_option linter.unusedVariables false
set_option linter.unusedSimpArgs false
namespace Mine
open PySem (Operator UnaryOp CmpOp)

section
variable {F : Nat → Option MFun} {W n : Nat} {h h' : MH} {C : Cf} {ρ : Rho} {b t pt : Nat} {rows rows' : List (List Int)} {g g' : Nat} {past : List (List (List Int) × Nat)}

theorem Wp_of {α : Type} {r : Res α} {a : α} {h' : MH} {P : α → MH → Prop} (e : r = .ok a h') (k : P a h') : Wp r P := by rw [e]; exact k
theorem TabI.len (T : TabI b t pt h rows g past) (hρ : locV 0 ρ h = .ok (.ref t) h) : (sem C (.bi .len (.cons (.attr (.loc 0) 0) .nil))).E ρ h = .ok (.int rows.length) h := by
  refine ob12 T.hi fun k i1 i2 => ?_
  have a0 : (sem C (.attr (.loc 0) 0)).E ρ h = .ok (.ref k) h := by
    show ((locV 0 ρ h).bind (attrV 0)) = _
    rw [hρ]; exact attr_0 (k := 0) i1
  (try dsimp only [E_bi, Es_cons]; rw [a0])
  simp only [Res.bind_ok, Es_nil]
  rw [len_rd i2]; simp
theorem TabI.goods (T : TabI b t pt h rows g past) (hρ : locV 0 ρ h = .ok (.ref t) h) : (sem C (.attr (.loc 0) 1)).E ρ h = .ok (.int g) h := by
  refine ob12 T.hi fun k i1 i2 => ?_
  show ((locV 0 ρ h).bind (attrV 1)) = _
  rw [hρ]; exact attr_1 (k := 0) i1
theorem TabI.isIV (T : TabI b t pt h rows g past) : isIV h (.ref t) = true := by
  refine ob12 T.hi fun k i1 i2 => ?_
  simp [Mine.isIV, i1]
theorem mcall_E {f : Nat} {args : MExpr} {vs : List Val} (T : TabI b t pt h rows g past) (hρ : locV 0 ρ h = .ok (.ref t) h) (ha : (sem C args).Es ρ h = .ok vs h') : (sem C (.mcall f (.loc 0) args)).E ρ h = C f (.ref t :: vs) h' := by
  show ((locV 0 ρ h).bind fun v h => if Mine.isIV h v then ((sem C args).Es ρ h).bind fun vs h => C f (v :: vs) h else .stuck) = _
  (rw [hρ]; try dsimp only [Res.bind_ok]; rw [T.isIV, if_pos rfl, ha]); rfl

theorem copy_eq {C : Cf} {i : Nat} {ρ : Rho} {ck : MH → Bool} (hi : i < ρ.length) (hck : ∀ h', h <+: h' → ck h' = true) : ∀ (xss : List (List Int)) (rs : List Val) (h0 : MH), h <+: h0 → RdL b h (xss.map tI) rs → (∀ x ∈ xss, x.length ≤ 1000) →
    compLoop (compStep (.loc i) (sem C (.const (.bool true))).T (sem C (.bi .list (.cons (.loc i) .nil))).E ρ) ck rs h0 = .ok ((List.range xss.length).map fun k => .ref (h0.length + k)) (h0 ++ xss.map fun z => .list (z.map .int))
  | [], rs, h0, p, r, _ => by
    rw [List.map_nil, RdL] at r
    subst r
    simp [compLoop]
  | x :: xss, rs, h0, p, r, hl => by
    rw [List.map_cons, RdL] at r
    refine ob23 r fun v vs ez3x2 r1 r2 => ?_; clear r; subst ez3x2
    refine ob13 r1.ints fun c ez4x1 _ hc => ?_; subst ez4x1
    have lx := hl x (.head _)
    have e : compStep (.loc i) (sem C (.const (.bool true))).T (sem C (.bi .list (.cons (.loc i) .nil))).E ρ (.ref c) h0 = .ok (some (.ref h0.length)) (h0 ++ [.list (x.map .int)]) := by
      have lv : locV i (ρ.set i (some (.ref c))) h0 = .ok (.ref c) h0 := by simp [locV, hi]
      simp [compStep, bindTgt, lv, biV, bi1, bi2, biL, biSum, biList, onRef, get_pre p hc, newList_ok (xs := x.map .int) (h := h0) (by simp; (first | exact om192 lx | omega))]
    have pp := p.trans (pre_app h0 [.list (x.map .int)])
    rw [compLoop, e]
    simp only [Res.bind_ok]
    rw [if_pos (hck _ pp), copy_eq hi hck xss vs _ pp r2 fun y hy => hl y (.tail _ hy)]
    simp only [Res.bind_ok, List.length_append, List.length_cons, List.length_nil, List.map_cons, List.append_assoc, List.cons_append, List.nil_append, List.range_succ_eq_map, List.map_map, Nat.add_zero]
    congr 2
    apply List.map_congr_left
    intro k _
    simp [Nat.add_assoc, Nat.add_comm 1 k]
/-- the rows' copies lie behind all -/
noncomputable def RowsH (h : MH) (rows : List (List Int)) : MH := HP h rows [.list ((List.range rows.length).map fun k => .ref (h.length + k))]
theorem rows_eq (hF : F 89 = some f_T_rows) (T : TabI b t pt h rows g past) : callN F W (n + 1) 89 [.ref t] h = .ok (.ref (h.length + rows.length)) (RowsH h rows) := by
  rw [callN_def hF rfl]
  refine ob12 T.hi fun k i1 i2 => ?_
  refine ob24 i2.list fun a rs e _ h3 h4 => ?_
  cases e
  show (exec (callN F W n) W f_T_rows.body [some (.ref t), none] h).bind retOf = _
  generalize callN F W n = C
  have src : (sem C (.iobj (.attr (.loc 0) 0))).I [some (.ref t), none] h = .ok (rs, fun h' => decide (h'[k]? = some (.list rs))) h := by
    (try dsimp only [I_iobj]; try with_reducible rfl)
    show ((attrV 0 (.ref t) h).bind _) = _
    (rw [attr_0 (k := 0) i1]; try dsimp only [Res.bind_ok]; rw [srcOf_list h3]); rfl
  rw [f_T_rows, X_cons', X_ret, E_comp, src, Res.bind_ok]
  simp only
  (rw [copy_eq (C := C) (h := h) (b := b) (i := 1) (ρ := [some (.ref t), none]) (by simp) (fun h' p => by simp [get_pre p h3]) rows rs h (List.prefix_refl _) h4 (fun x hx => by have := (T.rw.row x hx).1; have := T.rw.g40; (first | exact om275 ‹_› this | omega))]; try dsimp only [Res.bind_ok]; rw [newList_ok (by simp; have := T.rw.p9; (first | exact om276 this | omega))])
  simp [RowsH, HP]
theorem RowsH.pre : h <+: RowsH h rows := HP_pre
theorem RowsH.rd : Rd h.length (RowsH h rows) (tII rows) (.ref (h.length + rows.length)) := HP_rd

theorem person_x (h1 : F 1 = some f_is_number) (h2 : F 2 = some f_is_place) (hF : F 81 = some f_T_need_person) (T : TabI b t pt h rows g past) {p : Val} (hp : Vis h p) : callN F W (n + 3) 81 [.ref t, p] h = if okPlace rows.length p then .ok .none h else .exc 6 h := by
  rw [callN_def hF rfl]
  have := isplace_x (W := W) (n := n) h1 h2 hp rows.length
  show (exec (callN F W (n + 2)) W f_T_need_person.body [some (.ref t), some p] h).bind retOf = _
  generalize callN F W (n + 2) = C at this
  (try dsimp only [f_T_need_person, X_cons', X_ifs, T_not, T_call, E_call, Es_cons, E_loc, locV_zero, locV_succ, Res.bind_ok]; rw [T.len rfl])
  simp only [Res.bind_ok, Es_nil, this, truthy_bool, Res.opt_some]
  cases okPlace rows.length p <;> rfl
theorem good_x (h1 : F 1 = some f_is_number) (h2 : F 2 = some f_is_place) (hF : F 82 = some f_T_need_good) (T : TabI b t pt h rows g past) {p : Val} (hp : Vis h p) : callN F W (n + 3) 82 [.ref t, p] h = if okPlace g p then .ok .none h else .exc 7 h := by
  rw [callN_def hF rfl]
  have := isplace_x (W := W) (n := n) h1 h2 hp g
  show (exec (callN F W (n + 2)) W f_T_need_good.body [some (.ref t), some p] h).bind retOf = _
  generalize callN F W (n + 2) = C at this
  (try dsimp only [f_T_need_good, X_cons', X_ifs, T_not, T_call, E_call, Es_cons, E_loc, locV_zero, locV_succ, Res.bind_ok]; rw [T.goods rfl])
  simp only [Res.bind_ok, Es_nil, this, truthy_bool, Res.opt_some]
  cases okPlace g p <;> rfl

theorem row_ints {m : Nat} {vs : List Val} (e : rowBad m vs = none) : ∃ xs : List Int, vs = xs.map .int ∧ xs.length = m ∧ ∀ x ∈ xs, 0 ≤ x ∧ x ≤ 1000000000000 := by
  unfold rowBad at e
  split at e
  · rename_i hl
    rw [bad_is] at e
    split at e
    · rename_i ha
      rw [List.all_eq_true] at ha
      refine ⟨vs.map fun v => match v with | .int i => i | _ => 0, ?_, by simp [hl], ?_⟩
      · rw [List.map_map]
        conv => lhs; rw [← List.map_id vs]
        apply List.map_congr_left
        intro v hv
        have := ha v hv
        cases v <;> simp [okBid] at this ⊢
      · intro x hx
        refine ob12 (List.mem_map.mp hx) fun v hv ez7x2 => ?_; subst ez7x2
        have := ha v hv
        cases v <;> simp [okBid] at this ⊢
        exact this
    · cases e
  · cases e

theorem come_bad (h1 : F 1 = some f_is_number) (h3 : F 3 = some f_need_bids) (h4 : F 4 = some f_need_row) (hF : F 83 = some f_T_come) (T : TabI b t pt h rows g past) {l : Nat} {vs : List Val} (hl : h[l]? = some (.list vs)) (hv : ∀ v ∈ vs, Vis h v) {k : Nat} (e : dueC rows.length g (.come l vs) = some k) : callN F W (n + 4) 83 [.ref t, .ref l] h = .exc k h := by
  rw [callN_def hF rfl]
  have nr := needrow_x (W := W) (n := n) h1 h3 h4 (m := g) hl hv
  show (exec (callN F W (n + 3)) W f_T_come.body [some (.ref t), some (.ref l)] h).bind retOf = _
  generalize callN F W (n + 3) = C at nr
  have e : (if 9 ≤ rows.length then some 2 else rowBad g vs) = some k := e
  (try dsimp only [f_T_come, X_cons', X_ifs, T_cmp]; rw [T.len rfl])
  simp only [Res.bind_ok, E_gconst, cmp_ge, Res.opt_some]
  by_cases q : 9 ≤ rows.length
  · rw [if_pos q] at e
    cases e
    rw [decide_eq_true (by (first | exact om277 q | omega))]; rfl
  · rw [if_neg q] at e
    rw [decide_eq_false (by (first | exact om278 q | omega))]
    simp only [Bool.false_eq_true, if_false, X_nil, Res.bind_ok, thenX_next, X_cons', X_expr, E_call, Es_cons, E_loc, locV_succ, locV_zero]
    rw [T.goods rfl]
    simp only [Res.bind_ok, Es_nil, nr, e]
    rfl

theorem come_good (h1 : F 1 = some f_is_number) (h3 : F 3 = some f_need_bids) (h4 : F 4 = some f_need_row) (h80 : F 80 = some f_T_become) (h89 : F 89 = some f_T_rows) (hF : F 83 = some f_T_come) (T : TabI b t pt h rows g past) {l : Nat} {vs : List Val} (hl : h[l]? = some (.list vs)) (hv : ∀ v ∈ vs, Vis h v) (e : dueC rows.length g (.come l vs) = none) (hp : past.length < 5000) (hb : b ≤ h.length) :
    ∃ xs : List Int, vs = xs.map .int ∧ Wp (callN F W (n + 4) 83 [.ref t, .ref l] h) (Done b t pt h rows g past (rows ++ [xs]) g (past ++ [(rows, g)])) := by
  have e : (if 9 ≤ rows.length then some 2 else rowBad g vs) = none := e
  have q : ¬ 9 ≤ rows.length := fun q => by rw [if_pos q] at e; cases e
  rw [if_neg q] at e
  refine ob13 (row_ints e) fun xs ez8x1 lx bx => ?_; subst ez8x1
  refine ⟨xs, rfl, ?_⟩
  rw [callN_def hF rfl, Wp_bind]
  have nr := needrow_x (W := W) (n := n) h1 h3 h4 (m := g) hl hv
  have ro := rows_eq (W := W) (n := n + 2) h89 T
  have bc := fun {h' : MH} {a : Nat} {rows' : List (List Int)} (p' : h <+: h') (ha : Rd h.length h' (tII rows') (.ref a)) (hr : Rows rows' g) => become_ok (W := W) (n := n + 2) h80 p' T ha hr hp hb
  show Wp (exec (callN F W (n + 3)) W f_T_come.body [some (.ref t), some (.ref l)] h) _
  generalize callN F W (n + 3) = C at nr ro bc
  (try dsimp only [f_T_come]; try with_reducible rfl)
  refine w_skip (h' := h) (by (try dsimp only [T_cmp]; rw [T.len rfl]); simp only [Res.bind_ok, E_gconst, cmp_ge, Res.opt_some]; rw [decide_eq_false (by (first | exact om278 q | omega))]) ?_
  refine w_expr .none (h' := h) (by
    simp only [E_call, Es_cons, E_loc, locV_succ, locV_zero, Res.bind_ok]
    rw [T.goods rfl]
    simp only [Res.bind_ok, Es_nil, nr, e]; rfl) ?_
  obtain ⟨v1, h2, e2, p2, r2⟩ : ∃ v1 h2, C 89 [.ref t] h = .ok v1 h2 ∧ h <+: h2 ∧ Rd h.length h2 (tII rows) v1 := ⟨_, _, ro, RowsH.pre, RowsH.rd⟩
  refine ob24 r2.list fun a1 rs ez9x2 b1 g1 rl => ?_; subst ez9x2
  let h3' := h2 ++ [.list (xs.map .int)]
  let h4' := h3' ++ [.list [.ref h2.length]]
  let h5' := h4' ++ [.list (rs ++ [.ref h2.length])]
  have pp : h2 <+: h5' := (pre_app _ _).trans ((pre_app _ _).trans (pre_app _ _))
  have T2 := T.grow (p2.trans pp)
  have l2 := len_pre p2
  have ll := rl.length
  have g40 := T.rw.g40
  have E3 : (sem C (.bin .Add (.mcall 89 (.loc 0) .nil) (.lst (.cons (.bi .list (.cons (.loc 1) .nil)) .nil)))).E [some (.ref t), some (.ref l)] h = .ok (.ref h4'.length) h5' := by
    (try dsimp only [E_bin]; rw [mcall_E T rfl (Es_nil C _ h), e2]; try dsimp only [Res.bind_ok, E_lst, Es_cons, E_bi]; try with_reducible rfl)
    simp only [E_loc, locV_succ, locV_zero, Res.bind_ok, Es_nil]
    rw [show biV h2 .list [.ref l] = .ok (.ref h2.length) h3' from by
      simp [biV, bi1, biL, biList, onRef, get_pre p2 hl, newList_ok (xs := xs.map .int) (h := h2) (by simp; (first | exact om279 lx g40 | omega)), h3']]
    simp only [Res.bind_ok]
    rw [newList_ok (by simp)]
    simp only [Res.bind_ok, bin_addR]
    have g1' : h4'[a1]? = some (.list rs) := get_pre ((pre_app _ _).trans (pre_app _ _)) g1
    have g2' : h4'[h3'.length]? = some (.list [.ref h2.length]) := lst_get _ _
    show addRR h4' a1 h3'.length = _
    simp only [addRR, g1', g2']
    rw [newList_ok (by simp at ll ⊢; have := T.rw.p9; (first | exact om280 ll this | omega))]
  have R5 : Rd h.length h5' (tII (rows ++ [xs])) (.ref h4'.length) := by
    refine Rd.mkList (by simp [h4', h3']; (first | exact om281 l2 | omega)) (lst_get _ _) ?_
    rw [List.map_append]
    refine (rl.mono pp).append (.cons (Rd.mkInts (by (first | exact om120 l2 | omega)) ?_) .nil)
    exact get_pre ((pre_app _ _).trans (pre_app _ _)) (lst_get h2 _)
  have hr : Rows (rows ++ [xs]) g := ⟨by simp; (first | exact om282 q | omega), g40, fun r hr => by
    rcases List.mem_append.mp hr with hr | hr
    · exact T.rw.row r hr
    · rw [List.mem_singleton.mp hr]; exact ⟨lx, bx⟩⟩
  refine ob23 ((bc (p2.trans pp) R5 hr).get) fun v6 h6 e6 ez10x3 k6 => ?_; subst ez10x3
  refine w_expr .none (h' := h6) ?_ ?_
  · rw [mcall_E T rfl (vs := [.ref h4'.length, .int g]) (h' := h5') ?_]
    · exact e6
    · (try dsimp only [Es_cons]; rw [E3]; try dsimp only [Res.bind_ok, Es_cons]; rw [T2.goods rfl]); rfl
  · (try dsimp only [X_nil, Wp_ok, retOf_next]; try with_reducible rfl)
    exact ⟨rfl, k6⟩
end
end Mine


-- part L09h
set_option maxRecDepth 4000
set_option linter.unusedVariables false
set_option linter.unusedSimpArgs false
namespace Mine
open PySem (Operator UnaryOp CmpOp)

section
variable {F : Nat → Option MFun} {W n : Nat} {h h' : MH} {C : Cf} {ρ : Rho} {b t pt : Nat} {rows rows' : List (List Int)} {g g' : Nat} {past : List (List (List Int) × Nat)}

structure TF (F : Nat → Option MFun) : Prop where
  h1 : F 1 = some f_is_number
  h2 : F 2 = some f_is_place
  h3 : F 3 = some f_need_bids
  h4 : F 4 = some f_need_row
  h79 : F 79 = some f_T___init__
  h80 : F 80 = some f_T_become
  h81 : F 81 = some f_T_need_person
  h82 : F 82 = some f_T_need_good
  h83 : F 83 = some f_T_come
  h84 : F 84 = some f_T_leave
  h85 : F 85 = some f_T_put
  h86 : F 86 = some f_T_take
  h87 : F 87 = some f_T_bid
  h88 : F 88 = some f_T_back
  h89 : F 89 = some f_T_rows

theorem ok_int {m : Nat} {v : Val} (e : okPlace m v = true) : ∃ x : Nat, v = .int x ∧ x < m := by
  cases v with
  | int x =>
    have e : decide (0 ≤ x ∧ x < (m : Int)) = true := e
    rw [decide_eq_true_eq] at e
    refine ob11 (Int.eq_ofNat_of_zero_le e.1) fun k ez0x1 => ?_; subst ez0x1
    exact ⟨k, rfl, by (first | exact om283 e | omega)⟩
  | _ => cases e

theorem RdL.mk {b : Nat} {h : MH} : ∀ {ts : List Tr} {vs : List Val}, vs.length = ts.length → (∀ (k : Nat) (t : Tr) (v : Val), ts[k]? = some t → vs[k]? = some v → Rd b h t v) → RdL b h ts vs
  | [], vs, l, _ => by rw [List.length_eq_zero_iff.mp l]; exact .nil
  | t :: ts, [], l, _ => by cases l
  | t :: ts, v :: vs, l, k => .cons (k 0 t v rfl rfl) (RdL.mk (by simpa using l) fun i t' v' e1 e2 => k (i + 1) t' v' (by simpa using e1) (by simpa using e2))
noncomputable def refsAt (b p : Nat) : List Val := (List.range p).map fun k => .ref (b + k)
theorem HP_rdl {hs : List (List Int)} {s : MH} : RdL h.length (HP h hs s) (hs.map tI) (refsAt h.length hs.length) := by
  refine RdL.mk (by simp [refsAt]) fun k t v e1 e2 => ?_
  rw [List.getElem?_map] at e1
  cases q : hs[k]? with
  | none => rw [q] at e1; cases e1
  | some z =>
    rw [q] at e1
    cases e1
    have lt := (List.getElem?_eq_some_iff.mp q).1
    have : v = .ref (h.length + k) := by simpa [refsAt, lt] using e2.symm
    rw [this]
    refine Rd.mkInts (Nat.le_add_right _ _) ?_
    rw [HP_get lt, List.getD_eq_getElem?_getD, q]; rfl
theorem RdL.erase {b : Nat} {h : MH} : ∀ {ts : List Tr} {vs : List Val} (k : Nat), RdL b h ts vs → RdL b h (ts.eraseIdx k) (vs.eraseIdx k)
  | [], vs, k, r => by rw [RdL] at r; subst r; simp [RdL]
  | t :: ts, vs, 0, r => by rw [RdL] at r; refine ob23 r fun w ws ez0x2 _ h3 => ?_; clear r; subst ez0x2; simpa using h3
  | t :: ts, vs, k + 1, r => by
    rw [RdL] at r
    refine ob23 r fun w ws ez1x2 h2 h3 => ?_; clear r; subst ez1x2
    simp only [List.eraseIdx_cons_succ]
    exact .cons h2 (h3.erase k)
theorem erase_map {α β : Type} (f : α → β) : ∀ (l : List α) (k : Nat), (l.map f).eraseIdx k = (l.eraseIdx k).map f
  | [], _ => rfl
  | _ :: _, 0 => rfl
  | a :: l, k + 1 => by simp [erase_map f l k]
theorem HP_set_out {hs : List (List Int)} {o o' : MObj} : (HP h hs [o]).set (h.length + hs.length) o' = HP h hs [o'] := by
  unfold HP
  rw [List.set_append_right _ _ (by simp)]
  simp

theorem leave_bad (L : TF F) (T : TabI b t pt h rows g past) {p : Val} (hp : Vis h p) {k : Nat} (e : dueC rows.length g (.leave p) = some k) : callN F W (n + 4) 84 [.ref t, p] h = .exc k h := by
  have px := person_x (W := W) (n := n) L.h1 L.h2 L.h81 T hp
  have e : (if okPlace rows.length p then none else some 6) = some k := e
  cases q : okPlace rows.length p with
  | true => rw [q] at e; cases e
  | false =>
    rw [q] at e px
    cases e
    rw [callN_def L.h84 rfl]
    show (exec (callN F W (n + 3)) W f_T_leave.body [some (.ref t), some p, none] h).bind retOf = _
    generalize callN F W (n + 3) = C at px
    (try dsimp only [f_T_leave, X_cons', X_expr]; rw [mcall_E T rfl (vs := [p]) rfl, px]); rfl
theorem leave_good (L : TF F) (T : TabI b t pt h rows g past) {x : Nat} (hx : x < rows.length) (hp : past.length < 5000) (hb : b ≤ h.length) :
    Wp (callN F W (n + 4) 84 [.ref t, .int x] h) (Done b t pt h rows g past (rows.eraseIdx x) g (past ++ [(rows, g)])) := by
  have px := person_x (W := W) (n := n) L.h1 L.h2 L.h81 T (p := .int x) trivial
  rw [show okPlace rows.length (.int x) = true from by simp [okPlace]; (first | exact om284 hx | omega), if_pos rfl] at px
  rw [callN_def L.h84 rfl, Wp_bind]
  have ro := rows_eq (W := W) (n := n + 2) L.h89 T
  have bc := fun {h' : MH} {a : Nat} {rows' : List (List Int)} (p' : h <+: h') (ha : Rd h.length h' (tII rows') (.ref a)) (hr : Rows rows' g) => become_ok (W := W) (n := n + 2) L.h80 p' T ha hr hp hb
  show Wp (exec (callN F W (n + 3)) W f_T_leave.body [some (.ref t), some (.int x), none] h) _
  generalize callN F W (n + 3) = C at px ro bc
  (try dsimp only [f_T_leave]; try with_reducible rfl)
  refine w_expr .none (h' := h) (by rw [mcall_E T rfl (vs := [.int x]) rfl]; exact px) ?_
  refine w_assign (.ref (h.length + rows.length)) (h' := RowsH h rows) (by rw [mcall_E T rfl (Es_nil C _ h)]; exact ro) ?_
  show Wp (exec C W _ [some (.ref t), some (.int x), some (.ref (h.length + rows.length))] (RowsH h rows)) _
  have g1 : (RowsH h rows)[h.length + rows.length]? = some (.list (refsAt h.length rows.length)) := HP_out
  have hu : (refsAt h.length rows.length)[x]? = some (.ref (h.length + x)) := by simp [refsAt, hx]
  let h3 := HP h rows [.list ((refsAt h.length rows.length).eraseIdx x)]
  refine w_expr (.ref (h.length + x)) (h' := h3) (by
    (try dsimp only [E_meth, E_loc, locV_zero, locV_succ, Res.bind_ok]; rw [show meOk (RowsH h rows) .pop (.ref (h.length + rows.length)) = true from by simp [meOk, isLV, isListAt, g1], if_pos rfl])
    show mePop (RowsH h rows) (.ref (h.length + rows.length)) [.int x] = _
    simp only [mePop, onL, g1, arg0, onI, popAt, idxOf]
    rw [if_pos (by (first | exact om174 | omega)), if_pos (by simp [refsAt]; (first | exact om284 hx | omega))]
    simp only [Int.toNat_natCast, hu]
    rw [show (RowsH h rows).set (h.length + rows.length) (.list ((refsAt h.length rows.length).eraseIdx x)) = h3 from HP_set_out]) ?_
  have pp : h <+: h3 := HP_pre
  have T2 := T.grow pp
  have R2 : Rd h.length h3 (tII (rows.eraseIdx x)) (.ref (h.length + rows.length)) := by
    refine Rd.mkList (by (first | exact om184 | omega)) HP_out ?_
    have := (HP_rdl (h := h) (hs := rows) (s := [.list ((refsAt h.length rows.length).eraseIdx x)])).erase x
    rw [erase_map] at this
    exact this
  have hr : Rows (rows.eraseIdx x) g := ⟨by have := T.rw.p9; have := List.length_eraseIdx_le rows x; (first | exact om285 ‹_› this | omega), T.rw.g40, fun r hr => T.rw.row r (List.mem_of_mem_eraseIdx hr)⟩
  refine ob23 ((bc pp R2 hr).get) fun v6 h6 e6 ez2x3 k6 => ?_; subst ez2x3
  refine w_expr .none (h' := h6) ?_ ?_
  · rw [mcall_E T2 rfl (vs := [.ref (h.length + rows.length), .int g]) (h' := h3) ?_]
    · exact e6
    · (try dsimp only [Es_cons, E_loc, locV_zero, locV_succ, Res.bind_ok]; rw [T2.goods rfl]); rfl
  · (try dsimp only [X_nil, Wp_ok, retOf_next]; try with_reducible rfl)
    exact ⟨rfl, k6⟩

theorem needbids_a (h1 : F 1 = some f_is_number) (h3 : F 3 = some f_need_bids) {a : Val} (ha : Vis h a) : callN F W (n + 2) 3 [.ref h.length] (h ++ [.list [a]]) = resOf (bidBad a) (h ++ [.list [a]]) := by
  have va : Vis (h ++ [.list [a]]) a := by
    cases a with
    | ref i => refine ob11 ha fun q e => ?_; clear ha; exact ⟨q, seqOf_pre (pre_app _ _) e⟩
    | _ => trivial
  rw [needbids_x h1 h3 (lst_get h _) (fun v hv => by rw [List.mem_singleton.mp hv]; exact va)]
  congr 1
  rw [List.findSome?_cons]
  cases bidBad a <;> rfl
theorem bid_bad (L : TF F) (T : TabI b t pt h rows g past) {p y a : Val} (hp : Vis h p) (hy : Vis h y) (ha : Vis h a) {k : Nat} (e : dueC rows.length g (.bid p y a) = some k) : ∃ h', callN F W (n + 4) 87 [.ref t, p, y, a] h = .exc k h' ∧ h <+: h' := by
  have px := person_x (W := W) (n := n) L.h1 L.h2 L.h81 T hp
  have gx := good_x (W := W) (n := n) L.h1 L.h2 L.h82 T hy
  have nb := needbids_a (W := W) (n := n + 1) L.h1 L.h3 ha
  have e : (if okPlace rows.length p then (if okPlace g y then bidBad a else some 7) else some 6) = some k := e
  rw [callN_def L.h87 rfl]
  show ∃ h', (exec (callN F W (n + 3)) W f_T_bid.body [some (.ref t), some p, some y, some a, none] h).bind retOf = _ ∧ _
  generalize callN F W (n + 3) = C at px gx nb
  (try dsimp only [f_T_bid, X_cons', X_expr]; rw [mcall_E T rfl (vs := [p]) rfl, px])
  cases q1 : okPlace rows.length p with
  | false => rw [q1] at e; cases e; exact ⟨h, rfl, List.prefix_refl _⟩
  | true =>
    rw [q1] at e
    simp only [if_true, Res.bind_ok, thenX_next, X_cons', X_expr] at e ⊢
    rw [mcall_E T rfl (vs := [y]) rfl, gx]
    cases q2 : okPlace g y with
    | false => rw [q2] at e; cases e; exact ⟨h, rfl, List.prefix_refl _⟩
    | true =>
      rw [q2] at e
      simp only [if_true, Res.bind_ok, thenX_next, X_cons', X_expr] at e ⊢
      rw [show (sem C (.call 3 (.cons (.lst (.cons (.loc 3) .nil)) .nil))).E [some (.ref t), some p, some y, some a, none] h = C 3 [.ref h.length] (h ++ [.list [a]]) from by
        simp only [E_call, Es_cons, E_lst, E_loc, locV_succ, locV_zero, Res.bind_ok, Es_nil, newList_one], nb, e]
      exact ⟨_, rfl, pre_app _ _⟩
theorem bid_good (L : TF F) (T : TabI b t pt h rows g past) {x y : Nat} {z : Int} (hx : x < rows.length) (hy : y < g) (hz : 0 ≤ z ∧ z ≤ 1000000000000) (hp : past.length < 5000) (hb : b ≤ h.length) :
    Wp (callN F W (n + 4) 87 [.ref t, .int x, .int y, .int z] h) (Done b t pt h rows g past (rows.set x ((rows.getD x []).set y z)) g (past ++ [(rows, g)])) := by
  have px := person_x (W := W) (n := n) L.h1 L.h2 L.h81 T (p := .int x) trivial
  rw [show okPlace rows.length (.int x) = true from by simp [okPlace]; (first | exact om284 hx | omega), if_pos rfl] at px
  have gx := good_x (W := W) (n := n) L.h1 L.h2 L.h82 T (p := .int y) trivial
  rw [show okPlace g (.int y) = true from by simp [okPlace]; (first | exact om284 hy | omega), if_pos rfl] at gx
  have nb := needbids_a (W := W) (n := n + 1) (h := h) L.h1 L.h3 (a := .int z) trivial
  rw [show bidBad (.int z) = none from by simp [bidBad, okBid, hz]] at nb
  rw [callN_def L.h87 rfl, Wp_bind]
  let h1 := h ++ [.list [.int z]]
  have p1 : h <+: h1 := pre_app _ _
  have T1 := T.grow p1
  have ro := rows_eq (W := W) (n := n + 2) L.h89 T1
  have bc := fun {h' : MH} {a : Nat} {rows' : List (List Int)} (p' : h <+: h') (ha : Rd h.length h' (tII rows') (.ref a)) (hr : Rows rows' g) => become_ok (W := W) (n := n + 2) L.h80 p' T ha hr hp hb
  show Wp (exec (callN F W (n + 3)) W f_T_bid.body [some (.ref t), some (.int x), some (.int y), some (.int z), none] h) _
  generalize callN F W (n + 3) = C at px gx nb ro bc
  (try dsimp only [f_T_bid]; try with_reducible rfl)
  refine w_expr .none (h' := h) (by rw [mcall_E T rfl (vs := [.int x]) rfl]; exact px) ?_
  refine w_expr .none (h' := h) (by rw [mcall_E T rfl (vs := [.int y]) rfl]; exact gx) ?_
  refine w_expr .none (h' := h1) (by
    simp only [E_call, Es_cons, E_lst, E_loc, locV_succ, locV_zero, Res.bind_ok, Es_nil, newList_one]; exact nb) ?_
  refine w_assign (.ref (h1.length + rows.length)) (h' := RowsH h1 rows) (by rw [mcall_E T1 rfl (Es_nil C _ h1)]; exact ro) ?_
  show Wp (exec C W _ [some (.ref t), some (.int x), some (.int y), some (.int z), some (.ref (h1.length + rows.length))] (RowsH h1 rows)) _
  have g1 : (RowsH h1 rows)[h1.length + rows.length]? = some (.list (refsAt h1.length rows.length)) := HP_out
  have lr : (rows.getD x []).length = g := by
    have := T.rw.row (rows.getD x []) (by rw [List.getD_eq_getElem?_getD, List.getElem?_eq_getElem hx]; simp)
    exact this.1
  let rows2 := rows.set x ((rows.getD x []).set y z)
  let h3 := HP h1 rows2 [.list (refsAt h1.length rows.length)]
  have l2 : rows2.length = rows.length := by simp [rows2]
  rw [st_asub (v := .int z) (h' := RowsH h1 rows) rfl (ov := .ref (h1.length + x)) (sub_E rfl rfl (sub_ref (seqOf_list g1) (by (first | exact om174 | omega)) (by simp [refsAt, hx]))) (iv := .int y) rfl (h'' := h3) (by
    have : (RowsH h1 rows)[h1.length + x]? = some (.list ((rows.getD x []).map .int)) := HP_get hx
    simp only [asubV, this]
    rw [if_pos ⟨by (first | exact om174 | omega), by rw [List.length_map, lr]; (first | exact om175 hy | omega)⟩]
    rw [← List.map_set, Int.toNat_natCast]
    exact congrArg _ (HP_set hx))]
  have pp : h1 <+: h3 := HP_pre
  have T3 := T1.grow pp
  have R3 : Rd h.length h3 (tII rows2) (.ref (h1.length + rows.length)) := by
    have := HP_rd (h := h1) (hs := rows2) (t := [])
    rw [l2] at this
    exact this.low (len_pre p1)
  have hr : Rows rows2 g := ⟨by rw [l2]; exact T.rw.p9, T.rw.g40, fun r hr => by
    rcases List.mem_or_eq_of_mem_set hr with hr | rfl
    · exact T.rw.row r hr
    · refine ⟨by rw [List.length_set, lr], fun u hu => ?_⟩
      rcases List.mem_or_eq_of_mem_set hu with hu | rfl
      · exact (T.rw.row (rows.getD x []) (by rw [List.getD_eq_getElem?_getD, List.getElem?_eq_getElem hx]; simp)).2 u hu
      · exact hz⟩
  refine ob23 ((bc (p1.trans pp) R3 hr).get) fun v6 h6 e6 ez3x3 k6 => ?_; subst ez3x3
  refine w_expr .none (h' := h6) ?_ ?_
  · rw [mcall_E T3 rfl (vs := [.ref (h1.length + rows.length), .int g]) (h' := h3) ?_]
    · exact e6
    · (try dsimp only [Es_cons, E_loc, locV_zero, locV_succ, Res.bind_ok]; rw [T3.goods rfl]); rfl
  · (try dsimp only [X_nil, Wp_ok, retOf_next]; try with_reducible rfl)
    exact ⟨rfl, k6⟩
end
end Mine


-- part L09i
set_option maxRecDepth 4000
set_option linter.unusedVariables false
set_option linter.unusedSimpArgs false
namespace Mine
open PySem (Operator UnaryOp CmpOp)

section
variable {F : Nat → Option MFun} {W n : Nat} {h h' : MH} {C : Cf} {ρ : Rho} {b t pt : Nat} {rows rows' : List (List Int)} {g g' : Nat} {past : List (List (List Int) × Nat)}

noncomputable def eraT (y : Nat) : Tr → Tr
  | .lst ts => .lst (ts.eraseIdx y)
  | t => t
theorem eraT_I (y : Nat) (xs : List Int) : eraT y (tI xs) = tI (xs.eraseIdx y) := by simp [eraT, tI, erase_map]

theorem take_bad (L : TF F) (T : TabI b t pt h rows g past) {p : Val} (hp : Vis h p) {k : Nat} (e : dueC rows.length g (.take p) = some k) : callN F W (n + 4) 86 [.ref t, p] h = .exc k h := by
  have px := good_x (W := W) (n := n) L.h1 L.h2 L.h82 T hp
  have e : (if okPlace g p then none else some 7) = some k := e
  cases q : okPlace g p with
  | true => rw [q] at e; cases e
  | false =>
    rw [q] at e px
    cases e
    rw [callN_def L.h86 rfl]
    show (exec (callN F W (n + 3)) W f_T_take.body [some (.ref t), some p, none, none] h).bind retOf = _
    generalize callN F W (n + 3) = C at px
    (try dsimp only [f_T_take, X_cons', X_expr]; rw [mcall_E T rfl (vs := [p]) rfl, px]); rfl
theorem take_good (L : TF F) (T : TabI b t pt h rows g past) {y : Nat} (hy : y < g) (hp : past.length < 5000) (hb : b ≤ h.length) :
    Wp (callN F W (n + 4) 86 [.ref t, .int y] h) (Done b t pt h rows g past (rows.map fun r => r.eraseIdx y) (g - 1) (past ++ [(rows, g)])) := by
  have px := good_x (W := W) (n := n) L.h1 L.h2 L.h82 T (p := .int y) trivial
  rw [show okPlace g (.int y) = true from by simp [okPlace]; (first | exact om284 hy | omega), if_pos rfl] at px
  rw [callN_def L.h86 rfl, Wp_bind]
  have bc := fun {h' : MH} {a : Nat} {rows' : List (List Int)} (p' : h <+: h') (ha : Rd h.length h' (tII rows') (.ref a)) (hr : Rows rows' (g - 1)) => become_ok (W := W) (n := n + 2) L.h80 p' T ha hr hp hb
  show Wp (exec (callN F W (n + 3)) W f_T_take.body [some (.ref t), some (.int y), none, none] h) _
  generalize callN F W (n + 3) = C at px bc
  refine ob12 T.hi fun k i1 i2 => ?_
  refine ob24 i2.list fun a rs e _ g3 g4 => ?_
  cases e
  have src : (sem C (.iobj (.attr (.loc 0) 0))).I [some (.ref t), some (.int y), none, none] h = .ok (rs, fun h' => decide (h'[k]? = some (.list rs))) h := by
    (try dsimp only [I_iobj]; try with_reducible rfl)
    show ((attrV 0 (.ref t) h).bind _) = _
    (rw [attr_0 (k := 0) i1]; try dsimp only [Res.bind_ok]; rw [srcOf_list g3]); rfl
  have cl := comp_rdl (b := b) (b' := h.length) (f := compStep (.loc 3) (sem C (.const (.bool true))).T (sem C (.bin .Add (.bi .list (.cons (.slice (.loc 3) .nil (.cons (.loc 1) .nil)) .nil)) (.bi .list (.cons (.slice (.loc 3) (.cons (.bin .Add (.loc 1) (.const (.int 1))) .nil) .nil) .nil)))).E [some (.ref t), some (.int y), none, none]) (ck := fun h' => decide (h'[k]? = some (.list rs))) (eraT y) (h0 := h) (fun h' p => by simp [get_pre p g3]) (rows.map tI) rs h (List.prefix_refl _) g4 (fun tr htr x h' p rx => by
    refine ob12 (List.mem_map.mp htr) fun r hr ez2x2 => ?_; subst ez2x2
    refine ob13 rx.ints fun c ez3x1 _ hc => ?_; subst ez3x1
    have lr := (T.rw.row r hr).1
    have g40 := T.rw.g40
    have l' := len_pre p
    have hc' : h'[c]? = some (.list (r.map .int)) := get_pre p hc
    let h1 := h' ++ [.list ((r.take y).map .int)]
    let h2 := h1 ++ [.list ((r.take y).map .int)]
    let h3 := h2 ++ [.list ((r.drop (y + 1)).map .int)]
    let h4 := h3 ++ [.list ((r.drop (y + 1)).map .int)]
    let h5 := h4 ++ [.list ((r.eraseIdx y).map .int)]
    have lt : ((r.take y).map Val.int).length ≤ 1048576 := by simp; omega
    have ld : ((r.drop (y + 1)).map Val.int).length ≤ 1048576 := by simp; (first | exact om287 lr g40 | omega)
    have s1 : sliceV h' (.ref c) .none (.int y) = .ok (.ref h'.length) h1 := by
      have mn : min y r.length = y := by omega
      simp only [sliceV, hc', sliceL, cutAt, List.length_map, Int.toNat_natCast, mn]
      rw [if_pos (by (first | exact om174 | omega))]
      simp only [List.drop_zero, ← List.map_take]
      exact newList_ok lt
    have s2 : sliceV h2 (.ref c) (.int ((y : Int) + 1)) .none = .ok (.ref h2.length) h3 := by
      have hc2 : h2[c]? = some (.list (r.map .int)) := get_pre ((pre_app _ _).trans (pre_app _ _)) hc'
      have mn : min ((y : Int) + 1).toNat r.length = y + 1 := by omega
      simp only [sliceV, hc2, sliceL, cutAt, List.length_map, mn]
      rw [if_pos (by (first | exact om290 | omega))]
      simp only
      rw [List.take_of_length_le (by simp), ← List.map_drop]
      exact newList_ok ld
    have ev : (sem C (.bin .Add (.bi .list (.cons (.slice (.loc 3) .nil (.cons (.loc 1) .nil)) .nil)) (.bi .list (.cons (.slice (.loc 3) (.cons (.bin .Add (.loc 1) (.const (.int 1))) .nil) .nil) .nil)))).E [some (.ref t), some (.int y), none, some (.ref c)] h' = .ok (.ref h4.length) h5 := by
      have b1 : biV h1 .list [.ref h'.length] = .ok (.ref h1.length) h2 := by
        have : h1[h'.length]? = some (.list ((r.take y).map .int)) := lst_get _ _
        simp only [biV, bi1, biL, biList, onRef, this]
        exact newList_ok lt
      have b2 : biV h3 .list [.ref h2.length] = .ok (.ref h3.length) h4 := by
        have : h3[h2.length]? = some (.list ((r.drop (y + 1)).map .int)) := lst_get _ _
        simp only [biV, bi1, biL, biList, onRef, this]
        exact newList_ok ld
      have b3 : addRR h4 h1.length h3.length = .ok (.ref h4.length) h5 := by
        have e1 : h4[h1.length]? = some (.list ((r.take y).map .int)) := get_pre ((pre_app _ _).trans (pre_app _ _)) (lst_get h1 _)
        have e2 : h4[h3.length]? = some (.list ((r.drop (y + 1)).map .int)) := lst_get _ _
        simp only [addRR, e1, e2]
        rw [← List.map_append, ← List.eraseIdx_eq_take_drop_succ]
        exact newList_ok (by simp only [List.length_map, List.length_eraseIdx]; split <;> (first | exact om291 lr g40 | exact om279 lr g40 | omega))
      rw [E_bin, E_bi, Es_cons, E_slice]
      simp only [E_loc, locV_succ, locV_zero, Res.bind_ok, Es_nil, Es_cons, optOf, Res.opt_some, s1, b1]
      (try dsimp only [E_bi, Es_cons, E_slice]; try with_reducible rfl)
      simp only [E_loc, locV_succ, locV_zero, Res.bind_ok, Es_nil, Es_cons, optOf, Res.opt_some, E_bin, E_const, bin_add, s2, b2, bin_addR, b3]
    refine Wp_of (a := some (.ref h4.length)) (h' := h5) ?_ ⟨(pre_app _ _).trans ((pre_app _ _).trans ((pre_app _ _).trans ((pre_app _ _).trans (pre_app _ _)))), _, rfl, ?_⟩
    · show ((sem C _).E [some (.ref t), some (.int y), none, some (.ref c)] h').bind _ = _
      rw [ev]; rfl
    · rw [eraT_I]
      exact Rd.mkInts (by simp [h4, h3, h2, h1]; (first | exact om292 l' | omega)) (lst_get _ _))
  refine ob23 cl.get fun vs h6 e6 p6 r6 => ?_
  have l6 := len_pre p6
  rw [List.map_map, show (eraT y ∘ tI) = (tI ∘ fun r => r.eraseIdx y) from funext fun r => eraT_I y r, ← List.map_map] at r6
  have lv := r6.length
  simp at lv
  have p9 := T.rw.p9
  (try dsimp only [f_T_take]; try with_reducible rfl)
  refine w_expr .none (h' := h) (by rw [mcall_E T rfl (vs := [.int y]) rfl]; exact px) ?_
  refine w_assign (.ref h6.length) (h' := h6 ++ [.list vs]) (by
    rw [E_comp, src, Res.bind_ok]
    simp only
    (rw [e6]; try dsimp only [Res.bind_ok]; rw [newList_ok (by (first | exact om293 lv p9 | omega))])) ?_
  show Wp (exec C W _ [some (.ref t), some (.int y), some (.ref h6.length), none] (h6 ++ [.list vs])) _
  have pp : h <+: h6 ++ [.list vs] := p6.trans (pre_app _ _)
  have T2 := T.grow pp
  have R2 : Rd h.length (h6 ++ [.list vs]) (tII (rows.map fun r => r.eraseIdx y)) (.ref h6.length) := Rd.mkList (by (first | exact om120 l6 | omega)) (lst_get _ _) (r6.mono (pre_app _ _))
  have hr : Rows (rows.map fun r => r.eraseIdx y) (g - 1) := ⟨by simp; exact p9, by have := T.rw.g40; (first | exact om294 this | omega), fun r hr => by
    refine ob12 (List.mem_map.mp hr) fun r0 h0 ez5x2 => ?_; subst ez5x2
    have := T.rw.row r0 h0
    exact ⟨by rw [List.length_eraseIdx, if_pos (by omega), this.1], fun x hx => this.2 x (List.mem_of_mem_eraseIdx hx)⟩⟩
  refine ob23 ((bc pp R2 hr).get) fun v7 h7 e7 ez6x3 k7 => ?_; subst ez6x3
  refine w_expr .none (h' := h7) ?_ ?_
  · rw [mcall_E T2 rfl (vs := [.ref h6.length, .int ((g - 1 : Nat) : Int)]) (h' := h6 ++ [.list vs]) ?_]
    · exact e7
    · (try dsimp only [Es_cons, E_loc, locV_zero, locV_succ, Res.bind_ok, E_bin]; rw [T2.goods rfl])
      simp only [Res.bind_ok, E_const, bin_sub, Es_nil]
      rw [show (g : Int) - 1 = ((g - 1 : Nat) : Int) from by (first | exact om295 hy | omega)]
  · (try dsimp only [X_nil, Wp_ok, retOf_next]; try with_reducible rfl)
    exact ⟨rfl, k7⟩
end
end Mine


-- part L09j
set_option maxRecDepth 4000
set_option linter.unusedVariables false
set_option linter.unusedSimpArgs false
namespace Mine
open PySem (Operator UnaryOp CmpOp)

section
variable {F : Nat → Option MFun} {W n : Nat} {h h' : MH} {C : Cf} {ρ : Rho} {b t pt : Nat} {rows rows' : List (List Int)} {g g' : Nat} {past : List (List (List Int) × Nat)}

theorem put_bad (L : TF F) (T : TabI b t pt h rows g past) {l : Nat} {vs : List Val} (hl : h[l]? = some (.list vs)) (hv : ∀ v ∈ vs, Vis h v) {k : Nat} (e : dueC rows.length g (.put l vs) = some k) : callN F W (n + 4) 85 [.ref t, .ref l] h = .exc k h := by
  rw [callN_def L.h85 rfl]
  have nr := needrow_x (W := W) (n := n) L.h1 L.h3 L.h4 (m := rows.length) hl hv
  show (exec (callN F W (n + 3)) W f_T_put.body [some (.ref t), some (.ref l), none, none, none] h).bind retOf = _
  generalize callN F W (n + 3) = C at nr
  have e : (if 40 ≤ g then some 2 else rowBad rows.length vs) = some k := e
  (try dsimp only [f_T_put, X_cons', X_ifs, T_cmp]; rw [T.goods rfl])
  simp only [Res.bind_ok, E_gconst, cmp_ge, Res.opt_some]
  by_cases q : 40 ≤ g
  · rw [if_pos q] at e
    cases e
    rw [decide_eq_true (by (first | exact om296 q | omega))]; rfl
  · rw [if_neg q] at e
    rw [decide_eq_false (by (first | exact om297 q | omega))]
    simp only [Bool.false_eq_true, if_false, X_nil, Res.bind_ok, thenX_next, X_cons', X_expr, E_call, Es_cons, E_loc, locV_succ, locV_zero]
    rw [T.len rfl]
    simp only [Res.bind_ok, Es_nil, nr, e]
    rfl

theorem zip_rdl {C : Cf} {ck : MH → Bool} {u v : Option Val} (hck : ∀ h', h <+: h' → ck h' = true) (hb : b ≤ h.length) : ∀ (xss : List (List Int)) (xs : List Int) (rs : List Val) (h0 : MH), h <+: h0 → RdL b h (xss.map tI) rs → xs.length = xss.length → (∀ r ∈ xss, r.length ≤ 1000) →
    Wp (compLoop (pStep (fun _ h => .ok true h) (sem C (.bin .Add (.bi .list (.cons (.loc 3) .nil)) (.lst (.cons (.loc 4) .nil)))).E 3 4 [u, v, none, none, none]) ck (zipVals rs (xs.map .int)) h0) fun vs h' => h0 <+: h' ∧ RdL h.length h' ((List.zipWith (fun r x => r ++ [x]) xss xs).map tI) vs
  | [], xs, rs, h0, p, r, l, _ => by
    rw [List.map_nil, RdL] at r
    subst r
    simp only [zipVals, compLoop, Wp_ok]
    exact ⟨List.prefix_refl _, .nil⟩
  | x :: xss, [], rs, h0, p, r, l, _ => by cases l
  | x :: xss, y :: xs, rs, h0, p, r, l, hl => by
    rw [List.map_cons, RdL] at r
    refine ob23 r fun w ws ez0x2 r1 r2 => ?_; clear r; subst ez0x2
    refine ob13 r1.ints fun c ez1x1 _ hc => ?_; subst ez1x1
    have lx := hl x (.head _)
    have l0 := len_pre p
    let h1 := h0 ++ [.list (x.map .int)]
    let h2 := h1 ++ [.list [.int y]]
    let h3 := h2 ++ [.list ((x ++ [y]).map .int)]
    have pp : h0 <+: h3 := (pre_app _ _).trans ((pre_app _ _).trans (pre_app _ _))
    have e : pStep (fun _ h => .ok true h) (sem C (.bin .Add (.bi .list (.cons (.loc 3) .nil)) (.lst (.cons (.loc 4) .nil)))).E 3 4 [u, v, none, none, none] (.ref c, .int y) h0 = .ok (some (.ref h2.length)) h3 := by
      have b1 : biV h0 .list [.ref c] = .ok (.ref h0.length) h1 := by
        simp only [biV, bi1, biL, biList, onRef, get_pre p hc]
        exact newList_ok (by simp; (first | exact om192 lx | omega))
      have b3 : addRR h2 h0.length h1.length = .ok (.ref h2.length) h3 := by
        have e1 : h2[h0.length]? = some (.list (x.map .int)) := get_pre (pre_app _ _) (lst_get h0 _)
        have e2 : h2[h1.length]? = some (.list [.int y]) := lst_get _ _
        simp only [addRR, e1, e2]
        rw [newList_ok (by simp; (first | exact om298 lx | omega))]
        simp [h3]
      show ((sem C (.bin .Add (.bi .list (.cons (.loc 3) .nil)) (.lst (.cons (.loc 4) .nil)))).E [u, v, none, some (.ref c), some (.int y)] h0).bind _ = _
      (try dsimp only [E_bin, E_bi, Es_cons]; try with_reducible rfl)
      simp only [E_loc, locV_succ, locV_zero, Res.bind_ok, Es_nil, b1, E_lst, Es_cons, newList_one, bin_addR]
      rw [show addRR (h1 ++ [.list [.int y]]) h0.length h1.length = _ from b3]; rfl
    show Wp (compLoop _ ck ((.ref c, .int y) :: zipVals ws (xs.map .int)) h0) _
    rw [compLoop, e]
    simp only [Res.bind_ok]
    rw [if_pos (hck _ (p.trans pp)), Wp_bind]
    refine (zip_rdl hck hb xss xs ws h3 (p.trans pp) r2 (by simpa using l) fun r hr => hl r (.tail _ hr)).mono fun vs h4 q => ?_
    simp only [Wp_ok, List.zipWith_cons_cons, List.map_cons]
    exact ⟨pp.trans q.1, .cons (Rd.mkInts (by simp [h2, h1]; (first | exact om281 l0 | omega)) (get_pre q.1 (lst_get h2 _))) q.2⟩

theorem put_good (L : TF F) (T : TabI b t pt h rows g past) {l : Nat} {vs : List Val} (hl : h[l]? = some (.list vs)) (hv : ∀ v ∈ vs, Vis h v) (e : dueC rows.length g (.put l vs) = none) (hp : past.length < 5000) (hb : b ≤ h.length) :
    ∃ xs : List Int, vs = xs.map .int ∧ xs.length = rows.length ∧ Wp (callN F W (n + 4) 85 [.ref t, .ref l] h) (Done b t pt h rows g past (List.zipWith (fun r x => r ++ [x]) rows xs) (g + 1) (past ++ [(rows, g)])) := by
  have e : (if 40 ≤ g then some 2 else rowBad rows.length vs) = none := e
  have q : ¬ 40 ≤ g := fun q => by rw [if_pos q] at e; cases e
  rw [if_neg q] at e
  refine ob13 (row_ints e) fun xs ez2x1 lx bx => ?_; subst ez2x1
  refine ⟨xs, rfl, lx, ?_⟩
  rw [callN_def L.h85 rfl, Wp_bind]
  have nr := needrow_x (W := W) (n := n) L.h1 L.h3 L.h4 (m := rows.length) hl hv
  have bc := fun {h' : MH} {a : Nat} {rows' : List (List Int)} (p' : h <+: h') (ha : Rd h.length h' (tII rows') (.ref a)) (hr : Rows rows' (g + 1)) => become_ok (W := W) (n := n + 2) L.h80 p' T ha hr hp hb
  show Wp (exec (callN F W (n + 3)) W f_T_put.body [some (.ref t), some (.ref l), none, none, none] h) _
  generalize callN F W (n + 3) = C at nr bc
  refine ob12 T.hi fun k i1 i2 => ?_
  refine ob24 i2.list fun a rs e0 _ g3 g4 => ?_
  cases e0
  have p9 := T.rw.p9
  refine ob23 ((zip_rdl (C := C) (u := some (.ref t)) (v := some (.ref l)) (ck := fun h' => decide (listsOf h' (.ref k) = some rs) && decide (listsOf h' (.ref l) = some (xs.map .int))) (fun h' p => by simp [listsOf, get_pre p g3, get_pre p hl]) hb rows xs rs h (List.prefix_refl _) g4 lx fun r hr => by have := (T.rw.row r hr).1; have := T.rw.g40; (first | exact om275 ‹_› this | omega)).get) fun ws h6 e6 p6 r6 => ?_
  have l6 := len_pre p6
  have lw := r6.length
  simp only [List.length_map, List.length_zipWith] at lw
  (try dsimp only [f_T_put]; try with_reducible rfl)
  refine w_skip (h' := h) (by (try dsimp only [T_cmp]; rw [T.goods rfl]); simp only [Res.bind_ok, E_gconst, cmp_ge, Res.opt_some]; rw [decide_eq_false (by (first | exact om297 q | omega))]) ?_
  refine w_expr .none (h' := h) (by
    simp only [E_call, Es_cons, E_loc, locV_succ, locV_zero, Res.bind_ok]
    rw [T.len rfl]
    simp only [Res.bind_ok, Es_nil, nr, e]; rfl) ?_
  refine w_assign (.ref h6.length) (h' := h6 ++ [.list ws]) (by
    (try dsimp only [E_compq]; rw [show (sem C (.attr (.loc 0) 0)).E [some (.ref t), some (.ref l), none, none, none] h = .ok (.ref k) h from attr_0 (k := 0) i1])
    simp only [Res.bind_ok, E_loc, locV_succ, locV_zero]
    unfold compqL
    simp only [show listsOf h (.ref k) = some rs from by simp [listsOf, g3], show listsOf h (.ref l) = some (xs.map .int) from by simp [listsOf, hl]]
    (rw [e6]; try dsimp only [Res.bind_ok]; rw [newList_ok (by omega)])) ?_
  show Wp (exec C W _ [some (.ref t), some (.ref l), some (.ref h6.length), none, none] (h6 ++ [.list ws])) _
  have pp : h <+: h6 ++ [.list ws] := p6.trans (pre_app _ _)
  have T2 := T.grow pp
  have R2 : Rd h.length (h6 ++ [.list ws]) (tII (List.zipWith (fun r x => r ++ [x]) rows xs)) (.ref h6.length) := Rd.mkList (by (first | exact om120 l6 | omega)) (lst_get _ _) (r6.mono (pre_app _ _))
  have hr : Rows (List.zipWith (fun r x => r ++ [x]) rows xs) (g + 1) := ⟨by simp; omega, by (first | exact om301 q | omega), fun r hr => by
    refine ob11 (List.mem_iff_getElem.mp hr) fun k wz6 => ?_; obtain ⟨hk, e⟩ := wz6
    rw [List.getElem_zipWith] at e
    subst e
    simp only [List.length_zipWith] at hk
    have := T.rw.row rows[k] (List.getElem_mem _)
    refine ⟨by simp [this.1], fun x hx => ?_⟩
    rcases List.mem_append.mp hx with hx | hx
    · exact this.2 x hx
    · rw [List.mem_singleton.mp hx]; exact bx _ (List.getElem_mem _)⟩
  refine ob23 ((bc pp R2 hr).get) fun v7 h7 e7 ez7x3 k7 => ?_; subst ez7x3
  refine w_expr .none (h' := h7) ?_ ?_
  · rw [mcall_E T2 rfl (vs := [.ref h6.length, .int ((g + 1 : Nat) : Int)]) (h' := h6 ++ [.list ws]) ?_]
    · exact e7
    · (try dsimp only [Es_cons, E_loc, locV_zero, locV_succ, Res.bind_ok, E_bin]; rw [T2.goods rfl])
      simp only [Res.bind_ok, E_const, bin_add, Es_nil]
      rfl
  · (try dsimp only [X_nil, Wp_ok, retOf_next]; try with_reducible rfl)
    exact ⟨rfl, k7⟩
end
end Mine


-- part L09k
set_option maxRecDepth 4000
set_option linter.unusedVariables false
set_option linter.unusedSimpArgs false
namespace Mine
open PySem (Operator UnaryOp CmpOp)

section
variable {F : Nat → Option MFun} {W n : Nat} {h h' : MH} {C : Cf} {ρ : Rho} {b t pt : Nat} {rows rows' : List (List Int)} {g g' : Nat} {past : List (List (List Int) × Nat)}

theorem back_none (L : TF F) (T : TabI b t pt h rows g []) : callN F W (n + 1) 88 [.ref t] h = .ok (.bool false) h := by
  rw [callN_def L.h88 rfl]
  refine ob12 T.hi fun k i1 _ => ?_
  refine ob12 T.hp fun pvs q1 q2 => ?_
  rw [List.map_nil, RdL] at q2
  subst q2
  show (exec (callN F W n) W f_T_back.body [some (.ref t), none] h).bind retOf = _
  generalize callN F W n = C
  have a2 : (sem C (.attr (.loc 0) 2)).E [some (.ref t), none] h = .ok (.ref pt) h := attr_2 (k := 0) i1
  (try dsimp only [f_T_back, X_cons', X_ifs, T_cmp, E_bi, Es_cons]; rw [a2])
  simp only [Res.bind_ok, Es_nil, biV, bi1, biL, seqOf_list q1]
  rfl
theorem RdL.snoc_inv {b : Nat} {h : MH} {ts : List Tr} {t : Tr} {vs : List Val} (r : RdL b h (ts ++ [t]) vs) : ∃ ws w, vs = ws ++ [w] ∧ RdL b h ts ws ∧ Rd b h t w := by
  induction ts generalizing vs with
  | nil =>
    rw [List.nil_append, RdL] at r
    refine ob23 r fun w ws ez2x2 r1 r2 => ?_; clear r; subst ez2x2
    rw [RdL] at r2
    subst r2
    exact ⟨[], w, rfl, .nil, r1⟩
  | cons t' ts ih =>
    rw [List.cons_append, RdL] at r
    refine ob23 r fun w ws ez3x2 r1 r2 => ?_; clear r; subst ez3x2
    refine ob23 (ih r2) fun ws' w' ez4x2 r3 r4 => ?_; subst ez4x2
    exact ⟨w :: ws', w', rfl, .cons r1 r3, r4⟩
theorem back_some (L : TF F) {p0 : List (List Int)} {g0 : Nat} (T : TabI b t pt h rows g (past ++ [(p0, g0)])) : ∃ h', callN F W (n + 1) 88 [.ref t] h = .ok (.bool true) h' ∧ Keep (TM t pt) h h' ∧ TabI b t pt h' p0 g0 past := by
  rw [callN_def L.h88 rfl]
  refine ob12 T.hi fun k i1 i2 => ?_; refine ob12 T.hp fun pvs q1 q2 => ?_; have tb := T.tb; have pb := T.pb; have ne := T.ne; have pl := T.pl; have rw' := T.rw; have pr := T.pr; have ns := T.ns
  rw [List.map_append] at q2
  refine ob23 q2.snoc_inv fun ws w ez6x2 r1 r2 => ?_; subst ez6x2
  refine ob24 r2.tuple fun c us ez7x2 bc hc ru => ?_; subst ez7x2
  rw [RdL] at ru
  obtain ⟨u1, _, rfl, ru1, ru⟩ := ru
  rw [RdL] at ru
  obtain ⟨u2, _, rfl, ru2, ru⟩ := ru
  rw [RdL] at ru
  subst ru
  cases ru2.int
  obtain ⟨k1, rs1, rfl, bk1, hk1, rk1⟩ := ru1.list
  have lt := (List.getElem?_eq_some_iff.mp i1).1
  let h1 := h.set pt (.list ws)
  have e1 : h1[t]? = some (.inst [some (.ref k), some (.int g), some (.ref pt)]) := by show (h.set _ _)[t]? = _; rw [List.getElem?_set_ne (Ne.symm ne)]; exact i1
  have c1 : h1[c]? = some (.tup [.ref k1, .int g0]) := by show (h.set _ _)[c]? = _; rw [List.getElem?_set_ne (bc.ne pb ns.2.1)]; exact hc
  let h2 := h1.set t (.inst [some (.ref k1), some (.int g), some (.ref pt)])
  have e2 : h2[t]? = some (.inst [some (.ref k1), some (.int g), some (.ref pt)]) := by show (h1.set _ _)[t]? = _; rw [List.getElem?_set_self (by simp [h1]; (first | exact om284 lt | omega))]
  have c2 : h2[c]? = some (.tup [.ref k1, .int g0]) := by show (h1.set _ _)[c]? = _; rw [List.getElem?_set_ne (bc.ne tb ns.1)]; exact c1
  let h3 := h2.set t (.inst [some (.ref k1), some (.int g0), some (.ref pt)])
  refine ⟨h3, ?_, ?_⟩
  · show (exec (callN F W n) W f_T_back.body [some (.ref t), none] h).bind retOf = _
    generalize callN F W n = C
    have a2 : (sem C (.attr (.loc 0) 2)).E [some (.ref t), none] h = .ok (.ref pt) h := attr_2 (k := 0) i1
    (try dsimp only [f_T_back, X_cons', X_ifs]; try with_reducible rfl)
    rw [show (sem C (.cmp .Eq (.bi .len (.cons (.attr (.loc 0) 2) .nil)) (.const (.int 0)))).T [some (.ref t), none] h = .ok false h from by
      (try dsimp only [T_cmp, E_bi, Es_cons]; rw [a2])
      simp only [Res.bind_ok, Es_nil, biV, bi1, biL, seqOf_list q1, E_const]
      show Res.opt (some (((ws ++ [Val.ref c]).length : Int) == 0)) h = _
      have : ¬ (((ws ++ [Val.ref c]).length : Nat) : Int) = 0 := by simp; (first | exact om10 | omega)
      rw [show ((((ws ++ [Val.ref c]).length : Nat) : Int) == 0) = false from by simpa using this]; rfl]
    simp only [Res.bind_ok, Bool.false_eq_true, if_false, X_nil, thenX_next, X_cons', X_assign]
    rw [show (sem C (.meth .pop (.attr (.loc 0) 2) .nil)).E [some (.ref t), none] h = .ok (.ref c) h1 from by
      (try dsimp only [E_meth]; rw [a2]; try dsimp only [Res.bind_ok]; rw [show meOk h .pop (.ref pt) = true from by simp [meOk, isLV, isListAt, q1], if_pos rfl]; try dsimp only [Es_nil, Res.bind_ok]; try with_reducible rfl)
      show mePop h (.ref pt) [] = _
      simp [mePop, onL, q1, popLast, h1]]
    simp only [Res.bind_ok, thenX_next, X_cons']
    rw [show exec C W (.aattr (.loc 0) 0 (.sub (.loc 1) (.const (.int 0)))) ([some (.ref t), none].set 1 (some (.ref c))) h1 = .ok (.next, [some (.ref t), some (.ref c)]) h2 from by
      show (((sem C (.sub (.loc 1) (.const (.int 0)))).E [some (.ref t), some (.ref c)] h1).bind _) = _
      rw [sub_E (v := .ref c) (w := .int 0) (u := .ref k1) rfl rfl (by simp [subV, seqOf, c1, idxOf])]
      show (aattrV 0 (.ref t) (.ref k1) h1).bind _ = _
      simp [aattrV, onInst, e1, h2]]
    simp only [Res.bind_ok, thenX_next, X_cons']
    rw [show exec C W (.aattr (.loc 0) 1 (.sub (.loc 1) (.const (.int 1)))) [some (.ref t), some (.ref c)] h2 = .ok (.next, [some (.ref t), some (.ref c)]) h3 from by
      show (((sem C (.sub (.loc 1) (.const (.int 1)))).E [some (.ref t), some (.ref c)] h2).bind _) = _
      rw [sub_E (v := .ref c) (w := .int 1) (u := .int g0) rfl rfl (by simp [subV, seqOf, c2, idxOf])]
      show (aattrV 1 (.ref t) (.int g0) h2).bind _ = _
      simp [aattrV, onInst, e2, h3]]
    rfl
  · have K : Keep (TM t pt) h h3 := ((Keep.refl.set (.inr rfl) ns.2.1).set (.inl rfl) ns.1).set (.inl rfl) ns.1
    have hM : ∀ i, TM t pt i → i < b := fun i m => by rcases m with rfl | rfl; exact tb; exact pb
    refine ⟨K, ⟨k1, by show (h2.set _ _)[t]? = _; rw [List.getElem?_set_self (by simp [h2, h1]; (first | exact om284 lt | omega))], K.rd hM ru1⟩, ⟨ws, ?_, K.rdl hM r1⟩, tb, pb, ne, by simp at pl; (first | exact om303 pl | omega), pr _ (List.mem_append.mpr (.inr (.head _))), fun q hq => pr q (List.mem_append.mpr (.inl hq)), ns⟩
    show ((h1.set _ _).set _ _)[pt]? = _
    rw [List.getElem?_set_ne ne, List.getElem?_set_ne ne]
    show (h.set _ _)[pt]? = _
    rw [List.getElem?_set_self (List.getElem?_eq_some_iff.mp q1).1]
end
end Mine


-- part L09l
set_option maxRecDepth 4000
set_option linter.unusedVariables false
set_option linter.unusedSimpArgs false
namespace Mine
open PySem (Operator UnaryOp CmpOp)

noncomputable def Dd.meth : Dd → Nat
  | .come _ _ => 83 | .leave _ => 84 | .put _ _ => 85 | .take _ => 86 | .bid _ _ _ => 87 | .back => 88
noncomputable def Dd.args : Dd → List Val
  | .come l _ => [.ref l] | .leave p => [p] | .put l _ => [.ref l] | .take p => [p] | .bid p g a => [p, g, a] | .back => []
noncomputable def toI9 : Val → Int
  | .int i => i
  | _ => 0
noncomputable def nx (rows : List (List Int)) (g : Nat) : Dd → List (List Int) × Nat
  | .come _ vs => (rows ++ [vs.map toI9], g)
  | .leave p => (rows.eraseIdx (toI9 p).toNat, g)
  | .put _ vs => (List.zipWith (fun r x => r ++ [x]) rows (vs.map toI9), g + 1)
  | .take p => (rows.map fun r => r.eraseIdx (toI9 p).toNat, g - 1)
  | .bid p y a => (rows.set (toI9 p).toNat ((rows.getD (toI9 p).toNat []).set (toI9 y).toNat (toI9 a)), g)
  | .back => (rows, g)
noncomputable def Dd.isBack : Dd → Bool
  | .back => true
  | _ => false
theorem ints9 (xs : List Int) : (xs.map Val.int).map toI9 = xs := by simp [List.map_map, Function.comp_def, toI9]

section
variable {F : Nat → Option MFun} {W n : Nat} {h h' : MH} {C : Cf} {ρ : Rho} {b t pt : Nat} {rows rows' : List (List Int)} {g g' : Nat} {past : List (List (List Int) × Nat)}

theorem ret_all {r : Res Val} {s : MStmt} : ((r.bind fun v h => .ok (MFlow.ret v, ρ) h).bind (thenX C W s)).bind retOf = r := by cases r <;> rfl
theorem ret_all' {r : Res Val} {s s' : MStmt} : (((r.bind fun v h => .ok (MFlow.ret v, ρ) h).bind (thenX C W s)).bind (thenX C W s')).bind retOf = r := by cases r <;> rfl

theorem do_eq (h65 : F 65 = some f_law_do) {d : Nat} {dd : Dd} (hd : h[d]? = some (.list dd.vals)) (T : TabI b t pt h rows g past) : callN F W (n + 1) 65 [.ref t, .ref d] h = callN F W n dd.meth (.ref t :: dd.args) h := by
  rw [callN_def h65 rfl]
  have S : ∀ {k : Int} {v : Val}, 0 ≤ k → dd.vals[k.toNat]? = some v → subV h (.ref d) (.int k) = some v := fun {k v} h0 hv => sub_ref (seqOf_list hd) h0 hv
  show (exec (callN F W n) W f_law_do.body [some (.ref t), some (.ref d)] h).bind retOf = _
  generalize callN F W n = C
  have iv := T.isIV
  have M : ∀ {f : Nat} {args : MExpr} {vs : List Val}, (sem C args).Es [some (.ref t), some (.ref d)] h = .ok vs h → (sem C (.mcall f (.loc 0) args)).E [some (.ref t), some (.ref d)] h = C f (.ref t :: vs) h := fun {f args vs} e => mcall_E T rfl e
  cases dd with
  | come l vs =>
    have s0 := S (k := 0) (by (first | exact om168 | omega)) rfl
    have s1 := S (k := 1) (by (first | exact om258 | omega)) rfl
    rw [f_law_do, X_cons', X_ifs, show (sem C (.cmp .Eq (.sub (.loc 1) (.const (.int 0))) (.const (.str [99, 111, 109, 101])))).T [some (.ref t), some (.ref d)] h = .ok true h from by simp [s0, sCome, cmp_eqS]]
    simp only [Res.bind_ok, if_true]
    (try dsimp only [X_cons', X_ret]; rw [M (vs := [.ref l]) (by simp [s1])])
    exact ret_all'
  | leave p =>
    have s0 := S (k := 0) (by (first | exact om168 | omega)) rfl
    have s1 := S (k := 1) (by (first | exact om258 | omega)) rfl
    have m := M (f := 84) (args := .cons (.sub (.loc 1) (.const (.int 1))) .nil) (vs := [p]) (by simp [s1])
    simp [f_law_do, s0, sLeave, cmp_eqS, m]
    exact ret_all'
  | put l vs =>
    have s0 := S (k := 0) (by (first | exact om168 | omega)) rfl
    have s1 := S (k := 1) (by (first | exact om258 | omega)) rfl
    have m := M (f := 85) (args := .cons (.sub (.loc 1) (.const (.int 1))) .nil) (vs := [.ref l]) (by simp [s1])
    simp [f_law_do, s0, sPut, cmp_eqS, m]
    exact ret_all'
  | take p =>
    have s0 := S (k := 0) (by (first | exact om168 | omega)) rfl
    have s1 := S (k := 1) (by (first | exact om258 | omega)) rfl
    have m := M (f := 86) (args := .cons (.sub (.loc 1) (.const (.int 1))) .nil) (vs := [p]) (by simp [s1])
    simp [f_law_do, s0, sTake, cmp_eqS, m]
    exact ret_all'
  | bid p y a =>
    have s0 := S (k := 0) (by (first | exact om168 | omega)) rfl
    have s1 := S (k := 1) (by (first | exact om258 | omega)) rfl
    have s2 := S (k := 2) (by (first | exact om263 | omega)) rfl
    have s3 := S (k := 3) (by (first | exact om264 | omega)) rfl
    have m := M (f := 87) (args := .cons (.sub (.loc 1) (.const (.int 1))) (.cons (.sub (.loc 1) (.const (.int 2))) (.cons (.sub (.loc 1) (.const (.int 3))) .nil))) (vs := [p, y, a]) (by simp [s1, s2, s3])
    simp [f_law_do, s0, sBid, cmp_eqS, m]
    exact ret_all'
  | back =>
    have s0 := S (k := 0) (by (first | exact om168 | omega)) rfl
    have m := M (f := 88) (args := .nil) (vs := []) rfl
    simp [f_law_do, s0, sBack, cmp_eqS, m]
    exact ret_all

theorem do_bad (L : TF F) (h65 : F 65 = some f_law_do) {c d : Nat} {dd : Dd} (hd : h[d]? = some (.list dd.vals)) (ok : Dd.ok c h d dd) (T : TabI b t pt h rows g past) {k : Nat} (e : dueC rows.length g dd = some k) : ∃ h', callN F W (n + 5) 65 [.ref t, .ref d] h = .exc k h' ∧ h <+: h' := by
  rw [do_eq h65 hd T]
  cases dd with
  | come l vs => exact ⟨h, come_bad L.h1 L.h3 L.h4 L.h83 T ok.1.2.1 (fun v hv => (ok.1.2.2.2 v hv).1.vis) e, List.prefix_refl _⟩
  | leave p => exact ⟨h, leave_bad L T ok.1.vis e, List.prefix_refl _⟩
  | put l vs => exact ⟨h, put_bad L T ok.1.2.1 (fun v hv => (ok.1.2.2.2 v hv).1.vis) e, List.prefix_refl _⟩
  | take p => exact ⟨h, take_bad L T ok.1.vis e, List.prefix_refl _⟩
  | bid p y a => exact bid_bad L T ok.1.vis ok.2.1.vis ok.2.2.vis e
  | back => cases e

theorem do_good (L : TF F) (h65 : F 65 = some f_law_do) {c d : Nat} {dd : Dd} (hd : h[d]? = some (.list dd.vals)) (ok : Dd.ok c h d dd) (T : TabI b t pt h rows g past) (e : dueC rows.length g dd = none) (nb : dd.isBack = false) (hp : past.length < 5000) (hb : b ≤ h.length) :
    Wp (callN F W (n + 5) 65 [.ref t, .ref d] h) (Done b t pt h rows g past (nx rows g dd).1 (nx rows g dd).2 (past ++ [(rows, g)])) := by
  rw [do_eq h65 hd T]
  cases dd with
  | come l vs =>
    refine ob12 (come_good (W := W) (n := n) L.h1 L.h3 L.h4 L.h80 L.h89 L.h83 T ok.1.2.1 (fun v hv => (ok.1.2.2.2 v hv).1.vis) e hp hb) fun xs ez0x1 w => ?_; subst ez0x1
    rw [show nx rows g (.come l (xs.map .int)) = (rows ++ [xs], g) from by simp only [nx, ints9]]
    exact w
  | leave p =>
    have e : (if okPlace rows.length p then none else some 6) = none := e
    cases q : okPlace rows.length p with
    | false => rw [q] at e; cases e
    | true =>
      refine ob12 (ok_int q) fun x ez1x1 hx => ?_; subst ez1x1
      exact leave_good L T hx hp hb
  | put l vs =>
    refine ob13 (put_good (W := W) (n := n) L T ok.1.2.1 (fun v hv => (ok.1.2.2.2 v hv).1.vis) e hp hb) fun xs ez2x1 lx w => ?_; subst ez2x1
    rw [show nx rows g (.put l (xs.map .int)) = (List.zipWith (fun r x => r ++ [x]) rows xs, g + 1) from by simp only [nx, ints9]]
    exact w
  | take p =>
    have e : (if okPlace g p then none else some 7) = none := e
    cases q : okPlace g p with
    | false => rw [q] at e; cases e
    | true =>
      refine ob12 (ok_int q) fun x ez3x1 hx => ?_; subst ez3x1
      exact take_good L T hx hp hb
  | bid p y a =>
    have e2 : (if okPlace rows.length p then (if okPlace g y then bidBad a else some 7) else some 6) = none := e
    clear e
    cases q1 : okPlace rows.length p with
    | false => rw [q1] at e2; cases e2
    | true =>
      rw [q1] at e2
      cases q2 : okPlace g y with
      | false => rw [q2] at e2; cases e2
      | true =>
        rw [q2] at e2
        refine ob12 (ok_int q1) fun x ez4x1 hx => ?_; subst ez4x1
        refine ob12 (ok_int q2) fun z ez5x1 hz => ?_; subst ez5x1
        have e : bidBad a = none := e2
        cases a with
        | int i =>
          have : okBid (.int i) = true := by
            unfold bidBad at e
            split at e
            · rename_i q; exact q
            · cases e
          exact bid_good L T hx hz (of_decide_eq_true this) hp hb
        | _ => cases e
  | back => cases nb
end
end Mine


-- part L09m
set_option maxRecDepth 4000
set_option linter.unusedVariables false
set_option linter.unusedSimpArgs false
namespace Mine
open PySem (Operator UnaryOp CmpOp)

section
variable {F : Nat → Option MFun} {W n : Nat} {h h' : MH} {C : Cf} {ρ : Rho} {b t pt : Nat} {rows rows' : List (List Int)} {g g' : Nat} {past : List (List (List Int) × Nat)}

noncomputable def code9 (k : Nat) : Prop := k = 2 ∨ k = 3 ∨ k = 4 ∨ k = 6 ∨ k = 7
theorem rowBad_code {m k : Nat} {vs : List Val} (e : rowBad m vs = some k) : code9 k := by
  unfold rowBad at e
  split at e
  · rw [bad_is] at e
    split at e
    · cases e
    · cases e; exact .inr (.inr (.inl rfl))
  · cases e; exact .inr (.inl rfl)
theorem due_code {p g k : Nat} {dd : Dd} (e : dueC p g dd = some k) : code9 k := by
  cases dd with
  | come l vs =>
    have e : (if 9 ≤ p then some 2 else rowBad g vs) = some k := e
    split at e
    · cases e; exact .inl rfl
    · exact rowBad_code e
  | put l vs =>
    have e : (if 40 ≤ g then some 2 else rowBad p vs) = some k := e
    split at e
    · cases e; exact .inl rfl
    · exact rowBad_code e
  | leave x =>
    have e : (if okPlace p x then none else some 6) = some k := e
    split at e
    · cases e
    · cases e; exact .inr (.inr (.inr (.inl rfl)))
  | take x =>
    have e : (if okPlace g x then none else some 7) = some k := e
    split at e
    · cases e
    · cases e; exact .inr (.inr (.inr (.inr rfl)))
  | bid x y a =>
    have e : (if okPlace p x then (if okPlace g y then bidBad a else some 7) else some 6) = some k := e
    split at e
    · split at e
      · unfold bidBad at e
        split at e
        · cases e
        · cases e; exact .inr (.inr (.inl rfl))
      · cases e; exact .inr (.inr (.inr (.inr rfl)))
    · cases e; exact .inr (.inr (.inr (.inl rfl)))
  | back => cases e

theorem call65_E {d : Nat} : (sem C (.call 65 (.cons (.loc 0) (.cons (.loc 1) .nil)))).E [some (.ref t), some (.ref d)] h = C 65 [.ref t, .ref d] h := rfl
theorem told_bad (h31 : F 31 = some f09_law_told) {d k : Nat} (e : callN F W n 65 [.ref t, .ref d] h = .exc k h') (hk : code9 k) : callN F W (n + 1) 31 [.ref t, .ref d] h = .ok (nmC (some k)) h' := by
  rw [callN_def h31 rfl]
  show (exec (callN F W n) W f09_law_told.body [some (.ref t), some (.ref d)] h).bind retOf = _
  (try dsimp only [f09_law_told, X_cons', X_tryx, X_ret]; rw [call65_E, e])
  rcases hk with rfl | rfl | rfl | rfl | rfl <;> rfl
theorem told_good (h31 : F 31 = some f09_law_told) {d : Nat} {v : Val} (e : callN F W n 65 [.ref t, .ref d] h = .ok v h') : callN F W (n + 1) 31 [.ref t, .ref d] h = .ok v h' := by
  rw [callN_def h31 rfl]
  show (exec (callN F W n) W f09_law_told.body [some (.ref t), some (.ref d)] h).bind retOf = _
  (try dsimp only [f09_law_told, X_cons', X_tryx, X_ret]; rw [call65_E, e])
  rfl
theorem again_bad (h67 : F 67 = some f_law_again) {d k : Nat} (e : callN F W n 65 [.ref t, .ref d] h = .exc k h') (hk : code9 k) : callN F W (n + 1) 67 [.ref t, .ref d] h = .ok (nmC (some k)) h' := by
  rw [callN_def h67 rfl]
  show (exec (callN F W n) W f_law_again.body [some (.ref t), some (.ref d)] h).bind retOf = _
  (try dsimp only [f_law_again, X_cons', X_tryx, X_expr]; rw [call65_E, e])
  rcases hk with rfl | rfl | rfl | rfl | rfl <;> rfl
theorem base_bad (h43 : F 43 = some f_law_by_base) {d k : Nat} (e : callN F W n 65 [.ref t, .ref d] h = .exc k h') : callN F W (n + 1) 43 [.ref t, .ref d] h = .ok (.bool true) h' := by
  rw [callN_def h43 rfl]
  show (exec (callN F W n) W f_law_by_base.body [some (.ref t), some (.ref d)] h).bind retOf = _
  (try dsimp only [f_law_by_base, X_cons', X_tryx, X_expr]; rw [call65_E, e])
  simp [tryV, caught]
end
end Mine


-- part L09n
set_option maxRecDepth 4000
set_option linter.unusedVariables false
set_option linter.unusedSimpArgs false
namespace Mine
open PySem (Operator UnaryOp CmpOp)

theorem range_erase {α : Type} (d : α) : ∀ (l : List α) (x : Nat), (List.range l.length).filterMap (fun j => if j = x then none else some (l.getD j d)) = l.eraseIdx x
  | [], x => rfl
  | a :: l, 0 => by
    rw [List.length_cons, List.range_succ_eq_map, List.filterMap_cons]
    simp only [if_true, List.filterMap_map, Function.comp_def, Nat.succ_ne_zero, if_false, List.getD_cons_succ, Nat.succ_eq_add_one, List.eraseIdx_cons_zero]
    have : (List.range l.length).filterMap (fun j => some (l.getD j d)) = l := by
      rw [List.filterMap_eq_map']
      apply List.ext_getElem
      · simp
      · intro i h1 h2; simp [List.getElem?_eq_getElem h2]
    simpa using this
  | a :: l, x + 1 => by
    rw [List.length_cons, List.range_succ_eq_map, List.filterMap_cons]
    have := range_erase d l x
    simp only [List.filterMap_map, Function.comp_def, Nat.succ_eq_add_one, List.getD_cons_succ, Nat.add_right_cancel_iff, this, List.eraseIdx_cons_succ]
    simp

section
variable {F : Nat → Option MFun} {W n : Nat} {h h' : MH} {C : Cf} {ρ : Rho} {b t pt : Nat} {rows rows' : List (List Int)} {g g' : Nat} {past : List (List (List Int) × Nat)}

/-- the new rows; and they are read so whatever stands at a place beside -/
noncomputable def StB (b : Nat) (h : MH) (rows : List (List Int)) (rw : Nat) (rows' : List (List Int)) (v : Val) (h2 : MH) : Prop := Rd b h2 (tII rows') v ∧ ∀ l o, l < h.length → ¬ Sp l → l ≠ rw → Rd b (h.set l o) (tII rows) (.ref rw) → Rd b (h2.set l o) (tII rows') v
theorem StB.fresh {rw : Nat} {v : Val} {h2 : MH} (hb : b ≤ h.length) (r : Rd h.length h2 (tII rows') v) : StB b h rows rw rows' v h2 := ⟨r.low hb, fun l o hl ns _ _ => r.mono' hb fun i x hi e => by rw [List.getElem?_set_ne (hi.ne hl ns)]; exact e⟩
theorem behind_ok (h64 : F 64 = some f_law_behind) {c d rw : Nat} {dd : Dd} (hd : h[d]? = some (.list dd.vals)) (ok : Dd.ok c h d dd) (R : Rd b h (tII rows) (.ref rw)) (G : Rows rows g) (e : dueC rows.length g dd = none) (nb : dd.isBack = false) (hb : b ≤ h.length) :
    Wp (callN F W (n + 1) 64 [.ref d, .ref rw] h) fun v h' => h <+: h' ∧ ∃ a, v = .ref a ∧ StB b h rows rw (nx rows g dd).1 v h' := by
  rw [callN_def h64 rfl, Wp_bind]
  have S : ∀ {h' : MH} {k : Int} {v : Val}, h <+: h' → 0 ≤ k → dd.vals[k.toNat]? = some v → subV h' (.ref d) (.int k) = some v := fun {h' k v} p h0 hv => sub_ref (seqOf_list (get_pre p hd)) h0 hv
  have r0 := List.prefix_refl h
  refine ob24 R.list fun _ rs e0 brw hrw rl => ?_
  cases e0
  have p9 := G.p9
  have g40 := G.g40
  have ll : rs.length = rows.length := by have := rl.length; simpa using this
  show Wp (exec (callN F W n) W f_law_behind.body [some (.ref d), some (.ref rw), none, none, none, none, none, none] h) _
  generalize callN F W n = C
  (try dsimp only [f_law_behind]; try with_reducible rfl)
  have fin : ∀ {v : Val} {h2 : MH} {ρ2 : Rho} {s : MStmt}, (h <+: h2 ∧ ∃ a, v = .ref a ∧ StB b h rows rw (nx rows g dd).1 v h2) → Wp (retOf (.ret v, ρ2) h2) fun v h' => h <+: h' ∧ ∃ a, v = .ref a ∧ StB b h rows rw (nx rows g dd).1 v h' := fun {v h2 ρ2 s} q => by (try dsimp only [retOf_ret, Wp_ok]; try with_reducible rfl); exact q
  cases dd with
  | come l vs =>
    have e : (if 9 ≤ rows.length then some 2 else rowBad g vs) = none := e
    have q : ¬ 9 ≤ rows.length := fun q => by rw [if_pos q] at e; cases e
    rw [if_neg q] at e
    refine ob13 (row_ints e) fun xs ez1x1 lx bx => ?_; subst ez1x1
    refine w_assign sCome (h' := h) (sub_E rfl c_E (S r0 (by (first | exact om168 | omega)) rfl)) ?_
    let h1 := h ++ [.list (xs.map .int)]
    let h2 := h1 ++ [.list [.ref h.length]]
    let h3 := h2 ++ [.list (rs ++ [.ref h.length])]
    have pp : h <+: h3 := (pre_app _ _).trans ((pre_app _ _).trans (pre_app _ _))
    refine w_then (.ref h2.length) (h' := h) (h'' := h3) rfl ?_ (fin (s := .nil) ⟨pp, _, rfl, ?_⟩)
    · rw [E_bin, show (sem C (.loc 1)).E ([some (.ref d), some (.ref rw), none, none, none, none, none, none].set 2 (some sCome)) h = .ok (.ref rw) h from rfl, Res.bind_ok, E_lst, Es_cons, E_bi, Es_cons, sub_E (v := .ref d) (w := .int 1) (u := .ref l) rfl c_E (S r0 (by (first | exact om258 | omega)) rfl)]
      simp only [Res.bind_ok, Es_nil]
      rw [show biV h .list [.ref l] = .ok (.ref h.length) h1 from by
        have : h[l]? = some (.list (xs.map .int)) := ok.1.2.1
        simp only [biV, bi1, biL, biList, onRef, this]
        exact newList_ok (by simp; (first | exact om304 g40 lx | omega))]
      simp only [Res.bind_ok]
      rw [newList_one]
      simp only [Res.bind_ok, bin_addR]
      have e1 : h2[rw]? = some (.list rs) := get_pre ((pre_app _ _).trans (pre_app _ _)) hrw
      have e2 : h2[h1.length]? = some (.list [.ref h.length]) := lst_get _ _
      show addRR h2 rw h1.length = _
      simp only [addRR, e1, e2]
      exact newList_ok (by simp; (first | exact om305 ll q | omega))
    · simp only [nx, ints9]
      have l2 : h2.length = h.length + 2 := by simp [h2, h1]
      have gl : h3[h.length]? = some (.list (xs.map .int)) := get_pre ((pre_app _ _).trans (pre_app _ _)) (lst_get h _)
      refine ⟨?_, fun l o hl _ nl R' => ?_⟩
      · refine Rd.mkList (by (first | exact om306 hb l2 | omega)) (lst_get _ _) ?_
        rw [List.map_append]
        exact (rl.mono pp).append (.cons (Rd.mkInts hb gl) .nil)
      · refine ob24 R'.list fun _ rs' e0 _ hrw' rl' => ?_
        cases e0
        rw [List.getElem?_set_ne nl, hrw] at hrw'
        cases hrw'
        refine Rd.mkList (by (first | exact om306 hb l2 | omega)) (by rw [List.getElem?_set_ne (by (first | exact om307 l2 hl | omega))]; exact lst_get _ _) ?_
        rw [List.map_append]
        exact (rl'.mono (pre_set2 pp hl)).append (.cons (Rd.mkInts hb (by rw [List.getElem?_set_ne (by (first | exact om271 hl | omega))]; exact gl)) .nil)
  | leave p =>
    have e : (if okPlace rows.length p then none else some 6) = none := e
    cases q : okPlace rows.length p with
    | false => rw [q] at e; cases e
    | true =>
    refine ob12 (ok_int q) fun x ez3x1 hx => ?_; subst ez3x1
    refine w_assign sLeave (h' := h) (sub_E rfl c_E (S r0 (by (first | exact om168 | omega)) rfl)) ?_
    refine w_skip (h' := h) rfl ?_
    refine w_then (.ref h.length) (h' := h) (h'' := h ++ [.list (rs.eraseIdx x)]) rfl ?_ (fin (s := .nil) ⟨pre_app _ _, _, rfl, ?_⟩)
    · rw [E_comp, I_irange, E_bi, Es_cons, show (sem C (.loc 1)).E ([some (.ref d), some (.ref rw), none, none, none, none, none, none].set 2 (some sLeave)) h = .ok (.ref rw) h from rfl]
      simp only [Res.bind_ok, Es_nil]
      rw [show biV h .len [.ref rw] = .ok (.int rs.length) h from by simp [biV, bi1, biL, onRef, seqOf_list hrw], Res.bind_ok, irange_ok (by (first | exact om308 p9 ll | omega)), Res.bind_ok]
      simp only
      (rw [comp_range (fun j => if j = x then none else some (rs.getD j .none)) (fun j hj => ?_) rfl]; try dsimp only [Res.bind_ok]; rw [range_erase, newList_ok (by have := List.length_eraseIdx_le rs x; (first | exact om309 p9 ll this | omega))])
      have s1 := S r0 (k := 1) (by (first | exact om258 | omega)) (v := .int x) rfl
      have s2 : subV h (.ref rw) (.int j) = some (rs.getD j .none) := sub_ref (seqOf_list hrw) (by (first | exact om174 | omega)) (by simp [hj])
      by_cases jx : j = x
      · subst jx
        simp [compStep, bindTgt, s1, locV]
      · have : ¬ (j : Int) = x := by (first | exact om200 jx | omega)
        simp [compStep, bindTgt, s1, s2, locV, jx, this]
    · refine ⟨?_, fun l o hl _ nl R' => ?_⟩
      · refine Rd.mkList hb (lst_get _ _) ?_
        show RdL b _ ((rows.eraseIdx x).map tI) _
        rw [← erase_map]
        exact (rl.mono (pre_app _ _)).erase x
      · refine ob24 R'.list fun _ rs' e0 _ hrw' rl' => ?_
        cases e0
        rw [List.getElem?_set_ne nl, hrw] at hrw'
        cases hrw'
        refine Rd.mkList hb (by rw [List.getElem?_set_ne (by (first | exact om271 hl | omega))]; exact lst_get _ _) ?_
        show RdL b _ ((rows.eraseIdx x).map tI) _
        rw [← erase_map]
        exact (rl'.mono (pre_set2 (pre_app _ _) hl)).erase x
  | put l vs =>
    have e : (if 40 ≤ g then some 2 else rowBad rows.length vs) = none := e
    have q : ¬ 40 ≤ g := fun q => by rw [if_pos q] at e; cases e
    rw [if_neg q] at e
    refine ob13 (row_ints e) fun xs ez5x1 lx bx => ?_; subst ez5x1
    have hl : h[l]? = some (.list (xs.map .int)) := ok.1.2.1
    refine w_assign sPut (h' := h) (sub_E rfl c_E (S r0 (by (first | exact om168 | omega)) rfl)) ?_
    refine w_skip (h' := h) rfl ?_
    refine w_skip (h' := h) rfl ?_
    refine w_thenW (h' := h) rfl ?_
    rw [E_comp, I_irange, E_bi, Es_cons, show (sem C (.loc 1)).E ([some (.ref d), some (.ref rw), none, none, none, none, none, none].set 2 (some sPut)) h = .ok (.ref rw) h from rfl]
    simp only [Res.bind_ok, Es_nil]
    (rw [show biV h .len [.ref rw] = .ok (.int rs.length) h from by simp [biV, bi1, biL, onRef, seqOf_list hrw]]; try dsimp only [Res.bind_ok]; rw [irange_ok (by (first | exact om308 p9 ll | omega))]; try dsimp only [Res.bind_ok]; try with_reducible rfl)
    simp only [Wp_bind]
    refine (comp_rng (b := h.length) (fun j => tI (rows.getD j [] ++ [xs.getD j 0])) (fun j hj h' p => ?_)).mono fun ws h2 q => ?_
    · have l' := len_pre p
      refine ob12 (rl.get (k := j) (t := tI (rows.getD j [])) (by simp [show j < rows.length by (first | exact om3 ll hj | omega)])) fun w ew rw1 => ?_
      refine ob13 rw1.ints fun cj ez7x1 _ hcj => ?_; subst ez7x1
      have lr : (rows.getD j []).length = g := by
        have : rows.getD j [] ∈ rows := by rw [List.getD_eq_getElem?_getD, List.getElem?_eq_getElem (show j < rows.length by (first | exact om3 ll hj | omega))]; simp
        exact (G.row _ this).1
      have s1 := S p (k := 1) (by (first | exact om258 | omega)) (v := .ref l) rfl
      have s2 : subV h' (.ref rw) (.int j) = some (.ref cj) := sub_ref (seqOf_list (get_pre p hrw)) (by (first | exact om174 | omega)) (by simpa using ew)
      have s3 : subV h' (.ref l) (.int j) = some (.int (xs.getD j 0)) := sub_ref (seqOf_list (get_pre p hl)) (by (first | exact om174 | omega)) (getD_map (by (first | exact om310 ll lx hj | omega)))
      let h1 := h' ++ [.list [.int (xs.getD j 0)]]
      let h3 := h1 ++ [.list ((rows.getD j [] ++ [xs.getD j 0]).map .int)]
      have b3 : addRR h1 cj h'.length = .ok (.ref h1.length) h3 := by
        have e1 : h1[cj]? = some (.list ((rows.getD j []).map .int)) := get_pre (p.trans (pre_app _ _)) hcj
        have e2 : h1[h'.length]? = some (.list [.int (xs.getD j 0)]) := lst_get _ _
        simp only [addRR, e1, e2]
        rw [newList_ok (by simp only [List.length_append, List.length_map, lr]; simp; (first | exact om311 q | omega))]
        simp [h3]
      refine Wp_of (a := some (.ref h1.length)) (h' := h3) ?_ ⟨(pre_app _ _).trans (pre_app _ _), _, rfl, Rd.mkInts (by simp [h1]; (first | exact om121 l' | omega)) (lst_get _ _)⟩
      show ((sem C _).E [some (.ref d), some (.ref rw), some sPut, none, none, some (.int j), none, none] h').bind _ = _
      (try dsimp only [E_bin]; rw [sub_E (v := .ref rw) (w := .int j) (u := .ref cj) rfl rfl s2]; try dsimp only [Res.bind_ok, E_lst, Es_cons]; rw [sub_E (v := .ref l) (w := .int j) (u := .int (xs.getD j 0)) (sub_E (v := .ref d) (w := .int 1) rfl c_E s1) rfl s3])
      simp only [Res.bind_ok, Es_nil, newList_one, bin_addR]
      rw [show addRR (h' ++ [.list [.int (xs.getD j 0)]]) cj h'.length = _ from b3]; rfl
    · have lw := q.2.length
      simp only [List.length_map, List.length_range] at lw
      refine Wp_of (newList_ok (by (first | exact om312 p9 ll lw | omega))) ?_
      refine fin (s := .nil) ⟨q.1.trans (pre_app _ _), _, rfl, ?_⟩
      have l2 := len_pre q.1
      refine StB.fresh hb (Rd.mkList (by (first | exact om120 l2 | omega)) (lst_get _ _) ?_)
      show RdL h.length _ ((List.zipWith (fun r x => r ++ [x]) rows ((xs.map Val.int).map toI9)).map tI) _
      rw [ints9]
      have : (List.range rs.length).map (fun j => tI (rows.getD j [] ++ [xs.getD j 0])) = (List.zipWith (fun r x => r ++ [x]) rows xs).map tI := by
        apply List.ext_getElem
        · simp; omega
        · intro i h1 h2
          simp at h1 h2
          simp [List.getElem?_eq_getElem (show i < rows.length by omega), List.getElem?_eq_getElem (show i < xs.length by omega)]
      rw [← this]
      exact q.2.mono (pre_app _ _)
  | take p =>
    have e : (if okPlace g p then none else some 7) = none := e
    cases q : okPlace g p with
    | false => rw [q] at e; cases e
    | true =>
    refine ob12 (ok_int q) fun y ez8x1 hy => ?_; subst ez8x1
    refine w_assign sTake (h' := h) (sub_E rfl c_E (S r0 (by (first | exact om168 | omega)) rfl)) ?_
    refine w_skip (h' := h) rfl ?_
    refine w_skip (h' := h) rfl ?_
    refine w_skip (h' := h) rfl ?_
    refine w_thenW (h' := h) rfl ?_
    rw [E_comp, I_iobj, show (sem C (.loc 1)).E ([some (.ref d), some (.ref rw), none, none, none, none, none, none].set 2 (some sTake)) h = .ok (.ref rw) h from rfl, Res.bind_ok, srcOf_list hrw]
    simp only [Res.opt_some, Res.bind_ok, Wp_bind]
    refine (comp_rdl (b := b) (b' := h.length) (eraT y) (h0 := h) (fun h' p => by simp [get_pre p hrw]) (rows.map tI) rs h r0 rl (fun tr htr x h' p rx => ?_)).mono fun ws h2 q => ?_
    · refine ob12 (List.mem_map.mp htr) fun r hr ez9x2 => ?_; subst ez9x2
      refine ob13 rx.ints fun c ez10x1 _ hc => ?_; subst ez10x1
      have lr := (G.row r hr).1
      have l' := len_pre p
      have hc' : h'[c]? = some (.list (r.map .int)) := get_pre p hc
      let h1 := h' ++ [.list ((r.take y).map .int)]
      let h3 := h1 ++ [.list ((r.drop (y + 1)).map .int)]
      let h5 := h3 ++ [.list ((r.eraseIdx y).map .int)]
      have lt : ((r.take y).map Val.int).length ≤ 1048576 := by simp; omega
      have ld : ((r.drop (y + 1)).map Val.int).length ≤ 1048576 := by simp; (first | exact om315 g40 lr | omega)
      have d1 := S p (k := 1) (by (first | exact om258 | omega)) (v := .int y) rfl
      have d2 := S (p.trans (pre_app h' [.list ((r.take y).map .int)])) (k := 1) (by (first | exact om258 | omega)) (v := .int y) rfl
      have s1 : sliceV h' (.ref c) .none (.int y) = .ok (.ref h'.length) h1 := by
        have mn : min y r.length = y := by omega
        simp only [sliceV, hc', sliceL, cutAt, List.length_map, Int.toNat_natCast, mn]
        rw [if_pos (by (first | exact om174 | omega))]
        simp only [List.drop_zero, ← List.map_take]
        exact newList_ok lt
      have s2 : sliceV h1 (.ref c) (.int ((y : Int) + 1)) .none = .ok (.ref h1.length) h3 := by
        have hc2 : h1[c]? = some (.list (r.map .int)) := get_pre (pre_app _ _) hc'
        have mn : min ((y : Int) + 1).toNat r.length = y + 1 := by omega
        simp only [sliceV, hc2, sliceL, cutAt, List.length_map, mn]
        rw [if_pos (by (first | exact om290 | omega))]
        simp only
        rw [List.take_of_length_le (by simp), ← List.map_drop]
        exact newList_ok ld
      have b3 : addRR h3 h'.length h1.length = .ok (.ref h3.length) h5 := by
        have e1 : h3[h'.length]? = some (.list ((r.take y).map .int)) := get_pre (pre_app _ _) (lst_get h' _)
        have e2 : h3[h1.length]? = some (.list ((r.drop (y + 1)).map .int)) := lst_get _ _
        simp only [addRR, e1, e2]
        rw [← List.map_append, ← List.eraseIdx_eq_take_drop_succ]
        exact newList_ok (by simp only [List.length_map, List.length_eraseIdx]; split <;> (first | exact om316 g40 lr | exact om317 hy lr ‹_› | omega))
      refine Wp_of (a := some (.ref h3.length)) (h' := h5) ?_ ⟨(pre_app _ _).trans ((pre_app _ _).trans (pre_app _ _)), _, rfl, ?_⟩
      · show ((sem C _).E [some (.ref d), some (.ref rw), some sTake, none, none, none, some (.ref c), none] h').bind _ = _
        have e1 : (sem C (.sub (.loc 0) (.const (.int 1)))).E [some (.ref d), some (.ref rw), some sTake, none, none, none, some (.ref c), none] h' = .ok (.int y) h' := sub_E rfl c_E d1
        have e2 : (sem C (.sub (.loc 0) (.const (.int 1)))).E [some (.ref d), some (.ref rw), some sTake, none, none, none, some (.ref c), none] h1 = .ok (.int y) h1 := sub_E rfl c_E d2
        rw [E_bin, E_slice]
        simp only [E_loc, locV_succ, locV_zero, Res.bind_ok, Es_nil, Es_cons, e1, optOf, Res.opt_some, s1]
        (try dsimp only [E_slice]; try with_reducible rfl)
        simp only [E_loc, locV_succ, locV_zero, Res.bind_ok, Es_nil, Es_cons, E_bin, e2, E_const, bin_add, optOf, Res.opt_some, s2, bin_addR, b3]
      · rw [eraT_I]
        exact Rd.mkInts (by simp [h3, h1]; (first | exact om281 l' | omega)) (lst_get _ _)
    · have lw := q.2.length
      simp only [List.length_map] at lw
      refine Wp_of (newList_ok (by (first | exact om182 p9 lw | omega))) ?_
      refine fin (s := .nil) ⟨q.1.trans (pre_app _ _), _, rfl, ?_⟩
      have l2 := len_pre q.1
      refine StB.fresh hb (Rd.mkList (by (first | exact om120 l2 | omega)) (lst_get _ _) ?_)
      have r6 := q.2
      rw [List.map_map, show (eraT y ∘ tI) = (tI ∘ fun r => r.eraseIdx y) from funext fun r => eraT_I y r, ← List.map_map] at r6
      exact r6.mono (pre_app _ _)
  | bid p y' a =>
    have e2 : (if okPlace rows.length p then (if okPlace g y' then bidBad a else some 7) else some 6) = none := e
    clear e
    cases q1 : okPlace rows.length p with
    | false => rw [q1] at e2; cases e2
    | true =>
    rw [q1] at e2
    cases q2 : okPlace g y' with
    | false => rw [q2] at e2; cases e2
    | true =>
    rw [q2] at e2
    refine ob12 (ok_int q1) fun x ez11x1 hx => ?_; subst ez11x1
    refine ob12 (ok_int q2) fun y ez12x1 hy => ?_; subst ez12x1
    have e : bidBad a = none := e2
    cases a with
    | int z =>
      refine w_assign sBid (h' := h) (sub_E rfl c_E (S r0 (by (first | exact om168 | omega)) rfl)) ?_
      refine w_skip (h' := h) rfl ?_
      refine w_skip (h' := h) rfl ?_
      refine w_skip (h' := h) rfl ?_
      refine w_skip (h' := h) rfl ?_
      refine w_assign (.ref (h.length + rows.length)) (h' := RowsH h rows) (by
        rw [E_comp, I_iobj, show (sem C (.loc 1)).E ([some (.ref d), some (.ref rw), none, none, none, none, none, none].set 2 (some sBid)) h = .ok (.ref rw) h from rfl, Res.bind_ok, srcOf_list hrw]
        simp only [Res.opt_some, Res.bind_ok]
        (rw [copy_eq (C := C) (h := h) (b := b) (i := 7) (by simp) (fun h' p => by simp [get_pre p hrw]) rows rs h r0 rl (fun r hr => by have := (G.row r hr).1; (first | exact om318 g40 this | omega))]; try dsimp only [Res.bind_ok]; rw [newList_ok (by simp; (first | exact om276 p9 | omega))])
        simp [RowsH, HP]) ?_
      show Wp (exec C W _ [some (.ref d), some (.ref rw), some sBid, some (.ref (h.length + rows.length)), none, none, none, none] (RowsH h rows)) _
      have pr : h <+: RowsH h rows := RowsH.pre
      have g1 : (RowsH h rows)[h.length + rows.length]? = some (.list (refsAt h.length rows.length)) := HP_out
      have lr : (rows.getD x []).length = g := (G.row (rows.getD x []) (by rw [List.getD_eq_getElem?_getD, List.getElem?_eq_getElem hx]; simp)).1
      let rows2 := rows.set x ((rows.getD x []).set y z)
      let h3 := HP h rows2 [.list (refsAt h.length rows.length)]
      have l2 : rows2.length = rows.length := by simp [rows2]
      rw [st_asub (v := .int z) (h' := RowsH h rows) (sub_E rfl c_E (S pr (by (first | exact om264 | omega)) rfl)) (ov := .ref (h.length + x)) (sub_E (v := .ref (h.length + rows.length)) (w := .int x) rfl (sub_E rfl c_E (S pr (by (first | exact om258 | omega)) rfl)) (sub_ref (seqOf_list g1) (by (first | exact om174 | omega)) (by simp [refsAt, hx]))) (iv := .int y) (sub_E rfl c_E (S pr (by (first | exact om263 | omega)) rfl)) (h'' := h3) (by
        have : (RowsH h rows)[h.length + x]? = some (.list ((rows.getD x []).map .int)) := HP_get hx
        simp only [asubV, this]
        rw [if_pos ⟨by (first | exact om174 | omega), by rw [List.length_map, lr]; (first | exact om175 hy | omega)⟩]
        rw [← List.map_set, Int.toNat_natCast]
        exact congrArg _ (HP_set hx))]
      refine w_ret (.ref (h.length + rows.length)) rfl (fin (s := .nil) ⟨HP_pre, _, rfl, ?_⟩)
      have := HP_rd (h := h) (hs := rows2) (t := [])
      rw [l2] at this
      exact StB.fresh hb this
    | _ => cases e
  | back => cases nb
end
end Mine


-- part L09o
set_option maxRecDepth 4000
set_option linter.unusedVariables false
set_option linter.unusedSimpArgs false
namespace Mine
open PySem (Operator UnaryOp CmpOp)

section
variable {F : Nat → Option MFun} {W n : Nat} {h h' : MH} {C : Cf} {ρ : Rho} {b t pt : Nat} {rows rows' : List (List Int)} {g g' : Nat} {past : List (List (List Int) × Nat)}

theorem st_skip {C : Cf} {ρ : Rho} {h' : MH} {c : MExpr} {t r : MStmt} (hc : (sem C c).T ρ h = .ok false h') : exec C W (.cons (.ifs c t .nil) r) ρ h = exec C W r ρ h' := by rw [st_if hc]; rfl
theorem same_ok (h22 : F 22 = some f_law_whole) (h45 : F 45 = some f_law_same) {b b' : Nat} {rs : List (List Int)} {u v : Val} (hu : Rd b h (tII rs) u) (hv : Rd b' h (tII rs) v) :
    callN F W (n + 2) 45 [u, v] h = .ok (.bool true) h := by
  rw [callN_def h45 rfl]
  have lu := len_rows hu
  have lv := len_rows hv
  have eq := eq_same8 (t := tII rs) (by have := dep_tII rs; (first | exact om319 this | omega)) hu hv
  refine ob24 hu.list fun a vs ez0x2 _ ha hvs => ?_; subst ez0x2
  show (exec (callN F W (n + 1)) W f_law_same.body [some (.ref a), some v, none, none] h).bind retOf = _
  unfold f_law_same
  have i1 : isInstV h .list (.ref a) = some true := by show Option.map _ (seqOf h a) = _; rw [seqOf_list ha]; rfl
  rw [st_skip (h' := h) (by
    simp only [T_or, T_not, T_isinst, E_isinst, E_loc, locV_zero, Res.bind_ok, i1, Res.opt_some, truthy_bool, Bool.not_true, Bool.false_eq_true, if_false, T_cmp, E_bi, Es_cons, Es_nil, lu]
    show ((biV h .len [v]).bind _) = _
    rw [lv]
    simp)]
  obtain ⟨ρ', e, o2, o3, rfl⟩ := forLoop_pure (f := forStep (.loc 2) (exec (callN F W (n + 1)) W (.cons (.ifs (.un .Not (.isinst .list (.loc 2))) (.cons (.ret (.const (.bool false))) .nil) .nil) (.cons (.fors (.loc 3) (.iobj (.loc 2)) (.cons (.ifs (.un .Not (.call 22 (.cons (.loc 3) .nil))) (.cons (.ret (.const (.bool false))) .nil) .nil) .nil)) .nil))))
    (ck := fun h' => decide (h'[a]? = some (.list vs))) (h := h) (fun ρ => ∃ o2 o3, ρ = [some (.ref a), some v, o2, o3]) (by simp [ha]) vs [some (.ref a), some v, none, none] (fun x hx ρ hρ => by
      obtain ⟨o2, o3, rfl⟩ := hρ
      obtain ⟨t, ht, rt⟩ := hvs.mem hx
      obtain ⟨r, hr, rfl⟩ := List.mem_map.mp ht
      obtain ⟨c, rfl, _, hc⟩ := rt.ints
      have i2 : isInstV h .list (.ref c) = some true := by show Option.map _ (seqOf h c) = _; rw [seqOf_list hc]; rfl
      obtain ⟨ρ', e, o3', rfl⟩ := forLoop_pure (f := forStep (.loc 3) (exec (callN F W (n + 1)) W (.cons (.ifs (.un .Not (.call 22 (.cons (.loc 3) .nil))) (.cons (.ret (.const (.bool false))) .nil) .nil) .nil)))
        (ck := fun h' => decide (h'[c]? = some (.list (r.map .int)))) (h := h) (fun ρ => ∃ o3, ρ = [some (.ref a), some v, some (.ref c), o3]) (by simp [hc]) (r.map .int) [some (.ref a), some v, some (.ref c), o3] (fun y hy ρ hρ => by
          obtain ⟨o3, rfl⟩ := hρ
          obtain ⟨i, hi, rfl⟩ := List.mem_map.mp hy
          refine ⟨[some (.ref a), some v, some (.ref c), some (.int i)], ?_, _, rfl⟩
          show exec (callN F W (n + 1)) W (.cons _ .nil) [some (.ref a), some v, some (.ref c), some (.int i)] h = _
          rw [st_skip (h' := h) (by
            (try dsimp only [T_not, T_call, E_call]; try with_reducible rfl)
            show (((callN F W (n + 1) 22 [.int i] h).bind _).bind _) = _
            rw [whole_int h22]; rfl)]
          rfl) ⟨_, rfl⟩
      refine ⟨[some (.ref a), some v, some (.ref c), o3'], ?_, _, _, rfl⟩
      show exec (callN F W (n + 1)) W (.cons _ _) [some (.ref a), some v, some (.ref c), o3] h = _
      rw [st_skip (h' := h) (by
        (try dsimp only [T_not, T_isinst, E_isinst]; try with_reducible rfl)
        show (((Res.opt (isInstV h .list (.ref c)) h).bind _).bind _).bind _ = _
        rw [i2]; rfl), st_fors (s := (r.map .int, fun h' => decide (h'[c]? = some (.list (r.map .int))))) (h' := h) (by
          (try dsimp only [I_iobj]; try with_reducible rfl)
          show Res.opt (srcOf h (.ref c)) h = _
          rw [srcOf_list hc]; rfl), e]
      rfl) ⟨_, _, rfl⟩
  rw [st_fors (s := (vs, fun h' => decide (h'[a]? = some (.list vs)))) (h' := h) (by
    (try dsimp only [I_iobj]; try with_reducible rfl)
    show Res.opt (srcOf h (.ref a)) h = _
    rw [srcOf_list ha]; rfl), e]
  show ((exec (callN F W (n + 1)) W _ [some (.ref a), some v, o2, o3] h).bind retOf) = _
  rw [st_ret (v := .bool true) (h' := h) (by
    (try dsimp only [E_cmp]; try with_reducible rfl)
    show ((Res.opt (cmpV h .Eq (.ref a) v) h).bind _) = _
    rw [eq]; rfl)]
  rfl

theorem eq_int {m : Nat} {i : Int} : eqV m h (.int i) (.int i) = some true := by cases m <;> simp [eqV, eqP]
theorem eq_fl {c m : Nat} {v : Val} (f : Fl c h v) : eqV (m + 1) h v v = some true := by
  cases v with
  | ref i =>
    refine ob02 f fun _ wz8 => ?_; refine ob21 wz8 fun k x e => ?_
    simp only [eqV, e, if_true, eqL, eq_int]
    rfl
  | _ => simp [eqV, eqP]
theorem eqL_fl {c m : Nat} : ∀ {vs : List Val}, (∀ v ∈ vs, Fl c h v) → eqL (eqV (m + 1) h) vs vs = some true
  | [], _ => rfl
  | v :: vs, hv => by
    simp only [eqL, eq_fl (m := m) (hv v (.head _))]
    rw [eqL_fl fun u hu => hv u (.tail _ hu)]; rfl

theorem fits_none (h66 : F 66 = some f_law_fits) {w : List Nat} (hw : (w == [98, 97, 99, 107]) = false) {sp : Val} : callN F W (n + 1) 66 [.none, .str [], sp, .str w] h = .ok (.bool true) h := by
  rw [callN_def h66 rfl]
  have isN : cmpV h .Is .none .none = some true := rfl
  simp [f_law_fits, cmp_eqS, hw, isN]
theorem fits_bad (h66 : F 66 = some f_law_fits) {w : List Nat} (hw : (w == [98, 97, 99, 107]) = false) {sp : Val} {k : Nat} (hk : code9 k) : callN F W (n + 1) 66 [nmC (some k), nmC (some k), sp, .str w] h = .ok (.bool true) h := by
  rw [callN_def h66 rfl]
  rcases hk with rfl | rfl | rfl | rfl | rfl <;> simp [f_law_fits, nmC0, nmC2, nmC3, nmC4, nmC6, nmC7, cmp_eqS, hw, isInstV]
theorem ne_empty {sp : Nat} {pvs : List Val} (hp : h[sp]? = some (.list pvs)) : cmpV (h ++ [.list []]) .NotEq (.ref sp) (.ref h.length) = some (!pvs.isEmpty) := by
  have e1 : seqOf (h ++ [.list []]) sp = some (true, pvs) := seqOf_list (get_pre (pre_app _ _) hp)
  have e2 : seqOf (h ++ [.list []]) h.length = some (true, []) := seqOf_list (lst_get _ _)
  cases pvs with
  | nil => simp [cmpV, eqV, e1, e2, eqL]
  | cons v vs => simp [cmpV, eqV, e1, e2]
theorem fits_back (h66 : F 66 = some f_law_fits) {sp : Nat} {pvs : List Val} (hp : h[sp]? = some (.list pvs)) {u : Val} : callN F W (n + 1) 66 [.bool (!pvs.isEmpty), u, .ref sp, sBack] h = .ok (.bool true) (h ++ [.list []]) := by
  rw [callN_def h66 rfl]
  have := ne_empty hp
  simp [f_law_fits, cmp_eqS, sBack, isInstV, newList_ok (xs := []) (h := h) (Nat.zero_le _), this]
  simp [cmpV, eqV, eqP]
end
end Mine


-- part L09p
set_option maxRecDepth 4000
set_option linter.unusedVariables false
set_option linter.unusedSimpArgs false
namespace Mine
open PySem (Operator UnaryOp CmpOp)

noncomputable def Dd.re (l' : Nat) : Dd → Dd
  | .come _ vs => .come l' vs
  | .put _ vs => .put l' vs
  | x => x
noncomputable def Dd.lined : Dd → Bool
  | .come _ _ => true
  | .put _ _ => true
  | _ => false
noncomputable def Dd.word : Dd → List Nat
  | .come _ _ => [99, 111, 109, 101] | .leave _ => [108, 101, 97, 118, 101] | .put _ _ => [112, 117, 116] | .take _ => [116, 97, 107, 101] | .bid _ _ _ => [98, 105, 100] | .back => [98, 97, 99, 107]
theorem Dd.re_due (l' : Nat) (dd : Dd) (p g : Nat) : dueC p g (dd.re l') = dueC p g dd := by cases dd <;> rfl
theorem Dd.re_nx (l' : Nat) (dd : Dd) (rows : List (List Int)) (g : Nat) : nx rows g (dd.re l') = nx rows g dd := by cases dd <;> rfl
theorem Dd.re_back (l' : Nat) (dd : Dd) : (dd.re l').isBack = dd.isBack := by cases dd <;> rfl
theorem Dd.head (dd : Dd) : dd.vals[0]? = some (.str dd.word) := by cases dd <;> rfl

section
variable {F : Nat → Option MFun} {W n : Nat} {h h' : MH} {C : Cf} {ρ : Rho} {b t pt : Nat} {rows rows' : List (List Int)} {g g' : Nat} {past : List (List (List Int) × Nat)}

theorem Dd.ok_keep {M : Nat → Prop} {c d : Nat} {dd : Dd} (k : Keep M h h') (hM : ∀ i, M i → i < c) (o : Dd.ok c h d dd) : Dd.ok c h' d dd := by
  have f : ∀ {v : Val}, Fl c h v → Fl c h' v := fun {v} q => q.mono (Nat.le_refl _) fun i o hi e => k.2 i o (fun m => absurd (hM i m) (by (first | exact om320 hi | omega))) e
  have ln : ∀ {l : Nat} {vs : List Val}, LineV c h l vs → LineV c h' l vs := fun {l vs} q => ⟨q.1, k.2 _ _ (fun m => absurd (hM _ m) (by have := q.1; (first | exact om320 this | omega))) q.2.1, q.2.2.1, fun v hv => ⟨f (q.2.2.2 v hv).1, (q.2.2.2 v hv).2⟩⟩
  cases dd with
  | come l vs => exact ⟨ln o.1, o.2⟩
  | put l vs => exact ⟨ln o.1, o.2⟩
  | leave p => exact ⟨f o.1, o.2⟩
  | take p => exact ⟨f o.1, o.2⟩
  | bid p y a => exact ⟨f o.1, f o.2.1, f o.2.2⟩
  | back => trivial
theorem deed_eq {c d k l' : Nat} {dd : Dd} (hd : h[d]? = some (.list dd.vals)) (hk : h[k]? = some (.list (dd.re l').vals)) (o : Dd.ok c h d dd) (o' : Dd.ok c h k (dd.re l')) : cmpV h .NotEq (.ref d) (.ref k) = some false := by
  have e1 := seqOf_list hd
  have e2 := seqOf_list hk
  have st : ∀ (s : List Nat) (m : Nat), eqV (m + 1) h (.str s) (.str s) = some true := fun s m => by simp [eqV, eqP]
  have key : eqV 8 h (.ref d) (.ref k) = some true := by
    cases dd with
    | come l vs =>
      have f1 := seqOf_list o.1.2.1
      have f2 := seqOf_list o'.1.2.1
      have := eqL_fl (m := 5) (c := c) (h := h) (vs := vs) fun v hv => (o.1.2.2.2 v hv).1
      have l2 : eqV 7 h (.ref l) (.ref l') = some true := by rw [eqV, f1, f2]; simp [this]
      rw [eqV, e1, e2]
      simp [Dd.vals, Dd.re, eqL, sCome, st, l2]
    | put l vs =>
      have f1 := seqOf_list o.1.2.1
      have f2 := seqOf_list o'.1.2.1
      have := eqL_fl (m := 5) (c := c) (h := h) (vs := vs) fun v hv => (o.1.2.2.2 v hv).1
      have l2 : eqV 7 h (.ref l) (.ref l') = some true := by rw [eqV, f1, f2]; simp [this]
      rw [eqV, e1, e2]
      simp [Dd.vals, Dd.re, eqL, sPut, st, l2]
    | leave p =>
      have := eq_fl (m := 6) o.1
      rw [eqV, e1, e2]
      simp [Dd.vals, Dd.re, eqL, sLeave, st, this]
    | take p =>
      have := eq_fl (m := 6) o.1
      rw [eqV, e1, e2]
      simp [Dd.vals, Dd.re, eqL, sTake, st, this]
    | bid p y a =>
      have t1 := eq_fl (m := 6) o.1
      have t2 := eq_fl (m := 6) o.2.1
      have t3 := eq_fl (m := 6) o.2.2
      rw [eqV, e1, e2]
      simp [Dd.vals, Dd.re, eqL, sBid, st, t1, t2, t3]
    | back =>
      rw [eqV, e1, e2]
      simp [Dd.vals, Dd.re, eqL, sBack, st]
  show (eqV 8 h (.ref d) (.ref k)).map (!·) = _
  rw [key]; rfl

/-- the deed's copy -/
theorem kept_ok {c d : Nat} {dd : Dd} (hd : h[d]? = some (.list dd.vals)) (ok : Dd.ok c h d dd) (hc : c ≤ h.length) {a0 a1 a2 a3 a5 a7 a8 a9 a10 : Option Val} {r : MStmt} :
    ∃ h' l', h <+: h' ∧ h'[h.length]? = some (.list (dd.re l').vals) ∧ Dd.ok c h' h.length (dd.re l') ∧
      exec C W (.cons (.assign 6 (.bi .list (.cons (.loc 4) .nil))) (.cons (.ifs (.or (.cmp .Eq (.sub (.loc 4) (.const (.int 0))) (.const (.str [99, 111, 109, 101]))) (.cmp .Eq (.sub (.loc 4) (.const (.int 0))) (.const (.str [112, 117, 116])))) (.cons (.asub (.loc 6) (.const (.int 1)) (.bi .list (.cons (.sub (.loc 4) (.const (.int 1))) .nil))) .nil) .nil) r)) [a0, a1, a2, a3, some (.ref d), a5, none, a7, a8, a9, a10] h
        = exec C W r [a0, a1, a2, a3, some (.ref d), a5, some (.ref h.length), a7, a8, a9, a10] h' := by
  let h1 := h ++ [.list dd.vals]
  have p1 : h <+: h1 := pre_app _ _
  have e1 : (sem C (.bi .list (.cons (.loc 4) .nil))).E [a0, a1, a2, a3, some (.ref d), a5, none, a7, a8, a9, a10] h = .ok (.ref h.length) h1 := by
    (try dsimp only [E_bi, Es_cons]; try with_reducible rfl)
    simp only [E_loc, locV_succ, locV_zero, Res.bind_ok, Es_nil, biV, bi1, biL, biList, onRef, hd]
    exact newList_ok (by cases dd <;> simp [Dd.vals])
  have s0 : subV h1 (.ref d) (.int 0) = some (.str dd.word) := sub_ref (seqOf_list (get_pre p1 hd)) (by (first | exact om168 | omega)) dd.head
  have g1 : h1[h.length]? = some (.list dd.vals) := lst_get _ _
  have w0 : (sem C (.sub (.loc 4) (.const (.int 0)))).E [a0, a1, a2, a3, some (.ref d), a5, some (.ref h.length), a7, a8, a9, a10] h1 = .ok (.str dd.word) h1 := sub_E rfl c_E s0
  have okc := Dd.ok_keep (dd := dd) (d := d) (c := c) (h := h) (h' := h1) (Keep.of_pre (M := fun _ => False) p1) (fun _ m => m.elim) ok
  have cond : (sem C (.or (.cmp .Eq (.sub (.loc 4) (.const (.int 0))) (.const (.str [99, 111, 109, 101]))) (.cmp .Eq (.sub (.loc 4) (.const (.int 0))) (.const (.str [112, 117, 116]))))).T [a0, a1, a2, a3, some (.ref d), a5, some (.ref h.length), a7, a8, a9, a10] h1 = .ok dd.lined h1 := by
    have := or_T (cmp_T (op := .Eq) w0 (c_E (v := .str [99, 111, 109, 101])) rfl) fun _ => cmp_T (op := .Eq) w0 (c_E (v := .str [112, 117, 116])) rfl
    rw [this]
    cases dd <;> rfl
  have two : ∀ (l : Nat) (vs : List Val) (s : Val), dd.vals = [s, .ref l] → LineV c h l vs → l ≠ d → dd.lined = true → (∀ l', dd.re l' = .come l' vs ∨ dd.re l' = .put l' vs) → (∀ l', (dd.re l').vals = [s, .ref l']) →
      ∃ h' l', h <+: h' ∧ h'[h.length]? = some (.list (dd.re l').vals) ∧ Dd.ok c h' h.length (dd.re l') ∧ exec C W (.cons (.ifs (.or (.cmp .Eq (.sub (.loc 4) (.const (.int 0))) (.const (.str [99, 111, 109, 101]))) (.cmp .Eq (.sub (.loc 4) (.const (.int 0))) (.const (.str [112, 117, 116])))) (.cons (.asub (.loc 6) (.const (.int 1)) (.bi .list (.cons (.sub (.loc 4) (.const (.int 1))) .nil))) .nil) .nil) r) [a0, a1, a2, a3, some (.ref d), a5, some (.ref h.length), a7, a8, a9, a10] h1
        = exec C W r [a0, a1, a2, a3, some (.ref d), a5, some (.ref h.length), a7, a8, a9, a10] h' := fun l vs s ev lv nl hl re1 re2 => by
    have s1 : subV h1 (.ref d) (.int 1) = some (.ref l) := sub_ref (seqOf_list (get_pre p1 hd)) (by (first | exact om258 | omega)) (by rw [ev]; rfl)
    let h2 := h1 ++ [.list vs]
    let h3 := h2.set h.length (.list [s, .ref h1.length])
    have l1 : h1.length = h.length + 1 := by simp [h1]
    have pp : h <+: h3 := pre_set (p1.trans (pre_app _ _)) (Nat.le_refl _)
    have g3 : h3[h1.length]? = some (.list vs) := by
      show (h2.set _ _)[h1.length]? = _
      rw [List.getElem?_set_ne (by (first | exact om321 l1 | omega))]; exact lst_get _ _
    have okL : LineV c h3 h1.length vs := ⟨by (first | exact om322 hc l1 | omega), g3, lv.2.2.1, fun v hv => ⟨(lv.2.2.2 v hv).1.pre pp, fun z => by
      have f := (lv.2.2.2 v hv).1
      rw [z] at f
      refine ob02 f fun _ wz0 => ?_; refine ob21 wz0 fun k x e => ?_
      have : h[h1.length]? = none := List.getElem?_eq_none (by (first | exact om244 l1 | omega))
      simp [seqOf, this] at e⟩⟩
    refine ⟨h3, h1.length, pp, ?_, ?_, ?_⟩
    · rw [re2]
      show (h2.set _ _)[h.length]? = _
      rw [List.getElem?_set_self (by simp [h2, l1]; (first | exact om323 | omega))]
    · rcases re1 h1.length with q | q <;> (rw [q]; exact ⟨okL, by (first | exact om324 l1 | omega)⟩)
    · rw [st_if cond, hl, if_pos rfl]
      show (exec C W (.cons (.asub (.loc 6) (.const (.int 1)) (.bi .list (.cons (.sub (.loc 4) (.const (.int 1))) .nil))) .nil) _ h1).bind _ = _
      rw [st_asub (v := .ref h1.length) (h' := h2) (by
        (try dsimp only [E_bi, Es_cons]; rw [sub_E (v := .ref d) (w := .int 1) (u := .ref l) rfl c_E s1])
        simp only [Res.bind_ok, Es_nil, biV, bi1, biL, biList, onRef, get_pre p1 lv.2.1]
        exact newList_ok (by have := lv.2.2.1; (first | exact om325 this | omega))) (ov := .ref h.length) rfl (iv := .int 1) c_E (h'' := h3) (by
        have : h2[h.length]? = some (.list dd.vals) := get_pre (pre_app _ _) g1
        simp only [asubV, this, ev]
        rfl)]
      rfl
  have one : dd.lined = false → (∀ l', dd.re l' = dd) → Dd.ok c h1 h.length dd → ∃ h' l', h <+: h' ∧ h'[h.length]? = some (.list (dd.re l').vals) ∧ Dd.ok c h' h.length (dd.re l') ∧ exec C W (.cons (.ifs (.or (.cmp .Eq (.sub (.loc 4) (.const (.int 0))) (.const (.str [99, 111, 109, 101]))) (.cmp .Eq (.sub (.loc 4) (.const (.int 0))) (.const (.str [112, 117, 116])))) (.cons (.asub (.loc 6) (.const (.int 1)) (.bi .list (.cons (.sub (.loc 4) (.const (.int 1))) .nil))) .nil) .nil) r) [a0, a1, a2, a3, some (.ref d), a5, some (.ref h.length), a7, a8, a9, a10] h1
        = exec C W r [a0, a1, a2, a3, some (.ref d), a5, some (.ref h.length), a7, a8, a9, a10] h' := fun hl re ok1 => by
    refine ⟨h1, 0, p1, by rw [re]; exact g1, by rw [re]; exact ok1, ?_⟩
    rw [hl] at cond
    exact st_skip cond
  have fne : ∀ {v : Val}, Fl c h v → v ≠ .ref h.length := fun {v} f z => by
    rw [z] at f
    refine ob02 f fun _ wz1 => ?_; refine ob21 wz1 fun k x e => ?_
    simp [seqOf] at e
  rw [st_assign e1]
  show ∃ h' l', _ ∧ _ ∧ _ ∧ exec C W (.cons _ r) [a0, a1, a2, a3, some (.ref d), a5, some (.ref h.length), a7, a8, a9, a10] h1 = _
  cases dd with
  | come l vs => exact two l vs sCome rfl ok.1 ok.2 rfl (fun _ => .inl rfl) fun _ => rfl
  | put l vs => exact two l vs sPut rfl ok.1 ok.2 rfl (fun _ => .inr rfl) fun _ => rfl
  | leave p => exact one rfl (fun _ => rfl) ⟨okc.1, fne ok.1⟩
  | take p => exact one rfl (fun _ => rfl) ⟨okc.1, fne ok.1⟩
  | bid p y a => exact one rfl (fun _ => rfl) okc
  | back => exact one rfl (fun _ => rfl) trivial
end
end Mine


-- part L09q
set_option maxRecDepth 4000
set_option linter.unusedVariables false
set_option linter.unusedSimpArgs false
namespace Mine
open PySem (Operator UnaryOp CmpOp)

noncomputable def tHeld (r : List (List Int)) : Tr := .tup [tII r, tII r]
structure SI9 (b t pt s sp sh : Nat) (h : MH) (rows : List (List Int)) (g : Nat) (past : List (List (List Int) × Nat)) (held : List (List (List Int))) : Prop where
  T : TabI b t pt h rows g past
  st : ∃ rw, h[s]? = some (.list [.ref rw, .int g, .ref sp, .ref sh]) ∧ Rd b h (tII rows) (.ref rw)
  ps : ∃ pvs, h[sp]? = some (.list pvs) ∧ RdL b h (past.map tPast) pvs
  hs : ∃ hvs, h[sh]? = some (.list hvs) ∧ RdL b h (held.map tHeld) hvs
  sb : s < b
  spb : sp < b
  shb : sh < b
  nd : [t, pt, s, sp, sh].Nodup
  hl : held.length ≤ 1000
  hd : (past ++ [(rows, g)]).head?.map Prod.fst = some []
  n3 : ¬ Sp s ∧ ¬ Sp sp ∧ ¬ Sp sh
theorem nd5 {t pt s sp sh : Nat} (nd : [t, pt, s, sp, sh].Nodup) : t ≠ pt ∧ t ≠ s ∧ t ≠ sp ∧ t ≠ sh ∧ pt ≠ s ∧ pt ≠ sp ∧ pt ≠ sh ∧ s ≠ sp ∧ s ≠ sh ∧ sp ≠ sh := by
  simp only [List.nodup_cons, List.mem_cons, List.not_mem_nil, or_false, not_or] at nd
  exact ⟨nd.1.1, nd.1.2.1, nd.1.2.2.1, nd.1.2.2.2, nd.2.1.1, nd.2.1.2.1, nd.2.1.2.2, nd.2.2.1.1, nd.2.2.1.2, nd.2.2.2.1⟩
noncomputable def M9 (t pt s sp sh : Nat) (i : Nat) : Prop := i = t ∨ i = pt ∨ i = s ∨ i = sp ∨ i = sh

section
variable {F : Nat → Option MFun} {W n : Nat} {h h' : MH} {C : Cf} {ρ : Rho} {b t pt s sp sh : Nat} {rows rows' : List (List Int)} {g g' : Nat} {past : List (List (List Int) × Nat)} {held : List (List (List Int))}

theorem SI9.grow (S : SI9 b t pt s sp sh h rows g past held) (p : h <+: h') : SI9 b t pt s sp sh h' rows g past held := by
  refine ob12 S.st fun rw a1 a2 => ?_; refine ob12 S.ps fun pvs b1 b2 => ?_; refine ob12 S.hs fun hvs c1 c2 => ?_; have T := S.T; have d1 := S.sb; have d2 := S.spb; have d3 := S.shb; have d4 := S.nd; have d5 := S.hl; have d6 := S.hd; have d7 := S.n3
  exact ⟨T.grow p, ⟨rw, get_pre p a1, a2.mono p⟩, ⟨pvs, get_pre p b1, b2.mono p⟩, ⟨hvs, get_pre p c1, c2.mono p⟩, d1, d2, d3, d4, d5, d6, d7⟩

noncomputable def fives (rows : List (List Int)) (k : Nat) : List (List Int) := (rows.take k).map (· ++ [5]) ++ rows.drop k
theorem fives_len (k : Nat) : (fives rows k).length = rows.length := by simp [fives]; omega
theorem fives_at {k : Nat} (hk : k < rows.length) : (fives rows k).getD k [] = rows.getD k [] := by
  simp [fives, List.getElem?_append, hk, Nat.min_eq_left (Nat.le_of_lt hk)]
theorem fives_succ {k : Nat} (hk : k < rows.length) : (fives rows k).set k (rows.getD k [] ++ [5]) = fives rows (k + 1) := by
  unfold fives
  rw [List.set_append_right _ _ (by simp; omega)]
  have : k - ((rows.take k).map (· ++ [5])).length = 0 := by simp; omega
  rw [this, List.drop_eq_getElem_cons hk, List.set_cons_zero, ← List.take_append_getElem hk, List.map_append]
  simp [List.getElem?_eq_getElem hk]

noncomputable def tail9 : MStmt := tlS (tlS (tlS (tlS (tlS (tlS (tlS (tlS (tlS (tlS (tlS f_law_step.body))))))))))

theorem tail_ok (L : TF F) (h22 : F 22 = some f_law_whole) (h45 : F 45 = some f_law_same) (S : SI9 b t pt s sp sh h rows g past held) (hb : b ≤ h.length) (hh : held.length < 1000) {c : Int} {a3 a4 a5 a6 a7 : Option Val} :
    Wp (exec (callN F W (n + 2)) W tail9 [some (.ref t), some (.ref s), some (.int c), a3, a4, a5, a6, a7, none, none, none] h) fun p h' => p.1 = .ret (.bool true) ∧ Keep (M9 t pt s sp sh) h h' ∧ ∃ held', SI9 b t pt s sp sh h' rows g past held' ∧ held'.length ≤ held.length + 1 := by
  have ro := rows_eq (W := W) (n := n + 1) L.h89 S.T
  have sa := fun {h' : MH} {b1 b2 : Nat} {rs : List (List Int)} {u v : Val} (hu : Rd b1 h' (tII rs) u) (hv : Rd b2 h' (tII rs) v) => same_ok (W := W) (n := n) h22 h45 hu hv
  show Wp (exec (callN F W (n + 2)) W (.cons _ (.cons _ (.cons _ (.cons _ (.cons _ (.cons _ (.cons _ _))))))) _ h) _
  generalize callN F W (n + 2) = C at ro sa
  refine w_assign (.ref (h.length + rows.length)) (h' := RowsH h rows) (by rw [mcall_E S.T rfl (Es_nil C _ h)]; exact ro) ?_
  have pr : h <+: RowsH h rows := RowsH.pre
  have S1 := S.grow pr
  refine ob12 S1.st fun rw st1 st2 => ?_
  have p9 := S.T.rw.p9
  have g40 := S.T.rw.g40
  show Wp (exec C W _ [some (.ref t), some (.ref s), some (.int c), a3, a4, a5, a6, a7, some (.ref (h.length + rows.length)), none, none] (RowsH h rows)) _
  refine w_skip (h' := RowsH h rows) (by
    (try dsimp only [T_not, T_call, E_call, Es_cons, E_loc, locV_zero, locV_succ, Res.bind_ok]; rw [sub_E (v := .ref s) (w := .int 0) (u := .ref rw) rfl c_E (sub_ref (seqOf_list st1) (by (first | exact om168 | omega)) rfl)])
    simp only [Res.bind_ok, Es_nil]
    rw [sa RowsH.rd st2]; rfl) ?_
  let h1 := RowsH h rows
  have g1 : h1[h.length + rows.length]? = some (.list (refsAt h.length rows.length)) := HP_out
  refine ob12 S1.hs fun hvs hs1 hs2 => ?_
  have lh := hs2.length
  simp only [List.length_map] at lh
  have l1 : h.length ≤ h1.length := len_pre pr
  have lh1 : h1.length = h.length + rows.length + 1 := by simp [h1, RowsH, HP]; (first | exact om329 | omega)
  refine w_iff (h' := h1) (b := c % 3 == 1) (cmp_T (mod_E (x := c) rfl c_E (by (first | exact om240 | omega))) c_E rfl) ?_
  split
  · -- the rows told are held
    let h2 := RowsH h1 rows
    let h3 := h2 ++ [.tup [.ref (h.length + rows.length), .ref (h1.length + rows.length)]]
    let h4 := h3.set sh (.list (hvs ++ [.ref h2.length]))
    have p2 : h1 <+: h2 := RowsH.pre
    have p3 : h1 <+: h3 := p2.trans (pre_app _ _)
    have shs : h3[sh]? = some (.list hvs) := get_pre p3 hs1
    refine w_expr .none (h' := h4) (by
      (try dsimp only [E_meth]; rw [sub_E (v := .ref s) (w := .int 3) (u := .ref sh) rfl c_E (sub_ref (seqOf_list st1) (by (first | exact om264 | omega)) rfl)]; try dsimp only [Res.bind_ok]; rw [meOk_append hs1, if_pos rfl]; try dsimp only [Es_cons, E_tup, E_loc, locV_zero, locV_succ, Res.bind_ok, E_comp, I_iobj]; rw [srcOf_list g1])
      simp only [Res.opt_some, Res.bind_ok]
      (rw [copy_eq (C := C) (h := h1) (b := h.length) (i := 10) (by simp) (fun h' p => by simp [get_pre p g1]) rows (refsAt h.length rows.length) h1 (List.prefix_refl _) HP_rdl (fun r hr => by have := (S.T.rw.row r hr).1; (first | exact om318 g40 this | omega))]; try dsimp only [Res.bind_ok]; rw [newList_ok (by simp; (first | exact om276 p9 | omega))])
      simp only [Res.bind_ok, Es_nil]
      rw [if_pos (by simp [lim])]
      have e2 : h1 ++ (rows.map fun z => MObj.list (z.map .int)) ++ [.list ((List.range rows.length).map fun k => .ref (h1.length + k))] = h2 := rfl
      have e3 : (h1 ++ rows.map fun z => MObj.list (z.map .int)).length = h1.length + rows.length := by simp
      rw [e2, e3]
      show ((newObj (.tup [.ref (h.length + rows.length), .ref (h1.length + rows.length)]) h2).bind _).bind _ = _
      rw [show newObj (.tup [.ref (h.length + rows.length), .ref (h1.length + rows.length)]) h2 = .ok (.ref h2.length) h3 from rfl]
      simp only [Res.bind_ok]
      exact append_ok shs (by (first | exact om330 hh lh | omega))) ?_
    refine w_ret (.bool true) (h' := h4) rfl ?_
    (try dsimp only [thenX_ret, Wp_ok]; try with_reducible rfl)
    have K : Keep (M9 t pt s sp sh) h h4 := (Keep.of_pre (pr.trans p3)).set (.inr (.inr (.inr (.inr rfl)))) S.n3.2.2
    have S3 := S1.grow p3
    have nd := S.nd
    refine ob08 (nd5 nd) fun nq1 nq2 nq3 nq4 nq5 nq6 nq7 wz3 => ?_; obtain ⟨nq8, nq9, nq10⟩ := wz3
    have hM : ∀ i, i = sh → i < b := fun i q => q ▸ S.shb
    have K4 : Keep (fun i => i = sh) h3 h4 := Keep.refl.set rfl S.n3.2.2
    refine ob12 S3.T.hi fun k i1 i2 => ?_; refine ob12 S3.T.hp fun pvs q1 q2 => ?_; have tb := S3.T.tb; have pb := S3.T.pb; have ne := S3.T.ne; have pl := S3.T.pl; have rw' := S3.T.rw; have pr' := S3.T.pr; have ns' := S3.T.ns
    refine ob12 S3.st fun rw3 u1 u2 => ?_
    refine ob12 S3.ps fun pvs' v1 v2 => ?_
    refine ob12 S3.hs fun hvs' w1 w2 => ?_
    have : hvs' = hvs := by rw [shs] at w1; cases w1; rfl
    subst this
    refine ⟨rfl, K, held ++ [rows], ⟨⟨⟨k, K4.2 _ _ (by (first | exact om331 nq4 | omega)) i1, K4.rd hM i2⟩, ⟨pvs, K4.2 _ _ (by (first | exact om331 nq7 | omega)) q1, K4.rdl hM q2⟩, tb, pb, ne, pl, rw', pr', ns'⟩, ⟨rw3, K4.2 _ _ (by (first | exact om331 nq9 | omega)) u1, K4.rd hM u2⟩, ⟨pvs', K4.2 _ _ (by (first | exact om331 nq10 | omega)) v1, K4.rdl hM v2⟩, ⟨hvs' ++ [.ref h2.length], by rw [List.getElem?_set_self (List.getElem?_eq_some_iff.mp shs).1], ?_⟩, S.sb, S.spb, S.shb, S.nd, by simp; (first | exact om332 hh | omega), S.hd, S.n3⟩, by simp⟩
    rw [List.map_append]
    have l2 : h1.length ≤ h2.length := len_pre p2
    refine (K4.rdl hM w2).append (.cons (Rd.mkTup (a := h2.length) (by (first | exact om333 hb lh1 l2 | omega)) (K4.2 _ _ (by have := S.shb; (first | exact om334 hb lh1 l2 this | omega)) (lst_get h2 _)) (.cons (K4.rd hM ((RowsH.rd.low hb).mono p3)) (.cons (K4.rd hM ((RowsH.rd.low (by (first | exact om335 hb lh1 | omega))).mono (pre_app _ _))) .nil))) .nil)
  · (try dsimp only [X_nil, Wp_ok, thenX_next]; try with_reducible rfl)
    let R := refsAt h.length rows.length
    have lR : R.length = rows.length := by simp [R, refsAt]
    have hst : ∀ {hs : List (List Int)} {u : MH}, (HP h hs u)[s]? = h[s]? := fun {hs u} => by
      refine ob12 S.st fun rw0 s1 _ => ?_
      rw [s1]; exact get_pre HP_pre s1
    refine ob12 S.st fun rw0 s01 _ => ?_
    refine w_for (s := (R, fun h' => decide (h'[h.length + rows.length]? = some (.list R)))) (h' := h1) (by
      (try dsimp only [I_iobj, E_loc, locV_zero, locV_succ, Res.bind_ok]; rw [srcOf_list g1]); rfl) ?_
    refine for_vals R (fun k ρ h' => (∃ o, ρ = [some (.ref t), some (.ref s), some (.int c), a3, a4, a5, a6, a7, some (.ref (h.length + rows.length)), o, none]) ∧ h' = HP h (fives rows k) [.list R]) ⟨⟨_, rfl⟩, by simp [fives, h1, RowsH, R, refsAt]⟩ (fun k ρ h' q => ?_) (fun k x hx ρ h' q => ?_) (fun ρ h' q => ?_)
    · obtain ⟨_, rfl⟩ := q
      have : (HP h (fives rows k) [.list R])[h.length + (fives rows k).length]? = some (.list R) := HP_out
      rw [fives_len] at this
      simp [this]
    · obtain ⟨⟨o, rfl⟩, rfl⟩ := q
      have hk : k < rows.length := by have := (List.getElem?_eq_some_iff.mp hx).1; (first | exact om3 lR this | omega)
      have : x = .ref (h.length + k) := by simpa [R, refsAt, hk] using hx.symm
      subst this
      have lr : ((fives rows k).getD k []).length ≤ 1000 := by
        rw [fives_at hk]
        have := (S.T.rw.row (rows.getD k []) (by rw [List.getD_eq_getElem?_getD, List.getElem?_eq_getElem hk]; simp)).1
        (first | exact om318 g40 this | omega)
      obtain ⟨m1, m2⟩ := HP_push (h := h) (hs := fives rows k) (p := rows.length) (t := [.list R]) (q := k) (g := 5) (fives_len k) hk lr
      show Wp (exec C W (.cons (.expr (.meth .append (.loc 9) (.cons (.const (.int 5)) .nil))) .nil) [some (.ref t), some (.ref s), some (.int c), a3, a4, a5, a6, a7, some (.ref (h.length + rows.length)), some (.ref (h.length + k)), none] (HP h (fives rows k) [.list R])) _
      refine w_expr .none (h' := HP h (fives rows (k + 1)) [.list R]) (by
        (try dsimp only [E_meth, E_loc, locV_zero, locV_succ, Res.bind_ok]; rw [m1, if_pos rfl])
        show meV (HP h (fives rows k) [.list R]) .append (.ref (h.length + k)) [.int 5] = _
        rw [m2, fives_at hk, fives_succ hk]) ?_
      (try dsimp only [X_nil, Wp_ok]; try with_reducible rfl)
      exact ⟨⟨_, rfl⟩, rfl⟩
    · obtain ⟨⟨o, rfl⟩, rfl⟩ := q
      (rw [lR]; try dsimp only [thenX_next]; try with_reducible rfl)
      have f5 : fives rows rows.length = rows.map (· ++ [5]) := by simp [fives]
      rw [f5]
      let h5 := HP h (rows.map (· ++ [5])) [.list R]
      have g5 : h5[h.length + rows.length]? = some (.list R) := by
        have : (HP h (rows.map (· ++ [5])) [.list R])[h.length + (rows.map (· ++ [5])).length]? = some (.list R) := HP_out
        rw [List.length_map] at this; exact this
      have s5 : h5[s]? = some (.list [.ref rw0, .int g, .ref sp, .ref sh]) := by rw [← s01]; exact hst
      refine w_for (s := (R, fun h' => decide (h'[h.length + rows.length]? = some (.list R)))) (h' := h5) (by
        (try dsimp only [I_iobj, E_loc, locV_zero, locV_succ, Res.bind_ok]; rw [srcOf_list g5]); rfl) ?_
      refine for_vals R (fun k ρ h' => (∃ o, ρ = [some (.ref t), some (.ref s), some (.int c), a3, a4, a5, a6, a7, some (.ref (h.length + rows.length)), o, none]) ∧ h' = h5) ⟨⟨_, rfl⟩, rfl⟩ (fun k ρ h' q => by rw [q.2]; simp [g5]) (fun k x hx ρ h' q => ?_) (fun ρ h' q => ?_)
      · obtain ⟨⟨o, rfl⟩, rfl⟩ := q
        have hk : k < rows.length := by have := (List.getElem?_eq_some_iff.mp hx).1; (first | exact om3 lR this | omega)
        have : x = .ref (h.length + k) := by simpa [R, refsAt, hk] using hx.symm
        subst this
        have gk : h5[h.length + k]? = some (.list ((rows.getD k [] ++ [5]).map .int)) := by
          have := HP_get (h := h) (hs := rows.map (· ++ [5])) (t := [.list R]) (q := k) (by simpa using hk)
          rw [show (rows.map (· ++ [5])).getD k [] = rows.getD k [] ++ [5] from by simp [hk]] at this
          exact this
        have lr := (S.T.rw.row (rows.getD k []) (by rw [List.getD_eq_getElem?_getD, List.getElem?_eq_getElem hk]; simp)).1
        show Wp (exec C W (.cons (.ifs (.cmp .NotEq (.bi .len (.cons (.loc 9) .nil)) (.bin .Add (.sub (.loc 1) (.const (.int 1))) (.const (.int 1)))) (.cons (.ret (.const (.bool false))) .nil) .nil) .nil) [some (.ref t), some (.ref s), some (.int c), a3, a4, a5, a6, a7, some (.ref (h.length + rows.length)), some (.ref (h.length + k)), none] h5) _
        refine w_skip (h' := h5) (cmp_T (v := .int (g + 1)) (w := .int (g + 1)) (by
          (try dsimp only [E_bi, Es_cons]; try with_reducible rfl)
          simp only [E_loc, locV_succ, locV_zero, Res.bind_ok, Es_nil, biV, bi1, biL, seqOf_list gk]
          simp only [List.length_map, List.length_append, lr]
          rfl) (by
          (try dsimp only [E_bin]; rw [sub_E (v := .ref s) (w := .int 1) (u := .int g) rfl c_E (sub_ref (seqOf_list s5) (by (first | exact om258 | omega)) rfl)]); rfl) (by simp)) ?_
        (try dsimp only [X_nil, Wp_ok]; try with_reducible rfl)
        exact ⟨⟨_, rfl⟩, rfl⟩
      · obtain ⟨⟨o, rfl⟩, rfl⟩ := q
        (try dsimp only [thenX_next]; try with_reducible rfl)
        let h6 : MH := (h5 ++ ([.list []] : MH)).set (h.length + rows.length) (MObj.list (R ++ [Val.ref h5.length]))
        have p5 : h <+: h5 := HP_pre
        have pp : h <+: h6 := pre_set (p5.trans (pre_app _ _)) (Nat.le_add_right _ _)
        refine w_expr .none (h' := h6) (by
          (try dsimp only [E_meth, E_loc, locV_zero, locV_succ, Res.bind_ok]; rw [meOk_append g5, if_pos rfl]; try dsimp only [Es_cons, E_lst, Es_nil]; try with_reducible rfl)
          simp only [Res.bind_ok, Es_nil]
          rw [newList_ok (Nat.zero_le _)]
          simp only [Res.bind_ok]
          exact append_ok (get_pre (pre_app _ _) g5) (by (first | exact om308 p9 lR | omega))) ?_
        refine w_ret (.bool true) (h' := h6) rfl ⟨rfl, Keep.of_pre pp, held, S.grow pp, by (first | exact om114 | omega)⟩
end
end Mine


-- part L09r
set_option maxRecDepth 4000
set_option linter.unusedVariables false
set_option linter.unusedSimpArgs false
namespace Mine
open PySem (Operator UnaryOp CmpOp)

structure LF9 (F : Nat → Option MFun) : Prop where
  tf : TF F
  h22 : F 22 = some f_law_whole
  h24 : F 24 = some f_law_draws
  h25 : F 25 = some f_law_bid
  h31 : F 31 = some f09_law_told
  h35 : F 35 = some f09_law_fine
  h39 : F 39 = some f_law_due
  h43 : F 43 = some f_law_by_base
  h45 : F 45 = some f_law_same
  h58 : F 58 = some f_law_wrong
  h59 : F 59 = some f_law_line
  h60 : F 60 = some f_law_place
  h61 : F 61 = some f_law_line_due
  h62 : F 62 = some f_law_is_place
  h63 : F 63 = some f_law_deed
  h64 : F 64 = some f_law_behind
  h65 : F 65 = some f_law_do
  h66 : F 66 = some f_law_fits
  h67 : F 67 = some f_law_again
  h68 : F 68 = some f_law_step

noncomputable def rest5 : MStmt := tlS (tlS (tlS (tlS (tlS f_law_step.body))))
noncomputable def rest9 : MStmt := tlS (tlS (tlS (tlS rest5)))
noncomputable def rest10 : MStmt := tlS rest9

section
variable {F : Nat → Option MFun} {W n : Nat} {h h' : MH} {C : Cf} {ρ : Rho} {b t pt s sp sh : Nat} {rows rows' : List (List Int)} {g g' : Nat} {past : List (List (List Int) × Nat)} {held : List (List (List Int))}

/-- how a step ends -/
noncomputable def End9 (b t pt s sp sh : Nat) (h : MH) (m k : Nat) (p : MFlow × Rho) (h' : MH) : Prop := p.1 = .ret (.bool true) ∧ Keep (M9 t pt s sp sh) h h' ∧ ∃ rows g past held, SI9 b t pt s sp sh h' rows g past held ∧ past.length ≤ m + 1 ∧ held.length ≤ k + 1
theorem nm_str {k : Nat} (hk : code9 k) : ∃ w, nmC (some k) = .str w ∧ (w == []) = false := by
  rcases hk with rfl | rfl | rfl | rfl | rfl <;> exact ⟨_, rfl, rfl⟩
theorem word_back {dd : Dd} (nb : dd.isBack = false) : (dd.word == [98, 97, 99, 107]) = false := by cases dd <;> first | rfl | cases nb

/-- the drawn list gets one more; then the rest -/
theorem end_ok (L : LF9 F) {c0 d : Nat} {dd : Dd} (hd : h[d]? = some (.list dd.vals)) (ok : Dd.ok c0 h d dd) (S : SI9 b t pt s sp sh h rows g past held) (St : ∀ l o, dd.vals[1]? = some (.ref l) → c0 ≤ l → dd.lined = true → SI9 b t pt s sp sh (h.set l o) rows g past held) (hb : b ≤ h.length) (hc : b ≤ c0) (hh : held.length < 1000) {c : Int} {a3 a5 a6 a7 : Option Val} {m : Nat} (hm : past.length ≤ m + 1) :
    Wp (exec (callN F W (n + 2)) W rest10 [some (.ref t), some (.ref s), some (.int c), a3, some (.ref d), a5, a6, a7, none, none, none] h) fun p h' => p.1 = .ret (.bool true) ∧ (∃ l, c0 ≤ l ∧ Keep (fun i => M9 t pt s sp sh i ∨ i = l) h h') ∧ ∃ rows g past held', SI9 b t pt s sp sh h' rows g past held' ∧ past.length ≤ m + 1 ∧ held'.length ≤ held.length + 1 := by
  show Wp (exec (callN F W (n + 2)) W (.cons _ tail9) _ h) _
  have s0 : subV h (.ref d) (.int 0) = some (.str dd.word) := sub_ref (seqOf_list hd) (by (first | exact om168 | omega)) dd.head
  have w0 : (sem (callN F W (n + 2)) (.sub (.loc 4) (.const (.int 0)))).E [some (.ref t), some (.ref s), some (.int c), a3, some (.ref d), a5, a6, a7, none, none, none] h = .ok (.str dd.word) h := sub_E rfl c_E s0
  have cond : (sem (callN F W (n + 2)) (.or (.cmp .Eq (.sub (.loc 4) (.const (.int 0))) (.const (.str [99, 111, 109, 101]))) (.cmp .Eq (.sub (.loc 4) (.const (.int 0))) (.const (.str [112, 117, 116]))))).T [some (.ref t), some (.ref s), some (.int c), a3, some (.ref d), a5, a6, a7, none, none, none] h = .ok dd.lined h := by
    have := or_T (cmp_T (op := .Eq) w0 (c_E (v := .str [99, 111, 109, 101])) rfl) fun _ => cmp_T (op := .Eq) w0 (c_E (v := .str [112, 117, 116])) rfl
    rw [this]
    cases dd <;> rfl
  refine w_iff cond ?_
  cases q : dd.lined with
  | false =>
    simp only [Bool.false_eq_true, if_false]
    (try dsimp only [X_nil, Wp_ok, thenX_next]; try with_reducible rfl)
    refine (tail_ok L.tf L.h22 L.h45 S hb hh).mono fun p h' q => ?_
    refine ob03 q fun q1 q2 wz0 => ?_; refine ob12 wz0 fun held' q3 q4 => ?_
    exact ⟨q1, ⟨c0, Nat.le_refl _, q2.weak fun i m => .inl m⟩, rows, g, past, held', q3, hm, q4⟩
  | true =>
    simp only [if_true]
    obtain ⟨l, vs, hv, lv, nl⟩ : ∃ l vs, dd.vals[1]? = some (.ref l) ∧ LineV c0 h l vs ∧ l ≠ d := by
      cases dd with
      | come l vs => exact ⟨l, vs, rfl, ok.1, ok.2⟩
      | put l vs => exact ⟨l, vs, rfl, ok.1, ok.2⟩
      | _ => cases q
    have s1 : subV h (.ref d) (.int 1) = some (.ref l) := sub_ref (seqOf_list hd) (by (first | exact om258 | omega)) hv
    let h1 := h.set l (.list (vs ++ [.int 7]))
    refine w_expr .none (h' := h1) (by
      (try dsimp only [E_meth]; rw [sub_E (v := .ref d) (w := .int 1) (u := .ref l) rfl c_E s1]; try dsimp only [Res.bind_ok]; rw [meOk_append lv.2.1, if_pos rfl])
      show meV h .append (.ref l) [.int 7] = _
      exact append_ok lv.2.1 (by have := lv.2.2.1; (first | exact om336 this | omega))) ?_
    (try dsimp only [X_nil, Wp_ok, thenX_next]; try with_reducible rfl)
    have S1 := St l (.list (vs ++ [.int 7])) hv lv.1 q
    refine (tail_ok L.tf L.h22 L.h45 S1 (by simpa [h1] using hb) hh).mono fun p h' z => ?_
    refine ob03 z fun q1 q2 wz1 => ?_; refine ob12 wz1 fun held' q3 q4 => ?_
    refine ⟨q1, ⟨l, lv.1, ?_⟩, rows, g, past, held', q3, hm, q4⟩
    exact (Keep.refl.set (.inr rfl) (notSp (by have := S.T.ns.2.2; have := lv.1; (first | exact om337 hc ‹_› this | omega)))).trans (q2.weak fun i m => .inl m)
end
end Mine


-- part L09s
set_option maxRecDepth 4000
set_option linter.unusedVariables false
set_option linter.unusedSimpArgs false
namespace Mine
open PySem (Operator UnaryOp CmpOp)

section
variable {F : Nat → Option MFun} {W n : Nat} {h h' : MH} {C : Cf} {ρ : Rho} {b t pt s sp sh : Nat} {rows rows' : List (List Int)} {g g' : Nat} {past : List (List (List Int) × Nat)} {held : List (List (List Int))}

noncomputable def EndR (b t pt s sp sh : Nat) (h0 h : MH) (m k : Nat) (p : MFlow × Rho) (h' : MH) : Prop := p.1 = .ret (.bool true) ∧ (∃ l, h0.length ≤ l ∧ Keep (fun i => M9 t pt s sp sh i ∨ i = l) h h') ∧ ∃ rows g past held, SI9 b t pt s sp sh h' rows g past held ∧ past.length ≤ m + 1 ∧ held.length ≤ k + 1

/-- what holds when the deed has been copied -/
structure Mid (b t pt s sp sh : Nat) (h0 h : MH) (d kp l' : Nat) (dd : Dd) (rows : List (List Int)) (g : Nat) (past : List (List (List Int) × Nat)) (held : List (List (List Int))) : Prop where
  S : SI9 b t pt s sp sh h0 rows g past held
  p : h0 <+: h
  hb : b ≤ h0.length
  hd : h[d]? = some (.list dd.vals)
  ok : Dd.ok h0.length h d dd
  hk : h[kp]? = some (.list (dd.re l').vals)
  ok' : Dd.ok h0.length h kp (dd.re l')
  dl : h0.length ≤ d
  kl : h0.length ≤ kp
theorem Mid.grow {d kp l' : Nat} {dd : Dd} {h0 : MH} (M : Mid b t pt s sp sh h0 h d kp l' dd rows g past held) (p : h <+: h') : Mid b t pt s sp sh h0 h' d kp l' dd rows g past held :=
  ⟨M.S, M.p.trans p, M.hb, get_pre p M.hd, Dd.ok_keep (Keep.of_pre (M := fun _ => False) p) (fun _ m => m.elim) M.ok, get_pre p M.hk, Dd.ok_keep (Keep.of_pre (M := fun _ => False) p) (fun _ m => m.elim) M.ok', M.dl, M.kl⟩

theorem rest_bad (L : LF9 F) {h0 : MH} {d kp l' : Nat} {dd : Dd} (M : Mid b t pt s sp sh h0 h d kp l' dd rows g past held) {k : Nat} (e : dueC rows.length g dd = some k) (hh : held.length < 1000) {c : Int} {a3 : Option Val} :
    Wp (exec (callN F W (n + 7)) W rest5 [some (.ref t), some (.ref s), some (.int c), a3, some (.ref d), some (nmC (some k)), some (.ref kp), none, none, none, none] h) (EndR b t pt s sp sh h0 h past.length held.length) := by
  have hk := due_code e
  have nb : dd.isBack = false := by cases dd <;> first | rfl | cases e
  refine ob12 (nm_str hk) fun w ew nw => ?_
  have S3 := M.S.grow M.p
  refine ob12 (do_bad (W := W) (n := n + 1) L.tf L.h65 M.hd M.ok S3.T e) fun h4 d4 p4 => ?_
  have t4 := told_bad L.h31 d4 hk
  have M4 := M.grow p4
  have S4 := M4.S.grow M4.p
  refine ob12 (do_bad (W := W) (n := n + 1) L.tf L.h65 M4.hd M4.ok S4.T e) fun h5 d5 p5 => ?_
  have t5 := again_bad L.h67 d5 hk
  have M5 := M4.grow p5
  have S5 := M5.S.grow M5.p
  refine ob12 (do_bad (W := W) (n := n + 1) L.tf L.h65 M5.hd M5.ok S5.T e) fun h6 d6 p6 => ?_
  have t6 := base_bad L.h43 d6
  have M6 := M5.grow p6
  have S6 := M6.S.grow M6.p
  have f4 := fits_bad (F := F) (W := W) (n := n + 6) (h := h4) L.h66 (word_back nb) (sp := .ref sp) hk
  refine ob12 S4.st fun rw4 u4 _ => ?_
  have eo := fun {a3 a5 a6 a7 : Option Val} (m : Nat) (hm : past.length ≤ m + 1) => end_ok (W := W) (n := n + 5) (c := c) (a3 := a3) (a5 := a5) (a6 := a6) (a7 := a7) L M6.hd M6.ok S6 (fun l o _ hl _ => M.S.grow (pre_set M6.p hl)) (by have := len_pre M6.p; have := M.hb; (first | exact om338 ‹_› this | omega)) M.hb hh hm
  have pp : h <+: h6 := p4.trans (p5.trans p6)
  rw [ew] at t4 t5 f4 ⊢
  show Wp (exec (callN F W (n + 7)) W (.cons _ (.cons _ (.cons _ (.cons _ (.cons _ rest10))))) _ h) _
  generalize callN F W (n + 7) = C at t4 t5 t6 f4 eo
  refine w_assign (.str w) (h' := h4) t4 ?_
  show Wp (exec C W _ [some (.ref t), some (.ref s), some (.int c), a3, some (.ref d), some (.str w), some (.ref kp), some (.str w), none, none, none] h4) _
  refine w_skip (h' := h4) (or_T (s := false) (t := false) (cmp_T (v := .ref d) (w := .ref kp) rfl rfl (deed_eq M4.hd M4.hk M4.ok M4.ok')) fun _ => by
    refine not_T (s := true) ?_
    (try dsimp only [T_call, E_call, Es_cons, E_loc, locV_zero, locV_succ, Res.bind_ok]; rw [sub_E (v := .ref s) (w := .int 2) (u := .ref sp) rfl c_E (sub_ref (seqOf_list u4) (by (first | exact om263 | omega)) rfl)]; try dsimp only [Res.bind_ok, Es_cons]; rw [sub_E (v := .ref d) (w := .int 0) (u := .str dd.word) rfl c_E (sub_ref (seqOf_list M4.hd) (by (first | exact om168 | omega)) dd.head)])
    simp only [Res.bind_ok, Es_nil]
    rw [f4]; rfl) ?_
  have ne : ∀ {g : MH}, (sem C (.cmp .NotEq (.loc 5) (.const (.str [])))).T [some (.ref t), some (.ref s), some (.int c), a3, some (.ref d), some (.str w), some (.ref kp), some (.str w), none, none, none] g = .ok true g := fun {g} => cmp_T (v := .str w) (w := .str []) rfl c_E (by rw [cmp_neS, nw]; rfl)
  refine w_skip (h' := h5) (by
    (try dsimp only [T_and]; rw [ne]; try dsimp only [Res.bind_ok]; rw [if_pos rfl]; try dsimp only [T_cmp]; rw [show (sem C (.call 67 (.cons (.loc 0) (.cons (.loc 4) .nil)))).E [some (.ref t), some (.ref s), some (.int c), a3, some (.ref d), some (.str w), some (.ref kp), some (.str w), none, none, none] h4 = C 67 [.ref t, .ref d] h4 from rfl, t5])
    show Res.opt (cmpV h5 .NotEq (.str w) (.str w)) h5 = _
    rw [cmp_neS]; simp) ?_
  refine w_skip (h' := h6) (by
    (try dsimp only [T_and]; rw [ne]; try dsimp only [Res.bind_ok]; rw [if_pos rfl]; try dsimp only [T_not, T_call]; rw [show (sem C (.call 43 (.cons (.loc 0) (.cons (.loc 4) .nil)))).E [some (.ref t), some (.ref s), some (.int c), a3, some (.ref d), some (.str w), some (.ref kp), some (.str w), none, none, none] h5 = C 43 [.ref t, .ref d] h5 from rfl, t6]); rfl) ?_
  refine w_iff (h' := h6) (b := false) (cmp_T (v := .str dd.word) (w := sBack) (sub_E rfl c_E (sub_ref (seqOf_list M6.hd) (by (first | exact om168 | omega)) dd.head)) c_E (by rw [show sBack = .str [98, 97, 99, 107] from rfl, cmp_eqS, word_back nb])) ?_
  simp only [Bool.false_eq_true, if_false]
  refine w_skip (h' := h6) (cmp_T (v := .str w) (w := .str []) rfl c_E (by rw [cmp_eqS, nw])) ?_
  (try dsimp only [X_nil, Wp_ok, thenX_next]; try with_reducible rfl)
  refine (eo past.length (by (first | exact om114 | omega))).mono fun p h7 q => ?_
  refine ob03 q fun q1 wz5x1 wz5 => ?_; refine ob12 wz5x1 fun l q2 q3 => ?_; refine ob43 wz5 fun rows' g' past' held' q4 q5 q6 => ?_
  exact ⟨q1, ⟨l, q2, (Keep.of_pre pp).trans q3⟩, rows', g', past', held', q4, q5, q6⟩
end
end Mine


-- part L09t
set_option maxRecDepth 4000
set_option linter.unusedVariables false
set_option linter.unusedSimpArgs false
namespace Mine
open PySem (Operator UnaryOp CmpOp)

section
variable {F : Nat → Option MFun} {W n : Nat} {h h' : MH} {C : Cf} {ρ : Rho} {b t pt s sp sh : Nat} {rows rows' : List (List Int)} {g g' : Nat} {past : List (List (List Int) × Nat)} {held : List (List (List Int))}

theorem SI9.m (S : SI9 b t pt s sp sh h rows g past held) : ∀ i, M9 t pt s sp sh i → i < b := fun i m => by
  rcases m with rfl | rfl | rfl | rfl | rfl
  · exact S.T.tb
  · exact S.T.pb
  · exact S.sb
  · exact S.spb
  · exact S.shb
theorem Keep.both {M : Nat → Prop} {l : Nat} {o : MObj} (k : Keep M h h') (hl : l < h.length) : Keep M (h.set l o) (h'.set l o) := ⟨by simpa using k.1, fun i x m e => by
  by_cases q : l = i
  · subst q
    rw [List.getElem?_set_self hl] at e
    rw [List.getElem?_set_self (by have := k.1; (first | exact om225 hl this | omega))]; exact e
  · rw [List.getElem?_set_ne q] at e ⊢
    exact k.2 i x m e, fun i x m e => by
  by_cases q : l = i
  · subst q
    rw [List.getElem?_set_self hl] at e
    rw [List.getElem?_set_self (by have := k.1; (first | exact om225 hl this | omega))]; exact e
  · rw [List.getElem?_set_ne q] at e ⊢
    exact k.3 i x m e⟩
theorem TabI.keep {M : Nat → Prop} (T : TabI b t pt h rows g past) (k : Keep M h h') (hM : ∀ i, M i → i < b) (n1 : ¬ M t) (n2 : ¬ M pt) : TabI b t pt h' rows g past := by
  refine ob12 T.hi fun kk i1 i2 => ?_; refine ob12 T.hp fun pvs q1 q2 => ?_; have a := T.tb; have c := T.pb; have d := T.ne; have e := T.pl; have f := T.rw; have f' := T.pr; have f2 := T.ns
  exact ⟨⟨kk, k.2 _ _ n1 i1, k.rd hM i2⟩, ⟨pvs, k.2 _ _ n2 q1, k.rdl hM q2⟩, a, c, d, e, f, f', f2⟩

theorem head_app {α : Type} {l : List α} {x y : α} : (l ++ [x] ++ [y]).head? = (l ++ [x]).head? := by cases l <;> rfl
theorem good_mk {h0 : MH} (S : SI9 b t pt s sp sh h0 rows g past held) (K : Keep (M9 t pt s sp sh) h0 h) (T : TabI b t pt h rows' g' (past ++ [(rows, g)])) {rw a q : Nat} {pvs hvs : List Val} (rw0 : Rd b h0 (tII rows) (.ref rw)) (hs : h[s]? = some (.list [.ref a, .int g', .ref sp, .ref sh])) (ra : Rd b h (tII rows') (.ref a))
    (ps : RdL b h0 (past.map tPast) pvs) (hsp : h[sp]? = some (.list (pvs ++ [.ref q]))) (hq : h[q]? = some (.tup [.ref rw, .int g])) (bq : b ≤ q) (h1 : h[sh]? = some (.list hvs)) (h2 : RdL b h0 (held.map tHeld) hvs) : SI9 b t pt s sp sh h rows' g' (past ++ [(rows, g)]) held := by
  have hM := S.m
  refine ⟨T, ⟨a, hs, ra⟩, ⟨pvs ++ [.ref q], hsp, ?_⟩, ⟨hvs, h1, K.rdl hM h2⟩, S.sb, S.spb, S.shb, S.nd, S.hl, by rw [head_app]; exact S.hd, S.n3⟩
  rw [List.map_append]
  exact (K.rdl hM ps).append (.cons (Rd.mkTup bq hq (.cons (K.rd hM rw0) (.cons Rd.mkInt .nil))) .nil)

theorem nx_goods {dd : Dd} (e : dueC rows.length g dd = none) (nb : dd.isBack = false) : ((g : Int) + (if (dd.word == [112, 117, 116]) then 1 else 0) - (if (dd.word == [116, 97, 107, 101]) then 1 else 0)) = ((nx rows g dd).2 : Nat) := by
  cases dd with
  | put l vs => simp [Dd.word, nx]
  | take p =>
    have e : (if okPlace g p then none else some 7) = none := e
    cases q : okPlace g p with
    | false => rw [q] at e; cases e
    | true =>
      refine ob12 (ok_int q) fun x ez1x1 hx => ?_; subst ez1x1
      simp [Dd.word, nx]; (first | exact om295 hx | omega)
  | back => cases nb
  | _ => simp [Dd.word, nx]

theorem rest_good (L : LF9 F) {h0 : MH} {d kp l' rw : Nat} {dd : Dd} (M : Mid b t pt s sp sh h0 h d kp l' dd rows g past held) (e : dueC rows.length g dd = none) (nb : dd.isBack = false) (hp : past.length < 4000) (hh : held.length < 1000) {c : Int} (rw0 : Rd b h0 (tII rows) (.ref rw)) :
    Wp (exec (callN F W (n + 7)) W rest5 [some (.ref t), some (.ref s), some (.int c), some (.ref rw), some (.ref d), some (.str []), some (.ref kp), none, none, none, none] h) (EndR b t pt s sp sh h0 h past.length held.length) := by
  have S3 := M.S.grow M.p
  have hb := M.hb
  have l0 := len_pre M.p
  refine ob25 ((do_good (W := W) (n := n + 1) L.tf L.h65 M.hd M.ok S3.T e nb (by (first | exact om339 hp | omega)) (by (first | exact om273 hb l0 | omega))).get) fun v4 h4 d4 ez2x3 k4 T4 st4 => ?_; subst ez2x3
  have t4 := told_good L.h31 d4
  have hM4 : ∀ i, TM t pt i → i < h0.length := fun i m => by have := S3.T.m i m; (first | exact om274 hb this | omega)
  have nT : ∀ i, b ≤ i → ¬ TM t pt i := fun i hi m => by have := S3.T.m i m; (first | exact om340 hi this | omega)
  have hd4 : h4[d]? = some (.list dd.vals) := k4.2 _ _ (nT d (by have := M.dl; (first | exact om273 hb this | omega))) M.hd
  have hk4 : h4[kp]? = some (.list (dd.re l').vals) := k4.2 _ _ (nT kp (by have := M.kl; (first | exact om273 hb this | omega))) M.hk
  have ok4 := Dd.ok_keep k4 hM4 M.ok
  have ok4' := Dd.ok_keep k4 hM4 M.ok'
  have f4 := fits_none (F := F) (W := W) (n := n + 6) (h := h4) L.h66 (word_back nb) (sp := .ref sp)
  have nd := M.S.nd
  refine ob08 (nd5 nd) fun nq1 nq2 nq3 nq4 nq5 nq6 nq7 wz3 => ?_; refine ob03 wz3 fun nq8 nq9 nq10 => ?_; clear wz3
  refine ob12 M.S.st fun rwS sS rS => ?_
  refine ob12 M.S.ps fun pvs pS pR => ?_
  refine ob12 M.S.hs fun hvs hS hR => ?_
  have s4 : h4[s]? = some (.list [.ref rwS, .int g, .ref sp, .ref sh]) := k4.2 _ _ (fun m => by rcases m with z | z <;> (first | exact om341 nq2 z | exact om341 nq5 z | omega)) (get_pre M.p sS)
  have p4 : h4[sp]? = some (.list pvs) := k4.2 _ _ (fun m => by rcases m with z | z <;> (first | exact om341 nq3 z | exact om341 nq6 z | omega)) (get_pre M.p pS)
  have hs4 : h4[sh]? = some (.list hvs) := k4.2 _ _ (fun m => by rcases m with z | z <;> (first | exact om341 nq4 z | exact om341 nq7 z | omega)) (get_pre M.p hS)
  have lp := pR.length
  simp only [List.length_map] at lp
  let h5 := h4 ++ [.tup [.ref rw, .int g]]
  let h6 := h5.set sp (.list (pvs ++ [.ref h4.length]))
  have e5 : h5[sp]? = some (.list pvs) := get_pre (pre_app _ _) p4
  have K46 : Keep (fun i => i = sp) h4 h6 := (Keep.of_pre (pre_app _ _)).set rfl M.S.n3.2.1
  have K06 : Keep (M9 t pt s sp sh) h0 h6 := ((Keep.of_pre M.p).trans (k4.weak fun i m => by rcases m with z | z; exact .inl z; exact .inr (.inl z))).trans (K46.weak fun i m => .inr (.inr (.inr (.inl m))))
  have l4 := k4.1
  have l6 : h6.length = h4.length + 1 := by simp [h6, h5]
  have spb := M.S.spb
  have sb := M.S.sb
  have shb := M.S.shb
  have tb := M.S.T.tb
  have pb := M.S.T.pb
  have kl := M.kl
  have dl := M.dl
  have hk6 : h6[kp]? = some (.list (dd.re l').vals) := K46.2 _ _ (by (first | exact om342 hb spb kl | omega)) hk4
  have ok6' := Dd.ok_keep K46 (fun i m => by (first | exact om343 hb spb m | omega)) ok4'
  have R6 : Rd b h6 (tII rows) (.ref rw) := K06.rd M.S.m rw0
  refine ob23 ((behind_ok (W := W) (n := n + 6) L.h64 hk6 ok6' R6 M.S.T.rw (by rw [Dd.re_due]; exact e) (by rw [Dd.re_back]; exact nb) (by (first | exact om344 hb l0 l4 l6 | omega))).get) fun v7 h7 e7 p7 wz7 => ?_; refine ob12 wz7 fun a ez2x1 stB => ?_; clear wz7; subst ez2x1
  rw [Dd.re_nx] at stB
  have l7 := len_pre p7
  let g2 := (nx rows g dd).2
  let h8 := h7.set s (.list [.ref a, .int g, .ref sp, .ref sh])
  let h9 := h8.set s (.list [.ref a, .int g2, .ref sp, .ref sh])
  have s6 : h6[s]? = some (.list [.ref rwS, .int g, .ref sp, .ref sh]) := K46.2 _ _ (by (first | exact om331 nq8 | omega)) s4
  have s7 : h7[s]? = some (.list [.ref rwS, .int g, .ref sp, .ref sh]) := get_pre p7 s6
  have s8 : h8[s]? = some (.list [.ref a, .int g, .ref sp, .ref sh]) := by show (h7.set _ _)[s]? = _; rw [List.getElem?_set_self (by (first | exact om345 hb l0 l4 l6 sb l7 | omega))]
  have K79 : Keep (fun i => i = s) h7 h9 := Keep.set (M := fun i => i = s) (Keep.set (M := fun i => i = s) Keep.refl rfl M.S.n3.1) rfl M.S.n3.1
  have K49 : Keep (fun i => i = s ∨ i = sp) h4 h9 := ((K46.weak fun i m => .inr m).trans (Keep.of_pre p7)).trans (K79.weak fun i m => .inl m)
  have K09 : Keep (M9 t pt s sp sh) h0 h9 := (K06.trans (Keep.of_pre p7)).trans (K79.weak fun i m => .inr (.inr (.inl m)))
  have hM49 : ∀ i, (i = s ∨ i = sp) → i < b := fun i m => by rcases m with z | z <;> (first | exact om346 sb z | exact om346 spb z | omega)
  have T9 : TabI b t pt h9 (nx rows g dd).1 g2 (past ++ [(rows, g)]) := T4.keep K49 hM49 (by (first | exact om347 nq2 nq3 | omega)) (by (first | exact om347 nq5 nq6 | omega))
  have q6 : h6[h4.length]? = some (.tup [.ref rw, .int g]) := by
    show (h5.set _ _)[h4.length]? = _
    rw [List.getElem?_set_ne (by (first | exact om348 hb l0 l4 spb | omega))]; exact lst_get _ _
  have sp6 : h6[sp]? = some (.list (pvs ++ [.ref h4.length])) := by
    show (h5.set _ _)[sp]? = _
    rw [List.getElem?_set_self (by simp [h5]; (first | exact om349 hb l0 l4 spb | omega))]
  have sh6 : h6[sh]? = some (.list hvs) := K46.2 _ _ (by (first | exact om350 nq10 | omega)) hs4
  have K69 : Keep (fun i => i = s) h6 h9 := (Keep.of_pre p7).trans K79
  have s9 : h9[s]? = some (.list [.ref a, .int g2, .ref sp, .ref sh]) := by show (h8.set _ _)[s]? = _; rw [List.getElem?_set_self (by simp [h8]; (first | exact om345 hb l0 l4 l6 sb l7 | omega))]
  have S9 : SI9 b t pt s sp sh h9 (nx rows g dd).1 g2 (past ++ [(rows, g)]) held :=
    good_mk M.S K09 T9 rw0 s9 (K79.rd (fun i m => by (first | exact om346 sb m | omega)) stB.1) pR (K69.2 _ _ (by (first | exact om350 nq8 | omega)) sp6) (K69.2 _ _ (by (first | exact om351 hb l0 l4 sb | omega)) q6) (by (first | exact om352 hb l0 l4 | omega)) (K69.2 _ _ (by (first | exact om350 nq9 | omega)) sh6) hR
  have St9 : ∀ l o, dd.vals[1]? = some (.ref l) → h0.length ≤ l → dd.lined = true → SI9 b t pt s sp sh (h9.set l o) (nx rows g dd).1 g2 (past ++ [(rows, g)]) held := fun l o hv hl lin => by
    have ll : l < h.length := by
      cases dd with
      | come l2 vs => cases hv; exact (List.getElem?_eq_some_iff.mp M.ok.1.2.1).1
      | put l2 vs => cases hv; exact (List.getElem?_eq_some_iff.mp M.ok.1.2.1).1
      | _ => cases lin
    have b18 := M.S.T.ns.2.2
    have nsl : ¬ Sp l := notSp (by (first | exact om353 hb hl b18 | omega))
    have Told := st4 l o ll nsl (by (first | exact om354 hb tb hl | omega)) (by (first | exact om354 hb pb hl | omega)) (M.S.grow (pre_set M.p hl)).T
    have KX : Keep (M9 t pt s sp sh) h0 (h9.set l o) := ⟨by simpa using K09.1, fun i x m ex => by
      have : i < h0.length := (List.getElem?_eq_some_iff.mp ex).1
      rw [List.getElem?_set_ne (by (first | exact om355 hl this | omega))]; exact K09.2 i x m ex, fun i x m ex => by
      have : i < h0.length := (List.getElem?_eq_some_iff.mp ex).1
      rw [List.getElem?_set_ne (by (first | exact om355 hl this | omega))]; exact K09.3 i x m ex⟩
    have TX : TabI b t pt (h9.set l o) (nx rows g dd).1 g2 (past ++ [(rows, g)]) := Told.keep (K49.both (by (first | exact om274 l4 ll | omega))) hM49 (by (first | exact om347 nq2 nq3 | omega)) (by (first | exact om347 nq5 nq6 | omega))
    have R6' : Rd b (h6.set l o) (tII rows) (.ref rw) := rw0.mono' (Nat.le_refl _) fun i x hi ex => by
      have : i < h0.length := (List.getElem?_eq_some_iff.mp ex).1
      rw [List.getElem?_set_ne (by (first | exact om355 hl this | omega))]; exact K06.lo M.S.m i x hi ex
    have nrw : l ≠ rw := by
      refine ob24 rw0.list fun _ _ e0 _ hrw _ => ?_
      cases e0
      have : rw < h0.length := (List.getElem?_eq_some_iff.mp hrw).1
      (first | exact om355 hl this | omega)
    have RX := stB.2 l o (by (first | exact om356 l4 l6 ll | omega)) nsl nrw R6'
    have f : ∀ {i : Nat} {x : MObj}, i ≠ l → h9[i]? = some x → (h9.set l o)[i]? = some x := fun {i x} ni ex => by rw [List.getElem?_set_ne (Ne.symm ni)]; exact ex
    exact good_mk M.S KX TX rw0 (f (by (first | exact om357 hb sb hl | omega)) s9) ((K79.both (by (first | exact om358 l4 l6 l7 ll | omega))).rd (fun i m => by (first | exact om346 sb m | omega)) RX) pR (f (by (first | exact om357 hb spb hl | omega)) (K69.2 _ _ (by (first | exact om350 nq8 | omega)) sp6)) (f (by (first | exact om355 l4 ll | omega)) (K69.2 _ _ (by (first | exact om359 hb l4 sb hl ll | omega)) q6)) (by (first | exact om360 hb l4 hl ll | omega)) (f (by (first | exact om357 hb shb hl | omega)) (K69.2 _ _ (by (first | exact om350 nq9 | omega)) sh6)) hR
  have K39 : Keep (M9 t pt s sp sh) h h9 := ((k4.weak fun i m => by rcases m with z | z; exact .inl z; exact .inr (.inl z))).trans (K49.weak fun i m => by rcases m with z | z; exact .inr (.inr (.inl z)); exact .inr (.inr (.inr (.inl z))))
  have hd9 : h9[d]? = some (.list dd.vals) := K49.2 _ _ (by (first | exact om361 hb spb sb dl | omega)) hd4
  have ok9 := Dd.ok_keep K49 (fun i m => by have := hM49 i m; (first | exact om274 hb this | omega)) ok4
  have l9 := K49.1
  have eo := end_ok (W := W) (n := n + 5) (c := c) (a3 := some (.ref rw)) (a5 := some (.str [])) (a6 := some (.ref kp)) (a7 := some .none) L hd9 ok9 S9 St9 (by (first | exact om362 hb l0 l4 l9 | omega)) hb hh (m := past.length) (by simp)
  show Wp (exec (callN F W (n + 7)) W (.cons _ (.cons _ (.cons _ (.cons _ (.cons _ rest10))))) _ h) _
  generalize callN F W (n + 7) = C at t4 f4 e7 eo
  refine w_assign .none (h' := h4) t4 ?_
  show Wp (exec C W _ [some (.ref t), some (.ref s), some (.int c), some (.ref rw), some (.ref d), some (.str []), some (.ref kp), some .none, none, none, none] h4) _
  refine w_skip (h' := h4) (or_T (s := false) (t := false) (cmp_T (v := .ref d) (w := .ref kp) rfl rfl (deed_eq hd4 hk4 ok4 ok4')) fun _ => by
    refine not_T (s := true) ?_
    (try dsimp only [T_call, E_call, Es_cons, E_loc, locV_zero, locV_succ, Res.bind_ok]; rw [sub_E (v := .ref s) (w := .int 2) (u := .ref sp) rfl c_E (sub_ref (seqOf_list s4) (by (first | exact om263 | omega)) rfl)]; try dsimp only [Res.bind_ok, Es_cons]; rw [sub_E (v := .ref d) (w := .int 0) (u := .str dd.word) rfl c_E (sub_ref (seqOf_list hd4) (by (first | exact om168 | omega)) dd.head)])
    simp only [Res.bind_ok, Es_nil]
    rw [f4]; rfl) ?_
  refine w_skip (h' := h4) (and_T (s := false) (t := false) (cmp_T (v := .str []) (w := .str []) rfl c_E rfl) fun z => by cases z) ?_
  refine w_skip (h' := h4) (and_T (s := false) (t := false) (cmp_T (v := .str []) (w := .str []) rfl c_E rfl) fun z => by cases z) ?_
  refine w_iff (h' := h4) (b := false) (cmp_T (v := .str dd.word) (w := sBack) (sub_E rfl c_E (sub_ref (seqOf_list hd4) (by (first | exact om168 | omega)) dd.head)) c_E (by rw [show sBack = .str [98, 97, 99, 107] from rfl, cmp_eqS, word_back nb])) ?_
  simp only [Bool.false_eq_true, if_false]
  refine w_iff (h' := h4) (b := true) (cmp_T (v := .str []) (w := .str []) rfl c_E rfl) ?_
  simp only [if_true]
  refine w_expr .none (h' := h6) (by
    (try dsimp only [E_meth]; rw [sub_E (v := .ref s) (w := .int 2) (u := .ref sp) rfl c_E (sub_ref (seqOf_list s4) (by (first | exact om263 | omega)) rfl)]; try dsimp only [Res.bind_ok]; rw [meOk_append p4, if_pos rfl]; try dsimp only [Es_cons, E_tup, E_loc, locV_zero, locV_succ, Res.bind_ok]; rw [sub_E (v := .ref s) (w := .int 1) (u := .int g) rfl c_E (sub_ref (seqOf_list s4) (by (first | exact om258 | omega)) rfl)])
    simp only [Res.bind_ok, Es_nil]
    rw [if_pos (show [Val.ref rw, Val.int g].length ≤ lim from by simp [lim])]
    show meV h5 .append (.ref sp) [.ref h4.length] = _
    exact append_ok e5 (by (first | exact om363 hp lp | omega))) ?_
  rw [st_asub (v := .ref a) (h' := h7) (by
    show C 64 [.ref kp, .ref rw] h6 = _
    exact e7) (ov := .ref s) rfl (iv := .int 0) c_E (h'' := h8) (by simp only [asubV, s7]; rfl)]
  have gE := nx_goods (rows := rows) e nb
  have hd8 : h8[d]? = some (.list dd.vals) := by
    show (h7.set _ _)[d]? = _
    rw [List.getElem?_set_ne (by (first | exact om357 hb sb dl | omega))]; exact get_pre p7 (K46.2 _ _ (by (first | exact om342 hb spb dl | omega)) hd4)
  have wE : (sem C (.sub (.loc 4) (.const (.int 0)))).E [some (.ref t), some (.ref s), some (.int c), some (.ref rw), some (.ref d), some (.str []), some (.ref kp), some .none, none, none, none] h8 = .ok (.str dd.word) h8 := sub_E rfl c_E (sub_ref (seqOf_list hd8) (by (first | exact om168 | omega)) dd.head)
  rw [st_asub (v := .int g2) (h' := h8) (by
    rw [E_bin, E_bin, sub_E (v := .ref s) (w := .int 1) (u := .int g) rfl c_E (sub_ref (seqOf_list s8) (by (first | exact om258 | omega)) rfl), Res.bind_ok, E_bi, Es_cons, E_cmp, wE]
    simp only [Res.bind_ok, E_const, cmp_eqS, Res.opt_some, Es_nil]
    rw [show ∀ x : Bool, biV h8 .int [.bool x] = .ok (.int (if x then 1 else 0)) h8 from fun x => by cases x <;> rfl]
    simp only [Res.bind_ok, bin_add]
    (try dsimp only [E_bi, Es_cons, E_cmp]; rw [wE])
    simp only [Res.bind_ok, E_const, cmp_eqS, Res.opt_some, Es_nil]
    rw [show ∀ x : Bool, biV h8 .int [.bool x] = .ok (.int (if x then 1 else 0)) h8 from fun x => by cases x <;> rfl]
    simp only [Res.bind_ok, bin_sub]
    rw [gE]) (ov := .ref s) rfl (iv := .int 1) c_E (h'' := h9) (by simp only [asubV, s8]; rfl)]
  (try dsimp only [X_nil, Wp_ok, thenX_next]; try with_reducible rfl)
  refine eo.mono fun p h10 q => ?_
  refine ob03 q fun q1 wz9x1 wz9 => ?_; clear q; refine ob12 wz9x1 fun l q2 q3 => ?_; clear wz9x1; refine ob43 wz9 fun rows' g' past' held' q4 q5 q6 => ?_; clear wz9
  exact ⟨q1, ⟨l, q2, (K39.weak fun i m => .inl m).trans q3⟩, rows', g', past', held', q4, q5, q6⟩
end
end Mine


-- part L09u
set_option maxRecDepth 4000
set_option linter.unusedVariables false
set_option linter.unusedSimpArgs false
namespace Mine
open PySem (Operator UnaryOp CmpOp)

section
variable {F : Nat → Option MFun} {W n : Nat} {h h' : MH} {C : Cf} {ρ : Rho} {b t pt s sp sh : Nat} {rows rows' : List (List Int)} {g g' : Nat} {past : List (List (List Int) × Nat)} {held : List (List (List Int))}

theorem rest_back0 (L : LF9 F) {h0 : MH} {d kp l' rw : Nat} (M : Mid b t pt s sp sh h0 h d kp l' .back rows g [] held) (hh : held.length < 1000) {c : Int} :
    Wp (exec (callN F W (n + 7)) W rest5 [some (.ref t), some (.ref s), some (.int c), some (.ref rw), some (.ref d), some (.str []), some (.ref kp), none, none, none, none] h) (EndR b t pt s sp sh h0 h 0 held.length) := by
  have S3 := M.S.grow M.p
  have hb := M.hb
  have l0 := len_pre M.p
  have d4 : callN F W (n + 6) 65 [.ref t, .ref d] h = .ok (.bool false) h := by rw [do_eq L.h65 M.hd S3.T]; exact back_none L.tf S3.T
  have t4 := told_good L.h31 d4
  refine ob12 S3.st fun rwS sS rS => ?_
  refine ob12 S3.ps fun pvs pS pR => ?_
  rw [List.map_nil, RdL] at pR
  subst pR
  have f4 := fits_back (F := F) (W := W) (n := n + 6) (h := h) L.h66 pS (u := .str [])
  let h5 := h ++ [.list []]
  let h6 := h5 ++ [.list []]
  have p5 : h <+: h5 := pre_app _ _
  have p6 : h <+: h6 := p5.trans (pre_app _ _)
  have M5 := M.grow p5
  have M6 := M.grow p6
  have S5 := M5.S.grow M5.p
  have S6 := M6.S.grow M6.p
  have s5 : h5[s]? = some (.list [.ref rwS, .int g, .ref sp, .ref sh]) := get_pre p5 sS
  have ps5 : h5[sp]? = some (.list []) := get_pre p5 pS
  have eo := end_ok (W := W) (n := n + 5) (c := c) (a3 := some (.ref rw)) (a5 := some (.str [])) (a6 := some (.ref kp)) (a7 := some (.bool false)) L M6.hd M6.ok S6 (fun l o _ _ z => by cases z) (by have := len_pre M6.p; (first | exact om273 hb this | omega)) hb hh (m := 0) (Nat.zero_le _)
  show Wp (exec (callN F W (n + 7)) W (.cons _ (.cons _ (.cons _ (.cons _ (.cons _ rest10))))) _ h) _
  generalize callN F W (n + 7) = C at t4 f4 eo
  refine w_assign (.bool false) (h' := h) t4 ?_
  show Wp (exec C W _ [some (.ref t), some (.ref s), some (.int c), some (.ref rw), some (.ref d), some (.str []), some (.ref kp), some (.bool false), none, none, none] h) _
  refine w_skip (h' := h5) (by
    (try dsimp only [T_or]; rw [cmp_T (op := .NotEq) (a := .loc 4) (b := .loc 6) (v := .ref d) (w := .ref kp) (t := false) rfl rfl (deed_eq M.hd M.hk M.ok M.ok')])
    simp only [Res.bind_ok, Bool.false_eq_true, if_false]
    (try dsimp only [T_not, T_call, E_call, Es_cons, E_loc, locV_zero, locV_succ, Res.bind_ok]; rw [sub_E (v := .ref s) (w := .int 2) (u := .ref sp) rfl c_E (sub_ref (seqOf_list sS) (by (first | exact om263 | omega)) rfl)]; try dsimp only [Res.bind_ok, Es_cons]; rw [sub_E (v := .ref d) (w := .int 0) (u := sBack) rfl c_E (sub_ref (seqOf_list M.hd) (by (first | exact om168 | omega)) rfl)])
    simp only [Res.bind_ok, Es_nil]
    rw [show C 66 [.bool false, .str [], .ref sp, sBack] h = _ from f4]; rfl) ?_
  refine w_skip (h' := h5) (and_T (s := false) (t := false) (cmp_T (v := .str []) (w := .str []) rfl c_E rfl) fun z => by cases z) ?_
  refine w_skip (h' := h5) (and_T (s := false) (t := false) (cmp_T (v := .str []) (w := .str []) rfl c_E rfl) fun z => by cases z) ?_
  refine w_iff (h' := h5) (b := true) (cmp_T (v := sBack) (w := sBack) (sub_E rfl c_E (sub_ref (seqOf_list M5.hd) (by (first | exact om168 | omega)) rfl)) c_E rfl) ?_
  simp only [if_true]
  refine w_skip (h' := h6) (by
    (try dsimp only [T_cmp]; rw [sub_E (v := .ref s) (w := .int 2) (u := .ref sp) rfl c_E (sub_ref (seqOf_list s5) (by (first | exact om263 | omega)) rfl)]; try dsimp only [Res.bind_ok, E_lst, Es_nil]; rw [newList_ok (by simp)]; try dsimp only [Res.bind_ok]; try with_reducible rfl)
    rw [show cmpV (h5 ++ [.list []]) .NotEq (.ref sp) (.ref h5.length) = _ from ne_empty ps5]; rfl) ?_
  (try dsimp only [X_nil, Wp_ok, thenX_next]; try with_reducible rfl)
  refine eo.mono fun p h10 q => ?_
  refine ob03 q fun q1 wz2x1 wz2 => ?_; refine ob12 wz2x1 fun l q2 q3 => ?_; refine ob43 wz2 fun rows' g' past' held' q4 q5 q6 => ?_
  exact ⟨q1, ⟨l, q2, (Keep.of_pre p6).trans q3⟩, rows', g', past', held', q4, q5, q6⟩
end
end Mine


-- part L09v
set_option maxRecDepth 4000
set_option linter.unusedVariables false
set_option linter.unusedSimpArgs false
namespace Mine
open PySem (Operator UnaryOp CmpOp)

section
variable {F : Nat → Option MFun} {W n : Nat} {h h' : MH} {C : Cf} {ρ : Rho} {b t pt s sp sh : Nat} {rows rows' : List (List Int)} {g g' : Nat} {past : List (List (List Int) × Nat)} {held : List (List (List Int))}

theorem rest_back1 (L : LF9 F) {h0 : MH} {d kp l' rw : Nat} {p0 : List (List Int)} {g0 : Nat} (M : Mid b t pt s sp sh h0 h d kp l' .back rows g (past ++ [(p0, g0)]) held) (hh : held.length < 1000) {c : Int} :
    Wp (exec (callN F W (n + 7)) W rest5 [some (.ref t), some (.ref s), some (.int c), some (.ref rw), some (.ref d), some (.str []), some (.ref kp), none, none, none, none] h) (EndR b t pt s sp sh h0 h past.length held.length) := by
  have S3 := M.S.grow M.p
  have hb := M.hb
  have l0 := len_pre M.p
  refine ob13 (back_some (W := W) (n := n + 4) L.tf S3.T) fun h4 b4 k4 T4 => ?_
  have d4 : callN F W (n + 6) 65 [.ref t, .ref d] h = .ok (.bool true) h4 := by rw [do_eq L.h65 M.hd S3.T]; exact b4
  have t4 := told_good L.h31 d4
  have hM4 : ∀ i, TM t pt i → i < h0.length := fun i m => by have := S3.T.m i m; (first | exact om274 hb this | omega)
  have nT : ∀ i, b ≤ i → ¬ TM t pt i := fun i hi m => by have := S3.T.m i m; (first | exact om340 hi this | omega)
  have kl := M.kl
  have dl := M.dl
  have hd4 : h4[d]? = some (.list Dd.back.vals) := k4.2 _ _ (nT d (by (first | exact om273 hb dl | omega))) M.hd
  have hk4 : h4[kp]? = some (.list (Dd.back.re l').vals) := k4.2 _ _ (nT kp (by (first | exact om273 hb kl | omega))) M.hk
  have nd := M.S.nd
  refine ob08 (nd5 nd) fun nq1 nq2 nq3 nq4 nq5 nq6 nq7 wz1 => ?_; refine ob03 wz1 fun nq8 nq9 nq10 => ?_
  have spb := M.S.spb
  have sb := M.S.sb
  have shb := M.S.shb
  have tb := M.S.T.tb
  have pb := M.S.T.pb
  refine ob12 M.S.st fun rwS sS rS => ?_
  refine ob12 M.S.ps fun pvs pS pR => ?_
  refine ob12 M.S.hs fun hvs hS hR => ?_
  rw [List.map_append] at pR
  refine ob23 pR.snoc_inv fun ws w ez5x2 r1 r2 => ?_; subst ez5x2
  refine ob24 r2.tuple fun q us ez6x2 bq hq ru => ?_; subst ez6x2
  rw [RdL] at ru
  obtain ⟨u1, _, rfl, ru1, ru⟩ := ru
  rw [RdL] at ru
  obtain ⟨u2, _, rfl, ru2, ru⟩ := ru
  rw [RdL] at ru
  subst ru
  cases ru2.int
  obtain ⟨k1, rs1, rfl, bk1, hk1, rk1⟩ := ru1.list
  have s4 : h4[s]? = some (.list [.ref rwS, .int g, .ref sp, .ref sh]) := k4.2 _ _ (fun m => by rcases m with z | z <;> (first | exact om341 nq2 z | exact om341 nq5 z | omega)) (get_pre M.p sS)
  have p4 : h4[sp]? = some (.list (ws ++ [.ref q])) := k4.2 _ _ (fun m => by rcases m with z | z <;> (first | exact om341 nq3 z | exact om341 nq6 z | omega)) (get_pre M.p pS)
  have hs4 : h4[sh]? = some (.list hvs) := k4.2 _ _ (fun m => by rcases m with z | z <;> (first | exact om341 nq4 z | exact om341 nq7 z | omega)) (get_pre M.p hS)
  have q4 : h4[q]? = some (.tup [.ref k1, .int g0]) := k4.lo S3.T.m _ _ bq (get_pre M.p hq)
  have f4 := fits_back (F := F) (W := W) (n := n + 6) (h := h4) L.h66 p4 (u := .str [])
  let h5 := h4 ++ [.list []]
  let h6 := h5 ++ [.list []]
  have p5 : h4 <+: h5 := pre_app _ _
  have p6 : h4 <+: h6 := p5.trans (pre_app _ _)
  let h7 := h6.set sp (.list ws)
  let h8 := h7.set s (.list [.ref k1, .int g, .ref sp, .ref sh])
  let h9 := h8.set s (.list [.ref k1, .int g0, .ref sp, .ref sh])
  have l4 := k4.1
  have l6 : h6.length = h4.length + 2 := by simp [h6, h5]
  have s5 : h5[s]? = some (.list [.ref rwS, .int g, .ref sp, .ref sh]) := get_pre p5 s4
  have s6 : h6[s]? = some (.list [.ref rwS, .int g, .ref sp, .ref sh]) := get_pre p6 s4
  have sp6 : h6[sp]? = some (.list (ws ++ [.ref q])) := get_pre p6 p4
  have s7 : h7[s]? = some (.list [.ref rwS, .int g, .ref sp, .ref sh]) := by show (h6.set _ _)[s]? = _; rw [List.getElem?_set_ne (by (first | exact om364 nq8 | omega))]; exact s6
  have q7 : h7[q]? = some (.tup [.ref k1, .int g0]) := by show (h6.set _ _)[q]? = _; rw [List.getElem?_set_ne (bq.ne spb M.S.n3.2.1)]; exact get_pre p6 q4
  have s8 : h8[s]? = some (.list [.ref k1, .int g, .ref sp, .ref sh]) := by show (h7.set _ _)[s]? = _; rw [List.getElem?_set_self (by simp [h7]; (first | exact om365 hb l0 sb l4 l6 | omega))]
  have s9 : h9[s]? = some (.list [.ref k1, .int g0, .ref sp, .ref sh]) := by show (h8.set _ _)[s]? = _; rw [List.getElem?_set_self (by simp [h8, h7]; (first | exact om365 hb l0 sb l4 l6 | omega))]
  have K49 : Keep (fun i => i = s ∨ i = sp) h4 h9 := Keep.set (M := fun i => i = s ∨ i = sp) (Keep.set (M := fun i => i = s ∨ i = sp) (Keep.set (M := fun i => i = s ∨ i = sp) (Keep.of_pre p6) (.inr rfl) M.S.n3.2.1) (.inl rfl) M.S.n3.1) (.inl rfl) M.S.n3.1
  have hM49 : ∀ i, (i = s ∨ i = sp) → i < b := fun i m => by rcases m with z | z <;> (first | exact om346 sb z | exact om346 spb z | omega)
  have K39 : Keep (M9 t pt s sp sh) h h9 := ((k4.weak fun i m => by rcases m with z | z; exact .inl z; exact .inr (.inl z))).trans (K49.weak fun i m => by rcases m with z | z; exact .inr (.inr (.inl z)); exact .inr (.inr (.inr (.inl z))))
  have K09 : Keep (M9 t pt s sp sh) h0 h9 := (Keep.of_pre M.p).trans K39
  have T9 := T4.keep K49 hM49 (by (first | exact om347 nq2 nq3 | omega)) (by (first | exact om347 nq5 nq6 | omega))
  have sp9 : h9[sp]? = some (.list ws) := by
    show ((h7.set _ _).set _ _)[sp]? = _
    rw [List.getElem?_set_ne (by (first | exact om366 nq8 | omega)), List.getElem?_set_ne (by (first | exact om366 nq8 | omega))]
    show (h6.set _ _)[sp]? = _
    rw [List.getElem?_set_self (by (first | exact om365 hb l0 spb l4 l6 | omega))]
  have S9 : SI9 b t pt s sp sh h9 p0 g0 past held := ⟨T9, ⟨k1, s9, K09.rd M.S.m ru1⟩, ⟨ws, sp9, K09.rdl M.S.m r1⟩, ⟨hvs, K49.2 _ _ (by (first | exact om367 nq9 nq10 | omega)) hs4, K09.rdl M.S.m hR⟩, sb, spb, shb, M.S.nd, M.S.hl, by have := M.S.hd; rw [head_app] at this; exact this, M.S.n3⟩
  have hd5 : h5[d]? = some (.list Dd.back.vals) := get_pre p5 hd4
  have hd9 : h9[d]? = some (.list Dd.back.vals) := K49.2 _ _ (by (first | exact om368 hb dl spb sb | omega)) hd4
  have l9 := K49.1
  have eo := end_ok (W := W) (n := n + 5) (c := c) (c0 := h0.length) (dd := .back) (a3 := some (.ref rw)) (a5 := some (.str [])) (a6 := some (.ref kp)) (a7 := some (.bool true)) L hd9 trivial S9 (fun l o _ _ z => by cases z) (by (first | exact om362 hb l0 l4 l9 | omega)) hb hh (m := past.length) (by (first | exact om114 | omega))
  show Wp (exec (callN F W (n + 7)) W (.cons _ (.cons _ (.cons _ (.cons _ (.cons _ rest10))))) _ h) _
  generalize callN F W (n + 7) = C at t4 f4 eo
  refine w_assign (.bool true) (h' := h4) t4 ?_
  show Wp (exec C W _ [some (.ref t), some (.ref s), some (.int c), some (.ref rw), some (.ref d), some (.str []), some (.ref kp), some (.bool true), none, none, none] h4) _
  have bt : (!(ws ++ [Val.ref q]).isEmpty) = true := by simp
  rw [bt] at f4
  refine w_skip (h' := h5) (by
    (try dsimp only [T_or]; rw [cmp_T (op := .NotEq) (a := .loc 4) (b := .loc 6) (v := .ref d) (w := .ref kp) (t := false) rfl rfl (deed_eq (c := h0.length) hd4 hk4 trivial trivial)])
    simp only [Res.bind_ok, Bool.false_eq_true, if_false]
    (try dsimp only [T_not, T_call, E_call, Es_cons, E_loc, locV_zero, locV_succ, Res.bind_ok]; rw [sub_E (v := .ref s) (w := .int 2) (u := .ref sp) rfl c_E (sub_ref (seqOf_list s4) (by (first | exact om263 | omega)) rfl)]; try dsimp only [Res.bind_ok, Es_cons]; rw [sub_E (v := .ref d) (w := .int 0) (u := sBack) rfl c_E (sub_ref (seqOf_list hd4) (by (first | exact om168 | omega)) rfl)])
    simp only [Res.bind_ok, Es_nil]
    rw [f4]; rfl) ?_
  refine w_skip (h' := h5) (and_T (s := false) (t := false) (cmp_T (v := .str []) (w := .str []) rfl c_E rfl) fun z => by cases z) ?_
  refine w_skip (h' := h5) (and_T (s := false) (t := false) (cmp_T (v := .str []) (w := .str []) rfl c_E rfl) fun z => by cases z) ?_
  refine w_iff (h' := h5) (b := true) (cmp_T (v := sBack) (w := sBack) (sub_E rfl c_E (sub_ref (seqOf_list hd5) (by (first | exact om168 | omega)) rfl)) c_E rfl) ?_
  simp only [if_true]
  refine w_iff (h' := h6) (b := true) (by
    (try dsimp only [T_cmp]; rw [sub_E (v := .ref s) (w := .int 2) (u := .ref sp) rfl c_E (sub_ref (seqOf_list s5) (by (first | exact om263 | omega)) rfl)]; try dsimp only [Res.bind_ok, E_lst, Es_nil]; rw [newList_ok (by simp)]; try dsimp only [Res.bind_ok]; try with_reducible rfl)
    rw [show cmpV (h5 ++ [.list []]) .NotEq (.ref sp) (.ref h5.length) = _ from ne_empty (get_pre p5 p4), bt]; rfl) ?_
  simp only [if_true]
  have x : exec C W (.asub2 (.loc 1) (.const (.int 0)) (.loc 1) (.const (.int 1)) (.meth .pop (.sub (.loc 1) (.const (.int 2))) .nil)) [some (.ref t), some (.ref s), some (.int c), some (.ref rw), some (.ref d), some (.str []), some (.ref kp), some (.bool true), none, none, none] h6 = .ok (.next, [some (.ref t), some (.ref s), some (.int c), some (.ref rw), some (.ref d), some (.str []), some (.ref kp), some (.bool true), none, none, none]) h9 := by
    rw [X_asub2, asub2, E_meth, sub_E (v := .ref s) (w := .int 2) (u := .ref sp) rfl c_E (sub_ref (seqOf_list s6) (by (first | exact om263 | omega)) rfl), Res.bind_ok, show meOk h6 .pop (.ref sp) = true from by simp [meOk, isLV, isListAt, sp6], if_pos rfl, Es_nil, Res.bind_ok, show meV h6 .pop (.ref sp) [] = .ok (.ref q) h7 from by
      show mePop h6 (.ref sp) [] = _
      simp [mePop, onL, sp6, popLast, h7], Res.bind_ok, show tupV h7 (.ref q) = some [.ref k1, .int g0] from by simp [tupV, q7]]
    (try dsimp only [Res.opt_some, Res.bind_ok]; try with_reducible rfl)
    unfold asub2K
    simp only [E_loc, locV_succ, locV_zero, Res.bind_ok, E_const]
    (rw [show asubV h7 (.ref s) (.int 0) (.ref k1) = .ok () h8 from by simp only [asubV, s7]; rfl]; try dsimp only [Res.bind_ok]; try with_reducible rfl)
    rw [show asubV h8 (.ref s) (.int 1) (.int g0) = .ok () h9 from by simp only [asubV, s8]; rfl]; rfl
  (try dsimp only [X_cons']; rw [x]; try dsimp only [Res.bind_ok, thenX_next, X_nil, Wp_ok]; try with_reducible rfl)
  refine eo.mono fun p h10 q => ?_
  obtain ⟨q1, ⟨l, q2, q3⟩, rows', g', past', held', q4, q5, q6⟩ := q
  exact ⟨q1, ⟨l, q2, (K39.weak fun i m => .inl m).trans q3⟩, rows', g', past', held', q4, q5, q6⟩
end
end Mine


-- part L09w
set_option maxRecDepth 4000
set_option linter.unusedVariables false
set_option linter.unusedSimpArgs false
namespace Mine
open PySem (Operator UnaryOp CmpOp)

section
variable {F : Nat → Option MFun} {W n : Nat} {h h' : MH} {C : Cf} {ρ : Rho} {b t pt s sp sh : Nat} {rows rows' : List (List Int)} {g g' : Nat} {past : List (List (List Int) × Nat)} {held : List (List (List Int))}

theorem rest_ok (L : LF9 F) {h0 : MH} {d kp l' rw : Nat} {dd : Dd} (M : Mid b t pt s sp sh h0 h d kp l' dd rows g past held) (hp : past.length < 4000) (hh : held.length < 1000) {c : Int} (rw0 : Rd b h0 (tII rows) (.ref rw)) :
    Wp (exec (callN F W (n + 7)) W rest5 [some (.ref t), some (.ref s), some (.int c), some (.ref rw), some (.ref d), some (nmC (dueC rows.length g dd)), some (.ref kp), none, none, none, none] h) (EndR b t pt s sp sh h0 h past.length held.length) := by
  cases e : dueC rows.length g dd with
  | some k => exact rest_bad L M e hh
  | none =>
    show Wp (exec (callN F W (n + 7)) W rest5 [some (.ref t), some (.ref s), some (.int c), some (.ref rw), some (.ref d), some (.str []), some (.ref kp), none, none, none, none] h) _
    cases nb : dd.isBack with
    | false => exact rest_good L M e nb hp hh rw0
    | true =>
      have hd : dd = .back := by cases dd <;> first | rfl | cases nb
      subst hd
      rcases List.eq_nil_or_concat past with q | ⟨q, x, q'⟩
      · subst q; exact rest_back0 L M hh
      · subst q'
        rw [List.concat_eq_append] at M ⊢
        refine (rest_back1 (p0 := x.1) (g0 := x.2) L M hh).mono fun p h' z => ?_
        refine ob03 z fun z1 z2 wz0 => ?_; clear z; refine ob43 wz0 fun rows' g' past' held' z3 z4 z5 => ?_; clear wz0
        exact ⟨z1, z2, rows', g', past', held', z3, by simp; (first | exact om369 z4 | omega), z5⟩

theorem step_ok (L : LF9 F) (S : SI9 b t pt s sp sh h rows g past held) (hb : b ≤ h.length) (hp : past.length < 4000) (hh : held.length < 1000) (c : Int) :
    Wp (callN F W (n + 8) 68 [.ref t, .ref s, .int c] h) fun v h' => v = .bool true ∧ Keep (M9 t pt s sp sh) h h' ∧ ∃ rows' g' past' held', SI9 b t pt s sp sh h' rows' g' past' held' ∧ past'.length ≤ past.length + 1 ∧ held'.length ≤ held.length + 1 := by
  rw [callN_def L.h68 rfl, Wp_bind]
  refine ob12 S.st fun rw sS rS => ?_
  refine ob24 rS.list fun _ rs e0 _ hrw rl => ?_
  cases e0
  have ll : rs.length = rows.length := by have := rl.length; simpa using this
  have p9 := S.T.rw.p9
  have g40 := S.T.rw.g40
  refine ob23 ((deed_ok (W := W) (n := n + 4) L.h24 L.h25 L.h58 L.h59 L.h60 L.h63 (seqOf_list hrw) (by (first | exact om370 ll p9 | omega)) c g g40).get) fun v1 h1 e1 p1 wz3 => ?_; refine ob24 wz3 fun d dd ez1x2 dl hd1 ok1 => ?_; clear wz3; subst ez1x2
  have e2 := due_ok (W := W) (n := n + 3) L.h22 L.h35 L.h61 L.h62 L.h39 hd1 ok1 (seqOf_list (get_pre p1 hrw)) (by (first | exact om370 ll p9 | omega)) g g40
  rw [ll] at e2
  have l1 := len_pre p1
  have rk := fun {h3 : MH} {l' : Nat} (M : Mid b t pt s sp sh h h3 d h1.length l' dd rows g past held) => rest_ok (W := W) (n := n) (c := c) L M hp hh rS
  show Wp (exec (callN F W (n + 7)) W (.cons _ (.cons _ (.cons _ (.cons _ (.cons _ rest5))))) [some (.ref t), some (.ref s), some (.int c), none, none, none, none, none, none, none, none] h) _
  refine ob24 (kept_ok (C := callN F W (n + 7)) (W := W) (c := h.length) hd1 ok1 l1 (a0 := some (.ref t)) (a1 := some (.ref s)) (a2 := some (.int c)) (a3 := some (.ref rw)) (a5 := some (nmC (dueC rows.length g dd))) (a7 := none) (a8 := none) (a9 := none) (a10 := none) (r := rest5)) fun h3 l' p3 hk3 ok3' eq => ?_
  have M : Mid b t pt s sp sh h h3 d h1.length l' dd rows g past held := ⟨S, p1.trans p3, hb, get_pre p3 hd1, Dd.ok_keep (Keep.of_pre (M := fun _ => False) p3) (fun _ m => m.elim) ok1, hk3, ok3', dl, l1⟩
  have R := rk M
  generalize callN F W (n + 7) = C at e1 e2 eq R
  refine w_assign (.ref rw) (h' := h) (sub_E (v := .ref s) (w := .int 0) rfl c_E (sub_ref (seqOf_list sS) (by (first | exact om168 | omega)) rfl)) ?_
  show Wp (exec C W _ [some (.ref t), some (.ref s), some (.int c), some (.ref rw), none, none, none, none, none, none, none] h) _
  refine w_assign (.ref d) (h' := h1) (by
    (try dsimp only [E_call, Es_cons, E_loc, locV_zero, locV_succ, Res.bind_ok]; rw [sub_E (v := .ref s) (w := .int 1) (u := .int g) rfl c_E (sub_ref (seqOf_list sS) (by (first | exact om258 | omega)) rfl)])
    simp only [Res.bind_ok, Es_nil]
    exact e1) ?_
  show Wp (exec C W _ [some (.ref t), some (.ref s), some (.int c), some (.ref rw), some (.ref d), none, none, none, none, none, none] h1) _
  refine w_assign (nmC (dueC rows.length g dd)) (h' := h1) (by
    (try dsimp only [E_call, Es_cons, E_loc, locV_zero, locV_succ, Res.bind_ok]; rw [sub_E (v := .ref s) (w := .int 1) (u := .int g) rfl c_E (sub_ref (seqOf_list (get_pre p1 sS)) (by (first | exact om258 | omega)) rfl)])
    simp only [Res.bind_ok, Es_nil]
    exact e2) ?_
  show Wp (exec C W (.cons _ (.cons _ rest5)) [some (.ref t), some (.ref s), some (.int c), some (.ref rw), some (.ref d), some (nmC (dueC rows.length g dd)), none, none, none, none, none] h1) _
  refine Eq.mpr (congrArg (fun r => Wp r _) eq) ?_
  refine R.mono fun p h' z => ?_
  refine ob03 z fun z1 wz5x1 z4 => ?_; clear z; refine ob12 wz5x1 fun l z2 z3 => ?_; clear wz5x1
  obtain ⟨fl, ρ'⟩ := p
  have z1 : fl = .ret (.bool true) := z1
  subst z1
  (try dsimp only [retOf_ret, Wp_ok]; try with_reducible rfl)
  have pp := M.p
  refine ⟨rfl, ⟨Nat.le_trans (len_pre pp) z3.1, fun i o m e => z3.2 i o (fun q => ?_) (get_pre pp e), fun i o m e => z3.3 i o m (get_pre pp e)⟩, z4⟩
  rcases q with q | q
  · exact m q
  · have := (List.getElem?_eq_some_iff.mp e).1; (first | exact om371 z2 q this | omega)
end
end Mine


-- part L09x
set_option maxRecDepth 4000
set_option linter.unusedVariables false
set_option linter.unusedSimpArgs false
namespace Mine
open PySem (Operator UnaryOp CmpOp)

section
variable {F : Nat → Option MFun} {W n : Nat} {h h' : MH} {C : Cf} {ρ : Rho} {b t pt s sp sh : Nat} {rows rows' : List (List Int)} {g g' : Nat} {past : List (List (List Int) × Nat)} {held : List (List (List Int))}

theorem first_ok (L : TF F) (h70 : F 70 = some f_law_to_first) {pvs : List Val} (T : TabI b t pt h rows g past) (hsp : h[sp]? = some (.list pvs)) (ps : RdL b h (past.map tPast) pvs) (nsp : sp ≠ t ∧ sp ≠ pt) (hd : (past ++ [(rows, g)]).head?.map Prod.fst = some []) (hb : b ≤ h.length) (hp : past.length < 4500) :
    Wp (callN F W (n + 2) 70 [.ref t, .ref sp] h) fun v h' => v = .bool true ∧ Keep (TM t pt) h h' := by
  rw [callN_def h70 rfl, Wp_bind]
  have bs := fun {h' : MH} {r : List (List Int)} {k : Nat} {ps' : List (List (List Int) × Nat)} {x : List (List Int) × Nat} (T' : TabI b t pt h' r k (ps' ++ [x])) => back_some (W := W) (n := n) (p0 := x.1) (g0 := x.2) L T'
  have bn := fun {h' : MH} {r : List (List Int)} {k : Nat} (T' : TabI b t pt h' r k []) => back_none (W := W) (n := n) L T'
  have ro := fun {h' : MH} {r : List (List Int)} {k : Nat} {ps' : List (List (List Int) × Nat)} (T' : TabI b t pt h' r k ps') => rows_eq (W := W) (n := n) L.h89 T'
  show Wp (exec (callN F W (n + 1)) W f_law_to_first.body [some (.ref t), some (.ref sp), none, none] h) _
  generalize callN F W (n + 1) = C at bs bn ro
  have lp : pvs.length = past.length := by have := ps.length; simpa using this
  have hM := T.m
  have ibool : ∀ (h' : MH) (x : Bool), isInstV h' .bool (.bool x) = some true := fun _ _ => rfl
  (try dsimp only [f_law_to_first]; try with_reducible rfl)
  refine w_for (s := (rangeVals 0 pvs.length, fun _ => true)) (h' := h) (by
    (try dsimp only [I_irange, E_bi, Es_cons]; try with_reducible rfl)
    simp only [E_loc, locV_succ, locV_zero, Res.bind_ok, Es_nil]
    (rw [show biV h .len [.ref sp] = .ok (.int pvs.length) h from by simp [biV, bi1, biL, onRef, seqOf_list hsp]]; try dsimp only [Res.bind_ok]; rw [irange_ok (by (first | exact om372 hp lp | omega))])) ?_
  refine for_range (I := fun k ρ h' => (∃ o2 o3, ρ = [some (.ref t), some (.ref sp), o2, o3]) ∧ Keep (TM t pt) h h' ∧ ∃ r k', TabI b t pt h' r k' (past.take (past.length - k)) ∧ (past.take (past.length - k) ++ [(r, k')]).head?.map Prod.fst = some []) ⟨⟨_, _, rfl⟩, Keep.refl, rows, g, by simpa using T, by simpa using hd⟩ ?_ ?_
  · intro k hk ρ h1 q
    refine ob03 q fun wz0x0 K wz0 => ?_; clear q; refine ob21 wz0x0 fun o2 o3 ez0x2 => ?_; clear wz0x0; subst ez0x2; refine ob22 wz0 fun r k' T1 hd1 => ?_; clear wz0
    obtain ⟨x, hx⟩ : ∃ x, past[past.length - (k + 1)]? = some x := ⟨_, List.getElem?_eq_getElem (by (first | exact om373 lp hk | omega))⟩
    have tk : past.take (past.length - k) = past.take (past.length - (k + 1)) ++ [x] := by
      rw [show past.length - k = past.length - (k + 1) + 1 from by (first | exact om374 lp hk | omega), List.take_add_one, hx]; rfl
    rw [tk] at T1 hd1
    refine ob13 (bs T1) fun h2 e2 k2 T2 => ?_
    have K2 := K.trans k2
    have l2 := K2.1
    have e3 := ro T2
    have p3 : h2 <+: RowsH h2 x.1 := RowsH.pre
    have sp2 : h2[sp]? = some (.list pvs) := K2.2 _ _ (fun m => by rcases m with z | z; exact nsp.1 z; exact nsp.2 z) hsp
    refine ob12 (ps.get (k := past.length - (k + 1)) (t := tPast x) (by simp [hx])) fun v ev rv => ?_
    refine ob24 rv.tuple fun q us ez3x2 bq hq ru => ?_; subst ez3x2
    rw [RdL] at ru
    refine ob23 ru fun u1 ws ez4x2 ru1 _ => ?_; clear ru; subst ez4x2
    have q3 : (RowsH h2 x.1)[q]? = some (.tup (u1 :: ws)) := get_pre p3 (K2.lo hM _ _ bq hq)
    have eq3 := eq_same8 (t := tII x.1) (by have := dep_tII x.1; (first | exact om319 this | omega)) (RowsH.rd (h := h2) (rows := x.1)) ((K2.rd hM ru1).mono p3)
    show Wp (exec C W (.cons _ (.cons _ .nil)) [some (.ref t), some (.ref sp), some (.int k), o3] h1) _
    refine w_assign (.bool true) (h' := h2) (by rw [mcall_E T1 rfl (Es_nil C _ h1)]; exact e2) ?_
    show Wp (exec C W _ [some (.ref t), some (.ref sp), some (.int k), some (.bool true)] h2) _
    refine w_skip (h' := RowsH h2 x.1) ?_ ?_
    · rw [T_or, not_T (s := true) (by rw [T_isinst, E_isinst, show (sem C (.loc 3)).E [some (.ref t), some (.ref sp), some (.int k), some (.bool true)] h2 = .ok (.bool true) h2 from rfl, Res.bind_ok, ibool]; rfl)]
      simp only [Res.bind_ok, Bool.not_true, Bool.false_eq_true, if_false]
      (try dsimp only [T_or]; rw [not_T (s := true) (by rw [T_loc, show (sem C (.loc 3)).E [some (.ref t), some (.ref sp), some (.int k), some (.bool true)] h2 = .ok (.bool true) h2 from rfl]; rfl)])
      simp only [Res.bind_ok, Bool.not_true, Bool.false_eq_true, if_false]
      (try dsimp only [T_cmp]; rw [mcall_E T2 rfl (Es_nil C _ h2), e3]; try dsimp only [Res.bind_ok]; try with_reducible rfl)
      rw [sub_E (v := .ref q) (w := .int 0) (u := u1) (sub_E (v := .ref sp) (w := .int (pvs.length - 1 - k)) (u := .ref q) rfl (by
        (try dsimp only [E_bin, E_bi, Es_cons, E_loc, locV_zero, locV_succ, Res.bind_ok]; try with_reducible rfl)
        simp only [Res.bind_ok, Es_nil]
        rw [show biV (RowsH h2 x.1) .len [.ref sp] = .ok (.int pvs.length) (RowsH h2 x.1) from by simp [biV, bi1, biL, onRef, seqOf_list (get_pre p3 sp2)]]
        rfl) (sub_ref (seqOf_list (get_pre p3 sp2)) (by (first | exact om375 hk | omega)) (by rw [show ((pvs.length : Int) - 1 - k).toNat = past.length - (k + 1) from by (first | exact om376 lp | omega)]; exact ev))) c_E (by simp [subV, seqOf, q3, idxOf])]
      show Res.opt (cmpV (RowsH h2 x.1) .NotEq _ u1) _ = _
      have : cmpV (RowsH h2 x.1) .NotEq (.ref (h2.length + x.1.length)) u1 = some false := by
        show (eqV 8 _ _ _).map _ = _
        rw [show eqV 8 (RowsH h2 x.1) (.ref (h2.length + x.1.length)) u1 = some true from eq3]; rfl
      rw [this]; rfl
    · (try dsimp only [X_nil, Wp_ok]; try with_reducible rfl)
      exact ⟨⟨_, _, rfl⟩, K2.trans (Keep.of_pre p3), x.1, x.2, T2.grow p3, by rw [head_app] at hd1; exact hd1⟩
  · intro ρ h1 q
    refine ob03 q fun wz5x0 K wz5 => ?_; clear q; refine ob21 wz5x0 fun o2 o3 ez2x2 => ?_; clear wz5x0; subst ez2x2; refine ob22 wz5 fun r k' T1 hd1 => ?_; clear wz5
    rw [lp, Nat.sub_self, List.take_zero] at T1 hd1
    have r0 : r = [] := by simpa using hd1
    subst r0
    (try dsimp only [thenX_next]; try with_reducible rfl)
    refine w_assign (.bool false) (h' := h1) (by rw [mcall_E T1 rfl (Es_nil C _ h1)]; exact bn T1) ?_
    show Wp (exec C W _ [some (.ref t), some (.ref sp), o2, some (.bool false)] h1) _
    have e3 := ro T1
    let h2 := RowsH h1 []
    let h3 := h2 ++ [.list []]
    have g2 : h2[h1.length]? = some (.list []) := HP_out (h := h1) (hs := [])
    refine w_ret (.bool true) (h' := h3) ?_ ?_
    · rw [E_and, E_isinst, show (sem C (.loc 3)).E [some (.ref t), some (.ref sp), o2, some (.bool false)] h1 = .ok (.bool false) h1 from rfl, Res.bind_ok, ibool]
      simp only [Res.opt_some, Res.bind_ok, truthy_bool, if_true]
      (try dsimp only [E_and, E_un, E_loc, locV_zero, locV_succ, Res.bind_ok]; rw [show unV h1 .Not (.bool false) = .ok (.bool true) h1 from rfl])
      simp only [Res.opt_some, Res.bind_ok, truthy_bool, if_true]
      (try dsimp only [E_cmp]; rw [mcall_E T1 rfl (Es_nil C _ h1), e3]; try dsimp only [Res.bind_ok, E_lst, Es_nil]; rw [newList_ok (by simp)]; try dsimp only [Res.bind_ok]; try with_reducible rfl)
      have e1 : seqOf h3 h1.length = some (true, []) := seqOf_list (get_pre (pre_app _ _) g2)
      have e2 : seqOf h3 h2.length = some (true, []) := seqOf_list (lst_get _ _)
      show (Res.opt (eqV 8 h3 (.ref (h1.length + 0)) (.ref h2.length)) h3).bind _ = _
      rw [Nat.add_zero, eqV, e1, e2]
      simp [eqL]
    · (try dsimp only [retOf_ret, Wp_ok]; try with_reducible rfl)
      exact ⟨rfl, K.trans (Keep.of_pre (RowsH.pre.trans (pre_app _ _)))⟩
end
end Mine


-- part L09y
set_option maxRecDepth 4000
set_option linter.unusedVariables false
set_option linter.unusedSimpArgs false
namespace Mine
open PySem (Operator UnaryOp CmpOp)

section
variable {F : Nat → Option MFun} {W n : Nat} {h h' : MH} {C : Cf} {ρ : Rho} {b t pt s sp sh : Nat} {rows rows' : List (List Int)} {g g' : Nat} {past past' np : List (List (List Int) × Nat)} {held : List (List (List Int))}

/-- while it begins: the state list stands as at first -/
structure HB (b t pt s sp sh rw : Nat) (h0 h : MH) (rows : List (List Int)) (g : Nat) (past np : List (List (List Int) × Nat)) (held : List (List (List Int))) : Prop where
  T : TabI b t pt h rows g past
  st : h[s]? = some (.list [.ref rw, .int 0, .ref sp, .ref sh])
  ps : ∃ pvs, h[sp]? = some (.list pvs) ∧ RdL b h (np.map tPast) pvs
  hs : ∃ hvs, h[sh]? = some (.list hvs) ∧ RdL b h (held.map tHeld) hvs
  K : Keep (M9 t pt s sp sh) h0 h
theorem HB.grow {rw : Nat} {h0 : MH} (H : HB b t pt s sp sh rw h0 h rows g past np held) (p : h <+: h') : HB b t pt s sp sh rw h0 h' rows g past np held := by
  refine ob12 H.ps fun pvs a c => ?_; refine ob12 H.hs fun hvs a' c' => ?_; have T := H.T; have st := H.st; have K := H.K
  exact ⟨T.grow p, get_pre p st, ⟨pvs, get_pre p a, c.mono p⟩, ⟨hvs, get_pre p a', c'.mono p⟩, K.trans (Keep.of_pre p)⟩

theorem HB.deed {rw : Nat} {h0 h1 h2 : MH} {v : Val} (nd : [t, pt, s, sp, sh].Nodup) (H : HB b t pt s sp sh rw h0 h1 rows g past np held) (D : Done b t pt h1 rows g past rows' g' past' v h2) : HB b t pt s sp sh rw h0 h2 rows' g' past' np held := by
  refine ob04 D fun _ k2 T2 _ => ?_; clear D
  refine ob12 H.ps fun pvs a c => ?_; refine ob12 H.hs fun hvs a' c' => ?_; have T := H.T; have st := H.st; have K := H.K
  refine ob08 (nd5 nd) fun nq1 nq2 nq3 nq4 nq5 nq6 nq7 wz3 => ?_; refine ob03 wz3 fun nq8 nq9 nq10 => ?_; clear wz3
  have hM := T.m
  have kp : ∀ i, i ≠ t → i ≠ pt → ¬ TM t pt i := fun i x y m => by rcases m with z | z; exact x z; exact y z
  exact ⟨T2, k2.2 _ _ (kp _ (by (first | exact om364 nq2 | omega)) (by (first | exact om364 nq5 | omega))) st, ⟨pvs, k2.2 _ _ (kp _ (by (first | exact om364 nq3 | omega)) (by (first | exact om364 nq6 | omega))) a, k2.rdl hM c⟩, ⟨hvs, k2.2 _ _ (kp _ (by (first | exact om364 nq4 | omega)) (by (first | exact om364 nq7 | omega))) a', k2.rdl hM c'⟩, K.trans (k2.weak fun i m => by rcases m with z | z; exact .inl z; exact .inr (.inl z))⟩

/-- a note -/
theorem HB.note {rw : Nat} {h0 h2 h3 : MH} {et : MExpr} {q : Nat} {r : MStmt} {x : List (List Int) × Nat} (nd : [t, pt, s, sp, sh].Nodup) (spb : sp < b ∧ ¬ Sp sp) (H : HB b t pt s sp sh rw h0 h2 rows g past np held) (hl : np.length < 5000) (hρ : locV 1 ρ h2 = .ok (.ref s) h2) (he : (sem C et).E ρ h2 = .ok (.ref q) h3) (p3 : h2 <+: h3) (rq : Rd b h3 (tPast x) (.ref q)) :
    ∃ h4, exec C W (.cons (.expr (.meth .append (.sub (.loc 1) (.const (.int 2))) (.cons et .nil))) r) ρ h2 = exec C W r ρ h4 ∧ HB b t pt s sp sh rw h0 h4 rows g past (np ++ [x]) held ∧ h2.length ≤ h4.length := by
  refine ob12 H.ps fun pvs a c => ?_; refine ob12 H.hs fun hvs a' c' => ?_; have T := H.T; have st := H.st; have K := H.K
  refine ob08 (nd5 nd) fun nq1 nq2 nq3 nq4 nq5 nq6 nq7 wz5 => ?_; refine ob03 wz5 fun nq8 nq9 nq10 => ?_; clear wz5
  have sp3 : h3[sp]? = some (.list pvs) := get_pre p3 a
  have lp := c.length
  simp only [List.length_map] at lp
  let h4 := h3.set sp (.list (pvs ++ [.ref q]))
  have K34 : Keep (fun i => i = sp) h3 h4 := Keep.set (M := fun i => i = sp) Keep.refl rfl spb.2
  have spb := spb.1
  have hM34 : ∀ i, i = sp → i < b := fun i m => by (first | exact om346 spb m | omega)
  refine ⟨h4, ?_, ⟨(T.grow p3).keep K34 hM34 (by (first | exact om331 nq3 | omega)) (by (first | exact om331 nq6 | omega)), K34.2 _ _ (by (first | exact om331 nq8 | omega)) (get_pre p3 st), ⟨pvs ++ [.ref q], by rw [List.getElem?_set_self (List.getElem?_eq_some_iff.mp sp3).1], ?_⟩, ⟨hvs, K34.2 _ _ (by (first | exact om350 nq10 | omega)) (get_pre p3 a'), K34.rdl hM34 (c'.mono p3)⟩, (K.trans (Keep.of_pre p3)).trans (K34.weak fun i m => .inr (.inr (.inr (.inl m))))⟩, by have := len_pre p3; simp [h4]; (first | exact om120 this | omega)⟩
  · rw [st_expr (v := .none) (h' := h4) (by
      (try dsimp only [E_meth]; rw [sub_E (o := .loc 1) (v := .ref s) (w := .int 2) (u := .ref sp) hρ c_E (sub_ref (seqOf_list st) (by (first | exact om263 | omega)) rfl)]; try dsimp only [Res.bind_ok]; rw [meOk_append a, if_pos rfl]; try dsimp only [Es_cons]; rw [he])
      simp only [Res.bind_ok, Es_nil]
      exact append_ok sp3 (by (first | exact om377 hl lp | omega)))]
  · rw [List.map_append]
    exact ((K34.rdl hM34 (c.mono p3))).append (.cons (K34.rd hM34 rq) .nil)

/-- state[1] is set at the end -/
theorem HB.fin {g1 : Nat} {h0 h1 : MH} {r : MStmt} {x : Int} (nd : [t, pt, s, sp, sh].Nodup) (sb : s < b) (spb : sp < b) (shb : sh < b) (n3 : ¬ Sp s ∧ ¬ Sp sp ∧ ¬ Sp sh) (m : ∀ i, M9 t pt s sp sh i → i < b) (hl : held.length ≤ 1000) (H : HB b t pt s sp sh g1 h0 h1 rows g past past held) (rS : Rd b h1 (tII rows) (.ref g1)) (hρ : locV 1 ρ h1 = .ok (.ref s) h1) (hd : (past ++ [(rows, g)]).head?.map Prod.fst = some []) (hx : x = g) :
    ∃ h2, exec C W (.cons (.asub (.loc 1) (.const (.int 1)) (.const (.int x))) r) ρ h1 = exec C W r ρ h2 ∧ Keep (M9 t pt s sp sh) h0 h2 ∧ SI9 b t pt s sp sh h2 rows g past held ∧ h1.length ≤ h2.length := by
  subst hx
  refine ob12 H.ps fun pvs a c => ?_; refine ob12 H.hs fun hvs a' c' => ?_; have T := H.T; have st := H.st; have K := H.K
  refine ob08 (nd5 nd) fun nq1 nq2 nq3 nq4 nq5 nq6 nq7 wz7 => ?_; refine ob03 wz7 fun nq8 nq9 nq10 => ?_; clear wz7
  let h2 := h1.set s (.list [.ref g1, .int g, .ref sp, .ref sh])
  have K12 : Keep (fun i => i = s) h1 h2 := Keep.set (M := fun i => i = s) Keep.refl rfl n3.1
  have hM12 : ∀ i, i = s → i < b := fun i m => by (first | exact om346 sb m | omega)
  have K02 : Keep (M9 t pt s sp sh) h0 h2 := K.trans (K12.weak fun i m => .inr (.inr (.inl m)))
  refine ⟨h2, st_asub (v := .int g) (h' := h1) c_E (ov := .ref s) hρ (iv := .int 1) c_E (h'' := h2) (by simp only [asubV, st]; rfl), K02, ⟨T.keep K12 hM12 (by (first | exact om331 nq2 | omega)) (by (first | exact om331 nq5 | omega)), ⟨g1, by rw [List.getElem?_set_self (List.getElem?_eq_some_iff.mp st).1], K12.rd hM12 rS⟩, ⟨pvs, K12.2 _ _ (by (first | exact om350 nq8 | omega)) a, K12.rdl hM12 c⟩, ⟨hvs, K12.2 _ _ (by (first | exact om350 nq9 | omega)) a', K12.rdl hM12 c'⟩, sb, spb, shb, nd, hl, hd, n3⟩, by simp [h2]⟩

noncomputable def pk (k : Nat) : List (List (List Int) × Nat) := (List.range k).map fun j => ([], j)
theorem pk_succ (k : Nat) : pk (k + 1) = pk k ++ [([], k)] := by simp [pk, List.range_succ]

theorem put0 (L : TF F) (hC : C = callN F W (n + 4)) {rw k : Nat} {h0 h1 : MH} (nd : [t, pt, s, sp, sh].Nodup) (H : HB b t pt s sp sh rw h0 h1 [] k past np held) (hk : k < 40) (hp : past.length < 5000) (hb : b ≤ h1.length) (hρ : locV 0 ρ h1 = .ok (.ref t) h1) {r : MStmt} :
    ∃ h2, exec C W (.cons (.expr (.mcall 85 (.loc 0) (.cons (.lst .nil) .nil))) r) ρ h1 = exec C W r ρ h2 ∧ HB b t pt s sp sh rw h0 h2 [] (k + 1) (past ++ [([], k)]) np held ∧ h1.length ≤ h2.length := by
  have p1 : h1 <+: h1 ++ [.list []] := pre_app _ _
  have H1 := H.grow p1
  refine ob13 (put_good (W := W) (n := n) L H1.T (l := h1.length) (vs := []) (lst_get _ _) (fun v hv => by cases hv) (by show (if 40 ≤ k then some 2 else rowBad 0 []) = none; rw [if_neg (by (first | exact om378 hk | omega))]; rfl) hp (by simp; (first | exact om121 hb | omega))) fun xs ex _ W1 => ?_
  refine ob22 W1.get fun v2 h2 e2 D => ?_
  have D : Done b t pt (h1 ++ [.list []]) [] k past [] (k + 1) (past ++ [([], k)]) v2 h2 := by simpa using D
  have l2 := D.2.1.1
  simp only [List.length_append, List.length_cons, List.length_nil] at l2
  refine ⟨h2, st_expr (v := v2) ?_, H1.deed nd D, by (first | exact om379 l2 | omega)⟩
  rw [mcall_E H.T hρ (vs := [.ref h1.length]) (h' := h1 ++ [.list []]) (by
        (try dsimp only [Es_cons, E_lst, Es_nil, Res.bind_ok]; rw [newList_ok (by simp)]); rfl)]
  rw [hC]; exact e2

/-- a note of no rows -/
theorem note0 {rw k : Nat} {h0 h2 : MH} {e : MExpr} {r : MStmt} (nd : [t, pt, s, sp, sh].Nodup) (spb : sp < b ∧ ¬ Sp sp) (H : HB b t pt s sp sh rw h0 h2 rows g past np held) (hb : b ≤ h2.length) (hl : np.length < 5000) (hρ : locV 1 ρ h2 = .ok (.ref s) h2) (hk : ∀ h, (sem C e).E ρ h = .ok (.int k) h) :
    ∃ h4, exec C W (.cons (.expr (.meth .append (.sub (.loc 1) (.const (.int 2))) (.cons (.tup (.cons (.lst .nil) (.cons e .nil))) .nil))) r) ρ h2 = exec C W r ρ h4 ∧ HB b t pt s sp sh rw h0 h4 rows g past (np ++ [([], k)]) held ∧ h2.length ≤ h4.length := by
  let h3 := h2 ++ [.list []]
  let h4 := h3 ++ [.tup [.ref h2.length, .int k]]
  refine HB.note nd spb H hl hρ (q := h3.length) (h3 := h4) ?_ ((pre_app _ _).trans (pre_app _ _)) (Rd.mkTup (by simp [h3]; (first | exact om121 hb | omega)) (lst_get _ _) (.cons (Rd.mkList (by (first | exact om120 hb | omega)) (get_pre (pre_app _ _) (lst_get h2 _)) .nil) (.cons Rd.mkInt .nil)))
  (try dsimp only [E_tup, Es_cons, E_lst, Es_nil, Res.bind_ok]; rw [newList_ok (by simp)]; try dsimp only [Res.bind_ok, Es_cons]; rw [hk])
  rfl

theorem begin_1 (L : TF F) {C : Cf} (hC : C = callN F W (n + 4)) (S : SI9 b t pt s sp sh h [] 0 [] held) (hb : b ≤ h.length) {o : Option Val} {w : Val} :
    Wp (exec C W (.cons (.fors (.loc 3) (.irange (.const (.int 38))) (.cons (.expr (.mcall 85 (.loc 0) (.cons (.lst .nil) .nil))) (.cons (.expr (.meth .append (.sub (.loc 1) (.const (.int 2))) (.cons (.tup (.cons (.lst .nil) (.cons (.loc 3) .nil))) .nil))) .nil))) (.cons (.asub (.loc 1) (.const (.int 1)) (.const (.int 38))) .nil)) [some (.ref t), some (.ref s), some w, o] h) fun p h' => p.1 = .next ∧ Keep (M9 t pt s sp sh) h h' ∧ SI9 b t pt s sp sh h' [] 38 (pk 38) held ∧ ∃ o', p.2 = [some (.ref t), some (.ref s), some w, o'] := by
  refine ob12 S.st fun rw sS rS => ?_
  refine w_for (s := (rangeVals 0 38, fun _ => true)) (h' := h) (by (try dsimp only [I_irange, E_const, Res.bind_ok]; try with_reducible rfl); exact irange_ok (m := 38) (by (first | exact om380 | omega))) ?_
  refine for_range (m := 38) (I := fun k ρ h' => (∃ o', ρ = [some (.ref t), some (.ref s), some w, o']) ∧ HB b t pt s sp sh rw h h' [] k (pk k) (pk k) held ∧ b ≤ h'.length) ⟨⟨_, rfl⟩, ⟨S.T, sS, S.ps, S.hs, Keep.refl⟩, hb⟩ ?_ ?_
  · intro k hk ρ h1 q
    refine ob03 q fun wz11x0 H hb1 => ?_; clear q; refine ob11 wz11x0 fun o' ez7x1 => ?_; clear wz11x0; subst ez7x1
    show Wp (exec C W (.cons _ (.cons _ .nil)) [some (.ref t), some (.ref s), some w, some (.int k)] h1) _
    refine ob13 (put0 (ρ := [some (.ref t), some (.ref s), some w, some (.int k)]) L hC S.nd H (by (first | exact om381 hk | omega)) (by simp [pk]; (first | exact om382 hk | omega)) hb1 rfl (r := (.cons (.expr (.meth .append (.sub (.loc 1) (.const (.int 2))) (.cons (.tup (.cons (.lst .nil) (.cons (.loc 3) .nil))) .nil))) .nil))) fun h2 e2 H2 l2 => ?_
    refine ob13 (note0 (C := C) (W := W) (ρ := [some (.ref t), some (.ref s), some w, some (.int k)]) S.nd ⟨S.spb, S.n3.2.1⟩ H2 (by (first | exact om273 hb1 l2 | omega)) (by simp [pk]; (first | exact om382 hk | omega)) rfl (e := .loc 3) (k := k) (fun _ => rfl) (r := .nil)) fun h3 e3 H3 l3 => ?_
    (rw [e2, e3]; try dsimp only [X_nil, Wp_ok]; try with_reducible rfl)
    refine ⟨⟨_, rfl⟩, by rw [pk_succ]; exact H3, by (first | exact om352 hb1 l2 l3 | omega)⟩
  · intro ρ h1 q
    refine ob03 q fun wz14x0 H hb1 => ?_; clear q; refine ob11 wz14x0 fun o' ez8x1 => ?_; clear wz14x0; subst ez8x1
    (try dsimp only [thenX_next]; try with_reducible rfl)
    refine ob14 (H.fin (C := C) (W := W) (x := 38) (r := .nil) S.nd S.sb S.spb S.shb S.n3 S.m S.hl (H.K.rd S.m rS) (ρ := [some (.ref t), some (.ref s), some w, o']) rfl rfl rfl) fun h2 e2 K2 S2 l2 => ?_
    (rw [e2]; try dsimp only [X_nil, Wp_ok]; try with_reducible rfl)
    exact ⟨rfl, K2, S2, _, rfl⟩

noncomputable def rk (j : Nat) : List (List Int) := [[((j - 1 : Nat) : Int)]]
noncomputable def pq (k : Nat) : List (List (List Int) × Nat) := ([], 0) :: ([], 1) :: (List.range k).map fun j => (rk j, 1)
theorem pq_succ (k : Nat) : pq (k + 1) = pq k ++ [(rk k, 1)] := by simp [pq, List.range_succ]
theorem pq_len (k : Nat) : (pq k).length = k + 2 := by simp [pq]

/-- a note of one row of one bid -/
theorem note1 {rw k : Nat} {h0 h2 : MH} {e : MExpr} {r : MStmt} (nd : [t, pt, s, sp, sh].Nodup) (spb : sp < b ∧ ¬ Sp sp) (H : HB b t pt s sp sh rw h0 h2 rows g past np held) (hb : b ≤ h2.length) (hl : np.length < 5000) (hρ : locV 1 ρ h2 = .ok (.ref s) h2) (hk : (sem C e).E ρ h2 = .ok (.int ((k - 1 : Nat) : Int)) h2) :
    ∃ h4, exec C W (.cons (.expr (.meth .append (.sub (.loc 1) (.const (.int 2))) (.cons (.tup (.cons (.lst (.cons (.lst (.cons e .nil)) .nil)) (.cons (.const (.int 1)) .nil))) .nil))) r) ρ h2 = exec C W r ρ h4 ∧ HB b t pt s sp sh rw h0 h4 rows g past (np ++ [(rk k, 1)]) held ∧ h2.length ≤ h4.length := by
  let h3 := h2 ++ [.list [.int ((k - 1 : Nat) : Int)]]
  let h4 := h3 ++ [.list [.ref h2.length]]
  let h5 := h4 ++ [.tup [.ref h3.length, .int 1]]
  have g3 : h5[h2.length]? = some (.list [.int ((k - 1 : Nat) : Int)]) := get_pre ((pre_app _ _).trans (pre_app _ _)) (lst_get h2 _)
  have g4 : h5[h3.length]? = some (.list [.ref h2.length]) := get_pre (pre_app _ _) (lst_get h3 _)
  refine HB.note nd spb H hl hρ (q := h4.length) (h3 := h5) ?_ ((pre_app _ _).trans ((pre_app _ _).trans (pre_app _ _))) (Rd.mkTup (by simp [h3, h4]; (first | exact om281 hb | omega)) (lst_get _ _) (.cons (Rd.mkList (by simp [h3]; (first | exact om121 hb | omega)) g4 (.cons (Rd.mkList (by (first | exact om120 hb | omega)) g3 (.cons Rd.mkInt .nil)) .nil)) (.cons Rd.mkInt .nil)))
  (try dsimp only [E_tup, Es_cons, E_lst]; rw [hk])
  simp only [Res.bind_ok, Es_nil]
  rw [newList_ok (by simp)]
  simp only [Res.bind_ok, Es_nil]
  rw [newList_ok (by simp)]
  rfl
theorem come0 (L : TF F) (h83 : F 83 = some f_T_come) (hC : C = callN F W (n + 4)) {rw : Nat} {h0 h1 : MH} (nd : [t, pt, s, sp, sh].Nodup) (H : HB b t pt s sp sh rw h0 h1 [] 1 past np held) (hp : past.length < 5000) (hb : b ≤ h1.length) (hρ : locV 0 ρ h1 = .ok (.ref t) h1) {r : MStmt} :
    ∃ h2, exec C W (.cons (.expr (.mcall 83 (.loc 0) (.cons (.lst (.cons (.const (.int 0)) .nil)) .nil))) r) ρ h1 = exec C W r ρ h2 ∧ HB b t pt s sp sh rw h0 h2 [[0]] 1 (past ++ [([], 1)]) np held ∧ h1.length ≤ h2.length := by
  have p1 : h1 <+: h1 ++ [.list [.int 0]] := pre_app _ _
  have H1 := H.grow p1
  refine ob12 (come_good (W := W) (n := n) L.h1 L.h3 L.h4 L.h80 L.h89 h83 H1.T (l := h1.length) (vs := [.int 0]) (lst_get _ _) (fun v hv => by simp only [List.mem_singleton] at hv; subst hv; trivial) (by rfl) hp (by simp; (first | exact om121 hb | omega))) fun xs ex W1 => ?_
  refine ob22 W1.get fun v2 h2 e2 D => ?_
  have ex : xs = [0] := by
    match xs, ex with
    | [x], ex => simp only [List.map_cons, List.map_nil, List.cons.injEq, Val.int.injEq, and_true] at ex; rw [← ex]
    | [], ex => cases ex
    | _ :: _ :: _, ex => cases ex
  subst ex
  have l2 := D.2.1.1
  simp only [List.length_append, List.length_cons, List.length_nil] at l2
  refine ⟨h2, st_expr (v := v2) ?_, H1.deed nd D, by (first | exact om379 l2 | omega)⟩
  rw [mcall_E H.T hρ (vs := [.ref h1.length]) (h' := h1 ++ [.list [.int 0]]) (by
        (try dsimp only [Es_cons, E_lst, c_E, Res.bind_ok, Es_nil]; rw [newList_ok (by simp)]); rfl)]
  rw [hC]; exact e2

theorem bid0 (L : TF F) (hC : C = callN F W (n + 4)) {rw k : Nat} {h0 h1 : MH} (nd : [t, pt, s, sp, sh].Nodup) (H : HB b t pt s sp sh rw h0 h1 (rk k) 1 past np held) (hk : k < 200) (hp : past.length < 5000) (hb : b ≤ h1.length) (hρ : locV 0 ρ h1 = .ok (.ref t) h1) (hk3 : locV 3 ρ h1 = .ok (.int k) h1) {r : MStmt} :
    ∃ h2, exec C W (.cons (.expr (.mcall 87 (.loc 0) (.cons (.const (.int 0)) (.cons (.const (.int 0)) (.cons (.loc 3) .nil))))) r) ρ h1 = exec C W r ρ h2 ∧ HB b t pt s sp sh rw h0 h2 (rk (k + 1)) 1 (past ++ [(rk k, 1)]) np held ∧ h1.length ≤ h2.length := by
  refine ob22 ((bid_good (W := W) (n := n) L H.T (x := 0) (y := 0) (z := k) (by simp [rk]) (by (first | exact om210 | omega)) (by (first | exact om383 hk | omega)) hp hb).get) fun v2 h2 e2 D => ?_
  refine ⟨h2, st_expr (v := v2) ?_, H.deed nd D, D.2.1.1⟩
  rw [mcall_E H.T hρ (vs := [.int 0, .int 0, .int k]) (h' := h1) (by
        (try dsimp only [Es_cons, c_E, Res.bind_ok]; try with_reducible rfl)
        show (((((locV 3 ρ h1).bind _)).bind _).bind _) = _
        rw [hk3]; rfl)]
  rw [hC]; exact e2

theorem begin_2 (L : TF F) (h83 : F 83 = some f_T_come) {C : Cf} (hC : C = callN F W (n + 4)) (S : SI9 b t pt s sp sh h [] 0 [] held) (hb : b ≤ h.length) {o : Option Val} {w : Val} :
    Wp (exec C W   (.cons (.expr (.mcall 85 (.loc 0) (.cons (.lst .nil) .nil)))
  (.cons (.expr (.mcall 83 (.loc 0) (.cons (.lst (.cons (.const (.int 0)) .nil)) .nil)))
  (.cons (.expr (.meth .append (.sub (.loc 1) (.const (.int 2))) (.cons (.tup (.cons (.lst .nil) (.cons (.const (.int 0)) .nil))) .nil)))
  (.cons (.expr (.meth .append (.sub (.loc 1) (.const (.int 2))) (.cons (.tup (.cons (.lst .nil) (.cons (.const (.int 1)) .nil))) .nil)))
  (.cons (.fors (.loc 3) (.irange (.const (.int 200)))
  (.cons (.expr (.mcall 87 (.loc 0) (.cons (.const (.int 0)) (.cons (.const (.int 0)) (.cons (.loc 3) .nil)))))
  (.cons (.expr (.meth .append (.sub (.loc 1) (.const (.int 2))) (.cons (.tup (.cons (.lst (.cons (.lst (.cons (.bin .Sub (.loc 3) (.bi .int (.cons (.cmp .Gt (.loc 3) (.const (.int 0))) .nil))) .nil)) .nil)) (.cons (.const (.int 1)) .nil))) .nil)))
  .nil)))
  (.cons (.asub (.loc 1) (.const (.int 0)) (.lst (.cons (.lst (.cons (.const (.int 199)) .nil)) .nil)))
  (.cons (.asub (.loc 1) (.const (.int 1)) (.const (.int 1)))
  .nil))))))) [some (.ref t), some (.ref s), some w, o] h) fun p h' => p.1 = .next ∧ Keep (M9 t pt s sp sh) h h' ∧ SI9 b t pt s sp sh h' (rk 200) 1 (pq 200) held ∧ ∃ o', p.2 = [some (.ref t), some (.ref s), some w, o'] := by
  refine ob12 S.st fun rw sS rS => ?_
  have H : HB b t pt s sp sh rw h h [] 0 [] [] held := ⟨S.T, sS, S.ps, S.hs, Keep.refl⟩
  obtain ⟨h1, e1, H1, l1⟩ := put0 (ρ := [some (.ref t), some (.ref s), some w, o]) L hC S.nd H (by (first | exact om384 | omega)) (by simp) hb rfl (r := _)
  rw [e1]
  obtain ⟨h2, e2, H2, l2⟩ := come0 (ρ := [some (.ref t), some (.ref s), some w, o]) L h83 hC S.nd H1 (by simp) (by (first | exact om273 hb l1 | omega)) rfl (r := _)
  rw [e2]
  obtain ⟨h3, e3, H3, l3⟩ := note0 (C := C) (W := W) (ρ := [some (.ref t), some (.ref s), some w, o]) S.nd ⟨S.spb, S.n3.2.1⟩ H2 (by (first | exact om352 hb l1 l2 | omega)) (by simp) rfl (e := .const (.int 0)) (k := 0) (fun _ => c_E) (r := _)
  rw [e3]
  obtain ⟨h4, e4, H4, l4⟩ := note0 (C := C) (W := W) (ρ := [some (.ref t), some (.ref s), some w, o]) S.nd ⟨S.spb, S.n3.2.1⟩ H3 (by (first | exact om362 hb l1 l2 l3 | omega)) (by simp) rfl (e := .const (.int 1)) (k := 1) (fun _ => c_E) (r := _)
  rw [e4]
  have H4 : HB b t pt s sp sh rw h h4 (rk 0) 1 (pq 0) (pq 0) held := H4
  refine w_for (s := (rangeVals 0 200, fun _ => true)) (h' := h4) (by (try dsimp only [I_irange, E_const, Res.bind_ok]; try with_reducible rfl); exact irange_ok (m := 200) (by (first | exact om385 | omega))) ?_
  refine for_range (m := 200) (I := fun k ρ h' => (∃ o', ρ = [some (.ref t), some (.ref s), some w, o']) ∧ HB b t pt s sp sh rw h h' (rk k) 1 (pq k) (pq k) held ∧ b ≤ h'.length) ⟨⟨_, rfl⟩, H4, by (first | exact om386 hb l1 l2 l3 l4 | omega)⟩ ?_ ?_
  · intro k hk ρ h1 q
    refine ob03 q fun wz24x0 H hb1 => ?_; clear q; refine ob11 wz24x0 fun o' ez13x1 => ?_; clear wz24x0; subst ez13x1
    show Wp (exec C W (.cons _ (.cons _ .nil)) [some (.ref t), some (.ref s), some w, some (.int k)] h1) _
    obtain ⟨h2, e2, H2, l2⟩ := bid0 (ρ := [some (.ref t), some (.ref s), some w, some (.int k)]) L hC S.nd H hk (by rw [pq_len]; (first | exact om387 hk | omega)) hb1 rfl rfl (r := _)
    rw [e2]
    obtain ⟨h3, e3, H3, l3⟩ := note1 (C := C) (W := W) (ρ := [some (.ref t), some (.ref s), some w, some (.int k)]) S.nd ⟨S.spb, S.n3.2.1⟩ H2 (by (first | exact om273 hb1 l2 | omega)) (by rw [pq_len]; (first | exact om387 hk | omega)) rfl (k := k) (e := (.bin .Sub (.loc 3) (.bi .int (.cons (.cmp .Gt (.loc 3) (.const (.int 0))) .nil)))) (by
      show (Res.ok (Val.int ((k : Int) - (if decide ((0 : Int) < (k : Int)) = true then 1 else 0))) h2 : Res Val) = _
      by_cases hk0 : k = 0
      · subst hk0; rfl
      · rw [if_pos (by simp; (first | exact om388 hk0 | omega))]
        exact congrArg (fun z => Res.ok (Val.int z) h2) (by (first | exact om389 hk0 | omega))) (r := .nil)
    (rw [e3]; try dsimp only [X_nil, Wp_ok]; try with_reducible rfl)
    refine ⟨⟨_, rfl⟩, by rw [pq_succ]; exact H3, by (first | exact om352 hb1 l2 l3 | omega)⟩
  · intro ρ h1 q
    refine ob03 q fun wz26x0 H hb1 => ?_; clear q; refine ob11 wz26x0 fun o' ez15x1 => ?_; clear wz26x0; subst ez15x1
    (try dsimp only [thenX_next]; try with_reducible rfl)
    refine ob12 H.ps fun pvs a c => ?_; refine ob12 H.hs fun hvs a' c' => ?_; have T := H.T; have st := H.st; have K := H.K
    have nd := S.nd
    refine ob08 (nd5 nd) fun nq1 nq2 nq3 nq4 nq5 nq6 nq7 wz28 => ?_; refine ob03 wz28 fun nq8 nq9 nq10 => ?_; clear wz28
    have sb := S.sb
    let h5 := h1 ++ [.list [.int 199]]
    let h6 := h5 ++ [.list [.ref h1.length]]
    have p6 : h1 <+: h6 := (pre_app _ _).trans (pre_app _ _)
    have s6 := get_pre p6 st
    let h7 := h6.set s (.list [.ref h5.length, .int 0, .ref sp, .ref sh])
    have K12 : Keep (fun i => i = s) h6 h7 := Keep.set (M := fun i => i = s) Keep.refl rfl S.n3.1
    have hM12 : ∀ i, i = s → i < b := fun i m => by (first | exact om346 sb m | omega)
    have K02 : Keep (M9 t pt s sp sh) h h7 := (K.trans (Keep.of_pre p6)).trans (K12.weak fun i m => .inr (.inr (.inl m)))
    have r6 : Rd b h6 (tII (rk 200)) (.ref h5.length) := Rd.mkList (by simp [h5]; (first | exact om121 hb1 | omega)) (lst_get _ _) (.cons (Rd.mkList (by (first | exact om120 hb1 | omega)) (get_pre (pre_app _ _) (lst_get h1 _)) (.cons Rd.mkInt .nil)) .nil)
    have H7 : HB b t pt s sp sh h5.length h h7 (rk 200) 1 (pq 200) (pq 200) held := ⟨(T.grow p6).keep K12 hM12 (by (first | exact om331 nq2 | omega)) (by (first | exact om331 nq5 | omega)), by rw [List.getElem?_set_self (List.getElem?_eq_some_iff.mp s6).1], ⟨pvs, K12.2 _ _ (by (first | exact om350 nq8 | omega)) (get_pre p6 a), K12.rdl hM12 (c.mono p6)⟩, ⟨hvs, K12.2 _ _ (by (first | exact om350 nq9 | omega)) (get_pre p6 a'), K12.rdl hM12 (c'.mono p6)⟩, K02⟩
    refine ob14 (H7.fin (C := C) (W := W) (x := 1) (r := .nil) S.nd S.sb S.spb S.shb S.n3 S.m S.hl (K12.rd hM12 r6) (ρ := [some (.ref t), some (.ref s), some w, o']) rfl rfl rfl) fun h8 e8 K8 S8 l8 => ?_
    rw [st_asub (v := .ref h5.length) (h' := h6) (by
      (try dsimp only [E_lst, Es_cons, c_E]; try with_reducible rfl)
      simp only [Res.bind_ok, Es_nil]
      rw [newList_ok (by decide)]
      simp only [Res.bind_ok, Es_nil]
      rw [newList_ok (by simp)]) (ov := .ref s) rfl (iv := .int 0) c_E (h'' := h7) (by simp only [asubV, s6]; rfl), e8, X_nil, Wp_ok]
    exact ⟨rfl, K8, S8, _, rfl⟩

theorem begin_ok (L : TF F) (h83 : F 83 = some f_T_come) (h69 : F 69 = some f_law_begin) (S : SI9 b t pt s sp sh h [] 0 [] held) (hb : b ≤ h.length) (z : Int) :
    Wp (callN F W (n + 5) 69 [.ref t, .ref s, .int z] h) fun v h' => v = .none ∧ Keep (M9 t pt s sp sh) h h' ∧ ∃ rows g past, SI9 b t pt s sp sh h' rows g past held ∧ past.length ≤ 300 := by
  rw [callN_def h69 rfl, Wp_bind]
  show Wp (exec (callN F W (n + 4)) W f_law_begin.body [some (.ref t), some (.ref s), some (.int z), none] h) _
  generalize hC : callN F W (n + 4) = C
  have hC := hC.symm
  refine w_iff (b := decide (z = 1)) (h' := h) rfl ?_
  by_cases h1 : z = 1
  · rw [if_pos (by simpa using h1)]
    refine ob25 ((begin_1 L hC S hb (o := none) (w := .int z)).get) fun wz30x0 h2 e2 ez30x3 K2 S2 wz30 => ?_; obtain ⟨f, ρ⟩ := wz30x0; subst ez30x3; refine ob11 wz30 fun o' ez19x1 => ?_; clear wz30; subst ez19x1
    (rw [e2]; try dsimp only [Wp_ok, thenX_next]; try with_reducible rfl)
    refine w_iff (b := false) (h' := h2) (by subst h1; rfl) ?_
    (rw [if_neg (by decide)]; try dsimp only [X_nil, Wp_ok, thenX_next]; try with_reducible rfl)
    exact ⟨rfl, K2, _, _, _, S2, by simp [pk]⟩
  · (rw [if_neg (by simpa using h1)]; try dsimp only [X_nil, Wp_ok, thenX_next]; try with_reducible rfl)
    refine w_iff (b := decide (z = 2)) (h' := h) rfl ?_
    by_cases h2 : z = 2
    · rw [if_pos (by simpa using h2)]
      refine ob25 ((begin_2 L h83 hC S hb (o := none) (w := .int z)).get) fun wz31x0 h3 e3 ez31x3 K3 S3 wz31 => ?_; obtain ⟨f, ρ⟩ := wz31x0; subst ez31x3; refine ob11 wz31 fun o' ez21x1 => ?_; clear wz31; subst ez21x1
      (rw [e3]; try dsimp only [Wp_ok, thenX_next, X_nil]; try with_reducible rfl)
      exact ⟨rfl, K3, _, _, _, S3, by rw [pq_len]; (first | exact om390 | omega)⟩
    · (rw [if_neg (by simpa using h2)]; try dsimp only [X_nil, Wp_ok, thenX_next]; try with_reducible rfl)
      exact ⟨rfl, Keep.refl, _, _, _, S, by simp⟩
end
end Mine


-- part L09z
set_option maxRecDepth 4000
set_option linter.unusedVariables false
set_option linter.unusedSimpArgs false
namespace Mine
open PySem (Operator UnaryOp CmpOp)

/-- the heap behind the first statements -/
noncomputable def H9 (xs : List Val) : MH := [.ro xs, .inst [some (.ref 12), some (.int 1), some (.ref 4)], .aux, .list [], .list [.ref 7, .ref 13], .list [], .list [], .tup [.ref 3, .int 0], .list [.int 3], .list [], .list [.int 3], .list [.ref 10], .list [.ref 10], .tup [.ref 6, .int 1], .inst [some (.ref 16), some (.int 0), some (.ref 17)], .aux, .list [], .list [], .list [], .list [], .list [], .list [.ref 18, .int 0, .ref 19, .ref 20], .list [], .list []]

theorem lf9 : LF9 F := by
  constructor
  · constructor <;> rfl
  all_goals rfl

theorem si9 (xs : List Val) : SI9 22 14 17 21 19 20 (H9 xs) [] 0 [] [] where
  T := ⟨⟨16, rfl, by rw [tII, Rd]; exact ⟨16, [], rfl, .inr (.inl rfl), rfl, .nil⟩⟩, ⟨[], rfl, .nil⟩, by decide, by decide, by decide, by decide, ⟨by decide, by decide, fun r hr => by cases hr⟩, (fun q hq => by cases hq), by simp [Sp], by simp [Sp], by decide⟩
  st := ⟨18, rfl, by rw [tII, Rd]; exact ⟨18, [], rfl, .inr (.inr rfl), rfl, .nil⟩⟩
  ps := ⟨[], rfl, .nil⟩
  hs := ⟨[], rfl, .nil⟩
  sb := by decide
  spb := by decide
  shb := by decide
  nd := by decide
  hl := by decide
  hd := rfl
  n3 := by simp [Sp]

section
variable {C : Cf} {W n : Nat} {ρ ρ' : Rho} {h h' : MH}
theorem st_go {s r : MStmt} (e : exec C W s ρ h = .ok (.next, ρ') h') : exec C W (.cons s r) ρ h = exec C W r ρ' h' := by
  rw [X_cons', e]; rfl

noncomputable def law6 : MStmt := tlS (tlS (tlS (tlS (tlS (tlS f_law.body)))))
theorem law_a (xs : List Val) : exec (callN F 10 29) 10 f_law.body [some (.ref 0), none, none, none, none, none, none] [.ro xs] = exec (callN F 10 29) 10 law6 [some (.ref 0), some (.ref 1), some (.ref 14), some (.ref 21), none, none, none] (H9 xs) := by
  show exec _ _ (.cons _ (.cons _ (.cons _ (.cons _ (.cons _ (.cons _ law6)))))) _ _ = _
  rw [st_go (ρ' := [some (.ref 0), some (.ref 1), none, none, none, none, none]) (h' := [.ro xs, .inst [some (.ref 3), some (.int 0), some (.ref 4)], .aux, .list [], .list []]) (by kernel_rfl)]
  rw [st_go (ρ' := [some (.ref 0), some (.ref 1), none, none, none, none, none]) (h' := [.ro xs, .inst [some (.ref 6), some (.int 1), some (.ref 4)], .aux, .list [], .list [.ref 7], .list [], .list [], .tup [.ref 3, .int 0]]) (by kernel_rfl)]
  rw [st_go (ρ' := [some (.ref 0), some (.ref 1), none, none, none, none, none]) (h' := [.ro xs, .inst [some (.ref 12), some (.int 1), some (.ref 4)], .aux, .list [], .list [.ref 7, .ref 13], .list [], .list [], .tup [.ref 3, .int 0], .list [.int 3], .list [], .list [.int 3], .list [.ref 10], .list [.ref 10], .tup [.ref 6, .int 1]]) (by kernel_rfl)]
  rw [st_go (ρ' := [some (.ref 0), some (.ref 1), some (.ref 14), none, none, none, none]) (h' := [.ro xs, .inst [some (.ref 12), some (.int 1), some (.ref 4)], .aux, .list [], .list [.ref 7, .ref 13], .list [], .list [], .tup [.ref 3, .int 0], .list [.int 3], .list [], .list [.int 3], .list [.ref 10], .list [.ref 10], .tup [.ref 6, .int 1], .inst [some (.ref 16), some (.int 0), some (.ref 17)], .aux, .list [], .list []]) (by kernel_rfl)]
  rw [st_go (ρ' := [some (.ref 0), some (.ref 1), some (.ref 14), some (.ref 21), none, none, none]) (h' := [.ro xs, .inst [some (.ref 12), some (.int 1), some (.ref 4)], .aux, .list [], .list [.ref 7, .ref 13], .list [], .list [], .tup [.ref 3, .int 0], .list [.int 3], .list [], .list [.int 3], .list [.ref 10], .list [.ref 10], .tup [.ref 6, .int 1], .inst [some (.ref 16), some (.int 0), some (.ref 17)], .aux, .list [], .list [], .list [], .list [], .list [], .list [.ref 18, .int 0, .ref 19, .ref 20]]) (by kernel_rfl)]
  rw [st_go (ρ' := [some (.ref 0), some (.ref 1), some (.ref 14), some (.ref 21), none, none, none]) (h' := H9 xs) (by kernel_rfl)]

/-- the table beside -/
theorem beside_ok (hF : F 89 = some f_T_rows) (h1 : h[1]? = some (.inst [some (.ref 12), some (.int 1), some (.ref 4)])) (h12 : h[12]? = some (.list [.ref 10])) (h10 : h[10]? = some (.list [.int 3])) : callN F W (n + 1) 89 [.ref 1] h = .ok (.ref (h.length + 1)) (RowsH h [[3]]) := by
  rw [callN_def hF rfl]
  show (exec (callN F W n) W f_T_rows.body [some (.ref 1), none] h).bind retOf = _
  generalize callN F W n = C
  have src : (sem C (.iobj (.attr (.loc 0) 0))).I [some (.ref 1), none] h = .ok ([.ref 10], fun h' => decide (h'[12]? = some (.list [.ref 10]))) h := by
    rw [I_iobj]
    show ((attrV 0 (.ref 1) h).bind _) = _
    rw [attr_0 (k := 0) h1, Res.bind_ok, srcOf_list h12]; rfl
  rw [f_T_rows, X_cons', X_ret, E_comp, src, Res.bind_ok]
  simp only
  rw [copy_eq (C := C) (h := h) (b := 0) (i := 1) (ρ := [some (.ref 1), none]) (by simp) (fun h' p => by simp [get_pre p h12]) [[3]] [.ref 10] h (List.prefix_refl _) (.cons (Rd.mkInts (Nat.zero_le _) h10) .nil) (fun x hx => by simp only [List.mem_singleton] at hx; subst hx; simp), Res.bind_ok, newList_ok (by simp)]
  simp [RowsH, HP]

/-- held rows: no pair differs -/
theorem pairs_of {b : Nat} : ∀ {held : List (List (List Int))} {vs : List Val}, RdL b h (held.map tHeld) vs → ∃ ps, pairsOf h vs = some ps ∧ ∀ p ∈ ps, cmpV h .NotEq p.1 p.2 = some false
  | [], vs, r => by rw [List.map_nil, RdL] at r; subst r; exact ⟨[], rfl, fun p hp => by cases hp⟩
  | x :: held, vs, r => by
    rw [List.map_cons, RdL] at r
    refine ob23 r fun w ws ez0x2 r1 r2 => ?_; clear r; subst ez0x2
    refine ob12 (pairs_of r2) fun ps e hps => ?_
    refine ob24 r1.tuple fun q us ez2x2 _ hq ru => ?_; subst ez2x2
    rw [RdL] at ru
    obtain ⟨u, ws', rfl, ru1, ru⟩ := ru
    rw [RdL] at ru
    obtain ⟨u', ws'', rfl, ru2, ru⟩ := ru
    rw [RdL] at ru
    subst ru
    refine ⟨(u, u') :: ps, by rw [pairsOf]; simp only [hq, e]; rfl, fun p hp => ?_⟩
    rcases List.mem_cons.mp hp with rfl | hp
    · exact ne_same (by have := dep_tII x; (first | exact om319 this | omega)) ru1 ru2
    · exact hps p hp
theorem pairs_none {C : Cf} {ck : MH → Bool} (hc : ck h = true) (l : 6 < ρ.length) : ∀ {ps : List (Val × Val)}, (∀ p ∈ ps, cmpV h .NotEq p.1 p.2 = some false) → compLoop (pStep (sem C (.cmp .NotEq (.loc 5) (.loc 6))).T (sem C (.const (.int 1))).E 5 6 ρ) ck ps h = .ok [] h
  | [], _ => rfl
  | p :: ps, hp => by
    have e1 : locV 5 ((ρ.set 5 (some p.1)).set 6 (some p.2)) h = .ok p.1 h := by
      unfold locV
      rw [List.getElem?_set_ne (by (first | exact om391 | omega)), List.getElem?_set_self (by (first | exact om392 l | omega))]
    have e2 : locV 6 ((ρ.set 5 (some p.1)).set 6 (some p.2)) h = .ok p.2 h := by
      unfold locV
      rw [List.getElem?_set_self (by simpa using l)]
    have e : pStep (sem C (.cmp .NotEq (.loc 5) (.loc 6))).T (sem C (.const (.int 1))).E 5 6 ρ p h = .ok none h := by
      unfold pStep gStep
      rw [T_cmp, E_loc, e1, Res.bind_ok, E_loc, e2, Res.bind_ok, hp p (.head _)]; rfl
    rw [compLoop, e, Res.bind_ok, if_pos hc, pairs_none hc l (fun q hq => hp q (.tail _ hq))]; rfl
end
end Mine


-- part L09zr
set_option maxRecDepth 4000
set_option linter.unusedVariables false
set_option linter.unusedSimpArgs false
namespace Mine
open PySem (Operator UnaryOp CmpOp)

section
variable {C : Cf} {W n : Nat} {ρ ρ' : Rho} {h h' : MH}
theorem mcall_at {f i t : Nat} {fs : List (Option Val)} (hρ : locV i ρ h = .ok (.ref t) h) (ht : h[t]? = some (.inst fs)) : (sem C (.mcall f (.loc i) .nil)).E ρ h = C f [.ref t] h := by
  show ((locV i ρ h).bind fun v h => if Mine.isIV h v then ((sem C .nil).Es ρ h).bind fun vs h => C f (v :: vs) h else .stuck) = _
  rw [hρ, Res.bind_ok, isIV, ht, if_pos rfl]; rfl

noncomputable def J9 (xs : List Val) (k : Nat) (ρ : Rho) (h' : MH) : Prop := (∃ o, ρ = [some (.ref 0), some (.ref 1), some (.ref 14), some (.ref 21), o, none, none]) ∧ Keep (M9 14 17 21 19 20) (H9 xs) h' ∧ ∃ rows g past held, SI9 22 14 17 21 19 20 h' rows g past held ∧ past.length ≤ 300 + k ∧ held.length ≤ k

theorem law_c (xs : List Val) {k : Nat} (hk : k ≤ 63) (j : J9 xs k ρ h) : Wp (exec (callN F 10 29) 10 (tlS (tlS law6)) ρ h) fun p _ => p.1 = .ret (.bool true) := by
  refine ob03 j fun wz0x0 K wz0 => ?_; clear j; refine ob11 wz0x0 fun o ez0x1 => ?_; clear wz0x0; subst ez0x1; refine ob43 wz0 fun rows g past held S lp lh => ?_; clear wz0
  have ro := rows_eq (W := 10) (n := 28) lf9.tf.h89 S.T
  have be := fun {h' : MH} (a : h'[1]? = _) b c => beside_ok (W := 10) (n := 28) (h := h') lf9.tf.h89 a b c
  have sa := fun {h' : MH} {b1 b2 : Nat} {rs : List (List Int)} {u v : Val} (hu : Rd b1 h' (tII rs) u) (hv : Rd b2 h' (tII rs) v) => same_ok (W := 10) (n := 27) lf9.h22 lf9.h45 hu hv
  have fi := fun {h' : MH} {pvs : List Val} (T : TabI 22 14 17 h' rows g past) (a : h'[19]? = some (.list pvs)) b c d e f => first_ok (W := 10) (n := 27) lf9.tf (rfl : F 70 = _) (sp := 19) T a b c d e f
  generalize callN F 10 29 = C at ro be sa fi
  have nM : ∀ i, i < 14 → ¬ M9 14 17 21 19 20 i := fun i hi m => by unfold M9 at m; (first | exact om393 hi m | omega)
  have hlen := K.1
  have hlen : 24 ≤ h.length := hlen
  have p1 : h <+: RowsH h rows := RowsH.pre
  have S1 := S.grow p1
  refine ob12 S.T.hi fun k1 i1 _ => ?_
  refine ob12 S1.st fun rw st1 st2 => ?_
  let h1 := RowsH h rows
  let h2 := RowsH h1 [[3]]
  let h3 := h2 ++ [.list [.int 3]]
  let h4 := h3 ++ [.list [.ref h2.length]]
  have a1 : h1[1]? = some (.inst [some (.ref 12), some (.int 1), some (.ref 4)]) := get_pre p1 (K.2 1 _ (nM _ (by (first | exact om394 | omega))) rfl)
  have a12 : h1[12]? = some (.list [.ref 10]) := get_pre p1 (K.2 12 _ (nM _ (by (first | exact om395 | omega))) rfl)
  have a10 : h1[10]? = some (.list [.int 3]) := get_pre p1 (K.2 10 _ (nM _ (by (first | exact om396 | omega))) rfl)
  have p2 : h1 <+: h2 := RowsH.pre
  have p4 : h2 <+: h4 := (pre_app _ _).trans (pre_app _ _)
  have r4 : Rd 0 h4 (tII [[3]]) (.ref h3.length) := Rd.mkList (Nat.zero_le _) (lst_get _ _) (.cons (Rd.mkList (Nat.zero_le _) (get_pre (pre_app _ _) (lst_get h2 _)) (.cons Rd.mkInt .nil)) .nil)
  have S4 := S1.grow (p2.trans p4)
  refine ob12 S4.st fun rw4 st4 _ => ?_
  refine ob12 S4.ps fun pvs ps1 ps2 => ?_
  have l4 : 22 ≤ h4.length := by
    have x1 : h.length ≤ h1.length := len_pre p1
    have x2 := len_pre p2
    have x4 := len_pre p4
    (first | exact om397 hlen x1 x2 x4 | omega)
  refine ob23 ((fi S4.T ps1 ps2 ⟨by decide, by decide⟩ S4.hd l4 (by (first | exact om398 hk lp | omega))).get) fun v5 h5 e5 ez5x3 K5 => ?_; subst ez5x3
  have nT : ∀ i, i ≠ 14 → i ≠ 17 → ¬ TM 14 17 i := fun i a b m => by rcases m with z | z; exact a z; exact b z
  refine ob12 S4.hs fun hvs hs1 hs2 => ?_
  have st5 := K5.2 21 _ (nT _ (by decide) (by decide)) st4
  have hs5 := K5.2 20 _ (nT _ (by decide) (by decide)) hs1
  refine ob12 (pairs_of (K5.rdl S4.T.m hs2)) fun ps pe pc => ?_
  show Wp (exec C 10 (.cons _ (.cons _ .nil)) _ h) _
  refine w_skip (h' := h4) ?_ ?_
  · rw [T_or, T_not, T_call, E_call, Es_cons, mcall_at (t := 14) rfl i1, ro, Res.bind_ok, Es_cons, sub_E (v := .ref 21) (w := .int 0) (u := .ref rw) rfl c_E (sub_ref (seqOf_list st1) (by (first | exact om168 | omega)) rfl)]
    simp only [Res.bind_ok, Es_nil]
    rw [sa RowsH.rd st2]
    simp only [Res.bind_ok, truthy_bool, Res.opt_some, Bool.not_true, Bool.false_eq_true, if_false]
    rw [T_not, T_call, E_call, Es_cons, mcall_at (t := 1) rfl a1, be a1 a12 a10, Res.bind_ok, Es_cons, E_lst, Es_cons, E_lst, Es_cons, c_E]
    simp only [Res.bind_ok, Es_nil]
    rw [newList_ok (by simp)]
    simp only [Res.bind_ok, Es_nil]
    rw [newList_ok (by simp)]
    simp only [Res.bind_ok, Es_nil]
    rw [show C 45 [.ref (h1.length + 1), .ref h3.length] h4 = .ok (.bool true) h4 from sa (RowsH.rd.mono p4) r4]
    rfl
  · refine w_ret (.bool true) (h' := h5 ++ [.list []] ++ [.list []]) ?_ rfl
    rw [E_and, E_call, Es_cons, show (sem C (.loc 2)).E [some (.ref 0), some (.ref 1), some (.ref 14), some (.ref 21), o, none, none] h4 = .ok (.ref 14) h4 from rfl, Res.bind_ok, Es_cons, sub_E (v := .ref 21) (w := .int 2) (u := .ref 19) rfl c_E (sub_ref (seqOf_list st4) (by (first | exact om263 | omega)) rfl)]
    simp only [Res.bind_ok, Es_nil]
    rw [e5]
    simp only [Res.bind_ok, truthy_bool, Res.opt_some, if_true]
    rw [E_cmp, E_compp, sub_E (v := .ref 21) (w := .int 3) (u := .ref 20) rfl c_E (sub_ref (seqOf_list st5) (by (first | exact om264 | omega)) rfl), Res.bind_ok, comppL, show listsOf h5 (.ref 20) = some hvs from by simp only [listsOf, hs5]]
    simp only [pe]
    rw [pairs_none (by simp [listsOf, hs5, pe]) (by simp) pc, Res.bind_ok, newList_ok (by simp), Res.bind_ok, E_lst, Es_nil, Res.bind_ok, newList_ok (by simp), Res.bind_ok]
    have e1 : seqOf (h5 ++ [.list []] ++ [.list []]) h5.length = some (true, []) := seqOf_list (get_pre (pre_app _ _) (lst_get h5 _))
    have e2 : seqOf (h5 ++ [.list []] ++ [.list []]) (h5 ++ [MObj.list []]).length = some (true, []) := seqOf_list (lst_get _ _)
    rw [show cmpV (h5 ++ [.list []] ++ [.list []]) .Eq (.ref h5.length) (.ref (h5 ++ [MObj.list []]).length) = some true from by
      show eqV 8 (h5 ++ [MObj.list []] ++ [MObj.list []]) (.ref h5.length) (.ref (h5 ++ [MObj.list []]).length) = _
      rw [eqV, e1, e2]; simp [eqL]]
    rfl

theorem law_b (xs : List Int) (hl : xs.length ≤ 63) (j : J9 (xs.map .int) 0 ρ h) : Wp (exec (callN F 10 29) 10 (tlS law6) ρ h) fun p _ => p.1 = .ret (.bool true) := by
  have st := fun {h : MH} {rows : List (List Int)} {g : Nat} {past : List (List (List Int) × Nat)} {held : List (List (List Int))} (S : SI9 22 14 17 21 19 20 h rows g past held) a b d c => step_ok (W := 10) (n := 21) lf9 S a b d c
  have fin := fun {ρ : Rho} {h : MH} (j : J9 (xs.map .int) xs.length ρ h) => law_c (xs.map .int) hl j
  show Wp (exec _ 10 (.cons _ (tlS (tlS law6))) _ h) _
  generalize callN F 10 29 = C at st fin
  have z0 : ∀ {k ρ h}, J9 (xs.map .int) k ρ h → h[0]? = some (.ro (xs.map .int)) := fun {k ρ h} j => j.2.1.2 0 _ (fun m => by unfold M9 at m; (first | exact om399 m | omega)) rfl
  have e0 := z0 j
  have l0 : (xs.map Val.int).length = xs.length := List.length_map ..
  refine w_for (s := (xs.map .int, fun h' => decide (h'[0]? = some (.ro (xs.map .int))))) (h' := h) (by
    refine ob02 j fun wz2x0 _ => ?_; clear j; obtain ⟨o, rfl⟩ := wz2x0
    rw [I_iobj, show (sem C (.loc 0)).E [some (.ref 0), some (.ref 1), some (.ref 14), some (.ref 21), o, none, none] h = .ok (.ref 0) h from rfl, Res.bind_ok]
    simp only [srcOf, e0]; rfl) ?_
  refine for_vals (xs.map .int) (J9 (xs.map .int)) j (fun k ρ h q => by simp [z0 q]) (fun k x hx ρ h q => ?_) (fun ρ h q => ?_)
  · have hk : k < xs.length := by have := (List.getElem?_eq_some_iff.mp hx).1; (first | exact om3 l0 this | omega)
    have : ∃ c, x = .int c := by
      rw [List.getElem?_map] at hx
      refine ob12 (Option.map_eq_some_iff.mp hx) fun c _ ez8x2 => ?_; subst ez8x2
      exact ⟨c, rfl⟩
    refine ob11 this fun c ez3x1 => ?_; clear this; subst ez3x1
    refine ob03 q fun wz9x0 K wz9 => ?_; clear q; refine ob11 wz9x0 fun o ez4x1 => ?_; clear wz9x0; subst ez4x1; refine ob43 wz9 fun rows g past held S lp lh => ?_; clear wz9
    have hlen := K.1
    have hlen : 24 ≤ h.length := hlen
    refine ob24 ((st S (by (first | exact om400 hlen | omega)) (by (first | exact om401 hl hk lp | omega)) (by (first | exact om402 hl hk lh | omega)) c).get) fun v h1 e1 ez10x3 K1 wz10 => ?_; subst ez10x3; refine ob43 wz10 fun rows' g' past' held' S' lp' lh' => ?_; clear wz10
    show Wp (exec C 10 (.cons _ .nil) [some (.ref 0), some (.ref 1), some (.ref 14), some (.ref 21), some (.int c), none, none] h) _
    refine w_skip (h' := h1) (by
      rw [T_not, T_call, E_call, Es_cons, show (sem C (.loc 2)).E [some (.ref 0), some (.ref 1), some (.ref 14), some (.ref 21), some (.int c), none, none] h = .ok (.ref 14) h from rfl, Res.bind_ok, Es_cons, show (sem C (.loc 3)).E [some (.ref 0), some (.ref 1), some (.ref 14), some (.ref 21), some (.int c), none, none] h = .ok (.ref 21) h from rfl, Res.bind_ok, Es_cons, show (sem C (.loc 4)).E [some (.ref 0), some (.ref 1), some (.ref 14), some (.ref 21), some (.int c), none, none] h = .ok (.int c) h from rfl]
      simp only [Res.bind_ok, Es_nil]
      rw [e1]; rfl) ?_
    rw [X_nil, Wp_ok]
    exact ⟨⟨_, rfl⟩, K.trans K1, rows', g', past', held', S', by (first | exact om403 lp lp' | omega), by (first | exact om404 lh lh' | omega)⟩
  · rw [l0] at q
    rw [thenX_next]
    exact fin q

theorem run_ok (xs : List Int) (hl : xs.length ≤ 63) : ∃ h, callN F 10 30 78 [.ref 0] [.ro (xs.map .int)] = .ok (.bool true) h := by
  suffices Wp (exec (callN F 10 29) 10 f_law.body [some (.ref 0), none, none, none, none, none, none] [.ro (xs.map .int)]) (fun p _ => p.1 = .ret (.bool true)) by
    refine ob22 this.get fun wz11x0 h e q => ?_; obtain ⟨fl, ρ⟩ := wz11x0
    have q : fl = .ret (.bool true) := q
    subst q
    refine ⟨h, ?_⟩
    rw [callN_def (d := f_law) rfl rfl]
    show (exec (callN F 10 29) 10 f_law.body [some (.ref 0), none, none, none, none, none, none] [.ro (xs.map .int)]).bind retOf = _
    rw [e]; rfl
  rw [law_a]
  have lb := fun {ρ : Rho} {h : MH} (j : J9 (xs.map .int) 0 ρ h) => law_b xs hl j
  have bg := fun z => begin_ok (W := 10) (n := 24) lf9.tf lf9.tf.h83 (rfl : F 69 = _) (si9 (xs.map .int)) (by show 22 ≤ 24; (first | exact om405 | omega)) z
  have S := si9 (xs.map .int)
  show Wp (exec _ 10 (.cons _ (tlS law6)) _ _) _
  generalize callN F 10 29 = C at lb bg
  have z0 : (H9 (xs.map .int))[0]? = some (.ro (xs.map .int)) := rfl
  generalize hH : H9 (xs.map .int) = h at bg z0 S
  have K0 : Keep (M9 14 17 21 19 20) (H9 (xs.map .int)) h := hH ▸ Keep.refl
  refine w_iff (b := decide ((xs.length : Int) > 0)) (h' := h) (by
    rw [T_cmp, E_bi, Es_cons, show (sem C (.loc 0)).E [some (.ref 0), some (.ref 1), some (.ref 14), some (.ref 21), none, none, none] h = .ok (.ref 0) h from rfl]
    simp only [Res.bind_ok, Es_nil]
    rw [show biV h .len [.ref 0] = .ok (.int xs.length) h from by simp [biV, bi1, biL, onRef, seqOf, z0]]
    rfl) ?_
  cases xs with
  | nil =>
    rw [if_neg (by decide), X_nil, Wp_ok, thenX_next]
    exact lb ⟨⟨_, rfl⟩, K0, [], 0, [], [], S, by simp, by simp⟩
  | cons x xs =>
    rw [if_pos (by simp)]
    refine ob24 ((bg (x / 16 % 8)).get) fun v h1 e1 ez12x3 K1 wz12 => ?_; subst ez12x3; refine ob32 wz12 fun rows g past S1 lp => ?_; clear wz12
    refine w_expr .none (h' := h1) (by
      rw [E_call, Es_cons, show (sem C (.loc 2)).E [some (.ref 0), some (.ref 1), some (.ref 14), some (.ref 21), none, none, none] h = .ok (.ref 14) h from rfl, Res.bind_ok, Es_cons, show (sem C (.loc 3)).E [some (.ref 0), some (.ref 1), some (.ref 14), some (.ref 21), none, none, none] h = .ok (.ref 21) h from rfl, Res.bind_ok, Es_cons, E_bin, E_bin, sub_E (v := .ref 0) (w := .int 0) (u := .int x) rfl c_E (by simp [subV, seqOf, z0, idxOf])]
      simp only [Res.bind_ok, Es_nil, c_E, bin_fd, bin_mod]
      rw [if_pos (by decide)]
      simp only [Res.bind_ok, Es_nil, c_E, bin_fd, bin_mod]
      rw [if_pos (by decide)]
      simp only [Res.bind_ok]
      exact e1) ?_
    rw [X_nil, Wp_ok, thenX_next]
    exact lb ⟨⟨_, rfl⟩, K0.trans K1, rows, g, past, [], S1, by (first | exact om406 lp | omega), by simp⟩
end
end Mine


-- part head
namespace Mine
open PySem PySem.W PyProof.Rows PySem.Calls
noncomputable def qV : Program := PySem.W.view PySem.Challenge.pw_uf030031_09 [0, 2, 3, 4, 5, 6, 7, 9, 10, 11, 12, 13, 14, 15, 17, 19, 20, 21, 22, 23, 24, 25, 26, 27, 28, 29, 30, 31, 32, 33, 34, 35, 36, 37, 38, 39, 40]
set_option maxRecDepth 100000
theorem bootSize : ∀ w : World, ((boot_heap w.params).isNs mainGlobals && (Array.mk [] : Array GenState).size == 0, (boot_heap w.params).objs.size, (boot_heap w.params).nsMap mainGlobals "__annotations__") = (true, 11, some (.ref 6)) := by intro w; kernel_rfl
theorem leftV : LeftO PySem.Challenge.pw_uf030031_09 qV [] (fun s => xlAt Mine.qV [] s && recOk (RowW.records (OpenRow.toRowW PySem.Challenge.rw_uf030031_09.row)) s) (Hook.obs (exHook exs)) (Hook.val (exHook exs)) 4000 :=
  left_of_tree (by kernel_rfl) (by decide) (fun s => by kernel_rfl) bootSize (by intro w os; kernel_rfl)
theorem saidV : OpenLaw.wellSaid PySem.Challenge.rw_uf030031_09 = true := by kernel_rfl
end Mine

open PySem PySem.W PyProof.Rows
set_option maxRecDepth 100000 in
set_option maxHeartbeats 8000000 in
theorem PySem.Challenge.cw_uf030031_09_holds : PySem.Challenge.rw_uf030031_09.Holds := by
  w_on
  refine holds_law Mine.saidV fun said => ?_
  refine holds_open (q := Mine.qV) (loose := []) (Xt := (fun s => xlAt Mine.qV [] s && recOk (RowW.records (OpenRow.toRowW PySem.Challenge.rw_uf030031_09.row)) s)) (XP := XL Mine.qV []) (Yf := Hook.obs (Mine.exHook Mine.exs)) (Ya := Hook.val (Mine.exHook Mine.exs)) (YP := Hook.says (Mine.exHook Mine.exs)) (N := 4000) Mine.leftV (Hook.of (Mine.exHook Mine.exs)) (Hook.keeps (Mine.exHook Mine.exs)) (fun s e => xl_of s (Bool.and_eq_true_iff.mp e).1) XL.keeps (by rfl) (by rfl) (by rfl) (fun s e => recFacts_of (Bool.and_eq_true_iff.mp e).2) (by rfl) (by first | assumption | decide +kernel) (by decide +kernel) ⟨rfl, rfl, rfl, rfl, rfl, by decide +kernel⟩ ?hw ?hc
  case hw => w_witness2
  intro w s₀ s₁ mg mb G Y fa o pm cd doc dV kV ho hd hcd hD hmg hg args vals as hpre hlay hrd hwl hlo
  refine Ground.open G ?_
  intro T B D TE TW
  wrow_args hpre hlay hrd hwl hlo
  rename_i xs _ _ _ _ _ _ _ _ _ _ _ _ wl _ _ _ hc _
  have hl : xs.length ≤ 63 := by omega
  obtain ⟨h, run⟩ := Mine.run_ok xs hl
  refine enter_call (Mine.law_ends T (cs := Mine.exs) (nm := Mine.nm) (F := Mine.F) (g := Mine.gm) (f := 78) (W := 10) (k := 30) (by kernel_rfl) Y TE hg (by kernel_rfl) hmg wl (by decide) hl run ?_ ?_)
  · intro _; rfl
  · wrow_post
