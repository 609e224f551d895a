import PyProof.Rows.All
import Wide.All
import OpenK.KOps
import OpenK.KCell
import OpenK.KWalk
import KE.LcSums
import Open.Line
import Wide.FinOn
import PySem.Challenge.RW_sx_r072_3o
set_option Elab.async false
set_option autoImplicit false
set_option linter.unusedVariables false
set_option linter.unusedSimpArgs false
set_option maxRecDepth 100000
set_option tactic.hygienic false
namespace Mine
section
theorem x0_2 {p0 p1 : Prop} {G : Prop} (h : p0 ∧ p1) (k : p0 → p1 → G) : G := k h.1 h.2
theorem x0_3 {p0 p1 p2 : Prop} {G : Prop} (h : p0 ∧ p1 ∧ p2) (k : p0 → p1 → p2 → G) : G := k h.1 h.2.1 h.2.2
theorem x0_4 {p0 p1 p2 p3 : Prop} {G : Prop} (h : p0 ∧ p1 ∧ p2 ∧ p3) (k : p0 → p1 → p2 → p3 → G) : G := k h.1 h.2.1 h.2.2.1 h.2.2.2
theorem x0_5 {p0 p1 p2 p3 p4 : Prop} {G : Prop} (h : p0 ∧ p1 ∧ p2 ∧ p3 ∧ p4) (k : p0 → p1 → p2 → p3 → p4 → G) : G := k h.1 h.2.1 h.2.2.1 h.2.2.2.1 h.2.2.2.2
theorem x0_6 {p0 p1 p2 p3 p4 p5 : Prop} {G : Prop} (h : p0 ∧ p1 ∧ p2 ∧ p3 ∧ p4 ∧ p5) (k : p0 → p1 → p2 → p3 → p4 → p5 → G) : G := k h.1 h.2.1 h.2.2.1 h.2.2.2.1 h.2.2.2.2.1 h.2.2.2.2.2
theorem x0_7 {p0 p1 p2 p3 p4 p5 p6 : Prop} {G : Prop} (h : p0 ∧ p1 ∧ p2 ∧ p3 ∧ p4 ∧ p5 ∧ p6) (k : p0 → p1 → p2 → p3 → p4 → p5 → p6 → G) : G := k h.1 h.2.1 h.2.2.1 h.2.2.2.1 h.2.2.2.2.1 h.2.2.2.2.2.1 h.2.2.2.2.2.2
theorem x1_1.{u0} {α0 : Sort u0} {p0 : α0 → Prop} {G : Prop} (h : ∃ a0, p0 a0) (k : ∀ a0, p0 a0 → G) : G := Exists.elim h fun a0 h => k a0 h
theorem x1_2.{u0} {α0 : Sort u0} {p0 p1 : α0 → Prop} {G : Prop} (h : ∃ a0, p0 a0 ∧ p1 a0) (k : ∀ a0, p0 a0 → p1 a0 → G) : G := Exists.elim h fun a0 h => k a0 h.1 h.2
theorem x1_3.{u0} {α0 : Sort u0} {p0 p1 p2 : α0 → Prop} {G : Prop} (h : ∃ a0, p0 a0 ∧ p1 a0 ∧ p2 a0) (k : ∀ a0, p0 a0 → p1 a0 → p2 a0 → G) : G := Exists.elim h fun a0 h => k a0 h.1 h.2.1 h.2.2
theorem x1_4.{u0} {α0 : Sort u0} {p0 p1 p2 p3 : α0 → Prop} {G : Prop} (h : ∃ a0, p0 a0 ∧ p1 a0 ∧ p2 a0 ∧ p3 a0) (k : ∀ a0, p0 a0 → p1 a0 → p2 a0 → p3 a0 → G) : G := Exists.elim h fun a0 h => k a0 h.1 h.2.1 h.2.2.1 h.2.2.2
theorem x2_1.{u0, u1} {α0 : Sort u0} {α1 : Sort u1} {p0 : α0 → α1 → Prop} {G : Prop} (h : ∃ a0 a1, p0 a0 a1) (k : ∀ a0 a1, p0 a0 a1 → G) : G := Exists.elim h fun a0 h => Exists.elim h fun a1 h => k a0 a1 h
theorem x2_2.{u0, u1} {α0 : Sort u0} {α1 : Sort u1} {p0 p1 : α0 → α1 → Prop} {G : Prop} (h : ∃ a0 a1, p0 a0 a1 ∧ p1 a0 a1) (k : ∀ a0 a1, p0 a0 a1 → p1 a0 a1 → G) : G := Exists.elim h fun a0 h => Exists.elim h fun a1 h => k a0 a1 h.1 h.2
theorem x2_3.{u0, u1} {α0 : Sort u0} {α1 : Sort u1} {p0 p1 p2 : α0 → α1 → Prop} {G : Prop} (h : ∃ a0 a1, p0 a0 a1 ∧ p1 a0 a1 ∧ p2 a0 a1) (k : ∀ a0 a1, p0 a0 a1 → p1 a0 a1 → p2 a0 a1 → G) : G := Exists.elim h fun a0 h => Exists.elim h fun a1 h => k a0 a1 h.1 h.2.1 h.2.2
theorem x2_4.{u0, u1} {α0 : Sort u0} {α1 : Sort u1} {p0 p1 p2 p3 : α0 → α1 → Prop} {G : Prop} (h : ∃ a0 a1, p0 a0 a1 ∧ p1 a0 a1 ∧ p2 a0 a1 ∧ p3 a0 a1) (k : ∀ a0 a1, p0 a0 a1 → p1 a0 a1 → p2 a0 a1 → p3 a0 a1 → G) : G := Exists.elim h fun a0 h => Exists.elim h fun a1 h => k a0 a1 h.1 h.2.1 h.2.2.1 h.2.2.2
theorem x2_5.{u0, u1} {α0 : Sort u0} {α1 : Sort u1} {p0 p1 p2 p3 p4 : α0 → α1 → Prop} {G : Prop} (h : ∃ a0 a1, p0 a0 a1 ∧ p1 a0 a1 ∧ p2 a0 a1 ∧ p3 a0 a1 ∧ p4 a0 a1) (k : ∀ a0 a1, p0 a0 a1 → p1 a0 a1 → p2 a0 a1 → p3 a0 a1 → p4 a0 a1 → G) : G := Exists.elim h fun a0 h => Exists.elim h fun a1 h => k a0 a1 h.1 h.2.1 h.2.2.1 h.2.2.2.1 h.2.2.2.2
theorem x2_6.{u0, u1} {α0 : Sort u0} {α1 : Sort u1} {p0 p1 p2 p3 p4 p5 : α0 → α1 → Prop} {G : Prop} (h : ∃ a0 a1, p0 a0 a1 ∧ p1 a0 a1 ∧ p2 a0 a1 ∧ p3 a0 a1 ∧ p4 a0 a1 ∧ p5 a0 a1) (k : ∀ a0 a1, p0 a0 a1 → p1 a0 a1 → p2 a0 a1 → p3 a0 a1 → p4 a0 a1 → p5 a0 a1 → G) : G := Exists.elim h fun a0 h => Exists.elim h fun a1 h => k a0 a1 h.1 h.2.1 h.2.2.1 h.2.2.2.1 h.2.2.2.2.1 h.2.2.2.2.2
theorem x2_7.{u0, u1} {α0 : Sort u0} {α1 : Sort u1} {p0 p1 p2 p3 p4 p5 p6 : α0 → α1 → Prop} {G : Prop} (h : ∃ a0 a1, p0 a0 a1 ∧ p1 a0 a1 ∧ p2 a0 a1 ∧ p3 a0 a1 ∧ p4 a0 a1 ∧ p5 a0 a1 ∧ p6 a0 a1) (k : ∀ a0 a1, p0 a0 a1 → p1 a0 a1 → p2 a0 a1 → p3 a0 a1 → p4 a0 a1 → p5 a0 a1 → p6 a0 a1 → G) : G := Exists.elim h fun a0 h => Exists.elim h fun a1 h => k a0 a1 h.1 h.2.1 h.2.2.1 h.2.2.2.1 h.2.2.2.2.1 h.2.2.2.2.2.1 h.2.2.2.2.2.2
theorem x2_9.{u0, u1} {α0 : Sort u0} {α1 : Sort u1} {p0 p1 p2 p3 p4 p5 p6 p7 p8 : α0 → α1 → Prop} {G : Prop} (h : ∃ a0 a1, p0 a0 a1 ∧ p1 a0 a1 ∧ p2 a0 a1 ∧ p3 a0 a1 ∧ p4 a0 a1 ∧ p5 a0 a1 ∧ p6 a0 a1 ∧ p7 a0 a1 ∧ p8 a0 a1) (k : ∀ a0 a1, p0 a0 a1 → p1 a0 a1 → p2 a0 a1 → p3 a0 a1 → p4 a0 a1 → p5 a0 a1 → p6 a0 a1 → p7 a0 a1 → p8 a0 a1 → G) : G := Exists.elim h fun a0 h => Exists.elim h fun a1 h => k a0 a1 h.1 h.2.1 h.2.2.1 h.2.2.2.1 h.2.2.2.2.1 h.2.2.2.2.2.1 h.2.2.2.2.2.2.1 h.2.2.2.2.2.2.2.1 h.2.2.2.2.2.2.2.2
theorem x3_1.{u0, u1, u2} {α0 : Sort u0} {α1 : Sort u1} {α2 : Sort u2} {p0 : α0 → α1 → α2 → Prop} {G : Prop} (h : ∃ a0 a1 a2, p0 a0 a1 a2) (k : ∀ a0 a1 a2, p0 a0 a1 a2 → G) : G := Exists.elim h fun a0 h => Exists.elim h fun a1 h => Exists.elim h fun a2 h => k a0 a1 a2 h
theorem x3_2.{u0, u1, u2} {α0 : Sort u0} {α1 : Sort u1} {α2 : Sort u2} {p0 p1 : α0 → α1 → α2 → Prop} {G : Prop} (h : ∃ a0 a1 a2, p0 a0 a1 a2 ∧ p1 a0 a1 a2) (k : ∀ a0 a1 a2, p0 a0 a1 a2 → p1 a0 a1 a2 → G) : G := Exists.elim h fun a0 h => Exists.elim h fun a1 h => Exists.elim h fun a2 h => k a0 a1 a2 h.1 h.2
theorem x3_3.{u0, u1, u2} {α0 : Sort u0} {α1 : Sort u1} {α2 : Sort u2} {p0 p1 p2 : α0 → α1 → α2 → Prop} {G : Prop} (h : ∃ a0 a1 a2, p0 a0 a1 a2 ∧ p1 a0 a1 a2 ∧ p2 a0 a1 a2) (k : ∀ a0 a1 a2, p0 a0 a1 a2 → p1 a0 a1 a2 → p2 a0 a1 a2 → G) : G := Exists.elim h fun a0 h => Exists.elim h fun a1 h => Exists.elim h fun a2 h => k a0 a1 a2 h.1 h.2.1 h.2.2
theorem x3_4.{u0, u1, u2} {α0 : Sort u0} {α1 : Sort u1} {α2 : Sort u2} {p0 p1 p2 p3 : α0 → α1 → α2 → Prop} {G : Prop} (h : ∃ a0 a1 a2, p0 a0 a1 a2 ∧ p1 a0 a1 a2 ∧ p2 a0 a1 a2 ∧ p3 a0 a1 a2) (k : ∀ a0 a1 a2, p0 a0 a1 a2 → p1 a0 a1 a2 → p2 a0 a1 a2 → p3 a0 a1 a2 → G) : G := Exists.elim h fun a0 h => Exists.elim h fun a1 h => Exists.elim h fun a2 h => k a0 a1 a2 h.1 h.2.1 h.2.2.1 h.2.2.2
theorem x3_5.{u0, u1, u2} {α0 : Sort u0} {α1 : Sort u1} {α2 : Sort u2} {p0 p1 p2 p3 p4 : α0 → α1 → α2 → Prop} {G : Prop} (h : ∃ a0 a1 a2, p0 a0 a1 a2 ∧ p1 a0 a1 a2 ∧ p2 a0 a1 a2 ∧ p3 a0 a1 a2 ∧ p4 a0 a1 a2) (k : ∀ a0 a1 a2, p0 a0 a1 a2 → p1 a0 a1 a2 → p2 a0 a1 a2 → p3 a0 a1 a2 → p4 a0 a1 a2 → G) : G := Exists.elim h fun a0 h => Exists.elim h fun a1 h => Exists.elim h fun a2 h => k a0 a1 a2 h.1 h.2.1 h.2.2.1 h.2.2.2.1 h.2.2.2.2
theorem x3_6.{u0, u1, u2} {α0 : Sort u0} {α1 : Sort u1} {α2 : Sort u2} {p0 p1 p2 p3 p4 p5 : α0 → α1 → α2 → Prop} {G : Prop} (h : ∃ a0 a1 a2, p0 a0 a1 a2 ∧ p1 a0 a1 a2 ∧ p2 a0 a1 a2 ∧ p3 a0 a1 a2 ∧ p4 a0 a1 a2 ∧ p5 a0 a1 a2) (k : ∀ a0 a1 a2, p0 a0 a1 a2 → p1 a0 a1 a2 → p2 a0 a1 a2 → p3 a0 a1 a2 → p4 a0 a1 a2 → p5 a0 a1 a2 → G) : G := Exists.elim h fun a0 h => Exists.elim h fun a1 h => Exists.elim h fun a2 h => k a0 a1 a2 h.1 h.2.1 h.2.2.1 h.2.2.2.1 h.2.2.2.2.1 h.2.2.2.2.2
theorem x4_1.{u0, u1, u2, u3} {α0 : Sort u0} {α1 : Sort u1} {α2 : Sort u2} {α3 : Sort u3} {p0 : α0 → α1 → α2 → α3 → Prop} {G : Prop} (h : ∃ a0 a1 a2 a3, p0 a0 a1 a2 a3) (k : ∀ a0 a1 a2 a3, p0 a0 a1 a2 a3 → G) : G := Exists.elim h fun a0 h => Exists.elim h fun a1 h => Exists.elim h fun a2 h => Exists.elim h fun a3 h => k a0 a1 a2 a3 h
theorem x4_2.{u0, u1, u2, u3} {α0 : Sort u0} {α1 : Sort u1} {α2 : Sort u2} {α3 : Sort u3} {p0 p1 : α0 → α1 → α2 → α3 → Prop} {G : Prop} (h : ∃ a0 a1 a2 a3, p0 a0 a1 a2 a3 ∧ p1 a0 a1 a2 a3) (k : ∀ a0 a1 a2 a3, p0 a0 a1 a2 a3 → p1 a0 a1 a2 a3 → G) : G := Exists.elim h fun a0 h => Exists.elim h fun a1 h => Exists.elim h fun a2 h => Exists.elim h fun a3 h => k a0 a1 a2 a3 h.1 h.2
theorem x4_5.{u0, u1, u2, u3} {α0 : Sort u0} {α1 : Sort u1} {α2 : Sort u2} {α3 : Sort u3} {p0 p1 p2 p3 p4 : α0 → α1 → α2 → α3 → Prop} {G : Prop} (h : ∃ a0 a1 a2 a3, p0 a0 a1 a2 a3 ∧ p1 a0 a1 a2 a3 ∧ p2 a0 a1 a2 a3 ∧ p3 a0 a1 a2 a3 ∧ p4 a0 a1 a2 a3) (k : ∀ a0 a1 a2 a3, p0 a0 a1 a2 a3 → p1 a0 a1 a2 a3 → p2 a0 a1 a2 a3 → p3 a0 a1 a2 a3 → p4 a0 a1 a2 a3 → G) : G := Exists.elim h fun a0 h => Exists.elim h fun a1 h => Exists.elim h fun a2 h => Exists.elim h fun a3 h => k a0 a1 a2 a3 h.1 h.2.1 h.2.2.1 h.2.2.2.1 h.2.2.2.2
theorem x4_6.{u0, u1, u2, u3} {α0 : Sort u0} {α1 : Sort u1} {α2 : Sort u2} {α3 : Sort u3} {p0 p1 p2 p3 p4 p5 : α0 → α1 → α2 → α3 → Prop} {G : Prop} (h : ∃ a0 a1 a2 a3, p0 a0 a1 a2 a3 ∧ p1 a0 a1 a2 a3 ∧ p2 a0 a1 a2 a3 ∧ p3 a0 a1 a2 a3 ∧ p4 a0 a1 a2 a3 ∧ p5 a0 a1 a2 a3) (k : ∀ a0 a1 a2 a3, p0 a0 a1 a2 a3 → p1 a0 a1 a2 a3 → p2 a0 a1 a2 a3 → p3 a0 a1 a2 a3 → p4 a0 a1 a2 a3 → p5 a0 a1 a2 a3 → G) : G := Exists.elim h fun a0 h => Exists.elim h fun a1 h => Exists.elim h fun a2 h => Exists.elim h fun a3 h => k a0 a1 a2 a3 h.1 h.2.1 h.2.2.1 h.2.2.2.1 h.2.2.2.2.1 h.2.2.2.2.2
theorem x4_8.{u0, u1, u2, u3} {α0 : Sort u0} {α1 : Sort u1} {α2 : Sort u2} {α3 : Sort u3} {p0 p1 p2 p3 p4 p5 p6 p7 : α0 → α1 → α2 → α3 → Prop} {G : Prop} (h : ∃ a0 a1 a2 a3, p0 a0 a1 a2 a3 ∧ p1 a0 a1 a2 a3 ∧ p2 a0 a1 a2 a3 ∧ p3 a0 a1 a2 a3 ∧ p4 a0 a1 a2 a3 ∧ p5 a0 a1 a2 a3 ∧ p6 a0 a1 a2 a3 ∧ p7 a0 a1 a2 a3) (k : ∀ a0 a1 a2 a3, p0 a0 a1 a2 a3 → p1 a0 a1 a2 a3 → p2 a0 a1 a2 a3 → p3 a0 a1 a2 a3 → p4 a0 a1 a2 a3 → p5 a0 a1 a2 a3 → p6 a0 a1 a2 a3 → p7 a0 a1 a2 a3 → G) : G := Exists.elim h fun a0 h => Exists.elim h fun a1 h => Exists.elim h fun a2 h => Exists.elim h fun a3 h => k a0 a1 a2 a3 h.1 h.2.1 h.2.2.1 h.2.2.2.1 h.2.2.2.2.1 h.2.2.2.2.2.1 h.2.2.2.2.2.2.1 h.2.2.2.2.2.2.2
theorem x5_1.{u0, u1, u2, u3, u4} {α0 : Sort u0} {α1 : Sort u1} {α2 : Sort u2} {α3 : Sort u3} {α4 : Sort u4} {p0 : α0 → α1 → α2 → α3 → α4 → Prop} {G : Prop} (h : ∃ a0 a1 a2 a3 a4, p0 a0 a1 a2 a3 a4) (k : ∀ a0 a1 a2 a3 a4, p0 a0 a1 a2 a3 a4 → G) : G := Exists.elim h fun a0 h => Exists.elim h fun a1 h => Exists.elim h fun a2 h => Exists.elim h fun a3 h => Exists.elim h fun a4 h => k a0 a1 a2 a3 a4 h
theorem x5_2.{u0, u1, u2, u3, u4} {α0 : Sort u0} {α1 : Sort u1} {α2 : Sort u2} {α3 : Sort u3} {α4 : Sort u4} {p0 p1 : α0 → α1 → α2 → α3 → α4 → Prop} {G : Prop} (h : ∃ a0 a1 a2 a3 a4, p0 a0 a1 a2 a3 a4 ∧ p1 a0 a1 a2 a3 a4) (k : ∀ a0 a1 a2 a3 a4, p0 a0 a1 a2 a3 a4 → p1 a0 a1 a2 a3 a4 → G) : G := Exists.elim h fun a0 h => Exists.elim h fun a1 h => Exists.elim h fun a2 h => Exists.elim h fun a3 h => Exists.elim h fun a4 h => k a0 a1 a2 a3 a4 h.1 h.2
theorem x5_4.{u0, u1, u2, u3, u4} {α0 : Sort u0} {α1 : Sort u1} {α2 : Sort u2} {α3 : Sort u3} {α4 : Sort u4} {p0 p1 p2 p3 : α0 → α1 → α2 → α3 → α4 → Prop} {G : Prop} (h : ∃ a0 a1 a2 a3 a4, p0 a0 a1 a2 a3 a4 ∧ p1 a0 a1 a2 a3 a4 ∧ p2 a0 a1 a2 a3 a4 ∧ p3 a0 a1 a2 a3 a4) (k : ∀ a0 a1 a2 a3 a4, p0 a0 a1 a2 a3 a4 → p1 a0 a1 a2 a3 a4 → p2 a0 a1 a2 a3 a4 → p3 a0 a1 a2 a3 a4 → G) : G := Exists.elim h fun a0 h => Exists.elim h fun a1 h => Exists.elim h fun a2 h => Exists.elim h fun a3 h => Exists.elim h fun a4 h => k a0 a1 a2 a3 a4 h.1 h.2.1 h.2.2.1 h.2.2.2
theorem x6_6.{u0, u1, u2, u3, u4, u5} {α0 : Sort u0} {α1 : Sort u1} {α2 : Sort u2} {α3 : Sort u3} {α4 : Sort u4} {α5 : Sort u5} {p0 p1 p2 p3 p4 p5 : α0 → α1 → α2 → α3 → α4 → α5 → Prop} {G : Prop} (h : ∃ a0 a1 a2 a3 a4 a5, p0 a0 a1 a2 a3 a4 a5 ∧ p1 a0 a1 a2 a3 a4 a5 ∧ p2 a0 a1 a2 a3 a4 a5 ∧ p3 a0 a1 a2 a3 a4 a5 ∧ p4 a0 a1 a2 a3 a4 a5 ∧ p5 a0 a1 a2 a3 a4 a5) (k : ∀ a0 a1 a2 a3 a4 a5, p0 a0 a1 a2 a3 a4 a5 → p1 a0 a1 a2 a3 a4 a5 → p2 a0 a1 a2 a3 a4 a5 → p3 a0 a1 a2 a3 a4 a5 → p4 a0 a1 a2 a3 a4 a5 → p5 a0 a1 a2 a3 a4 a5 → G) : G := Exists.elim h fun a0 h => Exists.elim h fun a1 h => Exists.elim h fun a2 h => Exists.elim h fun a3 h => Exists.elim h fun a4 h => Exists.elim h fun a5 h => k a0 a1 a2 a3 a4 a5 h.1 h.2.1 h.2.2.1 h.2.2.2.1 h.2.2.2.2.1 h.2.2.2.2.2
theorem x7_3.{u0, u1, u2, u3, u4, u5, u6} {α0 : Sort u0} {α1 : Sort u1} {α2 : Sort u2} {α3 : Sort u3} {α4 : Sort u4} {α5 : Sort u5} {α6 : Sort u6} {p0 p1 p2 : α0 → α1 → α2 → α3 → α4 → α5 → α6 → Prop} {G : Prop} (h : ∃ a0 a1 a2 a3 a4 a5 a6, p0 a0 a1 a2 a3 a4 a5 a6 ∧ p1 a0 a1 a2 a3 a4 a5 a6 ∧ p2 a0 a1 a2 a3 a4 a5 a6) (k : ∀ a0 a1 a2 a3 a4 a5 a6, p0 a0 a1 a2 a3 a4 a5 a6 → p1 a0 a1 a2 a3 a4 a5 a6 → p2 a0 a1 a2 a3 a4 a5 a6 → G) : G := Exists.elim h fun a0 h => Exists.elim h fun a1 h => Exists.elim h fun a2 h => Exists.elim h fun a3 h => Exists.elim h fun a4 h => Exists.elim h fun a5 h => Exists.elim h fun a6 h => k a0 a1 a2 a3 a4 a5 a6 h.1 h.2.1 h.2.2
theorem ite_yes {c : Prop} {inst : Decidable c} {a b : Prop} (h : c) (x : a) : @ite Prop c inst a b := by rw [if_pos h]; exact x
theorem ite_no {c : Prop} {inst : Decidable c} {a b : Prop} (h : ¬ c) (x : b) : @ite Prop c inst a b := by rw [if_neg h]; exact x
end
local macro_rules | `(tactic| omega) => `(tactic| first | with_reducible assumption | with_reducible exact Int.natCast_nonneg _ | with_reducible exact Nat.zero_le _ | lia)
local macro_rules
  | `(tactic| obtain $pat:rcasesPatMed := $h:term) => do
    let alts := pat.raw[0].getSepArgs
    let one := alts.size == 1 && alts[0]!.isOfKind ``Lean.Parser.Tactic.rcasesPat.tuple
    let ps := if one then alts[0]![1].getSepArgs else #[]
    let pats : Array (Lean.TSyntax `rintroPat) := ps.map fun p => ⟨Lean.mkNode ``Lean.Parser.Tactic.rintroPat.one #[Lean.mkNode ``Lean.Parser.Tactic.rcasesPat.paren #[Lean.mkAtom "(", p, Lean.mkAtom ")"]]⟩
    let mut t ← `(tactic| rcases $h:term with $pat:rcasesPatMed)
    if 2 ≤ ps.size then
      for b in [1:ps.size + 1] do
        let f := Lean.mkIdent (Lean.Name.mkStr2 "Mine" s!"x{ps.size - b}_{b}")
        if h.raw.isIdent then
          let i : Lean.Ident := ⟨h.raw⟩
          t ← `(tactic| first | (refine $f $i ?_; (try clear $i); rintro $pats*) | $t:tactic)
        else t ← `(tactic| first | (refine $f $h ?_; rintro $pats*) | $t:tactic)
    return t
section
set_option genSizeOf false
set_option genInjectivity false
open PySem

abbrev D := PyData

inductive Slot where
  | undef
  | sh (d : D)
  | own1 (ds : List D)
  | own2 (dss : List (List D))
  | lent (ds : List D)

abbrev St := List Slot

inductive Bop where
  | add | sub | mul | mod
  deriving DecidableEq
inductive Cop where
  | eq | ne | lt | le | gt | ge | isin | notin
  deriving DecidableEq
inductive Ty where
  | int | bool | tuple
  deriving DecidableEq
inductive Tgt where
  | one (i : Nat)
  | many (is : List Nat)

mutual
inductive ME where
  | var (i : Nat)
  | none
  | bool (b : Bool)
  | int (i : Int)
  | str (s : Str)
  | tup (es : MEs)
  | lst (es : MEs)
  | sub (a i : ME)
  | subv (x : Nat) (i : ME)
  | sliceTo (a hi : ME)
  | sliceFrom (a lo : ME)
  | sliceBoth (a lo hi : ME)
  | rev (a : ME)
  | bin (op : Bop) (a b : ME)
  | cmp (op : Cop) (a b : ME)
  | isNone (a : ME) (neg : Bool)
  | typeIs (a : ME) (t : Ty)
  | ite (c a b : ME)
  | not (a : ME)
  | and (a b : ME)
  | or (a b : ME)
  | len (a : ME)
  | lenv (x : Nat)
  | min (a b : ME)
  | max (a b : ME)
  | sum (a : ME)
  | sortedI (a : ME)
  | sortedP (a : ME)
  | listOf (a : ME)
  | listRange (a : ME)
  | setLen (a : ME)
  | all (a : ME)
  | count (a b : ME)
  | call (f : Nat) (es : MEs)
  | comp (elt : ME) (tg : Tgt) (it : It) (cond : ME) (fv : List Nat)
  | comp2 (elt : ME) (t1 : Nat) (i1 : It) (t2 : Nat) (i2 : It) (fv : List Nat)
inductive MEs where
  | nil
  | cons (e : ME) (es : MEs)
inductive It where
  | range (lo hi : ME)
  | range0 (hi : ME)
  | ofE (e : ME)
  | ofV (x : Nat)
end

inductive MF where
  | next
  | cont
  | ret (d : D)

noncomputable def okD (d : D) : Bool := d.canLay0 && decide (d.depth ≤ 64)

noncomputable def nthD : List D → Nat → (D → Prop) → Prop
  | [], _, _ => False
  | d :: ds, n, Q => match n with
    | 0 => Q d
    | n + 1 => nthD ds n Q
noncomputable def itemD (x y : D) (Q : D → Prop) : Prop := match x with
  | .list ds => (match y with
    | .int k => 0 ≤ k ∧ ∃ h : k.toNat < ds.length, Q ds[k.toNat]
    | _ => False)
  | .tuple ds => (match y with
    | .int k => (match k with
      | .ofNat n => nthD ds n Q
      | .negSucc _ => False)
    | _ => False)
  | _ => False

noncomputable def int2 (f : Int → Int → Prop) (x y : D) : Prop := match x with
  | .int a => (match y with
    | .int b => f a b
    | _ => False)
  | _ => False
noncomputable def addD (x y : D) (Q : D → Prop) : Prop := match x with
  | .int a => (match y with
    | .int b => Q (.int (a + b))
    | _ => False)
  | .list a => (match y with
    | .list b => a.length + b.length ≤ 1000000 ∧ Q (.list (a ++ b))
    | _ => False)
  | _ => False
noncomputable def repL (a : List D) (n : Int) (Q : D → Prop) : Prop := match a with
  | [x] => n.natAbs ≤ 1000000 ∧ Q (.list (List.replicate n.toNat x))
  | _ => False
noncomputable def mulD (x y : D) (Q : D → Prop) : Prop := match x with
  | .int a => (match y with
    | .int b => 0 ≤ a ∧ a ≤ 1000 ∧ 0 ≤ b ∧ b ≤ 1000 ∧ Q (.int (a * b))
    | _ => False)
  | .list a => (match y with
    | .int n => repL a n Q
    | _ => False)
  | _ => False
noncomputable def binD (op : Bop) (x y : D) (Q : D → Prop) : Prop := match op with
  | .add => addD x y Q
  | .sub => int2 (fun a b => Q (.int (a - b))) x y
  | .mul => mulD x y Q
  | .mod => int2 (fun a b => 0 < b ∧ Q (.int (a % b))) x y

noncomputable def ltP (x y : List D) (Q : Bool → Prop) : Prop := match x with
  | [.int a, .int b] => (match y with
    | [.int c, .int d] => Q (decide (a < c ∨ (a = c ∧ b < d)))
    | _ => False)
  | _ => False
noncomputable def ltD (x y : D) (Q : Bool → Prop) : Prop := match x with
  | .int a => (match y with
    | .int b => Q (decide (a < b))
    | _ => False)
  | .tuple a => (match y with
    | .tuple b => ltP a b Q
    | _ => False)
  | _ => False
noncomputable def inD (x y : D) (Q : Bool → Prop) : Prop := match x with
  | .int k => (match y with
    | .list ds => ∃ ns : List Int, ds = ns.map .int ∧ Q (decide (k ∈ ns))
    | .tuple ds => ∃ ns : List Int, ds = ns.map .int ∧ Q (decide (k ∈ ns))
    | _ => False)
  | _ => False
noncomputable def eqG (x y : D) (Q : Bool → Prop) : Prop := okD x = true ∧ okD y = true ∧ Q (PyData.eqv x y)
noncomputable def eqD (x y : D) (Q : Bool → Prop) : Prop := match x with
  | .int a => (match y with
    | .int b => Q (decide (a = b))
    | _ => eqG x y Q)
  | _ => eqG x y Q
noncomputable def cmpD (op : Cop) (x y : D) (Q : Bool → Prop) : Prop := match op with
  | .eq => eqD x y Q
  | .ne => eqD x y fun r => Q (!r)
  | .lt => ltD x y Q
  | .le => int2 (fun a b => Q (decide (a ≤ b))) x y
  | .gt => int2 (fun a b => Q (decide (a > b))) x y
  | .ge => int2 (fun a b => Q (decide (a ≥ b))) x y
  | .isin => inD x y Q
  | .notin => inD x y fun r => Q (!r)

noncomputable def tyIs : D → Ty → Bool
  | .int _, .int => true
  | .bool _, .bool => true
  | .tuple _, .tuple => true
  | _, _ => false

noncomputable def isNoneD : D → Bool
  | .none => true
  | _ => false

noncomputable def truthD : D → (Bool → Prop) → Prop
  | .bool b, Q => Q b
  | _, _ => False

noncomputable def lenD : D → (D → Prop) → Prop
  | .list ds, Q => Q (.int ds.length)
  | .tuple ds, Q => Q (.int ds.length)
  | _, _ => False

noncomputable def minD : D → D → (D → Prop) → Prop
  | .int a, .int b, Q => Q (.int (min a b))
  | _, _, _ => False
noncomputable def maxD : D → D → (D → Prop) → Prop
  | .int a, .int b, Q => Q (.int (max a b))
  | _, _, _ => False

noncomputable def encP (p : Int × Int) : D := .tuple [.int p.1, .int p.2]

noncomputable def sumD : D → (D → Prop) → Prop
  | .list ds, Q => ∃ ns : List Int, ds = ns.map .int ∧ Q (.int ns.sum)
  | _, _ => False
noncomputable def sortedID : D → (D → Prop) → Prop
  | .list ds, Q => ∃ ns : List Int, ds = ns.map .int ∧ ns.length < 64 ∧ ∀ ms : List Int, ms.Perm ns → ms.Pairwise (· ≤ ·) → Q (.list (ms.map .int))
  | _, _ => False
noncomputable def lexLe (p q : Int × Int) : Prop := p.1 < q.1 ∨ (p.1 = q.1 ∧ p.2 ≤ q.2)
noncomputable def sortedPD : D → (D → Prop) → Prop
  | .list ds, Q => ∃ ps : List (Int × Int), ds = ps.map encP ∧ ps.length < 64 ∧ ∀ qs : List (Int × Int), qs.Perm ps → qs.Pairwise lexLe → Q (.list (qs.map encP))
  | _, _ => False
noncomputable def listOfD : D → (D → Prop) → Prop
  | .list ds, Q => ds.length ≤ 1000000 ∧ Q (.list ds)
  | _, _ => False
noncomputable def rangeL (lo hi : Int) : List D := (List.range (hi - lo).toNat).map fun i => PyData.int (lo + (i : Nat))
noncomputable def listRangeD : D → (D → Prop) → Prop
  | .int k, Q => k.natAbs ≤ 1000000 ∧ Q (.list (rangeL 0 k))
  | _, _ => False
noncomputable def setLenD : D → (D → Prop) → Prop
  | .list ds, Q => ∃ ns : List Int, ds = ns.map .int ∧ ns.length ≤ 1000 ∧ Q (.int ns.eraseDups.length)
  | _, _ => False
noncomputable def allD : D → (D → Prop) → Prop
  | .list ds, Q => ∃ bs : List Bool, ds = bs.map .bool ∧ Q (.bool (bs.all id))
  | _, _ => False
noncomputable def countD : D → D → (D → Prop) → Prop
  | .list ds, .int k, Q => ∃ ns : List Int, ds = ns.map .int ∧ Q (.int (ns.count k))
  | _, _, _ => False
noncomputable def listD : D → (List D → Prop) → Prop
  | .list ds, Q => Q ds
  | _, _ => False
noncomputable def sliceToD : D → D → (D → Prop) → Prop
  | .list ds, .int k, Q => 0 ≤ k ∧ k ≤ 1000000 ∧ ds.length ≤ 1000000 ∧ Q (.list (ds.take k.toNat))
  | _, _, _ => False
noncomputable def sliceFromD : D → D → (D → Prop) → Prop
  | .list ds, .int k, Q => 0 ≤ k ∧ k ≤ 1000000 ∧ ds.length ≤ 1000000 ∧ Q (.list (ds.drop k.toNat))
  | _, _, _ => False
noncomputable def sliceBothD : D → D → D → (D → Prop) → Prop
  | .list ds, .int k, .int j, Q => 0 ≤ k ∧ k ≤ 1000000 ∧ 0 ≤ j ∧ j ≤ 1000000 ∧ ds.length ≤ 1000000 ∧ Q (.list ((ds.take j.toNat).drop k.toNat))
  | _, _, _, _ => False
noncomputable def revD : D → (D → Prop) → Prop
  | .list ds, Q => ds.length ≤ 1000000 ∧ Q (.list ds.reverse)
  | _, _ => False

noncomputable def shAt : Option Slot → (D → Prop) → Prop
  | some (.sh d), Q => Q d
  | _, _ => False
/-- a list that the frame owns -/
noncomputable def ownAt : Option Slot → (List D → Prop) → Prop
  | some (.own1 ds), Q => Q ds
  | some (.lent ds), Q => Q ds
  | _, _ => False

noncomputable def setMany : St → List Nat → List D → St
  | st, i :: is, d :: ds => setMany (st.set i (.sh d)) is ds
  | st, _, _ => st
noncomputable def tupD : D → (List D → Prop) → Prop
  | .tuple ds, Q => Q ds
  | _, _ => False
noncomputable def assignT : Tgt → St → D → (St → Prop) → Prop
  | .one i, st, d, Q => Q (st.set i (.sh d))
  | .many is, st, d, Q => tupD d fun ds => ds.length = is.length ∧ Q (setMany st is ds)
noncomputable def itemsD : D → (List D → Prop) → Prop
  | .list ds, Q => ds.length ≤ 1000000 ∧ Q ds
  | .tuple ds, Q => ds.length ≤ 1000000 ∧ Q ds
  | _, _ => False
noncomputable def rangeD : D → D → (List D → Prop) → Prop
  | .int a, .int b, Q => 0 ≤ a ∧ a ≤ 1000000 ∧ b.natAbs ≤ 1000000 ∧ Q (rangeL a b)
  | _, _, _ => False

noncomputable def compGo (step : D → (Option D → Prop) → Prop) : List D → (List D → Prop) → Prop
  | [], Q => Q []
  | d :: ds, Q => step d fun r => compGo step ds fun rs => Q (r.toList ++ rs)
noncomputable def compGo2 (step : D → (List D → Prop) → Prop) : List D → (List D → Prop) → Prop
  | [], Q => Q []
  | d :: ds, Q => step d fun r => compGo2 step ds fun rs => Q (r ++ rs)

abbrev Funs := Nat → List D → (D → Prop) → Prop
abbrev Lends := Nat → List D → List D → (List D → D → Prop) → Prop

/-- what an expression gives, as a value and as a test -/
abbrev W2 := ((D → Prop) → Prop) × ((Bool → Prop) → Prop)
noncomputable def tE (E : (D → Prop) → Prop) : W2 := (E, fun R => E fun d => truthD d R)
section
variable (Φ : Funs)
mutual
noncomputable def wp2 : ME → St → W2
  | .var i, st => tE fun Q => shAt st[i]? Q
  | .none, _ => tE fun Q => Q .none
  | .bool b, _ => tE fun Q => Q (.bool b)
  | .int i, _ => tE fun Q => Q (.int i)
  | .str s, _ => tE fun Q => Q (.str s)
  | .tup es, st => tE fun Q => wpEs es st fun ds => Q (.tuple ds)
  | .lst es, st => tE fun Q => wpEs es st fun ds => Q (.list ds)
  | .sub a i, st => tE fun Q => (wp2 a st).1 fun d => (wp2 i st).1 fun k => itemD d k Q
  | .subv x i, st => tE fun Q => ownAt st[x]? fun ds => (wp2 i st).1 fun k => itemD (.list ds) k Q
  | .sliceTo a hi, st => tE fun Q => (wp2 a st).1 fun d => (wp2 hi st).1 fun h => sliceToD d h Q
  | .sliceFrom a lo, st => tE fun Q => (wp2 a st).1 fun d => (wp2 lo st).1 fun l => sliceFromD d l Q
  | .sliceBoth a lo hi, st => tE fun Q => (wp2 a st).1 fun d => (wp2 lo st).1 fun l => (wp2 hi st).1 fun h => sliceBothD d l h Q
  | .rev a, st => tE fun Q => (wp2 a st).1 fun d => revD d Q
  | .bin op a b, st => tE fun Q => (wp2 a st).1 fun x => (wp2 b st).1 fun y => binD op x y Q
  | .cmp op a b, st => tE fun Q => (wp2 a st).1 fun x => (wp2 b st).1 fun y => cmpD op x y fun r => Q (.bool r)
  | .isNone a neg, st => tE fun Q => (wp2 a st).1 fun x => Q (.bool (isNoneD x != neg))
  | .typeIs a t, st => tE fun Q => (wp2 a st).1 fun x => Q (.bool (tyIs x t))
  | .ite c a b, st => tE fun Q => (wp2 c st).2 fun r => if r = true then (wp2 a st).1 Q else (wp2 b st).1 Q
  | .not a, st => (fun _ => False, fun Q => (wp2 a st).2 fun r => Q (!r))
  | .and a b, st => (fun _ => False, fun Q => (wp2 a st).2 fun r => if r = true then (wp2 b st).2 Q else Q false)
  | .or a b, st => (fun _ => False, fun Q => (wp2 a st).2 fun r => if r = true then Q true else (wp2 b st).2 Q)
  | .len a, st => tE fun Q => (wp2 a st).1 fun d => lenD d Q
  | .lenv x, st => tE fun Q => ownAt st[x]? fun ds => Q (.int ds.length)
  | .min a b, st => tE fun Q => (wp2 a st).1 fun x => (wp2 b st).1 fun y => minD x y Q
  | .max a b, st => tE fun Q => (wp2 a st).1 fun x => (wp2 b st).1 fun y => maxD x y Q
  | .sum a, st => tE fun Q => (wp2 a st).1 fun d => sumD d Q
  | .sortedI a, st => tE fun Q => (wp2 a st).1 fun d => sortedID d Q
  | .sortedP a, st => tE fun Q => (wp2 a st).1 fun d => sortedPD d Q
  | .listOf a, st => tE fun Q => (wp2 a st).1 fun d => listOfD d Q
  | .listRange a, st => tE fun Q => (wp2 a st).1 fun d => listRangeD d Q
  | .setLen a, st => tE fun Q => (wp2 a st).1 fun d => setLenD d Q
  | .all a, st => tE fun Q => (wp2 a st).1 fun d => allD d Q
  | .count a b, st => tE fun Q => (wp2 a st).1 fun x => listD x fun ds => (wp2 b st).1 fun y => countD (.list ds) y Q
  | .call f es, st => tE fun Q => wpEs es st fun ds => Φ f ds Q
  | .comp elt tg it cond _, st => tE fun Q => wpIt it st fun items =>
      compGo (fun d K => assignT tg st d fun st' => (wp2 cond st').2 fun r => if r = true then (wp2 elt st').1 fun v => K (some v) else K none) items fun rs => Q (.list rs)
  | .comp2 elt t1 i1 t2 i2 _, st => tE fun Q => wpIt i1 st fun items => items.length ≤ 1000 ∧
      compGo2 (fun d K => wpIt i2 (st.set t1 (.sh d)) fun items2 => items2.length ≤ 1000 ∧
        compGo (fun d2 K2 => (wp2 elt ((st.set t1 (.sh d)).set t2 (.sh d2))).1 fun v => K2 (some v)) items2 K) items fun rs => Q (.list rs)
noncomputable def wpEs : MEs → St → (List D → Prop) → Prop
  | .nil, _, Q => Q []
  | .cons e es, st, Q => (wp2 e st).1 fun d => wpEs es st fun ds => Q (d :: ds)
noncomputable def wpIt : It → St → (List D → Prop) → Prop
  | .range lo hi, st, Q => (wp2 lo st).1 fun a => (wp2 hi st).1 fun b => rangeD a b Q
  | .range0 hi, st, Q => (wp2 hi st).1 fun b => rangeD (.int 0) b Q
  | .ofE e, st, Q => (wp2 e st).1 fun d => itemsD d Q
  | .ofV x, st, Q => ownAt st[x]? fun ds => ds.length ≤ 1000000 ∧ Q ds
end
noncomputable def wpE (e : ME) (st : St) (Q : D → Prop) : Prop := (wp2 Φ e st).1 Q
noncomputable def wpT (e : ME) (st : St) (Q : Bool → Prop) : Prop := (wp2 Φ e st).2 Q
end

inductive MS where
  | assign (i : Nat) (e : ME)
  | new1 (i : Nat) (e : ME)
  | new2 (i : Nat) (e : ME)
  | freeze (i : Nat)
  | unpack (is : List Nat) (e : ME)
  | append1 (i : Nat) (e : ME)
  | append2 (i : Nat) (j e : ME)
  | setItem (i : Nat) (j e : ME)
  | pop (y i : Nat)
  | lend (y f i : Nat) (e : ME)
  | ite (c : ME) (a b : List MS)
  | whileLoop (c : ME) (body : List MS)
  | forLoop (tg : Tgt) (it : It) (body : List MS)
  | ret (e : ME)
  | cont

noncomputable def own1At : Option Slot → (List D → Prop) → Prop
  | some (.own1 ds), Q => Q ds
  | _, _ => False
noncomputable def own2At : Option Slot → (List (List D) → Prop) → Prop
  | some (.own2 ds), Q => Q ds
  | _, _ => False
noncomputable def intD : D → (Int → Prop) → Prop
  | .int k, Q => Q k
  | _, _ => False
noncomputable def frozen : Option Slot → (D → Prop) → Prop
  | some (.own1 ds), Q => Q (.list ds)
  | some (.own2 dss), Q => Q (.list (dss.map .list))
  | _, _ => False
noncomputable def storeAt : Option Slot → Nat → D → (Slot → Prop) → Prop
  | some (.own1 ds), k, d, Q => k < ds.length ∧ Q (.own1 (ds.set k d))
  | some (.lent ds), k, d, Q => k < ds.length ∧ Q (.lent (ds.set k d))
  | _, _, _, _ => False

noncomputable def seqF (K : St → (MF → St → Prop) → Prop) (Q : MF → St → Prop) : MF → St → Prop
  | .next, st => K st Q
  | .cont, st => Q .cont st
  | .ret d, st => Q (.ret d) st

noncomputable def loopF (next : St → Prop) (Q : MF → St → Prop) : MF → St → Prop
  | .next, st => next st
  | .cont, st => next st
  | .ret d, st => Q (.ret d) st

noncomputable def forGo (step : D → St → (MF → St → Prop) → Prop) : List D → St → (MF → St → Prop) → Prop
  | [], st, Q => Q .next st
  | d :: ds, st, Q => step d st (loopF (fun st' => forGo step ds st' Q) Q)

section
variable (Φ : Funs) (Λ : Lends)
mutual
noncomputable def wpS : MS → St → (MF → St → Prop) → Prop
  | .assign i e, st, Q => wpE Φ e st fun d => Q .next (st.set i (.sh d))
  | .new1 i e, st, Q => wpE Φ e st fun d => listD d fun ds => Q .next (st.set i (.own1 ds))
  | .new2 i e, st, Q => wpE Φ e st fun d => intD d fun k => k.natAbs ≤ 1000000 ∧ Q .next (st.set i (.own2 (List.replicate k.toNat [])))
  | .freeze i, st, Q => frozen st[i]? fun d => Q .next (st.set i (.sh d))
  | .unpack is e, st, Q => wpE Φ e st fun d => assignT (.many is) st d (Q .next)
  | .append1 i e, st, Q => own1At st[i]? fun ds => wpE Φ e st fun d => ds.length ≤ 1000000 ∧ Q .next (st.set i (.own1 (ds ++ [d])))
  | .append2 i j e, st, Q => own2At st[i]? fun dss => wpE Φ j st fun k => intD k fun k =>
      0 ≤ k ∧ ∃ h : k.toNat < dss.length, wpE Φ e st fun d => dss[k.toNat].length ≤ 1000000 ∧ Q .next (st.set i (.own2 (dss.set k.toNat (dss[k.toNat] ++ [d]))))
  | .setItem i j e, st, Q => wpE Φ e st fun d => ownAt st[i]? fun _ => wpE Φ j st fun k => intD k fun k => 0 ≤ k ∧ storeAt st[i]? k.toNat d fun sl => Q .next (st.set i sl)
  | .pop y i, st, Q => own1At st[i]? fun ds => ∃ h : ds ≠ [], ds.length ≤ 1000000 ∧ Q .next ((st.set i (.own1 ds.dropLast)).set y (.sh (ds.getLast h)))
  | .lend y f i e, st, Q => own1At st[i]? fun ds => wpE Φ e st fun d => Λ f ds [d] fun ds' r => Q .next ((st.set i (.own1 ds')).set y (.sh r))
  | .ite c a b, st, Q => wpT Φ c st fun r => if r = true then wpSs a st Q else wpSs b st Q
  | .whileLoop c body, st, Q => ∃ I : Nat → St → Prop, (∃ n, I n st) ∧ ∀ n st, I n st →
      wpT Φ c st fun r => if r = true then wpSs body st (loopF (fun st' => ∃ m, m < n ∧ I m st') Q) else Q .next st
  | .forLoop tg it body, st, Q => wpIt Φ it st fun items => forGo (fun d st K => assignT tg st d fun st' => wpSs body st' K) items st Q
  | .ret e, st, Q => wpE Φ e st fun d => Q (.ret d) st
  | .cont, st, Q => Q .cont st
noncomputable def wpSs : List MS → St → (MF → St → Prop) → Prop
  | [], st, Q => Q .next st
  | m :: ms, st, Q => wpS m st (seqF (fun st' K => wpSs ms st' K) Q)
end
end
end
section
open PySem
/-- 0 -/
noncomputable def b_reach : List MS :=
  [.new2 4 (.var 0),
  .forLoop (.one 5) (.ofE (.var 1))
    [.assign 6 (.sub (.var 5) (.int 0)),
     .assign 7 (.sub (.var 5) (.int 1)),
     .append2 4 (.var 6) (.var 7),
     .ite (.not (.var 3))
       [.append2 4 (.var 7) (.var 6)]
       []],
  .freeze 4,
  .new1 8 (.bin .mul (.lst (.cons (.bool false) .nil)) (.var 0)),
  .setItem 8 (.var 2) (.bool true),
  .new1 9 (.lst (.cons (.var 2) .nil)),
  .whileLoop (.cmp .gt (.lenv 9) (.int 0))
    [.pop 10 9,
     .forLoop (.one 11) (.ofE (.sub (.var 4) (.var 10)))
       [.ite (.not (.subv 8 (.var 11)))
          [.setItem 8 (.var 11) (.bool true),
           .append1 9 (.var 11)]
          []]],
  .freeze 8,
  .ret (.var 8)]
noncomputable def v_reach : List String := ["n", "pairs", "start", "directed", "adj", "pair", "a", "b", "marks", "todo", "v", "w"]
/-- 1 -/
noncomputable def b_component_ids : List MS :=
  [.new2 3 (.var 0),
  .forLoop (.one 4) (.range0 (.len (.var 1)))
    [.ite (.cmp .ne (.var 4) (.var 2))
       [.assign 5 (.sub (.sub (.var 1) (.var 4)) (.int 0)),
        .assign 6 (.sub (.sub (.var 1) (.var 4)) (.int 1)),
        .append2 3 (.var 5) (.var 6),
        .append2 3 (.var 6) (.var 5)]
       []],
  .freeze 3,
  .new1 7 (.bin .mul (.lst (.cons (.int (-1)) .nil)) (.var 0)),
  .assign 8 (.int 0),
  .forLoop (.one 9) (.range0 (.var 0))
    [.ite (.cmp .eq (.subv 7 (.var 9)) (.int (-1)))
       [.setItem 7 (.var 9) (.var 8),
        .new1 10 (.lst (.cons (.var 9) .nil)),
        .whileLoop (.cmp .gt (.lenv 10) (.int 0))
          [.pop 11 10,
           .forLoop (.one 12) (.ofE (.sub (.var 3) (.var 11)))
             [.ite (.cmp .eq (.subv 7 (.var 12)) (.int (-1)))
                [.setItem 7 (.var 12) (.var 8),
                 .append1 10 (.var 12)]
                []]],
        .assign 8 (.bin .add (.var 8) (.int 1))]
       []],
  .freeze 7,
  .ret (.tup (.cons (.var 7) (.cons (.var 8) .nil)))]
noncomputable def v_component_ids : List String := ["n", "pairs", "skip", "adj", "k", "a", "b", "ids", "count", "s", "todo", "v", "w"]
/-- 2 -/
noncomputable def b_is_rising : List MS :=
  [.forLoop (.one 1) (.range (.int 1) (.len (.var 0)))
    [.ite (.cmp .ge (.sub (.var 0) (.bin .sub (.var 1) (.int 1))) (.sub (.var 0) (.var 1)))
       [.ret (.bool false)]
       []],
  .ret (.bool true)]
noncomputable def v_is_rising : List String := ["xs", "i"]
/-- 3 -/
noncomputable def b_touching : List MS :=
  [.new2 2 (.var 0),
  .forLoop (.one 3) (.range0 (.len (.var 1)))
    [.assign 4 (.sub (.sub (.var 1) (.var 3)) (.int 0)),
     .assign 5 (.sub (.sub (.var 1) (.var 3)) (.int 1)),
     .append2 2 (.var 4) (.var 3),
     .ite (.cmp .ne (.var 5) (.var 4))
       [.append2 2 (.var 5) (.var 3)]
       []],
  .freeze 2,
  .ret (.var 2)]
noncomputable def v_touching : List String := ["n", "edges", "touch", "k", "a", "b"]
/-- 4 -/
noncomputable def b_round_trip : List MS :=
  [.assign 1 (.sub (.var 0) (.int 0)),
  .assign 2 (.sub (.var 0) (.int 1)),
  .assign 3 (.len (.var 2)),
  .new1 4 (.bin .mul (.lst (.cons (.int 0) .nil)) (.var 1)),
  .forLoop (.one 5) (.ofE (.var 2))
    [.setItem 4 (.sub (.var 5) (.int 0)) (.bin .add (.subv 4 (.sub (.var 5) (.int 0))) (.int 1)),
     .setItem 4 (.sub (.var 5) (.int 1)) (.bin .add (.subv 4 (.sub (.var 5) (.int 1))) (.int 1))],
  .forLoop (.one 6) (.range0 (.var 1))
    [.ite (.cmp .ne (.bin .mod (.subv 4 (.var 6)) (.int 2)) (.int 0))
       [.ret (.tup (.cons (.str (Str.ofString "odd")) (.cons (.var 6) .nil)))]
       []],
  .ite (.cmp .eq (.var 3) (.int 0))
    [.ret (.tup (.cons (.str (Str.ofString "trip")) (.cons (.tup (.cons (.int 0) (.cons (.lst .nil) .nil))) .nil)))]
    [],
  .assign 7 (.call 0 (.cons (.var 1) (.cons (.var 2) (.cons (.sub (.sub (.var 2) (.int 0)) (.int 0)) (.cons (.bool false) .nil))))),
  .forLoop (.one 8) (.range0 (.var 3))
    [.ite (.not (.sub (.var 7) (.sub (.sub (.var 2) (.var 8)) (.int 0))))
       [.ret (.tup (.cons (.str (Str.ofString "apart")) (.cons (.tup (.cons (.int 0) (.cons (.var 8) .nil))) .nil)))]
       []],
  .assign 9 (.call 3 (.cons (.var 1) (.cons (.var 2) .nil))),
  .new1 10 (.bin .mul (.lst (.cons (.int 0) .nil)) (.var 1)),
  .new1 11 (.bin .mul (.lst (.cons (.bool false) .nil)) (.var 3)),
  .new1 12 (.lst (.cons (.tup (.cons (.sub (.sub (.var 2) (.int 0)) (.int 0)) (.cons .none .nil))) .nil)),
  .new1 13 (.lst .nil),
  .whileLoop (.cmp .gt (.lenv 12) (.int 0))
    [.assign 6 (.sub (.subv 12 (.bin .sub (.lenv 12) (.int 1))) (.int 0)),
     .whileLoop (.and (.cmp .lt (.subv 10 (.var 6)) (.len (.sub (.var 9) (.var 6)))) (.subv 11 (.sub (.sub (.var 9) (.var 6)) (.subv 10 (.var 6)))))
       [.setItem 10 (.var 6) (.bin .add (.subv 10 (.var 6)) (.int 1))],
     .ite (.cmp .eq (.subv 10 (.var 6)) (.len (.sub (.var 9) (.var 6))))
       [.pop 14 12,
        .ite (.isNone (.sub (.var 14) (.int 1)) true)
          [.append1 13 (.sub (.var 14) (.int 1))]
          []]
       [.assign 8 (.sub (.sub (.var 9) (.var 6)) (.subv 10 (.var 6))),
        .setItem 11 (.var 8) (.bool true),
        .ite (.cmp .eq (.sub (.sub (.var 2) (.var 8)) (.int 0)) (.var 6))
          [.assign 15 (.sub (.sub (.var 2) (.var 8)) (.int 1))]
          [.assign 15 (.sub (.sub (.var 2) (.var 8)) (.int 0))],
        .append1 12 (.tup (.cons (.var 15) (.cons (.var 8) .nil)))]],
  .freeze 13,
  .ret (.tup (.cons (.str (Str.ofString "trip")) (.cons (.tup (.cons (.sub (.sub (.var 2) (.int 0)) (.int 0)) (.cons (.var 13) .nil))) .nil)))]
noncomputable def v_round_trip : List String := ["graph", "n", "edges", "m", "degree", "e", "v", "marks", "k", "touch", "pointer", "used", "stack", "order", "top", "other"]
/-- 5 -/
noncomputable def b_bridges : List MS :=
  [.assign 1 (.sub (.var 0) (.int 0)),
  .assign 2 (.sub (.var 0) (.int 1)),
  .assign 3 (.sub (.call 1 (.cons (.var 1) (.cons (.var 2) (.cons (.int (-1)) .nil)))) (.int 1)),
  .new1 4 (.lst .nil),
  .forLoop (.one 5) (.range0 (.len (.var 2)))
    [.ite (.cmp .gt (.sub (.call 1 (.cons (.var 1) (.cons (.var 2) (.cons (.var 5) .nil)))) (.int 1)) (.var 3))
       [.append1 4 (.var 5)]
       []],
  .freeze 4,
  .ret (.var 4)]
noncomputable def v_bridges : List String := ["graph", "n", "edges", "count", "result", "k"]
/-- 6 -/
noncomputable def b_merge : List MS :=
  [.new1 2 (.lst .nil),
  .assign 3 (.int 0),
  .assign 4 (.int 0),
  .whileLoop (.and (.cmp .lt (.var 3) (.len (.var 0))) (.cmp .lt (.var 4) (.len (.var 1))))
    [.ite (.cmp .lt (.sub (.var 1) (.var 4)) (.sub (.var 0) (.var 3)))
       [.append1 2 (.sub (.var 1) (.var 4)),
        .assign 4 (.bin .add (.var 4) (.int 1))]
       [.append1 2 (.sub (.var 0) (.var 3)),
        .assign 3 (.bin .add (.var 3) (.int 1))]],
  .whileLoop (.cmp .lt (.var 3) (.len (.var 0)))
    [.append1 2 (.sub (.var 0) (.var 3)),
     .assign 3 (.bin .add (.var 3) (.int 1))],
  .whileLoop (.cmp .lt (.var 4) (.len (.var 1)))
    [.append1 2 (.sub (.var 1) (.var 4)),
     .assign 4 (.bin .add (.var 4) (.int 1))],
  .freeze 2,
  .ret (.var 2)]
noncomputable def v_merge : List String := ["first", "second", "out", "i", "j"]
/-- 7 -/
noncomputable def b_sort : List MS :=
  [.assign 1 (.comp (.lst (.cons (.var 4) .nil)) (.one 4) (.ofE (.var 0)) (.bool true) []),
  .ite (.cmp .eq (.len (.var 1)) (.int 0))
    [.ret (.lst .nil)]
    [],
  .whileLoop (.cmp .gt (.len (.var 1)) (.int 1))
    [.new1 2 (.lst .nil),
     .assign 3 (.int 0),
     .whileLoop (.cmp .lt (.bin .add (.var 3) (.int 1)) (.len (.var 1)))
       [.append1 2 (.call 6 (.cons (.sub (.var 1) (.var 3)) (.cons (.sub (.var 1) (.bin .add (.var 3) (.int 1))) .nil))),
        .assign 3 (.bin .add (.var 3) (.int 2))],
     .ite (.cmp .lt (.var 3) (.len (.var 1)))
       [.append1 2 (.sub (.var 1) (.var 3))]
       [],
     .freeze 2,
     .assign 1 (.var 2)],
  .ret (.sub (.var 1) (.int 0))]
noncomputable def v_sort : List String := ["items", "runs", "merged", "i", "x"]
/-- 8 -/
noncomputable def b_find : List MS :=
  [.whileLoop (.cmp .ne (.subv 0 (.var 1)) (.var 1))
    [.setItem 0 (.var 1) (.subv 0 (.subv 0 (.var 1))),
     .assign 1 (.subv 0 (.var 1))],
  .ret (.var 1)]
noncomputable def v_find : List String := ["parent", "x"]
/-- 9 -/
noncomputable def b_forest : List MS :=
  [.assign 2 (.sub (.var 0) (.int 0)),
  .assign 3 (.sub (.var 0) (.int 1)),
  .assign 4 (.len (.var 3)),
  .assign 5 (.call 7 (.cons (.comp (.tup (.cons (.sub (.var 1) (.var 12)) (.cons (.var 12) .nil))) (.one 12) (.range0 (.var 4)) (.bool true) [1]) .nil)),
  .new1 6 (.comp (.var 13) (.one 13) (.range0 (.var 2)) (.bool true) []),
  .new1 7 (.bin .mul (.lst (.cons (.bool false) .nil)) (.var 4)),
  .forLoop (.one 8) (.ofE (.var 5))
    [.assign 9 (.sub (.var 8) (.int 1)),
     .lend 10 8 6 (.sub (.sub (.var 3) (.var 9)) (.int 0)),
     .lend 11 8 6 (.sub (.sub (.var 3) (.var 9)) (.int 1)),
     .ite (.cmp .ne (.var 10) (.var 11))
       [.setItem 6 (.var 10) (.var 11),
        .setItem 7 (.var 9) (.bool true)]
       []],
  .ret (.comp (.var 14) (.one 14) (.range0 (.var 4)) (.subv 7 (.var 14)) [7])]
noncomputable def v_forest : List String := ["graph", "weights", "n", "edges", "m", "pairs", "parent", "chosen", "pair", "k", "a", "b", "k", "v", "k"]
/-- 10 -/
noncomputable def b_check_forest : List MS :=
  [.assign 3 (.sub (.var 0) (.int 0)),
  .assign 4 (.sub (.var 0) (.int 1)),
  .assign 5 (.len (.var 4)),
  .ite (.not (.call 2 (.cons (.var 2) .nil)))
    [.ret (.bool false)]
    [],
  .forLoop (.one 6) (.ofE (.var 2))
    [.ite (.or (.cmp .lt (.var 6) (.int 0)) (.cmp .ge (.var 6) (.var 5)))
       [.ret (.bool false)]
       []],
  .assign 7 (.sub (.call 1 (.cons (.var 3) (.cons (.var 4) (.cons (.int (-1)) .nil)))) (.int 1)),
  .assign 8 (.comp (.sub (.var 4) (.var 11)) (.one 11) (.ofE (.var 2)) (.bool true) [4]),
  .ite (.cmp .ne (.sub (.call 1 (.cons (.var 3) (.cons (.var 8) (.cons (.int (-1)) .nil)))) (.int 1)) (.var 7))
    [.ret (.bool false)]
    [],
  .ite (.cmp .ne (.len (.var 2)) (.bin .sub (.var 3) (.var 7)))
    [.ret (.bool false)]
    [],
  .assign 9 (.int 0),
  .forLoop (.one 6) (.ofE (.var 2))
    [.assign 9 (.bin .add (.var 9) (.sub (.var 1) (.var 6)))],
  .assign 10 (.int 0),
  .forLoop (.one 6) (.ofE (.call 9 (.cons (.var 0) (.cons (.var 1) .nil))))
    [.assign 10 (.bin .add (.var 10) (.sub (.var 1) (.var 6)))],
  .ret (.cmp .eq (.var 9) (.var 10))]
noncomputable def v_check_forest : List String := ["graph", "weights", "places", "n", "edges", "m", "p", "count", "sub", "total", "best", "p"]
/-- 11 -/
noncomputable def b_components : List MS :=
  [.assign 1 (.sub (.var 0) (.int 0)),
  .assign 2 (.call 1 (.cons (.var 1) (.cons (.sub (.var 0) (.int 1)) (.cons (.int (-1)) .nil)))),
  .assign 3 (.sub (.var 2) (.int 0)),
  .assign 4 (.sub (.var 2) (.int 1)),
  .new2 5 (.var 4),
  .forLoop (.one 6) (.range0 (.var 1))
    [.append2 5 (.sub (.var 3) (.var 6)) (.var 6)],
  .freeze 5,
  .ret (.var 5)]
noncomputable def v_components : List String := ["graph", "n", "result", "ids", "count", "groups", "v"]
/-- 12 -/
noncomputable def b_up : List MS :=
  [.new1 2 (.lst (.cons (.var 1) .nil)),
  .whileLoop (.isNone (.sub (.var 0) (.subv 2 (.bin .sub (.lenv 2) (.int 1)))) true)
    [.append1 2 (.sub (.sub (.var 0) (.subv 2 (.bin .sub (.lenv 2) (.int 1)))) (.int 0))],
  .freeze 2,
  .ret (.var 2)]
noncomputable def v_up : List String := ["parent", "v", "nodes"]
/-- 13 -/
noncomputable def b_odd_circle : List MS :=
  [.assign 5 (.call 12 (.cons (.var 0) (.cons (.var 1) .nil))),
  .assign 6 (.call 12 (.cons (.var 0) (.cons (.var 2) .nil))),
  .new1 7 (.bin .mul (.lst (.cons (.bool false) .nil)) (.var 4)),
  .forLoop (.one 8) (.ofE (.var 6))
    [.setItem 7 (.var 8) (.bool true)],
  .assign 9 (.int 0),
  .whileLoop (.not (.subv 7 (.sub (.var 5) (.var 9))))
    [.assign 9 (.bin .add (.var 9) (.int 1))],
  .assign 10 (.sub (.var 5) (.var 9)),
  .assign 11 (.int 0),
  .whileLoop (.cmp .ne (.sub (.var 6) (.var 11)) (.var 10))
    [.assign 11 (.bin .add (.var 11) (.int 1))],
  .assign 12 (.comp (.sub (.sub (.var 0) (.sub (.var 5) (.var 14))) (.int 1)) (.one 14) (.range0 (.var 9)) (.bool true) [0, 5]),
  .assign 13 (.comp (.sub (.sub (.var 0) (.sub (.var 6) (.var 15))) (.int 1)) (.one 15) (.range0 (.var 11)) (.bool true) [0, 6]),
  .ret (.tup (.cons (.var 10) (.cons (.bin .add (.bin .add (.rev (.var 12)) (.lst (.cons (.var 3) .nil))) (.var 13)) .nil)))]
noncomputable def v_odd_circle : List String := ["parent", "a", "b", "k", "n", "pa", "pb", "in_b", "v", "ia", "w", "ib", "first", "second", "i", "i"]
/-- 14 -/
noncomputable def b_two_colors : List MS :=
  [.assign 1 (.sub (.var 0) (.int 0)),
  .assign 2 (.sub (.var 0) (.int 1)),
  .new2 3 (.var 1),
  .forLoop (.one 4) (.range0 (.len (.var 2)))
    [.assign 5 (.sub (.sub (.var 2) (.var 4)) (.int 0)),
     .assign 6 (.sub (.sub (.var 2) (.var 4)) (.int 1)),
     .append2 3 (.var 5) (.tup (.cons (.var 6) (.cons (.var 4) .nil))),
     .append2 3 (.var 6) (.tup (.cons (.var 5) (.cons (.var 4) .nil)))],
  .freeze 3,
  .new1 7 (.bin .mul (.lst (.cons .none .nil)) (.var 1)),
  .new1 8 (.bin .mul (.lst (.cons .none .nil)) (.var 1)),
  .forLoop (.one 9) (.range0 (.var 1))
    [.ite (.isNone (.subv 7 (.var 9)) true)
       [.cont]
       [],
     .setItem 7 (.var 9) (.int 0),
     .new1 10 (.lst (.cons (.var 9) .nil)),
     .assign 11 (.int 0),
     .whileLoop (.cmp .lt (.var 11) (.lenv 10))
       [.assign 12 (.subv 10 (.var 11)),
        .assign 11 (.bin .add (.var 11) (.int 1)),
        .forLoop (.one 13) (.ofE (.sub (.var 3) (.var 12)))
          [.assign 14 (.sub (.var 13) (.int 0)),
           .ite (.isNone (.subv 7 (.var 14)) false)
             [.setItem 7 (.var 14) (.bin .sub (.int 1) (.subv 7 (.var 12))),
              .setItem 8 (.var 14) (.tup (.cons (.var 12) (.cons (.sub (.var 13) (.int 1)) .nil))),
              .append1 10 (.var 14)]
             []]]],
  .freeze 8,
  .forLoop (.one 4) (.range0 (.len (.var 2)))
    [.assign 5 (.sub (.sub (.var 2) (.var 4)) (.int 0)),
     .assign 6 (.sub (.sub (.var 2) (.var 4)) (.int 1)),
     .ite (.cmp .eq (.subv 7 (.var 5)) (.subv 7 (.var 6)))
       [.ret (.tup (.cons (.str (Str.ofString "odd")) (.cons (.call 13 (.cons (.var 8) (.cons (.var 5) (.cons (.var 6) (.cons (.var 4) (.cons (.var 1) .nil)))))) .nil)))]
       []],
  .freeze 7,
  .ret (.tup (.cons (.str (Str.ofString "colors")) (.cons (.var 7) .nil)))]
noncomputable def v_two_colors : List String := ["graph", "n", "edges", "adj", "k", "a", "b", "color", "parent", "s", "queue", "head", "v", "pair", "y"]
/-- 15 -/
noncomputable def b_law_ints : List MS :=
  [.ret (.all (.comp (.typeIs (.var 1) .int) (.one 1) (.ofE (.var 0)) (.bool true) []))]
noncomputable def v_law_ints : List String := ["xs", "x"]
/-- 16 -/
noncomputable def b_law_labels : List MS :=
  [.assign 2 (.listRange (.var 0)),
  .forLoop (.many [3, 4]) (.ofE (.var 1))
    [.assign 5 (.min (.sub (.var 2) (.var 3)) (.sub (.var 2) (.var 4))),
     .assign 6 (.max (.sub (.var 2) (.var 3)) (.sub (.var 2) (.var 4))),
     .assign 2 (.comp (.ite (.cmp .eq (.var 7) (.var 6)) (.var 5) (.var 7)) (.one 7) (.ofE (.var 2)) (.bool true) [6, 5])],
  .ret (.var 2)]
noncomputable def v_law_labels : List String := ["n", "roads", "ids", "a", "b", "low", "high", "i"]
/-- 17 -/
noncomputable def b_law_best : List MS :=
  [.new1 3 (.lst .nil),
  .forLoop (.one 4) (.ofE (.sortedP (.comp (.tup (.cons (.sub (.var 2) (.var 7)) (.cons (.var 7) .nil))) (.one 7) (.range0 (.len (.var 1))) (.bool true) [2])))
    [.assign 5 (.sub (.var 4) (.int 1)),
     .assign 6 (.call 16 (.cons (.var 0) (.cons (.comp (.sub (.var 1) (.var 8)) (.one 8) (.ofV 3) (.bool true) [1]) .nil))),
     .ite (.cmp .ne (.sub (.var 6) (.sub (.sub (.var 1) (.var 5)) (.int 0))) (.sub (.var 6) (.sub (.sub (.var 1) (.var 5)) (.int 1))))
       [.append1 3 (.var 5)]
       []],
  .freeze 3,
  .ret (.sortedI (.var 3))]
noncomputable def v_law_best : List String := ["n", "roads", "prices", "taken", "pair", "k", "ids", "i", "j"]
/-- 18 -/
noncomputable def b_law_fits : List MS :=
  [.ite (.cmp .ne (.var 3) (.comp (.var 5) (.one 5) (.range0 (.len (.var 1))) (.cmp .isin (.var 5) (.var 3)) [3]))
    [.ret (.bool false)]
    [],
  .ite (.cmp .ne (.len (.var 3)) (.len (.var 4)))
    [.ret (.bool false)]
    [],
  .ite (.cmp .ne (.call 16 (.cons (.var 0) (.cons (.comp (.sub (.var 1) (.var 6)) (.one 6) (.ofE (.var 3)) (.bool true) [1]) .nil))) (.call 16 (.cons (.var 0) (.cons (.var 1) .nil))))
    [.ret (.bool false)]
    [],
  .ret (.cmp .eq (.sum (.comp (.sub (.var 2) (.var 7)) (.one 7) (.ofE (.var 3)) (.bool true) [2])) (.sum (.comp (.sub (.var 2) (.var 8)) (.one 8) (.ofE (.var 4)) (.bool true) [2])))]
noncomputable def v_law_fits : List String := ["n", "roads", "prices", "plan", "best", "k", "k", "k", "k"]
/-- 19 -/
noncomputable def b_law_step : List MS :=
  [.assign 8 (.bin .mod (.var 5) (.bin .add (.len (.var 1)) (.int 1))),
  .assign 9 (.bin .mod (.var 5) (.bin .add (.len (.var 3)) (.int 1))),
  .ite (.cmp .eq (.var 4) (.int 0))
    [.ret (.tup (.cons (.bin .add (.var 1) (.lst (.cons (.tup (.cons (.bin .mod (.var 5) (.var 0)) (.cons (.bin .mod (.var 6) (.var 0)) .nil))) .nil))) (.cons (.bin .add (.var 2) (.lst (.cons (.var 7) .nil))) (.cons (.var 3) .nil))))]
    [],
  .ite (.cmp .eq (.var 4) (.int 1))
    [.ret (.tup (.cons (.bin .add (.sliceTo (.var 1) (.var 8)) (.sliceFrom (.var 1) (.bin .add (.var 8) (.int 1)))) (.cons (.bin .add (.sliceTo (.var 2) (.var 8)) (.sliceFrom (.var 2) (.bin .add (.var 8) (.int 1)))) (.cons (.var 3) .nil))))]
    [],
  .ite (.cmp .eq (.var 4) (.int 2))
    [.ret (.tup (.cons (.var 1) (.cons (.bin .add (.bin .add (.sliceTo (.var 2) (.var 8)) (.comp (.bin .sub (.bin .mod (.var 7) (.int 3)) (.int 1)) (.one 10) (.ofE (.sliceBoth (.var 2) (.var 8) (.bin .add (.var 8) (.int 1)))) (.bool true) [7])) (.sliceFrom (.var 2) (.bin .add (.var 8) (.int 1)))) (.cons (.var 3) .nil))))]
    [],
  .ite (.cmp .eq (.var 4) (.int 3))
    [.ret (.tup (.cons (.var 1) (.cons (.var 2) (.cons (.bin .add (.bin .add (.sliceTo (.var 3) (.var 9)) (.lst (.cons (.bin .sub (.bin .mod (.var 6) (.bin .add (.len (.var 1)) (.int 2))) (.int 1)) .nil))) (.sliceFrom (.var 3) (.bin .add (.var 9) (.bin .mod (.var 7) (.int 3))))) .nil))))]
    [],
  .ret (.tup (.cons (.var 1) (.cons (.var 2) (.cons (.rev (.var 3)) .nil))))]
noncomputable def v_law_step : List String := ["n", "roads", "prices", "plan", "kind", "x", "y", "w", "k", "j", "p"]
/-- 20 -/
noncomputable def b_law_plans : List MS :=
  [.assign 4 (.tup (.cons (.listOf (.var 1)) (.cons (.listOf (.var 2)) (.cons (.listOf (.var 3)) .nil)))),
  .assign 5 (.call 17 (.cons (.var 0) (.cons (.var 1) (.cons (.var 2) .nil)))),
  .assign 6 (.call 9 (.cons (.tup (.cons (.var 0) (.cons (.var 1) .nil))) (.cons (.var 2) .nil))),
  .ite (.cmp .ne (.var 6) (.var 5))
    [.ret (.bool false)]
    [],
  .ite (.not (.call 15 (.cons (.var 6) .nil)))
    [.ret (.bool false)]
    [],
  .assign 7 (.call 10 (.cons (.tup (.cons (.var 0) (.cons (.var 1) .nil))) (.cons (.var 2) (.cons (.var 3) .nil)))),
  .ite (.not (.typeIs (.var 7) .bool))
    [.ret (.bool false)]
    [],
  .ite (.cmp .ne (.var 7) (.call 18 (.cons (.var 0) (.cons (.var 1) (.cons (.var 2) (.cons (.var 3) (.cons (.var 5) .nil)))))))
    [.ret (.bool false)]
    [],
  .ret (.cmp .eq (.tup (.cons (.var 1) (.cons (.var 2) (.cons (.var 3) .nil)))) (.var 4))]
noncomputable def v_law_plans : List String := ["n", "roads", "prices", "plan", "kept", "best", "fresh", "told"]
/-- 21 -/
noncomputable def b_law_groups : List MS :=
  [.assign 3 (.call 11 (.cons (.tup (.cons (.var 0) (.cons (.var 1) .nil))) .nil)),
  .ite (.cmp .ne (.var 3) (.comp (.comp (.var 8) (.one 8) (.range0 (.var 0)) (.cmp .eq (.sub (.var 2) (.var 8)) (.var 7)) [2, 7]) (.one 7) (.range0 (.var 0)) (.cmp .eq (.sub (.var 2) (.var 7)) (.var 7)) [2, 0]))
    [.ret (.bool false)]
    [],
  .new1 4 (.lst .nil),
  .forLoop (.one 5) (.range0 (.len (.var 1)))
    [.ite (.cmp .ne (.call 16 (.cons (.var 0) (.cons (.bin .add (.sliceTo (.var 1) (.var 5)) (.sliceFrom (.var 1) (.bin .add (.var 5) (.int 1)))) .nil))) (.var 2))
       [.append1 4 (.var 5)]
       []],
  .freeze 4,
  .assign 6 (.call 5 (.cons (.tup (.cons (.var 0) (.cons (.var 1) .nil))) .nil)),
  .ite (.cmp .ne (.var 6) (.var 4))
    [.ret (.bool false)]
    [],
  .ret (.call 15 (.cons (.bin .add (.comp2 (.var 10) 9 (.ofE (.var 3)) 10 (.ofE (.var 9)) []) (.var 6)) .nil))]
noncomputable def v_law_groups : List String := ["n", "roads", "ids", "got", "cut", "k", "told", "s", "v", "group", "v"]
/-- 22 -/
noncomputable def b_law_circuit : List MS :=
  [.ite (.not (.call 15 (.cons (.bin .add (.lst (.cons (.var 1) .nil)) (.var 2)) .nil)))
    [.ret (.bool false)]
    [],
  .assign 3 (.var 1),
  .forLoop (.one 4) (.ofE (.var 2))
    [.ite (.or (.cmp .lt (.var 4) (.int 0)) (.cmp .ge (.var 4) (.len (.var 0))))
       [.ret (.bool false)]
       [],
     .ite (.cmp .notin (.var 3) (.sub (.var 0) (.var 4)))
       [.ret (.bool false)]
       [],
     .assign 3 (.bin .sub (.bin .add (.sub (.sub (.var 0) (.var 4)) (.int 0)) (.sub (.sub (.var 0) (.var 4)) (.int 1))) (.var 3))],
  .ret (.cmp .eq (.var 3) (.var 1))]
noncomputable def v_law_circuit : List String := ["roads", "start", "places", "here", "k"]
/-- 23 -/
noncomputable def b_law_colors : List MS :=
  [.assign 3 (.call 16 (.cons (.bin .mul (.int 2) (.var 0)) (.cons (.bin .add (.comp (.tup (.cons (.var 8) (.cons (.bin .add (.var 9) (.var 0)) .nil))) (.many [8, 9]) (.ofE (.var 1)) (.bool true) [0]) (.comp (.tup (.cons (.bin .add (.var 10) (.var 0)) (.cons (.var 11) .nil))) (.many [10, 11]) (.ofE (.var 1)) (.bool true) [0])) .nil))),
  .assign 4 (.comp (.var 12) (.one 12) (.range0 (.var 0)) (.cmp .eq (.sub (.var 3) (.var 12)) (.sub (.var 3) (.bin .add (.var 12) (.var 0)))) [3, 0]),
  .assign 5 (.call 14 (.cons (.tup (.cons (.var 0) (.cons (.var 1) .nil))) .nil)),
  .ite (.not (.typeIs (.var 5) .tuple))
    [.ret (.bool false)]
    [],
  .ite (.cmp .eq (.len (.var 4)) (.int 0))
    [.ite (.cmp .ne (.var 5) (.tup (.cons (.str (Str.ofString "colors")) (.cons (.comp (.ite (.cmp .eq (.sub (.var 3) (.var 13)) (.sub (.var 2) (.var 13))) (.int 0) (.int 1)) (.one 13) (.range0 (.var 0)) (.bool true) [3, 2]) .nil))))
       [.ret (.bool false)]
       [],
     .ret (.call 15 (.cons (.sub (.var 5) (.int 1)) .nil))]
    [],
  .ite (.cmp .ne (.sub (.var 5) (.int 0)) (.str (Str.ofString "odd")))
    [.ret (.bool false)]
    [],
  .unpack [6, 7] (.sub (.var 5) (.int 1)),
  .ite (.not (.call 22 (.cons (.var 1) (.cons (.var 6) (.cons (.var 7) .nil)))))
    [.ret (.bool false)]
    [],
  .ite (.or (.cmp .ne (.bin .mod (.len (.var 7)) (.int 2)) (.int 1)) (.cmp .ne (.setLen (.var 7)) (.len (.var 7))))
    [.ret (.bool false)]
    [],
  .ret (.cmp .eq (.setLen (.comp2 (.var 15) 14 (.ofE (.var 7)) 15 (.ofE (.sub (.var 1) (.var 14))) [1])) (.len (.var 7)))]
noncomputable def v_law_colors : List String := ["n", "roads", "ids", "cover", "clash", "got", "start", "places", "a", "b", "a", "b", "v", "v", "k", "v"]
/-- 24 -/
noncomputable def b_law_trip : List MS :=
  [.assign 3 (.bin .add (.comp (.var 10) (.many [10, 11]) (.ofE (.var 1)) (.bool true) []) (.comp (.var 13) (.many [12, 13]) (.ofE (.var 1)) (.bool true) [])),
  .assign 4 (.comp (.var 14) (.one 14) (.range0 (.var 0)) (.cmp .eq (.bin .mod (.count (.var 3) (.var 14)) (.int 2)) (.int 1)) [3]),
  .assign 5 (.call 4 (.cons (.tup (.cons (.var 0) (.cons (.var 1) .nil))) .nil)),
  .ite (.not (.typeIs (.var 5) .tuple))
    [.ret (.bool false)]
    [],
  .ite (.cmp .gt (.len (.var 4)) (.int 0))
    [.ite (.or (.cmp .ne (.sub (.var 5) (.int 0)) (.str (Str.ofString "odd"))) (.cmp .notin (.sub (.var 5) (.int 1)) (.var 4)))
       [.ret (.bool false)]
       [],
     .ret (.typeIs (.sub (.var 5) (.int 1)) .int)]
    [],
  .ite (.cmp .gt (.setLen (.comp (.sub (.var 2) (.var 15)) (.one 15) (.ofE (.var 3)) (.bool true) [2])) (.int 1))
    [.ite (.cmp .ne (.sub (.var 5) (.int 0)) (.str (Str.ofString "apart")))
       [.ret (.bool false)]
       [],
     .unpack [6, 7] (.sub (.var 5) (.int 1)),
     .ite (.or (.not (.call 15 (.cons (.lst (.cons (.var 6) (.cons (.var 7) .nil))) .nil))) (.or (.cmp .lt (.min (.var 6) (.var 7)) (.int 0)) (.cmp .ge (.max (.var 6) (.var 7)) (.len (.var 1)))))
       [.ret (.bool false)]
       [],
     .ret (.cmp .ne (.sub (.var 2) (.sub (.sub (.var 1) (.var 6)) (.int 0))) (.sub (.var 2) (.sub (.sub (.var 1) (.var 7)) (.int 0))))]
    [],
  .ite (.cmp .ne (.sub (.var 5) (.int 0)) (.str (Str.ofString "trip")))
    [.ret (.bool false)]
    [],
  .unpack [8, 9] (.sub (.var 5) (.int 1)),
  .ite (.and (.cmp .eq (.len (.var 1)) (.int 0)) (.cmp .ne (.var 8) (.int 0)))
    [.ret (.bool false)]
    [],
  .ite (.cmp .ne (.sortedI (.var 9)) (.listRange (.len (.var 1))))
    [.ret (.bool false)]
    [],
  .ret (.call 22 (.cons (.var 1) (.cons (.var 8) (.cons (.var 9) .nil))))]
noncomputable def v_law_trip : List String := ["n", "roads", "ids", "ends", "odds", "got", "e", "f", "start", "places", "a", "b", "a", "b", "v", "v"]
/-- 25 -/
noncomputable def b_law : List MS :=
  [.ite (.cmp .lt (.len (.var 0)) (.int 22))
    [.ret (.bool true)]
    [],
  .assign 1 (.bin .add (.int 1) (.bin .mod (.sub (.var 0) (.int 0)) (.int 5))),
  .assign 2 (.lst (.cons (.tup (.cons (.sub (.var 0) (.int 2)) (.cons (.sub (.var 0) (.int 3)) .nil))) (.cons (.tup (.cons (.sub (.var 0) (.int 4)) (.cons (.sub (.var 0) (.int 5)) .nil))) (.cons (.tup (.cons (.sub (.var 0) (.int 6)) (.cons (.sub (.var 0) (.int 7)) .nil))) (.cons (.tup (.cons (.sub (.var 0) (.int 8)) (.cons (.sub (.var 0) (.int 9)) .nil))) .nil))))),
  .assign 2 (.sliceTo (.var 2) (.bin .mod (.sub (.var 0) (.int 1)) (.int 5))),
  .assign 3 (.comp (.tup (.cons (.bin .mod (.var 13) (.var 1)) (.cons (.bin .mod (.var 14) (.var 1)) .nil))) (.many [13, 14]) (.ofE (.var 2)) (.bool true) [1]),
  .assign 4 (.comp (.bin .sub (.bin .mod (.bin .sub (.var 15) (.var 16)) (.int 3)) (.int 1)) (.many [15, 16]) (.ofE (.var 2)) (.bool true) []),
  .assign 5 (.call 9 (.cons (.tup (.cons (.var 1) (.cons (.var 3) .nil))) (.cons (.var 4) .nil))),
  .ite (.cmp .ne (.var 5) (.call 17 (.cons (.var 1) (.cons (.var 3) (.cons (.var 4) .nil)))))
    [.ret (.bool false)]
    [],
  .assign 6 (.lst (.cons (.tup (.cons (.sub (.var 0) (.int 10)) (.cons (.sub (.var 0) (.int 11)) (.cons (.sub (.var 0) (.int 12)) (.cons (.sub (.var 0) (.int 13)) .nil))))) (.cons (.tup (.cons (.sub (.var 0) (.int 14)) (.cons (.sub (.var 0) (.int 15)) (.cons (.sub (.var 0) (.int 16)) (.cons (.sub (.var 0) (.int 17)) .nil))))) (.cons (.tup (.cons (.sub (.var 0) (.int 18)) (.cons (.sub (.var 0) (.int 19)) (.cons (.sub (.var 0) (.int 20)) (.cons (.sub (.var 0) (.int 21)) .nil))))) .nil)))),
  .forLoop (.many [7, 8, 9, 10]) (.ofE (.var 6))
    [.ite (.cmp .eq (.bin .mod (.var 7) (.int 6)) (.int 5))
       [.assign 5 (.call 9 (.cons (.tup (.cons (.var 1) (.cons (.var 3) .nil))) (.cons (.var 4) .nil)))]
       [.unpack [3, 4, 5] (.call 19 (.cons (.var 1) (.cons (.var 3) (.cons (.var 4) (.cons (.var 5) (.cons (.bin .mod (.var 7) (.int 6)) (.cons (.var 8) (.cons (.var 9) (.cons (.var 10) .nil)))))))))],
     .ite (.not (.call 20 (.cons (.var 1) (.cons (.var 3) (.cons (.var 4) (.cons (.var 5) .nil))))))
       [.ret (.bool false)]
       []],
  .assign 11 (.listOf (.var 3)),
  .assign 12 (.call 16 (.cons (.var 1) (.cons (.var 3) .nil))),
  .ite (.not (.call 21 (.cons (.var 1) (.cons (.var 3) (.cons (.var 12) .nil)))))
    [.ret (.bool false)]
    [],
  .ite (.not (.call 23 (.cons (.var 1) (.cons (.var 3) (.cons (.var 12) .nil)))))
    [.ret (.bool false)]
    [],
  .ite (.not (.call 24 (.cons (.var 1) (.cons (.var 3) (.cons (.var 12) .nil)))))
    [.ret (.bool false)]
    [],
  .ite (.cmp .ne (.var 3) (.var 11))
    [.ret (.bool false)]
    [],
  .ret (.bool true)]
noncomputable def v_law : List String := ["script", "n", "opening", "roads", "prices", "plan", "turns", "op", "x", "y", "w", "kept", "ids", "x", "y", "x", "y"]
end
section
abbrev Edge := Nat × Nat

noncomputable def Adj (E : List Edge) (a b : Nat) : Prop := (a, b) ∈ E ∨ (b, a) ∈ E
theorem Adj.symm {E : List Edge} {a b : Nat} (h : Adj E a b) : Adj E b a := Or.symm h

inductive Conn (E : List Edge) : Nat → Nat → Prop where
  | refl (a : Nat) : Conn E a a
  | step {a b c : Nat} : Conn E a b → Adj E b c → Conn E a c

theorem Conn.one {E : List Edge} {a b : Nat} (h : Adj E a b) : Conn E a b := .step (.refl a) h
theorem Conn.trans {E : List Edge} {a b c : Nat} (h : Conn E a b) (k : Conn E b c) : Conn E a c := by
  induction k with
  | refl => exact h
  | step _ e ih => exact .step ih e
theorem Conn.symm {E : List Edge} {a b : Nat} (h : Conn E a b) : Conn E b a := by
  induction h with
  | refl => exact .refl _
  | step _ e ih => exact (Conn.one e.symm).trans ih
theorem Conn.mono {E E' : List Edge} (hs : ∀ e, e ∈ E → e ∈ E') {a b : Nat} (h : Conn E a b) : Conn E' a b := by
  induction h with
  | refl => exact .refl _
  | step _ e ih => exact .step ih (e.imp (hs _) (hs _))
theorem Conn.of_adj {E E' : List Edge} (hs : ∀ a b, Adj E a b → Conn E' a b) {a b : Nat} (h : Conn E a b) : Conn E' a b := by
  induction h with
  | refl => exact .refl _
  | step _ e ih => exact ih.trans (hs _ _ e)
theorem conn_nil {a b : Nat} (h : Conn [] a b) : a = b := by
  induction h with
  | refl => rfl
  | step _ e _ => rcases e with e | e <;> cases e
theorem conn_snoc {E : List Edge} {a b u v : Nat} : Conn (E ++ [(a, b)]) u v ↔ Conn E u v ∨ (Conn E u a ∧ Conn E b v) ∨ (Conn E u b ∧ Conn E a v) := by
  have ab : Conn (E ++ [(a, b)]) a b := .one (.inl (by simp))
  have up : ∀ {x y}, Conn E x y → Conn (E ++ [(a, b)]) x y := fun h => h.mono (by intro e he; simp [he])
  constructor
  · intro h
    induction h with
    | refl => exact .inl (.refl _)
    | @step y z hy e ih =>
      have e' : Adj E y z ∨ (y = a ∧ z = b) ∨ (y = b ∧ z = a) := by
        rcases e with e | e
        · rcases List.mem_append.mp e with e | e
          · exact .inl (.inl e)
          · simp at e; exact .inr (.inl ⟨e.1, e.2⟩)
        · rcases List.mem_append.mp e with e | e
          · exact .inl (.inr e)
          · simp at e; exact .inr (.inr ⟨e.2, e.1⟩)
      rcases e' with e | ⟨rfl, rfl⟩ | ⟨rfl, rfl⟩
      · rcases ih with h | ⟨h, k⟩ | ⟨h, k⟩
        · exact .inl (.step h e)
        · exact .inr (.inl ⟨h, .step k e⟩)
        · exact .inr (.inr ⟨h, .step k e⟩)
      · rcases ih with h | ⟨h, k⟩ | ⟨h, k⟩
        · exact .inr (.inl ⟨h, .refl _⟩)
        · exact .inr (.inl ⟨h, .refl _⟩)
        · exact .inl h
      · rcases ih with h | ⟨h, k⟩ | ⟨h, k⟩
        · exact .inr (.inr ⟨h, .refl _⟩)
        · exact .inl h
        · exact .inr (.inr ⟨h, .refl _⟩)
  · rintro (h | ⟨h, k⟩ | ⟨h, k⟩)
    · exact up h
    · exact ((up h).trans ab).trans (up k)
    · exact ((up h).trans ab.symm).trans (up k)

/-- all ends below n -/
noncomputable def InV (n : Nat) (E : List Edge) : Prop := ∀ e ∈ E, e.1 < n ∧ e.2 < n
theorem InV.adj {n : Nat} {E : List Edge} (h : InV n E) {a b : Nat} (e : Adj E a b) : a < n ∧ b < n := by
  rcases e with e | e
  · exact h _ e
  · exact (h _ e).symm
theorem InV.conn {n : Nat} {E : List Edge} (h : InV n E) {a b : Nat} (c : Conn E a b) (ha : a < n) : b < n := by
  cases c with
  | refl => exact ha
  | step _ e => exact (h.adj e).2
theorem InV.conn' {n : Nat} {E : List Edge} (h : InV n E) {a b : Nat} (c : Conn E a b) (hb : b < n) : a < n := h.conn c.symm hb

/-- f v is the least node joined with v -/
noncomputable def IsLab (n : Nat) (E : List Edge) (f : Nat → Nat) : Prop := ∀ v, v < n → Conn E (f v) v ∧ ∀ u, Conn E u v → f v ≤ u

section
variable {n : Nat} {E : List Edge} {f : Nat → Nat}
theorem IsLab.le (h : IsLab n E f) {v : Nat} (hv : v < n) : f v ≤ v := (h v hv).2 v (.refl v)
theorem IsLab.lt (h : IsLab n E f) {v : Nat} (hv : v < n) : f v < n := Nat.lt_of_le_of_lt (h.le hv) hv
theorem IsLab.eq_of_conn (h : IsLab n E f) {u v : Nat} (hu : u < n) (hv : v < n) (c : Conn E u v) : f u = f v :=
  Nat.le_antisymm ((h u hu).2 _ ((h v hv).1.trans c.symm)) ((h v hv).2 _ ((h u hu).1.trans c))
theorem IsLab.conn_of_eq (h : IsLab n E f) {u v : Nat} (hu : u < n) (hv : v < n) (e : f u = f v) : Conn E u v :=
  (h u hu).1.symm.trans (e ▸ (h v hv).1)
theorem IsLab.eq_iff (h : IsLab n E f) {u v : Nat} (hu : u < n) (hv : v < n) : f u = f v ↔ Conn E u v := ⟨h.conn_of_eq hu hv, h.eq_of_conn hu hv⟩
theorem IsLab.idem (h : IsLab n E f) {v : Nat} (hv : v < n) : f (f v) = f v := h.eq_of_conn (h.lt hv) hv (h v hv).1
theorem IsLab.uniq {g : Nat → Nat} (h : IsLab n E f) (k : IsLab n E g) {v : Nat} (hv : v < n) : f v = g v :=
  Nat.le_antisymm ((h v hv).2 _ (k v hv).1) ((k v hv).2 _ (h v hv).1)
theorem isLab_nil : IsLab n [] (fun v => v) := fun v _ => ⟨.refl v, fun u c => by rw [conn_nil c]; exact Nat.le_refl _⟩
theorem IsLab.congrE {E' : List Edge} (h : IsLab n E f) (e : ∀ u v, Conn E u v ↔ Conn E' u v) : IsLab n E' f := fun v hv => ⟨(e _ _).mp (h v hv).1, fun u c => (h v hv).2 u ((e _ _).mpr c)⟩

/-- one more road -/
noncomputable def labStep (f : Nat → Nat) (a b : Nat) : Nat → Nat := fun v => if f v = max (f a) (f b) then min (f a) (f b) else f v

theorem IsLab.step (h : IsLab n E f) {a b : Nat} (ha : a < n) (hb : b < n) : IsLab n (E ++ [(a, b)]) (labStep f a b) := by
  intro v hv
  have ab : Conn (E ++ [(a, b)]) a b := .one (.inl (by simp))
  have up : ∀ {x y}, Conn E x y → Conn (E ++ [(a, b)]) x y := fun h => h.mono (by intro e he; simp [he])
  have hva : f v = f a → Conn E v a := h.conn_of_eq hv ha
  have hvb : f v = f b → Conn E v b := h.conn_of_eq hv hb
  unfold labStep
  split
  · rename_i e
    refine ⟨?_, fun u c => ?_⟩
    · rcases Nat.le_total (f a) (f b) with le | le
      · rw [Nat.max_eq_right le] at e
        rw [Nat.min_eq_left le]
        exact ((up (h a ha).1).trans ab).trans (up (hvb e).symm)
      · rw [Nat.max_eq_left le] at e
        rw [Nat.min_eq_right le]
        exact ((up (h b hb).1).trans ab.symm).trans (up (hva e).symm)
    · rcases conn_snoc.mp c with c | ⟨c, _⟩ | ⟨c, _⟩
      · have := (h v hv).2 u c; omega
      · have := (h a ha).2 u c; omega
      · have := (h b hb).2 u c; omega
  · rename_i e
    refine ⟨up (h v hv).1, fun u c => ?_⟩
    rcases conn_snoc.mp c with c | ⟨c, d⟩ | ⟨c, d⟩
    · exact (h v hv).2 u c
    · have h1 := (h a ha).2 u c
      have h2 := h.eq_of_conn hb hv d
      omega
    · have h1 := (h b hb).2 u c
      have h2 := h.eq_of_conn ha hv d
      omega
end

/-- the roots below k -/
noncomputable def rootsTo (f : Nat → Nat) (k : Nat) : List Nat := (List.range k).filter fun s => f s == s
noncomputable def cnt (f : Nat → Nat) (k : Nat) : Nat := (rootsTo f k).length

theorem filter_len_le {α : Type} {p q : α → Bool} : ∀ {l : List α}, (∀ x ∈ l, p x = true → q x = true) → (l.filter p).length ≤ (l.filter q).length
  | [], _ => by simp
  | a :: l, h => by
    have ih := filter_len_le (l := l) fun x hx => h x (List.mem_cons_of_mem _ hx)
    have ha := h a List.mem_cons_self
    cases hp : p a <;> cases hq : q a <;> simp [List.filter_cons, hp, hq] <;> first | omega | simp_all
theorem filter_len_eq {α : Type} {p q : α → Bool} : ∀ {l : List α}, (∀ x ∈ l, p x = true → q x = true) → (l.filter p).length = (l.filter q).length → ∀ x ∈ l, q x = true → p x = true
  | [], _, _, _, hx, _ => by cases hx
  | a :: l, h, e, x, hx, hqx => by
    have hle := filter_len_le (l := l) fun x hx => h x (List.mem_cons_of_mem _ hx)
    have ha := h a List.mem_cons_self
    cases hp : p a <;> cases hq : q a <;> simp [List.filter_cons, hp, hq] at e
    · rcases List.mem_cons.mp hx with rfl | hx
      · rw [hq] at hqx; cases hqx
      · exact filter_len_eq (fun x hx => h x (List.mem_cons_of_mem _ hx)) e x hx hqx
    · omega
    · rw [ha hp] at hq; cases hq
    · rcases List.mem_cons.mp hx with rfl | hx
      · exact hp
      · exact filter_len_eq (fun x hx => h x (List.mem_cons_of_mem _ hx)) e x hx hqx
theorem filter_len_drop {p : Nat → Bool} {h : Nat} : ∀ {l : List Nat}, l.Nodup → h ∈ l → p h = true → (l.filter fun x => p x && x != h).length + 1 = (l.filter p).length
  | [], _, hm, _ => by cases hm
  | a :: l, nd, hm, hp => by
    rw [List.nodup_cons] at nd
    by_cases e : a = h
    · subst e
      have : l.filter (fun x => p x && x != a) = l.filter p := by
        apply List.filter_congr
        intro x hx
        have : x ≠ a := fun q => nd.1 (q ▸ hx)
        simp [this]
      simp [List.filter_cons, hp, this]
    · have hm' : h ∈ l := by rcases List.mem_cons.mp hm with q | q; exact absurd q.symm e; exact q
      have ih := filter_len_drop (p := p) nd.2 hm' hp
      cases hpa : p a <;> simp [List.filter_cons, hpa, e] <;> omega

section
variable {n : Nat} {E E' : List Edge} {f g : Nat → Nat}
theorem IsLab.root_sub (h : IsLab n E f) (k : IsLab n E' g) (hs : ∀ u v, Conn E u v → Conn E' u v) {s : Nat} (hs' : s < n) (e : g s = s) : f s = s := by
  have h1 := h.le hs'
  have h2 := (k s hs').2 _ (hs _ _ (h s hs').1)
  omega
theorem IsLab.cnt_le (h : IsLab n E f) (k : IsLab n E' g) (hs : ∀ u v, Conn E u v → Conn E' u v) : cnt g n ≤ cnt f n :=
  filter_len_le fun s hs' e => by
    simp only [beq_iff_eq] at e ⊢
    exact h.root_sub k hs (List.mem_range.mp hs') e
theorem IsLab.eq_of_cnt (h : IsLab n E f) (k : IsLab n E' g) (hs : ∀ u v, Conn E u v → Conn E' u v) (e : cnt g n = cnt f n) {v : Nat} (hv : v < n) : f v = g v := by
  have key := filter_len_eq (l := List.range n) (p := fun s => g s == s) (q := fun s => f s == s) (fun s hs' e => by
    simp only [beq_iff_eq] at e ⊢
    exact h.root_sub k hs (List.mem_range.mp hs') e) e
  have r := key (f v) (List.mem_range.mpr (h.lt hv)) (by simpa using h.idem hv)
  have r' : g (f v) = f v := by simpa using r
  rw [← r']
  exact k.eq_of_conn (h.lt hv) hv (hs _ _ (h v hv).1)
theorem cnt_congr (e : ∀ v, v < n → f v = g v) : cnt f n = cnt g n := by
  unfold cnt rootsTo
  rw [List.filter_congr]
  intro x hx
  rw [e x (List.mem_range.mp hx)]
theorem cnt_id : cnt (fun v => v) n = n := by
  unfold cnt rootsTo
  rw [List.filter_eq_self.mpr (by simp)]
  simp
theorem IsLab.cnt_step (h : IsLab n E f) {a b : Nat} (ha : a < n) (hb : b < n) (hne : f a ≠ f b) : cnt (labStep f a b) n + 1 = cnt f n := by
  have hh : max (f a) (f b) < n := by have := h.lt ha; have := h.lt hb; omega
  have hr : f (max (f a) (f b)) = max (f a) (f b) := by
    rcases Nat.le_total (f a) (f b) with le | le
    · rw [Nat.max_eq_right le]; exact h.idem hb
    · rw [Nat.max_eq_left le]; exact h.idem ha
  have := filter_len_drop (p := fun s => f s == s) (h := max (f a) (f b)) (l := List.range n) List.nodup_range (List.mem_range.mpr hh) (by simpa using hr)
  unfold cnt rootsTo
  rw [← this]
  congr 2
  apply List.filter_congr
  intro x hx
  have hx' := List.mem_range.mp hx
  have hle := h.le hx'
  unfold labStep
  rw [Bool.eq_iff_iff]
  simp only [beq_iff_eq, Bool.and_eq_true, bne_iff_ne, ne_eq]
  split
  · rename_i e
    constructor
    · intro q; omega
    · rintro ⟨q1, q2⟩; omega
  · rename_i e
    constructor
    · intro q; exact ⟨q, fun z => e (q.trans z)⟩
    · intro q; exact q.1
theorem cnt_succ (f : Nat → Nat) (k : Nat) : cnt f (k + 1) = cnt f k + if f k = k then 1 else 0 := by
  unfold cnt rootsTo
  rw [List.range_succ, List.filter_append]
  simp only [List.length_append, List.filter_cons, List.filter_nil]
  by_cases e : f k = k <;> simp [e]
end
end
section
open PySem

noncomputable def RetP (P : D → Prop) : MF → St → Prop
  | .ret d, _ => P d
  | _, _ => False

theorem all_succ {P : Nat → Prop} {i : Nat} (h : ∀ j, j < i → P j) (hi : P i) : ∀ j, j < i + 1 → P j := fun j hj => (Nat.lt_succ_iff_lt_or_eq.mp hj).elim (h j) fun e => e ▸ hi
theorem forGo_inv {step : D → St → (MF → St → Prop) → Prop} {items : List D} {Q : MF → St → Prop} (I : Nat → St → Prop) {st : St} (h0 : I 0 st)
    (hs : ∀ i (h : i < items.length) st, I i st → ∀ K : MF → St → Prop, (∀ st', I (i + 1) st' → K .next st') → (∀ st', I (i + 1) st' → K .cont st') →
      (∀ d st', Q (.ret d) st' → K (.ret d) st') → step items[i] st K)
    (hf : ∀ st, I items.length st → Q .next st) : forGo step items st Q := by
  suffices H : ∀ (k : Nat) st, k ≤ items.length → I (items.length - k) st → forGo step (items.drop (items.length - k)) st Q by
    have := H items.length st (Nat.le_refl _) (by simpa using h0)
    simpa using this
  intro k
  induction k with
  | zero => intro st _ h; simp [forGo]; exact hf st (by simpa using h)
  | succ k ih =>
    intro st hk h
    have hlt : items.length - (k + 1) < items.length := by omega
    rw [List.drop_eq_getElem_cons hlt]
    unfold forGo
    have e : items.length - (k + 1) + 1 = items.length - k := by omega
    refine hs _ hlt st h _ (fun s hs' => ?_) (fun s hs' => ?_) (fun d s hs' => hs')
    · show forGo _ _ _ _
      rw [e] at hs' ⊢; exact ih s (by omega) hs'
    · show forGo _ _ _ _
      rw [e] at hs' ⊢; exact ih s (by omega) hs'

/-- a comprehension over an encoded list, without a test -/
theorem compGo_enc {α : Type} {step : D → (Option D → Prop) → Prop} (enc : α → D) (f : α → D) : ∀ {l : List α} {Q : List D → Prop},
    (∀ x ∈ l, ∀ K : Option D → Prop, K (some (f x)) → step (enc x) K) → Q (l.map f) → compGo step (l.map enc) Q
  | [], _, _, hq => hq
  | x :: xs, Q, h, hq => by
    show step (enc x) _
    exact h x List.mem_cons_self _ (compGo_enc enc f (fun y hy => h y (List.mem_cons_of_mem _ hy)) hq)
/-- .. with a test -/
theorem compGo_encF {α : Type} {step : D → (Option D → Prop) → Prop} (enc : α → D) (p : α → Bool) (f : α → D) : ∀ {l : List α} {Q : List D → Prop},
    (∀ x ∈ l, ∀ K : Option D → Prop, K (if p x = true then some (f x) else none) → step (enc x) K) → Q ((l.filter p).map f) → compGo step (l.map enc) Q
  | [], _, _, hq => hq
  | x :: xs, Q, h, hq => by
    show step (enc x) _
    refine h x List.mem_cons_self _ (compGo_encF enc p f (fun y hy => h y (List.mem_cons_of_mem _ hy)) ?_)
    cases e : p x <;> simp [e] at hq ⊢ <;> exact hq
theorem compGo2_enc {α : Type} {step : D → (List D → Prop) → Prop} (enc : α → D) (f : α → List D) : ∀ {l : List α} {Q : List D → Prop},
    (∀ x ∈ l, ∀ K : List D → Prop, K (f x) → step (enc x) K) → Q (l.flatMap f) → compGo2 step (l.map enc) Q
  | [], _, _, hq => hq
  | x :: xs, Q, h, hq => by
    show step (enc x) _
    refine h x List.mem_cons_self _ (compGo2_enc enc f (fun y hy => h y (List.mem_cons_of_mem _ hy)) ?_)
    simpa using hq

noncomputable def dN (n : Nat) : D := .int n
noncomputable def dI (n : Int) : D := .int n
noncomputable def dB (b : Bool) : D := .bool b
noncomputable def dP (e : Edge) : D := .tuple [.int e.1, .int e.2]
noncomputable def tab {α : Type} (n : Nat) (f : Nat → α) : List α := (List.range n).map f
noncomputable def upd {α : Type} (f : Nat → α) (i : Nat) (x : α) : Nat → α := fun j => if j = i then x else f j

section
variable {α β : Type} {n i : Nat} {f g : Nat → α} {x : α}
theorem tab_len : (tab n f).length = n := by simp [tab]
theorem tab_get {h : i < (tab n f).length} : (tab n f)[i] = f i := by simp [tab]
theorem tab_set : (tab n f).set i x = tab n (upd f i x) := by
  apply List.ext_getElem
  · simp [tab]
  · intro j h1 h2
    simp [tab, upd, List.getElem_set]
    by_cases e : i = j
    · subst e; simp
    · simp [e, Ne.symm e]
theorem tab_replicate : List.replicate n x = tab n fun _ => x := by
  apply List.ext_getElem <;> simp [tab]
theorem tab_congr (h : ∀ i, i < n → f i = g i) : tab n f = tab n g := by
  unfold tab
  apply List.map_congr_left
  intro a ha
  exact h a (List.mem_range.mp ha)
theorem tab_inj : tab n f = tab n g ↔ ∀ i, i < n → f i = g i := by
  constructor
  · intro h i hi
    have h1 : i < (tab n f).length := by rw [tab_len]; exact hi
    have h2 : i < (tab n g).length := by rw [tab_len]; exact hi
    have : (tab n f)[i] = (tab n g)[i] := by simp only [h]
    rwa [tab_get, tab_get] at this
  · exact tab_congr
theorem tab_map {k : α → β} : (tab n f).map k = tab n fun i => k (f i) := by simp [tab]
theorem upd_same : upd f i x i = x := by simp [upd]
theorem upd_ne {j : Nat} (h : j ≠ i) : upd f i x j = f j := by simp [upd, h]
end
theorem rangeL_zero (n : Nat) : rangeL 0 (n : Int) = tab n dN := by
  unfold rangeL tab dN
  simp
/- data that are compared -/
theorem canLay_map {α : Type} {e : α → D} (h : ∀ x, (e x).canLay0 = true) : ∀ l : List α, PyData.canLayAll0 (l.map e) = true
  | [] => rfl
  | x :: l => by simp only [List.map_cons, PyData.canLayAll0, h x, canLay_map h l, Bool.and_self]
theorem depth_map {α : Type} {e : α → D} {k : Nat} (h : ∀ x, (e x).depth ≤ k) : ∀ l : List α, PyData.depthAll (l.map e) ≤ k
  | [] => Nat.zero_le _
  | x :: l => by simp only [List.map_cons, PyData.depthAll]; have := h x; have := depth_map h l; omega
theorem eqv_ii (a b : Int) : PyData.eqv (.int a) (.int b) = (a == b) := rfl
theorem eqv_ll (a b : List D) : PyData.eqv (.list a) (.list b) = PyData.eqvAll a b := rfl
theorem eqv_tt (a b : List D) : PyData.eqv (.tuple a) (.tuple b) = PyData.eqvAll a b := rfl
theorem eqv_bb (a b : Bool) : PyData.eqv (.bool a) (.bool b) = (a == b) := rfl
theorem eqv_ss (a b : Str) : PyData.eqv (.str a) (.str b) = (a == b) := rfl
theorem eqvA_nil : PyData.eqvAll [] [] = true := rfl
theorem eqvA_cons (a b : D) (x y : List D) : PyData.eqvAll (a :: x) (b :: y) = (PyData.eqv a b && PyData.eqvAll x y) := rfl
theorem eqvA_nc (b : D) (y : List D) : PyData.eqvAll [] (b :: y) = false := rfl
theorem eqvA_cn (b : D) (y : List D) : PyData.eqvAll (b :: y) [] = false := rfl
theorem eqvAll_map {α : Type} {e : α → D} (h : ∀ x y, PyData.eqv (e x) (e y) = true ↔ x = y) : ∀ l l' : List α, PyData.eqvAll (l.map e) (l'.map e) = true ↔ l = l'
  | [], [] => by simp [eqv_ii, eqv_ll, eqv_tt, eqv_bb, eqv_ss, eqvA_nil, eqvA_cons, eqvA_nc, eqvA_cn]
  | [], _ :: _ => by simp [eqv_ii, eqv_ll, eqv_tt, eqv_bb, eqv_ss, eqvA_nil, eqvA_cons, eqvA_nc, eqvA_cn]
  | _ :: _, [] => by simp [eqv_ii, eqv_ll, eqv_tt, eqv_bb, eqv_ss, eqvA_nil, eqvA_cons, eqvA_nc, eqvA_cn]
  | x :: l, y :: l' => by simp [eqv_ii, eqv_ll, eqv_tt, eqv_bb, eqv_ss, eqvA_nil, eqvA_cons, eqvA_nc, eqvA_cn, h x y, eqvAll_map h l l']

theorem eqv_dN (a b : Nat) : PyData.eqv (dN a) (dN b) = true ↔ a = b := by simp only [dN, eqv_ii, eqv_ll, eqv_tt, eqv_bb, eqv_ss, eqvA_nil, eqvA_cons, eqvA_nc, eqvA_cn, beq_iff_eq]; omega
theorem eqv_int (a b : Int) : PyData.eqv (.int a) (.int b) = true ↔ a = b := by simp [eqv_ii, eqv_ll, eqv_tt, eqv_bb, eqv_ss, eqvA_nil, eqvA_cons, eqvA_nc, eqvA_cn]
theorem eqv_dP (a b : Edge) : PyData.eqv (dP a) (dP b) = true ↔ a = b := by
  simp only [dP, eqv_ii, eqv_ll, eqv_tt, eqv_bb, eqv_ss, eqvA_nil, eqvA_cons, eqvA_nc, eqvA_cn, Bool.and_eq_true, beq_iff_eq, and_true, Prod.ext_iff]
  omega

noncomputable def dNs (l : List Nat) : D := .list (l.map dN)
noncomputable def dIs (l : List Int) : D := .list (l.map .int)
noncomputable def dPs (l : List Edge) : D := .list (l.map dP)
theorem eqv_dNs (a b : List Nat) : PyData.eqv (dNs a) (dNs b) = true ↔ a = b := by
  simp only [dNs, eqv_ii, eqv_ll, eqv_tt, eqv_bb, eqv_ss, eqvA_nil, eqvA_cons, eqvA_nc, eqvA_cn]; exact eqvAll_map eqv_dN a b
theorem eqv_dIs (a b : List Int) : PyData.eqv (dIs a) (dIs b) = true ↔ a = b := by
  simp only [dIs, eqv_ii, eqv_ll, eqv_tt, eqv_bb, eqv_ss, eqvA_nil, eqvA_cons, eqvA_nc, eqvA_cn]; exact eqvAll_map eqv_int a b
theorem eqv_dPs (a b : List Edge) : PyData.eqv (dPs a) (dPs b) = true ↔ a = b := by
  simp only [dPs, eqv_ii, eqv_ll, eqv_tt, eqv_bb, eqv_ss, eqvA_nil, eqvA_cons, eqvA_nc, eqvA_cn]; exact eqvAll_map eqv_dP a b
theorem ok_int (a : Int) : okD (.int a) = true := by simp [okD, PyData.canLay0, PyData.depth]
theorem ok_dN (a : Nat) : okD (dN a) = true := ok_int a
theorem ok_bool (a : Bool) : okD (.bool a) = true := by simp [okD, PyData.canLay0, PyData.depth]
theorem ok_dNs (l : List Nat) : okD (dNs l) = true := by
  have h1 := canLay_map (e := dN) (fun _ => rfl) l
  have h2 := depth_map (e := dN) (k := 0) (fun _ => by simp [dN, PyData.depth]) l
  simp only [okD, dNs, PyData.canLay0, PyData.depth, h1, Bool.true_and, decide_eq_true_eq]; omega
theorem ok_dIs (l : List Int) : okD (dIs l) = true := by
  have h1 := canLay_map (e := PyData.int) (fun _ => by simp [PyData.canLay0]) l
  have h2 := depth_map (e := PyData.int) (k := 0) (fun _ => by simp [PyData.depth]) l
  simp only [okD, dIs, PyData.canLay0, PyData.depth, h1, Bool.true_and, decide_eq_true_eq]; omega
theorem ok_dPs (l : List Edge) : okD (dPs l) = true := by
  have h1 := canLay_map (e := dP) (fun _ => by simp [dP, PyData.canLay0, PyData.canLayAll0]) l
  have h2 := depth_map (e := dP) (k := 1) (fun _ => by simp [dP, PyData.depth, PyData.depthAll]) l
  simp only [okD, dPs, PyData.canLay0, PyData.depth, h1, Bool.true_and, decide_eq_true_eq]; omega


noncomputable def forB (Φ : Funs) (Λ : Lends) (tg : Tgt) (body : List MS) : D → St → (MF → St → Prop) → Prop := fun d st K => assignT tg st d fun st' => wpSs Φ Λ body st' K
noncomputable def whileW (Φ : Funs) (Λ : Lends) (c : ME) (body : List MS) (st : St) (Q : MF → St → Prop) : Prop := wpS Φ Λ (.whileLoop c body) st Q
noncomputable def compB (Φ : Funs) (elt : ME) (tg : Tgt) (cond : ME) (st : St) : D → (Option D → Prop) → Prop :=
  fun d K => assignT tg st d fun st' => wpT Φ cond st' fun r => if r = true then wpE Φ elt st' fun v => K (some v) else K none
noncomputable def compB2 (Φ : Funs) (elt : ME) (t1 t2 : Nat) (i2 : It) (st : St) : D → (List D → Prop) → Prop :=
  fun d K => wpIt Φ i2 (st.set t1 (.sh d)) fun items2 => items2.length ≤ 1000 ∧ compGo (fun d2 K2 => wpE Φ elt ((st.set t1 (.sh d)).set t2 (.sh d2)) fun v => K2 (some v)) items2 K

theorem while_inv {Φ : Funs} {Λ : Lends} {c : ME} {body : List MS} {st : St} {Q : MF → St → Prop} (I : Nat → St → Prop) (n : Nat) (h0 : I n st)
    (hs : ∀ n st, I n st → wpT Φ c st fun r => if r = true then wpSs Φ Λ body st (loopF (fun st' => ∃ m, m < n ∧ I m st') Q) else Q .next st) : whileW Φ Λ c body st Q := by
  exact ⟨I, ⟨n, h0⟩, hs⟩

/-! loops whose state is a function of the loop's variables -/
theorem forGo_F1 {α0 : Type} {step : D → St → (MF → St → Prop) → Prop} {items : List D} {Q : MF → St → Prop} (P : Nat → α0 → Prop) (F : Nat → α0 → St) {st : St} {a0 : α0} (e : st = F 0 a0) (h0 : P 0 a0)
    (hs : ∀ i (h : i < items.length) a0, P i a0 → ∀ K : MF → St → Prop, (∀ a0, P (i + 1) a0 → K .next (F (i + 1) a0)) → (∀ a0, P (i + 1) a0 → K .cont (F (i + 1) a0)) → (∀ d st', Q (.ret d) st' → K (.ret d) st') → step items[i] (F i a0) K)
    (hf : ∀ a0, P items.length a0 → Q .next (F items.length a0)) : forGo step items st Q :=
  forGo_inv (fun i st => ∃ a0, P i a0 ∧ st = F i a0) ⟨a0, h0, e⟩ (fun i h st hI K hK hC hR => by
    obtain ⟨a0, hp, rfl⟩ := hI
    exact hs i h a0 hp K (fun b0 q => hK _ ⟨b0, q, rfl⟩) (fun b0 q => hC _ ⟨b0, q, rfl⟩) hR) fun st hI => by
    obtain ⟨a0, hp, rfl⟩ := hI
    exact hf a0 hp
theorem forGo_F2 {α0 α1 : Type} {step : D → St → (MF → St → Prop) → Prop} {items : List D} {Q : MF → St → Prop} (P : Nat → α0 → α1 → Prop) (F : Nat → α0 → α1 → St) {st : St} {a0 : α0} {a1 : α1} (e : st = F 0 a0 a1) (h0 : P 0 a0 a1)
    (hs : ∀ i (h : i < items.length) a0 a1, P i a0 a1 → ∀ K : MF → St → Prop, (∀ a0 a1, P (i + 1) a0 a1 → K .next (F (i + 1) a0 a1)) → (∀ a0 a1, P (i + 1) a0 a1 → K .cont (F (i + 1) a0 a1)) → (∀ d st', Q (.ret d) st' → K (.ret d) st') → step items[i] (F i a0 a1) K)
    (hf : ∀ a0 a1, P items.length a0 a1 → Q .next (F items.length a0 a1)) : forGo step items st Q :=
  forGo_inv (fun i st => ∃ a0 a1, P i a0 a1 ∧ st = F i a0 a1) ⟨a0, a1, h0, e⟩ (fun i h st hI K hK hC hR => by
    obtain ⟨a0, a1, hp, rfl⟩ := hI
    exact hs i h a0 a1 hp K (fun b0 b1 q => hK _ ⟨b0, b1, q, rfl⟩) (fun b0 b1 q => hC _ ⟨b0, b1, q, rfl⟩) hR) fun st hI => by
    obtain ⟨a0, a1, hp, rfl⟩ := hI
    exact hf a0 a1 hp
theorem forGo_F3 {α0 α1 α2 : Type} {step : D → St → (MF → St → Prop) → Prop} {items : List D} {Q : MF → St → Prop} (P : Nat → α0 → α1 → α2 → Prop) (F : Nat → α0 → α1 → α2 → St) {st : St} {a0 : α0} {a1 : α1} {a2 : α2} (e : st = F 0 a0 a1 a2) (h0 : P 0 a0 a1 a2)
    (hs : ∀ i (h : i < items.length) a0 a1 a2, P i a0 a1 a2 → ∀ K : MF → St → Prop, (∀ a0 a1 a2, P (i + 1) a0 a1 a2 → K .next (F (i + 1) a0 a1 a2)) → (∀ a0 a1 a2, P (i + 1) a0 a1 a2 → K .cont (F (i + 1) a0 a1 a2)) → (∀ d st', Q (.ret d) st' → K (.ret d) st') → step items[i] (F i a0 a1 a2) K)
    (hf : ∀ a0 a1 a2, P items.length a0 a1 a2 → Q .next (F items.length a0 a1 a2)) : forGo step items st Q :=
  forGo_inv (fun i st => ∃ a0 a1 a2, P i a0 a1 a2 ∧ st = F i a0 a1 a2) ⟨a0, a1, a2, h0, e⟩ (fun i h st hI K hK hC hR => by
    obtain ⟨a0, a1, a2, hp, rfl⟩ := hI
    exact hs i h a0 a1 a2 hp K (fun b0 b1 b2 q => hK _ ⟨b0, b1, b2, q, rfl⟩) (fun b0 b1 b2 q => hC _ ⟨b0, b1, b2, q, rfl⟩) hR) fun st hI => by
    obtain ⟨a0, a1, a2, hp, rfl⟩ := hI
    exact hf a0 a1 a2 hp
theorem forGo_F4 {α0 α1 α2 α3 : Type} {step : D → St → (MF → St → Prop) → Prop} {items : List D} {Q : MF → St → Prop} (P : Nat → α0 → α1 → α2 → α3 → Prop) (F : Nat → α0 → α1 → α2 → α3 → St) {st : St} {a0 : α0} {a1 : α1} {a2 : α2} {a3 : α3} (e : st = F 0 a0 a1 a2 a3) (h0 : P 0 a0 a1 a2 a3)
    (hs : ∀ i (h : i < items.length) a0 a1 a2 a3, P i a0 a1 a2 a3 → ∀ K : MF → St → Prop, (∀ a0 a1 a2 a3, P (i + 1) a0 a1 a2 a3 → K .next (F (i + 1) a0 a1 a2 a3)) → (∀ a0 a1 a2 a3, P (i + 1) a0 a1 a2 a3 → K .cont (F (i + 1) a0 a1 a2 a3)) → (∀ d st', Q (.ret d) st' → K (.ret d) st') → step items[i] (F i a0 a1 a2 a3) K)
    (hf : ∀ a0 a1 a2 a3, P items.length a0 a1 a2 a3 → Q .next (F items.length a0 a1 a2 a3)) : forGo step items st Q :=
  forGo_inv (fun i st => ∃ a0 a1 a2 a3, P i a0 a1 a2 a3 ∧ st = F i a0 a1 a2 a3) ⟨a0, a1, a2, a3, h0, e⟩ (fun i h st hI K hK hC hR => by
    obtain ⟨a0, a1, a2, a3, hp, rfl⟩ := hI
    exact hs i h a0 a1 a2 a3 hp K (fun b0 b1 b2 b3 q => hK _ ⟨b0, b1, b2, b3, q, rfl⟩) (fun b0 b1 b2 b3 q => hC _ ⟨b0, b1, b2, b3, q, rfl⟩) hR) fun st hI => by
    obtain ⟨a0, a1, a2, a3, hp, rfl⟩ := hI
    exact hf a0 a1 a2 a3 hp
theorem forGo_F6 {α0 α1 α2 α3 α4 α5 : Type} {step : D → St → (MF → St → Prop) → Prop} {items : List D} {Q : MF → St → Prop} (P : Nat → α0 → α1 → α2 → α3 → α4 → α5 → Prop) (F : Nat → α0 → α1 → α2 → α3 → α4 → α5 → St) {st : St} {a0 : α0} {a1 : α1} {a2 : α2} {a3 : α3} {a4 : α4} {a5 : α5} (e : st = F 0 a0 a1 a2 a3 a4 a5) (h0 : P 0 a0 a1 a2 a3 a4 a5)
    (hs : ∀ i (h : i < items.length) a0 a1 a2 a3 a4 a5, P i a0 a1 a2 a3 a4 a5 → ∀ K : MF → St → Prop, (∀ a0 a1 a2 a3 a4 a5, P (i + 1) a0 a1 a2 a3 a4 a5 → K .next (F (i + 1) a0 a1 a2 a3 a4 a5)) → (∀ a0 a1 a2 a3 a4 a5, P (i + 1) a0 a1 a2 a3 a4 a5 → K .cont (F (i + 1) a0 a1 a2 a3 a4 a5)) → (∀ d st', Q (.ret d) st' → K (.ret d) st') → step items[i] (F i a0 a1 a2 a3 a4 a5) K)
    (hf : ∀ a0 a1 a2 a3 a4 a5, P items.length a0 a1 a2 a3 a4 a5 → Q .next (F items.length a0 a1 a2 a3 a4 a5)) : forGo step items st Q :=
  forGo_inv (fun i st => ∃ a0 a1 a2 a3 a4 a5, P i a0 a1 a2 a3 a4 a5 ∧ st = F i a0 a1 a2 a3 a4 a5) ⟨a0, a1, a2, a3, a4, a5, h0, e⟩ (fun i h st hI K hK hC hR => by
    obtain ⟨a0, a1, a2, a3, a4, a5, hp, rfl⟩ := hI
    exact hs i h a0 a1 a2 a3 a4 a5 hp K (fun b0 b1 b2 b3 b4 b5 q => hK _ ⟨b0, b1, b2, b3, b4, b5, q, rfl⟩) (fun b0 b1 b2 b3 b4 b5 q => hC _ ⟨b0, b1, b2, b3, b4, b5, q, rfl⟩) hR) fun st hI => by
    obtain ⟨a0, a1, a2, a3, a4, a5, hp, rfl⟩ := hI
    exact hf a0 a1 a2 a3 a4 a5 hp
theorem forGo_F8 {α0 α1 α2 α3 α4 α5 α6 α7 : Type} {step : D → St → (MF → St → Prop) → Prop} {items : List D} {Q : MF → St → Prop} (P : Nat → α0 → α1 → α2 → α3 → α4 → α5 → α6 → α7 → Prop) (F : Nat → α0 → α1 → α2 → α3 → α4 → α5 → α6 → α7 → St) {st : St} {a0 : α0} {a1 : α1} {a2 : α2} {a3 : α3} {a4 : α4} {a5 : α5} {a6 : α6} {a7 : α7} (e : st = F 0 a0 a1 a2 a3 a4 a5 a6 a7) (h0 : P 0 a0 a1 a2 a3 a4 a5 a6 a7)
    (hs : ∀ i (h : i < items.length) a0 a1 a2 a3 a4 a5 a6 a7, P i a0 a1 a2 a3 a4 a5 a6 a7 → ∀ K : MF → St → Prop, (∀ a0 a1 a2 a3 a4 a5 a6 a7, P (i + 1) a0 a1 a2 a3 a4 a5 a6 a7 → K .next (F (i + 1) a0 a1 a2 a3 a4 a5 a6 a7)) → (∀ a0 a1 a2 a3 a4 a5 a6 a7, P (i + 1) a0 a1 a2 a3 a4 a5 a6 a7 → K .cont (F (i + 1) a0 a1 a2 a3 a4 a5 a6 a7)) → (∀ d st', Q (.ret d) st' → K (.ret d) st') → step items[i] (F i a0 a1 a2 a3 a4 a5 a6 a7) K)
    (hf : ∀ a0 a1 a2 a3 a4 a5 a6 a7, P items.length a0 a1 a2 a3 a4 a5 a6 a7 → Q .next (F items.length a0 a1 a2 a3 a4 a5 a6 a7)) : forGo step items st Q :=
  forGo_inv (fun i st => ∃ a0 a1 a2 a3 a4 a5 a6 a7, P i a0 a1 a2 a3 a4 a5 a6 a7 ∧ st = F i a0 a1 a2 a3 a4 a5 a6 a7) ⟨a0, a1, a2, a3, a4, a5, a6, a7, h0, e⟩ (fun i h st hI K hK hC hR => by
    obtain ⟨a0, a1, a2, a3, a4, a5, a6, a7, hp, rfl⟩ := hI
    exact hs i h a0 a1 a2 a3 a4 a5 a6 a7 hp K (fun b0 b1 b2 b3 b4 b5 b6 b7 q => hK _ ⟨b0, b1, b2, b3, b4, b5, b6, b7, q, rfl⟩) (fun b0 b1 b2 b3 b4 b5 b6 b7 q => hC _ ⟨b0, b1, b2, b3, b4, b5, b6, b7, q, rfl⟩) hR) fun st hI => by
    obtain ⟨a0, a1, a2, a3, a4, a5, a6, a7, hp, rfl⟩ := hI
    exact hf a0 a1 a2 a3 a4 a5 a6 a7 hp
theorem while_F1 {α0 : Type} {Φ : Funs} {Λ : Lends} {c : ME} {body : List MS} {st : St} {Q : MF → St → Prop} (P : Nat → α0 → Prop) (F : α0 → St) {a0 : α0} (n : Nat) (e : st = F a0) (h0 : P n a0)
    (hs : ∀ m a0, P m a0 → ∀ L : St → Prop, (∀ m' b0, m' < m → P m' b0 → L (F b0)) → wpT Φ c (F a0) fun r => if r = true then wpSs Φ Λ body (F a0) (loopF L Q) else Q .next (F a0)) : whileW Φ Λ c body st Q :=
  while_inv (fun m st => ∃ a0, P m a0 ∧ st = F a0) n ⟨a0, h0, e⟩ fun m st hI => by
    obtain ⟨a0, hp, rfl⟩ := hI
    exact hs m a0 hp _ fun m' b0 hlt q => ⟨m', hlt, b0, q, rfl⟩
theorem while_F2 {α0 α1 : Type} {Φ : Funs} {Λ : Lends} {c : ME} {body : List MS} {st : St} {Q : MF → St → Prop} (P : Nat → α0 → α1 → Prop) (F : α0 → α1 → St) {a0 : α0} {a1 : α1} (n : Nat) (e : st = F a0 a1) (h0 : P n a0 a1)
    (hs : ∀ m a0 a1, P m a0 a1 → ∀ L : St → Prop, (∀ m' b0 b1, m' < m → P m' b0 b1 → L (F b0 b1)) → wpT Φ c (F a0 a1) fun r => if r = true then wpSs Φ Λ body (F a0 a1) (loopF L Q) else Q .next (F a0 a1)) : whileW Φ Λ c body st Q :=
  while_inv (fun m st => ∃ a0 a1, P m a0 a1 ∧ st = F a0 a1) n ⟨a0, a1, h0, e⟩ fun m st hI => by
    obtain ⟨a0, a1, hp, rfl⟩ := hI
    exact hs m a0 a1 hp _ fun m' b0 b1 hlt q => ⟨m', hlt, b0, b1, q, rfl⟩
theorem while_F3 {α0 α1 α2 : Type} {Φ : Funs} {Λ : Lends} {c : ME} {body : List MS} {st : St} {Q : MF → St → Prop} (P : Nat → α0 → α1 → α2 → Prop) (F : α0 → α1 → α2 → St) {a0 : α0} {a1 : α1} {a2 : α2} (n : Nat) (e : st = F a0 a1 a2) (h0 : P n a0 a1 a2)
    (hs : ∀ m a0 a1 a2, P m a0 a1 a2 → ∀ L : St → Prop, (∀ m' b0 b1 b2, m' < m → P m' b0 b1 b2 → L (F b0 b1 b2)) → wpT Φ c (F a0 a1 a2) fun r => if r = true then wpSs Φ Λ body (F a0 a1 a2) (loopF L Q) else Q .next (F a0 a1 a2)) : whileW Φ Λ c body st Q :=
  while_inv (fun m st => ∃ a0 a1 a2, P m a0 a1 a2 ∧ st = F a0 a1 a2) n ⟨a0, a1, a2, h0, e⟩ fun m st hI => by
    obtain ⟨a0, a1, a2, hp, rfl⟩ := hI
    exact hs m a0 a1 a2 hp _ fun m' b0 b1 b2 hlt q => ⟨m', hlt, b0, b1, b2, q, rfl⟩
theorem while_F4 {α0 α1 α2 α3 : Type} {Φ : Funs} {Λ : Lends} {c : ME} {body : List MS} {st : St} {Q : MF → St → Prop} (P : Nat → α0 → α1 → α2 → α3 → Prop) (F : α0 → α1 → α2 → α3 → St) {a0 : α0} {a1 : α1} {a2 : α2} {a3 : α3} (n : Nat) (e : st = F a0 a1 a2 a3) (h0 : P n a0 a1 a2 a3)
    (hs : ∀ m a0 a1 a2 a3, P m a0 a1 a2 a3 → ∀ L : St → Prop, (∀ m' b0 b1 b2 b3, m' < m → P m' b0 b1 b2 b3 → L (F b0 b1 b2 b3)) → wpT Φ c (F a0 a1 a2 a3) fun r => if r = true then wpSs Φ Λ body (F a0 a1 a2 a3) (loopF L Q) else Q .next (F a0 a1 a2 a3)) : whileW Φ Λ c body st Q :=
  while_inv (fun m st => ∃ a0 a1 a2 a3, P m a0 a1 a2 a3 ∧ st = F a0 a1 a2 a3) n ⟨a0, a1, a2, a3, h0, e⟩ fun m st hI => by
    obtain ⟨a0, a1, a2, a3, hp, rfl⟩ := hI
    exact hs m a0 a1 a2 a3 hp _ fun m' b0 b1 b2 b3 hlt q => ⟨m', hlt, b0, b1, b2, b3, q, rfl⟩
theorem while_F8 {α0 α1 α2 α3 α4 α5 α6 α7 : Type} {Φ : Funs} {Λ : Lends} {c : ME} {body : List MS} {st : St} {Q : MF → St → Prop} (P : Nat → α0 → α1 → α2 → α3 → α4 → α5 → α6 → α7 → Prop) (F : α0 → α1 → α2 → α3 → α4 → α5 → α6 → α7 → St) {a0 : α0} {a1 : α1} {a2 : α2} {a3 : α3} {a4 : α4} {a5 : α5} {a6 : α6} {a7 : α7} (n : Nat) (e : st = F a0 a1 a2 a3 a4 a5 a6 a7) (h0 : P n a0 a1 a2 a3 a4 a5 a6 a7)
    (hs : ∀ m a0 a1 a2 a3 a4 a5 a6 a7, P m a0 a1 a2 a3 a4 a5 a6 a7 → ∀ L : St → Prop, (∀ m' b0 b1 b2 b3 b4 b5 b6 b7, m' < m → P m' b0 b1 b2 b3 b4 b5 b6 b7 → L (F b0 b1 b2 b3 b4 b5 b6 b7)) → wpT Φ c (F a0 a1 a2 a3 a4 a5 a6 a7) fun r => if r = true then wpSs Φ Λ body (F a0 a1 a2 a3 a4 a5 a6 a7) (loopF L Q) else Q .next (F a0 a1 a2 a3 a4 a5 a6 a7)) : whileW Φ Λ c body st Q :=
  while_inv (fun m st => ∃ a0 a1 a2 a3 a4 a5 a6 a7, P m a0 a1 a2 a3 a4 a5 a6 a7 ∧ st = F a0 a1 a2 a3 a4 a5 a6 a7) n ⟨a0, a1, a2, a3, a4, a5, a6, a7, h0, e⟩ fun m st hI => by
    obtain ⟨a0, a1, a2, a3, a4, a5, a6, a7, hp, rfl⟩ := hI
    exact hs m a0 a1 a2 a3 a4 a5 a6 a7 hp _ fun m' b0 b1 b2 b3 b4 b5 b6 b7 hlt q => ⟨m', hlt, b0, b1, b2, b3, b4, b5, b6, b7, q, rfl⟩

section
variable {Q : D → Prop} {R : Bool → Prop} {T : List D → Prop} {d : D} {ds a b : List D} {k j x y : Int} {p q : Bool}
theorem z0 : shAt (some (.sh d)) Q = Q d := rfl
theorem z2 : ownAt (some (.own1 ds)) T = T ds := rfl
theorem z3 : ownAt (some (.lent ds)) T = T ds := rfl
theorem z4 : own1At (some (.own1 ds)) T = T ds := rfl
theorem z5 {U : List (List D) → Prop} {dss : List (List D)} : own2At (some (.own2 dss)) U = U dss := rfl
theorem z6 : listD (.list ds) T = T ds := rfl
theorem z7 {U : Int → Prop} : intD (.int k) U = U k := rfl
theorem z8 : frozen (some (.own1 ds)) Q = Q (.list ds) := rfl
theorem z9 {dss : List (List D)} : frozen (some (.own2 dss)) Q = Q (.list (dss.map .list)) := rfl
theorem za {i : Nat} {U : Slot → Prop} : storeAt (some (.own1 ds)) i d U = (i < ds.length ∧ U (.own1 (ds.set i d))) := rfl
theorem zc {i : Nat} {U : Slot → Prop} : storeAt (some (.lent ds)) i d U = (i < ds.length ∧ U (.lent (ds.set i d))) := rfl
theorem zd : itemD (.list ds) (.int k) Q = (0 ≤ k ∧ ∃ h : k.toNat < ds.length, Q ds[k.toNat]) := rfl
theorem ze : itemD (.tuple (d :: ds)) (.int 0) Q = Q d := rfl
theorem zf {d' : D} : itemD (.tuple (d' :: d :: ds)) (.int 1) Q = Q d := rfl
theorem nthD_inv : ∀ {ds : List D} {n : Nat}, nthD ds n Q → ∃ h : n < ds.length, Q ds[n]
  | [], _, h => h.elim
  | _ :: _, 0, h => ⟨Nat.succ_pos _, h⟩
  | _ :: _, n + 1, h => Exists.elim (nthD_inv (n := n) h) fun h q => ⟨Nat.succ_lt_succ h, q⟩
theorem eqD_inv {u v : D} (h : eqD u v R) : eqG u v R := by
  unfold eqD at h
  split at h
  · split at h
    · exact ⟨ok_int _, ok_int _, h⟩
    · exact h
  · exact h
theorem eqD_of {u v : D} (h : eqG u v R) : eqD u v R := by
  unfold eqD
  split
  · split
    · exact h.2.2
    · exact h
  · exact h
theorem r_eqL {v : D} : cmpD .eq (.list ds) v R = (okD (.list ds) = true ∧ okD v = true ∧ R (PyData.eqv (.list ds) v)) := rfl
theorem r_neL {v : D} : cmpD .ne (.list ds) v R = (okD (.list ds) = true ∧ okD v = true ∧ R (!PyData.eqv (.list ds) v)) := rfl
theorem r_neT {v : D} : cmpD .ne (.tuple ds) v R = (okD (.tuple ds) = true ∧ okD v = true ∧ R (!PyData.eqv (.tuple ds) v)) := rfl
theorem r_neS {s : Str} {v : D} : cmpD .ne (.str s) v R = (okD (.str s) = true ∧ okD v = true ∧ R (!PyData.eqv (.str s) v)) := rfl
theorem zg : binD .add (.int x) (.int y) Q = Q (.int (x + y)) := rfl
theorem zh : binD .add (.list a) (.list b) Q = (a.length + b.length ≤ 1000000 ∧ Q (.list (a ++ b))) := rfl
theorem zi : binD .sub (.int x) (.int y) Q = Q (.int (x - y)) := rfl
theorem zj : binD .mul (.int x) (.int y) Q = (0 ≤ x ∧ x ≤ 1000 ∧ 0 ≤ y ∧ y ≤ 1000 ∧ Q (.int (x * y))) := rfl
theorem zk : binD .mul (.list [d]) (.int k) Q = (k.natAbs ≤ 1000000 ∧ Q (.list (List.replicate k.toNat d))) := rfl
theorem zl : binD .mod (.int x) (.int y) Q = (0 < y ∧ Q (.int (x % y))) := rfl
theorem r_eq {u v : D} : cmpD .eq u v R = (okD u = true ∧ okD v = true ∧ R (PyData.eqv u v)) := propext ⟨eqD_inv, eqD_of⟩
theorem zm : cmpD .eq (.int x) (.int y) R = R (decide (x = y)) := rfl
theorem r_ne {u v : D} : cmpD .ne u v R = (okD u = true ∧ okD v = true ∧ R (!PyData.eqv u v)) := propext ⟨eqD_inv (R := fun r => R (!r)), eqD_of (R := fun r => R (!r))⟩
theorem zn : cmpD .ne (.int x) (.int y) R = R (!decide (x = y)) := rfl
theorem zo : cmpD .lt (.int x) (.int y) R = R (decide (x < y)) := rfl
theorem zp {z w : Int} : cmpD .lt (.tuple [.int x, .int y]) (.tuple [.int z, .int w]) R = R (decide (x < z ∨ (x = z ∧ y < w))) := rfl
theorem zq : cmpD .le (.int x) (.int y) R = R (decide (x ≤ y)) := rfl
theorem zr : cmpD .gt (.int x) (.int y) R = R (decide (x > y)) := rfl
theorem zt : cmpD .ge (.int x) (.int y) R = R (decide (x ≥ y)) := rfl
theorem r_inL : cmpD .isin (.int k) (.list ds) R = ∃ ns : List Int, ds = ns.map .int ∧ R (decide (k ∈ ns)) := rfl
theorem r_inT : cmpD .isin (.int k) (.tuple ds) R = ∃ ns : List Int, ds = ns.map .int ∧ R (decide (k ∈ ns)) := rfl
theorem r_notinL : cmpD .notin (.int k) (.list ds) R = ∃ ns : List Int, ds = ns.map .int ∧ R (!decide (k ∈ ns)) := rfl
theorem r_notinT : cmpD .notin (.int k) (.tuple ds) R = ∃ ns : List Int, ds = ns.map .int ∧ R (!decide (k ∈ ns)) := rfl
theorem zu : truthD (.bool p) R = R p := rfl
theorem zv : lenD (.list ds) Q = Q (.int ds.length) := rfl
theorem zw : lenD (.tuple ds) Q = Q (.int ds.length) := rfl
theorem zx : minD (.int x) (.int y) Q = Q (.int (min x y)) := rfl
theorem zy : maxD (.int x) (.int y) Q = Q (.int (max x y)) := rfl
theorem zA : rangeD (.int x) (.int y) T = (0 ≤ x ∧ x ≤ 1000000 ∧ y.natAbs ≤ 1000000 ∧ T (rangeL x y)) := rfl
theorem zB : itemsD (.list ds) T = (ds.length ≤ 1000000 ∧ T ds) := rfl
theorem zC : itemsD (.tuple ds) T = (ds.length ≤ 1000000 ∧ T ds) := rfl
theorem zD : tupD (.tuple ds) T = T ds := rfl
theorem zE {i : Nat} {st : St} {U : St → Prop} : assignT (.one i) st d U = U (st.set i (.sh d)) := rfl
theorem zF {is : List Nat} {st : St} {U : St → Prop} : assignT (.many is) st d U = tupD d fun ds => ds.length = is.length ∧ U (setMany st is ds) := rfl
theorem zG {st : St} : setMany st [] [] = st := rfl
theorem zH {st : St} {i : Nat} {is : List Nat} : setMany st (i :: is) (d :: ds) = setMany (st.set i (.sh d)) is ds := rfl
theorem zI {K : St → (MF → St → Prop) → Prop} {U : MF → St → Prop} {st : St} : seqF K U .next st = K st U := rfl
theorem zJ {K : St → (MF → St → Prop) → Prop} {U : MF → St → Prop} {st : St} : seqF K U .cont st = U .cont st := rfl
theorem zK {K : St → (MF → St → Prop) → Prop} {U : MF → St → Prop} {st : St} : seqF K U (.ret d) st = U (.ret d) st := rfl
theorem zL {K : St → Prop} {U : MF → St → Prop} {st : St} : loopF K U .next st = K st := rfl
theorem zM {K : St → Prop} {U : MF → St → Prop} {st : St} : loopF K U .cont st = K st := rfl
theorem zN {K : St → Prop} {U : MF → St → Prop} {st : St} : loopF K U (.ret d) st = U (.ret d) st := rfl
theorem zO {st : St} : RetP Q (.ret d) st = Q d := rfl
theorem zP : listOfD (.list ds) Q = (ds.length ≤ 1000000 ∧ Q (.list ds)) := rfl
theorem zQ : listRangeD (.int k) Q = (k.natAbs ≤ 1000000 ∧ Q (.list (rangeL 0 k))) := rfl
theorem zR : sliceToD (.list ds) (.int k) Q = (0 ≤ k ∧ k ≤ 1000000 ∧ ds.length ≤ 1000000 ∧ Q (.list (ds.take k.toNat))) := rfl
theorem zS : sliceFromD (.list ds) (.int k) Q = (0 ≤ k ∧ k ≤ 1000000 ∧ ds.length ≤ 1000000 ∧ Q (.list (ds.drop k.toNat))) := rfl
theorem zT : sliceBothD (.list ds) (.int k) (.int j) Q = (0 ≤ k ∧ k ≤ 1000000 ∧ 0 ≤ j ∧ j ≤ 1000000 ∧ ds.length ≤ 1000000 ∧ Q (.list ((ds.take j.toNat).drop k.toNat))) := rfl
theorem zU : revD (.list ds) Q = (ds.length ≤ 1000000 ∧ Q (.list ds.reverse)) := rfl
theorem zV : isNoneD .none = true := rfl
theorem zW : isNoneD (.int k) = false := rfl
theorem zX : isNoneD (.tuple ds) = false := rfl
theorem r_sumD : sumD (.list ds) Q = ∃ ns : List Int, ds = ns.map .int ∧ Q (.int ns.sum) := rfl
theorem r_setLen : setLenD (.list ds) Q = ∃ ns : List Int, ds = ns.map .int ∧ ns.length ≤ 1000 ∧ Q (.int ns.eraseDups.length) := rfl
theorem r_all : allD (.list ds) Q = ∃ bs : List Bool, ds = bs.map .bool ∧ Q (.bool (bs.all id)) := rfl
theorem r_count : countD (.list ds) (.int k) Q = ∃ ns : List Int, ds = ns.map .int ∧ Q (.int (ns.count k)) := rfl
theorem r_sortedI : sortedID (.list ds) Q = ∃ ns : List Int, ds = ns.map .int ∧ ns.length < 64 ∧ ∀ ms : List Int, ms.Perm ns → ms.Pairwise (· ≤ ·) → Q (.list (ms.map .int)) := rfl
theorem r_sortedP : sortedPD (.list ds) Q = ∃ ps : List (Int × Int), ds = ps.map encP ∧ ps.length < 64 ∧ ∀ qs : List (Int × Int), qs.Perm ps → qs.Pairwise lexLe → Q (.list (qs.map encP)) := rfl
end

section
variable (Φ : Funs) {st : St} {R : Bool → Prop} {Q : D → Prop} {T : List D → Prop}
theorem zY {op : Cop} {a b : ME} : wpT Φ (.cmp op a b) st R = wpE Φ a st fun x => wpE Φ b st fun y => cmpD op x y R := rfl
theorem zZ {i : Nat} : wpT Φ (.var i) st R = shAt st[i]? fun d => truthD d R := rfl
theorem y0 {a b : ME} : wpT Φ (.sub a b) st R = wpE Φ a st fun x => wpE Φ b st fun y => itemD x y fun d => truthD d R := rfl
theorem y1 {x : Nat} {b : ME} : wpT Φ (.subv x b) st R = ownAt st[x]? fun ds => wpE Φ b st fun k => itemD (.list ds) k fun d => truthD d R := rfl
theorem y2 {a : ME} {n : Bool} : wpT Φ (.isNone a n) st R = wpE Φ a st fun x => R (isNoneD x != n) := rfl
theorem y3 {a : ME} {t : Ty} : wpT Φ (.typeIs a t) st R = wpE Φ a st fun x => R (tyIs x t) := rfl
theorem y4 {f : Nat} {es : MEs} : wpT Φ (.call f es) st R = wpEs Φ es st fun ds => Φ f ds fun d => truthD d R := rfl
theorem y5 {b : Bool} : wpT Φ (.bool b) st R = R b := rfl
theorem y6 {a : ME} : wpT Φ (.not a) st R = wpT Φ a st fun r => R (!r) := rfl
theorem y7 {a b : ME} : wpT Φ (.and a b) st R = wpT Φ a st fun r => if r = true then wpT Φ b st R else R false := rfl
theorem y8 {a b : ME} : wpT Φ (.or a b) st R = wpT Φ a st fun r => if r = true then R true else wpT Φ b st R := rfl
theorem y9 {i : Nat} : wpE Φ (.var i) st Q = shAt st[i]? Q := rfl
theorem ya : wpE Φ .none st Q = Q .none := rfl
theorem yb {b : Bool} : wpE Φ (.bool b) st Q = Q (.bool b) := rfl
theorem yc {b : Int} : wpE Φ (.int b) st Q = Q (.int b) := rfl
theorem yd {b : Str} : wpE Φ (.str b) st Q = Q (.str b) := rfl
theorem ye {es : MEs} : wpE Φ (.tup es) st Q = wpEs Φ es st fun ds => Q (.tuple ds) := rfl
theorem yf {es : MEs} : wpE Φ (.lst es) st Q = wpEs Φ es st fun ds => Q (.list ds) := rfl
theorem yg : wpEs Φ .nil st T = T [] := rfl
theorem yh {e : ME} {es : MEs} : wpEs Φ (.cons e es) st T = wpE Φ e st fun d => wpEs Φ es st fun ds => T (d :: ds) := rfl
theorem yi {a i : ME} : wpE Φ (.sub a i) st Q = wpE Φ a st fun d => wpE Φ i st fun k => itemD d k Q := rfl
theorem yj {x : Nat} {i : ME} : wpE Φ (.subv x i) st Q = ownAt st[x]? fun ds => wpE Φ i st fun k => itemD (.list ds) k Q := rfl
theorem yk {a i : ME} : wpE Φ (.sliceTo a i) st Q = wpE Φ a st fun d => wpE Φ i st fun k => sliceToD d k Q := rfl
theorem yl {a i : ME} : wpE Φ (.sliceFrom a i) st Q = wpE Φ a st fun d => wpE Φ i st fun k => sliceFromD d k Q := rfl
theorem ym {a i j : ME} : wpE Φ (.sliceBoth a i j) st Q = wpE Φ a st fun d => wpE Φ i st fun k => wpE Φ j st fun h => sliceBothD d k h Q := rfl
theorem yn {a : ME} : wpE Φ (.rev a) st Q = wpE Φ a st fun d => revD d Q := rfl
theorem yo {op : Bop} {a b : ME} : wpE Φ (.bin op a b) st Q = wpE Φ a st fun x => wpE Φ b st fun y => binD op x y Q := rfl
theorem yp {op : Cop} {a b : ME} : wpE Φ (.cmp op a b) st Q = wpE Φ a st fun x => wpE Φ b st fun y => cmpD op x y fun r => Q (.bool r) := rfl
theorem yq {a : ME} {n : Bool} : wpE Φ (.isNone a n) st Q = wpE Φ a st fun x => Q (.bool (isNoneD x != n)) := rfl
theorem yr {a : ME} {t : Ty} : wpE Φ (.typeIs a t) st Q = wpE Φ a st fun x => Q (.bool (tyIs x t)) := rfl
theorem yt {c a b : ME} : wpE Φ (.ite c a b) st Q = wpT Φ c st fun r => if r = true then wpE Φ a st Q else wpE Φ b st Q := rfl
theorem yu {a : ME} : wpE Φ (.len a) st Q = wpE Φ a st fun d => lenD d Q := rfl
theorem yv {x : Nat} : wpE Φ (.lenv x) st Q = ownAt st[x]? fun ds => Q (.int ds.length) := rfl
theorem yw {a b : ME} : wpE Φ (.min a b) st Q = wpE Φ a st fun x => wpE Φ b st fun y => minD x y Q := rfl
theorem yx {a b : ME} : wpE Φ (.max a b) st Q = wpE Φ a st fun x => wpE Φ b st fun y => maxD x y Q := rfl
theorem yy {a : ME} : wpE Φ (.sum a) st Q = wpE Φ a st fun d => sumD d Q := rfl
theorem yz {a : ME} : wpE Φ (.sortedI a) st Q = wpE Φ a st fun d => sortedID d Q := rfl
theorem yA {a : ME} : wpE Φ (.sortedP a) st Q = wpE Φ a st fun d => sortedPD d Q := rfl
theorem yB {a : ME} : wpE Φ (.listOf a) st Q = wpE Φ a st fun d => listOfD d Q := rfl
theorem yC {a : ME} : wpE Φ (.listRange a) st Q = wpE Φ a st fun d => listRangeD d Q := rfl
theorem yD {a : ME} : wpE Φ (.setLen a) st Q = wpE Φ a st fun d => setLenD d Q := rfl
theorem yE {a : ME} : wpE Φ (.all a) st Q = wpE Φ a st fun d => allD d Q := rfl
theorem yF {a b : ME} : wpE Φ (.count a b) st Q = wpE Φ a st fun x => listD x fun ds => wpE Φ b st fun y => countD (.list ds) y Q := rfl
theorem yG {f : Nat} {es : MEs} : wpE Φ (.call f es) st Q = wpEs Φ es st fun ds => Φ f ds Q := rfl
theorem yH {elt cond : ME} {tg : Tgt} {it : It} {fv : List Nat} : wpE Φ (.comp elt tg it cond fv) st Q = wpIt Φ it st fun items => compGo (compB Φ elt tg cond st) items fun rs => Q (.list rs) := rfl
theorem yI {elt : ME} {t1 t2 : Nat} {i1 i2 : It} {fv : List Nat} : wpE Φ (.comp2 elt t1 i1 t2 i2 fv) st Q = wpIt Φ i1 st fun items => items.length ≤ 1000 ∧ compGo2 (compB2 Φ elt t1 t2 i2 st) items fun rs => Q (.list rs) := rfl
theorem yJ {a b : ME} : wpIt Φ (.range a b) st T = wpE Φ a st fun x => wpE Φ b st fun y => rangeD x y T := rfl
theorem yK {b : ME} : wpIt Φ (.range0 b) st T = wpE Φ b st fun y => rangeD (.int 0) y T := rfl
theorem yL {b : ME} : wpIt Φ (.ofE b) st T = wpE Φ b st fun y => itemsD y T := rfl
theorem yM {x : Nat} : wpIt Φ (.ofV x) st T = ownAt st[x]? fun ds => ds.length ≤ 1000000 ∧ T ds := rfl
end
section
variable (Φ : Funs) (Λ : Lends) {st : St} {Q : MF → St → Prop}
theorem yN {i : Nat} {e : ME} : wpS Φ Λ (.assign i e) st Q = wpE Φ e st fun d => Q .next (st.set i (.sh d)) := rfl
theorem yO {i : Nat} {e : ME} : wpS Φ Λ (.new1 i e) st Q = wpE Φ e st fun d => listD d fun ds => Q .next (st.set i (.own1 ds)) := rfl
theorem yP {i : Nat} {e : ME} : wpS Φ Λ (.new2 i e) st Q = wpE Φ e st fun d => intD d fun k => k.natAbs ≤ 1000000 ∧ Q .next (st.set i (.own2 (List.replicate k.toNat []))) := rfl
theorem yQ {i : Nat} : wpS Φ Λ (.freeze i) st Q = frozen st[i]? fun d => Q .next (st.set i (.sh d)) := rfl
theorem yR {is : List Nat} {e : ME} : wpS Φ Λ (.unpack is e) st Q = wpE Φ e st fun d => assignT (.many is) st d (Q .next) := rfl
theorem yS {i : Nat} {e : ME} : wpS Φ Λ (.append1 i e) st Q = own1At st[i]? fun ds => wpE Φ e st fun d => ds.length ≤ 1000000 ∧ Q .next (st.set i (.own1 (ds ++ [d]))) := rfl
theorem yT {i : Nat} {j e : ME} : wpS Φ Λ (.append2 i j e) st Q = own2At st[i]? fun dss => wpE Φ j st fun k => intD k fun k =>
      0 ≤ k ∧ ∃ h : k.toNat < dss.length, wpE Φ e st fun d => dss[k.toNat].length ≤ 1000000 ∧ Q .next (st.set i (.own2 (dss.set k.toNat (dss[k.toNat] ++ [d])))) := rfl
theorem yU {i : Nat} {j e : ME} : wpS Φ Λ (.setItem i j e) st Q = wpE Φ e st fun d => ownAt st[i]? fun _ => wpE Φ j st fun k => intD k fun k => 0 ≤ k ∧ storeAt st[i]? k.toNat d fun sl => Q .next (st.set i sl) := rfl
theorem yV {y i : Nat} : wpS Φ Λ (.pop y i) st Q = own1At st[i]? fun ds => ∃ h : ds ≠ [], ds.length ≤ 1000000 ∧ Q .next ((st.set i (.own1 ds.dropLast)).set y (.sh (ds.getLast h))) := rfl
theorem yW {y f i : Nat} {e : ME} : wpS Φ Λ (.lend y f i e) st Q = own1At st[i]? fun ds => wpE Φ e st fun d => Λ f ds [d] fun ds' r => Q .next ((st.set i (.own1 ds')).set y (.sh r)) := rfl
theorem yX {c : ME} {a b : List MS} : wpS Φ Λ (.ite c a b) st Q = wpT Φ c st fun r => if r = true then wpSs Φ Λ a st Q else wpSs Φ Λ b st Q := rfl
theorem yY {c : ME} {body : List MS} : wpS Φ Λ (.whileLoop c body) st Q = whileW Φ Λ c body st Q := rfl
theorem yZ {tg : Tgt} {it : It} {body : List MS} : wpS Φ Λ (.forLoop tg it body) st Q = wpIt Φ it st fun items => forGo (forB Φ Λ tg body) items st Q := rfl
theorem x0 {e : ME} : wpS Φ Λ (.ret e) st Q = wpE Φ e st fun d => Q (.ret d) st := rfl
theorem x3 : wpS Φ Λ .cont st Q = Q .cont st := rfl
theorem x4 : wpSs Φ Λ [] st Q = Q .next st := rfl
theorem x5 {m : MS} {ms : List MS} : wpSs Φ Λ (m :: ms) st Q = wpS Φ Λ m st (seqF (wpSs Φ Λ ms) Q) := rfl
end
section
variable {Φ : Funs} {Λ : Lends} {m : MS} {ms : List MS} {st : St} {Q : MF → St → Prop}
theorem t_seq (h : wpS Φ Λ m st (seqF (wpSs Φ Λ ms) Q)) : seqF (wpSs Φ Λ (m :: ms)) Q .next st := h
theorem t_cons (h : wpS Φ Λ m st (seqF (wpSs Φ Λ ms) Q)) : wpSs Φ Λ (m :: ms) st Q := h
theorem r_seq0 : seqF (wpSs Φ Λ []) Q .next st = Q .next st := rfl
end
section
variable {n i : Nat} {f : Nat → D} {d : D} {Q : D → Prop} {U : Slot → Prop}
theorem a_get {ds : List D} {k : Int} (i : Nat) (hk : k = i) (h : ds[i]? = some d) (q : Q d) : itemD (.list ds) (.int k) Q := by
  subst hk
  refine ⟨Int.natCast_nonneg _, (List.getElem?_eq_some_iff.mp h).1, ?_⟩
  have e := (List.getElem?_eq_some_iff.mp h).2
  show Q (ds[i]'_)
  rw [e]
  exact q
theorem tab_get? {α : Type} {f : Nat → α} (h : i < n) : (tab n f)[i]? = some (f i) := by simp [tab, h]
theorem a_tab (h : i < n) (q : Q (f i)) : itemD (.list (tab n f)) (.int i) Q := a_get i rfl (tab_get? h) q
theorem a_map {α : Type} {g : α → D} {l : List α} {x : α} (h : l[i]? = some x) (q : Q (g x)) : itemD (.list (l.map g)) (.int i) Q := a_get i rfl (by rw [List.getElem?_map, h]; rfl) q
theorem a_edge {E : List Edge} {e : Edge} (h : E[i]? = some e) (q : Q (.tuple [.int e.1, .int e.2])) : itemD (.list (E.map dP)) (.int i) Q := a_map h q
theorem a_nat {l : List Nat} {x : Nat} (h : l[i]? = some x) (q : Q (.int x)) : itemD (.list (l.map dN)) (.int i) Q := a_map h q
theorem s_tab (h : i < n) (q : U (.own1 (tab n (upd f i d)))) : 0 ≤ (i : Int) ∧ storeAt (some (.own1 (tab n f))) (i : Int).toNat d U :=
  ⟨Int.natCast_nonneg _, by rw [Int.toNat_natCast, za, tab_len, tab_set]; exact ⟨h, q⟩⟩
theorem s_tabL (h : i < n) (q : U (.lent (tab n (upd f i d)))) : 0 ≤ (i : Int) ∧ storeAt (some (.lent (tab n f))) (i : Int).toNat d U :=
  ⟨Int.natCast_nonneg _, by rw [Int.toNat_natCast, zc, tab_len, tab_set]; exact ⟨h, q⟩⟩
theorem m_neS {s : Str} {R : Bool → Prop} (h : okD (.str s) = true) (q : R false) : cmpD .ne (.str s) (.str s) R :=
  ⟨h, h, by rw [eqv_ss, beq_self_eq_true]; exact q⟩
theorem m_neX {x : D} {R : Bool → Prop} (h : okD x = true) (e : PyData.eqv x x = true) (q : R false) : cmpD .ne x x R := eqD_of (R := fun r => R (!r)) ⟨h, h, by rw [e]; exact q⟩
theorem m_neN {l : List Nat} {R : Bool → Prop} (q : R false) : cmpD .ne (.list (l.map dN)) (.list (l.map dN)) R :=
  ⟨ok_dNs l, ok_dNs l, by have e : PyData.eqv (.list (l.map dN)) (.list (l.map dN)) = true := (eqv_dNs l l).mpr rfl
                          rw [e]; exact q⟩
theorem m_rep (h : n ≤ 1000000) (q : Q (.list (tab n fun _ => d))) : binD .mul (.list [d]) (.int n) Q :=
  ⟨by rw [Int.natAbs_natCast]; exact h, by rw [Int.toNat_natCast, tab_replicate]; exact q⟩
theorem m_range {T : List D → Prop} (h : n ≤ 1000000) (q : T (tab n dN)) : rangeD (.int 0) (.int n) T :=
  ⟨Int.le_refl _, by decide, by rw [Int.natAbs_natCast]; exact h, by rw [rangeL_zero]; exact q⟩
variable {Φ : Funs} {Λ : Lends} {j : Nat} {body : List MS} {st : St} {K : MF → St → Prop}
theorem t_forM {α : Type} {g : α → D} {l : List α} {x : α} {tg : Tgt} {h : i < (l.map g).length} (e : l[i]? = some x) (q : assignT tg st (g x) fun st' => wpSs Φ Λ body st' K) : forB Φ Λ tg body (l.map g)[i] st K := by
  rw [List.getElem_map, (List.getElem?_eq_some_iff.mp e).2]; exact q
theorem t_forE {α : Type} {g : α → D} {l : List α} {x : α} {h : i < (l.map g).length} (e : l[i]? = some x) (q : wpSs Φ Λ body (st.set j (.sh (g x))) K) : forB Φ Λ (.one j) body (l.map g)[i] st K := t_forM e q
theorem t_forR {h : i < (tab n dN).length} (q : wpSs Φ Λ body (st.set j (.sh (.int i))) K) : forB Φ Λ (.one j) body (tab n dN)[i] st K := by
  rw [tab_get]; exact q
theorem t_forD {E : List Edge} {e : Edge} {h : i < (E.map dP).length} (he : E[i]? = some e) (q : wpSs Φ Λ body (st.set j (.sh (.tuple [.int e.1, .int e.2]))) K) : forB Φ Λ (.one j) body (E.map dP)[i] st K := t_forE he q
variable {Q : MF → St → Prop}
theorem t_app2 {i ij : Nat} {e : ME} {dss : List (List D)} {a : Nat} {ds : List D} (h1 : st[i]? = some (.own2 dss)) (h2 : st[ij]? = some (.sh (.int a))) (h3 : dss[a]? = some ds)
    (q : wpE Φ e st fun d => ds.length ≤ 1000000 ∧ Q .next (st.set i (.own2 (dss.set a (ds ++ [d]))))) : wpS Φ Λ (.append2 i (.var ij) e) st Q := by
  rw [yT, h1, z5, y9, h2, z0, z7]
  refine ⟨Int.natCast_nonneg _, (List.getElem?_eq_some_iff.mp h3).1, ?_⟩
  simp only [Int.toNat_natCast, (List.getElem?_eq_some_iff.mp h3).2]
  exact q
theorem t_pop {y i : Nat} {l : List D} {d : D} (h1 : st[i]? = some (.own1 (l ++ [d]))) (h2 : l.length < 1000000) (q : Q .next ((st.set i (.own1 l)).set y (.sh d))) : wpS Φ Λ (.pop y i) st Q := by
  rw [yV, h1, z4]
  refine ⟨by simp, by simp; omega, ?_⟩
  rw [List.dropLast_concat, List.getLast_concat]
  exact q
theorem t_popN {y i : Nat} {l : List Nat} {v : Nat} (h1 : st[i]? = some (.own1 ((l ++ [v]).map dN))) (h2 : l.length < 1000000) (q : Q .next ((st.set i (.own1 (l.map dN))).set y (.sh (.int v)))) : wpS Φ Λ (.pop y i) st Q :=
  t_pop (l := l.map dN) (d := dN v) (by rw [h1, List.map_append]; rfl) (by rw [List.length_map]; exact h2) q
end
end
section
open PySem

theorem rangeL_len (a b : Int) : (rangeL a b).length = (b - a).toNat := by simp [rangeL]
theorem rangeL_get {a b : Int} {i : Nat} {h : i < (rangeL a b).length} : (rangeL a b)[i] = .int (a + i) := by simp [rangeL]

theorem pairwise_of_adj {xs : List Int} (h : ∀ j (hj : j + 1 < xs.length), xs[j] < xs[j + 1]) : xs.Pairwise (· < ·) := by
  rw [List.pairwise_iff_getElem]
  intro i j hi hj hij
  have key : ∀ d, ∀ (hd : i + 1 + d < xs.length), xs[i] < xs[i + 1 + d] := by
    intro d
    induction d with
    | zero => intro hd; exact h i hd
    | succ d ih =>
      intro hd
      have h1 := ih (by omega)
      have h2 := h (i + 1 + d) (by omega)
      exact Int.lt_trans h1 h2
  have e : i + 1 + (j - (i + 1)) = j := by omega
  have := key (j - (i + 1)) (by omega)
  simpa only [e] using this

theorem is_rising_ok (Φ : Funs) (Λ : Lends) (xs : List Int) (hl : xs.length ≤ 1000) :
    wpSs Φ Λ b_is_rising [.sh (dIs xs), .undef] (RetP fun d => d = .bool (decide (xs.Pairwise (· < ·)))) := by
  unfold b_is_rising dIs
  (try simp only [x5, yZ, yJ, yu, y9, List.getElem?_cons_zero, z0, zv, yc, zA])
  refine ⟨by omega, by omega, by simp; omega, ?_⟩
  refine forGo_inv (fun i st => (∃ s1, st = [.sh (.list (xs.map .int)), s1]) ∧ ∀ j (hj : j + 1 < xs.length), j < i → xs[j] < xs[j + 1]) ⟨⟨_, rfl⟩, fun j hj h => absurd h (Nat.not_lt_zero _)⟩ ?_ ?_
  · intro i h st hI₀ K hK hC hR
    obtain ⟨⟨s1, rfl⟩, hi⟩ := hI₀
    rw [rangeL_get]
    rw [rangeL_len, List.length_map] at h
    unfold forB
    (try simp only [x5, yX, x0, zK, yb, x4, zI, zY, yi, y9, yo, yc, zE, List.set_cons_succ, List.set_cons_zero, List.getElem?_cons_zero, List.getElem?_cons_succ, z0, zd, zi])
    have e1 : (1 + (i : Int) - 1).toNat = i := by omega
    have e2 : (1 + (i : Int)).toNat = i + 1 := by omega
    have h2 : i + 1 < xs.length := by omega
    simp only [e1, List.getElem_map, e2, zt, List.length_map]
    refine ⟨by omega, by omega, by omega, h2, ?_⟩
    by_cases c : xs[i] ≥ xs[i + 1]
    · (first | refine Mine.ite_yes (by simpa using c) ?_ | rw [if_pos (by simpa using c)])
      refine hR _ _ ?_
      (try simp only [zK, zO])
      simp only [PyData.bool.injEq]
      rw [eq_comm, decide_eq_false_iff_not]
      intro hp
      have := (List.pairwise_iff_getElem.mp hp) i (i + 1) (by omega) h2 (by omega)
      omega
    · (first | refine Mine.ite_no (by simpa using c) ?_ | rw [if_neg (by simpa using c)])
      refine hK _ ⟨⟨_, rfl⟩, fun j hj hji => ?_⟩
      rcases Nat.lt_succ_iff_lt_or_eq.mp hji with q | q
      · exact hi j hj q
      · subst q; omega
  · rintro st ⟨⟨s1, rfl⟩, hi⟩
    rw [rangeL_len, List.length_map] at hi
    (try simp only [zI, x5, x0, zK, zO, yb])
    simp only [PyData.bool.injEq]
    rw [eq_comm, decide_eq_true_iff]
    exact pairwise_of_adj fun j hj => hi j hj (by omega)

theorem law_ints_ok (Φ : Funs) (Λ : Lends) (xs : List Int) (hl : xs.length ≤ 1000) :
    wpSs Φ Λ b_law_ints [.sh (dIs xs), .undef] (RetP fun d => d = .bool true) := by
  unfold b_law_ints dIs
  (try simp only [x5, x0, zK, zO, yE, yH, yL, y9, List.getElem?_cons_zero, z0, zB])
  refine ⟨by simp; omega, ?_⟩
  refine compGo_enc PyData.int (fun _ => .bool true) (fun x _ K hK => ?_) ?_
  · unfold compB
    (try simp only [yr, y9, y5, zE, List.set_cons_succ, List.set_cons_zero, List.getElem?_cons_succ, List.getElem?_cons_zero, z0])
    (first | refine Mine.ite_yes trivial ?_ | rw [if_pos trivial])
    exact hK
  · rw [r_all]
    refine ⟨xs.map fun _ => true, by simp, ?_⟩
    simp

/-- the list of the labels -/
theorem law_labels_ok (Φ : Funs) (Λ : Lends) (n : Nat) (E : List Edge) (hn : n ≤ 1000) (hE : InV n E) (hl : E.length ≤ 1000) (f : Nat → Nat) (hf : IsLab n E f) :
    wpSs Φ Λ b_law_labels [.sh (dN n), .sh (dPs E), .undef, .undef, .undef, .undef, .undef, .undef] (RetP fun d => d = dNs (tab n f)) := by
  unfold b_law_labels dPs dN
  (try simp only [x5, yN, List.set_cons_succ, List.set_cons_zero, zI, yZ, yL, y9, List.getElem?_cons_succ, List.getElem?_cons_zero, z0, zB, yC, zQ])
  refine ⟨by omega, by simp; omega, ?_⟩
  rw [rangeL_zero]
  refine forGo_inv (fun i st => ∃ g s3 s4 s5 s6, IsLab n (E.take i) g ∧ st = [.sh (.int n), .sh (.list (E.map dP)), .sh (.list (tab n fun v => dN (g v))), s3, s4, s5, s6, .undef]) ?_ ?_ ?_
  · exact ⟨fun v => v, _, _, _, _, by simpa using isLab_nil, rfl⟩
  · intro i h st hI₀ K hK hC hR
    obtain ⟨g, s3, s4, s5, s6, hg, rfl⟩ := hI₀
    rw [List.length_map] at h
    have hab := hE _ (List.getElem_mem h)
    generalize hab' : E[i] = e at hab
    obtain ⟨a, b⟩ := e
    unfold forB
    simp only [List.getElem_map, hab', dP]
    (try simp only [x5, yN, zI, x4, yH, yL, y9, yx, yi, yw, zF, zD, zH, List.set_cons_succ, List.set_cons_zero, zG, List.getElem?_cons_succ, List.getElem?_cons_zero, z0, zB, zd])
    simp only [List.length_cons, List.length_nil, dN, Int.toNat_natCast, tab_get, tab_len, zy, zx, true_and]
    refine ⟨by omega, hab.1, by omega, hab.2, by omega, hab.1, by omega, hab.2, by omega, ?_⟩
    refine compGo_enc (fun v => PyData.int (g v)) (fun v => dN (labStep g a b v)) (fun x _ K' hK' => ?_) ?_
    · unfold compB
      (try simp only [yt, y9, zY, y5, zE, List.set_cons_succ, List.set_cons_zero, List.getElem?_cons_succ, List.getElem?_cons_zero, z0, zm])
      simp only [if_true]
      have hmax : max (g a : Int) (g b) = ((max (g a) (g b) : Nat) : Int) := by omega
      have hmin : min (g a : Int) (g b) = ((min (g a) (g b) : Nat) : Int) := by omega
      rw [hmax, hmin]
      unfold labStep dN at hK'
      by_cases c : g x = max (g a) (g b)
      · rw [if_pos c] at hK'
        (first | refine Mine.ite_yes (by simp [c]) ?_ | rw [if_pos (by simp [c])])
        exact hK'
      · rw [if_neg c] at hK'
        (first | refine Mine.ite_no (by simp; omega) ?_ | rw [if_neg (by simp; omega)])
        exact hK'
    · refine hK _ ⟨labStep g a b, _, _, _, _, ?_, rfl⟩
      rw [List.take_succ_eq_append_getElem h, hab']
      exact hg.step hab.1 hab.2
  · rintro st ⟨g, s3, s4, s5, s6, hg, rfl⟩
    rw [List.length_map, List.take_length] at hg
    (try simp only [zI, x5, x0, zK, zO, y9, List.getElem?_cons_succ, List.getElem?_cons_zero, z0])
    simp only [dNs, tab_map]
    rw [tab_congr fun v hv => congrArg dN (hg.uniq hf hv)]
end
section
/-- a search from s: S is what is found, todo what is open, x what is being looked at -/
structure Dfs (n : Nat) (E : List Edge) (s : Nat) (S : Nat → Bool) (todo : List Nat) (x : Option Nat) : Prop where
  inb : ∀ v, S v = true → v < n ∧ Conn E s v
  root : S s = true
  sub : ∀ v ∈ todo, S v = true
  clo : ∀ v, S v = true → v ∈ todo ∨ some v = x ∨ ∀ w, Adj E v w → S w = true

noncomputable def only (s : Nat) : Nat → Bool := fun v => v == s
noncomputable def unl (n : Nat) (S : Nat → Bool) : Nat := ((List.range n).filter fun v => !S v).length

section
variable {n s v w : Nat} {E : List Edge} {S : Nat → Bool} {t : List Nat}
theorem Dfs.start (hs : s < n) : Dfs n E s (only s) [s] none :=
  ⟨fun v hv => by simp [only] at hv; subst hv; exact ⟨hs, .refl _⟩, by simp [only], fun v hv => by simp at hv; simp [only, hv], fun v hv => by simp [only] at hv; exact .inl (by simp [hv])⟩
theorem Dfs.perm {t' : List Nat} {x : Option Nat} (h : Dfs n E s S t x) (e : ∀ a, a ∈ t ↔ a ∈ t') : Dfs n E s S t' x :=
  ⟨h.inb, h.root, fun v hv => h.sub v ((e v).mpr hv), fun v hv => (h.clo v hv).imp (fun q => (e v).mp q) id⟩
theorem Dfs.pop (h : Dfs n E s S (v :: t) none) : Dfs n E s S t (some v) :=
  ⟨h.inb, h.root, fun u hu => h.sub u (List.mem_cons_of_mem _ hu), fun u hu => by
    rcases h.clo u hu with q | q | q
    · rcases List.mem_cons.mp q with q | q
      · exact .inr (.inl (by rw [q]))
      · exact .inl q
    · cases q
    · exact .inr (.inr q)⟩
theorem Dfs.push {x : Option Nat} (h : Dfs n E s S t x) (hv : S v = true) (a : Adj E v w) (hw : w < n) : Dfs n E s (upd S w true) (w :: t) x := by
  refine ⟨fun u hu => ?_, ?_, fun u hu => ?_, fun u hu => ?_⟩
  · unfold upd at hu
    split at hu
    · rename_i e; subst e; exact ⟨hw, .step (h.inb v hv).2 a⟩
    · exact h.inb u hu
  · unfold upd; split <;> first | rfl | exact h.root
  · unfold upd; split
    · rfl
    · rename_i e; rcases List.mem_cons.mp hu with q | q
      · exact absurd q e
      · exact h.sub u q
  · by_cases e : u = w
    · exact .inl (by simp [e])
    · rw [upd_ne e] at hu
      rcases h.clo u hu with q | q | q
      · exact .inl (List.mem_cons_of_mem _ q)
      · exact .inr (.inl q)
      · exact .inr (.inr fun z hz => by unfold upd; split; rfl; exact q z hz)
theorem Dfs.close (h : Dfs n E s S t (some v)) (hc : ∀ w, Adj E v w → S w = true) : Dfs n E s S t none :=
  ⟨h.inb, h.root, h.sub, fun u hu => by
    rcases h.clo u hu with q | q | q
    · exact .inl q
    · cases q; exact .inr (.inr hc)
    · exact .inr (.inr q)⟩
theorem Dfs.done (h : Dfs n E s S [] none) : S v = true ↔ Conn E s v := by
  refine ⟨fun hv => (h.inb v hv).2, fun c => ?_⟩
  induction c with
  | refl => exact h.root
  | step _ a ih =>
    rcases h.clo _ ih with q | q | q
    · cases q
    · cases q
    · exact q _ a
theorem unl_upd (hw : w < n) (hS : S w = false) : unl n (upd S w true) + 1 = unl n S := by
  unfold unl
  rw [← filter_len_drop (p := fun v => !S v) (h := w) (l := List.range n) List.nodup_range (List.mem_range.mpr hw) (by simp [hS])]
  congr 2
  apply List.filter_congr
  intro x _
  unfold upd
  by_cases e : x = w
  · simp [e]
  · simp [e]
theorem unl_le : unl n S ≤ n := by
  unfold unl
  exact Nat.le_trans (List.length_filter_le _ _) (by simp)
theorem unl_only (hs : s < n) : unl n (only s) + 1 = n := by
  have := unl_upd (n := n) (w := s) (S := fun _ => false) hs rfl
  have e : upd (fun _ => false) s true = only s := by funext x; simp [upd, only]; by_cases h : x = s <;> simp [h]
  rw [e] at this
  rw [this]
  unfold unl
  rw [List.filter_eq_self.mpr (by simp)]
  simp
end
end
section
open PySem

noncomputable def adjD (n : Nat) (adj : Nat → List Nat) : List (List D) := tab n fun v => (adj v).map dN
theorem adjD_app {n a b : Nat} {adj : Nat → List Nat} : (adjD n adj).set a ((adj a).map dN ++ [PyData.int b]) = adjD n (upd adj a (adj a ++ [b])) := by
  unfold adjD
  rw [tab_set]
  apply tab_congr
  intro i _
  unfold upd
  by_cases e : i = a
  · subst e; simp [dN]
  · simp [e]
theorem adjD_len {n : Nat} {adj : Nat → List Nat} : (adjD n adj).length = n := tab_len
theorem adjD_get {n i : Nat} {adj : Nat → List Nat} {h : i < (adjD n adj).length} : (adjD n adj)[i] = (adj i).map dN := tab_get
theorem a_adj {n i : Nat} {adj : Nat → List Nat} {Q : D → Prop} (h : i < n) (q : Q (.list ((adj i).map dN))) : itemD (.list ((adjD n adj).map .list)) (.int i) Q := a_map (tab_get? h) q
theorem adjD_nil {n : Nat} : List.replicate n ([] : List D) = adjD n fun _ => [] := by rw [tab_replicate]; rfl

/-- what the lists of neighbours hold after i roads -/
noncomputable def AdjOk (E : List Edge) (skip : Int) (i : Nat) (adj : Nat → List Nat) : Prop :=
  ∀ v, (adj v).length ≤ 2 * i ∧ ∀ w, w ∈ adj v ↔ ∃ j, j < i ∧ (j : Int) ≠ skip ∧ (E[j]? = some (v, w) ∨ E[j]? = some (w, v))

theorem AdjOk.zero {E : List Edge} {skip : Int} : AdjOk E skip 0 fun _ => [] := fun v => ⟨by simp, fun w => by simp⟩
theorem AdjOk.same {E : List Edge} {skip : Int} {i : Nat} {adj : Nat → List Nat} (h : AdjOk E skip i adj) (hs : (i : Int) = skip) : AdjOk E skip (i + 1) adj := fun v => ⟨by have := (h v).1; omega, fun w => by
  rw [(h v).2]
  constructor
  · rintro ⟨j, hj, r⟩; exact ⟨j, by omega, r⟩
  · rintro ⟨j, hj, hn, r⟩
    refine ⟨j, ?_, hn, r⟩
    rcases Nat.lt_succ_iff_lt_or_eq.mp hj with q | q
    · exact q
    · subst q; exact absurd hs hn⟩
theorem AdjOk.next {E : List Edge} {skip : Int} {i a b : Nat} {adj : Nat → List Nat} (h : AdjOk E skip i adj) (hs : (i : Int) ≠ skip) (he : E[i]? = some (a, b)) :
    AdjOk E skip (i + 1) (upd (upd adj a (adj a ++ [b])) b (upd adj a (adj a ++ [b]) b ++ [a])) := by
  have key : ∀ v w, (∃ j, j < i + 1 ∧ (j : Int) ≠ skip ∧ (E[j]? = some (v, w) ∨ E[j]? = some (w, v))) ↔ (w ∈ adj v ∨ (v = a ∧ w = b) ∨ (v = b ∧ w = a)) := by
    intro v w
    rw [(h v).2]
    constructor
    · rintro ⟨j, hj, hn, r⟩
      rcases Nat.lt_succ_iff_lt_or_eq.mp hj with q | q
      · exact .inl ⟨j, q, hn, r⟩
      · subst q
        rw [he] at r
        rcases r with r | r <;> (cases r; simp)
    · rintro (⟨j, hj, r⟩ | ⟨rfl, rfl⟩ | ⟨rfl, rfl⟩)
      · exact ⟨j, by omega, r⟩
      · exact ⟨i, by omega, hs, .inl he⟩
      · exact ⟨i, by omega, hs, .inr he⟩
  intro v
  refine ⟨?_, fun w => ?_⟩
  · have h1 := (h v).1
    have h2 := (h a).1
    have h3 := (h b).1
    unfold upd
    by_cases e1 : v = b
    · subst e1
      by_cases e2 : v = a
      · subst e2; simp; omega
      · simp [e2]; omega
    · by_cases e2 : v = a
      · subst e2; simp [e1]; omega
      · simp [e1, e2]; omega
  · rw [key]
    unfold upd
    by_cases e1 : v = b
    · subst e1
      by_cases e2 : v = a
      · subst e2; simp
      · simp [e2]
    · by_cases e2 : v = a
      · subst e2; simp [e1]
      · simp [e1, e2]

theorem AdjOk.adj {E E' : List Edge} {skip : Int} {adj : Nat → List Nat} (h : AdjOk E skip E.length adj) (hE' : ∀ e, e ∈ E' ↔ ∃ j : Nat, (j : Int) ≠ skip ∧ E[j]? = some e) {v w : Nat} : w ∈ adj v ↔ Adj E' v w := by
  rw [(h v).2]
  unfold Adj
  rw [hE', hE']
  constructor
  · rintro ⟨j, _, hn, r | r⟩
    · exact .inl ⟨j, hn, r⟩
    · exact .inr ⟨j, hn, r⟩
  · rintro (⟨j, hn, r⟩ | ⟨j, hn, r⟩)
    · exact ⟨j, (List.getElem?_eq_some_iff.mp r).1, hn, .inl r⟩
    · exact ⟨j, (List.getElem?_eq_some_iff.mp r).1, hn, .inr r⟩

noncomputable def lab (S : Nat → Bool) (c : Int) (old : Nat → Int) : Nat → Int := fun v => if S v = true then c else old v

theorem lab_upd {n w : Nat} {S : Nat → Bool} {c : Int} {old : Nat → Int} : (tab n (upd (fun v => PyData.int (lab S c old v)) w (PyData.int c))) = tab n fun v => PyData.int (lab (upd S w true) c old v) := by
  apply tab_congr
  intro i _
  unfold upd lab
  by_cases e : i = w <;> simp [e]
theorem map_snoc {t : List Nat} {w : Nat} : t.map dN ++ [PyData.int w] = (t ++ [w]).map dN := by simp [dN]

/-- the search of component_ids from s -/
theorem comp_search (Φ : Funs) (Λ : Lends) {n s : Nat} {E : List Edge} {adj : Nat → List Nat} {c : Int} {old : Nat → Int} {d0 d1 d2 : D} {s4 s5 s6 s11 s12 : Slot} {Q : MF → St → Prop}
    (hn : n ≤ 1000) (hE : InV n E) (hadj : ∀ v w, w ∈ adj v ↔ Adj E v w) (hal : ∀ v, (adj v).length ≤ 2000) (hc : c ≠ -1) (hs : s < n)
    (hold : ∀ v, v < n → Conn E s v → old v = -1)
    (hQ : ∀ S s11 s12, (∀ v, S v = true ↔ Conn E s v) → Q .next [.sh d0, .sh d1, .sh d2, .sh (.list ((adjD n adj).map .list)), s4, s5, s6, .own1 (tab n fun v => .int (lab S c old v)), .sh (.int c), .sh (.int s), .own1 [], s11, s12]) :
    whileW Φ Λ (.cmp .gt (.lenv 10) (.int 0))
          [.pop 11 10,
           .forLoop (.one 12) (.ofE (.sub (.var 3) (.var 11)))
             [.ite (.cmp .eq (.subv 7 (.var 12)) (.int (-1)))
                [.setItem 7 (.var 12) (.var 8),
                 .append1 10 (.var 12)]
                []]]
      [.sh d0, .sh d1, .sh d2, .sh (.list ((adjD n adj).map .list)), s4, s5, s6, .own1 (tab n fun v => .int (lab (only s) c old v)), .sh (.int c), .sh (.int s), .own1 [dN s], s11, s12] Q := by
  refine while_F4 (fun m S (todo : List Nat) s11 s12 => Dfs n E s S todo none ∧ m = 2 * unl n S + todo.length ∧ m ≤ 2 * n + 1)
    (fun S todo s11 s12 => [.sh d0, .sh d1, .sh d2, .sh (.list ((adjD n adj).map .list)), s4, s5, s6, .own1 (tab n fun v => .int (lab S c old v)), .sh (.int c), .sh (.int s), .own1 (todo.map dN), s11, s12]) (2 * unl n (only s) + 1)
    (a1 := [s]) rfl ⟨Dfs.start hs, rfl, by have := unl_le (n := n) (S := only s); omega⟩ ?_
  intro m S todo s11 s12 hI M hM
  obtain ⟨hd, hm, hmn⟩ := hI
  (try simp only [zY, yc, yv, List.getElem?_cons_succ, List.getElem?_cons_zero, zr, z2])
  rw [List.length_map]
  rcases List.eq_nil_or_concat todo with e | ⟨t, v, e⟩
  · rw [e] at hd ⊢
    refine ite_no (by simp) ?_
    exact hQ S _ _ fun v => hd.done
  · clear hQ
    rw [List.concat_eq_append] at e
    rw [e] at hd hm ⊢
    refine ite_yes (by simp) ?_
    have hd' : Dfs n E s S t (some v) := (hd.perm (t' := v :: t) (by intro a; simp [or_comm])).pop
    have hSv : S v = true := hd.sub v (by simp)
    have hvn := (hd.inb v hSv).1
    rw [List.length_append, List.length_singleton] at hm
    clear hd e
    refine t_cons ?_
    refine t_popN rfl (by omega) ?_
    (try simp only [List.set_cons_succ, List.set_cons_zero])
    (with_reducible refine t_seq ?_); (try simp only [yZ, yL, yi, y9, List.getElem?_cons_succ, List.getElem?_cons_zero, z0])
    refine a_adj hvn ?_
    (try simp only [zB])
    refine ⟨by rw [List.length_map]; have := hal v; omega, ?_⟩
    refine forGo_F3 (fun i S' (t' : List Nat) s12 => Dfs n E s S' t' (some v) ∧ S' v = true ∧ (∀ j, j < i → ∀ (hj : j < (adj v).length), S' (adj v)[j] = true) ∧ 2 * unl n S' + t'.length ≤ 2 * unl n S + t.length)
      (fun i S' t' s12 => [.sh d0, .sh d1, .sh d2, .sh (.list ((adjD n adj).map .list)), s4, s5, s6, .own1 (tab n fun v => .int (lab S' c old v)), .sh (.int c), .sh (.int s), .own1 (t'.map dN), .sh (.int v), s12])
      rfl ⟨hd', hSv, fun _ h => absurd h (Nat.not_lt_zero _), Nat.le_refl _⟩ ?_ ?_
    · intro i h S' t' s12 hI K hK _ _
      obtain ⟨hd2, hSv', hpre, hms⟩ := hI
      rw [List.length_map] at h
      have hw := List.getElem?_eq_getElem h
      have hadj' := (hadj v _).mp (List.getElem_mem h)
      refine t_forE hw ?_
      generalize hwe : (adj v)[i] = w at hw hadj'
      have hwn := (hE.adj hadj').2
      unfold dN
      (try simp only [List.set_cons_succ, List.set_cons_zero])
      (with_reducible refine t_cons ?_); (try simp only [yX, x4, r_seq0, zY, yc, yj, List.getElem?_cons_succ, List.getElem?_cons_zero, y9, z0, z2])
      refine a_tab hwn ?_
      (try simp only [zm])
      have hcw : Conn E s w := .step (hd2.inb v hSv').2 hadj'
      by_cases hSw : S' w = true
      · refine ite_no (by simp [lab, hSw, hc]) ?_
        exact hK _ _ _ ⟨hd2, hSv', all_succ hpre fun _ => by rw [hwe]; exact hSw, hms⟩
      · refine ite_yes (by simp [lab, hSw, hold w hwn hcw]) ?_
        rw [Bool.not_eq_true] at hSw
        have hu := unl_upd hwn hSw
        (with_reducible refine t_cons ?_); (try simp only [yU, List.getElem?_cons_succ, List.getElem?_cons_zero, List.set_cons_succ, List.set_cons_zero, y9, z0, z7, z2])
        refine s_tab hwn ?_
        rw [lab_upd]
        (with_reducible refine t_seq ?_); (try simp only [yS, List.getElem?_cons_succ, List.getElem?_cons_zero, List.set_cons_succ, List.set_cons_zero, r_seq0, y9, z0, z4])
        refine ⟨by rw [List.length_map]; have := unl_le (n := n) (S := S'); omega, ?_⟩
        have := hK (upd S' w true) (t' ++ [w]) (.sh (.int w)) ⟨(hd2.push hSv' hadj' hwn).perm (by intro a; simp [or_comm]), by unfold upd; split; rfl; exact hSv',
          all_succ (fun j hji hj => by unfold upd; split; rfl; exact hpre j hji hj) (fun _ => by rw [hwe, upd_same]), by simp; omega⟩
        rw [← map_snoc] at this
        exact this
    · intro S' t' s12 hI
      obtain ⟨hd2, hSv', hpre, hms⟩ := hI
      rw [List.length_map] at hpre
      (try simp only [r_seq0, zL])
      refine hM (2 * unl n S' + t'.length) S' t' _ _ (by omega) ⟨hd2.close fun w hw => ?_, rfl, by omega⟩
      obtain ⟨j, hj, e⟩ := List.getElem_of_mem ((hadj v w).mpr hw)
      rw [← e]; exact hpre j hj hj

/-- the number of a node's part -/
noncomputable def rank (L : Nat → Nat) (v : Nat) : Nat := cnt L (L v)

theorem cnt_lt {L : Nat → Nat} {a : Nat} : ∀ {b : Nat}, a < b → L a = a → cnt L a < cnt L b := by
  intro b hab ha
  induction b with
  | zero => omega
  | succ b ih =>
    rw [cnt_succ]
    rcases Nat.lt_succ_iff_lt_or_eq.mp hab with q | q
    · have := ih q; omega
    · subst q; simp [ha]
theorem component_ids_ok (Φ : Funs) (Λ : Lends) (n : Nat) (E E' : List Edge) (skip : Int) (L : Nat → Nat) (hn : n ≤ 1000) (hE : InV n E) (hl : E.length ≤ 1000)
    (hE' : ∀ e, e ∈ E' ↔ ∃ j : Nat, (j : Int) ≠ skip ∧ E[j]? = some e) (hL : IsLab n E' L) :
    wpSs Φ Λ b_component_ids [.sh (dN n), .sh (dPs E), .sh (.int skip), .undef, .undef, .undef, .undef, .undef, .undef, .undef, .undef, .undef, .undef]
      (RetP fun d => d = .tuple [.list (tab n fun v => dN (rank L v)), dN (cnt L n)]) := by
  have hEV : InV n E' := fun e he => by
    obtain ⟨j, _, q⟩ := (hE' e).mp he
    exact hE e (List.mem_of_getElem? q)
  unfold b_component_ids dPs dN
  (with_reducible refine t_cons ?_); (try simp only [yP, List.set_cons_succ, List.set_cons_zero, y9, List.getElem?_cons_zero, z0, z7])
  rw [Int.toNat_natCast, adjD_nil]
  refine ⟨by omega, ?_⟩
  (with_reducible refine t_seq ?_); (try simp only [yZ, yK, yu, y9, List.getElem?_cons_succ, List.getElem?_cons_zero, z0, zv])
  rw [List.length_map]
  refine m_range (by omega) ?_
  refine forGo_F4 (fun i adj s4 s5 s6 => AdjOk E skip i adj) (fun i adj s4 s5 s6 => [.sh (.int n), .sh (.list (E.map dP)), .sh (.int skip), .own2 (adjD n adj), s4, s5, s6, .undef, .undef, .undef, .undef, .undef, .undef])
    rfl AdjOk.zero ?_ ?_
  · intro i h adj s4 s5 s6 ha K hK _ _
    rw [tab_len] at h
    have hab := hE _ (List.getElem_mem h)
    have hab2 : E[i]? = some E[i] := List.getElem?_eq_getElem h
    generalize E[i] = e at hab hab2
    have hal := fun v => (ha v).1
    refine t_forR ?_
    (try simp only [List.set_cons_succ, List.set_cons_zero])
    (with_reducible refine t_cons ?_); (try simp only [yX, x4, r_seq0, zY, y9, List.getElem?_cons_succ, List.getElem?_cons_zero, z0, zn])
    by_cases hsk : (i : Int) = skip
    · refine ite_no (by simp [hsk]) ?_
      exact hK _ _ _ _ (ha.same hsk)
    · refine ite_yes (by simp [hsk]) ?_
      (with_reducible refine t_cons ?_); (try simp only [yN, List.set_cons_succ, List.set_cons_zero, yi, yc, y9, List.getElem?_cons_succ, List.getElem?_cons_zero, z0])
      refine a_edge hab2 ?_
      (try simp only [ze])
      (with_reducible refine t_seq ?_); (try simp only [yN, List.set_cons_succ, List.set_cons_zero, yi, yc, y9, List.getElem?_cons_succ, List.getElem?_cons_zero, z0])
      refine a_edge hab2 ?_
      (try simp only [zf])
      (with_reducible refine t_seq ?_)
      refine t_app2 rfl rfl (tab_get? hab.1) ?_
      (try simp only [List.set_cons_succ, List.set_cons_zero, y9, List.getElem?_cons_succ, List.getElem?_cons_zero, z0])
      rw [adjD_app]
      refine ⟨by rw [List.length_map]; have := hal e.1; omega, ?_⟩
      (with_reducible refine t_seq ?_)
      refine t_app2 rfl rfl (tab_get? hab.2) ?_
      (try simp only [List.set_cons_succ, List.set_cons_zero, r_seq0, y9, List.getElem?_cons_succ, List.getElem?_cons_zero, z0])
      rw [adjD_app]
      refine ⟨?_, hK _ _ _ _ (ha.next hsk hab2)⟩
      have := hal e.1; have := hal e.2; rw [List.length_map]; unfold upd; split <;> simp <;> omega
  intro adj s4 s5 s6 ha
  rw [tab_len] at ha
  have hadj : ∀ v w, w ∈ adj v ↔ Adj E' v w := fun v w => ha.adj hE'
  have hal : ∀ v, (adj v).length ≤ 2000 := fun v => by have := (ha v).1; omega
  (with_reducible refine t_seq ?_); (try simp only [yQ, List.getElem?_cons_succ, List.getElem?_cons_zero, List.set_cons_succ, List.set_cons_zero, z9])
  (with_reducible refine t_seq ?_); (try simp only [yO, List.set_cons_succ, List.set_cons_zero, yo, y9, List.getElem?_cons_zero, z0, yf, yh, yg, yc])
  refine m_rep (by omega) ?_
  (try simp only [z6])
  (with_reducible refine t_seq ?_); (try simp only [yN, List.set_cons_succ, List.set_cons_zero, yc])
  (with_reducible refine t_seq ?_); (try simp only [yZ, yK, y9, List.getElem?_cons_zero, z0])
  refine m_range (by omega) ?_
  refine forGo_F4 (fun s s9 s10 s11 s12 => True) (fun s s9 s10 s11 s12 => [.sh (.int n), .sh (.list (E.map dP)), .sh (.int skip), .sh (.list ((adjD n adj).map .list)), s4, s5, s6,
      .own1 (tab n fun v => .int (if L v < s then (rank L v : Int) else -1)), .sh (.int (cnt L s)), s9, s10, s11, s12]) (by simp [cnt, rootsTo]; exact ⟨rfl, rfl, rfl, rfl⟩) trivial ?_ ?_
  · intro s h s9 s10 s11 s12 _ K hK _ _
    rw [tab_len] at h
    refine t_forR ?_
    (try simp only [List.set_cons_succ, List.set_cons_zero])
    (with_reducible refine t_cons ?_); (try simp only [yX, x4, r_seq0, zY, yc, yj, List.getElem?_cons_succ, List.getElem?_cons_zero, y9, z0, z2])
    refine a_tab h ?_
    (try simp only [zm])
    have hle := hL.le h
    by_cases hr : L s = s
    · refine ite_yes (by rw [hr]; simp) ?_
      have e0 : tab n (upd (fun v => PyData.int (if L v < s then (rank L v : Int) else -1)) s (PyData.int (cnt L s))) = tab n fun v => .int (lab (only s) (cnt L s) (fun v => if L v < s then (rank L v : Int) else -1) v) := by
        apply tab_congr
        intro i _
        unfold upd lab only
        by_cases e : i = s <;> simp [e]
      (with_reducible refine t_cons ?_); (try simp only [yU, List.getElem?_cons_succ, List.getElem?_cons_zero, List.set_cons_succ, List.set_cons_zero, y9, z0, z7, z2])
      refine s_tab h ?_
      rw [e0]
      clear e0
      (with_reducible refine t_seq ?_); (try simp only [yO, List.set_cons_succ, List.set_cons_zero, yf, z6, yh, yg, y9, List.getElem?_cons_succ, List.getElem?_cons_zero, z0])
      (with_reducible refine t_seq ?_); (try simp only [yY])
      refine comp_search (E := E') Φ Λ hn hEV hadj hal (by omega) h (fun v hv c => ?_) fun S s11 s12 hS => ?_
      · have := hL.eq_of_conn h hv c
        rw [hr] at this
        simp [← this]
      · (with_reducible refine t_seq ?_); (try simp only [yN, List.set_cons_succ, List.set_cons_zero, r_seq0, yo, yc, y9, List.getElem?_cons_succ, List.getElem?_cons_zero, z0, zg])
        have e1 : (tab n fun v => PyData.int (lab S (cnt L s) (fun v => if L v < s then (rank L v : Int) else -1) v)) = tab n fun v => .int (if L v < s + 1 then (rank L v : Int) else -1) := by
          apply tab_congr
          intro v hv
          unfold lab
          have hiff := hL.eq_iff h hv
          rw [hr] at hiff
          by_cases c : Conn E' s v
          · have e := hiff.mpr c
            (first | refine Mine.ite_yes ((hS v).mpr c) ?_ | rw [if_pos ((hS v).mpr c)])
            unfold rank
            rw [← e]
            simp
          · (first | refine Mine.ite_no fun q => c ((hS v).mp q) ?_ | rw [if_neg fun q => c ((hS v).mp q)])
            have hne : L v ≠ s := fun q => c (hiff.mp q.symm)
            congr 1
            dsimp only
            by_cases q : L v < s
            · rw [if_pos q, if_pos (by omega)]
            · rw [if_neg q, if_neg (by omega)]
        have e2 : ((cnt L s : Nat) : Int) + 1 = ((cnt L (s + 1) : Nat) : Int) := by rw [cnt_succ, if_pos hr]; omega
        rw [e1, e2]
        exact hK _ _ _ _ trivial
    · refine ite_no (by (first | refine Mine.ite_yes (by omega) ?_ | rw [if_pos (by omega)]); simp) ?_
      have e1 : (tab n fun v => PyData.int (if L v < s then (rank L v : Int) else -1)) = tab n fun v => .int (if L v < s + 1 then (rank L v : Int) else -1) := by
        apply tab_congr
        intro v hv
        have hne : L v ≠ s := fun q => hr (by have := hL.idem hv; rw [q] at this; exact this)
        congr 1
        by_cases q : L v < s
        · rw [if_pos q, if_pos (by omega)]
        · rw [if_neg q, if_neg (by omega)]
      have e2 : cnt L (s + 1) = cnt L s := by rw [cnt_succ, if_neg hr]; rfl
      rw [e1, ← e2]
      exact hK _ _ _ _ trivial
  · intro s9 s10 s11 s12 _
    rw [tab_len]
    (with_reducible refine t_seq ?_); (try simp only [yQ, List.getElem?_cons_succ, List.getElem?_cons_zero, List.set_cons_succ, List.set_cons_zero, z8])
    (with_reducible refine t_seq ?_); (try simp only [x0, zK, zO, ye, yh, yg, y9, List.getElem?_cons_succ, List.getElem?_cons_zero, z0])
    rw [tab_congr fun v hv => by (first | refine Mine.ite_yes (hL.lt hv) ?_ | rw [if_pos (hL.lt hv)])]
end
section
open PySem

theorem mark_upd {n w : Nat} {S : Nat → Bool} : (tab n (upd (fun v => PyData.bool (S v)) w (PyData.bool true))) = tab n fun v => PyData.bool (upd S w true v) := by
  apply tab_congr
  intro i _
  unfold upd
  by_cases e : i = w <;> simp [e]

theorem mem_iff_skip {E : List Edge} (e : Edge) : e ∈ E ↔ ∃ j : Nat, (j : Int) ≠ -1 ∧ E[j]? = some e := by
  rw [List.mem_iff_getElem?]
  exact ⟨fun ⟨j, h⟩ => ⟨j, by omega, h⟩, fun ⟨j, _, h⟩ => ⟨j, h⟩⟩

theorem reach_ok (Φ : Funs) (Λ : Lends) (n s : Nat) (E : List Edge) (hn : n ≤ 1000) (hE : InV n E) (hl : E.length ≤ 1000) (hs : s < n) :
    wpSs Φ Λ b_reach [.sh (dN n), .sh (dPs E), .sh (dN s), .sh (.bool false), .undef, .undef, .undef, .undef, .undef, .undef, .undef, .undef]
      (RetP fun d => ∃ S : Nat → Bool, (∀ v, S v = true ↔ Conn E s v) ∧ d = .list (tab n fun v => .bool (S v))) := by
  unfold b_reach dPs dN
  (with_reducible refine t_cons ?_); (try simp only [yP, List.set_cons_succ, List.set_cons_zero, y9, List.getElem?_cons_zero, z0, z7])
  rw [Int.toNat_natCast, adjD_nil]
  refine ⟨by omega, ?_⟩
  (with_reducible refine t_seq ?_); (try simp only [yZ, yL, y9, List.getElem?_cons_succ, List.getElem?_cons_zero, z0, zB])
  refine ⟨by rw [List.length_map]; omega, ?_⟩
  refine forGo_F4 (fun i adj s5 s6 s7 => AdjOk E (-1) i adj) (fun i adj s5 s6 s7 => [.sh (.int n), .sh (.list (E.map dP)), .sh (.int s), .sh (.bool false), .own2 (adjD n adj), s5, s6, s7, .undef, .undef, .undef, .undef])
    rfl AdjOk.zero ?_ ?_
  · intro i h adj s5 s6 s7 ha K hK _ _
    rw [List.length_map] at h
    have hab := hE _ (List.getElem_mem h)
    have hab2 : E[i]? = some E[i] := List.getElem?_eq_getElem h
    generalize E[i] = e at hab hab2
    have hal := fun v => (ha v).1
    refine t_forD hab2 ?_
    (try simp only [List.set_cons_succ, List.set_cons_zero])
    (with_reducible refine t_cons ?_); (try simp only [yN, List.set_cons_succ, List.set_cons_zero, yi, yc, y9, List.getElem?_cons_succ, List.getElem?_cons_zero, z0, ze])
    (with_reducible refine t_seq ?_); (try simp only [yN, List.set_cons_succ, List.set_cons_zero, yi, yc, y9, List.getElem?_cons_succ, List.getElem?_cons_zero, z0, zf])
    (with_reducible refine t_seq ?_)
    refine t_app2 rfl rfl (tab_get? hab.1) ?_
    (try simp only [List.set_cons_succ, List.set_cons_zero, y9, List.getElem?_cons_succ, List.getElem?_cons_zero, z0])
    rw [adjD_app]
    refine ⟨by rw [List.length_map]; have := hal e.1; omega, ?_⟩
    (with_reducible refine t_seq ?_); (try simp only [yX, x4, r_seq0, y6, zZ, List.getElem?_cons_succ, List.getElem?_cons_zero, z0, zu])
    refine ite_yes (by simp) ?_
    refine t_cons ?_
    refine t_app2 rfl rfl (tab_get? hab.2) ?_
    (try simp only [List.set_cons_succ, List.set_cons_zero, r_seq0, y9, List.getElem?_cons_succ, List.getElem?_cons_zero, z0])
    rw [adjD_app]
    refine ⟨?_, hK _ _ _ _ (ha.next (by omega) hab2)⟩
    have := hal e.1; have := hal e.2; rw [List.length_map]; unfold upd; split <;> simp <;> omega
  intro adj s5 s6 s7 ha
  rw [List.length_map] at ha
  have hadj : ∀ v w, w ∈ adj v ↔ Adj E v w := fun v w => ha.adj mem_iff_skip
  have hal : ∀ v, (adj v).length ≤ 2000 := fun v => by have := (ha v).1; omega
  clear ha
  (with_reducible refine t_seq ?_); (try simp only [yQ, List.getElem?_cons_succ, List.getElem?_cons_zero, List.set_cons_succ, List.set_cons_zero, z9])
  (with_reducible refine t_seq ?_); (try simp only [yO, List.set_cons_succ, List.set_cons_zero, yo, y9, List.getElem?_cons_zero, z0, yf, yh, yg, yb])
  refine m_rep (by omega) ?_
  (try simp only [z6])
  (with_reducible refine t_seq ?_); (try simp only [yU, List.getElem?_cons_succ, List.getElem?_cons_zero, List.set_cons_succ, List.set_cons_zero, y9, z0, z7, z2, yb])
  refine s_tab hs ?_
  have e0 : (upd (fun _ => false) s true) = only s := by
    funext v; unfold upd only; by_cases e : v = s <;> simp [e]
  rw [mark_upd (S := fun _ => false), e0]
  clear e0
  (with_reducible refine t_seq ?_); (try simp only [yO, List.set_cons_succ, List.set_cons_zero, yf, z6, yh, yg, y9, List.getElem?_cons_succ, List.getElem?_cons_zero, z0])
  (with_reducible refine t_seq ?_); (try simp only [yY])
  generalize Slot.sh (.list (E.map dP)) = s1
  refine while_F4 (fun m S (todo : List Nat) s10 s11 => Dfs n E s S todo none ∧ m = 2 * unl n S + todo.length ∧ m ≤ 2 * n + 1)
    (fun S todo s10 s11 => [.sh (.int n), s1, .sh (.int s), .sh (.bool false), .sh (.list ((adjD n adj).map .list)), s5, s6, s7, .own1 (tab n fun v => .bool (S v)), .own1 (todo.map dN), s10, s11]) (2 * unl n (only s) + 1)
    (a1 := [s]) rfl ⟨Dfs.start hs, rfl, by have := unl_le (n := n) (S := only s); omega⟩ ?_
  intro m S todo s10 s11 hI M hM
  obtain ⟨hd, hm, hmn⟩ := hI
  (try simp only [zY, yc, yv, List.getElem?_cons_succ, List.getElem?_cons_zero, zr, z2])
  rw [List.length_map]
  rcases List.eq_nil_or_concat todo with e | ⟨t, v, e⟩
  · rw [e] at hd ⊢
    refine ite_no (by simp) ?_
    (with_reducible refine t_seq ?_); (try simp only [yQ, List.getElem?_cons_succ, List.getElem?_cons_zero, List.set_cons_succ, List.set_cons_zero, z8])
    (with_reducible refine t_seq ?_); (try simp only [x0, zK, zO, y9, List.getElem?_cons_succ, List.getElem?_cons_zero, z0])
    exact ⟨S, fun v => hd.done, rfl⟩
  · rw [List.concat_eq_append] at e
    rw [e] at hd hm ⊢
    refine ite_yes (by simp) ?_
    have hd' : Dfs n E s S t (some v) := (hd.perm (t' := v :: t) (by intro a; simp [or_comm])).pop
    have hSv : S v = true := hd.sub v (by simp)
    have hvn := (hd.inb v hSv).1
    rw [List.length_append, List.length_singleton] at hm
    clear hd e
    refine t_cons ?_
    refine t_popN rfl (by omega) ?_
    (try simp only [List.set_cons_succ, List.set_cons_zero])
    (with_reducible refine t_seq ?_); (try simp only [yZ, yL, yi, y9, List.getElem?_cons_succ, List.getElem?_cons_zero, z0])
    refine a_adj hvn ?_
    (try simp only [zB])
    refine ⟨by rw [List.length_map]; have := hal v; omega, ?_⟩
    refine forGo_F3 (fun i S' (t' : List Nat) s11 => Dfs n E s S' t' (some v) ∧ S' v = true ∧ (∀ j, j < i → ∀ (hj : j < (adj v).length), S' (adj v)[j] = true) ∧ 2 * unl n S' + t'.length ≤ 2 * unl n S + t.length)
      (fun i S' t' s11 => [.sh (.int n), s1, .sh (.int s), .sh (.bool false), .sh (.list ((adjD n adj).map .list)), s5, s6, s7, .own1 (tab n fun v => .bool (S' v)), .own1 (t'.map dN), .sh (.int v), s11])
      rfl ⟨hd', hSv, fun _ h => absurd h (Nat.not_lt_zero _), Nat.le_refl _⟩ ?_ ?_
    · intro i h S' t' s12 hI K hK _ _
      obtain ⟨hd2, hSv', hpre, hms⟩ := hI
      rw [List.length_map] at h
      have hw := List.getElem?_eq_getElem h
      have hadj' := (hadj v _).mp (List.getElem_mem h)
      refine t_forE hw ?_
      generalize hwe : (adj v)[i] = w at hw hadj'
      have hwn := (hE.adj hadj').2
      unfold dN
      (try simp only [List.set_cons_succ, List.set_cons_zero])
      (with_reducible refine t_cons ?_); (try simp only [yX, x4, r_seq0, y6, y1, List.getElem?_cons_succ, List.getElem?_cons_zero, y9, z0, z2])
      refine a_tab hwn ?_
      (try simp only [zu])
      by_cases hSw : S' w = true
      · refine ite_no (by rw [hSw]; simp) ?_
        exact hK _ _ _ ⟨hd2, hSv', all_succ hpre fun _ => by rw [hwe]; exact hSw, hms⟩
      · refine ite_yes (by simp [hSw]) ?_
        rw [Bool.not_eq_true] at hSw
        have hu := unl_upd hwn hSw
        (with_reducible refine t_cons ?_); (try simp only [yU, List.getElem?_cons_succ, List.getElem?_cons_zero, List.set_cons_succ, List.set_cons_zero, y9, z0, z7, z2, yb])
        refine s_tab hwn ?_
        rw [mark_upd]
        (with_reducible refine t_seq ?_); (try simp only [yS, List.getElem?_cons_succ, List.getElem?_cons_zero, List.set_cons_succ, List.set_cons_zero, r_seq0, y9, z0, z4])
        refine ⟨by rw [List.length_map]; have := unl_le (n := n) (S := S'); omega, ?_⟩
        have := hK (upd S' w true) (t' ++ [w]) (.sh (.int w)) ⟨(hd2.push hSv' hadj' hwn).perm (by intro a; simp [or_comm]), by unfold upd; split; rfl; exact hSv',
          all_succ (fun j hji hj => by unfold upd; split; rfl; exact hpre j hji hj) (fun _ => by rw [hwe, upd_same]), by simp; omega⟩
        rw [← map_snoc] at this
        exact this
    · intro S' t' s12 hI
      obtain ⟨hd2, hSv', hpre, hms⟩ := hI
      rw [List.length_map] at hpre
      (try simp only [r_seq0, zL])
      refine hM (2 * unl n S' + t'.length) S' t' _ _ (by omega) ⟨hd2.close fun w hw => ?_, rfl, by omega⟩
      obtain ⟨j, hj, e⟩ := List.getElem_of_mem ((hadj v w).mpr hw)
      rw [← e]; exact hpre j hj hj
end
section
structure UF (n : Nat) (p R rk : Nat → Nat) : Prop where
  pb : ∀ x, x < n → p x < n
  dec : ∀ x, x < n → p x ≠ x → rk (p x) < rk x
  rp : ∀ x, x < n → R (p x) = R x
  rr : ∀ x, x < n → R x < n ∧ p (R x) = R x
  fx : ∀ x, x < n → p x = x → R x = x

section
variable {n : Nat} {p R rk : Nat → Nat}
theorem UF.start : UF n (fun v => v) (fun v => v) (fun _ => 0) := ⟨fun _ h => h, fun _ _ h => absurd rfl h, fun _ _ => rfl, fun _ h => ⟨h, rfl⟩, fun _ _ _ => rfl⟩
theorem UF.halve (h : UF n p R rk) {y : Nat} (hy : y < n) : UF n (upd p y (p (p y))) R rk := by
  have h1 := h.pb y hy
  have h2 := h.pb _ h1
  refine ⟨fun x hx => ?_, fun x hx hne => ?_, fun x hx => ?_, fun x hx => ⟨(h.rr x hx).1, ?_⟩, fun x hx e => ?_⟩
  · unfold upd; split
    · exact h2
    · exact h.pb x hx
  · by_cases e : x = y
    · subst e
      rw [upd_same] at hne ⊢
      by_cases q : p x = x
      · rw [q, q] at hne; exact absurd rfl hne
      · have a := h.dec x hx q
        by_cases r : p (p x) = p x
        · rw [r]; exact a
        · exact Nat.lt_trans (h.dec _ h1 r) a
    · rw [upd_ne e] at hne ⊢
      exact h.dec x hx hne
  · by_cases e : x = y
    · subst e; rw [upd_same, h.rp _ h1, h.rp x hx]
    · rw [upd_ne e]; exact h.rp x hx
  · have r := (h.rr x hx).2
    by_cases e : R x = y
    · rw [e, upd_same]; rw [e] at r; rw [r, r]
    · rw [upd_ne e]; exact r
  · by_cases q : x = y
    · subst q
      rw [upd_same] at e
      by_cases c : p x = x
      · exact h.fx x hx c
      · have a := h.dec x hx c
        by_cases r : p (p x) = p x
        · rw [r] at e; exact absurd e c
        · have b := h.dec _ h1 r
          rw [e] at b; omega
    · rw [upd_ne q] at e; exact h.fx x hx e

noncomputable def unR (R : Nat → Nat) (a b : Nat) : Nat → Nat := fun v => if R v = a then b else R v
theorem UF.union (h : UF n p R rk) {a b : Nat} (ha : a < n) (hb : b < n) (ea : p a = a) (eb : p b = b) (hne : a ≠ b) : ∃ rk', UF n (upd p a b) (unR R a b) rk' := by
  have ra := h.fx a ha ea
  have rb := h.fx b hb eb
  refine ⟨fun v => if R v = a then rk v + rk b + 1 else rk v, fun x hx => ?_, fun x hx hn => ?_, fun x hx => ?_, fun x hx => ?_, fun x hx e => ?_⟩
  · unfold upd; split
    · exact hb
    · exact h.pb x hx
  · by_cases e : x = a
    · subst e
      rw [upd_same]
      rw [if_neg (by rw [rb]; exact Ne.symm hne), if_pos ra]; omega
    · rw [upd_ne e] at hn ⊢
      have := h.dec x hx hn
      rw [h.rp x hx]
      split <;> omega
  · unfold unR
    by_cases e : x = a
    · subst e; rw [upd_same, if_neg (by rw [rb]; exact Ne.symm hne), if_pos ra, rb]
    · rw [upd_ne e, h.rp x hx]
  · unfold unR
    split
    · exact ⟨hb, by rw [upd_ne (Ne.symm hne)]; exact eb⟩
    · rename_i q; exact ⟨(h.rr x hx).1, by rw [upd_ne q]; exact (h.rr x hx).2⟩
  · by_cases q : x = a
    · subst q; rw [upd_same] at e; exact absurd e.symm hne
    · rw [upd_ne q] at e
      have := h.fx x hx e
      unfold unR
      rw [this, if_neg q]
theorem unR_conn {E : List Edge} (hR : ∀ u v, u < n → v < n → (R u = R v ↔ Conn E u v)) {x y a b : Nat} (hx : x < n) (hy : y < n) (ex : R x = a) (ey : R y = b) (u v : Nat) (hu : u < n) (hv : v < n) :
    unR R a b u = unR R a b v ↔ Conn (E ++ [(x, y)]) u v := by
  rw [conn_snoc, ← hR u v hu hv, ← hR u x hu hx, ← hR y v hy hv, ← hR u y hu hy, ← hR x v hx hv, ex, ey]
  unfold unR
  by_cases c1 : R u = a <;> by_cases c2 : R v = a
  · simp [c1, c2]
  · simp [c1, c2]; constructor
    · intro q; exact .inr (.inl q)
    · rintro (q | q | ⟨_, q⟩)
      · exact absurd q.symm c2
      · exact q
      · exact absurd q.symm c2
  · simp [c1, c2]
  · simp [c1, c2]
    intro q q2
    exact absurd q2.symm c2
end

open Classical in
/-- the roads that are taken, in their order -/
noncomputable def kru (e : Nat → Edge) : List Nat → List Nat → List Nat
  | [], T => T
  | k :: ks, T => if Conn (T.map e) (e k).1 (e k).2 then kru e ks T else kru e ks (T ++ [k])

section
variable {e : Nat → Edge}
theorem kru_append (ks js T : List Nat) : kru e (ks ++ js) T = kru e js (kru e ks T) := by
  induction ks generalizing T with
  | nil => rfl
  | cons k ks ih =>
    simp only [List.cons_append, kru]
    split <;> exact ih _
theorem kru_yes {ks T : List Nat} {k : Nat} (h : Conn ((kru e ks T).map e) (e k).1 (e k).2) : kru e (ks ++ [k]) T = kru e ks T := by
  rw [kru_append]; simp only [kru]; (first | refine Mine.ite_yes h ?_ | rw [if_pos h])
theorem kru_no {ks T : List Nat} {k : Nat} (h : ¬ Conn ((kru e ks T).map e) (e k).1 (e k).2) : kru e (ks ++ [k]) T = kru e ks T ++ [k] := by
  rw [kru_append]; simp only [kru]; (first | refine Mine.ite_no h ?_ | rw [if_neg h])
theorem kru_mem {ks T : List Nat} {k : Nat} (h : k ∈ kru e ks T) : k ∈ T ∨ k ∈ ks := by
  induction ks generalizing T with
  | nil => exact .inl h
  | cons j ks ih =>
    simp only [kru] at h
    split at h
    · rcases ih h with q | q
      · exact .inl q
      · exact .inr (List.mem_cons_of_mem _ q)
    · rcases ih h with q | q
      · rcases List.mem_append.mp q with q | q
        · exact .inl q
        · simp at q; exact .inr (by simp [q])
      · exact .inr (List.mem_cons_of_mem _ q)
theorem kru_nodup {ks T : List Nat} (h : (T ++ ks).Nodup) : (kru e ks T).Nodup := by
  induction ks generalizing T with
  | nil => simpa [kru] using h
  | cons j ks ih =>
    simp only [kru]
    split
    · apply ih
      rw [List.nodup_append] at h ⊢
      exact ⟨h.1, (List.nodup_cons.mp h.2.1).2, fun a ha b hb => h.2.2 a ha b (List.mem_cons_of_mem _ hb)⟩
    · apply ih
      simpa using h
theorem kru_conn {ks T : List Nat} {u v : Nat} : Conn ((kru e ks T).map e) u v ↔ Conn (T.map e ++ ks.map e) u v := by
  induction ks generalizing T with
  | nil => simp [kru]
  | cons j ks ih =>
    simp only [kru]
    split
    · rename_i hc
      rw [ih]
      constructor
      · intro h; exact h.mono (by intro x hx; rcases List.mem_append.mp hx with q | q; exact List.mem_append_left _ q; exact List.mem_append_right _ (List.mem_cons_of_mem _ q))
      · intro h
        refine h.of_adj ?_
        intro a b hab
        have up : ∀ {x y}, Conn (T.map e) x y → Conn (T.map e ++ ks.map e) x y := fun h => h.mono fun x hx => List.mem_append_left _ hx
        have key : ∀ a b, (a, b) ∈ T.map e ++ (j :: ks).map e → Conn (T.map e ++ ks.map e) a b := by
          intro a b hm
          rcases List.mem_append.mp hm with q | q
          · exact .one (.inl (List.mem_append_left _ q))
          · rcases List.mem_cons.mp q with q | q
            · rw [show a = (e j).1 from congrArg Prod.fst q, show b = (e j).2 from congrArg Prod.snd q]; exact up hc
            · exact .one (.inl (List.mem_append_right _ q))
        rcases hab with q | q
        · exact key _ _ q
        · exact (key _ _ q).symm
    · rw [ih]
      simp
theorem kru_cnt {n : Nat} (he : ∀ k, (e k).1 < n ∧ (e k).2 < n) {ks T : List Nat} {f : Nat → Nat} (hf : IsLab n (T.map e) f) (hc : cnt f n + T.length = n) {g : Nat → Nat} (hg : IsLab n ((kru e ks T).map e) g) : cnt g n + (kru e ks T).length = n := by
  induction ks generalizing T f with
  | nil => simp only [kru] at hg ⊢; rw [cnt_congr (fun v hv => hg.uniq hf hv)]; exact hc
  | cons j ks ih =>
    simp only [kru] at hg ⊢
    split
    · rename_i c; rw [if_pos c] at hg; exact ih hf hc hg
    · rename_i c
      rw [if_neg c] at hg
      have hne : f (e j).1 ≠ f (e j).2 := fun q => c (hf.conn_of_eq (he j).1 (he j).2 q)
      have hs := hf.cnt_step (he j).1 (he j).2 hne
      refine ih (f := labStep f (e j).1 (e j).2) ?_ ?_ hg
      · rw [List.map_append]; exact hf.step (he j).1 (he j).2
      · rw [List.length_append, List.length_singleton]; omega
end

noncomputable def leB (p q : Int × Int) : Bool := decide (p.1 < q.1 ∨ (p.1 = q.1 ∧ p.2 ≤ q.2))
theorem leB_iff {p q : Int × Int} : leB p q = true ↔ lexLe p q := by simp [leB, lexLe]
theorem lexLe_trans {p q r : Int × Int} (h : lexLe p q) (k : lexLe q r) : lexLe p r := by unfold lexLe at *; omega
theorem lexLe_total (p q : Int × Int) : lexLe p q ∨ lexLe q p := by unfold lexLe; omega
theorem lexLe_refl (p : Int × Int) : lexLe p p := by unfold lexLe; omega
theorem lexLe_antisymm {p q : Int × Int} (h : lexLe p q) (k : lexLe q p) : p = q := by
  unfold lexLe at *; apply Prod.ext <;> omega

theorem eq_of_perm_sorted {α : Type} {le : α → α → Prop} (anti : ∀ a b, le a b → le b a → a = b) : ∀ {l l' : List α}, l.Perm l' → l.Pairwise le → l'.Pairwise le → l = l'
  | [], l', h, _, _ => (List.nil_perm.mp h).symm
  | a :: l, [], h, _, _ => by have := h.length_eq; simp at this
  | a :: l, b :: l', h, h1, h2 => by
    have h1' := List.pairwise_cons.mp h1
    have h2' := List.pairwise_cons.mp h2
    have e : a = b := by
      rcases List.mem_cons.mp (h.mem_iff.mp List.mem_cons_self) with q | q
      · exact q
      · rcases List.mem_cons.mp (h.mem_iff.mpr (List.mem_cons_self (a := b))) with r | r
        · exact r.symm
        · exact anti _ _ (h1'.1 _ r) (h2'.1 _ q)
    subst e
    rw [eq_of_perm_sorted anti (List.Perm.cons_inv h) h1'.2 h2'.2]

noncomputable def pairsOf (ws : List Int) : List (Int × Int) := tab ws.length fun k => (ws.getD k 0, (k : Int))
noncomputable def sortedPairs (ws : List Int) : List (Int × Int) := (pairsOf ws).mergeSort leB
theorem sortedPairs_perm (ws : List Int) : (sortedPairs ws).Perm (pairsOf ws) := List.mergeSort_perm _ _
theorem sortedPairs_sorted (ws : List Int) : (sortedPairs ws).Pairwise lexLe := by
  have := List.pairwise_mergeSort (le := leB) (fun a b c h k => leB_iff.mpr (lexLe_trans (leB_iff.mp h) (leB_iff.mp k))) (fun a b => by
    rcases lexLe_total a b with h | h
    · simp [leB_iff.mpr h]
    · simp [leB_iff.mpr h]) (pairsOf ws)
  exact this.imp fun h => leB_iff.mp h
theorem sortedPairs_uniq {ws : List Int} {qs : List (Int × Int)} (hp : qs.Perm (pairsOf ws)) (hs : qs.Pairwise lexLe) : qs = sortedPairs ws :=
  eq_of_perm_sorted (fun _ _ => lexLe_antisymm) (hp.trans (sortedPairs_perm ws).symm) hs (sortedPairs_sorted ws)
/-- the order in which the roads are met -/
noncomputable def ordOf (ws : List Int) : List Nat := (sortedPairs ws).map fun q => q.2.toNat
theorem ordOf_perm (ws : List Int) : (ordOf ws).Perm (List.range ws.length) := by
  have := (sortedPairs_perm ws).map fun q => q.2.toNat
  refine this.trans (List.Perm.of_eq ?_)
  unfold pairsOf
  rw [tab_map]
  apply List.ext_getElem <;> simp [tab]
theorem sortedPairs_get {ws : List Int} {i : Nat} {h : i < (sortedPairs ws).length} : ∃ k, k < ws.length ∧ (sortedPairs ws)[i] = (ws.getD k 0, (k : Int)) := by
  have := (sortedPairs_perm ws).mem_iff.mp (List.getElem_mem h)
  obtain ⟨k, hk, e⟩ := List.mem_map.mp this
  exact ⟨k, List.mem_range.mp hk, e.symm⟩

noncomputable def edgeAt (E : List Edge) (k : Nat) : Edge := E.getD k (0, 0)
/-- the taken roads, in their order -/
noncomputable def taken (E : List Edge) (ws : List Int) : List Nat := kru (edgeAt E) (ordOf ws) []
open Classical in
/-- the least forest -/
noncomputable def best (E : List Edge) (ws : List Int) : List Nat := (List.range E.length).filter fun k => decide (k ∈ taken E ws)
end
section
open PySem

theorem nat_upd {n w x : Nat} {p : Nat → Nat} : (tab n (upd (fun v => dN (p v)) w (PyData.int x))) = tab n fun v => dN (upd p w x v) := by
  apply tab_congr
  intro i _
  unfold upd
  by_cases e : i = w <;> simp [e, dN]

theorem find_ok (Φ : Funs) (Λ : Lends) {n x : Nat} {p R rk : Nat → Nat} (hn : n ≤ 1000) (h : UF n p R rk) (hx : x < n) (Q : MF → St → Prop)
    (hQ : ∀ p', UF n p' R rk → Q (.ret (dN (R x))) [.lent (tab n fun v => dN (p' v)), .sh (dN (R x))]) :
    wpSs Φ Λ b_find [.lent (tab n fun v => dN (p v)), .sh (dN x)] Q := by
  unfold b_find dN
  (with_reducible refine t_cons ?_); (try simp only [yY])
  refine while_F2 (fun m p' y => UF n p' R rk ∧ y < n ∧ R y = R x ∧ m = rk y) (fun p' y => [.lent (tab n fun v => .int (p' v : Nat)), .sh (.int (y : Nat))]) (rk x) rfl ⟨h, hx, rfl, rfl⟩ ?_
  intro m p' y hI M hM
  obtain ⟨h', hy, hR, em⟩ := hI
  (try simp only [zY, y9, List.getElem?_cons_succ, List.getElem?_cons_zero, z0, yj, z3])
  refine a_tab hy ?_
  (try simp only [zn])
  have hpy := h'.pb y hy
  by_cases c : p' y = y
  · refine ite_no (by simp [c]) ?_
    have := h'.fx y hy c
    have hq := hQ p' h'
    rw [← hR, this] at hq
    exact hq
  · refine ite_yes (by simp; omega) ?_
    (with_reducible refine t_cons ?_); (try simp only [yU, List.getElem?_cons_zero, List.set_cons_zero, y9, List.getElem?_cons_succ, z0, z7, z3, yj])
    refine a_tab hy ?_
    refine a_tab hpy ?_
    skip
    refine s_tabL hy ?_
    have e := nat_upd (n := n) (w := y) (x := p' (p' y)) (p := p')
    unfold dN at e
    rw [e]
    (with_reducible refine t_seq ?_); (try simp only [yN, List.set_cons_succ, List.set_cons_zero, r_seq0, zL, yj, List.getElem?_cons_zero, y9, List.getElem?_cons_succ, z0, z3])
    refine a_tab hy ?_
    rw [upd_same]
    skip
    refine hM (rk (p' (p' y))) _ _ ?_ ⟨h'.halve hy, h'.pb _ hpy, ?_, rfl⟩
    · have a := h'.dec y hy c
      rw [em]
      by_cases q : p' (p' y) = p' y
      · rw [q]; exact a
      · exact Nat.lt_trans (h'.dec _ hpy q) a
    · rw [h'.rp _ hpy, h'.rp _ hy, hR]

theorem encP_lt {x y : Int × Int} {R : Bool → Prop} : cmpD .lt (encP x) (encP y) R = R (decide (x.1 < y.1 ∨ (x.1 = y.1 ∧ x.2 < y.2))) := rfl
theorem map_snocP {t : List (Int × Int)} {w : Int × Int} : t.map encP ++ [encP w] = (t ++ [w]).map encP := by simp

/-- what has been merged -/
structure Mrg (xs ys zs : List (Int × Int)) (i j : Nat) : Prop where
  hi : i ≤ xs.length
  hj : j ≤ ys.length
  perm : zs.Perm (xs.take i ++ ys.take j)
  srt : zs.Pairwise lexLe
  lox : ∀ z ∈ zs, ∀ r ∈ xs.drop i, lexLe z r
  loy : ∀ z ∈ zs, ∀ r ∈ ys.drop j, lexLe z r
theorem Mrg.len {xs ys zs : List (Int × Int)} {i j : Nat} (h : Mrg xs ys zs i j) : zs.length = i + j := by
  have := h.perm.length_eq
  have := h.hi
  have := h.hj
  simp at *; omega
theorem Mrg.takeX {xs ys zs : List (Int × Int)} {i j : Nat} (h : Mrg xs ys zs i j) (hx : xs.Pairwise lexLe) (hi : i < xs.length) (hy : ∀ r ∈ ys.drop j, lexLe xs[i] r) : Mrg xs ys (zs ++ [xs[i]]) (i + 1) j := by
  have hxs := hx
  rw [← List.take_append_drop i xs, List.pairwise_append] at hxs
  have hd : xs.drop i = xs[i] :: xs.drop (i + 1) := List.drop_eq_getElem_cons hi
  have hd' : ∀ r ∈ xs.drop (i + 1), lexLe xs[i] r := by
    have := hxs.2.1
    rw [hd, List.pairwise_cons] at this
    exact this.1
  refine ⟨hi, h.hj, ?_, ?_, ?_, ?_⟩
  · rw [List.take_succ_eq_append_getElem hi]
    have := (h.perm.append_right [xs[i]])
    refine this.trans ?_
    simp only [List.append_assoc]
    exact (List.Perm.append_left _ List.perm_append_comm)
  · rw [List.pairwise_append]
    refine ⟨h.srt, by simp, fun a ha b hb => ?_⟩
    rw [List.mem_singleton.mp hb]
    exact h.lox a ha _ (by rw [hd]; exact List.mem_cons_self)
  · intro z hz r hr
    rcases List.mem_append.mp hz with q | q
    · exact h.lox z q r (by rw [hd]; exact List.mem_cons_of_mem _ hr)
    · rw [List.mem_singleton.mp q]; exact hd' r hr
  · intro z hz r hr
    rcases List.mem_append.mp hz with q | q
    · exact h.loy z q r hr
    · rw [List.mem_singleton.mp q]; exact hy r hr
theorem Mrg.swap {xs ys zs : List (Int × Int)} {i j : Nat} (h : Mrg xs ys zs i j) : Mrg ys xs zs j i := ⟨h.hj, h.hi, h.perm.trans List.perm_append_comm, h.srt, h.loy, h.lox⟩

theorem drop_le {xs : List (Int × Int)} {i : Nat} {a : Int × Int} (hx : xs.Pairwise lexLe) (hi : i < xs.length) (ha : lexLe a xs[i]) : ∀ r ∈ xs.drop i, lexLe a r := fun r hr => by
  rw [List.drop_eq_getElem_cons hi] at hr
  rcases List.mem_cons.mp hr with q | q
  · rw [q]; exact ha
  · refine lexLe_trans ha ?_
    rw [← List.take_append_drop i xs, List.pairwise_append] at hx
    have := hx.2.1
    rw [List.drop_eq_getElem_cons hi, List.pairwise_cons] at this
    exact this.1 r q
theorem merge_ok (Φ : Funs) (Λ : Lends) (xs ys : List (Int × Int)) (hx : xs.Pairwise lexLe) (hy : ys.Pairwise lexLe) (hlx : xs.length ≤ 1000) (hly : ys.length ≤ 1000) :
    wpSs Φ Λ b_merge [.sh (.list (xs.map encP)), .sh (.list (ys.map encP)), .undef, .undef, .undef]
      (RetP fun d => ∃ zs : List (Int × Int), zs.Perm (xs ++ ys) ∧ zs.Pairwise lexLe ∧ d = .list (zs.map encP)) := by
  generalize hRR : (fun d : D => ∃ zs : List (Int × Int), zs.Perm (xs ++ ys) ∧ zs.Pairwise lexLe ∧ d = .list (zs.map encP)) = R
  -- the end of the first loop
  have fin : ∀ (zs : List (Int × Int)) (i j : Nat), Mrg xs ys zs i j → (i = xs.length ∨ j = ys.length) →
      seqF (wpSs Φ Λ [.whileLoop (.cmp .lt (.var 3) (.len (.var 0))) [.append1 2 (.sub (.var 0) (.var 3)), .assign 3 (.bin .add (.var 3) (.int 1))],
        .whileLoop (.cmp .lt (.var 4) (.len (.var 1))) [.append1 2 (.sub (.var 1) (.var 4)), .assign 4 (.bin .add (.var 4) (.int 1))], .freeze 2, .ret (.var 2)]) (RetP R) .next
      [.sh (.list (xs.map encP)), .sh (.list (ys.map encP)), .own1 (zs.map encP), .sh (.int i), .sh (.int j)] := by
    intro zs i j hm hend
    (with_reducible refine t_seq ?_); (try simp only [yY])
    refine while_F2 (fun m zs i => Mrg xs ys zs i j ∧ (i = xs.length ∨ j = ys.length) ∧ m = xs.length - i) (fun zs i => [.sh (.list (xs.map encP)), .sh (.list (ys.map encP)), .own1 (zs.map encP), .sh (.int (i : Nat)), .sh (.int j)]) (xs.length - i)
      rfl ⟨hm, hend, rfl⟩ ?_
    clear hm hend
    intro m zs i hI M hM
    obtain ⟨hm, hend, em⟩ := hI
    have h1 := hm.hi
    have h2 := hm.hj
    have h3 := hm.len
    (try simp only [zY, yu, y9, List.getElem?_cons_zero, z0, zv, List.getElem?_cons_succ, zo])
    rw [List.length_map]
    by_cases c : i < xs.length
    · have hjl : j = ys.length := by omega
      refine ite_yes (by simpa using c) ?_
      (with_reducible refine t_cons ?_); (try simp only [yS, List.getElem?_cons_succ, List.getElem?_cons_zero, List.set_cons_succ, List.set_cons_zero, yi, y9, z0, z4])
      refine a_map (List.getElem?_eq_getElem c) ?_
      rw [map_snocP]
      refine ⟨by rw [List.length_map]; omega, ?_⟩
      (with_reducible refine t_seq ?_); (try simp only [yN, List.set_cons_succ, List.set_cons_zero, r_seq0, zL, yo, yc, y9, List.getElem?_cons_succ, List.getElem?_cons_zero, z0, zg])
      exact hM (xs.length - (i + 1)) _ (i + 1) (by omega) ⟨hm.takeX hx c (by rw [hjl]; simp), .inr hjl, rfl⟩
    · refine ite_no (by simpa using c) ?_
      have ei : i = xs.length := by omega
      rw [ei] at hm
      (with_reducible refine t_seq ?_); (try simp only [yY])
      refine while_F2 (fun m zs j => Mrg xs ys zs xs.length j ∧ m = ys.length - j) (fun zs j => [.sh (.list (xs.map encP)), .sh (.list (ys.map encP)), .own1 (zs.map encP), .sh (.int (i : Nat)), .sh (.int (j : Nat))]) (ys.length - j)
        rfl ⟨hm, rfl⟩ ?_
      clear hm h1 h2 h3 hM em hend c ei
      intro m zs j hI M hM
      obtain ⟨hm, em⟩ := hI
      have h2 := hm.hj
      have h3 := hm.len
      (try simp only [zY, yu, y9, List.getElem?_cons_succ, List.getElem?_cons_zero, z0, zv, zo])
      rw [List.length_map]
      by_cases c : j < ys.length
      · refine ite_yes (by simpa using c) ?_
        (with_reducible refine t_cons ?_); (try simp only [yS, List.getElem?_cons_succ, List.getElem?_cons_zero, List.set_cons_succ, List.set_cons_zero, yi, y9, z0, z4])
        refine a_map (List.getElem?_eq_getElem c) ?_
        rw [map_snocP]
        refine ⟨by rw [List.length_map]; omega, ?_⟩
        (with_reducible refine t_seq ?_); (try simp only [yN, List.set_cons_succ, List.set_cons_zero, r_seq0, zL, yo, yc, y9, List.getElem?_cons_succ, List.getElem?_cons_zero, z0, zg])
        exact hM (ys.length - (j + 1)) _ (j + 1) (by omega) ⟨(hm.swap.takeX hy c (by simp)).swap, rfl⟩
      · refine ite_no (by simpa using c) ?_
        have hp := hm.perm
        rw [List.take_of_length_le (Nat.le_refl _), List.take_of_length_le (by omega)] at hp
        (with_reducible refine t_seq ?_); (try simp only [yQ, List.getElem?_cons_succ, List.getElem?_cons_zero, List.set_cons_succ, List.set_cons_zero, z8])
        (with_reducible refine t_seq ?_); (try simp only [x0, zK, zO, y9, List.getElem?_cons_succ, List.getElem?_cons_zero, z0])
        rw [← hRR]
        exact ⟨zs, hp, hm.srt, rfl⟩
  clear hRR
  unfold b_merge
  (with_reducible refine t_cons ?_); (try simp only [yO, List.set_cons_succ, List.set_cons_zero, yf, z6, yg])
  (with_reducible refine t_seq ?_); (try simp only [yN, List.set_cons_succ, List.set_cons_zero, yc])
  (with_reducible refine t_seq ?_); (try simp only [yN, List.set_cons_succ, List.set_cons_zero, yc])
  (with_reducible refine t_seq ?_); (try simp only [yY])
  refine while_F3 (fun m zs i j => Mrg xs ys zs i j ∧ m = xs.length + ys.length - (i + j)) (fun zs i j => [.sh (.list (xs.map encP)), .sh (.list (ys.map encP)), .own1 (zs.map encP), .sh (.int (i : Nat)), .sh (.int (j : Nat))]) (xs.length + ys.length)
    (a0 := []) (a1 := 0) (a2 := 0) rfl ⟨⟨by omega, by omega, by simp, by simp, by simp, by simp⟩, by omega⟩ ?_
  intro m zs i j hI M hM
  obtain ⟨hm, em⟩ := hI
  have h1 := hm.hi
  have h2 := hm.hj
  have h3 := hm.len
  (try simp only [y7, zY, yu, y9, List.getElem?_cons_succ, List.getElem?_cons_zero, z0, zv, zo])
  rw [List.length_map, List.length_map]
  by_cases c1 : i < xs.length
  · refine ite_yes (by simpa using c1) ?_
    by_cases c2 : j < ys.length
    · refine ite_yes (by simpa using c2) ?_
      clear fin
      have g1 := List.getElem?_eq_getElem c1
      have g2 := List.getElem?_eq_getElem c2
      (with_reducible refine t_cons ?_); (try simp only [yX, zY, yi, y9, List.getElem?_cons_succ, List.getElem?_cons_zero, z0])
      refine a_map g2 ?_
      refine a_map g1 ?_
      rw [encP_lt]
      by_cases c : ys[j].1 < xs[i].1 ∨ (ys[j].1 = xs[i].1 ∧ ys[j].2 < xs[i].2)
      · refine ite_yes (by simpa using c) ?_
        have hle : lexLe ys[j] xs[i] := by unfold lexLe; omega
        (with_reducible refine t_cons ?_); (try simp only [yS, List.getElem?_cons_succ, List.getElem?_cons_zero, List.set_cons_succ, List.set_cons_zero, yi, y9, z0, z4])
        refine a_map g2 ?_
        rw [map_snocP]
        refine ⟨by rw [List.length_map]; omega, ?_⟩
        (with_reducible refine t_seq ?_); (try simp only [yN, List.set_cons_succ, List.set_cons_zero, r_seq0, zL, yo, yc, y9, List.getElem?_cons_succ, List.getElem?_cons_zero, z0, zg])
        exact hM (xs.length + ys.length - (i + (j + 1))) _ i (j + 1) (by omega) ⟨(hm.swap.takeX hy c2 (drop_le hx c1 hle)).swap, rfl⟩
      · refine ite_no (by simpa using c) ?_
        have hle : lexLe xs[i] ys[j] := by unfold lexLe; omega
        (with_reducible refine t_cons ?_); (try simp only [yS, List.getElem?_cons_succ, List.getElem?_cons_zero, List.set_cons_succ, List.set_cons_zero, yi, y9, z0, z4])
        refine a_map g1 ?_
        rw [map_snocP]
        refine ⟨by rw [List.length_map]; omega, ?_⟩
        (with_reducible refine t_seq ?_); (try simp only [yN, List.set_cons_succ, List.set_cons_zero, r_seq0, zL, yo, yc, y9, List.getElem?_cons_succ, List.getElem?_cons_zero, z0, zg])
        exact hM (xs.length + ys.length - (i + 1 + j)) _ (i + 1) j (by omega) ⟨hm.takeX hx c1 (drop_le hy c2 hle), rfl⟩
    · refine ite_no (by simpa using c2) ?_
      exact fin _ _ _ hm (.inr (by omega))
  · refine ite_no (by simpa using c1) ?_
    refine ite_no (by simp) ?_
    exact fin _ _ _ hm (.inl (by omega))
end
section
open PySem

noncomputable def runD (r : List (Int × Int)) : D := .list (r.map encP)
theorem map_snocR {t : List (List (Int × Int))} {w : List (Int × Int)} : t.map runD ++ [PyData.list (w.map encP)] = (t ++ [w]).map runD := by simp [runD]

noncomputable def SpecMerge (Φ : Funs) : Prop := ∀ (xs ys : List (Int × Int)) (Q : D → Prop), xs.Pairwise lexLe → ys.Pairwise lexLe → xs.length ≤ 1000 → ys.length ≤ 1000 →
  (∀ zs : List (Int × Int), zs.Perm (xs ++ ys) → zs.Pairwise lexLe → Q (.list (zs.map encP))) → Φ 6 [.list (xs.map encP), .list (ys.map encP)] Q

theorem flatten_len_le {α : Type} {l : List (List α)} {x : List α} (h : x ∈ l) : x.length ≤ l.flatten.length := by
  induction l with
  | nil => cases h
  | cons a l ih =>
    rcases List.mem_cons.mp h with q | q
    · subst q; simp
    · have := ih q; rw [List.flatten_cons, List.length_append]; omega
theorem flatten_single {α : Type} (l : List α) : (l.map fun x => [x]).flatten = l := by
  induction l with
  | nil => rfl
  | cons a l ih => simp only [List.map_cons, List.flatten_cons, ih]; rfl

theorem all_snoc {α : Type} {P : α → Prop} {l : List α} {x : α} (h : ∀ r ∈ l, P r) (hx : P x) : ∀ r ∈ l ++ [x], P r := fun r hr => by
  rcases List.mem_append.mp hr with q | q
  · exact h r q
  · rw [List.mem_singleton.mp q]; exact hx
theorem sort_ok (Φ : Funs) (Λ : Lends) (hΦ : SpecMerge Φ) (ps : List (Int × Int)) (hl : ps.length ≤ 1000) :
    wpSs Φ Λ b_sort [.sh (.list (ps.map encP)), .undef, .undef, .undef, .undef]
      (RetP fun d => ∃ qs : List (Int × Int), qs.Perm ps ∧ qs.Pairwise lexLe ∧ d = .list (qs.map encP)) := by
  unfold b_sort
  (with_reducible refine t_cons ?_); (try simp only [yN, List.set_cons_succ, List.set_cons_zero, yH, yL, y9, List.getElem?_cons_zero, z0, zB])
  refine ⟨by rw [List.length_map]; omega, ?_⟩
  refine compGo_enc encP (fun x => runD [x]) (fun x _ K hK => hK) ?_
  have e0 : ps.map (fun x => runD [x]) = (ps.map fun x => [x]).map runD := by simp
  rw [e0]
  clear e0
  (with_reducible refine t_seq ?_); (try simp only [yX, x4, zY, yc, yu, y9, List.getElem?_cons_succ, List.getElem?_cons_zero, z0, zv, zm])
  rw [List.length_map, List.length_map]
  by_cases c0 : ps = []
  · refine ite_yes (by rw [c0]; simp) ?_
    (with_reducible refine t_cons ?_); (try simp only [x0, zK, zO, yf, yg])
    exact ⟨[], by rw [c0], by simp, rfl⟩
  have hlen : 0 < ps.length := List.length_pos_iff.mpr c0
  refine ite_no (by simp; omega) ?_
  (with_reducible refine t_seq ?_); (try simp only [yY])
  generalize hs0 : Slot.sh (.list (ps.map encP)) = s0
  clear hs0
  refine while_F3 (fun m (runs : List (List (Int × Int))) s2 s3 => runs ≠ [] ∧ (∀ r ∈ runs, r.Pairwise lexLe) ∧ runs.flatten.Perm ps ∧ m = runs.length ∧ runs.length ≤ ps.length)
    (fun runs s2 s3 => [s0, .sh (.list (runs.map runD)), s2, s3, .undef]) ps.length rfl ⟨by simpa using c0, by intro r hr; obtain ⟨x, _, rfl⟩ := List.mem_map.mp hr; simp, by rw [flatten_single], by simp, by simp⟩ ?_
  intro m runs s2 s3 hI M hM
  obtain ⟨hne, hsr, hpm, em, hrl⟩ := hI
  have hrpos := List.length_pos_iff.mpr hne
  have hfl := hpm.length_eq
  (try simp only [zY, yc, yu, y9, List.getElem?_cons_succ, List.getElem?_cons_zero, z0, zv, zr])
  rw [List.length_map]
  by_cases c1 : 1 < runs.length
  · refine ite_yes (by simp; omega) ?_
    (with_reducible refine t_cons ?_); (try simp only [yO, List.set_cons_succ, List.set_cons_zero, yf, z6, yg])
    (with_reducible refine t_seq ?_); (try simp only [yN, List.set_cons_succ, List.set_cons_zero, yc])
    (with_reducible refine t_seq ?_); (try simp only [yY])
    -- the inner loop
    refine while_F2 (fun m (mg : List (List (Int × Int))) (i : Nat) => i ≤ runs.length ∧ mg.length * 2 = i ∧ (∀ r ∈ mg, r.Pairwise lexLe) ∧ mg.flatten.Perm (runs.take i).flatten ∧ m = runs.length - i)
      (fun mg i => [s0, .sh (.list (runs.map runD)), .own1 (mg.map runD), .sh (.int i), .undef]) runs.length (a0 := []) (a1 := 0) rfl ⟨by omega, by simp, by simp, by simp, by simp⟩ ?_
    intro m mg i hI M2 hM2
    obtain ⟨hi, hm2, hms, hmp, em2⟩ := hI
    (try simp only [zY, yu, y9, List.getElem?_cons_succ, List.getElem?_cons_zero, z0, zv, yo, yc, zg, zo])
    rw [List.length_map]
    by_cases c2 : i + 1 < runs.length
    · refine ite_yes (by simp; omega) ?_
      have c2' : i < runs.length := by omega
      (with_reducible refine t_cons ?_); (try simp only [yS, List.getElem?_cons_succ, List.getElem?_cons_zero, List.set_cons_succ, List.set_cons_zero, yG, yh, yg, yi, yo, yc, y9, z0, zg, z4])
      refine a_map (List.getElem?_eq_getElem c2') ?_
      refine a_map (i := i + 1) (List.getElem?_eq_getElem c2) ?_
      skip
      have m1 : runs[i] ∈ runs := List.getElem_mem _
      have m2 : runs[i + 1] ∈ runs := List.getElem_mem _
      refine hΦ _ _ _ (hsr _ m1) (hsr _ m2) (by have := flatten_len_le m1; omega) (by have := flatten_len_le m2; omega) fun zs hz hs => ⟨by rw [List.length_map]; omega, ?_⟩
      rw [map_snocR]
      (with_reducible refine t_seq ?_); (try simp only [yN, List.set_cons_succ, List.set_cons_zero, r_seq0, zL, yo, yc, y9, List.getElem?_cons_succ, List.getElem?_cons_zero, z0, zg])
      refine hM2 (runs.length - (i + 2)) (mg ++ [zs]) (i + 2) (by omega) ⟨by omega, by simp; omega, all_snoc hms hs, ?_, rfl⟩
      rw [List.flatten_append, List.take_succ_eq_append_getElem c2, List.take_succ_eq_append_getElem c2']
      simp only [List.flatten_append, List.flatten_cons, List.flatten_nil, List.append_nil, List.append_assoc]
      exact List.Perm.append hmp hz
    · refine ite_no (by simp; omega) ?_
      (with_reducible refine t_seq ?_); (try simp only [yX, x4, zY, yu, y9, List.getElem?_cons_succ, List.getElem?_cons_zero, z0, zv, zo])
      rw [List.length_map]
      by_cases c3 : i < runs.length
      · refine ite_yes (by simpa using c3) ?_
        (with_reducible refine t_cons ?_); (try simp only [yS, List.getElem?_cons_succ, List.getElem?_cons_zero, List.set_cons_succ, List.set_cons_zero, r_seq0, yi, y9, z0, z4])
        refine a_map (List.getElem?_eq_getElem c3) ?_
        refine ⟨by rw [List.length_map]; omega, ?_⟩
        rw [show mg.map runD ++ [runD runs[i]] = (mg ++ [runs[i]]).map runD from map_snocR]
        (with_reducible refine t_seq ?_); (try simp only [yQ, List.getElem?_cons_succ, List.getElem?_cons_zero, List.set_cons_succ, List.set_cons_zero, z8])
        (with_reducible refine t_seq ?_); (try simp only [yN, List.set_cons_succ, List.set_cons_zero, r_seq0, zL, y9, List.getElem?_cons_succ, List.getElem?_cons_zero, z0])
        refine hM (mg.length + 1) (mg ++ [runs[i]]) _ _ (by omega) ⟨by simp, all_snoc hms (hsr _ (List.getElem_mem _)), ?_, by simp, by simp; omega⟩
        refine List.Perm.trans ?_ hpm
        have e3 : runs = runs.take i ++ [runs[i]] := by
          rw [← List.take_succ_eq_append_getElem c3, List.take_of_length_le (by omega)]
        rw [List.flatten_append]
        conv => rhs; rw [e3]
        rw [List.flatten_append]
        exact hmp.append_right _
      · refine ite_no (by simpa using c3) ?_
        (with_reducible refine t_seq ?_); (try simp only [yQ, List.getElem?_cons_succ, List.getElem?_cons_zero, List.set_cons_succ, List.set_cons_zero, z8])
        (with_reducible refine t_seq ?_); (try simp only [yN, List.set_cons_succ, List.set_cons_zero, r_seq0, zL, y9, List.getElem?_cons_succ, List.getElem?_cons_zero, z0])
        refine hM mg.length mg _ _ (by omega) ⟨?_, hms, ?_, rfl, by omega⟩
        · intro q; rw [q] at hm2; simp at hm2; omega
        · rw [List.take_of_length_le (by omega)] at hmp
          exact hmp.trans hpm
  · refine ite_no (by simp; omega) ?_
    (with_reducible refine t_seq ?_); (try simp only [x0, zK, zO, yi, yc, y9, List.getElem?_cons_succ, List.getElem?_cons_zero, z0])
    refine a_map (i := 0) (List.getElem?_eq_getElem hrpos) ?_
    refine ⟨runs[0], ?_, hsr _ (List.getElem_mem _), rfl⟩
    match runs, hne, c1 with
    | [r], _, _ => simpa using hpm
    | _ :: _ :: _, _, c1 => simp at c1
end
section
open PySem

noncomputable def SpecSort (Φ : Funs) : Prop := ∀ (ps : List (Int × Int)) (Q : D → Prop), ps.length ≤ 1000 →
  (∀ qs : List (Int × Int), qs.Perm ps → qs.Pairwise lexLe → Q (.list (qs.map encP))) → Φ 7 [.list (ps.map encP)] Q
noncomputable def SpecFind (Λ : Lends) : Prop := ∀ (n x : Nat) (p R rk : Nat → Nat) (Q : List D → D → Prop), n ≤ 1000 → UF n p R rk → x < n →
  (∀ p', UF n p' R rk → Q (tab n fun v => dN (p' v)) (dN (R x))) → Λ 8 (tab n fun v => dN (p v)) [dN x] Q
noncomputable def SpecLabels (Φ : Funs) : Prop := ∀ (n : Nat) (E : List Edge) (f : Nat → Nat) (Q : D → Prop), n ≤ 1000 → InV n E → E.length ≤ 1000 → IsLab n E f → Q (dNs (tab n f)) → Φ 16 [dN n, dPs E] Q

theorem exists_lab {n : Nat} : ∀ (E : List Edge), InV n E → ∃ f, IsLab n E f := by
  intro E hE
  suffices H : ∀ k, k ≤ E.length → ∃ f, IsLab n (E.take k) f by simpa using H E.length (Nat.le_refl _)
  intro k
  induction k with
  | zero => intro _; exact ⟨_, by simpa using isLab_nil⟩
  | succ k ih =>
    intro hk
    obtain ⟨f, hf⟩ := ih (by omega)
    rw [List.take_succ_eq_append_getElem (by omega)]
    have := hE _ (List.getElem_mem (l := E) (n := k) (by omega))
    exact ⟨_, hf.step this.1 this.2⟩

theorem edgeAt_eq {E : List Edge} {k : Nat} (h : k < E.length) : edgeAt E k = E[k] := by simp [edgeAt, h]
theorem bool_upd {n w : Nat} {S : Nat → Bool} : (tab n (upd (fun v => PyData.bool (S v)) w (PyData.bool true))) = tab n fun v => PyData.bool (upd S w true v) := mark_upd

/-- the graph as data -/
noncomputable def dG (n : Nat) (E : List Edge) : D := .tuple [dN n, dPs E]

open Classical in
noncomputable def memB (T : List Nat) : Nat → Bool := fun k => decide (k ∈ T)
open Classical in
theorem memB_iff {T : List Nat} {k : Nat} : memB T k = true ↔ k ∈ T := by simp [memB]
theorem memB_nil : memB [] = fun _ => false := by funext k; simp [memB]
theorem memB_snoc {T : List Nat} {k : Nat} : memB (T ++ [k]) = upd (memB T) k true := by
  funext j
  unfold upd
  rw [Bool.eq_iff_iff, memB_iff]
  split
  · rename_i e; simp [e]
  · rename_i e; simp [memB_iff, e]
theorem best_eq (E : List Edge) (ws : List Int) : best E ws = (List.range E.length).filter (memB (taken E ws)) := by
  unfold best memB; rfl

theorem encP_getN {ws : List Int} {i : Nat} {h : i < (sortedPairs ws).length} : (sortedPairs ws)[i].2 = ((ordOf ws)[i]'(by simpa [ordOf] using h) : Nat) := by
  obtain ⟨k, hk, e⟩ := sortedPairs_get (h := h)
  simp [ordOf, e]
theorem ordOf_len (ws : List Int) : (ordOf ws).length = ws.length := by
  have := (ordOf_perm ws).length_eq; simpa using this
theorem sortedPairs_len (ws : List Int) : (sortedPairs ws).length = ws.length := by
  have := ordOf_len ws; simpa [ordOf] using this
theorem ordOf_lt {ws : List Int} {i : Nat} {h : i < (ordOf ws).length} : (ordOf ws)[i] < ws.length := by
  have := (ordOf_perm ws).mem_iff.mp (List.getElem_mem h)
  simpa using this

theorem pairs_enc (ws : List Int) : (List.range ws.length).map (fun k => PyData.tuple [.int (ws.getD k 0), .int (k : Nat)]) = (pairsOf ws).map encP := by
  unfold pairsOf tab encP
  simp

theorem pair_at {Φ : Funs} {ws : List Int} {k : Nat} {st : St} {K : Option D → Prop} {i j : Nat} (hk : k < ws.length) (hK : K (some (.tuple [.int (ws.getD k 0), .int (k : Nat)]))) (h1 : (st.set j (.sh (dN k)))[i]? = some (.sh (.list (ws.map .int))) := by rfl) (h2 : (st.set j (.sh (dN k)))[j]? = some (.sh (dN k)) := by rfl) :
    compB Φ (.tup (.cons (.sub (.var i) (.var j)) (.cons (.var j) .nil))) (.one j) (.bool true) st (dN k) K := by
  unfold compB
  (try simp only [ye, yh, yg, y9, yi, y5, zE])
  rw [h1, h2]
  refine ite_yes trivial ?_
  (try simp only [z0])
  refine a_map (x := ws.getD k 0) ?_ hK
  rw [List.getElem?_eq_getElem hk]; simp [hk]
theorem forest_ok (Φ : Funs) (Λ : Lends) (hΦ : SpecSort Φ) (hΛ : SpecFind Λ) (n : Nat) (E : List Edge) (ws : List Int) (hn : n ≤ 1000) (hE : InV n E) (hl : E.length ≤ 1000) (hw : ws.length = E.length) :
    wpSs Φ Λ b_forest [.sh (dG n E), .sh (dIs ws), .undef, .undef, .undef, .undef, .undef, .undef, .undef, .undef, .undef, .undef, .undef, .undef, .undef]
      (RetP fun d => d = dNs (best E ws)) := by
  unfold b_forest dG dPs dN dIs
  (with_reducible refine t_cons ?_); (try simp only [yN, List.set_cons_succ, List.set_cons_zero, yi, yc, y9, List.getElem?_cons_zero, z0, ze])
  (with_reducible refine t_seq ?_); (try simp only [yN, List.set_cons_succ, List.set_cons_zero, yi, yc, y9, List.getElem?_cons_zero, z0, zf])
  (with_reducible refine t_seq ?_); (try simp only [yN, List.set_cons_succ, List.set_cons_zero, yu, y9, List.getElem?_cons_succ, List.getElem?_cons_zero, z0, zv])
  rw [List.length_map]
  (with_reducible refine t_seq ?_); (try simp only [yN, List.set_cons_succ, List.set_cons_zero, yG, yh, yg, yH, yK, y9, List.getElem?_cons_succ, List.getElem?_cons_zero, z0])
  refine m_range (by omega) ?_
  refine compGo_enc (l := List.range E.length) dN (fun k => PyData.tuple [.int (ws.getD k 0), .int (k : Nat)]) (fun k hk K hK => pair_at (by have := List.mem_range.mp hk; omega) hK) ?_
  rw [← hw, pairs_enc]
  refine hΦ _ _ (by simp [pairsOf, tab]; omega) fun qs hq hs => ?_
  rw [sortedPairs_uniq hq hs]
  clear hq hs
  (with_reducible refine t_seq ?_); (try simp only [yO, List.set_cons_succ, List.set_cons_zero, yH, z6, yK, y9, List.getElem?_cons_succ, List.getElem?_cons_zero, z0])
  refine m_range (by omega) ?_
  refine compGo_enc (l := List.range n) dN dN (fun k hk K hK => hK) ?_
  skip
  (with_reducible refine t_seq ?_); (try simp only [yO, List.set_cons_succ, List.set_cons_zero, yo, y9, List.getElem?_cons_succ, List.getElem?_cons_zero, z0, yf, yh, yg, yb])
  refine m_rep (by omega) ?_
  (try simp only [z6])
  (with_reducible refine t_seq ?_); (try simp only [yZ, yL, y9, List.getElem?_cons_succ, List.getElem?_cons_zero, z0, zB])
  refine ⟨by rw [List.length_map, sortedPairs_len]; omega, ?_⟩
  generalize Slot.sh (.tuple [.int n, .list (E.map dP)]) = s0
  generalize Slot.sh (.list (ws.map .int)) = s1
  refine forGo_F6 (fun i p R s8 s9 s10 s11 => (∃ rk, UF n p R rk) ∧ (∀ u v, u < n → v < n → (R u = R v ↔ Conn ((kru (edgeAt E) ((ordOf ws).take i) []).map (edgeAt E)) u v)))
    (fun i p R s8 s9 s10 s11 => [s0, s1, .sh (.int n), .sh (.list (E.map dP)), .sh (.int ws.length), .sh (.list ((sortedPairs ws).map encP)),
      .own1 (tab n fun v => dN (p v)), .own1 (tab ws.length fun k => .bool (memB (kru (edgeAt E) ((ordOf ws).take i) []) k)), s8, s9, s10, s11, .undef, .undef, .undef])
    (a0 := fun v => v) (a1 := fun v => v) (by simp only [List.take_zero, kru, memB_nil]; rfl) ⟨⟨fun _ => 0, UF.start⟩, fun u v _ _ => by simp only [List.take_zero, kru, List.map_nil]; exact ⟨fun e => e ▸ .refl _, conn_nil⟩⟩ ?_ ?_
  · intro i h p R s8 s9 s10 s11 hI K hK _ _
    obtain ⟨hU, hR⟩ := hI
    obtain ⟨rk, hU⟩ := hU
    rw [List.length_map] at h
    have ho : i < (ordOf ws).length := by rw [ordOf_len]; rw [sortedPairs_len] at h; exact h
    have hk := ordOf_lt (h := ho)
    have hp2 := encP_getN (h := h)
    have htk := List.take_succ_eq_append_getElem ho
    generalize (ordOf ws)[i] = k at hk hp2 htk
    have hkE : k < E.length := by omega
    have hab := hE _ (List.getElem_mem hkE)
    rw [← edgeAt_eq hkE] at hab
    have hek : E[k]? = some (edgeAt E k) := by rw [List.getElem?_eq_getElem hkE, edgeAt_eq hkE]
    refine t_forE (List.getElem?_eq_getElem h) ?_
    unfold encP
    rw [hp2]
    (try simp only [List.set_cons_succ, List.set_cons_zero])
    (with_reducible refine t_cons ?_); (try simp only [yN, List.set_cons_succ, List.set_cons_zero, yi, yc, y9, List.getElem?_cons_succ, List.getElem?_cons_zero, z0, zf])
    (with_reducible refine t_seq ?_); (try simp only [yW, List.getElem?_cons_succ, List.getElem?_cons_zero, List.set_cons_succ, List.set_cons_zero, yi, yc, y9, z0, z4])
    refine a_edge hek ?_
    (try simp only [ze])
    refine hΛ _ _ _ _ _ _ hn hU hab.1 fun p1 hU1 => ?_
    (with_reducible refine t_seq ?_); (try simp only [yW, List.getElem?_cons_succ, List.getElem?_cons_zero, List.set_cons_succ, List.set_cons_zero, yi, yc, y9, z0, z4])
    refine a_edge hek ?_
    (try simp only [zf])
    refine hΛ _ _ _ _ _ _ hn hU1 hab.2 fun p2 hU2 => ?_
    unfold dN
    (with_reducible refine t_seq ?_); (try simp only [yX, x4, r_seq0, zY, y9, List.getElem?_cons_succ, List.getElem?_cons_zero, z0, zn])
    clear hU hU1
    have ha := hU2.rr _ hab.1
    have hb := hU2.rr _ hab.2
    have hRe := hR _ _ hab.1 hab.2
    by_cases c : R (edgeAt E k).1 = R (edgeAt E k).2
    · refine ite_no (by simp [c]) ?_
      rw [htk, kru_yes (hRe.mp c)] at hK
      exact hK p2 R _ _ _ _ ⟨⟨rk, hU2⟩, hR⟩
    · refine ite_yes (by simp; omega) ?_
      rw [htk, kru_no fun q => c (hRe.mpr q), memB_snoc] at hK
      have e := nat_upd (n := n) (w := R (edgeAt E k).1) (x := R (edgeAt E k).2) (p := p2)
      unfold dN at e
      obtain ⟨rk', hU3⟩ := hU2.union ha.1 hb.1 ha.2 hb.2 c
      (with_reducible refine t_cons ?_); (try simp only [yU, List.getElem?_cons_succ, List.getElem?_cons_zero, List.set_cons_succ, List.set_cons_zero, y9, z0, z7, z2])
      refine s_tab ha.1 ?_
      rw [e]
      (with_reducible refine t_seq ?_); (try simp only [yU, List.getElem?_cons_succ, List.getElem?_cons_zero, List.set_cons_succ, List.set_cons_zero, r_seq0, y9, z0, z7, z2, yb])
      refine s_tab hk ?_
      rw [mark_upd]
      refine hK (upd p2 (R (edgeAt E k).1) (R (edgeAt E k).2)) (unR R (R (edgeAt E k).1) (R (edgeAt E k).2)) _ _ _ _ ⟨⟨rk', hU3⟩, fun u v hu hv => ?_⟩
      rw [List.map_append, List.map_cons, List.map_nil]
      exact unR_conn hR hab.1 hab.2 rfl rfl u v hu hv
  · intro p R s8 s9 s10 s11 _
    rw [List.length_map, sortedPairs_len, ← ordOf_len, List.take_length]
    rw [ordOf_len]
    (with_reducible refine t_seq ?_); (try simp only [x0, zK, zO, yH, yK, y9, List.getElem?_cons_succ, List.getElem?_cons_zero, z0])
    refine m_range (by omega) ?_
    refine compGo_encF (l := List.range ws.length) dN (memB (taken E ws)) dN (fun k hk K hK => ?_) ?_
    · have hk' := List.mem_range.mp hk
      unfold compB dN
      (try simp only [y9, y1, zE, List.set_cons_succ, List.set_cons_zero, List.getElem?_cons_succ, List.getElem?_cons_zero, z0, z2])
      refine a_tab hk' ?_
      (try simp only [zu])
      unfold taken at hK
      by_cases c : memB (kru (edgeAt E) (ordOf ws) []) k = true
      · rw [if_pos c] at hK
        exact ite_yes c hK
      · rw [if_neg c] at hK
        exact ite_no c hK
    · rw [best_eq, hw]; rfl

theorem nodup_length_le {T : List Nat} {m : Nat} (hn : T.Nodup) (h : ∀ j ∈ T, j < m) : T.length ≤ m := by
  have : T.Perm ((List.range m).filter fun j => decide (j ∈ T)) := (List.perm_ext_iff_of_nodup hn (List.Sublist.nodup List.filter_sublist List.nodup_range)).mpr (by
    intro a; simp; exact fun q => h a q)
  rw [this.length_eq]
  exact Nat.le_trans (List.length_filter_le _ _) (by simp)
theorem taken_nodup (E : List Edge) (ws : List Int) : (taken E ws).Nodup := by
  unfold taken
  apply kru_nodup
  rw [List.nil_append]
  exact (ordOf_perm ws).nodup_iff.mpr List.nodup_range
theorem taken_lt {E : List Edge} {ws : List Int} {k : Nat} (h : k ∈ taken E ws) : k < ws.length := by
  unfold taken at h
  rcases kru_mem h with q | q
  · cases q
  · have := (ordOf_perm ws).mem_iff.mp q
    simpa using this
theorem best_perm {E : List Edge} {ws : List Int} (hw : ws.length = E.length) : (best E ws).Perm (taken E ws) := by
  rw [best_eq]
  apply (List.perm_ext_iff_of_nodup (List.Sublist.nodup List.filter_sublist List.nodup_range) (taken_nodup E ws)).mpr
  intro a
  simp only [List.mem_filter, List.mem_range, memB_iff]
  exact ⟨fun h => h.2, fun h => ⟨by have := taken_lt h; omega, h⟩⟩
theorem best_sorted (E : List Edge) (ws : List Int) : (best E ws).Pairwise (· < ·) := by
  rw [best_eq]
  exact List.Pairwise.filter _ List.pairwise_lt_range

theorem law_best_ok (Φ : Funs) (Λ : Lends) (hΦ : SpecLabels Φ) (n : Nat) (E : List Edge) (ws : List Int) (hn : n ≤ 1000) (hE : InV n E) (hl : E.length < 64) (hw : ws.length = E.length) :
    wpSs Φ Λ b_law_best [.sh (dN n), .sh (dPs E), .sh (dIs ws), .undef, .undef, .undef, .undef, .undef, .undef]
      (RetP fun d => d = dNs (best E ws)) := by
  unfold b_law_best dPs dN dIs
  (with_reducible refine t_cons ?_); (try simp only [yO, List.set_cons_succ, List.set_cons_zero, yf, z6, yg])
  (with_reducible refine t_seq ?_); (try simp only [yZ, yL, yA, yH, yK, yu, y9, List.getElem?_cons_succ, List.getElem?_cons_zero, z0, zv])
  rw [List.length_map]
  refine m_range (by omega) ?_
  refine compGo_enc (l := List.range E.length) dN (fun k => PyData.tuple [.int (ws.getD k 0), .int (k : Nat)]) (fun k hk K hK => pair_at (by have := List.mem_range.mp hk; omega) hK) ?_
  rw [← hw, pairs_enc]
  refine ⟨pairsOf ws, rfl, by simp [pairsOf, tab]; omega, fun qs hq hs => ?_⟩
  rw [sortedPairs_uniq hq hs]
  clear hq hs
  refine ⟨by rw [List.length_map, sortedPairs_len]; omega, ?_⟩
  refine forGo_F3 (fun i s4 s5 s6 => True) (fun i s4 s5 s6 => [.sh (.int n), .sh (.list (E.map dP)), .sh (.list (ws.map .int)), .own1 ((kru (edgeAt E) ((ordOf ws).take i) []).map dN), s4, s5, s6, .undef, .undef])
    (by simp only [List.take_zero, kru, List.map_nil]; rfl) trivial ?_ ?_
  · intro i h s4 s5 s6 _ K hK _ _
    rw [List.length_map] at h
    have ho : i < (ordOf ws).length := by rw [ordOf_len]; rw [sortedPairs_len] at h; exact h
    have hk := ordOf_lt (h := ho)
    have hp2 := encP_getN (h := h)
    have htk := List.take_succ_eq_append_getElem ho
    generalize (ordOf ws)[i] = k at hk hp2 htk
    have hT : ∀ j ∈ kru (edgeAt E) ((ordOf ws).take i) [], j < E.length := fun j hj => by
      rcases kru_mem hj with q | q
      · cases q
      · have := (ordOf_perm ws).mem_iff.mp (List.mem_of_mem_take q)
        rw [← hw]; simpa using this
    have hTn : (kru (edgeAt E) ((ordOf ws).take i) []).Nodup := kru_nodup (by rw [List.nil_append]; exact List.Sublist.nodup (List.take_sublist _ _) ((ordOf_perm ws).nodup_iff.mpr List.nodup_range))
    have hTl : (kru (edgeAt E) ((ordOf ws).take i) []).length ≤ E.length := nodup_length_le hTn hT
    have hye := fun hy => kru_yes (ks := (ordOf ws).take i) (T := []) (k := k) (e := edgeAt E) hy
    have hno := fun hy => kru_no (ks := (ordOf ws).take i) (T := []) (k := k) (e := edgeAt E) hy
    rw [htk] at hK
    generalize kru (edgeAt E) ((ordOf ws).take i) [] = T at hT hTl hye hno ⊢
    have hkE : k < E.length := by omega
    have hEl : ∀ j, j < E.length → E[j]? = some (edgeAt E j) := fun j hj => by rw [List.getElem?_eq_getElem hj, edgeAt_eq hj]
    have hab := hE _ (List.getElem_mem hkE)
    rw [← edgeAt_eq hkE] at hab
    refine t_forE (List.getElem?_eq_getElem h) ?_
    unfold encP
    rw [hp2]
    (try simp only [List.set_cons_succ, List.set_cons_zero])
    (with_reducible refine t_cons ?_); (try simp only [yN, List.set_cons_succ, List.set_cons_zero, yi, yc, y9, List.getElem?_cons_succ, List.getElem?_cons_zero, z0, zf])
    (with_reducible refine t_seq ?_); (try simp only [yN, List.set_cons_succ, List.set_cons_zero, yG, yh, yg, yH, yM, List.getElem?_cons_succ, List.getElem?_cons_zero, z2, y9, z0])
    refine ⟨by rw [List.length_map]; omega, ?_⟩
    refine compGo_enc dN (fun j => dP (edgeAt E j)) (fun j hj K' hK' => ?_) ?_
    · exact a_map (hEl j (hT j hj)) (Q := fun d => K' (some d)) hK'
    rw [show T.map (fun j => dP (edgeAt E j)) = (T.map (edgeAt E)).map dP by simp]
    have hV : InV n (T.map (edgeAt E)) := fun x hx => by
      obtain ⟨j, hj, rfl⟩ := List.mem_map.mp hx
      rw [edgeAt_eq (hT j hj)]; exact hE _ (List.getElem_mem _)
    obtain ⟨f, hf⟩ := exists_lab _ hV
    refine hΦ n _ f _ hn hV (by rw [List.length_map]; omega) hf ?_
    have hiff := hf.eq_iff hab.1 hab.2
    clear hf hV hT hTn
    unfold dNs
    (with_reducible refine t_seq ?_); (try simp only [yX, x4, r_seq0, zY, yi, yc, y9, List.getElem?_cons_succ, List.getElem?_cons_zero, z0])
    refine a_edge (hEl k hkE) ?_
    (try simp only [ze])
    refine a_nat (tab_get? hab.1) ?_
    refine a_edge (hEl k hkE) ?_
    (try simp only [zf])
    refine a_nat (tab_get? hab.2) ?_
    (try simp only [zn])
    by_cases c : f (edgeAt E k).1 = f (edgeAt E k).2
    · refine ite_no (by simp [c]) ?_
      rw [hye (hiff.mp c)] at hK
      exact hK _ _ _ trivial
    · refine ite_yes (by simp; omega) ?_
      rw [hno fun q => c (hiff.mpr q), ← map_snoc] at hK
      (with_reducible refine t_cons ?_); (try simp only [yS, List.getElem?_cons_succ, List.getElem?_cons_zero, List.set_cons_succ, List.set_cons_zero, r_seq0, y9, z0, z4])
      exact ⟨by rw [List.length_map]; omega, hK _ _ _ trivial⟩
  · intro s4 s5 s6 _
    rw [List.length_map, sortedPairs_len, ← ordOf_len, List.take_length]
    (with_reducible refine t_seq ?_); (try simp only [yQ, List.getElem?_cons_succ, List.getElem?_cons_zero, List.set_cons_succ, List.set_cons_zero, z8])
    (with_reducible refine t_seq ?_); (try simp only [x0, zK, zO, yz, y9, List.getElem?_cons_succ, List.getElem?_cons_zero, z0])
    refine ⟨(taken E ws).map fun k : Nat => (k : Int), by simp [taken, dN], ?_, fun ms hp hs => ?_⟩
    · rw [List.length_map, ← (best_perm hw).length_eq]
      have : (best E ws).length ≤ E.length := by rw [best_eq]; exact Nat.le_trans (List.length_filter_le _ _) (by simp)
      omega
    · have e : ms = (best E ws).map fun k : Nat => (k : Int) := by
        apply eq_of_perm_sorted (le := (· ≤ ·)) (fun a b => Int.le_antisymm) (hp.trans ((best_perm hw).symm.map _)) hs
        rw [List.pairwise_map]
        exact (best_sorted E ws).imp fun h => by omega
      rw [e]
      simp [dNs, dN]
end
section
open PySem

noncomputable def SpecForest (Φ : Funs) : Prop := ∀ (n : Nat) (E : List Edge) (ws : List Int) (Q : D → Prop), n ≤ 1000 → InV n E → E.length < 64 → ws.length = E.length → Q (dNs (best E ws)) → Φ 9 [dG n E, dIs ws] Q
noncomputable def SpecRising (Φ : Funs) : Prop := ∀ (xs : List Int) (Q : D → Prop), xs.length ≤ 1000 → Q (.bool (decide (xs.Pairwise (· < ·)))) → Φ 2 [dIs xs] Q
noncomputable def SpecCompIds (Φ : Funs) : Prop := ∀ (n : Nat) (E E' : List Edge) (skip : Int) (L : Nat → Nat) (Q : D → Prop), n ≤ 1000 → InV n E → E.length ≤ 1000 →
  (∀ e, e ∈ E' ↔ ∃ j : Nat, (j : Int) ≠ skip ∧ E[j]? = some e) → IsLab n E' L → Q (.tuple [.list (tab n fun v => dN (rank L v)), dN (cnt L n)]) → Φ 1 [dN n, dPs E, .int skip] Q

open Classical in
noncomputable def labOf (n : Nat) (E : List Edge) : Nat → Nat := if h : InV n E then (exists_lab E h).choose else id
theorem labOf_is {n : Nat} {E : List Edge} (h : InV n E) : IsLab n E (labOf n E) := by
  unfold labOf; rw [dif_pos h]; exact (exists_lab E h).choose_spec

noncomputable def subOf (E : List Edge) (plan : List Int) : List Edge := plan.map fun p => edgeAt E p.toNat
noncomputable def cost (ws : List Int) (plan : List Int) : Int := (plan.map fun p => ws.getD p.toNat 0).sum
noncomputable def toI (l : List Nat) : List Int := l.map fun k : Nat => (k : Int)

/-- the plan is a least spanning plan -/
noncomputable def Fits (n : Nat) (E : List Edge) (ws plan : List Int) : Prop :=
  plan.Pairwise (· < ·) ∧ (∀ p ∈ plan, 0 ≤ p ∧ p < E.length) ∧ plan.length = (best E ws).length ∧ (∀ v, v < n → labOf n (subOf E plan) v = labOf n E v) ∧ cost ws plan = cost ws (toI (best E ws))

theorem taken_conn {E : List Edge} {ws : List Int} (hw : ws.length = E.length) {u v : Nat} : Conn ((taken E ws).map (edgeAt E)) u v ↔ Conn E u v := by
  unfold taken
  rw [kru_conn]
  have : ∀ x, x ∈ ([] : List Nat).map (edgeAt E) ++ (ordOf ws).map (edgeAt E) ↔ x ∈ E := by
    intro x
    simp only [List.map_nil, List.nil_append, List.mem_map]
    constructor
    · rintro ⟨k, hk, rfl⟩
      have := (ordOf_perm ws).mem_iff.mp hk
      simp at this
      rw [edgeAt_eq (by omega)]
      exact List.getElem_mem _
    · intro hx
      obtain ⟨k, hk, e⟩ := List.getElem_of_mem hx
      exact ⟨k, (ordOf_perm ws).mem_iff.mpr (by simp; omega), by rw [edgeAt_eq hk, e]⟩
  exact ⟨fun h => h.mono fun x => (this x).mp, fun h => h.mono fun x => (this x).mpr⟩
theorem best_len {n : Nat} {E : List Edge} {ws : List Int} (hn : 0 < n) (hE : InV n E) (hw : ws.length = E.length) {f : Nat → Nat} (hf : IsLab n E f) : cnt f n + (best E ws).length = n := by
  rw [(best_perm hw).length_eq]
  have hg : IsLab n ((taken E ws).map (edgeAt E)) f := hf.congrE fun u v => (taken_conn hw).symm
  unfold taken at hg ⊢
  refine kru_cnt (fun k => ?_) (f := fun v => v) ?_ ?_ hg
  · by_cases hk : k < E.length
    · rw [edgeAt_eq hk]; exact hE _ (List.getElem_mem _)
    · have : edgeAt E k = (0, 0) := by simp [edgeAt, List.getD, hk]
      rw [this]; exact ⟨hn, hn⟩
  · exact isLab_nil
  · rw [cnt_id]; rfl

theorem subOf_inV {n : Nat} {E : List Edge} {plan : List Int} (hE : InV n E) (hp : ∀ p ∈ plan, 0 ≤ p ∧ p < E.length) : InV n (subOf E plan) := fun x hx => by
  obtain ⟨p, h, rfl⟩ := List.mem_map.mp hx
  have := hp p h
  rw [edgeAt_eq (by omega)]; exact hE _ (List.getElem_mem _)
theorem subOf_sub {E : List Edge} {plan : List Int} (hp : ∀ p ∈ plan, 0 ≤ p ∧ p < E.length) : ∀ x, x ∈ subOf E plan → x ∈ E := fun x hx => by
  obtain ⟨p, h, rfl⟩ := List.mem_map.mp hx
  have := hp p h
  rw [edgeAt_eq (by omega)]; exact List.getElem_mem _
theorem lab_eq_iff_cnt {n : Nat} {E E' : List Edge} {f g : Nat → Nat} (hf : IsLab n E f) (hg : IsLab n E' g) (hs : ∀ x, x ∈ E → x ∈ E') : (∀ v, v < n → f v = g v) ↔ cnt f n = cnt g n :=
  ⟨cnt_congr, fun e v hv => hf.eq_of_cnt hg (fun u v c => c.mono hs) e.symm hv⟩

theorem sum_snoc (l : List Int) (x : Int) : (l ++ [x]).sum = l.sum + x := by
  induction l with
  | nil => simp
  | cons a l ih => simp only [List.cons_append, List.sum_cons, ih]; omega
theorem cost_take {ws plan : List Int} {i : Nat} (h : i < plan.length) : cost ws (plan.take (i + 1)) = cost ws (plan.take i) + ws.getD plan[i].toNat 0 := by
  unfold cost
  rw [List.take_succ_eq_append_getElem h, List.map_append, List.map_cons, List.map_nil, sum_snoc]
theorem dNs_toI (l : List Nat) : l.map dN = (toI l).map PyData.int := by simp [toI, dN]

open Classical in
theorem check_forest_ok (Φ : Funs) (Λ : Lends) (h2 : SpecRising Φ) (h1 : SpecCompIds Φ) (h9 : SpecForest Φ) (n : Nat) (E : List Edge) (ws plan : List Int) (hn0 : 0 < n) (hn : n ≤ 1000) (hE : InV n E) (hl : E.length < 64) (hw : ws.length = E.length) (hpl : plan.length ≤ 1000) :
    wpSs Φ Λ b_check_forest [.sh (dG n E), .sh (dIs ws), .sh (dIs plan), .undef, .undef, .undef, .undef, .undef, .undef, .undef, .undef, .undef]
      (RetP fun d => d = .bool (decide (Fits n E ws plan))) := by
  have hL := labOf_is hE
  have hbl := best_len hn0 hE hw hL
  unfold b_check_forest dG dPs dN
  (try simp only [x5, yN, List.set_cons_succ, List.set_cons_zero, zI, yX, x0, zK, zO, yb, x4, yZ, yL, y9, List.getElem?_cons_succ, List.getElem?_cons_zero, z0, y6, y4, yh, yg, yu, yi, yc, zf, zv, ze])
  refine h2 _ _ hpl ?_
  (try simp only [zu])
  by_cases c1 : plan.Pairwise (· < ·)
  case neg =>
    (first | refine Mine.ite_yes (by simp [c1]) ?_ | rw [if_pos (by simp [c1])])
    rw [decide_eq_false (fun q => c1 q.1)]
  (first | refine Mine.ite_no (by simp [c1]) ?_ | rw [if_neg (by simp [c1])])
  simp only [dIs, zB]
  simp only [List.length_map]
  refine ⟨by omega, ?_⟩
  refine forGo_inv (fun i st => ∃ s6, (∀ p ∈ plan.take i, 0 ≤ p ∧ p < E.length) ∧ st = [.sh (.tuple [.int n, .list (E.map dP)]), .sh (.list (ws.map .int)), .sh (.list (plan.map .int)), .sh (.int n), .sh (.list (E.map dP)), .sh (.int E.length), s6, .undef, .undef, .undef, .undef, .undef])
    ⟨_, by simp, rfl⟩ ?_ ?_
  · intro i h st hI₀ K hK _ hR
    obtain ⟨s6, hpre, rfl⟩ := hI₀
    rw [List.length_map] at h
    unfold forB
    simp only [List.getElem_map, x5, yX, x0, zK, yb, x4, zI, y8, zY, y9, yc, zE, List.set_cons_succ, List.set_cons_zero, List.getElem?_cons_succ, List.getElem?_cons_zero, z0, zt, zo]
    by_cases c2 : plan[i] < 0
    · rw [if_pos (by simpa using c2), if_pos (by simp)]
      refine hR _ _ ?_
      (try simp only [zK, zO])
      rw [decide_eq_false fun q => ?_]
      have := q.2.1 plan[i] (List.getElem_mem _); omega
    · (first | refine Mine.ite_no (by simpa using c2) ?_ | rw [if_neg (by simpa using c2)])
      by_cases c3 : plan[i] ≥ E.length
      · (first | refine Mine.ite_yes (by simpa using c3) ?_ | rw [if_pos (by simpa using c3)])
        refine hR _ _ ?_
        (try simp only [zK, zO])
        rw [decide_eq_false fun q => ?_]
        have := q.2.1 plan[i] (List.getElem_mem _); omega
      · (first | refine Mine.ite_no (by simpa using c3) ?_ | rw [if_neg (by simpa using c3)])
        refine hK _ ⟨_, fun p hp => ?_, rfl⟩
        rw [List.take_succ_eq_append_getElem h] at hp
        rcases List.mem_append.mp hp with q | q
        · exact hpre p q
        · rw [List.mem_singleton.mp q]; omega
  · rintro st ⟨s6, hpre, rfl⟩
    rw [List.length_map, List.take_length] at hpre
    (try simp only [zI, x5, yN, List.set_cons_succ, List.set_cons_zero, yX, x0, zK, zO, yb, x4, yZ, yL, y9, List.getElem?_cons_succ, List.getElem?_cons_zero, z0, zB, yc, zY, yo, yu, zv, yi, yG, yh, yg, yH])
    refine h1 n E E (-1) _ _ hn hE (by omega) mem_iff_skip hL ?_
    (try simp only [zf])
    rw [List.length_map]
    refine ⟨by omega, ?_⟩
    refine compGo_enc PyData.int (fun p => dP (edgeAt E p.toNat)) (fun p hp K hK => ?_) ?_
    · have := hpre p hp
      unfold compB
      (try simp only [yi, y9, y5, zE, List.set_cons_succ, List.set_cons_zero, List.getElem?_cons_succ, List.getElem?_cons_zero, z0, zd])
      simp only [List.length_map, List.getElem_map, if_true]
      refine ⟨by omega, by omega, ?_⟩
      rw [edgeAt_eq (by omega)] at hK
      exact hK
    · have e1 : plan.map (fun p => dP (edgeAt E p.toNat)) = (subOf E plan).map dP := by simp [subOf]
      rw [e1]
      skip
      have hsV := subOf_inV hE hpre
      have hLs := labOf_is hsV
      have hiff := lab_eq_iff_cnt hLs hL (subOf_sub hpre)
      refine h1 n _ _ (-1) _ _ hn hsV (by simp [subOf]; omega) mem_iff_skip hLs ?_
      simp only [dN, zi, zn, zf]
      by_cases c4 : cnt (labOf n (subOf E plan)) n = cnt (labOf n E) n
      case neg =>
        (first | refine Mine.ite_yes (by simp; omega) ?_ | rw [if_pos (by simp; omega)])
        rw [decide_eq_false fun q => c4 (hiff.mp q.2.2.2.1)]
      (first | refine Mine.ite_no (by simp [c4]) ?_ | rw [if_neg (by simp [c4])])
      by_cases c5 : plan.length = (best E ws).length
      case neg =>
        (first | refine Mine.ite_yes (by simp; omega) ?_ | rw [if_pos (by simp; omega)])
        rw [decide_eq_false fun q => c5 q.2.2.1]
      (first | refine Mine.ite_no (by simp; omega) ?_ | rw [if_neg (by simp; omega)])
      refine ⟨by omega, ?_⟩
      refine forGo_inv (fun i st => ∃ s6, st = [.sh (.tuple [.int n, .list (E.map dP)]), .sh (.list (ws.map .int)), .sh (.list (plan.map .int)), .sh (.int n), .sh (.list (E.map dP)), .sh (.int E.length), s6, .sh (.int (cnt (labOf n E) n)), .sh (.list ((subOf E plan).map dP)), .sh (.int (cost ws (plan.take i))), .undef, .undef])
        ⟨_, rfl⟩ ?_ ?_
      · intro i h st hI₀ K hK _ hR
        obtain ⟨s6, rfl⟩ := hI₀
        rw [List.length_map] at h
        have hpi := hpre plan[i] (List.getElem_mem _)
        unfold forB
        simp only [List.getElem_map, x5, yN, zI, x4, yo, yi, y9, zE, List.set_cons_succ, List.set_cons_zero, List.getElem?_cons_succ, List.getElem?_cons_zero, z0, zd, zg]
        simp only [List.length_map, List.getElem_map]
        refine ⟨by omega, by omega, ?_⟩
        rw [cost_take h] at hK
        have e : ws.getD plan[i].toNat 0 = ws[plan[i].toNat]'(by omega) := by simp [(by omega : plan[i].toNat < ws.length)]
        rw [e] at hK
        exact hK _ ⟨_, rfl⟩
      · rintro st ⟨s6, rfl⟩
        rw [List.length_map, List.take_length]
        (try simp only [zI, x5, yN, List.set_cons_succ, List.set_cons_zero, yZ, yL, yG, yh, yg, y9, List.getElem?_cons_succ, List.getElem?_cons_zero, z0, yc])
        refine h9 n E ws _ hn hE hl hw ?_
        simp only [dNs, zB]
        have hbL : (best E ws).length ≤ 1000 := by rw [← c5]; exact hpl
        rw [dNs_toI, List.length_map]
        refine ⟨by simp [toI]; omega, ?_⟩
        refine forGo_inv (fun i st => ∃ s6, st = [.sh (.tuple [.int n, .list (E.map dP)]), .sh (.list (ws.map .int)), .sh (.list (plan.map .int)), .sh (.int n), .sh (.list (E.map dP)), .sh (.int E.length), s6, .sh (.int (cnt (labOf n E) n)), .sh (.list ((subOf E plan).map dP)), .sh (.int (cost ws plan)), .sh (.int (cost ws ((toI (best E ws)).take i))), .undef])
          ⟨_, rfl⟩ ?_ ?_
        · intro i h st hI₀ K hK _ hR
          obtain ⟨s6, rfl⟩ := hI₀
          rw [List.length_map] at h
          have hpi : 0 ≤ (toI (best E ws))[i] ∧ (toI (best E ws))[i].toNat < ws.length := by
            have hi' : i < (best E ws).length := by simpa [toI] using h
            have : (toI (best E ws))[i] = ((best E ws)[i] : Int) := by simp [toI]
            rw [this]
            have := taken_lt ((best_perm hw).mem_iff.mp (List.getElem_mem hi'))
            omega
          unfold forB
          simp only [List.getElem_map, x5, yN, zI, x4, yo, yi, y9, zE, List.set_cons_succ, List.set_cons_zero, List.getElem?_cons_succ, List.getElem?_cons_zero, z0, zd, zg]
          simp only [List.length_map, List.getElem_map]
          refine ⟨hpi.1, hpi.2, ?_⟩
          rw [cost_take h] at hK
          have e : ws.getD (toI (best E ws))[i].toNat 0 = ws[(toI (best E ws))[i].toNat]'hpi.2 := by simp [hpi.2]
          rw [e] at hK
          exact hK _ ⟨_, rfl⟩
        · rintro st ⟨s6, rfl⟩
          rw [List.length_map, List.take_length]
          (try simp only [zI, x5, x0, zK, zO, yp, y9, List.getElem?_cons_succ, List.getElem?_cons_zero, z0, zm])
          congr 1
          rw [Bool.eq_iff_iff]
          simp only [decide_eq_true_eq]
          exact ⟨fun q => ⟨c1, hpre, c5, hiff.mpr c4, q⟩, fun q => q.2.2.2.2⟩
end
section
open PySem

theorem plan_filter {plan : List Int} {m : Nat} : plan = toI ((List.range m).filter fun k : Nat => decide ((k : Int) ∈ plan)) ↔ plan.Pairwise (· < ·) ∧ ∀ p ∈ plan, 0 ≤ p ∧ p < m := by
  have hs : (toI ((List.range m).filter fun k : Nat => decide ((k : Int) ∈ plan))).Pairwise (· < ·) := by
    unfold toI
    rw [List.pairwise_map]
    exact (List.Pairwise.filter _ List.pairwise_lt_range).imp fun h => by omega
  have hm : ∀ p, p ∈ toI ((List.range m).filter fun k : Nat => decide ((k : Int) ∈ plan)) ↔ p ∈ plan ∧ 0 ≤ p ∧ p < m := by
    intro p
    unfold toI
    simp only [List.mem_map, List.mem_filter, List.mem_range, decide_eq_true_eq]
    constructor
    · rintro ⟨k, ⟨hk, hp⟩, rfl⟩; exact ⟨hp, by omega, by omega⟩
    · rintro ⟨hp, h0, h1⟩
      refine ⟨p.toNat, ⟨by omega, ?_⟩, by omega⟩
      rw [Int.toNat_of_nonneg h0]; exact hp
  constructor
  · intro e
    refine ⟨by rw [e]; exact hs, fun p hp => ?_⟩
    rw [e] at hp
    exact ((hm p).mp hp).2
  · rintro ⟨h1, h2⟩
    refine eq_of_perm_sorted (le := (· < ·)) (fun a b h k => by omega) ?_ h1 hs
    refine (List.perm_ext_iff_of_nodup (h1.imp fun h => by omega) (hs.imp fun h => by omega)).mpr fun p => ?_
    rw [hm]
    exact ⟨fun h => ⟨h, h2 p h⟩, fun h => h.1⟩

theorem eqv_dIs' (a b : List Int) : PyData.eqv (.list (a.map .int)) (.list (b.map .int)) = decide (a = b) := by
  rw [Bool.eq_iff_iff, decide_eq_true_eq]; exact eqv_dIs a b
theorem eqv_dNs' (a b : List Nat) : PyData.eqv (.list (a.map dN)) (.list (b.map dN)) = decide (a = b) := by
  rw [Bool.eq_iff_iff, decide_eq_true_eq]; exact eqv_dNs a b
theorem ok_dIs' (a : List Int) : okD (.list (a.map .int)) = true := ok_dIs a
theorem ok_dNs' (a : List Nat) : okD (.list (a.map dN)) = true := ok_dNs a

open Classical in
theorem law_fits_ok (Φ : Funs) (Λ : Lends) (h16 : SpecLabels Φ) (n : Nat) (E : List Edge) (ws plan : List Int) (hn : n ≤ 1000) (hE : InV n E) (hl : E.length < 64) (hw : ws.length = E.length) (hpl : plan.length ≤ 1000) :
    wpSs Φ Λ b_law_fits [.sh (dN n), .sh (dPs E), .sh (dIs ws), .sh (dIs plan), .sh (dNs (best E ws)), .undef, .undef, .undef, .undef]
      (RetP fun d => d = .bool (decide (Fits n E ws plan))) := by
  have hL := labOf_is hE
  have hbl : (best E ws).length ≤ E.length := by rw [best_eq]; exact Nat.le_trans (List.length_filter_le _ _) (by simp)
  unfold b_law_fits dIs dNs
  simp only [dPs, x5, yX, x0, zK, zO, yb, x4, zI, yp, yy, yH, yL, y9, List.getElem?_cons_succ, List.getElem?_cons_zero, z0, zB, zY, yG, yh, yg, yu, zv, zn, yK, zA]
  rw [List.length_map]
  refine ⟨by omega, by omega, by omega, ?_⟩
  rw [rangeL_zero]
  unfold tab
  refine compGo_encF dN (fun k : Nat => decide ((k : Int) ∈ plan)) dN (fun k hk K hK => ?_) ?_
  · unfold compB
    simp only [dN, y9, zY, zE, List.set_cons_succ, List.set_cons_zero, List.getElem?_cons_succ, List.getElem?_cons_zero, z0, r_inL]
    refine ⟨plan, rfl, ?_⟩
    by_cases c : (k : Int) ∈ plan
    · rw [if_pos (by simpa using c)] at hK ⊢
      exact hK
    · rw [if_neg (by simpa using c)] at hK ⊢
      exact hK
  · rw [dNs_toI, r_ne, ok_dIs', ok_dIs', eqv_dIs']
    refine ⟨rfl, rfl, ?_⟩
    by_cases c1 : plan = toI ((List.range E.length).filter fun k : Nat => decide ((k : Int) ∈ plan))
    case neg =>
      (first | refine Mine.ite_yes (by simpa using c1) ?_ | rw [if_pos (by simpa using c1)])
      skip
      rw [decide_eq_false fun q => c1 (plan_filter.mpr ⟨q.1, q.2.1⟩)]
    (first | refine Mine.ite_no (by simpa using c1) ?_ | rw [if_neg (by simpa using c1)])
    obtain ⟨hs, hpre⟩ := plan_filter.mp c1
    skip
    simp only [List.length_map]
    by_cases c2 : plan.length = (best E ws).length
    case neg =>
      (first | refine Mine.ite_yes (by simp; omega) ?_ | rw [if_pos (by simp; omega)])
      rw [decide_eq_false fun q => c2 q.2.2.1]
    (first | refine Mine.ite_no (by simp; omega) ?_ | rw [if_neg (by simp; omega)])
    refine ⟨by omega, ?_⟩
    refine compGo_enc PyData.int (fun p => dP (edgeAt E p.toNat)) (fun p hp K hK => ?_) ?_
    · have := hpre p hp
      unfold compB
      (try simp only [yi, y9, y5, zE, List.set_cons_succ, List.set_cons_zero, List.getElem?_cons_succ, List.getElem?_cons_zero, z0, zd])
      simp only [List.length_map, List.getElem_map, if_true]
      refine ⟨by omega, by omega, ?_⟩
      rw [edgeAt_eq (by omega)] at hK
      exact hK
    · have e1 : plan.map (fun p => dP (edgeAt E p.toNat)) = (subOf E plan).map dP := by simp [subOf]
      rw [e1]
      have hsV := subOf_inV hE hpre
      have hLs := labOf_is hsV
      refine h16 n _ _ _ hn hsV (by simp [subOf]; omega) hLs ?_
      refine h16 n _ _ _ hn hE (by omega) hL ?_
      unfold dNs
      rw [r_ne, ok_dNs', ok_dNs', eqv_dNs']
      refine ⟨rfl, rfl, ?_⟩
      by_cases c3 : ∀ v, v < n → labOf n (subOf E plan) v = labOf n E v
      case neg =>
        (first | refine Mine.ite_yes (by simpa [tab_inj] using c3) ?_ | rw [if_pos (by simpa [tab_inj] using c3)])
        rw [decide_eq_false fun q => c3 q.2.2.2.1]
      (first | refine Mine.ite_no (by simpa [tab_inj] using c3) ?_ | rw [if_neg (by simpa [tab_inj] using c3)])
      refine ⟨by omega, ?_⟩
      refine compGo_enc PyData.int (fun p => PyData.int (ws.getD p.toNat 0)) (fun p hp K hK => ?_) ?_
      · have := hpre p hp
        unfold compB
        (try simp only [yi, y9, y5, zE, List.set_cons_succ, List.set_cons_zero, List.getElem?_cons_succ, List.getElem?_cons_zero, z0, zd])
        simp only [List.length_map, List.getElem_map, if_true]
        refine ⟨by omega, by omega, ?_⟩
        have e : ws.getD p.toNat 0 = ws[p.toNat]'(by omega) := by simp [(by omega : p.toNat < ws.length)]
        rw [e] at hK
        exact hK
      · rw [r_sumD]
        refine ⟨plan.map fun p => ws.getD p.toNat 0, by simp, ?_⟩
        rw [dNs_toI]
        refine ⟨by omega, ?_⟩
        refine compGo_enc PyData.int (fun p => PyData.int (ws.getD p.toNat 0)) (fun p hp K hK => ?_) ?_
        · have hpb : 0 ≤ p ∧ p.toNat < ws.length := by
            unfold toI at hp
            obtain ⟨k, hk, rfl⟩ := List.mem_map.mp hp
            have := taken_lt ((best_perm hw).mem_iff.mp hk)
            omega
          unfold compB
          (try simp only [yi, y9, y5, zE, List.set_cons_succ, List.set_cons_zero, List.getElem?_cons_succ, List.getElem?_cons_zero, z0, zd])
          simp only [List.length_map, List.getElem_map, if_true]
          refine ⟨hpb.1, hpb.2, ?_⟩
          have e : ws.getD p.toNat 0 = ws[p.toNat]'hpb.2 := by simp [hpb.2]
          rw [e] at hK
          exact hK
        · rw [r_sumD]
          refine ⟨(toI (best E ws)).map fun p => ws.getD p.toNat 0, by simp, ?_⟩
          (try simp only [zm])
          congr 1
          rw [Bool.eq_iff_iff]
          simp only [decide_eq_true_eq]
          exact ⟨fun q => ⟨hs, hpre, c2, c3, q⟩, fun q => q.2.2.2.2⟩

noncomputable def SpecBest (Φ : Funs) : Prop := ∀ (n : Nat) (E : List Edge) (ws : List Int) (Q : D → Prop), n ≤ 1000 → InV n E → E.length < 64 → ws.length = E.length → Q (dNs (best E ws)) → Φ 17 [dN n, dPs E, dIs ws] Q
noncomputable def SpecInts (Φ : Funs) : Prop := ∀ (xs : List Int) (Q : D → Prop), xs.length ≤ 1000 → Q (.bool true) → Φ 15 [dIs xs] Q
open Classical in
noncomputable def SpecCheck (Φ : Funs) : Prop := ∀ (n : Nat) (E : List Edge) (ws plan : List Int) (Q : D → Prop), 0 < n → n ≤ 1000 → InV n E → E.length < 64 → ws.length = E.length → plan.length ≤ 1000 → Q (.bool (decide (Fits n E ws plan))) → Φ 10 [dG n E, dIs ws, dIs plan] Q
open Classical in
noncomputable def SpecFits (Φ : Funs) : Prop := ∀ (n : Nat) (E : List Edge) (ws plan : List Int) (Q : D → Prop), n ≤ 1000 → InV n E → E.length < 64 → ws.length = E.length → plan.length ≤ 1000 → Q (.bool (decide (Fits n E ws plan))) → Φ 18 [dN n, dPs E, dIs ws, dIs plan, dNs (best E ws)] Q

theorem okD_tup3 {a b c : D} (ha : okD a = true) (hb : okD b = true) (hc : okD c = true) (h : a.depth ≤ 8 ∧ b.depth ≤ 8 ∧ c.depth ≤ 8) : okD (.tuple [a, b, c]) = true := by
  simp only [okD, Bool.and_eq_true, decide_eq_true_eq] at *
  refine ⟨by simp [PyData.canLay0, PyData.canLayAll0, ha.1, hb.1, hc.1], ?_⟩
  simp only [PyData.depth, PyData.depthAll]
  obtain ⟨h1, h2, h3⟩ := h
  have e : max (PyData.depth a) (max (PyData.depth b) (max (PyData.depth c) 0)) ≤ 8 := Nat.max_le.mpr ⟨h1, Nat.max_le.mpr ⟨h2, Nat.max_le.mpr ⟨h3, Nat.zero_le _⟩⟩⟩
  omega
theorem depth_dIs (l : List Int) : (dIs l).depth ≤ 8 := by
  have := depth_map (e := PyData.int) (k := 0) (fun _ => by simp [PyData.depth]) l
  simp only [dIs, PyData.depth]; omega
theorem depth_dNs (l : List Nat) : (dNs l).depth ≤ 8 := by
  have := depth_map (e := dN) (k := 0) (fun _ => by simp [dN, PyData.depth]) l
  simp only [dNs, PyData.depth]; omega
theorem depth_dPs (l : List Edge) : (dPs l).depth ≤ 8 := by
  have := depth_map (e := dP) (k := 1) (fun _ => by simp [dP, PyData.depth, PyData.depthAll]) l
  simp only [dPs, PyData.depth]; omega

theorem law_plans_ok (Φ : Funs) (Λ : Lends) (h17 : SpecBest Φ) (h9 : SpecForest Φ) (h15 : SpecInts Φ) (h10 : SpecCheck Φ) (h18 : SpecFits Φ) (n : Nat) (E : List Edge) (ws plan : List Int) (hn0 : 0 < n) (hn : n ≤ 1000) (hE : InV n E) (hl : E.length < 64) (hw : ws.length = E.length) (hpl : plan.length ≤ 1000) :
    wpSs Φ Λ b_law_plans [.sh (dN n), .sh (dPs E), .sh (dIs ws), .sh (dIs plan), .undef, .undef, .undef, .undef] (RetP fun d => d = .bool true) := by
  have hbl : (best E ws).length ≤ E.length := by rw [best_eq]; exact Nat.le_trans (List.length_filter_le _ _) (by simp)
  have e1 : dPs E = .list (E.map dP) := rfl
  have e2 : dIs ws = .list (ws.map .int) := rfl
  have e3 : dIs plan = .list (plan.map .int) := rfl
  unfold b_law_plans
  simp only [e1, e2, e3, x5, yN, List.set_cons_succ, List.set_cons_zero, zI, yX, x0, zK, zO, yb, x4, yp, y9, List.getElem?_cons_succ, List.getElem?_cons_zero, z0, ye, yh, yg, zY, yG, y6, y3, y4, yB, zP]
  simp only [List.length_map]
  refine ⟨by omega, by omega, by omega, ?_⟩
  rw [← e1, ← e2, ← e3]
  refine h17 n E ws _ hn hE hl hw ?_
  refine h9 n E ws _ hn hE hl hw ?_
  rw [r_ne, ok_dNs, (eqv_dNs _ _).mpr rfl]
  refine ⟨rfl, rfl, ?_⟩
  (first | refine Mine.ite_no (by simp) ?_ | rw [if_neg (by simp)])
  skip
  have e4 : dNs (best E ws) = dIs (toI (best E ws)) := by unfold dNs dIs; rw [dNs_toI]
  rw [e4]
  refine h15 _ _ (by simp [toI]; omega) ?_
  (try simp only [zu])
  (first | refine Mine.ite_no (by simp) ?_ | rw [if_neg (by simp)])
  refine h10 n E ws plan _ hn0 hn hE hl hw hpl ?_
  skip
  (first | refine Mine.ite_no (by simp [tyIs]) ?_ | rw [if_neg (by simp [tyIs])])
  rw [← e4]
  refine h18 n E ws plan _ hn hE hl hw hpl ?_
  rw [r_ne, ok_bool]
  refine ⟨rfl, rfl, ?_⟩
  (first | refine Mine.ite_no (by simp [eqv_ii, eqv_ll, eqv_tt, eqv_bb, eqv_ss, eqvA_nil, eqvA_cons, eqvA_nc, eqvA_cn]) ?_ | rw [if_neg (by simp [eqv_ii, eqv_ll, eqv_tt, eqv_bb, eqv_ss, eqvA_nil, eqvA_cons, eqvA_nc, eqvA_cn])])
  rw [r_eq]
  have hok : okD (.tuple [dPs E, dIs ws, dIs plan]) = true := okD_tup3 (ok_dPs E) (ok_dIs ws) (ok_dIs plan) ⟨depth_dPs E, depth_dIs ws, depth_dIs plan⟩
  refine ⟨hok, hok, ?_⟩
  skip
  congr 1
  simp only [eqv_ii, eqv_ll, eqv_tt, eqv_bb, eqv_ss, eqvA_nil, eqvA_cons, eqvA_nc, eqvA_cn, (eqv_dPs E E).mpr rfl, (eqv_dIs ws ws).mpr rfl, (eqv_dIs plan plan).mpr rfl, Bool.and_self]
end
section
open PySem

theorem erase_inV {n : Nat} {E : List Edge} (hE : InV n E) (k : Nat) : InV n (E.eraseIdx k) := fun e he => hE e (List.mem_of_mem_eraseIdx he)
theorem erase_mem {E : List Edge} (k : Nat) (e : Edge) : e ∈ E.eraseIdx k ↔ ∃ j : Nat, (j : Int) ≠ k ∧ E[j]? = some e := by
  rw [List.mem_eraseIdx_iff_getElem?]
  constructor
  · rintro ⟨j, h1, h2⟩; exact ⟨j, by omega, h2⟩
  · rintro ⟨j, h1, h2⟩; exact ⟨j, by omega, h2⟩

open Classical in
/-- the roads whose going parts the net -/
noncomputable def brid (n : Nat) (E : List Edge) : List Nat := (List.range E.length).filter fun k => decide (¬ ∀ v, v < n → labOf n (E.eraseIdx k) v = labOf n E v)

theorem filter_take_succ {p : Nat → Bool} {i : Nat} : (List.range (i + 1)).filter p = (List.range i).filter p ++ if p i = true then [i] else [] := by
  rw [List.range_succ, List.filter_append]
  cases h : p i <;> simp [h]

open Classical in
theorem bridges_ok (Φ : Funs) (Λ : Lends) (h1 : SpecCompIds Φ) (n : Nat) (E : List Edge) (hn : n ≤ 1000) (hE : InV n E) (hl : E.length ≤ 1000) :
    wpSs Φ Λ b_bridges [.sh (dG n E), .undef, .undef, .undef, .undef, .undef] (RetP fun d => d = dNs (brid n E)) := by
  have hL := labOf_is hE
  unfold b_bridges dG
  (try simp only [x5, yN, List.set_cons_succ, List.set_cons_zero, zI, yO, yZ, yK, yu, y9, List.getElem?_cons_succ, List.getElem?_cons_zero, z0, yf, z6, yg, yi, yc, yG, yh, zf, ze])
  refine h1 n E E (-1) _ _ hn hE hl mem_iff_skip hL ?_
  simp only [dPs, zv, zA, zf]
  rw [List.length_map]
  refine ⟨by omega, by omega, by omega, ?_⟩
  rw [rangeL_zero]
  refine forGo_inv (fun i st => ∃ s5, st = [.sh (.tuple [dN n, .list (E.map dP)]), .sh (dN n), .sh (.list (E.map dP)), .sh (dN (cnt (labOf n E) n)), .own1 (((List.range i).filter fun k => decide (¬ ∀ v, v < n → labOf n (E.eraseIdx k) v = labOf n E v)).map dN), s5])
    ⟨.undef, rfl⟩ ?_ ?_
  · intro i h st hI₀ K hK _ _
    obtain ⟨s5, rfl⟩ := hI₀
    rw [tab_len] at h
    have hV := erase_inV hE i
    have hLe := labOf_is hV
    unfold forB
    rw [tab_get]
    simp only [dN, x5, yX, yS, zI, x4, y9, zY, yi, yc, yG, yh, yg, zE, List.set_cons_succ, List.set_cons_zero, List.getElem?_cons_succ, List.getElem?_cons_zero, z0, z4]
    refine h1 n E (E.eraseIdx i) i _ _ hn hE hl (erase_mem i) hLe ?_
    simp only [dN, zf, zr]
    have hle := hLe.cnt_le hL fun u v c => c.mono fun e he => List.mem_of_mem_eraseIdx he
    have hiff := lab_eq_iff_cnt hLe hL fun e he => List.mem_of_mem_eraseIdx he
    rw [filter_take_succ] at hK
    have hlf := List.length_filter_le (fun k => decide (¬ ∀ v, v < n → labOf n (E.eraseIdx k) v = labOf n E v)) (List.range i)
    rw [List.length_range] at hlf
    by_cases c : ∀ v, v < n → labOf n (E.eraseIdx i) v = labOf n E v
    · (first | refine Mine.ite_no (by have := hiff.mp c; simp; omega) ?_ | rw [if_neg (by have := hiff.mp c; simp; omega)])
      rw [if_neg (by simpa using c), List.append_nil] at hK
      exact hK _ ⟨_, rfl⟩
    · (first | refine Mine.ite_yes (by
        have : cnt (labOf n (E.eraseIdx i)) n ≠ cnt (labOf n E) n := fun q => c (hiff.mpr q)
        simp; omega) ?_ | rw [if_pos (by
        have : cnt (labOf n (E.eraseIdx i)) n ≠ cnt (labOf n E) n := fun q => c (hiff.mpr q)
        simp; omega)])
      rw [if_pos (by simpa using c)] at hK
      rw [List.length_map]
      refine ⟨by omega, ?_⟩
      rw [map_snoc]
      exact hK _ ⟨_, rfl⟩
  · rintro st ⟨s5, rfl⟩
    rw [tab_len]
    (try simp only [zI, x5, yQ, List.getElem?_cons_succ, List.getElem?_cons_zero, List.set_cons_succ, List.set_cons_zero, x0, zK, zO, y9, z0, z8])
    rfl

theorem rootsTo_succ (L : Nat → Nat) (k : Nat) : rootsTo L (k + 1) = rootsTo L k ++ if L k = k then [k] else [] := by
  unfold rootsTo
  rw [filter_take_succ]
  by_cases h : L k = k <;> simp [h]
theorem rootsTo_get {L : Nat → Nat} {n c : Nat} (h : c < (rootsTo L n).length) : (rootsTo L n)[c] < n ∧ L (rootsTo L n)[c] = (rootsTo L n)[c] ∧ cnt L (rootsTo L n)[c] = c := by
  induction n with
  | zero => simp [rootsTo] at h
  | succ n ih =>
    by_cases hr : L n = n
    · have e : rootsTo L (n + 1) = rootsTo L n ++ [n] := by rw [rootsTo_succ, if_pos hr]
      by_cases hc : c < (rootsTo L n).length
      · have := ih hc
        simp only [e, List.getElem_append_left hc]
        exact ⟨by omega, this.2⟩
      · have hlen : c = (rootsTo L n).length := by rw [e] at h; simp at h; omega
        subst hlen
        simp only [e, List.getElem_concat_length]
        exact ⟨by omega, hr, rfl⟩
    · have e : rootsTo L (n + 1) = rootsTo L n := by rw [rootsTo_succ, if_neg hr, List.append_nil]
      have h' : c < (rootsTo L n).length := by rw [← e]; exact h
      have := ih h'
      simp only [e]
      exact ⟨by omega, this.2⟩
theorem cnt_inj {L : Nat → Nat} {a b : Nat} (ha : L a = a) (hb : L b = b) (e : cnt L a = cnt L b) : a = b := by
  rcases Nat.lt_trichotomy a b with h | h | h
  · have := cnt_lt h ha; omega
  · exact h
  · have := cnt_lt h hb; omega

/-- the parts, as lists of nodes -/
noncomputable def partsOf (L : Nat → Nat) (n : Nat) : List (List Nat) := (rootsTo L n).map fun s => (List.range n).filter fun v => decide (L v = s)
theorem parts_eq {n : Nat} {E : List Edge} {L : Nat → Nat} (hL : IsLab n E L) : (tab (cnt L n) fun c => (List.range n).filter fun v => decide (rank L v = c)) = partsOf L n := by
  apply List.ext_getElem
  · simp [tab, partsOf, cnt]
  · intro c h1 h2
    have hc : c < (rootsTo L n).length := by simpa [partsOf] using h2
    obtain ⟨hs, hr, hcn⟩ := rootsTo_get hc
    rw [tab_get]
    simp only [partsOf, List.getElem_map]
    apply List.filter_congr
    intro v hv
    have hv' := List.mem_range.mp hv
    rw [Bool.eq_iff_iff]
    simp only [decide_eq_true_eq]
    constructor
    · intro q
      exact cnt_inj (hL.idem hv') hr (by rw [hcn]; exact q)
    · intro q
      unfold rank
      rw [q]; exact hcn

theorem components_ok (Φ : Funs) (Λ : Lends) (h1 : SpecCompIds Φ) (n : Nat) (E : List Edge) (hn : n ≤ 1000) (hE : InV n E) (hl : E.length ≤ 1000) :
    wpSs Φ Λ b_components [.sh (dG n E), .undef, .undef, .undef, .undef, .undef, .undef] (RetP fun d => d = .list ((partsOf (labOf n E) n).map dNs)) := by
  have hL := labOf_is hE
  unfold b_components dG
  (try simp only [x5, yN, List.set_cons_succ, List.set_cons_zero, zI, yP, yZ, yK, y9, List.getElem?_cons_succ, List.getElem?_cons_zero, z0, yi, yc, yG, yh, yg, zf, ze])
  refine h1 n E E (-1) _ _ hn hE hl mem_iff_skip hL ?_
  have hcn : cnt (labOf n E) n ≤ n := by unfold cnt rootsTo; exact Nat.le_trans (List.length_filter_le _ _) (by simp)
  simp only [dN, zA, zf, z7, ze]
  rw [Int.toNat_natCast, adjD_nil]
  refine ⟨by omega, by omega, by omega, by omega, ?_⟩
  rw [rangeL_zero]
  refine forGo_inv (fun i st => ∃ s6, st = [.sh (.tuple [.int n, dPs E]), .sh (.int n), .sh (.tuple [.list (tab n fun v => .int (rank (labOf n E) v : Nat)), .int (cnt (labOf n E) n : Nat)]), .sh (.list (tab n fun v => .int (rank (labOf n E) v : Nat))), .sh (.int (cnt (labOf n E) n : Nat)),
      .own2 (adjD (cnt (labOf n E) n) fun c => (List.range i).filter fun v => decide (rank (labOf n E) v = c)), s6]) ⟨.undef, rfl⟩ ?_ ?_
  · intro i h st hI₀ K hK _ _
    obtain ⟨s6, rfl⟩ := hI₀
    rw [tab_len] at h
    unfold forB
    rw [tab_get]
    simp only [dN, x5, yT, zI, x4, y9, yi, zE, List.set_cons_succ, List.set_cons_zero, List.getElem?_cons_succ, List.getElem?_cons_zero, z0, zd, z5]
    simp only [Int.toNat_natCast, tab_get, adjD_get, List.length_map, adjD_app, adjD_len, z7, tab_len]
    have hrk : rank (labOf n E) i < cnt (labOf n E) n := cnt_lt (hL.lt h) (hL.idem h)
    have hlf := List.length_filter_le (fun v => decide (rank (labOf n E) v = rank (labOf n E) i)) (List.range i)
    rw [List.length_range] at hlf
    refine ⟨by omega, h, by omega, hrk, by omega, ?_⟩
    have e : (upd (fun c => (List.range i).filter fun v => decide (rank (labOf n E) v = c)) (rank (labOf n E) i) ((List.range i).filter (fun v => decide (rank (labOf n E) v = rank (labOf n E) i)) ++ [i])) = fun c => (List.range (i + 1)).filter fun v => decide (rank (labOf n E) v = c) := by
      funext c
      rw [filter_take_succ]
      unfold upd
      by_cases q : c = rank (labOf n E) i
      · subst q; simp
      · rw [if_neg q, if_neg (by simpa using fun z => q z.symm), List.append_nil]
    rw [e]
    exact hK _ ⟨_, rfl⟩
  · rintro st ⟨s6, rfl⟩
    rw [tab_len]
    (try simp only [zI, x5, yQ, List.getElem?_cons_succ, List.getElem?_cons_zero, List.set_cons_succ, List.set_cons_zero, x0, zK, zO, y9, z0, z9])
    congr 1
    rw [← parts_eq hL]
    unfold adjD dNs
    rw [tab_map, tab_map]

noncomputable def SpecComponents (Φ : Funs) : Prop := ∀ (n : Nat) (E : List Edge) (Q : D → Prop), n ≤ 1000 → InV n E → E.length ≤ 1000 → Q (.list ((partsOf (labOf n E) n).map dNs)) → Φ 11 [dG n E] Q
noncomputable def SpecBridges (Φ : Funs) : Prop := ∀ (n : Nat) (E : List Edge) (Q : D → Prop), n ≤ 1000 → InV n E → E.length ≤ 1000 → Q (dNs (brid n E)) → Φ 5 [dG n E] Q

theorem eqv_parts (a b : List (List Nat)) : PyData.eqv (.list (a.map dNs)) (.list (b.map dNs)) = decide (a = b) := by
  rw [Bool.eq_iff_iff, decide_eq_true_eq]
  simp only [eqv_ii, eqv_ll, eqv_tt, eqv_bb, eqv_ss, eqvA_nil, eqvA_cons, eqvA_nc, eqvA_cn]
  exact eqvAll_map eqv_dNs a b
theorem ok_parts (l : List (List Nat)) : okD (.list (l.map dNs)) = true := by
  have h1 := canLay_map (e := dNs) (fun l => by have := ok_dNs l; simp only [okD, Bool.and_eq_true] at this; exact this.1) l
  have h2 := depth_map (e := dNs) (k := 8) depth_dNs l
  unfold okD
  rw [Bool.and_eq_true, decide_eq_true_eq]
  refine ⟨by simp only [PyData.canLay0]; exact h1, ?_⟩
  show PyData.depthAll (l.map dNs) + 1 ≤ 64
  omega

theorem toI_len (l : List Nat) : (toI l).length = l.length := by simp [toI]
theorem flat_len {n : Nat} {L : Nat → Nat} : ((partsOf L n).flatMap id).length ≤ n * n := by
  unfold partsOf
  have : ∀ l : List Nat, ((l.map fun s => (List.range n).filter fun v => decide (L v = s)).flatMap id).length ≤ l.length * n := by
    intro l
    induction l with
    | nil => simp
    | cons a l ih =>
      simp only [List.map_cons, List.flatMap_cons, List.length_append, List.length_cons, id]
      have := List.length_filter_le (fun v => decide (L v = a)) (List.range n)
      rw [List.length_range] at this
      rw [Nat.succ_mul]
      omega
  refine Nat.le_trans (this _) (Nat.mul_le_mul_right _ ?_)
  unfold rootsTo
  exact Nat.le_trans (List.length_filter_le _ _) (by simp)

open Classical in
theorem law_groups_ok (Φ : Funs) (Λ : Lends) (h11 : SpecComponents Φ) (h5 : SpecBridges Φ) (h16 : SpecLabels Φ) (h15 : SpecInts Φ) (n : Nat) (E : List Edge) (hn : n ≤ 20) (hE : InV n E) (hl : E.length < 64) :
    wpSs Φ Λ b_law_groups [.sh (dN n), .sh (dPs E), .sh (dNs (tab n (labOf n E))), .undef, .undef, .undef, .undef, .undef, .undef, .undef, .undef] (RetP fun d => d = .bool true) := by
  have hL := labOf_is hE
  have hbl : (brid n E).length ≤ E.length := by unfold brid; exact Nat.le_trans (List.length_filter_le _ _) (by simp)
  unfold b_law_groups
  (try simp only [x5, yN, List.set_cons_succ, List.set_cons_zero, zI, yX, x0, zK, zO, yb, x4, yO, yZ, yK, yu, y9, List.getElem?_cons_succ, List.getElem?_cons_zero, z0, yf, z6, yg, zY, yH, yG, yh, ye])
  refine h11 n E _ (by omega) hE (by omega) ?_
  simp only [dN, zA]
  refine ⟨by omega, by omega, by omega, ?_⟩
  rw [rangeL_zero]
  unfold tab
  refine compGo_encF dN (fun s => labOf n E s == s) (fun s => dNs ((List.range n).filter fun v => decide (labOf n E v = s))) (fun s hs K hK => ?_) ?_
  · have hs' := List.mem_range.mp hs
    unfold compB
    simp only [dNs, dN, yH, yK, y9, zY, yi, zE, List.set_cons_succ, List.set_cons_zero, List.getElem?_cons_succ, List.getElem?_cons_zero, z0, zA, zd]
    simp only [Int.toNat_natCast, List.getElem_map, dN, List.getElem_range, zm, List.length_map, List.length_range]
    refine ⟨by omega, hs', ?_⟩
    by_cases c : labOf n E s = s
    · (first | refine Mine.ite_yes (by simp [c]) ?_ | rw [if_pos (by simp [c])])
      rw [if_pos (by simp [c])] at hK
      refine ⟨by omega, by omega, by omega, ?_⟩
      rw [rangeL_zero]
      unfold tab
      refine compGo_encF dN (fun v => decide (labOf n E v = s)) dN (fun v hv K' hK' => ?_) hK
      have hv' := List.mem_range.mp hv
      unfold compB
      simp only [dN, y9, zY, yi, zE, List.set_cons_succ, List.set_cons_zero, List.getElem?_cons_succ, List.getElem?_cons_zero, z0, zd]
      simp only [Int.toNat_natCast, List.getElem_map, dN, List.getElem_range, zm, List.length_map, List.length_range]
      refine ⟨by omega, hv', ?_⟩
      by_cases c2 : labOf n E v = s
      · rw [if_pos (by simpa using c2)] at hK'
        (first | refine Mine.ite_yes (by simp; omega) ?_ | rw [if_pos (by simp; omega)])
        exact hK'
      · rw [if_neg (by simpa using c2)] at hK'
        (first | refine Mine.ite_no (by simp; omega) ?_ | rw [if_neg (by simp; omega)])
        exact hK'
    · (first | refine Mine.ite_no (by simp; omega) ?_ | rw [if_neg (by simp; omega)])
      rw [if_neg (by simpa using c)] at hK
      exact hK
  · have e0 : ((List.range n).filter fun s => labOf n E s == s).map (fun s => dNs ((List.range n).filter fun v => decide (labOf n E v = s))) = (partsOf (labOf n E) n).map dNs := by
      unfold partsOf rootsTo
      rw [List.map_map]; rfl
    rw [e0, r_ne, ok_parts, eqv_parts]
    refine ⟨rfl, rfl, ?_⟩
    (first | refine Mine.ite_no (by simp) ?_ | rw [if_neg (by simp)])
    simp only [dPs, zv, zA]
    rw [List.length_map]
    refine ⟨by omega, by omega, by omega, ?_⟩
    rw [rangeL_zero]
    refine forGo_inv (fun i st => ∃ s5, st = [.sh (.int n), .sh (.list (E.map dP)), .sh (dNs ((List.range n).map (labOf n E))), .sh (.list ((partsOf (labOf n E) n).map dNs)), .own1 (((List.range i).filter fun k => decide (¬ ∀ v, v < n → labOf n (E.eraseIdx k) v = labOf n E v)).map dN), s5, .undef, .undef, .undef, .undef, .undef])
      ⟨.undef, rfl⟩ ?_ ?_
    · intro i h st hI₀ K hK _ _
      obtain ⟨s5, rfl⟩ := hI₀
      rw [tab_len] at h
      have hV := erase_inV hE i
      have hLe := labOf_is hV
      unfold forB
      rw [tab_get]
      simp only [dN, x5, yX, yS, zI, x4, y9, zY, yG, yh, yg, yo, yl, yc, yk, zE, List.set_cons_succ, List.set_cons_zero, List.getElem?_cons_zero, List.getElem?_cons_succ, z0, z4, zg, zS, zR, zh]
      have e1 : ((i : Int) + 1).toNat = i + 1 := by omega
      simp only [Int.toNat_natCast, e1, List.length_map, List.length_take, List.length_drop]
      refine ⟨by omega, by omega, by omega, by omega, by omega, by omega, by omega, ?_⟩
      have e2 : (E.map dP).take i ++ (E.map dP).drop (i + 1) = (E.eraseIdx i).map dP := by
        rw [List.eraseIdx_eq_take_drop_succ]; simp
      rw [e2]
      refine h16 n _ _ _ (by omega) hV (by rw [List.length_eraseIdx]; split <;> omega) hLe ?_
      have e3 : dNs ((List.range n).map (labOf n E)) = dNs (tab n (labOf n E)) := rfl
      rw [e3, r_ne, ok_dNs, ok_dNs]
      refine ⟨rfl, rfl, ?_⟩
      rw [filter_take_succ] at hK
      have hlf := List.length_filter_le (fun k => decide (¬ ∀ v, v < n → labOf n (E.eraseIdx k) v = labOf n E v)) (List.range i)
      rw [List.length_range] at hlf
      have heq : PyData.eqv (dNs (tab n (labOf n (E.eraseIdx i)))) (dNs (tab n (labOf n E))) = true ↔ ∀ v, v < n → labOf n (E.eraseIdx i) v = labOf n E v := by rw [eqv_dNs, tab_inj]
      by_cases c : ∀ v, v < n → labOf n (E.eraseIdx i) v = labOf n E v
      · (first | refine Mine.ite_no (by rw [heq.mpr c]; simp) ?_ | rw [if_neg (by rw [heq.mpr c]; simp)])
        rw [if_neg (by simpa using c), List.append_nil] at hK
        exact hK _ ⟨_, rfl⟩
      · (first | refine Mine.ite_yes (by
          have : PyData.eqv (dNs (tab n (labOf n (E.eraseIdx i)))) (dNs (tab n (labOf n E))) = false := by rw [← Bool.not_eq_true]; exact fun q => c (heq.mp q)
          rw [this]; rfl) ?_ | rw [if_pos (by
          have : PyData.eqv (dNs (tab n (labOf n (E.eraseIdx i)))) (dNs (tab n (labOf n E))) = false := by rw [← Bool.not_eq_true]; exact fun q => c (heq.mp q)
          rw [this]; rfl)])
        rw [if_pos (by simpa using c)] at hK
        refine ⟨by omega, ?_⟩
        rw [map_snoc]
        exact hK _ ⟨_, rfl⟩
    · rintro st ⟨s5, rfl⟩
      rw [tab_len]
      (try simp only [zI, x5, yQ, List.getElem?_cons_succ, List.getElem?_cons_zero, List.set_cons_succ, List.set_cons_zero, yN, yX, x0, zK, zO, yb, x4, yG, yh, yg, yo, y9, z0, yI, yL, zB, zY, ye, z8])
      refine h5 n E _ (by omega) hE (by omega) ?_
      unfold brid dNs
      rw [r_ne, ok_dNs', eqv_dNs']
      refine ⟨rfl, rfl, ?_⟩
      (first | refine Mine.ite_no (by simp) ?_ | rw [if_neg (by simp)])
      (try simp only [zh])
      have hpl : (partsOf (labOf n E) n).length ≤ n := by
        unfold partsOf rootsTo
        rw [List.length_map]
        exact Nat.le_trans (List.length_filter_le _ _) (by simp)
      rw [List.length_map]
      refine ⟨by omega, by omega, ?_⟩
      refine compGo2_enc dNs (fun g => g.map dN) (fun g hg K hK => ?_) ?_
      · have hgl : g.length ≤ n := by
          unfold partsOf at hg
          obtain ⟨s, _, rfl⟩ := List.mem_map.mp hg
          exact Nat.le_trans (List.length_filter_le _ _) (by simp)
        unfold compB2
        simp only [dNs, List.set_cons_succ, List.set_cons_zero, y9, List.getElem?_cons_succ, List.getElem?_cons_zero, z0, yL, zB]
        rw [List.length_map]
        refine ⟨by omega, by omega, ?_⟩
        refine compGo_enc dN dN (fun v _ K' hK' => ?_) hK
        skip
        exact hK'
      · skip
        have e : (partsOf (labOf n E) n).flatMap (fun g => g.map dN) = ((partsOf (labOf n E) n).flatMap id).map dN := by
          rw [List.map_flatMap]; rfl
        rw [e, dNs_toI, dNs_toI, ← List.map_append]
        have hfl := flat_len (n := n) (L := labOf n E)
        have hnn : n * n ≤ 400 := Nat.mul_le_mul hn hn
        unfold brid at hbl
        refine ⟨by simp only [List.length_map, toI_len]; omega, ?_⟩
        exact h15 _ _ (by simp only [List.length_append, toI_len]; omega) rfl
end
section
noncomputable def Joins (E : List Edge) (k a b : Nat) : Prop := E[k]? = some (a, b) ∨ E[k]? = some (b, a)
theorem Joins.symm {E : List Edge} {k a b : Nat} (h : Joins E k a b) : Joins E k b a := Or.symm h
theorem Joins.lt {E : List Edge} {k a b : Nat} (h : Joins E k a b) : k < E.length := by
  rcases h with h | h <;> exact (List.getElem?_eq_some_iff.mp h).1
theorem Joins.adj {E : List Edge} {k a b : Nat} (h : Joins E k a b) : Adj E a b := by
  rcases h with h | h
  · exact .inl (List.mem_of_getElem? h)
  · exact .inr (List.mem_of_getElem? h)
theorem Adj.joins {E : List Edge} {a b : Nat} (h : Adj E a b) : ∃ k, Joins E k a b := by
  rcases h with h | h
  · obtain ⟨k, hk⟩ := List.mem_iff_getElem?.mp h; exact ⟨k, .inl hk⟩
  · obtain ⟨k, hk⟩ := List.mem_iff_getElem?.mp h; exact ⟨k, .inr hk⟩

inductive Walk (E : List Edge) : Nat → List Nat → Nat → Prop where
  | nil (a : Nat) : Walk E a [] a
  | cons {k a b c : Nat} {ks : List Nat} : Joins E k a b → Walk E b ks c → Walk E a (k :: ks) c
theorem Walk.snoc {E : List Edge} {k a b c : Nat} {ks : List Nat} (h : Walk E a ks b) (j : Joins E k b c) : Walk E a (ks ++ [k]) c := by
  induction h with
  | nil => exact .cons j (.nil _)
  | cons j' _ ih => exact .cons j' (ih j)
theorem Walk.trans {E : List Edge} {a b c : Nat} {ks js : List Nat} (h : Walk E a ks b) (h' : Walk E b js c) : Walk E a (ks ++ js) c := by
  induction h with
  | nil => exact h'
  | cons j' _ ih => exact .cons j' (ih h')
theorem Walk.reverse {E : List Edge} {a b : Nat} {ks : List Nat} (h : Walk E a ks b) : Walk E b ks.reverse a := by
  induction h with
  | nil => exact .nil _
  | cons j _ ih => rw [List.reverse_cons]; exact ih.snoc j.symm

/-- the stack above its foot: node and the road by which it was reached -/
inductive Tr (E : List Edge) (s : Nat) : List (Nat × Nat) → Nat → Prop where
  | nil : Tr E s [] s
  | snoc {t : List (Nat × Nat)} {k u v : Nat} : Tr E s t u → Joins E k u v → Tr E s (t ++ [(v, k)]) v

noncomputable def inc (E : List Edge) (v k : Nat) : Nat := (if (edgeAt E k).1 = v then 1 else 0) + (if (edgeAt E k).2 = v then 1 else 0)
theorem joins_edge {E : List Edge} {k a b : Nat} (h : Joins E k a b) : edgeAt E k = (a, b) ∨ edgeAt E k = (b, a) := by
  rcases h with h | h
  · left; simp [edgeAt, h]
  · right; simp [edgeAt, h]
theorem joins_inc {E : List Edge} {k a b : Nat} (h : Joins E k a b) (x : Nat) : inc E x k = (if a = x then 1 else 0) + (if b = x then 1 else 0) := by
  unfold inc
  rcases joins_edge h with e | e <;> rw [e] <;> dsimp only <;> omega

noncomputable def usum (m : Nat) (p : Nat → Bool) (f : Nat → Nat) : Nat := ((List.range m).map fun k => if p k = true then 0 else f k).sum
theorem nsum_snoc (l : List Nat) (x : Nat) : (l ++ [x]).sum = l.sum + x := by
  induction l with
  | nil => simp
  | cons a l ih => simp only [List.cons_append, List.sum_cons, ih]; omega
theorem usum_succ (m : Nat) (p : Nat → Bool) (f : Nat → Nat) : usum (m + 1) p f = usum m p f + if p m = true then 0 else f m := by
  unfold usum
  rw [List.range_succ, List.map_append, List.map_cons, List.map_nil, nsum_snoc]
theorem usum_congr {m : Nat} {p q : Nat → Bool} {f : Nat → Nat} (h : ∀ k, k < m → p k = q k) : usum m p f = usum m q f := by
  unfold usum
  congr 1
  apply List.map_congr_left
  intro k hk
  rw [h k (List.mem_range.mp hk)]
theorem usum_upd {m k : Nat} {p : Nat → Bool} {f : Nat → Nat} (hk : k < m) (hp : p k = false) : usum m (upd p k true) f + f k = usum m p f := by
  induction m with
  | zero => omega
  | succ m ih =>
    rw [usum_succ, usum_succ]
    by_cases e : k = m
    · subst e
      rw [upd_same, hp, usum_congr (q := p) fun j hj => upd_ne (by omega)]
      simp
    · have := ih (by omega)
      rw [upd_ne (f := p) (fun q => e q.symm)]
      omega
theorem usum_zero {m : Nat} {p : Nat → Bool} {f : Nat → Nat} (h : ∀ k, k < m → p k = true ∨ f k = 0) : usum m p f = 0 := by
  induction m with
  | zero => rfl
  | succ m ih =>
    rw [usum_succ, ih fun k hk => h k (by omega)]
    rcases h m (by omega) with q | q <;> simp [q]

/-- the state of the trip's making, while the stack is not empty -/
structure Hz (E : List Edge) (s : Nat) (used : Nat → Bool) (t : List (Nat × Nat)) (O : List Nat) (c top : Nat) : Prop where
  tr : Tr E s t top
  wk : Walk E s O c
  us : ∀ k, used k = true ↔ k ∈ O ∨ k ∈ t.map (·.2)
  nd : (O ++ t.map (·.2)).Nodup
  par : ∀ x, (usum E.length used (inc E x) + (if x = c then 1 else 0) + (if x = top then 1 else 0)) % 2 = 0
  vis : ∀ k a b, used k = true → Joins E k a b → a ∈ s :: t.map (·.1) ∨ ∀ j b', Joins E j a b' → used j = true
  vs : s ∈ s :: t.map (·.1)

/-- .. when it is done -/
structure HzDone (E : List Edge) (s : Nat) (O : List Nat) : Prop where
  wk : Walk E s O s
  nd : O.Nodup
  vis : ∀ k a b, k ∈ O → Joins E k a b → ∀ j b', Joins E j a b' → j ∈ O
  vs : ∀ j b, Joins E j s b → j ∈ O

section
variable {E : List Edge} {s top c : Nat} {used : Nat → Bool} {t : List (Nat × Nat)} {O : List Nat}
theorem Hz.start (hd : ∀ x, (usum E.length (fun _ => false) (inc E x)) % 2 = 0) : Hz E s (fun _ => false) [] [] s s where
  tr := .nil
  wk := .nil _
  us := fun k => by simp
  nd := by simp
  par := fun x => by have := hd x; split <;> omega
  vis := fun k a b h => by cases h
  vs := by simp
theorem Walk.lt {a b : Nat} {ks : List Nat} (h : Walk E a ks b) : ∀ k ∈ ks, k < E.length := by
  induction h with
  | nil => intro k hk; cases hk
  | cons j _ ih =>
    intro k hk
    rcases List.mem_cons.mp hk with q | q
    · rw [q]; exact j.lt
    · exact ih k q
theorem Hz.push (h : Hz E s used t O c top) {k w : Nat} (j : Joins E k top w) (hu : used k = false) : Hz E s (upd used k true) (t ++ [(w, k)]) O c w where
  tr := .snoc h.tr j
  wk := h.wk
  us := fun i => by
    unfold upd
    rw [List.map_append, List.mem_append]
    split
    · rename_i e; subst e; simp
    · rename_i e; rw [h.us]; simp [e]
  nd := by
    rw [List.map_append, ← List.append_assoc]
    rw [List.nodup_append]
    refine ⟨h.nd, by simp, fun a ha b hb => ?_⟩
    simp at hb
    subst hb
    intro e
    subst e
    have := (h.us a).mpr (List.mem_append.mp ha)
    rw [hu] at this; cases this
  par := fun x => by
    have h1 := h.par x
    have h2 := usum_upd (m := E.length) (f := inc E x) j.lt hu
    have h3 := joins_inc j x
    have e1 : (if top = x then 1 else 0 : Nat) = if x = top then 1 else 0 := by simp only [eq_comm]
    have e2 : (if w = x then 1 else 0 : Nat) = if x = w then 1 else 0 := by simp only [eq_comm]
    rw [e1, e2] at h3
    omega
  vis := fun i a b hi ji => by
    have top_in : top ∈ s :: t.map (·.1) := by
      cases h.tr with
      | nil => simp
      | snoc => simp
    unfold upd at hi
    split at hi
    · rename_i e
      subst e
      have : a = top ∨ a = w := by
        rcases joins_edge ji with e1 | e1 <;> rcases joins_edge j with e2 | e2 <;> rw [e1] at e2 <;> cases e2 <;> simp
      rcases this with q | q
      · rw [q]; exact .inl (by simp at top_in ⊢; rcases top_in with z | z; exact .inl z; exact .inr (.inl z))
      · rw [q]; exact .inl (by simp)
    · rcases h.vis i a b hi ji with q | q
      · exact .inl (by simp at q ⊢; rcases q with z | z; exact .inl z; exact .inr (.inl z))
      · exact .inr fun i' b' q' => by unfold upd; split; rfl; exact q i' b' q'
  vs := by simp
theorem Hz.anchor (h : Hz E s used t O c top) (hall : ∀ k b, Joins E k top b → used k = true) : c = top := by
  have h1 := h.par top
  have h2 : usum E.length used (inc E top) = 0 := usum_zero fun k hk => by
    by_cases e : inc E top k = 0
    · exact .inr e
    · left
      have hE : E[k]? = some (edgeAt E k) := by rw [edgeAt]; simp [hk]
      unfold inc at e
      by_cases e1 : (edgeAt E k).1 = top
      · exact hall k (edgeAt E k).2 (.inl (by rw [hE, ← e1]))
      · by_cases e2 : (edgeAt E k).2 = top
        · exact hall k (edgeAt E k).1 (.inr (by rw [hE, ← e2]))
        · simp [e1, e2] at e
  rw [h2] at h1
  simp at h1
  by_cases e : top = c
  · exact e.symm
  · rw [if_neg e] at h1; simp at h1
theorem Hz.popS {k u : Nat} (h : Hz E s used (t ++ [(top, k)]) O c top) (ht : Tr E s t u) (j : Joins E k u top) (hall : ∀ k b, Joins E k top b → used k = true) : Hz E s used t (O ++ [k]) u u where
  tr := ht
  wk := by have := h.anchor hall; subst this; exact h.wk.snoc j.symm
  us := fun i => by
    rw [h.us, List.map_append, List.mem_append, List.mem_append]
    simp
    constructor
    · rintro (q | q | q)
      · exact .inl (.inl q)
      · exact .inr q
      · exact .inl (.inr q)
    · rintro ((q | q) | q)
      · exact .inl q
      · exact .inr (.inr q)
      · exact .inr (.inl q)
  nd := by
    have := h.nd
    rw [List.map_append] at this
    simp only [List.map_cons, List.map_nil] at this
    refine (List.Perm.nodup_iff ?_).mp this
    rw [List.append_assoc]
    exact List.Perm.append_left _ List.perm_append_comm
  par := fun x => by
    have h1 := h.par x
    have := h.anchor hall
    subst this
    split <;> split at h1 <;> omega
  vis := fun i a b hi ji => by
    rcases h.vis i a b hi ji with q | q
    · simp at q
      rcases q with q | q | q
      · exact .inl (by simp [q])
      · exact .inl (by simp; exact .inr q)
      · exact .inr fun j' b' q' => hall j' b' (q ▸ q')
    · exact .inr q
  vs := by simp
theorem Hz.popE (h : Hz E s used [] O c s) (hall : ∀ k b, Joins E k s b → used k = true) : HzDone E s O where
  wk := by have := h.anchor hall; subst this; exact h.wk
  nd := by have := h.nd; simpa using this
  vis := fun k a b hk ji j b' jj => by
    have e : ∀ i, used i = true ↔ i ∈ O := fun i => by rw [h.us]; simp
    rcases h.vis k a b ((e k).mpr hk) ji with q | q
    · simp at q
      subst q
      exact (e j).mp (hall j b' jj)
    · exact (e j).mp (q j b' jj)
  vs := fun j b jj => by
    have := (h.us j).mp (hall j b jj)
    simpa using this
theorem HzDone.conn (h : HzDone E s O) {v : Nat} (c : Conn E s v) : ∀ j b, Joins E j v b → j ∈ O := by
  induction c with
  | refl => exact h.vs
  | @step b c' _ a ih =>
    obtain ⟨k, hk⟩ := a.joins
    exact h.vis k c' b (ih k c' hk) hk.symm
theorem HzDone.perm (h : HzDone E s O) (hc : ∀ k (hk : k < E.length), Conn E s E[k].1) : O.Perm (List.range E.length) := by
  refine (List.perm_ext_iff_of_nodup h.nd List.nodup_range).mpr fun k => ?_
  constructor
  · intro q; exact List.mem_range.mpr (h.wk.lt k q)
  · intro q
    have hk := List.mem_range.mp q
    exact h.conn (hc k hk) k E[k].2 (.inl (by rw [List.getElem?_eq_getElem hk]))
end
end
section
open PySem

/-- the roads at each node, after i roads -/
noncomputable def TouchOk (E : List Edge) (i : Nat) (touch : Nat → List Nat) : Prop := ∀ v, (touch v).length ≤ i ∧ ∀ k, k ∈ touch v ↔ k < i ∧ ∃ b, Joins E k v b

theorem TouchOk.zero {E : List Edge} : TouchOk E 0 fun _ => [] := fun v => ⟨by simp, fun k => by simp⟩
theorem joins_at {E : List Edge} {k a b v : Nat} (h : E[k]? = some (a, b)) : (∃ w, Joins E k v w) ↔ v = a ∨ v = b := by
  unfold Joins
  rw [h]
  constructor
  · rintro ⟨w, q | q⟩ <;> (cases q; simp)
  · rintro (rfl | rfl)
    · exact ⟨b, .inl rfl⟩
    · exact ⟨a, .inr rfl⟩
theorem TouchOk.next {E : List Edge} {i a b : Nat} {touch : Nat → List Nat} (h : TouchOk E i touch) (he : E[i]? = some (a, b)) :
    TouchOk E (i + 1) (if b = a then upd touch a (touch a ++ [i]) else upd (upd touch a (touch a ++ [i])) b (upd touch a (touch a ++ [i]) b ++ [i])) := by
  intro v
  have key : ∀ k, (k < i + 1 ∧ ∃ w, Joins E k v w) ↔ k ∈ touch v ∨ (k = i ∧ (v = a ∨ v = b)) := by
    intro k
    rw [(h v).2]
    constructor
    · rintro ⟨h1, h2⟩
      rcases Nat.lt_succ_iff_lt_or_eq.mp h1 with q | q
      · exact .inl ⟨q, h2⟩
      · subst q; exact .inr ⟨rfl, (joins_at he).mp h2⟩
    · rintro (⟨h1, h2⟩ | ⟨rfl, h2⟩)
      · exact ⟨by omega, h2⟩
      · exact ⟨by omega, (joins_at he).mpr h2⟩
  have hv := (h v).1
  have ha := (h a).1
  have hb := (h b).1
  by_cases e : b = a
  · subst e
    (first | refine Mine.ite_yes rfl ?_ | rw [if_pos rfl])
    refine ⟨?_, fun k => ?_⟩
    · unfold upd; split
      · simp; omega
      · omega
    · rw [key]
      unfold upd
      by_cases e1 : v = b
      · subst e1; simp
      · simp [e1]
  · (first | refine Mine.ite_no e ?_ | rw [if_neg e])
    refine ⟨?_, fun k => ?_⟩
    · unfold upd
      by_cases e1 : v = b
      · subst e1; simp [e]; omega
      · by_cases e2 : v = a
        · subst e2; simp [e1]; omega
        · simp [e1, e2]; omega
    · rw [key]
      unfold upd
      by_cases e1 : v = b
      · subst e1; simp [e]
      · by_cases e2 : v = a
        · subst e2; simp [e1]
        · simp [e1, e2]

theorem touching_ok (Φ : Funs) (Λ : Lends) (n : Nat) (E : List Edge) (hn : n ≤ 1000) (hE : InV n E) (hl : E.length ≤ 1000) :
    wpSs Φ Λ b_touching [.sh (dN n), .sh (dPs E), .undef, .undef, .undef, .undef]
      (RetP fun d => ∃ touch, TouchOk E E.length touch ∧ d = .list ((adjD n touch).map .list)) := by
  unfold b_touching dPs dN
  (try simp only [x5, yP, List.set_cons_succ, List.set_cons_zero, zI, yZ, yK, yu, y9, List.getElem?_cons_succ, List.getElem?_cons_zero, z0, zv, zA, z7])
  rw [Int.toNat_natCast, adjD_nil, List.length_map]
  refine ⟨by omega, by omega, by omega, by omega, ?_⟩
  rw [rangeL_zero]
  refine forGo_F4 (fun i touch s3 s4 s5 => TouchOk E i touch) (fun i touch s3 s4 s5 => [.sh (.int n), .sh (.list (E.map dP)), .own2 (adjD n touch), s3, s4, s5]) rfl TouchOk.zero ?_ ?_
  · intro i h touch s3 s4 s5 ht K hK _ _
    rw [tab_len] at h
    have hab := hE _ (List.getElem_mem h)
    have hab2 : E[i]? = some E[i] := List.getElem?_eq_getElem h
    generalize hab' : E[i] = e at hab hab2
    obtain ⟨a, b⟩ := e
    have hnx := ht.next hab2
    unfold forB
    rw [tab_get]
    simp only [dN, x5, yN, zI, yT, yX, x4, y9, zY, yi, yc, zE, List.set_cons_succ, List.set_cons_zero, List.getElem?_cons_succ, List.getElem?_cons_zero, z0, z5, zd]
    simp only [Int.toNat_natCast, List.getElem_map, dP, hab', adjD_get, List.length_map, adjD_app, adjD_len, zf, z7, ze, zn]
    have h1 := (ht a).1
    have h2 := (ht b).1
    refine ⟨by omega, h, by omega, h, by omega, hab.1, by omega, ?_⟩
    by_cases c : b = a
    · (first | refine Mine.ite_no (by simp [c]) ?_ | rw [if_neg (by simp [c])])
      rw [if_pos c] at hnx
      exact hK _ _ _ _ hnx
    · (first | refine Mine.ite_yes (by simp; omega) ?_ | rw [if_pos (by simp; omega)])
      rw [if_neg c] at hnx
      refine ⟨by omega, hab.2, ?_, hK _ _ _ _ hnx⟩
      unfold upd; (first | refine Mine.ite_no c ?_ | rw [if_neg c]); omega
  · intro touch s3 s4 s5 ht
    rw [tab_len] at ht
    (try simp only [zI, x5, yQ, List.getElem?_cons_succ, List.getElem?_cons_zero, List.set_cons_succ, List.set_cons_zero, x0, zK, zO, y9, z0, z9])
    exact ⟨touch, ht, rfl⟩

noncomputable def SpecTouch (Φ : Funs) : Prop := ∀ (n : Nat) (E : List Edge) (Q : D → Prop), n ≤ 1000 → InV n E → E.length ≤ 1000 → (∀ touch, TouchOk E E.length touch → Q (.list ((adjD n touch).map .list))) → Φ 3 [dN n, dPs E] Q
noncomputable def SpecReach (Φ : Funs) : Prop := ∀ (n s : Nat) (E : List Edge) (Q : D → Prop), n ≤ 1000 → InV n E → E.length ≤ 1000 → s < n → (∀ S : Nat → Bool, (∀ v, S v = true ↔ Conn E s v) → Q (.list (tab n fun v => .bool (S v)))) → Φ 0 [dN n, dPs E, dN s, .bool false] Q

/-- how many ends lie at v -/
noncomputable def deg (E : List Edge) (v : Nat) : Nat := usum E.length (fun _ => false) (inc E v)
noncomputable def degTo (E : List Edge) (i v : Nat) : Nat := usum i (fun _ => false) (inc E v)
theorem degTo_succ {E : List Edge} {i a b : Nat} (he : edgeAt E i = (a, b)) (v : Nat) : degTo E (i + 1) v = upd (upd (degTo E i) a (degTo E i a + 1)) b (upd (degTo E i) a (degTo E i a + 1) b + 1) v := by
  unfold degTo
  rw [usum_succ]
  unfold inc
  rw [he]
  unfold upd
  dsimp only
  by_cases e1 : v = b
  · subst e1
    by_cases e2 : v = a
    · subst e2; simp
    · simp [e2, Ne.symm e2]
  · by_cases e2 : v = a
    · subst e2; simp [e1, Ne.symm e1]
    · simp [e1, e2, Ne.symm e1, Ne.symm e2]

noncomputable def sOdd : Str := Str.ofString "odd"
noncomputable def sTrip : Str := Str.ofString "trip"
noncomputable def sApart : Str := Str.ofString "apart"
noncomputable def sColors : Str := Str.ofString "colors"

/-- what round_trip tells -/
noncomputable def TripRes (n : Nat) (E : List Edge) (d : D) : Prop :=
  (∃ v, v < n ∧ deg E v % 2 = 1 ∧ d = .tuple [.str sOdd, dN v]) ∨
  ((∀ v, v < n → deg E v % 2 = 0) ∧ E = [] ∧ d = .tuple [.str sTrip, .tuple [.int 0, .list []]]) ∨
  ((∀ v, v < n → deg E v % 2 = 0) ∧ ∃ k, ∃ hk : k < E.length, ¬ Conn E (edgeAt E 0).1 (edgeAt E k).1 ∧ d = .tuple [.str sApart, .tuple [.int 0, dN k]]) ∨
  ((∀ v, v < n → deg E v % 2 = 0) ∧ (∀ k, k < E.length → Conn E (edgeAt E 0).1 (edgeAt E k).1) ∧ ∃ O, Walk E (edgeAt E 0).1 O (edgeAt E 0).1 ∧ O.Perm (List.range E.length) ∧ d = .tuple [.str sTrip, .tuple [dN (edgeAt E 0).1, dNs O]])

theorem updI {a : Nat} {p : Nat → Nat} : upd (fun v => PyData.int ((p v : Nat) : Int)) a (PyData.int ((p a : Int) + 1)) = fun v => PyData.int ((upd p a (p a + 1) v : Nat) : Int) := by
  funext v
  unfold upd
  by_cases e : v = a <;> simp [e]


noncomputable def stkD (p : Nat × Nat) : D := .tuple [.int p.1, .int p.2]
theorem stk_snoc {d : D} {t : List (Nat × Nat)} {w k : Nat} : d :: t.map stkD ++ [PyData.tuple [.int w, .int k]] = d :: (t ++ [(w, k)]).map stkD := by simp [stkD]

theorem Tr.ltN {E : List Edge} {n s top : Nat} {t : List (Nat × Nat)} (h : Tr E s t top) (hE : InV n E) (hs : s < n) : top < n := by
  cases h with
  | nil => exact hs
  | snoc _ j => exact (hE.adj j.adj).2
theorem Tr.top {E : List Edge} {s top : Nat} {t : List (Nat × Nat)} (h : Tr E s t top) : ∃ d', (PyData.tuple [PyData.int s, PyData.none] :: t.map stkD)[t.length]? = some (PyData.tuple [PyData.int top, d']) := by
  cases h with
  | nil => exact ⟨.none, rfl⟩
  | snoc _ j => exact ⟨_, by simp [stkD]; rfl⟩
theorem Hz.pop {E : List Edge} {s top c : Nat} {used : Nat → Bool} {t : List (Nat × Nat)} {O : List Nat} (h : Hz E s used t O c top) (hall : ∀ k b, Joins E k top b → used k = true) :
    (t = [] ∧ HzDone E s O) ∨ ∃ t' k u, t = t' ++ [(top, k)] ∧ Hz E s used t' (O ++ [k]) u u := by
  have htr := h.tr
  cases htr with
  | nil => exact .inl ⟨rfl, h.popE hall⟩
  | snoc htr' hj => exact .inr ⟨_, _, _, rfl, h.popS htr' hj hall⟩
theorem round_trip_ok (Φ : Funs) (Λ : Lends) (h0 : SpecReach Φ) (h3 : SpecTouch Φ) (n : Nat) (E : List Edge) (hn : n ≤ 1000) (hE : InV n E) (hl : E.length ≤ 1000) :
    wpSs Φ Λ b_round_trip [.sh (dG n E), .undef, .undef, .undef, .undef, .undef, .undef, .undef, .undef, .undef, .undef, .undef, .undef, .undef, .undef, .undef] (RetP (TripRes n E)) := by
  have hEi : ∀ k, k < E.length → E[k]? = some (edgeAt E k) ∧ (edgeAt E k).1 < n ∧ (edgeAt E k).2 < n := fun k hk => by
    have := hE _ (List.getElem_mem hk)
    rw [← edgeAt_eq hk] at this
    exact ⟨by rw [List.getElem?_eq_getElem hk, edgeAt_eq hk], this⟩
  unfold b_round_trip dG dPs dN
  (with_reducible refine t_cons ?_); (try simp only [yN, List.set_cons_succ, List.set_cons_zero, yi, yc, y9, List.getElem?_cons_zero, z0, ze])
  (with_reducible refine t_seq ?_); (try simp only [yN, List.set_cons_succ, List.set_cons_zero, yi, yc, y9, List.getElem?_cons_zero, z0, zf])
  (with_reducible refine t_seq ?_); (try simp only [yN, List.set_cons_succ, List.set_cons_zero, yu, y9, List.getElem?_cons_succ, List.getElem?_cons_zero, z0, zv])
  (with_reducible refine t_seq ?_); (try simp only [yO, List.set_cons_succ, List.set_cons_zero, yo, y9, List.getElem?_cons_succ, List.getElem?_cons_zero, z0, yf, yh, yg, yc])
  refine m_rep (by omega) ?_
  (try simp only [z6])
  (with_reducible refine t_seq ?_); (try simp only [yZ, yL, y9, List.getElem?_cons_succ, List.getElem?_cons_zero, z0, zB])
  rw [List.length_map]
  refine ⟨by omega, ?_⟩
  refine forGo_F1 (fun i s5 => True) (fun i s5 => [.sh (.tuple [.int n, .list (E.map dP)]), .sh (.int n), .sh (.list (E.map dP)), .sh (.int E.length), .own1 (tab n fun v => .int (degTo E i v : Nat)), s5, .undef, .undef, .undef, .undef, .undef, .undef, .undef, .undef, .undef, .undef])
    rfl trivial ?_ ?_
  · intro i h s5 _ K hK _ _
    rw [List.length_map] at h
    obtain ⟨h1, h2, h3⟩ := hEi i h
    generalize ha : (edgeAt E i).1 = a at h2
    generalize hb : (edgeAt E i).2 = b at h3
    refine t_forD h1 ?_
    rw [ha, hb]
    (try simp only [List.set_cons_succ, List.set_cons_zero])
    (with_reducible refine t_cons ?_); (try simp only [yU, List.getElem?_cons_succ, List.getElem?_cons_zero, List.set_cons_succ, List.set_cons_zero, yi, yc, y9, z0, ze, z7, z2, yo, yj])
    refine a_tab h2 ?_
    (try simp only [zg])
    refine s_tab h2 ?_
    rw [updI]
    skip
    (with_reducible refine t_seq ?_); (try simp only [yU, List.getElem?_cons_succ, List.getElem?_cons_zero, List.set_cons_succ, List.set_cons_zero, r_seq0, yi, yc, y9, z0, zf, z7, z2, yo, yj])
    refine a_tab h3 ?_
    (try simp only [zg])
    refine s_tab h3 ?_
    rw [updI]
    have e2 : (tab n fun v => PyData.int (upd (upd (degTo E i) a (degTo E i a + 1)) b (upd (degTo E i) a (degTo E i a + 1) b + 1) v : Nat)) = tab n fun v => PyData.int (degTo E (i + 1) v : Nat) := by
      apply tab_congr
      intro v _
      rw [degTo_succ (Prod.ext ha hb)]
    rw [e2]
    skip
    exact hK _ trivial
  intro s5 _
  rw [List.length_map]
  (with_reducible refine t_seq ?_); (try simp only [yZ, yK, y9, List.getElem?_cons_succ, List.getElem?_cons_zero, z0])
  refine m_range (by omega) ?_
  refine forGo_F1 (fun i s6 => ∀ v, v < i → deg E v % 2 = 0) (fun i s6 => [.sh (.tuple [.int n, .list (E.map dP)]), .sh (.int n), .sh (.list (E.map dP)), .sh (.int E.length), .own1 (tab n fun v => .int (degTo E E.length v : Nat)), s5, s6, .undef, .undef, .undef, .undef, .undef, .undef, .undef, .undef, .undef])
    rfl (fun v hv => absurd hv (Nat.not_lt_zero _)) ?_ ?_
  · intro i h s6 hpre K hK _ hR
    rw [tab_len] at h
    refine t_forR ?_
    (try simp only [List.set_cons_succ, List.set_cons_zero])
    (with_reducible refine t_cons ?_); (try simp only [yX, x4, r_seq0, zY, yc, yo, yj, List.getElem?_cons_succ, List.getElem?_cons_zero, y9, z0, z2])
    refine a_tab h ?_
    (try simp only [zl, zn])
    refine ⟨by omega, ?_⟩
    have hdeg : degTo E E.length i = deg E i := rfl
    by_cases c : deg E i % 2 = 0
    · refine ite_no (by rw [hdeg]; simp; omega) ?_
      refine hK _ fun v hv => ?_
      rcases Nat.lt_succ_iff_lt_or_eq.mp hv with q | q
      · exact hpre v q
      · rw [q]; exact c
    · refine ite_yes (by rw [hdeg]; simp; omega) ?_
      (with_reducible refine t_cons ?_); (try simp only [x0, zK, ye, yh, yg, y9, List.getElem?_cons_succ, List.getElem?_cons_zero, z0, yd])
      exact hR _ _ (.inl ⟨i, h, by omega, rfl⟩)
  intro s6 heven
  rw [tab_len] at heven
  generalize Slot.own1 (tab n fun v => .int (degTo E E.length v : Nat)) = s4
  generalize Slot.sh (.tuple [.int n, .list (E.map dP)]) = s0
  (with_reducible refine t_seq ?_); (try simp only [yX, x4, zY, yc, y9, List.getElem?_cons_succ, List.getElem?_cons_zero, z0, zm])
  by_cases c0 : E = []
  · subst c0
    refine ite_yes (by simp) ?_
    (with_reducible refine t_cons ?_); (try simp only [x0, zK, zO, ye, yh, yg, yf, yc, yd])
    exact .inr (.inl ⟨heven, rfl, rfl⟩)
  have hpos : 0 < E.length := List.length_pos_iff.mpr c0
  refine ite_no (by simp; omega) ?_
  obtain ⟨he0, hab, -⟩ := hEi 0 hpos
  skip
  (with_reducible refine t_seq ?_); (try simp only [yN, List.set_cons_succ, List.set_cons_zero, yG, yh, yg, yb, yi, yc, y9, List.getElem?_cons_succ, List.getElem?_cons_zero, z0])
  refine a_edge (i := 0) he0 ?_
  (try simp only [ze])
  generalize hs : (edgeAt E 0).1 = s at hab
  refine h0 n s E _ hn hE hl hab fun S hS => ?_
  (with_reducible refine t_seq ?_); (try simp only [yZ, yK, y9, List.getElem?_cons_succ, List.getElem?_cons_zero, z0])
  refine m_range (by omega) ?_
  refine forGo_F1 (fun i s8 => ∀ k, k < i → Conn E s (edgeAt E k).1) (fun i s8 => [s0, .sh (.int n), .sh (.list (E.map dP)), .sh (.int E.length), s4, s5, s6, .sh (.list (tab n fun v => .bool (S v))), s8, .undef, .undef, .undef, .undef, .undef, .undef, .undef])
    rfl (fun k hk => absurd hk (Nat.not_lt_zero _)) ?_ ?_
  · intro i h s8 hpre K hK _ hR
    rw [tab_len] at h
    obtain ⟨h1, h2, -⟩ := hEi i h
    refine t_forR ?_
    (try simp only [List.set_cons_succ, List.set_cons_zero])
    (with_reducible refine t_cons ?_); (try simp only [yX, x4, r_seq0, y6, y0, yi, yc, y9, List.getElem?_cons_succ, List.getElem?_cons_zero, z0])
    refine a_edge h1 ?_
    (try simp only [ze])
    refine a_tab h2 ?_
    (try simp only [zu])
    by_cases hSi : S (edgeAt E i).1 = true
    · refine ite_no (by rw [hSi]; simp) ?_
      refine hK _ fun k hk => ?_
      rcases Nat.lt_succ_iff_lt_or_eq.mp hk with q | q
      · exact hpre k q
      · rw [q]; exact (hS _).mp hSi
    · refine ite_yes (by simp [hSi]) ?_
      (with_reducible refine t_cons ?_); (try simp only [x0, zK, ye, yh, yg, y9, List.getElem?_cons_succ, List.getElem?_cons_zero, z0, yc, yd])
      refine hR _ _ (.inr (.inr (.inl ⟨heven, i, h, fun q => ?_, rfl⟩)))
      rw [hs] at q
      exact hSi ((hS _).mpr q)
  intro s8 hconn
  rw [tab_len] at hconn
  generalize Slot.sh (.list (tab n fun v => .bool (S v))) = s7
  (with_reducible refine t_seq ?_); (try simp only [yN, List.set_cons_succ, List.set_cons_zero, yG, yh, yg, y9, List.getElem?_cons_succ, List.getElem?_cons_zero, z0])
  refine h3 n E _ hn hE hl fun touch ht => ?_
  skip
  (with_reducible refine t_seq ?_); (try simp only [yO, List.set_cons_succ, List.set_cons_zero, yo, y9, List.getElem?_cons_succ, List.getElem?_cons_zero, z0, yf, yh, yg, yc])
  refine m_rep (by omega) ?_
  (try simp only [z6])
  (with_reducible refine t_seq ?_); (try simp only [yO, List.set_cons_succ, List.set_cons_zero, yo, y9, List.getElem?_cons_succ, List.getElem?_cons_zero, z0, yf, yh, yg, yb])
  refine m_rep (by omega) ?_
  (try simp only [z6])
  (with_reducible refine t_seq ?_); (try simp only [yO, List.set_cons_succ, List.set_cons_zero, yf, z6, yh, yg, ye, ya, yi, yc, y9, List.getElem?_cons_succ, List.getElem?_cons_zero, z0])
  refine a_edge (i := 0) he0 ?_
  (try simp only [ze])
  (with_reducible refine t_seq ?_); (try simp only [yO, List.set_cons_succ, List.set_cons_zero, yf, z6, yg])
  (with_reducible refine t_seq ?_); (try simp only [yY])
  rw [hs]
  have htl : ∀ v, (touch v).length ≤ 1000 := fun v => by have := (ht v).1; omega
  have hstart : Hz E s (fun _ => false) [] [] s s := Hz.start fun x => by
    by_cases hx : x < n
    · exact heven x hx
    · rw [usum_zero fun k hk => ?_]
      right
      have hk' := (hEi k hk).2
      unfold inc
      rw [if_neg (by omega), if_neg (by omega)]
  -- the main loop
  refine while_F8 (fun m used ptr O stk s6 s8 s14 s15 => (∀ v, ∀ j (hj : j < (touch v).length), j < ptr v → used (touch v)[j] = true) ∧ (∀ v, ptr v ≤ (touch v).length) ∧
      ((∃ t c top, Hz E s used t O c top ∧ m = 2 * unl E.length used + t.length + 1 ∧ m ≤ 2 * E.length + 1 ∧ stk = PyData.tuple [.int s, .none] :: t.map stkD) ∨ (HzDone E s O ∧ m = 0 ∧ stk = [])))
    (fun used ptr O stk s6 s8 s14 s15 => [s0, .sh (.int n), .sh (.list (E.map dP)), .sh (.int E.length), s4, s5, s6, s7, s8, .sh (.list ((adjD n touch).map .list)), .own1 (tab n fun v => .int (ptr v : Nat)), .own1 (tab E.length fun k => .bool (used k)),
        .own1 stk, .own1 (O.map dN), s14, s15])
    (2 * unl E.length (fun _ => false) + 1) (a0 := fun _ => false) (a1 := fun _ => 0) (a2 := []) rfl
    ⟨fun v j hj h => absurd h (Nat.not_lt_zero _), fun v => Nat.zero_le _, .inl ⟨[], s, s, hstart, by simp, by have := unl_le (n := E.length) (S := fun _ => false); omega, rfl⟩⟩ ?_
  clear hstart
  intro m used ptr O stk s6 s8 s14 s15 hI L hL
  obtain ⟨hptr, hpl, hI⟩ := hI
  rcases hI with ⟨t, c, top, hz, em, hmb, estk⟩ | ⟨hd, em, estk⟩
  rotate_left
  · (try simp only [zY, yc, yv, List.getElem?_cons_succ, List.getElem?_cons_zero, zr, z2])
    refine ite_no (by rw [estk]; simp) ?_
    (with_reducible refine t_seq ?_); (try simp only [yQ, List.getElem?_cons_succ, List.getElem?_cons_zero, List.set_cons_succ, List.set_cons_zero, z8])
    (with_reducible refine t_seq ?_); (try simp only [x0, zK, zO, ye, yh, yg, y9, List.getElem?_cons_succ, List.getElem?_cons_zero, z0, yi, yc, yd])
    refine a_edge (i := 0) he0 ?_
    (try simp only [ze])
    refine .inr (.inr (.inr ⟨heven, fun k hk => by rw [hs]; exact hconn k hk, O, by rw [hs]; exact hd.wk, hd.perm fun k hk => ?_, rfl⟩))
    rw [← edgeAt_eq hk]
    exact hconn k hk
  have hunl := unl_le (n := E.length) (S := used)
  have htop : top < n := hz.tr.ltN hE hab
  (try simp only [zY, yc, yv, List.getElem?_cons_succ, List.getElem?_cons_zero, zr, z2])
  refine ite_yes (by rw [estk]; simp) ?_
  (with_reducible refine t_cons ?_); (try simp only [yN, List.set_cons_succ, List.set_cons_zero, yi, yc, yj, List.getElem?_cons_succ, List.getElem?_cons_zero, yo, yv, zi, z2])
  -- the top of the stack
  obtain ⟨d', htopD⟩ := hz.tr.top
  rw [← estk] at htopD
  refine a_get t.length (by rw [estk]; simp) htopD ?_
  clear htopD
  (try simp only [ze])
  (with_reducible refine t_seq ?_); (try simp only [yY])
  -- the inner loop
  refine while_F1 (fun m p => (∀ j (hj : j < (touch top).length), j < p → used (touch top)[j] = true) ∧ p ≤ (touch top).length ∧ m = (touch top).length - p)
    (fun p => [s0, .sh (.int n), .sh (.list (E.map dP)), .sh (.int E.length), s4, s5, .sh (.int top), s7, s8, .sh (.list ((adjD n touch).map .list)), .own1 (tab n fun v => .int (upd ptr top p v : Nat)), .own1 (tab E.length fun k => .bool (used k)),
          .own1 stk, .own1 (O.map dN), s14, s15]) ((touch top).length - ptr top) (a0 := ptr top)
    (by rw [show upd ptr top (ptr top) = ptr from funext fun v => by unfold upd; split; rename_i e; rw [e]; rfl]) ⟨hptr top, hpl top, rfl⟩ ?_
  intro m p hp L2 hL2
  obtain ⟨hp1, hp2, rfl⟩ := hp
  (try simp only [y7, y1, List.getElem?_cons_succ, List.getElem?_cons_zero, yi, yj, y9, z0, z2, zY, yu])
  refine a_tab htop ?_
  refine a_adj htop ?_
  rw [upd_same]
  (try simp only [zv, zo])
  rw [List.length_map]
  have hpl' : ∀ v, upd ptr top p v ≤ (touch v).length := by
    intro v; unfold upd; split
    · rename_i e; rw [e]; exact hp2
    · exact hpl v
  by_cases c1 : p < (touch top).length
  · refine ite_yes (by simpa using c1) ?_
    refine a_adj htop ?_
    refine a_tab htop ?_
    rw [upd_same]
    have hkk := List.getElem?_eq_getElem c1
    have hkin := ((ht top).2 _).mp (List.getElem_mem c1)
    generalize hkd : (touch top)[p] = k at hkk hkin
    obtain ⟨hkl, w, hj⟩ := hkin
    refine a_nat hkk ?_
    refine a_tab hkl ?_
    (try simp only [zu])
    by_cases hu : used k = true
    · refine ite_yes hu ?_
      (with_reducible refine t_cons ?_); (try simp only [yU, List.getElem?_cons_succ, List.getElem?_cons_zero, List.set_cons_succ, List.set_cons_zero, r_seq0, zL, y9, z0, z7, z2, yo, yc, yj])
      refine a_tab htop ?_
      (try simp only [zg])
      refine s_tab htop ?_
      have : (upd (fun v => PyData.int ((upd ptr top p v : Nat) : Int)) top (PyData.int (((upd ptr top p top : Nat) : Int) + 1))) = fun v => PyData.int ((upd ptr top (p + 1) v : Nat) : Int) := by
        funext v
        unfold upd
        by_cases e : v = top <;> simp [e]
      rw [this]
      skip
      refine hL2 ((touch top).length - (p + 1)) (p + 1) (by omega) ⟨fun j hj hjp => ?_, by omega, rfl⟩
      rcases Nat.lt_succ_iff_lt_or_eq.mp hjp with q | q
      · exact hp1 j hj q
      · subst q; rw [hkd]; exact hu
    · refine ite_no hu ?_
      rw [Bool.not_eq_true] at hu
      (with_reducible refine t_seq ?_); (try simp only [yX, zY, yu, yi, y9, List.getElem?_cons_succ, List.getElem?_cons_zero, z0, yj, z2])
      refine a_tab htop ?_
      refine a_adj htop ?_
      rw [upd_same]
      (try simp only [zv, zm])
      rw [List.length_map]
      refine ite_no (by simp; omega) ?_
      -- a road is taken
      have hwn : w < n := (hE.adj hj.adj).2
      have hEk := (hEi k hkl).1
      have hut := unl_upd (n := E.length) hkl hu
      (with_reducible refine t_cons ?_); (try simp only [yN, List.set_cons_succ, List.set_cons_zero, yi, yj, List.getElem?_cons_succ, List.getElem?_cons_zero, y9, z0, z2])
      refine a_adj htop ?_
      refine a_tab htop ?_
      rw [upd_same]
      refine a_nat hkk ?_
      skip
      (with_reducible refine t_seq ?_); (try simp only [yU, List.getElem?_cons_succ, List.getElem?_cons_zero, List.set_cons_succ, List.set_cons_zero, y9, z0, z7, z2, yb])
      refine s_tab hkl ?_
      rw [mark_upd]
      skip
      (with_reducible refine t_seq ?_); (try simp only [yX, zY, y9, List.getElem?_cons_succ, List.getElem?_cons_zero, z0, yi, yc])
      refine a_edge hEk ?_
      (try simp only [ze, zm])
      have hptr' : ∀ v, ∀ j (hj : j < (touch v).length), j < upd ptr top p v → upd used k true (touch v)[j] = true := by
        intro v j hj hjp
        unfold upd at hjp ⊢
        split
        · rfl
        · by_cases e : v = top
          · subst e; rw [if_pos rfl] at hjp; exact hp1 j ‹_› hjp
          · rw [if_neg e] at hjp; exact hptr v j hj hjp
      have hgo : ∀ x s15, Joins E k top x → L [s0, .sh (.int n), .sh (.list (E.map dP)), .sh (.int E.length), s4, s5, .sh (.int top), s7, .sh (.int k), .sh (.list ((adjD n touch).map .list)), .own1 (tab n fun v => .int (upd ptr top p v : Nat)), .own1 (tab E.length fun k' => .bool (upd used k true k')),
          .own1 (stk ++ [.tuple [.int x, .int k]]), .own1 (O.map dN), s14, s15] := fun x s15 hj' => by
        rw [estk, stk_snoc]
        exact hL (2 * unl E.length (upd used k true) + (t.length + 1) + 1) _ _ _ _ _ _ _ _ (by omega) ⟨hptr', hpl', .inl ⟨t ++ [(x, k)], c, _, hz.push hj' hu, by simp, by omega, rfl⟩⟩
      have hsl : stk.length ≤ 1000000 := by rw [estk]; simp; omega
      by_cases c3 : (edgeAt E k).1 = top
      · refine ite_yes (by simp [c3]) ?_
        (with_reducible refine t_cons ?_); (try simp only [yN, List.set_cons_succ, List.set_cons_zero, r_seq0, yi, yc, y9, List.getElem?_cons_succ, List.getElem?_cons_zero, z0])
        refine a_edge hEk ?_
        (try simp only [zf])
        (with_reducible refine t_seq ?_); (try simp only [yS, List.getElem?_cons_succ, List.getElem?_cons_zero, List.set_cons_succ, List.set_cons_zero, r_seq0, zL, ye, yh, yg, y9, z0, z4])
        exact ⟨hsl, hgo _ _ (.inl (by rw [hEk, ← c3]))⟩
      · refine ite_no (by simpa using fun q => c3 (by omega)) ?_
        (with_reducible refine t_cons ?_); (try simp only [yN, List.set_cons_succ, List.set_cons_zero, r_seq0, yi, yc, y9, List.getElem?_cons_succ, List.getElem?_cons_zero, z0])
        refine a_edge hEk ?_
        (try simp only [ze])
        (with_reducible refine t_seq ?_); (try simp only [yS, List.getElem?_cons_succ, List.getElem?_cons_zero, List.set_cons_succ, List.set_cons_zero, r_seq0, zL, ye, yh, yg, y9, z0, z4])
        refine ⟨hsl, hgo _ _ ?_⟩
        rcases joins_edge hj with e | e
        · exact absurd (by rw [e]) c3
        · exact .inr (by rw [hEk, e])
  · refine ite_no (by simpa using c1) ?_
    refine ite_no (by simp) ?_
    have hpe : p = (touch top).length := by omega
    (with_reducible refine t_seq ?_); (try simp only [yX, zY, yu, yi, y9, List.getElem?_cons_succ, List.getElem?_cons_zero, z0, yj, z2])
    refine a_tab htop ?_
    refine a_adj htop ?_
    rw [upd_same]
    (try simp only [zv, zm])
    rw [List.length_map]
    refine ite_yes (by simp; omega) ?_
    have hall : ∀ k b, Joins E k top b → used k = true := by
      intro k b j
      have hk := ((ht top).2 k).mpr ⟨j.lt, b, j⟩
      obtain ⟨i, hi, e⟩ := List.getElem_of_mem hk
      rw [← e]
      exact hp1 i hi (by omega)
    have hptr' : ∀ v, ∀ j (hj : j < (touch v).length), j < upd ptr top p v → used (touch v)[j] = true := by
      intro v j hj hjp
      unfold upd at hjp
      by_cases e : v = top
      · subst e; rw [if_pos rfl] at hjp; exact hp1 j hj hjp
      · rw [if_neg e] at hjp; exact hptr v j hj hjp
    (with_reducible refine t_cons ?_); (try simp only [yV, List.getElem?_cons_succ, List.getElem?_cons_zero, List.set_cons_succ, List.set_cons_zero, z4])
    rcases hz.pop hall with ⟨et, hd⟩ | ⟨t', k, u, et, hz'⟩
    · have e3 : stk = [] ++ [PyData.tuple [PyData.int s, PyData.none]] := by rw [estk, et]; rfl
      have e4 : stk.length ≤ 1000000 := by rw [e3]; simp
      refine ⟨by rw [e3]; simp, e4, ?_⟩
      clear e4
      simp only [e3, List.dropLast_concat, List.getLast_concat]
      (with_reducible refine t_seq ?_); (try simp only [yX, x4, r_seq0, zL, y2, yi, yc, y9, List.getElem?_cons_succ, List.getElem?_cons_zero, z0, zf, zV])
      refine ite_no (by simp) ?_
      exact hL 0 _ _ _ _ _ _ _ _ (by omega) ⟨hptr', hpl', .inr ⟨hd, rfl, rfl⟩⟩
    · have hOl : (O ++ [k]).length ≤ E.length := nodup_length_le (List.Sublist.nodup (List.sublist_append_left _ _) hz'.nd) (hz'.wk.lt)
      rw [et, List.length_append, List.length_singleton] at em
      have e3 : stk = (PyData.tuple [PyData.int s, PyData.none] :: t'.map stkD) ++ [PyData.tuple [.int top, .int k]] := by rw [estk, et]; simp [stkD]
      have e4 : stk.length ≤ 1000000 := by rw [estk, et]; simp; omega
      refine ⟨by rw [e3]; simp, e4, ?_⟩
      clear e4
      simp only [e3, List.dropLast_concat, List.getLast_concat]
      (with_reducible refine t_seq ?_); (try simp only [yX, x4, r_seq0, zL, y2, yi, yc, y9, List.getElem?_cons_succ, List.getElem?_cons_zero, z0, zf, zW])
      refine ite_yes (by simp) ?_
      (with_reducible refine t_cons ?_); (try simp only [yS, List.getElem?_cons_succ, List.getElem?_cons_zero, List.set_cons_succ, List.set_cons_zero, r_seq0, zL, yi, yc, y9, z0, zf, z4])
      rw [map_snoc]
      refine ⟨by simp at hOl ⊢; omega, ?_⟩
      exact hL (2 * unl E.length used + t'.length + 1) _ _ _ _ _ _ _ _ (by omega) ⟨hptr', hpl', .inl ⟨t', u, u, hz', rfl, by omega, rfl⟩⟩
end
section
open PySem

theorem Walk.inv {E : List Edge} {a k c : Nat} {ks : List Nat} (h : Walk E a (k :: ks) c) : ∃ b, Joins E k a b ∧ Walk E b ks c := by
  cases h with
  | cons j w => exact ⟨_, j, w⟩
theorem Walk.inv0 {E : List Edge} {a c : Nat} (h : Walk E a [] c) : a = c := by
  cases h; rfl
theorem law_circuit_ok (Φ : Funs) (Λ : Lends) (h15 : SpecInts Φ) (E : List Edge) (s : Nat) (ks : List Nat) (hl : ks.length ≤ 100) (hw : Walk E s ks s) :
    wpSs Φ Λ b_law_circuit [.sh (dPs E), .sh (dN s), .sh (dNs ks), .undef, .undef] (RetP fun d => d = .bool true) := by
  unfold b_law_circuit dPs dNs dN
  (with_reducible refine t_cons ?_); (try simp only [yX, x4, y6, y4, yh, yg, yo, y9, List.getElem?_cons_succ, List.getElem?_cons_zero, z0, yf, zh])
  have e1 : [PyData.int s] ++ ks.map (fun n : Nat => PyData.int n) = (toI (s :: ks)).map .int := by simp [toI]
  rw [e1]
  refine ⟨by simp; omega, ?_⟩
  refine h15 _ _ (by simp [toI]; omega) ?_
  (try simp only [zu])
  refine ite_no (by simp) ?_
  (with_reducible refine t_seq ?_); (try simp only [yN, List.set_cons_succ, List.set_cons_zero, y9, List.getElem?_cons_succ, List.getElem?_cons_zero, z0])
  (with_reducible refine t_seq ?_); (try simp only [yZ, yL, y9, List.getElem?_cons_succ, List.getElem?_cons_zero, z0, zB])
  refine ⟨by rw [List.length_map]; omega, ?_⟩
  refine forGo_F2 (fun i (b : Nat) s4 => Walk E b (ks.drop i) s) (fun i b s4 => [.sh (.list (E.map dP)), .sh (.int s), .sh (.list (ks.map dN)), .sh (.int b), s4]) rfl hw ?_ ?_
  · intro i h b s4 hwk K hK _ _
    rw [List.length_map] at h
    rw [List.drop_eq_getElem_cons h] at hwk
    obtain ⟨b', hj, hrest⟩ := hwk.inv
    refine t_forE (List.getElem?_eq_getElem h) ?_
    generalize ks[i] = k at hj
    have hkl := hj.lt
    have hek : E[k]? = some (edgeAt E k) := by rw [List.getElem?_eq_getElem hkl, edgeAt_eq hkl]
    unfold dN
    (try simp only [List.set_cons_succ, List.set_cons_zero])
    (with_reducible refine t_cons ?_); (try simp only [yX, x4, y8, zY, yu, y9, List.getElem?_cons_zero, z0, zv, List.getElem?_cons_succ, zt, yc, zo])
    refine ite_no (by simp) ?_
    refine ite_no (by simp; omega) ?_
    (with_reducible refine t_seq ?_); (try simp only [yX, x4, zY, yi, y9, List.getElem?_cons_succ, List.getElem?_cons_zero, z0])
    refine a_edge hek ?_
    refine ⟨[((edgeAt E k).1 : Int), ((edgeAt E k).2 : Int)], rfl, ?_⟩
    have hmem : (b : Int) ∈ [((edgeAt E k).1 : Int), ((edgeAt E k).2 : Int)] := by
      rcases joins_edge hj with e | e <;> rw [e] <;> simp
    refine ite_no (by rw [decide_eq_true hmem]; simp) ?_
    (with_reducible refine t_seq ?_); (try simp only [yN, List.set_cons_succ, List.set_cons_zero, r_seq0, yo, y9, List.getElem?_cons_succ, List.getElem?_cons_zero, z0, yi, yc])
    refine a_edge hek ?_
    (try simp only [ze])
    refine a_edge hek ?_
    (try simp only [zf, zg, zi])
    have e2 : ((edgeAt E k).1 : Int) + (edgeAt E k).2 - b = b' := by
      rcases joins_edge hj with e | e <;> rw [e] <;> dsimp only <;> omega
    rw [e2]
    exact hK _ _ hrest
  · intro b s4 hwk
    rw [List.length_map, List.drop_length] at hwk
    rw [hwk.inv0]
    (with_reducible refine t_seq ?_); (try simp only [x0, zK, zO, yp, y9, List.getElem?_cons_succ, List.getElem?_cons_zero, z0, zm])
    simp

noncomputable def SpecCircuit (Φ : Funs) : Prop := ∀ (E : List Edge) (s : Nat) (ks : List Nat) (Q : D → Prop), ks.length ≤ 100 → Walk E s ks s → Q (.bool true) → Φ 22 [dPs E, dN s, dNs ks] Q
noncomputable def SpecTrip (Φ : Funs) : Prop := ∀ (n : Nat) (E : List Edge) (Q : D → Prop), n ≤ 1000 → InV n E → E.length ≤ 1000 → (∀ d, TripRes n E d → Q d) → Φ 4 [dG n E] Q

/-- the ends of the roads -/
noncomputable def endsOf (E : List Edge) : List Nat := E.map (·.1) ++ E.map (·.2)
theorem usum_map {m : Nat} {f : Nat → Nat} : usum m (fun _ => false) f = ((List.range m).map f).sum := by unfold usum; simp
theorem sum_map_add {α : Type} (l : List α) (f g : α → Nat) : (l.map fun x => f x + g x).sum = (l.map f).sum + (l.map g).sum := by
  induction l with
  | nil => rfl
  | cons a l ih => simp only [List.map_cons, List.sum_cons, ih]; omega
theorem count_sum {l : List Nat} {v : Nat} : l.count v = (l.map fun x => if x = v then 1 else 0).sum := by
  induction l with
  | nil => rfl
  | cons a l ih => simp only [List.count_cons, List.map_cons, List.sum_cons, ih, beq_iff_eq]; omega
theorem deg_count (E : List Edge) (v : Nat) : deg E v = (endsOf E).count v := by
  unfold deg endsOf
  rw [usum_map]
  have e : (List.range E.length).map (inc E v) = E.map fun e => (if e.1 = v then 1 else 0) + (if e.2 = v then 1 else 0) := by
    apply List.ext_getElem
    · simp
    · intro i h1 h2
      have hi : i < E.length := by simpa using h1
      simp [inc, edgeAt, hi]
  rw [e, sum_map_add, List.count_append, count_sum, count_sum, List.map_map, List.map_map]
  rfl
theorem countI (l : List Nat) (v : Nat) : (toI l).count (v : Int) = l.count v := by
  unfold toI
  induction l with
  | nil => rfl
  | cons a l ih =>
    simp only [List.map_cons, List.count_cons, ih]
    congr 1
    by_cases e : a = v <;> simp [e]
    omega

theorem eraseDups_len_le_one {l : List Int} : l.eraseDups.length ≤ 1 ↔ ∀ a ∈ l, ∀ b ∈ l, a = b := by
  have hm : ∀ x, x ∈ l.eraseDups ↔ x ∈ l := fun x => List.mem_eraseDups
  constructor
  · intro h a ha b hb
    have ha' := (hm a).mpr ha
    have hb' := (hm b).mpr hb
    match hl : l.eraseDups, h, ha', hb' with
    | [x], _, ha', hb' => simp at ha' hb'; rw [ha', hb']
    | [], _, ha', _ => simp at ha'
    | _ :: _ :: _, h, _, _ => simp at h
  · intro h
    cases l with
    | nil => simp
    | cons a l =>
      rw [List.eraseDups_cons]
      have : (l.filter fun b => !b == a) = [] := by
        rw [List.filter_eq_nil_iff]
        intro b hb
        have := h b (List.mem_cons_of_mem _ hb) a List.mem_cons_self
        simp [this]
      rw [this]
      simp

theorem trip_cases {n : Nat} {E : List Edge} {d : D} (hE : InV n E) (h : TripRes n E d) :
    (∃ v, v ∈ (List.range n).filter (fun v => decide (deg E v % 2 = 1)) ∧ d = .tuple [.str sOdd, dN v]) ∨
    ((List.range n).filter (fun v => decide (deg E v % 2 = 1)) = [] ∧ 1 < (toI ((endsOf E).map (labOf n E))).eraseDups.length ∧
      ∃ k, k < E.length ∧ labOf n E (edgeAt E 0).1 ≠ labOf n E (edgeAt E k).1 ∧ d = .tuple [.str sApart, .tuple [.int 0, dN k]]) ∨
    ((List.range n).filter (fun v => decide (deg E v % 2 = 1)) = [] ∧ ¬ 1 < (toI ((endsOf E).map (labOf n E))).eraseDups.length ∧
      ∃ s O, Walk E s O s ∧ O.Perm (List.range E.length) ∧ (E.length = 0 → s = 0) ∧ d = .tuple [.str sTrip, .tuple [dN s, dNs O]]) := by
  have hL := labOf_is hE
  have hevo : (∀ v, v < n → deg E v % 2 = 0) → (List.range n).filter (fun v => decide (deg E v % 2 = 1)) = [] := fun h => by
    rw [List.filter_eq_nil_iff]
    intro v hv
    have := h v (List.mem_range.mp hv)
    simp; omega
  have hab : ∀ k, k < E.length → (edgeAt E k).1 < n ∧ (edgeAt E k).2 < n := fun k hk => by
    rw [edgeAt_eq hk]; exact hE _ (List.getElem_mem hk)
  rcases h with ⟨v, hv, hodd, rfl⟩ | ⟨hev, rfl, rfl⟩ | ⟨hev, k, hk, hnc, rfl⟩ | ⟨hev, hcon, O, hwk, hpm, rfl⟩
  · exact .inl ⟨v, by simp [hv, hodd], rfl⟩
  · exact .inr (.inr ⟨hevo hev, by simp [endsOf, toI], 0, [], .nil _, .nil, fun _ => rfl, rfl⟩)
  · have hpos : 0 < E.length := by omega
    have hne : labOf n E (edgeAt E 0).1 ≠ labOf n E (edgeAt E k).1 := fun q => hnc (hL.conn_of_eq (hab 0 hpos).1 (hab k hk).1 q)
    have hmemE : ∀ j (hj : j < E.length), ((labOf n E (edgeAt E j).1 : Nat) : Int) ∈ toI ((endsOf E).map (labOf n E)) := fun j hj => by
      unfold toI endsOf
      refine List.mem_map.mpr ⟨labOf n E (edgeAt E j).1, List.mem_map.mpr ⟨(edgeAt E j).1, List.mem_append_left _ (List.mem_map.mpr ⟨E[j], List.getElem_mem hj, by rw [edgeAt_eq hj]⟩), rfl⟩, rfl⟩
    refine .inr (.inl ⟨hevo hev, Nat.lt_of_not_le fun q => ?_, k, hk, hne, rfl⟩)
    have := eraseDups_len_le_one.mp q _ (hmemE 0 hpos) _ (hmemE k hk)
    omega
  · refine .inr (.inr ⟨hevo hev, Nat.not_lt_of_le (eraseDups_len_le_one.mpr ?_), _, O, hwk, hpm, fun q => ?_, rfl⟩)
    · have key : ∀ a ∈ toI ((endsOf E).map (labOf n E)), a = (labOf n E (edgeAt E 0).1 : Nat) := by
        intro a ha
        unfold toI at ha
        obtain ⟨x, hx, rfl⟩ := List.mem_map.mp ha
        obtain ⟨v, hv, rfl⟩ := List.mem_map.mp hx
        have hv2 : ∃ j, j < E.length ∧ (v = (edgeAt E j).1 ∨ v = (edgeAt E j).2) := by
          unfold endsOf at hv
          rcases List.mem_append.mp hv with q | q
          · obtain ⟨e, he, rfl⟩ := List.mem_map.mp q
            obtain ⟨j, hj, rfl⟩ := List.getElem_of_mem he
            exact ⟨j, hj, .inl (by rw [edgeAt_eq hj])⟩
          · obtain ⟨e, he, rfl⟩ := List.mem_map.mp q
            obtain ⟨j, hj, rfl⟩ := List.getElem_of_mem he
            exact ⟨j, hj, .inr (by rw [edgeAt_eq hj])⟩
        obtain ⟨j, hj, hv3⟩ := hv2
        have hadj : Adj E (edgeAt E j).1 (edgeAt E j).2 := .inl (by rw [edgeAt_eq hj]; exact List.getElem_mem hj)
        have h0' := (hab 0 (by omega)).1
        have hc1 := hcon j hj
        rcases hv3 with rfl | rfl
        · rw [hL.eq_of_conn (hab j hj).1 h0' hc1.symm]
        · rw [hL.eq_of_conn (hab j hj).2 h0' (hc1.step hadj).symm]
      intro a ha b hb
      rw [key a ha, key b hb]
    · have hE0 : E = [] := List.length_eq_zero_iff.mp q
      subst hE0; rfl

theorem law_trip_ok (Φ : Funs) (Λ : Lends) (h4 : SpecTrip Φ) (h22 : SpecCircuit Φ) (h15 : SpecInts Φ) (n : Nat) (E : List Edge) (hn : n ≤ 20) (hE : InV n E) (hl : E.length < 30) :
    wpSs Φ Λ b_law_trip [.sh (dN n), .sh (dPs E), .sh (dNs (tab n (labOf n E))), .undef, .undef, .undef, .undef, .undef, .undef, .undef, .undef, .undef, .undef, .undef, .undef, .undef] (RetP fun d => d = .bool true) := by
  unfold b_law_trip dPs dN
  (with_reducible refine t_cons ?_); (try simp only [yN, List.set_cons_succ, List.set_cons_zero, yo, yH, yL, y9, List.getElem?_cons_succ, List.getElem?_cons_zero, z0, zB, zh])
  rw [List.length_map]
  refine ⟨by omega, ?_⟩
  refine compGo_enc dP (fun e => dN e.1) (fun e he K hK => ⟨rfl, hK⟩) ?_
  refine ⟨by omega, ?_⟩
  refine compGo_enc dP (fun e => dN e.2) (fun e he K hK => ⟨rfl, hK⟩) ?_
  have hends : E.map (fun e => dN e.1) ++ E.map (fun e => dN e.2) = (endsOf E).map dN := by unfold endsOf; rw [List.map_append, List.map_map, List.map_map]; rfl
  have hel : (endsOf E).length ≤ 60 := by simp [endsOf]; omega
  skip
  rw [hends]
  refine ⟨by simp; omega, ?_⟩
  clear hends
  (with_reducible refine t_seq ?_); (try simp only [yN, List.set_cons_succ, List.set_cons_zero, yH, yK, y9, List.getElem?_cons_zero, z0])
  refine m_range (by omega) ?_
  refine compGo_encF (l := List.range n) dN (fun v => decide (deg E v % 2 = 1)) dN (fun v hv K hK => ?_) ?_
  · unfold compB
    (try simp only [y9, zY, yc, yo, yF, zE, List.set_cons_succ, List.set_cons_zero, List.getElem?_cons_succ, List.getElem?_cons_zero, z0, z6])
    refine ⟨toI (endsOf E), by rw [← dNs_toI], ?_⟩
    rw [countI, ← deg_count]
    (try simp only [zl, zm])
    refine ⟨by omega, ?_⟩
    by_cases c : deg E v % 2 = 1
    · rw [if_pos (by simpa using c)] at hK
      refine ite_yes (by simp; omega) hK
    · rw [if_neg (by simpa using c)] at hK
      refine ite_no (by simp; omega) hK
  (with_reducible refine t_seq ?_); (try simp only [yN, List.set_cons_succ, List.set_cons_zero, yG, yh, yg, ye, y9, List.getElem?_cons_succ, List.getElem?_cons_zero, z0])
  refine h4 n E _ (by omega) hE (by omega) fun d hd => ?_
  replace hd := trip_cases hE hd
  have hll : ∀ k, k < E.length → (edgeAt E k).1 < n := fun k hk => by rw [edgeAt_eq hk]; exact (hE _ (List.getElem_mem hk)).1
  have hlab : ∀ v ∈ endsOf E, v < n := fun v hv => by
    unfold endsOf at hv
    rcases List.mem_append.mp hv with q | q
    · obtain ⟨e, he, rfl⟩ := List.mem_map.mp q; exact (hE e he).1
    · obtain ⟨e, he, rfl⟩ := List.mem_map.mp q; exact (hE e he).2
  clear hE
  generalize (List.range n).filter (fun v => decide (deg E v % 2 = 1)) = odds at hd ⊢
  generalize hLL : labOf n E = L at hd
  generalize endsOf E = ends at hd hlab hel ⊢
  have hset : ∀ (s4 s5 : Slot) (Q : D → Prop), Q (.int (toI (ends.map L)).eraseDups.length) → wpE Φ (.setLen (.comp (.sub (.var 2) (.var 15)) (.one 15) (.ofE (.var 3)) (.bool true) [2])) [.sh (.int n), .sh (.list (E.map dP)), .sh (dNs (tab n L)), .sh (.list (ends.map dN)), s4, s5, .undef, .undef, .undef, .undef, .undef, .undef, .undef, .undef, .undef, .undef] Q := by
    intro s4 s5 Q hQ
    (try simp only [yD, yH, yL, y9, List.getElem?_cons_succ, List.getElem?_cons_zero, z0, zB])
    refine ⟨by simp; omega, ?_⟩
    refine compGo_enc dN (fun v => dN (L v)) (fun v hv K hK => ?_) ?_
    · unfold compB dNs
      (try simp only [yi, y9, y5, zE, List.set_cons_succ, List.set_cons_zero, List.getElem?_cons_succ, List.getElem?_cons_zero, z0])
      refine ite_yes trivial ?_
      refine a_nat (tab_get? (hlab v hv)) ?_
      exact hK
    · have e : ends.map (fun v => dN (L v)) = (toI (ends.map L)).map .int := by rw [← dNs_toI, List.map_map]; rfl
      rw [e]
      exact ⟨_, rfl, by simp [toI]; omega, hQ⟩
  rcases hd with ⟨v, hv, rfl⟩ | ⟨hev, hsz, k, hk, hne, rfl⟩ | ⟨hev, hsz, s, O, hwk, hpm, hs0, rfl⟩
  · -- an odd node
    (with_reducible refine t_seq ?_); (try simp only [yX, x4, y6, y3, y9, List.getElem?_cons_succ, List.getElem?_cons_zero, z0])
    refine ite_no (by simp [tyIs]) ?_
    (with_reducible refine t_seq ?_); (try simp only [yX, x4, zY, yc, yu, y9, List.getElem?_cons_succ, List.getElem?_cons_zero, z0, zv, zr])
    refine ite_yes (by rw [List.length_map]; have := List.length_pos_of_mem hv; rw [decide_eq_true_eq]; omega) ?_
    (with_reducible refine t_cons ?_); (try simp only [yX, x4, y8, zY, y9, List.getElem?_cons_succ, List.getElem?_cons_zero, z0, yi, yc, zf, yd, ze])
    refine m_neS (by decide +kernel) ?_
    refine ite_no Bool.false_ne_true ?_
    refine ⟨toI odds, by rw [← dNs_toI], ?_⟩
    have : (v : Int) ∈ toI odds := List.mem_map.mpr ⟨v, hv, rfl⟩
    refine ite_no (by rw [decide_eq_true this]; simp) ?_
    exact rfl
  · (with_reducible refine t_seq ?_); (try simp only [yX, x4, y6, y3, y9, List.getElem?_cons_succ, List.getElem?_cons_zero, z0])
    refine ite_no (by simp [tyIs]) ?_
    (with_reducible refine t_seq ?_); (try simp only [yX, x4, zY, yc, yu, y9, List.getElem?_cons_succ, List.getElem?_cons_zero, z0, zv, zr])
    refine ite_no (by rw [hev]; simp) ?_
    (with_reducible refine t_seq ?_)
    refine hset _ _ _ ?_
    refine ite_yes (by rw [decide_eq_true_eq]; omega) ?_
    (with_reducible refine t_cons ?_); (try simp only [yX, x4, zY, yd, yi, yc, y9, List.getElem?_cons_succ, List.getElem?_cons_zero, z0, ze])
    refine m_neS (by decide +kernel) ?_
    refine ite_no Bool.false_ne_true ?_
    (with_reducible refine t_seq ?_); (try simp only [yR, zF, yi, yc, y9, List.getElem?_cons_succ, List.getElem?_cons_zero, z0, zf, zD, zH, List.set_cons_succ, List.set_cons_zero, zG])
    refine ⟨rfl, ?_⟩
    (with_reducible refine t_seq ?_); (try simp only [yX, x4, y8, zY, yu, y9, List.getElem?_cons_succ, List.getElem?_cons_zero, z0, zv, yx, yc, yw, y6, y4, yh, yg, yf])
    refine h15 [0, (k : Int)] _ (by simp) ?_
    (try simp only [zu])
    refine ite_no (by simp) ?_
    unfold dN
    (try simp only [zy, zt, zx, zo])
    refine ite_no (by rw [decide_eq_true_eq]; omega) ?_
    rw [List.length_map]
    refine ite_no (by rw [decide_eq_true_eq]; omega) ?_
    (with_reducible refine t_seq ?_); (try simp only [x0, zK, zO, yp, yi, yc, y9, List.getElem?_cons_succ, List.getElem?_cons_zero, z0])
    have hpos : 0 < E.length := by omega
    have hek : ∀ k, k < E.length → E[k]? = some (edgeAt E k) := fun k hk => by rw [List.getElem?_eq_getElem hk, edgeAt_eq hk]
    refine a_edge (i := 0) (hek 0 hpos) ?_
    unfold dNs
    (try simp only [ze])
    refine a_nat (tab_get? (hll 0 hpos)) ?_
    refine a_edge (hek k hk) ?_
    (try simp only [ze])
    refine a_nat (tab_get? (hll k hk)) ?_
    (try simp only [zn])
    rw [decide_eq_false (by omega)]
    rfl
  · (with_reducible refine t_seq ?_); (try simp only [yX, x4, y6, y3, y9, List.getElem?_cons_succ, List.getElem?_cons_zero, z0])
    refine ite_no (by simp [tyIs]) ?_
    (with_reducible refine t_seq ?_); (try simp only [yX, x4, zY, yc, yu, y9, List.getElem?_cons_succ, List.getElem?_cons_zero, z0, zv, zr])
    refine ite_no (by rw [hev]; simp) ?_
    (with_reducible refine t_seq ?_)
    refine hset _ _ _ ?_
    refine ite_no (by rw [decide_eq_true_eq]; omega) ?_
    clear hset
    (try simp only [x4])
    (with_reducible refine t_seq ?_); (try simp only [yX, x4, zY, yd, yi, yc, y9, List.getElem?_cons_succ, List.getElem?_cons_zero, z0, ze])
    refine m_neS (by decide +kernel) ?_
    refine ite_no Bool.false_ne_true ?_
    (with_reducible refine t_seq ?_); (try simp only [yR, zF, yi, yc, y9, List.getElem?_cons_succ, List.getElem?_cons_zero, z0, zf, zD, zH, List.set_cons_succ, List.set_cons_zero, zG])
    refine ⟨rfl, ?_⟩
    (with_reducible refine t_seq ?_); (try simp only [yX, x4, y7, zY, yc, y9, List.getElem?_cons_succ, List.getElem?_cons_zero, z0, yu, zv, zm])
    rw [List.length_map]
    have hOl : O.length = E.length := by simpa using hpm.length_eq
    have hno : ∀ P Q : Prop, Q → (if decide ((E.length : Int) = 0) = true then (if (!decide (((s : Nat) : Int) = 0)) = true then P else Q) else Q) := fun P Q q => by
      by_cases c : E.length = 0
      · exact ite_yes (by simp [c]) (ite_no (by rw [hs0 c]; simp) q)
      · exact ite_no (by rw [decide_eq_true_eq]; omega) q
    refine hno _ _ ?_
    (with_reducible refine t_seq ?_); (try simp only [yX, x4, zY, yC, yu, y9, List.getElem?_cons_succ, List.getElem?_cons_zero, z0, zv, zQ, yz])
    refine ⟨toI O, dNs_toI O, by simp [toI]; omega, fun ms hp hs => ?_⟩
    have e5 : ms = toI (List.range E.length) := by
      refine eq_of_perm_sorted (le := (· ≤ ·)) (fun a b => Int.le_antisymm) (hp.trans (hpm.map _)) hs ?_
      unfold toI
      rw [List.pairwise_map]
      exact List.pairwise_lt_range.imp fun h => by omega
    rw [e5, ← dNs_toI]
    skip
    rw [List.length_map]
    refine ⟨by omega, ?_⟩
    rw [rangeL_zero]
    refine m_neN (l := List.range E.length) ?_
    refine ite_no Bool.false_ne_true ?_
    (with_reducible refine t_seq ?_); (try simp only [x0, zK, zO, yG, yh, yg, y9, List.getElem?_cons_succ, List.getElem?_cons_zero, z0])
    exact h22 E _ O (fun d => d = .bool true) (by omega) hwk rfl
end
section
/-- a walk with the parity of its length -/
inductive PW (E : List Edge) : Nat → Nat → Bool → Prop where
  | refl (a : Nat) : PW E a a false
  | step {a b c : Nat} {p : Bool} : PW E a b p → Adj E b c → PW E a c (!p)

section
variable {E : List Edge}
theorem PW.conn {a b : Nat} {p : Bool} (h : PW E a b p) : Conn E a b := by
  induction h with
  | refl => exact .refl _
  | step _ e ih => exact .step ih e
theorem PW.trans {a b c : Nat} {p q : Bool} (h : PW E a b p) (k : PW E b c q) : PW E a c (p != q) := by
  induction k with
  | refl => simpa using h
  | @step _ _ p' _ e ih =>
    have := ih.step e
    have e2 : (!(p != p')) = (p != !p') := by cases p <;> cases p' <;> rfl
    rw [← e2]; exact this
theorem PW.symm {a b : Nat} {p : Bool} (h : PW E a b p) : PW E b a p := by
  induction h with
  | refl => exact .refl _
  | @step b c p _ e ih =>
    have := (PW.step (.refl c) e.symm).trans ih
    simpa using this
theorem PW.color {a b : Nat} {p : Bool} {col : Nat → Bool} (hc : ∀ x y, Adj E x y → col x ≠ col y) (h : PW E a b p) : col b = (col a != p) := by
  induction h with
  | refl => simp
  | @step b c p _ e ih =>
    have := hc _ _ e
    revert ih this
    cases col a <;> cases col b <;> cases col c <;> cases p <;> simp
end

/-- the double cover: node v of the first layer is v, of the second v + n -/
noncomputable def cover (n : Nat) (E : List Edge) : List Edge := (E.map fun e => (e.1, e.2 + n)) ++ (E.map fun e => (e.1 + n, e.2))
noncomputable def lay (n : Nat) (v : Nat) (p : Bool) : Nat := if p = true then v + n else v

section
variable {n : Nat} {E : List Edge}
theorem cover_inV (h : InV n E) : InV (2 * n) (cover n E) := by
  intro e he
  unfold cover at he
  rcases List.mem_append.mp he with q | q
  · obtain ⟨x, hx, rfl⟩ := List.mem_map.mp q
    have := h x hx
    dsimp only; omega
  · obtain ⟨x, hx, rfl⟩ := List.mem_map.mp q
    have := h x hx
    dsimp only; omega
theorem cover_adj_of {a b : Nat} (h : Adj E a b) (p : Bool) : Adj (cover n E) (lay n a p) (lay n b (!p)) := by
  unfold cover lay Adj
  rcases h with h | h
  · cases p
    · left; exact List.mem_append_left _ (List.mem_map.mpr ⟨(a, b), h, by simp⟩)
    · left; exact List.mem_append_right _ (List.mem_map.mpr ⟨(a, b), h, by simp⟩)
  · cases p
    · right; exact List.mem_append_right _ (List.mem_map.mpr ⟨(b, a), h, by simp⟩)
    · right; exact List.mem_append_left _ (List.mem_map.mpr ⟨(b, a), h, by simp⟩)
theorem cover_adj (hE : InV n E) {x y : Nat} (h : Adj (cover n E) x y) : ∃ a b p, x = lay n a p ∧ y = lay n b (!p) ∧ Adj E a b := by
  have key : ∀ x y, (x, y) ∈ cover n E → ∃ a b p, x = lay n a p ∧ y = lay n b (!p) ∧ (a, b) ∈ E := by
    intro x y h
    unfold cover at h
    rcases List.mem_append.mp h with q | q
    · obtain ⟨e, he, q⟩ := List.mem_map.mp q
      cases q
      exact ⟨e.1, e.2, false, rfl, rfl, he⟩
    · obtain ⟨e, he, q⟩ := List.mem_map.mp q
      cases q
      exact ⟨e.1, e.2, true, rfl, rfl, he⟩
  rcases h with h | h
  · obtain ⟨a, b, p, h1, h2, h3⟩ := key _ _ h
    exact ⟨a, b, p, h1, h2, .inl h3⟩
  · obtain ⟨a, b, p, h1, h2, h3⟩ := key _ _ h
    exact ⟨b, a, !p, h2, by simpa using h1, .inr h3⟩
theorem lay_inj {a b : Nat} {p q : Bool} (ha : a < n) (hb : b < n) (e : lay n a p = lay n b q) : a = b ∧ p = q := by
  unfold lay at e
  cases p <;> cases q <;> simp at e ⊢ <;> omega
theorem cover_conn (hE : InV n E) {a b : Nat} (ha : a < n) (hb : b < n) (p q : Bool) : Conn (cover n E) (lay n a p) (lay n b q) ↔ PW E a b (p != q) := by
  constructor
  · intro h
    have key : ∀ y, Conn (cover n E) (lay n a p) y → ∃ b q, b < n ∧ y = lay n b q ∧ PW E a b (p != q) := by
      intro y h
      induction h with
      | refl => exact ⟨a, p, ha, rfl, by simpa using PW.refl a⟩
      | step _ e ih =>
        obtain ⟨b, q, hb, rfl, hw⟩ := ih
        obtain ⟨c, d, r, h1, h2, h3⟩ := cover_adj hE e
        have hc := hE.adj h3
        obtain ⟨rfl, rfl⟩ := lay_inj hb hc.1 h1
        refine ⟨d, !q, hc.2, h2, ?_⟩
        have := hw.step h3
        have e2 : (!(p != q)) = (p != !q) := by cases p <;> cases q <;> rfl
        rw [← e2]; exact this
    obtain ⟨b', q', hb', e, hw⟩ := key _ h
    obtain ⟨rfl, rfl⟩ := lay_inj hb hb' e
    exact hw
  · intro h
    have key : ∀ b r, PW E a b r → Conn (cover n E) (lay n a p) (lay n b (p != r)) := by
      intro b r h
      induction h with
      | refl => simpa using Conn.refl _
      | @step b c r _ e ih =>
        have := ih.step (cover_adj_of (n := n) e (p != r))
        have e2 : (!(p != r)) = (p != !r) := by cases p <;> cases r <;> rfl
        rw [← e2]; exact this
    have := key b _ h
    have e3 : (p != (p != q)) = q := by cases p <;> cases q <;> rfl
    rwa [e3] at this
end
end
section
/-- the search trees: colours, fathers -/
structure Fst (n : Nat) (E : List Edge) (S cl : Nat → Bool) (par : Nat → Option (Nat × Nat)) (rk : Nat → Nat) : Prop where
  inb : ∀ v, S v = true → v < n
  pok : ∀ v p k, par v = some (p, k) → S v = true ∧ S p = true ∧ Joins E k v p ∧ cl v = !cl p ∧ rk p < rk v
  rok : ∀ v, S v = true → par v = none → cl v = false ∧ ∀ u, Conn E u v → v ≤ u

section
variable {n : Nat} {E : List Edge} {S cl : Nat → Bool} {par : Nat → Option (Nat × Nat)} {rk : Nat → Nat}
theorem Fst.start : Fst n E (fun _ => false) (fun _ => false) (fun _ => none) (fun _ => 0) := ⟨fun _ h => (nomatch h), fun _ _ _ h => (nomatch h), fun _ h => (nomatch h)⟩
theorem Fst.congr {S' : Nat → Bool} (h : Fst n E S cl par rk) (e : ∀ v, S v = S' v) : Fst n E S' cl par rk := by
  have : S = S' := funext e
  rw [← this]; exact h
theorem Fst.root (h : Fst n E S cl par rk) {s : Nat} (hs : s < n) (hS : S s = false) (hm : ∀ u, Conn E u s → s ≤ u) : Fst n E (upd S s true) (upd cl s false) par rk := by
  refine ⟨fun v hv => ?_, fun v p k e => ?_, fun v hv e => ?_⟩
  · unfold upd at hv; split at hv
    · rename_i q; rw [q]; exact hs
    · exact h.inb v hv
  · obtain ⟨h1, h2, h3, h4, h5⟩ := h.pok v p k e
    have n1 : v ≠ s := fun q => by rw [q, hS] at h1; cases h1
    have n2 : p ≠ s := fun q => by rw [q, hS] at h2; cases h2
    rw [upd_ne n1, upd_ne n2, upd_ne n1, upd_ne n2]
    exact ⟨h1, h2, h3, h4, h5⟩
  · by_cases q : v = s
    · subst q; rw [upd_same]; exact ⟨rfl, hm⟩
    · rw [upd_ne q] at hv ⊢; exact h.rok v hv e
theorem Fst.child (h : Fst n E S cl par rk) {v y k : Nat} (hv : S v = true) (hy : y < n) (hS : S y = false) (j : Joins E k y v) :
    Fst n E (upd S y true) (upd cl y (!cl v)) (upd par y (some (v, k))) (upd rk y (rk v + 1)) := by
  have nv : v ≠ y := fun q => by rw [q, hS] at hv; cases hv
  refine ⟨fun u hu => ?_, fun u p i e => ?_, fun u hu e => ?_⟩
  · unfold upd at hu; split at hu
    · rename_i q; rw [q]; exact hy
    · exact h.inb u hu
  · by_cases q : u = y
    · subst q
      rw [upd_same] at e
      cases e
      rw [upd_same, upd_same, upd_same, upd_ne nv, upd_ne nv, upd_ne nv]
      exact ⟨rfl, hv, j, rfl, Nat.lt_succ_self _⟩
    · rw [upd_ne q] at e
      obtain ⟨h1, h2, h3, h4, h5⟩ := h.pok u p i e
      have n2 : p ≠ y := fun q => by rw [q, hS] at h2; cases h2
      rw [upd_ne q, upd_ne n2, upd_ne q, upd_ne n2, upd_ne q, upd_ne n2]
      exact ⟨h1, h2, h3, h4, h5⟩
  · by_cases q : u = y
    · subst q; rw [upd_same] at e; cases e
    · rw [upd_ne q] at hu e ⊢; exact h.rok u hu e

/-- the way up -/
inductive Up (par : Nat → Option (Nat × Nat)) : Nat → List Nat → Prop where
  | top {v : Nat} : par v = none → Up par v [v]
  | up {v p k : Nat} {l : List Nat} : par v = some (p, k) → Up par p l → Up par v (v :: l)
noncomputable def kOf (par : Nat → Option (Nat × Nat)) (v : Nat) : Nat := match par v with | some (_, k) => k | none => 0

theorem Up.pos {v : Nat} {l : List Nat} (h : Up par v l) : 0 < l.length := by cases h <;> simp
theorem Up.head {v : Nat} {l : List Nat} (h : Up par v l) : l[0]? = some v := by cases h <;> rfl
theorem Up.drop {v : Nat} {l : List Nat} (h : Up par v l) : ∀ i (hi : i < l.length), Up par l[i] (l.drop i) := by
  induction h with
  | top e =>
    intro i hi
    simp at hi
    subst hi
    exact .top e
  | up e h ih =>
    intro i hi
    cases i with
    | zero => exact .up e h
    | succ i => simpa using ih i (by simpa using hi)
theorem Up.step {v : Nat} {l : List Nat} (h : Up par v l) {i : Nat} (hi : i + 1 < l.length) : ∃ k, par l[i] = some (l[i + 1], k) := by
  have h1 := h.drop i (by omega)
  have h2 := h.drop (i + 1) hi
  rw [List.drop_eq_getElem_cons (by omega : i < l.length)] at h1
  generalize hx : l[i] = x at h1
  generalize hr : l.drop (i + 1) = r at h1 h2
  cases h1 with
  | top e =>
    have := congrArg List.length hr
    simp at this
    omega
  | @up _ p k _ e hp =>
    have hh := hp.head
    have : r[0]? = some l[i + 1] := by rw [← hr]; simp
    rw [this] at hh
    cases hh
    exact ⟨k, e⟩
theorem Up.rk_lt (hF : Fst n E S cl par rk) {v : Nat} {l : List Nat} (h : Up par v l) : ∀ x ∈ l, rk x ≤ rk v := by
  induction h with
  | top => intro x hx; simp at hx; rw [hx]; exact Nat.le_refl _
  | up e _ ih =>
    intro x hx
    rcases List.mem_cons.mp hx with q | q
    · rw [q]; exact Nat.le_refl _
    · have := ih x q
      have := (hF.pok _ _ _ e).2.2.2.2
      omega
theorem Up.nodup (hF : Fst n E S cl par rk) {v : Nat} {l : List Nat} (h : Up par v l) : l.Nodup := by
  induction h with
  | top => simp
  | up e h ih =>
    rw [List.nodup_cons]
    refine ⟨fun q => ?_, ih⟩
    have := h.rk_lt hF _ q
    have := (hF.pok _ _ _ e).2.2.2.2
    omega
theorem Up.walk (hF : Fst n E S cl par rk) {v : Nat} {l : List Nat} (h : Up par v l) : ∀ i (hi : i < l.length), Walk E v ((l.take i).map (kOf par)) l[i] := by
  induction h with
  | top => intro i hi; simp at hi; subst hi; exact .nil _
  | @up v p k l e h ih =>
    intro i hi
    cases i with
    | zero => exact .nil _
    | succ i =>
      have hw := ih i (by simpa using hi)
      simp only [List.take_succ_cons, List.map_cons, List.getElem_cons_succ]
      have hk : kOf par v = k := by simp [kOf, e]
      rw [hk]
      exact .cons (hF.pok _ _ _ e).2.2.1 hw
theorem Up.color (hF : Fst n E S cl par rk) {v : Nat} {l : List Nat} (h : Up par v l) : ∀ i (hi : i < l.length), cl l[i] = (cl v != decide (i % 2 = 1)) := by
  induction h with
  | top => intro i hi; simp at hi; subst hi; simp
  | @up v p k l e h ih =>
    intro i hi
    cases i with
    | zero => simp
    | succ i =>
      have hw := ih i (by simpa using hi)
      have hc := (hF.pok _ _ _ e).2.2.2.1
      simp only [List.getElem_cons_succ, hw, hc]
      have : decide ((i + 1) % 2 = 1) = !decide (i % 2 = 1) := by
        rw [Bool.eq_iff_iff]; simp; omega
      rw [this]
      cases cl p <;> cases decide (i % 2 = 1) <;> rfl
theorem Up.mem {v : Nat} {l : List Nat} (hF : Fst n E S cl par rk) (hv : S v = true) (h : Up par v l) : ∀ x ∈ l, S x = true := by
  induction h with
  | top => intro x hx; simp at hx; rw [hx]; exact hv
  | up e _ ih =>
    intro x hx
    rcases List.mem_cons.mp hx with q | q
    · rw [q]; exact hv
    · exact ih (hF.pok _ _ _ e).2.1 x q
theorem Up.last {v : Nat} {l : List Nat} (hF : Fst n E S cl par rk) (hv : S v = true) (h : Up par v l) : ∃ r, r ∈ l ∧ PW E r v (cl v) ∧ ∀ u, Conn E u v → r ≤ u := by
  induction h with
  | @top v e =>
    have := hF.rok v hv e
    exact ⟨v, by simp, by rw [this.1]; exact .refl _, this.2⟩
  | @up v p k l e h ih =>
    obtain ⟨h1, h2, h3, h4, h5⟩ := hF.pok _ _ _ e
    obtain ⟨r, hr, hw, hm⟩ := ih h2
    refine ⟨r, List.mem_cons_of_mem _ hr, ?_, fun u c => hm u (c.step h3.adj)⟩
    have := hw.step h3.symm.adj
    rwa [← h4] at this
theorem Fst.exists_up (hF : Fst n E S cl par rk) (v : Nat) : ∃ l, Up par v l := by
  suffices H : ∀ m v, rk v ≤ m → ∃ l, Up par v l from H _ v (Nat.le_refl _)
  intro m
  induction m with
  | zero =>
    intro v hv
    cases e : par v with
    | none => exact ⟨_, .top e⟩
    | some x =>
      obtain ⟨p, k⟩ := x
      have := (hF.pok _ _ _ e).2.2.2.2
      omega
  | succ m ih =>
    intro v hv
    cases e : par v with
    | none => exact ⟨_, .top e⟩
    | some x =>
      obtain ⟨p, k⟩ := x
      have := (hF.pok _ _ _ e).2.2.2.2
      obtain ⟨l, hl⟩ := ih p (by omega)
      exact ⟨_, .up e hl⟩
theorem Fst.pw (hF : Fst n E S cl par rk) {v : Nat} (hv : S v = true) : ∃ r, PW E r v (cl v) ∧ ∀ u, Conn E u v → r ≤ u := by
  obtain ⟨l, hl⟩ := hF.exists_up v
  obtain ⟨r, _, h1, h2⟩ := hl.last hF hv
  exact ⟨r, h1, h2⟩
theorem kOf_inj (hF : Fst n E S cl par rk) {x x' y y' k k' : Nat} (e : par x = some (y, k)) (e' : par x' = some (y', k')) (h : k = k') : x = x' := by
  subst h
  obtain ⟨_, _, j, _, r⟩ := hF.pok _ _ _ e
  obtain ⟨_, _, j', _, r'⟩ := hF.pok _ _ _ e'
  rcases joins_edge j with q | q <;> rcases joins_edge j' with q' | q' <;> rw [q] at q' <;> cases q' <;> first | rfl | omega

/-- what odd_circle makes -/
structure Circle (E : List Edge) (w : Nat) (P : List Nat) : Prop where
  wk : Walk E w P w
  odd : P.length % 2 = 1
  nd : P.Nodup
  vs : ∃ V : List Nat, V.Nodup ∧ V.length = P.length ∧ ∀ x, x ∈ V ↔ ∃ k ∈ P, x = (edgeAt E k).1 ∨ x = (edgeAt E k).2

theorem circle {a b k ia ib : Nat} {pa pb : List Nat} (hF : Fst n E S cl par rk) (ha : Up par a pa) (hb : Up par b pb) (hj : Joins E k a b) (hc : cl a = cl b) (hia : ia < pa.length) (hib : ib < pb.length)
    (hno : ∀ i (hi : i < pa.length), i < ia → pa[i] ∉ pb) (he : pa[ia] = pb[ib]) : Circle E pb[ib] (((pa.take ia).map (kOf par)).reverse ++ [k] ++ (pb.take ib).map (kOf par)) := by
  have hpa := ha.nodup hF
  have hpb := hb.nodup hF
  have hka : ∀ i (hi : i < ia), ∃ q, par (pa[i]'(by omega)) = some (pa[i + 1]'(by omega), q) := fun i hi => ha.step (by omega)
  have hkb : ∀ i (hi : i < ib), ∃ q, par (pb[i]'(by omega)) = some (pb[i + 1]'(by omega), q) := fun i hi => hb.step (by omega)
  have hVnd : (pa.take ia ++ pb.take ib).Nodup := by
    rw [List.nodup_append]
    refine ⟨List.Sublist.nodup (List.take_sublist _ _) hpa, List.Sublist.nodup (List.take_sublist _ _) hpb, fun x hx y hy e => ?_⟩
    obtain ⟨i, hi, rfl⟩ := List.getElem_of_mem hx
    rw [List.getElem_take] at e
    have hi' : i < ia := by simp at hi; omega
    exact hno i (by omega) hi' (e ▸ List.mem_of_mem_take hy)
  have hpar : ∀ x ∈ pa.take ia ++ pb.take ib, ∃ y, par x = some (y, kOf par x) := by
    intro x hx
    have : ∃ y q, par x = some (y, q) := by
      rcases List.mem_append.mp hx with h | h
      · obtain ⟨i, hi, rfl⟩ := List.getElem_of_mem h
        rw [List.getElem_take]
        obtain ⟨q, hq⟩ := hka i (by simp at hi; omega)
        exact ⟨_, q, hq⟩
      · obtain ⟨i, hi, rfl⟩ := List.getElem_of_mem h
        rw [List.getElem_take]
        obtain ⟨q, hq⟩ := hkb i (by simp at hi; omega)
        exact ⟨_, q, hq⟩
    obtain ⟨y, q, e⟩ := this
    exact ⟨y, by rw [e]; simp [kOf, e]⟩
  have hKnd : ((pa.take ia ++ pb.take ib).map (kOf par)).Nodup := by
    rw [List.nodup_iff_pairwise_ne, List.pairwise_map]
    refine List.Pairwise.imp_of_mem ?_ hVnd
    intro x y hx hy hne e
    obtain ⟨x', ex⟩ := hpar x hx
    obtain ⟨y', ey⟩ := hpar y hy
    exact hne (kOf_inj hF ex ey e)
  have hkn : k ∉ (pa.take ia ++ pb.take ib).map (kOf par) := by
    intro h
    obtain ⟨x, hx, e⟩ := List.mem_map.mp h
    obtain ⟨y, ex⟩ := hpar x hx
    rw [e] at ex
    obtain ⟨_, _, j, c, _⟩ := hF.pok _ _ _ ex
    rcases joins_edge j with q | q <;> rcases joins_edge hj with q' | q' <;> rw [q] at q' <;> cases q'
    · rw [hc] at c; cases hcb : cl b <;> rw [hcb] at c <;> cases c
    · rw [hc] at c; cases hcb : cl b <;> rw [hcb] at c <;> cases c
    · rw [hc] at c; cases hcb : cl b <;> rw [hcb] at c <;> cases c
    · rw [hc] at c; cases hcb : cl b <;> rw [hcb] at c <;> cases c
  have hperm : (((pa.take ia).map (kOf par)).reverse ++ [k] ++ (pb.take ib).map (kOf par)).Perm (k :: (pa.take ia ++ pb.take ib).map (kOf par)) := by
    rw [List.map_append]
    refine (List.Perm.append_right _ (List.Perm.append_right _ (List.reverse_perm _))).trans ?_
    exact (List.Perm.append_right _ List.perm_append_comm)
  refine ⟨?_, ?_, ?_, ?_⟩
  · have w1 := (ha.walk hF ia hia).reverse
    rw [he] at w1
    exact (w1.snoc hj).trans (hb.walk hF ib hib)
  · have c1 := ha.color hF ia hia
    have c2 := hb.color hF ib hib
    rw [he] at c1
    rw [c1, hc] at c2
    have hl := hperm.length_eq
    simp only [List.length_cons, List.length_map, List.length_append, List.length_take] at hl
    rw [hperm.length_eq]
    simp only [List.length_cons, List.length_map, List.length_append, List.length_take]
    have : (ia % 2 = 1 ↔ ib % 2 = 1) := by
      have : decide (ia % 2 = 1) = decide (ib % 2 = 1) := by revert c2; cases cl b <;> cases decide (ia % 2 = 1) <;> cases decide (ib % 2 = 1) <;> simp
      simpa using this
    omega
  · exact hperm.nodup_iff.mpr (List.nodup_cons.mpr ⟨hkn, hKnd⟩)
  · refine ⟨pb[ib] :: (pa.take ia ++ pb.take ib), ?_, ?_, ?_⟩
    · rw [List.nodup_cons]
      refine ⟨fun h => ?_, hVnd⟩
      rcases List.mem_append.mp h with h | h
      · obtain ⟨i, hi, e⟩ := List.getElem_of_mem h
        rw [List.getElem_take] at e
        have hi' : i < ia := by simp at hi; omega
        exact hno i (by omega) hi' (by rw [e]; exact List.getElem_mem _)
      · obtain ⟨i, hi, e⟩ := List.getElem_of_mem h
        rw [List.getElem_take] at e
        have hi' : i < ib := by simp at hi; omega
        exact (List.pairwise_iff_getElem.mp hpb) i ib (by omega) hib hi' e
    · rw [hperm.length_eq]; simp
    · intro x
      -- the ends of the roads
      have hmemP : ∀ q, q ∈ (((pa.take ia).map (kOf par)).reverse ++ [k] ++ (pb.take ib).map (kOf par)) ↔ q = k ∨ ∃ y ∈ pa.take ia ++ pb.take ib, kOf par y = q := by
        intro q; rw [hperm.mem_iff]; simp only [List.mem_cons, List.mem_map]
      have hw : pb[ib] ∈ pb[ib] :: (pa.take ia ++ pb.take ib) := List.mem_cons_self
      have inA : ∀ i (hi : i ≤ ia), pa[i]'(by omega) ∈ pb[ib] :: (pa.take ia ++ pb.take ib) := by
        intro i hi
        by_cases e : i = ia
        · subst e; rw [he]; exact hw
        · exact List.mem_cons_of_mem _ (List.mem_append_left _ (List.mem_iff_getElem.mpr ⟨i, by simp; omega, by simp⟩))
      have inB : ∀ i (hi : i ≤ ib), pb[i]'(by omega) ∈ pb[ib] :: (pa.take ia ++ pb.take ib) := by
        intro i hi
        by_cases e : i = ib
        · subst e; exact hw
        · exact List.mem_cons_of_mem _ (List.mem_append_right _ (List.mem_iff_getElem.mpr ⟨i, by simp; omega, by simp⟩))
      have ha0 : pa[0]'ha.pos = a := by have := ha.head; rw [List.getElem?_eq_getElem ha.pos] at this; exact Option.some.inj this
      have hb0 : pb[0]'hb.pos = b := by have := hb.head; rw [List.getElem?_eq_getElem hb.pos] at this; exact Option.some.inj this
      have ends : ∀ q u v, Joins E q u v → (x = (edgeAt E q).1 ∨ x = (edgeAt E q).2 ↔ x = u ∨ x = v) := by
        intro q u v j
        rcases joins_edge j with e | e <;> rw [e] <;> dsimp only
        exact or_comm
      constructor
      · intro hx
        rcases List.mem_cons.mp hx with h | h
        · -- w itself
          by_cases e1 : ia = 0
          · subst e1
            refine ⟨k, (hmemP k).mpr (.inl rfl), (ends k a b hj).mpr (.inl ?_)⟩
            rw [h, ← he, ha0]
          · obtain ⟨q, hq⟩ := hka (ia - 1) (by omega)
            have hq' : kOf par (pa[ia - 1]'(by omega)) = q := by simp [kOf, hq]
            refine ⟨q, (hmemP q).mpr (.inr ⟨pa[ia - 1]'(by omega), List.mem_append_left _ (List.mem_iff_getElem.mpr ⟨ia - 1, by simp; omega, by simp⟩), hq'⟩), (ends q _ _ (hF.pok _ _ _ hq).2.2.1).mpr (.inr ?_)⟩
            rw [h, ← he]
            congr 1; omega
        · obtain ⟨y, ey⟩ := hpar x h
          exact ⟨kOf par x, (hmemP _).mpr (.inr ⟨x, h, rfl⟩), (ends _ _ _ (hF.pok _ _ _ ey).2.2.1).mpr (.inl rfl)⟩
      · rintro ⟨q, hq, hx⟩
        rcases (hmemP q).mp hq with rfl | ⟨y, hy, rfl⟩
        · rcases (ends _ _ _ hj).mp hx with e | e
          · rw [e, ← ha0]; exact inA 0 (Nat.zero_le _)
          · rw [e, ← hb0]; exact inB 0 (Nat.zero_le _)
        · rcases List.mem_append.mp hy with h | h
          · obtain ⟨i, hi, rfl⟩ := List.getElem_of_mem h
            have hi' : i < ia := by simp at hi; omega
            simp only [List.getElem_take] at hx
            obtain ⟨q, hq⟩ := hka i hi'
            have hq' : kOf par (pa[i]'(by omega)) = q := by simp [kOf, hq]
            rw [hq'] at hx
            rcases (ends _ _ _ (hF.pok _ _ _ hq).2.2.1).mp hx with e | e
            · rw [e]; exact inA i (by omega)
            · rw [e]; exact inA (i + 1) (by omega)
          · obtain ⟨i, hi, rfl⟩ := List.getElem_of_mem h
            have hi' : i < ib := by simp at hi; omega
            simp only [List.getElem_take] at hx
            obtain ⟨q, hq⟩ := hkb i hi'
            have hq' : kOf par (pb[i]'(by omega)) = q := by simp [kOf, hq]
            rw [hq'] at hx
            rcases (ends _ _ _ (hF.pok _ _ _ hq).2.2.1).mp hx with e | e
            · rw [e]; exact inB i (by omega)
            · rw [e]; exact inB (i + 1) (by omega)
end
end
section
open PySem

noncomputable def parD (par : Nat → Option (Nat × Nat)) (v : Nat) : D := match par v with | some (p, k) => .tuple [.int p, .int k] | none => .none

theorem up_ok (Φ : Funs) (Λ : Lends) {n v : Nat} {E : List Edge} {S cl : Nat → Bool} {par : Nat → Option (Nat × Nat)} {rk : Nat → Nat} (hn : n ≤ 1000) (hF : Fst n E S cl par rk) (hv : S v = true) :
    wpSs Φ Λ b_up [.sh (.list (tab n (parD par))), .sh (dN v), .undef] (RetP fun d => ∃ l, Up par v l ∧ d = dNs l) := by
  unfold b_up dN
  (with_reducible refine t_cons ?_); (try simp only [yO, List.set_cons_succ, List.set_cons_zero, yf, z6, yh, yg, y9, List.getElem?_cons_succ, List.getElem?_cons_zero, z0])
  (with_reducible refine t_seq ?_); (try simp only [yY])
  refine while_F2 (fun m (pre : List Nat) x => S x = true ∧ (∀ l, Up par x l → Up par v (pre ++ l)) ∧ m = rk x) (fun pre x => [.sh (.list (tab n (parD par))), .sh (.int v), .own1 ((pre ++ [x]).map dN)]) (rk v)
    (a0 := []) rfl ⟨hv, fun l h => h, rfl⟩ ?_
  intro m pre x hI M hM
  obtain ⟨hx, hup, em⟩ := hI
  have hxn := hF.inb x hx
  have hlen : pre.length ≤ 1000 := by
    obtain ⟨l, hl⟩ := hF.exists_up x
    have h1 := hup l hl
    have h2 := nodup_length_le (h1.nodup hF) fun y hy => hF.inb y (h1.mem hF hv y hy)
    rw [List.length_append] at h2
    omega
  have e1 : ((((pre ++ [x]).map dN).length : Nat) : Int) - 1 = (pre.length : Nat) := by simp
  have e2 : ((pre ++ [x]).map dN)[pre.length]? = some (.int x) := by simp [dN]
  (try simp only [y2, yi, yj, List.getElem?_cons_succ, List.getElem?_cons_zero, yo, yc, yv, zi, z2, y9, z0])
  refine a_get pre.length e1 e2 ?_
  refine a_tab hxn ?_
  by_cases hp : par x = none
  · refine ite_no (by simp [parD, hp, isNoneD]) ?_
    (with_reducible refine t_seq ?_); (try simp only [yQ, List.getElem?_cons_succ, List.getElem?_cons_zero, List.set_cons_succ, List.set_cons_zero, z8])
    (with_reducible refine t_seq ?_); (try simp only [x0, zK, zO, y9, List.getElem?_cons_succ, List.getElem?_cons_zero, z0])
    exact ⟨pre ++ [x], hup _ (.top hp), rfl⟩
  · obtain ⟨y, hy⟩ := Option.ne_none_iff_exists'.mp hp
    have e3 : parD par x = .tuple [.int y.1, .int y.2] := by simp [parD, hy]
    have hpk := hF.pok x y.1 y.2 hy
    refine ite_yes (by rw [e3]; simp [isNoneD]) ?_
    (with_reducible refine t_cons ?_); (try simp only [yS, List.getElem?_cons_succ, List.getElem?_cons_zero, List.set_cons_succ, List.set_cons_zero, r_seq0, zL, yi, yc, yj, yo, yv, zi, z2, y9, z0, z4])
    refine a_get pre.length e1 e2 ?_
    refine a_tab hxn ?_
    rw [e3]
    (try simp only [ze])
    refine ⟨by rw [List.length_map, List.length_append]; simp; omega, ?_⟩
    have := hM (rk y.1) (pre ++ [x]) y.1 (by rw [em]; exact hpk.2.2.2.2) ⟨hpk.2.1, fun l hl => by rw [List.append_assoc]; exact hup _ (.up hy hl), rfl⟩
    rw [← map_snoc] at this
    exact this

noncomputable def SpecUp (Φ : Funs) : Prop := ∀ (n v : Nat) (E : List Edge) (S cl : Nat → Bool) (par : Nat → Option (Nat × Nat)) (rk : Nat → Nat) (Q : D → Prop), n ≤ 1000 → Fst n E S cl par rk → S v = true →
  (∀ l, Up par v l → Q (dNs l)) → Φ 12 [.list (tab n (parD par)), dN v] Q

theorem odd_circle_ok (Φ : Funs) (Λ : Lends) (h12 : SpecUp Φ) {n a b k : Nat} {E : List Edge} {S cl : Nat → Bool} {par : Nat → Option (Nat × Nat)} {rk : Nat → Nat} (hn : n ≤ 1000) (hF : Fst n E S cl par rk) (ha : S a = true) (hb : S b = true)
    (hj : Joins E k a b) (hc : cl a = cl b) :
    wpSs Φ Λ b_odd_circle [.sh (.list (tab n (parD par))), .sh (dN a), .sh (dN b), .sh (dN k), .sh (dN n), .undef, .undef, .undef, .undef, .undef, .undef, .undef, .undef, .undef, .undef, .undef]
      (RetP fun d => ∃ w P, Circle E w P ∧ P.length ≤ 2001 ∧ d = .tuple [dN w, dNs P]) := by
  unfold b_odd_circle dN
  (with_reducible refine t_cons ?_); (try simp only [yN, List.set_cons_succ, List.set_cons_zero, yG, yh, yg, y9, List.getElem?_cons_succ, List.getElem?_cons_zero, z0])
  refine h12 n a E S cl par rk _ hn hF ha fun pa hpa => ?_
  (with_reducible refine t_seq ?_); (try simp only [yN, List.set_cons_succ, List.set_cons_zero, yG, yh, yg, y9, List.getElem?_cons_succ, List.getElem?_cons_zero, z0])
  refine h12 n b E S cl par rk _ hn hF hb fun pb hpb => ?_
  have hna := hpa.nodup hF
  have hnb := hpb.nodup hF
  have hbda := fun y hy => hF.inb y (hpa.mem hF ha y hy)
  have hbdb := fun y hy => hF.inb y (hpb.mem hF hb y hy)
  have hla := nodup_length_le hna hbda
  have hlb := nodup_length_le hnb hbdb
  clear hna hnb
  unfold dNs
  (with_reducible refine t_seq ?_); (try simp only [yO, List.set_cons_succ, List.set_cons_zero, yo, y9, List.getElem?_cons_succ, List.getElem?_cons_zero, z0, yf, yh, yg, yb])
  refine m_rep (by omega) ?_
  (try simp only [z6])
  (with_reducible refine t_seq ?_); (try simp only [yZ, yL, y9, List.getElem?_cons_succ, List.getElem?_cons_zero, z0, zB])
  refine ⟨by rw [List.length_map]; omega, ?_⟩
  refine forGo_F1 (fun i s8 => True) (fun i s8 => [.sh (.list (tab n (parD par))), .sh (.int a), .sh (.int b), .sh (.int k), .sh (.int n), .sh (.list (pa.map dN)), .sh (.list (pb.map dN)), .own1 (tab n fun v => .bool (memB (pb.take i) v)), s8, .undef, .undef, .undef, .undef, .undef, .undef, .undef])
    (by rw [List.take_zero, memB_nil]) trivial ?_ ?_
  · intro i h s8 _ K hK _ _
    rw [List.length_map] at h
    refine t_forE (List.getElem?_eq_getElem h) ?_
    unfold dN
    (try simp only [List.set_cons_succ, List.set_cons_zero])
    (with_reducible refine t_cons ?_); (try simp only [yU, List.getElem?_cons_succ, List.getElem?_cons_zero, List.set_cons_succ, List.set_cons_zero, r_seq0, y9, z0, z7, z2, yb])
    refine s_tab (hbdb _ (List.getElem_mem h)) ?_
    rw [mark_upd, ← memB_snoc, ← List.take_succ_eq_append_getElem h]
    exact hK _ trivial
  intro s8 _
  rw [List.length_map, List.take_length]
  -- the root is on both ways
  have hroot : ∃ jr, ∃ h : jr < pa.length, pa[jr] ∈ pb := by
    obtain ⟨ra, hra, hwa, hma⟩ := hpa.last hF ha
    obtain ⟨rb, hrb, hwb, hmb⟩ := hpb.last hF hb
    have hrr : ra = rb := by
      have cab : Conn E a b := .one hj.adj
      have h1 := hma rb (hwb.conn.trans cab.symm)
      have h2 := hmb ra (hwa.conn.trans cab)
      omega
    obtain ⟨jr, hjr, ejr⟩ := List.getElem_of_mem hra
    exact ⟨jr, hjr, by rw [ejr, hrr]; exact hrb⟩
  obtain ⟨jr, hjr, ejr⟩ := hroot
  (with_reducible refine t_seq ?_); (try simp only [yN, List.set_cons_succ, List.set_cons_zero, yc])
  (with_reducible refine t_seq ?_); (try simp only [yY])
  refine while_F1 (fun m ia => ia ≤ jr ∧ (∀ i, i < ia → ∀ (hi : i < pa.length), pa[i] ∉ pb) ∧ m = jr - ia) (fun ia => [.sh (.list (tab n (parD par))), .sh (.int a), .sh (.int b), .sh (.int k), .sh (.int n), .sh (.list (pa.map dN)), .sh (.list (pb.map dN)), .own1 (tab n fun v => .bool (memB pb v)), s8, .sh (.int (ia : Nat)), .undef, .undef, .undef, .undef, .undef, .undef]) jr
    (a0 := 0) rfl ⟨Nat.zero_le _, fun i h => absurd h (Nat.not_lt_zero _), rfl⟩ ?_
  intro m ia hI M hM
  obtain ⟨hij, hno, em⟩ := hI
  have hia : ia < pa.length := by omega
  have hxn := hbda _ (List.getElem_mem hia)
  have gia := List.getElem?_eq_getElem hia
  (try simp only [y6, y1, List.getElem?_cons_succ, List.getElem?_cons_zero, yi, y9, z0, z2])
  refine a_nat gia ?_
  refine a_tab hxn ?_
  (try simp only [zu])
  by_cases c : pa[ia] ∈ pb
  case neg =>
    refine ite_yes (by
      have : memB pb pa[ia] = false := by rw [← Bool.not_eq_true, memB_iff]; exact c
      rw [this]; rfl) ?_
    have hne : ia ≠ jr := fun q => c (by simp only [q]; exact ejr)
    (with_reducible refine t_cons ?_); (try simp only [yN, List.set_cons_succ, List.set_cons_zero, r_seq0, zL, yo, yc, y9, List.getElem?_cons_succ, List.getElem?_cons_zero, z0, zg])
    exact hM (jr - (ia + 1)) (ia + 1) (by omega) ⟨by omega, all_succ hno fun _ => c, rfl⟩
  refine ite_no (by rw [memB_iff.mpr c]; simp) ?_
  clear hM em
  (with_reducible refine t_seq ?_); (try simp only [yN, List.set_cons_succ, List.set_cons_zero, yi, y9, List.getElem?_cons_succ, List.getElem?_cons_zero, z0])
  refine a_nat gia ?_
  skip
  (with_reducible refine t_seq ?_); (try simp only [yN, List.set_cons_succ, List.set_cons_zero, yc])
  (with_reducible refine t_seq ?_); (try simp only [yY])
  obtain ⟨jb, hjb, ejb⟩ := List.getElem_of_mem c
  generalize Slot.own1 (tab n fun v => .bool (memB pb v)) = s7
  refine while_F1 (fun m ib => ib ≤ jb ∧ m = jb - ib) (fun ib => [.sh (.list (tab n (parD par))), .sh (.int a), .sh (.int b), .sh (.int k), .sh (.int n), .sh (.list (pa.map dN)), .sh (.list (pb.map dN)), s7, s8, .sh (.int (ia : Nat)), .sh (.int (pa[ia] : Nat)), .sh (.int (ib : Nat)), .undef, .undef, .undef, .undef]) jb
    (a0 := 0) rfl ⟨Nat.zero_le _, rfl⟩ ?_
  intro m ib hI M hM
  obtain ⟨hib, em⟩ := hI
  have hibl : ib < pb.length := by omega
  (try simp only [zY, y9, List.getElem?_cons_succ, List.getElem?_cons_zero, z0, yi])
  refine a_nat (List.getElem?_eq_getElem hibl) ?_
  (try simp only [zn])
  by_cases c2 : pb[ib] = pa[ia]
  case neg =>
    refine ite_yes (by simp; omega) ?_
    have : ib ≠ jb := fun q => c2 (by simp only [q]; exact ejb)
    (with_reducible refine t_cons ?_); (try simp only [yN, List.set_cons_succ, List.set_cons_zero, r_seq0, zL, yo, yc, y9, List.getElem?_cons_succ, List.getElem?_cons_zero, z0, zg])
    exact hM (jb - (ib + 1)) (ib + 1) (by omega) ⟨by omega, rfl⟩
  refine ite_no (by simp [c2]) ?_
  have hstep : ∀ {v : Nat} {l : List Nat}, Up par v l → (∀ y ∈ l, y < n) → ∀ i (hi : i + 1 < l.length) (Q : D → Prop), Q (.int (kOf par (l.getD i 0))) → itemD (.list (l.map dN)) (.int i) (fun d => itemD (.list (tab n (parD par))) d fun d => itemD d (.int 1) Q) := fun {v l} hu hb i hi Q hq => by
    have hil : i < l.length := by omega
    obtain ⟨q, hpq⟩ := hu.step hi
    have e3 : parD par l[i] = .tuple [.int l[i + 1], .int q] := by simp [parD, hpq]
    have e4 : l.getD i 0 = l[i] := by simp [hil]
    have e5 : kOf par l[i] = q := by simp [kOf, hpq]
    refine a_nat (List.getElem?_eq_getElem hil) (a_tab (hb _ (List.getElem_mem hil)) ?_)
    rw [e3]
    rw [e4, e5] at hq
    exact hq
  have f1 : ∀ (l : List Nat) (j : Nat), j ≤ l.length → (List.range j).map (fun i => dN (kOf par (l.getD i 0))) = ((l.take j).map (kOf par)).map dN := by
    intro l j hj
    apply List.ext_getElem
    · simp; omega
    · intro i h1 h2
      have hi : i < l.length := by simp at h1; omega
      simp [hi]
  (with_reducible refine t_seq ?_); (try simp only [yN, List.set_cons_succ, List.set_cons_zero, yH, yK, y9, List.getElem?_cons_succ, List.getElem?_cons_zero, z0])
  refine m_range (by omega) ?_
  refine compGo_enc (l := List.range ia) dN (fun i => dN (kOf par (pa.getD i 0))) (fun i hi K hK => ?_) ?_
  · have hi' := List.mem_range.mp hi
    exact hstep hpa hbda i (by omega) (fun d => K (some d)) hK
  rw [f1 pa ia (by omega)]
  (with_reducible refine t_seq ?_); (try simp only [yN, List.set_cons_succ, List.set_cons_zero, yH, yK, y9, List.getElem?_cons_succ, List.getElem?_cons_zero, z0])
  refine m_range (by omega) ?_
  refine compGo_enc (l := List.range ib) dN (fun i => dN (kOf par (pb.getD i 0))) (fun i hi K hK => ?_) ?_
  · have hi' := List.mem_range.mp hi
    exact hstep hpb hbdb i (by omega) (fun d => K (some d)) hK
  rw [f1 pb ib (by omega)]
  clear hstep f1
  (with_reducible refine t_seq ?_); (try simp only [x0, zK, zO, ye, yh, yg, yo, y9, List.getElem?_cons_succ, List.getElem?_cons_zero, z0, yf, yn, zU, zh])
  have hlt1 : (pa.take ia).length ≤ 1000 := by rw [List.length_take]; omega
  have hlt2 : (pb.take ib).length ≤ 1000 := by rw [List.length_take]; omega
  refine ⟨by simp; omega, by simp; omega, by simp; omega, ?_⟩
  refine ⟨pb[ib], _, circle hF hpa hpb hj hc hia hibl (fun i hi h => hno i h hi) c2.symm, ?_, ?_⟩
  · simp; omega
  · rw [c2]; simp [dNs, dN]
end
section
open PySem

noncomputable def SpecOddC (Φ : Funs) : Prop := ∀ (n a b k : Nat) (E : List Edge) (S cl : Nat → Bool) (par : Nat → Option (Nat × Nat)) (rk : Nat → Nat) (Q : D → Prop), n ≤ 1000 → Fst n E S cl par rk → S a = true → S b = true → Joins E k a b → cl a = cl b →
  (∀ w P, Circle E w P → P.length ≤ 2001 → Q (.tuple [dN w, dNs P])) → Φ 13 [.list (tab n (parD par)), dN a, dN b, dN k, dN n] Q

noncomputable def adjP (n : Nat) (adj : Nat → List (Nat × Nat)) : List (List D) := tab n fun v => (adj v).map stkD
theorem adjP_app {n a b k : Nat} {adj : Nat → List (Nat × Nat)} : (adjP n adj).set a ((adj a).map stkD ++ [PyData.tuple [.int b, .int k]]) = adjP n (upd adj a (adj a ++ [(b, k)])) := by
  unfold adjP
  rw [tab_set]
  apply tab_congr
  intro i _
  unfold upd
  by_cases e : i = a
  · subst e; simp [stkD]
  · simp [e]
theorem adjP_len {n : Nat} {adj : Nat → List (Nat × Nat)} : (adjP n adj).length = n := tab_len
theorem adjP_get {n i : Nat} {adj : Nat → List (Nat × Nat)} {h : i < (adjP n adj).length} : (adjP n adj)[i] = (adj i).map stkD := tab_get
theorem a_adjP {n i : Nat} {adj : Nat → List (Nat × Nat)} {Q : D → Prop} (h : i < n) (q : Q (.list ((adj i).map stkD))) : itemD (.list ((adjP n adj).map .list)) (.int i) Q := a_map (tab_get? h) q
theorem adjP_nil {n : Nat} : List.replicate n ([] : List D) = adjP n fun _ => [] := by rw [tab_replicate]; rfl

noncomputable def AdjPOk (E : List Edge) (i : Nat) (adj : Nat → List (Nat × Nat)) : Prop := ∀ v, (adj v).length ≤ 2 * i ∧ ∀ p, p ∈ adj v ↔ p.2 < i ∧ Joins E p.2 v p.1
theorem AdjPOk.zero {E : List Edge} : AdjPOk E 0 fun _ => [] := fun v => ⟨by simp, fun p => by simp⟩
theorem AdjPOk.next {E : List Edge} {i a b : Nat} {adj : Nat → List (Nat × Nat)} (h : AdjPOk E i adj) (he : E[i]? = some (a, b)) :
    AdjPOk E (i + 1) (upd (upd adj a (adj a ++ [(b, i)])) b (upd adj a (adj a ++ [(b, i)]) b ++ [(a, i)])) := by
  have key : ∀ v p, (p.2 < i + 1 ∧ Joins E p.2 v p.1) ↔ (p ∈ adj v ∨ (v = a ∧ p = (b, i)) ∨ (v = b ∧ p = (a, i))) := by
    intro v p
    rw [(h v).2]
    obtain ⟨w, k⟩ := p
    dsimp only
    constructor
    · rintro ⟨hj, r⟩
      rcases Nat.lt_succ_iff_lt_or_eq.mp hj with q | q
      · exact .inl ⟨q, r⟩
      · subst q
        unfold Joins at r
        rw [he] at r
        rcases r with r | r <;> (cases r; simp)
    · rintro (⟨hj, r⟩ | ⟨rfl, e⟩ | ⟨rfl, e⟩)
      · exact ⟨by omega, r⟩
      · cases e; exact ⟨by omega, .inl he⟩
      · cases e; exact ⟨by omega, .inr he⟩
  intro v
  refine ⟨?_, fun w => ?_⟩
  · have h1 := (h v).1
    have h2 := (h a).1
    have h3 := (h b).1
    unfold upd
    by_cases e1 : v = b
    · subst e1
      by_cases e2 : v = a
      · subst e2; simp; omega
      · simp [e2]; omega
    · by_cases e2 : v = a
      · subst e2; simp [e1]; omega
      · simp [e1, e2]; omega
  · rw [key]
    unfold upd
    by_cases e1 : v = b
    · subst e1
      by_cases e2 : v = a
      · subst e2; simp
      · simp [e2]
    · by_cases e2 : v = a
      · subst e2; simp [e1]
      · simp [e1, e2]

noncomputable def cI (b : Bool) : Int := if b = true then 1 else 0
theorem cI_not (b : Bool) : 1 - cI b = cI (!b) := by cases b <;> rfl
theorem cI_inj {a b : Bool} : cI a = cI b ↔ a = b := by cases a <;> cases b <;> simp [cI]
noncomputable def colD (V cl : Nat → Bool) (v : Nat) : D := if V v = true then .int (cI (cl v)) else .none
theorem colD_upd {n y : Nat} {V cl : Nat → Bool} {c : Bool} : tab n (upd (colD V cl) y (.int (cI c))) = tab n (colD (upd V y true) (upd cl y c)) := by
  apply tab_congr
  intro i _
  unfold upd colD
  by_cases e : i = y <;> simp [e]
theorem parD_upd {n y v k : Nat} {par : Nat → Option (Nat × Nat)} : tab n (upd (parD par) y (.tuple [.int v, .int k])) = tab n (parD (upd par y (some (v, k)))) := by
  apply tab_congr
  intro i _
  unfold upd parD
  by_cases e : i = y <;> simp [e]
noncomputable def visB (n : Nat) (L : Nat → Nat) (s : Nat) (Sc : Nat → Bool) (v : Nat) : Bool := decide (v < n ∧ L v < s) || Sc v
theorem visB_upd {n s y : Nat} {L : Nat → Nat} {Sc : Nat → Bool} : upd (visB n L s Sc) y true = visB n L s (upd Sc y true) := by
  funext v
  unfold upd visB
  by_cases e : v = y <;> simp [e]

/-- the search of two_colors from s -/
theorem color_search (Φ : Funs) (Λ : Lends) {n s : Nat} {E : List Edge} {L : Nat → Nat} {adj : Nat → List (Nat × Nat)} {cl₀ : Nat → Bool} {par₀ : Nat → Option (Nat × Nat)} {rk₀ : Nat → Nat} {d0 d1 d2 : D} {s4 s5 s6 s12 s13 s14 : Slot} {Q : MF → St → Prop}
    (hn : n ≤ 1000) (hE : InV n E) (hL : IsLab n E L) (hadj : ∀ v p, p ∈ adj v ↔ Joins E p.2 v p.1) (hal : ∀ v, (adj v).length ≤ 2000) (hs : s < n) (hr : L s = s)
    (hF : Fst n E (visB n L s (only s)) cl₀ par₀ rk₀)
    (hQ : ∀ cl par rk Sc s10 s11 s12 s13 s14, (∀ v, Sc v = true ↔ Conn E s v) → Fst n E (visB n L s Sc) cl par rk →
      Q .next [.sh d0, .sh d1, .sh d2, .sh (.list ((adjP n adj).map .list)), s4, s5, s6, .own1 (tab n (colD (visB n L s Sc) cl)), .own1 (tab n (parD par)), .sh (.int s), s10, s11, s12, s13, s14]) :
    whileW Φ Λ (.cmp .lt (.var 11) (.lenv 10))
       [.assign 12 (.subv 10 (.var 11)),
        .assign 11 (.bin .add (.var 11) (.int 1)),
        .forLoop (.one 13) (.ofE (.sub (.var 3) (.var 12)))
          [.assign 14 (.sub (.var 13) (.int 0)),
           .ite (.isNone (.subv 7 (.var 14)) false)
             [.setItem 7 (.var 14) (.bin .sub (.int 1) (.subv 7 (.var 12))),
              .setItem 8 (.var 14) (.tup (.cons (.var 12) (.cons (.sub (.var 13) (.int 1)) .nil))),
              .append1 10 (.var 14)]
             []]]
      [.sh d0, .sh d1, .sh d2, .sh (.list ((adjP n adj).map .list)), s4, s5, s6, .own1 (tab n (colD (visB n L s (only s)) cl₀)), .own1 (tab n (parD par₀)), .sh (.int s), .own1 [dN s], .sh (.int 0), s12, s13, s14] Q := by
  have hun := unl_only hs
  refine while_F8 (fun m Sc cl par (queue : List Nat) (head : Nat) s12 s13 s14 => Dfs n E s Sc (queue.drop head) none ∧ head ≤ queue.length ∧ queue.length + unl n Sc = n ∧ m = 2 * unl n Sc + (queue.length - head) ∧ ∃ rk, Fst n E (visB n L s Sc) cl par rk)
    (fun Sc cl par queue head s12 s13 s14 => [.sh d0, .sh d1, .sh d2, .sh (.list ((adjP n adj).map .list)), s4, s5, s6, .own1 (tab n (colD (visB n L s Sc) cl)), .own1 (tab n (parD par)), .sh (.int s), .own1 (queue.map dN), .sh (.int (head : Nat)), s12, s13, s14]) (2 * unl n (only s) + 1)
    (a3 := [s]) (a4 := 0) rfl ⟨Dfs.start hs, by simp, by simp; omega, rfl, rk₀, hF⟩ ?_
  clear hF hun
  intro m Sc cl par queue head s12 s13 s14 hI M hM
  obtain ⟨hd, hh, hql, em, hF⟩ := hI
  obtain ⟨rk, hF⟩ := hF
  (try simp only [zY, yv, List.getElem?_cons_succ, List.getElem?_cons_zero, z2, y9, z0, zo])
  rw [List.length_map]
  by_cases c : head < queue.length
  case neg =>
    refine ite_no (by simpa using c) ?_
    have e : queue.drop head = [] := List.drop_eq_nil_of_le (by omega)
    rw [e] at hd
    exact hQ cl par rk Sc _ _ _ _ _ (fun v => hd.done) hF
  refine ite_yes (by simpa using c) ?_
  clear hQ
  rw [List.drop_eq_getElem_cons c] at hd
  have hv := List.getElem?_eq_getElem c
  generalize queue[head] = v at hd hv
  have hSv : Sc v = true := hd.sub v List.mem_cons_self
  have hvn := (hd.inb v hSv).1
  have hd' := hd.pop
  (with_reducible refine t_cons ?_); (try simp only [yN, List.set_cons_succ, List.set_cons_zero, yj, List.getElem?_cons_succ, List.getElem?_cons_zero, y9, z0, z2])
  refine a_nat hv ?_
  skip
  (with_reducible refine t_seq ?_); (try simp only [yN, List.set_cons_succ, List.set_cons_zero, yo, yc, y9, List.getElem?_cons_succ, List.getElem?_cons_zero, z0, zg])
  (with_reducible refine t_seq ?_); (try simp only [yZ, yL, yi, y9, List.getElem?_cons_succ, List.getElem?_cons_zero, z0])
  refine a_adjP hvn ?_
  (try simp only [zB])
  refine ⟨by rw [List.length_map]; have := hal v; omega, ?_⟩
  refine forGo_F6 (fun i Sc' cl' par' (q' : List Nat) s13 s14 => Dfs n E s Sc' (q'.drop (head + 1)) (some v) ∧ Sc' v = true ∧ head + 1 ≤ q'.length ∧ (∀ j, j < i → ∀ (hj : j < (adj v).length), Sc' (adj v)[j].1 = true) ∧ q'.length + unl n Sc' = n ∧ unl n Sc' ≤ unl n Sc ∧ ∃ rk', Fst n E (visB n L s Sc') cl' par' rk')
    (fun i Sc' cl' par' q' s13 s14 => [.sh d0, .sh d1, .sh d2, .sh (.list ((adjP n adj).map .list)), s4, s5, s6, .own1 (tab n (colD (visB n L s Sc') cl')), .own1 (tab n (parD par')), .sh (.int s), .own1 (q'.map dN), .sh (.int ((head : Nat) + 1)), .sh (.int (v : Nat)), s13, s14])
    rfl ⟨hd', hSv, by omega, fun j hj => absurd hj (Nat.not_lt_zero _), hql, Nat.le_refl _, rk, hF⟩ ?_ ?_
  · clear hd' hSv hd hF hv
    intro i h Sc' cl' par' q' s13 s14 hI K hK _ _
    obtain ⟨hd2, hSv', hqh, hpre, hql', hul, hF'⟩ := hI
    obtain ⟨rk', hF'⟩ := hF'
    rw [List.length_map] at h
    have hj := (hadj v _).mp (List.getElem_mem h)
    have hpy := List.getElem?_eq_getElem h
    generalize hyk : (adj v)[i] = p at hj hpy
    have hyn := (hE.adj hj.adj).2
    have hVv : visB n L s Sc' v = true := by unfold visB; rw [hSv']; simp
    refine t_forE hpy ?_
    unfold stkD
    generalize hy : p.1 = y at hj hyn
    generalize p.2 = k at hj
    (try simp only [List.set_cons_succ, List.set_cons_zero])
    (with_reducible refine t_cons ?_); (try simp only [yN, List.set_cons_succ, List.set_cons_zero, yi, yc, y9, List.getElem?_cons_succ, List.getElem?_cons_zero, z0, ze])
    (with_reducible refine t_seq ?_); (try simp only [yX, x4, r_seq0, y2, yj, List.getElem?_cons_succ, List.getElem?_cons_zero, y9, z0, z2])
    refine a_tab hyn ?_
    skip
    have hcy : Conn E s y := .step (hd2.inb v hSv').2 hj.adj
    have hLy : L y = s := by rw [← hL.eq_of_conn hs hyn hcy, hr]
    have hVy : visB n L s Sc' y = Sc' y := by unfold visB; simp [hLy]
    by_cases hSy : Sc' y = true
    · refine ite_no (by unfold colD; rw [hVy, hSy]; simp [isNoneD]) ?_
      refine hK _ _ _ _ _ _ ⟨hd2, hSv', hqh, all_succ hpre fun _ => by rw [hyk, hy]; exact hSy, hql', hul, rk', hF'⟩
    · refine ite_yes (by unfold colD; rw [hVy, if_neg hSy]; simp [isNoneD]) ?_
      rw [Bool.not_eq_true] at hSy
      have e2 : colD (visB n L s Sc') cl' v = .int (cI (cl' v)) := by unfold colD; rw [hVv]; rfl
      have hu := unl_upd hyn hSy
      (with_reducible refine t_cons ?_); (try simp only [yU, List.getElem?_cons_succ, List.getElem?_cons_zero, List.set_cons_succ, List.set_cons_zero, y9, z0, z7, z2, yo, yj, yc])
      refine a_tab hvn ?_
      rw [e2]
      (try simp only [zi])
      refine s_tab hyn ?_
      rw [cI_not, colD_upd, visB_upd]
      (with_reducible refine t_seq ?_); (try simp only [yU, List.getElem?_cons_succ, List.getElem?_cons_zero, List.set_cons_succ, List.set_cons_zero, y9, z0, z7, z2, ye, yh, yg, yi, yc, zf])
      refine s_tab hyn ?_
      rw [parD_upd]
      (with_reducible refine t_seq ?_); (try simp only [yS, List.getElem?_cons_succ, List.getElem?_cons_zero, List.set_cons_succ, List.set_cons_zero, r_seq0, y9, z0, z4])
      rw [map_snoc]
      refine ⟨by rw [List.length_map]; omega, ?_⟩
      refine hK _ _ _ _ _ _ ⟨?_, by unfold upd; split; rfl; exact hSv', by simp; omega, all_succ (fun j hji hj' => by unfold upd; split; rfl; exact hpre j hji hj') (fun _ => by rw [hyk, hy, upd_same]), by simp; omega, by omega, upd rk' y (rk' v + 1), ?_⟩
      · rw [List.drop_append_of_le_length hqh]
        exact (hd2.push hSv' hj.adj hyn).perm (by intro a; simp [or_comm])
      · rw [← visB_upd]
        exact hF'.child hVv hyn (by rw [hVy]; exact hSy) hj.symm
  · intro Sc' cl' par' q' s13 s14 hI
    obtain ⟨hd2, hSv', hqh, hpre, hql', hul, hF'⟩ := hI
    obtain ⟨rk', hF'⟩ := hF'
    rw [List.length_map] at hpre
    (try simp only [r_seq0, zL])
    refine hM (2 * unl n Sc' + (q'.length - (head + 1))) Sc' cl' par' q' (head + 1) _ _ _ (by omega) ⟨hd2.close fun w hw => ?_, hqh, hql', rfl, rk', hF'⟩
    obtain ⟨k, hk⟩ := hw.joins
    obtain ⟨j, hj, e⟩ := List.getElem_of_mem ((hadj v (w, k)).mpr hk)
    have := hpre j hj hj
    rw [e] at this
    exact this
end
section
open PySem

/-- what two_colors tells -/
noncomputable def ColRes (n : Nat) (E : List Edge) (d : D) : Prop :=
  (∃ cl : Nat → Bool, (∀ x y, Adj E x y → cl x ≠ cl y) ∧ (∀ v, v < n → PW E (labOf n E v) v (cl v)) ∧ d = .tuple [.str sColors, .list (tab n fun v => .int (cI (cl v)))]) ∨
  (∃ a w P, a < n ∧ PW E a a true ∧ Circle E w P ∧ P.length ≤ 2001 ∧ d = .tuple [.str sOdd, .tuple [dN w, dNs P]])

theorem two_colors_ok (Φ : Funs) (Λ : Lends) (h13 : SpecOddC Φ) (n : Nat) (E : List Edge) (hn : n ≤ 1000) (hE : InV n E) (hl : E.length ≤ 1000) :
    wpSs Φ Λ b_two_colors [.sh (dG n E), .undef, .undef, .undef, .undef, .undef, .undef, .undef, .undef, .undef, .undef, .undef, .undef, .undef, .undef] (RetP (ColRes n E)) := by
  have hL := labOf_is hE
  have hei : ∀ k, k < E.length → E[k]? = some (edgeAt E k) ∧ (edgeAt E k).1 < n ∧ (edgeAt E k).2 < n := fun k hk => by
    have := hE _ (List.getElem_mem hk)
    rw [← edgeAt_eq hk] at this
    exact ⟨by rw [List.getElem?_eq_getElem hk, edgeAt_eq hk], this⟩
  generalize hLL : labOf n E = L at hL
  unfold b_two_colors dG dPs dN
  (with_reducible refine t_cons ?_); (try simp only [yN, List.set_cons_succ, List.set_cons_zero, yi, yc, y9, List.getElem?_cons_zero, z0, ze])
  (with_reducible refine t_seq ?_); (try simp only [yN, List.set_cons_succ, List.set_cons_zero, yi, yc, y9, List.getElem?_cons_zero, z0, zf])
  (with_reducible refine t_seq ?_); (try simp only [yP, List.set_cons_succ, List.set_cons_zero, y9, List.getElem?_cons_succ, List.getElem?_cons_zero, z0, z7])
  rw [Int.toNat_natCast, adjP_nil]
  refine ⟨by omega, ?_⟩
  (with_reducible refine t_seq ?_); (try simp only [yZ, yK, yu, y9, List.getElem?_cons_succ, List.getElem?_cons_zero, z0, zv])
  rw [List.length_map]
  refine m_range (by omega) ?_
  refine forGo_F4 (fun i adj s4 s5 s6 => AdjPOk E i adj) (fun i adj s4 s5 s6 => [.sh (.tuple [.int n, .list (E.map dP)]), .sh (.int n), .sh (.list (E.map dP)), .own2 (adjP n adj), s4, s5, s6, .undef, .undef, .undef, .undef, .undef, .undef, .undef, .undef])
    rfl AdjPOk.zero ?_ ?_
  · intro i h adj s4 s5 s6 ha K hK _ _
    rw [tab_len] at h
    obtain ⟨h1, h2, h3⟩ := hei i h
    generalize edgeAt E i = e at h1 h2 h3
    have hal := fun v => (ha v).1
    refine t_forR ?_
    (try simp only [List.set_cons_succ, List.set_cons_zero])
    (with_reducible refine t_cons ?_); (try simp only [yN, List.set_cons_succ, List.set_cons_zero, yi, yc, y9, List.getElem?_cons_succ, List.getElem?_cons_zero, z0])
    refine a_edge h1 ?_
    (try simp only [ze])
    (with_reducible refine t_seq ?_); (try simp only [yN, List.set_cons_succ, List.set_cons_zero, yi, yc, y9, List.getElem?_cons_succ, List.getElem?_cons_zero, z0])
    refine a_edge h1 ?_
    (try simp only [zf])
    (with_reducible refine t_seq ?_)
    refine t_app2 rfl rfl (tab_get? h2) ?_
    (try simp only [List.set_cons_succ, List.set_cons_zero, ye, yh, yg, y9, List.getElem?_cons_succ, List.getElem?_cons_zero, z0])
    rw [adjP_app]
    refine ⟨by rw [List.length_map]; have := hal e.1; omega, ?_⟩
    (with_reducible refine t_seq ?_)
    refine t_app2 rfl rfl (tab_get? h3) ?_
    (try simp only [List.set_cons_succ, List.set_cons_zero, r_seq0, ye, yh, yg, y9, List.getElem?_cons_succ, List.getElem?_cons_zero, z0])
    rw [adjP_app]
    refine ⟨?_, hK _ _ _ _ (ha.next h1)⟩
    have := hal e.1; have := hal e.2; rw [List.length_map]; unfold upd; split <;> simp <;> omega
  intro adj s4 s5 s6 ha
  rw [tab_len] at ha
  have hadj : ∀ v p, p ∈ adj v ↔ Joins E p.2 v p.1 := fun v p => by
    rw [(ha v).2]; exact ⟨fun q => q.2, fun q => ⟨q.lt, q⟩⟩
  have hal : ∀ v, (adj v).length ≤ 2000 := fun v => by have := (ha v).1; omega
  clear ha
  (with_reducible refine t_seq ?_); (try simp only [yQ, List.getElem?_cons_succ, List.getElem?_cons_zero, List.set_cons_succ, List.set_cons_zero, z9])
  (with_reducible refine t_seq ?_); (try simp only [yO, List.set_cons_succ, List.set_cons_zero, yo, y9, List.getElem?_cons_succ, List.getElem?_cons_zero, z0, yf, yh, yg, ya])
  refine m_rep (by omega) ?_
  (try simp only [z6])
  (with_reducible refine t_seq ?_); (try simp only [yO, List.set_cons_succ, List.set_cons_zero, yo, y9, List.getElem?_cons_succ, List.getElem?_cons_zero, z0, yf, yh, yg, ya])
  refine m_rep (by omega) ?_
  (try simp only [z6])
  (with_reducible refine t_seq ?_); (try simp only [yZ, yK, y9, List.getElem?_cons_succ, List.getElem?_cons_zero, z0])
  refine m_range (by omega) ?_
  refine forGo_F8 (fun s cl par s9 s10 s11 s12 s13 s14 => ∃ rk, Fst n E (visB n L s fun _ => false) cl par rk)
    (fun s cl par s9 s10 s11 s12 s13 s14 => [.sh (.tuple [.int n, .list (E.map dP)]), .sh (.int n), .sh (.list (E.map dP)), .sh (.list ((adjP n adj).map .list)), s4, s5, s6,
      .own1 (tab n (colD (visB n L s fun _ => false) cl)), .own1 (tab n (parD par)), s9, s10, s11, s12, s13, s14])
    (a0 := fun _ => false) (a1 := fun _ => none) (by
      rw [show tab n (colD (visB n L 0 fun _ => false) fun _ => false) = tab n fun _ => PyData.none from tab_congr fun i _ => by simp [colD, visB]]; rfl) ⟨fun _ => 0, Fst.start.congr fun v => by simp [visB]⟩ ?_ ?_
  · intro s h cl par s9 s10 s11 s12 s13 s14 hF K hK hC _
    obtain ⟨rk, hF⟩ := hF
    rw [tab_len] at h
    refine t_forR ?_
    (try simp only [List.set_cons_succ, List.set_cons_zero])
    (with_reducible refine t_cons ?_); (try simp only [yX, x4, y2, yj, List.getElem?_cons_succ, List.getElem?_cons_zero, y9, z0, z2])
    refine a_tab h ?_
    skip
    have hle := hL.le h
    by_cases hr : L s = s
    · have hVs : visB n L s (fun _ => false) s = false := by simp [visB, hr]
      refine ite_no (by unfold colD; rw [hVs]; simp [isNoneD]) ?_
      (with_reducible refine t_seq ?_); (try simp only [yU, List.getElem?_cons_succ, List.getElem?_cons_zero, List.set_cons_succ, List.set_cons_zero, y9, z0, z7, z2, yc])
      refine s_tab h ?_
      have e3 : upd (fun _ => false) s true = only s := by funext v; unfold upd only; by_cases e : v = s <;> simp [e]
      rw [show (PyData.int 0) = .int (cI false) from rfl, colD_upd, visB_upd, e3]
      have hF1 := hF.root h hVs fun u c => by rw [← hr]; exact (hL s h).2 u c
      rw [visB_upd, e3] at hF1
      clear hF hVs
      (with_reducible refine t_seq ?_); (try simp only [yO, List.set_cons_succ, List.set_cons_zero, yf, z6, yh, yg, y9, List.getElem?_cons_succ, List.getElem?_cons_zero, z0])
      (with_reducible refine t_seq ?_); (try simp only [yN, List.set_cons_succ, List.set_cons_zero, yc])
      (with_reducible refine t_seq ?_); (try simp only [yY])
      refine color_search (s12 := s12) (s13 := s13) (s14 := s14) Φ Λ hn hE hL hadj hal h hr hF1 fun cl' par' rk' Sc s10 s11 s12 s13 s14 hSc hF2 => ?_
      have e4 : visB n L s Sc = visB n L (s + 1) fun _ => false := by
        funext v
        unfold visB
        rw [Bool.eq_iff_iff]
        simp only [Bool.or_eq_true, decide_eq_true_eq, Bool.or_false, hSc]
        constructor
        · rintro (q | q)
          · exact ⟨q.1, by omega⟩
          · have hv := hE.conn q h
            have := hL.eq_of_conn h hv q
            exact ⟨hv, by omega⟩
        · rintro ⟨hv, q⟩
          by_cases c : L v < s
          · exact .inl ⟨hv, c⟩
          · exact .inr (hL.conn_of_eq h hv (by omega))
      rw [e4] at hF2 ⊢
      exact hK _ _ _ _ _ _ _ _ ⟨rk', hF2⟩
    · have hVs : visB n L s (fun _ => false) s = true := by simp [visB, h]; omega
      refine ite_yes (by unfold colD; rw [hVs]; simp [isNoneD]) ?_
      (with_reducible refine t_cons ?_); (try simp only [x3, zJ])
      have e4 : (visB n L s fun _ => false) = visB n L (s + 1) fun _ => false := by
        funext v
        unfold visB
        rw [Bool.eq_iff_iff]
        simp only [Bool.or_false, decide_eq_true_eq]
        constructor
        · rintro ⟨h1, h2⟩; exact ⟨h1, by omega⟩
        · rintro ⟨h1, h2⟩
          have hne : L v ≠ s := fun q => hr (by have := hL.idem h1; rw [q] at this; exact this)
          exact ⟨h1, by omega⟩
      rw [e4] at hF ⊢
      exact hC _ _ _ _ _ _ _ _ ⟨rk, hF⟩
  intro cl par s9 s10 s11 s12 s13 s14 hF
  obtain ⟨rk, hF⟩ := hF
  rw [tab_len] at hF ⊢
  have hVall : ∀ v, v < n → visB n L n (fun _ => false) v = true := fun v hv => by simp [visB, hv, hL.lt hv]
  have ecol : tab n (colD (visB n L n fun _ => false) cl) = tab n fun v => PyData.int (cI (cl v)) := tab_congr fun v hv => by unfold colD; rw [hVall v hv]; rfl
  have hpw : ∀ v, v < n → PW E (L v) v (cl v) := fun v hv => by
    obtain ⟨r, h1, h2⟩ := hF.pw (hVall v hv)
    have hrn := hE.conn' h1.conn hv
    have e5 : r = L v := by
      have a1 := h2 (L v) (hL v hv).1
      have a2 := (hL v hv).2 r h1.conn
      omega
    rw [← e5]; exact h1
  rw [ecol]
  (with_reducible refine t_seq ?_); (try simp only [yQ, List.getElem?_cons_succ, List.getElem?_cons_zero, List.set_cons_succ, List.set_cons_zero, z8])
  (with_reducible refine t_seq ?_); (try simp only [yZ, yK, yu, y9, List.getElem?_cons_succ, List.getElem?_cons_zero, z0, zv])
  rw [List.length_map]
  refine m_range (by omega) ?_
  generalize Slot.sh (.list ((adjP n adj).map .list)) = s3
  refine forGo_F3 (fun i s4 s5 s6 => ∀ k, k < i → cl (edgeAt E k).1 ≠ cl (edgeAt E k).2) (fun i s4 s5 s6 => [.sh (.tuple [.int n, .list (E.map dP)]), .sh (.int n), .sh (.list (E.map dP)), s3, s4, s5, s6,
    .own1 (tab n fun v => .int (cI (cl v))), .sh (.list (tab n (parD par))), s9, s10, s11, s12, s13, s14]) rfl (fun k hk => absurd hk (Nat.not_lt_zero _)) ?_ ?_
  · intro i h s4 s5 s6 hpre K hK _ hR
    rw [tab_len] at h
    obtain ⟨h1, h2, h3⟩ := hei i h
    refine t_forR ?_
    (try simp only [List.set_cons_succ, List.set_cons_zero])
    (with_reducible refine t_cons ?_); (try simp only [yN, List.set_cons_succ, List.set_cons_zero, yi, yc, y9, List.getElem?_cons_succ, List.getElem?_cons_zero, z0])
    refine a_edge h1 ?_
    (try simp only [ze])
    (with_reducible refine t_seq ?_); (try simp only [yN, List.set_cons_succ, List.set_cons_zero, yi, yc, y9, List.getElem?_cons_succ, List.getElem?_cons_zero, z0])
    refine a_edge h1 ?_
    (try simp only [zf])
    (with_reducible refine t_seq ?_); (try simp only [yX, x4, r_seq0, zY, yj, List.getElem?_cons_succ, List.getElem?_cons_zero, y9, z0, z2])
    refine a_tab h2 ?_
    refine a_tab h3 ?_
    (try simp only [zm])
    by_cases c : cl (edgeAt E i).1 = cl (edgeAt E i).2
    · refine ite_yes (by simp [c]) ?_
      have hj : Joins E i (edgeAt E i).1 (edgeAt E i).2 := .inl h1
      (with_reducible refine t_cons ?_); (try simp only [x0, zK, ye, yh, yg, yG, y9, List.getElem?_cons_succ, List.getElem?_cons_zero, z0, yd])
      refine h13 n _ _ i E _ cl par rk _ hn hF (hVall _ h2) (hVall _ h3) hj c fun w P hC hPl => ?_
      refine hR _ _ (.inr ⟨(edgeAt E i).1, w, P, h2, ?_, hC, hPl, rfl⟩)
      have p1 := hpw _ h2
      have p2 := hpw _ h3
      have hll : L (edgeAt E i).1 = L (edgeAt E i).2 := hL.eq_of_conn h2 h3 (.one hj.adj)
      rw [← hll, ← c] at p2
      have p3 := p1.symm.trans p2
      have e6 : (cl (edgeAt E i).1 != cl (edgeAt E i).1) = false := by simp
      rw [e6] at p3
      exact p3.step hj.symm.adj
    · refine ite_no (by simp [cI_inj, c]) ?_
      exact hK _ _ _ (all_succ hpre c)
  · intro s4 s5 s6 hpre
    rw [tab_len] at hpre
    (with_reducible refine t_seq ?_); (try simp only [yQ, List.getElem?_cons_succ, List.getElem?_cons_zero, List.set_cons_succ, List.set_cons_zero, z8])
    (with_reducible refine t_seq ?_); (try simp only [x0, zK, zO, ye, yh, yg, y9, List.getElem?_cons_succ, List.getElem?_cons_zero, z0, yd])
    refine .inl ⟨cl, fun x y hxy => ?_, fun v hv => by rw [hLL]; exact hpw v hv, rfl⟩
    obtain ⟨k, hk⟩ := hxy.joins
    have := hpre k hk.lt
    rcases joins_edge hk with e | e <;> rw [e] at this
    · exact this
    · exact fun q => this q.symm

noncomputable def SpecColors (Φ : Funs) : Prop := ∀ (n : Nat) (E : List Edge) (Q : D → Prop), n ≤ 1000 → InV n E → E.length ≤ 1000 → (∀ d, ColRes n E d → Q d) → Φ 14 [dG n E] Q

theorem eraseDups_nodup : ∀ (m : Nat) (l : List Int), l.length ≤ m → l.eraseDups.Nodup
  | _, [], _ => by simp
  | 0, _ :: _, h => by simp at h
  | m + 1, a :: l, h => by
    rw [List.eraseDups_cons, List.nodup_cons]
    refine ⟨fun q => ?_, eraseDups_nodup m _ ?_⟩
    · rw [List.mem_eraseDups, List.mem_filter] at q
      simp at q
    · have := List.length_filter_le (fun b => !b == a) l
      simp at h; omega
theorem eraseDups_len {l : List Int} {V : List Nat} (hn : V.Nodup) (h : ∀ x : Int, x ∈ l ↔ ∃ v ∈ V, x = (v : Int)) : l.eraseDups.length = V.length := by
  have hp : l.eraseDups.Perm (toI V) := by
    refine (List.perm_ext_iff_of_nodup (eraseDups_nodup _ l (Nat.le_refl _)) ?_).mpr fun x => ?_
    · unfold toI
      rw [List.nodup_iff_pairwise_ne, List.pairwise_map]
      exact hn.imp fun h q => h (by omega)
    · rw [List.mem_eraseDups, h]
      unfold toI
      rw [List.mem_map]
      exact ⟨fun ⟨v, h1, h2⟩ => ⟨v, h1, h2.symm⟩, fun ⟨v, h1, h2⟩ => ⟨v, h1, h2.symm⟩⟩
  rw [hp.length_eq, toI_len]

theorem colors_cases {n : Nat} {E : List Edge} {d : D} (hE : InV n E) (h : ColRes n E d) :
    ((List.range n).filter (fun v => decide (labOf (2 * n) (cover n E) v = labOf (2 * n) (cover n E) (v + n))) = [] ∧
      ∃ cl : Nat → Bool, (∀ v, v < n → (labOf (2 * n) (cover n E) v = labOf n E v ↔ cl v = false)) ∧ d = .tuple [.str sColors, .list (((List.range n).map fun v => cI (cl v)).map .int)]) ∨
    (0 < ((List.range n).filter (fun v => decide (labOf (2 * n) (cover n E) v = labOf (2 * n) (cover n E) (v + n)))).length ∧
      ∃ w P, Circle E w P ∧ d = .tuple [.str sOdd, .tuple [dN w, dNs P]]) := by
  have hL := labOf_is hE
  have hLC := labOf_is (cover_inV hE)
  have hpw0 := h
  unfold ColRes at h
  generalize labOf n E = L at hL h
  generalize labOf (2 * n) (cover n E) = f at hLC
  have hclash : ∀ v, v < n → (f v = f (v + n) ↔ PW E v v true) := fun v hv => by
    rw [hLC.eq_iff (by omega) (by omega)]
    have := cover_conn (n := n) hE hv hv false true
    simpa [lay] using this
  rcases h with ⟨cl, hprop, hpw, rfl⟩ | ⟨a, w, P, ha, hodd, hC, hPl, rfl⟩
  · refine .inl ⟨?_, cl, fun v hv => ?_, by rw [List.map_map]; rfl⟩
    · rw [List.filter_eq_nil_iff]
      intro v hv
      have hv' := List.mem_range.mp hv
      simp only [decide_eq_true_eq]
      intro q
      have := ((hclash v hv').mp q).color hprop
      cases hc : cl v <;> rw [hc] at this <;> cases this
    · have hlv := hL.lt hv
      have hroot : cl (L v) = false := by
        have h1 := hpw (L v) hlv
        rw [hL.idem hv] at h1
        have := h1.color hprop
        revert this; cases cl (L v) <;> simp
      have hcol := (hpw v hv).color hprop
      have hcc := cover_conn (n := n) hE hlv hv false false
      simp only [lay, Bool.false_eq_true, if_false, bne_self_eq_false] at hcc
      constructor
      · intro q
        have h1 := (hLC v (by omega)).1
        rw [q] at h1
        have := (hcc.mp h1).color hprop
        rw [this, hroot]; rfl
      · intro q
        have h1 := hpw v hv
        rw [q] at h1
        have h2 := (hLC v (by omega)).2 _ (hcc.mpr h1)
        have h3 := (hLC v (by omega)).1
        have hfn : f v < n := by omega
        have h4 := cover_conn (n := n) hE hfn hv false false
        simp only [lay, Bool.false_eq_true, if_false, bne_self_eq_false] at h4
        have h5 := (hL v hv).2 _ (h4.mp h3).conn
        omega
  · refine .inr ⟨List.length_pos_of_mem (a := a) ?_, w, P, hC, rfl⟩
    simp only [List.mem_filter, List.mem_range, decide_eq_true_eq]
    exact ⟨ha, (hclash a ha).mpr hodd⟩
theorem m_neCol {l : List Int} {R : Bool → Prop} (q : R false) : cmpD .ne (.tuple [.str sColors, .list (l.map .int)]) (.tuple [.str sColors, .list (l.map .int)]) R := by
  have hok : okD (.tuple [.str sColors, .list (l.map .int)]) = true := by
    have h1 := ok_dIs l
    have h2 := depth_dIs l
    have h3 : okD (.str sColors) = true := by decide +kernel
    unfold dIs at h1 h2
    simp only [okD, Bool.and_eq_true, decide_eq_true_eq] at h1 h3 ⊢
    refine ⟨by simp [PyData.canLay0, PyData.canLayAll0] at h1 h3 ⊢; exact ⟨h3.1, h1.1⟩, ?_⟩
    show max (PyData.depth (.str sColors)) (max (PyData.depth (.list _)) 0) + 1 ≤ 64
    have : PyData.depth (.str sColors) = 0 := rfl
    omega
  refine ⟨hok, hok, ?_⟩
  have h1 := (eqv_dIs l _).mpr rfl
  unfold dIs at h1
  have h2 : PyData.eqv (.tuple [.str sColors, .list (l.map .int)]) (.tuple [.str sColors, .list (l.map .int)]) = true := by
    simp only [eqv_ii, eqv_ll, eqv_tt, eqv_bb, eqv_ss, eqvA_nil, eqvA_cons, eqvA_nc, eqvA_cn] at h1 ⊢
    rw [h1]; simp
  rw [h2]; exact q
theorem toI_dups {P : List Nat} (h : P.Nodup) : (toI P).eraseDups.length = P.length :=
  eraseDups_len h fun x => by unfold toI; rw [List.mem_map]; exact ⟨fun ⟨v, h1, h2⟩ => ⟨v, h1, h2.symm⟩, fun ⟨v, h1, h2⟩ => ⟨v, h1, h2.symm⟩⟩
theorem ends_dups {E : List Edge} {w : Nat} {P : List Nat} (hC : Circle E w P) : (P.flatMap fun k => [((edgeAt E k).1 : Int), ((edgeAt E k).2 : Int)]).eraseDups.length = P.length := by
  obtain ⟨V, hVn, hVlen, hVm⟩ := hC.vs
  rw [← hVlen]
  refine eraseDups_len hVn fun x => ?_
  rw [List.mem_flatMap]
  constructor
  · rintro ⟨k, hk, hx⟩
    simp at hx
    rcases hx with rfl | rfl
    · exact ⟨_, (hVm _).mpr ⟨k, hk, .inl rfl⟩, rfl⟩
    · exact ⟨_, (hVm _).mpr ⟨k, hk, .inr rfl⟩, rfl⟩
  · rintro ⟨v, hv, rfl⟩
    obtain ⟨k, hk, e⟩ := (hVm v).mp hv
    exact ⟨k, hk, by rcases e with rfl | rfl <;> simp⟩

theorem law_colors_ok (Φ : Funs) (Λ : Lends) (h14 : SpecColors Φ) (h16 : SpecLabels Φ) (h22 : SpecCircuit Φ) (h15 : SpecInts Φ) (n : Nat) (E : List Edge) (hn : n ≤ 20) (hE : InV n E) (hl : E.length < 30) :
    wpSs Φ Λ b_law_colors [.sh (dN n), .sh (dPs E), .sh (dNs (tab n (labOf n E))), .undef, .undef, .undef, .undef, .undef, .undef, .undef, .undef, .undef, .undef, .undef, .undef, .undef] (RetP fun d => d = .bool true) := by
  have hCV := cover_inV hE
  have hcl : (cover n E).length ≤ 1000 := by unfold cover; simp; omega
  have e1 : E.map (fun e => dP (e.1, e.2 + n)) ++ E.map (fun e => dP (e.1 + n, e.2)) = (cover n E).map dP := by
    unfold cover; rw [List.map_append, List.map_map, List.map_map]; rfl
  have e2 : (PyData.int (2 * (n : Int))) = dN (2 * n) := by unfold dN; congr 1
  unfold b_law_colors dPs dN
  (with_reducible refine t_cons ?_); (try simp only [yN, List.set_cons_succ, List.set_cons_zero, yG, yh, yg, yo, yH, yL, y9, List.getElem?_cons_succ, List.getElem?_cons_zero, z0, zB, zh, yc, zj])
  rw [List.length_map]
  refine ⟨by omega, by omega, by omega, by omega, by omega, ?_⟩
  refine compGo_enc dP (fun e => dP (e.1, e.2 + n)) (fun e he K hK => ⟨rfl, hK⟩) ?_
  refine ⟨by omega, ?_⟩
  refine compGo_enc dP (fun e => dP (e.1 + n, e.2)) (fun e he K hK => ⟨rfl, hK⟩) ?_
  skip
  rw [e1, e2]
  refine ⟨by rw [List.length_map, List.length_map]; omega, ?_⟩
  refine h16 (2 * n) (cover n E) _ _ (by omega) hCV hcl (labOf_is hCV) ?_
  clear hCV hcl e1 e2
  have hcs := fun d => colors_cases (d := d) hE
  generalize labOf (2 * n) (cover n E) = f at hcs ⊢
  (with_reducible refine t_seq ?_); (try simp only [yN, List.set_cons_succ, List.set_cons_zero, yH, yK, y9, List.getElem?_cons_zero, z0])
  refine m_range (by omega) ?_
  refine compGo_encF (l := List.range n) dN (fun v => decide (f v = f (v + n))) dN (fun v hv K hK => ?_) ?_
  · have hv' := List.mem_range.mp hv
    unfold compB dNs dN
    (try simp only [y9, zY, yi, yo, zE, List.set_cons_succ, List.set_cons_zero, List.getElem?_cons_succ, List.getElem?_cons_zero, z0, zg])
    refine a_nat (tab_get? (by omega)) ?_
    refine a_get (d := dN (f (v + n))) (v + n) (by omega) (by rw [List.getElem?_map, tab_get? (by omega : v + n < 2 * n)]; rfl) ?_
    unfold dN
    (try simp only [zm])
    by_cases c : f v = f (v + n)
    · rw [if_pos (by simpa using c)] at hK
      exact ite_yes (by simp [c]) hK
    · rw [if_neg (by simpa using c)] at hK
      exact ite_no (by simp; omega) hK
  (with_reducible refine t_seq ?_); (try simp only [yN, List.set_cons_succ, List.set_cons_zero, yG, yh, yg, ye, y9, List.getElem?_cons_succ, List.getElem?_cons_zero, z0])
  refine h14 n E _ (by omega) hE (by omega) fun d hd => ?_
  replace hd := hcs d hd
  clear hcs
  have hlt : ∀ k, k < E.length → E[k]? = some (edgeAt E k) := fun k hk => by rw [List.getElem?_eq_getElem hk, edgeAt_eq hk]
  clear hE
  generalize labOf n E = L at hd ⊢
  generalize (List.range n).filter (fun v => decide (f v = f (v + n))) = clash at hd ⊢
  rcases hd with ⟨hno, cl, hcov, rfl⟩ | ⟨hno, w, P, hC, rfl⟩
  · (with_reducible refine t_seq ?_); (try simp only [yX, x4, y6, y3, y9, List.getElem?_cons_succ, List.getElem?_cons_zero, z0])
    refine ite_no (by simp [tyIs]) ?_
    (with_reducible refine t_seq ?_); (try simp only [yX, x4, zY, yc, yu, y9, List.getElem?_cons_succ, List.getElem?_cons_zero, z0, zv, zm])
    refine ite_yes (by rw [hno]; simp) ?_
    (with_reducible refine t_cons ?_); (try simp only [yX, x4, zY, ye, yh, yg, yH, yK, y9, List.getElem?_cons_zero, z0, yd, List.getElem?_cons_succ])
    refine m_range (by omega) ?_
    refine compGo_enc (l := List.range n) dN (fun v => .int (cI (cl v))) (fun v hv K hK => ?_) ?_
    · have hv' := List.mem_range.mp hv
      unfold compB dNs
      (try simp only [yt, yc, zY, yi, y9, y5, zE, List.set_cons_succ, List.set_cons_zero, List.getElem?_cons_succ, List.getElem?_cons_zero, z0])
      refine ite_yes trivial ?_
      refine a_nat (tab_get? (by omega)) ?_
      refine a_nat (tab_get? (by omega)) ?_
      (try simp only [zm])
      by_cases c : f v = L v
      · rw [(hcov v hv').mp c] at hK
        exact ite_yes (by simp [c]) hK
      · have : cl v = true := by
          have h1 : ¬ cl v = false := fun q => c ((hcov v hv').mpr q)
          revert h1; cases cl v <;> simp
        rw [this] at hK
        exact ite_no (by simp; omega) hK
    · rw [show (List.range n).map (fun v => PyData.int (cI (cl v))) = ((List.range n).map fun v => cI (cl v)).map .int by rw [List.map_map]; rfl]
      refine m_neCol ?_
      refine ite_no Bool.false_ne_true ?_
      (with_reducible refine t_seq ?_); (try simp only [x0, zK, zO, yG, yh, yg, yi, yc, y9, List.getElem?_cons_succ, List.getElem?_cons_zero, z0, zf])
      exact h15 _ _ (by simp; omega) rfl
  · (with_reducible refine t_seq ?_); (try simp only [yX, x4, y6, y3, y9, List.getElem?_cons_succ, List.getElem?_cons_zero, z0])
    refine ite_no (by simp [tyIs]) ?_
    (with_reducible refine t_seq ?_); (try simp only [yX, x4, zY, yc, yu, y9, List.getElem?_cons_succ, List.getElem?_cons_zero, z0, zv, zm])
    refine ite_no (by rw [List.length_map]; rw [decide_eq_true_eq]; omega) ?_
    have hPE : P.length ≤ E.length := nodup_length_le hC.nd hC.wk.lt
    have hodd := hC.odd
    (with_reducible refine t_seq ?_); (try simp only [yX, x4, zY, yd, yi, yc, y9, List.getElem?_cons_succ, List.getElem?_cons_zero, z0, ze])
    refine m_neS (by decide +kernel) ?_
    refine ite_no Bool.false_ne_true ?_
    (with_reducible refine t_seq ?_); (try simp only [yR, zF, yi, yc, y9, List.getElem?_cons_succ, List.getElem?_cons_zero, z0, zf, zD, zH, List.set_cons_succ, List.set_cons_zero, zG])
    refine ⟨rfl, ?_⟩
    (with_reducible refine t_seq ?_); (try simp only [yX, x4, y6, y4, yh, yg, y9, List.getElem?_cons_succ, List.getElem?_cons_zero, z0])
    refine h22 E w P _ (by omega) hC.wk ?_
    (try simp only [zu])
    refine ite_no (by simp) ?_
    unfold dNs
    (with_reducible refine t_seq ?_); (try simp only [yX, x4, y8, zY, yu, y9, List.getElem?_cons_succ, List.getElem?_cons_zero, z0, zv, yD, yc, yo, zl, zn])
    rw [List.length_map]
    refine ⟨by omega, ?_⟩
    refine ite_no (by simp; omega) ?_
    refine ⟨toI P, dNs_toI P, by rw [toI_len]; omega, ?_⟩
    rw [toI_dups hC.nd]
    (try simp only [zn])
    refine ite_no (by simp) ?_
    (with_reducible refine t_seq ?_); (try simp only [x0, zK, zO, yp, yu, y9, List.getElem?_cons_succ, List.getElem?_cons_zero, z0, zv, yD, yI, yL, zB])
    refine ⟨by rw [List.length_map]; omega, by rw [List.length_map]; omega, ?_⟩
    refine compGo2_enc dN (fun k => [dN (edgeAt E k).1, dN (edgeAt E k).2]) (fun k hk K hK => ?_) ?_
    · unfold compB2
      (try simp only [List.set_cons_succ, List.set_cons_zero, y9, List.getElem?_cons_succ, List.getElem?_cons_zero, z0, yL, yi])
      refine a_edge (hlt k (hC.wk.lt k hk)) ?_
      (try simp only [zC])
      refine ⟨by simp, by simp, ?_⟩
      exact hK
    · have hVV : P.flatMap (fun k => [dN (edgeAt E k).1, dN (edgeAt E k).2]) = (P.flatMap fun k => [((edgeAt E k).1 : Int), ((edgeAt E k).2 : Int)]).map .int := by
        rw [List.map_flatMap]; rfl
      have hVl : ∀ l : List Nat, (l.flatMap fun k => [((edgeAt E k).1 : Int), ((edgeAt E k).2 : Int)]).length = 2 * l.length := by
        intro l
        induction l with
        | nil => rfl
        | cons a l ih => rw [List.flatMap_cons, List.length_append, ih]; simp; omega
      rw [hVV]
      refine ⟨_, rfl, by rw [hVl]; omega, ?_⟩
      rw [ends_dups hC]
      (try simp only [zm])
      simp
end
section
open PySem

/-- a net with prices -/
structure Net (n : Nat) (E : List Edge) (ws : List Int) (m : Nat) : Prop where
  inV : InV n E
  len : ws.length = E.length
  le : E.length ≤ m

theorem dP_mod {n : Nat} (hn : 0 < n) (x y : Int) : PyData.tuple [.int (x % n), .int (y % n)] = dP ((x % n).toNat, (y % n).toNat) := by
  unfold dP
  have h1 := Int.emod_nonneg x (b := (n : Int)) (by omega)
  have h2 := Int.emod_nonneg y (b := (n : Int)) (by omega)
  congr 1
  dsimp only
  rw [Int.toNat_of_nonneg h1, Int.toNat_of_nonneg h2]

section
variable {α : Type} {g : α → D} {l l' : List α} {k : Nat} {i : Int} {Q : D → Prop}
theorem m_add (h : l.length + l'.length ≤ 1000000) (q : Q (.list ((l ++ l').map g))) : binD .add (.list (l.map g)) (.list (l'.map g)) Q := by
  rw [zh, List.length_map, List.length_map, ← List.map_append]; exact ⟨h, q⟩
theorem m_take (hk : k ≤ 1000000) (hl : l.length ≤ 1000000) (q : Q (.list ((l.take k).map g))) : sliceToD (.list (l.map g)) (.int k) Q := by
  rw [zR, List.length_map, Int.toNat_natCast, ← List.map_take]; exact ⟨by omega, by omega, hl, q⟩
theorem m_drop (k : Nat) (hi : i = k) (hk : k ≤ 1000000) (hl : l.length ≤ 1000000) (q : Q (.list ((l.drop k).map g))) : sliceFromD (.list (l.map g)) (.int i) Q := by
  subst hi
  rw [zS, List.length_map, Int.toNat_natCast, ← List.map_drop]; exact ⟨by omega, by omega, hl, q⟩
theorem m_mid (j : Nat) (hi : i = j) (hk : k ≤ 1000000) (hj : j ≤ 1000000) (hl : l.length ≤ 1000000) (q : Q (.list (((l.take j).drop k).map g))) : sliceBothD (.list (l.map g)) (.int k) (.int i) Q := by
  subst hi
  rw [zT, List.length_map, Int.toNat_natCast, Int.toNat_natCast, ← List.map_take, ← List.map_drop]; exact ⟨by omega, by omega, by omega, by omega, hl, q⟩
theorem len_td (h : l.length ≤ 100) (k j : Nat) : (l.take k).length + (l.drop j).length ≤ 1000000 :=
  Nat.le_trans (Nat.add_le_add (List.length_take_le' k l) (by rw [List.length_drop]; exact Nat.sub_le _ _)) (by omega)
end
section
variable {n m : Nat} {E : List Edge} {ws : List Int}
theorem Net.keep (h : Net n E ws m) : Net n E ws (m + 1) := ⟨h.inV, h.len, Nat.le_succ_of_le h.le⟩
theorem Net.add (h : Net n E ws m) (hn : 0 < n) (x y w : Int) : Net n (E ++ [((x % n).toNat, (y % n).toNat)]) (ws ++ [w]) (m + 1) := by
  obtain ⟨hE, hw, hl⟩ := h
  have hx1 := Int.emod_nonneg x (b := (n : Int)) (by omega)
  have hx2 := Int.emod_lt_of_pos x (b := (n : Int)) (by omega)
  have hy1 := Int.emod_nonneg y (b := (n : Int)) (by omega)
  have hy2 := Int.emod_lt_of_pos y (b := (n : Int)) (by omega)
  refine ⟨fun e he => ?_, by simp; omega, by simp; omega⟩
  rcases List.mem_append.mp he with q | q
  · exact hE e q
  · rw [List.mem_singleton.mp q]; dsimp only; omega
theorem Net.del (h : Net n E ws m) (k : Nat) : Net n (E.take k ++ E.drop (k + 1)) (ws.take k ++ ws.drop (k + 1)) (m + 1) := by
  obtain ⟨hE, hw, hl⟩ := h
  have h1 : (E.drop (k + 1)).length ≤ (E.drop k).length := by rw [List.length_drop, List.length_drop]; omega
  have h2 : (E.take k).length + (E.drop k).length = E.length := by rw [← List.length_append, List.take_append_drop]
  refine ⟨fun e he => ?_, by rw [List.length_append, List.length_append, List.length_take, List.length_take, List.length_drop, List.length_drop, hw], by rw [List.length_append]; omega⟩
  rcases List.mem_append.mp he with q | q
  · exact hE e (List.mem_of_mem_take q)
  · exact hE e (List.mem_of_mem_drop q)
theorem price_len (k : Nat) (w : Int) : (ws.take k ++ ((ws.take (k + 1)).drop k).map (fun _ => w) ++ ws.drop (k + 1)).length = ws.length := by
  rw [List.length_append, List.length_append, List.length_map, show ws.take k = (ws.take (k + 1)).take k by rw [List.take_take, Nat.min_eq_left (Nat.le_succ k)],
    ← List.length_append, List.take_append_drop, ← List.length_append, List.take_append_drop]
theorem Net.price (h : Net n E ws m) (k : Nat) (w : Int) : Net n E (ws.take k ++ ((ws.take (k + 1)).drop k).map (fun _ => w) ++ ws.drop (k + 1)) (m + 1) := by
  obtain ⟨hE, hw, hl⟩ := h
  exact ⟨hE, by rw [price_len]; exact hw, by omega⟩
end
theorem mod_nat (x : Int) (n : Nat) : ∃ k : Nat, x % ((n : Int) + 1) = k ∧ k ≤ n := by
  have h1 := Int.emod_nonneg x (b := ((n : Int) + 1)) (by omega)
  have h2 := Int.emod_lt_of_pos x (b := ((n : Int) + 1)) (by omega)
  exact ⟨(x % ((n : Int) + 1)).toNat, by omega, by omega⟩

theorem law_step_ok (Φ : Funs) (Λ : Lends) (n m : Nat) (E : List Edge) (ws plan : List Int) (kind x y w : Int) (hn0 : 0 < n) (hN : Net n E ws m) (hm : m ≤ 100) (hpl : plan.length ≤ 100) :
    wpSs Φ Λ b_law_step [.sh (dN n), .sh (dPs E), .sh (dIs ws), .sh (dIs plan), .sh (.int kind), .sh (.int x), .sh (.int y), .sh (.int w), .undef, .undef, .undef]
      (RetP fun d => ∃ E' ws' plan', Net n E' ws' (m + 1) ∧ plan'.length ≤ plan.length + 1 ∧ d = .tuple [dPs E', dIs ws', dIs plan']) := by
  have hEl : E.length ≤ 100 := Nat.le_trans hN.le hm
  have hwl : ws.length ≤ 100 := hN.len ▸ hEl
  obtain ⟨k, hk, hkl⟩ := mod_nat x E.length
  obtain ⟨j, hj, hjl⟩ := mod_nat x plan.length
  obtain ⟨z, hz, hzl⟩ := mod_nat w 2
  have hk6 : k ≤ 1000000 := by omega
  have hk7 : k + 1 ≤ 1000000 := by omega
  have hE6 : E.length ≤ 1000000 := by omega
  have hw6 : ws.length ≤ 1000000 := by omega
  have hp6 : plan.length ≤ 1000000 := by omega
  unfold b_law_step dPs dIs dN
  (with_reducible refine t_cons ?_); (try simp only [yN, List.set_cons_succ, List.set_cons_zero, yo, yc, yu, y9, List.getElem?_cons_succ, List.getElem?_cons_zero, z0, zv, zg, zl])
  rw [List.length_map, hk]
  refine ⟨by omega, ?_⟩
  (with_reducible refine t_seq ?_); (try simp only [yN, List.set_cons_succ, List.set_cons_zero, yo, yc, yu, y9, List.getElem?_cons_succ, List.getElem?_cons_zero, z0, zv, zg, zl])
  rw [List.length_map, hj]
  refine ⟨by omega, ?_⟩
  generalize hR : (fun d : D => ∃ (E' : List Edge) (ws' plan' : List Int), Net n E' ws' (m + 1) ∧ plan'.length ≤ plan.length + 1 ∧ d = .tuple [.list (E'.map dP), .list (ws'.map .int), .list (plan'.map .int)]) = R
  have hR : ∀ (E' : List Edge) (ws' plan' : List Int), Net n E' ws' (m + 1) → plan'.length ≤ plan.length + 1 → R (.tuple [.list (E'.map dP), .list (ws'.map .int), .list (plan'.map .int)]) := fun E' ws' plan' h1 h2 => by
    rw [← hR]; exact ⟨E', ws', plan', h1, h2, rfl⟩
  have hpl1 : plan.length ≤ plan.length + 1 := Nat.le_succ _
  by_cases c0 : kind = 0
  · (with_reducible refine t_seq ?_); (try simp only [yX, x4, zY, yc, y9, List.getElem?_cons_succ, List.getElem?_cons_zero, z0, zm])
    refine ite_yes (by simp [c0]) ?_
    (with_reducible refine t_cons ?_); (try simp only [x0, zK, zO, ye, yh, yg, y9, List.getElem?_cons_succ, List.getElem?_cons_zero, z0, yo, yf, zh, zl])
    rw [dP_mod hn0]
    refine ⟨by omega, by omega, by simp; omega, by simp; omega, ?_⟩
    have := hR _ _ plan (hN.add hn0 x y w) hpl1
    rw [List.map_append, List.map_append] at this
    exact this
  (with_reducible refine t_seq ?_); (try simp only [yX, x4, zY, yc, y9, List.getElem?_cons_succ, List.getElem?_cons_zero, z0, zm])
  refine ite_no (by simp [c0]) ?_
  by_cases c1 : kind = 1
  · (with_reducible refine t_seq ?_); (try simp only [yX, x4, zY, yc, y9, List.getElem?_cons_succ, List.getElem?_cons_zero, z0, zm])
    refine ite_yes (by simp [c1]) ?_
    (with_reducible refine t_cons ?_)
    (try simp only [x0, zK, zO, ye, yh, yg, y9, List.getElem?_cons_succ, List.getElem?_cons_zero, z0, yo, yl, yc, zg, yk])
    refine m_take hk6 hE6 (m_drop (k + 1) rfl hk7 hE6 (m_add (len_td hEl k (k + 1)) ?_))
    refine m_take hk6 hw6 (m_drop (k + 1) rfl hk7 hw6 (m_add (len_td hwl k (k + 1)) ?_))
    exact hR _ _ plan (hN.del k) hpl1
  (with_reducible refine t_seq ?_); (try simp only [yX, x4, zY, yc, y9, List.getElem?_cons_succ, List.getElem?_cons_zero, z0, zm])
  refine ite_no (by simp [c1]) ?_
  by_cases c2 : kind = 2
  · (with_reducible refine t_seq ?_); (try simp only [yX, x4, zY, yc, y9, List.getElem?_cons_succ, List.getElem?_cons_zero, z0, zm])
    refine ite_yes (by simp [c2]) ?_
    (with_reducible refine t_cons ?_)
    (try simp only [x0, zK, zO, ye, yh, yg, y9, List.getElem?_cons_succ, List.getElem?_cons_zero, z0, yo, yl, yc, zg, yH, yL, ym, yk])
    refine m_take hk6 hw6 (m_mid (k + 1) rfl hk6 hk7 hw6 ?_)
    (try simp only [zB])
    have hml : ((ws.take (k + 1)).drop k).length ≤ 100 := by simp; omega
    refine ⟨by rw [List.length_map]; omega, ?_⟩
    refine compGo_enc PyData.int (fun _ => .int (w % 3 - 1)) (fun p hp K hK => ⟨by decide, hK⟩) ?_
    rw [show ((ws.take (k + 1)).drop k).map (fun _ => PyData.int (w % 3 - 1)) = (((ws.take (k + 1)).drop k).map (fun _ => w % 3 - 1)).map .int by rw [List.map_map]; rfl]
    refine m_add (by rw [List.length_map]; have := List.length_take_le' k ws; omega) ?_
    skip
    refine m_drop (k + 1) rfl hk7 hw6 (m_add ?_ ?_)
    · rw [← List.length_append, price_len]; exact hw6
    · exact hR _ _ plan (hN.price k _) hpl1
  (with_reducible refine t_seq ?_); (try simp only [yX, x4, zY, yc, y9, List.getElem?_cons_succ, List.getElem?_cons_zero, z0, zm])
  refine ite_no (by simp [c2]) ?_
  by_cases c3 : kind = 3
  · (with_reducible refine t_seq ?_); (try simp only [yX, x4, zY, yc, y9, List.getElem?_cons_succ, List.getElem?_cons_zero, z0, zm])
    refine ite_yes (by simp [c3]) ?_
    (with_reducible refine t_cons ?_)
    (try simp only [x0, zK, zO, ye, yh, yg, yo, yl, yc, y9, List.getElem?_cons_succ, List.getElem?_cons_zero, z0, zl, zg, yf, yu, zv, zi, yk])
    refine m_take (by omega) hp6 ?_
    rw [List.length_map]
    refine ⟨by omega, ?_⟩
    refine m_add (l' := [_]) (by rw [List.length_take]; simp; omega) ?_
    skip
    refine ⟨by decide, ?_⟩
    refine m_drop (j + z) (by have : w % 3 = z := hz; omega) (by omega) hp6 (m_add ?_ ?_)
    · rw [List.length_append, List.length_take, List.length_drop]; simp; omega
    · exact hR _ _ _ hN.keep (by simp; omega)
  (with_reducible refine t_seq ?_); (try simp only [yX, x4, zY, yc, y9, List.getElem?_cons_succ, List.getElem?_cons_zero, z0, zm])
  refine ite_no (by simp [c3]) ?_
  (with_reducible refine t_seq ?_); (try simp only [x0, zK, zO, ye, yh, yg, yn, y9, List.getElem?_cons_succ, List.getElem?_cons_zero, z0, zU])
  refine ⟨by rw [List.length_map]; omega, ?_⟩
  rw [← List.map_reverse]
  exact hR _ _ plan.reverse hN.keep (by rw [List.length_reverse]; omega)

noncomputable def SpecStep (Φ : Funs) : Prop := ∀ (n m : Nat) (E : List Edge) (ws plan : List Int) (kind x y w : Int) (Q : D → Prop), 0 < n → Net n E ws m → m ≤ 100 → plan.length ≤ 100 →
  (∀ E' ws' plan', Net n E' ws' (m + 1) → plan'.length ≤ plan.length + 1 → Q (.tuple [dPs E', dIs ws', dIs plan'])) → Φ 19 [dN n, dPs E, dIs ws, dIs plan, .int kind, .int x, .int y, .int w] Q
noncomputable def SpecPlans (Φ : Funs) : Prop := ∀ (n : Nat) (E : List Edge) (ws plan : List Int) (Q : D → Prop), 0 < n → n ≤ 1000 → InV n E → E.length < 64 → ws.length = E.length → plan.length ≤ 1000 → Q (.bool true) → Φ 20 [dN n, dPs E, dIs ws, dIs plan] Q
noncomputable def SpecGroups (Φ : Funs) : Prop := ∀ (n : Nat) (E : List Edge) (Q : D → Prop), n ≤ 20 → InV n E → E.length < 64 → Q (.bool true) → Φ 21 [dN n, dPs E, dNs (tab n (labOf n E))] Q
noncomputable def SpecLColors (Φ : Funs) : Prop := ∀ (n : Nat) (E : List Edge) (Q : D → Prop), n ≤ 20 → InV n E → E.length < 30 → Q (.bool true) → Φ 23 [dN n, dPs E, dNs (tab n (labOf n E))] Q
noncomputable def SpecLTrip (Φ : Funs) : Prop := ∀ (n : Nat) (E : List Edge) (Q : D → Prop), n ≤ 20 → InV n E → E.length < 30 → Q (.bool true) → Φ 24 [dN n, dPs E, dNs (tab n (labOf n E))] Q

noncomputable def turnD (t : Int × Int × Int × Int) : D := .tuple [.int t.1, .int t.2.1, .int t.2.2.1, .int t.2.2.2]

set_option maxRecDepth 100000 in
theorem law_ok (Φ : Funs) (Λ : Lends) (h9 : SpecForest Φ) (h17 : SpecBest Φ) (h19 : SpecStep Φ) (h20 : SpecPlans Φ) (h16 : SpecLabels Φ) (h21 : SpecGroups Φ) (h23 : SpecLColors Φ) (h24 : SpecLTrip Φ) (ns : List Int) :
    wpSs Φ Λ b_law [.sh (dIs ns), .undef, .undef, .undef, .undef, .undef, .undef, .undef, .undef, .undef, .undef, .undef, .undef, .undef, .undef, .undef, .undef] (RetP fun d => d = .bool true) := by
  unfold b_law dIs
  (with_reducible refine t_cons ?_); (try simp only [yX, x4, zY, yc, yu, y9, List.getElem?_cons_zero, z0, zv, zo])
  rw [List.length_map]
  by_cases c0 : ns.length < 22
  · refine ite_yes (by simp; omega) ?_
    (with_reducible refine t_cons ?_); (try simp only [x0, zK, zO, yb])
  refine ite_no (by simp; omega) ?_
  have hlen : 22 ≤ ns.length := by omega
  have hg : ∀ (i : Nat) (h : i < (ns.map PyData.int).length), (ns.map PyData.int)[i] = .int (ns.getD i 0) := fun i h => by
    have : i < ns.length := by simpa using h
    simp [this]
  have hi : ∀ (i : Nat) (Q : D → Prop), i < 22 → Q (.int (ns.getD i 0)) → itemD (.list (ns.map .int)) (.int (i : Nat)) Q := fun i Q h hq => by
    rw [zd]
    refine ⟨by omega, by simp; omega, ?_⟩
    rw [hg]
    exact hq
  generalize ha : (fun i => ns.getD i 0) = a at hi
  have hi' : ∀ (i : Nat) (Q : D → Prop), i < 22 → Q (.int (a i)) → itemD (.list (ns.map .int)) (.int (i : Nat)) Q := fun i Q h hq => hi i Q h (by rw [← ha] at hq; exact hq)
  clear hi hg
  generalize PyData.list (ns.map PyData.int) = sc at hi'
  (with_reducible refine t_seq ?_); (try simp only [yN, List.set_cons_succ, List.set_cons_zero, yo, yc, yi, y9, List.getElem?_cons_zero, z0])
  refine hi' 0 _ (by omega) ?_
  (try simp only [zl, zg])
  refine ⟨by omega, ?_⟩
  have hn1 := Int.emod_nonneg (a 0) (b := 5) (by omega)
  have hn2 := Int.emod_lt_of_pos (a 0) (b := 5) (by omega)
  generalize hn' : 1 + a 0 % 5 = nn
  obtain ⟨n, rfl⟩ := Int.eq_ofNat_of_zero_le (by omega : 0 ≤ nn)
  have hn0 : 0 < n := by omega
  have hn5 : n ≤ 5 := by omega
  (with_reducible refine t_seq ?_); (try simp only [yN, List.set_cons_succ, List.set_cons_zero, yf, yh, yg, ye, yi, yc, y9, List.getElem?_cons_zero, z0])
  refine hi' 2 _ (by omega) (hi' 3 _ (by omega) (hi' 4 _ (by omega) (hi' 5 _ (by omega) (hi' 6 _ (by omega) (hi' 7 _ (by omega) (hi' 8 _ (by omega) (hi' 9 _ (by omega) ?_)))))))
  (with_reducible refine t_seq ?_); (try simp only [yN, List.set_cons_succ, List.set_cons_zero, yk, yo, yc, yi, y9, List.getElem?_cons_zero, z0, List.getElem?_cons_succ])
  refine hi' 1 _ (by omega) ?_
  have ho1 := Int.emod_nonneg (a 1) (b := 5) (by omega)
  have ho2 := Int.emod_lt_of_pos (a 1) (b := 5) (by omega)
  (try simp only [zl, zR])
  refine ⟨by omega, by omega, by omega, by simp, ?_⟩
  have hops : (List.take (a 1 % 5).toNat [PyData.tuple [.int (a 2), .int (a 3)], PyData.tuple [.int (a 4), .int (a 5)], PyData.tuple [.int (a 6), .int (a 7)], PyData.tuple [.int (a 8), .int (a 9)]]) =
      (List.take (a 1 % 5).toNat [(a 2, a 3), (a 4, a 5), (a 6, a 7), (a 8, a 9)]).map encP := by
    rw [List.map_take]; rfl
  rw [hops]
  have hopl : (List.take (a 1 % 5).toNat [(a 2, a 3), (a 4, a 5), (a 6, a 7), (a 8, a 9)]).length ≤ 4 := by simp; omega
  generalize List.take (a 1 % 5).toNat [(a 2, a 3), (a 4, a 5), (a 6, a 7), (a 8, a 9)] = ops at hopl
  (with_reducible refine t_seq ?_); (try simp only [yN, List.set_cons_succ, List.set_cons_zero, yH, yL, y9, List.getElem?_cons_succ, List.getElem?_cons_zero, z0, zB])
  rw [List.length_map]
  refine ⟨by omega, ?_⟩
  refine compGo_enc encP (fun p : Int × Int => dP ((p.1 % (n : Int)).toNat, (p.2 % (n : Int)).toNat)) (fun p hp K hK => ?_) ?_
  · rw [← dP_mod hn0] at hK
    exact ⟨rfl, Int.natCast_pos.mpr hn0, Int.natCast_pos.mpr hn0, hK⟩
  (with_reducible refine t_seq ?_); (try simp only [yN, List.set_cons_succ, List.set_cons_zero, yH, yL, y9, List.getElem?_cons_succ, List.getElem?_cons_zero, z0, zB])
  rw [List.length_map]
  refine ⟨by omega, ?_⟩
  refine compGo_enc encP (fun p => .int ((p.1 - p.2) % 3 - 1)) (fun p hp K hK => ?_) ?_
  · exact ⟨rfl, by decide, hK⟩
  skip
  have eE : ops.map (fun p : Int × Int => dP ((p.1 % (n : Int)).toNat, (p.2 % (n : Int)).toNat)) = (ops.map fun p : Int × Int => ((p.1 % (n : Int)).toNat, (p.2 % (n : Int)).toNat)).map dP := by rw [List.map_map]; rfl
  have eW : ops.map (fun p : Int × Int => PyData.int ((p.1 - p.2) % 3 - 1)) = (ops.map fun p : Int × Int => (p.1 - p.2) % 3 - 1).map .int := by rw [List.map_map]; rfl
  rw [eE, eW]
  have hNet : Net n (ops.map fun p : Int × Int => ((p.1 % (n : Int)).toNat, (p.2 % (n : Int)).toNat)) (ops.map fun p : Int × Int => (p.1 - p.2) % 3 - 1) 4 := by
    refine ⟨fun e he => ?_, by simp, by simpa using hopl⟩
    obtain ⟨p, _, rfl⟩ := List.mem_map.mp he
    have h1 := Int.emod_nonneg p.1 (b := (n : Int)) (by omega)
    have h2 := Int.emod_lt_of_pos p.1 (b := (n : Int)) (by omega)
    have h3 := Int.emod_nonneg p.2 (b := (n : Int)) (by omega)
    have h4 := Int.emod_lt_of_pos p.2 (b := (n : Int)) (by omega)
    dsimp only; omega
  generalize (ops.map fun p : Int × Int => ((p.1 % (n : Int)).toNat, (p.2 % (n : Int)).toNat)) = E at hNet
  generalize (ops.map fun p : Int × Int => (p.1 - p.2) % 3 - 1) = ws at hNet
  have hbest : ∀ (E : List Edge) (ws : List Int), (best E ws).length ≤ E.length := fun E ws => by rw [best_eq]; exact Nat.le_trans (List.length_filter_le _ _) (by simp)
  have hdI : ∀ (E : List Edge) (ws : List Int), dNs (best E ws) = dIs (toI (best E ws)) := fun E ws => by unfold dNs dIs; rw [dNs_toI]
  (with_reducible refine t_seq ?_); (try simp only [yN, List.set_cons_succ, List.set_cons_zero, yG, yh, yg, y9, List.getElem?_cons_succ, List.getElem?_cons_zero, z0, ye])
  refine h9 n E ws _ (by omega) hNet.inV (by have := hNet.le; omega) hNet.len ?_
  (with_reducible refine t_seq ?_); (try simp only [yX, x4, zY, yG, yh, yg, y9, List.getElem?_cons_succ, List.getElem?_cons_zero, z0])
  refine h17 n E ws _ (by omega) hNet.inV (by have := hNet.le; omega) hNet.len ?_
  refine m_neX (ok_dNs _) ((eqv_dNs _ _).mpr rfl) ?_
  refine ite_no Bool.false_ne_true ?_
  (with_reducible refine t_seq ?_); (try simp only [yN, List.set_cons_succ, List.set_cons_zero, yf, yh, yg, ye, yi, yc, y9, List.getElem?_cons_zero, z0])
  refine hi' 10 _ (by omega) (hi' 11 _ (by omega) (hi' 12 _ (by omega) (hi' 13 _ (by omega) (hi' 14 _ (by omega) (hi' 15 _ (by omega) (hi' 16 _ (by omega) (hi' 17 _ (by omega) (hi' 18 _ (by omega) (hi' 19 _ (by omega) (hi' 20 _ (by omega) (hi' 21 _ (by omega) ?_)))))))))))
  have hturns : [PyData.tuple [.int (a 10), .int (a 11), .int (a 12), .int (a 13)], PyData.tuple [.int (a 14), .int (a 15), .int (a 16), .int (a 17)], PyData.tuple [.int (a 18), .int (a 19), .int (a 20), .int (a 21)]] =
      [(a 10, a 11, a 12, a 13), (a 14, a 15, a 16, a 17), (a 18, a 19, a 20, a 21)].map turnD := rfl
  rw [hturns]
  have htl : [(a 10, a 11, a 12, a 13), (a 14, a 15, a 16, a 17), (a 18, a 19, a 20, a 21)].length = 3 := rfl
  generalize [(a 10, a 11, a 12, a 13), (a 14, a 15, a 16, a 17), (a 18, a 19, a 20, a 21)] = turns at htl
  rw [hdI]
  have hbl : (toI (best E ws)).length ≤ 4 := by rw [toI_len]; have := hbest E ws; have := hNet.le; omega
  generalize toI (best E ws) = plan at hbl
  (with_reducible refine t_seq ?_); (try simp only [yZ, yL, y9, List.getElem?_cons_succ, List.getElem?_cons_zero, z0, zB])
  rw [List.length_map]
  refine ⟨by omega, ?_⟩
  refine forGo_F8 (fun i E ws (plan : List Int) s7 s8 s9 s10 (_ : Unit) => Net n E ws (4 + i) ∧ plan.length ≤ 8 + i) (fun i E ws plan s7 s8 s9 s10 _ => [.sh sc, .sh (.int n), .sh (.list (ops.map encP)), .sh (.list (E.map dP)), .sh (.list (ws.map .int)), .sh (dIs plan), .sh (.list (turns.map turnD)), s7, s8, s9, s10, .undef, .undef, .undef, .undef, .undef, .undef])
    (a7 := ()) rfl ⟨hNet, by omega⟩ ?_ ?_
  · clear hNet hbl E ws plan
    intro i h E ws plan s7 s8 s9 s10 _ hI K hK _ _
    obtain ⟨hNet, hbl⟩ := hI
    rw [List.length_map, htl] at h
    have fin : ∀ (E' : List Edge) (ws' plan' : List Int) (s7 s8 s9 s10 : Slot), Net n E' ws' (4 + i + 1) → plan'.length ≤ 8 + (i + 1) →
        seqF (wpSs Φ Λ [.ite (.not (.call 20 (.cons (.var 1) (.cons (.var 3) (.cons (.var 4) (.cons (.var 5) .nil)))))) [.ret (.bool false)] []]) K .next [.sh sc, .sh (.int n), .sh (.list (ops.map encP)), .sh (.list (E'.map dP)), .sh (.list (ws'.map .int)), .sh (dIs plan'), .sh (.list (turns.map turnD)), s7, s8, s9, s10, .undef, .undef, .undef, .undef, .undef, .undef] := by
      intro E' ws' plan' s7 s8 s9 s10 hN hp
      (with_reducible refine t_seq ?_); (try simp only [yX, x4, r_seq0, y6, y4, yh, yg, y9, List.getElem?_cons_succ, List.getElem?_cons_zero, z0])
      refine h20 n E' ws' plan' _ hn0 (by omega) hN.inV (by have := hN.le; omega) hN.len (by omega) ?_
      (try simp only [zu])
      refine ite_no (by simp) ?_
      exact hK _ _ _ _ _ _ _ () ⟨hN, by omega⟩
    clear hK
    refine t_forM (List.getElem?_eq_getElem (by omega)) ?_
    generalize turns[i] = tt
    unfold turnD
    (try simp only [zF, zD, zH, List.set_cons_succ, List.set_cons_zero, zG])
    refine ⟨rfl, ?_⟩
    (with_reducible refine t_cons ?_); (try simp only [yX, zY, yc, yo, y9, List.getElem?_cons_succ, List.getElem?_cons_zero, z0, zl, zm])
    refine ⟨by omega, ?_⟩
    by_cases c5 : tt.1 % 6 = 5
    · refine ite_yes (by simp [c5]) ?_
      (with_reducible refine t_cons ?_); (try simp only [yN, List.set_cons_succ, List.set_cons_zero, r_seq0, yG, yh, yg, y9, List.getElem?_cons_succ, List.getElem?_cons_zero, z0, ye])
      refine h9 n E ws _ (by omega) hNet.inV (by have := hNet.le; omega) hNet.len ?_
      rw [hdI]
      skip
      exact fin E ws _ _ _ _ _ hNet.keep (by rw [toI_len]; have := hbest E ws; have := hNet.le; omega)
    · refine ite_no (by simp [c5]) ?_
      (with_reducible refine t_cons ?_); (try simp only [yR, zF, r_seq0, yG, yh, yg, y9, List.getElem?_cons_succ, List.getElem?_cons_zero, z0, yo, yc, zl])
      refine ⟨by omega, ?_⟩
      refine h19 n (4 + i) E ws plan _ _ _ _ _ hn0 hNet (by omega) (by omega) fun E' ws' plan' hN hp => ?_
      (try simp only [zD, zH, List.set_cons_succ, List.set_cons_zero, zG])
      refine ⟨rfl, ?_⟩
      exact fin E' ws' plan' _ _ _ _ hN (by omega)
  · clear hNet hbl E ws plan
    intro E ws plan s7 s8 s9 s10 _ hI
    obtain ⟨⟨hE, hw, hl⟩, hbl⟩ := hI
    rw [List.length_map, htl] at hl
    have hL := labOf_is hE
    (with_reducible refine t_seq ?_); (try simp only [yN, List.set_cons_succ, List.set_cons_zero, yB, y9, List.getElem?_cons_succ, List.getElem?_cons_zero, z0, zP])
    refine ⟨by rw [List.length_map]; omega, ?_⟩
    (with_reducible refine t_seq ?_); (try simp only [yN, List.set_cons_succ, List.set_cons_zero, yG, yh, yg, y9, List.getElem?_cons_succ, List.getElem?_cons_zero, z0])
    refine h16 n E _ _ (by omega) hE (by omega) hL ?_
    (with_reducible refine t_seq ?_); (try simp only [yX, x4, y6, y4, yh, yg, y9, List.getElem?_cons_succ, List.getElem?_cons_zero, z0])
    refine h21 n E _ (by omega) hE (by omega) ?_
    (try simp only [zu])
    refine ite_no (by simp) ?_
    (with_reducible refine t_seq ?_); (try simp only [yX, x4, y6, y4, yh, yg, y9, List.getElem?_cons_succ, List.getElem?_cons_zero, z0])
    refine h23 n E _ (by omega) hE (by omega) ?_
    (try simp only [zu])
    refine ite_no (by simp) ?_
    (with_reducible refine t_seq ?_); (try simp only [yX, x4, y6, y4, yh, yg, y9, List.getElem?_cons_succ, List.getElem?_cons_zero, z0])
    refine h24 n E _ (by omega) hE (by omega) ?_
    (try simp only [zu])
    refine ite_no (by simp) ?_
    (with_reducible refine t_seq ?_); (try simp only [yX, x4, zY, y9, List.getElem?_cons_succ, List.getElem?_cons_zero, z0])
    refine m_neX (ok_dPs E) ((eqv_dPs E E).mpr rfl) ?_
    refine ite_no Bool.false_ne_true ?_
    (with_reducible refine t_seq ?_); (try simp only [x0, zK, zO, yb])
end
section
open PySem PySem.Calls PySem.Spec PyProof.Rows

abbrev Hid := Addr → Prop
/-- the objects that may be read: those that are not hidden -/
noncomputable def Zof (h : Heap) (H : Hid) (a : Addr) (o : Obj) : Prop := h.get? a = some o ∧ ¬ H a
noncomputable def isSeq (o : Obj) : Prop := ∃ vs n, o.data = .seq vs n

theorem seq_of {o : Obj} {vs : Array Value} {n : Nat} (h : o = { cls := .type "list", data := .seq vs n }) : isSeq o := ⟨vs, n, by rw [h]⟩
theorem cls_of {o : Obj} {vs : Array Value} {n : Nat} (h : o = { cls := .type "list", data := .seq vs n }) : o.cls = .type "list" := by rw [h]
theorem dat_of {o : Obj} {vs : Array Value} {n : Nat} (h : o = { cls := .type "list", data := .seq vs n }) : o.data = .seq vs n := by rw [h]
mutual
inductive Rd (Z : Addr → Obj → Prop) : Value → D → Prop
  | none : Rd Z .none .none
  | bool (b : Bool) : Rd Z (.bool b) (.bool b)
  | int (i : Int) (t : Tok) : Rd Z (.int i t) (.int i)
  | str (x : Str) (t : Tok) : Rd Z (.str x t) (.str x)
  | list {a : Addr} {o : Obj} {vs : Array Value} {n : Nat} {xs : List D} : Z a o → o = { cls := .type "list", data := .seq vs n } → vs.size ≤ sizeLine → RdAll Z vs.toList xs → Rd Z (.ref a) (.list xs)
  | tuple {a : Addr} {o : Obj} {vs : Array Value} {n : Nat} {xs : List D} : Z a o → o.cls = .type "tuple" → o.data = .seq vs n → vs.size ≤ sizeLine → RdAll Z vs.toList xs → Rd Z (.ref a) (.tuple xs)
inductive RdAll (Z : Addr → Obj → Prop) : List Value → List D → Prop
  | nil : RdAll Z [] []
  | cons {v : Value} {vs : List Value} {d : D} {ds : List D} : Rd Z v d → RdAll Z vs ds → RdAll Z (v :: vs) (d :: ds)
end

section
variable {Z Z' : Addr → Obj → Prop}
mutual
theorem Rd.move (hz : ∀ a o, isSeq o → Z a o → Z' a o) : ∀ {v : Value} {d : D}, Rd Z v d → Rd Z' v d
  | _, _, .none => .none
  | _, _, .bool b => .bool b
  | _, _, .int i t => .int i t
  | _, _, .str x t => .str x t
  | _, _, .list h hd hn r => .list (hz _ _ (seq_of hd) h) hd hn (RdAll.move hz r)
  | _, _, .tuple h hc hd hn r => .tuple (hz _ _ ⟨_, _, hd⟩ h) hc hd hn (RdAll.move hz r)
theorem RdAll.move (hz : ∀ a o, isSeq o → Z a o → Z' a o) : ∀ {vs : List Value} {ds : List D}, RdAll Z vs ds → RdAll Z' vs ds
  | _, _, .nil => .nil
  | _, _, .cons h r => .cons (Rd.move hz h) (RdAll.move hz r)
end
mutual
theorem Rd.reads {h : Heap} (hz : ∀ a o, Z a o → h.get? a = some o) : ∀ {v : Value} {d : D}, Rd Z v d → ∃ as, Reads h v d as
  | _, _, .none => ⟨_, .none⟩
  | _, _, .bool b => ⟨_, .bool b⟩
  | _, _, .int i t => ⟨_, .int i t⟩
  | _, _, .str x t => ⟨_, .str x t⟩
  | _, _, .list h hd _ r => let ⟨_, q⟩ := RdAll.reads hz r; ⟨_, .list (hz _ _ h) (cls_of hd) (dat_of hd) q⟩
  | _, _, .tuple h hc hd _ r => let ⟨_, q⟩ := RdAll.reads hz r; ⟨_, .tuple (hz _ _ h) hc hd q⟩
theorem RdAll.reads {h : Heap} (hz : ∀ a o, Z a o → h.get? a = some o) : ∀ {vs : List Value} {ds : List D}, RdAll Z vs ds → ∃ as, ReadsAll h vs ds as
  | _, _, .nil => ⟨_, .nil⟩
  | _, _, .cons x r => let ⟨_, p⟩ := Rd.reads hz x; let ⟨_, q⟩ := RdAll.reads hz r; ⟨_, .cons p q⟩
end
theorem RdAll.length : ∀ {vs : List Value} {ds : List D}, RdAll Z vs ds → vs.length = ds.length
  | _, _, .nil => rfl
  | _, _, .cons _ r => by simp [RdAll.length r]
theorem RdAll.append : ∀ {vs ws : List Value} {ds es : List D}, RdAll Z vs ds → RdAll Z ws es → RdAll Z (vs ++ ws) (ds ++ es)
  | _, _, _, _, .nil, k => k
  | _, _, _, _, .cons h r, k => .cons h (RdAll.append r k)
theorem RdAll.get {vs : List Value} {ds : List D} (h : RdAll Z vs ds) : ∀ {i : Nat} (hi : i < ds.length), ∃ v, vs[i]? = some v ∧ Rd Z v ds[i] := by
  induction vs generalizing ds with
  | nil => intro i hi; cases h; exact absurd hi (Nat.not_lt_zero _)
  | cons v vs ih =>
    intro i hi
    cases h with
    | cons h r =>
      cases i with
      | zero => exact ⟨v, rfl, h⟩
      | succ i => exact ih r (by simpa using hi)
theorem RdAll.set {vs : List Value} {ds : List D} (h : RdAll Z vs ds) {i : Nat} {v : Value} {d : D} (hv : Rd Z v d) : RdAll Z (vs.set i v) (ds.set i d) := by
  induction vs generalizing ds i with
  | nil => cases h; exact .nil
  | cons w vs ih =>
    cases h with
    | cons h r =>
      cases i with
      | zero => exact .cons hv r
      | succ i => exact .cons h (ih r)
theorem RdAll.take {vs : List Value} {ds : List D} (h : RdAll Z vs ds) (i : Nat) : RdAll Z (vs.take i) (ds.take i) := by
  induction vs generalizing ds i with
  | nil => cases h; simpa using RdAll.nil
  | cons w vs ih =>
    cases h with
    | cons h r =>
      cases i with
      | zero => exact .nil
      | succ i => exact .cons h (ih r i)
theorem RdAll.drop {vs : List Value} {ds : List D} (h : RdAll Z vs ds) (i : Nat) : RdAll Z (vs.drop i) (ds.drop i) := by
  induction vs generalizing ds i with
  | nil => cases h; simpa using RdAll.nil
  | cons w vs ih =>
    cases h with
    | cons h r =>
      cases i with
      | zero => exact .cons h r
      | succ i => exact ih r i
theorem RdAll.reverse {vs : List Value} {ds : List D} (h : RdAll Z vs ds) : RdAll Z vs.reverse ds.reverse := by
  induction vs generalizing ds with
  | nil => cases h; exact .nil
  | cons w vs ih =>
    cases h with
    | cons h r => rw [List.reverse_cons, List.reverse_cons]; exact (ih r).append (.cons h .nil)
theorem RdAll.replicate {v : Value} {d : D} (h : Rd Z v d) : ∀ n, RdAll Z (List.replicate n v) (List.replicate n d)
  | 0 => .nil
  | n + 1 => .cons h (RdAll.replicate h n)
theorem RdAll.ints {vs : List Value} {ns : List Int} (h : RdAll Z vs (ns.map .int)) : IntsAre vs ns := by
  induction vs generalizing ns with
  | nil => cases ns with
    | nil => exact .nil
    | cons => cases h
  | cons v vs ih =>
    cases ns with
    | nil => cases h
    | cons n ns =>
      cases h with
      | cons h r => cases h; exact .cons _ _ (ih r)
theorem RdAll.of_ints {vs : List Value} {ns : List Int} (h : IntsAre vs ns) : RdAll Z vs (ns.map .int) := by
  induction h with
  | nil => exact .nil
  | cons n t _ ih => exact .cons (.int _ _) ih

end
/-- the heap only grows -/
noncomputable def Ext (s s' : Shared) : Prop := s.heap.StaysIn s'.heap ∧ s'.gens = s.gens ∧ s'.os = s.os
theorem Ext.refl (s : Shared) : Ext s s := ⟨fun _ _ e => e, rfl, rfl⟩
theorem Ext.trans {a b c : Shared} (h : Ext a b) (k : Ext b c) : Ext a c := ⟨fun x o e => k.1 x o (h.1 x o e), k.2.1.trans h.2.1, k.2.2.trans h.2.2⟩
theorem Ext.of {s : Shared} {h' : Heap} {tk : Nat} (h : s.heap.StaysIn h') : Ext s { s with heap := h', toks := tk } := ⟨h, rfl, rfl⟩
theorem Ext.push {s : Shared} {o : Obj} {tk : Nat} : Ext s { s with heap := s.heap.push o, toks := tk } := ⟨fun _ _ e => Heap.get?_push_of_some _ e, rfl, rfl⟩
theorem Zof.ext {h h' : Heap} {H : Hid} (k : h.StaysIn h') : ∀ a o, isSeq o → Zof h H a o → Zof h' H a o := fun a o _ z => ⟨k a o z.1, z.2⟩
theorem Rd.ext {h h' : Heap} {H : Hid} {v : Value} {d : D} (r : Rd (Zof h H) v d) (k : h.StaysIn h') : Rd (Zof h' H) v d := r.move (Zof.ext k)
theorem RdAll.ext {h h' : Heap} {H : Hid} {v : List Value} {d : List D} (r : RdAll (Zof h H) v d) (k : h.StaysIn h') : RdAll (Zof h' H) v d := r.move (Zof.ext k)
theorem Rd.readsZ {h : Heap} {H : Hid} {v : Value} {d : D} (r : Rd (Zof h H) v d) : ∃ as, Reads h v d as := Rd.reads (fun _ _ z => z.1) r

/-- the hidden addresses are in use -/
noncomputable def HidIn (H : Hid) (h : Heap) : Prop := ∀ a, H a → ∃ o, h.get? a = some o
theorem HidIn.ext {H : Hid} {h h' : Heap} (x : HidIn H h) (k : h.StaysIn h') : HidIn H h' := fun a ha => let ⟨o, e⟩ := x a ha; ⟨o, k a o e⟩
theorem HidIn.fresh {H : Hid} {h : Heap} (x : HidIn H h) : ∀ a, h.objs.size ≤ a → ¬ H a := fun a ha hh => by
  obtain ⟨o, e⟩ := x a hh
  exact absurd (Heap.lt_size e) (Nat.not_lt.mpr ha)
/-- a variable of the frame -/
noncomputable def VarAt (env : Env) (h : Heap) (x : Str) (v : Value) : Prop :=
  (env.kindOf x = some .local ∧ ∃ m, h.Ns env.locals m ∧ m x = some v) ∨
  ((env.kindOf x = some .cell ∨ env.kindOf x = some .free) ∧ ∃ c, env.cells.lookup x = some c ∧ h.IsCell c (some v))
theorem VarAt.ext {env : Env} {h h' : Heap} {x : Str} {v : Value} (k : h.StaysIn h') (a : VarAt env h x v) : VarAt env h' x v := by
  rcases a with ⟨e, m, hn, hm⟩ | ⟨e, c, hc, hv⟩
  · exact .inl ⟨e, m, hn.keeps k, hm⟩
  · exact .inr ⟨e, c, hc, hv.keeps k⟩

theorem isList_keeps {h h' : Heap} {a : Addr} {items : Array Value} (x : h.IsList a items) (k : h.StaysIn h') : h'.IsList a items := let ⟨o, e, r⟩ := x; ⟨o, k _ _ e, r⟩
theorem plain_keeps {h h' : Heap} {a : Addr} {items : Array Value} (x : h.PlainList a items) (k : h.StaysIn h') : h'.PlainList a items := let ⟨n, e⟩ := x; ⟨n, k _ _ e⟩
/-- what a slot says of a value, for reading -/
noncomputable def SlotV (h : Heap) (H : Hid) (v : Value) : Slot → Prop
  | .undef => True
  | .sh d => Rd (Zof h H) v d
  | .own1 ds => ∃ a items, v = .ref a ∧ h.PlainList a items ∧ items.size ≤ sizeLine ∧ RdAll (Zof h H) items.toList ds
  | .own2 _ => True
  | .lent ds => ∃ a items, v = .ref a ∧ h.PlainList a items ∧ items.size ≤ sizeLine ∧ RdAll (Zof h H) items.toList ds
theorem SlotV.move {h h' : Heap} {H H' : Hid} {v : Value} {sl : Slot} (k : h.StaysIn h') (hz : ∀ a o, isSeq o → Zof h H a o → Zof h' H' a o) (x : SlotV h H v sl) : SlotV h' H' v sl := by
  cases sl with
  | undef => trivial
  | sh d => exact Rd.move hz x
  | own1 ds => obtain ⟨a, items, e, hl, hn, r⟩ := x; exact ⟨a, items, e, plain_keeps hl k, hn, RdAll.move hz r⟩
  | own2 => trivial
  | lent ds => obtain ⟨a, items, e, hl, hn, r⟩ := x; exact ⟨a, items, e, plain_keeps hl k, hn, RdAll.move hz r⟩

/-- all that an expression needs of the variables -/
noncomputable def Vars (env : Env) (nm : Nat → Str) (vis : List Nat) (H : Hid) (st : St) (h : Heap) : Prop :=
  ∀ i sl, i ∈ vis → st[i]? = some sl → sl ≠ .undef → ∃ v, VarAt env h (nm i) v ∧ SlotV h H v sl
theorem Vars.ext {env : Env} {nm : Nat → Str} {vis : List Nat} {H : Hid} {st : St} {h h' : Heap} (x : Vars env nm vis H st h) (k : h.StaysIn h') : Vars env nm vis H st h' := by
  intro i sl hi hs hu
  obtain ⟨v, hv, hsv⟩ := x i sl hi hs hu
  exact ⟨v, hv.ext k, hsv.move k (Zof.ext k)⟩

noncomputable def biNames : List Str := [Str.ofString "len", Str.ofString "range", Str.ofString "list", Str.ofString "set", Str.ofString "sorted", Str.ofString "sum", Str.ofString "all", Str.ofString "min", Str.ofString "max", Str.ofString "type", Str.ofString "int", Str.ofString "bool", Str.ofString "tuple"]

/-- what is so from the start, and stays -/
structure Ground (base : Heap) (fa : Nat → Addr) (fname : Nat → Str) : Prop where
  lim : base.NoLimit
  g : ∃ mg, base.Ns mainGlobals mg ∧ (∀ x ∈ biNames, mg x = none) ∧ ∀ f, f < 26 → mg (fname f) = some (.ref (fa f))
  b : ∃ mb, base.Ns builtinsNs mb ∧ ∀ x : Str, x ≠ "__name__" → mb x = bootBuiltins x
  fn : ∀ f, f < 26 → ∃ o, base.get? (fa f) = some o ∧ ∃ fd, o.data = .func fd

structure EnvOk (sc : Scope) (env : Env) : Prop where
  g : env.globals = mainGlobals
  b : env.builtins = builtinsNs
  k : env.scope.kind = .function
  gl : ∀ x, sc.names.lookup x = some .globalImplicit → env.kindOf x = some .globalImplicit
  lo : ∀ x, sc.names.lookup x = some .local → env.kindOf x = some .local
  ce : ∀ x, sc.names.lookup x = some .cell → env.kindOf x = some .cell ∧ ∃ c, env.cells.lookup x = some c
  fr : ∀ x, sc.names.lookup x = some .free → (env.kindOf x = some .cell ∨ env.kindOf x = some .free) ∧ ∃ c, env.cells.lookup x = some c

structure AOk (k : Nat) (A : Around) : Prop where
  d : A.depth + k ≤ recursionLimit
  u : A.units + 3 * k + 200 < cLine
  h : A.handled = none
theorem AOk.mono {k j : Nat} {A : Around} (x : AOk k A) (h : j ≤ k) : AOk j A := ⟨by have := x.d; omega, by have := x.u; omega, x.h⟩
theorem AOk.deeper {k : Nat} {A : Around} {env : Env} (x : AOk (k + 1) A) : AOk k (A.deeper env) :=
  ⟨by have := x.d; show A.depth + 1 + k ≤ _; omega, by have := x.u; show A.units + 3 + 3 * k + 200 < _; omega, x.h⟩

noncomputable def PostE (s : Shared) (H : Hid) (Q : D → Prop) (v : Value) (s' : Shared) : Prop := ∃ d, Q d ∧ Rd (Zof s'.heap H) v d ∧ Ext s s'
abbrev NoE : Value → Shared → Prop := fun _ _ => False
noncomputable def PostB (s : Shared) (Q : Bool → Prop) (b : Bool) (s' : Shared) : Prop := Q b ∧ Ext s s'
noncomputable def PostL (s : Shared) (H : Hid) (Q : List D → Prop) (vs : List Value) (s' : Shared) : Prop := ∃ ds, Q ds ∧ RdAll (Zof s'.heap H) vs ds ∧ Ext s s'
end
section
open PySem PySem.Calls PySem.Spec PyProof.Rows

section
variable {prog : Program} {w : World} {A : Around} {E : Value → Shared → Prop} {s : Shared} {H : Hid} {P : Value → Shared → Prop}
/-- what is to be shown at a value's place -/
abbrev Kn (s : Shared) (H : Hid) (Q : D → Prop) (P : Value → Shared → Prop) : Prop := ∀ v s' d, Q d → Rd (Zof s'.heap H) v d → Ext s s' → P v s'

theorem Rd.list_inv {Z : Addr → Obj → Prop} {v : Value} {ds : List D} (r : Rd Z v (.list ds)) : ∃ a o vs n, v = .ref a ∧ Z a o ∧ o = { cls := .type "list", data := .seq vs n } ∧ vs.size ≤ sizeLine ∧ RdAll Z vs.toList ds := by
  cases r with
  | list h hd hn r => exact ⟨_, _, _, _, rfl, h, hd, hn, r⟩
theorem Rd.tuple_inv {Z : Addr → Obj → Prop} {v : Value} {ds : List D} (r : Rd Z v (.tuple ds)) : ∃ a o vs n, v = .ref a ∧ Z a o ∧ o.cls = .type "tuple" ∧ o.data = .seq vs n ∧ vs.size ≤ sizeLine ∧ RdAll Z vs.toList ds := by
  cases r with
  | tuple h hc hd hn r => exact ⟨_, _, _, _, rfl, h, hc, hd, hn, r⟩
theorem Rd.isList {h : Heap} {v : Value} {ds : List D} (r : Rd (Zof h H) v (.list ds)) : ∃ a vs, v = .ref a ∧ h.IsList a vs ∧ vs.size ≤ sizeLine ∧ RdAll (Zof h H) vs.toList ds := by
  obtain ⟨a, o, vs, n, rfl, hz, rfl, hn, r⟩ := r.list_inv
  exact ⟨a, vs, rfl, ⟨_, hz.1, rfl, n, rfl⟩, hn, r⟩
theorem Rd.plain {h : Heap} {v : Value} {ds : List D} (r : Rd (Zof h H) v (.list ds)) : ∃ a vs, v = .ref a ∧ h.PlainList a vs ∧ vs.size ≤ sizeLine ∧ RdAll (Zof h H) vs.toList ds := by
  obtain ⟨a, o, vs, n, rfl, hz, rfl, hn, r⟩ := r.list_inv
  exact ⟨a, vs, rfl, ⟨n, hz.1⟩, hn, r⟩
theorem Rd.isTuple {h : Heap} {v : Value} {ds : List D} (r : Rd (Zof h H) v (.tuple ds)) : ∃ a vs, v = .ref a ∧ h.IsTuple a vs ∧ vs.size ≤ sizeLine ∧ RdAll (Zof h H) vs.toList ds := by
  obtain ⟨a, o, vs, n, rfl, hz, hc, hd, hn, r⟩ := r.tuple_inv
  exact ⟨a, vs, rfl, ⟨o, hz.1, hc, n, hd⟩, hn, r⟩
theorem rd_list {h : Heap} {a : Addr} {vs : Array Value} {ds : List D} (hl : h.PlainList a vs) (hH : ¬ H a) (hn : vs.size ≤ sizeLine) (r : RdAll (Zof h H) vs.toList ds) : Rd (Zof h H) (.ref a) (.list ds) := by
  obtain ⟨n, e⟩ := hl
  exact .list ⟨e, hH⟩ rfl hn r
theorem rd_tuple {h : Heap} {a : Addr} {vs : Array Value} {ds : List D} (hl : h.IsTuple a vs) (hH : ¬ H a) (hn : vs.size ≤ sizeLine) (r : RdAll (Zof h H) vs.toList ds) : Rd (Zof h H) (.ref a) (.tuple ds) := by
  obtain ⟨o, e, hc, n, hd⟩ := hl
  exact .tuple ⟨e, hH⟩ hc hd hn r
theorem push_list (h : Heap) (vs : List Value) : (h.push { cls := .type "list", data := .seq vs.toArray }).PlainList h.objs.size vs.toArray := ⟨_, Heap.get?_push_size _ rfl⟩
theorem push_tuple (h : Heap) (vs : List Value) : (h.push { cls := .type "tuple", data := .seq vs.toArray }).IsTuple h.objs.size vs.toArray := ⟨_, Heap.get?_push_size _ rfl, rfl, _, rfl⟩
theorem stays_push (h : Heap) (o : Obj) : h.StaysIn (h.push o) := fun _ _ e => Heap.get?_push_of_some _ e
theorem kn_list {Q : D → Prop} {vs : List Value} {ds : List D} {o : Obj} {tk : Nat} (ho : o = { cls := .type "list", data := .seq vs.toArray }) (hH : HidIn H s.heap) (hn : vs.length ≤ sizeLine) (r : RdAll (Zof s.heap H) vs ds) (q : Q (.list ds)) (k : Kn s H Q P) :
    P (.ref s.heap.objs.size) { s with heap := s.heap.push o, toks := tk } := by
  subst ho
  exact k _ _ _ q (rd_list (push_list _ _) (hH.fresh _ (Nat.le_refl _)) (by simpa using hn) (by simpa using r.ext (stays_push _ _))) Ext.push
/-- the value is new, if it is an object -/
abbrev Knf (s : Shared) (H : Hid) (Q : D → Prop) (P : Value → Shared → Prop) : Prop := ∀ v s' d, Q d → Rd (Zof s'.heap H) v d → Ext s s' → (∀ a, v = .ref a → s.heap.get? a = none) → P v s'
theorem kn_listf {Q : D → Prop} {vs : List Value} {ds : List D} {o : Obj} {tk : Nat} (ho : o = { cls := .type "list", data := .seq vs.toArray }) (hH : HidIn H s.heap) (hn : vs.length ≤ sizeLine) (r : RdAll (Zof s.heap H) vs ds) (q : Q (.list ds)) (k : Knf s H Q P) :
    P (.ref s.heap.objs.size) { s with heap := s.heap.push o, toks := tk } := by
  subst ho
  refine k _ _ _ q (rd_list (push_list _ _) (hH.fresh _ (Nat.le_refl _)) (by simpa using hn) (by simpa using r.ext (stays_push _ _))) Ext.push fun a e => ?_
  cases e
  cases h : s.heap.get? s.heap.objs.size with
  | none => rfl
  | some o => exact absurd (Heap.lt_size h) (Nat.lt_irrefl _)
theorem kn_intf {Q : D → Prop} {i : Int} {t : Tok} {tk : Nat} (q : Q (.int i)) (k : Knf s H Q P) : P (.int i t) { s with toks := tk } := k _ _ _ q (.int _ _) ⟨fun _ _ e => e, rfl, rfl⟩ (fun a h => by cases h)
theorem kn_tuple {Q : D → Prop} {vs : List Value} {ds : List D} {o : Obj} {tk : Nat} (ho : o = { cls := .type "tuple", data := .seq vs.toArray }) (hH : HidIn H s.heap) (hn : vs.length ≤ sizeLine) (r : RdAll (Zof s.heap H) vs ds) (q : Q (.tuple ds)) (k : Kn s H Q P) :
    P (.ref s.heap.objs.size) { s with heap := s.heap.push o, toks := tk } := by
  subst ho
  exact k _ _ _ q (rd_tuple (push_tuple _ _) (hH.fresh _ (Nat.le_refl _)) (by simpa using hn) (by simpa using r.ext (stays_push _ _))) Ext.push
theorem kn_int {Q : D → Prop} {i : Int} {t : Tok} {tk : Nat} (q : Q (.int i)) (k : Kn s H Q P) : P (.int i t) { s with toks := tk } := k _ _ _ q (.int _ _) ⟨fun _ _ e => e, rfl, rfl⟩
theorem kn_bool {Q : D → Prop} {b : Bool} (q : Q (.bool b)) (k : Kn s H Q P) : P (.bool b) s := k _ _ _ q (.bool _) (Ext.refl s)

noncomputable def notSlice : PySem.Expr → Bool
  | .Slice _ _ _ _ => false
  | _ => true
theorem subscripted_plain {y : PySem.Expr} (h : notSlice y = true) (o i : Value) : subscripted y false o i = operate [o, i] (getItem o i) := by
  cases y <;> first | rfl | (simp [notSlice] at h)

theorem RdAll.at {Z : Addr → Obj → Prop} {vs : Array Value} {ds : List D} (r : RdAll Z vs.toList ds) {i : Nat} (h : i < ds.length) : ∃ x, vs[i]? = some x ∧ Rd Z x ds[i] := by
  obtain ⟨x, e, rx⟩ := r.get h
  exact ⟨x, by simpa using e, rx⟩
theorem RdAll.size {Z : Addr → Obj → Prop} {vs : Array Value} {ds : List D} (r : RdAll Z vs.toList ds) : vs.size = ds.length := by have := r.length; simpa using this

theorem item_list_ok {value y : PySem.Expr} {a : Addr} {vs : Array Value} {ds : List D} {i : Value} {k : D} {Q : D → Prop} (hy : notSlice y = true) (hl : s.heap.IsList a vs) (hn : vs.size ≤ sizeLine) (r : RdAll (Zof s.heap H) vs.toList ds)
    (ri : Rd (Zof s.heap H) i k) (q : itemD (.list ds) k Q) (kn : Kn s H Q P) : wpAny (model prog w) A (subscriptTail value y (.ref a) i) P E s := by
  cases ri with
  | int k t =>
    obtain ⟨h0, hlt, q⟩ := q
    obtain ⟨x, hx, rx⟩ := r.at hlt
    have hb : k < 2 ^ 63 := by
      have := r.size
      have : sizeLine = 2 ^ 24 := rfl
      omega
    exact tail_any hl.typeIs slot_list_getitem.lookup (wpAny_getItem_list hl h0 hb hx (kn _ _ _ q rx (Ext.refl s))) (subscripted_plain hy _ _)
  | _ => exact q.elim

theorem itemT_inv {ds : List D} {k : Int} {Q : D → Prop} (q : itemD (.tuple ds) (.int k) Q) : 0 ≤ k ∧ ∃ h : k.toNat < ds.length, Q ds[k.toNat] := by
  cases k with
  | ofNat n => exact ⟨Int.natCast_nonneg n, nthD_inv q⟩
  | negSucc n => exact q.elim
theorem item_ok {value y : PySem.Expr} {o i : Value} {d k : D} {Q : D → Prop} (hy : notSlice y = true) (ro : Rd (Zof s.heap H) o d)
    (ri : Rd (Zof s.heap H) i k) (q : itemD d k Q) (kn : Kn s H Q P) : wpAny (model prog w) A (subscriptTail value y o i) P E s := by
  cases d with
  | list ds =>
    obtain ⟨a, vs, rfl, hl, hn, r⟩ := ro.isList
    exact item_list_ok hy hl hn r ri q kn
  | tuple ds =>
    obtain ⟨a, vs, rfl, hl, hn, r⟩ := ro.isTuple
    cases ri with
    | int k t =>
      obtain ⟨h0, hlt, q⟩ := itemT_inv q
      obtain ⟨x, hx, rx⟩ := r.at hlt
      have hs := r.size
      have hb : k < 2 ^ 63 := by
        have : sizeLine = 2 ^ 24 := rfl
        omega
      have hj : seqIndex? k vs.size = some k.toNat := seqIndex_of h0 (by omega)
      exact tail_any (T := "tuple") (IsTup.typeIs hl) slot_tuple_getitem.lookup (getItem_tuple hl (by omega) hb hj hx (kn _ _ _ q rx (Ext.refl s))) (subscripted_plain hy _ _)
    | _ => exact q.elim
  | _ => exact q.elim
end
end
section
set_option maxHeartbeats 4000000
open PySem PySem.Calls PySem.Spec PyProof.Rows PySem.MeetsSeq

noncomputable def lt2 (a b c d : Int) : Bool := if a == c then (if b == d then false else decide (b < d)) else decide (a < c)
theorem tuple_ltAt (l r : Addr) (a b c d : Int) (t1 t2 t3 t4 : Tok) (n n2 : Nat) (dd dd2 : Option Addr) (sl sl2 : Array (Option Value)) :
    Meets (Builtin.«tuple.__lt__» ⟨[.ref l, .ref r], []⟩)
      (fun A R s => s.heap.get? l = some { cls := .type "tuple", dict := dd, data := .seq #[.int a t1, .int b t2] n, slots := sl } ∧ s.heap.get? r = some { cls := .type "tuple", dict := dd2, data := .seq #[.int c t3, .int d t4] n2, slots := sl2 } ∧
        R (.ok (.ret (.bool (lt2 a b c d)))) s) :=
  .of_wp fun prog w A R s h => by
    obtain ⟨hp, g, dr, tk, os⟩ := s; obtain ⟨hl, hb, h⟩ := h
    have f2 := AutoSeq1.sub_tuple_tuple
    have lt (x y : Int) (t u : Tok) (A : Around) (Q : Value → Shared → Prop) (E : Value → Shared → Prop) (s : Shared) (h : Q (.bool (decide (x < y))) s) : wpAny (model prog w) A (richCompare .Lt (.int x t) (.int y u)) Q E s := lt_int (A := A) h
    unfold lt2 at h
    wp_walk using wpAny_loadPart' hl, wpAny_loadPart' hb, wpAny_forIn_list _ (fun rest z s' => z.1 = none ∧ s' = ⟨hp, g, dr, tk, os⟩ ∧
      (rest = [(.int a t1, .int c t3), (.int b t2, .int d t4)] ∨ (rest = [(.int b t2, .int d t4)] ∧ (a == c) = true) ∨ (rest = [] ∧ (a == c) = true ∧ (b == d) = true))) _
    case turn =>
      rintro ⟨y, x⟩ rest z s' ⟨hb', rfl, hz⟩
      rcases hz with hz | ⟨hz, h1⟩ | ⟨hz, _⟩
      · cases hz
        refine wpAny_bind (wpAny_eqBool_int ?_)
        cases h1 : a == c with
        | false =>
          rw [h1, if_neg (by decide)] at h
          show wpAny _ _ (rule _ >>= fun _ => richCompare .Lt (.int a t1) (.int c t3) >>= _) _ _ _
          refine wpAny_bind (wpAny_rule (wpAny_bind (lt _ _ _ _ _ _ _ _ (wpAny_bind (wpAny_pure (wpAny_pure ?_))))))
          exact wpAny_pure ⟨_, rfl, h⟩
        | true => exact wpAny_pure ⟨rfl, rfl, .inr (.inl ⟨rfl, rfl⟩)⟩
      · cases hz
        refine wpAny_bind (wpAny_eqBool_int ?_)
        rw [h1, if_pos rfl] at h
        cases h2 : b == d with
        | false =>
          rw [h2, if_neg (by decide)] at h
          show wpAny _ _ (rule _ >>= fun _ => richCompare .Lt (.int b t2) (.int d t4) >>= _) _ _ _
          refine wpAny_bind (wpAny_rule (wpAny_bind (lt _ _ _ _ _ _ _ _ (wpAny_bind (wpAny_pure (wpAny_pure ?_))))))
          exact wpAny_pure ⟨_, rfl, h⟩
        | true => exact wpAny_pure ⟨rfl, rfl, .inr (.inr ⟨rfl, h1, rfl⟩)⟩
      · cases hz
    case fin =>
      rintro ⟨b1, b2⟩ s' ⟨hb', rfl, hz⟩
      simp only at hb'
      subst hb'
      rcases hz with hz | ⟨hz, _⟩ | ⟨_, h1, h2⟩
      · cases hz
      · cases hz
      rw [h1, if_pos rfl, h2, if_pos rfl] at h
      exact wpAny_pure ⟨_, rfl, h⟩
    case h =>
      exact ⟨rfl, rfl, .inl rfl⟩

theorem lt2_eq (a b c d : Int) : lt2 a b c d = decide (a < c ∨ (a = c ∧ b < d)) := by
  unfold lt2
  by_cases h : a = c
  · subst h
    simp only [beq_self_eq_true, if_true, Int.lt_irrefl, false_or, true_and]
    by_cases h2 : b = d
    · subst h2; simp
    · simp [h2]
  · simp [h]

section
variable {prog : Program} {w : World} {A : Around} {E : Value → Shared → Prop} {s : Shared} {H : Hid} {P : Value → Shared → Prop}
theorem lt_pair_ok {x y : Value} {a b c d : Int} {Q : D → Prop} (hu : A.units < cLine) (rx : Rd (Zof s.heap H) x (.tuple [.int a, .int b])) (ry : Rd (Zof s.heap H) y (.tuple [.int c, .int d]))
    (q : Q (.bool (decide (a < c ∨ (a = c ∧ b < d))))) (kn : Kn s H Q P) : wpAny (model prog w) A (compareOp .Lt x y) P E s := by
  obtain ⟨l, ⟨cls, dd, data, sl⟩, vs, n, rfl, hz, hc, hd, _, r⟩ := rx.tuple_inv
  obtain ⟨l2, ⟨cls2, dd2, data2, sl2⟩, vs2, n2, rfl, hz2, hc2, hd2, _, r2⟩ := ry.tuple_inv
  simp only at hc hd hc2 hd2
  subst hc hd hc2 hd2
  have pair : ∀ {vs : Array Value} {i j : Int}, RdAll (Zof s.heap H) vs.toList [.int i, .int j] → ∃ t u, vs = #[.int i t, .int j u] := by
    intro vs i j r
    obtain ⟨vs⟩ := vs
    cases r with
    | cons h1 r => cases r with
      | cons h2 r => cases r; cases h1; cases h2; exact ⟨_, _, rfl⟩
  obtain ⟨t1, t2, rfl⟩ := pair r
  obtain ⟨t3, t4, rfl⟩ := pair r2
  show wpAny _ A (richCompare .Lt _ _) P E s
  refine richCompare_meets_room (op := .Lt) ⟨_, hz.1, rfl⟩ ⟨_, hz2.1, rfl⟩ F.slot_tuple_lt F.entry_tuple_lt (F.args_tuple_lt_2 _ _) (tuple_ltAt l l2 a b c d t1 t2 t3 t4 n n2 dd dd2 sl sl2)
    ⟨hz.1, hz2.1, show Value.bool _ ≠ Value.notImplemented ∧ P (.bool _) s from ⟨(fun x => nomatch x), kn_bool (Q := Q) (by rw [lt2_eq]; exact q) kn⟩⟩ hu

end
end
section
open PySem PySem.Calls PySem.Spec PyProof.Rows

theorem any_isInt (k : Int) {vs : List Value} {ns : List Int} (h : IntsAre vs ns) : vs.any (isInt k) = decide (k ∈ ns) := by
  induction h with
  | nil => rfl
  | cons n t _ ih =>
    rw [List.any_cons, ih, Bool.eq_iff_iff]
    show ((n == k) || decide _) = true ↔ _
    simp only [Bool.or_eq_true, beq_iff_eq, decide_eq_true_eq, List.mem_cons]
    exact or_congr eq_comm Iff.rfl

section
variable {prog : Program} {w : World} {A : Around} {E : Value → Shared → Prop} {s : Shared} {H : Hid} {P : Value → Shared → Prop}

theorem int2_inv {f : Int → Int → Prop} {x y : D} (q : int2 f x y) : ∃ a b, x = .int a ∧ y = .int b ∧ f a b := by
  unfold int2 at q
  split at q
  · split at q
    · exact ⟨_, _, rfl, rfl, q⟩
    · exact q.elim
  · exact q.elim
theorem Rd.int_inv {Z : Addr → Obj → Prop} {v : Value} {i : Int} (r : Rd Z v (.int i)) : ∃ t, v = .int i t := by cases r; exact ⟨_, rfl⟩
theorem Rd.bool_inv {Z : Addr → Obj → Prop} {v : Value} {i : Bool} (r : Rd Z v (.bool i)) : v = .bool i := by cases r; rfl
theorem inD_inv {x y : D} {Q : Bool → Prop} (q : inD x y Q) : ∃ (k : Int) (ns : List Int), x = .int k ∧ (y = .list (ns.map .int) ∨ y = .tuple (ns.map .int)) ∧ Q (decide (k ∈ ns)) := by
  unfold inD at q
  split at q
  · split at q
    · obtain ⟨ns, rfl, q⟩ := q; exact ⟨_, ns, rfl, .inl rfl, q⟩
    · obtain ⟨ns, rfl, q⟩ := q; exact ⟨_, ns, rfl, .inr rfl, q⟩
    · exact q.elim
  · exact q.elim
theorem ltD_inv {x y : D} {Q : Bool → Prop} (q : ltD x y Q) : (∃ a b, x = .int a ∧ y = .int b ∧ Q (decide (a < b))) ∨ ∃ a b c d, x = .tuple [.int a, .int b] ∧ y = .tuple [.int c, .int d] ∧ Q (decide (a < c ∨ (a = c ∧ b < d))) := by
  unfold ltD at q
  split at q
  · split at q
    · exact .inl ⟨_, _, rfl, rfl, q⟩
    · exact q.elim
  · split at q
    · unfold ltP at q
      split at q
      · split at q
        · exact .inr ⟨_, _, _, _, rfl, rfl, q⟩
        · exact q.elim
      · exact q.elim
    · exact q.elim
  · exact q.elim
theorem addD_inv {x y : D} {Q : D → Prop} (q : addD x y Q) : (∃ a b, x = .int a ∧ y = .int b ∧ Q (.int (a + b))) ∨ ∃ a b, x = .list a ∧ y = .list b ∧ a.length + b.length ≤ 1000000 ∧ Q (.list (a ++ b)) := by
  unfold addD at q
  split at q
  · split at q
    · exact .inl ⟨_, _, rfl, rfl, q⟩
    · exact q.elim
  · split at q
    · exact .inr ⟨_, _, rfl, rfl, q⟩
    · exact q.elim
  · exact q.elim
theorem mulD_inv {x y : D} {Q : D → Prop} (q : mulD x y Q) : (∃ a b, x = .int a ∧ y = .int b ∧ 0 ≤ a ∧ a ≤ 1000 ∧ 0 ≤ b ∧ b ≤ 1000 ∧ Q (.int (a * b))) ∨ ∃ d n, x = .list [d] ∧ y = .int n ∧ n.natAbs ≤ 1000000 ∧ Q (.list (List.replicate n.toNat d)) := by
  unfold mulD at q
  split at q
  · split at q
    · exact .inl ⟨_, _, rfl, rfl, q⟩
    · exact q.elim
  · split at q
    · unfold repL at q
      split at q
      · exact .inr ⟨_, _, rfl, rfl, q⟩
      · exact q.elim
    · exact q.elim
  · exact q.elim

noncomputable def opC : Cop → CmpOp
  | .eq => .Eq | .ne => .NotEq | .lt => .Lt | .le => .LtE | .gt => .Gt | .ge => .GtE | .isin => .In | .notin => .NotIn
noncomputable def opB : Bop → Operator
  | .add => .Add | .sub => .Sub | .mul => .Mult | .mod => .Mod

theorem cmp_ok {op : Cop} {x y : Value} {a b : D} {Q : Bool → Prop} {R : D → Prop} (hu : A.units + 64 < cLine) (rx : Rd (Zof s.heap H) x a) (ry : Rd (Zof s.heap H) y b) (hR : ∀ r, Q r → R (.bool r))
    (q : cmpD op a b Q) (kn : Kn s H R P) : wpAny (model prog w) A (compareOp (opC op) x y) P E s := by
  have kb : ∀ r, Q r → P (.bool r) s := fun r hr => kn_bool (hR r hr) kn
  cases op with
  | eq =>
    obtain ⟨h1, h2, q⟩ := eqD_inv q
    obtain ⟨_, e1⟩ := rx.readsZ
    obtain ⟨_, e2⟩ := ry.readsZ
    exact eq_dataH e1 e2 h1 h2 hu (kb _ q)
  | ne =>
    obtain ⟨h1, h2, q⟩ := eqD_inv (R := fun r => Q (!r)) q
    obtain ⟨_, e1⟩ := rx.readsZ
    obtain ⟨_, e2⟩ := ry.readsZ
    exact ne_dataH e1 e2 h1 h2 hu (kb _ q)
  | lt =>
    rcases ltD_inv q with ⟨i, j, rfl, rfl, q⟩ | ⟨i, j, k, l, rfl, rfl, q⟩
    · obtain ⟨t, rfl⟩ := rx.int_inv
      obtain ⟨u, rfl⟩ := ry.int_inv
      exact lt_int (kb _ q)
    · exact lt_pair_ok (by omega) rx ry (hR _ q) kn
  | le =>
    obtain ⟨i, j, rfl, rfl, q⟩ := int2_inv q
    obtain ⟨t, rfl⟩ := rx.int_inv
    obtain ⟨u, rfl⟩ := ry.int_inv
    exact PySem.P.le_int (kb _ q)
  | gt =>
    obtain ⟨i, j, rfl, rfl, q⟩ := int2_inv q
    obtain ⟨t, rfl⟩ := rx.int_inv
    obtain ⟨u, rfl⟩ := ry.int_inv
    exact PySem.P.gt_int (kb _ q)
  | ge =>
    obtain ⟨i, j, rfl, rfl, q⟩ := int2_inv q
    obtain ⟨t, rfl⟩ := rx.int_inv
    obtain ⟨u, rfl⟩ := ry.int_inv
    exact PySem.P.ge_int (kb _ q)
  | isin =>
    obtain ⟨k, ns, rfl, hy, q'⟩ := inD_inv (show inD a b Q from q)
    obtain ⟨t, rfl⟩ := rx.int_inv
    rcases hy with rfl | rfl
    · obtain ⟨l, vs, rfl, hl, _, r⟩ := ry.isList
      have hi := r.ints
      refine SeqAt.in_listAt (isInt _) hl (fun v hv => (eq_isInt _ _ hi v (by simpa using hv)).at _ _) ?_
      rw [← Array.any_toList, any_isInt _ hi]; exact kb _ q'
    · obtain ⟨l, vs, rfl, hl, _, r⟩ := ry.isTuple
      have hi := r.ints
      refine SeqAt.in_tupleAt (isInt _) hl (fun v hv => (eq_isInt _ _ hi v (by simpa using hv)).at _ _) ?_
      rw [← Array.any_toList, any_isInt _ hi]; exact kb _ q'
  | notin =>
    obtain ⟨k, ns, rfl, hy, q'⟩ := inD_inv (show inD a b (fun r => Q (!r)) from q)
    obtain ⟨t, rfl⟩ := rx.int_inv
    rcases hy with rfl | rfl
    · obtain ⟨l, vs, rfl, hl, _, r⟩ := ry.isList
      have hi := r.ints
      refine SeqAt.notIn_listAt (isInt _) hl (fun v hv => (eq_isInt _ _ hi v (by simpa using hv)).at _ _) ?_
      rw [← Array.any_toList, any_isInt _ hi]; exact kb _ q'
    · obtain ⟨l, vs, rfl, hl, _, r⟩ := ry.isTuple
      have hi := r.ints
      refine SeqAt.notIn_tupleAt (isInt _) hl (fun v hv => (eq_isInt _ _ hi v (by simpa using hv)).at _ _) ?_
      rw [← Array.any_toList, any_isInt _ hi]; exact kb _ q'

theorem sL : sizeLine = 16777216 := rfl
theorem intBits_small {a : Int} (h0 : 0 ≤ a) (h1 : a ≤ 1000) : Builtin.Int.intBits a ≤ 64 := by
  unfold Builtin.Int.intBits
  split
  · omega
  · rename_i h
    have h2 : a.natAbs ≠ 0 := by simp at h; omega
    have := (Nat.log2_lt h2 (k := 10)).mpr (by omega)
    omega

theorem bin_ok {op : Bop} {x y : Value} {a b : D} {Q : D → Prop} (hH : HidIn H s.heap) (rx : Rd (Zof s.heap H) x a) (ry : Rd (Zof s.heap H) y b)
    (q : binD op a b Q) (kn : Knf s H Q P) : wpAny (model prog w) A (binaryOp (opB op) x y) P E s := by
  cases op with
  | add =>
    rcases addD_inv q with ⟨i, j, rfl, rfl, q⟩ | ⟨ds, es, rfl, rfl, hn, q⟩
    · obtain ⟨t, rfl⟩ := rx.int_inv
      obtain ⟨u, rfl⟩ := ry.int_inv
      exact add_int (kn_intf q kn)
    · obtain ⟨l, ⟨vs⟩, rfl, hl, hn1, r⟩ := rx.isList
      obtain ⟨l2, ⟨vs2⟩, rfl, hl2, hn2, r2⟩ := ry.isList
      have e1 := r.length
      have e2 := r2.length
      simp only at e1 e2
      have hsz : vs.length + vs2.length ≤ sizeLine := by rw [sL]; omega
      obtain ⟨⟨cls, dd, data, sl⟩, ho, hc, n, hd⟩ := id hl
      obtain ⟨⟨cls2, dd2, data2, sl2⟩, ho2, hc2, n2, hd2⟩ := id hl2
      simp only at hc hd hc2 hd2
      subst hc hd hc2 hd2
      refine concat_meets ⟨_, ho, rfl⟩ ⟨_, ho2, rfl⟩ noFill_list_add seq_list_add PySem.F.slot_list_add PySem.F.entry_list_add (PySem.F.args_list_add_2 _ _) (list_addW l l2 vs.toArray vs2.toArray n n2 dd dd2 sl sl2 (by simpa using hsz)) ⟨ho, ho2, ?_⟩
      exact kn_listf (vs := vs ++ vs2) (by simp) hH (by simpa using hsz) (r.append r2) q kn
  | sub =>
    obtain ⟨i, j, rfl, rfl, q⟩ := int2_inv q
    obtain ⟨t, rfl⟩ := rx.int_inv
    obtain ⟨u, rfl⟩ := ry.int_inv
    exact sub_int (kn_intf q kn)
  | mul =>
    rcases mulD_inv q with ⟨i, j, rfl, rfl, h0, h1, h2, h3, q⟩ | ⟨d, n, rfl, rfl, hn, q⟩
    · obtain ⟨t, rfl⟩ := rx.int_inv
      obtain ⟨u, rfl⟩ := ry.int_inv
      exact mul_int (kn_intf q kn) (IntMulOk.of_left (intBits_small h0 h1))
    · obtain ⟨l, ⟨vs⟩, rfl, hl, hn1, r⟩ := rx.isList
      obtain ⟨u, rfl⟩ := ry.int_inv
      cases r with
      | cons hv r => cases r with
        | nil =>
          rename_i v
          obtain ⟨⟨cls, dd, data, sl⟩, ho, hc, k, hd⟩ := id hl
          simp only at hc hd
          subst hc hd
          · refine wpAny_binaryOp_repeat_ref (T := "list") (U := "int") (by decide) ⟨_, ho, rfl⟩ (fun s' => typeIs_int s' n u) noFill_list_mul F.fills_int_mul F.slot_int_rmul repeat_list F.slot_int_index.lookup
              (call_meets F.slot_int_rmul (typeIs_int s n u) F.entry_int_rmul (F.args_int_rmul_2 _ _) (lm_int_rmul_list_any n u l [v].toArray k dd sl)
                ⟨ho, rfl, ⟨_, ho, rfl⟩, call_meets F.slot_list_mul ⟨_, ho, rfl⟩ F.entry_list_mul (F.args_list_mul_2 _ _)
                  (lm_list_mul_any l [v].toArray k dd sl n u (by simp [Builtin.List.listFitsIndex]; omega) (by simp; omega) (by simp [Builtin.List.listTooLong, sizeLine]; omega))
                  ⟨ho, ?_⟩⟩)
            refine kn_listf (vs := List.replicate n.toNat v) ?_ hH (by rw [sL, List.length_replicate]; omega) (RdAll.replicate hv _) q kn
            rw [listMul_foldl_if]
            simp [List.flatten_replicate_singleton]
  | mod =>
    obtain ⟨i, j, rfl, rfl, h0, q⟩ := int2_inv q
    obtain ⟨t, rfl⟩ := rx.int_inv
    obtain ⟨u, rfl⟩ := ry.int_inv
    refine mod_int' (by omega) ?_
    rw [Int.fmod_eq_emod_of_nonneg _ (by omega)]
    exact kn_intf q kn
end
end
section
open PySem PySem.Calls PySem.Spec PyProof.Rows

section
variable {prog : Program} {w : World} {A : Around} {E : Value → Shared → Prop} {s : Shared} {H : Hid} {P : Value → Shared → Prop}

theorem len_ok {v : Value} {d : D} {Q : D → Prop} (r : Rd (Zof s.heap H) v d) (q : lenD d Q) (kn : Kn s H Q P) : wpAny (model prog w) A (call (.builtin "len") [v]) P E s := by
  cases d with
  | list ds =>
    obtain ⟨a, vs, rfl, hl, hn, r⟩ := r.isList
    have e := r.size
    have : sizeLine = 2 ^ 24 := rfl
    refine len_list hl (by omega) ?_
    rw [e]
    exact kn_int q kn
  | tuple ds =>
    obtain ⟨a, vs, rfl, hl, hn, r⟩ := r.isTuple
    have e := r.size
    have : sizeLine = 2 ^ 24 := rfl
    refine len_tuple hl (by omega) ?_
    rw [e]
    exact kn_int q kn
  | _ => exact q.elim
theorem len_list_ok {a : Addr} {vs : Array Value} {ds : List D} {Q : D → Prop} (hl : s.heap.IsList a vs) (hn : vs.size ≤ sizeLine) (r : RdAll (Zof s.heap H) vs.toList ds) (q : Q (.int ds.length)) (kn : Kn s H Q P) :
    wpAny (model prog w) A (call (.builtin "len") [.ref a]) P E s := by
  have e := r.size
  have : sizeLine = 2 ^ 24 := rfl
  refine len_list hl (by omega) ?_
  rw [e]
  exact kn_int q kn

theorem kn_heap_int {Q : D → Prop} {i : Int} {t : Tok} {h' : Heap} {tk : Nat} (q : Q (.int i)) (kn : Kn s H Q P) (hk : s.heap.StaysIn h') : P (.int i t) { s with heap := h', toks := tk } := kn _ _ _ q (.int _ _) (Ext.of hk)

theorem min_ok {v u : Value} {x y : D} {Q : D → Prop} (hh : A.handled = none) (r : Rd (Zof s.heap H) v x) (r' : Rd (Zof s.heap H) u y) (q : minD x y Q) (kn : Kn s H Q P) : wpAny (model prog w) A (call (.builtin "min") [v, u]) P E s := by
  cases r with
  | int i t =>
    cases r' with
    | int j t' =>
      refine min_two_ints hh fun h' tk hk => ?_
      have q : Q (.int (min i j)) := q
      by_cases hji : j < i
      · (first | refine Mine.ite_yes hji ?_ | rw [if_pos hji]); exact kn_heap_int (by rw [Int.min_eq_right (by omega)] at q; exact q) kn hk
      · (first | refine Mine.ite_no hji ?_ | rw [if_neg hji]); exact kn_heap_int (by rw [Int.min_eq_left (by omega)] at q; exact q) kn hk
    | _ => exact q.elim
  | _ => exact q.elim
theorem max_ok {v u : Value} {x y : D} {Q : D → Prop} (hh : A.handled = none) (r : Rd (Zof s.heap H) v x) (r' : Rd (Zof s.heap H) u y) (q : maxD x y Q) (kn : Kn s H Q P) : wpAny (model prog w) A (call (.builtin "max") [v, u]) P E s := by
  cases r with
  | int i t =>
    cases r' with
    | int j t' =>
      refine max_two_ints hh fun h' tk hk => ?_
      have q : Q (.int (max i j)) := q
      by_cases hji : j > i
      · (first | refine Mine.ite_yes hji ?_ | rw [if_pos hji]); exact kn_heap_int (by rw [Int.max_eq_right (by omega)] at q; exact q) kn hk
      · (first | refine Mine.ite_no hji ?_ | rw [if_neg hji]); exact kn_heap_int (by rw [Int.max_eq_left (by omega)] at q; exact q) kn hk
    | _ => exact q.elim
  | _ => exact q.elim

theorem sum_ok {v : Value} {d : D} {Q : D → Prop} (hh : A.handled = none) (r : Rd (Zof s.heap H) v d) (q : sumD d Q) (kn : Kn s H Q P) : wpAny (model prog w) A (call (.builtin "sum") [v]) P E s := by
  cases d with
  | list ds =>
    obtain ⟨ns, rfl, q⟩ := q
    obtain ⟨a, ⟨vs⟩, rfl, hl, hn, r⟩ := r.isList
    have hi : IntsAre vs ns := r.ints
    obtain ⟨xs, hx⟩ := hi.allInts.items
    have hl' : s.heap.IsList a (intItems xs) := hx ▸ hl
    refine sum_intListG hh hl' fun h' tk t' hk => ?_
    have e1 : ns = xs.toList.map (·.1) := by
      rw [← nums_intItems, ← hx]
      exact (show numsOf vs.toArray.toList = ns from hi.numsOf).symm
    have e2 : preSum (numAt xs) xs.size = ns.sum := by
      rw [preSum_eq, List.take_of_length_le (by simp), e1]
    rw [e2]
    exact kn_heap_int q kn hk
  | _ => exact q.elim

theorem listOf_ok {v : Value} {d : D} {Q : D → Prop} (hH : HidIn H s.heap) (r : Rd (Zof s.heap H) v d) (q : listOfD d Q) (kn : Kn s H Q P) : wpAny (model prog w) A (call (.type "list") [v]) P E s := by
  cases d with
  | list ds =>
    obtain ⟨hn', q⟩ := q
    obtain ⟨a, vs, rfl, hl, hn, r⟩ := r.isList
    obtain ⟨o, ho, hc, n, hd⟩ := hl
    refine call_list_seq (hsz := hn) a (.inl rfl) ho hc hd fun h' c' hk hD => ?_
    exact kn _ _ _ q (rd_list ⟨_, hD⟩ (hH.fresh _ (Nat.le_refl _)) hn (r.ext hk)) (Ext.of (tk := s.toks) hk)
  | _ => exact q.elim

theorem rangeS_len (lo hi : Int) : (rangeL lo hi).length = (hi - lo).toNat := by unfold rangeL; simp
theorem rangeS_get (lo hi : Int) {i : Nat} (h : i < (rangeL lo hi).length) : (rangeL lo hi)[i] = .int (lo + (i : Nat)) := by simp [rangeL]

theorem rdAll_of_get {Z : Addr → Obj → Prop} : ∀ {vs : List Value} {ds : List D}, vs.length = ds.length → (∀ i (h : i < ds.length) v, vs[i]? = some v → Rd Z v ds[i]) → RdAll Z vs ds
  | [], [], _, _ => .nil
  | v :: vs, d :: ds, e, h => .cons (h 0 (by simp) v rfl) (rdAll_of_get (by simpa using e) fun i hi u hu => h (i + 1) (by simpa using hi) u (by simpa using hu))

theorem size_range (a b : Int) : Builtin.Range.rangeSize a b 1 = (((b - a).toNat : Nat) : Int) := by rw [rangeSize_one]; split <;> omega

theorem listRange_ok {r : Addr} {k : Int} {t u v : Tok} {Q : D → Prop} (hh : A.handled = none) (hH : HidIn H s.heap) (hr : IsRange s.heap r 0 k 1 t u v) (q : listRangeD (.int k) Q) (kn : Kn s H Q P) : wpAny (model prog w) A (call (.type "list") [.ref r]) P E s := by
  obtain ⟨hk, q⟩ := q
  refine call_list_range hh hr (small_one (by decide) (by decide) (by omega) (by omega)) (n := (k - 0).toNat) (size_range _ _) (by omega) fun h' tk acc' c' hk' hS hacc => ?_
  refine kn _ _ _ q (rd_list ⟨_, hS⟩ (hH.fresh _ (Nat.le_refl _)) ?_ ?_) (Ext.of hk')
  · rw [hacc.1, sL]; omega
  · refine rdAll_of_get ?_ fun i hi x hx => ?_
    · rw [Array.length_toList, hacc.1, rangeS_len]
    · obtain ⟨t, rfl⟩ := hacc.2 i x (by simpa using hx)
      rw [rangeS_get]
      simp only [Int.mul_one]
      exact .int _ _

theorem all_ok {v : Value} {d : D} {Q : D → Prop} (hh : A.handled = none) (r : Rd (Zof s.heap H) v d) (q : allD d Q) (kn : Kn s H Q P) : wpAny (model prog w) A (call (.builtin "all") [v]) P E s := by
  cases d with
  | list ds =>
    obtain ⟨bs, rfl, q⟩ := q
    obtain ⟨l, vs, rfl, hl, hn, r⟩ := r.isList
    have hlt : l < s.heap.objs.size := by obtain ⟨_, e, _⟩ := hl; exact Heap.lt_size e
    have es := r.size
    rw [List.length_map] at es
    refine call_all_walk (wpAny_pyIter_list hl ?_)
    refine ⟨s.heap.objs.size, [s.heap.objs.size, l], [s.heap.objs.size], vs.size, _, _, fun i => (bs[i]?).getD true, rfl, Walks.list (A := A.in1) hh _ l (Nat.ne_of_lt hlt) vs,
      ⟨⟨_, Heap.get?_push_size _ rfl, rfl, rfl⟩, hl.push _⟩, fun i v s' Q' E' hP hQ => ?_, fun h' tk hk => ?_⟩
    · have hi : i < vs.size := (Array.getElem?_eq_some_iff.mp hP).1
      obtain ⟨x, hx, rx⟩ := r.at (i := i) (by rw [List.length_map]; omega)
      rw [hP] at hx; cases hx
      rw [List.getElem_map] at rx
      have := rx.bool_inv
      subst this
      dsimp only at hQ
      rw [List.getElem?_eq_getElem (by omega)] at hQ
      exact wpAny_truthy_bool hQ
    · have e : ((List.range vs.size).all fun i => (bs[i]?).getD true) = bs.all id := by
        rw [es]; exact LSm.range_all bs
      rw [e]
      exact kn _ _ _ q (.bool _) (Ext.of (LSm.kept_iter hk))
  | _ => exact q.elim

theorem count_ok {v u : Value} {x y : D} {Q : D → Prop} (r : Rd (Zof s.heap H) v x) (r' : Rd (Zof s.heap H) u y) (q : countD x y Q) (kn : Kn s H Q P) : wpAny (model prog w) A (call (.builtin "list.count") [v, u]) P E s := by
  cases x with
  | list ds =>
    cases r' with
    | int k t =>
      obtain ⟨ns, rfl, q⟩ := q
      obtain ⟨l, ⟨vs⟩, rfl, hl, hn, r⟩ := r.isList
      have hi : IntsAre vs ns := r.ints
      obtain ⟨⟨cls, dd, data, sl⟩, ho, hc, n, hd⟩ := id hl
      simp only at hc hd
      subst hc hd
      refine call_meets PySem.F.slot_list_count ⟨_, ho, rfl⟩ PySem.F.entry_list_count (PySem.F.args_list_count_2 _ _) (SeqAt.list_countAt l vs.toArray n dd sl (.int k t) (isInt k)) ⟨ho, fun y hy => (eq_isInt k t hi y (by simpa using hy)).at _ _, ?_⟩
      rw [show vs.toArray.toList = vs from rfl, countP_isInt k hi]
      exact kn_int q kn
    | _ => exact q.elim
  | _ => exact q.elim

theorem sortedI_ok {v : Value} {d : D} {Q : D → Prop} (hH : HidIn H s.heap) (r : Rd (Zof s.heap H) v d) (q : sortedID d Q) (kn : Kn s H Q P) : wpAny (model prog w) A (call (.builtin "sorted") [v]) P E s := by
  cases d with
  | list ds =>
    obtain ⟨ns, rfl, hlt, q⟩ := q
    obtain ⟨l, ⟨vs⟩, rfl, hl, hn, r⟩ := r.isList
    have hi : IntsAre vs ns := r.ints
    refine sorted_ints hl hi (by rw [hi.length]; exact hlt) fun out ns' ho hp hs => ?_
    refine kn _ _ _ (q ns' hp hs) ?_ ?_
    · obtain ⟨e, he⟩ := sortedAll_at s.heap vs out
      have hz : out.size = ns.length := by have := ho.length; rw [Array.length_toList] at this; rw [this, hp.length_eq]
      exact rd_list ⟨e, he⟩ (hH.fresh _ (by omega)) (by rw [hz, sL]; omega) (RdAll.of_ints ho)
    · exact Ext.of (tk := s.toks) fun b o e => sortedAll_old e
  | _ => exact q.elim

theorem dedup_loop (as : List Int) : ∀ bs : List Int, List.eraseDupsBy.loop (fun x1 x2 => x1 == x2) as bs = as.foldl step_dedup bs.reverse := by
  induction as with
  | nil => intro bs; rfl
  | cons a as ih =>
    intro bs
    have e : bs.reverse.any (· == a) = bs.any (fun x => a == x) := by
      rw [List.any_reverse]
      congr 1
      funext x
      exact Bool.beq_comm
    have e2 : step_dedup bs.reverse a = if bs.any (fun x => a == x) = true then bs.reverse else bs.reverse ++ [a] := by unfold step_dedup; rw [e]
    rw [List.foldl_cons, e2]
    unfold List.eraseDupsBy.loop
    cases h : bs.any (fun x => a == x) with
    | true => simp only [h, if_true]; rw [ih]
    | false => simp only [h]; rw [ih]; simp
theorem firstMet_eq (ns : List Int) : firstMet (fun i => ns.getD i 0) ns.length = ns.eraseDups := by
  have : (List.range ns.length).map (fun i => ns.getD i 0) = ns := by
    apply List.ext_getElem
    · simp
    · intro i h1 h2; simp [List.getD_eq_getElem?_getD, List.getElem?_eq_getElem h2]
  unfold firstMet
  rw [this]
  exact (dedup_loop ns []).symm

theorem set_ok {v : Value} {ds : List D} {Q : D → Prop} (hh : A.handled = none) (r : Rd (Zof s.heap H) v (.list ds)) (q : setLenD (.list ds) Q) (kn : Kn s H Q P) :
    wpAny (model prog w) A (call (.type "set") [v]) (fun v s' => wpAny (model prog w) A (call (.builtin "len") [v]) P E s') E s := by
  obtain ⟨ns, rfl, hlt, q⟩ := q
  obtain ⟨l, ⟨vs⟩, rfl, hl, hn, r⟩ := r.isList
  have hi : IntsAre vs ns := r.ints
  have hsz : vs.toArray.size = ns.length := by rw [List.size_toArray]; exact hi.length
  refine call_set_list (items := vs.toArray) (ns := ns) hh hl hi (by rw [hsz]; unfold scanBound; omega) fun h' tk hS hk => ?_
  rw [hsz, firstMet_eq] at hS
  obtain ⟨o, es, ep, t, ho, hex, hd, _, _, _, hf, hes⟩ := hS
  have hle : ns.eraseDups.length ≤ ns.length := by
    have := firstMet_length_le (fun i => ns.getD i 0) ns.length
    rw [firstMet_eq] at this; exact this
  refine call_len_set ho hex hd hf (by omega) ?_
  rw [hes]
  exact kn _ _ _ q (.int _ _) ⟨fun b o e => hk b o (Heap.lt_size e) e, rfl, rfl⟩

theorem slice_ok {a : Addr} {vs : Array Value} {ds es : List D} {vl vu : Value} {lo hi : Option Int} {Q : D → Prop} (hH : HidIn H s.heap) (hl : s.heap.IsList a vs) (hn : vs.size ≤ sizeLine) (r : RdAll (Zof s.heap H) vs.toList ds)
    (hp : RdAll (Zof s.heap H) (slicePick vs lo hi none).toList es) (q : Q (.list es)) (kn : Kn s H Q P) :
    P (.ref (s.heap.objs.size + 1)) { s with heap := (s.heap.push { cls := .type "slice", data := .fields #[vl, vu, .none] }).push { cls := .type "list", data := .seq (slicePick vs lo hi none) } } := by
  have hk : s.heap.StaysIn ((s.heap.push { cls := .type "slice", data := .fields #[vl, vu, .none] }).push { cls := .type "list", data := .seq (slicePick vs lo hi none) }) := fun b o e => Heap.get?_push_of_some _ (Heap.get?_push_of_some _ e)
  have hg : ((s.heap.push { cls := .type "slice", data := .fields #[vl, vu, .none] }).push { cls := .type "list", data := .seq (slicePick vs lo hi none) }).PlainList (s.heap.objs.size + 1) (slicePick vs lo hi none) := by
    have : s.heap.objs.size + 1 = (s.heap.push { cls := .type "slice", data := .fields #[vl, vu, .none] }).objs.size := by rw [Heap.size_push]
    rw [this]
    exact ⟨_, Heap.get?_push_size _ rfl⟩
  exact kn _ _ _ q (rd_list hg (hH.fresh _ (by omega)) (Nat.le_trans (slicePick_size_le _ _ _ _) hn) (hp.ext hk)) (Ext.of (tk := s.toks) hk)
theorem upto_any (vs : Array Value) (k : Nat) : slicePick vs none (some (k : Int)) none = (vs.toList.take k).toArray := by
  by_cases h : k ≤ vs.size
  · exact slicePick_upto vs k h
  · rw [List.take_of_length_le (by simp; omega)]
    have : slicePick vs none (some (k : Int)) none = slicePick vs none (some (vs.size : Int)) none := by
      unfold slicePick sliceBounds
      simp only [Option.getD_none]
      have e1 : ¬ ((k : Int) < 0) := by omega
      have e2 : ¬ ((vs.size : Int) < 0) := by omega
      simp only [e1, e2, if_false, show (1 : Int) > 0 by decide, if_true]
      rw [Int.min_eq_right (by omega), Int.min_eq_left (by omega)]
    rw [this, slicePick_upto vs vs.size (Nat.le_refl _), List.take_of_length_le (by simp)]
theorem from_any (vs : Array Value) (k : Nat) : slicePick vs (some (k : Int)) none none = (vs.toList.drop k).toArray := by
  by_cases h : k ≤ vs.size
  · exact slicePick_from vs k h
  · rw [List.drop_of_length_le (by simp; omega)]
    have : slicePick vs (some (k : Int)) none none = slicePick vs (some (vs.size : Int)) none none := by
      unfold slicePick sliceBounds
      simp only [Option.getD_none]
      have e1 : ¬ ((k : Int) < 0) := by omega
      have e2 : ¬ ((vs.size : Int) < 0) := by omega
      simp only [e1, e2, if_false, show (1 : Int) > 0 by decide, if_true]
      rw [Int.min_eq_right (by omega), Int.min_eq_left (by omega)]
    rw [this, slicePick_from vs vs.size (Nat.le_refl _), List.drop_of_length_le (by simp)]
theorem both_any (vs : Array Value) (k j : Nat) : slicePick vs (some (k : Int)) (some (j : Int)) none = ((vs.toList.take j).drop k).toArray := by
  have key : ∀ k j : Nat, slicePick vs (some (k : Int)) (some (j : Int)) none = slicePick vs (some ((min k vs.size : Nat) : Int)) (some ((min j vs.size : Nat) : Int)) none := by
    intro k j
    unfold slicePick sliceBounds
    have e : ∀ k : Nat, ¬ ((k : Int) < 0) := by intro k; omega
    simp only [Option.getD_none, e, if_false, show (1 : Int) > 0 by decide, if_true]
    have h1 : ∀ k : Nat, max 0 (min ((min k vs.size : Nat) : Int) (vs.size : Int)) = max 0 (min (k : Int) (vs.size : Int)) := by intro k; omega
    rw [h1, h1]
  rw [key]
  by_cases h : min k vs.size ≤ min j vs.size
  · rw [slicePick_run vs _ _ (Nat.min_le_right _ _) h]
    congr 1
    rw [List.drop_take]
    apply List.ext_getElem?
    intro i
    simp only [List.getElem?_take, List.getElem?_drop, Array.getElem?_toList]
    by_cases hk : k ≤ vs.size
    · rw [Nat.min_eq_left hk]
      by_cases hj : j ≤ vs.size
      · rw [Nat.min_eq_left hj]
      · rw [Nat.min_eq_right (by omega)]
        by_cases hi : i < vs.size - k
        · rw [if_pos hi, if_pos (by omega)]
        · (first | refine Mine.ite_no hi ?_ | rw [if_neg hi])
          split
          · rw [Array.getElem?_eq_none (by omega)]
          · rfl
    · have e1 : min k vs.size = vs.size := by omega
      rw [e1]
      (first | refine Mine.ite_no (by omega) ?_ | rw [if_neg (by omega)])
      split
      · rw [Array.getElem?_eq_none (by omega)]
      · rfl
  · have hkj : j < k ∧ j < vs.size := by omega
    rw [List.drop_of_length_le (by simp; omega)]
    unfold slicePick sliceBounds sliceRange
    have e : ∀ k : Nat, ¬ ((k : Int) < 0) := by intro k; omega
    simp only [Option.getD_none, e, if_false, show (1 : Int) > 0 by decide, if_true]
    (first | refine Mine.ite_no (by omega) ?_ | rw [if_neg (by omega)])
    simp

end
end
section
open PySem PySem.Calls PySem.Spec PyProof.Rows

noncomputable def gl (sc : Scope) (x : Str) : Bool := sc.names.lookup x == some .globalImplicit
noncomputable def nameOk (x : Str) : Bool := !(x == Str.ofString "__debug__") && !(x == Str.ofString "__classdict__")

/-! destructors that carry their proof -/
set_option genSizeOf false
set_option genInjectivity false
structure D2 {α β : Type} (C : α → β → Prop) where
  (a : α) (b : β) (h : C a b)
structure D3 {α β γ : Type} (C : α → β → γ → Prop) where
  (a : α) (b : β) (c : γ) (h : C a b c)
structure D4 {α β γ δ : Type} (C : α → β → γ → δ → Prop) where
  (a : α) (b : β) (c : γ) (d : δ) (h : C a b c d)
structure D5 {α β γ δ ε : Type} (C : α → β → γ → δ → ε → Prop) where
  (a : α) (b : β) (c : γ) (d : δ) (e : ε) (h : C a b c d e)
set_option genSizeOf true
set_option genInjectivity true
theorem any_inv {α : Type} {o : Option α} {f : α → Bool} (h : o.any f = true) : ∃ q, f q = true := by
  cases o with
  | none => cases h
  | some q => exact ⟨q, h⟩
theorem any_elim {α : Type} {o : Option α} {f : α → Bool} {G : Prop} (h : o.any f = true) (k : ∀ q, f q = true → G) : G := let ⟨q, hq⟩ := any_inv h; k q hq
theorem or_inv {a b : Bool} (h : (a || b) = true) : a = true ∨ b = true := by simpa using h
theorem some_inv {α : Type} {o : Option α} (h : o.isSome = true) : ∃ q : α, o = some q := Option.isSome_iff_exists.mp h
noncomputable def cNil {α : Type} : (l : List α) → Option {z : Unit // l = []}
  | [] => some ⟨(), rfl⟩
  | _ :: _ => none
noncomputable def cCons {α : Type} : (l : List α) → Option (D2 fun (xa : α) (xb : List α) => l = xa :: xb)
  | [] => none
  | x :: r => some ⟨x, r, rfl⟩
noncomputable def cOne {α : Type} (l : List α) : Option {z : α // l = [z]} := (cCons l).bind fun c => (cNil c.b).bind fun n => some ⟨c.a, c.h.trans (congrArg (c.a :: ·) n.2)⟩
noncomputable def cTwo {α : Type} (l : List α) : Option (D2 fun (xa : α) (xb : α) => l = [xa, xb]) := (cCons l).bind fun c => (cOne c.b).bind fun n => some ⟨c.a, n.1, c.h.trans (congrArg (c.a :: ·) n.2)⟩
noncomputable def cThree {α : Type} (l : List α) : Option (D3 fun (xa : α) (xb : α) (xc : α) => l = [xa, xb, xc]) := (cCons l).bind fun c => (cTwo c.b).bind fun n => some ⟨c.a, n.a, n.b, c.h.trans (congrArg (c.a :: ·) n.h)⟩
noncomputable def cSome {α : Type} : (o : Option α) → Option {z : α // o = some z}
  | none => none
  | some x => some ⟨x, rfl⟩
noncomputable def cNo {α : Type} : (o : Option α) → Option {z : Unit // o = none}
  | none => some ⟨(), rfl⟩
  | some _ => none
theorem call_c {f f' : PySem.Expr} {xs xs' : List PySem.Expr} {ks ks' : List Keyword} {p : Pos} (h1 : f = f') (h2 : xs = xs') (h3 : ks = ks') : PySem.Expr.Call f xs ks p = .Call f' xs' ks' p := by rw [h1, h2, h3]
theorem slice_c {l l' u u' s s' : Option PySem.Expr} {p : Pos} (h1 : l = l') (h2 : u = u') (h3 : s = s') : PySem.Expr.Slice l u s p = .Slice l' u' s' p := by rw [h1, h2, h3]
theorem cmp_c {x : PySem.Expr} {o o' : List CmpOp} {y y' : List PySem.Expr} {p : Pos} (h1 : o = o') (h2 : y = y') : PySem.Expr.Compare x o y p = .Compare x o' y' p := by rw [h1, h2]
theorem const_c {c c' : Const} {k : Nat} {p : Pos} (h : c = c') : PySem.Expr.Constant c k p = .Constant c' k p := by rw [h]
theorem bool_c {o o' : BoolOp} {x x' : List PySem.Expr} {p : Pos} (h : o = o') (h2 : x = x') : PySem.Expr.BoolOp o x p = .BoolOp o' x' p := by rw [h, h2]
theorem comp_c {x : PySem.Expr} {g g' : List Comprehension} {sc : Scope} {p : Pos} (h : g = g') : PySem.Expr.ListComp x g sc p = .ListComp x g' sc p := by rw [h]
theorem attr_c {o o' : PySem.Expr} {m : Str} {a : Pos} (h : o = o') : PySem.Expr.Attribute o m a = .Attribute o' m a := by rw [h]
noncomputable def cName (e : PySem.Expr) : Option {x : Str // ∃ p, e = .Name x p} := if h : e.ctorIdx = 23 then Expr.Name.elim (motive_1 := fun e => Option {x : Str // ∃ p, e = .Name x p}) e h fun x p => some ⟨x, p, rfl⟩ else none
noncomputable def cCall (e : PySem.Expr) : Option (D2 fun (xa : Str) (xb : List PySem.Expr) => ∃ p p', e = .Call (.Name xa p) xb [] p') := if h : e.ctorIdx = 16 then
  Expr.Call.elim (motive_1 := fun e => Option (D2 fun (xa : Str) (xb : List PySem.Expr) => ∃ p p', e = .Call (.Name xa p) xb [] p')) e h fun g xs ks p' => (cName g).bind fun n => (cNil ks).bind fun k => some ⟨n.1, xs, let ⟨p, hp⟩ := n.2; ⟨p, p', call_c hp rfl k.2⟩⟩ else none
noncomputable def cCall1 (e : PySem.Expr) : Option (D2 fun (xa : Str) (xb : PySem.Expr) => ∃ p p', e = .Call (.Name xa p) [xb] [] p') := (cCall e).bind fun c => (cOne c.b).bind fun z => some ⟨c.a, z.1, let ⟨p, p', h⟩ := c.h; ⟨p, p', h.trans (call_c rfl z.2 rfl)⟩⟩
noncomputable def cCall2 (e : PySem.Expr) : Option (D3 fun (xa : Str) (xb : PySem.Expr) (xc : PySem.Expr) => ∃ p p', e = .Call (.Name xa p) [xb, xc] [] p') := (cCall e).bind fun c => (cTwo c.b).bind fun z => some ⟨c.a, z.a, z.b, let ⟨p, p', h⟩ := c.h; ⟨p, p', h.trans (call_c rfl z.h rfl)⟩⟩
noncomputable def cSub (e : PySem.Expr) : Option (D2 fun (xa : PySem.Expr) (xb : PySem.Expr) => ∃ p, e = .Subscript xa xb p) := if h : e.ctorIdx = 21 then Expr.Subscript.elim (motive_1 := fun e => Option (D2 fun (xa : PySem.Expr) (xb : PySem.Expr) => ∃ p, e = .Subscript xa xb p)) e h fun x y p => some ⟨x, y, p, rfl⟩ else none
noncomputable def cSlice (e : PySem.Expr) : Option (D3 fun (xa : Option PySem.Expr) (xb : Option PySem.Expr) (xc : Option PySem.Expr) => ∃ p, e = .Slice xa xb xc p) := if h : e.ctorIdx = 26 then Expr.Slice.elim (motive_1 := fun e => Option (D3 fun (xa : Option PySem.Expr) (xb : Option PySem.Expr) (xc : Option PySem.Expr) => ∃ p, e = .Slice xa xb xc p)) e h fun l u s p => some ⟨l, u, s, p, rfl⟩ else none
noncomputable def cSlTo (e : PySem.Expr) : Option {u : PySem.Expr // ∃ p, e = .Slice none (some u) none p} := (cSlice e).bind fun c => (cNo c.a).bind fun a => (cSome c.b).bind fun b => (cNo c.c).bind fun d => some ⟨b.1, let ⟨p, h⟩ := c.h; ⟨p, h.trans (slice_c a.2 b.2 d.2)⟩⟩
noncomputable def cSlFrom (e : PySem.Expr) : Option {u : PySem.Expr // ∃ p, e = .Slice (some u) none none p} := (cSlice e).bind fun c => (cSome c.a).bind fun a => (cNo c.b).bind fun b => (cNo c.c).bind fun d => some ⟨a.1, let ⟨p, h⟩ := c.h; ⟨p, h.trans (slice_c a.2 b.2 d.2)⟩⟩
noncomputable def cSlBoth (e : PySem.Expr) : Option (D2 fun (xa : PySem.Expr) (xb : PySem.Expr) => ∃ p, e = .Slice (some xa) (some xb) none p) := (cSlice e).bind fun c => (cSome c.a).bind fun a => (cSome c.b).bind fun b => (cNo c.c).bind fun d => some ⟨a.1, b.1, let ⟨p, h⟩ := c.h; ⟨p, h.trans (slice_c a.2 b.2 d.2)⟩⟩
noncomputable def cSlRev (e : PySem.Expr) : Option {u : PySem.Expr // ∃ p, e = .Slice none none (some u) p} := (cSlice e).bind fun c => (cNo c.a).bind fun a => (cNo c.b).bind fun b => (cSome c.c).bind fun d => some ⟨d.1, let ⟨p, h⟩ := c.h; ⟨p, h.trans (slice_c a.2 b.2 d.2)⟩⟩
noncomputable def cCmp (e : PySem.Expr) : Option (D3 fun (xa : CmpOp) (xb : PySem.Expr) (xc : PySem.Expr) => ∃ p, e = .Compare xb [xa] [xc] p) := if h : e.ctorIdx = 15 then
  Expr.Compare.elim (motive_1 := fun e => Option (D3 fun (xa : CmpOp) (xb : PySem.Expr) (xc : PySem.Expr) => ∃ p, e = .Compare xb [xa] [xc] p)) e h fun x os ys p => (cOne os).bind fun o => (cOne ys).bind fun y => some ⟨o.1, x, y.1, p, cmp_c o.2 y.2⟩ else none
noncomputable def cBin (e : PySem.Expr) : Option (D3 fun (xa : Operator) (xb : PySem.Expr) (xc : PySem.Expr) => ∃ p, e = .BinOp xb xa xc p) := if h : e.ctorIdx = 2 then Expr.BinOp.elim (motive_1 := fun e => Option (D3 fun (xa : Operator) (xb : PySem.Expr) (xc : PySem.Expr) => ∃ p, e = .BinOp xb xa xc p)) e h fun l o r p => some ⟨o, l, r, p, rfl⟩ else none
noncomputable def cConst (e : PySem.Expr) : Option {c : Const // ∃ k p, e = .Constant c k p} := if h : e.ctorIdx = 19 then Expr.Constant.elim (motive_1 := fun e => Option {c : Const // ∃ k p, e = .Constant c k p}) e h fun c k p => some ⟨c, k, p, rfl⟩ else none
noncomputable def cNoneC (e : PySem.Expr) : Option {u : Unit // ∃ k p, e = .Constant .none k p} := (cConst e).bind fun c => if h : c.1.ctorIdx = 0 then some ⟨(), let ⟨k, p, hc⟩ := c.2; ⟨k, p, hc.trans (const_c (Const.none.elim (motive := fun c => c = Const.none) c.1 h rfl))⟩⟩ else none
noncomputable def cBoolC (e : PySem.Expr) : Option {b : Bool // ∃ k p, e = .Constant (.bool b) k p} := (cConst e).bind fun c => if h : c.1.ctorIdx = 1 then (Const.bool.elim (motive := fun c => Option {b : Bool // c = Const.bool b}) c.1 h fun b => some ⟨b, rfl⟩).bind fun b => some ⟨b.1, let ⟨k, p, hc⟩ := c.2; ⟨k, p, hc.trans (const_c b.2)⟩⟩ else none
noncomputable def cInt (e : PySem.Expr) : Option {i : Int // ∃ k p, e = .Constant (.int i) k p} := (cConst e).bind fun c => if h : c.1.ctorIdx = 2 then (Const.int.elim (motive := fun c => Option {b : Int // c = Const.int b}) c.1 h fun b => some ⟨b, rfl⟩).bind fun b => some ⟨b.1, let ⟨k, p, hc⟩ := c.2; ⟨k, p, hc.trans (const_c b.2)⟩⟩ else none
noncomputable def cStr (e : PySem.Expr) : Option {b : Str // ∃ k p, e = .Constant (.str b) k p} := (cConst e).bind fun c => if h : c.1.ctorIdx = 5 then (Const.str.elim (motive := fun c => Option {b : Str // c = Const.str b}) c.1 h fun b => some ⟨b, rfl⟩).bind fun b => some ⟨b.1, let ⟨k, p, hc⟩ := c.2; ⟨k, p, hc.trans (const_c b.2)⟩⟩ else none
noncomputable def cUn (u : UnaryOp) (e : PySem.Expr) : Option {x : PySem.Expr // ∃ p, e = .UnaryOp u x p} := if h : e.ctorIdx = 3 then Expr.UnaryOp.elim (motive_1 := fun e => Option {x : PySem.Expr // ∃ p, e = .UnaryOp u x p}) e h fun o x p => if ho : o = u then some ⟨x, p, by rw [ho]⟩ else none else none
noncomputable def cBool (o : BoolOp) (e : PySem.Expr) : Option {x : List PySem.Expr // ∃ p, e = .BoolOp o x p} := if h : e.ctorIdx = 0 then Expr.BoolOp.elim (motive_1 := fun e => Option {x : List PySem.Expr // ∃ p, e = .BoolOp o x p}) e h fun b x p => if ho : b = o then some ⟨x, p, by rw [ho]⟩ else none else none
noncomputable def cBool2 (o : BoolOp) (e : PySem.Expr) : Option (D2 fun (xa : PySem.Expr) (xb : PySem.Expr) => ∃ p, e = .BoolOp o [xa, xb] p) := (cBool o e).bind fun c => (cTwo c.1).bind fun z => some ⟨z.a, z.b, let ⟨p, h⟩ := c.2; ⟨p, h.trans (bool_c rfl z.h)⟩⟩
noncomputable def cBool3 (o : BoolOp) (e : PySem.Expr) : Option (D3 fun (xa : PySem.Expr) (xb : PySem.Expr) (xc : PySem.Expr) => ∃ p, e = .BoolOp o [xa, xb, xc] p) := (cBool o e).bind fun c => (cThree c.1).bind fun z => some ⟨z.a, z.b, z.c, let ⟨p, h⟩ := c.2; ⟨p, h.trans (bool_c rfl z.h)⟩⟩
noncomputable def cAttr (e : PySem.Expr) : Option (D3 fun (xa : PySem.Expr) (xb : Str) (xc : Pos) => e = .Attribute xa xb xc) := if h : e.ctorIdx = 20 then Expr.Attribute.elim (motive_1 := fun e => Option (D3 fun (xa : PySem.Expr) (xb : Str) (xc : Pos) => e = .Attribute xa xb xc)) e h fun o m p => some ⟨o, m, p, rfl⟩ else none
/-- a call of a method: the object, the name, the arguments -/
noncomputable def cMethX (e : PySem.Expr) : Option (D3 fun (xa : PySem.Expr) (xb : Str) (xc : List PySem.Expr) => ∃ apos pos, e = .Call (.Attribute xa xb apos) xc [] pos ∧ (apos.endLine == pos.line) = true) := if h : e.ctorIdx = 16 then
  Expr.Call.elim (motive_1 := fun e => Option (D3 fun (xa : PySem.Expr) (xb : Str) (xc : List PySem.Expr) => ∃ apos pos, e = .Call (.Attribute xa xb apos) xc [] pos ∧ (apos.endLine == pos.line) = true)) e h fun g xs ks pos => (cAttr g).bind fun n => (cNil ks).bind fun k =>
    if hl : (n.c.endLine == pos.line) = true then some ⟨n.a, n.b, xs, n.c, pos, call_c n.h rfl k.2, hl⟩ else none else none
noncomputable def cMeth0 (e : PySem.Expr) : Option (D2 fun (xa : PySem.Expr) (xb : Str) => ∃ apos pos, e = .Call (.Attribute xa xb apos) [] [] pos ∧ (apos.endLine == pos.line) = true) := (cMethX e).bind fun c => (cNil c.c).bind fun z => some ⟨c.a, c.b, let ⟨a, p, h, hl⟩ := c.h; ⟨a, p, h.trans (call_c rfl z.2 rfl), hl⟩⟩
noncomputable def cMeth1 (e : PySem.Expr) : Option (D3 fun (xa : PySem.Expr) (xb : Str) (xc : PySem.Expr) => ∃ apos pos, e = .Call (.Attribute xa xb apos) [xc] [] pos ∧ (apos.endLine == pos.line) = true) := (cMethX e).bind fun c => (cOne c.c).bind fun z => some ⟨c.a, c.b, z.1, let ⟨a, p, h, hl⟩ := c.h; ⟨a, p, h.trans (call_c rfl z.2 rfl), hl⟩⟩
noncomputable def cMeth (e : PySem.Expr) : Option (D3 fun (xa : Str) (xb : Str) (xc : PySem.Expr) => ∃ p apos pos, e = .Call (.Attribute (.Name xa p) xb apos) [xc] [] pos ∧ (apos.endLine == pos.line) = true) := (cMeth1 e).bind fun c => (cName c.a).bind fun z => some ⟨z.1, c.b, c.c, let ⟨a, p, h, hl⟩ := c.h; let ⟨n, hn⟩ := z.2; ⟨n, a, p, h.trans (call_c (attr_c hn) rfl rfl), hl⟩⟩
noncomputable def cTup (e : PySem.Expr) : Option {x : List PySem.Expr // ∃ k p, e = .Tuple x k p} := if h : e.ctorIdx = 25 then Expr.Tuple.elim (motive_1 := fun e => Option {x : List PySem.Expr // ∃ k p, e = .Tuple x k p}) e h fun x k p => some ⟨x, k, p, rfl⟩ else none
noncomputable def cLst (e : PySem.Expr) : Option {x : List PySem.Expr // ∃ p, e = .List x p} := if h : e.ctorIdx = 24 then Expr.List.elim (motive_1 := fun e => Option {x : List PySem.Expr // ∃ p, e = .List x p}) e h fun x p => some ⟨x, p, rfl⟩ else none
noncomputable def cIte (e : PySem.Expr) : Option (D3 fun (xa : PySem.Expr) (xb : PySem.Expr) (xc : PySem.Expr) => ∃ p, e = .IfExp xa xb xc p) := if h : e.ctorIdx = 5 then Expr.IfExp.elim (motive_1 := fun e => Option (D3 fun (xa : PySem.Expr) (xb : PySem.Expr) (xc : PySem.Expr) => ∃ p, e = .IfExp xa xb xc p)) e h fun c a b p => some ⟨c, a, b, p, rfl⟩ else none
noncomputable def cComp (e : PySem.Expr) : Option (D3 fun (xa : PySem.Expr) (xb : List Comprehension) (xc : Scope) => ∃ p, e = .ListComp xa xb xc p) := if h : e.ctorIdx = 8 then Expr.ListComp.elim (motive_1 := fun e => Option (D3 fun (xa : PySem.Expr) (xb : List Comprehension) (xc : Scope) => ∃ p, e = .ListComp xa xb xc p)) e h fun x gs sc p => some ⟨x, gs, sc, p, rfl⟩ else none
noncomputable def cComp1 (e : PySem.Expr) : Option (D3 fun (xa : PySem.Expr) (xb : Comprehension) (xc : Scope) => ∃ p, e = .ListComp xa [xb] xc p) := (cComp e).bind fun c => (cOne c.b).bind fun z => some ⟨c.a, z.1, c.c, let ⟨p, h⟩ := c.h; ⟨p, h.trans (comp_c z.2)⟩⟩
noncomputable def cComp2 (e : PySem.Expr) : Option (D4 fun (xa : PySem.Expr) (xb : Comprehension) (xc : Comprehension) (xd : Scope) => ∃ p, e = .ListComp xa [xb, xc] xd p) := (cComp e).bind fun c => (cTwo c.b).bind fun z => some ⟨c.a, z.a, z.b, c.c, let ⟨p, h⟩ := c.h; ⟨p, h.trans (comp_c z.h)⟩⟩
noncomputable def cVarM (a : ME) : Option {i : Nat // a = .var i} := if h : a.ctorIdx = 0 then ME.var.elim (motive_1 := fun a => Option {i : Nat // a = .var i}) a h fun i => some ⟨i, rfl⟩ else none
noncomputable def isSet (e : PySem.Expr) : Bool := e.ctorIdx == 7
noncomputable def isStar (e : PySem.Expr) : Bool := e.ctorIdx == 22
noncomputable def isLC (e : PySem.Expr) : Bool := e.ctorIdx == 8
noncomputable def isTupE (e : PySem.Expr) : Bool := e.ctorIdx == 25

noncomputable def fnames : List String := ["_reach", "_component_ids", "_is_rising", "_touching", "round_trip", "bridges", "_merge", "_sort", "_find", "forest", "check_forest", "components", "_up", "_odd_circle", "two_colors", "_law_ints", "_law_labels", "_law_best", "_law_fits", "_law_step", "_law_plans", "_law_groups", "_law_circuit", "_law_colors", "_law_trip", "law"]
noncomputable def fname (f : Nat) : Str := Str.ofString (fnames.getD f "")
noncomputable def tyStr : Ty → String
  | .int => "int" | .bool => "bool" | .tuple => "tuple"
/-- the forms that stand as tests -/
noncomputable def okT : ME → Bool
  | .not _ | .and _ _ | .or _ _ | .cmp _ _ _ | .isNone _ _ | .typeIs _ _ | .var _ | .sub _ _ | .subv _ _ | .call _ _ | .bool _ => true
  | _ => false

noncomputable def notOfV : It → Bool
  | .ofV _ => false
  | _ => true
noncomputable def isTrueC : ME → Bool
  | .bool true => true
  | _ => false
noncomputable def mIfs (f : PySem.Expr → Bool) (cond : ME) (ifs : List PySem.Expr) : Bool := match ifs with
  | [] => isTrueC cond
  | [c] => f c && okT cond
  | _ => false

noncomputable def Tgt.ids : Tgt → List Nat
  | .one i => [i]
  | .many is => is

section
variable (nm : Nat → Str)
/-- the names that an assignment target binds -/
noncomputable def isN (i : Nat) (e : PySem.Expr) : Bool := (cName e).any fun x => x.1 == nm i
noncomputable def mNames : List Nat → List PySem.Expr → Bool
  | [], [] => true
  | i :: is, e :: es => isN nm i e && mNames is es
  | _, _ => false
noncomputable def mTgt : Tgt → PySem.Expr → Bool
  | .one i, e => isN nm i e
  | .many is, e => (cTup e).any fun es => mNames nm is es.1
noncomputable def kLoc (sc : Scope) (i : Nat) : Bool := sc.names.lookup (nm i) == some .local || sc.names.lookup (nm i) == some .cell
noncomputable def kCap (sc : Scope) (i : Nat) : Bool := sc.names.lookup (nm i) == some .cell || sc.names.lookup (nm i) == some .free
/-- a comprehension's scope -/
noncomputable def mScope (sc csc : Scope) (vis ts fv : List Nat) : Bool :=
  csc.kind == .function && decide (csc.names.map (·.1)).Nodup && decide ((ts ++ fv).map nm).Nodup &&
  ts.all (fun i => kLoc nm csc i) && fv.all (fun i => csc.names.lookup (nm i) == some .free && kCap nm sc i && vis.contains i && !ts.contains i) &&
  csc.names.all (fun y => y.2 != .free || fv.any (fun i => nm i == y.1))
/-- a variable's name -/
noncomputable def isV (vis : List Nat) (i : Nat) (e : PySem.Expr) : Bool := (cName e).any fun x => x.1 == nm i && vis.contains i && nameOk x.1
noncomputable def isFn (sc : Scope) (x : Str) (f : Str) : Bool := f == x && gl sc f
mutual
noncomputable def mE : Bool → Scope → List Nat → ME → PySem.Expr → Bool
  | _, _, vis, .var i, e => isV nm vis i e
  | _, _, _, .none, e => (cNoneC e).isSome
  | _, _, _, .bool b, e => (cBoolC e).any fun c => b == c.1
  | _, _, _, .int i, e => (cInt e).any (fun j => i == j.1) || (cUn .USub e).any fun x => (cInt x.1).any fun j => i == -j.1
  | _, _, _, .str s, e => (cStr e).any fun c => s == c.1
  | cl, sc, vis, .tup es, e => (cTup e).any fun xs => mEs cl sc vis es xs.1 && decide (xs.1.length ≤ 100)
  | cl, sc, vis, .lst es, e => (cLst e).any fun xs => mEs cl sc vis es xs.1 && decide (xs.1.length ≤ 100)
  | cl, sc, vis, .sub a i, e => (cSub e).any fun q => mE cl sc vis a q.a && mE cl sc vis i q.b && notSlice q.b
  | cl, sc, vis, .subv v i, e => (cSub e).any fun q => isV nm vis v q.a && mE cl sc vis i q.b && notSlice q.b
  | cl, sc, vis, .sliceTo a hi, e => (cSub e).any fun q => (cSlTo q.b).any fun u => mE cl sc vis a q.a && (cName q.a).isSome && mE cl sc vis hi u.1
  | cl, sc, vis, .sliceFrom a lo, e => (cSub e).any fun q => (cSlFrom q.b).any fun u => mE cl sc vis a q.a && (cName q.a).isSome && mE cl sc vis lo u.1
  | cl, sc, vis, .sliceBoth a lo hi, e => (cSub e).any fun q => (cSlBoth q.b).any fun u => mE cl sc vis a q.a && (cName q.a).isSome && mE cl sc vis lo u.a && mE cl sc vis hi u.b
  | cl, sc, vis, .rev a, e => (cSub e).any fun q => (cSlRev q.b).any fun u => mE cl sc vis a q.a && (cName q.a).isSome && (cUn .USub u.1).any fun z => (cInt z.1).any fun j => j.1 == 1
  | cl, sc, vis, .bin op a b, e => (cBin e).any fun q => q.a == opB op && mE cl sc vis a q.b && mE cl sc vis b q.c
  | cl, sc, vis, .cmp op a b, e => (cCmp e).any fun q => q.a == opC op && mE cl sc vis a q.b && mE cl sc vis b q.c && !isSet q.c
  | cl, sc, vis, .isNone a neg, e => (cCmp e).any fun q => q.a == (if neg then CmpOp.IsNot else .Is) && mE cl sc vis a q.b && (cNoneC q.c).isSome
  | cl, sc, vis, .typeIs a t, e => (cCmp e).any fun q => q.a == .Is && ((cCall1 q.b).any fun c => isFn sc (Str.ofString "type") c.a && mE cl sc vis a c.b && !isStar c.b) && (cName q.c).any fun n => isFn sc (Str.ofString (tyStr t)) n.1
  | cl, sc, vis, .ite c a b, e => (cIte e).any fun q => mE cl sc vis c q.a && okT c && mE cl sc vis a q.b && mE cl sc vis b q.c
  | cl, sc, vis, .not a, e => (cUn .Not e).any fun x => mE cl sc vis a x.1 && okT a
  | cl, sc, vis, .and a b, e => (cBool2 .And e).any fun q => mE cl sc vis a q.a && okT a && mE cl sc vis b q.b && okT b
  | cl, sc, vis, .or a b, e => ((cBool2 .Or e).any fun q => mE cl sc vis a q.a && okT a && mE cl sc vis b q.b && okT b) ||
      (cBool3 .Or e).any fun q => mE cl sc vis a q.a && okT a && (match b with | .or c d => mE cl sc vis c q.b && okT c && mE cl sc vis d q.c && okT d | _ => false)
  | cl, sc, vis, .len a, e => (cCall1 e).any fun q => isFn sc (Str.ofString "len") q.a && mE cl sc vis a q.b && !isStar q.b
  | cl, sc, vis, .lenv v, e => (cCall1 e).any fun q => isFn sc (Str.ofString "len") q.a && isV nm vis v q.b
  | cl, sc, vis, .min a b, e => (cCall2 e).any fun q => isFn sc (Str.ofString "min") q.a && mE cl sc vis a q.b && !isStar q.b && mE cl sc vis b q.c && !isStar q.c
  | cl, sc, vis, .max a b, e => (cCall2 e).any fun q => isFn sc (Str.ofString "max") q.a && mE cl sc vis a q.b && !isStar q.b && mE cl sc vis b q.c && !isStar q.c
  | cl, sc, vis, .sum a, e => (cCall1 e).any fun q => isFn sc (Str.ofString "sum") q.a && mE cl sc vis a q.b && !isStar q.b
  | cl, sc, vis, .sortedI a, e => (cCall1 e).any fun q => isFn sc (Str.ofString "sorted") q.a && mE cl sc vis a q.b && !isStar q.b
  | cl, sc, vis, .sortedP a, e => (cCall1 e).any fun q => isFn sc (Str.ofString "sorted") q.a && mE cl sc vis a q.b && !isStar q.b
  | cl, sc, vis, .listOf a, e => (cCall1 e).any fun q => isFn sc (Str.ofString "list") q.a && mE cl sc vis a q.b && !isStar q.b
  | cl, sc, vis, .listRange a, e => (cCall1 e).any fun q => isFn sc (Str.ofString "list") q.a && (cCall1 q.b).any fun r => isFn sc (Str.ofString "range") r.a && mE cl sc vis a r.b && !isStar r.b
  | cl, sc, vis, .setLen a, e => (cCall1 e).any fun q => isFn sc (Str.ofString "len") q.a && (cCall1 q.b).any fun r => isFn sc (Str.ofString "set") r.a && mE cl sc vis a r.b && !isStar r.b
  | cl, sc, vis, .all a, e => (cCall1 e).any fun q => isFn sc (Str.ofString "all") q.a && mE cl sc vis a q.b && !isStar q.b
  | cl, sc, vis, .count a b, e => (cMeth e).any fun q => q.b == Str.ofString "count" && ((cVarM a).any fun i => q.a == nm i.1 && vis.contains i.1 && nameOk q.a) && mE cl sc vis b q.c && !isStar q.c
  | cl, sc, vis, .call f es, e => (cCall e).any fun q => cl && q.a == fname f && decide (f < 26) && gl sc q.a && nameOk q.a && mEs cl sc vis es q.b && !q.b.isEmpty && decide (q.b.length ≤ 25)
  | cl, sc, vis, .comp elt tg it cond fv, e => (cComp1 e).any fun q => q.b.is_async == 0 && mIt cl sc vis it q.b.iter && mTgt nm tg q.b.target && mScope nm sc q.c vis tg.ids fv && mE false q.c (tg.ids ++ fv) elt q.a &&
          mIfs (fun c => mE false q.c (tg.ids ++ fv) cond c) cond q.b.ifs
  | cl, sc, vis, .comp2 elt t1 i1 t2 i2 fv, e => (cComp2 e).any fun q => q.b.is_async == 0 && q.c.is_async == 0 && q.b.ifs.isEmpty && q.c.ifs.isEmpty && mIt cl sc vis i1 q.b.iter && mTgt nm (.one t1) q.b.target && mTgt nm (.one t2) q.c.target &&
          mScope nm sc q.d vis [t1, t2] fv && mIt false q.d (t1 :: fv) i2 q.c.iter && notOfV i2 && mE false q.d (t2 :: t1 :: fv) elt q.a
noncomputable def mEs : Bool → Scope → List Nat → MEs → List PySem.Expr → Bool
  | _, _, _, .nil, xs => xs.isEmpty
  | cl, sc, vis, .cons e es, xs => (cCons xs).any fun q => mE cl sc vis e q.a && !isStar q.a && mEs cl sc vis es q.b
noncomputable def mIt : Bool → Scope → List Nat → It → PySem.Expr → Bool
  | cl, sc, vis, .range lo hi, e => (cCall2 e).any fun q => isFn sc (Str.ofString "range") q.a && mE cl sc vis lo q.b && !isStar q.b && mE cl sc vis hi q.c && !isStar q.c
  | cl, sc, vis, .range0 hi, e => (cCall1 e).any fun q => isFn sc (Str.ofString "range") q.a && mE cl sc vis hi q.b && !isStar q.b
  | cl, sc, vis, .ofE a, e => mE cl sc vis a e && !isSet e
  | cl, sc, vis, .ofV v, e => isV nm vis v e
end
end
end
section
open PySem PySem.Calls PySem.Spec PyProof.Rows

theorem assign_c {t t' : List PySem.Expr} {v : PySem.Expr} {p : Pos} (h : t = t') : Stmt.Assign t v p = .Assign t' v p := by rw [h]
theorem while_c {c : PySem.Expr} {a b b' : List Stmt} {p : Pos} (h : b = b') : Stmt.While c a b p = .While c a b' p := by rw [h]
theorem for_c {t i : PySem.Expr} {a b b' : List Stmt} {p : Pos} (h : b = b') : Stmt.For t i a b p = .For t i a b' p := by rw [h]
theorem ret_c {o o' : Option PySem.Expr} {p : Pos} (h : o = o') : Stmt.Return o p = .Return o' p := by rw [h]
noncomputable def cAssign (s : Stmt) : Option (D2 fun (xa : PySem.Expr) (xb : PySem.Expr) => ∃ p, s = .Assign [xa] xb p) := if h : s.ctorIdx = 5 then Stmt.Assign.elim (motive_2 := fun s => Option (D2 fun (xa : PySem.Expr) (xb : PySem.Expr) => ∃ p, s = .Assign [xa] xb p)) s h fun t v p => (cOne t).bind fun o => some ⟨o.1, v, p, assign_c o.2⟩ else none
noncomputable def cExprS (s : Stmt) : Option {c : PySem.Expr // ∃ p, s = .Expr c p} := if h : s.ctorIdx = 24 then Stmt.Expr.elim (motive_2 := fun s => Option {c : PySem.Expr // ∃ p, s = .Expr c p}) s h fun c p => some ⟨c, p, rfl⟩ else none
noncomputable def cIf (s : Stmt) : Option (D3 fun (xa : PySem.Expr) (xb : List Stmt) (xc : List Stmt) => ∃ p, s = .If xa xb xc p) := if h : s.ctorIdx = 12 then Stmt.If.elim (motive_2 := fun s => Option (D3 fun (xa : PySem.Expr) (xb : List Stmt) (xc : List Stmt) => ∃ p, s = .If xa xb xc p)) s h fun c a b p => some ⟨c, a, b, p, rfl⟩ else none
noncomputable def cWhile (s : Stmt) : Option (D2 fun (xa : PySem.Expr) (xb : List Stmt) => ∃ p, s = .While xa xb [] p) := if h : s.ctorIdx = 11 then Stmt.While.elim (motive_2 := fun s => Option (D2 fun (xa : PySem.Expr) (xb : List Stmt) => ∃ p, s = .While xa xb [] p)) s h fun c a b p => (cNil b).bind fun n => some ⟨c, a, p, while_c n.2⟩ else none
noncomputable def cFor (s : Stmt) : Option (D3 fun (xa : PySem.Expr) (xb : PySem.Expr) (xc : List Stmt) => ∃ p, s = .For xa xb xc [] p) := if h : s.ctorIdx = 9 then Stmt.For.elim (motive_2 := fun s => Option (D3 fun (xa : PySem.Expr) (xb : PySem.Expr) (xc : List Stmt) => ∃ p, s = .For xa xb xc [] p)) s h fun t i a b p => (cNil b).bind fun n => some ⟨t, i, a, p, for_c n.2⟩ else none
noncomputable def cRet (s : Stmt) : Option {e : PySem.Expr // ∃ p, s = .Return (some e) p} := if h : s.ctorIdx = 3 then Stmt.Return.elim (motive_2 := fun s => Option {e : PySem.Expr // ∃ p, s = .Return (some e) p}) s h fun o p => (cSome o).bind fun n => some ⟨n.1, p, ret_c n.2⟩ else none
noncomputable def cCont (s : Stmt) : Option {u : Unit // ∃ p, s = .Continue p} := if h : s.ctorIdx = 27 then Stmt.Continue.elim (motive_2 := fun s => Option {u : Unit // ∃ p, s = .Continue p}) s h fun p => some ⟨(), p, rfl⟩ else none
noncomputable def cFreeze (m : MS) : Option {i : Nat // m = .freeze i} := if h : m.ctorIdx = 3 then MS.freeze.elim (motive_1 := fun m => Option {i : Nat // m = .freeze i}) m h fun i => some ⟨i, rfl⟩ else none
noncomputable def okV (e : PySem.Expr) : Bool := !(e.ctorIdx == 9 || e.ctorIdx == 10)
/-- the forms that make a new list -/
noncomputable def cLstM (e : ME) : Option {es : MEs // e = .lst es} := if h : e.ctorIdx = 6 then ME.lst.elim (motive_1 := fun e => Option {es : MEs // e = .lst es}) e h fun es => some ⟨es, rfl⟩ else none
noncomputable def cMulM (e : ME) : Option (D2 fun (xa : ME) (xb : ME) => e = .bin .mul xa xb) := if h : e.ctorIdx = 13 then ME.bin.elim (motive_1 := fun e => Option (D2 fun (xa : ME) (xb : ME) => e = .bin .mul xa xb)) e h fun o a b => if ho : o = .mul then some ⟨a, b, ho ▸ rfl⟩ else none else none
noncomputable def cCompM (e : ME) : Option (D5 fun (xa : ME) (xb : Tgt) (xc : It) (xd : ME) (xe : List Nat) => e = .comp xa xb xc xd xe) := if h : e.ctorIdx = 34 then ME.comp.elim (motive_1 := fun e => Option (D5 fun (xa : ME) (xb : Tgt) (xc : It) (xd : ME) (xe : List Nat) => e = .comp xa xb xc xd xe)) e h fun a b c d f => some ⟨a, b, c, d, f, rfl⟩ else none
noncomputable def isFresh (e : ME) : Bool := (cLstM e).isSome || (cMulM e).isSome || (cCompM e).isSome
section
variable (nm : Nat → Str)
/-- `[[] for _ in range(n)]` -/
noncomputable def mNew2 (sc : Scope) (vis : List Nat) (e : ME) (v : PySem.Expr) : Bool := (cComp1 v).any fun q => q.b.is_async == 0 && q.b.ifs.isEmpty && ((cLst q.a).any fun x => x.1.isEmpty) && mIt nm true sc vis (.range0 e) q.b.iter && q.c.kind == .function &&
      decide (q.c.names.map (·.1)).Nodup && ((cName q.b.target).any fun y => q.c.names.lookup y.1 == some .local) && q.c.names.all (fun y => y.2 != .free && y.2 != .cell)
mutual
noncomputable def mS (sc : Scope) (vis : List Nat) : MS → Stmt → Bool
  | .assign i e, s => (cAssign s).any fun q => isV nm vis i q.a && kLoc nm sc i && mE nm true sc vis e q.b && okV q.b && (!isLC q.b || (cCompM e).isSome)
  | .new1 i e, s => (cAssign s).any fun q => isV nm vis i q.a && kLoc nm sc i && mE nm true sc vis e q.b && okV q.b && (!isLC q.b || (cCompM e).isSome) && isFresh e
  | .new2 i e, s => (cAssign s).any fun q => isV nm vis i q.a && kLoc nm sc i && mNew2 nm sc vis e q.b
  | .freeze _, _ => false
  | .unpack is e, s => (cAssign s).any fun q => mTgt nm (.many is) q.a && is.all (fun i => kLoc nm sc i && vis.contains i) && decide (is.map nm).Nodup && mE nm true sc vis e q.b && !isTupE q.b && !isLC q.b
  | .append1 i e, s => (cExprS s).any fun c => (cMeth1 c.1).any fun q => q.b == Str.ofString "append" && isV nm vis i q.a && mE nm true sc vis e q.c && !isStar q.c
  | .append2 i j e, s => (cExprS s).any fun c => (cMeth1 c.1).any fun q => q.b == Str.ofString "append" && ((cSub q.a).any fun a => isV nm vis i a.a && mE nm true sc vis j a.b && notSlice a.b) && mE nm true sc vis e q.c && !isStar q.c
  | .setItem i j e, s => (cAssign s).any fun q => ((cSub q.a).any fun a => isV nm vis i a.a && mE nm true sc vis j a.b && notSlice a.b) && mE nm true sc vis e q.b
  | .pop y i, s => (cAssign s).any fun q => isV nm vis y q.a && kLoc nm sc y && (cMeth0 q.b).any fun c => c.b == Str.ofString "pop" && isV nm vis i c.a
  | .lend y f i e, s => (cAssign s).any fun q => isV nm vis y q.a && kLoc nm sc y && f == 8 && (cCall2 q.b).any fun c => c.a == fname 8 && gl sc c.a && nameOk c.a && isV nm vis i c.b && mE nm true sc vis e c.c && !isStar c.c
  | .ite c a b, s => (cIf s).any fun q => mE nm true sc vis c q.a && okT c && mSs sc vis a q.b && mSs sc vis b q.c
  | .whileLoop c a, s => (cWhile s).any fun q => mE nm true sc vis c q.a && okT c && mSs sc vis a q.b
  | .forLoop tg it a, s => (cFor s).any fun q => mTgt nm tg q.a && tg.ids.all (fun i => kLoc nm sc i && vis.contains i) && decide (tg.ids.map nm).Nodup && mIt nm true sc vis it q.b && notOfV it && !isSet q.b && mSs sc vis a q.c
  | .ret e, s => (cRet s).any fun v => mE nm true sc vis e v.1
  | .cont, s => (cCont s).isSome
noncomputable def mSs (sc : Scope) (vis : List Nat) : List MS → List Stmt → Bool
  | [], ss => ss.isEmpty
  | m :: ms, ss => ((cFreeze m).any fun i => vis.contains i.1 && mSs sc vis ms ss) || (cCons ss).any fun q => mS sc vis m q.a && mSs sc vis ms q.b
end
noncomputable def nmOf (v : List String) (i : Nat) : Str := Str.ofString (v.getD i "")
end
end
section
open PySem PySem.Calls PySem.Spec PyProof.Rows

structure Sit (base : Heap) (nm : Nat → Str) (sc : Scope) (env : Env) (A : Around) (vis : List Nat) (H : Hid) (st : St) (s : Shared) : Prop where
  eo : EnvOk sc env
  ao : AOk 0 A
  ba : base.StaysIn s.heap
  hi : HidIn H s.heap
  va : Vars env nm vis H st s.heap
  cs : ∀ x c, env.cells.lookup x = some c → ∃ v, s.heap.IsCell c v
theorem stays_trans {a b c : Heap} (h : a.StaysIn b) (k : b.StaysIn c) : a.StaysIn c := fun x o e => k x o (h x o e)
theorem Sit.ext {base : Heap} {nm : Nat → Str} {sc : Scope} {env : Env} {A : Around} {vis : List Nat} {H : Hid} {st : St} {s s' : Shared} (x : Sit base nm sc env A vis H st s) (e : Ext s s') : Sit base nm sc env A vis H st s' :=
  ⟨x.eo, x.ao, stays_trans x.ba e.1, x.hi.ext e.1, x.va.ext e.1, fun y c h => let ⟨v, hv⟩ := x.cs y c h; ⟨v, hv.keeps e.1⟩⟩

section
variable (prog : Program) (w : World) (base : Heap) (fa : Nat → Addr) (Φ : Funs) (nm : Nat → Str)
/-- the defs may be called -/
noncomputable def CallOk (A : Around) : Prop := ∀ f ds Q, Φ f ds Q → f < 26 → ∀ s H vs P E, base.StaysIn s.heap → HidIn H s.heap → RdAll (Zof s.heap H) vs ds → Kn s H Q P →
  wpAny (model prog w) A (call (.ref (fa f)) vs) P E s
abbrev KnB (s : Shared) (Q : Bool → Prop) (P : Bool → Shared → Prop) : Prop := ∀ b s', Q b → Ext s s' → P b s'
abbrev KnL (n : Nat) (s : Shared) (H : Hid) (Q : List D → Prop) (P : List Value → Shared → Prop) : Prop := ∀ vs s' ds, Q ds → RdAll (Zof s'.heap H) vs ds → vs.length = n → Ext s s' → P vs s'
noncomputable def SE (me : ME) : Prop := ∀ cl sc vis e env A H st s Q P E, mE nm cl sc vis me e = true → Sit base nm sc env A vis H st s → (cl = true → CallOk prog w base fa Φ A) → wpE Φ me st Q → Kn s H Q P →
  wpAny (model prog w) A (eval e env) P E s
noncomputable def ST (me : ME) : Prop := ∀ cl sc vis e env A H st s Q P E, mE nm cl sc vis me e = true → okT me = true → Sit base nm sc env A vis H st s → (cl = true → CallOk prog w base fa Φ A) → wpT Φ me st Q → KnB s Q P →
  wpAny (model prog w) A (isTrue e env (eval e env)) P E s
noncomputable def SEs (es : MEs) : Prop := ∀ cl sc vis xs env A H st s Q P E pos, mEs nm cl sc vis es xs = true → Sit base nm sc env A vis H st s → (cl = true → CallOk prog w base fa Φ A) → wpEs Φ es st Q → KnL xs.length s H Q P →
  wpAny (model prog w) A (spliced (backTo pos (starEach xs env))) P E s
end

section
variable {prog : Program} {w : World} {base : Heap} {fa : Nat → Addr} {Φ : Funs} {nm : Nat → Str} (G : Ground base fa fname)

theorem Kn.ext {s s' : Shared} {H : Hid} {Q : D → Prop} {P : Value → Shared → Prop} (k : Kn s H Q P) (e : Ext s s') : Kn s' H Q P := fun v s'' d q r e' => k v s'' d q r (e.trans e')
theorem load_ok {sc : Scope} {vis : List Nat} {env : Env} {A : Around} {H : Hid} {st : St} {s : Shared} {P : Value → Shared → Prop} {E : Value → Shared → Prop} {i : Nat} {x : Str} {p : Pos} {sl : Slot}
    (S : Sit base nm sc env A vis H st s) (hx : x = nm i) (hv : vis.contains i = true) (hn : nameOk x = true) (hs : st[i]? = some sl) (hu : sl ≠ .undef) (k : ∀ v, VarAt env s.heap x v → SlotV s.heap H v sl → P v s) :
    wpAny (model prog w) A (eval (.Name x p) env) P E s := by
  subst hx
  obtain ⟨v, hv', hsv⟩ := S.va i sl (by simpa using hv) hs hu
  have hq := k v hv' hsv
  unfold nameOk at hn
  simp only [Bool.and_eq_true, Bool.not_eq_true'] at hn
  rcases hv' with ⟨hk, m, hm, hx⟩ | ⟨hk, c, hc, hcell⟩
  · exact wpAny_Name (wpAny_loadName_local S.eo.k hk hm hx hq) hn.1
  · rcases hk with hk | hk
    · exact wpAny_Name (wpAny_loadName_cell S.eo.k hk hc hcell hq) hn.1
    · exact wpAny_Name (wpAny_loadName_free S.eo.k hk hc hcell hq hn.2) hn.1

theorem bi_ok {sc : Scope} {vis : List Nat} {env : Env} {A : Around} {H : Hid} {st : St} {s : Shared} {P : Value → Shared → Prop} {E : Value → Shared → Prop} {x : Str} {v : Value} {p : Pos}
    (G : Ground base fa fname) (S : Sit base nm sc env A vis H st s) (hg : gl sc x = true) (hb : x ∈ biNames) (hv : bootBuiltins x = some v) (hn : x ≠ "__name__") (hd : (x == ("__debug__" : Str)) = false) (k : P v s) :
    wpAny (model prog w) A (eval (.Name x p) env) P E s := by
  obtain ⟨mg, hmg, h1, _⟩ := G.g
  obtain ⟨mb, hmb, h2⟩ := G.b
  refine Name_function_global S.eo.k (S.eo.gl x (by simpa [gl] using hg)) (loadGlobal_builtin (mg := mg) (mb := mb) ?_ (h1 x hb) ?_ ((h2 x hn).trans hv) k) hd
  · rw [S.eo.g]; exact hmg.keeps S.ba
  · rw [S.eo.b]; exact hmb.keeps S.ba

/-- a call of a built-in by its name -/
theorem callB_ok {sc : Scope} {vis : List Nat} {env : Env} {A : Around} {H : Hid} {st : St} {s : Shared} {P : Value → Shared → Prop} {E : Value → Shared → Prop} {x : Str} {v : Value} {p q : Pos} {e : PySem.Expr} {rest : List PySem.Expr}
    (G : Ground base fa fname) (S : Sit base nm sc env A vis H st s) (hg : gl sc x = true) (hb : x ∈ biNames) (hv : bootBuiltins x = some v) (hn : x ≠ "__name__") (hd : (x == ("__debug__" : Str)) = false)
    (hk : (∃ id, v = .builtin id) ∨ ∃ T, v = .type T) (he : starEach (e :: rest) env = (false, eval e env) :: starEach rest env) (hplain : (backTo q (starEach rest env)).any (·.1) = false)
    (k : wpAny (model prog w) A (spliced (backTo q (starEach (e :: rest) env))) (fun vs s₁ => wpAny (model prog w) A (call v vs) P E s₁) E s) :
    wpAny (model prog w) A (eval (.Call (.Name x p) (e :: rest) [] q) env) P E s := by
  refine Call_Name rfl (bi_ok G S hg hb hv hn hd ?_)
  rcases hk with ⟨id, rfl⟩ | ⟨T, rfl⟩
  · exact PyProof.Rows.callWith_builtin1 k he hplain
  · exact PyProof.Rows.callWith_type1 k he hplain

theorem star_cons {x : PySem.Expr} {xs : List PySem.Expr} {env : Env} (h : isStar x = false) : starEach (x :: xs) env = (false, eval x env) :: starEach xs env := by
  cases x <;> first | rfl | exact Bool.noConfusion (show true = false from h)

theorem se_var (i : Nat) : SE prog w base fa Φ nm (.var i) := by
  intro cl sc vis e env A H st s Q P E hm S hc q k
  · refine any_elim hm ?_; clear hm; rintro ⟨x, p, rfl⟩ hm
    simp only [Bool.and_eq_true, beq_iff_eq] at hm
    rw [y9] at q
    unfold shAt at q
    split at q
    · rename_i d hs
      exact load_ok S hm.1.1 (by simpa using hm.1.2) hm.2 hs (by simp) fun v _ hv => k v s _ q hv (Ext.refl s)
    · exact q.elim

theorem se_none : SE prog w base fa Φ nm .none := by
  intro cl sc vis e env A H st s Q P E hm S hc q k
  obtain ⟨⟨_, kk, p, rfl⟩, _⟩ := some_inv hm
  rw [ya] at q
  exact wpAny_pure (k _ _ _ q .none (Ext.refl s))
theorem se_bool (b : Bool) : SE prog w base fa Φ nm (.bool b) := by
  intro cl sc vis e env A H st s Q P E hm S hc q k
  · refine any_elim hm ?_; clear hm; rintro ⟨c, kk, p, rfl⟩ hm
    simp only [beq_iff_eq] at hm
    subst hm
    rw [yb] at q
    exact wpAny_pure (k _ _ _ q (.bool _) (Ext.refl s))
theorem se_int (i : Int) : SE prog w base fa Φ nm (.int i) := by
  intro cl sc vis e env A H st s Q P E hm S hc q k
  rw [yc] at q
  rcases or_inv hm with hm | hm
  · refine any_elim hm ?_; clear hm; rintro ⟨j, kk, p, rfl⟩ hm
    simp only [beq_iff_eq] at hm
    subst hm
    exact wpAny_Constant_int (kn_int q k)
  · refine any_elim hm ?_; clear hm; rintro ⟨x, p, rfl⟩ hm
    dsimp only at hm
    · · refine any_elim hm ?_; clear hm; rintro ⟨j, kk, p', rfl⟩ hm
        simp only [beq_iff_eq] at hm
        subst hm
        rw [eval_UnaryOp]
        refine wpAny_bind (wpAny_Constant_int (wpAny_bind (wpAny_standAt (wpAny_holding (PySem.P.neg_int ?_)))))
        exact k _ _ _ q (.int _ _) ⟨fun _ _ e => e, rfl, rfl⟩
theorem se_str (x : Str) : SE prog w base fa Φ nm (.str x) := by
  intro cl sc vis e env A H st s Q P E hm S hc q k
  · refine any_elim hm ?_; clear hm; rintro ⟨c, kk, p, rfl⟩ hm
    simp only [beq_iff_eq] at hm
    subst hm
    rw [yd] at q
    exact PySem.wpAny_Constant_str (k _ _ _ q (.str _ _) ⟨fun _ _ e => e, rfl, rfl⟩)
end
end
section
open PySem PySem.Calls PySem.Spec PyProof.Rows

theorem pick_go : ∀ (r pre : List Value), (List.range' pre.length r.length).filterMap (fun k => (pre ++ r)[k]?) = r
  | [], _ => rfl
  | x :: r, pre => by
    rw [List.length_cons, List.range'_succ, List.filterMap_cons, List.getElem?_append_right (Nat.le_refl _), Nat.sub_self]
    have h := pick_go r (pre ++ [x])
    rw [List.length_append, List.append_assoc] at h
    exact congrArg (x :: ·) h
theorem pick_rev (items : Array Value) : slicePick items none none (some (-1)) = items.toList.reverse.toArray := by
  have e : (sliceRange ((items.size : Int) - 1) (-1) (-1)) = (List.range items.size).map fun k => items.size - 1 - k := by
    unfold sliceRange
    have hc : (if (items.size : Int) - 1 > -1 then ((items.size : Int) - 1 - -1 - -1 - 1) / (- -1) else 0).toNat = items.size := by
      by_cases h : (items.size : Int) - 1 > -1
      · rw [if_pos h, show (- -1 : Int) = 1 from rfl, Int.ediv_one]; omega
      · (first | refine Mine.ite_no h ?_ | rw [if_neg h]); omega
    dsimp only
    rw [if_neg (by decide), hc]
    apply List.map_congr_left
    intro k hk
    have := List.mem_range.mp hk
    omega
  show ((sliceRange ((items.size : Int) - 1) (-1) (-1)).filterMap (items[·]?)).toArray = _
  rw [e, List.filterMap_map]
  congr 1
  have h := pick_go items.toList.reverse []
  rw [List.length_reverse] at h
  refine Eq.trans ?_ h
  rw [List.range_eq_range']
  have key : ∀ l : List Nat, (∀ k ∈ l, k < items.size) → l.filterMap ((fun k => items[k]?) ∘ fun k => items.size - 1 - k) = l.filterMap fun k => ([] ++ items.toList.reverse)[k]? := by
    intro l
    induction l with
    | nil => intro _; rfl
    | cons k l ih =>
      intro hl
      have hk := hl k List.mem_cons_self
      rw [List.filterMap_cons, List.filterMap_cons, ih fun j hj => hl j (List.mem_cons_of_mem _ hj), List.nil_append, List.getElem?_reverse (by rw [Array.length_toList]; exact hk), Array.length_toList, Array.getElem?_toList]
      rfl
  exact key _ fun k hk => by
    have := List.mem_range'.mp hk
    omega

section
variable {prog : Program} {w : World} {base : Heap} {fa : Nat → Addr} {Φ : Funs} {nm : Nat → Str} (G : Ground base fa fname)

theorem ses_nil : SEs prog w base fa Φ nm .nil := by
  intro cl sc vis xs env A H st s Q P E pos hm S hc q k
  have hm := List.isEmpty_iff.mp hm
  subst hm
  rw [yg] at q
  exact spliced_none (k _ _ _ q .nil rfl (Ext.refl s))
theorem ses_cons {e : ME} {es : MEs} (h1 : SE prog w base fa Φ nm e) (h2 : SEs prog w base fa Φ nm es) : SEs prog w base fa Φ nm (.cons e es) := by
  intro cl sc vis xs env A H st s Q P E pos hm S hc q k
  · refine any_elim hm ?_; clear hm; rintro ⟨x, xs, rfl⟩ hm
    simp only [Bool.and_eq_true, Bool.not_eq_true'] at hm
    rw [yh] at q
    refine spliced_more ?_ (star_cons hm.1.2)
    refine h1 _ _ _ _ _ _ _ _ _ _ _ _ hm.1.1 S hc q fun v s₁ d q₁ r e₁ => ?_
    refine h2 _ _ _ _ _ _ _ _ _ _ _ _ _ hm.2 (S.ext e₁) hc q₁ fun vs s₂ ds q₂ rs hl e₂ => ?_
    exact k _ _ _ q₂ (.cons (r.ext e₂.1) rs) (by simp [hl]) (e₁.trans e₂)
theorem se_tup {es : MEs} (h : SEs prog w base fa Φ nm es) : SE prog w base fa Φ nm (.tup es) := by
  intro cl sc vis e env A H st s Q P E hm S hc q k
  · refine any_elim hm ?_; clear hm; rintro ⟨xs, kk, p, rfl⟩ hm
    simp only [Bool.and_eq_true, decide_eq_true_eq] at hm
    rw [ye] at q
    refine wpAny_Tuple_spliced (h _ _ _ _ _ _ _ _ _ _ _ _ _ hm.1 S hc q fun vs s' ds q' r hl' e => ?_)
    have hl : vs.length ≤ sizeLine := by rw [hl', sL]; omega
    refine ⟨hl, ?_⟩
    exact kn_tuple (tk := s'.toks) rfl (S.ext e).hi hl r q' (Kn.ext k e)
theorem se_lst {es : MEs} (h : SEs prog w base fa Φ nm es) : SE prog w base fa Φ nm (.lst es) := by
  intro cl sc vis e env A H st s Q P E hm S hc q k
  · refine any_elim hm ?_; clear hm; rintro ⟨xs, p, rfl⟩ hm
    simp only [Bool.and_eq_true, decide_eq_true_eq] at hm
    rw [yf] at q
    refine wpAny_List_spliced (h _ _ _ _ _ _ _ _ _ _ _ _ _ hm.1 S hc q fun vs s' ds q' r hl' e => ?_)
    have hl : vs.length ≤ sizeLine := by rw [hl', sL]; omega
    refine ⟨hl, ?_⟩
    exact kn_list (tk := s'.toks) rfl (S.ext e).hi hl r q' (Kn.ext k e)

theorem se_sub {a i : ME} (ha : SE prog w base fa Φ nm a) (hi : SE prog w base fa Φ nm i) : SE prog w base fa Φ nm (.sub a i) := by
  intro cl sc vis e env A H st s Q P E hm S hc q k
  · refine any_elim hm ?_; clear hm; rintro ⟨x, y, p, rfl⟩ hm
    simp only [Bool.and_eq_true] at hm
    rw [yi] at q
    refine Subscript_ (ha _ _ _ _ _ _ _ _ _ _ _ _ hm.1.1 S hc q fun v s₁ d q₁ r e₁ => ?_)
    refine hi _ _ _ _ _ _ _ _ _ _ _ _ hm.1.2 (S.ext e₁) hc q₁ fun v₂ s₂ d₂ q₂ r₂ e₂ => ?_
    exact item_ok hm.2 (r.ext e₂.1) r₂ q₂ (Kn.ext k (e₁.trans e₂))

theorem ownAt_inv {o : Option Slot} {Q : List D → Prop} (h : ownAt o Q) : ∃ sl ds, o = some sl ∧ (sl = .own1 ds ∨ sl = .lent ds) ∧ Q ds := by
  unfold ownAt at h
  split at h
  · exact ⟨_, _, rfl, .inl rfl, h⟩
  · exact ⟨_, _, rfl, .inr rfl, h⟩
  · exact h.elim
theorem own_slot {h : Heap} {H : Hid} {v : Value} {sl : Slot} {ds : List D} (hs : sl = .own1 ds ∨ sl = .lent ds) (x : SlotV h H v sl) : ∃ a items, v = .ref a ∧ h.PlainList a items ∧ items.size ≤ sizeLine ∧ RdAll (Zof h H) items.toList ds := by
  rcases hs with rfl | rfl <;> exact x
theorem own_ne {sl : Slot} {ds : List D} (hs : sl = .own1 ds ∨ sl = .lent ds) : sl ≠ .undef := by rcases hs with rfl | rfl <;> simp

theorem se_subv {x : Nat} {i : ME} (hi : SE prog w base fa Φ nm i) : SE prog w base fa Φ nm (.subv x i) := by
  intro cl sc vis e env A H st s Q P E hm S hc q k
  · refine any_elim hm ?_; clear hm; rintro ⟨x', y, p, rfl⟩ hm
    simp only [Bool.and_eq_true] at hm
    obtain ⟨⟨hm1, hm2⟩, hm3⟩ := hm
    · refine any_elim hm1 ?_; clear hm1; rintro ⟨n, p', rfl⟩ hm1
      simp only [Bool.and_eq_true, beq_iff_eq] at hm1
      rw [yj] at q
      obtain ⟨sl, ds, hs, hsl, q⟩ := ownAt_inv q
      refine Subscript_ (load_ok S hm1.1.1 (by simpa using hm1.1.2) hm1.2 hs (own_ne hsl) fun v hv hsv => ?_)
      obtain ⟨a, items, rfl, hl, hn, r⟩ := own_slot hsl hsv
      refine hi _ _ _ _ _ _ _ _ _ _ _ _ hm2 S hc q fun v₂ s₂ d₂ q₂ r₂ e₂ => ?_
      exact item_list_ok hm3 (isList_keeps hl.isList e₂.1) hn (r.ext e₂.1) r₂ q₂ (Kn.ext k e₂)

theorem noTemp {x : PySem.Expr} (h : (cName x).isSome = true) : ∀ o r, letTemporaryGo x o r = pure () := by
  obtain ⟨⟨n, p, rfl⟩, _⟩ := some_inv h
  intro _ _; rfl
theorem isPart_int {Z : Addr → Obj → Prop} {v : Value} {k : Int} (r : Rd Z v (.int k)) : IsPart v (some k) := by cases r; exact .int _ _

theorem se_sliceTo {a hi : ME} (ha : SE prog w base fa Φ nm a) (hhi : SE prog w base fa Φ nm hi) : SE prog w base fa Φ nm (.sliceTo a hi) := by
  intro cl sc vis e env A H st s Q P E hm S hc q k
  · refine any_elim hm ?_; clear hm; rintro ⟨x, y, p, rfl⟩ hm
    dsimp only at hm
    · refine any_elim hm ?_; clear hm; rintro ⟨u, p', rfl⟩ hm
      simp only [Bool.and_eq_true] at hm
      rw [yk] at q
      refine wpAny_Subscript_list_slice (ha _ _ _ _ _ _ _ _ _ _ _ _ hm.1.1 S hc q fun v s₁ d q₁ r e₁ => ?_) (noTemp hm.1.2)
      rw [evalPart_none]
      refine wpAny_pure ?_
      rw [evalPart_some]
      refine hhi _ _ _ _ _ _ _ _ _ _ _ _ hm.2 (S.ext e₁) hc q₁ fun v₂ s₂ d₂ q₂ r₂ e₂ => ?_
      cases d with
      | list ds =>
        cases d₂ with
        | int j =>
          obtain ⟨h0, h1, hn, q₂⟩ := q₂
          obtain ⟨l, vs, rfl, hl, hn', rr⟩ := (r.ext e₂.1).isList
          refine ⟨l, vs, none, some j, rfl, hl, hn', .none, isPart_int r₂, slice_ok (S.ext (e₁.trans e₂)).hi hl hn' rr ?_ q₂ (Kn.ext k (e₁.trans e₂))⟩
          obtain ⟨n, rfl⟩ := Int.eq_ofNat_of_zero_le h0
          rw [upto_any]
          exact rr.take n
        | _ => exact q₂.elim
      | _ => exact q₂.elim
theorem se_sliceFrom {a hi : ME} (ha : SE prog w base fa Φ nm a) (hhi : SE prog w base fa Φ nm hi) : SE prog w base fa Φ nm (.sliceFrom a hi) := by
  intro cl sc vis e env A H st s Q P E hm S hc q k
  · refine any_elim hm ?_; clear hm; rintro ⟨x, y, p, rfl⟩ hm
    dsimp only at hm
    · refine any_elim hm ?_; clear hm; rintro ⟨u, p', rfl⟩ hm
      simp only [Bool.and_eq_true] at hm
      rw [yl] at q
      refine wpAny_Subscript_list_slice (ha _ _ _ _ _ _ _ _ _ _ _ _ hm.1.1 S hc q fun v s₁ d q₁ r e₁ => ?_) (noTemp hm.1.2)
      rw [evalPart_some]
      refine hhi _ _ _ _ _ _ _ _ _ _ _ _ hm.2 (S.ext e₁) hc q₁ fun v₂ s₂ d₂ q₂ r₂ e₂ => ?_
      rw [evalPart_none]
      refine wpAny_pure ?_
      cases d with
      | list ds =>
        cases d₂ with
        | int j =>
          obtain ⟨h0, h1, hn, q₂⟩ := q₂
          obtain ⟨l, vs, rfl, hl, hn', rr⟩ := (r.ext e₂.1).isList
          refine ⟨l, vs, some j, none, rfl, hl, hn', isPart_int r₂, .none, slice_ok (S.ext (e₁.trans e₂)).hi hl hn' rr ?_ q₂ (Kn.ext k (e₁.trans e₂))⟩
          obtain ⟨n, rfl⟩ := Int.eq_ofNat_of_zero_le h0
          rw [from_any]
          exact rr.drop n
        | _ => exact q₂.elim
      | _ => exact q₂.elim
theorem se_sliceBoth {a lo hi : ME} (ha : SE prog w base fa Φ nm a) (hlo : SE prog w base fa Φ nm lo) (hhi : SE prog w base fa Φ nm hi) : SE prog w base fa Φ nm (.sliceBoth a lo hi) := by
  intro cl sc vis e env A H st s Q P E hm S hc q k
  · refine any_elim hm ?_; clear hm; rintro ⟨x, y, p, rfl⟩ hm
    dsimp only at hm
    · refine any_elim hm ?_; clear hm; rintro ⟨u, u', p', rfl⟩ hm
      simp only [Bool.and_eq_true] at hm
      rw [ym] at q
      refine wpAny_Subscript_list_slice (ha _ _ _ _ _ _ _ _ _ _ _ _ hm.1.1.1 S hc q fun v s₁ d q₁ r e₁ => ?_) (noTemp hm.1.1.2)
      rw [evalPart_some]
      refine hlo _ _ _ _ _ _ _ _ _ _ _ _ hm.1.2 (S.ext e₁) hc q₁ fun v₂ s₂ d₂ q₂ r₂ e₂ => ?_
      rw [evalPart_some]
      refine hhi _ _ _ _ _ _ _ _ _ _ _ _ hm.2 (S.ext (e₁.trans e₂)) hc q₂ fun v₃ s₃ d₃ q₃ r₃ e₃ => ?_
      cases d with
      | list ds =>
        cases d₂ with
        | int j =>
          cases d₃ with
          | int i =>
            obtain ⟨h0, h1, h2, h3, hn, q₃⟩ := q₃
            have e23 := e₂.trans e₃
            obtain ⟨l, vs, rfl, hl, hn', rr⟩ := (r.ext e23.1).isList
            refine ⟨l, vs, some j, some i, rfl, hl, hn', isPart_int r₂, isPart_int r₃, slice_ok (S.ext (e₁.trans e23)).hi hl hn' rr ?_ q₃ (Kn.ext k (e₁.trans e23))⟩
            obtain ⟨n, rfl⟩ := Int.eq_ofNat_of_zero_le h0
            obtain ⟨m, rfl⟩ := Int.eq_ofNat_of_zero_le h2
            rw [both_any]
            exact (rr.take m).drop n
          | _ => exact q₃.elim
        | _ => exact q₃.elim
      | _ => exact q₃.elim
theorem se_rev {a : ME} (ha : SE prog w base fa Φ nm a) : SE prog w base fa Φ nm (.rev a) := by
  intro cl sc vis e env A H st s Q P E hm S hc q k
  · refine any_elim hm ?_; clear hm; rintro ⟨x, y, p, rfl⟩ hm
    dsimp only at hm
    · refine any_elim hm ?_; clear hm; rintro ⟨z, p', rfl⟩ hm
      simp only [Bool.and_eq_true] at hm
      obtain ⟨⟨hm1, hm2⟩, hm3⟩ := hm
      · refine any_elim hm3 ?_; clear hm3; rintro ⟨z', p'', rfl⟩ hm3
        dsimp only at hm3
        · refine any_elim hm3 ?_; clear hm3; rintro ⟨j, kk, p3, rfl⟩ hm3
          simp only [beq_iff_eq] at hm3
          subst hm3
          rw [yn] at q
          refine wpAny_Subscript_Slice_step (T := "list") list_getitem_lookup (ha _ _ _ _ _ _ _ _ _ _ _ _ hm1 S hc q fun v s₁ d q₁ r e₁ => ?_) (noTemp hm2)
          refine wpAny_Slice ?_
          rw [evalPart_none]
          refine wpAny_pure (wpAny_pure ?_)
          rw [evalPart_some, eval_UnaryOp]
          refine wpAny_bind (wpAny_Constant_int (wpAny_bind (wpAny_standAt (wpAny_holding (PySem.P.neg_int ?_)))))
          cases d with
          | list ds =>
            obtain ⟨hn, q₁⟩ := q₁
            obtain ⟨l, vs, rfl, hl, hn', rr⟩ := r.isList
            refine ⟨(hl.push _).typeIs, wpAny_getItem_list_slice (hl.push _) (Heap.IsSliceOf.new ..) .none .none (.int _ _) (by decide) ?_ hn'⟩
            rw [pick_rev]
            have hk : s₁.heap.StaysIn ((s₁.heap.push { cls := .type "slice", data := .fields #[.none, .none, .int (-1) (s₁.toks + 1)] }).push { cls := .type "list", data := .seq vs.toList.reverse.toArray }) := fun b o e => Heap.get?_push_of_some _ (Heap.get?_push_of_some _ e)
            exact k _ _ _ q₁ (rd_list (vs := vs.toList.reverse.toArray) (push_list _ _) ((S.ext e₁).hi.fresh _ (by rw [Heap.size_push]; exact Nat.le_succ _)) (by simpa using hn') (rr.reverse.ext hk)) (e₁.trans ⟨hk, rfl, rfl⟩)
          | _ => exact q₁.elim
end
end
section
open PySem PySem.Calls PySem.Spec PyProof.Rows

section
variable {prog : Program} {w : World} {base : Heap} {fa : Nat → Addr} {Φ : Funs} {nm : Nat → Str} (G : Ground base fa fname)

theorem se_bin {op : Bop} {a b : ME} (ha : SE prog w base fa Φ nm a) (hb : SE prog w base fa Φ nm b) : SE prog w base fa Φ nm (.bin op a b) := by
  intro cl sc vis e env A H st s Q P E hm S hc q k
  · refine any_elim hm ?_; clear hm; rintro ⟨o, x, y, p, rfl⟩ hm
    simp only [Bool.and_eq_true, beq_iff_eq] at hm
    obtain ⟨⟨rfl, hm1⟩, hm2⟩ := hm
    rw [yo] at q
    refine wpAny_BinOp (ha _ _ _ _ _ _ _ _ _ _ _ _ hm1 S hc q fun v s₁ d q₁ r e₁ => ?_)
    refine hb _ _ _ _ _ _ _ _ _ _ _ _ hm2 (S.ext e₁) hc q₁ fun v₂ s₂ d₂ q₂ r₂ e₂ => ?_
    exact bin_ok (S.ext (e₁.trans e₂)).hi (r.ext e₂.1) r₂ q₂ fun v s' d q r e _ => k v s' d q r ((e₁.trans e₂).trans e)

theorem notSet {op : CmpOp} {y : PySem.Expr} (h : isSet y = false) : behindInMarks op y = false := by
  cases y <;> first | rfl | exact Bool.noConfusion (show true = false from h)

theorem AOk.lt64 {A : Around} (x : AOk 0 A) : A.units + 64 < cLine := by have := x.u; omega

theorem se_cmp {op : Cop} {a b : ME} (ha : SE prog w base fa Φ nm a) (hb : SE prog w base fa Φ nm b) : SE prog w base fa Φ nm (.cmp op a b) := by
  intro cl sc vis e env A H st s Q P E hm S hc q k
  · refine any_elim hm ?_; clear hm; rintro ⟨o, x, y, p, rfl⟩ hm
    simp only [Bool.and_eq_true, beq_iff_eq, Bool.not_eq_true'] at hm
    obtain ⟨⟨⟨rfl, hm1⟩, hm2⟩, hm3⟩ := hm
    rw [yp] at q
    refine wpAny_Compare1 (ha _ _ _ _ _ _ _ _ _ _ _ _ hm1 S hc q fun v s₁ d q₁ r e₁ => ?_) (notSet hm3)
    refine hb _ _ _ _ _ _ _ _ _ _ _ _ hm2 (S.ext e₁) hc q₁ fun v₂ s₂ d₂ q₂ r₂ e₂ => ?_
    exact cmp_ok S.ao.lt64 (r.ext e₂.1) r₂ (fun r h => h) q₂ (Kn.ext k (e₁.trans e₂))
theorem st_cmp {op : Cop} {a b : ME} (ha : SE prog w base fa Φ nm a) (hb : SE prog w base fa Φ nm b) : ST prog w base fa Φ nm (.cmp op a b) := by
  intro cl sc vis e env A H st s Q P E hm ht S hc q k
  · refine any_elim hm ?_; clear hm; rintro ⟨o, x, y, p, rfl⟩ hm
    simp only [Bool.and_eq_true, beq_iff_eq, Bool.not_eq_true'] at hm
    obtain ⟨⟨⟨rfl, hm1⟩, hm2⟩, hm3⟩ := hm
    rw [zY] at q
    refine wpAny_isTrue_Compare1 (ha _ _ _ _ _ _ _ _ _ _ _ _ hm1 S hc q fun v s₁ d q₁ r e₁ => ?_) (notSet hm3)
    refine hb _ _ _ _ _ _ _ _ _ _ _ _ hm2 (S.ext e₁) hc q₁ fun v₂ s₂ d₂ q₂ r₂ e₂ => ?_
    refine cmp_ok (R := fun d => truthD d Q) S.ao.lt64 (r.ext e₂.1) r₂ (fun r h => h) q₂ fun v₃ s₃ d₃ q₃ r₃ e₃ => ?_
    cases r₃ with
    | bool c => exact wpAny_truthy_bool (k _ _ q₃ ((e₁.trans e₂).trans e₃))
    | _ => exact q₃.elim

theorem isNone_ok {A : Around} {E : Value → Shared → Prop} {s : Shared} {H : Hid} {P : Value → Shared → Prop} {v : Value} {d : D} {neg : Bool} {R : Bool → Prop} (r : Rd (Zof s.heap H) v d) (q : R (isNoneD d != neg)) (k : ∀ b, R b → P (.bool b) s) :
    wpAny (model prog w) A (compareOp (if neg = true then CmpOp.IsNot else .Is) v .none) P E s := by
  have hp : plainIs v .none = true := by cases r <;> rfl
  have he : (v == Value.none) = isNoneD d := by cases r <;> rfl
  cases neg with
  | true =>
    refine wpAny_isNot_plain hp ?_
    rw [he]
    exact k _ (by simpa using q)
  | false =>
    refine wpAny_is_plain hp ?_
    rw [he]
    exact k _ (by simpa using q)

theorem notSet_const {op : CmpOp} {c : Const} {k : Nat} {p : Pos} : behindInMarks op (.Constant c k p) = false := rfl

theorem se_isNone {a : ME} {neg : Bool} (ha : SE prog w base fa Φ nm a) : SE prog w base fa Φ nm (.isNone a neg) := by
  intro cl sc vis e env A H st s Q P E hm S hc q k
  · refine any_elim hm ?_; clear hm; rintro ⟨o, x, y, p, rfl⟩ hm
    simp only [Bool.and_eq_true, beq_iff_eq] at hm
    obtain ⟨⟨rfl, hm1⟩, hm2⟩ := hm
    obtain ⟨⟨_, kk, p', rfl⟩, _⟩ := some_inv hm2
    rw [yq] at q
    refine wpAny_Compare1 (ha _ _ _ _ _ _ _ _ _ _ _ _ hm1 S hc q fun v s₁ d q₁ r e₁ => ?_) rfl
    refine wpAny_pure ?_
    exact isNone_ok (R := fun b => Q (.bool b)) r q₁ fun b hb => k _ _ _ hb (.bool _) e₁
theorem st_isNone {a : ME} {neg : Bool} (ha : SE prog w base fa Φ nm a) : ST prog w base fa Φ nm (.isNone a neg) := by
  intro cl sc vis e env A H st s Q P E hm ht S hc q k
  · refine any_elim hm ?_; clear hm; rintro ⟨o, x, y, p, rfl⟩ hm
    simp only [Bool.and_eq_true, beq_iff_eq] at hm
    obtain ⟨⟨rfl, hm1⟩, hm2⟩ := hm
    obtain ⟨⟨_, kk, p', rfl⟩, _⟩ := some_inv hm2
    rw [y2] at q
    refine wpAny_isTrue_Compare1 (ha _ _ _ _ _ _ _ _ _ _ _ _ hm1 S hc q fun v s₁ d q₁ r e₁ => ?_) rfl
    refine wpAny_pure ?_
    exact isNone_ok (R := Q) r q₁ fun b hb => wpAny_truthy_bool (k _ _ hb e₁)

/-- a call of a built-in with one argument -/
theorem call1 {sc : Scope} {vis : List Nat} {env : Env} {A : Around} {H : Hid} {st : St} {s : Shared} {P : Value → Shared → Prop} {E : Value → Shared → Prop} {x : Str} {v : Value} {p q : Pos} {e : PySem.Expr}
    (G : Ground base fa fname) (S : Sit base nm sc env A vis H st s) (hg : gl sc x = true) (hs : isStar e = false) (hb : x ∈ biNames) (hv : bootBuiltins x = some v) (hn : x ≠ "__name__") (hd : (x == ("__debug__" : Str)) = false)
    (hk : (∃ id, v = .builtin id) ∨ ∃ T, v = .type T)
    (k : wpAny (model prog w) A (eval e env) (fun u s₁ => wpAny (model prog w) A (call v [u]) P E s₁) E s) :
    wpAny (model prog w) A (eval (.Call (.Name x p) [e] [] q) env) P E s :=
  callB_ok G S hg hb hv hn hd hk (star_cons hs) rfl (spliced_more (wpAny_mono k (fun _ _ h => spliced_none h) fun _ _ h => h) (star_cons hs))
theorem call2 {sc : Scope} {vis : List Nat} {env : Env} {A : Around} {H : Hid} {st : St} {s : Shared} {P : Value → Shared → Prop} {E : Value → Shared → Prop} {x : Str} {v : Value} {p q : Pos} {e e' : PySem.Expr}
    (G : Ground base fa fname) (S : Sit base nm sc env A vis H st s) (hg : gl sc x = true) (hs : isStar e = false) (hs' : isStar e' = false) (hb : x ∈ biNames) (hv : bootBuiltins x = some v) (hn : x ≠ "__name__") (hd : (x == ("__debug__" : Str)) = false)
    (hk : (∃ id, v = .builtin id) ∨ ∃ T, v = .type T)
    (k : wpAny (model prog w) A (eval e env) (fun u s₁ => wpAny (model prog w) A (eval e' env) (fun u' s₂ => wpAny (model prog w) A (call v [u, u']) P E s₂) E s₁) E s) :
    wpAny (model prog w) A (eval (.Call (.Name x p) [e, e'] [] q) env) P E s :=
  callB_ok G S hg hb hv hn hd hk (star_cons hs) (by rw [star_cons hs']; rfl) (spliced_more (wpAny_mono k (fun _ _ h => spliced_more (wpAny_mono h (fun _ _ h' => spliced_none h') fun _ _ h' => h') (star_cons hs')) fun _ _ h => h) (star_cons hs))

theorem bb_len : bootBuiltins (Str.ofString "len") = some (.builtin "len") := by decide +kernel
theorem bb_min : bootBuiltins (Str.ofString "min") = some (.builtin "min") := by decide +kernel
theorem bb_max : bootBuiltins (Str.ofString "max") = some (.builtin "max") := by decide +kernel
theorem bb_sum : bootBuiltins (Str.ofString "sum") = some (.builtin "sum") := by decide +kernel
theorem bb_all : bootBuiltins (Str.ofString "all") = some (.builtin "all") := by decide +kernel
theorem bb_sorted : bootBuiltins (Str.ofString "sorted") = some (.builtin "sorted") := by decide +kernel
theorem bb_list : bootBuiltins (Str.ofString "list") = some (.type "list") := by decide +kernel
theorem bb_set : bootBuiltins (Str.ofString "set") = some (.type "set") := by decide +kernel
theorem bb_range : bootBuiltins (Str.ofString "range") = some (.type "range") := by decide +kernel
theorem bb_type : bootBuiltins (Str.ofString "type") = some (.type "type") := by decide +kernel
theorem bb_int : bootBuiltins (Str.ofString "int") = some (.type "int") := by decide +kernel
theorem bb_bool : bootBuiltins (Str.ofString "bool") = some (.type "bool") := by decide +kernel
theorem bb_tuple : bootBuiltins (Str.ofString "tuple") = some (.type "tuple") := by decide +kernel
end
end
section
open PySem PySem.Calls PySem.Spec PyProof.Rows

section
variable {prog : Program} {w : World} {base : Heap} {fa : Nat → Addr} {Φ : Funs} {nm : Nat → Str}
theorem se_len {a : ME} (G : Ground base fa fname) (ha : SE prog w base fa Φ nm a) : SE prog w base fa Φ nm (.len a) := by
  intro cl sc vis e env A H st s Q P E hm S hc q k
  · refine any_elim hm ?_; clear hm; rintro ⟨f, z, p, p', rfl⟩ hm
    simp only [isFn, Bool.and_eq_true, beq_iff_eq, Bool.not_eq_true'] at hm
    obtain ⟨⟨⟨rfl, hg⟩, hm⟩, hs⟩ := hm
    rw [yu] at q
    refine call1 (x := Str.ofString "len") G S hg hs (by decide +kernel) bb_len (by decide +kernel) (by decide +kernel) (.inl ⟨_, rfl⟩) (ha _ _ _ _ _ _ _ _ _ _ _ _ hm S hc q fun v s₁ d q₁ r e₁ => ?_)
    exact len_ok r q₁ (Kn.ext k e₁)
theorem se_sum {a : ME} (G : Ground base fa fname) (ha : SE prog w base fa Φ nm a) : SE prog w base fa Φ nm (.sum a) := by
  intro cl sc vis e env A H st s Q P E hm S hc q k
  · refine any_elim hm ?_; clear hm; rintro ⟨f, z, p, p', rfl⟩ hm
    simp only [isFn, Bool.and_eq_true, beq_iff_eq, Bool.not_eq_true'] at hm
    obtain ⟨⟨⟨rfl, hg⟩, hm⟩, hs⟩ := hm
    rw [yy] at q
    refine call1 (x := Str.ofString "sum") G S hg hs (by decide +kernel) bb_sum (by decide +kernel) (by decide +kernel) (.inl ⟨_, rfl⟩) (ha _ _ _ _ _ _ _ _ _ _ _ _ hm S hc q fun v s₁ d q₁ r e₁ => ?_)
    exact sum_ok S.ao.h r q₁ (Kn.ext k e₁)
theorem se_all {a : ME} (G : Ground base fa fname) (ha : SE prog w base fa Φ nm a) : SE prog w base fa Φ nm (.all a) := by
  intro cl sc vis e env A H st s Q P E hm S hc q k
  · refine any_elim hm ?_; clear hm; rintro ⟨f, z, p, p', rfl⟩ hm
    simp only [isFn, Bool.and_eq_true, beq_iff_eq, Bool.not_eq_true'] at hm
    obtain ⟨⟨⟨rfl, hg⟩, hm⟩, hs⟩ := hm
    rw [yE] at q
    refine call1 (x := Str.ofString "all") G S hg hs (by decide +kernel) bb_all (by decide +kernel) (by decide +kernel) (.inl ⟨_, rfl⟩) (ha _ _ _ _ _ _ _ _ _ _ _ _ hm S hc q fun v s₁ d q₁ r e₁ => ?_)
    exact all_ok S.ao.h r q₁ (Kn.ext k e₁)
theorem se_sortedI {a : ME} (G : Ground base fa fname) (ha : SE prog w base fa Φ nm a) : SE prog w base fa Φ nm (.sortedI a) := by
  intro cl sc vis e env A H st s Q P E hm S hc q k
  · refine any_elim hm ?_; clear hm; rintro ⟨f, z, p, p', rfl⟩ hm
    simp only [isFn, Bool.and_eq_true, beq_iff_eq, Bool.not_eq_true'] at hm
    obtain ⟨⟨⟨rfl, hg⟩, hm⟩, hs⟩ := hm
    rw [yz] at q
    refine call1 (x := Str.ofString "sorted") G S hg hs (by decide +kernel) bb_sorted (by decide +kernel) (by decide +kernel) (.inl ⟨_, rfl⟩) (ha _ _ _ _ _ _ _ _ _ _ _ _ hm S hc q fun v s₁ d q₁ r e₁ => ?_)
    exact sortedI_ok (S.ext e₁).hi r q₁ (Kn.ext k e₁)
theorem se_listOf {a : ME} (G : Ground base fa fname) (ha : SE prog w base fa Φ nm a) : SE prog w base fa Φ nm (.listOf a) := by
  intro cl sc vis e env A H st s Q P E hm S hc q k
  · refine any_elim hm ?_; clear hm; rintro ⟨f, z, p, p', rfl⟩ hm
    simp only [isFn, Bool.and_eq_true, beq_iff_eq, Bool.not_eq_true'] at hm
    obtain ⟨⟨⟨rfl, hg⟩, hm⟩, hs⟩ := hm
    rw [yB] at q
    refine call1 (x := Str.ofString "list") G S hg hs (by decide +kernel) bb_list (by decide +kernel) (by decide +kernel) (.inr ⟨_, rfl⟩) (ha _ _ _ _ _ _ _ _ _ _ _ _ hm S hc q fun v s₁ d q₁ r e₁ => ?_)
    exact listOf_ok (S.ext e₁).hi r q₁ (Kn.ext k e₁)
theorem se_min {a b : ME} (G : Ground base fa fname) (ha : SE prog w base fa Φ nm a) (hb : SE prog w base fa Φ nm b) : SE prog w base fa Φ nm (.min a b) := by
  intro cl sc vis e env A H st s Q P E hm S hc q k
  · refine any_elim hm ?_; clear hm; rintro ⟨f, z, y, p, p', rfl⟩ hm
    simp only [isFn, Bool.and_eq_true, beq_iff_eq, Bool.not_eq_true'] at hm
    obtain ⟨⟨⟨⟨⟨rfl, hg⟩, hm⟩, hs⟩, hm'⟩, hs'⟩ := hm
    rw [yw] at q
    refine call2 (x := Str.ofString "min") G S hg hs hs' (by decide +kernel) bb_min (by decide +kernel) (by decide +kernel) (.inl ⟨_, rfl⟩) (ha _ _ _ _ _ _ _ _ _ _ _ _ hm S hc q fun v s₁ d q₁ r e₁ => ?_)
    refine hb _ _ _ _ _ _ _ _ _ _ _ _ hm' (S.ext e₁) hc q₁ fun v₂ s₂ d₂ q₂ r₂ e₂ => ?_
    exact min_ok S.ao.h (r.ext e₂.1) r₂ q₂ (Kn.ext k (e₁.trans e₂))
theorem se_max {a b : ME} (G : Ground base fa fname) (ha : SE prog w base fa Φ nm a) (hb : SE prog w base fa Φ nm b) : SE prog w base fa Φ nm (.max a b) := by
  intro cl sc vis e env A H st s Q P E hm S hc q k
  · refine any_elim hm ?_; clear hm; rintro ⟨f, z, y, p, p', rfl⟩ hm
    simp only [isFn, Bool.and_eq_true, beq_iff_eq, Bool.not_eq_true'] at hm
    obtain ⟨⟨⟨⟨⟨rfl, hg⟩, hm⟩, hs⟩, hm'⟩, hs'⟩ := hm
    rw [yx] at q
    refine call2 (x := Str.ofString "max") G S hg hs hs' (by decide +kernel) bb_max (by decide +kernel) (by decide +kernel) (.inl ⟨_, rfl⟩) (ha _ _ _ _ _ _ _ _ _ _ _ _ hm S hc q fun v s₁ d q₁ r e₁ => ?_)
    refine hb _ _ _ _ _ _ _ _ _ _ _ _ hm' (S.ext e₁) hc q₁ fun v₂ s₂ d₂ q₂ r₂ e₂ => ?_
    exact max_ok S.ao.h (r.ext e₂.1) r₂ q₂ (Kn.ext k (e₁.trans e₂))
theorem se_lenv {x : Nat} (G : Ground base fa fname) : SE prog w base fa Φ nm (.lenv x) := by
  intro cl sc vis e env A H st s Q P E hm S hc q k
  · refine any_elim hm ?_; clear hm; rintro ⟨f, z, p, p', rfl⟩ hm
    simp only [isFn, Bool.and_eq_true, beq_iff_eq] at hm
    obtain ⟨⟨rfl, hg⟩, hm⟩ := hm
    · refine any_elim hm ?_; clear hm; rintro ⟨n, p'', rfl⟩ hm
      simp only [isFn, Bool.and_eq_true, beq_iff_eq] at hm
      rw [yv] at q
      obtain ⟨sl, ds, hs, hsl, q⟩ := ownAt_inv q
      refine call1 (x := Str.ofString "len") G S hg rfl (by decide +kernel) bb_len (by decide +kernel) (by decide +kernel) (.inl ⟨_, rfl⟩) (load_ok S hm.1.1 (by simpa using hm.1.2) hm.2 hs (own_ne hsl) fun v hv hsv => ?_)
      obtain ⟨a, items, rfl, hl, hn', r⟩ := own_slot hsl hsv
      exact len_list_ok hl.isList hn' r q k
theorem se_listRange {a : ME} (G : Ground base fa fname) (ha : SE prog w base fa Φ nm a) : SE prog w base fa Φ nm (.listRange a) := by
  intro cl sc vis e env A H st s Q P E hm S hc q k
  · refine any_elim hm ?_; clear hm; rintro ⟨f, z, p, p', rfl⟩ hm
    simp only [isFn, Bool.and_eq_true, beq_iff_eq] at hm
    obtain ⟨⟨rfl, hg⟩, hm⟩ := hm
    · refine any_elim hm ?_; clear hm; rintro ⟨g, y, p2, p3, rfl⟩ hm
      simp only [isFn, Bool.and_eq_true, beq_iff_eq, Bool.not_eq_true'] at hm
      obtain ⟨⟨⟨rfl, hg'⟩, hm⟩, hs⟩ := hm
      rw [yC] at q
      refine call1 (x := Str.ofString "list") G S hg rfl (by decide +kernel) bb_list (by decide +kernel) (by decide +kernel) (.inr ⟨_, rfl⟩) ?_
      refine call1 (x := Str.ofString "range") G S hg' hs (by decide +kernel) bb_range (by decide +kernel) (by decide +kernel) (.inr ⟨_, rfl⟩) (ha _ _ _ _ _ _ _ _ _ _ _ _ hm S hc q fun v s₁ d q₁ r e₁ => ?_)
      cases r with
      | int j t =>
        refine call_range_1 ?_
        have e2 : Ext s₁ { s₁ with heap := s₁.heap.push { cls := .type "range", data := .fields #[.int 0 s₁.toks, .int j t, .int 1 (s₁.toks + 1)] }, toks := s₁.toks + 1 + 1 } := Ext.push
        exact listRange_ok S.ao.h ((S.ext e₁).ext e2).hi (IsRange.new _ _ _ _ _ _ _) q₁ (Kn.ext k (e₁.trans e2))
      | _ => exact q₁.elim
theorem se_setLen {a : ME} (G : Ground base fa fname) (ha : SE prog w base fa Φ nm a) : SE prog w base fa Φ nm (.setLen a) := by
  intro cl sc vis e env A H st s Q P E hm S hc q k
  · refine any_elim hm ?_; clear hm; rintro ⟨f, z, p, p', rfl⟩ hm
    simp only [isFn, Bool.and_eq_true, beq_iff_eq] at hm
    obtain ⟨⟨rfl, hg⟩, hm⟩ := hm
    · refine any_elim hm ?_; clear hm; rintro ⟨g, y, p2, p3, rfl⟩ hm
      simp only [isFn, Bool.and_eq_true, beq_iff_eq, Bool.not_eq_true'] at hm
      obtain ⟨⟨⟨rfl, hg'⟩, hm⟩, hs⟩ := hm
      rw [yD] at q
      refine call1 (x := Str.ofString "len") G S hg rfl (by decide +kernel) bb_len (by decide +kernel) (by decide +kernel) (.inl ⟨_, rfl⟩) ?_
      refine call1 (x := Str.ofString "set") G S hg' hs (by decide +kernel) bb_set (by decide +kernel) (by decide +kernel) (.inr ⟨_, rfl⟩) (ha _ _ _ _ _ _ _ _ _ _ _ _ hm S hc q fun v s₁ d q₁ r e₁ => ?_)
      cases d with
      | list ds => exact set_ok S.ao.h r q₁ (Kn.ext k e₁)
      | _ => exact q₁.elim

noncomputable def tyName : D → String
  | .none => "NoneType" | .bool _ => "bool" | .int _ => "int" | .str _ => "str" | .list _ => "list" | .tuple _ => "tuple" | _ => ""
theorem typeIs_of {s : Shared} {H : Hid} {v : Value} {d : D} (r : Rd (Zof s.heap H) v d) : s.TypeIs v (tyName d) ∧ (Value.type (tyName d) == Value.type "builtin_function_or_method") = false := by
  cases r with
  | none => exact ⟨rfl, by decide⟩
  | bool b => exact ⟨rfl, by show (Value.type "bool" == _) = false; decide⟩
  | int i t => exact ⟨typeIs_int s i t, by show (Value.type "int" == _) = false; decide⟩
  | str x t => exact ⟨typeIs_str s x t, by show (Value.type "str" == _) = false; decide⟩
  | list h hd hn r => exact ⟨⟨_, h.1, cls_of hd⟩, by show (Value.type "list" == _) = false; decide⟩
  | tuple h hc hd hn r => exact ⟨⟨_, h.1, hc⟩, by show (Value.type "tuple" == _) = false; decide⟩
theorem tyIs_eq {s : Shared} {H : Hid} {v : Value} {d : D} (r : Rd (Zof s.heap H) v d) (t : Ty) : (Value.type (tyName d) == Value.type (tyStr t)) = tyIs d t := by
  cases r <;> cases t <;> rfl

theorem typeIs_go {a : ME} {t : Ty} (G : Ground base fa fname) (ha : SE prog w base fa Φ nm a) {cl : Bool} {sc : Scope} {vis : List Nat} {x y : PySem.Expr} {env : Env} {A : Around} {H : Hid} {st : St} {s : Shared} {R : Bool → Prop} {P : Value → Shared → Prop} {E : Value → Shared → Prop}
    (hm1 : ((cCall1 x).any fun c => isFn sc (Str.ofString "type") c.a && mE nm cl sc vis a c.b && !isStar c.b) = true)
    (hm2 : ((cName y).any fun n => isFn sc (Str.ofString (tyStr t)) n.1) = true)
    (S : Sit base nm sc env A vis H st s) (hc : cl = true → CallOk prog w base fa Φ A) (q : wpE Φ a st fun x => R (tyIs x t)) (k : ∀ b s', R b → Ext s s' → P (.bool b) s') :
    wpAny (model prog w) A (eval x env) (fun u s₁ => wpAny (model prog w) A (eval y env) (fun u' s₂ => wpAny (model prog w) A (compareOp .Is u u') P E s₂) E s₁) E s := by
  · refine any_elim hm1 ?_; clear hm1; rintro ⟨f, z, p, p', rfl⟩ hm1
    simp only [isFn, Bool.and_eq_true, beq_iff_eq, Bool.not_eq_true'] at hm1
    obtain ⟨⟨⟨rfl, hg⟩, hm⟩, hs⟩ := hm1
    · refine any_elim hm2 ?_; clear hm2; rintro ⟨n, p'', rfl⟩ hm2
      simp only [isFn, Bool.and_eq_true, beq_iff_eq] at hm2
      obtain ⟨rfl, hg'⟩ := hm2
      refine call1 (x := Str.ofString "type") G S hg hs (by decide +kernel) bb_type (by decide +kernel) (by decide +kernel) (.inr ⟨_, rfl⟩) (ha _ _ _ _ _ _ _ _ _ _ _ _ hm S hc q fun v s₁ d q₁ r e₁ => ?_)
      obtain ⟨hT, hT'⟩ := typeIs_of r
      refine call_type_of hT hT' ?_
      have fin : wpAny (model prog w) A (compareOp .Is (.type (tyName d)) (.type (tyStr t))) P E s₁ := by
        refine wpAny_is_plain rfl ?_
        rw [tyIs_eq r]
        exact k _ _ q₁ e₁
      cases t with
      | int => exact bi_ok (x := Str.ofString "int") G (S.ext e₁) hg' (by decide +kernel) bb_int (by decide +kernel) (by decide +kernel) fin
      | bool => exact bi_ok (x := Str.ofString "bool") G (S.ext e₁) hg' (by decide +kernel) bb_bool (by decide +kernel) (by decide +kernel) fin
      | tuple => exact bi_ok (x := Str.ofString "tuple") G (S.ext e₁) hg' (by decide +kernel) bb_tuple (by decide +kernel) (by decide +kernel) fin
theorem dName_notSet {y : PySem.Expr} {b : {x : Str // ∃ p, y = .Name x p} → Bool} (h : (cName y).any b = true) : isSet y = false := by
  refine any_elim h ?_; clear h; rintro ⟨n, p, rfl⟩ _
  rfl
theorem se_typeIs {a : ME} {t : Ty} (G : Ground base fa fname) (ha : SE prog w base fa Φ nm a) : SE prog w base fa Φ nm (.typeIs a t) := by
  intro cl sc vis e env A H st s Q P E hm S hc q k
  · refine any_elim hm ?_; clear hm; rintro ⟨o, x, y, p, rfl⟩ hm
    simp only [isFn, Bool.and_eq_true, beq_iff_eq] at hm
    obtain ⟨⟨rfl, hm1⟩, hm2⟩ := hm
    rw [yr] at q
    exact wpAny_Compare1 (typeIs_go (R := fun b => Q (.bool b)) G ha hm1 hm2 S hc q fun b s' hb e => k _ _ _ hb (.bool _) e) (notSet (dName_notSet hm2))
theorem st_typeIs {a : ME} {t : Ty} (G : Ground base fa fname) (ha : SE prog w base fa Φ nm a) : ST prog w base fa Φ nm (.typeIs a t) := by
  intro cl sc vis e env A H st s Q P E hm ht S hc q k
  · refine any_elim hm ?_; clear hm; rintro ⟨o, x, y, p, rfl⟩ hm
    simp only [isFn, Bool.and_eq_true, beq_iff_eq] at hm
    obtain ⟨⟨rfl, hm1⟩, hm2⟩ := hm
    rw [y3] at q
    exact wpAny_isTrue_Compare1 (typeIs_go (R := Q) G ha hm1 hm2 S hc q fun b s' hb e => wpAny_truthy_bool (k _ _ hb e)) (notSet (dName_notSet hm2))

theorem eval_IfExp' (c a b : PySem.Expr) (p : Pos) (env : Env) : eval (.IfExp c a b p) env = (do if ← isTrue c env (eval c env) then eval a env else eval b env) := rfl
theorem se_ite {c a b : ME} (hc' : ST prog w base fa Φ nm c) (ha : SE prog w base fa Φ nm a) (hb : SE prog w base fa Φ nm b) : SE prog w base fa Φ nm (.ite c a b) := by
  intro cl sc vis e env A H st s Q P E hm S hc q k
  · refine any_elim hm ?_; clear hm; rintro ⟨x, y, z, p, rfl⟩ hm
    simp only [Bool.and_eq_true] at hm
    obtain ⟨⟨⟨hm1, ht⟩, hm2⟩, hm3⟩ := hm
    rw [yt] at q
    rw [eval_IfExp']
    refine wpAny_bind (hc' _ _ _ _ _ _ _ _ _ _ _ _ hm1 ht S hc q fun r s₁ q₁ e₁ => ?_)
    cases r with
    | true => exact ha _ _ _ _ _ _ _ _ _ _ _ _ hm2 (S.ext e₁) hc q₁ (Kn.ext k e₁)
    | false => exact hb _ _ _ _ _ _ _ _ _ _ _ _ hm3 (S.ext e₁) hc q₁ (Kn.ext k e₁)
theorem isTrue_not (x : PySem.Expr) (p : Pos) (env : Env) (wh : Sem Value) : isTrue (.UnaryOp .Not x p) env wh = (do return !(← isTrue x env (eval x env))) := rfl
theorem isTrue_bool (op : BoolOp) (xs : List PySem.Expr) (p : Pos) (env : Env) (wh : Sem Value) : isTrue (.BoolOp op xs p) env wh = allTrue op xs env := rfl
theorem allTrue_cons (op : BoolOp) (x : PySem.Expr) (xs : List PySem.Expr) (env : Env) : allTrue op (x :: xs) env = (do
    match op, ← isTrue x env (eval x env) with
    | .And, false => pure false
    | .Or, true => pure true
    | _, _ => allTrue op xs env) := rfl
theorem allTrue_nil (op : BoolOp) (env : Env) : allTrue op [] env = pure (op == .And) := rfl
theorem st_not {a : ME} (ha : ST prog w base fa Φ nm a) : ST prog w base fa Φ nm (.not a) := by
  intro cl sc vis e env A H st s Q P E hm ht S hc q k
  · refine any_elim hm ?_; clear hm; rintro ⟨x, p, rfl⟩ hm
    simp only [Bool.and_eq_true] at hm
    rw [y6] at q
    rw [isTrue_not]
    exact wpAny_bind (ha _ _ _ _ _ _ _ _ _ _ _ _ hm.1 hm.2 S hc q fun r s₁ q₁ e₁ => wpAny_pure (k _ _ q₁ e₁))
theorem st_and {a b : ME} (ha : ST prog w base fa Φ nm a) (hb : ST prog w base fa Φ nm b) : ST prog w base fa Φ nm (.and a b) := by
  intro cl sc vis e env A H st s Q P E hm ht S hc q k
  · refine any_elim hm ?_; clear hm; rintro ⟨x, y, p, rfl⟩ hm
    simp only [Bool.and_eq_true] at hm
    obtain ⟨⟨⟨hm1, ht1⟩, hm2⟩, ht2⟩ := hm
    rw [y7] at q
    rw [isTrue_bool, allTrue_cons]
    refine wpAny_bind (ha _ _ _ _ _ _ _ _ _ _ _ _ hm1 ht1 S hc q fun r s₁ q₁ e₁ => ?_)
    cases r with
    | false => exact wpAny_pure (k _ _ q₁ e₁)
    | true =>
      show wpAny _ _ (allTrue .And [y] env) _ _ _
      rw [allTrue_cons]
      refine wpAny_bind (hb _ _ _ _ _ _ _ _ _ _ _ _ hm2 ht2 (S.ext e₁) hc q₁ fun r s₂ q₂ e₂ => ?_)
      cases r with
      | false => exact wpAny_pure (k _ _ q₂ (e₁.trans e₂))
      | true => exact wpAny_pure (k _ _ q₂ (e₁.trans e₂))
theorem or_c {nm : Nat → Str} {cl : Bool} {sc : Scope} {vis : List Nat} {a b : ME} {e : PySem.Expr} (h : mE nm cl sc vis (.or a b) e = true) : ((cBool2 .Or e).any fun q => mE nm cl sc vis a q.a && okT a && mE nm cl sc vis b q.b && okT b) = true ∨
      ((cBool3 .Or e).any fun q => mE nm cl sc vis a q.a && okT a && (match b with | .or c d => mE nm cl sc vis c q.b && okT c && mE nm cl sc vis d q.c && okT d | _ => false)) = true := by
  cases b <;> exact or_inv h
theorem st_or {a b : ME} (ha : ST prog w base fa Φ nm a) (hb : ST prog w base fa Φ nm b) (hb' : ∀ c d, b = .or c d → ST prog w base fa Φ nm c ∧ ST prog w base fa Φ nm d) : ST prog w base fa Φ nm (.or a b) := by
  intro cl sc vis e env A H st s Q P E hm ht S hc q k
  rcases or_c hm with hm | hm
  · refine any_elim hm ?_; clear hm; rintro ⟨x, y, p, rfl⟩ hm
    simp only [Bool.and_eq_true] at hm
    obtain ⟨⟨⟨hm1, ht1⟩, hm2⟩, ht2⟩ := hm
    rw [y8] at q
    rw [isTrue_bool, allTrue_cons]
    refine wpAny_bind (ha _ _ _ _ _ _ _ _ _ _ _ _ hm1 ht1 S hc q fun r s₁ q₁ e₁ => ?_)
    cases r with
    | true => exact wpAny_pure (k _ _ q₁ e₁)
    | false =>
      show wpAny _ _ (allTrue .Or [y] env) _ _ _
      rw [allTrue_cons]
      refine wpAny_bind (hb _ _ _ _ _ _ _ _ _ _ _ _ hm2 ht2 (S.ext e₁) hc q₁ fun r s₂ q₂ e₂ => ?_)
      cases r with
      | false => exact wpAny_pure (k _ _ q₂ (e₁.trans e₂))
      | true => exact wpAny_pure (k _ _ q₂ (e₁.trans e₂))
  · refine any_elim hm ?_; clear hm; rintro ⟨x, y, z, p, rfl⟩ hm
    simp only [Bool.and_eq_true] at hm
    obtain ⟨⟨hm1, ht1⟩, hm2⟩ := hm
    set_option tactic.hygienic true in split at hm2
    · rename_i c d
      obtain ⟨hC, hD⟩ := hb' c d rfl
      simp only [Bool.and_eq_true] at hm2
      obtain ⟨⟨⟨hm2, ht2⟩, hm3⟩, ht3⟩ := hm2
      rw [y8] at q
      rw [isTrue_bool, allTrue_cons]
      refine wpAny_bind (ha _ _ _ _ _ _ _ _ _ _ _ _ hm1 ht1 S hc q fun r s₁ q₁ e₁ => ?_)
      cases r with
      | true => exact wpAny_pure (k _ _ q₁ e₁)
      | false =>
        rw [if_neg (by decide), y8] at q₁
        show wpAny _ _ (allTrue .Or [y, z] env) _ _ _
        rw [allTrue_cons]
        refine wpAny_bind (hC _ _ _ _ _ _ _ _ _ _ _ _ hm2 ht2 (S.ext e₁) hc q₁ fun r s₂ q₂ e₂ => ?_)
        cases r with
        | true => exact wpAny_pure (k _ _ q₂ (e₁.trans e₂))
        | false =>
          show wpAny _ _ (allTrue .Or [z] env) _ _ _
          rw [allTrue_cons]
          refine wpAny_bind (hD _ _ _ _ _ _ _ _ _ _ _ _ hm3 ht3 (S.ext (e₁.trans e₂)) hc q₂ fun r s₃ q₃ e₃ => ?_)
          cases r with
          | false => exact wpAny_pure (k _ _ q₃ ((e₁.trans e₂).trans e₃))
          | true => exact wpAny_pure (k _ _ q₃ ((e₁.trans e₂).trans e₃))
    · cases hm2
end
end
section
open PySem PySem.Calls PySem.Spec PyProof.Rows

section
variable {prog : Program} {w : World} {base : Heap} {fa : Nat → Addr} {Φ : Funs} {nm : Nat → Str}

theorem noStars {cl : Bool} {sc : Scope} {vis : List Nat} {env : Env} {q : Pos} : ∀ {es : MEs} {xs : List PySem.Expr}, mEs nm cl sc vis es xs = true → (backTo q (starEach xs env)).any (·.1) = false
  | .nil, xs, h => by
    cases List.isEmpty_iff.mp h; rfl
  | .cons e es, xs, h => by
    refine any_elim h ?_; clear h; rintro ⟨x, xs, rfl⟩ h
    simp only [Bool.and_eq_true, Bool.not_eq_true'] at h
    rw [star_cons h.1.2]
    exact noStars h.2

theorem fn_keeps (G : Ground base fa fname) {f : Nat} (hf : f < 26) (h : Heap) (hb : base.StaysIn h) : ∃ k, (k = Keeper.frame ∨ k = Keeper.machine ∨ k = Keeper.boundFrame) ∧ PySem.W.Looks (model prog w) h (keeperOf (.ref (fa f))) k := by
  obtain ⟨o, ho, fd, hd⟩ := G.fn f hf
  refine ⟨.frame, .inl rfl, (PySem.W.Looks.ld (part := none) (hb _ _ ho)).andThen ?_⟩
  rw [hd]
  exact .now

theorem fn_name (G : Ground base fa fname) {sc : Scope} {vis : List Nat} {env : Env} {A : Around} {H : Hid} {st : St} {s : Shared} {P : Value → Shared → Prop} {E : Value → Shared → Prop} {f : Nat} {p : Pos} (S : Sit base nm sc env A vis H st s)
    (hf : f < 26) (hg : gl sc (fname f) = true) (hn : nameOk (fname f) = true) (k : P (.ref (fa f)) s) : wpAny (model prog w) A (eval (.Name (fname f) p) env) P E s := by
  obtain ⟨mg, hmg, _, h1⟩ := G.g
  unfold nameOk at hn
  simp only [Bool.and_eq_true, Bool.not_eq_true'] at hn
  refine Name_function_global S.eo.k (S.eo.gl _ (by simpa [gl] using hg)) (loadGlobal_global (mg := mg) ?_ (h1 f hf) k) hn.1
  rw [S.eo.g]; exact hmg.keeps S.ba

theorem se_call {f : Nat} {es : MEs} (G : Ground base fa fname) (h : SEs prog w base fa Φ nm es) : SE prog w base fa Φ nm (.call f es) := by
  intro cl sc vis e env A H st s Q P E hm S hc q k
  · refine any_elim hm ?_; clear hm; rintro ⟨g, xs, p, p', rfl⟩ hm
    simp only [Bool.and_eq_true, beq_iff_eq, decide_eq_true_eq, Bool.not_eq_true'] at hm
    obtain ⟨⟨⟨⟨⟨⟨⟨hcl, rfl⟩, hf⟩, hg⟩, hn⟩, hm⟩, hne⟩, hl⟩ := hm
    rw [yG] at q
    refine Call_Name rfl (fn_name G S hf hg hn ?_)
    refine PySem.W.callWith_of (P := fun h => base.StaysIn h) (by rw [noStars hm]; rfl) (fn_keeps G hf) ?_
    cases xs with
    | nil => simp at hne
    | cons x xs =>
      have hs : isStar x = false := by
        cases es with
        | nil => exact Bool.noConfusion (show false = true from hm)
        | cons e es =>
          have hm : (mE nm cl sc vis e x && !isStar x && mEs nm cl sc vis es xs) = true := hm
          simp only [Bool.and_eq_true, Bool.not_eq_true'] at hm
          exact hm.1.2
      have key : wpAny (model prog w) A (spliced (backTo p' (starEach (x :: xs) env))) (fun vs s₁ => base.StaysIn s₁.heap ∧ wpAny (model prog w) A (call (.ref (fa f)) vs) P E s₁) E s := by
        refine h _ _ _ _ _ _ _ _ _ _ _ _ _ hm S hc q fun vs s₁ ds q₁ r hl e₁ => ⟨(S.ext e₁).ba, ?_⟩
        exact hc hcl f ds Q q₁ hf s₁ H vs P E (S.ext e₁).ba (S.ext e₁).hi r (Kn.ext k e₁)
      rw [star_cons hs] at key ⊢
      exact evalArgs_plain key

/-- a value that stands as a test -/
theorem st_of_se {me : ME} (h : SE prog w base fa Φ nm me) (hq : ∀ st Q, wpT Φ me st Q → wpE Φ me st fun d => truthD d Q)
    (he : ∀ cl sc vis e env wh, mE nm cl sc vis me e = true → isTrue e env wh = (do let v ← wh; standAt e.pos; holding [v] (truthy v))) : ST prog w base fa Φ nm me := by
  intro cl sc vis e env A H st s Q P E hm ht S hc q k
  refine wpAny_isTrue_value ?_ (he _ _ _ _ _ _ hm)
  refine h _ _ _ _ _ _ _ _ _ _ _ _ hm S hc (hq _ _ q) fun v s₁ d q₁ r e₁ => ?_
  cases r with
  | bool c => exact wpAny_truthy_bool (k _ _ q₁ e₁)
  | _ => exact q₁.elim
theorem st_var (i : Nat) : ST prog w base fa Φ nm (.var i) := st_of_se (se_var i) (fun st Q h => by rw [zZ] at h; rw [y9]; exact h) fun cl sc vis e env wh hm => by
  refine any_elim hm ?_; clear hm; rintro ⟨x, p, rfl⟩ _; rfl
theorem st_bool (b : Bool) : ST prog w base fa Φ nm (.bool b) := st_of_se (se_bool b) (fun st Q h => by rw [y5] at h; rw [yb]; exact h) fun cl sc vis e env wh hm => by
  refine any_elim hm ?_; clear hm; rintro ⟨x, k, p, rfl⟩ _; rfl
theorem st_sub {a i : ME} (ha : SE prog w base fa Φ nm a) (hi : SE prog w base fa Φ nm i) : ST prog w base fa Φ nm (.sub a i) := st_of_se (se_sub ha hi) (fun st Q h => by rw [y0] at h; rw [yi]; exact h) fun cl sc vis e env wh hm => by
  refine any_elim hm ?_; clear hm; rintro ⟨x, y, p, rfl⟩ _; rfl
theorem st_subv {x : Nat} {i : ME} (hi : SE prog w base fa Φ nm i) : ST prog w base fa Φ nm (.subv x i) := st_of_se (se_subv hi) (fun st Q h => by rw [y1] at h; rw [yj]; exact h) fun cl sc vis e env wh hm => by
  refine any_elim hm ?_; clear hm; rintro ⟨x, y, p, rfl⟩ _; rfl
theorem st_call {f : Nat} {es : MEs} (G : Ground base fa fname) (h : SEs prog w base fa Φ nm es) : ST prog w base fa Φ nm (.call f es) := st_of_se (se_call G h) (fun st Q h => by rw [y4] at h; rw [yG]; exact h) fun cl sc vis e env wh hm => by
  refine any_elim hm ?_; clear hm; rintro ⟨x, y, p, p', rfl⟩ _; rfl

theorem se_count {a b : ME} (hb : SE prog w base fa Φ nm b) : SE prog w base fa Φ nm (.count a b) := by
  intro cl sc vis e env A H st s Q P E hm S hc q k
  · refine any_elim hm ?_; clear hm; rintro ⟨o, m, x, p, apos, pos, rfl, hpos⟩ hm
    simp only [Bool.and_eq_true, beq_iff_eq, Bool.not_eq_true'] at hm
    obtain ⟨⟨⟨rfl, hm1⟩, hm2⟩, hs⟩ := hm
    refine any_elim hm1 ?_; clear hm1; rintro ⟨i, rfl⟩ hm1
    simp only [Bool.and_eq_true, beq_iff_eq] at hm1
    rw [yF, y9] at q
    unfold shAt at q
    set_option tactic.hygienic true in split at q
    · rename_i d hst
      cases d with
      | list ds =>
        refine wpAny_Call_method1_late rfl hpos (by rw [star_cons hs]; rfl) (load_ok S hm1.1.1 (by simpa using hm1.1.2) hm1.2 hst (by simp) fun v _ hv => ?_)
        have hrd : Rd (Zof s.heap H) v (.list ds) := hv
        obtain ⟨a, vs, rfl, ⟨n, ho⟩, hn, r⟩ := hrd.plain
        refine ⟨"list", "list.count", PySem.F.plainAttrs_list, PySem.F.slot_list_count, PySem.F.type_list_count, ⟨_, ho, rfl⟩, fun b e => by cases e; exact ⟨_, ho, rfl⟩, ?_⟩
        refine Calls.callWith_builtin rfl (Calls.evalArgs_plain (Calls.spliced_cons (hb _ _ _ _ _ _ _ _ _ _ _ _ hm2 S hc q fun v₂ s₂ d₂ q₂ r₂ e₂ => Calls.spliced_nil ?_)))
        exact count_ok (hrd.ext e₂.1) r₂ q₂ (Kn.ext k e₂)
      | _ => exact q.elim
    · exact q.elim
end
end
section
open PySem PySem.Calls PySem.Spec PyProof.Rows

section
variable (prog : Program) (w : World) (base : Heap) (fa : Nat → Addr) (Φ : Funs) (nm : Nat → Str)
/-- an iterator at its start: it walks over the items -/
noncomputable def IterAt (A : Around) (H : Hid) (h₁ h₂ : Heap) (I : Addr) (items : List D) (vis : Bool) : Prop := ∃ fp Pp St, Walks prog w A I fp [I] items.length Pp St ∧ St 0 h₂ ∧
  (∀ b ∈ fp, b ≠ I → ∃ o, h₁.get? b = some o ∧ isSeq o ∧ (vis = true → ¬ H b)) ∧ (∀ i v, Pp i v → ∀ hi : i < items.length, Rd (Zof h₁ H) v items[i]) ∧
  (∀ i (s : Shared) target v (Q : Unit → Shared → Prop) E, St i s.heap → Q () s → wpAny (model prog w) A (letOwnedTupleGo target (.ref I) v) Q E s) ∧ (∀ i h, St i h → ∃ o, h.get? I = some o ∧ ¬ isSeq o)
abbrev Kit (A : Around) (s : Shared) (H : Hid) (vis : Bool) (Q : List D → Prop) (P : Value → Shared → Prop) : Prop := ∀ I s₁ s₂ items, Q items → items.length ≤ 1000000 → Ext s s₁ → Ext s₁ s₂ → s₁.heap.objs.size ≤ I → (∃ o, s₂.heap.get? I = some o) →
  IterAt prog w A H s₁.heap s₂.heap I items vis → P (.ref I) s₂
noncomputable def SIt (it : It) : Prop := ∀ cl sc vis e env A H st s Q P E, mIt nm cl sc vis it e = true → Sit base nm sc env A vis H st s → (cl = true → CallOk prog w base fa Φ A) → wpIt Φ it st Q → Kit prog w A s H (notOfV it) Q P →
  wpAny (model prog w) A (eval e env) (fun x s₁ => wpAny (model prog w) A (pyIter x) P E s₁) E s
end

section
variable {prog : Program} {w : World} {base : Heap} {fa : Nat → Addr} {Φ : Funs} {nm : Nat → Str} {A : Around} {E : Value → Shared → Prop} {s : Shared} {H : Hid} {P : Value → Shared → Prop}

theorem letGo_at {I : Addr} {o : Obj} {n : String} {vs : Array Value} {target : PySem.Expr} {v : Value} {Q : Unit → Shared → Prop} (ho : s.heap.get? I = some o) (hc : o.cls = .type n) (hd : o.data = .fields vs)
    (hn : (["enumerate", "zip", "dict_itemiterator", "dict_reverseitemiterator", "odict_iterator", "itertools.zip_longest", "itertools.pairwise"].contains n) = false) (hq : Q () s) :
    wpAny (model prog w) A (letOwnedTupleGo target (.ref I) v) Q E s := by
  have key : ∀ a : Addr, wpAny (model prog w) A (do
      let o ← load I
      match o.cls, o.data with
      | .type n, .fields vs =>
        if ["enumerate", "zip", "dict_itemiterator", "dict_reverseitemiterator", "odict_iterator", "itertools.zip_longest", "itertools.pairwise"].contains n && vs[0]? == some (rawInt a) then
          rule "for.unpacks-the-owned-tuple"
          updateField I 0 .none
      | _, _ => pure ()) Q E s := fun a => by
    refine wpAny_bind (wpAny_load ho ?_)
    rw [hc, hd]
    dsimp only
    rw [hn, Bool.false_and, if_neg (by decide)]
    exact wpAny_pure hq
  unfold letOwnedTupleGo
  split
  · cases v with
    | ref a => exact key a
    | _ => exact wpAny_pure hq
  · cases v with
    | ref a => exact key a
    | _ => exact wpAny_pure hq
  · exact wpAny_pure hq

theorem iter_list_ok {a : Addr} {vs : Array Value} {ds : List D} {vis : Bool} {Q : List D → Prop} {s₀ : Shared} (hh : A.handled = none) (hl : s.heap.IsList a vs) (r : RdAll (Zof s.heap H) vs.toList ds) (hv : vis = true → ¬ H a)
    (q : Q ds) (hn : ds.length ≤ 1000000) (e : Ext s₀ s) (k : Kit prog w A s₀ H vis Q P) : wpAny (model prog w) A (pyIter (.ref a)) P E s := by
  have hlt : a < s.heap.objs.size := by obtain ⟨_, e, _⟩ := hl; exact Heap.lt_size e
  have es := r.size
  refine wpAny_pyIter_list hl ?_
  refine k s.heap.objs.size s _ ds q hn e (Ext.push (tk := s.toks)) (Nat.le_refl _) ⟨_, Heap.get?_push_size _ rfl⟩ ?_
  refine ⟨_, _, _, es ▸ Walks.list hh s.heap.objs.size a (Nat.ne_of_lt hlt) vs, ⟨⟨_, Heap.get?_push_size _ rfl, rfl, rfl⟩, hl.push _⟩, fun b hb hne => ?_, fun i v hP hi => ?_, fun i s' t v Q' E' hst hq => ?_, fun i h hst => ?_⟩
  · simp only [List.mem_cons, List.not_mem_nil, or_false] at hb
    rcases hb with rfl | rfl
    · exact absurd rfl hne
    · obtain ⟨o, ho, _, n, hd⟩ := hl; exact ⟨o, ho, ⟨_, _, hd⟩, hv⟩
  · obtain ⟨x, hx, rx⟩ := r.at hi
    rw [hP] at hx; cases hx; exact rx
  · obtain ⟨⟨o, ho, hc, hd⟩, _⟩ := hst
    exact letGo_at ho hc hd (by decide) hq
  · obtain ⟨⟨o, ho, hc, hd⟩, _⟩ := hst
    exact ⟨o, ho, fun ⟨vs, n, e⟩ => by rw [hd] at e; cases e⟩
theorem iter_tuple_ok {a : Addr} {vs : Array Value} {ds : List D} {vis : Bool} {Q : List D → Prop} {s₀ : Shared} (hh : A.handled = none) (hl : s.heap.IsTuple a vs) (r : RdAll (Zof s.heap H) vs.toList ds) (hv : vis = true → ¬ H a)
    (q : Q ds) (hn : ds.length ≤ 1000000) (e : Ext s₀ s) (k : Kit prog w A s₀ H vis Q P) : wpAny (model prog w) A (pyIter (.ref a)) P E s := by
  have hlt : a < s.heap.objs.size := by obtain ⟨_, e, _⟩ := hl; exact Heap.lt_size e
  have es := r.size
  refine wpAny_pyIter_tuple hl ?_
  refine k s.heap.objs.size s _ ds q hn e (Ext.push (tk := s.toks)) (Nat.le_refl _) ⟨_, Heap.get?_push_size _ rfl⟩ ?_
  refine ⟨_, _, _, es ▸ Walks.tuple hh s.heap.objs.size a (Nat.ne_of_lt hlt) vs, ⟨⟨_, Heap.get?_push_size _ rfl, rfl, rfl⟩, hl.push _⟩, fun b hb hne => ?_, fun i v hP hi => ?_, fun i s' t v Q' E' hst hq => ?_, fun i h hst => ?_⟩
  · simp only [List.mem_cons, List.not_mem_nil, or_false] at hb
    rcases hb with rfl | rfl
    · exact absurd rfl hne
    · obtain ⟨o, ho, _, n, hd⟩ := hl; exact ⟨o, ho, ⟨_, _, hd⟩, hv⟩
  · obtain ⟨x, hx, rx⟩ := r.at hi
    rw [hP] at hx; cases hx; exact rx
  · obtain ⟨⟨o, ho, hc, hd⟩, _⟩ := hst
    exact letGo_at ho hc hd (by decide) hq
  · obtain ⟨⟨o, ho, hc, hd⟩, _⟩ := hst
    exact ⟨o, ho, fun ⟨vs, n, e⟩ => by rw [hd] at e; cases e⟩
theorem iter_range_ok {r : Addr} {a b : Int} {t u v : Tok} {vis : Bool} {Q : List D → Prop} {s₀ : Shared} (hh : A.handled = none) (hr : IsRange s.heap r a b 1 t u v) (q : rangeD (.int a) (.int b) Q) (e : Ext s₀ s) (k : Kit prog w A s₀ H vis Q P) :
    wpAny (model prog w) A (pyIter (.ref r)) P E s := by
  obtain ⟨h0, h1, h2, q⟩ := q
  refine wpAny_pyIter_range hr (small_one (by omega) (by omega) (by omega) (by omega)) ?_
  refine k s.heap.objs.size s _ (rangeL a b) q (by rw [rangeS_len]; omega) e (Ext.push (tk := s.toks)) (Nat.le_refl _) ⟨_, Heap.get?_push_size _ rfl⟩ ?_
  refine ⟨_, _, _, Walks.range hh s.heap.objs.size a 1 _, ?_, fun b hb hne => ?_, fun i v hP hi => ?_, fun i s' t v Q' E' hst hq => ?_, fun i h hst => ?_⟩
  · show Heap.get? _ _ = _
    rw [Heap.get?_push_size _ rfl, size_range, rangeS_len]
    simp
  · simp only [List.mem_singleton] at hb
    exact absurd hb hne
  · obtain ⟨t, rfl⟩ := hP
    rw [rangeS_get, Int.mul_one]
    exact .int _ _
  · exact letGo_at hst rfl rfl (by decide) hq
  · exact ⟨_, hst, fun ⟨vs, n, e⟩ => by cases e⟩

theorem folded_ok {e : PySem.Expr} {env : Env} (h : isSet e = false) (x : Value) : foldedSetIterable e env x = pure x := by
  cases e <;> first | rfl | exact Bool.noConfusion (show true = false from h)

theorem itemsD_inv {d : D} {Q : List D → Prop} (q : itemsD d Q) : ∃ ds, (d = .list ds ∨ d = .tuple ds) ∧ ds.length ≤ 1000000 ∧ Q ds := by
  unfold itemsD at q
  split at q
  · exact ⟨_, .inl rfl, q⟩
  · exact ⟨_, .inr rfl, q⟩
  · exact q.elim
theorem sit_ofE {a : ME} (ha : SE prog w base fa Φ nm a) : SIt prog w base fa Φ nm (.ofE a) := by
  intro cl sc vis e env A H st s Q P E hm S hc q k
  have hm := Bool.and_eq_true_iff.mp hm
  rw [yL] at q
  refine ha _ _ _ _ _ _ _ _ _ _ _ _ hm.1 S hc q fun v s₁ d q₁ r e₁ => ?_
  obtain ⟨ds, hd, hn, q₂⟩ := itemsD_inv q₁
  rcases hd with rfl | rfl
  · obtain ⟨a, o, vs, n, rfl, hz, rfl, hn', r⟩ := r.list_inv
    exact iter_list_ok S.ao.h ⟨_, hz.1, rfl, n, rfl⟩ r (fun _ => hz.2) q₂ hn e₁ k
  · obtain ⟨a, o, vs, n, rfl, hz, hcl, hd, hn', r⟩ := r.tuple_inv
    exact iter_tuple_ok S.ao.h ⟨_, hz.1, hcl, n, hd⟩ r (fun _ => hz.2) q₂ hn e₁ k
theorem sit_ofV {x : Nat} : SIt prog w base fa Φ nm (.ofV x) := by
  intro cl sc vis e env A H st s Q P E hm S hc q k
  · refine any_elim hm ?_; clear hm; rintro ⟨n, p, rfl⟩ hm
    simp only [Bool.and_eq_true, beq_iff_eq] at hm
    rw [yM] at q
    obtain ⟨sl, ds, hs, hsl, hn', q⟩ := ownAt_inv q
    refine load_ok S hm.1.1 (by simpa using hm.1.2) hm.2 hs (own_ne hsl) fun v hv hsv => ?_
    obtain ⟨a, items, rfl, hl, hz, r⟩ := own_slot hsl hsv
    exact iter_list_ok S.ao.h hl.isList r (fun h => by cases h) q hn' (Ext.refl s) k
theorem sit_range0 {a : ME} (G : Ground base fa fname) (ha : SE prog w base fa Φ nm a) : SIt prog w base fa Φ nm (.range0 a) := by
  intro cl sc vis e env A H st s Q P E hm S hc q k
  · refine any_elim hm ?_; clear hm; rintro ⟨f, z, p, p', rfl⟩ hm
    simp only [isFn, Bool.and_eq_true, beq_iff_eq, Bool.not_eq_true'] at hm
    obtain ⟨⟨⟨rfl, hg⟩, hm⟩, hs⟩ := hm
    rw [yK] at q
    refine call1 (x := Str.ofString "range") G S hg hs (by decide +kernel) bb_range (by decide +kernel) (by decide +kernel) (.inr ⟨_, rfl⟩) (ha _ _ _ _ _ _ _ _ _ _ _ _ hm S hc q fun v s₁ d q₁ r e₁ => ?_)
    cases r with
    | int j t =>
      refine call_range_1 ?_
      exact iter_range_ok S.ao.h (IsRange.new _ _ _ _ _ _ _) q₁ (e₁.trans Ext.push) k
    | _ => exact q₁.elim
theorem rangeD_inv {x y : D} {Q : List D → Prop} (q : rangeD x y Q) : ∃ a b, x = .int a ∧ y = .int b := by
  unfold rangeD at q
  split at q
  · exact ⟨_, _, rfl, rfl⟩
  · exact q.elim
theorem sit_range {a b : ME} (G : Ground base fa fname) (ha : SE prog w base fa Φ nm a) (hb : SE prog w base fa Φ nm b) : SIt prog w base fa Φ nm (.range a b) := by
  intro cl sc vis e env A H st s Q P E hm S hc q k
  · refine any_elim hm ?_; clear hm; rintro ⟨f, z, y, p, p', rfl⟩ hm
    simp only [isFn, Bool.and_eq_true, beq_iff_eq, Bool.not_eq_true'] at hm
    obtain ⟨⟨⟨⟨⟨rfl, hg⟩, hm⟩, hs⟩, hm'⟩, hs'⟩ := hm
    rw [yJ] at q
    refine call2 (x := Str.ofString "range") G S hg hs hs' (by decide +kernel) bb_range (by decide +kernel) (by decide +kernel) (.inr ⟨_, rfl⟩) (ha _ _ _ _ _ _ _ _ _ _ _ _ hm S hc q fun v s₁ d q₁ r e₁ => ?_)
    refine hb _ _ _ _ _ _ _ _ _ _ _ _ hm' (S.ext e₁) hc q₁ fun v₂ s₂ d₂ q₂ r₂ e₂ => ?_
    obtain ⟨i, j, rfl, rfl⟩ := rangeD_inv q₂
    obtain ⟨t, rfl⟩ := r.int_inv
    obtain ⟨u, rfl⟩ := r₂.int_inv
    refine call_range_2 ?_
    exact iter_range_ok S.ao.h (IsRange.new _ _ _ _ _ _ _) q₂ ((e₁.trans e₂).trans Ext.push) k
end
end
section
open PySem PySem.Calls PySem.Spec PyProof.Rows

/-- the frame's own objects -/
noncomputable def OwnA (sc : Scope) (env : Env) (a : Addr) : Prop := a = env.locals ∨ ∃ x, sc.names.lookup x = some .cell ∧ env.cells.lookup x = some a
structure FrOk (sc : Scope) (env : Env) (h : Heap) : Prop where
  ns : ∃ m, h.Ns env.locals m
  cs : ∀ x c, env.cells.lookup x = some c → ∃ v, h.IsCell c v
  inj : ∀ x y c, sc.names.lookup x = some .cell → env.cells.lookup x = some c → env.cells.lookup y = some c → x = y
/-- all but the objects O is kept -/
noncomputable def ExtO (O : Addr → Prop) (s s' : Shared) : Prop := (∀ a o, ¬ O a → s.heap.get? a = some o → s'.heap.get? a = some o) ∧ s'.gens = s.gens ∧ s'.os = s.os
theorem Ext.toO {O : Addr → Prop} {s s' : Shared} (e : Ext s s') : ExtO O s s' := ⟨fun a o _ h => e.1 a o h, e.2.1, e.2.2⟩
theorem ExtO.refl {O : Addr → Prop} (s : Shared) : ExtO O s s := (Ext.refl s).toO
theorem ExtO.trans {O : Addr → Prop} {a b c : Shared} (h : ExtO O a b) (k : ExtO O b c) : ExtO O a c := ⟨fun x o n e => k.1 x o n (h.1 x o n e), k.2.1.trans h.2.1, k.2.2.trans h.2.2⟩
/-- the sequences are kept -/
noncomputable def SeqStays (h h' : Heap) : Prop := ∀ a o, isSeq o → h.get? a = some o → h'.get? a = some o
theorem SeqStays.of {h h' : Heap} (k : h.StaysIn h') : SeqStays h h' := fun a o _ e => k a o e
theorem SeqStays.z {h h' : Heap} {H : Hid} (k : SeqStays h h') : ∀ a o, isSeq o → Zof h H a o → Zof h' H a o := fun a o q z => ⟨k a o q z.1, z.2⟩
theorem SlotV.seq {h h' : Heap} {H H' : Hid} {v : Value} {sl : Slot} (k : SeqStays h h') (hz : ∀ a o, isSeq o → Zof h H a o → Zof h' H' a o) (x : SlotV h H v sl) : SlotV h' H' v sl := by
  cases sl with
  | undef => trivial
  | sh d => exact Rd.move hz x
  | own1 ds => obtain ⟨a, items, e, ⟨n, hl⟩, hn, r⟩ := x; exact ⟨a, items, e, ⟨n, k _ _ ⟨_, _, rfl⟩ hl⟩, hn, RdAll.move hz r⟩
  | own2 => trivial
  | lent ds => obtain ⟨a, items, e, ⟨n, hl⟩, hn, r⟩ := x; exact ⟨a, items, e, ⟨n, k _ _ ⟨_, _, rfl⟩ hl⟩, hn, RdAll.move hz r⟩

theorem ns_notSeq {h : Heap} {a : Addr} {m : Str → Option Value} {o : Obj} (hn : h.Ns a m) (e : h.get? a = some o) : ¬ isSeq o := by
  obtain ⟨o', es, ep, e', hd, _⟩ := hn
  rw [e] at e'; cases e'
  rintro ⟨vs, n, hs⟩
  rw [hd] at hs; cases hs
theorem cell_notSeq {h : Heap} {a : Addr} {v : Option Value} {o : Obj} (hn : h.IsCell a v) (e : h.get? a = some o) : ¬ isSeq o := by
  obtain ⟨o', e', hd⟩ := hn
  rw [e] at e'; cases e'
  rintro ⟨vs, n, hs⟩
  rw [hd] at hs; cases hs
theorem FrOk.notSeq {sc : Scope} {env : Env} {h : Heap} (F : FrOk sc env h) {a : Addr} {o : Obj} (q : OwnA sc env a) (e : h.get? a = some o) : ¬ isSeq o := by
  rcases q with rfl | ⟨x, _, hx⟩
  · obtain ⟨m, hm⟩ := F.ns; exact ns_notSeq hm e
  · obtain ⟨v, hv⟩ := F.cs x a hx; exact cell_notSeq hv e
theorem FrOk.seq {sc : Scope} {env : Env} {s s' : Shared} (F : FrOk sc env s.heap) (e : ExtO (OwnA sc env) s s') : SeqStays s.heap s'.heap := fun a o q h => e.1 a o (fun n => F.notSeq n h q) h
theorem ns_ne_cell {h : Heap} {a c : Addr} {m : Str → Option Value} {v : Option Value} (hn : h.Ns a m) (hc : h.IsCell c v) : a ≠ c := by
  rintro rfl
  obtain ⟨o, es, ep, e, hd, _⟩ := hn
  obtain ⟨o', e', hd'⟩ := hc
  rw [e] at e'; cases e'
  rw [hd] at hd'; cases hd'
theorem FrOk.ext {sc : Scope} {env : Env} {h h' : Heap} (F : FrOk sc env h) (k : h.StaysIn h') : FrOk sc env h' :=
  ⟨let ⟨m, hm⟩ := F.ns; ⟨m, hm.keeps k⟩, fun x c e => let ⟨v, hv⟩ := F.cs x c e; ⟨v, hv.keeps k⟩, F.inj⟩
/-- the frame's objects and all its cells stand as they were -/
theorem FrOk.keep {sc : Scope} {env : Env} {h h' : Heap} (F : FrOk sc env h) (k : ∀ a o, (a = env.locals ∨ ∃ x, env.cells.lookup x = some a) → h.get? a = some o → h'.get? a = some o) : FrOk sc env h' := by
  refine ⟨?_, fun x c e => ?_, F.inj⟩
  · obtain ⟨m, o, es, ep, ho, r⟩ := F.ns; exact ⟨m, o, es, ep, k _ _ (.inl rfl) ho, r⟩
  · obtain ⟨v, o, ho, r⟩ := F.cs x c e; exact ⟨v, o, k _ _ (.inr ⟨x, e⟩) ho, r⟩
theorem VarAt.keep {env : Env} {h h' : Heap} {x : Str} {v : Value} (k : ∀ a o, (a = env.locals ∨ ∃ x, env.cells.lookup x = some a) → h.get? a = some o → h'.get? a = some o) (a : VarAt env h x v) : VarAt env h' x v := by
  rcases a with ⟨e, m, ⟨o, es, ep, ho, r⟩, hm⟩ | ⟨e, c, hc, ⟨o, ho, hd⟩⟩
  · exact .inl ⟨e, m, ⟨o, es, ep, k _ _ (.inl rfl) ho, r⟩, hm⟩
  · exact .inr ⟨e, c, hc, ⟨o, k _ _ (.inr ⟨x, hc⟩) ho, hd⟩⟩

section
variable {prog : Program} {w : World} {nm : Nat → Str} {sc : Scope} {env : Env} {A : Around} {E : Value → Shared → Prop} {s : Shared} {H : Hid} {P : Unit → Shared → Prop}

theorem store_ok {x : Str} {v : Value} (eo : EnvOk sc env) (F : FrOk sc env s.heap) (hx : sc.names.lookup x = some .local ∨ sc.names.lookup x = some .cell)
    (k : ∀ s', FrOk sc env s'.heap → VarAt env s'.heap x v → (∀ y u, y ≠ x → VarAt env s.heap y u → VarAt env s'.heap y u) → ExtO (OwnA sc env) s s' → P () s') :
    wpAny (model prog w) A (storeName env x v) P E s := by
  obtain ⟨m, hm⟩ := F.ns
  rcases hx with hx | hx
  · refine wpAny_storeName_local (eo.lo x hx) hm (fun h' hn' hs => ?_) (by rw [eo.k]; rfl)
    have kk : ∀ a o, a ≠ env.locals → s.heap.get? a = some o → h'.get? a = some o := fun a o n e => (hs.2 a n).trans e
    refine k _ ⟨⟨_, hn'⟩, fun y c hc => ?_, F.inj⟩ (.inl ⟨eo.lo x hx, _, hn', by simp⟩) (fun y u hy hv => ?_) ⟨fun a o n e => kk a o (fun q => n (.inl q)) e, rfl, rfl⟩
    · obtain ⟨u, hu⟩ := F.cs y c hc
      obtain ⟨o, ho, hd⟩ := id hu
      exact ⟨u, o, kk c o (Ne.symm (ns_ne_cell hm hu)) ho, hd⟩
    · rcases hv with ⟨e, m', hm', hy'⟩ | ⟨e, c, hc, hcell⟩
      · refine .inl ⟨e, _, hn', ?_⟩
        have : m y = m' y := by
          obtain ⟨o1, es1, ep1, e1, d1, _, f1⟩ := hm
          obtain ⟨o2, es2, ep2, e2, d2, _, f2⟩ := hm'
          rw [e1] at e2; cases e2
          rw [d1] at d2; cases d2
          rw [← f1, ← f2]
        simp only [if_neg hy, this, hy']
      · obtain ⟨o, ho, hd⟩ := id hcell
        exact .inr ⟨e, c, hc, o, kk c o (Ne.symm (ns_ne_cell hm hcell)) ho, hd⟩
  · obtain ⟨hk, c, hc⟩ := eo.ce x hx
    obtain ⟨v₀, hv₀⟩ := F.cs x c hc
    refine wpAny_storeName_cell eo.k hk hc hv₀ fun h' hv' hs => ?_
    have kk : ∀ a o, a ≠ c → s.heap.get? a = some o → h'.get? a = some o := fun a o n e => (hs.2 a n).trans e
    refine k _ ⟨?_, fun y c' hc' => ?_, F.inj⟩ (.inr ⟨.inl hk, c, hc, hv'⟩) (fun y u hy hv => ?_) ⟨fun a o n e => kk a o (fun q => n (.inr ⟨x, hx, q ▸ hc⟩)) e, rfl, rfl⟩
    · exact ⟨m, hm.sameBut hs (ns_ne_cell hm hv₀)⟩
    · by_cases e : c' = c
      · subst e; exact ⟨_, hv'⟩
      · obtain ⟨u, o, ho, hd⟩ := F.cs y c' hc'
        exact ⟨u, o, kk c' o e ho, hd⟩
    · rcases hv with ⟨e, m', hm', hy'⟩ | ⟨e, c', hc', ⟨o, ho, hd⟩⟩
      · exact .inl ⟨e, m', hm'.sameBut hs (ns_ne_cell hm' hv₀), hy'⟩
      · refine .inr ⟨e, c', hc', o, kk c' o (fun q => ?_) ho, hd⟩
        subst q
        exact hy (F.inj x y c' hx hc hc').symm

theorem Vars.store {vis : List Nat} {st : St} {h h' : Heap} {H' : Hid} {i : Nat} {v : Value} {sl : Slot} (V : Vars env nm vis H st h) (hi : ∀ j ∈ vis, nm j = nm i → j = i) (k : SeqStays h h') (hz : ∀ a o, isSeq o → Zof h H a o → Zof h' H' a o)
    (hv : VarAt env h' (nm i) v) (ho : ∀ y u, y ≠ nm i → VarAt env h y u → VarAt env h' y u) (hs : SlotV h' H' v sl) : Vars env nm (i :: vis) H' (st.set i sl) h' := by
  intro j sl' hj hsl hu
  by_cases e : j = i
  · subst e
    rw [List.getElem?_set] at hsl
    split at hsl
    · split at hsl
      · cases hsl; exact ⟨v, hv, hs⟩
      · cases hsl
    · rename_i h; exact absurd rfl h
  · have hj' : j ∈ vis := by
      rcases List.mem_cons.mp hj with h | h
      · exact absurd h e
      · exact h
    rw [List.getElem?_set_ne (Ne.symm e)] at hsl
    obtain ⟨u, hu1, hu2⟩ := V j sl' hj' hsl hu
    exact ⟨u, ho _ _ (fun q => e (hi j hj' q)) hu1, hu2.seq k hz⟩
theorem Vars.sub {vis vis' : List Nat} {st : St} {h : Heap} (V : Vars env nm vis H st h) (k : ∀ j ∈ vis', j ∈ vis) : Vars env nm vis' H st h := fun j sl hj => V j sl (k j hj)

theorem kLoc_inv {i : Nat} (h : kLoc nm sc i = true) : sc.names.lookup (nm i) = some .local ∨ sc.names.lookup (nm i) = some .cell := by
  unfold kLoc at h
  simp only [Bool.or_eq_true, beq_iff_eq] at h
  exact h

theorem assign_each {Q : St → Prop} : ∀ {is : List Nat} {es : List PySem.Expr} {vs : List Value} {ds : List D} {vis : List Nat} {st : St} {s : Shared}, mNames nm is es = true → (∀ i ∈ is, kLoc nm sc i = true) →
    (∀ i ∈ is, ∀ j ∈ is ++ vis, nm j = nm i → j = i) → EnvOk sc env → FrOk sc env s.heap → Vars env nm vis H st s.heap → RdAll (Zof s.heap H) vs ds → ds.length = is.length → Q (setMany st is ds) →
    (∀ st' s', Q st' → FrOk sc env s'.heap → (∀ vis', (∀ j ∈ vis', j ∈ is ∨ j ∈ vis) → Vars env nm vis' H st' s'.heap) → ExtO (OwnA sc env) s s' → P () s') →
    wpAny (model prog w) A (assignInOrder ((assignEach es env).map (·.2)) vs) P E s
  | [], [], _, _, vis, st, s, _, _, _, eo, F, V, r, hl, q, k => by
    cases r with
    | nil => exact wpAny_pure (k _ _ q F (fun vis' h => V.sub fun j hj => (h j hj).resolve_left (fun x => nomatch x)) (ExtO.refl s))
    | cons => simp at hl
  | i :: is, e :: es, vs, ds, vis, st, s, hm, hk, hi, eo, F, V, r, hl, q, k => by
    set_option tactic.hygienic true in cases r with
    | nil => simp at hl
    | cons hv r =>
      rename_i v vs d ds
      simp only [mNames, Bool.and_eq_true] at hm
      obtain ⟨hm1, hm2⟩ := hm
      · refine any_elim hm1 ?_; clear hm1; rintro ⟨x, p, rfl⟩ hm1
        simp only [beq_iff_eq] at hm1
        subst hm1
        have he : assignEach (.Name (nm i) p :: es) env = (false, assign (.Name (nm i) p) env) :: assignEach es env := rfl
        rw [he]
        refine assignInOrder_cons (wpAny_assign_Name (store_ok eo F (kLoc_inv (hk i List.mem_cons_self)) fun s' F' hv' ho e' => ?_))
        have sq := F.seq e'
        have V' : Vars env nm (i :: vis) H (st.set i (.sh d)) s'.heap := V.store (fun j hj hn => hi i List.mem_cons_self j (List.mem_append_right _ hj) hn) sq sq.z hv' ho (hv.move sq.z)
        refine assign_each (vis := i :: vis) hm2 (fun j hj => hk j (List.mem_cons_of_mem _ hj)) (fun j hj l hl' hn => ?_) eo F' V' (r.move sq.z) (by simpa using hl) q fun st' s'' q' F'' V'' e'' => ?_
        · refine hi j (List.mem_cons_of_mem _ hj) l ?_ hn
          rcases List.mem_append.mp hl' with h | h
          · exact List.mem_append_left _ (List.mem_cons_of_mem _ h)
          · rcases List.mem_cons.mp h with h | h
            · subst h; exact List.mem_append_left _ List.mem_cons_self
            · exact List.mem_append_right _ h
        · refine k st' s'' q' F'' (fun vis' h => V'' vis' fun j hj => ?_) (e'.trans e'')
          rcases h j hj with h | h
          · rcases List.mem_cons.mp h with h | h
            · exact .inr (h ▸ List.mem_cons_self)
            · exact .inl h
          · exact .inr (List.mem_cons_of_mem _ h)
  | [], _ :: _, _, _, _, _, _, hm, _, _, _, _, _, _, _, _, _ => by simp [mNames] at hm
  | _ :: _, [], _, _, _, _, _, hm, _, _, _, _, _, _, _, _, _ => by simp [mNames] at hm
end
end
section
open PySem PySem.Calls PySem.Spec PyProof.Rows

section
variable {prog : Program} {w : World} {nm : Nat → Str} {sc : Scope} {env : Env} {A : Around} {E : Value → Shared → Prop} {s : Shared} {H : Hid} {P : Unit → Shared → Prop}

theorem mNames_each : ∀ {is : List Nat} {es : List PySem.Expr}, mNames nm is es = true → (assignEach es env).length = is.length ∧ (assignEach es env).findIdx? (·.1) = none
  | [], [], _ => ⟨rfl, rfl⟩
  | i :: is, e :: es, h => by
    simp only [mNames, Bool.and_eq_true] at h
    obtain ⟨h1, h2⟩ := h
    · refine any_elim h1 ?_; clear h1; rintro ⟨x, p, rfl⟩ h1
      have he : assignEach (.Name x p :: es) env = (false, assign (.Name x p) env) :: assignEach es env := rfl
      obtain ⟨a, b⟩ := mNames_each h2
      rw [he]
      refine ⟨by simp [a], ?_⟩
      rw [List.findIdx?_cons, b]
      rfl
  | [], _ :: _, h => by simp [mNames] at h
  | _ :: _, [], h => by simp [mNames] at h

theorem assign_ok {tg : Tgt} {t : PySem.Expr} {v : Value} {d : D} {vis : List Nat} {st : St} {Q : St → Prop} (hm : mTgt nm tg t = true) (hk : ∀ i ∈ tg.ids, kLoc nm sc i = true) (hi : ∀ i ∈ tg.ids, ∀ j ∈ tg.ids ++ vis, nm j = nm i → j = i)
    (hh : A.handled = none) (eo : EnvOk sc env) (F : FrOk sc env s.heap) (V : Vars env nm vis H st s.heap) (r : Rd (Zof s.heap H) v d) (q : assignT tg st d Q)
    (k : ∀ st' s', Q st' → FrOk sc env s'.heap → (∀ vis', (∀ j ∈ vis', j ∈ tg.ids ∨ j ∈ vis) → Vars env nm vis' H st' s'.heap) → ExtO (OwnA sc env) s s' → P () s') : wpAny (model prog w) A (assign t env v) P E s := by
  cases tg with
  | one i =>
    · refine any_elim hm ?_; clear hm; rintro ⟨x, p, rfl⟩ hm
      simp only [beq_iff_eq] at hm
      subst hm
      refine wpAny_assign_Name (store_ok eo F (kLoc_inv (hk i List.mem_cons_self)) fun s' F' hv' ho e' => ?_)
      have sq := F.seq e'
      have V' : Vars env nm (i :: vis) H (st.set i (.sh d)) s'.heap := V.store (fun j hj hn => hi i List.mem_cons_self j (List.mem_append_right _ hj) hn) sq sq.z hv' ho (r.move sq.z)
      exact k _ _ q F' (fun vis' h => V'.sub fun j hj => (h j hj).elim (fun x => List.mem_cons.mpr (.inl (List.mem_singleton.mp x))) (fun x => List.mem_cons_of_mem _ x)) e'
  | many is =>
    · refine any_elim hm ?_; clear hm; rintro ⟨es, kk, p, rfl⟩ hm
      cases d with
      | tuple ds =>
        obtain ⟨hl, q⟩ := q
        obtain ⟨a, vs, rfl, ht, hn, rr⟩ := r.isTuple
        have es' := rr.size
        obtain ⟨e1, e2⟩ := mNames_each (env := env) hm
        refine wpAny_assign_Tuple hh ht (by rw [e1, es', hl]) e2 fun h' hs => ?_
        have ex : Ext s { s with heap := h' } := ⟨fun b o e => hs b o (fun q => Nat.lt_irrefl _ (q ▸ Heap.lt_size e)) e, rfl, rfl⟩
        refine assign_each hm hk hi eo (F.ext ex.1) (V.ext ex.1) (rr.ext ex.1) hl q fun st' s' q' F' V' e' => ?_
        exact k st' s' q' F' V' (ex.toO.trans e')
      | _ => exact q.elim
end

/-! the scope of a comprehension -/
noncomputable def rlK (env : Env) (x : Str) (k : NameKind) : NameKind := if (k == NameKind.free && env.scope.kind == .function && env.kindOf x == some .cell) then .cell else k
theorem relabel_names (csc : Scope) (env : Env) : (relabel csc env).names = csc.names.map fun y => (y.1, rlK env y.1 y.2) := by
  unfold relabel
  apply List.map_congr_left
  rintro ⟨n, k⟩ _
  simp only [rlK]
  split <;> rfl
theorem lookup_map_snd {f : Str → NameKind → NameKind} : ∀ {names : List (Str × NameKind)} {x : Str}, (names.map fun y => (y.1, f y.1 y.2)).lookup x = (names.lookup x).map (f x)
  | [], _ => rfl
  | (n, k) :: r, x => by
    rw [List.map_cons, List.lookup_cons, List.lookup_cons]
    cases hx : x == n with
    | true => rw [beq_iff_eq.mp hx]; rfl
    | false => exact lookup_map_snd
theorem relabel_lookup {csc : Scope} {env : Env} {x : Str} : (relabel csc env).names.lookup x = (csc.names.lookup x).map (rlK env x) := by rw [relabel_names, lookup_map_snd]

noncomputable def closAcc (env : Env) : List (Str × NameKind) → List (Str × Addr) → List (Str × Addr)
  | [], acc => acc
  | (n, k) :: r, acc => if k == .free then closAcc env r ((n, (env.cells.lookup n).getD 0) :: acc) else closAcc env r acc
theorem closureFor_eq {csc : Scope} {env : Env} (h : ∀ y ∈ csc.names, y.2 = .free → ∃ c, env.cells.lookup y.1 = some c) : closureFor csc env = pure (closAcc env csc.names []) := by
  have key : ∀ (names : List (Str × NameKind)) (acc : List (Str × Addr)), (∀ y ∈ names, y.2 = .free → ∃ c, env.cells.lookup y.1 = some c) →
      (forIn names acc fun (x : Str × NameKind) (cs : List (Str × Addr)) => (match x with
        | (name, kind) => if (kind == .free) = true then (do let a ← cellOf env name; pure (ForInStep.yield ((name, a) :: cs))) else pure (ForInStep.yield cs) : Sem (ForInStep (List (Str × Addr))))) = pure (closAcc env names acc) := by
    intro names
    induction names with
    | nil => intro acc _; rfl
    | cons y r ih =>
      intro acc hy
      obtain ⟨n, k⟩ := y
      rw [List.forIn_cons]
      unfold closAcc
      dsimp only
      cases hk : k == NameKind.free with
      | true =>
        obtain ⟨c, hc⟩ := hy (n, k) List.mem_cons_self (beq_iff_eq.mp hk)
        simp only at hc
        have : cellOf env n = pure c := by unfold cellOf; rw [hc]
        simp only [if_true, this, hc, Option.getD_some]
        exact ih _ fun y hy' => hy y (List.mem_cons_of_mem _ hy')
      | false =>
        simp only [Bool.false_eq_true, if_false]
        exact ih _ fun y hy' => hy y (List.mem_cons_of_mem _ hy')
  unfold closureFor
  have := key csc.names [] h
  exact (congrArg (· >>= pure) this).trans rfl
end
section
open PySem PySem.Calls PySem.Spec PyProof.Rows

theorem cellsFrom_append : ∀ (names : List (Str × NameKind)) (n : Nat) (acc : List (Str × Addr)), cellsFrom n names acc = cellsFrom n names [] ++ acc
  | [], _, _ => rfl
  | (x, k) :: r, n, acc => by
    unfold cellsFrom
    split
    · rw [cellsFrom_append r (n + 1) ((x, n) :: acc), cellsFrom_append r (n + 1) [(x, n)], List.append_assoc]; rfl
    · exact cellsFrom_append r n acc
theorem lookup_append {l l' : List (Str × Addr)} {x : Str} : (l ++ l').lookup x = (l.lookup x).or (l'.lookup x) := by
  induction l with
  | nil => rfl
  | cons y l ih =>
    obtain ⟨n, c⟩ := y
    rw [List.cons_append, List.lookup_cons, List.lookup_cons]
    cases x == n with
    | true => rfl
    | false => exact ih
theorem cellsFrom_none {x : Str} : ∀ {names : List (Str × NameKind)} {n : Nat}, (∀ y ∈ names, y.2 = .cell → y.1 ≠ x) → (cellsFrom n names []).lookup x = none
  | [], _, _ => rfl
  | (y, k) :: r, n, h => by
    unfold cellsFrom
    have hr : ∀ z ∈ r, z.2 = .cell → z.1 ≠ x := fun z hz => h z (List.mem_cons_of_mem _ hz)
    split
    · rename_i hk
      rw [cellsFrom_append, lookup_append, cellsFrom_none hr]
      have : x ≠ y := fun e => h (y, k) List.mem_cons_self (beq_iff_eq.mp hk) e.symm
      simp [this]
    · exact cellsFrom_none hr
theorem cellsFrom_some {x : Str} : ∀ {names : List (Str × NameKind)} {n : Nat}, (x, NameKind.cell) ∈ names → ∃ c, (cellsFrom n names []).lookup x = some c
  | (y, k) :: r, n, h => by
    unfold cellsFrom
    by_cases hx : ∃ z ∈ r, z.2 = .cell ∧ z.1 = x
    · obtain ⟨⟨z, kz⟩, hz, hk, rfl⟩ := hx
      simp only at hk; subst hk
      split
      · obtain ⟨c, hc⟩ := cellsFrom_some (n := n + 1) hz
        rw [cellsFrom_append, lookup_append, hc]; exact ⟨c, rfl⟩
      · exact cellsFrom_some hz
    · rcases List.mem_cons.mp h with e | h'
      · cases e
        rw [if_pos (by decide), cellsFrom_append, lookup_append, cellsFrom_none fun z hz hk e => hx ⟨z, hz, hk, e⟩]
        exact ⟨n, by simp⟩
      · exact absurd ⟨_, h', rfl, rfl⟩ hx
theorem lookup_mem {α : Type} {x : Str} {k : α} : ∀ {names : List (Str × α)}, names.lookup x = some k → (x, k) ∈ names
  | (y, k') :: r, h => by
    rw [List.lookup_cons] at h
    cases hx : x == y with
    | true => rw [hx] at h; cases h; rw [beq_iff_eq.mp hx]; exact List.mem_cons_self
    | false => rw [hx] at h; exact List.mem_cons_of_mem _ (lookup_mem h)
theorem mem_lookup {α : Type} {x : Str} {k : α} : ∀ {names : List (Str × α)}, (names.map (·.1)).Nodup → (x, k) ∈ names → names.lookup x = some k
  | (y, k') :: r, hn, h => by
    rw [List.map_cons, List.nodup_cons] at hn
    rw [List.lookup_cons]
    rcases List.mem_cons.mp h with e | h'
    · cases e; simp
    · have : (x == y) = false := by
        simp only [beq_eq_false_iff_ne, ne_eq]
        rintro rfl
        exact hn.1 (List.mem_map_of_mem (f := (·.1)) h')
      rw [this]; exact mem_lookup hn.2 h'

theorem closAcc_append (env : Env) : ∀ (names : List (Str × NameKind)) (acc : List (Str × Addr)), closAcc env names acc = closAcc env names [] ++ acc
  | [], _ => rfl
  | (x, k) :: r, acc => by
    unfold closAcc
    split
    · rw [closAcc_append env r ((x, _) :: acc), closAcc_append env r [(x, _)], List.append_assoc]; rfl
    · exact closAcc_append env r acc
theorem closAcc_some {env : Env} {x : Str} {c : Addr} : ∀ {names : List (Str × NameKind)}, (names.map (·.1)).Nodup → (x, NameKind.free) ∈ names → env.cells.lookup x = some c → (closAcc env names []).lookup x = some c
  | (y, k) :: r, hn, h, hc => by
    rw [List.map_cons, List.nodup_cons] at hn
    unfold closAcc
    rcases List.mem_cons.mp h with e | h'
    · cases e
      rw [if_pos (by decide), closAcc_append, lookup_append, hc]
      have : (closAcc env r []).lookup x = none := by
        have key : ∀ (r : List (Str × NameKind)), x ∉ r.map (·.1) → (closAcc env r []).lookup x = none := by
          intro r
          induction r with
          | nil => intro _; rfl
          | cons z r ih =>
            obtain ⟨z, k⟩ := z
            intro hx
            rw [List.map_cons, List.mem_cons] at hx
            unfold closAcc
            split
            · rw [closAcc_append, lookup_append, ih fun q => hx (.inr q)]
              have : x ≠ z := fun e => hx (.inl e)
              simp [this]
            · exact ih fun q => hx (.inr q)
        exact key r hn.1
      rw [this]; simp
    · split
      · rw [closAcc_append, lookup_append, closAcc_some hn.2 h' hc]; rfl
      · exact closAcc_some hn.2 h' hc
theorem closAcc_mem {env : Env} {x : Str} {c : Addr} : ∀ {names : List (Str × NameKind)}, (∀ y ∈ names, y.2 = .free → ∃ c, env.cells.lookup y.1 = some c) → (x, c) ∈ closAcc env names [] → env.cells.lookup x = some c
  | [], _, h => nomatch h
  | (y, k) :: r, hh, h => by
    have hr : ∀ z ∈ r, z.2 = .free → ∃ c, env.cells.lookup z.1 = some c := fun z hz => hh z (List.mem_cons_of_mem _ hz)
    unfold closAcc at h
    split at h
    · rename_i hk
      rw [closAcc_append, List.mem_append] at h
      rcases h with h | h
      · exact closAcc_mem hr h
      · rw [List.mem_singleton] at h
        cases h
        obtain ⟨c', hc'⟩ := hh (x, k) List.mem_cons_self (beq_iff_eq.mp hk)
        simp only at hc'
        rw [hc']; rfl
    · exact closAcc_mem hr h

theorem mScope_inv {nm : Nat → Str} {sc csc : Scope} {vis ts fv : List Nat} (h : mScope nm sc csc vis ts fv = true) : csc.kind = .function ∧ (csc.names.map (·.1)).Nodup ∧ ((ts ++ fv).map nm).Nodup ∧ (∀ i ∈ ts, kLoc nm csc i = true) ∧
    (∀ i ∈ fv, csc.names.lookup (nm i) = some .free ∧ (sc.names.lookup (nm i) = some .cell ∨ sc.names.lookup (nm i) = some .free) ∧ i ∈ vis ∧ i ∉ ts) ∧ (∀ y ∈ csc.names, y.2 = .free → ∃ i ∈ fv, nm i = y.1) := by
  unfold mScope at h
  simp only [Bool.and_eq_true, decide_eq_true_eq, beq_iff_eq, List.all_eq_true, kCap, Bool.or_eq_true, List.contains_iff_mem, Bool.not_eq_true', bne_iff_ne, List.any_eq_true] at h
  obtain ⟨⟨⟨⟨⟨h1, h2⟩, h3⟩, h4⟩, h5⟩, h6⟩ := h
  refine ⟨h1, h2, h3, h4, fun i hi => ?_, fun y hy hf => ?_⟩
  · obtain ⟨⟨⟨a, b⟩, c⟩, d⟩ := h5 i hi
    refine ⟨a, b, c, fun q => ?_⟩
    rw [List.contains_iff_mem.mpr q] at d; cases d
  · rcases h6 y hy with q | q
    · exact absurd hf q
    · exact q
end
section
open PySem PySem.Calls PySem.Spec PyProof.Rows

noncomputable def cenvOf (csc : Scope) (env : Env) (C : Addr) : Env :=
  { scope := relabel csc env, locals := C, globals := env.globals, cells := cellsFrom (C + 1) csc.names (closAcc env csc.names []), qual := env.qual, func := none, code := env.code, frame := env.frame, builtins := env.builtins }

section
variable {prog : Program} {w : World} {base : Heap} {nm : Nat → Str} {sc csc : Scope} {env : Env} {A : Around} {E : Value → Shared → Prop} {s : Shared} {H : Hid} {vis : List Nat} {st : St}

theorem rlK_ne {x : Str} {k : NameKind} (h : k ≠ .free) : rlK env x k = k := by
  unfold rlK
  rw [if_neg]
  simp [h]
theorem rlK_free {x : Str} : rlK env x .free = .cell ∨ rlK env x .free = .free := by
  unfold rlK; split
  · exact .inl rfl
  · exact .inr rfl

theorem newEnv_ok {Q : Env → Shared → Prop} (eo : EnvOk sc env) (hcs : ∀ x c, env.cells.lookup x = some c → ∃ v, s.heap.IsCell c v) (hkind : csc.kind = .function) (hnd : (csc.names.map (·.1)).Nodup)
    (hfree : ∀ y ∈ csc.names, y.2 = .free → ∃ c, env.cells.lookup y.1 = some c)
    (k : ∀ s₄, EnvOk csc (cenvOf csc env s.heap.objs.size) → FrOk csc (cenvOf csc env s.heap.objs.size) s₄.heap → (∀ x, csc.names.lookup x = some .free → (cenvOf csc env s.heap.objs.size).cells.lookup x = env.cells.lookup x) →
      (∀ a, OwnA csc (cenvOf csc env s.heap.objs.size) a → s.heap.objs.size ≤ a) → Ext s s₄ → Q { cenvOf csc env s.heap.objs.size with scope := csc } s₄) :
    wpAny (model prog w) A (newFunctionEnv csc env.globals (closAcc env csc.names []) [] env.qual none .none (some env)) Q E s := by
  simp only [newFunctionEnv, Option.isSome_some, if_true]
  refine wpAny_bind (wpAny_alloc ?_)
  refine wpAny_bind (wpAny_layCells _ (fun name kind cells => by cases hkc : kind == NameKind.cell <;> simp [hkc]) _ _ _ _ ?_)
  have hsz : ({ s with heap := s.heap.push { cls := .type "dict", data := .dict #[] } } : Shared).heap.objs.size = s.heap.objs.size + 1 := Heap.size_push ..
  rw [hsz]
  have ok := cellsFrom_ok csc.names (s.heap.push { cls := .type "dict", data := .dict #[] }) (s.heap.objs.size + 1) [] ⟨fun _ _ hm => (nomatch hm), List.Pairwise.nil⟩ (by rw [Heap.size_push]; exact Nat.le_refl _)
  rw [Heap.size_push] at ok
  refine wpAny_bind (wpAny_pure (wpAny_pure ?_))
  have look : ∀ x, (cenvOf csc env s.heap.objs.size).cells.lookup x = ((cellsFrom (s.heap.objs.size + 1) csc.names []).lookup x).or ((closAcc env csc.names []).lookup x) := fun x => by
    show (cellsFrom (s.heap.objs.size + 1) csc.names (closAcc env csc.names [])).lookup x = _
    rw [cellsFrom_append, lookup_append]
  have hst : s.heap.StaysIn (pushCells (s.heap.push { cls := .type "dict", data := .dict #[] }) csc.names) := fun b o e => pushCells_keeps _ _ b o (Heap.get?_push_of_some _ e)
  have hown : ∀ x c, csc.names.lookup x = some .cell → (cenvOf csc env s.heap.objs.size).cells.lookup x = some c → (x, c) ∈ cellsFrom (s.heap.objs.size + 1) csc.names [] := fun x c hx hc => by
    rw [look] at hc
    obtain ⟨c', hc'⟩ := cellsFrom_some (n := s.heap.objs.size + 1) (lookup_mem hx)
    rw [hc'] at hc
    cases hc
    exact lookup_mem hc'
  have hfr : ∀ x, csc.names.lookup x = some .free → (cenvOf csc env s.heap.objs.size).cells.lookup x = env.cells.lookup x := fun x hx => by
    obtain ⟨c, hc⟩ := hfree _ (lookup_mem hx) rfl
    simp only at hc
    rw [look, cellsFrom_none, closAcc_some hnd (lookup_mem hx) hc, hc]
    · rfl
    · rintro ⟨y, ky⟩ hy hk rfl
      simp only at hk hx; subst hk
      rw [mem_lookup hnd hy] at hx; cases hx
  refine k _ ⟨eo.g, eo.b, hkind, fun x hx => ?_, fun x hx => ?_, fun x hx => ⟨?_, ?_⟩, fun x hx => ⟨?_, ?_⟩⟩ ⟨?_, fun x c hc => ?_, fun x y c hx hxc hyc => ?_⟩ hfr ?_ ⟨hst, rfl, rfl⟩
  · show (relabel csc env).names.lookup x = _
    rw [relabel_lookup, hx]; exact congrArg some (rlK_ne (by decide))
  · show (relabel csc env).names.lookup x = _
    rw [relabel_lookup, hx]; exact congrArg some (rlK_ne (by decide))
  · show (relabel csc env).names.lookup x = _
    rw [relabel_lookup, hx]; exact congrArg some (rlK_ne (by decide))
  · obtain ⟨c, hc⟩ := cellsFrom_some (n := s.heap.objs.size + 1) (lookup_mem hx)
    exact ⟨c, by rw [look, hc]; rfl⟩
  · show (relabel csc env).names.lookup x = _ ∨ (relabel csc env).names.lookup x = _
    rw [relabel_lookup, hx]
    rcases rlK_free (env := env) (x := x) with h | h
    · exact .inl (congrArg some h)
    · exact .inr (congrArg some h)
  · obtain ⟨c, hc⟩ := hfree _ (lookup_mem hx) rfl
    exact ⟨c, (hfr x hx).trans hc⟩
  · exact ⟨_, (Heap.Ns.new s.heap (.type "dict")).keeps (pushCells_keeps _ _)⟩
  · rw [look] at hc
    cases h1 : (cellsFrom (s.heap.objs.size + 1) csc.names []).lookup x with
    | some c' =>
      rw [h1] at hc; cases hc
      exact ⟨_, (ok.empty _ _ (lookup_mem h1)).1⟩
    | none =>
      rw [h1] at hc
      obtain ⟨v, hv⟩ := hcs x c (closAcc_mem hfree (lookup_mem hc))
      exact ⟨v, hv.keeps hst⟩
  · have m1 := hown x c hx hxc
    have b1 := (ok.empty _ _ m1).2
    rw [look] at hyc
    cases h1 : (cellsFrom (s.heap.objs.size + 1) csc.names []).lookup y with
    | some c' =>
      rw [h1] at hyc; cases hyc
      exact name_of_addr ok.apart m1 (lookup_mem h1)
    | none =>
      rw [h1] at hyc
      obtain ⟨v, o, ho, _⟩ := hcs y c (closAcc_mem hfree (lookup_mem hyc))
      exact absurd (Heap.lt_size ho) (Nat.not_lt.mpr (Nat.le_of_succ_le b1))
  · rintro a (rfl | ⟨x, hx, hc⟩)
    · exact Nat.le_refl _
    · have := (ok.empty _ _ (hown x a hx hc)).2
      omega
end
end
section
open PySem PySem.Calls PySem.Spec PyProof.Rows

section
variable {prog : Program} {w : World} {A : Around} {R : Result → Shared → Prop} {s : Shared}
theorem compLoop_rule {elt target iter : PySem.Expr} {ifs : List PySem.Expr} {scope : Scope} {pos : Pos} {it acc : Value} {env : Env} (I : Nat → Shared → Prop)
    (turn : ∀ n s, I n s → ∀ E, wpAny (model prog w) A (pyNext it) (fun r s₁ => match r with
      | none => R (.ok .next) s₁
      | some v => wpAny (model prog w) A (letOwnedTupleGo target it v) (fun _ s₁' => wpAny (model prog w) A (assign target env v) (fun _ s₂ =>
          wpAny (model prog w) A (forIn ifs true fun c r => if r = true then do let ok ← isTrue c env (eval c env); pure (ForInStep.yield ok) else pure (ForInStep.yield r)) (fun ok s₃ =>
            if ok = true then wpAny (model prog w) A (eval elt env) (fun x s₄ =>
              wpAny (model prog w) A (call (.builtin "list.append") [acc, x]) (fun _ s₅ => ∃ m, m < n ∧ I m s₅) E s₄) E s₃
            else ∃ m, m < n ∧ I m s₃) E s₂) E s₁') E s₁) E s)
    (n : Nat) (h : I n s) : codeAny (model prog w) A (.compLoop (.ListComp elt [⟨target, iter, ifs, 0⟩] scope pos) 0 it acc env) R s := by
  refine codeAny_loop rfl I (fun n s hI => ?_) n h
  show wpAny _ A ((compTurn (.ListComp elt [⟨target, iter, ifs, 0⟩] scope pos) 0 it acc env).onRaise (fun x => do noteFrame x env; theTreesLotGoes x)) _ _ s
  refine wpAny_noted ?_
  rw [compTurn_list]
  refine wpAny_bind (wpAny_standAt (wpAny_bind (wpAny_mono (turn n s hI _) (fun r s₁ h₁ => ?_) fun _ _ h' => h')))
  cases r with
  | none => exact wpAny_pure h₁
  | some v =>
    refine wpAny_bind (wpAny_mono h₁ (fun _ s₁' h₁' => ?_) fun _ _ h' => h')
    refine wpAny_bind (wpAny_mono h₁' (fun _ s₂ h₂ => wpAny_bind (wpAny_mono h₂ (fun ok s₃ h₃ => ?_) fun _ _ h' => h')) fun _ _ h' => h')
    cases ok with
    | false => exact wpAny_pure ⟨rfl, h₃⟩
    | true => exact wpAny_bind (wpAny_bind (wpAny_mono h₃ (fun x s₄ h₄ => wpAny_bind (wpAny_mono h₄ (fun _ s₅ h₅ => wpAny_pure (wpAny_pure ⟨rfl, h₅⟩)) fun _ _ h' => h')) fun _ _ h' => h'))
end

section
variable {prog : Program} {w : World} {base : Heap} {fa : Nat → Addr} {Φ : Funs} {nm : Nat → Str}

/-- the variables that a comprehension sees -/
theorem cvars {sc csc : Scope} {env cenv : Env} {vis ts fv : List Nat} {H H' : Hid} {st : St} {h h' : Heap} (eo : EnvOk sc env) (eo' : EnvOk csc cenv) (hms : mScope nm sc csc vis ts fv = true) (V : Vars env nm vis H st h)
    (hfr : ∀ x, csc.names.lookup x = some .free → cenv.cells.lookup x = env.cells.lookup x) (hk : h.StaysIn h') (hz : ∀ a o, isSeq o → Zof h H a o → Zof h' H' a o) : Vars cenv nm fv H' st h' := by
  obtain ⟨_, _, _, _, hfv, _⟩ := mScope_inv hms
  intro i sl hi hsl hu
  obtain ⟨h1, h2, h3, _⟩ := hfv i hi
  obtain ⟨v, hv, hs⟩ := V i sl h3 hsl hu
  refine ⟨v, ?_, hs.seq (SeqStays.of hk) hz⟩
  rcases hv with ⟨e, _⟩ | ⟨_, c, hc, hcell⟩
  · rcases h2 with h2 | h2
    · rw [(eo.ce _ h2).1] at e; cases e
    · rcases (eo.fr _ h2).1 with q | q <;> (rw [q] at e; cases e)
  · exact .inr ⟨(eo'.fr _ h1).1, c, (hfr _ h1).trans hc, hcell.keeps hk⟩
theorem cfree {sc csc : Scope} {env : Env} {vis ts fv : List Nat} (eo : EnvOk sc env) (hms : mScope nm sc csc vis ts fv = true) : ∀ y ∈ csc.names, y.2 = .free → ∃ c, env.cells.lookup y.1 = some c := by
  obtain ⟨_, _, _, _, hfv, hcov⟩ := mScope_inv hms
  intro y hy hf
  obtain ⟨i, hi, hn⟩ := hcov y hy hf
  rw [← hn]
  rcases (hfv i hi).2.1 with h | h
  · exact (eo.ce _ h).2
  · exact (eo.fr _ h).2
theorem cinj {sc csc : Scope} {vis ts fv : List Nat} (hms : mScope nm sc csc vis ts fv = true) : ∀ i ∈ ts, ∀ j ∈ ts ++ fv, nm j = nm i → j = i := by
  obtain ⟨_, _, hnd, _⟩ := mScope_inv hms
  intro i hi j hj e
  have key : ∀ l : List Nat, (l.map nm).Nodup → ∀ a ∈ l, ∀ b ∈ l, nm a = nm b → a = b := by
    intro l
    induction l with
    | nil => intro _ a ha; cases ha
    | cons x l ih =>
      intro hn a ha b hb e
      rw [List.map_cons, List.nodup_cons] at hn
      rcases List.mem_cons.mp ha with rfl | ha' <;> rcases List.mem_cons.mp hb with rfl | hb'
      · rfl
      · exact absurd (e ▸ List.mem_map_of_mem (f := nm) hb') hn.1
      · exact absurd (e ▸ List.mem_map_of_mem (f := nm) ha') hn.1
      · exact ih hn.2 a ha' b hb' e
  exact key _ hnd j hj i (List.mem_append_left _ hi) e

theorem tests_ok {cond : ME} {ifs : List PySem.Expr} {csc : Scope} {vis : List Nat} {cenv : Env} {A : Around} {H : Hid} {st : St} {s : Shared} {Q : Bool → Prop} {P : Bool → Shared → Prop} {E : Value → Shared → Prop} (hcond : ST prog w base fa Φ nm cond)
    (hm : mIfs (fun c => mE nm false csc vis cond c) cond ifs = true) (S : Sit base nm csc cenv A vis H st s) (q : wpT Φ cond st Q) (k : KnB s Q P) :
    wpAny (model prog w) A (forIn ifs true fun c r => if r = true then do let ok ← isTrue c cenv (eval c cenv); pure (ForInStep.yield ok) else pure (ForInStep.yield r)) P E s := by
  unfold mIfs at hm
  split at hm
  · unfold isTrueC at hm
    split at hm
    · rw [y5] at q
      exact wpAny_tests_nil (k _ _ q (Ext.refl s))
    · cases hm
  · simp only [Bool.and_eq_true] at hm
    exact wpAny_tests_one (hcond _ _ _ _ _ _ _ _ _ _ _ _ hm.1 hm.2 S (fun h => by cases h) q k)
  · cases hm
end
end
section
open PySem PySem.Calls PySem.Spec PyProof.Rows

noncomputable def hideD (H : Hid) (D : Addr) : Hid := fun a => H a ∨ a = D

section
variable {prog : Program} {w : World} {base : Heap} {fa : Nat → Addr} {Φ : Funs} {nm : Nat → Str}

/-- where a comprehension's loop stands -/
structure CompAt (csc : Scope) (cenv : Env) (H : Hid) (s₁ : Shared) (I D : Addr) (fp : List Addr) : Prop where
  eo : EnvOk csc cenv
  hiH : HidIn H s₁.heap
  iNew : s₁.heap.get? I = none
  dNew : s₁.heap.get? D = none
  iD : D ≠ I
  own : ∀ a, OwnA csc cenv a → s₁.heap.get? a = none ∧ a ≠ I ∧ a ≠ D
  cells : ∀ x c, cenv.cells.lookup x = some c → c ≠ I ∧ c ≠ D
  fp : ∀ b ∈ fp, b ≠ I → ∃ o, s₁.heap.get? b = some o
/-- what is so at each turn -/
structure CompSt (csc : Scope) (cenv : Env) (H : Hid) (s₁ : Shared) (D : Addr) (rs : List Mine.D) (s' : Shared) : Prop where
  ext : Ext s₁ s'
  fr : FrOk csc cenv s'.heap
  acc : ∃ rsv, s'.heap.PlainList D rsv ∧ RdAll (Zof s'.heap (hideD H D)) rsv.toList rs
end

section
variable {csc : Scope} {cenv : Env} {H : Hid} {s₁ : Shared} {I D : Addr} {fp : List Addr} {rs : List Mine.D} {s s' : Shared}
theorem CompAt.hid (C : CompAt csc cenv H s₁ I D fp) (x : CompSt csc cenv H s₁ D rs s) : HidIn (hideD H D) s.heap := by
  rintro a (h | rfl)
  · exact (C.hiH.ext x.ext.1) a h
  · obtain ⟨rsv, ⟨n, e⟩, _⟩ := x.acc; exact ⟨_, e⟩
theorem CompAt.z (C : CompAt csc cenv H s₁ I D fp) (x : Ext s₁ s) : ∀ a o, isSeq o → Zof s₁.heap H a o → Zof s.heap (hideD H D) a o := fun a o _ z => ⟨x.1 a o z.1, fun h => by
  rcases h with h | rfl
  · exact z.2 h
  · exact absurd z.1 (by rw [C.dNew]; simp)⟩
/-- after the iterator's step -/
theorem CompSt.next (C : CompAt csc cenv H s₁ I D fp) (x : CompSt csc cenv H s₁ D rs s) {h' : Heap} {tk : Nat} (hI : ∃ o, s.heap.get? I = some o ∧ ¬ isSeq o) (hk : ∀ b o, b ∉ [I] → s.heap.get? b = some o → h'.get? b = some o) : CompSt csc cenv H s₁ D rs { s with heap := h', toks := tk } := by
  have k : ∀ b o, b ≠ I → s.heap.get? b = some o → h'.get? b = some o := fun b o n e => hk b o (by simpa using n) e
  have sq : SeqStays s.heap h' := fun a o q e => k a o (fun h => by
    subst h
    obtain ⟨o', e', n⟩ := hI
    rw [e] at e'; cases e'; exact n q) e
  refine ⟨⟨fun b o e => k b o (fun h => by subst h; rw [C.iNew] at e; cases e) (x.ext.1 b o e), x.ext.2.1, x.ext.2.2⟩, x.fr.keep fun a o h e => k a o ?_ e, ?_⟩
  · rcases h with rfl | ⟨y, hy⟩
    · exact (C.own _ (.inl rfl)).2.1
    · exact (C.cells y a hy).1
  · obtain ⟨rsv, ⟨n, e⟩, r⟩ := x.acc
    exact ⟨rsv, ⟨n, k _ _ C.iD e⟩, r.move sq.z⟩
theorem CompSt.store (C : CompAt csc cenv H s₁ I D fp) (x : CompSt csc cenv H s₁ D rs s) (F : FrOk csc cenv s'.heap) (e : ExtO (OwnA csc cenv) s s') : CompSt csc cenv H s₁ D rs s' := by
  have sq := x.fr.seq e
  refine ⟨⟨fun b o h => e.1 b o (fun q => ?_) (x.ext.1 b o h), e.2.1.trans x.ext.2.1, e.2.2.trans x.ext.2.2⟩, F, ?_⟩
  · rw [(C.own b q).1] at h; cases h
  · obtain ⟨rsv, ⟨n, e'⟩, r⟩ := x.acc
    exact ⟨rsv, ⟨n, e.1 _ _ (fun q => (C.own _ q).2.2 rfl) e'⟩, r.move sq.z⟩
theorem CompSt.grow (x : CompSt csc cenv H s₁ D rs s) (e : Ext s s') : CompSt csc cenv H s₁ D rs s' := by
  refine ⟨x.ext.trans e, x.fr.ext e.1, ?_⟩
  obtain ⟨rsv, hl, r⟩ := x.acc
  exact ⟨rsv, plain_keeps hl e.1, r.ext e.1⟩
theorem CompSt.push (C : CompAt csc cenv H s₁ I D fp) (x : CompSt csc cenv H s₁ D rs s) {h' : Heap} {rsv : Array Value} {y : Value} {d : Mine.D} (r : RdAll (Zof s.heap (hideD H D)) rsv.toList rs) (ry : Rd (Zof s.heap (hideD H D)) y d)
    (hl : h'.PlainList D (rsv.push y)) (hs : Heap.SameBut D s.heap h') : CompSt csc cenv H s₁ D (rs ++ [d]) { s with heap := h' } := by
  have k : ∀ b o, b ≠ D → s.heap.get? b = some o → h'.get? b = some o := fun b o n e => (hs.2 b n).trans e
  have hz : ∀ a o, isSeq o → Zof s.heap (hideD H D) a o → Zof h' (hideD H D) a o := fun a o _ z => ⟨k a o (fun q => z.2 (.inr q)) z.1, z.2⟩
  refine ⟨⟨fun b o e => k b o (fun q => by subst q; rw [C.dNew] at e; cases e) (x.ext.1 b o e), x.ext.2.1, x.ext.2.2⟩, x.fr.keep fun a o h e => k a o ?_ e, ⟨_, hl, ?_⟩⟩
  · rcases h with rfl | ⟨z, hz⟩
    · exact (C.own _ (.inl rfl)).2.2
    · exact (C.cells z a hz).2
  · rw [Array.toList_push]
    exact (r.move hz).append (.cons (ry.move hz) .nil)
/-- the iterator's own state is untouched by what the loop does -/
theorem walk_store {prog : Program} {w : World} {A : Around} {n : Nat} {Pp : Nat → Value → Prop} {St : Nat → Heap → Prop} {i : Nat} (C : CompAt csc cenv H s₁ I D fp) (W : Walks prog w A I fp [I] n Pp St) (x : Ext s₁ s) (h : St i s.heap) {h' : Heap}
    (k : ∀ b o, b = I ∨ (∃ o, s₁.heap.get? b = some o) → s.heap.get? b = some o → h'.get? b = some o) : St i h' :=
  W.frame i _ _ h fun b hb o e => k b o (by
    by_cases q : b = I
    · exact .inl q
    · exact .inr (C.fp b hb q)) e
end

section
variable {prog : Program} {w : World} {base : Heap} {fa : Nat → Addr} {Φ : Funs} {nm : Nat → Str}

theorem comp_loop {elt cond : ME} {tg : Tgt} {csc sc : Scope} {env cenv : Env} {vis fv : List Nat} {x target iter : PySem.Expr} {ifs : List PySem.Expr} {pos : Pos} {A : Around} {H : Hid} {st : St} {s₁ s₄ : Shared} {I D : Addr} {fp : List Addr} {items : List Mine.D}
    {Pp : Nat → Value → Prop} {St : Nat → Heap → Prop} {Q : List Mine.D → Prop} {R : Result → Shared → Prop}
    (hElt : SE prog w base fa Φ nm elt) (hCond : ST prog w base fa Φ nm cond) (hTg : mTgt nm tg target = true) (hms : mScope nm sc csc vis tg.ids fv = true) (hmE : mE nm false csc (tg.ids ++ fv) elt x = true)
    (hIfs : mIfs (fun c => mE nm false csc (tg.ids ++ fv) cond c) cond ifs = true)
    (S : Sit base nm sc env A vis H st s₁) (C : CompAt csc cenv H s₁ I D fp) (hfr : ∀ x, csc.names.lookup x = some .free → cenv.cells.lookup x = env.cells.lookup x)
    (W : Walks prog w A I fp [I] items.length Pp St) (hP : ∀ i v, Pp i v → ∀ hi : i < items.length, Rd (Zof s₁.heap H) v items[i])
    (hgo : ∀ i (s : Shared) target v (Q : Unit → Shared → Prop) E, St i s.heap → Q () s → wpAny (model prog w) A (letOwnedTupleGo target (.ref I) v) Q E s) (hnq : ∀ i h, St i h → ∃ o, h.get? I = some o ∧ ¬ isSeq o)
    (hlen : items.length ≤ 1000000) (q : compGo (compB Φ elt tg cond st) items Q) (h0 : St 0 s₄.heap) (hst : CompSt csc cenv H s₁ D [] s₄)
    (k : ∀ rs s', Q rs → rs.length ≤ 1000000 → CompSt csc cenv H s₁ D rs s' → R (.ok .next) s') :
    codeAny (model prog w) A (.compLoop (.ListComp x [⟨target, iter, ifs, 0⟩] csc pos) 0 (.ref I) (.ref D) cenv) R s₄ := by
  refine compLoop_rule (fun n s' => ∃ i rs, i ≤ items.length ∧ n = items.length - i ∧ St i s'.heap ∧ CompSt csc cenv H s₁ D rs s' ∧ rs.length ≤ i ∧ compGo (compB Φ elt tg cond st) (items.drop i) fun rest => Q (rs ++ rest)) ?_ items.length
    ⟨0, [], Nat.zero_le _, rfl, h0, hst, Nat.le_refl _, by simpa using q⟩
  rintro n s' ⟨i, rs, hi, rfl, hSt, hC, hrs, q⟩ E
  by_cases hlt : i < items.length
  · refine W.item i s' _ _ hlt hSt fun v h' tk hv hSt' hk => ?_
    have hC' := hC.next C (tk := tk) (hnq i _ hSt) hk
    refine hgo (i + 1) _ _ _ _ _ hSt' ?_
    rw [List.drop_eq_getElem_cons hlt] at q
    have V := cvars (S.eo) C.eo hms S.va hfr hC'.ext.1 (C.z hC'.ext)
    have rv : Rd (Zof h' (hideD H D)) v items[i] := (hP i v hv hlt).move (C.z hC'.ext)
    obtain ⟨_, _, _, hkl, hfv, _⟩ := mScope_inv hms
    refine assign_ok hTg hkl (cinj hms) S.ao.h C.eo hC'.fr V rv q fun st' s3 q3 F3 V3 e3 => ?_
    have hC3 := hC'.store C F3 e3
    have hSt3 : St (i + 1) s3.heap := walk_store C W hC'.ext hSt' fun b o hb e => e3.1 b o (fun qo => by
      rcases hb with rfl | ⟨o', e'⟩
      · exact (C.own _ qo).2.1 rfl
      · rw [(C.own _ qo).1] at e'; cases e') e
    have mkSit : ∀ s5, CompSt csc cenv H s₁ D rs s5 → Ext s3 s5 → Sit base nm csc cenv A (tg.ids ++ fv) (hideD H D) st' s5 := fun s5 h5 e5 =>
      ⟨C.eo, S.ao, stays_trans S.ba h5.ext.1, C.hid h5, (V3 _ fun j hj => List.mem_append.mp hj).ext e5.1, h5.fr.cs⟩
    refine tests_ok hCond hIfs (mkSit s3 hC3 (Ext.refl _)) q3 fun b s4 q4 e4 => ?_
    have hC4 := hC3.grow e4
    have hSt4 : St (i + 1) s4.heap := walk_store C W hC3.ext hSt3 fun b o _ e => e4.1 b o e
    cases b with
    | false =>
      refine ⟨items.length - (i + 1), by omega, i + 1, rs, hlt, rfl, hSt4, hC4, by omega, ?_⟩
      exact q4
    | true =>
      refine hElt _ _ _ _ _ _ _ _ _ _ _ _ hmE (mkSit s4 hC4 e4) (fun h => by cases h) q4 fun y s5 d q5 ry e5 => ?_
      have hC5 := hC4.grow e5
      have hSt5 : St (i + 1) s5.heap := walk_store C W hC4.ext hSt4 fun b o _ e => e5.1 b o e
      obtain ⟨rsv, hl, rr⟩ := hC5.acc
      have hsz := rr.size
      refine wpAny_list_append_plain hl (fun h6 hl6 hs6 => ?_) (by rw [hsz, sL]; omega)
      have hC6 := hC5.push C rr ry hl6 hs6
      refine ⟨items.length - (i + 1), by omega, i + 1, rs ++ [d], hlt, rfl, ?_, hC6, by simp; omega, ?_⟩
      · exact walk_store C W hC5.ext hSt5 fun b o hb e => (hs6.2 b (fun q => by
          rcases hb with rfl | ⟨o', e'⟩
          · exact C.iD q.symm
          · rw [q, C.dNew] at e'; cases e')).trans e
      · have e : (fun rest => Q (rs ++ [d] ++ rest)) = fun rest => Q (rs ++ ((some d).toList ++ rest)) := by funext rest; simp
        rw [e]; exact q5
  · have hie : i = items.length := by omega
    subst hie
    refine W.done s' _ _ hSt fun h' tk hk => ?_
    rw [List.drop_of_length_le (Nat.le_refl _)] at q
    have q : Q (rs ++ []) := q
    rw [List.append_nil] at q
    exact k rs _ q (by omega) (hC.next C (hnq _ _ hSt) hk)
end
end
section
open PySem PySem.Calls PySem.Spec PyProof.Rows

section
variable {prog : Program} {w : World} {base : Heap} {fa : Nat → Addr} {Φ : Funs} {nm : Nat → Str}

theorem mIt_notSet {cl : Bool} {sc : Scope} {vis : List Nat} {it : It} {e : PySem.Expr} (h : mIt nm cl sc vis it e = true) : isSet e = false := by
  cases it with
  | range lo hi => refine any_elim h ?_; clear h; rintro ⟨_, _, _, p, q, rfl⟩ _; rfl
  | range0 hi => refine any_elim h ?_; clear h; rintro ⟨_, _, p, q, rfl⟩ _; rfl
  | ofE a => exact (Bool.not_eq_true' _).mp (Bool.and_eq_true_iff.mp h).2
  | ofV v => refine any_elim h ?_; clear h; rintro ⟨_, p, rfl⟩ _; rfl

/-- a new frame for a comprehension, behind its iterator and its list -/
theorem compAt_of {sc csc : Scope} {env : Env} {A : Around} {vis : List Nat} {H : Hid} {st : St} {s₁ s₂ : Shared} {I : Addr} {vs : Bool} {fp : List Addr} (S : Sit base nm sc env A vis H st s₁) (e2 : Ext s₁ s₂) (hI : s₁.heap.objs.size ≤ I) (hI' : ∃ o, s₂.heap.get? I = some o)
    (hfp : ∀ b ∈ fp, b ≠ I → ∃ o, s₁.heap.get? b = some o ∧ isSeq o ∧ (vs = true → ¬ H b)) {cenv : Env} (eo : EnvOk csc cenv) (hown : ∀ a, OwnA csc cenv a → s₂.heap.objs.size + 1 ≤ a)
    (hcl : ∀ x c, cenv.cells.lookup x = some c → OwnA csc cenv c ∨ env.cells.lookup x = some c) : CompAt csc cenv H s₁ I s₂.heap.objs.size fp := by
  obtain ⟨oI, hoI⟩ := hI'
  have iNew : s₁.heap.get? I = none := by
    cases h : s₁.heap.get? I with
    | none => rfl
    | some o => exact absurd (Heap.lt_size h) (Nat.not_lt.mpr hI)
  have none2 : ∀ a, s₂.heap.objs.size ≤ a → s₂.heap.get? a = none := fun a ha => by
    cases h : s₂.heap.get? a with
    | none => rfl
    | some o => exact absurd (Heap.lt_size h) (Nat.not_lt.mpr ha)
  have none1 : ∀ a, s₂.heap.objs.size ≤ a → s₁.heap.get? a = none := fun a ha => by
    cases h : s₁.heap.get? a with
    | none => rfl
    | some o => have := none2 a ha; rw [e2.1 a o h] at this; cases this
  have ilt := Heap.lt_size hoI
  refine ⟨eo, S.hi, iNew, none1 _ (Nat.le_refl _), Ne.symm (Nat.ne_of_lt ilt), fun a ha => ⟨none1 a (Nat.le_of_succ_le (hown a ha)), ?_, ?_⟩, fun x c hc => ?_, fun b hb hne => let ⟨o, e, _⟩ := hfp b hb hne; ⟨o, e⟩⟩
  · exact Ne.symm (Nat.ne_of_lt (Nat.lt_of_lt_of_le ilt (Nat.le_of_succ_le (hown a ha))))
  · exact Ne.symm (Nat.ne_of_lt (hown a ha))
  · rcases hcl x c hc with ha | hc'
    · exact ⟨Ne.symm (Nat.ne_of_lt (Nat.lt_of_lt_of_le ilt (Nat.le_of_succ_le (hown c ha)))), Ne.symm (Nat.ne_of_lt (hown c ha))⟩
    · obtain ⟨v, o, ho, _⟩ := S.cs x c hc'
      refine ⟨fun q => ?_, fun q => ?_⟩
      · rw [q, iNew] at ho; cases ho
      · have := none1 c (by rw [q]; exact Nat.le_refl _)
        rw [this] at ho; cases ho

theorem comp_end {csc : Scope} {cenv : Env} {H : Hid} {s s₁ : Shared} {I D : Addr} {fp : List Addr} {rs : List Mine.D} {s' : Shared} (C : CompAt csc cenv H s₁ I D fp) (x : CompSt csc cenv H s₁ D rs s') (hrs : rs.length ≤ 1000000) (e : Ext s s₁) :
    Rd (Zof s'.heap H) (.ref D) (.list rs) ∧ Ext s s' ∧ s.heap.get? cenv.locals = none ∧ s.heap.get? D = none ∧ ∃ m, s'.heap.Ns cenv.locals m := by
  refine ⟨?_, e.trans x.ext, ?_, ?_, x.fr.ns⟩
  · obtain ⟨rsv, hl, r⟩ := x.acc
    have hD : ¬ H D := fun h => by obtain ⟨o, ho⟩ := C.hiH D h; rw [C.dNew] at ho; cases ho
    refine rd_list hl hD ?_ (r.move fun a o _ z => ⟨z.1, fun h => z.2 (.inl h)⟩)
    rw [r.size, sL]; omega
  · cases h : s.heap.get? cenv.locals with
    | none => rfl
    | some o => have := (C.own _ (.inl rfl)).1; rw [e.1 _ _ h] at this; cases this
  · cases h : s.heap.get? D with
    | none => rfl
    | some o => have := C.dNew; rw [e.1 _ _ h] at this; cases this

theorem comp_run {elt cond : ME} {tg : Tgt} {it : It} {cl : Bool} {csc sc : Scope} {env : Env} {vis fv : List Nat} {x target iter : PySem.Expr} {ifs : List PySem.Expr} {pos : Pos} {A : Around} {H : Hid} {st : St} {s : Shared} {Q : Mine.D → Prop}
    {E : Value → Shared → Prop} {RR : Value → Addr → Result → Shared → Prop}
    (hIt : SIt prog w base fa Φ nm it) (hElt : SE prog w base fa Φ nm elt) (hCond : ST prog w base fa Φ nm cond) (hmIt : mIt nm cl sc vis it iter = true) (hTg : mTgt nm tg target = true) (hms : mScope nm sc csc vis tg.ids fv = true)
    (hmE : mE nm false csc (tg.ids ++ fv) elt x = true) (hIfs : mIfs (fun c => mE nm false csc (tg.ids ++ fv) cond c) cond ifs = true)
    (S : Sit base nm sc env A vis H st s) (hc : cl = true → CallOk prog w base fa Φ A) (q : wpE Φ (.comp elt tg it cond fv) st Q)
    (hRR : ∀ D C s' rs, Q (.list rs) → Rd (Zof s'.heap H) (.ref D) (.list rs) → Ext s s' → s.heap.get? C = none → s.heap.get? D = none → (∃ m, s'.heap.Ns C m) → RR (.ref D) C (.ok .next) s') :
    wpAny (model prog w) A (eval iter env) (fun xv s₁ => wpAny (model prog w) A (pyIter xv) (fun it s₂ => wpAny (model prog w) A (newList []) (fun acc s₃ =>
      wpAny (model prog w) A (newFunctionEnv csc env.globals (closAcc env csc.names []) [] env.qual none .none (some env)) (fun cenv s₄ =>
        codeAny (model prog w) A (.compStart (.ListComp x [⟨target, iter, ifs, 0⟩] csc pos) 0 it acc { cenv with scope := relabel csc env }) (RR acc cenv.locals) s₄) E s₃) E s₂) E s₁) E s := by
  rw [yH] at q
  obtain ⟨hkind, hnd, _, hkl, hfv, hcov⟩ := mScope_inv hms
  refine hIt _ _ _ _ _ _ _ _ _ _ _ _ hmIt S hc q fun I s₁ s₂ items q₁ hlen e1 e2 hI hI' hIter => ?_
  obtain ⟨fp, Pp, St, W, hst0, hfp, hP, hgo, hnq⟩ := hIter
  have S1 := S.ext e1
  refine wpAny_newList ?_ (by decide)
  have e3 : Ext s₂ { s₂ with heap := s₂.heap.push { cls := .type "list", data := .seq ([] : List Value).toArray } } := Ext.push (tk := s₂.toks)
  have hsz : ({ s₂ with heap := s₂.heap.push { cls := .type "list", data := .seq ([] : List Value).toArray } } : Shared).heap.objs.size = s₂.heap.objs.size + 1 := Heap.size_push ..
  refine newEnv_ok S.eo ((S1.ext e2).ext e3).cs hkind hnd (cfree S.eo hms) fun s₄ eo' fr' hfr hown e4 => ?_
  rw [hsz] at eo' fr' hfr hown ⊢
  have C : CompAt csc (cenvOf csc env (s₂.heap.objs.size + 1)) H s₁ I s₂.heap.objs.size fp := compAt_of S1 e2 hI hI' hfp eo' hown fun x c hc => by
    by_cases hx : csc.names.lookup x = some .cell
    · exact .inl (.inr ⟨x, hx, hc⟩)
    · refine .inr ?_
      have hc2 : (cellsFrom (s₂.heap.objs.size + 1 + 1) csc.names (closAcc env csc.names [])).lookup x = some c := hc
      rw [cellsFrom_append, lookup_append, cellsFrom_none] at hc2
      · exact closAcc_mem (cfree S.eo hms) (lookup_mem hc2)
      · rintro ⟨y, ky⟩ hy hk rfl
        simp only at hk; subst hk
        exact hx (mem_lookup hnd hy)
  have e34 := (e2.trans e3).trans e4
  have hSt4 : St 0 s₄.heap := W.frame 0 _ _ hst0 fun b _ o e => (e3.trans e4).1 b o e
  have hC4 : CompSt csc (cenvOf csc env (s₂.heap.objs.size + 1)) H s₁ s₂.heap.objs.size [] s₄ :=
    ⟨e34, fr', #[], plain_keeps (push_list s₂.heap []) e4.1, .nil⟩
  have loop : codeAny (model prog w) A (.compLoop (.ListComp x [⟨target, iter, ifs, 0⟩] csc pos) 0 (.ref I) (.ref s₂.heap.objs.size) (cenvOf csc env (s₂.heap.objs.size + 1))) (RR (.ref s₂.heap.objs.size) (s₂.heap.objs.size + 1)) s₄ :=
    comp_loop hElt hCond hTg hms hmE hIfs S1 C hfr W hP hgo hnq hlen q₁ hSt4 hC4 fun rs s' q' hrs hC' => by
      obtain ⟨r1, r2, r3, r5, r4⟩ := comp_end C hC' hrs e1
      exact hRR _ _ s' rs q' r1 r2 r3 r5 r4
  exact codeAny_compStart_list loop (W.self 0 s₄ _ _ hSt4 loop)

theorem eval_ListComp' {x : PySem.Expr} {g : Comprehension} {gs : List Comprehension} {csc : Scope} {pos : Pos} {env : Env} : eval (.ListComp x (g :: gs) csc pos) env = comprehension (.ListComp x (g :: gs) csc pos) csc env (firstIterPos (g :: gs) pos) (newList []) (firstAsync (g :: gs)) (firstIter (g :: gs) env) := rfl

theorem comp_names {sc csc : Scope} {vis ts fv : List Nat} (hms : mScope nm sc csc vis ts fv = true) : ∀ y ∈ csc.names, y.2 = .local → csc.names.lookup y.1 = some .local := by
  obtain ⟨_, hnd, _⟩ := mScope_inv hms
  rintro ⟨y, k⟩ hy rfl
  exact mem_lookup hnd hy

theorem se_comp {elt cond : ME} {tg : Tgt} {it : It} {fv : List Nat} (hIt : SIt prog w base fa Φ nm it) (hElt : SE prog w base fa Φ nm elt) (hCond : ST prog w base fa Φ nm cond) : SE prog w base fa Φ nm (.comp elt tg it cond fv) := by
  intro cl sc vis e env A H st s Q P E hm S hc q k
  · refine any_elim hm ?_; clear hm; rintro ⟨x, g, csc, pos, rfl⟩ hm
    obtain ⟨target, iter, ifs, as⟩ := g
    simp only [Bool.and_eq_true, beq_iff_eq] at hm
    obtain ⟨⟨⟨⟨⟨rfl, hm1⟩, hm2⟩, hm3⟩, hm4⟩, hm5⟩ := hm
    rw [eval_ListComp']
    refine wpAny_comprehension_free (use := none) rfl (folded_ok (mIt_notSet hm1)) (closureFor_eq (cfree S.eo hm3)) (mScope_inv hm3).1 (comp_names hm3) ?_
    refine comp_run hIt hElt hCond hm1 hm2 hm3 hm4 hm5 S hc q fun D C s' rs q' r e hC _ hN => ?_
    obtain ⟨m, hN⟩ := hN
    refine ⟨m, hN, fun h' hs => ?_⟩
    have sq : SeqStays s'.heap h' := fun a o q e => (hs.2 a (fun h => by subst h; exact ns_notSeq hN e q)).trans e
    exact k _ _ _ q' (r.move sq.z) ⟨fun b o eb => (hs.2 b (fun h => by subst h; rw [hC] at eb; cases eb)).trans (e.1 b o eb), e.2.1, e.2.2⟩
end
end
section
open PySem PySem.Calls PySem.Spec PyProof.Rows

theorem compTurn2_0 (elt t1 i1 t2 i2 : PySem.Expr) (scope : Scope) (pos : Pos) (it acc : Value) (env : Env) :
    compTurn (.ListComp elt [⟨t1, i1, [], 0⟩, ⟨t2, i2, [], 0⟩] scope pos) 0 it acc env = (do
      standAt i1.pos
      match ← pyNext it with
      | none => pure (.done .next)
      | some v =>
        letOwnedTupleGo t1 it v
        assign t1 env v
        let x ← eval i2 env
        standAt i2.pos
        let x ← foldedSetIterable i2 env x
        let _ ← runOwn (.compStart (.ListComp elt [⟨t1, i1, [], 0⟩, ⟨t2, i2, [], 0⟩] scope pos) 1 (← holding [x] (pyIter x)) acc env) env
        again (.compLoop (.ListComp elt [⟨t1, i1, [], 0⟩, ⟨t2, i2, [], 0⟩] scope pos) 0 it acc env)) := by rfl
theorem compTurn2_1 (elt t1 i1 t2 i2 : PySem.Expr) (scope : Scope) (pos : Pos) (it acc : Value) (env : Env) :
    compTurn (.ListComp elt [⟨t1, i1, [], 0⟩, ⟨t2, i2, [], 0⟩] scope pos) 1 it acc env = (do
      standAt i2.pos
      match ← pyNext it with
      | none => pure (.done .next)
      | some v =>
        letOwnedTupleGo t2 it v
        assign t2 env v
        (do let _ ← call (.builtin "list.append") [acc, ← eval elt env])
        again (.compLoop (.ListComp elt [⟨t1, i1, [], 0⟩, ⟨t2, i2, [], 0⟩] scope pos) 1 it acc env)) := by rfl

section
variable {prog : Program} {w : World} {A : Around} {R : Result → Shared → Prop} {s : Shared} {elt t1 i1 t2 i2 : PySem.Expr} {scope : Scope} {pos : Pos} {it acc : Value} {env : Env}
theorem inner_rule (I : Nat → Shared → Prop)
    (turn : ∀ n s, I n s → ∀ E, wpAny (model prog w) A (pyNext it) (fun r s₁ => match r with
      | none => R (.ok .next) s₁
      | some v => wpAny (model prog w) A (letOwnedTupleGo t2 it v) (fun _ s₁' => wpAny (model prog w) A (assign t2 env v) (fun _ s₃ =>
          wpAny (model prog w) A (eval elt env) (fun x s₄ =>
              wpAny (model prog w) A (call (.builtin "list.append") [acc, x]) (fun _ s₅ => ∃ m, m < n ∧ I m s₅) E s₄) E s₃) E s₁') E s₁) E s)
    (n : Nat) (h : I n s) : codeAny (model prog w) A (.compLoop (.ListComp elt [⟨t1, i1, [], 0⟩, ⟨t2, i2, [], 0⟩] scope pos) 1 it acc env) R s := by
  refine codeAny_loop rfl I (fun n s hI => ?_) n h
  show wpAny _ A ((compTurn (.ListComp elt [⟨t1, i1, [], 0⟩, ⟨t2, i2, [], 0⟩] scope pos) 1 it acc env).onRaise (fun x => do noteFrame x env; theTreesLotGoes x)) _ _ s
  refine wpAny_noted ?_
  rw [compTurn2_1]
  refine wpAny_bind (wpAny_standAt (wpAny_bind (wpAny_mono (turn n s hI _) (fun r s₁ h₁ => ?_) fun _ _ h' => h')))
  cases r with
  | none => exact wpAny_pure h₁
  | some v =>
    refine wpAny_bind (wpAny_mono h₁ (fun _ s₁' h₁' => ?_) fun _ _ h' => h')
    refine wpAny_bind (wpAny_mono h₁' (fun _ s₃ h₃ => ?_) fun _ _ h' => h')
    exact wpAny_bind (wpAny_bind (wpAny_mono h₃ (fun x s₄ h₄ => wpAny_bind (wpAny_mono h₄ (fun _ s₅ h₅ => wpAny_pure (wpAny_pure ⟨rfl, h₅⟩)) fun _ _ h' => h')) fun _ _ h' => h'))
theorem outer_rule (I : Nat → Shared → Prop) (hs : ∀ x, foldedSetIterable i2 env x = pure x)
    (turn : ∀ n s, I n s → ∀ E, wpAny (model prog w) A (pyNext it) (fun r s₁ => match r with
      | none => R (.ok .next) s₁
      | some v => wpAny (model prog w) A (letOwnedTupleGo t1 it v) (fun _ s₁' => wpAny (model prog w) A (assign t1 env v) (fun _ s₃ =>
          wpAny (model prog w) A (eval i2 env) (fun x s₄ => wpAny (model prog w) A (pyIter x) (fun it' s₅ =>
              codeAny (model prog w) A (.compStart (.ListComp elt [⟨t1, i1, [], 0⟩, ⟨t2, i2, [], 0⟩] scope pos) 1 it' acc env) (fun r s₆ => r = .ok .next ∧ ∃ m, m < n ∧ I m s₆) s₅) E s₄) E s₃) E s₁') E s₁) E s)
    (n : Nat) (h : I n s) : codeAny (model prog w) A (.compLoop (.ListComp elt [⟨t1, i1, [], 0⟩, ⟨t2, i2, [], 0⟩] scope pos) 0 it acc env) R s := by
  refine codeAny_loop rfl I (fun n s hI => ?_) n h
  show wpAny _ A ((compTurn (.ListComp elt [⟨t1, i1, [], 0⟩, ⟨t2, i2, [], 0⟩] scope pos) 0 it acc env).onRaise (fun x => do noteFrame x env; theTreesLotGoes x)) _ _ s
  refine wpAny_noted ?_
  rw [compTurn2_0]
  refine wpAny_bind (wpAny_standAt (wpAny_bind (wpAny_mono (turn n s hI _) (fun r s₁ h₁ => ?_) fun _ _ h' => h')))
  cases r with
  | none => exact wpAny_pure h₁
  | some v =>
    refine wpAny_bind (wpAny_mono h₁ (fun _ s₁' h₁' => ?_) fun _ _ h' => h')
    refine wpAny_bind (wpAny_mono h₁' (fun _ s₃ h₃ => ?_) fun _ _ h' => h')
    refine wpAny_bind (wpAny_mono h₃ (fun x s₄ h₄ => wpAny_bind (wpAny_standAt (wpAny_bind (wpAny_of_eq (hs x) (wpAny_bind (wpAny_holding (wpAny_mono h₄ (fun it' s₅ h₅ => ?_) fun _ _ h' => h'))))))) fun _ _ h' => h')
    refine wpAny_bind (wpAny_runOwn (codeAny_mono h₅ fun r s₆ h₆ => ?_))
    obtain ⟨rfl, h₆⟩ := h₆
    exact wpAny_pure ⟨rfl, h₆⟩
theorem innerStart_rule
    (h0 : codeAny (model prog w) A (.compLoop (.ListComp elt [⟨t1, i1, [], 0⟩, ⟨t2, i2, [], 0⟩] scope pos) 1 it acc env) R s)
    (h : ∀ E, wpAny (model prog w) A (pyIter it) (fun it' s' => codeAny (model prog w) A (.compLoop (.ListComp elt [⟨t1, i1, [], 0⟩, ⟨t2, i2, [], 0⟩] scope pos) 1 it' acc env) R s') E s) :
    codeAny (model prog w) A (.compStart (.ListComp elt [⟨t1, i1, [], 0⟩, ⟨t2, i2, [], 0⟩] scope pos) 1 it acc env) R s := by
  refine codeAny_of_tree ?_
  show wpAny _ _ ((compStart (.ListComp elt [⟨t1, i1, [], 0⟩, ⟨t2, i2, [], 0⟩] scope pos) 1 it acc env).onRaise (fun x => do noteFrame x env; standAt theWindowsPlace)) _ _ s
  refine wpAny_notedAt ?_
  unfold compStart
  show wpAny _ _ (ask >>= _) _ _ s
  refine wpAny_bind (wpAny_askSetting (wpAny_ite ?_))
  split
  · first
      | exact wpAny_bind (wpAny_pure (wpAny_pure (And.intro rfl h0)))
      | exact wpAny_pure (And.intro rfl h0)
  · first
      | exact wpAny_bind (wpAny_rule (wpAny_bind (wpAny_standAt (wpAny_bind (wpAny_mono (h _) (fun it' s' h' => wpAny_pure (And.intro rfl h')) fun _ _ x => x)))))
      | (refine wpAny_bind (wpAny_rule ?_); show wpAny _ _ (standAt i2.pos >>= _) _ _ s; exact wpAny_bind (wpAny_standAt (wpAny_bind (wpAny_mono (h _) (fun it' s' h' => wpAny_pure (And.intro rfl h')) fun _ _ x => x))))
end
end
section
open PySem PySem.Calls PySem.Spec PyProof.Rows

/-- what could be read there can be read here -/
noncomputable def SeqVis (H : Hid) (s s' : Shared) : Prop := ∀ b o, isSeq o → Zof s.heap H b o → Zof s'.heap H b o

/-- the variables; lists of the frame's own stand from the start -/
noncomputable def VarsX (env : Env) (nm : Nat → Str) (vis : List Nat) (H : Hid) (st : St) (s₁ : Shared) (h : Heap) : Prop :=
  ∀ i sl, i ∈ vis → st[i]? = some sl → sl ≠ .undef → ∃ v, VarAt env h (nm i) v ∧ SlotV h H v sl ∧ ∀ a, v = .ref a → (∃ ds, sl = .own1 ds ∨ sl = .lent ds) → ∃ o, s₁.heap.get? a = some o
theorem VarsX.vars {env : Env} {nm : Nat → Str} {vis : List Nat} {H : Hid} {st : St} {s₁ : Shared} {h : Heap} (x : VarsX env nm vis H st s₁ h) : Vars env nm vis H st h := fun i sl a b c => let ⟨v, h1, h2, _⟩ := x i sl a b c; ⟨v, h1, h2⟩

section
variable {prog : Program} {w : World} {base : Heap} {fa : Nat → Addr} {Φ : Funs} {nm : Nat → Str}

theorem inner_loop {elt : ME} {t2 : Nat} {csc : Scope} {cenv : Env} {vis : List Nat} {x p1 i1 p2 i2 : PySem.Expr} {pos : Pos} {A : Around} {H : Hid} {st : St} {s₁ sa sb : Shared} {I J D : Addr} {fp : List Addr} {items : List Mine.D}
    {Pp : Nat → Value → Prop} {St : Nat → Heap → Prop} {Q : List Mine.D → Prop} {rs : List Mine.D} {R : Result → Shared → Prop}
    (hElt : SE prog w base fa Φ nm elt) (hTg : mTgt nm (.one t2) p2 = true) (hkl : kLoc nm csc t2 = true) (hinj : ∀ j ∈ [t2] ++ vis, nm j = nm t2 → j = t2) (ht2 : t2 ∉ vis) (hmE : mE nm false csc (t2 :: vis) elt x = true)
    (ao : AOk 0 A) (hba : base.StaysIn s₁.heap) (C : CompAt csc cenv H s₁ I D []) (hIJ : I ≠ J) (hJn : ∀ a, OwnA csc cenv a → a ≠ J) (hJc : ∀ x c, cenv.cells.lookup x = some c → c ≠ J) (hJD : D ≠ J)
    (hfp : ∀ b ∈ fp, b ≠ I → ∃ o, sa.heap.get? b = some o ∧ isSeq o ∧ ¬ hideD H D b)
    (W : Walks prog w A I fp [I] items.length Pp St) (hP : ∀ i v, Pp i v → ∀ hi : i < items.length, Rd (Zof sa.heap (hideD H D)) v items[i])
    (hgo : ∀ i (s : Shared) target v (Q : Unit → Shared → Prop) E, St i s.heap → Q () s → wpAny (model prog w) A (letOwnedTupleGo target (.ref I) v) Q E s) (hnq : ∀ i h, St i h → ∃ o, h.get? I = some o ∧ ¬ isSeq o)
    (hlen : items.length ≤ 1000) (hrs : rs.length ≤ 1000000) (q : compGo (fun d2 K2 => wpE Φ elt (st.set t2 (.sh d2)) fun v => K2 (some v)) items Q) (h0 : St 0 sb.heap) (hst : CompSt csc cenv H s₁ D rs sb) (hV : VarsX cenv nm vis (hideD H D) st s₁ sb.heap) (hSV : SeqVis (hideD H D) sa sb)
    (k : ∀ rsi s', Q rsi → rsi.length ≤ items.length → CompSt csc cenv H s₁ D (rs ++ rsi) s' → (∀ o, sb.heap.get? J = some o → s'.heap.get? J = some o) → R (.ok .next) s') :
    codeAny (model prog w) A (.compLoop (.ListComp x [⟨p1, i1, [], 0⟩, ⟨p2, i2, [], 0⟩] csc pos) 1 (.ref I) (.ref D) cenv) R sb := by
  refine inner_rule (fun n s' => ∃ i rsi, i ≤ items.length ∧ n = items.length - i ∧ St i s'.heap ∧ CompSt csc cenv H s₁ D (rs ++ rsi) s' ∧ rsi.length ≤ i ∧ VarsX cenv nm vis (hideD H D) st s₁ s'.heap ∧ SeqVis (hideD H D) sa s' ∧ (∀ o, sb.heap.get? J = some o → s'.heap.get? J = some o) ∧
    compGo (fun d2 K2 => wpE Φ elt (st.set t2 (.sh d2)) fun v => K2 (some v)) (items.drop i) fun rest => Q (rsi ++ rest)) ?_ items.length
    ⟨0, [], Nat.zero_le _, rfl, h0, by rw [List.append_nil]; exact hst, Nat.le_refl _, hV, hSV, fun _ e => e, by simpa using q⟩
  rintro n s' ⟨i, rsi, hi, rfl, hSt, hC, hrsi, hV, hSV, hJ, q⟩ E
  have wf : ∀ {i : Nat} {s s' : Shared}, St i s.heap → SeqVis (hideD H D) sa s → (∀ b o, b = I ∨ (isSeq o ∧ ¬ hideD H D b) → s.heap.get? b = some o → s'.heap.get? b = some o) → St i s'.heap := fun hS hv kk => W.frame _ _ _ hS fun b hb o e => kk b o (by
    by_cases qb : b = I
    · exact .inl qb
    · obtain ⟨o', e', hs, hh⟩ := hfp b hb qb
      have := (hv b o' hs ⟨e', hh⟩).1
      rw [e] at this; cases this
      exact .inr ⟨hs, hh⟩) e
  by_cases hlt : i < items.length
  · refine W.item i s' _ _ hlt hSt fun v h' tk hv hSt' hk => ?_
    have hC' := hC.next C (tk := tk) (hnq i _ hSt) hk
    have kI : ∀ b o, b ≠ I → s'.heap.get? b = some o → h'.get? b = some o := fun b o n e => hk b o (by simpa using n) e
    have sqI : SeqStays s'.heap h' := fun a o q e => kI a o (fun h => by
      subst h
      obtain ⟨o', e', n⟩ := hnq i _ hSt
      rw [e] at e'; cases e'; exact n q) e
    have hSV' : SeqVis (hideD H D) sa { s' with heap := h', toks := tk } := fun b o hq z => sqI.z b o hq (hSV b o hq z)
    have hV' : VarsX cenv nm vis (hideD H D) st s₁ h' := fun j sl hj hsl hu => by
      obtain ⟨u, h1, h2, h3⟩ := hV j sl hj hsl hu
      refine ⟨u, h1.keep fun a o ha e => kI a o ?_ e, h2.seq sqI sqI.z, h3⟩
      rcases ha with rfl | ⟨y, hy⟩
      · exact (C.own _ (.inl rfl)).2.1
      · exact (C.cells y a hy).1
    refine hgo (i + 1) _ _ _ _ _ hSt' ?_
    rw [List.drop_eq_getElem_cons hlt] at q
    have rv : Rd (Zof h' (hideD H D)) v items[i] := (hP i v hv hlt).move hSV'
    refine any_elim hTg ?_; clear hTg; rintro ⟨xn, pn, rfl⟩ hTg
    simp only [beq_iff_eq] at hTg
    subst hTg
    refine wpAny_assign_Name (store_ok C.eo hC'.fr (kLoc_inv hkl) fun s3 F3 hv3 ho3 e3 => ?_)
    have hC3 := hC'.store C F3 e3
    have sq3 := hC'.fr.seq e3
    have hSV3 : SeqVis (hideD H D) sa s3 := fun b o hq z => sq3.z b o hq (hSV' b o hq z)
    have hSt3 : St (i + 1) s3.heap := wf hSt' hSV' fun b o hb e => e3.1 b o (fun qo => by
      rcases hb with rfl | ⟨hs, _⟩
      · exact (C.own _ qo).2.1 rfl
      · exact hC'.fr.notSeq qo e hs) e
    have V3a : Vars cenv nm (t2 :: vis) (hideD H D) (st.set t2 (.sh items[i])) s3.heap := hV'.vars.store (fun j hj hn => hinj j (List.mem_append_right _ hj) hn) sq3 sq3.z hv3 ho3 (rv.move sq3.z)
    have hV3 : VarsX cenv nm vis (hideD H D) st s₁ s3.heap := fun j sl hj hsl hu => by
      obtain ⟨u, h1, h2, h3⟩ := hV' j sl hj hsl hu
      have hne : nm j ≠ nm t2 := fun e => ht2 (hinj j (List.mem_append_right _ hj) e ▸ hj)
      exact ⟨u, ho3 _ _ hne h1, h2.seq sq3 sq3.z, h3⟩
    have hJ3 : ∀ o, sb.heap.get? J = some o → s3.heap.get? J = some o := fun o e => e3.1 J o (fun q => hJn J q rfl) (kI J o (Ne.symm hIJ) (hJ o e))
    have S3 : Sit base nm csc cenv A (t2 :: vis) (hideD H D) (st.set t2 (.sh items[i])) s3 := ⟨C.eo, ao, stays_trans hba hC3.ext.1, C.hid hC3, V3a, hC3.fr.cs⟩
    have q : wpE Φ elt (st.set t2 (.sh items[i])) fun v => compGo (fun d2 K2 => wpE Φ elt (st.set t2 (.sh d2)) fun v => K2 (some v)) (items.drop (i + 1)) fun rs0 => Q (rsi ++ ((some v).toList ++ rs0)) := q
    refine hElt _ _ _ _ _ _ _ _ _ _ _ _ hmE S3 (fun h => by cases h) q fun y s5 d q5 ry e5 => ?_
    have hC5 := hC3.grow e5
    have hSV5 : SeqVis (hideD H D) sa s5 := fun b o hq z => Zof.ext e5.1 b o hq (hSV3 b o hq z)
    have hSt5 : St (i + 1) s5.heap := wf hSt3 hSV3 fun b o _ e => e5.1 b o e
    obtain ⟨rsv, hl, rr⟩ := hC5.acc
    have hsz := rr.size
    rw [List.length_append] at hsz
    refine wpAny_list_append_plain hl (fun h6 hl6 hs6 => ?_) (by rw [hsz, sL]; omega)
    have hC6 := hC5.push C rr ry hl6 hs6
    have k6 : ∀ b o, b ≠ D → s5.heap.get? b = some o → h6.get? b = some o := fun b o n e => (hs6.2 b n).trans e
    refine ⟨items.length - (i + 1), by omega, i + 1, rsi ++ [d], hlt, rfl, ?_, by rw [← List.append_assoc]; exact hC6, by simp; omega, ?_, ?_, ?_, ?_⟩
    · exact wf (s' := { s5 with heap := h6 }) hSt5 hSV5 fun b o hb e => k6 b o (fun q => by
        rcases hb with rfl | ⟨_, hh⟩
        · exact C.iD q.symm
        · exact hh (.inr q)) e
    · intro j sl hj hsl hu
      obtain ⟨u, h1, h2, h3⟩ := hV3 j sl hj hsl hu
      have h1 := h1.ext e5.1
      have h2 := h2.move e5.1 (Zof.ext e5.1)
      have hz : ∀ a o, isSeq o → Zof s5.heap (hideD H D) a o → Zof h6 (hideD H D) a o := fun a o _ z => ⟨k6 a o (fun q => z.2 (.inr q)) z.1, z.2⟩
      refine ⟨u, h1.keep fun a o ha e => k6 a o ?_ e, ?_, h3⟩
      · rcases ha with rfl | ⟨y, hy⟩
        · exact (C.own _ (.inl rfl)).2.2
        · exact (C.cells y a hy).2
      · have ne : ∀ a, u = .ref a → (∃ ds, sl = .own1 ds ∨ sl = .lent ds) → a ≠ D := fun a e1 e2 e3 => by
          obtain ⟨o, ho⟩ := h3 a e1 e2
          rw [e3, C.dNew] at ho; cases ho
        cases sl with
        | undef => trivial
        | sh d => exact Rd.move hz h2
        | own1 ds =>
          obtain ⟨a, its, e1, ⟨n, hl'⟩, hn', r'⟩ := h2
          exact ⟨a, its, e1, ⟨n, k6 _ _ (ne a e1 ⟨ds, .inl rfl⟩) hl'⟩, hn', r'.move hz⟩
        | own2 => trivial
        | lent ds =>
          obtain ⟨a, its, e1, ⟨n, hl'⟩, hn', r'⟩ := h2
          exact ⟨a, its, e1, ⟨n, k6 _ _ (ne a e1 ⟨ds, .inr rfl⟩) hl'⟩, hn', r'.move hz⟩
    · exact fun b o hq z => ⟨k6 b o (fun q => z.2 (.inr q)) (hSV5 b o hq z).1, z.2⟩
    · exact fun o e => k6 J o (Ne.symm hJD) (e5.1 J o (hJ3 o e))
    · have e : (fun rest => Q (rsi ++ [d] ++ rest)) = fun rest => Q (rsi ++ ((some d).toList ++ rest)) := by funext rest; simp
      rw [e]; exact q5
  · have hie : i = items.length := by omega
    subst hie
    refine W.done s' _ _ hSt fun h' tk hk => ?_
    rw [List.drop_of_length_le (Nat.le_refl _)] at q
    have q : Q (rsi ++ []) := q
    rw [List.append_nil] at q
    exact k rsi _ q (by omega) (hC.next C (hnq _ _ hSt) hk) fun o e => hk J o (by simpa using Ne.symm hIJ) (hJ o e)
end
end
section
open PySem PySem.Calls PySem.Spec PyProof.Rows

section
variable {prog : Program} {w : World} {base : Heap} {fa : Nat → Addr} {Φ : Funs} {nm : Nat → Str}

theorem cvarsX {sc csc : Scope} {env cenv : Env} {vis ts fv : List Nat} {H H' : Hid} {st : St} {s₁ : Shared} {h' : Heap} (eo : EnvOk sc env) (eo' : EnvOk csc cenv) (hms : mScope nm sc csc vis ts fv = true) (V : Vars env nm vis H st s₁.heap)
    (hfr : ∀ x, csc.names.lookup x = some .free → cenv.cells.lookup x = env.cells.lookup x) (hk : s₁.heap.StaysIn h') (hz : ∀ a o, isSeq o → Zof s₁.heap H a o → Zof h' H' a o) : VarsX cenv nm fv H' st s₁ h' := by
  obtain ⟨_, _, _, _, hfv, _⟩ := mScope_inv hms
  intro i sl hi hsl hu
  obtain ⟨h1, h2, h3, _⟩ := hfv i hi
  obtain ⟨v, hv, hs⟩ := V i sl h3 hsl hu
  refine ⟨v, ?_, hs.seq (SeqStays.of hk) hz, fun a e ho => ?_⟩
  · rcases hv with ⟨e, _⟩ | ⟨_, c, hc, hcell⟩
    · rcases h2 with h2 | h2
      · rw [(eo.ce _ h2).1] at e; cases e
      · rcases (eo.fr _ h2).1 with q | q <;> (rw [q] at e; cases e)
    · exact .inr ⟨(eo'.fr _ h1).1, c, (hfr _ h1).trans hc, hcell.keeps hk⟩
  · obtain ⟨ds, rfl | rfl⟩ := ho
    · obtain ⟨a', its, e1, ⟨n, hl⟩, _⟩ := hs
      rw [e] at e1; cases e1; exact ⟨_, hl⟩
    · obtain ⟨a', its, e1, ⟨n, hl⟩, _⟩ := hs
      rw [e] at e1; cases e1; exact ⟨_, hl⟩

theorem comp2_loop {elt : ME} {t1 t2 : Nat} {i2m : It} {csc sc : Scope} {env cenv : Env} {vis fv : List Nat} {x p1 i1 p2 i2 : PySem.Expr} {pos : Pos} {A : Around} {H : Hid} {st : St} {s₁ s₄ : Shared} {I D : Addr} {fp : List Addr} {items : List Mine.D}
    {Pp : Nat → Value → Prop} {St : Nat → Heap → Prop} {Q : List Mine.D → Prop} {R : Result → Shared → Prop}
    (hElt : SE prog w base fa Φ nm elt) (hI2 : SIt prog w base fa Φ nm i2m) (hTg1 : mTgt nm (.one t1) p1 = true) (hTg2 : mTgt nm (.one t2) p2 = true) (hms : mScope nm sc csc vis [t1, t2] fv = true) (hmI2 : mIt nm false csc (t1 :: fv) i2m i2 = true) (hno : notOfV i2m = true)
    (hmE : mE nm false csc (t2 :: t1 :: fv) elt x = true)
    (S : Sit base nm sc env A vis H st s₁) (C : CompAt csc cenv H s₁ I D fp) (hfr : ∀ x, csc.names.lookup x = some .free → cenv.cells.lookup x = env.cells.lookup x)
    (W : Walks prog w A I fp [I] items.length Pp St) (hP : ∀ i v, Pp i v → ∀ hi : i < items.length, Rd (Zof s₁.heap H) v items[i])
    (hgo : ∀ i (s : Shared) target v (Q : Unit → Shared → Prop) E, St i s.heap → Q () s → wpAny (model prog w) A (letOwnedTupleGo target (.ref I) v) Q E s) (hnq : ∀ i h, St i h → ∃ o, h.get? I = some o ∧ ¬ isSeq o)
    (hlen : items.length ≤ 1000) (q : compGo2 (compB2 Φ elt t1 t2 i2m st) items Q) (h0 : St 0 s₄.heap) (hst : CompSt csc cenv H s₁ D [] s₄)
    (k : ∀ rs s', Q rs → rs.length ≤ 1000000 → CompSt csc cenv H s₁ D rs s' → R (.ok .next) s') :
    codeAny (model prog w) A (.compLoop (.ListComp x [⟨p1, i1, [], 0⟩, ⟨p2, i2, [], 0⟩] csc pos) 0 (.ref I) (.ref D) cenv) R s₄ := by
  obtain ⟨_, _, hndn, hkl, hfv, _⟩ := mScope_inv hms
  have inj := cinj hms
  have t12 : t1 ≠ t2 := by
    intro e
    subst e
    simp at hndn
  have t1fv : t1 ∉ fv := fun h => (hfv t1 h).2.2.2 (by simp)
  have t2fv : t2 ∉ fv := fun h => (hfv t2 h).2.2.2 (by simp)
  refine outer_rule (fun n s' => ∃ i rs, i ≤ items.length ∧ n = items.length - i ∧ St i s'.heap ∧ CompSt csc cenv H s₁ D rs s' ∧ rs.length ≤ 1000 * i ∧ compGo2 (compB2 Φ elt t1 t2 i2m st) (items.drop i) fun rest => Q (rs ++ rest)) (folded_ok (mIt_notSet hmI2)) ?_ items.length
    ⟨0, [], Nat.zero_le _, rfl, h0, hst, Nat.le_refl _, by simpa using q⟩
  rintro n s' ⟨i, rs, hi, rfl, hSt, hC, hrs, q⟩ E
  by_cases hlt : i < items.length
  · refine W.item i s' _ _ hlt hSt fun v h' tk hv hSt' hk => ?_
    have hC' := hC.next C (tk := tk) (hnq i _ hSt) hk
    refine hgo (i + 1) _ _ _ _ _ hSt' ?_
    rw [List.drop_eq_getElem_cons hlt] at q
    have V := cvarsX (S.eo) C.eo hms S.va hfr hC'.ext.1 (C.z hC'.ext)
    have rv : Rd (Zof h' (hideD H D)) v items[i] := (hP i v hv hlt).move (C.z hC'.ext)
    refine any_elim hTg1 ?_; clear hTg1; rintro ⟨xn, pn, rfl⟩ hTg1
    simp only [beq_iff_eq] at hTg1
    subst hTg1
    refine wpAny_assign_Name (store_ok C.eo hC'.fr (kLoc_inv (hkl t1 (by simp))) fun s3 F3 hv3 ho3 e3 => ?_)
    have hC3 := hC'.store C F3 e3
    have sq3 := hC'.fr.seq e3
    have hSt3 : St (i + 1) s3.heap := walk_store C W hC'.ext hSt' fun b o hb e => e3.1 b o (fun qo => by
      rcases hb with rfl | ⟨o', e'⟩
      · exact (C.own _ qo).2.1 rfl
      · rw [(C.own _ qo).1] at e'; cases e') e
    have V3 : VarsX cenv nm (t1 :: fv) (hideD H D) (st.set t1 (.sh items[i])) s₁ s3.heap := by
      intro j sl hj hsl hu
      by_cases e : j = t1
      · subst e
        rw [List.getElem?_set] at hsl
        split at hsl
        · split at hsl
          · cases hsl; exact ⟨v, hv3, rv.move sq3.z, fun a _ ho => by obtain ⟨ds, h | h⟩ := ho <;> cases h⟩
          · cases hsl
        · rename_i h; exact absurd rfl h
      · have hj' : j ∈ fv := (List.mem_cons.mp hj).resolve_left e
        rw [List.getElem?_set_ne (Ne.symm e)] at hsl
        obtain ⟨u, h1, h2, h3⟩ := V j sl hj' hsl hu
        exact ⟨u, ho3 _ _ (fun q => e (inj t1 (by simp) j (by simp [hj']) q)) h1, h2.seq sq3 sq3.z, h3⟩
    have S3 : Sit base nm csc cenv A (t1 :: fv) (hideD H D) (st.set t1 (.sh items[i])) s3 := ⟨C.eo, S.ao, stays_trans S.ba hC3.ext.1, C.hid hC3, V3.vars, hC3.fr.cs⟩
    have q : wpIt Φ i2m (st.set t1 (.sh items[i])) fun items2 => items2.length ≤ 1000 ∧ compGo (fun d2 K2 => wpE Φ elt ((st.set t1 (.sh items[i])).set t2 (.sh d2)) fun v => K2 (some v)) items2
      fun r => compGo2 (compB2 Φ elt t1 t2 i2m st) (items.drop (i + 1)) fun rs0 => Q (rs ++ (r ++ rs0)) := q
    refine hI2 _ _ _ _ _ _ _ _ _ _ _ _ hmI2 S3 (fun h => by cases h) q fun I' sa sb items2 q2 hlen2 ea eb hI' hI'' hIter => ?_
    obtain ⟨fp', Pp', St', W', hst0', hfp', hP', hgo', hnq'⟩ := hIter
    obtain ⟨hl2, q2⟩ := q2
    have hCa := hC3.grow ea
    have hCb := hCa.grow eb
    have lt' : ∀ a o, sa.heap.get? a = some o → a ≠ I' := fun a o e => Nat.ne_of_lt (Nat.lt_of_lt_of_le (Heap.lt_size e) hI')
    obtain ⟨oI, hoI, _⟩ := hnq (i + 1) _ hSt3
    have C' : CompAt csc cenv H s₁ I' D [] := by
      refine ⟨C.eo, C.hiH, ?_, C.dNew, ?_, fun a ha => ⟨(C.own a ha).1, ?_, (C.own a ha).2.2⟩, fun y c hc => ⟨?_, (C.cells y c hc).2⟩, fun b hb => nomatch hb⟩
      · cases h : s₁.heap.get? I' with
        | none => rfl
        | some o => exact absurd rfl (lt' I' o (hCa.ext.1 _ _ h))
      · obtain ⟨rsv, ⟨n, e⟩, _⟩ := hCa.acc; exact lt' _ _ e
      · rcases ha with rfl | ⟨y, _, hy⟩
        · obtain ⟨m, o, _, _, e, _⟩ := hCa.fr.ns; exact lt' _ _ e
        · obtain ⟨u, o, e, _⟩ := hCa.fr.cs y a hy; exact lt' _ _ e
      · obtain ⟨u, o, e, _⟩ := hCa.fr.cs y c hc; exact lt' _ _ e
    have hSt'0 : St' 0 sb.heap := hst0'
    have eab := ea.trans eb
    have VXb : VarsX cenv nm (t1 :: fv) (hideD H D) (st.set t1 (.sh items[i])) s₁ sb.heap := fun j sl hj hsl hu => by
      obtain ⟨u, h1, h2, h3⟩ := V3 j sl hj hsl hu
      exact ⟨u, h1.ext eab.1, h2.move eab.1 (Zof.ext eab.1), h3⟩
    have loop : codeAny (model prog w) A (.compLoop (.ListComp x [⟨.Name (nm t1) pn, i1, [], 0⟩, ⟨p2, i2, [], 0⟩] csc pos) 1 (.ref I') (.ref D) cenv) (fun r s₆ => r = .ok .next ∧ ∃ m, m < items.length - i ∧ ∃ i rs, i ≤ items.length ∧ m = items.length - i ∧ St i s₆.heap ∧ CompSt csc cenv H s₁ D rs s₆ ∧ rs.length ≤ 1000 * i ∧ compGo2 (compB2 Φ elt t1 t2 i2m st) (items.drop i) fun rest => Q (rs ++ rest)) sb := by
      refine inner_loop (J := I) (vis := t1 :: fv) hElt hTg2 (hkl t2 (by simp)) (fun j hj hn => inj t2 (by simp) j (by simp at hj ⊢; rcases hj with h | h | h <;> simp [h]) hn) (by simp [Ne.symm t12, t2fv]) hmE S.ao S.ba C' (Ne.symm (lt' I oI (ea.1 _ _ hoI))) (fun a ha => (C.own a ha).2.1) (fun y c hc => (C.cells y c hc).1) C.iD
        (fun b hb hne => let ⟨o, e, h1, h2⟩ := hfp' b hb hne; ⟨o, e, h1, h2 hno⟩) W' hP' hgo' hnq' hl2 (by omega) q2 hSt'0 hCb VXb (fun b o hq z => Zof.ext eb.1 b o hq z) fun rsi s6 q6 hrsi hC6 hJ6 => ⟨rfl, items.length - (i + 1), by omega, i + 1, rs ++ rsi, hlt, rfl, ?_, hC6, ?_, ?_⟩
      · have hStb : St (i + 1) sb.heap := walk_store C W hC3.ext hSt3 fun b o _ e => eab.1 b o e
        refine W.frame _ _ _ hStb fun b hb o e => ?_
        by_cases qb : b = I
        · subst qb; exact hJ6 o e
        · obtain ⟨o', e'⟩ := C.fp b hb qb
          have h1 := hCb.ext.1 b o' e'
          rw [e] at h1; cases h1
          exact hC6.ext.1 b o e'
      · rw [List.length_append]; omega
      · have e : (fun rest => Q (rs ++ rsi ++ rest)) = fun rest => Q (rs ++ (rsi ++ rest)) := by funext rest; rw [List.append_assoc]
        rw [e]; exact q6
    exact innerStart_rule loop fun E => W'.self 0 sb _ _ hSt'0 loop
  · have hie : i = items.length := by omega
    subst hie
    refine W.done s' _ _ hSt fun h' tk hk => ?_
    rw [List.drop_of_length_le (Nat.le_refl _)] at q
    have q : Q (rs ++ []) := q
    rw [List.append_nil] at q
    exact k rs _ q (by omega) (hC.next C (hnq _ _ hSt) hk)

theorem comp2_run {elt : ME} {t1 t2 : Nat} {i1m i2m : It} {cl : Bool} {csc sc : Scope} {env : Env} {vis fv : List Nat} {x p1 i1 p2 i2 : PySem.Expr} {pos : Pos} {A : Around} {H : Hid} {st : St} {s : Shared} {Q : Mine.D → Prop}
    {E : Value → Shared → Prop} {RR : Value → Addr → Result → Shared → Prop}
    (hI1 : SIt prog w base fa Φ nm i1m) (hElt : SE prog w base fa Φ nm elt) (hI2 : SIt prog w base fa Φ nm i2m) (hmI1 : mIt nm cl sc vis i1m i1 = true) (hTg1 : mTgt nm (.one t1) p1 = true) (hTg2 : mTgt nm (.one t2) p2 = true) (hms : mScope nm sc csc vis [t1, t2] fv = true)
    (hmI2 : mIt nm false csc (t1 :: fv) i2m i2 = true) (hno : notOfV i2m = true) (hmE : mE nm false csc (t2 :: t1 :: fv) elt x = true)
    (S : Sit base nm sc env A vis H st s) (hc : cl = true → CallOk prog w base fa Φ A) (q : wpE Φ (.comp2 elt t1 i1m t2 i2m fv) st Q)
    (hRR : ∀ D C s' rs, Q (.list rs) → Rd (Zof s'.heap H) (.ref D) (.list rs) → Ext s s' → s.heap.get? C = none → s.heap.get? D = none → (∃ m, s'.heap.Ns C m) → RR (.ref D) C (.ok .next) s') :
    wpAny (model prog w) A (eval i1 env) (fun xv s₁ => wpAny (model prog w) A (pyIter xv) (fun it s₂ => wpAny (model prog w) A (newList []) (fun acc s₃ =>
      wpAny (model prog w) A (newFunctionEnv csc env.globals (closAcc env csc.names []) [] env.qual none .none (some env)) (fun cenv s₄ =>
        codeAny (model prog w) A (.compStart (.ListComp x [⟨p1, i1, [], 0⟩, ⟨p2, i2, [], 0⟩] csc pos) 0 it acc { cenv with scope := relabel csc env }) (RR acc cenv.locals) s₄) E s₃) E s₂) E s₁) E s := by
  rw [yI] at q
  obtain ⟨hkind, hnd, _, hkl, hfv, hcov⟩ := mScope_inv hms
  refine hI1 _ _ _ _ _ _ _ _ _ _ _ _ hmI1 S hc q fun I s₁ s₂ items q₁ hlen e1 e2 hI hI' hIter => ?_
  obtain ⟨fp, Pp, St, W, hst0, hfp, hP, hgo, hnq⟩ := hIter
  obtain ⟨hlen, q₁⟩ := q₁
  have S1 := S.ext e1
  refine wpAny_newList ?_ (by decide)
  have e3 : Ext s₂ { s₂ with heap := s₂.heap.push { cls := .type "list", data := .seq ([] : List Value).toArray } } := Ext.push (tk := s₂.toks)
  have hsz : ({ s₂ with heap := s₂.heap.push { cls := .type "list", data := .seq ([] : List Value).toArray } } : Shared).heap.objs.size = s₂.heap.objs.size + 1 := Heap.size_push ..
  refine newEnv_ok S.eo ((S1.ext e2).ext e3).cs hkind hnd (cfree S.eo hms) fun s₄ eo' fr' hfr hown e4 => ?_
  rw [hsz] at eo' fr' hfr hown ⊢
  have C : CompAt csc (cenvOf csc env (s₂.heap.objs.size + 1)) H s₁ I s₂.heap.objs.size fp := compAt_of S1 e2 hI hI' hfp eo' hown fun x c hc => by
    by_cases hx : csc.names.lookup x = some .cell
    · exact .inl (.inr ⟨x, hx, hc⟩)
    · refine .inr ?_
      have hc2 : (cellsFrom (s₂.heap.objs.size + 1 + 1) csc.names (closAcc env csc.names [])).lookup x = some c := hc
      rw [cellsFrom_append, lookup_append, cellsFrom_none] at hc2
      · exact closAcc_mem (cfree S.eo hms) (lookup_mem hc2)
      · rintro ⟨y, ky⟩ hy hk rfl
        simp only at hk; subst hk
        exact hx (mem_lookup hnd hy)
  have e34 := (e2.trans e3).trans e4
  have hSt4 : St 0 s₄.heap := W.frame 0 _ _ hst0 fun b _ o e => (e3.trans e4).1 b o e
  have hC4 : CompSt csc (cenvOf csc env (s₂.heap.objs.size + 1)) H s₁ s₂.heap.objs.size [] s₄ :=
    ⟨e34, fr', #[], plain_keeps (push_list s₂.heap []) e4.1, .nil⟩
  have loop : codeAny (model prog w) A (.compLoop (.ListComp x [⟨p1, i1, [], 0⟩, ⟨p2, i2, [], 0⟩] csc pos) 0 (.ref I) (.ref s₂.heap.objs.size) (cenvOf csc env (s₂.heap.objs.size + 1))) (RR (.ref s₂.heap.objs.size) (s₂.heap.objs.size + 1)) s₄ :=
    comp2_loop hElt hI2 hTg1 hTg2 hms hmI2 hno hmE S1 C hfr W hP hgo hnq hlen q₁ hSt4 hC4 fun rs s' q' hrs hC' => by
      obtain ⟨r1, r2, r3, r5, r4⟩ := comp_end C hC' hrs e1
      exact hRR _ _ s' rs q' r1 r2 r3 r5 r4
  exact codeAny_compStart_list loop (W.self 0 s₄ _ _ hSt4 loop)

theorem se_comp2 {elt : ME} {t1 t2 : Nat} {i1m i2m : It} {fv : List Nat} (hI1 : SIt prog w base fa Φ nm i1m) (hElt : SE prog w base fa Φ nm elt) (hI2 : SIt prog w base fa Φ nm i2m) : SE prog w base fa Φ nm (.comp2 elt t1 i1m t2 i2m fv) := by
  intro cl sc vis e env A H st s Q P E hm S hc q k
  · refine any_elim hm ?_; clear hm; rintro ⟨x, g, g2, csc, pos, rfl⟩ hm
    obtain ⟨p1, i1, ifs, as⟩ := g
    obtain ⟨p2, i2, ifs2, as2⟩ := g2
    simp only [Bool.and_eq_true, beq_iff_eq, List.isEmpty_iff] at hm
    obtain ⟨⟨⟨⟨⟨⟨⟨⟨⟨⟨rfl, rfl⟩, rfl⟩, rfl⟩, hm1⟩, hm2⟩, hm3⟩, hm4⟩, hm5⟩, hno⟩, hm6⟩ := hm
    rw [eval_ListComp']
    refine wpAny_comprehension_free (use := none) rfl (folded_ok (mIt_notSet hm1)) (closureFor_eq (cfree S.eo hm4)) (mScope_inv hm4).1 (comp_names hm4) ?_
    refine comp2_run hI1 hElt hI2 hm1 hm2 hm3 hm4 hm5 hno hm6 S hc q fun D C s' rs q' r e hC _ hN => ?_
    obtain ⟨m, hN⟩ := hN
    refine ⟨m, hN, fun h' hs => ?_⟩
    have sq : SeqStays s'.heap h' := fun a o q e => (hs.2 a (fun h => by subst h; exact ns_notSeq hN e q)).trans e
    exact k _ _ _ q' (r.move sq.z) ⟨fun b o eb => (hs.2 b (fun h => by subst h; rw [hC] at eb; cases eb)).trans (e.1 b o eb), e.2.1, e.2.2⟩
end
end
section
open PySem PySem.Calls PySem.Spec PyProof.Rows

/-- the rule for `sorted` on pairs of ints -/
noncomputable def SortP (prog : Program) (w : World) : Prop := ∀ (A : Around) (E : Value → Shared → Prop) (s : Shared) (H : Hid) (P : Value → Shared → Prop) (v : Value) (d : D) (Q : D → Prop), AOk 0 A → HidIn H s.heap → Rd (Zof s.heap H) v d → sortedPD d Q → Kn s H Q P →
  wpAny (model prog w) A (call (.builtin "sorted") [v]) P E s

section
variable {prog : Program} {w : World} {base : Heap} {fa : Nat → Addr} {Φ : Funs} {nm : Nat → Str}

theorem se_sortedP {a : ME} (hsp : SortP prog w) (G : Ground base fa fname) (ha : SE prog w base fa Φ nm a) : SE prog w base fa Φ nm (.sortedP a) := by
  intro cl sc vis e env A H st s Q P E hm S hc q k
  · refine any_elim hm ?_; clear hm; rintro ⟨f, z, p, p', rfl⟩ hm
    simp only [isFn, Bool.and_eq_true, beq_iff_eq, Bool.not_eq_true'] at hm
    obtain ⟨⟨⟨rfl, hg⟩, hm⟩, hs⟩ := hm
    rw [yA] at q
    refine call1 (x := Str.ofString "sorted") G S hg hs (by decide +kernel) bb_sorted (by decide +kernel) (by decide +kernel) (.inl ⟨_, rfl⟩) (ha _ _ _ _ _ _ _ _ _ _ _ _ hm S hc q fun v s₁ d q₁ r e₁ => ?_)
    exact hsp _ _ _ _ _ _ _ _ S.ao (S.ext e₁).hi r q₁ (Kn.ext k e₁)
theorem se_false {me : ME} (h : ∀ st Q, wpE Φ me st Q = False) : SE prog w base fa Φ nm me := by
  intro cl sc vis e env A H st s Q P E hm S hc q k
  rw [h] at q; exact q.elim
theorem st_no {me : ME} (h : okT me = false) : ST prog w base fa Φ nm me := by
  intro cl sc vis e env A H st s Q P E hm ht
  rw [h] at ht; cases ht

noncomputable def isOr : ME → Bool
  | .or _ _ => true
  | _ => false
noncomputable def OrP (prog : Program) (w : World) (base : Heap) (fa : Nat → Addr) (Φ : Funs) (nm : Nat → Str) (me : ME) : Prop := ∀ c d, me = .or c d → ST prog w base fa Φ nm c ∧ ST prog w base fa Φ nm d
theorem orp_no {me : ME} (h : isOr me = false) : OrP prog w base fa Φ nm me := fun c d e => by subst e; cases h
theorem orp_or {a b : ME} (ha : ST prog w base fa Φ nm a) (hb : ST prog w base fa Φ nm b) : OrP prog w base fa Φ nm (.or a b) := fun c d e => by cases e; exact ⟨ha, hb⟩
mutual
theorem allE3 (hsp : SortP prog w) (G : Ground base fa fname) : ∀ me : ME, SE prog w base fa Φ nm me ∧ ST prog w base fa Φ nm me ∧ OrP prog w base fa Φ nm me
  | .var i => ⟨se_var i, st_var i, orp_no rfl⟩
  | .none => ⟨se_none, st_no rfl, orp_no rfl⟩
  | .bool b => ⟨se_bool b, st_bool b, orp_no rfl⟩
  | .int i => ⟨se_int i, st_no rfl, orp_no rfl⟩
  | .str s => ⟨se_str s, st_no rfl, orp_no rfl⟩
  | .tup es => ⟨se_tup (allEs hsp G es), st_no rfl, orp_no rfl⟩
  | .lst es => ⟨se_lst (allEs hsp G es), st_no rfl, orp_no rfl⟩
  | .sub a i => ⟨se_sub (allE3 hsp G a).1 (allE3 hsp G i).1, st_sub (allE3 hsp G a).1 (allE3 hsp G i).1, orp_no rfl⟩
  | .subv x i => ⟨se_subv (allE3 hsp G i).1, st_subv (allE3 hsp G i).1, orp_no rfl⟩
  | .sliceTo a hi => ⟨se_sliceTo (allE3 hsp G a).1 (allE3 hsp G hi).1, st_no rfl, orp_no rfl⟩
  | .sliceFrom a lo => ⟨se_sliceFrom (allE3 hsp G a).1 (allE3 hsp G lo).1, st_no rfl, orp_no rfl⟩
  | .sliceBoth a lo hi => ⟨se_sliceBoth (allE3 hsp G a).1 (allE3 hsp G lo).1 (allE3 hsp G hi).1, st_no rfl, orp_no rfl⟩
  | .rev a => ⟨se_rev (allE3 hsp G a).1, st_no rfl, orp_no rfl⟩
  | .bin op a b => ⟨se_bin (allE3 hsp G a).1 (allE3 hsp G b).1, st_no rfl, orp_no rfl⟩
  | .cmp op a b => ⟨se_cmp (allE3 hsp G a).1 (allE3 hsp G b).1, st_cmp (allE3 hsp G a).1 (allE3 hsp G b).1, orp_no rfl⟩
  | .isNone a neg => ⟨se_isNone (allE3 hsp G a).1, st_isNone (allE3 hsp G a).1, orp_no rfl⟩
  | .typeIs a t => ⟨se_typeIs G (allE3 hsp G a).1, st_typeIs G (allE3 hsp G a).1, orp_no rfl⟩
  | .ite c a b => ⟨se_ite (allE3 hsp G c).2.1 (allE3 hsp G a).1 (allE3 hsp G b).1, st_no rfl, orp_no rfl⟩
  | .not a => ⟨se_false fun _ _ => rfl, st_not (allE3 hsp G a).2.1, orp_no rfl⟩
  | .and a b => ⟨se_false fun _ _ => rfl, st_and (allE3 hsp G a).2.1 (allE3 hsp G b).2.1, orp_no rfl⟩
  | .or a b => ⟨se_false fun _ _ => rfl, st_or (allE3 hsp G a).2.1 (allE3 hsp G b).2.1 (allE3 hsp G b).2.2, orp_or (allE3 hsp G a).2.1 (allE3 hsp G b).2.1⟩
  | .len a => ⟨se_len G (allE3 hsp G a).1, st_no rfl, orp_no rfl⟩
  | .lenv x => ⟨se_lenv G, st_no rfl, orp_no rfl⟩
  | .min a b => ⟨se_min G (allE3 hsp G a).1 (allE3 hsp G b).1, st_no rfl, orp_no rfl⟩
  | .max a b => ⟨se_max G (allE3 hsp G a).1 (allE3 hsp G b).1, st_no rfl, orp_no rfl⟩
  | .sum a => ⟨se_sum G (allE3 hsp G a).1, st_no rfl, orp_no rfl⟩
  | .sortedI a => ⟨se_sortedI G (allE3 hsp G a).1, st_no rfl, orp_no rfl⟩
  | .sortedP a => ⟨se_sortedP hsp G (allE3 hsp G a).1, st_no rfl, orp_no rfl⟩
  | .listOf a => ⟨se_listOf G (allE3 hsp G a).1, st_no rfl, orp_no rfl⟩
  | .listRange a => ⟨se_listRange G (allE3 hsp G a).1, st_no rfl, orp_no rfl⟩
  | .setLen a => ⟨se_setLen G (allE3 hsp G a).1, st_no rfl, orp_no rfl⟩
  | .all a => ⟨se_all G (allE3 hsp G a).1, st_no rfl, orp_no rfl⟩
  | .count a b => ⟨se_count (allE3 hsp G b).1, st_no rfl, orp_no rfl⟩
  | .call f es => ⟨se_call G (allEs hsp G es), st_call G (allEs hsp G es), orp_no rfl⟩
  | .comp elt tg it cond fv => ⟨se_comp (allIt hsp G it) (allE3 hsp G elt).1 (allE3 hsp G cond).2.1, st_no rfl, orp_no rfl⟩
  | .comp2 elt t1 i1 t2 i2 fv => ⟨se_comp2 (allIt hsp G i1) (allE3 hsp G elt).1 (allIt hsp G i2), st_no rfl, orp_no rfl⟩
theorem allEs (hsp : SortP prog w) (G : Ground base fa fname) : ∀ es : MEs, SEs prog w base fa Φ nm es
  | .nil => ses_nil
  | .cons e es => ses_cons (allE3 hsp G e).1 (allEs hsp G es)
theorem allIt (hsp : SortP prog w) (G : Ground base fa fname) : ∀ it : It, SIt prog w base fa Φ nm it
  | .range lo hi => sit_range G (allE3 hsp G lo).1 (allE3 hsp G hi).1
  | .range0 hi => sit_range0 G (allE3 hsp G hi).1
  | .ofE e => sit_ofE (allE3 hsp G e).1
  | .ofV x => sit_ofV
end
theorem allE (hsp : SortP prog w) (G : Ground base fa fname) (me : ME) : SE prog w base fa Φ nm me ∧ ST prog w base fa Φ nm me := ⟨(allE3 hsp G me).1, (allE3 hsp G me).2.1⟩
end
end
section
open PySem PySem.Calls PySem.Spec PyProof.Rows

abbrev Own := Nat → List Addr
noncomputable def Hof (hid : Hid) (own : Own) : Hid := fun a => hid a ∨ ∃ i, a ∈ own i
/-- the lists within a list of lists -/
noncomputable def Inner (h : Heap) (H : Hid) (bs : List Addr) (dss : List (List D)) : Prop := bs.length = dss.length ∧ ∀ (k : Nat) (b : Addr) (ds : List D), bs[k]? = some b → dss[k]? = some ds → ∃ items, h.PlainList b items ∧ items.size ≤ sizeLine ∧ RdAll (Zof h H) items.toList ds
/-- what a slot says of a value, with the addresses that it owns -/
noncomputable def SlotR (h : Heap) (H : Hid) (as : List Addr) (la : Option Addr) (v : Value) : Slot → Prop
  | .undef => True
  | .sh d => Rd (Zof h H) v d
  | .own1 ds => ∃ a items, as = [a] ∧ v = .ref a ∧ h.PlainList a items ∧ items.size ≤ sizeLine ∧ RdAll (Zof h H) items.toList ds
  | .own2 dss => ∃ a bs, as = a :: bs ∧ v = .ref a ∧ h.PlainList a (bs.map Value.ref).toArray ∧ bs.length ≤ sizeLine ∧ Inner h H bs dss
  | .lent ds => ∃ a items, la = some a ∧ v = .ref a ∧ h.PlainList a items ∧ items.size ≤ sizeLine ∧ RdAll (Zof h H) items.toList ds
theorem SlotR.slotV {h : Heap} {H : Hid} {as : List Addr} {la : Option Addr} {v : Value} {sl : Slot} (x : SlotR h H as la v sl) : SlotV h H v sl := by
  cases sl with
  | undef => trivial
  | sh d => exact x
  | own1 ds => obtain ⟨a, items, _, e, r⟩ := x; exact ⟨a, items, e, r⟩
  | own2 => trivial
  | lent ds => obtain ⟨a, items, _, e, r⟩ := x; exact ⟨a, items, e, r⟩
/-- the sequences that the slot reads are kept -/
theorem SlotR.move {h h' : Heap} {H H' : Hid} {as : List Addr} {la : Option Addr} {v : Value} {sl : Slot} (x : SlotR h H as la v sl) (k : ∀ a o, isSeq o → (a ∈ as ∨ la = some a) → h.get? a = some o → h'.get? a = some o)
    (hz : ∀ a o, isSeq o → Zof h H a o → Zof h' H' a o) : SlotR h' H' as la v sl := by
  have pl : ∀ {a : Addr} {items : Array Value}, (a ∈ as ∨ la = some a) → h.PlainList a items → h'.PlainList a items := fun ha ⟨n, e⟩ => ⟨n, k _ _ ⟨_, _, rfl⟩ ha e⟩
  cases sl with
  | undef => trivial
  | sh d => exact Rd.move hz x
  | own1 ds => obtain ⟨a, items, e1, e2, hl, hn, r⟩ := x; exact ⟨a, items, e1, e2, pl (.inl (by rw [e1]; simp)) hl, hn, r.move hz⟩
  | own2 dss =>
    obtain ⟨a, bs, e1, e2, hl, hn, he, hin⟩ := x
    refine ⟨a, bs, e1, e2, pl (.inl (by rw [e1]; simp)) hl, hn, he, fun k b ds hb hd => ?_⟩
    obtain ⟨items, h1, h2, h3⟩ := hin k b ds hb hd
    exact ⟨items, pl (.inl (by rw [e1]; exact List.mem_cons_of_mem _ (List.mem_of_getElem? hb))) h1, h2, h3.move hz⟩
  | lent ds => obtain ⟨a, items, e1, e2, hl, hn, r⟩ := x; exact ⟨a, items, e1, e2, pl (.inr e1) hl, hn, r.move hz⟩

structure Rel (base : Heap) (nm : Nat → Str) (sc : Scope) (env : Env) (vis : List Nat) (an : Shared) (exc : Addr → Prop) (hid : Hid) (la : Option Addr) (st : St) (own : Own) (s : Shared) : Prop where
  fr : FrOk sc env s.heap
  ba : base.StaysIn s.heap
  hi : HidIn hid s.heap
  lent : ∀ a, la = some a → hid a ∧ exc a ∧ base.get? a = none
  ownIn : ∀ i a, a ∈ own i → (∃ o, s.heap.get? a = some o ∧ isSeq o) ∧ ¬ hid a ∧ base.get? a = none ∧ (exc a ∨ an.heap.get? a = none)
  apart : ∀ i j a, a ∈ own i → a ∈ own j → i = j
  nod : ∀ i, (own i).Nodup
  frIn : ∀ a, OwnA sc env a → base.get? a = none ∧ (exc a ∨ an.heap.get? a = none) ∧ ¬ hid a
  keep : ∀ a o, an.heap.get? a = some o → ¬ exc a → s.heap.get? a = some o
  gens : s.gens = an.gens
  os : s.os = an.os
  slots : ∀ i sl, i ∈ vis → st[i]? = some sl → sl ≠ .undef → ∃ v, VarAt env s.heap (nm i) v ∧ SlotR s.heap (Hof hid own) (own i) la v sl
  len : ∀ i ∈ vis, i < st.length
  oneL : ∀ (i j : Nat) (ds ds' : List D), st[i]? = some (Slot.lent ds) → st[j]? = some (Slot.lent ds') → i = j
  dead : ∀ i, own i ≠ [] → i ∈ vis ∧ ((∃ ds, st[i]? = some (.own1 ds)) ∨ ∃ dss, st[i]? = some (.own2 dss))

section
variable {base : Heap} {nm : Nat → Str} {sc : Scope} {env : Env} {vis : List Nat} {an : Shared} {exc : Addr → Prop} {hid : Hid} {la : Option Addr} {st : St} {own : Own} {s s' : Shared}
theorem Rel.hidIn (R : Rel base nm sc env vis an exc hid la st own s) : HidIn (Hof hid own) s.heap := by
  rintro a (h | ⟨i, h⟩)
  · exact R.hi a h
  · obtain ⟨⟨o, e, _⟩, _⟩ := R.ownIn i a h; exact ⟨o, e⟩
theorem Rel.vars (R : Rel base nm sc env vis an exc hid la st own s) : Vars env nm vis (Hof hid own) st s.heap := fun i sl hi hs hu => let ⟨v, h1, h2⟩ := R.slots i sl hi hs hu; ⟨v, h1, h2.slotV⟩
theorem Rel.sit {A : Around} (R : Rel base nm sc env vis an exc hid la st own s) (eo : EnvOk sc env) (ao : AOk 0 A) : Sit base nm sc env A vis (Hof hid own) st s := ⟨eo, ao, R.ba, R.hidIn, R.vars, R.fr.cs⟩
theorem Rel.ext (R : Rel base nm sc env vis an exc hid la st own s) (e : Ext s s') : Rel base nm sc env vis an exc hid la st own s' :=
  ⟨R.fr.ext e.1, stays_trans R.ba e.1, R.hi.ext e.1, R.lent, fun i a h => let ⟨⟨o, ho, hq⟩, r⟩ := R.ownIn i a h; ⟨⟨o, e.1 a o ho, hq⟩, r⟩, R.apart, R.nod, R.frIn, fun a o h1 h2 => e.1 a o (R.keep a o h1 h2), e.2.1.trans R.gens, e.2.2.trans R.os,
    fun i sl a b c => let ⟨v, h1, h2⟩ := R.slots i sl a b c; ⟨v, h1.ext e.1, h2.move (fun a o _ _ h => e.1 a o h) (Zof.ext e.1)⟩, R.len, R.oneL, R.dead⟩

noncomputable def updO (own : Own) (i : Nat) (as : List Addr) : Own := fun j => if j = i then as else own j
theorem updO_same {own : Own} {i : Nat} {as : List Addr} : updO own i as i = as := by simp [updO]
theorem updO_other {own : Own} {i j : Nat} {as : List Addr} (h : j ≠ i) : updO own i as j = own j := by simp [updO, h]

/-- a store into a variable; the slot may take on addresses, the hidden ones may become fewer -/
theorem Rel.put {hid₁ : Hid} {i : Nat} {v : Value} {sl : Slot} {as : List Addr} (R : Rel base nm sc env vis an exc hid₁ la st own s) (hi : i ∈ vis) (inj : ∀ j ∈ vis, nm j = nm i → j = i)
    (F' : FrOk sc env s'.heap) (hv : VarAt env s'.heap (nm i) v) (ho : ∀ y u, y ≠ nm i → VarAt env s.heap y u → VarAt env s'.heap y u) {O : Addr → Prop} (e : ExtO O s s') (hO : ∀ a, O a → base.get? a = none ∧ (exc a ∨ an.heap.get? a = none) ∧ ¬ hid₁ a ∧ ∀ o, s.heap.get? a = some o → ¬ isSeq o)
    (hh : ∀ b, hid b → hid₁ b) (hl : ∀ a, la = some a → hid a) (hsub : ∀ b, b ∈ as → Hof hid₁ own b)
    (has : ∀ a ∈ as, (∃ o, s.heap.get? a = some o ∧ isSeq o) ∧ ¬ hid a ∧ base.get? a = none ∧ (exc a ∨ an.heap.get? a = none) ∧ ∀ j, j ≠ i → a ∉ own j) (hnod : as.Nodup)
    (hsl : SlotR s'.heap (Hof hid (updO own i as)) as la v sl) (hd : as ≠ [] → (∃ ds, sl = .own1 ds) ∨ ∃ dss, sl = .own2 dss) (hnl : ∀ ds, sl ≠ .lent ds) : Rel base nm sc env vis an exc hid la (st.set i sl) (updO own i as) s' := by
  have sq : SeqStays s.heap s'.heap := fun a o q h => e.1 a o (fun n => (hO a n).2.2.2 o h q) h
  have hsubH : ∀ b, Hof hid (updO own i as) b → Hof hid₁ own b := by
    rintro b (h | ⟨j, h⟩)
    · exact .inl (hh b h)
    · by_cases q : j = i
      · subst q; rw [updO_same] at h; exact hsub b h
      · rw [updO_other q] at h; exact .inr ⟨j, h⟩
  have hz : ∀ a o, isSeq o → Zof s.heap (Hof hid₁ own) a o → Zof s'.heap (Hof hid (updO own i as)) a o := fun a o q z => ⟨sq a o q z.1, fun h => z.2 (hsubH a h)⟩
  have ownE : ∀ j a, a ∈ updO own i as j → (∃ o, s.heap.get? a = some o ∧ isSeq o) ∧ ¬ hid a ∧ base.get? a = none ∧ (exc a ∨ an.heap.get? a = none) := fun j a h => by
    by_cases q : j = i
    · subst q; rw [updO_same] at h; obtain ⟨h1, h2, h3, h4, _⟩ := has a h; exact ⟨h1, h2, h3, h4⟩
    · rw [updO_other q] at h; obtain ⟨h1, h2, h3, h4⟩ := R.ownIn j a h; exact ⟨h1, fun q => h2 (hh a q), h3, h4⟩
  refine ⟨F', fun a o h => e.1 a o (fun q => ?_) (R.ba a o h), fun a h => ?_, fun a h => ⟨hl a h, (R.lent a h).2⟩, fun j a h => ?_, fun j l a h1 h2 => ?_, fun j => ?_, fun a h => ?_, fun a o h1 h2 => e.1 a o (fun q => ?_) (R.keep a o h1 h2), e.2.1.trans R.gens, e.2.2.trans R.os, fun j sl' hj hs hu => ?_, fun j hj => by rw [List.length_set]; exact R.len j hj, fun j l ds ds' h1 h2 => ?_, fun j hj => ?_⟩
  · rw [(hO a q).1] at h; cases h
  · obtain ⟨o, ho'⟩ := R.hi a (hh a h)
    exact ⟨o, e.1 a o (fun q => (hO a q).2.2.1 (hh a h)) ho'⟩
  · obtain ⟨⟨o, h1, h2⟩, r⟩ := ownE j a h
    exact ⟨⟨o, sq a o h2 h1, h2⟩, r⟩
  · by_cases q1 : j = i <;> by_cases q2 : l = i
    · rw [q1, q2]
    · subst q1; rw [updO_same] at h1; rw [updO_other q2] at h2; exact absurd h2 ((has a h1).2.2.2.2 l q2)
    · subst q2; rw [updO_same] at h2; rw [updO_other q1] at h1; exact absurd h1 ((has a h2).2.2.2.2 j q1)
    · rw [updO_other q1] at h1; rw [updO_other q2] at h2; exact R.apart j l a h1 h2
  · by_cases q : j = i
    · subst q; rw [updO_same]; exact hnod
    · rw [updO_other q]; exact R.nod j
  · obtain ⟨h1, h2, h3⟩ := R.frIn a h; exact ⟨h1, h2, fun q => h3 (hh a q)⟩
  · rcases (hO a q).2.1 with h | h
    · exact h2 h
    · rw [h] at h1; cases h1
  · by_cases q : j = i
    · subst q
      rw [List.getElem?_set, if_pos rfl, if_pos (R.len j hj)] at hs
      cases hs
      rw [updO_same]
      exact ⟨v, hv, hsl⟩
    · rw [List.getElem?_set_ne (Ne.symm q)] at hs
      obtain ⟨u, h1, h2⟩ := R.slots j sl' hj hs hu
      rw [updO_other q]
      exact ⟨u, ho _ _ (fun h => q (inj j hj h)) h1, h2.move (fun a o hq _ h => sq a o hq h) hz⟩
  · have key : ∀ (j : Nat) (ds : List D), (st.set i sl)[j]? = some (Slot.lent ds) → st[j]? = some (Slot.lent ds) := fun j ds h => by
      by_cases q : j = i
      · subst q
        rw [List.getElem?_set, if_pos rfl, if_pos (R.len j hi)] at h
        exact absurd (Option.some.inj h) (hnl ds)
      · rw [List.getElem?_set_ne (Ne.symm q)] at h; exact h
    exact R.oneL j l ds ds' (key _ _ h1) (key _ _ h2)
  · by_cases q : j = i
    · subst q
      rw [updO_same] at hj
      refine ⟨hi, ?_⟩
      rw [List.getElem?_set, if_pos rfl, if_pos (R.len j hi)]
      exact (hd hj).imp (fun ⟨ds, h⟩ => ⟨ds, by rw [h]⟩) (fun ⟨ds, h⟩ => ⟨ds, by rw [h]⟩)
    · rw [updO_other q] at hj
      rw [List.getElem?_set_ne (Ne.symm q)]
      exact R.dead j hj
end
end
section
open PySem PySem.Calls PySem.Spec PyProof.Rows

/-! reading is a function, and a list is not within itself -/
section
variable {Z : Addr → Obj → Prop}
mutual
theorem Rd.same (hZ : ∀ a o o', Z a o → Z a o' → o = o') : ∀ {v : Value} {d d' : D}, Rd Z v d → Rd Z v d' → d = d'
  | _, _, _, .none, h => by cases h; rfl
  | _, _, _, .bool b, h => by cases h; rfl
  | _, _, _, .int i t, h => by cases h; rfl
  | _, _, _, .str x t, h => by cases h; rfl
  | _, _, _, .list h1 hd hn r, h => by
    cases h with
    | list h2 hd' hn' r' =>
      have e := hZ _ _ _ h1 h2
      subst e
      rw [hd] at hd'
      cases hd'
      rw [RdAll.same hZ r r']
    | tuple h2 hc hd' hn' r' =>
      have e := hZ _ _ _ h1 h2
      subst e
      rw [hd] at hc; exact absurd hc (by simp)
  | _, _, _, .tuple h1 hc hd hn r, h => by
    cases h with
    | list h2 hd' hn' r' =>
      have e := hZ _ _ _ h1 h2
      subst e
      rw [hd'] at hc; exact absurd hc (by simp)
    | tuple h2 hc' hd' hn' r' =>
      have e := hZ _ _ _ h1 h2
      subst e
      rw [hd] at hd'
      cases hd'
      rw [RdAll.same hZ r r']
theorem RdAll.same (hZ : ∀ a o o', Z a o → Z a o' → o = o') : ∀ {v : List Value} {d d' : List D}, RdAll Z v d → RdAll Z v d' → d = d'
  | _, _, _, .nil, h => by cases h; rfl
  | _, _, _, .cons a r, h => by
    cases h with
    | cons a' r' => rw [Rd.same hZ a a', RdAll.same hZ r r']
end
mutual
theorem Rd.avoid (hZ : ∀ a o o', Z a o → Z a o' → o = o') {a : Addr} {d₀ : D} (h₀ : Rd Z (.ref a) d₀) : ∀ {v : Value} {d : D}, Rd Z v d → sizeOf d < sizeOf d₀ → Rd (fun b o => Z b o ∧ b ≠ a) v d
  | _, _, .none, _ => .none
  | _, _, .bool b, _ => .bool b
  | _, _, .int i t, _ => .int i t
  | _, _, .str x t, _ => .str x t
  | _, _, .list h1 hd hn r, hs => by
    refine .list ⟨h1, fun q => ?_⟩ hd hn (RdAll.avoid hZ h₀ r (by simp at hs; omega))
    subst q
    have := Rd.same hZ (.list h1 hd hn r) h₀
    rw [this] at hs; omega
  | _, _, .tuple h1 hc hd hn r, hs => by
    refine .tuple ⟨h1, fun q => ?_⟩ hc hd hn (RdAll.avoid hZ h₀ r (by simp at hs; omega))
    subst q
    have := Rd.same hZ (.tuple h1 hc hd hn r) h₀
    rw [this] at hs; omega
theorem RdAll.avoid (hZ : ∀ a o o', Z a o → Z a o' → o = o') {a : Addr} {d₀ : D} (h₀ : Rd Z (.ref a) d₀) : ∀ {v : List Value} {d : List D}, RdAll Z v d → sizeOf d < sizeOf d₀ → RdAll (fun b o => Z b o ∧ b ≠ a) v d
  | _, _, .nil, _ => .nil
  | _, _, .cons x r, hs => .cons (Rd.avoid hZ h₀ x (by simp at hs; omega)) (RdAll.avoid hZ h₀ r (by simp at hs; omega))
end
end
theorem Zof.fun {h : Heap} {H : Hid} : ∀ a o o', Zof h H a o → Zof h H a o' → o = o' := fun a o o' x y => Option.some.inj (x.1.symm.trans y.1)
/-- a list's items do not read the list -/
theorem Rd.items_avoid {h : Heap} {H : Hid} {a : Addr} {ds : List D} (r : Rd (Zof h H) (.ref a) (.list ds)) : ∃ vs, h.PlainList a vs ∧ vs.size ≤ sizeLine ∧ RdAll (Zof h (hideD H a)) vs.toList ds := by
  obtain ⟨a', vs, e, hl, hn, rr⟩ := r.plain
  cases e
  refine ⟨vs, hl, hn, (RdAll.avoid Zof.fun r rr (by simp)).move fun b o _ z => ⟨z.1.1, fun q => ?_⟩⟩
  rcases q with q | q
  · exact z.1.2 q
  · exact z.2 q
end
section
open PySem PySem.Calls PySem.Spec PyProof.Rows

section
variable {base : Heap} {nm : Nat → Str} {sc : Scope} {env : Env} {vis : List Nat} {an : Shared} {exc : Addr → Prop} {hid : Hid} {la : Option Addr} {st : St} {own : Own} {s s' : Shared}

/-- the object at one hidden address is changed -/
theorem Rel.mut {i : Nat} {a : Addr} {v : Value} {sl sl' : Slot} (R : Rel base nm sc env vis an exc hid la st own s) (hi : i ∈ vis) (hs : st[i]? = some sl) (hva : VarAt env s.heap (nm i) v)
    (hH : Hof hid own a) (hb : base.get? a = none) (hx : exc a ∨ an.heap.get? a = none) (hq : ∃ o, s.heap.get? a = some o ∧ isSeq o) (hq' : ∃ o, s'.heap.get? a = some o ∧ isSeq o) (k : ∀ b o, b ≠ a → s.heap.get? b = some o → s'.heap.get? b = some o) (hg : s'.gens = s.gens) (ho : s'.os = s.os)
    (hoth : ∀ j, j ≠ i → a ∉ own j) (hla : la = some a → ∃ ds, sl = .lent ds) (hsl : SlotR s'.heap (Hof hid own) (own i) la v sl') (hd : own i ≠ [] → (∃ ds, sl' = .own1 ds) ∨ ∃ dss, sl' = .own2 dss) (hll : ∀ ds, sl' = .lent ds → ∃ ds', sl = .lent ds') :
    Rel base nm sc env vis an exc hid la (st.set i sl') own s' := by
  obtain ⟨oa, hoa, hqa⟩ := hq
  have fne : ∀ b, (b = env.locals ∨ ∃ x, env.cells.lookup x = some b) → b ≠ a := by
    rintro b h rfl
    rcases h with rfl | ⟨x, hx⟩
    · obtain ⟨m, hm⟩ := R.fr.ns; exact ns_notSeq hm hoa hqa
    · obtain ⟨u, hu⟩ := R.fr.cs x b hx; exact cell_notSeq hu hoa hqa
  have hz : ∀ b o, isSeq o → Zof s.heap (Hof hid own) b o → Zof s'.heap (Hof hid own) b o := fun b o _ z => ⟨k b o (fun q => z.2 (q ▸ hH)) z.1, z.2⟩
  refine ⟨R.fr.keep fun b o hb' e => k b o (fne b hb') e, fun b o e => k b o (fun q => by rw [q, hb] at e; cases e) (R.ba b o e), fun b hb' => ?_, R.lent, fun j b hj => ?_, R.apart, R.nod, R.frIn, fun b o h1 h2 => k b o (fun q => ?_) (R.keep b o h1 h2), hg.trans R.gens, ho.trans R.os,
    fun j sl₁ hj hs₁ hu => ?_, fun j hj => by rw [List.length_set]; exact R.len j hj, fun j l ds ds' h1 h2 => ?_, fun j hj => ?_⟩
  · by_cases q : b = a
    · subst q; obtain ⟨o, e, _⟩ := hq'; exact ⟨o, e⟩
    · obtain ⟨o, e⟩ := R.hi b hb'; exact ⟨o, k b o q e⟩
  · obtain ⟨⟨o, e, hs'⟩, r⟩ := R.ownIn j b hj
    by_cases q : b = a
    · subst q; exact ⟨hq', r⟩
    · exact ⟨⟨o, k b o q e, hs'⟩, r⟩
  · subst q
    rcases hx with h | h
    · exact h2 h
    · rw [h] at h1; cases h1
  · by_cases q : j = i
    · subst q
      rw [List.getElem?_set, if_pos rfl, if_pos (R.len j hj)] at hs₁
      cases hs₁
      exact ⟨v, hva.keep fun b o hb' e => k b o (fne b hb') e, hsl⟩
    · rw [List.getElem?_set_ne (Ne.symm q)] at hs₁
      obtain ⟨u, h1, h2⟩ := R.slots j sl₁ hj hs₁ hu
      refine ⟨u, h1.keep fun b o hb' e => k b o (fne b hb') e, ?_⟩
      by_cases hl : la = some a
      · cases sl₁ with
        | lent ds =>
          obtain ⟨ds', hds⟩ := hla hl
          subst hds
          exact absurd (R.oneL j i _ _ hs₁ hs) q
        | own1 ds =>
          obtain ⟨b, items, e1, e2, ⟨n, hp⟩, hn, r⟩ := h2
          exact ⟨b, items, e1, e2, ⟨n, k _ _ (fun qb => hoth j q (qb ▸ (by rw [e1]; simp))) hp⟩, hn, r.move hz⟩
        | own2 dss =>
          obtain ⟨b, bs, e1, e2, ⟨n, hp⟩, hn, he, hin⟩ := h2
          refine ⟨b, bs, e1, e2, ⟨n, k _ _ (fun qb => hoth j q (qb ▸ (by rw [e1]; simp))) hp⟩, hn, he, fun kk c ds hc hds => ?_⟩
          obtain ⟨items, ⟨n', h1'⟩, h2', h3'⟩ := hin kk c ds hc hds
          exact ⟨items, ⟨n', k _ _ (fun qb => hoth j q (qb ▸ (by rw [e1]; exact List.mem_cons_of_mem _ (List.mem_of_getElem? hc)))) h1'⟩, h2', h3'.move hz⟩
        | sh d => exact Rd.move hz h2
        | undef => trivial
      · refine h2.move (fun b o _ hb' e => k b o (fun qb => ?_) e) hz
        subst qb
        rcases hb' with hb' | hb'
        · exact hoth j q hb'
        · exact hl hb'
  · have key : ∀ (j : Nat) (ds : List D), (st.set i sl')[j]? = some (Slot.lent ds) → ∃ ds', st[j]? = some (Slot.lent ds') := fun j ds h => by
      by_cases q : j = i
      · subst q
        rw [List.getElem?_set, if_pos rfl, if_pos (R.len j hi)] at h
        obtain ⟨ds', e⟩ := hll ds (Option.some.inj h)
        exact ⟨ds', by rw [hs, e]⟩
      · rw [List.getElem?_set_ne (Ne.symm q)] at h; exact ⟨ds, h⟩
    obtain ⟨_, e1⟩ := key _ _ h1
    obtain ⟨_, e2⟩ := key _ _ h2
    exact R.oneL j l _ _ e1 e2
  · obtain ⟨h1, h2⟩ := R.dead j hj
    refine ⟨h1, ?_⟩
    by_cases q : j = i
    · subst q
      rw [List.getElem?_set, if_pos rfl, if_pos (R.len j h1)]
      exact (hd hj).imp (fun ⟨ds, h⟩ => ⟨ds, by rw [h]⟩) (fun ⟨ds, h⟩ => ⟨ds, by rw [h]⟩)
    · rw [List.getElem?_set_ne (Ne.symm q)]; exact h2

/-- new objects are hidden -/
theorem Rel.hide {S : Addr → Prop} (R : Rel base nm sc env vis an exc hid la st own s) (e : Ext s s') (hn : ∀ a, S a → s.heap.get? a = none) (ha : ∀ a, S a → ∃ o, s'.heap.get? a = some o) : Rel base nm sc env vis an exc (fun a => hid a ∨ S a) la st own s' := by
  have R' := R.ext e
  have ne : ∀ b o, s.heap.get? b = some o → ¬ S b := fun b o h q => by rw [hn b q] at h; cases h
  refine ⟨R'.fr, R'.ba, ?_, fun b h => ⟨.inl (R.lent b h).1, (R.lent b h).2⟩, fun j b hj => ?_, R.apart, R.nod, fun b hb => ?_, R'.keep, R'.gens, R'.os, fun j sl hj hs hu => ?_, R.len, R.oneL, R.dead⟩
  · rintro b (h | h)
    · exact R'.hi b h
    · exact ha b h
  · obtain ⟨h1, h2, h3, h4⟩ := R'.ownIn j b hj
    obtain ⟨⟨o, ho, _⟩, _⟩ := R.ownIn j b hj
    exact ⟨h1, fun q => q.elim h2 (ne b o ho), h3, h4⟩
  · obtain ⟨h1, h2, h3⟩ := R.frIn b hb
    refine ⟨h1, h2, fun q => q.elim h3 fun q => ?_⟩
    rcases hb with rfl | ⟨x, _, hx⟩
    · obtain ⟨m, o, _, _, ho, _⟩ := R.fr.ns; exact ne _ _ ho q
    · obtain ⟨u, o, ho, _⟩ := R.fr.cs x b hx; exact ne _ _ ho q
  · obtain ⟨v, h1, h2⟩ := R.slots j sl hj hs hu
    refine ⟨v, h1.ext e.1, h2.move (fun b o _ _ h => e.1 b o h) fun b o _ z => ⟨e.1 b o z.1, fun q => ?_⟩⟩
    rcases q with (q | q) | q
    · exact z.2 (.inl q)
    · exact ne b o z.1 q
    · exact z.2 (.inr q)

/-- an address that was not in use -/
theorem Rel.newA {a : Addr} (R : Rel base nm sc env vis an exc hid la st own s) (hn : s.heap.get? a = none) : base.get? a = none ∧ (exc a ∨ an.heap.get? a = none) ∧ ¬ hid a ∧ ∀ i, a ∉ own i := by
  refine ⟨?_, ?_, fun h => ?_, fun i h => ?_⟩
  · cases h : base.get? a with
    | none => rfl
    | some o => have := R.ba a o h; rw [hn] at this; cases this
  · by_cases q : exc a
    · exact .inl q
    · refine .inr ?_
      cases h : an.heap.get? a with
      | none => rfl
      | some o => have := R.keep a o h q; rw [hn] at this; cases this
  · obtain ⟨o, e⟩ := R.hi a h; rw [hn] at e; cases e
  · obtain ⟨⟨o, e, _⟩, _⟩ := R.ownIn i a h; rw [hn] at e; cases e

/-! a new anchor -/
noncomputable def excAt (sc : Scope) (env : Env) (own : Own) (la : Option Addr) : Addr → Prop := fun a => OwnA sc env a ∨ (∃ i, a ∈ own i) ∨ la = some a
theorem Rel.anchor (R : Rel base nm sc env vis an exc hid la st own s) : Rel base nm sc env vis s (excAt sc env own la) hid la st own s :=
  ⟨R.fr, R.ba, R.hi, fun a h => ⟨(R.lent a h).1, .inr (.inr h), (R.lent a h).2.2⟩, fun i a h => let ⟨h1, h2, h3, _⟩ := R.ownIn i a h; ⟨h1, h2, h3, .inl (.inr (.inl ⟨i, h⟩))⟩, R.apart, R.nod,
    fun a h => ⟨(R.frIn a h).1, .inl (.inl h), (R.frIn a h).2.2⟩, fun a o h _ => h, rfl, rfl, R.slots, R.len, R.oneL, R.dead⟩
theorem Rel.excAt_of {a : Addr} (R : Rel base nm sc env vis an exc hid la st own s) (h : excAt sc env own la a) : exc a ∨ an.heap.get? a = none := by
  rcases h with h | ⟨i, h⟩ | h
  · exact (R.frIn a h).2.1
  · exact (R.ownIn i a h).2.2.2
  · exact .inl (R.lent a h).2.1
theorem Rel.back {st' : St} {own' : Own} (R : Rel base nm sc env vis an exc hid la st own s) (R' : Rel base nm sc env vis s (excAt sc env own la) hid la st' own' s') : Rel base nm sc env vis an exc hid la st' own' s' := by
  refine ⟨R'.fr, R'.ba, R'.hi, R.lent, fun i a h => ?_, R'.apart, R'.nod, R.frIn, fun a o h1 h2 => R'.keep a o (R.keep a o h1 h2) fun q => ?_, R'.gens.trans R.gens, R'.os.trans R.os, R'.slots, R'.len, R'.oneL, R'.dead⟩
  · obtain ⟨h1, h2, h3, h4⟩ := R'.ownIn i a h
    refine ⟨h1, h2, h3, ?_⟩
    rcases h4 with h4 | h4
    · exact R.excAt_of h4
    · exact (R.newA h4).2.1
  · rcases R.excAt_of q with h | h
    · exact h2 h
    · rw [h] at h1; cases h1
/-- an object that is neither of the frame nor hidden is changed -/
theorem Rel.other {a : Addr} (R : Rel base nm sc env vis an exc hid la st own s) (hb : base.get? a = none) (hx : exc a ∨ an.heap.get? a = none) (hfr : ¬ (a = env.locals ∨ ∃ x, env.cells.lookup x = some a)) (hh : ¬ hid a) (hq : ∃ o, s.heap.get? a = some o ∧ ¬ isSeq o)
    (k : ∀ b o, b ≠ a → s.heap.get? b = some o → s'.heap.get? b = some o) (hg : s'.gens = s.gens) (ho : s'.os = s.os) : Rel base nm sc env vis an exc hid la st own s' := by
  obtain ⟨oa, hoa, hqa⟩ := hq
  have sq : SeqStays s.heap s'.heap := fun b o q e => k b o (fun h => by subst h; rw [hoa] at e; cases e; exact hqa q) e
  have kf : ∀ b o, (b = env.locals ∨ ∃ x, env.cells.lookup x = some b) → s.heap.get? b = some o → s'.heap.get? b = some o := fun b o h e => k b o (fun q => hfr (q ▸ h)) e
  refine ⟨R.fr.keep kf, fun b o e => k b o (fun q => by rw [q, hb] at e; cases e) (R.ba b o e), fun b h => ?_, R.lent, fun i b h => ?_, R.apart, R.nod, R.frIn, fun b o h1 h2 => k b o (fun q => ?_) (R.keep b o h1 h2), hg.trans R.gens, ho.trans R.os, fun j sl hj hs hu => ?_, R.len, R.oneL, R.dead⟩
  · obtain ⟨o, e⟩ := R.hi b h; exact ⟨o, k b o (fun q => hh (q ▸ h)) e⟩
  · obtain ⟨⟨o, e, q⟩, r⟩ := R.ownIn i b h; exact ⟨⟨o, sq b o q e, q⟩, r⟩
  · subst q
    rcases hx with h | h
    · exact h2 h
    · rw [h] at h1; cases h1
  · obtain ⟨v, h1, h2⟩ := R.slots j sl hj hs hu
    exact ⟨v, h1.keep kf, h2.move (fun b o q _ e => sq b o q e) fun b o q z => ⟨sq b o q z.1, z.2⟩⟩

/-- a store of a value that is read -/
theorem Hof.sub {hid : Hid} {own : Own} {i : Nat} {a : Addr} (h : Hof hid (updO own i []) a) : Hof hid own a := by
  rcases h with h | ⟨j, h⟩
  · exact .inl h
  · by_cases q : j = i
    · subst q; rw [updO_same] at h; cases h
    · rw [updO_other q] at h; exact .inr ⟨j, h⟩
theorem Rel.putSh {s₀ : Shared} {i : Nat} {v : Value} {d : D} (R₀ : Rel base nm sc env vis an exc hid la st own s₀) (e₀ : Ext s₀ s) (hi : i ∈ vis) (inj : ∀ j ∈ vis, nm j = nm i → j = i)
    (F' : FrOk sc env s'.heap) (hv : VarAt env s'.heap (nm i) v) (ho : ∀ y u, y ≠ nm i → VarAt env s.heap y u → VarAt env s'.heap y u) {O : Addr → Prop} (e : ExtO O s s')
    (hO : ∀ a, O a → OwnA sc env a ∨ (s₀.heap.get? a = none ∧ ∀ o, s.heap.get? a = some o → ¬ isSeq o)) (r : Rd (Zof s.heap (Hof hid own)) v d) : Rel base nm sc env vis an exc hid la (st.set i (.sh d)) (updO own i []) s' := by
  have R := R₀.ext e₀
  have hO' : ∀ a, O a → base.get? a = none ∧ (exc a ∨ an.heap.get? a = none) ∧ ¬ hid a ∧ ∀ o, s.heap.get? a = some o → ¬ isSeq o := fun a h => by
    rcases hO a h with q | ⟨q1, q2⟩
    · exact ⟨(R.frIn a q).1, (R.frIn a q).2.1, (R.frIn a q).2.2, fun o h => R.fr.notSeq q h⟩
    · obtain ⟨h1, h2, h3, _⟩ := R₀.newA q1; exact ⟨h1, h2, h3, q2⟩
  have sq : SeqStays s.heap s'.heap := fun a o q h => e.1 a o (fun n => (hO' a n).2.2.2 o h q) h
  refine R.put (hid := hid) (as := []) hi inj F' hv ho e hO' (fun _ h => h) (fun a h => (R.lent a h).1) (fun _ h => nomatch h) (fun _ h => nomatch h) List.nodup_nil ?_ (fun h => absurd rfl h) (fun _ h => nomatch h)
  exact Rd.move (fun a o q z => ⟨sq a o q z.1, fun h => z.2 h.sub⟩) r
end
end
section
open PySem PySem.Calls PySem.Spec PyProof.Rows

section
variable (prog : Program) (w : World) (base : Heap) (fa : Nat → Addr) (Φ : Funs) (nm : Nat → Str)
/-- the value is new -/
noncomputable def SF (me : ME) : Prop := ∀ cl sc vis e env A H st s Q P E, mE nm cl sc vis me e = true → Sit base nm sc env A vis H st s → (cl = true → CallOk prog w base fa Φ A) → wpE Φ me st Q → Knf s H Q P →
  wpAny (model prog w) A (eval e env) P E s
end

section
variable {prog : Program} {w : World} {base : Heap} {fa : Nat → Addr} {Φ : Funs} {nm : Nat → Str}

theorem new_none {s s' : Shared} (e : Ext s s') : s.heap.get? s'.heap.objs.size = none := by
  cases h : s.heap.get? s'.heap.objs.size with
  | none => rfl
  | some o => exact absurd (Heap.lt_size (e.1 _ _ h)) (Nat.lt_irrefl _)
theorem sf_lst {es : MEs} (h : SEs prog w base fa Φ nm es) : SF prog w base fa Φ nm (.lst es) := by
  intro cl sc vis e env A H st s Q P E hm S hc q k
  · refine any_elim hm ?_; clear hm; rintro ⟨xs, p, rfl⟩ hm
    simp only [Bool.and_eq_true, decide_eq_true_eq] at hm
    rw [yf] at q
    refine wpAny_List_spliced (h _ _ _ _ _ _ _ _ _ _ _ _ _ hm.1 S hc q fun vs s' ds q' r hl' e => ?_)
    have hl : vs.length ≤ sizeLine := by rw [hl', sL]; omega
    refine ⟨hl, ?_⟩
    exact kn_list (Q := fun d => Q d) (P := fun v s'' => v = .ref s'.heap.objs.size → P v s'') (tk := s'.toks) rfl (S.ext e).hi hl r q' (fun v s'' d q r e' hv => k v s'' d q r (e.trans e') fun a ha => by
      rw [hv] at ha; cases ha; exact new_none e) rfl
theorem sf_mul {a b : ME} (ha : SE prog w base fa Φ nm a) (hb : SE prog w base fa Φ nm b) : SF prog w base fa Φ nm (.bin .mul a b) := by
  intro cl sc vis e env A H st s Q P E hm S hc q k
  · refine any_elim hm ?_; clear hm; rintro ⟨o, x, y, p, rfl⟩ hm
    simp only [Bool.and_eq_true, beq_iff_eq] at hm
    obtain ⟨⟨rfl, hm1⟩, hm2⟩ := hm
    rw [yo] at q
    refine wpAny_BinOp (ha _ _ _ _ _ _ _ _ _ _ _ _ hm1 S hc q fun v s₁ d q₁ r e₁ => ?_)
    refine hb _ _ _ _ _ _ _ _ _ _ _ _ hm2 (S.ext e₁) hc q₁ fun v₂ s₂ d₂ q₂ r₂ e₂ => ?_
    refine bin_ok (op := .mul) (S.ext (e₁.trans e₂)).hi (r.ext e₂.1) r₂ q₂ fun v s' d q r e hf => k v s' d q r ((e₁.trans e₂).trans e) fun a ha => ?_
    have := hf a ha
    cases h : s.heap.get? a with
    | none => rfl
    | some o => rw [(e₁.trans e₂).1 a o h] at this; cases this
theorem sf_comp {elt cond : ME} {tg : Tgt} {it : It} {fv : List Nat} (hIt : SIt prog w base fa Φ nm it) (hElt : SE prog w base fa Φ nm elt) (hCond : ST prog w base fa Φ nm cond) : SF prog w base fa Φ nm (.comp elt tg it cond fv) := by
  intro cl sc vis e env A H st s Q P E hm S hc q k
  · refine any_elim hm ?_; clear hm; rintro ⟨x, g, csc, pos, rfl⟩ hm
    obtain ⟨target, iter, ifs, as⟩ := g
    simp only [Bool.and_eq_true, beq_iff_eq] at hm
    obtain ⟨⟨⟨⟨⟨rfl, hm1⟩, hm2⟩, hm3⟩, hm4⟩, hm5⟩ := hm
    rw [eval_ListComp']
    refine wpAny_comprehension_free (use := none) rfl (folded_ok (mIt_notSet hm1)) (closureFor_eq (cfree S.eo hm3)) (mScope_inv hm3).1 (comp_names hm3) ?_
    refine comp_run hIt hElt hCond hm1 hm2 hm3 hm4 hm5 S hc q fun D C s' rs q' r e hC hD hN => ?_
    obtain ⟨m, hN⟩ := hN
    refine ⟨m, hN, fun h' hs => ?_⟩
    have sq : SeqStays s'.heap h' := fun a o q e => (hs.2 a (fun h => by subst h; exact ns_notSeq hN e q)).trans e
    exact k _ _ _ q' (r.move sq.z) ⟨fun b o eb => (hs.2 b (fun h => by subst h; rw [hC] at eb; cases eb)).trans (e.1 b o eb), e.2.1, e.2.2⟩ fun a ha => by cases ha; exact hD

/-- what is asked of the use of a comprehension's list -/
abbrev KU (prog : Program) (w : World) (A : Around) (E : Value → Shared → Prop) (s : Shared) (H : Hid) (Q : D → Prop) (u : Value → Sem Unit) (P : Shared → Prop) : Prop := ∀ D C s' rs, Q (.list rs) → Rd (Zof s'.heap H) (.ref D) (.list rs) → Ext s s' → s.heap.get? C = none → s.heap.get? D = none → (∃ m, s'.heap.Ns C m) →
  wpAny (model prog w) A (u (.ref D)) (fun _ s'' => ∃ m, s''.heap.Ns C m ∧ ∀ h', Heap.SameBut C s''.heap h' → P { s'' with heap := h' }) E s'
theorem use_ListComp {x : PySem.Expr} {g : Comprehension} {gs : List Comprehension} {csc : Scope} {pos : Pos} {env : Env} {u : Value → Sem Unit} : evalThenUse (.ListComp x (g :: gs) csc pos) env u = (do
    let _ ← comprehension (.ListComp x (g :: gs) csc pos) csc env (firstIterPos (g :: gs) pos) (newList []) (firstAsync (g :: gs)) (firstIter (g :: gs) env) (some u)) := rfl
theorem su_comp {elt cond : ME} {tg : Tgt} {it : It} {fv : List Nat} (hIt : SIt prog w base fa Φ nm it) (hElt : SE prog w base fa Φ nm elt) (hCond : ST prog w base fa Φ nm cond) {cl : Bool} {sc : Scope} {vis : List Nat} {e : PySem.Expr} {env : Env} {A : Around} {H : Hid} {st : St} {s : Shared} {Q : D → Prop} {E : Value → Shared → Prop}
    (hm : mE nm cl sc vis (.comp elt tg it cond fv) e = true) (S : Sit base nm sc env A vis H st s) (hc : cl = true → CallOk prog w base fa Φ A) (q : wpE Φ (.comp elt tg it cond fv) st Q) {u : Value → Sem Unit} {P : Shared → Prop} (k : KU prog w A E s H Q u P) :
    wpAny (model prog w) A (evalThenUse e env u) (fun _ => P) E s := by
  · refine any_elim hm ?_; clear hm; rintro ⟨x, g, csc, pos, rfl⟩ hm
    obtain ⟨target, iter, ifs, as⟩ := g
    simp only [Bool.and_eq_true, beq_iff_eq] at hm
    obtain ⟨⟨⟨⟨⟨rfl, hm1⟩, hm2⟩, hm3⟩, hm4⟩, hm5⟩ := hm
    rw [use_ListComp]
    refine wpAny_bind (wpAny_mono (wpAny_comprehension_free (use := some u) (Q := fun _ => P) rfl (folded_ok (mIt_notSet hm1)) (closureFor_eq (cfree S.eo hm3)) (mScope_inv hm3).1 (comp_names hm3) ?_) (fun _ s' h => wpAny_pure h) fun _ _ h => h)
    exact comp_run hIt hElt hCond hm1 hm2 hm3 hm4 hm5 S hc q fun D C s' rs q' r e hC hD hN => k D C s' rs q' r e hC hD hN
theorem lc_comp {me : ME} {e : PySem.Expr} (h : (!isLC e || (cCompM me).isSome) = true) (hl : isLC e = true) : ∃ elt tg it cond fv, me = .comp elt tg it cond fv := by
  rw [hl] at h
  obtain ⟨⟨a, b, c, d, f, hq⟩, _⟩ := some_inv h
  exact ⟨a, b, c, d, f, hq⟩
end
end
section
open PySem PySem.Calls PySem.Spec PyProof.Rows

/-- the def that changes the list it is handed -/
noncomputable def LendOk (prog : Program) (w : World) (base : Heap) (fa : Nat → Addr) (Λ : Lends) (A : Around) : Prop := ∀ (ds : List D) (d : D) (Q : List D → D → Prop), Λ 8 ds [d] Q → ∀ (s : Shared) (H : Hid) (a : Addr) (items : Array Value) (v : Value) (P : Value → Shared → Prop) (E : Value → Shared → Prop),
  base.StaysIn s.heap → base.get? a = none → HidIn H s.heap → H a → s.heap.PlainList a items → items.size ≤ sizeLine → RdAll (Zof s.heap H) items.toList ds → Rd (Zof s.heap H) v d →
  (∀ r s' d' ds' items', Q ds' d' → Rd (Zof s'.heap H) r d' → s'.heap.PlainList a items' → items'.size ≤ sizeLine → RdAll (Zof s'.heap H) items'.toList ds' → (∀ b o, b ≠ a → s.heap.get? b = some o → s'.heap.get? b = some o) → s'.gens = s.gens → s'.os = s.os → P r s') →
  wpAny (model prog w) A (call (.ref (fa 8)) [.ref a, v]) P E s

structure Bd (prog : Program) (w : World) (base : Heap) (fa : Nat → Addr) (Φ : Funs) (Λ : Lends) (nm : Nat → Str) (sc : Scope) (env : Env) (A : Around) (vis : List Nat) : Prop where
  G : Ground base fa fname
  hsp : SortP prog w
  eo : EnvOk sc env
  ao : AOk 0 A
  hc : CallOk prog w base fa Φ A
  hl : LendOk prog w base fa Λ A
  inj : ∀ i ∈ vis, ∀ j ∈ vis, nm j = nm i → j = i

noncomputable def FlowOk (h : Heap) (H : Hid) : MF → Flow → Prop
  | .next, .next => True
  | .cont, .cont => True
  | .ret d, .ret v => Rd (Zof h H) v d
  | _, _ => False

section
variable (prog : Program) (w : World) (base : Heap) (fa : Nat → Addr) (Φ : Funs) (Λ : Lends) (nm : Nat → Str) (sc : Scope) (env : Env) (A : Around) (vis : List Nat)
abbrev KS (an : Shared) (exc : Addr → Prop) (hid : Hid) (la : Option Addr) (Q : MF → St → Prop) (P : Flow → Shared → Prop) : Prop :=
  ∀ mf fl st' own' s', Q mf st' → Rel base nm sc env vis an exc hid la st' own' s' → FlowOk s'.heap (Hof hid own') mf fl → P fl s'
noncomputable def SS (m : MS) : Prop := ∀ c an exc hid la st own s Q P E, mS nm sc vis m c = true → Rel base nm sc env vis an exc hid la st own s → wpS Φ Λ m st Q → KS base nm sc env vis an exc hid la Q P → wpAny (model prog w) A (exec c env) P E s
noncomputable def SSs (ms : List MS) : Prop := ∀ cs an exc hid la st own s Q P E, mSs nm sc vis ms cs = true → Rel base nm sc env vis an exc hid la st own s → wpSs Φ Λ ms st Q → KS base nm sc env vis an exc hid la Q P → wpAny (model prog w) A (execs cs env) P E s
end

section
variable {prog : Program} {w : World} {base : Heap} {fa : Nat → Addr} {Φ : Funs} {Λ : Lends} {nm : Nat → Str} {sc : Scope} {env : Env} {A : Around} {vis : List Nat} {E : Value → Shared → Prop} {s : Shared} {H : Hid}

theorem isV_inv {i : Nat} {t : PySem.Expr} (h : isV nm vis i t = true) : ∃ p, t = .Name (nm i) p ∧ i ∈ vis ∧ nameOk (nm i) = true := by
  unfold isV at h
  · refine any_elim h ?_; clear h; rintro ⟨x, p, rfl⟩ h
    simp only [Bool.and_eq_true, beq_iff_eq, List.contains_iff_mem] at h
    obtain ⟨⟨rfl, h1⟩, h2⟩ := h
    exact ⟨p, rfl, h1, h2⟩

theorem swap_no {v : PySem.Expr} {t : PySem.Expr} {line : Nat} (h : isLC v = false) (h' : okV v = true) : swapsWith v (some t) line env = pure false := by
  cases v <;> first | rfl | exact Bool.noConfusion (show true = false from h) | exact Bool.noConfusion (show false = true from h')

abbrev KA (sc : Scope) (env : Env) (x : Str) (s : Shared) (V : Value → Shared → Prop) (P : Flow → Shared → Prop) : Prop := ∀ v s₁ s' (O : Addr → Prop), V v s₁ → Ext s s₁ → FrOk sc env s'.heap →
  VarAt env s'.heap x v → (∀ y u, y ≠ x → VarAt env s₁.heap y u → VarAt env s'.heap y u) → ExtO O s₁ s' → (∀ a, O a → OwnA sc env a ∨ (s.heap.get? a = none ∧ ∀ o, s₁.heap.get? a = some o → ¬ isSeq o)) → P .next s'
abbrev KV (prog : Program) (w : World) (A : Around) (E : Value → Shared → Prop) (s : Shared) (V : Value → Shared → Prop) (u : Value → Sem Unit) (P : Shared → Prop) : Prop := ∀ D C s', V (.ref D) s' → Ext s s' → s.heap.get? C = none → (∃ m, s'.heap.Ns C m) →
  wpAny (model prog w) A (u (.ref D)) (fun _ s'' => ∃ m, s''.heap.Ns C m ∧ ∀ h', Heap.SameBut C s''.heap h' → P { s'' with heap := h' }) E s'
/-- a value, and what it is -/
noncomputable def VRd (s : Shared) (H : Hid) (fr : Bool) (Q : D → Prop) (v : Value) (s' : Shared) : Prop := ∃ d, Q d ∧ Rd (Zof s'.heap H) v d ∧ (fr = true → ∀ a, v = .ref a → s.heap.get? a = none)

theorem asgn {V : Value → Shared → Prop} {x : Str} {p pos : Pos} {v : PySem.Expr} {P : Flow → Shared → Prop} (eo : EnvOk sc env) (F : FrOk sc env s.heap) (hx : sc.names.lookup x = some .local ∨ sc.names.lookup x = some .cell) (hv : okV v = true)
    (hE : ∀ P' : Value → Shared → Prop, (∀ u s', V u s' → Ext s s' → P' u s') → wpAny (model prog w) A (eval v env) P' E s)
    (hU : isLC v = true → ∀ (u : Value → Sem Unit) (P' : Shared → Prop), KV prog w A E s V u P' → wpAny (model prog w) A (evalThenUse v env u) (fun _ => P') E s)
    (k : KA sc env x s V P) : wpAny (model prog w) A (exec (.Assign [.Name x p] v pos) env) P E s := by
  have plain : swapsWith v (some (.Name x p)) pos.line env = pure false → wpAny (model prog w) A (exec (.Assign [.Name x p] v pos) env) P E s := fun hs => by
    refine wpAny_Assign_Name (hE _ fun u s₁ q e => ?_) hs
    refine store_ok eo (F.ext e.1) hx fun s' F' hv' ho e' => ?_
    exact k u s₁ s' _ q e F' hv' ho e' (fun a h => .inl h)
  cases hl : isLC v with
  | false => exact plain (swap_no hl hv)
  | true =>
    have hsw : ∃ b, swapsWith v (some (.Name x p)) pos.line env = pure b := by
      cases v <;> first | exact ⟨_, rfl⟩ | exact Bool.noConfusion (show false = true from hl)
    obtain ⟨b, hb⟩ := hsw
    cases b with
    | false => exact plain hb
    | true =>
      rw [exec_Assign_Name_used _ _ _ _ hb]
      refine wpAny_bind (wpAny_standAt (wpAny_bind (wpAny_mono (hU hl _ (fun s' => P .next s') ?_) (fun _ s' h => wpAny_pure h) fun _ _ h => h)))
      intro D C s₁ q e hC hN
      obtain ⟨m, hN⟩ := hN
      refine wpAny_assign_Name (store_ok eo (F.ext e.1) hx fun s₂ F₂ hv₂ ho₂ e₂ => ?_)
      have fne : ∀ b, (b = env.locals ∨ ∃ y, env.cells.lookup y = some b) → b ≠ C := by
        rintro b h rfl
        rcases h with rfl | ⟨y, hy⟩
        · obtain ⟨_, o, _, _, ho, _⟩ := F.ns; rw [hC] at ho; cases ho
        · obtain ⟨_, o, ho, _⟩ := F.cs y _ hy; rw [hC] at ho; cases ho
      have cne : ¬ OwnA sc env C := by
        rintro (h | ⟨y, _, h⟩)
        · exact fne _ (.inl h) rfl
        · exact fne _ (.inr ⟨y, h⟩) rfl
      have nsq : ∀ o, s₁.heap.get? C = some o → ¬ isSeq o := fun o h => ns_notSeq hN h
      obtain ⟨oc, es, ep, hoc, rN⟩ := hN
      refine ⟨m, ⟨oc, es, ep, e₂.1 C oc cne hoc, rN⟩, fun h' hs => ?_⟩
      have kf : ∀ a o, (a = env.locals ∨ ∃ y, env.cells.lookup y = some a) → s₂.heap.get? a = some o → h'.get? a = some o := fun a o ha h => (hs.2 a (fne a ha)).trans h
      exact k (.ref D) s₁ { s₂ with heap := h' } (fun a => OwnA sc env a ∨ a = C) q e (F₂.keep kf) (hv₂.keep kf) (fun y u hy hu => (ho₂ y u hy hu).keep kf)
        ⟨fun a o n h => (hs.2 a (fun q => n (.inr q))).trans (e₂.1 a o (fun q => n (.inl q)) h), e₂.2.1, e₂.2.2⟩ (fun a h => by
          rcases h with h | rfl
          · exact .inl h
          · exact .inr ⟨hC, nsq⟩)

theorem ss_assign {i : Nat} {e : ME} (B : Bd prog w base fa Φ Λ nm sc env A vis) : SS prog w base Φ Λ nm sc env A vis (.assign i e) := by
  intro c an exc hid la st own s Q P E hm R q k
  · refine any_elim hm ?_; clear hm; rintro ⟨t, v, pos, rfl⟩ hm
    simp only [Bool.and_eq_true, Bool.not_eq_true'] at hm
    obtain ⟨⟨⟨⟨ht, hk⟩, hm⟩, hv⟩, h2⟩ := hm
    obtain ⟨p, rfl, hi, _⟩ := isV_inv ht
    rw [yN] at q
    have S := R.sit B.eo B.ao
    refine asgn (V := VRd s (Hof hid own) false fun d => Q .next (st.set i (.sh d))) B.eo R.fr (kLoc_inv hk) hv (fun P' k' => (allE B.hsp B.G e).1 _ _ _ _ _ _ _ _ _ _ _ _ hm S (fun _ => B.hc) q fun u s' d q r e => k' u s' ⟨d, q, r, fun h => nomatch h⟩ e) (fun hl u P' k' => ?_) fun v s₁ s' O hV e F' hv' ho e' hO => ?_
    · obtain ⟨elt, tg, it, cond, fv, rfl⟩ := lc_comp h2 hl
      exact su_comp (allIt B.hsp B.G it) (allE B.hsp B.G elt).1 (allE B.hsp B.G cond).2 hm S (fun _ => B.hc) q fun D C s' rs q r e hC hD hN => k' D C s' ⟨.list rs, q, r, fun h => nomatch h⟩ e hC hN
    · obtain ⟨d, q, r, _⟩ := hV
      exact k .next .next _ _ _ q (R.putSh e hi (B.inj i hi) F' hv' ho e' hO r) trivial

theorem ss_new1 {i : Nat} {e : ME} (B : Bd prog w base fa Φ Λ nm sc env A vis) : SS prog w base Φ Λ nm sc env A vis (.new1 i e) := by
  intro c an exc hid la st own s Q P E hm R q k
  · refine any_elim hm ?_; clear hm; rintro ⟨t, v, pos, rfl⟩ hm
    simp only [Bool.and_eq_true] at hm
    obtain ⟨⟨⟨⟨⟨ht, hk⟩, hm⟩, hv⟩, h2⟩, hf⟩ := hm
    obtain ⟨p, rfl, hi, _⟩ := isV_inv ht
    rw [yO] at q
    have S := R.sit B.eo B.ao
    have hsf : SF prog w base fa Φ nm e := by
      rcases or_inv hf with hf | hf
      · rcases or_inv hf with hf | hf
        · obtain ⟨⟨es, he⟩, _⟩ := some_inv hf
          exact he ▸ sf_lst (allEs B.hsp B.G es)
        · obtain ⟨⟨a, b, he⟩, _⟩ := some_inv hf
          exact he ▸ sf_mul (allE B.hsp B.G a).1 (allE B.hsp B.G b).1
      · obtain ⟨⟨elt, tg, it, cond, fv, he⟩, _⟩ := some_inv hf
        exact he ▸ sf_comp (allIt B.hsp B.G it) (allE B.hsp B.G elt).1 (allE B.hsp B.G cond).2
    refine asgn (V := VRd s (Hof hid own) true fun d => listD d fun ds => Q .next (st.set i (.own1 ds))) B.eo R.fr (kLoc_inv hk) hv (fun P' k' => hsf _ _ _ _ _ _ _ _ _ _ _ _ hm S (fun _ => B.hc) q fun u s' d q r e hn => k' u s' ⟨d, q, r, fun _ => hn⟩ e) (fun hl u P' k' => ?_) fun v s₁ s' O hV e F' hv' ho e' hO => ?_
    · obtain ⟨elt, tg, it, cond, fv, rfl⟩ := lc_comp h2 hl
      exact su_comp (allIt B.hsp B.G it) (allE B.hsp B.G elt).1 (allE B.hsp B.G cond).2 hm S (fun _ => B.hc) q fun D C s' rs q r e hC hD hN => k' D C s' ⟨.list rs, q, r, fun _ a ha => by cases ha; exact hD⟩ e hC hN
    · obtain ⟨d, q, r, hnew⟩ := hV
      cases d with
      | list ds =>
        obtain ⟨a, _, rfl, _, _, _⟩ := r.plain
        have hn := hnew rfl a rfl
        obtain ⟨vs, hp, hsz, rr⟩ := r.items_avoid
        obtain ⟨nn, hpe⟩ := id hp
        obtain ⟨b1, b2, b3, b4⟩ := R.newA hn
        have R1 : Rel base nm sc env vis an exc (fun b => hid b ∨ b = a) la st own s₁ := R.hide (S := fun b => b = a) e (fun b q => q ▸ hn) (fun b q => q ▸ ⟨_, hpe⟩)
        have fne : ¬ OwnA sc env a := fun h => by
          rcases h with rfl | ⟨y, _, hy⟩
          · obtain ⟨_, o, _, _, ho, _⟩ := R.fr.ns; rw [hn] at ho; cases ho
          · obtain ⟨_, o, ho, _⟩ := R.fr.cs y _ hy; rw [hn] at ho; cases ho
        have hO' : ∀ b, O b → base.get? b = none ∧ (exc b ∨ an.heap.get? b = none) ∧ ¬ (hid b ∨ b = a) ∧ ∀ o, s₁.heap.get? b = some o → ¬ isSeq o := fun b h => by
          rcases hO b h with q | ⟨q1, q2⟩
          · exact ⟨(R.frIn b q).1, (R.frIn b q).2.1, fun hh => hh.elim (R.frIn b q).2.2 (fun hb => fne (hb ▸ q)), fun o h => R1.fr.notSeq q h⟩
          · obtain ⟨h1, h2, h3, _⟩ := R.newA q1
            exact ⟨h1, h2, fun hh => hh.elim h3 (fun hb => q2 _ (hb ▸ hpe) ⟨_, _, rfl⟩), q2⟩
        have sq : SeqStays s₁.heap s'.heap := fun b o q h => e'.1 b o (fun n => (hO' b n).2.2.2 o h q) h
        refine k .next .next _ _ _ q (R1.put (hid := hid) (as := [a]) hi (B.inj i hi) F' hv' ho e' hO' (fun _ h => .inl h) (fun b h => (R.lent b h).1) (fun b hb => ?_) (fun b hb => ?_) (by simp) ?_ (fun _ => .inl ⟨_, rfl⟩) (fun _ h => nomatch h)) trivial
        · rw [List.mem_singleton] at hb; exact .inl (.inr hb)
        · rw [List.mem_singleton] at hb; subst hb
          exact ⟨⟨_, hpe, _, _, rfl⟩, b3, b1, b2, fun j _ => b4 j⟩
        · refine ⟨a, vs, rfl, rfl, ⟨nn, sq _ _ ⟨_, _, rfl⟩ hpe⟩, hsz, rr.move fun b o q z => ⟨sq b o q z.1, fun h => z.2 ?_⟩⟩
          rcases h with h | ⟨j, h⟩
          · exact .inl (.inl h)
          · by_cases qj : j = i
            · subst qj; rw [updO_same, List.mem_singleton] at h; exact .inr h
            · rw [updO_other qj] at h; exact .inl (.inr ⟨j, h⟩)
      | _ => exact q.elim
end
end
section
open PySem PySem.Calls PySem.Spec PyProof.Rows

theorem nodup_idx {α : Type} {b : α} : ∀ {l : List α} {i j : Nat}, l.Nodup → l[i]? = some b → l[j]? = some b → i = j
  | [], i, j, _, h, _ => by simp at h
  | x :: l, 0, 0, _, _, _ => rfl
  | x :: l, 0, j + 1, hn, h1, h2 => by
    simp only [List.getElem?_cons_zero, Option.some.injEq, List.getElem?_cons_succ] at h1 h2
    subst h1
    exact absurd (List.mem_of_getElem? h2) (List.nodup_cons.mp hn).1
  | x :: l, i + 1, 0, hn, h1, h2 => by
    simp only [List.getElem?_cons_zero, Option.some.injEq, List.getElem?_cons_succ] at h1 h2
    subst h2
    exact absurd (List.mem_of_getElem? h1) (List.nodup_cons.mp hn).1
  | x :: l, i + 1, j + 1, hn, h1, h2 => by
    simp only [List.getElem?_cons_succ] at h1 h2
    rw [nodup_idx (List.nodup_cons.mp hn).2 h1 h2]

theorem own1At_inv {o : Option Slot} {Q : List D → Prop} (h : own1At o Q) : ∃ ds, o = some (.own1 ds) ∧ Q ds := by
  unfold own1At at h
  split at h
  · exact ⟨_, rfl, h⟩
  · exact h.elim
theorem own2At_inv {o : Option Slot} {Q : List (List D) → Prop} (h : own2At o Q) : ∃ ds, o = some (.own2 ds) ∧ Q ds := by
  unfold own2At at h
  split at h
  · exact ⟨_, rfl, h⟩
  · exact h.elim
theorem intD_inv {d : D} {Q : Int → Prop} (h : intD d Q) : ∃ k, d = .int k ∧ Q k := by
  unfold intD at h
  split at h
  · exact ⟨_, rfl, h⟩
  · exact h.elim

section
variable {base : Heap} {nm : Nat → Str} {sc : Scope} {env : Env} {vis : List Nat} {an : Shared} {exc : Addr → Prop} {hid : Hid} {la : Option Addr} {st : St} {own : Own} {s s' : Shared}
theorem z_keep {H : Hid} {a : Addr} (hH : H a) (k : ∀ b o, b ≠ a → s.heap.get? b = some o → s'.heap.get? b = some o) : ∀ b o, isSeq o → Zof s.heap H b o → Zof s'.heap H b o := fun b o _ z => ⟨k b o (fun q => z.2 (q ▸ hH)) z.1, z.2⟩
theorem Rel.mut1 {i : Nat} {a : Addr} {ds ds' : List D} {items : Array Value} (R : Rel base nm sc env vis an exc hid la st own s) (hi : i ∈ vis) (hs : st[i]? = some (.own1 ds)) (e1 : own i = [a]) (hva : VarAt env s.heap (nm i) (.ref a))
    (hp : s'.heap.PlainList a items) (hsz : items.size ≤ sizeLine) (hr : RdAll (Zof s'.heap (Hof hid own)) items.toList ds') (k : ∀ b o, b ≠ a → s.heap.get? b = some o → s'.heap.get? b = some o) (hg : s'.gens = s.gens) (ho : s'.os = s.os) :
    Rel base nm sc env vis an exc hid la (st.set i (.own1 ds')) own s' := by
  have ha : a ∈ own i := by rw [e1]; simp
  obtain ⟨h1, h2, h3, h4⟩ := R.ownIn i a ha
  obtain ⟨n, hpe⟩ := id hp
  exact R.mut hi hs hva (.inr ⟨i, ha⟩) h3 h4 h1 ⟨_, hpe, _, _, rfl⟩ k hg ho (fun j hj q => hj (R.apart j i a q ha)) (fun q => absurd (R.lent a q).1 h2) ⟨a, items, e1, rfl, hp, hsz, hr⟩ (fun _ => .inl ⟨_, rfl⟩) (fun _ h => nomatch h)
end

section
variable {prog : Program} {w : World} {base : Heap} {fa : Nat → Addr} {Φ : Funs} {Λ : Lends} {nm : Nat → Str} {sc : Scope} {env : Env} {A : Around} {vis : List Nat} {E : Value → Shared → Prop} {s : Shared}

theorem loadV {x : Str} {v : Value} {p : Pos} {P : Value → Shared → Prop} (eo : EnvOk sc env) (hv : VarAt env s.heap x v) (hn : nameOk x = true) (hq : P v s) : wpAny (model prog w) A (eval (.Name x p) env) P E s := by
  unfold nameOk at hn
  simp only [Bool.and_eq_true, Bool.not_eq_true'] at hn
  rcases hv with ⟨hk, m, hm, hx⟩ | ⟨hk, c, hc, hcell⟩
  · exact wpAny_Name (wpAny_loadName_local eo.k hk hm hx hq) hn.1
  · rcases hk with hk | hk
    · exact wpAny_Name (wpAny_loadName_cell eo.k hk hc hcell hq) hn.1
    · exact wpAny_Name (wpAny_loadName_free eo.k hk hc hcell hq hn.2) hn.1
theorem EnvOk.ni (eo : EnvOk sc env) : interactive env = false := by unfold interactive; rw [eo.k]; rfl

theorem ss_append1 {i : Nat} {e : ME} (B : Bd prog w base fa Φ Λ nm sc env A vis) : SS prog w base Φ Λ nm sc env A vis (.append1 i e) := by
  intro c an exc hid la st own s Q P E hm R q k
  · refine any_elim hm ?_; clear hm; rintro ⟨cc, pos, rfl⟩ hm
    dsimp only at hm
    · refine any_elim hm ?_; clear hm; rintro ⟨o, m, x, apos, pos', rfl, hl⟩ hm
      simp only [Bool.and_eq_true, beq_iff_eq, Bool.not_eq_true'] at hm
      obtain ⟨⟨⟨rfl, ho⟩, hm⟩, hst⟩ := hm
      obtain ⟨p, rfl, hi, hnm⟩ := isV_inv ho
      rw [yS] at q
      obtain ⟨ds, hs, q⟩ := own1At_inv q
      obtain ⟨v, hva, a, items, e1, rfl, hp, hsz, r⟩ := R.slots i _ hi hs (by simp)
      obtain ⟨n, hpe⟩ := id hp
      refine wpAny_Expr ?_ B.eo.ni rfl
      refine wpAny_Call_append rfl (by rw [star_cons hst]; rfl) hl (by rw [star_cons hst]; rfl) ?_
      refine loadV B.eo hva hnm ⟨a, items, rfl, ⟨_, n, hpe, rfl, rfl, rfl⟩, ?_⟩
      refine (allE B.hsp B.G e).1 _ _ _ _ _ _ _ _ _ _ _ _ hm (R.sit B.eo B.ao) (fun _ => B.hc) q fun y s₁ d q₁ r₁ e₁ => ?_
      refine wpAny_list_append_plain (plain_keeps hp e₁.1) (fun h' hp' hs' => ?_) hsz
      have hH : Hof hid own a := .inr ⟨i, by rw [e1]; simp⟩
      have kk : ∀ b o, b ≠ a → s₁.heap.get? b = some o → h'.get? b = some o := fun b o n e => (hs'.2 b n).trans e
      have hz := z_keep (s := s₁) (s' := { s₁ with heap := h' }) hH kk
      refine k .next .next _ own _ q₁.2 ((R.ext e₁).mut1 (s' := { s₁ with heap := h' }) hi hs e1 (hva.ext e₁.1) hp' ?_ ?_ kk rfl rfl) trivial
      · have := r.size; rw [Array.size_push, this, sL]; have := q₁.1; omega
      · rw [Array.toList_push]
        exact ((r.ext e₁.1).move hz).append (.cons (r₁.move hz) .nil)

theorem ss_append2 {i : Nat} {j e : ME} (B : Bd prog w base fa Φ Λ nm sc env A vis) : SS prog w base Φ Λ nm sc env A vis (.append2 i j e) := by
  intro c an exc hid la st own s Q P E hm R q k
  · refine any_elim hm ?_; clear hm; rintro ⟨cc, pos, rfl⟩ hm
    dsimp only at hm
    · refine any_elim hm ?_; clear hm; rintro ⟨o, m, x, apos, pos', rfl, hl⟩ hm
      simp only [Bool.and_eq_true, beq_iff_eq, Bool.not_eq_true'] at hm
      obtain ⟨⟨⟨rfl, ho⟩, hm⟩, hst⟩ := hm
      · refine any_elim ho ?_; clear ho; rintro ⟨a', y, ps, rfl⟩ ho
        simp only [Bool.and_eq_true] at ho
        obtain ⟨⟨ho1, ho2⟩, hns⟩ := ho
        obtain ⟨p, rfl, hi, hnm⟩ := isV_inv ho1
        rw [yT] at q
        obtain ⟨dss, hs, q⟩ := own2At_inv q
        obtain ⟨v, hva, a, bs, e1, rfl, hp, hbl, hlen, hin⟩ := R.slots i _ hi hs (by simp)
        have S := R.sit B.eo B.ao
        refine wpAny_Expr ?_ B.eo.ni rfl
        refine wpAny_Call_append rfl (by rw [star_cons hst]; rfl) hl (by rw [star_cons hst]; rfl) ?_
        refine Subscript_ (loadV B.eo hva hnm ?_)
        refine (allE B.hsp B.G j).1 _ _ _ _ _ _ _ _ _ _ _ _ ho2 S (fun _ => B.hc) q fun kv s₁ kd q₁ r₁ e₁ => ?_
        obtain ⟨kk, rfl, h0, hlt, q₁⟩ := intD_inv q₁
        cases r₁ with
        | int _ tk =>
        have hlt' : kk.toNat < bs.length := by omega
        obtain ⟨b, hb⟩ : ∃ b, bs[kk.toNat]? = some b := ⟨_, List.getElem?_eq_getElem hlt'⟩
        obtain ⟨items, hpb, hsz, r⟩ := hin kk.toNat b dss[kk.toNat] hb (List.getElem?_eq_getElem hlt)
        obtain ⟨n, hpbe⟩ := id hpb
        have hla := (plain_keeps hp e₁.1).isList
        refine tail_any hla.typeIs slot_list_getitem.lookup (wpAny_getItem_list hla h0 (by rw [sL] at hbl; omega) (x := .ref b) ?_ ?_) (subscripted_plain hns _ _)
        · rw [List.getElem?_toArray, List.getElem?_map, hb]; rfl
        refine ⟨b, items, rfl, ⟨_, n, e₁.1 _ _ hpbe, rfl, rfl, rfl⟩, ?_⟩
        refine (allE B.hsp B.G e).1 _ _ _ _ _ _ _ _ _ _ _ _ hm (S.ext e₁) (fun _ => B.hc) q₁ fun y s₂ d q₂ r₂ e₂ => ?_
        have e12 := e₁.trans e₂
        refine wpAny_list_append_plain (plain_keeps hpb e12.1) (fun h' hp' hs' => ?_) hsz
        have hbi : b ∈ own i := by rw [e1]; exact List.mem_cons_of_mem _ (List.mem_of_getElem? hb)
        have hH : Hof hid own b := .inr ⟨i, hbi⟩
        have hk : ∀ b' o, b' ≠ b → s₂.heap.get? b' = some o → h'.get? b' = some o := fun b' o n e => (hs'.2 b' n).trans e
        have hz := z_keep (s := s₂) (s' := { s₂ with heap := h' }) hH hk
        have hnod := R.nod i
        rw [e1, List.nodup_cons] at hnod
        obtain ⟨h1, h2, h3, h4⟩ := R.ownIn i b hbi
        have R2 := R.ext e12
        obtain ⟨nb, hpe'⟩ := id hp'
        refine k .next .next _ own _ q₂.2 (R2.mut (s' := { s₂ with heap := h' }) hi hs (hva.ext e12.1) hH h3 h4 (R2.ownIn i b hbi).1 ⟨_, hpe', _, _, rfl⟩ hk rfl rfl (fun l hl q => hl (R.apart l i b q hbi)) (fun q => absurd (R.lent b q).1 h2) ?_ (fun _ => .inr ⟨_, rfl⟩) (fun _ h => nomatch h)) trivial
        refine ⟨a, bs, e1, rfl, ?_, hbl, by rw [List.length_set]; exact hlen, fun l b' ds hb' hd => ?_⟩
        · obtain ⟨na, hpa⟩ := plain_keeps hp e12.1
          exact ⟨na, hk a _ (fun q => hnod.1 (q ▸ List.mem_of_getElem? hb)) hpa⟩
        · by_cases ql : l = kk.toNat
          · subst ql
            rw [hb] at hb'; cases hb'
            rw [List.getElem?_set, if_pos rfl, if_pos hlt] at hd
            cases hd
            refine ⟨_, hp', ?_, ?_⟩
            · have := r.size; rw [Array.size_push, this, sL]; have := q₂.1; omega
            · rw [Array.toList_push]
              exact ((r.ext e12.1).move hz).append (.cons (r₂.move hz) .nil)
          · rw [List.getElem?_set_ne (Ne.symm ql)] at hd
            obtain ⟨it', hp1, hp2, hp3⟩ := hin l b' ds hb' hd
            obtain ⟨n1, hp1⟩ := plain_keeps hp1 e12.1
            exact ⟨it', ⟨n1, hk b' _ (fun q => ql (nodup_idx hnod.2 (q ▸ hb') hb)) hp1⟩, hp2, (hp3.ext e12.1).move hz⟩
end
end
section
open PySem PySem.Calls PySem.Spec PyProof.Rows

theorem storeAt_inv {o : Option Slot} {k : Nat} {d : D} {Q : Slot → Prop} (h : storeAt o k d Q) : ∃ ds, k < ds.length ∧ ((o = some (.own1 ds) ∧ Q (.own1 (ds.set k d))) ∨ (o = some (.lent ds) ∧ Q (.lent (ds.set k d)))) := by
  unfold storeAt at h
  split at h
  · exact ⟨_, h.1, .inl ⟨rfl, h.2⟩⟩
  · exact ⟨_, h.1, .inr ⟨rfl, h.2⟩⟩
  · exact h.elim

section
variable {prog : Program} {w : World} {base : Heap} {fa : Nat → Addr} {Φ : Funs} {Λ : Lends} {nm : Nat → Str} {sc : Scope} {env : Env} {A : Around} {vis : List Nat} {E : Value → Shared → Prop} {s : Shared}

theorem setAt_ok {a : Addr} {items : Array Value} {k : Int} {t : Tok} {v : Value} {Q : Unit → Shared → Prop} (hp : s.heap.PlainList a items) (h0 : 0 ≤ k) (hsz : items.size ≤ sizeLine) (hn : k.toNat < items.size)
    (hQ : ∀ h', h'.PlainList a (items.setIfInBounds k.toNat v) → Heap.SameBut a s.heap h' → Q () { s with heap := h' }) : wpAny (model prog w) A (setItem (.ref a) (.int k t) v) Q E s := by
  obtain ⟨n, ho⟩ := hp
  have hl : s.heap.IsList a items := ⟨_, ho, rfl, n, rfl⟩
  have hfin := hQ _ ⟨_, PySem.IsL.update ho (·.setIfInBounds k.toNat v)⟩ (Heap.SameBut.update ..)
  unfold setItem
  try with_reducible refine wpAny_holding ?_
  first | refine wpAny_bind (wpAny_pure ?_) | skip
  refine wpAny_bind (wpAny_sequenceKey hl.typeIs (by decide) ?_)
  refine wpAny_bind (wpAny_callSpecial?_slot (name := Str.ofString "__setitem__") hl.typeIs slot_list_setitem (wpAny_call_entry slot_list_setitem hl.typeIs entry_list_setitem ?_ (args_list_setitem _ _ _)))
  show wpAny _ _ (Builtin.List.listSubscript? (.int k t) >>= _) _ _ s
  refine wpAny_bind (wpAny_listSubscript_int (fitsIndex_of h0 (by rw [sL] at hsz; omega)) ?_)
  obtain ⟨j, rfl⟩ := Int.eq_ofNat_of_zero_le h0
  have hj : j < items.size := hn
  show wpAny _ _ ((seqItemAt a j >>= fun r => pure (r.map (j, ·))) >>= _) _ _ s
  refine wpAny_bind (wpAny_bind (wpAny_seqItemAt ho rfl (wpAny_pure ?_)))
  rw [Array.getElem?_eq_getElem hj]
  show wpAny _ _ (setSeqItemAt a j v >>= _) _ _ s
  refine wpAny_bind (wpAny_setSeqItemAt ho rfl ?_)
  first
    | exact wpAny_bind (wpAny_pure (wpAny_pure ⟨.none, rfl, wpAny_pure hfin⟩))
    | exact wpAny_pure ⟨.none, rfl, wpAny_pure hfin⟩

theorem ss_setItem {i : Nat} {j e : ME} (B : Bd prog w base fa Φ Λ nm sc env A vis) : SS prog w base Φ Λ nm sc env A vis (.setItem i j e) := by
  intro c an exc hid la st own s Q P E hm R q k
  · refine any_elim hm ?_; clear hm; rintro ⟨t, v, pos, rfl⟩ hm
    simp only [Bool.and_eq_true] at hm
    obtain ⟨ht, hm⟩ := hm
    · refine any_elim ht ?_; clear ht; rintro ⟨a', y, ps, rfl⟩ ht
      simp only [Bool.and_eq_true] at ht
      obtain ⟨⟨ht1, ht2⟩, hns⟩ := ht
      obtain ⟨p, rfl, hi, hnm⟩ := isV_inv ht1
      rw [yU] at q
      have S := R.sit B.eo B.ao
      refine wpAny_Assign_Subscript ?_ (by cases v <;> rfl)
      refine (allE B.hsp B.G e).1 _ _ _ _ _ _ _ _ _ _ _ _ hm S (fun _ => B.hc) q fun u s₁ d q₁ r₁ e₁ => ?_
      obtain ⟨sl, ds, hs, hsl, q₁⟩ := ownAt_inv q₁
      obtain ⟨v', hva, hR⟩ := R.slots i _ hi hs (own_ne hsl)
      have key : ∃ a items, v' = .ref a ∧ s.heap.PlainList a items ∧ items.size ≤ sizeLine ∧ RdAll (Zof s.heap (Hof hid own)) items.toList ds ∧ ((sl = .own1 ds ∧ own i = [a]) ∨ (sl = .lent ds ∧ la = some a)) := by
        rcases hsl with rfl | rfl
        · obtain ⟨a, items, e1, e2, r⟩ := hR; exact ⟨a, items, e2, r.1, r.2.1, r.2.2, .inl ⟨rfl, e1⟩⟩
        · obtain ⟨a, items, e1, e2, r⟩ := hR; exact ⟨a, items, e2, r.1, r.2.1, r.2.2, .inr ⟨rfl, e1⟩⟩
      obtain ⟨a, items, rfl, hp, hsz, r, hca⟩ := key
      refine loadV B.eo (hva.ext e₁.1) hnm ?_
      refine (allE B.hsp B.G j).1 _ _ _ _ _ _ _ _ _ _ _ _ ht2 (S.ext e₁) (fun _ => B.hc) q₁ fun kv s₂ kd q₂ r₂ e₂ => ?_
      obtain ⟨kk, rfl, h0, q₂⟩ := intD_inv q₂
      cases r₂ with
      | int _ tk =>
      have e12 := e₁.trans e₂
      obtain ⟨ds', hlt, q₂⟩ := storeAt_inv q₂
      have hds : ds' = ds ∧ ∃ sl', Q .next (st.set i sl') ∧ ((sl = .own1 ds ∧ sl' = .own1 (ds.set kk.toNat d)) ∨ (sl = .lent ds ∧ sl' = .lent (ds.set kk.toNat d))) := by
        rcases q₂ with ⟨h, q⟩ | ⟨h, q⟩
        · rw [hs] at h
          rcases hsl with rfl | rfl
          · cases h; exact ⟨rfl, _, q, .inl ⟨rfl, rfl⟩⟩
          · cases h
        · rw [hs] at h
          rcases hsl with rfl | rfl
          · cases h
          · cases h; exact ⟨rfl, _, q, .inr ⟨rfl, rfl⟩⟩
      obtain ⟨rfl, sl', q₂, hsl'⟩ := hds
      have hl := r.size
      refine setAt_ok (plain_keeps hp e12.1) h0 hsz (by omega) fun h' hp' hs' => ?_
      have kb : ∀ b o, b ≠ a → s₂.heap.get? b = some o → h'.get? b = some o := fun b o n e => (hs'.2 b n).trans e
      have R2 := R.ext e12
      have hsz' : (items.setIfInBounds kk.toNat u).size ≤ sizeLine := by rw [Array.size_setIfInBounds]; exact hsz
      have rd : ∀ hH : Hof hid own a, RdAll (Zof h' (Hof hid own)) (items.setIfInBounds kk.toNat u).toList (ds'.set kk.toNat d) := fun hH => by
        have hz := z_keep (s := s₂) (s' := { s₂ with heap := h' }) hH kb
        rw [Array.toList_setIfInBounds]
        exact ((r.ext e12.1).move hz).set ((r₁.ext e₂.1).move hz)
      rcases hsl' with ⟨rfl, rfl⟩ | ⟨rfl, rfl⟩
      · have e1 : own i = [a] := hca.elim (fun h => h.2) (fun h => nomatch h.1)
        exact k .next .next _ own _ q₂ (R2.mut1 (s' := { s₂ with heap := h' }) hi hs e1 (hva.ext e12.1) hp' hsz' (rd (.inr ⟨i, by rw [e1]; simp⟩)) kb rfl rfl) trivial
      · have e1 : la = some a := hca.elim (fun h => nomatch h.1) (fun h => h.2)
        obtain ⟨l1, l2, l3⟩ := R.lent a e1
        obtain ⟨n, hpe⟩ := plain_keeps hp e12.1
        obtain ⟨n', hpe'⟩ := id hp'
        refine k .next .next _ own _ q₂ (R2.mut (s' := { s₂ with heap := h' }) hi hs (hva.ext e12.1) (.inl l1) l3 (.inl l2) ⟨_, hpe, _, _, rfl⟩ ⟨_, hpe', _, _, rfl⟩ kb rfl rfl (fun l _ q => (R.ownIn l a q).2.1 l1) (fun _ => ⟨_, rfl⟩) ⟨a, _, e1, rfl, hp', hsz', rd (.inl l1)⟩ (fun hne => ?_) (fun _ _ => ⟨_, rfl⟩)) trivial
        obtain ⟨_, h | h⟩ := R.dead i hne
        · obtain ⟨_, h⟩ := h; rw [hs] at h; cases h
        · obtain ⟨_, h⟩ := h; rw [hs] at h; cases h

theorem pop_ok {a : Addr} {items : Array Value} {y : Value} {Q : Value → Shared → Prop} (hp : s.heap.PlainList a items) (hy : items[items.size - 1]? = some y) (hsz : items.size ≤ sizeLine)
    (hQ : ∀ h', h'.PlainList a (items.eraseIdxIfInBounds (items.size - 1)) → Heap.SameBut a s.heap h' → Q y { s with heap := h' }) : wpAny (model prog w) A (call (.builtin "list.pop") [.ref a]) Q E s := by
  obtain ⟨n, ho⟩ := hp
  refine call_meets PySem.F.slot_list_pop ⟨_, ho, rfl⟩ PySem.F.entry_list_pop (PySem.F.args_list_pop_1 _) (PySem.MeetsSeq.list_pop_last a items n y hy hsz) ⟨ho, ?_⟩
  exact hQ _ ⟨_, PySem.IsL.update ho _⟩ (Heap.SameBut.update ..)
theorem pop_list {items : Array Value} : (items.eraseIdxIfInBounds (items.size - 1)).toList = items.toList.dropLast := by
  rw [Array.toList_eraseIdxIfInBounds, List.eraseIdx_eq_take_drop_succ, List.dropLast_eq_take, Array.length_toList, List.drop_of_length_le (by rw [Array.length_toList]; omega), List.append_nil]
theorem RdAll.last {Z : Addr → Obj → Prop} {vs : List Value} {ds : List D} (r : RdAll Z vs ds) (h : ds ≠ []) : RdAll Z vs.dropLast ds.dropLast ∧ ∃ v, vs[vs.length - 1]? = some v ∧ Rd Z v (ds.getLast h) := by
  have hl := r.length
  have hpos : 0 < ds.length := List.length_pos_iff.mpr h
  refine ⟨?_, ?_⟩
  · rw [List.dropLast_eq_take, List.dropLast_eq_take, hl]; exact r.take _
  · obtain ⟨v, h1, h2⟩ := r.get (i := ds.length - 1) (by omega)
    refine ⟨v, by rw [hl]; exact h1, ?_⟩
    rw [List.getLast_eq_getElem]; exact h2

theorem ss_pop {y i : Nat} (B : Bd prog w base fa Φ Λ nm sc env A vis) : SS prog w base Φ Λ nm sc env A vis (.pop y i) := by
  intro c an exc hid la st own s Q P E hm R q k
  · refine any_elim hm ?_; clear hm; rintro ⟨t, v, pos, rfl⟩ hm
    simp only [Bool.and_eq_true] at hm
    obtain ⟨⟨ht, hk⟩, hm⟩ := hm
    obtain ⟨p, rfl, hy, _⟩ := isV_inv ht
    · refine any_elim hm ?_; clear hm; rintro ⟨o, m, apos, pos', rfl, hl⟩ hm
      simp only [Bool.and_eq_true, beq_iff_eq] at hm
      obtain ⟨rfl, ho⟩ := hm
      obtain ⟨p', rfl, hi, hnm⟩ := isV_inv ho
      rw [yV] at q
      obtain ⟨ds, hs, hne, hdl, q⟩ := own1At_inv q
      obtain ⟨v, hva, a, items, e1, rfl, hp, hsz, r⟩ := R.slots i _ hi hs (by simp)
      obtain ⟨n, hpe⟩ := id hp
      obtain ⟨r1, u, hu, ru⟩ := r.last hne
      refine wpAny_Assign_Name ?_ rfl
      refine wpAny_Call_method0_late rfl hl (loadV B.eo hva hnm ?_)
      refine ⟨"list", "list.pop", PySem.F.plainAttrs_list, PySem.F.slot_list_pop, PySem.F.type_list_pop, ⟨_, hpe, rfl⟩, fun b e => by cases e; exact ⟨_, hpe, rfl⟩, ?_⟩
      refine Calls.callWith_builtin rfl (wpAny_pure ?_)
      refine pop_ok (y := u) hp (by rw [← Array.getElem?_toList, ← Array.length_toList]; exact hu) hsz fun h' hp' hs' => ?_
      have hH : Hof hid own a := .inr ⟨i, by rw [e1]; simp⟩
      have kb : ∀ b o, b ≠ a → s.heap.get? b = some o → h'.get? b = some o := fun b o n e => (hs'.2 b n).trans e
      have hz := z_keep (s := s) (s' := { s with heap := h' }) hH kb
      have R1 : Rel base nm sc env vis an exc hid la (st.set i (.own1 ds.dropLast)) own { s with heap := h' } := R.mut1 (s' := { s with heap := h' }) hi hs e1 hva hp' (by
          have h1 := r.size
          have h2 : (items.eraseIdxIfInBounds (items.size - 1)).size = items.size - 1 := by
            rw [← Array.length_toList, pop_list]; simp
          rw [h2]; omega) (by rw [pop_list]; exact r1.move hz) kb rfl rfl
      refine store_ok B.eo R1.fr (kLoc_inv hk) fun s' F' hv' ho e' => ?_
      exact k .next .next _ _ _ q (R1.putSh (Ext.refl _) hy (B.inj y hy) F' hv' ho e' (fun a h => .inl h) (ru.move hz)) trivial

theorem ss_lend {y f i : Nat} {e : ME} (B : Bd prog w base fa Φ Λ nm sc env A vis) : SS prog w base Φ Λ nm sc env A vis (.lend y f i e) := by
  intro c an exc hid la st own s Q P E hm R q k
  · refine any_elim hm ?_; clear hm; rintro ⟨t, v, pos, rfl⟩ hm
    simp only [Bool.and_eq_true] at hm
    obtain ⟨⟨⟨ht, hk⟩, hf⟩, hm⟩ := hm
    obtain ⟨p, rfl, hy, _⟩ := isV_inv ht
    simp only [beq_iff_eq] at hf
    subst hf
    · refine any_elim hm ?_; clear hm; rintro ⟨g, o, x, pg, pc, rfl⟩ hm
      simp only [Bool.and_eq_true, beq_iff_eq, Bool.not_eq_true'] at hm
      obtain ⟨⟨⟨⟨⟨rfl, hg⟩, hn⟩, ho⟩, hm⟩, hst⟩ := hm
      obtain ⟨p', rfl, hi, hnm⟩ := isV_inv ho
      rw [yW] at q
      obtain ⟨ds, hs, q⟩ := own1At_inv q
      obtain ⟨v, hva, a, items, e1, rfl, hp, hsz, r⟩ := R.slots i _ hi hs (by simp)
      have S := R.sit B.eo B.ao
      have hai : a ∈ own i := by rw [e1]; simp
      have hH : Hof hid own a := .inr ⟨i, hai⟩
      refine wpAny_Assign_Name ?_ rfl
      refine Call_Name rfl (fn_name B.G S (by decide) hg hn ?_)
      refine PySem.W.callWith_of (P := fun h => base.StaysIn h) (by rw [star_cons (x := .Name (nm i) p') rfl, star_cons hst]; rfl) (fn_keeps B.G (by decide)) ?_
      have key : ∀ P' : Value → Shared → Prop, (∀ r s' d' ds' items', Q .next ((st.set i (.own1 ds')).set y (.sh d')) → Rd (Zof s'.heap (Hof hid own)) r d' → s'.heap.PlainList a items' → items'.size ≤ sizeLine → RdAll (Zof s'.heap (Hof hid own)) items'.toList ds' → (∀ b o, b ≠ a → s.heap.get? b = some o → s'.heap.get? b = some o) → s'.gens = s.gens → s'.os = s.os → P' r s') →
          wpAny (model prog w) A (spliced (backTo pc (starEach [.Name (nm i) p', x] env))) (fun vs s₁ => base.StaysIn s₁.heap ∧ wpAny (model prog w) A (call (.ref (fa 8)) vs) P' E s₁) E s := fun P' hP' => by
        refine spliced_more (loadV B.eo hva hnm ?_) rfl
        refine spliced_more ?_ (star_cons hst)
        refine (allE B.hsp B.G e).1 _ _ _ _ _ _ _ _ _ _ _ _ hm S (fun _ => B.hc) q fun u s₁ d q₁ r₁ e₁ => spliced_none ?_
        refine ⟨(S.ext e₁).ba, B.hl ds d _ q₁ s₁ (Hof hid own) a items u P' E (S.ext e₁).ba (R.ownIn i a hai).2.2.1 (S.ext e₁).hi hH (plain_keeps hp e₁.1) hsz (r.ext e₁.1) r₁ fun r' s' d' ds' items' q' h1 h2 h3 h4 h5 h6 h7 => ?_⟩
        exact hP' r' s' d' ds' items' q' h1 h2 h3 h4 (fun b o n e => h5 b o n (e₁.1 b o e)) (h6.trans e₁.2.1) (h7.trans e₁.2.2)
      rw [star_cons (x := .Name (nm i) p') rfl] at key ⊢
      refine evalArgs_plain (key _ fun r' s₁ d' ds' items' q' h1 h2 h3 h4 h5 h6 h7 => ?_)
      have R1 : Rel base nm sc env vis an exc hid la (st.set i (.own1 ds')) own s₁ := R.mut1 hi hs e1 hva h2 h3 h4 h5 h6 h7
      refine store_ok B.eo R1.fr (kLoc_inv hk) fun s' F' hv' ho e' => ?_
      exact k .next .next _ _ _ q' (R1.putSh (Ext.refl _) hy (B.inj y hy) F' hv' ho e' (fun a h => .inl h) h1) trivial
end
end
section
open PySem PySem.Calls PySem.Spec PyProof.Rows

section
variable {prog : Program} {w : World} {base : Heap} {fa : Nat → Addr} {Φ : Funs} {Λ : Lends} {nm : Nat → Str} {sc : Scope} {env : Env} {A : Around} {vis : List Nat} {E : Value → Shared → Prop}

theorem rel_each {an : Shared} {exc : Addr → Prop} {hid : Hid} {la : Option Addr} {Q : St → Prop} {P : Unit → Shared → Prop} (eo : EnvOk sc env) (inj : ∀ i ∈ vis, ∀ j ∈ vis, nm j = nm i → j = i) : ∀ {is : List Nat} {es : List PySem.Expr} {vs : List Value} {ds : List D} {st : St} {own : Own} {s : Shared},
    mNames nm is es = true → (∀ i ∈ is, kLoc nm sc i = true ∧ i ∈ vis) → Rel base nm sc env vis an exc hid la st own s → RdAll (Zof s.heap (Hof hid own)) vs ds → ds.length = is.length → Q (setMany st is ds) →
    (∀ st' own' s', Q st' → Rel base nm sc env vis an exc hid la st' own' s' → P () s') → wpAny (model prog w) A (assignInOrder ((assignEach es env).map (·.2)) vs) P E s
  | [], [], _, _, st, own, s, _, _, R, r, hl, q, k => by
    cases r with
    | nil => exact wpAny_pure (k _ _ _ q R)
    | cons => simp at hl
  | i :: is, e :: es, vs, ds, st, own, s, hm, hk, R, r, hl, q, k => by
    set_option tactic.hygienic true in cases r with
    | nil => simp at hl
    | cons hv r =>
      rename_i v vs d ds
      simp only [mNames, Bool.and_eq_true] at hm
      obtain ⟨hm1, hm2⟩ := hm
      · refine any_elim hm1 ?_; clear hm1; rintro ⟨x, p, rfl⟩ hm1
        simp only [beq_iff_eq] at hm1
        subst hm1
        have he : assignEach (.Name (nm i) p :: es) env = (false, assign (.Name (nm i) p) env) :: assignEach es env := rfl
        rw [he]
        obtain ⟨hkl, hi⟩ := hk i List.mem_cons_self
        refine assignInOrder_cons (wpAny_assign_Name (store_ok eo R.fr (kLoc_inv hkl) fun s' F' hv' ho e' => ?_))
        have sq := R.fr.seq e'
        have R' := R.putSh (Ext.refl _) hi (inj i hi) F' hv' ho e' (fun a h => .inl h) hv
        exact rel_each eo inj hm2 (fun j hj => hk j (List.mem_cons_of_mem _ hj)) R' (r.move fun a o q z => ⟨sq a o q z.1, fun h => z.2 h.sub⟩) (by simpa using hl) q k
  | [], _ :: _, _, _, _, _, _, hm, _, _, _, _, _, _ => by simp [mNames] at hm
  | _ :: _, [], _, _, _, _, _, hm, _, _, _, _, _, _ => by simp [mNames] at hm

theorem rel_assign {an : Shared} {exc : Addr → Prop} {hid : Hid} {la : Option Addr} {Q : St → Prop} {P : Unit → Shared → Prop} {tg : Tgt} {t : PySem.Expr} {v : Value} {d : D} {st : St} {own : Own} {s : Shared} (eo : EnvOk sc env) (inj : ∀ i ∈ vis, ∀ j ∈ vis, nm j = nm i → j = i) (hh : A.handled = none)
    (hm : mTgt nm tg t = true) (hk : ∀ i ∈ tg.ids, kLoc nm sc i = true ∧ i ∈ vis) (R : Rel base nm sc env vis an exc hid la st own s) (r : Rd (Zof s.heap (Hof hid own)) v d) (q : assignT tg st d Q)
    (k : ∀ st' own' s', Q st' → Rel base nm sc env vis an exc hid la st' own' s' → P () s') : wpAny (model prog w) A (assign t env v) P E s := by
  cases tg with
  | one i =>
    · refine any_elim hm ?_; clear hm; rintro ⟨x, p, rfl⟩ hm
      simp only [beq_iff_eq] at hm
      subst hm
      obtain ⟨hkl, hi⟩ := hk i List.mem_cons_self
      refine wpAny_assign_Name (store_ok eo R.fr (kLoc_inv hkl) fun s' F' hv' ho e' => ?_)
      exact k _ _ _ q (R.putSh (Ext.refl _) hi (inj i hi) F' hv' ho e' (fun a h => .inl h) r)
  | many is =>
    · refine any_elim hm ?_; clear hm; rintro ⟨es, kk, p, rfl⟩ hm
      cases d with
      | tuple ds =>
        obtain ⟨hl, q⟩ := q
        obtain ⟨a, vs, rfl, ht, hn, rr⟩ := r.isTuple
        have es' := rr.size
        obtain ⟨e1, e2⟩ := mNames_each (env := env) hm
        refine wpAny_assign_Tuple hh ht (by rw [e1, es', hl]) e2 fun h' hs => ?_
        have ex : Ext s { s with heap := h' } := ⟨fun b o e => hs b o (fun q => Nat.lt_irrefl _ (q ▸ Heap.lt_size e)) e, rfl, rfl⟩
        exact rel_each eo inj hm hk (R.ext ex) (rr.ext ex.1) hl q k
      | _ => exact q.elim

theorem ss_unpack {is : List Nat} {e : ME} (B : Bd prog w base fa Φ Λ nm sc env A vis) : SS prog w base Φ Λ nm sc env A vis (.unpack is e) := by
  intro c an exc hid la st own s Q P E hm R q k
  · refine any_elim hm ?_; clear hm; rintro ⟨t, v, pos, rfl⟩ hm
    simp only [Bool.and_eq_true, List.all_eq_true, decide_eq_true_eq, List.contains_iff_mem, Bool.not_eq_true'] at hm
    obtain ⟨⟨⟨⟨⟨ht, hk⟩, hnd⟩, hm⟩, hnt⟩, hnc⟩ := hm
    rw [yR] at q
    obtain ⟨es, kk, p, rfl⟩ : ∃ es kk p, t = .Tuple es kk p := any_elim ht fun ⟨es, kk, p, h⟩ _ => ⟨es, kk, p, h⟩
    refine wpAny_Assign_stores ?_ (by cases v <;> first | rfl | exact Bool.noConfusion (show true = false from hnc)) (by cases v <;> first | rfl | exact Bool.noConfusion (show true = false from hnt))
    refine (allE B.hsp B.G e).1 _ _ _ _ _ _ _ _ _ _ _ _ hm (R.sit B.eo B.ao) (fun _ => B.hc) q fun u s₁ d q₁ r₁ e₁ => ?_
    exact rel_assign B.eo B.inj B.ao.h ht hk (R.ext e₁) r₁ q₁ fun st' own' s' q' R' => k .next .next _ _ _ q' R' trivial

theorem ss_ite {c : ME} {a b : List MS} (B : Bd prog w base fa Φ Λ nm sc env A vis) (ha : SSs prog w base Φ Λ nm sc env A vis a) (hb : SSs prog w base Φ Λ nm sc env A vis b) : SS prog w base Φ Λ nm sc env A vis (.ite c a b) := by
  intro c' an exc hid la st own s Q P E hm R q k
  · refine any_elim hm ?_; clear hm; rintro ⟨t, x, y, pos, rfl⟩ hm
    simp only [Bool.and_eq_true] at hm
    obtain ⟨⟨⟨hm, ht⟩, h1⟩, h2⟩ := hm
    rw [yX] at q
    refine wpAny_If ((allE B.hsp B.G c).2 _ _ _ _ _ _ _ _ _ _ _ _ hm ht (R.sit B.eo B.ao) (fun _ => B.hc) q fun r s₁ q₁ e₁ => ?_)
    cases r with
    | true =>
      rw [if_pos rfl] at q₁
      exact ha _ _ _ _ _ _ _ _ _ _ _ h1 (R.ext e₁) q₁ k
    | false =>
      rw [if_neg (by simp)] at q₁
      exact hb _ _ _ _ _ _ _ _ _ _ _ h2 (R.ext e₁) q₁ k
theorem ss_ret {e : ME} (B : Bd prog w base fa Φ Λ nm sc env A vis) : SS prog w base Φ Λ nm sc env A vis (.ret e) := by
  intro c' an exc hid la st own s Q P E hm R q k
  · refine any_elim hm ?_; clear hm; rintro ⟨v, pos, rfl⟩ hm
    rw [x0] at q
    exact wpAny_Return_some ((allE B.hsp B.G e).1 _ _ _ _ _ _ _ _ _ _ _ _ hm (R.sit B.eo B.ao) (fun _ => B.hc) q fun u s₁ d q₁ r₁ e₁ => k (.ret d) (.ret u) _ _ _ q₁ (R.ext e₁) r₁)
theorem ss_cont : SS prog w base Φ Λ nm sc env A vis .cont := by
  intro c' an exc hid la st own s Q P E hm R q k
  obtain ⟨⟨_, pos, rfl⟩, _⟩ := some_inv hm
  rw [x3] at q
  exact wpAny_Continue (k .cont .cont _ _ _ q R trivial)

theorem ss_while {c : ME} {body : List MS} (B : Bd prog w base fa Φ Λ nm sc env A vis) (hb : SSs prog w base Φ Λ nm sc env A vis body) : SS prog w base Φ Λ nm sc env A vis (.whileLoop c body) := by
  intro c' an exc hid la st own s Q P E hm R q k
  · refine any_elim hm ?_; clear hm; rintro ⟨t, x, pos, rfl⟩ hm
    simp only [Bool.and_eq_true] at hm
    obtain ⟨⟨hm, ht⟩, h1⟩ := hm
    obtain ⟨I, ⟨n, hI⟩, turn⟩ := q
    refine wpAny_While (codeAny_whileLoop (fun n s' => ∃ st own, I n st ∧ Rel base nm sc env vis an exc hid la st own s') ?_ n ⟨st, own, hI, R⟩)
    rintro n s' ⟨st, own, hI, R⟩
    refine (allE B.hsp B.G c).2 _ _ _ _ _ _ _ _ _ _ _ _ hm ht (R.sit B.eo B.ao) (fun _ => B.hc) (turn n st hI) fun r s₁ q₁ e₁ => ?_
    cases r with
    | true =>
      rw [if_pos rfl] at q₁
      (first | refine Mine.ite_yes rfl ?_ | rw [if_pos rfl])
      refine hb _ _ _ _ _ _ _ _ _ _ _ h1 (R.ext e₁) q₁ fun mf fl st' own' s₂ q₂ R₂ fo => ?_
      cases mf with
      | next =>
        cases fl with
        | next => obtain ⟨m, hm, hI'⟩ := q₂; exact ⟨m, hm, st', own', hI', R₂⟩
        | _ => exact fo.elim
      | cont =>
        cases fl with
        | cont => obtain ⟨m, hm, hI'⟩ := q₂; exact ⟨m, hm, st', own', hI', R₂⟩
        | _ => exact fo.elim
      | ret d =>
        cases fl with
        | ret v => exact k (.ret d) (.ret v) _ _ _ q₂ R₂ fo
        | _ => exact fo.elim
    | false =>
      rw [if_neg (by simp)] at q₁
      (first | refine Mine.ite_no (by simp) ?_ | rw [if_neg (by simp)])
      exact wpAny_execs_nil (k .next .next _ _ _ q₁ (R.ext e₁) trivial)
end

section
variable {base : Heap} {nm : Nat → Str} {sc : Scope} {env : Env} {vis : List Nat} {an : Shared} {exc : Addr → Prop} {hid : Hid} {la : Option Addr} {st st' : St} {own own' : Own} {s s' : Shared}
/-- what is read before a run that starts here is read after it -/
theorem Rel.zback (R : Rel base nm sc env vis an exc hid la st own s) (R' : Rel base nm sc env vis s (excAt sc env own la) hid la st' own' s') : ∀ a o, isSeq o → Zof s.heap (Hof hid own) a o → Zof s'.heap (Hof hid own') a o := by
  intro a o q z
  have nx : ¬ excAt sc env own la a := by
    rintro (h | ⟨i, h⟩ | h)
    · exact R.fr.notSeq h z.1 q
    · exact z.2 (.inr ⟨i, h⟩)
    · exact z.2 (.inl (R.lent a h).1)
  refine ⟨R'.keep a o z.1 nx, ?_⟩
  rintro (h | ⟨i, h⟩)
  · exact z.2 (.inl h)
  · rcases (R'.ownIn i a h).2.2.2 with h | h
    · exact nx h
    · rw [z.1] at h; cases h
theorem RdAll.of_get {Z : Addr → Obj → Prop} : ∀ {vs : List Value} {ds : List D}, vs.length = ds.length → (∀ (k : Nat) (v : Value) (d : D), vs[k]? = some v → ds[k]? = some d → Rd Z v d) → RdAll Z vs ds
  | [], [], _, _ => .nil
  | v :: vs, d :: ds, hl, h => .cons (h 0 v d rfl rfl) (RdAll.of_get (by simpa using hl) fun k v' d' h1 h2 => h (k + 1) v' d' (by simpa using h1) (by simpa using h2))
  | [], _ :: _, hl, _ => by simp at hl
  | _ :: _, [], hl, _ => by simp at hl
theorem frozen_inv {o : Option Slot} {Q : D → Prop} (h : frozen o Q) : (∃ ds, o = some (.own1 ds) ∧ Q (.list ds)) ∨ ∃ dss, o = some (.own2 dss) ∧ Q (.list (dss.map .list)) := by
  unfold frozen at h
  split at h
  · exact .inl ⟨_, rfl, h⟩
  · exact .inr ⟨_, rfl, h⟩
  · exact h.elim
theorem Rel.freeze {i : Nat} {v : Value} {d : D} (R : Rel base nm sc env vis an exc hid la st own s) (hi : i ∈ vis) (inj : ∀ j ∈ vis, nm j = nm i → j = i) (hva : VarAt env s.heap (nm i) v) (r : Rd (Zof s.heap (Hof hid (updO own i []))) v d) :
    Rel base nm sc env vis an exc hid la (st.set i (.sh d)) (updO own i []) s :=
  R.put (hid := hid) (as := []) hi inj R.fr hva (fun _ _ _ h => h) (O := fun _ => False) (ExtO.refl s) (fun _ h => h.elim) (fun _ h => h) (fun a h => (R.lent a h).1) (fun _ h => nomatch h) (fun _ h => nomatch h) List.nodup_nil r (fun h => absurd rfl h) (fun _ h => nomatch h)
theorem Rel.notHof {i : Nat} {a : Addr} (R : Rel base nm sc env vis an exc hid la st own s) (ha : a ∈ own i) : ¬ Hof hid (updO own i []) a := by
  rintro (h | ⟨j, h⟩)
  · exact (R.ownIn i a ha).2.1 h
  · by_cases q : j = i
    · subst q; rw [updO_same] at h; cases h
    · rw [updO_other q] at h; exact q (R.apart j i a h ha)
theorem Rel.frozen {i : Nat} {Q : D → Prop} (R : Rel base nm sc env vis an exc hid la st own s) (hi : i ∈ vis) (inj : ∀ j ∈ vis, nm j = nm i → j = i) (q : frozen st[i]? Q) : ∃ d, Q d ∧ Rel base nm sc env vis an exc hid la (st.set i (.sh d)) (updO own i []) s := by
  have hz : ∀ a o, isSeq o → Zof s.heap (Hof hid own) a o → Zof s.heap (Hof hid (updO own i [])) a o := fun a o _ z => ⟨z.1, fun h => z.2 h.sub⟩
  rcases frozen_inv q with ⟨ds, hs, q⟩ | ⟨dss, hs, q⟩
  · obtain ⟨v, hva, a, items, e1, rfl, hp, hsz, r⟩ := R.slots i _ hi hs (by simp)
    exact ⟨_, q, R.freeze hi inj hva (rd_list hp (R.notHof (by rw [e1]; simp)) hsz (r.move hz))⟩
  · obtain ⟨v, hva, a, bs, e1, rfl, hp, hbl, hlen, hin⟩ := R.slots i _ hi hs (by simp)
    refine ⟨_, q, R.freeze hi inj hva (rd_list hp (R.notHof (by rw [e1]; simp)) (by simpa using hbl) (RdAll.of_get (by simpa using hlen) fun k v d h1 h2 => ?_))⟩
    rw [List.getElem?_map] at h1 h2
    cases hb : bs[k]? with
    | none => rw [hb] at h1; cases h1
    | some b =>
      cases hd : dss[k]? with
      | none => rw [hd] at h2; cases h2
      | some ds =>
        rw [hb] at h1; rw [hd] at h2
        cases h1; cases h2
        obtain ⟨items, h1, h2, h3⟩ := hin k b ds hb hd
        exact rd_list h1 (R.notHof (by rw [e1]; exact List.mem_cons_of_mem _ (List.mem_of_getElem? hb))) h2 (h3.move hz)
end
end
section
open PySem PySem.Calls PySem.Spec PyProof.Rows

section
variable {prog : Program} {w : World} {base : Heap} {fa : Nat → Addr} {Φ : Funs} {Λ : Lends} {nm : Nat → Str} {sc : Scope} {env : Env} {A : Around} {vis : List Nat}

theorem ss_for {tg : Tgt} {it : It} {body : List MS} (B : Bd prog w base fa Φ Λ nm sc env A vis) (hb : SSs prog w base Φ Λ nm sc env A vis body) : SS prog w base Φ Λ nm sc env A vis (.forLoop tg it body) := by
  intro c' an exc hid la st₀ own₀ s₀ Q P E hm R₀ q k
  · refine any_elim hm ?_; clear hm; rintro ⟨t, x, y, pos, rfl⟩ hm
    simp only [Bool.and_eq_true, List.all_eq_true, decide_eq_true_eq, List.contains_iff_mem, Bool.not_eq_true'] at hm
    obtain ⟨⟨⟨⟨⟨⟨hT, hkl⟩, hnd⟩, hmIt⟩, hnv⟩, hset⟩, hbody⟩ := hm
    rw [yZ] at q
    refine wpAny_For ?_ (folded_ok hset)
    refine allIt B.hsp B.G it _ _ _ _ _ _ _ _ _ _ _ _ hmIt (R₀.sit B.eo B.ao) (fun _ => B.hc) q fun I s₁ s₂ items q₁ hlen e1 e2 hI hI' hIter => ?_
    obtain ⟨fp, Pp, St, W, hst0, hfp, hP, hgo, hnq⟩ := hIter
    rw [hnv] at hfp
    have R₁ := R₀.ext e1
    have iNew : s₁.heap.get? I = none := by
      cases h : s₁.heap.get? I with
      | none => rfl
      | some o => exact absurd (Heap.lt_size h) (Nat.not_lt.mpr hI)
    obtain ⟨ib, ix, ih, _⟩ := R₁.newA iNew
    have ifr : ¬ (I = env.locals ∨ ∃ x, env.cells.lookup x = some I) := by
      rintro (h | ⟨x, h⟩)
      · obtain ⟨_, o, _, _, ho, _⟩ := R₁.fr.ns; rw [← h, iNew] at ho; cases ho
      · obtain ⟨_, o, ho, _⟩ := R₁.fr.cs x _ h; rw [iNew] at ho; cases ho
    have iOwn : ¬ OwnA sc env I := by
      rintro (h | ⟨x, _, h⟩)
      · exact ifr (.inl h)
      · exact ifr (.inr ⟨x, h⟩)
    have stepN : ∀ {st own} {s' : Shared} {i : Nat} {h' : Heap} {tk : Nat}, Rel base nm sc env vis an exc hid la st own s' → St i s'.heap → (∀ b o, b ∉ [I] → s'.heap.get? b = some o → h'.get? b = some o) → Rel base nm sc env vis an exc hid la st own { s' with heap := h', toks := tk } :=
      fun R hSt hk => R.other ib ix ifr ih (hnq _ _ hSt) (fun b o n e => hk b o (by simpa using n) e) rfl rfl
    have stepZ : ∀ {H : Hid} {s' : Shared} {i : Nat} {h' : Heap}, St i s'.heap → (∀ b o, b ∉ [I] → s'.heap.get? b = some o → h'.get? b = some o) → ∀ a o, isSeq o → Zof s'.heap H a o → Zof h' H a o := fun hSt hk a o q z => ⟨hk a o (fun h => by
      rw [List.mem_singleton] at h; subst h
      obtain ⟨o', e', n⟩ := hnq _ _ hSt
      rw [z.1] at e'; cases e'; exact n q) z.1, z.2⟩
    refine codeAny_forLoop_any (fun n s' => ∃ i st own, i ≤ items.length ∧ n = items.length - i ∧ St i s'.heap ∧ Rel base nm sc env vis an exc hid la st own s' ∧ forGo (forB Φ Λ tg body) (items.drop i) st Q ∧
      ∀ a o, isSeq o → Zof s₁.heap (Hof hid own₀) a o → Zof s'.heap (Hof hid own) a o) ?_ items.length ⟨0, st₀, own₀, Nat.zero_le _, rfl, hst0, R₁.ext e2, by simpa using q₁, fun a o _ z => ⟨e2.1 a o z.1, z.2⟩⟩
    rintro n s' ⟨i, st, own, hi, rfl, hSt, R, q, hz⟩
    by_cases hlt : i < items.length
    · refine W.item i s' _ _ hlt hSt fun v h' tk hv hSt' hk => ?_
      have R1 := stepN (tk := tk) R hSt hk
      have hz1 : ∀ a o, isSeq o → Zof s₁.heap (Hof hid own₀) a o → Zof h' (Hof hid own) a o := fun a o qs z => stepZ hSt hk a o qs (hz a o qs z)
      refine hgo (i + 1) _ _ _ _ _ hSt' ?_
      rw [List.drop_eq_getElem_cons hlt] at q
      have rv : Rd (Zof h' (Hof hid own)) v items[i] := (hP i v hv hlt).move hz1
      refine rel_assign B.eo B.inj B.ao.h hT hkl R1.anchor rv q fun st' own' s3 q3 R3 => ?_
      refine hb _ _ _ _ _ _ _ _ _ _ _ hbody R3 q3 fun mf fl st4 own4 s4 q4 R4 fo => ?_
      have next : forGo (forB Φ Λ tg body) (items.drop (i + 1)) st4 Q → ∃ m, m < items.length - i ∧ ∃ i st own, i ≤ items.length ∧ m = items.length - i ∧ St i s4.heap ∧ Rel base nm sc env vis an exc hid la st own s4 ∧ forGo (forB Φ Λ tg body) (items.drop i) st Q ∧
          ∀ a o, isSeq o → Zof s₁.heap (Hof hid own₀) a o → Zof s4.heap (Hof hid own) a o := fun q5 => by
        have zb := R1.zback R4
        refine ⟨items.length - (i + 1), by omega, i + 1, st4, own4, hlt, rfl, ?_, R1.back R4, q5, fun a o qs z => zb a o qs (hz1 a o qs z)⟩
        refine W.frame (i + 1) _ _ hSt' fun b hb' o e => ?_
        by_cases qb : b = I
        · subst qb
          refine R4.keep b o e ?_
          rintro (h | ⟨j, h⟩ | h)
          · exact iOwn h
          · obtain ⟨⟨o', e', hq⟩, _⟩ := R1.ownIn j b h
            obtain ⟨o'', e'', n⟩ := hnq _ _ hSt'
            have := e'.symm.trans e''; cases this; exact n hq
          · exact ih (R.lent b h).1
        · obtain ⟨o', e', qs, nh⟩ := hfp b hb' qb
          have z1 := hz1 b o' qs ⟨e', nh rfl⟩
          have : o' = o := Option.some.inj (z1.1.symm.trans e)
          subst this
          exact (zb b o' qs z1).1
      cases mf with
      | next =>
        cases fl with
        | next => exact next q4
        | _ => exact fo.elim
      | cont =>
        cases fl with
        | cont => exact next q4
        | _ => exact fo.elim
      | ret d =>
        cases fl with
        | ret u => exact k (.ret d) (.ret u) _ _ _ q4 (R1.back R4) fo
        | _ => exact fo.elim
    · have hie : i = items.length := by omega
      subst hie
      refine W.done s' _ _ hSt fun h' tk hk => ?_
      rw [List.drop_of_length_le (Nat.le_refl _)] at q
      exact wpAny_execs_nil (k .next .next _ _ _ q (stepN R hSt hk) trivial)
end
end
section
open PySem PySem.Calls PySem.Spec PyProof.Rows

/-! `[[] for _ in range(n)]` -/
/-- where the list of new lists stands -/
structure NewSt (csc : Scope) (cenv : Env) (s₁ : Shared) (I D : Addr) (bs : List Addr) (s' : Shared) : Prop where
  ext : Ext s₁ s'
  fr : FrOk csc cenv s'.heap
  acc : s'.heap.PlainList D (bs.map Value.ref).toArray
  each : ∀ b ∈ bs, s'.heap.PlainList b #[] ∧ s₁.heap.get? b = none ∧ b ≠ D
  nod : bs.Nodup

section
variable {csc : Scope} {cenv : Env} {H : Hid} {s₁ : Shared} {I D : Addr} {fp : List Addr} {bs : List Addr} {s s' : Shared}
theorem NewSt.next (C : CompAt csc cenv H s₁ I D fp) (x : NewSt csc cenv s₁ I D bs s) {h' : Heap} {tk : Nat} (hI : ∃ o, s.heap.get? I = some o ∧ ¬ isSeq o) (hk : ∀ b o, b ∉ [I] → s.heap.get? b = some o → h'.get? b = some o) : NewSt csc cenv s₁ I D bs { s with heap := h', toks := tk } := by
  have k : ∀ b o, b ≠ I → s.heap.get? b = some o → h'.get? b = some o := fun b o n e => hk b o (by simpa using n) e
  have sq : SeqStays s.heap h' := fun a o q e => k a o (fun h => by
    subst h
    obtain ⟨o', e', n⟩ := hI
    rw [e] at e'; cases e'; exact n q) e
  have pl : ∀ {a : Addr} {items : Array Value}, s.heap.PlainList a items → h'.PlainList a items := fun ⟨n, e⟩ => ⟨n, sq _ _ ⟨_, _, rfl⟩ e⟩
  refine ⟨⟨fun b o e => k b o (fun h => by subst h; rw [C.iNew] at e; cases e) (x.ext.1 b o e), x.ext.2.1, x.ext.2.2⟩, x.fr.keep fun a o h e => k a o ?_ e, pl x.acc, fun b hb => ⟨pl (x.each b hb).1, (x.each b hb).2⟩, x.nod⟩
  rcases h with rfl | ⟨y, hy⟩
  · exact (C.own _ (.inl rfl)).2.1
  · exact (C.cells y a hy).1
theorem NewSt.store (C : CompAt csc cenv H s₁ I D fp) (x : NewSt csc cenv s₁ I D bs s) (F : FrOk csc cenv s'.heap) (e : ExtO (OwnA csc cenv) s s') : NewSt csc cenv s₁ I D bs s' := by
  have sq := x.fr.seq e
  have pl : ∀ {a : Addr} {items : Array Value}, s.heap.PlainList a items → s'.heap.PlainList a items := fun ⟨n, e⟩ => ⟨n, sq _ _ ⟨_, _, rfl⟩ e⟩
  refine ⟨⟨fun b o h => e.1 b o (fun q => ?_) (x.ext.1 b o h), e.2.1.trans x.ext.2.1, e.2.2.trans x.ext.2.2⟩, F, pl x.acc, fun b hb => ⟨pl (x.each b hb).1, (x.each b hb).2⟩, x.nod⟩
  rw [(C.own b q).1] at h; cases h
theorem NewSt.grow (x : NewSt csc cenv s₁ I D bs s) (e : Ext s s') : NewSt csc cenv s₁ I D bs s' :=
  ⟨x.ext.trans e, x.fr.ext e.1, plain_keeps x.acc e.1, fun b hb => ⟨plain_keeps (x.each b hb).1 e.1, (x.each b hb).2⟩, x.nod⟩
theorem NewSt.push (C : CompAt csc cenv H s₁ I D fp) (x : NewSt csc cenv s₁ I D bs s) {h' : Heap} {b : Addr} (hb : s.heap.PlainList b #[]) (hn : s₁.heap.get? b = none) (hD : b ≠ D) (hnb : b ∉ bs)
    (hl : h'.PlainList D ((bs.map Value.ref).toArray.push (.ref b))) (hs : Heap.SameBut D s.heap h') : NewSt csc cenv s₁ I D (bs ++ [b]) { s with heap := h' } := by
  have k : ∀ b o, b ≠ D → s.heap.get? b = some o → h'.get? b = some o := fun b o n e => (hs.2 b n).trans e
  have pl : ∀ {a : Addr} {items : Array Value}, a ≠ D → s.heap.PlainList a items → h'.PlainList a items := fun n ⟨m, e⟩ => ⟨m, k _ _ n e⟩
  refine ⟨⟨fun b o e => k b o (fun q => by subst q; rw [C.dNew] at e; cases e) (x.ext.1 b o e), x.ext.2.1, x.ext.2.2⟩, x.fr.keep fun a o h e => k a o ?_ e, ?_, fun c hc => ?_, ?_⟩
  · rcases h with rfl | ⟨z, hz⟩
    · exact (C.own _ (.inl rfl)).2.2
    · exact (C.cells z a hz).2
  · simpa using hl
  · rcases List.mem_append.mp hc with hc | hc
    · exact ⟨pl (x.each c hc).2.2 (x.each c hc).1, (x.each c hc).2⟩
    · rw [List.mem_singleton] at hc; subst hc; exact ⟨pl hD hb, hn, hD⟩
  · rw [List.nodup_append]
    refine ⟨x.nod, by simp, fun a ha c hc => ?_⟩
    rw [List.mem_singleton] at hc; subst hc
    rintro rfl; exact hnb ha
end

section
variable {prog : Program} {w : World} {base : Heap} {fa : Nat → Addr} {Φ : Funs} {Λ : Lends} {nm : Nat → Str} {sc : Scope} {env : Env} {A : Around} {vis : List Nat} {E : Value → Shared → Prop}

theorem new2_inv {sc : Scope} {vis : List Nat} {e : ME} {v : PySem.Expr} (h : mNew2 nm sc vis e v = true) : ∃ px y py iter csc pos, v = .ListComp (.List [] px) [⟨.Name y py, iter, [], 0⟩] csc pos ∧ mIt nm true sc vis (.range0 e) iter = true ∧ csc.kind = .function ∧ (csc.names.map (·.1)).Nodup ∧
    csc.names.lookup y = some .local ∧ ∀ z ∈ csc.names, z.2 ≠ .free ∧ z.2 ≠ .cell := by
  · refine any_elim h ?_; clear h; rintro ⟨x, g, csc, pos, rfl⟩ h
    obtain ⟨target, iter, ifs, as⟩ := g
    simp only [Bool.and_eq_true, beq_iff_eq, decide_eq_true_eq, List.isEmpty_iff, List.all_eq_true, bne_iff_ne] at h
    obtain ⟨⟨⟨⟨⟨⟨⟨rfl, rfl⟩, h1⟩, h2⟩, h3⟩, h4⟩, h5⟩, h6⟩ := h
    refine any_elim h1 ?_; clear h1; rintro ⟨xs, px, rfl⟩ h1
    cases List.isEmpty_iff.mp h1
    refine any_elim h5 ?_; clear h5; rintro ⟨y, py, rfl⟩ h5
    simp only [beq_iff_eq] at h5
    exact ⟨px, y, py, iter, csc, pos, rfl, h2, h3, h4, h5, h6⟩

theorem new2_run {e : ME} {cl : Bool} {csc sc : Scope} {env : Env} {vis : List Nat} {px py : Pos} {y : Str} {iter : PySem.Expr} {pos : Pos} {A : Around} {H : Hid} {st : St} {s : Shared} {Q : List Mine.D → Prop}
    {E : Value → Shared → Prop} {RR : Value → Addr → Result → Shared → Prop} (hIt : SIt prog w base fa Φ nm (.range0 e)) (hmIt : mIt nm cl sc vis (.range0 e) iter = true) (hkind : csc.kind = .function) (hnd : (csc.names.map (·.1)).Nodup)
    (hy : csc.names.lookup y = some .local) (hfc : ∀ z ∈ csc.names, z.2 ≠ .free ∧ z.2 ≠ .cell) (S : Sit base nm sc env A vis H st s) (hc : cl = true → CallOk prog w base fa Φ A) (q : wpIt Φ (.range0 e) st Q)
    (hRR : ∀ D C s' bs items, Q items → bs.length = items.length → items.length ≤ 1000000 → s'.heap.PlainList D (bs.map Value.ref).toArray → (∀ b ∈ D :: bs, s.heap.get? b = none) → (∀ b ∈ bs, s'.heap.PlainList b #[]) → (D :: bs).Nodup → Ext s s' → s.heap.get? C = none → (∃ m, s'.heap.Ns C m) → RR (.ref D) C (.ok .next) s') :
    wpAny (model prog w) A (eval iter env) (fun xv s₁ => wpAny (model prog w) A (pyIter xv) (fun it s₂ => wpAny (model prog w) A (newList []) (fun acc s₃ =>
      wpAny (model prog w) A (newFunctionEnv csc env.globals (closAcc env csc.names []) [] env.qual none .none (some env)) (fun cenv s₄ =>
        codeAny (model prog w) A (.compStart (.ListComp (.List [] px) [⟨.Name y py, iter, [], 0⟩] csc pos) 0 it acc { cenv with scope := relabel csc env }) (RR acc cenv.locals) s₄) E s₃) E s₂) E s₁) E s := by
  have cf : ∀ z ∈ csc.names, z.2 = .free → ∃ c, env.cells.lookup z.1 = some c := fun z hz h => absurd h (hfc z hz).1
  refine hIt _ _ _ _ _ _ _ _ _ _ _ _ hmIt S hc q fun I s₁ s₂ items q₁ hlen e1 e2 hI hI' hIter => ?_
  obtain ⟨fp, Pp, St, W, hst0, hfp, hP, hgo, hnq⟩ := hIter
  have S1 := S.ext e1
  refine wpAny_newList ?_ (by decide)
  have e3 : Ext s₂ { s₂ with heap := s₂.heap.push { cls := .type "list", data := .seq ([] : List Value).toArray } } := Ext.push (tk := s₂.toks)
  have hsz : ({ s₂ with heap := s₂.heap.push { cls := .type "list", data := .seq ([] : List Value).toArray } } : Shared).heap.objs.size = s₂.heap.objs.size + 1 := Heap.size_push ..
  refine newEnv_ok S.eo ((S1.ext e2).ext e3).cs hkind hnd cf fun s₄ eo' fr' hfr hown e4 => ?_
  rw [hsz] at eo' fr' hfr hown ⊢
  have C : CompAt csc (cenvOf csc env (s₂.heap.objs.size + 1)) H s₁ I s₂.heap.objs.size fp := compAt_of S1 e2 hI hI' hfp eo' hown fun x c hc => by
    by_cases hx : csc.names.lookup x = some .cell
    · exact .inl (.inr ⟨x, hx, hc⟩)
    · refine .inr ?_
      have hc2 : (cellsFrom (s₂.heap.objs.size + 1 + 1) csc.names (closAcc env csc.names [])).lookup x = some c := hc
      rw [cellsFrom_append, lookup_append, cellsFrom_none] at hc2
      · exact closAcc_mem cf (lookup_mem hc2)
      · rintro ⟨y, ky⟩ hy hk rfl
        simp only at hk; subst hk
        exact hx (mem_lookup hnd hy)
  have e34 := (e2.trans e3).trans e4
  have hSt4 : St 0 s₄.heap := W.frame 0 _ _ hst0 fun b _ o e => (e3.trans e4).1 b o e
  have hC4 : NewSt csc (cenvOf csc env (s₂.heap.objs.size + 1)) s₁ I s₂.heap.objs.size [] s₄ :=
    ⟨e34, fr', plain_keeps (push_list s₂.heap []) e4.1, fun b hb => (nomatch hb), List.nodup_nil⟩
  have loop : codeAny (model prog w) A (.compLoop (.ListComp (.List [] px) [⟨.Name y py, iter, [], 0⟩] csc pos) 0 (.ref I) (.ref s₂.heap.objs.size) (cenvOf csc env (s₂.heap.objs.size + 1))) (RR (.ref s₂.heap.objs.size) (s₂.heap.objs.size + 1)) s₄ := by
    refine compLoop_rule (fun n s' => ∃ i bs, i ≤ items.length ∧ n = items.length - i ∧ St i s'.heap ∧ NewSt csc (cenvOf csc env (s₂.heap.objs.size + 1)) s₁ I s₂.heap.objs.size bs s' ∧ bs.length = i) ?_ items.length ⟨0, [], Nat.zero_le _, rfl, hSt4, hC4, rfl⟩
    rintro n s' ⟨i, bs, hi, rfl, hSt, hC, hbs⟩ E
    by_cases hlt : i < items.length
    · refine W.item i s' _ _ hlt hSt fun v h' tk hv hSt' hk => ?_
      have hC' := hC.next C (tk := tk) (hnq i _ hSt) hk
      refine hgo (i + 1) _ _ _ _ _ hSt' ?_
      refine wpAny_assign_Name (store_ok C.eo hC'.fr (.inl hy) fun s3 F3 _ _ e3' => ?_)
      have hC3 := hC'.store C F3 e3'
      have hSt3 : St (i + 1) s3.heap := walk_store C W hC'.ext hSt' fun b o hb e => e3'.1 b o (fun qo => by
        rcases hb with rfl | ⟨o', e'⟩
        · exact (C.own _ qo).2.1 rfl
        · rw [(C.own _ qo).1] at e'; cases e') e
      refine wpAny_tests_nil ?_
      (first | refine Mine.ite_yes rfl ?_ | rw [if_pos rfl])
      refine wpAny_List_spliced (spliced_none ⟨by decide, ?_⟩)
      have e5 : Ext s3 { s3 with heap := s3.heap.push { cls := .type "list", data := .seq ([] : List Value).toArray } } := Ext.push (tk := s3.toks)
      have hC5 := hC3.grow e5
      have hSt5 : St (i + 1) (s3.heap.push { cls := .type "list", data := .seq ([] : List Value).toArray }) := walk_store C W hC3.ext hSt3 fun b o _ e => e5.1 b o e
      have hnew : s3.heap.get? s3.heap.objs.size = none := by
        cases h : s3.heap.get? s3.heap.objs.size with
        | none => rfl
        | some o => exact absurd (Heap.lt_size h) (Nat.lt_irrefl _)
      refine wpAny_list_append_plain hC5.acc (fun h6 hl6 hs6 => ?_) (by rw [List.size_toArray, List.length_map, sL]; omega)
      have hC6 := hC5.push C (b := s3.heap.objs.size) (push_list s3.heap []) (by
          cases h : s₁.heap.get? s3.heap.objs.size with
          | none => rfl
          | some o => have := hC3.ext.1 _ _ h; rw [hnew] at this; cases this) (fun qq => by
          obtain ⟨n, h⟩ := hC3.acc; rw [← qq, hnew] at h; cases h) (fun qq => by
          obtain ⟨⟨n, h⟩, _⟩ := hC3.each _ qq; rw [hnew] at h; cases h) hl6 hs6
      refine ⟨items.length - (i + 1), by omega, i + 1, bs ++ [s3.heap.objs.size], hlt, rfl, ?_, hC6, by simp [hbs]⟩
      exact walk_store C W hC5.ext hSt5 fun b o hb e => (hs6.2 b (fun q => by
        rcases hb with rfl | ⟨o', e'⟩
        · exact C.iD q.symm
        · rw [q, C.dNew] at e'; cases e')).trans e
    · have hie : i = items.length := by omega
      subst hie
      refine W.done s' _ _ hSt fun h' tk hk => ?_
      have hC' := hC.next C (tk := tk) (hnq _ _ hSt) hk
      have old : ∀ a, s₁.heap.get? a = none → s.heap.get? a = none := fun a h => by
        cases h' : s.heap.get? a with
        | none => rfl
        | some o => rw [e1.1 a o h'] at h; cases h
      refine hRR _ _ _ bs items q₁ hbs hlen hC'.acc (fun b hb => ?_) (fun b hb => (hC'.each b hb).1) (List.nodup_cons.mpr ⟨fun h => (hC'.each _ h).2.2 rfl, hC'.nod⟩) (e1.trans hC'.ext) (old _ (C.own _ (.inl rfl)).1) hC'.fr.ns
      rcases List.mem_cons.mp hb with rfl | hb
      · exact old _ C.dNew
      · exact old _ (hC'.each b hb).2.1
  exact codeAny_compStart_list loop (W.self 0 s₄ _ _ hSt4 loop)
end
end
section
open PySem PySem.Calls PySem.Spec PyProof.Rows

/-- a new list of new lists -/
noncomputable def VNew (s : Shared) (Q : Nat → Prop) (v : Value) (s' : Shared) : Prop := ∃ D bs, v = .ref D ∧ Q bs.length ∧ bs.length ≤ 1000000 ∧ s'.heap.PlainList D (bs.map Value.ref).toArray ∧ (∀ b ∈ D :: bs, s.heap.get? b = none) ∧ (∀ b ∈ bs, s'.heap.PlainList b #[]) ∧ (D :: bs).Nodup

section
variable {prog : Program} {w : World} {base : Heap} {fa : Nat → Addr} {Φ : Funs} {Λ : Lends} {nm : Nat → Str} {sc : Scope} {env : Env} {A : Around} {vis : List Nat}

theorem VNew.keep {s s' : Shared} {Q : Nat → Prop} {v : Value} {h' : Heap} (x : VNew s Q v s') (k : SeqStays s'.heap h') : VNew s Q v { s' with heap := h' } := by
  obtain ⟨D, bs, e, q, hl, hp, h1, h2, h3⟩ := x
  have pl : ∀ {a : Addr} {items : Array Value}, s'.heap.PlainList a items → h'.PlainList a items := fun ⟨n, e⟩ => ⟨n, k _ _ ⟨_, _, rfl⟩ e⟩
  exact ⟨D, bs, e, q, hl, pl hp, h1, fun b hb => pl (h2 b hb), h3⟩

theorem ss_new2 {i : Nat} {e : ME} (B : Bd prog w base fa Φ Λ nm sc env A vis) : SS prog w base Φ Λ nm sc env A vis (.new2 i e) := by
  intro c an exc hid la st own s Q P E hm R q k
  · refine any_elim hm ?_; clear hm; rintro ⟨t, v, pos, rfl⟩ hm
    simp only [Bool.and_eq_true] at hm
    obtain ⟨⟨ht, hk⟩, hm⟩ := hm
    obtain ⟨p, rfl, hi, _⟩ := isV_inv ht
    obtain ⟨px, y, py, iter, csc, pos', rfl, hmIt, hkind, hnd, hy, hfc⟩ := new2_inv hm
    rw [yP] at q
    have S := R.sit B.eo B.ao
    have q' : wpIt Φ (.range0 e) st fun items => Q .next (st.set i (.own2 (List.replicate items.length []))) := by
      rw [yK]
      refine Eq.mp (congrArg (wpE Φ e st) (funext fun d => propext ⟨fun hd => ?_, fun hd => ?_⟩)) q
      · obtain ⟨kk, rfl, hb, q⟩ := intD_inv hd
        refine ⟨Int.le_refl _, by decide, hb, ?_⟩
        show Q .next (st.set i (.own2 (List.replicate (rangeL 0 kk).length [])))
        rw [rangeS_len]
        have : (kk - 0).toNat = kk.toNat := by omega
        rw [this]; exact q
      · cases d with
        | int kk =>
          obtain ⟨_, _, hb, q⟩ := hd
          have q : Q .next (st.set i (.own2 (List.replicate (rangeL 0 kk).length []))) := q
          rw [rangeS_len] at q
          have : (kk - 0).toNat = kk.toNat := by omega
          rw [this] at q
          exact ⟨hb, q⟩
        | _ => exact hd.elim
    have cf : ∀ z ∈ csc.names, z.2 = .free → ∃ c, env.cells.lookup z.1 = some c := fun z hz h => absurd h (hfc z hz).1
    have cn : ∀ z ∈ csc.names, z.2 = .local → csc.names.lookup z.1 = some .local := by
      rintro ⟨z, k⟩ hz rfl
      exact mem_lookup hnd hz
    refine asgn (V := VNew s fun n => Q .next (st.set i (.own2 (List.replicate n [])))) B.eo R.fr (kLoc_inv hk) rfl (fun P' k' => ?_) (fun hl u P' k' => ?_) fun v s₁ s' O hV e F' hv' ho e' hO => ?_
    · rw [eval_ListComp']
      refine wpAny_comprehension_free (use := none) rfl (folded_ok (mIt_notSet hmIt)) (closureFor_eq cf) hkind cn ?_
      refine new2_run (allIt B.hsp B.G (.range0 e)) hmIt hkind hnd hy hfc S (fun _ => B.hc) q' fun D C s' bs items q hl hlen hp h1 h2 h3 e hC hN => ?_
      obtain ⟨m, hN⟩ := hN
      refine ⟨m, hN, fun h' hs => ?_⟩
      have sq : SeqStays s'.heap h' := fun a o q e => (hs.2 a (fun h => by subst h; exact ns_notSeq hN e q)).trans e
      refine k' _ _ (VNew.keep (s' := s') ⟨D, bs, rfl, by rw [hl]; exact q, by omega, hp, h1, h2, h3⟩ sq) ⟨fun b o eb => (hs.2 b (fun h => by subst h; rw [hC] at eb; cases eb)).trans (e.1 b o eb), e.2.1, e.2.2⟩
    · rw [use_ListComp]
      refine wpAny_bind (wpAny_mono (wpAny_comprehension_free (use := some u) (Q := fun _ => P') rfl (folded_ok (mIt_notSet hmIt)) (closureFor_eq cf) hkind cn ?_) (fun _ s' h => wpAny_pure h) fun _ _ h => h)
      exact new2_run (allIt B.hsp B.G (.range0 e)) hmIt hkind hnd hy hfc S (fun _ => B.hc) q' fun D C s' bs items q hl hlen hp h1 h2 h3 e hC hN => k' D C s' ⟨D, bs, rfl, by rw [hl]; exact q, by omega, hp, h1, h2, h3⟩ e hC hN
    · obtain ⟨D, bs, rfl, q, hlen, hp, h1, h2, h3⟩ := hV
      have hseq : ∀ b ∈ D :: bs, ∃ o, s₁.heap.get? b = some o ∧ isSeq o := fun b hb => by
        rcases List.mem_cons.mp hb with rfl | hb
        · obtain ⟨n, h⟩ := hp; exact ⟨_, h, _, _, rfl⟩
        · obtain ⟨n, h⟩ := h2 b hb; exact ⟨_, h, _, _, rfl⟩
      have R1 : Rel base nm sc env vis an exc (fun b => hid b ∨ b ∈ D :: bs) la st own s₁ := R.hide (S := fun b => b ∈ D :: bs) e h1 (fun b hb => let ⟨o, h, _⟩ := hseq b hb; ⟨o, h⟩)
      have fne : ∀ a, OwnA sc env a → s.heap.get? a ≠ none := fun a h hn => by
        rcases h with rfl | ⟨y, _, hy⟩
        · obtain ⟨_, o, _, _, ho, _⟩ := R.fr.ns; rw [hn] at ho; cases ho
        · obtain ⟨_, o, ho, _⟩ := R.fr.cs y _ hy; rw [hn] at ho; cases ho
      have hO' : ∀ b, O b → base.get? b = none ∧ (exc b ∨ an.heap.get? b = none) ∧ ¬ (hid b ∨ b ∈ D :: bs) ∧ ∀ o, s₁.heap.get? b = some o → ¬ isSeq o := fun b h => by
        rcases hO b h with q | ⟨q1, q2⟩
        · exact ⟨(R.frIn b q).1, (R.frIn b q).2.1, fun hh => hh.elim (R.frIn b q).2.2 (fun hb => fne b q (h1 b hb)), fun o h => R1.fr.notSeq q h⟩
        · obtain ⟨g1, g2, g3, _⟩ := R.newA q1
          exact ⟨g1, g2, fun hh => hh.elim g3 (fun hb => let ⟨o, ho, hq⟩ := hseq b hb; q2 o ho hq), q2⟩
      have sq : SeqStays s₁.heap s'.heap := fun b o q h => e'.1 b o (fun n => (hO' b n).2.2.2 o h q) h
      have pl : ∀ {a : Addr} {items : Array Value}, s₁.heap.PlainList a items → s'.heap.PlainList a items := fun ⟨n, e⟩ => ⟨n, sq _ _ ⟨_, _, rfl⟩ e⟩
      refine k .next .next _ _ _ q (R1.put (hid := hid) (as := D :: bs) hi (B.inj i hi) F' hv' ho e' hO' (fun _ h => .inl h) (fun b h => (R.lent b h).1) (fun b hb => .inl (.inr hb)) (fun b hb => ?_) h3 ?_ (fun _ => .inr ⟨_, rfl⟩) (fun _ h => nomatch h)) trivial
      · obtain ⟨b1, b2, b3, b4⟩ := R.newA (h1 b hb)
        exact ⟨hseq b hb, b3, b1, b2, fun j _ => b4 j⟩
      · refine ⟨D, bs, rfl, rfl, pl hp, by rw [sL]; omega, by simp, fun l b ds hb hd => ?_⟩
        have hds : ds = [] := by
          have := List.mem_of_getElem? hd
          exact (List.mem_replicate.mp this).2
        subst hds
        exact ⟨#[], pl (h2 b (List.mem_of_getElem? hb)), by decide, .nil⟩

theorem sss_nil : SSs prog w base Φ Λ nm sc env A vis [] := by
  intro cs an exc hid la st own s Q P E hm R q k
  cases List.isEmpty_iff.mp hm
  exact wpAny_execs_nil (k .next .next _ _ _ q R trivial)
theorem sss_cons {m : MS} {ms : List MS} (B : Bd prog w base fa Φ Λ nm sc env A vis) (hm' : SS prog w base Φ Λ nm sc env A vis m) (hms : SSs prog w base Φ Λ nm sc env A vis ms) : SSs prog w base Φ Λ nm sc env A vis (m :: ms) := by
  intro cs an exc hid la st own s Q P E hm R q k
  rw [x5] at q
  rcases or_inv hm with hm | hm
  · refine any_elim hm ?_; clear hm; rintro ⟨i, rfl⟩ hm
    simp only [Bool.and_eq_true, List.contains_iff_mem] at hm
    rw [yQ] at q
    obtain ⟨d, q, R'⟩ := R.frozen hm.1 (B.inj i hm.1) q
    exact hms _ _ _ _ _ _ _ _ _ _ _ hm.2 R' q k
  · refine any_elim hm ?_; clear hm; rintro ⟨c, cs, rfl⟩ hm
    simp only [Bool.and_eq_true] at hm
    refine wpAny_execs_cons (hm' _ _ _ _ _ _ _ _ _ _ _ hm.1 R q fun mf fl st' own' s' q' R' fo => ?_)
    cases mf with
    | next =>
      cases fl with
      | next => exact hms _ _ _ _ _ _ _ _ _ _ _ hm.2 R' q' k
      | _ => exact fo.elim
    | cont =>
      cases fl with
      | cont => exact k .cont .cont _ _ _ q' R' fo
      | _ => exact fo.elim
    | ret d =>
      cases fl with
      | ret v => exact k (.ret d) (.ret v) _ _ _ q' R' fo
      | _ => exact fo.elim
mutual
theorem allS (B : Bd prog w base fa Φ Λ nm sc env A vis) : ∀ m : MS, SS prog w base Φ Λ nm sc env A vis m
  | .assign _ _ => ss_assign B
  | .new1 _ _ => ss_new1 B
  | .new2 _ _ => ss_new2 B
  | .freeze _ => fun c an exc hid la st own s Q P E hm => Bool.noConfusion (show false = true from hm)
  | .unpack _ _ => ss_unpack B
  | .append1 _ _ => ss_append1 B
  | .append2 _ _ _ => ss_append2 B
  | .setItem _ _ _ => ss_setItem B
  | .pop _ _ => ss_pop B
  | .lend _ _ _ _ => ss_lend B
  | .ite _ a b => ss_ite B (allSs B a) (allSs B b)
  | .whileLoop _ a => ss_while B (allSs B a)
  | .forLoop _ _ a => ss_for B (allSs B a)
  | .ret _ => ss_ret B
  | .cont => ss_cont
theorem allSs (B : Bd prog w base fa Φ Λ nm sc env A vis) : ∀ ms : List MS, SSs prog w base Φ Λ nm sc env A vis ms
  | [] => sss_nil
  | m :: ms => sss_cons B (allS B m) (allSs B ms)
end
end
end
section
open PySem PySem.Calls PySem.Spec PyProof.Rows

/-- a def's object -/
noncomputable def FnAt (base : Heap) (a : Addr) (ps : List Str) (sc : Scope) (body : List Stmt) : Prop := ∃ o fd, base.get? a = some o ∧ o.data = .func fd ∧ fd.scope = sc ∧ fd.body = .stmts body ∧ fd.closure = [] ∧ fd.globals = mainGlobals ∧ fd.builtins = builtinsNs ∧
  base.CodeRec fd.code fd.qualname ∧ ∀ vs : List Value, vs.length = ps.length → bindArgs fd ⟨vs, []⟩ = pure (ps.zip vs)
/-- what a def's scope must be -/
noncomputable def scOk (sc : Scope) (ps : List Str) : Bool := sc.kind == .function && !sc.isCoroutine && !sc.isGenerator && decide (sc.names.map (·.1)).Nodup && decide ps.Nodup && ps.all (fun p => sc.names.lookup p == some .local || sc.names.lookup p == some .cell) && sc.names.all (fun y => y.2 != .free)
noncomputable def visOk (nm : Nat → Str) (vis : List Nat) (n : Nat) (ps : List Str) : Bool := vis.all (fun i => decide (i < n)) && decide (vis.map nm).Nodup && (List.range ps.length).map nm == ps

theorem inj_of_nodup {nm : Nat → Str} : ∀ {l : List Nat}, (l.map nm).Nodup → ∀ a ∈ l, ∀ b ∈ l, nm b = nm a → b = a := by
  intro l
  induction l with
  | nil => intro _ a ha; cases ha
  | cons x l ih =>
    intro hn a ha b hb e
    rw [List.map_cons, List.nodup_cons] at hn
    rcases List.mem_cons.mp ha with rfl | ha' <;> rcases List.mem_cons.mp hb with rfl | hb'
    · rfl
    · exact absurd (e ▸ List.mem_map_of_mem (f := nm) hb') hn.1
    · exact absurd (e ▸ List.mem_map_of_mem (f := nm) ha') hn.1
    · exact ih hn.2 a ha' b hb' e
theorem pairwise_snd {x y : Str} {c : Addr} : ∀ {cs : List (Str × Addr)}, (cs.Pairwise fun x y => x.2 ≠ y.2) → (x, c) ∈ cs → (y, c) ∈ cs → x = y := by
  intro cs
  induction cs with
  | nil => intro _ h; cases h
  | cons z cs ih =>
    intro hp h1 h2
    rw [List.pairwise_cons] at hp
    rcases List.mem_cons.mp h1 with rfl | h1' <;> rcases List.mem_cons.mp h2 with h2' | h2'
    · cases h2'; rfl
    · exact absurd rfl (hp.1 (y, c) h2')
    · subst h2'; exact absurd rfl (hp.1 (x, c) h1')
    · exact ih hp.2 h1' h2'
theorem bindL_other {kindOf : Str → Option NameKind} {n : Str} : ∀ {binds : List (Str × Value)} {m : Str → Option Value}, n ∉ binds.map (·.1) → bindL kindOf binds m n = m n
  | [], _, _ => rfl
  | (y, v) :: r, m, h => by
    rw [List.map_cons, List.mem_cons, not_or] at h
    unfold bindL
    rw [bindL_other h.2]
    split
    · exact if_neg h.1
    · rfl
theorem bindL_get {kindOf : Str → Option NameKind} {n : Str} {v : Value} (hk : kindOf n = some .local) : ∀ {binds : List (Str × Value)} {m : Str → Option Value}, (binds.map (·.1)).Nodup → (n, v) ∈ binds → bindL kindOf binds m n = some v
  | (y, u) :: r, m, hn, h => by
    rw [List.map_cons, List.nodup_cons] at hn
    unfold bindL
    rcases List.mem_cons.mp h with e | h'
    · cases e
      rw [bindL_other hn.1, if_pos hk]
      exact if_pos rfl
    · exact bindL_get hk hn.2 h'
theorem bindC_other {kindOf : Str → Option NameKind} {n : Str} : ∀ {binds : List (Str × Value)} {m : Str → Option Value}, n ∉ binds.map (·.1) → bindC kindOf binds m n = m n
  | [], _, _ => rfl
  | (y, v) :: r, m, h => by
    rw [List.map_cons, List.mem_cons, not_or] at h
    unfold bindC
    rw [bindC_other h.2]
    split
    · rfl
    · exact if_neg h.1
theorem bindC_get {kindOf : Str → Option NameKind} {n : Str} {v : Value} (hk : kindOf n ≠ some .local) : ∀ {binds : List (Str × Value)} {m : Str → Option Value}, (binds.map (·.1)).Nodup → (n, v) ∈ binds → bindC kindOf binds m n = some v
  | (y, u) :: r, m, hn, h => by
    rw [List.map_cons, List.nodup_cons] at hn
    unfold bindC
    rcases List.mem_cons.mp h with e | h'
    · cases e
      rw [bindC_other hn.1, if_neg hk]
      exact if_pos rfl
    · exact bindC_get hk hn.2 h'

theorem scOk_inv {sc : Scope} {ps : List Str} (h : scOk sc ps = true) : sc.kind = .function ∧ sc.isCoroutine = false ∧ sc.isGenerator = false ∧ (sc.names.map (·.1)).Nodup ∧ ps.Nodup ∧ (∀ p ∈ ps, sc.names.lookup p = some .local ∨ sc.names.lookup p = some .cell) ∧ ∀ y ∈ sc.names, y.2 ≠ .free := by
  unfold scOk at h
  simp only [Bool.and_eq_true, beq_iff_eq, Bool.not_eq_true', decide_eq_true_eq, List.all_eq_true, Bool.or_eq_true, bne_iff_ne] at h
  obtain ⟨⟨⟨⟨⟨⟨h1, h2⟩, h3⟩, h4⟩, h5⟩, h6⟩, h7⟩ := h
  exact ⟨h1, h2, h3, h4, h5, h6, h7⟩
theorem visOk_inv {nm : Nat → Str} {vis : List Nat} {n : Nat} {ps : List Str} (h : visOk nm vis n ps = true) : (∀ i ∈ vis, i < n) ∧ (∀ i ∈ vis, ∀ j ∈ vis, nm j = nm i → j = i) ∧ ∀ i, i < ps.length → ps[i]? = some (nm i) := by
  unfold visOk at h
  simp only [Bool.and_eq_true, beq_iff_eq, decide_eq_true_eq, List.all_eq_true] at h
  obtain ⟨⟨h1, h2⟩, h3⟩ := h
  refine ⟨h1, inj_of_nodup h2, fun i hi => ?_⟩
  have : ((List.range ps.length).map nm)[i]? = some (nm i) := by simp [hi]
  rwa [h3] at this

section
variable {base : Heap} {nm : Nat → Str} {sc : Scope} {vis : List Nat}
theorem env_ok {fd : FuncData} {L a : Addr} {ps : List Str} (hs : fd.scope = sc) (hg : fd.globals = mainGlobals) (hb : fd.builtins = builtinsNs) (h : scOk sc ps = true) : EnvOk sc (callEnvC fd L a) := by
  obtain ⟨h1, _, _, h4, _, _, h7⟩ := scOk_inv h
  subst hs
  refine ⟨hg, hb, h1, fun x h => h, fun x h => h, fun x h => ⟨h, cellsFrom_some (lookup_mem h)⟩, fun x h => absurd rfl (h7 _ (lookup_mem h))⟩

theorem none_ge {h : Heap} {a : Addr} (ha : h.objs.size ≤ a) : h.get? a = none := by
  cases q : h.get? a with
  | none => rfl
  | some o => exact absurd (Heap.lt_size q) (Nat.not_lt.mpr ha)

theorem Rel.entry {fd : FuncData} {a : Addr} {s s₁ : Shared} {ps : List Str} {vs : List Value} {st : St} {exc : Addr → Prop} {H : Hid} {la : Option Addr} (hs : fd.scope = sc) (hsc : scOk sc ps = true) (hv : visOk nm vis st.length ps = true)
    (hba : base.StaysIn s.heap) (hH : HidIn H s.heap) (hl : vs.length = ps.length) (hlent : ∀ a, la = some a → H a ∧ exc a ∧ base.get? a = none)
    (hst : ∀ (i : Nat) (sl : Slot), st[i]? = some sl → sl ≠ .undef → ∃ v, vs[i]? = some v ∧ SlotR s.heap H [] la v sl) (hone : ∀ (i j : Nat) (ds ds' : List D), st[i]? = some (Slot.lent ds) → st[j]? = some (Slot.lent ds') → i = j)
    (x : InCallC s (callEnvC fd s.heap.objs.size a).locals (bindL (callEnvC fd s.heap.objs.size a).kindOf (ps.zip vs) fun _ => none) (callEnvC fd s.heap.objs.size a).cells (bindC (callEnvC fd s.heap.objs.size a).kindOf (ps.zip vs) fun _ => none) s₁) :
    Rel base nm sc (callEnvC fd s.heap.objs.size a) vis s exc H la st (fun _ => []) s₁ := by
  obtain ⟨h1, h2, h3, h4, h5, h6, h7⟩ := scOk_inv hsc
  obtain ⟨v1, v2, v3⟩ := visOk_inv hv
  have hk := x.toInCall.keep
  obtain ⟨h', tk, es⟩ := x.toInCall.same
  have hoa : ∀ a', OwnA sc (callEnvC fd s.heap.objs.size a) a' → s.heap.objs.size ≤ a' := by
    rintro a' (rfl | ⟨y, _, hy⟩)
    · exact Nat.le_refl _
    · exact Nat.le_of_lt (x.above y a' (lookup_mem hy))
  have hbn : ∀ a', s.heap.get? a' = none → base.get? a' = none := fun a' h => by
    cases q : base.get? a' with
    | none => rfl
    | some o => have := hba _ _ q; rw [h] at this; cases this
  have zz : (ps.zip vs).map (·.1) = ps := List.map_fst_zip (Nat.le_of_eq hl.symm)
  have hE : ∀ b, Hof H (fun _ => []) b → H b := by
    rintro b (h | ⟨_, h⟩)
    · exact h
    · cases h
  refine ⟨⟨⟨_, x.toInCall.ns⟩, fun y c hc => ⟨_, x.cell y c hc⟩, fun y z c _ hy hz => pairwise_snd x.apart (lookup_mem hy) (lookup_mem hz)⟩, fun b o e => hk b o (hba b o e), fun b hb => let ⟨o, e⟩ := hH b hb; ⟨o, hk b o e⟩, hlent,
    fun i b hb => (nomatch hb), fun i j b hb => (nomatch hb), fun i => List.nodup_nil, fun b hb => ⟨hbn b (none_ge (hoa b hb)), .inr (none_ge (hoa b hb)), fun h => hH.fresh b (hoa b hb) h⟩, fun b o h _ => hk b o h, by rw [es], by rw [es], fun i sl hi hsl hu => ?_, v1, hone, fun i hi => absurd rfl hi⟩
  obtain ⟨v, hvi, hr⟩ := hst i sl hsl hu
  have hip : i < ps.length := by rw [← hl]; exact (List.getElem?_eq_some_iff.mp hvi).1
  have hpi := v3 i hip
  have hmem : (nm i, v) ∈ ps.zip vs := List.mem_of_getElem? (i := i) (by rw [List.getElem?_zip_eq_some]; exact ⟨hpi, hvi⟩)
  refine ⟨v, ?_, hr.move (fun b o _ _ h => hk b o h) fun b o _ z => ⟨hk b o z.1, fun h => z.2 (hE b h)⟩⟩
  have hpm : nm i ∈ ps := List.mem_of_getElem? hpi
  rcases h6 _ hpm with hloc | hcell
  · have hko : (callEnvC fd s.heap.objs.size a).kindOf (nm i) = some .local := by show fd.scope.names.lookup (nm i) = _; rw [hs]; exact hloc
    exact .inl ⟨hko, _, x.toInCall.ns, bindL_get hko (by rw [zz]; exact h5) hmem⟩
  · have hko : (callEnvC fd s.heap.objs.size a).kindOf (nm i) = some .cell := by show fd.scope.names.lookup (nm i) = _; rw [hs]; exact hcell
    obtain ⟨c, hc⟩ : ∃ c, (callEnvC fd s.heap.objs.size a).cells.lookup (nm i) = some c := by
      refine cellsFrom_some ?_
      rw [hs]; exact lookup_mem hcell
    refine .inr ⟨.inl hko, c, hc, ?_⟩
    have := x.cell (nm i) c hc
    rwa [bindC_get (by rw [hko]; simp) (by rw [zz]; exact h5) hmem] at this
end
end
section
open PySem PySem.Calls PySem.Spec PyProof.Rows

section
variable (prog : Program) (w : World) (base : Heap) (fa : Nat → Addr)
/-- a call of the def f, with room for k calls -/
noncomputable def FnOk (k f : Nat) (ds : List D) (Q : D → Prop) : Prop := ∀ A, AOk k A → ∀ s H vs P E, base.StaysIn s.heap → HidIn H s.heap → RdAll (Zof s.heap H) vs ds → Kn s H Q P →
  wpAny (model prog w) A (call (.ref (fa f)) vs) P E s
/-- the defs that need less room than k calls -/
noncomputable def PhiOf (lev : Nat → Nat) (k : Nat) : Funs := fun f ds Q => lev f < k ∧ FnOk prog w base fa (lev f + 1) f ds Q
noncomputable def LendF (k : Nat) (ds es : List D) (Q : List D → D → Prop) : Prop := ∃ d, es = [d] ∧ ∀ A, AOk k A → ∀ (s : Shared) (H : Hid) (a : Addr) (items : Array Value) (v : Value) (P : Value → Shared → Prop) (E : Value → Shared → Prop),
  base.StaysIn s.heap → base.get? a = none → HidIn H s.heap → H a → s.heap.PlainList a items → items.size ≤ sizeLine → RdAll (Zof s.heap H) items.toList ds → Rd (Zof s.heap H) v d →
  (∀ r s' d' ds' items', Q ds' d' → Rd (Zof s'.heap H) r d' → s'.heap.PlainList a items' → items'.size ≤ sizeLine → RdAll (Zof s'.heap H) items'.toList ds' → (∀ b o, b ≠ a → s.heap.get? b = some o → s'.heap.get? b = some o) → s'.gens = s.gens → s'.os = s.os → P r s') →
  wpAny (model prog w) A (call (.ref (fa 8)) [.ref a, v]) P E s
noncomputable def LamOf (lev : Nat → Nat) (k : Nat) : Lends := fun f ds es Q => lev 8 < k ∧ LendF prog w base fa (lev 8 + 1) ds es Q
end

section
variable {prog : Program} {w : World} {base : Heap} {fa : Nat → Addr} {lev : Nat → Nat}

theorem AOk.room {k : Nat} {A : Around} (h : AOk (k + 1) A) : A.depth < recursionLimit := by have := h.d; omega

theorem call_ok {k : Nat} {A : Around} (h : AOk k A) : CallOk prog w base fa (PhiOf prog w base fa lev k) A := by
  intro f ds Q q hf s H vs P E h1 h2 h3 h4
  exact q.2 A (h.mono (by have := q.1; omega)) s H vs P E h1 h2 h3 h4
theorem lend_ok {k : Nat} {A : Around} (h : AOk k A) : LendOk prog w base fa (LamOf prog w base fa lev k) A := by
  intro ds d Q q s H a items v P E h1 h2 h3 h4 h5 h6 h7 h8 h9
  obtain ⟨hk, d', e, q⟩ := q
  cases e
  exact q A (h.mono (by omega)) s H a items v P E h1 h2 h3 h4 h5 h6 h7 h8 h9

/-- a def's call, from what its body computes -/
theorem run_code {a : Addr} {k : Nat} {nm : Nat → Str} {sc : Scope} {vis : List Nat} {ps : List Str} {body : List Stmt} {ms : List MS} {st : St} {A : Around} {s : Shared} {H : Hid} {vs : List Value} {la : Option Addr} {exc : Addr → Prop} {Q : MF → St → Prop} {P : Result → Shared → Prop}
    (G : Ground base fa fname) (hsp : SortP prog w) (hF : FnAt base a ps sc body) (hsc : scOk sc ps = true) (hv : visOk nm vis st.length ps = true) (hm : mSs nm sc vis ms body = true) (ao : AOk (k + 1) A)
    (hba : base.StaysIn s.heap) (hH : HidIn H s.heap) (hl : vs.length = ps.length) (hlent : ∀ a, la = some a → H a ∧ exc a ∧ base.get? a = none)
    (hst : ∀ (i : Nat) (sl : Slot), st[i]? = some sl → sl ≠ .undef → ∃ v, vs[i]? = some v ∧ SlotR s.heap H [] la v sl) (hone : ∀ (i j : Nat) (ds ds' : List D), st[i]? = some (Slot.lent ds) → st[j]? = some (Slot.lent ds') → i = j)
    (q : wpSs (PhiOf prog w base fa lev k) (LamOf prog w base fa lev k) ms st Q)
    (hk : ∀ mf st' s' env own', Q mf st' → Rel base nm sc env vis s exc H la st' own' s' → ∀ d, mf = .ret d → ∀ v, Rd (Zof s'.heap H) v d → P (.ok (.ret v)) s') (hr : ∀ mf st', Q mf st' → ∃ d, mf = .ret d) : codeAny (model prog w) A (.call (.ref a) ⟨vs, []⟩) P s := by
  obtain ⟨o, fd, ho, hd, hs, hb, hc, hg, hbi, hcd, hbind⟩ := hF
  obtain ⟨h1, h2, h3, h4, h5, h6, h7⟩ := scOk_inv hsc
  obtain ⟨v1, v2, v3⟩ := visOk_inv hv
  have hcd' : s.heap.CodeRec fd.code fd.qualname := let ⟨c, o, vs, t, e1, e2, r⟩ := hcd; ⟨c, o, vs, t, e1, hba _ _ e2, r⟩
  have zz : (ps.zip vs).map (·.1) = ps := List.map_fst_zip (Nat.le_of_eq hl.symm)
  refine codeAny_call_cells (binds := ps.zip vs) ao.room (hba _ _ ho) hd (G.lim.keeps hba) hcd' hb (hbind vs hl) hc (fun y hy => ?_) (fun s₁ x => ?_) (by rw [hs]; exact h2) (by rw [hs]; exact h3) (by rw [hs]; exact h1)
  · have hy' : y.1 ∈ ps := by rw [← zz]; exact List.mem_map_of_mem (f := (·.1)) hy
    rw [hs]
    rcases h6 _ hy' with h | h
    · exact .inl h
    · refine .inr ⟨h, ?_⟩
      obtain ⟨c, hc⟩ := cellsFrom_some (n := s.heap.objs.size + 1) (lookup_mem h)
      rw [hc]; rfl
  · have R := Rel.entry (base := base) hs hsc hv hba hH hl hlent hst hone x
    have eo : EnvOk sc (callEnvC fd s.heap.objs.size a) := env_ok hs hg hbi hsc
    have ao' : AOk k (A.deeper (callEnvC fd s.heap.objs.size a)) := ao.deeper
    have B : Bd prog w base fa (PhiOf prog w base fa lev k) (LamOf prog w base fa lev k) nm sc (callEnvC fd s.heap.objs.size a) (A.deeper (callEnvC fd s.heap.objs.size a)) vis := ⟨G, hsp, eo, ao'.mono (Nat.zero_le _), call_ok ao', lend_ok ao', v2⟩
    refine allSs B ms _ _ _ _ _ _ _ _ _ _ _ hm R q fun mf fl st' own' s' q' R' fo => ?_
    obtain ⟨d, rfl⟩ := hr mf st' q'
    cases fl with
    | ret v =>
      have fo : Rd (Zof s'.heap (Hof H own')) v d := fo
      exact hk _ _ _ _ _ q' R' d rfl v (fo.move fun a o _ z => ⟨z.1, fun h => z.2 (.inl h)⟩)
    | _ => exact fo.elim

theorem fn_ok {f k : Nat} {nm : Nat → Str} {sc : Scope} {vis : List Nat} {ps : List Str} {body : List Stmt} {ms : List MS} {ds : List D} {n : Nat} {Q : D → Prop}
    (G : Ground base fa fname) (hsp : SortP prog w) (hF : FnAt base (fa f) ps sc body) (hsc : scOk sc ps = true) (hv : visOk nm vis (ds.length + n) ps = true) (hm : mSs nm sc vis ms body = true) (hl : ds.length = ps.length)
    (q : wpSs (PhiOf prog w base fa lev k) (LamOf prog w base fa lev k) ms (ds.map Slot.sh ++ List.replicate n .undef) (RetP Q)) : FnOk prog w base fa (k + 1) f ds Q := by
  intro A ao s H vs P E hba hH r kn
  refine wpAny_call (run_code (la := none) (exc := fun _ => False) G hsp hF hsc (by simpa using hv) hm ao hba hH (by rw [r.length, hl]) (fun a h => nomatch h) (fun i sl hi hu => ?_) (fun i j ds₁ ds₂ hi => ?_) q (fun mf st' s' env own' q' R' d e v rv => ?_) (fun mf st' q' => ?_))
  · by_cases hlt : i < ds.length
    · rw [List.getElem?_append_left (by simpa using hlt), List.getElem?_map, List.getElem?_eq_getElem hlt] at hi
      cases hi
      obtain ⟨v, hv, rv⟩ := r.get hlt
      exact ⟨v, hv, rv⟩
    · rw [List.getElem?_append_right (by simpa using hlt)] at hi
      have := List.mem_of_getElem? hi
      exact absurd (List.mem_replicate.mp this).2 hu
  · exfalso
    have := List.mem_of_getElem? hi
    rcases List.mem_append.mp this with h | h
    · obtain ⟨d, _, e⟩ := List.mem_map.mp h; cases e
    · have := (List.mem_replicate.mp h).2; cases this
  · subst e
    exact kn v s' d q' rv ⟨fun b o h => R'.keep b o h (fun q => q), R'.gens, R'.os⟩
  · cases mf with
    | ret d => exact ⟨d, rfl⟩
    | _ => exact q'.elim

theorem fn_lend {k : Nat} {nm : Nat → Str} {sc : Scope} {vis : List Nat} {ps : List Str} {body : List Stmt} {ms : List MS} {ds : List D} {d : D} {Q : List D → D → Prop}
    (G : Ground base fa fname) (hsp : SortP prog w) (hF : FnAt base (fa 8) ps sc body) (hsc : scOk sc ps = true) (hv : visOk nm vis 2 ps = true) (hm : mSs nm sc vis ms body = true) (hl : 2 = ps.length) (h0 : 0 ∈ vis)
    (q : wpSs (PhiOf prog w base fa lev k) (LamOf prog w base fa lev k) ms [.lent ds, .sh d] fun mf st => ∃ r ds' d', mf = .ret r ∧ st = [.lent ds', .sh d'] ∧ Q ds' r) : LendF prog w base fa (k + 1) ds [d] Q := by
  refine ⟨d, rfl, fun A ao s H a items v P E hba hb hH hHa hp hsz r rv kn => ?_⟩
  refine wpAny_call (run_code (la := some a) (exc := fun b => b = a) G hsp hF hsc hv hm ao hba hH hl (fun b h => by cases h; exact ⟨hHa, rfl, hb⟩) (fun i sl hi hu => ?_) (fun i j ds₁ ds₂ hi hj => ?_) q (fun mf st' s' env own' q' R' d₁ e v rv => ?_) (fun mf st' q' => ?_))
  · match i with
    | 0 => cases hi; exact ⟨.ref a, rfl, a, items, rfl, rfl, hp, hsz, r⟩
    | 1 => cases hi; exact ⟨v, rfl, rv⟩
    | i + 2 => cases hi
  · match i, j with
    | 0, 0 => rfl
    | 0, 1 => cases hj
    | 0, j + 2 => cases hj
    | 1, _ => cases hi
    | i + 2, _ => cases hi
  · obtain ⟨r', ds', d', e', rfl, q'⟩ := q'
    rw [e'] at e
    cases e
    obtain ⟨u, _, a', items', e1, e2, hp', hsz', rr⟩ := R'.slots 0 _ h0 rfl (by simp)
    cases e1
    exact kn v s' _ ds' items' q' rv hp' hsz' (rr.move fun b o _ z => ⟨z.1, fun h => z.2 (.inl h)⟩) (fun b o hn h => R'.keep b o h hn) R'.gens R'.os
  · obtain ⟨r', _, _, e', _⟩ := q'
    exact ⟨r', e'⟩
end
end
section
open PySem PySem.Calls PySem.Spec PyProof.Rows

/-! the sort of a list of pairs: the kind of its keys is `tuples'`, so each step asks `keyLt'` of two tuples -/
section
variable {prog : Program} {w : World} {A : Around} {E : Value → Shared → Prop} {s : Shared} {κ : KeyKind} {a₀ : Array Keyed}
/-- two keys are asked for, and nothing is changed -/
noncomputable def AskT (prog : Program) (w : World) (A : Around) (s : Shared) (κ : KeyKind) : Prop := ∀ (x y : Value) (a b : κ.α) (Q : Bool → Shared → Prop) (E : Value → Shared → Prop), κ.keyOf x = some a → κ.keyOf y = some b → Q (κ.blt a b) s → wpAny (model prog w) A (keyLt' (tuples' true) x y) Q E s
structure TB (a₀ : Array Keyed) (st : SortSt) : Prop where
  perm : (arrOf st).Perm a₀
  kind : kindOf st = tuples' true
  failed : failedOf st = none
  pend : pendingOf st = #[]
theorem TB.size {st : SortSt} (h : TB a₀ st) : (arrOf st).size = a₀.size := h.perm.size_eq
theorem TB.arr {st : SortSt} {xs : Array Keyed} (h : TB a₀ st) (hp : xs.Perm (arrOf st)) : TB a₀ (setArr st xs) := ⟨hp.trans h.perm, h.kind, h.failed, h.pend⟩

/-- what the steps of the sort are given -/
structure SortAt (prog : Program) (w : World) (A : Around) (s : Shared) (κ : KeyKind) (a₀ : Array Keyed) : Prop where
  ask : AskT prog w A s κ
  keys : KeysOf κ a₀

theorem lt_t {st : SortSt} {i j : Nat} {Q : Option Bool → SortSt → Prop} (Z : SortAt prog w A s κ a₀) (hB : TB a₀ st) (hi : i < a₀.size) (hj : j < a₀.size) (h : Q (some (κ.blt (KK κ (arrOf st) i) (KK κ (arrOf st) j))) st) :
    PyProof.Rows.wpS (model prog w) A E s (ltAt' i j) Q st := by
  have at_ : ∀ i, i < a₀.size → ∃ x p, (arrOf st)[i]? = some (x, p) ∧ κ.keyOf x = some (KK κ (arrOf st) i) := fun i hi => by
    have hi' : i < (arrOf st).size := by rw [hB.size]; exact hi
    obtain ⟨a, ha⟩ := Z.keys _ ((Array.perm_iff_toList_perm.mp hB.perm).mem_iff.mp (show (arrOf st)[i] ∈ (arrOf st).toList by simp))
    have e : (arrOf st)[i]? = some (arrOf st)[i] := getElem?_pos _ i hi'
    refine ⟨(arrOf st)[i].1, (arrOf st)[i].2, e, ?_⟩
    unfold KK
    rw [e]
    show _ = some ((κ.keyOf (arrOf st)[i].1).getD κ.dflt)
    rw [ha]; rfl
  obtain ⟨x, p, e1, k1⟩ := at_ i hi
  obtain ⟨y, q, e2, k2⟩ := at_ j hj
  rw [ltAt'_eq]
  refine wpS_bind (wpS_get ?_)
  show PyProof.Rows.wpS _ _ _ _ (do let x ← elem' (arrOf st) i; let y ← elem' (arrOf st) j; lt' x y) Q st
  rw [elem'_eq, elem'_eq, e1, e2]
  refine wpS_bind (wpS_pure (wpS_bind (wpS_pure ?_)))
  rw [lt'_eq]
  refine wpS_bind (wpS_get ?_)
  rw [hB.kind]
  exact wpS_bind (wpS_lift (wpAny_attempt (Z.ask x y _ _ _ _ k1 k2 ⟨rfl, wpS_pure h⟩)))

theorem step_up {xs : Array Keyed} {n : Nat} (hs : SortedToK κ xs n) (h : κ.kle (KK κ xs (n - 1)) (KK κ xs n)) : SortedToK κ xs (n + 1) := fun i j hij hj => by
  rcases Nat.lt_succ_iff_lt_or_eq.mp hj with q | rfl
  · exact hs i j hij q
  · rcases Nat.lt_or_eq_of_le hij with q | rfl
    · exact KeyOrd.kle_trans (hs i (j - 1) (by omega) (by omega)) h
    · exact KeyOrd.kle_refl _
theorem step_down {xs : Array Keyed} {n : Nat} (hs : NonIncK κ xs n) (h : κ.kle (KK κ xs n) (KK κ xs (n - 1))) : NonIncK κ xs (n + 1) := fun i j hij hj => by
  rcases Nat.lt_succ_iff_lt_or_eq.mp hj with q | rfl
  · exact hs i j hij q
  · rcases Nat.lt_or_eq_of_le hij with q | rfl
    · exact KeyOrd.kle_trans h (hs i (j - 1) (by omega) (by omega))
    · exact KeyOrd.kle_refl _

theorem asc_t {st : SortSt} {a m : Nat} {Q : AscSt → SortSt → Prop} (Z : SortAt prog w A s κ a₀) (hm : m ≤ a₀.size) (ha : 1 ≤ a) (ham : a ≤ m) (hB : TB a₀ st) (hs : SortedToK κ (arrOf st) a)
    (h : ∀ n, a ≤ n → n ≤ m → SortedToK κ (arrOf st) n → (n = m ∨ κ.klt (KK κ (arrOf st) n) (KK κ (arrOf st) (n - 1))) → Q (none, n) st) : PyProof.Rows.wpS (model prog w) A E s (ascLoop a m) Q st := by
  unfold ascLoop
  refine wpS_forRange (fun x c st' => st' = st ∧ c = (none, x) ∧ SortedToK κ (arrOf st) x) (fun x c st' h1 h2 hI => ?_) (fun c st' hI => ?_) ⟨rfl, rfl, hs⟩
  · obtain ⟨rfl, rfl, hs'⟩ := hI
    refine wpS_bind (lt_t Z hB (by omega) (by omega) ?_)
    cases hl : κ.blt (KK κ (arrOf st') x) (KK κ (arrOf st') (x - 1)) with
    | true => exact wpS_pure (h x h1 (Nat.le_of_lt h2) hs' (.inr hl))
    | false => exact wpS_pure ⟨rfl, rfl, step_up hs' hl⟩
  · obtain ⟨rfl, rfl, hs'⟩ := hI
    rw [Nat.max_eq_right ham] at hs' ⊢
    exact h m ham (Nat.le_refl _) hs' (.inl rfl)

theorem tail_t {st : SortSt} {n m : Nat} {Q : Option Nat → SortSt → Prop} (Z : SortAt prog w A s κ a₀) (hm : m ≤ a₀.size) (h1 : 1 ≤ n) (hnm : n ≤ m) (hB : TB a₀ st) (hs : NonIncK κ (arrOf st) n)
    (h : ∀ k st', TB a₀ st' → 1 ≤ k → k ≤ m → SortedToK κ (arrOf st') k → Q (some k) st') : PyProof.Rows.wpS (model prog w) A E s (tail3 n m) Q st := by
  unfold tail3
  have hz : n ≤ (arrOf st).size := by rw [hB.size]; omega
  have hB' := hB.arr (mirror_perm (arrOf st) 0 n ((n - 0) / 2))
  refine wpS_bind (wpS_reverse (wpS_bind (asc_t Z hm h1 hnm hB' (fun i j hij hj => ?_) fun k k1 k2 k3 _ => wpS_pure (h k _ hB' (Nat.le_trans h1 k1) k2 k3))))
  show κ.kle (KK κ (mirror (arrOf st) 0 n ((n - 0) / 2)) i) (KK κ (mirror (arrOf st) 0 n ((n - 0) / 2)) j)
  rw [KK_mirror hz, KK_mirror hz, if_pos ⟨Nat.zero_le _, by omega⟩, if_pos ⟨Nat.zero_le _, hj⟩]
  exact hs _ _ (by omega) (by omega)

theorem desc_t {st : SortSt} {n m : Nat} {Q : DescSt → SortSt → Prop} (Z : SortAt prog w A s κ a₀) (hm : m ≤ a₀.size) (h1 : 1 ≤ n) (hnm : n ≤ m) (hB : TB a₀ st) (hs : NonIncK κ (arrOf st) n)
    (h : ∀ k q st', TB a₀ st' → n ≤ k → k ≤ m → NonIncK κ (arrOf st') k → (∀ i, k - (q + 1) ≤ i → i < k → KK κ (arrOf st') i = KK κ (arrOf st') (k - 1)) → Q (none, k, q) st') : PyProof.Rows.wpS (model prog w) A E s (descLoop n m) Q st := by
  unfold descLoop
  have one : ∀ (xs : Array Keyed) (x i : Nat), x + 1 - (0 + 1) ≤ i → i < x + 1 → KK κ xs i = KK κ xs (x + 1 - 1) := fun xs x i a b => by rw [show i = x by omega]; rfl
  refine wpS_forRange (fun x c st' => ∃ q, c = (none, x, q) ∧ TB a₀ st' ∧ NonIncK κ (arrOf st') x ∧ ∀ i, x - (q + 1) ≤ i → i < x → KK κ (arrOf st') i = KK κ (arrOf st') (x - 1)) (fun x c st' hx1 hx2 hI => ?_) (fun c st' hI => ?_) ⟨0, rfl, hB, hs, fun i a b => by rw [show i = n - 1 by omega]⟩
  · obtain ⟨q, rfl, hB', hs', he⟩ := hI
    have hz : x ≤ (arrOf st').size := by rw [hB'.size]; omega
    refine wpS_bind (lt_t Z hB' (by omega) (by omega) ?_)
    cases hl : κ.blt (KK κ (arrOf st') x) (KK κ (arrOf st') (x - 1)) with
    | true =>
      show PyProof.Rows.wpS _ _ _ _ (if q > 0 then _ else _) _ _
      split
      · refine wpS_bind (wpS_reverse (wpS_pure ⟨0, rfl, hB'.arr (mirror_perm _ _ _ _), fun i j hij hj => ?_, one _ x⟩))
        show κ.kle (KK κ (mirror (arrOf st') _ _ _) j) (KK κ (mirror (arrOf st') _ _ _) i)
        rw [KK_mirror_equal hz he, KK_mirror_equal hz he]
        exact step_down hs' (KeyOrd.kle_of_klt hl) i j hij hj
      · exact wpS_pure ⟨0, rfl, hB', step_down hs' (KeyOrd.kle_of_klt hl), one _ x⟩
    | false =>
      refine wpS_bind (lt_t Z hB' (by omega) (by omega) ?_)
      cases hg : κ.blt (KK κ (arrOf st') (x - 1)) (KK κ (arrOf st') x) with
      | true => exact wpS_pure (h x q st' hB' hx1 (Nat.le_of_lt hx2) hs' he)
      | false =>
        have e : KK κ (arrOf st') x = KK κ (arrOf st') (x - 1) := KeyOrd.kle_antisymm hg hl
        refine wpS_pure ⟨q + 1, rfl, hB', step_down hs' hg, fun i a b => ?_⟩
        rcases Nat.lt_succ_iff_lt_or_eq.mp b with c | rfl
        · exact (he i (by omega) c).trans e.symm
        · rfl
  · obtain ⟨q, rfl, hB', hs', he⟩ := hI
    rw [Nat.max_eq_right hnm] at hs' he ⊢
    exact h m q st' hB' hnm (Nat.le_refl _) hs' he

theorem dpart_t {st : SortSt} {n m : Nat} {Q : Option Nat → SortSt → Prop} (Z : SortAt prog w A s κ a₀) (hm : m ≤ a₀.size) (hnm : n + 1 ≤ m) (hB : TB a₀ st) (hs : NonIncK κ (arrOf st) (n + 1))
    (h : ∀ k st', TB a₀ st' → 1 ≤ k → k ≤ m → SortedToK κ (arrOf st') k → Q (some k) st') : PyProof.Rows.wpS (model prog w) A E s (descPart n m) Q st := by
  unfold descPart
  refine wpS_bind (wpS_lift (wpAny_rule ⟨rfl, ?_⟩))
  refine wpS_bind (desc_t Z hm (Nat.le_add_left 1 n) hnm hB hs fun k q st' hB' k1 k2 hs' he => ?_)
  have hz : k ≤ (arrOf st').size := by rw [hB'.size]; omega
  have k0 : 1 ≤ k := Nat.le_trans (Nat.le_add_left 1 n) k1
  show PyProof.Rows.wpS _ _ _ _ (if q > 0 then _ else _) _ _
  split
  · refine wpS_bind (wpS_reverse (tail_t Z hm k0 k2 (hB'.arr (mirror_perm _ _ _ _)) (fun i j hij hj => ?_) h))
    show κ.kle (KK κ (mirror (arrOf st') _ _ _) j) (KK κ (mirror (arrOf st') _ _ _) i)
    rw [KK_mirror_equal hz he, KK_mirror_equal hz he]
    exact hs' i j hij hj
  · exact tail_t Z hm k0 k2 hB' hs' h

theorem run_t {st : SortSt} {m : Nat} {Q : Option Nat → SortSt → Prop} (Z : SortAt prog w A s κ a₀) (hm : m ≤ a₀.size) (h1 : 1 ≤ m) (hB : TB a₀ st)
    (h : ∀ k st', TB a₀ st' → 1 ≤ k → k ≤ m → SortedToK κ (arrOf st') k → Q (some k) st') : PyProof.Rows.wpS (model prog w) A E s (countRun' 0 m) Q st := by
  rw [countRun0_eq]
  refine wpS_bind (asc_t Z hm (Nat.le_refl 1) h1 hB (fun i j hij hj => by rw [show i = j by omega]; exact KeyOrd.kle_refl _) fun n n1 n2 hs hor => ?_)
  show PyProof.Rows.wpS _ _ _ _ (if (n == m) = true then _ else _) _ _
  split
  · exact wpS_pure (h n st hB n1 n2 hs)
  · rename_i hne
    have hne : n ≠ m := fun q => hne (by simp [q])
    have hlt := hor.resolve_left hne
    have n3 : n + 1 ≤ m := by omega
    show PyProof.Rows.wpS _ _ _ _ (if n > 1 then _ else _) _ _
    split
    · rename_i hg
      refine wpS_bind (lt_t Z hB (by omega) (by omega) ?_)
      cases hl : κ.blt (KK κ (arrOf st) 0) (KK κ (arrOf st) (n - 1)) with
      | true => exact wpS_pure (h n st hB n1 n2 hs)
      | false =>
        have hz : n ≤ (arrOf st).size := by rw [hB.size]; omega
        have all : ∀ k, 0 ≤ k → k < n → KK κ (arrOf st) k = KK κ (arrOf st) (n - 1) := fun k _ hk => KeyOrd.kle_antisymm (hs k (n - 1) (by omega) (by omega)) (KeyOrd.kle_trans hl (hs 0 k (Nat.zero_le _) hk))
        refine wpS_bind (wpS_reverse (dpart_t Z hm n3 (hB.arr (mirror_perm _ _ _ _)) (step_down (fun i j hij hj => ?_) ?_) h))
        · show κ.kle (KK κ (mirror (arrOf st) _ _ _) j) (KK κ (mirror (arrOf st) _ _ _) i)
          rw [KK_mirror_equal hz all, KK_mirror_equal hz all, all i (Nat.zero_le _) (by omega), all j (Nat.zero_le _) hj]
          exact KeyOrd.kle_refl _
        · show κ.kle (KK κ (mirror (arrOf st) _ _ _) n) (KK κ (mirror (arrOf st) _ _ _) (n - 1))
          rw [KK_mirror_equal hz all, KK_mirror_equal hz all]
          exact KeyOrd.kle_of_klt hlt
    · have n0 : n = 1 := by omega
      subst n0
      exact dpart_t Z hm n3 hB (step_down (fun i j hij hj => by rw [show i = j by omega]; exact KeyOrd.kle_refl _) (KeyOrd.kle_of_klt hlt)) h

theorem bins_t {st : SortSt} {ok : Nat} {Q : Bool → SortSt → Prop} (Z : SortAt prog w A s κ a₀) (hok : 1 ≤ ok) (hn : ok ≤ a₀.size) (hB : TB a₀ st) (hs : SortedToK κ (arrOf st) ok)
    (h : ∀ st', TB a₀ st' → SortedToK κ (arrOf st') a₀.size → Q true st') : PyProof.Rows.wpS (model prog w) A E s (binarySort' 0 a₀.size ok) Q st := by
  rw [binarySort'_eq]
  simp only [Nat.zero_add, Nat.max_eq_left hok]
  refine wpS_bind (wpS_mono (wpS_forRange (fun k c st' => c = (none, ()) ∧ TB a₀ st' ∧ SortedToK κ (arrOf st') k) (Q := fun c st' => c = (none, ()) ∧ TB a₀ st' ∧ SortedToK κ (arrOf st') a₀.size) (fun k c st' k1 k2 hI => ?_) (fun c st' hI => ?_) ⟨rfl, hB, hs⟩) fun c st' hI => ?_)
  · obtain ⟨rfl, hB', hs'⟩ := hI
    refine wpS_bind (wpS_mono (wpS_forRange (fun x c st'' => st'' = st' ∧ ∃ l r, c = (none, l, r) ∧ l ≤ r ∧ r ≤ k ∧ r - l ≤ k - x ∧ (∀ i, i < l → κ.kle (KK κ (arrOf st') i) (KK κ (arrOf st') k)) ∧ ∀ i, r ≤ i → i < k → κ.kle (KK κ (arrOf st') k) (KK κ (arrOf st') i))
      (Q := fun c st'' => st'' = st' ∧ ∃ l r, c = (none, l, r) ∧ l ≤ k ∧ (∀ i, i < l → κ.kle (KK κ (arrOf st') i) (KK κ (arrOf st') k)) ∧ ∀ i, l ≤ i → i < k → κ.kle (KK κ (arrOf st') k) (KK κ (arrOf st') i))
      (fun x c st'' _ x2 hJ => ?_) (fun c st'' hJ => ?_) ⟨rfl, 0, k, rfl, Nat.zero_le _, Nat.le_refl _, Nat.le_refl _, fun i hi => absurd hi (Nat.not_lt_zero _), fun i a b => absurd b (Nat.not_lt.mpr a)⟩) fun c st'' hJ => ?_)
    · obtain ⟨rfl, l, r, rfl, hlr, hrk, hm, hlo, hhi⟩ := hJ
      show PyProof.Rows.wpS _ _ _ _ (if l ≥ r then _ else _) _ _
      split
      · exact wpS_pure ⟨rfl, l, r, rfl, Nat.le_trans hlr hrk, hlo, fun i a b => hhi i (by omega) b⟩
      · refine wpS_bind (lt_t Z hB' k2 (by omega) ?_)
        cases hl : κ.blt (KK κ (arrOf st'') k) (KK κ (arrOf st'') ((l + r) / 2)) with
        | true => exact wpS_pure ⟨rfl, l, (l + r) / 2, rfl, by omega, by omega, by omega, hlo, fun i a b => KeyOrd.kle_trans (KeyOrd.kle_of_klt hl) (hs' _ _ a b)⟩
        | false => exact wpS_pure ⟨rfl, (l + r) / 2 + 1, r, rfl, by omega, hrk, by omega, fun i a => KeyOrd.kle_trans (hs' i ((l + r) / 2) (by omega) (by omega)) hl, hhi⟩
    · obtain ⟨rfl, l, r, rfl, hlr, hrk, hm, hlo, hhi⟩ := hJ
      exact ⟨rfl, l, r, rfl, Nat.le_trans hlr hrk, hlo, fun i a b => hhi i (by omega) b⟩
    · obtain ⟨rfl, l, r, rfl, hlk, hlo, hhi⟩ := hJ
      show PyProof.Rows.wpS _ _ _ _ (do moveDown' k l; pure (ForInStep.yield (none, ()))) _ _
      rw [moveDown'_eq]
      refine wpS_bind (wpS_modify (wpS_pure ⟨rfl, hB'.arr (bubble_perm _ _ _), fun i j hij hj => ?_⟩))
      have hz : k < (arrOf st'').size := by rw [hB'.size]; exact k2
      show κ.kle (KK κ (bubble (arrOf st'') k (k - l)) i) (KK κ (bubble (arrOf st'') k (k - l)) j)
      rw [KK_bubble hz (Nat.sub_le _ _), KK_bubble hz (Nat.sub_le _ _), Nat.sub_sub_self hlk]
      by_cases hi : i = l <;> by_cases hjl : j = l
      · rw [if_pos hi, if_pos hjl]; exact KeyOrd.kle_refl _
      · rw [if_pos hi, if_neg hjl, if_pos (by omega)]; exact hhi _ (by omega) (by omega)
      · rw [if_neg hi, if_pos hjl, if_neg (by omega)]; exact hlo _ (by omega)
      · rw [if_neg hi, if_neg hjl]
        split
        · (first | refine Mine.ite_yes (by omega) ?_ | rw [if_pos (by omega)]); exact hs' _ _ (by omega) (by omega)
        · split
          · exact hs' _ _ (by omega) (by omega)
          · exact hs' _ _ hij (by omega)
  · obtain ⟨rfl, hB', hs'⟩ := hI
    rw [Nat.max_eq_right hn] at hs'
    exact ⟨rfl, hB', hs'⟩
  · obtain ⟨rfl, hB', hs'⟩ := hI
    exact wpS_pure (h st' hB' hs')

theorem sorts_t {st : SortSt} {Q : Unit → SortSt → Prop} (Z : SortAt prog w A s κ a₀) (hB : TB a₀ st) (h2 : 2 ≤ a₀.size) (h64 : a₀.size < 64)
    (h : ∀ st', (arrOf st').Perm a₀ → failedOf st' = none → SortedToK κ (arrOf st') a₀.size → Q () st') : PyProof.Rows.wpS (model prog w) A E s sortRuns' Q st := by
  rw [sortRuns'_eq]
  refine wpS_bind (wpS_get ?_)
  have hmr : minRun' a₀.size a₀.size 0 = a₀.size := by
    obtain ⟨f, hf⟩ : ∃ f, a₀.size = f + 1 := ⟨a₀.size - 1, by omega⟩
    rw [hf]
    rw [minRun'_succ, if_pos (by omega)]
  simp only [hB.size, hmr]
  let Dn : SortSt → Prop := fun st => (arrOf st).Perm a₀ ∧ failedOf st = none ∧ pendingOf st = #[(0, a₀.size, 0)] ∧ SortedToK κ (arrOf st) a₀.size
  have done : ∀ {st}, TB a₀ st → SortedToK κ (arrOf st) a₀.size → Dn (setPending st ((pendingOf st).push (0, a₀.size, 0))) := fun hB hs => ⟨hB.perm, hB.failed, by show (pendingOf _).push _ = _; rw [hB.pend]; rfl, hs⟩
  refine wpS_bind (wpS_mono (wpS_forRange (fun x c st' => (x = 0 ∧ c = (none, 0) ∧ TB a₀ st') ∨ (1 ≤ x ∧ c = (none, a₀.size) ∧ Dn st')) (Q := fun c st' => c = (none, a₀.size) ∧ Dn st') (fun x c st' _ hx hI => ?_) (fun c st' hI => ?_) (.inl ⟨rfl, rfl, hB⟩)) fun c st' hI => ?_)
  · rcases hI with ⟨rfl, rfl, hB'⟩ | ⟨hx1, rfl, hD⟩
    · dsimp only
      (first | refine Mine.ite_no (by omega) ?_ | rw [if_neg (by omega)])
      simp only [Nat.sub_zero, Nat.min_self, Nat.zero_add]
      refine wpS_bind (run_t Z (Nat.le_refl _) (by omega) hB' fun m st2 hB2 m1 m2 hs2 => ?_)
      dsimp only
      by_cases hlt : m < a₀.size
      · (first | refine Mine.ite_yes hlt ?_ | rw [if_pos hlt])
        refine wpS_bind (wpS_lift (wpAny_rule ⟨rfl, ?_⟩))
        refine wpS_bind (bins_t Z m1 m2 hB2 hs2 fun st3 hB3 hs3 => ?_)
        simp only [Bool.not_true, Bool.false_eq_true, if_false]
        refine wpS_bind (wpS_get ?_)
        rw [show (pendingOf st3).back? = none by rw [hB3.pend]; rfl]
        exact wpS_bind (wpS_modify (wpS_pure (.inr ⟨Nat.le_refl _, rfl, done hB3 hs3⟩)))
      · (first | refine Mine.ite_no hlt ?_ | rw [if_neg hlt])
        have hm : m = a₀.size := by omega
        subst hm
        refine wpS_bind (wpS_get ?_)
        rw [show (pendingOf st2).back? = none by rw [hB2.pend]; rfl]
        exact wpS_bind (wpS_modify (wpS_pure (.inr ⟨Nat.le_refl _, rfl, done hB2 hs2⟩)))
    · dsimp only
      (first | refine Mine.ite_yes (Nat.le_refl _) ?_ | rw [if_pos (Nat.le_refl _)])
      exact wpS_pure ⟨rfl, hD⟩
  · rcases hI with ⟨hx, _, _⟩ | ⟨_, hc, hD⟩
    · omega
    · exact ⟨hc, hD⟩
  · obtain ⟨rfl, hD⟩ := hI
    dsimp only
    refine wpS_bind (wpS_mono (wpS_forRange (fun _ c st'' => st'' = st' ∧ c = (none, ())) (Q := fun c st'' => st'' = st' ∧ c = (none, ())) (fun x c st'' _ _ hJ => ?_) (fun _ _ hJ => hJ) ⟨rfl, rfl⟩) fun c st'' hJ => ?_)
    · obtain ⟨rfl, rfl⟩ := hJ
      refine wpS_bind (wpS_get ?_)
      (first | refine Mine.ite_yes (by rw [hD.2.2.1]; exact Nat.le_refl 1) ?_ | rw [if_pos (by rw [hD.2.2.1]; exact Nat.le_refl 1)])
      exact wpS_pure ⟨rfl, rfl⟩
    · obtain ⟨rfl, rfl⟩ := hJ
      exact wpS_pure (h _ hD.1 hD.2.1 hD.2.2.2)
end
end
section
open PySem PySem.Calls PySem.Spec PyProof.Rows

/-! pairs of ints, as keys -/
noncomputable def ltB (a b : Int × Int) : Bool := decide (a.1 < b.1 ∨ (a.1 = b.1 ∧ a.2 < b.2))
theorem encP_inj {p q : Int × Int} (h : encP p = encP q) : p = q := by
  unfold encP at h
  simp only [PyData.tuple.injEq, List.cons.injEq, PyData.int.injEq, and_true] at h
  exact Prod.ext h.1 h.2
open Classical in
noncomputable def keyAt (h : Heap) (H : Hid) (v : Value) : Option (Int × Int) := if q : ∃ p, Rd (Zof h H) v (encP p) then some q.choose else none
theorem keyAt_eq {h : Heap} {H : Hid} {v : Value} {p : Int × Int} (r : Rd (Zof h H) v (encP p)) : keyAt h H v = some p := by
  have q : ∃ p, Rd (Zof h H) v (encP p) := ⟨p, r⟩
  unfold keyAt
  rw [dif_pos q, encP_inj (Rd.same Zof.fun q.choose_spec r)]
theorem keyAt_inv {h : Heap} {H : Hid} {v : Value} {p : Int × Int} (e : keyAt h H v = some p) : Rd (Zof h H) v (encP p) := by
  unfold keyAt at e
  split at e
  · rename_i q; cases e; exact q.choose_spec
  · cases e
theorem ltB_iff {a b : Int × Int} : ltB a b = true ↔ a.1 < b.1 ∨ (a.1 = b.1 ∧ a.2 < b.2) := decide_eq_true_iff
theorem ltB_no {a b : Int × Int} : ltB a b = false ↔ lexLe b a := by
  rw [← Bool.not_eq_true, ltB_iff]; unfold lexLe; omega
noncomputable def pairKind (h : Heap) (H : Hid) : KeyKind where
  α := Int × Int
  blt := ltB
  irrefl := fun a => by rw [ltB_no]; unfold lexLe; omega
  trans := fun a b c h1 h2 => by rw [ltB_iff] at *; omega
  negTrans := fun a b c h1 => by rw [ltB_iff] at *; rw [ltB_iff]; omega
  total := fun a b h1 h2 => by rw [ltB_no] at *; unfold lexLe at *; exact Prod.ext (by omega) (by omega)
  keyOf := keyAt h H
  dflt := (0, 0)

section
variable {prog : Program} {w : World} {A : Around} {E : Value → Shared → Prop} {s : Shared} {H : Hid}

theorem pair_inv {h : Heap} {v : Value} {p : Int × Int} (r : Rd (Zof h H) v (encP p)) : ∃ a o n t u, v = .ref a ∧ h.get? a = some o ∧ o.cls = .type "tuple" ∧ o.data = .seq #[.int p.1 t, .int p.2 u] n := by
  obtain ⟨l, o, vs, n, rfl, hz, hc, hd, _, r⟩ := Rd.tuple_inv r
  obtain ⟨vs⟩ := vs
  cases r with
  | cons h1 r => cases r with
    | cons h2 r => cases r; cases h1; cases h2; exact ⟨l, o, n, _, _, rfl, hz.1, hc, hd⟩

theorem tlt_eq (b : Bool) (x y : Value) : keyLt' (tuples' b) x y = (do
    let xs ← Builtin.List.listItems x; let ys ← Builtin.List.listItems y
    for ((p, q), i) in (xs.toList.zip ys.toList).zipIdx do
      if !(← eqBool p q) then return ← oneLt' (b && i == 0) p q
    return xs.size < ys.size) := rfl
theorem oneLt_later {a b : Int} {t u : Tok} {Q : Bool → Shared → Prop} (h : Q (decide (a < b)) s) : wpAny (model prog w) A (oneLt' false (.int a t) (.int b u)) Q E s := by
  rw [oneLt'_eq]
  simp only [Bool.false_eq_true, if_false]
  exact wpAny_bind (lt_int (wpAny_truthy_bool h))
theorem key_lt {v u : Value} {p q : Int × Int} {Q : Bool → Shared → Prop} (rv : Rd (Zof s.heap H) v (encP p)) (ru : Rd (Zof s.heap H) u (encP q)) (h : Q (ltB p q) s) : wpAny (model prog w) A (keyLt' (tuples' true) v u) Q E s := by
  obtain ⟨a, o, n, t1, t2, rfl, ha, _, hd⟩ := pair_inv rv
  obtain ⟨b, o', n', t3, t4, rfl, hb, _, hd'⟩ := pair_inv ru
  obtain ⟨p1, p2⟩ := p
  obtain ⟨q1, q2⟩ := q
  have hlt : ltB (p1, p2) (q1, q2) = if p1 == q1 then (if p2 == q2 then false else decide (p2 < q2)) else decide (p1 < q1) := by
    unfold ltB
    by_cases e1 : p1 = q1
    · subst e1
      by_cases e2 : p2 = q2
      · subst e2; simp
      · simp [e2]
    · simp [e1]
  rw [hlt] at h
  rw [tlt_eq]
  refine wpAny_bind (listItems_at ha hd (wpAny_bind (listItems_at hb hd' (wpAny_bind ?_))))
  show wpAny _ _ (forIn [((Value.int p1 t1, Value.int q1 t3), 0), ((Value.int p2 t2, Value.int q2 t4), 1)] _ _) _ _ _
  rw [List.forIn_cons]
  refine wpAny_bind (wpAny_bind (wpAny_eqBool_int ?_))
  cases e1 : p1 == q1 with
  | false =>
    rw [e1, if_neg (by decide)] at h
    exact wpAny_bind (oneLt_int (wpAny_pure (wpAny_pure (wpAny_pure h))))
  | true =>
    rw [e1, if_pos rfl] at h
    refine wpAny_pure ?_
    show wpAny _ _ (forIn [((Value.int p2 t2, Value.int q2 t4), 1)] _ _) _ _ _
    rw [List.forIn_cons]
    refine wpAny_bind (wpAny_bind (wpAny_eqBool_int ?_))
    cases e2 : p2 == q2 with
    | false =>
      rw [e2, if_neg (by decide)] at h
      exact wpAny_bind (oneLt_later (wpAny_pure (wpAny_pure (wpAny_pure h))))
    | true =>
      rw [e2, if_pos rfl] at h
      exact wpAny_pure (wpAny_pure (wpAny_pure h))

theorem first_eq (v : Value) : firstOfTuple' v = (do
    if (← typeOf v) != .type "tuple" then return none
    return (← Builtin.List.listItems v)[0]?) := rfl
theorem firsts_ok : ∀ {vs : List Value} {ps : List (Int × Int)} {Q : List (Option Value) → Shared → Prop}, RdAll (Zof s.heap H) vs (ps.map encP) → (∀ fs, IntsAre fs (ps.map (·.1)) → Q (fs.map some) s) → wpAny (model prog w) A (vs.mapM firstOfTuple') Q E s
  | [], [], _, _, h => by rw [List.mapM_nil]; exact wpAny_pure (h [] .nil)
  | v :: vs, p :: ps, Q, r, h => by
    cases r with
    | cons r1 r =>
      obtain ⟨a, o, n, t, u, rfl, ha, hc, hd⟩ := pair_inv r1
      rw [List.mapM_cons, first_eq]
      refine wpAny_bind (wpAny_bind (PySem.W.Looks.here (show PySem.W.Looks (model prog w) s.heap (typeOf (.ref a)) o.cls from (PySem.W.Looks.ld ha).andThen .now) ?_))
      rw [hc, if_neg (by decide)]
      refine wpAny_bind (listItems_at ha hd (wpAny_pure ?_))
      exact wpAny_bind (firsts_ok r fun fs hf => wpAny_pure (h (.int p.1 t :: fs) (.cons _ _ hf)))
  | [], _ :: _, _, r, _ => nomatch r
  | _ :: _, [], _, r, _ => nomatch r
theorem kind_ok {vs : List Value} {ps : List (Int × Int)} {Q : SortKind → Shared → Prop} (r : RdAll (Zof s.heap H) vs (ps.map encP)) (hne : 0 < ps.length) (h : Q (tuples' true) s) : wpAny (model prog w) A (keyKind' vs.toArray) Q E s := by
  rw [keyKind'_eq, List.mapM_toArray, map_eq_pure_bind]
  refine wpAny_bind (wpAny_bind (firsts_ok r fun fs hf => wpAny_pure ?_))
  have hlen : fs.length = ps.length := by have := hf.length; simpa using this
  (first | refine Mine.ite_yes (by simp) ?_ | rw [if_pos (by simp)])
  refine wpAny_bind (wpAny_rule ?_)
  have e1 : ((fs.map some).toArray.filterMap id) = fs.toArray := by simp
  rw [e1, oneTypeOnly'_eq, List.mapM_toArray, mapM_typeOf_ints hf]
  have e2 : (List.map (fun _ => Value.type "int") fs).toArray[0]? = some (Value.type "int") := by
    cases fs with
    | nil => rw [← hlen] at hne; exact absurd hne (Nat.lt_irrefl _)
    | cons => rfl
  have e3 : ((List.map (fun _ => Value.type "int") fs).toArray.all fun x => x == Value.type "int") = true := by
    simp only [List.all_toArray, List.all_map, List.all_eq_true]
    intro _ _; rfl
  refine wpAny_bind (wpAny_bind (wpAny_bind (wpAny_pure (wpAny_pure ?_))))
  rw [e2]
  simp only [e3, if_true]
  exact wpAny_pure (wpAny_pure h)

theorem pairs_out {h : Heap} : ∀ {vs : List Value}, (∀ v ∈ vs, ∃ p, Rd (Zof h H) v (encP p)) → RdAll (Zof h H) vs ((vs.map fun v => (keyAt h H v).getD (0, 0)).map encP)
  | [], _ => .nil
  | v :: vs, hv => by
    obtain ⟨p, r⟩ := hv v List.mem_cons_self
    refine .cons ?_ (pairs_out fun u hu => hv u (List.mem_cons_of_mem _ hu))
    show Rd _ v (encP ((keyAt h H v).getD (0, 0)))
    rw [keyAt_eq r]; exact r
theorem pairs_keys {h : Heap} : ∀ {vs : List Value} {ps : List (Int × Int)}, RdAll (Zof h H) vs (ps.map encP) → vs.map (fun v => (keyAt h H v).getD (0, 0)) = ps ∧ ∀ v ∈ vs, ∃ p, Rd (Zof h H) v (encP p)
  | [], [], _ => ⟨rfl, fun _ h => nomatch h⟩
  | v :: vs, p :: ps, r => by
    cases r with
    | cons r1 r =>
      obtain ⟨e, hv⟩ := pairs_keys r
      refine ⟨?_, fun u hu => ?_⟩
      · rw [List.map_cons, e, keyAt_eq r1]; rfl
      · rcases List.mem_cons.mp hu with rfl | hu
        · exact ⟨p, r1⟩
        · exact hv u hu
  | [], _ :: _, r => nomatch r
  | _ :: _, [], r => nomatch r

theorem sorted_out {h : Heap} {vs : List Value} {ps : List (Int × Int)} {xs : Array Keyed} (r : RdAll (Zof h H) vs (ps.map encP)) (hp : xs.Perm (PyProof.Rows.pairsOf vs)) (hs : SortedToK (pairKind h H) xs (PyProof.Rows.pairsOf vs).size) :
    ∃ qs : List (Int × Int), RdAll (Zof h H) (xs.map (·.2)).toList (qs.map encP) ∧ qs.Perm ps ∧ qs.Pairwise lexLe := by
  have hl : xs.toList.Perm (vs.zip vs) := by rw [← pairsOf_toList]; exact Array.perm_iff_toList_perm.mp hp
  have hmem : ∀ p, p ∈ xs.toList → p.1 = p.2 ∧ p.1 ∈ vs := fun p hp' => mem_zip_self (hl.mem_iff.mp hp')
  have e : (xs.map (·.2)).toList = xs.toList.map (·.1) := by
    rw [Array.toList_map]; exact List.map_congr_left fun p hp' => (hmem p hp').1.symm
  obtain ⟨ek, hv⟩ := pairs_keys r
  have hpm : (xs.toList.map (·.1)).Perm vs := by
    have := hl.map (·.1)
    rwa [List.map_fst_zip (Nat.le_refl _)] at this
  refine ⟨_, by rw [e]; exact pairs_out fun v hv' => hv v (hpm.mem_iff.mp hv'), ?_, ?_⟩
  · have := hpm.map fun v => (keyAt h H v).getD (0, 0)
    rwa [ek] at this
  · rw [List.pairwise_iff_getElem]
    intro i j hi hj hij
    have hj' : j < xs.size := by simpa using hj
    have hi' : i < xs.size := Nat.lt_trans hij hj'
    have h1 := hs i j (Nat.le_of_lt hij) (by rw [← hp.size_eq]; exact hj')
    unfold KK at h1
    rw [getElem?_pos xs i hi', getElem?_pos xs j hj'] at h1
    have h1 : lexLe ((keyAt h H xs[i].1).getD (0, 0)) ((keyAt h H xs[j].1).getD (0, 0)) := ltB_no.mp h1
    simpa using h1

theorem pairs_sort_tree {h₀ : Heap} {a : Addr} {vs : List Value} {ps : List (Int × Int)} {n : Nat} {P : PySem.Fin → Shared → Prop} (hst : h₀.StaysIn s.heap) (hna : h₀.get? a = none) (ho : s.heap.get? a = some (seqObj "list" vs.toArray n))
    (r : RdAll (Zof h₀ H) vs (ps.map encP)) (h64 : vs.length < 64)
    (h : ∀ (out : Array Value) (qs : List (Int × Int)), RdAll (Zof h₀ H) out.toList (qs.map encP) → qs.Perm ps → qs.Pairwise lexLe → P (.done (.ret .none)) { s with heap := sortedHeap s.heap a vs out }) :
    wpAny (model prog w) A (Builtin.«list.sort» ⟨[.ref a], []⟩) P E s := by
  rw [list_sort_plain]
  have ha : a < s.heap.objs.size := Heap.lt_size ho
  have hlen : vs.length = ps.length := by have := r.length; simpa using this
  refine wpAny_bind (listItems_at ho rfl ?_)
  refine wpAny_bind (listUpdate_at ho rfl ?_ (by rw [List.size_toArray, sizeLine_eq]; omega) (Nat.zero_le _))
  obtain ⟨e1, ho1⟩ : ∃ e1, (s.heap.update a (Obj.mapSeq fun _ => #[])).get? a = some (seqObj "list" #[] e1) := ⟨_, get?_update_seq ho (fun _ => #[])⟩
  refine wpAny_bind (seqEpoch_at ho1 rfl ?_)
  refine wpAny_bind (wpAny_newTuple ?_ (by show vs.length ≤ _; rw [sizeLine_eq]; omega))
  refine wpAny_bind (wpAny_newList ?_ (Nat.zero_le _))
  refine wpAny_holding ?_
  have ho6 : (((s.heap.update a (Obj.mapSeq fun _ => #[])).push (seqObj "tuple" vs.toArray 0)).push (seqObj "list" #[] 0)).get? a = some (seqObj "list" #[] e1) := Heap.get?_push_of_some _ (Heap.get?_push_of_some _ ho1)
  have k6 : h₀.StaysIn (((s.heap.update a (Obj.mapSeq fun _ => #[])).push (seqObj "tuple" vs.toArray 0)).push (seqObj "list" #[] 0)) := fun b o e => by
    refine Heap.get?_push_of_some _ (Heap.get?_push_of_some _ ?_)
    exact ((Heap.SameBut.update s.heap a (Obj.mapSeq fun _ => (#[] : Array Value))).2 b (fun q => by rw [q, hna] at e; cases e)).trans (hst b o e)
  generalize hG : ((s.heap.update a (Obj.mapSeq fun _ => #[])).push (seqObj "tuple" vs.toArray 0)).push (seqObj "list" #[] 0) = g at ho6 k6
  have sh : ∀ out, sortedHeap s.heap a vs out = g.update a (Obj.mapSeq fun _ => out) := fun out => by unfold sortedHeap; rw [hG]
  show wpAny (model prog w) A _ P E { s with heap := g }
  dsimp only
  by_cases h2 : vs.toArray.size < 2
  · rw [if_pos h2, if_pos h2]
    refine wpAny_bind (wpAny_pure ?_)
    rw [StateT.run_pure]
    refine wpAny_bind (wpAny_pure ?_)
    dsimp only
    refine wpAny_bind (seqEpoch_at ho6 rfl ?_)
    have e : ((vs.toArray.zip vs.toArray).map (·.2)) = vs.toArray := by
      apply Array.toList_inj.mp
      simp
      exact List.map_snd_zip (Nat.le_refl _)
    refine wpAny_bind (listUpdate_at ho6 rfl ?_ (hsz2 := by show ((vs.toArray.zip vs.toArray).map (·.2)).size ≤ _; rw [e, List.size_toArray, sizeLine_eq]; omega))
    simp only [bne_self_eq_false, Bool.false_eq_true, if_false]
    refine wpAny_pure ?_
    have := h vs.toArray ps r (List.Perm.refl _) (by
      rw [List.size_toArray, hlen] at h2
      match ps, h2 with
      | [], _ => exact .nil
      | [p], _ => exact List.pairwise_singleton _ _
      | _ :: _ :: _, h2 => simp at h2; omega)
    rw [sh] at this
    show P _ { s with heap := g.update a (Obj.mapSeq fun _ => (vs.toArray.zip vs.toArray).map (·.2)) }
    rw [e]; exact this
  · rw [if_neg h2, if_neg h2]
    have h2' : 2 ≤ vs.length := by rw [List.size_toArray] at h2; omega
    have r6 : RdAll (Zof g H) vs (ps.map encP) := r.move fun b o _ z => ⟨k6 b o z.1, z.2⟩
    refine wpAny_bind (kind_ok (s := { s with heap := g }) r6 (by omega) ?_)
    have hk : PyProof.Rows.KeysOf (pairKind g H) (PyProof.Rows.pairsOf vs) := fun q hq => by
      rw [pairsOf_toList] at hq
      obtain ⟨p, hp⟩ := (pairs_keys r6).2 _ (mem_zip_self hq).2
      exact ⟨p, keyAt_eq hp⟩
    have Z : SortAt prog w A { s with heap := g } (pairKind g H) (PyProof.Rows.pairsOf vs) := ⟨fun x y a b Q E k1 k2 hQ => key_lt (keyAt_inv k1) (keyAt_inv k2) hQ, hk⟩
    refine wpAny_bind (wpAny_mono (sorts_t (st := SortSt.mk' (tuples' true) (vs.toArray.zip vs.toArray) #[] 7 none)
      (Q := fun _ st' => (arrOf st').Perm (PyProof.Rows.pairsOf vs) ∧ failedOf st' = none ∧ SortedToK (pairKind g H) (arrOf st') (PyProof.Rows.pairsOf vs).size) Z ⟨Array.Perm.refl _, rfl, rfl, rfl⟩ (by rw [pairsOf_size]; exact h2') (by rw [pairsOf_size]; exact h64) fun st' a1 a2 a3 => ⟨a1, a2, a3⟩) ?_ fun _ _ e => e)
    rintro ⟨⟨⟩, st'⟩ s' ⟨rfl, hp, hf, hs⟩
    dsimp only
    refine wpAny_bind (seqEpoch_at ho6 rfl ?_)
    refine wpAny_bind (listUpdate_at ho6 rfl ?_ (hsz2 := by refine Nat.le_trans (Nat.le_of_eq ((Array.size_map ..).trans (hp.size_eq.trans (pairsOf_size _)))) ?_; rw [sizeLine_eq]; omega))
    rw [hf]
    simp only [bne_self_eq_false, Bool.false_eq_true, if_false]
    refine wpAny_pure ?_
    obtain ⟨qs, q1, q2, q3⟩ := sorted_out r6 hp hs
    have hq1 : RdAll (Zof h₀ H) ((arrOf st').map (·.2)).toList (qs.map encP) := by
      have hl : (arrOf st').toList.Perm (vs.zip vs) := by rw [← pairsOf_toList]; exact Array.perm_iff_toList_perm.mp hp
      have old := (pairs_keys r).2
      have e : ∀ v ∈ ((arrOf st').map (·.2)).toList, v ∈ vs := fun v hv => by
        rw [Array.toList_map] at hv
        obtain ⟨p, hp', rfl⟩ := List.mem_map.mp hv
        have := mem_zip_self (hl.mem_iff.mp hp')
        rw [← this.1]; exact this.2
      have r1 := pairs_out (h := h₀) (H := H) fun v hv => old v (e v hv)
      have r2 : RdAll (Zof g H) _ _ := r1.move fun b o _ z => ⟨k6 b o z.1, z.2⟩
      rw [RdAll.same Zof.fun q1 r2]; exact r1
    have := h _ qs hq1 q2 q3
    rw [sh] at this
    exact this

theorem sortP : SortP prog w := by
  intro A E s H P v d Q ao hH r q k
  cases d with
  | list ds =>
    obtain ⟨ps, rfl, hlt, q⟩ := q
    obtain ⟨l, ⟨vs⟩, rfl, hl, hn, r⟩ := r.isList
    have hlen : vs.length = ps.length := by have := RdAll.length r; simpa using this
    refine Calls.call_function_entry kind_sorted plain_sorted entry_sorted (args_sorted1 _) ?_
    unfold Builtin.«sorted»
    refine wpAny_bind (m := checkCount "sorted" 1 1 _) (wpAny_pure ?_)
    refine wpAny_bind (collect_list hl ?_ (by rw [sizeLine_eq]; omega))
    refine wpAny_bind (wpAny_newList ?_ (by rw [sizeLine_eq]; omega))
    have hsz : ((s.heap.push (seqObj "list" #[] 0)).update s.heap.objs.size (Obj.mapSeq (· ++ vs.toArray))).objs.size = s.heap.objs.size + 1 := by
      rw [Heap.size_update, size_push']
    have hoL : (((s.heap.push (seqObj "list" #[] 0)).update s.heap.objs.size (Obj.mapSeq (· ++ vs.toArray))).push (seqObj "list" vs.toArray 0)).get? (s.heap.objs.size + 1) = some (seqObj "list" vs.toArray 0) := by
      rw [← hsz]; exact Heap.get?_push_size _ rfl
    have keep : s.heap.StaysIn (((s.heap.push (seqObj "list" #[] 0)).update s.heap.objs.size (Obj.mapSeq (· ++ vs.toArray))).push (seqObj "list" vs.toArray 0)) := fun b o q => by
      have hlt : b < s.heap.objs.size := Heap.lt_size q
      rw [Heap.get?_push_ne _ _ _ (by rw [hsz]; exact Nat.ne_of_lt (Nat.lt_succ_of_lt hlt)), Heap.get?_update_ne _ _ _ _ (Nat.ne_of_lt hlt), Heap.get?_push_ne _ _ _ (Nat.ne_of_lt hlt)]
      exact q
    show wpAny _ _ _ _ _ { s with heap := ((s.heap.push (seqObj "list" #[] 0)).update s.heap.objs.size (Obj.mapSeq (· ++ vs.toArray))).push (seqObj "list" vs.toArray 0) }
    rw [hsz]
    refine wpAny_bind (wpAny_holding (wpAny_call_entry slot_list_sort ⟨_, hoL, rfl⟩ entry_list_sort (pairs_sort_tree (h₀ := s.heap) keep (by
      cases h : s.heap.get? (s.heap.objs.size + 1) with
      | none => rfl
      | some o => exact absurd (Heap.lt_size h) (Nat.not_lt.mpr (Nat.le_succ _))) hoL r (by omega) fun out qs ro hp hs => ⟨_, rfl, ?_⟩) (args_list_sort _)))
    refine wpAny_pure ⟨_, rfl, ?_⟩
    refine k _ _ _ (q qs hp hs) ?_ ?_
    · obtain ⟨e, he⟩ := sortedAll_at s.heap vs out
      have hz : out.size = ps.length := by have := ro.length; rw [Array.length_toList, List.length_map] at this; rw [this, hp.length_eq]
      exact rd_list ⟨e, he⟩ (hH.fresh _ (by omega)) (by rw [hz, sL]; omega) (ro.move fun b o _ z => ⟨sortedAll_old z.1, z.2⟩)
    · exact Ext.of (tk := s.toks) fun b o e => sortedAll_old e
  | _ => exact q.elim
end
end
section
open PySem PySem.Calls PySem.Spec PyProof.Rows

noncomputable def visOf (sc : Scope) (v : List String) : List Nat := (List.range v.length).filter (fun i => kLoc (nmOf v) sc i && !((List.range i).any (fun j => nmOf v j == nmOf v i)))
/-- a def's object stands, and its text is the small one -/
noncomputable def FnGood (base : Heap) (a : Addr) (v : List String) (ms : List MS) (np : Nat) : Prop := ∃ ps sc body, FnAt base a ps sc body ∧ scOk sc ps = true ∧ visOk (nmOf v) (visOf sc v) v.length ps = true ∧ mSs (nmOf v) sc (visOf sc v) ms body = true ∧ ps.length = np ∧ (visOf sc v).contains 0 = true

structure Defs (base : Heap) (fa : Nat → Addr) : Prop where
  f0 : FnGood base (fa 0) v_reach b_reach 4
  f1 : FnGood base (fa 1) v_component_ids b_component_ids 3
  f2 : FnGood base (fa 2) v_is_rising b_is_rising 1
  f3 : FnGood base (fa 3) v_touching b_touching 2
  f4 : FnGood base (fa 4) v_round_trip b_round_trip 1
  f5 : FnGood base (fa 5) v_bridges b_bridges 1
  f6 : FnGood base (fa 6) v_merge b_merge 2
  f7 : FnGood base (fa 7) v_sort b_sort 1
  f8 : FnGood base (fa 8) v_find b_find 2
  f9 : FnGood base (fa 9) v_forest b_forest 2
  f10 : FnGood base (fa 10) v_check_forest b_check_forest 3
  f11 : FnGood base (fa 11) v_components b_components 1
  f12 : FnGood base (fa 12) v_up b_up 2
  f13 : FnGood base (fa 13) v_odd_circle b_odd_circle 5
  f14 : FnGood base (fa 14) v_two_colors b_two_colors 1
  f15 : FnGood base (fa 15) v_law_ints b_law_ints 1
  f16 : FnGood base (fa 16) v_law_labels b_law_labels 2
  f17 : FnGood base (fa 17) v_law_best b_law_best 3
  f18 : FnGood base (fa 18) v_law_fits b_law_fits 5
  f19 : FnGood base (fa 19) v_law_step b_law_step 8
  f20 : FnGood base (fa 20) v_law_plans b_law_plans 4
  f21 : FnGood base (fa 21) v_law_groups b_law_groups 3
  f22 : FnGood base (fa 22) v_law_circuit b_law_circuit 3
  f23 : FnGood base (fa 23) v_law_colors b_law_colors 3
  f24 : FnGood base (fa 24) v_law_trip b_law_trip 3

noncomputable def lev : Nat → Nat
  | 4 => 1 | 5 => 1 | 7 => 1 | 9 => 2 | 10 => 3 | 11 => 1 | 13 => 1 | 14 => 2 | 17 => 1 | 18 => 1 | 20 => 4 | 21 => 2 | 22 => 1 | 23 => 3 | 24 => 2
  | _ => 0

section
variable {prog : Program} {w : World} {base : Heap} {fa : Nat → Addr}

theorem FnOk.mono {k f : Nat} {ds : List D} {Q Q' : D → Prop} (h : FnOk prog w base fa k f ds Q) (hq : ∀ d, Q d → Q' d) : FnOk prog w base fa k f ds Q' :=
  fun A ao s H vs P E h1 h2 h3 kn => h A ao s H vs P E h1 h2 h3 fun v s' d q r e => kn v s' d (hq d q) r e
theorem fn_use {f k np : Nat} {v : List String} {ms : List MS} {ds : List D} {Q : D → Prop} {st : St} (n : Nat) (G : Ground base fa fname) (hg : FnGood base (fa f) v ms np)
    (q : wpSs (PhiOf prog w base fa lev k) (LamOf prog w base fa lev k) ms st (RetP Q)) (hst : st = ds.map Slot.sh ++ List.replicate n .undef) (hds : ds.length = np) (hn : v.length = np + n) : FnOk prog w base fa (k + 1) f ds Q := by
  subst hst
  obtain ⟨ps, sc, body, hF, hsc, hv, hm, hl, _⟩ := hg
  exact fn_ok G sortP hF hsc (by rw [hds, ← hn]; exact hv) hm (by rw [hds, hl]) q

variable (G : Ground base fa fname) (W : Defs base fa)
include G W
theorem j0 {k : Nat} (hk : lev 0 < k) : SpecReach (PhiOf prog w base fa lev k) := fun n s E Q h1 h2 h3 h4 hq => ⟨hk, (fn_use 8 G W.f0 (reach_ok _ _ n s E h1 h2 h3 h4) rfl rfl rfl).mono fun d ⟨S, a, b⟩ => b ▸ hq S a⟩
theorem j1 {k : Nat} (hk : lev 1 < k) : SpecCompIds (PhiOf prog w base fa lev k) := fun n E E' skip L Q h1 h2 h3 h4 h5 hq => ⟨hk, (fn_use 10 G W.f1 (component_ids_ok _ _ n E E' skip L h1 h2 h3 h4 h5) rfl rfl rfl).mono fun d a => a ▸ hq⟩
theorem j2 {k : Nat} (hk : lev 2 < k) : SpecRising (PhiOf prog w base fa lev k) := fun xs Q h1 hq => ⟨hk, (fn_use 1 G W.f2 (is_rising_ok _ _ xs h1) rfl rfl rfl).mono fun d a => a ▸ hq⟩
theorem j3 {k : Nat} (hk : lev 3 < k) : SpecTouch (PhiOf prog w base fa lev k) := fun n E Q h1 h2 h3 hq => ⟨hk, (fn_use 4 G W.f3 (touching_ok _ _ n E h1 h2 h3) rfl rfl rfl).mono fun d ⟨t, a, b⟩ => b ▸ hq t a⟩
theorem j4 {k : Nat} (hk : lev 4 < k) : SpecTrip (PhiOf prog w base fa lev k) := fun n E Q h1 h2 h3 hq => ⟨hk, (fn_use 15 G W.f4 (round_trip_ok _ _ (j0 G W (by decide)) (j3 G W (by decide)) n E h1 h2 h3) rfl rfl rfl).mono fun d a => hq d a⟩
theorem j5 {k : Nat} (hk : lev 5 < k) : SpecBridges (PhiOf prog w base fa lev k) := fun n E Q h1 h2 h3 hq => ⟨hk, (fn_use 5 G W.f5 (bridges_ok _ _ (j1 G W (by decide)) n E h1 h2 h3) rfl rfl rfl).mono fun d a => a ▸ hq⟩
theorem j6 {k : Nat} (hk : lev 6 < k) : SpecMerge (PhiOf prog w base fa lev k) := fun xs ys Q h1 h2 h3 h4 hq => ⟨hk, (fn_use 3 G W.f6 (merge_ok _ _ xs ys h1 h2 h3 h4) rfl rfl rfl).mono fun d ⟨zs, a, b, c⟩ => c ▸ hq zs a b⟩
theorem j7 {k : Nat} (hk : lev 7 < k) : SpecSort (PhiOf prog w base fa lev k) := fun ps Q h1 hq => ⟨hk, (fn_use 4 G W.f7 (sort_ok _ _ (j6 G W (by decide)) ps h1) rfl rfl rfl).mono fun d ⟨qs, a, b, c⟩ => c ▸ hq qs a b⟩
theorem j8 {k : Nat} (hk : lev 8 < k) : SpecFind (LamOf prog w base fa lev k) := fun n x p R rk Q h1 h2 h3 hq => by
  obtain ⟨ps, sc, body, hF, hsc, hv, hm, hl, h0⟩ := W.f8
  exact ⟨hk, fn_lend (lev := lev) G sortP hF hsc hv hm hl.symm (List.contains_iff_mem.mp h0) (find_ok _ _ h1 h2 h3 _ fun p' hp' => ⟨_, _, _, rfl, rfl, hq p' hp'⟩)⟩
theorem j9 {k : Nat} (hk : lev 9 < k) : SpecForest (PhiOf prog w base fa lev k) := fun n E ws Q h1 h2 h3 h4 hq => ⟨hk, (fn_use 13 G W.f9 (forest_ok _ _ (j7 G W (by decide)) (j8 G W (by decide)) n E ws h1 h2 (by omega) h4) rfl rfl rfl).mono fun d a => a ▸ hq⟩
theorem j10 {k : Nat} (hk : lev 10 < k) : SpecCheck (PhiOf prog w base fa lev k) := fun n E ws plan Q h0 h1 h2 h3 h4 h5 hq => ⟨hk, (fn_use 9 G W.f10 (check_forest_ok _ _ (j2 G W (by decide)) (j1 G W (by decide)) (j9 G W (by decide)) n E ws plan h0 h1 h2 h3 h4 h5) rfl rfl rfl).mono fun d a => a ▸ hq⟩
theorem j11 {k : Nat} (hk : lev 11 < k) : SpecComponents (PhiOf prog w base fa lev k) := fun n E Q h1 h2 h3 hq => ⟨hk, (fn_use 6 G W.f11 (components_ok _ _ (j1 G W (by decide)) n E h1 h2 h3) rfl rfl rfl).mono fun d a => a ▸ hq⟩
theorem j12 {k : Nat} (hk : lev 12 < k) : SpecUp (PhiOf prog w base fa lev k) := fun n v E S cl par rk Q h1 h2 h3 hq => ⟨hk, (fn_use 1 G W.f12 (up_ok _ _ h1 h2 h3) rfl rfl rfl).mono fun d ⟨l, a, b⟩ => b ▸ hq l a⟩
theorem j13 {k : Nat} (hk : lev 13 < k) : SpecOddC (PhiOf prog w base fa lev k) := fun n a b k' E S cl par rk Q h1 h2 h3 h4 h5 h6 hq => ⟨hk, (fn_use 11 G W.f13 (odd_circle_ok _ _ (j12 G W (by decide)) h1 h2 h3 h4 h5 h6) rfl rfl rfl).mono fun d ⟨x, P, a, b, c⟩ => c ▸ hq x P a b⟩
theorem j14 {k : Nat} (hk : lev 14 < k) : SpecColors (PhiOf prog w base fa lev k) := fun n E Q h1 h2 h3 hq => ⟨hk, (fn_use 14 G W.f14 (two_colors_ok _ _ (j13 G W (by decide)) n E h1 h2 h3) rfl rfl rfl).mono fun d a => hq d a⟩
theorem j15 {k : Nat} (hk : lev 15 < k) : SpecInts (PhiOf prog w base fa lev k) := fun xs Q h1 hq => ⟨hk, (fn_use 1 G W.f15 (law_ints_ok _ _ xs h1) rfl rfl rfl).mono fun d a => a ▸ hq⟩
theorem j16 {k : Nat} (hk : lev 16 < k) : SpecLabels (PhiOf prog w base fa lev k) := fun n E f Q h1 h2 h3 h4 hq => ⟨hk, (fn_use 6 G W.f16 (law_labels_ok _ _ n E h1 h2 h3 f h4) rfl rfl rfl).mono fun d a => a ▸ hq⟩
theorem j17 {k : Nat} (hk : lev 17 < k) : SpecBest (PhiOf prog w base fa lev k) := fun n E ws Q h1 h2 h3 h4 hq => ⟨hk, (fn_use 6 G W.f17 (law_best_ok _ _ (j16 G W (by decide)) n E ws h1 h2 h3 h4) rfl rfl rfl).mono fun d a => a ▸ hq⟩
theorem j18 {k : Nat} (hk : lev 18 < k) : SpecFits (PhiOf prog w base fa lev k) := fun n E ws plan Q h1 h2 h3 h4 h5 hq => ⟨hk, (fn_use 4 G W.f18 (law_fits_ok _ _ (j16 G W (by decide)) n E ws plan h1 h2 h3 h4 h5) rfl rfl rfl).mono fun d a => a ▸ hq⟩
theorem j19 {k : Nat} (hk : lev 19 < k) : SpecStep (PhiOf prog w base fa lev k) := fun n m E ws plan kind x y z Q h1 h2 h3 h4 hq => ⟨hk, (fn_use 3 G W.f19 (law_step_ok _ _ n m E ws plan kind x y z h1 h2 h3 h4) rfl rfl rfl).mono fun d ⟨E', ws', plan', a, b, c⟩ => c ▸ hq E' ws' plan' a b⟩
theorem j20 {k : Nat} (hk : lev 20 < k) : SpecPlans (PhiOf prog w base fa lev k) := fun n E ws plan Q h0 h1 h2 h3 h4 h5 hq => ⟨hk, (fn_use 4 G W.f20 (law_plans_ok _ _ (j17 G W (by decide)) (j9 G W (by decide)) (j15 G W (by decide)) (j10 G W (by decide)) (j18 G W (by decide)) n E ws plan h0 h1 h2 h3 h4 h5) rfl rfl rfl).mono fun d a => a ▸ hq⟩
theorem j21 {k : Nat} (hk : lev 21 < k) : SpecGroups (PhiOf prog w base fa lev k) := fun n E Q h1 h2 h3 hq => ⟨hk, (fn_use 8 G W.f21 (law_groups_ok _ _ (j11 G W (by decide)) (j5 G W (by decide)) (j16 G W (by decide)) (j15 G W (by decide)) n E h1 h2 h3) rfl rfl rfl).mono fun d a => a ▸ hq⟩
theorem j22 {k : Nat} (hk : lev 22 < k) : SpecCircuit (PhiOf prog w base fa lev k) := fun E s ks Q h1 h2 hq => ⟨hk, (fn_use 2 G W.f22 (law_circuit_ok _ _ (j15 G W (by decide)) E s ks h1 h2) rfl rfl rfl).mono fun d a => a ▸ hq⟩
theorem j23 {k : Nat} (hk : lev 23 < k) : SpecLColors (PhiOf prog w base fa lev k) := fun n E Q h1 h2 h3 hq => ⟨hk, (fn_use 13 G W.f23 (law_colors_ok _ _ (j14 G W (by decide)) (j16 G W (by decide)) (j22 G W (by decide)) (j15 G W (by decide)) n E h1 h2 h3) rfl rfl rfl).mono fun d a => a ▸ hq⟩
theorem j24 {k : Nat} (hk : lev 24 < k) : SpecLTrip (PhiOf prog w base fa lev k) := fun n E Q h1 h2 h3 hq => ⟨hk, (fn_use 13 G W.f24 (law_trip_ok _ _ (j4 G W (by decide)) (j22 G W (by decide)) (j15 G W (by decide)) n E h1 h2 h3) rfl rfl rfl).mono fun d a => a ▸ hq⟩
theorem j25 (ns : List Int) : wpSs (PhiOf prog w base fa lev 5) (LamOf prog w base fa lev 5) b_law [.sh (dIs ns), .undef, .undef, .undef, .undef, .undef, .undef, .undef, .undef, .undef, .undef, .undef, .undef, .undef, .undef, .undef, .undef] (RetP fun d => d = .bool true) :=
  law_ok _ _ (j9 G W (by decide)) (j17 G W (by decide)) (j19 G W (by decide)) (j20 G W (by decide)) (j16 G W (by decide)) (j21 G W (by decide)) (j23 G W (by decide)) (j24 G W (by decide)) ns
end
end
section
open PySem PySem.Calls PySem.Spec PyProof.Rows

noncomputable def plainP (p : Arguments) : Bool := p.posonlyargs.isEmpty && p.vararg.isNone && p.kwonlyargs.isEmpty && p.kwarg.isNone
theorem lookup_zip : ∀ {ps : List Str} {vs : List Value}, vs.length = ps.length → ps.Nodup → (∀ p ∈ ps, ((ps.zip vs).lookup p).isSome = true) ∧ ps.filterMap (fun n => ((ps.zip vs).lookup n).map (n, ·)) = ps.zip vs
  | [], [], _, _ => ⟨fun _ h => (nomatch h), rfl⟩
  | p :: ps, v :: vs, hl, hn => by
    rw [List.nodup_cons] at hn
    obtain ⟨h1, h2⟩ := lookup_zip (ps := ps) (vs := vs) (by simpa using hl) hn.2
    have hne : ∀ q ∈ ps, (q == p) = false := fun q hq => by
      simp only [beq_eq_false_iff_ne, ne_eq]; rintro rfl; exact hn.1 hq
    refine ⟨fun q hq => ?_, ?_⟩
    · rw [List.zip_cons_cons, List.lookup_cons]
      rcases List.mem_cons.mp hq with rfl | hq
      · simp
      · rw [hne q hq]; exact h1 q hq
    · rw [List.zip_cons_cons, List.filterMap_cons]
      have e : List.lookup p ((p, v) :: ps.zip vs) = some v := by simp
      rw [e]
      show (p, v) :: _ = _
      congr 1
      have key : ∀ l : List Str, (∀ q ∈ l, (q == p) = false) → l.filterMap (fun n => (List.lookup n ((p, v) :: ps.zip vs)).map (n, ·)) = l.filterMap (fun n => (List.lookup n (ps.zip vs)).map (n, ·)) := by
        intro l
        induction l with
        | nil => intro _; rfl
        | cons q l ih =>
          intro hq
          rw [List.filterMap_cons, List.filterMap_cons, ih fun r hr => hq r (List.mem_cons_of_mem _ hr), List.lookup_cons, hq q List.mem_cons_self]
      exact (key ps hne).trans h2
  | [], _ :: _, hl, _ => by simp at hl
  | _ :: _, [], hl, _ => by simp at hl

theorem bindArgs_plain {fd : FuncData} {vs : List Value} (hp : plainP fd.params = true) (hd : fd.defaults = .none) (hl : vs.length = (fd.params.args.map (·.arg)).length) (hn : (fd.params.args.map (·.arg)).Nodup) :
    bindArgs fd ⟨vs, []⟩ = pure ((fd.params.args.map (·.arg)).zip vs) := by
  obtain ⟨h1, h2⟩ := lookup_zip hl hn
  unfold plainP at hp
  simp only [Bool.and_eq_true, List.isEmpty_iff, Option.isNone_iff_eq_none] at hp
  obtain ⟨⟨⟨hp1, hp2⟩, hp3⟩, hp4⟩ := hp
  have hm : (List.map (·.arg) fd.params.args).filter (fun n => ((List.lookup n ((List.map (·.arg) fd.params.args).zip vs))).isNone) = [] := by
    rw [List.filter_eq_nil_iff]
    intro n hn'
    have := h1 n hn'
    cases h : List.lookup n ((List.map (·.arg) fd.params.args).zip vs) with
    | none => rw [h] at this; cases this
    | some v => simp
  have e0 : seqItems? Value.none = pure none := rfl
  unfold bindArgs
  simp only [hp1, hp2, hp3, hp4, hd, e0, List.map_nil, List.nil_append, List.append_nil, List.forIn_nil, pure_bind, hl, Option.getD_none, Nat.lt_irrefl, gt_iff_lt, decide_false, Bool.false_and, Bool.false_eq_true, if_false, List.drop_nil, List.length_nil, Nat.sub_zero, List.take_length, hm, List.isEmpty_nil, Bool.not_true,
    List.drop_length, List.zip_nil_left, h2]
end
section
open PySem PySem.Calls PySem.Spec PyProof.Rows

noncomputable def psOf (d : DefRec) : List Str := d.params.args.map (·.arg)
/-- a def of the program is the small one -/
noncomputable def goodD (v : List String) (ms : List MS) (np : Nat) (d : DefRec) : Bool := plainP d.params && scOk d.scope (psOf d) && visOk (nmOf v) (visOf d.scope v) v.length (psOf d) && mSs (nmOf v) d.scope (visOf d.scope v) ms d.body && (psOf d).length == np && (visOf d.scope v).contains 0
noncomputable def goodAt (p : Program) (f : Nat) (v : List String) (ms : List MS) (np : Nat) : Bool := match (recsOf p).find? (fun d => d.name == fname f) with
  | some d => goodD v ms np d
  | none => false
noncomputable def biFree (p : Program) (loose : List Str) : Bool := biNames.all fun x => !(startupNames.contains x) && !(loose.contains x) && !(((recsOf p).map (·.name)).contains x) && !(((litsOf p).map (·.1)).contains x) && !(((clssOf p loose).map (·.name)).contains x)

structure Checked (p : Program) (loose : List Str) : Prop where
  bi : biFree p loose = true
  f0 : goodAt p 0 v_reach b_reach 4 = true
  f1 : goodAt p 1 v_component_ids b_component_ids 3 = true
  f2 : goodAt p 2 v_is_rising b_is_rising 1 = true
  f3 : goodAt p 3 v_touching b_touching 2 = true
  f4 : goodAt p 4 v_round_trip b_round_trip 1 = true
  f5 : goodAt p 5 v_bridges b_bridges 1 = true
  f6 : goodAt p 6 v_merge b_merge 2 = true
  f7 : goodAt p 7 v_sort b_sort 1 = true
  f8 : goodAt p 8 v_find b_find 2 = true
  f9 : goodAt p 9 v_forest b_forest 2 = true
  f10 : goodAt p 10 v_check_forest b_check_forest 3 = true
  f11 : goodAt p 11 v_components b_components 1 = true
  f12 : goodAt p 12 v_up b_up 2 = true
  f13 : goodAt p 13 v_odd_circle b_odd_circle 5 = true
  f14 : goodAt p 14 v_two_colors b_two_colors 1 = true
  f15 : goodAt p 15 v_law_ints b_law_ints 1 = true
  f16 : goodAt p 16 v_law_labels b_law_labels 2 = true
  f17 : goodAt p 17 v_law_best b_law_best 3 = true
  f18 : goodAt p 18 v_law_fits b_law_fits 5 = true
  f19 : goodAt p 19 v_law_step b_law_step 8 = true
  f20 : goodAt p 20 v_law_plans b_law_plans 4 = true
  f21 : goodAt p 21 v_law_groups b_law_groups 3 = true
  f22 : goodAt p 22 v_law_circuit b_law_circuit 3 = true
  f23 : goodAt p 23 v_law_colors b_law_colors 3 = true
  f24 : goodAt p 24 v_law_trip b_law_trip 3 = true
  f25 : goodAt p 25 v_law b_law 1 = true

theorem fnAt_doc {h : Heap} {a : Addr} {o : Obj} {name : Str} {params : Arguments} {body : List Stmt} {scope : Scope} {pm code doc : Value} (ho : h.get? a = some o) (hd : o.data = .func (docDef name params body scope pm code doc)) (hc : h.CodeRec code name)
    (hp : plainP params = true) (hn : (params.args.map (·.arg)).Nodup) : FnAt h a (params.args.map (·.arg)) scope body :=
  ⟨o, _, ho, hd, rfl, rfl, rfl, rfl, rfl, hc, fun vs hl => bindArgs_plain (fd := docDef name params body scope pm code doc) hp rfl hl hn⟩

section
variable {p : Program} {loose : List Str} {mean : ExcName → Option Value} {mg mb : Str → Option Value} {h : Heap}
theorem good_of {f : Nat} {v : List String} {ms : List MS} {np : Nat} (T : Top p loose mean mg mb h) (hg : goodAt p f v ms np = true) : ∃ a, mg (fname f) = some (.ref a) ∧ FnGood h a v ms np ∧ ∃ o, h.get? a = some o ∧ ∃ fd, o.data = .func fd := by
  unfold goodAt at hg
  set_option tactic.hygienic true in split at hg
  · rename_i d hd
    have hm := List.mem_of_find?_eq_some hd
    have hname : d.name = fname f := by have := List.find?_some hd; simpa using this
    obtain ⟨a, o, pm, code, doc, h1, h2, h3, h4⟩ := T.fn d hm
    unfold goodD at hg
    simp only [Bool.and_eq_true, beq_iff_eq] at hg
    obtain ⟨⟨⟨⟨⟨g1, g2⟩, g3⟩, g4⟩, g5⟩, g6⟩ := hg
    obtain ⟨_, _, _, _, g7, _⟩ := scOk_inv g2
    rw [hname] at h1
    exact ⟨a, h1, ⟨psOf d, d.scope, d.body, fnAt_doc h2 h3 h4 g1 g7, g2, g3, g4, g5, g6⟩, o, h2, _, h3⟩
  · cases hg
/-- the addresses of the defs -/
noncomputable def faOf (mg : Str → Option Value) (f : Nat) : Addr := match mg (fname f) with
  | some (.ref a) => a
  | _ => 0
theorem good_fa {f : Nat} {v : List String} {ms : List MS} {np : Nat} (T : Top p loose mean mg mb h) (hg : goodAt p f v ms np = true) : mg (fname f) = some (.ref (faOf mg f)) ∧ FnGood h (faOf mg f) v ms np ∧ ∃ o, h.get? (faOf mg f) = some o ∧ ∃ fd, o.data = .func fd := by
  obtain ⟨a, h1, h2⟩ := good_of T hg
  have e : faOf mg f = a := by unfold faOf; rw [h1]
  rw [e]; exact ⟨h1, h2⟩

theorem ground_of (T : Top p loose mean mg mb h) (C : Checked p loose) : Ground h (faOf mg) fname := by
  have all : ∀ f, f < 26 → mg (fname f) = some (.ref (faOf mg f)) ∧ ∃ o, h.get? (faOf mg f) = some o ∧ ∃ fd, o.data = .func fd := by
    intro f hf
    have k : ∀ {v : List String} {ms : List MS} {np : Nat}, goodAt p f v ms np = true → mg (fname f) = some (.ref (faOf mg f)) ∧ ∃ o, h.get? (faOf mg f) = some o ∧ ∃ fd, o.data = .func fd := fun hg => ⟨(good_fa T hg).1, (good_fa T hg).2.2⟩
    match f, hf with
    | 0, _ => exact k C.f0
    | 1, _ => exact k C.f1
    | 2, _ => exact k C.f2
    | 3, _ => exact k C.f3
    | 4, _ => exact k C.f4
    | 5, _ => exact k C.f5
    | 6, _ => exact k C.f6
    | 7, _ => exact k C.f7
    | 8, _ => exact k C.f8
    | 9, _ => exact k C.f9
    | 10, _ => exact k C.f10
    | 11, _ => exact k C.f11
    | 12, _ => exact k C.f12
    | 13, _ => exact k C.f13
    | 14, _ => exact k C.f14
    | 15, _ => exact k C.f15
    | 16, _ => exact k C.f16
    | 17, _ => exact k C.f17
    | 18, _ => exact k C.f18
    | 19, _ => exact k C.f19
    | 20, _ => exact k C.f20
    | 21, _ => exact k C.f21
    | 22, _ => exact k C.f22
    | 23, _ => exact k C.f23
    | 24, _ => exact k C.f24
    | 25, _ => exact k C.f25
    | n + 26, hf => omega
  refine ⟨T.nolimit, ⟨mg, T.g, fun x hx => ?_, fun f hf => (all f hf).1⟩, ⟨mb, T.b, T.builtins⟩, fun f hf => (all f hf).2⟩
  have hb := C.bi
  unfold biFree at hb
  rw [List.all_eq_true] at hb
  have := hb x hx
  simp only [Bool.and_eq_true, Bool.not_eq_true', List.contains_eq_mem, decide_eq_false_iff_not] at this
  obtain ⟨⟨⟨⟨a1, a2⟩, a3⟩, a4⟩, a5⟩ := this
  exact T.free x a1 a2 a3 a4 a5
theorem defs_of (T : Top p loose mean mg mb h) (C : Checked p loose) : Defs h (faOf mg) where
  f0 := (good_fa T C.f0).2.1
  f1 := (good_fa T C.f1).2.1
  f2 := (good_fa T C.f2).2.1
  f3 := (good_fa T C.f3).2.1
  f4 := (good_fa T C.f4).2.1
  f5 := (good_fa T C.f5).2.1
  f6 := (good_fa T C.f6).2.1
  f7 := (good_fa T C.f7).2.1
  f8 := (good_fa T C.f8).2.1
  f9 := (good_fa T C.f9).2.1
  f10 := (good_fa T C.f10).2.1
  f11 := (good_fa T C.f11).2.1
  f12 := (good_fa T C.f12).2.1
  f13 := (good_fa T C.f13).2.1
  f14 := (good_fa T C.f14).2.1
  f15 := (good_fa T C.f15).2.1
  f16 := (good_fa T C.f16).2.1
  f17 := (good_fa T C.f17).2.1
  f18 := (good_fa T C.f18).2.1
  f19 := (good_fa T C.f19).2.1
  f20 := (good_fa T C.f20).2.1
  f21 := (good_fa T C.f21).2.1
  f22 := (good_fa T C.f22).2.1
  f23 := (good_fa T C.f23).2.1
  f24 := (good_fa T C.f24).2.1

theorem law_run {prog : Program} {w : World} {A : Around} {s : Shared} {R : Result → Shared → Prop} {a l : Addr} {vs : List Value} {ns : List Int} (T : Top p loose mean mg mb s.heap) (C : Checked p loose) (ha : mg (fname 25) = some (.ref a))
    (hl : s.heap.PlainList l vs.toArray) (hI : IntsAre vs ns) (hn : ns.length ≤ 63) (ao : AOk 6 A) (k : ∀ s', Ext s s' → R (.ok (.ret (.bool true))) s') : codeAny (model prog w) A (.call (.ref a) ⟨[.ref l], []⟩) R s := by
  have G := ground_of T C
  obtain ⟨h1, ⟨ps, sc, body, hF, hsc, hv, hm, hpl, _⟩, _⟩ := good_fa T C.f25
  rw [ha] at h1
  cases h1
  refine run_code (fa := faOf mg) (lev := lev) (k := 5) (la := none) (exc := fun _ => False) (H := fun _ => False) (nm := nmOf v_law) (vis := visOf sc v_law) G sortP hF hsc (st := [.sh (dIs ns), .undef, .undef, .undef, .undef, .undef, .undef, .undef, .undef, .undef, .undef, .undef, .undef, .undef, .undef, .undef, .undef]) hv hm ao
    (fun _ _ h => h) (fun _ h => h.elim) (by rw [hpl]; rfl) (fun _ h => nomatch h) (fun i sl hi hu => ?_) (fun i j ds ds' hi => ?_) (j25 G (defs_of T C) ns) (fun mf st' s' env own' q R' d e v rv => ?_) (fun mf st' q => ?_)
  · match i with
    | 0 =>
      cases hi
      refine ⟨.ref l, rfl, rd_list hl (fun h => h) (by rw [List.size_toArray, hI.length, sL]; omega) (RdAll.of_ints hI)⟩
    | i + 1 =>
      have : sl = .undef := by
        have hm := List.mem_of_getElem? (show ([.undef, .undef, .undef, .undef, .undef, .undef, .undef, .undef, .undef, .undef, .undef, .undef, .undef, .undef, .undef, .undef] : List Slot)[i]? = some sl from hi)
        simpa using hm
      exact absurd this hu
  · exfalso
    have hm := List.mem_of_getElem? hi
    simp at hm
  · subst e
    have q : d = .bool true := q
    subst q
    cases rv
    exact k s' ⟨fun b o h => R'.keep b o h (fun q => q), R'.gens, R'.os⟩
  · cases mf with
    | ret d => exact ⟨d, rfl⟩
    | _ => exact q.elim
end
end
section
theorem callerA_ok : AOk 6 PySem.callerA := ⟨by decide, by decide, rfl⟩
theorem plain_of_well {P : PySem.Params} {h : PySem.Heap} {l : PySem.Addr} {vs : List PySem.Value} {ds : List PySem.PyData} (w1 : PySem.W.Well P h (.ref l) (PySem.W.ofPy (.list ds))) (hL : h.IsList l vs.toArray) : h.PlainList l vs.toArray := by
  obtain ⟨xs, e⟩ : ∃ xs, PySem.W.ofPy (.list ds) = .list xs := ⟨_, rfl⟩
  rw [e] at w1
  cases w1 with
  | list ho _ =>
    obtain ⟨o, ho', hc, n, hd⟩ := hL
    rw [ho] at ho'
    cases ho'
    cases hd
    exact ⟨_, ho⟩
theorem post_ok (xs : List PySem.W.WData) : PySem.Challenge.rw_sx_r072_3o.row.claim.post xs (.bool true) xs = true := by with_unfolding_all rfl
open PySem PySem.W in
theorem road_of {p : Program} {lk : Look} {b : List Str} (hb : (["vars", "dir", "locals"] : List Str).filter (readsOut p p.main.body) = b) (h : noRoadLSs { lk with bare := b } p.main.body = true) : noRoadLSs { lk with bare := (["vars", "dir", "locals"] : List Str).filter (readsOut p p.main.body) } p.main.body = true := by
  rw [hb]; exact h
set_option maxRecDepth 100000 in
set_option maxHeartbeats 8000000 in
open PySem PySem.W in
theorem law_said : PySem.Challenge.rw_sx_r072_3o.wellSaid = true := by
  unfold OpenLaw.wellSaid OpenRow.wellSaid OpenRow.partSaid looksOpen
  repeat' (with_reducible refine PySem.W.look_both ?_ ?_)
  all_goals first
    | (with_reducible refine road_of (lk := { strict := !(importedModules _).all cThrough.contains, foot := none }) (b := []) ?_ ?_) <;> decide +kernel
    | decide +kernel
end
end Mine
set_option tactic.hygienic true
open PySem PySem.W PyProof.Rows
set_option maxRecDepth 100000 in
set_option maxHeartbeats 8000000 in
theorem PySem.Challenge.cw_sx_r072_3o_holds : PySem.Challenge.rw_sx_r072_3o.Holds := by
  w_on
  refine holds_law Mine.law_said fun said => ?_
  o_head Hook.none
  case hw => w_witness2
  intro w s₀ s₁ mg mb G Y fa o pm cd doc dV kV ho hd hcd hD hmg hg args vals as hpre hlay hrd hwl hlo
  have hmg' : mg (Mine.fname 25) = some (.ref fa) := hmg
  clear hd hcd Y hD hmg ho
  refine Ground.open G ?_
  intro T B D TE TW
  wrow_args hpre hlay hrd hwl hlo
  first | refine callC_kw (enter_call ?_) | refine enter_call ?_
  refine codeAny_mono ?_ (fun _ _ g => GoodW.toG g)
  rename_i ns hs hlay0 hL1 hr1 hl2 a4 a3 l vs a0 hL ra w1 r0 hI hr hc1 hc2
  refine Mine.law_run T (by constructor <;> decide +kernel) hmg' (Mine.plain_of_well w1 hL) hI (by omega) Mine.callerA_ok fun s' e => ?_
  exact ⟨.inl ⟨.bool true, .bool true, [], rfl, fun _ => rfl, .bool true, Mine.post_ok _, unshared_nil⟩, e.1, e.2.2, e.2.1.trans hg⟩
