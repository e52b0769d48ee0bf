import PyProof.Rows.All
import Wide.All
import OpenK.AllK
import Wide.FinOn
import Lean
import PySem.Challenge.RW_pb0115_01
set_option Elab.async false
set_option tactic.hygienic false
set_option bootstrap.genMatcherCode false
set_option genSizeOf false
set_option linter.unusedVariables false
set_option linter.unusedSimpArgs false
set_option maxRecDepth 1000000
namespace Mine.Internal
section
theorem ex0_1 {p0 p1:Prop} {G:Prop} (h:p0∧p1) (k:p0→p1→G):G := k h.1 h.2
theorem ex0_2 {p0 p1 p2:Prop} {G:Prop} (h:p0∧p1∧p2) (k:p0→p1→p2→G):G := k h.1 h.2.1 h.2.2
theorem ex0_3 {p0 p1 p2 p3:Prop} {G:Prop} (h:p0∧p1∧p2∧p3) (k:p0→p1→p2→p3→G):G := k h.1 h.2.1 h.2.2.1 h.2.2.2
theorem ex0_4 {p0 p1 p2 p3 p4:Prop} {G:Prop} (h:p0∧p1∧p2∧p3∧p4) (k:p0→p1→p2→p3→p4→G):G := k h.1 h.2.1 h.2.2.1 h.2.2.2.1 h.2.2.2.2
theorem ex0_5 {p0 p1 p2 p3 p4 p5:Prop} {G:Prop} (h:p0∧p1∧p2∧p3∧p4∧p5) (k:p0→p1→p2→p3→p4→p5→G):G := k h.1 h.2.1 h.2.2.1 h.2.2.2.1 h.2.2.2.2.1 h.2.2.2.2.2
theorem ex1_0 {α0:Sort _} {p0:α0→Prop} {G:Prop} (h:∃ a0,p0 a0) (k:∀ a0,p0 a0→G):G := h.elim fun a0 h => k a0 h
theorem ex1_1 {α0:Sort _} {p0 p1:α0→Prop} {G:Prop} (h:∃ a0,p0 a0∧p1 a0) (k:∀ a0,p0 a0→p1 a0→G):G := h.elim fun a0 h => k a0 h.1 h.2
theorem ex1_2 {α0:Sort _} {p0 p1 p2:α0→Prop} {G:Prop} (h:∃ a0,p0 a0∧p1 a0∧p2 a0) (k:∀ a0,p0 a0→p1 a0→p2 a0→G):G := h.elim fun a0 h => k a0 h.1 h.2.1 h.2.2
theorem ex1_3 {α0:Sort _} {p0 p1 p2 p3:α0→Prop} {G:Prop} (h:∃ a0,p0 a0∧p1 a0∧p2 a0∧p3 a0) (k:∀ a0,p0 a0→p1 a0→p2 a0→p3 a0→G):G := h.elim fun a0 h => k a0 h.1 h.2.1 h.2.2.1 h.2.2.2
theorem ex1_4 {α0:Sort _} {p0 p1 p2 p3 p4:α0→Prop} {G:Prop} (h:∃ a0,p0 a0∧p1 a0∧p2 a0∧p3 a0∧p4 a0) (k:∀ a0,p0 a0→p1 a0→p2 a0→p3 a0→p4 a0→G):G := h.elim fun a0 h => k a0 h.1 h.2.1 h.2.2.1 h.2.2.2.1 h.2.2.2.2
theorem ex1_5 {α0:Sort _} {p0 p1 p2 p3 p4 p5:α0→Prop} {G:Prop} (h:∃ a0,p0 a0∧p1 a0∧p2 a0∧p3 a0∧p4 a0∧p5 a0) (k:∀ a0,p0 a0→p1 a0→p2 a0→p3 a0→p4 a0→p5 a0→G):G := h.elim fun a0 h => k a0 h.1 h.2.1 h.2.2.1 h.2.2.2.1 h.2.2.2.2.1 h.2.2.2.2.2
theorem ex2_0 {α0 α1:Sort _} {p0:α0→α1→Prop} {G:Prop} (h:∃ a0 a1,p0 a0 a1) (k:∀ a0 a1,p0 a0 a1→G):G := h.elim fun a0 h => h.elim fun a1 h => k a0 a1 h
theorem ex2_1 {α0 α1:Sort _} {p0 p1:α0→α1→Prop} {G:Prop} (h:∃ a0 a1,p0 a0 a1∧p1 a0 a1) (k:∀ a0 a1,p0 a0 a1→p1 a0 a1→G):G := h.elim fun a0 h => h.elim fun a1 h => k a0 a1 h.1 h.2
theorem ex2_2 {α0 α1:Sort _} {p0 p1 p2:α0→α1→Prop} {G:Prop} (h:∃ a0 a1,p0 a0 a1∧p1 a0 a1∧p2 a0 a1) (k:∀ a0 a1,p0 a0 a1→p1 a0 a1→p2 a0 a1→G):G := h.elim fun a0 h => h.elim fun a1 h => k a0 a1 h.1 h.2.1 h.2.2
theorem ex2_3 {α0 α1:Sort _} {p0 p1 p2 p3:α0→α1→Prop} {G:Prop} (h:∃ a0 a1,p0 a0 a1∧p1 a0 a1∧p2 a0 a1∧p3 a0 a1) (k:∀ a0 a1,p0 a0 a1→p1 a0 a1→p2 a0 a1→p3 a0 a1→G):G := h.elim fun a0 h => h.elim fun a1 h => k a0 a1 h.1 h.2.1 h.2.2.1 h.2.2.2
theorem ex2_4 {α0 α1:Sort _} {p0 p1 p2 p3 p4:α0→α1→Prop} {G:Prop} (h:∃ a0 a1,p0 a0 a1∧p1 a0 a1∧p2 a0 a1∧p3 a0 a1∧p4 a0 a1) (k:∀ a0 a1,p0 a0 a1→p1 a0 a1→p2 a0 a1→p3 a0 a1→p4 a0 a1→G):G := h.elim fun a0 h => h.elim fun a1 h => k a0 a1 h.1 h.2.1 h.2.2.1 h.2.2.2.1 h.2.2.2.2
theorem ex2_5 {α0 α1:Sort _} {p0 p1 p2 p3 p4 p5:α0→α1→Prop} {G:Prop} (h:∃ a0 a1,p0 a0 a1∧p1 a0 a1∧p2 a0 a1∧p3 a0 a1∧p4 a0 a1∧p5 a0 a1) (k:∀ a0 a1,p0 a0 a1→p1 a0 a1→p2 a0 a1→p3 a0 a1→p4 a0 a1→p5 a0 a1→G):G := h.elim fun a0 h => h.elim fun a1 h => k a0 a1 h.1 h.2.1 h.2.2.1 h.2.2.2.1 h.2.2.2.2.1 h.2.2.2.2.2
theorem ex2_8 {α0 α1:Sort _} {p0 p1 p2 p3 p4 p5 p6 p7 p8:α0→α1→Prop} {G:Prop} (h:∃ a0 a1,p0 a0 a1∧p1 a0 a1∧p2 a0 a1∧p3 a0 a1∧p4 a0 a1∧p5 a0 a1∧p6 a0 a1∧p7 a0 a1∧p8 a0 a1) (k:∀ a0 a1,p0 a0 a1→p1 a0 a1→p2 a0 a1→p3 a0 a1→p4 a0 a1→p5 a0 a1→p6 a0 a1→p7 a0 a1→p8 a0 a1→G):G := h.elim fun a0 h => h.elim fun a1 h => k a0 a1 h.1 h.2.1 h.2.2.1 h.2.2.2.1 h.2.2.2.2.1 h.2.2.2.2.2.1 h.2.2.2.2.2.2.1 h.2.2.2.2.2.2.2.1 h.2.2.2.2.2.2.2.2
theorem ex3_0 {α0 α1 α2:Sort _} {p0:α0→α1→α2→Prop} {G:Prop} (h:∃ a0 a1 a2,p0 a0 a1 a2) (k:∀ a0 a1 a2,p0 a0 a1 a2→G):G := h.elim fun a0 h => h.elim fun a1 h => h.elim fun a2 h => k a0 a1 a2 h
theorem ex3_1 {α0 α1 α2:Sort _} {p0 p1:α0→α1→α2→Prop} {G:Prop} (h:∃ a0 a1 a2,p0 a0 a1 a2∧p1 a0 a1 a2) (k:∀ a0 a1 a2,p0 a0 a1 a2→p1 a0 a1 a2→G):G := h.elim fun a0 h => h.elim fun a1 h => h.elim fun a2 h => k a0 a1 a2 h.1 h.2
theorem ex3_2 {α0 α1 α2:Sort _} {p0 p1 p2:α0→α1→α2→Prop} {G:Prop} (h:∃ a0 a1 a2,p0 a0 a1 a2∧p1 a0 a1 a2∧p2 a0 a1 a2) (k:∀ a0 a1 a2,p0 a0 a1 a2→p1 a0 a1 a2→p2 a0 a1 a2→G):G := h.elim fun a0 h => h.elim fun a1 h => h.elim fun a2 h => k a0 a1 a2 h.1 h.2.1 h.2.2
theorem ex3_3 {α0 α1 α2:Sort _} {p0 p1 p2 p3:α0→α1→α2→Prop} {G:Prop} (h:∃ a0 a1 a2,p0 a0 a1 a2∧p1 a0 a1 a2∧p2 a0 a1 a2∧p3 a0 a1 a2) (k:∀ a0 a1 a2,p0 a0 a1 a2→p1 a0 a1 a2→p2 a0 a1 a2→p3 a0 a1 a2→G):G := h.elim fun a0 h => h.elim fun a1 h => h.elim fun a2 h => k a0 a1 a2 h.1 h.2.1 h.2.2.1 h.2.2.2
theorem ex3_4 {α0 α1 α2:Sort _} {p0 p1 p2 p3 p4:α0→α1→α2→Prop} {G:Prop} (h:∃ a0 a1 a2,p0 a0 a1 a2∧p1 a0 a1 a2∧p2 a0 a1 a2∧p3 a0 a1 a2∧p4 a0 a1 a2) (k:∀ a0 a1 a2,p0 a0 a1 a2→p1 a0 a1 a2→p2 a0 a1 a2→p3 a0 a1 a2→p4 a0 a1 a2→G):G := h.elim fun a0 h => h.elim fun a1 h => h.elim fun a2 h => k a0 a1 a2 h.1 h.2.1 h.2.2.1 h.2.2.2.1 h.2.2.2.2
theorem ex3_5 {α0 α1 α2:Sort _} {p0 p1 p2 p3 p4 p5:α0→α1→α2→Prop} {G:Prop} (h:∃ a0 a1 a2,p0 a0 a1 a2∧p1 a0 a1 a2∧p2 a0 a1 a2∧p3 a0 a1 a2∧p4 a0 a1 a2∧p5 a0 a1 a2) (k:∀ a0 a1 a2,p0 a0 a1 a2→p1 a0 a1 a2→p2 a0 a1 a2→p3 a0 a1 a2→p4 a0 a1 a2→p5 a0 a1 a2→G):G := h.elim fun a0 h => h.elim fun a1 h => h.elim fun a2 h => k a0 a1 a2 h.1 h.2.1 h.2.2.1 h.2.2.2.1 h.2.2.2.2.1 h.2.2.2.2.2
theorem ex4_1 {α0 α1 α2 α3:Sort _} {p0 p1:α0→α1→α2→α3→Prop} {G:Prop} (h:∃ a0 a1 a2 a3,p0 a0 a1 a2 a3∧p1 a0 a1 a2 a3) (k:∀ a0 a1 a2 a3,p0 a0 a1 a2 a3→p1 a0 a1 a2 a3→G):G := h.elim fun a0 h => h.elim fun a1 h => h.elim fun a2 h => h.elim fun a3 h => k a0 a1 a2 a3 h.1 h.2
theorem ex4_2 {α0 α1 α2 α3:Sort _} {p0 p1 p2:α0→α1→α2→α3→Prop} {G:Prop} (h:∃ a0 a1 a2 a3,p0 a0 a1 a2 a3∧p1 a0 a1 a2 a3∧p2 a0 a1 a2 a3) (k:∀ a0 a1 a2 a3,p0 a0 a1 a2 a3→p1 a0 a1 a2 a3→p2 a0 a1 a2 a3→G):G := h.elim fun a0 h => h.elim fun a1 h => h.elim fun a2 h => h.elim fun a3 h => k a0 a1 a2 a3 h.1 h.2.1 h.2.2
theorem ex4_3 {α0 α1 α2 α3:Sort _} {p0 p1 p2 p3:α0→α1→α2→α3→Prop} {G:Prop} (h:∃ a0 a1 a2 a3,p0 a0 a1 a2 a3∧p1 a0 a1 a2 a3∧p2 a0 a1 a2 a3∧p3 a0 a1 a2 a3) (k:∀ a0 a1 a2 a3,p0 a0 a1 a2 a3→p1 a0 a1 a2 a3→p2 a0 a1 a2 a3→p3 a0 a1 a2 a3→G):G := h.elim fun a0 h => h.elim fun a1 h => h.elim fun a2 h => h.elim fun a3 h => k a0 a1 a2 a3 h.1 h.2.1 h.2.2.1 h.2.2.2
theorem ex4_4 {α0 α1 α2 α3:Sort _} {p0 p1 p2 p3 p4:α0→α1→α2→α3→Prop} {G:Prop} (h:∃ a0 a1 a2 a3,p0 a0 a1 a2 a3∧p1 a0 a1 a2 a3∧p2 a0 a1 a2 a3∧p3 a0 a1 a2 a3∧p4 a0 a1 a2 a3) (k:∀ a0 a1 a2 a3,p0 a0 a1 a2 a3→p1 a0 a1 a2 a3→p2 a0 a1 a2 a3→p3 a0 a1 a2 a3→p4 a0 a1 a2 a3→G):G := h.elim fun a0 h => h.elim fun a1 h => h.elim fun a2 h => h.elim fun a3 h => k a0 a1 a2 a3 h.1 h.2.1 h.2.2.1 h.2.2.2.1 h.2.2.2.2
theorem ex4_5 {α0 α1 α2 α3:Sort _} {p0 p1 p2 p3 p4 p5:α0→α1→α2→α3→Prop} {G:Prop} (h:∃ a0 a1 a2 a3,p0 a0 a1 a2 a3∧p1 a0 a1 a2 a3∧p2 a0 a1 a2 a3∧p3 a0 a1 a2 a3∧p4 a0 a1 a2 a3∧p5 a0 a1 a2 a3) (k:∀ a0 a1 a2 a3,p0 a0 a1 a2 a3→p1 a0 a1 a2 a3→p2 a0 a1 a2 a3→p3 a0 a1 a2 a3→p4 a0 a1 a2 a3→p5 a0 a1 a2 a3→G):G := h.elim fun a0 h => h.elim fun a1 h => h.elim fun a2 h => h.elim fun a3 h => k a0 a1 a2 a3 h.1 h.2.1 h.2.2.1 h.2.2.2.1 h.2.2.2.2.1 h.2.2.2.2.2
theorem ex5_4 {α0 α1 α2 α3 α4:Sort _} {p0 p1 p2 p3 p4:α0→α1→α2→α3→α4→Prop} {G:Prop} (h:∃ a0 a1 a2 a3 a4,p0 a0 a1 a2 a3 a4∧p1 a0 a1 a2 a3 a4∧p2 a0 a1 a2 a3 a4∧p3 a0 a1 a2 a3 a4∧p4 a0 a1 a2 a3 a4) (k:∀ a0 a1 a2 a3 a4,p0 a0 a1 a2 a3 a4→p1 a0 a1 a2 a3 a4→p2 a0 a1 a2 a3 a4→p3 a0 a1 a2 a3 a4→p4 a0 a1 a2 a3 a4→G):G := h.elim fun a0 h => h.elim fun a1 h => h.elim fun a2 h => h.elim fun a3 h => h.elim fun a4 h => k a0 a1 a2 a3 a4 h.1 h.2.1 h.2.2.1 h.2.2.2.1 h.2.2.2.2
theorem ex5_7 {α0 α1 α2 α3 α4:Sort _} {p0 p1 p2 p3 p4 p5 p6 p7:α0→α1→α2→α3→α4→Prop} {G:Prop} (h:∃ a0 a1 a2 a3 a4,p0 a0 a1 a2 a3 a4∧p1 a0 a1 a2 a3 a4∧p2 a0 a1 a2 a3 a4∧p3 a0 a1 a2 a3 a4∧p4 a0 a1 a2 a3 a4∧p5 a0 a1 a2 a3 a4∧p6 a0 a1 a2 a3 a4∧p7 a0 a1 a2 a3 a4) (k:∀ a0 a1 a2 a3 a4,p0 a0 a1 a2 a3 a4→p1 a0 a1 a2 a3 a4→p2 a0 a1 a2 a3 a4→p3 a0 a1 a2 a3 a4→p4 a0 a1 a2 a3 a4→p5 a0 a1 a2 a3 a4→p6 a0 a1 a2 a3 a4→p7 a0 a1 a2 a3 a4→G):G := h.elim fun a0 h => h.elim fun a1 h => h.elim fun a2 h => h.elim fun a3 h => h.elim fun a4 h => k a0 a1 a2 a3 a4 h.1 h.2.1 h.2.2.1 h.2.2.2.1 h.2.2.2.2.1 h.2.2.2.2.2.1 h.2.2.2.2.2.2.1 h.2.2.2.2.2.2.2
theorem ex6_3 {α0 α1 α2 α3 α4 α5:Sort _} {p0 p1 p2 p3:α0→α1→α2→α3→α4→α5→Prop} {G:Prop} (h:∃ a0 a1 a2 a3 a4 a5,p0 a0 a1 a2 a3 a4 a5∧p1 a0 a1 a2 a3 a4 a5∧p2 a0 a1 a2 a3 a4 a5∧p3 a0 a1 a2 a3 a4 a5) (k:∀ a0 a1 a2 a3 a4 a5,p0 a0 a1 a2 a3 a4 a5→p1 a0 a1 a2 a3 a4 a5→p2 a0 a1 a2 a3 a4 a5→p3 a0 a1 a2 a3 a4 a5→G):G := h.elim fun a0 h => h.elim fun a1 h => h.elim fun a2 h => h.elim fun a3 h => h.elim fun a4 h => h.elim fun a5 h => k a0 a1 a2 a3 a4 a5 h.1 h.2.1 h.2.2.1 h.2.2.2
theorem ex6_4 {α0 α1 α2 α3 α4 α5:Sort _} {p0 p1 p2 p3 p4:α0→α1→α2→α3→α4→α5→Prop} {G:Prop} (h:∃ a0 a1 a2 a3 a4 a5,p0 a0 a1 a2 a3 a4 a5∧p1 a0 a1 a2 a3 a4 a5∧p2 a0 a1 a2 a3 a4 a5∧p3 a0 a1 a2 a3 a4 a5∧p4 a0 a1 a2 a3 a4 a5) (k:∀ a0 a1 a2 a3 a4 a5,p0 a0 a1 a2 a3 a4 a5→p1 a0 a1 a2 a3 a4 a5→p2 a0 a1 a2 a3 a4 a5→p3 a0 a1 a2 a3 a4 a5→p4 a0 a1 a2 a3 a4 a5→G):G := h.elim fun a0 h => h.elim fun a1 h => h.elim fun a2 h => h.elim fun a3 h => h.elim fun a4 h => h.elim fun a5 h => k a0 a1 a2 a3 a4 a5 h.1 h.2.1 h.2.2.1 h.2.2.2.1 h.2.2.2.2
theorem ex7_4 {α0 α1 α2 α3 α4 α5 α6:Sort _} {p0 p1 p2 p3 p4:α0→α1→α2→α3→α4→α5→α6→Prop} {G:Prop} (h:∃ a0 a1 a2 a3 a4 a5 a6,p0 a0 a1 a2 a3 a4 a5 a6∧p1 a0 a1 a2 a3 a4 a5 a6∧p2 a0 a1 a2 a3 a4 a5 a6∧p3 a0 a1 a2 a3 a4 a5 a6∧p4 a0 a1 a2 a3 a4 a5 a6) (k:∀ a0 a1 a2 a3 a4 a5 a6,p0 a0 a1 a2 a3 a4 a5 a6→p1 a0 a1 a2 a3 a4 a5 a6→p2 a0 a1 a2 a3 a4 a5 a6→p3 a0 a1 a2 a3 a4 a5 a6→p4 a0 a1 a2 a3 a4 a5 a6→G):G := h.elim fun a0 h => h.elim fun a1 h => h.elim fun a2 h => h.elim fun a3 h => h.elim fun a4 h => h.elim fun a5 h => h.elim fun a6 h => k a0 a1 a2 a3 a4 a5 a6 h.1 h.2.1 h.2.2.1 h.2.2.2.1 h.2.2.2.2
theorem ex8_0 {α0 α1 α2 α3 α4 α5 α6 α7:Sort _} {p0:α0→α1→α2→α3→α4→α5→α6→α7→Prop} {G:Prop} (h:∃ a0 a1 a2 a3 a4 a5 a6 a7,p0 a0 a1 a2 a3 a4 a5 a6 a7) (k:∀ a0 a1 a2 a3 a4 a5 a6 a7,p0 a0 a1 a2 a3 a4 a5 a6 a7→G):G := h.elim fun a0 h => h.elim fun a1 h => h.elim fun a2 h => h.elim fun a3 h => h.elim fun a4 h => h.elim fun a5 h => h.elim fun a6 h => h.elim fun a7 h => k a0 a1 a2 a3 a4 a5 a6 a7 h
theorem in1_0 {α0:Sort _} {p0:α0→Prop} (a0:α0) (h0:p0 a0):∃ a0,p0 a0 := ⟨a0,h0⟩
theorem in1_1 {α0:Sort _} {p0 p1:α0→Prop} (a0:α0) (h0:p0 a0) (h1:p1 a0):∃ a0,p0 a0∧p1 a0 := ⟨a0,h0,h1⟩
theorem in1_2 {α0:Sort _} {p0 p1 p2:α0→Prop} (a0:α0) (h0:p0 a0) (h1:p1 a0) (h2:p2 a0):∃ a0,p0 a0∧p1 a0∧p2 a0 := ⟨a0,h0,h1,h2⟩
theorem in1_3 {α0:Sort _} {p0 p1 p2 p3:α0→Prop} (a0:α0) (h0:p0 a0) (h1:p1 a0) (h2:p2 a0) (h3:p3 a0):∃ a0,p0 a0∧p1 a0∧p2 a0∧p3 a0 := ⟨a0,h0,h1,h2,h3⟩
theorem in1_4 {α0:Sort _} {p0 p1 p2 p3 p4:α0→Prop} (a0:α0) (h0:p0 a0) (h1:p1 a0) (h2:p2 a0) (h3:p3 a0) (h4:p4 a0):∃ a0,p0 a0∧p1 a0∧p2 a0∧p3 a0∧p4 a0 := ⟨a0,h0,h1,h2,h3,h4⟩
theorem in1_5 {α0:Sort _} {p0 p1 p2 p3 p4 p5:α0→Prop} (a0:α0) (h0:p0 a0) (h1:p1 a0) (h2:p2 a0) (h3:p3 a0) (h4:p4 a0) (h5:p5 a0):∃ a0,p0 a0∧p1 a0∧p2 a0∧p3 a0∧p4 a0∧p5 a0 := ⟨a0,h0,h1,h2,h3,h4,h5⟩
theorem in2_0 {α0 α1:Sort _} {p0:α0→α1→Prop} (a0:α0) (a1:α1) (h0:p0 a0 a1):∃ a0 a1,p0 a0 a1 := ⟨a0,a1,h0⟩
theorem in2_1 {α0 α1:Sort _} {p0 p1:α0→α1→Prop} (a0:α0) (a1:α1) (h0:p0 a0 a1) (h1:p1 a0 a1):∃ a0 a1,p0 a0 a1∧p1 a0 a1 := ⟨a0,a1,h0,h1⟩
theorem in2_2 {α0 α1:Sort _} {p0 p1 p2:α0→α1→Prop} (a0:α0) (a1:α1) (h0:p0 a0 a1) (h1:p1 a0 a1) (h2:p2 a0 a1):∃ a0 a1,p0 a0 a1∧p1 a0 a1∧p2 a0 a1 := ⟨a0,a1,h0,h1,h2⟩
theorem in2_3 {α0 α1:Sort _} {p0 p1 p2 p3:α0→α1→Prop} (a0:α0) (a1:α1) (h0:p0 a0 a1) (h1:p1 a0 a1) (h2:p2 a0 a1) (h3:p3 a0 a1):∃ a0 a1,p0 a0 a1∧p1 a0 a1∧p2 a0 a1∧p3 a0 a1 := ⟨a0,a1,h0,h1,h2,h3⟩
theorem in2_4 {α0 α1:Sort _} {p0 p1 p2 p3 p4:α0→α1→Prop} (a0:α0) (a1:α1) (h0:p0 a0 a1) (h1:p1 a0 a1) (h2:p2 a0 a1) (h3:p3 a0 a1) (h4:p4 a0 a1):∃ a0 a1,p0 a0 a1∧p1 a0 a1∧p2 a0 a1∧p3 a0 a1∧p4 a0 a1 := ⟨a0,a1,h0,h1,h2,h3,h4⟩
theorem in2_5 {α0 α1:Sort _} {p0 p1 p2 p3 p4 p5:α0→α1→Prop} (a0:α0) (a1:α1) (h0:p0 a0 a1) (h1:p1 a0 a1) (h2:p2 a0 a1) (h3:p3 a0 a1) (h4:p4 a0 a1) (h5:p5 a0 a1):∃ a0 a1,p0 a0 a1∧p1 a0 a1∧p2 a0 a1∧p3 a0 a1∧p4 a0 a1∧p5 a0 a1 := ⟨a0,a1,h0,h1,h2,h3,h4,h5⟩
theorem in2_8 {α0 α1:Sort _} {p0 p1 p2 p3 p4 p5 p6 p7 p8:α0→α1→Prop} (a0:α0) (a1:α1) (h0:p0 a0 a1) (h1:p1 a0 a1) (h2:p2 a0 a1) (h3:p3 a0 a1) (h4:p4 a0 a1) (h5:p5 a0 a1) (h6:p6 a0 a1) (h7:p7 a0 a1) (h8:p8 a0 a1):∃ a0 a1,p0 a0 a1∧p1 a0 a1∧p2 a0 a1∧p3 a0 a1∧p4 a0 a1∧p5 a0 a1∧p6 a0 a1∧p7 a0 a1∧p8 a0 a1 := ⟨a0,a1,h0,h1,h2,h3,h4,h5,h6,h7,h8⟩
theorem in3_1 {α0 α1 α2:Sort _} {p0 p1:α0→α1→α2→Prop} (a0:α0) (a1:α1) (a2:α2) (h0:p0 a0 a1 a2) (h1:p1 a0 a1 a2):∃ a0 a1 a2,p0 a0 a1 a2∧p1 a0 a1 a2 := ⟨a0,a1,a2,h0,h1⟩
theorem in3_2 {α0 α1 α2:Sort _} {p0 p1 p2:α0→α1→α2→Prop} (a0:α0) (a1:α1) (a2:α2) (h0:p0 a0 a1 a2) (h1:p1 a0 a1 a2) (h2:p2 a0 a1 a2):∃ a0 a1 a2,p0 a0 a1 a2∧p1 a0 a1 a2∧p2 a0 a1 a2 := ⟨a0,a1,a2,h0,h1,h2⟩
theorem in3_3 {α0 α1 α2:Sort _} {p0 p1 p2 p3:α0→α1→α2→Prop} (a0:α0) (a1:α1) (a2:α2) (h0:p0 a0 a1 a2) (h1:p1 a0 a1 a2) (h2:p2 a0 a1 a2) (h3:p3 a0 a1 a2):∃ a0 a1 a2,p0 a0 a1 a2∧p1 a0 a1 a2∧p2 a0 a1 a2∧p3 a0 a1 a2 := ⟨a0,a1,a2,h0,h1,h2,h3⟩
theorem in3_4 {α0 α1 α2:Sort _} {p0 p1 p2 p3 p4:α0→α1→α2→Prop} (a0:α0) (a1:α1) (a2:α2) (h0:p0 a0 a1 a2) (h1:p1 a0 a1 a2) (h2:p2 a0 a1 a2) (h3:p3 a0 a1 a2) (h4:p4 a0 a1 a2):∃ a0 a1 a2,p0 a0 a1 a2∧p1 a0 a1 a2∧p2 a0 a1 a2∧p3 a0 a1 a2∧p4 a0 a1 a2 := ⟨a0,a1,a2,h0,h1,h2,h3,h4⟩
theorem in3_5 {α0 α1 α2:Sort _} {p0 p1 p2 p3 p4 p5:α0→α1→α2→Prop} (a0:α0) (a1:α1) (a2:α2) (h0:p0 a0 a1 a2) (h1:p1 a0 a1 a2) (h2:p2 a0 a1 a2) (h3:p3 a0 a1 a2) (h4:p4 a0 a1 a2) (h5:p5 a0 a1 a2):∃ a0 a1 a2,p0 a0 a1 a2∧p1 a0 a1 a2∧p2 a0 a1 a2∧p3 a0 a1 a2∧p4 a0 a1 a2∧p5 a0 a1 a2 := ⟨a0,a1,a2,h0,h1,h2,h3,h4,h5⟩
theorem in4_1 {α0 α1 α2 α3:Sort _} {p0 p1:α0→α1→α2→α3→Prop} (a0:α0) (a1:α1) (a2:α2) (a3:α3) (h0:p0 a0 a1 a2 a3) (h1:p1 a0 a1 a2 a3):∃ a0 a1 a2 a3,p0 a0 a1 a2 a3∧p1 a0 a1 a2 a3 := ⟨a0,a1,a2,a3,h0,h1⟩
theorem in4_2 {α0 α1 α2 α3:Sort _} {p0 p1 p2:α0→α1→α2→α3→Prop} (a0:α0) (a1:α1) (a2:α2) (a3:α3) (h0:p0 a0 a1 a2 a3) (h1:p1 a0 a1 a2 a3) (h2:p2 a0 a1 a2 a3):∃ a0 a1 a2 a3,p0 a0 a1 a2 a3∧p1 a0 a1 a2 a3∧p2 a0 a1 a2 a3 := ⟨a0,a1,a2,a3,h0,h1,h2⟩
theorem in4_3 {α0 α1 α2 α3:Sort _} {p0 p1 p2 p3:α0→α1→α2→α3→Prop} (a0:α0) (a1:α1) (a2:α2) (a3:α3) (h0:p0 a0 a1 a2 a3) (h1:p1 a0 a1 a2 a3) (h2:p2 a0 a1 a2 a3) (h3:p3 a0 a1 a2 a3):∃ a0 a1 a2 a3,p0 a0 a1 a2 a3∧p1 a0 a1 a2 a3∧p2 a0 a1 a2 a3∧p3 a0 a1 a2 a3 := ⟨a0,a1,a2,a3,h0,h1,h2,h3⟩
theorem in4_4 {α0 α1 α2 α3:Sort _} {p0 p1 p2 p3 p4:α0→α1→α2→α3→Prop} (a0:α0) (a1:α1) (a2:α2) (a3:α3) (h0:p0 a0 a1 a2 a3) (h1:p1 a0 a1 a2 a3) (h2:p2 a0 a1 a2 a3) (h3:p3 a0 a1 a2 a3) (h4:p4 a0 a1 a2 a3):∃ a0 a1 a2 a3,p0 a0 a1 a2 a3∧p1 a0 a1 a2 a3∧p2 a0 a1 a2 a3∧p3 a0 a1 a2 a3∧p4 a0 a1 a2 a3 := ⟨a0,a1,a2,a3,h0,h1,h2,h3,h4⟩
theorem in4_5 {α0 α1 α2 α3:Sort _} {p0 p1 p2 p3 p4 p5:α0→α1→α2→α3→Prop} (a0:α0) (a1:α1) (a2:α2) (a3:α3) (h0:p0 a0 a1 a2 a3) (h1:p1 a0 a1 a2 a3) (h2:p2 a0 a1 a2 a3) (h3:p3 a0 a1 a2 a3) (h4:p4 a0 a1 a2 a3) (h5:p5 a0 a1 a2 a3):∃ a0 a1 a2 a3,p0 a0 a1 a2 a3∧p1 a0 a1 a2 a3∧p2 a0 a1 a2 a3∧p3 a0 a1 a2 a3∧p4 a0 a1 a2 a3∧p5 a0 a1 a2 a3 := ⟨a0,a1,a2,a3,h0,h1,h2,h3,h4,h5⟩
theorem in5_4 {α0 α1 α2 α3 α4:Sort _} {p0 p1 p2 p3 p4:α0→α1→α2→α3→α4→Prop} (a0:α0) (a1:α1) (a2:α2) (a3:α3) (a4:α4) (h0:p0 a0 a1 a2 a3 a4) (h1:p1 a0 a1 a2 a3 a4) (h2:p2 a0 a1 a2 a3 a4) (h3:p3 a0 a1 a2 a3 a4) (h4:p4 a0 a1 a2 a3 a4):∃ a0 a1 a2 a3 a4,p0 a0 a1 a2 a3 a4∧p1 a0 a1 a2 a3 a4∧p2 a0 a1 a2 a3 a4∧p3 a0 a1 a2 a3 a4∧p4 a0 a1 a2 a3 a4 := ⟨a0,a1,a2,a3,a4,h0,h1,h2,h3,h4⟩
theorem in5_6 {α0 α1 α2 α3 α4:Sort _} {p0 p1 p2 p3 p4 p5 p6:α0→α1→α2→α3→α4→Prop} (a0:α0) (a1:α1) (a2:α2) (a3:α3) (a4:α4) (h0:p0 a0 a1 a2 a3 a4) (h1:p1 a0 a1 a2 a3 a4) (h2:p2 a0 a1 a2 a3 a4) (h3:p3 a0 a1 a2 a3 a4) (h4:p4 a0 a1 a2 a3 a4) (h5:p5 a0 a1 a2 a3 a4) (h6:p6 a0 a1 a2 a3 a4):∃ a0 a1 a2 a3 a4,p0 a0 a1 a2 a3 a4∧p1 a0 a1 a2 a3 a4∧p2 a0 a1 a2 a3 a4∧p3 a0 a1 a2 a3 a4∧p4 a0 a1 a2 a3 a4∧p5 a0 a1 a2 a3 a4∧p6 a0 a1 a2 a3 a4 := ⟨a0,a1,a2,a3,a4,h0,h1,h2,h3,h4,h5,h6⟩
theorem in5_7 {α0 α1 α2 α3 α4:Sort _} {p0 p1 p2 p3 p4 p5 p6 p7:α0→α1→α2→α3→α4→Prop} (a0:α0) (a1:α1) (a2:α2) (a3:α3) (a4:α4) (h0:p0 a0 a1 a2 a3 a4) (h1:p1 a0 a1 a2 a3 a4) (h2:p2 a0 a1 a2 a3 a4) (h3:p3 a0 a1 a2 a3 a4) (h4:p4 a0 a1 a2 a3 a4) (h5:p5 a0 a1 a2 a3 a4) (h6:p6 a0 a1 a2 a3 a4) (h7:p7 a0 a1 a2 a3 a4):∃ a0 a1 a2 a3 a4,p0 a0 a1 a2 a3 a4∧p1 a0 a1 a2 a3 a4∧p2 a0 a1 a2 a3 a4∧p3 a0 a1 a2 a3 a4∧p4 a0 a1 a2 a3 a4∧p5 a0 a1 a2 a3 a4∧p6 a0 a1 a2 a3 a4∧p7 a0 a1 a2 a3 a4 := ⟨a0,a1,a2,a3,a4,h0,h1,h2,h3,h4,h5,h6,h7⟩
theorem in5_8 {α0 α1 α2 α3 α4:Sort _} {p0 p1 p2 p3 p4 p5 p6 p7 p8:α0→α1→α2→α3→α4→Prop} (a0:α0) (a1:α1) (a2:α2) (a3:α3) (a4:α4) (h0:p0 a0 a1 a2 a3 a4) (h1:p1 a0 a1 a2 a3 a4) (h2:p2 a0 a1 a2 a3 a4) (h3:p3 a0 a1 a2 a3 a4) (h4:p4 a0 a1 a2 a3 a4) (h5:p5 a0 a1 a2 a3 a4) (h6:p6 a0 a1 a2 a3 a4) (h7:p7 a0 a1 a2 a3 a4) (h8:p8 a0 a1 a2 a3 a4):∃ a0 a1 a2 a3 a4,p0 a0 a1 a2 a3 a4∧p1 a0 a1 a2 a3 a4∧p2 a0 a1 a2 a3 a4∧p3 a0 a1 a2 a3 a4∧p4 a0 a1 a2 a3 a4∧p5 a0 a1 a2 a3 a4∧p6 a0 a1 a2 a3 a4∧p7 a0 a1 a2 a3 a4∧p8 a0 a1 a2 a3 a4 := ⟨a0,a1,a2,a3,a4,h0,h1,h2,h3,h4,h5,h6,h7,h8⟩
theorem in6_4 {α0 α1 α2 α3 α4 α5:Sort _} {p0 p1 p2 p3 p4:α0→α1→α2→α3→α4→α5→Prop} (a0:α0) (a1:α1) (a2:α2) (a3:α3) (a4:α4) (a5:α5) (h0:p0 a0 a1 a2 a3 a4 a5) (h1:p1 a0 a1 a2 a3 a4 a5) (h2:p2 a0 a1 a2 a3 a4 a5) (h3:p3 a0 a1 a2 a3 a4 a5) (h4:p4 a0 a1 a2 a3 a4 a5):∃ a0 a1 a2 a3 a4 a5,p0 a0 a1 a2 a3 a4 a5∧p1 a0 a1 a2 a3 a4 a5∧p2 a0 a1 a2 a3 a4 a5∧p3 a0 a1 a2 a3 a4 a5∧p4 a0 a1 a2 a3 a4 a5 := ⟨a0,a1,a2,a3,a4,a5,h0,h1,h2,h3,h4⟩
theorem in6_9 {α0 α1 α2 α3 α4 α5:Sort _} {p0 p1 p2 p3 p4 p5 p6 p7 p8 p9:α0→α1→α2→α3→α4→α5→Prop} (a0:α0) (a1:α1) (a2:α2) (a3:α3) (a4:α4) (a5:α5) (h0:p0 a0 a1 a2 a3 a4 a5) (h1:p1 a0 a1 a2 a3 a4 a5) (h2:p2 a0 a1 a2 a3 a4 a5) (h3:p3 a0 a1 a2 a3 a4 a5) (h4:p4 a0 a1 a2 a3 a4 a5) (h5:p5 a0 a1 a2 a3 a4 a5) (h6:p6 a0 a1 a2 a3 a4 a5) (h7:p7 a0 a1 a2 a3 a4 a5) (h8:p8 a0 a1 a2 a3 a4 a5) (h9:p9 a0 a1 a2 a3 a4 a5):∃ a0 a1 a2 a3 a4 a5,p0 a0 a1 a2 a3 a4 a5∧p1 a0 a1 a2 a3 a4 a5∧p2 a0 a1 a2 a3 a4 a5∧p3 a0 a1 a2 a3 a4 a5∧p4 a0 a1 a2 a3 a4 a5∧p5 a0 a1 a2 a3 a4 a5∧p6 a0 a1 a2 a3 a4 a5∧p7 a0 a1 a2 a3 a4 a5∧p8 a0 a1 a2 a3 a4 a5∧p9 a0 a1 a2 a3 a4 a5 := ⟨a0,a1,a2,a3,a4,a5,h0,h1,h2,h3,h4,h5,h6,h7,h8,h9⟩
end
section
open PySem PySem.W PyProof.Rows
inductive V where
 | none | bool (b:Bool) | int (i:Int) | str (s:Str) | bytes (b:Array UInt8)
 | ref (a:Addr) | obj (C d:Addr) | tup (xs:List V) | lst (xs:List V)
 | pd (es:List (List Int × Int))
 deriving Inhabited
inductive Cell where
 | list (xs:List V)
 | barr (bs:Array UInt8)
 | rcd (fs:List (Option V))
 | pdict (es:List (List Int × Int))
 | sd (fs:List (Option V))
 deriving Inhabited
abbrev PM := Addr→Option Obj
abbrev Hp := Addr→Option Cell
noncomputable def PM.set (P:PM) (a:Addr) (o:Obj):PM := fun b => if b = a then some o else P b
noncomputable def PM.un (P Q:PM):PM := fun a => (Q a).or (P a)
noncomputable def Hp.set (H:Hp) (a:Addr) (c:Cell):Hp := fun b => if b = a then some c else H b
noncomputable def Hp.erase (H:Hp) (a:Addr):Hp := fun b => if b = a then none else H b
noncomputable def PM.le (F F':PM):Prop := ∀ a o,F a = some o→F' a = some o
noncomputable def Hp.le (H H':Hp):Prop := ∀ a c,H a = some c→H' a = some c
theorem og {G:Prop} (h:∀ G':Prop,(G→G')→G'):G := h G id
theorem PM.le_refl (F:PM):F.le F := fun U U e => e
theorem PM.le_trans {F F' F'':PM} (h:F.le F') (h':F'.le F''):F.le F'' := fun a o e => h' a o (h a o e)
set_option tactic.hygienic true in
theorem PM.le_set {F:PM} {a:Addr} {o:Obj} (h:F a = none):F.le (F.set a o) := fun b o' e => by
 unfold PM.set
 split
 ·rename_i q; subst q; rw [h] at e; cases e
 ·exact e
theorem PM.set_self (F:PM) (a:Addr) (o:Obj):F.set a o a = some o := by simp [PM.set]
theorem PM.set_ne (F:PM) {a b:Addr} (o:Obj) (h:b ≠ a):F.set a o b = F b := by simp [PM.set,h]
theorem Hp.set_self (H:Hp) (a:Addr) (c:Cell):H.set a c a = some c := by simp [Hp.set]
theorem Hp.set_ne (H:Hp) {a b:Addr} (c:Cell) (h:b ≠ a):H.set a c b = H b := by simp [Hp.set,h]
theorem Hp.le_refl (H:Hp):H.le H := fun U U e => e
theorem Hp.le_trans {F F' F'':Hp} (h:F.le F') (h':F'.le F''):F.le F'' := fun a o e => h' a o (h a o e)
noncomputable def tbl:List Str := ["done","held","many","length_ranges","distance_ranges","at","bits"]
noncomputable def fieldOf (fs:List (Option V)) (k:Str):Option V := match tbl.findIdx? (· == k) with
 | some j => (fs[j]?).join
 | none => none
mutual
inductive VR (F:PM):V→Value→Prop
 | none:VR F .none .none
 | bool {b}:VR F (.bool b) (.bool b)
 | int {i t}:VR F (.int i) (.int i t)
 | str {x t}:VR F (.str x) (.str x t)
 | bytes {b t}:VR F (.bytes b) (.bytes b t)
 | ref {a}:VR F (.ref a) (.ref a)
 | obj {C d a}:F a = some (instObj C d)→VR F (.obj C d) (.ref a)
 | tup {xs a n} {its:List Value}:F a = some { cls := .type "tuple",data := .seq its.toArray n }→VRs F xs its→VR F (.tup xs) (.ref a)
 | lst {xs a} {o:Obj} {its n}:F a = some o→o.cls = .type "list"→o.data = .seq its n→VRs F xs its.toList→VR F (.lst xs) (.ref a)
 | pd {es a} {o:Obj} {des:Array DictEntry} {ep:Nat}:F a = some o→o.ExactDict→o.data = .dict des ep→PdR F es des.toList→(es.map (·.1)).Nodup→a ≠ sysModules→VR F (.pd es) (.ref a)
inductive VRs (F:PM):List V→List Value→Prop
 | nil:VRs F [] []
 | cons {v x vs xs}:VR F v x→VRs F vs xs→VRs F (v :: vs) (x :: xs)
inductive PdR (F:PM):List (List Int × Int)→List DictEntry→Prop
 | nil:PdR F [] []
 | cons {k i es des t} {a:Addr}:VR F (.tup (k.map V.int)) (.ref a)→PdR F es des→PdR F ((k,i) :: es) (⟨reduceHash (Builtin.Tuple.tupleHashOf (k.map hashInt)),.ref a,.int i t⟩ :: des)
end
theorem VR.mono {F F':PM} (h:F.le F') {v:V} {x:Value} (r:VR F v x):VR F' v x :=
 VR.rec (motive_1 := fun v x U => VR F' v x) (motive_2 := fun v x U => VRs F' v x) (motive_3 := fun v x U => PdR F' v x) .none .bool .int .str .bytes .ref (fun e => .obj (h _ _ e)) (fun e U r => .tup (h _ _ e) r) (fun e a b U r => .lst (h _ _ e) a b r) (fun e a b U n c r => .pd (h _ _ e) a b r n c) .nil (fun U U a r => .cons a r) .nil (fun U U a r => .cons a r) r
theorem VRs.mono {F F':PM} (h:F.le F') {v:List V} {x:List Value} (r:VRs F v x):VRs F' v x :=
 VRs.rec (motive_1 := fun v x U => VR F' v x) (motive_2 := fun v x U => VRs F' v x) (motive_3 := fun v x U => PdR F' v x) .none .bool .int .str .bytes .ref (fun e => .obj (h _ _ e)) (fun e U r => .tup (h _ _ e) r) (fun e a b U r => .lst (h _ _ e) a b r) (fun e a b U n c r => .pd (h _ _ e) a b r n c) .nil (fun U U a r => .cons a r) .nil (fun U U a r => .cons a r) r
theorem PdR.mono {F F':PM} (h:F.le F') {v:List (List Int × Int)} {x:List DictEntry} (r:PdR F v x):PdR F' v x :=
 PdR.rec (motive_1 := fun v x U => VR F' v x) (motive_2 := fun v x U => VRs F' v x) (motive_3 := fun v x U => PdR F' v x) .none .bool .int .str .bytes .ref (fun e => .obj (h _ _ e)) (fun e U r => .tup (h _ _ e) r) (fun e a b U r => .lst (h _ _ e) a b r) (fun e a b U n c r => .pd (h _ _ e) a b r n c) .nil (fun U U a r => .cons a r) .nil (fun U U a r => .cons a r) r
section
variable {F:PM} {x:Value}
theorem VR.noneI (r:VR F .none x):x = .none := by cases r; rfl
theorem VR.boolI {b} (r:VR F (.bool b) x):x = .bool b := by cases r; rfl
theorem VR.intI {i} (r:VR F (.int i) x):∃ t,x = .int i t := by cases r; exact (in1_0 _ rfl)
theorem VR.bytesI {b} (r:VR F (.bytes b) x):∃ t,x = .bytes b t := by cases r; exact (in1_0 _ rfl)
theorem VR.refI {a} (r:VR F (.ref a) x):x = .ref a := by cases r; rfl
theorem VR.tupI {xs} (r:VR F (.tup xs) x):∃ a n its,x = .ref a∧F a = some { cls := .type "tuple",data := .seq its.toArray n }∧VRs F xs its := by
 cases r with
 | tup e rr => exact (in3_2 _ _ _ rfl e rr)
theorem VR.lstI {xs} (r:VR F (.lst xs) x):∃ a o its n,x = .ref a∧F a = some o∧o.cls = .type "list"∧o.data = .seq its n∧VRs F xs its.toList := by
 cases r with
 | lst a b c d => exact (in4_4 _ _ _ _ rfl a b c d)
theorem VRs.nilI {ys} (r:VRs F [] ys):ys = [] := by cases r; rfl
theorem VRs.consI {v vs ys} (r:VRs F (v :: vs) ys):∃ x xs,ys = x :: xs∧VR F v x∧VRs F vs xs := by
 cases r with
 | cons a b => exact (in2_2 _ _ rfl a b)
theorem VRs.oneI {v ys} (r:VRs F [v] ys):∃ x,ys = [x]∧VR F v x :=
 ex2_2 r.consI fun x xs e r q => (in1_1 x (by rw [e,q.nilI]) r)
theorem VRs.twoI {v w ys} (r:VRs F [v,w] ys):∃ x y,ys = [x,y]∧VR F v x∧VR F w y :=
 ex2_2 r.consI fun x xs e r q => ex1_1 q.oneI fun y e' r' => (in2_2 x y (by rw [e,e']) r r')
end
structure RcdR (F:PM) (P:Params) (fs:List (Option V)) (es:List DictEntry):Prop where
 keys:∀ e ∈ es,∃ x t,e.key = .str x t∧e.hash = PyData.keyHash P x
 len:es.length ≤ fs.countP (·.isSome)
 few:fs.length ≤ 7
 get:∀ k,match es.find? (·.key.isStr k) with
  | some e => ∃ v,fieldOf fs k = some v∧VR F v e.val
  | none => fieldOf fs k = none
inductive SPairs (P:Params):List DictEntry→List (Str × Value)→Prop
 | nil:SPairs P [] []
 | cons {e:DictEntry} {k:Str} {v:Value} {es kvs}:Value.isStrOf k e.key = true→e.hash = PyData.keyHash P k→e.val = v→SPairs P es kvs→SPairs P (e :: es) ((k,v) :: kvs)
structure SdR (F:PM) (P:Params) (fs:List (Option V)) (es:List DictEntry) (kvs:List (Str × Value)):Prop where
 pairs:SPairs P es kvs
 nodup:(kvs.map (·.1)).Nodup
 few:kvs.length ≤ 7
 get:∀ k,match valueAt kvs k with
  | some rv => ∃ v,fieldOf fs k = some v∧VR F v rv
  | none => fieldOf fs k = none
theorem SdR.mono {F F':PM} (h:F.le F') {P fs es kvs} (r:SdR F P fs es kvs):SdR F' P fs es kvs :=
 ⟨r.pairs,r.nodup,r.few,fun k => by
  have := r.get k
  split at this
  ·obtain ⟨v,a,b⟩ := this; exact (in1_1 v a (b.mono h))
  ·exact this⟩
noncomputable def LC (o:Obj):Prop := o.cls = .type "list"∧o.dict = none
noncomputable def LB (o:Obj):Prop := o.cls = .type "bytearray"∧o.dict = none
inductive CellR (F:PM) (P:Params):Obj→Cell→Prop
 | list {o:Obj} {xs its n}:LC o→o.data = .seq its n→VRs F xs its.toList→CellR F P o (.list xs)
 | barr {o:Obj} {bs}:LB o→o.data = .bytearray bs 0→CellR F P o (.barr bs)
 | rcd {fs es n}:RcdR F P fs es→CellR F P (dictOf es n) (.rcd fs)
 | pdict {o:Obj} {es} {des:Array DictEntry} {ep:Nat}:o.ExactDict→o.data = .dict des ep→PdR F es des.toList→(es.map (·.1)).Nodup→CellR F P o (.pdict es)
 | sd {o:Obj} {fs} {des:Array DictEntry} {ep:Nat} {kvs}:o.ExactDict→o.data = .dict des ep→SdR F P fs des.toList kvs→CellR F P o (.sd fs)
theorem RcdR.mono {F F':PM} (h:F.le F') {P fs es} (r:RcdR F P fs es):RcdR F' P fs es :=
 ⟨r.keys,r.len,r.few,fun k => by
  have := r.get k
  split at this
  ·obtain ⟨v,a,b⟩ := this; exact (in1_1 v a (b.mono h))
  ·exact this⟩
theorem CellR.mono {F F':PM} (h:F.le F') {P o c} (r:CellR F P o c):CellR F' P o c := by
 cases r with
 | list a b r => exact .list a b (r.mono h)
 | barr a b => exact .barr a b
 | rcd r => exact .rcd (r.mono h)
 | pdict a b r n => exact .pdict a b (r.mono h) n
 | sd a b r => exact .sd a b (r.mono h)
set_option genInjectivity false in
structure Wd where
 prog:Program
 w:World
 K:Frag
 hb:Heap
 g0:Array GenState
 o0:OsState
 p:Program
 loose:List Str
 mg:Str→Option Value
 mb:Str→Option Value
 X:K.In hb
 T:TopRead p loose mg mb hb
structure HS (W:Wd) (F P:PM) (H:Hp) (s:Shared):Prop where
 base:∀ a o,W.hb.get? a = some o→F a = some o
 fk:∀ a o,F a = some o→s.heap.get? a = some o
 pk:∀ a o,P a = some o→s.heap.get? a = some o
 hk:∀ a c,H a = some c→∃ o,s.heap.get? a = some o∧CellR F W.w.params o c
 fp:∀ a o,F a = some o→P a = none
 fh:∀ a o,F a = some o→H a = none
 ph:∀ a o,P a = some o→H a = none
 gens:s.gens = W.g0
 os:s.os = W.o0∧∀ a es,H a = some (.pdict es)→a ≠ sysModules
section
variable {W:Wd} {F P:PM} {H:Hp} {s:Shared}
theorem HS.keepB (h:HS W F P H s):∀ b o,W.hb.get? b = some o→s.heap.get? b = some o := fun b o e => h.fk b o (h.base b o e)
theorem HS.K (h:HS W F P H s):W.K.In s.heap := W.X.keeps h.keepB
theorem HS.top (h:HS W F P H s):TopRead W.p W.loose W.mg W.mb s.heap := W.T.keeps h.keepB
theorem HS.tok (h:HS W F P H s) (t:Nat):HS W F P H { s with toks := t } := ⟨h.base,h.fk,h.pk,h.hk,h.fp,h.fh,h.ph,h.gens,h.os⟩
theorem HS.less {H':Hp} (h:HS W F P H s) (l:H'.le H):HS W F P H' s :=
 have n:∀ a,H a = none→H' a = none := fun a e => (by
  cases q:H' a with
  | none => rfl
  | some c => rw [l a c q] at e; cases e)
 ⟨h.base,h.fk,h.pk,fun a c e => h.hk a c (l a c e),h.fp,fun a o e => n a (h.fh a o e),fun a o e => n a (h.ph a o e),h.gens,h.os.1,fun a es e => h.os.2 a es (l a _ e)⟩
noncomputable def Free (F P:PM) (H:Hp) (a:Addr):Prop := F a = none∧P a = none∧H a = none
theorem HS.new (h:HS W F P H s):Free F P H s.heap.objs.size := by
 refine ⟨?_,?_,?_⟩
 ·cases q:F s.heap.objs.size with
  | none => rfl
  | some o => exact absurd (Heap.lt_size (h.fk _ _ q)) (Nat.lt_irrefl _)
 ·cases q:P s.heap.objs.size with
  | none => rfl
  | some o => exact absurd (Heap.lt_size (h.pk _ _ q)) (Nat.lt_irrefl _)
 ·cases q:H s.heap.objs.size with
  | none => rfl
  | some c => obtain ⟨o,e,_⟩ := h.hk _ _ q; exact absurd (Heap.lt_size e) (Nat.lt_irrefl _)
theorem HS.push (h:HS W F P H s) (o:Obj):HS W F P H { s with heap := s.heap.push o } :=
 ⟨h.base,fun a o' e => Heap.get?_push_of_some _ (h.fk a o' e),fun a o' e => Heap.get?_push_of_some _ (h.pk a o' e),
  fun a c e => ex1_1 (h.hk a c e) fun o' e' r => (in1_1 o' (Heap.get?_push_of_some _ e') r),h.fp,h.fh,h.ph,h.gens,h.os⟩
theorem HS.ext {a:Addr} {h':Heap} (h:HS W F P H s) (f:Free F P H a) (e:Heap.ExtBut a s.heap h'):HS W F P H { s with heap := h' } :=
 ⟨h.base,fun b o q => e b o (fun x => by rw [x,f.1] at q; cases q) (h.fk b o q),fun b o q => e b o (fun x => by rw [x,f.2.1] at q; cases q) (h.pk b o q),
  fun b c q => ex1_1 (h.hk b c q) fun o' e' r => (in1_1 o' (e b o' (fun x => by rw [x,f.2.2] at q; cases q) e') r),h.fp,h.fh,h.ph,h.gens,h.os⟩
theorem HS.keeps {h':Heap} (h:HS W F P H s) (e:∀ b o,s.heap.get? b = some o→h'.get? b = some o):HS W F P H { s with heap := h' } :=
 ⟨h.base,fun b o q => e b o (h.fk b o q),fun b o q => e b o (h.pk b o q),fun b c q => ex1_1 (h.hk b c q) fun o' e' r => (in1_1 o' (e b o' e') r),h.fp,h.fh,h.ph,h.gens,h.os⟩
set_option tactic.hygienic true in
theorem HS.toF {a:Addr} {o:Obj} (h:HS W F P H s) (f:Free F P H a) (e:s.heap.get? a = some o):HS W (F.set a o) P H s∧F.le (F.set a o) := by
 have l := PM.le_set (o := o) f.1
 refine ⟨⟨fun b o' q => l _ _ (h.base b o' q),fun b o' q => ?_,h.pk,fun b c q => ex1_1 (h.hk b c q) fun o' e' r => (in1_1 o' e' (r.mono l)),fun b o' q => ?_,fun b o' q => ?_,h.ph,h.gens,h.os⟩,l⟩
 all_goals
  unfold PM.set at q
  split at q
  ·rename_i x; subst x; first | exact f.2.1 | exact f.2.2 | (cases q; exact e)
  ·first | exact h.fk _ _ q | exact h.fp _ _ q | exact h.fh _ _ q
set_option tactic.hygienic true in
theorem HS.toP {a:Addr} {o:Obj} (h:HS W F P H s) (f:Free F P H a) (e:s.heap.get? a = some o):HS W F (P.set a o) H s := by
 refine ⟨h.base,h.fk,fun b o' q => ?_,h.hk,fun b o' q => ?_,h.fh,fun b o' q => ?_,h.gens,h.os⟩
 ·unfold PM.set at q
  split at q
  ·rename_i x; subst x; cases q; exact e
  ·exact h.pk _ _ q
 ·rw [PM.set_ne _ _ (fun x => by rw [x,f.1] at q; cases q)]; exact h.fp _ _ q
 ·unfold PM.set at q
  split at q
  ·rename_i x; subst x; exact f.2.2
  ·exact h.ph _ _ q
theorem npL {xs:List V} {a:Addr}:∀ es,Cell.list xs = .pdict es→a ≠ sysModules := fun U e => nomatch e
theorem npB {xs:Array UInt8} {a:Addr}:∀ es,Cell.barr xs = .pdict es→a ≠ sysModules := fun U e => nomatch e
theorem npR {xs:List (Option V)} {a:Addr}:∀ es,Cell.rcd xs = .pdict es→a ≠ sysModules := fun U e => nomatch e
theorem npS {xs:List (Option V)} {a:Addr}:∀ es,Cell.sd xs = .pdict es→a ≠ sysModules := fun U e => nomatch e
set_option tactic.hygienic true in
theorem HS.toH {a:Addr} {o:Obj} {c:Cell} (h:HS W F P H s) (f:Free F P H a) (e:s.heap.get? a = some o) (r:CellR F W.w.params o c) (hp:∀ es,c = .pdict es→a ≠ sysModules):HS W F P (H.set a c) s := by
 refine ⟨h.base,h.fk,h.pk,fun b c' q => ?_,h.fp,fun b o' q => ?_,fun b o' q => ?_,h.gens,h.os.1,fun b es q => ?_⟩
 ·unfold Hp.set at q
  split at q
  ·rename_i x; subst x; cases q; exact (in1_1 o e r)
  ·exact h.hk _ _ q
 rotate_left 2
 ·unfold Hp.set at q
  split at q
  ·rename_i x; subst x; cases q; exact hp _ rfl
  ·exact h.os.2 _ _ q
 ·rw [Hp.set_ne _ _ (fun x => by rw [x,f.1] at q; cases q)]; exact h.fh _ _ q
 ·rw [Hp.set_ne _ _ (fun x => by rw [x,f.2.1] at q; cases q)]; exact h.ph _ _ q
theorem Hp.erase_le (H:Hp) (a:Addr):(H.erase a).le H := fun b c q => by
 unfold Hp.erase at q
 split at q
 ·cases q
 ·exact q
theorem HS.drop {a:Addr} {c:Cell} (h:HS W F P H s) (e:H a = some c):HS W F P (H.erase a) s∧Free F P (H.erase a) a := by
 refine ⟨h.less (H.erase_le a),?_,?_,by simp [Hp.erase]⟩
 ·cases q:F a with
  | none => rfl
  | some o => have := h.fh a o q; rw [e] at this; cases this
 ·cases q:P a with
  | none => rfl
  | some o => have := h.ph a o q; rw [e] at this; cases this
theorem Hp.erase_set (H:Hp) (a:Addr) (c:Cell):(H.erase a).set a c = H.set a c := by
 funext b; unfold Hp.set Hp.erase; split <;> rfl
set_option tactic.hygienic true in
theorem Hp.set_erase (H:Hp) (a:Addr) (c:Cell) (h:H a = none):(H.set a c).erase a = H := by
 funext b; unfold Hp.set Hp.erase; split
 ·rename_i x; subst x; exact h.symm
 ·rename_i x; simp [x]
theorem HS.turn {a:Addr} {c c':Cell} {o':Obj} {h':Heap} (h:HS W F P H s) (e:H a = some c) (x:Heap.ExtBut a s.heap h') (e':h'.get? a = some o') (r:CellR F W.w.params o' c') (hp:∀ es,c' = .pdict es→a ≠ sysModules) :
  HS W F P (H.set a c') { s with heap := h' } := by
 refine ex0_1 (h.drop e) fun h1 f => ?_
 have h2 := (h1.ext f x).toH f (s := { s with heap := h' }) e' r hp
 rwa [Hp.erase_set] at h2
set_option tactic.hygienic true in
theorem HS.turnP {a:Addr} {o o':Obj} {h':Heap} (h:HS W F P H s) (e:P a = some o) (x:Heap.ExtBut a s.heap h') (e':h'.get? a = some o') :
  HS W F (P.set a o') H { s with heap := h' } := by
 have fa:F a = none := by
  cases q:F a with
  | none => rfl
  | some o => have := h.fp a o q; rw [e] at this; cases this
 have ha:H a = none := h.ph a o e
 refine ⟨h.base,fun b o' q => x b o' (fun y => by rw [y,fa] at q; cases q) (h.fk b o' q),fun b o2 q => ?_,fun b c q => ex1_1 (h.hk b c q) fun o2 e2 r => (in1_1 o2 (x b o2 (fun y => by rw [y,ha] at q; cases q) e2) r),fun b o2 q => ?_,h.fh,fun b o2 q => ?_,h.gens,h.os⟩
 ·unfold PM.set at q
  split at q
  ·rename_i y; subst y; cases q; exact e'
  ·rename_i y; exact x b o2 y (h.pk _ _ q)
 ·rw [PM.set_ne _ _ (fun y => by rw [y,fa] at q; cases q)]; exact h.fp _ _ q
 ·unfold PM.set at q
  split at q
  ·rename_i y; subst y; exact ha
  ·exact h.ph _ _ q
theorem HS.lessP {P':PM} (h:HS W F P H s) (l:P'.le P):HS W F P' H s :=
 have n:∀ a,P a = none→P' a = none := fun a e => (by
  cases q:P' a with
  | none => rfl
  | some c => rw [l a c q] at e; cases e)
 ⟨h.base,h.fk,fun a o e => h.pk a o (l a o e),h.hk,fun a o e => n a (h.fp a o e),h.fh,fun a o e => h.ph a o (l a o e),h.gens,h.os⟩
end
noncomputable def Pst (W:Wd) (F P:PM) (Q:V→Hp→Prop) (v:Value) (s:Shared):Prop :=
 ∃ F' mv H',F.le F'∧HS W F' P H' s∧VR F' mv v∧Q mv H'
theorem none_of {α:Type} {o:Option α} (h:∀ x,o = some x→False):o = none := by
 cases o with
 | none => rfl
 | some x => exact (h x rfl).elim
theorem HS.freeAt {P:PM} {D:Addr} (h:HS W F P H s) (nl:∀ o,s.heap.get? D = some o→False):Free F P H D :=
 ⟨none_of fun U e => nl _ (h.fk _ _ e),none_of fun U e => nl _ (h.pk _ _ e),none_of fun U e => (h.hk _ _ e).elim fun o q => nl o q.1⟩
set_option genInjectivity false
set_option genSizeOfSpec false
inductive Bop | add | sub | mul | fdiv | mod | shl | shr | bor | band | pow
inductive Cop | eq | ne | lt | le | gt | ge
inductive Bi | len | abs | int | max | min | sum | sorted | bytes | bytearray | list
set_option genCtorIdx false in
inductive Tg | one (i:Nat) | many (is:List Nat)
set_option genCtorIdx false in
mutual
inductive ME where
 | cint (i:Int) | cnone | cbool (b:Bool)
 | loc (i:Nat)
 | gint (x:Str) (i:Int)
 | gtup (x:Str) (is:List Int)
 | bin (o:Bop) (a b:ME)
 | neg (i:Nat)
 | not (a:ME)
 | cmp (o:Cop) (a b:ME)
 | chain (o1 o2:Cop) (a b c:ME)
 | isNone (a:ME)
 | inn (a b:ME)
 | cmpL (e:Bool) (a b:ME)
 | and (as:MEs) | or (as:MEs)
 | ite (c a b:ME)
 | tup (es:MEs)
 | list (m:Bool) (es:MEs)
 | cat (m:Bool) (a b:ME)
 | rep (m:Bool) (a b:ME)
 | dict0
 | rcd (ks:List Nat) (es:MEs)
 | item (a i:ME)
 | key (a:ME) (k:Nat)
 | slice (m:Bool) (a lo hi:ME)
 | attr (C:Addr) (a:ME) (k:Nat)
 | call (f:Nat) (es:MEs)
 | meth (f:Nat) (C:Addr) (a:ME) (es:MEs)
 | new (f:Nat) (C:Addr) (es:MEs)
 | bi (b:Bi) (es:MEs)
 | append (a v:ME)
 | extend (a v:ME)
 | comp (m:Bool) (elt:ME) (nl:Nat) (caps:List Nat) (tg:Tg) (it:MI) (cond:MEs)
 | comp2 (m:Bool) (elt:ME) (nl:Nat) (caps:List Nat) (tg:Tg) (it:MI) (tg2:Tg) (it2:MI)
 | freeze (a:ME)
inductive MEs where
 | nil | cons (a:ME) (r:MEs)
inductive MI where
 | seq (live:Bool) (a:ME) | range (es:MEs) | enum (a:ME)
end
set_option genCtorIdx false in
mutual
inductive MS where
 | asg (i:Nat) (e:ME)
 | asgT (is:List Nat) (es:MEs)
 | unp (is:List Nat) (e:ME)
 | setA (C:Addr) (a:ME) (k:Nat) (e:ME)
 | setI (a i e:ME)
 | setK (a:ME) (k:Nat) (e:ME)
 | expr (e:ME)
 | ret (e:ME)
 | ite (c:ME) (t e:MSs)
 | whl (c:ME) (b:MSs)
 | forr (tg:Tg) (it:MI) (b:MSs)
 | frz (i:Nat)
 | raise
inductive MSs where
 | nil | cons (s:MS) (r:MSs)
end
noncomputable def obind {α:Type} (o:Option α) (P:α→Prop):Prop := match o with
 | some x => P x
 | none => False
noncomputable def oget (o:Option (Option V)) (P:V→Prop):Prop := match o with
 | some (some v) => P v
 | _ => False
noncomputable def bindM:List Nat→List V→List (Option V)→Option (List (Option V))
 | [],[],l => some l
 | i :: is,v :: vs,l => bindM is vs (l.set i (some v))
 | _,_,_ => none
abbrev Loc := List (Option V)
abbrev SpecT := List V→Hp→(V→Hp→Prop)→Prop
noncomputable def asList (H:Hp):V→Option (List V)
 | .lst xs => some xs
 | .ref a => match H a with
  | some (.list xs) => some xs
  | _ => none
 | _ => none
noncomputable def asSeq (H:Hp):V→Option (List V)
 | .tup xs => some xs
 | v => asList H v
noncomputable def big:Nat := 1000000
noncomputable def mk (m:Bool) (xs:List V) (Q:V→Hp→Prop) (H:Hp):Prop :=
 xs.length ≤ big∧match m with
  | true => ∀ a,H a = none→Q (.ref a) (H.set a (.list xs))
  | false => Q (.lst xs) H
noncomputable def vI (v:V) (P:Int→Prop):Prop := match v with
 | .int i => P i
 | _ => False
noncomputable def tpI (x:V) (P:Int→Int→Prop):Prop := match x with
 | .tup xs => (match xs with
  | [a,b] => vI a fun i => vI b fun j => P i j
  | _ => False)
 | _ => False
noncomputable def ixW (y:V) (P:Int→Prop) (R:Int→Int→Prop):Prop := match y with
 | .int j => P j
 | .tup xs => tpI (.tup xs) R
 | _ => False
noncomputable def binW (o:Bop) (x y:V) (Q:V→Prop):Prop := vI x fun a => vI y fun b => match o with
  | .add => Q (.int (a + b))
  | .sub => Q (.int (a - b))
  | .mul => (a.natAbs < 2 ^ 62∧b.natAbs < 2 ^ 62)∧Q (.int (a * b))
  | .fdiv => (0 < b∧a.natAbs < 2 ^ 62∧b < 2 ^ 62)∧Q (.int (a / b))
  | .mod => 0 < b∧Q (.int (a % b))
  | .shl => (0 ≤ b∧b ≤ big∧a.natAbs < 2 ^ 62)∧Q (.int (a * 2 ^ b.toNat))
  | .shr => 0 ≤ b∧Q (.int (a / 2 ^ b.toNat))
  | .bor => (0 ≤ a∧0 ≤ b)∧Q (.int ((a.toNat ||| b.toNat:Nat)))
  | .band => (0 ≤ a∧0 ≤ b)∧Q (.int ((a.toNat &&& b.toNat:Nat)))
  | .pow => (0 ≤ b∧b ≤ big∧a.natAbs < 2 ^ 62)∧Q (.int (a ^ b.toNat))
noncomputable def copI:Cop→Int→Int→Bool
 | .eq,a,b => decide (a = b)
 | .ne,a,b => !decide (a = b)
 | .lt,a,b => decide (a < b)
 | .le,a,b => decide (a ≤ b)
 | .gt,a,b => decide (b < a)
 | .ge,a,b => decide (b ≤ a)
noncomputable def cmpW (o:Cop) (x y:V) (Q:Bool→Prop):Prop := vI x fun a => vI y fun b => Q (copI o a b)
noncomputable def intsOf:List V→Option (List Int)
 | [] => some []
 | .int i :: r => (intsOf r).map (i :: ·)
 | _ :: _ => none
noncomputable def V.plain:V→Bool
 | .int _ => true
 | .tup xs => (intsOf xs).isSome
 | _ => false
noncomputable def V.plains (xs:List V):Bool := xs.all V.plain
noncomputable def V.same:V→V→Bool
 | .int a,.int b => decide (a = b)
 | .tup xs,.tup ys => decide (intsOf xs = intsOf ys)
 | _,_ => false
noncomputable def V.sames:List V→List V→Bool
 | [],[] => true
 | v :: r,x :: s => v.same x && V.sames r s
 | _,_ => false
noncomputable def truthW (v:V) (Q:Bool→Prop):Prop := match v with
 | .bool b => Q b
 | _ => False
noncomputable def idx (n:Nat) (i:Int):Option Nat := if 0 ≤ i then (if i < n then some i.toNat else none) else (if -(n:Int) ≤ i then some (n + i).toNat else none)
noncomputable def itemW (H:Hp) (a i:V) (Q:V→Prop):Prop := (obind (asSeq H a) fun xs => vI i fun k => ∃ j v,(idx xs.length k = some j∧xs[j]? = some v∧xs.length ≤ big)∧Q v) ∨
 (tpI i fun x y => match a with
  | .pd es => ∃ v,es.lookup [x,y] = some v∧Q (.int v)
  | _ => False)
noncomputable def clampI (n:Nat) (i:Int):Nat := if i < 0 then (n + i).toNat else min i.toNat n
noncomputable def vE {β:Type} (v:V) (n:β) (P:Int→β) (d:β):β := match v with
 | .none => n
 | .int i => P i
 | _ => d
noncomputable def sliceL (xs:List V) (lo hi:V):Option (List V) :=
 vE lo (vE hi (some xs) (fun b => if 0 ≤ b∧b < 2 ^ 60 then some (xs.take b.toNat) else none) none)
  (fun a => vE hi (if 0 ≤ a∧a < 2 ^ 60 then some (xs.drop a.toNat) else none) (fun b => if 0 ≤ a∧a ≤ b∧b ≤ xs.length then some ((xs.drop a.toNat).take (b.toNat - a.toNat)) else none) none) none
noncomputable def rangeL (lo hi st:Int):List V := (List.range ((hi - lo + st - 1) / st).toNat).map fun (k:Nat) => .int (lo + st * (k:Int))
noncomputable def leP (x y:Int × Int):Bool := decide (x.1 < y.1 ∨ (x.1 = y.1∧x.2 ≤ y.2))
noncomputable def maxL:List Int→Option Int
 | [] => none
 | a :: r => some (r.foldl max a)
noncomputable def oneV (vs:List V) (P:V→Prop):Prop := match vs with
 | [v] => P v
 | _ => False
noncomputable def twoV (vs:List V) (P:V→V→Prop):Prop := match vs with
 | [v,w] => P v w
 | _ => False
noncomputable def barr (c:Option Cell) (P:Array UInt8→Prop):Prop := match c with
 | some (.barr bs) => P bs
 | _ => False
noncomputable def lenW (v:V) (Q:V→Hp→Prop) (H:Hp):Prop := match asSeq H v with
 | some xs => xs.length ≤ big∧Q (.int xs.length) H
 | none => (match v with
  | .ref a => barr (H a) fun bs => bs.size ≤ big∧Q (.int bs.size) H
  | _ => False)
noncomputable def biW (b:Bi) (vs:List V) (Q:V→Hp→Prop) (H:Hp):Prop := match b with
 | .len => oneV vs fun v => lenW v Q H
 | .abs => oneV vs fun v => vI v fun i => Q (.int i.natAbs) H
 | .int => oneV vs fun v => (match v with
  | .int i => Q (.int i) H
  | .bool t => Q (.int (if t then 1 else 0)) H
  | _ => False)
 | .min => twoV vs fun v w => vI v fun a => vI w fun b => Q (.int (min a b)) H
 | .max => oneV vs fun v => obind (asList H v) fun xs => ∃ is m,(intsOf xs = some is∧maxL is = some m)∧Q (.int m) H
 | .sum => oneV vs fun v => obind (asList H v) fun xs => ∃ is,(intsOf xs = some is∧∀ i ∈ is,i.natAbs < 2 ^ 40)∧xs.length ≤ big∧Q (.int is.sum) H
 | .sorted => oneV vs fun v => obind (asList H v) fun xs => ∃ ps:List (Int × Int),(xs = ps.map (fun p => V.tup [.int p.1,.int p.2])∧ps.Nodup∧xs.length < 64)∧Q (.lst ((ps.mergeSort leP).map fun p => .tup [.int p.1,.int p.2])) H
 | .bytes => oneV vs fun v => (match v with
  | .ref a => barr (H a) fun bs => bs.size ≤ big∧Q (.bytes bs) H
  | .bytes b => b.size ≤ big∧Q (.bytes b) H
  | _ => False)
 | .bytearray => (match vs with
  | [] => ∀ a,H a = none→Q (.ref a) (H.set a (.barr #[]))
  | _ => False)
 | .list => oneV vs fun v => obind (asList H v) fun xs => xs.length ≤ big∧Q (.lst xs) H
noncomputable def rangeW (vs:List V) (Q:List V→Hp→Prop) (H:Hp):Prop := match vs with
 | [x] => vI x fun b => (-400000 ≤ b∧b ≤ 400000)∧Q (rangeL 0 b 1) H
 | [x,y] => vI x fun a => vI y fun b => ((-400000 ≤ a∧a ≤ 400000)∧-400000 ≤ b∧b ≤ 400000)∧Q (rangeL a b 1) H
 | [x,y,z] => vI x fun a => vI y fun b => vI z fun c => ((-400000 ≤ a∧a ≤ 400000)∧(-400000 ≤ b∧b ≤ 400000)∧0 < c∧c ≤ 400000)∧Q (rangeL a b c) H
 | _ => False
noncomputable def appKind (H:Hp):V→Option Bool
 | .ref a => match H a with
  | some (.list _) => some true
  | some (.barr _) => some false
  | _ => none
 | _ => none
noncomputable def appendW (a v:V) (Q:V→Hp→Prop) (H:Hp):Prop := match a with
 | .ref a => (match H a with
  | some (.list xs) => xs.length < big∧Q .none (H.set a (.list (xs ++ [v])))
  | some (.barr bs) => (match v with
   | .int i => (0 ≤ i∧i < 256∧bs.size < big)∧Q .none (H.set a (.barr (bs.push (UInt8.ofNat i.toNat))))
   | _ => False)
  | _ => False)
 | _ => False
noncomputable def extendW (a v:V) (Q:V→Hp→Prop) (H:Hp):Prop := match a,v with
 | .ref a,.lst ys => (match H a with
  | some (.list xs) => xs.length + ys.length ≤ big∧Q .none (H.set a (.list (xs ++ ys)))
  | _ => False)
 | _,_ => False
noncomputable def bindT:Tg→V→Loc→Option Loc
 | .one i,v,l => some (l.set i (some v))
 | .many is,.tup xs,l => bindM is xs l
 | .many _,_,_ => none
noncomputable def compW (elt:Loc→(V→Hp→Prop)→Hp→Prop) (cond:Loc→(Bool→Hp→Prop)→Hp→Prop) (tg:Tg) (base:Loc):List V→List V→(List V→Hp→Prop)→Hp→Prop
 | [],acc,Q,H => Q acc H
 | v :: r,acc,Q,H => obind (bindT tg v base) fun l => cond l (fun b H1 => H1 = H∧match b with
  | true => elt l (fun x H2 => H2 = H∧compW elt cond tg base r (acc ++ [x]) Q H) H
  | false => compW elt cond tg base r acc Q H) H
noncomputable def forW (body:(Loc→Hp→Prop)→Loc→Hp→Prop) (tg:Tg):List V→(Loc→Hp→Prop)→Loc→Hp→Prop
 | [],Q,l,H => Q l H
 | v :: r,Q,l,H => obind (bindT tg v l) fun l' => body (fun l H => forW body tg r Q l H) l' H
noncomputable def whileW (test:Loc→(Bool→Hp→Prop)→Hp→Prop) (body:(Loc→Hp→Prop)→Loc→Hp→Prop) (Q:Loc→Hp→Prop):Nat→Loc→Hp→Prop
 | 0,_,_ => False
 | n + 1,l,H => test l (fun b H => match b with
  | true => body (fun l H => whileW test body Q n l H) l H
  | false => Q l H) H
noncomputable def comp2W (elt:Loc→(V→Hp→Prop)→Hp→Prop) (it2:Loc→(List V→Hp→Prop)→Hp→Prop) (tg tg2:Tg) (base:Loc):List V→List V→(List V→Hp→Prop)→Hp→Prop
 | [],acc,Q,H => Q acc H
 | v :: r,acc,Q,H => obind (bindT tg v base) fun l => it2 l (fun items2 H1 => (H1 = H∧acc.length + items2.length ≤ big) ∧
   compW elt (fun U Q H => Q true H) tg2 l items2 acc (fun acc' H2 => H2 = H∧comp2W elt it2 tg tg2 base r acc' Q H) H) H
noncomputable def rcdOf (ks:List Nat) (vs:List V):List (Option V) := (ks.zip vs).foldl (fun l p => l.set p.1 (some p.2)) (List.replicate 7 none)
noncomputable def frozenSeq:V→Option (List V)
 | .lst xs => some xs
 | .tup xs => some xs
 | .bytes b => some (b.toList.map fun c => .int c.toNat)
 | _ => none
mutual
noncomputable def wpE (sp:Nat→SpecT):ME→Loc→(V→Hp→Prop)→Hp→Prop
 | .cint i,_,Q,H => Q (.int i) H
 | .cnone,_,Q,H => Q .none H
 | .cbool b,_,Q,H => Q (.bool b) H
 | .loc i,l,Q,H => oget l[i]? fun v => Q v H
 | .gint _ i,_,Q,H => Q (.int i) H
 | .gtup _ is,_,Q,H => Q (.tup (is.map V.int)) H
 | .bin o a b,l,Q,H => wpE sp a l (fun x H => wpE sp b l (fun y H => binW o x y (fun v => Q v H)) H) H
 | .neg i,_,Q,H => Q (.int (-(i:Int))) H
 | .not a,l,Q,H => wpE sp a l (fun x H => truthW x fun t => Q (.bool (!t)) H) H
 | .cmp o a b,l,Q,H => wpE sp a l (fun x H => wpE sp b l (fun y H => cmpW o x y (fun v => Q (.bool v) H)) H) H
 | .chain o1 o2 a b c,l,Q,H => wpE sp a l (fun x H => wpE sp b l (fun y H => cmpW o1 x y (fun t => match t with
  | true => wpE sp c l (fun z H => cmpW o2 y z (fun v => Q (.bool v) H)) H
  | false => Q (.bool false) H)) H) H
 | .isNone a,l,Q,H => wpE sp a l (fun x H => (match x with
  | .none => Q (.bool true) H
  | .tup _ => Q (.bool false) H
  | .lst _ => Q (.bool false) H
  | _ => False)) H
 | .inn a b,l,Q,H => wpE sp a l (fun x H => wpE sp b l (fun y H => tpI x fun i j => match y with
  | .pd es => Q (.bool (es.lookup [i,j]).isSome) H
  | _ => False) H) H
 | .cmpL e a b,l,Q,H => wpE sp a l (fun x H => wpE sp b l (fun y H => (match asList H x,asList H y with
  | some xs,some ys => (V.plains xs = true∧V.plains ys = true)∧Q (.bool (V.sames xs ys == e)) H
  | _,_ => False)) H) H
 | .and as,l,Q,H => wpAnd sp as l Q H
 | .or as,l,Q,H => wpOr sp as l Q H
 | .ite c a b,l,Q,H => wpE sp c l (fun x H => truthW x fun t => match t with
  | true => wpE sp a l Q H
  | false => wpE sp b l Q H) H
 | .tup es,l,Q,H => wpEs sp es l (fun vs H => Q (.tup vs) H) H
 | .list m es,l,Q,H => wpEs sp es l (fun vs H => mk m vs Q H) H
 | .cat m a b,l,Q,H => wpE sp a l (fun x H => wpE sp b l (fun y H => (match asList H x,asList H y with
  | some xs,some ys => mk m (xs ++ ys) Q H
  | _,_ => False)) H) H
 | .rep m a b,l,Q,H => wpE sp a l (fun x H => wpE sp b l (fun y H => (match y with
  | .int n => (0 ≤ n∧n ≤ big)∧mk m (List.replicate n.toNat x) Q H
  | _ => False)) H) H
 | .dict0,_,Q,H => ∀ a,H a = none→Q (.ref a) (H.set a (.pdict []))
 | .rcd ks es,l,Q,H => wpEs sp es l (fun vs H => ∀ a,H a = none→Q (.ref a) (H.set a (.sd (rcdOf ks vs)))) H
 | .item a i,l,Q,H => wpE sp a l (fun x H => wpE sp i l (fun y H => itemW H x y (fun v => Q v H)) H) H
 | .key a k,l,Q,H => wpE sp a l (fun x H => (match x with
  | .ref d => (match H d with
   | some (.sd fs) => oget fs[k]? fun v => Q v H
   | _ => False)
  | _ => False)) H
 | .slice m a lo hi,l,Q,H => wpE sp a l (fun x H => wpE sp lo l (fun y H => wpE sp hi l (fun z H => (match asList H x with
  | some xs => ∃ ys,(sliceL xs y z = some ys∧xs.length ≤ big)∧mk m ys Q H
  | none => False)) H) H) H
 | .attr C a k,l,Q,H => wpE sp a l (fun x H => (match x with
  | .obj C' d => C' = C∧(match H d with
   | some (.rcd fs) => oget fs[k]? fun v => Q v H
   | _ => False)
  | _ => False)) H
 | .call f es,l,Q,H => wpEs sp es l (fun vs H => sp f vs H Q) H
 | .meth f C a es,l,Q,H => wpE sp a l (fun x H => (match x with
  | .obj C' d => C' = C∧(∃ fs,H d = some (.rcd fs))∧wpEs sp es l (fun vs H => sp f (.obj C' d :: vs) H Q) H
  | _ => False)) H
 | .new f C es,l,Q,H => wpEs sp es l (fun vs H => ∀ d,H d = none→sp f (.obj C d :: vs) (H.set d (.rcd (List.replicate 7 none))) (fun r H => r = .none∧Q (.obj C d) H)) H
 | .bi b es,l,Q,H => wpEs sp es l (fun vs H => biW b vs Q H) H
 | .append a v,l,Q,H => wpE sp a l (fun x H => ∃ t,appKind H x = some t∧wpE sp v l (fun y H => appKind H x = some t∧appendW x y Q H) H) H
 | .extend a v,l,Q,H => wpE sp a l (fun x H => appKind H x = some true∧wpE sp v l (fun y H => extendW x y Q H) H) H
 | .comp m elt nl caps tg it cond,l,Q,H => wpI sp it l (fun items H =>
   compW (fun l Q H => wpE sp elt l Q H) (fun l Q H => wpC sp cond l Q H) tg (List.replicate nl none ++ caps.map fun i => (l[i]?).join) items [] (fun vs H => mk m vs Q H) H) H
 | .comp2 m elt nl caps tg it tg2 it2,l,Q,H => wpI sp it l (fun items H =>
   comp2W (fun l Q H => wpE sp elt l Q H) (fun l Q H => wpI sp it2 l Q H) tg tg2 (List.replicate nl none ++ caps.map fun i => (l[i]?).join) items [] (fun vs H => mk m vs Q H) H) H
 | .freeze a,l,Q,H => wpE sp a l (fun x H => (match x with
  | .ref a => (match H a with
   | some (.list xs) => Q (.lst xs) (H.erase a)
   | some (.pdict es) => Q (.pd es) (H.erase a)
   | _ => False)
  | _ => False)) H
noncomputable def wpEs (sp:Nat→SpecT):MEs→Loc→(List V→Hp→Prop)→Hp→Prop
 | .nil,_,Q,H => Q [] H
 | .cons a r,l,Q,H => wpE sp a l (fun x H => wpEs sp r l (fun xs H => Q (x :: xs) H) H) H
noncomputable def wpI (sp:Nat→SpecT):MI→Loc→(List V→Hp→Prop)→Hp→Prop
 | .seq live a,l,Q,H => wpE sp a l (fun x H => (match live with
  | true => (match asList H x with
   | some xs => xs.length ≤ big∧Q xs H
   | none => False)
  | false => (match frozenSeq x with
   | some xs => xs.length ≤ big∧Q xs H
   | none => False))) H
 | .range es,l,Q,H => wpEs sp es l (fun vs H => rangeW vs Q H) H
 | .enum a,l,Q,H => wpE sp a l (fun x H => (match x with
  | .lst xs => xs.length ≤ big∧Q (xs.zipIdx.map fun p => .tup [.int p.2,p.1]) H
  | _ => False)) H
noncomputable def wpC (sp:Nat→SpecT):MEs→Loc→(Bool→Hp→Prop)→Hp→Prop
 | .nil,_,Q,H => Q true H
 | .cons a .nil,l,Q,H => wpE sp a l (fun x H => truthW x fun t => Q t H) H
 | .cons _ (.cons _ _),_,_,_ => False
noncomputable def wpAnd (sp:Nat→SpecT):MEs→Loc→(V→Hp→Prop)→Hp→Prop
 | .nil,_,_,_ => False
 | .cons a .nil,l,Q,H => wpE sp a l (fun x H => truthW x fun U => Q x H) H
 | .cons a (.cons b r),l,Q,H => wpE sp a l (fun x H => truthW x fun t => match t with
  | true => wpAnd sp (.cons b r) l Q H
  | false => Q (.bool false) H) H
noncomputable def wpOr (sp:Nat→SpecT):MEs→Loc→(V→Hp→Prop)→Hp→Prop
 | .nil,_,_,_ => False
 | .cons a .nil,l,Q,H => wpE sp a l (fun x H => truthW x fun U => Q x H) H
 | .cons a (.cons b r),l,Q,H => wpE sp a l (fun x H => truthW x fun t => match t with
  | true => Q (.bool true) H
  | false => wpOr sp (.cons b r) l Q H) H
end
mutual
noncomputable def wpS (sp:Nat→SpecT):MS→(Loc→Hp→Prop)→(V→Hp→Prop)→Loc→Hp→Prop
 | .asg i e,Qn,_,l,H => wpE sp e l (fun v H => Qn (l.set i (some v)) H) H
 | .asgT is es,Qn,_,l,H => wpEs sp es l (fun vs H => obind (bindM is vs l) fun l' => Qn l' H) H
 | .unp is e,Qn,_,l,H => wpE sp e l (fun v H => obind (bindT (.many is) v l) fun l' => Qn l' H) H
 | .setA C a k e,Qn,_,l,H => wpE sp e l (fun v H => wpE sp a l (fun x H => (match x with
  | .obj C' d => C' = C∧(match H d with
   | some (.rcd fs) => k < fs.length∧Qn l (H.set d (.rcd (fs.set k (some v))))
   | _ => False)
  | _ => False)) H) H
 | .setI a i e,Qn,_,l,H => wpE sp e l (fun v H => wpE sp a l (fun x H => wpE sp i l (fun y H => (match x with
  | .ref d => ixW y (fun j => (match H d with
   | some (.list xs) => (0 ≤ j∧j < xs.length∧xs.length ≤ big)∧Qn l (H.set d (.list (xs.set j.toNat v)))
   | _ => False)) (fun p q => match H d,v with
   | some (.pdict es),.int z => (es.length < big∧es.lookup [p,q] = none)∧Qn l (H.set d (.pdict (es ++ [([p,q],z)])))
   | _,_ => False)
  | _ => False)) H) H) H
 | .setK a k e,Qn,_,l,H => wpE sp e l (fun v H => wpE sp a l (fun x H => (match x with
  | .ref d => (match H d with
   | some (.sd fs) => (fs[k]?).join.isSome = true∧Qn l (H.set d (.sd (fs.set k (some v))))
   | _ => False)
  | _ => False)) H) H
 | .expr e,Qn,_,l,H => wpE sp e l (fun v H => v = .none∧Qn l H) H
 | .ret e,_,Qr,l,H => wpE sp e l Qr H
 | .ite c t e,Qn,Qr,l,H => wpE sp c l (fun x H => truthW x fun b => match b with
  | true => wpSs sp t Qn Qr l H
  | false => wpSs sp e Qn Qr l H) H
 | .whl c b,Qn,Qr,l,H => ∃ n,whileW (fun l Q H => wpE sp c l (fun x H => truthW x fun b => Q b H) H) (fun Q l H => wpSs sp b Q Qr l H) Qn n l H
 | .forr tg it b,Qn,Qr,l,H => wpI sp it l (fun items H => forW (fun Q l H => wpSs sp b Q Qr l H) tg items Qn l H) H
 | .frz i,Qn,_,l,H => (match l[i]? with
  | some (some (.ref a)) => (match H a with
   | some (.list xs) => Qn (l.set i (some (.lst xs))) (H.erase a)
   | some (.pdict es) => Qn (l.set i (some (.pd es))) (H.erase a)
   | _ => False)
  | _ => False)
 | .raise,_,_,_,_ => False
noncomputable def wpSs (sp:Nat→SpecT):MSs→(Loc→Hp→Prop)→(V→Hp→Prop)→Loc→Hp→Prop
 | .nil,Qn,_,l,H => Qn l H
 | .cons s r,Qn,Qr,l,H => wpS sp s (fun l H => wpSs sp r Qn Qr l H) Qr l H
end
noncomputable def wpFn (sp:Nat→SpecT) (nl:Nat) (body:MSs) (vs:List V) (H:Hp) (Q:V→Hp→Prop):Prop :=
 wpSs sp body (fun U H => ∃ H',H'.le H∧Q .none H') (fun v H => ∃ H',H'.le H∧Q v H') (vs.map some ++ List.replicate (nl - vs.length) none) H
theorem obind_ex {α:Type} {o:Option α} {P:α→Prop} (h:obind o P):∃ x,o = some x∧P x := by
 cases o with
 | none => exact h.elim
 | some x => exact (in1_1 x rfl h)
theorem oget_ex {o:Option (Option V)} {P:V→Prop} (h:oget o P):∃ v,o = some (some v)∧P v := by
 cases o with
 | none => exact h.elim
 | some x => cases x with
  | none => exact h.elim
  | some v => exact (in1_1 v rfl h)
theorem bindM_n {l:Loc}:bindM [] [] l = some l := rfl
theorem bindM_c {i:Nat} {is:List Nat} {x:V} {xs:List V} {l:Loc}:bindM (i :: is) (x :: xs) l = bindM is xs (l.set i (some x)) := rfl
theorem bindM_eq:∀ (is:List Nat) (xs:List V) (l:Loc),bindM is xs l = if is.length = xs.length then some ((is.zip xs).foldl (fun l p => l.set p.1 (some p.2)) l) else none
 | [],[],l => rfl
 | i :: is,x :: xs,l => by
  rw [bindM_c,bindM_eq is xs]
  simp
 | [],x :: xs,l => (if_neg (fun h => nomatch h)).symm
 | i :: is,[],l => (if_neg (fun h => nomatch h)).symm
theorem mRef {x:V} {P:Addr→Prop} (q:match x with | .ref d => P d | _ => False):∃ d,x = .ref d∧P d := by
 cases x <;> first | exact (in1_1 _ rfl q) | exact q.elim
theorem mObj {x:V} {P:Addr→Addr→Prop} (q:match x with | .obj C d => P C d | _ => False):∃ C d,x = .obj C d∧P C d := by
 cases x <;> first | exact (in2_1 _ _ rfl q) | exact q.elim
theorem mIntP {x:V} {P:Int→Prop} (q:match x with | .int d => P d | _ => False):∃ d,x = .int d∧P d := by
 cases x <;> first | exact (in1_1 _ rfl q) | exact q.elim
theorem mPd {x:V} {P:List (List Int × Int)→Prop} (q:match x with | .pd d => P d | _ => False):∃ d,x = .pd d∧P d := by
 cases x <;> first | exact (in1_1 _ rfl q) | exact q.elim
theorem mSlot {o:Option (Option V)} {P:Addr→Prop} (q:match o with | some (some (.ref d)) => P d | _ => False):∃ d,o = some (some (.ref d))∧P d := by
 cases o with
 | none => exact q.elim
 | some o => cases o with
  | none => exact q.elim
  | some x => cases x <;> first | exact (in1_1 _ rfl q) | exact q.elim
theorem mList {c:Option Cell} {xs:List V} (e:(match c with | some (.list xs) => some xs | _ => none) = some xs):c = some (.list xs) := by
 cases c with
 | none => cases e
 | some c => cases c <;> cases e <;> rfl
theorem mListP {c:Option Cell} {P:List V→Prop} (q:match c with | some (.list xs) => P xs | _ => False):∃ xs,c = some (.list xs)∧P xs := by
 cases c with
 | none => exact q.elim
 | some c => cases c <;> first | exact (in1_1 _ rfl q) | exact q.elim
theorem mSd {c:Option Cell} {P:List (Option V)→Prop} (q:match c with | some (.sd xs) => P xs | _ => False):∃ xs,c = some (.sd xs)∧P xs := by
 cases c with
 | none => exact q.elim
 | some c => cases c <;> first | exact (in1_1 _ rfl q) | exact q.elim
theorem mRcd {c:Option Cell} {P:List (Option V)→Prop} (q:match c with | some (.rcd xs) => P xs | _ => False):∃ xs,c = some (.rcd xs)∧P xs := by
 cases c with
 | none => exact q.elim
 | some c => cases c <;> first | exact (in1_1 _ rfl q) | exact q.elim
theorem mFrz {c:Option Cell} {P:List V→Prop} {R:List (List Int × Int)→Prop} (q:match c with | some (.list xs) => P xs | some (.pdict es) => R es | _ => False):(∃ xs,c = some (.list xs)∧P xs) ∨ ∃ es,c = some (.pdict es)∧R es := by
 cases c with
 | none => exact q.elim
 | some c => cases c <;> first | exact .inl (in1_1 _ rfl q) | exact .inr (in1_1 _ rfl q) | exact q.elim
theorem mApp {c:Option Cell} {t:Bool} (q:(match c with | some (.list _) => some true | some (.barr _) => some false | _ => none) = some t):(t = true∧∃ xs,c = some (.list xs)) ∨ (t = false∧∃ bs,c = some (.barr bs)) := by
 cases c with
 | none => cases q
 | some c => cases c <;> cases q <;> first | exact .inl ⟨rfl,_,rfl⟩ | exact .inr ⟨rfl,_,rfl⟩
theorem mTwo {a b:Option (List V)} {P:List V→List V→Prop} (q:match a,b with | some xs,some ys => P xs ys | _,_ => False):∃ xs ys,a = some xs∧b = some ys∧P xs ys := by
 cases a <;> cases b <;> first | exact (in2_2 _ _ rfl rfl q) | exact q.elim
theorem vI_ex {x:V} {P:Int→Prop} (q:vI x P):∃ i,x = .int i∧P i := mIntP q
theorem tpI_ex {x:V} {P:Int→Int→Prop} (q:tpI x P):∃ i j,x = .tup [.int i,.int j]∧P i j := by
 cases x with
 | tup xs =>
  cases xs with
  | nil => exact q.elim
  | cons a xs => cases xs with
   | nil => exact q.elim
   | cons b xs => cases xs with
    | nil =>
     refine ex1_1 (vI_ex q) fun i e q => ex1_1 (vI_ex q) fun j e2 q => (in2_1 i j (by rw [e,e2]) q)
    | cons _ _ => exact q.elim
 | _ => exact q.elim
theorem asList_l {H:Hp} {xs:List V}:asList H (.lst xs) = some xs := rfl
theorem asList_r {H:Hp} {a:Addr}:asList H (.ref a) = (match H a with | some (.list xs) => some xs | _ => none) := rfl
theorem asSeq_t {H:Hp} {xs:List V}:asSeq H (.tup xs) = some xs := rfl
theorem asSeq_l {H:Hp} {xs:List V}:asSeq H (.lst xs) = some xs := rfl
theorem asSeq_r {H:Hp} {a:Addr}:asSeq H (.ref a) = asList H (.ref a) := rfl
theorem oget_s {v:V} {P:V→Prop}:oget (some (some v)) P = P v := rfl
theorem obind_s {α:Type} {v:α} {P:α→Prop}:obind (some v) P = P v := rfl
theorem oneV_1 {v:V} {P:V→Prop}:oneV [v] P = P v := rfl
theorem twoV_2 {v w:V} {P:V→V→Prop}:twoV [v,w] P = P v w := rfl
theorem vI_i {i:Int} {P:Int→Prop}:vI (.int i) P = P i := rfl
theorem tpI_t {i j:Int} {P:Int→Int→Prop}:tpI (.tup [.int i,.int j]) P = P i j := rfl
theorem ixW_i {i:Int} {P:Int→Prop} {R:Int→Int→Prop}:ixW (.int i) P R = P i := rfl
theorem ixW_t {i j:Int} {P:Int→Prop} {R:Int→Int→Prop}:ixW (.tup [.int i,.int j]) P R = R i j := rfl
theorem ixW_ex {y:V} {P:Int→Prop} {R:Int→Int→Prop} (q:ixW y P R):(∃ j,y = .int j∧P j) ∨ ∃ i j,y = .tup [.int i,.int j]∧R i j := by
 cases y <;> first | exact .inl (in1_1 _ rfl q) | exact .inr (tpI_ex q) | exact q.elim
theorem barr_s {b:Array UInt8} {P:Array UInt8→Prop}:barr (some (.barr b)) P = P b := rfl
theorem truthW_b {b:Bool} {Q:Bool→Prop}:truthW (.bool b) Q = Q b := rfl
theorem rangeW_1 {x:V} {Q:List V→Hp→Prop} {H:Hp}:rangeW [x] Q H = vI x fun b => (-400000 ≤ b∧b ≤ 400000)∧Q (rangeL 0 b 1) H := rfl
theorem rangeW_2 {x y:V} {Q:List V→Hp→Prop} {H:Hp}:rangeW [x,y] Q H = vI x fun a => vI y fun b => ((-400000 ≤ a∧a ≤ 400000)∧-400000 ≤ b∧b ≤ 400000)∧Q (rangeL a b 1) H := rfl
theorem rangeW_3 {x y z:V} {Q:List V→Hp→Prop} {H:Hp}:rangeW [x,y,z] Q H = vI x fun a => vI y fun b => vI z fun c => ((-400000 ≤ a∧a ≤ 400000)∧(-400000 ≤ b∧b ≤ 400000)∧0 < c∧c ≤ 400000)∧Q (rangeL a b c) H := rfl
theorem bindT_o {i:Nat} {v:V} {l:Loc}:bindT (.one i) v l = some (l.set i (some v)) := rfl
theorem bindT_m {is:List Nat} {xs:List V} {l:Loc}:bindT (.many is) (.tup xs) l = bindM is xs l := rfl
theorem frozenSeq_l {xs:List V}:frozenSeq (.lst xs) = some xs := rfl
theorem frozenSeq_t {xs:List V}:frozenSeq (.tup xs) = some xs := rfl
theorem sliceL_nn {xs:List V}:sliceL xs .none .none = some xs := rfl
theorem sliceL_in {xs:List V} {a:Int}:sliceL xs (.int a) .none = if 0 ≤ a∧a < 2 ^ 60 then some (xs.drop a.toNat) else none := rfl
theorem sliceL_ni {xs:List V} {b:Int}:sliceL xs .none (.int b) = if 0 ≤ b∧b < 2 ^ 60 then some (xs.take b.toNat) else none := rfl
theorem sliceL_ii {xs:List V} {a b:Int}:sliceL xs (.int a) (.int b) = if 0 ≤ a∧a ≤ b∧b ≤ xs.length then some ((xs.drop a.toNat).take (b.toNat - a.toNat)) else none := rfl
theorem appKind_r {H:Hp} {a:Addr}:appKind H (.ref a) = (match H a with | some (.list _) => some true | some (.barr _) => some false | _ => none) := rfl
theorem V.sames_c {v x:V} {r s:List V}:V.sames (v :: r) (x :: s) = (v.same x && V.sames r s) := rfl
theorem V.same_i {a b:Int}:V.same (.int a) (.int b) = decide (a = b) := rfl
theorem V.same_t {a b:List V}:V.same (.tup a) (.tup b) = decide (intsOf a = intsOf b) := rfl
theorem mPdI {c:Option Cell} {v:V} {P:List (List Int × Int)→Int→Prop} (q:match c,v with | some (.pdict es),.int z => P es z | _,_ => False):∃ es z,c = some (.pdict es)∧v = .int z∧P es z := by
 cases c with
 | none => exact q.elim
 | some c => cases c <;> cases v <;> first | exact (in2_2 _ _ rfl rfl q) | exact q.elim
theorem dT {p A B:Prop} {i:Decidable p} (h:p) (k:A):(match decide p with | true => A | false => B) := by rw [decide_eq_true h]; exact k
theorem dF {p A B:Prop} {i:Decidable p} (h:¬ p) (k:B):(match decide p with | true => A | false => B) := by rw [decide_eq_false h]; exact k
theorem leP_trans {a b c:Int × Int} (h:leP a b = true) (k:leP b c = true):leP a c = true := by
 refine decide_eq_true ?_
 rcases of_decide_eq_true h with h | ⟨h,h'⟩ <;> rcases of_decide_eq_true k with k | ⟨k,k'⟩
 ·exact .inl (Int.lt_trans h k)
 ·exact .inl (k ▸ h)
 ·exact .inl (h ▸ k)
 ·exact .inr ⟨h.trans k,Int.le_trans h' k'⟩
theorem leP_total (a b:Int × Int):(leP a b || leP b a) = true := by
 rw [Bool.or_eq_true]
 rcases Int.lt_trichotomy a.1 b.1 with h | h | h
 ·exact .inl (decide_eq_true (.inl h))
 ·exact (Int.le_total a.2 b.2).imp (fun k => decide_eq_true (.inr ⟨h,k⟩)) fun k => decide_eq_true (.inr ⟨h.symm,k⟩)
 ·exact .inr (decide_eq_true (.inl h))
theorem leP_fst {a b:Int × Int} (h:leP a b = true):a.1 ≤ b.1 := (of_decide_eq_true h).elim Int.le_of_lt fun h => Int.le_of_eq h.1
theorem leP_antisymm {a b:Int × Int} (h:leP a b = true) (k:leP b a = true):a = b := by
 have e := Int.le_antisymm (leP_fst h) (leP_fst k)
 rcases of_decide_eq_true h with h | ⟨_,h⟩
 ·exact absurd (e ▸ h) (Int.lt_irrefl _)
 ·rcases of_decide_eq_true k with k | ⟨_,k⟩
  ·exact absurd (e ▸ k) (Int.lt_irrefl _)
  ·exact Prod.ext e (Int.le_antisymm h k)
noncomputable def ltQ (x y:Int × Int):Bool := decide (x.1 < y.1 ∨ (x.1 = y.1∧x.2 < y.2))
theorem ltQ_le {a b:Int × Int} (h:ltQ a b = true):leP a b = true := decide_eq_true ((of_decide_eq_true h).imp id fun h => ⟨h.1,Int.le_of_lt h.2⟩)
theorem ltQ_trans {a b c:Int × Int} (h:ltQ a b = true) (k:ltQ b c = true):ltQ a c = true := by
 refine decide_eq_true ?_
 rcases of_decide_eq_true h with h | ⟨h,h'⟩ <;> rcases of_decide_eq_true k with k | ⟨k,k'⟩
 ·exact .inl (Int.lt_trans h k)
 ·exact .inl (k ▸ h)
 ·exact .inl (h ▸ k)
 ·exact .inr ⟨h.trans k,Int.lt_trans h' k'⟩
theorem ltQ_irrefl (a:Int × Int):ltQ a a = false := decide_eq_false fun h => h.elim (Int.lt_irrefl _) fun h => Int.lt_irrefl _ h.2
theorem ltQ_asymm {a b:Int × Int} (h:ltQ a b = true):ltQ b a = false := by
 cases k:ltQ b a with
 | false => rfl
 | true => exact absurd (ltQ_trans h k) (by rw [ltQ_irrefl]; exact Bool.false_ne_true)
theorem le_ltQ {a b:Int × Int} (ne:a ≠ b) (h:leP a b = true):ltQ a b = true := by
 refine decide_eq_true ((of_decide_eq_true h).imp id fun h => ⟨h.1,Int.lt_iff_le_and_ne.mpr ⟨h.2,fun e => ne (Prod.ext h.1 e)⟩⟩)
theorem ltQ_conn {a b:Int × Int} (ne:a ≠ b) (h:ltQ a b = false):ltQ b a = true := by
 have h := of_decide_eq_false h
 refine decide_eq_true ?_
 rcases Int.lt_trichotomy a.1 b.1 with q | q | q
 ·exact absurd (.inl q) h
 ·rcases Int.lt_trichotomy a.2 b.2 with r | r | r
  ·exact absurd (.inr ⟨q,r⟩) h
  ·exact absurd (Prod.ext q r) ne
  ·exact .inr ⟨q.symm,r⟩
 ·exact .inl q
theorem sub_two {a b m:Nat} (h:a ≤ b) (k:b ≤ m):m - a = b - a + (m - b) := by rw [Nat.add_comm]; exact (Nat.sub_add_sub_cancel k h).symm
theorem cast_sub {m:Nat} (k:Nat) (h:k ≤ m):(m:Int) - (k:Int) = ((m - k:Nat):Int) := (Int.ofNat_sub h).symm
theorem small62 {a:Int} (h:0 ≤ a) (k:a < 1000000000):a.natAbs < 2 ^ 62 := Nat.lt_trans (by omega:a.natAbs < 1000000000) (by decide)
theorem minN {n m k:Nat} {i:Int} (e:i = (m:Int)) (h:k ≤ n) (hk:k ≤ m):∃ g:Nat,min (n:Int) i = (g:Int)∧k ≤ g∧g ≤ m∧g ≤ n := by
 rcases Nat.le_total n m with q | q
 ·exact (in1_3 n (by rw [e]; exact Int.min_eq_left (Int.ofNat_le.mpr q)) h q (Nat.le_refl _))
 ·exact (in1_3 m (by rw [e]; exact Int.min_eq_right (Int.ofNat_le.mpr q)) hk (Nat.le_refl _) q)
theorem sub_step {a b:Nat} (h:b + 1 ≤ a):a - b = a - (b + 1) + 1 := by rw [← Nat.sub_sub]; exact (Nat.sub_add_cancel (Nat.le_sub_of_add_le (by rwa [Nat.add_comm]))).symm
theorem mid_lt {l r:Nat} (k:l < r):(l + r) / 2 < r := Nat.div_lt_of_lt_mul (by rw [Nat.two_mul]; exact Nat.add_lt_add_right k r)
theorem mid_ge {l r:Nat} (k:l < r):l ≤ (l + r) / 2 := (Nat.le_div_iff_mul_le (by decide)).mpr (by rw [Nat.mul_two]; exact Nat.add_le_add_left (Nat.le_of_lt k) l)
theorem mid_lo {l r f:Nat} (h:r - l ≤ f + 1) (k:l < r):(l + r) / 2 - l ≤ f := Nat.le_of_lt_succ (Nat.lt_of_lt_of_le (Nat.sub_lt_sub_right (mid_ge k) (mid_lt k)) h)
theorem mid_hi {l r f:Nat} (h:r - l ≤ f + 1) (k:l < r):r - ((l + r) / 2 + 1) ≤ f := Nat.le_trans (Nat.sub_le_sub_left (Nat.succ_le_succ (mid_ge k)) r) (by rw [Nat.sub_succ]; exact Nat.pred_le_pred h)
noncomputable def bopOf:Bop→Operator
 | .add => .Add | .sub => .Sub | .mul => .Mult | .fdiv => .FloorDiv | .mod => .Mod | .shl => .LShift | .shr => .RShift | .bor => .BitOr | .band => .BitAnd | .pow => .Pow
noncomputable def copOf:Cop→CmpOp
 | .eq => .Eq | .ne => .NotEq | .lt => .Lt | .le => .LtE | .gt => .Gt | .ge => .GtE
structure Fm where
 env:Env
 names:List (Str × Bool)
 own:Bool
structure FmOk (fm:Fm):Prop where
 kind:fm.env.scope.kind = .function
 glob:fm.env.globals = mainGlobals
 bi:fm.env.builtins = builtinsNs
 loc:∀ x,(x,false) ∈ fm.names→fm.env.kindOf x = some .local
 cell:∀ x,(x,true) ∈ fm.names→fm.env.kindOf x = some .cell
 nodup:(fm.names.map (·.1)).Nodup
structure LocR (F PP PL:PM) (fm:Fm) (l:Loc) (m:Str→Option Value):Prop where
 loc:∀ (i:Nat) x v,fm.names[i]? = some (x,false)→l[i]? = some (some v)→∃ rv,m x = some rv∧VR F v rv
 cell:∀ (i:Nat) x v,fm.names[i]? = some (x,true)→l[i]? = some (some v)→∃ c o rv,fm.env.cells.lookup x = some c∧PP c = some o∧o.data = .cell (some rv)∧VR F v rv
 own:fm.own = true→∀ x,(x,true) ∈ fm.names→∃ c o ov,fm.env.cells.lookup x = some c∧PL c = some o∧o.data = .cell ov∧∀ x' c',x' ≠ x→fm.env.cells.lookup x' = some c'→c' ≠ c
structure FS0 (W:Wd) (F P PL:PM) (fm:Fm) (l:Loc) (H:Hp) (s:Shared) (m:Str→Option Value):Prop where
 ok:FmOk fm
 apart:∀ a o,P a = some o→PL a = none
 hs:HS W F (P.un PL) H s
 free:Free F (P.un PL) H fm.env.locals
 ns:s.heap.Ns fm.env.locals m
 lr:LocR F (P.un PL) PL fm l m
noncomputable def FSt (W:Wd) (F P:PM) (fm:Fm) (l:Loc) (H:Hp) (s:Shared):Prop := ∃ PL m,FS0 W F P PL fm l H s m
noncomputable def Post (W:Wd) (P:PM) (fm:Fm) (l:Loc) (F:PM) (Q:V→Hp→Prop) (v:Value) (s:Shared):Prop :=
 ∃ F' mv H',F.le F'∧FSt W F' P fm l H' s∧VR F' mv v∧Q mv H'
section
variable {W:Wd} {F P PL:PM} {H:Hp} {s:Shared} {A:Around} {E:Value→Shared→Prop} {fm:Fm} {l:Loc} {m:Str→Option Value}
theorem LocR.mono {PP:PM} {F':PM} (h:LocR F PP PL fm l m) (f:F.le F'):LocR F' PP PL fm l m :=
 ⟨fun i x v a b => ex1_1 (h.loc i x v a b) fun rv c d => (in1_1 rv c (d.mono f)),fun i x v a b => ex3_3 (h.cell i x v a b) fun c o rv p q r t => (in3_3 c o rv p q r (t.mono f)),h.own⟩
theorem FS0.go {F':PM} {H':Hp} {s':Shared} (f:FS0 W F P PL fm l H s m) (le:F.le F') (h:HS W F' (P.un PL) H' s') (fr:Free F' (P.un PL) H' fm.env.locals) (ns:s'.heap.Ns fm.env.locals m):FSt W F' P fm l H' s' :=
 (in2_0 PL m ⟨f.ok,f.apart,h,fr,ns,f.lr.mono le⟩)
theorem FS0.tok (f:FS0 W F P PL fm l H s m) (t:Nat):FS0 W F P PL fm l H { s with toks := t } m := ⟨f.ok,f.apart,f.hs.tok t,f.free,f.ns,f.lr⟩
theorem FSt.tok (f:FSt W F P fm l H s) (t:Nat):FSt W F P fm l H { s with toks := t } := ex2_0 f fun PL m f => (in2_0 PL m (f.tok t))
theorem FS0.ext {h':Heap} (f:FS0 W F P PL fm l H s m) (e:Heap.ExtBut fm.env.locals s.heap h') (ns:h'.Ns fm.env.locals m):FS0 W F P PL fm l H { s with heap := h' } m :=
 ⟨f.ok,f.apart,f.hs.ext f.free e,f.free,ns,f.lr⟩
theorem FS0.keeps {h':Heap} (f:FS0 W F P PL fm l H s m) (e:∀ b o,s.heap.get? b = some o→h'.get? b = some o):FS0 W F P PL fm l H { s with heap := h' } m :=
 f.ext (fun b o U q => e b o q) (f.ns.keeps e)
theorem FS0.push (f:FS0 W F P PL fm l H s m) (o:Obj):FS0 W F P PL fm l H { s with heap := s.heap.push o } m := f.keeps fun U U e => Heap.get?_push_of_some _ e
theorem FS0.ltL (f:FS0 W F P PL fm l H s m):fm.env.locals < s.heap.objs.size := f.ns.lt
theorem FS0.new (f:FS0 W F P PL fm l H s m):Free F (P.un PL) H s.heap.objs.size∧s.heap.objs.size ≠ fm.env.locals := ⟨f.hs.new,Nat.ne_of_gt f.ltL⟩
theorem FS0.toF {a:Addr} {o:Obj} (f:FS0 W F P PL fm l H s m) (fr:Free F (P.un PL) H a) (ne:a ≠ fm.env.locals) (e:s.heap.get? a = some o):FSt W (F.set a o) P fm l H s∧F.le (F.set a o) :=
 ⟨f.go (f.hs.toF fr e).2 (f.hs.toF fr e).1 ⟨by rw [PM.set_ne _ _ (Ne.symm ne)]; exact f.free.1,f.free.2⟩ f.ns,(f.hs.toF fr e).2⟩
theorem FS0.toH {a:Addr} {o:Obj} {c:Cell} (f:FS0 W F P PL fm l H s m) (fr:Free F (P.un PL) H a) (ne:a ≠ fm.env.locals) (e:s.heap.get? a = some o) (r:CellR F W.w.params o c) (hp:∀ es,c = .pdict es→a ≠ sysModules):FSt W F P fm l (H.set a c) s :=
 f.go (PM.le_refl F) (f.hs.toH fr e r hp) ⟨f.free.1,f.free.2.1,by rw [Hp.set_ne _ _ (Ne.symm ne)]; exact f.free.2.2⟩ f.ns
theorem FS0.pushF (f:FS0 W F P PL fm l H s m) (o:Obj) (hf:o.isFreed = false):FSt W (F.set s.heap.objs.size o) P fm l H { s with heap := s.heap.push o }∧F.le (F.set s.heap.objs.size o) :=
 (f.push o).toF (s := { s with heap := s.heap.push o }) f.new.1 f.new.2 (Heap.get?_push_size _ hf)
theorem FS0.pushH {c:Cell} (f:FS0 W F P PL fm l H s m) (o:Obj) (hf:o.isFreed = false) (r:CellR F W.w.params o c) (hp:∀ es,c = .pdict es→s.heap.objs.size ≠ sysModules):FSt W F P fm l (H.set s.heap.objs.size c) { s with heap := s.heap.push o } :=
 (f.push o).toH (s := { s with heap := s.heap.push o }) f.new.1 f.new.2 (Heap.get?_push_size _ hf) r hp
theorem FS0.notL {a:Addr} {c:Cell} (f:FS0 W F P PL fm l H s m) (e:H a = some c):a ≠ fm.env.locals := fun q => by rw [q,f.free.2.2] at e; cases e
theorem FS0.turn {a:Addr} {c c':Cell} {o':Obj} {h':Heap} (f:FS0 W F P PL fm l H s m) (e:H a = some c) (x:Heap.SameBut a s.heap h') (e':h'.get? a = some o') (r:CellR F W.w.params o' c') (hp:∀ es,c' = .pdict es→a ≠ sysModules) :
  FSt W F P fm l (H.set a c') { s with heap := h' } :=
 f.go (PM.le_refl F) (f.hs.turn e x.extBut e' r hp) ⟨f.free.1,f.free.2.1,by rw [Hp.set_ne _ _ (Ne.symm (f.notL e))]; exact f.free.2.2⟩ (f.ns.sameBut x (Ne.symm (f.notL e)))
theorem Post.here {Q:V→Hp→Prop} {mv:V} {v:Value} (h:FSt W F P fm l H s) (r:VR F mv v) (q:Q mv H):Post W P fm l F Q v s := (in3_3 F mv H (PM.le_refl F) h r q)
theorem Post.int {Q:V→Hp→Prop} {i:Int} {t:Tok} {tk:Nat} (h:FSt W F P fm l H s) (q:Q (.int i) H):Post W P fm l F Q (.int i t) { s with toks := tk } := Post.here (h.tok tk) .int q
theorem Post.from {F':PM} {Q:V→Hp→Prop} {v:Value} (h:F.le F') (p:Post W P fm l F' Q v s):Post W P fm l F Q v s := ex3_3 p fun F2 mv H' a b c d => (in3_3 F2 mv H' (PM.le_trans h a) b c d)
theorem Post.el {Q:V→Hp→Prop} {v:Value} {G:Prop} (p:Post W P fm l F Q v s) (k:∀ F' mv H',F.le F'→FSt W F' P fm l H' s→VR F' mv v→Q mv H'→G):G := ex3_3 p k
theorem FSt.el {G:Prop} (p:FSt W F P fm l H s) (k:∀ PL m,FS0 W F P PL fm l H s m→G):G := ex2_0 p k
theorem bitNot_natCast (n:Nat):Builtin.bitNot (n:Int) = -(n:Int) - 1 := by unfold Builtin.bitNot; rfl
theorem bitOr_nat {a b:Int} (ha:0 ≤ a) (hb:0 ≤ b):Builtin.bitOr a b = ((a.toNat ||| b.toNat:Nat):Int) := by
 unfold Builtin.bitOr Builtin.bitAnd
 have e1:decide (0 ≤ Builtin.bitNot a) = false := decide_eq_false (by unfold Builtin.bitNot; lia)
 have e2:decide (0 ≤ Builtin.bitNot b) = false := decide_eq_false (by unfold Builtin.bitNot; lia)
 rw [e1,e2]
 have n:∀ x:Int,Builtin.bitNot (Builtin.bitNot x) = x := fun x => by unfold Builtin.bitNot; lia
 simp only [n]
theorem bitAnd_nat {a b:Int} (ha:0 ≤ a) (hb:0 ≤ b):Builtin.bitAnd a b = ((a.toNat &&& b.toNat:Nat):Int) := by
 unfold Builtin.bitAnd
 rw [decide_eq_true ha,decide_eq_true hb]
theorem o_bin {o:Bop} {x y:V} {vx vy:Value} {Q:V→Prop} {Q':V→Hp→Prop} (h:FSt W F P fm l H s) (rx:VR F x vx) (ry:VR F y vy) (q:binW o x y Q) (hq:∀ v,Q v→Q' v H) :
  wpAny (model W.prog W.w) A (binaryOp (bopOf o) vx vy) (Post W P fm l F Q') E s := by
 refine ex1_1 (vI_ex q) fun a e1 q => ex1_1 (vI_ex q) fun b e2 q => ?_
 ·rw [e1] at rx; rw [e2] at ry
  refine ex1_0 rx.intI fun t e3 => ex1_0 ry.intI fun u e4 => ?_
  subst e3 e4; clear rx ry e1 e2
  cases o <;> dsimp only at q
  ·exact wpAny_add_int (Post.int h (hq _ q))
  ·exact sub_int' (Post.int h (hq _ q))
  ·exact mul_int (Post.int h (hq _ q.2)) (.of_left (intBits_le (Nat.lt_trans q.1.1 (by decide))))
  ·obtain ⟨⟨b0,a1,b1⟩,q⟩ := q
   refine floordiv_int (by exact Ne.symm (Int.ne_of_lt b0)) ?_ (.inl (PyProof.noPylong_of_log2 ?_))
   ·rw [Int.fdiv_eq_ediv_of_nonneg _ (by exact Int.le_of_lt b0)]; exact Post.int h (hq _ q)
   ·have h1:b.natAbs < 2 ^ 62 := by omega
    have h2:b.natAbs ≠ 0 := by lia
    have := (Nat.log2_lt h2 (k := 62)).mpr h1
    lia
  ·refine mod_int' (by lia) ?_
   rw [Int.fmod_eq_emod_of_nonneg _ (by lia)]; exact Post.int h (hq _ q.2)
  ·exact lshift_int_small q.1.1 (by have := q.1.2.1; unfold big at this; assumption) (Nat.lt_trans q.1.2.2 (by decide)) (Post.int h (hq _ q.2))
  ·refine rshift_int q.1 ?_
   rw [Int.fdiv_eq_ediv_of_nonneg _ (by exact Int.le_of_lt (Int.pow_pos (by decide)))]; exact Post.int h (hq _ q.2)
  ·refine or_int ?_
   rw [bitOr_nat q.1.1 q.1.2]; exact Post.int h (hq _ q.2)
  ·refine and_int ?_
   rw [bitAnd_nat q.1.1 q.1.2]; exact Post.int h (hq _ q.2)
  ·exact pow_int_small q.1.1 (by have := q.1.2.1; unfold big at this; assumption) (Nat.lt_trans q.1.2.2 (by decide)) (Post.int h (hq _ q.2))
theorem o_cmp {o:Cop} {x y:V} {vx vy:Value} {Q:Bool→Prop} {Q':V→Hp→Prop} (h:FSt W F P fm l H s) (rx:VR F x vx) (ry:VR F y vy) (q:cmpW o x y Q) (hq:∀ v,Q v→Q' (.bool v) H) :
  wpAny (model W.prog W.w) A (compareOp (copOf o) vx vy) (Post W P fm l F Q') E s := by
 refine ex1_1 (vI_ex q) fun a e1 q => ex1_1 (vI_ex q) fun b e2 q => ?_
 ·rw [e1] at rx; rw [e2] at ry
  refine ex1_0 rx.intI fun t e3 => ex1_0 ry.intI fun u e4 => ?_
  subst e3 e4; clear rx ry e1 e2
  cases o <;> dsimp only [copI] at q <;> dsimp only [copOf]
  ·exact eq_int (Post.here h .bool (by rw [show (a == b) = decide (a = b) from by rw [Bool.eq_iff_iff]; simp]; exact hq _ q))
  ·exact ne_int (Post.here h .bool (by rw [show (a != b) = !decide (a = b) from by rw [Bool.eq_iff_iff]; simp]; exact hq _ q))
  ·exact wpAny_lt_int (Post.here h .bool (hq _ q))
  ·exact le_int (Post.here h .bool (hq _ q))
  ·exact gt_int (Post.here h .bool (hq _ q))
  ·exact ge_int (Post.here h .bool (hq _ q))
theorem o_tuple {xs:List V} {vs:List Value} {Q:V→Hp→Prop} (h:FSt W F P fm l H s) (r:VRs F xs vs) (hsz:vs.length ≤ sizeLine) (q:Q (.tup xs) H) :
  wpAny (model W.prog W.w) A (newTuple vs) (Post W P fm l F Q) E s := by
 refine ex2_0 h fun PL m f => ?_; clear h
 refine wpAny_newObj_type ?_ (by show vs.toArray.size ≤ sizeLine; rw [List.size_toArray]; exact hsz)
 refine ex0_1 (f.pushF { cls := .type "tuple",data := .seq vs.toArray } rfl) fun g le => ?_
 exact (in3_3 _ _ _ le g (.tup (PM.set_self ..) (r.mono le)) q)
theorem made_list {mu:Bool} {xs:List V} {vs:List Value} {Q:V→Hp→Prop} {o:Obj} {n:Nat} (h:FSt W F P fm l H s) (r:VRs F xs vs) (hc:LC o) (hd:o.data = .seq vs.toArray n) (q:mk mu xs Q H) :
  Post W P fm l F Q (.ref s.heap.objs.size) { s with heap := s.heap.push o } := by
 refine og fun G hG => ?_
 obtain ⟨PL,m,f⟩ := h
 have hf:o.isFreed = false := Obj.isFreed_of_seq hd
 obtain ⟨_,q⟩ := q
 refine hG ?_; clear hG G
 cases mu with
 | false =>
  obtain ⟨g,le⟩ := f.pushF o hf
  exact (in3_3 _ _ _ le g (.lst (PM.set_self ..) hc.1 hd (r.mono le)) q)
 | true => exact (in3_3 F _ _ (PM.le_refl F) (f.pushH o hf (.list hc hd r) npL) .ref (q _ f.new.1.2.2))
theorem VRs.length:∀ {xs:List V} {vs:List Value},VRs F xs vs→xs.length = vs.length
 | [],_,r => by rw [r.nilI]; rfl
 | _ :: _,_,r => ex2_2 r.consI fun U U e U r => by rw [e]; exact congrArg (· + 1) r.length
theorem big_le:big ≤ sizeLine := by decide
theorem o_list {mu:Bool} {xs:List V} {vs:List Value} {Q:V→Hp→Prop} (h:FSt W F P fm l H s) (r:VRs F xs vs) (q:mk mu xs Q H) :
  wpAny (model W.prog W.w) A (newList vs) (Post W P fm l F Q) E s :=
 wpAny_newObj_type (made_list h r ⟨rfl,rfl⟩ rfl q) (by show vs.toArray.size ≤ sizeLine; rw [List.size_toArray,← r.length]; exact Nat.le_trans q.1 big_le)
noncomputable def allN (h:Heap) (L:Addr):List (Addr × Obj) := (List.range h.objs.size).filterMap fun a => if a = L then none else (h.get? a).map fun o => (a,o)
theorem allN_mem {h:Heap} {L a:Addr} {o:Obj} (e:h.get? a = some o) (ne:a ≠ L):(a,o) ∈ allN h L :=
 List.mem_filterMap.mpr (in1_1 a (List.mem_range.mpr (Heap.lt_size e)) (by simp [ne,e]))
theorem empty_get (a:Addr):({}:Heap).get? a = none := by
 cases q:({}:Heap).get? a with
 | none => rfl
 | some o => exact absurd (Heap.lt_size q) (by simp)
theorem news_all (h:Heap) (L:Addr):News {} L h (allN h L) := fun p hp => by
 apply ex1_1 (List.mem_filterMap.mp hp); intro a _ e
 by_cases q:a = L
 ·simp [q] at e
 ·simp only [q,if_false,Option.map_eq_some_iff] at e
  obtain ⟨o,e,rfl⟩ := e
  exact ⟨e,q,empty_get _⟩
theorem FS0.fr (f:FS0 W F P PL fm l H s m):Fr {} fm.env.locals s.heap m := ⟨f.ns,fun b o e => (by rw [empty_get] at e; cases e),Nat.zero_le _⟩
theorem ext_of_all {h h':Heap} {L:Addr} {news:List (Addr × Obj)} (N:News {} L h' news) (hs:∀ p ∈ allN h L,p ∈ news):Heap.ExtBut L h h' :=
 fun b o ne e => (N _ (hs _ (allN_mem e ne))).1
theorem FS0.all {h':Heap} {news:List (Addr × Obj)} (f:FS0 W F P PL fm l H s m) (F':Fr {} fm.env.locals h' m) (N:News {} fm.env.locals h' news) (hs:∀ p ∈ allN s.heap fm.env.locals,p ∈ news):FS0 W F P PL fm l H { s with heap := h' } m :=
 f.ext (ext_of_all N hs) F'.ns
theorem made_at {mu:Bool} {xs:List V} {vs:List Value} {Q:V→Hp→Prop} {o:Obj} {n:Nat} {D:Addr} (f:FS0 W F P PL fm l H s m) (fr:Free F (P.un PL) H D) (ne:D ≠ fm.env.locals) (e:s.heap.get? D = some o) (r:VRs F xs vs) (hc:LC o) (hd:o.data = .seq vs.toArray n) (q:mk mu xs Q H) :
  Post W P fm l F Q (.ref D) s := by
 refine ex0_1 q fun U q => ?_
 cases mu with
 | false =>
  refine ex0_1 (f.toF fr ne e) fun g le => ?_
  exact (in3_3 _ _ _ le g (.lst (PM.set_self ..) hc.1 hd (r.mono le)) q)
 | true => exact (in3_3 F _ _ (PM.le_refl F) (f.toH fr ne e (.list hc hd r) npL) .ref (q _ fr.2.2))
theorem list_at {v:V} {x:Value} {xs:List V} (f:HS W F P H s) (r:VR F v x) (e:asList H v = some xs):∃ a its,x = .ref a∧s.heap.IsList a its∧VRs F xs its.toList := by
 cases r with
 | lst e' a b c => cases e; exact (in2_2 _ _ rfl (in1_2 _ (f.fk _ _ e') a ⟨_,b⟩) c)
 | ref =>
  refine ex1_1 (f.hk _ _ (mList e)) fun o ho hr => ?_
  cases hr with
  | list a b c => exact (in2_2 _ _ rfl (in1_2 _ ho a.1 ⟨_,b⟩) c)
 | _ => cases e
theorem VRs.append {xs ys:List V} {vs ws:List Value} (h:VRs F xs vs) (h':VRs F ys ws):VRs F (xs ++ ys) (vs ++ ws) := by
 induction xs generalizing vs with
 | nil => cases h; exact h'
 | cons x xs ih => cases h with | cons a r => exact .cons a (ih r)
theorem VRs.get {xs:List V} {vs:List Value} {i:Nat} {v:V} (h:VRs F xs vs) (e:xs[i]? = some v):∃ x,vs[i]? = some x∧VR F v x := by
 induction xs generalizing vs i with
 | nil => cases e
 | cons x xs ih =>
  cases h with
  | cons a r =>
   cases i with
   | zero => cases e; exact (in1_1 _ rfl a)
   | succ i =>
    have := ih r (i := i) (by simpa using e)
    simpa using this
theorem VRs.set {xs:List V} {vs:List Value} {v:V} {x:Value} (h:VRs F xs vs) (r:VR F v x) (i:Nat):VRs F (xs.set i v) (vs.set i x) := by
 induction xs generalizing vs i with
 | nil => cases h; exact .nil
 | cons y xs ih =>
  cases h with
  | cons a t =>
   cases i with
   | zero => exact .cons r t
   | succ i => exact .cons a (ih t i)
theorem VRs.take {xs:List V} {vs:List Value} (h:VRs F xs vs) (i:Nat):VRs F (xs.take i) (vs.take i) := by
 induction xs generalizing vs i with
 | nil => cases h; cases i <;> exact .nil
 | cons y xs ih =>
  cases h with
  | cons a t =>
   cases i with
   | zero => exact .nil
   | succ i => exact .cons a (ih t i)
theorem VRs.drop {xs:List V} {vs:List Value} (h:VRs F xs vs) (i:Nat):VRs F (xs.drop i) (vs.drop i) := by
 induction xs generalizing vs i with
 | nil => cases h; cases i <;> exact .nil
 | cons y xs ih =>
  cases h with
  | cons a t =>
   cases i with
   | zero => exact .cons a t
   | succ i => exact ih t i
theorem VRs.rep {v:V} {x:Value} (r:VR F v x) (n:Nat):VRs F (List.replicate n v) (List.replicate n x) := by
 induction n with
 | zero => exact .nil
 | succ n ih => exact .cons r ih
theorem o_cat {mu:Bool} {x y:V} {vx vy:Value} {xs ys:List V} {Q:V→Hp→Prop} (h:FSt W F P fm l H s) (rx:VR F x vx) (ry:VR F y vy) (ex:asList H x = some xs) (ey:asList H y = some ys) (q:mk mu (xs ++ ys) Q H) :
  wpAny (model W.prog W.w) A (binaryOp .Add vx vy) (Post W P fm l F Q) E s := by
 refine og fun G hG => ?_
 refine ex2_0 h fun PL m f => ?_; clear h
 refine ex2_2 (list_at f.hs rx ex) fun a as xq1 ha ra => ?_
 obtain rfl := xq1
 refine ex2_2 (list_at f.hs ry ey) fun b bs xq2 hb rb => ?_
 obtain rfl := xq2
 refine hG ?_; clear hG G
 have hn := ra.append rb
 refine add_arrays f.fr (news_all s.heap _) ha hb (fun h' F' N' => ?_) (by
  have e := hn.length; have e2 := q.1; have e3 := big_le; simp only [List.length_append,Array.length_toList] at e e2 ⊢; lia)
 exact made_at (f.all F' N' fun U hp => .tail _ hp) f.new.1 f.new.2 (N' _ (.head _)).1 hn ⟨rfl,rfl⟩ rfl q
theorem o_rep {mu:Bool} {a:Addr} {v:V} {vx vy:Value} {n:Int} {Q:V→Hp→Prop} {k:Nat} (h:FSt W F P fm l H s) (rx:VR F v vx) (ry:VR F (.int n) vy) (e:s.heap.get? a = some { cls := .type "list",data := .seq #[vx] k }) (hn:0 ≤ n∧n ≤ big) (q:mk mu (List.replicate n.toNat v) Q H) :
  wpAny (model W.prog W.w) A (binaryOp .Mult (.ref a) vy) (Post W P fm l F Q) E s := by
 obtain ⟨PL,m,f⟩ := h
 cases ry
 have hb:(big:Int) = 1000000 := rfl
 refine mul_list f.fr (news_all s.heap _) e (by lia) (by lia) (by show 1 * n.toNat ≤ 2 ^ 24; lia) (fun h' F' N' => ?_)
 have e1:∀ (k:Nat) (acc:Array Value),(List.foldl (fun x1 x2 => x1 ++ x2) acc (List.replicate k #[vx])) = acc ++ (List.replicate k vx).toArray := by
  intro k
  induction k with
  | zero => intro acc; simp
  | succ k ih => intro acc; rw [List.replicate_succ,List.foldl_cons,ih]; apply Array.toList_inj.mp; simp [List.replicate_succ]
 refine made_at (n := 0) (f.all F' N' fun U hp => .tail _ hp) f.new.1 f.new.2 (N' _ (.head _)).1 (VRs.rep rx n.toNat) ⟨rfl,rfl⟩ ?_ q
 show Data.seq (List.foldl (fun x1 x2 => x1 ++ x2) #[] (List.replicate (if (#[vx]:Array Value).isEmpty = true then 0 else n.toNat) #[vx])) 0 = _
 rw [if_neg (by simp),e1,Array.empty_append]
theorem idx_seq {n:Nat} {k:Int} {j:Nat} (h:idx n k = some j):seqIndex? k n = some j∧-(n:Int) ≤ k∧k < n := by
 unfold idx at h
 unfold seqIndex?
 by_cases h0:0 ≤ k
 ·rw [if_pos h0] at h
  by_cases h1:k < n
  ·rw [if_pos h1] at h
   have e:¬ k < 0 := by exact Int.not_lt_of_ge h0
   simp only [e,if_false]
   rw [if_pos (by simp [h0,h1])]
   exact ⟨h,by lia,h1⟩
  ·rw [if_neg h1] at h; cases h
 ·rw [if_neg h0] at h
  by_cases h1:-(n:Int) ≤ k
  ·rw [if_pos h1] at h
   have e:k < 0 := by exact Int.lt_of_not_ge h0
   simp only [e,if_true]
   rw [if_pos (by simp; lia),show k + (n:Int) = n + k from by exact Int.add_comm k ↑n]
   exact ⟨h,h1,by lia⟩
  ·rw [if_neg h1] at h; cases h
theorem o_item {a:V} {va vi:Value} {Q:V→Hp→Prop} {xs:List V} {k:Int} {j:Nat} {v:V} (h:FSt W F P fm l H s) (ra:VR F a va) (ri:VR F (.int k) vi) (ea:asSeq H a = some xs) (hj:idx xs.length k = some j) (hv:xs[j]? = some v) (hl:xs.length ≤ 2 ^ 60) (q:Q v H) :
  wpAny (model W.prog W.w) A (getItem va vi) (Post W P fm l F Q) E s := by
 have h0 := h
 refine ex2_0 h fun PL m f => ?_; clear h
 cases ri
 refine ex0_2 (idx_seq hj) fun hs h1 h2 => ?_
 have hb:(xs.length:Int) ≤ 2 ^ 60 := by exact_mod_cast hl
 by_cases ht:∃ ys,a = .tup ys
 ·refine ex1_0 ht fun ys xq3 => ?_; clear ht
  obtain rfl := xq3
  cases ea
  cases ra with
  | tup e r =>
   refine ex1_1 (r.get hv) fun x hx rx => ?_
   exact getItem_tuple ⟨_,f.hs.fk _ _ e,rfl,_,rfl⟩ (by lia) (by lia) (by rw [List.size_toArray,← r.length]; exact hs) (by simpa using hx) (Post.here h0 rx q)
 ·have ea':asList H a = some xs := by
   cases a <;> first | exact ea | exact absurd ⟨_,rfl⟩ ht
  refine og fun G hG => ?_
  refine ex2_2 (list_at f.hs ra ea') fun b its xq4 hb' r => ?_
  obtain rfl := xq4
  refine ex1_1 (r.get hv) fun x hx rx => ?_
  refine hG ?_; clear hG G
  by_cases hk:0 ≤ k
  ·refine wpAny_getItem_list hb' hk (by lia) ?_ (Post.here h0 rx q)
   have:j = k.toNat := by
    unfold idx at hj
    rw [if_pos hk,if_pos h2] at hj
    exact (Option.some.inj hj).symm
   rw [← this]; simpa using hx
  ·refine wpAny_getItem_list_neg hb' (by lia) ?_ (by lia) ?_ (Post.here h0 rx q)
   ·have e:xs.length = its.size := r.length.trans Array.length_toList; exact le_of_eq_of_le (congrArg Neg.neg (congrArg Nat.cast (id (Eq.symm e)))) h1
   ·have e:xs.length = its.size := r.length.trans Array.length_toList
    have:j = (k + its.size).toNat := by
     unfold idx at hj
     rw [if_neg hk,if_pos h1] at hj
     rw [← Option.some.inj hj,e]; congr 1; exact Int.add_comm (↑its.size) k
    rw [← this]; simpa using hx
theorem vE_el {α:Type} {v:V} {n:Option α} {P:Int→Option α} {y:α} {G:Prop} (h:vE v n P none = some y) (k:v = .none→n = some y→G) (k':∀ i,v = .int i→P i = some y→G):G := by
 cases v <;> first | exact k rfl h | exact k' _ rfl h | cases h
theorem if_el {α:Type} {c:Prop} {i:Decidable c} {x y:α} {G:Prop} (h:(if c then some x else none) = some y) (k:c→y = x→G):G := by
 by_cases q:c
 ·rw [if_pos q] at h; exact k q (Option.some.inj h).symm
 ·rw [if_neg q] at h; cases h
theorem sliceL_el {xs ys:List V} {lo hi:V} {G:Prop} (es:sliceL xs lo hi = some ys) (k1:lo = .none→hi = .none→ys = xs→G) (k2:∀ a,lo = .int a→hi = .none→0 ≤ a→ys = xs.drop a.toNat→G) (k3:∀ b,lo = .none→hi = .int b→0 ≤ b→ys = xs.take b.toNat→G)
  (k4:∀ a b,lo = .int a→hi = .int b→(0 ≤ a∧a ≤ b∧b ≤ xs.length)→ys = (xs.drop a.toNat).take (b.toNat - a.toNat)→G):G :=
 vE_el es (fun e es => vE_el es (fun e2 es => k1 e e2 (Option.some.inj es).symm) fun b e2 es => if_el es fun c => k3 b e e2 c.1)
  fun a e es => vE_el es (fun e2 es => if_el es fun c => k2 a e e2 c.1) fun b e2 es => if_el es fun c => k4 a b e e2 c
theorem o_slice {mu:Bool} {a lo hi:V} {va vl vh:Value} {xs ys:List V} {sl:Addr} {Q:V→Hp→Prop} (h:FSt W F P fm l H s) (ra:VR F a va) (rl:VR F lo vl) (rh:VR F hi vh) (ea:asList H a = some xs) (es:sliceL xs lo hi = some ys) (hz:xs.length ≤ sizeLine)
  (hs:s.heap.IsSliceOf sl vl vh .none) (q:mk mu ys Q H):wpAny (model W.prog W.w) A (getItem va (.ref sl)) (Post W P fm l F Q) E s := by
 refine h.el fun PL m f => ?_
 refine og fun G hG => ?_
 refine ex2_2 (list_at f.hs ra ea) fun b its xq5 hb r => ?_
 obtain rfl := xq5
 refine hG ?_; clear hG G
 have e:xs.length = its.size := r.length.trans Array.length_toList
 refine sliceL_el es (fun e1 e2 e3 => ?_) (fun x e1 e2 hx e3 => ?_) (fun x e1 e2 hx e3 => ?_) (fun x y e1 e2 hx e3 => ?_) <;> subst e1 e2 e3
 ·obtain rfl := rl.noneI
  obtain rfl := rh.noneI
  refine wpAny_getItem_list_slice hb hs .none .none .none (by simp) ?_ (by lia)
  rw [slicePick_all]
  exact made_list (vs := its.toList) (n := 0) (in2_0 PL m f) r ⟨rfl,rfl⟩ (by simp) q
 ·refine ex1_0 rl.intI fun t xq6 => ?_
  obtain rfl := xq6
  obtain rfl := rh.noneI
  refine wpAny_getItem_list_slice hb hs (.int _ _) .none .none (by simp) ?_ (by lia)
  rw [show x = ((x.toNat:Nat):Int) from by exact Int.eq_natCast_toNat.mpr hx,slicePick_from']
  exact made_list (in2_0 PL m f) (r.drop _) ⟨rfl,rfl⟩ rfl q
 ·obtain rfl := rl.noneI
  refine ex1_0 rh.intI fun t xq7 => ?_
  obtain rfl := xq7
  refine wpAny_getItem_list_slice hb hs .none (.int _ _) .none (by simp) ?_ (by lia)
  rw [show x = ((x.toNat:Nat):Int) from by lia,slicePick_upto']
  exact made_list (in2_0 PL m f) (r.take _) ⟨rfl,rfl⟩ rfl q
 ·refine ex1_0 rl.intI fun t xq8 => ?_
  obtain rfl := xq8
  refine ex1_0 rh.intI fun u xq9 => ?_
  obtain rfl := xq9
  refine wpAny_getItem_list_slice hb hs (.int _ _) (.int _ _) .none (by simp) ?_ (by lia)
  rw [show x = ((x.toNat:Nat):Int) from by lia,show y = ((y.toNat:Nat):Int) from by lia,slicePick_run _ _ _ (by lia) (by lia)]
  exact made_list (in2_0 PL m f) ((r.drop _).take _) ⟨rfl,rfl⟩ rfl q
theorem cell_list {a:Addr} {xs:List V} (f:HS W F P H s) (e:H a = some (.list xs)):∃ (o:Obj) (its:Array Value) (n:Nat),s.heap.get? a = some o∧LC o∧o.data = .seq its n∧VRs F xs its.toList := by
 refine ex1_1 (f.hk _ _ e) fun o ho hr => ?_
 cases hr with
 | list a b c => exact (in3_3 o _ _ ho a b c)
theorem dict_mapSeq (f:Array Value→Array Value) (o:Obj):(Obj.mapSeq f o).dict = o.dict := by
 unfold Obj.mapSeq; split <;> rfl
theorem lc_map {f:Array Value→Array Value} {o:Obj} (h:LC o):LC (Obj.mapSeq f o) := ⟨(Obj.cls_mapSeq ..).trans h.1,(dict_mapSeq ..).trans h.2⟩
theorem lc_append {l:Addr} {o:Obj} {its:Array Value} {n:Nat} {x:Value} {Q:Value→Shared→Prop} (ho:s.heap.get? l = some o) (hc:LC o) (hd:o.data = .seq its n) (hz:its.size ≤ sizeLine)
  (hQ:∀ h' o' n',h'.get? l = some o'→LC o'→o'.data = .seq (its.push x) n'→Heap.SameBut l s.heap h'→Q .none { s with heap := h' }) :
  wpAny (model W.prog W.w) A (call (.builtin "list.append") [.ref l,x]) Q E s := by
 refine ex1_0 (Obj.data_mapSeq hd (·.push x)) fun n' hd' => ?_
 refine wpAny_call_entry slot_list_append (in1_1 o ho hc.1) entry_list_append ?_ (args_list_append _ _)
 show wpAny _ _ (updateSeq l (·.push x) >>= fun U => ret .none) _ _ s
 exact wpAny_bind (wpAny_updateSeq ho hd (wpAny_pure (in1_1 .none rfl (hQ _ _ n' (Heap.get?_update_self _ ho (Obj.isFreed_of_seq hd')) (lc_map hc) hd' (Heap.SameBut.update ..)))) hz (by rw [Array.size_push]; exact Nat.lt_succ_of_le ‹_›))
theorem lc_setItem {l:Addr} {o:Obj} {its:Array Value} {n:Nat} {k:Int} {t:Tok} {v:Value} {Q:Unit→Shared→Prop} (ho:s.heap.get? l = some o) (hc:LC o) (hd:o.data = .seq its n)
  (h0:0 ≤ k) (hfit:k < 2 ^ 63) (hn:k < its.size)
  (hQ:∀ h' o' n',h'.get? l = some o'→LC o'→o'.data = .seq (its.setIfInBounds k.toNat v) n'→Heap.SameBut l s.heap h'→Q () { s with heap := h' }) :
  wpAny (model W.prog W.w) A (setItem (.ref l) (.int k t) v) Q E s := by
 have hl:s.heap.IsList l its := (in1_2 o ho hc.1 ⟨n,hd⟩)
 unfold setItem
 try with_reducible refine wpAny_holding ?_
 first | refine wpAny_bind (wpAny_pure ?_) | skip
 refine wpAny_bind (wpAny_sequenceKey hl.typeIs (by decide) ?_)
 refine wpAny_bind (wpAny_callSpecial?_slot (name := Str.ofString "__setitem__") hl.typeIs slot_list_setitem
  (wpAny_call_entry slot_list_setitem hl.typeIs entry_list_setitem ?_ (args_list_setitem _ _ _)))
 show wpAny _ _ (Builtin.List.listSubscript? (.int k t) >>= _) _ _ s
 refine wpAny_bind (wpAny_listSubscript_int (fitsIndex_of h0 hfit) ?_)
 obtain ⟨j,rfl⟩ := Int.eq_ofNat_of_zero_le h0
 have hj:j < its.size := by lia
 have hx':its[j]? = some its[j] := Array.getElem?_eq_getElem hj
 show wpAny _ _ ((seqItemAt l j >>= fun r => pure (r.map (j,·))) >>= _) _ _ s
 refine wpAny_bind (wpAny_bind (wpAny_seqItemAt ho hd (wpAny_pure ?_)))
 rw [hx']
 show wpAny _ _ (setSeqItemAt l j v >>= _) _ _ s
 obtain ⟨n',hd'⟩ := Obj.data_mapSeq hd (·.setIfInBounds j v)
 have fin := hQ (s.heap.update l (Obj.mapSeq (·.setIfInBounds j v))) _ n' (Heap.get?_update_self _ ho (Obj.isFreed_of_seq hd')) (lc_map hc) hd' (Heap.SameBut.update ..)
 refine wpAny_bind (wpAny_setSeqItemAt ho hd ?_)
 first
  | exact wpAny_bind (wpAny_pure (wpAny_pure (in1_1 .none rfl (wpAny_pure fin))))
  | exact wpAny_pure ⟨.none,rfl,wpAny_pure fin⟩
theorem o_append {a v:V} {va vv:Value} {Q:V→Hp→Prop} {x:Addr} {xs:List V} (h:FSt W F P fm l H s) (rv:VR F v vv) (ea:H x = some (.list xs)) (hz:xs.length < big) (q:Q .none (H.set x (.list (xs ++ [v])))) :
  wpAny (model W.prog W.w) A (call (.builtin "list.append") [.ref x,vv]) (Post W P fm l F Q) E s := by
 refine og fun G hG => ?_
 refine ex2_0 h fun PL m f => ?_
 refine ex3_3 (cell_list f.hs ea) fun o its n ho hc hd r => ?_
 refine hG ?_; clear hG G
 have e:xs.length = its.size := r.length.trans Array.length_toList
 refine lc_append ho hc hd (by have := big_le; lia) (fun h' o' n' ho' hc' hd' hs => ?_)
 exact (in3_3 F _ _ (PM.le_refl F) (f.turn ea hs ho' (.list hc' hd' (by rw [show (its.push vv).toList = its.toList ++ [vv] from Array.toList_push ..]; exact r.append (.cons rv .nil))) npL) .none q)
theorem o_setItem {v:V} {vv vk:Value} {Q:Hp→Prop} {x:Addr} {xs:List V} {k:Int} (h:FSt W F P fm l H s) (rv:VR F v vv) (rk:VR F (.int k) vk) (ea:H x = some (.list xs)) (hz:0 ≤ k∧k < xs.length∧xs.length ≤ big) (q:Q (H.set x (.list (xs.set k.toNat v)))) :
  wpAny (model W.prog W.w) A (setItem (.ref x) vk vv) (fun U s' => ∃ F' H',F.le F'∧FSt W F' P fm l H' s'∧Q H') E s := by
 refine ex2_0 h fun PL m f => ?_; clear h
 cases rk
 refine ex3_3 (cell_list f.hs ea) fun o its n ho hc hd r => ?_
 have e:xs.length = its.size := r.length.trans Array.length_toList
 have hb':(big:Int) = 1000000 := rfl
 refine lc_setItem ho hc hd hz.1 (by lia) (by lia) (fun h' o' n' ho' hc' hd' hs => ?_)
 exact (in2_2 F _ (PM.le_refl F) (f.turn ea hs ho' (.list hc' hd' (by rw [show (its.setIfInBounds k.toNat vv).toList = its.toList.set k.toNat vv from Array.toList_setIfInBounds ..]; exact r.set rv _)) npL) q)
end
end
section
open PySem PySem.W PyProof.Rows PySem.Calls
section
variable {W:Wd} {F P PL:PM} {H:Hp} {s:Shared} {A:Around} {E:Value→Shared→Prop} {fm:Fm} {l:Loc} {m:Str→Option Value}
theorem HS.un_get {a:Addr} {o:Obj} (h:HS W F (P.un PL) H s) (e:(P.un PL) a = some o):s.heap.get? a = some o := h.pk _ _ e
theorem o_load {i:Nat} {x:Str} {c:Bool} {v:V} {pos:Pos} {Q:V→Hp→Prop} (h:FSt W F P fm l H s) (hx:fm.names[i]? = some (x,c)) (hd:(x == ("__debug__":Str)) = false) (hv:l[i]? = some (some v)) (q:Q v H) :
  wpAny (model W.prog W.w) A (eval (.Name x pos) fm.env) (Post W P fm l F Q) E s := by
 have h0 := h
 refine ex2_0 h fun PL m f => ?_; clear h
 cases c with
 | false =>
  refine ex1_1 (f.lr.loc i x v hx hv) fun rv hm hr => ?_
  exact wpAny_Name (wpAny_loadName_local f.ok.kind (f.ok.loc x (List.mem_of_getElem? hx)) f.ns hm (Post.here h0 hr q)) hd
 | true =>
  refine og fun G hG => ?_
  refine ex3_3 (f.lr.cell i x v hx hv) fun c o rv hc ho hd' hr => ?_
  refine hG ?_; clear hG G
  exact wpAny_Name (wpAny_loadName_cell f.ok.kind (f.ok.cell x (List.mem_of_getElem? hx)) hc (in1_1 o (f.hs.pk _ _ ho) hd') (Post.here h0 hr q)) hd
theorem get_set_slot {l:Loc} {i j:Nat} {v u:V} (h:(l.set i (some v))[j]? = some (some u)):(j = i∧u = v) ∨ (j ≠ i∧l[j]? = some (some u)) := by
 by_cases q:j = i
 ·subst q
  rw [List.getElem?_set] at h
  simp only [if_true] at h
  split at h
  ·cases h; exact .inl ⟨rfl,rfl⟩
  ·cases h
 ·rw [List.getElem?_set_ne (Ne.symm q)] at h
  exact .inr ⟨q,h⟩
theorem slot_inj {names:List (Str × Bool)} (hn:(names.map (·.1)).Nodup) {i j:Nat} {x y:Str} {c d:Bool} (hi:names[i]? = some (x,c)) (hj:names[j]? = some (y,d)) (h:x = y):i = j := by
 have hi':(names.map (·.1))[i]? = some x := by rw [List.getElem?_map,hi]; rfl
 have hj':(names.map (·.1))[j]? = some x := by rw [List.getElem?_map,hj,h]; rfl
 exact (List.getElem?_inj (List.getElem?_eq_some_iff.mp hi').1 hn).mp (hi'.trans hj'.symm)
theorem slot_el {l:Loc} {i j:Nat} {v u:V} {G:Prop} (h:(l.set i (some v))[j]? = some (some u)) (k1:j = i→u = v→G) (k2:j ≠ i→l[j]? = some (some u)→G):G :=
 (get_set_slot h).elim (fun q => k1 q.1 q.2) fun q => k2 q.1 q.2
theorem loc_set {i:Nat} {x:Str} {v:V} {rv:Value} (f:FS0 W F P PL fm l H s m) (hx:fm.names[i]? = some (x,false)) (r:VR F v rv):LocR F (P.un PL) PL fm (l.set i (some v)) (fun y => if y = x then some rv else m y) := by
 refine ⟨fun j y u hy hu => slot_el hu (fun e1 e2 => ?_) fun ne hu => ?_,fun j y u hy hu => slot_el hu (fun e1 e2 => ?_) fun ne hu => f.lr.cell j y u hy hu,f.lr.own⟩
 ·rw [e1,hx] at hy
  rw [← (Prod.mk.inj (Option.some.inj hy)).1,e2]; exact (in1_1 rv (if_pos rfl) r)
 ·refine ex1_1 (f.lr.loc j y u hy hu) fun rv' hm hr => ?_
  exact (in1_1 rv' ((if_neg fun e => ne (slot_inj f.ok.nodup hy hx e)).trans hm) hr)
 ·rw [e1,hx] at hy; cases hy
theorem cell_set {i:Nat} {x:Str} {v:V} {rv:Value} {c:Addr} {o':Obj} (f:FS0 W F P PL fm l H s m) (hx:fm.names[i]? = some (x,true)) (r:VR F v rv) (hc:fm.env.cells.lookup x = some c) (hap:∀ x' c',x' ≠ x→fm.env.cells.lookup x' = some c'→c' ≠ c)
  (e1:(P.un PL).set c o' = P.un (PL.set c o')) (hd:o'.data = .cell (some rv)):LocR F (P.un (PL.set c o')) (PL.set c o') fm (l.set i (some v)) m := by
 rw [← e1]
 refine ⟨fun j y u hy hu => slot_el hu (fun e1 e2 => ?_) fun ne hu => f.lr.loc j y u hy hu,fun j y u hy hu => slot_el hu (fun e1 e2 => ?_) fun ne hu => ?_,fun hown y hy => ?_⟩
 ·rw [e1,hx] at hy; cases hy
 ·rw [e1,hx] at hy
  rw [← (Prod.mk.inj (Option.some.inj hy)).1,e2]; exact (in3_3 c o' rv hc (PM.set_self ..) hd r)
 ·refine ex3_3 (f.lr.cell j y u hy hu) fun c2 o2 rv2 hc2 ho2 hd2 hr2 => ?_
  exact (in3_3 c2 o2 rv2 hc2 ((PM.set_ne _ _ (hap y c2 (fun e => ne (slot_inj f.ok.nodup hy hx e)) hc2)).trans ho2) hd2 hr2)
 ·by_cases e:y = x
  ·exact (in3_3 c o' _ (e ▸ hc) (PM.set_self ..) hd (fun x' c' ne => hap x' c' (e ▸ ne)))
  ·refine ex3_3 (f.lr.own hown y hy) fun c2 o2 ov2 hc2 ho2 hd2 hap2 => ?_
   exact (in3_3 c2 o2 ov2 hc2 ((PM.set_ne _ _ (hap y c2 e hc2)).trans ho2) hd2 hap2)
theorem set_un {c:Addr} {o':Obj}:(P.un PL).set c o' = P.un (PL.set c o') := by
 funext b
 unfold PM.set PM.un
 by_cases hb:b = c <;> simp [hb]
theorem o_store {i:Nat} {x:Str} {c:Bool} {v:V} {rv:Value} {Q:Unit→Shared→Prop} (h:FSt W F P fm l H s) (hx:fm.names[i]? = some (x,c)) (ho:c = true→fm.own = true) (r:VR F v rv)
  (q:∀ s',FSt W F P fm (l.set i (some v)) H s'→Q () s'):wpAny (model W.prog W.w) A (storeName fm.env x rv) Q E s := by
 refine ex2_0 h fun PL m f => ?_; clear h
 cases c with
 | false =>
  refine wpAny_storeName_local (f.ok.loc x (List.mem_of_getElem? hx)) f.ns (fun h' hn hs => ?_) (by rw [f.ok.kind]; rfl)
  exact q _ (in2_0 PL _ ⟨f.ok,f.apart,(f.hs.ext f.free hs.extBut).tok _,f.free,hn,loc_set f hx r⟩)
 | true =>
  refine ex3_3 (f.lr.own (ho rfl) x (List.mem_of_getElem? hx)) fun c o ov hc hPL hod hap => ?_
  have hPP:(P.un PL) c = some o := by simp [PM.un,hPL]
  have hcL:c ≠ fm.env.locals := fun e => by rw [e,f.free.2.1] at hPP; cases hPP
  have hPc:∀ a oa,P a = some oa→a ≠ c := fun a oa e ec => by have := f.apart a oa e; rw [ec,hPL] at this; cases this
  refine wpAny_storeName_cell f.ok.kind (f.ok.cell x (List.mem_of_getElem? hx)) hc (in1_1 o (f.hs.pk _ _ hPP) hod) (fun h' hv hs => ?_)
  refine ex1_1 hv fun o' ho' hd' => ?_; clear hv
  exact q _ (in2_0 (PL.set c o') m ⟨f.ok,fun a oa qa => (PM.set_ne _ _ (hPc a oa qa)).trans (f.apart a oa qa),set_un ▸ f.hs.turnP hPP hs.extBut ho',⟨f.free.1,set_un ▸ (PM.set_ne _ _ (Ne.symm hcL)).trans f.free.2.1,f.free.2.2⟩,f.ns.sameBut hs (Ne.symm hcL),cell_set f hx r hc hap set_un hd'⟩)
theorem o_global {x:Str} {v:Value} {pos:Pos} {Q:Value→Shared→Prop} (h:FSt W F P fm l H s) (hk:fm.env.kindOf x = some .globalImplicit) (hd:(x == ("__debug__":Str)) = false) (e:nsIn W.K mainGlobals x = some (some v)) (q:Q v s) :
  wpAny (model W.prog W.w) A (eval (.Name x pos) fm.env) Q E s := by
 refine ex2_0 h fun PL m f => ?_; clear h
 exact Name_function_global f.ok.kind hk (loadGlobal_global (by rw [f.ok.glob]; exact f.hs.top.g) (mg_of W.X W.T.g e) q) hd
theorem o_builtin {x:Str} {v:Value} {pos:Pos} {Q:Value→Shared→Prop} (h:FSt W F P fm l H s) (hk:fm.env.kindOf x = some .globalImplicit) (hd:(x == ("__debug__":Str)) = false) (e:nsIn W.K mainGlobals x = some none) (hv:bootBuiltins x = some v) (hn:x ≠ "__name__") (q:Q v s) :
  wpAny (model W.prog W.w) A (eval (.Name x pos) fm.env) Q E s := by
 refine ex2_0 h fun PL m f => ?_; clear h
 exact Name_function_global f.ok.kind hk (loadGlobal_builtin (by rw [f.ok.glob]; exact f.hs.top.g) (mg_none_of W.X W.T.g e) (by rw [f.ok.bi]; exact f.hs.top.b) ((W.T.builtins x hn).trans hv) q) hd
end
noncomputable def PM.one (a:Addr) (o:Obj):PM := fun b => if b = a then some o else none
noncomputable def Dis (P PI:PM):Prop := ∀ a o,P a = some o→PI a = none
section
variable {W:Wd} {F P PL PI:PM} {H:Hp} {s:Shared} {A:Around} {E:Value→Shared→Prop} {fm:Fm} {l:Loc} {m:Str→Option Value}
theorem PM.one_self (a:Addr) (o:Obj):PM.one a o a = some o := by simp [PM.one]
theorem Dis.le (d:Dis P PI):P.le (P.un PI) := fun a o e => by simp [PM.un,d a o e,e]
theorem Dis.right:PI.le (P.un PI) := fun a o e => by simp [PM.un,e]
theorem HS.dis_of {a:Addr} {o:Obj} (h:HS W F (P.un PI) H s) (d:Dis P PI) (e0:PI a = some o):s.heap.get? a = some o∧Free F P H a := by
 have e:(P.un PI) a = some o := Dis.right _ _ e0
 refine ⟨h.pk _ _ e,?_,?_,h.ph _ _ e⟩
 ·cases q:F a with
  | none => rfl
  | some o' => have := h.fp a o' q; rw [e] at this; cases this
 ·cases q:P a with
  | none => rfl
  | some o' => have := d a o' q; rw [e0] at this; cases this
theorem HS.dis_one {a:Addr} {o:Obj} (h:HS W F (P.un (PM.one a o)) H s) (d:Dis P (PM.one a o)):s.heap.get? a = some o∧Free F P H a := h.dis_of d (PM.one_self a o)
theorem Dis.one (h:P a = none) (o:Obj):Dis P (PM.one a o) := fun b o' e => by
 unfold PM.one
 rw [if_neg (fun q => by rw [q,h] at e; cases e)]
theorem set_one (h:P a = none) (o:Obj):P.set a o = P.un (PM.one a o) := by
 funext b
 unfold PM.set PM.un PM.one
 by_cases q:b = a
 ·simp [q]
 ·simp [q]
theorem HS.turn_one {a:Addr} {o o':Obj} {h':Heap} (h:HS W F (P.un (PM.one a o)) H s) (d:Dis P (PM.one a o)) (x:Heap.ExtBut a s.heap h') (e':h'.get? a = some o') :
  HS W F (P.un (PM.one a o')) H { s with heap := h' }∧Dis P (PM.one a o') := by
 have f := (h.dis_one d).2
 have h1 := ((h.lessP d.le).ext f x).toP (s := { s with heap := h' }) f e'
 rw [set_one f.2.1] at h1
 exact ⟨h1,Dis.one f.2.1 _⟩
structure Feed (W:Wd) (A:Around) (tgt:Expr) (it:Value) (items:List V) (J:PM→Hp→PM→Nat→Prop):Prop where
 nocell:∀ {F:PM} {H:Hp} {PI:PM} {i:Nat} {a:Addr} {o:Obj} {v:Option Value},J F H PI i→PI a = some o→o.data ≠ .cell v
 mono:∀ {F F':PM} {H:Hp} {PI:PM} {i:Nat},PM.le F F'→J F H PI i→J F' H PI i
 next:∀ {F P PI:PM} {H:Hp} {s:Shared} {i:Nat} {v:V} {E:Value→Shared→Prop} {Q:Value→Shared→Prop},items[i]? = some v→J F H PI i→Dis P PI→HS W F (P.un PI) H s →
  (∀ (F' PI':PM) (s':Shared) (x:Value),F.le F'→Dis P PI'→J F' H PI' (i + 1)→HS W F' (P.un PI') H s'→VR F' v x→Q x s') →
  wpAny (model W.prog W.w) A (pyNext it) (fun r s₁ => ∃ x,r = some x∧∀ E',wpAny (model W.prog W.w) A (letOwnedTupleGo tgt it x) (fun U s₂ => Q x s₂) E' s₁) E s
 done:∀ {F P PI:PM} {H:Hp} {s:Shared} {i:Nat} {E:Value→Shared→Prop} {Q:Option Value→Shared→Prop},items.length ≤ i→J F H PI i→Dis P PI→HS W F (P.un PI) H s →
  (∀ s',HS W F P H s'→Q none s')→wpAny (model W.prog W.w) A (pyNext it) Q E s
 again:∀ {F P PI:PM} {H:Hp} {s:Shared} {i:Nat} {E:Value→Shared→Prop} {Q:Value→Shared→Prop},J F H PI i→HS W F (P.un PI) H s→Q it s→wpAny (model W.prog W.w) A (pyIter it) Q E s
theorem one_get {a b:Addr} {o p:Obj} (h:PM.one a o b = some p):p = o := by
 unfold PM.one at h
 split at h
 ·exact (Option.some.inj h).symm
 ·cases h
theorem lot {R:Sem Unit→Prop} {it v:Value} (h:R (pure ())) (g:R (letOwnedTupleGo (.List [] default) it v)) (t:Expr):R (letOwnedTupleGo t it v) := by
 cases t <;> first | exact g | exact h
theorem go_plain {I:Addr} {o:Obj} {tgt:Expr} {v:Value} {c:String} {vs:Array Value} {Q:Unit→Shared→Prop} (ho:s.heap.get? I = some o) (hc:o.cls = .type c) (hd:o.data = .fields vs)
  (hn:(["enumerate","zip","dict_itemiterator","dict_reverseitemiterator","odict_iterator","itertools.zip_longest","itertools.pairwise"].contains c) = false) (q:Q () s) :
  wpAny (model W.prog W.w) A (letOwnedTupleGo tgt (.ref I) v) Q E s := by
 refine lot (R := fun t => wpAny (model W.prog W.w) A t Q E s) (wpAny_pure q) ?_ tgt
 cases v with
 | ref T =>
  refine wpAny_bind (wpAny_load ho ?_)
  rw [hc,hd]
  dsimp only
  rw [if_neg (by rw [hn,Bool.false_and]; exact Bool.false_ne_true)]
  exact wpAny_pure q
 | _ => exact wpAny_pure q
abbrev listIt (a:Addr) (i:Nat) (o:Obj):Prop := o.cls = .type "list_iterator"∧o.data = .fields #[.ref a,.int (i:Int) 0]
theorem feed_list {lv:V} {a I:Addr} {tgt:Expr} {items:List V} (hh:A.handled = none) :
  Feed W A tgt (.ref I) items (fun F H PI i => asList H lv = some items∧VR F lv (.ref a)∧∃ o,PI = PM.one I o∧listIt a i o) where
 nocell := fun ⟨h1,h2,o,e,ho⟩ q q2 => by subst e; rw [one_get q,ho.2] at q2; cases q2
 mono := fun le h => ⟨h.1,h.2.1.mono le,h.2.2⟩
 next := by
  rintro F P PI H s i v E Q hv ⟨h1,h2,o,rfl,ho⟩ d hs q
  refine ex2_2 (list_at hs h2 h1) fun a' its e hl r => ?_
  cases e
  refine og fun G hG => ?_
  refine ex1_1 (r.get hv) fun x hx rx => ?_
  refine ex0_1 (hs.dis_one d) fun ho1 fr => ?_
  refine hG ?_; clear hG G
  refine wpAny_pyNext_list_item (in1_2 o ho1 ho.1 ho.2) hl (by simpa using hx) (fun h' hit' hs' => (in1_1 x rfl (fun E' => ?_)))
  refine og fun G hG => ?_
  refine ex1_2 hit' fun o' ho' hc' hd' => ?_; clear hit'
  refine ex0_1 (hs.turn_one d hs'.extBut ho') fun g d' => ?_
  refine hG ?_; clear hG G
  exact go_plain (s := { s with heap := h' }) ho' hc' hd' (by decide) (q F _ _ x (PM.le_refl F) d' ⟨h1,h2,o',rfl,hc',hd'⟩ g rx)
 done := by
  rintro F P PI H s i E Q hi ⟨h1,h2,o,rfl,ho⟩ d hs q
  refine ex2_2 (list_at hs h2 h1) fun a' its e hl r => ?_
  cases e
  refine ex0_1 (hs.dis_one d) fun ho1 fr => ?_
  have e:items.length = its.size := r.length.trans Array.length_toList
  exact wpAny_pyNext_list_end hh (in1_2 o ho1 ho.1 ho.2) hl (by simp; exact le_of_eq_of_le (id (Eq.symm e)) hi) (fun h' hx => q _ ((hs.lessP d.le).ext fr hx))
 again := by
  rintro F P PI H s i E Q ⟨h1,h2,o,rfl,ho⟩ hs q
  exact wpAny_pyIter_listiter (in1_2 o (hs.pk _ _ (Dis.right _ _ (PM.one_self ..))) ho.1 ho.2) q
theorem feed_tuple {xs:List V} {a I:Addr} {tgt:Expr} (hh:A.handled = none) :
  Feed W A tgt (.ref I) xs (fun F H PI i => VR F (.tup xs) (.ref a)∧∃ o,PI = PM.one I o∧o.cls = .type "tuple_iterator"∧o.data = .fields #[.ref a,.int (i:Int) 0]) where
 nocell := fun ⟨h2,o,e,ho⟩ q q2 => by subst e; rw [one_get q,ho.2] at q2; cases q2
 mono := fun le h => ⟨h.1.mono le,h.2⟩
 next := by
  rintro F P PI H s i v E Q hv ⟨h2,o,rfl,ho⟩ d hs q
  have h2' := h2
  refine ex3_2 h2.tupI fun U n its er e r => ?_
  cases er
  ·refine ex1_1 (r.get hv) fun x hx rx => ?_
   refine ex0_1 (hs.dis_one d) fun ho1 fr => ?_
   refine wpAny_pyNext_tuple_item (in1_2 o ho1 ho.1 ho.2) (in1_2 _ (hs.fk _ _ e) rfl ⟨_,rfl⟩) (by simpa using hx) (fun h' hit' hs' => (in1_1 x rfl (fun E' => ?_)))
   refine og fun G hG => ?_
   refine ex1_2 hit' fun o' ho' hc' hd' => ?_; clear hit'
   refine ex0_1 (hs.turn_one d hs'.extBut ho') fun g d' => ?_
   refine hG ?_; clear hG G
   exact go_plain (s := { s with heap := h' }) ho' hc' hd' (by decide) (q F _ _ x (PM.le_refl F) d' ⟨h2',o',rfl,hc',hd'⟩ g rx)
 done := by
  rintro F P PI H s i E Q hi ⟨h2,o,rfl,ho⟩ d hs q
  refine ex3_2 h2.tupI fun U n its er e r => ?_
  cases er
  ·refine ex0_1 (hs.dis_one d) fun ho1 fr => ?_
   have e' := r.length
   exact wpAny_pyNext_tuple_end hh (in1_2 o ho1 ho.1 ho.2) (in1_2 _ (hs.fk _ _ e) rfl ⟨_,rfl⟩) (by simp; exact le_of_eq_of_le (id (Eq.symm e')) hi) (fun h' hx => q _ ((hs.lessP d.le).ext fr hx))
 again := by
  rintro F P PI H s i E Q ⟨h2,o,rfl,ho⟩ hs q
  exact wpAny_pyIter_tupleiter (in1_2 o (hs.pk _ _ (Dis.right _ _ (PM.one_self ..))) ho.1 ho.2) q
theorem feed_bytes {b:Array UInt8} {t:Tok} {I:Addr} {tgt:Expr} (hh:A.handled = none) :
  Feed W A tgt (.ref I) (b.toList.map fun c => .int c.toNat) (fun F H PI i => ∃ o,PI = PM.one I o∧o.cls = .type "bytes_iterator"∧o.data = .fields #[.bytes b t,.int (i:Int) 0]) where
 nocell := fun ⟨o,e,ho⟩ q q2 => by subst e; rw [one_get q,ho.2] at q2; cases q2
 mono := fun le h => h
 next := by
  rintro F P PI H s i v E Q hv ⟨o,rfl,ho⟩ d hs q
  rw [List.getElem?_map] at hv
  refine og fun G hG => ?_
  refine ex1_1 (Option.map_eq_some_iff.mp hv) fun c hc xq1 => ?_
  obtain rfl := xq1
  refine ex0_1 (hs.dis_one d) fun ho1 fr => ?_
  refine hG ?_; clear hG G
  refine KBw.next_item (b := b) (t := t) ⟨o,ho1,ho.1,ho.2⟩ (by simpa using hc) (fun h' hit' hs' => ⟨_,rfl,fun E' => ?_⟩)
  refine og fun G hG => ?_
  refine ex1_2 hit' fun o' ho' hc' hd' => ?_; clear hit'
  refine ex0_1 (hs.turn_one d hs'.extBut ho') fun g d' => ?_
  refine hG ?_; clear hG G
  exact go_plain (s := { s with heap := h',toks := s.toks + 1 }) ho' hc' hd' (by decide) (q F _ _ _ (PM.le_refl F) d' ⟨o',rfl,hc',hd'⟩ (g.tok _) .int)
 done := by
  rintro F P PI H s i E Q hi ⟨o,rfl,ho⟩ d hs q
  refine ex0_1 (hs.dis_one d) fun ho1 fr => ?_
  exact KBw.next_end hh (b := b) (t := t) ⟨o,ho1,ho.1,ho.2⟩ (by simp at hi ⊢; assumption) (fun h' hx => q _ ((hs.lessP d.le).ext fr hx))
 again := by
  rintro F P PI H s i E Q ⟨o,rfl,ho⟩ hs q
  exact KBw.pyIter_self (b := b) (t := t) ⟨o,hs.pk _ _ (Dis.right _ _ (PM.one_self ..)),ho.1,ho.2⟩ q
theorem feed_range {lo st:Int} {n:Nat} {I:Addr} {tgt:Expr} (hh:A.handled = none) :
  Feed W A tgt (.ref I) ((List.range n).map fun (k:Nat) => .int (lo + st * (k:Int))) (fun F H PI i => ∃ o,PI = PM.one I o∧o = { cls := .type "range_iterator",data := .fields #[rawInt (lo + st * (i:Int)),rawInt ((n:Int) - i),rawInt st] }) where
 nocell := fun ⟨o,e,ho⟩ q q2 => by subst e; subst ho; rw [one_get q] at q2; cases q2
 mono := fun le h => h
 next := by
  rintro F P PI H s i v E Q hv ⟨o,rfl,rfl⟩ d hs q
  rw [List.getElem?_map] at hv
  refine og fun G hG => ?_
  refine ex1_1 (Option.map_eq_some_iff.mp hv) fun c hc xq2 => ?_
  obtain rfl := xq2
  refine ex1_0 (List.getElem?_eq_some_iff.mp hc) fun hlt e => ?_
  refine hG ?_; clear hG G
  rw [List.length_range] at hlt
  rw [List.getElem_range] at e
  subst e
  refine ex0_1 (hs.dis_one d) fun ho1 fr => ?_
  refine wpAny_pyNext_range_item ho1 (by lia) (fun h' hit' hs' => ⟨_,rfl,fun E' => ?_⟩)
  refine ex0_1 (hs.turn_one d hs'.extBut hit') fun g d' => ?_
  exact go_plain (s := { s with heap := h',toks := s.toks + 1 }) hit' rfl rfl (by decide) (q F _ _ _ (PM.le_refl F) d' ⟨_,rfl,by
   have e1:lo + st * (i:Int) + st = lo + st * ((i + 1:Nat):Int) := by rw [Int.natCast_add,Int.mul_add]; simp; exact Int.add_assoc lo (st * ↑i) st
   have e2:(n:Int) - i - 1 = (n:Int) - ((i + 1:Nat):Int) := by lia
   rw [e1,e2]⟩ (g.tok _) .int)
 done := by
  rintro F P PI H s i E Q hi ⟨o,rfl,rfl⟩ d hs q
  refine ex0_1 (hs.dis_one d) fun ho1 fr => ?_
  exact wpAny_pyNext_range_end hh ho1 (by simp at hi; lia) (fun h' hx => q _ ((hs.lessP d.le).ext fr hx))
 again := by
  rintro F P PI H s i E Q ⟨o,rfl,rfl⟩ hs q
  exact wpAny_pyIter_rangeiter (hs.pk _ _ (Dis.right _ _ (PM.one_self ..))) q
noncomputable def PM.two (a b:Addr) (o p:Obj):PM := fun c => if c = a then some o else if c = b then some p else none
noncomputable abbrev enumO (it:Addr) (i:Int) (old:Value):Obj := { cls := .type "enumerate",dict := none,data := .fields #[.none,.bool false,.ref it,rawInt i,.none,old],slots := #[] }
theorem two_l {a b:Addr} {o p:Obj}:PM.two a b o p a = some o := if_pos rfl
theorem two_r {a b:Addr} {o p:Obj} (ne:a ≠ b):PM.two a b o p b = some p := (if_neg (Ne.symm ne)).trans (if_pos rfl)
theorem two_out {a b c:Addr} {o p:Obj} (h1:c ≠ a) (h2:c ≠ b):PM.two a b o p c = none := (if_neg h1).trans (if_neg h2)
theorem two_set {P:PM} {e I:Addr} {o p:Obj} (h1:P e = none) (h2:P I = none):(P.set I p).set e o = P.un (PM.two e I o p) := by
 funext b
 unfold PM.set PM.un PM.two
 by_cases q1:b = e
 ·rw [if_pos q1,if_pos q1]; rfl
 ·rw [if_neg q1,if_neg q1]
  by_cases q2:b = I
  ·rw [if_pos q2,if_pos q2]; rfl
  ·rw [if_neg q2,if_neg q2]; rfl
theorem ne_some {P:PM} {a b:Addr} {o:Obj} (e:P a = none) (eb:P b = some o):b ≠ a := fun q => by rw [q,e] at eb; cases eb
theorem ne_cell {H:Hp} {a b:Addr} {o:Cell} (e:H a = none) (eb:H b = some o):b ≠ a := fun q => by rw [q,e] at eb; cases eb
theorem two_dis {e I:Addr} {o p:Obj} (fe:Free F P H e) (fI:Free F P H I):Dis P (PM.two e I o p) := fun b ob eb => two_out (ne_some fe.2.1 eb) (ne_some fI.2.1 eb)
/-- an enumerate's turn -/
theorem enum_turn {e I:Addr} {o':Obj} {h' h2:Heap} {tk:Nat} {i:Int} {x y:Value} (hP:HS W F P H s) (fe:Free F P H e) (fI:Free F P H I) (ne:e ≠ I) (le:e < s.heap.objs.size) (lI:I < s.heap.objs.size)
  (hk:∀ b ob,b ≠ e→b ≠ I→s.heap.get? b = some ob→h'.get? b = some ob) (hs2:∀ b,b ≠ e→h2.get? b = h'.get? b) (hT:h'.get? s.heap.objs.size = some { cls := .type "tuple",data := .seq #[y,x] }) (hI':h'.get? I = some o') (hE2:h2.get? e = some (enumO I i x)) :
  F.le (F.set s.heap.objs.size { cls := .type "tuple",data := .seq #[y,x] })∧HS W (F.set s.heap.objs.size { cls := .type "tuple",data := .seq #[y,x] }) (P.un (PM.two e I (enumO I i x) o')) H { s with heap := h2,toks := tk } := by
 have nw := hP.new
 have k:∀ b ob,b ≠ e→b ≠ I→s.heap.get? b = some ob→h2.get? b = some ob := fun b ob n1 n2 g => (hs2 b n1).trans (hk b ob n1 n2 g)
 have hP2:HS W F P H { s with heap := h2,toks := tk } := by
  refine HS.tok (s := { s with heap := h2 }) ?_ _
  refine ⟨hP.base,fun b ob eb => k b ob (ne_some fe.1 eb) (ne_some fI.1 eb) (hP.fk _ _ eb),fun b ob eb => k b ob (ne_some fe.2.1 eb) (ne_some fI.2.1 eb) (hP.pk _ _ eb),fun b c eb => ?_,hP.fp,hP.fh,hP.ph,hP.gens,hP.os⟩
  refine ex1_1 (hP.hk _ _ eb) fun ob hob rb => ?_
  exact (in1_1 ob (k b ob (ne_cell fe.2.2 eb) (ne_cell fI.2.2 eb) hob) rb)
 have hT2:s.heap.objs.size ≠ e := Nat.ne_of_gt le
 have hTI:s.heap.objs.size ≠ I := Nat.ne_of_gt lI
 refine ex0_1 (hP2.toF nw (s := { s with heap := h2,toks := tk }) ((hs2 _ hT2).trans hT)) fun g1 le1 => ?_
 have g2 := g1.toP (a := I) (o := o') ⟨by rw [PM.set_ne _ _ (Ne.symm hTI)]; exact fI.1,fI.2⟩ ((hs2 I (Ne.symm ne)).trans hI')
 have g3 := g2.toP (a := e) (o := enumO I i x) ⟨by rw [PM.set_ne _ _ (Ne.symm hT2)]; exact fe.1,by rw [PM.set_ne _ _ ne]; exact fe.2.1,fe.2.2⟩ hE2
 rw [two_set fe.2.1 fI.2.1] at g3
 exact ⟨le1,g3⟩
abbrev enumJ (lv:V) (a e I:Addr) (xs:List V) (F:PM) (H:Hp) (PI:PM) (i:Nat):Prop := lv = .lst xs∧VR F lv (.ref a)∧e ≠ I∧∃ o old,PI = PM.two e I (enumO I (i:Int) old) o∧listIt a i o
theorem enum_next {a e I:Addr} {es:List Expr} {x1:Nat} {pos:Pos} {xs:List V} {i:Nat} {v:V} {o:Obj} {old:Value} {Q:Value→Shared→Prop} (hv:(xs.zipIdx.map fun p => V.tup [.int p.2,p.1])[i]? = some v)
  (h2:VR F (.lst xs) (.ref a)) (ne:e ≠ I) (ho:listIt a i o) (d:Dis P (PM.two e I (enumO I (i:Int) old) o)) (hs:HS W F (P.un (PM.two e I (enumO I (i:Int) old) o)) H s)
  (q:∀ (F' PI':PM) (s':Shared) (x:Value),F.le F'→Dis P PI'→enumJ (.lst xs) a e I xs F' H PI' (i + 1)→HS W F' (P.un PI') H s'→VR F' v x→Q x s') :
  wpAny (model W.prog W.w) A (pyNext (.ref e)) (fun r s₁ => ∃ x,r = some x∧∀ E',wpAny (model W.prog W.w) A (letOwnedTupleGo (.Tuple es x1 pos) (.ref e) x) (fun U s₂ => Q x s₂) E' s₁) E s := by
 refine ex4_4 h2.lstI fun U lo its n er eF hc hd r => ?_
 cases er
 rw [List.getElem?_map] at hv
 refine ex1_1 (Option.map_eq_some_iff.mp hv) fun p hp xq3 => ?_
 obtain rfl := xq3
 rw [List.getElem?_zipIdx] at hp
 refine og fun G hG => ?_
 refine ex1_1 (Option.map_eq_some_iff.mp hp) fun v hv' xq4 => ?_
 obtain rfl := xq4
 refine ex1_1 (r.get hv') fun x hx rx => ?_
 refine ex0_1 (hs.dis_of d two_l) fun he fe => ?_
 refine ex0_1 (hs.dis_of d (two_r ne)) fun hI fI => ?_
 refine hG ?_; clear hG G
 have hP:HS W F P H s := hs.lessP d.le
 clear d hv hp hs
 refine wpAny_pyNext_enum_item he (in1_2 o hI ho.1 ho.2) (in1_2 _ (hP.fk _ _ eF) hc ⟨_,hd⟩) (by simpa using hx) ne (fun h' hE hL hT hsz hk => (in1_1 _ rfl (fun E' => ?_)))
 refine wpAny_letOwnedTupleGo_enum (s := { s with heap := h',toks := s.toks + 1 }) hE (fun h3 hE2 hs2 => ?_)
 refine og fun G hG => ?_
 refine ex1_2 hL fun o' hI' hc' hd' => ?_; clear hL
 refine ex0_1 (enum_turn (tk := s.toks + 1) hP fe fI ne (Heap.lt_size he) (Heap.lt_size hI) (fun b ob n1 n2 g => hk b ob n1 n2 g) (fun b n => hs2.2 b n) hT hI' hE2) fun le g3 => ?_
 refine hG ?_; clear hG G
 exact q _ _ _ _ le (two_dis fe fI) ⟨rfl,h2.mono le,ne,o',x,rfl,hc',hd'⟩ g3 (.tup (n := 0) (its := [.int (i:Int) s.toks,x]) (PM.set_self ..) (.cons (by rw [Nat.zero_add]; exact .int) (.cons (rx.mono le) .nil)))
theorem enum_done {a e I:Addr} {xs:List V} {i:Nat} {o:Obj} {old:Value} {Q:Option Value→Shared→Prop} (hh:A.handled = none) (hi:xs.length ≤ i)
  (h2:VR F (.lst xs) (.ref a)) (ne:e ≠ I) (ho:listIt a i o) (d:Dis P (PM.two e I (enumO I (i:Int) old) o)) (hs:HS W F (P.un (PM.two e I (enumO I (i:Int) old) o)) H s)
  (q:∀ s',HS W F P H s'→Q none s'):wpAny (model W.prog W.w) A (pyNext (.ref e)) Q E s := by
 refine ex4_4 h2.lstI fun U lo its n er eF hc hd r => ?_
 cases er
 refine ex0_1 (hs.dis_of d two_l) fun he fe => ?_
 refine ex0_1 (hs.dis_of d (two_r ne)) fun hI fI => ?_
 have e3:xs.length = its.size := r.length.trans Array.length_toList
 exact wpAny_pyNext_enum_end hh he (in1_2 o hI ho.1 ho.2) (in1_2 _ (hs.fk _ _ eF) hc ⟨_,hd⟩) (Array.getElem?_eq_none (e3 ▸ hi)) (fun h' hx => q _ ((hs.lessP d.le).ext fI hx))
theorem feed_enum {lv:V} {a e I:Addr} {es:List Expr} {x1:Nat} {pos:Pos} {xs:List V} (hh:A.handled = none) :
  Feed W A (.Tuple es x1 pos) (.ref e) (xs.zipIdx.map fun p => .tup [.int p.2,p.1]) (enumJ lv a e I xs) where
 nocell := fun ⟨h1,h2,ne,o,old,e',ho⟩ q q2 => by
  subst e'
  unfold PM.two at q
  split at q
  ·cases q; cases q2
  ·split at q
   ·cases q; rw [ho.2] at q2; cases q2
   ·cases q
 mono := fun le h => ⟨h.1,h.2.1.mono le,h.2.2⟩
 next := by
  rintro F P PI H s i v E Q hv ⟨rfl,h2,ne,o,old,rfl,ho⟩ d hs q
  exact enum_next hv h2 ne ho d hs q
 done := by
  rintro F P PI H s i E Q hi ⟨rfl,h2,ne,o,old,rfl,ho⟩ d hs q
  rw [List.length_map,List.length_zipIdx] at hi
  exact enum_done hh hi h2 ne ho d hs q
 again := by
  rintro F P PI H s i E Q ⟨h1,h2,ne,o,old,rfl,ho⟩ hs q
  exact wpAny_pyIter_enum (it := I) (i := (i:Int)) (old := old) (hs.pk _ _ (Dis.right _ _ two_l)) q
end
noncomputable def badIds:List String := ["bytearray.__contains__","bytearray.__mod__","bytearray.__rmod__","_struct.pack_into.held","bytearray.find.held"] ++ Builtin.Bytes.decodersThatHold
noncomputable def cln:Code→Bool
 | .builtin id _ => !badIds.contains id
 | _ => true
noncomputable def Cln (Γ:Ctx):Prop := cln Γ.code = true∧∀ x ∈ Γ.below,cln x.1 = true
theorem Cln.enter {Γ:Ctx} (h:Cln Γ) {c:Code} (hc:cln c = true) (hd:Option Value) (p:Pos):Cln (Γ.enter c hd p) :=
 ⟨hc,fun x hx => by
  rcases List.mem_cons.mp (show x ∈ (Γ.code,p) :: Γ.below from hx) with rfl | hx
  ·exact h.1
  ·exact h.2 x hx⟩
theorem Cln.goto {Γ:Ctx} (h:Cln Γ) {c:Code} (hc:cln c = true):Cln (Γ.goto c) := ⟨hc,h.2⟩
noncomputable def wk {α:Type} (M:Model) (A:Around) (t:Sem α) (Q:α→Shared→Prop) (E:Value→Shared→Prop) (s:Shared):Prop :=
 ∀ Γ p,Γ.In A→Cln Γ→Sem.wp M Γ t (fun a U s' => Q a s') (fun e U s' => E e s') p s
noncomputable def kc (M:Model) (A:Around) (c:Code) (R:Result→Shared→Prop) (s:Shared):Prop :=
 ∀ Γ p,Γ.code = c→Γ.Below A→Cln Γ→wpCode M Γ R p s
section
variable {α β:Type} {M:Model} {A:Around} {E:Value→Shared→Prop} {s:Shared}
theorem up {t:Sem α} {Q:α→Shared→Prop} (h:wpAny M A t Q E s):wk M A t Q E s := fun Γ p hΓ U => h Γ p hΓ
theorem codeUp {c:Code} {R:Result→Shared→Prop} (h:codeAny M A c R s):kc M A c R s := fun Γ p hc hΓ U => h Γ p hc hΓ
theorem wk_pure {a:α} {Q:α→Shared→Prop} (h:Q a s):wk M A (pure a) Q E s := up (wpAny_pure h)
theorem wk_mono {t:Sem α} {Q Q':α→Shared→Prop} {E':Value→Shared→Prop} (h:wk M A t Q E s)
  (hQ:∀ a s,Q a s→Q' a s) (hE:∀ e s,E e s→E' e s):wk M A t Q' E' s :=
 fun Γ p hΓ hc => Sem.wp_mono M Γ t (fun a U s => hQ a s) (fun e U s => hE e s) p s (h Γ p hΓ hc)
theorem wk_bind {m:Sem α} {f:α→Sem β} {Q:β→Shared→Prop} (h:wk M A m (fun a s' => wk M A (f a) Q E s') E s) :
  wk M A (m >>= f) Q E s := fun Γ p hΓ hc => by
 rw [Sem.wp_bind']
 exact Sem.wp_mono M Γ m (fun a p' s' h' => h' Γ p' hΓ hc) (fun U U U h' => h') p s (h Γ p hΓ hc)
theorem wk_holding {vs:List Value} {m:Sem α} {Q:α→Shared→Prop} (h:wk M A m Q E s):wk M A (holding vs m) Q E s :=
 fun Γ p hΓ hc => by rw [Sem.wp_holding]; exact h Γ p hΓ hc
theorem wk_standAt {pos:Pos} {Q:Unit→Shared→Prop} (h:Q () s):wk M A (standAt pos) Q E s := up (wpAny_standAt h)
theorem wk_rule {tag:String} {Q:Unit→Shared→Prop} (h:Q () s):wk M A (rule tag) Q E s := up (wpAny_rule h)
theorem wk_point {Q:Unit→Shared→Prop} (h:Q () s):wk M A point Q E s := up (wpAny_point h)
theorem wk_of_eq {t:Sem α} {a:α} {Q:α→Shared→Prop} (h:t = pure a) (hQ:Q a s):wk M A t Q E s := up (wpAny_of_eq h hQ)
theorem wk_onRaise {m:Sem α} {k:Value→Sem Unit} {Q:α→Shared→Prop} (h:wk M A m Q (fun U U => False) s):wk M A (m.onRaise k) Q E s := fun Γ p hΓ hc => by
 rw [Sem.wp_onRaise]
 exact Sem.wp_mono M Γ m (fun U U U h' => h') (fun e p' s' h' => h'.elim) p s (h Γ p hΓ hc)
theorem wk_attempt {m:Sem α} {Q:Except Value α→Shared→Prop} (h:wk M A m (fun a => Q (.ok a)) (fun U U => False) s) :
  wk M A m.attempt Q E s := fun Γ p hΓ hc => by
 rw [Sem.wp_attempt]
 exact Sem.wp_mono M Γ m (fun U U U h' => h') (fun e p' s' h' => h'.elim) p s (h Γ p hΓ hc)
theorem wk_ok {t:Sem α} {Q:α→Shared→Prop} (h:wk M A t Q (fun U U => False) s):wk M A t Q E s := wk_mono h (fun U U q => q) fun U U e => e.elim
theorem kc_mono {c:Code} {R R':Result→Shared→Prop} (h:kc M A c R s) (hR:∀ r s,R r s→R' r s):kc M A c R' s :=
 fun Γ p hc hΓ hl => wpCode_mono hR (h Γ p hc hΓ hl)
theorem nbP:(Option.none:Option Value) ≠ some byPass := fun x => nomatch x
theorem wk_run {c:Code} {h:Option Value} {Q:Flow→Shared→Prop}
  (hc:kc M (A.mark h) c (fun r s' => match r with | .ok f => Q f s' | .error e => E e s') s) (hcl:cln c = true) (hnb:h ≠ some byPass) :
  wk M A (run c h) Q E s :=
 fun Γ p hΓ hl => by rw [Sem.wp_run]; exact hc _ p rfl (hΓ.enter c h p hnb) (hl.enter hcl h p)
theorem wk_runValue {c:Code} {Q:Value→Shared→Prop}
  (hc:kc M A c (fun r s' => match r with | .ok (.ret v) => Q v s' | .ok _ => False | .error e => E e s') s) (hcl:cln c = true) :
  wk M A (runValue c) Q E s := fun Γ p hΓ hl => by rw [Sem.wp_runValue]; exact hc _ p rfl (hΓ.enter c none p (by intro x; cases x)) (hl.enter hcl none p)
theorem wk_call {f:Value} {pos:List Value} {kw:List (Str × Value)} {Q:Value→Shared→Prop}
  (hc:kc M A (.call f ⟨pos,kw⟩) (fun r s' => match r with | .ok (.ret v) => Q v s' | .ok _ => False | .error e => E e s') s) :
  wk M A (call f pos kw) Q E s := wk_runValue hc rfl
theorem wk_runOwn {env:Env} {c:Code} {h:Option Value} {Q:Flow→Shared→Prop}
  (hc:kc M (A.mark h) c (fun r s' => match r with | .ok f => Q f s' | .error e => False) s) (hcl:cln c = true) (hnb:h ≠ some byPass) :
  wk M A (runOwn c env h) Q E s := by
 unfold runOwn
 exact wk_onRaise (wk_run hc hcl hnb)
theorem kc_of_tree {c:Code} {R:Result→Shared→Prop}
  (h:wk M (A.under c) (M.den c) (fun fin s' => match fin with | .done f => R (.ok f) s' | .again c' => (c'.quiet = true∧cln c' = true)∧kc M A c' R s')
   (fun e s' => R (.error e) s') s):kc M A c R s := fun Γ p hc hΓ hl => by
 rw [wpCode_iff_wp,hc]
 refine Sem.wp_mono M Γ _ (fun fin p' s' h' => ?_) (fun U U U h' => h') p s (h Γ p (hc ▸ hΓ.in) hl)
 cases fin with
 | done f => exact h'
 | again c' => exact ⟨h'.1.1,h'.2 (Γ.goto c') p' rfl (hΓ.goto c') (hl.goto h'.1.2)⟩
theorem kc_loop' {c:Code} {R:Result→Shared→Prop} (hq:c.quiet = true) (hcl:cln c = true) (I:Nat→Shared→Prop)
  (turn:∀ n s,I n s→wk M (A.under c) (M.den c)
   (fun fin s' => match fin with
    | .done f => R (.ok f) s'
    | .again c' => (c' = c∧∃ m,m < n∧I m s') ∨ ((c'.quiet = true∧cln c' = true)∧kc M A c' R s')) (fun e s' => R (.error e) s') s)
  (n:Nat) (h:I n s):kc M A c R s := by
 induction n using Nat.strongRecOn generalizing s with
 | ind n ih =>
  refine kc_of_tree (wk_mono (turn n s h) (fun fin s' hf => ?_) fun U U h' => h')
  cases fin with
  | done f => exact hf
  | again c' =>
   rcases hf with ⟨rfl,m,hm,hI⟩ | hf
   ·exact ⟨⟨hq,hcl⟩,ih m hm hI⟩
   ·exact hf
theorem kc_loopQ {c:Code} {R:Result→Shared→Prop} (hq:c.quiet = true) (hcl:cln c = true) (I:Nat→Shared→Prop)
  (turn:∀ n s,I n s→∀ Q':PySem.Fin→Shared→Prop,(∀ f s',R (.ok f) s'→Q' (.done f) s')→(∀ m s',m < n→I m s'→Q' (.again c) s') →
   (∀ c' s',c'.quiet = true→cln c' = true→kc M A c' R s'→Q' (.again c') s')→wk M (A.under c) (M.den c) Q' (fun e s' => R (.error e) s') s)
  (n:Nat) (h:I n s):kc M A c R s :=
 kc_loop' hq hcl I (fun n s hI => turn n s hI _ (fun U U h => h) (fun m U hm h => .inl ⟨rfl,m,hm,h⟩) (fun U U a b k => .inr ⟨⟨a,b⟩,k⟩)) n h
theorem wk_opq {m:Sem α} {Q:α→Shared→Prop} (h:∀ Q':α→Shared→Prop,(∀ x s',Q x s'→Q' x s')→wk M A m Q' E s):wk M A m Q E s := h Q fun U U q => q
theorem wk_bindq {m:Sem α} {f:α→Sem β} {Q:β→Shared→Prop} (h:∀ Q':α→Shared→Prop,(∀ x s',wk M A (f x) Q E s'→Q' x s')→wk M A m Q' E s):wk M A (m >>= f) Q E s :=
 wk_bind (h _ fun U U q => q)
end
section
variable {prog:Program} {w:World} {A:Around} {E:Value→Shared→Prop} {s:Shared} {env:Env}
theorem kc_block {stmts:List Stmt} {R:Result→Shared→Prop}
  (h:wk (model prog w) A (execs stmts env) (fun f s' => R (.ok f) s') (fun U U => False) s):kc (model prog w) A (.block stmts env) R s := by
 refine kc_of_tree ?_
 show wk _ _ (do return Fin.done (← (execs stmts env).onRaise (fun x => do noteFrame x env; theTreesLotGoes x))) _ _ s
 exact wk_bind (wk_onRaise (wk_mono h (fun f s' h' => wk_pure h') fun U U h' => h'))
theorem kc_whileLoop {test:Expr} {body orelse:List Stmt} {R:Result→Shared→Prop} (I:Nat→Shared→Prop)
  (turn:∀ n s,I n s →
   wk (model prog w) A (isTrue test env (eval test env)) (fun b s₂ =>
    if b then wk (model prog w) A (execs body env) (fun f s₃ => match f with
      | .next | .cont => ∃ m,m < n∧I m s₃
      | .brk => R (.ok .next) s₃
      | .ret v => R (.ok (.ret v)) s₃) (fun U U => False) s₂
    else wk (model prog w) A (execs orelse env) (fun f s₃ => R (.ok f) s₃) (fun U U => False) s₂)
    (fun U U => False) s)
  (n:Nat) (h:I n s):kc (model prog w) A (.whileLoop test body orelse env) R s := by
 refine kc_loop' rfl rfl I (fun n s hI => ?_) n h
 show wk _ A ((whileTurn test body orelse env).onRaise (fun x => do noteFrame x env; theTreesLotGoes x)) _ _ s
 refine wk_onRaise ?_
 simp only [whileTurn]
 refine wk_bind (wk_mono (turn n s hI) (fun b s₂ h₂ => ?_) fun U U h' => h')
 cases b with
 | false =>
  simp only [Bool.false_eq_true,if_false] at h₂ ⊢
  exact wk_bind (wk_mono h₂ (fun f s₃ h₃ => wk_pure h₃) fun U U h' => h')
 | true =>
  simp only [if_true] at h₂ ⊢
  refine wk_bind (wk_mono h₂ (fun f s₃ h₃ => ?_) fun U U h' => h')
  cases f with
  | next => exact wk_pure (.inl ⟨rfl,h₃⟩)
  | cont => exact wk_pure (.inl ⟨rfl,h₃⟩)
  | brk => exact wk_pure h₃
  | ret v => exact wk_pure h₃
end
noncomputable def ob {α:Type}:Option α→(α→Bool)→Bool
 | some a,f => f a
 | none,_ => false
theorem ob_inv {α:Type} {o:Option α} {f:α→Bool} (h:ob o f = true):∃ a,f a = true := match o,h with
 | some a,h => (in1_0 a h)
noncomputable def on1 {α:Type}:List α→(α→Bool)→Bool
 | [x],f => f x
 | _,_ => false
theorem i1 {α:Type}:∀ {xs:List α} {f:α→Bool},on1 xs f = true→∃ x,xs = [x]∧f x = true
 | [x],_,h => (in1_1 x rfl h)
 | [],_,h => nomatch h
 | _ :: _ :: _,_,h => nomatch h
noncomputable def onC {α:Type}:List α→(α→List α→Bool)→Bool
 | x :: r,f => f x r
 | [],_ => false
theorem iC {α:Type}:∀ {xs:List α} {f:α→List α→Bool},onC xs f = true→∃ x r,xs = x :: r∧f x r = true
 | x :: r,_,h => (in2_1 x r rfl h)
 | [],_,h => nomatch h
theorem e1 {α:Type} {C:List α→Prop} {xs:List α} {f:α→Bool} (h:on1 xs f = true) (K:∀ x,f x = true→C [x]):C xs := ex1_1 (i1 h) fun x q h => q ▸ K x h
theorem eC {α:Type} {C:List α→Prop} {xs:List α} {f:α→List α→Bool} (h:onC xs f = true) (K:∀ x r,f x r = true→C (x :: r)):C xs := ex2_1 (iC h) fun x r q h => q ▸ K x r h
noncomputable def on0 {α:Type}:List α→Bool
 | [] => true
 | _ => false
theorem i0 {α:Type}:∀ {xs:List α},on0 xs = true→xs = []
 | [],_ => rfl
 | _ :: _,h => nomatch h
theorem a2 {a b:Bool} (h:(a && b) = true):a = true∧b = true := Bool.and_eq_true_iff.mp h
theorem a3 {a b c:Bool} (h:(a && b && c) = true):a = true∧b = true∧c = true := have q := a2 h; have r := a2 q.1; ⟨r.1,r.2,q.2⟩
theorem a4 {a b c d:Bool} (h:(a && b && c && d) = true):a = true∧b = true∧c = true∧d = true := have q := a2 h; have r := a3 q.1; ⟨r.1,r.2.1,r.2.2,q.2⟩
theorem a5 {a b c d e:Bool} (h:(a && b && c && d && e) = true):a = true∧b = true∧c = true∧d = true∧e = true := have q := a2 h; have r := a4 q.1; ⟨r.1,r.2.1,r.2.2.1,r.2.2.2,q.2⟩
theorem a6 {a b c d e f:Bool} (h:(a && b && c && d && e && f) = true):a = true∧b = true∧c = true∧d = true∧e = true∧f = true := have q := a2 h; have r := a5 q.1; ⟨r.1,r.2.1,r.2.2.1,r.2.2.2.1,r.2.2.2.2,q.2⟩
theorem ab2 {a b:Bool} {G:Prop} (h:(a && b) = true) (k:a = true→b = true→G):G := ex0_1 (a2 h) k
theorem ab3 {a b c:Bool} {G:Prop} (h:(a && b && c) = true) (k:a = true→b = true→c = true→G):G := ex0_2 (a3 h) k
theorem ab4 {a b c d:Bool} {G:Prop} (h:(a && b && c && d) = true) (k:a = true→b = true→c = true→d = true→G):G := ex0_3 (a4 h) k
theorem ab5 {a b c d e:Bool} {G:Prop} (h:(a && b && c && d && e) = true) (k:a = true→b = true→c = true→d = true→e = true→G):G := ex0_4 (a5 h) k
theorem ab6 {a b c d e f:Bool} {G:Prop} (h:(a && b && c && d && e && f) = true) (k:a = true→b = true→c = true→d = true→e = true→f = true→G):G := ex0_5 (a6 h) k
theorem nf {a:Bool} (h:(!a) = true):a = false := match a,h with
 | false,_ => rfl
theorem no {p:Prop} (h:false = true):p := nomatch h
noncomputable def onS {α:Type}:Option α→(α→Bool)→Bool := ob
theorem iS {α:Type}:∀ {o:Option α} {f:α→Bool},onS o f = true→∃ a,o = some a∧f a = true
 | some a,_,h => (in1_1 a rfl h)
 | none,_,h => nomatch h
theorem e0 {α:Type} {C:List α→Prop} {xs:List α} (h:on0 xs = true) (K:C []):C xs := i0 h ▸ K
theorem eS {α:Type} {C:Option α→Prop} {o:Option α} {f:α→Bool} (h:onS o f = true) (K:∀ a,f a = true→C (some a)):C o := match o,h with
 | some a,h => K a h
theorem eN {α:Type} {C:Option α→Prop} {o:Option α} (h:o.isNone = true) (K:C none):C o := Option.isNone_iff_eq_none.mp h ▸ K
theorem eD {α:Type} {C:α→Prop} {x a:α} {i:Decidable (x = a)} (h:decide (x = a) = true) (K:C a):C x := of_decide_eq_true h ▸ K
theorem nope {b:Bool} {p:Prop} (e:b = false) (h:b = true):p := Bool.noConfusion (e.symm.trans h)
noncomputable def oConstant (e:Expr) (f:Const→Nat→Pos→Bool):Bool := if h:e.ctorIdx = 19 then @Expr.Constant.elim (fun U => Bool) e h f else false
theorem kConstant {C:Expr→Prop} {e:Expr} {f:Const→Nat→Pos→Bool} (h:oConstant e f = true) (K:∀ v k p,f v k p = true→C (Expr.Constant v k p)):C e :=
 if q:e.ctorIdx = 19 then @Expr.Constant.elim (fun e => oConstant e f = true→C e) e q (fun v k p h => K v k p h) h else nope (dif_neg q) h
noncomputable def oName (e:Expr) (f:Str→Pos→Bool):Bool := if h:e.ctorIdx = 23 then @Expr.Name.elim (fun U => Bool) e h f else false
theorem kName {C:Expr→Prop} {e:Expr} {f:Str→Pos→Bool} (h:oName e f = true) (K:∀ x p,f x p = true→C (Expr.Name x p)):C e :=
 if q:e.ctorIdx = 23 then @Expr.Name.elim (fun e => oName e f = true→C e) e q (fun x p h => K x p h) h else nope (dif_neg q) h
noncomputable def oBinOp (e:Expr) (f:Expr→Operator→Expr→Pos→Bool):Bool := if h:e.ctorIdx = 2 then @Expr.BinOp.elim (fun U => Bool) e h f else false
theorem kBinOp {C:Expr→Prop} {e:Expr} {f:Expr→Operator→Expr→Pos→Bool} (h:oBinOp e f = true) (K:∀ l o r p,f l o r p = true→C (Expr.BinOp l o r p)):C e :=
 if q:e.ctorIdx = 2 then @Expr.BinOp.elim (fun e => oBinOp e f = true→C e) e q (fun l o r p h => K l o r p h) h else nope (dif_neg q) h
noncomputable def oUnaryOp (e:Expr) (f:UnaryOp→Expr→Pos→Bool):Bool := if h:e.ctorIdx = 3 then @Expr.UnaryOp.elim (fun U => Bool) e h f else false
theorem kUnaryOp {C:Expr→Prop} {e:Expr} {f:UnaryOp→Expr→Pos→Bool} (h:oUnaryOp e f = true) (K:∀ o x p,f o x p = true→C (Expr.UnaryOp o x p)):C e :=
 if q:e.ctorIdx = 3 then @Expr.UnaryOp.elim (fun e => oUnaryOp e f = true→C e) e q (fun o x p h => K o x p h) h else nope (dif_neg q) h
noncomputable def oCompare (e:Expr) (f:Expr→(List CmpOp)→(List Expr)→Pos→Bool):Bool := if h:e.ctorIdx = 15 then @Expr.Compare.elim (fun U => Bool) e h f else false
theorem kCompare {C:Expr→Prop} {e:Expr} {f:Expr→(List CmpOp)→(List Expr)→Pos→Bool} (h:oCompare e f = true) (K:∀ l os rs p,f l os rs p = true→C (Expr.Compare l os rs p)):C e :=
 if q:e.ctorIdx = 15 then @Expr.Compare.elim (fun e => oCompare e f = true→C e) e q (fun l os rs p h => K l os rs p h) h else nope (dif_neg q) h
noncomputable def oBoolOp (e:Expr) (f:BoolOp→(List Expr)→Pos→Bool):Bool := if h:e.ctorIdx = 0 then @Expr.BoolOp.elim (fun U => Bool) e h f else false
theorem kBoolOp {C:Expr→Prop} {e:Expr} {f:BoolOp→(List Expr)→Pos→Bool} (h:oBoolOp e f = true) (K:∀ o es p,f o es p = true→C (Expr.BoolOp o es p)):C e :=
 if q:e.ctorIdx = 0 then @Expr.BoolOp.elim (fun e => oBoolOp e f = true→C e) e q (fun o es p h => K o es p h) h else nope (dif_neg q) h
noncomputable def oIfExp (e:Expr) (f:Expr→Expr→Expr→Pos→Bool):Bool := if h:e.ctorIdx = 5 then @Expr.IfExp.elim (fun U => Bool) e h f else false
theorem kIfExp {C:Expr→Prop} {e:Expr} {f:Expr→Expr→Expr→Pos→Bool} (h:oIfExp e f = true) (K:∀ x y z p,f x y z p = true→C (Expr.IfExp x y z p)):C e :=
 if q:e.ctorIdx = 5 then @Expr.IfExp.elim (fun e => oIfExp e f = true→C e) e q (fun x y z p h => K x y z p h) h else nope (dif_neg q) h
noncomputable def oTuple (e:Expr) (f:(List Expr)→Nat→Pos→Bool):Bool := if h:e.ctorIdx = 25 then @Expr.Tuple.elim (fun U => Bool) e h f else false
theorem kTuple {C:Expr→Prop} {e:Expr} {f:(List Expr)→Nat→Pos→Bool} (h:oTuple e f = true) (K:∀ xs k p,f xs k p = true→C (Expr.Tuple xs k p)):C e :=
 if q:e.ctorIdx = 25 then @Expr.Tuple.elim (fun e => oTuple e f = true→C e) e q (fun xs k p h => K xs k p h) h else nope (dif_neg q) h
noncomputable def oList (e:Expr) (f:(List Expr)→Pos→Bool):Bool := if h:e.ctorIdx = 24 then @Expr.List.elim (fun U => Bool) e h f else false
theorem kList {C:Expr→Prop} {e:Expr} {f:(List Expr)→Pos→Bool} (h:oList e f = true) (K:∀ xs p,f xs p = true→C (Expr.List xs p)):C e :=
 if q:e.ctorIdx = 24 then @Expr.List.elim (fun e => oList e f = true→C e) e q (fun xs p h => K xs p h) h else nope (dif_neg q) h
noncomputable def oDict (e:Expr) (f:(List (Option Expr))→(List Expr)→Pos→Bool):Bool := if h:e.ctorIdx = 6 then @Expr.Dict.elim (fun U => Bool) e h f else false
theorem kDict {C:Expr→Prop} {e:Expr} {f:(List (Option Expr))→(List Expr)→Pos→Bool} (h:oDict e f = true) (K:∀ ks vs p,f ks vs p = true→C (Expr.Dict ks vs p)):C e :=
 if q:e.ctorIdx = 6 then @Expr.Dict.elim (fun e => oDict e f = true→C e) e q (fun ks vs p h => K ks vs p h) h else nope (dif_neg q) h
noncomputable def oSubscript (e:Expr) (f:Expr→Expr→Pos→Bool):Bool := if h:e.ctorIdx = 21 then @Expr.Subscript.elim (fun U => Bool) e h f else false
theorem kSubscript {C:Expr→Prop} {e:Expr} {f:Expr→Expr→Pos→Bool} (h:oSubscript e f = true) (K:∀ x y p,f x y p = true→C (Expr.Subscript x y p)):C e :=
 if q:e.ctorIdx = 21 then @Expr.Subscript.elim (fun e => oSubscript e f = true→C e) e q (fun x y p h => K x y p h) h else nope (dif_neg q) h
noncomputable def oSlice (e:Expr) (f:(Option Expr)→(Option Expr)→(Option Expr)→Pos→Bool):Bool := if h:e.ctorIdx = 26 then @Expr.Slice.elim (fun U => Bool) e h f else false
theorem kSlice {C:Expr→Prop} {e:Expr} {f:(Option Expr)→(Option Expr)→(Option Expr)→Pos→Bool} (h:oSlice e f = true) (K:∀ l u s p,f l u s p = true→C (Expr.Slice l u s p)):C e :=
 if q:e.ctorIdx = 26 then @Expr.Slice.elim (fun e => oSlice e f = true→C e) e q (fun l u s p h => K l u s p h) h else nope (dif_neg q) h
noncomputable def oAttribute (e:Expr) (f:Expr→Str→Pos→Bool):Bool := if h:e.ctorIdx = 20 then @Expr.Attribute.elim (fun U => Bool) e h f else false
theorem kAttribute {C:Expr→Prop} {e:Expr} {f:Expr→Str→Pos→Bool} (h:oAttribute e f = true) (K:∀ x s p,f x s p = true→C (Expr.Attribute x s p)):C e :=
 if q:e.ctorIdx = 20 then @Expr.Attribute.elim (fun e => oAttribute e f = true→C e) e q (fun x s p h => K x s p h) h else nope (dif_neg q) h
noncomputable def oCall (e:Expr) (f:Expr→(List Expr)→(List Keyword)→Pos→Bool):Bool := if h:e.ctorIdx = 16 then @Expr.Call.elim (fun U => Bool) e h f else false
theorem kCall {C:Expr→Prop} {e:Expr} {f:Expr→(List Expr)→(List Keyword)→Pos→Bool} (h:oCall e f = true) (K:∀ g xs ks p,f g xs ks p = true→C (Expr.Call g xs ks p)):C e :=
 if q:e.ctorIdx = 16 then @Expr.Call.elim (fun e => oCall e f = true→C e) e q (fun g xs ks p h => K g xs ks p h) h else nope (dif_neg q) h
noncomputable def oListComp (e:Expr) (f:Expr→(List Comprehension)→Scope→Pos→Bool):Bool := if h:e.ctorIdx = 8 then @Expr.ListComp.elim (fun U => Bool) e h f else false
theorem kListComp {C:Expr→Prop} {e:Expr} {f:Expr→(List Comprehension)→Scope→Pos→Bool} (h:oListComp e f = true) (K:∀ x gs sc p,f x gs sc p = true→C (Expr.ListComp x gs sc p)):C e :=
 if q:e.ctorIdx = 8 then @Expr.ListComp.elim (fun e => oListComp e f = true→C e) e q (fun x gs sc p h => K x gs sc p h) h else nope (dif_neg q) h
noncomputable def oKint (e:Const) (f:Int→Bool):Bool := if h:e.ctorIdx = 2 then @Const.int.elim (fun U => Bool) e h f else false
theorem kKint {C:Const→Prop} {e:Const} {f:Int→Bool} (h:oKint e f = true) (K:∀ j,f j = true→C (Const.int j)):C e :=
 if q:e.ctorIdx = 2 then @Const.int.elim (fun e => oKint e f = true→C e) e q (fun j h => K j h) h else nope (dif_neg q) h
noncomputable def oKnone (e:Const) (f:Bool):Bool := if h:e.ctorIdx = 0 then @Const.none.elim (fun U => Bool) e h f else false
theorem kKnone {C:Const→Prop} {e:Const} {f:Bool} (h:oKnone e f = true) (K:f = true→C Const.none):C e :=
 if q:e.ctorIdx = 0 then @Const.none.elim (fun e => oKnone e f = true→C e) e q (fun h => K h) h else nope (dif_neg q) h
noncomputable def oKbool (e:Const) (f:Bool→Bool):Bool := if h:e.ctorIdx = 1 then @Const.bool.elim (fun U => Bool) e h f else false
theorem kKbool {C:Const→Prop} {e:Const} {f:Bool→Bool} (h:oKbool e f = true) (K:∀ c,f c = true→C (Const.bool c)):C e :=
 if q:e.ctorIdx = 1 then @Const.bool.elim (fun e => oKbool e f = true→C e) e q (fun c h => K c h) h else nope (dif_neg q) h
noncomputable def oKstr (e:Const) (f:Str→Bool):Bool := if h:e.ctorIdx = 5 then @Const.str.elim (fun U => Bool) e h f else false
theorem kKstr {C:Const→Prop} {e:Const} {f:Str→Bool} (h:oKstr e f = true) (K:∀ s,f s = true→C (Const.str s)):C e :=
 if q:e.ctorIdx = 5 then @Const.str.elim (fun e => oKstr e f = true→C e) e q (fun s h => K s h) h else nope (dif_neg q) h
noncomputable def oAssign (e:Stmt) (f:(List Expr)→Expr→Pos→Bool):Bool := if h:e.ctorIdx = 5 then @Stmt.Assign.elim (fun U => Bool) e h f else false
theorem kAssign {C:Stmt→Prop} {e:Stmt} {f:(List Expr)→Expr→Pos→Bool} (h:oAssign e f = true) (K:∀ ts v p,f ts v p = true→C (Stmt.Assign ts v p)):C e :=
 if q:e.ctorIdx = 5 then @Stmt.Assign.elim (fun e => oAssign e f = true→C e) e q (fun ts v p h => K ts v p h) h else nope (dif_neg q) h
noncomputable def oExprS (e:Stmt) (f:Expr→Pos→Bool):Bool := if h:e.ctorIdx = 24 then @Stmt.Expr.elim (fun U => Bool) e h f else false
theorem kExprS {C:Stmt→Prop} {e:Stmt} {f:Expr→Pos→Bool} (h:oExprS e f = true) (K:∀ v p,f v p = true→C (Stmt.Expr v p)):C e :=
 if q:e.ctorIdx = 24 then @Stmt.Expr.elim (fun e => oExprS e f = true→C e) e q (fun v p h => K v p h) h else nope (dif_neg q) h
noncomputable def oReturn (e:Stmt) (f:(Option Expr)→Pos→Bool):Bool := if h:e.ctorIdx = 3 then @Stmt.Return.elim (fun U => Bool) e h f else false
theorem kReturn {C:Stmt→Prop} {e:Stmt} {f:(Option Expr)→Pos→Bool} (h:oReturn e f = true) (K:∀ o p,f o p = true→C (Stmt.Return o p)):C e :=
 if q:e.ctorIdx = 3 then @Stmt.Return.elim (fun e => oReturn e f = true→C e) e q (fun o p h => K o p h) h else nope (dif_neg q) h
noncomputable def oIf (e:Stmt) (f:Expr→(List Stmt)→(List Stmt)→Pos→Bool):Bool := if h:e.ctorIdx = 12 then @Stmt.If.elim (fun U => Bool) e h f else false
theorem kIf {C:Stmt→Prop} {e:Stmt} {f:Expr→(List Stmt)→(List Stmt)→Pos→Bool} (h:oIf e f = true) (K:∀ x a b p,f x a b p = true→C (Stmt.If x a b p)):C e :=
 if q:e.ctorIdx = 12 then @Stmt.If.elim (fun e => oIf e f = true→C e) e q (fun x a b p h => K x a b p h) h else nope (dif_neg q) h
noncomputable def oWhile (e:Stmt) (f:Expr→(List Stmt)→(List Stmt)→Pos→Bool):Bool := if h:e.ctorIdx = 11 then @Stmt.While.elim (fun U => Bool) e h f else false
theorem kWhile {C:Stmt→Prop} {e:Stmt} {f:Expr→(List Stmt)→(List Stmt)→Pos→Bool} (h:oWhile e f = true) (K:∀ x a b p,f x a b p = true→C (Stmt.While x a b p)):C e :=
 if q:e.ctorIdx = 11 then @Stmt.While.elim (fun e => oWhile e f = true→C e) e q (fun x a b p h => K x a b p h) h else nope (dif_neg q) h
noncomputable def oFor (e:Stmt) (f:Expr→Expr→(List Stmt)→(List Stmt)→Pos→Bool):Bool := if h:e.ctorIdx = 9 then @Stmt.For.elim (fun U => Bool) e h f else false
theorem kFor {C:Stmt→Prop} {e:Stmt} {f:Expr→Expr→(List Stmt)→(List Stmt)→Pos→Bool} (h:oFor e f = true) (K:∀ t i a b p,f t i a b p = true→C (Stmt.For t i a b p)):C e :=
 if q:e.ctorIdx = 9 then @Stmt.For.elim (fun e => oFor e f = true→C e) e q (fun t i a b p h => K t i a b p h) h else nope (dif_neg q) h
noncomputable def onInt (e:Expr) (f:Int→Bool):Bool := oConstant e fun v U U => oKint v f
theorem eInt {C:Expr→Prop} {e:Expr} {f:Int→Bool} (h:onInt e f = true) (K:∀ j k p,f j = true→C (.Constant (.int j) k p)):C e :=
 kConstant h fun v k p q => kKint (C := fun v => C (.Constant v k p)) q fun j q => K j k p q
noncomputable def onNone (e:Expr) (f:Bool):Bool := oConstant e fun v U U => oKnone v f
theorem eNone {C:Expr→Prop} {e:Expr} {f:Bool} (h:onNone e f = true) (K:∀ k p,f = true→C (.Constant .none k p)):C e :=
 kConstant h fun v k p q => kKnone (C := fun v => C (.Constant v k p)) q fun q => K k p q
noncomputable def onBool (e:Expr) (f:Bool→Bool):Bool := oConstant e fun v U U => oKbool v f
theorem eBool {C:Expr→Prop} {e:Expr} {f:Bool→Bool} (h:onBool e f = true) (K:∀ c k p,f c = true→C (.Constant (.bool c) k p)):C e :=
 kConstant h fun v k p q => kKbool (C := fun v => C (.Constant v k p)) q fun j q => K j k p q
noncomputable def onStr (e:Expr) (f:Str→Bool):Bool := oConstant e fun v U U => oKstr v f
theorem eStr {C:Expr→Prop} {e:Expr} {f:Str→Bool} (h:onStr e f = true) (K:∀ s k p,f s = true→C (.Constant (.str s) k p)):C e :=
 kConstant h fun v k p q => kKstr (C := fun v => C (.Constant v k p)) q fun j q => K j k p q
noncomputable def onUSub (e:Expr) (f:Expr→Bool):Bool := oUnaryOp e fun o x U => decide (o = .USub) && f x
theorem eUSub {C:Expr→Prop} {e:Expr} {f:Expr→Bool} (h:onUSub e f = true) (K:∀ x p,f x = true→C (.UnaryOp .USub x p)):C e :=
 kUnaryOp h fun o x p q => ab2 q fun d q => eD (C := fun o => C (.UnaryOp o x p)) d (K x p q)
noncomputable def onNot (e:Expr) (f:Expr→Bool):Bool := oUnaryOp e fun o x U => decide (o = .Not) && f x
theorem eNot {C:Expr→Prop} {e:Expr} {f:Expr→Bool} (h:onNot e f = true) (K:∀ x p,f x = true→C (.UnaryOp .Not x p)):C e :=
 kUnaryOp h fun o x p q => ab2 q fun d q => eD (C := fun o => C (.UnaryOp o x p)) d (K x p q)
noncomputable def onCmp (e:Expr) (f:Expr→CmpOp→Expr→Bool):Bool := oCompare e fun l os rs U => on1 os fun o => on1 rs fun r => f l o r
theorem eCmp {C:Expr→Prop} {e:Expr} {f:Expr→CmpOp→Expr→Bool} (h:onCmp e f = true) (K:∀ l o r p,f l o r = true→C (.Compare l [o] [r] p)):C e :=
 kCompare h fun l os rs p q => e1 (C := fun os => C (.Compare l os rs p)) q fun o q => e1 (C := fun rs => C (.Compare l [o] rs p)) q fun r q => K l o r p q
noncomputable def onCmp2 (e:Expr) (f:Expr→CmpOp→CmpOp→Expr→Expr→Bool):Bool := oCompare e fun l os rs U => onC os fun o os => on1 os fun o2 => onC rs fun x rs => on1 rs fun y => f l o o2 x y
theorem eCmp2 {C:Expr→Prop} {e:Expr} {f:Expr→CmpOp→CmpOp→Expr→Expr→Bool} (h:onCmp2 e f = true) (K:∀ l o o2 x y p,f l o o2 x y = true→C (.Compare l [o,o2] [x,y] p)):C e :=
 kCompare h fun l os rs p q => eC (C := fun os => C (.Compare l os rs p)) q fun o os q => e1 (C := fun os => C (.Compare l (o :: os) rs p)) q fun o2 q => eC (C := fun rs => C (.Compare l [o,o2] rs p)) q fun x rs q => e1 (C := fun rs => C (.Compare l [o,o2] (x :: rs) p)) q fun y q => K l o o2 x y p q
noncomputable def onAnd (e:Expr) (f:List Expr→Bool):Bool := oBoolOp e fun o es U => decide (o = .And) && f es
theorem eAnd {C:Expr→Prop} {e:Expr} {f:List Expr→Bool} (h:onAnd e f = true) (K:∀ es p,f es = true→C (.BoolOp .And es p)):C e :=
 kBoolOp h fun o es p q => ab2 q fun d q => eD (C := fun o => C (.BoolOp o es p)) d (K es p q)
noncomputable def onOr (e:Expr) (f:List Expr→Bool):Bool := oBoolOp e fun o es U => decide (o = .Or) && f es
theorem eOr {C:Expr→Prop} {e:Expr} {f:List Expr→Bool} (h:onOr e f = true) (K:∀ es p,f es = true→C (.BoolOp .Or es p)):C e :=
 kBoolOp h fun o es p q => ab2 q fun d q => eD (C := fun o => C (.BoolOp o es p)) d (K es p q)
noncomputable def onDict0 (e:Expr) (f:Bool):Bool := oDict e fun ks vs U => on0 ks && on0 vs && f
theorem eDict0 {C:Expr→Prop} {e:Expr} {f:Bool} (h:onDict0 e f = true) (K:∀ p,f = true→C (.Dict [] [] p)):C e :=
 kDict h fun ks vs p q => ab3 q fun a b q => e0 (C := fun ks => C (.Dict ks vs p)) a (e0 (C := fun vs => C (.Dict [] vs p)) b (K p q))
noncomputable def onDict2 (e:Expr) (f:Expr→Expr→Expr→Expr→Bool):Bool := oDict e fun ks vs U => onC ks fun a ks => on1 ks fun b => onS a fun k => onS b fun l => onC vs fun x vs => on1 vs fun y => f k l x y
theorem eDict2 {C:Expr→Prop} {e:Expr} {f:Expr→Expr→Expr→Expr→Bool} (h:onDict2 e f = true) (K:∀ k l x y p,f k l x y = true→C (.Dict [some k,some l] [x,y] p)):C e :=
 kDict h fun ks vs p q => eC (C := fun ks => C (.Dict ks vs p)) q fun a ks q => e1 (C := fun ks => C (.Dict (a :: ks) vs p)) q fun b q => eS (C := fun a => C (.Dict [a,b] vs p)) q fun k q => eS (C := fun b => C (.Dict [some k,b] vs p)) q fun l q => eC (C := fun vs => C (.Dict [some k,some l] vs p)) q fun x vs q => e1 (C := fun vs => C (.Dict [some k,some l] (x :: vs) p)) q fun y q => K k l x y p q
noncomputable def onSlice (e:Expr) (f:Option Expr→Option Expr→Bool):Bool := oSlice e fun l u s U => s.isNone && f l u
theorem eSlice {C:Expr→Prop} {e:Expr} {f:Option Expr→Option Expr→Bool} (h:onSlice e f = true) (K:∀ l u p,f l u = true→C (.Slice l u none p)):C e :=
 kSlice h fun l u s p q => ab2 q fun a q => eN (C := fun s => C (.Slice l u s p)) a (K l u p q)
noncomputable def onCall (e:Expr) (f:Expr→List Expr→Pos→Bool):Bool := oCall e fun g xs ks p => on0 ks && f g xs p
theorem eCall {C:Expr→Prop} {e:Expr} {f:Expr→List Expr→Pos→Bool} (h:onCall e f = true) (K:∀ g xs p,f g xs p = true→C (.Call g xs [] p)):C e :=
 kCall h fun g xs ks p q => ab2 q fun a q => e0 (C := fun ks => C (.Call g xs ks p)) a (K g xs p q)
noncomputable def onGen (e:Comprehension) (f:Expr→Expr→List Expr→Bool):Bool := decide (e.is_async = 0) && f e.target e.iter e.ifs
theorem eGen {C:Comprehension→Prop} {e:Comprehension} {f:Expr→Expr→List Expr→Bool} (h:onGen e f = true) (K:∀ t i fs,f t i fs = true→C (⟨t,i,fs,0⟩)):C e := by
 cases e
 exact ab2 h fun a q => eD (C := fun n => C ⟨_,_,_,n⟩) a (K _ _ _ q)
noncomputable def onName (e:Expr) (f:Str→Pos→Bool):Bool := oName e fun x p => f x p
theorem eName {C:Expr→Prop} {e:Expr} {f:Str→Pos→Bool} (h:onName e f = true) (K:∀ x p,f x p = true→C (.Name x p)):C e :=
 kName h K
noncomputable def onBin (e:Expr) (f:Expr→Operator→Expr→Bool):Bool := oBinOp e fun l o r U => f l o r
theorem eBin {C:Expr→Prop} {e:Expr} {f:Expr→Operator→Expr→Bool} (h:onBin e f = true) (K:∀ l o r p,f l o r = true→C (.BinOp l o r p)):C e :=
 kBinOp h K
noncomputable def onIf (e:Expr) (f:Expr→Expr→Expr→Bool):Bool := oIfExp e fun x y z U => f x y z
theorem eIf {C:Expr→Prop} {e:Expr} {f:Expr→Expr→Expr→Bool} (h:onIf e f = true) (K:∀ x y z p,f x y z = true→C (.IfExp x y z p)):C e :=
 kIfExp h K
noncomputable def onTup (e:Expr) (f:(List Expr)→Bool):Bool := oTuple e fun xs U U => f xs
theorem eTup {C:Expr→Prop} {e:Expr} {f:(List Expr)→Bool} (h:onTup e f = true) (K:∀ xs k p,f xs = true→C (.Tuple xs k p)):C e :=
 kTuple h K
noncomputable def onList (e:Expr) (f:(List Expr)→Bool):Bool := oList e fun xs U => f xs
theorem eList {C:Expr→Prop} {e:Expr} {f:(List Expr)→Bool} (h:onList e f = true) (K:∀ xs p,f xs = true→C (.List xs p)):C e :=
 kList h K
noncomputable def onSub (e:Expr) (f:Expr→Expr→Bool):Bool := oSubscript e fun x y U => f x y
theorem eSub {C:Expr→Prop} {e:Expr} {f:Expr→Expr→Bool} (h:onSub e f = true) (K:∀ x y p,f x y = true→C (.Subscript x y p)):C e :=
 kSubscript h K
noncomputable def onAttr (e:Expr) (f:Expr→Str→Pos→Bool):Bool := oAttribute e fun x s p => f x s p
theorem eAttr {C:Expr→Prop} {e:Expr} {f:Expr→Str→Pos→Bool} (h:onAttr e f = true) (K:∀ x s p,f x s p = true→C (.Attribute x s p)):C e :=
 kAttribute h K
noncomputable def onComp (e:Expr) (f:Expr→(List Comprehension)→Scope→Pos→Bool):Bool := oListComp e fun x gs sc p => f x gs sc p
theorem eComp {C:Expr→Prop} {e:Expr} {f:Expr→(List Comprehension)→Scope→Pos→Bool} (h:onComp e f = true) (K:∀ x gs sc p,f x gs sc p = true→C (.ListComp x gs sc p)):C e :=
 kListComp h K
noncomputable def onAsg (e:Stmt) (f:Expr→Expr→Bool):Bool := oAssign e fun ts v U => on1 ts fun t => f t v
theorem eAsg {C:Stmt→Prop} {e:Stmt} {f:Expr→Expr→Bool} (h:onAsg e f = true) (K:∀ t v p,f t v = true→C (.Assign [t] v p)):C e :=
 kAssign h fun ts v p q => e1 (C := fun ts => C (.Assign ts v p)) q fun t q => K t v p q
noncomputable def onRet (e:Stmt) (f:Expr→Bool):Bool := oReturn e fun o U => onS o f
theorem eRet {C:Stmt→Prop} {e:Stmt} {f:Expr→Bool} (h:onRet e f = true) (K:∀ v p,f v = true→C (.Return (some v) p)):C e :=
 kReturn h fun o p q => eS (C := fun o => C (.Return o p)) q fun v q => K v p q
noncomputable def onWhl (e:Stmt) (f:Expr→List Stmt→Bool):Bool := oWhile e fun x a b U => on0 b && f x a
theorem eWhl {C:Stmt→Prop} {e:Stmt} {f:Expr→List Stmt→Bool} (h:onWhl e f = true) (K:∀ x a p,f x a = true→C (.While x a [] p)):C e :=
 kWhile h fun x a b p q => ab2 q fun c q => e0 (C := fun b => C (.While x a b p)) c (K x a p q)
noncomputable def onFor (e:Stmt) (f:Expr→Expr→List Stmt→Bool):Bool := oFor e fun t i a b U => on0 b && f t i a
theorem eFor {C:Stmt→Prop} {e:Stmt} {f:Expr→Expr→List Stmt→Bool} (h:onFor e f = true) (K:∀ t i a p,f t i a = true→C (.For t i a [] p)):C e :=
 kFor h fun t i a b p q => ab2 q fun c q => e0 (C := fun b => C (.For t i a b p)) c (K t i a p q)
noncomputable def onExpr (e:Stmt) (f:Expr→Bool):Bool := oExprS e fun v U => f v
theorem eExpr {C:Stmt→Prop} {e:Stmt} {f:Expr→Bool} (h:onExpr e f = true) (K:∀ v p,f v = true→C (.Expr v p)):C e :=
 kExprS h K
noncomputable def onIfS (e:Stmt) (f:Expr→(List Stmt)→(List Stmt)→Bool):Bool := oIf e fun x a b U => f x a b
theorem eIfS {C:Stmt→Prop} {e:Stmt} {f:Expr→(List Stmt)→(List Stmt)→Bool} (h:onIfS e f = true) (K:∀ x a b p,f x a b = true→C (.If x a b p)):C e :=
 kIf h K
theorem iName {e:Expr} {f:Str→Pos→Bool} (h:onName e f = true):∃ x p,e = .Name x p∧f x p = true := eName (C := fun e => ∃ x p,e = .Name x p∧f x p = true) h fun x p q => (in2_1 x p rfl q)
theorem iTup {e:Expr} {f:List Expr→Bool} (h:onTup e f = true):∃ xs k p,e = .Tuple xs k p∧f xs = true := eTup (C := fun e => ∃ xs k p,e = .Tuple xs k p∧f xs = true) h fun xs k p q => (in3_1 xs k p rfl q)
theorem iComp {e:Expr} {f:Expr→List Comprehension→Scope→Pos→Bool} (h:onComp e f = true):∃ x gs sc p,e = .ListComp x gs sc p∧f x gs sc p = true := eComp (C := fun e => ∃ x gs sc p,e = .ListComp x gs sc p∧f x gs sc p = true) h fun x gs sc p q => (in4_1 x gs sc p rfl q)
noncomputable def okTs (names:List (Str × Bool)):List Nat→List Expr→Bool
 | [],es => on0 es
 | i :: r,es => onC es fun e es => onName e fun x U => decide (names[i]? = some (x,false)) && okTs names r es
noncomputable def okT (names:List (Str × Bool)) (tg:Tg) (e:Expr):Bool := match tg with
 | .one i => onName e fun x U => decide (names[i]? = some (x,false))
 | .many is => onTup e fun es => okTs names is es
theorem okT_one {names:List (Str × Bool)} {i:Nat} {e:Expr} (h:okT names (.one i) e = true):∃ x p,e = .Name x p∧names[i]? = some (x,false) :=
 ex2_1 (iName h) fun x p q h => (in2_1 x p q (of_decide_eq_true h))
theorem okT_many {names:List (Str × Bool)} {is:List Nat} {e:Expr} (h:okT names (.many is) e = true):∃ es k p,e = .Tuple es k p∧okTs names is es = true := iTup h
theorem okT_mk {names:List (Str × Bool)} {is:List Nat} {es:List Expr} {k:Nat} {p:Pos} (h:okTs names is es = true):okT names (.many is) (.Tuple es k p) = true := h
set_option tactic.hygienic true in
theorem bindT_many {is:List Nat} {v:V} {l l':Loc} (h:bindT (.many is) v l = some l'):∃ xs,v = .tup xs∧is.length = xs.length∧l' = (is.zip xs).foldl (fun l p => l.set p.1 (some p.2)) l := by
 cases v <;> first | cases h | skip
 rename_i xs
 have h:(if is.length = xs.length then some ((is.zip xs).foldl (fun l p => l.set p.1 (some p.2)) l) else none) = some l' := by rw [← bindM_eq]; exact h
 by_cases hl:is.length = xs.length
 ·rw [if_pos hl] at h
  cases h
  exact (in1_2 xs rfl hl rfl)
 ·rw [if_neg hl] at h; cases h
section
variable {W:Wd} {F P PL PI:PM} {H:Hp} {s:Shared} {A:Around} {E:Value→Shared→Prop} {fm:Fm} {l:Loc} {m:Str→Option Value}
theorem okTs_cons {names:List (Str × Bool)} {i:Nat} {r:List Nat} {e:Expr} {es:List Expr} (h:okTs names (i :: r) (e :: es) = true):∃ x p,e = .Name x p∧names[i]? = some (x,false)∧okTs names r es = true :=
 have h:(onName e fun x U => decide (names[i]? = some (x,false)) && okTs names r es) = true := h
 ex2_1 (iName h) fun x p q h => (in2_2 x p q (of_decide_eq_true (a2 h).1) ((a2 h).2))
theorem assignEach_names {names:List (Str × Bool)} {env:Env} {es:List Expr}:∀ {is:List Nat},okTs names is es = true→(assignEach es env).length = is.length∧(assignEach es env).findIdx? (·.1) = none := by
 induction es with
 | nil =>
  intro is h
  cases is with
  | nil => exact ⟨rfl,rfl⟩
  | cons i r => cases h
 | cons e es ih =>
  intro is h
  cases is with
  | nil => cases h
  | cons i r =>
   refine og fun G hG => ?_
   refine ex2_2 (okTs_cons h) fun x p xq1 h1 h2 => ?_
   obtain rfl := xq1
   refine ex0_1 (ih h2) fun a b => ?_
   refine hG ?_; clear hG G
   have e1:assignEach (Expr.Name x p :: es) env = (false,assign (.Name x p) env) :: assignEach es env := rfl
   rw [e1]
   exact ⟨by rw [List.length_cons,List.length_cons,a],by simp only [List.findIdx?_cons,Bool.false_eq_true,if_false,b,Option.map_none]⟩
theorem o_assignEach {Q:Unit→Shared→Prop} {es:List Expr}:∀ {is:List Nat} {xs:List V} {vs:List Value} {l:Loc} {s:Shared},okTs fm.names is es = true→is.length = xs.length→VRs F xs vs→FSt W F P fm l H s →
  (∀ s',FSt W F P fm ((is.zip xs).foldl (fun l p => l.set p.1 (some p.2)) l) H s'→Q () s')→wpAny (model W.prog W.w) A (assignInOrder ((assignEach es fm.env).map (·.2)) vs) Q E s := by
 induction es with
 | nil =>
  intro is xs vs l s hk hl r h q
  cases is with
  | cons i r => cases hk
  | nil =>
   cases xs with
   | nil => exact wpAny_pure (q _ h)
   | cons _ _ => cases hl
 | cons e es ih =>
  intro is xs vs l s hk hl rr h q
  cases is with
  | nil => cases hk
  | cons i r =>
   refine og fun G hG => ?_
   refine ex2_2 (okTs_cons hk) fun x p xq2 h1 h2 => ?_
   obtain rfl := xq2
   refine hG ?_; clear hG G
   cases rr with
   | nil => cases hl
   | cons rv rr =>
    have e1:assignEach (Expr.Name x p :: es) fm.env = (false,assign (.Name x p) fm.env) :: assignEach es fm.env := rfl
    rw [e1,List.map_cons]
    unfold assignInOrder
    refine wpAny_bind (wpAny_holding (PyProof.Rows.assign_Name (o_store h h1 (fun e => by cases e) rv fun s' h' => ?_)))
    exact ih h2 (Nat.succ.inj hl) rr h' q
theorem o_assign {tg:Tg} {tgt:Expr} {v:V} {rv:Value} {l':Loc} {Q:Unit→Shared→Prop} (hh:A.handled = none) (hk:okT fm.names tg tgt = true) (hb:bindT tg v l = some l') (r:VR F v rv) (h:FSt W F P fm l H s)
  (q:∀ s',FSt W F P fm l' H s'→Q () s'):wpAny (model W.prog W.w) A (assign tgt fm.env rv) Q E s := by
 cases tg with
 | one i =>
  refine og fun G hG => ?_
  apply ex2_1 (okT_one hk); intro x p xq3 hk'
  obtain rfl := xq3
  refine hG ?_; clear hG G
  cases hb
  exact PyProof.Rows.assign_Name (o_store h hk' (fun e => by cases e) r q)
 | many is =>
  refine og fun G hG => ?_
  apply ex3_1 (okT_many hk); intro es k p xq4 hk'
  obtain rfl := xq4
  apply ex1_2 (bindT_many hb); intro xs xq5 hlen xq6
  obtain rfl := xq5
  obtain rfl := xq6
  obtain ⟨a,n,its,rfl,eF,r⟩ := r.tupI
  obtain ⟨e1,e2⟩ := assignEach_names (env := fm.env) hk'
  obtain ⟨PL,m,f⟩ := h
  refine hG ?_; clear hG G
  refine wpAny_assign_Tuple hh (in1_2 _ (f.hs.fk _ _ eF) rfl ⟨_,rfl⟩) (by rw [e1,hlen,r.length]; simp) e2 (fun h' he => ?_)
  exact o_assignEach hk' hlen r (in2_0 PL m (f.keeps fun b o e => he b o (Nat.ne_of_lt (Heap.lt_size e)) e)) q
noncomputable def PostS (W:Wd) (P:PM) (fm:Fm) (F:PM) (Qn:Loc→Hp→Prop) (Qr:V→Hp→Prop) (f:Flow) (s:Shared):Prop := match f with
 | .next => ∃ F' l' H',F.le F'∧FSt W F' P fm l' H' s∧Qn l' H'
 | .ret v => ∃ F' mv l' H',F.le F'∧FSt W F' P fm l' H' s∧VR F' mv v∧Qr mv H'
 | _ => False
theorem PostS.from {F':PM} {Qn:Loc→Hp→Prop} {Qr:V→Hp→Prop} {f:Flow} (h:F.le F') (p:PostS W P fm F' Qn Qr f s):PostS W P fm F Qn Qr f s := by
 cases f with
 | next => obtain ⟨F2,l',H',a,b⟩ := p; exact (in3_1 F2 l' H' (PM.le_trans h a) b)
 | ret v => obtain ⟨F2,mv,l',H',a,b⟩ := p; exact (in4_1 F2 mv l' H' (PM.le_trans h a) b)
 | _ => exact p
noncomputable def BodyOk (W:Wd) (A:Around) (fm:Fm) (body:List Stmt) (B:(Loc→Hp→Prop)→(V→Hp→Prop)→Loc→Hp→Prop):Prop :=
 ∀ {F P:PM} {l:Loc} {H:Hp} {s:Shared} {E:Value→Shared→Prop} {Qn:Loc→Hp→Prop} {Qr:V→Hp→Prop},FSt W F P fm l H s→B Qn Qr l H →
  wk (model W.prog W.w) A (execs body fm.env) (PostS W P fm F Qn Qr) E s
theorem un_comm {P PI PL:PM} (d:Dis PI PL):(P.un PI).un PL = (P.un PL).un PI := by
 funext a
 unfold PM.un
 cases q:PI a with
 | none => simp
 | some o => simp [d a o q]
theorem un_set_comm {P:PM} {a:Addr} {o:Obj} {PI:PM} (h:PI a = none):(P.set a o).un PI = (P.un PI).set a o := by
 funext b
 unfold PM.un PM.set
 by_cases q:b = a
 ·subst q; simp [h]
 ·simp [q]
theorem FS0.guard (f:FS0 W F P PL fm l H s m):∃ oL,s.heap.get? fm.env.locals = some oL∧HS W F ((P.un PL).set fm.env.locals oL) H s ∧
  (∀ (h:Heap),h.get? fm.env.locals = some oL→h.Ns fm.env.locals m) := by
 refine ex3_3 f.ns fun oL es ep ho hd hk hm => ?_
 exact (in1_2 oL ho (f.hs.toP f.free ho) (fun h e => (in3_3 oL es ep e hd hk hm)))
theorem FS0.back {F':PM} {H':Hp} {s':Shared} {oL:Obj} (f:FS0 W F P PL fm l H s m) (le:F.le F') (h:HS W F' ((P.un PL).set fm.env.locals oL) H' s')
  (hb:∀ (h:Heap),h.get? fm.env.locals = some oL→h.Ns fm.env.locals m):FSt W F' P fm l H' s' := by
 have eL:((P.un PL).set fm.env.locals oL) fm.env.locals = some oL := PM.set_self ..
 refine f.go le (h.lessP (PM.le_set f.free.2.1)) ⟨?_,f.free.2.1,h.ph _ _ eL⟩ (hb _ (h.pk _ _ eL))
 cases q:F' fm.env.locals with
 | none => rfl
 | some o => have := h.fp _ _ q; rw [eL] at this; cases this
set_option tactic.hygienic true in
theorem feed_next {tgt:Expr} {it:Value} {items:List V} {J:PM→Hp→PM→Nat→Prop} (fd:Feed W A tgt it items J) {i:Nat} {v:V} (hv:items[i]? = some v) (hJ:J F H PI i) (d:Dis P PI) (h:FSt W F (P.un PI) fm l H s) :
  wpAny (model W.prog W.w) A (pyNext it) (fun r s₁ => ∃ x,r = some x∧∀ E',wpAny (model W.prog W.w) A (letOwnedTupleGo tgt it x) (fun U s₂ => ∃ F' PI',F.le F'∧Dis P PI'∧J F' H PI' (i + 1)∧FSt W F' (P.un PI') fm l H s₂∧VR F' v x) E' s₁) E s := by
 refine og fun G hG => ?_
 refine ex2_0 h fun PL m f => ?_; clear h
 refine ex1_2 f.guard fun oL hoL hg hb => ?_
 refine hG ?_; clear hG G
 have dIL:Dis PI PL := fun a o e => f.apart a o (Dis.right _ _ e)
 have dPL:Dis P PL := fun a o e => f.apart a o (d.le _ _ e)
 have hPIL:PI fm.env.locals = none := by
  have := f.free.2.1
  unfold PM.un at this
  cases q:PI fm.env.locals with
  | none => rfl
  | some o => rw [q] at this; cases q2:PL fm.env.locals <;> simp [q2] at this
 have hPLL:PL fm.env.locals = none∧P fm.env.locals = none := by
  have := f.free.2.1
  unfold PM.un at this
  rw [hPIL] at this
  cases q2:PL fm.env.locals with
  | none => rw [q2] at this; exact ⟨rfl,by simpa using this⟩
  | some o => rw [q2] at this; cases this
 rw [un_comm dIL,← un_set_comm hPIL] at hg
 have dG:Dis ((P.un PL).set fm.env.locals oL) PI := fun a o e => by
  unfold PM.set at e
  split at e
  ·rename_i q; rw [q]; exact hPIL
  ·unfold PM.un at e
   cases q2:PL a with
   | none => rw [q2] at e; exact d a o (by simpa using e)
   | some o' =>
    cases q3:PI a with
    | none => rfl
    | some o2 => have := dIL a o2 q3; rw [q2] at this; cases this
 refine fd.next hv hJ dG hg (fun F' PI' s' x le d' hJ' hs' rx => ?_)
 have dP':Dis P PI' := fun a o e => by
  have ne:a ≠ fm.env.locals := fun q => by rw [q,hPLL.2] at e; cases e
  exact d' a o (by rw [PM.set_ne _ _ ne]; exact dPL.le _ _ e)
 have dL':Dis PI' PL := fun a o e => by
  cases q2:PL a with
  | none => rfl
  | some o' =>
   have ne:a ≠ fm.env.locals := fun q => by rw [q,hPLL.1] at q2; cases q2
   have := d' a o' (by rw [PM.set_ne _ _ ne]; simp [PM.un,q2])
   rw [e] at this; cases this
 have hL':PI' fm.env.locals = none := d' _ oL (PM.set_self ..)
 rw [un_set_comm hL',← un_comm dL'] at hs'
 have eL:(((P.un PI').un PL).set fm.env.locals oL) fm.env.locals = some oL := PM.set_self ..
 have hnone:((P.un PI').un PL) fm.env.locals = none := by simp [PM.un,hPLL,hL']
 refine (in2_4 F' PI' le dP' hJ' (in2_0 PL m ⟨f.ok,fun a o e => ?_,hs'.lessP (PM.le_set hnone),⟨?_,hnone,hs'.ph _ _ eL⟩,hb _ (hs'.pk _ _ eL),?_⟩) rx)
 ·unfold PM.un at e
  cases q2:PI' a with
  | none => rw [q2] at e; exact dPL a o (by simpa using e)
  | some o' => exact dL' a o' q2
 ·cases q2:F' fm.env.locals with
  | none => rfl
  | some o => have := hs'.fp _ _ q2; rw [eL] at this; cases this
 ·refine ⟨fun j y u hy hu => ?_,fun j y u hy hu => ?_,f.lr.own⟩
  ·obtain ⟨rv,a,b⟩ := f.lr.loc j y u hy hu; exact (in1_1 rv a (b.mono le))
  ·refine ex3_3 (f.lr.cell j y u hy hu) fun c o rv hc ho hd hr => ?_
   refine (in3_3 c o rv hc ?_ hd (hr.mono le))
   unfold PM.un at ho ⊢
   cases q2:PL c with
   | some o' => rw [q2] at ho; simpa using ho
   | none =>
    rw [q2] at ho
    simp only [Option.none_or] at ho ⊢
    cases q3:PI c with
    | some o' => rw [q3] at ho; cases ho; exact absurd hd (fd.nocell hJ q3)
    | none =>
     rw [q3] at ho
     simp only [Option.none_or] at ho
     rw [dP' c o ho]; simpa using ho
set_option tactic.hygienic true in
theorem feed_done {tgt:Expr} {it:Value} {items:List V} {J:PM→Hp→PM→Nat→Prop} (fd:Feed W A tgt it items J) {i:Nat} {Q:Option Value→Shared→Prop} (hi:items.length ≤ i) (hJ:J F H PI i) (d:Dis P PI) (h:FSt W F (P.un PI) fm l H s)
  (hlr:∀ (i:Nat) x v,fm.names[i]? = some (x,true)→l[i]? = some (some v)→True)
  (q:∀ (s':Shared),FSt W F P fm l H s'→Q none s'):wpAny (model W.prog W.w) A (pyNext it) Q E s := by
 refine og fun G hG => ?_
 refine ex2_0 h fun PL m f => ?_; clear h
 refine ex1_2 f.guard fun oL hoL hg hb => ?_
 refine hG ?_; clear hG G
 have dIL:Dis PI PL := fun a o e => f.apart a o (Dis.right _ _ e)
 have dPL:Dis P PL := fun a o e => f.apart a o (d.le _ _ e)
 have hPIL:PI fm.env.locals = none := by
  have := f.free.2.1
  unfold PM.un at this
  cases q:PI fm.env.locals with
  | none => rfl
  | some o => rw [q] at this; cases q2:PL fm.env.locals <;> simp [q2] at this
 have hPLL:PL fm.env.locals = none∧P fm.env.locals = none := by
  have := f.free.2.1
  unfold PM.un at this
  rw [hPIL] at this
  cases q2:PL fm.env.locals with
  | none => rw [q2] at this; exact ⟨rfl,by simpa using this⟩
  | some o => rw [q2] at this; cases this
 rw [un_comm dIL,← un_set_comm hPIL] at hg
 have dG:Dis ((P.un PL).set fm.env.locals oL) PI := fun a o e => by
  unfold PM.set at e
  split at e
  ·rename_i q; rw [q]; exact hPIL
  ·unfold PM.un at e
   cases q2:PL a with
   | none => rw [q2] at e; exact d a o (by simpa using e)
   | some o' =>
    cases q3:PI a with
    | none => rfl
    | some o2 => have := dIL a o2 q3; rw [q2] at this; cases this
 refine fd.done hi hJ dG hg (fun s' hs' => ?_)
 have eL:((P.un PL).set fm.env.locals oL) fm.env.locals = some oL := PM.set_self ..
 have hnone:(P.un PL) fm.env.locals = none := by simp [PM.un,hPLL]
 refine q s' (in2_0 PL m ⟨f.ok,dPL,hs'.lessP (PM.le_set hnone),⟨?_,hnone,hs'.ph _ _ eL⟩,hb _ (hs'.pk _ _ eL),?_⟩)
 ·cases q2:F fm.env.locals with
  | none => rfl
  | some o => have := hs'.fp _ _ q2; rw [eL] at this; cases this
 ·refine ⟨f.lr.loc,fun j y u hy hu => ?_,f.lr.own⟩
  refine ex3_3 (f.lr.cell j y u hy hu) fun c o rv hc ho hd hr => ?_
  refine (in3_3 c o rv hc ?_ hd hr)
  unfold PM.un at ho ⊢
  cases q2:PL c with
  | some o' => rw [q2] at ho; simpa using ho
  | none =>
   rw [q2] at ho
   simp only [Option.none_or] at ho ⊢
   cases q3:PI c with
   | some o' => rw [q3] at ho; cases ho; exact absurd hd (fd.nocell hJ q3)
   | none => rw [q3] at ho; simpa using ho
theorem FSt.unguard {PI:PM} (h:FSt W F (P.un PI) fm l H s) (d:Dis P PI) (hn:∀ a o v,PI a = some o→o.data ≠ .cell v):FSt W F P fm l H s := by
 refine ex2_0 h fun PL m f => ?_; clear h
 have dIL:Dis PI PL := fun a o e => f.apart a o (Dis.right _ _ e)
 have dPL:Dis P PL := fun a o e => f.apart a o (d.le _ _ e)
 have le:(P.un PL).le ((P.un PI).un PL) := fun a o e => by
  unfold PM.un at e ⊢
  cases q2:PL a with
  | some o' => rw [q2] at e; simpa using e
  | none =>
   rw [q2] at e
   simp only [Option.none_or] at e ⊢
   rw [d a o e]; simpa using e
 refine (in2_0 PL m ⟨f.ok,dPL,f.hs.lessP le,⟨f.free.1,?_,f.free.2.2⟩,f.ns,?_⟩)
 ·cases q:(P.un PL) fm.env.locals with
  | none => rfl
  | some o => have := le _ _ q; rw [f.free.2.1] at this; cases this
 ·refine ⟨f.lr.loc,fun j y u hy hu => ?_,f.lr.own⟩
  refine ex3_3 (f.lr.cell j y u hy hu) fun c o rv hc ho hd hr => ?_
  refine (in3_3 c o rv hc ?_ hd hr)
  unfold PM.un at ho ⊢
  cases q2:PL c with
  | some o' => rw [q2] at ho; simpa using ho
  | none =>
   rw [q2] at ho
   simp only [Option.none_or] at ho ⊢
   cases q3:PI c with
   | some o' => rw [q3] at ho; cases ho; exact absurd hd (hn c o _ q3)
   | none => rw [q3] at ho; simpa using ho
theorem FS0.guardI {PI:PM} (f:FS0 W F P PL fm l H s m) (d:Dis P PI) (g1:HS W F ((P.un PL).un PI) H s) (g2:∀ a o,PI a = some o→PL a = none) (g3:PI fm.env.locals = none):FSt W F (P.un PI) fm l H s := by
 refine (in2_0 PL m ⟨f.ok,fun a o e => ?_,by rw [un_comm g2]; exact g1,?_,f.ns,?_⟩)
 ·unfold PM.un at e
  cases q2:PI a with
  | none => rw [q2] at e; exact f.apart a o (by simpa using e)
  | some o' => exact g2 a o' q2
 ·rw [un_comm g2]
  refine ⟨f.free.1,?_,f.free.2.2⟩
  have := f.free.2.1
  unfold PM.un at this ⊢
  rw [g3]
  simpa using this
 ·refine ⟨f.lr.loc,fun j y u hy hu => ?_,f.lr.own⟩
  refine ex3_3 (f.lr.cell j y u hy hu) fun c o rv hc ho hd hr => ?_
  refine (in3_3 c o rv hc ?_ hd hr)
  rw [un_comm g2]
  unfold PM.un at ho ⊢
  cases q3:PI c with
  | none => simpa using ho
  | some o' =>
   have e1 := g2 c o' q3
   rw [e1] at ho
   simp only [Option.none_or] at ho
   have := d c o ho
   rw [q3] at this; cases this
theorem for_rule {tgt:Expr} {body:List Stmt} {it:Value} {items:List V} {J:PM→Hp→PM→Nat→Prop} {tg:Tg} {B:(Loc→Hp→Prop)→(V→Hp→Prop)→Loc→Hp→Prop} {Qn:Loc→Hp→Prop} {Qr:V→Hp→Prop} {R:Result→Shared→Prop}
  (hh:A.handled = none) (fd:Feed W A tgt it items J) (hJ:∀ {F:PM} {H H':Hp} {PI:PM} {i:Nat},J F H PI i→J F H' PI i) (hk:okT fm.names tg tgt = true) (hb:BodyOk W A fm body B)
  (h0:J F H PI 0) (d:Dis P PI) (h:FSt W F (P.un PI) fm l H s) (q:forW (fun Q l H => B Q Qr l H) tg items Qn l H)
  (hR:∀ f s',PostS W P fm F Qn Qr f s'→R (.ok f) s'):kc (model W.prog W.w) A (.forLoop tgt it body [] fm.env) R s := by
 refine kc_loopQ rfl rfl (fun n s => ∃ F' PI l' H' i,PM.le F F'∧J F' H' PI i∧Dis P PI∧FSt W F' (P.un PI) fm l' H' s∧forW (fun Q l H => B Q Qr l H) tg (items.drop i) Qn l' H'∧i ≤ items.length∧n = items.length - i)
  (fun n s hI Q' hd ha hk' => ?_) items.length (in5_6 F PI l H 0 (PM.le_refl F) h0 d h q (Nat.zero_le _) rfl)
 clear h0 d h q
 generalize hE:(fun (e:Value) s' => R (.error e) s') = EE
 clear hE
 show wk _ A ((forTurn tgt it body [] fm.env).onRaise (fun x => do noteFrame x fm.env; theTreesLotGoes x)) _ _ s
 refine wk_onRaise ?_
 unfold forTurn
 refine wk_bind (wk_standAt (wk_bindq fun q1 k1 => wk_onRaise ?_))
 refine og fun G hG => ?_
 obtain ⟨F',PI,l',H',i,le,hj,d,h,q,hi,rfl⟩ := hI
 refine hG ?_; clear hG G
 cases hv:items[i]? with
 | none =>
  have hlen:items.length ≤ i := by simpa using hv
  rw [List.drop_eq_nil_of_le hlen] at q
  refine up (feed_done fd hlen hj d h (fun U U U U U => trivial) (fun s' h' => k1 _ _ ?_))
  exact wk_pure (hk' _ _ rfl rfl (kc_block (wk_pure (hR .next s' (in3_2 F' l' H' le h' q)))))
 | some v =>
  obtain ⟨hlt,e⟩ := List.getElem?_eq_some_iff.mp hv
  rw [List.drop_eq_getElem_cons hlt,e] at q
  obtain ⟨l2,hb2,q⟩ := obind_ex q
  refine wk_mono (up (feed_next fd hv hj d h)) (fun r s₁ hr => ?_) fun U U e => e
  obtain ⟨x,rfl,hx⟩ := hr
  refine k1 _ _ (wk_bindq fun q2 k2 => wk_mono (up (hx _)) (fun U s2 h2 => ?_) fun U U e => e)
  refine og fun G hG => ?_
  obtain ⟨F2,PI2,le2,d2,hj2,h2,rx⟩ := h2
  refine hG ?_; clear hG G
  refine k2 _ _ (wk_bindq fun q3 k3 => up (o_assign hh hk hb2 rx h2 (fun s3 h3 => k3 _ _ (wk_bindq fun q4 k4 => wk_mono (hb h3 q) (fun f s4 h4 => ?_) fun U U e => e))))
  cases f with
   | next =>
    refine og fun G hG => ?_
    obtain ⟨F4,l4,H4,le4,h4,q4⟩ := h4
    refine hG ?_; clear hG G
    exact k4 _ _ (wk_pure (ha (items.length - (i + 1)) _ (by exact Nat.sub_succ_lt_self items.length i hlt) (in5_6 F4 PI2 l4 H4 (i + 1) (PM.le_trans le (PM.le_trans le2 le4)) (hJ (fd.mono le4 hj2)) d2 h4 q4 hlt rfl)))
   | ret v =>
    refine og fun G hG => ?_
    obtain ⟨F4,mv,l4,H4,le4,h4,r4,q4⟩ := h4
    refine hG ?_; clear hG G
    refine k4 _ _ (wk_pure (hd _ _ (hR (.ret v) s4 (in4_3 F4 mv l4 H4 (PM.le_trans le (PM.le_trans le2 le4)) ?_ r4 q4))))
    exact h4.unguard d2 fun a o v q => fd.nocell hj2 q
   | _ => exact h4.elim
end
section
variable {W:Wd} {F P PL PI:PM} {H:Hp} {s:Shared} {A:Around} {E:Value→Shared→Prop} {fm:Fm} {l:Loc} {m:Str→Option Value}
noncomputable def PostB (W:Wd) (P:PM) (fm:Fm) (l:Loc) (F:PM) (Q:Bool→Hp→Prop) (b:Bool) (s:Shared):Prop := ∃ F' H',F.le F'∧FSt W F' P fm l H' s∧Q b H'
theorem PostB.el {W:Wd} {P:PM} {fm:Fm} {l:Loc} {F:PM} {s:Shared} {Q:Bool→Hp→Prop} {b:Bool} {G:Prop} (p:PostB W P fm l F Q b s) (k:∀ F' H',F.le F'→FSt W F' P fm l H' s→Q b H'→G):G := ex2_2 p k
noncomputable def TestOk (W:Wd) (A:Around) (fm:Fm) (test:Expr) (T:Loc→(Bool→Hp→Prop)→Hp→Prop):Prop :=
 ∀ {F P:PM} {l:Loc} {H:Hp} {s:Shared} {E:Value→Shared→Prop} {Q:Bool→Hp→Prop},FSt W F P fm l H s→T l Q H →
  wk (model W.prog W.w) A (isTrue test fm.env (eval test fm.env)) (PostB W P fm l F Q) E s
noncomputable def EltOk (W:Wd) (A:Around) (fm:Fm) (e:Expr) (T:Loc→(V→Hp→Prop)→Hp→Prop):Prop :=
 ∀ {F P:PM} {l:Loc} {H:Hp} {s:Shared} {E:Value→Shared→Prop} {Q:V→Hp→Prop},FSt W F P fm l H s→T l Q H →
  wk (model W.prog W.w) A (eval e fm.env) (Post W P fm l F Q) E s
theorem while_rule {test:Expr} {body:List Stmt} {T:Loc→(Bool→Hp→Prop)→Hp→Prop} {B:(Loc→Hp→Prop)→(V→Hp→Prop)→Loc→Hp→Prop} {Qn:Loc→Hp→Prop} {Qr:V→Hp→Prop} {R:Result→Shared→Prop} {n:Nat}
  (ht:TestOk W A fm test T) (hb:BodyOk W A fm body B) (h:FSt W F P fm l H s) (q:whileW T (fun Q l H => B Q Qr l H) Qn n l H)
  (hR:∀ f s',PostS W P fm F Qn Qr f s'→R (.ok f) s'):kc (model W.prog W.w) A (.whileLoop test body [] fm.env) R s := by
 refine kc_whileLoop (fun n s => ∃ F' l' H',PM.le F F'∧FSt W F' P fm l' H' s∧whileW T (fun Q l H => B Q Qr l H) Qn n l' H') (fun n s hI => ?_) n (in3_2 F l H (PM.le_refl F) h q)
 refine og fun G hG => ?_
 obtain ⟨F',l',H',le,h,q⟩ := hI
 refine hG ?_; clear hG G
 cases n with
 | zero => exact q.elim
 | succ n =>
  refine wk_mono (ht h q) (fun b s2 h2 => ?_) fun U U e => e
  refine og fun G hG => ?_
  obtain ⟨F2,H2,le2,h2,q2⟩ := h2
  refine hG ?_; clear hG G
  cases b with
  | true =>
   simp only [if_true]
   refine wk_mono (hb h2 q2) (fun f s3 h3 => ?_) fun U U e => e
   cases f with
   | next => obtain ⟨F3,l3,H3,le3,h3,q3⟩ := h3; exact (in1_1 n (Nat.lt_succ_self n) ⟨F3,l3,H3,PM.le_trans le (PM.le_trans le2 le3),h3,q3⟩)
   | ret v => exact hR _ _ (PostS.from (PM.le_trans le le2) h3)
   | _ => exact h3.elim
  | false =>
   simp only [Bool.false_eq_true,if_false]
   exact wk_pure (hR .next _ (in3_2 F2 l' H2 (PM.le_trans le le2) h2 q2))
theorem FSt.lessLoc {b:Loc} (h:FSt W F P fm l H s) (hb:∀ (i:Nat) v,b[i]? = some (some v)→l[i]? = some (some v)):FSt W F P fm b H s :=
 ex2_0 h fun PL m f =>
 (in2_0 PL m ⟨f.ok,f.apart,f.hs,f.free,f.ns,fun i x v a e => f.lr.loc i x v a (hb i v e),fun i x v a e => f.lr.cell i x v a (hb i v e),f.lr.own⟩)
theorem FSt.turnG {a:Addr} {o o':Obj} {h':Heap} (h:FSt W F P fm l H s) (e:P a = some o) (ho:∀ v,o.data ≠ .cell v) (x:Heap.SameBut a s.heap h') (e':h'.get? a = some o') :
  FSt W F (P.set a o') fm l H { s with heap := h' } := by
 refine ex2_0 h fun PL m f => ?_; clear h
 have hPL := f.apart a o e
 have e1:(P.un PL) a = some o := by simp [PM.un,hPL,e]
 have eq:(P.set a o').un PL = (P.un PL).set a o' := un_set_comm hPL
 have ne:a ≠ fm.env.locals := fun q => by rw [q,f.free.2.1] at e1; cases e1
 refine (in2_0 PL m ⟨f.ok,fun b ob eb => ?_,by rw [eq]; exact f.hs.turnP e1 x.extBut e',?_,f.ns.sameBut x (Ne.symm ne),f.lr.loc,fun j y u hy hu => ?_,f.lr.own⟩)
 ·by_cases q:b = a
  ·rw [q]; exact hPL
  ·rw [PM.set_ne _ _ q] at eb; exact f.apart b ob eb
 ·rw [eq]; exact ⟨f.free.1,by rw [PM.set_ne _ _ (Ne.symm ne)]; exact f.free.2.1,f.free.2.2⟩
 ·refine ex3_3 (f.lr.cell j y u hy hu) fun c oc rv hc hoc hd hr => ?_
  refine (in3_3 c oc rv hc ?_ hd hr)
  have:c ≠ a := fun q => by rw [q,e1] at hoc; cases hoc; exact ho _ hd
  rw [eq,PM.set_ne _ _ this]; exact hoc
theorem one_set {a:Addr} {o o':Obj} {P PI:PM} (h:PI a = none):((P.un (PM.one a o)).un PI).set a o' = (P.un (PM.one a o')).un PI := by
 funext b
 unfold PM.set PM.un PM.one
 by_cases q:b = a
 ·subst q; simp [h]
 ·simp [q]
noncomputable def AccAt (F:PM) (o:Obj) (xs:List V):Prop := LC o∧∃ its n,o.data = .seq its n∧VRs F xs its.toList
theorem AccAt.mono {F':PM} {o:Obj} {xs:List V} (h:AccAt F o xs) (le:F.le F'):AccAt F' o xs := ⟨h.1,ex2_1 h.2 fun its n b c => (in2_1 its n b (c.mono le))⟩
noncomputable def CondOk (W:Wd) (A:Around) (fm:Fm) (ifs:List Expr) (T:Loc→(Bool→Hp→Prop)→Hp→Prop):Prop :=
 ∀ {F P:PM} {l:Loc} {H:Hp} {s:Shared} {E:Value→Shared→Prop} {Q:Bool→Hp→Prop},FSt W F P fm l H s→T l Q H →
  wk (model W.prog W.w) A (forIn ifs true fun c r => if r = true then do let ok ← isTrue c fm.env (eval c fm.env); pure (ForInStep.yield ok) else pure (ForInStep.yield r)) (PostB W P fm l F Q) E s
theorem o_emit {D:Addr} {o:Obj} {acc:List V} {v:V} {rv:Value} {Q:Value→Shared→Prop} (h:FSt W F ((P.un (PM.one D o)).un PI) fm l H s) (hD:PI D = none) (ha:AccAt F o acc) (r:VR F v rv) (hz:acc.length ≤ big)
  (q:∀ o' s',AccAt F o' (acc ++ [v])→FSt W F ((P.un (PM.one D o')).un PI) fm l H s'→Q .none s'):wpAny (model W.prog W.w) A (call (.builtin "list.append") [.ref D,rv]) Q E s := by
 refine og fun G hG => ?_
 refine ex0_1 ha fun hc xq2 => ?_; clear ha
 refine ex2_1 xq2 fun its n hd ra => ?_; clear xq2
 refine hG ?_; clear hG G
 have eD:((P.un (PM.one D o)).un PI) D = some o := by simp [PM.un,hD,PM.one]
 have hget:s.heap.get? D = some o := by obtain ⟨PL,m,f⟩ := h; exact f.hs.pk _ _ (by simp [PM.un,f.apart _ _ eD,hD,PM.one])
 have e:acc.length = its.size := ra.length.trans Array.length_toList
 refine lc_append hget hc hd (by have := big_le; omega) (fun h' o' n' ho' hc' hd' hs => ?_)
 have g := h.turnG eD (fun v => by rw [hd]; intro e; cases e) hs ho'
 rw [one_set hD] at g
 exact q o' _ ⟨hc',_,n',hd',by rw [show (its.push rv).toList = its.toList ++ [rv] from Array.toList_push ..]; exact ra.append (.cons r .nil)⟩ g
theorem compW_len {elt:Loc→(V→Hp→Prop)→Hp→Prop} {cond:Loc→(Bool→Hp→Prop)→Hp→Prop}:True := trivial
theorem loop_den {elt:Expr} {gens:List Comprehension} {scope:Scope} {pos:Pos} {dep:Nat} {it acc:Value} {env:Env} {Q:PySem.Fin→Shared→Prop} (h:wk (model W.prog W.w) A (compTurn (.ListComp elt gens scope pos) dep it acc env) Q (fun U U => False) s) :
  wk (model W.prog W.w) (A.under (.compLoop (.ListComp elt gens scope pos) dep it acc env)) ((model W.prog W.w).den (.compLoop (.ListComp elt gens scope pos) dep it acc env)) Q E s := by
 show wk _ A ((compTurn (.ListComp elt gens scope pos) dep it acc env).onRaise (fun x => do noteFrame x env; theTreesLotGoes x)) _ _ s
 exact wk_onRaise h
theorem comp_loop {dep:Nat} {ce target iter elt:Expr} {ifs:List Expr} {it:Value} {items:List V} {J:PM→Hp→PM→Nat→Prop} {tg:Tg} {D:Addr} {o:Obj}
  {TE:Loc→(V→Hp→Prop)→Hp→Prop} {TC:Loc→(Bool→Hp→Prop)→Hp→Prop} {base:Loc} {acc:List V} {Q:List V→Hp→Prop} {R:Result→Shared→Prop}
  (hl:∀ {Q E s},wk (model W.prog W.w) A (compTurn ce dep it (.ref D) fm.env) Q (fun U U => False) s→wk (model W.prog W.w) (A.under (.compLoop ce dep it (.ref D) fm.env)) ((model W.prog W.w).den (.compLoop ce dep it (.ref D) fm.env)) Q E s)
  (hq:(Code.compLoop ce dep it (.ref D) fm.env).quiet = true) (hcl:cln (.compLoop ce dep it (.ref D) fm.env) = true)
  (hT:∀ it acc env,compTurn ce dep it acc env = (do
   standAt iter.pos
   match ← pyNext it with
   | none => pure (.done .next)
   | some v =>
    letOwnedTupleGo target it v
    assign target env v
    let mut ok := true
    for c in ifs do
     if ok then ok ← isTrue c env (eval c env)
    if ok then
     (do let _ ← call (.builtin "list.append") [acc,← eval elt env])
    again (.compLoop ce dep it acc env)))
  (hh:A.handled = none) (fd:Feed W A target it items J) (hk:okT fm.names tg target = true) (hbase:∀ v l,bindT tg v base = some l→∀ (i:Nat) u,base[i]? = some (some u)→l[i]? = some (some u))
  (he:EltOk W A fm elt TE) (hc:CondOk W A fm ifs TC) (h0:J F H PI 0) (d:Dis (P.un (PM.one D o)) PI) (dD:P D = none) (ha:AccAt F o acc) (hz:acc.length + items.length ≤ big) (h:FSt W F ((P.un (PM.one D o)).un PI) fm base H s)
  (q:compW TE TC tg base items acc Q H)
  (hR:∀ F' o' xs s',F.le F'→AccAt F' o' xs→FSt W F' (P.un (PM.one D o')) fm base H s'→Q xs H→R (.ok .next) s') :
  kc (model W.prog W.w) A (.compLoop ce dep it (.ref D) fm.env) R s := by
 refine kc_loopQ hq hcl (fun n s => ∃ F' PI o acc' i,PM.le F F'∧J F' H PI i∧Dis (P.un (PM.one D o)) PI∧AccAt F' o acc'∧acc'.length + (items.length - i) ≤ big∧FSt W F' ((P.un (PM.one D o)).un PI) fm base H s∧compW TE TC tg base (items.drop i) acc' Q H∧i ≤ items.length∧n = items.length - i)
  (fun n s hI Q' hd hag U => ?_) items.length (in5_8 F PI o acc 0 (PM.le_refl F) h0 d ha hz h q (Nat.zero_le _) rfl)
 clear h0 d ha hz h q
 refine hl ?_
 clear hl
 rw [hT]
 clear hT
 refine wk_bind (wk_standAt (wk_bindq fun q1 k1 => ?_))
 refine og fun G hG => ?_
 obtain ⟨F',PI,o,acc,i,le,hj,d,ha,hz,h,q,hi,rfl⟩ := hI
 refine hG ?_; clear hG G
 have hPD:PI D = none := d D o (by simp [PM.un,PM.one])
 cases hv:items[i]? with
 | none =>
  have hlen:items.length ≤ i := by simpa using hv
  rw [List.drop_eq_nil_of_le hlen] at q
  exact up (feed_done fd hlen hj d h (fun U U U U U => trivial) (fun s' h' => k1 _ _ (wk_pure (hd _ _ (hR F' o acc s' le ha h' q)))))
 | some v =>
  obtain ⟨hlt,ee⟩ := List.getElem?_eq_some_iff.mp hv
  rw [List.drop_eq_getElem_cons hlt,ee] at q
  obtain ⟨l2,hb2,q⟩ := obind_ex q
  refine wk_mono (up (feed_next fd hv hj d h)) (fun r s₁ hr => ?_) fun U U e => e
  obtain ⟨x,rfl,hx⟩ := hr
  refine k1 _ _ (wk_bindq fun q2 k2 => wk_mono (up (hx _)) (fun U s2 h2 => ?_) fun U U e => e)
  refine og fun G hG => ?_
  obtain ⟨F2,PI2,le2,d2,hj2,h2,rx⟩ := h2
  refine hG ?_; clear hG G
  have hPD2:PI2 D = none := d2 D o (by simp [PM.un,PM.one])
  refine k2 _ _ (wk_bindq fun q3 k3 => up (o_assign hh hk hb2 rx h2 (fun s3 h3 => k3 _ _ (wk_bindq fun q4 k4 => wk_mono (hc h3 q) (fun ok s4 h4 => ?_) fun U U e => e))))
  refine og fun G hG => ?_
  obtain ⟨F4,H4,le4,h4,rfl,q4⟩ := h4
  refine hG ?_; clear hG G
  cases ok with
  | false =>
   exact k4 _ _ (wk_pure (hag (items.length - (i + 1)) _ (by omega) (in5_8 F4 PI2 o acc (i + 1) (PM.le_trans le (PM.le_trans le2 le4)) (fd.mono le4 hj2) d2 (ha.mono (PM.le_trans le2 le4)) (by omega) (h4.lessLoc (hbase v l2 hb2)) q4 hlt rfl)))
  | true =>
   refine k4 _ _ (wk_bindq fun q5 k5 => wk_bindq fun q6 k6 => wk_mono (he h4 q4) (fun rv s5 h5 => ?_) fun U U e => e)
   refine og fun G hG => ?_
   obtain ⟨F5,mv,H5,le5,h5,r5,rfl,q5'⟩ := h5
   refine hG ?_; clear hG G
   have le25 := PM.le_trans le2 (PM.le_trans le4 le5)
   refine k6 _ _ (wk_bind (up (o_emit h5 hPD2 (ha.mono le25) r5 (by omega) (fun o' s6 ha6 h6 => wk_pure (k5 _ _ (wk_pure ?_))))))
   refine hag (items.length - (i + 1)) _ (by omega) (in5_8 F5 PI2 o' (acc ++ [mv]) (i + 1) (PM.le_trans le le25) (fd.mono (PM.le_trans le4 le5) hj2) (fun b ob eb => ?_) ha6 (by rw [List.length_append]; simp only [List.length_cons,List.length_nil]; omega) (h6.lessLoc (hbase v l2 hb2)) q5' hlt rfl)
   by_cases qb:b = D
   ·rw [qb]; exact hPD2
   ·exact d2 b ob (by unfold PM.un PM.one at eb ⊢; rw [if_neg qb] at eb ⊢; exact eb)
end
section
variable {W:Wd} {F P PL PI:PM} {H:Hp} {s:Shared} {A:Around} {E:Value→Shared→Prop} {fm:Fm} {l:Loc} {m:Str→Option Value}
noncomputable def IterPost (W:Wd) (A:Around) (P:PM) (fm:Fm) (l:Loc) (F:PM) (tgt:Expr) (frozen:Bool) (Q:List V→Hp→Prop) (it:Value) (s:Shared):Prop :=
 ∃ F' H' items J PI,PM.le F F'∧Dis P PI∧Feed W A tgt it items J∧(frozen = true→∀ {F:PM} {H H':Hp} {PI:PM} {i:Nat},J F H PI i→J F H' PI i)∧J F' H' PI 0∧FSt W F' (P.un PI) fm l H' s∧items.length ≤ big∧Q items H'
theorem IterPost.el {W:Wd} {A:Around} {P:PM} {fm:Fm} {l:Loc} {F:PM} {tgt:Expr} {fz:Bool} {Q:List V→Hp→Prop} {it:Value} {s:Shared} {G:Prop} (p:IterPost W A P fm l F tgt fz Q it s)
  (k:∀ F' H' items J PI,PM.le F F'→Dis P PI→Feed W A tgt it items J→(fz = true→∀ {F:PM} {H H':Hp} {PI:PM} {i:Nat},J F H PI i→J F H' PI i)→J F' H' PI 0→FSt W F' (P.un PI) fm l H' s→items.length ≤ big→Q items H'→G):G :=
 ex5_7 p k
theorem un_none {P PL:PM} {a:Addr} (h:(P.un PL) a = none):P a = none∧PL a = none := by
 unfold PM.un at h
 cases q:PL a with
 | none => rw [q] at h; exact ⟨by simpa using h,rfl⟩
 | some o => rw [q] at h; simp at h
set_option tactic.hygienic true in
theorem FSt.guardAt {a:Addr} {o:Obj} (f:FS0 W F P PL fm l H s m) (fr:Free F (P.un PL) H a) (ne:a ≠ fm.env.locals) (e:s.heap.get? a = some o):FSt W F (P.un (PM.one a o)) fm l H s∧Dis P (PM.one a o) := by
 refine ex0_1 (un_none fr.2.1) fun n1 n2 => ?_
 have d := Dis.one n1 o
 refine ⟨f.guardI d ?_ ?_ ?_,d⟩
 ·rw [← set_one fr.2.1]; exact f.hs.toP fr e
 ·intro b ob q
  unfold PM.one at q
  split at q
  ·rename_i eb; rw [eb]; exact n2
  ·cases q
 ·unfold PM.one
  rw [if_neg (Ne.symm ne)]
theorem FSt.guardNew (h:FSt W F P fm l H s) (o:Obj) (hf:o.isFreed = false):FSt W F (P.un (PM.one s.heap.objs.size o)) fm l H { s with heap := s.heap.push o }∧Dis P (PM.one s.heap.objs.size o) := by
 refine ex2_0 h fun PL m f => ?_; clear h
 exact FSt.guardAt (f.push o) f.new.1 f.new.2 (Heap.get?_push_size _ hf)
theorem iter_lst {lv:V} {a:Addr} {tgt:Expr} {items:List V} {fz:Bool} {Q:List V→Hp→Prop} (hh:A.handled = none) (h:FSt W F P fm l H s) (e:asList H lv = some items) (r:VR F lv (.ref a)) (hf:fz = true→∃ xs,lv = .lst xs) (hz:items.length ≤ big) (q:Q items H) :
  wpAny (model W.prog W.w) A (pyIter (.ref a)) (IterPost W A P fm l F tgt fz Q) E s := by
 have h0 := h
 refine ex2_0 h fun PL m f => ?_; clear h
 refine ex2_2 (list_at f.hs r e) fun a' its e' hl rr => ?_
 cases e'
 refine wpAny_pyIter_list hl ?_
 refine ex0_1 (h0.guardNew { cls := .type "list_iterator",data := .fields #[.ref a,.int 0 0] } rfl) fun g d => ?_
 refine (in5_7 F H items _ _ (PM.le_refl F) d (feed_list (lv := lv) (a := a) (tgt := tgt) hh) (fun hfz => ?_) ⟨e,r,_,rfl,rfl,rfl⟩ g hz q)
 refine ex1_0 (hf hfz) fun xs xq1 => ?_
 obtain rfl := xq1
 exact fun h => h
theorem iter_tup {xs:List V} {a:Addr} {tgt:Expr} {fz:Bool} {Q:List V→Hp→Prop} (hh:A.handled = none) (h:FSt W F P fm l H s) (r:VR F (.tup xs) (.ref a)) (hz:xs.length ≤ big) (q:Q xs H) :
  wpAny (model W.prog W.w) A (pyIter (.ref a)) (IterPost W A P fm l F tgt fz Q) E s := by
 have h0 := h
 refine ex2_0 h fun PL m f => ?_; clear h
 have r' := r
 cases r' with
 | tup e rr =>
  refine wpAny_pyIter_tuple (in1_2 _ (f.hs.fk _ _ e) rfl ⟨_,rfl⟩) ?_
  refine ex0_1 (h0.guardNew { cls := .type "tuple_iterator",data := .fields #[.ref a,.int 0 0] } rfl) fun g d => ?_
  exact (in5_7 F H xs _ _ (PM.le_refl F) d (feed_tuple (a := a) (tgt := tgt) hh) (fun U U U U U U h => h) ⟨r,_,rfl,rfl,rfl⟩ g hz q)
theorem iter_bytes {b:Array UInt8} {t:Tok} {tgt:Expr} {fz:Bool} {Q:List V→Hp→Prop} (hh:A.handled = none) (h:FSt W F P fm l H s) (hz:(b.toList.map fun c => V.int c.toNat).length ≤ big) (q:Q (b.toList.map fun c => .int c.toNat) H) :
  wpAny (model W.prog W.w) A (pyIter (.bytes b t)) (IterPost W A P fm l F tgt fz Q) E s := by
 refine KBw.pyIter_bytes ?_
 refine ex0_1 (h.guardNew { cls := .type "bytes_iterator",data := .fields #[.bytes b t,.int 0 0] } rfl) fun g d => ?_
 exact (in5_7 F H _ _ _ (PM.le_refl F) d (feed_bytes (b := b) (t := t) (tgt := tgt) hh) (fun U U U U U U h => h) (in1_2 _ rfl rfl rfl) g hz q)
set_option tactic.hygienic true in
theorem rangeSize_eq {a b c:Int} (hc:0 < c):Builtin.Range.rangeSize a b c = (((b - a + c - 1) / c).toNat:Int) := by
 unfold Builtin.Range.rangeSize
 rw [if_pos hc]
 split
 ·rename_i h
  have e:b - a + c - 1 = (b - a - 1) + c * 1 := by omega
  rw [e,Int.add_mul_ediv_left _ _ (by omega)]
  have:0 ≤ (b - a - 1) / c := Int.ediv_nonneg (by omega) (by omega)
  omega
 ·rename_i h
  have:(b - a + c - 1) / c ≤ 0 := by
   have:(b - a + c - 1) / c < 1 := Int.ediv_lt_of_lt_mul hc (by omega)
   omega
  omega
theorem in63 {x:Int} (h:-4000000 ≤ x) (k:x ≤ 4000000):-2 ^ 63 ≤ x∧x < 2 ^ 63 := ⟨Int.le_trans (by decide) h,Int.lt_of_le_of_lt k (by decide)⟩
theorem range_small {a b c:Int} (ha:-400000 ≤ a∧a ≤ 400000) (hb:-400000 ≤ b∧b ≤ 400000) (hc:0 < c∧c ≤ 400000):Builtin.Range.small a b c = true∧(rangeL a b c).length ≤ big := by
 refine ⟨?_,?_⟩
 ·unfold Builtin.Range.small Builtin.Range.rangeSize
  simp only [Builtin.Range.rangeFitsLong,Bool.and_eq_true,Bool.or_eq_true,decide_eq_true_eq,beq_iff_eq,show c > 0 from hc.1,if_true]
  have A := in63 (Int.le_trans (by decide) ha.1) (Int.le_trans ha.2 (by decide))
  have B := in63 (Int.le_trans (by decide) hb.1) (Int.le_trans hb.2 (by decide))
  have C := in63 (Int.le_trans (by decide) (Int.le_of_lt hc.1)) (Int.le_trans hc.2 (by decide))
  by_cases hab:a < b
  ·have h0:0 ≤ b - a - 1 := by omega
   have q0 := Int.ediv_nonneg h0 (Int.le_of_lt hc.1)
   have q1 := Int.ediv_le_self c h0
   rw [if_pos hab]
   exact ⟨⟨⟨⟨A,B⟩,C⟩,in63 (by omega) (by omega)⟩,.inr (in63 (by omega) (by omega))⟩
  ·rw [if_neg hab]
   exact ⟨⟨⟨⟨A,B⟩,C⟩,in63 (by decide) (by decide)⟩,.inl rfl⟩
 ·unfold rangeL
  rw [List.length_map,List.length_range]
  exact Int.toNat_le.mpr (Int.le_trans (Int.le_of_lt (Int.ediv_lt_of_lt_mul hc.1 (by omega:b - a + c - 1 < 800001 * c))) (by decide))
theorem iter_range {a b c:Int} {r:Addr} {t u v:Tok} {tgt:Expr} {fz:Bool} {Q:List V→Hp→Prop} (hh:A.handled = none) (h:FSt W F P fm l H s) (hr:IsRange s.heap r a b c t u v) (hs:Builtin.Range.small a b c = true) (hc:0 < c) (hz:(rangeL a b c).length ≤ big) (q:Q (rangeL a b c) H) :
  wpAny (model W.prog W.w) A (pyIter (.ref r)) (IterPost W A P fm l F tgt fz Q) E s := by
 refine wpAny_pyIter_range hr hs ?_
 rw [rangeSize_eq hc]
 refine ex0_1 (h.guardNew { cls := .type "range_iterator",data := .fields #[rawInt a,rawInt ((((b - a + c - 1) / c).toNat:Nat):Int),rawInt c] } rfl) fun g d => ?_
 exact (in5_7 F H _ _ _ (PM.le_refl F) d (feed_range (lo := a) (st := c) (n := ((b - a + c - 1) / c).toNat) (tgt := tgt) hh) (fun U U U U U U h => h) (in1_1 _ rfl (by simp)) g hz q)
set_option tactic.hygienic true in
theorem iter_enum {xs:List V} {e I a:Addr} {old:Value} {es:List Expr} {x1:Nat} {pos:Pos} {fz:Bool} {Q:List V→Hp→Prop} (hh:A.handled = none) (f:FS0 W F P PL fm l H s m) (r:VR F (.lst xs) (.ref a)) (he:IsEnum s.heap e I 0 .none) (hI:s.heap.IsListIter I a 0)
  (fe:Free F (P.un PL) H e) (fI:Free F (P.un PL) H I) (ne:e ≠ I) (neL:e ≠ fm.env.locals) (nIL:I ≠ fm.env.locals) (hz:(xs.zipIdx.map fun p => V.tup [.int p.2,p.1]).length ≤ big) (q:Q (xs.zipIdx.map fun p => .tup [.int p.2,p.1]) H) :
  wpAny (model W.prog W.w) A (pyIter (.ref e)) (IterPost W A P fm l F (.Tuple es x1 pos) fz Q) E s := by
 refine wpAny_pyIter_enum he ?_
 refine ex1_2 hI fun o ho hc hd => ?_; clear hI
 refine ex0_1 (un_none fe.2.1) fun p1 p2 => ?_
 refine ex0_1 (un_none fI.2.1) fun p3 p4 => ?_
 have d:Dis P (PM.two e I (enumO I 0 .none) o) := fun b ob eb => by
  unfold PM.two
  rw [if_neg (fun q => by rw [q,p1] at eb; cases eb),if_neg (fun q => by rw [q,p3] at eb; cases eb)]
 refine (in5_7 F H _ _ _ (PM.le_refl F) d (feed_enum (lv := .lst xs) (a := a) hh) (fun U U U U U U h => h) ⟨rfl,r,ne,o,.none,rfl,hc,hd⟩ (f.guardI d ?_ ?_ ?_) hz q)
 ·have g1 := f.hs.toP fI ho
  have g2 := g1.toP (a := e) (o := enumO I 0 .none) ⟨fe.1,by rw [PM.set_ne _ _ ne]; exact fe.2.1,fe.2.2⟩ he
  have e2:((P.un PL).set I o).set e (enumO I 0 .none) = (P.un PL).un (PM.two e I (enumO I 0 .none) o) := by
   funext b
   unfold PM.set PM.un PM.two
   by_cases q1:b = e
   ·simp [q1]
   ·by_cases q2:b = I
    ·subst q2; simp [q1]
    ·simp [q1,q2]
  rw [← e2]; exact g2
 ·intro b ob q
  unfold PM.two at q
  split at q
  ·rename_i q2; rw [q2]; exact p2
  ·split at q
   ·rename_i q2; rw [q2]; exact p4
   ·cases q
 ·unfold PM.two
  rw [if_neg (Ne.symm neL),if_neg (Ne.symm nIL)]
end
section
variable {W:Wd} {F P PL PI:PM} {H:Hp} {s:Shared} {A:Around} {E:Value→Shared→Prop} {fm:Fm} {l:Loc} {m:Str→Option Value}
noncomputable def PM.emp:PM := fun U => none
theorem un_emp (P:PM):P.un PM.emp = P := by funext a; simp [PM.un,PM.emp]
theorem FS0.unguard {PI:PM} (f:FS0 W F (P.un PI) PL fm l H s m) (d:Dis P PI) (hn:∀ a o v,PI a = some o→o.data ≠ .cell v):FS0 W F P PL fm l H s m := by
 have dPL:Dis P PL := fun a o e => f.apart a o (d.le _ _ e)
 have le:(P.un PL).le ((P.un PI).un PL) := fun a o e => by
  unfold PM.un at e ⊢
  cases q2:PL a with
  | some o' => rw [q2] at e; simpa using e
  | none =>
   rw [q2] at e
   simp only [Option.none_or] at e ⊢
   rw [d a o e]; simpa using e
 refine ⟨f.ok,dPL,f.hs.lessP le,⟨f.free.1,?_,f.free.2.2⟩,f.ns,?_⟩
 ·cases q:(P.un PL) fm.env.locals with
  | none => rfl
  | some o => have := le _ _ q; rw [f.free.2.1] at this; cases this
 ·refine ⟨f.lr.loc,fun j y u hy hu => ?_,f.lr.own⟩
  refine ex3_3 (f.lr.cell j y u hy hu) fun c o rv hc ho hd hr => ?_
  refine (in3_3 c o rv hc ?_ hd hr)
  unfold PM.un at ho ⊢
  cases q2:PL c with
  | some o' => rw [q2] at ho; simpa using ho
  | none =>
   rw [q2] at ho
   simp only [Option.none_or] at ho ⊢
   cases q3:PI c with
   | some o' => rw [q3] at ho; cases ho; exact absurd hd (hn c o _ q3)
   | none => rw [q3] at ho; simpa using ho
theorem FS0.back2 {F' P2:PM} {H':Hp} {s':Shared} {oL:Obj} (f:FS0 W F P PL fm l H s m) (le:F.le F') (hP:P.le P2) (ap:∀ a o,P2 a = some o→PL a = none) (n:(P2.un PL) fm.env.locals = none)
  (h:HS W F' ((P2.un PL).set fm.env.locals oL) H' s') (hb:∀ (h:Heap),h.get? fm.env.locals = some oL→h.Ns fm.env.locals m):FSt W F' P2 fm l H' s' := by
 have eL:((P2.un PL).set fm.env.locals oL) fm.env.locals = some oL := PM.set_self ..
 refine (in2_0 PL m ⟨f.ok,ap,h.lessP (PM.le_set n),⟨?_,n,h.ph _ _ eL⟩,hb _ (h.pk _ _ eL),?_⟩)
 ·cases q:F' fm.env.locals with
  | none => rfl
  | some o => have := h.fp _ _ q; rw [eL] at this; cases this
 ·refine ⟨fun j y u hy hu => ?_,fun j y u hy hu => ?_,f.lr.own⟩
  ·obtain ⟨rv,a,b⟩ := f.lr.loc j y u hy hu; exact (in1_1 rv a (b.mono le))
  ·refine ex3_3 (f.lr.cell j y u hy hu) fun c o rv hc ho hd hr => ?_
   refine (in3_3 c o rv hc ?_ hd (hr.mono le))
   unfold PM.un at ho ⊢
   cases q2:PL c with
   | some o' => rw [q2] at ho; simpa using ho
   | none => rw [q2] at ho; simp only [Option.none_or] at ho ⊢; exact hP _ _ ho
noncomputable def fmC (scope:Scope) (cl:List (Str × Addr)) (C:Addr) (env:Env) (names:List (Str × Bool)):Fm := ⟨compEnvC scope cl C env,names,false⟩
noncomputable def cloAdd (p:Str × NameKind) (o:Option Addr) (acc:List (Str × Addr)):List (Str × Addr) := if p.2 == NameKind.free then o.elim acc fun c => (p.1,c) :: acc else acc
noncomputable def cloGo (env:Env):List (Str × NameKind)→List (Str × Addr)→List (Str × Addr)
 | [],acc => acc
 | p :: r,acc => cloGo env r (cloAdd p (env.cells.lookup p.1) acc)
theorem cloAdd_keep {env:Env} {x y:Str} {k:NameKind} {c:Addr} {acc:List (Str × Addr)} (hc:env.cells.lookup x = some c) (hm:acc.lookup x = some c):(cloAdd (y,k) (env.cells.lookup y) acc).lookup x = some c := by
 unfold cloAdd
 by_cases hk:(k == NameKind.free) = true
 ·rw [if_pos hk]
  cases e:env.cells.lookup y with
  | none => exact hm
  | some c' =>
   show List.lookup x ((y,c') :: acc) = some c
   rw [List.lookup_cons]
   cases q:x == y with
   | false => exact hm
   | true => rw [← beq_iff_eq.mp q,hc] at e; exact e.symm
 ·rw [if_neg hk]; exact hm
theorem cloGo_forIn {env:Env} {f:Str × NameKind→List (Str × Addr)→Sem (ForInStep (List (Str × Addr)))}
  (hf:∀ n k cs,f (n,k) cs = if k == NameKind.free then (do let a ← cellOf env n; pure (.yield ((n,a) :: cs))) else pure (.yield cs)) :
  ∀ (l:List (Str × NameKind)) (acc:List (Str × Addr)),(∀ x ∈ l,x.2 = .free→∃ c,env.cells.lookup x.1 = some c)→forIn l acc f = (pure (cloGo env l acc):Sem _) := by
 intro l
 induction l with
 | nil => intro acc _; rfl
 | cons p r ih =>
  intro acc h
  obtain ⟨x,k⟩ := p
  have hr:∀ y ∈ r,y.2 = .free→∃ c,env.cells.lookup y.1 = some c := fun y hy => h y (.tail _ hy)
  rw [List.forIn_cons,hf]
  show _ = pure (cloGo env r (cloAdd (x,k) (env.cells.lookup x) acc))
  unfold cloAdd
  cases hk:k == NameKind.free with
  | false =>
   simp only [Bool.false_eq_true,if_false]
   exact ih acc hr
  | true =>
   refine ex1_0 (h (x,k) (.head _) (by simpa using hk)) fun c hc => ?_
   simp only [if_true,hc,cellOf,Option.elim]
   exact ih _ hr
theorem cloGo_lookup {env:Env}:∀ (l:List (Str × NameKind)) (acc:List (Str × Addr)) (x:Str) (c:Addr),env.cells.lookup x = some c→((x,NameKind.free) ∈ l ∨ acc.lookup x = some c)→(cloGo env l acc).lookup x = some c := by
 intro l
 induction l with
 | nil => intro acc x c hc h; rcases h with h | h; cases h; exact h
 | cons p r ih =>
  intro acc x c hc h
  obtain ⟨y,k⟩ := p
  show (cloGo env r (cloAdd (y,k) (env.cells.lookup y) acc)).lookup x = some c
  rcases h with h | h
  ·rcases List.mem_cons.mp h with e | h
   ·cases e
    refine ih _ x c hc (.inr ?_)
    rw [hc]; simp [cloAdd,List.lookup_cons]
   ·exact ih _ x c hc (.inl h)
  ·exact ih _ x c hc (.inr (cloAdd_keep hc h))
theorem closureFor_ok {scope:Scope} {env:Env} (h:∀ x ∈ scope.names,x.2 = .free→∃ c,env.cells.lookup x.1 = some c) :
  closureFor scope env = pure (cloGo env scope.names []) := by
 unfold closureFor
 dsimp only
 rw [cloGo_forIn (env := env) (fun n k cs => by cases h:k == NameKind.free <;> simp [h]) scope.names [] h]
 rfl
structure CmpOk (fm:Fm) (scope:Scope) (names:List (Str × Bool)) (nl:Nat) (caps:List Nat):Prop where
 kind:scope.kind = .function
 nocell:∀ x ∈ scope.names,x.2 ≠ .cell
 free:∀ x ∈ scope.names,x.2 = .free→(x.1,true) ∈ fm.names∧fm.own = true
 lnames:∀ x ∈ scope.names,x.2 = .local→scope.names.lookup x.1 = some .local
 nodup:(names.map (·.1)).Nodup
 lno:∀ (i:Nat) x,names[i]? = some (x,false)→i < nl∧scope.names.lookup x = some .local
 cap:∀ (i:Nat) x,names[i]? = some (x,true)→nl ≤ i∧(x,NameKind.free) ∈ scope.names∧scope.names.lookup x = some .free∧∃ j,caps[i - nl]? = some j∧fm.names[j]? = some (x,true)
theorem relabel_free {env:Env} {x:Str} (hk:env.scope.kind = .function) (hx:env.kindOf x = some .cell):∀ {names:List (Str × NameKind)},names.lookup x = some .free →
  (names.map fun (n,k) => if (k == NameKind.free && env.scope.kind == .function && env.kindOf n == some .cell) then (n,NameKind.cell) else (n,k)).lookup x = some .cell
 | [],h => by simp at h
 | (n,k) :: r,h => by
  have ih := @relabel_free env x hk hx r
  show List.lookup x ((if (k == NameKind.free && env.scope.kind == .function && env.kindOf n == some .cell) = true then (n,NameKind.cell) else (n,k)) :: _) = _
  cases e:x == n with
  | true =>
   simp only [List.lookup_cons,e] at h
   cases h
   have := beq_iff_eq.mp e; subst this
   simp [List.lookup_cons,hk,hx]
  | false =>
   simp only [List.lookup_cons,e] at h
   by_cases hc:(k == NameKind.free && env.scope.kind == .function && env.kindOf n == some .cell) = true
   ·rw [if_pos hc]; simp only [List.lookup_cons,e]; exact ih h
   ·rw [if_neg hc]; simp only [List.lookup_cons,e]; exact ih h
theorem FS0.mem_own {x:Str} (f:FS0 W F P PL fm l H s m) (hx:(x,true) ∈ fm.names) (ho:fm.own = true):∃ c,fm.env.cells.lookup x = some c :=
 ex3_3 (f.lr.own ho x hx) fun c U U hc U U U => ⟨c,hc⟩
theorem CmpOk.fmOk {scope:Scope} {names:List (Str × Bool)} {nl:Nat} {caps:List Nat} {cl:List (Str × Addr)} {C:Addr} (c:CmpOk fm scope names nl caps) (ok:FmOk fm):FmOk (fmC scope cl C fm.env names) where
 kind := c.kind
 glob := ok.glob
 bi := ok.bi
 loc := fun x hx => by
  refine ex1_0 (List.mem_iff_getElem?.mp hx) fun i hi => ?_
  exact lookup_relabel_local (c.lno i x hi).2
 cell := fun x hx => by
  refine og fun G hG => ?_
  refine ex1_0 (List.mem_iff_getElem?.mp hx) fun i hi => ?_
  refine ex0_3 (c.cap i x hi) fun U U hl xq1 => ?_
  refine ex1_1 xq1 fun j U hj => ?_; clear xq1
  refine hG ?_; clear hG G
  exact relabel_free ok.kind (ok.cell x (List.mem_of_getElem? hj)) hl
 nodup := c.nodup
noncomputable def baseC (nl:Nat) (caps:List Nat) (l:Loc):Loc := List.replicate nl none ++ caps.map fun i => (l[i]?).join
theorem baseC_get {nl:Nat} {caps:List Nat} {i:Nat} {v:V} (h:(baseC nl caps l)[i]? = some (some v)):nl ≤ i∧∃ j,caps[i - nl]? = some j∧l[j]? = some (some v) := by
 unfold baseC at h
 by_cases q:i < nl
 ·rw [List.getElem?_append_left (by simpa using q),List.getElem?_replicate,if_pos q] at h
  cases h
 ·rw [List.getElem?_append_right (by simpa using q),List.length_replicate,List.getElem?_map] at h
  refine ex1_1 (Option.map_eq_some_iff.mp h) fun j hj e => ?_
  refine ⟨by exact Nat.le_of_not_lt q,j,hj,?_⟩
  cases q2:l[j]? with
  | none => rw [q2] at e; cases e
  | some w => rw [q2] at e; rw [show w = some v from e]
noncomputable def CompEnd (W:Wd) (P:PM) (fm:Fm) (l:Loc) (F:PM) (H:Hp) (Q:List V→Prop) (acc:Value) (C:Addr) (r:Result) (s':Shared):Prop :=
 ∃ F' D o oC xs mC,PM.le F F'∧acc = .ref D∧r = .ok .next∧(∀ h:Heap,h.get? C = some oC→h.Ns C mC)∧(∀ v,oC.data ≠ .cell v)∧AccAt F' o xs∧Q xs ∧
  FSt W F' ((P.un (PM.one C oC)).un (PM.one D o)) fm l H s'∧Dis P (PM.one C oC)∧Dis (P.un (PM.one C oC)) (PM.one D o)
theorem CmpOk.hbase {scope:Scope} {names:List (Str × Bool)} {nl:Nat} {caps:List Nat} {tg:Tg} {target:Expr} (c:CmpOk fm scope names nl caps) (hk:okT names tg target = true) {base:Loc} (hb:∀ (i:Nat) u,base[i]? = some (some u)→nl ≤ i) :
  ∀ v l',bindT tg v base = some l'→∀ (i:Nat) u,base[i]? = some (some u)→l'[i]? = some (some u) := by
 have setl:∀ (is:List Nat) (xs:List V) (es:List Expr) (l₁:Loc),okTs names is es = true→∀ (i:Nat) u,nl ≤ i→l₁[i]? = some (some u)→((is.zip xs).foldl (fun l p => l.set p.1 (some p.2)) l₁)[i]? = some (some u) := by
  intro is
  induction is with
  | nil => intro xs es l₁ _ i u _ h; exact h
  | cons a r ih =>
   intro xs es l₁ hk i u hn h
   cases es with
   | nil => cases hk
   | cons e es =>
    refine og fun G hG => ?_
    refine ex2_2 (okTs_cons hk) fun x p xq2 h1 h2 => ?_
    obtain rfl := xq2
    refine hG ?_; clear hG G
    cases xs with
    | nil => exact h
    | cons y ys =>
     refine ih ys es _ h2 i u hn ?_
     have := (c.lno a x h1).1
     rw [List.getElem?_set_ne (by lia)]; exact h
 intro v l' hb' i u hu
 cases tg with
 | one a =>
  refine og fun G hG => ?_
  refine ex2_1 (okT_one hk) fun x p xq3 hk' => ?_
  obtain rfl := xq3
  refine hG ?_; clear hG G
  cases hb'
  have := (c.lno a _ hk').1
  have := hb i u hu
  rw [List.getElem?_set_ne (by lia)]; exact hu
 | many is =>
  refine og fun G hG => ?_
  refine ex3_1 (okT_many hk) fun es k p xq4 hk' => ?_
  obtain rfl := xq4
  refine ex1_2 (bindT_many hb') fun xs xq5 hl xq6 => ?_
  obtain rfl := xq5
  obtain rfl := xq6
  refine hG ?_; clear hG G
  exact setl is xs es base hk' i u (hb i u hu) hu
set_option tactic.hygienic true in
theorem comp_leave {F':PM} {fc:Fm} {l':Loc} {D:Addr} {oL o':Obj} {xs:List V} {s':Shared} {Q:List V→Prop} (f0:FS0 W F P PL fm l H s m) (hPLL:(P.un PL) fm.env.locals = none)
  (hb:∀ (h:Heap),h.get? fm.env.locals = some oL→h.Ns fm.env.locals m) (n1G:((P.un PL).set fm.env.locals oL) D = none) (le:F.le F') (ha:AccAt F' o' xs) (hq:Q xs)
  (h:FSt W F' (((P.un PL).set fm.env.locals oL).un (PM.one D o')) fc l' H s'):CompEnd W P fm l F H Q (.ref D) fc.env.locals (.ok .next) s' := by
 have hG:∀ a o,(P.un PL) a = some o→((P.un PL).set fm.env.locals oL) a = some o := PM.le_set hPLL
 have hGL:((P.un PL).set fm.env.locals oL) fm.env.locals = some oL := PM.set_self ..
 generalize hGe:(P.un PL).set fm.env.locals oL = G at *
 have hDL:D ≠ fm.env.locals := fun q => by rw [q,hGL] at n1G; cases n1G
 refine ex2_0 h fun PL' m' f' => ?_
 have g3:HS W F' (G.un (PM.one D o')) H s' := f'.hs.lessP (Dis.le fun a o e => f'.apart a o e)
 have n3:Free F' (G.un (PM.one D o')) H fc.env.locals := ⟨f'.free.1,(un_none f'.free.2.1).1,f'.free.2.2⟩
 refine ex3_3 f'.ns fun oC es ep hoC hdC hkC hmC => ?_
 have g4 := g3.toP n3 hoC
 clear f' g3
 generalize fc.env.locals = C at *
 have n1P:P D = none∧PL D = none := un_none (by
  cases q:(P.un PL) D with
  | none => rfl
  | some o => have := hG _ _ q; rw [n1G] at this; cases this)
 have hCD:C ≠ D := fun q => by have := n3.2.1; rw [q] at this; simp [PM.un,PM.one] at this
 have n3G:G C = none := (un_none n3.2.1).1
 have n3P:P C = none∧PL C = none := un_none (by
  cases q:(P.un PL) C with
  | none => rfl
  | some o => have := hG _ _ q; rw [n3G] at this; cases this)
 have hCL:C ≠ fm.env.locals := fun q => by rw [q,hGL] at n3G; cases n3G
 have dP1:Dis P (PM.one C oC) := Dis.one n3P.1 oC
 have dP2:Dis (P.un (PM.one C oC)) (PM.one D o') := Dis.one (by unfold PM.un PM.one; rw [if_neg (Ne.symm hCD)]; simpa using n1P.1) o'
 have hPLL1 := un_none hPLL
 have e:(((P.un (PM.one C oC)).un (PM.one D o')).un PL).set fm.env.locals oL = (G.un (PM.one D o')).set C oC := by
  rw [← hGe]
  funext a
  unfold PM.un PM.one PM.set
  by_cases q1:a = fm.env.locals
  ·subst q1; simp [Ne.symm hDL,Ne.symm hCL]
  ·by_cases q2:a = C
   ·subst q2; simp [hCD,q1,n3P]
   ·by_cases q3:a = D
    ·subst q3; simp [q1,q2,n1P]
    ·simp [q1,q2,q3]
 refine (in6_9 F' D o' oC xs m' le rfl rfl (fun h e => (in3_3 oC es ep e hdC hkC hmC)) (fun v => (by rw [hdC]; intro e; cases e)) ha hq (f0.back2 (oL := oL) le (PM.le_trans (Dis.le dP1) (Dis.le dP2)) (fun a o e => ?_) ?_ (by rw [e]; exact g4) hb) dP1 dP2)
 ·unfold PM.un PM.one at e
  split at e
  ·rename_i q; rw [q]; exact n1P.2
  ·simp only [Option.none_or] at e
   split at e
   ·rename_i q; rw [q]; exact n3P.2
   ·exact f0.apart a o (by simpa using e)
 ·unfold PM.un PM.one
  rw [if_neg (Ne.symm hDL),if_neg (Ne.symm hCL)]
  simp [hPLL1]
theorem comp_open {scope:Scope} {names:List (Str × Bool)} {nl:Nat} {caps:List Nat} {s0:Shared} {G:PM} {D:Addr} {o0:Obj} {K:Env→Shared→Prop}
  (c:CmpOk fm scope names nl caps) (f0:FS0 W F P PL fm l H s0 m) (hG:∀ a o,(P.un PL) a = some o→G a = some o) (dGD:Dis (G.un (PM.one D o0)) PI) (n1G:G D = none) (g1:HS W F ((G.un (PM.one D o0)).un PI) H s)
  (k:∀ C s' cenv,({ cenv with scope := relabel scope fm.env }:Env) = compEnvC scope (cloGo fm.env scope.names []) C fm.env→cenv.locals = C→FSt W F ((G.un (PM.one D o0)).un PI) (fmC scope (cloGo fm.env scope.names []) C fm.env names) (baseC nl caps l) H s'→K cenv s') :
  wk (model W.prog W.w) A (newFunctionEnv scope fm.env.globals (cloGo fm.env scope.names []) [] fm.env.qual none .none (some fm.env)) K E s := by
 refine up (wpAny_newFunctionEnv c.nocell (by intro y hy; cases hy) (fun h₁ hns₁ hsb₁ => ?_) c.kind)
 have n2 := g1.new
 have g2 := ((g1.push { cls := .type (if (some fm.env).isSome then "dict" else "frame"),data := .dict #[] }).ext (h' := h₁) n2 hsb₁.extBut).tok (s.toks + ([]:List (Str × Value)).length)
 generalize s.heap.objs.size = C at *
 have hns₁:h₁.Ns C (fun U => none) := hns₁
 refine k C _ _ rfl rfl (in2_0 PM.emp _ ⟨c.fmOk f0.ok,fun U U U => rfl,by rw [un_emp]; exact g2,by rw [un_emp]; exact n2,hns₁,fun i x v hi hv => ?_,fun i x v hi hv => ?_,fun ho => by cases ho⟩)
 ·have := (baseC_get hv).1
  have := (c.lno i x hi).1
  lia
 ·refine ex0_1 (baseC_get hv) fun h1 xq7 => ?_
  refine ex1_1 xq7 fun j hj hjv => ?_; clear xq7
  refine og fun G hG => ?_
  refine ex0_3 (c.cap i x hi) fun h2 hmem hlk xq8 => ?_
  refine ex1_1 xq8 fun j' hj' hx => ?_; clear xq8
  refine hG ?_; clear hG G
  rw [hj] at hj'; cases hj'
  refine ex3_3 (f0.lr.cell j x v hx hjv) fun cc oc rv hc hoc hdc hrc => ?_
  exact (in3_3 cc oc rv (cloGo_lookup _ _ _ _ hc (.inl hmem)) (by rw [un_emp]; exact Dis.le dGD _ _ (by
   unfold PM.un PM.one
   rw [if_neg (fun q => by rw [q] at hoc; rw [hG _ _ hoc] at n1G; cases n1G)]
   simpa using hG _ _ hoc)) hdc hrc)
set_option tactic.hygienic true in
theorem comp_enter {scope:Scope} {names:List (Str × Bool)} {nl:Nat} {caps:List Nat} {e:Expr} {it:Value} {Q:List V→Prop}
  (c:CmpOk fm scope names nl caps) (d:Dis P PI) (hn:∀ a o v,PI a = some o→o.data ≠ .cell v) (h:FSt W F (P.un PI) fm l H s)
  (k:∀ (G:PM) (C D:Addr) (o:Obj) (s':Shared),Dis (G.un (PM.one D o)) PI→G D = none→AccAt F o []→FSt W F ((G.un (PM.one D o)).un PI) (fmC scope (cloGo fm.env scope.names []) C fm.env names) (baseC nl caps l) H s' →
   (∀ (R:Result→Shared→Prop),(∀ F' o' xs l' s',F.le F'→AccAt F' o' xs→FSt W F' (G.un (PM.one D o')) (fmC scope (cloGo fm.env scope.names []) C fm.env names) l' H s'→Q xs→R (.ok .next) s') →
    kc (model W.prog W.w) A (.compStart e 0 it (.ref D) (compEnvC scope (cloGo fm.env scope.names []) C fm.env)) R s')) :
  wk (model W.prog W.w) A (newList []) (fun acc s₃ => wk (model W.prog W.w) A (newFunctionEnv scope fm.env.globals (cloGo fm.env scope.names []) [] fm.env.qual none .none (some fm.env)) (fun cenv s₄ =>
   kc (model W.prog W.w) A (.compStart e 0 it acc { cenv with scope := relabel scope fm.env }) (CompEnd W P fm l F H Q acc cenv.locals) s₄) E s₃) E s := by
 refine og fun G hG => ?_
 refine ex2_0 h fun PL m f => ?_; clear h
 have f0 := f.unguard d hn
 refine ex1_2 f.guard fun oL hoL hg hb => ?_
 refine hG ?_; clear hG G
 have dIL:Dis PI PL := fun a o e => f.apart a o (Dis.right _ _ e)
 have hPIL:PI fm.env.locals = none := (un_none (un_none f.free.2.1).1).2
 have hPLL:(P.un PL) fm.env.locals = none := f0.free.2.1
 rw [un_comm dIL,← un_set_comm hPIL] at hg
 clear f
 have dG:Dis ((P.un PL).set fm.env.locals oL) PI := fun a o e => by
  unfold PM.set at e
  split at e
  ·rename_i q; rw [q]; exact hPIL
  ·unfold PM.un at e
   cases q2:PL a with
   | none => rw [q2] at e; exact d a o (by simpa using e)
   | some o' =>
    cases q3:PI a with
    | none => rfl
    | some o2 => have := dIL a o2 q3; rw [q2] at this; cases this
 have hG:∀ a o,(P.un PL) a = some o→((P.un PL).set fm.env.locals oL) a = some o := PM.le_set hPLL
 generalize hGe:(P.un PL).set fm.env.locals oL = G at *
 have n1 := hg.new
 have n1G := (un_none n1.2.1).1
 have n1I := (un_none n1.2.1).2
 refine up (wpAny_newObj_type ?_ (by size_fits))
 have g1 := (hg.push { cls := .type "list",data := .seq ([]:List Value).toArray }).toP (s := { s with heap := s.heap.push { cls := .type "list",data := .seq ([]:List Value).toArray } }) n1 (Heap.get?_push_size _ rfl)
 rw [← un_set_comm n1I,set_one n1G] at g1
 generalize s.heap.objs.size = D at *
 generalize ({ s with heap := s.heap.push { cls := .type "list",data := .seq ([]:List Value).toArray } }:Shared) = s1 at *
 have dGD:Dis (G.un (PM.one D { cls := .type "list",data := .seq ([]:List Value).toArray })) PI := fun a o e => by
  unfold PM.un PM.one at e
  split at e
  ·rename_i q; rw [q]; exact n1I
  ·exact dG a o (by simpa using e)
 subst hGe
 refine comp_open c f0 hG dGD n1G g1 (fun C s' cenv e1 e2 hF => ?_)
 rw [e1,e2]
 exact k _ C D _ s' dGD n1G ⟨⟨rfl,rfl⟩,_,_,rfl,.nil⟩ hF _ fun F' o' xs l' s2 a1 a2 a3 a4 => comp_leave f0 hPLL hb n1G a1 a2 a4 a3
theorem FSt.unguardExt {a:Addr} {o:Obj} {h':Heap} (h:FSt W F (P.un (PM.one a o)) fm l H s) (d:Dis P (PM.one a o)) (ho:∀ v,o.data ≠ .cell v) (hs:Heap.SameBut a s.heap h'):FSt W F P fm l H { s with heap := h' } := by
 refine ex2_0 h fun PL m f => ?_; clear h
 have e1:((P.un (PM.one a o)).un PL) a = some o := by simp [PM.un,f.apart a o (Dis.right _ _ (PM.one_self a o)),PM.one]
 have ne:a ≠ fm.env.locals := fun q => by have h9 := f.free.2.1; rw [← q,e1] at h9; cases h9
 have nPL := f.apart a o (Dis.right _ _ (PM.one_self a o))
 have nP:P a = none := by
  cases q:P a with
  | none => rfl
  | some o' => have := d a o' q; rw [PM.one_self] at this; cases this
 have f0 := f.unguard d (fun b ob v e => by rw [one_get e]; exact ho v)
 have fa:Free F (P.un PL) H a := by
  refine ⟨?_,by simp [PM.un,nP,nPL],f.hs.ph _ _ e1⟩
  cases q:F a with
  | none => rfl
  | some o' => have := f.hs.fp _ _ q; rw [e1] at this; cases this
 exact (in2_0 PL m ⟨f0.ok,f0.apart,f0.hs.ext fa hs.extBut,f0.free,f0.ns.sameBut hs (Ne.symm ne),f0.lr⟩)
theorem acc_done {D:Addr} {o:Obj} {mu:Bool} {xs:List V} {Q:V→Hp→Prop} (h:FSt W F (P.un (PM.one D o)) fm l H s) (d:Dis P (PM.one D o)) (ha:AccAt F o xs) (q:mk mu xs Q H):Post W P fm l F Q (.ref D) s := by
 refine og fun G hG => ?_
 refine ex0_1 ha fun hc xq9 => ?_; clear ha
 refine ex2_1 xq9 fun its n hd r => ?_; clear xq9
 refine ex2_0 h fun PL m f => ?_; clear h
 refine hG ?_; clear hG G
 have e1:((P.un (PM.one D o)).un PL) D = some o := by simp [PM.un,f.apart D o (Dis.right _ _ (PM.one_self D o)),PM.one]
 have ne:D ≠ fm.env.locals := fun q => by have h9 := f.free.2.1; rw [← q,e1] at h9; cases h9
 have nPL := f.apart D o (Dis.right _ _ (PM.one_self D o))
 have nP:P D = none := by
  cases q:P D with
  | none => rfl
  | some o' => have := d D o' q; rw [PM.one_self] at this; cases this
 have f0 := f.unguard d (fun b ob v e => by rw [one_get e,hd]; intro e; cases e)
 have fa:Free F (P.un PL) H D := by
  refine ⟨?_,by simp [PM.un,nP,nPL],f.hs.ph _ _ e1⟩
  cases q:F D with
  | none => rfl
  | some o' => have := f.hs.fp _ _ q; rw [e1] at this; cases this
 exact made_at f0 fa ne (f.hs.pk _ _ e1) r hc (by rw [hd]) q
end
section
variable {W:Wd} {F P PL PI:PM} {H:Hp} {s:Shared} {A:Around} {E:Value→Shared→Prop} {fm:Fm} {l:Loc} {m:Str→Option Value}
noncomputable def IterOk (W:Wd) (A:Around) (fm:Fm) (tgt:Expr) (fz:Bool) (iter:Expr) (T:Loc→(List V→Hp→Prop)→Hp→Prop):Prop :=
 ∀ {F P:PM} {l:Loc} {H:Hp} {s:Shared} {E:Value→Shared→Prop} {Q:List V→Hp→Prop},FSt W F P fm l H s→T l Q H →
  wk (model W.prog W.w) A (eval iter fm.env) (fun x s₁ => wk (model W.prog W.w) A (pyIter x) (IterPost W A P fm l F tgt fz Q) E s₁) E s
theorem compTurn_at (elt target iter:Expr) (ifs:List Expr) (g:Comprehension) (scope:Scope) (pos:Pos) (it acc:Value) (env:Env) :
  compTurn (.ListComp elt [g,⟨target,iter,ifs,0⟩] scope pos) 1 it acc env = (do
   standAt iter.pos
   match ← pyNext it with
   | none => pure (.done .next)
   | some v =>
    letOwnedTupleGo target it v
    assign target env v
    let mut ok := true
    for c in ifs do
     if ok then ok ← isTrue c env (eval c env)
    if ok then
     (do let _ ← call (.builtin "list.append") [acc,← eval elt env])
    again (.compLoop (.ListComp elt [g,⟨target,iter,ifs,0⟩] scope pos) 1 it acc env)) := by rfl
theorem compTurn_two (elt target iter target2 iter2:Expr) (scope:Scope) (pos:Pos) (it acc:Value) (env:Env) :
  compTurn (.ListComp elt [⟨target,iter,[],0⟩,⟨target2,iter2,[],0⟩] scope pos) 0 it acc env = (do
   standAt iter.pos
   match ← pyNext it with
   | none => pure (.done .next)
   | some v =>
    letOwnedTupleGo target it v
    assign target env v
    let x ← eval iter2 env
    standAt iter2.pos
    let x ← foldedSetIterable iter2 env x
    let _ ← runOwn (.compStart (.ListComp elt [⟨target,iter,[],0⟩,⟨target2,iter2,[],0⟩] scope pos) 1 (← holding [x] (pyIter x)) acc env) env
    again (.compLoop (.ListComp elt [⟨target,iter,[],0⟩,⟨target2,iter2,[],0⟩] scope pos) 0 it acc env)) := by rfl
theorem kc_compStart {prog:Program} {w:World} {R:Result→Shared→Prop} {elt:Expr} {gens:List Comprehension} {g:Comprehension} {dep:Nat} {scope:Scope} {pos:Pos} {it acc:Value} {env:Env} (hg:gens[dep]? = some g) (ha:g.is_async = 0)
  (h0:kc (model prog w) A (.compLoop (.ListComp elt gens scope pos) dep it acc env) R s)
  (h:wk (model prog w) A (pyIter it) (fun it' s' => kc (model prog w) A (.compLoop (.ListComp elt gens scope pos) dep it' acc env) R s') (fun U U => False) s) :
  kc (model prog w) A (.compStart (.ListComp elt gens scope pos) dep it acc env) R s := by
 refine kc_of_tree ?_
 show wk _ A ((compStart (.ListComp elt gens scope pos) dep it acc env).onRaise (fun x => do noteFrame x env; standAt theWindowsPlace)) _ _ s
 refine wk_onRaise ?_
 have e1:((clausesOf (.ListComp elt gens scope pos))[dep]?).elim false (·.is_async != 0) = false := by
  show (gens[dep]?).elim false _ = false
  rw [hg]; simp [ha]
 have e2:(clausesOf (.ListComp elt gens scope pos))[dep]? = some g := hg
 unfold compStart
 rw [e1]
 simp only [Bool.false_eq_true,if_false]
 show wk _ A (ask >>= _) _ _ s
 refine wk_bind (up (wpAny_askSetting ?_))
 split
 ·first
   | exact wk_bind (wk_pure (wk_pure ⟨⟨rfl,rfl⟩,h0⟩))
   | exact wk_pure ⟨⟨rfl,rfl⟩,h0⟩
 ·refine wk_bind (wk_rule ?_)
  rw [e2]
  dsimp only
  refine wk_bind (wk_standAt ?_)
  exact wk_bind (wk_mono h (fun it' s' h' => wk_pure ⟨⟨rfl,rfl⟩,h'⟩) fun U U x => x)
theorem feed_again {PP PI:PM} {tgt:Expr} {it:Value} {items:List V} {J:PM→Hp→PM→Nat→Prop} {i:Nat} {Q:Value→Shared→Prop} (fd:Feed W A tgt it items J) (hj:J F H PI i) (h:FSt W F (PP.un PI) fm l H s) (q:Q it s):wk (model W.prog W.w) A (pyIter it) Q E s := by
 refine ex2_0 h fun PL' m' f' => ?_; clear h
 refine up (fd.again (P := PP.un PL') (PI := PI) hj ?_ q)
 rw [un_comm fun a oa ea => by
  cases q:PI a with
  | none => rfl
  | some o' => have := f'.apart a o' (Dis.right _ _ q); rw [ea] at this; cases this]
 exact f'.hs
theorem comp1_run {elt target iter:Expr} {ifs:List Expr} {scope:Scope} {pos:Pos} {names:List (Str × Bool)} {nl:Nat} {caps:List Nat} {tg:Tg} {it:Value} {items:List V} {J:PM→Hp→PM→Nat→Prop}
  {TE:Loc→(V→Hp→Prop)→Hp→Prop} {TC:Loc→(Bool→Hp→Prop)→Hp→Prop} {Q:List V→Hp→Prop}
  (c:CmpOk fm scope names nl caps) (hh:A.handled = none) (hk:okT names tg target = true)
  (he:∀ C,EltOk W A (fmC scope (cloGo fm.env scope.names []) C fm.env names) elt TE) (hc:∀ C,CondOk W A (fmC scope (cloGo fm.env scope.names []) C fm.env names) ifs TC)
  (fd:Feed W A target it items J) (h0:J F H PI 0) (d:Dis P PI) (h:FSt W F (P.un PI) fm l H s) (hz:items.length ≤ big) (q:compW TE TC tg (baseC nl caps l) items [] Q H) :
  wk (model W.prog W.w) A (newList []) (fun acc s₃ => wk (model W.prog W.w) A (newFunctionEnv scope fm.env.globals (cloGo fm.env scope.names []) [] fm.env.qual none .none (some fm.env)) (fun cenv s₄ =>
   kc (model W.prog W.w) A (.compStart (.ListComp elt [⟨target,iter,ifs,0⟩] scope pos) 0 it acc { cenv with scope := relabel scope fm.env }) (CompEnd W P fm l F H (fun xs => Q xs H) acc cenv.locals) s₄) E s₃) E s := by
 refine comp_enter c d (fun a o v e => fd.nocell h0 e) h (fun G C D o s' dG hGD ha h' R hR => ?_)
 have loop:kc (model W.prog W.w) A (.compLoop (.ListComp elt [⟨target,iter,ifs,0⟩] scope pos) 0 it (.ref D) (compEnvC scope (cloGo fm.env scope.names []) C fm.env)) R s' :=
  comp_loop (fm := fmC scope (cloGo fm.env scope.names []) C fm.env names) loop_den rfl rfl (fun it acc env => compTurn_list elt target iter ifs scope pos it acc env) hh fd hk (c.hbase hk fun i u hu => (baseC_get hu).1) (he C) (hc C) h0 dG hGD ha (by simpa using hz) h' q
   (fun F' o' xs s' a1 a2 a3 a4 => hR F' o' xs _ s' a1 a2 a3 a4)
 exact kc_compStart (dep := 0) rfl rfl loop (feed_again fd h0 h' loop)
set_option tactic.hygienic true in
theorem comp2_inner {ce target2 iter2 elt:Expr} {it2:Value} {items2:List V} {J5:PM→Hp→PM→Nat→Prop} {tg2:Tg} {D:Addr} {o:Obj} {PI2 PI5:PM}
  {TE:Loc→(V→Hp→Prop)→Hp→Prop} {l2:Loc} {acc:List V} {Q:List V→Hp→Prop} {R:Result→Shared→Prop}
  (hl1:∀ {it Q E s},wk (model W.prog W.w) A (compTurn ce 1 it (.ref D) fm.env) Q (fun U U => False) s→wk (model W.prog W.w) (A.under (.compLoop ce 1 it (.ref D) fm.env)) ((model W.prog W.w).den (.compLoop ce 1 it (.ref D) fm.env)) Q E s)
  (hq:∀ {it},(Code.compLoop ce 1 it (.ref D) fm.env).quiet = true) (hcl:∀ {it},cln (.compLoop ce 1 it (.ref D) fm.env) = true)
  (hst:∀ {it R s},kc (model W.prog W.w) A (.compLoop ce 1 it (.ref D) fm.env) R s→wk (model W.prog W.w) A (pyIter it) (fun it' s' => kc (model W.prog W.w) A (.compLoop ce 1 it' (.ref D) fm.env) R s') (fun U U => False) s→kc (model W.prog W.w) A (.compStart ce 1 it (.ref D) fm.env) R s)
  (hT:∀ it acc env,compTurn ce 1 it acc env = (do
   standAt iter2.pos
   match ← pyNext it with
   | none => pure (.done .next)
   | some v =>
    letOwnedTupleGo target2 it v
    assign target2 env v
    let mut ok := true
    for c in ([]:List Expr) do
     if ok then ok ← isTrue c env (eval c env)
    if ok then
     (do let _ ← call (.builtin "list.append") [acc,← eval elt env])
    again (.compLoop ce 1 it acc env)))
  (hh:A.handled = none) (fd:Feed W A target2 it2 items2 J5) (hk2:okT fm.names tg2 target2 = true) (hb:∀ v' l',bindT tg2 v' l2 = some l'→∀ (i:Nat) u,l2[i]? = some (some u)→l'[i]? = some (some u)) (he:EltOk W A fm elt TE)
  (dD:P D = none) (hPD2:PI2 D = none) (hj:J5 F H PI5 0) (d5:Dis ((P.un (PM.one D o)).un PI2) PI5) (ha:AccAt F o acc) (hz:acc.length + items2.length ≤ big) (h5:FSt W F (((P.un (PM.one D o)).un PI2).un PI5) fm l2 H s)
  (q:compW TE (fun U Q H => Q true H) tg2 l2 items2 acc Q H)
  (hR:∀ F' o' xs s',F.le F'→AccAt F' o' xs→FSt W F' ((P.un (PM.one D o')).un PI2) fm l2 H s'→Q xs H→R (.ok .next) s'):kc (model W.prog W.w) A (.compStart ce 1 it2 (.ref D) fm.env) R s := by
 have cm:∀ o,(P.un (PM.one D o)).un PI2 = (P.un PI2).un (PM.one D o) := fun o => un_comm fun a oa ea => by
  unfold PM.one at ea
  split at ea
  ·rename_i qa; rw [qa]; exact hPD2
  ·cases ea
 have hD5:(P.un PI2) D = none := by simp [PM.un,dD,hPD2]
 have h0 := h5
 rw [cm] at h5 d5
 have loop:kc (model W.prog W.w) A (.compLoop ce 1 it2 (.ref D) fm.env) R s :=
  comp_loop (ce := ce) (iter := iter2) (elt := elt) (ifs := []) (P := P.un PI2) (D := D) (o := o) hl1 hq hcl hT hh fd hk2 hb he (fun hF hq => wk_pure (in2_2 _ _ (PM.le_refl _) hF hq)) hj d5 hD5 ha hz h5 q
   (fun F' o' xs s' a1 a2 a3 a4 => hR F' o' xs s' a1 a2 (by rw [cm]; exact a3) a4)
 exact hst loop (feed_again fd hj h0 loop)
theorem comp2_loop {ce elt target iter target2 iter2:Expr} {it:Value} {items:List V} {J:PM→Hp→PM→Nat→Prop} {tg tg2:Tg} {D:Addr} {o:Obj}
  {TE:Loc→(V→Hp→Prop)→Hp→Prop} {TI:Loc→(List V→Hp→Prop)→Hp→Prop} {base:Loc} {acc:List V} {Q:List V→Hp→Prop} {R:Result→Shared→Prop}
  (hl0:∀ {it Q E s},wk (model W.prog W.w) A (compTurn ce 0 it (.ref D) fm.env) Q (fun U U => False) s→wk (model W.prog W.w) (A.under (.compLoop ce 0 it (.ref D) fm.env)) ((model W.prog W.w).den (.compLoop ce 0 it (.ref D) fm.env)) Q E s)
  (hl1:∀ {it Q E s},wk (model W.prog W.w) A (compTurn ce 1 it (.ref D) fm.env) Q (fun U U => False) s→wk (model W.prog W.w) (A.under (.compLoop ce 1 it (.ref D) fm.env)) ((model W.prog W.w).den (.compLoop ce 1 it (.ref D) fm.env)) Q E s)
  (hq0:∀ {it},(Code.compLoop ce 0 it (.ref D) fm.env).quiet = true) (hcl0:∀ {it},cln (.compLoop ce 0 it (.ref D) fm.env) = true) (hq:∀ {it},(Code.compLoop ce 1 it (.ref D) fm.env).quiet = true) (hcl:∀ {it},cln (.compLoop ce 1 it (.ref D) fm.env) = true)
  (hst:∀ {it R s},kc (model W.prog W.w) A (.compLoop ce 1 it (.ref D) fm.env) R s→wk (model W.prog W.w) A (pyIter it) (fun it' s' => kc (model W.prog W.w) A (.compLoop ce 1 it' (.ref D) fm.env) R s') (fun U U => False) s→kc (model W.prog W.w) A (.compStart ce 1 it (.ref D) fm.env) R s)
  (hT0:∀ it acc env,compTurn ce 0 it acc env = (do
   standAt iter.pos
   match ← pyNext it with
   | none => pure (.done .next)
   | some v =>
    letOwnedTupleGo target it v
    assign target env v
    let x ← eval iter2 env
    standAt iter2.pos
    let x ← foldedSetIterable iter2 env x
    let _ ← runOwn (.compStart ce 1 (← holding [x] (pyIter x)) acc env) env
    again (.compLoop ce 0 it acc env)))
  (hT:∀ it acc env,compTurn ce 1 it acc env = (do
   standAt iter2.pos
   match ← pyNext it with
   | none => pure (.done .next)
   | some v =>
    letOwnedTupleGo target2 it v
    assign target2 env v
    let mut ok := true
    for c in ([]:List Expr) do
     if ok then ok ← isTrue c env (eval c env)
    if ok then
     (do let _ ← call (.builtin "list.append") [acc,← eval elt env])
    again (.compLoop ce 1 it acc env)))
  (hh:A.handled = none) (fd:Feed W A target it items J) (hk:okT fm.names tg target = true) (hk2:okT fm.names tg2 target2 = true)
  (hbase:∀ v l,bindT tg v base = some l→(∀ (i:Nat) u,base[i]? = some (some u)→l[i]? = some (some u))∧∀ v' l',bindT tg2 v' l = some l'→∀ (i:Nat) u,l[i]? = some (some u)→l'[i]? = some (some u))
  (he:EltOk W A fm elt TE) (hi:IterOk W A fm target2 false iter2 TI) (hs2:∀ x,foldedSetIterable iter2 fm.env x = pure x)
  (h0:J F H PI 0) (d:Dis (P.un (PM.one D o)) PI) (dD:P D = none) (ha:AccAt F o acc) (h:FSt W F ((P.un (PM.one D o)).un PI) fm base H s)
  (q:comp2W TE TI tg tg2 base items acc Q H)
  (hR:∀ F' o' xs s',F.le F'→AccAt F' o' xs→FSt W F' (P.un (PM.one D o')) fm base H s'→Q xs H→R (.ok .next) s') :
  kc (model W.prog W.w) A (.compLoop ce 0 it (.ref D) fm.env) R s := by
 refine kc_loopQ hq0 hcl0 (fun n s => ∃ F' PI o acc' i,PM.le F F'∧J F' H PI i∧Dis (P.un (PM.one D o)) PI∧AccAt F' o acc'∧FSt W F' ((P.un (PM.one D o)).un PI) fm base H s∧comp2W TE TI tg tg2 base (items.drop i) acc' Q H∧i ≤ items.length∧n = items.length - i)
  (fun n s hI Q' hd hag U => ?_) items.length (in5_7 F PI o acc 0 (PM.le_refl F) h0 d ha h q (Nat.zero_le _) rfl)
 clear h0 d ha h q
 refine hl0 ?_
 clear hl0 hq0 hcl0
 rw [hT0]
 clear hT0
 refine wk_bind (wk_standAt (wk_bindq fun q1 k1 => ?_))
 refine og fun G hG => ?_
 obtain ⟨F',PI,o,acc,i,le,hj,d,ha,h,q,hi',rfl⟩ := hI
 refine hG ?_; clear hG G
 have hPD:PI D = none := d D o (by simp [PM.un,PM.one])
 cases hv:items[i]? with
 | none =>
  have hlen:items.length ≤ i := by simpa using hv
  rw [List.drop_eq_nil_of_le hlen] at q
  exact up (feed_done fd hlen hj d h (fun U U U U U => trivial) (fun s' h' => k1 _ _ (wk_pure (hd _ _ (hR F' o acc s' le ha h' q)))))
 | some v =>
  obtain ⟨hlt,e⟩ := List.getElem?_eq_some_iff.mp hv
  rw [List.drop_eq_getElem_cons hlt,e] at q
  obtain ⟨l2,hb2,q⟩ := obind_ex q
  have hb3 := (hbase v l2 hb2).1
  have hb4 := (hbase v l2 hb2).2
  refine wk_mono (up (feed_next fd hv hj d h)) (fun r s₁ hr => ?_) fun U U e => e
  obtain ⟨x,rfl,hx⟩ := hr
  refine k1 _ _ (wk_bindq fun q2 k2 => wk_mono (up (hx _)) (fun U s2 h2 => ?_) fun U U e => e)
  refine og fun G hG => ?_
  obtain ⟨F2,PI2,le2,d2,hj2,h2,rx⟩ := h2
  refine hG ?_; clear hG G
  have hPD2:PI2 D = none := d2 D o (by simp [PM.un,PM.one])
  refine k2 _ _ (wk_bindq fun q3 k3 => up (o_assign hh hk hb2 rx h2 (fun s3 h3 => k3 _ _ (wk_bindq fun q4 k4 => wk_mono (hi h3 q) (fun xv s4 h4 => ?_) fun U U e => e))))
  refine k4 _ _ (wk_bind (wk_standAt (wk_bind (wk_of_eq (hs2 xv) (wk_bindq fun q5 k5 => wk_holding (wk_mono h4 (fun it2 s5 h5 => ?_) fun U U e => e))))))
  refine og fun G hG => ?_
  obtain ⟨F5,H5,items2,J5,PI5,le5,d5,fd5,_,hj5,h5,hz5,⟨rfl,hz6⟩,q5'⟩ := h5
  refine hG ?_; clear hG G
  have le25 := PM.le_trans le2 le5
  refine k5 _ _ (wk_bindq fun q6 k6 => wk_runOwn (comp2_inner hl1 hq hcl hst hT hh fd5 hk2 hb4 he dD hPD2 hj5 d5 (ha.mono le25) hz6 h5 q5' (fun F6 o6 xs s' le6 ha6 h6 q6' => ?_)) rfl nbP)
  obtain ⟨_,q6'⟩ := q6'
  refine k6 _ _ (wk_pure (hag (items.length - (i + 1)) _ (by exact Nat.sub_succ_lt_self items.length i hlt) (in5_7 F6 PI2 o6 xs (i + 1) (PM.le_trans le (PM.le_trans le25 le6)) (fd.mono (PM.le_trans le5 le6) hj2) (fun b ob eb => ?_) ha6 (h6.lessLoc hb3) q6' hlt rfl)))
  by_cases qb:b = D
  ·rw [qb]; exact hPD2
  ·exact d2 b ob (by unfold PM.un PM.one at eb ⊢; rw [if_neg qb] at eb ⊢; exact eb)
theorem comp2_run {elt target iter target2 iter2:Expr} {scope:Scope} {pos:Pos} {names:List (Str × Bool)} {nl:Nat} {caps:List Nat} {a b:Nat} {it:Value} {items:List V} {J:PM→Hp→PM→Nat→Prop}
  {TE:Loc→(V→Hp→Prop)→Hp→Prop} {TI:Loc→(List V→Hp→Prop)→Hp→Prop} {Q:List V→Hp→Prop}
  (c:CmpOk fm scope names nl caps) (hh:A.handled = none) (hk:okT names (.one a) target = true) (hk2:okT names (.one b) target2 = true) (hab:a ≠ b)
  (he:∀ C,EltOk W A (fmC scope (cloGo fm.env scope.names []) C fm.env names) elt TE) (hi:∀ C,IterOk W A (fmC scope (cloGo fm.env scope.names []) C fm.env names) target2 false iter2 TI)
  (hs2:∀ env x,foldedSetIterable iter2 env x = pure x)
  (fd:Feed W A target it items J) (h0:J F H PI 0) (d:Dis P PI) (h:FSt W F (P.un PI) fm l H s) (q:comp2W TE TI (.one a) (.one b) (baseC nl caps l) items [] Q H) :
  wk (model W.prog W.w) A (newList []) (fun acc s₃ => wk (model W.prog W.w) A (newFunctionEnv scope fm.env.globals (cloGo fm.env scope.names []) [] fm.env.qual none .none (some fm.env)) (fun cenv s₄ =>
   kc (model W.prog W.w) A (.compStart (.ListComp elt [⟨target,iter,[],0⟩,⟨target2,iter2,[],0⟩] scope pos) 0 it acc { cenv with scope := relabel scope fm.env }) (CompEnd W P fm l F H (fun xs => Q xs H) acc cenv.locals) s₄) E s₃) E s := by
 refine comp_enter c d (fun a o v e => fd.nocell h0 e) h (fun G C D o s' dG hGD ha h' R hR => ?_)
 have ha1:a < nl := by
  refine ex2_1 (okT_one hk) fun x p U hk => ?_
  exact (c.lno a _ hk).1
 have hb1:b < nl := by
  refine ex2_1 (okT_one hk2) fun x p U hk => ?_
  exact (c.lno b _ hk).1
 have loop:kc (model W.prog W.w) A (.compLoop (.ListComp elt [⟨target,iter,[],0⟩,⟨target2,iter2,[],0⟩] scope pos) 0 it (.ref D) (compEnvC scope (cloGo fm.env scope.names []) C fm.env)) R s' :=
  comp2_loop (fm := fmC scope (cloGo fm.env scope.names []) C fm.env names) loop_den loop_den rfl rfl rfl rfl (fun h0 h => kc_compStart (dep := 1) rfl rfl h0 h) (fun it acc env => compTurn_two elt target iter target2 iter2 scope pos it acc env) (fun it acc env => compTurn_at elt target2 iter2 [] ⟨target,iter,[],0⟩ scope pos it acc env) hh fd hk hk2 (fun v l1 hl1 => ⟨c.hbase hk (fun i u hu => (baseC_get hu).1) v l1 hl1,fun v' l' hl' i u hu => by
   cases hl1; cases hl'
   rcases get_set_slot hu with ⟨rfl,rfl⟩ | ⟨ne,hu⟩
   ·rw [List.getElem?_set_ne (Ne.symm hab)]
    rw [List.getElem?_set_self (by unfold baseC; rw [List.length_append,List.length_replicate]; exact Nat.lt_add_right (List.map (fun i => l[i]?.join) caps).length ha1)]
   ·have := (baseC_get hu).1
    rw [List.getElem?_set_ne (by lia),List.getElem?_set_ne (by exact neN (id (Ne.symm ne)))]; exact hu⟩) (he C) (hi C) (hs2 _) h0 dG hGD ha h' q
   (fun F' o' xs s' a1 a2 a3 a4 => hR F' o' xs _ s' a1 a2 a3 a4)
 exact kc_compStart (dep := 0) rfl rfl loop (feed_again fd h0 h' loop)
theorem un_right_comm {P PC PD:PM} (h:Dis PC PD):(P.un PC).un PD = (P.un PD).un PC := un_comm h
set_option tactic.hygienic true in
theorem comp_value {mu:Bool} {r:Result} {s':Shared} {C:Addr} {acc:Value} {Q:V→Hp→Prop} (h:CompEnd W P fm l F H (fun xs => mk mu xs Q H) acc C r s') :
  ∃ m,s'.heap.Ns C m∧∀ h',Heap.SameBut C s'.heap h'→Post W P fm l F Q acc { s' with heap := h' } := by
 refine og fun G hG => ?_
 obtain ⟨F',D,o,oC,xs,mC,le,rfl,rfl,hm,hnc,ha,q,h,d1,d2⟩ := h
 have h0 := h
 obtain ⟨PL,m,f⟩ := h
 refine hG ?_; clear hG G
 have hCD:C ≠ D := fun e => by have := d2 C oC (by simp [PM.un,PM.one]); rw [e,PM.one_self] at this; cases this
 have gC:s'.heap.get? C = some oC := f.hs.pk _ _ (by
  have e1:((P.un (PM.one C oC)).un (PM.one D o)) C = some oC := Dis.le d2 _ _ (Dis.right _ _ (PM.one_self ..))
  simp only [PM.un] at e1 ⊢
  rw [f.apart C oC (by simpa [PM.un] using e1)]
  simpa using e1)
 refine (in1_1 mC (hm _ gC) (fun h' hs => ?_))
 have c1:(P.un (PM.one C oC)).un (PM.one D o) = (P.un (PM.one D o)).un (PM.one C oC) := un_comm fun a oa ea => by
  unfold PM.one at ea ⊢
  split at ea
  ·rename_i qa; rw [qa,if_neg hCD]
  ·cases ea
 rw [c1] at h0
 have dP:Dis P (PM.one D o) := fun a oa ea => d2 a oa (Dis.le d1 _ _ ea)
 have d3:Dis (P.un (PM.one D o)) (PM.one C oC) := fun a oa ea => by
  by_cases qa:a = D
  ·unfold PM.one; rw [if_neg (by rw [qa]; exact Ne.symm hCD)]
  ·exact d1 a oa (by unfold PM.un PM.one at ea; rw [if_neg qa] at ea; simpa using ea)
 exact Post.from le (acc_done (h0.unguardExt d3 hnc hs) dP ha q)
end
section
variable {W:Wd} {F P PL PI:PM} {H:Hp} {s:Shared} {A:Around} {E:Value→Shared→Prop} {fm:Fm} {l:Loc} {m:Str→Option Value}
theorem comp_use {mu:Bool} {r:Result} {s':Shared} {C:Addr} {acc:Value} {Qn:Loc→Hp→Prop} {Qr:V→Hp→Prop} {i:Nat} {y:Str} {py:Pos} {c:Bool} (hx:fm.names[i]? = some (y,c)) (ho:c = true→fm.own = true)
  (h:CompEnd W P fm l F H (fun xs => mk mu xs (fun v H => Qn (l.set i (some v)) H) H) acc C r s') :
  wpAny (model W.prog W.w) A (assign (.Name y py) fm.env acc) (fun U s'' => ∃ m,s''.heap.Ns C m∧∀ h',Heap.SameBut C s''.heap h'→PostS W P fm F Qn Qr .next { s'' with heap := h' }) E s' := by
 refine og fun G hG => ?_
 obtain ⟨F',D,o,oC,xs,mC,le,rfl,rfl,hm,hnc,ha,q,h,d1,d2⟩ := h
 obtain ⟨F2,mv,H',le2,h2,r2,q2⟩ := acc_done h d2 ha q
 refine hG ?_; clear hG G
 refine PyProof.Rows.assign_Name (o_store h2 hx ho r2 (fun s2 h3 => ?_))
 have gC:s2.heap.get? C = some oC := by
  apply ex2_0 h3; intro PL m f
  exact f.hs.pk _ _ (by
   have e1:(P.un (PM.one C oC)) C = some oC := Dis.right _ _ (PM.one_self ..)
   have := f.apart C oC e1
   unfold PM.un at e1 ⊢
   rw [this]; simpa using e1)
 exact (in1_1 mC (hm _ gC) (fun h' hs => (in3_2 F2 _ H' (PM.le_trans le le2) (h3.unguardExt d1 hnc hs) q2)))
end
section
variable {W:Wd} {F P PL PI:PM} {H:Hp} {s:Shared} {A:Around} {E:Value→Shared→Prop} {fm:Fm} {l:Loc} {m:Str→Option Value}
theorem wk_standIf {α:Type} {M:Model} {c:Prop} [Decidable c] {pos:Pos} {k:PUnit→Sem α} {Q:α→Shared→Prop} (h:wk M A (k ()) Q E s) :
  wk M A (if c then (standAt pos >>= k) else k ()) Q E s := by
 split
 ·exact wk_bind (wk_standAt h)
 ·exact h
noncomputable def UseOk (M:Model) (A:Around) (use:Option (Value→Sem Unit)) (Q:Value→Shared→Prop) (acc:Value) (C:Addr) (s':Shared):Prop :=
 match use with
 | none => ∃ m,s'.heap.Ns C m∧∀ h',Heap.SameBut C s'.heap h'→Q acc { s' with heap := h' }
 | some u => wk M A (u acc) (fun U s'' => ∃ m,s''.heap.Ns C m∧∀ h',Heap.SameBut C s''.heap h'→Q .none { s'' with heap := h' }) (fun U U => False) s'
theorem wk_comprehension {M:Model} {env:Env} {e:Expr} {scope:Scope} {pos:Pos} {newAcc first:Sem Value} {g:Comprehension} {gs:List Comprehension} {cl:List (Str × Addr)} {use:Option (Value→Sem Unit)}
  {Q:Value→Shared→Prop}
  (hcl:clausesOf e = g :: gs) (hs:∀ x,foldedSetIterable g.iter env x = pure x) (hclos:closureFor scope env = pure cl)
  (hkind:scope.kind = .function) (hnames:∀ x ∈ scope.names,x.2 = .local→scope.names.lookup x.1 = some .local) (hq:cln (.compStart e 0 .none .none env) = true)
  (h:wk M A first (fun x s₁ => wk M A (pyIter x) (fun it s₂ => wk M A newAcc (fun acc s₃ =>
   wk M A (newFunctionEnv scope env.globals cl [] env.qual none .none (some env)) (fun cenv s₄ =>
    kc M A (.compStart e 0 it acc { cenv with scope := relabel scope env }) (fun r s' => (∃ f,r = .ok f)∧UseOk M A use Q acc cenv.locals s') s₄) E s₃) E s₂) E s₁) E s) :
  wk M A (comprehension e scope env pos newAcc false first use) Q E s := by
 unfold comprehension
 rw [hclos,hcl]
 refine wk_bind (wk_mono h (fun x s₁ h₁ => wk_bind (wk_standAt (wk_bind (wk_of_eq (hs x) (wk_bind (wk_holding (wk_mono h₁ (fun it s₂ h₂ =>
  wk_standIf (wk_bind (wk_mono h₂ (fun acc s₃ h₃ => wk_bind (wk_pure (wk_bind (wk_mono h₃ (fun cenv s₄ h₄ => ?_) fun U U h' => h')))) fun U U h' => h')))
   fun U U h' => h'))))))) fun U U h' => h')
 dsimp only
 have hv:∀ x ∈ (scope.names.filter fun x => (x.2 == .local || x.2 == .cell) && x.1 != (".0":Str)).reverse,x.2 = .local →
   Env.kindOf { cenv with scope := relabel scope env } x.1 = some .local := fun x hx hl => lookup_relabel_local (hnames x (List.mem_filter.mp (List.mem_reverse.mp hx)).1 hl)
 have hv':∀ x ∈ (scope.names.filter fun x => (x.2 == .local || x.2 == .cell) && x.1 != (".0":Str)).reverse.drop 1 ++ (scope.names.filter fun x => (x.2 == .local || x.2 == .cell) && x.1 != (".0":Str)).reverse.take 1,
   x.2 = .local→Env.kindOf { cenv with scope := relabel scope env } x.1 = some .local := fun x hx hl => by
  rcases List.mem_append.mp hx with h1 | h1
  ·exact hv x (List.mem_of_mem_drop h1) hl
  ·exact hv x (List.mem_of_mem_take h1) hl
 refine wk_holding (wk_bind (wk_attempt (wk_holding (wk_run (kc_mono h₄ fun r s' hr => ?_) rfl nbP))))
 refine ex0_1 hr fun xq1 hu => ?_
 obtain ⟨f,rfl⟩ := xq1
 cases use with
 | none =>
  refine ex1_1 hu fun m hn hr => ?_
  exact wk_bind (wk_holding (up (wpAny_comp_letGo (cenv := { cenv with scope := relabel scope env }) hkind _ s' m hv hn fun h' m' U hs' => wk_pure (hr h' hs'))))
 | some u =>
  refine wk_bind (wk_rule (wk_bind (wk_holding (wk_mono hu (fun U s'' hr' => ?_) fun U U h' => h'.elim))))
  refine ex1_1 hr' fun m hn hr' => ?_
  exact wk_bind (up (wpAny_comp_letGo (cenv := { cenv with scope := relabel scope env }) hkind _ s'' m hv' hn fun h' m' U hs' => wk_pure (hr' h' hs')))
theorem comp_eval {mu:Bool} {e:Expr} {scope:Scope} {names:List (Str × Bool)} {nl:Nat} {caps:List Nat} {pos:Pos} {g:Comprehension} {gs:List Comprehension} {TI:Loc→(List V→Hp→Prop)→Hp→Prop} {K:Loc→List V→(List V→Hp→Prop)→Hp→Prop} {Q:V→Hp→Prop}
  (c:CmpOk fm scope names nl caps) (hcl:clausesOf e = g :: gs) (hs:∀ env x,foldedSetIterable g.iter env x = pure x)
  (hi:IterOk W A fm g.target false g.iter TI)
  (hrun:∀ {F P PI:PM} {H:Hp} {s:Shared} {E:Value→Shared→Prop} {it:Value} {items:List V} {J:PM→Hp→PM→Nat→Prop} {Q:List V→Hp→Prop},Feed W A g.target it items J→J F H PI 0→Dis P PI→FSt W F (P.un PI) fm l H s→items.length ≤ big→K l items Q H →
   wk (model W.prog W.w) A (newList []) (fun acc s₃ => wk (model W.prog W.w) A (newFunctionEnv scope fm.env.globals (cloGo fm.env scope.names []) [] fm.env.qual none .none (some fm.env)) (fun cenv s₄ =>
    kc (model W.prog W.w) A (.compStart e 0 it acc { cenv with scope := relabel scope fm.env }) (CompEnd W P fm l F H (fun xs => Q xs H) acc cenv.locals) s₄) E s₃) E s)
  (h:FSt W F P fm l H s) (q:TI l (fun items H => K l items (fun vs H => mk mu vs Q H) H) H) :
  wk (model W.prog W.w) A (comprehension e scope fm.env pos (newList []) false (eval g.iter fm.env)) (Post W P fm l F Q) E s := by
 have hclos:closureFor scope fm.env = pure (cloGo fm.env scope.names []) := closureFor_ok fun x hx hf => by
  refine og fun G hG => ?_
  refine ex0_1 (c.free x hx hf) fun h1 h2 => ?_
  refine ex2_0 h fun PL m f => ?_; clear h
  refine hG ?_; clear hG G
  exact f.mem_own h1 h2
 refine wk_comprehension (use := none) hcl (hs _) hclos c.kind c.lnames rfl (wk_mono (hi h q) (fun x s₁ h₁ => wk_mono h₁ (fun it s₂ h₂ => ?_) fun U U e => e) fun U U e => e)
 refine ex5_7 h₂ fun F' H' items J PI le d fd U hj h2 hz q2 => ?_; clear h₂
 refine wk_mono (hrun (E := E) fd hj d h2 hz q2) (fun acc s₃ h₃ => wk_mono h₃ (fun cenv s₄ h₄ => kc_mono h₄ fun r s' hr => ?_) fun U U e => e) fun U U e => e
 have hr0 := hr
 refine ex6_3 hr fun U U U U U U U U hr1 U => ?_; clear hr
 refine ⟨(in1_0 _ hr1),?_⟩
 refine ex1_1 (comp_value hr0) fun m hm hq => ?_
 exact (in1_1 m hm (fun h' hs' => Post.from le (hq h' hs')))
theorem comp_asg {mu:Bool} {e:Expr} {scope:Scope} {names:List (Str × Bool)} {nl:Nat} {caps:List Nat} {pos:Pos} {g:Comprehension} {gs:List Comprehension} {TI:Loc→(List V→Hp→Prop)→Hp→Prop} {K:Loc→List V→(List V→Hp→Prop)→Hp→Prop} {Qn:Loc→Hp→Prop} {Qr:V→Hp→Prop} {i:Nat} {y:Str} {py:Pos} {b:Bool}
  (hx:fm.names[i]? = some (y,b)) (ho:b = true→fm.own = true)
  (c:CmpOk fm scope names nl caps) (hcl:clausesOf e = g :: gs) (hs:∀ env x,foldedSetIterable g.iter env x = pure x)
  (hi:IterOk W A fm g.target false g.iter TI)
  (hrun:∀ {F P PI:PM} {H:Hp} {s:Shared} {E:Value→Shared→Prop} {it:Value} {items:List V} {J:PM→Hp→PM→Nat→Prop} {Q:List V→Hp→Prop},Feed W A g.target it items J→J F H PI 0→Dis P PI→FSt W F (P.un PI) fm l H s→items.length ≤ big→K l items Q H →
   wk (model W.prog W.w) A (newList []) (fun acc s₃ => wk (model W.prog W.w) A (newFunctionEnv scope fm.env.globals (cloGo fm.env scope.names []) [] fm.env.qual none .none (some fm.env)) (fun cenv s₄ =>
    kc (model W.prog W.w) A (.compStart e 0 it acc { cenv with scope := relabel scope fm.env }) (CompEnd W P fm l F H (fun xs => Q xs H) acc cenv.locals) s₄) E s₃) E s)
  (h:FSt W F P fm l H s) (q:TI l (fun items H => K l items (fun vs H => mk mu vs (fun v H => Qn (l.set i (some v)) H) H) H) H) :
  wk (model W.prog W.w) A (comprehension e scope fm.env pos (newList []) false (eval g.iter fm.env) (some (assign (.Name y py) fm.env))) (fun U s' => PostS W P fm F Qn Qr .next s') E s := by
 have hclos:closureFor scope fm.env = pure (cloGo fm.env scope.names []) := closureFor_ok fun x hx hf => by
  refine og fun G hG => ?_
  refine ex0_1 (c.free x hx hf) fun h1 h2 => ?_
  refine ex2_0 h fun PL m f => ?_; clear h
  refine hG ?_; clear hG G
  exact f.mem_own h1 h2
 refine wk_comprehension (use := some (assign (.Name y py) fm.env)) hcl (hs _) hclos c.kind c.lnames rfl (wk_mono (hi h q) (fun x s₁ h₁ => wk_mono h₁ (fun it s₂ h₂ => ?_) fun U U e => e) fun U U e => e)
 refine ex5_7 h₂ fun F' H' items J PI le d fd U hj h2 hz q2 => ?_; clear h₂
 refine wk_mono (hrun (E := E) fd hj d h2 hz q2) (fun acc s₃ h₃ => wk_mono h₃ (fun cenv s₄ h₄ => kc_mono h₄ fun r s' hr => ?_) fun U U e => e) fun U U e => e
 have hr0 := hr
 refine ex6_3 hr fun U U U U U U U U hr1 U => ?_; clear hr
 refine ⟨⟨_,hr1⟩,?_⟩
 refine up (wpAny_mono (comp_use (Qr := Qr) hx ho hr0) (fun _ s'' ⟨m,hm,hq⟩ => ⟨m,hm,fun h' hs' => PostS.from le (hq h' hs')⟩) fun U U e => e)
end
section
variable {prog:Program} {w:World} {A:Around} {R:Result→Shared→Prop} {s:Shared}
theorem kc_func {body:List Stmt} {env:Env}
  (h:wk (model prog w) (A.deeper env) (execs body env) (fun f s' => R (.ok (.ret (match f with | .ret v => v | _ => .none))) s') (fun U U => False) s) :
  kc (model prog w) A (.func body env) R s := by
 refine kc_of_tree ?_
 show wk _ (A.deeper env) (do point; match ← (execs body env).onRaise (leaving env) with | .ret v => ret v | _ => ret .none) _ _ s
 refine wk_bind (wk_point (wk_bind (wk_onRaise (wk_mono h (fun f s' h' => ?_) fun U U h' => h'))))
 cases f <;> exact wk_pure h'
theorem kc_call_function {a:Addr} {args:Args} {o:Obj} {fd:FuncData} {body:List Stmt} (hroom:A.depth < recursionLimit)
  (ho:s.heap.get? a = some o) (hd':o.data = .func fd) (hco:fd.scope.isCoroutine = false) (hgen:fd.scope.isGenerator = false) (hbody:fd.body = .stmts body) (hcd:s.heap.CodeRec fd.code fd.qualname)
  (h:wk (model prog w) A.in1 (bindArgs fd args) (fun binds s₁ =>
   wk (model prog w) A.in1 (newFunctionEnv fd.scope fd.globals fd.closure binds (fd.qualname ++ ".<locals>.") (some a) fd.code none fd.builtins)
    (fun env s₂ => s₂.heap.NoLimit∧kc (model prog w) A (.func body env) R s₂) (fun U U => False) s₁) (fun U U => False) s) :
  kc (model prog w) A (.call (.ref a) args) R s := by
 refine kc_of_tree ?_
 show wk _ A.in1 (callAny (.ref a) args) _ _ s
 simp only [callAny]
 refine wk_bind (up (wpAny_load ho ?_))
 refine ex4_3 hcd fun c oc vs tq hc hoc hdc hq => ?_; clear hcd
 simp only [hd',callFunction,hco,hgen,hbody,hc]
 rw [hc] at h
 refine wk_bind (m := field (.ref c) 1) (up (wpAny_field hoc hdc hq (wk_bind (wk_pure ?_))))
 exact wk_bind (wk_mono h (fun binds s₁ h₁ => wk_bind (wk_mono h₁ (fun env s₂ h₂ => wk_bind (up (wpAny_enterFrame h₂.1 hroom
  (wk_pure ⟨⟨rfl,rfl⟩,h₂.2⟩)))) fun U U h' => h'.elim)) fun U U h' => h'.elim)
end
structure FnStat (fd:FuncData) (params:List Str) (names:List (Str × Bool)):Prop where
 kind:fd.scope.kind = .function
 co:fd.scope.isCoroutine = false
 gen:fd.scope.isGenerator = false
 glob:fd.globals = mainGlobals
 bi:fd.builtins = builtinsNs
 clo:fd.closure = []
 nodup:(names.map (·.1)).Nodup
 look:∀ x b,(x,b) ∈ names→fd.scope.names.lookup x = some (if b then NameKind.cell else NameKind.local)
 par:∀ (i:Nat) x,params[i]? = some x→∃ b,names[i]? = some (x,b)
 cells:((cellsFrom 0 fd.scope.names []).map (·.1)).Nodup
noncomputable def fnFm (fd:FuncData) (L a:Addr) (names:List (Str × Bool)):Fm := ⟨newEnv fd.scope L fd.globals (cellsFrom (L + 1) fd.scope.names []) (fd.qualname ++ ".<locals>.") (some a) fd.code none fd.builtins,names,true⟩
theorem bindL_of {kf:Str→Option NameKind}:∀ (binds:List (Str × Value)) (m:Str→Option Value) (x:Str),x ∉ binds.map (·.1)→bindL kf binds m x = m x
 | [],m,x,_ => rfl
 | (n,v) :: r,m,x,h => by
  have h1:x ≠ n := fun e => h (by rw [e]; exact .head _)
  have h2:x ∉ r.map (·.1) := fun e => h (.tail _ e)
  unfold bindL
  rw [bindL_of r _ x h2]
  split
  ·simp [h1]
  ·rfl
theorem bindC_of {kf:Str→Option NameKind}:∀ (binds:List (Str × Value)) (m:Str→Option Value) (x:Str),x ∉ binds.map (·.1)→bindC kf binds m x = m x
 | [],m,x,_ => rfl
 | (n,v) :: r,m,x,h => by
  have h1:x ≠ n := fun e => h (by rw [e]; exact .head _)
  have h2:x ∉ r.map (·.1) := fun e => h (.tail _ e)
  unfold bindC
  rw [bindC_of r _ x h2]
  split
  ·rfl
  ·simp [h1]
theorem bindL_get {kf:Str→Option NameKind} {x:Str} {v:Value} (hk:kf x = some .local):∀ (binds:List (Str × Value)) (m:Str→Option Value),(binds.map (·.1)).Nodup→(x,v) ∈ binds→bindL kf binds m x = some v
 | (n,u) :: r,m,hn,h => by
  rw [List.map_cons,List.nodup_cons] at hn
  unfold bindL
  rcases List.mem_cons.mp h with e | h
  ·cases e
   rw [if_pos hk,bindL_of r _ x hn.1]; simp
  ·exact bindL_get hk r _ hn.2 h
theorem bindC_get {kf:Str→Option NameKind} {x:Str} {v:Value} (hk:kf x ≠ some .local):∀ (binds:List (Str × Value)) (m:Str→Option Value),(binds.map (·.1)).Nodup→(x,v) ∈ binds→bindC kf binds m x = some v
 | (n,u) :: r,m,hn,h => by
  rw [List.map_cons,List.nodup_cons] at hn
  unfold bindC
  rcases List.mem_cons.mp h with e | h
  ·cases e
   rw [if_neg hk,bindC_of r _ x hn.1]; simp
  ·exact bindC_get hk r _ hn.2 h
section
variable {W:Wd} {F P PL PI:PM} {H:Hp} {s:Shared} {A:Around} {E:Value→Shared→Prop} {fm:Fm} {l:Loc} {m:Str→Option Value}
theorem FnStat.fmOk {fd:FuncData} {params:List Str} {names:List (Str × Bool)} (st:FnStat fd params names) (L a:Addr):FmOk (fnFm fd L a names) where
 kind := st.kind
 glob := st.glob
 bi := st.bi
 loc := fun x hx => st.look x false hx
 cell := fun x hx => st.look x true hx
 nodup := st.nodup
theorem HS.addP {PL:PM} (h:HS W F P H s) (k:∀ b o,PL b = some o→s.heap.get? b = some o) (kf:∀ b o,PL b = some o→Free F P H b):HS W F (P.un PL) H s := by
 refine ⟨h.base,h.fk,fun b o e => ?_,h.hk,fun b o e => ?_,h.fh,fun b o e => ?_,h.gens,h.os⟩
 ·unfold PM.un at e
  cases q:PL b with
  | some o' => rw [q] at e; cases e; exact k b _ q
  | none => rw [q] at e; exact h.pk _ _ (by simpa using e)
 ·have n:PL b = none := none_of fun o' q => by have := (kf b o' q).1; rw [e] at this; cases this
  unfold PM.un
  rw [n]; exact h.fp _ _ e
 ·unfold PM.un at e
  cases q:PL b with
  | some o' => exact (kf b o' q).2.2
  | none => rw [q] at e; exact h.ph _ _ (by simpa using e)
theorem par_val {fd:FuncData} {params:List Str} {names:List (Str × Bool)} {vals:List Value} {vs:List V} {nl i:Nat} {y:Str} {b:Bool} {v:V} (st:FnStat fd params names) (hlen:params.length = vals.length) (r:VRs F vs vals)
  (hy:names[i]? = some (y,b)) (hv:(vs.map some ++ List.replicate (nl - vs.length) none)[i]? = some (some v)):∃ rv,(y,rv) ∈ params.zip vals∧VR F v rv := by
 by_cases hi:i < vs.length
 ·rw [List.getElem?_append_left (by simpa using hi),List.getElem?_map] at hv
  refine ex1_1 (Option.map_eq_some_iff.mp hv) fun u hu e => ?_
  cases e
  refine ex1_1 (r.get hu) fun rv hrv rr => ?_
  have hip:i < params.length := hlen ▸ r.length ▸ hi
  refine ex1_0 (st.par i params[i] (List.getElem?_eq_getElem hip)) fun b' hb' => ?_
  rw [hy] at hb'
  cases hb'
  exact (in1_1 rv (List.mem_of_getElem? (i := i) (List.getElem?_zip_eq_some.mpr ⟨List.getElem?_eq_getElem hip,hrv⟩)) rr)
 ·rw [List.getElem?_append_right (by simpa using hi),List.getElem?_replicate] at hv
  split at hv <;> cases hv
set_option tactic.hygienic true in
theorem fn_enter {fd:FuncData} {params:List Str} {names:List (Str × Bool)} {a:Addr} {o:Obj} {body:List Stmt} {args:List Value} {vals:List Value} {vs:List V} {nl:Nat} {R:Result→Shared→Prop}
  (st:FnStat fd params names) (hs:HS W F P H s) (hF:F a = some o) (hd:o.data = .func fd) (hbody:fd.body = .stmts body) (hcd:s.heap.CodeRec fd.code fd.qualname)
  (hroom:A.depth < recursionLimit) (hbind:BindsTo s fd ⟨args,[]⟩ (params.zip vals)) (hlen:params.length = vals.length) (r:VRs F vs vals)
  (k:∀ L s',FSt W F P (fnFm fd L a names) (vs.map some ++ List.replicate (nl - vs.length) none) H s' →
   wk (model W.prog W.w) (A.deeper (fnFm fd L a names).env) (execs body (fnFm fd L a names).env) (fun f s' => R (.ok (.ret (match f with | .ret v => v | _ => .none))) s') (fun U U => False) s') :
  kc (model W.prog W.w) A (.call (.ref a) ⟨args,[]⟩) R s := by
 have ho := hs.fk _ _ hF
 have hpn:(params.zip vals).map (·.1) = params := by
  rw [List.map_fst_zip (by exact Nat.le_of_eq hlen)]
 have hpnd:params.Nodup := by
  have e:params = (names.map (·.1)).take params.length := by
   apply List.ext_getElem?
   intro i
   by_cases hi:i < params.length
   ·refine ex1_0 (st.par i params[i] (List.getElem?_eq_getElem hi)) fun b hb => ?_
    rw [List.getElem?_take_of_lt hi,List.getElem?_map,hb,List.getElem?_eq_getElem hi]; rfl
   ·rw [List.getElem?_eq_none (by exact Nat.le_of_not_lt hi),List.getElem?_eq_none (by rw [List.length_take]; lia)]
  rw [e]
  exact st.nodup.sublist (List.take_sublist _ _)
 have hpk:∀ x ∈ params,∃ b,(x,b) ∈ names := fun x hx => by
  refine ex1_0 (List.mem_iff_getElem?.mp hx) fun i hi => ?_
  refine ex1_0 (st.par i x hi) fun b hb => ?_
  exact (in1_0 b (List.mem_of_getElem? hb))
 refine kc_call_function hroom ho hd st.co st.gen hbody hcd (up (hbind _ _ _ _ ?_))
 rw [st.clo]
 refine up (wpAny_newFunctionEnv_cells st.kind (fun x hx => ?_) (fun env he s₁ x => ⟨?_,?_⟩))
 ·refine ex1_0 (hpk x.1 (by rw [← hpn]; exact List.mem_map_of_mem hx)) fun b hb => ?_
  have := st.look x.1 b hb
  cases b with
  | false => exact .inl this
  | true => exact .inr ⟨this,cellsFrom_some _ _ _ (.inl this)⟩
 ·exact (hs.top.nolimit).keeps x.toInCall.keep
 ·have he':env = (fnFm fd s.heap.objs.size a names).env := he
  rw [he'] at x ⊢
  refine kc_func (k s.heap.objs.size s₁ ?_)
  refine og fun G hG => ?_
  refine ex2_1 x.done fun h₁ tk xq1 hk₁ => ?_
  obtain rfl := xq1
  refine hG ?_; clear hG G
  generalize hL:s.heap.objs.size = L at *
  have hcs:(fnFm fd L a names).env.cells = cellsFrom (L + 1) fd.scope.names [] := rfl
  have hkf:∀ y,(fnFm fd L a names).env.kindOf y = fd.scope.names.lookup y := fun y => rfl
  have hnd:((cellsFrom (L + 1) fd.scope.names []).map (·.1)).Nodup := cellsFrom_names fd.scope.names 0 (L + 1) [] [] rfl ▸ st.cells
  have new := hs.new
  rw [hL] at new
  have above:∀ n c,(n,c) ∈ (fnFm fd L a names).env.cells→L < c := x.above
  have freeC:∀ n c,(n,c) ∈ (fnFm fd L a names).env.cells→Free F P H c := fun n c hc => by
   have hlt := above n c hc
   exact hs.freeAt fun o ho => absurd (hL ▸ Heap.lt_size ho) (Nat.not_lt.mpr (Nat.le_of_lt hlt))
  let PL:PM := fun b => if (fnFm fd L a names).env.cells.any (fun p => p.2 == b) = true then h₁.get? b else none
  have hPL:∀ b o,PL b = some o→(∃ n,(n,b) ∈ (fnFm fd L a names).env.cells)∧h₁.get? b = some o := fun b o e => by
   show _∧_
   have e:(if (fnFm fd L a names).env.cells.any (fun p => p.2 == b) = true then h₁.get? b else none) = some o := e
   split at e
   ·rename_i q
    refine ex1_1 (List.any_eq_true.mp q) fun p hp hq => ?_
    exact ⟨(in1_0 p.1 (by have := beq_iff_eq.mp hq; rw [← this]; exact hp)),e⟩
   ·cases e
  have hPLf:∀ b o,PL b = some o→Free F P H b := fun b o q => (hPL b o q).1.elim fun n hn => freeC n b hn
  have hPLn:∀ b o,P b = some o→PL b = none := fun b o e => none_of fun o' q => by
   have := (hPLf b o' q).2.1
   rw [e] at this; cases this
  have hPLL:PL L = none := none_of fun o' q => (hPL L o' q).1.elim fun n hn => Nat.lt_irrefl _ (above n L hn)
  have hPLc:∀ n c,(fnFm fd L a names).env.cells.lookup n = some c→∃ o,PL c = some o∧o.data = .cell ((bindC (fnFm fd L a names).env.kindOf (params.zip vals) fun U => none) n) := fun n c hc => by
   refine ex1_1 (x.cell n c hc) fun o ho hdo => ?_
   refine (in1_1 o ?_ hdo)
   show (if (fnFm fd L a names).env.cells.any (fun p => p.2 == c) = true then h₁.get? c else none) = some o
   rw [if_pos (List.any_eq_true.mpr (in1_1 (n,c) (mem_of_lookup hc) (by simp)))]; exact ho
  have hs1:HS W F P H { s with heap := h₁,toks := tk } := (hs.keeps (h' := h₁) hk₁).tok tk
  refine (in2_0 PL _ ⟨st.fmOk L a,hPLn,?_,⟨new.1,by show (P.un PL) L = none; unfold PM.un; rw [hPLL]; simpa using new.2.1,new.2.2⟩,x.toInCall.ns,?_⟩)
  ·exact hs1.addP (fun b o e => (hPL b o e).2) hPLf
  ·have key := fun i y b v => par_val (nl := nl) (i := i) (y := y) (b := b) (v := v) st hlen r
   refine ⟨fun i y v hy hv => ?_,fun i y v hy hv => ?_,fun U y hy => ?_⟩
   ·refine ex1_1 (key i y false v hy hv) fun rv hm rr => ?_
    refine (in1_1 rv ?_ rr)
    exact bindL_get (by rw [hkf]; exact st.look y false (List.mem_of_getElem? hy)) _ _ (by rw [hpn]; exact hpnd) hm
   ·refine ex1_1 (key i y true v hy hv) fun rv hm rr => ?_
    have hlk := st.look y true (List.mem_of_getElem? hy)
    refine og fun G hG => ?_
    refine ex1_0 (Option.isSome_iff_exists.mp (cellsFrom_some fd.scope.names (L + 1) [] (.inl hlk))) fun c hc => ?_
    refine ex1_1 (hPLc y c hc) fun oc hoc hdc => ?_
    refine hG ?_; clear hG G
    refine (in3_3 c oc rv hc (by unfold PM.un; rw [hoc]; rfl) ?_ rr)
    rw [hdc,bindC_get (by rw [hkf,hlk]; intro e; cases e) _ _ (by rw [hpn]; exact hpnd) hm]
   ·have hlk := st.look y true hy
    refine og fun G hG => ?_
    refine ex1_0 (Option.isSome_iff_exists.mp (cellsFrom_some fd.scope.names (L + 1) [] (.inl hlk))) fun c hc => ?_
    refine ex1_1 (hPLc y c hc) fun oc hoc hdc => ?_
    refine hG ?_; clear hG G
    refine (in3_3 c oc _ hc hoc hdc (fun y' c' hne hc' e => hne ?_))
    subst e
    exact name_of_addr x.apart (mem_of_lookup hc') (mem_of_lookup hc)
end
theorem putIn_find {p:DictEntry→Bool} {f:DictEntry→DictEntry} {x:DictEntry} (hx:p x = true) (hf:∀ e,p (f e) = p e):∀ (l:List DictEntry),(PySem.putIn p f x l).find? p = some (match l.find? p with | some e => f e | none => x) := by
 intro l
 induction l with
 | nil => simp [PySem.putIn,hx]
 | cons y ys ih =>
  cases hy:p y with
  | true => rw [PySem.putIn_hit p f x y ys hy,List.find?_cons_of_pos (by rw [hf,hy]),List.find?_cons_of_pos hy]
  | false => rw [PySem.putIn_miss p f x y ys hy,List.find?_cons_of_neg (by simp [hy]),List.find?_cons_of_neg (by simp [hy]),ih]
theorem putIn_find_other {p q:DictEntry→Bool} {f:DictEntry→DictEntry} {x:DictEntry} (hx:q x = false) (hpq:∀ e,p e = true→q e = false) (hf:∀ e,q (f e) = q e):∀ (l:List DictEntry),(PySem.putIn p f x l).find? q = l.find? q := by
 intro l
 induction l with
 | nil => simp [PySem.putIn,hx]
 | cons y ys ih =>
  cases hy:p y with
  | true =>
   rw [PySem.putIn_hit p f x y ys hy,List.find?_cons_of_neg (by rw [hf,hpq y hy]; simp),List.find?_cons_of_neg (by rw [hpq y hy]; simp)]
  | false =>
   rw [PySem.putIn_miss p f x y ys hy,List.find?_cons,List.find?_cons,ih]
theorem putIn_mem {p:DictEntry→Bool} {f:DictEntry→DictEntry} {x:DictEntry} {P:DictEntry→Prop} (hx:P x) (hf:∀ e,P e→P (f e)):∀ (l:List DictEntry),(∀ e ∈ l,P e)→∀ e ∈ PySem.putIn p f x l,P e := by
 intro l
 induction l with
 | nil => intro _ e he; simp [PySem.putIn] at he; rw [he]; exact hx
 | cons y ys ih =>
  intro hl e he
  cases hy:p y with
  | true =>
   rw [PySem.putIn_hit p f x y ys hy] at he
   rcases List.mem_cons.mp he with rfl | he
   ·exact hf _ (hl _ (.head _))
   ·exact hl _ (.tail _ he)
  | false =>
   rw [PySem.putIn_miss p f x y ys hy] at he
   rcases List.mem_cons.mp he with rfl | he
   ·exact hl _ (.head _)
   ·exact ih (fun e he => hl e (.tail _ he)) e he
theorem putIn_len {p:DictEntry→Bool} {f:DictEntry→DictEntry} {x:DictEntry}:∀ (l:List DictEntry),(PySem.putIn p f x l).length = if (l.find? p).isSome then l.length else l.length + 1 := by
 intro l
 induction l with
 | nil => simp [PySem.putIn]
 | cons y ys ih =>
  cases hy:p y with
  | true => rw [PySem.putIn_hit p f x y ys hy,List.find?_cons_of_pos hy]; simp
  | false =>
   rw [PySem.putIn_miss p f x y ys hy,List.find?_cons_of_neg (by simp [hy]),List.length_cons,ih]
   split <;> simp
theorem tbl_idx {k:Nat} {name:Str} (h:tbl[k]? = some name):tbl.findIdx? (· == name) = some k := by
 have hk:k < 7 := (List.getElem?_eq_some_iff.mp h).1
 match k,hk with
 | 0,_ => cases h; decide
 | 1,_ => cases h; decide
 | 2,_ => cases h; decide
 | 3,_ => cases h; decide
 | 4,_ => cases h; decide
 | 5,_ => cases h; decide
 | 6,_ => cases h; decide
theorem isStr_iff {v:Value} {x:Str}:v.isStr x = true ↔ ∃ t,v = .str x t := by
 constructor
 ·intro h
  rw [PySem.W.isStr_of] at h
  exact Value.isStrOf_shape h
 ·rintro ⟨t,rfl⟩
  rw [PySem.W.isStr_of]
  simp [Value.isStrOf]
theorem countP_set {fs:List (Option V)} {k:Nat} {v:V} (hk:k < fs.length):(fs.set k (some v)).countP (·.isSome) = if (fs[k]?).join.isSome then fs.countP (·.isSome) else fs.countP (·.isSome) + 1 := by
 induction fs generalizing k with
 | nil => simp at hk
 | cons a r ih =>
  cases k with
  | zero => cases a <;> simp [List.countP_cons]
  | succ k =>
   have := ih (k := k) (by simpa using hk)
   rw [List.set_cons_succ,List.countP_cons,List.countP_cons,this,List.getElem?_cons_succ]
   split <;> lia
set_option tactic.hygienic true in
theorem rcd_put {F:PM} {P:Params} {fs:List (Option V)} {es:List DictEntry} {k:Nat} {name:Str} {v:V} {rv:Value} {t:Tok} (r:RcdR F P fs es) (hn:tbl[k]? = some name) (hk:k < fs.length) (rr:VR F v rv) :
  RcdR F P (fs.set k (some v)) (PySem.putIn (·.key.isStr name) (fun e => { e with val := rv }) ⟨PyData.keyHash P name,.str name t,rv⟩ es) := by
 have hidx := tbl_idx hn
 have hp:∀ e:DictEntry,e.key.isStr name = true→∀ x,x ≠ name→e.key.isStr x = false := fun e he x hx => by
  refine ex1_0 (isStr_iff.mp he) fun t h => ?_
  cases q:e.key.isStr x with
  | false => rfl
  | true =>
   refine ex1_0 (isStr_iff.mp q) fun t' h' => ?_
   rw [h] at h'
   injection h' with h1 _
   exact absurd h1.symm hx
 have hx:(⟨PyData.keyHash P name,.str name t,rv⟩:DictEntry).key.isStr name = true := isStr_iff.mpr (in1_0 t rfl)
 refine ⟨putIn_mem (P := fun e => ∃ x t,e.key = .str x t∧e.hash = PyData.keyHash P x) (f := fun e => { e with val := rv }) (in2_1 name t rfl rfl) (fun e he => he) es r.keys,?_,by rw [List.length_set]; exact r.few,fun x => ?_⟩
 ·rw [putIn_len,countP_set hk]
  have g := r.get name
  have e1:fieldOf fs name = (fs[k]?).join := by unfold fieldOf; rw [hidx]
  rw [e1] at g
  have := r.len
  cases q:es.find? (·.key.isStr name) with
  | none =>
   rw [q] at g
   have g:(fs[k]?).join = none := g
   rw [g]
   simp; assumption
  | some e =>
   rw [q] at g
   refine ex1_1 g fun v' g U => ?_
   rw [g]; simp; assumption
 ·by_cases q:x = name
  ·subst q
   rw [putIn_find (p := fun e:DictEntry => e.key.isStr x) (f := fun e => { e with val := rv }) hx (fun e => rfl)]
   refine (in1_1 v ?_ ?_)
   ·unfold fieldOf; rw [hidx]; dsimp only; rw [List.getElem?_set_self hk]; rfl
   ·split <;> exact rr
  ·rw [putIn_find_other (p := fun e:DictEntry => e.key.isStr name) (q := fun e => e.key.isStr x) (f := fun e => { e with val := rv }) (hp _ hx x q) (fun e he => hp e he x q) (fun e => rfl)]
   have g := r.get x
   have e1:fieldOf (fs.set k (some v)) x = fieldOf fs x := by
    unfold fieldOf
    split
    ·rename_i j hj
     have:j ≠ k := fun e => by
      subst e
      have h1 := (List.findIdx?_eq_some_iff_getElem.mp hj)
      refine ex1_1 h1 fun hlt h2 U => ?_
      have h3 := beq_iff_eq.mp h2
      have h4:tbl[j]? = some tbl[j] := List.getElem?_eq_getElem hlt
      rw [hn] at h4
      exact q (by rw [← h3]; exact (Option.some.inj h4).symm)
     rw [List.getElem?_set_ne (Ne.symm this)]
    ·rfl
   rw [e1]
   exact g
section
variable {W:Wd} {F P PL PI:PM} {H:Hp} {s:Shared} {A:Around} {E:Value→Shared→Prop} {fm:Fm} {l:Loc} {m:Str→Option Value}
structure ClsOk (K:Frag) (C:Addr):Prop where
 ga:findIn K (.ref C) "__getattribute__" = some (some (.builtin "object.__getattribute__"))
 noga:findIn K (.ref C) "__getattr__" = some none
 sa:findIn K (.ref C) "__setattr__" = some (some (.builtin "object.__setattr__"))
 over:plainOver K C = true
 hasDict:(clsIn K C).any (·.hasDict) = true
 flds:∀ (k:Nat) (name:Str),tbl[k]? = some name→findIn K (.ref C) name = some none∧copiedNames.contains name = false
 makes:makesIn K C = true
theorem rcd_at {d:Addr} {fs:List (Option V)} (h:HS W F P H s) (hd:H d = some (.rcd fs)):∃ es n,s.heap.get? d = some (dictOf es n)∧RcdR F W.w.params fs es := by
 refine ex1_1 (h.hk _ _ hd) fun o ho hr => ?_
 cases hr with
 | rcd r => exact (in2_1 _ _ ho r)
set_option tactic.hygienic true in
theorem rcd_look {P:Params} {fs:List (Option V)} {es:List DictEntry} {n:Nat} (r:RcdR F P fs es) (name:Str):lookIn name (dictOf es n) = some ((es.find? (·.key.isStr name)).map (·.val)) := by
 unfold lookIn
 dsimp only
 show (match es.find? (·.key.isStr name) with | some e => some (some e.val) | none => if es.any (·.refKey) = true then none else some none) = _
 split
 ·rename_i e he; rw [he]; rfl
 ·rename_i he
  rw [he]
  have:es.any (·.refKey) = false := by
   rw [List.any_eq_false]
   intro e hm
   refine og fun G hG => ?_
   refine ex2_1 (r.keys e hm) fun x t hk U => ?_
   refine hG ?_; clear hG G
   simp [DictEntry.refKey,hk]
  rw [this]; rfl
theorem instAt {C d a:Addr} {fs:List (Option V)} {es:List DictEntry} {n:Nat} (ho:s.heap.get? a = some (instObj C d)) (hd:s.heap.get? d = some (dictOf es n)):InstAt s.heap a (instObj C d) C (some (dictOf es n)) :=
 ⟨ho,rfl,rfl,hd⟩
theorem handed {v:V} {rv:Value} (r:VR F v rv):handedIn rv = true := by cases r <;> rfl
set_option tactic.hygienic true in
theorem o_attr {C d:Addr} {k:Nat} {name:Str} {v:V} {rv:Value} {fs:List (Option V)} {ex:Bool} {Q:V→Hp→Prop} (h:FSt W F P fm l H s) (c:ClsOk W.K C) (r:VR F (.obj C d) rv) (hd:H d = some (.rcd fs)) (hn:tbl[k]? = some name) (hv:fs[k]? = some (some v)) (q:Q v H) :
  wpAny (model W.prog W.w) A (getAttr rv name ex) (Post W P fm l F Q) E s := by
 have h0 := h
 refine ex2_0 h fun PL m f => ?_; clear h
 cases r with
 | obj eF =>
  rename_i a
  refine og fun G hG => ?_
  refine ex2_1 (rcd_at f.hs hd) fun es n hod hr => ?_
  refine hG ?_; clear hG G
  have I := instAt (fs := fs) (f.hs.fk _ _ eF) hod
  have g := hr.get name
  have e1:fieldOf fs name = some v := by unfold fieldOf; rw [tbl_idx hn]; dsimp only; rw [hv]; rfl
  rw [e1] at g
  cases qe:es.find? (·.key.isStr name) with
  | none => rw [qe] at g; cases g
  | some en =>
   rw [qe] at g
   refine ex1_1 g fun v' g1 g2 => ?_; clear g
   cases g1
   refine og fun G hG => ?_
   refine ex1_1 (any_some c.hasDict) fun cd hc hhd => ?_
   refine ex0_1 (c.flds k name hn) fun f1 f2 => ?_
   refine hG ?_; clear hG G
   refine get_value (v := en.val) f.hs.K I c.ga ?_ (handed g2) (Post.here (h0.tok _) g2 q)
   unfold findObj
   rw [hc,Option.bind_some,f1,Option.bind_some]
   simp only [Option.bind_some]
   have:PySem.W.ownOf cd (some (dictOf es n)) name = some (some en.val) := by
    unfold PySem.W.ownOf
    rw [hhd,if_pos rfl]
    show lookIn name (dictOf es n) = _
    rw [rcd_look hr,qe]; rfl
   rw [this]; rfl
theorem FS0.turn2 {a:Addr} {c c':Cell} {o':Obj} {h':Heap} {tk:Nat} (f:FS0 W F P PL fm l H s m) (e:H a = some c) (x:∀ b o,b ≠ a→b ≠ fm.env.locals→s.heap.get? b = some o→h'.get? b = some o) (e':h'.get? a = some o') (ns:h'.Ns fm.env.locals m) (r:CellR F W.w.params o' c') (hp:∀ es,c' = .pdict es→a ≠ sysModules) :
  FSt W F P fm l (H.set a c') { s with heap := h',toks := tk } := by
 have nL := f.notL e
 refine ex0_1 (f.hs.drop e) fun h1 fr => ?_
 have nF:∀ b o,F b = some o→b ≠ a∧b ≠ fm.env.locals := fun b o q => ⟨fun y => (by rw [y,fr.1] at q; cases q),fun y => (by rw [y,f.free.1] at q; cases q)⟩
 have nP:∀ b o,(P.un PL) b = some o→b ≠ a∧b ≠ fm.env.locals := fun b o q => ⟨fun y => (by rw [y,fr.2.1] at q; cases q),fun y => (by rw [y,f.free.2.1] at q; cases q)⟩
 have h2:HS W F (P.un PL) (H.erase a) { s with heap := h',toks := tk } := by
  refine ⟨h1.base,fun b o q => x b o (nF b o q).1 (nF b o q).2 (h1.fk b o q),fun b o q => x b o (nP b o q).1 (nP b o q).2 (h1.pk b o q),fun b c q => ?_,h1.fp,h1.fh,h1.ph,h1.gens,h1.os⟩
  refine ex1_1 (h1.hk b c q) fun o e2 r2 => ?_
  refine (in1_1 o (x b o (fun y => by rw [y,fr.2.2] at q; cases q) (fun y => ?_) e2) r2)
  have := H.erase_le a b c q
  rw [y,f.free.2.2] at this; cases this
 have h3 := h2.toH fr e' r hp
 rw [Hp.erase_set] at h3
 exact f.go (PM.le_refl F) h3 ⟨f.free.1,f.free.2.1,by rw [Hp.set_ne _ _ (Ne.symm nL)]; exact f.free.2.2⟩ ns
noncomputable def allN2 (h:Heap) (L a:Addr):List (Addr × Obj) := (allN h L).filter fun p => p.1 != a
theorem news_all2 (h:Heap) (L a:Addr):News {} L h (allN2 h L a) := fun p hp => news_all h L p (List.mem_filter.mp hp).1
theorem allN2_ne {h:Heap} {L a:Addr}:∀ p ∈ allN2 h L a,p.1 ≠ a := fun p hp => by simpa using (List.mem_filter.mp hp).2
theorem allN2_mem {h:Heap} {L a b:Addr} {o:Obj} (e:h.get? b = some o) (ne:b ≠ L) (ne2:b ≠ a):(b,o) ∈ allN2 h L a := List.mem_filter.mpr ⟨allN_mem e ne,by simpa using ne2⟩
set_option tactic.hygienic true in
theorem o_setattr {C d:Addr} {k:Nat} {name:Str} {v:V} {rv ro:Value} {fs:List (Option V)} {Q:Unit→Shared→Prop} (h:FSt W F P fm l H s) (c:ClsOk W.K C) (ro':VR F (.obj C d) ro) (rr:VR F v rv) (hd:H d = some (.rcd fs)) (hn:tbl[k]? = some name) (hk:k < fs.length)
  (q:∀ s',FSt W F P fm l (H.set d (.rcd (fs.set k (some v)))) s'→Q () s') :
  wpAny (model W.prog W.w) A (setAttr ro name rv) Q E s := by
 refine ex2_0 h fun PL m f => ?_; clear h
 cases ro' with
 | obj eF =>
  rename_i a
  refine og fun G hG => ?_
  refine ex2_1 (rcd_at f.hs hd) fun es n hod hr => ?_
  have I := instAt (fs := fs) (f.hs.fk _ _ eF) hod
  refine ex0_1 (c.flds k name hn) fun f1 f2 => ?_
  refine hG ?_; clear hG G
  have N0 := news_all2 s.heap fm.env.locals d
  have N:News {} fm.env.locals s.heap ([] ++ (d,dictOf es n) :: allN2 s.heap fm.env.locals d) := fun p hp => by
   rcases List.mem_cons.mp hp with rfl | hp
   ·exact ⟨hod,f.notL hd,empty_get _⟩
   ·exact N0 p hp
  have hz:es.length ≤ 7 := Nat.le_trans hr.len (Nat.le_trans List.countP_le_length hr.few)
  have hz':∀ t,(PySem.putIn (·.key.isStr name) (fun e => { e with val := rv }) ⟨PyData.keyHash W.w.params name,.str name t,rv⟩ es).length ≤ 1000 := fun t => by rw [putIn_len]; split <;> lia
  refine set_plain f.hs.K I c.sa (osa_dict (s := { s with toks := s.toks + 1 }) (pre := []) (post := allN2 s.heap fm.env.locals d) f.fr N f.hs.K I rfl c.over (by unfold takerIn; rw [f1]; rfl) c.hasDict (by rw [rcd_look hr]; rfl) (by intro p hp; cases hp) allN2_ne
   (PySem.putName_eq name _ _ rv _ none es n #[]) rfl (hz' _) (fun h' F' N' => q _ ?_))
  have hr' := rcd_put (t := s.toks + 1) hr hn hk rr
  exact f.turn2 hd (fun b o ne nL e => (N' (b,o) (.tail _ (allN2_mem e nL ne))).1) (N' _ (.head _)).1 F'.ns (.rcd hr') npR
set_option tactic.hygienic true in
theorem o_method {C d:Addr} {name:Str} {ro:Value} {fs:List (Option V)} {fa:Addr} {pl:Sem Bool} {Q:Value × List Value→Shared→Prop} (h:FSt W F P fm l H s) (c:ClsOk W.K C) (ro':VR F (.obj C d) ro) (hd:H d = some (.rcd fs))
  (hf:findIn W.K (.ref C) name = some (some (.ref fa))) (ht:typeIn W.K (.ref fa) = some (.type "function")) (hno:tbl.findIdx? (· == name) = none) (q:Q (.ref fa,[ro]) s) :
  wpAny (model W.prog W.w) A (getMethod ro name pl) Q E s := by
 refine ex2_0 h fun PL m f => ?_; clear h
 cases ro' with
 | obj eF =>
  rename_i a
  refine og fun G hG => ?_
  refine ex2_1 (rcd_at f.hs hd) fun es n hod hr => ?_
  refine hG ?_; clear hG G
  have I := instAt (fs := fs) (f.hs.fk _ _ eF) hod
  refine method_fn f.hs.K I c.ga c.noga hf ht ?_ q
  show (lookIn name (dictOf es n)).map (·.isSome) = some false
  rw [rcd_look hr]
  have g := hr.get name
  have e1:fieldOf fs name = none := by unfold fieldOf; rw [hno]
  rw [e1] at g
  cases qe:es.find? (·.key.isStr name) with
  | none => rfl
  | some en => rw [qe] at g; obtain ⟨v',g1,_⟩ := g; cases g1
end
section
variable {prog:Program} {w:World} {A:Around} {E:Value→Shared→Prop} {s:Shared} {K:Frag}
theorem wk_here {α:Type} {M:Model} {t:Sem α} {r:α} {Q:α→Shared→Prop} (x:Looks M s.heap t r) (q:Q r s):wk M A t Q E s := up (x.here q)
theorem wk_special_fn {M:Model} {x C:Addr} {ox:Obj} {od:Option Obj} {name:Str} {f:Addr} {args:List Value} {Q:Option Value→Shared→Prop} (X:K.In s.heap) (I:InstAt s.heap x ox C od)
  (hs:findIn K (.ref C) name = some (some (.ref f))) (hf:typeIn K (.ref f) = some (.type "function")) (h:wk M A (call (.ref f) (.ref x :: args)) (fun v => Q (some v)) E s) :
  wk M A (callSpecial? (.ref x) name args) Q E s :=
 wk_bind (wk_bind (wk_here I.type (wk_here (looks_findIn X hs) (wk_holding (wk_bind (wk_here (bind_fn X _ hf) (wk_bind (wk_mono h (fun U U z => wk_pure z) fun U U z => z))))))))
theorem kc_builtin {id:String} {args:Args} {b:Builtin} {R:Result→Shared→Prop} (hb:entryFor table id = some b)
  (h:wk (model prog w) (A.under (.builtin id args)) (b args)
   (fun fin s' => match fin with | .done f => R (.ok f) s' | .again c' => (c'.quiet = true∧cln c' = true)∧kc (model prog w) A c' R s') (fun e s' => R (.error e) s') s) :
  kc (model prog w) A (.builtin id args) R s := by
 refine kc_of_tree ?_
 show wk _ _ (match entryFor table id with | some b => b args | none => unsupported ((withoutEnding? id "#data").getD id)) _ _ s
 rw [hb]; exact h
theorem cln_id {id:String} {args:Args} (h:badIds.contains id = false):cln (.builtin id args) = true := by
 show (!badIds.contains id) = true
 rw [h]; rfl
theorem kc_make {C fI:Addr} {rest:List Value} {R:Result→Shared→Prop} (X:K.In s.heap) (hm:makesIn K C = true)
  (hi:findIn K (.ref C) "__init__" = some (some (.ref fI))) (hf:typeIn K (.ref fI) = some (.type "function"))
  (h:kc (model prog w) (A.under (.builtin "type.__call__" ⟨.ref C :: rest,[]⟩)) (.call (.ref fI) ⟨.ref (s.heap.objs.size + 1) :: rest,[]⟩)
   (fun r s' => ∃ v,r = .ok (.ret v)∧v = .none∧R (.ok (.ret (.ref (s.heap.objs.size + 1)))) s') { s with heap := (s.heap.push emptyDict).push (instObj C s.heap.objs.size) }) :
  kc (model prog w) A (.call (.ref C) ⟨rest,[]⟩) R s := by
 have Y := makes_of (M := model prog w) X hm
 have Y' := Y
 obtain ⟨⟨oc,od,cd,sl,hC,e1,e2,e4⟩,made,base,self,top,call,typ⟩ := Y
 refine kc_of_tree ?_
 show wk _ A.in1 (callAny (.ref C) ⟨rest,[]⟩) _ _ _
 simp only [callAny]
 refine wk_bind (up (wpAny_load hC ?_))
 show wk _ _ (callAny.viaDunder (.ref C) _) _ _ _
 unfold callAny.viaDunder
 refine wk_bind (wk_here call ?_)
 dsimp only
 rw [tc_bind]
 refine wk_bind (wk_pure (wk_bind (wk_pure ?_)))
 refine wk_pure (a := Fin.again (.call (.builtin "type.__call__") ⟨.ref C :: rest,[]⟩)) ⟨⟨rfl,rfl⟩,?_⟩
 refine kc_of_tree ?_
 show wk _ A.in1 (do checkBuiltinCall "type.__call__" ⟨.ref C :: rest,[]⟩; again (.builtin "type.__call__" ⟨.ref C :: rest,[]⟩)) _ _ _
 refine wk_bind (up (check_slot tc_kind tc_split typ (tc_args _ _ _) ?_))
 refine wk_pure ⟨⟨Code.quiet_builtin _ (by decide +kernel),cln_id (by decide +kernel)⟩,kc_builtin entry_typeCall ?_⟩
 have hmro:Looks (model prog w) s.heap (mroOf (.ref C)) cd.mro := ((Looks.ld (part := none) hC).andThen .now).andThen .now
 unfold Builtin.«type.__call__»
 show wk _ _ (mroOf (.ref C) >>= _) _ _ _
 refine wk_bind (wk_here hmro ?_)
 rw [if_neg (by rw [e4]; decide)]
 show wk _ _ (Bind.madeBy (.ref C) >>= _) _ _ _
 refine wk_bind (wk_here made ?_)
 dsimp only
 obtain ⟨hh,g,d,t,os⟩ := s
 have k:∀ b o,hh.get? b = some o→((hh.push emptyDict).push (instObj C hh.objs.size)).get? b = some o := fun b o e => Heap.get?_push_of_some _ (Heap.get?_push_of_some _ e)
 have hx:((hh.push emptyDict).push (instObj C hh.objs.size)).get? (hh.objs.size + 1) = some (instObj C hh.objs.size) := by
  rw [← Heap.size_push hh emptyDict]; exact Heap.get?_push_size _ rfl
 have hdx:((hh.push emptyDict).push (instObj C hh.objs.size)).get? hh.objs.size = some emptyDict := Heap.get?_push_of_some _ (Heap.get?_push_size _ rfl)
 refine wk_bind (wk_pure ?_)
 refine wk_bind (wk_holding (up (wpAny_call (new_K (rest := rest) (kw := []) Y' (looks_findIn X hi) (.inl rfl) ?_))))
 have t1:Looks (model prog w) ((hh.push emptyDict).push (instObj C hh.objs.size)) (typeOf (.ref (hh.objs.size + 1))) (.ref C) := (Looks.ld hx).andThen .now
 have s1:Looks (model prog w) ((hh.push emptyDict).push (instObj C hh.objs.size)) (isInstance (.ref (hh.objs.size + 1)) (.ref C)) true := t1.andThen (self.keeps k)
 refine wk_bind (wk_here (s := ⟨(hh.push emptyDict).push (instObj C hh.objs.size),g,d,t,os⟩) s1 ?_)
 rw [if_neg (by decide)]
 refine wk_bind (wk_holding (wk_special_fn (X.keeps k) (x := hh.objs.size + 1) (ox := instObj C hh.objs.size) (C := C) (od := some emptyDict) ⟨hx,rfl,rfl,hdx⟩ hi hf ?_))
 refine wk_call (kc_mono h fun r s' hr => ?_)
 obtain ⟨v,rfl,rfl,hr⟩ := hr
 exact wk_pure hr
end
noncomputable def Room (A:Around) (d:Nat):Prop := A.handled = none∧A.depth + 3 * d < recursionLimit∧A.units + 10 * d < 9000
noncomputable def RoomB (A:Around) (d:Nat):Prop := A.handled = none∧A.depth + 3 * d + 2 < recursionLimit∧A.units + 10 * d + 5 < 9000
theorem RoomB.room {A:Around} {d e:Nat} (h:RoomB A d) (le:e ≤ d):Room A e := ⟨h.1,by have := h.2.1; lia,by have := h.2.2; lia⟩
theorem Room.body {A:Around} {d:Nat} {env:Env} (h:Room A (d + 1)):RoomB (A.deeper env) d := ⟨h.1,by show A.depth + 1 + 3 * d + 2 < _; have := h.2.1; lia,by show A.units + 3 + 10 * d + 5 < _; have := h.2.2; lia⟩
theorem RoomB.under {A:Around} {d e:Nat} {C:Addr} {rest:List Value} (h:RoomB A d) (le:e ≤ d):Room (A.under (.builtin "type.__call__" ⟨.ref C :: rest,[]⟩)) e := by
 refine ⟨h.1,?_,?_⟩
 ·have e1:(Code.builtin "type.__call__" ⟨.ref C :: rest,[]⟩).weight = 1 := rfl
  show A.depth + (Code.builtin "type.__call__" ⟨.ref C :: rest,[]⟩).weight + 3 * e < recursionLimit
  rw [e1]; have := h.2.1; lia
 ·have e1:(Code.builtin "type.__call__" ⟨.ref C :: rest,[]⟩).cUnits = 1 := rfl
  show A.units + (Code.builtin "type.__call__" ⟨.ref C :: rest,[]⟩).cUnits + 10 * e < 9000
  rw [e1]; have := h.2.2; lia
noncomputable def FnOk (W:Wd) (sp:SpecT) (a:Addr) (d:Nat):Prop :=
 ∀ {A:Around} {F P:PM} {H:Hp} {s:Shared} {vs:List V} {vals:List Value} {Q:V→Hp→Prop} {R:Result→Shared→Prop},Room A d→HS W F P H s→VRs F vs vals→sp vs H Q →
  (∀ F' mv H' v s',PM.le F F'→HS W F' P H' s'→VR F' mv v→Q mv H'→R (.ok (.ret v)) s')→kc (model W.prog W.w) A (.call (.ref a) ⟨vals,[]⟩) R s
section
variable {W:Wd} {F P PL PI:PM} {H:Hp} {s:Shared} {A:Around} {E:Value→Shared→Prop} {fm:Fm} {l:Loc} {m:Str→Option Value}
theorem o_call {a:Addr} {d:Nat} {sp:SpecT} {vs:List V} {vals:List Value} {Q:V→Hp→Prop} (h:FSt W F P fm l H s) (hf:FnOk W sp a d) (hr:Room A d) (r:VRs F vs vals) (q:sp vs H Q) :
  wk (model W.prog W.w) A (call (.ref a) vals) (Post W P fm l F Q) E s := by
 refine og fun G hG => ?_
 refine ex2_0 h fun PL m f => ?_; clear h
 refine ex1_2 f.guard fun oL hoL hg hb => ?_
 refine hG ?_; clear hG G
 exact wk_call (hf hr hg r q (fun F' mv H' v s' le hs rv hq => (in3_3 F' mv H' le (f.back le hs hb) rv hq)))
set_option tactic.hygienic true in
theorem rcd_empty (F:PM) (P:Params):RcdR F P (List.replicate 7 none) [] :=
 ⟨fun e he => (by cases he),by simp,by simp,fun k => by
  show fieldOf (List.replicate 7 none) k = none
  unfold fieldOf
  split
  ·rename_i j _
   rw [List.getElem?_replicate]
   split <;> rfl
  ·rfl⟩
theorem o_new {C fI:Addr} {d:Nat} {sp:SpecT} {vs:List V} {vals:List Value} {Q:V→Hp→Prop} (h:FSt W F P fm l H s) (hm:makesIn W.K C = true)
  (hi:findIn W.K (.ref C) "__init__" = some (some (.ref fI))) (ht:typeIn W.K (.ref fI) = some (.type "function"))
  (hf:FnOk W sp fI d) (hr:RoomB A d) (r:VRs F vs vals) (q:∀ x,H x = none→sp (.obj C x :: vs) (H.set x (.rcd (List.replicate 7 none))) (fun r H => r = .none∧Q (.obj C x) H)) :
  wk (model W.prog W.w) A (call (.ref C) vals) (Post W P fm l F Q) E s := by
 refine og fun G hG => ?_
 apply ex2_0 h; intro PL m f; clear h
 apply ex1_2 f.guard; intro oL hoL hg hb
 refine hG ?_; clear hG G
 have n1 := hg.new
 have g1 := (hg.push emptyDict).toH (s := { s with heap := s.heap.push emptyDict }) n1 (Heap.get?_push_size _ rfl) (c := .rcd (List.replicate 7 none)) (.rcd (es := []) (n := 0) (rcd_empty _ _)) npR
 have n2 := g1.new
 have g2 := (g1.push (instObj C s.heap.objs.size)).toF (s := { s with heap := (s.heap.push emptyDict).push (instObj C s.heap.objs.size) }) n2 (Heap.get?_push_size _ rfl)
 rw [Heap.size_push] at g2
 refine wk_call (kc_make hg.K hm hi ht (hf (hr.under (Nat.le_refl _)) g2.1 (.cons (.obj (PM.set_self ..)) (r.mono g2.2)) (q _ n1.2.2) (fun F' mv H' v s' le hs rv hq => ?_)))
 obtain ⟨rfl,hq⟩ := hq
 cases rv
 exact (in1_2 .none rfl rfl ⟨F',_,H',PM.le_trans g2.2 le,f.back (PM.le_trans g2.2 le) hs hb,.obj (le _ _ (PM.set_self ..)),hq⟩)
end
section
variable {M:Model} {A:Around} {E:Value→Shared→Prop} {s:Shared} {env:Env}
noncomputable def KeptBy (M:Model) (A:Around) (f:Value) (k:Keeper) (s:Shared):Prop := ∀ {Q:Keeper→Shared→Prop} {E:Value→Shared→Prop},Q k s→wpAny M A (keeperOf f) Q E s
theorem kept_fn {a:Addr} {o:Obj} {fd:FuncData} (ho:s.heap.get? a = some o) (hd:o.data = .func fd):KeptBy M A (.ref a) .frame s := fun q => by
 unfold keeperOf
 refine wpAny_bind (wpAny_load ho ?_)
 rw [hd]; exact wpAny_pure q
theorem kept_builtin {id:String}:KeptBy M A (.builtin id) .machine s := fun q => wpAny_pure q
theorem kept_type {id:String}:KeptBy M A (.type id) .machine s := fun q => wpAny_pure q
theorem kept_cls {C:Addr} {oc:Value} {od:Option Addr} {cd:ClassData} {sl:Array (Option Value)} (ho:s.heap.get? C = some ⟨oc,od,.cls cd,sl⟩) (hc:Looks M s.heap (specialOf (.ref C) "__call__") (some (.builtin "type.__call__"))):KeptBy M A (.ref C) .machine s := fun q => by
 unfold keeperOf
 refine wpAny_bind (wpAny_load ho ?_)
 dsimp only
 refine wpAny_bind (hc.here ?_)
 exact wpAny_pure (by rw [if_pos (by decide)]; exact q)
theorem wk_evalArgs {f:Value} {args:List (Bool × Sem Value)} {Q:Args→Shared→Prop} (hp:args.any (·.1) = false) (h:wk M A (spliced args) (fun vs s' => Q ⟨vs,[]⟩ s') E s):wk M A (evalArgs f true args []) Q E s := by
 unfold evalArgs
 cases args with
 | nil =>
  show wk M A (spliced [] >>= _) Q E s
  refine wk_bind (wk_mono h (fun vs s' h' => wk_bind (wk_pure (wk_holding ?_))) fun U U x => x)
  exact wk_bind (wk_pure (wk_bind (wk_pure (wk_pure h'))))
 | cons a rest =>
  obtain ⟨b,x⟩ := a
  cases b with
  | true => simp at hp
  | false =>
   show wk M A (spliced ((false,x) :: rest) >>= _) Q E s
   refine wk_bind (wk_mono h (fun vs s' h' => wk_bind (wk_pure (wk_holding ?_))) fun U U x => x)
   exact wk_bind (wk_pure (wk_bind (wk_pure (wk_pure h'))))
theorem wk_callWith {pos:Pos} {f:Value} {first:List Value} {args:List (Bool × Sem Value)} {Q:Value→Shared→Prop} (hp:args.any (·.1) = false)
  (h:wk M A (spliced args) (fun vs s' => (∃ k,(k = .frame ∨ k = .machine)∧KeptBy M A f k s')∧wk M A (call f (first ++ vs)) Q E s') E s) :
  wk M A (callWith pos f first args []) Q E s := by
 unfold callWith
 refine wk_bind (wk_holding (wk_evalArgs hp (wk_mono h (fun vs s' h' => wk_bind (wk_standAt ?_)) fun U U x => x)))
 refine og fun G hG => ?_
 refine ex0_1 h' fun xq1 hc => ?_; clear h'
 obtain ⟨k,hk,hkept⟩ := xq1
 refine hG ?_; clear hG G
 have tail:∀ {t:Sem Value},wk M A t Q E s'→wk M A (t >>= fun r => holding [r] point >>= fun U => pure r) Q E s' :=
  fun ht => wk_bind (wk_mono ht (fun r s₂ hr => wk_bind (wk_holding (wk_point (wk_pure hr)))) fun U U x => x)
 have keep:∀ {t:Sem Value},wk M A t Q E s'→wk M A (t.keep [plainCall]) Q E s' := fun ht Γ p hΓ hl => by rw [Sem.wp_keep]; exact ht Γ p hΓ hl
 simp only [hp,List.any_nil,Bool.or_false]
 refine wk_bind (up (hkept ?_))
 rcases hk with rfl | rfl
 ·dsimp only
  split
  ·exact tail hc
  ·exact tail (by unfold callMarked; exact keep hc)
 ·exact tail hc
theorem wk_spliced_nil {Q:List Value→Shared→Prop} (h:Q [] s):wk M A (spliced []) Q E s := wk_pure h
theorem wk_spliced_cons {x:Sem Value} {rest:List (Bool × Sem Value)} {Q:List Value→Shared→Prop}
  (h:wk M A x (fun v s₁ => wk M A (spliced rest) (fun vs s₂ => Q (v :: vs) s₂) E s₁) E s):wk M A (spliced ((false,x) :: rest)) Q E s := by
 rw [spliced]
 refine wk_bind (wk_mono h (fun v s₁ h₁ => ?_) fun U U x => x)
 simp only [Bool.false_eq_true,if_false]
 exact wk_bind (wk_pure (wk_bind (wk_holding (wk_mono h₁ (fun vs s₂ h₂ => wk_pure h₂) fun U U x => x))))
end
theorem ba_mro:mroOf (.type "bytearray") = pure [.type "bytearray",.type "object"] := by rw [mroOf_type]; kernel_rfl
theorem ba_lookup_new:typeLookup (.type "bytearray") "__new__" = pure (some (.builtin "bytearray.__new__")) := by rw [typeLookup_type,builtinLookup_eq_fast]; kernel_rfl
theorem ba_slot_init:Slot "bytearray" "__init__" "bytearray.__init__" :=
 .of (owner := "bytearray") (n := "__init__") (by rw [typeLookup_type,builtinLookup_eq_fast]; kernel_rfl) (by decide +kernel) (by decide +kernel) (by decide +kernel)
  (by first | exact .inl (by decide +kernel) | exact .inr (by decide +kernel)) (by rw [isSubtype_type]; kernel_rfl)
theorem ba_called:TypeCalled "bytearray" "bytearray.__new__" "bytearray.__init__" :=
 ⟨by decide +kernel,by decide +kernel,(in2_0 _ _ ba_mro),madeBy_type ba_mro ba_lookup_new (by decide +kernel),by decide +kernel,by rw [isSubtype_type]; kernel_rfl,ba_slot_init⟩
theorem ba_typeCall:checkTypeCall "bytearray" ⟨[],[]⟩ = pure () := by kernel_rfl
theorem ba_newCall:checkBuiltinCall "bytearray.__new__" ⟨[.type "bytearray"],[]⟩ = pure () := by kernel_rfl
theorem ba_plain_new:plainId "bytearray.__new__" = true := by decide +kernel
theorem ba_entry_new:entryFor table "bytearray.__new__" = some Builtin.«list.__new__» :=
 entryFor_alias (id' := "list.__new__") (by rw [fastTable_eq_tree]; kernel_rfl) (by decide +kernel) (by decide +kernel) (by rw [fastTable_eq_tree]; kernel_rfl)
theorem ba_entry_init:entryFor table "bytearray.__init__" = some Builtin.«bytearray.__init__» := by first | exact entryFor_of_tree (by kernel_rfl) | exact entryFor_of_fast (by kernel_rfl)
theorem ba_sub:isSubtype (.type "bytearray") (.type "bytearray") = pure true := by rw [isSubtype_type]; kernel_rfl
set_option maxRecDepth 1000000 in
set_option maxHeartbeats 4000000 in
theorem ba_owner:("bytearray.__new__".splitOn ".__new__").headD "" = "bytearray" := by simp +decide [String.splitOn,String.splitOnAux]
theorem ba_initArgs (v:Value):argsOk "bytearray.__init__" ⟨[v],[]⟩ := by unfold argsOk; kernel_rfl
theorem ba_bind0:Builtin.Bytes.bindOptional "bytearray.__init__" "bytearray" ["source","encoding","errors"] [] [] = pure [none,none,none] := by kernel_rfl
theorem ba_rel:typeLookup (.type "bytearray") "__release_buffer__" = pure (some (.builtin "bytearray.__release_buffer__")) := by rw [typeLookup_type,builtinLookup_eq_fast]; kernel_rfl
section
variable {prog:Program} {w:World} {A:Around} {E:Value→Shared→Prop} {s:Shared}
theorem cln_bad {id:String} {args:Args} (h:badIds.contains id = true) (k:cln (.builtin id args) = true):False := by
 have k:(!badIds.contains id) = true := k
 rw [h] at k; cases k
noncomputable def lends (v:Value):Code × Pos→Bool
 | (.builtin "bytearray.__contains__" ⟨u :: _,_⟩,_) | (.builtin "bytearray.__mod__" ⟨u :: _,_⟩,_)
 | (.builtin "bytearray.__rmod__" ⟨_ :: u :: _,_⟩,_) | (.builtin "_struct.pack_into.held" ⟨u :: _,_⟩,_) => Builtin.Bytes.sameRef u v
 | (.builtin "bytearray.find.held" ⟨_ :: _ :: held,_⟩,_) => held.any (Builtin.Bytes.sameRef v)
 | (.builtin id ⟨u :: _,_⟩,_) => Builtin.Bytes.sameRef u v && Builtin.Bytes.decodersThatHold.contains id
 | _ => false
set_option tactic.hygienic true in
theorem lends_not {v:Value} {x:Code × Pos} (h:cln x.1 = true):lends v x = false := by
 obtain ⟨c,p⟩ := x
 cases c <;> first | rfl | skip
 rename_i id args
 have no:∀ k:String,badIds.contains k = true→id ≠ k := fun k hk e => by subst e; exact cln_bad hk h
 obtain ⟨as,kw⟩ := args
 have h1 := no "bytearray.__contains__" (by decide +kernel)
 have h2 := no "bytearray.__mod__" (by decide +kernel)
 have h3 := no "bytearray.__rmod__" (by decide +kernel)
 have h4 := no "_struct.pack_into.held" (by decide +kernel)
 have h5 := no "bytearray.find.held" (by decide +kernel)
 have e:Builtin.Bytes.decodersThatHold.contains id = false := by
  cases q:Builtin.Bytes.decodersThatHold.contains id with
  | false => rfl
  | true =>
   have:badIds.contains id = true := by
    simp only [badIds,List.contains_eq_mem,List.mem_append,decide_eq_true_eq] at q ⊢
    exact .inr q
   exact (cln_bad this h).elim
 unfold lends lends.match_1
 refine (dif_neg h1).trans ((dif_neg h2).trans ((dif_neg h3).trans ((dif_neg h4).trans ((dif_neg h5).trans ?_))))
 cases as with
 | nil => rfl
 | cons u r => show (Builtin.Bytes.sameRef u v && Builtin.Bytes.decodersThatHold.contains id) = false; rw [e,Bool.and_false]
theorem exported_eq (v:Value):Builtin.Bytes.exported v = (do return (← stack).any (lends v)) := rfl
theorem wk_exported {v:Value} {Q:Bool→Shared→Prop} (h:Q false s):wk (model prog w) A (Builtin.Bytes.exported v) Q E s := fun Γ p hΓ hl => by
 rw [exported_eq]
 show Q (((Γ.code,p) :: Γ.below).any (lends v)) s
 have e:((Γ.code,p) :: Γ.below).any (lends v) = false := by
  rw [List.any_eq_false]
  intro x hx
  rw [lends_not (by
   rcases List.mem_cons.mp hx with rfl | hx
   ·exact hl.1
   ·exact hl.2 x hx)]
  simp
 rw [e]; exact h
end
section
variable {prog:Program} {w:World} {A:Around} {E:Value→Shared→Prop} {s:Shared}
noncomputable abbrev baObj (b:Array UInt8):Obj := { cls := .type "bytearray",data := .bytearray b }
theorem ba_typeIs {a:Addr} {o:Obj} (ho:s.heap.get? a = some o) (hc:o.cls = .type "bytearray"):s.TypeIs (.ref a) "bytearray" := (in1_1 o ho hc)
theorem wk_lent {a:Addr} {o:Obj} {b:Array UInt8} (ho:s.heap.get? a = some o) (hd:o.data = .bytearray b 0) {Q:Bool→Shared→Prop} (h:Q false s) :
  wk (model prog w) A (Builtin.Bytes.exported (.ref a) <||> (do return (← Builtin.Bytes.exportsOf (.ref a)) > 0)) Q E s := by
 refine wk_bind (wk_exported ?_)
 show wk _ _ (Builtin.Bytes.exportsOf (.ref a) >>= fun n => pure (decide (n > 0))) _ _ _
 refine wk_bind ?_
 unfold Builtin.Bytes.exportsOf
 refine wk_bind (up (wpAny_load ho ?_))
 rw [hd]
 exact wk_pure (wk_pure h)
theorem ba_update {a:Addr} {o:Obj} {b b':Array UInt8} {f:Array UInt8→Array UInt8} (ho:s.heap.get? a = some o) (hd:o.data = .bytearray b 0) (hf:f b = b') (hz:b'.size ≤ sizeLine) {Q:Unit→Shared→Prop}
  (h:∀ h' o',h'.get? a = some o'→(o'.cls = o.cls∧o'.dict = o.dict)→o'.data = .bytearray b' 0→Heap.SameBut a s.heap h'→Q () { s with heap := h' }) :
  wpAny (model prog w) A (updateBytearray a f) Q E s := by
 have e:((Obj.mapBytearray f o).cls = o.cls∧(Obj.mapBytearray f o).dict = o.dict)∧(Obj.mapBytearray f o).data = .bytearray b' 0∧(Obj.mapBytearray f o).isFreed = false := by
  obtain ⟨c,d,dt,sl⟩ := o
  cases hd
  subst hf
  exact ⟨⟨rfl,rfl⟩,rfl,rfl⟩
 have ho' := Heap.get?_update_self (Obj.mapBytearray f) ho e.2.2
 unfold updateBytearray
 refine wpAny_bind (wpAny_load ho ?_)
 rw [hd]
 refine wpAny_bind (wpAny_update ho (wpAny_lookBehind ho' ?_ (h _ _ ho' e.1 e.2.1 (Heap.SameBut.update ..))))
 rw [e.2.1]
 show (if b'.size > sizeLine then some "bytearray:memory" else none) = none
 rw [if_neg (by exact Nat.not_lt.mpr hz)]
theorem ba_slot_append:Slot "bytearray" "append" "bytearray.append" :=
 .of (owner := "bytearray") (n := "append") (by rw [typeLookup_type,builtinLookup_eq_fast]; kernel_rfl) (by decide +kernel) (by decide +kernel) (by decide +kernel)
  (by first | exact .inl (by decide +kernel) | exact .inr (by decide +kernel)) (by rw [isSubtype_type]; kernel_rfl)
theorem ba_entry_append:entryFor table "bytearray.append" = some Builtin.«bytearray.append» := by first | exact entryFor_of_tree (by kernel_rfl) | exact entryFor_of_fast (by kernel_rfl)
theorem ba_args_append (a b:Value):argsOk "bytearray.append" ⟨[a,b],[]⟩ := by unfold argsOk; kernel_rfl
theorem ba_append_type:typeOf (.builtin "bytearray.append") = pure (.type "method_descriptor") := by show builtinType _ = _; rw [builtinType_eq_fast]; kernel_rfl
theorem wk_builtin {T id:String} {name:Str} {b:Builtin} {self:Value} {rest:List Value} {Q:Value→Shared→Prop} (slot:Slot T name id) (hT:s.TypeIs self T) (hb:entryFor table id = some b) (hok:argsOk id ⟨self :: rest,[]⟩) (hcl:badIds.contains id = false)
  (h:wk (model prog w) A.in1 (b ⟨self :: rest,[]⟩) (fun fin s' => ∃ v,fin = .done (.ret v)∧Q v s') (fun U U => False) s) :
  wk (model prog w) A (call (.builtin id) (self :: rest)) Q E s := by
 refine wk_call (kc_of_tree ?_)
 show wk _ A.in1 (do checkBuiltinCall id ⟨self :: rest,[]⟩; again (.builtin id ⟨self :: rest,[]⟩)) _ _ _
 refine wk_bind (up (slot.check _ _ _ _ _ _ _ _ hT hok ?_))
 refine wk_pure ⟨⟨plainId_quiet slot.plain _,cln_id hcl⟩,kc_builtin hb ?_⟩
 rw [Around.under_plainId slot.plain _]
 refine wk_mono h (fun fin s' ⟨v,e,q⟩ => ?_) fun U U e => e.elim
 subst e
 exact q
theorem wk_bappend {a:Addr} {o:Obj} {b:Array UInt8} {i:Int} {t:Tok} {Q:Value→Shared→Prop} (ho:s.heap.get? a = some o) (hc:LB o) (hd:o.data = .bytearray b 0) (hi:0 ≤ i∧i < 256) (hz:b.size < sizeLine)
  (h:∀ h' o',h'.get? a = some o'→LB o'→o'.data = .bytearray (b.push i.toNat.toUInt8) 0→Heap.SameBut a s.heap h'→Q .none { s with heap := h' }) :
  wk (model prog w) A (call (.builtin "bytearray.append") [.ref a,.int i t]) Q E s := by
 refine wk_builtin ba_slot_append (ba_typeIs ho hc.1) ba_entry_append (ba_args_append _ _) (by decide +kernel) ?_
 unfold Builtin.«bytearray.append»
 refine wk_bind (wk_of_eq (a := (.ref a,.int i t)) (by kernel_rfl) ?_)
 show wk _ _ (Builtin.Bytes.byteValue (.int i t) >>= _) _ _ _
 refine wk_bind ?_
 unfold Builtin.Bytes.byteValue
 refine wk_bind (wk_of_eq (a := i) rfl ?_)
 rw [if_neg (by simp only [Bool.or_eq_true,decide_eq_true_eq]; lia)]
 refine wk_pure (wk_bind ?_)
 unfold Builtin.Bytes.checkResize
 refine wk_bind (wk_lent ho hd ?_)
 rw [if_neg (by decide)]
 refine wk_pure (wk_bind ?_)
 show wk _ _ (updateBytearray a (·.push i.toNat.toUInt8)) _ _ _
 refine up (ba_update ho hd rfl (by rw [Array.size_push]; assumption) (fun h' o' h1 h2 h3 h4 => wk_pure (in1_1 _ rfl (h h' o' h1 ⟨h2.1.trans hc.1,h2.2.trans hc.2⟩ h3 h4))))
theorem ba_init_eq (a:Addr):∃ (X0 X:Sem PySem.Fin) (K:List (Option Value)→Sem PySem.Fin) (Y:Unit→Sem PySem.Fin),Builtin.«bytearray.__init__» ⟨[.ref a],[]⟩ = (Builtin.Bytes.ownRelease (.ref a) >>= fun b => if b = true then X0 else (Builtin.Bytes.bindOptional "bytearray.__init__" "bytearray" ["source","encoding","errors"] [] [] >>= K)) ∧
  K [none,none,none] = (Builtin.Bytes.checkCodecArg "bytearray.__init__" "bytearray" "encoding" none >>= fun U => Builtin.Bytes.checkCodecArg "bytearray.__init__" "bytearray" "errors" none >>= fun U => (Builtin.Bytes.exported (.ref a) <||> (do return (← Builtin.Bytes.exportsOf (.ref a)) > 0)) >>= fun b => if b = true then X else (Builtin.Bytes.write (.ref a) (fun U => #[]) >>= Y)) ∧
  Y () = pure (.done (.ret .none)) := (in4_2 _ _ _ _ rfl rfl rfl)
theorem ba_init {a:Addr} {o:Obj} {Q:Value→Shared→Prop} (ho:s.heap.get? a = some o) (hc:LB o) (hd:o.data = .bytearray #[] 0)
  (h:∀ h' o',h'.get? a = some o'→LB o'→o'.data = .bytearray #[] 0→Heap.SameBut a s.heap h'→Q .none { s with heap := h' }) :
  wk (model prog w) A (call (.builtin "bytearray.__init__") [.ref a]) Q E s := by
 have hT := ba_typeIs ho hc.1
 refine wk_builtin ba_slot_init hT ba_entry_init (ba_initArgs _) (by decide +kernel) ?_
 refine ex4_2 (ba_init_eq a) fun X0 X K Y e1 e2 e3 => ?_
 rw [e1]
 refine wk_bindq fun q1 k1 => ?_
 unfold Builtin.Bytes.ownRelease Builtin.Bytes.slotIsOwn
 refine wk_bind (wk_bind (up (wpAny_specialOf hT ba_rel ?_)))
 dsimp only
 rw [if_neg (by decide +kernel)]
 rw [show ("bytearray.__release_buffer__".dropRight ("__release_buffer__".length + 1)) = "bytearray" by decide +kernel]
 refine up (wpAny_isInstance hT ba_sub ?_)
 refine wk_pure (k1 _ _ ?_)
 rw [if_neg (by decide)]
 refine wk_bind (wk_of_eq ba_bind0 ?_)
 rw [e2]
 refine wk_bind (wk_of_eq (a := ()) rfl ?_)
 refine wk_bind (wk_of_eq (a := ()) rfl ?_)
 refine wk_bind (wk_lent ho hd ?_)
 rw [if_neg (by decide)]
 refine wk_bind ?_
 show wk _ _ (updateBytearray a (fun U => #[])) _ _ _
 refine up (ba_update (f := fun U => #[]) ho hd rfl (Nat.zero_le _) (fun h' o' h1 h2 h3 h4 => ?_))
 rw [e3]
 exact wk_pure (in1_1 _ rfl (h h' o' h1 ⟨h2.1.trans hc.1,h2.2.trans hc.2⟩ h3 h4))
end
section
variable {prog:Program} {w:World} {A:Around} {E:Value→Shared→Prop} {s:Shared}
theorem ba_new {A':Around} {R:Result→Shared→Prop} (h:R (.ok (.ret (.ref s.heap.objs.size))) { s with heap := s.heap.push (baObj #[]) }) :
  codeAny (model prog w) A' (.call (.builtin "bytearray.__new__") ⟨[.type "bytearray"],[]⟩) R s := by
 refine codeAny_of_tree ?_
 show wpAny _ A'.in1 (do checkBuiltinCall "bytearray.__new__" ⟨[.type "bytearray"],[]⟩; again (.builtin "bytearray.__new__" ⟨[.type "bytearray"],[]⟩)) _ _ s
 refine wpAny_bind (wpAny_of_eq ba_newCall (wpAny_pure ⟨plainId_quiet ba_plain_new _,codeAny_builtin_stack ba_entry_new rfl fun p st => ?_⟩))
 rw [Around.under_plainId ba_plain_new _]
 have hsub := ba_sub
 have hown := ba_owner
 obtain ⟨hp,g,d,tk,os⟩ := s
 simp only [hown]
 wp_walk
 exact h
theorem wk_bytearray {Q:Value→Shared→Prop} (h:∀ h' o',h'.get? s.heap.objs.size = some o'→LB o'→o'.data = .bytearray #[] 0→(∀ b o,s.heap.get? b = some o→h'.get? b = some o)→Q (.ref s.heap.objs.size) { s with heap := h' }) :
  wk (model prog w) A (call (.type "bytearray") []) Q E s := by
 refine wk_call (kc_of_tree ?_)
 show wk _ _ (callAny (.type "bytearray") _) _ _ _
 refine wk_pure ⟨⟨Code.quiet_builtin _ (by decide +kernel),cln_id (by decide +kernel)⟩,kc_builtin F.entry_type_call ?_⟩
 rw [Around.under_plain (weight_type_call_type "bytearray" [] []) rfl]
 unfold Builtin.«type.__call__»
 dsimp only
 rw [if_neg (by decide)]
 rw [show ((Manifest.find? "bytearray").bind (·.mro.findSome? fun t => (Manifest.find? t).bind fun b => if b.noNew then some true else if b.attrs.any (·.1 == "__new__") then some false else none)).getD false = false from ba_called.canCreate]
 rw [if_neg (by decide)]
 refine wk_bind (wk_of_eq ba_typeCall ?_)
 refine wk_bind (wk_of_eq ba_mro ?_)
 rw [if_neg (by decide)]
 refine wk_bind (wk_of_eq ba_called.made ?_)
 refine wk_bind (wk_pure ?_)
 refine wk_bind (wk_holding (up (wpAny_call (ba_new ?_))))
 have ho := Heap.get?_push_size s.heap (o := baObj #[]) rfl
 have hT:({ s with heap := s.heap.push (baObj #[]) }:Shared).TypeIs (.ref s.heap.objs.size) "bytearray" := (in1_1 _ ho rfl)
 refine wk_bind (up (wpAny_isInstance hT ba_sub ?_))
 rw [if_neg (by decide)]
 refine wk_bind (wk_holding ?_)
 unfold callSpecial?
 refine wk_bind (up (wpAny_specialOf hT ba_slot_init.lookup ?_))
 dsimp only
 refine wk_holding ?_
 rw [ba_slot_init.bind]
 refine wk_bind (wk_pure (wk_bind ?_))
 refine ba_init (s := { s with heap := s.heap.push (baObj #[]) }) ho ⟨rfl,rfl⟩ rfl (fun h' o' h1 h2 h3 h4 => ?_)
 refine wk_pure ?_
 dsimp only
 rw [if_neg (by decide)]
 exact wk_pure (h h' o' h1 h2 h3 fun b o e => h4.extBut b o (Nat.ne_of_lt (Heap.lt_size e)) (Heap.get?_push_of_some _ e))
theorem ba_slot_len:Slot "bytearray" "__len__" "bytearray.__len__" :=
 .of (owner := "bytearray") (n := "__len__") (by rw [typeLookup_type,builtinLookup_eq_fast]; kernel_rfl) (by decide +kernel) (by decide +kernel) (by decide +kernel)
  (by first | exact .inl (by decide +kernel) | exact .inr (by decide +kernel)) (by rw [isSubtype_type]; kernel_rfl)
theorem ba_entry_len:entryFor table "bytearray.__len__" = some Builtin.«bytearray.__len__» := by first | exact entryFor_of_tree (by kernel_rfl) | exact entryFor_of_fast (by kernel_rfl)
theorem ba_args_len (a:Value):argsOk "bytearray.__len__" ⟨[a],[]⟩ := by unfold argsOk; kernel_rfl
theorem ba_payload {a:Addr} {o:Obj} {b:Array UInt8} {n:Nat} {Q:Array UInt8→Shared→Prop} (ho:s.heap.get? a = some o) (hd:o.data = .bytearray b n) (h:Q b s):wpAny (model prog w) A (Builtin.Bytes.payload (.ref a)) Q E s := by
 unfold Builtin.Bytes.payload Builtin.Bytes.payload?
 refine wpAny_bind (wpAny_bind (wpAny_load ho ?_))
 rw [hd]
 exact wpAny_pure (wpAny_pure h)
theorem len_ba {a:Addr} {o:Obj} {b:Array UInt8} {n:Nat} {Q:Value→Shared→Prop} (ho:s.heap.get? a = some o) (hc:o.cls = .type "bytearray") (hd:o.data = .bytearray b n) (hz:b.size ≤ sizeLine)
  (h:∀ t tk,Q (.int b.size t) { s with toks := tk }):wpAny (model prog w) A (call (.builtin "len") [.ref a]) Q E s := by
 refine Calls.call_function_entry kind_len plain_len entry_len (args_len1 _) ?_
 unfold Builtin.«len»
 refine wpAny_bind (m := oneArg "len" _) (wpAny_pure ?_)
 refine wpAny_bind (m := callSpecial? (.ref a) (Str.ofString "__len__")) (wpAny_callSpecial?_slot (name := Str.ofString "__len__") (ba_typeIs ho hc) ba_slot_len
  (wpAny_call_entry ba_slot_len (ba_typeIs ho hc) ba_entry_len ?_ (ba_args_len _)))
 unfold Builtin.«bytearray.__len__»
 refine wpAny_bind (wpAny_of_eq (a := (.ref a,[])) (by kernel_rfl) ?_)
 refine wpAny_bind (ba_payload ho hd ?_)
 refine wpAny_bind (wpAny_mkInt (wpAny_pure (in1_1 _ rfl ?_)))
 have e := sizeLine_eq
 refine wpAny_bind (wpAny_holding (wpAny_pure ?_))
 refine wpAny_bind (wpAny_letGo ?_)
 show wpAny _ _ (if ((b.size:Nat):Int) < 0 then _ else _) _ _ _
 rw [if_neg (by lia)]
 show wpAny _ _ (if ((b.size:Nat):Int) ≥ 2 ^ 63 then _ else _) _ _ _
 rw [if_neg (by lia)]
 exact wpAny_bind (wpAny_mkInt (wpAny_pure (in1_1 _ rfl (h _ _))))
theorem bm_newCall1 (a:Value):checkBuiltinCall "bytes.__new__" ⟨[.type "bytes",a],[]⟩ = pure () := F.bm_newCall a
theorem bb_bytes:typeLookup (.type "bytes") "__bytes__" = pure (some (.builtin "bytes.__bytes__")) := by rw [typeLookup_type,builtinLookup_eq_fast]; kernel_rfl
theorem bb_nobytes:typeLookup (.type "bytearray") "__bytes__" = pure none := by rw [typeLookup_type,builtinLookup_eq_fast]; kernel_rfl
theorem bb_noindex:typeLookup (.type "bytearray") "__index__" = pure none := by rw [typeLookup_type,builtinLookup_eq_fast]; kernel_rfl
theorem bb_buffer:typeLookup (.type "bytearray") "__buffer__" = pure (some (.builtin "bytearray.__buffer__")) := by rw [typeLookup_type,builtinLookup_eq_fast]; kernel_rfl
theorem bb_initArgs (a b:Value):argsOk "object.__init__" ⟨[a,b],[]⟩ := F.args_object_init_2 a b
theorem bytes_bytes {b:Array UInt8} {t:Tok} {Q:Value→Shared→Prop} (h:Q (.bytes b t) s):wpAny (model prog w) A (call (.type "bytes") [.bytes b t]) Q E s := by
 refine callType_codes (Q₁ := fun obj s₁ => obj = .bytes b t∧s₁ = s) F.bm_called (F.bm_typeCall _) F.entry_object_init ?_ fun obj s₁ h₁ => ?_
 ·refine codeAny_of_tree ?_
  show wpAny _ A.in1.in1 (do checkBuiltinCall "bytes.__new__" ⟨[.type "bytes",.bytes b t],[]⟩; again (.builtin "bytes.__new__" ⟨[.type "bytes",.bytes b t],[]⟩)) _ _ s
  refine wpAny_bind (wpAny_of_eq (F.bm_newCall _) (wpAny_pure ⟨plainId_quiet F.bm_plain _,codeAny_builtin F.bm_entry ?_⟩))
  rw [Around.under_plainId F.bm_plain _]
  have hT:s.TypeIs (.bytes b t) "bytes" := rfl
  unfold Builtin.«bytes.__new__»
  refine wpAny_bind (wpAny_of_eq (a := true) rfl ?_)
  refine bm_if_false rfl ?_
  refine wpAny_bind (wpAny_of_eq F.bm_sub ?_)
  refine bm_if_false rfl ?_
  refine wpAny_bind (wpAny_of_eq (F.bm_bind _) ?_)
  refine wpAny_bind (wpAny_of_eq (a := ()) rfl ?_)
  refine wpAny_bind (wpAny_of_eq (a := ()) rfl ?_)
  refine bm_if_false rfl ?_
  refine wpAny_bind (wpAny_specialOf hT bb_bytes ?_)
  dsimp only
  refine wpAny_bind (wpAny_rule (wpAny_bind (wpAny_typeOf hT ?_)))
  refine bm_if_true (by decide) ?_
  show wpAny _ _ (if (Value.type "bytes" == Value.type "bytes") = true then _ else _) _ _ _
  refine bm_if_true (by decide) ?_
  first
   | exact wpAny_pure ⟨rfl,rfl⟩
   | exact wpAny_bind (wpAny_pure (wpAny_pure ⟨rfl,rfl⟩))
 ·obtain ⟨rfl,rfl⟩ := h₁
  refine ⟨rfl,F.args_object_init_2 _ _,?_⟩
  have hm := object_init_meets (rest := [Value.bytes b t]) (self := Value.bytes b t) F.bm_called.init.lookup F.bm_called.made (by decide)
  refine wpAny_mono (hm _ _ _ (fun r s' => wants (fun r s₂ => r = .none∧Q (.bytes b t) s₂) E r s') _ ⟨rfl,⟨rfl,h⟩⟩) (fun fin s' hf => ?_) fun U U e => e
  cases fin with
  | done f => exact hf
  | again c => exact hf
theorem bytes_ba {a:Addr} {o:Obj} {b:Array UInt8} {Q:Value→Shared→Prop} (ho:s.heap.get? a = some o) (hc:o.cls = .type "bytearray") (hd:o.data = .bytearray b 0) (hz:b.size ≤ sizeLine)
  (h:∀ t tk,Q (.bytes b t) { s with toks := tk }):wpAny (model prog w) A (call (.type "bytes") [.ref a]) Q E s := by
 refine callType_codes (Q₁ := fun obj s₁ => ∃ t tk,obj = .bytes b t∧s₁ = { s with toks := tk }) F.bm_called (F.bm_typeCall _) F.entry_object_init ?_ fun obj s₁ h₁ => ?_
 ·refine codeAny_of_tree ?_
  show wpAny _ A.in1.in1 (do checkBuiltinCall "bytes.__new__" ⟨[.type "bytes",.ref a],[]⟩; again (.builtin "bytes.__new__" ⟨[.type "bytes",.ref a],[]⟩)) _ _ s
  refine wpAny_bind (wpAny_of_eq (F.bm_newCall _) (wpAny_pure ⟨plainId_quiet F.bm_plain _,codeAny_builtin F.bm_entry ?_⟩))
  rw [Around.under_plainId F.bm_plain _]
  have hT:s.TypeIs (.ref a) "bytearray" := ba_typeIs ho hc
  unfold Builtin.«bytes.__new__»
  refine wpAny_bind (wpAny_of_eq (a := true) rfl ?_)
  refine bm_if_false rfl ?_
  refine wpAny_bind (wpAny_of_eq F.bm_sub ?_)
  refine bm_if_false rfl ?_
  refine wpAny_bind (wpAny_of_eq (F.bm_bind _) ?_)
  refine wpAny_bind (wpAny_of_eq (a := ()) rfl ?_)
  refine wpAny_bind (wpAny_of_eq (a := ()) rfl ?_)
  refine bm_if_false rfl ?_
  refine wpAny_bind (wpAny_specialOf hT bb_nobytes ?_)
  dsimp only
  refine wpAny_bind (wpAny_bind ?_)
  show wpAny _ _ (load a >>= _) _ _ _
  refine wpAny_bind (wpAny_load ho ?_)
  rw [hd]
  refine wpAny_pure (wpAny_pure ?_)
  refine bm_if_false rfl ?_
  refine wpAny_bind (wpAny_specialOf hT bb_noindex ?_)
  refine bm_if_true rfl ?_
  refine wpAny_bind ?_
  unfold Builtin.Bytes.buffer?
  refine wpAny_bind (wpAny_specialOf hT bb_buffer ?_)
  dsimp only
  have own:∀ {Q':Bool→Shared→Prop} {E':Value→Shared→Prop},Q' true s→wpAny (model prog w) A.in1.in1 (Builtin.Bytes.slotIsOwn (.ref a) "__buffer__") Q' E' s := fun q => by
   unfold Builtin.Bytes.slotIsOwn
   refine wpAny_bind (wpAny_specialOf hT bb_buffer ?_)
   dsimp only
   rw [if_neg (by decide +kernel)]
   rw [show ("bytearray.__buffer__".dropRight ("__buffer__".length + 1)) = "bytearray" by decide +kernel]
   exact wpAny_isInstance hT ba_sub q
  refine wpAny_bind (own ?_)
  refine bm_if_false rfl ?_
  refine wpAny_bind (wpAny_specialOf hT bb_buffer ?_)
  refine wpAny_bind ?_
  unfold Builtin.Bytes.ownRelease Builtin.Bytes.slotIsOwn
  refine wpAny_bind (wpAny_bind (wpAny_specialOf hT ba_rel ?_))
  dsimp only
  rw [if_neg (by decide +kernel)]
  rw [show ("bytearray.__release_buffer__".dropRight ("__release_buffer__".length + 1)) = "bytearray" by decide +kernel]
  refine wpAny_isInstance hT ba_sub ?_
  refine wpAny_pure ?_
  refine bm_if_false rfl ?_
  refine wpAny_bind (ba_payload ho hd (wpAny_pure ?_))
  dsimp only
  refine wpAny_bind (wpAny_rule (wpAny_bind (wpAny_mkBytes ?_ hz)))
  show wpAny _ _ (if (Value.type "bytes" == Value.type "bytes") = true then _ else _) _ _ _
  refine bm_if_true (by decide) ?_
  first
   | exact wpAny_pure (in2_1 _ _ rfl rfl)
   | exact wpAny_bind (wpAny_pure (wpAny_pure ⟨_,_,rfl,rfl⟩))
 ·refine ex2_1 h₁ fun t tk xq1 xq2 => ?_; clear h₁
  obtain rfl := xq1
  obtain rfl := xq2
  refine ⟨rfl,F.args_object_init_2 _ _,?_⟩
  have hm := object_init_meets (rest := [Value.ref a]) (self := Value.bytes b t) F.bm_called.init.lookup F.bm_called.made (by decide)
  refine wpAny_mono (hm _ _ _ (fun r s' => wants (fun r s₂ => r = .none∧Q (.bytes b t) s₂) E r s') _ ⟨rfl,⟨rfl,h _ _⟩⟩) (fun fin s' hf => ?_) fun U U e => e
  cases fin with
  | done f => exact hf
  | again c => exact hf
end
noncomputable def Good {α:Type} (n:Nat) (lt:Nat→Nat→Bool) (Q:α→Prop):KasT α→Prop
 | .ret a => Q a
 | .ask i j k => i < n∧j < n∧Good n lt Q (k (lt i j))
theorem Good.bind {α β:Type} {n:Nat} {lt:Nat→Nat→Bool} {f:α→KasT β} {Q:β→Prop}:∀ {t:KasT α},Good n lt (fun a => Good n lt Q (f a)) t→Good n lt Q (t.bind f)
 | .ret a,h => h
 | .ask i j k,⟨a,b,h⟩ => ⟨a,b,Good.bind (t := k (lt i j)) h⟩
theorem Good.mono {α:Type} {n:Nat} {lt:Nat→Nat→Bool} {Q Q':α→Prop} (hq:∀ a,Q a→Q' a):∀ {t:KasT α},Good n lt Q t→Good n lt Q' t
 | .ret a,h => hq a h
 | .ask i j k,⟨a,b,h⟩ => ⟨a,b,Good.mono hq (t := k (lt i j)) h⟩
theorem Good.wp {α:Type} {n:Nat} {lt:Nat→Nat→Bool} {Q:α→Prop} {R:α→Shared→Prop} {s:Shared} {cmp:Nat→Nat→(Bool→Shared→Prop)→Shared→Prop}
  (hc:∀ i j C,i < n→j < n→C (lt i j) s→cmp i j C s) (hq:∀ a,Q a→R a s):∀ {t:KasT α},Good n lt Q t→t.kasWp cmp R s
 | .ret a,h => hq a h
 | .ask i j k,⟨a,b,h⟩ => hc i j _ a b (Good.wp hc hq (t := k (lt i j)) h)
section
variable {n:Nat} {lt:Nat→Nat→Bool}
noncomputable abbrev g (p:Array Nat) (i:Nat):Nat := p.getD i 0
theorem g_eq {p q:Array Nat} {i j:Nat} (h:p[i]? = q[j]?):g p i = g q j := by
 simp only [g,Array.getD_eq_getD_getElem?,h]
noncomputable def Srt (lt:Nat→Nat→Bool) (p:Array Nat) (k:Nat):Prop := ∀ i j,i < j→j < k→lt (g p i) (g p j) = true
noncomputable def Dsc (lt:Nat→Nat→Bool) (p:Array Nat) (k:Nat):Prop := ∀ i j,i < j→j < k→lt (g p j) (g p i) = true
structure IsP (n:Nat) (p:Array Nat):Prop where
 perm:p.toList.Perm (List.range n)
theorem IsP.size {p:Array Nat} (h:IsP n p):p.size = n := by have := h.perm.length_eq; simpa using this
theorem IsP.bd {p:Array Nat} (h:IsP n p) {i:Nat} (hi:i < n):g p i < n := by
 have hs := h.size
 have:g p i = p[i]'(by exact Nat.lt_of_lt_of_eq hi (id (Eq.symm hs))) := by simp [g,Array.getD,show i < p.size by lia]
 rw [this]
 exact List.mem_range.mp (h.perm.mem_iff.mp (by simp))
theorem IsP.ne {p:Array Nat} (h:IsP n p) {i j:Nat} (hi:i < n) (hj:j < n) (hij:i ≠ j):g p i ≠ g p j := by
 have hs := h.size
 have e1:g p i = p.toList[i]'(by simp; lia) := by simp [g,Array.getD,show i < p.size by lia]
 have e2:g p j = p.toList[j]'(by simp; lia) := by simp [g,Array.getD,show j < p.size by lia]
 rw [e1,e2]
 have nd:p.toList.Nodup := h.perm.nodup_iff.mpr List.nodup_range
 intro e
 exact hij ((List.getElem_inj nd).mp e)
theorem IsP.of_perm {p q:Array Nat} (h:IsP n p) (hq:q.Perm p):IsP n q := ⟨(Array.perm_iff_toList_perm.mp hq).trans h.perm⟩
structure LtOk (n:Nat) (lt:Nat→Nat→Bool):Prop where
 asym:∀ i j,i < n→j < n→lt i j = true→lt j i = false
 trans:∀ i j k,i < n→j < n→k < n→lt i j = true→lt j k = true→lt i k = true
 total:∀ i j,i < n→j < n→i ≠ j→lt i j = false→lt j i = true
theorem srt_ext {p:Array Nat} (o:LtOk n lt) (h:IsP n p) {k:Nat} (hk:k < n) (hs:Srt lt p k) (hl:k = 0 ∨ lt (g p (k - 1)) (g p k) = true):Srt lt p (k + 1) := by
 intro i j hij hj
 by_cases q:j < k
 ·exact hs i j hij q
 ·have:j = k := by exact Nat.eq_of_lt_succ_of_not_lt hj q
  subst this
  rcases hl with rfl | hl
  ·exact (Nat.not_lt_zero _ ‹_›).elim
  ·by_cases q2:i = j - 1
   ·rw [q2]; exact hl
   ·exact o.trans _ _ _ (h.bd (by exact Nat.lt_trans hij hk)) (h.bd (by exact Nat.sub_lt_of_lt hk)) (h.bd hk) (hs i (j - 1) (by lia) (by exact Nat.sub_one_lt_of_lt hij)) hl
theorem dsc_ext {p:Array Nat} (o:LtOk n lt) (h:IsP n p) {k:Nat} (hk:k < n) (hs:Dsc lt p k) (hl:k = 0 ∨ lt (g p k) (g p (k - 1)) = true):Dsc lt p (k + 1) := by
 intro i j hij hj
 by_cases q:j < k
 ·exact hs i j hij q
 ·have:j = k := by lia
  subst this
  rcases hl with rfl | hl
  ·exact (Nat.not_lt_zero _ ‹_›).elim
  ·by_cases q2:i = j - 1
   ·rw [q2]; exact hl
   ·exact o.trans _ _ _ (h.bd hk) (h.bd (by exact Nat.sub_lt_of_lt hk)) (h.bd (by exact Nat.lt_trans hij hk)) hl (hs i (j - 1) (by lia) (by exact Nat.sub_one_lt_of_lt hij))
theorem good_asc {p:Array Nat} (o:LtOk n lt) (h:IsP n p):∀ (f k:Nat),1 ≤ k→k + f ≤ n→Srt lt p k→Good n lt (fun m => k ≤ m∧m ≤ k + f∧Srt lt p m∧(m = k + f ∨ lt (g p m) (g p (m - 1)) = true)) (kas_asc p f k)
 | 0,k,_,_,hs => ⟨Nat.le_refl _,Nat.le_refl _,hs,.inl rfl⟩
 | f + 1,k,h1,hk,hs => by
  refine ⟨h.bd (by exact Nat.lt_of_add_right_lt hk),h.bd (by lia),?_⟩
  cases hc:lt (g p k) (g p (k - 1)) with
  | true => exact ⟨Nat.le_refl _,by exact Nat.le_add_right _ _,hs,.inr hc⟩
  | false =>
   refine Good.mono (fun m h9 => ex0_3 h9 fun a b c d => ⟨by exact Nat.le_of_lt ‹_›,by omega,c,by rcases d with d | d; exact .inl (by lia); exact .inr d⟩) (good_asc o h f (k + 1) (by exact Nat.succ_pos _) (by lia) (srt_ext o h (by lia) hs (.inr ?_)))
   exact o.total _ _ (h.bd (by lia)) (h.bd (by lia)) (h.ne (by lia) (by lia) (by lia)) hc
theorem good_desc {p:Array Nat} (o:LtOk n lt) (h:IsP n p):∀ (f k:Nat),1 ≤ k→k + f ≤ n→Dsc lt p k→Good n lt (fun r => r.1 = p∧k ≤ r.2.1∧r.2.1 ≤ k + f∧r.2.2 = 0∧Dsc lt p r.2.1) (kas_desc f p k 0)
 | 0,k,_,_,hs => ⟨rfl,Nat.le_refl _,Nat.le_refl _,rfl,hs⟩
 | f + 1,k,h1,hk,hs => by
  refine ⟨h.bd (by lia),h.bd (by lia),?_⟩
  cases hc:lt (g p k) (g p (k - 1)) with
  | true =>
   simp only [if_true,if_neg (Nat.lt_irrefl 0),gt_iff_lt]
   exact Good.mono (fun r h9 => ex0_4 h9 fun a b c d e => ⟨a,by exact Nat.le_of_lt ‹_›,by lia,d,e⟩) (good_desc o h f (k + 1) (by exact Nat.succ_pos _) (by lia) (dsc_ext o h (by lia) hs (.inr hc)))
  | false =>
   simp only [Bool.false_eq_true,if_false]
   refine ⟨h.bd (by lia),h.bd (by lia),?_⟩
   have := o.total _ _ (h.bd (by lia)) (h.bd (by lia)) (h.ne (by lia) (by lia) (by lia)) hc
   rw [this]
   exact ⟨rfl,Nat.le_refl _,by show k ≤ k + (f + 1); exact Nat.le_add_right _ _,rfl,hs⟩
set_option tactic.hygienic true in
theorem rev_g {p:Array Nat} {j:Nat} (hj:j ≤ p.size) (k:Nat):g (kas_rev p 0 j) k = if k < j then g p (j - 1 - k) else g p k := by
 have e := getElem?_mirror_all (xs := p) (i := 0) hj k
 unfold kas_rev
 split
 ·rename_i q; rw [if_pos ⟨Nat.zero_le _,q⟩] at e; exact (g_eq e).trans (by congr 1; lia)
 ·rename_i q; rw [if_neg (fun a => q a.2)] at e; exact g_eq e
theorem good_tail3 {p:Array Nat} (o:LtOk n lt) (h:IsP n p) {k:Nat} (h1:1 ≤ k) (hk:k ≤ n) (hs:Dsc lt p k) :
  Good n lt (fun r => IsP n r.2∧1 ≤ r.1∧r.1 ≤ n∧Srt lt r.2 r.1) (kas_tail3 k n p) := by
 unfold kas_tail3
 have h':IsP n (kas_rev p 0 k) := h.of_perm (mirror_perm ..)
 refine Good.bind (Good.mono (fun m h9 => ex0_3 h9 fun a b c d => ⟨h',by show 1 ≤ m; exact Nat.le_trans h1 a,by show m ≤ n; omega,c⟩) (good_asc o h' (n - k) k h1 (by lia) (fun i j hij hj => ?_)))
 have hz := h.size
 rw [rev_g (by exact le_of_le_of_eq hk (id (Eq.symm hz))),rev_g (by lia),if_pos (by exact Nat.lt_trans hij hj),if_pos hj]
 exact hs _ _ (by omega) (by omega)
theorem good_count {p:Array Nat} (o:LtOk n lt) (h:IsP n p) (h2:2 ≤ n):Good n lt (fun r => IsP n r.2∧1 ≤ r.1∧r.1 ≤ n∧Srt lt r.2 r.1) (kas_count n p) := by
 unfold kas_count
 refine Good.bind (Good.mono (fun m h9 => ex0_3 h9 fun a b c d => ?_) (good_asc o h (n - 1) 1 (Nat.le_refl 1) (by lia) (fun i j hij hj => by omega)))
 by_cases e1:(m == n) = true
 ·rw [if_pos e1]; exact ⟨h,a,by show m ≤ n; lia,c⟩
 ·rw [if_neg e1]
  have hne:m ≠ n := fun q => e1 (by rw [q]; simp)
  by_cases e2:m > 1
  ·rw [if_pos e2]
   refine ⟨h.bd (by exact Nat.zero_lt_of_lt h2),h.bd (by omega),?_⟩
   rw [c 0 (m - 1) (by exact Nat.zero_lt_sub_of_lt e2) (by exact Nat.sub_one_lt_of_lt a)]
   exact ⟨h,a,by show m ≤ n; lia,c⟩
  ·rw [if_neg e2]
   have hm:m = 1 := by omega
   subst hm
   unfold kas_descPart
   have hd:Dsc lt p 2 := dsc_ext o h (k := 1) (by assumption) (fun i j hij hj => by omega) (.inr (by rcases d with d | d; omega; exact d))
   refine Good.bind (Good.mono (fun r h9 => ex0_4 h9 fun r1 r2 r3 r4 r5 => ?_) (good_desc o h (n - (1 + 1)) (1 + 1) (by exact Nat.succ_pos _) (by omega) hd))
   rw [if_neg (by exact Std.Rxo.size_eq_zero_iff_not_le.mp r4),r1]
   exact good_tail3 o h (by exact Nat.le_of_lt ‹_›) (by omega) r5
theorem good_place {p:Array Nat} (o:LtOk n lt) (h:IsP n p) {k:Nat} (hk:k < n) (hs:Srt lt p k):∀ (f l r:Nat),l ≤ r→r ≤ k→r - l ≤ f→(∀ i,i < l→lt (g p i) (g p k) = true)→(∀ i,r ≤ i→i < k→lt (g p k) (g p i) = true) →
  Good n lt (fun l => l ≤ k∧(∀ i,i < l→lt (g p i) (g p k) = true)∧(∀ i,l ≤ i→i < k→lt (g p k) (g p i) = true)) (kas_place p k f l r)
 | 0,l,r,h1,h2,h3,ha,hb => ⟨by exact Nat.le_trans h1 h2,ha,fun i hi => hb i (by lia)⟩
 | f + 1,l,r,h1,h2,h3,ha,hb => by
  unfold kas_place
  by_cases e:l ≥ r
  ·rw [if_pos e]; exact ⟨by exact Nat.le_trans h1 h2,ha,fun i hi => hb i (by exact Nat.le_trans e hi)⟩
  ·rw [if_neg e]
   have e := Nat.lt_of_not_le e
   have m3 := Nat.lt_of_lt_of_le (mid_lt e) h2
   have mk := Nat.lt_trans m3 hk
   refine ⟨h.bd hk,h.bd mk,?_⟩
   cases hc:lt (g p k) (g p ((l + r) / 2)) with
   | true =>
    simp only [if_true]
    refine good_place o h hk hs f l ((l + r) / 2) (mid_ge e) (Nat.le_of_lt m3) (mid_lo h3 e) ha (fun i hi hik => ?_)
    by_cases q:i = (l + r) / 2
    ·rw [q]; exact hc
    ·exact o.trans _ _ _ (h.bd hk) (h.bd mk) (h.bd (by exact Nat.lt_trans hik hk)) hc (hs _ _ (by exact Nat.lt_of_le_of_ne hi fun a => q (id (Eq.symm a))) (by assumption))
   | false =>
    simp only [Bool.false_eq_true,if_false]
    have hc' := o.total _ _ (h.bd hk) (h.bd mk) (h.ne hk mk (Nat.ne_of_gt m3)) hc
    refine good_place o h hk hs f ((l + r) / 2 + 1) r (mid_lt e) (by assumption) (mid_hi h3 e) (fun i hi => ?_) hb
    by_cases q:i = (l + r) / 2
    ·rw [q]; exact hc'
    ·have qi := Nat.lt_of_le_of_ne (Nat.le_of_lt_succ hi) q
     exact o.trans _ _ _ (h.bd (Nat.lt_trans qi mk)) (h.bd mk) (h.bd hk) (hs _ _ qi m3) hc'
theorem bub_g {p:Array Nat} {k l:Nat} (hk:k < p.size) (hl:l ≤ k) (i:Nat):g (bubble p k (k - l)) i = if i = l then g p k else if l < i∧i ≤ k then g p (i - 1) else g p i := by
 have e := getElem?_bubble hk (k - l) (by exact Nat.sub_le _ _) i
 rw [show k - (k - l) = l by exact Nat.sub_sub_self hl] at e
 by_cases q:i = l
 ·rw [if_pos q] at e ⊢; exact g_eq e
 ·rw [if_neg q] at e ⊢
  by_cases q2:l < i∧i ≤ k
  ·rw [if_pos q2] at e ⊢; exact g_eq e
  ·rw [if_neg q2] at e ⊢; exact g_eq e
theorem good_bin (o:LtOk n lt):∀ (f k:Nat) (p:Array Nat),IsP n p→k + f = n→Srt lt p k→Good n lt (fun p => IsP n p∧Srt lt p n) (kas_bin f p k)
 | 0,k,p,h,hk,hs => by
  have:k = n := by assumption
  subst this; exact ⟨h,hs⟩
 | f + 1,k,p,h,hk,hs => by
  refine Good.bind (Good.mono (fun l h9 => ex0_2 h9 fun hl ha hb => ?_) (good_place o h (by lia) hs k 0 k (Nat.zero_le _) (Nat.le_refl _) (by exact Nat.sub_le _ _) (fun i hi => by exact (Nat.not_lt_zero _ ‹_›).elim) (fun i hi hik => by lia)))
  have hz := h.size
  refine good_bin o f (k + 1) _ (h.of_perm (bubble_perm ..)) (by lia) (fun i j hij hj => ?_)
  rw [bub_g (by lia) hl,bub_g (by lia) hl]
  repeat' split
  all_goals first
   | (exfalso; lia)
   | exact ha _ (by lia)
   | exact hb _ (by lia) (by lia)
   | exact hs _ _ (by lia) (by lia)
theorem good_sort (o:LtOk n lt) (h2:2 ≤ n):Good n lt (fun p => IsP n p∧Srt lt p n) (kas_sort n) := by
 unfold kas_sort
 refine Good.bind (Good.mono (fun r h9 => ex0_3 h9 fun h h1 hn hs => ?_) (good_count o (p := List.toArray (List.range n)) ⟨by simp⟩ h2))
 by_cases e:r.1 < n
 ·rw [if_pos e]
  rw [show max r.1 1 = r.1 by exact Nat.max_eq_left h1]
  exact good_bin o _ _ _ h (by lia) hs
 ·rw [if_neg e]
  have:r.1 = n := by lia
  rw [this] at hs
  exact ⟨h,hs⟩
end
section
variable {prog:Program} {w:World} {A:Around} {E:Value→Shared→Prop} {s:Shared}
theorem sort_short {a:Addr} {vs:List Value} {n:Nat} {P:PySem.Fin→Shared→Prop} (ho:s.heap.get? a = some (seqObj "list" vs.toArray n)) (h2:vs.length < 2)
  (h:P (.done (.ret .none)) { s with heap := sortedHeap s.heap a vs vs.toArray }):wpAny (model prog w) A (Builtin.«list.sort» ⟨[.ref a],[]⟩) P E s := by
 have ha:a < s.heap.objs.size := Heap.lt_size ho
 have hfit:vs.length ≤ sizeLine := by rw [sizeLine_eq]; lia
 have hsz:vs.toArray.size < 2 := by simpa using h2
 obtain ⟨e1,ho1⟩:∃ e1,(s.heap.update a (Obj.mapSeq fun U => #[])).get? a = some (seqObj "list" #[] e1) := (in1_0 _ (get?_update_seq ho (fun U => #[])))
 have ho6:(((s.heap.update a (Obj.mapSeq fun U => #[])).push (seqObj "tuple" vs.toArray 0)).push (seqObj "list" #[] 0)).get? a = some (seqObj "list" #[] e1) :=
  Heap.get?_push_of_some _ (Heap.get?_push_of_some _ ho1)
 rw [list_sort_plain]
 refine wpAny_bind (listItems_at ho rfl ?_)
 refine wpAny_bind (listUpdate_at ho rfl ?_ (by rw [List.size_toArray]; exact hfit) (Nat.zero_le _))
 refine wpAny_bind (seqEpoch_at ho1 rfl ?_)
 refine wpAny_bind (wpAny_newTuple ?_ (by exact hfit))
 refine wpAny_bind (wpAny_newList ?_ (Nat.zero_le _))
 refine wpAny_holding ?_
 show wpAny (model prog w) A _ P E { s with heap := ((s.heap.update a (Obj.mapSeq fun U => #[])).push (seqObj "tuple" vs.toArray 0)).push (seqObj "list" #[] 0) }
 dsimp only
 rw [if_pos hsz,if_pos hsz]
 refine wpAny_bind (wpAny_pure ?_)
 rw [StateT.run_pure]
 refine wpAny_bind (wpAny_pure ?_)
 dsimp only
 refine wpAny_bind (seqEpoch_at ho6 rfl ?_)
 have e:(arrOf (SortSt.mk' general' (vs.toArray.zip vs.toArray) #[] 7 none)).map (·.2) = vs.toArray := by
  show (vs.toArray.zip vs.toArray).map (·.2) = vs.toArray
  apply Array.toList_inj.mp
  rw [Array.toList_map,Array.toList_zip]
  exact List.map_snd_zip (Nat.le_refl _)
 rw [e]
 refine wpAny_bind (listUpdate_at ho6 rfl ?_ (by simp) (by simp only [List.size_toArray]; exact Nat.le_succ_of_le ‹_›))
 simp only [bne_self_eq_false,Bool.false_eq_true,if_false]
 exact wpAny_pure h
theorem sorted_short {l:Addr} {vs:List Value} {Q:Value→Shared→Prop} (hl:s.heap.IsList l vs.toArray) (h2:vs.length < 2)
  (h:Q (.ref (s.heap.objs.size + 1)) { s with heap := sortedAll s.heap vs vs.toArray }):wpAny (model prog w) A (call (.builtin "sorted") [.ref l]) Q E s := by
 have hfit:vs.length ≤ sizeLine := by rw [sizeLine_eq]; lia
 refine Calls.call_function_entry kind_sorted plain_sorted entry_sorted (args_sorted1 _) ?_
 unfold Builtin.«sorted»
 refine wpAny_bind (m := checkCount "sorted" 1 1 _) (wpAny_pure ?_)
 refine wpAny_bind (collect_list hl ?_ hfit)
 refine wpAny_bind (wpAny_newList ?_ hfit)
 have hsz:((s.heap.push (seqObj "list" #[] 0)).update s.heap.objs.size (Obj.mapSeq (· ++ vs.toArray))).objs.size = s.heap.objs.size + 1 := by
  rw [Heap.size_update,size_push']
 have hoL:(((s.heap.push (seqObj "list" #[] 0)).update s.heap.objs.size (Obj.mapSeq (· ++ vs.toArray))).push (seqObj "list" vs.toArray 0)).get? (s.heap.objs.size + 1) = some (seqObj "list" vs.toArray 0) := by
  rw [← hsz]; exact Heap.get?_push_size _ rfl
 show wpAny _ _ _ _ _ { s with heap := ((s.heap.push (seqObj "list" #[] 0)).update s.heap.objs.size (Obj.mapSeq (· ++ vs.toArray))).push (seqObj "list" vs.toArray 0) }
 rw [hsz]
 refine wpAny_bind (wpAny_holding (wpAny_call_entry slot_list_sort (in1_1 _ hoL rfl) entry_list_sort (sort_short hoL h2 (in1_1 _ rfl ?_)) (args_list_sort _)))
 exact wpAny_pure (in1_1 _ rfl h)
end
theorem getD_lt {α:Type} {l:List α} {i:Nat} {d:α} (h:i < l.length):l.getD i d = l[i] := by simp [List.getD_eq_getElem?_getD,h]
noncomputable def tupOf (p:Int × Int):V := .tup [.int p.1,.int p.2]
noncomputable def ltP (ps:List (Int × Int)) (i j:Nat):Bool := decide ((ps.getD i (0,0)).1 < (ps.getD j (0,0)).1 ∨ ((ps.getD i (0,0)).1 = (ps.getD j (0,0)).1∧(ps.getD i (0,0)).2 < (ps.getD j (0,0)).2))
theorem ltP_ok {ps:List (Int × Int)} (hn:ps.Nodup):LtOk ps.length (ltP ps) := by
 refine ⟨fun i j hi hj h => ?_,fun i j k hi hj hk h h' => ?_,fun i j hi hj ne h => ?_⟩
 ·exact ltQ_asymm h
 ·exact ltQ_trans h h'
 ·have:ps.getD i (0,0) ≠ ps.getD j (0,0) := fun e => ne (by
   rw [getD_lt hi,getD_lt hj] at e
   exact (List.getElem_inj hn).mp e)
  exact ltQ_conn this h
theorem sort_out {ps:List (Int × Int)} {p:Array Nat} (h:IsP ps.length p) (hs:Srt (ltP ps) p ps.length):p.toList.map (fun i => ps.getD i (0,0)) = ps.mergeSort leP := by
 have hp:(p.toList.map (fun i => ps.getD i (0,0))).Perm ps := by
  refine (h.perm.map _).trans ?_
  have:(List.range ps.length).map (fun i => ps.getD i (0,0)) = ps := by
   apply List.ext_getElem (by simp)
   intro i h1 h2
   simp [h2]
  rw [this]
 refine List.Perm.eq_of_pairwise (le := fun a b => leP a b = true) (fun a b U U h1 h2 => ?_) ?_ (List.pairwise_mergeSort (le := leP) (fun U U U => leP_trans) leP_total ps) (hp.trans (List.mergeSort_perm ps leP).symm)
 ·exact leP_antisymm h1 h2
 ·rw [List.pairwise_iff_getElem]
  intro i j hi hj hij
  have hz := h.size
  simp only [List.length_map,Array.length_toList] at hi hj
  have := hs i j hij (by lia)
  have e1:∀ k (hk:k < p.size),g p k = p[k] := fun k hk => by simp [g,Array.getD,hk]
  rw [e1 i hi,e1 j hj] at this
  simp only [List.getElem_map,Array.getElem_toList]
  exact ltQ_le this
section
variable {W:Wd} {F P PL:PM} {H:Hp} {s:Shared} {A:Around} {E:Value→Shared→Prop} {fm:Fm} {l:Loc} {m:Str→Option Value}
noncomputable def PairAt (F:PM) (p:Int × Int) (v:Value):Prop := ∃ a t u n,v = .ref a∧F a = some { cls := .type "tuple",data := .seq [.int p.1 t,.int p.2 u].toArray n }
theorem pair_of {p:Int × Int} {v:Value} (r:VR F (tupOf p) v):PairAt F p v :=
 ex3_2 r.tupI fun a n its e1 e2 r => ex2_2 r.twoI fun x y e3 r1 r2 => ex1_0 r1.intI fun t e4 => ex1_0 r2.intI fun u e5 =>
  (in4_1 a t u n e1 (by rw [e2,e3,e4,e5]))
theorem pairs_at {ps:List (Int × Int)}:∀ {vs:List Value},VRs F (ps.map tupOf) vs→∀ i,i < ps.length→PairAt F (ps.getD i (0,0)) (vs.getD i Value.none) := by
 induction ps with
 | nil => intro vs _ i hi; cases hi
 | cons p ps ih =>
  intro vs r i hi
  refine ex2_2 r.consI fun x xs e a r => ?_
  rw [e]
  cases i with
  | zero => exact pair_of a
  | succ i => exact ih r i (Nat.lt_of_succ_lt_succ hi)
theorem pairs_tups {h:Heap} (hF:∀ a o,F a = some o→h.get? a = some o) {ps:List (Int × Int)}:∀ {vs:List Value},VRs F (ps.map tupOf) vs→∃ fs,KatTups h vs fs∧fs.length = vs.length∧∀ v ∈ fs,∃ i t,v = .int i t := by
 induction ps with
 | nil => intro vs r; rw [r.nilI]; exact (in1_2 [] .nil rfl (fun v hv => nomatch hv))
 | cons p ps ih =>
  intro vs r
  refine ex2_2 r.consI fun y ys e0 a r => ?_
  refine ex1_2 (ih r) fun fs k hl hf => ?_
  refine ex4_1 (pair_of a) fun x t u n e1 e => ?_
  rw [e0,e1]
  exact (in1_2 (.int p.1 t :: fs) (.cons (hF _ _ e) rfl rfl rfl k) (congrArg (· + 1) hl) (fun v hv => (List.mem_cons.mp hv).elim (fun e => (in2_0 _ _ e)) (hf v)))
theorem VRs.map_getD {xs:List V} {vs:List Value} (r:VRs F xs vs):∀ (is:List Nat),(∀ i ∈ is,i < xs.length)→VRs F (is.map fun i => xs.getD i .none) (is.map fun i => vs.getD i .none)
 | [],_ => .nil
 | i :: is,h => by
  have hi := h i (.head _)
  refine ex1_1 (r.get (List.getElem?_eq_getElem hi)) fun x e rx => ?_
  refine .cons ?_ (VRs.map_getD r is fun j hj => h j (.tail _ hj))
  show VR F (xs.getD i V.none) (vs.getD i Value.none)
  rw [getD_lt hi,List.getD_eq_getElem?_getD,e]
  exact rx
theorem mergeSort_short {ps:List (Int × Int)} (h:ps.length < 2):ps.mergeSort leP = ps := by
 cases ps with
 | nil => simp
 | cons p r =>
  cases r with
  | nil => simp
  | cons q r => exact absurd h (Nat.not_lt.mpr (Nat.le_add_left 2 r.length))
theorem o_sorted {v:V} {x:Value} {xs:List V} {ps:List (Int × Int)} {Q:V→Hp→Prop} (h:FSt W F P fm l H s) (r:VR F v x) (ea:asList H v = some xs) (hxs:xs = ps.map tupOf) (hn:ps.Nodup) (h64:xs.length < 64)
  (q:Q (.lst ((ps.mergeSort leP).map tupOf)) H):wpAny (model W.prog W.w) A (call (.builtin "sorted") [x]) (Post W P fm l F Q) E s := by
 refine og fun G hG => ?_
 refine ex2_0 h fun PL m f => ?_
 refine ex2_2 (list_at f.hs r ea) fun a its xq2 ha ra => ?_
 obtain rfl := xq2
 obtain ⟨vs,rfl⟩:∃ vs:List Value,its = vs.toArray := ⟨its.toList,by simp⟩
 refine hG ?_; clear hG G
 have ra:VRs F xs vs := by simpa using ra
 have hlen:vs.length = ps.length := by rw [← ra.length,hxs,List.length_map]
 have hlx:xs.length = ps.length := by rw [hxs,List.length_map]
 have hbig:ps.length ≤ big := Nat.le_trans (Nat.le_of_lt (hlx ▸ h64)) (by decide)
 by_cases h2:2 ≤ vs.length
 ·refine kat_sorted f.fr (news_all s.heap _) ha h2 (by lia) (fun D e1 h' F' N' lo => ?_)
  have f' := f.all F' N' fun U hp => .tail _ hp
  have hF:∀ a o,F a = some o→h'.get? a = some o := f'.hs.fk
  rw [hxs] at ra
  refine ex1_2 (pairs_tups hF ra) fun fs kt hfl hfi => ?_
  refine kat_kind kt (by lia) (T := .type "int") (fun v hv => ?_) (by decide +kernel) ?_
  ·refine ex2_0 (hfi v hv) fun i t xq3 => ?_
   obtain rfl := xq3
   exact .now
  ·refine Good.wp (fun i j C hi hj hC => ?_) (fun p hp => ?_) (good_sort (ltP_ok hn) (by lia:2 ≤ ps.length) |> fun g => by rw [hlen]; exact g)
   ·refine ex4_1 (pairs_at ra i hi) fun xa t u n e1 eF => ?_
    refine ex4_1 (pairs_at ra j hj) fun ya t' u' n' e2 eG => ?_
    unfold kas_ask
    rw [e1,e2]
    refine kat_lt (hF _ _ eF) rfl (hF _ _ eG) rfl ?_
    generalize hp1:ps.getD i (0,0) = p at *
    generalize hp2:ps.getD j (0,0) = q' at *
    have hC':C (decide (p.1 < q'.1 ∨ (p.1 = q'.1∧p.2 < q'.2))) { s with heap := h' } := by
     unfold ltP at hC; rw [hp1,hp2] at hC; exact hC
    refine kat_cons (wpAny_eqBool_int (kat_go (fun he => kat_yes ?_) (fun he => kat_no ?_)))
    ·have he:p.1 = q'.1 := by simpa using he
     refine kat_cons (wpAny_eqBool_int (kat_go (fun he2 => kat_yes (kat_nil ?_)) (fun he2 => kat_no (kat_one _ _ (wpAny_lt_int ?_)))))
     ·have he2:p.2 = q'.2 := by simpa using he2
      rw [show decide (p.1 < q'.1 ∨ (p.1 = q'.1∧p.2 < q'.2)) = false from decide_eq_false (by lia)] at hC'
      simpa using hC'
     ·have he2:¬ p.2 = q'.2 := by simpa using he2
      rw [show decide (p.1 < q'.1 ∨ (p.1 = q'.1∧p.2 < q'.2)) = decide (p.2 < q'.2) from by rw [decide_eq_decide]; lia] at hC'
      exact hC'
    ·have he:¬ p.1 = q'.1 := by simpa using he
     rw [show decide (p.1 < q'.1 ∨ (p.1 = q'.1∧p.2 < q'.2)) = decide (p.1 < q'.1) from by rw [decide_eq_decide]; lia] at hC'
     exact oneLt_int hC'
   ·refine ex0_1 hp fun hp hs => ?_
    refine KasFin.intro F' N' (.head fun q hq => Nat.ne_of_lt (lo q hq)) (fun h2 c F2 N2 => ?_)
    have f2 := f.all F2 N2 fun U hp => .tail _ hp
    have hD:D ≠ fm.env.locals := (N2 _ (.head _)).2.1
    have hfr:Free F (P.un PL) H D := by
     have nl:∀ o,s.heap.get? D = some o→False := fun o eo => Nat.lt_irrefl _ (lo _ (allN_mem eo hD))
     exact f.hs.freeAt nl
    have hr := VRs.map_getD ra p.toList (fun i hi => by
     rw [List.length_map]
     exact List.mem_range.mp (hp.perm.mem_iff.mp hi))
    refine made_at (mu := false) (xs := (ps.mergeSort leP).map tupOf) f2 hfr hD (N2 _ (.head _)).1 (vs := p.toList.map fun i => vs.getD i .none) ?_ ⟨rfl,rfl⟩ rfl ⟨by rw [List.length_map]; first | exact hbig | (rw [List.length_mergeSort]; exact hbig),q⟩
    rw [← sort_out hp hs,List.map_map]
    have e:(p.toList.map fun i => (ps.map tupOf).getD i V.none) = p.toList.map (tupOf ∘ fun i => ps.getD i (0,0)) := List.map_congr_left fun i hi => by
     have hi':i < ps.length := List.mem_range.mp (hp.perm.mem_iff.mp hi)
     simp [List.getD_eq_getElem?_getD,hi']
    rw [← e]; exact hr
 ·refine sorted_short ha (by lia) ?_
  refine ex1_0 (sortedAll_at s.heap vs vs.toArray) fun e he => ?_
  have f' := f.keeps (h' := sortedAll s.heap vs vs.toArray) fun b o => sortedAll_old
  have lt:s.heap.objs.size ≤ s.heap.objs.size + 1 := Nat.le_succ _
  have hfr:Free F (P.un PL) H (s.heap.objs.size + 1) := by
   have nl:∀ o,s.heap.get? (s.heap.objs.size + 1) = some o→False := fun o eo => absurd (Heap.lt_size eo) (Nat.not_lt_of_le (Nat.le_succ _))
   exact f.hs.freeAt nl
  rw [mergeSort_short (by lia)] at q
  rw [hxs] at ra
  exact made_at (mu := false) f' hfr (Nat.ne_of_gt (Nat.lt_succ_of_lt f.ltL)) he ra ⟨rfl,rfl⟩ rfl ⟨by rw [List.length_map]; first | exact hbig | (rw [List.length_mergeSort]; exact hbig),q⟩
end
noncomputable def biV:Bi→Value
 | .len => .builtin "len" | .abs => .builtin "abs" | .int => .type "int" | .max => .builtin "max" | .min => .builtin "min" | .sum => .builtin "sum" | .sorted => .builtin "sorted"
 | .bytes => .type "bytes" | .bytearray => .type "bytearray" | .list => .type "list"
theorem maxL_spec {is:List Int} {m:Int} (h:maxL is = some m):m ∈ is∧∀ x ∈ is,x ≤ m := by
 cases is with
 | nil => cases h
 | cons a r =>
  cases h
  have:∀ (r:List Int) (a:Int),(r.foldl max a = a ∨ r.foldl max a ∈ r)∧a ≤ r.foldl max a∧∀ x ∈ r,x ≤ r.foldl max a := by
   intro r
   induction r with
   | nil => intro a; exact ⟨.inl rfl,Int.le_refl _,fun x hx => by cases hx⟩
   | cons b r ih =>
    intro a
    refine ex0_2 (ih (max a b)) fun h1 h2 h3 => ?_
    rw [List.foldl_cons]
    refine ⟨?_,by lia,fun x hx => ?_⟩
    ·rcases h1 with h1 | h1
     ·by_cases q:a ≤ b
      ·right; rw [h1,Int.max_eq_right q]; exact .head _
      ·left; rw [h1]; lia
     ·right; exact .tail _ h1
    ·rcases List.mem_cons.mp hx with rfl | hx
     ·lia
     ·exact h3 x hx
  refine ex0_2 (this r a) fun h1 h2 h3 => ?_
  refine ⟨?_,fun x hx => ?_⟩
  ·rcases h1 with h1 | h1
   ·rw [h1]; exact .head _
   ·exact .tail _ h1
  ·rcases List.mem_cons.mp hx with rfl | hx
   ·exact h2
   ·exact h3 x hx
section
variable {W:Wd} {F P PL:PM} {H:Hp} {s:Shared} {A:Around} {E:Value→Shared→Prop} {fm:Fm} {l:Loc} {m:Str→Option Value}
set_option tactic.hygienic true in
theorem ints_list {is:List Int}:∀ {xs:List V} {vs:List Value},VRs F xs vs→intsOf xs = some is→∃ ps:List (Int × Tok),vs = ps.map (fun p => Value.int p.1 p.2)∧ps.map (·.1) = is := by
 intro xs
 induction xs generalizing is with
 | nil => intro vs r h; cases r; cases h; exact (in1_1 [] rfl rfl)
 | cons v xs ih =>
  intro vs r h
  cases v <;> try (cases h; done)
  rename_i i
  have h:(intsOf xs).map (i :: ·) = some is := h
  cases q:intsOf xs with
  | none => rw [q] at h; cases h
  | some js =>
   rw [q] at h
   cases h
   cases r with
   | cons a r =>
    cases a
    rename_i t
    refine ex1_1 (ih r q) fun ps e1 e2 => ?_
    exact (in1_1 ((i,t) :: ps) (by rw [e1]; rfl) (by rw [List.map_cons,e2]))
theorem ints_items {is:List Int} {xs:List V} {its:Array Value} (r:VRs F xs its.toList) (h:intsOf xs = some is):∃ arr:Array (Int × Tok),its = intItems arr∧arr.toList.map (·.1) = is := by
 refine ex1_1 (ints_list r h) fun ps e1 e2 => ?_
 refine (in1_1 ps.toArray ?_ (by simpa using e2))
 apply Array.toList_inj.mp
 rw [e1]; simp [intItems]
theorem asSeq_cases {v:V} {xs:List V} (h:asSeq H v = some xs):v = .tup xs ∨ asList H v = some xs := by
 cases v <;> first | (cases h; exact .inl rfl) | exact .inr h
theorem barr_at {a:Addr} {bs:Array UInt8} (h:HS W F P H s) (e:H a = some (.barr bs)):∃ o,s.heap.get? a = some o∧LB o∧o.data = .bytearray bs 0 := by
 refine ex1_1 (h.hk _ _ e) fun o ho r => ?_
 cases r with
 | barr a b => exact (in1_2 o ho a b)
set_option tactic.hygienic true in
theorem o_len1 {v:V} {x:Value} {xs:List V} {Q:V→Hp→Prop} (h:FSt W F P fm l H s) (r:VR F v x) (e:asSeq H v = some xs) (hz:xs.length ≤ big) (q:Q (.int xs.length) H):wpAny (model W.prog W.w) A (call (.builtin "len") [x]) (Post W P fm l F Q) E s := by
 have h0 := h
 refine ex2_0 h fun PL m f => ?_; clear h
 have hb:big ≤ 2 ^ 40 := by decide
 rcases asSeq_cases e with rfl | e
 ·cases r with
  | tup eF rr =>
   rename_i a n its
   refine PyProof.Rows.len_tuple (in1_2 _ (f.hs.fk _ _ eF) rfl ⟨_,rfl⟩) ?_ ?_
   ·rw [List.size_toArray,← rr.length]; lia
   ·rw [List.size_toArray,← rr.length]; exact Post.int h0 q
 ·refine ex2_2 (list_at f.hs r e) fun a its xq1 ha ra => ?_
  obtain rfl := xq1
  have hl:xs.length = its.size := ra.length.trans Array.length_toList
  refine call_len_list ha (by lia) ?_
  rw [← hl]; exact Post.int h0 q
theorem o_len2 {a:Addr} {bs:Array UInt8} {x:Value} {Q:V→Hp→Prop} (h:FSt W F P fm l H s) (r:VR F (.ref a) x) (e:H a = some (.barr bs)) (hz:bs.size ≤ big) (q:Q (.int bs.size) H):wpAny (model W.prog W.w) A (call (.builtin "len") [x]) (Post W P fm l F Q) E s := by
 have h0 := h
 refine ex2_0 h fun PL m f => ?_; clear h
 cases r
 refine ex1_2 (barr_at f.hs e) fun o ho hc hd => ?_
 exact len_ba ho hc.1 hd (Nat.le_trans hz big_le) fun t tk => Post.int h0 q
theorem one_inv {vs:List V} {P:V→Prop} (h:oneV vs P):∃ v,vs = [v]∧P v := match vs,h with
 | [v],h => (in1_1 v rfl h)
theorem two_inv {vs:List V} {P:V→V→Prop} (h:twoV vs P):∃ v w,vs = [v,w]∧P v w := match vs,h with
 | [v,w],h => (in2_1 v w rfl h)
theorem vI_inv {v:V} {P:Int→Prop} (h:vI v P):∃ i,v = .int i∧P i := by
 cases v <;> first | exact h.elim | exact (in1_1 _ rfl h)
theorem barr_inv {c:Option Cell} {P:Array UInt8→Prop} (h:barr c P):∃ bs,c = some (.barr bs)∧P bs := by
 cases c with
 | none => exact h.elim
 | some c => cases c <;> first | exact h.elim | exact (in1_1 _ rfl h)
variable {Q:V→Hp→Prop} {vs:List Value} {xs:List V}
theorem bi_len (h:FSt W F P fm l H s) (r:VRs F xs vs) (q:biW .len xs Q H):wk (model W.prog W.w) A (call (biV .len) vs) (Post W P fm l F Q) E s := by
 refine og fun G hG => ?_
 refine ex1_1 (one_inv q) fun v xq2 q => ?_
 obtain rfl := xq2
 refine ex1_1 r.oneI fun x xq3 rv => ?_
 obtain rfl := xq3
 refine hG ?_; clear hG G
 have q:lenW v Q H := q
 unfold lenW at q
 cases e:asSeq H v with
 | some ys => rw [e] at q; exact up (o_len1 h rv e q.1 q.2)
 | none =>
  rw [e] at q
  cases v <;> first | exact q.elim | skip
  refine ex1_1 (barr_inv q) fun bs e q => ?_
  exact up (o_len2 h rv e q.1 q.2)
theorem bi_abs (h:FSt W F P fm l H s) (r:VRs F xs vs) (q:biW .abs xs Q H):wk (model W.prog W.w) A (call (biV .abs) vs) (Post W P fm l F Q) E s := by
 refine og fun G hG => ?_
 refine ex1_1 (one_inv q) fun v xq4 q => ?_
 obtain rfl := xq4
 refine ex1_1 r.oneI fun x xq5 rv => ?_
 obtain rfl := xq5
 refine ex1_1 (vI_inv q) fun i xq6 q => ?_
 obtain rfl := xq6
 refine ex1_0 rv.intI fun t xq7 => ?_
 obtain rfl := xq7
 refine hG ?_; clear hG G
 refine up (call_abs_int fun u tk => Post.int h ?_)
 rw [show (if i < 0 then -i else i) = (i.natAbs:Int) from by split <;> lia]; exact q
theorem bi_int (h:FSt W F P fm l H s) (r:VRs F xs vs) (q:biW .int xs Q H):wk (model W.prog W.w) A (call (biV .int) vs) (Post W P fm l F Q) E s := by
 refine og fun G hG => ?_
 refine ex1_1 (one_inv q) fun v xq8 q => ?_
 obtain rfl := xq8
 refine ex1_1 r.oneI fun x xq9 rv => ?_
 obtain rfl := xq9
 refine hG ?_; clear hG G
 cases v <;> first | exact q.elim | skip
 ·obtain rfl := rv.boolI
  exact up (call_int_bool (Post.int h q))
 ·refine ex1_0 rv.intI fun t xq10 => ?_
  obtain rfl := xq10
  exact up (call_int_int (Post.here h .int q))
set_option tactic.hygienic true in
theorem bi_min (hh:A.handled = none) (h:FSt W F P fm l H s) (r:VRs F xs vs) (q:biW .min xs Q H):wk (model W.prog W.w) A (call (biV .min) vs) (Post W P fm l F Q) E s := by
 refine og fun G hG => ?_
 refine ex2_1 (two_inv q) fun v w xq11 q => ?_
 obtain rfl := xq11
 refine ex2_2 r.twoI fun x y xq12 ra rb => ?_
 obtain rfl := xq12
 refine ex1_1 (vI_inv q) fun a xq13 q => ?_
 obtain rfl := xq13
 refine ex1_1 (vI_inv q) fun b xq14 q => ?_
 obtain rfl := xq14
 refine ex1_0 ra.intI fun t xq15 => ?_
 obtain rfl := xq15
 refine ex1_0 rb.intI fun u xq16 => ?_
 obtain rfl := xq16
 refine hG ?_; clear hG G
 have q:Q (.int (min a b)) H := q
 refine up (min_two_ints hh fun h' tk hk => ?_)
 refine ex2_0 h fun PL m f => ?_; clear h
 have g:FSt W F P fm l H { s with heap := h',toks := tk } := (in2_0 PL m ((f.keeps hk).tok tk))
 split
 ·rename_i hlt; rw [show min a b = b from by lia] at q; exact Post.here g .int q
 ·rename_i hlt; rw [show min a b = a from by lia] at q; exact Post.here g .int q
theorem best_max {arr:Array (Int × Tok)} {is:List Int} {mx:Int} (ea:arr.toList.map (·.1) = is) (hm:maxL is = some mx):0 < arr.size∧numAt arr (argBest (fun i j => decide (numAt arr i > numAt arr j)) (arr.size - 1)) = mx := by
 apply ex0_1 (maxL_spec hm); intro m1 m2
 have hne:0 < arr.size := by
  have:0 < is.length := List.length_pos_of_mem m1
  rw [← ea] at this; simpa using this
 apply ex0_1 (argBest_gt (numAt arr) (arr.size - 1)); intro k1 k2
 have hn:∀ j,j < arr.size→numAt arr j ∈ is := fun j hj => by
  rw [← ea,numAt_eq]
  rw [getD_lt (by simpa using hj)]
  exact List.getElem_mem _
 obtain ⟨j,hj,ej⟩ := List.getElem_of_mem m1
 have hj':j < arr.size := by rw [← ea] at hj; simpa using hj
 have e1:numAt arr j = mx := by rw [numAt_eq,ea,getD_lt hj,ej]
 have e2 := k2 j (by exact (Nat.le_sub_one_iff_lt hne).mpr hj')
 have e3 := m2 _ (hn (argBest (fun i j => decide (numAt arr i > numAt arr j)) (arr.size - 1)) (by exact Nat.lt_of_le_pred hne k1))
 exact ⟨hne,by lia⟩
theorem bi_max (hh:A.handled = none) (h:FSt W F P fm l H s) (r:VRs F xs vs) (q:biW .max xs Q H):wk (model W.prog W.w) A (call (biV .max) vs) (Post W P fm l F Q) E s := by
 refine og fun G hG => ?_
 refine ex1_1 (one_inv q) fun v xq17 q => ?_
 obtain rfl := xq17
 refine ex1_1 r.oneI fun x xq18 rv => ?_
 obtain rfl := xq18
 refine ex1_1 (obind_ex q) fun ys e xq19 => ?_
 refine ex2_1 xq19 fun is mx xq20 q => ?_; clear xq19
 obtain ⟨hi,hm⟩ := xq20
 refine ex2_0 h fun PL m f => ?_; clear h
 refine ex2_2 (list_at f.hs rv e) fun a its xq21 ha ra => ?_
 obtain rfl := xq21
 refine ex1_1 (ints_items ra hi) fun arr xq22 ea => ?_
 obtain rfl := xq22
 refine ex0_1 (best_max ea hm) fun hne e4 => ?_
 refine hG ?_; clear hG G
 refine up (max_intList hh ha hne fun v h' tk hv hk => ?_)
 have g:FSt W F P fm l H { s with heap := h',toks := tk } := (in2_0 PL m ((f.keeps hk).tok tk))
 refine ex1_0 (intItems_at hv) fun t xq23 => ?_
 obtain rfl := xq23
 rw [e4]
 exact Post.here g .int q
theorem bi_sum (hh:A.handled = none) (h:FSt W F P fm l H s) (r:VRs F xs vs) (q:biW .sum xs Q H):wk (model W.prog W.w) A (call (biV .sum) vs) (Post W P fm l F Q) E s := by
 refine og fun G hG => ?_
 refine ex1_1 (one_inv q) fun v xq24 q => ?_
 obtain rfl := xq24
 refine ex1_1 r.oneI fun x xq25 rv => ?_
 obtain rfl := xq25
 refine ex1_1 (obind_ex q) fun ys e xq26 => ?_
 refine ex1_2 xq26 fun is xq27 U q => ?_; clear xq26
 obtain ⟨hi,_⟩ := xq27
 refine ex2_0 h fun PL m f => ?_; clear h
 refine ex2_2 (list_at f.hs rv e) fun a its xq28 ha ra => ?_
 obtain rfl := xq28
 refine ex1_1 (ints_items ra hi) fun arr xq29 ea => ?_
 obtain rfl := xq29
 refine hG ?_; clear hG G
 refine up (sum_intListG hh ha fun h' tk t' hk => ?_)
 have g:FSt W F P fm l H { s with heap := h',toks := tk } := (in2_0 PL m ((f.keeps hk).tok tk))
 rw [preSum_eq,List.take_of_length_le (by simp),ea]
 exact Post.here g .int q
theorem bi_sorted (hh:A.handled = none) (h:FSt W F P fm l H s) (r:VRs F xs vs) (q:biW .sorted xs Q H):wk (model W.prog W.w) A (call (biV .sorted) vs) (Post W P fm l F Q) E s := by
 refine og fun G hG => ?_
 refine ex1_1 (one_inv q) fun v xq30 q => ?_
 obtain rfl := xq30
 refine ex1_1 r.oneI fun x xq31 rv => ?_
 obtain rfl := xq31
 refine ex1_1 (obind_ex q) fun ys e xq32 => ?_
 refine ex1_1 xq32 fun ps xq33 q => ?_; clear xq32
 obtain ⟨hp,hn,hl⟩ := xq33
 refine hG ?_; clear hG G
 exact up (o_sorted h rv e hp hn hl q)
theorem bi_bytes (h:FSt W F P fm l H s) (r:VRs F xs vs) (q:biW .bytes xs Q H):wk (model W.prog W.w) A (call (biV .bytes) vs) (Post W P fm l F Q) E s := by
 refine og fun G hG => ?_
 refine ex1_1 (one_inv q) fun v xq34 q => ?_
 obtain rfl := xq34
 refine ex1_1 r.oneI fun x xq35 rv => ?_
 obtain rfl := xq35
 refine hG ?_; clear hG G
 cases v <;> first | exact q.elim | skip
 ·refine ex1_0 rv.bytesI fun t xq36 => ?_
  obtain rfl := xq36
  exact up (bytes_bytes (Post.here h .bytes q.2))
 ·obtain rfl := rv.refI
  refine og fun G hG => ?_
  refine ex1_1 (barr_inv q) fun bs e q => ?_
  refine ex2_0 h fun PL m f => ?_; clear h
  refine ex1_2 (barr_at f.hs e) fun o ho hc hd => ?_
  refine hG ?_; clear hG G
  exact up (bytes_ba ho hc.1 hd (Nat.le_trans q.1 big_le) fun t tk => Post.here (FSt.tok (in2_0 PL m f) tk) .bytes q.2)
theorem bi_bytearray (h:FSt W F P fm l H s) (r:VRs F xs vs) (q:biW .bytearray xs Q H):wk (model W.prog W.w) A (call (biV .bytearray) vs) (Post W P fm l F Q) E s := by
 cases xs with
 | cons _ _ => exact q.elim
 | nil =>
 obtain rfl := r.nilI
 refine ex2_0 h fun PL m f => ?_; clear h
 refine wk_bytearray fun h' o' ho hc hd hk => ?_
 have f' := f.keeps hk
 have g := f'.toH (s := { s with heap := h' }) f.new.1 f.new.2 ho (.barr hc hd) npB
 exact (in3_3 F _ _ (PM.le_refl F) g .ref (q _ f.new.1.2.2))
theorem bi_list (h:FSt W F P fm l H s) (r:VRs F xs vs) (q:biW .list xs Q H):wk (model W.prog W.w) A (call (biV .list) vs) (Post W P fm l F Q) E s := by
 refine og fun G hG => ?_
 refine ex1_1 (one_inv q) fun v xq37 q => ?_
 obtain rfl := xq37
 refine ex1_1 r.oneI fun x xq38 rv => ?_
 obtain rfl := xq38
 refine ex1_1 (obind_ex q) fun ys e q => ?_
 refine ex2_0 h fun PL m f => ?_; clear h
 refine ex2_2 (list_at f.hs rv e) fun a its xq39 xq40 ra => ?_
 obtain rfl := xq39
 obtain ⟨o,ho,hc,n,hd⟩ := xq40
 refine hG ?_; clear hG G
 have hl:ys.length = its.size := ra.length.trans Array.length_toList
 refine up (call_list_seq a (.inl rfl) ho hc hd (fun h' c' hk hn => ?_) (by have := big_le; lia))
 exact made_at (mu := false) (f.keeps hk) f.new.1 f.new.2 hn (vs := its.toList) ra ⟨rfl,rfl⟩ (by simp <;> rfl) ⟨q.1,q.2⟩
theorem o_bi {b:Bi} (hh:A.handled = none) (h:FSt W F P fm l H s) (r:VRs F xs vs) (q:biW b xs Q H):wk (model W.prog W.w) A (call (biV b) vs) (Post W P fm l F Q) E s :=
 match b,q with
 | .len,q => bi_len h r q
 | .abs,q => bi_abs h r q
 | .int,q => bi_int h r q
 | .min,q => bi_min hh h r q
 | .max,q => bi_max hh h r q
 | .sum,q => bi_sum hh h r q
 | .sorted,q => bi_sorted hh h r q
 | .bytes,q => bi_bytes h r q
 | .bytearray,q => bi_bytearray h r q
 | .list,q => bi_list h r q
end
section
variable {M:Model} {A:Around} {E:Value→Shared→Prop} {s:Shared} {env:Env}
theorem wk_operate {vs:List Value} {m:Sem Value} {Q:Value→Shared→Prop} (h:wk M A m Q E s):wk M A (operate vs m) Q E s := fun Γ p hΓ hl => by
 rw [Sem.wp_operate]; exact h Γ p hΓ hl
theorem wk_release {vs keep:List Value} {Q:Unit→Shared→Prop} (h:Q () s):wk M A (release vs keep) Q E s := up (wpAny_release' h)
end
section
variable {W:Wd} {F P PL PI:PM} {H:Hp} {s:Shared} {A:Around} {E:Value→Shared→Prop} {fm:Fm} {l:Loc} {m:Str→Option Value}
abbrev TE := Loc→(V→Hp→Prop)→Hp→Prop
theorem two {a b:Expr} {TA TB:TE} {R:V→V→Hp→Prop} {f:Value→Value→Sem Value} {Q:Value→Shared→Prop} (ha:EltOk W A fm a TA) (hb:EltOk W A fm b TB) (h:FSt W F P fm l H s) (q:TA l (fun x H => TB l (fun y H => R x y H) H) H)
  (k:∀ {F' vx vy s' x y H'},F.le F'→FSt W F' P fm l H' s'→VR F' x vx→VR F' y vy→R x y H'→wk (model W.prog W.w) A (f vx vy) Q E s') :
  wk (model W.prog W.w) A (eval a fm.env >>= fun x => holding [x] (eval b fm.env) >>= fun y => f x y) Q E s :=
 wk_bind (wk_mono (ha h q) (fun vx s1 p => p.el fun F1 x H1 le1 h1 r1 q1 => wk_bind (wk_holding (wk_mono (hb h1 q1) (fun vy s2 p => p.el fun F2 y H2 le2 h2 r2 q2 =>
  k (PM.le_trans le1 le2) h2 (r1.mono le2) r2 q2) fun U U e => e))) fun U U e => e)
theorem elt_int {i:Int} {k:Nat} {pos:Pos}:EltOk W A fm (.Constant (.int i) k pos) (fun l Q H => Q (.int i) H) :=
 fun h q => up (wpAny_Constant_int (Post.int h q))
theorem elt_none {k:Nat} {pos:Pos}:EltOk W A fm (.Constant .none k pos) (fun l Q H => Q .none H) :=
 fun h q => up (wpAny_Constant_none (Post.here h .none q))
theorem elt_bool {b:Bool} {k:Nat} {pos:Pos}:EltOk W A fm (.Constant (.bool b) k pos) (fun l Q H => Q (.bool b) H) :=
 fun h q => up (wpAny_Constant_bool (Post.here h .bool q))
theorem elt_loc {i:Nat} {x:Str} {c:Bool} {pos:Pos} (hx:fm.names[i]? = some (x,c)) (hd:(x == ("__debug__":Str)) = false):EltOk W A fm (.Name x pos) (fun l Q H => oget l[i]? fun v => Q v H) :=
 fun h q => ex1_1 (oget_ex q) fun v hv q => up (o_load h hx hd hv q)
theorem elt_glob {x:Str} {v:V} {rv:Value} {pos:Pos} (hk:fm.env.kindOf x = some .globalImplicit) (hd:(x == ("__debug__":Str)) = false) (e:nsIn W.K mainGlobals x = some (some rv)) (hv:∀ F,(∀ a o,W.hb.get? a = some o→F a = some o)→VR F v rv) :
  EltOk W A fm (.Name x pos) (fun l Q H => Q v H) :=
 fun h q => up (o_global h hk hd e (Post.here h (hv _ (by obtain ⟨PL,m,f⟩ := h; exact f.hs.base)) q))
theorem elt_bin {a b:Expr} {o:Bop} {pos:Pos} {TA TB:TE} (ha:EltOk W A fm a TA) (hb:EltOk W A fm b TB) :
  EltOk W A fm (.BinOp a (bopOf o) b pos) (fun l Q H => TA l (fun x H => TB l (fun y H => binW o x y (fun v => Q v H)) H) H) := fun {F P l H s E Q} h q =>
 two (Q := Post W P fm l F Q) ha hb h q (f := fun x y => standAt pos >>= fun U => operate [x,y] (binaryOp (bopOf o) x y)) fun le h2 r1 r2 q2 =>
  wk_bind (wk_standAt (wk_operate (up (wpAny_mono (o_bin h2 r1 r2 q2 fun U q => q) (fun U U p => Post.from le p) fun U U e => e))))
theorem elt_cat {mu:Bool} {a b:Expr} {pos:Pos} {TA TB:TE} (ha:EltOk W A fm a TA) (hb:EltOk W A fm b TB) :
  EltOk W A fm (.BinOp a .Add b pos) (fun l Q H => TA l (fun x H => TB l (fun y H => (match asList H x,asList H y with
  | some xs,some ys => mk mu (xs ++ ys) Q H
  | _,_ => False)) H) H) := fun {F P l H s E Q} h q =>
 two (Q := Post W P fm l F Q) ha hb h q (f := fun x y => standAt pos >>= fun U => operate [x,y] (binaryOp .Add x y)) fun le h2 r1 r2 q2 => by
  refine ex2_2 (mTwo q2) fun xs ys e1 e2 q2 => ?_
  exact wk_bind (wk_standAt (wk_operate (up (wpAny_mono (o_cat h2 r1 r2 e1 e2 q2) (fun U U p => Post.from le p) fun U U e => e))))
theorem elt_neg {i k:Nat} {pos p2:Pos}:EltOk W A fm (.UnaryOp .USub (.Constant (.int i) k p2) pos) (fun l Q H => Q (.int (-(i:Int))) H) := fun h q => by
 show wk _ _ (eval (.Constant (.int i) k p2) fm.env >>= fun v => standAt pos >>= fun U => holding [v] (unaryOp .USub v)) _ _ _
 exact wk_bind (up (wpAny_Constant_int (up (wpAny_bind (wpAny_standAt (wpAny_holding (PyProof.Rows.neg_int (Post.int (h.tok _) q))))))))
abbrev TB := Loc→(Bool→Hp→Prop)→Hp→Prop
noncomputable def tr (T:TE):TB := fun l Q H => T l (fun x H => truthW x fun b => Q b H) H
theorem truth_bool {x:V} {rv:Value} {Q:Bool→Prop} {Q':Bool→Shared→Prop} (r:VR F x rv) (q:truthW x Q) (k:∀ b,x = .bool b→rv = .bool b→Q b→Q' b s):wk (model W.prog W.w) A (truthy rv) Q' E s := by
 cases r <;> first | exact q.elim | skip
 exact up (wpAny_truthy_bool (k _ rfl rfl q))
theorem test_whole {e:Expr} {T:TE} (he:EltOk W A fm e T) (hw:∀ whole env,isTrue e env whole = (do let v ← whole; standAt e.pos; holding [v] (truthy v))):TestOk W A fm e (tr T) := fun {F P l H s E Q} h q => by
 rw [hw]
 refine wk_bind (wk_mono (he h q) (fun v s1 p => p.el fun F1 x H1 le h1 r q1 => wk_bind (wk_standAt (wk_holding ?_))) fun U U e => e)
 exact truth_bool r q1 fun b U U q => (in2_2 F1 H1 le h1 q)
theorem test_not {e:Expr} {pos:Pos} {T:TB} (he:TestOk W A fm e T):TestOk W A fm (.UnaryOp .Not e pos) (fun l Q H => T l (fun b H => Q (!b) H) H) := fun {F P l H s E Q} h q => by
 show wk _ _ (isTrue e fm.env (eval e fm.env) >>= fun b => pure (!b)) _ _ _
 exact wk_bind (wk_mono (he h q) (fun b s1 p => p.el fun F1 H1 le h1 q1 => wk_pure (in2_2 F1 H1 le h1 q1)) fun U U e => e)
theorem elt_not {e:Expr} {pos:Pos} {T:TE} (he:EltOk W A fm e T):EltOk W A fm (.UnaryOp .Not e pos) (fun l Q H => tr T l (fun b H => Q (.bool (!b)) H) H) := fun {F P l H s E Q} h q => by
 show wk _ _ (eval e fm.env >>= fun v => standAt pos >>= fun U => holding [v] (unaryOp .Not v)) _ _ _
 refine wk_bind (wk_mono (he h q) (fun v s1 p => p.el fun F1 x H1 le h1 r q1 => wk_bind (wk_standAt (wk_holding ?_))) fun U U e => e)
 cases r <;> first | exact q1.elim | skip
 exact up (PyProof.Rows.not_of (wpAny_truthy_bool (in3_3 F1 _ H1 le h1 .bool q1)))
theorem elt_ite {c a b:Expr} {pos:Pos} {T:TB} {TA TB':TE} (hc:TestOk W A fm c T) (ha:EltOk W A fm a TA) (hb:EltOk W A fm b TB') :
  EltOk W A fm (.IfExp c a b pos) (fun l Q H => T l (fun t H => match t with | true => TA l Q H | false => TB' l Q H) H) := fun {F P l H s E Q} h q => by
 show wk _ _ (isTrue c fm.env (eval c fm.env) >>= fun t => if t = true then eval a fm.env else eval b fm.env) _ _ _
 refine wk_bind (wk_mono (hc h q) (fun t s1 p => p.el fun F1 H1 le h1 q1 => ?_) fun U U e => e)
 cases t with
 | true => simp only [if_true]; exact wk_mono (ha h1 q1) (fun U U p => Post.from le p) fun U U e => e
 | false => simp only [Bool.false_eq_true,if_false]; exact wk_mono (hb h1 q1) (fun U U p => Post.from le p) fun U U e => e
theorem PostB.from {F':PM} {Q:Bool→Hp→Prop} {b:Bool} (h:F.le F') (p:PostB W P fm l F' Q b s):PostB W P fm l F Q b s := ex2_2 p fun F2 H' a b c => (in2_2 F2 H' (PM.le_trans h a) b c)
noncomputable def noMark (op:CmpOp) (b:Expr):Prop := behindInMarks op b = false
theorem elt_cmp1 {a b:Expr} {op:CmpOp} {pos:Pos} {TA TB:TE} {R:V→V→(V→Hp→Prop)→Hp→Prop} (hm:behindInMarks op b = false) (ha:EltOk W A fm a TA) (hb:EltOk W A fm b TB)
  (k:∀ {F P l H s E Q vx vy x y},FSt W F P fm l H s→VR F x vx→VR F y vy→R x y Q H→wk (model W.prog W.w) A (compareOp op vx vy) (Post W P fm l F Q) E s) :
  EltOk W A fm (.Compare a [op] [b] pos) (fun l Q H => TA l (fun x H => TB l (fun y H => R x y Q H) H) H) := fun {F P l H s E Q} h q => by
 show wk _ _ (eval a fm.env >>= fun x => compareChain pos x [op] (markedEach [op] [b] (evalEach [b] fm.env))) _ _ _
 rw [markedEach_of_false _ _ _ (by simpa [lastMarks] using hm)]
 exact two (Q := Post W P fm l F Q) ha hb h q (f := fun x y => standAt pos >>= fun U => operate [x,y] (compareOp op x y)) fun le h2 r1 r2 q2 =>
  wk_bind (wk_standAt (wk_operate (wk_mono (k h2 r1 r2 q2) (fun U U p => Post.from le p) fun U U e => e)))
theorem test_cmp1 {a b:Expr} {op:CmpOp} {pos:Pos} {TA TB:TE} {R:V→V→(V→Hp→Prop)→Hp→Prop} (hm:behindInMarks op b = false) (ha:EltOk W A fm a TA) (hb:EltOk W A fm b TB)
  (k:∀ {F P l H s E Q vx vy x y},FSt W F P fm l H s→VR F x vx→VR F y vy→R x y Q H→wk (model W.prog W.w) A (compareOp op vx vy) (Post W P fm l F Q) E s) :
  TestOk W A fm (.Compare a [op] [b] pos) (tr fun l Q H => TA l (fun x H => TB l (fun y H => R x y Q H) H) H) := fun {F P l H s E Q} h q => by
 show wk _ _ (eval a fm.env >>= fun x => testChain pos x [op] (markedEach [op] [b] (evalEach [b] fm.env))) _ _ _
 rw [markedEach_of_false _ _ _ (by simpa [lastMarks] using hm)]
 refine wk_bind (wk_mono (ha h q) (fun vx s1 p => p.el fun F1 x H1 le1 h1 r1 q1 => ?_) fun U U e => e)
 show wk _ _ (holding [vx] (eval b fm.env) >>= fun y => standAt pos >>= fun U => operate [vx,y] (compareOp op vx y) >>= fun c => holding [c] (truthy c)) _ _ _
 refine wk_bind (wk_holding (wk_mono (hb h1 q1) (fun vy s2 p => p.el fun F2 y H2 le2 h2 r2 q2 => wk_bind (wk_standAt (wk_bind (wk_operate (wk_mono (k h2 (r1.mono le2) r2 q2) (fun c s3 p => ?_) fun U U e => e))))) fun U U e => e))
 refine ex3_3 p fun F3 z H3 le3 h3 r3 q3 => ?_; clear p
 exact wk_holding (truth_bool r3 q3 fun b U U q => (in2_2 F3 H3 (PM.le_trans le1 (PM.le_trans le2 le3)) h3 q))
theorem cmp_rule {o:Cop} {F P l H s E Q vx vy x y} (h:FSt W F P fm l H s) (rx:VR F x vx) (ry:VR F y vy) (q:cmpW o x y (fun v => Q (.bool v) H)):wk (model W.prog W.w) A (compareOp (copOf o) vx vy) (Post W P fm l F Q) E s :=
 up (o_cmp h rx ry q fun U q => q)
noncomputable def isNoneW (x:V) (Q:V→Hp→Prop) (H:Hp):Prop := match x with
 | .none => Q (.bool true) H
 | .tup _ => Q (.bool false) H
 | .lst _ => Q (.bool false) H
 | _ => False
theorem isNone_rule {F P l H s E Q vx vy x y} (h:FSt W F P fm l H s) (rx:VR F x vx) (ry:VR F y vy) (q:y = .none∧isNoneW x Q H):wk (model W.prog W.w) A (compareOp .Is vx vy) (Post W P fm l F Q) E s := by
 obtain ⟨rfl,q⟩ := q
 cases ry
 cases rx <;> first | exact q.elim | skip
 ·exact up (is_none_none (Post.here h .bool q))
 ·exact up (is_ref_none (Post.here h .bool q))
 ·exact up (is_ref_none (Post.here h .bool q))
theorem EltOk.imp {e:Expr} {T T':TE} (h:EltOk W A fm e T) (i:∀ {l Q H},T' l Q H→T l Q H):EltOk W A fm e T' := fun hf q => h hf (i q)
theorem TestOk.imp {e:Expr} {T T':TB} (h:TestOk W A fm e T) (i:∀ {l Q H},T' l Q H→T l Q H):TestOk W A fm e T' := fun hf q => h hf (i q)
theorem test_chain {a b c:Expr} {o1 o2:Cop} {pos:Pos} {TA TB' TC:TE} (hm:behindInMarks (copOf o2) c = false) (ha:EltOk W A fm a TA) (hb:EltOk W A fm b TB') (hc:EltOk W A fm c TC) :
  TestOk W A fm (.Compare a [copOf o1,copOf o2] [b,c] pos) (tr fun l Q H => TA l (fun x H => TB' l (fun y H => cmpW o1 x y (fun t => match t with
  | true => TC l (fun z H => cmpW o2 y z (fun v => Q (.bool v) H)) H
  | false => Q (.bool false) H)) H) H) := fun {F P l H s E Q} h q => by
 show wk _ _ (eval a fm.env >>= fun x => testChain pos x [copOf o1,copOf o2] (markedEach [copOf o1,copOf o2] [b,c] (evalEach [b,c] fm.env))) _ _ _
 rw [markedEach_of_false _ _ _ (by simpa [lastMarks] using hm)]
 refine wk_bind (wk_mono (ha h q) (fun vx s1 p => p.el fun F1 x H1 le1 h1 r1 q1 => ?_) fun U U e => e)
 show wk _ _ (holding [vx] (eval b fm.env) >>= fun y => standAt pos >>= fun U => holding [vx,y] (compareOp (copOf o1) vx y) >>= fun t => release [vx,y] [t] >>= fun U =>
  holding [t,y] (truthy t) >>= fun t => if t = true then testChain pos y [copOf o2] [eval c fm.env] else pure false) _ _ _
 refine wk_bind (wk_holding (wk_mono (hb h1 q1) (fun vy s2 p => p.el fun F2 y H2 le2 h2 r2 q2 => wk_bind (wk_standAt (wk_bind (wk_holding (wk_mono (up (o_cmp (Q' := fun v H' => ∃ t,v = .bool t∧H' = H2∧((match t with | true => TC l (fun z H => cmpW o2 y z (fun v => truthW (.bool v) fun b => Q b H)) H2 | false => truthW (.bool false) fun b => Q b H2):Prop)) h2 (r1.mono le2) r2 q2 (fun t ht => (in1_2 t rfl rfl ht)))) (fun tv s3 p => ?_) fun U U e => e))))) fun U U e => e))
 refine og fun G hG => ?_
 refine ex3_3 p fun F3 z H3 le3 h3 r3 xq1 => ?_; clear p
 refine ex1_2 xq1 fun t xq2 xq3 q3 => ?_; clear xq1
 obtain rfl := xq2
 obtain rfl := xq3
 refine hG ?_; clear hG G
 cases r3
 refine wk_bind (wk_release (wk_bind (wk_holding (up (wpAny_truthy_bool ?_)))))
 have le := PM.le_trans le1 (PM.le_trans le2 le3)
 cases t with
 | false => simp only [Bool.false_eq_true,if_false]; exact wk_pure (in2_2 F3 H3 le h3 q3)
 | true =>
  simp only [if_true]
  show wk _ _ (holding [vy] (eval c fm.env) >>= fun z => standAt pos >>= fun U => operate [vy,z] (compareOp (copOf o2) vy z) >>= fun c => holding [c] (truthy c)) _ _ _
  refine wk_bind (wk_holding (wk_mono (hc h3 q3) (fun vz s4 p => p.el fun F4 z H4 le4 h4 r4 q4 => wk_bind (wk_standAt (wk_bind (wk_operate (wk_mono (cmp_rule (Q := fun v H => truthW v fun b => Q b H) h4 (r2.mono (PM.le_trans le3 le4)) r4 q4) (fun c s5 p => ?_) fun U U e => e))))) fun U U e => e))
  refine ex3_3 p fun F5 z H5 le5 h5 r5 q5 => ?_; clear p
  exact wk_holding (truth_bool r5 q5 fun b U U q => (in2_2 F5 H5 (PM.le_trans le (PM.le_trans le4 le5)) h5 q))
end
section
variable {W:Wd} {F P PL PI:PM} {H:Hp} {s:Shared} {A:Around} {E:Value→Shared→Prop} {fm:Fm} {l:Loc} {m:Str→Option Value}
abbrev TEs := Loc→(List V→Hp→Prop)→Hp→Prop
noncomputable def PostVs (W:Wd) (P:PM) (fm:Fm) (l:Loc) (F:PM) (Q:List V→Hp→Prop) (vs:List Value) (s:Shared):Prop :=
 ∃ F' xs H',F.le F'∧FSt W F' P fm l H' s∧VRs F' xs vs∧Q xs H'
theorem PostVs.el {W:Wd} {P:PM} {fm:Fm} {l:Loc} {F:PM} {s:Shared} {Q:List V→Hp→Prop} {vs:List Value} {G:Prop} (p:PostVs W P fm l F Q vs s) (k:∀ F' xs H',F.le F'→FSt W F' P fm l H' s→VRs F' xs vs→Q xs H'→G):G := ex3_3 p k
theorem lenVs_el {W:Wd} {P:PM} {fm:Fm} {l:Loc} {F:PM} {s:Shared} {Q:List V→Hp→Prop} {vs:List Value} {n:Nat} {G:Prop} (p:vs.length = n∧PostVs W P fm l F Q vs s) (k:vs.length = n→∀ F' xs H',F.le F'→FSt W F' P fm l H' s→VRs F' xs vs→Q xs H'→G):G := p.2.el (k p.1)
noncomputable def EltsOk (W:Wd) (A:Around) (fm:Fm) (es:List Expr) (T:TEs):Prop :=
 ∀ {F P:PM} {l:Loc} {H:Hp} {s:Shared} {E:Value→Shared→Prop} {Q:List V→Hp→Prop} {pos:Pos},FSt W F P fm l H s→T l Q H →
  wk (model W.prog W.w) A (spliced (backTo pos (starEach es fm.env))) (fun vs s' => vs.length = es.length∧PostVs W P fm l F Q vs s') E s
noncomputable def notN (n:Nat) (e:Expr):Bool := !decide (e.ctorIdx = n)
noncomputable def noStar:List Expr→Bool
 | [] => true
 | e :: r => notN 22 e && noStar r
theorem noStar_cons {e:Expr} {r:List Expr} (h:noStar (e :: r) = true):(∀ env,starEach (e :: r) env = (false,eval e env) :: starEach r env)∧noStar r = true := by
 cases e <;> first | exact ⟨fun U => rfl,h⟩ | cases h
theorem noStar_any {es:List Expr} {env:Env} {pos:Pos}:noStar es = true→(backTo pos (starEach es env)).any (·.1) = false := by
 induction es with
 | nil => intro _; rfl
 | cons e r ih =>
  intro h
  refine ex0_1 (noStar_cons h) fun h1 h2 => ?_
  rw [h1]
  show (false || (backTo pos (starEach r env)).any (·.1)) = false
  rw [ih h2]; rfl
theorem elts_nil:EltsOk W A fm [] (fun l Q H => Q [] H) := fun h q => wk_pure ⟨rfl,_,_,_,PM.le_refl _,h,.nil,q⟩
theorem elts_cons {e:Expr} {r:List Expr} {T:TE} {TR:TEs} (hn:noStar (e :: r) = true) (he:EltOk W A fm e T) (hr:EltsOk W A fm r TR) :
  EltsOk W A fm (e :: r) (fun l Q H => T l (fun x H => TR l (fun xs H => Q (x :: xs) H) H) H) := fun {F P l H s E Q pos} h q => by
 rw [(noStar_cons hn).1]
 show wk _ _ (spliced ((false,eval e fm.env) :: backTo pos (starEach r fm.env))) _ _ _
 refine wk_spliced_cons (wk_mono (he h q) (fun v s1 p => p.el fun F1 x H1 le1 h1 r1 q1 => wk_mono (hr h1 q1) (fun vs s2 p => lenVs_el p fun hl F2 xs H2 le2 h2 r2 q2 => ?_) fun U U e => e) fun U U e => e)
 exact ⟨by rw [List.length_cons,List.length_cons,hl],F2,_,H2,PM.le_trans le1 le2,h2,.cons (r1.mono le2) r2,q2⟩
theorem elt_tup {es:List Expr} {k:Nat} {pos:Pos} {T:TEs} (hz:es.length ≤ 1000) (he:EltsOk W A fm es T):EltOk W A fm (.Tuple es k pos) (fun l Q H => T l (fun vs H => Q (.tup vs) H) H) := fun {F P l H s E Q} h q => by
 show wk _ _ (standAt pos >>= fun U => spliced (backTo pos (starEach es fm.env)) >>= fun vs => newTuple vs) _ _ _
 refine wk_bind (wk_standAt (wk_bind (wk_mono (he h q) (fun vs s1 p => lenVs_el p fun hn F1 xs H1 le1 h1 r1 q1 => ?_) fun U U e => e)))
 exact up (wpAny_mono (o_tuple h1 r1 (by rw [hn]; exact Nat.le_trans hz (by decide)) q1) (fun U U p => Post.from le1 p) fun U U e => e)
theorem elt_list {mu:Bool} {es:List Expr} {pos:Pos} {T:TEs} (he:EltsOk W A fm es T):EltOk W A fm (.List es pos) (fun l Q H => T l (fun vs H => mk mu vs Q H) H) := fun {F P l H s E Q} h q => by
 show wk _ _ (standAt pos >>= fun U => spliced (backTo pos (starEach es fm.env)) >>= fun vs => newList vs) _ _ _
 refine wk_bind (wk_standAt (wk_bind (wk_mono (he h q) (fun vs s1 p => lenVs_el p fun U F1 xs H1 le1 h1 r1 q1 => ?_) fun U U e => e)))
 exact up (wpAny_mono (o_list h1 r1 q1) (fun U U p => Post.from le1 p) fun U U e => e)
theorem elt_rep {mu:Bool} {a b:Expr} {pos p2:Pos} {TA TB:TE} (hn:noStar [a] = true) (ha:EltOk W A fm a TA) (hb:EltOk W A fm b TB) :
  EltOk W A fm (.BinOp (.List [a] p2) .Mult b pos) (fun l Q H => TA l (fun x H => TB l (fun y H => (match y with
  | .int n => (0 ≤ n∧n ≤ big)∧mk mu (List.replicate n.toNat x) Q H
  | _ => False)) H) H) := fun {F P l H s E Q} h q => by
 show wk _ _ (eval (.List [a] p2) fm.env >>= fun x => holding [x] (eval b fm.env) >>= fun y => standAt pos >>= fun U => operate [x,y] (binaryOp .Mult x y)) _ _ _
 show wk _ _ ((standAt p2 >>= fun U => spliced (backTo p2 (starEach [a] fm.env)) >>= fun vs => newList vs) >>= _) _ _ _
 rw [(noStar_cons hn).1]
 refine wk_bind (wk_bind (wk_standAt (wk_bind (wk_spliced_cons (wk_mono (ha h q) (fun vx s1 p => p.el fun F1 x H1 le1 h1 r1 q1 => wk_spliced_nil ?_) fun U U e => e)))))
 refine up (wpAny_newList ?_ (by exact Nat.le_trans (Nat.le_refl 1) (by decide)))
 refine og fun G hG => ?_
 refine ex2_0 h1 fun PL m f => ?_; clear h1
 refine ex0_1 (f.pushF { cls := .type "list",data := .seq [vx].toArray } rfl) fun g le => ?_
 refine hG ?_; clear hG G
 refine wk_bind (wk_holding (wk_mono (hb g q1) (fun vy s2 p => p.el fun F2 y H2 le2 h2 r2 q2 => wk_bind (wk_standAt (wk_operate ?_))) fun U U e => e))
 try dsimp only at q2
 split at q2
 ·have e:s2.heap.get? s1.heap.objs.size = some { cls := .type "list",data := .seq #[vx] } := by
   refine ex2_0 h2 fun PL2 m2 f2 => ?_; clear h2
   exact f2.hs.fk _ _ (le2 _ _ (PM.set_self ..))
  exact up (wpAny_mono (o_rep h2 (r1.mono (PM.le_trans le le2)) r2 e q2.1 q2.2) (fun U U p => Post.from (PM.le_trans le1 (PM.le_trans le le2)) p) fun U U e => e)
 ·exact q2.elim
theorem VR.typ {v:V} {rv:Value} {xs:List V} (h:HS W F P H s) (r:VR F v rv) (e:asSeq H v = some xs):∃ T id,s.TypeIs rv T∧typeLookup (.type T) "__getitem__" = pure (some (.builtin id)) := by
 rcases asSeq_cases e with rfl | e
 ·cases r with
  | tup eF _ => exact (in2_1 _ _ (in1_1 _ (h.fk _ _ eF) rfl) slot_tuple_getitem.lookup)
 ·refine ex2_2 (list_at h r e) fun a its xq1 ha U => ?_
  obtain rfl := xq1
  exact (in2_1 _ _ ha.typeIs slot_list_getitem.lookup)
theorem elt_sub {a i:Expr} {pos:Pos} {TA TB:TE} {R:V→V→(V→Hp→Prop)→Hp→Prop} (ha:EltOk W A fm a TA) (hb:EltOk W A fm i TB)
  (k:∀ {F P l H s E Q vx vy x y},FSt W F P fm l H s→VR F x vx→VR F y vy→R x y Q H→wk (model W.prog W.w) A (subscriptTail a i vx vy) (Post W P fm l F Q) E s) :
  EltOk W A fm (.Subscript a i pos) (fun l Q H => TA l (fun x H => TB l (fun y H => R x y Q H) H) H) := fun {F P l H s E Q} h q => by
 rw [eval_Subscript]
 exact two (Q := Post W P fm l F Q) ha hb h q (f := fun x y => standAt pos >>= fun U => subscriptTail a i x y) fun le h2 r1 r2 q2 =>
  wk_bind (wk_standAt (wk_mono (k h2 r1 r2 q2) (fun U U p => Post.from le p) fun U U e => e))
noncomputable def noSlice (e:Expr):Bool := notN 26 e
theorem sub_plain {i:Expr} (h:noSlice i = true) (o v:Value):subscripted i false o v = operate [o,v] (getItem o v) := by
 cases i <;> first | rfl | cases h
theorem item_rule {a i:Expr} (hi:noSlice i = true) {F P l H s E Q vx vy x y} (h:FSt W F P fm l H s) (rx:VR F x vx) (ry:VR F y vy)
  (q:∃ xs k j v,asSeq H x = some xs∧y = .int k∧(idx xs.length k = some j∧xs[j]? = some v∧xs.length ≤ big)∧Q v H):wk (model W.prog W.w) A (subscriptTail a i vx vy) (Post W P fm l F Q) E s := by
 refine og fun G hG => ?_
 obtain ⟨xs,k,j,v,ex,rfl,⟨h1,h2,h3⟩,q⟩ := q
 have h0 := h
 obtain ⟨PL,m,f⟩ := h0
 obtain ⟨T,id,hT,hl⟩ := VR.typ f.hs rx ex
 refine hG ?_; clear hG G
 exact up (tail_any hT hl (o_item h rx ry ex h1 h2 (Nat.le_trans h3 (by decide)) q) (sub_plain hi _ _))
noncomputable def OptOk (W:Wd) (A:Around) (fm:Fm) (e:Option Expr) (T:TE):Prop :=
 ∀ {F P:PM} {l:Loc} {H:Hp} {s:Shared} {E:Value→Shared→Prop} {Q:V→Hp→Prop},FSt W F P fm l H s→T l Q H →
  wk (model W.prog W.w) A (valueOrNone (evalOpt e fm.env)) (Post W P fm l F Q) E s
theorem opt_none:OptOk W A fm none (fun l Q H => Q .none H) := fun h q => wk_pure (Post.here h .none q)
theorem opt_some {e:Expr} {T:TE} (h:EltOk W A fm e T):OptOk W A fm (some e) T := fun hf q => h hf q
set_option tactic.hygienic true in
theorem elt_slice {mu:Bool} {a:Expr} {lo hi:Option Expr} {pos p2:Pos} {TA TL TH:TE} (ha:EltOk W A fm a TA) (hl:OptOk W A fm lo TL) (hh:OptOk W A fm hi TH) :
  EltOk W A fm (.Subscript a (.Slice lo hi none p2) pos) (fun l Q H => TA l (fun x H => TL l (fun y H => TH l (fun z H => (match asList H x with
  | some xs => ∃ ys,(sliceL xs y z = some ys∧xs.length ≤ big)∧mk mu ys Q H
  | none => False)) H) H) H) := fun {F P l H s E Q} h q => by
 rw [eval_Subscript]
 refine wk_bind (wk_mono (ha h q) (fun vx s1 p => p.el fun F1 x H1 le1 h1 r1 q1 => ?_) fun U U e => e)
 refine wk_bind (wk_holding ?_)
 show wk _ _ (valueOrNone (evalOpt lo fm.env) >>= fun l => holding [l] (valueOrNone (evalOpt hi fm.env)) >>= fun u => holding [l,u] (valueOrNone (evalOpt none fm.env)) >>= fun st => newFields "slice" [l,u,st]) _ _ _
 refine wk_bind (wk_mono (hl h1 q1) (fun vl s2 p => p.el fun F2 y H2 le2 h2 r2 q2 => wk_bind (wk_holding (wk_mono (hh h2 q2) (fun vh s3 p => p.el fun F3 z H3 le3 h3 r3 q3 => ?_) fun U U e => e))) fun U U e => e)
 try dsimp only at q3
 split at q3
 ·rename_i xs ex
  refine og fun G hG => ?_
  refine ex1_1 q3 fun ys xq2 q3 => ?_
  obtain ⟨hs,hz⟩ := xq2
  refine hG ?_; clear hG G
  refine wk_bind (wk_holding (wk_pure (up (wpAny_newObj_type ?_ (by show (3:Nat) ≤ _; decide)))))
  refine og fun G hG => ?_
  refine ex2_0 h3 fun PL m f => ?_
  have h4:FSt W F3 P fm l H3 { s3 with heap := s3.heap.push { cls := .type "slice",data := .fields #[vl,vh,.none] } } := (in2_0 PL m (f.push _))
  have r1' := r1.mono (PM.le_trans le2 le3)
  refine ex2_2 (list_at f.hs r1' ex) fun b its xq3 hb r => ?_
  obtain rfl := xq3
  refine hG ?_; clear hG G
  refine up (wpAny_bind (wpAny_standAt (tail_any (ops := [.ref s3.heap.objs.size,.ref b]) (Heap.IsList.typeIs (s := { s3 with heap := s3.heap.push { cls := .type "slice",data := .fields #[vl,vh,.none] } }) (hb.push _)) slot_list_getitem.lookup ?_ rfl)))
  exact wpAny_mono (o_slice h4 r1' (r2.mono le3) r3 ex hs (Nat.le_trans hz big_le) (Heap.IsSliceOf.new ..) q3) (fun U U p => Post.from (PM.le_trans le1 (PM.le_trans le2 le3)) p) fun U U e => e
 ·exact q3.elim
noncomputable def plainBase (e:Expr):Bool := notN 16 e
theorem base_plain {o:Expr} (h:plainBase o = true) (x:Str) (env:Env) (w:Sem Value):attributeBase o x env w = w := by
 cases o <;> first | rfl | cases h
theorem elt_attr {C:Addr} {a:Expr} {k:Nat} {name:Str} {pos:Pos} {TA:TE} (hp:plainBase a = true) (c:ClsOk W.K C) (hn:tbl[k]? = some name) (ha:EltOk W A fm a TA) :
  EltOk W A fm (.Attribute a name pos) (fun l Q H => TA l (fun x H => (match x with
  | .obj C' d => C' = C∧(match H d with
   | some (.rcd fs) => oget fs[k]? fun v => Q v H
   | _ => False)
  | _ => False)) H) := fun {F P l H s E Q} h q => by
 show wk _ _ (attributeBase a name fm.env (eval a fm.env) >>= fun o => standAt pos.atName >>= fun U => holding [o] (getAttr o name true) >>= fun r => letTemporaryGo a o r >>= fun U => pure r) _ _ _
 rw [base_plain hp]
 refine wk_bind (wk_mono (ha h q) (fun vx s1 p => p.el fun F1 x H1 le1 h1 r1 q1 => wk_bind (wk_standAt (wk_bind (wk_holding ?_)))) fun U U e => e)
 refine ex2_2 (mObj q1) fun C' d ex eC q1 => ?_
 refine ex1_1 (mRcd q1) fun fs eH q1 => ?_
 refine ex1_1 (oget_ex q1) fun v hv q2 => ?_
 subst ex eC
 exact wk_mono (up (o_attr h1 c r1 eH hn hv q2)) (fun U U p => wk_bind (up (wpAny_letTemporaryGo (wk_pure (Post.from le1 p))))) fun U U e => e
end
section
variable {W:Wd} {F P PL PI:PM} {H:Hp} {s:Shared} {A:Around} {E:Value→Shared→Prop} {fm:Fm} {l:Loc} {m:Str→Option Value}
theorem elt_callG {fn:Expr} {fv:Value} {es:List Expr} {pos:Pos} {T:TEs} {R:List V→(V→Hp→Prop)→Hp→Prop} (hp:plainBase fn = true) (hat:∀ o x p,fn ≠ .Attribute o x p) (hn:noStar es = true)
  (hf:∀ {F P l H s} {E:Value→Shared→Prop} {Q:Value→Shared→Prop},FSt W F P fm l H s→Q fv s→wk (model W.prog W.w) A (eval fn fm.env) Q E s)
  (hk:∀ {F P l H s},FSt W F P fm l H s→∃ k,(k = .frame ∨ k = .machine)∧KeptBy (model W.prog W.w) A fv k s) (he:EltsOk W A fm es T)
  (k:∀ {F P l H s E Q vs xs},FSt W F P fm l H s→VRs F xs vs→R xs Q H→wk (model W.prog W.w) A (call fv vs) (Post W P fm l F Q) E s) :
  EltOk W A fm (.Call fn es [] pos) (fun l Q H => T l (fun xs H => R xs Q H) H) := fun {F P l H s E Q} h q => by
 have e:eval (.Call fn es [] pos) fm.env = (eval fn fm.env >>= fun f => callWith pos f [] (backTo pos (starEach es fm.env)) (backToKw pos (keywordEach [] fm.env))) := by
  cases fn <;> first | rfl | exact absurd rfl (hat _ _ _)
 rw [e]
 refine wk_bind (hf h (wk_callWith (noStar_any hn) (wk_mono (he h q) (fun vs s1 p => lenVs_el p fun U F1 xs H1 le1 h1 r1 q1 => ⟨hk h1,?_⟩) fun U U e => e)))
 exact wk_mono (k h1 r1 q1) (fun U U p => Post.from le1 p) fun U U e => e
theorem elt_call {x:Str} {p2 pos:Pos} {fa:Addr} {d:Nat} {sp:SpecT} {es:List Expr} {T:TEs} (hk:fm.env.kindOf x = some .globalImplicit) (hd:(x == ("__debug__":Str)) = false) (hg:nsIn W.K mainGlobals x = some (some (.ref fa)))
  (ho:∃ o fd,W.hb.get? fa = some o∧o.data = .func fd) (hf:FnOk W sp fa d) (hr:Room A d) (hn:noStar es = true) (he:EltsOk W A fm es T) :
  EltOk W A fm (.Call (.Name x p2) es [] pos) (fun l Q H => T l (fun vs H => sp vs H Q) H) :=
 elt_callG (R := fun vs Q H => sp vs H Q) rfl (fun U U U e => by cases e) hn (fun h q => up (o_global h hk hd hg q)) (fun h => by
  refine og fun G hG => ?_
  refine ex2_0 h fun PL m f => ?_
  refine ex2_1 ho fun o fd ho hd => ?_
  refine hG ?_; clear hG G
  exact (in1_1 _ (.inl rfl) (kept_fn (f.hs.keepB _ _ ho) hd))) he fun h r q => o_call h hf hr r q
theorem elt_new {x:Str} {p2 pos:Pos} {C fI:Addr} {d:Nat} {sp:SpecT} {es:List Expr} {T:TEs} (hk:fm.env.kindOf x = some .globalImplicit) (hd:(x == ("__debug__":Str)) = false) (hg:nsIn W.K mainGlobals x = some (some (.ref C)))
  (c:ClsOk W.K C) (hi:findIn W.K (.ref C) "__init__" = some (some (.ref fI))) (ht:typeIn W.K (.ref fI) = some (.type "function")) (hf:FnOk W sp fI d) (hr:RoomB A d) (hn:noStar es = true) (he:EltsOk W A fm es T) :
  EltOk W A fm (.Call (.Name x p2) es [] pos) (fun l Q H => T l (fun vs H => ∀ d,H d = none→sp (.obj C d :: vs) (H.set d (.rcd (List.replicate 7 none))) (fun r H => r = .none∧Q (.obj C d) H)) H) :=
 elt_callG (R := fun vs Q H => ∀ d,H d = none→sp (.obj C d :: vs) (H.set d (.rcd (List.replicate 7 none))) (fun r H => r = .none∧Q (.obj C d) H)) rfl (fun U U U e => by cases e) hn (fun h q => up (o_global h hk hd hg q)) (fun h => by
  refine og fun G hG => ?_
  refine ex2_0 h fun PL m f => ?_; clear h
  obtain ⟨⟨oc,od,cd,sl,hC,e1,e2,e4⟩,made,base,self,top,call,typ⟩ := makes_of (M := model W.prog W.w) f.hs.K c.makes
  refine hG ?_; clear hG G
  exact (in1_1 _ (.inr rfl) (kept_cls hC call))) he fun h r q => o_new h c.makes hi ht hf hr r q
theorem elt_bi {x:Str} {p2 pos:Pos} {b:Bi} {es:List Expr} {T:TEs} (hh:A.handled = none) (hk:fm.env.kindOf x = some .globalImplicit) (hd:(x == ("__debug__":Str)) = false) (hg:nsIn W.K mainGlobals x = some none) (hv:bootBuiltins x = some (biV b)) (hnm:x ≠ "__name__")
  (hn:noStar es = true) (he:EltsOk W A fm es T):EltOk W A fm (.Call (.Name x p2) es [] pos) (fun l Q H => T l (fun vs H => biW b vs Q H) H) :=
 elt_callG (R := fun vs Q H => biW b vs Q H) rfl (fun U U U e => by cases e) hn (fun h q => up (o_builtin h hk hd hg hv hnm q)) (fun h => by cases b <;> first | exact (in1_1 _ (.inr rfl) kept_builtin) | exact (in1_1 _ (.inr rfl) kept_type)) he
  fun h r q => o_bi hh h r q
theorem elt_methG {o:Expr} {name:Str} {es:List Expr} {apos pos:Pos} {TA:TE} {T:TEs} {ι:Type} (C:ι→V→Hp→Prop) (R:ι→V→List V→(V→Hp→Prop)→Hp→Prop) {S:Loc→V→(V→Hp→Prop)→Hp→Prop} (hS:∀ {l x Q H},S l x Q H→∃ i,C i x H∧T l (fun xs H => R i x xs Q H) H) (hp:plainBase o = true) (hn:noStar es = true) (hl:apos.endLine == pos.line) (hlen:es.length < 20)
  (ha:EltOk W A fm o TA) (he:EltsOk W A fm es T)
  (k:∀ {F P l H s vx x i} {E:Value→Shared→Prop} {Q:Value × List Value→Shared→Prop},FSt W F P fm l H s→VR F x vx→C i x H →
   (∀ fv,(∀ {F P l H s},FSt W F P fm l H s→∃ k,(k = .frame ∨ k = .machine)∧KeptBy (model W.prog W.w) A fv k s) →
    (∀ {F' l H' s E Q vs xs},F.le F'→FSt W F' P fm l H' s→VRs F' xs vs→R i x xs Q H'→wk (model W.prog W.w) A (call fv (vx :: vs)) (Post W P fm l F' Q) E s)→Q (fv,[vx]) s) →
   wk (model W.prog W.w) A (getMethod vx name (do return (← importBound o fm.env).getD true)) Q E s) :
  EltOk W A fm (.Call (.Attribute o name apos) es [] pos) (fun l Q H => TA l (fun x H => S l x Q H) H) := fun {F P l H s E Q} h q => by
 show wk _ _ (attributeBase o name fm.env (eval o fm.env) >>= fun ov => standAt apos.atName >>= fun U => methodCall o name apos pos fm.env ov (es.length + 0) (backTo pos (starEach es fm.env)) []) _ _ _
 rw [base_plain hp]
 refine wk_bind (wk_mono (ha h q) (fun vx s1 p => p.el fun F1 x H1 le1 h1 r1 q1 => wk_bind (wk_standAt ?_)) fun U U e => e)
 refine ex1_1 (hS q1) fun i q0 q1 => ?_
 have hform:methodCallForm (es.length + 0) (backTo pos (starEach es fm.env)) [] = true := by
  unfold methodCallForm
  have h1:(backTo pos (starEach es fm.env)).all (!·.1) = true := by
   have := noStar_any (env := fm.env) (pos := pos) hn
   rw [List.all_eq_true]
   intro y hy
   rw [List.any_eq_false] at this
   simpa using this y hy
  rw [h1]
  simp; lia
 unfold methodCall
 rw [hform]
 show wk _ _ (holding [vx] (getMethod vx name (do return (← importBound o fm.env).getD true)) >>= fun ff => methodCallPos true o fm.env apos pos >>= fun cp => callWith cp ff.1 ff.2 (backTo pos (starEach es fm.env)) []) _ _ _
 refine wk_bind (wk_holding (k h1 r1 q0 (fun fv hkept hcall => ?_)))
 have hpos:methodCallPos true o fm.env apos pos = pure pos := by unfold methodCallPos; rw [hl]; rfl
 rw [hpos]
 refine wk_bind (wk_pure (wk_callWith (noStar_any hn) (wk_mono (he h1 q1) (fun vs s2 p => lenVs_el p fun U F2 xs H2 le2 h2 r2 q2 => ⟨hkept h2,?_⟩) fun U U e => e)))
 exact wk_mono (hcall le2 h2 r2 q2) (fun U U p => Post.from (PM.le_trans le1 le2) p) fun U U e => e
theorem elt_meth {o:Expr} {name:Str} {es:List Expr} {apos pos:Pos} {TA:TE} {T:TEs} {C fa:Addr} {d:Nat} {sp:SpecT} (hp:plainBase o = true) (hn:noStar es = true) (hl:apos.endLine == pos.line) (hlen:es.length < 20)
  (c:ClsOk W.K C) (hfi:findIn W.K (.ref C) name = some (some (.ref fa))) (ht:typeIn W.K (.ref fa) = some (.type "function")) (hno:tbl.findIdx? (· == name) = none)
  (ho:∃ o fd,W.hb.get? fa = some o∧o.data = .func fd) (hf:FnOk W sp fa d) (hr:Room A d) (ha:EltOk W A fm o TA) (he:EltsOk W A fm es T) :
  EltOk W A fm (.Call (.Attribute o name apos) es [] pos) (fun l Q H => TA l (fun x H => (match x with
  | .obj C' d => C' = C∧(∃ fs,H d = some (.rcd fs))∧T l (fun vs H => sp (.obj C' d :: vs) H Q) H
  | _ => False)) H) :=
 elt_methG (fun (_:Unit) x H => ∃ d fs,x = .obj C d∧H d = some (.rcd fs)) (fun U x xs Q H => sp (x :: xs) H Q) (S := fun l x Q H => (match x with
  | .obj C' d => C' = C∧(∃ fs,H d = some (.rcd fs))∧T l (fun vs H => sp (.obj C' d :: vs) H Q) H
  | _ => False)) (fun {l x Q H} q => by
   cases x <;> first | exact q.elim | skip
   refine og fun G hG => ?_
   obtain ⟨rfl,⟨fs,e⟩,q⟩ := q
   refine hG ?_; clear hG G
   exact (in1_1 () (in2_1 _ fs rfl e) q)) hp hn hl hlen ha he (fun {F P l H s vx x i E Q} h1 r1 q1 hQ => by
  refine og fun G hG => ?_
  apply ex2_1 q1; intro d fs xq1 eH
  obtain rfl := xq1
  refine hG ?_; clear hG G
  refine up (o_method h1 c r1 eH hfi ht hno (hQ _ (fun h => ?_) fun le h2 r2 q2 => o_call h2 hf hr (.cons (r1.mono le) r2) q2))
  refine og fun G hG => ?_
  apply ex2_0 h; intro PL m f
  apply ex2_1 ho; intro o fd ho hd
  refine hG ?_; clear hG G
  exact (in1_1 _ (.inl rfl) (kept_fn (f.hs.keepB _ _ ho) hd)))
theorem ba_plainAttrs:PlainAttrs "bytearray" :=
 ⟨(in1_1 ("bytearray.__getattribute__") (by rw [typeLookup_type,builtinLookup_eq_fast]; kernel_rfl) (by decide +kernel)),by rw [typeLookup_type,builtinLookup_eq_fast]; kernel_rfl⟩
theorem app_at {x:V} {t:Bool} (e:appKind H x = some t):∃ a,x = .ref a∧((t = true∧∃ xs,H a = some (.list xs)) ∨ (t = false∧∃ bs,H a = some (.barr bs))) := by
 cases x <;> first | exact (in1_1 _ rfl (mApp e)) | cases e
theorem appW_list {a:Addr} {y:V} {xs:List V} {Q:V→Hp→Prop} (e:H a = some (.list xs)) (q:appendW (.ref a) y Q H):xs.length < big∧Q .none (H.set a (.list (xs ++ [y]))) := by
 unfold appendW at q
 dsimp only at q
 rw [e] at q
 exact q
theorem appW_barr {a:Addr} {y:V} {bs:Array UInt8} {Q:V→Hp→Prop} (e:H a = some (.barr bs)) (q:appendW (.ref a) y Q H):∃ i,y = .int i∧(0 ≤ i∧i < 256∧bs.size < big)∧Q .none (H.set a (.barr (bs.push (UInt8.ofNat i.toNat)))) := by
 unfold appendW at q
 dsimp only at q
 rw [e] at q
 cases y <;> first | exact q.elim | exact (in1_1 _ rfl q)
theorem app_run {a:Addr} {y:V} {vy:Value} {bs:Array UInt8} {Q:V→Hp→Prop} (h:FSt W F P fm l H s) (r:VR F y vy) (e:H a = some (.barr bs)) (q:appendW (.ref a) y Q H):wk (model W.prog W.w) A (call (.builtin "bytearray.append") [.ref a,vy]) (Post W P fm l F Q) E s := by
 obtain ⟨i,rfl,⟨b0,b1,b2⟩,q⟩ := appW_barr e q
 obtain ⟨t,rfl⟩ := r.intI
 refine h.el fun PL m f => ?_
 obtain ⟨o,ho,hc,hd⟩ := barr_at f.hs e
 exact wk_bappend ho hc hd ⟨b0,b1⟩ (Nat.lt_of_lt_of_le b2 big_le) (fun h' o' h1 h2 h3 h4 => (in3_3 _ _ _ (PM.le_refl _) (f.turn e h4 h1 (.barr h2 h3) npB) .none q))
theorem elt_append {o v:Expr} {apos pos:Pos} {TA TV:TE} (hp:plainBase o = true) (hn:noStar [v] = true) (hl:apos.endLine == pos.line) (ha:EltOk W A fm o TA) (hv:EltOk W A fm v TV) :
  EltOk W A fm (.Call (.Attribute o "append" apos) [v] [] pos) (fun l Q H => TA l (fun x H => ∃ t,appKind H x = some t∧TV l (fun y H => appKind H x = some t∧appendW x y Q H) H) H) :=
 elt_methG (fun (t:Bool) x H => appKind H x = some t) (fun t x xs Q H => oneV xs fun y => appKind H x = some t∧appendW x y Q H)
  (S := fun l x Q H => ∃ t,appKind H x = some t∧TV l (fun y H => appKind H x = some t∧appendW x y Q H) H) (T := fun l Q H => TV l (fun x H => Q [x] H) H) (fun {l x Q H} ⟨t,e,q⟩ => ⟨t,e,q⟩) hp hn hl (Nat.lt_of_sub_eq_succ rfl) ha (elts_cons hn hv elts_nil)
  (fun {F P l H s vx x t E Q} h1 r1 q1 hQ => by
   apply ex1_1 (app_at q1); intro a xq2 hc
   obtain rfl := xq2
   obtain rfl := r1.refI
   refine h1.el fun PL m f => ?_
   rcases hc with ⟨rfl,xs,eH⟩ | ⟨rfl,bs,eH⟩
   ·apply ex3_3 (cell_list f.hs eH); intro o its n ho hc hd _
    refine up (getMethod_list_append ho hc.1 hc.2 (hQ _ (fun U => ⟨_,.inr rfl,kept_builtin⟩) fun le h2 r2 q2 => ?_))
    obtain ⟨y,rfl,e2,q2⟩ := one_inv q2
    obtain ⟨vy,rfl,ry⟩ := r2.oneI
    obtain ⟨a',ea,hc'⟩ := app_at e2
    cases ea
    rcases hc' with ⟨_,xs2,eH2⟩ | ⟨h,_⟩
    ·have q2 := appW_list eH2 q2
     exact up (o_append (a := .none) (va := .none) h2 ry eH2 q2.1 q2.2)
    ·cases h
   ·apply ex1_2 (barr_at f.hs eH); intro o ho hc hd
    refine up (getMethod_builtin (ba_typeIs ho hc.1) ba_plainAttrs ba_slot_append ba_append_type (fun a e => by cases e; exact ⟨o,ho,hc.2⟩) (hQ _ (fun U => ⟨_,.inr rfl,kept_builtin⟩) fun le h2 r2 q2 => ?_))
    obtain ⟨y,rfl,e2,q2⟩ := one_inv q2
    obtain ⟨vy,rfl,ry⟩ := r2.oneI
    obtain ⟨a',ea,hc'⟩ := app_at e2
    cases ea
    rcases hc' with ⟨h,_⟩ | ⟨_,bs2,eH2⟩
    ·cases h
    ·exact app_run h2 ry eH2 q2)
theorem lc_extend {l b:Addr} {o:Obj} {its its2:Array Value} {n:Nat} {Q:Value→Shared→Prop} (ho:s.heap.get? l = some o) (hc:LC o) (hd:o.data = .seq its n) (hb:s.heap.IsList b its2) (hz:its.size + its2.size ≤ big)
  (hQ:∀ h' o' n',h'.get? l = some o'→LC o'→o'.data = .seq (its ++ its2) n'→Heap.SameBut l s.heap h'→Q .none { s with heap := h' }) :
  wpAny (model W.prog W.w) A (call (.builtin "list.extend") [.ref l,.ref b]) Q E s := by
 refine og fun G hG => ?_
 refine ex1_2 hb fun ob hob hcb xq3 => ?_; clear hb
 refine ex1_0 xq3 fun nb hdb => ?_; clear xq3
 refine ex1_0 (Obj.data_mapSeq hd (· ++ its2)) fun n' hd' => ?_
 refine hG ?_; clear hG G
 have hzz := big_le
 refine wpAny_call_entry F.slot_list_extend (in1_1 o ho hc.1) F.entry_list_extend ?_ (F.args_list_extend_2 _ _)
 show wpAny _ _ (Builtin.List.listExtendWith (.ref l) (.ref b) .none) _ _ s
 unfold Builtin.List.listExtendWith
 refine wpAny_bind (Looks.here (show Looks _ s.heap (typeOf (.ref b)) ob.cls from (Looks.ld hob).andThen .now) ?_)
 rw [hcb]
 have e1:(Builtin.List.listSameRef (.ref l) (.ref b) || (Value.type "list" == Value.type "list") || (Value.type "list" == Value.type "tuple")) = true := by
  rw [show (Value.type "list" == Value.type "list") = true from by decide +kernel]; simp
 rw [if_pos e1]
 refine wpAny_bind (listItems_at hob hdb (wpAny_bind (listItems_at ho hd ?_)))
 have e2:(!its.isEmpty && Builtin.List.listTooLong (its.size + its2.size)) = false := by
  unfold Builtin.List.listTooLong
  rw [decide_eq_false (by lia),Bool.and_false]
 rw [e2]
 simp only [Bool.false_eq_true,if_false]
 refine wpAny_bind (listUpdate_at ho hd ?_ (by lia) (by rw [Array.size_append]; lia))
 exact wpAny_pure (in1_1 _ rfl (hQ _ _ n' (Heap.get?_update_self _ ho (Obj.isFreed_of_seq hd')) (lc_map hc) hd' (Heap.SameBut.update ..)))
theorem extendW_inv {a:Addr} {y:V} {Q:V→Hp→Prop} (q:extendW (.ref a) y Q H):∃ ys xs,y = .lst ys∧H a = some (.list xs)∧xs.length + ys.length ≤ big∧Q .none (H.set a (.list (xs ++ ys))) := by
 cases y <;> first | exact q.elim | skip
 exact ex1_2 (mListP q) fun xs e q1 q2 => (in2_3 _ xs rfl e q1 q2)
theorem elt_extend {o v:Expr} {apos pos:Pos} {TA TV:TE} (hp:plainBase o = true) (hn:noStar [v] = true) (hl:apos.endLine == pos.line) (ha:EltOk W A fm o TA) (hv:EltOk W A fm v TV) :
  EltOk W A fm (.Call (.Attribute o "extend" apos) [v] [] pos) (fun l Q H => TA l (fun x H => appKind H x = some true∧TV l (fun y H => extendW x y Q H) H) H) :=
 elt_methG (fun (_:Unit) x H => appKind H x = some true) (fun U x xs Q H => oneV xs fun y => extendW x y Q H)
  (S := fun l x Q H => appKind H x = some true∧TV l (fun y H => extendW x y Q H) H) (T := fun l Q H => TV l (fun x H => Q [x] H) H) (fun {l x Q H} ⟨e,q⟩ => (in1_1 () e q)) hp hn hl (Nat.lt_of_sub_eq_succ rfl) ha (elts_cons hn hv elts_nil)
  (fun {F P l H s vx x t E Q} h1 r1 q1 hQ => by
   apply ex1_1 (app_at q1); intro a xq4 hc
   obtain rfl := xq4
   cases r1
   have h0 := h1
   apply ex2_0 h0; intro PL m f; clear h0
   rcases hc with ⟨_,xs,eH⟩ | ⟨e,_⟩
   ·apply ex3_3 (cell_list f.hs eH); intro o its n ho hc hd _
    refine up (getMethod_builtin (in1_1 o ho hc.1) PySem.F.plainAttrs_list PySem.F.slot_list_extend PySem.F.type_list_extend (fun a e => by cases e; exact (in1_1 o ho hc.2)) (hQ _ (fun U => (in1_1 _ (.inr rfl) kept_builtin)) fun le h2 r2 q2 => ?_))
    apply ex1_1 (one_inv q2); intro y xq5 q2
    obtain rfl := xq5
    apply ex1_1 r2.oneI; intro vy xq6 ry
    obtain rfl := xq6
    ·refine og fun G hG => ?_
     obtain ⟨ys,xs2,rfl,eH2,q1,q2⟩ := extendW_inv q2
     obtain ⟨PL2,m2,f2⟩ := h2
     obtain ⟨o2,its2,n2,ho2,hc2,hd2,r3⟩ := cell_list f2.hs eH2
     obtain ⟨b,itsb,rfl,hb,rb⟩ := list_at f2.hs ry rfl
     refine hG ?_; clear hG G
     have l1:xs2.length = its2.size := r3.length.trans Array.length_toList
     have l2:ys.length = itsb.size := rb.length.trans Array.length_toList
     refine up (lc_extend ho2 hc2 hd2 hb (by lia) (fun h' o' n' ho' hc' hd' hs => ?_))
     exact (in3_3 _ _ _ (PM.le_refl _) (f2.turn eH2 hs ho' (.list hc' hd' (by rw [Array.toList_append]; exact r3.append rb)) npL) .none q2)
   ·cases e)
end
end
section
open PySem PySem.W PyProof.Rows PySem.Calls PySem.Spec
section
variable {W:Wd} {F P PL PI:PM} {H:Hp} {s:Shared} {A:Around} {E:Value→Shared→Prop} {fm:Fm} {l:Loc} {m:Str→Option Value}
noncomputable def BoolOk (W:Wd) (A:Around) (fm:Fm) (op:BoolOp) (es:List Expr) (T:TE):Prop :=
 ∀ {F P:PM} {l:Loc} {H:Hp} {s:Shared} {E:Value→Shared→Prop} {Q:V→Hp→Prop} {pos:Pos},FSt W F P fm l H s→T l Q H →
  wk (model W.prog W.w) A (boolOp pos op (evalEach es fm.env)) (Post W P fm l F Q) E s
noncomputable def AllOk (W:Wd) (A:Around) (fm:Fm) (op:BoolOp) (es:List Expr) (T:TB):Prop :=
 ∀ {F P:PM} {l:Loc} {H:Hp} {s:Shared} {E:Value→Shared→Prop} {Q:Bool→Hp→Prop},FSt W F P fm l H s→T l Q H →
  wk (model W.prog W.w) A (allTrue op es fm.env) (PostB W P fm l F Q) E s
theorem truth_inv {x:V} {rv:Value} {Q:Bool→Prop} (r:VR F x rv) (q:truthW x Q):∃ b,x = .bool b∧rv = .bool b∧Q b := by
 cases r <;> first | exact q.elim | exact (in1_2 _ rfl rfl q)
theorem truth_dup {x:V} {Q:Bool→Prop}:(truthW x fun U => truthW x Q) = truthW x Q := by cases x <;> rfl
theorem bool_one {op:BoolOp} {e:Expr} {T:TE} (h:EltOk W A fm e T):BoolOk W A fm op [e] (fun l Q H => T l (fun x H => truthW x fun U => Q x H) H) := fun {F P l H s E Q pos} hf q => by
 refine wk_mono (h hf q) (fun v s1 p => p.el fun F1 x H1 le h1 r q1 => (in3_3 F1 x H1 le h1 r ?_)) fun U U e => e
 cases x <;> first | exact q1.elim | exact q1
theorem and_cons {e e2:Expr} {r:List Expr} {T TR:TE} (h:EltOk W A fm e T) (hr:BoolOk W A fm .And (e2 :: r) TR) :
  BoolOk W A fm .And (e :: e2 :: r) (fun l Q H => T l (fun x H => truthW x fun t => match t with
  | true => TR l Q H
  | false => Q (.bool false) H) H) := fun {F P l H s E Q pos} hf q => by
 show wk _ _ (eval e fm.env >>= fun v => standAt pos >>= fun U => holding [v] (truthy v) >>= fun t => match BoolOp.And,t with
  | .And,false | .Or,true => pure v
  | _,_ => boolOp pos .And (evalEach (e2 :: r) fm.env)) _ _ _
 refine wk_bind (wk_mono (h hf q) (fun v s1 p => p.el fun F1 x H1 le h1 rr q1 => wk_bind (wk_standAt (wk_bind (wk_holding ?_)))) fun U U e => e)
 refine og fun G hG => ?_
 refine ex1_2 (truth_inv rr q1) fun b xq1 xq2 q1 => ?_
 obtain rfl := xq1
 obtain rfl := xq2
 refine hG ?_; clear hG G
 refine up (wpAny_truthy_bool ?_)
 cases b with
 | false => exact wk_pure (in3_3 F1 _ H1 le h1 .bool q1)
 | true => exact wk_mono (hr h1 q1) (fun U U p => Post.from le p) fun U U e => e
theorem or_cons {e e2:Expr} {r:List Expr} {T TR:TE} (h:EltOk W A fm e T) (hr:BoolOk W A fm .Or (e2 :: r) TR) :
  BoolOk W A fm .Or (e :: e2 :: r) (fun l Q H => T l (fun x H => truthW x fun t => match t with
  | true => Q (.bool true) H
  | false => TR l Q H) H) := fun {F P l H s E Q pos} hf q => by
 show wk _ _ (eval e fm.env >>= fun v => standAt pos >>= fun U => holding [v] (truthy v) >>= fun t => match BoolOp.Or,t with
  | .And,false | .Or,true => pure v
  | _,_ => boolOp pos .Or (evalEach (e2 :: r) fm.env)) _ _ _
 refine wk_bind (wk_mono (h hf q) (fun v s1 p => p.el fun F1 x H1 le h1 rr q1 => wk_bind (wk_standAt (wk_bind (wk_holding ?_)))) fun U U e => e)
 refine og fun G hG => ?_
 refine ex1_2 (truth_inv rr q1) fun b xq3 xq4 q1 => ?_
 obtain rfl := xq3
 obtain rfl := xq4
 refine hG ?_; clear hG G
 refine up (wpAny_truthy_bool ?_)
 cases b with
 | true => exact wk_pure (in3_3 F1 _ H1 le h1 .bool q1)
 | false => exact wk_mono (hr h1 q1) (fun U U p => Post.from le p) fun U U e => e
theorem elt_bool_op {op:BoolOp} {es:List Expr} {pos:Pos} {T:TE} (h:BoolOk W A fm op es T):EltOk W A fm (.BoolOp op es pos) T := fun hf q => h hf q
theorem test_bool_op {op:BoolOp} {es:List Expr} {pos:Pos} {T:TB} (h:AllOk W A fm op es T):TestOk W A fm (.BoolOp op es pos) T := fun hf q => h hf q
theorem all_one_and {e:Expr} {T:TE} (h:TestOk W A fm e (tr T)):AllOk W A fm .And [e] (tr fun l Q H => T l (fun x H => truthW x fun U => Q x H) H) := fun {F P l H s E Q} hf q => by
 have q':tr T l Q H := by
  have q:T l (fun x H => truthW x fun U => truthW x fun b => Q b H) H := q
  simp only [truth_dup] at q
  exact q
 show wk _ _ (isTrue e fm.env (eval e fm.env) >>= fun t => match BoolOp.And,t with
  | .And,false => pure false
  | .Or,true => pure true
  | _,_ => allTrue .And [] fm.env) _ _ _
 refine wk_bind (wk_mono (h hf q') (fun b s1 p => p.el fun F1 H1 le h1 q1 => ?_) fun U U e => e)
 cases b <;> exact wk_pure (in2_2 F1 H1 le h1 q1)
theorem all_one_or {e:Expr} {T:TE} (h:TestOk W A fm e (tr T)):AllOk W A fm .Or [e] (tr fun l Q H => T l (fun x H => truthW x fun U => Q x H) H) := fun {F P l H s E Q} hf q => by
 have q':tr T l Q H := by
  have q:T l (fun x H => truthW x fun U => truthW x fun b => Q b H) H := q
  simp only [truth_dup] at q
  exact q
 show wk _ _ (isTrue e fm.env (eval e fm.env) >>= fun t => match BoolOp.Or,t with
  | .And,false => pure false
  | .Or,true => pure true
  | _,_ => allTrue .Or [] fm.env) _ _ _
 refine wk_bind (wk_mono (h hf q') (fun b s1 p => p.el fun F1 H1 le h1 q1 => ?_) fun U U e => e)
 cases b <;> exact wk_pure (in2_2 F1 H1 le h1 q1)
theorem all_cons_and {e e2:Expr} {r:List Expr} {T TR:TE} (h:TestOk W A fm e (tr T)) (hr:AllOk W A fm .And (e2 :: r) (tr TR)) :
  AllOk W A fm .And (e :: e2 :: r) (tr fun l Q H => T l (fun x H => truthW x fun t => match t with
  | true => TR l Q H
  | false => Q (.bool false) H) H) := fun {F P l H s E Q} hf q => by
 show wk _ _ (isTrue e fm.env (eval e fm.env) >>= fun t => match BoolOp.And,t with
  | .And,false => pure false
  | .Or,true => pure true
  | _,_ => allTrue .And (e2 :: r) fm.env) _ _ _
 refine wk_bind (wk_mono (h (Q := fun t H => match t with
  | true => tr TR l Q H
  | false => Q false H) hf q) (fun b s1 p => p.el fun F1 H1 le h1 q1 => ?_) fun U U e => e)
 cases b with
 | false => exact wk_pure (in2_2 F1 H1 le h1 q1)
 | true => exact wk_mono (hr h1 q1) (fun U U p => PostB.from le p) fun U U e => e
theorem all_cons_or {e e2:Expr} {r:List Expr} {T TR:TE} (h:TestOk W A fm e (tr T)) (hr:AllOk W A fm .Or (e2 :: r) (tr TR)) :
  AllOk W A fm .Or (e :: e2 :: r) (tr fun l Q H => T l (fun x H => truthW x fun t => match t with
  | true => Q (.bool true) H
  | false => TR l Q H) H) := fun {F P l H s E Q} hf q => by
 show wk _ _ (isTrue e fm.env (eval e fm.env) >>= fun t => match BoolOp.Or,t with
  | .And,false => pure false
  | .Or,true => pure true
  | _,_ => allTrue .Or (e2 :: r) fm.env) _ _ _
 refine wk_bind (wk_mono (h (Q := fun t H => match t with
  | true => Q true H
  | false => tr TR l Q H) hf q) (fun b s1 p => p.el fun F1 H1 le h1 q1 => ?_) fun U U e => e)
 cases b with
 | true => exact wk_pure (in2_2 F1 H1 le h1 q1)
 | false => exact wk_mono (hr h1 q1) (fun U U p => PostB.from le p) fun U U e => e
noncomputable def V.dat:V→PyData
 | .int i => .int i
 | .tup xs => .tuple (((intsOf xs).getD []).map .int)
 | _ => .none
set_option tactic.hygienic true in
theorem ints_reads:∀ {xs:List V} {vs:List Value} {is:List Int},VRs F xs vs→intsOf xs = some is→∃ as,ReadsAll s.heap vs (is.map PyData.int) as := by
 intro xs
 induction xs with
 | nil => intro vs is r h; cases r; cases h; exact (in1_0 _ ReadsAll.nil)
 | cons v xs ih =>
  intro vs is r h
  cases v <;> try (cases h; done)
  rename_i i
  have h:(intsOf xs).map (i :: ·) = some is := h
  cases q:intsOf xs with
  | none => rw [q] at h; cases h
  | some js =>
   rw [q] at h
   cases h
   cases r with
   | cons a r =>
    cases a
    refine ex1_0 (ih r q) fun bs p => ?_
    exact (in1_0 _ (ReadsAll.cons (Reads.int i _) p))
set_option tactic.hygienic true in
theorem plain_reads (hF:∀ a o,F a = some o→s.heap.get? a = some o):∀ {xs:List V} {vs:List Value},VRs F xs vs→V.plains xs = true→∃ as,ReadsAll s.heap vs (xs.map V.dat) as := by
 intro xs
 induction xs with
 | nil => intro vs r h; cases r; exact (in1_0 _ ReadsAll.nil)
 | cons v xs ih =>
  intro vs r h
  refine ex0_1 (Bool.and_eq_true_iff.mp (show (v.plain && V.plains xs) = true from h)) fun h1 h2 => ?_
  cases r with
  | cons a r =>
   refine ex1_0 (ih r h2) fun bs p => ?_
   cases v <;> try (cases h1; done)
   ·cases a; exact (in1_0 _ (ReadsAll.cons (Reads.int _ _) p))
   ·rename_i ys
    refine ex1_0 (Option.isSome_iff_exists.mp (show (intsOf ys).isSome = true from h1)) fun is hi => ?_
    cases a with
    | tup e ry =>
     refine ex1_0 (ints_reads (s := s) ry hi) fun as q => ?_
     have e1:V.dat (.tup ys) = .tuple (is.map .int) := by show PyData.tuple (((intsOf ys).getD []).map .int) = _; rw [hi]; rfl
     rw [List.map_cons,e1]
     exact (in1_0 _ (ReadsAll.cons (reads_tuple_at (hF _ _ e) rfl rfl (by simpa using q)) p))
theorem dat_lay:∀ {xs:List V},V.plains xs = true→PyData.canLayAll0 (xs.map V.dat) = true∧PyData.depthAll (xs.map V.dat) ≤ 1 := by
 intro xs
 induction xs with
 | nil => intro _; exact ⟨rfl,by decide⟩
 | cons v xs ih =>
  intro h
  refine ex0_1 (Bool.and_eq_true_iff.mp (show (v.plain && V.plains xs) = true from h)) fun h1 h2 => ?_
  refine ex0_1 (ih h2) fun q1 q2 => ?_
  simp only [List.map_cons,PyData.canLayAll0,PyData.depthAll,q1]
  cases v <;> try (cases h1; done)
  ·simp only [V.dat,PyData.canLay0,PyData.depth]; exact ⟨rfl,by assumption⟩
  ·simp only [V.dat,PyData.canLay0,PyData.depth,ke_canLayAll0,ke_depthAll]; exact ⟨rfl,by lia⟩
set_option tactic.hygienic true in
theorem dat_eqv {x y:V} (hx:x.plain = true) (hy:y.plain = true):PyData.eqv x.dat y.dat = x.same y := by
 cases x <;> first | (cases hx; done) | skip
 all_goals cases y <;> first | (cases hy; done) | skip
 ·simp only [V.dat,PyData.eqv,V.same_i]; rw [Bool.eq_iff_iff]; simp
 ·rfl
 ·rfl
 ·rename_i xs ys
  refine ex1_0 (Option.isSome_iff_exists.mp (show (intsOf xs).isSome = true from hx)) fun is hi => ?_
  refine ex1_0 (Option.isSome_iff_exists.mp (show (intsOf ys).isSome = true from hy)) fun js hj => ?_
  simp only [V.dat,PyData.eqv,V.same_t,hi,hj,Option.getD_some,ked_eqvAll,Option.some.injEq]
theorem dat_eqvs:∀ {xs ys:List V},V.plains xs = true→V.plains ys = true→PyData.eqvAll (xs.map V.dat) (ys.map V.dat) = V.sames xs ys := by
 intro xs
 induction xs with
 | nil => intro ys _ _; cases ys <;> rfl
 | cons v xs ih =>
  intro ys h h'
  cases ys with
  | nil => rfl
  | cons w ys =>
   refine ex0_1 (Bool.and_eq_true_iff.mp (show (v.plain && V.plains xs) = true from h)) fun h1 h2 => ?_
   refine ex0_1 (Bool.and_eq_true_iff.mp (show (w.plain && V.plains ys) = true from h')) fun h3 h4 => ?_
   simp only [List.map_cons,PyData.eqvAll,V.sames_c,ih h2 h4,dat_eqv h1 h3]
noncomputable def cmpLop:Bool→CmpOp
 | true => .Eq
 | false => .NotEq
theorem cmpL_rule {e:Bool} (hu:A.units < 9000) {F P l H s E Q vx vy x y} (h:FSt W F P fm l H s) (rx:VR F x vx) (ry:VR F y vy)
  (q:∃ xs ys,asList H x = some xs∧asList H y = some ys∧(V.plains xs = true∧V.plains ys = true)∧Q (.bool (V.sames xs ys == e)) H):wk (model W.prog W.w) A (compareOp (cmpLop e) vx vy) (Post W P fm l F Q) E s := by
 refine og fun G hG => ?_
 refine ex2_3 q fun xs ys ex ey xq5 q => ?_
 obtain ⟨p1,p2⟩ := xq5
 have h0 := h
 refine ex2_0 h0 fun PL m f => ?_
 refine ex2_2 (list_at f.hs rx ex) fun a its xq6 xq7 ra => ?_
 obtain rfl := xq6
 obtain ⟨oa,hoa,hca,na,hda⟩ := xq7
 refine ex2_2 (list_at f.hs ry ey) fun b its2 xq8 xq9 rb => ?_
 obtain rfl := xq8
 obtain ⟨ob,hob,hcb,nb,hdb⟩ := xq9
 refine ex1_0 (plain_reads f.hs.fk ra p1) fun as da => ?_
 refine ex1_0 (plain_reads f.hs.fk rb p2) fun bs db => ?_
 refine hG ?_; clear hG G
 have l1 := dat_lay p1
 have l2 := dat_lay p2
 have ev:PyData.eqv (.list (xs.map V.dat)) (.list (ys.map V.dat)) = V.sames xs ys := by simp only [PyData.eqv]; exact dat_eqvs p1 p2
 have s1:SeqAt.shaped (.list (xs.map V.dat)) = true := by
  unfold SeqAt.shaped; simp only [PyData.canLay0,PyData.depth,l1.1,Bool.true_and]; exact decide_eq_true (by have := l1.2; lia)
 have s2:SeqAt.shaped (.list (ys.map V.dat)) = true := by
  unfold SeqAt.shaped; simp only [PyData.canLay0,PyData.depth,l2.1,Bool.true_and]; exact decide_eq_true (by have := l2.2; lia)
 have hu':A.units + 64 < cLine := by unfold cLine; lia
 cases e with
 | true =>
  rw [show (V.sames xs ys == true) = V.sames xs ys from by simp] at q
  exact up (eq_dataH (reads_list_at hoa hca hda da) (reads_list_at hob hcb hdb db) s1 s2 hu' (by rw [ev]; exact Post.here h .bool q))
 | false =>
  rw [show (V.sames xs ys == false) = !V.sames xs ys from by simp] at q
  exact up (ne_dataH (reads_list_at hoa hca hda da) (reads_list_at hob hcb hdb db) s1 s2 hu' (by rw [ev]; exact Post.here h .bool q))
end
section
variable {W:Wd} {F P PL PI:PM} {H:Hp} {s:Shared} {A:Around} {E:Value→Shared→Prop} {fm:Fm} {l:Loc} {m:Str→Option Value}
noncomputable abbrev kP (W:Wd) := tupleKind (intKind W.prog W.w)
theorem items_are {k:List Int}:∀ {vs:List Value},VRs F (k.map V.int) vs→ItemsAre (intKind W.prog W.w) k vs := by
 induction k with
 | nil => intro vs r; cases r; exact .nil
 | cons i k ih =>
  intro vs r
  cases r with
  | cons a r => cases a; exact .cons (intKind_is W.prog W.w i _) (ih r)
theorem key_is {h:Heap} (hF:∀ a o,F a = some o→h.get? a = some o) {k:List Int} {a:Addr} (r:VR F (.tup (k.map V.int)) (.ref a)):(kP W).is h k a := by
 cases r with
 | tup e r => exact (in3_3 _ _ _ (hF _ _ e) rfl rfl (by simpa using items_are r))
set_option tactic.hygienic true in
theorem pd_xs {h:Heap} (hF:∀ a o,F a = some o→h.get? a = some o) {es:List (List Int × Int)} {des:List DictEntry} (r:PdR F es des):∃ xs:List (List Int × Addr × Value),des = xs.map (entryOfKey (kP W))∧xs.map (·.1) = es.map (·.1) ∧
  (∀ x ∈ xs,(kP W).is h x.1 x.2.1)∧(∀ k i,es.lookup k = some i→∃ p t,atKey xs k = some p∧p.2 = .int i t)∧∀ k,es.lookup k = none→atKey xs k = none := by
 induction es generalizing des with
 | nil => cases r; exact (in1_4 [] rfl rfl (fun x hx => by cases hx) (fun k i h => by cases h) (fun k U => rfl))
 | cons e es ih =>
  cases r with
  | cons a r =>
   rename_i k i des t ad
   refine ex1_4 (ih r) fun xs h1 h2 h3 h4 h5 => ?_
   refine (in1_4 ((k,ad,.int i t) :: xs) (by rw [List.map_cons,h1]; rfl) (by rw [List.map_cons,List.map_cons,h2]) (fun x hx => ?_) (fun k' i' hk => ?_) (fun k' hk => ?_))
   ·rcases List.mem_cons.mp hx with rfl | hx
    ·exact key_is hF a
    ·exact h3 x hx
   ·rw [List.lookup_cons] at hk
    by_cases q:k' = k
    ·subst q
     simp only [beq_self_eq_true] at hk
     cases hk
     exact (in2_1 (ad,.int i t) t (by simp [atKey]) rfl)
    ·rw [show (k' == k) = false from by simpa using q] at hk
     refine ex2_1 (h4 k' i' hk) fun p t' e1 e2 => ?_
     refine (in2_1 p t' ?_ e2)
     unfold atKey at e1 ⊢
     rw [List.find?_cons_of_neg (by simpa using fun e => q e.symm)]; exact e1
   ·rw [List.lookup_cons] at hk
    by_cases q:k' = k
    ·subst q; simp at hk
    ·rw [show (k' == k) = false from by simpa using q] at hk
     have e1 := h5 k' hk
     unfold atKey at e1 ⊢
     rw [List.find?_cons_of_neg (by simpa using fun e => q e.symm)]; exact e1
theorem PdR.snoc {es:List (List Int × Int)} {des:List DictEntry} {k:List Int} {i:Int} {a:Addr} {t:Tok} (r:PdR F es des) (rk:VR F (.tup (k.map V.int)) (.ref a)):PdR F (es ++ [(k,i)]) (des ++ [entryOfKey (kP W) (k,a,.int i t)]) := by
 induction es generalizing des with
 | nil => cases r; exact .cons rk .nil
 | cons e es ih => cases r with | cons a r => exact .cons a (ih r)
theorem units_in1 (hu:A.units < 9000):A.in1.units < cLine := by
 show A.units + _ < 9900
 have:A.in1.units ≤ A.units + 100 := by
  show A.units + _ ≤ A.units + 100
  exact Nat.add_le_add_left (by decide) _
 lia
set_option tactic.hygienic true in
theorem o_pdget {es:List (List Int × Int)} {x y z:Int} {vd vk:Value} {Q:V→Hp→Prop} (hu:A.units < 9000) (h:FSt W F P fm l H s) (rd:VR F (.pd es) vd) (rk:VR F (.tup [.int x,.int y]) vk) (e:es.lookup [x,y] = some z) (q:Q (.int z) H) :
  wpAny (model W.prog W.w) A (getItem vd vk) (Post W P fm l F Q) E s := by
 have h0 := h
 refine ex2_0 h fun PL m f => ?_; clear h
 cases rd with
 | pd eF hc hd r hn hlo =>
  rename_i d o des ep
  have rk':VR F (.tup ([x,y].map V.int)) vk := rk
  cases rk with
  | tup eK rr =>
   rename_i ka n its
   refine og fun G hG => ?_
   refine ex1_4 (pd_xs (W := W) f.hs.fk r) fun xs h1 h2 h3 h4 h5 => ?_
   refine ex2_1 (h4 _ _ e) fun p t e1 e2 => ?_
   refine hG ?_; clear hG G
   refine wpAny_getItem_heap (knd := kP W) (units_in1 hu) (key_is f.hs.fk rk') (in3_5 o des ep (f.hs.fk _ _ eF) hc hd h1 h3 (by rw [h2]; exact hn)) e1 ?_
   rw [e2]; exact Post.here (h0.tok _) .int q
set_option tactic.hygienic true in
theorem o_pdin {es:List (List Int × Int)} {x y:Int} {vd vk:Value} {Q:V→Hp→Prop} (hu:A.units < 9000) (h:FSt W F P fm l H s) (rd:VR F (.pd es) vd) (rk:VR F (.tup [.int x,.int y]) vk) (q:Q (.bool (es.lookup [x,y]).isSome) H) :
  wpAny (model W.prog W.w) A (compareOp .In vk vd) (Post W P fm l F Q) E s := by
 have h0 := h
 refine ex2_0 h fun PL m f => ?_; clear h
 cases rd with
 | pd eF hc hd r hn hlo =>
  rename_i d o des ep
  have rk':VR F (.tup ([x,y].map V.int)) vk := rk
  cases rk with
  | tup eK rr =>
   rename_i ka n its
   refine og fun G hG => ?_
   refine ex1_4 (pd_xs (W := W) f.hs.fk r) fun xs h1 h2 h3 h4 h5 => ?_
   refine hG ?_; clear hG G
   have hg := f.hs.fk _ _ eF
   have lo:(d == sysModules) = false := beq_eq_false_iff_ne.mpr hlo
   refine wpAny_in_heap (knd := kP W) (units_in1 hu) (key_is f.hs.fk rk') lo (in3_5 o des ep hg hc hd h1 h3 (by rw [h2]; exact hn)) ?_
   have:(atKey xs [x,y]).isSome = (es.lookup [x,y]).isSome := by
    cases q2:es.lookup [x,y] with
    | none => rw [h5 _ q2]; rfl
    | some i => obtain ⟨p,t,e1,_⟩ := h4 _ _ q2; rw [e1]; rfl
   rw [this]
   exact Post.here (h0.tok _) .bool q
set_option tactic.hygienic true in
theorem o_pdset {es:List (List Int × Int)} {x y z:Int} {d:Addr} {vk vz:Value} {Q:Hp→Prop} (hu:A.units < 9000) (h:FSt W F P fm l H s) (eH:H d = some (.pdict es)) (rk:VR F (.tup [.int x,.int y]) vk) (rz:VR F (.int z) vz) (hz:es.length < big) (e:es.lookup [x,y] = none) (q:Q (H.set d (.pdict (es ++ [([x,y],z)])))) :
  wpAny (model W.prog W.w) A (setItem (.ref d) vk vz) (fun U s' => ∃ F' H',F.le F'∧FSt W F' P fm l H' s'∧Q H') E s := by
 refine og fun G hG => ?_
 refine ex2_0 h fun PL m f => ?_; clear h
 refine ex1_1 (f.hs.hk _ _ eH) fun o ho hr => ?_
 refine hG ?_; clear hG G
 cases hr with
 | pdict hc hd r hn =>
  rename_i des ep
  have rk':VR F (.tup ([x,y].map V.int)) vk := rk
  cases rk with
  | tup eK rr =>
   rename_i ka n its
   cases rz
   rename_i t
   refine ex1_4 (pd_xs (W := W) f.hs.fk r) fun xs h1 h2 h3 h4 h5 => ?_
   have hl:xs.length = es.length := by simpa using congrArg List.length h2
   refine wpAny_setItem_heap (knd := kP W) (units_in1 hu) (key_is f.hs.fk rk') (in3_5 o des ep ho hc hd h1 h3 (by rw [h2]; exact hn)) (fun h' hm hs => ?_) (by have := big_le; lia)
   rw [storedH_new (h5 _ e)] at hm
   refine ex3_5 hm fun o' es' ep' ho' hc' hd' he' U hn' => ?_; clear hm
   have g := f.turn eH hs ho' (.pdict (es := es ++ [([x,y],z)]) hc' hd' (by rw [he',List.map_append,← h1]; exact r.snoc (W := W) rk') (by
    rw [List.map_append,h2] at hn'; rw [List.map_append]; exact hn')) (fun U U => f.hs.os.2 _ _ eH)
   exact (in2_2 F _ (PM.le_refl F) (FSt.tok g _) q)
theorem SPairs.to {es:List DictEntry} {kvs:List (Str × Value)} (h:SPairs W.w.params es kvs):Pairs (strKind W.prog W.w) es kvs∧∀ e ∈ es,∃ k,(strKind W.prog W.w).is k e.key = true∧e.hash = (strKind W.prog W.w).hash k := by
 induction h with
 | nil => exact ⟨.nil,fun e he => by cases he⟩
 | cons a b c r ih => exact ⟨.cons a c ih.1,fun e he => by
   rcases List.mem_cons.mp he with rfl | he
   ·exact (in1_1 _ a b)
   ·exact ih.2 e he⟩
theorem SPairs.of {es:List DictEntry} {kvs:List (Str × Value)} (h:Pairs (strKind W.prog W.w) es kvs) (hh:∀ e ∈ es,∃ k,(strKind W.prog W.w).is k e.key = true∧e.hash = (strKind W.prog W.w).hash k):SPairs W.w.params es kvs := by
 induction h with
 | nil => exact .nil
 | cons a c r ih =>
  refine .cons a ?_ c (ih fun e he => hh e (.tail _ he))
  refine ex1_1 (hh _ (.head _)) fun k h1 h2 => ?_
  have := (strKind W.prog W.w).inj _ _ _ a h1
  rw [this]; exact h2
set_option tactic.hygienic true in
theorem sd_at {d:Addr} {fs:List (Option V)} (f:HS W F P H s) (e:H d = some (.sd fs)):∃ kvs,s.heap.DictOf (strKind W.prog W.w) d kvs∧kvs.length ≤ 7∧(∀ k,match valueAt kvs k with
  | some rv => ∃ v,fieldOf fs k = some v∧VR F v rv
  | none => fieldOf fs k = none) := by
 refine ex1_1 (f.hk _ _ e) fun o ho hr => ?_
 cases hr with
 | sd a b r =>
  rename_i des ep kvs
  refine ex0_1 (r.pairs.to (W := W)) fun h1 h2 => ?_
  exact (in1_2 kvs (in3_5 o des ep ho a b (fun e he => h2 e (Array.mem_toList_iff.mpr he)) h1 r.nodup) r.few r.get)
theorem sd_cell {d:Addr} {fs:List (Option V)} {kvs:List (Str × Value)} (h:s.heap.DictOf (strKind W.prog W.w) d kvs) (few:kvs.length ≤ 7) (get:∀ k,match valueAt kvs k with
  | some rv => ∃ v,fieldOf fs k = some v∧VR F v rv
  | none => fieldOf fs k = none):∃ o,s.heap.get? d = some o∧CellR F W.w.params o (.sd fs) := by
 refine ex3_5 h fun o des ep ho a b h2 h1 hn => ?_; clear h
 exact (in1_1 o ho (.sd a b ⟨.of h1 fun e he => h2 e (Array.mem_toList_iff.mp he),hn,few,get⟩))
theorem field_tbl {fs:List (Option V)} {k:Nat} {name:Str} (hn:tbl[k]? = some name):fieldOf fs name = (fs[k]?).join := by unfold fieldOf; rw [tbl_idx hn]
theorem o_key {d:Addr} {fs:List (Option V)} {k:Nat} {name:Str} {t:Tok} {v:V} {Q:V→Hp→Prop} (h:FSt W F P fm l H s) (e:H d = some (.sd fs)) (hn:tbl[k]? = some name) (hv:fs[k]? = some (some v)) (q:Q v H) :
  wpAny (model W.prog W.w) A (getItem (.ref d) (.str name t)) (Post W P fm l F Q) E s := by
 have h0 := h
 refine og fun G hG => ?_
 refine ex2_0 h fun PL m f => ?_
 refine ex1_2 (sd_at f.hs e) fun kvs hD few get => ?_
 refine hG ?_; clear hG G
 have g := get name
 rw [field_tbl hn,hv] at g
 cases qe:valueAt kvs name with
 | none => rw [qe] at g; cases g
 | some rv =>
  rw [qe] at g
  refine ex1_1 g fun v' g1 g2 => ?_
  cases g1
  exact wpAny_getItem_of (strKind_is W.prog W.w name t) hD.mapOf qe (Post.here (h0.tok _) g2 q)
theorem valueAt_map {k:Str} {v:Value}:∀ {kvs:List (Str × Value)} (x:Str),valueAt (kvs.map fun kv => if kv.1 = k then (kv.1,v) else kv) x = if x = k∧(valueAt kvs k).isSome = true then some v else valueAt kvs x := by
 intro kvs
 induction kvs with
 | nil => intro x; simp [valueAt]
 | cons p r ih =>
  intro x
  obtain ⟨y,u⟩ := p
  have ih := ih x
  by_cases q1:y = k
  ·subst q1
   by_cases q2:y = x
   ·subst q2; simp [valueAt]
   ·simp only [valueAt,List.map_cons,if_true,List.find?_cons,decide_false,decide_true,q2] at ih ⊢
    rw [ih]
    have:¬ x = y := fun e => q2 e.symm
    simp [this]
  ·by_cases q2:y = x
   ·subst q2; simp [valueAt,q1]
   ·simp only [valueAt,List.map_cons,q1,if_false,List.find?_cons,decide_false,q2] at ih ⊢
    exact ih
theorem valueAt_stored {kvs:List (Str × Value)} {k:Str} {v:Value} (h:(valueAt kvs k).isSome = true):(∀ x,valueAt (stored kvs k v) x = if x = k then some v else valueAt kvs x)∧(stored kvs k v).length = kvs.length := by
 unfold stored
 rw [if_pos (by rw [← valueAt_isSome_eq_any]; exact h)]
 refine ⟨fun x => ?_,by rw [List.length_map]⟩
 rw [valueAt_map,h]
 simp
theorem valueAt_stored_new {kvs:List (Str × Value)} {k:Str} {v:Value} (h:valueAt kvs k = none):(∀ x,valueAt (stored kvs k v) x = if x = k then some v else valueAt kvs x)∧(stored kvs k v).length = kvs.length + 1 := by
 rw [stored_absent h]
 refine ⟨fun x => ?_,by rw [List.length_append]; rfl⟩
 unfold valueAt at h ⊢
 rw [List.find?_append]
 by_cases q:x = k
 ·subst q
  cases q2:kvs.find? (fun kv => kv.1 = x) with
  | none => simp
  | some p => rw [q2] at h; cases h
 ·cases q2:kvs.find? (fun kv => kv.1 = x) with
  | none =>
   have q':¬ k = x := fun e => q e.symm
   simp [q,q']
  | some p => simp [q]
set_option tactic.hygienic true in
theorem field_set {fs:List (Option V)} {k:Nat} {name x:Str} {v:V} (hn:tbl[k]? = some name) (hk:k < fs.length):fieldOf (fs.set k (some v)) x = if x = name then some v else fieldOf fs x := by
 by_cases q:x = name
 ·subst q; rw [if_pos rfl,field_tbl hn,List.getElem?_set_self hk]; rfl
 ·rw [if_neg q]
  unfold fieldOf
  split
  ·rename_i j hj
   have:j ≠ k := fun e => by
    subst e
    have h1 := (List.findIdx?_eq_some_iff_getElem.mp hj)
    refine ex1_1 h1 fun hlt h2 U => ?_; clear h1
    have h3 := beq_iff_eq.mp h2
    have h4:tbl[j]? = some tbl[j] := List.getElem?_eq_getElem hlt
    rw [hn] at h4
    exact q (by rw [← h3]; exact (Option.some.inj h4).symm)
   rw [List.getElem?_set_ne (Ne.symm this)]
  ·rfl
theorem o_setkey {d:Addr} {fs:List (Option V)} {k:Nat} {name:Str} {t:Tok} {v:V} {rv:Value} {Q:Hp→Prop} (h:FSt W F P fm l H s) (e:H d = some (.sd fs)) (hn:tbl[k]? = some name) (hv:(fs[k]?).join.isSome = true) (rr:VR F v rv) (q:Q (H.set d (.sd (fs.set k (some v))))) :
  wpAny (model W.prog W.w) A (setItem (.ref d) (.str name t) rv) (fun U s' => ∃ F' H',F.le F'∧FSt W F' P fm l H' s'∧Q H') E s := by
 refine og fun G hG => ?_
 refine ex2_0 h fun PL m f => ?_; clear h
 refine ex1_2 (sd_at f.hs e) fun kvs hD few get => ?_
 refine hG ?_; clear hG G
 have hk:k < fs.length := by
  cases q2:fs[k]? with
  | none => rw [q2] at hv; cases hv
  | some _ => exact (List.getElem?_eq_some_iff.mp q2).1
 have hs:(valueAt kvs name).isSome = true := by
  have g := get name
  rw [field_tbl hn] at g
  cases qe:valueAt kvs name with
  | none => rw [qe] at g; have g:(fs[k]?).join = none := g; rw [g] at hv; cases hv
  | some rv => rfl
 refine ex0_1 (valueAt_stored (v := rv) hs) fun v1 v2 => ?_
 refine wpAny_setItem_pairs (strKind_is W.prog W.w name t) hD (fun h' hm hsb => ?_) (by have := big_le; unfold big at this; lia)
 refine ex1_1 (sd_cell (s := { s with heap := h' }) (F := F) (fs := fs.set k (some v)) hm (by rw [v2]; exact few) (fun x => by
  rw [v1,field_set hn hk]
  by_cases q3:x = name
  ·rw [if_pos q3,if_pos q3]; exact (in1_1 v rfl rr)
  ·rw [if_neg q3,if_neg q3]; exact get x)) fun o' ho' c => ?_
 exact (in2_2 F _ (PM.le_refl F) (FSt.tok (f.turn e hsb ho' c npS) _) q)
theorem elt_key {a:Expr} {k:Nat} {name:Str} {n:Nat} {p2 pos:Pos} {TA:TE} (hn:tbl[k]? = some name) (ha:EltOk W A fm a TA) :
  EltOk W A fm (.Subscript a (.Constant (.str name) n p2) pos) (fun l Q H => TA l (fun x H => (match x with
  | .ref d => (match H d with
   | some (.sd fs) => oget fs[k]? fun v => Q v H
   | _ => False)
  | _ => False)) H) := fun {F P l H s E Q} h q => by
 rw [eval_Subscript]
 refine wk_bind (wk_mono (ha h q) (fun vx s1 p => p.el fun F1 x H1 le1 h1 r1 q1 => wk_bind (wk_holding (up (wpAny_Constant_str ?_)))) fun U U e => e)
 refine ex1_1 (mRef q1) fun d ex q1 => ?_
 refine ex1_1 (mSd q1) fun fs eH q1 => ?_
 ··refine ex1_1 (oget_ex q1) fun v hv q2 => ?_
   subst ex
   obtain rfl := r1.refI
   have h2 := h1.tok (s1.toks + 1)
   have hT:({ s1 with toks := s1.toks + 1 }:Shared).TypeIs (.ref d) "dict" := by
    refine og fun G hG => ?_
    refine ex2_0 h1 fun PL m f => ?_; clear h1
    refine ex1_1 (sd_at f.hs eH) fun kvs hD U => ?_
    refine ex3_2 hD fun o es ep ho hc U => ?_; clear hD
    refine hG ?_; clear hG G
    exact (in1_1 o ho hc.1)
   exact wk_bind (wk_standAt (up (wpAny_mono (tail_any (ops := [.ref d,.str name s1.toks]) hT slot_dict_getitem.lookup (o_key h2 eH hn hv q2) rfl) (fun U U p => Post.from le1 p) fun U U e => e)))
theorem pair_rule {a i:Expr} (hu:A.units < 9000) (hi:noSlice i = true) {F P l H s E Q vx vy x y} (h:FSt W F P fm l H s) (rx:VR F x vx) (ry:VR F y vy)
  (q:∃ es p r z,x = .pd es∧y = .tup [.int p,.int r]∧es.lookup [p,r] = some z∧Q (.int z) H):wk (model W.prog W.w) A (subscriptTail a i vx vy) (Post W P fm l F Q) E s := by
 refine og fun G hG => ?_
 obtain ⟨es,p,r,z,rfl,rfl,e,q⟩ := q
 refine hG ?_; clear hG G
 have hT:s.TypeIs vx "dict" := by
  obtain ⟨PL,m,f⟩ := h
  cases rx with
  | pd eF hc hd r hn hlo => exact (in1_1 _ (f.hs.fk _ _ eF) hc.1)
 exact up (tail_any hT slot_dict_getitem.lookup (o_pdget hu h rx ry e q) (sub_plain hi _ _))
theorem itemW_cases {a i:V} {Q:V→Prop} (q:itemW H a i Q):(∃ xs k j v,asSeq H a = some xs∧i = .int k∧(idx xs.length k = some j∧xs[j]? = some v∧xs.length ≤ big)∧Q v) ∨ (∃ es p r z,a = .pd es∧i = .tup [.int p,.int r]∧es.lookup [p,r] = some z∧Q (.int z)) := by
 refine q.elim (fun q => ?_) fun q => ?_
 ·refine ex1_1 (obind_ex q) fun xs e q => ex1_1 (vI_ex q) fun k e2 q => ex2_1 q fun j v h1 h2 => ?_
  exact .inl (in4_3 xs k j v e e2 h1 h2)
 ·refine ex2_1 (tpI_ex q) fun x y e q => ex1_1 (mPd q) fun es e2 q => ex1_1 q fun v h1 h2 => ?_
  exact .inr (in4_3 es x y v e2 e h1 h2)
theorem elt_item {a i:Expr} {pos:Pos} {TA TB:TE} (hu:A.units < 9000) (hi:noSlice i = true) (ha:EltOk W A fm a TA) (hb:EltOk W A fm i TB) :
  EltOk W A fm (.Subscript a i pos) (fun l Q H => TA l (fun x H => TB l (fun y H => itemW H x y (fun v => Q v H)) H) H) :=
 elt_sub (R := fun x y Q H => itemW H x y (fun v => Q v H)) ha hb (fun h rx ry q => by
  rcases itemW_cases q with q | q
  ·exact item_rule hi h rx ry q
  ·exact pair_rule hu hi h rx ry q)
noncomputable def inW (x y:V) (Q:V→Hp→Prop) (H:Hp):Prop := tpI x fun i j => match y with
  | .pd es => Q (.bool (es.lookup [i,j]).isSome) H
  | _ => False
theorem in_rule (hu:A.units < 9000) {F P l H s E Q vx vy x y} (h:FSt W F P fm l H s) (rx:VR F x vx) (ry:VR F y vy) (q:inW x y Q H):wk (model W.prog W.w) A (compareOp .In vx vy) (Post W P fm l F Q) E s := by
 refine ex2_1 (tpI_ex q) fun i j e1 q => ?_
 refine ex1_1 (mPd q) fun es e2 q => ?_
 exact up (o_pdin hu h (e2 ▸ ry) (e1 ▸ rx) q)
theorem elt_dict0 {pos:Pos}:EltOk W A fm (.Dict [] [] pos) (fun l Q H => ∀ a,H a = none→Q (.ref a) (H.set a (.pdict []))) := fun {F P l H s E Q} h q => by
 refine ex2_0 h fun PL m f => ?_; clear h
 refine up (wpAny_Dict_empty ?_)
 exact (in3_3 F _ _ (PM.le_refl F) (f.pushH { cls := .type "dict",data := .dict #[] } rfl (.pdict (es := []) ⟨rfl,rfl,rfl⟩ rfl .nil List.nodup_nil) (fun U U e => by
  have := modules_low f.hs.top.nolimit
  exact absurd this (by rw [← e]; exact Nat.lt_irrefl _))) .ref (q _ f.new.1.2.2))
end
section
variable {W:Wd} {F P PL PI:PM} {H:Hp} {s:Shared} {A:Around} {E:Value→Shared→Prop} {fm:Fm} {l:Loc} {m:Str→Option Value}
theorem FSt.release1 {D:Addr} {o:Obj} (h:FSt W F (P.un (PM.one D o)) fm l H s) (d:Dis P (PM.one D o)) (hd:∀ v,o.data ≠ .cell v):∃ PL m,FS0 W F P PL fm l H s m∧Free F (P.un PL) H D∧D ≠ fm.env.locals∧s.heap.get? D = some o := by
 refine ex2_0 h fun PL m f => ?_
 have e1:((P.un (PM.one D o)).un PL) D = some o := by simp [PM.un,f.apart D o (Dis.right _ _ (PM.one_self D o)),PM.one]
 have ne:D ≠ fm.env.locals := fun q => by have h9 := f.free.2.1; rw [← q,e1] at h9; cases h9
 have nPL := f.apart D o (Dis.right _ _ (PM.one_self D o))
 have nP:P D = none := by
  cases q:P D with
  | none => rfl
  | some o' => have := d D o' q; rw [PM.one_self] at this; cases this
 have f0 := f.unguard d (fun b ob v e => by rw [one_get e]; exact hd v)
 have fa:Free F (P.un PL) H D := by
  refine ⟨?_,by simp [PM.un,nP,nPL],f.hs.ph _ _ e1⟩
  cases q:F D with
  | none => rfl
  | some o' => have := f.hs.fp _ _ q; rw [e1] at this; cases this
 exact (in2_3 PL m f0 fa ne (f.hs.pk _ _ e1))
theorem FSt.turn1 {D:Addr} {o o':Obj} {h':Heap} (h:FSt W F (P.un (PM.one D o)) fm l H s) (d:Dis P (PM.one D o)) (hd:∀ v,o.data ≠ .cell v) (x:Heap.SameBut D s.heap h') (e':h'.get? D = some o') :
  FSt W F (P.un (PM.one D o')) fm l H { s with heap := h' }∧Dis P (PM.one D o') := by
 have e1:(P.un (PM.one D o)) D = some o := Dis.right _ _ (PM.one_self D o)
 have g := h.turnG e1 hd x e'
 have nP:P D = none := by
  cases q:P D with
  | none => rfl
  | some o' => have := d D o' q; rw [PM.one_self] at this; cases this
 have e2:(P.un (PM.one D o)).set D o' = P.un (PM.one D o') := by
  funext b
  unfold PM.set PM.un PM.one
  by_cases q:b = D <;> simp [q]
 rw [e2] at g
 exact ⟨g,Dis.one nP o'⟩
theorem FSt.one_at {D:Addr} {o:Obj} (h:FSt W F (P.un (PM.one D o)) fm l H s):s.heap.get? D = some o := by
 refine ex2_0 h fun PL m f => ?_
 have e1:((P.un (PM.one D o)).un PL) D = some o := by simp [PM.un,f.apart D o (Dis.right _ _ (PM.one_self D o)),PM.one]
 exact f.hs.pk _ _ e1
theorem rcd_vals {n1 n2:Str} {v1 v2:Value} (hne:n1 ≠ n2):∀ x,valueAt (stored (stored ([]:List (Str × Value)) n1 v1) n2 v2) x = if x = n2 then some v2 else if x = n1 then some v1 else none := by
 intro x
 have h0:valueAt ([]:List (Str × Value)) n1 = none := rfl
 have h1:valueAt (stored ([]:List (Str × Value)) n1 v1) n2 = none := by
  rw [(valueAt_stored_new h0).1,if_neg (fun e => hne e.symm)]; rfl
 rw [(valueAt_stored_new h1).1,(valueAt_stored_new h0).1]
 rfl
theorem sd_pairs {n1 n2:Str} {j1 j2:Nat} {p1 p2 pos:Pos} {e1 e2:Expr} {TA TB:TE} {Q2:V→V→Hp→Prop} {R:List (Value × Value)→Shared→Prop} (ha:EltOk W A fm e1 TA) (hb:EltOk W A fm e2 TB) (h:FSt W F P fm l H s) (q:TA l (fun x H => TB l (fun y H => Q2 x y H) H) H)
  (hR:∀ F2 x y H2 s2 vx vy t1 t2,F.le F2→FSt W F2 P fm l H2 s2→VR F2 x vx→VR F2 y vy→Q2 x y H2→R [(.str n1 t1,vx),(.str n2 t2,vy)] s2) :
  wk (model W.prog W.w) A (evalPairs [(eval (.Constant (.str n1) j1 p1) fm.env,eval e1 fm.env >>= fun x => standAt pos >>= fun U => pure x),(eval (.Constant (.str n2) j2 p2) fm.env,eval e2 fm.env >>= fun x => standAt pos >>= fun U => pure x)]) R E s := by
 unfold evalPairs
 refine wk_bindq fun g1 k1 => up (wpAny_Constant_str (k1 _ _ (wk_bindq fun g2 k2 => wk_holding (wk_bindq fun g3 k3 => wk_mono (ha (h.tok _) q) (fun vx s1 p => ?_) fun U U e => e))))
 refine ex3_3 p fun F1 x H1 le1 h2 r1 q1 => ?_; clear p
 refine k3 _ _ (wk_bind (wk_standAt (wk_pure (k2 _ _ (wk_bindq fun g4 k4 => wk_holding ?_)))))
 unfold evalPairs
 refine wk_bindq fun g5 k5 => up (wpAny_Constant_str (k5 _ _ (wk_bindq fun g6 k6 => wk_holding (wk_bindq fun g7 k7 => wk_mono (hb (h2.tok _) q1) (fun vy s2 p => ?_) fun U U e => e))))
 refine ex3_3 p fun F2 y H2 le2 h3 r2 q2 => ?_; clear p
 refine k7 _ _ (wk_bind (wk_standAt (wk_pure (k6 _ _ (wk_bind (wk_holding ?_))))))
 unfold evalPairs
 exact wk_pure (wk_pure (k4 _ _ (wk_pure (hR F2 x y H2 s2 vx vy _ _ (PM.le_trans le1 le2) h3 (r1.mono le2) r2 q2))))
theorem sd_made {n1 n2:Str} {k1 k2:Nat} {x y:V} {vx vy:Value} {D:Addr} {o:Obj} {Q:V→Hp→Prop} (hn1:tbl[k1]? = some n1) (hn2:tbl[k2]? = some n2) (hne:n1 ≠ n2) (h:FSt W F (P.un (PM.one D o)) fm l H s) (d:Dis P (PM.one D o)) (ho:∀ v,o.data ≠ .cell v)
  (hm:s.heap.DictOf (strKind W.prog W.w) D (stored (stored [] n1 vx) n2 vy)) (rx:VR F x vx) (ry:VR F y vy) (q:∀ a,H a = none→Q (.ref a) (H.set a (.sd (rcdOf [k1,k2] [x,y])))):Post W P fm l F Q (.ref D) s := by
 refine og fun G hG => ?_
 refine ex2_3 (h.release1 d ho) fun PL m f fr ne hg => ?_
 have hk1:k1 < 7 := (List.getElem?_eq_some_iff.mp hn1).1
 have hk2:k2 < 7 := (List.getElem?_eq_some_iff.mp hn2).1
 obtain ⟨oc,hoc,c⟩ := sd_cell (W := W) (s := s) (F := F) (fs := rcdOf [k1,k2] [x,y]) hm (by
  have h0:valueAt ([]:List (Str × Value)) n1 = none := rfl
  have h1:valueAt (stored ([]:List (Str × Value)) n1 vx) n2 = none := by
   rw [(valueAt_stored_new h0).1,if_neg (fun e => hne e.symm)]; rfl
  rw [(valueAt_stored_new h1).2,(valueAt_stored_new h0).2]; decide) (fun z => by
  rw [rcd_vals hne]
  have e0:fieldOf (List.replicate 7 none) z = none := by
   unfold fieldOf
   split
   ·rw [List.getElem?_replicate]; split <;> rfl
   ·rfl
  show match (if z = n2 then some vy else if z = n1 then some vx else none) with
   | some rv => ∃ v,fieldOf (((List.replicate 7 none).set k1 (some x)).set k2 (some y)) z = some v∧VR F v rv
   | none => fieldOf (((List.replicate 7 none).set k1 (some x)).set k2 (some y)) z = none
  rw [field_set hn2 (by simpa using hk2),field_set hn1 (by simpa using hk1)]
  by_cases q5:z = n2
  ·rw [if_pos q5,if_pos q5]; exact (in1_1 y rfl ry)
  ·rw [if_neg q5,if_neg q5]
   by_cases q6:z = n1
   ·rw [if_pos q6,if_pos q6]; exact (in1_1 x rfl rx)
   ·rw [if_neg q6,if_neg q6]; exact e0)
 refine hG ?_; clear hG G
 exact (in3_3 F _ _ (PM.le_refl F) (f.toH fr ne hoc c npS) .ref (q _ fr.2.2))
theorem elt_sdict {n1 n2:Str} {k1 k2 j1 j2:Nat} {p1 p2 pos:Pos} {e1 e2:Expr} {TA TB:TE} (hn1:tbl[k1]? = some n1) (hn2:tbl[k2]? = some n2) (hne:n1 ≠ n2) (ha:EltOk W A fm e1 TA) (hb:EltOk W A fm e2 TB) :
  EltOk W A fm (.Dict [some (.Constant (.str n1) j1 p1),some (.Constant (.str n2) j2 p2)] [e1,e2] pos) (fun l Q H => TA l (fun x H => TB l (fun y H => ∀ a,H a = none→Q (.ref a) (H.set a (.sd (rcdOf [k1,k2] [x,y])))) H) H) := fun {F P l H s E Q} h q => by
 rw [arm_eval_Dict,zip_pairTrees [some (.Constant (.str n1) j1 p1),some (.Constant (.str n2) j2 p2)] [e1,e2] fm.env pos rfl rfl,dictDisplay_pairs _ (by intro e; cases e) (by show (2:Nat) < 17; decide)]
 refine wk_bind (wk_standAt (wk_bindq fun g1 k1 => ?_))
 unfold subDict
 refine wk_bindq fun g2 k2' => up (wpAny_alloc (k2' _ _ ?_))
 refine ex0_1 (h.guardNew { cls := .type "dict",data := .dict #[] } rfl) fun h1 d1 => ?_
 clear k2' g2 h
 generalize hD:s.heap.objs.size = D at *
 generalize ({ s with heap := s.heap.push { cls := .type "dict",data := .dict #[] } }:Shared) = s0 at *
 refine wk_bindq fun g3 k3 => wk_holding ?_
 rw [if_pos (by show (2:Nat) ≤ 15; decide)]
 refine wk_bindq fun g4 k4 => sd_pairs ha hb h1 q (fun F2 x y H2 s2 vx vy t1 t2 le h3 rx ry q2 => k4 _ _ (wk_holding ?_))
 clear q h1 k4 g4
 have nc:∀ (es:Array DictEntry) (n:Nat) v,(Data.dict es n) ≠ .cell v := fun U U U e => by cases e
 have hD0:s2.heap.DictOf (strKind W.prog W.w) D [] := (in3_5 _ _ _ h3.one_at ⟨rfl,rfl,rfl⟩ rfl (fun e he => by simp at he) .nil List.nodup_nil)
 rw [List.forIn_cons]
 refine wk_bindq fun g5 k5 => wk_bindq fun g6 k6 => wk_bindq fun g7 k7 => up (wpAny_dictSet_pairs (strKind_is W.prog W.w n1 _) hD0 (fun h' hm hs => ?_) (Nat.zero_le _))
 refine og fun G hG => ?_
 refine ex3_5 hm fun o' es' ep' ho' hc' hd' hk' hp' hn' => ?_; clear hm
 refine ex0_1 (h3.turn1 d1 (fun v e => by cases e) hs ho') fun g1' dd1 => ?_
 refine hG ?_; clear hG G
 refine k7 _ _ (wk_pure (k6 _ _ ?_))
 try dsimp only
 rw [List.forIn_cons]
 refine wk_bindq fun g8 k8 => wk_bindq fun g9 k9 => up (wpAny_dictSet_pairs (strKind_is W.prog W.w n2 _) (s := { s2 with heap := h',toks := s2.toks + 1 }) (in3_5 o' es' ep' ho' hc' hd' hk' hp' hn') (fun h'' hm2 hs2 => ?_) (by show (1:Nat) ≤ _; decide))
 have hm2' := hm2
 refine og fun G hG => ?_
 refine ex3_5 hm2 fun o2 es2 ep2 ho2 hc2 hd2 hkz2 hp2 hnz2 => ?_; clear hm2
 refine ex0_1 (FSt.turn1 (s := { s2 with heap := h',toks := s2.toks + 1 }) (g1'.tok _) dd1 (fun v e => by rw [hd'] at e; cases e) hs2 ho2) fun g2 dd2 => ?_
 refine hG ?_; clear hG G
 refine k9 _ _ (wk_pure (k8 _ _ ?_))
 try dsimp only
 rw [List.forIn_nil]
 refine wk_pure (k5 _ _ (wk_pure (k3 _ _ (wk_pure (k1 _ _ (wk_pure (Post.from le ?_)))))))
 exact sd_made hn1 hn2 hne (FSt.tok g2 _) dd2 (fun v e => by rw [hd2] at e; cases e) hm2' rx ry q2
theorem FSt.freeze {a:Addr} {c:Cell} (h:FSt W F P fm l H s) (e:H a = some c):∃ F' o,F.le F'∧FSt W F' P fm l (H.erase a) s∧F' a = some o∧CellR F W.w.params o c∧(∀ es,c = .pdict es→a ≠ sysModules) := by
 refine og fun G hG => ?_
 refine ex2_0 h fun PL m f => ?_; clear h
 refine ex1_1 (f.hs.hk _ _ e) fun o ho r => ?_
 refine ex0_1 (f.hs.drop e) fun h1 fr => ?_
 have ne := f.notL e
 refine ex0_1 (h1.toF fr ho) fun h2 le => ?_
 refine hG ?_; clear hG G
 refine (in2_4 _ o le (f.go le h2 ⟨by rw [PM.set_ne _ _ (Ne.symm ne)]; exact f.free.1,f.free.2.1,?_⟩ f.ns) (PM.set_self ..) r (fun es q => f.hs.os.2 a es (by rw [e,q])))
 cases q:H.erase a fm.env.locals with
 | none => rfl
 | some c => have := H.erase_le a _ _ q; rw [f.free.2.2] at this; cases this
theorem FSt.frz_list {a:Addr} {xs:List V} (h:FSt W F P fm l H s) (e:H a = some (.list xs)):∃ F',F.le F'∧FSt W F' P fm l (H.erase a) s∧VR F' (.lst xs) (.ref a) := by
 refine ex2_4 (h.freeze e) fun F' o le g e' r U => ?_
 cases r with
 | list hc hd rr => exact (in1_2 F' le g (.lst e' hc.1 hd (rr.mono le)))
theorem FSt.frz_pd {a:Addr} {es:List (List Int × Int)} (h:FSt W F P fm l H s) (e:H a = some (.pdict es)):∃ F',F.le F'∧FSt W F' P fm l (H.erase a) s∧VR F' (.pd es) (.ref a) := by
 refine ex2_4 (h.freeze e) fun F' o le g e' r ne => ?_
 cases r with
 | pdict hc hd rr hn => exact (in1_2 F' le g (.pd e' hc hd (rr.mono le) hn (ne _ rfl)))
noncomputable def frzW (x:V) (Q:V→Hp→Prop) (H:Hp):Prop := match x with
  | .ref a => (match H a with
   | some (.list xs) => Q (.lst xs) (H.erase a)
   | some (.pdict es) => Q (.pd es) (H.erase a)
   | _ => False)
  | _ => False
theorem frz_rule {x:V} {rv:Value} {Q:V→Hp→Prop} (h:FSt W F P fm l H s) (r:VR F x rv) (q:frzW x Q H):Post W P fm l F Q rv s := by
 refine ex1_1 (mRef q) fun a ex q => ?_
 rw [(ex ▸ r:VR F (.ref a) rv).refI]
 rcases mFrz q with ⟨xs,e,q⟩ | ⟨es,e,q⟩
 ·exact ex1_2 (h.frz_list e) fun F' le g rr => (in3_3 F' _ _ le g rr q)
 ·exact ex1_2 (h.frz_pd e) fun F' le g rr => (in3_3 F' _ _ le g rr q)
theorem elt_freeze {e:Expr} {T:TE} (he:EltOk W A fm e T):EltOk W A fm e (fun l Q H => T l (fun x H => frzW x Q H) H) := fun {F P l H s E Q} h q =>
 wk_mono (he h q) (fun v s1 p => p.el fun F1 x H1 le h1 r q1 => Post.from le (frz_rule h1 r q1)) fun U U e => e
set_option tactic.hygienic true in
theorem iter_seq {e tgt:Expr} {live:Bool} {T:TE} (hh:A.handled = none) (he:EltOk W A fm e T):IterOk W A fm tgt (!live) e (fun l Q H => T l (fun x H => (match live with
  | true => (match asList H x with
   | some xs => xs.length ≤ big∧Q xs H
   | none => False)
  | false => (match frozenSeq x with
   | some xs => xs.length ≤ big∧Q xs H
   | none => False))) H) := fun {F P l H s E Q} h q => by
 refine wk_mono (he h q) (fun v s1 p => p.el fun F1 x H1 le h1 r q1 => ?_) fun U U e => e
 have fin:∀ {a:Value},wpAny (model W.prog W.w) A (pyIter a) (IterPost W A P fm l F1 tgt (!live) Q) E s1→wk (model W.prog W.w) A (pyIter a) (IterPost W A P fm l F tgt (!live) Q) E s1 := fun w =>
  up (wpAny_mono w (fun U U p => p.el fun F2 H2 items J PI a b c d e f g h => (in5_7 F2 H2 items J PI (PM.le_trans le a) b c d e f g h)) fun U U e => e)
 cases live with
 | true =>
  try dsimp only at q1
  split at q1
  ·rename_i xs ex
   have h2 := h1
   refine og fun G hG => ?_
   refine ex2_0 h2 fun PL m f => ?_; clear h2
   refine ex2_1 (list_at f.hs r ex) fun a its xq1 U => ?_
   obtain rfl := xq1
   refine hG ?_; clear hG G
   exact fin (iter_lst hh h1 ex r (fun e => by cases e) q1.1 q1.2)
  ·exact q1.elim
 | false =>
  try dsimp only at q1
  split at q1
  ·rename_i xs ex
   cases x <;> try (cases ex; done)
   ·cases ex
    cases r
    exact fin (iter_bytes hh h1 q1.1 q1.2)
   ·cases ex
    cases r with
    | tup eF rr => exact fin (iter_tup hh h1 (.tup eF rr) q1.1 q1.2)
   ·cases ex
    cases r with
    | lst eF hc hd rr => exact fin (iter_lst hh h1 rfl (.lst eF hc hd rr) (fun U => (in1_0 _ rfl)) q1.1 q1.2)
  ·exact q1.elim
end
section
variable {W:Wd} {F P PL PI:PM} {H:Hp} {s:Shared} {A:Around} {E:Value→Shared→Prop} {fm:Fm} {l:Loc} {m:Str→Option Value}
theorem callG {fn:Expr} {fv:Value} {es:List Expr} {pos:Pos} {T:TEs} {R:List V→Hp→Prop} {Q:Value→Shared→Prop} (hp:plainBase fn = true) (hat:∀ o x p,fn ≠ .Attribute o x p) (hn:noStar es = true)
  (hf:∀ {F P l H s} {E:Value→Shared→Prop} {Q:Value→Shared→Prop},FSt W F P fm l H s→Q fv s→wk (model W.prog W.w) A (eval fn fm.env) Q E s)
  (hk:∀ {F P l H s},FSt W F P fm l H s→∃ k,(k = .frame ∨ k = .machine)∧KeptBy (model W.prog W.w) A fv k s) (he:EltsOk W A fm es T)
  (h:FSt W F P fm l H s) (q:T l R H)
  (k:∀ {F1 H1 s1 vs xs},F.le F1→FSt W F1 P fm l H1 s1→VRs F1 xs vs→R xs H1→wk (model W.prog W.w) A (call fv vs) Q E s1) :
  wk (model W.prog W.w) A (eval (.Call fn es [] pos) fm.env) Q E s := by
 have e:eval (.Call fn es [] pos) fm.env = (eval fn fm.env >>= fun f => callWith pos f [] (backTo pos (starEach es fm.env)) (backToKw pos (keywordEach [] fm.env))) := by
  cases fn <;> first | rfl | exact absurd rfl (hat _ _ _)
 rw [e]
 refine wk_bind (hf h (wk_callWith (noStar_any hn) (wk_mono (he h q) (fun vs s1 p => lenVs_el p fun U F1 xs H1 le1 h1 r1 q1 => ⟨hk h1,?_⟩) fun U U e => e)))
 exact k le1 h1 r1 q1
theorem HS.free_ge {a:Addr} (h:HS W F P H s) (hge:s.heap.objs.size ≤ a):Free F P H a := by
 refine ⟨?_,?_,?_⟩
 ·cases q:F a with
  | none => rfl
  | some o => exact absurd (Nat.lt_of_lt_of_le (Heap.lt_size (h.fk _ _ q)) hge) (Nat.lt_irrefl _)
 ·cases q:P a with
  | none => rfl
  | some o => exact absurd (Nat.lt_of_lt_of_le (Heap.lt_size (h.pk _ _ q)) hge) (Nat.lt_irrefl _)
 ·cases q:H a with
  | none => rfl
  | some c => obtain ⟨o,e,_⟩ := h.hk _ _ q; exact absurd (Nat.lt_of_lt_of_le (Heap.lt_size e) hge) (Nat.lt_irrefl _)
theorem IterPost.from {F1:PM} {tgt:Expr} {fz:Bool} {Q:List V→Hp→Prop} {it:Value} (le:F.le F1) (p:IterPost W A P fm l F1 tgt fz Q it s):IterPost W A P fm l F tgt fz Q it s :=
 p.el fun F2 H2 items J PI a b c d e f g h => (in5_7 F2 H2 items J PI (PM.le_trans le a) b c d e f g h)
theorem range_post {a b c:Int} {t u v:Tok} {tk:Nat} {tgt:Expr} {fz:Bool} {Q:List V→Hp→Prop} (hh:A.handled = none) (h:FSt W F P fm l H s) (ha:-400000 ≤ a∧a ≤ 400000) (hb:-400000 ≤ b∧b ≤ 400000) (hc:0 < c∧c ≤ 400000) (q:Q (rangeL a b c) H) :
  wk (model W.prog W.w) A (pyIter (.ref s.heap.objs.size)) (IterPost W A P fm l F tgt fz Q) E { s with heap := s.heap.push { cls := .type "range",data := .fields #[.int a t,.int b u,.int c v] },toks := tk } := by
 refine og fun G hG => ?_
 refine ex2_0 h fun PL m f => ?_; clear h
 refine ex0_1 (range_small ha hb hc) fun h1 h2 => ?_
 refine hG ?_; clear hG G
 exact up (iter_range (t := t) (u := u) (v := v) hh (in2_0 PL m ((f.push _).tok tk)) (Heap.get?_push_size _ rfl) h1 hc.1 h2 q)
theorem step_small {c:Int} (hc:0 < c∧c ≤ 400000):c.natAbs.log2 < 9000 := Nat.lt_trans ((Nat.log2_lt (k := 62) (by omega)).mpr (by omega)) (by decide)
theorem range_run {tgt:Expr} {fz:Bool} {Q:List V→Hp→Prop} (hh:A.handled = none) (h:FSt W F P fm l H s):∀ {xs:List V} {vs:List Value},VRs F xs vs→rangeW xs Q H →
  wk (model W.prog W.w) A (call (.type "range") vs) (fun it s => wk (model W.prog W.w) A (pyIter it) (IterPost W A P fm l F tgt fz Q) E s) E s
 | [x],vs,r,q => by
  refine og fun G hG => ?_
  apply ex1_1 (vI_inv q); intro b xq1 q
  obtain rfl := xq1
  apply ex1_1 r.oneI; intro y xq2 ry
  obtain rfl := xq2
  apply ex1_0 ry.intI; intro t xq3
  obtain rfl := xq3
  refine hG ?_; clear hG G
  exact up (call_range_1 (range_post hh h (by decide) q.1 (by decide) q.2))
 | [x,y],vs,r,q => by
  refine og fun G hG => ?_
  apply ex1_1 (vI_inv q); intro a xq4 q
  obtain rfl := xq4
  apply ex1_1 (vI_inv q); intro b xq5 q
  obtain rfl := xq5
  apply ex2_2 r.twoI; intro y z xq6 ra rb
  obtain rfl := xq6
  apply ex1_0 ra.intI; intro t xq7
  obtain rfl := xq7
  apply ex1_0 rb.intI; intro u xq8
  obtain rfl := xq8
  refine hG ?_; clear hG G
  exact up (call_range_2 (range_post hh h q.1.1 q.1.2 (by decide) q.2))
 | [x,y,z],vs,r,q => by
  refine og fun G hG => ?_
  apply ex1_1 (vI_inv q); intro a xq9 q
  obtain rfl := xq9
  apply ex1_1 (vI_inv q); intro b xq10 q
  obtain rfl := xq10
  apply ex1_1 (vI_inv q); intro c xq11 q
  obtain rfl := xq11
  obtain ⟨y,ys,rfl,ra,r⟩ := r.consI
  obtain ⟨z,w,rfl,rb,rc⟩ := r.twoI
  apply ex1_0 ra.intI; intro t xq12
  obtain rfl := xq12
  apply ex1_0 rb.intI; intro u xq13
  obtain rfl := xq13
  apply ex1_0 rc.intI; intro v xq14
  obtain rfl := xq14
  apply ex0_1 q; intro xq15 q
  obtain ⟨ha,hb,hc⟩ := xq15
  refine hG ?_; clear hG G
  refine up (call_range_3 (by omega) (range_post hh h ha hb hc q) (.inl (PyProof.noPylong_of_log2 (step_small hc))))
 | [],vs,r,q => q.elim
 | _ :: _ :: _ :: _ :: _,vs,r,q => q.elim
theorem iter_rangeC {p2 pos:Pos} {es:List Expr} {tgt:Expr} {fz:Bool} {T:TEs} (hh:A.handled = none) (hk:fm.env.kindOf "range" = some .globalImplicit) (hg:nsIn W.K mainGlobals "range" = some none) (hn:noStar es = true) (he:EltsOk W A fm es T) :
  IterOk W A fm tgt fz (.Call (.Name "range" p2) es [] pos) (fun l Q H => T l (fun vs H => rangeW vs Q H) H) := fun {F P l H s E Q} h q => by
 refine callG (fv := .type "range") rfl (fun U U U e => by cases e) hn (fun h q => up (o_builtin h hk (by decide) hg boot_range (by decide) q)) (fun h => (in1_1 _ (.inr rfl) kept_type)) he h q (fun {F1 H1 s1 vs xs} le h1 r1 q1 => ?_)
 exact wk_mono (range_run hh h1 r1 q1) (fun U U p => wk_mono p (fun U U p => p.from le) fun U U e => e) fun U U e => e
noncomputable def enumW (x:V) (Q:List V→Hp→Prop) (H:Hp):Prop := match x with
  | .lst xs => xs.length ≤ big∧Q (xs.zipIdx.map fun p => .tup [.int p.2,p.1]) H
  | _ => False
theorem iter_enumC {p2 pos p3:Pos} {a:Expr} {ts:List Expr} {k:Nat} {fz:Bool} {T:TE} (hh:A.handled = none) (hk:fm.env.kindOf "enumerate" = some .globalImplicit) (hg:nsIn W.K mainGlobals "enumerate" = some none) (hn:noStar [a] = true) (he:EltOk W A fm a T) :
  IterOk W A fm (.Tuple ts k p3) fz (.Call (.Name "enumerate" p2) [a] [] pos) (fun l Q H => T l (fun x H => enumW x Q H) H) := fun {F P l H s E Q} h q => by
 refine callG (fv := .type "enumerate") (R := fun xs H => oneV xs fun x => enumW x Q H) rfl (fun U U U e => by cases e) hn (fun h q => up (o_builtin h hk (by decide) hg boot_enumerate (by decide) q)) (fun h => (in1_1 _ (.inr rfl) kept_type)) (elts_cons hn he elts_nil) h q (fun {F1 H1 s1 vs xs} le h1 r1 q1 => ?_)
 refine og fun G hG => ?_
 refine ex1_1 (one_inv q1) fun x xq16 q1 => ?_
 obtain rfl := xq16
 refine ex1_1 r1.oneI fun y xq17 a => ?_
 obtain rfl := xq17
 refine hG ?_; clear hG G
 have q2:∃ xs,x = .lst xs∧xs.length ≤ big∧Q (xs.zipIdx.map fun p => .tup [.int p.2,p.1]) H1 := by
  cases x <;> first | exact q1.elim | exact (in1_1 _ rfl q1)
 refine og fun G hG => ?_
 refine ex1_1 q2 fun xs xq18 q1 => ?_; clear q2
 obtain rfl := xq18
 refine ex2_0 h1 fun PL m f => ?_; clear h1
 refine ex2_2 (list_at f.hs a rfl) fun b its xq19 hb rb => ?_
 obtain rfl := xq19
 refine hG ?_; clear hG G
 refine up (call_enumerate_list hb (fun h' hE hI hsz hkeep => up ?_))
 have f' := f.keeps hkeep
 have fe := f.hs.free_ge (a := s1.heap.objs.size + 1) (Nat.le_succ _)
 have fI := f.hs.free_ge (a := s1.heap.objs.size) (Nat.le_refl _)
 exact wpAny_mono (iter_enum (old := .none) hh f' a hE hI fe fI (Nat.succ_ne_self _) (Nat.ne_of_gt (Nat.lt_succ_of_lt f.ltL)) (Nat.ne_of_gt f.ltL) (by simpa using q1.1) q1.2) (fun U U p => p.from le) fun U U e => e
end
section
variable {W:Wd} {F P PL PI:PM} {H:Hp} {s:Shared} {A:Around} {E:Value→Shared→Prop} {fm:Fm} {l:Loc} {m:Str→Option Value}
abbrev TS := (Loc→Hp→Prop)→(V→Hp→Prop)→Loc→Hp→Prop
noncomputable def StmtOk (W:Wd) (A:Around) (fm:Fm) (st:Stmt) (B:TS):Prop :=
 ∀ {F P:PM} {l:Loc} {H:Hp} {s:Shared} {E:Value→Shared→Prop} {Qn:Loc→Hp→Prop} {Qr:V→Hp→Prop},FSt W F P fm l H s→B Qn Qr l H →
  wk (model W.prog W.w) A (exec st fm.env) (PostS W P fm F Qn Qr) E s
theorem body_nil:BodyOk W A fm [] (fun Qn U l H => Qn l H) := fun {F P l H s E Qn Qr} h q => wk_pure (in3_2 F l H (PM.le_refl F) h q)
theorem body_cons {st:Stmt} {r:List Stmt} {B1 B2:TS} (h1:StmtOk W A fm st B1) (h2:BodyOk W A fm r B2):BodyOk W A fm (st :: r) (fun Qn Qr l H => B1 (fun l H => B2 Qn Qr l H) Qr l H) := fun {F P l H s E Qn Qr} h q => by
 show wk _ _ (exec st fm.env >>= fun f => match f with | .next => execs r fm.env | f => pure f) _ _ _
 refine wk_bind (wk_mono (h1 h q) (fun f s1 p => ?_) fun U U e => e)
 cases f with
 | next =>
  refine ex3_2 p fun F1 l1 H1 le g q1 => ?_; clear p
  exact wk_mono (h2 g q1) (fun U U p => PostS.from le p) fun U U e => e
 | ret v => exact wk_pure p
 | _ => exact p.elim
noncomputable def noComp (e:Expr):Bool := notN 8 e && notN 9 e && notN 10 e
theorem swaps_no {v:Expr} {t:Option Expr} {n:Nat} {env:Env} (h:noComp v = true):swapsWith v t n env = pure false := by
 cases v <;> first | rfl | cases h
noncomputable def noStarT (e:Expr):Bool := notN 22 e
theorem each_one {t:Expr} (h:noStarT t = true) (env:Env):assignEach [t] env = [(false,assign t env)] := by
 cases t <;> first | rfl | cases h
theorem st_store {t:Expr} {v:Expr} {pos:Pos} {T:TE} (hv:noComp v = true) (hst:noStarT t = true) (hsw:swappedStores [t] v fm.env = pure none) (he:EltOk W A fm v T) {B:V→TS}
  (k:∀ {F P l H s E Qn Qr x rv},FSt W F P fm l H s→VR F x rv→B x Qn Qr l H→wk (model W.prog W.w) A (assign t fm.env rv) (fun U s' => PostS W P fm F Qn Qr .next s') E s) :
  StmtOk W A fm (.Assign [t] v pos) (fun Qn Qr l H => T l (fun x H => B x Qn Qr l H) H) := fun {F P l H s E Qn Qr} h q => by
 rw [exec_Assign]
 refine wk_bind (wk_standAt ?_)
 show wk _ _ (swapsWith v (some t) pos.line fm.env >>= _) _ _ _
 rw [swaps_no hv]
 refine wk_bind (wk_pure ?_)
 rw [if_neg (by decide)]
 refine wk_bind (wk_mono (he h q) (fun rv s1 p => p.el fun F1 x H1 le1 h1 r1 q1 => ?_) fun U U e => e)
 rw [hsw]
 refine wk_bind (wk_pure ?_)
 show wk _ _ (assignAll rv ((assignEach [t] fm.env).map (·.2)) >>= fun U => pure Flow.next) _ _ _
 rw [each_one hst]
 exact wk_bind (wk_mono (k h1 r1 q1) (fun U U p => wk_pure (PostS.from le1 p)) fun U U e => e)
theorem st_asg {i:Nat} {x:Str} {c:Bool} {p:Pos} {v:Expr} {pos:Pos} {T:TE} (hv:noComp v = true) (hx:fm.names[i]? = some (x,c)) (ho:c = true→fm.own = true) (he:EltOk W A fm v T) :
  StmtOk W A fm (.Assign [.Name x p] v pos) (fun Qn U l H => T l (fun v H => Qn (l.set i (some v)) H) H) :=
 st_store (B := fun v Qn U l H => Qn (l.set i (some v)) H) hv rfl rfl he fun {F P l H s E Qn Qr x rv} h r q =>
  up (PyProof.Rows.assign_Name (o_store h hx ho r fun s' h' => (in3_2 F _ _ (PM.le_refl F) h' q)))
noncomputable def notSwapped (ts:List Expr) (v:Expr):Bool := notN 25 v || onTup v fun vs => vs.all (foldedForSure 8)
theorem ite_pn {c:Prop} [Decidable c] {α:Type} {x b:α} (h:b = x):(if c then x else b) = x := by
 by_cases k:c
 ·exact if_pos k
 ·exact (if_neg k).trans h
theorem sw_cases {R:Expr→Prop} {ts:List Expr} {k:Nat} {p:Pos} {env:Env} (h:∀ w,swappedStores [.Tuple ts k p] w env = pure none→R w) (g:∀ vs k2 p2,R (.Tuple vs k2 p2)) (v:Expr):R v := by
 cases v <;> first | exact g _ _ _ | exact h _ (Eq.refl (pure none))
theorem unswapped {ts:List Expr} {k:Nat} {p:Pos} {v:Expr} {env:Env}:notSwapped ts v = true→swappedStores [.Tuple ts k p] v env = pure none :=
 sw_cases (R := fun v => notSwapped ts v = true→swappedStores [.Tuple ts k p] v env = pure none) (fun U e U => e) (fun U U U h => ite_pn (ite_pn (ite_pn (if_pos h)))) v
theorem st_unp {is:List Nat} {ts:List Expr} {k:Nat} {p:Pos} {v:Expr} {pos:Pos} {T:TE} (hh:A.handled = none) (hv:noComp v = true) (hn:notSwapped ts v = true) (hk:okTs fm.names is ts = true) (he:EltOk W A fm v T) :
  StmtOk W A fm (.Assign [.Tuple ts k p] v pos) (fun Qn U l H => T l (fun v H => obind (bindT (.many is) v l) fun l' => Qn l' H) H) :=
 st_store (B := fun v Qn U l H => obind (bindT (.many is) v l) fun l' => Qn l' H) hv rfl (unswapped hn) he fun {F P l H s E Qn Qr x rv} h r q => ex1_1 (obind_ex q) fun l' hb q =>
  up (o_assign (tg := .many is) hh (okT_mk hk) hb r h fun s' h' => (in3_2 F _ _ (PM.le_refl F) h' q))
theorem st_setA {C:Addr} {a v:Expr} {k:Nat} {name:Str} {p pos:Pos} {T TA:TE} (hv:noComp v = true) (c:ClsOk W.K C) (hn:tbl[k]? = some name) (he:EltOk W A fm v T) (ha:EltOk W A fm a TA) :
  StmtOk W A fm (.Assign [.Attribute a name p] v pos) (fun Qn U l H => T l (fun v H => TA l (fun x H => (match x with
  | .obj C' d => C' = C∧(match H d with
   | some (.rcd fs) => k < fs.length∧Qn l (H.set d (.rcd (fs.set k (some v))))
   | _ => False)
  | _ => False)) H) H) :=
 st_store (B := fun v Qn U l H => TA l (fun x H => (match x with
  | .obj C' d => C' = C∧(match H d with
   | some (.rcd fs) => k < fs.length∧Qn l (H.set d (.rcd (fs.set k (some v))))
   | _ => False)
  | _ => False)) H) hv rfl rfl he fun {F P l H s E Qn Qr x rv} h r q => by
  show wk _ _ (holding [rv] (eval a fm.env) >>= fun ov => standAt p.atName >>= fun U => holding [rv,ov] (setAttr ov name rv) >>= fun U => release [rv,ov] []) _ _ _
  refine wk_bind (wk_holding (wk_mono (ha h q) (fun vx s1 p => p.el fun F1 x H1 le1 h1 r1 q1 => wk_bind (wk_standAt (wk_bind (wk_holding ?_)))) fun U U e => e))
  refine ex2_2 (mObj q1) fun C' d ex eC q1 => ?_
  refine ex1_1 (mRcd q1) fun fs eH q2 => ?_
  ··subst ex eC
    exact up (o_setattr h1 c r1 (r.mono le1) eH hn q2.1 fun s' h' => wk_release (in3_2 F1 l _ le1 h' q2.2))
noncomputable def setIW (x y v:V) (Q:Hp→Prop) (H:Hp):Prop := match x with
  | .ref d => ixW y (fun j => (match H d with
   | some (.list xs) => (0 ≤ j∧j < xs.length∧xs.length ≤ big)∧Q (H.set d (.list (xs.set j.toNat v)))
   | _ => False)) (fun p q => match H d,v with
   | some (.pdict es),.int z => (es.length < big∧es.lookup [p,q] = none)∧Q (H.set d (.pdict (es ++ [([p,q],z)])))
   | _,_ => False)
  | _ => False
theorem setIW_el {x y v:V} {Q:Hp→Prop} {G:Prop} (q:setIW x y v Q H) (k1:∀ d j xs,x = .ref d→y = .int j→H d = some (.list xs)→(0 ≤ j∧j < xs.length∧xs.length ≤ big)→Q (H.set d (.list (xs.set j.toNat v)))→G)
  (k2:∀ d p r z es,x = .ref d→y = .tup [.int p,.int r]→v = .int z→H d = some (.pdict es)→(es.length < big∧es.lookup [p,r] = none)→Q (H.set d (.pdict (es ++ [([p,r],z)])))→G):G :=
 ex1_1 (mRef q) fun d ex q => (ixW_ex q).elim (fun q => ex1_1 q fun j ey q => ex1_2 (mListP q) fun xs e a b => k1 d j xs ex ey e a b)
  fun q => ex2_1 q fun p r ey q => ex2_3 (mPdI q) fun es z e ev a b => k2 d p r z es ex ey ev e a b
theorem st_setI {a i v:Expr} {p pos:Pos} {T TA TI:TE} (hu:A.units < 9000) (hv:noComp v = true) (he:EltOk W A fm v T) (ha:EltOk W A fm a TA) (hi:EltOk W A fm i TI) :
  StmtOk W A fm (.Assign [.Subscript a i p] v pos) (fun Qn U l H => T l (fun v H => TA l (fun x H => TI l (fun y H => setIW x y v (fun H => Qn l H) H) H) H) H) :=
 st_store (B := fun v Qn U l H => TA l (fun x H => TI l (fun y H => setIW x y v (fun H => Qn l H) H) H) H) hv rfl rfl he fun {F P l H s E Qn Qr x rv} h r q => by
  rw [assign_Subscript]
  refine wk_bind (wk_holding (wk_mono (ha h q) (fun vx s1 p => p.el fun F1 x H1 le1 h1 r1 q1 => wk_bind (wk_holding (wk_mono (hi h1 q1) (fun vy s2 p => p.el fun F2 y H2 le2 h2 r2 q2 => wk_bind (wk_standAt (wk_bind (wk_holding ?_)))) fun U U e => e))) fun U U e => e))
  have le := PM.le_trans le1 le2
  refine setIW_el q2 (fun d j xs ex ey eH hb q3 => ?_) fun d p rr z es ex ey ev eH hb q3 => ?_
  ·rw [(ex ▸ r1:VR F1 (.ref d) vx).refI]
   exact wk_mono (up (o_setItem (Q := fun H => Qn l H) h2 (r.mono le) (ey ▸ r2) eH hb q3)) (fun U s3 p => ex2_2 p fun F3 H3 le3 h3 q3 => wk_release (in3_2 F3 l H3 (PM.le_trans le le3) h3 q3)) fun U U e => e
  ·rw [(ex ▸ r1:VR F1 (.ref d) vx).refI]
   exact wk_mono (up (o_pdset (Q := fun H => Qn l H) hu h2 eH (ey ▸ r2) (ev ▸ r.mono le) hb.1 hb.2 q3)) (fun U s3 p => ex2_2 p fun F3 H3 le3 h3 q3 => wk_release (in3_2 F3 l H3 (PM.le_trans le le3) h3 q3)) fun U U e => e
theorem st_setK {a v:Expr} {k n:Nat} {name:Str} {p p2 pos:Pos} {T TA:TE} (hv:noComp v = true) (hn:tbl[k]? = some name) (he:EltOk W A fm v T) (ha:EltOk W A fm a TA) :
  StmtOk W A fm (.Assign [.Subscript a (.Constant (.str name) n p2) p] v pos) (fun Qn U l H => T l (fun v H => TA l (fun x H => (match x with
  | .ref d => (match H d with
   | some (.sd fs) => (fs[k]?).join.isSome = true∧Qn l (H.set d (.sd (fs.set k (some v))))
   | _ => False)
  | _ => False)) H) H) :=
 st_store (B := fun v Qn U l H => TA l (fun x H => (match x with
  | .ref d => (match H d with
   | some (.sd fs) => (fs[k]?).join.isSome = true∧Qn l (H.set d (.sd (fs.set k (some v))))
   | _ => False)
  | _ => False)) H) hv rfl rfl he fun {F P l H s E Qn Qr x rv} h r q => by
  show wk _ _ (holding [rv] (eval a fm.env) >>= fun ov => holding [rv,ov] (eval (.Constant (.str name) n p2) fm.env) >>= fun iv => standAt p >>= fun U => holding [rv,ov,iv] (setItem ov iv rv) >>= fun U => release [rv,ov,iv] []) _ _ _
  refine wk_bind (wk_holding (wk_mono (ha h q) (fun vx s1 p => p.el fun F1 x H1 le1 h1 r1 q1 => wk_bind (wk_holding (up (wpAny_Constant_str ?_)))) fun U U e => e))
  refine wk_bind (wk_standAt (wk_bind (wk_holding ?_)))
  refine ex1_1 (mRef q1) fun d ex q1 => ?_
  refine ex1_1 (mSd q1) fun fs eH q2 => ?_
  ··subst ex
    obtain rfl := r1.refI
    exact wk_mono (up (o_setkey (Q := fun H => Qn l H) (h1.tok _) eH hn q2.1 (r.mono le1) q2.2)) (fun U s3 p => ex2_2 p fun F3 H3 le3 h3 q3 => wk_release (in3_2 F3 l H3 (PM.le_trans le1 le3) h3 q3)) fun U U e => e
end
section
variable {W:Wd} {F P PL PI:PM} {H:Hp} {s:Shared} {A:Around} {E:Value→Shared→Prop} {fm:Fm} {l:Loc} {m:Str→Option Value}
theorem st_expr {v:Expr} {pos:Pos} {T:TE} (hv:noComp v = true) (he:EltOk W A fm v T):StmtOk W A fm (.Expr v pos) (fun Qn U l H => T l (fun v H => v = .none∧Qn l H) H) := fun {F P l H s E Qn Qr} h q => by
 have hk:fm.env.scope.kind = .function := by obtain ⟨PL,m,f⟩ := h; exact f.ok.kind
 show wk _ _ (standAt pos >>= fun U => if interactive fm.env = true then printExpr (eval v fm.env) else do
  if ← swapsWith v none pos.line fm.env then do evalThenUse v fm.env fun U => point; pure .next
  else do dropValue v pos (← eval v fm.env)) _ _ _
 refine wk_bind (wk_standAt ?_)
 rw [if_neg (by unfold interactive; rw [hk,show (ScopeKind.function == ScopeKind.module) = false from by decide,Bool.false_and]; decide),swaps_no hv]
 refine wk_bind (wk_pure ?_)
 rw [if_neg (by decide)]
 refine wk_bind (wk_mono (he h q) (fun rv s1 p => ?_) fun U U e => e)
 refine og fun G hG => ?_
 refine ex3_4 p fun F1 x H1 le1 h1 r1 xq1 q1 => ?_; clear p
 obtain rfl := xq1
 refine hG ?_; clear hG G
 exact up (wpAny_dropValue (in3_2 F1 l H1 le1 h1 q1))
theorem st_ret {v:Expr} {pos:Pos} {T:TE} (he:EltOk W A fm v T):StmtOk W A fm (.Return (some v) pos) (fun U Qr l H => T l Qr H) := fun {F P l H s E Qn Qr} h q => by
 show wk _ _ (standAt pos >>= fun U => eval v fm.env >>= fun x => pure (Flow.ret x)) _ _ _
 exact wk_bind (wk_standAt (wk_bind (wk_mono (he h q) (fun rv s1 p => p.el fun F1 x H1 le1 h1 r1 q1 => wk_pure (in4_3 F1 x l H1 le1 h1 r1 q1)) fun U U e => e)))
theorem st_ite {c:Expr} {t e:List Stmt} {pos:Pos} {T:TB} {B1 B2:TS} (hc:TestOk W A fm c T) (ht:BodyOk W A fm t B1) (he:BodyOk W A fm e B2) :
  StmtOk W A fm (.If c t e pos) (fun Qn Qr l H => T l (fun b H => match b with
  | true => B1 Qn Qr l H
  | false => B2 Qn Qr l H) H) := fun {F P l H s E Qn Qr} h q => by
 show wk _ _ (standAt pos >>= fun U => isTrue c fm.env (eval c fm.env) >>= fun b => if b = true then execs t fm.env else execs e fm.env) _ _ _
 refine wk_bind (wk_standAt (wk_bind (wk_mono (hc h q) (fun b s1 p => p.el fun F1 H1 le1 h1 q1 => ?_) fun U U e => e)))
 cases b with
 | true => simp only [if_true]; exact wk_mono (ht h1 q1) (fun U U p => PostS.from le1 p) fun U U e => e
 | false => simp only [Bool.false_eq_true,if_false]; exact wk_mono (he h1 q1) (fun U U p => PostS.from le1 p) fun U U e => e
theorem st_whl {c:Expr} {b:List Stmt} {pos:Pos} {T:TB} {B:TS} (hc:TestOk W A fm c T) (hb:BodyOk W A fm b B) :
  StmtOk W A fm (.While c b [] pos) (fun Qn Qr l H => ∃ n,whileW (fun l Q H => T l Q H) (fun Q l H => B Q Qr l H) Qn n l H) := fun {F P l H s E Qn Qr} h ⟨n,q⟩ => by
 show wk _ _ (standAt pos >>= fun U => runOwn (.whileLoop c b [] fm.env) fm.env) _ _ _
 refine wk_bind (wk_standAt (wk_runOwn ?_ rfl nbP))
 exact while_rule hc hb h q fun f s' p => p
theorem st_for {tgt iter:Expr} {b:List Stmt} {pos:Pos} {tg:Tg} {TI:Loc→(List V→Hp→Prop)→Hp→Prop} {B:TS} (hh:A.handled = none) (hs:∀ env x,foldedSetIterable iter env x = pure x) (hi:IterOk W A fm tgt true iter TI) (hk:okT fm.names tg tgt = true) (hb:BodyOk W A fm b B) :
  StmtOk W A fm (.For tgt iter b [] pos) (fun Qn Qr l H => TI l (fun items H => forW (fun Q l H => B Q Qr l H) tg items Qn l H) H) := fun {F P l H s E Qn Qr} h q => by
 show wk _ _ (standAt pos >>= fun U => eval iter fm.env >>= fun x => foldedSetIterable iter fm.env x >>= fun x => standAt iter.pos >>= fun U => holding [x] (pyIter x) >>= fun it => runOwn (.forLoop tgt it b [] fm.env) fm.env) _ _ _
 refine wk_bind (wk_standAt (wk_bind (wk_mono (hi h q) (fun x s1 p => ?_) fun U U e => e)))
 rw [hs]
 refine wk_bind (wk_pure (wk_bind (wk_standAt (wk_bind (wk_holding (wk_mono p (fun it s2 p => p.el fun F2 H2 items J PI le d fd hfz hj h2 hz q2 => wk_runOwn ?_ rfl nbP) fun U U e => e))))))
 exact for_rule hh fd (hfz rfl) hk hb hj d h2 q2 fun f s' p => PostS.from le p
noncomputable def plainNames (line:Nat):List Expr→Option (List Str)
 | [] => some []
 | e :: r => if h:e.ctorIdx = 23 then @Expr.Name.elim (fun U => Option (List Str)) e h (fun x p => if p.line == line then (plainNames line r).map (x :: ·) else none) else none
noncomputable def swapOk (ts vs:List Expr):Bool := (ts.length == 2 || ts.length == 3) && vs.length == ts.length && noStar vs && !vs.all (foldedForSure 8) && !vs.all (constantsAlone 8)
theorem names_swap {names:List (Str × Bool)} {env:Env} {line:Nat} (hl:∀ x,(x,false) ∈ names→env.kindOf x = some .local):∀ {ts:List Expr} {is:List Nat} {xs:List Str},okTs names is ts = true→plainNames line ts = some xs →
  (∀ f:Expr→Option Str,(∀ id pos,f (.Name id pos) = if env.kindOf id == some .local && pos.line == line then some id else none)→ts.filterMap f = xs)∧xs.length = ts.length∧is.length = ts.length∧(∀ (j:Nat) x,xs[j]? = some x→∃ i,is[j]? = some i∧names[i]? = some (x,false)) := by
 intro ts
 induction ts with
 | nil =>
  intro is xs hk hp
  cases hp
  cases is with
  | nil => exact ⟨fun U U => rfl,rfl,rfl,fun j x e => by cases e⟩
  | cons _ _ => cases hk
 | cons t ts ih =>
  intro is xs hk hp
  cases is with
  | nil => cases hk
  | cons i is =>
   refine og fun G hG => ?_
   refine ex2_2 (okTs_cons hk) fun x p xq2 h1 h2 => ?_
   obtain rfl := xq2
   refine hG ?_; clear hG G
   have hp:(if p.line == line then (plainNames line ts).map (x :: ·) else none) = some xs := hp
   by_cases hq:(p.line == line) = true
   ·rw [if_pos hq] at hp
    refine ex1_1 (Option.map_eq_some_iff.mp hp) fun ys e exs => ?_
    refine ex0_3 (ih h2 e) fun a b c d => ?_
    ·subst exs
     refine ⟨fun f hf => ?_,by rw [List.length_cons,List.length_cons,b],by rw [List.length_cons,List.length_cons,c],fun j y ey => ?_⟩
     ·have hc:(env.kindOf x == some .local && p.line == line) = true := by rw [hl x (List.mem_of_getElem? h1),hq]; rfl
      rw [List.filterMap_cons_some (b := x) (by rw [hf,if_pos hc]),a f hf]
     ·cases j with
      | zero => cases ey; exact (in1_1 i rfl h1)
      | succ j => exact d j y ey
   ·rw [if_neg hq] at hp; cases hp
theorem star_not {es:List Expr} {a:Expr} {p:Pos} (h:noStar es = true) (he:Expr.Starred a p ∈ es):False := by
 induction es with
 | nil => cases he
 | cons e r ih =>
  rcases List.mem_cons.mp he with q | q
  ·subst q; cases h
  ·exact ih (noStar_cons h).2 q
theorem swapped_some {names:List (Str × Bool)} {env:Env} {k k2:Nat} {p p2:Pos} {ts vs:List Expr} {is:List Nat} {xs:List Str} (hl:∀ x,(x,false) ∈ names→env.kindOf x = some .local) (hb:env.blockKind = .function) (ho:swapOk ts vs = true)
  (hk:okTs names is ts = true) (hp:plainNames ((ts.head?.map (·.pos.line)).getD 0) ts = some xs) (hd:xs.eraseDups.length = xs.length):swappedStores [.Tuple ts k p] (.Tuple vs k2 p2) env = pure (some xs) := by
 unfold swapOk at ho
 simp only [Bool.and_eq_true,Bool.not_eq_true',beq_iff_eq] at ho
 refine og fun G hG => ?_
 refine ex0_1 ho fun xq3 h5 => ?_; clear ho
 obtain ⟨⟨⟨h1,h2⟩,h3⟩,h4⟩ := xq3
 refine ex0_3 (names_swap (env := env) hl hk hp) fun a b c d => ?_
 refine hG ?_; clear hG G
 unfold swappedStores
 try dsimp only
 have key2:∀ g:Expr→Bool,(∀ e,g e = true→∃ a p,e = .Starred a p)→vs.any g = false := fun g hg => by
  rw [List.any_eq_false]
  intro e he hge
  refine ex2_0 (hg e hge) fun a p xq4 => ?_
  obtain rfl := xq4
  exact star_not h3 he
 rw [hb,if_neg (by rw [h2]; rcases (Bool.or_eq_true _ _ ▸ h1:_ ∨ _) with q | q <;> simp [q]),key2 _ (fun e he => by
  revert he
  cases e <;> first | (intro he; exact (in2_0 _ _ rfl)) | (intro he; cases he)),if_neg (by decide),a]
 ·rw [if_neg (by rw [hd,b]; simp),if_neg (by rw [h4]; decide),if_neg (by rw [h5]; decide)]
 ·intro _ _; rfl
noncomputable def setP (l:Loc) (p:Nat × V):Loc := l.set p.1 (some p.2)
theorem set_fold {i:Nat} {v:V}:∀ (ps:List (Nat × V)) (l:Loc),i ∉ ps.map (·.1)→(ps.foldl setP l).set i (some v) = ps.foldl setP (l.set i (some v))
 | [],l,_ => rfl
 | p :: r,l,h => by
  have h1:i ≠ p.1 := fun e => h (by rw [e]; exact .head _)
  have h2:i ∉ r.map (·.1) := fun e => h (.tail _ e)
  rw [List.foldl_cons,List.foldl_cons,set_fold r _ h2]
  congr 1
  unfold setP
  exact List.set_comm _ _ (Ne.symm h1)
theorem fold_rev:∀ (ps:List (Nat × V)) (l:Loc),(ps.map (·.1)).Nodup→ps.reverse.foldl setP l = ps.foldl setP l
 | [],l,_ => rfl
 | p :: r,l,h => by
  rw [List.map_cons,List.nodup_cons] at h
  rw [List.reverse_cons,List.foldl_append,fold_rev r l h.2,List.foldl_cons,List.foldl_nil,List.foldl_cons]
  exact set_fold r l h.1
theorem o_bindNames {Q:Unit→Shared→Prop}:∀ {xs:List Str} {is:List Nat} {ys:List V} {vs:List Value} {l:Loc} {s:Shared},xs.length = is.length→is.length = ys.length→(∀ (j:Nat) x,xs[j]? = some x→∃ i,is[j]? = some i∧fm.names[i]? = some (x,false))→VRs F ys vs→FSt W F P fm l H s →
  (∀ s',FSt W F P fm ((is.zip ys).foldl setP l) H s'→Q () s')→wpAny (model W.prog W.w) A (assignInOrder (xs.map fun n => bindName fm.env n) vs) Q E s
 | [],is,ys,vs,l,s,h1,h2,hn,r,h,q => by
  cases is with
  | cons _ _ => cases h1
  | nil =>
   cases ys with
   | cons _ _ => cases h2
   | nil => exact wpAny_pure (q _ h)
 | x :: xs,is,ys,vs,l,s,h1,h2,hn,r,h,q => by
  cases is with
  | nil => cases h1
  | cons i is =>
   cases ys with
   | nil => cases h2
   | cons y ys =>
    cases r with
    | cons ry r =>
     refine ex1_1 (hn 0 x rfl) fun i' e1 e2 => ?_
     cases e1
     rw [List.map_cons]
     unfold assignInOrder
     refine wpAny_bind (wpAny_holding (bindName_ (o_store h e2 (fun e => by cases e) ry fun s' h' => ?_)))
     exact o_bindNames (Nat.succ.inj h1) (Nat.succ.inj h2) (fun j z e => hn (j + 1) z e) r h' q
theorem VRs.reverse {xs:List V} {vs:List Value} (r:VRs F xs vs):VRs F xs.reverse vs.reverse := by
 induction xs generalizing vs with
 | nil => cases r; exact .nil
 | cons x xs ih =>
  cases r with
  | cons a r => rw [List.reverse_cons,List.reverse_cons]; exact (ih r).append (.cons a .nil)
theorem zip_rev {α β:Type}:∀ {as:List α} {bs:List β},as.length = bs.length→as.reverse.zip bs.reverse = (as.zip bs).reverse
 | [],[],_ => rfl
 | a :: as,b :: bs,h => by
  have h := Nat.succ.inj h
  rw [List.reverse_cons,List.reverse_cons,List.zip_cons_cons,List.reverse_cons,← zip_rev h,List.zip_append (by simp [h])]
  rfl
set_option tactic.hygienic true in
theorem st_asgT {is:List Nat} {ts vs:List Expr} {xs:List Str} {k k2:Nat} {p p2 pos:Pos} {T:TEs} (hh:A.handled = none) (ho:swapOk ts vs = true) (hk:okTs fm.names is ts = true) (hp:plainNames ((ts.head?.map (·.pos.line)).getD 0) ts = some xs) (hd:xs.eraseDups.length = xs.length) (hnd:is.Nodup) (he:EltsOk W A fm vs T) :
  StmtOk W A fm (.Assign [.Tuple ts k p] (.Tuple vs k2 p2) pos) (fun Qn U l H => T l (fun vs H => obind (bindM is vs l) fun l' => Qn l' H) H) := fun {F P l H s E Qn Qr} h q => by
 have hfm:FmOk fm := by obtain ⟨PL,m,f⟩ := h; exact f.ok
 have hb:fm.env.blockKind = .function := by unfold Env.blockKind; rw [hfm.kind]; rfl
 have hl:ts.length = 2 ∨ ts.length = 3 := by
  unfold swapOk at ho
  simp only [Bool.and_eq_true,Bool.or_eq_true,beq_iff_eq] at ho
  exact ho.1.1.1.1
 have hvl:vs.length = ts.length := by
  unfold swapOk at ho
  simp only [Bool.and_eq_true,beq_iff_eq] at ho
  exact ho.1.1.1.2
 rw [exec_Assign]
 refine wk_bind (wk_standAt ?_)
 show wk _ _ (pure false >>= _) _ _ _
 refine wk_bind (wk_pure ?_)
 rw [if_neg (by decide)]
 refine wk_bind ?_
 show wk _ _ (standAt p2 >>= fun U => spliced (backTo p2 (starEach vs fm.env)) >>= fun vs => newTuple vs) _ _ _
 refine wk_bind (wk_standAt (wk_bind (wk_mono (he h q) (fun rvs s1 pp => ?_) fun U U e => e)))
 refine og fun G hG => ?_
 refine ex0_1 pp fun hn xq5 => ?_; clear pp
 refine ex3_3 xq5 fun F1 ys H1 le1 h1 r1 q1 => ?_; clear xq5
 refine hG ?_; clear hG G
 rw [bindM_eq] at q1
 have hly:is.length = ys.length := by
  by_cases hly:is.length = ys.length
  ·exact hly
  ·rw [if_neg hly] at q1; exact q1.elim
 rw [if_pos hly] at q1
 refine up (wpAny_mono (o_tuple (Q := fun v H => v = .tup ys∧H = H1) h1 r1 (by rw [hn,hvl]; have := big_le; unfold big at this; lia) ⟨rfl,rfl⟩) (fun rv s2 pp => ?_) fun U U e => e)
 refine og fun G hG => ?_
 refine ex3_4 pp fun F2 x H2 le2 h2 r2 xq6 xq7 => ?_; clear pp
 obtain rfl := xq6
 obtain rfl := xq7
 refine hG ?_; clear hG G
 rw [swapped_some hfm.loc hb ho hk hp hd]
 refine wk_bind (wk_pure ?_)
 refine ex0_3 (names_swap (env := fm.env) hfm.loc hk hp) fun U n1 n2 n3 => ?_
 show wk _ _ (do rule "assign.swapped-stores"; let items ← unpackItems rv xs.length none; assignInOrder (xs.reverse.map fun n => bindName fm.env n) items.reverse; pure Flow.next) _ _ _
 refine wk_bind (wk_rule ?_)
 cases r2 with
 | tup eF rr =>
  rename_i t n its
  refine ex2_0 h2 fun PL m f => ?_; clear h2
  have hsz:its.toArray.size = xs.length := by rw [List.size_toArray,← rr.length,n1,← n2,hly]
  refine wk_bind ?_
  rw [← hsz]
  refine up (wpAny_unpackItems_tuple hh (in1_2 _ (f.hs.fk _ _ eF) rfl ⟨_,rfl⟩) (fun h' hx => wk_bind ?_))
  have f3:FSt W F2 P fm l H2 { s2 with heap := h' } := (in2_0 PL m (f.keeps fun b o e => hx b o (Nat.ne_of_lt (Heap.lt_size e)) e))
  have hlen:is.length = ys.length := hly
  refine up (o_bindNames (is := is.reverse) (by rw [List.length_reverse,List.length_reverse,n1,n2]) (by rw [List.length_reverse,List.length_reverse,hlen]) (fun j x e => ?_) rr.reverse f3 (fun s' h' => wk_pure (in3_2 F2 _ H2 (PM.le_trans le1 le2) h' ?_)))
  ·have hj:j < xs.length := by have := (List.getElem?_eq_some_iff.mp e).1; simpa using this
   rw [List.getElem?_reverse hj] at e
   refine ex1_1 (n3 _ x e) fun i e1 e2 => ?_
   refine (in1_1 i ?_ e2)
   rw [List.getElem?_reverse (by lia),n2,← n1]; exact e1
  ·rw [zip_rev hlen,fold_rev _ _ (by rw [List.map_fst_zip (by exact Nat.le_of_eq hly)]; exact hnd)]
   exact q1
end
set_option genSizeOfSpec false
set_option genInjectivity false
structure Tab where
 gint:List (Str × Int)
 gtup:List (Str × List Int)
 gfn:List (Str × Nat)
 gcls:List (Str × Addr × Nat)
 gbi:List (Str × Bi)
 meths:List ((Addr × Str) × Nat)
 cls:List Addr
 fa:Nat→Addr
structure Cx where
 names:List (Str × Bool)
 own:Bool
 sc:List (Str × NameKind)
noncomputable def noDbg (x:Str):Bool := !(x == ("__debug__":Str))
noncomputable def glb (cx:Cx) (x:Str):Bool := decide (cx.sc.lookup x = some .globalImplicit) && noDbg x
noncomputable def locOk (cx:Cx) (i:Nat) (x:Str):Bool := (match cx.names[i]? with | some (y,_) => decide (y = x) | none => false) && noDbg x
noncomputable def cmpNames (cx:Cx) (scope:Scope) (caps:List Nat):List (Str × Bool) :=
 (scope.names.filterMap fun (x,k) => if decide (k = .local) && !decide (x = (".0":Str)) then some (x,false) else none) ++ caps.filterMap fun j => cx.names[j]?
noncomputable def cmpOkB (cx:Cx) (scope:Scope) (names:List (Str × Bool)) (nl:Nat) (caps:List Nat):Bool :=
 decide (scope.kind = .function) && (scope.names.all fun x => !decide (x.2 = .cell)) && (scope.names.all fun x => !decide (x.2 = .free) || (decide ((x.1,true) ∈ cx.names) && cx.own)) &&
 (scope.names.all fun x => !decide (x.2 = .local) || decide (scope.names.lookup x.1 = some .local)) && decide ((names.map (·.1)).Nodup) &&
 (names.zipIdx.all fun p => match p with
  | ((x,false),i) => decide (i < nl) && decide (scope.names.lookup x = some .local)
  | ((x,true),i) => decide (nl ≤ i) && decide ((x,NameKind.free) ∈ scope.names) && decide (scope.names.lookup x = some .free) && (match caps[i - nl]? with | some j => decide (cx.names[j]? = some (x,true)) | none => false))
set_option tactic.hygienic true in
theorem cmpOk_of {cx:Cx} {fm:Fm} {scope:Scope} {names:List (Str × Bool)} {nl:Nat} {caps:List Nat} (hn:fm.names = cx.names) (ho:fm.own = cx.own) (h:cmpOkB cx scope names nl caps = true):CmpOk fm scope names nl caps := by
 unfold cmpOkB at h
 simp only [Bool.and_eq_true,decide_eq_true_eq,List.all_eq_true,Bool.or_eq_true,Bool.not_eq_true',decide_eq_false_iff_not] at h
 refine ex0_1 h fun xq1 h6 => ?_
 obtain ⟨⟨⟨⟨h1,h2⟩,h3⟩,h4⟩,h5⟩ := xq1
 have idx:∀ (i:Nat) p,names[i]? = some p→(p,i) ∈ names.zipIdx := fun i p e => by
  rw [List.mem_zipIdx_iff_getElem?]; exact e
 refine ⟨h1,h2,fun x hx hf => ?_,fun x hx hl => ?_,h5,fun i x e => ?_,fun i x e => ?_⟩
 ·rcases h3 x hx with q | q
  ·exact absurd hf q
  ·rw [hn,ho]; exact q
 ·rcases h4 x hx with q | q
  ·exact absurd hl q
  ·exact q
 ·have q := h6 _ (idx i _ e)
  dsimp only at q
  simp only [Bool.and_eq_true,decide_eq_true_eq] at q
  exact q
 ·have q := h6 _ (idx i _ e)
  dsimp only at q
  simp only [Bool.and_eq_true,decide_eq_true_eq] at q
  refine ex0_1 q fun xq2 q4 => ?_
  obtain ⟨⟨q1,q2⟩,q3⟩ := xq2
  refine ⟨q1,q2,q3,?_⟩
  split at q4
  ·rename_i j ej
   exact (in1_1 j ej (by rw [hn]; exact of_decide_eq_true q4))
  ·cases q4
noncomputable def lineOk (a p:Pos):Bool := a.endLine == p.line
noncomputable def okSet (e:Expr):Bool := notN 7 e
noncomputable def biOf (t:Tab) (cx:Cx) (b:Bi) (x:Str):Bool := glb cx x && ob (t.gbi.lookup x) fun c => decide (biV c = biV b)
noncomputable def vCnone (me:ME):Option (PLift (me = .cnone)) := match me with
 | .cnone => some ⟨rfl⟩
 | _ => none
noncomputable def onO (o:Option Expr) (f:Expr→Bool) (m:ME):Bool := match o with
 | some z => f z
 | none => ob (vCnone m) fun U => true
noncomputable def isNil:MEs→Bool
 | .nil => true
 | .cons .. => false
noncomputable def onE (r:MEs) (ys:List Expr) (b:Bool):Bool := match r with
 | .nil => on0 ys
 | .cons .. => b
noncomputable def onTg (tg:Tg) (f:Nat→Bool):Bool := match tg with
 | .one a => f a
 | .many _ => false
theorem iTg {tg:Tg} {f:Nat→Bool} (h:onTg tg f = true):∃ a,tg = .one a∧f a = true := match tg,h with
 | .one a,h => (in1_1 a rfl h)
theorem eTg {C:Tg→Prop} {tg:Tg} {f:Nat→Bool} (h:onTg tg f = true) (k:∀ a,f a = true→C (.one a)):C tg := ex1_1 (iTg h) fun x q h => q ▸ k x h
mutual
noncomputable def okE (t:Tab) (n:Nat) (cx:Cx):ME→Expr→Bool
 | .cint i,e => onInt e fun j => decide (i = j)
 | .cnone,e => onNone e true
 | .cbool b,e => onBool e fun c => decide (b = c)
 | .loc i,e => onName e fun x U => locOk cx i x
 | .gint x i,e => onName e fun y U => decide (y = x) && glb cx x && decide (t.gint.lookup x = some i)
 | .gtup x is,e => onName e fun y U => decide (y = x) && glb cx x && decide (t.gtup.lookup x = some is)
 | .bin o a b,e => onBin e fun l op r => decide (op = bopOf o) && okE t n cx a l && okE t n cx b r
 | .neg i,e => onUSub e fun x => onInt x fun j => decide ((i:Int) = j)
 | .not a,e => onNot e fun x => okE t n cx a x
 | .cmp o a b,e => onCmp e fun l op r => decide (op = copOf o) && !behindInMarks op r && okE t n cx a l && okE t n cx b r
 | .chain ..,_ => false
 | .isNone a,e => onCmp e fun l op r => decide (op = .Is) && onNone r true && okE t n cx a l
 | .inn a b,e => onCmp e fun l op r => decide (op = .In) && !behindInMarks op r && okE t n cx a l && okE t n cx b r
 | .cmpL k a b,e => onCmp e fun l op r => decide (op = cmpLop k) && !behindInMarks op r && okE t n cx a l && okE t n cx b r
 | .and as,e => onAnd e fun es => okBs t n cx as es
 | .or as,e => onOr e fun es => okBs t n cx as es
 | .ite c a b,e => onIf e fun x y z => okT' t n cx c x && okE t n cx a y && okE t n cx b z
 | .tup es,e => onTup e fun xs => decide (xs.length ≤ 1000) && okEs t n cx es xs
 | .list _ es,e => onList e fun xs => okEs t n cx es xs
 | .cat _ a b,e => onBin e fun l op r => decide (op = .Add) && okE t n cx a l && okE t n cx b r
 | .rep _ a b,e => onBin e fun l op r => decide (op = .Mult) && (onList l fun xs => on1 xs fun l => noStar [l] && okE t n cx a l) && okE t n cx b r
 | .dict0,e => onDict0 e true
 | .rcd ks es,e => onDict2 e fun k l x y => onStr k fun nf => onStr l fun n2 => onC ks fun k1 ks => on1 ks fun k2 => decide (tbl[k1]? = some nf) && decide (tbl[k2]? = some n2) && !decide (nf = n2) && okEs t n cx es [x,y]
 | .item a i,e => onSub e fun x y => noSlice y && okE t n cx a x && okE t n cx i y
 | .key a k,e => onSub e fun x y => onStr y fun nm => decide (tbl[k]? = some nm) && okE t n cx a x
 | .slice _ a lo hi,e => onSub e fun x y => onSlice y fun l h => okE t n cx a x && onO l (fun z => okE t n cx lo z) lo && onO h (fun z => okE t n cx hi z) hi
 | .attr C a k,e => onAttr e fun x nm U => plainBase x && decide (C ∈ t.cls) && decide (tbl[k]? = some nm) && okE t n cx a x
 | .call f es,e => onCall e fun g xs U => onName g fun x U => glb cx x && decide (t.gfn.lookup x = some f) && decide (f < n) && noStar xs && okEs t n cx es xs
 | .meth f C a es,e => onCall e fun g xs pos => onAttr g fun o nm apos => plainBase o && noStar xs && lineOk apos pos && decide (xs.length < 20) && (decide (t.meths.lookup (C,nm) = some f) && decide (f < n)) && (okE t n cx a o && okEs t n cx es xs)
 | .new f C es,e => onCall e fun g xs U => onName g fun x U => glb cx x && decide (t.gcls.lookup x = some (C,f)) && decide (f < n) && noStar xs && okEs t n cx es xs
 | .bi b es,e => onCall e fun g xs U => onName g fun x U => biOf t cx b x && noStar xs && okEs t n cx es xs
 | .append a v,e => onCall e fun g xs pos => onAttr g fun o nm apos => on1 xs fun x => decide (nm = ("append":Str)) && plainBase o && noStar [x] && lineOk apos pos && okE t n cx a o && okE t n cx v x
 | .extend a v,e => onCall e fun g xs pos => onAttr g fun o nm apos => on1 xs fun x => decide (nm = ("extend":Str)) && plainBase o && noStar [x] && lineOk apos pos && okE t n cx a o && okE t n cx v x
 | .comp _ elt nl caps tg it cond,e => onComp e fun x gs scope U => on1 gs fun g => onGen g fun tgt iter ifs =>
    cmpOkB cx scope (cmpNames cx scope caps) nl caps && okSet iter && okT (cmpNames cx scope caps) tg tgt && okI t n cx false tgt it iter &&
    okE t n ⟨cmpNames cx scope caps,false,scope.names⟩ elt x && okC t n ⟨cmpNames cx scope caps,false,scope.names⟩ cond ifs
 | .comp2 _ elt nl caps tg it tg2 it2,e => onComp e fun x gs scope U => onC gs fun g gs => on1 gs fun g2 => onGen g fun tgt iter ifs => onGen g2 fun tgt2 iter2 ifs2 => onTg tg fun a => onTg tg2 fun b =>
    (on0 ifs && on0 ifs2) && (cmpOkB cx scope (cmpNames cx scope caps) nl caps && okSet iter && okSet iter2) && (okT (cmpNames cx scope caps) (.one a) tgt && okT (cmpNames cx scope caps) (.one b) tgt2 && !decide (a = b)) && okI t n cx false tgt it iter &&
    okE t n ⟨cmpNames cx scope caps,false,scope.names⟩ elt x && okI t n ⟨cmpNames cx scope caps,false,scope.names⟩ false tgt2 it2 iter2
 | .freeze a,e => okE t n cx a e
noncomputable def okEs (t:Tab) (n:Nat) (cx:Cx):MEs→List Expr→Bool
 | .nil,xs => on0 xs
 | .cons a r,xs => onC xs fun x xs => noStar [x] && okE t n cx a x && okEs t n cx r xs
noncomputable def okBs (t:Tab) (n:Nat) (cx:Cx):MEs→List Expr→Bool
 | .nil,_ => false
 | .cons a r,xs => onC xs fun x ys => okE t n cx a x && onE r ys (okBs t n cx r ys)
noncomputable def okT' (t:Tab) (n:Nat) (cx:Cx):ME→Expr→Bool
 | .not a,e => onNot e fun x => okT' t n cx a x
 | .cmp o a b,e => onCmp e fun l op r => decide (op = copOf o) && !behindInMarks op r && okE t n cx a l && okE t n cx b r
 | .chain o1 o2 a b c,e => onCmp2 e fun l p1 p2 x y => decide (p1 = copOf o1) && decide (p2 = copOf o2) && !behindInMarks p2 y && okE t n cx a l && okE t n cx b x && okE t n cx c y
 | .isNone a,e => onCmp e fun l op r => decide (op = .Is) && onNone r true && okE t n cx a l
 | .inn a b,e => onCmp e fun l op r => decide (op = .In) && !behindInMarks op r && okE t n cx a l && okE t n cx b r
 | .cmpL k a b,e => onCmp e fun l op r => decide (op = cmpLop k) && !behindInMarks op r && okE t n cx a l && okE t n cx b r
 | .and as,e => onAnd e fun es => okTBs t n cx as es
 | .or as,e => onOr e fun es => okTBs t n cx as es
 | .loc i,e => onName e fun x U => locOk cx i x
 | .call f es,e => onCall e fun g xs U => onName g fun x U => glb cx x && decide (t.gfn.lookup x = some f) && decide (f < n) && noStar xs && okEs t n cx es xs
 | _,_ => false
noncomputable def okTBs (t:Tab) (n:Nat) (cx:Cx):MEs→List Expr→Bool
 | .nil,_ => false
 | .cons a r,xs => onC xs fun x ys => okT' t n cx a x && onE r ys (okTBs t n cx r ys)
noncomputable def okC (t:Tab) (n:Nat) (cx:Cx):MEs→List Expr→Bool
 | .nil,xs => on0 xs
 | .cons a r,xs => on1 xs fun x => isNil r && okT' t n cx a x
noncomputable def okI (t:Tab) (n:Nat) (cx:Cx) (fz:Bool) (tgt:Expr):MI→Expr→Bool
 | .seq live a,e => (!fz || !live) && okE t n cx a e
 | .range es,e => onCall e fun g xs U => onName g fun x U => decide (x = ("range":Str)) && glb cx x && noStar xs && okEs t n cx es xs
 | .enum a,e => onCall e fun g xs U => onName g fun x U => on1 xs fun y => decide (x = ("enumerate":Str)) && glb cx x && noStar [y] && (onTup tgt fun U => true) && okE t n cx a y
end
structure TabOk (W:Wd) (t:Tab):Prop where
 gint:∀ x i,t.gint.lookup x = some i→∃ tk,nsIn W.K mainGlobals x = some (some (.int i tk))
 gtup:∀ x is,t.gtup.lookup x = some is→∃ rv,nsIn W.K mainGlobals x = some (some rv)∧∀ F,(∀ a o,W.hb.get? a = some o→F a = some o)→VR F (.tup (is.map V.int)) rv
 gfn:∀ x f,t.gfn.lookup x = some f→nsIn W.K mainGlobals x = some (some (.ref (t.fa f)))∧∃ o fd,W.hb.get? (t.fa f) = some o∧o.data = .func fd
 gcls:∀ x C f,t.gcls.lookup x = some (C,f)→nsIn W.K mainGlobals x = some (some (.ref C))∧ClsOk W.K C∧findIn W.K (.ref C) "__init__" = some (some (.ref (t.fa f)))∧typeIn W.K (.ref (t.fa f)) = some (.type "function")
 gbi:∀ x b,t.gbi.lookup x = some b→nsIn W.K mainGlobals x = some none∧bootBuiltins x = some (biV b)∧x ≠ "__name__"
 rng:nsIn W.K mainGlobals "range" = some none∧nsIn W.K mainGlobals "enumerate" = some none
 meths:∀ C x f,t.meths.lookup (C,x) = some f→ClsOk W.K C∧findIn W.K (.ref C) x = some (some (.ref (t.fa f)))∧typeIn W.K (.ref (t.fa f)) = some (.type "function")∧tbl.findIdx? (· == x) = none∧∃ o fd,W.hb.get? (t.fa f) = some o∧o.data = .func fd
 cls:∀ C,C ∈ t.cls→ClsOk W.K C
structure Ctx0 (W:Wd) (t:Tab) (sp:Nat→SpecT) (n:Nat) (A:Around):Prop where
 tab:TabOk W t
 fn:∀ f,f < n→FnOk W (sp f) (t.fa f) (f + 1)
 room:RoomB A n
structure CxOk (cx:Cx) (fm:Fm):Prop where
 names:fm.names = cx.names
 own:fm.own = cx.own
 gl:∀ x,cx.sc.lookup x = some .globalImplicit→fm.env.kindOf x = some .globalImplicit
theorem Ctx0.hh {W t sp n A} (S:Ctx0 W t sp n A):A.handled = none := S.room.1
theorem Ctx0.hu {W t sp n A} (S:Ctx0 W t sp n A):A.units < 9000 := by have := S.room.2.2; lia
theorem RoomB.less {A:Around} {d e:Nat} (h:RoomB A d) (le:e ≤ d):RoomB A e := ⟨h.1,by have := h.2.1; lia,by have := h.2.2; lia⟩
section
variable {W:Wd} {t:Tab} {sp:Nat→SpecT} {n:Nat} {A:Around} {cx:Cx} {fm:Fm}
theorem glb_of (c:CxOk cx fm) {x:Str} (h:glb cx x = true):fm.env.kindOf x = some .globalImplicit∧(x == ("__debug__":Str)) = false := by
 unfold glb noDbg at h
 refine ex0_1 (Bool.and_eq_true_iff.mp h) fun h1 h2 => ?_
 exact ⟨c.gl x (of_decide_eq_true h1),by simpa using h2⟩
set_option tactic.hygienic true in
theorem loc_of (c:CxOk cx fm) {i:Nat} {x:Str} (h:locOk cx i x = true):(∃ b,fm.names[i]? = some (x,b))∧(x == ("__debug__":Str)) = false := by
 unfold locOk noDbg at h
 refine ex0_1 (Bool.and_eq_true_iff.mp h) fun h1 h2 => ?_
 refine ⟨?_,by simpa using h2⟩
 split at h1
 ·rename_i y b e
  exact ⟨b,by rw [c.names,e,of_decide_eq_true h1]⟩
 ·cases h1
theorem relabel_look {env:Env} {x:Str} {k:NameKind} (hk:k ≠ .free):∀ {names:List (Str × NameKind)},names.lookup x = some k →
  (names.map fun (n,k) => if (k == NameKind.free && env.scope.kind == .function && env.kindOf n == some .cell) then (n,NameKind.cell) else (n,k)).lookup x = some k
 | [],h => by simp at h
 | (n,j) :: r,h => by
  have ih := @relabel_look env x k hk r
  show List.lookup x ((if (j == NameKind.free && env.scope.kind == .function && env.kindOf n == some .cell) = true then (n,NameKind.cell) else (n,j)) :: _) = _
  cases e:x == n with
  | true =>
   simp only [List.lookup_cons,e] at h
   cases h
   rw [if_neg (by simp [hk])]
   simp [List.lookup_cons,e]
  | false =>
   simp only [List.lookup_cons,e] at h
   split
   ·simp only [List.lookup_cons,e]; exact ih h
   ·simp only [List.lookup_cons,e]; exact ih h
theorem CxOk.comp {scope:Scope} {cl:List (Str × Addr)} {C:Addr} {names:List (Str × Bool)}:CxOk ⟨names,false,scope.names⟩ (fmC scope cl C fm.env names) :=
 ⟨rfl,rfl,fun x h => relabel_look (by decide) h⟩
theorem cond_nil:CondOk W A fm [] (fun l Q H => Q true H) := fun {F P l H s E Q} h q => wk_pure (in2_2 F H (PM.le_refl F) h q)
theorem cond_one {c:Expr} {T:TB} (hc:TestOk W A fm c T):CondOk W A fm [c] T := fun {F P l H s E Q} h q => by
 rw [List.forIn_cons]
 refine wk_bind ?_
 rw [if_pos rfl]
 refine wk_bind (wk_mono (hc h q) (fun b s1 p => wk_pure ?_) fun U U e => e)
 dsimp only
 rw [List.forIn_nil]
 exact wk_pure p
theorem set_no {e:Expr} (h:okSet e = true) (env:Env) (x:Value):foldedSetIterable e env x = pure x := by
 cases e <;> first | rfl | cases h
theorem star_one {x:Expr} {r:List Expr} (h1:noStar [x] = true) (h2:noStar r = true):noStar (x :: r) = true := by
 cases x <;> first | exact h2 | cases h1
theorem okEs_star:∀ {es:MEs} {xs:List Expr},okEs t n cx es xs = true→noStar xs = true
 | .nil,xs,h => by
  rw [i0 h]; rfl
 | .cons a r,xs,h => by
  apply eC h; intro x ys k1
  refine ab3 k1 fun h1 U h2 => ?_
  exact star_one h1 (okEs_star h2)
theorem iter_fz {live fz:Bool} {tgt e:Expr} {T:Loc→(List V→Hp→Prop)→Hp→Prop} (h0:(!fz || !live) = true) (hi:IterOk W A fm tgt (!live) e T):IterOk W A fm tgt fz e T := fun {F P l H s E Q} hf q => by
 have g := hi (E := E) hf q
 cases live with
 | false =>
  refine wk_mono g (fun x s1 p => wk_mono p (fun it s2 pp => ?_) fun U U e => e) fun U U e => e
  refine ex5_4 pp fun F' H' items J PI a1 a2 a3 a4 r => ?_; clear pp
  exact (in5_4 F' H' items J PI a1 a2 a3 (fun U => a4 rfl) r)
 | true =>
  cases fz with
  | true => cases h0
  | false => exact g
theorem line_of {a p:Pos} (h:lineOk a p = true):(a.endLine == p.line) = true := h
noncomputable def PE (W:Wd) (t:Tab) (sp:Nat→SpecT) (n:Nat) (A:Around) (me:ME):Prop :=
 (∀ cx fm e,CxOk cx fm→okE t n cx me e = true→EltOk W A fm e (fun l Q H => wpE sp me l Q H)) ∧
 (∀ cx fm e,CxOk cx fm→okT' t n cx me e = true→TestOk W A fm e (tr fun l Q H => wpE sp me l Q H))
noncomputable def PB (W:Wd) (t:Tab) (sp:Nat→SpecT) (n:Nat) (A:Around) (es:MEs):Prop :=
 (∀ cx fm xs,CxOk cx fm→okBs t n cx es xs = true→BoolOk W A fm .And xs (fun l Q H => wpAnd sp es l Q H)) ∧
 (∀ cx fm xs,CxOk cx fm→okBs t n cx es xs = true→BoolOk W A fm .Or xs (fun l Q H => wpOr sp es l Q H)) ∧
 (∀ cx fm xs,CxOk cx fm→okTBs t n cx es xs = true→AllOk W A fm .And xs (tr fun l Q H => wpAnd sp es l Q H)) ∧
 (∀ cx fm xs,CxOk cx fm→okTBs t n cx es xs = true→AllOk W A fm .Or xs (tr fun l Q H => wpOr sp es l Q H))
noncomputable def PA (W:Wd) (t:Tab) (sp:Nat→SpecT) (n:Nat) (A:Around):MEs→Prop
 | .nil => True
 | .cons a r => PE W t sp n A a∧PA W t sp n A r
noncomputable def PS (W:Wd) (t:Tab) (sp:Nat→SpecT) (n:Nat) (A:Around) (es:MEs):Prop :=
 (∀ cx fm xs,CxOk cx fm→okEs t n cx es xs = true→EltsOk W A fm xs (fun l Q H => wpEs sp es l Q H)) ∧
 (∀ cx fm xs,CxOk cx fm→okC t n cx es xs = true→CondOk W A fm xs (fun l Q H => wpC sp es l Q H))∧PA W t sp n A es∧PB W t sp n A es
noncomputable def PI (W:Wd) (t:Tab) (sp:Nat→SpecT) (n:Nat) (A:Around) (it:MI):Prop :=
 ∀ cx fm fz tgt e,CxOk cx fm→okI t n cx fz tgt it e = true→IterOk W A fm tgt fz e (fun l Q H => wpI sp it l Q H)
theorem ob_inv' {α:Type} {o:Option α} {f:α→Bool} (h:ob o f = true):∃ a,o = some a∧f a = true := match o,h with
 | some a,h => (in1_1 a rfl h)
noncomputable def noneR (x y:V) (Q:V→Hp→Prop) (H:Hp):Prop := match y with
 | .none => isNoneW x Q H
 | _ => False
theorem noneR_of {x y:V} {Q:V→Hp→Prop} {H:Hp} (h:noneR x y Q H):y = .none∧isNoneW x Q H := by
 cases y <;> first | exact ⟨rfl,h⟩ | exact h.elim
noncomputable def cmpLR (k:Bool) (x y:V) (Q:V→Hp→Prop) (H:Hp):Prop := match asList H x,asList H y with
  | some xs,some ys => (V.plains xs = true∧V.plains ys = true)∧Q (.bool (V.sames xs ys == k)) H
  | _,_ => False
theorem cmpLR_of {k:Bool} {x y:V} {Q:V→Hp→Prop} {H:Hp} (h:cmpLR k x y Q H):∃ xs ys,asList H x = some xs∧asList H y = some ys∧(V.plains xs = true∧V.plains ys = true)∧Q (.bool (V.sames xs ys == k)) H := by
 unfold cmpLR at h
 generalize asList H x = o1 at *
 generalize asList H y = o2 at *
 cases o1 <;> cases o2 <;> first | exact h.elim | exact (in2_2 _ _ rfl rfl h)
theorem opt_of {me:ME} {o:Option Expr} (hm:PE W t sp n A me) (c:CxOk cx fm) (h:onO o (fun z => okE t n cx me z) me = true):OptOk W A fm o (fun l Q H => wpE sp me l Q H) := by
 cases o with
 | some z => exact opt_some (hm.1 _ _ _ c h)
 | none =>
  obtain ⟨⟨rfl⟩,_⟩ := ob_inv h
  exact opt_none
theorem s_cint {i} :PE W t sp n A (.cint i) :=
 ⟨fun cx fm e c h => by
  apply eInt h; intro j k p k1
  cases of_decide_eq_true k1
  exact elt_int,
  fun cx fm e c h => no h⟩
theorem s_cnone :PE W t sp n A .cnone :=
 ⟨fun cx fm e c h => by
  apply eNone h; intro k p k1
  exact elt_none,
  fun cx fm e c h => no h⟩
theorem s_cbool {b} :PE W t sp n A (.cbool b) :=
 ⟨fun cx fm e c h => by
  apply eBool h; intro j k p k1
  cases of_decide_eq_true k1
  exact elt_bool,
  fun cx fm e c h => no h⟩
theorem s_loc {i} :PE W t sp n A (.loc i) :=
 ⟨fun cx fm e c h => by
  obtain ⟨x,p,rfl,k1⟩ := iName h
  obtain ⟨⟨b,h1⟩,h2⟩ := loc_of c k1
  exact elt_loc h1 h2,
  fun cx fm e c h => by
  obtain ⟨x,p,rfl,k1⟩ := iName h
  obtain ⟨⟨b,h1⟩,h2⟩ := loc_of c k1
  exact test_whole (elt_loc h1 h2) (fun U U => rfl)⟩
theorem s_gint {x i} (S:Ctx0 W t sp n A) :PE W t sp n A (.gint x i) :=
 ⟨fun cx fm e c h => by
  apply eName h; intro y p k1
  refine ab3 k1 fun h0 h1 h2 => ?_
  obtain rfl := of_decide_eq_true h0
  refine ex0_1 (glb_of c h1) fun g1 g2 => ?_
  refine ex1_0 (S.tab.gint _ _ (of_decide_eq_true h2)) fun tk g3 => ?_
  exact elt_glob g1 g2 g3 fun U U => .int,
  fun cx fm e c h => no h⟩
theorem s_gtup {x is} (S:Ctx0 W t sp n A) :PE W t sp n A (.gtup x is) :=
 ⟨fun cx fm e c h => by
  apply eName h; intro y p k1
  refine ab3 k1 fun h0 h1 h2 => ?_
  obtain rfl := of_decide_eq_true h0
  refine ex0_1 (glb_of c h1) fun g1 g2 => ?_
  refine ex1_1 (S.tab.gtup _ _ (of_decide_eq_true h2)) fun rv g3 g4 => ?_
  exact elt_glob g1 g2 g3 g4,
  fun cx fm e c h => no h⟩
theorem s_bin {o a b} (ha:PE W t sp n A a) (hb:PE W t sp n A b):PE W t sp n A (.bin o a b) :=
 ⟨fun cx fm e c h => by
  apply eBin h; intro l op r p k1
  refine ab3 k1 fun h0 h1 h2 => ?_
  obtain rfl := of_decide_eq_true h0
  exact elt_bin (ha.1 _ _ _ c h1) (hb.1 _ _ _ c h2),
  fun cx fm e c h => no h⟩
theorem s_neg {i} :PE W t sp n A (.neg i) :=
 ⟨fun cx fm e c h => by
  apply eUSub h; intro x p k1
  apply eInt k1; intro j k p k2
  cases of_decide_eq_true k2
  exact elt_neg,
  fun cx fm e c h => no h⟩
theorem s_not {a} (ha:PE W t sp n A a):PE W t sp n A (.not a) :=
 ⟨fun cx fm e c h => by
  apply eNot h; intro x p k1
  exact elt_not (ha.1 _ _ _ c k1),
  fun cx fm e c h => by
  apply eNot h; intro x p k1
  exact test_not (ha.2 _ _ _ c k1)⟩
theorem s_cmp {o a b} (ha:PE W t sp n A a) (hb:PE W t sp n A b):PE W t sp n A (.cmp o a b) :=
 ⟨fun cx fm e c h => by
  apply eCmp h; intro l op r p k1
  refine ab4 k1 fun h0 h1 h2 h3 => ?_
  obtain rfl := of_decide_eq_true h0
  exact elt_cmp1 (R := fun x y Q H => cmpW o x y (fun v => Q (.bool v) H)) (nf h1) (ha.1 _ _ _ c h2) (hb.1 _ _ _ c h3) (fun k1 r1 r2 q => cmp_rule k1 r1 r2 q),
  fun cx fm e c h => by
  apply eCmp h; intro l op r p k1
  refine ab4 k1 fun h0 h1 h2 h3 => ?_
  obtain rfl := of_decide_eq_true h0
  exact test_cmp1 (R := fun x y Q H => cmpW o x y (fun v => Q (.bool v) H)) (nf h1) (ha.1 _ _ _ c h2) (hb.1 _ _ _ c h3) (fun k1 r1 r2 q => cmp_rule k1 r1 r2 q)⟩
theorem s_chain {o q a b d} (ha:PE W t sp n A a) (hb:PE W t sp n A b) (hd:PE W t sp n A d):PE W t sp n A (.chain o q a b d) :=
 ⟨fun cx fm e c h => no h,
  fun cx fm e c h => by
  apply eCmp2 h; intro l p1 p2 x y p k1
  refine ab6 k1 fun h0 h1 h2 h3 h4 h5 => ?_
  obtain rfl := of_decide_eq_true h0
  obtain rfl := of_decide_eq_true h1
  exact test_chain (nf h2) (ha.1 _ _ _ c h3) (hb.1 _ _ _ c h4) (hd.1 _ _ _ c h5)⟩
theorem s_isNone {a} (ha:PE W t sp n A a):PE W t sp n A (.isNone a) :=
 ⟨fun cx fm e c h => by
  apply eCmp h; intro l op r p k1
  refine ab3 k1 fun h0 h1 h2 => ?_
  obtain rfl := of_decide_eq_true h0
  apply eNone h1; intro k p _
  exact EltOk.imp (elt_cmp1 (R := noneR) rfl (ha.1 _ _ _ c h2) elt_none (fun k1 r1 r2 q => isNone_rule k1 r1 r2 (noneR_of q))) fun q => q,
  fun cx fm e c h => by
  apply eCmp h; intro l op r p k1
  refine ab3 k1 fun h0 h1 h2 => ?_
  obtain rfl := of_decide_eq_true h0
  apply eNone h1; intro k p _
  exact TestOk.imp (test_cmp1 (R := noneR) rfl (ha.1 _ _ _ c h2) elt_none (fun k1 r1 r2 q => isNone_rule k1 r1 r2 (noneR_of q))) fun q => q⟩
theorem s_inn {a b} (S:Ctx0 W t sp n A) (ha:PE W t sp n A a) (hb:PE W t sp n A b):PE W t sp n A (.inn a b) :=
 ⟨fun cx fm e c h => by
  apply eCmp h; intro l op r p k1
  refine ab4 k1 fun h0 h1 h2 h3 => ?_
  obtain rfl := of_decide_eq_true h0
  exact elt_cmp1 (R := fun x y Q H => inW x y Q H) (nf h1) (ha.1 _ _ _ c h2) (hb.1 _ _ _ c h3) (fun k1 r1 r2 q => in_rule S.hu k1 r1 r2 q),
  fun cx fm e c h => by
  apply eCmp h; intro l op r p k1
  refine ab4 k1 fun h0 h1 h2 h3 => ?_
  obtain rfl := of_decide_eq_true h0
  exact test_cmp1 (R := fun x y Q H => inW x y Q H) (nf h1) (ha.1 _ _ _ c h2) (hb.1 _ _ _ c h3) (fun k1 r1 r2 q => in_rule S.hu k1 r1 r2 q)⟩
theorem s_cmpL {k a b} (S:Ctx0 W t sp n A) (ha:PE W t sp n A a) (hb:PE W t sp n A b):PE W t sp n A (.cmpL k a b) :=
 ⟨fun cx fm e c h => by
  apply eCmp h; intro l op r p k1
  refine ab4 k1 fun h0 h1 h2 h3 => ?_
  obtain rfl := of_decide_eq_true h0
  exact elt_cmp1 (R := cmpLR k) (nf h1) (ha.1 _ _ _ c h2) (hb.1 _ _ _ c h3) (fun k1 r1 r2 q => cmpL_rule S.hu k1 r1 r2 (cmpLR_of q)),
  fun cx fm e c h => by
  apply eCmp h; intro l op r p k1
  refine ab4 k1 fun h0 h1 h2 h3 => ?_
  obtain rfl := of_decide_eq_true h0
  exact test_cmp1 (R := cmpLR k) (nf h1) (ha.1 _ _ _ c h2) (hb.1 _ _ _ c h3) (fun k1 r1 r2 q => cmpL_rule S.hu k1 r1 r2 (cmpLR_of q))⟩
theorem s_and {es} (hes:PS W t sp n A es):PE W t sp n A (.and es) :=
 ⟨fun cx fm e c h => by
  apply eAnd h; intro ys p k1
  exact elt_bool_op (hes.2.2.2.1 _ _ _ c k1),
  fun cx fm e c h => by
  apply eAnd h; intro ys p k1
  exact test_bool_op (hes.2.2.2.2.2.1 _ _ _ c k1)⟩
theorem s_or {es} (hes:PS W t sp n A es):PE W t sp n A (.or es) :=
 ⟨fun cx fm e c h => by
  apply eOr h; intro ys p k1
  exact elt_bool_op (hes.2.2.2.2.1 _ _ _ c k1),
  fun cx fm e c h => by
  apply eOr h; intro ys p k1
  exact test_bool_op (hes.2.2.2.2.2.2 _ _ _ c k1)⟩
theorem s_ite {k a b} (hk:PE W t sp n A k) (ha:PE W t sp n A a) (hb:PE W t sp n A b):PE W t sp n A (.ite k a b) :=
 ⟨fun cx fm e c h => by
  apply eIf h; intro x y z p k1
  refine ab3 k1 fun h0 h1 h2 => ?_
  exact elt_ite (hk.2 _ _ _ c h0) (ha.1 _ _ _ c h1) (hb.1 _ _ _ c h2),
  fun cx fm e c h => no h⟩
theorem s_tup {es} (hes:PS W t sp n A es):PE W t sp n A (.tup es) :=
 ⟨fun cx fm e c h => by
  apply eTup h; intro xs k p k1
  refine ab2 k1 fun h0 h1 => ?_
  exact elt_tup (of_decide_eq_true h0) (hes.1 _ _ _ c h1),
  fun cx fm e c h => no h⟩
theorem s_list {m es} (hes:PS W t sp n A es):PE W t sp n A (.list m es) :=
 ⟨fun cx fm e c h => by
  apply eList h; intro xs p k1
  exact elt_list (mu := m) (hes.1 _ _ _ c k1),
  fun cx fm e c h => no h⟩
theorem s_cat {m a b} (ha:PE W t sp n A a) (hb:PE W t sp n A b):PE W t sp n A (.cat m a b) :=
 ⟨fun cx fm e c h => by
  apply eBin h; intro l op r p k1
  refine ab3 k1 fun h0 h1 h2 => ?_
  obtain rfl := of_decide_eq_true h0
  exact elt_cat (mu := m) (ha.1 _ _ _ c h1) (hb.1 _ _ _ c h2),
  fun cx fm e c h => no h⟩
theorem s_rep {m a b} (ha:PE W t sp n A a) (hb:PE W t sp n A b):PE W t sp n A (.rep m a b) :=
 ⟨fun cx fm e c h => by
  apply eBin h; intro l op r p k1
  refine ab3 k1 fun h0 h1 h2 => ?_
  obtain rfl := of_decide_eq_true h0
  apply eList h1; intro xs p2 h1
  apply e1 h1; intro x h1
  refine ab2 h1 fun h3 h4 => ?_
  exact elt_rep (mu := m) h3 (ha.1 _ _ _ c h4) (hb.1 _ _ _ c h2),
  fun cx fm e c h => no h⟩
theorem s_dict0 :PE W t sp n A .dict0 :=
 ⟨fun cx fm e c h => by
  apply eDict0 h; intro p k1
  exact elt_dict0,
  fun cx fm e c h => no h⟩
theorem eEs1 {C:MEs→Prop} {cx:Cx} {es:MEs} {x:Expr} {ys:List Expr} (h:okEs t n cx es (x :: ys) = true) (hp:PA W t sp n A es) (k:∀ a r,PE W t sp n A a→PA W t sp n A r→okE t n cx a x = true→okEs t n cx r ys = true→C (.cons a r)):C es := by
 cases es with
 | nil => exact no h
 | cons a r => exact ab3 h fun U h1 h2 => k a r hp.1 hp.2 h1 h2
theorem eEs2 {C:MEs→Prop} {cx:Cx} {es:MEs} {x y:Expr} (h:okEs t n cx es [x,y] = true) (hp:PA W t sp n A es) (k:∀ a b,PE W t sp n A a→PE W t sp n A b→okE t n cx a x = true→okE t n cx b y = true→C (.cons a (.cons b .nil))):C es := by
 apply eEs1 h hp; intro a r ha hp h1 h
 apply eEs1 (C := fun r => C (.cons a r)) h hp; intro b r hb hp h2 h
 cases r with
 | nil => exact k a b ha hb h1 h2
 | cons _ _ => exact no h
theorem s_rcd {ks es} (hes:PS W t sp n A es):PE W t sp n A (.rcd ks es) :=
 ⟨fun cx fm e c h => by
  apply eDict2 h; intro k l x y p k1
  apply eStr k1; intro n1' p1 p2 k2
  apply eStr k2; intro n2' p3 p4 k3
  apply eC k3; intro c1 ks k4
  apply e1 k4; intro c2 k5
  apply ab4 k5; intro h0 h1 h2 h3
  apply eEs2 h3 hes.2.2.1; intro a b ha hb h4 h6
  intro F P l H s E Q hf q
  exact elt_sdict (of_decide_eq_true h0) (of_decide_eq_true h1) (of_decide_eq_false (nf h2)) (ha.1 _ _ _ c h4) (hb.1 _ _ _ c h6) hf q,
  fun cx fm e c h => no h⟩
theorem s_item {a i} (S:Ctx0 W t sp n A) (ha:PE W t sp n A a) (hi:PE W t sp n A i):PE W t sp n A (.item a i) :=
 ⟨fun cx fm e c h => by
  apply eSub h; intro x y p k1
  refine ab3 k1 fun h0 h1 h2 => ?_
  exact elt_item S.hu h0 (ha.1 _ _ _ c h1) (hi.1 _ _ _ c h2),
  fun cx fm e c h => no h⟩
theorem s_key {a k} (ha:PE W t sp n A a):PE W t sp n A (.key a k) :=
 ⟨fun cx fm e c h => by
  apply eSub h; intro x y p k1
  apply eStr k1; intro nm kk p1 k2
  refine ab2 k2 fun h0 h1 => ?_
  exact elt_key (of_decide_eq_true h0) (ha.1 _ _ _ c h1),
  fun cx fm e c h => no h⟩
theorem s_slice {m a lo hi} (ha:PE W t sp n A a) (hlo:PE W t sp n A lo) (hhi:PE W t sp n A hi):PE W t sp n A (.slice m a lo hi) :=
 ⟨fun cx fm e c h => by
  apply eSub h; intro x y p k1
  apply eSlice k1; intro l u p1 k2
  refine ab3 k2 fun h0 h1 h2 => ?_
  exact elt_slice (mu := m) (TL := fun l Q H => wpE sp lo l Q H) (TH := fun l Q H => wpE sp hi l Q H) (ha.1 _ _ _ c h0) (opt_of hlo c h1) (opt_of hhi c h2),
  fun cx fm e c h => no h⟩
theorem s_attr {C a k} (S:Ctx0 W t sp n A) (ha:PE W t sp n A a):PE W t sp n A (.attr C a k) :=
 ⟨fun cx fm e c h => by
  apply eAttr h; intro x nm p k1
  refine ab4 k1 fun h0 h1 h2 h3 => ?_
  exact elt_attr h0 (S.tab.cls _ (of_decide_eq_true h1)) (of_decide_eq_true h2) (ha.1 _ _ _ c h3),
  fun cx fm e c h => no h⟩
theorem s_call {f es} (S:Ctx0 W t sp n A) (hes:PS W t sp n A es):PE W t sp n A (.call f es) :=
 ⟨fun cx fm e c h => by
  apply eCall h; intro g xs p k1
  apply eName k1; intro x p1 k2
  apply ab5 k2; intro h0 h1 h2 h3 h4
  apply ex0_1 (glb_of c h0); intro g1 g2
  apply ex0_1 (S.tab.gfn _ _ (of_decide_eq_true h1)); intro g3 g4
  have h2 := of_decide_eq_true h2
  intro F P l H s E Q hf q
  exact elt_call g1 g2 g3 g4 (S.fn f h2) (S.room.room h2) h3 (hes.1 _ _ _ c h4) hf q,
  fun cx fm e c h => by
  apply eCall h; intro g xs p k1
  apply eName k1; intro x p1 k2
  apply ab5 k2; intro h0 h1 h2 h3 h4
  apply ex0_1 (glb_of c h0); intro g1 g2
  apply ex0_1 (S.tab.gfn _ _ (of_decide_eq_true h1)); intro g3 g4
  have h2 := of_decide_eq_true h2
  intro F P l H s E Q hf q
  exact test_whole (elt_call g1 g2 g3 g4 (S.fn f h2) (S.room.room h2) h3 (hes.1 _ _ _ c h4)) (fun U U => rfl) hf q⟩
theorem s_meth {f C a es} (S:Ctx0 W t sp n A) (ha:PE W t sp n A a) (hes:PS W t sp n A es):PE W t sp n A (.meth f C a es) :=
 ⟨fun cx fm e c h => by
  apply eCall h; intro g xs pos k1
  apply eAttr k1; intro o nm apos k2
  apply ab6 k2; intro h0 h1 h2 h3 h4 h5
  apply ab2 h4; intro h6 h7
  apply ab2 h5; intro h8 h9
  apply ex0_4 (S.tab.meths _ _ _ (of_decide_eq_true h6)); intro g1 g2 g3 g4 g5
  have h7 := of_decide_eq_true h7
  intro F P l H s E Q hf q
  exact elt_meth h0 h1 (line_of h2) (of_decide_eq_true h3) g1 g2 g3 g4 g5 (S.fn f h7) (S.room.room h7) (ha.1 _ _ _ c h8) (hes.1 _ _ _ c h9) hf q,
  fun cx fm e c h => no h⟩
theorem s_new {f C es} (S:Ctx0 W t sp n A) (hes:PS W t sp n A es):PE W t sp n A (.new f C es) :=
 ⟨fun cx fm e c h => by
  apply eCall h; intro g xs p k1
  apply eName k1; intro x p1 k2
  apply ab5 k2; intro h0 h1 h2 h3 h4
  apply ex0_1 (glb_of c h0); intro g1 g2
  apply ex0_3 (S.tab.gcls _ _ _ (of_decide_eq_true h1)); intro g3 g4 g5 g6
  have h2 := of_decide_eq_true h2
  intro F P l H s E Q hf q
  exact elt_new g1 g2 g3 g4 g5 g6 (S.fn f h2) (S.room.less h2) h3 (hes.1 _ _ _ c h4) hf q,
  fun cx fm e c h => no h⟩
theorem s_bi {b es} (S:Ctx0 W t sp n A) (hes:PS W t sp n A es):PE W t sp n A (.bi b es) :=
 ⟨fun cx fm e c h => by
  apply eCall h; intro g xs p k1
  apply eName k1; intro x p1 k2
  refine ab3 k2 fun h0 h1 h2 => ?_
  refine ab2 h0 fun h3 h4 => ?_
  refine ex0_1 (glb_of c h3) fun g1 g2 => ?_
  refine ex1_1 (ob_inv' h4) fun b' e' h4 => ?_
  refine ex0_2 (S.tab.gbi _ _ e') fun g3 g4 g5 => ?_
  rw [of_decide_eq_true h4] at g4
  exact elt_bi S.hh g1 g2 g3 g4 g5 h1 (hes.1 _ _ _ c h2),
  fun cx fm e c h => no h⟩
theorem s_append {a v} (ha:PE W t sp n A a) (hv:PE W t sp n A v):PE W t sp n A (.append a v) :=
 ⟨fun cx fm e c h => by
  apply eCall h; intro g xs pos k1
  apply eAttr k1; intro o nm apos k2
  apply e1 k2; intro x k3
  refine ab6 k3 fun h0 h1 h2 h3 h4 h5 => ?_
  obtain rfl := of_decide_eq_true h0
  exact elt_append h1 h2 (line_of h3) (ha.1 _ _ _ c h4) (hv.1 _ _ _ c h5),
  fun cx fm e c h => no h⟩
theorem s_extend {a v} (ha:PE W t sp n A a) (hv:PE W t sp n A v):PE W t sp n A (.extend a v) :=
 ⟨fun cx fm e c h => by
  apply eCall h; intro g xs pos k1
  apply eAttr k1; intro o nm apos k2
  apply e1 k2; intro x k3
  refine ab6 k3 fun h0 h1 h2 h3 h4 h5 => ?_
  obtain rfl := of_decide_eq_true h0
  exact elt_extend h1 h2 (line_of h3) (ha.1 _ _ _ c h4) (hv.1 _ _ _ c h5),
  fun cx fm e c h => no h⟩
theorem s_comp {m elt nl caps tg it cond} (S:Ctx0 W t sp n A) (helt:PE W t sp n A elt) (hit:PI W t sp n A it) (hcond:PS W t sp n A cond):PE W t sp n A (.comp m elt nl caps tg it cond) :=
 ⟨fun cx fm e c h => by
  apply eComp h; intro x gs scope p k1
  apply e1 k1; intro g k2
  apply eGen k2; intro tgt iter ifs k3
  apply ab6 k3; intro h0 h1 h2 h3 h4 h5
  have co := cmpOk_of c.names c.own h0
  intro F P l H s E Q hf q
  exact comp_eval (mu := m) (K := fun l items Q H => compW (fun l Q H => wpE sp elt l Q H) (fun l Q H => wpC sp cond l Q H) tg (baseC nl caps l) items [] Q H) co rfl (set_no h1) (hit _ _ _ _ _ c h3)
   (fun fd h0 d k3 hz q => comp1_run co S.hh h2 (fun C => helt.1 _ _ _ CxOk.comp h4) (fun C => hcond.2.1 _ _ _ CxOk.comp h5) fd h0 d k3 hz q) hf q,
  fun cx fm e c h => no h⟩
theorem s_comp2 {m elt nl caps tg it tg2 it2} (S:Ctx0 W t sp n A) (helt:PE W t sp n A elt) (hit:PI W t sp n A it) (hit2:PI W t sp n A it2):PE W t sp n A (.comp2 m elt nl caps tg it tg2 it2) :=
 ⟨fun cx fm e c h => by
  apply eComp h; intro x gs scope p k1
  apply eC k1; intro g gs k2
  apply e1 k2; intro g2 k3
  apply eGen k3; intro tgt iter ifs k4
  apply eGen k4; intro tgt2 iter2 ifs2 k5
  apply eTg k5; intro a k6
  apply eTg k6; intro b k7
  apply ab6 k7; intro h0 h1 h2 h3 h4 h5
  apply ab2 h0; intro h6 h7
  obtain rfl := i0 h6
  obtain rfl := i0 h7
  apply ab3 h1; intro m0 m1 m1'
  apply ab3 h2; intro m2 m2' m2''
  have co := cmpOk_of c.names c.own m0
  intro F P l H s E Q hf q
  exact comp_eval (mu := m) (K := fun l items Q H => comp2W (fun l Q H => wpE sp elt l Q H) (fun l Q H => wpI sp it2 l Q H) (.one a) (.one b) (baseC nl caps l) items [] Q H) co rfl (set_no m1) (hit _ _ _ _ _ c h3)
   (fun fd h0 d k7 hz q => comp2_run co S.hh m2 m2' (of_decide_eq_false (nf m2'')) (fun C => helt.1 _ _ _ CxOk.comp h4) (fun C => hit2 _ _ _ _ _ CxOk.comp h5) (set_no m1') fd h0 d k7 q) hf q,
  fun cx fm e c h => no h⟩
theorem s_freeze {a} (ha:PE W t sp n A a):PE W t sp n A (.freeze a) :=
 ⟨fun cx fm e c h => elt_freeze (ha.1 _ _ _ c h),
  fun cx fm e c h => no h⟩
theorem s_nil:PS W t sp n A .nil :=
 ⟨fun cx fm xs c h => by rw [i0 h]; exact fun hf q => elts_nil hf q,
  fun cx fm xs c h => by rw [i0 h]; exact fun hf q => cond_nil hf q,trivial,
  fun cx fm xs c h => no h,fun cx fm xs c h => no h,fun cx fm xs c h => no h,fun cx fm xs c h => no h⟩
theorem s_consB0 {a} (ha:PE W t sp n A a):PB W t sp n A (.cons a .nil) := by
 refine ⟨fun cx fm xs c h => ?_,fun cx fm xs c h => ?_,fun cx fm xs c h => ?_,fun cx fm xs c h => ?_⟩
 ·apply eC h; intro x ys k1
  apply ab2 k1; intro h1 h2
  obtain rfl := i0 h2; exact fun hf q => bool_one (ha.1 _ _ _ c h1) hf q
 ·apply eC h; intro x ys k1
  apply ab2 k1; intro h1 h2
  obtain rfl := i0 h2; exact fun hf q => bool_one (ha.1 _ _ _ c h1) hf q
 ·apply eC h; intro x ys k1
  apply ab2 k1; intro h1 h2
  obtain rfl := i0 h2; exact fun hf q => all_one_and (ha.2 _ _ _ c h1) hf q
 ·apply eC h; intro x ys k1
  apply ab2 k1; intro h1 h2
  obtain rfl := i0 h2; exact fun hf q => all_one_or (ha.2 _ _ _ c h1) hf q
theorem s_consB1 {a b r} (ha:PE W t sp n A a) (hr:PB W t sp n A (.cons b r)):PB W t sp n A (.cons a (.cons b r)) := by
 refine ⟨fun cx fm xs c h => ?_,fun cx fm xs c h => ?_,fun cx fm xs c h => ?_,fun cx fm xs c h => ?_⟩
 ·apply eC h; intro x ys k1
  apply ab2 k1; intro h1 h2
  obtain ⟨y,zs,rfl,_⟩ := iC (xs := ys) h2; exact fun hf q => and_cons (ha.1 _ _ _ c h1) (hr.1 _ _ _ c h2) hf q
 ·apply eC h; intro x ys k1
  apply ab2 k1; intro h1 h2
  obtain ⟨y,zs,rfl,_⟩ := iC (xs := ys) h2; exact fun hf q => or_cons (ha.1 _ _ _ c h1) (hr.2.1 _ _ _ c h2) hf q
 ·apply eC h; intro x ys k1
  apply ab2 k1; intro h1 h2
  obtain ⟨y,zs,rfl,_⟩ := iC (xs := ys) h2; exact fun hf q => all_cons_and (ha.2 _ _ _ c h1) (hr.2.2.1 _ _ _ c h2) hf q
 ·apply eC h; intro x ys k1
  apply ab2 k1; intro h1 h2
  obtain ⟨y,zs,rfl,_⟩ := iC (xs := ys) h2; exact fun hf q => all_cons_or (ha.2 _ _ _ c h1) (hr.2.2.2 _ _ _ c h2) hf q
theorem s_consB {a r} (ha:PE W t sp n A a) (hr:PB W t sp n A r):PB W t sp n A (.cons a r) := by
 cases r with
 | nil => exact s_consB0 ha
 | cons b r => exact s_consB1 ha hr
theorem s_cons {a r} (ha:PE W t sp n A a) (hr:PS W t sp n A r):PS W t sp n A (.cons a r) :=
 ⟨fun cx fm xs c h => by
  have hs := okEs_star h
  revert hs; apply eC h; intro x ys k1 hs
  apply ab3 k1; intro _ h1 h2
  intro F P l H s E Q pos hf q
  exact elts_cons hs (ha.1 _ _ _ c h1) (hr.1 _ _ _ c h2) hf q,
  fun cx fm xs c h => by
  apply e1 h; intro x k1
  apply ab2 k1; intro h1 h2
  cases r with
  | nil => exact fun hf q => cond_one (ha.2 _ _ _ c h2) hf q
  | cons b r => exact no h1,
  ⟨ha,hr.2.2.1⟩,s_consB ha hr.2.2.2⟩
theorem s_seq {live a} (S:Ctx0 W t sp n A) (ha:PE W t sp n A a):PI W t sp n A (.seq live a) := fun cx fm fz tgt e c h => by
 obtain ⟨h0,h1⟩ := a2 h
 exact fun hf q => iter_fz h0 (iter_seq (tgt := tgt) (live := live) S.hh (ha.1 _ _ _ c h1)) hf q
theorem s_range {es} (S:Ctx0 W t sp n A) (hes:PS W t sp n A es):PI W t sp n A (.range es) := fun cx fm fz tgt e c h => by
 apply eCall h; intro g xs p k1
 apply eName k1; intro x p1 k2
 refine ab4 k2 fun h0 h1 h2 h3 => ?_
 obtain rfl := of_decide_eq_true h0
 exact fun hf q => iter_rangeC S.hh (glb_of c h1).1 S.tab.rng.1 h2 (hes.1 _ _ _ c h3) hf q
theorem s_enum {a} (S:Ctx0 W t sp n A) (ha:PE W t sp n A a):PI W t sp n A (.enum a) := fun cx fm fz tgt e c h => by
 apply eCall h; intro g xs p k1
 apply eName k1; intro x p1 k2
 apply e1 k2; intro y k3
 refine ab5 k3 fun h0 h1 h2 h3 h4 => ?_
 obtain rfl := of_decide_eq_true h0
 apply eTup h3; intro ts k p2 _
 exact fun hf q => iter_enumC S.hh (glb_of c h1).1 S.tab.rng.2 h2 (ha.1 _ _ _ c h4) hf q
theorem allE (S:Ctx0 W t sp n A) (x:ME):PE W t sp n A x :=
 ME.rec (motive_1 := PE W t sp n A) (motive_2 := PS W t sp n A) (motive_3 := PI W t sp n A) (fun U => s_cint) s_cnone (fun U => s_cbool) (fun U => s_loc) (fun U U => s_gint S) (fun U U => s_gtup S) (fun U U U => s_bin) (fun U => s_neg) (fun U => s_not) (fun U U U => s_cmp) (fun U U U U U => s_chain) (fun U => s_isNone) (fun U U => s_inn S) (fun U U U => s_cmpL S) (fun U => s_and) (fun U => s_or) (fun U U U => s_ite) (fun U => s_tup) (fun U U => s_list) (fun U U U => s_cat) (fun U U U => s_rep) s_dict0 (fun U U => s_rcd) (fun U U => s_item S) (fun U U => s_key) (fun U U U U => s_slice) (fun U U U => s_attr S) (fun U U => s_call S) (fun U U U U => s_meth S) (fun U U U => s_new S) (fun U U => s_bi S) (fun U U => s_append) (fun U U => s_extend) (fun U U U U U U U => s_comp S) (fun U U U U U U U U => s_comp2 S) (fun U => s_freeze) s_nil (fun U U => s_cons) (fun U U => s_seq S) (fun U => s_range S) (fun U => s_enum S) x
theorem allS (S:Ctx0 W t sp n A) (x:MEs):PS W t sp n A x :=
 MEs.rec (motive_1 := PE W t sp n A) (motive_2 := PS W t sp n A) (motive_3 := PI W t sp n A) (fun U => s_cint) s_cnone (fun U => s_cbool) (fun U => s_loc) (fun U U => s_gint S) (fun U U => s_gtup S) (fun U U U => s_bin) (fun U => s_neg) (fun U => s_not) (fun U U U => s_cmp) (fun U U U U U => s_chain) (fun U => s_isNone) (fun U U => s_inn S) (fun U U U => s_cmpL S) (fun U => s_and) (fun U => s_or) (fun U U U => s_ite) (fun U => s_tup) (fun U U => s_list) (fun U U U => s_cat) (fun U U U => s_rep) s_dict0 (fun U U => s_rcd) (fun U U => s_item S) (fun U U => s_key) (fun U U U U => s_slice) (fun U U U => s_attr S) (fun U U => s_call S) (fun U U U U => s_meth S) (fun U U U => s_new S) (fun U U => s_bi S) (fun U U => s_append) (fun U U => s_extend) (fun U U U U U U U => s_comp S) (fun U U U U U U U U => s_comp2 S) (fun U => s_freeze) s_nil (fun U U => s_cons) (fun U U => s_seq S) (fun U => s_range S) (fun U => s_enum S) x
theorem allI (S:Ctx0 W t sp n A) (x:MI):PI W t sp n A x :=
 MI.rec (motive_1 := PE W t sp n A) (motive_2 := PS W t sp n A) (motive_3 := PI W t sp n A) (fun U => s_cint) s_cnone (fun U => s_cbool) (fun U => s_loc) (fun U U => s_gint S) (fun U U => s_gtup S) (fun U U U => s_bin) (fun U => s_neg) (fun U => s_not) (fun U U U => s_cmp) (fun U U U U U => s_chain) (fun U => s_isNone) (fun U U => s_inn S) (fun U U U => s_cmpL S) (fun U => s_and) (fun U => s_or) (fun U U U => s_ite) (fun U => s_tup) (fun U U => s_list) (fun U U U => s_cat) (fun U U U => s_rep) s_dict0 (fun U U => s_rcd) (fun U U => s_item S) (fun U U => s_key) (fun U U U U => s_slice) (fun U U U => s_attr S) (fun U U => s_call S) (fun U U U U => s_meth S) (fun U U U => s_new S) (fun U U => s_bi S) (fun U U => s_append) (fun U U => s_extend) (fun U U U U U U U => s_comp S) (fun U U U U U U U U => s_comp2 S) (fun U => s_freeze) s_nil (fun U U => s_cons) (fun U U => s_seq S) (fun U => s_range S) (fun U => s_enum S) x
theorem soundE (S:Ctx0 W t sp n A) (me:ME) {cx:Cx} {fm:Fm} {e:Expr} (c:CxOk cx fm) (h:okE t n cx me e = true):EltOk W A fm e (fun l Q H => wpE sp me l Q H) := (allE S me).1 _ _ _ c h
theorem soundT (S:Ctx0 W t sp n A) (me:ME) {cx:Cx} {fm:Fm} {e:Expr} (c:CxOk cx fm) (h:okT' t n cx me e = true):TestOk W A fm e (tr fun l Q H => wpE sp me l Q H) := (allE S me).2 _ _ _ c h
theorem soundEs (S:Ctx0 W t sp n A) (es:MEs) {cx:Cx} {fm:Fm} {xs:List Expr} (c:CxOk cx fm) (h:okEs t n cx es xs = true):EltsOk W A fm xs (fun l Q H => wpEs sp es l Q H) := (allS S es).1 _ _ _ c h
theorem soundC (S:Ctx0 W t sp n A) (es:MEs) {cx:Cx} {fm:Fm} {xs:List Expr} (c:CxOk cx fm) (h:okC t n cx es xs = true):CondOk W A fm xs (fun l Q H => wpC sp es l Q H) := (allS S es).2.1 _ _ _ c h
theorem soundI (S:Ctx0 W t sp n A) (it:MI) {cx:Cx} {fm:Fm} {fz:Bool} {tgt e:Expr} (c:CxOk cx fm) (h:okI t n cx fz tgt it e = true):IterOk W A fm tgt fz e (fun l Q H => wpI sp it l Q H) := allI S it _ _ _ _ _ c h
end
noncomputable def slotOk (cx:Cx) (i:Nat) (x:Str):Bool := ob cx.names[i]? fun y => decide (y.1 = x) && (!y.2 || cx.own)
noncomputable def swapC (cx:Cx) (i:Nat) (x:Str) (p vp:Pos) (scope:Scope):Bool := decide (cx.names[i]? = some (x,false)) && (p.line == vp.line) && !(scope.names.any fun (n,k) => n == x && (k == .local || k == .cell))
noncomputable def vCo (e:ME):Option (Σ' (m:Bool) (elt:ME) (nl:Nat) (caps:List Nat) (tg:Tg) (it:MI) (cond:MEs),e = .comp m elt nl caps tg it cond) := match e with
 | .comp m elt nl caps tg it cond => some ⟨m,elt,nl,caps,tg,it,cond,rfl⟩
 | _ => none
noncomputable def vFrz (s:MS):Option (Σ' (i:Nat),s = .frz i) := match s with
 | .frz i => some ⟨i,rfl⟩
 | _ => none
noncomputable def onF (s:MS) (a b:Bool):Bool := match vFrz s with
 | some _ => a
 | none => b
theorem iF {s:MS} {a b:Bool} (h:onF s a b = true):(∃ i,s = .frz i∧a = true) ∨ b = true := by
 unfold onF at h
 generalize vFrz s = o at h
 cases o with
 | some v => exact .inl (in1_1 v.1 v.2 h)
 | none => exact .inr h
noncomputable def swapT (ts:List Expr):Bool := ob (plainNames ((ts.head?.map (·.pos.line)).getD 0) ts) fun xs => decide (xs.eraseDups.length = xs.length)
mutual
noncomputable def okS (t:Tab) (n:Nat) (cx:Cx):MS→Stmt→Bool
 | .asg i e,st => onAsg st fun tgt v => onName tgt fun x p => (slotOk cx i x && noComp v && okE t n cx e v) || (ob (vCo e) fun U => onComp v fun U U scope vp => swapC cx i x p vp scope && okE t n cx e v)
 | .asgT is es,st => onAsg st fun tgt v => onTup tgt fun ts => onTup v fun vs => swapOk ts vs && okTs cx.names is ts && swapT ts && decide is.Nodup && okEs t n cx es vs
 | .unp is e,st => onAsg st fun tgt v => onTup tgt fun ts => noComp v && notSwapped ts v && okTs cx.names is ts && okE t n cx e v
 | .setA C a k e,st => onAsg st fun tgt v => onAttr tgt fun x nm U => noComp v && decide (C ∈ t.cls) && decide (tbl[k]? = some nm) && okE t n cx e v && okE t n cx a x
 | .setI a i e,st => onAsg st fun tgt v => onSub tgt fun x y => noComp v && okE t n cx e v && okE t n cx a x && okE t n cx i y
 | .setK a k e,st => onAsg st fun tgt v => onSub tgt fun x y => onStr y fun nm => noComp v && decide (tbl[k]? = some nm) && okE t n cx e v && okE t n cx a x
 | .expr e,st => onExpr st fun v => noComp v && okE t n cx e v
 | .ret e,st => onRet st fun v => okE t n cx e v
 | .ite c a b,st => onIfS st fun x ss ts => okT' t n cx c x && okSs t n cx a ss && okSs t n cx b ts
 | .whl c b,st => onWhl st fun x ss => okT' t n cx c x && okSs t n cx b ss
 | .forr tg it b,st => onFor st fun tgt iter ss => okSet iter && okI t n cx true tgt it iter && okT cx.names tg tgt && okSs t n cx b ss
 | .frz _,_ => false
 | .raise,_ => true
noncomputable def okSs (t:Tab) (n:Nat) (cx:Cx):MSs→List Stmt→Bool
 | .nil,ss => on0 ss
 | .cons s r,ss => onF s (okSs t n cx r ss) (onC ss fun st ss => okS t n cx s st && okSs t n cx r ss)
end
section
variable {W:Wd} {t:Tab} {sp:Nat→SpecT} {n:Nat} {A:Around} {cx:Cx} {fm:Fm} {F P PL PI:PM} {H:Hp} {s:Shared} {E:Value→Shared→Prop} {l:Loc} {m:Str→Option Value}
theorem slot_of (c:CxOk cx fm) {i:Nat} {x:Str} (h:slotOk cx i x = true):∃ b,fm.names[i]? = some (x,b)∧(b = true→fm.own = true) := by
 refine og fun G hG => ?_
 refine ex1_1 (ob_inv' h) fun xq1 e k => ?_
 obtain ⟨y,b⟩ := xq1
 refine ab2 k fun h1 h2 => ?_
 refine hG ?_; clear hG G
 refine (in1_1 b (by rw [c.names,e,← of_decide_eq_true h1]) (fun hb => ?_))
 rw [c.own]
 subst hb
 exact h2
theorem LocR.reslot {PP:PM} {i:Nat} {v:V} {a:Addr} (h:LocR F PP PL fm l m) (e:l[i]? = some (some (.ref a))) (r:VR F v (.ref a)):LocR F PP PL fm (l.set i (some v)) m := by
 refine ⟨fun j x u hx hu => ?_,fun j x u hx hu => ?_,h.own⟩
 ·rcases get_set_slot hu with ⟨rfl,rfl⟩ | ⟨ne,hu⟩
  ·refine ex1_1 (h.loc j x _ hx e) fun rv h1 h2 => ?_
   cases h2
   exact (in1_1 _ h1 r)
  ·exact h.loc j x u hx hu
 ·rcases get_set_slot hu with ⟨rfl,rfl⟩ | ⟨ne,hu⟩
  ·refine ex3_3 (h.cell j x _ hx e) fun c o rv h1 h2 h3 h4 => ?_
   cases h4
   exact (in3_3 c o _ h1 h2 h3 r)
  ·exact h.cell j x u hx hu
theorem body_frz {i:Nat} {body:List Stmt} {B:TS} (hb:BodyOk W A fm body B):BodyOk W A fm body (fun Qn Qr l H => (match l[i]? with
  | some (some (.ref a)) => (match H a with
   | some (.list xs) => B Qn Qr (l.set i (some (.lst xs))) (H.erase a)
   | some (.pdict es) => B Qn Qr (l.set i (some (.pd es))) (H.erase a)
   | _ => False)
  | _ => False)) := fun {F P l H s E Qn Qr} h q => by
 refine ex1_1 (mSlot q) fun a el q => ?_
 ·rcases mFrz q with ⟨xs,e,q⟩ | ⟨es,e,q⟩
  ·refine og fun G hG => ?_
   refine ex1_2 (h.frz_list e) fun F' le xq2 rr => ?_
   obtain ⟨PL,m,f⟩ := xq2
   refine hG ?_; clear hG G
   exact wk_mono (hb (in2_0 PL m ⟨f.ok,f.apart,f.hs,f.free,f.ns,f.lr.reslot el rr⟩) q) (fun U U p => PostS.from le p) fun U U e => e
  ·refine og fun G hG => ?_
   refine ex1_2 (h.frz_pd e) fun F' le xq3 rr => ?_
   obtain ⟨PL,m,f⟩ := xq3
   refine hG ?_; clear hG G
   exact wk_mono (hb (in2_0 PL m ⟨f.ok,f.apart,f.hs,f.free,f.ns,f.lr.reslot el rr⟩) q) (fun U U p => PostS.from le p) fun U U e => e
theorem st_raise {st:Stmt}:StmtOk W A fm st (fun U U U U => False) := fun U q => q.elim
theorem and3 {a b:Bool} (h1:a = true) (h2:b = true):(true && true && a && b) = true := by rw [h1,h2]; rfl
theorem st_asgC (S:Ctx0 W t sp n A) {i:Nat} {x:Str} {p pos:Pos} {m:Bool} {elt:ME} {nl:Nat} {caps:List Nat} {tg:Tg} {it:MI} {cond:MEs} {x1:Expr} {gs:List Comprehension} {scope:Scope} {vp:Pos} (c:CxOk cx fm)
  (hs:swapC cx i x p vp scope = true) (h:okE t n cx (.comp m elt nl caps tg it cond) (.ListComp x1 gs scope vp) = true) :
  StmtOk W A fm (.Assign [.Name x p] (.ListComp x1 gs scope vp) pos) (fun Qn U l H => wpE sp (.comp m elt nl caps tg it cond) l (fun v H => Qn (l.set i (some v)) H) H) := by
 apply ab3 hs; intro g1 g2 g3
 have g1 := of_decide_eq_true g1
 apply ex4_1 (iComp h); intro x2 gs2 scope2 pos2 eq k1
 injection eq with e1 e2 e3 e4
 subst e1 e2 e3 e4
 apply e1 k1; intro g k2
 apply eGen k2; intro tgt iter ifs k3
 apply ab6 k3; intro h0 h1 h2 h3 h4 h5
 have co := cmpOk_of c.names c.own h0
 intro F P l H s E Qn Qr hf q
 have hfm:FmOk fm := by obtain ⟨PL,m,f⟩ := hf; exact f.ok
 have hx:fm.names[i]? = some (x,false) := by rw [c.names]; exact g1
 have hsw:swapsWith (.ListComp x1 [⟨tgt,iter,ifs,0⟩] scope vp) (some (.Name x p)) pos.line fm.env = pure true := by
  show (pure _:Sem Bool) = pure true
  congr 1
  have hb:fm.env.blockKind = .function := by unfold Env.blockKind; rw [hfm.kind]; rfl
  rw [hb,hfm.loc x (List.mem_of_getElem? hx)]
  exact and3 g2 g3
 rw [exec_Assign]
 refine wk_bind (wk_standAt ?_)
 show wk _ _ (swapsWith (.ListComp x1 [⟨tgt,iter,ifs,0⟩] scope vp) (some (.Name x p)) pos.line fm.env >>= _) _ _ _
 rw [hsw]
 refine wk_bind (wk_pure ?_)
 rw [if_pos rfl]
 show wk _ _ ((comprehension (.ListComp x1 [⟨tgt,iter,ifs,0⟩] scope vp) scope fm.env iter.pos (newList []) false (eval iter fm.env) (some (assign (.Name x p) fm.env)) >>= fun U => pure ()) >>= fun U => pure Flow.next) _ _ _
 refine wk_bind (wk_bind (wk_mono (comp_asg (mu := m) (Qr := Qr) (K := fun l items Q H => compW (fun l Q H => wpE sp elt l Q H) (fun l Q H => wpC sp cond l Q H) tg (baseC nl caps l) items [] Q H) hx (fun e => by cases e) co rfl (set_no h1) (soundI S it c h3)
   (fun fd h0 d h hz q => comp1_run co S.hh h2 (fun C => soundE S elt CxOk.comp h4) (fun C => soundC S cond CxOk.comp h5) fd h0 d h hz q) hf q) (fun U s1 p => wk_pure (wk_pure p)) fun U U e => e))
end
section
variable {W:Wd} {t:Tab} {sp:Nat→SpecT} {n:Nat} {A:Around} {F P PL PI:PM} {H:Hp} {s:Shared} {E:Value→Shared→Prop} {l:Loc} {m:Str→Option Value}
noncomputable def QS (W:Wd) (t:Tab) (sp:Nat→SpecT) (n:Nat) (A:Around) (ms:MS):Prop :=
 ∀ cx fm st,CxOk cx fm→okS t n cx ms st = true→StmtOk W A fm st (fun Qn Qr l H => wpS sp ms Qn Qr l H)
noncomputable def QSs (W:Wd) (t:Tab) (sp:Nat→SpecT) (n:Nat) (A:Around) (ms:MSs):Prop :=
 ∀ cx fm ss,CxOk cx fm→okSs t n cx ms ss = true→BodyOk W A fm ss (fun Qn Qr l H => wpSs sp ms Qn Qr l H)
theorem t_asg {i e} (S:Ctx0 W t sp n A):QS W t sp n A (.asg i e) := fun cx fm st c h => by
 apply eAsg h; intro tgt v pos k1
 apply eName k1; intro x p k2
 rcases Bool.or_eq_true_iff.mp k2 with k | k
 ·refine ab3 k fun h0 h1 h2 => ?_
  refine ex1_1 (slot_of c h0) fun b g1 g2 => ?_
  exact st_asg h1 g1 g2 (soundE S e c h2)
 ·refine ex1_0 (ob_inv k) fun xq3 k3 => ?_
  obtain ⟨m,elt,nl,caps,tg,it,cond,rfl⟩ := xq3
  obtain ⟨x1,gs,scope,vp,rfl,k4⟩ := iComp k3
  refine ab2 k4 fun h1 h2 => ?_
  exact st_asgC S c h1 h2
theorem t_asgT {is es} (S:Ctx0 W t sp n A):QS W t sp n A (.asgT is es) := fun cx fm st c h => by
 apply eAsg h; intro tgt v pos k1
 apply eTup k1; intro ts k p k2
 apply eTup k2; intro vs k' p' k3
 refine ab5 k3 fun h0 h1 h2 h3 h4 => ?_
 refine ex1_1 (ob_inv' h2) fun xs ex h5 => ?_
 exact st_asgT S.hh h0 (c.names ▸ h1) ex (of_decide_eq_true h5) (of_decide_eq_true h3) (soundEs S es c h4)
theorem t_unp {is e} (S:Ctx0 W t sp n A):QS W t sp n A (.unp is e) := fun cx fm st c h => by
 apply eAsg h; intro tgt v pos k1
 apply eTup k1; intro ts k p k2
 refine ab4 k2 fun h0 h1 h2 h3 => ?_
 exact st_unp S.hh h0 h1 (c.names ▸ h2) (soundE S e c h3)
theorem t_setA {C a k e} (S:Ctx0 W t sp n A):QS W t sp n A (.setA C a k e) := fun cx fm st c h => by
 apply eAsg h; intro tgt v pos k1
 apply eAttr k1; intro x nm p k2
 refine ab5 k2 fun h0 h1 h2 h3 h4 => ?_
 exact st_setA h0 (S.tab.cls _ (of_decide_eq_true h1)) (of_decide_eq_true h2) (soundE S e c h3) (soundE S a c h4)
theorem t_setI {a i e} (S:Ctx0 W t sp n A):QS W t sp n A (.setI a i e) := fun cx fm st c h => by
 apply eAsg h; intro tgt v pos k1
 apply eSub k1; intro x y p k2
 refine ab4 k2 fun h0 h1 h2 h3 => ?_
 exact st_setI S.hu h0 (soundE S e c h1) (soundE S a c h2) (soundE S i c h3)
theorem t_setK {a k e} (S:Ctx0 W t sp n A):QS W t sp n A (.setK a k e) := fun cx fm st c h => by
 apply eAsg h; intro tgt v pos k1
 apply eSub k1; intro x y p k2
 apply eStr k2; intro nm kk p1 k3
 refine ab4 k3 fun h0 h1 h2 h3 => ?_
 exact st_setK h0 (of_decide_eq_true h1) (soundE S e c h2) (soundE S a c h3)
theorem t_expr {e} (S:Ctx0 W t sp n A):QS W t sp n A (.expr e) := fun cx fm st c h => by
 apply eExpr h; intro v pos k1
 refine ab2 k1 fun h0 h1 => ?_
 exact st_expr h0 (soundE S e c h1)
theorem t_ret {e} (S:Ctx0 W t sp n A):QS W t sp n A (.ret e) := fun cx fm st c h => by
 apply eRet h; intro v pos k1
 exact st_ret (soundE S e c k1)
theorem t_ite {k a b} (S:Ctx0 W t sp n A) (ha:QSs W t sp n A a) (hb:QSs W t sp n A b):QS W t sp n A (.ite k a b) := fun cx fm st c h => by
 apply eIfS h; intro x ss ts pos k1
 refine ab3 k1 fun h0 h1 h2 => ?_
 exact st_ite (soundT S k c h0) (ha _ _ _ c h1) (hb _ _ _ c h2)
theorem t_whl {k b} (S:Ctx0 W t sp n A) (hb:QSs W t sp n A b):QS W t sp n A (.whl k b) := fun cx fm st c h => by
 apply eWhl h; intro x ss pos k1
 refine ab2 k1 fun h0 h1 => ?_
 exact st_whl (soundT S k c h0) (hb _ _ _ c h1)
theorem t_forr {tg it b} (S:Ctx0 W t sp n A) (hb:QSs W t sp n A b):QS W t sp n A (.forr tg it b) := fun cx fm st c h => by
 apply eFor h; intro tgt iter ss pos k1
 refine ab4 k1 fun h0 h1 h2 h3 => ?_
 exact st_for S.hh (set_no h0) (soundI S it c h1) (c.names ▸ h2) (hb _ _ _ c h3)
theorem t_frz {i}:QS W t sp n A (.frz i) := fun cx fm st c h => no h
theorem t_raise:QS W t sp n A .raise := fun cx fm st c h => st_raise
theorem t_nil:QSs W t sp n A .nil := fun cx fm ss c h => by
 rw [i0 h]; exact body_nil
theorem t_cons {s r} (hs:QS W t sp n A s) (hr:QSs W t sp n A r):QSs W t sp n A (.cons s r) := fun cx fm ss c h => by
 rcases iF h with ⟨i,rfl,k⟩ | k
 ·exact body_frz (hr _ _ _ c k)
 ·apply eC k; intro st ss k1
  refine ab2 k1 fun h1 h2 => ?_
  exact body_cons (hs _ _ _ c h1) (hr _ _ _ c h2)
theorem soundSs (S:Ctx0 W t sp n A) (ms:MSs) {cx:Cx} {fm:Fm} {ss:List Stmt} (c:CxOk cx fm) (h:okSs t n cx ms ss = true):BodyOk W A fm ss (fun Qn Qr l H => wpSs sp ms Qn Qr l H) :=
 MSs.rec (motive_1 := QS W t sp n A) (motive_2 := QSs W t sp n A) (fun U U => t_asg S) (fun U U => t_asgT S) (fun U U => t_unp S) (fun U U U U => t_setA S) (fun U U U => t_setI S) (fun U U U => t_setK S) (fun U => t_expr S) (fun U => t_ret S)
  (fun U U U => t_ite S) (fun U U => t_whl S) (fun U U U => t_forr S) (fun U => t_frz) t_raise t_nil (fun U U => t_cons) ms cx fm ss c h
theorem fnOk_of {body:List Stmt} {fd:FuncData} {params:List Str} {names:List (Str × Bool)} {a:Addr} {o:Obj} {nl:Nat} {ms:MSs} {dflt:List V} {dvals:List Value}
  (tab:TabOk W t) (hlow:∀ f,f < n→FnOk W (sp f) (t.fa f) (f + 1)) (st:FnStat fd params names) (hb:W.hb.get? a = some o) (hd:o.data = .func fd) (hbody:fd.body = .stmts body) (hcd:∀ h:Heap,(∀ b o,W.hb.get? b = some o→h.get? b = some o)→h.CodeRec fd.code fd.qualname)
  (hbind:∀ {s:Shared} (vals:List Value),(∀ b o,W.hb.get? b = some o→s.heap.get? b = some o)→vals.length + dvals.length = params.length→BindsTo s fd ⟨vals,[]⟩ (params.zip (vals ++ dvals)))
  (hdv:∀ F,VRs F dflt dvals) (ok:okSs t n ⟨names,true,fd.scope.names⟩ ms body = true) :
  FnOk W (fun vs H Q => vs.length + dflt.length = params.length∧wpFn sp nl ms (vs ++ dflt) H Q) a (n + 1) := by
 intro A F P H s vs vals Q R hr hs r q hR
 refine ex0_1 q fun hlen q => ?_
 have hl1 := r.length
 have hl2 := (hdv F).length
 refine fn_enter (nl := nl) st hs (hs.base _ _ hb) hd hbody (hcd _ hs.keepB) (by have := hr.2.1; exact Nat.lt_of_add_right_lt this) (hbind vals hs.keepB (by lia)) (by rw [List.length_append]; lia) (r.append (hdv F)) (fun L s' hf => ?_)
 have S:Ctx0 W t sp n (A.deeper (fnFm fd L a names).env) := ⟨tab,hlow,hr.body⟩
 have c:CxOk ⟨names,true,fd.scope.names⟩ (fnFm fd L a names) := ⟨rfl,rfl,fun x h => h⟩
 unfold wpFn at q
 refine wk_mono (soundSs S ms c ok hf q) (fun f s2 p => ?_) fun U U e => e
 cases f with
 | next =>
  refine ex3_2 p fun F' l' H' le xq23 xq24 => ?_
  refine ex1_1 xq24 fun H2 l2 q2 => ?_; clear xq24
  obtain ⟨PL,m,g⟩ := xq23
  exact hR F' .none H2 .none s2 le ((g.hs.lessP fun b o e => by
   show ((P.un PL)) b = some o
   unfold PM.un
   rw [g.apart _ _ e]; simpa using e).less l2) .none q2
 | ret v =>
  refine ex4_3 p fun F' mv l' H' le xq25 rv xq26 => ?_
  refine ex1_1 xq26 fun H2 l2 q2 => ?_; clear xq26
  obtain ⟨PL,m,g⟩ := xq25
  exact hR F' mv H2 v s2 le ((g.hs.lessP fun b o e => by
   show ((P.un PL)) b = some o
   unfold PM.un
   rw [g.apart _ _ e]; simpa using e).less l2) rv q2
 | _ => exact p.elim
end
end
section
open PySem PySem.W
section
variable (addrBitWriter addrDeflateSigns:Addr)
noncomputable def b0:MSs :=
 (.cons (.setA addrBitWriter (.loc 0) 0 (.bi .bytearray .nil)) (.cons (.setA addrBitWriter (.loc 0) 1 (.loc 1)) (.cons (.setA addrBitWriter (.loc 0) 2 (.loc 2)) .nil)))
noncomputable def n0:List (Str × Bool) := [("self",false),("held",false),("many",false)]
noncomputable def p0:List Str := ["self","held","many"]
noncomputable def b1:MSs :=
 (.cons (.setA addrBitWriter (.loc 0) 1 (.bin .bor (.attr addrBitWriter (.loc 0) 1) (.bin .shl (.loc 1) (.attr addrBitWriter (.loc 0) 2)))) (.cons (.setA addrBitWriter (.loc 0) 2 (.bin .add (.attr addrBitWriter (.loc 0) 2) (.loc 2))) (.cons (.whl (.cmp .ge (.attr addrBitWriter (.loc 0) 2) (.cint 8))
  (.cons (.expr (.append (.attr addrBitWriter (.loc 0) 0) (.bin .band (.attr addrBitWriter (.loc 0) 1) (.cint 255)))) (.cons (.setA addrBitWriter (.loc 0) 1 (.bin .shr (.attr addrBitWriter (.loc 0) 1) (.cint 8))) (.cons (.setA addrBitWriter (.loc 0) 2 (.bin .sub (.attr addrBitWriter (.loc 0) 2) (.cint 8))) .nil)))) .nil)))
noncomputable def n1:List (Str × Bool) := [("self",false),("number",false),("many",false)]
noncomputable def p1:List Str := ["self","number","many"]
noncomputable def b2:MSs :=
 (.cons (.asg 3 (.cint 0)) (.cons (.forr (.one 4) (.range (.cons (.loc 2) .nil))
  (.cons (.asg 3 (.bin .bor (.bin .shl (.loc 3) (.cint 1)) (.bin .band (.bin .shr (.loc 1) (.loc 4)) (.cint 1)))) .nil)) (.cons (.expr (.meth 1 addrBitWriter (.loc 0) (.cons (.loc 3) (.cons (.loc 2) .nil)))) .nil)))
noncomputable def n2:List (Str × Bool) := [("self",false),("code",false),("many",false),("turned",false),("turn",false)]
noncomputable def p2:List Str := ["self","code","many"]
noncomputable def b3:MSs :=
 (.cons (.ite (.cmp .gt (.attr addrBitWriter (.loc 0) 2) (.cint 0))
  (.cons (.expr (.meth 1 addrBitWriter (.loc 0) (.cons (.cint 0) (.cons (.bin .sub (.cint 8) (.attr addrBitWriter (.loc 0) 2)) .nil)))) .nil)
  .nil) .nil)
noncomputable def n3:List (Str × Bool) := [("self",false)]
noncomputable def p3:List Str := ["self"]
noncomputable def b4:MSs :=
 (.cons (.ret (.bin .add (.bin .mul (.cint 8) (.bi .len (.cons (.attr addrBitWriter (.loc 0) 0) .nil))) (.attr addrBitWriter (.loc 0) 2))) .nil)
noncomputable def n4:List (Str × Bool) := [("self",false)]
noncomputable def p4:List Str := ["self"]
noncomputable def b5:MSs :=
 (.cons (.expr (.meth 3 addrBitWriter (.loc 0) .nil)) (.cons (.ret (.bi .bytes (.cons (.attr addrBitWriter (.loc 0) 0) .nil))) .nil))
noncomputable def n5:List (Str × Bool) := [("self",false)]
noncomputable def p5:List Str := ["self"]
noncomputable def b6:MSs :=
 (.cons (.asg 2 (.cint 0)) (.cons (.asg 3 (.bi .len (.cons (.loc 0) .nil))) (.cons (.whl (.cmp .gt (.bin .sub (.loc 3) (.loc 2)) (.cint 1))
  (.cons (.asg 4 (.bin .fdiv (.bin .add (.loc 2) (.loc 3)) (.cint 2))) (.cons (.ite (.cmp .le (.item (.item (.loc 0) (.loc 4)) (.cint 0)) (.loc 1))
  (.cons (.asg 2 (.loc 4)) .nil)
  (.cons (.asg 3 (.loc 4)) .nil)) .nil))) (.cons (.ret (.loc 2)) .nil))))
noncomputable def n6:List (Str × Bool) := [("ranges",false),("number",false),("low",false),("high",false),("middle",false)]
noncomputable def p6:List Str := ["ranges","number"]
noncomputable def b7:MSs :=
 (.cons (.asgT [0,1] (.cons (.list true .nil) (.cons (.cint 3) .nil))) (.cons (.forr (.one 2) (.range (.cons (.cint 28) .nil))
  (.cons (.asg 3 (.ite (.cmp .lt (.loc 2) (.cint 8)) (.cint 0) (.bin .sub (.bin .fdiv (.loc 2) (.cint 4)) (.cint 1)))) (.cons (.expr (.append (.loc 0) (.tup (.cons (.loc 1) (.cons (.loc 3) .nil))))) (.cons (.asg 1 (.bin .add (.loc 1) (.bin .shl (.cint 1) (.loc 3)))) .nil)))) (.cons (.expr (.append (.loc 0) (.tup (.cons (.gint "LONGEST" 258) (.cons (.cint 0) .nil))))) (.cons (.ret (.freeze (.loc 0))) .nil))))
noncomputable def n7:List (Str × Bool) := [("found",false),("least",false),("sign",false),("more",false)]
noncomputable def p7:List Str := []
noncomputable def b8:MSs :=
 (.cons (.asgT [0,1] (.cons (.list true .nil) (.cons (.cint 1) .nil))) (.cons (.forr (.one 2) (.range (.cons (.gint "MOST_DISTANCES" 30) .nil))
  (.cons (.asg 3 (.ite (.cmp .lt (.loc 2) (.cint 4)) (.cint 0) (.bin .sub (.bin .fdiv (.loc 2) (.cint 2)) (.cint 1)))) (.cons (.expr (.append (.loc 0) (.tup (.cons (.loc 1) (.cons (.loc 3) .nil))))) (.cons (.asg 1 (.bin .add (.loc 1) (.bin .shl (.cint 1) (.loc 3)))) .nil)))) (.cons (.ret (.freeze (.loc 0))) .nil)))
noncomputable def n8:List (Str × Bool) := [("found",false),("least",false),("sign",false),("more",false)]
noncomputable def p8:List Str := []
noncomputable def b9:MSs :=
 (.cons (.setA addrDeflateSigns (.loc 0) 3 (.call 7 .nil)) (.cons (.setA addrDeflateSigns (.loc 0) 4 (.call 8 .nil)) .nil))
noncomputable def n9:List (Str × Bool) := [("self",false)]
noncomputable def p9:List Str := ["self"]
noncomputable def b10:MSs :=
 (.cons (.asg 2 (.call 6 (.cons (.attr addrDeflateSigns (.loc 0) 3) (.cons (.loc 1) .nil)))) (.cons (.unp [3,4] (.item (.attr addrDeflateSigns (.loc 0) 3) (.loc 2))) (.cons (.ret (.tup (.cons (.bin .add (.gint "FIRST_LENGTH_SIGN" 257) (.loc 2)) (.cons (.bin .sub (.loc 1) (.loc 3)) (.cons (.loc 4) .nil))))) .nil)))
noncomputable def n10:List (Str × Bool) := [("self",false),("length",false),("place",false),("least",false),("more",false)]
noncomputable def p10:List Str := ["self","length"]
noncomputable def b11:MSs :=
 (.cons (.asg 2 (.call 6 (.cons (.attr addrDeflateSigns (.loc 0) 4) (.cons (.loc 1) .nil)))) (.cons (.unp [3,4] (.item (.attr addrDeflateSigns (.loc 0) 4) (.loc 2))) (.cons (.ret (.tup (.cons (.loc 2) (.cons (.bin .sub (.loc 1) (.loc 3)) (.cons (.loc 4) .nil))))) .nil)))
noncomputable def n11:List (Str × Bool) := [("self",false),("distance",false),("place",false),("least",false),("more",false)]
noncomputable def p11:List Str := ["self","distance"]
noncomputable def b12:MSs :=
 (.cons (.asg 2 (.rep true (.cint 0) (.gint "LITERAL_SIGNS" 286))) (.cons (.asg 3 (.rep true (.cint 0) (.gint "DISTANCE_SIGNS" 30))) (.cons (.setI (.loc 2) (.gint "END_SIGN" 256) (.cint 1)) (.cons (.forr (.one 4) (.seq false (.loc 1))
  (.cons (.ite (.cmp .eq (.bi .len (.cons (.loc 4) .nil)) (.cint 1))
  (.cons (.setI (.loc 2) (.item (.loc 4) (.cint 0)) (.bin .add (.item (.loc 2) (.item (.loc 4) (.cint 0))) (.cint 1))) .nil)
  (.cons (.asg 5 (.item (.meth 10 addrDeflateSigns (.loc 0) (.cons (.item (.loc 4) (.cint 0)) .nil)) (.cint 0))) (.cons (.setI (.loc 2) (.loc 5) (.bin .add (.item (.loc 2) (.loc 5)) (.cint 1))) (.cons (.asg 5 (.item (.meth 11 addrDeflateSigns (.loc 0) (.cons (.item (.loc 4) (.cint 1)) .nil)) (.cint 0))) (.cons (.setI (.loc 3) (.loc 5) (.bin .add (.item (.loc 3) (.loc 5)) (.cint 1))) .nil))))) .nil)) (.cons (.ret (.tup (.cons (.loc 2) (.cons (.loc 3) .nil)))) .nil)))))
noncomputable def n12:List (Str × Bool) := [("self",false),("row",false),("literals",false),("distances",false),("token",false),("sign",false)]
noncomputable def p12:List Str := ["self","row"]
noncomputable def b13:MSs :=
 (.cons (.asg 2 (.list true .nil)) (.cons (.asg 3 (.cint 0)) (.cons (.forr (.one 4) (.seq false (.loc 1))
  (.cons (.whl (.and (.cons (.cmp .lt (.loc 3) (.bi .len (.cons (.loc 0) .nil))) (.cons (.cmp .le (.item (.item (.loc 0) (.loc 3)) (.cint 0)) (.item (.loc 4) (.cint 0))) .nil)))
  (.cons (.expr (.append (.loc 2) (.item (.loc 0) (.loc 3)))) (.cons (.asg 3 (.bin .add (.loc 3) (.cint 1))) .nil))) (.cons (.expr (.append (.loc 2) (.loc 4))) .nil))) (.cons (.expr (.extend (.loc 2) (.slice false (.loc 0) (.loc 3) .cnone))) (.cons (.ret (.freeze (.loc 2))) .nil)))))
noncomputable def n13:List (Str × Bool) := [("singles",false),("pairs",false),("found",false),("place",false),("pair",false)]
noncomputable def p13:List Str := ["singles","pairs"]
noncomputable def b14:MSs :=
 (.cons (.asg 3 (.comp false (.loc 0) 2 [] (.many [0,1]) (.enum (.loc 0)) (.cons (.cmp .gt (.loc 1) (.cint 0)) .nil))) (.cons (.asg 4 (.rep true (.cint 0) (.bi .len (.cons (.loc 0) .nil)))) (.cons (.ite (.cmp .eq (.bi .len (.cons (.loc 3) .nil)) (.cint 1))
  (.cons (.setI (.loc 4) (.item (.loc 3) (.cint 0)) (.cint 1)) .nil)
  .nil) (.cons (.ite (.cmp .lt (.bi .len (.cons (.loc 3) .nil)) (.cint 2))
  (.cons (.ret (.freeze (.loc 4))) .nil)
  .nil) (.cons (.ite (.cmp .gt (.bi .len (.cons (.loc 3) .nil)) (.bin .shl (.cint 1) (.loc 1)))
  (.cons .raise .nil)
  .nil) (.cons (.asg 5 (.bi .sorted (.cons (.comp false (.tup (.cons (.item (.loc 1) (.loc 0)) (.cons (.loc 0) .nil))) 1 [0] (.one 0) (.seq false (.loc 3)) .nil) .nil))) (.cons (.asg 7 (.comp false (.tup (.cons (.loc 0) (.cons (.list false (.cons (.loc 1) .nil)) .nil))) 2 [] (.many [0,1]) (.seq false (.loc 5)) .nil)) (.cons (.asg 8 (.list false .nil)) (.cons (.forr (.one 9) (.range (.cons (.loc 1) .nil))
  (.cons (.asg 10 (.list true .nil)) (.cons (.forr (.one 11) (.range (.cons (.cint 0) (.cons (.bin .sub (.bi .len (.cons (.loc 8) .nil)) (.cint 1)) (.cons (.cint 2) .nil))))
  (.cons (.asg 12 (.item (.loc 8) (.loc 11))) (.cons (.asg 13 (.item (.loc 8) (.bin .add (.loc 11) (.cint 1)))) (.cons (.expr (.append (.loc 10) (.tup (.cons (.bin .add (.item (.loc 12) (.cint 0)) (.item (.loc 13) (.cint 0))) (.cons (.cat false (.item (.loc 12) (.cint 1)) (.item (.loc 13) (.cint 1))) .nil))))) .nil)))) (.cons (.asg 8 (.call 13 (.cons (.loc 7) (.cons (.freeze (.loc 10)) .nil)))) .nil)))) (.cons (.forr (.many [6,14]) (.seq false (.slice false (.loc 8) .cnone (.bin .sub (.bin .mul (.cint 2) (.bi .len (.cons (.loc 3) .nil))) (.cint 2))))
  (.cons (.forr (.one 2) (.seq false (.loc 14))
  (.cons (.setI (.loc 4) (.loc 2) (.bin .add (.item (.loc 4) (.loc 2)) (.cint 1))) .nil)) .nil)) (.cons (.ret (.freeze (.loc 4))) .nil)))))))))))
noncomputable def n14:List (Str × Bool) := [("counts",true),("most",false),("sign",false),("used",false),("found",false),("weighed",false),("weight",false),("singles",false),("row",false),("turn",false),("pairs",false),("place",false),("near",false),("far",false),("signs",false)]
noncomputable def p14:List Str := ["counts","most"]
noncomputable def b15:MSs :=
 (.cons (.asg 1 (.rep true (.cint 0) (.ite (.cmpL false (.loc 0) (.list false .nil)) (.bin .add (.bi .max (.cons (.loc 0) .nil)) (.cint 2)) (.cint 2)))) (.cons (.forr (.one 2) (.seq false (.loc 0))
  (.cons (.ite (.cmp .gt (.loc 2) (.cint 0))
  (.cons (.setI (.loc 1) (.loc 2) (.bin .add (.item (.loc 1) (.loc 2)) (.cint 1))) .nil)
  .nil) .nil)) (.cons (.asg 3 (.rep true (.cint 0) (.bi .len (.cons (.loc 1) .nil)))) (.cons (.asg 4 (.cint 0)) (.cons (.forr (.one 2) (.range (.cons (.cint 1) (.cons (.bi .len (.cons (.loc 1) .nil)) .nil)))
  (.cons (.asg 4 (.bin .shl (.bin .add (.loc 4) (.ite (.cmp .gt (.loc 2) (.cint 1)) (.item (.loc 1) (.bin .sub (.loc 2) (.cint 1))) (.cint 0))) (.cint 1))) (.cons (.setI (.loc 3) (.loc 2) (.loc 4)) .nil))) (.cons (.asg 5 (.list true .nil)) (.cons (.forr (.one 2) (.seq false (.loc 0))
  (.cons (.ite (.cmp .eq (.loc 2) (.cint 0))
  (.cons (.expr (.append (.loc 5) (.cint 0))) .nil)
  (.cons (.expr (.append (.loc 5) (.item (.loc 3) (.loc 2)))) (.cons (.setI (.loc 3) (.loc 2) (.bin .add (.item (.loc 3) (.loc 2)) (.cint 1))) .nil))) .nil)) (.cons (.ret (.freeze (.loc 5))) .nil))))))))
noncomputable def n15:List (Str × Bool) := [("lengths",false),("many",false),("length",false),("following",false),("code",false),("found",false)]
noncomputable def p15:List Str := ["lengths"]
noncomputable def b16:MSs :=
 (.cons (.asg 5 (.call 15 (.cons (.loc 3) .nil))) (.cons (.asg 6 (.call 15 (.cons (.loc 4) .nil))) (.cons (.forr (.one 7) (.seq false (.loc 2))
  (.cons (.ite (.cmp .eq (.bi .len (.cons (.loc 7) .nil)) (.cint 1))
  (.cons (.expr (.meth 2 addrBitWriter (.loc 1) (.cons (.item (.loc 5) (.item (.loc 7) (.cint 0))) (.cons (.item (.loc 3) (.item (.loc 7) (.cint 0))) .nil)))) .nil)
  (.cons (.unp [8,9,10] (.meth 10 addrDeflateSigns (.loc 0) (.cons (.item (.loc 7) (.cint 0)) .nil))) (.cons (.expr (.meth 2 addrBitWriter (.loc 1) (.cons (.item (.loc 5) (.loc 8)) (.cons (.item (.loc 3) (.loc 8)) .nil)))) (.cons (.expr (.meth 1 addrBitWriter (.loc 1) (.cons (.loc 9) (.cons (.loc 10) .nil)))) (.cons (.unp [8,9,10] (.meth 11 addrDeflateSigns (.loc 0) (.cons (.item (.loc 7) (.cint 1)) .nil))) (.cons (.expr (.meth 2 addrBitWriter (.loc 1) (.cons (.item (.loc 6) (.loc 8)) (.cons (.item (.loc 4) (.loc 8)) .nil)))) (.cons (.expr (.meth 1 addrBitWriter (.loc 1) (.cons (.loc 9) (.cons (.loc 10) .nil)))) .nil))))))) .nil)) (.cons (.expr (.meth 2 addrBitWriter (.loc 1) (.cons (.item (.loc 5) (.gint "END_SIGN" 256)) (.cons (.item (.loc 3) (.gint "END_SIGN" 256)) .nil)))) .nil))))
noncomputable def n16:List (Str × Bool) := [("self",false),("writer",false),("row",false),("literal_lengths",false),("distance_lengths",false),("literal_codes",false),("distance_codes",false),("token",false),("sign",false),("rest",false),("more",false)]
noncomputable def p16:List Str := ["self","writer","row","literal_lengths","distance_lengths"]
noncomputable def b17:MSs :=
 (.cons (.asg 2 (.bi .len (.cons (.loc 0) .nil))) (.cons (.whl (.and (.cons (.cmp .gt (.loc 2) (.loc 1)) (.cons (.cmp .eq (.item (.loc 0) (.bin .sub (.loc 2) (.cint 1))) (.cint 0)) .nil)))
  (.cons (.asg 2 (.bin .sub (.loc 2) (.cint 1))) .nil)) (.cons (.ret (.slice false (.loc 0) .cnone (.loc 2))) .nil)))
noncomputable def n17:List (Str × Bool) := [("lengths",false),("least",false),("many",false)]
noncomputable def p17:List Str := ["lengths","least"]
noncomputable def b18:MSs :=
 (.cons (.asg 1 (.list true .nil)) (.cons (.asg 2 (.cint 0)) (.cons (.whl (.cmp .lt (.loc 2) (.bi .len (.cons (.loc 0) .nil)))
  (.cons (.asg 3 (.item (.loc 0) (.loc 2))) (.cons (.asg 4 (.cint 1)) (.cons (.whl (.and (.cons (.cmp .lt (.bin .add (.loc 2) (.loc 4)) (.bi .len (.cons (.loc 0) .nil))) (.cons (.cmp .eq (.item (.loc 0) (.bin .add (.loc 2) (.loc 4))) (.loc 3)) .nil)))
  (.cons (.asg 4 (.bin .add (.loc 4) (.cint 1))) .nil)) (.cons (.asg 2 (.bin .add (.loc 2) (.loc 4))) (.cons (.ite (.cmp .gt (.loc 3) (.cint 0))
  (.cons (.expr (.append (.loc 1) (.tup (.cons (.loc 3) (.cons (.cint 0) (.cons (.cint 0) .nil)))))) (.cons (.asg 4 (.bin .sub (.loc 4) (.cint 1))) .nil))
  .nil) (.cons (.whl (.cmp .ge (.loc 4) (.cint 3))
  (.cons (.ite (.cmp .gt (.loc 3) (.cint 0))
  (.cons (.asg 5 (.bi .min (.cons (.loc 4) (.cons (.cint 6) .nil)))) (.cons (.expr (.append (.loc 1) (.tup (.cons (.gint "AGAIN_SIGN" 16) (.cons (.bin .sub (.loc 5) (.cint 3)) (.cons (.cint 2) .nil)))))) .nil))
  (.cons (.ite (.cmp .le (.loc 4) (.cint 10))
  (.cons (.asg 5 (.loc 4)) (.cons (.expr (.append (.loc 1) (.tup (.cons (.gint "FEW_NOUGHTS_SIGN" 17) (.cons (.bin .sub (.loc 5) (.cint 3)) (.cons (.cint 3) .nil)))))) .nil))
  (.cons (.asg 5 (.bi .min (.cons (.loc 4) (.cons (.cint 138) .nil)))) (.cons (.expr (.append (.loc 1) (.tup (.cons (.gint "MANY_NOUGHTS_SIGN" 18) (.cons (.bin .sub (.loc 5) (.cint 11)) (.cons (.cint 7) .nil)))))) .nil))) .nil)) (.cons (.asg 4 (.bin .sub (.loc 4) (.loc 5))) .nil))) (.cons (.forr (.one 6) (.range (.cons (.loc 4) .nil))
  (.cons (.expr (.append (.loc 1) (.tup (.cons (.loc 3) (.cons (.cint 0) (.cons (.cint 0) .nil)))))) .nil)) .nil)))))))) (.cons (.ret (.freeze (.loc 1))) .nil))))
noncomputable def n18:List (Str × Bool) := [("lengths",false),("found",false),("at",false),("length",false),("many",false),("part",false),("turn",false)]
noncomputable def p18:List Str := ["lengths"]
noncomputable def b19:MSs :=
 (.cons (.asg 1 (.cint 0)) (.cons (.whl (.cmp .lt (.bi .len (.cons (.comp false (.loc 0) 1 [] (.one 0) (.seq true (.loc 0)) (.cons (.cmp .gt (.loc 0) (.cint 0)) .nil)) .nil)) (.cint 2))
  (.cons (.ite (.cmp .eq (.item (.loc 0) (.loc 1)) (.cint 0))
  (.cons (.setI (.loc 0) (.loc 1) (.cint 1)) .nil)
  .nil) (.cons (.asg 1 (.bin .add (.loc 1) (.cint 1))) .nil))) .nil))
noncomputable def n19:List (Str × Bool) := [("counts",false),("sign",false)]
noncomputable def p19:List Str := ["counts"]
noncomputable def b20:MSs :=
 (.cons (.asg 3 (.new 9 addrDeflateSigns .nil)) (.cons (.unp [4,5] (.meth 12 addrDeflateSigns (.loc 3) (.cons (.loc 1) .nil))) (.cons (.expr (.call 19 (.cons (.loc 4) .nil))) (.cons (.asg 6 (.call 17 (.cons (.call 14 (.cons (.freeze (.loc 4)) (.cons (.gint "MOST_BITS" 15) .nil))) (.cons (.bin .add (.gint "END_SIGN" 256) (.cint 1)) .nil)))) (.cons (.asg 7 (.call 17 (.cons (.call 14 (.cons (.freeze (.loc 5)) (.cons (.gint "MOST_BITS" 15) .nil))) (.cons (.cint 1) .nil)))) (.cons (.asg 8 (.call 18 (.cons (.cat false (.loc 6) (.loc 7)) .nil))) (.cons (.asg 9 (.rep true (.cint 0) (.gint "HEAD_SIGNS" 19))) (.cons (.forr (.many [10,11,12]) (.seq false (.loc 8))
  (.cons (.setI (.loc 9) (.loc 10) (.bin .add (.item (.loc 9) (.loc 10)) (.cint 1))) .nil)) (.cons (.expr (.call 19 (.cons (.loc 9) .nil))) (.cons (.asg 13 (.call 14 (.cons (.freeze (.loc 9)) (.cons (.gint "MOST_HEAD_BITS" 7) .nil)))) (.cons (.asg 14 (.call 15 (.cons (.loc 13) .nil))) (.cons (.asg 15 (.call 17 (.cons (.comp false (.item (.loc 1) (.loc 0)) 1 [13] (.one 0) (.seq false (.gtup "LENGTH_ORDER" [16,17,18,0,8,7,9,6,10,5,11,4,12,3,13,2,14,1,15])) .nil) (.cons (.cint 4) .nil)))) (.cons (.expr (.meth 1 addrBitWriter (.loc 0) (.cons (.ite (.loc 2) (.cint 1) (.cint 0)) (.cons (.cint 1) .nil)))) (.cons (.expr (.meth 1 addrBitWriter (.loc 0) (.cons (.cint 2) (.cons (.cint 2) .nil)))) (.cons (.expr (.meth 1 addrBitWriter (.loc 0) (.cons (.bin .sub (.bin .sub (.bi .len (.cons (.loc 6) .nil)) (.gint "END_SIGN" 256)) (.cint 1)) (.cons (.cint 5) .nil)))) (.cons (.expr (.meth 1 addrBitWriter (.loc 0) (.cons (.bin .sub (.bi .len (.cons (.loc 7) .nil)) (.cint 1)) (.cons (.cint 5) .nil)))) (.cons (.expr (.meth 1 addrBitWriter (.loc 0) (.cons (.bin .sub (.bi .len (.cons (.loc 15) .nil)) (.cint 4)) (.cons (.cint 4) .nil)))) (.cons (.forr (.one 16) (.seq false (.loc 15))
  (.cons (.expr (.meth 1 addrBitWriter (.loc 0) (.cons (.loc 16) (.cons (.cint 3) .nil)))) .nil)) (.cons (.forr (.many [10,11,12]) (.seq false (.loc 8))
  (.cons (.expr (.meth 2 addrBitWriter (.loc 0) (.cons (.item (.loc 14) (.loc 10)) (.cons (.item (.loc 13) (.loc 10)) .nil)))) (.cons (.expr (.meth 1 addrBitWriter (.loc 0) (.cons (.loc 11) (.cons (.loc 12) .nil)))) .nil))) (.cons (.expr (.meth 16 addrDeflateSigns (.loc 3) (.cons (.loc 0) (.cons (.loc 1) (.cons (.loc 6) (.cons (.loc 7) .nil)))))) .nil))))))))))))))))))))
noncomputable def n20:List (Str × Bool) := [("writer",false),("row",false),("is_last",false),("signs",false),("literals",false),("distances",false),("literal_lengths",false),("distance_lengths",false),("runs",false),("heads",false),("sign",false),("rest",false),("more",false),("head_lengths",true),("head_codes",false),("told",false),("length",false)]
noncomputable def p20:List Str := ["writer","row","is_last"]
noncomputable def b21:MSs :=
 (.cons (.ret (.comp2 false (.bin .mod (.bin .fdiv (.loc 0) (.bin .pow (.cint 2) (.loc 1))) (.cint 2)) 2 [] (.one 0) (.seq false (.loc 0)) (.one 1) (.range (.cons (.cint 8) .nil)))) .nil)
noncomputable def n21:List (Str × Bool) := [("octets",false)]
noncomputable def p21:List Str := ["octets"]
noncomputable def b22:MSs :=
 (.cons (.asg 2 (.key (.loc 0) 5)) (.cons (.setK (.loc 0) 5 (.bin .add (.loc 2) (.loc 1))) (.cons (.ret (.bi .sum (.cons (.comp false (.bin .mul (.loc 1) (.bin .pow (.cint 2) (.loc 0))) 2 [] (.many [0,1]) (.enum (.slice false (.key (.loc 0) 6) (.loc 2) (.bin .add (.loc 2) (.loc 1)))) .nil) .nil))) .nil)))
noncomputable def n22:List (Str × Bool) := [("read",false),("many",false),("at",false)]
noncomputable def p22:List Str := ["read","many"]
noncomputable def b23:MSs :=
 (.cons (.asgT [1,2,3] (.cons .dict0 (.cons (.cint 0) (.cons (.cint 0) .nil)))) (.cons (.forr (.many [5,4]) (.seq false (.bi .sorted (.cons (.comp false (.tup (.cons (.loc 1) (.cons (.loc 0) .nil))) 2 [] (.many [0,1]) (.enum (.loc 0)) (.cons (.cmp .gt (.loc 1) (.cint 0)) .nil)) .nil)))
  (.cons (.asg 2 (.bin .mul (.loc 2) (.bin .pow (.cint 2) (.bin .sub (.loc 5) (.loc 3))))) (.cons (.setI (.loc 1) (.tup (.cons (.loc 5) (.cons (.loc 2) .nil))) (.loc 4)) (.cons (.asgT [2,3] (.cons (.bin .add (.loc 2) (.cint 1)) (.cons (.loc 5) .nil))) .nil)))) (.cons (.ret (.freeze (.loc 1))) .nil)))
noncomputable def n23:List (Str × Bool) := [("lengths",false),("found",false),("code",false),("was",false),("sign",false),("length",false)]
noncomputable def p23:List Str := ["lengths"]
noncomputable def b24:MSs :=
 (.cons (.unp [2,3] (.tup (.cons (.cint 0) (.cons (.cint 0) .nil)))) (.cons (.whl (.cmp .lt (.loc 2) (.cint 16))
  (.cons (.asg 3 (.bin .add (.bin .mul (.loc 3) (.cint 2)) (.call 22 (.cons (.loc 0) (.cons (.cint 1) .nil))))) (.cons (.asg 2 (.bin .add (.loc 2) (.cint 1))) (.cons (.ite (.inn (.tup (.cons (.loc 2) (.cons (.loc 3) .nil))) (.loc 1))
  (.cons (.ret (.item (.loc 1) (.tup (.cons (.loc 2) (.cons (.loc 3) .nil))))) .nil)
  .nil) .nil)))) (.cons (.ret (.neg 1)) .nil)))
noncomputable def n24:List (Str × Bool) := [("read",false),("tree",false),("many",false),("code",false)]
noncomputable def p24:List Str := ["read","tree"]
noncomputable def b25:MSs :=
 (.cons (.asg 2 (.comp false (.loc 0) 1 [] (.one 0) (.seq false (.loc 0)) (.cons (.cmp .gt (.loc 0) (.cint 0)) .nil))) (.cons (.ret (.or (.cons (.cmp .lt (.bi .len (.cons (.loc 2) .nil)) (.loc 1)) (.cons (.cmp .eq (.bi .sum (.cons (.comp false (.bin .fdiv (.cint 32768) (.bin .pow (.cint 2) (.loc 0))) 1 [] (.one 0) (.seq false (.loc 2)) .nil) .nil)) (.cint 32768)) .nil)))) .nil))
noncomputable def n25:List (Str × Bool) := [("lengths",false),("least",false),("some",false)]
noncomputable def p25:List Str := ["lengths","least"]
noncomputable def b26:MSs :=
 (.cons (.asgT [1,2,3] (.cons (.bin .add (.cint 257) (.call 22 (.cons (.loc 0) (.cons (.cint 5) .nil)))) (.cons (.bin .add (.cint 1) (.call 22 (.cons (.loc 0) (.cons (.cint 5) .nil)))) (.cons (.bin .add (.cint 4) (.call 22 (.cons (.loc 0) (.cons (.cint 4) .nil)))) .nil)))) (.cons (.asgT [4,5] (.cons (.list false (.cons (.cint 16) (.cons (.cint 17) (.cons (.cint 18) (.cons (.cint 0) (.cons (.cint 8) (.cons (.cint 7) (.cons (.cint 9) (.cons (.cint 6) (.cons (.cint 10) (.cons (.cint 5) (.cons (.cint 11) (.cons (.cint 4) (.cons (.cint 12) (.cons (.cint 3) (.cons (.cint 13) (.cons (.cint 2) (.cons (.cint 14) (.cons (.cint 1) (.cons (.cint 15) .nil)))))))))))))))))))) (.cons (.rep true (.cint 0) (.cint 19)) .nil))) (.cons (.forr (.one 6) (.range (.cons (.loc 3) .nil))
  (.cons (.setI (.loc 5) (.item (.loc 4) (.loc 6)) (.call 22 (.cons (.loc 0) (.cons (.cint 3) .nil)))) .nil)) (.cons (.frz 5) (.cons (.ite (.or (.cons (.not (.call 25 (.cons (.loc 5) (.cons (.cint 2) .nil)))) (.cons (.cmp .gt (.bi .max (.cons (.loc 5) .nil)) (.cint 7)) (.cons (.and (.cons (.cmp .gt (.loc 3) (.cint 4)) (.cons (.cmp .eq (.item (.loc 5) (.item (.loc 4) (.bin .sub (.loc 3) (.cint 1)))) (.cint 0)) .nil))) (.cons (.cmp .gt (.loc 1) (.cint 286)) (.cons (.cmp .gt (.loc 2) (.cint 30)) .nil))))))
  (.cons (.ret .cnone) .nil)
  .nil) (.cons (.asgT [7,8] (.cons (.call 23 (.cons (.loc 5) .nil)) (.cons (.list true .nil) .nil))) (.cons (.whl (.cmp .lt (.bi .len (.cons (.loc 8) .nil)) (.bin .add (.loc 1) (.loc 2)))
  (.cons (.asg 9 (.call 24 (.cons (.loc 0) (.cons (.loc 7) .nil)))) (.cons (.ite (.or (.cons (.cmp .lt (.loc 9) (.cint 0)) (.cons (.and (.cons (.cmp .eq (.loc 9) (.cint 16)) (.cons (.cmpL true (.loc 8) (.list false .nil)) .nil))) .nil)))
  (.cons (.ret .cnone) .nil)
  .nil) (.cons (.ite (.cmp .lt (.loc 9) (.cint 16))
  (.cons (.expr (.append (.loc 8) (.loc 9))) .nil)
  (.cons (.ite (.cmp .eq (.loc 9) (.cint 16))
  (.cons (.asg 8 (.cat true (.loc 8) (.rep false (.item (.loc 8) (.neg 1)) (.bin .add (.cint 3) (.call 22 (.cons (.loc 0) (.cons (.cint 2) .nil))))))) .nil)
  (.cons (.asg 8 (.cat true (.loc 8) (.rep false (.cint 0) (.ite (.cmp .eq (.loc 9) (.cint 17)) (.bin .add (.cint 3) (.call 22 (.cons (.loc 0) (.cons (.cint 3) .nil)))) (.bin .add (.cint 11) (.call 22 (.cons (.loc 0) (.cons (.cint 7) .nil)))))))) .nil)) .nil)) .nil)))) (.cons (.ite (.or (.cons (.cmp .gt (.bi .len (.cons (.loc 8) .nil)) (.bin .add (.loc 1) (.loc 2))) (.cons (.and (.cons (.cmp .gt (.loc 1) (.cint 257)) (.cons (.cmp .eq (.item (.loc 8) (.bin .sub (.loc 1) (.cint 1))) (.cint 0)) .nil))) (.cons (.and (.cons (.cmp .gt (.loc 2) (.cint 1)) (.cons (.cmp .eq (.item (.loc 8) (.neg 1)) (.cint 0)) .nil))) .nil))))
  (.cons (.ret .cnone) .nil)
  .nil) (.cons (.ret (.tup (.cons (.slice false (.loc 8) .cnone (.loc 1)) (.cons (.slice false (.loc 8) (.loc 1) .cnone) .nil)))) .nil)))))))))
noncomputable def n26:List (Str × Bool) := [("read",false),("many",false),("far",false),("told",false),("order",false),("heads",false),("k",false),("tree",false),("found",false),("sign",false)]
noncomputable def p26:List Str := ["read"]
noncomputable def b27:MSs :=
 (.cons (.asg 3 (.list true .nil)) (.cons (.whl (.cmp .lt (.bi .len (.cons (.loc 3) .nil)) (.cint 60))
  (.cons (.asg 4 (.call 24 (.cons (.loc 0) (.cons (.loc 1) .nil)))) (.cons (.ite (.cmp .eq (.loc 4) (.cint 256))
  (.cons (.ret (.freeze (.loc 3))) .nil)
  .nil) (.cons (.ite (.chain .le .lt (.cint 0) (.loc 4) (.cint 256))
  (.cons (.expr (.append (.loc 3) (.tup (.cons (.loc 4) .nil)))) .nil)
  (.cons (.ite (.cmp .lt (.loc 4) (.cint 0))
  (.cons (.ret .cnone) .nil)
  (.cons (.asg 5 (.ite (.or (.cons (.cmp .lt (.loc 4) (.cint 265)) (.cons (.cmp .eq (.loc 4) (.cint 285)) .nil))) (.cint 0) (.bin .fdiv (.bin .sub (.loc 4) (.cint 261)) (.cint 4)))) (.cons (.asg 6 (.ite (.cmp .lt (.loc 4) (.cint 265)) (.bin .sub (.loc 4) (.cint 254)) (.ite (.cmp .eq (.loc 4) (.cint 285)) (.cint 258) (.bin .add (.cint 3) (.bin .mul (.bin .add (.cint 4) (.bin .mod (.bin .sub (.loc 4) (.cint 265)) (.cint 4))) (.bin .pow (.cint 2) (.loc 5))))))) (.cons (.asg 7 (.bin .add (.loc 6) (.call 22 (.cons (.loc 0) (.cons (.loc 5) .nil))))) (.cons (.asg 4 (.call 24 (.cons (.loc 0) (.cons (.loc 2) .nil)))) (.cons (.asg 5 (.ite (.cmp .lt (.loc 4) (.cint 4)) (.cint 0) (.bin .sub (.bin .fdiv (.loc 4) (.cint 2)) (.cint 1)))) (.cons (.asg 8 (.bin .add (.ite (.cmp .lt (.loc 4) (.cint 4)) (.bin .add (.cint 1) (.loc 4)) (.bin .add (.cint 1) (.bin .mul (.bin .add (.cint 2) (.bin .mod (.loc 4) (.cint 2))) (.bin .pow (.cint 2) (.loc 5))))) (.call 22 (.cons (.loc 0) (.cons (.loc 5) .nil))))) (.cons (.expr (.append (.loc 3) (.tup (.cons (.loc 7) (.cons (.loc 8) .nil))))) .nil)))))))) .nil)) .nil)))) (.cons (.ret .cnone) .nil)))
noncomputable def n27:List (Str × Bool) := [("read",false),("near",false),("far",false),("found",false),("sign",false),("more",false),("least",false),("length",false),("back",false)]
noncomputable def p27:List Str := ["read","near","far"]
noncomputable def b28:MSs :=
 (.cons (.asg 1 (.list true .nil)) (.cons (.forr (.one 2) (.seq false (.loc 0))
  (.cons (.asgT [3,4] (.cons (.bin .mod (.loc 2) (.cint 4)) (.cons (.bin .fdiv (.loc 2) (.cint 4)) .nil))) (.cons (.ite (.cmp .eq (.loc 3) (.cint 0))
  (.cons (.expr (.append (.loc 1) (.tup (.cons (.bin .mul (.bin .mod (.loc 4) (.cint 7)) (.cint 37)) .nil)))) .nil)
  (.cons (.ite (.cmp .eq (.loc 3) (.cint 1))
  (.cons (.asg 1 (.cat true (.loc 1) (.rep false (.tup (.cons (.bin .mod (.loc 4) (.cint 256)) .nil)) (.bin .add (.cint 1) (.bin .mod (.bin .fdiv (.loc 4) (.cint 256)) (.cint 5)))))) .nil)
  (.cons (.asg 5 (.ite (.cmp .eq (.loc 3) (.cint 2)) (.bin .add (.cint 1) (.bin .mod (.bin .fdiv (.loc 4) (.cint 7)) (.cint 32768))) (.bin .add (.cint 1) (.bin .mod (.loc 4) (.cint 9))))) (.cons (.expr (.append (.loc 1) (.tup (.cons (.item (.list false (.cons (.cint 3) (.cons (.cint 258) (.cons (.cint 11) (.cons (.bin .add (.cint 3) (.bin .mod (.loc 4) (.cint 256))) (.cons (.cint 257) (.cons (.cint 18) (.cons (.cint 227) .nil)))))))) (.bin .mod (.loc 4) (.cint 7))) (.cons (.loc 5) .nil))))) .nil))) .nil)) .nil))) (.cons (.ret (.slice false (.loc 1) .cnone (.cint 30))) .nil)))
noncomputable def n28:List (Str × Bool) := [("cells",false),("found",false),("cell",false),("way",false),("rest",false),("back",false)]
noncomputable def p28:List Str := ["cells"]
noncomputable def b29:MSs :=
 (.cons (.asg 1 (.comp false (.bin .mod (.bi .abs (.cons (.bi .int (.cons (.loc 0) .nil)) .nil)) (.bin .pow (.cint 10) (.cint 7))) 1 [] (.one 0) (.seq false (.slice false (.loc 0) .cnone (.cint 12))) .nil)) (.cons (.asgT [2,3] (.cons (.call 28 (.cons (.slice false (.loc 1) (.cint 1) .cnone) .nil)) (.cons (.bin .mod (.item (.cat false (.loc 1) (.list false (.cons (.cint 0) .nil))) (.cint 0)) (.cint 8)) .nil))) (.cons (.asgT [4,5] (.cons (.cmp .eq (.bin .mod (.bi .sum (.cons (.loc 1) .nil)) (.cint 2)) (.cint 1)) (.cons (.new 0 addrBitWriter .nil) .nil))) (.cons (.expr (.meth 1 addrBitWriter (.loc 5) (.cons (.cint 0) (.cons (.loc 3) .nil)))) (.cons (.expr (.call 20 (.cons (.loc 5) (.cons (.bi .list (.cons (.loc 2) .nil)) (.cons (.loc 4) .nil))))) (.cons (.asgT [6,7] (.cons (.meth 4 addrBitWriter (.loc 5) .nil) (.cons (.bi .bytes (.cons (.meth 5 addrBitWriter (.loc 5) .nil) .nil)) .nil))) (.cons (.asg 8 (.rcd [6,5] (.cons (.call 21 (.cons (.loc 7) .nil)) (.cons (.loc 3) .nil)))) (.cons (.ite (.or (.cons (.cmp .ne (.call 22 (.cons (.loc 8) (.cons (.cint 1) .nil))) (.bi .int (.cons (.loc 4) .nil))) (.cons (.cmp .ne (.call 22 (.cons (.loc 8) (.cons (.cint 2) .nil))) (.cint 2)) .nil)))
  (.cons (.ret (.cbool false)) .nil)
  .nil) (.cons (.asg 9 (.call 26 (.cons (.loc 8) .nil))) (.cons (.ite (.or (.cons (.isNone (.loc 9)) (.cons (.cmp .gt (.bi .max (.cons (.cat false (.item (.loc 9) (.cint 0)) (.item (.loc 9) (.cint 1))) .nil)) (.cint 15)) (.cons (.not (.call 25 (.cons (.item (.loc 9) (.cint 0)) (.cons (.cint 2) .nil)))) (.cons (.not (.call 25 (.cons (.item (.loc 9) (.cint 1)) (.cons (.cint 2) .nil)))) .nil)))))
  (.cons (.ret (.cbool false)) .nil)
  .nil) (.cons (.ite (.or (.cons (.cmp .eq (.item (.item (.loc 9) (.cint 0)) (.cint 256)) (.cint 0)) (.cons (.cmpL false (.call 27 (.cons (.loc 8) (.cons (.call 23 (.cons (.item (.loc 9) (.cint 0)) .nil)) (.cons (.call 23 (.cons (.item (.loc 9) (.cint 1)) .nil)) .nil)))) (.loc 2)) .nil)))
  (.cons (.ret (.cbool false)) .nil)
  .nil) (.cons (.ret (.cmp .eq (.key (.loc 8) 5) (.loc 6))) .nil))))))))))))
noncomputable def n29:List (Str × Bool) := [("script",false),("cells",false),("row",false),("ahead",false),("is_last",false),("writer",false),("size",false),("octets",false),("read",false),("lengths",false)]
noncomputable def p29:List Str := ["script"]
end
end
section
open PySem PySem.W PyProof.Rows PySem.Calls
noncomputable def fdAt (K:Frag) (a:Addr):FuncData := match K.lookup a with
 | some o => (match o.data with | .func fd => fd | _ => default)
 | none => default
noncomputable def isFn (K:Frag) (a:Addr):Bool := match K.lookup a with
 | some o => (match o.data with | .func _ => true | _ => false)
 | none => false
noncomputable def bodyAt (K:Frag) (a:Addr):Option (List Stmt) := match (fdAt K a).body with
 | .stmts b => some b
 | _ => none
set_option tactic.hygienic true in
theorem fdAt_of {K:Frag} {a:Addr} {h:Heap} (X:K.In h) (e:isFn K a = true):∃ o,h.get? a = some o∧o.data = .func (fdAt K a) := by
 unfold isFn at e
 split at e
 ·rename_i o ho
  split at e
  ·rename_i fd hd
   refine ⟨o,X _ _ ho,?_⟩
   unfold fdAt
   rw [ho]
   dsimp only
   rw [hd]
  ·cases e
 ·cases e
noncomputable def statB (fd:FuncData) (params:List Str) (names:List (Str × Bool)):Bool :=
 decide (fd.scope.kind = .function) && !fd.scope.isCoroutine && !fd.scope.isGenerator && decide (fd.globals = mainGlobals) && decide (fd.builtins = builtinsNs) && fd.closure.isEmpty && decide ((names.map (·.1)).Nodup) &&
 (names.all fun p => decide (fd.scope.names.lookup p.1 = some (if p.2 then NameKind.cell else NameKind.local))) && decide (params = (names.map (·.1)).take params.length) && decide (((cellsFrom 0 fd.scope.names []).map (·.1)).Nodup)
theorem stat_of {fd:FuncData} {params:List Str} {names:List (Str × Bool)} (h:statB fd params names = true):FnStat fd params names := by
 unfold statB at h
 simp only [Bool.and_eq_true,decide_eq_true_eq,Bool.not_eq_true',List.all_eq_true,List.isEmpty_iff] at h
 refine ex0_1 h fun xq1 h10 => ?_; clear h
 obtain ⟨⟨⟨⟨⟨⟨⟨⟨h1,h2⟩,h3⟩,h4⟩,h5⟩,h6⟩,h7⟩,h8⟩,h9⟩ := xq1
 refine ⟨h1,h2,h3,h4,h5,h6,h7,fun x b hx => h8 _ hx,fun i x e => ?_,h10⟩
 have hi:i < params.length := (List.getElem?_eq_some_iff.mp e).1
 rw [h9,List.getElem?_take_of_lt hi,List.getElem?_map] at e
 refine ex1_1 (Option.map_eq_some_iff.mp e) fun p hp xq2 => ?_
 obtain rfl := xq2
 exact ⟨p.2,hp⟩
noncomputable def fnChk (K:Frag) (t:Tab) (n:Nat) (a:Addr) (params:List Str) (names:List (Str × Bool)) (ms:MSs):Bool :=
 isFn K a && statB (fdAt K a) params names && codeIn K (fdAt K a).code (fdAt K a).qualname && (match bodyAt K a with | some b => okSs t n ⟨names,true,(fdAt K a).scope.names⟩ ms b | none => false)
set_option tactic.hygienic true in
theorem fnOk_chk {W:Wd} {t:Tab} {sp:Nat→SpecT} {n:Nat} {a:Addr} {params:List Str} {names:List (Str × Bool)} {ms:MSs} {nl:Nat} {dflt:List V} {dvals:List Value} (tab:TabOk W t) (hlow:∀ f,f < n→FnOk W (sp f) (t.fa f) (f + 1))
  (hc:fnChk W.K t n a params names ms = true) (hb:∀ (S:Setting) (vals:List Value),vals.length + dvals.length = params.length→peek W.K S (bindArgs (fdAt W.K a) ⟨vals,[]⟩) = some (params.zip (vals ++ dvals))) (hd:∀ F,VRs F dflt dvals) :
  FnOk W (fun vs H Q => vs.length + dflt.length = params.length∧wpFn sp nl ms (vs ++ dflt) H Q) a (n + 1) := by
 unfold fnChk at hc
 simp only [Bool.and_eq_true] at hc
 apply ex0_1 hc; intro xq3 h4
 obtain ⟨⟨h1,h2⟩,h3⟩ := xq3
 apply ex1_1 (fdAt_of W.X h1); intro o ho hdat
 split at h4
 ·rename_i b eb
  have hbody:(fdAt W.K a).body = .stmts b := by
   unfold bodyAt at eb
   split at eb
   ·rename_i b' e; cases eb; exact e
   ·cases eb
  intro A F P H s vs vals Q R hr hs r q hR
  exact fnOk_of (nl := nl) tab hlow (stat_of h2) ho hdat hbody (fun h hk => codeRec_of (W.X.keeps hk) h3) (fun {s} vals hk hl => kp_binds (W.X.keeps hk) fun S => hb S vals hl) hd h4 hr hs r q hR
 ·cases h4
noncomputable abbrev ctx0:PySem.Ctx := ⟨.builtin "claim.caller" {},none,none,[],none⟩
theorem cln0:Cln ctx0 := ⟨by decide +kernel,fun x hx => by cases hx⟩
theorem ends_k {prog:Program} {w:World} {t:Sem PySem.Fin} {s:Shared} {R:Result→Shared→Prop} (hreg:s.asleep)
  (h:wk (model prog w) callerA t (fun fin s' => ∃ f,fin = .done f∧(R (.ok f) s'∧leftWithCleanup s'.gens = false)) (fun e s' => R (.error e) s'∧leftWithCleanup s'.gens = false) s) :
  ∃ n r s' s'',runN (denote table) prog w n s ⟨t,.builtin "claim.caller" {},default,[]⟩ = .halted (outcomeOf r) s' ∧
   schedN (denote table) prog w n (.single s ⟨t,.builtin "claim.caller" {},default,[]⟩) = .halted (outcomeOf r) s'∧s'.forget = s''.forget∧R r s'' := by
 refine ex4_3 (wp_halts_full (M := model prog w) (R := R) hreg (Sem.wp_mono _ ctx0 t (fun fin p' s' ⟨f,e,q⟩ => by subst e; exact q) (fun U U U q => q) default s (h ctx0 default caller_in cln0))) fun n r s₁ s₂ hs hn hfo hR => ?_
 exact ⟨n,r,s₂,s₁,hn,hs,hfo,hR⟩
theorem callFrom_k {c:ClaimW} {tree:List Value→Sem PySem.Fin} {w:World} {s:Shared} {free:Addr→Prop} {gens:Prop} {kept:Heap→Prop} (hz:s.asleep) (hgens:s.gens = #[])
  (hspec:∀ args,c.pre args = true→WData.layableAll args = true→∀ ord:List DictEntry→List DictEntry,(∀ l,(ord l).Perm l) →
   ∃ vs s₁,layAllW c.records (classAt s.heap) w.params ord args s = some (vs,s₁) ∧
    wk (model c.prog w) callerA (tree vs) (fun fin s' => ∃ f,fin = .done f∧(c.Ends s args vs s₁ (.ok f) s'∧s'.os = s.os∧AllBare s'.gens∧kept s'.heap))
     (fun e s' => c.Ends s args vs s₁ (.error e) s'∧s'.os = s.os∧AllBare s'.gens∧kept s'.heap) s₁) :
  c.CallFrom (fun vs => ⟨tree vs,.builtin "claim.caller" {},default,[]⟩) w free gens kept s := by
 intro args hpre hlay ord hord
 refine ex2_1 (hspec args hpre hlay ord hord) fun vs s₁ hlaid hcode => ?_
 have hal := layAllW_rest _ _ _ hlaid
 have hk:wk (model c.prog w) callerA (tree vs) (fun fin s' => ∃ f,fin = .done f∧((c.Ends s args vs s₁ (.ok f) s'∧s'.os = s.os∧kept s'.heap)∧leftWithCleanup s'.gens = false)) (fun e s' => (c.Ends s args vs s₁ (.error e) s'∧s'.os = s.os∧kept s'.heap)∧leftWithCleanup s'.gens = false) s₁ :=
  wk_mono hcode (fun fin s' ⟨f,e,a,b,d,k⟩ => ⟨f,e,⟨a,b,k⟩,leftWithCleanup_false_of_bare d⟩) fun e s' ⟨a,b,d,k⟩ => ⟨⟨a,b,k⟩,leftWithCleanup_false_of_bare d⟩
 refine og fun G hG => ?_
 refine ex4_5 (ends_k (R := fun r s' => c.Ends s args vs s₁ r s'∧s'.os = s.os∧kept s'.heap) (Shared.asleep_of_life hal.2.2.2 hz) hk) fun k r s' s'' hrun hsched hfo hcase hos hkp => ?_
 refine ex0_4 (Shared.forget_eq hfo) fun eh U U eo U => ?_
 refine hG ?_; clear hG G
 have hcase := hcase.congr eh
 have hkp:kept s'.heap := by rw [eh]; exact hkp
 have hos':s'.os = s.os := by rw [eo]; exact hos
 have hlife:s'.heap.life = s.heap.life := (runN_life _ _ _ hrun).trans hal.2.2.2
 refine ⟨vs,s₁,hlaid,k,_,s',hsched,?_,(fun U i x hx => by rw [hgens] at hx; simp at hx),hkp,by rw [hlife],Shared.rest_eq hos'⟩
 exact hcase.imp (fun h => ex1_5 h fun v e d1 d2 d3 d4 d5 => ⟨v,congrArg outcomeOf e,d1,d2,d3,fun b o y U => d4 b o y,d5⟩)
  fun h => ex3_5 h fun x ob cls e d1 d2 d3 d4 d5 => ⟨x,ob,cls,congrArg outcomeOf e,d1,d2,d3,d4,fun b o y U => d5 b o y⟩
abbrev WalkK (q:Program) (loose:List Str) (XP:(Str→Option Value)→Heap→Prop) (YP:World→Heap→Prop) (r:RowW) (d:DefRec) (kwd:List (Str × PySem.Expr)):Prop :=
 ∀ (w:World) (s₀ s₁:Shared) (mg mb:Str→Option Value),Ground q loose r.records XP w s₀ mg mb s₁.heap→YP w s₁.heap→∀ (a:Addr),mg d.name = some (.ref a)→s₁.gens = #[] →
  ∀ (args:List WData) (vals:List Value) (as:List Addr),r.claim.pre args = true→WData.layableAll args = true→ReadsAllW r.records (classAt s₀.heap) s₁.heap vals args as→WellAll w.params s₁.heap vals args→(∀ a ∈ as,(a == sysModules) = false) →
   wk (model r.prog w) callerA (call (.ref a) vals) (fun v s' => GoodWG r.claim (classAt s₀.heap) (ExcName.means s₀.heap) args s₁ (.ok (.ret v)) s')
    (fun e s' => GoodWG r.claim (classAt s₀.heap) (ExcName.means s₀.heap) args s₁ (.error e) s') s₁
theorem holdsK {r:OpenRow} {q:Program} {loose:List Str} {Xt:Shared→Bool} {XP:(Str→Option Value)→Heap→Prop} {α:Type} {Yf:Shared→α} {Ya:World→α} {YP:World→Heap→Prop} {d:DefRec} {kwd:List (Str × PySem.Expr)} {N:Nat}
  (left:LeftO r.prog q loose Xt Yf Ya N) (hY:∀ w s,Yf s = Ya w→YP w s.heap) (hYk:∀ w h h',YP w h→(∀ b o,h.get? b = some o→h'.get? b = some o)→YP w h')
  (hX:∀ s,Xt s = true→XP (s.heap.nsMap mainGlobals) s.heap) (hXk:∀ mg h h',XP mg h→(∀ b o,h.get? b = some o→h'.get? b = some o)→XP mg h')
  (hdef:defOf q r.name = some (d,kwd)) (hp:r.prog.theDef r.name = some (d.params,d.body,d.scope)) (hk:kwWritten? d.params.kwonlyargs d.params.kw_defaults = some kwd) (hRf:∀ s,Xt s = true→RecFacts r.records s.heap) (hwr:(!r.writes || r.records.isEmpty) = true)
  (k1:r.wellSaid = true) (ok:(chainsOk q && opensWell r.prog && (frees r.toRowW && r.within.isEmpty)) = true) (hb:r.prog.bare) (hw:r.toRowW.promised)
  (call:WalkK q loose XP YP r.toRowW d kwd):r.Holds := by
 refine ⟨k1,hw,?_⟩
 refine ex0_1 (Bool.and_eq_true_iff.mp ok) fun ok k5 => ?_
 refine ex0_1 (Bool.and_eq_true_iff.mp ok) fun hch o1 => ?_
 refine ex0_1 (Bool.and_eq_true_iff.mp k5) fun k5 k6 => ?_
 refine ex0_4 (frees_parts k5) fun hsame hu ha hap hm => ?_
 refine ⟨⟨hb,o1,by show r.makers.map _ = []; rw [hm]; rfl⟩,hw.witness,fun w => ⟨(left.behind hX hch w).1,fun s' hs' => ?_⟩⟩
 refine ex1_2 ((left.behind (XP := fun mg h => XP mg h∧RecFacts r.records h) (fun s hs => ⟨hX s hs,hRf s hs⟩) hch w).2 s' hs') fun s₀ hf hg0 xq1 => ?_
 refine ex1_5 xq1 fun s hT hz hgens hg G00 y => ?_; clear xq1
 have G0:Ground q loose [] XP w s (s.heap.nsMap mainGlobals) (s.heap.nsMap builtinsNs) s.heap := ⟨G00.T,G00.B,G00.D,G00.TE,G00.TD,G00.W,G00.X.1,G00.cls,G00.has,G00.apart,G00.once,G00.K⟩
 have RF := G00.X.2
 have hT' := hT
 refine (in1_2 s₀ hf hg0 ⟨s,hT,fun n hn => ?_,RF.1,RF.2.1,?_⟩)
 ·obtain rfl:n = r.name := by split at hn <;> simp_all
  exact pinned_of_view hg G0 hdef hp hk
 have hgens:s.gens = #[] := Array.eq_empty_of_size_eq_zero (beq_iff_eq.mp hgens)
 have G:Ground q loose r.records XP w s _ _ s.heap := RF.ground G0
 refine callFrom_k (c := r.claim) hz hgens fun args hpre hlay ord hord => ?_
 refine ex1_0 (Option.isSome_iff_exists.mp (layAllW_isSome (P := w.params) (ord := ord) G.has args r.args s (pre_splitW hpre).1)) fun xq2 hlaid => ?_
 obtain ⟨vs,s₁⟩ := xq2
 have keeps := layAllW_keeps _ _ _ hlaid
 have hal := layAllW_rest _ _ _ hlaid
 refine ex1_2 (reads_layAllW hord _ _ _ hlaid hlay s₁.heap (fun U U e => e)) fun as hrd hin hold => ?_
 have L:Laid r.records w s s₁ args vs as := ⟨(in1_1 ord hord hlaid),hrd,hin,hold,keeps,hal.1.trans hgens,hal.2.2.1⟩
 have G₁ := G.keeps hXk keeps
 refine ex7_4 (G₁.fn hdef) fun a o pm cd doc dV kV h1 h2 h3 h4 h5 => ?_
 have h := call w s s₁ _ _ G₁ (hYk _ _ _ (hY w s y) keeps) a (defOf_name hdef ▸ h1) L.gens args vs as hpre hlay L.reads L.well (L.low G.low)
 have hi := ident_freeW hu ha hap
 have hwi:r.claim.within = [] := List.isEmpty_iff.mp k6
 have fin:∀ {res:Result} {s':Shared},GoodWG r.claim (classAt s.heap) (ExcName.means s.heap) args s₁ res s'→r.claim.Ends s args vs s₁ res s'∧s'.os = s.os∧AllBare s'.gens∧(r.writes = true→namesKept r.claim.prog r.keeps s.heap s'.heap∧∀ x ∈ r.claim.records,∀ a,classAt s.heap x.1 = some a→recordClass s'.heap a x.1 (x.2.map (·.1)) = true) := fun g =>
  have z := g.laid (c := r.claim) hsame hwi hi L
  ⟨z.1,z.2.1,z.2.2,fun q => ⟨namesKept_of hT' hg _ keeps g.2.1.old,noTable hwr q⟩⟩
 refine (in2_1 vs s₁ hlaid (wk_bind (up (wpAny_nsGet G₁.T.g ?_))))
 rw [show _ = some (Value.ref a) from h1]
 exact wk_bind (wk_mono h (fun v s' g => wk_pure (in1_1 _ rfl (fin g))) fun e s' g => fin g)
noncomputable abbrev pw:Program := PySem.Challenge.pw_pb0115_01
noncomputable def top (i:Nat):Option Stmt := pw.main.body[i]?
noncomputable def meth (i j:Nat):Option Stmt := (top i).bind fun s => if h:s.ctorIdx = 2 then @Stmt.ClassDef.elim (fun U => Option Stmt) s h fun U U U body U U U U U U U => body[j]? else none
noncomputable def e (P:Params) (x:Str) (t:Tok) (v:Value):DictEntry := ⟨PyData.keyHash P x,.str x t,v⟩
noncomputable def dicO (es:List DictEntry) (n:Nat):Obj := { cls := .type "dict",data := .dict es.toArray n }
noncomputable def fnO (q:Str) (md df:Value) (code:Addr) (o:Option Stmt):Obj := (o.bind fun s => if h:s.ctorIdx = 0 then @Stmt.FunctionDef.elim (fun U => Option Obj) s h fun name args body U U U scope U U U => some { cls := .type "function",data := .func { name := name,qualname := q,params := args,body := .stmts body,scope := scope,globals := 3,closure := [],defaults := df,kwdefaults := .none,pyModule := md,code := .ref code } } else none).getD default
noncomputable def rf (a:Addr):Value := if a = 0 then .none else .ref a
noncomputable def cdO (n q:Str) (t:Tok) (ln ar:Int) (as:List Addr) (k:Nat):Obj := { cls := .type "code",data := .fields (([.str n t,.str q (t + 1),.str "/claim/cut.py" (t + 2),.int ln 0,.int ar 0,.int 0 0,.int 0 0,.int 3 0,rf (as.getD 0 0),.bool true,.int 181 0]:List Value) ++ (as.drop 1).map rf ++ ([.int k 0,.int ln 0,.str "/claim/cut.py" (k + 1)]:List Value)).toArray }
noncomputable def KK:Params→Frag := fun P => [
 (3,dicO [e P "__name__" 165 (.str "law_pb0115_01" 562),e P "__doc__" 166 (.none),e P "__package__" 167 (.none),e P "__loader__" 168 (.builtin "__main__.__loader__#opaque"),e P "__spec__" 169 (.none),e P "__annotations__" 170 (.ref 6),e P "__builtins__" 171 (.ref 4),e P "__file__" 173 (.str "/claim/cut.py" 172),e P "__cached__" 174 (.none),e P "_wall" 193 (.ref 21),e P "GitError" 225 (.ref 39),e P "BadBits" 241 (.ref 52),e P "END_SIGN" 245 (.int 256 244),e P "MOST_DISTANCES" 247 (.int 30 246),e P "LONGEST" 249 (.int 258 248),e P "LENGTH_ORDER" 269 (.ref 55),e P "inflate_lengths" 279 (.ref 62),e P "inflate_distances" 289 (.ref 69),e P "FIRST_LENGTH_SIGN" 293 (.int 257 292),e P "MOST_BITS" 295 (.int 15 294),e P "MOST_HEAD_BITS" 297 (.int 7 296),e P "LITERAL_SIGNS" 299 (.int 286 298),e P "DISTANCE_SIGNS" 301 (.int 30 300),e P "HEAD_SIGNS" 303 (.int 19 302),e P "AGAIN_SIGN" 305 (.int 16 304),e P "FEW_NOUGHTS_SIGN" 307 (.int 17 306),e P "MANY_NOUGHTS_SIGN" 309 (.int 18 308),e P "BitWriter" 407 (.ref 143),e P "deflate_range_of" 418 (.ref 154),e P "deflate_merged" 429 (.ref 161),e P "code_lengths" 435 (.ref 166),e P "canonical" 447 (.ref 173),e P "DeflateSigns" 527 (.ref 218),e P "deflate_cut" 536 (.ref 229),e P "deflate_runs" 549 (.ref 236),e P "deflate_two_at_least" 555 (.ref 241),e P "write_dynamic" 561 (.ref 246),e P "_law_bits" 569 (.ref 251),e P "_law_number" 575 (.ref 256),e P "_law_tree" 581 (.ref 261),e P "_law_next" 591 (.ref 268),e P "_law_is_whole" 597 (.ref 273),e P "_law_lengths" 613 (.ref 280),e P "_law_tokens" 628 (.ref 287),e P "_law_drawn" 640 (.ref 294),e P "law" 646 (.ref 299)] 46),
 (55,{ cls := .type "tuple",data := .seq [.int 16 250,.int 17 251,.int 18 252,.int 0 253,.int 8 254,.int 7 255,.int 9 256,.int 6 257,.int 10 258,.int 5 259,.int 11 260,.int 4 261,.int 12 262,.int 3 263,.int 13 264,.int 2 265,.int 14 266,.int 1 267,.int 15 268].toArray 0 }),
 (77,{ cls := .type "tuple",data := .seq [.int 0 322,.int 0 323].toArray 0 }),
 (142,dicO [e P "__module__" 317 (.str "gitcore.deflate" 290),e P "__firstlineno__" 321 (.int 41 320),e P "__init__" 332 (.ref 84),e P "put" 341 (.ref 91),e P "put_code" 352 (.ref 98),e P "align" 359 (.ref 105),e P "raw" 367 (.ref 112),e P "size" 374 (.ref 119),e P "trial" 381 (.ref 126),e P "add" 389 (.ref 133),e P "octets" 396 (.ref 140),e P "__static_attributes__" 400 (.ref 141),e P "__dict__" 402 (.ref 144),e P "__weakref__" 404 (.ref 145),e P "__doc__" 405 (.none)] 4),
 (143,{ cls := .type "type",data := .cls { name := "BitWriter",bases := [.type "object"],mro := [.ref 143,.type "object"],ns := 142,qualname := "BitWriter" },slots := #[none,none,some (.str "BitWriter" 310),some (.str "BitWriter" 318),some (.builtin "object.__new__"),some (.bool true)] }),
 (217,dicO [e P "__module__" 455 (.str "gitcore.deflate" 290),e P "__firstlineno__" 459 (.int 142 458),e P "__init__" 466 (.ref 187),e P "length_sign" 477 (.ref 194),e P "distance_sign" 488 (.ref 201),e P "counts" 500 (.ref 208),e P "put_row" 517 (.ref 215),e P "__static_attributes__" 520 (.ref 216),e P "__dict__" 522 (.ref 219),e P "__weakref__" 524 (.ref 220),e P "__doc__" 525 (.none)] 4),
 (218,{ cls := .type "type",data := .cls { name := "DeflateSigns",bases := [.type "object"],mro := [.ref 218,.type "object"],ns := 217,qualname := "DeflateSigns" },slots := #[none,none,some (.str "DeflateSigns" 448),some (.str "DeflateSigns" 456),some (.builtin "object.__new__"),some (.bool true)] }),
 (62,fnO "inflate_lengths" (.str "gitcore.inflate" 242) (.none) 61 (top 9)),
 (69,fnO "inflate_distances" (.str "gitcore.inflate" 242) (.none) 68 (top 10)),
 (84,fnO "BitWriter.__init__" (.str "gitcore.deflate" 290) (.ref 77) 83 (meth 21 0)),
 (91,fnO "BitWriter.put" (.str "gitcore.deflate" 290) (.none) 90 (meth 21 1)),
 (98,fnO "BitWriter.put_code" (.str "gitcore.deflate" 290) (.none) 97 (meth 21 2)),
 (105,fnO "BitWriter.align" (.str "gitcore.deflate" 290) (.none) 104 (meth 21 3)),
 (119,fnO "BitWriter.size" (.str "gitcore.deflate" 290) (.none) 118 (meth 21 5)),
 (140,fnO "BitWriter.octets" (.str "gitcore.deflate" 290) (.none) 139 (meth 21 8)),
 (154,fnO "deflate_range_of" (.str "gitcore.deflate" 290) (.none) 153 (top 22)),
 (161,fnO "deflate_merged" (.str "gitcore.deflate" 290) (.none) 160 (top 23)),
 (166,fnO "code_lengths" (.str "gitcore.deflate" 290) (.none) 165 (top 24)),
 (173,fnO "canonical" (.str "gitcore.deflate" 290) (.none) 172 (top 25)),
 (187,fnO "DeflateSigns.__init__" (.str "gitcore.deflate" 290) (.none) 186 (meth 26 0)),
 (194,fnO "DeflateSigns.length_sign" (.str "gitcore.deflate" 290) (.none) 193 (meth 26 1)),
 (201,fnO "DeflateSigns.distance_sign" (.str "gitcore.deflate" 290) (.none) 200 (meth 26 2)),
 (208,fnO "DeflateSigns.counts" (.str "gitcore.deflate" 290) (.none) 207 (meth 26 3)),
 (215,fnO "DeflateSigns.put_row" (.str "gitcore.deflate" 290) (.none) 214 (meth 26 4)),
 (229,fnO "deflate_cut" (.str "gitcore.deflate" 290) (.none) 228 (top 27)),
 (236,fnO "deflate_runs" (.str "gitcore.deflate" 290) (.none) 235 (top 28)),
 (241,fnO "deflate_two_at_least" (.str "gitcore.deflate" 290) (.none) 240 (top 29)),
 (246,fnO "write_dynamic" (.str "gitcore.deflate" 290) (.none) 245 (top 30)),
 (251,fnO "_law_bits" (.str "law_pb0115_01" 562) (.none) 250 (top 32)),
 (256,fnO "_law_number" (.str "law_pb0115_01" 562) (.none) 255 (top 33)),
 (261,fnO "_law_tree" (.str "law_pb0115_01" 562) (.none) 260 (top 34)),
 (268,fnO "_law_next" (.str "law_pb0115_01" 562) (.none) 267 (top 35)),
 (273,fnO "_law_is_whole" (.str "law_pb0115_01" 562) (.none) 272 (top 36)),
 (280,fnO "_law_lengths" (.str "law_pb0115_01" 562) (.none) 279 (top 37)),
 (287,fnO "_law_tokens" (.str "law_pb0115_01" 562) (.none) 286 (top 38)),
 (294,fnO "_law_drawn" (.str "law_pb0115_01" 562) (.none) 293 (top 39)),
 (299,fnO "law" (.str "law_pb0115_01" 562) (.none) 298 (top 40)),
 (61,cdO "inflate_lengths" "inflate_lengths" 270 16 0 [56,57,0,58,59,60] 277),
 (68,cdO "inflate_distances" "inflate_distances" 280 24 0 [63,64,0,65,66,67] 287),
 (83,cdO "__init__" "BitWriter.__init__" 324 43 3 [78,79,0,80,81,82] 330),
 (90,cdO "put" "BitWriter.put" 333 48 3 [85,86,0,87,88,89] 339),
 (97,cdO "put_code" "BitWriter.put_code" 342 56 3 [92,93,0,94,95,96] 350),
 (104,cdO "align" "BitWriter.align" 353 62 1 [99,100,0,101,102,103] 357),
 (118,cdO "size" "BitWriter.size" 368 69 1 [113,114,0,115,116,117] 372),
 (139,cdO "octets" "BitWriter.octets" 390 78 1 [134,135,0,136,137,138] 394),
 (153,cdO "deflate_range_of" "deflate_range_of" 408 81 2 [148,149,0,150,151,152] 416),
 (160,cdO "deflate_merged" "deflate_merged" 419 91 2 [155,156,0,157,158,159] 427),
 (165,cdO "code_lengths" "code_lengths" 430 101 2 [162,163,0,0,0,164] 433),
 (172,cdO "canonical" "canonical" 436 124 1 [167,168,0,169,170,171] 445),
 (186,cdO "__init__" "DeflateSigns.__init__" 460 144 1 [181,182,0,183,184,185] 464),
 (193,cdO "length_sign" "DeflateSigns.length_sign" 467 148 2 [188,189,0,190,191,192] 475),
 (200,cdO "distance_sign" "DeflateSigns.distance_sign" 478 153 2 [195,196,0,197,198,199] 486),
 (207,cdO "counts" "DeflateSigns.counts" 489 158 2 [202,203,0,204,205,206] 498),
 (214,cdO "put_row" "DeflateSigns.put_row" 501 172 5 [209,210,0,211,212,213] 515),
 (228,cdO "deflate_cut" "deflate_cut" 528 186 2 [223,224,0,225,226,227] 534),
 (235,cdO "deflate_runs" "deflate_runs" 537 191 1 [230,231,0,232,233,234] 547),
 (240,cdO "deflate_two_at_least" "deflate_two_at_least" 550 217 1 [237,238,0,0,0,239] 553),
 (245,cdO "write_dynamic" "write_dynamic" 556 223 3 [242,243,0,0,0,244] 559),
 (250,cdO "_law_bits" "_law_bits" 564 249 1 [247,248,0,0,0,249] 567),
 (255,cdO "_law_number" "_law_number" 570 251 2 [252,253,0,0,0,254] 573),
 (260,cdO "_law_tree" "_law_tree" 576 255 1 [257,258,0,0,0,259] 579),
 (267,cdO "_law_next" "_law_next" 582 262 2 [262,263,0,264,265,266] 589),
 (272,cdO "_law_is_whole" "_law_is_whole" 592 270 2 [269,270,0,0,0,271] 595),
 (279,cdO "_law_lengths" "_law_lengths" 598 273 1 [274,275,0,276,277,278] 611),
 (286,cdO "_law_tokens" "_law_tokens" 614 294 3 [281,282,0,283,284,285] 626),
 (293,cdO "_law_drawn" "_law_drawn" 629 313 1 [288,289,0,290,291,292] 638),
 (298,cdO "law" "law" 641 325 1 [295,296,0,0,0,297] 644)]
noncomputable def kept:List Nat := [40]
noncomputable def loose:List Str := (["_wall","GitError","BadBits","END_SIGN","MOST_DISTANCES","LONGEST","LENGTH_ORDER","inflate_lengths","inflate_distances","FIRST_LENGTH_SIGN","MOST_BITS","MOST_HEAD_BITS","LITERAL_SIGNS","DISTANCE_SIGNS","HEAD_SIGNS","AGAIN_SIGN","FEW_NOUGHTS_SIGN","MANY_NOUGHTS_SIGN","BitWriter","deflate_range_of","deflate_merged","code_lengths","canonical","DeflateSigns","deflate_cut","deflate_runs","deflate_two_at_least","write_dynamic","_law_bits","_law_number","_law_tree","_law_next","_law_is_whole","_law_lengths","_law_tokens","_law_drawn"]:List String).map Str.ofString
noncomputable def qv:Program := PySem.W.view pw kept
noncomputable def asK:List Addr := [3,55,77,142,143,217,218,62,69,84,91,98,105,119,140,154,161,166,173,187,194,201,208,215,229,236,241,246,251,256,261,268,273,280,287,294,299,61,68,83,90,97,104,118,139,153,160,165,172,186,193,200,207,214,228,235,240,245,250,255,260,267,272,279,286,293,298]
theorem asK_is (P:Params):asK = (KK P).map (·.1) := by kernel_rfl
theorem look (w:World) (os:OsState):(topFrom treeTable pw w 4280 ⟨boot_heap w.params,Array.mk [],boot_drawn,boot_toks,os⟩).map (fun s => (openSeen qv loose (importedModules pw.main.body) (fun s => xlAt qv [] s && recOk PySem.Challenge.rw_pb0115_01.row.toRowW.records s) true s,(kHook KK asK asK_is).obs s)) = some (openGood qv loose,(kHook KK asK asK_is).val w) := by
 unfold topFrom
 rw [PySem.W.Fast.te14082659384304107361,PySem.W.Fast.te4187177175401517315,PySem.W.Fast.te8920871248978507458,PySem.W.Fast.te5923862056798008813]
 kernel_rfl
abbrev rw1:OpenLaw := PySem.Challenge.rw_pb0115_01
theorem op1:opening pw = plainProg pw.main.scope.names := by kernel_rfl
theorem op2 (s:Shared):fenceModules? pw s = some s := by kernel_rfl
theorem left:LeftO pw qv loose (fun s => xlAt qv [] s && recOk rw1.row.toRowW.records s) (kHook KK asK asK_is).obs (kHook KK asK asK_is).val 4280 := fun w => by
 refine ex1_1 (Option.map_eq_some_iff.mp (boot_open (N := 4280) op1 rfl op2 w)) fun xq1 e1 e2 => ?_
 obtain ⟨h,gs,d,k,os⟩ := xq1
 obtain ⟨rfl,rfl,rfl,rfl⟩:h = boot_heap w.params∧gs = Array.mk []∧d = boot_drawn∧k = boot_toks := by simpa using e2
 unfold openEnds
 rw [e1,Option.bind_some]
 exact look w os
theorem dSome:(defOf qv "law").isSome = true := by kernel_rfl
noncomputable def dLaw:DefRec × List (Str × PySem.Expr) := (defOf qv "law").get dSome
theorem dEq:defOf qv rw1.row.name = some (dLaw.1,dLaw.2) := (Option.some_get dSome).symm
theorem wsaid:rw1.wellSaid = true := by
 rw [PySem.W.Fast.te9446332074065402090]; kernel_rfl
theorem hd (walk:WalkK qv loose (XL qv []) (kHook KK asK asK_is).says rw1.row.toRowW dLaw.1 dLaw.2):rw1.Holds := holds_law wsaid fun said =>
 holdsK left (kHook KK asK asK_is).of (kHook KK asK asK_is).keeps (fun s e => xl_of s (Bool.and_eq_true_iff.mp e).1) XL.keeps dEq (by kernel_rfl) (by kernel_rfl) (fun s e => recFacts_of (Bool.and_eq_true_iff.mp e).2) (by kernel_rfl) said (by kernel_rfl) ⟨rfl,rfl,rfl,rfl,rfl,by decide +kernel⟩ (by w_witness2) walk
theorem dName:dLaw.1.name = "law" := by kernel_rfl
noncomputable def aBW:Addr := 143
noncomputable def aDS:Addr := 218
noncomputable def faL:List Addr := [84,91,98,105,119,140,154,62,69,187,194,201,208,161,166,173,215,229,236,241,246,251,256,261,268,273,280,287,294,299]
noncomputable def tab:Tab where
 gint := [("END_SIGN",256),("MOST_DISTANCES",30),("LONGEST",258),("FIRST_LENGTH_SIGN",257),("MOST_BITS",15),("MOST_HEAD_BITS",7),("LITERAL_SIGNS",286),("DISTANCE_SIGNS",30),("HEAD_SIGNS",19),("AGAIN_SIGN",16),("FEW_NOUGHTS_SIGN",17),("MANY_NOUGHTS_SIGN",18)]
 gtup := [("LENGTH_ORDER",[16,17,18,0,8,7,9,6,10,5,11,4,12,3,13,2,14,1,15])]
 gfn := [("deflate_range_of",6),("inflate_lengths",7),("inflate_distances",8),("deflate_merged",13),("code_lengths",14),("canonical",15),("deflate_cut",17),("deflate_runs",18),("deflate_two_at_least",19),("write_dynamic",20),("_law_bits",21),("_law_number",22),("_law_tree",23),("_law_next",24),("_law_is_whole",25),("_law_lengths",26),("_law_tokens",27),("_law_drawn",28)]
 gcls := [("BitWriter",aBW,0),("DeflateSigns",aDS,9)]
 gbi := [("len",.len),("abs",.abs),("int",.int),("max",.max),("min",.min),("sum",.sum),("sorted",.sorted),("bytes",.bytes),("bytearray",.bytearray),("list",.list)]
 meths := [((aBW,"put"),1),((aBW,"put_code"),2),((aBW,"align"),3),((aBW,"size"),4),((aBW,"octets"),5),((aDS,"length_sign"),10),((aDS,"distance_sign"),11),((aDS,"counts"),12),((aDS,"put_row"),16)]
 cls := [aBW,aDS]
 fa := fun f => faL.getD f 0
theorem c0 (P:Params):fnChk (KK P) tab 0 84 p0 n0 (b0 aBW) = true := by kernel_rfl
theorem c1 (P:Params):fnChk (KK P) tab 1 91 p1 n1 (b1 aBW) = true := by kernel_rfl
theorem c2 (P:Params):fnChk (KK P) tab 2 98 p2 n2 (b2 aBW) = true := by kernel_rfl
theorem c3 (P:Params):fnChk (KK P) tab 3 105 p3 n3 (b3 aBW) = true := by kernel_rfl
theorem c4 (P:Params):fnChk (KK P) tab 4 119 p4 n4 (b4 aBW) = true := by kernel_rfl
theorem c5 (P:Params):fnChk (KK P) tab 5 140 p5 n5 (b5 aBW) = true := by kernel_rfl
theorem c6 (P:Params):fnChk (KK P) tab 6 154 p6 n6 (b6) = true := by kernel_rfl
theorem c7 (P:Params):fnChk (KK P) tab 7 62 p7 n7 (b7) = true := by kernel_rfl
theorem c8 (P:Params):fnChk (KK P) tab 8 69 p8 n8 (b8) = true := by kernel_rfl
theorem c9 (P:Params):fnChk (KK P) tab 9 187 p9 n9 (b9 aDS) = true := by kernel_rfl
theorem c10 (P:Params):fnChk (KK P) tab 10 194 p10 n10 (b10 aDS) = true := by kernel_rfl
theorem c11 (P:Params):fnChk (KK P) tab 11 201 p11 n11 (b11 aDS) = true := by kernel_rfl
theorem c12 (P:Params):fnChk (KK P) tab 12 208 p12 n12 (b12 aDS) = true := by kernel_rfl
theorem c13 (P:Params):fnChk (KK P) tab 13 161 p13 n13 (b13) = true := by kernel_rfl
theorem c14 (P:Params):fnChk (KK P) tab 14 166 p14 n14 (b14) = true := by kernel_rfl
theorem c15 (P:Params):fnChk (KK P) tab 15 173 p15 n15 (b15) = true := by kernel_rfl
theorem c16 (P:Params):fnChk (KK P) tab 16 215 p16 n16 (b16 aBW aDS) = true := by kernel_rfl
theorem c17 (P:Params):fnChk (KK P) tab 17 229 p17 n17 (b17) = true := by kernel_rfl
theorem c18 (P:Params):fnChk (KK P) tab 18 236 p18 n18 (b18) = true := by kernel_rfl
theorem c19 (P:Params):fnChk (KK P) tab 19 241 p19 n19 (b19) = true := by kernel_rfl
theorem c20 (P:Params):fnChk (KK P) tab 20 246 p20 n20 (b20 aBW aDS) = true := by kernel_rfl
theorem c21 (P:Params):fnChk (KK P) tab 21 251 p21 n21 (b21) = true := by kernel_rfl
theorem c22 (P:Params):fnChk (KK P) tab 22 256 p22 n22 (b22) = true := by kernel_rfl
theorem c23 (P:Params):fnChk (KK P) tab 23 261 p23 n23 (b23) = true := by kernel_rfl
theorem c24 (P:Params):fnChk (KK P) tab 24 268 p24 n24 (b24) = true := by kernel_rfl
theorem c25 (P:Params):fnChk (KK P) tab 25 273 p25 n25 (b25) = true := by kernel_rfl
theorem c26 (P:Params):fnChk (KK P) tab 26 280 p26 n26 (b26) = true := by kernel_rfl
theorem c27 (P:Params):fnChk (KK P) tab 27 287 p27 n27 (b27) = true := by kernel_rfl
theorem c28 (P:Params):fnChk (KK P) tab 28 294 p28 n28 (b28) = true := by kernel_rfl
theorem c29 (P:Params):fnChk (KK P) tab 29 299 p29 n29 (b29 aBW) = true := by kernel_rfl
section
variable (P:Params)
theorem cls_of {K:Frag} {C:Addr} (h1:findIn K (.ref C) "__getattribute__" = some (some (.builtin "object.__getattribute__"))) (h2:findIn K (.ref C) "__getattr__" = some none) (h3:findIn K (.ref C) "__setattr__" = some (some (.builtin "object.__setattr__"))) (h4:plainOver K C = true)
  (h5:(clsIn K C).any (·.hasDict) = true) (h6:findIn K (.ref C) "done" = some none) (h7:findIn K (.ref C) "held" = some none) (h8:findIn K (.ref C) "many" = some none) (h9:findIn K (.ref C) "length_ranges" = some none) (h10:findIn K (.ref C) "distance_ranges" = some none) (h11:findIn K (.ref C) "at" = some none) (h12:findIn K (.ref C) "bits" = some none)
  (h13:makesIn K C = true):ClsOk K C := by
 refine ⟨h1,h2,h3,h4,h5,fun k name hn => ?_,h13⟩
 have hk:k < 7 := (List.getElem?_eq_some_iff.mp hn).1
 match k,hk with
 | 0,_ => cases hn; exact ⟨h6,by decide⟩
 | 1,_ => cases hn; exact ⟨h7,by decide⟩
 | 2,_ => cases hn; exact ⟨h8,by decide⟩
 | 3,_ => cases hn; exact ⟨h9,by decide⟩
 | 4,_ => cases hn; exact ⟨h10,by decide⟩
 | 5,_ => cases hn; exact ⟨h11,by decide⟩
 | 6,_ => cases hn; exact ⟨h12,by decide⟩
theorem clsBW:ClsOk (KK P) aBW := cls_of (by kernel_rfl) (by kernel_rfl) (by kernel_rfl) (by kernel_rfl) (by kernel_rfl) (by kernel_rfl) (by kernel_rfl) (by kernel_rfl) (by kernel_rfl) (by kernel_rfl) (by kernel_rfl) (by kernel_rfl) (by kernel_rfl)
theorem clsDS:ClsOk (KK P) aDS := cls_of (by kernel_rfl) (by kernel_rfl) (by kernel_rfl) (by kernel_rfl) (by kernel_rfl) (by kernel_rfl) (by kernel_rfl) (by kernel_rfl) (by kernel_rfl) (by kernel_rfl) (by kernel_rfl) (by kernel_rfl) (by kernel_rfl)
noncomputable def gintB (K:Frag) (xs:List (Str × Int)):Bool := xs.all fun p => (nsIn K mainGlobals p.1).any fun o => o.any fun v => (List.range 1000).any fun k => decide (v = .int p.2 k)
noncomputable def gfnB (K:Frag) (fa:Nat→Addr) (xs:List (Str × Nat)):Bool := xs.all fun p => decide (nsIn K mainGlobals p.1 = some (some (.ref (fa p.2)))) && isFn K (fa p.2)
noncomputable def noneB (K:Frag) (xs:List Str):Bool := xs.all fun x => decide (nsIn K mainGlobals x = some none)
noncomputable def methB (K:Frag) (fa:Nat→Addr) (xs:List ((Addr × Str) × Nat)):Bool := xs.all fun p => (decide (p.1.1 = aBW) || decide (p.1.1 = aDS)) && decide (findIn K (.ref p.1.1) p.1.2 = some (some (.ref (fa p.2)))) && decide (typeIn K (.ref (fa p.2)) = some (.type "function")) && decide (tbl.findIdx? (· == p.1.2) = none) && isFn K (fa p.2)
theorem any_some {α:Type} {f:α→Bool}:∀ {o:Option α},o.any f = true→∃ a,o = some a∧f a = true
 | some a,h => (in1_1 a rfl h)
set_option tactic.hygienic true in
theorem lookup_mem {α β:Type} [BEq α] [LawfulBEq α]:∀ {l:List (α × β)} {a:α} {b:β},l.lookup a = some b→(a,b) ∈ l
 | (x,y) :: l,a,b,h => by
  rw [List.lookup_cons] at h
  split at h
  ·rename_i e
   cases h
   rw [eq_of_beq e]; exact .head _
  ·exact .tail _ (lookup_mem h)
theorem eg1:gintB (KK P) tab.gint = true := by kernel_rfl
theorem eg2:gfnB (KK P) tab.fa tab.gfn = true := by kernel_rfl
theorem eg3:noneB (KK P) (tab.gbi.map (·.1)) = true := by kernel_rfl
theorem eg4:methB (KK P) tab.fa tab.meths = true := by kernel_rfl
end
theorem fn_some {W:Wd} {a:Addr} (e:isFn W.K a = true):∃ o fd,W.hb.get? a = some o∧o.data = .func fd := by
 refine ex1_1 (fdAt_of W.X e) fun o h1 h2 => ?_
 exact (in2_1 o _ h1 h2)
theorem lo_at (P:Params):(KK P).lookup 55 = some { cls := .type "tuple",data := .seq [.int 16 250,.int 17 251,.int 18 252,.int 0 253,.int 8 254,.int 7 255,.int 9 256,.int 6 257,.int 10 258,.int 5 259,.int 11 260,.int 4 261,.int 12 262,.int 3 263,.int 13 264,.int 2 265,.int 14 266,.int 1 267,.int 15 268].toArray 0 } := by kernel_rfl
theorem lo_ns (P:Params):nsIn (KK P) mainGlobals "LENGTH_ORDER" = some (some (.ref 55)) := by kernel_rfl
theorem cls_ns1 (P:Params):nsIn (KK P) mainGlobals "BitWriter" = some (some (.ref aBW)) := by kernel_rfl
theorem cls_ns2 (P:Params):nsIn (KK P) mainGlobals "DeflateSigns" = some (some (.ref aDS)) := by kernel_rfl
theorem cls_in1 (P:Params):findIn (KK P) (.ref aBW) "__init__" = some (some (.ref (tab.fa 0))) := by kernel_rfl
theorem cls_in2 (P:Params):findIn (KK P) (.ref aDS) "__init__" = some (some (.ref (tab.fa 9))) := by kernel_rfl
theorem cls_ty1 (P:Params):typeIn (KK P) (.ref (tab.fa 0)) = some (.type "function") := by kernel_rfl
theorem cls_ty2 (P:Params):typeIn (KK P) (.ref (tab.fa 9)) = some (.type "function") := by kernel_rfl
theorem rng1 (P:Params):nsIn (KK P) mainGlobals "range" = some none := by kernel_rfl
theorem rng2 (P:Params):nsIn (KK P) mainGlobals "enumerate" = some none := by kernel_rfl
noncomputable def biB:Bool := tab.gbi.all fun p => (match bootBuiltins p.1 with | some v => decide (v = biV p.2) | none => false) && !decide (p.1 = ("__name__":Str))
theorem bi_ok:∀ x b,(x,b) ∈ tab.gbi→bootBuiltins x = some (biV b)∧x ≠ "__name__" := by
 intro x b h
 have:∀ p ∈ tab.gbi,bootBuiltins p.1 = some (biV p.2)∧p.1 ≠ "__name__" := by
  show ∀ p ∈ ([("len",.len),("abs",.abs),("int",.int),("max",.max),("min",.min),("sum",.sum),("sorted",.sorted),("bytes",.bytes),("bytearray",.bytearray),("list",.list)]:List (Str × Bi)),_
  simp only [List.forall_mem_cons]
  refine ⟨?_,?_,?_,?_,?_,?_,?_,?_,?_,?_,fun p hp => by cases hp⟩ <;> exact ⟨by decide +kernel,by decide⟩
 exact this _ h
section
variable {W:Wd}
theorem tk_int (hK:W.K = KK W.w.params) (x i) (h:tab.gint.lookup x = some i):∃ tk,nsIn W.K mainGlobals x = some (some (.int i tk)) := by
 rw [hK]
 refine ex1_1 (any_some (List.all_eq_true.mp (eg1 W.w.params) _ (lookup_mem h))) fun o e q => ?_
 refine ex1_1 (any_some q) fun v e2 q => ?_
 refine ex1_1 (List.any_eq_true.mp q) fun k U q => ?_
 exact (in1_0 k (by rw [e,e2,of_decide_eq_true q]))
theorem tk_tup (hK:W.K = KK W.w.params) (x is) (h:tab.gtup.lookup x = some is):∃ rv,nsIn W.K mainGlobals x = some (some rv)∧∀ F,(∀ a o,W.hb.get? a = some o→F a = some o)→VR F (.tup (is.map V.int)) rv := by
 rcases List.mem_cons.mp (lookup_mem h) with q | q
 ·cases q
  refine (in1_1 (.ref 55) (by rw [hK]; exact lo_ns _) (fun F hF => ?_))
  refine .tup (hF _ _ (W.X 55 _ (by rw [hK]; exact lo_at _))) ?_
  repeat' (first | exact VRs.nil | refine VRs.cons .int ?_)
 ·cases q
theorem tk_fn (hK:W.K = KK W.w.params) (x f) (h:tab.gfn.lookup x = some f):nsIn W.K mainGlobals x = some (some (.ref (tab.fa f)))∧∃ o fd,W.hb.get? (tab.fa f) = some o∧o.data = .func fd :=
 ab2 (List.all_eq_true.mp (hK ▸ eg2 W.w.params:gfnB W.K tab.fa tab.gfn = true) _ (lookup_mem h)) fun q1 q2 => ⟨of_decide_eq_true q1,fn_some q2⟩
theorem tk_cls (hK:W.K = KK W.w.params) (x C f) (h:tab.gcls.lookup x = some (C,f)):nsIn W.K mainGlobals x = some (some (.ref C))∧ClsOk W.K C∧findIn W.K (.ref C) "__init__" = some (some (.ref (tab.fa f)))∧typeIn W.K (.ref (tab.fa f)) = some (.type "function") := by
 rw [hK]
 rcases List.mem_cons.mp (lookup_mem h) with q | hm
 ·cases q; exact ⟨cls_ns1 _,clsBW _,cls_in1 _,cls_ty1 _⟩
 ·rcases List.mem_cons.mp hm with q | hm
  ·cases q; exact ⟨cls_ns2 _,clsDS _,cls_in2 _,cls_ty2 _⟩
  ·cases hm
theorem two_cls (hK:W.K = KK W.w.params) {C:Addr} (h:C = aBW ∨ C = aDS):ClsOk W.K C := by
 rw [hK]
 rcases h with rfl | rfl
 ·exact clsBW _
 ·exact clsDS _
theorem tk_meth (hK:W.K = KK W.w.params) (C x f) (h:tab.meths.lookup (C,x) = some f):ClsOk W.K C∧findIn W.K (.ref C) x = some (some (.ref (tab.fa f)))∧typeIn W.K (.ref (tab.fa f)) = some (.type "function")∧tbl.findIdx? (· == x) = none∧∃ o fd,W.hb.get? (tab.fa f) = some o∧o.data = .func fd :=
 ab5 (List.all_eq_true.mp (hK ▸ eg4 W.w.params:methB W.K tab.fa tab.meths = true) _ (lookup_mem h)) fun q0 q1 q2 q3 q4 =>
  ⟨two_cls hK ((Bool.or_eq_true_iff.mp q0).imp of_decide_eq_true of_decide_eq_true),of_decide_eq_true q1,of_decide_eq_true q2,of_decide_eq_true q3,fn_some q4⟩
theorem tk_cl (hK:W.K = KK W.w.params) (C) (h:C ∈ tab.cls):ClsOk W.K C := two_cls hK ((List.mem_cons.mp h).imp id fun h => List.mem_singleton.mp h)
theorem tabOk (hK:W.K = KK W.w.params):TabOk W tab :=
 ⟨tk_int hK,tk_tup hK,tk_fn hK,tk_cls hK,fun x b h => ⟨of_decide_eq_true (List.all_eq_true.mp (hK ▸ eg3 W.w.params:noneB W.K (tab.gbi.map (·.1)) = true) _ (List.mem_map_of_mem (f := (·.1)) (lookup_mem h))),bi_ok x b (lookup_mem h)⟩,hK ▸ ⟨rng1 _,rng2 _⟩,tk_meth hK,tk_cl hK⟩
end
theorem byLen0 {C:List Value→Prop} (k:C []):∀ vals:List Value,vals.length = 0→C vals
 | [],_ => k
 | _ :: _,h => nomatch h
theorem byLen1 {C:List Value→Prop} (k:∀ x0,C [x0]):∀ vals:List Value,vals.length = 1→C vals
 | [],h => nomatch h
 | x :: r,h => byLen0 (C := fun r => C (x :: r)) (k x) r (Nat.succ.inj h)
theorem byLen2 {C:List Value→Prop} (k:∀ x0 x1,C [x0,x1]):∀ vals:List Value,vals.length = 2→C vals
 | [],h => nomatch h
 | x :: r,h => byLen1 (C := fun r => C (x :: r)) (k x) r (Nat.succ.inj h)
theorem byLen3 {C:List Value→Prop} (k:∀ x0 x1 x2,C [x0,x1,x2]):∀ vals:List Value,vals.length = 3→C vals
 | [],h => nomatch h
 | x :: r,h => byLen2 (C := fun r => C (x :: r)) (k x) r (Nat.succ.inj h)
theorem byLen4 {C:List Value→Prop} (k:∀ x0 x1 x2 x3,C [x0,x1,x2,x3]):∀ vals:List Value,vals.length = 4→C vals
 | [],h => nomatch h
 | x :: r,h => byLen3 (C := fun r => C (x :: r)) (k x) r (Nat.succ.inj h)
theorem byLen5 {C:List Value→Prop} (k:∀ x0 x1 x2 x3 x4,C [x0,x1,x2,x3,x4]):∀ vals:List Value,vals.length = 5→C vals
 | [],h => nomatch h
 | x :: r,h => byLen4 (C := fun r => C (x :: r)) (k x) r (Nat.succ.inj h)
theorem h0 (P:Params) (S:Setting):∀ (vals:List Value),vals.length + 2 = p0.length→peek (KK P) S (bindArgs (fdAt (KK P) 84) ⟨vals,[]⟩) = some (p0.zip (vals ++ [.int (Int.ofNat 0) 322,.int 0 323])) :=
 fun vals h => byLen1 (C := fun vals => peek (KK P) S (bindArgs (fdAt (KK P) 84) ⟨vals,[]⟩) = some (p0.zip (vals ++ [.int (Int.ofNat 0) 322,.int 0 323]))) (fun x0 => by kernel_rfl) vals (Nat.succ.inj (Nat.succ.inj h))
theorem h1 (P:Params) (S:Setting):∀ (vals:List Value),vals.length + 0 = p1.length→peek (KK P) S (bindArgs (fdAt (KK P) 91) ⟨vals,[]⟩) = some (p1.zip (vals ++ [])) :=
 byLen3 (fun x0 x1 x2 => by kernel_rfl)
theorem h2 (P:Params) (S:Setting):∀ (vals:List Value),vals.length + 0 = p2.length→peek (KK P) S (bindArgs (fdAt (KK P) 98) ⟨vals,[]⟩) = some (p2.zip (vals ++ [])) :=
 byLen3 (fun x0 x1 x2 => by kernel_rfl)
theorem h3 (P:Params) (S:Setting):∀ (vals:List Value),vals.length + 0 = p3.length→peek (KK P) S (bindArgs (fdAt (KK P) 105) ⟨vals,[]⟩) = some (p3.zip (vals ++ [])) :=
 byLen1 (fun x0 => by kernel_rfl)
theorem h4 (P:Params) (S:Setting):∀ (vals:List Value),vals.length + 0 = p4.length→peek (KK P) S (bindArgs (fdAt (KK P) 119) ⟨vals,[]⟩) = some (p4.zip (vals ++ [])) :=
 byLen1 (fun x0 => by kernel_rfl)
theorem h5 (P:Params) (S:Setting):∀ (vals:List Value),vals.length + 0 = p5.length→peek (KK P) S (bindArgs (fdAt (KK P) 140) ⟨vals,[]⟩) = some (p5.zip (vals ++ [])) :=
 byLen1 (fun x0 => by kernel_rfl)
theorem h6 (P:Params) (S:Setting):∀ (vals:List Value),vals.length + 0 = p6.length→peek (KK P) S (bindArgs (fdAt (KK P) 154) ⟨vals,[]⟩) = some (p6.zip (vals ++ [])) :=
 byLen2 (fun x0 x1 => by kernel_rfl)
theorem h7 (P:Params) (S:Setting):∀ (vals:List Value),vals.length + 0 = p7.length→peek (KK P) S (bindArgs (fdAt (KK P) 62) ⟨vals,[]⟩) = some (p7.zip (vals ++ [])) :=
 byLen0 (by kernel_rfl)
theorem h8 (P:Params) (S:Setting):∀ (vals:List Value),vals.length + 0 = p8.length→peek (KK P) S (bindArgs (fdAt (KK P) 69) ⟨vals,[]⟩) = some (p8.zip (vals ++ [])) :=
 byLen0 (by kernel_rfl)
theorem h9 (P:Params) (S:Setting):∀ (vals:List Value),vals.length + 0 = p9.length→peek (KK P) S (bindArgs (fdAt (KK P) 187) ⟨vals,[]⟩) = some (p9.zip (vals ++ [])) :=
 byLen1 (fun x0 => by kernel_rfl)
theorem h10 (P:Params) (S:Setting):∀ (vals:List Value),vals.length + 0 = p10.length→peek (KK P) S (bindArgs (fdAt (KK P) 194) ⟨vals,[]⟩) = some (p10.zip (vals ++ [])) :=
 byLen2 (fun x0 x1 => by kernel_rfl)
theorem h11 (P:Params) (S:Setting):∀ (vals:List Value),vals.length + 0 = p11.length→peek (KK P) S (bindArgs (fdAt (KK P) 201) ⟨vals,[]⟩) = some (p11.zip (vals ++ [])) :=
 byLen2 (fun x0 x1 => by kernel_rfl)
theorem h12 (P:Params) (S:Setting):∀ (vals:List Value),vals.length + 0 = p12.length→peek (KK P) S (bindArgs (fdAt (KK P) 208) ⟨vals,[]⟩) = some (p12.zip (vals ++ [])) :=
 byLen2 (fun x0 x1 => by kernel_rfl)
theorem h13 (P:Params) (S:Setting):∀ (vals:List Value),vals.length + 0 = p13.length→peek (KK P) S (bindArgs (fdAt (KK P) 161) ⟨vals,[]⟩) = some (p13.zip (vals ++ [])) :=
 byLen2 (fun x0 x1 => by kernel_rfl)
theorem h14 (P:Params) (S:Setting):∀ (vals:List Value),vals.length + 0 = p14.length→peek (KK P) S (bindArgs (fdAt (KK P) 166) ⟨vals,[]⟩) = some (p14.zip (vals ++ [])) :=
 byLen2 (fun x0 x1 => by kernel_rfl)
theorem h15 (P:Params) (S:Setting):∀ (vals:List Value),vals.length + 0 = p15.length→peek (KK P) S (bindArgs (fdAt (KK P) 173) ⟨vals,[]⟩) = some (p15.zip (vals ++ [])) :=
 byLen1 (fun x0 => by kernel_rfl)
theorem h16 (P:Params) (S:Setting):∀ (vals:List Value),vals.length + 0 = p16.length→peek (KK P) S (bindArgs (fdAt (KK P) 215) ⟨vals,[]⟩) = some (p16.zip (vals ++ [])) :=
 byLen5 (fun x0 x1 x2 x3 x4 => by kernel_rfl)
theorem h17 (P:Params) (S:Setting):∀ (vals:List Value),vals.length + 0 = p17.length→peek (KK P) S (bindArgs (fdAt (KK P) 229) ⟨vals,[]⟩) = some (p17.zip (vals ++ [])) :=
 byLen2 (fun x0 x1 => by kernel_rfl)
theorem h18 (P:Params) (S:Setting):∀ (vals:List Value),vals.length + 0 = p18.length→peek (KK P) S (bindArgs (fdAt (KK P) 236) ⟨vals,[]⟩) = some (p18.zip (vals ++ [])) :=
 byLen1 (fun x0 => by kernel_rfl)
theorem h19 (P:Params) (S:Setting):∀ (vals:List Value),vals.length + 0 = p19.length→peek (KK P) S (bindArgs (fdAt (KK P) 241) ⟨vals,[]⟩) = some (p19.zip (vals ++ [])) :=
 byLen1 (fun x0 => by kernel_rfl)
theorem h20 (P:Params) (S:Setting):∀ (vals:List Value),vals.length + 0 = p20.length→peek (KK P) S (bindArgs (fdAt (KK P) 246) ⟨vals,[]⟩) = some (p20.zip (vals ++ [])) :=
 byLen3 (fun x0 x1 x2 => by kernel_rfl)
theorem h21 (P:Params) (S:Setting):∀ (vals:List Value),vals.length + 0 = p21.length→peek (KK P) S (bindArgs (fdAt (KK P) 251) ⟨vals,[]⟩) = some (p21.zip (vals ++ [])) :=
 byLen1 (fun x0 => by kernel_rfl)
theorem h22 (P:Params) (S:Setting):∀ (vals:List Value),vals.length + 0 = p22.length→peek (KK P) S (bindArgs (fdAt (KK P) 256) ⟨vals,[]⟩) = some (p22.zip (vals ++ [])) :=
 byLen2 (fun x0 x1 => by kernel_rfl)
theorem h23 (P:Params) (S:Setting):∀ (vals:List Value),vals.length + 0 = p23.length→peek (KK P) S (bindArgs (fdAt (KK P) 261) ⟨vals,[]⟩) = some (p23.zip (vals ++ [])) :=
 byLen1 (fun x0 => by kernel_rfl)
theorem h24 (P:Params) (S:Setting):∀ (vals:List Value),vals.length + 0 = p24.length→peek (KK P) S (bindArgs (fdAt (KK P) 268) ⟨vals,[]⟩) = some (p24.zip (vals ++ [])) :=
 byLen2 (fun x0 x1 => by kernel_rfl)
theorem h25 (P:Params) (S:Setting):∀ (vals:List Value),vals.length + 0 = p25.length→peek (KK P) S (bindArgs (fdAt (KK P) 273) ⟨vals,[]⟩) = some (p25.zip (vals ++ [])) :=
 byLen2 (fun x0 x1 => by kernel_rfl)
theorem h26 (P:Params) (S:Setting):∀ (vals:List Value),vals.length + 0 = p26.length→peek (KK P) S (bindArgs (fdAt (KK P) 280) ⟨vals,[]⟩) = some (p26.zip (vals ++ [])) :=
 byLen1 (fun x0 => by kernel_rfl)
theorem h27 (P:Params) (S:Setting):∀ (vals:List Value),vals.length + 0 = p27.length→peek (KK P) S (bindArgs (fdAt (KK P) 287) ⟨vals,[]⟩) = some (p27.zip (vals ++ [])) :=
 byLen3 (fun x0 x1 x2 => by kernel_rfl)
theorem h28 (P:Params) (S:Setting):∀ (vals:List Value),vals.length + 0 = p28.length→peek (KK P) S (bindArgs (fdAt (KK P) 294) ⟨vals,[]⟩) = some (p28.zip (vals ++ [])) :=
 byLen1 (fun x0 => by kernel_rfl)
theorem h29 (P:Params) (S:Setting):∀ (vals:List Value),vals.length + 0 = p29.length→peek (KK P) S (bindArgs (fdAt (KK P) 299) ⟨vals,[]⟩) = some (p29.zip (vals ++ [])) :=
 byLen1 (fun x0 => by kernel_rfl)
noncomputable def fnSp (sp:Nat→SpecT) (nl np:Nat) (ms:MSs) (dflt:List V):SpecT := fun vs H Q => vs.length + dflt.length = np∧wpFn sp nl ms (vs ++ dflt) H Q
noncomputable def bodyOf (n:Nat):MSs := [b0 aBW,b1 aBW,b2 aBW,b3 aBW,b4 aBW,b5 aBW,b6,b7,b8,b9 aDS,b10 aDS,b11 aDS,b12 aDS,b13,b14,b15,b16 aBW aDS,b17,b18,b19,b20 aBW aDS,b21,b22,b23,b24,b25,b26,b27,b28,b29 aBW].getD n .nil
noncomputable def nlOf (n:Nat):Nat := [3,3,5,1,1,1,5,4,4,1,5,5,6,5,15,6,11,3,7,2,17,1,3,6,4,3,10,9,6,10].getD n 0
noncomputable def npOf (n:Nat):Nat := [3,3,3,1,1,1,2,0,0,1,2,2,2,2,2,1,5,2,1,1,3,1,2,1,2,2,1,3,1,1].getD n 0
noncomputable def dfOf:Nat→List V
 | 0 => [.int 0,.int 0]
 | _ => []
noncomputable def Sp:Nat→Nat→SpecT
 | 0 => fun U U U U => False
 | n + 1 => fun f => if f = n then fnSp (Sp n) (nlOf n) (npOf n) (bodyOf n) (dfOf n) else Sp n f
theorem Sp_at {n f:Nat} (h:f < n):Sp n f = fnSp (Sp f) (nlOf f) (npOf f) (bodyOf f) (dfOf f) := by
 induction n with
 | zero => cases h
 | succ n ih =>
  show (if f = n then fnSp (Sp n) (nlOf n) (npOf n) (bodyOf n) (dfOf n) else Sp n f) = _
  by_cases q:f = n
  ·rw [if_pos q,q]
  ·rw [if_neg q]; exact ih (by lia)
noncomputable def PF (W:Wd) (n:Nat):Prop := (∀ f,f < n→FnOk W (Sp n f) (tab.fa f) (f + 1))→FnOk W (fnSp (Sp n) (nlOf n) (npOf n) (bodyOf n) (dfOf n)) (tab.fa n) (n + 1)
theorem stepP {P:Nat→Prop} {k:Nat} (h:P k) (r:∀ n,k + 1 ≤ n→n < 30→P n) (n:Nat) (a:k ≤ n) (b:n < 30):P n :=
 (Nat.eq_or_lt_of_le a).elim (fun e => e ▸ h) (fun l => r n l b)
theorem stepZ {P:Nat→Prop} (n:Nat) (a:30 ≤ n) (b:n < 30):P n := absurd b (Nat.not_lt.mpr a)
theorem fn0 {W:Wd} (hK:W.K = KK W.w.params):PF W 0 := fun lo => fnOk_chk (params := p0) (names := n0) (nl := nlOf 0) (dflt := dfOf 0) (dvals := [.int (Int.ofNat 0) 322,.int 0 323]) (tabOk hK) lo (by rw [hK]; exact c0 _) (by rw [hK]; exact h0 _) (fun F => .cons .int (.cons .int .nil))
theorem fn1 {W:Wd} (hK:W.K = KK W.w.params):PF W 1 := fun lo => fnOk_chk (params := p1) (names := n1) (nl := nlOf 1) (dflt := dfOf 1) (dvals := []) (tabOk hK) lo (by rw [hK]; exact c1 _) (by rw [hK]; exact h1 _) (fun F => .nil)
theorem fn2 {W:Wd} (hK:W.K = KK W.w.params):PF W 2 := fun lo => fnOk_chk (params := p2) (names := n2) (nl := nlOf 2) (dflt := dfOf 2) (dvals := []) (tabOk hK) lo (by rw [hK]; exact c2 _) (by rw [hK]; exact h2 _) (fun F => .nil)
theorem fn3 {W:Wd} (hK:W.K = KK W.w.params):PF W 3 := fun lo => fnOk_chk (params := p3) (names := n3) (nl := nlOf 3) (dflt := dfOf 3) (dvals := []) (tabOk hK) lo (by rw [hK]; exact c3 _) (by rw [hK]; exact h3 _) (fun F => .nil)
theorem fn4 {W:Wd} (hK:W.K = KK W.w.params):PF W 4 := fun lo => fnOk_chk (params := p4) (names := n4) (nl := nlOf 4) (dflt := dfOf 4) (dvals := []) (tabOk hK) lo (by rw [hK]; exact c4 _) (by rw [hK]; exact h4 _) (fun F => .nil)
theorem fn5 {W:Wd} (hK:W.K = KK W.w.params):PF W 5 := fun lo => fnOk_chk (params := p5) (names := n5) (nl := nlOf 5) (dflt := dfOf 5) (dvals := []) (tabOk hK) lo (by rw [hK]; exact c5 _) (by rw [hK]; exact h5 _) (fun F => .nil)
theorem fn6 {W:Wd} (hK:W.K = KK W.w.params):PF W 6 := fun lo => fnOk_chk (params := p6) (names := n6) (nl := nlOf 6) (dflt := dfOf 6) (dvals := []) (tabOk hK) lo (by rw [hK]; exact c6 _) (by rw [hK]; exact h6 _) (fun F => .nil)
theorem fn7 {W:Wd} (hK:W.K = KK W.w.params):PF W 7 := fun lo => fnOk_chk (params := p7) (names := n7) (nl := nlOf 7) (dflt := dfOf 7) (dvals := []) (tabOk hK) lo (by rw [hK]; exact c7 _) (by rw [hK]; exact h7 _) (fun F => .nil)
theorem fn8 {W:Wd} (hK:W.K = KK W.w.params):PF W 8 := fun lo => fnOk_chk (params := p8) (names := n8) (nl := nlOf 8) (dflt := dfOf 8) (dvals := []) (tabOk hK) lo (by rw [hK]; exact c8 _) (by rw [hK]; exact h8 _) (fun F => .nil)
theorem fn9 {W:Wd} (hK:W.K = KK W.w.params):PF W 9 := fun lo => fnOk_chk (params := p9) (names := n9) (nl := nlOf 9) (dflt := dfOf 9) (dvals := []) (tabOk hK) lo (by rw [hK]; exact c9 _) (by rw [hK]; exact h9 _) (fun F => .nil)
theorem fn10 {W:Wd} (hK:W.K = KK W.w.params):PF W 10 := fun lo => fnOk_chk (params := p10) (names := n10) (nl := nlOf 10) (dflt := dfOf 10) (dvals := []) (tabOk hK) lo (by rw [hK]; exact c10 _) (by rw [hK]; exact h10 _) (fun F => .nil)
theorem fn11 {W:Wd} (hK:W.K = KK W.w.params):PF W 11 := fun lo => fnOk_chk (params := p11) (names := n11) (nl := nlOf 11) (dflt := dfOf 11) (dvals := []) (tabOk hK) lo (by rw [hK]; exact c11 _) (by rw [hK]; exact h11 _) (fun F => .nil)
theorem fn12 {W:Wd} (hK:W.K = KK W.w.params):PF W 12 := fun lo => fnOk_chk (params := p12) (names := n12) (nl := nlOf 12) (dflt := dfOf 12) (dvals := []) (tabOk hK) lo (by rw [hK]; exact c12 _) (by rw [hK]; exact h12 _) (fun F => .nil)
theorem fn13 {W:Wd} (hK:W.K = KK W.w.params):PF W 13 := fun lo => fnOk_chk (params := p13) (names := n13) (nl := nlOf 13) (dflt := dfOf 13) (dvals := []) (tabOk hK) lo (by rw [hK]; exact c13 _) (by rw [hK]; exact h13 _) (fun F => .nil)
theorem fn14 {W:Wd} (hK:W.K = KK W.w.params):PF W 14 := fun lo => fnOk_chk (params := p14) (names := n14) (nl := nlOf 14) (dflt := dfOf 14) (dvals := []) (tabOk hK) lo (by rw [hK]; exact c14 _) (by rw [hK]; exact h14 _) (fun F => .nil)
theorem fn15 {W:Wd} (hK:W.K = KK W.w.params):PF W 15 := fun lo => fnOk_chk (params := p15) (names := n15) (nl := nlOf 15) (dflt := dfOf 15) (dvals := []) (tabOk hK) lo (by rw [hK]; exact c15 _) (by rw [hK]; exact h15 _) (fun F => .nil)
theorem fn16 {W:Wd} (hK:W.K = KK W.w.params):PF W 16 := fun lo => fnOk_chk (params := p16) (names := n16) (nl := nlOf 16) (dflt := dfOf 16) (dvals := []) (tabOk hK) lo (by rw [hK]; exact c16 _) (by rw [hK]; exact h16 _) (fun F => .nil)
theorem fn17 {W:Wd} (hK:W.K = KK W.w.params):PF W 17 := fun lo => fnOk_chk (params := p17) (names := n17) (nl := nlOf 17) (dflt := dfOf 17) (dvals := []) (tabOk hK) lo (by rw [hK]; exact c17 _) (by rw [hK]; exact h17 _) (fun F => .nil)
theorem fn18 {W:Wd} (hK:W.K = KK W.w.params):PF W 18 := fun lo => fnOk_chk (params := p18) (names := n18) (nl := nlOf 18) (dflt := dfOf 18) (dvals := []) (tabOk hK) lo (by rw [hK]; exact c18 _) (by rw [hK]; exact h18 _) (fun F => .nil)
theorem fn19 {W:Wd} (hK:W.K = KK W.w.params):PF W 19 := fun lo => fnOk_chk (params := p19) (names := n19) (nl := nlOf 19) (dflt := dfOf 19) (dvals := []) (tabOk hK) lo (by rw [hK]; exact c19 _) (by rw [hK]; exact h19 _) (fun F => .nil)
theorem fn20 {W:Wd} (hK:W.K = KK W.w.params):PF W 20 := fun lo => fnOk_chk (params := p20) (names := n20) (nl := nlOf 20) (dflt := dfOf 20) (dvals := []) (tabOk hK) lo (by rw [hK]; exact c20 _) (by rw [hK]; exact h20 _) (fun F => .nil)
theorem fn21 {W:Wd} (hK:W.K = KK W.w.params):PF W 21 := fun lo => fnOk_chk (params := p21) (names := n21) (nl := nlOf 21) (dflt := dfOf 21) (dvals := []) (tabOk hK) lo (by rw [hK]; exact c21 _) (by rw [hK]; exact h21 _) (fun F => .nil)
theorem fn22 {W:Wd} (hK:W.K = KK W.w.params):PF W 22 := fun lo => fnOk_chk (params := p22) (names := n22) (nl := nlOf 22) (dflt := dfOf 22) (dvals := []) (tabOk hK) lo (by rw [hK]; exact c22 _) (by rw [hK]; exact h22 _) (fun F => .nil)
theorem fn23 {W:Wd} (hK:W.K = KK W.w.params):PF W 23 := fun lo => fnOk_chk (params := p23) (names := n23) (nl := nlOf 23) (dflt := dfOf 23) (dvals := []) (tabOk hK) lo (by rw [hK]; exact c23 _) (by rw [hK]; exact h23 _) (fun F => .nil)
theorem fn24 {W:Wd} (hK:W.K = KK W.w.params):PF W 24 := fun lo => fnOk_chk (params := p24) (names := n24) (nl := nlOf 24) (dflt := dfOf 24) (dvals := []) (tabOk hK) lo (by rw [hK]; exact c24 _) (by rw [hK]; exact h24 _) (fun F => .nil)
theorem fn25 {W:Wd} (hK:W.K = KK W.w.params):PF W 25 := fun lo => fnOk_chk (params := p25) (names := n25) (nl := nlOf 25) (dflt := dfOf 25) (dvals := []) (tabOk hK) lo (by rw [hK]; exact c25 _) (by rw [hK]; exact h25 _) (fun F => .nil)
theorem fn26 {W:Wd} (hK:W.K = KK W.w.params):PF W 26 := fun lo => fnOk_chk (params := p26) (names := n26) (nl := nlOf 26) (dflt := dfOf 26) (dvals := []) (tabOk hK) lo (by rw [hK]; exact c26 _) (by rw [hK]; exact h26 _) (fun F => .nil)
theorem fn27 {W:Wd} (hK:W.K = KK W.w.params):PF W 27 := fun lo => fnOk_chk (params := p27) (names := n27) (nl := nlOf 27) (dflt := dfOf 27) (dvals := []) (tabOk hK) lo (by rw [hK]; exact c27 _) (by rw [hK]; exact h27 _) (fun F => .nil)
theorem fn28 {W:Wd} (hK:W.K = KK W.w.params):PF W 28 := fun lo => fnOk_chk (params := p28) (names := n28) (nl := nlOf 28) (dflt := dfOf 28) (dvals := []) (tabOk hK) lo (by rw [hK]; exact c28 _) (by rw [hK]; exact h28 _) (fun F => .nil)
theorem fn29 {W:Wd} (hK:W.K = KK W.w.params):PF W 29 := fun lo => fnOk_chk (params := p29) (names := n29) (nl := nlOf 29) (dflt := dfOf 29) (dvals := []) (tabOk hK) lo (by rw [hK]; exact c29 _) (by rw [hK]; exact h29 _) (fun F => .nil)
theorem one_fn {W:Wd} (hK:W.K = KK W.w.params) (n:Nat) (h:n < 30):PF W n :=
 (stepP (fn0 hK) (stepP (fn1 hK) (stepP (fn2 hK) (stepP (fn3 hK) (stepP (fn4 hK) (stepP (fn5 hK) (stepP (fn6 hK) (stepP (fn7 hK) (stepP (fn8 hK) (stepP (fn9 hK) (stepP (fn10 hK) (stepP (fn11 hK) (stepP (fn12 hK) (stepP (fn13 hK) (stepP (fn14 hK) (stepP (fn15 hK) (stepP (fn16 hK) (stepP (fn17 hK) (stepP (fn18 hK) (stepP (fn19 hK) (stepP (fn20 hK) (stepP (fn21 hK) (stepP (fn22 hK) (stepP (fn23 hK) (stepP (fn24 hK) (stepP (fn25 hK) (stepP (fn26 hK) (stepP (fn27 hK) (stepP (fn28 hK) (stepP (fn29 hK) stepZ)))))))))))))))))))))))))))))) n (Nat.zero_le n) h
theorem all_fn {W:Wd} (hK:W.K = KK W.w.params):∀ n,n ≤ 30→∀ f,f < n→FnOk W (Sp n f) (tab.fa f) (f + 1) := by
 intro n
 induction n with
 | zero => intro _ f h; cases h
 | succ n ih =>
  intro hn f hf
  by_cases q:f = n
  ·subst q
   rw [Sp_at hf]
   exact one_fn hK f (by assumption) (ih (by exact Nat.le_of_lt ‹_›))
  ·rw [Sp_at (by assumption),← Sp_at (n := n) (f := f) (by lia)]
   exact ih (by exact Nat.le_of_lt ‹_›) f (by lia)
theorem VRs.ints {F:PM} {vs:List Value} {ns:List Int} (h:IntsAre vs ns):VRs F (ns.map V.int) vs := by
 induction h with
 | nil => exact .nil
 | cons _ t r ih => exact .cons .int ih
theorem callerRoom:Room callerA 30 := ⟨rfl,by decide +kernel,by decide +kernel⟩
set_option tactic.hygienic true in
theorem join (plain:∀ ns:List Int,ns.length ≤ 63→Sp 30 29 [.lst (ns.map .int)] (fun U => none) (fun v U => v = .bool true)):PySem.Challenge.rw_pb0115_01.Holds := hd (by
 intro w s₀ s₁ mg mb G Y a hmg hgens args vals as hpre hlay hrd hwl hlo
 have KX:(KK w.params).In s₁.heap := kIn_of Y
 have hm:mg "law" = some (.ref a) := hmg
 clear hmg
 refine Ground.open G ?_
 intro T B D TE TW
 have TR := topRead_of T
 have ha:a = 299 := by
  have h1 := mg_of (n := "law") (v := .ref 299) KX TR.g (by kernel_rfl)
  rw [hm] at h1
  cases h1; rfl
 subst ha
 clear hm Y B D TE TW G
 wrow_args hpre hlay hrd hwl hlo
 rename_i ns hs hlay0 hL1 hr1 hl2 as1 as2 l items as3 hL ra w1 r0 hI hr hcond hcond'
 let W:Wd := ⟨PySem.Challenge.rw_pb0115_01.row.prog,w,KK w.params,s₁.heap,s₁.gens,s₁.os,_,_,mg,mb,KX,TR⟩
 have hs:HS W (fun a => s₁.heap.get? a) PM.emp (fun U => none) s₁ :=
  ⟨fun a o e => e,fun a o e => e,fun a o e => (by cases e),fun a o e => (by cases e),fun a o e => rfl,fun a o e => rfl,fun a o e => rfl,rfl,rfl,fun a es e => (by cases e)⟩
 refine og fun G hG => ?_
 refine ex1_2 hL fun o ho hc xq1 => ?_; clear hL
 refine ex1_0 xq1 fun n hd' => ?_; clear xq1
 refine hG ?_; clear hG G
 have hfn:FnOk W (Sp 30 29) (tab.fa 29) (29 + 1) := all_fn (W := W) rfl 30 (Nat.le_refl _) 29 (by decide)
 refine wk_call (kc_mono (hfn callerRoom hs (vs := [.lst (ns.map .int)]) (vals := [.ref l]) (.cons (.lst ho hc hd' (by simpa using VRs.ints hI)) .nil) (plain ns (by omega)) (R := fun r s' => r = .ok (.ret (.bool true))∧(∀ b o,s₁.heap.get? b = some o→s'.heap.get? b = some o)∧s'.os = s₁.os∧s'.gens = s₁.gens) (fun F' mv H' v s' le hs' rv q => ?_)) (fun r s' hr => ?_))
 ·subst q
  cases rv
  exact ⟨rfl,fun b o e => hs'.fk _ _ (le _ _ e),hs'.os.1,hs'.gens⟩
 ·refine ex0_3 hr fun xq2 k hos hg => ?_; clear hr
  obtain rfl := xq2
  exact GoodW.toG ⟨.inl (in3_4 (.bool true) (.bool true) [] rfl (raisesW_false (fun ct h => by cases h)) (.bool true) (postW_of (by wrow_shape) (by wtm_val) (by w_fin)) (fun U => ⟨List.nodup_nil,fun a h => by cases h⟩)),k,hos,hg.trans hgens⟩)
end
section
open PySem PySem.W
theorem for_inv {body:(Loc→Hp→Prop)→Loc→Hp→Prop} {tg:Tg} {Q:Loc→Hp→Prop} (I:Nat→Loc→Hp→Prop) :
  ∀ (items:List V) {k:Nat} {l:Loc} {H:Hp},I k l H→(∀ (i:Nat) v l H (K:Loc→Hp→Prop),items[i]? = some v→I (k + i) l H→(∀ l H,I (k + i + 1) l H→K l H)→obind (bindT tg v l) fun l' => body K l' H) →
   (∀ l H,I (k + items.length) l H→Q l H)→forW body tg items Q l H
 | [],k,l,H,h,_,q => q l H h
 | v :: r,k,l,H,h,st,q => by
  exact st 0 v l H (fun l H => forW body tg r Q l H) rfl h (fun l2 H2 h2 => by
   refine for_inv I r (k := k + 1) h2 (fun i v l H K e hi hK => ?_) (fun l H hl => q l H ?_)
   ·exact st (i + 1) v l H K e (by rw [show k + (i + 1) = k + 1 + i by exact Eq.symm (Nat.succ_add_eq_add_succ k i)]; exact hi) (fun l H h => hK l H (by rw [show k + 1 + i + 1 = k + (i + 1) + 1 by exact Eq.symm (Nat.add_right_comm k (i + 1) 1)]; exact h))
   ·rw [List.length_cons,show k + (r.length + 1) = k + 1 + r.length by exact Eq.symm (Nat.succ_add_eq_add_succ k r.length)]; exact hl)
theorem while_inv {test:Loc→(Bool→Hp→Prop)→Hp→Prop} {body:(Loc→Hp→Prop)→Loc→Hp→Prop} {Q:Loc→Hp→Prop} (I:Nat→Loc→Hp→Prop)
  (st:∀ m l H (K:Loc→Hp→Prop),I m l H→(∀ m' l H,m' < m→I m' l H→K l H)→test l (fun b H => match b with
   | true => body K l H
   | false => Q l H) H):∀ (n m:Nat) {l:Loc} {H:Hp},m < n→I m l H→whileW test body Q n l H
 | 0,m,l,H,h,_ => absurd h (Nat.not_lt_zero _)
 | n + 1,m,l,H,h,hi => st m l H (fun l H => whileW test body Q n l H) hi (fun m' l H hm h' => while_inv I st n m' (by lia) h')
theorem big_eq:big = 1000000 := rfl
theorem item_lst {H:Hp} {xs:List V} {i:Int} {P:V→Prop} (h0:0 ≤ i) (h1:i < xs.length) (hb:xs.length ≤ big) (hp:∀ v,xs[i.toNat]? = some v→P v):itemW H (.lst xs) (.int i) P := by
 have hlt:i.toNat < xs.length := by exact (Int.toNat_lt h0).mpr h1
 exact .inl ⟨i.toNat,xs[i.toNat],⟨by unfold idx; rw [if_pos h0,if_pos h1],List.getElem?_eq_getElem hlt,hb⟩,hp _ (List.getElem?_eq_getElem hlt)⟩
theorem item_tup {H:Hp} {xs:List V} {i:Int} {P:V→Prop} (h0:0 ≤ i) (h1:i < xs.length) (hb:xs.length ≤ big) (hp:∀ v,xs[i.toNat]? = some v→P v):itemW H (.tup xs) (.int i) P := by
 have hlt:i.toNat < xs.length := by lia
 exact .inl ⟨i.toNat,xs[i.toNat],⟨by unfold idx; rw [if_pos h0,if_pos h1],List.getElem?_eq_getElem hlt,hb⟩,hp _ (List.getElem?_eq_getElem hlt)⟩
theorem item_ref {H:Hp} {a:Addr} {xs:List V} {i:Int} {P:V→Prop} (e:H a = some (.list xs)) (h0:0 ≤ i) (h1:i < xs.length) (hb:xs.length ≤ big) (hp:∀ v,xs[i.toNat]? = some v→P v):itemW H (.ref a) (.int i) P := by
 have hlt:i.toNat < xs.length := by lia
 have e2:asSeq H (.ref a) = some xs := by rw [asSeq_r,asList_r,e]
 refine .inl ?_
 rw [e2]
 exact ⟨i.toNat,xs[i.toNat],⟨by unfold idx; rw [if_pos h0,if_pos h1],List.getElem?_eq_getElem hlt,hb⟩,hp _ (List.getElem?_eq_getElem hlt)⟩
theorem item_ints {H:Hp} {xs:List Int} {i:Int} {P:V→Prop} (h0:0 ≤ i) (h1:i < xs.length) (hb:xs.length ≤ big) (hp:P (.int (xs.getD i.toNat 0))):itemW H (.lst (xs.map .int)) (.int i) P :=
 item_lst h0 (by simpa using h1) (by simpa using hb) (fun v hv => by
  have hlt:i.toNat < xs.length := by exact (Int.toNat_lt h0).mpr h1
  rw [List.getElem?_map,List.getElem?_eq_getElem hlt] at hv
  cases hv
  rwa [getD_lt hlt] at hp)
theorem item_intsR {H:Hp} {a:Addr} {xs:List Int} {i:Int} {P:V→Prop} (e:H a = some (.list (xs.map .int))) (h0:0 ≤ i) (h1:i < xs.length) (hb:xs.length ≤ big) (hp:P (.int (xs.getD i.toNat 0))):itemW H (.ref a) (.int i) P :=
 item_ref e h0 (by simpa using h1) (by simpa using hb) (fun v hv => by
  have hlt:i.toNat < xs.length := by lia
  rw [List.getElem?_map,List.getElem?_eq_getElem hlt] at hv
  cases hv
  rwa [getD_lt hlt] at hp)
theorem slice_to {xs:List V} {m:Nat} (h:m ≤ 1000000):sliceL xs .none (.int m) = some (xs.take m) := by
 have h2:(0:Int) ≤ (m:Int)∧(m:Int) < 2 ^ 60 := ⟨Int.natCast_nonneg m,Int.lt_of_le_of_lt (Int.ofNat_le.mpr h) (by decide)⟩
 rw [sliceL_ni,if_pos h2,Int.toNat_natCast]
theorem slice_from {xs:List V} {m:Nat} (h:m ≤ 1000000):sliceL xs (.int m) .none = some (xs.drop m) := by
 have h2:(0:Int) ≤ (m:Int)∧(m:Int) < 2 ^ 60 := ⟨Int.natCast_nonneg m,Int.lt_of_le_of_lt (Int.ofNat_le.mpr h) (by decide)⟩
 rw [sliceL_in,if_pos h2,Int.toNat_natCast]
theorem slice_mid {xs:List V} {a b:Nat} (h:a ≤ b) (hb:b ≤ xs.length):sliceL xs (.int a) (.int b) = some ((xs.drop a).take (b - a)) := by
 have h2:(0:Int) ≤ (a:Int)∧(a:Int) ≤ (b:Int)∧(b:Int) ≤ xs.length := ⟨Int.natCast_nonneg a,Int.ofNat_le.mpr h,Int.ofNat_le.mpr hb⟩
 rw [sliceL_ii,if_pos h2,Int.toNat_natCast,Int.toNat_natCast]
theorem bW {p:Prop} (h:p):aBW = aBW∧p := ⟨rfl,h⟩
theorem bD {p:Prop} (h:p):aDS = aDS∧p := ⟨rfl,h⟩
theorem dz1 {α β:Type} (f:α→β) (a:α) (l:List α):List.map f (a :: l) = f a :: List.map f l := rfl
theorem dz2 {α β:Type} (f:α→β):List.map f [] = [] := rfl
theorem dz3 {α:Type} (a:α) (l r:List α):a :: l ++ r = a :: (l ++ r) := rfl
theorem dz4 {α:Type} (r:List α):[] ++ r = r := rfl
theorem dz5 {α:Type} (a:α) (l:List α):(a :: l)[0]? = some a := rfl
theorem dz6 {α:Type} (a:α) (l:List α) (i:Nat):(a :: l)[i + 1]? = l[i]? := rfl
theorem dz7 {α:Type} (a b:α) (l:List α):(a :: l).set 0 b = b :: l := rfl
theorem dz8 {α:Type} (a b:α) (l:List α) (i:Nat):(a :: l).set (i + 1) b = a :: l.set i b := rfl
theorem dz9 {α:Type} (a:α) (l:List α):(a :: l).length = l.length + 1 := rfl
theorem dz10 {α:Type}:([]:List α).length = 0 := rfl
theorem dz11 {α:Type} (a:α) (n:Nat):List.replicate (n + 1) a = a :: List.replicate n a := rfl
theorem dz12 {α:Type} (a:α):List.replicate 0 a = [] := rfl
theorem dz13 (n:Nat):((n:Int)).toNat = n := rfl
theorem step {sp:Nat→SpecT} {s:MS} {r:MSs} {Qn:Loc→Hp→Prop} {Qr:V→Hp→Prop} {l:Loc} {H:Hp} (h:wpS sp s (fun l H => wpSs sp r Qn Qr l H) Qr l H):wpSs sp (.cons s r) Qn Qr l H := h
theorem stepK {sp:Nat→SpecT} {s:MS} {r:MSs} {Qn:Loc→Hp→Prop} {Qr:V→Hp→Prop} {l:Loc} {H:Hp} (h:∀ K:Loc→Hp→Prop,(∀ l H,wpSs sp r Qn Qr l H→K l H)→wpS sp s K Qr l H):wpSs sp (.cons s r) Qn Qr l H := h _ (fun U U h => h)
theorem k17 {n:Nat} (hn:17 < n) {xs:List Int} {least:Nat} {H:Hp} {Q:V→Hp→Prop} (hl:least ≤ xs.length) (hb:xs.length ≤ 1000)
  (q:∀ m,least ≤ m→m ≤ xs.length→(m = least ∨ xs.getD (m - 1) 0 ≠ 0)→(∀ j,m ≤ j→xs.getD j 0 = 0)→Q (.lst ((xs.take m).map .int)) H):Sp n 17 [.lst (xs.map .int),.int least] H Q := by
 rw [Sp_at hn]
 refine ⟨rfl,?_⟩
 show wpFn (Sp 17) 3 b17 [.lst (xs.map .int),.int least] H Q
 have hbig := big_eq
 unfold wpFn b17
 refine step ?_
 dsimp only [dz1,dz2,dz9,dz10,dz11,dz12,dz3,dz4,wpS,wpE,wpEs,dz5,dz8,dz7,biW,lenW,oneV_1,oget_s,asSeq_l]
 refine ⟨by rw [List.length_map]; lia,stepK (fun G hG => ?_)⟩
 dsimp only [wpS,wpE,wpAnd,truthW_b,cmpW,copI,vI_i,binW]
 refine ⟨xs.length + 1,?_⟩
 refine while_inv (fun m l H' => H' = H∧l = [some (.lst (xs.map .int)),some (.int least),some (.int m)]∧least ≤ m∧m ≤ xs.length∧∀ j,m ≤ j→xs.getD j 0 = 0) ?_ _ xs.length (Nat.lt_succ_self _) ⟨rfl,by rw [List.length_map],hl,Nat.le_refl _,fun j hj => by simp [List.getD_eq_getElem?_getD,hj]⟩
 intro m l H' K hI9 hK
 refine ex0_4 hI9 fun xq1 xq2 h1 h2 h3 => ?_; clear hI9
 obtain rfl := xq1
 obtain rfl := xq2
 dsimp only [dz6,dz5,oget_s,vI_i]
 have fin:(m = least ∨ xs.getD (m - 1) 0 ≠ 0)→G [some (.lst (xs.map .int)),some (.int least),some (.int m)] H' := fun hf => hG _ _ (by
  dsimp only [wpSs,wpS,wpE,dz5,mk,dz6,oget_s,asList_l]
  refine ⟨(xs.take m).map .int,⟨?_,by rw [List.length_map]; lia⟩,?_⟩
  ·rw [slice_to (by lia),List.map_take]
  ·exact ⟨by rw [List.length_map,List.length_take]; lia,H',Hp.le_refl _,q m h1 h2 hf h3⟩)
 clear hG
 by_cases hm:least < m
 ·refine dT (by exact Int.ofNat_lt.mpr hm:(least:Int) < m) ?_
  refine item_ints (by lia) (by lia) (by lia) ?_
  have e:((m:Int) - 1).toNat = m - 1 := by lia
  rw [e]
  try dsimp only [vI_i]
  by_cases hz:xs.getD (m - 1) 0 = 0
  ·refine dT hz ?_
   refine hK (m - 1) _ _ (by exact Nat.sub_one_lt_of_lt hm) ⟨rfl,by rw [show ((m:Int) - 1) = ((m - 1:Nat):Int) by omega]; rfl,by exact Nat.le_sub_one_of_lt hm,by omega,fun j hj => ?_⟩
   by_cases q2:j = m - 1
   ·rw [q2]; exact hz
   ·exact h3 j (by lia)
  ·refine dF hz ?_
   exact fin (.inr hz)
 ·refine dF (by lia:¬ (least:Int) < m) ?_
  exact fin (.inl (by lia))
noncomputable def fst (rs:List (Int × Int)) (p:Nat):Int := (rs.getD p (0,0)).1
noncomputable def snd (rs:List (Int × Int)) (p:Nat):Int := (rs.getD p (0,0)).2
theorem item_pairs {H:Hp} {rs:List (Int × Int)} {i:Int} {P:V→Prop} (h0:0 ≤ i) (h1:i < rs.length) (hb:rs.length ≤ big) (hp:P (.tup [.int (fst rs i.toNat),.int (snd rs i.toNat)])):itemW H (.lst (rs.map tupOf)) (.int i) P :=
 item_lst h0 (by simpa using h1) (by simpa using hb) (fun v hv => by
  have hlt:i.toNat < rs.length := by exact (Int.toNat_lt h0).mpr h1
  rw [List.getElem?_map,List.getElem?_eq_getElem hlt] at hv
  cases hv
  unfold fst snd at hp
  rwa [getD_lt hlt] at hp)
theorem item_tup0 {H:Hp} {x:V} {xs:List V} {P:V→Prop} (hb:xs.length ≤ 100) (hp:P x):itemW H (.tup (x :: xs)) (.int 0) P :=
 item_tup (by exact Int.natCast_nonneg _) (by simp) (by rw [List.length_cons,big_eq]; lia) (fun v hv => by
  simp at hv; rwa [← hv])
theorem item_tup1 {H:Hp} {x y:V} {xs:List V} {P:V→Prop} (hb:xs.length ≤ 100) (hp:P y):itemW H (.tup (x :: y :: xs)) (.int 1) P :=
 item_tup (by exact Int.one_nonneg) (by rw [List.length_cons,List.length_cons]; exact Int.compare_eq_gt.mp rfl) (by rw [List.length_cons,List.length_cons,big_eq]; lia) (fun v hv => by
  simp at hv; rwa [← hv])
theorem k6 {n:Nat} (hn:6 < n) {rs:List (Int × Int)} {number:Int} {H:Hp} {Q:V→Hp→Prop} (h0:0 < rs.length) (hb:rs.length ≤ 1000)
  (q:∀ p,p < rs.length→(p = 0 ∨ fst rs p ≤ number)→(p + 1 = rs.length ∨ number < fst rs (p + 1))→Q (.int p) H):Sp n 6 [.lst (rs.map tupOf),.int number] H Q := by
 rw [Sp_at hn]
 refine ⟨rfl,?_⟩
 show wpFn (Sp 6) 5 b6 [.lst (rs.map tupOf),.int number] H Q
 have hbig := big_eq
 unfold wpFn b6
 refine step ?_
 dsimp only [dz1,dz2,dz9,dz10,dz11,dz12,dz3,dz4,wpS,wpE,dz8,dz7]
 refine step ?_
 dsimp only [wpS,wpE,wpEs,dz5,dz8,dz7,biW,lenW,oneV_1,oget_s,asSeq_l]
 refine ⟨by rw [List.length_map]; lia,stepK (fun G hG => ?_)⟩
 dsimp only [wpS,wpE,truthW_b,cmpW,copI,vI_i,binW]
 refine ⟨rs.length + 1,?_⟩
 refine while_inv (fun m l H' => H' = H∧∃ (lo hi:Nat) (mid:Option V),l = [some (.lst (rs.map tupOf)),some (.int number),some (.int lo),some (.int hi),mid]∧m = hi - lo∧lo < hi∧hi ≤ rs.length∧(lo = 0 ∨ fst rs lo ≤ number)∧(hi = rs.length ∨ number < fst rs hi)) ?_ _ rs.length (Nat.lt_succ_self _)
  ⟨rfl,0,rs.length,none,by rw [List.length_map]; rfl,by rfl,by assumption,Nat.le_refl _,.inl rfl,.inl rfl⟩
 rintro m l H' K ⟨rfl,lo,hi,mid,rfl,rfl,h1,h2,h3,h4⟩ hK
 dsimp only [dz6,dz5,oget_s,vI_i]
 by_cases hm:(1:Int) < (hi:Int) - lo
 ·refine dT hm ?_
  refine step ?_
  dsimp only [wpS,wpE,dz6,dz5,dz8,dz7,binW,vI_i,oget_s]
  refine ⟨⟨by exact Int.natCast_nonneg _,by lia,by exact Int.natCast_nonneg _⟩,?_⟩
  have e:((lo:Int) + hi) / 2 = (((lo + hi) / 2:Nat):Int) := by rfl
  rw [e]
  clear hG
  refine stepK (fun G hG => ?_)
  dsimp only [wpS,wpE,dz5,truthW_b,cmpW,copI,dz6,oget_s,vI_i]
  refine item_pairs (by exact Int.natCast_nonneg ((lo + hi) / 2)) (by lia) (by lia) (item_tup0 (by simp) ?_)
  try dsimp only [vI_i]
  rw [Int.toNat_natCast]
  by_cases hc:fst rs ((lo + hi) / 2) ≤ number
  ·refine dT hc ?_
   exact hG _ _ (hK (hi - (lo + hi) / 2) _ _ (by lia) ⟨rfl,(lo + hi) / 2,hi,_,rfl,rfl,by lia,h2,.inr hc,h4⟩)
  ·refine dF hc ?_
   exact hG _ _ (hK ((lo + hi) / 2 - lo) _ _ (by lia) ⟨rfl,lo,(lo + hi) / 2,_,rfl,rfl,by lia,by lia,h3,.inr (by exact Int.lt_of_not_ge hc)⟩)
 ·refine dF hm ?_
  have e:hi = lo + 1 := by lia
  subst e
  refine hG _ _ ?_
  dsimp only [wpSs,wpS,wpE,dz6,dz5,oget_s]
  exact ⟨H',Hp.le_refl _,q lo (by assumption) h3 h4⟩
noncomputable def LT:List (Int × Int) := [(3,0),(4,0),(5,0),(6,0),(7,0),(8,0),(9,0),(10,0),(11,1),(13,1),(15,1),(17,1),(19,2),(23,2),(27,2),(31,2),(35,3),(43,3),(51,3),(59,3),(67,4),(83,4),(99,4),(115,4),(131,5),(163,5),(195,5),(227,5),(258,0)]
noncomputable def LS:List Int := [3,4,5,6,7,8,9,10,11,13,15,17,19,23,27,31,35,43,51,59,67,83,99,115,131,163,195,227,259]
noncomputable def DT:List (Int × Int) := [(1,0),(2,0),(3,0),(4,0),(5,1),(7,1),(9,2),(13,2),(17,3),(25,3),(33,4),(49,4),(65,5),(97,5),(129,6),(193,6),(257,7),(385,7),(513,8),(769,8),(1025,9),(1537,9),(2049,10),(3073,10),(4097,11),(6145,11),(8193,12),(12289,12),(16385,13),(24577,13)]
noncomputable def DS:List Int := [1,2,3,4,5,7,9,13,17,25,33,49,65,97,129,193,257,385,513,769,1025,1537,2049,3073,4097,6145,8193,12289,16385,24577,32769]
theorem Hp.set_set (H:Hp) (a:Addr) (c c':Cell):(H.set a c).set a c' = H.set a c' := by funext b; unfold Hp.set; split <;> rfl
theorem rangeL_len {a b:Int}:(rangeL a b 1).length = (b - a).toNat := by
 unfold rangeL; rw [List.length_map,List.length_range]; congr 1; lia
theorem rangeL_get {a b:Int} {i:Nat} {v:V} (h:(rangeL a b 1)[i]? = some v):v = .int (a + i)∧i < (b - a).toNat := by
 have hi:i < (rangeL a b 1).length := (List.getElem?_eq_some_iff.mp h).1
 rw [rangeL_len] at hi
 refine ⟨?_,hi⟩
 unfold rangeL at h
 rw [List.getElem?_map,List.getElem?_range (by lia)] at h
 cases h
 show V.int (a + 1 * (i:Int)) = _
 rw [Int.one_mul]
theorem app_ref {H:Hp} {a:Addr} {xs:List V} {v:V} {Q:V→Hp→Prop} (e:H a = some (.list xs)) (hb:xs.length < big) (q:Q .none (H.set a (.list (xs ++ [v])))):∃ t,appKind H (.ref a) = some t∧(appKind H (.ref a) = some t∧appendW (.ref a) v Q H) := by
 have k:appKind H (.ref a) = some true := by rw [appKind_r,e]
 refine ⟨true,k,k,?_⟩
 unfold appendW
 simp only [e]
 exact ⟨hb,q⟩
noncomputable def moreL (i:Nat):Int := if i < 8 then 0 else (i:Int) / 4 - 1
noncomputable def moreD (i:Nat):Int := if i < 4 then 0 else (i:Int) / 2 - 1
theorem LT_at:∀ i,i < 28→(LT[i]? = some (LS.getD i 0,moreL i)∧0 ≤ moreL i∧moreL i ≤ 6∧LS.getD (i + 1) 0 = LS.getD i 0 + 2 ^ (moreL i).toNat) := by decide
theorem DT_at:∀ i,i < 30→(DT[i]? = some (DS.getD i 0,moreD i)∧0 ≤ moreD i∧moreD i ≤ 13∧DS.getD (i + 1) 0 = DS.getD i 0 + 2 ^ (moreD i).toNat) := by decide
theorem take_snoc {α:Type} {xs:List α} {i:Nat} {x:α} (h:xs[i]? = some x):xs.take (i + 1) = xs.take i ++ [x] := by
 rw [List.take_add_one,h]; rfl
theorem k7 {n:Nat} (hn:7 < n) {H:Hp} {Q:V→Hp→Prop} (q:Q (.lst (LT.map tupOf)) H):Sp n 7 [] H Q := by
 rw [Sp_at hn]
 refine ⟨rfl,?_⟩
 show wpFn (Sp 7) 4 b7 [] H Q
 have hbig := big_eq
 unfold wpFn b7
 refine step ?_
 dsimp only [dz2,dz10,dz11,dz12,dz4,wpS,wpEs,wpE,mk,bindM_c,dz7,dz8,bindM_n,obind_s]
 refine ⟨Nat.zero_le _,fun a ha => stepK (fun G hG => ?_)⟩
 dsimp only [wpS,wpI,wpEs,wpE,rangeW_1,vI_i]
 refine ⟨by decide,?_⟩
 refine for_inv (fun i l H' => ∃ sg mo,l = [some (.ref a),some (.int (LS.getD i 0)),sg,mo]∧H' = H.set a (.list ((LT.take i).map tupOf))) _ (k := 0) ⟨none,none,rfl,rfl⟩ ?_ ?_
 ·intro i v l H' K hv hI9 hK
  refine ex2_1 hI9 fun sg mo xq1 xq2 => ?_; clear hI9
  obtain rfl := xq1
  obtain rfl := xq2
  clear hG
  refine ex0_1 (rangeL_get hv) fun xq1 hi => ?_
  obtain rfl := xq1
  rw [Nat.zero_add] at hK ⊢
  have hi:i < 28 := hi
  refine ex0_3 (LT_at i hi) fun g1 g2 g3 g4 => ?_
  have hl:((LT.take i).map tupOf).length < big := by rw [List.length_map,List.length_take]; lia
  refine stepK (fun G2 hG2 => ?_)
  dsimp only [dz8,dz7,wpS,wpE,dz6,dz5,binW,vI_i,oget_s,truthW_b,cmpW,copI]
  suffices g:G2 [some (.ref a),some (.int (LS.getD i 0)),some (.int (0 + (i:Int))),some (.int (moreL i))] (H.set a (.list ((LT.take i).map tupOf))) by
   by_cases h8:(0:Int) + i < 8
   ·refine dT h8 ?_
    rwa [show moreL i = 0 by unfold moreL; rw [if_pos (by lia)]] at g
   ·refine dF h8 ?_
    rw [show moreL i = (0 + (i:Int)) / 4 - 1 by unfold moreL; rw [if_neg (by lia),Int.zero_add]] at g
    exact ⟨⟨by decide,by lia,by decide⟩,g⟩
  refine hG2 _ _ (step ?_)
  clear hG2
  dsimp only [wpS,wpE,dz5,wpEs,dz6,oget_s]
  refine app_ref (Hp.set_self ..) hl ⟨rfl,?_⟩
  rw [Hp.set_set]
  dsimp only [wpSs,wpS,wpE,dz6,dz5,dz8,dz7,binW,vI_i,oget_s]
  refine ⟨⟨g2,by lia,by decide⟩,hK _ _ ⟨some (.int (0 + (i:Int))),some (.int (moreL i)),?_,?_⟩⟩
  ·rw [g4,Int.one_mul]
  ·rw [take_snoc g1,List.map_append]; rfl
 ·intro l H' hI9
  refine ex2_1 hI9 fun sg mo xq3 xq4 => ?_; clear hI9
  obtain rfl := xq3
  obtain rfl := xq4
  rw [rangeL_len]
  refine hG _ _ (step ?_)
  dsimp only [wpS,wpE,dz5,wpEs,oget_s]
  refine app_ref (Hp.set_self ..) (by rw [List.length_map,List.length_take]; exact Nat.le_add_left _ _) ⟨rfl,?_⟩
  rw [Hp.set_set]
  dsimp only [wpSs,wpS,wpE,dz5,oget_s]
  rw [Hp.set_self,Hp.set_erase H a _ ha]
  exact ⟨H,Hp.le_refl _,q⟩
theorem k8 {n:Nat} (hn:8 < n) {H:Hp} {Q:V→Hp→Prop} (q:Q (.lst (DT.map tupOf)) H):Sp n 8 [] H Q := by
 rw [Sp_at hn]
 refine ⟨rfl,?_⟩
 show wpFn (Sp 8) 4 b8 [] H Q
 have hbig := big_eq
 unfold wpFn b8
 refine step ?_
 dsimp only [dz2,dz10,dz11,dz12,dz4,wpS,wpEs,wpE,mk,bindM_c,dz7,dz8,bindM_n,obind_s]
 refine ⟨Nat.zero_le _,fun a ha => stepK (fun G hG => ?_)⟩
 dsimp only [wpS,wpI,wpEs,wpE,rangeW_1,vI_i]
 refine ⟨by decide,?_⟩
 refine for_inv (fun i l H' => ∃ sg mo,l = [some (.ref a),some (.int (DS.getD i 0)),sg,mo]∧H' = H.set a (.list ((DT.take i).map tupOf))) _ (k := 0) ⟨none,none,rfl,rfl⟩ ?_ ?_
 ·intro i v l H' K hv hI9 hK
  refine ex2_1 hI9 fun sg mo xq5 xq6 => ?_; clear hI9
  obtain rfl := xq5
  obtain rfl := xq6
  clear hG
  refine ex0_1 (rangeL_get hv) fun xq2 hi => ?_
  obtain rfl := xq2
  rw [Nat.zero_add] at hK ⊢
  have hi:i < 30 := hi
  refine ex0_3 (DT_at i hi) fun g1 g2 g3 g4 => ?_
  have hl:((DT.take i).map tupOf).length < big := by rw [List.length_map,List.length_take]; lia
  refine stepK (fun G2 hG2 => ?_)
  dsimp only [dz8,dz7,wpS,wpE,dz6,dz5,binW,vI_i,oget_s,truthW_b,cmpW,copI]
  suffices g:G2 [some (.ref a),some (.int (DS.getD i 0)),some (.int (0 + (i:Int))),some (.int (moreD i))] (H.set a (.list ((DT.take i).map tupOf))) by
   by_cases h8:(0:Int) + i < 4
   ·refine dT h8 ?_
    rwa [show moreD i = 0 by unfold moreD; rw [if_pos (by lia)]] at g
   ·refine dF h8 ?_
    rw [show moreD i = (0 + (i:Int)) / 2 - 1 by unfold moreD; rw [if_neg (by lia),Int.zero_add]] at g
    exact ⟨⟨by decide,by lia,by decide⟩,g⟩
  refine hG2 _ _ (step ?_)
  clear hG2
  dsimp only [wpS,wpE,dz5,wpEs,dz6,oget_s]
  refine app_ref (Hp.set_self ..) hl ⟨rfl,?_⟩
  rw [Hp.set_set]
  dsimp only [wpSs,wpS,wpE,dz6,dz5,dz8,dz7,binW,vI_i,oget_s]
  refine ⟨⟨g2,by lia,by decide⟩,hK _ _ ⟨some (.int (0 + (i:Int))),some (.int (moreD i)),?_,?_⟩⟩
  ·rw [g4,Int.one_mul]
  ·rw [take_snoc g1,List.map_append]; rfl
 ·intro l H' hI9
  refine ex2_1 hI9 fun sg mo xq7 xq8 => ?_; clear hI9
  obtain rfl := xq7
  obtain rfl := xq8
  rw [rangeL_len]
  refine hG _ _ ?_
  dsimp only [wpSs,wpS,wpE,dz5,oget_s]
  rw [Hp.set_self,Hp.set_erase H a _ ha]
  exact ⟨H,Hp.le_refl _,q⟩
noncomputable def lsb (x k:Nat):List Nat := (List.range k).map fun i => (x.testBit i).toNat
noncomputable def msb (x k:Nat):List Nat := (lsb x k).reverse
theorem lsb_len (x k:Nat):(lsb x k).length = k := by simp [lsb]
theorem lsb_get {x k i:Nat} (h:i < k):(lsb x k)[i]? = some (x.testBit i).toNat := by simp [lsb,h]
theorem lsb_add {h x m k:Nat} (hh:h < 2 ^ m):lsb (2 ^ m * x + h) (m + k) = lsb h m ++ lsb x k := by
 apply List.ext_getElem?
 intro i
 by_cases q2:i < m + k
 ·rw [lsb_get q2,Nat.testBit_two_pow_mul_add _ hh]
  by_cases q:i < m
  ·rw [List.getElem?_append_left (by rw [lsb_len]; exact q),lsb_get q,if_pos q]
  ·rw [List.getElem?_append_right (by rw [lsb_len]; exact Nat.le_of_not_lt q),lsb_len,lsb_get (by lia),if_neg q]
 ·rw [List.getElem?_eq_none (by rw [lsb_len]; exact Nat.le_of_not_lt q2),List.getElem?_eq_none (by rw [List.length_append,lsb_len,lsb_len]; exact Nat.le_of_not_lt q2)]
noncomputable def BL (bs:Array UInt8) (h m:Nat):List Nat := (bs.toList.flatMap fun c => lsb c.toNat 8) ++ lsb h m
theorem BL_put {bs:Array UInt8} {h m x k:Nat} (hh:h < 2 ^ m):BL bs (2 ^ m * x + h) (m + k) = BL bs h m ++ lsb x k := by
 unfold BL; rw [lsb_add hh,List.append_assoc]
theorem BL_push {bs:Array UInt8} {h m:Nat} (hm:8 ≤ m):BL (bs.push (UInt8.ofNat (h % 256))) (h / 256) (m - 8) = BL bs h m := by
 have e:lsb h m = lsb (h % 256) 8 ++ lsb (h / 256) (m - 8) := by
  have := lsb_add (h := h % 256) (x := h / 256) (m := 8) (k := m - 8) (Nat.mod_lt _ (by decide))
  rw [show 2 ^ 8 * (h / 256) + h % 256 = h by exact Nat.div_add_mod h (2 ^ 8),show 8 + (m - 8) = m by exact Nat.add_sub_of_le hm] at this
  exact this
 have e2:(UInt8.ofNat (h % 256)).toNat = h % 256 := by
  rw [UInt8.toNat_ofNat']; exact Nat.mod_eq_of_lt (by lia)
 unfold BL
 rw [Array.toList_push,List.flatMap_append,e]
 simp [e2]
theorem BL_len (bs:Array UInt8) (h m:Nat):(BL bs h m).length = 8 * bs.size + m := by
 unfold BL
 rw [List.length_append,lsb_len]
 congr 1
 have:∀ l:List UInt8,(l.flatMap fun c => lsb c.toNat 8).length = 8 * l.length := by
  intro l
  induction l with
  | nil => rfl
  | cons c l ih => rw [List.flatMap_cons,List.length_append,lsb_len,ih,List.length_cons]; exact Nat.add_comm _ _
 rw [this,Array.length_toList]
noncomputable def Same2 (H H':Hp) (d b:Addr):Prop := ∀ a,a ≠ d→a ≠ b→H' a = H a
theorem Same2.refl (H:Hp) (d b:Addr):Same2 H H d b := fun U U U => rfl
theorem Same2.trans {H H' H'':Hp} {d b:Addr} (h:Same2 H H' d b) (h':Same2 H' H'' d b):Same2 H H'' d b := fun a x y => (h' a x y).trans (h a x y)
theorem Same2.set1 {H H':Hp} {d b:Addr} {c:Cell} (h:Same2 H H' d b):Same2 H (H'.set d c) d b := fun a x y => by rw [Hp.set_ne _ _ x]; exact h a x y
theorem Same2.set2 {H H':Hp} {d b:Addr} {c:Cell} (h:Same2 H H' d b):Same2 H (H'.set b c) d b := fun a x y => by rw [Hp.set_ne _ _ y]; exact h a x y
structure Wr (H:Hp) (d b:Addr) (bs:Array UInt8) (h m:Nat):Prop where
 rcd:H d = some (.rcd [some (.ref b),some (.int h),some (.int m),none,none,none,none])
 oct:H b = some (.barr bs)
 ne:d ≠ b
theorem Wr.held {H:Hp} {d b:Addr} {bs:Array UInt8} {h m:Nat} (w:Wr H d b bs h m) (h' m':Nat):Wr (H.set d (.rcd [some (.ref b),some (.int h'),some (.int m'),none,none,none,none])) d b bs h' m' :=
 ⟨Hp.set_self ..,by rw [Hp.set_ne _ _ (Ne.symm w.ne)]; exact w.oct,w.ne⟩
theorem Wr.octs {H:Hp} {d b:Addr} {bs:Array UInt8} {h m:Nat} (w:Wr H d b bs h m) (bs':Array UInt8):Wr (H.set b (.barr bs')) d b bs' h m :=
 ⟨by rw [Hp.set_ne _ _ w.ne]; exact w.rcd,Hp.set_self ..,w.ne⟩
noncomputable def WrB (H:Hp) (d b:Addr) (bits:List Nat):Prop := ∃ bs h m,Wr H d b bs h m∧m < 8∧h < 2 ^ m∧BL bs h m = bits
theorem k1 {n:Nat} (hn:1 < n) {H:Hp} {Q:V→Hp→Prop} {d b:Addr} {bits:List Nat} {x k:Nat} (w:WrB H d b bits) (hx:x < 2 ^ k) (hk:k ≤ 40) (hb:bits.length ≤ 100000)
  (q:∀ H',WrB H' d b (bits ++ lsb x k)→Same2 H H' d b→Q .none H'):Sp n 1 [.obj aBW d,.int x,.int k] H Q := by
 rw [Sp_at hn]
 refine ⟨rfl,?_⟩
 show wpFn (Sp 1) 3 (b1 aBW) [.obj aBW d,.int x,.int k] H Q
 have hbig := big_eq
 refine og fun G hG => ?_
 obtain ⟨bs,h,m,w,hm,hh,rfl⟩ := w
 refine hG ?_; clear hG G
 rw [BL_len] at hb
 have hx62:x < 2 ^ 62 := Nat.lt_of_lt_of_le hx (Nat.pow_le_pow_right (by decide) (by lia))
 unfold wpFn b1
 have eh:((h ||| ((x:Int) * 2 ^ m).toNat:Nat):Int) = ((2 ^ m * x + h:Nat):Int) := by
  have:((x:Int) * 2 ^ m).toNat = 2 ^ m * x := by
   rw [show (x:Int) * 2 ^ m = ((x * 2 ^ m:Nat):Int) by push_cast; rfl,Int.toNat_natCast,Nat.mul_comm]
  rw [this,Nat.or_comm,← Nat.two_pow_add_eq_or_of_lt hh]
 refine stepK (fun G hG => ?_)
 dsimp only [dz1,dz2,dz9,dz10,dz3,dz4,wpS,wpE,dz5,oget_s,binW,dz6,vI_i,dz13]
 repeat first | refine bW ?_ | refine bD ?_
 rw [w.rcd]
 dsimp only [dz9,dz10,dz8,dz7,dz6,dz5,oget_s,vI_i,dz13]
 repeat first | refine bW ?_ | refine bD ?_
 rw [eh]
 refine ⟨⟨by exact Int.natCast_nonneg _,by lia,by rw [Int.natAbs_natCast]; exact hx62⟩,⟨by exact Int.natCast_nonneg _,Int.mul_nonneg (Int.natCast_nonneg _) (Int.le_of_lt (Int.pow_pos (by decide)))⟩,rfl,by decide,hG _ _ ?_⟩
 clear hG
 have w2 := w.held (2 ^ m * x + h) m
 refine stepK (fun G2 hG2 => ?_)
 dsimp only [wpS,wpE,dz5,oget_s,binW,dz6,vI_i]
 repeat first | refine bW ?_ | refine bD ?_
 rw [w2.rcd]
 dsimp only [dz9,dz10,dz8,dz7,dz6,dz5,oget_s,vI_i]
 repeat first | refine bW ?_ | refine bD ?_
 rw [Hp.set_set,show ((m:Int) + k) = ((m + k:Nat):Int) by push_cast; rfl]
 refine ⟨by decide,hG2 _ _ (stepK (fun G3 hG3 => ?_))⟩
 clear hG2 w2
 dsimp only [wpS,wpE,truthW_b,cmpW,copI,vI_i]
 refine ⟨m + k + 1,?_⟩
 refine while_inv (fun mm l H' => mm = mm∧l = [some (.obj aBW d),some (.int x),some (.int k)]∧∃ bs' h',Wr H' d b bs' h' mm∧h' < 2 ^ mm∧BL bs' h' mm = BL bs h m ++ lsb x k∧Same2 H H' d b) ?_ _ (m + k) (Nat.lt_succ_self _) ⟨rfl,rfl,bs,_,w.held _ _,?_,BL_put hh,Same2.set1 (Same2.refl _ _ _)⟩
 ·intro mm l H' K hI9 hK
  obtain ⟨_,rfl,bs',h',w',hh',hB,hS⟩ := hI9
  have hl := congrArg List.length hB
  rw [BL_len,List.length_append,BL_len,lsb_len] at hl
  dsimp only [dz5,oget_s]
  repeat first | refine bW ?_ | refine bD ?_
  rw [w'.rcd]
  dsimp only [dz6,dz5,oget_s,vI_i]
  by_cases h8:(8:Int) ≤ mm
  ·refine dT h8 ?_
   clear hG3
   have k0:appKind H' (.ref b) = some false := by rw [appKind_r,w'.oct]
   have w2 := (w'.octs (bs'.push (UInt8.ofNat (h' % 256))))
   have e1:((h' &&& Int.toNat 255:Nat):Int) = ((h' % 256:Nat):Int) := by
    rw [show Int.toNat 255 = 2 ^ 8 - 1 from rfl,Nat.and_two_pow_sub_one_eq_mod]
   refine stepK (fun G hG => ?_)
   dsimp only [wpS,wpE,dz5,binW,vI_i,oget_s]
   repeat first | refine bW ?_ | refine bD ?_
   rw [w'.rcd]
   dsimp only [dz6,dz5,oget_s,vI_i,dz13]
   rw [e1]
   refine ⟨false,k0,rfl,⟨by exact Int.natCast_nonneg _,by exact Int.natCast_nonneg _⟩,k0,?_⟩
   unfold appendW
   try dsimp only [vI_i]
   rw [w'.oct]
   try dsimp only [vI_i]
   rw [Int.toNat_natCast]
   refine ⟨⟨by exact Int.natCast_nonneg (h' % 256),by lia,by lia⟩,rfl,hG _ _ (stepK (fun G2 hG2 => ?_))⟩
   clear hG
   dsimp only [wpS,wpE,dz5,oget_s,binW,vI_i]
   repeat first | refine bW ?_ | refine bD ?_
   rw [w2.rcd]
   dsimp only [dz9,dz10,dz8,dz7,dz6,dz5,oget_s,vI_i]
   refine ⟨by decide,rfl,by decide,hG2 _ _ (step ?_)⟩
   clear hG2
   rw [show (h':Int) / 2 ^ Int.toNat 8 = ((h' / 256:Nat):Int) by rw [show Int.toNat 8 = 8 from rfl]; rfl]
   have w3 := w2.held (h' / 256) mm
   dsimp only [wpS,wpE,dz5,oget_s,binW,vI_i]
   repeat first | refine bW ?_ | refine bD ?_
   rw [w3.rcd]
   dsimp only [dz9,dz10,dz8,dz7,dz6,dz5,oget_s,vI_i]
   repeat first | refine bW ?_ | refine bD ?_
   rw [Hp.set_set,show ((mm:Int) - 8) = ((mm - 8:Nat):Int) by lia]
   refine ⟨by decide,hK (mm - 8) _ _ (by lia) ⟨rfl,rfl,_,_,w2.held _ _,?_,(BL_push (by exact Int.ofNat_le.mp h8)).trans hB,hS.set2.set1⟩⟩
   have:2 ^ mm = 2 ^ (mm - 8) * 256 := by rw [show (256:Nat) = 2 ^ 8 from rfl,← Nat.pow_add]; congr 1; lia
   exact Nat.div_lt_of_lt_mul (by rw [Nat.mul_comm]; exact Nat.lt_of_lt_of_eq hh' this)
  ·refine dF h8 ?_
   exact hG3 _ _ ⟨H',Hp.le_refl _,q H' ⟨bs',h',mm,w',by omega,hh',hB⟩ hS⟩
 ·rw [Nat.pow_add]
  have:2 ^ m * x + h < 2 ^ m * x + 2 ^ m := by exact Nat.add_lt_add_left hh (2 ^ m * x)
  exact Nat.lt_of_lt_of_le this (by rw [← Nat.mul_succ]; exact Nat.mul_le_mul_left _ hx)
noncomputable def rv (c:Nat):Nat→Nat
 | 0 => 0
 | i + 1 => 2 * rv c i + (c.testBit i).toNat
theorem rv_lt (c:Nat):∀ i,rv c i < 2 ^ i
 | 0 => by show (0:Nat) < 2 ^ 0; decide
 | i + 1 => by
  have := rv_lt c i
  have h2:(c.testBit i).toNat ≤ 1 := Bool.toNat_le _
  unfold rv; rw [Nat.pow_succ]; lia
theorem lsb_succ (c i:Nat):lsb c (i + 1) = lsb c i ++ [(c.testBit i).toNat] := by
 unfold lsb; rw [List.range_succ,List.map_append]; rfl
theorem lsb_rv (c:Nat):∀ i,lsb (rv c i) i = msb c i
 | 0 => rfl
 | i + 1 => by
  have h2:(c.testBit i).toNat < 2 ^ 1 := by have := Bool.toNat_le (c.testBit i); exact Nat.lt_succ_of_le this
  have := lsb_add (h := (c.testBit i).toNat) (x := rv c i) (m := 1) (k := i) h2
  rw [Nat.add_comm 1 i] at this
  show lsb (2 * rv c i + (c.testBit i).toNat) (i + 1) = _
  rw [show 2 * rv c i = 2 ^ 1 * rv c i from rfl,this,lsb_rv c i]
  show lsb (c.testBit i).toNat 1 ++ (lsb c i).reverse = (lsb c (i + 1)).reverse
  rw [lsb_succ c i,List.reverse_append]
  cases c.testBit i <;> rfl
theorem rv_step (c i:Nat):(2 * rv c i ||| (c / 2 ^ i &&& 1):Nat) = rv c (i + 1) := by
 have e:(c / 2 ^ i &&& 1) = (c.testBit i).toNat := by
  rw [Nat.toNat_testBit,show (1:Nat) = 2 ^ 1 - 1 from rfl,Nat.and_two_pow_sub_one_eq_mod]
 have h2:(c.testBit i).toNat < 2 ^ 1 := by have := Bool.toNat_le (c.testBit i); exact Nat.lt_succ_of_le this
 rw [e,show 2 * rv c i = 2 ^ 1 * rv c i from rfl,← Nat.two_pow_add_eq_or_of_lt h2]; rfl
theorem k2 {n:Nat} (hn:2 < n) {H:Hp} {Q:V→Hp→Prop} {d b:Addr} {bits:List Nat} {c k:Nat} (w:WrB H d b bits) (hk:k ≤ 40) (hb:bits.length ≤ 100000)
  (q:∀ H',WrB H' d b (bits ++ msb c k)→Same2 H H' d b→Q .none H'):Sp n 2 [.obj aBW d,.int c,.int k] H Q := by
 rw [Sp_at hn]
 refine ⟨rfl,?_⟩
 show wpFn (Sp 2) 5 (b2 aBW) [.obj aBW d,.int c,.int k] H Q
 have hbig := big_eq
 have w0 := w
 refine og fun G hG => ?_
 refine ex3_1 w0 fun bs h m w1 U => ?_; clear w0
 refine hG ?_; clear hG G
 unfold wpFn b2
 refine step ?_
 dsimp only [dz1,dz2,dz9,dz10,dz11,dz12,dz3,dz4,wpS,wpE,dz8,dz7]
 refine stepK (fun G hG => ?_)
 dsimp only [wpS,wpI,wpEs,wpE,dz6,dz5,rangeW_1,oget_s,vI_i]
 refine ⟨⟨by exact Int.neg_ofNat_le_natCast 400000 k,by lia⟩,?_⟩
 refine for_inv (fun i l H' => H' = H∧∃ tn,l = [some (.obj aBW d),some (.int c),some (.int k),some (.int (rv c i)),tn]) _ (k := 0) ⟨rfl,none,rfl⟩ ?_ ?_
 ·intro i v l H' K hv hI9 hK
  refine ex0_1 hI9 fun xq1 xq2 => ?_; clear hI9
  refine ex1_0 xq2 fun tn xq3 => ?_; clear xq2
  obtain rfl := xq1
  obtain rfl := xq3
  clear hG
  refine ex0_1 (rangeL_get hv) fun xq1 hi => ?_
  obtain rfl := xq1
  rw [Nat.zero_add] at hK ⊢
  have hi:i < k := by assumption
  have hr := rv_lt c i
  have h40:2 ^ i ≤ 2 ^ 40 := Nat.pow_le_pow_right (by decide) (by lia)
  have h62:(2:Nat) ^ 40 < 2 ^ 62 := by decide
  dsimp only [bindT_o,dz8,dz7,wpSs,wpS,wpE,binW,vI_i,dz13,obind_s,dz6,dz5,oget_s]
  have e0:((0:Int) + i).toNat = i := by exact Nat.add_comm _ _
  have e1:((c:Int) / 2 ^ i).toNat = c / 2 ^ i := by
   rw [show ((c:Int) / 2 ^ i) = ((c / 2 ^ i:Nat):Int) by push_cast; rfl,Int.toNat_natCast]
  have e2:((rv c i:Int) * 2 ^ Int.toNat 1).toNat = 2 * rv c i := by rw [show Int.toNat 1 = 1 from rfl]; lia
  refine ⟨⟨by decide,by decide,by rw [Int.natAbs_natCast]; lia⟩,by lia,⟨?_,by decide⟩,⟨by rw [show Int.toNat 1 = 1 from rfl]; lia,by lia⟩,?_⟩
  ·rw [e0]; exact Int.ediv_nonneg (Int.natCast_nonneg _) (Int.le_of_lt (Int.pow_pos (by decide)))
  ·rw [e0,e1,e2,show ((c / 2 ^ i &&& Int.toNat 1:Nat)) = (c / 2 ^ i &&& 1) from rfl,rv_step]
   exact hK _ _ ⟨rfl,some (.int (0 + (i:Int))),rfl⟩
 ·intro l H' hI9
  refine ex0_1 hI9 fun xq4 xq5 => ?_; clear hI9
  refine ex1_0 xq5 fun tn xq6 => ?_; clear xq5
  obtain rfl := xq4
  obtain rfl := xq6
  rw [rangeL_len,show 0 + ((k:Int) - 0).toNat = k by lia]
  refine hG _ _ ?_
  dsimp only [wpSs,wpS,wpE,dz5,wpEs,dz6,oget_s]
  repeat first | refine bW ?_ | refine bD ?_
  refine ⟨⟨_,w1.rcd⟩,k1 (by decide) w (rv_lt c k) hk hb (fun H2 w2 s2 => ?_)⟩
  rw [lsb_rv] at w2
  exact ⟨rfl,H2,Hp.le_refl _,q H2 w2 s2⟩
theorem lsb_zero:∀ k,lsb 0 k = List.replicate k 0
 | 0 => rfl
 | k + 1 => by rw [lsb_succ,lsb_zero k,List.replicate_succ']; simp
theorem k0 {n:Nat} (hn:0 < n) {H:Hp} {Q:V→Hp→Prop} {d:Addr} (e:H d = some (.rcd (List.replicate 7 none))) (q:∀ H' b,H b = none→WrB H' d b []→Same2 H H' d b→Q .none H'):Sp n 0 [.obj aBW d] H Q := by
 rw [Sp_at hn]
 refine ⟨rfl,?_⟩
 show wpFn (Sp 0) 3 (b0 aBW) ([.obj aBW d] ++ [.int 0,.int 0]) H Q
 unfold wpFn b0
 show wpSs _ _ _ _ [some (.obj aBW d),some (.int 0),some (.int 0)] H
 refine stepK (fun G hG => ?_)
 dsimp only [wpS,wpE,wpEs,biW,dz5,oget_s]
 intro b hb
 have ne:d ≠ b := fun q => by rw [q,hb] at e; cases e
 rw [Hp.set_ne _ _ ne,e]
 dsimp only [dz11,dz12,dz9,dz10,dz7]
 repeat first | refine bW ?_ | refine bD ?_
 refine ⟨by decide,hG _ _ (stepK (fun G hG => ?_))⟩
 dsimp only [wpS,wpE,dz6,dz5,oget_s]
 repeat first | refine bW ?_ | refine bD ?_
 rw [Hp.set_self]
 dsimp only [dz9,dz10,dz8,dz7]
 rw [Hp.set_set]
 refine ⟨by decide,hG _ _ (step ?_)⟩
 dsimp only [wpS,wpE,dz6,dz5,oget_s]
 repeat first | refine bW ?_ | refine bD ?_
 rw [Hp.set_self]
 dsimp only [wpSs,dz9,dz10,dz8,dz7]
 rw [Hp.set_set]
 refine ⟨by decide,_,Hp.le_refl _,q _ b hb ⟨#[],0,0,⟨Hp.set_self ..,?_,ne⟩,by decide,by decide,rfl⟩ ?_⟩
 ·rw [Hp.set_ne _ _ (Ne.symm ne),Hp.set_self]
 ·exact (Same2.set2 (Same2.refl _ _ _)).set1
theorem k3 {n:Nat} (hn:3 < n) {H:Hp} {Q:V→Hp→Prop} {d b:Addr} {bits:List Nat} (w:WrB H d b bits) (hb:bits.length ≤ 100000)
  (q:∀ H' pad,WrB H' d b (bits ++ List.replicate pad 0)→pad < 8→(bits.length + pad) % 8 = 0→Same2 H H' d b→Q .none H'):Sp n 3 [.obj aBW d] H Q := by
 rw [Sp_at hn]
 refine ⟨rfl,?_⟩
 show wpFn (Sp 3) 1 (b3 aBW) [.obj aBW d] H Q
 have w0 := w
 refine og fun G hG => ?_
 refine ex3_3 w0 fun bs h m w1 hm hh hB => ?_; clear w0
 refine hG ?_; clear hG G
 have hl := congrArg List.length hB
 rw [BL_len] at hl
 unfold wpFn b3
 refine stepK (fun G hG => ?_)
 dsimp only [dz1,dz2,dz9,dz10,dz3,dz4,wpS,wpE,dz5,truthW_b,cmpW,copI,vI_i,oget_s]
 repeat first | refine bW ?_ | refine bD ?_
 rw [w1.rcd]
 dsimp only [dz6,dz5,oget_s,vI_i]
 by_cases h0:(0:Int) < m
 ·refine dT h0 ?_
  refine step ?_
  dsimp only [wpS,wpE,dz5,wpEs,binW,vI_i,oget_s]
  repeat first | refine bW ?_ | refine bD ?_
  rw [w1.rcd]
  dsimp only [dz6,dz5,oget_s,vI_i]
  refine ⟨⟨_,rfl⟩,rfl,?_⟩
  rw [show (8:Int) - m = ((8 - m:Nat):Int) by omega]
  refine k1 (x := 0) (by decide) w (Nat.pow_pos (by decide)) (by omega) hb (fun H2 w2 s2 => ?_)
  rw [lsb_zero] at w2
  exact ⟨rfl,hG _ _ ⟨H2,Hp.le_refl _,q H2 _ w2 (by omega) (by lia) s2⟩⟩
 ·refine dF h0 ?_
  exact hG _ _ ⟨H,Hp.le_refl _,q H 0 (by simpa using w) (by exact Nat.succ_pos _) (by lia) (Same2.refl _ _ _)⟩
theorem k4 {n:Nat} (hn:4 < n) {H:Hp} {Q:V→Hp→Prop} {d b:Addr} {bits:List Nat} (w:WrB H d b bits) (hb:bits.length ≤ 100000) (q:Q (.int bits.length) H):Sp n 4 [.obj aBW d] H Q := by
 rw [Sp_at hn]
 refine ⟨rfl,?_⟩
 show wpFn (Sp 4) 1 (b4 aBW) [.obj aBW d] H Q
 refine ex3_3 w fun bs h m w1 hm hh hB => ?_; clear w
 have hl := congrArg List.length hB
 rw [BL_len] at hl
 have hbig := big_eq
 unfold wpFn b4
 refine step ?_
 dsimp only [dz1,dz2,dz9,dz10,dz3,dz4,wpS,wpE,wpEs,dz5,binW,oget_s,vI_i,biW,lenW,oneV_1]
 repeat first | refine bW ?_ | refine bD ?_
 rw [w1.rcd]
 dsimp only [dz6,dz5,oget_s,vI_i,asSeq_r,asList_r]
 rw [w1.oct]
 dsimp only [barr_s]
 refine ⟨by lia,⟨by decide,by lia⟩,rfl,H,Hp.le_refl _,?_⟩
 rw [show (8:Int) * bs.size + m = (bits.length:Int) by exact Eq.symm ((fun {a b} => Int.neg_inj.mp) (congrArg Neg.neg (congrArg Nat.cast (id (Eq.symm hl)))))]
 exact q
theorem k5 {n:Nat} (hn:5 < n) {H:Hp} {Q:V→Hp→Prop} {d b:Addr} {bits:List Nat} (w:WrB H d b bits) (hb:bits.length ≤ 100000)
  (q:∀ H' bs' pad,(bs'.toList.flatMap fun c => lsb c.toNat 8) = bits ++ List.replicate pad 0→pad < 8→Same2 H H' d b→Q (.bytes bs') H'):Sp n 5 [.obj aBW d] H Q := by
 rw [Sp_at hn]
 refine ⟨rfl,?_⟩
 show wpFn (Sp 5) 1 (b5 aBW) [.obj aBW d] H Q
 have hbig := big_eq
 have w0 := w
 refine ex3_3 w0 fun bs h m w1 hm hh hB => ?_; clear w0
 unfold wpFn b5
 refine step ?_
 dsimp only [dz1,dz2,dz9,dz10,dz3,dz4,wpS,wpE,dz5,wpEs,oget_s]
 repeat first | refine bW ?_ | refine bD ?_
 refine ⟨⟨_,w1.rcd⟩,k3 (by decide) w hb (fun H2 pad w2 hp hd s2 => ⟨rfl,step ?_⟩)⟩
 refine ex3_3 w2 fun bs2 h2 m2 w3 hm2 hh2 hB2 => ?_; clear w2
 have hl := congrArg List.length hB2
 rw [BL_len,List.length_append,List.length_replicate] at hl
 have m0:m2 = 0 := by lia
 subst m0
 dsimp only [wpS,wpE,wpEs,dz5,biW,oneV_1,oget_s]
 repeat first | refine bW ?_ | refine bD ?_
 rw [w3.rcd]
 dsimp only [dz5,oget_s]
 rw [w3.oct]
 refine ⟨by lia,H2,Hp.le_refl _,q H2 bs2 pad ?_ hp s2⟩
 rw [← hB2]
 unfold BL
 simp [lsb]
noncomputable def SgOk (H:Hp) (d:Addr):Prop := H d = some (.rcd [none,none,none,some (.lst (LT.map tupOf)),some (.lst (DT.map tupOf)),none,none])
theorem k9 {n:Nat} (hn:9 < n) {H:Hp} {Q:V→Hp→Prop} {d:Addr} (e:H d = some (.rcd (List.replicate 7 none))) (q:∀ H',SgOk H' d→(∀ a,a ≠ d→H' a = H a)→Q .none H'):Sp n 9 [.obj aDS d] H Q := by
 rw [Sp_at hn]
 refine ⟨rfl,?_⟩
 show wpFn (Sp 9) 1 (b9 aDS) [.obj aDS d] H Q
 unfold wpFn b9
 refine step ?_
 dsimp only [dz1,dz2,dz9,dz10,dz3,dz4,wpS,wpE,wpEs,dz5,oget_s]
 refine k7 (by decide) ?_
 rw [e]
 dsimp only [dz11,dz12,dz9,dz10,dz8,dz7]
 repeat first | refine bW ?_ | refine bD ?_
 refine ⟨by decide,step ?_⟩
 dsimp only [wpS,wpE,wpEs,dz5,oget_s]
 refine k8 (by decide) ?_
 rw [Hp.set_self]
 dsimp only [wpSs,dz9,dz10,dz8,dz7]
 repeat first | refine bW ?_ | refine bD ?_
 rw [Hp.set_set]
 refine ⟨by decide,_,Hp.le_refl _,q _ (Hp.set_self ..) fun a ha => Hp.set_ne _ _ ha⟩
theorem LT_len:LT.length = 29 := rfl
theorem DT_len:DT.length = 30 := rfl
theorem k10 {n:Nat} (hn:10 < n) {H:Hp} {Q:V→Hp→Prop} {d:Addr} {len:Int} (e:SgOk H d)
  (q:∀ p,p < 29→(p = 0 ∨ fst LT p ≤ len)→(p + 1 = 29 ∨ len < fst LT (p + 1))→Q (.tup [.int (257 + p),.int (len - fst LT p),.int (snd LT p)]) H):Sp n 10 [.obj aDS d,.int len] H Q := by
 rw [Sp_at hn]
 refine ⟨rfl,?_⟩
 show wpFn (Sp 10) 5 (b10 aDS) [.obj aDS d,.int len] H Q
 unfold SgOk at e
 have hbig := big_eq
 unfold wpFn b10
 show wpSs _ _ _ _ [some (.obj aDS d),some (.int len),none,none,none] H
 refine step ?_
 dsimp only [wpS,wpE,wpEs,dz5,dz8,dz7,dz6,oget_s]
 repeat first | refine bW ?_ | refine bD ?_
 rw [e]
 dsimp only [dz6,dz5,oget_s]
 refine k6 (by decide) (by decide) (by decide) (fun p h1 h2 h3 => step ?_)
 dsimp only [wpS,wpE,dz5,dz6,oget_s]
 repeat first | refine bW ?_ | refine bD ?_
 rw [e]
 dsimp only [dz6,dz5,oget_s]
 refine item_pairs (by exact Int.natCast_nonneg _) (by rw [LT_len] at *; exact Int.ofNat_lt.mpr h1) (by rw [LT_len]; exact Nat.le_add_left _ _) ?_
 dsimp only [wpSs,wpS,wpE,wpEs,binW,vI_i,dz13,bindT_m,bindM_c,dz8,dz7,bindM_n,obind_s,dz6,dz5,oget_s]
 exact ⟨H,Hp.le_refl _,q p h1 h2 h3⟩
theorem k11 {n:Nat} (hn:11 < n) {H:Hp} {Q:V→Hp→Prop} {d:Addr} {dist:Int} (e:SgOk H d)
  (q:∀ p,p < 30→(p = 0 ∨ fst DT p ≤ dist)→(p + 1 = 30 ∨ dist < fst DT (p + 1))→Q (.tup [.int p,.int (dist - fst DT p),.int (snd DT p)]) H):Sp n 11 [.obj aDS d,.int dist] H Q := by
 rw [Sp_at hn]
 refine ⟨rfl,?_⟩
 show wpFn (Sp 11) 5 (b11 aDS) [.obj aDS d,.int dist] H Q
 unfold SgOk at e
 have hbig := big_eq
 unfold wpFn b11
 show wpSs _ _ _ _ [some (.obj aDS d),some (.int dist),none,none,none] H
 refine step ?_
 dsimp only [wpS,wpE,wpEs,dz5,dz8,dz7,dz6,oget_s]
 repeat first | refine bW ?_ | refine bD ?_
 rw [e]
 dsimp only [dz6,dz5,oget_s]
 refine k6 (by decide) (by decide) (by decide) (fun p h1 h2 h3 => step ?_)
 dsimp only [wpS,wpE,dz5,dz6,oget_s]
 repeat first | refine bW ?_ | refine bD ?_
 rw [e]
 dsimp only [dz6,dz5,oget_s]
 refine item_pairs (by exact Int.natCast_nonneg _) (by rw [DT_len] at *; exact Int.ofNat_lt.mpr h1) (by rw [DT_len]; exact Nat.le_add_left _ _) ?_
 dsimp only [wpSs,wpS,wpE,wpEs,binW,dz13,bindT_m,bindM_c,dz8,dz7,bindM_n,obind_s,dz6,dz5,oget_s,vI_i]
 exact ⟨H,Hp.le_refl _,q p h1 h2 h3⟩
set_option genCtorIdx false in
inductive Tk where
 | lit (c:Nat)
 | pair (l d:Nat)
noncomputable def Tk.v:Tk→V
 | .lit c => .tup [.int c]
 | .pair l d => .tup [.int l,.int d]
noncomputable def Tk.ok:Tk→Prop
 | .lit c => c < 256
 | .pair l d => (3 ≤ l∧l ≤ 258)∧1 ≤ d∧d ≤ 32768
noncomputable def lenP (x:Nat):Nat := (List.range 29).countP (fun i => decide (fst LT i ≤ x)) - 1
noncomputable def dstP (x:Nat):Nat := (List.range 30).countP (fun i => decide (fst DT i ≤ x)) - 1
theorem countP_lt:∀ N p,(List.range N).countP (fun i => decide (i < p)) = min N p
 | 0,p => by simp
 | N + 1,p => by
  rw [List.range_succ,List.countP_append,countP_lt N p]
  by_cases q:N < p
  ·simp [q]; lia
  ·simp [q]; lia
theorem place_of {f:Nat→Int} {N p:Nat} {x:Int} (mono:∀ i j,i < j→j < N→f i < f j) (hp:p < N) (h1:f p ≤ x) (h2:p + 1 = N ∨ x < f (p + 1)):(List.range N).countP (fun i => decide (f i ≤ x)) - 1 = p := by
 have:(List.range N).countP (fun i => decide (f i ≤ x)) = (List.range N).countP (fun i => decide (i < p + 1)) := by
  apply List.countP_congr
  intro i hi
  have hi := List.mem_range.mp hi
  simp only [decide_eq_true_eq]
  constructor
  ·intro h
   by_cases q:i < p + 1
   ·exact q
   ·exfalso
    rcases h2 with h2 | h2
    ·lia
    ·by_cases q2:i = p + 1
     ·rw [q2] at h; lia
     ·have := mono (p + 1) i (by lia) hi; lia
  ·intro h
   by_cases q:i = p
   ·rw [q]; exact h1
   ·have := mono i p (by lia) hp; lia
 rw [this,countP_lt,Nat.min_eq_right hp]; rfl
theorem LT_mono:∀ j,j < 29→∀ i,i < j→fst LT i < fst LT j := by decide
theorem DT_mono:∀ j,j < 30→∀ i,i < j→fst DT i < fst DT j := by decide
theorem lenP_of {p x:Nat} (hp:p < 29) (hx:3 ≤ x) (h1:p = 0 ∨ fst LT p ≤ x) (h2:p + 1 = 29 ∨ (x:Int) < fst LT (p + 1)):lenP x = p := by
 refine place_of (fun i j h hj => LT_mono j hj i h) hp ?_ h2
 rcases h1 with rfl | h1
 ·show (3:Int) ≤ x; exact Int.toNat_le.mp hx
 ·exact h1
theorem dstP_of {p x:Nat} (hp:p < 30) (hx:1 ≤ x) (h1:p = 0 ∨ fst DT p ≤ x) (h2:p + 1 = 30 ∨ (x:Int) < fst DT (p + 1)):dstP x = p := by
 refine place_of (fun i j h hj => DT_mono j hj i h) hp ?_ h2
 rcases h1 with rfl | h1
 ·show (1:Int) ≤ x; exact Int.toNat_le.mp hx
 ·exact h1
noncomputable def bump (xs:List Int) (s:Nat):List Int := xs.set s (xs.getD s 0 + 1)
theorem bump_len (xs:List Int) (s:Nat):(bump xs s).length = xs.length := List.length_set ..
noncomputable def Tk.sg:Tk→Nat
 | .lit c => c
 | .pair l _ => 257 + lenP l
noncomputable def litStep (xs:List Int) (t:Tk):List Int := bump xs t.sg
noncomputable def dstStep (xs:List Int) (t:Tk):List Int := match t with
 | .lit _ => xs
 | .pair _ d => bump xs (dstP d)
noncomputable def lit0:List Int := (List.replicate 286 0).set 256 1
noncomputable def dst0:List Int := List.replicate 30 0
theorem foldl_len {f:List Int→Tk→List Int} (hf:∀ xs t,(f xs t).length = xs.length):∀ (ts:List Tk) (xs:List Int),(ts.foldl f xs).length = xs.length
 | [],xs => rfl
 | t :: ts,xs => by rw [List.foldl_cons,foldl_len hf ts,hf]
theorem litStep_len (xs:List Int) (t:Tk):(litStep xs t).length = xs.length := bump_len ..
theorem dstStep_len (xs:List Int) (t:Tk):(dstStep xs t).length = xs.length := by cases t <;> first | rfl | exact bump_len ..
theorem foldl_take {α β:Type} {f:β→α→β} {b:β} {xs:List α} {i:Nat} {x:α} (h:xs[i]? = some x):(xs.take (i + 1)).foldl f b = f ((xs.take i).foldl f b) x := by
 rw [take_snoc h,List.foldl_append]; rfl
theorem bump_map {xs:List Int} {s:Nat}:((xs.map V.int).set s (.int (xs.getD s 0 + 1))) = (bump xs s).map V.int := by
 unfold bump; rw [List.map_set]
theorem Hp.set_comm {H:Hp} {a b:Addr} {c c':Cell} (h:a ≠ b):(H.set a c).set b c' = (H.set b c').set a c := by
 funext x; unfold Hp.set; by_cases q:x = b
 ·subst q; simp [Ne.symm h]
 ·simp [q]
theorem k12 {n:Nat} (hn:12 < n) {H:Hp} {Q:V→Hp→Prop} {d:Addr} {ts:List Tk} (e:SgOk H d) (ht:∀ t ∈ ts,t.ok) (hl:ts.length ≤ 100)
  (q:∀ a b,a ≠ b→H a = none→H b = none→Q (.tup [.ref a,.ref b]) ((H.set a (.list ((ts.foldl litStep lit0).map .int))).set b (.list ((ts.foldl dstStep dst0).map .int)))):Sp n 12 [.obj aDS d,.lst (ts.map Tk.v)] H Q := by
 rw [Sp_at hn]
 refine ⟨rfl,?_⟩
 show wpFn (Sp 12) 6 (b12 aDS) [.obj aDS d,.lst (ts.map Tk.v)] H Q
 have hbig := big_eq
 unfold wpFn b12
 show wpSs _ _ _ _ [some (.obj aDS d),some (.lst (ts.map Tk.v)),none,none,none,none] H
 refine step ?_
 dsimp only [wpS,wpE,dz8,dz7,mk]
 refine ⟨⟨by decide,by decide⟩,by rw [List.length_replicate]; decide,fun a ha => step ?_⟩
 dsimp only [wpS,wpE,dz8,dz7,mk]
 refine ⟨⟨by decide,by decide⟩,by rw [List.length_replicate]; decide,fun b hb => step ?_⟩
 have ab:a ≠ b := fun q => by rw [← q,Hp.set_self] at hb; cases hb
 have hb0:H b = none := by rw [Hp.set_ne _ _ (Ne.symm ab)] at hb; exact hb
 dsimp only [wpS,wpE,dz6,dz5,ixW_i,oget_s]
 rw [Hp.set_ne _ _ ab,Hp.set_self]
 dsimp only [wpS]
 have hd:H d ≠ none := fun q => by unfold SgOk at e; rw [q] at e; cases e
 have da:d ≠ a := fun q => hd (by rw [q]; exact ha)
 have db:d ≠ b := fun q => hd (by rw [q]; exact hb0)
 refine ⟨⟨by decide,by rw [List.length_replicate]; decide,by rw [List.length_replicate]; decide⟩,stepK (fun G0 hG0 => ?_)⟩
 dsimp only [wpS,wpI,wpE,dz6,dz5,oget_s,frozenSeq_l]
 refine ⟨by rw [List.length_map]; lia,?_⟩
 refine for_inv (fun i l H' => ∃ tk sg,l = [some (.obj aDS d),some (.lst (ts.map Tk.v)),some (.ref a),some (.ref b),tk,sg]∧H' = (H.set a (.list (((ts.take i).foldl litStep lit0).map .int))).set b (.list (((ts.take i).foldl dstStep dst0).map .int))) _ (k := 0)
  (in2_1 none none rfl ?_) ?_ ?_
 ·rw [Hp.set_comm ab,Hp.set_set,← Hp.set_comm ab]
  rfl
 ·intro i v l H' K hv hI9 hK
  refine ex2_1 hI9 fun tk sg xq1 xq2 => ?_; clear hI9
  obtain rfl := xq1
  obtain rfl := xq2
  clear hG0
  rw [List.getElem?_map] at hv
  refine ex1_1 (Option.map_eq_some_iff.mp hv) fun t et xq1 => ?_
  obtain rfl := xq1
  rw [Nat.zero_add] at hK ⊢
  have tok := ht t (List.mem_of_getElem? et)
  generalize hxs:(ts.take i).foldl litStep lit0 = xs at *
  generalize hys:(ts.take i).foldl dstStep dst0 = ys at *
  have lx:xs.length = 286 := by rw [← hxs,foldl_len litStep_len]; rfl
  have ly:ys.length = 30 := by rw [← hys,foldl_len dstStep_len]; rfl
  refine stepK (fun G hG => ?_)
  have nx:∀ s,G [some (.obj aDS d),some (.lst (ts.map Tk.v)),some (.ref a),some (.ref b),some t.v,s] ((H.set a (.list ((litStep xs t).map V.int))).set b (.list ((dstStep ys t).map V.int))) := fun s =>
   hG _ _ (hK _ _ (in2_1 _ _ rfl (by rw [foldl_take et,foldl_take et,hxs,hys])))
  clear hG hK hxs hys hv K
  have hS:∀ xs:List Int,((H.set a (.list (xs.map V.int))).set b (.list (ys.map V.int))) d = H d := fun xs => by rw [Hp.set_ne _ _ db,Hp.set_ne _ _ da]
  have ga:∀ xs:List Int,((H.set a (.list (xs.map V.int))).set b (.list (ys.map V.int))) a = some (.list (xs.map V.int)) := fun xs => by rw [Hp.set_ne _ _ ab,Hp.set_self]
  cases t with
  | lit c =>
   have tok:c < 256 := tok
   rw [Tk.v] at nx ⊢
   dsimp only [dz8,dz7,wpS,wpE,wpEs,dz6,dz5,truthW_b,cmpW,copI,vI_i,biW,lenW,oneV_1,oget_s,asSeq_t,dz9,dz10]
   refine ⟨by decide,step ?_⟩
   dsimp only [wpS,wpE,dz6,dz5,oget_s,binW,vI_i]
   refine item_tup0 (by simp) (item_intsR (ga _) (by exact Int.natCast_nonneg _) (by lia) (by lia) ?_)
   try dsimp only [vI_i]
   refine item_tup0 (by simp) ?_
   try dsimp only [vI_i]
   rw [ga]
   dsimp only [dz13,wpSs,ixW_i]
   refine ⟨⟨by exact Int.natCast_nonneg _,by rw [List.length_map]; lia,by rw [List.length_map]; lia⟩,?_⟩
   rw [Hp.set_comm ab,Hp.set_set,bump_map,← Hp.set_comm ab]
   exact nx sg
  | pair l' d' =>
   refine ex0_2 tok fun xq2 l3 l4 => ?_; clear tok
   refine ex0_1 xq2 fun l1 l2 => ?_; clear xq2
   rw [Tk.v] at nx ⊢
   dsimp only [dz8,dz7,wpS,wpE,wpEs,dz6,dz5,truthW_b,cmpW,copI,vI_i,biW,lenW,oneV_1,oget_s,asSeq_t,dz9,dz10]
   refine ⟨by decide,?_⟩
   rw [show decide (((0 + 1 + 1:Nat):Int) = 1) = false from rfl]
   refine step ?_
   dsimp only [wpS,wpE,dz5,dz8,dz7,wpEs,dz6,oget_s]
   repeat first | refine bW ?_ | refine bD ?_
   refine ⟨(in1_0 _ ((hS _).trans e)),item_tup0 (by simp) (k10 (by decide) ((hS _).trans e) (fun p p1 p2 p3 => item_tup0 (by simp) (step ?_)))⟩
   dsimp only [wpS,wpE,dz6,dz5,oget_s,ixW_i,binW,vI_i]
   refine item_intsR (ga _) (by exact Int.natCast_nonneg _) (by lia) (by lia) ?_
   have hp:lenP l' = p := lenP_of p1 l1 p2 p3
   have e1:((257:Int) + p).toNat = 257 + p := by rfl
   try dsimp only [vI_i]
   rw [ga,e1]
   dsimp only [wpS]
   refine ⟨⟨by exact Int.natCast_nonneg _,by rw [List.length_map]; lia,by rw [List.length_map]; lia⟩,step ?_⟩
   rw [Hp.set_comm ab,Hp.set_set,bump_map,← Hp.set_comm ab]
   have e2:litStep xs (.pair l' d') = bump xs (257 + p) := by show bump xs (257 + lenP l') = _; rw [hp]
   rw [e2] at nx
   generalize bump xs (257 + p) = xs2 at *
   dsimp only [wpS,wpE,dz5,dz8,dz7,wpEs,dz6,oget_s]
   repeat first | refine bW ?_ | refine bD ?_
   refine ⟨(in1_0 _ ((hS _).trans e)),item_tup1 (by simp) (k11 (by decide) ((hS _).trans e) (fun p' p1' p2' p3' => item_tup0 (by simp) (step ?_)))⟩
   dsimp only [wpS,wpE,dz6,dz5,oget_s,ixW_i,dz13,binW,vI_i]
   refine item_intsR (Hp.set_self ..) (by lia) (by lia) (by lia) ?_
   have hp':dstP d' = p' := dstP_of p1' l3 p2' p3'
   try dsimp only [vI_i]
   rw [Hp.set_self]
   dsimp only [dz13,wpSs]
   refine ⟨⟨by lia,by rw [List.length_map]; lia,by rw [List.length_map]; lia⟩,?_⟩
   rw [Hp.set_set,bump_map]
   have e3:dstStep ys (.pair l' d') = bump ys p' := by show bump ys (dstP d') = _; rw [hp']
   rw [e3] at nx
   exact nx _
 ·intro l H' hI9
  refine ex2_1 hI9 fun tk sg xq3 xq4 => ?_; clear hI9
  obtain rfl := xq3
  obtain rfl := xq4
  rw [Nat.zero_add,List.length_map,List.take_length]
  refine hG0 _ _ ?_
  dsimp only [wpSs,wpS,wpE,wpEs,dz6,dz5,oget_s]
  exact (in1_1 _ (Hp.le_refl _) (q a b ab ha hb0))
abbrev It := Int × List Nat
noncomputable def itV (x:It):V := .tup [.int x.1,.lst (x.2.map fun (s:Nat) => V.int (s:Int))]
noncomputable def mg (S P:List It):List It := S.merge P fun x y => decide (x.1 ≤ y.1)
theorem mg_nil (S:List It):mg S [] = S := by cases S <;> simp [mg]
theorem mg_emp (p:It) (ps:List It):mg [] (p :: ps) = p :: mg [] ps := by simp [mg]
theorem mg_cons (x p:It) (S ps:List It):mg (x :: S) (p :: ps) = if x.1 ≤ p.1 then x :: mg S (p :: ps) else p :: mg (x :: S) ps := by
 rw [mg,List.cons_merge_cons]; by_cases h:x.1 ≤ p.1 <;> simp [h,mg]
theorem mg_ind {M:List It→List It→Prop} (a:∀ S,M S []) (b:∀ p ps,M [] ps→M [] (p :: ps)) (c:∀ x S p ps,M S (p :: ps)→M (x :: S) ps→M (x :: S) (p :: ps)):∀ S P,M S P := by
 intro S
 induction S with
 | nil => intro P; induction P with
  | nil => exact a []
  | cons p ps ih => exact b p ps ih
 | cons x S ih => intro P; induction P with
  | nil => exact a _
  | cons p ps ih' => exact c x S p ps (ih _) ih'
theorem drop_at {α:Type} {xs:List α} {i:Nat} {x:α} (h:xs[i]? = some x):xs.drop i = x :: xs.drop (i + 1) := by
 refine ex1_0 (List.getElem?_eq_some_iff.mp h) fun hi e => ?_
 rw [List.drop_eq_getElem_cons hi,e]
theorem item_its {H:Hp} {xs:List It} {i:Int} {P:V→Prop} (h0:0 ≤ i) (h1:i < xs.length) (hb:xs.length ≤ big) (hp:∀ x,xs[i.toNat]? = some x→P (itV x)):itemW H (.lst (xs.map itV)) (.int i) P :=
 item_lst h0 (by simpa using h1) (by simpa using hb) (fun v hv => by
  rw [List.getElem?_map] at hv
  refine ex1_1 (Option.map_eq_some_iff.mp hv) fun x e xq1 => ?_
  obtain rfl := xq1
  exact hp x e)
theorem ap_some {H:Hp} {b:Addr} {xs:List V} (e:H b = some (.list xs)):appKind H (.ref b) = some true := by
 rw [appKind_r,e]
theorem ap_ref {H:Hp} {a:Addr} {xs:List V} {v:V} {Q:V→Hp→Prop} (hb:xs.length < big) (q:Q .none (H.set a (.list (xs ++ [v])))):appKind (H.set a (.list xs)) (.ref a) = some true∧appendW (.ref a) v Q (H.set a (.list xs)) := by
 refine ⟨ap_some (Hp.set_self ..),?_⟩
 unfold appendW
 try dsimp only [vI_i]
 rw [Hp.set_self]
 try dsimp only [vI_i]
 rw [Hp.set_set]
 exact ⟨hb,q⟩
theorem k13 {n:Nat} (hn:13 < n) {H:Hp} {Q:V→Hp→Prop} {S P:List It} (hS:S.length ≤ 1000) (hP:P.length ≤ 1000) (q:Q (.lst ((mg S P).map itV)) H):Sp n 13 [.lst (S.map itV),.lst (P.map itV)] H Q := by
 rw [Sp_at hn]
 refine ⟨rfl,?_⟩
 show wpFn (Sp 13) 5 b13 [.lst (S.map itV),.lst (P.map itV)] H Q
 have hbig := big_eq
 unfold wpFn b13
 show wpSs _ _ _ _ [some (.lst (S.map itV)),some (.lst (P.map itV)),none,none,none] H
 refine step ?_
 dsimp only [wpS,wpE,wpEs,mk,dz10,dz8,dz7]
 refine ⟨Nat.zero_le _,fun a ha => step ?_⟩
 dsimp only [wpS,wpE,dz8,dz7]
 refine stepK (fun G hG => ?_)
 dsimp only [wpS,wpI,wpE,dz6,dz5,oget_s,frozenSeq_l]
 refine ⟨by rw [List.length_map]; lia,?_⟩
 refine for_inv (fun i l H' => ∃ (pl:Nat) (pv:Option V) (acc:List It),l = [some (.lst (S.map itV)),some (.lst (P.map itV)),some (.ref a),some (.int pl),pv]∧H' = H.set a (.list (acc.map itV))∧pl ≤ S.length∧acc.length = pl + i∧acc ++ mg (S.drop pl) (P.drop i) = mg S P) _ (k := 0)
  ⟨0,none,[],rfl,rfl,Nat.zero_le _,rfl,rfl⟩ ?_ ?_
 ·intro i v l H' K hv hI9 hK
  refine ex3_4 hI9 fun pl pv acc xq1 xq2 h1 h2 h3 => ?_; clear hI9
  obtain rfl := xq1
  obtain rfl := xq2
  clear hG
  rw [List.getElem?_map] at hv
  refine ex1_1 (Option.map_eq_some_iff.mp hv) fun p ep xq2 => ?_
  obtain rfl := xq2
  rw [Nat.zero_add] at h2 h3 hK
  have hi:i < P.length := (List.getElem?_eq_some_iff.mp ep).1
  refine stepK (fun G hG => ?_)
  dsimp only [dz8,dz7,wpS,wpE,wpAnd,truthW_b,cmpW,copI,wpEs,biW,lenW,vI_i,oneV_1]
  refine ⟨S.length + 1,?_⟩
  refine while_inv (fun m l H' => ∃ (pl:Nat) (acc:List It),l = [some (.lst (S.map itV)),some (.lst (P.map itV)),some (.ref a),some (.int pl),some (itV p)]∧H' = H.set a (.list (acc.map itV))∧pl ≤ S.length∧acc.length = pl + i∧acc ++ mg (S.drop pl) (P.drop i) = mg S P∧m = S.length - pl) ?_ _ (S.length - pl) (by exact Nat.sub_lt_succ S.length pl) ⟨pl,acc,rfl,rfl,h1,h2,h3,rfl⟩
  intro m l H' K2 hI9 hK2
  refine ex2_5 hI9 fun pl acc xq3 xq4 h1 h2 h3 xq5 => ?_; clear hI9
  obtain rfl := xq3
  obtain rfl := xq4
  obtain rfl := xq5
  dsimp only [dz6,dz5,oget_s,asSeq_l,vI_i]
  refine ⟨by rw [List.length_map]; lia,?_⟩
  rw [List.length_map]
  have stop:(pl = S.length ∨ ∃ x,S[pl]? = some x∧¬ x.1 ≤ p.1)→G [some (.lst (S.map itV)),some (.lst (P.map itV)),some (.ref a),some (.int pl),some (itV p)] (H.set a (.list (acc.map itV))) := fun hs => hG _ _ (by
   dsimp only [wpSs,wpS,wpE,dz6,dz5,oget_s]
   refine app_ref (Hp.set_self ..) (by rw [List.length_map]; lia) ⟨rfl,?_⟩
   rw [Hp.set_set]
   refine hK _ _ ⟨pl,_,acc ++ [p],rfl,by rw [List.map_append]; rfl,h1,by rw [List.length_append,h2]; rfl,?_⟩
   rw [← h3,List.append_assoc,drop_at ep]
   congr 1
   rcases hs with rfl | ⟨x,ex,hx⟩
   ·rw [List.drop_length,mg_emp]; rfl
   ·rw [drop_at ex,mg_cons,if_neg hx]; rfl)
  clear hG hK
  by_cases hc:(pl:Int) < S.length
  ·refine dT hc ?_
   refine item_its (by exact Int.natCast_nonneg _) hc (by lia) (fun x ex => ?_)
   rw [Int.toNat_natCast] at ex
   refine item_tup0 (by simp) (item_tup0 (by simp) ?_)
   try dsimp only [vI_i]
   by_cases hx:x.1 ≤ p.1
   ·refine dT hx ?_
    refine step ?_
    dsimp only [wpS,wpE,dz6,dz5,oget_s]
    have hl:(acc.map itV).length < big := by rw [List.length_map]; lia
    have ak:appKind (H.set a (.list (acc.map itV))) (.ref a) = some true := ap_some (Hp.set_self ..)
    refine ⟨true,ak,item_its (by exact Int.natCast_nonneg _) hc (by lia) (fun y ey => ?_)⟩
    rw [Int.toNat_natCast,ex] at ey
    cases ey
    refine ap_ref hl ⟨rfl,?_⟩
    dsimp only [wpSs,wpS,wpE,dz6,dz5,dz8,dz7,binW,vI_i,oget_s]
    refine hK2 (S.length - (pl + 1)) _ _ (by lia) ⟨pl + 1,acc ++ [x],rfl,by rw [List.map_append]; rfl,by exact Int.ofNat_le.mp hc,by rw [List.length_append,h2,List.length_singleton]; exact Nat.add_right_comm _ _ _,?_,rfl⟩
    rw [← h3,List.append_assoc,drop_at ex,drop_at ep,mg_cons,if_pos hx]
    rfl
   ·refine dF hx ?_
    exact stop (.inr ⟨x,ex,hx⟩)
  ·refine dF hc ?_
   exact stop (.inl (by lia))
 ·intro l H' hI9
  refine ex3_4 hI9 fun pl pv acc xq6 xq7 h1 h2 h3 => ?_; clear hI9
  obtain rfl := xq6
  obtain rfl := xq7
  rw [List.length_map,Nat.zero_add] at h2 h3
  rw [List.drop_length,mg_nil] at h3
  refine hG _ _ (step ?_)
  dsimp only [wpS,wpE,dz6,dz5,mk,oget_s,asList_l]
  refine ⟨ap_some (Hp.set_self ..),(S.drop pl).map itV,⟨?_,by rw [List.length_map]; lia⟩,?_⟩
  ·rw [slice_from (by lia),List.map_drop]
  refine ⟨by rw [List.length_map,List.length_drop]; lia,?_⟩
  unfold extendW
  try dsimp only [vI_i]
  rw [Hp.set_self]
  try dsimp only [vI_i]
  refine ⟨by rw [List.length_map,List.length_map,List.length_drop]; lia,rfl,?_⟩
  dsimp only [wpSs,wpS,wpE,dz6,dz5,oget_s]
  rw [Hp.set_set,Hp.set_self,← List.map_append,h3,Hp.set_erase H a _ ha]
  exact ⟨H,Hp.le_refl _,q⟩
noncomputable def sgs (R:List It):List Nat := R.flatMap (·.2)
noncomputable def pr:List It→List It
 | x :: y :: r => (x.1 + y.1,x.2 ++ y.2) :: pr r
 | _ => []
noncomputable def ksum (t:Nat) (ss:List Nat) (f:Nat→Nat):Nat := (ss.map fun s => 2 ^ t - 2 ^ (t - f s)).sum
theorem sgs_append (A B:List It):sgs (A ++ B) = sgs A ++ sgs B := List.flatMap_append
theorem sgs_cons (x:It) (B:List It):sgs (x :: B) = x.2 ++ sgs B := rfl
theorem sgs_nil:sgs [] = [] := rfl
theorem mg_len (S P:List It):(mg S P).length = S.length + P.length := by simp [mg]
def MT (S P W:List It) (a:Nat):Prop := ∃ b c,b + c = a∧b ≤ S.length∧c ≤ P.length∧(W.take a).Perm (S.take b ++ P.take c)∧∀ p ∈ P.take c,∀ x ∈ S.drop b,p.1 < x.1
theorem MT.zero (S P W:List It):MT S P W 0 := (in2_4 0 0 rfl (Nat.zero_le _) (Nat.zero_le _) (by simp) (by simp))
theorem MT.left {x:It} {S P W:List It} {a:Nat}:MT S P W a→MT (x :: S) P (x :: W) (a + 1) := fun q => ex2_4 q fun b c h1 h2 h3 h4 h5 =>
  (in2_4 (b + 1) c (by rw [Nat.add_right_comm,h1]) (Nat.succ_le_succ h2) h3 (h4.cons x) h5)
theorem MT.right {p:It} {S P W:List It} {a:Nat} (h:∀ x ∈ S,p.1 < x.1):MT S P W a→MT S (p :: P) (p :: W) (a + 1) := fun q => ex2_4 q fun b c h1 h2 h3 h4 h5 =>
  (in2_4 b (c + 1) (congrArg (· + 1) h1) h2 (Nat.succ_le_succ h3) ((h4.cons p).trans List.perm_middle.symm) (fun q hq y hy => by
  rcases List.mem_cons.mp hq with rfl | hq
  ·exact h y (List.mem_of_mem_drop hy)
  ·exact h5 q hq y hy))
theorem mg_take (S P:List It):S.Pairwise (fun x y => x.1 ≤ y.1)→∀ a,a ≤ S.length + P.length→MT S P (mg S P) a := by
 refine mg_ind (M := fun S P => S.Pairwise (fun x y => x.1 ≤ y.1)→∀ a,a ≤ S.length + P.length→MT S P (mg S P) a) ?_ ?_ ?_ S P
 ·intro S _ a ha
  exact (in2_4 a 0 rfl ha (Nat.le_refl _) (by simp [mg_nil]) (by simp))
 ·intro p ps ih hs a ha
  cases a with
  | zero => exact MT.zero ..
  | succ a => rw [mg_emp]; exact MT.right (by simp) (ih hs a (Nat.le_of_succ_le_succ ha))
 ·intro x S p ps i1 i2 hs a ha
  cases a with
  | zero => exact MT.zero ..
  | succ a =>
   rw [mg_cons]
   have hs' := List.pairwise_cons.mp hs
   by_cases h:x.1 ≤ p.1
   ·rw [if_pos h]; exact MT.left (i1 hs'.2 a (by rw [List.length_cons] at ha; lia))
   ·rw [if_neg h]
    refine MT.right (fun y hy => ?_) (i2 hs a (Nat.le_of_succ_le_succ ha))
    rcases List.mem_cons.mp hy with rfl | hy
    ·exact Int.not_le.mp h
    ·exact Int.lt_of_lt_of_le (Int.not_le.mp h) (hs'.1 y hy)
theorem pr_len:∀ R:List It,(pr R).length = R.length / 2
 | [] => rfl
 | [x] => by simp [pr]
 | x :: y :: r => by rw [pr,List.length_cons,pr_len r,List.length_cons,List.length_cons]; lia
theorem pr_take:∀ (R:List It) (c:Nat),c ≤ R.length / 2→sgs ((pr R).take c) = sgs (R.take (2 * c))
 | [],c,h => by simp [pr]
 | [x],c,h => by simp at h; subst h; simp [pr]
 | x :: y :: r,0,h => by simp
 | x :: y :: r,c + 1,h => by
  rw [pr,List.take_succ_cons,sgs_cons,pr_take r c (by simp at h; lia),show 2 * (c + 1) = 2 * c + 1 + 1 by rfl,List.take_succ_cons,List.take_succ_cons,sgs_cons,sgs_cons,List.append_assoc]
theorem pr_mem {w:Nat→Int}:∀ R:List It,(∀ x ∈ R,0 ≤ x.1∧∀ s ∈ x.2,w s ≤ x.1)→∀ x ∈ pr R,0 ≤ x.1∧∀ s ∈ x.2,w s ≤ x.1
 | [],h,x,hx => by simp [pr] at hx
 | [y],h,x,hx => by simp [pr] at hx
 | y :: z :: r,h,x,hx => by
  rw [pr] at hx
  have hy := h y (by simp)
  have hz := h z (by simp)
  rcases List.mem_cons.mp hx with rfl | hx
  ·refine ⟨by show (0:Int) ≤ y.1 + z.1; lia,fun s hs => ?_⟩
   show w s ≤ y.1 + z.1
   rcases List.mem_append.mp hs with hs | hs
   ·have := hy.2 s hs; lia
   ·have := hz.2 s hs; lia
  ·exact pr_mem r (fun x hx => h x (by simp [hx])) x hx
theorem sgs_perm {A B:List It} (h:A.Perm B):(sgs A).Perm (sgs B) := by
 unfold sgs; exact h.flatMap_right _
theorem ksum_append (t:Nat) (a b:List Nat) (f:Nat→Nat):ksum t (a ++ b) f = ksum t a f + ksum t b f := by
 unfold ksum; rw [List.map_append,List.sum_append]
theorem ksum_zero (t:Nat) (a:List Nat) (f:Nat→Nat) (h:∀ s ∈ a,f s = 0):ksum t a f = 0 := by
 induction a with
 | nil => rfl
 | cons s r ih =>
  have := ih (fun s hs => h s (by simp [hs]))
  unfold ksum at this ⊢
  rw [List.map_cons,List.sum_cons,this,h s (by simp)]
  simp
theorem ksum_succ (t:Nat) (a:List Nat) (f:Nat→Nat) (h:∀ s ∈ a,f s ≤ t):ksum (t + 1) a (fun s => f s + 1) = a.length * 2 ^ t + ksum t a f := by
 induction a with
 | nil => simp [ksum]
 | cons s r ih =>
  have := ih (fun s hs => h s (by simp [hs]))
  unfold ksum at this ⊢
  rw [List.map_cons,List.sum_cons,this,List.map_cons,List.sum_cons,List.length_cons,Nat.add_mul,Nat.one_mul]
  have e:t + 1 - (f s + 1) = t - f s := by exact Nat.add_sub_add_right t 1 (f s)
  have l:2 ^ (t - f s) ≤ 2 ^ t := Nat.pow_le_pow_right (by exact Nat.zero_lt_two) (by exact Nat.sub_le _ _)
  rw [e,Nat.pow_succ,Nat.mul_two,Nat.add_sub_assoc l]
  ac_rfl
theorem ksum_congr {t:Nat} {a:List Nat} {f g:Nat→Nat} (h:∀ s ∈ a,f s = g s):ksum t a f = ksum t a g := by
 unfold ksum
 rw [List.map_congr_left (fun s hs => by rw [h s hs])]
structure SOk (w:Nat→Int) (S:List It):Prop where
 one:∀ x ∈ S,∃ s,x.2 = [s]∧w s = x.1
 pos:∀ x ∈ S,0 ≤ x.1
 nodup:(sgs S).Nodup
 sorted:S.Pairwise (fun x y => x.1 ≤ y.1)
structure ROk (t:Nat) (w:Nat→Int) (S R:List It):Prop where
 cnt:∀ a,a ≤ R.length→∀ s,(sgs (R.take a)).count s ≤ t
 kr:∀ a,a ≤ R.length→2 * ksum t (sgs S) (fun s => (sgs (R.take a)).count s) = a * 2 ^ t
 wt:∀ x ∈ R,0 ≤ x.1∧∀ s ∈ x.2,w s ≤ x.1
 mem:∀ s ∈ sgs R,s ∈ sgs S
 len:(sgs R).length ≤ t * S.length
theorem ROk.zero (w:Nat→Int) (S:List It):ROk 0 w S [] where
 cnt := fun a ha s => by simp [sgs]
 kr := fun a ha => by
  have:a = 0 := by simpa using ha
  subst this
  rw [ksum_zero _ _ _ (fun s U => by simp [sgs])]
 wt := by simp
 mem := by simp [sgs]
 len := by simp [sgs]
theorem sgs_one_len {w:Nat→Int} {S:List It} (h:∀ x ∈ S,∃ s,x.2 = [s]∧w s = x.1):(sgs S).length = S.length := by
 induction S with
 | nil => rfl
 | cons x r ih =>
  refine ex1_1 (h x (by simp)) fun s e U => ?_
  rw [sgs_cons,e,List.length_append,ih (fun x hx => h x (by simp [hx])),List.length_cons]; simp; exact Nat.add_comm 1 r.length
theorem sgs_mem {s:Nat} {S:List It}:s ∈ sgs S ↔ ∃ x ∈ S,s ∈ x.2 := List.mem_flatMap
theorem mg_perm (S P:List It):(mg S P).Perm (S ++ P) := List.merge_perm_append _
def RK (S R M:List It) (a b c:Nat):Prop := b + c = a∧b ≤ S.length∧2 * c ≤ R.length∧(∀ s,(sgs (M.take a)).count s = (sgs (S.take b)).count s + (sgs (R.take (2 * c))).count s)∧(∀ s ∈ sgs (S.drop b),(sgs (R.take (2 * c))).count s = 0)
theorem ROk.key {t:Nat} {w:Nat→Int} {S R:List It} (hS:SOk w S) (h:ROk t w S R):∀ a,a ≤ (mg S (pr R)).length→∃ b c,RK S R (mg S (pr R)) a b c := by
 intro a ha
 rw [mg_len] at ha
 refine ex2_4 (mg_take S (pr R) hS.sorted a ha) fun b c h1 h2 h3 h4 h5 => ?_
 rw [pr_len] at h3
 refine (in2_4 b c h1 h2 (by lia) (fun s => ?_) (fun s hs => ?_))
 ·rw [(sgs_perm h4).count_eq,sgs_append,List.count_append,pr_take R c h3]
 ·rw [← pr_take R c h3]
  refine List.count_eq_zero.mpr fun hm => ?_
  refine og fun G hG => ?_
  refine ex1_1 (sgs_mem.mp hm) fun p hp hsp => ?_
  refine ex1_1 (sgs_mem.mp hs) fun x hx hsx => ?_
  refine hG ?_; clear hG G
  have := h5 p hp x hx
  refine ex1_1 (hS.one x (List.mem_of_mem_drop hx)) fun s' e ew => ?_
  rw [e] at hsx
  have:s = s' := by simpa using hsx
  subst this
  have := (pr_mem R h.wt p (List.mem_of_mem_take hp)).2 s hsp
  lia
theorem ROk.step {t:Nat} {w:Nat→Int} {S R:List It} (hS:SOk w S) (h:ROk t w S R):ROk (t + 1) w S (mg S (pr R)) := by
 have key := h.key hS
 have split:∀ b,sgs S = sgs (S.take b) ++ sgs (S.drop b) := fun b => by rw [← sgs_append,List.take_append_drop]
 have nd:∀ b,(sgs (S.take b)).Nodup := fun b => by
  have := hS.nodup; rw [split b] at this; exact (List.nodup_append.mp this).1
 constructor
 ·intro a ha s
  refine ex2_4 (key a ha) fun b c h1 h2 h3 h4 h5 => ?_
  rw [h4 s]
  have := h.cnt (2 * c) h3 s
  have := List.nodup_iff_count.mp (nd b) s
  lia
 ·intro a ha
  refine ex2_4 (key a ha) fun b c h1 h2 h3 h4 h5 => ?_
  rw [split b,ksum_append]
  rw [ksum_congr (a := sgs (S.take b)) (g := fun s => (sgs (R.take (2 * c))).count s + 1) (fun s hs => by
   rw [h4 s,(nd b).count,if_pos hs]; exact Nat.add_comm 1 (List.count s (sgs (List.take (2 * c) R))))]
  rw [ksum_zero _ (sgs (S.drop b)) _ (fun s hs => by
   rw [h4 s,h5 s hs,Nat.add_zero]
   refine List.count_eq_zero.mpr fun hm => ?_
   have := hS.nodup; rw [split b] at this
   exact (List.nodup_append.mp this).2.2 s hm s hs rfl)]
  rw [ksum_succ _ _ _ (fun s U => h.cnt (2 * c) h3 s)]
  have := h.kr (2 * c) h3
  rw [split b,ksum_append,ksum_zero _ (sgs (S.drop b)) _ (fun s hs => h5 s hs)] at this
  have l:(sgs (S.take b)).length = b := by
   rw [sgs_one_len (w := w) (fun x hx => hS.one x (List.mem_of_mem_take hx)),List.length_take]; exact Nat.min_eq_left h2
  rw [l,← h1,Nat.add_mul,Nat.pow_succ]
  have e1:b * (2 ^ t * 2) = 2 * (b * 2 ^ t) := by rw [← Nat.mul_assoc,Nat.mul_comm]
  have e2:c * (2 ^ t * 2) = 2 * c * 2 ^ t := by rw [Nat.mul_comm (2 ^ t),← Nat.mul_assoc,Nat.mul_comm c]
  lia
 ·intro x hx
  have hp := mg_perm S (pr R)
  rcases List.mem_append.mp (hp.mem_iff.mp hx) with hx | hx
  ·refine ⟨hS.pos x hx,fun s hs => ?_⟩
   refine ex1_1 (hS.one x hx) fun s' e ew => ?_
   rw [e] at hs
   have:s = s' := by simpa using hs
   subst this
   exact Int.le_of_eq ew
  ·exact pr_mem R h.wt x hx
 ·intro s hs
  have hp := mg_perm S (pr R)
  have := (sgs_perm hp).mem_iff.mp hs
  rw [sgs_append] at this
  rcases List.mem_append.mp this with hx | hx
  ·exact hx
  ·have e := pr_take R (R.length / 2) (Nat.le_refl _)
   rw [List.take_of_length_le (by rw [pr_len]; exact Nat.le_refl _)] at e
   rw [e] at hx
   refine ex1_1 (sgs_mem.mp hx) fun x hx hs => ?_
   exact h.mem s (sgs_mem.mpr (in1_1 x (List.mem_of_mem_take hx) hs))
 ·have hp := mg_perm S (pr R)
  rw [(sgs_perm hp).length_eq,sgs_append,List.length_append,sgs_one_len hS.one]
  have e := pr_take R (R.length / 2) (Nat.le_refl _)
  rw [List.take_of_length_le (by rw [pr_len]; exact Nat.le_refl _)] at e
  have:sgs R = sgs (R.take (2 * (R.length / 2))) ++ sgs (R.drop (2 * (R.length / 2))) := by rw [← sgs_append,List.take_append_drop]
  have l := congrArg List.length this
  rw [List.length_append] at l
  have := h.len
  rw [e,Nat.add_mul,Nat.one_mul]
  lia
noncomputable def rowAt (S:List It):Nat→List It
 | 0 => []
 | t + 1 => mg S (pr (rowAt S t))
theorem rowAt_ok {w:Nat→Int} {S:List It} (hS:SOk w S):∀ t,ROk t w S (rowAt S t)
 | 0 => ROk.zero w S
 | t + 1 => (rowAt_ok hS t).step hS
theorem rowAt_len (S:List It):∀ t,(rowAt S t).length ≤ 2 * S.length
 | 0 => Nat.zero_le _
 | t + 1 => by
  have := rowAt_len S t
  rw [rowAt,mg_len,pr_len]; lia
theorem rowAt_ge (S:List It) (m:Nat) (h:S.length ≤ 2 ^ m):∀ t,t ≤ m→2 * S.length ≤ (rowAt S t).length + 2 * 2 ^ (m - t)
 | 0,_ => by simp [rowAt]; exact Nat.mul_le_mul_left 2 h
 | t + 1,ht => by
  have := rowAt_ge S m h t (by exact Nat.le_of_lt ‹_›)
  rw [rowAt,mg_len,pr_len]
  have e:m - t = m - (t + 1) + 1 := by lia
  rw [e,Nat.pow_succ] at this
  lia
noncomputable def psum (m:Nat) (ss:List Nat) (f:Nat→Nat):Nat := (ss.map fun s => 2 ^ (m - f s)).sum
theorem ksum_psum (m:Nat) (ss:List Nat) (f:Nat→Nat):ksum m ss f + psum m ss f = ss.length * 2 ^ m := by
 induction ss with
 | nil => simp [ksum,psum]
 | cons s r ih =>
  unfold ksum psum at ih ⊢
  rw [List.map_cons,List.sum_cons,List.map_cons,List.sum_cons,List.length_cons,Nat.add_mul,Nat.one_mul]
  have l:2 ^ (m - f s) ≤ 2 ^ m := Nat.pow_le_pow_right (by exact Nat.zero_lt_two) (by exact Nat.sub_le _ _)
  rw [← ih,← Nat.sub_add_cancel l,Nat.add_sub_cancel]
  ac_rfl
theorem psum_pos (m:Nat) (ss:List Nat) (f:Nat→Nat) (h:ss ≠ []):0 < psum m ss f := by
 cases ss with
 | nil => exact absurd rfl h
 | cons s r =>
  unfold psum
  rw [List.map_cons,List.sum_cons]
  have:0 < 2 ^ (m - f s) := Nat.pow_pos (by exact Nat.zero_lt_two)
  exact Nat.add_pos_left this (List.map (fun s => 2 ^ (m - f s)) r).sum
theorem psum_ge {m:Nat} {ss:List Nat} {f:Nat→Nat} {s:Nat} (h:s ∈ ss) (h2:2 ≤ ss.length):2 ^ (m - f s) < psum m ss f := by
 have:(s :: ss.erase s).Perm ss := (List.perm_cons_erase h).symm
 have e:psum m ss f = psum m (s :: ss.erase s) f := by
  unfold psum; exact ((this.map _).sum_nat).symm
 rw [e]
 have hp:0 < psum m (ss.erase s) f := psum_pos _ _ _ (fun he => by
  have := List.length_erase_of_mem h
  rw [he] at this; simp at this; lia)
 show _ < 2 ^ (m - f s) + psum m (ss.erase s) f
 exact Nat.lt_add_of_pos_right hp
theorem pm {w:Nat→Int} {S:List It} (hS:SOk w S) {m:Nat} (h2:2 ≤ S.length) (hm:S.length ≤ 2 ^ m) (l:Nat→Nat) (hl:l = fun s => (sgs ((rowAt S m).take (2 * S.length - 2))).count s) :
  2 * S.length - 2 ≤ (rowAt S m).length∧(∀ s,l s ≤ m)∧(∀ s ∈ sgs S,1 ≤ l s)∧(∀ s,s ∉ sgs S→l s = 0)∧psum m (sgs S) l = 2 ^ m := by
 have hR := rowAt_ok hS m
 have g := rowAt_ge S m hm m (Nat.le_refl _)
 rw [Nat.sub_self] at g
 have g2:2 * S.length - 2 ≤ (rowAt S m).length := by exact Nat.sub_le_of_le_add g
 have k := hR.kr _ g2
 have c := hR.cnt _ g2
 have sl := sgs_one_len hS.one
 have kp := ksum_psum m (sgs S) l
 rw [← hl,Nat.sub_mul] at k
 rw [sl] at kp
 have le:2 ^ m ≤ S.length * 2 ^ m := Nat.le_mul_of_pos_left _ (Nat.lt_of_lt_of_le (by decide) h2)
 have k2:ksum m (sgs S) l = S.length * 2 ^ m - 2 ^ m := Nat.eq_of_mul_eq_mul_left (by decide:0 < 2) (by rw [k,Nat.mul_sub,Nat.mul_assoc])
 have P:psum m (sgs S) l = 2 ^ m := Nat.add_left_cancel (kp.trans (by rw [k2]; exact (Nat.sub_add_cancel le).symm))
 refine ⟨g2,fun s => by rw [hl]; exact c s,fun s hs => ?_,fun s hs => ?_,P⟩
 ·refine Nat.pos_of_ne_zero fun h0 => ?_
  have := psum_ge (m := m) (f := l) hs (by exact le_of_le_of_eq h2 (id (Eq.symm sl)))
  rw [P,h0,Nat.sub_zero] at this
  exact Nat.lt_irrefl _ ‹_›
 ·rw [hl]
  refine List.count_eq_zero.mpr fun h => hs ?_
  refine ex1_1 (sgs_mem.mp h) fun x hx hsx => ?_
  exact hR.mem s (sgs_mem.mpr (in1_1 x (List.mem_of_mem_take hx) hsx))
theorem comp_fm {α:Type} {elt:Loc→(V→Hp→Prop)→Hp→Prop} {cond:Loc→(Bool→Hp→Prop)→Hp→Prop} {tg:Tg} {base:Loc} {Q:List V→Hp→Prop} {H:Hp} {f:α→V} {g:α→Option V} :
  ∀ (ys:List α) (acc:List V),(∀ y ∈ ys,∃ l,bindT tg (f y) base = some l∧(∀ K:Bool→Hp→Prop,K (g y).isSome H→cond l K H)∧∀ x,g y = some x→∀ K:V→Hp→Prop,K x H→elt l K H)→Q (acc ++ ys.filterMap g) H→compW elt cond tg base (ys.map f) acc Q H
 | [],acc,st,q => by
  rw [List.filterMap_nil,List.append_nil] at q
  exact q
 | y :: r,acc,st,q => by
  refine ex1_2 (st y (by simp)) fun l e c d => ?_
  rw [List.map_cons]
  show obind (bindT tg (f y) base) _
  rw [e]
  refine c _ ⟨rfl,?_⟩
  cases hg:g y with
  | none =>
   refine comp_fm r acc (fun y hy => st y (by simp [hy])) ?_
   rw [List.filterMap_cons,hg] at q; exact q
  | some x =>
   refine d x hg _ ⟨rfl,?_⟩
   refine comp_fm r (acc ++ [x]) (fun y hy => st y (by simp [hy])) ?_
   rw [List.filterMap_cons,hg] at q
   rw [List.append_assoc]; exact q
theorem comp_map {α:Type} {elt:Loc→(V→Hp→Prop)→Hp→Prop} {cond:Loc→(Bool→Hp→Prop)→Hp→Prop} {tg:Tg} {base:Loc} {Q:List V→Hp→Prop} {H:Hp} {f g:α→V}
  (ys:List α) (acc:List V) (hc:∀ l (K:Bool→Hp→Prop),K true H→cond l K H) (st:∀ y ∈ ys,∃ l,bindT tg (f y) base = some l∧∀ K:V→Hp→Prop,K (g y) H→elt l K H) (q:Q (acc ++ ys.map g) H):compW elt cond tg base (ys.map f) acc Q H := by
 refine comp_fm (g := fun y => some (g y)) ys acc (fun y hy => ?_) ?_
 ·refine ex1_1 (st y hy) fun l e d => ?_
  exact ⟨l,e,hc l,fun x hx K k => d K (by cases hx; exact k)⟩
 ·rw [List.filterMap_eq_map' ]; exact q
noncomputable def used (cs:List Int):List Nat := (List.range cs.length).filter fun s => decide (0 < cs.getD s 0)
theorem used_mem {cs:List Int} {s:Nat}:s ∈ used cs ↔ s < cs.length∧0 < cs.getD s 0 := by simp [used]
theorem used_nodup (cs:List Int):(used cs).Nodup := List.nodup_range.filter _
theorem zip_range (cs:List Int):cs.zipIdx = (List.range cs.length).map fun i => (cs.getD i 0,i) := by
 apply List.ext_getElem?
 intro i
 rw [List.getElem?_zipIdx,List.getElem?_map]
 by_cases h:i < cs.length
 ·rw [List.getElem?_eq_getElem h,List.getElem?_range h]; simp [h]
 ·rw [List.getElem?_eq_none (by exact Nat.le_of_not_lt h),List.getElem?_eq_none (by simp; exact Nat.le_of_not_lt h)]; rfl
theorem fm_used (cs:List Int):((List.range cs.length).filterMap fun i => if 0 < cs.getD i 0 then some (V.int (i:Int)) else none) = (used cs).map fun (s:Nat) => V.int (s:Int) := by
 unfold used
 rw [← List.filterMap_eq_filter,List.map_filterMap]
 congr 1
 funext i
 by_cases h:0 < cs.getD i 0 <;> simp [h,Option.guard]
noncomputable def lsL (m:Nat) (sg:List Nat):List Nat := (List.range m).map fun s => sg.count s
noncomputable def nV (x:Nat):V := .int (x:Int)
theorem lsL_len (m:Nat) (sg:List Nat):(lsL m sg).length = m := by simp [lsL]
theorem lsL_get {m s:Nat} (sg:List Nat) (h:s < m):(lsL m sg)[s]? = some (sg.count s) := by
 unfold lsL; rw [List.getElem?_map,List.getElem?_range h]; rfl
theorem lsL_nil (m:Nat):List.replicate m (V.int 0) = (lsL m []).map nV := by
 unfold lsL; rw [List.map_map]
 apply List.ext_getElem?
 intro i
 rw [List.getElem?_replicate,List.getElem?_map]
 by_cases h:i < m
 ·rw [if_pos h,List.getElem?_range h]; rfl
 ·rw [if_neg h,List.getElem?_eq_none (by simp; exact Nat.le_of_not_lt h)]; rfl
theorem lsL_set {m s:Nat} (sg:List Nat) (h:s < m):((lsL m sg).map nV).set s (.int ((sg.count s:Int) + 1)) = (lsL m (sg ++ [s])).map nV := by
 apply List.ext_getElem?
 intro i
 rw [List.getElem?_set,List.getElem?_map,List.getElem?_map,List.length_map,lsL_len]
 by_cases hi:i < m
 ·rw [lsL_get _ hi,lsL_get _ hi,List.count_append]
  by_cases e:s = i
  ·subst e; rw [if_pos rfl,if_pos h]; simp [nV]
  ·rw [if_neg e]; simp [nV,e]
 ·rw [if_neg (by lia),List.getElem?_eq_none (by rw [lsL_len]; exact Nat.le_of_not_lt hi),List.getElem?_eq_none (by rw [lsL_len]; exact Nat.le_of_not_lt hi)]
noncomputable def psOf (cs:List Int):List (Int × Int) := (((used cs).map fun s => (cs.getD s 0,(s:Int)))).mergeSort leP
noncomputable def SOf (cs:List Int):List It := (psOf cs).map fun p => (p.1,[p.2.toNat])
theorem psOf_perm (cs:List Int):(psOf cs).Perm ((used cs).map fun s => (cs.getD s 0,(s:Int))) := List.mergeSort_perm ..
theorem SOf_len (cs:List Int):(SOf cs).length = (used cs).length := by
 unfold SOf; rw [List.length_map,(psOf_perm cs).length_eq,List.length_map]
theorem sgs_ps:∀ ps:List (Int × Int),sgs (ps.map fun p => (p.1,[p.2.toNat])) = ps.map fun p => p.2.toNat
 | [] => rfl
 | p :: r => by rw [List.map_cons,sgs_cons,sgs_ps r]; rfl
theorem SOf_sgs (cs:List Int):(sgs (SOf cs)).Perm (used cs) := by
 unfold SOf
 rw [sgs_ps]
 refine ((psOf_perm cs).map _).trans ?_
 rw [List.map_map]
 have:((fun p:Int × Int => p.2.toNat) ∘ fun s:Nat => (cs.getD s 0,(s:Int))) = id := by funext s; simp
 rw [this,List.map_id]
theorem psOf_mem {cs:List Int} {p:Int × Int} (h:p ∈ psOf cs):∃ s,s ∈ used cs∧p = (cs.getD s 0,(s:Int)) := by
 have := (psOf_perm cs).mem_iff.mp h
 refine ex1_1 (List.mem_map.mp this) fun s hs e => ?_
 exact ⟨s,hs,e.symm⟩
theorem SOf_ok (cs:List Int):SOk (fun s => cs.getD s 0) (SOf cs) where
 one := fun x hx => by
  refine ex1_1 (List.mem_map.mp hx) fun p hp xq1 => ?_
  obtain rfl := xq1
  refine ex1_1 (psOf_mem hp) fun s hs xq2 => ?_
  obtain rfl := xq2
  exact ⟨s,by simp,rfl⟩
 pos := fun x hx => by
  refine ex1_1 (List.mem_map.mp hx) fun p hp xq3 => ?_
  obtain rfl := xq3
  refine ex1_1 (psOf_mem hp) fun s hs xq4 => ?_
  obtain rfl := xq4
  exact Int.le_of_lt (used_mem.mp hs).2
 nodup := (SOf_sgs cs).nodup_iff.mpr (used_nodup cs)
 sorted := by
  unfold SOf
  rw [List.pairwise_map]
  have := List.pairwise_mergeSort (le := leP) (fun a b c => leP_trans) leP_total ((used cs).map fun s => (cs.getD s 0,(s:Int)))
  refine List.Pairwise.imp (fun {a b} h => ?_) this
  exact leP_fst h
theorem pr_get:∀ (R:List It) (i:Nat) (x y:It),R[2 * i]? = some x→R[2 * i + 1]? = some y→(pr R)[i]? = some (x.1 + y.1,x.2 ++ y.2)
 | [],i,x,y,h1,h2 => by simp at h1
 | [z],i,x,y,h1,h2 => by simp at h2
 | u :: v :: r,0,x,y,h1,h2 => by
  simp at h1 h2; subst h1; subst h2; rfl
 | u :: v :: r,i + 1,x,y,h1,h2 => by
  rw [pr,List.getElem?_cons_succ]
  refine pr_get r i x y ?_ ?_
  ·rw [show 2 * (i + 1) = 2 * i + 1 + 1 by rfl] at h1; exact h1
  ·rw [show 2 * (i + 1) + 1 = 2 * i + 1 + 1 + 1 by exact Nat.add_assoc _ _ _] at h2; exact h2
theorem sgs_le {x:It}:∀ {R:List It},x ∈ R→x.2.length ≤ (sgs R).length
 | [],h => by simp at h
 | y :: r,h => by
  rw [sgs_cons,List.length_append]
  rcases List.mem_cons.mp h with rfl | h
  ·exact Nat.le_add_right _ _
  ·have := sgs_le h; exact Nat.le_add_left_of_le this
theorem enum_ints (cs:List Int):((cs.map V.int).zipIdx.map fun p => V.tup [.int (p.2:Int),p.1]) = (List.range cs.length).map fun (i:Nat) => V.tup [.int (i:Int),.int (cs.getD i 0)] := by
 rw [List.zipIdx_map,zip_range,List.map_map,List.map_map]; rfl
theorem used_le (cs:List Int):(used cs).length ≤ cs.length := by
 have := List.length_filter_le (fun s => decide (0 < cs.getD s 0)) (List.range cs.length)
 rwa [List.length_range] at this
theorem rangeL_len2 {b:Nat}:(rangeL 0 ((b:Int) - 1) 2).length = b / 2 := by
 unfold rangeL; rw [List.length_map,List.length_range]; lia
theorem rangeL_get2 {b i:Nat} {v:V} (h:(rangeL 0 ((b:Int) - 1) 2)[i]? = some v):v = .int ((2 * i:Nat):Int)∧2 * i + 1 < b := by
 have hi:i < (rangeL 0 ((b:Int) - 1) 2).length := (List.getElem?_eq_some_iff.mp h).1
 rw [rangeL_len2] at hi
 refine ⟨?_,by lia⟩
 unfold rangeL at h
 rw [List.getElem?_map,List.getElem?_range (by lia)] at h
 cases h
 show V.int (0 + 2 * (i:Int)) = _
 congr 1; exact Int.zero_add (2 * ↑i)
theorem getI {R:List It} {i:Nat} (h:i < R.length):∃ x,R[i]? = some x∧x ∈ R := ⟨R[i],List.getElem?_eq_getElem h,List.getElem_mem h⟩
noncomputable def b14t:MSs :=
 .cons (.asg 10 (.list true .nil)) (.cons (.forr (.one 11) (.range (.cons (.cint 0) (.cons (.bin .sub (.bi .len (.cons (.loc 8) .nil)) (.cint 1)) (.cons (.cint 2) .nil))))
  (.cons (.asg 12 (.item (.loc 8) (.loc 11))) (.cons (.asg 13 (.item (.loc 8) (.bin .add (.loc 11) (.cint 1)))) (.cons (.expr (.append (.loc 10) (.tup (.cons (.bin .add (.item (.loc 12) (.cint 0)) (.item (.loc 13) (.cint 0))) (.cons (.cat false (.item (.loc 12) (.cint 1)) (.item (.loc 13) (.cint 1))) .nil))))) .nil)))) (.cons (.asg 8 (.call 13 (.cons (.loc 7) (.cons (.freeze (.loc 10)) .nil)))) .nil))
noncomputable def b14c:MSs :=
 .cons (.forr (.one 2) (.seq false (.loc 14)) (.cons (.setI (.loc 4) (.loc 2) (.bin .add (.item (.loc 4) (.loc 2)) (.cint 1))) .nil)) .nil
theorem k14_turn {R S:List It} {H:Hp} {c0 c1 c3 c4 c5 c9:V} {v2 v6 v10 v11 v12 v13 v14:Option V} {K:Loc→Hp→Prop} {Qr:V→Hp→Prop} (hR:R.length ≤ 126) (hS:S.length ≤ 63) (hx:∀ x ∈ R,x.2.length ≤ 960)
  (hK:∀ v10 v11 v12 v13,K [some c0,some c1,v2,some c3,some c4,some c5,v6,some (.lst (S.map itV)),some (.lst ((mg S (pr R)).map itV)),some c9,v10,v11,v12,v13,v14] H) :
  wpSs (Sp 14) b14t K Qr [some c0,some c1,v2,some c3,some c4,some c5,v6,some (.lst (S.map itV)),some (.lst (R.map itV)),some c9,v10,v11,v12,v13,v14] H := by
 have hbig := big_eq
 unfold b14t
 refine step ?_
 dsimp only [wpS,wpE,wpEs,mk,dz10,dz8,dz7]
 refine ⟨Nat.zero_le _,fun b hb => stepK (fun G hG => ?_)⟩
 dsimp only [wpS,wpI,wpEs,wpE,dz6,dz5,rangeW_3,vI_i,binW,biW,lenW,oneV_1,oget_s,asSeq_l]
 rw [List.length_map]
 refine ⟨by lia,⟨by decide,by lia,by decide,by decide⟩,?_⟩
 refine for_inv (fun i l H' => H' = H.set b (.list (((pr R).take i).map itV))∧∃ v11 v12 v13,l = [some c0,some c1,v2,some c3,some c4,some c5,v6,some (.lst (S.map itV)),some (.lst (R.map itV)),some c9,some (.ref b),v11,v12,v13,v14]) _ (k := 0) ⟨rfl,_,_,_,rfl⟩ ?_ ?_
 ·intro i v l H' K2 hv hI9 hK2
  refine ex0_1 hI9 fun xq1 xq2 => ?_; clear hI9
  refine ex3_0 xq2 fun v11 v12 v13 xq3 => ?_; clear xq2
  obtain rfl := xq1
  obtain rfl := xq3
  clear hG hK
  refine ex0_1 (rangeL_get2 hv) fun xq1 hi => ?_
  obtain rfl := xq1
  rw [Nat.zero_add] at hK2 ⊢
  refine og fun G hG => ?_
  refine ex1_1 (getI (R := R) (i := 2 * i) (by exact Nat.lt_of_succ_lt hi)) fun x ex mx => ?_
  refine ex1_1 (getI (R := R) (i := 2 * i + 1) hi) fun y ey my => ?_
  refine hG ?_; clear hG G
  have eg := pr_get _ _ _ _ ex ey
  have lx := hx x mx
  have ly := hx y my
  have pl := (List.getElem?_eq_some_iff.mp eg).1
  have pl2 := pr_len R
  refine step ?_
  dsimp only [dz8,dz7,wpS,wpE,dz6,dz5,oget_s]
  refine item_its (by exact Int.natCast_nonneg (2 * i)) (by lia) (by lia) (fun x' ex' => ?_)
  rw [dz13,ex] at ex'
  cases ex'
  refine step ?_
  dsimp only [wpS,wpE,dz6,dz5,dz8,dz7,binW,vI_i,oget_s]
  refine item_its (by exact Int.natCast_nonneg _) (by exact Int.lt_of_toNat_lt hi) (by lia) (fun y' ey' => ?_)
  rw [show (((2 * i:Nat):Int) + 1).toNat = 2 * i + 1 by exact Int.toNat_natCast_add_one,ey] at ey'
  cases ey'
  refine step ?_
  unfold itV
  dsimp only [wpS,wpE,dz6,dz5,wpEs,mk,oget_s,binW]
  refine ⟨true,ap_some (Hp.set_self ..),item_tup0 (by simp) (item_tup0 (by simp) ?_)⟩
  try dsimp only [vI_i]
  refine item_tup1 (by simp) (item_tup1 (by simp) ?_)
  try dsimp only [vI_i]
  refine ⟨by rw [List.length_append,List.length_map,List.length_map]; lia,ap_ref (by rw [List.length_map,List.length_take]; lia) ⟨rfl,hK2 _ _ ⟨?_,_,_,_,rfl⟩⟩⟩
  rw [take_snoc eg,List.map_append]
  congr 3
  simp [itV]
 ·intro l H' hI9
  refine ex0_1 hI9 fun xq4 xq5 => ?_; clear hI9
  refine ex3_0 xq5 fun v11 v12 v13 xq6 => ?_; clear xq5
  obtain rfl := xq4
  obtain rfl := xq6
  rw [rangeL_len2,Nat.zero_add,List.take_of_length_le (by rw [pr_len]; exact Nat.le_refl _)]
  refine hG _ _ ?_
  dsimp only [wpSs,wpS,wpE,wpEs,dz6,dz5,dz8,dz7,oget_s]
  rw [Hp.set_self]
  try dsimp only [vI_i]
  rw [Hp.set_erase _ b _ hb]
  refine k13 (by decide) (by lia) (by rw [pr_len]; lia) ?_
  exact hK _ _ _ _
theorem k14_count {m:Nat} {H:Hp} {a:Addr} {c0 c1 c3 c5 c6 c7 c8:V} {v2 v9 v10 v11 v12 v13:Option V} {sg xs:List Nat} {K:Loc→Hp→Prop} {Qr:V→Hp→Prop} (hm:m ≤ 1000) (hx:xs.length ≤ 960) (hs:∀ s ∈ xs,s < m)
  (hK:∀ v2,K [some c0,some c1,v2,some c3,some (.ref a),some c5,some c6,some c7,some c8,v9,v10,v11,v12,v13,some (.lst (xs.map fun (s:Nat) => V.int (s:Int)))] (H.set a (.list ((lsL m (sg ++ xs)).map nV)))) :
  wpSs (Sp 14) b14c K Qr [some c0,some c1,v2,some c3,some (.ref a),some c5,some c6,some c7,some c8,v9,v10,v11,v12,v13,some (.lst (xs.map fun (s:Nat) => V.int (s:Int)))] (H.set a (.list ((lsL m sg).map nV))) := by
 have hbig := big_eq
 unfold b14c
 refine step ?_
 dsimp only [wpSs,wpS,wpI,wpE,dz6,dz5,binW,vI_i,oget_s,frozenSeq_l]
 refine ⟨by rw [List.length_map]; lia,?_⟩
 refine for_inv (fun j l H' => H' = H.set a (.list ((lsL m (sg ++ xs.take j)).map nV))∧∃ v2,l = [some c0,some c1,v2,some c3,some (.ref a),some c5,some c6,some c7,some c8,v9,v10,v11,v12,v13,some (.lst (xs.map fun (s:Nat) => V.int (s:Int)))]) _ (k := 0) ⟨by rw [List.take_zero,List.append_nil],_,rfl⟩ ?_ ?_
 ·intro j v l H' K2 hv hI9 hK2
  refine ex0_1 hI9 fun xq7 xq8 => ?_; clear hI9
  refine ex1_0 xq8 fun v2 xq9 => ?_; clear xq8
  obtain rfl := xq7
  obtain rfl := xq9
  clear hK
  rw [List.getElem?_map] at hv
  refine ex1_1 (Option.map_eq_some_iff.mp hv) fun s es xq10 => ?_
  obtain rfl := xq10
  have hs := hs s (List.mem_of_getElem? es)
  have ll:((lsL m (sg ++ xs.take j)).map nV).length = m := by rw [List.length_map,lsL_len]
  rw [Nat.zero_add] at hK2 ⊢
  dsimp only [bindT_o,dz8,dz7,obind_s,dz6,dz5,oget_s,ixW_i,dz13]
  refine item_ref (Hp.set_self ..) (by exact Int.natCast_nonneg _) (by lia) (by lia) (fun v ev => ?_)
  rw [dz13,List.getElem?_map,lsL_get _ hs] at ev
  cases ev
  rw [nV]
  dsimp only [vI_i]
  rw [Hp.set_self]
  try dsimp only [vI_i]
  rw [Hp.set_set]
  refine ⟨⟨by exact Int.natCast_nonneg _,by lia,by lia⟩,hK2 _ _ ⟨?_,_,rfl⟩⟩
  have := lsL_set (sg ++ xs.take j) hs
  rw [List.append_assoc,← take_snoc es] at this
  rw [← this]
 ·intro l H' hI9
  refine ex0_1 hI9 fun xq11 xq12 => ?_; clear hI9
  refine ex1_0 xq12 fun v2 xq13 => ?_; clear xq12
  obtain rfl := xq11
  obtain rfl := xq13
  rw [List.length_map,Nat.zero_add,List.take_length]
  exact hK _
theorem k14 {n:Nat} (hn:14 < n) {cs:List Int} {most:Nat} {H:Hp} {Q:V→Hp→Prop} (hl:cs.length ≤ 1000) (hm:most ≤ 15) (hm1:1 ≤ most) (hu:(used cs).length < 64) (hu2:(used cs).length ≤ 2 ^ most)
  (q:∀ ls:List Nat,ls.length = cs.length→(∀ s,ls.getD s 0 ≤ most)→(∀ s,0 < ls.getD s 0 ↔ s ∈ used cs)→(2 ≤ (used cs).length→psum most (used cs) (fun s => ls.getD s 0) = 2 ^ most)→Q (.lst (ls.map nV)) H):Sp n 14 [.lst (cs.map .int),.int most] H Q := by
 rw [Sp_at hn]
 refine ⟨rfl,?_⟩
 show wpFn (Sp 14) 15 b14 [.lst (cs.map .int),.int most] H Q
 have hbig := big_eq
 have hul := used_le cs
 unfold wpFn b14
 show wpSs _ _ _ _ [some (.lst (cs.map .int)),some (.int most),none,none,none,none,none,none,none,none,none,none,none,none,none] H
 refine step ?_
 dsimp only [wpS,wpE,wpI,dz5,wpC,truthW_b,cmpW,copI,vI_i,dz11,dz12,dz2,dz3,dz4,dz8,dz7,mk,oget_s]
 refine ⟨by rw [List.length_map]; lia,?_⟩
 rw [enum_ints]
 refine comp_fm (g := fun i => if 0 < cs.getD i 0 then some (V.int (i:Int)) else none) _ _ (fun i hi => ⟨_,rfl,fun K k => ?_,fun x hx K k => ?_⟩) ?_
 ·dsimp only [dz7,dz8,dz6,dz5,oget_s,vI_i]
  by_cases h:0 < cs.getD i 0
  ·rw [decide_eq_true h]; rw [if_pos h] at k; exact k
  ·rw [decide_eq_false h]; rw [if_neg h] at k; exact k
 ·dsimp only [dz7,dz8,dz5,oget_s]
  by_cases h:0 < cs.getD i 0
  ·rw [if_pos h] at hx; cases hx; exact k
  ·rw [if_neg h] at hx; cases hx
 rw [fm_used,List.nil_append]
 refine ⟨by rw [List.length_map]; lia,step ?_⟩
 dsimp only [wpS,wpE,wpEs,dz5,dz8,dz7,mk,biW,lenW,dz13,oneV_1,oget_s,asSeq_l]
 rw [List.length_map]
 refine ⟨by lia,by lia,by rw [List.length_replicate]; lia,fun a ha => ?_⟩
 rw [lsL_nil]
 have fin:∀ sg:List Nat,(∀ s,(lsL cs.length sg).getD s 0 ≤ most)→(∀ s,0 < (lsL cs.length sg).getD s 0 ↔ s ∈ used cs)→(2 ≤ (used cs).length→psum most (used cs) (fun s => (lsL cs.length sg).getD s 0) = 2 ^ most)→∃ H',H'.le ((H.set a (.list ((lsL cs.length sg).map nV))).erase a)∧Q (.lst ((lsL cs.length sg).map nV)) H' := fun sg h1 h2 h3 => by
  rw [Hp.set_erase H a _ ha]
  exact ⟨H,Hp.le_refl _,q _ (lsL_len ..) h1 h2 h3⟩
 clear q
 have lg:∀ sg s,s < cs.length→(lsL cs.length sg).getD s 0 = sg.count s := fun sg s hs => by
  rw [List.getD_eq_getElem?_getD,lsL_get sg hs]; rfl
 have lo:∀ sg s,¬ s < cs.length→(lsL cs.length sg).getD s 0 = 0 := fun sg s hs => by
  rw [List.getD_eq_getElem?_getD,List.getElem?_eq_none (by rw [lsL_len]; exact Nat.le_of_not_lt hs)]; rfl
 refine stepK (fun G hG => ?_)
 dsimp only [wpS,wpE,wpEs,dz6,dz5,truthW_b,cmpW,copI,vI_i,biW,lenW,oneV_1,oget_s,asSeq_l]
 rw [List.length_map]
 refine ⟨by lia,?_⟩
 by_cases c1:(used cs).length = 1
 ·refine ex1_0 (List.length_eq_one_iff.mp c1) fun s es => ?_
  have hs:s ∈ used cs := by rw [es]; simp
  have hsl := (used_mem.mp hs).1
  refine dT (by exact Int.neg_inj.mp (congrArg Neg.neg (congrArg Nat.cast c1))) ?_
  refine step ?_
  dsimp only [wpS,wpE,dz6,dz5,oget_s]
  refine item_lst (by exact Int.natCast_nonneg _) (by rw [List.length_map]; lia) (by rw [List.length_map]; lia) (fun v hv => ?_)
  rw [es] at hv
  have:v = .int (s:Int) := by simpa using hv.symm
  subst this
  have st := lsL_set [] hsl
  rw [show ((([]:List Nat).count s:Int) + 1) = 1 by simp,List.nil_append] at st
  try dsimp only [vI_i]
  rw [Hp.set_self]
  dsimp only [wpSs,ixW_i,dz13]
  rw [Hp.set_set,st]
  refine ⟨⟨by exact Int.natCast_nonneg _,by rw [List.length_map,lsL_len]; exact Int.ofNat_lt.mpr hsl,by rw [List.length_map,lsL_len]; lia⟩,hG _ _ (step ?_)⟩
  clear hG
  dsimp only [wpS,wpE,wpEs,dz6,dz5,truthW_b,cmpW,copI,vI_i,biW,lenW,oneV_1,oget_s,asSeq_l]
  rw [List.length_map]
  refine ⟨by lia,?_⟩
  refine dT (by lia) ?_
  dsimp only [wpSs,wpS,wpE,dz6,dz5,oget_s]
  rw [Hp.set_self]
  refine fin [s] (fun t => ?_) (fun t => ?_) (by lia)
  ·by_cases ht:t < cs.length
   ·rw [lg _ _ ht,List.count_singleton]; split <;> lia
   ·rw [lo _ _ ht]; lia
  ·rw [es]
   by_cases ht:t < cs.length
   ·rw [lg _ _ ht,List.count_singleton]
    by_cases h:s = t
    ·subst h; simp
    ·simp [h]; lia
   ·rw [lo _ _ ht]; simp; lia
 refine dF (by lia) ?_
 refine hG _ _ (stepK (fun G2 hG2 => ?_))
 clear hG
 dsimp only [wpS,wpE,wpEs,dz6,dz5,truthW_b,cmpW,copI,vI_i,biW,lenW,oneV_1,oget_s,asSeq_l]
 rw [List.length_map]
 refine ⟨by lia,?_⟩
 by_cases c2:(used cs).length < 2
 ·refine dT (by lia) ?_
  clear hG2
  dsimp only [wpSs,wpS,wpE,dz6,dz5,oget_s]
  rw [Hp.set_self]
  have c0:used cs = [] := List.eq_nil_of_length_eq_zero (by lia)
  refine fin [] (fun t => ?_) (fun t => ?_) (by lia)
  ·by_cases ht:t < cs.length
   ·rw [lg _ _ ht]; simp
   ·rw [lo _ _ ht]; lia
  ·rw [c0]
   by_cases ht:t < cs.length
   ·rw [lg _ _ ht]; simp
   ·rw [lo _ _ ht]; simp
 refine dF (by lia) ?_
 have p2:(1:Int) * 2 ^ most = ((2 ^ most:Nat):Int) := by rw [Int.one_mul]; simp
 refine hG2 _ _ (stepK (fun G hG => ?_))
 clear hG2
 dsimp only [wpS,wpE,wpEs,dz6,dz5,truthW_b,cmpW,copI,binW,vI_i,oget_s,dz13,biW,lenW,oneV_1,asSeq_l]
 rw [List.length_map]
 refine ⟨by lia,⟨by lia,by rw [big_eq]; lia,by decide⟩,?_⟩
 refine dF (by rw [p2]; lia) ?_
 refine hG _ _ (step ?_)
 clear hG
 dsimp only [wpS,wpE,wpEs,wpI,dz6,dz5,wpC,dz11,dz12,dz1,dz2,dz3,dz4,dz8,dz7,biW,oneV_1,mk,asList_r,asList_l,obind_s,oget_s,frozenSeq_l]
 refine ⟨by rw [List.length_map]; lia,?_⟩
 refine comp_map (g := fun s => V.tup [.int (cs.getD s 0),.int (s:Int)]) _ _ (fun l K k => k) (fun s hs => ⟨_,rfl,fun K k => ?_⟩) ?_
 ·have := (used_mem.mp hs).1
  dsimp only [dz7,dz6,dz5,oget_s]
  refine item_ints (by lia) (by lia) (by lia) ?_
  exact k
 rw [List.nil_append]
 refine ⟨by rw [List.length_map]; lia,?_⟩
 refine ⟨(used cs).map fun s => (cs.getD s 0,(s:Int)),⟨?_,?_,by rw [List.length_map]; lia⟩,?_⟩
 ·rw [List.map_map]; rfl
 ·refine List.pairwise_map.mpr ((used_nodup cs).imp fun {x y} h e => h ?_)
  have := (Prod.mk.inj e).2
  lia
 have psl:(psOf cs).length = (used cs).length := by rw [(psOf_perm cs).length_eq,List.length_map]
 show wpSs _ _ _ _ [_,_,_,_,_,some (.lst ((psOf cs).map fun p => V.tup [.int p.1,.int p.2])),_,_,_,_,_,_,_,_,_] _
 refine step ?_
 dsimp only [wpS,wpE,wpI,dz6,dz5,wpEs,mk,dz9,dz10,wpC,dz11,dz12,dz2,dz3,dz4,dz8,dz7,oget_s,frozenSeq_l]
 refine ⟨by rw [List.length_map]; lia,?_⟩
 refine comp_map (ys := psOf cs) (g := fun p => itV (p.1,[p.2.toNat])) _ (fun l K k => k) (fun p hp => ⟨_,rfl,fun K k => ?_⟩) ?_
 ·refine ex1_1 (psOf_mem hp) fun s hs xq2 => ?_
  obtain rfl := xq2
  dsimp only [dz7,dz8,dz5,dz6,oget_s]
  refine ⟨by simp [big],?_⟩
  exact k
 rw [List.nil_append,show (psOf cs).map (fun p => itV (p.1,[p.2.toNat])) = (SOf cs).map itV by unfold SOf; rw [List.map_map]; rfl]
 have sl := SOf_len cs
 refine ⟨by rw [List.length_map]; lia,step ?_⟩
 generalize V.lst ((psOf cs).map fun p => V.tup [.int p.1,.int p.2]) = vp
 dsimp only [wpS,wpE,wpEs,mk,dz10,dz8,dz7]
 refine ⟨Nat.zero_le _,stepK (fun G hG => ?_)⟩
 dsimp only [wpS,wpI,wpEs,wpE,dz6,dz5,rangeW_1,oget_s,vI_i]
 refine ⟨⟨by lia,by lia⟩,?_⟩
 have rok := fun t => rowAt_ok (SOf_ok cs) t
 have rle := fun t => rowAt_len (SOf cs) t
 refine for_inv (fun t l H' => H' = H.set a (.list ((lsL cs.length []).map nV))∧∃ v2 v6 v9 v10 v11 v12 v13 v14,l = [some (.lst (cs.map .int)),some (.int most),v2,some (.lst ((used cs).map fun (s:Nat) => V.int (s:Int))),some (.ref a),some vp,v6,some (.lst ((SOf cs).map itV)),some (.lst ((rowAt (SOf cs) t).map itV)),v9,v10,v11,v12,v13,v14]) _ (k := 0) ⟨rfl,none,none,none,none,none,none,none,none,rfl⟩ ?_ ?_
 ·intro t v l H' K hv hI9 hK
  refine ex0_1 hI9 fun xq14 xq15 => ?_; clear hI9
  refine ex8_0 xq15 fun v2 v6 v9 v10 v11 v12 v13 v14 xq16 => ?_; clear xq15
  obtain rfl := xq14
  obtain rfl := xq16
  clear hG fin
  refine ex0_1 (rangeL_get hv) fun xq3 ht => ?_
  obtain rfl := xq3
  rw [Nat.zero_add] at hK ⊢
  have ht:t < most := by lia
  have hr := rle t
  refine k14_turn (by lia) (by lia) (fun x mx => ?_) (fun v10 v11 v12 v13 => hK _ _ ⟨rfl,_,_,_,_,_,_,_,_,rfl⟩)
  have lx := sgs_le mx
  have ll := (rok t).len
  have lm:t * (SOf cs).length ≤ 15 * 64 := Nat.mul_le_mul (by lia) (by lia)
  lia
 ·intro l H' hI9
  refine ex0_1 hI9 fun xq17 xq18 => ?_; clear hI9
  refine ex8_0 xq18 fun v2 v6 v9 v10 v11 v12 v13 v14 xq19 => ?_; clear xq18
  obtain rfl := xq17
  obtain rfl := xq19
  rw [rangeL_len,show 0 + ((most:Int) - 0).toNat = most by lia]
  refine hG _ _ (stepK (fun G2 hG2 => ?_))
  clear hG
  dsimp only [wpS,wpI,wpE,dz6,dz5,mk,frozenSeq_l,wpEs,binW,vI_i,biW,lenW,oneV_1,oget_s,asSeq_l,asList_l]
  refine og fun G hG => ?_
  refine ex0_4 (pm (SOf_ok cs) (m := most) (by lia) (by lia) _ rfl) fun g1 g2 g3 g4 g5 => ?_
  refine hG ?_; clear hG G
  have hr := rle most
  rw [List.length_map]
  refine ⟨by lia,⟨by lia,by lia⟩,((rowAt (SOf cs) most).take (2 * (SOf cs).length - 2)).map itV,⟨?_,by rw [List.length_map]; lia⟩,?_⟩
  ·rw [show (2 * ((used cs).length:Int) - 2) = ((2 * (SOf cs).length - 2:Nat):Int) by lia,slice_to (by lia),List.map_take]
  refine ⟨by rw [List.length_map,List.length_take]; lia,by rw [List.length_map,List.length_take]; lia,?_⟩
  generalize hR:(rowAt (SOf cs) most).take (2 * (SOf cs).length - 2) = R at *
  have hmem:∀ x ∈ R,∀ s ∈ x.2,s < cs.length := fun x hx s hs => by
   rw [← hR] at hx
   have := (rok most).mem s (sgs_mem.mpr ⟨x,List.mem_of_mem_take hx,hs⟩)
   exact (used_mem.mp ((SOf_sgs cs).mem_iff.mp this)).1
  have hlen:∀ x ∈ R,x.2.length ≤ 960 := fun x mx => by
   rw [← hR] at mx
   have := sgs_le (List.mem_of_mem_take mx)
   have := (rok most).len
   have lm:most * (SOf cs).length ≤ 15 * 64 := Nat.mul_le_mul (by lia) (by lia)
   lia
  clear hR rok rle
  generalize V.lst ((rowAt (SOf cs) most).map itV) = vr
  generalize V.lst ((SOf cs).map itV) = vs
  generalize V.lst ((used cs).map fun (s:Nat) => V.int (s:Int)) = vu
  generalize V.lst (cs.map .int) = vc
  generalize (V.int most) = vm
  refine for_inv (fun i l H' => H' = H.set a (.list ((lsL cs.length (sgs (R.take i))).map nV))∧∃ v2 v6 v14,l = [some vc,some vm,v2,some vu,some (.ref a),some vp,v6,some vs,some vr,v9,v10,v11,v12,v13,v14]) _ (k := 0) ⟨rfl,_,_,_,rfl⟩ ?_ ?_
  ·intro i v l H' K hv hI9 hK
   refine ex0_1 hI9 fun xq20 xq21 => ?_; clear hI9
   refine ex3_0 xq21 fun v2 v6 v14 xq22 => ?_; clear xq21
   obtain rfl := xq20
   obtain rfl := xq22
   rw [List.getElem?_map] at hv
   refine ex1_1 (Option.map_eq_some_iff.mp hv) fun x ex xq4 => ?_
   obtain rfl := xq4
   have mx := List.mem_of_getElem? ex
   rw [Nat.zero_add] at hK ⊢
   refine k14_count hl (hlen x mx) (hmem x mx) (fun v2 => hK _ _ ⟨?_,_,_,_,rfl⟩)
   rw [take_snoc ex,sgs_append,sgs_cons,sgs_nil,List.append_nil]
  ·intro l H' hI9
   refine ex0_1 hI9 fun xq23 xq24 => ?_; clear hI9
   refine ex3_0 xq24 fun v2 v6 v14 xq25 => ?_; clear xq24
   obtain rfl := xq23
   obtain rfl := xq25
   rw [List.length_map,Nat.zero_add,List.take_length]
   refine hG2 _ _ ?_
   dsimp only [wpSs,wpS,wpE,dz6,dz5,oget_s]
   rw [Hp.set_self]
   refine fin (sgs R) (fun s => ?_) (fun s => ?_) (fun U => ?_)
   ·by_cases ht:s < cs.length
    ·rw [lg _ _ ht]; exact g2 s
    ·rw [lo _ _ ht]; lia
   ·by_cases ht:s < cs.length
    ·rw [lg _ _ ht]
     by_cases hm:s ∈ sgs (SOf cs)
     ·exact ⟨fun U => (SOf_sgs cs).mem_iff.mp hm,fun U => g3 s hm⟩
     ·exact ⟨fun h => absurd (g4 s hm) (by lia),fun h => absurd ((SOf_sgs cs).mem_iff.mpr h) hm⟩
    ·rw [lo _ _ ht]
     exact ⟨fun h => absurd h (by lia),fun h => absurd (used_mem.mp h).1 ht⟩
   ·rw [← g5]
    have e:psum most (used cs) (fun s => (lsL cs.length (sgs R)).getD s 0) = psum most (used cs) (fun s => (sgs R).count s) := by
     unfold psum
     congr 1
     refine List.map_congr_left (fun s hs => ?_)
     show 2 ^ (most - (lsL cs.length (sgs R)).getD s 0) = _
     rw [lg _ _ (used_mem.mp hs).1]
    rw [e]
    unfold psum
    exact (((SOf_sgs cs).map _).sum_nat).symm
noncomputable def cI (ls:List Nat):List Int := ls.map fun (x:Nat) => (x:Int)
theorem cI_nV (ls:List Nat):(cI ls).map V.int = ls.map nV := by unfold cI nV; rw [List.map_map]; rfl
theorem cI_len (ls:List Nat):(cI ls).length = ls.length := by unfold cI; rw [List.length_map]
theorem cI_get (ls:List Nat) (s:Nat):(cI ls).getD s 0 = ((ls.getD s 0:Nat):Int) := by
 unfold cI
 rw [List.getD_eq_getElem?_getD,List.getElem?_map,List.getD_eq_getElem?_getD]
 cases ls[s]? <;> rfl
noncomputable def startC (ls:List Nat):Nat→Nat
 | 0 => 0
 | L + 1 => 2 * (startC ls L + if L = 0 then 0 else ls.count L)
noncomputable def codeOf (ls:List Nat) (s:Nat):Nat := startC ls (ls.getD s 0) + (ls.take s).count (ls.getD s 0)
noncomputable def ws (M:Nat) (P:Nat→Bool) (xs:List Nat):Nat := (xs.map fun x => if 0 < x∧P x = true then 2 ^ (M - x) else 0).sum
theorem ws_lt (M l:Nat) (xs:List Nat):ws M (fun x => decide (x < l + 1)) xs = ws M (fun x => decide (x < l)) xs + ws M (fun x => decide (x = l)) xs := by
 unfold ws
 induction xs with
 | nil => rfl
 | cons x r ih =>
  simp only [List.map_cons,List.sum_cons,decide_eq_true_eq] at ih ⊢
  rw [ih]
  by_cases h0:0 < x
  ·by_cases h1:x < l
   ·rw [if_pos ⟨h0,by exact Nat.lt_succ_of_lt ‹_›⟩,if_pos ⟨h0,h1⟩,if_neg (by lia)]; lia
   ·by_cases h2:x = l
    ·rw [if_pos ⟨h0,by lia⟩,if_neg (by exact not_and.mpr fun a => h1),if_pos ⟨h0,h2⟩]; lia
    ·rw [if_neg (by lia),if_neg (by exact not_and.mpr fun a => h1),if_neg (by exact not_and.mpr fun a => h2)]; lia
  ·rw [if_neg (by exact not_and.mpr fun a a_1 => h0 a),if_neg (by exact not_and.mpr fun a a_1 => h0 a),if_neg (by exact not_and.mpr fun a a_1 => h0 a)]; lia
theorem ws_eq (M l:Nat) (hl:0 < l) (xs:List Nat):ws M (fun x => decide (x = l)) xs = xs.count l * 2 ^ (M - l) := by
 unfold ws
 induction xs with
 | nil => simp
 | cons x r ih =>
  simp only [List.map_cons,List.sum_cons,decide_eq_true_eq,List.count_cons] at ih ⊢
  rw [ih]
  by_cases h:x = l
  ·subst h; rw [if_pos ⟨hl,rfl⟩]; simp [Nat.add_mul]; exact Nat.add_comm (2 ^ (M - x)) (List.count x r * 2 ^ (M - x))
  ·rw [if_neg (by exact not_and.mpr fun a => h)]; simp [h]
theorem ws_zero (M:Nat) (xs:List Nat):ws M (fun x => decide (x = 0)) xs = 0 := by
 unfold ws
 induction xs with
 | nil => rfl
 | cons x r ih =>
  simp only [List.map_cons,List.sum_cons,decide_eq_true_eq] at ih ⊢
  rw [ih,if_neg (by lia)]
theorem ws_none (M:Nat) (xs:List Nat):ws M (fun x => decide (x < 0)) xs = 0 := by
 unfold ws
 induction xs with
 | nil => rfl
 | cons x r ih =>
  simp only [List.map_cons,List.sum_cons,decide_eq_true_eq] at ih ⊢
  rw [ih,if_neg (by lia)]
theorem startC_ws (ls:List Nat) (M:Nat):∀ l,l ≤ M→startC ls l * 2 ^ (M - l) = ws M (fun x => decide (x < l)) ls
 | 0,_ => by rw [ws_none]; simp [startC]
 | l + 1,h => by
  have ih := startC_ws ls M l (by exact Nat.le_of_lt ‹_›)
  rw [ws_lt,← ih,startC]
  have e:M - l = M - (l + 1) + 1 := by lia
  by_cases h0:l = 0
  ·rw [if_pos h0,h0,ws_zero,Nat.add_zero,Nat.add_zero]
   rw [h0] at e
   rw [e,Nat.pow_succ,Nat.mul_comm 2,Nat.mul_assoc,Nat.mul_comm 2]; simp
  ·rw [if_neg h0,ws_eq _ _ (by exact Nat.pos_of_ne_zero ‹_›),← Nat.add_mul,e,Nat.pow_succ,Nat.mul_comm 2,Nat.mul_assoc,Nat.mul_comm 2]
theorem sum_filter {α:Type} (p:α→Bool) (f:α→Nat):∀ l:List α,((l.filter p).map f).sum = (l.map fun x => if p x = true then f x else 0).sum
 | [] => rfl
 | x :: r => by
  rw [List.filter_cons,List.map_cons,List.sum_cons,← sum_filter p f r]
  by_cases h:p x = true
  ·rw [if_pos h,if_pos h,List.map_cons,List.sum_cons]
  ·rw [if_neg h,if_neg h,Nat.zero_add]
theorem sum_add {α:Type} (f g:α→Nat):∀ l:List α,(l.map fun x => f x + g x).sum = (l.map f).sum + (l.map g).sum
 | [] => rfl
 | x :: r => by rw [List.map_cons,List.sum_cons,sum_add f g r,List.map_cons,List.sum_cons,List.map_cons,List.sum_cons]; exact Nat.add_add_add_comm (f x) (g x) (List.map f r).sum (List.map g r).sum
theorem range_take (g:Nat→Nat):∀ (ls:List Nat) (s:Nat),((List.range ls.length).map fun j => if j < s then g (ls.getD j 0) else 0).sum = ((ls.take s).map g).sum
 | [],s => by simp
 | x :: r,0 => by
  rw [List.take_zero]
  induction (List.range (x :: r).length) with
  | nil => rfl
  | cons a b ih => rw [List.map_cons,List.sum_cons,ih]; rfl
 | x :: r,s + 1 => by
  rw [List.length_cons,List.range_succ_eq_map,List.map_cons,List.sum_cons,List.map_map,List.take_succ_cons,List.map_cons,List.sum_cons,← range_take g r s,if_pos (by exact Nat.succ_pos _)]
  congr 2
  refine List.map_congr_left (fun j U => ?_)
  show (if j + 1 < s + 1 then g ((x :: r).getD (j + 1) 0) else 0) = _
  rw [List.getD_cons_succ]
  by_cases h:j < s
  ·rw [if_pos h,if_pos (by exact Nat.add_lt_add_right h 1)]
  ·rw [if_neg h,if_neg (by lia)]
noncomputable def wt (M:Nat) (p:Int × Int):Nat := 2 ^ (M - p.1.toNat)
theorem psOf_strict (cs:List Int):(psOf cs).Pairwise (fun q p => ltQ q p = true) := by
 have h1:(psOf cs).Pairwise (fun a b => leP a b = true) := List.pairwise_mergeSort (le := leP) (fun a b c => leP_trans) leP_total _
 have h2:(psOf cs).Nodup := (psOf_perm cs).nodup_iff.mpr (List.pairwise_map.mpr ((used_nodup cs).imp fun {x y} h e => h (by
  have := (Prod.mk.inj e).2
  exact Int.ofNat_inj.mp this)))
 exact (h1.and h2).imp fun {a b} h => le_ltQ h.2 h.1
theorem strict_take {p:Int × Int}:∀ {ps:List (Int × Int)} {k:Nat},ps.Pairwise (fun q p => ltQ q p = true)→ps[k]? = some p→ps.filter (fun q => ltQ q p) = ps.take k
 | [],k,h,e => by simp at e
 | x :: r,0,h,e => by
  have:x = p := by simpa using e
  subst this
  have h1 := List.pairwise_cons.mp h
  rw [List.take_zero,List.filter_cons,if_neg (by rw [ltQ_irrefl]; exact Bool.false_ne_true)]
  refine List.filter_eq_nil_iff.mpr fun q hq => ?_
  rw [ltQ_asymm (h1.1 q hq)]; exact Bool.false_ne_true
 | x :: r,k + 1,h,e => by
  have h1 := List.pairwise_cons.mp h
  have e':r[k]? = some p := by simpa using e
  have := h1.1 p (List.mem_of_getElem? e')
  rw [List.take_succ_cons,List.filter_cons,if_pos this,strict_take h1.2 e']
noncomputable def posn (M:Nat) (cs:List Int) (k:Nat):Nat := (((psOf cs).take k).map (wt M)).sum
theorem posn_code {M:Nat} {ls:List Nat} (hM:∀ s,ls.getD s 0 ≤ M) {k:Nat} {p:Int × Int} (e:(psOf (cI ls))[k]? = some p):posn M (cI ls) k = codeOf ls p.2.toNat * 2 ^ (M - p.1.toNat) := by
 refine ex1_1 (psOf_mem (List.mem_of_getElem? e)) fun s hs xq1 => ?_
 obtain rfl := xq1
 rw [cI_get] at e ⊢
 have hp := (used_mem.mp hs).2
 rw [cI_get] at hp
 have hsl := (used_mem.mp hs).1
 rw [cI_len] at hsl
 unfold posn
 rw [← strict_take (psOf_strict (cI ls)) e]
 rw [((((psOf_perm (cI ls)).filter _).map (wt M)).sum_nat)]
 rw [sum_filter,List.map_map]
 unfold used
 rw [sum_filter,cI_len]
 simp only [Int.toNat_natCast]
 generalize hl:ls.getD s 0 = l at *
 have step:∀ j,(if decide (0 < (cI ls).getD j 0) = true then ((fun x => if ltQ x (↑l,↑s) = true then wt M x else 0) ∘ fun (s:Nat) => ((cI ls).getD s 0,(s:Int))) j else 0) = (if j < ls.length then (if 0 < ls.getD j 0∧decide (ls.getD j 0 < l) = true then 2 ^ (M - ls.getD j 0) else 0) else 0) + (if j < s then (if 0 < ls.getD j 0∧decide (ls.getD j 0 = l) = true then 2 ^ (M - ls.getD j 0) else 0) else 0) := by
  intro j
  show (if _ then (if ltQ ((cI ls).getD j 0,(j:Int)) (↑l,↑s) = true then wt M ((cI ls).getD j 0,(j:Int)) else 0) else 0) = _
  rw [cI_get]
  unfold ltQ wt
  simp only [decide_eq_true_eq,Int.toNat_natCast]
  by_cases hj:j < ls.length
  ·generalize ls.getD j 0 = x
   by_cases h0:0 < x
   ·rw [if_pos (by exact Int.natCast_pos.mpr h0),if_pos hj]
    by_cases h1:x < l
    ·rw [if_pos (by lia),if_pos (by exact ⟨h0,h1⟩)]
     by_cases h2:j < s
     ·rw [if_pos h2,if_neg (by lia)]; rfl
     ·rw [if_neg h2]; rfl
    ·rw [if_neg (c := 0 < x∧x < l) (by exact not_and.mpr fun a => h1)]
     by_cases h2:j < s
     ·rw [if_pos h2]
      by_cases h3:x = l
      ·rw [if_pos (by lia),if_pos (by exact And.symm ⟨h3,h0⟩)]; exact Eq.symm (Nat.zero_add (2 ^ (M - x)))
      ·rw [if_neg (by lia),if_neg (by lia)]
     ·rw [if_neg h2,if_neg (by lia)]
   ·rw [if_neg (by lia),if_pos hj,if_neg (by lia)]
    by_cases h2:j < s
    ·rw [if_pos h2,if_neg (by lia)]
    ·rw [if_neg h2]
  ·have z:ls.getD j 0 = 0 := by rw [List.getD_eq_getElem?_getD,List.getElem?_eq_none (by exact Nat.le_of_not_lt hj)]; rfl
   rw [z,if_neg (by exact Int.lt_irrefl 0),if_neg hj,if_neg (by lia)]
 rw [List.map_congr_left (fun j U => step j),sum_add,range_take (fun x => if 0 < x∧decide (x < l) = true then 2 ^ (M - x) else 0),range_take (fun x => if 0 < x∧decide (x = l) = true then 2 ^ (M - x) else 0),List.take_length]
 show ws M (fun x => decide (x < l)) ls + ws M (fun x => decide (x = l)) (ls.take s) = _
 rw [← startC_ws ls M l (by rw [← hl]; exact hM s),ws_eq _ _ (by exact Int.natCast_pos.mp hp),← Nat.add_mul]
 unfold codeOf
 rw [hl]
theorem posn_succ {M:Nat} {cs:List Int} {k:Nat} {p:Int × Int} (e:(psOf cs)[k]? = some p):posn M cs (k + 1) = posn M cs k + wt M p := by
 unfold posn
 rw [take_snoc e,List.map_append,List.sum_append]; rfl
theorem posn_mono {M:Nat} {cs:List Int} (k:Nat):∀ d,posn M cs k ≤ posn M cs (k + d)
 | 0 => Nat.le_refl _
 | d + 1 => by
  have := posn_mono (M := M) (cs := cs) k d
  cases e:(psOf cs)[k + d]? with
  | none =>
   refine Nat.le_trans this ?_
   unfold posn
   have := List.getElem?_eq_none_iff.mp e
   rw [List.take_of_length_le this,List.take_of_length_le (by exact Nat.le_succ_of_le this)]; exact Nat.le_refl _
  | some p =>
   have := posn_succ (M := M) e
   rw [← Nat.add_assoc]; lia
structure LOk (M:Nat) (ls:List Nat):Prop where
 le:∀ s,ls.getD s 0 ≤ M
 kr:psum M (used (cI ls)) (fun s => ls.getD s 0) ≤ 2 ^ M
theorem posn_all {M:Nat} (ls:List Nat):posn M (cI ls) (psOf (cI ls)).length = psum M (used (cI ls)) (fun s => ls.getD s 0) := by
 unfold posn psum
 rw [List.take_length,(((psOf_perm (cI ls)).map (wt M)).sum_nat),List.map_map]
 congr 1
 refine List.map_congr_left (fun s U => ?_)
 show wt M ((cI ls).getD s 0,(s:Int)) = _
 rw [cI_get]; rfl
theorem posn_le {M:Nat} {ls:List Nat} (h:LOk M ls) {k:Nat} {p:Int × Int} (e:(psOf (cI ls))[k]? = some p):posn M (cI ls) k + wt M p ≤ 2 ^ M := by
 have h1 := posn_succ (M := M) e
 have hk := (List.getElem?_eq_some_iff.mp e).1
 have h2 := posn_mono (M := M) (cs := cI ls) (k + 1) ((psOf (cI ls)).length - (k + 1))
 rw [show k + 1 + ((psOf (cI ls)).length - (k + 1)) = (psOf (cI ls)).length by exact Nat.add_sub_of_le hk,posn_all] at h2
 have := h.kr
 lia
theorem used_cI {ls:List Nat} {s:Nat}:s ∈ used (cI ls) ↔ 0 < ls.getD s 0 := by
 rw [used_mem,cI_get,cI_len]
 constructor
 ·intro h; lia
 ·intro h
  refine ⟨?_,by exact Int.natCast_pos.mpr h⟩
  by_cases q:s < ls.length
  ·exact q
  ·rw [List.getD_eq_getElem?_getD,List.getElem?_eq_none (by exact Nat.le_of_not_lt q)] at h
   exact absurd h (by simp)
theorem ps_of {ls:List Nat} {k:Nat} {p:Int × Int} (e:(psOf (cI ls))[k]? = some p):0 < ls.getD p.2.toNat 0∧p = (((ls.getD p.2.toNat 0:Nat):Int),(p.2.toNat:Int)) := by
 refine ex1_1 (psOf_mem (List.mem_of_getElem? e)) fun s hs xq1 => ?_
 obtain rfl := xq1
 rw [cI_get]
 exact ⟨used_cI.mp hs,rfl⟩
theorem ps_at {ls:List Nat} {s:Nat} (h:0 < ls.getD s 0):∃ k:Nat,(psOf (cI ls))[k]? = some (((ls.getD s 0:Nat):Int),(s:Int)) := by
 have:(((ls.getD s 0:Nat):Int),(s:Int)) ∈ psOf (cI ls) := (psOf_perm _).mem_iff.mpr (List.mem_map.mpr ⟨s,used_cI.mpr h,by rw [cI_get]⟩)
 exact List.mem_iff_getElem?.mp this
theorem code_lt {M:Nat} {ls:List Nat} (h:LOk M ls) {s:Nat} (hs:0 < ls.getD s 0):codeOf ls s < 2 ^ ls.getD s 0 := by
 refine ex1_0 (ps_at hs) fun k e => ?_
 have h1 := posn_le h e
 rw [posn_code h.le e] at h1
 simp only [wt,Int.toNat_natCast] at h1
 have hl := h.le s
 have e2:2 ^ M = 2 ^ ls.getD s 0 * 2 ^ (M - ls.getD s 0) := by rw [← Nat.pow_add]; congr 1; exact Eq.symm (Nat.add_sub_of_le hl)
 rw [e2,← Nat.succ_mul] at h1
 exact Nat.le_of_mul_le_mul_right h1 (Nat.pow_pos (by exact Nat.zero_lt_two))
theorem code_ord {M:Nat} {ls:List Nat} (h:LOk M ls) {k k':Nat} {p p':Int × Int} (e:(psOf (cI ls))[k]? = some p) (e':(psOf (cI ls))[k']? = some p') (hk:k < k'):(codeOf ls p.2.toNat + 1) * 2 ^ (M - p.1.toNat) ≤ codeOf ls p'.2.toNat * 2 ^ (M - p'.1.toNat) := by
 have h1 := posn_succ (M := M) e
 have h2 := posn_mono (M := M) (cs := cI ls) (k + 1) (k' - (k + 1))
 rw [show k + 1 + (k' - (k + 1)) = k' by exact Nat.add_sub_of_le hk,h1,posn_code h.le e,posn_code h.le e'] at h2
 unfold wt at h2
 rw [Nat.add_mul,Nat.one_mul]; exact h2
noncomputable def treeOf (ls:List Nat):List (List Int × Int) := (psOf (cI ls)).map fun p => ([p.1,(codeOf ls p.2.toNat:Int)],p.2)
theorem lk_mem {es:List (List Int × Int)} {k:List Int} {v:Int} (hm:(k,v) ∈ es) (hu:∀ w,(k,w) ∈ es→w = v):es.lookup k = some v := by
 induction es with
 | nil => simp at hm
 | cons x r ih =>
  obtain ⟨a,b⟩ := x
  rw [List.lookup_cons]
  by_cases q:k = a
  ·subst q
   have := hu b (by simp)
   simp [this]
  ·have hne:(k == a) = false := by simpa using q
   rw [hne]
   refine ih ?_ (fun w hw => hu w (by simp [hw]))
   rcases List.mem_cons.mp hm with e | e
   ·exact absurd (Prod.mk.inj e).1 q
   ·exact e
theorem lk_no {es:List (List Int × Int)} {k:List Int} (hu:∀ w,(k,w) ∉ es):es.lookup k = none := by
 induction es with
 | nil => rfl
 | cons x r ih =>
  obtain ⟨a,b⟩ := x
  rw [List.lookup_cons]
  have hne:(k == a) = false := by
   by_cases q:k = a
   ·exact absurd (by simp [q]) (hu b)
   ·simpa using q
  rw [hne]
  exact ih (fun w hw => hu w (by simp [hw]))
theorem tree_mem {ls:List Nat} {k:List Int} {v:Int} (h:(k,v) ∈ treeOf ls):∃ (i:Nat) (p:Int × Int),(psOf (cI ls))[i]? = some p∧k = [p.1,(codeOf ls p.2.toNat:Int)]∧v = p.2 := by
 refine ex1_1 (List.mem_map.mp h) fun p hp e => ?_
 refine ex1_0 (List.mem_iff_getElem?.mp hp) fun i hi => ?_
 exact ⟨i,p,hi,(Prod.mk.inj e).1.symm,(Prod.mk.inj e).2.symm⟩
theorem key_ne {M:Nat} {ls:List Nat} (h:LOk M ls) {k k':Nat} {p p':Int × Int} (e:(psOf (cI ls))[k]? = some p) (e':(psOf (cI ls))[k']? = some p') (hk:k < k'):([p.1,(codeOf ls p.2.toNat:Int)]:List Int) ≠ [p'.1,(codeOf ls p'.2.toNat:Int)] := by
 intro q
 have q1:p.1 = p'.1 := by simpa using (List.cons.inj q).1
 have q2:(codeOf ls p.2.toNat:Int) = codeOf ls p'.2.toNat := by simpa using (List.cons.inj (List.cons.inj q).2).1
 have := code_ord h e e' hk
 rw [q1,show codeOf ls p.2.toNat = codeOf ls p'.2.toNat by exact Int.ofNat_inj.mp q2,Nat.add_mul,Nat.one_mul] at this
 have:0 < 2 ^ (M - p'.1.toNat) := Nat.pow_pos (by exact Nat.zero_lt_two)
 lia
theorem tree_hit {M:Nat} {ls:List Nat} (h:LOk M ls) {s:Nat} (hs:0 < ls.getD s 0):(treeOf ls).lookup [((ls.getD s 0:Nat):Int),(codeOf ls s:Int)] = some (s:Int) := by
 refine ex1_0 (ps_at hs) fun k e => ?_
 refine lk_mem ?_ (fun w hw => ?_)
 ·exact List.mem_map.mpr ⟨_,List.mem_of_getElem? e,by simp⟩
 ·refine ex2_2 (tree_mem hw) fun i p e' e1 e2 => ?_
  rcases Nat.lt_trichotomy k i with q | q | q
  ·exact absurd (by simpa using e1) (key_ne h e e' q)
  ·subst q
   rw [e] at e'; cases e'
   exact e2
  ·exact absurd (by simpa using e1.symm) (key_ne h e' e q)
theorem tree_miss {M:Nat} {ls:List Nat} (h:LOk M ls) {s m:Nat} (hs:0 < ls.getD s 0) (hm:m < ls.getD s 0):(treeOf ls).lookup [(m:Int),((codeOf ls s / 2 ^ (ls.getD s 0 - m):Nat):Int)] = none := by
 refine ex1_0 (ps_at hs) fun k e => ?_
 refine lk_no (fun w hw => ?_)
 refine ex2_2 (tree_mem hw) fun i p e' e1 e2 => ?_
 have q1:p.1 = (m:Int) := by simpa using (List.cons.inj e1).1.symm
 have q2:codeOf ls p.2.toNat = codeOf ls s / 2 ^ (ls.getD s 0 - m) := by
  have := (List.cons.inj (List.cons.inj e1).2).1
  exact Int.ofNat_inj.mp (id (Eq.symm this))
 by_cases q:i < k
 ·have := code_ord h e' e q
  rw [q1] at this
  simp only [Int.toNat_natCast] at this
  have hl := h.le s
  have e2:2 ^ (M - m) = 2 ^ (ls.getD s 0 - m) * 2 ^ (M - ls.getD s 0) := by rw [← Nat.pow_add]; congr 1; exact sub_two (Nat.le_of_lt hm) hl
  rw [e2,← Nat.mul_assoc] at this
  have := Nat.le_of_mul_le_mul_right this (Nat.pow_pos (by exact Nat.zero_lt_two))
  have := (Nat.le_div_iff_mul_le (Nat.pow_pos (by exact Nat.zero_lt_two))).mpr this
  lia
 ·by_cases qe:i = k
  ·subst qe
   rw [e] at e'; cases e'
   have q3:((ls.getD s 0:Nat):Int) = (m:Int) := q1
   omega
  ·have hi := (List.getElem?_eq_some_iff.mp e').1
   have hk := (List.getElem?_eq_some_iff.mp e).1
   have := List.pairwise_iff_getElem.mp (psOf_strict (cI ls)) k i hk hi (by lia)
   rw [(List.getElem?_eq_some_iff.mp e).2,(List.getElem?_eq_some_iff.mp e').2] at this
   have := leP_fst (ltQ_le this)
   omega
noncomputable def mkL (m:Nat) (f:Nat→Nat):List V := (List.range m).map fun L => nV (f L)
theorem mkL_len (m:Nat) (f:Nat→Nat):(mkL m f).length = m := by simp [mkL]
theorem mkL_get {m s:Nat} (f:Nat→Nat) (h:s < m):(mkL m f)[s]? = some (nV (f s)) := by
 unfold mkL; rw [List.getElem?_map,List.getElem?_range h]; rfl
theorem mkL_ext {m:Nat} {f g:Nat→Nat} (h:∀ s,s < m→f s = g s):mkL m f = mkL m g :=
 List.map_congr_left (fun s hs => by rw [h s (List.mem_range.mp hs)])
theorem mkL_set {m s v:Nat} {f g:Nat→Nat} (h:s < m) (hg:∀ i,i < m→g i = if i = s then v else f i):(mkL m f).set s (nV v) = mkL m g := by
 apply List.ext_getElem?
 intro i
 rw [List.getElem?_set,mkL_len]
 by_cases hi:i < m
 ·rw [mkL_get g hi,mkL_get f hi,hg i hi]
  by_cases e:s = i
  ·subst e; rw [if_pos rfl,if_pos h,if_pos rfl]
  ·rw [if_neg e,if_neg (fun q => e q.symm)]
 ·rw [if_neg (by lia),List.getElem?_eq_none (by rw [mkL_len]; exact Nat.le_of_not_lt hi),List.getElem?_eq_none (by rw [mkL_len]; exact Nat.le_of_not_lt hi)]
theorem mkL_zero (m:Nat):List.replicate m (V.int 0) = mkL m (fun U => 0) := by
 apply List.ext_getElem?
 intro i
 rw [List.getElem?_replicate]
 by_cases h:i < m
 ·rw [if_pos h,mkL_get _ h]; rfl
 ·rw [if_neg h,List.getElem?_eq_none (by rw [mkL_len]; exact Nat.le_of_not_lt h)]
noncomputable def codN (ls:List Nat) (s:Nat):Nat := if ls.getD s 0 = 0 then 0 else codeOf ls s
noncomputable def cntP (xs:List Nat) (L:Nat):Nat := if L = 0 then 0 else xs.count L
theorem intsOf_nV (ls:List Nat):intsOf (ls.map nV) = some (cI ls) := by
 induction ls with
 | nil => rfl
 | cons x r ih => rw [List.map_cons]; show (intsOf (r.map nV)).map _ = _; rw [ih]; rfl
theorem foldl_max:∀ (r:List Int) (a:Int),a ≤ r.foldl max a∧(∀ x ∈ r,x ≤ r.foldl max a)∧(r.foldl max a = a ∨ r.foldl max a ∈ r)
 | [],a => ⟨Int.le_refl _,by simp,.inl rfl⟩
 | b :: r,a => by
  refine ex0_2 (foldl_max r (max a b)) fun h1 h2 h3 => ?_
  rw [List.foldl_cons]
  refine ⟨by lia,fun x hx => ?_,?_⟩
  ·rcases List.mem_cons.mp hx with rfl | hx
   ·lia
   ·exact h2 x hx
  ·rcases h3 with h3 | h3
   ·rw [h3]
    by_cases q:a ≤ b
    ·exact .inr (by rw [show max a b = b by exact Int.max_eq_right q]; simp)
    ·exact .inl (by lia)
   ·exact .inr (by simp [h3])
theorem maxL_of (ls:List Nat) (h:ls ≠ []):∃ m:Nat,maxL (cI ls) = some (m:Int)∧(∀ x ∈ ls,x ≤ m)∧m ∈ ls := by
 cases ls with
 | nil => exact absurd rfl h
 | cons a r =>
  refine ex0_2 (foldl_max (cI r) a) fun h1 h2 h3 => ?_
  have hm:∃ m:Nat,(cI r).foldl max (a:Int) = (m:Int)∧m ∈ a :: r := by
   rcases h3 with h3 | h3
   ·exact ⟨a,h3,by simp⟩
   ·refine ex1_1 (List.mem_map.mp h3) fun y hy e => ?_
    exact ⟨y,e.symm,by simp [hy]⟩
  refine ex1_1 hm fun m e hmem => ?_; clear hm
  refine ⟨m,?_,fun x hx => ?_,hmem⟩
  ·exact congrArg some e
  ·rw [e] at h1 h2
   rcases List.mem_cons.mp hx with rfl | hx
   ·exact Int.ofNat_le.mp h1
   ·have := h2 x (List.mem_map.mpr ⟨x,hx,rfl⟩)
    exact Int.ofNat_le.mp this
theorem startC_le (ls:List Nat) (N:Nat) (hN:ls.length ≤ N):∀ L,startC ls L + 2 * N ≤ 2 ^ (L + 1) * N
 | 0 => by simp [startC]
 | L + 1 => by
  have ih := startC_le ls N hN L
  have hc := List.count_le_length (a := L) (l := ls)
  have h1:(if L = 0 then 0 else ls.count L) ≤ N := by split <;> lia
  rw [startC,Nat.pow_succ,Nat.mul_comm (2 ^ (L + 1)),Nat.mul_assoc]
  lia
theorem plains_nV (ls:List Nat):V.plains (ls.map nV) = true := by
 unfold V.plains; rw [List.all_map]; exact List.all_eq_true.mpr fun x U => rfl
theorem Hp.le_set {H:Hp} {a:Addr} {c:Cell} (h:H a = none):H.le (H.set a c) := fun b o e => by
 rw [Hp.set_ne _ _ (fun q => by subst q; rw [h] at e; cases e)]; exact e
theorem mkL_succ (m:Nat) (f:Nat→Nat):mkL (m + 1) f = mkL m f ++ [nV (f m)] := by
 unfold mkL; rw [List.range_succ,List.map_append]; rfl
theorem ne_of_none {H:Hp} {a b:Addr} {c:Cell} (h:H.set a c b = none):b ≠ a∧H b = none := by
 have:b ≠ a := fun e => by subst e; rw [Hp.set_self] at h; cases h
 exact ⟨this,by rwa [Hp.set_ne _ _ this] at h⟩
noncomputable def b15a:MS := .forr (.one 2) (.seq false (.loc 0)) (.cons (.ite (.cmp .gt (.loc 2) (.cint 0)) (.cons (.setI (.loc 1) (.loc 2) (.bin .add (.item (.loc 1) (.loc 2)) (.cint 1))) .nil) .nil) .nil)
noncomputable def b15b:MS := .forr (.one 2) (.range (.cons (.cint 1) (.cons (.bi .len (.cons (.loc 1) .nil)) .nil)))
  (.cons (.asg 4 (.bin .shl (.bin .add (.loc 4) (.ite (.cmp .gt (.loc 2) (.cint 1)) (.item (.loc 1) (.bin .sub (.loc 2) (.cint 1))) (.cint 0))) (.cint 1))) (.cons (.setI (.loc 3) (.loc 2) (.loc 4)) .nil))
noncomputable def b15c:MS := .forr (.one 2) (.seq false (.loc 0)) (.cons (.ite (.cmp .eq (.loc 2) (.cint 0)) (.cons (.expr (.append (.loc 5) (.cint 0))) .nil)
  (.cons (.expr (.append (.loc 5) (.item (.loc 3) (.loc 2)))) (.cons (.setI (.loc 3) (.loc 2) (.bin .add (.item (.loc 3) (.loc 2)) (.cint 1))) .nil))) .nil)
theorem cnt_take {ls:List Nat} {i x:Nat} (ex:ls[i]? = some x) (j:Nat):cntP (ls.take (i + 1)) j = if j = x∧j ≠ 0 then cntP (ls.take i) j + 1 else cntP (ls.take i) j := by
 unfold cntP
 rw [take_snoc ex,List.count_append,List.count_singleton]
 by_cases h0:j = 0
 ·rw [if_pos h0,if_neg (fun e => e.2 h0),if_pos h0]
 ·rw [if_neg h0,if_neg h0]
  by_cases h1:j = x
  ·rw [if_pos (c := j = x∧j ≠ 0) ⟨h1,h0⟩,if_pos (by rw [h1]; exact beq_self_eq_true x)]
  ·rw [if_neg (c := j = x∧j ≠ 0) (fun e => h1 e.1),if_neg (fun e => h1 (eq_of_beq e).symm)]; rfl
theorem k15_a {ls:List Nat} {N:Nat} {H:Hp} {a:Addr} {v2 v3 v4 v5:Option V} {K:Loc→Hp→Prop} {Qr:V→Hp→Prop} (hl:ls.length ≤ 1000) (hN:N ≤ 100) (hx:∀ x ∈ ls,x < N)
  (hK:∀ v2,K [some (.lst (ls.map nV)),some (.ref a),v2,v3,v4,v5] (H.set a (.list (mkL N (cntP ls))))) :
  wpS (Sp 15) b15a K Qr [some (.lst (ls.map nV)),some (.ref a),v2,v3,v4,v5] (H.set a (.list (mkL N fun U => 0))) := by
 have hbig := big_eq
 unfold b15a
 dsimp only [wpS,wpI,wpE,dz5,oget_s,frozenSeq_l]
 refine ⟨by rw [List.length_map]; lia,?_⟩
 refine for_inv (fun i l H' => H' = H.set a (.list (mkL N (cntP (ls.take i))))∧∃ v,l = [some (.lst (ls.map nV)),some (.ref a),v,v3,v4,v5]) _ (k := 0) ⟨by rw [mkL_ext (g := cntP (ls.take 0)) (fun s U => by simp [cntP])],v2,rfl⟩ ?_ ?_
 ·intro i v l H' K hv hI9 hK
  refine ex0_1 hI9 fun xq1 xq2 => ?_; clear hI9
  refine ex1_0 xq2 fun v2 xq3 => ?_; clear xq2
  obtain rfl := xq1
  obtain rfl := xq3
  rw [List.getElem?_map] at hv
  refine ex1_1 (Option.map_eq_some_iff.mp hv) fun x ex xq1 => ?_
  obtain rfl := xq1
  have hx := hx x (List.mem_of_getElem? ex)
  rw [Nat.zero_add] at hK ⊢
  refine stepK (fun G hG => ?_)
  rw [nV]
  dsimp only [dz8,dz7,wpS,wpE,dz6,dz5,truthW_b,cmpW,copI,vI_i,oget_s]
  by_cases h:0 < x
  ·refine dT (by exact Int.natCast_pos.mpr h) ?_
   refine step ?_
   dsimp only [wpS,wpE,dz6,dz5,oget_s,ixW_i,dz13,binW,vI_i]
   refine item_ref (Hp.set_self ..) (by exact Int.natCast_nonneg _) (by rw [mkL_len]; exact Int.ofNat_lt.mpr hx) (by rw [mkL_len]; lia) (fun v ev => ?_)
   rw [dz13,mkL_get _ hx] at ev
   cases ev
   rw [nV]
   dsimp only [wpSs,vI_i]
   rw [Hp.set_self]
   try dsimp only [vI_i]
   refine ⟨⟨by exact Int.natCast_nonneg _,by rw [mkL_len]; lia,by rw [mkL_len]; lia⟩,hG _ _ (hK _ _ ⟨?_,_,rfl⟩)⟩
   rw [Hp.set_set,show ((cntP (ls.take i) x:Int) + 1) = ((cntP (ls.take i) x + 1:Nat):Int) by exact Int.ofNat_add_one_out (cntP (List.take i ls) x)]
   show H.set a (.list ((mkL N (cntP (ls.take i))).set x (nV _))) = _
   rw [mkL_set (g := cntP (ls.take (i + 1))) hx (fun j hj => ?_)]
   rw [cnt_take ex]
   by_cases h1:j = x
   ·rw [if_pos h1,if_pos ⟨h1,by lia⟩,h1]
   ·rw [if_neg h1,if_neg (fun e => h1 e.1)]
  ·refine dF (by lia) ?_
   refine hG _ _ (hK _ _ ⟨?_,_,rfl⟩)
   rw [mkL_ext (g := cntP (ls.take (i + 1))) (fun j hj => ?_)]
   rw [cnt_take ex,if_neg (by lia)]
 ·intro l H' hI9
  refine ex0_1 hI9 fun xq4 xq5 => ?_; clear hI9
  refine ex1_0 xq5 fun v2 xq6 => ?_; clear xq5
  obtain rfl := xq4
  obtain rfl := xq6
  rw [List.length_map,Nat.zero_add,List.take_length]
  exact hK _
theorem k15_b {ls:List Nat} {N:Nat} {H:Hp} {a b:Addr} {c0:V} {v2 v5:Option V} {K:Loc→Hp→Prop} {Qr:V→Hp→Prop} (hl:ls.length ≤ 1000) (hN:N ≤ 17) (h1N:1 ≤ N) (hab:a ≠ b) (ha:H a = some (.list (mkL N (cntP ls))))
  (hK:∀ v2 v4,K [some c0,some (.ref a),v2,some (.ref b),v4,v5] (H.set b (.list (mkL N (startC ls))))) :
  wpS (Sp 15) b15b K Qr [some c0,some (.ref a),v2,some (.ref b),some (.int 0),v5] (H.set b (.list (mkL N fun U => 0))) := by
 have hbig := big_eq
 unfold b15b
 dsimp only [wpS,wpI,wpEs,wpE,dz6,dz5,rangeW_2,vI_i,biW,lenW,oneV_1,oget_s,asSeq_r,asList_r]
 rw [Hp.set_ne _ _ hab,ha]
 try dsimp only [vI_i]
 rw [mkL_len]
 refine ⟨by lia,⟨⟨by decide,by decide⟩,by exact Int.neg_ofNat_le_natCast 400000 N,by lia⟩,?_⟩
 refine for_inv (fun i l H' => H' = H.set b (.list (mkL N (fun L => if L ≤ i then startC ls L else 0)))∧∃ v,l = [some c0,some (.ref a),v,some (.ref b),some (.int (startC ls i)),v5]) _ (k := 0) ⟨by
  rw [mkL_ext (f := fun U => 0) (g := fun L => if L ≤ 0 then startC ls L else 0) (fun s U => by
   by_cases h:s ≤ 0
   ·rw [if_pos h,show s = 0 by exact Nat.eq_zero_of_le_zero h]; rfl
   ·rw [if_neg h])],v2,rfl⟩ ?_ ?_
 ·intro i v l H' K hv hI9 hK
  refine ex0_1 hI9 fun xq7 xq8 => ?_; clear hI9
  refine ex1_0 xq8 fun v2 xq9 => ?_; clear xq8
  obtain rfl := xq7
  obtain rfl := xq9
  refine ex0_1 (rangeL_get hv) fun xq10 hi => ?_
  obtain rfl := xq10
  rw [Nat.zero_add] at hK ⊢
  have hb1 := startC_le ls 1000 hl i
  have hb2:2 ^ (i + 1) ≤ 2 ^ 17 := Nat.pow_le_pow_right (by exact Nat.zero_lt_two) (by lia)
  have hb3:cntP ls i ≤ 1000 := by
   unfold cntP; split
   ·exact Nat.zero_le 1000
   ·have := List.count_le_length (a := i) (l := ls); exact Nat.le_trans this hl
  have hb4:2 ^ (i + 1) * 1000 ≤ 2 ^ 17 * 1000 := Nat.mul_le_mul_right _ hb2
  refine stepK (fun G hG => ?_)
  dsimp only [dz8,dz7,wpS,wpE,dz6,dz5,binW,vI_i,oget_s,truthW_b,cmpW,copI]
  suffices g:∀ c:Nat,c = cntP ls i→((startC ls i:Int) + c).natAbs < 2 ^ 62∧G [some c0,some (.ref a),some (.int (1 + (i:Int))),some (.ref b),some (.int (((startC ls i:Int) + c) * 2 ^ Int.toNat 1)),v5] (H.set b (.list (mkL N (fun L => if L ≤ i then startC ls L else 0)))) by
   by_cases h1:1 < (1:Int) + i
   ·refine dT h1 ?_
    refine item_ref (by rw [Hp.set_ne _ _ hab,ha]) (by lia) (by rw [mkL_len]; lia) (by rw [mkL_len]; lia) (fun v ev => ?_)
    rw [show ((1:Int) + i - 1).toNat = i by lia,mkL_get _ (by omega)] at ev
    cases ev
    refine ex0_1 (g _ rfl) fun g1 g2 => ?_
    exact ⟨⟨by decide,by decide,g1⟩,g2⟩
   ·refine dF h1 ?_
    refine ex0_1 (g 0 (by rw [show i = 0 by lia]; rfl)) fun g1 g2 => ?_
    exact ⟨⟨by decide,by decide,g1⟩,g2⟩
  rintro c rfl
  refine ⟨by lia,hG _ _ ?_⟩
  have e2:((startC ls i:Int) + (cntP ls i:Int)) * 2 ^ Int.toNat 1 = ((startC ls (i + 1):Nat):Int) := by
   show ((startC ls i:Int) + (cntP ls i:Int)) * 2 = _
   rw [startC]
   show _ = ((2 * (startC ls i + cntP ls i):Nat):Int)
   lia
  rw [e2]
  dsimp only [wpSs,wpS,wpE,dz6,dz5,oget_s,ixW_i]
  rw [Hp.set_self]
  try dsimp only [vI_i]
  rw [mkL_len,Hp.set_set,show ((1:Int) + i).toNat = i + 1 by lia]
  refine ⟨⟨by lia,by lia,by lia⟩,hK _ _ ⟨?_,_,rfl⟩⟩
  rw [show V.int ((startC ls (i + 1):Nat):Int) = nV (startC ls (i + 1)) from rfl,mkL_set (g := fun L => if L ≤ i + 1 then startC ls L else 0) (by lia) (fun j hj => ?_)]
  by_cases h1:j = i + 1
  ·rw [if_pos h1,if_pos (by lia),h1]
  ·rw [if_neg h1]
   by_cases h2:j ≤ i
   ·rw [if_pos h2,if_pos (by lia)]
   ·rw [if_neg h2,if_neg (by lia)]
 ·intro l H' hI9
  refine ex0_1 hI9 fun xq11 xq12 => ?_; clear hI9
  refine ex1_0 xq12 fun v2 xq13 => ?_; clear xq12
  obtain rfl := xq11
  obtain rfl := xq13
  rw [rangeL_len,mkL_ext (g := startC ls) (fun j hj => by rw [if_pos (by lia)])]
  exact hK _ _
theorem k15_c {ls:List Nat} {N:Nat} {H:Hp} {b c:Addr} {c1 c4:Option V} {v2:Option V} {K:Loc→Hp→Prop} {Qr:V→Hp→Prop} (hl:ls.length ≤ 1000) (hN:N ≤ 17) (hx:∀ x ∈ ls,x < N) (hbc:b ≠ c)
  (hK:∀ v2 H',(∀ x,x ≠ b→x ≠ c→H' x = H x)→H' c = some (.list (mkL ls.length (codN ls)))→K [some (.lst (ls.map nV)),c1,v2,some (.ref b),c4,some (.ref c)] H') (hb:H b = some (.list (mkL N (startC ls)))) (hc:H c = some (.list [])) :
  wpS (Sp 15) b15c K Qr [some (.lst (ls.map nV)),c1,v2,some (.ref b),c4,some (.ref c)] H := by
 have hbig := big_eq
 unfold b15c
 dsimp only [wpS,wpI,wpE,dz5,oget_s,frozenSeq_l]
 refine ⟨by rw [List.length_map]; lia,?_⟩
 refine for_inv (fun i l H' => (∀ x,x ≠ b→x ≠ c→H' x = H x)∧H' b = some (.list (mkL N (fun L => startC ls L + cntP (ls.take i) L)))∧H' c = some (.list (mkL i (codN ls)))∧∃ v,l = [some (.lst (ls.map nV)),c1,v,some (.ref b),c4,some (.ref c)]) _ (k := 0) ⟨fun U U U => rfl,by rw [hb,mkL_ext (g := fun L => startC ls L + cntP (ls.take 0) L) (fun s U => by simp [cntP])],hc,v2,rfl⟩ ?_ ?_
 ·intro i v l H' K hv hI9 hK
  refine ex0_3 hI9 fun hS eb ec xq14 => ?_; clear hI9
  refine ex1_0 xq14 fun v2 xq15 => ?_; clear xq14
  obtain rfl := xq15
  rw [List.getElem?_map] at hv
  refine ex1_1 (Option.map_eq_some_iff.mp hv) fun x ex xq2 => ?_
  obtain rfl := xq2
  have hx := hx x (List.mem_of_getElem? ex)
  have hil := (List.getElem?_eq_some_iff.mp ex).1
  have exg:ls.getD i 0 = x := by rw [List.getD_eq_getElem?_getD,ex]; rfl
  rw [Nat.zero_add] at hK eb ec
  have lc := mkL_len i (codN ls)
  have lb := mkL_len N (fun L => startC ls L + cntP (ls.take i) L)
  refine stepK (fun G hG => ?_)
  rw [nV]
  dsimp only [dz8,dz7,wpS,wpE,dz6,dz5,truthW_b,cmpW,copI,vI_i,oget_s]
  by_cases h:x = 0
  ·refine dT (by exact Int.ofNat_eq_zero.mpr h) ?_
   refine step ?_
   dsimp only [wpSs,wpS,wpE,dz6,dz5,oget_s]
   refine app_ref ec (by lia) ⟨rfl,hG _ _ (hK _ _ ⟨fun y y1 y2 => by rw [Hp.set_ne _ _ y2]; exact hS y y1 y2,?_,?_,_,rfl⟩)⟩
   ·rw [Hp.set_ne _ _ hbc,eb,mkL_ext (fun j hj => ?_)]
    rw [cnt_take ex,if_neg (by lia)]
   ·rw [Hp.set_self,mkL_succ i]
    unfold codN; rw [exg,if_pos h]; rfl
  ·refine dF (by exact Int.ofNat_ne_zero.mpr h) ?_
   refine step ?_
   dsimp only [wpS,wpE,dz6,dz5,oget_s]
   refine ⟨true,ap_some ec,item_ref eb (by exact Int.natCast_nonneg _) (by lia) (by lia) (fun v ev => ?_)⟩
   rw [dz13,mkL_get _ hx] at ev
   cases ev
   refine ⟨ap_some ec,?_⟩
   unfold appendW
   try dsimp only [vI_i]
   rw [ec]
   refine ⟨by lia,rfl,step ?_⟩
   rw [nV]
   dsimp only [wpS,wpE,dz6,dz5,oget_s,ixW_i,dz13,binW,vI_i]
   refine item_ref (by rw [Hp.set_ne _ _ hbc]; exact eb) (by exact Int.natCast_nonneg _) (by lia) (by lia) (fun v ev => ?_)
   rw [dz13,mkL_get _ hx] at ev
   cases ev
   rw [nV]
   dsimp only [wpSs,vI_i]
   rw [Hp.set_ne _ _ hbc,eb]
   try dsimp only [vI_i]
   refine ⟨⟨by exact Int.natCast_nonneg _,by lia,by lia⟩,hG _ _ (hK _ _ ⟨fun y y1 y2 => by rw [Hp.set_ne _ _ y1,Hp.set_ne _ _ y2]; exact hS y y1 y2,?_,?_,_,rfl⟩)⟩
   ·rw [Hp.set_self,show ((startC ls x + cntP (ls.take i) x:Nat):Int) + 1 = ((startC ls x + cntP (ls.take i) x + 1:Nat):Int) by lia]
    congr 2
    refine mkL_set hx (fun j hj => ?_)
    rw [cnt_take ex]
    by_cases h1:j = x
    ·rw [if_pos h1,if_pos ⟨h1,by lia⟩,h1]; lia
    ·rw [if_neg h1,if_neg (fun e => h1 e.1)]
   ·rw [Hp.set_ne _ _ (Ne.symm hbc),Hp.set_self,mkL_succ i]
    unfold codN codeOf
    rw [exg,if_neg h]
    unfold cntP
    rw [if_neg h]; rfl
 ·intro l H' hI9
  refine ex0_3 hI9 fun hS eb ec xq16 => ?_; clear hI9
  refine ex1_0 xq16 fun v2 xq17 => ?_; clear xq16
  obtain rfl := xq17
  rw [List.length_map,Nat.zero_add] at ec
  exact hK _ _ hS ec
theorem k15 {n:Nat} (hn:15 < n) {ls:List Nat} {H:Hp} {Q:V→Hp→Prop} (h0:ls ≠ []) (hl:ls.length ≤ 1000) (hm:∀ x ∈ ls,x ≤ 15) (q:Q (.lst (mkL ls.length (codN ls))) H):Sp n 15 [.lst (ls.map nV)] H Q := by
 rw [Sp_at hn]
 refine ⟨rfl,?_⟩
 show wpFn (Sp 15) 6 b15 [.lst (ls.map nV)] H Q
 have hbig := big_eq
 refine ex1_2 (maxL_of ls h0) fun mx em hmx hin => ?_
 have hmx15 := hm mx hin
 unfold wpFn b15
 show wpSs _ _ _ _ [some (.lst (ls.map nV)),none,none,none,none,none] H
 refine step ?_
 dsimp only [wpS,wpE,dz5,dz8,dz7,mk,wpEs,binW,dz13,vI_i,biW,oneV_1,oget_s,asList_l,obind_s,truthW_b,dz10,asList_r]
 refine ⟨Nat.zero_le _,⟨plains_nV ls,rfl⟩,?_⟩
 have e1:(V.sames (ls.map nV) [] == false) = true := by
  cases ls with
  | nil => exact absurd rfl h0
  | cons a r => rfl
 rw [e1]
 refine ⟨cI ls,(mx:Int),⟨intsOf_nV ls,em⟩,⟨by exact Int.natCast_nonneg _,by lia⟩,by rw [List.length_replicate]; lia,fun a ha => step ?_⟩
 rw [show ((mx:Int) + 2).toNat = mx + 2 by rfl,mkL_zero]
 have hx:∀ x ∈ ls,x < mx + 2 := fun x h => by have := hmx x h; lia
 refine k15_a hl (by lia) hx (fun v2 => step ?_)
 dsimp only [wpS,wpE,wpEs,dz6,dz5,dz8,dz7,mk,biW,lenW,dz13,oneV_1,oget_s,asSeq_r,asList_r]
 rw [Hp.set_self]
 try dsimp only [vI_i]
 rw [mkL_len]
 refine ⟨by lia,⟨by exact Int.natCast_nonneg (mx + 2),by lia⟩,by rw [List.length_replicate]; lia,fun b hb => ?_⟩
 refine ex0_1 (ne_of_none hb) fun hba hb2 => ?_
 rw [mkL_zero]
 refine step (step ?_)
 refine k15_b hl (by lia) (by exact Nat.succ_pos _) (Ne.symm hba) (Hp.set_self ..) (fun v2 v4 => step ?_)
 dsimp only [wpS,wpE,wpEs,mk,dz10,dz8,dz7]
 refine ⟨Nat.zero_le _,fun c hc => ?_⟩
 refine ex0_1 (ne_of_none hc) fun hcb hc2 => ?_
 refine ex0_1 (ne_of_none hc2) fun hca hc3 => ?_
 refine step (k15_c hl (by lia) hx (Ne.symm hcb) (fun v2 H' hS ec => ?_) (by rw [Hp.set_ne _ _ (Ne.symm hcb),Hp.set_self]) (Hp.set_self ..))
 dsimp only [wpSs,wpS,wpE,dz6,dz5,oget_s]
 rw [ec]
 refine ⟨H,fun x o e => ?_,q⟩
 have xa:x ≠ a := fun y => by rw [y,ha] at e; cases e
 have xb:x ≠ b := fun y => by rw [y,hb2] at e; cases e
 have xc:x ≠ c := fun y => by rw [y,hc3] at e; cases e
 unfold Hp.erase
 rw [if_neg xc,hS x xb xc,Hp.set_ne _ _ xc,Hp.set_ne _ _ xb,Hp.set_ne _ _ xa]
 exact e
theorem tree_step0 {M:Nat} {ls:List Nat} (h:LOk M ls) {p:Int × Int} (e:(psOf (cI ls))[0]? = some p):codeOf ls p.2.toNat = 0 := by
 have := posn_code h.le e
 have z:posn M (cI ls) 0 = 0 := rfl
 rw [z] at this
 rcases Nat.mul_eq_zero.mp this.symm with q | q
 ·exact q
 ·have:0 < 2 ^ (M - p.1.toNat) := Nat.pow_pos (by exact Nat.zero_lt_two)
  lia
theorem tree_step {M:Nat} {ls:List Nat} (h:LOk M ls) {i:Nat} {p p':Int × Int} (e:(psOf (cI ls))[i]? = some p) (e':(psOf (cI ls))[i + 1]? = some p'):p.1 ≤ p'.1∧codeOf ls p'.2.toNat = (codeOf ls p.2.toNat + 1) * 2 ^ (p'.1.toNat - p.1.toNat) := by
 have h1 := posn_succ (M := M) e
 rw [posn_code h.le e,posn_code h.le e'] at h1
 have hi := (List.getElem?_eq_some_iff.mp e).1
 have hi' := (List.getElem?_eq_some_iff.mp e').1
 have st := List.pairwise_iff_getElem.mp (psOf_strict (cI ls)) i (i + 1) hi hi' (by exact Nat.lt_add_one i)
 rw [(List.getElem?_eq_some_iff.mp e).2,(List.getElem?_eq_some_iff.mp e').2] at st
 have f1 := leP_fst (ltQ_le st)
 refine ex0_1 (ps_of e') fun g1 g2 => ?_
 have l2 := h.le p'.2.toNat
 have q1:p'.1 = ((ls.getD p'.2.toNat 0:Nat):Int) := by rw [g2]; rfl
 refine ⟨f1,?_⟩
 unfold wt at h1
 rw [sub_two (Int.toNat_le_toNat f1) (by rw [q1]; exact l2),Nat.pow_add,← Nat.mul_assoc,← Nat.add_mul] at h1
 have := Nat.eq_of_mul_eq_mul_right (Nat.pow_pos (by exact Nat.zero_lt_two)) h1
 rw [this,Nat.add_mul,Nat.one_mul]
theorem k23 {n M:Nat} (hn:23 < n) {ls:List Nat} {H:Hp} {Q:V→Hp→Prop} (hl:ls.length ≤ 1000) (hM:M ≤ 15) (h:LOk M ls) (hu:(used (cI ls)).length < 64) (q:Q (.pd (treeOf ls)) H):Sp n 23 [.lst (ls.map nV)] H Q := by
 rw [Sp_at hn]
 refine ⟨rfl,?_⟩
 show wpFn (Sp 23) 6 b23 [.lst (ls.map nV)] H Q
 have hbig := big_eq
 have hul := used_le (cI ls)
 rw [cI_len] at hul
 unfold wpFn b23
 show wpSs _ _ _ _ [some (.lst (ls.map nV)),none,none,none,none,none] H
 refine step ?_
 dsimp only [wpS,wpEs,wpE,bindM_c,dz8,dz7,bindM_n,obind_s]
 refine fun a ha => stepK (fun G hG => ?_)
 dsimp only [wpS,wpI,wpE,wpEs,dz5,wpC,truthW_b,cmpW,copI,vI_i,dz11,dz12,dz2,dz3,dz4,biW,frozenSeq_l,oneV_1,mk,asList_r,asList_l,obind_s,oget_s]
 refine ⟨by rw [List.length_map]; lia,?_⟩
 rw [← cI_nV,enum_ints]
 refine comp_fm (g := fun i => if 0 < (cI ls).getD i 0 then some (V.tup [.int ((cI ls).getD i 0),.int (i:Int)]) else none) _ _ (fun i hi => ⟨_,rfl,fun K k => ?_,fun x hx K k => ?_⟩) ?_
 ·dsimp only [dz7,dz8,dz6,dz5,oget_s,vI_i]
  by_cases h:0 < (cI ls).getD i 0
  ·rw [decide_eq_true h]; rw [if_pos h] at k; exact k
  ·rw [decide_eq_false h]; rw [if_neg h] at k; exact k
 ·dsimp only [dz7,dz8,dz6,dz5,oget_s]
  by_cases h:0 < (cI ls).getD i 0
  ·rw [if_pos h] at hx; cases hx; exact k
  ·rw [if_neg h] at hx; cases hx
 have fm:((List.range (cI ls).length).filterMap fun i => if 0 < (cI ls).getD i 0 then some (V.tup [.int ((cI ls).getD i 0),.int (i:Int)]) else none) = ((used (cI ls)).map fun s => ((cI ls).getD s 0,(s:Int))).map fun p => V.tup [.int p.1,.int p.2] := by
  unfold used
  rw [← List.filterMap_eq_filter,List.map_filterMap,List.map_filterMap]
  congr 1
  funext i
  by_cases h:0 < (cI ls).getD i 0 <;> simp [h,Option.guard]
 rw [fm,List.nil_append]
 refine ⟨by rw [List.length_map,List.length_map]; lia,?_⟩
 refine ⟨(used (cI ls)).map fun s => ((cI ls).getD s 0,(s:Int)),⟨by rw [List.map_map],?_,by rw [List.length_map,List.length_map]; lia⟩,?_⟩
 ·refine List.pairwise_map.mpr ((used_nodup (cI ls)).imp fun {x y} h e => h ?_)
  have := (Prod.mk.inj e).2
  exact Int.ofNat_inj.mp this
 show ((psOf (cI ls)).map _).length ≤ big∧_
 have psl:(psOf (cI ls)).length = (used (cI ls)).length := by rw [(psOf_perm (cI ls)).length_eq,List.length_map]
 refine ⟨by rw [List.length_map]; lia,?_⟩
 show forW _ _ ((psOf (cI ls)).map fun p => V.tup [.int p.1,.int p.2]) _ _ _
 refine for_inv (fun i l H' => H' = H.set a (.pdict ((treeOf ls).take i))∧∃ (code was:Nat) (v4 v5:Option V),l = [some (.lst ((cI ls).map V.int)),some (.ref a),some (.int (code:Int)),some (.int (was:Int)),v4,v5]∧(i = 0∧code = 0∧was = 0 ∨ ∃ j p,i = j + 1∧(psOf (cI ls))[j]? = some p∧code = codeOf ls p.2.toNat + 1∧(was:Int) = p.1)) _ (k := 0) ⟨rfl,0,0,none,none,rfl,.inl ⟨rfl,rfl,rfl⟩⟩ ?_ ?_
 ·intro i v l H' K hv hI9 hK
  refine ex0_1 hI9 fun xq1 xq2 => ?_; clear hI9
  refine ex4_1 xq2 fun code was v4 v5 xq3 hc => ?_; clear xq2
  obtain rfl := xq1
  obtain rfl := xq3
  rw [List.getElem?_map] at hv
  refine ex1_1 (Option.map_eq_some_iff.mp hv) fun p ep xq1 => ?_
  obtain rfl := xq1
  clear hG
  rw [Nat.zero_add] at hK hc ⊢
  refine ex0_1 (ps_of ep) fun g1 g2 => ?_
  have q1:p.1 = ((ls.getD p.2.toNat 0:Nat):Int) := by rw [g2]; rfl
  have l2 := h.le p.2.toNat
  have hcl := code_lt h g1
  have hcl2:2 ^ ls.getD p.2.toNat 0 ≤ 2 ^ 15 := Nat.pow_le_pow_right (by exact Nat.zero_lt_two) (by exact Nat.le_trans l2 hM)
  have nxt:was ≤ ls.getD p.2.toNat 0∧code * 2 ^ (ls.getD p.2.toNat 0 - was) = codeOf ls p.2.toNat∧code ≤ 2 ^ 15 := by
   rcases hc with ⟨rfl,rfl,rfl⟩ | ⟨j,p0,rfl,e0,rfl,hw⟩
   ·exact ⟨Nat.zero_le _,by rw [Nat.zero_mul,tree_step0 h ep],by exact Nat.le_add_left _ _⟩
   ·refine ex0_1 (tree_step h e0 ep) fun s1 s2 => ?_
    refine ex0_1 (ps_of e0) fun u1 u2 => ?_
    have w1 := code_lt h u1
    have w2:2 ^ ls.getD p0.2.toNat 0 ≤ 2 ^ 15 := Nat.pow_le_pow_right (by exact Nat.zero_lt_two) (by have := h.le p0.2.toNat; exact Nat.le_trans this hM)
    refine ⟨by lia,?_,by exact Nat.lt_of_lt_of_le ‹_› ‹_›⟩
    rw [s2,show p.1.toNat = ls.getD p.2.toNat 0 by lia,show p0.1.toNat = was by lia]
  refine ex0_2 nxt fun n1 n2 n3 => ?_; clear nxt
  have e3:(code:Int) * 2 ^ (p.1 - (was:Int)).toNat = ((codeOf ls p.2.toNat:Nat):Int) := by
   rw [← n2,show (p.1 - (was:Int)).toNat = ls.getD p.2.toNat 0 - was by lia]; simp
  have pw:(2:Int) ^ (p.1 - (was:Int)).toNat = ((2 ^ (ls.getD p.2.toNat 0 - was):Nat):Int) := by
   rw [show (p.1 - (was:Int)).toNat = ls.getD p.2.toNat 0 - was by lia]; simp
  have pl:2 ^ (ls.getD p.2.toNat 0 - was) ≤ 2 ^ 15 := Nat.pow_le_pow_right (by lia) (by lia)
  refine step ?_
  dsimp only [dz8,dz7,wpS,wpE,dz6,dz5,binW,vI_i,dz13,oget_s]
  refine ⟨⟨by lia,by lia,by decide⟩,⟨by lia,by rw [pw,Int.natAbs_natCast]; exact Nat.lt_of_le_of_lt pl (by decide)⟩,?_⟩
  rw [e3]
  refine step ?_
  dsimp only [wpS,wpE,dz6,dz5,wpEs,oget_s,ixW_t]
  rw [Hp.set_self]
  try dsimp only [vI_i]
  rw [Hp.set_set]
  have et:(treeOf ls)[i]? = some ([p.1,(codeOf ls p.2.toNat:Int)],p.2) := by
   unfold treeOf; rw [List.getElem?_map,ep]; rfl
  have hi := (List.getElem?_eq_some_iff.mp et).1
  have tl:(treeOf ls).length = (psOf (cI ls)).length := by unfold treeOf; rw [List.length_map]
  have nk:((treeOf ls).take i).lookup [p.1,((codeOf ls p.2.toNat:Nat):Int)] = none := lk_no (fun w hw => by
   refine ex1_0 (List.mem_iff_getElem?.mp hw) fun j hj => ?_
   rw [List.getElem?_take] at hj
   by_cases q:j < i
   ·rw [if_pos q] at hj
    unfold treeOf at hj
    rw [List.getElem?_map] at hj
    refine ex1_1 (Option.map_eq_some_iff.mp hj) fun p' ep' e' => ?_
    exact key_ne h ep' ep q (Prod.mk.inj e').1
   ·rw [if_neg q] at hj; cases hj)
  refine ⟨⟨by rw [List.length_take]; lia,nk⟩,?_⟩
  dsimp only [wpSs,wpS,wpEs,wpE,dz6,dz5,bindM_c,dz8,dz7,bindM_n,obind_s,oget_s,binW,vI_i]
  refine hK _ _ ⟨?_,codeOf ls p.2.toNat + 1,ls.getD p.2.toNat 0,some (.int p.2),some (.int p.1),?_,.inr ⟨i,p,rfl,ep,rfl,q1.symm⟩⟩
  ·rw [take_snoc et]
  ·rw [← q1]; rfl
 ·intro l H' hI9
  refine ex0_1 hI9 fun xq4 xq5 => ?_; clear hI9
  refine ex4_1 xq5 fun code was v4 v5 xq6 hc => ?_; clear xq5
  obtain rfl := xq4
  obtain rfl := xq6
  rw [List.length_map,Nat.zero_add]
  refine hG _ _ ?_
  dsimp only [wpSs,wpS,wpE,dz6,dz5,oget_s]
  rw [Hp.set_self]
  try dsimp only [vI_i]
  rw [Hp.set_erase _ a _ ha]
  refine ⟨H,Hp.le_refl _,?_⟩
  rw [show (psOf (cI ls)).length = (treeOf ls).length by unfold treeOf; rw [List.length_map],List.take_length]
  exact q
noncomputable def Rc (B:List Nat) (at':Nat):Cell := .sd [none,none,none,none,none,some (.int (at':Int)),some (.lst (B.map nV))]
theorem bits_sum (x:Nat):∀ k,((List.range k).map fun (i:Nat) => (((x.testBit i).toNat:Int) * 2 ^ i)).sum = ((x % 2 ^ k:Nat):Int)
 | 0 => by simp [Nat.mod_one]
 | k + 1 => by
  rw [List.range_succ,List.map_append,List.sum_append,bits_sum x k,Nat.pow_succ,Nat.mod_mul,← Nat.toNat_testBit]
  simp [Int.mul_comm]
theorem intsOf_map {α:Type} (f:α→Int) (l:List α):intsOf (l.map fun x => V.int (f x)) = some (l.map f) := by
 induction l with
 | nil => rfl
 | cons x r ih => rw [List.map_cons]; show (intsOf (r.map _)).map _ = _; rw [ih]; rfl
theorem enum_lsb (x k:Nat):(((lsb x k).map nV).zipIdx.map fun p => V.tup [.int (p.2:Int),p.1]) = (List.range k).map fun (i:Nat) => V.tup [.int (i:Int),.int ((x.testBit i).toNat:Int)] := by
 apply List.ext_getElem?
 intro i
 rw [List.getElem?_map,List.getElem?_zipIdx,List.getElem?_map,List.getElem?_map]
 by_cases h:i < k
 ·rw [lsb_get h,List.getElem?_range h]; simp [nV]
 ·rw [List.getElem?_eq_none (by rw [lsb_len]; exact Nat.le_of_not_lt h),List.getElem?_eq_none (by simp; exact Nat.le_of_not_lt h)]; rfl
theorem k22 {n:Nat} (hn:22 < n) {H:Hp} {Q:V→Hp→Prop} {r:Addr} {B rest:List Nat} {p x k:Nat} (e:H r = some (Rc B p)) (hB:B.length ≤ 200000) (hb:B.drop p = lsb x k ++ rest) (hx:x < 2 ^ k) (hk:k ≤ 20) (hp:p ≤ B.length)
  (q:Q (.int x) (H.set r (Rc B (p + k)))):Sp n 22 [.ref r,.int k] H Q := by
 rw [Sp_at hn]
 refine ⟨rfl,?_⟩
 show wpFn (Sp 22) 3 b22 [.ref r,.int k] H Q
 have hbig := big_eq
 have hlen := congrArg List.length hb
 rw [List.length_append,lsb_len,List.length_drop] at hlen
 unfold wpFn b22
 unfold Rc at e q
 show wpSs _ _ _ _ [some (.ref r),some (.int k),none] H
 refine step ?_
 dsimp only [wpS,wpE,oget,dz5,dz8,dz7]
 rw [e]
 dsimp only [dz6,dz5]
 refine stepK (fun G hG => ?_)
 dsimp only [wpS,wpE,oget,dz6,dz5,binW,vI_i]
 rw [e]
 dsimp only [dz6,dz5,dz8,dz7]
 refine ⟨rfl,hG _ _ (step ?_)⟩
 clear hG
 dsimp only [wpS,wpE,wpEs,wpI,oget,dz5,binW,vI_i,wpC,dz11,dz12,dz2,dz3,dz4,biW,oneV_1,mk,asList_r,asList_l,obind_s,dz6]
 rw [Hp.set_self]
 dsimp only [dz6,dz5,asList_l]
 have hpl:p + k ≤ B.length := by lia
 refine ⟨(lsb x k).map nV,⟨?_,by rw [List.length_map]; lia⟩,?_⟩
 ·rw [show ((p:Int) + k) = ((p + k:Nat):Int) by exact Int.natCast_add _ _,slice_mid (by exact Nat.le_add_right _ _) (by rw [List.length_map]; assumption),show p + k - p = k by exact Nat.add_sub_self_left p k,← List.map_drop,hb,← List.map_take]
  congr 2
  rw [List.take_append_of_le_length (by rw [lsb_len]; exact Nat.le_refl _),List.take_of_length_le (by rw [lsb_len]; exact Nat.le_refl _)]
 refine ⟨by rw [List.length_map,lsb_len]; lia,by rw [List.length_map,lsb_len]; lia,?_⟩
 rw [enum_lsb]
 have p20:∀ i,i < k→2 ^ i ≤ 2 ^ 20 := fun i hi => Nat.pow_le_pow_right (by exact Nat.zero_lt_two) (by lia)
 have bt:∀ i,(x.testBit i).toNat ≤ 1 := fun i => by cases x.testBit i <;> decide
 refine comp_map (g := fun i => V.int (((x.testBit i).toNat:Int) * 2 ^ i)) _ _ (fun l K k => k) (fun i hi => ?_) ?_
 ·have hi := List.mem_range.mp hi
  have h1 := p20 i hi
  have h2 := bt i
  refine ⟨_,rfl,fun K hK => ?_⟩
  dsimp only [dz7,dz8,dz6,dz5,vI_i,dz13]
  refine ⟨⟨by exact Int.natCast_nonneg _,by lia,by decide⟩,⟨by lia,?_⟩,hK⟩
  rw [show ((2:Int) ^ i) = ((2 ^ i:Nat):Int) by simp,Int.natAbs_natCast]
  exact Nat.lt_of_le_of_lt h1 (by decide)
 rw [List.nil_append]
 refine ⟨by rw [List.length_map,List.length_range]; lia,?_⟩
 refine ⟨_,⟨intsOf_map _ _,fun j hj => ?_⟩,by rw [List.length_map,List.length_range]; lia,?_⟩
 ·refine ex1_1 (List.mem_map.mp hj) fun i hi xq1 => ?_
  obtain rfl := xq1
  have h1 := p20 i (List.mem_range.mp hi)
  have h2 := bt i
  rw [show (((x.testBit i).toNat:Int) * 2 ^ i) = (((x.testBit i).toNat * 2 ^ i:Nat):Int) by simp,Int.natAbs_natCast]
  have:(x.testBit i).toNat * 2 ^ i ≤ 1 * 2 ^ 20 := Nat.mul_le_mul h2 h1
  exact Nat.lt_of_le_of_lt this (by decide)
 rw [bits_sum,Nat.mod_eq_of_lt hx]
 exact ⟨_,Hp.le_refl _,q⟩
theorem Hp.set_same {H:Hp} {a:Addr} {c:Cell} (e:H a = some c):H.set a c = H := by
 funext b; by_cases q:b = a
 ·subst q; rw [Hp.set_self,e]
 ·rw [Hp.set_ne _ _ q]
theorem msb_succ (c j:Nat):msb c (j + 1) = (c.testBit j).toNat :: msb c j := by
 unfold msb; rw [lsb_succ,List.reverse_append]; rfl
theorem lsb_one (c j:Nat):lsb (c.testBit j).toNat 1 = [(c.testBit j).toNat] := by
 cases c.testBit j <;> rfl
theorem drop_tail {α:Type} {B:List α} {p:Nat} {x:α} {r:List α} (h:B.drop p = x :: r):B.drop (p + 1) = r := by
 rw [← List.drop_drop,h]; rfl
theorem drop_app {α:Type} {B:List α} {p:Nat} {x r:List α} (h:B.drop p = x ++ r):B.drop (p + x.length) = r := by
 rw [← List.drop_drop,h,List.drop_left]
theorem drop_le {α:Type} {B:List α} {p:Nat} {x:α} {r:List α} (h:B.drop p = x :: r):p < B.length := by
 have := congrArg List.length h
 rw [List.length_drop,List.length_cons] at this; exact Nat.lt_of_sub_eq_succ this
theorem k24 {n M:Nat} (hn:24 < n) {H:Hp} {Q:V→Hp→Prop} {r:Addr} {B rest:List Nat} {p s:Nat} {ls:List Nat} (hM:M ≤ 15) (h:LOk M ls) (hs:0 < ls.getD s 0) (e:H r = some (Rc B p)) (hB:B.length ≤ 200000) (hb:B.drop p = msb (codeOf ls s) (ls.getD s 0) ++ rest)
  (q:Q (.int s) (H.set r (Rc B (p + ls.getD s 0)))):Sp n 24 [.ref r,.pd (treeOf ls)] H Q := by
 rw [Sp_at hn]
 refine ⟨rfl,?_⟩
 show wpFn (Sp 24) 4 b24 [.ref r,.pd (treeOf ls)] H Q
 have hbig := big_eq
 have hl15 := h.le s
 have hc := code_lt h hs
 unfold wpFn b24
 show wpSs _ _ _ _ [some (.ref r),some (.pd (treeOf ls)),none,none] H
 refine step ?_
 dsimp only [wpS,wpE,wpEs,bindT_m,bindM_c,dz8,dz7,bindM_n,obind_s]
 refine stepK (fun G U => ?_)
 dsimp only [wpS,wpE,truthW_b,cmpW,copI,vI_i]
 refine ⟨16,?_⟩
 refine while_inv (fun mm l H' => ∃ m,m < ls.getD s 0∧mm = ls.getD s 0 - m∧l = [some (.ref r),some (.pd (treeOf ls)),some (.int (m:Int)),some (.int ((codeOf ls s / 2 ^ (ls.getD s 0 - m):Nat):Int))]∧H' = H.set r (Rc B (p + m))∧B.drop (p + m) = msb (codeOf ls s) (ls.getD s 0 - m) ++ rest) ?_ _ (ls.getD s 0) (by lia) ⟨0,hs,rfl,by rw [Nat.sub_zero,Nat.div_eq_of_lt hc]; rfl,(Hp.set_same e).symm,hb⟩
 intro mm l H' K hI9 hK
 refine ex1_4 hI9 fun m hm xq1 xq2 xq3 hd => ?_; clear hI9
 obtain rfl := xq1
 obtain rfl := xq2
 obtain rfl := xq3
 dsimp only [dz6,dz5,oget_s,vI_i]
 refine dT (by lia) ?_
 refine step ?_
 dsimp only [wpS,wpE,dz6,dz5,dz8,dz7,binW,wpEs,oget_s,vI_i]
 obtain ⟨j,hj⟩:∃ j,ls.getD s 0 - m = j + 1 := ⟨ls.getD s 0 - m - 1,by lia⟩
 rw [hj,msb_succ,List.cons_append] at hd
 have hp := drop_le hd
 have hcode:(codeOf ls s / 2 ^ (ls.getD s 0 - m)) * 2 + ((codeOf ls s).testBit j).toNat = codeOf ls s / 2 ^ j := by
  rw [hj,Nat.pow_succ,← Nat.div_div_eq_div_mul,Nat.toNat_testBit]; exact Nat.div_add_mod' (codeOf ls s / 2 ^ j) 2
 have hcodeI:((codeOf ls s / 2 ^ (ls.getD s 0 - m):Nat):Int) * 2 + (((codeOf ls s).testBit j).toNat:Int) = ((codeOf ls s / 2 ^ j:Nat):Int) := by
  rw [← hcode]; exact Int.natCast_add _ _
 have hq := drop_tail hd
 refine ⟨⟨?_,by decide⟩,?_⟩
 ·rw [Int.natAbs_natCast]
  refine Nat.lt_of_le_of_lt (Nat.div_le_self _ _) (Nat.lt_of_lt_of_le hc (Nat.pow_le_pow_right (by exact Nat.zero_lt_two) (by lia)))
 refine k22 (n := 24) (k := 1) (x := ((codeOf ls s).testBit j).toNat) (by exact Nat.le_add_left _ _) (Hp.set_self ..) hB (by rw [lsb_one]; exact hd) (by cases (codeOf ls s).testBit j <;> decide) (by exact Nat.succ_pos _) (by exact Nat.le_of_lt ‹_›) ?_
 try dsimp only [vI_i]
 rw [Hp.set_set,hcodeI]
 refine step ?_
 dsimp only [wpS,wpE,dz6,dz5,dz8,dz7,binW,vI_i,oget_s]
 rw [show ((m:Int) + 1) = ((m + 1:Nat):Int) by exact Int.ofNat_add_one_out m]
 refine stepK (fun G2 hG2 => ?_)
 dsimp only [wpS,wpE,wpEs,dz6,dz5,truthW_b,oget_s,tpI_t]
 by_cases hlast:j = 0
 ·subst hlast
  have e1:m + 1 = ls.getD s 0 := by lia
  rw [e1,Nat.pow_zero,Nat.div_one,tree_hit h hs]
  dsimp only [Option.isSome]
  dsimp only [wpSs,wpS,wpE,dz6,dz5,wpEs,oget_s]
  refine .inr ⟨(s:Int),tree_hit h hs,_,Hp.le_refl _,?_⟩
  rw [Nat.add_assoc,e1]; exact q
 ·have e1:j = ls.getD s 0 - (m + 1) := by lia
  rw [e1,tree_miss h hs (by lia)]
  dsimp only [Option.isSome]
  refine hG2 _ _ (hK (ls.getD s 0 - (m + 1)) _ _ (by exact Nat.sub_succ_lt_self (ls.getD s 0) m hm) ⟨m + 1,by lia,rfl,rfl,by rw [Nat.add_assoc],?_⟩)
  rw [← e1,← Nat.add_assoc]; exact hq
theorem range_getD (ls:List Nat):ls = (List.range ls.length).map fun s => ls.getD s 0 := by
 apply List.ext_getElem?
 intro i
 rw [List.getElem?_map]
 by_cases h:i < ls.length
 ·rw [List.getElem?_eq_getElem h,List.getElem?_range h]; simp [h]
 ·rw [List.getElem?_eq_none (by exact Nat.le_of_not_lt h),List.getElem?_eq_none (by simp; exact Nat.le_of_not_lt h)]; rfl
theorem fl_used (ls:List Nat):ls.filter (fun x => decide (0 < x)) = (used (cI ls)).map fun s => ls.getD s 0 := by
 conv => lhs; rw [range_getD ls]
 rw [List.filter_map]
 unfold used
 rw [cI_len]
 congr 1
 refine List.filter_congr (fun s U => ?_)
 rw [cI_get]
 show decide (0 < ls.getD s 0) = _
 by_cases h:0 < ls.getD s 0
 ·rw [decide_eq_true h,decide_eq_true (by exact Int.natCast_pos.mpr h)]
 ·rw [decide_eq_false h,decide_eq_false (by lia)]
theorem div_pow:∀ x,x < 16→(32768:Int) / 2 ^ x = ((2 ^ (15 - x):Nat):Int) := by decide
theorem natsum (f:Nat→Nat):∀ l:List Nat,(l.map fun x => ((f x:Nat):Int)).sum = (((l.map f).sum:Nat):Int)
 | [] => rfl
 | x :: r => by rw [List.map_cons,List.sum_cons,natsum f r,List.map_cons,List.sum_cons]; exact Int.natCast_add _ _
theorem k25 {n:Nat} (hn:25 < n) {H:Hp} {Q:V→Hp→Prop} {ls:List Nat} {least:Nat} (hl:ls.length ≤ 1000) (hm:∀ s,ls.getD s 0 ≤ 15) (hw:(used (cI ls)).length < least ∨ psum 15 (used (cI ls)) (fun s => ls.getD s 0) = 2 ^ 15)
  (q:Q (.bool true) H):Sp n 25 [.lst (ls.map nV),.int least] H Q := by
 rw [Sp_at hn]
 refine ⟨rfl,?_⟩
 show wpFn (Sp 25) 3 b25 [.lst (ls.map nV),.int least] H Q
 have hbig := big_eq
 have hul := used_le (cI ls)
 rw [cI_len] at hul
 unfold wpFn b25
 show wpSs _ _ _ _ [some (.lst (ls.map nV)),some (.int least),none] H
 refine step ?_
 dsimp only [wpS,wpE,wpI,dz5,wpC,truthW_b,cmpW,copI,vI_i,dz11,dz12,dz2,dz3,dz4,dz8,dz7,mk,oget_s,frozenSeq_l]
 refine ⟨by rw [List.length_map]; lia,?_⟩
 refine comp_fm (f := nV) (g := fun x => if 0 < x then some (nV x) else none) _ _ (fun x hx => ⟨_,rfl,fun K k => ?_,fun x' hx K k => ?_⟩) ?_
 ·rw [nV]
  dsimp only [dz7,dz5,oget_s,vI_i]
  by_cases h:0 < x
  ·rw [decide_eq_true (by exact Int.natCast_pos.mpr h)]; rw [if_pos h] at k; exact k
  ·rw [decide_eq_false (by lia)]; rw [if_neg h] at k; exact k
 ·dsimp only [dz7,dz5,oget_s]
  by_cases h:0 < x
  ·rw [if_pos h] at hx; cases hx; exact k
  ·rw [if_neg h] at hx; cases hx
 have fm:(ls.filterMap fun x => if 0 < x then some (nV x) else none) = (used (cI ls)).map fun s => nV (ls.getD s 0) := by
  have := congrArg (List.map nV) (fl_used ls)
  rw [List.map_map] at this
  refine Eq.trans ?_ this
  rw [← List.filterMap_eq_filter,List.map_filterMap]
  congr 1
  funext x
  by_cases h:0 < x <;> simp [h,Option.guard]
 rw [fm,List.nil_append]
 refine ⟨by rw [List.length_map]; lia,?_⟩
 dsimp only [wpSs,wpS,wpE,wpOr,wpEs,dz6,dz5,wpI,binW,vI_i,wpC,dz11,dz12,dz2,dz3,dz4,truthW_b,cmpW,copI,biW,oneV_1,mk,asList_r,asList_l,obind_s,oget_s,frozenSeq_l,lenW,asSeq_l]
 rw [List.length_map]
 refine ⟨by lia,?_⟩
 by_cases c:(used (cI ls)).length < least
 ·refine dT (by exact Int.ofNat_lt.mpr c) ?_
  exact ⟨H,Hp.le_refl _,q⟩
 refine dF (by lia) ?_
 have hw := hw.resolve_left c
 refine ⟨by lia,?_⟩
 refine comp_map (f := fun s => nV (ls.getD s 0)) (g := fun s => V.int ((2 ^ (15 - ls.getD s 0):Nat):Int)) _ _ (fun l K k => k) (fun s hs => ?_) ?_
 ·have hx := hm s
  refine ⟨_,rfl,fun K hK => ?_⟩
  have e := div_pow (ls.getD s 0) (by exact Nat.lt_succ_of_le ‹_›)
  have p15:2 ^ ls.getD s 0 ≤ 2 ^ 15 := Nat.pow_le_pow_right (by exact Nat.zero_lt_two) hx
  have pp:0 < 2 ^ ls.getD s 0 := Nat.pow_pos (by exact Nat.zero_lt_two)
  have e2:(2:Int) ^ ls.getD s 0 = ((2 ^ ls.getD s 0:Nat):Int) := by simp
  rw [nV]
  dsimp only [dz7,dz5,oget_s,vI_i,dz13]
  rw [e]
  refine ⟨⟨by exact Int.natCast_nonneg (ls.getD s 0),by lia,by decide⟩,⟨by rw [e2]; exact Int.natCast_pos.mpr pp,by decide,by rw [e2]; lia⟩,hK⟩
 rw [List.nil_append]
 refine ⟨by rw [List.length_map]; lia,?_⟩
 refine ⟨_,⟨intsOf_map _ _,fun j hj => ?_⟩,by rw [List.length_map]; lia,?_⟩
 ·refine ex1_1 (List.mem_map.mp hj) fun s hs xq1 => ?_
  obtain rfl := xq1
  rw [Int.natAbs_natCast]
  have:2 ^ (15 - ls.getD s 0) ≤ 2 ^ 15 := Nat.pow_le_pow_right (by exact Nat.zero_lt_two) (by exact Nat.sub_le 15 (ls.getD s 0))
  exact Nat.lt_of_le_of_lt this (by decide)
 rw [natsum (fun s => 2 ^ (15 - ls.getD s 0))]
 unfold psum at hw
 rw [hw]
 exact ⟨H,Hp.le_refl _,q⟩
theorem comp2_fm {elt:Loc→(V→Hp→Prop)→Hp→Prop} {it2:Loc→(List V→Hp→Prop)→Hp→Prop} {tg tg2:Tg} {base:Loc} {Q:List V→Hp→Prop} {H:Hp} {α β:Type} {f:α→V} {ys2:List β} {f2:β→V} {g:α→β→V} {N:Nat} :
  ∀ (ys:List α) (acc:List V),acc.length + ys.length * ys2.length ≤ N→N ≤ big →
   (∀ y ∈ ys,∃ l,bindT tg (f y) base = some l∧(∀ K:List V→Hp→Prop,K (ys2.map f2) H→it2 l K H)∧∀ z ∈ ys2,∃ l2,bindT tg2 (f2 z) l = some l2∧∀ K:V→Hp→Prop,K (g y z) H→elt l2 K H) →
   Q (acc ++ ys.flatMap fun y => ys2.map (g y)) H→comp2W elt it2 tg tg2 base (ys.map f) acc Q H
 | [],acc,hN,hb,st,q => by
  rw [List.flatMap_nil,List.append_nil] at q
  exact q
 | y :: r,acc,hN,hb,st,q => by
  refine ex1_2 (st y (by simp)) fun l e c d => ?_
  rw [List.length_cons,Nat.add_mul,Nat.one_mul] at hN
  rw [List.map_cons]
  show obind (bindT tg (f y) base) _
  rw [e]
  refine c _ ⟨⟨rfl,by rw [List.length_map]; lia⟩,?_⟩
  refine comp_map (g := g y) _ _ (fun l K k => k) d ⟨rfl,?_⟩
  refine comp2_fm r _ (by rw [List.length_append,List.length_map]; lia) hb (fun y hy => st y (by simp [hy])) ?_
  rw [List.flatMap_cons] at q
  rw [List.append_assoc]; exact q
theorem k21 {n:Nat} (hn:21 < n) {H:Hp} {Q:V→Hp→Prop} {bs:Array UInt8} (hb:bs.size ≤ 20000) (q:Q (.lst ((bs.toList.flatMap fun c => lsb c.toNat 8).map nV)) H):Sp n 21 [.bytes bs] H Q := by
 rw [Sp_at hn]
 refine ⟨rfl,?_⟩
 show wpFn (Sp 21) 3 b21 [.bytes bs] H Q
 have hbig := big_eq
 unfold wpFn b21
 refine step ?_
 dsimp only [dz1,dz2,dz9,dz10,dz11,dz12,dz3,dz4,wpS,wpE,wpI,dz5,binW,vI_i,wpEs,rangeW_1,mk,oget_s]
 refine ⟨by rw [List.length_map,Array.length_toList]; lia,?_⟩
 refine comp2_fm (N := 160000) (ys2 := List.range 8) (f2 := fun (k:Nat) => V.int (k:Int)) (g := fun c k => nV (c.toNat.testBit k).toNat) _ _ (by rw [List.length_nil,Array.length_toList,List.length_range]; lia) (by exact Nat.le_add_left _ _) (fun c hc => ?_) ?_
 ·refine ⟨_,rfl,fun K hK => ?_,fun k hk => ⟨_,rfl,fun K hK => ?_⟩⟩
  ·refine ⟨⟨by exact Int.neg_ofNat_le_ofNat 400000 8,by exact Int.natCast_nonneg _⟩,?_⟩
   have:rangeL 0 8 1 = (List.range 8).map fun (k:Nat) => V.int (k:Int) := by unfold rangeL; simp
   rw [this]; exact hK
  ·have hk := List.mem_range.mp hk
   have p8:2 ^ k ≤ 2 ^ 8 := Nat.pow_le_pow_right (by exact Nat.zero_lt_two) (by exact Nat.le_of_lt ‹_›)
   have pp:0 < 2 ^ k := Nat.pow_pos (by exact Nat.zero_lt_two)
   have e2:(2:Int) ^ k = ((2 ^ k:Nat):Int) := by simp
   have c256:c.toNat < 256 := c.toNat_lt
   dsimp only [dz7,dz8,dz5,dz6,oget_s,vI_i,dz13]
   rw [e2]
   refine ⟨⟨by exact Int.natCast_nonneg _,by lia,by decide⟩,⟨by exact Int.natCast_pos.mpr pp,by omega,by lia⟩,by exact Int.natCast_nonneg _,?_⟩
   unfold nV at hK
   rw [Nat.toNat_testBit] at hK
   rw [show ((c.toNat:Int) / ((2 ^ k:Nat):Int)) % 2 = ((c.toNat / 2 ^ k % 2:Nat):Int) by simp]
   exact hK
 rw [List.nil_append]
 have e:(bs.toList.flatMap fun c => (List.range 8).map fun k => nV (c.toNat.testBit k).toNat) = (bs.toList.flatMap fun c => lsb c.toNat 8).map nV := by
  rw [List.map_flatMap]
  unfold lsb
  simp only [List.map_map]
  rfl
 rw [e]
 refine ⟨?_,H,Hp.le_refl _,q⟩
 have := BL_len bs 0 0
 unfold BL at this
 rw [List.length_append,lsb_len] at this
 rw [List.length_map]; lia
noncomputable def np (cs:List Int):Nat := (cs.filter fun x => decide (0 < x)).length
theorem np_used (cs:List Int):(used cs).length = np cs := by
 have e:cs = (List.range cs.length).map fun s => cs.getD s 0 := by
  apply List.ext_getElem?
  intro i
  rw [List.getElem?_map]
  by_cases h:i < cs.length
  ·rw [List.getElem?_eq_getElem h,List.getElem?_range h]; simp [h]
  ·rw [List.getElem?_eq_none (by exact Nat.le_of_not_lt h),List.getElem?_eq_none (by simp; exact Nat.le_of_not_lt h)]; rfl
 unfold np
 conv => rhs; rw [e]
 rw [List.filter_map,List.length_map]
 rfl
theorem np_set:∀ (cs:List Int) (i:Nat),cs[i]? = some 0→np (cs.set i 1) = np cs + 1
 | [],i,h => by simp at h
 | x :: r,0,h => by
  have:x = 0 := by simpa using h
  subst this
  simp [np]
 | x :: r,i + 1,h => by
  have := np_set r i (by simpa using h)
  unfold np at *
  rw [List.set_cons_succ,List.filter_cons,List.filter_cons]
  split
  ·rw [List.length_cons,List.length_cons,this]
  ·exact this
theorem np_take {cs:List Int} {i:Nat} (hi:i ≤ cs.length) (h:∀ j,j < i→0 < cs.getD j 0):i ≤ np cs := by
 unfold np
 rw [← List.take_append_drop i cs,List.filter_append,List.length_append]
 rw [List.filter_eq_self.mpr (fun x hx => by
  refine ex1_0 (List.mem_iff_getElem?.mp hx) fun j hj => ?_
  rw [List.getElem?_take] at hj
  by_cases q:j < i
  ·rw [if_pos q] at hj
   have := h j q
   rw [List.getD_eq_getElem?_getD,hj] at this
   exact decide_eq_true this
  ·rw [if_neg q] at hj; cases hj),List.length_take]
 lia
theorem comp_pos {H:Hp} {Q:List V→Hp→Prop} {base:Loc} {elt:Loc→(V→Hp→Prop)→Hp→Prop} {cond:Loc→(Bool→Hp→Prop)→Hp→Prop} {tg:Tg} (cs:List Int)
  (st:∀ y:Int,∃ l,bindT tg (.int y) base = some l∧(∀ K:Bool→Hp→Prop,K (decide (0 < y)) H→cond l K H)∧∀ K:V→Hp→Prop,K (.int y) H→elt l K H) (q:Q ((cs.filter fun x => decide (0 < x)).map .int) H):compW elt cond tg base (cs.map .int) [] Q H := by
 refine comp_fm (g := fun x => if 0 < x then some (V.int x) else none) _ _ (fun x hx => ?_) ?_
 ·refine ex1_2 (st x) fun l e c d => ?_
  refine ⟨l,e,fun K k => c K ?_,fun x' hx K k => d K ?_⟩
  ·by_cases h:0 < x
   ·rw [decide_eq_true h]; rw [if_pos h] at k; exact k
   ·rw [decide_eq_false h]; rw [if_neg h] at k; exact k
  ·by_cases h:0 < x
   ·rw [if_pos h] at hx; cases hx; exact k
   ·rw [if_neg h] at hx; cases hx
 ·rw [List.nil_append]
  have:(cs.filterMap fun x => if 0 < x then some (V.int x) else none) = (cs.filter fun x => decide (0 < x)).map .int := by
   rw [← List.filterMap_eq_filter,List.map_filterMap]
   congr 1
   funext x
   by_cases h:0 < x <;> simp [h,Option.guard]
  rw [this]; exact q
theorem k19 {n:Nat} (hn:19 < n) {H:Hp} {Q:V→Hp→Prop} {a:Addr} {cs:List Int} (e:H a = some (.list (cs.map .int))) (h2:2 ≤ cs.length) (hl:cs.length ≤ 1000) (h0:∀ s,0 ≤ cs.getD s 0)
  (q:∀ cs':List Int,cs'.length = cs.length→(∀ s,0 ≤ cs'.getD s 0)→(∀ s,cs.getD s 0 ≤ cs'.getD s 0)→2 ≤ (used cs').length→(used cs').length ≤ max 2 (used cs).length→Q .none (H.set a (.list (cs'.map .int)))):Sp n 19 [.ref a] H Q := by
 rw [Sp_at hn]
 refine ⟨rfl,?_⟩
 show wpFn (Sp 19) 2 b19 [.ref a] H Q
 have hbig := big_eq
 unfold wpFn b19
 refine step ?_
 dsimp only [dz1,dz2,dz9,dz10,dz11,dz12,dz3,dz4,wpS,wpE,dz8,dz7]
 refine stepK (fun G hG => ?_)
 dsimp only [wpS,wpE,wpEs,wpI,wpC,truthW_b,cmpW,copI,vI_i,dz11,dz12,dz2,dz3,dz4,biW,lenW,oneV_1,mk,asSeq_r,asList_r,asSeq_l]
 refine ⟨3,?_⟩
 refine while_inv (fun m l H' => ∃ (i:Nat) (ds:List Int),m = 2 - i∧l = [some (.ref a),some (.int (i:Int))]∧H' = H.set a (.list (ds.map .int))∧ds.length = cs.length∧i ≤ 2∧(∀ s,0 ≤ ds.getD s 0)∧(∀ s,cs.getD s 0 ≤ ds.getD s 0)∧(∀ j,j < i→0 < ds.getD j 0)∧np ds ≤ max 2 (np cs)) ?_ _ 2 (by exact Nat.lt_add_one 2) ⟨0,cs,rfl,rfl,(Hp.set_same e).symm,rfl,by exact Nat.zero_le 2,h0,fun s => Int.le_refl _,fun j hj => absurd hj (Nat.not_lt_zero _),by exact Nat.le_max_right 2 (np cs)⟩
 intro m l H' K hI9 hK
 refine ex2_8 hI9 fun i ds xq1 xq2 xq3 h3 h4 h5 h6 h7 h8 => ?_; clear hI9
 obtain rfl := xq1
 obtain rfl := xq2
 obtain rfl := xq3
 dsimp only [dz5,oget_s,asList_r]
 rw [Hp.set_self]
 try dsimp only [vI_i]
 have hnp:np ds ≤ ds.length := by unfold np; exact List.length_filter_le _ _
 refine ⟨by rw [List.length_map]; lia,?_⟩
 refine comp_pos ds (fun y => ⟨_,rfl,fun K k => ?_,fun K k => ?_⟩) ?_
 ·exact k
 ·exact k
 refine ⟨by rw [List.length_map]; show np ds ≤ _; lia,by rw [List.length_map]; show np ds ≤ _; lia,?_⟩
 rw [List.length_map]
 show (match decide (((np ds:Nat):Int) < 2) with | true => _ | false => _)
 have hit := np_take (cs := ds) (i := i) (by lia) h7
 by_cases c:np ds < 2
 ·refine dT (by exact Int.lt_toNat.mp c) ?_
  have hi:i < ds.length := by lia
  have ei:ds[i]? = some (ds.getD i 0) := by rw [List.getElem?_eq_getElem hi]; simp [hi]
  clear hG
  refine stepK (fun G hG => ?_)
  dsimp only [wpS,wpE,dz5,truthW_b,cmpW,copI,vI_i,dz6,oget_s]
  refine item_intsR (Hp.set_self ..) (by exact Int.natCast_nonneg _) (by exact Int.ofNat_lt.mpr hi) (by lia) ?_
  rw [dz13]
  try dsimp only [vI_i]
  have nx:∀ (es:List Int),(H.set a (.list (es.map .int))) = (H.set a (.list (es.map .int)))→K [some (.ref a),some (.int ((i:Int) + 1))] (H.set a (.list (es.map .int)))→G [some (.ref a),some (.int (i:Int))] (H.set a (.list (es.map .int))) := fun es U k => hG _ _ (by
   dsimp only [wpSs,wpS,wpE,dz6,dz5,dz8,dz7,binW,vI_i,oget_s]
   exact k)
  clear hG
  by_cases z:ds.getD i 0 = 0
  ·refine dT z ?_
   dsimp only [wpSs,wpS,wpE,dz5,dz6,oget_s,ixW_i,dz13]
   rw [Hp.set_self]
   try dsimp only [vI_i]
   refine ⟨⟨by exact Int.natCast_nonneg _,by rw [List.length_map]; lia,by rw [List.length_map]; lia⟩,?_⟩
   rw [Hp.set_set,show (ds.map V.int).set i (V.int 1) = (ds.set i 1).map V.int from (List.map_set ..).symm]
   have gs:∀ s,(ds.set i 1).getD s 0 = if s = i then 1 else ds.getD s 0 := fun s => by
    rw [List.getD_eq_getElem?_getD,List.getElem?_set]
    by_cases q:i = s
    ·subst q; rw [if_pos rfl,if_pos hi,if_pos rfl]; rfl
    ·rw [if_neg q,if_neg (fun e => q e.symm),List.getD_eq_getElem?_getD]
   refine nx _ rfl (hK (2 - (i + 1)) _ _ (by lia) ⟨i + 1,ds.set i 1,rfl,rfl,rfl,by rw [List.length_set]; exact h3,by exact Nat.lt_of_le_of_lt ‹_› ‹_›,fun s => ?_,fun s => ?_,fun j hj => ?_,?_⟩)
   ·rw [gs]; split
    ·exact Int.one_nonneg
    ·exact h5 s
   ·rw [gs]; split
    ·next q => subst q; have := h6 s; lia
    ·exact h6 s
   ·rw [gs]; split
    ·lia
    ·exact h7 j (by lia)
   ·rw [np_set _ _ (by rw [ei,z])]; lia
  ·refine dF z ?_
   refine nx _ rfl (hK (2 - (i + 1)) _ _ (by lia) ⟨i + 1,ds,rfl,rfl,rfl,h3,by lia,h5,h6,fun j hj => ?_,h8⟩)
   by_cases q:j = i
   ·subst q; have := h5 j; lia
   ·exact h7 j (by lia)
 ·refine dF (by lia) ?_
  refine hG _ _ ⟨_,Hp.le_refl _,q ds h3 h5 h6 ?_ ?_⟩
  ·rw [np_used]; lia
  ·rw [np_used,np_used]; exact h8
abbrev Rn := Nat × Nat × Nat
noncomputable def rnV (r:Rn):V := .tup [.int (r.1:Int),.int (r.2.1:Int),.int (r.2.2:Int)]
noncomputable def ext (acc:List Nat) (r:Rn):List Nat :=
 if r.1 < 16 then acc ++ [r.1] else if r.1 = 16 then acc ++ List.replicate (3 + r.2.1) (acc.getLastD 0) else if r.1 = 17 then acc ++ List.replicate (3 + r.2.1) 0 else acc ++ List.replicate (11 + r.2.1) 0
noncomputable def rOk (acc:List Nat) (r:Rn):Prop :=
 (r.1 < 16∧r.2.1 = 0∧r.2.2 = 0) ∨ (r.1 = 16∧r.2.1 < 4∧r.2.2 = 2∧acc ≠ []) ∨ (r.1 = 17∧r.2.1 < 8∧r.2.2 = 3) ∨ (r.1 = 18∧r.2.1 < 128∧r.2.2 = 7)
theorem ext_len (acc:List Nat) (r:Rn):acc.length < (ext acc r).length := by
 unfold ext
 split
 ·simp
 ·split
  ·simp; exact Nat.pos_of_neZero (3 + r.snd.fst)
  ·split <;> (simp; lia)
structure RP (rs:List Rn) (L:List Nat):Prop where
 fold:rs.foldl ext [] = L
 ok:∀ i r,rs[i]? = some r→rOk ((rs.take i).foldl ext []) r
 len:rs.length ≤ L.length
theorem RP.nil:RP [] [] := ⟨rfl,by simp,Nat.le_refl _⟩
theorem RP.snoc {rs:List Rn} {L:List Nat} (h:RP rs L) {r:Rn} (hr:rOk L r):RP (rs ++ [r]) (ext L r) where
 fold := by rw [List.foldl_append,h.fold]; rfl
 ok := fun i r' e => by
  by_cases q:i < rs.length
  ·rw [List.getElem?_append_left q] at e
   rw [List.take_append_of_le_length (by exact Nat.le_of_lt ‹_›)]
   exact h.ok i r' e
  ·rw [List.getElem?_append_right (by exact Nat.le_of_not_lt q)] at e
   have q2:i = rs.length := by
    have := (List.getElem?_eq_some_iff.mp e).1
    simp at this; lia
   subst q2
   have:r = r' := by simpa using e
   subst this
   rw [List.take_left,h.fold]; exact hr
 len := by
  have := h.len
  have := ext_len L r
  rw [List.length_append,List.length_singleton]; exact Nat.lt_of_le_of_lt ‹_› ‹_›
theorem RP.one {rs:List Rn} {L:List Nat} (h:RP rs L) {x:Nat} (hx:x < 16):RP (rs ++ [(x,0,0)]) (L ++ [x]) := by
 have := h.snoc (r := (x,0,0)) (.inl ⟨hx,rfl,rfl⟩)
 rwa [ext,if_pos hx] at this
theorem RP.again {rs:List Rn} {A:List Nat} {x j k:Nat} (h:RP rs (A ++ List.replicate (j + 1) x)) (h3:3 ≤ k) (h6:k ≤ 6):RP (rs ++ [(16,k - 3,2)]) (A ++ List.replicate (j + 1 + k) x) := by
 have := h.snoc (r := (16,k - 3,2)) (.inr (.inl ⟨rfl,by show k - 3 < 4; omega,rfl,by simp⟩))
 unfold ext at this
 rw [if_neg (show ¬ 16 < 16 by decide),if_pos rfl,show 3 + (k - 3) = k by exact Nat.add_sub_of_le h3,List.append_assoc] at this
 rw [show (A ++ List.replicate (j + 1) x).getLastD 0 = x by
  rw [List.replicate_succ',← List.append_assoc]; simp [List.getLastD_eq_getLast?]] at this
 rwa [← List.replicate_append_replicate]
theorem RP.few {rs:List Rn} {A:List Nat} {j k:Nat} (h:RP rs (A ++ List.replicate j 0)) (h3:3 ≤ k) (h6:k ≤ 10):RP (rs ++ [(17,k - 3,3)]) (A ++ List.replicate (j + k) 0) := by
 have := h.snoc (r := (17,k - 3,3)) (.inr (.inr (.inl ⟨rfl,by show k - 3 < 8; omega,rfl⟩)))
 unfold ext at this
 rw [if_neg (show ¬ 17 < 16 by decide),if_neg (show ¬ 17 = 16 by decide),if_pos rfl,show 3 + (k - 3) = k by lia,List.append_assoc] at this
 rwa [← List.replicate_append_replicate]
theorem RP.many {rs:List Rn} {A:List Nat} {j k:Nat} (h:RP rs (A ++ List.replicate j 0)) (h3:11 ≤ k) (h6:k ≤ 138):RP (rs ++ [(18,k - 11,7)]) (A ++ List.replicate (j + k) 0) := by
 have := h.snoc (r := (18,k - 11,7)) (.inr (.inr (.inr ⟨rfl,by show k - 11 < 128; omega,rfl⟩)))
 unfold ext at this
 rw [if_neg (show ¬ 18 < 16 by decide),if_neg (show ¬ 18 = 16 by decide),if_neg (show ¬ 18 = 17 by decide),show 11 + (k - 11) = k by exact Nat.add_sub_of_le h3,List.append_assoc] at this
 rwa [← List.replicate_append_replicate]
theorem item_nats {H:Hp} {xs:List Nat} {i:Int} {P:V→Prop} (h0:0 ≤ i) (h1:i < xs.length) (hb:xs.length ≤ big) (hp:P (.int (xs.getD i.toNat 0:Nat))):itemW H (.lst (xs.map nV)) (.int i) P :=
 item_lst h0 (by simpa using h1) (by simpa using hb) (fun v hv => by
  have hlt:i.toNat < xs.length := by exact (Int.toNat_lt h0).mpr h1
  rw [List.getElem?_map,List.getElem?_eq_getElem hlt] at hv
  cases hv
  rwa [getD_lt hlt] at hp)
theorem take_rep {ls:List Nat} {p m x:Nat} (h:∀ j,j < m→ls[p + j]? = some x):ls.take (p + m) = ls.take p ++ List.replicate m x := by
 induction m with
 | zero => simp
 | succ m ih =>
  rw [← Nat.add_assoc,take_snoc (h m (by exact Nat.lt_add_one m)),ih (fun j hj => h j (by exact Nat.lt_succ_of_lt ‹_›)),List.append_assoc,List.replicate_succ']
theorem stop3 {d:Bool} {R:Bool→Prop} (hS:R false) (hA:R false→d = true→R true):∀ c,d = c→R c
 | true,h => hA hS h
 | false,_ => hS
noncomputable def b18w:MSs :=
 .cons (.whl (.cmp .ge (.loc 4) (.cint 3))
  (.cons (.ite (.cmp .gt (.loc 3) (.cint 0))
  (.cons (.asg 5 (.bi .min (.cons (.loc 4) (.cons (.cint 6) .nil)))) (.cons (.expr (.append (.loc 1) (.tup (.cons (.gint "AGAIN_SIGN" 16) (.cons (.bin .sub (.loc 5) (.cint 3)) (.cons (.cint 2) .nil)))))) .nil))
  (.cons (.ite (.cmp .le (.loc 4) (.cint 10))
  (.cons (.asg 5 (.loc 4)) (.cons (.expr (.append (.loc 1) (.tup (.cons (.gint "FEW_NOUGHTS_SIGN" 17) (.cons (.bin .sub (.loc 5) (.cint 3)) (.cons (.cint 3) .nil)))))) .nil))
  (.cons (.asg 5 (.bi .min (.cons (.loc 4) (.cons (.cint 138) .nil)))) (.cons (.expr (.append (.loc 1) (.tup (.cons (.gint "MANY_NOUGHTS_SIGN" 18) (.cons (.bin .sub (.loc 5) (.cint 11)) (.cons (.cint 7) .nil)))))) .nil))) .nil)) (.cons (.asg 4 (.bin .sub (.loc 4) (.loc 5))) .nil))) (.cons (.forr (.one 6) (.range (.cons (.loc 4) .nil))
  (.cons (.expr (.append (.loc 1) (.tup (.cons (.loc 3) (.cons (.cint 0) (.cons (.cint 0) .nil)))))) .nil)) .nil)
theorem k18_tail {A:List Nat} {x t k:Nat} {c0 c2:V} {v5 v6:Option V} {H:Hp} {a:Addr} {rs:List Rn} {K:Loc→Hp→Prop} {Qr:V→Hp→Prop} (hx:x < 16) (hA:A.length + t ≤ 1000) (hr:RP rs (A ++ List.replicate k x)) (hk:k ≤ t) (hk1:0 < x→1 ≤ k)
  (hK:∀ (rs':List Rn) (v4 v5 v6:Option V),RP rs' (A ++ List.replicate t x)→K [some c0,some (.ref a),some c2,some (.int (x:Int)),v4,v5,v6] (H.set a (.list (rs'.map rnV)))) :
  wpSs (Sp 18) b18w K Qr [some c0,some (.ref a),some c2,some (.int (x:Int)),some (.int ((t - k:Nat):Int)),v5,v6] (H.set a (.list (rs.map rnV))) := by
 have hbig := big_eq
 unfold b18w
 refine stepK (fun G hG => ?_)
 dsimp only [wpS,wpE,truthW_b,cmpW,copI,vI_i]
 refine ⟨t + 1,?_⟩
 refine while_inv (fun m l H' => ∃ (rs2:List Rn) (k2:Nat) (w5 w6:Option V),m = t - k2∧l = [some c0,some (.ref a),some c2,some (.int (x:Int)),some (.int ((t - k2:Nat):Int)),w5,w6]∧H' = H.set a (.list (rs2.map rnV))∧RP rs2 (A ++ List.replicate k2 x)∧k2 ≤ t∧(0 < x→1 ≤ k2)) ?_ _ (t - k) (by exact Nat.sub_lt_succ t k) ⟨rs,k,_,_,rfl,rfl,rfl,hr,hk,hk1⟩
 intro m l H' K3 hI9 hK3
 refine ex4_5 hI9 fun rs2 k2 w5 w6 xq1 xq2 xq3 r1 r2 r3 => ?_; clear hI9
 obtain rfl := xq1
 obtain rfl := xq2
 obtain rfl := xq3
 have hrl2 := r1.len
 rw [List.length_append,List.length_replicate] at hrl2
 have hl:(rs2.map rnV).length < big := by rw [List.length_map]; lia
 dsimp only [dz6,dz5,oget_s,vI_i]
 by_cases c3:3 ≤ t - k2
 ·refine dT (by exact Int.toNat_le.mp c3) ?_
  clear hG hK hr hk hk1
  refine stepK (fun G hG => ?_)
  have nx:∀ (g k3:Nat) (r:Rn),k3 = k2 + g→1 ≤ g→g ≤ t - k2→RP (rs2 ++ [r]) (A ++ List.replicate k3 x)→G [some c0,some (.ref a),some c2,some (.int (x:Int)),some (.int ((t - k2:Nat):Int)),some (.int (g:Int)),w6] (H.set a (.list (rs2.map rnV ++ [rnV r]))) := fun g k3 r e g1 g2 rp => hG _ _ (by
   dsimp only [wpSs,wpS,wpE,dz6,dz5,dz8,dz7,binW,oget_s,vI_i]
   refine hK3 (t - k3) _ _ (by lia) ⟨rs2 ++ [r],k3,some (.int (g:Int)),w6,rfl,?_,by rw [List.map_append]; rfl,rp,by lia,fun U => by lia⟩
   rw [show ((t - k2:Nat):Int) - g = ((t - k3:Nat):Int) by rw [e,← Nat.sub_sub]; exact cast_sub g g2])
  clear hG hK3
  dsimp only [wpS,wpE,dz6,dz5,truthW_b,cmpW,copI,vI_i,oget_s]
  by_cases h0:0 < x
  ·refine dT (by exact Int.natCast_pos.mpr h0) ?_
   refine step ?_
   dsimp only [wpS,wpE,wpEs,dz6,dz5,dz8,dz7,biW,twoV_2,vI_i,oget_s]
   refine og fun G hG => ?_
   refine ex1_3 (minN (m := 6) (i := 6) rfl c3 (by decide)) fun g g1 g2 g3 g4 => ?_
   obtain ⟨k3,rfl⟩:∃ k3,k2 = k3 + 1 := ⟨k2 - 1,by have := r3 h0; exact (Nat.sub_eq_iff_eq_add (r3 h0)).mp rfl⟩
   refine hG ?_; clear hG G
   rw [g1]
   dsimp only [wpSs,wpS,wpE,dz6,dz5,wpEs,binW,vI_i,oget_s]
   refine ⟨true,ap_some (Hp.set_self ..),ap_ref hl ⟨rfl,?_⟩⟩
   rw [show (g:Int) - 3 = ((g - 3:Nat):Int) from cast_sub 3 g2]
   exact nx g _ (16,g - 3,2) rfl (by exact Nat.one_le_of_lt g2) g4 (r1.again g2 g3)
  ·refine dF (by lia) ?_
   have x0:x = 0 := by exact Nat.eq_zero_of_not_pos h0
   subst x0
   refine step ?_
   dsimp only [wpS,wpE,dz6,dz5,truthW_b,cmpW,copI,vI_i,oget_s]
   by_cases c10:t - k2 ≤ 10
   ·refine dT (by exact Nat.ToInt.of_le rfl rfl c10) ?_
    refine step ?_
    dsimp only [wpSs,wpS,wpE,wpEs,binW,vI_i,dz6,dz5,dz8,dz7,oget_s]
    refine ⟨true,ap_some (Hp.set_self ..),ap_ref hl ⟨rfl,?_⟩⟩
    rw [show ((t - k2:Nat):Int) - 3 = ((t - k2 - 3:Nat):Int) from cast_sub 3 c3]
    exact nx (t - k2) _ (17,t - k2 - 3,3) rfl (by exact Nat.one_le_of_lt c3) (Nat.le_refl _) (r1.few c3 c10)
   ·refine dF (by lia) ?_
    refine step ?_
    dsimp only [wpS,wpE,wpEs,dz6,dz5,dz8,dz7,biW,twoV_2,vI_i,oget_s]
    refine ex1_3 (minN (m := 138) (i := 138) (k := 11) rfl (Nat.lt_of_not_le c10) (by decide)) fun g g1 g2 g3 g4 => ?_
    rw [g1]
    dsimp only [wpSs,wpS,wpE,dz6,dz5,wpEs,binW,vI_i,oget_s]
    refine ⟨true,ap_some (Hp.set_self ..),ap_ref hl ⟨rfl,?_⟩⟩
    rw [show (g:Int) - 11 = ((g - 11:Nat):Int) from cast_sub 11 g2]
    exact nx g _ (18,g - 11,7) rfl (by exact Nat.one_le_of_lt g2) g4 (r1.many g2 g3)
 ·refine dF (by lia) ?_
  refine hG _ _ (step ?_)
  clear hG hK3 hr hk hk1
  dsimp only [wpSs,wpS,wpI,wpEs,wpE,dz6,dz5,rangeW_1,oget_s,vI_i]
  refine ⟨⟨by exact Int.neg_ofNat_le_natCast 400000 (t - k2),by lia⟩,?_⟩
  refine for_inv (fun i l H' => ∃ (rs3:List Rn) (w6:Option V),l = [some c0,some (.ref a),some c2,some (.int (x:Int)),some (.int ((t - k2:Nat):Int)),w5,w6]∧H' = H.set a (.list (rs3.map rnV))∧RP rs3 (A ++ List.replicate (k2 + i) x)) _ (k := 0) ⟨rs2,w6,rfl,rfl,r1⟩ ?_ ?_
  ·intro i v l H' K4 hv hI9 hK4
   refine ex2_2 hI9 fun rs3 w6 xq4 xq5 r4 => ?_; clear hI9
   obtain rfl := xq4
   obtain rfl := xq5
   have hi := (rangeL_get hv).2
   have hrl3 := r4.len
   rw [List.length_append,List.length_replicate] at hrl3
   rw [Nat.zero_add] at hK4 r4
   dsimp only [bindT_o,dz8,dz7,obind_s,dz6,dz5,oget_s]
   refine ⟨true,ap_some (Hp.set_self ..),ap_ref (by rw [List.length_map]; lia) ⟨rfl,?_⟩⟩
   refine hK4 _ _ ⟨rs3 ++ [(x,0,0)],_,rfl,by rw [List.map_append]; rfl,?_⟩
   have := r4.one hx
   rw [List.append_assoc,← List.replicate_succ'] at this
   exact this
  ·intro l H' hI9
   refine ex2_2 hI9 fun rs3 w6 xq6 xq7 r4 => ?_; clear hI9
   obtain rfl := xq6
   obtain rfl := xq7
   rw [rangeL_len,show k2 + (0 + (((t - k2:Nat):Int) - 0).toNat) = t by rw [Int.sub_zero,Int.toNat_natCast,Nat.zero_add]; exact Nat.add_sub_of_le r2] at r4
   exact hK _ _ _ _ r4
theorem k18 {n:Nat} (hn:18 < n) {ls:List Nat} {H:Hp} {Q:V→Hp→Prop} (hl:ls.length ≤ 1000) (h16:∀ x ∈ ls,x < 16)
  (q:∀ rs,RP rs ls→Q (.lst (rs.map rnV)) H):Sp n 18 [.lst (ls.map nV)] H Q := by
 rw [Sp_at hn]
 refine ⟨rfl,?_⟩
 show wpFn (Sp 18) 7 b18 [.lst (ls.map nV)] H Q
 have hbig := big_eq
 unfold wpFn b18
 show wpSs _ _ _ _ [some (.lst (ls.map nV)),none,none,none,none,none,none] H
 refine step ?_
 dsimp only [wpS,wpE,wpEs,mk,dz10,dz8,dz7]
 refine ⟨Nat.zero_le _,fun a ha => step ?_⟩
 dsimp only [wpS,wpE,dz8,dz7]
 refine stepK (fun G0 hG0 => ?_)
 dsimp only [wpS,wpE,truthW_b,cmpW,copI,wpEs,biW,lenW,vI_i,oneV_1]
 refine ⟨ls.length + 1,?_⟩
 refine while_inv (fun m l H' => ∃ (p:Nat) (rs:List Rn) (v3 v4 v5 v6:Option V),m = ls.length - p∧l = [some (.lst (ls.map nV)),some (.ref a),some (.int (p:Int)),v3,v4,v5,v6]∧H' = H.set a (.list (rs.map rnV))∧p ≤ ls.length∧RP rs (ls.take p)) ?_ _ ls.length (by exact Nat.lt_add_one ls.length) ⟨0,[],none,none,none,none,rfl,rfl,rfl,by exact Nat.zero_le _,RP.nil⟩
 intro m l H' K hI9 hK
 refine ex6_4 hI9 fun p rs v3 v4 v5 v6 xq8 xq9 xq10 hp hr => ?_; clear hI9
 obtain rfl := xq8
 obtain rfl := xq9
 obtain rfl := xq10
 dsimp only [dz6,dz5,oget_s,asSeq_l,vI_i]
 rw [List.length_map]
 refine ⟨by lia,?_⟩
 by_cases c:p < ls.length
 ·refine dT (by exact Int.ofNat_lt.mpr c) ?_
  clear hG0
  refine step ?_
  dsimp only [wpS,wpE,dz5,dz8,dz7,dz6,oget_s]
  refine item_nats (by exact Int.natCast_nonneg _) (by lia) (by lia) ?_
  rw [dz13]
  have ex:ls[p]? = some (ls.getD p 0) := by rw [List.getElem?_eq_getElem c]; simp [c]
  generalize ls.getD p 0 = x at *
  have hx := h16 x (List.mem_of_getElem? ex)
  refine step ?_
  dsimp only [wpS,wpE,dz8,dz7]
  refine stepK (fun G hG => ?_)
  dsimp only [wpS,wpE,wpAnd,truthW_b,cmpW,copI,binW,wpEs,biW,lenW,vI_i,oneV_1]
  refine ⟨ls.length + 1,?_⟩
  refine while_inv (fun m l H' => ∃ (t:Nat),m = ls.length - t∧l = [some (.lst (ls.map nV)),some (.ref a),some (.int (p:Int)),some (.int (x:Int)),some (.int (t:Int)),v5,v6]∧H' = H.set a (.list (rs.map rnV))∧1 ≤ t∧p + t ≤ ls.length∧∀ j,j < t→ls[p + j]? = some x) ?_ _ (ls.length - 1) (by exact Nat.sub_lt_succ ls.length 1) ⟨1,rfl,rfl,rfl,by exact Nat.le_refl _,by assumption,fun j hj => by rw [show p + j = p by lia]; exact ex⟩
  intro m l H' K2 hI9 hK2
  refine ex1_5 hI9 fun t xq11 xq12 xq13 ht1 ht2 ht3 => ?_; clear hI9
  obtain rfl := xq11
  obtain rfl := xq12
  obtain rfl := xq13
  dsimp only [dz6,dz5,oget_s,vI_i,asSeq_l]
  rw [List.length_map]
  refine ⟨by lia,?_⟩
  have SS:G [some (.lst (ls.map nV)),some (.ref a),some (.int (p:Int)),some (.int (x:Int)),some (.int (t:Int)),v5,v6] (H.set a (.list (rs.map rnV))) := hG _ _ (by
   clear hG hK2
   have hrl := hr.len
   rw [List.length_take] at hrl
   have tk := take_rep ht3
   have lt := List.length_take (i := p) (l := ls)
   have fin:∀ (rs':List Rn) (v4 v5 v6:Option V),RP rs' (ls.take p ++ List.replicate t x)→K [some (.lst (ls.map nV)),some (.ref a),some (.int ((p:Int) + t)),some (.int (x:Int)),v4,v5,v6] (H.set a (.list (rs'.map rnV))) := fun rs' v4 v5 v6 r =>
    hK (ls.length - (p + t)) _ _ (by exact Nat.sub_add_lt_sub ht2 ht1) ⟨p + t,rs',_,_,_,_,rfl,rfl,rfl,by assumption,by rw [tk]; exact r⟩
   clear hK tk ht3
   refine step ?_
   dsimp only [wpS,wpE,dz6,dz5,dz8,dz7,binW,oget_s,vI_i]
   refine stepK (fun G hG => ?_)
   dsimp only [wpS,wpE,dz6,dz5,truthW_b,cmpW,copI,vI_i,oget_s]
   by_cases hx0:0 < x
   ·refine dT (by lia:(0:Int) < x) ?_
    refine step ?_
    dsimp only [wpS,wpE,dz6,dz5,wpEs,oget_s]
    refine ⟨true,ap_some (Hp.set_self ..),ap_ref (by rw [List.length_map]; lia) ⟨rfl,?_⟩⟩
    dsimp only [wpSs,wpS,wpE,dz6,dz5,dz8,dz7,binW,vI_i,oget_s]
    refine hG _ _ ?_
    rw [show rs.map rnV ++ [V.tup [.int (x:Int),.int 0,.int 0]] = (rs ++ [(x,0,0)]).map rnV by rw [List.map_append]; rfl,show (t:Int) - 1 = ((t - 1:Nat):Int) by lia]
    exact k18_tail hx (by lia) (hr.one hx) ht1 (fun U => Nat.le_refl _) fin
   ·refine dF (by lia:¬ (0:Int) < x) ?_
    refine hG _ _ ?_
    exact k18_tail (k := 0) hx (by lia) (by simpa using hr) (Nat.zero_le _) (fun h => absurd h hx0) fin)
  clear hG hK
  by_cases hc:(p:Int) + t < ls.length
  ·refine dT hc ?_
   refine item_nats (by lia) (by lia) (by lia) ?_
   rw [show ((p:Int) + t).toNat = p + t by lia]
   have hp2:p + t < ls.length := by lia
   have ey:ls[p + t]? = some (ls.getD (p + t) 0) := by rw [List.getElem?_eq_getElem hp2]; simp [hp2]
   generalize ls.getD (p + t) 0 = y at *
   try dsimp only [vI_i]
   by_cases hc2:(y:Int) = x
   ·refine dT hc2 ?_
    dsimp only [wpSs,wpS,wpE,dz6,dz5,dz8,dz7,binW,vI_i,oget_s]
    refine hK2 (ls.length - (t + 1)) _ _ (by lia) ⟨t + 1,rfl,rfl,rfl,by lia,by lia,fun j hj => ?_⟩
    by_cases q:j = t
    ·rw [q,ey]; congr 1; lia
    ·exact ht3 j (by lia)
   ·refine dF hc2 ?_; exact SS
  ·refine dF hc ?_; exact SS
 ·refine dF (by lia) ?_
  rw [show p = ls.length by lia,List.take_length] at hr
  refine hG0 _ _ ?_
  dsimp only [wpSs,wpS,wpE,dz6,dz5,oget_s]
  rw [Hp.set_self]
  try dsimp only [vI_i]
  rw [Hp.set_erase _ a _ ha]
  exact ⟨H,Hp.le_refl _,q rs hr⟩
noncomputable def cbits (L:List Nat) (s:Nat):List Nat := msb (codeOf L s) (L.getD s 0)
noncomputable def Tk.bits (L D:List Nat):Tk→List Nat
 | .lit c => cbits L c
 | .pair l d => cbits L (257 + lenP l) ++ (lsb (l - (fst LT (lenP l)).toNat) (snd LT (lenP l)).toNat ++ (cbits D (dstP d) ++ lsb (d - (fst DT (dstP d)).toNat) (snd DT (dstP d)).toNat))
noncomputable def Tk.has (L D:List Nat):Tk→Prop
 | .lit c => 0 < L.getD c 0
 | .pair l d => 0 < L.getD (257 + lenP l) 0∧0 < D.getD (dstP d) 0
theorem LT_snd:∀ p,p < 29→0 ≤ snd LT p∧snd LT p ≤ 5∧3 ≤ fst LT p∧(p + 1 < 29→fst LT (p + 1) ≤ fst LT p + 2 ^ (snd LT p).toNat) := by decide
theorem DT_snd:∀ p,p < 30→0 ≤ snd DT p∧snd DT p ≤ 13∧1 ≤ fst DT p∧fst DT p ≤ 32768∧(p + 1 < 30→fst DT (p + 1) ≤ fst DT p + 2 ^ (snd DT p).toNat) := by decide
theorem lt_of_pos {L:List Nat} {s:Nat} (h:0 < L.getD s 0):s < L.length := by
 by_cases q:s < L.length
 ·exact q
 ·rw [List.getD_eq_getElem?_getD,List.getElem?_eq_none (by exact Nat.le_of_not_lt q)] at h
  exact absurd h (by simp)
theorem cod_get {L:List Nat} {s:Nat} (h:0 < L.getD s 0):(mkL L.length (codN L))[s]? = some (.int (codeOf L s:Nat)) := by
 rw [mkL_get _ (lt_of_pos h)]
 unfold codN nV
 rw [if_neg (by exact Nat.ne_of_gt ‹_›)]
theorem msb_len (c k:Nat):(msb c k).length = k := by unfold msb; rw [List.length_reverse,lsb_len]
theorem WrB.isRcd {H:Hp} {d b:Addr} {bits:List Nat} (w:WrB H d b bits):∃ fs,H d = some (.rcd fs) := by
 refine ex3_1 w fun bs h m w U => ?_
 exact ⟨_,w.rcd⟩
theorem item_cod {H:Hp} {L:List Nat} {s:Nat} {P:V→Prop} (h:0 < L.getD s 0) (hb:L.length ≤ 1000) (hp:P (.int (codeOf L s:Nat))):itemW H (.lst (mkL L.length (codN L))) (.int s) P :=
 item_lst (by exact Int.natCast_nonneg _) (by rw [mkL_len]; have := lt_of_pos h; exact Int.ofNat_lt.mpr this) (by rw [mkL_len,big_eq]; lia) (fun v hv => by
  rw [Int.toNat_natCast,cod_get h] at hv
  cases hv; exact hp)
theorem item_len {H:Hp} {L:List Nat} {s:Nat} {P:V→Prop} (h:0 < L.getD s 0) (hb:L.length ≤ 1000) (hp:P (.int (L.getD s 0:Nat))):itemW H (.lst (L.map nV)) (.int s) P :=
 item_nats (by exact Int.natCast_nonneg _) (by have := lt_of_pos h; lia) (by rw [big_eq]; lia) (by rw [Int.toNat_natCast]; exact hp)
theorem SgOk.same {H H':Hp} {dS d b:Addr} (h:SgOk H dS) (s:Same2 H H' d b) (h1:dS ≠ d) (h2:dS ≠ b):SgOk H' dS := by
 unfold SgOk at *; rw [s dS h1 h2]; exact h
theorem place_ex {f:Nat→Int} {x:Int} (h0:f 0 ≤ x):∀ N,0 < N→∃ p,p < N∧f p ≤ x∧(p + 1 = N ∨ x < f (p + 1))
 | 1,_ => ⟨0,by assumption,h0,.inl rfl⟩
 | N + 2,_ => by
  refine ex1_2 (place_ex h0 (N + 1) (by exact Nat.succ_pos _)) fun p h1 h2 h3 => ?_
  rcases h3 with h3 | h3
  ·by_cases q:f (N + 1) ≤ x
   ·exact ⟨N + 1,by exact Nat.lt_add_one (N + 1),q,.inl rfl⟩
   ·refine ⟨p,by exact Nat.lt_succ_of_lt h1,h2,.inr ?_⟩
    rw [h3]; exact Int.lt_of_not_ge q
  ·exact ⟨p,by exact Nat.lt_succ_of_lt h1,h2,.inr h3⟩
theorem rest_len {l:Nat} (o1:3 ≤ l) (o2:l ≤ 258):∃ f e:Nat,fst LT (lenP l) = (f:Int)∧snd LT (lenP l) = (e:Int)∧f ≤ l∧l - f < 2 ^ e∧e ≤ 5 := by
 refine ex1_2 (place_ex (f := fst LT) (x := (l:Int)) (by show (3:Int) ≤ l; exact Int.toNat_le.mp o1) 29 (by exact Nat.succ_pos _)) fun p hp p1 p2 => ?_
 have ep := lenP_of hp o1 (.inr p1) p2
 subst ep
 refine ex0_3 (LT_snd _ hp) fun u1 u2 u3 u4 => ?_
 refine ⟨(fst LT (lenP l)).toNat,(snd LT (lenP l)).toNat,by lia,by exact Int.eq_natCast_toNat.mpr u1,by exact Int.toNat_le.mpr p1,?_,by exact Int.toNat_le.mpr u2⟩
 have pw:((2:Int) ^ (snd LT (lenP l)).toNat) = ((2 ^ (snd LT (lenP l)).toNat:Nat):Int) := by simp
 have p0:0 < 2 ^ (snd LT (lenP l)).toNat := Nat.pow_pos (by exact Nat.zero_lt_two)
 by_cases h29:lenP l + 1 < 29
 ·have := u4 h29
  rw [pw] at this
  lia
 ·have h28:lenP l = 28 := by lia
  have:fst LT (lenP l) = 258 := by rw [h28]; rfl
  lia
theorem rest_dst {d:Nat} (o1:1 ≤ d) (o2:d ≤ 32768):∃ f e:Nat,fst DT (dstP d) = (f:Int)∧snd DT (dstP d) = (e:Int)∧f ≤ d∧d - f < 2 ^ e∧e ≤ 13 := by
 refine ex1_2 (place_ex (f := fst DT) (x := (d:Int)) (by show (1:Int) ≤ d; exact Int.toNat_le.mp o1) 30 (by exact Nat.succ_pos _)) fun p hp p1 p2 => ?_
 have ep := dstP_of hp o1 (.inr p1) p2
 subst ep
 refine ex0_4 (DT_snd _ hp) fun u1 u2 u3 u4 u5 => ?_
 refine ⟨(fst DT (dstP d)).toNat,(snd DT (dstP d)).toNat,by lia,by exact Int.eq_natCast_toNat.mpr u1,by exact Int.toNat_le.mpr p1,?_,by exact Int.toNat_le.mpr u2⟩
 have pw:((2:Int) ^ (snd DT (dstP d)).toNat) = ((2 ^ (snd DT (dstP d)).toNat:Nat):Int) := by simp
 by_cases h30:dstP d + 1 < 30
 ·have := u5 h30
  rw [pw] at this
  lia
 ·have h29:dstP d = 29 := by lia
  have g1:fst DT (dstP d) = 24577 := by rw [h29]; rfl
  have g2:(snd DT (dstP d)).toNat = 13 := by rw [h29]; rfl
  rw [g2]
  have:(2:Nat) ^ 13 = 8192 := by decide
  lia
theorem tkbits_len {L D:List Nat} (hL:LOk 15 L) (hD:LOk 15 D) {t:Tk} (h:t.ok):(Tk.bits L D t).length ≤ 48 := by
 cases t with
 | lit c =>
  show (cbits L c).length ≤ 48
  unfold cbits
  rw [msb_len]
  have := hL.le c
  lia
 | pair l d =>
  refine og fun G hG => ?_
  refine ex2_4 (rest_len h.1.1 h.1.2) fun f e ef ee fl rl e5 => ?_
  refine ex2_4 (rest_dst h.2.1 h.2.2) fun f' e' ef' ee' fl' rl' e13 => ?_
  refine hG ?_; clear hG G
  show (cbits L (257 + lenP l) ++ (lsb (l - (fst LT (lenP l)).toNat) (snd LT (lenP l)).toNat ++ (cbits D (dstP d) ++ lsb (d - (fst DT (dstP d)).toNat) (snd DT (dstP d)).toNat))).length ≤ 48
  unfold cbits
  simp only [List.length_append,msb_len,lsb_len,ee,ee',Int.toNat_natCast]
  have := hL.le (257 + lenP l)
  have := hD.le (dstP d)
  lia
theorem flat_le {α:Type} {f:α→List Nat} {c:Nat}:∀ xs:List α,(∀ x ∈ xs,(f x).length ≤ c)→(xs.flatMap f).length ≤ c * xs.length
 | [],_ => Nat.zero_le _
 | x :: r,h => by
  have h1 := flat_le r (fun y hy => h y (by simp [hy]))
  have h2 := h x (by simp)
  rw [List.flatMap_cons,List.length_append,List.length_cons,Nat.mul_succ]; lia
theorem flat_take {α:Type} {f:α→List Nat} {c:Nat} (xs:List α) (i:Nat) (h:∀ x ∈ xs,(f x).length ≤ c):((xs.take i).flatMap f).length ≤ c * xs.length := by
 refine Nat.le_trans (flat_le _ (fun x hx => h x (List.mem_of_mem_take hx))) (Nat.mul_le_mul_left _ ?_)
 rw [List.length_take]; exact Nat.min_le_right i xs.length
theorem le_mem {M:Nat} {ls:List Nat} (h:∀ s,ls.getD s 0 ≤ M):∀ x ∈ ls,x ≤ M := fun x hx => by
 refine ex1_0 (List.mem_iff_getElem?.mp hx) fun i hi => ?_
 have := h i
 rw [List.getD_eq_getElem?_getD,hi] at this
 exact this
theorem bits_pair {L D:List Nat} {l d f e f' e':Nat} (ef:fst LT (lenP l) = (f:Int)) (ee:snd LT (lenP l) = (e:Int)) (ef':fst DT (dstP d) = (f':Int)) (ee':snd DT (dstP d) = (e':Int)) :
  Tk.bits L D (.pair l d) = cbits L (257 + lenP l) ++ (lsb (l - f) e ++ (cbits D (dstP d) ++ lsb (d - f') e')) := by
 show cbits L (257 + lenP l) ++ (lsb (l - (fst LT (lenP l)).toNat) (snd LT (lenP l)).toNat ++ (cbits D (dstP d) ++ lsb (d - (fst DT (dstP d)).toNat) (snd DT (dstP d)).toNat)) = _
 rw [ee,ef,ee',ef']; rfl
theorem put_code {H:Hp} {Q:V→Hp→Prop} {d b:Addr} {bits L:List Nat} {s:Nat} (w:WrB H d b bits) (h:0 < L.getD s 0) (h15:L.getD s 0 ≤ 15) (hb:L.length ≤ 1000) (hl:bits.length ≤ 100000)
  (q:∀ H',WrB H' d b (bits ++ cbits L s)→Same2 H H' d b→Q .none H'):itemW H (.lst (mkL L.length (codN L))) (.int s) fun v => itemW H (.lst (L.map nV)) (.int s) fun v' => Sp 16 2 [.obj aBW d,v,v'] H Q :=
 item_cod h hb (item_len h hb (k2 (by decide) w (by lia) hl q))
theorem b16_pair {H:Hp} {dS d b:Addr} {bits L D:List Nat} {l' d':Nat} {c2:V} {v8 v9 v10:Option V} {K:Loc→Hp→Prop} {Qr:V→Hp→Prop} (w:WrB H d b bits) (sg:SgOk H dS) (h1:dS ≠ d) (h2:dS ≠ b)
  (hL:LOk 15 L) (hD:LOk 15 D) (hL1:L.length ≤ 1000) (hD1:D.length ≤ 1000) (tok:(Tk.pair l' d').ok) (thas:(Tk.pair l' d').has L D) (hb:bits.length ≤ 99900)
  (hK:∀ H' v8 v9 v10,WrB H' d b (bits ++ Tk.bits L D (.pair l' d'))→Same2 H H' d b→K [some (.obj aDS dS),some (.obj aBW d),some c2,some (.lst (L.map nV)),some (.lst (D.map nV)),some (.lst (mkL L.length (codN L))),some (.lst (mkL D.length (codN D))),some (.tup [.int (l':Int),.int (d':Int)]),v8,v9,v10] H') :
  wpSs (Sp 16) (.cons (.unp [8,9,10] (.meth 10 aDS (.loc 0) (.cons (.item (.loc 7) (.cint 0)) .nil))) (.cons (.expr (.meth 2 aBW (.loc 1) (.cons (.item (.loc 5) (.loc 8)) (.cons (.item (.loc 3) (.loc 8)) .nil)))) (.cons (.expr (.meth 1 aBW (.loc 1) (.cons (.loc 9) (.cons (.loc 10) .nil)))) (.cons (.unp [8,9,10] (.meth 11 aDS (.loc 0) (.cons (.item (.loc 7) (.cint 1)) .nil))) (.cons (.expr (.meth 2 aBW (.loc 1) (.cons (.item (.loc 6) (.loc 8)) (.cons (.item (.loc 4) (.loc 8)) .nil)))) (.cons (.expr (.meth 1 aBW (.loc 1) (.cons (.loc 9) (.cons (.loc 10) .nil)))) .nil)))))) K Qr
   [some (.obj aDS dS),some (.obj aBW d),some c2,some (.lst (L.map nV)),some (.lst (D.map nV)),some (.lst (mkL L.length (codN L))),some (.lst (mkL D.length (codN D))),some (.tup [.int (l':Int),.int (d':Int)]),v8,v9,v10] H := by
 refine og fun G hG => ?_
 refine ex0_1 thas fun t1 t2 => ?_; clear thas
 refine ex2_4 (rest_len tok.1.1 tok.1.2) fun f e ef ee fl rl e5 => ?_
 refine ex2_4 (rest_dst tok.2.1 tok.2.2) fun f' e' ef' ee' fl' rl' e13 => ?_
 refine hG ?_; clear hG G
 rw [bits_pair ef ee ef' ee'] at hK
 have c15 := hL.le (257 + lenP l')
 have c15' := hD.le (dstP d')
 have lb1:(cbits L (257 + lenP l')).length ≤ 15 := by unfold cbits; rw [msb_len]; exact c15
 have lb2:(cbits D (dstP d')).length ≤ 15 := by unfold cbits; rw [msb_len]; exact c15'
 refine stepK (fun G hG => ?_)
 dsimp only [wpS,wpE,dz5,wpEs,dz6,oget_s]
 repeat first | refine bW ?_ | refine bD ?_
 refine ⟨⟨_,sg⟩,item_tup0 (by simp) (k10 (n := 16) (by decide) sg (fun p hp p1 p2 => ?_))⟩
 have ep := lenP_of hp tok.1.1 p1 p2
 subst ep
 dsimp only [bindT_m,bindM_c,dz8,dz7,bindM_n,obind_s]
 refine hG _ _ (stepK (fun G2 hG2 => ?_))
 clear hG p1 p2 hp
 rw [show (257:Int) + (lenP l':Int) = ((257 + lenP l':Nat):Int) by exact Int.natCast_add _ _,ee,ef,show (l':Int) - f = ((l' - f:Nat):Int) by exact Eq.symm (Int.ofNat_sub fl)]
 dsimp only [wpS,wpE,dz6,dz5,wpEs,oget_s]
 repeat first | refine bW ?_ | refine bD ?_
 refine ⟨w.isRcd,put_code w t1 c15 hL1 (by lia) (fun H2 w2 s2 => ⟨rfl,hG2 _ _ (stepK (fun G3 hG3 => ?_))⟩)⟩
 clear hG2
 dsimp only [wpS,wpE,dz6,dz5,wpEs,oget_s]
 repeat first | refine bW ?_ | refine bD ?_
 refine ⟨w2.isRcd,k1 (n := 16) (by decide) w2 rl (by lia) (by rw [List.length_append]; lia) (fun H3 w3 s3 => ⟨rfl,hG3 _ _ (stepK (fun G4 hG4 => ?_))⟩)⟩
 clear hG3
 have s23 := s2.trans s3
 have sg3 := sg.same s23 h1 h2
 clear s2 s3 w2 w sg
 dsimp only [wpS,wpE,dz5,wpEs,dz6,oget_s]
 repeat first | refine bW ?_ | refine bD ?_
 refine ⟨⟨_,sg3⟩,item_tup1 (by simp) (k11 (n := 16) (by decide) sg3 (fun p' hp' p1' p2' => ?_))⟩
 have ep' := dstP_of hp' tok.2.1 p1' p2'
 subst ep'
 dsimp only [bindT_m,bindM_c,dz8,dz7,bindM_n,obind_s]
 refine hG4 _ _ (stepK (fun G5 hG5 => ?_))
 clear hG4 p1' p2' hp'
 rw [ee',ef',show (d':Int) - f' = ((d' - f':Nat):Int) by lia]
 dsimp only [wpS,wpE,dz6,dz5,wpEs,oget_s]
 repeat first | refine bW ?_ | refine bD ?_
 refine ⟨w3.isRcd,put_code w3 t2 c15' hD1 (by simp only [List.length_append,lsb_len]; lia) (fun H4 w4 s4 => ⟨rfl,hG5 _ _ (step ?_)⟩)⟩
 clear hG5
 dsimp only [wpSs,wpS,wpE,dz6,dz5,wpEs,oget_s]
 repeat first | refine bW ?_ | refine bD ?_
 refine ⟨w4.isRcd,k1 (n := 16) (by decide) w4 rl' (by lia) (by simp only [List.length_append,lsb_len]; lia) (fun H5 w5 s5 => ⟨rfl,hK _ _ _ _ ?_ ((s23.trans s4).trans s5)⟩)⟩
 have w6 := w5
 simp only [List.append_assoc] at w6
 exact w6
theorem k16 {n:Nat} (hn:16 < n) {H:Hp} {Q:V→Hp→Prop} {dS d b:Addr} {bits L D:List Nat} {ts:List Tk} (w:WrB H d b bits) (sg:SgOk H dS) (h1:dS ≠ d) (h2:dS ≠ b)
  (hL:LOk 15 L) (hD:LOk 15 D) (hL1:L.length ≤ 1000) (hD1:D.length ≤ 1000) (hD0:D ≠ []) (he:0 < L.getD 256 0) (ht:∀ t ∈ ts,t.ok∧t.has L D) (hn1:ts.length ≤ 100) (hb:bits.length ≤ 90000)
  (q:∀ H',WrB H' d b (bits ++ (ts.flatMap (Tk.bits L D) ++ cbits L 256))→Same2 H H' d b→Q .none H'):Sp n 16 [.obj aDS dS,.obj aBW d,.lst (ts.map Tk.v),.lst (L.map nV),.lst (D.map nV)] H Q := by
 rw [Sp_at hn]
 refine ⟨rfl,?_⟩
 show wpFn (Sp 16) 11 (b16 aBW aDS) [.obj aDS dS,.obj aBW d,.lst (ts.map Tk.v),.lst (L.map nV),.lst (D.map nV)] H Q
 have hbig := big_eq
 unfold wpFn b16
 show wpSs _ _ _ _ [some (.obj aDS dS),some (.obj aBW d),some (.lst (ts.map Tk.v)),some (.lst (L.map nV)),some (.lst (D.map nV)),none,none,none,none,none,none] H
 refine step (k15 (n := 16) (by decide) (by intro e; rw [e] at he; simp at he) hL1 (fun x hx => le_mem hL.le x hx) ?_)
 refine step (k15 (n := 16) (by decide) hD0 hD1 (fun x hx => le_mem hD.le x hx) ?_)
 have bl:∀ i,((ts.take i).flatMap (Tk.bits L D)).length ≤ 48 * ts.length := fun i => flat_take ts i (fun t h => tkbits_len hL hD (ht t h).1)
 refine stepK (fun G hG => ?_)
 dsimp only [dz8,dz7,wpS,wpI,wpE,dz6,dz5,oget_s,frozenSeq_l]
 refine ⟨by rw [List.length_map]; lia,?_⟩
 refine for_inv (fun i l H' => ∃ v7 v8 v9 v10,l = [some (.obj aDS dS),some (.obj aBW d),some (.lst (ts.map Tk.v)),some (.lst (L.map nV)),some (.lst (D.map nV)),some (.lst (mkL L.length (codN L))),some (.lst (mkL D.length (codN D))),v7,v8,v9,v10]∧WrB H' d b (bits ++ (ts.take i).flatMap (Tk.bits L D))∧Same2 H H' d b) _ (k := 0) ⟨none,none,none,none,rfl,by simpa using w,Same2.refl H d b⟩ ?_ ?_
 ·intro i v l H' K hv hI9 hK
  refine ex4_2 hI9 fun v7 v8 v9 v10 xq1 w' s' => ?_; clear hI9
  obtain rfl := xq1
  clear hG q
  rw [List.getElem?_map] at hv
  refine og fun G hG => ?_
  refine ex1_1 (Option.map_eq_some_iff.mp hv) fun t et xq1 => ?_
  obtain rfl := xq1
  have hbl := bl i
  refine ex0_1 (ht t (List.mem_of_getElem? et)) fun tok thas => ?_
  refine hG ?_; clear hG G
  rw [Nat.zero_add] at hK w'
  have sg' := sg.same s' h1 h2
  have hbs:(bits ++ (ts.take i).flatMap (Tk.bits L D)).length ≤ 99900 := by rw [List.length_append]; lia
  have hK2:∀ H2 v8 v9 v10,WrB H2 d b (bits ++ (ts.take i).flatMap (Tk.bits L D) ++ Tk.bits L D t)→Same2 H' H2 d b→K [some (.obj aDS dS),some (.obj aBW d),some (.lst (ts.map Tk.v)),some (.lst (L.map nV)),some (.lst (D.map nV)),some (.lst (mkL L.length (codN L))),some (.lst (mkL D.length (codN D))),some t.v,v8,v9,v10] H2 := fun H2 v8 v9 v10 w2 s2 => hK _ _ ⟨_,_,_,_,rfl,by
   rw [take_snoc et,List.flatMap_append,← List.append_assoc,List.flatMap_cons,List.flatMap_nil,List.append_nil]
   exact w2,s'.trans s2⟩
  clear hK hbl bl ht et hv
  generalize bits ++ (ts.take i).flatMap (Tk.bits L D) = bs at *
  refine stepK (fun G hG => ?_)
  cases t with
  | lit c =>
   rw [Tk.v] at hK2 ⊢
   dsimp only [dz8,dz7,wpS,wpE,wpEs,dz6,dz5,truthW_b,cmpW,copI,vI_i,biW,lenW,oneV_1,oget_s,asSeq_t,dz9,dz10]
   refine ⟨by decide,step ?_⟩
   dsimp only [wpS,wpE,dz6,dz5,wpEs,oget_s]
   repeat first | refine bW ?_ | refine bD ?_
   have h0:0 < L.getD c 0 := thas
   refine ⟨w'.isRcd,item_tup0 (by simp) (item_cod h0 hL1 ?_)⟩
   refine item_tup0 (by simp) (item_len h0 hL1 (k2 (n := 16) (by decide) w' (by have := hL.le c; lia) (by lia) (fun H2 w2 s2 => ⟨rfl,hG _ _ (hK2 _ _ _ _ w2 s2)⟩)))
  | pair l' d' =>
   rw [Tk.v] at hK2 ⊢
   dsimp only [dz8,dz7,wpS,wpE,wpEs,dz6,dz5,truthW_b,cmpW,copI,vI_i,biW,lenW,oneV_1,oget_s,asSeq_t,dz9,dz10]
   refine ⟨by decide,?_⟩
   rw [show decide (((0 + 1 + 1:Nat):Int) = 1) = false from rfl]
   exact b16_pair w' sg' h1 h2 hL hD hL1 hD1 tok thas hbs (fun H2 v8 v9 v10 w2 s2 => hG _ _ (hK2 _ _ _ _ w2 s2))
 ·intro l H' hI9
  refine ex4_2 hI9 fun v7 v8 v9 v10 xq2 w' s' => ?_; clear hI9
  obtain rfl := xq2
  rw [List.length_map,Nat.zero_add,List.take_length] at w'
  have hbl := bl ts.length
  rw [List.take_length] at hbl
  refine hG _ _ (step ?_)
  dsimp only [wpSs,wpS,wpE,dz6,dz5,wpEs,oget_s]
  repeat first | refine bW ?_ | refine bD ?_
  refine ⟨w'.isRcd,put_code (s := 256) w' he (by have := hL.le 256; assumption) hL1 (by rw [List.length_append]; lia) (fun H2 w2 s2 => ⟨rfl,H2,Hp.le_refl _,q H2 (by rw [List.append_assoc] at w2; exact w2) (s'.trans s2)⟩)⟩
theorem Hp.le_set2 {H H':Hp} {a:Addr} {c:Cell} (h:H.le H') (ha:H a = none):H.le (H'.set a c) := fun b o e => by
 rw [Hp.set_ne _ _ (fun q => by subst q; rw [ha] at e; cases e)]; exact h b o e
theorem none_of_le {H H':Hp} {a:Addr} (h:H.le H') (ha:H' a = none):H a = none := by
 cases e:H a with
 | none => rfl
 | some o => rw [h a o e] at ha; cases ha
theorem ap_at {H:Hp} {a:Addr} {xs:List V} {v:V} {Q:V→Hp→Prop} (e:H a = some (.list xs)) (hb:xs.length < big) (q:Q .none (H.set a (.list (xs ++ [v])))):appendW (.ref a) v Q H := by
 unfold appendW
 try dsimp only [vI_i]
 rw [e]
 exact ⟨hb,q⟩
noncomputable def lensV (x:Int):List V := [V.int 3,V.int 258,V.int 11,V.int (3 + x / 4 % 256),V.int 257,V.int 18,V.int 227]
theorem item_lens {H:Hp} {x:Nat} (P:V→Prop) (hP:∀ g:Nat,3 ≤ g→g ≤ 258→P (.int (g:Int))):itemW H (.lst (lensV x)) (.int ((x:Int) / 4 % 7)) P := by
 refine item_lst (by exact Int.natCast_nonneg _) (by show (x:Int) / 4 % 7 < 7; lia) (show 7 ≤ big by decide) (fun v hv => ?_)
 obtain ⟨j,ej,hj⟩:∃ j:Nat,((x:Int) / 4 % 7).toNat = j∧j < 7 := ⟨_,rfl,by lia⟩
 obtain ⟨g,hg⟩:∃ g:Nat,(3:Int) + (x:Int) / 4 % 256 = (g:Int) := ⟨3 + x / 4 % 256,by exact Int.natCast_add _ _⟩
 unfold lensV at hv
 rw [ej,hg] at hv
 rcases j with _ | _ | _ | _ | _ | _ | _ | j
 ·cases hv; exact hP 3 (by decide) (by decide)
 ·cases hv; exact hP 258 (by decide) (by decide)
 ·cases hv; exact hP 11 (by decide) (by decide)
 ·cases hv; exact hP g (by lia) (by lia)
 ·cases hv; exact hP 257 (by decide) (by decide)
 ·cases hv; exact hP 18 (by decide) (by decide)
 ·cases hv; exact hP 227 (by decide) (by decide)
 ·lia
theorem k28 {n:Nat} (hn:28 < n) {cells:List Nat} {H:Hp} {Q:V→Hp→Prop} (hl:cells.length ≤ 20) (hc:∀ x ∈ cells,x < 10 ^ 7)
  (q:∀ ts:List Tk,(∀ t ∈ ts,t.ok)→ts.length ≤ 30→Q (.lst (ts.map Tk.v)) H):Sp n 28 [.lst (cells.map nV)] H Q := by
 rw [Sp_at hn]
 refine ⟨rfl,?_⟩
 show wpFn (Sp 28) 6 b28 [.lst (cells.map nV)] H Q
 have hbig := big_eq
 unfold wpFn b28
 show wpSs _ _ _ _ [some (.lst (cells.map nV)),none,none,none,none,none] H
 refine step ?_
 dsimp only [wpS,wpE,wpEs,mk,dz10,dz8,dz7]
 refine ⟨Nat.zero_le _,fun a ha => stepK (fun G0 hG0 => ?_)⟩
 dsimp only [wpS,wpI,wpE,dz5,oget_s,frozenSeq_l]
 refine ⟨by rw [List.length_map]; lia,?_⟩
 refine for_inv (fun i l H' => ∃ (c:Addr) (ts:List Tk) (v2 v3 v4 v5:Option V),l = [some (.lst (cells.map nV)),some (.ref c),v2,v3,v4,v5]∧H' c = some (.list (ts.map Tk.v))∧(H.le H'∧H c = none)∧(∀ t ∈ ts,t.ok)∧ts.length ≤ 5 * i) _ (k := 0) ⟨a,[],none,none,none,none,rfl,Hp.set_self ..,⟨Hp.le_set ha,ha⟩,by simp,by simp⟩ ?_ ?_
 ·intro i v l H' K hv hI9 hK
  refine ex6_4 hI9 fun c ts v2 v3 v4 v5 xq1 e xq2 hok hlen => ?_; clear hI9
  obtain rfl := xq1
  obtain ⟨hle,hcn⟩ := xq2
  clear hG0 q
  rw [List.getElem?_map] at hv
  refine ex1_1 (Option.map_eq_some_iff.mp hv) fun x ex xq1 => ?_
  obtain rfl := xq1
  have hil := (List.getElem?_eq_some_iff.mp ex).1
  rw [Nat.zero_add] at hK hlen
  have hx := hc x (List.mem_of_getElem? ex)
  have tl:(ts.map Tk.v).length < big := by rw [List.length_map]; lia
  have nx:∀ (t:Tk) (w2 w3 w4 w5:Option V),t.ok→K [some (.lst (cells.map nV)),some (.ref c),w2,w3,w4,w5] (H'.set c (.list (ts.map Tk.v ++ [t.v]))) := fun t w2 w3 w4 w5 ht =>
   hK _ _ ⟨c,ts ++ [t],_,_,_,_,rfl,by rw [Hp.set_self,List.map_append]; rfl,⟨Hp.le_set2 hle hcn,hcn⟩,fun t' h' => by
    rcases List.mem_append.mp h' with h' | h'
    ·exact hok t' h'
    ·rw [List.mem_singleton.mp h']; exact ht,by rw [List.length_append,List.length_singleton]; lia⟩
  have nm:∀ (c':Addr) (n:Nat) (t:Tk) (w2 w3 w4 w5:Option V),H' c' = none→n ≤ 5→t.ok→K [some (.lst (cells.map nV)),some (.ref c'),w2,w3,w4,w5] (H'.set c' (.list (ts.map Tk.v ++ List.replicate n t.v))) := fun c' n t w2 w3 w4 w5 hc' hn ht =>
   hK _ _ ⟨c',ts ++ List.replicate n t,_,_,_,_,rfl,by rw [Hp.set_self,List.map_append,List.map_replicate],⟨Hp.le_trans hle (Hp.le_set hc'),none_of_le hle hc'⟩,fun t' h' => by
    rcases List.mem_append.mp h' with h' | h'
    ·exact hok t' h'
    ·rw [(List.mem_replicate.mp h').2]; exact ht,by rw [List.length_append,List.length_replicate]; exact Nat.add_le_add ‹_› ‹_›⟩
  clear hK hok ex hv
  refine step ?_
  rw [nV]
  dsimp only [dz8,dz7,wpS,wpEs,wpE,dz6,dz5,bindM_c,bindM_n,obind_s,binW,vI_i,oget_s]
  refine ⟨by decide,⟨by decide,by omega,by decide⟩,?_⟩
  refine stepK (fun G hG => ?_)
  dsimp only [wpS,wpE,dz6,dz5,truthW_b,cmpW,copI,vI_i,oget_s]
  have x62:((x:Int) / 4 % 7).natAbs < 2 ^ 62 := by lia
  by_cases c0:(x:Int) % 4 = 0
  ·refine dT c0 ?_
   refine step ?_
   dsimp only [wpS,wpE,dz6,dz5,wpEs,binW,vI_i,oget_s]
   refine ⟨true,ap_some e,by decide,⟨x62,by decide⟩,ap_some e,ap_at e tl ⟨rfl,hG _ _ ?_⟩⟩
   have := nx (.lit (x / 4 % 7 * 37)) (some (.int (x:Int))) (some (.int ((x:Int) % 4))) (some (.int ((x:Int) / 4))) v5 (by show _ < 256; lia)
   rw [show Tk.v (.lit (x / 4 % 7 * 37)) = V.tup [.int ((x:Int) / 4 % 7 * 37)] by unfold Tk.v; simp] at this
   exact this
  refine dF c0 ?_
  refine stepK (fun G1 hG1 => ?_)
  have hG2:∀ l H,K l H→G1 l H := fun l H k => hG1 _ _ (hG _ _ k)
  clear hG1 hG G
  dsimp only [wpS,wpE,dz6,dz5,truthW_b,cmpW,copI,vI_i,oget_s]
  by_cases c1:(x:Int) % 4 = 1
  ·refine dT c1 ?_
   refine step ?_
   dsimp only [wpS,wpE,dz6,dz5,dz8,dz7,mk,wpEs,asList_r,asList_l,binW,dz13,vI_i,oget_s]
   obtain ⟨g,hg⟩:∃ g:Nat,(1:Int) + (x:Int) / 4 / 256 % 5 = (g:Int) := ⟨1 + x / 4 / 256 % 5,by exact Int.natCast_add _ _⟩
   rw [hg,dz13]
   refine ⟨by decide,⟨by decide,by omega,by decide⟩,by decide,⟨by exact Int.natCast_nonneg _,by lia⟩,by rw [List.length_replicate]; lia,?_⟩
   rw [e]
   try dsimp only [vI_i]
   refine ⟨by rw [List.length_append,List.length_map,List.length_replicate]; lia,fun c' hc' => hG2 _ _ ?_⟩
   exact nm c' g (.lit (x / 4 % 256)) _ _ _ _ hc' (by lia) (by show _ < 256; lia)
  refine dF c1 ?_
  refine stepK (fun G hG => ?_)
  suffices g:∀ b:Nat,1 ≤ b→b ≤ 32768→G [some (.lst (cells.map nV)),some (.ref c),some (.int (x:Int)),some (.int ((x:Int) % 4)),some (.int ((x:Int) / 4)),some (.int (b:Int))] H' by
   dsimp only [wpS,wpE,dz6,dz5,dz8,dz7,binW,vI_i,oget_s,truthW_b,cmpW,copI]
   by_cases c2:(x:Int) % 4 = 2
   ·refine dT c2 ?_
    refine ⟨⟨by decide,by lia,by decide⟩,by decide,?_⟩
    rw [show (1:Int) + (x:Int) / 4 / 7 % 32768 = ((1 + x / 4 / 7 % 32768:Nat):Int) by lia]
    exact g _ (by lia) (by lia)
   ·refine dF c2 ?_
    refine ⟨by decide,?_⟩
    rw [show (1:Int) + (x:Int) / 4 % 9 = ((1 + x / 4 % 9:Nat):Int) by lia]
    exact g _ (by lia) (by lia)
  intro b b1 b2
  refine hG _ _ (step ?_)
  clear hG
  dsimp only [wpS,wpE,dz6,dz5,wpEs,oget_s,binW,vI_i,mk,dz9,dz10]
  refine ⟨true,ap_some e,by decide,(show 7 ≤ big by decide),by decide,item_lens _ (fun g g1 g2 => ⟨ap_some e,ap_at e tl ⟨rfl,hG2 _ _ ?_⟩⟩)⟩
  exact nx (.pair g b) _ _ _ _ ⟨⟨g1,g2⟩,b1,b2⟩
 ·intro l H' hI9
  refine ex6_4 hI9 fun c ts v2 v3 v4 v5 xq3 e xq4 hok hlen => ?_; clear hI9
  obtain rfl := xq3
  obtain ⟨hle,hcn⟩ := xq4
  rw [List.length_map] at hlen
  refine hG0 _ _ ?_
  dsimp only [wpSs,wpS,wpE,dz6,dz5,mk,oget_s,asList_r]
  rw [e]
  try dsimp only [vI_i]
  refine ⟨(ts.take 30).map Tk.v,⟨?_,by rw [List.length_map]; lia⟩,by rw [List.length_map,List.length_take]; lia,H,hle,q _ (fun t ht => hok t (List.mem_of_mem_take ht)) (by rw [List.length_take]; lia)⟩
  rw [show (30:Int) = ((30:Nat):Int) from rfl,slice_to (by lia),List.map_take]
theorem getD_take {ls:List Nat} {m:Nat} (h:∀ j,m ≤ j→ls.getD j 0 = 0) (s:Nat):(ls.take m).getD s 0 = ls.getD s 0 := by
 by_cases q:s < m
 ·rw [List.getD_eq_getElem?_getD,List.getElem?_take,if_pos q,List.getD_eq_getElem?_getD]
 ·rw [h s (by exact Nat.le_of_not_lt q),List.getD_eq_getElem?_getD,List.getElem?_take,if_neg q]; rfl
theorem used_ext {cs ds:List Int} (hl:cs.length = ds.length) (h:∀ s,0 < cs.getD s 0 ↔ 0 < ds.getD s 0):used cs = used ds := by
 unfold used
 rw [hl]
 refine List.filter_congr (fun s U => ?_)
 exact decide_eq_decide.mpr (h s)
theorem used_take {ls:List Nat} {m:Nat} (hm:m ≤ ls.length) (h:∀ j,m ≤ j→ls.getD j 0 = 0):used (cI (ls.take m)) = used (cI ls) := by
 have e:(cI ls).length = m + (ls.length - m) := by rw [cI_len]; exact Eq.symm (Nat.add_sub_of_le hm)
 unfold used
 rw [e,List.range_add,List.filter_append,cI_len,List.length_take,Nat.min_eq_left hm]
 have e2:((List.range (ls.length - m)).map (m + ·)).filter (fun s => decide (0 < (cI ls).getD s 0)) = [] := by
  refine List.filter_eq_nil_iff.mpr (fun s hs => ?_)
  refine ex1_1 (List.mem_map.mp hs) fun j U xq1 => ?_
  obtain rfl := xq1
  rw [cI_get,h _ (by exact Nat.le_add_right _ _)]; decide
 rw [e2,List.append_nil]
 refine List.filter_congr (fun s U => ?_)
 rw [cI_get,cI_get,getD_take h]
theorem psum_congr {M:Nat} {ss:List Nat} {f g:Nat→Nat} (h:∀ s ∈ ss,f s = g s):psum M ss f = psum M ss g := by
 unfold psum
 rw [List.map_congr_left (fun s hs => by rw [h s hs])]
theorem psum_lift {M N:Nat} {f:Nat→Nat}:∀ ss:List Nat,(∀ s ∈ ss,f s ≤ M)→psum (M + N) ss f = 2 ^ N * psum M ss f
 | [],_ => by simp [psum]
 | s :: r,h => by
  have ih := psum_lift (M := M) (N := N) (f := f) r (fun s hs => h s (by simp [hs]))
  have hs := h s (by simp)
  unfold psum at *
  rw [List.map_cons,List.sum_cons,ih,List.map_cons,List.sum_cons,Nat.mul_add,show M + N - f s = N + (M - f s) by lia,Nat.pow_add]
structure Cd (M:Nat) (cs:List Int) (ls:List Nat):Prop where
 le:∀ s,ls.getD s 0 ≤ M
 us:used (cI ls) = used cs
 kr:2 ≤ (used cs).length→psum M (used cs) (fun s => ls.getD s 0) = 2 ^ M
theorem Cd.mk2 {M:Nat} {cs:List Int} {ls:List Nat} (hl:ls.length = cs.length) (h1:∀ s,ls.getD s 0 ≤ M) (h2:∀ s,0 < ls.getD s 0 ↔ s ∈ used cs) (h3:2 ≤ (used cs).length→psum M (used cs) (fun s => ls.getD s 0) = 2 ^ M):Cd M cs ls where
 le := h1
 us := used_ext (by rw [cI_len,hl]) (fun s => by
  rw [cI_get]
  have := h2 s
  rw [used_mem] at this
  constructor
  ·intro h; exact (this.mp (by exact Int.natCast_pos.mp h)).2
  ·intro h
   have q:s < cs.length := by
    by_cases q:s < cs.length
    ·exact q
    ·rw [List.getD_eq_getElem?_getD,List.getElem?_eq_none (by exact Nat.le_of_not_lt q)] at h
     exact absurd h (by simp)
   have := this.mpr ⟨q,h⟩
   exact Int.natCast_pos.mpr this)
 kr := h3
theorem Cd.ok {M:Nat} {cs:List Int} {ls:List Nat} (h:Cd M cs ls):LOk M ls where
 le := h.le
 kr := by
  rw [h.us]
  by_cases q:2 ≤ (used cs).length
  ·rw [h.kr q]; exact Nat.le_refl _
  ·match hu:used cs,q with
   | [],_ => simp [psum]
   | [s],_ =>
    simp only [psum,List.map_cons,List.map_nil,List.sum_cons,List.sum_nil,Nat.add_zero]
    exact Nat.pow_le_pow_right (by exact Nat.zero_lt_two) (by exact Nat.sub_le M (ls.getD s 0))
   | s :: t :: r,q => exact absurd (by rw [List.length_cons,List.length_cons]; exact Nat.le_add_left 2 r.length) q
theorem Cd.take {M m:Nat} {cs:List Int} {ls:List Nat} (h:Cd M cs ls) (hm:m ≤ ls.length) (h0:∀ j,m ≤ j→ls.getD j 0 = 0):Cd M cs (ls.take m) where
 le := fun s => by rw [getD_take h0]; exact h.le s
 us := by rw [used_take hm h0,h.us]
 kr := fun q => by rw [psum_congr (g := fun s => ls.getD s 0) (fun s U => getD_take h0 s)]; exact h.kr q
theorem Cd.pos {M:Nat} {cs:List Int} {ls:List Nat} (h:Cd M cs ls) {s:Nat}:0 < ls.getD s 0 ↔ 0 < cs.getD s 0 := by
 rw [← used_cI,h.us,used_mem]
 constructor
 ·exact fun h => h.2
 ·intro h
  refine ⟨?_,h⟩
  by_cases q:s < cs.length
  ·exact q
  ·rw [List.getD_eq_getElem?_getD,List.getElem?_eq_none (by exact Nat.le_of_not_lt q)] at h
   exact absurd h (by simp)
theorem Cd.whole {M:Nat} {cs:List Int} {ls:List Nat} (h:Cd M cs ls) (hM:M ≤ 15):(used (cI ls)).length < 2 ∨ psum 15 (used (cI ls)) (fun s => ls.getD s 0) = 2 ^ 15 := by
 rw [h.us]
 by_cases q:2 ≤ (used cs).length
 ·right
  have := psum_lift (M := M) (N := 15 - M) (used cs) (f := fun s => ls.getD s 0) (fun s U => h.le s)
  rw [h.kr q,← Nat.pow_add,show M + (15 - M) = 15 by exact Nat.add_sub_of_le hM,show 15 - M + M = 15 by exact Nat.sub_add_cancel hM] at this
  exact this
 ·left; exact Nat.lt_of_not_le q
noncomputable def bumps (xs:List Int) (ss:List Nat):List Int := ss.foldl bump xs
theorem bump_get (xs:List Int) (s i:Nat):(bump xs s).getD i 0 = if i = s∧s < xs.length then xs.getD s 0 + 1 else xs.getD i 0 := by
 unfold bump
 rw [List.getD_eq_getElem?_getD,List.getElem?_set]
 by_cases q:s = i
 ·subst q
  by_cases h:s < xs.length
  ·rw [if_pos rfl,if_pos h,if_pos ⟨rfl,h⟩]; rfl
  ·rw [if_pos rfl,if_neg h,if_neg (fun e => h e.2),List.getD_eq_getElem?_getD,List.getElem?_eq_none (by exact Nat.le_of_not_lt h)]
 ·rw [if_neg q,if_neg (fun e => q e.1.symm),List.getD_eq_getElem?_getD]
theorem bumps_len:∀ (ss:List Nat) (xs:List Int),(bumps xs ss).length = xs.length
 | [],xs => rfl
 | s :: r,xs => (bumps_len r (bump xs s)).trans (bump_len xs s)
theorem bumps_le:∀ (ss:List Nat) (xs:List Int) (i:Nat),xs.getD i 0 ≤ (bumps xs ss).getD i 0
 | [],xs,i => Int.le_refl _
 | s :: r,xs,i => by
  have := bumps_le r (bump xs s) i
  rw [bump_get] at this
  show _ ≤ (bumps (bump xs s) r).getD i 0
  split at this
  ·next h => rw [h.1] at this ⊢; exact Int.le_of_lt this
  ·exact this
theorem bumps_pos:∀ (ss:List Nat) (xs:List Int) (s:Nat),(∀ i,0 ≤ xs.getD i 0)→s < xs.length→s ∈ ss→0 < (bumps xs ss).getD s 0
 | [],xs,s,h0,h,hm => by simp at hm
 | t :: r,xs,s,h0,h,hm => by
  show 0 < (bumps (bump xs t) r).getD s 0
  rcases List.mem_cons.mp hm with rfl | hm
  ·have := bumps_le r (bump xs s) s
   rw [bump_get,if_pos ⟨rfl,h⟩] at this
   have := h0 s
   (expose_names; exact Int.lt_of_le_of_lt (h0 s) this_1)
  ·exact bumps_pos r (bump xs t) s (fun i => by
    have := bumps_le [t] xs i
    exact Int.le_trans (h0 i) this) (by rw [bump_len]; exact h) hm
theorem np_set_le:∀ (xs:List Int) (i:Nat) (v:Int),np (xs.set i v) ≤ np xs + 1
 | [],i,v => by simp [np]
 | x :: r,0,v => by
  unfold np
  rw [List.set_cons_zero,List.filter_cons,List.filter_cons]
  split <;> split <;> simp <;> lia
 | x :: r,i + 1,v => by
  have := np_set_le r i v
  unfold np at *
  rw [List.set_cons_succ,List.filter_cons,List.filter_cons]
  split
  ·rw [List.length_cons,List.length_cons]; exact Nat.lt_succ_of_le ‹_›
  ·exact this
theorem bumps_np:∀ (ss:List Nat) (xs:List Int),np (bumps xs ss) ≤ np xs + ss.length
 | [],xs => Nat.le_refl _
 | s :: r,xs => by
  have h1 := bumps_np r (bump xs s)
  have h2 := np_set_le xs s (xs.getD s 0 + 1)
  show np (bumps (bump xs s) r) ≤ _
  unfold bump at h1 ⊢
  rw [List.length_cons]; lia
noncomputable def Tk.dg:Tk→Option Nat
 | .lit _ => none
 | .pair _ d => some (dstP d)
theorem lit_bumps:∀ (ts:List Tk) (xs:List Int),ts.foldl litStep xs = bumps xs (ts.map Tk.sg)
 | [],xs => rfl
 | t :: r,xs => lit_bumps r (litStep xs t)
theorem dst_bumps:∀ (ts:List Tk) (xs:List Int),ts.foldl dstStep xs = bumps xs (ts.filterMap Tk.dg)
 | [],xs => rfl
 | .lit c :: r,xs => dst_bumps r xs
 | .pair l d :: r,xs => dst_bumps r (bump xs (dstP d))
theorem lenP_lt (x:Nat):lenP x < 29 := by
 unfold lenP
 have := List.countP_le_length (p := fun i => decide (fst LT i ≤ (x:Int))) (l := List.range 29)
 rw [List.length_range] at this
 omega
theorem dstP_lt (x:Nat):dstP x < 30 := by
 unfold dstP
 have := List.countP_le_length (p := fun i => decide (fst DT i ≤ (x:Int))) (l := List.range 30)
 rw [List.length_range] at this
 omega
theorem Tk.sg_lt {t:Tk} (h:t.ok):t.sg < 286 := by
 cases t with
 | lit c => have:c < 256 := h; show c < 286; lia
 | pair l d => have := lenP_lt l; show 257 + lenP l < 286; exact Nat.add_lt_of_lt_sub' this
theorem lit0_nn:∀ s,0 ≤ lit0.getD s 0 := fun s => by
 unfold lit0
 rw [List.getD_eq_getElem?_getD,List.getElem?_set]
 split
 ·split <;> simp
 ·rw [List.getElem?_replicate]; split <;> simp
theorem zeros_get (m s:Nat):(List.replicate m (0:Int)).getD s 0 = 0 := by
 rw [List.getD_eq_getElem?_getD,List.getElem?_replicate]; split <;> rfl
theorem zeros_np:∀ m,np (List.replicate m (0:Int)) = 0
 | 0 => rfl
 | m + 1 => by
  have := zeros_np m
  unfold np at *
  rw [List.replicate_succ,List.filter_cons,if_neg (by simp)]; exact this
theorem lit0_np:np lit0 ≤ 1 := by
 have := np_set_le (List.replicate 286 0) 256 1
 rw [zeros_np] at this
 exact this
theorem rOk.lt {acc:List Nat} {r:Rn} (h:rOk acc r):r.1 < 19 := by
 unfold rOk at h; omega
theorem rOk.bits {acc:List Nat} {r:Rn} (h:rOk acc r):r.2.1 < 2 ^ r.2.2∧r.2.2 ≤ 7 := by
 rcases h with ⟨_,h1,h2⟩ | ⟨_,h1,h2,_⟩ | ⟨_,h1,h2⟩ | ⟨_,h1,h2⟩
 ·rw [h1,h2]; decide
 ·rw [h2]; exact ⟨h1,by decide⟩
 ·rw [h2]; exact ⟨h1,by decide⟩
 ·rw [h2]; exact ⟨h1,by decide⟩
theorem RP.mem {rs:List Rn} {L:List Nat} (h:RP rs L) {r:Rn} (hr:r ∈ rs):∃ acc,rOk acc r := by
 refine ex1_0 (List.mem_iff_getElem?.mp hr) fun i hi => ?_
 exact ⟨_,h.ok i r hi⟩
noncomputable def ORD:List Nat := [16,17,18,0,8,7,9,6,10,5,11,4,12,3,13,2,14,1,15]
noncomputable def rbits (hs:List Nat) (r:Rn):List Nat := cbits hs r.1 ++ lsb r.2.1 r.2.2
noncomputable def hbits (L D hs:List Nat) (m:Nat) (rs:List Rn):List Nat := lsb (L.length - 257) 5 ++ (lsb (D.length - 1) 5 ++ (lsb (m - 4) 4 ++ ((ORD.take m).flatMap (fun s => lsb (hs.getD s 0) 3) ++ rs.flatMap (rbits hs))))
structure LD (ts:List Tk) (L D:List Nat):Prop where
 L1:257 ≤ L.length
 L2:L.length ≤ 286
 L3:257 < L.length→L.getD (L.length - 1) 0 ≠ 0
 Lc:LOk 15 L
 Lw:(used (cI L)).length < 2 ∨ psum 15 (used (cI L)) (fun s => L.getD s 0) = 2 ^ 15
 Lu:(used (cI L)).length < 64
 D1:1 ≤ D.length
 D2:D.length ≤ 30
 D3:1 < D.length→D.getD (D.length - 1) 0 ≠ 0
 Dc:LOk 15 D
 Dw:(used (cI D)).length < 2 ∨ psum 15 (used (cI D)) (fun s => D.getD s 0) = 2 ^ 15
 Du:(used (cI D)).length < 64
 L256:0 < L.getD 256 0
 tk:∀ t ∈ ts,t.ok∧t.has L D
structure HD (hs:List Nat) (m:Nat) (rs:List Rn):Prop where
 H1:hs.length = 19
 Hc:LOk 7 hs
 Hw:(used (cI hs)).length < 2 ∨ psum 15 (used (cI hs)) (fun s => hs.getD s 0) = 2 ^ 15
 Hr:∀ r ∈ rs,0 < hs.getD r.1 0
 m1:4 ≤ m
 m2:m ≤ 19
 m3:4 < m→hs.getD (ORD.getD (m - 1) 0) 0 ≠ 0
 m4:∀ j,m ≤ j→j < 19→hs.getD (ORD.getD j 0) 0 = 0
structure DP (ts:List Tk) (L D hs:List Nat) (m:Nat) (rs:List Rn):Prop extends LD ts L D,HD hs m rs where
 rp:RP rs (L ++ D)
theorem k17n {n:Nat} (hn:17 < n) {ls:List Nat} {least:Nat} {H:Hp} {Q:V→Hp→Prop} (hl:least ≤ ls.length) (hb:ls.length ≤ 1000)
  (q:∀ m,least ≤ m→m ≤ ls.length→(m = least ∨ ls.getD (m - 1) 0 ≠ 0)→(∀ j,m ≤ j→ls.getD j 0 = 0)→Q (.lst ((ls.take m).map nV)) H):Sp n 17 [.lst (ls.map nV),.int least] H Q := by
 rw [← cI_nV]
 refine k17 hn (by rw [cI_len]; exact hl) (by rw [cI_len]; exact hb) (fun m h1 h2 h3 h4 => ?_)
 have := q m h1 (by rw [cI_len] at h2; exact h2) (by rw [cI_get] at h3; lia) (fun j hj => by have := h4 j hj; rw [cI_get] at this; exact Int.ofNat_eq_zero.mp this)
 rw [← cI_nV] at this
 rw [show (cI ls).take m = cI (ls.take m) by unfold cI; rw [List.map_take]]
 exact this
theorem k14c {n:Nat} (hn:14 < n) {cs:List Int} {most:Nat} {H:Hp} {Q:V→Hp→Prop} (hl:cs.length ≤ 1000) (hm:most ≤ 15) (hm1:1 ≤ most) (hu:(used cs).length < 64) (hu2:(used cs).length ≤ 2 ^ most)
  (q:∀ ls:List Nat,ls.length = cs.length→Cd most cs ls→Q (.lst (ls.map nV)) H):Sp n 14 [.lst (cs.map .int),.int most] H Q :=
 k14 hn hl hm hm1 hu hu2 (fun ls h1 h2 h3 h4 => q ls h1 (Cd.mk2 h1 h2 h3 h4))
noncomputable def hd0:List Int := List.replicate 19 0
theorem hd0_len:hd0.length = 19 := rfl
theorem ORD_lt:∀ s ∈ ORD,s < 19 := by decide
theorem WrB.of_eq {H H':Hp} {d b:Addr} {bits:List Nat} (w:WrB H d b bits) (e1:H' d = H d) (e2:H' b = H b):WrB H' d b bits := by
 refine ex3_1 w fun bs h m w r => ?_
 exact ⟨bs,h,m,⟨e1.trans w.rcd,e2.trans w.oct,w.ne⟩,r⟩
theorem rbits_len {hs:List Nat} {r:Rn} {acc:List Nat} (h:LOk 7 hs) (hr:rOk acc r):(rbits hs r).length ≤ 14 := by
 unfold rbits cbits
 rw [List.length_append,msb_len,lsb_len]
 have := h.le r.1
 have := hr.bits.2
 lia
theorem put_last {sp:Nat→SpecT} {Qn:Loc→Hp→Prop} {Qr:V→Hp→Prop} {l:Loc} {H:Hp} {d:Addr} {last:Bool} (h0:l[0]? = some (some (.obj aBW d))) (h2:l[2]? = some (some (.bool last))) (hr:∃ fs,H d = some (.rcd fs))
  (h:sp 1 [.obj aBW d,.int (last.toNat:Int),.int 1] H (fun v H => v = .none∧Qn l H)):wpS sp (.expr (.meth 1 aBW (.loc 0) (.cons (.ite (.loc 2) (.cint 1) (.cint 0)) (.cons (.cint 1) .nil)))) Qn Qr l H := by
 dsimp only [wpS,wpE,wpEs]
 rw [h0,oget_s]
 refine ⟨rfl,hr,?_⟩
 rw [h2,oget_s,truthW_b]
 cases last <;> exact h
theorem k_cut {n:Nat} (h17:17 < n) {cs:List Int} {most least:Nat} {H:Hp} {Q:V→Hp→Prop} (hl:cs.length ≤ 1000) (hm:most ≤ 15) (hm1:1 ≤ most) (hu:(used cs).length < 64) (hu2:(used cs).length ≤ 2 ^ most) (hc:least ≤ cs.length)
  (q:∀ L:List Nat,least ≤ L.length→L.length ≤ cs.length→(least < L.length→L.getD (L.length - 1) 0 ≠ 0)→Cd most cs L→Q (.lst (L.map nV)) H):Sp n 14 [.lst (cs.map .int),.int most] H (fun v H => Sp n 17 [v,.int least] H Q) := by
 refine k14c (by exact Nat.lt_of_add_left_lt h17) hl hm hm1 hu hu2 (fun ls z cd => k17n h17 (by exact le_of_le_of_eq hc (id (Eq.symm z))) (by exact le_of_eq_of_le z hl) (fun m m1 m2 m3 m4 => ?_))
 have e:(ls.take m).length = m := by rw [List.length_take]; exact Nat.min_eq_left m2
 refine q _ (by exact le_of_le_of_eq m1 (id (Eq.symm e))) (by lia) (fun h => ?_) (cd.take m2 m4)
 rw [e] at h ⊢
 rw [getD_take m4]; lia
section
variable (C D:Addr)
noncomputable def b20w:MSs :=
 (.cons (.expr (.meth 1 C (.loc 0) (.cons (.ite (.loc 2) (.cint 1) (.cint 0)) (.cons (.cint 1) .nil)))) (.cons (.expr (.meth 1 C (.loc 0) (.cons (.cint 2) (.cons (.cint 2) .nil)))) (.cons (.expr (.meth 1 C (.loc 0) (.cons (.bin .sub (.bin .sub (.bi .len (.cons (.loc 6) .nil)) (.gint "END_SIGN" 256)) (.cint 1)) (.cons (.cint 5) .nil)))) (.cons (.expr (.meth 1 C (.loc 0) (.cons (.bin .sub (.bi .len (.cons (.loc 7) .nil)) (.cint 1)) (.cons (.cint 5) .nil)))) (.cons (.expr (.meth 1 C (.loc 0) (.cons (.bin .sub (.bi .len (.cons (.loc 15) .nil)) (.cint 4)) (.cons (.cint 4) .nil)))) (.cons (.forr (.one 16) (.seq false (.loc 15))
  (.cons (.expr (.meth 1 C (.loc 0) (.cons (.loc 16) (.cons (.cint 3) .nil)))) .nil)) (.cons (.forr (.many [10,11,12]) (.seq false (.loc 8))
  (.cons (.expr (.meth 2 C (.loc 0) (.cons (.item (.loc 14) (.loc 10)) (.cons (.item (.loc 13) (.loc 10)) .nil)))) (.cons (.expr (.meth 1 C (.loc 0) (.cons (.loc 11) (.cons (.loc 12) .nil)))) .nil))) (.cons (.expr (.meth 16 D (.loc 3) (.cons (.loc 0) (.cons (.loc 1) (.cons (.loc 6) (.cons (.loc 7) .nil)))))) .nil))))))))
noncomputable def b20h:MSs :=
 (.cons (.asg 9 (.rep true (.cint 0) (.gint "HEAD_SIGNS" 19))) (.cons (.forr (.many [10,11,12]) (.seq false (.loc 8))
  (.cons (.setI (.loc 9) (.loc 10) (.bin .add (.item (.loc 9) (.loc 10)) (.cint 1))) .nil)) (.cons (.expr (.call 19 (.cons (.loc 9) .nil))) (.cons (.asg 13 (.call 14 (.cons (.freeze (.loc 9)) (.cons (.gint "MOST_HEAD_BITS" 7) .nil)))) (.cons (.asg 14 (.call 15 (.cons (.loc 13) .nil))) (.cons (.asg 15 (.call 17 (.cons (.comp false (.item (.loc 1) (.loc 0)) 1 [13] (.one 0) (.seq false (.gtup "LENGTH_ORDER" [16,17,18,0,8,7,9,6,10,5,11,4,12,3,13,2,14,1,15])) .nil) (.cons (.cint 4) .nil)))) (b20w C D)))))))
end
theorem k20_w {ts:List Tk} {L D hs:List Nat} {m:Nat} {rs:List Rn} {last:Bool} {H:Hp} {dS d b:Addr} {bits:List Nat} {v4 v5 v9 v10 v11 v12 v16:Option V} {Qn:Loc→Hp→Prop} {Qr:V→Hp→Prop} (dp:DP ts L D hs m rs) (w1:WrB H d b bits) (sg1:SgOk H dS) (nd:dS ≠ d) (nb:dS ≠ b) (hb:bits.length ≤ 100) (hl:ts.length ≤ 30)
  (q:∀ l H',WrB H' d b (bits ++ (lsb last.toNat 1 ++ (lsb 2 2 ++ (hbits L D hs m rs ++ (ts.flatMap (Tk.bits L D) ++ cbits L 256)))))→Qn l H') :
  wpSs (Sp 20) (b20w aBW aDS) Qn Qr [some (.obj aBW d),some (.lst (ts.map Tk.v)),some (.bool last),some (.obj aDS dS),v4,v5,some (.lst (L.map nV)),some (.lst (D.map nV)),some (.lst (rs.map rnV)),v9,v10,v11,v12,some (.lst (hs.map nV)),some (.lst (mkL hs.length (codN hs))),some (.lst (((ORD.take m).map fun s => hs.getD s 0).map nV)),v16] H := by
 have hbig := big_eq
 have hL1 := dp.L1
 have hL2 := dp.L2
 have hD1 := dp.D1
 have hD2 := dp.D2
 have m1 := dp.m1
 have m2 := dp.m2
 have mo:(ORD.take m).length = m := by rw [List.length_take]; show min m 19 = m; exact Nat.min_eq_left m2
 unfold b20w
 refine stepK (fun G hG => ?_)
 refine put_last rfl rfl w1.isRcd ?_
 refine k1 (n := 20) (x := last.toNat) (k := 1) (by decide) w1 (by cases last <;> decide) (by decide) (by lia) (fun H2 w2 s2 => ⟨rfl,hG _ _ (stepK (fun G hG => ?_))⟩)
 dsimp only [wpS,wpE,dz5,wpEs,oget_s]
 repeat first | refine bW ?_ | refine bD ?_
 refine ⟨w2.isRcd,k1 (n := 20) (x := 2) (k := 2) (by decide) w2 (by decide) (by decide) (by rw [List.length_append,lsb_len]; lia) (fun H3 w3 s3 => ⟨rfl,hG _ _ (stepK (fun G hG => ?_))⟩)⟩
 dsimp only [wpS,wpE,dz5,wpEs,dz6,binW,vI_i,biW,lenW,oneV_1,oget_s,asSeq_l]
 repeat first | refine bW ?_ | refine bD ?_
 rw [List.length_map]
 refine ⟨w3.isRcd,by lia,?_⟩
 rw [show (L.length:Int) - 256 - 1 = ((L.length - 257:Nat):Int) by lia]
 refine k1 (n := 20) (k := 5) (by decide) w3 (by omega) (by decide) (by simp only [List.length_append,lsb_len]; lia) (fun H4 w4 s4 => ⟨rfl,hG _ _ (stepK (fun G hG => ?_))⟩)
 dsimp only [wpS,wpE,dz5,wpEs,dz6,binW,vI_i,biW,lenW,oneV_1,oget_s,asSeq_l]
 repeat first | refine bW ?_ | refine bD ?_
 rw [List.length_map]
 refine ⟨w4.isRcd,by lia,?_⟩
 rw [show (D.length:Int) - 1 = ((D.length - 1:Nat):Int) by lia]
 refine k1 (n := 20) (k := 5) (by decide) w4 (by lia) (by decide) (by simp only [List.length_append,lsb_len]; lia) (fun H5 w5 s5 => ⟨rfl,hG _ _ (stepK (fun G hG => ?_))⟩)
 dsimp only [wpS,wpE,dz5,wpEs,dz6,binW,vI_i,biW,lenW,oneV_1,oget_s,asSeq_l]
 repeat first | refine bW ?_ | refine bD ?_
 rw [List.length_map,List.length_map,mo]
 refine ⟨w5.isRcd,by lia,?_⟩
 rw [show (m:Int) - 4 = ((m - 4:Nat):Int) by lia]
 refine k1 (n := 20) (k := 4) (by decide) w5 (by lia) (by decide) (by simp only [List.length_append,lsb_len]; lia) (fun H6 w6 s6 => ⟨rfl,hG _ _ (stepK (fun G hG => ?_))⟩)
 have sS := (((s2.trans s3).trans s4).trans s5).trans s6
 clear s2 s3 s4 s5 s6 w1 w2 w3 w4 w5
 generalize hB6:bits ++ lsb last.toNat 1 ++ lsb 2 2 ++ lsb (L.length - 257) 5 ++ lsb (D.length - 1) 5 ++ lsb (m - 4) 4 = B6 at *
 have b6:B6.length ≤ 200 := by rw [← hB6]; simp only [List.length_append,lsb_len]; lia
 dsimp only [wpS,wpI,wpE,dz6,dz5,oget_s,frozenSeq_l]
 refine ⟨by rw [List.length_map,List.length_map]; lia,?_⟩
 rw [show ((ORD.take m).map fun s => hs.getD s 0).map nV = (ORD.take m).map fun s => nV (hs.getD s 0) by rw [List.map_map]; rfl]
 generalize V.lst ((ORD.take m).map fun s => nV (hs.getD s 0)) = vt
 have tl:∀ i,(((ORD.take m).take i).flatMap (fun s => lsb (hs.getD s 0) 3)).length ≤ 3 * (ORD.take m).length := fun i => flat_take _ i (fun s U => by rw [lsb_len]; exact Nat.le_refl _)
 refine for_inv (fun i l H' => ∃ v16,l = [some (.obj aBW d),some (.lst (ts.map Tk.v)),some (.bool last),some (.obj aDS dS),v4,v5,some (.lst (L.map nV)),some (.lst (D.map nV)),some (.lst (rs.map rnV)),v9,v10,v11,v12,some (.lst (hs.map nV)),some (.lst (mkL hs.length (codN hs))),some vt,v16]∧WrB H' d b (B6 ++ ((ORD.take m).take i).flatMap (fun s => lsb (hs.getD s 0) 3))∧Same2 H H' d b) _ (k := 0) ⟨_,rfl,by simpa using w6,sS⟩ ?_ ?_
 ·intro i v l H' K hv hI9 hK
  refine ex1_2 hI9 fun v16 xq1 w' s' => ?_; clear hI9
  obtain rfl := xq1
  rw [List.getElem?_map] at hv
  refine ex1_1 (Option.map_eq_some_iff.mp hv) fun s es xq1 => ?_
  obtain rfl := xq1
  rw [Nat.zero_add] at hK w'
  have := tl i
  have h7 := dp.Hc.le s
  clear hG tl q
  rw [nV]
  dsimp only [bindT_o,dz8,dz7,wpSs,wpS,wpE,wpEs,obind_s,dz5,dz6,oget_s]
  repeat first | refine bW ?_ | refine bD ?_
  refine ⟨w'.isRcd,k1 (n := 20) (k := 3) (by decide) w' (by lia) (by decide) (by rw [List.length_append]; lia) (fun H7 w7 s7 => ⟨rfl,hK _ _ ⟨_,rfl,?_,s'.trans s7⟩⟩)⟩
  rw [take_snoc es,List.flatMap_append,← List.append_assoc,List.flatMap_cons,List.flatMap_nil,List.append_nil]
  exact w7
 intro l H7 hI9
 refine ex1_2 hI9 fun v16 xq2 w7 s7 => ?_; clear hI9
 obtain rfl := xq2
 rw [List.length_map,Nat.zero_add,List.take_length] at w7
 have tl2 := tl (ORD.take m).length
 rw [List.take_length] at tl2
 clear tl w6 sS
 generalize hB7:B6 ++ (ORD.take m).flatMap (fun s => lsb (hs.getD s 0) 3) = B7 at *
 have b7:B7.length ≤ 300 := by rw [← hB7,List.length_append]; lia
 refine hG _ _ (stepK (fun G hG => ?_))
 dsimp only [wpS,wpI,wpE,dz6,dz5,oget_s,frozenSeq_l]
 have rl := dp.rp.len
 rw [List.length_append] at rl
 refine ⟨by rw [List.length_map]; lia,?_⟩
 have rl2:∀ i,((rs.take i).flatMap (rbits hs)).length ≤ 14 * rs.length := fun i => flat_take _ i (fun r hr => by
  refine ex1_0 (dp.rp.mem hr) fun acc h => ?_
  exact rbits_len dp.Hc h)
 refine for_inv (fun i l H' => ∃ v10 v11 v12,l = [some (.obj aBW d),some (.lst (ts.map Tk.v)),some (.bool last),some (.obj aDS dS),v4,v5,some (.lst (L.map nV)),some (.lst (D.map nV)),some (.lst (rs.map rnV)),v9,v10,v11,v12,some (.lst (hs.map nV)),some (.lst (mkL hs.length (codN hs))),some vt,v16]∧WrB H' d b (B7 ++ (rs.take i).flatMap (rbits hs))∧Same2 H H' d b) _ (k := 0) ⟨v10,v11,v12,rfl,by simpa using w7,s7⟩ ?_ ?_
 ·intro i v l H' K hv hI9 hK
  refine ex3_2 hI9 fun v10 v11 v12 xq3 w' s' => ?_; clear hI9
  obtain rfl := xq3
  rw [List.getElem?_map] at hv
  refine ex1_1 (Option.map_eq_some_iff.mp hv) fun r er xq2 => ?_
  obtain rfl := xq2
  rw [Nat.zero_add] at hK w'
  have hbl:(B7 ++ (rs.take i).flatMap (rbits hs)).length ≤ 90000 := by have := rl2 i; rw [List.length_append]; lia
  have hr0 := dp.Hr r (List.mem_of_getElem? er)
  refine ex1_0 (dp.rp.mem (List.mem_of_getElem? er)) fun acc hr => ?_
  have h7 := dp.Hc.le r.1
  refine ex0_1 hr.bits fun hb1 hb2 => ?_
  have h19 := dp.H1
  have hK2:∀ v10 v11 v12 H2,WrB H2 d b (B7 ++ (rs.take i).flatMap (rbits hs) ++ rbits hs r)→Same2 H' H2 d b→K [some (.obj aBW d),some (.lst (ts.map Tk.v)),some (.bool last),some (.obj aDS dS),v4,v5,some (.lst (L.map nV)),some (.lst (D.map nV)),some (.lst (rs.map rnV)),v9,v10,v11,v12,some (.lst (hs.map nV)),some (.lst (mkL hs.length (codN hs))),some vt,v16] H2 := fun v10 v11 v12 H2 w2 s2 => hK _ _ ⟨_,_,_,rfl,by
   rw [take_snoc er,List.flatMap_append,← List.append_assoc,List.flatMap_cons,List.flatMap_nil,List.append_nil]
   exact w2,s'.trans s2⟩
  clear hK hG rl2 q rl hL1 hL2 hD1 hD2 m1 m2 mo hB6 b6 hB7 b7 tl2
  generalize B7 ++ (rs.take i).flatMap (rbits hs) = bs at *
  rw [show rnV r = V.tup [.int (r.1:Int),.int (r.2.1:Int),.int (r.2.2:Int)] from rfl]
  refine step ?_
  dsimp only [dz8,dz7,wpS,wpE,dz5,wpEs,dz6,oget_s]
  repeat first | refine bW ?_ | refine bD ?_
  refine ⟨w'.isRcd,item_cod hr0 (by lia) (item_len hr0 (by lia) ?_)⟩
  refine k2 (n := 20) (by decide) w' (by lia) (by lia) (fun H8 w8 s8 => ⟨rfl,step ?_⟩)
  dsimp only [wpSs,wpS,wpE,dz5,wpEs,dz6,oget_s]
  repeat first | refine bW ?_ | refine bD ?_
  refine ⟨w8.isRcd,k1 (n := 20) (by decide) w8 hb1 (by lia) (by simp only [List.length_append,msb_len]; lia) (fun H9 w9 s9 => ⟨rfl,hK2 _ _ _ _ ?_ (s8.trans s9)⟩)⟩
  unfold rbits cbits
  rw [← List.append_assoc]
  exact w9
 intro l H8 hI9
 refine ex3_2 hI9 fun v10 v11 v12 xq4 w8 s8 => ?_; clear hI9
 obtain rfl := xq4
 rw [List.length_map,Nat.zero_add,List.take_length] at w8
 have rl3 := rl2 rs.length
 rw [List.take_length] at rl3
 refine hG _ _ (step ?_)
 clear hG rl2
 dsimp only [wpS,wpE,dz6,dz5,wpEs,oget_s]
 repeat first | refine bW ?_ | refine bD ?_
 refine ⟨⟨_,sg1.same s8 nd nb⟩,?_⟩
 refine k16 (n := 20) (by decide) w8 (sg1.same s8 nd nb) nd nb dp.Lc dp.Dc (by lia) (by lia) (fun e => by rw [e] at hD1; simp at hD1) dp.L256 dp.tk (by lia) (by rw [List.length_append]; lia) (fun H9 w9 s9 => ⟨rfl,q _ H9 ?_⟩)
 rw [← hB7,← hB6] at w9
 unfold hbits
 simp only [List.append_assoc] at w9 ⊢
 exact w9
theorem k20_h {rs:List Rn} {LD:List Nat} {H:Hp} {c0 c1 c2 c3 c4 c5 c6 c7:V} {Qn:Loc→Hp→Prop} {Qr:V→Hp→Prop} (rp:RP rs LD) (hl:LD.length ≤ 316)
  (q:∀ hs m c v10 v11 v12,HD hs m rs→wpSs (Sp 20) (b20w aBW aDS) Qn Qr [some c0,some c1,some c2,some c3,some c4,some c5,some c6,some c7,some (.lst (rs.map rnV)),some (.ref c),v10,v11,v12,some (.lst (hs.map nV)),some (.lst (mkL hs.length (codN hs))),some (.lst (((ORD.take m).map fun s => hs.getD s 0).map nV)),none] H) :
  wpSs (Sp 20) (b20h aBW aDS) Qn Qr [some c0,some c1,some c2,some c3,some c4,some c5,some c6,some c7,some (.lst (rs.map rnV)),none,none,none,none,none,none,none,none] H := by
 have hbig := big_eq
 have rl := rp.len
 unfold b20h
 refine step ?_
 dsimp only [wpS,wpE,dz8,dz7,mk]
 refine ⟨⟨by decide,by decide⟩,by rw [List.length_replicate]; decide,fun c hc => stepK (fun G hG => ?_)⟩
 dsimp only [wpS,wpI,wpE,dz6,dz5,oget_s,frozenSeq_l]
 refine ⟨by rw [List.length_map]; lia,?_⟩
 refine for_inv (fun i l H' => ∃ v10 v11 v12,l = [some c0,some c1,some c2,some c3,some c4,some c5,some c6,some c7,some (.lst (rs.map rnV)),some (.ref c),v10,v11,v12,none,none,none,none]∧H' = H.set c (.list ((bumps hd0 ((rs.take i).map (·.1))).map .int))) _ (k := 0) ⟨none,none,none,rfl,by rw [List.take_zero,List.map_nil]; rfl⟩ ?_ ?_
 ·intro i v l H' K hv hI9 hK
  refine ex3_1 hI9 fun v10 v11 v12 xq5 xq6 => ?_; clear hI9
  obtain rfl := xq5
  obtain rfl := xq6
  clear hG q
  rw [List.getElem?_map] at hv
  refine ex1_1 (Option.map_eq_some_iff.mp hv) fun r er xq3 => ?_
  obtain rfl := xq3
  rw [Nat.zero_add] at hK ⊢
  rw [show rnV r = V.tup [.int (r.1:Int),.int (r.2.1:Int),.int (r.2.2:Int)] from rfl]
  refine ex1_0 (rp.mem (List.mem_of_getElem? er)) fun acc hr => ?_
  have r19 := hr.lt
  have bl := bumps_len ((rs.take i).map (·.1)) hd0
  rw [hd0_len] at bl
  have nx:bump (bumps hd0 ((rs.take i).map (·.1))) r.1 = bumps hd0 ((rs.take (i + 1)).map (·.1)) := by
   rw [take_snoc er,List.map_append]; unfold bumps; rw [List.foldl_append]; rfl
  rw [← nx] at hK
  clear nx rl
  generalize bumps hd0 ((rs.take i).map (·.1)) = xs at *
  dsimp only [bindT_m,bindM_c,dz8,dz7,bindM_n,wpSs,wpS,wpE,binW,vI_i,obind_s,dz6,dz5,oget_s,ixW_i,dz13]
  refine item_intsR (Hp.set_self ..) (by exact Int.natCast_nonneg _) (by lia) (by lia) ?_
  try dsimp only [vI_i]
  rw [Hp.set_self]
  dsimp only [dz13]
  rw [Hp.set_set]
  refine ⟨⟨by exact Int.natCast_nonneg _,by rw [List.length_map]; lia,by rw [List.length_map]; lia⟩,?_⟩
  rw [bump_map]
  exact hK _ _ ⟨_,_,_,rfl,rfl⟩
 intro l H' hI9
 refine ex3_1 hI9 fun v10 v11 v12 xq7 xq8 => ?_; clear hI9
 obtain rfl := xq7
 obtain rfl := xq8
 rw [List.length_map,Nat.zero_add,List.take_length]
 refine hG _ _ (step ?_)
 clear hG
 dsimp only [wpS,wpE,wpEs,dz6,dz5,oget_s]
 have bl := bumps_len (rs.map (·.1)) hd0
 rw [hd0_len] at bl
 have ps3:∀ r ∈ rs,0 < (bumps hd0 (rs.map (·.1))).getD r.1 0 := fun r h => bumps_pos _ _ _ (fun i => by unfold hd0; rw [zeros_get]; decide) (by
  refine ex1_0 (rp.mem h) fun acc hr => ?_
  exact hr.lt) (List.mem_map.mpr ⟨r,h,rfl⟩)
 have nn3:∀ s,0 ≤ (bumps hd0 (rs.map (·.1))).getD s 0 := fun s => by
  have := bumps_le (rs.map (·.1)) hd0 s
  unfold hd0 at this ⊢
  rw [zeros_get] at this; exact this
 generalize bumps hd0 (rs.map (·.1)) = hds at *
 refine k19 (n := 20) (by decide) (cs := hds) (Hp.set_self ..) (by lia) (by lia) nn3 (fun hds' h1 h2 h3 h4 h5 => ⟨rfl,step ?_⟩)
 have us3 := used_le hds'
 dsimp only [wpS,wpE,wpEs,dz6,dz5,dz8,dz7,oget_s]
 rw [Hp.set_set,Hp.set_self]
 try dsimp only [vI_i]
 rw [Hp.set_erase _ c _ hc]
 refine k14c (n := 20) (most := 7) (by decide) (by lia) (by decide) (by decide) (by lia) (by lia) (fun hs z3 cd3 => step ?_)
 have hs19:hs.length = 19 := by lia
 refine k15 (n := 20) (by decide) (fun e => by rw [e] at hs19; cases hs19) (by lia) (fun x hx => by have := le_mem cd3.le x hx; lia) (step ?_)
 dsimp only [dz8,dz7,wpS,wpE,wpEs,wpI,dz1,dz2,frozenSeq_t,wpC,dz11,dz12,dz6,dz5,dz3,dz4,mk,dz9,dz10]
 refine ⟨by decide,?_⟩
 show compW _ _ _ _ (ORD.map nV) _ _ _
 refine comp_map (g := fun s => nV (hs.getD s 0)) _ _ (fun l K k => k) (fun s hs' => ⟨_,rfl,fun K hK => ?_⟩) ?_
 ·have := ORD_lt s hs'
  rw [nV]
  dsimp only [dz7,dz6,dz5,oget_s]
  exact item_nats (i := (s:Int)) (xs := hs) (by lia) (by lia) (by lia) (by rw [dz13]; exact hK)
 have om:(ORD.map fun s => nV (hs.getD s 0)) = (ORD.map fun s => hs.getD s 0).map nV := by rw [List.map_map]; rfl
 rw [List.nil_append,om]
 have ol:(ORD.map fun s => hs.getD s 0).length = 19 := by rw [List.length_map]; rfl
 have og:∀ j,j < 19→(ORD.map fun s => hs.getD s 0).getD j 0 = hs.getD (ORD.getD j 0) 0 := fun j hj => by
  rw [List.getD_eq_getElem?_getD,List.getElem?_map,List.getD_eq_getElem?_getD (l := ORD),List.getElem?_eq_getElem (show j < ORD.length from hj)]; rfl
 refine ⟨by rw [List.length_map]; lia,k17n (n := 20) (least := 4) (by decide) (by lia) (by lia) (fun m m1 m2 m3 m4 => ?_)⟩
 rw [← List.map_take]
 exact q hs m c _ _ _ ⟨hs19,cd3.ok,cd3.whole (by decide),fun r hr => cd3.pos.mpr (Int.lt_of_lt_of_le (ps3 r hr) (h3 _)),m1,by lia,fun h => by rw [← og _ (by lia)]; lia,fun j h1 h2 => by rw [← og _ h2]; exact m4 j h1⟩
theorem k20 {n:Nat} (hn:20 < n) {H:Hp} {Q:V→Hp→Prop} {d b:Addr} {bits:List Nat} {ts:List Tk} {last:Bool} (w:WrB H d b bits) (hb:bits.length ≤ 100) (ht:∀ t ∈ ts,t.ok) (hl:ts.length ≤ 30)
  (q:∀ H' L D hs m rs,DP ts L D hs m rs→WrB H' d b (bits ++ (lsb last.toNat 1 ++ (lsb 2 2 ++ (hbits L D hs m rs ++ (ts.flatMap (Tk.bits L D) ++ cbits L 256)))))→Q .none H'):Sp n 20 [.obj aBW d,.lst (ts.map Tk.v),.bool last] H Q := by
 rw [Sp_at hn]
 refine ⟨rfl,?_⟩
 show wpFn (Sp 20) 17 (b20 aBW aDS) [.obj aBW d,.lst (ts.map Tk.v),.bool last] H Q
 have hbig := big_eq
 refine ex3_1 (id w) fun bs0 h0 m0 w0 U => ?_
 unfold wpFn b20
 show wpSs _ _ _ _ [some (.obj aBW d),some (.lst (ts.map Tk.v)),some (.bool last),none,none,none,none,none,none,none,none,none,none,none,none,none,none] H
 refine step ?_
 dsimp only [wpS,wpE,wpEs,dz11,dz12,dz8,dz7]
 intro dS hdS
 have nd:dS ≠ d := fun e => by rw [e,w0.rcd] at hdS; cases hdS
 have nb:dS ≠ b := fun e => by rw [e,w0.oct] at hdS; cases hdS
 refine k9 (n := 20) (by decide) (Hp.set_self ..) (fun H1 sg1 e1 => ⟨rfl,step ?_⟩)
 have w1:WrB H1 d b bits := w.of_eq (by rw [e1 _ (Ne.symm nd),Hp.set_ne _ _ (Ne.symm nd)]) (by rw [e1 _ (Ne.symm nb),Hp.set_ne _ _ (Ne.symm nb)])
 clear e1 hdS w0 w hn
 dsimp only [wpS,wpE,dz6,dz5,wpEs,oget_s]
 repeat first | refine bW ?_ | refine bD ?_
 refine ⟨⟨_,sg1⟩,k12 (n := 20) (by decide) sg1 ht (by lia) (fun a b' ab ha hb' => ?_)⟩
 rw [lit_bumps,dst_bumps]
 dsimp only [bindT_m,bindM_c,dz8,dz7,bindM_n,obind_s]
 refine step ?_
 dsimp only [wpS,wpE,wpEs,dz6,dz5,oget_s]
 have nn1:∀ s,0 ≤ (bumps lit0 (ts.map Tk.sg)).getD s 0 := fun s => Int.le_trans (lit0_nn s) (bumps_le _ _ s)
 have us1:(used (bumps lit0 (ts.map Tk.sg))).length ≤ 31 := by
  have h1 := bumps_np (ts.map Tk.sg) lit0
  have h2 := lit0_np
  rw [np_used]
  rw [List.length_map] at h1; lia
 have ln1:(bumps lit0 (ts.map Tk.sg)).length = 286 := bumps_len _ _
 have ps1:∀ t ∈ ts,0 < (bumps lit0 (ts.map Tk.sg)).getD t.sg 0 := fun t h => bumps_pos _ _ _ lit0_nn (Tk.sg_lt (ht t h)) (List.mem_map.mpr ⟨t,h,rfl⟩)
 have en1:0 < (bumps lit0 (ts.map Tk.sg)).getD 256 0 := Int.lt_of_lt_of_le (show 0 < lit0.getD 256 0 by decide) (bumps_le _ _ 256)
 generalize bumps lit0 (ts.map Tk.sg) = lits at *
 refine k19 (n := 20) (by decide) (cs := lits) (by rw [Hp.set_ne _ _ ab,Hp.set_self]) (by lia) (by lia) nn1 (fun lits' l1 l2 l3 l4 l5 => ⟨rfl,step ?_⟩)
 rw [Hp.set_comm ab,Hp.set_set]
 have ha2:∀ c,(H1.set b' c) a = none := fun c => by rw [Hp.set_ne _ _ ab]; exact ha
 dsimp only [wpS,wpE,wpEs,dz6,dz5,dz8,dz7,binW,vI_i,oget_s]
 rw [Hp.set_self]
 try dsimp only [vI_i]
 rw [Hp.set_erase _ a _ (ha2 _)]
 refine k_cut (n := 20) (most := 15) (least := 257) (by decide) (by lia) (by decide) (by decide) (by lia) (by lia) (by lia) (fun L Lg Ll L3 cdL => step ?_)
 have Lu:(used (cI L)).length < 64 := by rw [cdL.us]; lia
 have L2:L.length ≤ 286 := by lia
 have L256:0 < L.getD 256 0 := cdL.pos.mpr (Int.lt_of_lt_of_le en1 (l3 _))
 have LhP:∀ t ∈ ts,0 < L.getD t.sg 0 := fun t h => cdL.pos.mpr (Int.lt_of_lt_of_le (ps1 t h) (l3 _))
 have Lc := cdL.ok
 have Lw := cdL.whole (by decide)
 clear ps1 en1 l1 l2 l3 l4 l5 nn1 us1 ln1 cdL Ll ha2
 dsimp only [wpS,wpE,wpEs,dz6,dz5,dz8,dz7,oget_s]
 rw [Hp.set_self]
 try dsimp only [vI_i]
 rw [Hp.set_erase _ b' _ hb']
 have us2:(used (bumps dst0 (ts.filterMap Tk.dg))).length ≤ 30 := by
  have h1 := bumps_np (ts.filterMap Tk.dg) dst0
  have h2:np dst0 = 0 := zeros_np 30
  have h3 := List.length_filterMap_le Tk.dg ts
  rw [np_used]; lia
 have ln2:(bumps dst0 (ts.filterMap Tk.dg)).length = 30 := bumps_len _ _
 have ps2:∀ l' d',Tk.pair l' d' ∈ ts→0 < (bumps dst0 (ts.filterMap Tk.dg)).getD (dstP d') 0 := fun l' d' h => bumps_pos _ _ _ (fun i => by unfold dst0; rw [zeros_get]; decide) (dstP_lt d') (List.mem_filterMap.mpr ⟨_,h,rfl⟩)
 generalize bumps dst0 (ts.filterMap Tk.dg) = dsts at *
 refine k_cut (n := 20) (most := 15) (least := 1) (by decide) (by lia) (by decide) (by decide) (by lia) (by lia) (by lia) (fun D D1 Dl D3 cdD => step ?_)
 have ld:LD ts L D := {
  L1 := Lg,L2 := L2,L3 := L3,Lc := Lc,Lw := Lw,Lu := Lu,D1 := D1,D2 := by lia,D3 := D3,Dc := cdD.ok,Dw := cdD.whole (by decide),Du := by rw [cdD.us]; lia,L256 := L256
  tk := fun t h => ⟨ht t h,by
   have p1 := LhP t h
   cases t with
   | lit c => exact p1
   | pair l' d' => exact ⟨p1,cdD.pos.mpr (ps2 l' d' h)⟩⟩ }
 clear cdD ps2 us2 ln2 Dl D3 D1 L3 Lg L2 Lu L256 LhP Lc Lw dsts
 have e1 := ld.L2
 have e2 := ld.D2
 dsimp only [wpS,wpE,wpEs,dz6,dz5,dz8,dz7,mk,oget_s,asList_l]
 refine ⟨by rw [List.length_append,List.length_map,List.length_map]; lia,?_⟩
 rw [← List.map_append]
 refine k18 (n := 20) (by decide) (by rw [List.length_append]; lia) (fun x hx => ?_) (fun rs rp => ?_)
 ·rcases List.mem_append.mp hx with hx | hx
  ·exact Nat.lt_succ_of_le (le_mem ld.Lc.le x hx)
  ·exact Nat.lt_succ_of_le (le_mem ld.Dc.le x hx)
 refine k20_h rp (by rw [List.length_append]; lia) (fun hs m c v10 v11 v12 hd => ?_)
 exact k20_w ⟨ld,hd,rp⟩ w1 sg1 nd nb hb hl (fun l H' w' => ⟨H',Hp.le_refl _,q H' L D hs m rs ⟨ld,hd,rp⟩ w'⟩)
noncomputable def Rd (H:Hp) (r:Addr) (B rest:List Nat):Prop := ∃ p,H r = some (Rc B p)∧p ≤ B.length∧B.drop p = rest∧B.length ≤ 200000
noncomputable def SameR (H H':Hp) (r:Addr):Prop := ∀ a,a ≠ r→H' a = H a
theorem Rd.set {H:Hp} {r a:Addr} {B rest:List Nat} {c:Cell} (h:Rd H r B rest) (ha:a ≠ r):Rd (H.set a c) r B rest := by
 refine ex1_1 h fun p e h => ?_
 exact ⟨p,by rw [Hp.set_ne _ _ (Ne.symm ha)]; exact e,h⟩
theorem Rd.erase {H:Hp} {r a:Addr} {B rest:List Nat} (h:Rd H r B rest) (ha:a ≠ r):Rd (H.erase a) r B rest := by
 refine ex1_1 h fun p e h => ?_
 refine ⟨p,?_,h⟩
 unfold Hp.erase
 rw [if_neg (Ne.symm ha)]; exact e
theorem Rd.ne {H:Hp} {r a:Addr} {B rest:List Nat} (h:Rd H r B rest) (ha:H a = none):a ≠ r := fun q => by
 refine ex1_1 h fun p e h => ?_; clear h
 rw [← q,ha] at e; cases e
theorem rd22 {n:Nat} (hn:22 < n) {H:Hp} {Q:V→Hp→Prop} {r:Addr} {B rest:List Nat} {x k:Nat} (h:Rd H r B (lsb x k ++ rest)) (hx:x < 2 ^ k) (hk:k ≤ 20)
  (q:∀ H',Rd H' r B rest→SameR H H' r→Q (.int x) H'):Sp n 22 [.ref r,.int k] H Q := by
 refine ex1_3 h fun p e hp hb hB => ?_; clear h
 have hl := congrArg List.length hb
 rw [List.length_drop,List.length_append,lsb_len] at hl
 have hd := drop_app hb
 rw [lsb_len] at hd
 exact k22 hn e hB hb hx hk hp (q _ ⟨p + k,Hp.set_self ..,by lia,hd,hB⟩ (fun a ha => Hp.set_ne _ _ ha))
theorem rd24 {n M:Nat} (hn:24 < n) {H:Hp} {Q:V→Hp→Prop} {r:Addr} {B rest:List Nat} {s:Nat} {ls:List Nat} (hM:M ≤ 15) (hl:LOk M ls) (hs:0 < ls.getD s 0) (h:Rd H r B (cbits ls s ++ rest))
  (q:∀ H',Rd H' r B rest→SameR H H' r→Q (.int s) H'):Sp n 24 [.ref r,.pd (treeOf ls)] H Q := by
 refine ex1_3 h fun p e hp hb hB => ?_; clear h
 unfold cbits at hb
 have hl2 := congrArg List.length hb
 rw [List.length_drop,List.length_append,msb_len] at hl2
 have hd := drop_app hb
 rw [msb_len] at hd
 exact k24 hn hM hl hs e hB hb (q _ ⟨p + ls.getD s 0,Hp.set_self ..,by omega,hd,hB⟩ (fun a ha => Hp.set_ne _ _ ha))
theorem item_natsR {H:Hp} {a:Addr} {xs:List Nat} {i:Int} {P:V→Prop} (e:H a = some (.list (xs.map nV))) (h0:0 ≤ i) (h1:i < xs.length) (hb:xs.length ≤ big) (hp:P (.int (xs.getD i.toNat 0:Nat))):itemW H (.ref a) (.int i) P :=
 item_ref e h0 (by simpa using h1) (by simpa using hb) (fun v hv => by
  have hlt:i.toNat < xs.length := by exact (Int.toNat_lt h0).mpr h1
  rw [List.getElem?_map,List.getElem?_eq_getElem hlt] at hv
  cases hv
  rwa [getD_lt hlt] at hp)
theorem item_last {H:Hp} {a:Addr} {xs:List Nat} {P:V→Prop} (e:H a = some (.list (xs.map nV))) (h0:xs ≠ []) (hb:xs.length ≤ big) (hp:P (.int (xs.getLastD 0:Nat))):itemW H (.ref a) (.int (-((1:Nat):Int))) P := by
 have hl:0 < xs.length := List.length_pos_iff.mpr h0
 have e2:asSeq H (.ref a) = some (xs.map nV) := by rw [asSeq_r,asList_r,e]
 refine .inl ?_
 rw [e2]
 refine ⟨xs.length - 1,nV (xs.getLastD 0),⟨?_,?_,by rw [List.length_map]; exact hb⟩,hp⟩
 ·unfold idx
  rw [List.length_map,if_neg (by decide),if_pos (by lia)]
  congr 1; lia
 ·rw [List.getElem?_map,List.getElem?_eq_getElem (by exact Nat.sub_one_lt_of_lt hl)]
  show some (nV _) = _
  congr 2
  rw [List.getLastD_eq_getLast?,List.getLast?_eq_getElem?,List.getElem?_eq_getElem (by exact Nat.sub_one_lt_of_lt hl)]; rfl
theorem fold_len:∀ (rs:List Rn) (acc:List Nat),acc.length + rs.length ≤ (rs.foldl ext acc).length
 | [],acc => Nat.le_refl _
 | r :: rs,acc => by
  have h1 := fold_len rs (ext acc r)
  have h2 := ext_len acc r
  rw [List.foldl_cons,List.length_cons]; lia
theorem RP.at {rs:List Rn} {L:List Nat} (h:RP rs L) (i:Nat):((rs.take i).foldl ext []).length + (rs.length - i) ≤ L.length := by
 have h1 := fold_len (rs.drop i) ((rs.take i).foldl ext [])
 rw [← List.foldl_append,List.take_append_drop,h.fold,List.length_drop] at h1
 exact h1
theorem mkL_eq {m:Nat} {f:Nat→Nat} {ls:List Nat} (hl:ls.length = m) (h:∀ s,s < m→f s = ls.getD s 0):mkL m f = ls.map nV := by
 conv => rhs; rw [range_getD ls]
 rw [List.map_map,hl]
 exact mkL_ext h
theorem ORD_onto:∀ s,s < 19→∃ j,j < 19∧ORD.getD j 0 = s := by decide
theorem ORD_get:∀ j,j < 19→ORD[j]? = some (ORD.getD j 0)∧ORD.getD j 0 < 19 := by decide
theorem sames_nil {xs:List Nat} (h:xs ≠ []):V.sames (xs.map nV) [] = false := by
 cases xs with
 | nil => exact absurd rfl h
 | cons x r => rfl
noncomputable def b26f:MS := .forr (.one 6) (.range (.cons (.loc 3) .nil)) (.cons (.setI (.loc 5) (.item (.loc 4) (.loc 6)) (.call 22 (.cons (.loc 0) (.cons (.cint 3) .nil)))) .nil)
noncomputable def b26b:MSs := (.cons (.asg 9 (.call 24 (.cons (.loc 0) (.cons (.loc 7) .nil)))) (.cons (.ite (.or (.cons (.cmp .lt (.loc 9) (.cint 0)) (.cons (.and (.cons (.cmp .eq (.loc 9) (.cint 16)) (.cons (.cmpL true (.loc 8) (.list false .nil)) .nil))) .nil)))
  (.cons (.ret .cnone) .nil)
  .nil) (.cons (.ite (.cmp .lt (.loc 9) (.cint 16))
  (.cons (.expr (.append (.loc 8) (.loc 9))) .nil)
  (.cons (.ite (.cmp .eq (.loc 9) (.cint 16))
  (.cons (.asg 8 (.cat true (.loc 8) (.rep false (.item (.loc 8) (.neg 1)) (.bin .add (.cint 3) (.call 22 (.cons (.loc 0) (.cons (.cint 2) .nil))))))) .nil)
  (.cons (.asg 8 (.cat true (.loc 8) (.rep false (.cint 0) (.ite (.cmp .eq (.loc 9) (.cint 17)) (.bin .add (.cint 3) (.call 22 (.cons (.loc 0) (.cons (.cint 3) .nil)))) (.bin .add (.cint 11) (.call 22 (.cons (.loc 0) (.cons (.cint 7) .nil)))))))) .nil)) .nil)) .nil)))
theorem heads_eq {hs:List Nat} {m:Nat} {rs:List Rn} (dp:HD hs m rs):mkL 19 (fun s => if s ∈ ORD.take m then hs.getD s 0 else 0) = hs.map nV := mkL_eq dp.H1 (fun s hs' => by
 by_cases c:s ∈ ORD.take m
 ·rw [if_pos c]
 ·rw [if_neg c]
  refine ex1_1 (ORD_onto s hs') fun j hj xq1 => ?_
  obtain rfl := xq1
  refine (dp.m4 j ?_ hj).symm
  by_cases q:m ≤ j
  ·exact q
  ·refine absurd (List.mem_of_getElem? (i := j) ?_) c
   rw [List.getElem?_take,if_pos (by exact Nat.lt_of_not_le q)]
   exact (ORD_get j hj).1)
theorem k26_f {H:Hp} {r a:Addr} {B rest hs:List Nat} {m:Nat} {rs:List Rn} {c1 c2:V} {v6 v7 v8 v9:Option V} {K:Loc→Hp→Prop} {Qr:V→Hp→Prop} (dp:HD hs m rs) (na:a ≠ r) (r3:Rd H r B ((ORD.take m).flatMap (fun s => lsb (hs.getD s 0) 3) ++ rest)) (ea:H a = some (.list (List.replicate 19 (V.int 0))))
  (q:∀ v6 H',Rd H' r B rest→H' a = some (.list (hs.map nV))→K [some (.ref r),some c1,some c2,some (.int (m:Int)),some (.lst (ORD.map nV)),some (.ref a),v6,v7,v8,v9] H') :
  wpS (Sp 26) b26f K Qr [some (.ref r),some c1,some c2,some (.int (m:Int)),some (.lst (ORD.map nV)),some (.ref a),v6,v7,v8,v9] H := by
 have hm2 := dp.m2
 unfold b26f
 dsimp only [wpS,wpI,wpEs,wpE,dz6,dz5,rangeW_1,oget_s,vI_i]
 refine ⟨⟨by exact Int.neg_ofNat_le_natCast 400000 m,by lia⟩,?_⟩
 refine for_inv (fun i l H' => ∃ v6,l = [some (.ref r),some c1,some c2,some (.int (m:Int)),some (.lst (ORD.map nV)),some (.ref a),v6,v7,v8,v9]∧Rd H' r B (((ORD.take m).drop i).flatMap (fun s => lsb (hs.getD s 0) 3) ++ rest)∧H' a = some (.list (mkL 19 fun s => if s ∈ ORD.take i then hs.getD s 0 else 0))) _ (k := 0) ⟨_,rfl,r3,by rw [ea,mkL_zero]; rfl⟩ ?_ ?_
 ·intro i v l H' K hv hI9 hK
  refine ex1_2 hI9 fun v6 xq1 w' ea => ?_; clear hI9
  obtain rfl := xq1
  refine ex0_1 (rangeL_get hv) fun xq2 hi => ?_
  obtain rfl := xq2
  have hi:i < m := by assumption
  rw [Nat.zero_add] at hK w' ea
  rw [Int.zero_add]
  refine ex0_1 (ORD_get i (by exact Nat.lt_of_lt_of_le ‹_› ‹_›)) fun g1 g2 => ?_
  rw [drop_at (x := ORD.getD i 0) (by rw [List.getElem?_take,if_pos hi]; exact g1),List.flatMap_cons,List.append_assoc] at w'
  generalize ORD.getD i 0 = s0 at *
  have h7 := dp.Hc.le s0
  dsimp only [bindT_o,dz8,dz7,wpSs,wpS,wpE,wpEs,obind_s,dz5,dz6,oget_s]
  refine rd22 (n := 26) (k := 3) (by decide) w' (by exact Nat.lt_succ_of_le h7) (by decide) (fun H4 r4 s4 => ?_)
  refine item_lst (xs := ORD.map nV) (by exact Int.natCast_nonneg _) (by rw [List.length_map]; show (i:Int) < 19; lia) (by decide) (fun v hv => ?_)
  rw [dz13,List.getElem?_map,g1] at hv
  cases hv
  rw [nV]
  try dsimp only [vI_i]
  rw [s4 a na,ea]
  dsimp only [ixW_i,dz13]
  rw [mkL_len]
  refine ⟨⟨by exact Int.natCast_nonneg _,by exact Int.ofNat_lt.mpr g2,by decide⟩,hK _ _ ⟨_,rfl,r4.set na,?_⟩⟩
  rw [Hp.set_self]
  congr 2
  refine mkL_set g2 (fun s hs' => ?_)
  simp only [take_snoc g1,List.mem_append,List.mem_singleton]
  by_cases c:s = s0
  ·rw [if_pos c,if_pos (.inr c),c]
  ·rw [if_neg c]
   by_cases c2:s ∈ ORD.take i
   ·rw [if_pos c2,if_pos (.inl c2)]
   ·rw [if_neg c2,if_neg (fun h => h.elim c2 c)]
 ·intro l H4 hI9
  refine ex1_2 hI9 fun v6 xq2 r4 ea => ?_; clear hI9
  obtain rfl := xq2
  rw [rangeL_len,show 0 + ((m:Int) - 0).toNat = m by lia] at r4 ea
  rw [List.drop_of_length_le (by rw [List.length_take]; exact Nat.min_le_left m ORD.length),List.flatMap_nil,List.nil_append] at r4
  rw [heads_eq dp] at ea
  exact q _ _ r4 ea
theorem k26_b {H:Hp} {r c:Addr} {B rest hs acc:List Nat} {t:Rn} {c1 c2 c3 c4 c5:V} {v6 v9:Option V} {K:Loc→Hp→Prop} {Qr:V→Hp→Prop} (hc:LOk 7 hs) (h0:0 < hs.getD t.1 0) (hr:rOk acc t) (hl:(ext acc t).length ≤ 1000) (nc:c ≠ r) (w':Rd H r B (rbits hs t ++ rest)) (ec:H c = some (.list (acc.map nV)))
  (nx:∀ (H2:Hp) (c':Addr) (v9:Option V),Rd H2 r B rest→c' ≠ r→H2 c' = some (.list ((ext acc t).map nV))→K [some (.ref r),some c1,some c2,some c3,some c4,some c5,v6,some (.pd (treeOf hs)),some (.ref c'),v9] H2) :
  wpSs (Sp 26) b26b K Qr [some (.ref r),some c1,some c2,some c3,some c4,some c5,v6,some (.pd (treeOf hs)),some (.ref c),v9] H := by
 have hbig := big_eq
 have hel := ext_len acc t
 unfold rbits at w'
 rw [List.append_assoc] at w'
 unfold b26b
 refine step ?_
 dsimp only [wpS,wpE,wpEs,dz5,dz8,dz7,dz6,oget_s]
 refine rd24 (n := 26) (M := 7) (by decide) (by decide) hc h0 w' (fun H1 r1 s1 => stepK (fun G hG => ?_))
 have e1 := (s1 c nc).trans ec
 dsimp only [wpS,wpE,wpOr,dz6,dz5,truthW_b,wpAnd,wpEs,mk,dz10,asList_r,asList_l,oget_s,cmpW,copI,vI_i]
 rw [decide_eq_false (by exact Int.not_ofNat_neg t.fst:¬ (t.1:Int) < 0)]
 try dsimp only [vI_i]
 have S:G [some (.ref r),some c1,some c2,some c3,some c4,some c5,v6,some (.pd (treeOf hs)),some (.ref c),some (.int (t.1:Int))] H1 := hG _ _ (by
  clear hG s1 ec w'
  have mk2:∀ (H2:Hp) (n:Nat) (x:Nat),Rd H2 r B rest→H2 c = some (.list (acc.map nV))→ext acc t = acc ++ List.replicate n x→(acc.map nV ++ List.replicate n (nV x)).length ≤ big∧∀ a' ,H2 a' = none→K [some (.ref r),some c1,some c2,some c3,some c4,some c5,v6,some (.pd (treeOf hs)),some (.ref a'),some (.int (t.1:Int))] (H2.set a' (.list (acc.map nV ++ List.replicate n (nV x)))) := fun H2 n x r2 e2 ee => by
   rw [← List.map_replicate,← List.map_append,← ee]
   exact ⟨by rw [List.length_map]; lia,fun a' ha' => nx _ _ _ (r2.set (r2.ne ha')) (r2.ne ha') (Hp.set_self ..)⟩
  refine step ?_
  dsimp only [wpS,wpE,dz6,dz5,truthW_b,cmpW,copI,vI_i,oget_s]
  rcases hr with ⟨d1,d2,d3⟩ | ⟨d1,d2,d3,d4⟩ | ⟨d1,d2,d3⟩ | ⟨d1,d2,d3⟩
  ·refine dT (by exact Int.lt_toNat.mp d1) ?_
   rw [d2,d3,show lsb 0 0 = [] from rfl,List.nil_append] at r1
   have ee:ext acc t = acc ++ [t.1] := by unfold ext; rw [if_pos d1]
   rw [ee] at nx
   clear mk2
   dsimp only [wpSs,wpS,wpE,dz6,dz5,oget_s]
   exact app_ref e1 (by rw [List.length_map]; lia) ⟨rfl,nx _ _ _ (r1.set nc) nc (by rw [Hp.set_self,List.map_append]; rfl)⟩
  ·refine dF (by lia) ?_
   try dsimp only [vI_i]
   refine step ?_
   dsimp only [wpS,wpE,dz6,dz5,truthW_b,cmpW,copI,vI_i,oget_s]
   refine dT (by exact Int.neg_inj.mp (congrArg Neg.neg (congrArg Nat.cast d1))) ?_
   have ee:ext acc t = acc ++ List.replicate (3 + t.2.1) (acc.getLastD 0) := by unfold ext; rw [if_neg (by lia),if_pos d1]
   rw [d3] at r1
   dsimp only [wpSs,wpS,wpE,dz6,dz5,dz8,dz7,mk,asList_r,asList_l,wpEs,binW,dz13,vI_i,oget_s]
   refine item_last e1 d4 (by lia) (rd22 (n := 26) (k := 2) (by decide) r1 (by assumption) (by decide) (fun H2 r2 s2 => ?_))
   have e2 := (s2 c nc).trans e1
   try dsimp only [vI_i]
   rw [show (3:Int) + (t.2.1:Int) = ((3 + t.2.1:Nat):Int) by exact Int.natCast_add _ _,e2,dz13]
   exact ⟨⟨by exact Int.natCast_nonneg (3 + t.snd.fst),by lia⟩,by rw [List.length_replicate]; lia,mk2 H2 _ _ r2 e2 ee⟩
  ·refine dF (by lia) ?_
   try dsimp only [vI_i]
   refine step ?_
   dsimp only [wpS,wpE,dz6,dz5,truthW_b,cmpW,copI,vI_i,oget_s]
   refine dF (by lia) ?_
   have ee:ext acc t = acc ++ List.replicate (3 + t.2.1) 0 := by unfold ext; rw [if_neg (by lia),if_neg (by lia),if_pos d1]
   rw [d3] at r1
   dsimp only [wpSs,wpS,wpE,dz6,dz5,dz8,dz7,mk,asList_r,asList_l,wpEs,binW,dz13,vI_i,oget_s,truthW_b,cmpW,copI]
   refine dT (by lia) ?_
   refine rd22 (n := 26) (k := 3) (by decide) r1 (by lia) (by decide) (fun H2 r2 s2 => ?_)
   have e2 := (s2 c nc).trans e1
   try dsimp only [vI_i]
   rw [show (3:Int) + (t.2.1:Int) = ((3 + t.2.1:Nat):Int) by lia,e2,dz13]
   exact ⟨⟨by lia,by lia⟩,by rw [List.length_replicate]; lia,mk2 H2 _ 0 r2 e2 ee⟩
  ·refine dF (by lia) ?_
   try dsimp only [vI_i]
   refine step ?_
   dsimp only [wpS,wpE,dz6,dz5,truthW_b,cmpW,copI,vI_i,oget_s]
   refine dF (by lia) ?_
   have ee:ext acc t = acc ++ List.replicate (11 + t.2.1) 0 := by unfold ext; rw [if_neg (by lia),if_neg (by lia),if_neg (by lia)]
   rw [d3] at r1
   dsimp only [wpSs,wpS,wpE,dz6,dz5,dz8,dz7,mk,asList_r,asList_l,wpEs,binW,dz13,vI_i,oget_s,truthW_b,cmpW,copI]
   refine dF (by lia) ?_
   refine rd22 (n := 26) (k := 7) (by decide) r1 (by lia) (by decide) (fun H2 r2 s2 => ?_)
   have e2 := (s2 c nc).trans e1
   try dsimp only [vI_i]
   rw [show (11:Int) + (t.2.1:Int) = ((11 + t.2.1:Nat):Int) by lia,e2,dz13]
   exact ⟨⟨by lia,by lia⟩,by rw [List.length_replicate]; lia,mk2 H2 _ 0 r2 e2 ee⟩)
 by_cases h16:(t.1:Int) = 16
 ·rw [decide_eq_true h16]
  have ha:acc ≠ [] := by
   rcases hr with ⟨d1,_⟩ | ⟨_,_,_,d4⟩ | ⟨d1,_⟩ | ⟨d1,_⟩
   ·lia
   ·exact d4
   ·lia
   ·lia
  refine ⟨Nat.zero_le _,?_⟩
  rw [e1]
  try dsimp only [vI_i]
  refine ⟨⟨plains_nV acc,rfl⟩,?_⟩
  rw [sames_nil ha]
  exact S
 ·rw [decide_eq_false h16]; exact S
theorem k26 {n:Nat} (hn:26 < n) {H:Hp} {Q:V→Hp→Prop} {r:Addr} {B rest:List Nat} {ts:List Tk} {L D hs:List Nat} {m:Nat} {rs:List Rn} (dp:DP ts L D hs m rs) (h:Rd H r B (hbits L D hs m rs ++ rest))
  (q:∀ H',Rd H' r B rest→Q (.tup [.lst (L.map nV),.lst (D.map nV)]) H'):Sp n 26 [.ref r] H Q := by
 rw [Sp_at hn]
 refine ⟨rfl,?_⟩
 show wpFn (Sp 26) 10 b26 [.ref r] H Q
 have hbig := big_eq
 have hL1 := dp.L1
 have hL2 := dp.L2
 have hD1 := dp.D1
 have hD2 := dp.D2
 have hm1 := dp.m1
 have hm2 := dp.m2
 have hs19 := dp.H1
 unfold hbits at h
 simp only [List.append_assoc] at h
 unfold wpFn b26
 show wpSs _ _ _ _ [some (.ref r),none,none,none,none,none,none,none,none,none] H
 refine step ?_
 dsimp only [wpS,wpEs,wpE,dz5,bindM_c,dz8,dz7,bindM_n,obind_s,binW,vI_i,oget_s]
 refine rd22 (n := 26) (k := 5) (by decide) h (by omega) (by decide) (fun H1 r1 s1 => ?_)
 try dsimp only [vI_i]
 refine rd22 (n := 26) (k := 5) (by decide) r1 (by lia) (by decide) (fun H2 r2 s2 => ?_)
 try dsimp only [vI_i]
 refine rd22 (n := 26) (k := 4) (by decide) r2 (by omega) (by decide) (fun H3 r3 s3 => ?_)
 try dsimp only [vI_i]
 rw [show (257:Int) + ((L.length - 257:Nat):Int) = (L.length:Int) by lia,show (1:Int) + ((D.length - 1:Nat):Int) = (D.length:Int) by lia,show (4:Int) + ((m - 4:Nat):Int) = (m:Int) by lia]
 clear r1 r2 s1 s2 s3 h
 refine step ?_
 dsimp only [wpS,wpEs,wpE,mk,dz9,dz10,bindM_c,dz8,dz7,bindM_n,obind_s]
 refine ⟨by decide,⟨by decide,by decide⟩,by rw [List.length_replicate]; decide,fun a ha => ?_⟩
 have na := r3.ne ha
 refine step (k26_f dp.toHD na (r3.set na) (Hp.set_self ..) (fun v6 H4 r4 ea => step ?_))
 clear r3 ha
 dsimp only [wpS,dz6,dz5,dz8,dz7]
 rw [ea]
 try dsimp only [vI_i]
 have r5 := r4.erase na
 clear r4 ea
 generalize H4.erase a = H5 at *
 refine stepK (fun K hK => ?_)
 dsimp only [wpS,wpE,wpOr,wpEs,dz6,dz5,truthW_b,wpAnd,cmpW,copI,vI_i,oget_s,binW,biW,oneV_1,asList_l,obind_s]
 refine k25 (n := 26) (ls := hs) (least := 2) (by decide) (by lia) (fun s => by have := dp.Hc.le s; lia) dp.Hw ?_
 refine ex1_2 (maxL_of hs (fun e => by rw [e] at hs19; cases hs19)) fun mx em hmx hin => ?_
 have mx7 := le_mem dp.Hc.le mx hin
 try dsimp only [Bool.not_true,vI_i]
 refine ⟨_,_,⟨intsOf_nV hs,em⟩,?_⟩
 refine dF (by lia:¬ (7:Int) < mx) ?_
 try dsimp only [vI_i]
 rw [decide_eq_false (by lia:¬ (286:Int) < L.length),decide_eq_false (by lia:¬ (30:Int) < D.length)]
 try dsimp only [vI_i]
 have S:K [some (.ref r),some (.int (L.length:Int)),some (.int (D.length:Int)),some (.int (m:Int)),some (.lst (ORD.map nV)),some (.lst (hs.map nV)),v6,none,none,none] H5 := hK _ _ (by
  clear hK em hmx hin mx7
  refine step ?_
  dsimp only [wpS,wpEs,wpE,dz6,dz5,bindM_c,dz8,dz7,mk,dz10,bindM_n,obind_s,oget_s]
  refine k23 (n := 26) (M := 7) (by decide) (by lia) (by decide) dp.Hc (by have := used_le (cI hs); rw [cI_len] at this; lia) ?_
  refine ⟨Nat.zero_le _,fun c hc => stepK (fun Kw hKw => ?_)⟩
  have nc := r5.ne hc
  have r6 := r5.set (c := .list []) nc
  dsimp only [wpS,wpE,wpEs,truthW_b,cmpW,copI,binW,vI_i,biW,lenW,oneV_1]
  refine ⟨rs.length + 1,?_⟩
  refine while_inv (fun m' l H' => ∃ (i:Nat) (c:Addr) (v6 v9:Option V),m' = rs.length - i∧i ≤ rs.length∧l = [some (.ref r),some (.int (L.length:Int)),some (.int (D.length:Int)),some (.int (m:Int)),some (.lst (ORD.map nV)),some (.lst (hs.map nV)),v6,some (.pd (treeOf hs)),some (.ref c),v9]∧Rd H' r B ((rs.drop i).flatMap (rbits hs) ++ rest)∧c ≠ r∧H' c = some (.list (((rs.take i).foldl ext []).map nV))) ?_ _ rs.length (by lia) ⟨0,c,_,_,rfl,Nat.zero_le _,rfl,r6,nc,Hp.set_self ..⟩
  clear r6 nc hc r5 c
  intro m' l H' K hI9 hK
  refine ex4_5 hI9 fun i c v6 v9 xq3 hi xq4 w' nc ec => ?_; clear hI9
  obtain rfl := xq3
  obtain rfl := xq4
  have hat := dp.rp.at i
  rw [List.length_append] at hat
  dsimp only [dz6,dz5,oget_s,vI_i,asSeq_r,asList_r]
  rw [ec]
  try dsimp only [vI_i]
  rw [List.length_map]
  refine ⟨by lia,?_⟩
  by_cases ci:i < rs.length
  ·obtain ⟨t,et⟩:∃ t,rs[i]? = some t := ⟨rs[i],List.getElem?_eq_getElem ci⟩
   have nxt:(rs.take (i + 1)).foldl ext [] = ext ((rs.take i).foldl ext []) t := by rw [take_snoc et,List.foldl_append]; rfl
   have hat1 := dp.rp.at (i + 1)
   rw [nxt,List.length_append] at hat1
   rw [drop_at et,List.flatMap_cons,List.append_assoc] at w'
   refine dT (by lia) ?_
   exact k26_b dp.Hc (dp.Hr t (List.mem_of_getElem? et)) (dp.rp.ok i t et) (by lia) nc w' ec (fun H2 c2 v9 r2 n2 e2 =>
    hK (rs.length - (i + 1)) _ _ (by lia) ⟨i + 1,c2,_,_,rfl,by lia,rfl,r2,n2,by rw [nxt]; exact e2⟩)
  ·have ei:i = rs.length := by lia
   subst ei
   rw [List.take_length,dp.rp.fold] at ec ⊢
   rw [List.drop_of_length_le (Nat.le_refl _),List.flatMap_nil,List.nil_append] at w'
   clear hK hat
   have ll:(L ++ D).length = L.length + D.length := List.length_append
   rw [ll,decide_eq_false (by lia)]
   refine hKw _ _ (stepK (fun G hG => ?_))
   clear hKw
   dsimp only [wpS,wpE,wpOr,wpEs,dz6,dz5,truthW_b,wpAnd,cmpW,copI,vI_i,oget_s,binW,biW,lenW,oneV_1,asSeq_r,asList_r]
   rw [ec]
   try dsimp only [vI_i]
   rw [List.length_map,ll]
   refine ⟨by lia,?_⟩
   refine dF (by lia) ?_
   try dsimp only [vI_i]
   have nl:L ++ D ≠ [] := fun e => by rw [e,List.length_nil] at ll; lia
   have g1:(L ++ D).getD (L.length - 1) 0 = L.getD (L.length - 1) 0 := by
    rw [List.getD_eq_getElem?_getD,List.getElem?_append_left (by lia),List.getD_eq_getElem?_getD]
   have g2:(L ++ D).getLastD 0 = D.getD (D.length - 1) 0 := by
    rw [List.getLastD_eq_getLast?,List.getLast?_eq_getElem?,List.getElem?_append_right (by lia),List.getD_eq_getElem?_getD,ll,show L.length + D.length - 1 - L.length = D.length - 1 by lia]
   have S1:G [some (.ref r),some (.int (L.length:Int)),some (.int (D.length:Int)),some (.int (m:Int)),some (.lst (ORD.map nV)),some (.lst (hs.map nV)),v6,some (.pd (treeOf hs)),some (.ref c),v9] H' := hG _ _ (by
    dsimp only [wpSs,wpS,wpE,wpEs,dz6,dz5,mk,oget_s,asList_r]
    rw [ec]
    try dsimp only [vI_i]
    refine ⟨L.map nV,⟨by rw [slice_to (by lia),← List.map_take,List.take_left],by rw [List.length_map]; lia⟩,by rw [List.length_map]; lia,?_⟩
    exact ⟨D.map nV,⟨by rw [slice_from (by lia),← List.map_drop,List.drop_left],by rw [List.length_map]; lia⟩,by rw [List.length_map]; lia,H',Hp.le_refl _,q H' w'⟩)
   clear hG
   have S2:(match decide ((1:Int) < D.length) with
     | true => itemW H' (.ref c) (.int (-((1:Nat):Int))) fun v => vI v fun a => (match decide (a = (0:Int)) with
       | true => ∃ H'_1,H'_1.le H'∧Q V.none H'_1
       | false => G [some (.ref r),some (.int (L.length:Int)),some (.int (D.length:Int)),some (.int (m:Int)),some (.lst (ORD.map nV)),some (.lst (hs.map nV)),v6,some (.pd (treeOf hs)),some (.ref c),v9] H')
     | false => G [some (.ref r),some (.int (L.length:Int)),some (.int (D.length:Int)),some (.int (m:Int)),some (.lst (ORD.map nV)),some (.lst (hs.map nV)),v6,some (.pd (treeOf hs)),some (.ref c),v9] H') := by
    by_cases hc2:(1:Int) < D.length
    ·refine dT hc2 ?_
     refine item_last ec nl (by lia) ?_
     rw [g2]
     have := dp.D3 (by lia)
     try dsimp only [vI_i]
     refine dF (by lia) ?_
     exact S1
    ·refine dF hc2 ?_; exact S1
   by_cases hc1:(257:Int) < L.length
   ·refine dT hc1 ?_
    refine item_natsR ec (by lia) (by lia) (by lia) ?_
    rw [show ((L.length:Int) - 1).toNat = L.length - 1 by lia,g1]
    have := dp.L3 (by lia)
    try dsimp only [vI_i]
    refine dF (by lia) ?_
    exact S2
   ·refine dF hc1 ?_; exact S2)
 clear hK em hmx hin mx7
 by_cases hc:(4:Int) < m
 ·refine dT hc ?_
  refine ex0_1 (ORD_get (m - 1) (by lia)) fun g1 g2 => ?_
  have g3 := dp.m3 (by lia)
  refine item_nats (xs := ORD) (by lia) (by show (m:Int) - 1 < 19; lia) (by decide) ?_
  rw [show ((m:Int) - 1).toNat = m - 1 by lia]
  refine item_nats (xs := hs) (by lia) (by lia) (by lia) ?_
  rw [dz13]
  try dsimp only [vI_i]
  refine dF (by lia) ?_
  exact S
 ·refine dF hc ?_; exact S
theorem LTa:∀ p,p < 29→(((257 + p:Nat):Int) < 265→snd LT p = 0∧fst LT p = ((257 + p:Nat):Int) - 254)∧(((257 + p:Nat):Int) = 285→snd LT p = 0∧fst LT p = 258) ∧
  (¬ ((257 + p:Nat):Int) < 265→¬ ((257 + p:Nat):Int) = 285→(((257 + p:Nat):Int) - 261) / 4 = snd LT p∧3 + (4 + (((257 + p:Nat):Int) - 265) % 4) * 2 ^ (snd LT p).toNat = fst LT p) := by decide
theorem DTa:∀ p,p < 30→(((p:Nat):Int) < 4→snd DT p = 0∧fst DT p = 1 + ((p:Nat):Int)) ∧
  (¬ ((p:Nat):Int) < 4→((p:Nat):Int) / 2 - 1 = snd DT p∧1 + (2 + ((p:Nat):Int) % 2) * 2 ^ (snd DT p).toNat = fst DT p) := by decide
noncomputable def b27p:MSs := (.cons (.asg 5 (.ite (.or (.cons (.cmp .lt (.loc 4) (.cint 265)) (.cons (.cmp .eq (.loc 4) (.cint 285)) .nil))) (.cint 0) (.bin .fdiv (.bin .sub (.loc 4) (.cint 261)) (.cint 4)))) (.cons (.asg 6 (.ite (.cmp .lt (.loc 4) (.cint 265)) (.bin .sub (.loc 4) (.cint 254)) (.ite (.cmp .eq (.loc 4) (.cint 285)) (.cint 258) (.bin .add (.cint 3) (.bin .mul (.bin .add (.cint 4) (.bin .mod (.bin .sub (.loc 4) (.cint 265)) (.cint 4))) (.bin .pow (.cint 2) (.loc 5))))))) (.cons (.asg 7 (.bin .add (.loc 6) (.call 22 (.cons (.loc 0) (.cons (.loc 5) .nil))))) (.cons (.asg 4 (.call 24 (.cons (.loc 0) (.cons (.loc 2) .nil)))) (.cons (.asg 5 (.ite (.cmp .lt (.loc 4) (.cint 4)) (.cint 0) (.bin .sub (.bin .fdiv (.loc 4) (.cint 2)) (.cint 1)))) (.cons (.asg 8 (.bin .add (.ite (.cmp .lt (.loc 4) (.cint 4)) (.bin .add (.cint 1) (.loc 4)) (.bin .add (.cint 1) (.bin .mul (.bin .add (.cint 2) (.bin .mod (.loc 4) (.cint 2))) (.bin .pow (.cint 2) (.loc 5))))) (.call 22 (.cons (.loc 0) (.cons (.loc 5) .nil))))) (.cons (.expr (.append (.loc 3) (.tup (.cons (.loc 7) (.cons (.loc 8) .nil))))) .nil)))))))
theorem b27_far {H:Hp} {r c:Addr} {B rest D:List Nat} {d' f' e':Nat} {c0 c1:V} {xs:List V} {l':Nat} {v4 v5 v6 v8:Option V} {K:Loc→Hp→Prop} {Qr:V→Hp→Prop} (hD:LOk 15 D) (t2:0 < D.getD (dstP d') 0) (ef':fst DT (dstP d') = (f':Int)) (ee':snd DT (dstP d') = (e':Int)) (fl':f' ≤ d') (rl':d' - f' < 2 ^ e') (e13:e' ≤ 13)
  (nc:c ≠ r) (r2:Rd H r B (cbits D (dstP d') ++ (lsb (d' - f') e' ++ rest))) (e2:H c = some (.list xs)) (tl:xs.length < big)
  (nx:∀ (H2:Hp) (w4 w5 w6 w7 w8:Option V),Rd H2 r B rest→H2 c = some (.list (xs ++ [.tup [.int (l':Int),.int (d':Int)]]))→K [some (.ref r),some c1,some (.pd (treeOf D)),some (.ref c),w4,w5,w6,w7,w8] H2) :
  wpSs (Sp 27) (.cons (.asg 4 (.call 24 (.cons (.loc 0) (.cons (.loc 2) .nil)))) (.cons (.asg 5 (.ite (.cmp .lt (.loc 4) (.cint 4)) (.cint 0) (.bin .sub (.bin .fdiv (.loc 4) (.cint 2)) (.cint 1)))) (.cons (.asg 8 (.bin .add (.ite (.cmp .lt (.loc 4) (.cint 4)) (.bin .add (.cint 1) (.loc 4)) (.bin .add (.cint 1) (.bin .mul (.bin .add (.cint 2) (.bin .mod (.loc 4) (.cint 2))) (.bin .pow (.cint 2) (.loc 5))))) (.call 22 (.cons (.loc 0) (.cons (.loc 5) .nil))))) (.cons (.expr (.append (.loc 3) (.tup (.cons (.loc 7) (.cons (.loc 8) .nil))))) .nil)))) K Qr
   [some (.ref r),some c1,some (.pd (treeOf D)),some (.ref c),v4,v5,v6,some (.int (l':Int)),v8] H := by
 refine ex0_1 (DTa _ (dstP_lt d')) fun b1 b2 => ?_
 rw [ee',ef'] at b1 b2
 have ds := dstP_lt d'
 have pe':2 ^ e' ≤ 2 ^ 13 := Nat.pow_le_pow_right (by decide) e13
 have pw':((2:Int) ^ e') = ((2 ^ e':Nat):Int) := by simp
 clear ef' ee'
 refine step ?_
 dsimp only [wpS,wpE,wpEs,dz5,dz8,dz7,dz6,oget_s]
 refine rd24 (n := 27) (M := 15) (by decide) (by decide) hD t2 r2 (fun H3 r3 s3 => stepK (fun G hG => ?_))
 have e3 := (s3 c nc).trans e2
 clear s3 r2 e2 t2
 generalize dstP d' = p at *
 dsimp only [wpS,wpE,dz6,dz5,dz8,dz7,binW,vI_i,oget_s,truthW_b,cmpW,copI]
 suffices g5:G [some (.ref r),some c1,some (.pd (treeOf D)),some (.ref c),some (.int (p:Int)),some (.int (e':Int)),v6,some (.int (l':Int)),v8] H3 by
  by_cases h1:(p:Int) < 4
  ·refine dT h1 ?_
   rw [(b1 h1).1] at g5; exact g5
  ·refine dF h1 ?_
   rw [← (b2 h1).1] at g5
   exact ⟨⟨by decide,by omega,by decide⟩,g5⟩
 refine hG _ _ (stepK (fun G hG => ?_))
 dsimp only [wpS,wpE,dz6,dz5,dz8,dz7,binW,wpEs,oget_s,vI_i,dz13,truthW_b,cmpW,copI]
 suffices g8:Sp 27 22 [.ref r,.int (e':Int)] H3 (fun y H => match V.int (f':Int),y with
   | .int a,.int b => G [some (.ref r),some c1,some (.pd (treeOf D)),some (.ref c),some (.int (p:Int)),some (.int (e':Int)),v6,some (.int (l':Int)),some (.int (a + b))] H
   | _,_ => False) by
  by_cases h1:(p:Int) < 4
  ·refine dT h1 ?_
   rw [(b1 h1).2] at g8; exact g8
  ·refine dF h1 ?_
   rw [← (b2 h1).2] at g8
   refine ⟨by decide,⟨by exact Int.natCast_nonneg _,by rw [big_eq]; lia,by decide⟩,⟨by omega,?_⟩,g8⟩
   rw [pw',Int.natAbs_natCast]; exact Nat.lt_of_le_of_lt pe' (by decide)
 refine rd22 (n := 27) (by decide) r3 rl' (by lia) (fun H4 r4 s4 => ?_)
 have e4 := (s4 c nc).trans e3
 try dsimp only [vI_i]
 rw [show (f':Int) + ((d' - f':Nat):Int) = (d':Int) by lia]
 refine hG _ _ ?_
 dsimp only [wpSs,wpS,wpE,dz6,dz5,wpEs,oget_s]
 exact app_ref e4 tl ⟨rfl,nx _ _ _ _ _ _ (r4.set nc) (Hp.set_self ..)⟩
theorem b27_pair {H:Hp} {r c:Addr} {B rest D:List Nat} {l' d':Nat} {c1:V} {xs:List V} {v5 v6 v7 v8:Option V} {K:Loc→Hp→Prop} {Qr:V→Hp→Prop} (hD:LOk 15 D) (tok:(Tk.pair l' d').ok) (t2:0 < D.getD (dstP d') 0)
  (nc:c ≠ r) (r1:∃ f e f' e':Nat,(fst LT (lenP l') = (f:Int)∧snd LT (lenP l') = (e:Int)∧fst DT (dstP d') = (f':Int)∧snd DT (dstP d') = (e':Int))∧Rd H r B (lsb (l' - f) e ++ (cbits D (dstP d') ++ (lsb (d' - f') e' ++ rest)))) (e1:H c = some (.list xs)) (tl:xs.length < big)
  (nx:∀ (H2:Hp) (w4 w5 w6 w7 w8:Option V),Rd H2 r B rest→H2 c = some (.list (xs ++ [.tup [.int (l':Int),.int (d':Int)]]))→K [some (.ref r),some c1,some (.pd (treeOf D)),some (.ref c),w4,w5,w6,w7,w8] H2) :
  wpSs (Sp 27) b27p K Qr [some (.ref r),some c1,some (.pd (treeOf D)),some (.ref c),some (.int ((257 + lenP l':Nat):Int)),v5,v6,v7,v8] H := by
 refine og fun G hG => ?_
 obtain ⟨f,e,f',e',⟨q1,q2,q3,q4⟩,r1⟩ := r1
 obtain ⟨f0,e0,ef,ee,fl,rl,e5⟩ := rest_len tok.1.1 tok.1.2
 refine hG ?_; clear hG G
 obtain rfl:f = f0 := Int.ofNat.inj (q1.symm.trans ef)
 obtain rfl:e = e0 := Int.ofNat.inj (q2.symm.trans ee)
 refine og fun G hG => ?_
 obtain ⟨f1,e1',ef',ee',fl',rl',e13⟩ := rest_dst tok.2.1 tok.2.2
 refine hG ?_; clear hG G
 obtain rfl:f' = f1 := Int.ofNat.inj (q3.symm.trans ef')
 obtain rfl:e' = e1' := Int.ofNat.inj (q4.symm.trans ee')
 clear q1 q2 q3 q4
 obtain ⟨a1,a2,a3⟩ := LTa _ (lenP_lt l')
 rw [ee,ef] at a1 a2 a3
 have ls := lenP_lt l'
 have pe:2 ^ e ≤ 2 ^ 5 := Nat.pow_le_pow_right (by decide) e5
 have pw:((2:Int) ^ e) = ((2 ^ e:Nat):Int) := by simp
 have s257:257 ≤ 257 + lenP l' := Nat.le_add_right _ _
 have s285:257 + lenP l' ≤ 285 := by lia
 clear ef ee tok
 generalize 257 + lenP l' = s at *
 unfold b27p
 refine stepK (fun G hG => ?_)
 dsimp only [wpS,wpE,wpOr,dz6,dz5,dz8,dz7,binW,vI_i,oget_s,truthW_b,cmpW,copI]
 suffices g5:G [some (.ref r),some c1,some (.pd (treeOf D)),some (.ref c),some (.int (s:Int)),some (.int (e:Int)),v6,v7,v8] H by
  by_cases h1:(s:Int) < 265
  ·refine dT h1 ?_
   rw [(a1 h1).1] at g5; exact g5
  ·refine dF h1 ?_
   by_cases h2:(s:Int) = 285
   ·refine dT h2 ?_
    rw [(a2 h2).1] at g5; exact g5
   ·refine dF h2 ?_
    rw [← (a3 h1 h2).1] at g5
    exact ⟨⟨by decide,by omega,by decide⟩,g5⟩
 refine hG _ _ (stepK (fun G hG => ?_))
 dsimp only [wpS,wpE,dz6,dz5,dz8,dz7,binW,vI_i,oget_s,dz13,truthW_b,cmpW,copI]
 suffices g6:G [some (.ref r),some c1,some (.pd (treeOf D)),some (.ref c),some (.int (s:Int)),some (.int (e:Int)),some (.int (f:Int)),v7,v8] H by
  by_cases h1:(s:Int) < 265
  ·refine dT h1 ?_
   rw [(a1 h1).2] at g6; exact g6
  ·refine dF h1 ?_
   by_cases h2:(s:Int) = 285
   ·refine dT h2 ?_
    rw [(a2 h2).2] at g6; exact g6
   ·refine dF h2 ?_
    rw [← (a3 h1 h2).2] at g6
    refine ⟨by decide,⟨by exact Int.natCast_nonneg _,by rw [big_eq]; lia,by decide⟩,⟨by lia,?_⟩,g6⟩
    rw [pw,Int.natAbs_natCast]; exact Nat.lt_of_le_of_lt pe (by decide)
 refine hG _ _ (step ?_)
 clear hG a1 a2 a3
 dsimp only [wpS,wpE,dz6,dz5,dz8,dz7,binW,wpEs,oget_s,vI_i]
 refine rd22 (n := 27) (by decide) r1 rl (by lia) (fun H2 r2 s2 => ?_)
 have e2 := (s2 c nc).trans e1
 try dsimp only [vI_i]
 rw [show (f:Int) + ((l' - f:Nat):Int) = (l':Int) by omega]
 exact b27_far (c0 := c1) hD t2 ef' ee' fl' rl' e13 nc r2 e2 tl nx
theorem k27 {n:Nat} (hn:27 < n) {H:Hp} {Q:V→Hp→Prop} {r:Addr} {B rest L D:List Nat} {ts:List Tk} (hL:LOk 15 L) (hD:LOk 15 D) (he:0 < L.getD 256 0) (ht:∀ t ∈ ts,t.ok∧t.has L D) (hn1:ts.length ≤ 30)
  (h:Rd H r B (ts.flatMap (Tk.bits L D) ++ (cbits L 256 ++ rest))) (q:∀ H',Rd H' r B rest→Q (.lst (ts.map Tk.v)) H'):Sp n 27 [.ref r,.pd (treeOf L),.pd (treeOf D)] H Q := by
 rw [Sp_at hn]
 refine ⟨rfl,?_⟩
 show wpFn (Sp 27) 9 b27 [.ref r,.pd (treeOf L),.pd (treeOf D)] H Q
 have hbig := big_eq
 unfold wpFn b27
 show wpSs _ _ _ _ [some (.ref r),some (.pd (treeOf L)),some (.pd (treeOf D)),none,none,none,none,none,none] H
 refine step ?_
 dsimp only [wpS,wpE,wpEs,mk,dz10,dz8,dz7]
 refine ⟨Nat.zero_le _,fun c hc => stepK (fun Kw U => ?_)⟩
 have nc := h.ne hc
 dsimp only [wpS,wpE,wpEs,truthW_b,cmpW,copI,vI_i,biW,lenW,oneV_1]
 refine ⟨ts.length + 1,?_⟩
 refine while_inv (fun m' l H' => ∃ (i:Nat) (v4 v5 v6 v7 v8:Option V),m' = ts.length - i∧i ≤ ts.length∧l = [some (.ref r),some (.pd (treeOf L)),some (.pd (treeOf D)),some (.ref c),v4,v5,v6,v7,v8]∧Rd H' r B ((ts.drop i).flatMap (Tk.bits L D) ++ (cbits L 256 ++ rest))∧H' c = some (.list ((ts.take i).map Tk.v))) ?_ _ ts.length (by exact Nat.lt_add_one ts.length) ⟨0,_,_,_,_,_,rfl,Nat.zero_le _,rfl,h.set nc,Hp.set_self ..⟩
 clear h hc
 intro m' l H' K hI9 hK
 refine ex6_4 hI9 fun i v4 v5 v6 v7 v8 xq1 hi xq2 w' ec => ?_; clear hI9
 obtain rfl := xq1
 obtain rfl := xq2
 have tl:((ts.take i).map Tk.v).length = i := by rw [List.length_map,List.length_take]; exact Nat.min_eq_left hi
 dsimp only [dz6,dz5,oget_s,asSeq_r,asList_r]
 rw [ec]
 try dsimp only [vI_i]
 rw [tl]
 refine ⟨by lia,?_⟩
 rw [decide_eq_true (by lia)]
 refine step ?_
 dsimp only [wpS,wpE,wpEs,dz5,dz8,dz7,dz6,oget_s]
 by_cases ci:i < ts.length
 ·obtain ⟨t,et⟩:∃ t,ts[i]? = some t := ⟨ts[i],List.getElem?_eq_getElem ci⟩
  refine ex0_1 (ht t (List.mem_of_getElem? et)) fun tok thas => ?_
  rw [drop_at et,List.flatMap_cons,List.append_assoc] at w'
  have nx:∀ (H2:Hp) (w4 w5 w6 w7 w8:Option V),Rd H2 r B ((ts.drop (i + 1)).flatMap (Tk.bits L D) ++ (cbits L 256 ++ rest))→H2 c = some (.list ((ts.take i).map Tk.v ++ [t.v]))→K [some (.ref r),some (.pd (treeOf L)),some (.pd (treeOf D)),some (.ref c),w4,w5,w6,w7,w8] H2 := fun H2 w4 w5 w6 w7 w8 r2 e2 =>
   hK (ts.length - (i + 1)) _ _ (by exact Nat.sub_succ_lt_self ts.length i ci) ⟨i + 1,_,_,_,_,_,rfl,by assumption,rfl,r2,by rw [take_snoc et,List.map_append]; exact e2⟩
  have tlb:((ts.take i).map Tk.v).length < big := by lia
  clear hK et ht he q tl
  generalize (ts.take i).map Tk.v = xs at *
  generalize (ts.drop (i + 1)).flatMap (Tk.bits L D) ++ (cbits L 256 ++ rest) = rest2 at *
  cases t with
  | lit x =>
   have x256:x < 256 := tok
   refine rd24 (n := 27) (M := 15) (by decide) (by decide) hL thas w' (fun H1 r1 s1 => stepK (fun G hG => ?_))
   have e1 := (s1 c nc).trans ec
   dsimp only [wpS,wpE,dz6,dz5,truthW_b,cmpW,copI,vI_i,oget_s]
   refine dF (by lia:¬ (x:Int) = 256) ?_
   refine hG _ _ (step ?_)
   dsimp only [wpS,wpE,dz6,dz5,truthW_b,cmpW,copI,vI_i,oget_s]
   rw [decide_eq_true (by exact Int.natCast_nonneg _:(0:Int) ≤ x),decide_eq_true (by exact Int.lt_toNat.mp tok:(x:Int) < 256)]
   try dsimp only [vI_i]
   refine step ?_
   dsimp only [wpSs,wpS,wpE,dz6,dz5,wpEs,oget_s]
   exact app_ref e1 tlb ⟨rfl,nx _ _ _ _ _ _ (r1.set nc) (Hp.set_self ..)⟩
  | pair l' d' =>
   refine og fun G hG => ?_
   refine ex2_4 (rest_len tok.1.1 tok.1.2) fun f e ef ee U U U => ?_
   refine ex2_4 (rest_dst tok.2.1 tok.2.2) fun f' e' ef' ee' U U U => ?_
   refine hG ?_; clear hG G
   rw [bits_pair ef ee ef' ee'] at w'
   simp only [List.append_assoc] at w'
   have ls := lenP_lt l'
   refine rd24 (n := 27) (M := 15) (s := 257 + lenP l') (by decide) (by decide) hL thas.1 w' (fun H1 r1 s1 => stepK (fun G hG => ?_))
   have e1 := (s1 c nc).trans ec
   dsimp only [wpS,wpE,dz6,dz5,truthW_b,cmpW,copI,vI_i,oget_s]
   refine dF (by lia:¬ ((257 + lenP l':Nat):Int) = 256) ?_
   refine hG _ _ (step ?_)
   clear hG
   dsimp only [wpS,wpE,dz6,dz5,truthW_b,cmpW,copI,vI_i,oget_s]
   rw [decide_eq_true (by exact Int.natCast_nonneg (257 + lenP l'):(0:Int) ≤ ((257 + lenP l':Nat):Int)),decide_eq_false (by lia:¬ ((257 + lenP l':Nat):Int) < 256)]
   try dsimp only [vI_i]
   refine step ?_
   dsimp only [wpS,wpE,dz6,dz5,truthW_b,cmpW,copI,vI_i,oget_s]
   rw [decide_eq_false (by omega:¬ ((257 + lenP l':Nat):Int) < 0)]
   try dsimp only [vI_i]
   exact b27_pair hD tok thas.2 nc ⟨f,e,f',e',⟨ef,ee,ef',ee'⟩,r1⟩ e1 tlb nx
 ·have ei:i = ts.length := by omega
  subst ei
  rw [List.drop_of_length_le (Nat.le_refl _),List.flatMap_nil,List.nil_append] at w'
  rw [List.take_length] at ec
  refine rd24 (n := 27) (M := 15) (by decide) (by decide) hL he w' (fun H1 r1 s1 => stepK (fun G hG => ?_))
  have e1 := (s1 c nc).trans ec
  dsimp only [wpS,wpE,dz6,dz5,wpSs,oget_s,truthW_b,cmpW,copI,vI_i]
  rw [decide_eq_true (show ((256:Nat):Int) = 256 from rfl)]
  try dsimp only [vI_i]
  rw [e1]
  exact ⟨_,Hp.le_refl _,q _ (r1.erase nc)⟩
theorem hbits_len {ts:List Tk} {L D hs:List Nat} {m:Nat} {rs:List Rn} (dp:DP ts L D hs m rs):(hbits L D hs m rs).length ≤ 5000 := by
 have h1:((ORD.take m).flatMap (fun s => lsb (hs.getD s 0) 3)).length ≤ 3 * (ORD.take m).length := flat_le _ (fun s U => by rw [lsb_len]; exact Nat.le_refl _)
 have h2:(rs.flatMap (rbits hs)).length ≤ 14 * rs.length := flat_le _ (fun r hr => by
  refine ex1_0 (dp.rp.mem hr) fun acc h => ?_
  exact rbits_len dp.Hc h)
 have h3:(ORD.take m).length ≤ 19 := by rw [List.length_take]; show min m 19 ≤ 19; exact Nat.min_le_right m 19
 have h4 := dp.rp.len
 rw [List.length_append] at h4
 have := dp.L2
 have := dp.D2
 unfold hbits
 simp only [List.length_append,lsb_len]
 lia
theorem tk_same:∀ ts:List Tk,V.sames (ts.map Tk.v) (ts.map Tk.v) = true
 | [] => rfl
 | t :: r => by
  have := tk_same r
  cases t <;> (rw [List.map_cons]; rw [V.sames_c,this]; simp [Tk.v,V.same_i,V.same_t])
theorem tk_plain:∀ ts:List Tk,V.plains (ts.map Tk.v) = true
 | [] => rfl
 | t :: r => by
  have := tk_plain r
  unfold V.plains at *
  rw [List.map_cons,List.all_cons,this]
  cases t <;> rfl
theorem plain (ns:List Int) (hn:ns.length ≤ 63):Sp 30 29 [.lst (ns.map .int)] (fun U => none) (fun v U => v = .bool true) := by
 rw [Sp_at (by decide)]
 refine ⟨rfl,?_⟩
 show wpFn (Sp 29) 10 (b29 aBW) [.lst (ns.map .int)] (fun U => none) (fun v U => v = .bool true)
 have hbig := big_eq
 unfold wpFn b29
 generalize (fun U => none:Hp) = H
 show wpSs _ _ _ _ [some (.lst (ns.map .int)),none,none,none,none,none,none,none,none,none] H
 refine step ?_
 dsimp only [wpS,wpE,wpI,dz5,wpEs,binW,vI_i,biW,oneV_1,wpC,dz11,dz12,dz2,dz3,dz4,dz8,dz7,mk,frozenSeq_l,oget_s,asList_l]
 refine ⟨(ns.take 12).map .int,⟨by rw [show (12:Int) = ((12:Nat):Int) from rfl,slice_to (by exact Nat.le_add_left _ _),List.map_take],by rw [List.length_map]; lia⟩,?_⟩
 have l12:(ns.take 12).length ≤ 12 := by rw [List.length_take]; exact Nat.min_le_left 12 ns.length
 generalize ns.take 12 = xs at *
 refine ⟨by rw [List.length_map]; lia,by rw [List.length_map]; lia,?_⟩
 refine comp_map (g := fun x => nV (x.natAbs % 10000000)) _ _ (fun l K k => k) (fun x hx => ⟨_,rfl,fun K hK => ?_⟩) ?_
 ·dsimp only [dz7,dz5,oget_s]
  refine ⟨⟨by decide,by decide,by decide⟩,by decide,?_⟩
  exact hK
 rw [List.nil_append,show (xs.map fun x => nV (x.natAbs % 10000000)) = (xs.map fun x => x.natAbs % 10000000).map nV by rw [List.map_map]; rfl]
 have c7:∀ x ∈ (xs.map fun x => x.natAbs % 10000000),x < 10 ^ 7 := fun x hx => by
  refine ex1_1 (List.mem_map.mp hx) fun y U xq1 => ?_
  obtain rfl := xq1
  lia
 have cl:(xs.map fun x => x.natAbs % 10000000).length ≤ 12 := by rw [List.length_map]; exact l12
 generalize (xs.map fun x => x.natAbs % 10000000) = cells at *
 clear l12 xs
 refine ⟨by rw [List.length_map]; lia,step ?_⟩
 dsimp only [wpS,wpEs,wpE,dz6,dz5,bindM_c,dz8,dz7,bindM_n,obind_s,binW,vI_i,mk,dz9,dz10,asList_r,asList_l,oget_s]
 refine ⟨(cells.drop 1).map nV,⟨by rw [show (1:Int) = ((1:Nat):Int) from rfl,slice_from (by exact Nat.succ_pos _),List.map_drop],by rw [List.length_map]; lia⟩,?_⟩
 refine ⟨by rw [List.length_map,List.length_drop]; omega,?_⟩
 refine k28 (n := 29) (by exact Nat.lt_add_one 28) (by rw [List.length_drop]; omega) (fun x hx => c7 x (List.mem_of_mem_drop hx)) (fun ts tok tl => ?_)
 refine ⟨by decide,?_⟩
 try dsimp only [vI_i,asList_l,asSeq_l,asSeq_t]
 refine ⟨by rw [List.length_append,List.length_map,List.length_singleton]; lia,?_⟩
 rw [show cells.map nV ++ [V.int 0] = (cells ++ [0]).map nV by rw [List.map_append]; rfl]
 refine item_nats (by exact Int.natCast_nonneg _) (by rw [List.length_append,List.length_singleton]; exact Int.ofNat_succ_pos cells.length) (by rw [List.length_append,List.length_singleton]; lia) ?_
 generalize (cells ++ [0]).getD (Int.toNat 0) 0 = x0
 try dsimp only [vI_i,asList_l,asSeq_l,asSeq_t]
 rw [show (x0:Int) % 8 = ((x0 % 8:Nat):Int) by rfl]
 obtain ⟨ahead,ea,a8⟩:∃ ahead,x0 % 8 = ahead∧ahead < 8 := ⟨_,rfl,by lia⟩
 rw [ea]
 refine ⟨by decide,step ?_⟩
 clear ea x0
 dsimp only [wpS,wpEs,wpE,dz6,dz5,bindM_c,dz8,dz7,dz11,dz12,bindM_n,obind_s,cmpW,copI,vI_i,binW,biW,oneV_1,oget_s,asList_l]
 refine ⟨cI cells,⟨intsOf_nV cells,fun j hj => ?_⟩,by rw [List.length_map]; lia,by decide,?_⟩
 ·refine ex1_1 (List.mem_map.mp hj) fun x hx xq2 => ?_
  obtain rfl := xq2
  have := c7 x hx
  rw [Int.natAbs_natCast]; lia
 generalize decide ((cI cells).sum % 2 = 1) = last
 intro d hd
 refine k0 (n := 29) (by lia) (Hp.set_self ..) (fun H1 b hb w1 s1 => ⟨rfl,step ?_⟩)
 dsimp only [wpS,wpE,dz6,dz5,wpEs,oget_s]
 repeat first | refine bW ?_ | refine bD ?_
 refine ⟨w1.isRcd,k1 (n := 29) (x := 0) (by lia) w1 (Nat.pow_pos (by lia)) (by lia) (by simp) (fun H2 w2 s2 => ⟨rfl,step ?_⟩)⟩
 rw [List.nil_append] at w2
 dsimp only [wpS,wpE,wpEs,dz6,dz5,oget_s,biW,oneV_1,asList_l,obind_s]
 refine ⟨by rw [List.length_map]; lia,?_⟩
 refine k20 (n := 29) (by lia) w2 (by rw [lsb_len]; lia) tok tl (fun H3 L D hs m rs dp w3 => ⟨rfl,step ?_⟩)
 generalize hX:(lsb last.toNat 1 ++ (lsb 2 2 ++ (hbits L D hs m rs ++ (ts.flatMap (Tk.bits L D) ++ cbits L 256)))) = X at *
 have lX:(lsb 0 ahead ++ X).length ≤ 10000 := by
  have h1 := hbits_len dp
  have h2 := flat_le (f := Tk.bits L D) (c := 48) ts (fun t ht => tkbits_len dp.Lc dp.Dc (tok t ht))
  have h3 := dp.Lc.le 256
  rw [← hX]
  unfold cbits
  simp only [List.length_append,lsb_len,msb_len]
  lia
 dsimp only [wpS,wpEs,wpE,dz6,dz5,bindM_c,dz8,dz7,bindM_n,obind_s,biW,oneV_1,oget_s]
 repeat first | refine bW ?_ | refine bD ?_
 refine ⟨w3.isRcd,k4 (n := 29) (by lia) w3 (by lia) ⟨rfl,w3.isRcd,?_⟩⟩
 refine k5 (n := 29) (by lia) w3 (by lia) (fun H4 bs pad eb hp s4 => ?_)
 have lB := congrArg List.length eb
 have lB2 := BL_len bs 0 0
 unfold BL at lB2
 rw [List.length_append,lsb_len,Nat.add_zero,eb,List.length_append,List.length_replicate] at lB2
 dsimp only [wpS]
 refine ⟨by lia,step ?_⟩
 dsimp only [wpS,wpE,wpEs,dz6,dz5,dz8,dz7,oget_s]
 refine k21 (n := 29) (by lia) (by lia) ?_
 rw [eb]
 generalize hB:lsb 0 ahead ++ X ++ List.replicate pad 0 = B at *
 intro r hr
 have lp:(lsb 0 ahead ++ X).length + pad = B.length := by rw [← hB,List.length_append (bs := List.replicate pad 0),List.length_replicate]
 have rd:Rd (H4.set r (Cell.sd (rcdOf [6,5] [V.lst (B.map nV),V.int (ahead:Int)]))) r B (X ++ List.replicate pad 0) :=
  ⟨ahead,Hp.set_self ..,by rw [List.length_append,lsb_len] at lp; lia,by
   rw [← hB,List.append_assoc]
   have e:(lsb 0 ahead).length = ahead := lsb_len 0 ahead
   conv => lhs; rw [← e]
   rw [lsb_len]
   exact List.drop_left' e,by lia⟩
 generalize H4.set r (Cell.sd (rcdOf [6,5] [V.lst (B.map nV),V.int (ahead:Int)])) = H5 at *
 clear hB eb lB lB2 s4 s1 s2 w1 w2 w3 hb hr
 rw [← hX] at rd
 simp only [List.append_assoc] at rd
 refine stepK (fun K hK => ?_)
 dsimp only [wpS,wpE,wpOr,wpEs,dz6,dz5,wpSs,truthW_b,cmpW,copI,vI_i,oget_s,biW,oneV_1]
 refine rd22 (n := 29) (x := last.toNat) (k := 1) (by lia) rd (by cases last <;> decide) (by lia) (fun H6 r6 s6 => ?_)
 dsimp only [vI_i]
 rw [show decide ((last.toNat:Int) = if last = true then 1 else 0) = true by cases last <;> rfl]
 try dsimp only [Bool.not_true]
 refine rd22 (n := 29) (x := 2) (k := 2) (by lia) r6 (by decide) (by lia) (fun H7 r7 s7 => ?_)
 try dsimp only [vI_i,asList_l,asSeq_l,asSeq_t]
 rw [decide_eq_true (show ((2:Nat):Int) = 2 from rfl)]
 try dsimp only [Bool.not_true]
 refine hK _ _ (step ?_)
 clear hK K
 dsimp only [wpS,wpE,wpEs,dz6,dz5,dz8,dz7,oget_s]
 refine k26 (n := 29) (by lia) dp r7 (fun H8 r8 => stepK (fun K hK => ?_))
 have hL1 := dp.L1
 have hL2 := dp.L2
 have hD1 := dp.D1
 have hD2 := dp.D2
 dsimp only [wpS,wpE,wpOr,dz6,dz5,wpSs,truthW_b,wpEs,oget_s,cmpW,copI,vI_i,biW,oneV_1,mk,asList_r,asList_l,obind_s]
 refine item_tup0 (by simp) ?_
 refine item_tup1 (by simp) ?_
 try dsimp only [vI_i,asList_l,asSeq_l,asSeq_t]
 rw [← List.map_append]
 refine ⟨by rw [List.length_map,List.length_append]; lia,?_⟩
 have nl:L ++ D ≠ [] := fun e => by have := congrArg List.length e; rw [List.length_append,List.length_nil] at this; lia
 refine ex1_2 (maxL_of (L ++ D) nl) fun mx em hmx hin => ?_
 have mx15:mx ≤ 15 := by
  rcases List.mem_append.mp hin with h | h
  ·exact le_mem dp.Lc.le _ h
  ·exact le_mem dp.Dc.le _ h
 refine ⟨_,_,⟨intsOf_nV _,em⟩,?_⟩
 refine dF (by lia:¬ (15:Int) < mx) ?_
 try dsimp only [vI_i,asList_l,asSeq_l,asSeq_t]
 refine item_tup0 (by simp) ?_
 refine k25 (n := 29) (ls := L) (least := 2) (by lia) (by lia) dp.Lc.le dp.Lw ?_
 try dsimp only [Bool.not_true]
 refine item_tup1 (by simp) ?_
 refine k25 (n := 29) (ls := D) (least := 2) (by lia) (by lia) dp.Dc.le dp.Dw ?_
 try dsimp only [Bool.not_true]
 refine hK _ _ (stepK (fun K hK => ?_))
 dsimp only [wpS,wpE,wpOr,dz6,dz5,wpSs,truthW_b,wpEs,oget_s,asList_l,cmpW,copI,vI_i]
 refine item_tup0 (by simp) ?_
 refine item_nats (xs := L) (by lia) (by lia) (by lia) ?_
 have h256 := dp.L256
 rw [show Int.toNat 256 = 256 from rfl]
 try dsimp only [vI_i,asList_l,asSeq_l,asSeq_t]
 refine dF (by lia:¬ ((L.getD 256 0:Nat):Int) = 0) ?_
 try dsimp only [vI_i,asList_l,asSeq_l,asSeq_t]
 refine item_tup0 (by simp) ?_
 refine k23 (n := 29) (M := 15) (by lia) (by lia) (by lia) dp.Lc dp.Lu ?_
 try dsimp only [vI_i,asList_l,asSeq_l,asSeq_t]
 refine item_tup1 (by simp) ?_
 refine k23 (n := 29) (M := 15) (by lia) (by lia) (by lia) dp.Dc dp.Du ?_
 try dsimp only [vI_i,asList_l,asSeq_l,asSeq_t]
 refine k27 (n := 29) (by lia) dp.Lc dp.Dc h256 dp.tk tl r8 (fun H9 r9 => ?_)
 try dsimp only [vI_i,asList_l,asSeq_l,asSeq_t]
 refine ⟨⟨tk_plain ts,tk_plain ts⟩,?_⟩
 rw [tk_same]
 refine hK _ _ ?_
 refine ex1_3 r9 fun p ep hp2 hd2 U => ?_; clear r9
 have hl := congrArg List.length hd2
 rw [List.length_drop,List.length_replicate] at hl
 unfold Rc at ep
 dsimp only [wpSs,wpS,wpE,dz6,dz5,cmpW,copI,oget_s,vI_i]
 rw [ep]
 dsimp only [dz6,dz5,oget_s,vI_i]
 refine ⟨H9,Hp.le_refl _,?_⟩
 rw [show p = (lsb 0 ahead ++ X).length by lia,decide_eq_true rfl]
end
end Mine.Internal
theorem PySem.Challenge.cw_pb0115_01_holds : PySem.Challenge.rw_pb0115_01.Holds :=
  Mine.Internal.join Mine.Internal.plain
