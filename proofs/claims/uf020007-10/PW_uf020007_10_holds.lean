import PyProof.Rows.All
import Wide.All
import OpenK.AllK
import Wide.FinOn
import Open.Row
import PyProof.Fits
import PyProof.SameEqv
import PyProof.Rows.InDataRows
import PyProof.TupleOfSeq
import PyProof.ListCopy
import PyProof.Rows.TupMore
import KE.KRevIter
import PyProof.Rows.Range3
import PyProof.CompFree
import PyProof.CompUse
import PyProof.FitsBits
import KE.KTryDeep
import PyProof.ExcBaseAll.ValueError
import PySem.Challenge.RW_uf020007_10
set_option Elab.async false
set_option autoImplicit false
set_option linter.all false
set_option maxHeartbeats 8000000
namespace Mine
theorem fx {p0:Prop} {p1:Prop} {p2:Prop} {G:Prop} (h:p0∧p1∧p2) (k:p0→p1→p2→G):G:=k h.1 h.2.1 h.2.2
theorem ad {α0:Sort _} {p0:α0→Prop} {p1:α0→Prop} {G:Prop} (h:∃ x0,p0 x0∧p1 x0) (k:∀ x0,p0 x0→p1 x0→G):G:=h.elim fun x0 h0=>k x0 h0.1 h0.2
theorem AL {α0:Sort _} {α1:Sort _} {p0:α0→α1→Prop} {G:Prop} (h:∃ x0,∃ x1,p0 x0 x1) (k:∀ x0,∀ x1,p0 x0 x1→G):G:=h.elim fun x0 h0=>h0.elim fun x1 h1=>k x0 x1 h1
theorem bP {p0:Prop} {p1:Prop} {p2:Prop} {p3:Prop} {G:Prop} (h:p0∧p1∧p2∧p3) (k:p0→p1→p2→p3→G):G:=k h.1 h.2.1 h.2.2.1 h.2.2.2
theorem tK {α0:Sort _} {p0:Prop} {p1:α0→Prop} {p2:α0→Prop} {G:Prop} (h:p0∧∃ x0,p1 x0∧p2 x0) (k:p0→∀ x0,p1 x0→p2 x0→G):G:=h.2.elim fun x0 h0=>k h.1 x0 h0.1 h0.2
theorem bU {α0:Sort _} {p0:α0→Prop} {p1:α0→Prop} {p2:α0→Prop} {G:Prop} (h:∃ x0,p0 x0∧p1 x0∧p2 x0) (k:∀ x0,p0 x0→p1 x0→p2 x0→G):G:=h.elim fun x0 h0=>k x0 h0.1 h0.2.1 h0.2.2
theorem aX {α0:Sort _} {α1:Sort _} {p0:α0→α1→Prop} {p1:α0→α1→Prop} {G:Prop} (h:∃ x0,∃ x1,p0 x0 x1∧p1 x0 x1) (k:∀ x0,∀ x1,p0 x0 x1→p1 x0 x1→G):G:=h.elim fun x0 h0=>h0.elim fun x1 h1=>k x0 x1 h1.1 h1.2
theorem Ch {α0:Sort _} {α1:Sort _} {α2:Sort _} {p0:α0→α1→α2→Prop} {G:Prop} (h:∃ x0,∃ x1,∃ x2,p0 x0 x1 x2) (k:∀ x0,∀ x1,∀ x2,p0 x0 x1 x2→G):G:=h.elim fun x0 h0=>h0.elim fun x1 h1=>h1.elim fun x2 h2=>k x0 x1 x2 h2
theorem uo {p0:Prop} {p1:Prop} {p2:Prop} {p3:Prop} {p4:Prop} {G:Prop} (h:p0∧p1∧p2∧p3∧p4) (k:p0→p1→p2→p3→p4→G):G:=k h.1 h.2.1 h.2.2.1 h.2.2.2.1 h.2.2.2.2
theorem cu {α0:Sort _} {p0:α0→Prop} {p1:α0→Prop} {p2:α0→Prop} {p3:α0→Prop} {G:Prop} (h:∃ x0,p0 x0∧p1 x0∧p2 x0∧p3 x0) (k:∀ x0,p0 x0→p1 x0→p2 x0→p3 x0→G):G:=h.elim fun x0 h0=>k x0 h0.1 h0.2.1 h0.2.2.1 h0.2.2.2
theorem dc {α0:Sort _} {α1:Sort _} {p0:α0→Prop} {p1:α0→Prop} {p2:α0→α1→Prop} {G:Prop} (h:∃ x0,p0 x0∧p1 x0∧∃ x1,p2 x0 x1) (k:∀ x0,p0 x0→p1 x0→∀ x1,p2 x0 x1→G):G:=h.elim fun x0 h0=>h0.2.2.elim fun x1 h1=>k x0 h0.1 h0.2.1 x1 h1
theorem oE {α0:Sort _} {α1:Sort _} {p0:α0→Prop} {p1:α0→α1→Prop} {p2:α0→α1→Prop} {G:Prop} (h:∃ x0,p0 x0∧∃ x1,p1 x0 x1∧p2 x0 x1) (k:∀ x0,p0 x0→∀ x1,p1 x0 x1→p2 x0 x1→G):G:=h.elim fun x0 h0=>h0.2.elim fun x1 h1=>k x0 h0.1 x1 h1.1 h1.2
theorem aJ {α0:Sort _} {α1:Sort _} {p0:α0→α1→Prop} {p1:α0→α1→Prop} {p2:α0→α1→Prop} {G:Prop} (h:∃ x0,∃ x1,p0 x0 x1∧p1 x0 x1∧p2 x0 x1) (k:∀ x0,∀ x1,p0 x0 x1→p1 x0 x1→p2 x0 x1→G):G:=h.elim fun x0 h0=>h0.elim fun x1 h1=>k x0 x1 h1.1 h1.2.1 h1.2.2
theorem jM {α0:Sort _} {α1:Sort _} {α2:Sort _} {p0:α0→α1→α2→Prop} {p1:α0→α1→α2→Prop} {G:Prop} (h:∃ x0,∃ x1,∃ x2,p0 x0 x1 x2∧p1 x0 x1 x2) (k:∀ x0,∀ x1,∀ x2,p0 x0 x1 x2→p1 x0 x1 x2→G):G:=h.elim fun x0 h0=>h0.elim fun x1 h1=>h1.elim fun x2 h2=>k x0 x1 x2 h2.1 h2.2
theorem xD {α0:Sort _} {α1:Sort _} {α2:Sort _} {p0:α0→Prop} {p1:α0→α1→α2→Prop} {p2:α0→α1→α2→Prop} {G:Prop} (h:∃ x0,p0 x0∧∃ x1,∃ x2,p1 x0 x1 x2∧p2 x0 x1 x2) (k:∀ x0,p0 x0→∀ x1,∀ x2,p1 x0 x1 x2→p2 x0 x1 x2→G):G:=h.elim fun x0 h0=>h0.2.elim fun x1 h1=>h1.elim fun x2 h2=>k x0 h0.1 x1 x2 h2.1 h2.2
theorem eC {α0:Sort _} {α1:Sort _} {p0:α0→α1→Prop} {p1:α0→α1→Prop} {p2:α0→α1→Prop} {p3:α0→α1→Prop} {G:Prop} (h:∃ x0,∃ x1,p0 x0 x1∧p1 x0 x1∧p2 x0 x1∧p3 x0 x1) (k:∀ x0,∀ x1,p0 x0 x1→p1 x0 x1→p2 x0 x1→p3 x0 x1→G):G:=h.elim fun x0 h0=>h0.elim fun x1 h1=>k x0 x1 h1.1 h1.2.1 h1.2.2.1 h1.2.2.2
theorem dQ {α0:Sort _} {α1:Sort _} {α2:Sort _} {p0:α0→α1→α2→Prop} {p1:α0→α1→α2→Prop} {p2:α0→α1→α2→Prop} {G:Prop} (h:∃ x0,∃ x1,∃ x2,p0 x0 x1 x2∧p1 x0 x1 x2∧p2 x0 x1 x2) (k:∀ x0,∀ x1,∀ x2,p0 x0 x1 x2→p1 x0 x1 x2→p2 x0 x1 x2→G):G:=h.elim fun x0 h0=>h0.elim fun x1 h1=>h1.elim fun x2 h2=>k x0 x1 x2 h2.1 h2.2.1 h2.2.2
theorem wF {α0:Sort _} {α1:Sort _} {α2:Sort _} {α3:Sort _} {p0:α0→α1→α2→α3→Prop} {p1:α0→α1→α2→α3→Prop} {G:Prop} (h:∃ x0,∃ x1,∃ x2,∃ x3,p0 x0 x1 x2 x3∧p1 x0 x1 x2 x3) (k:∀ x0,∀ x1,∀ x2,∀ x3,p0 x0 x1 x2 x3→p1 x0 x1 x2 x3→G):G:=h.elim fun x0 h0=>h0.elim fun x1 h1=>h1.elim fun x2 h2=>h2.elim fun x3 h3=>k x0 x1 x2 x3 h3.1 h3.2
theorem jg {α0:Sort _} {α1:Sort _} {α2:Sort _} {p0:α0→Prop} {p1:α0→α1→α2→Prop} {p2:α0→α1→α2→Prop} {p3:α0→α1→α2→Prop} {G:Prop} (h:∃ x0,p0 x0∧∃ x1,∃ x2,p1 x0 x1 x2∧p2 x0 x1 x2∧p3 x0 x1 x2) (k:∀ x0,p0 x0→∀ x1,∀ x2,p1 x0 x1 x2→p2 x0 x1 x2→p3 x0 x1 x2→G):G:=h.elim fun x0 h0=>h0.2.elim fun x1 h1=>h1.elim fun x2 h2=>k x0 h0.1 x1 x2 h2.1 h2.2.1 h2.2.2
theorem ck {α0:Sort _} {α1:Sort _} {p0:α0→α1→Prop} {p1:α0→α1→Prop} {p2:α0→α1→Prop} {p3:α0→α1→Prop} {p4:α0→α1→Prop} {G:Prop} (h:∃ x0,∃ x1,p0 x0 x1∧p1 x0 x1∧p2 x0 x1∧p3 x0 x1∧p4 x0 x1) (k:∀ x0,∀ x1,p0 x0 x1→p1 x0 x1→p2 x0 x1→p3 x0 x1→p4 x0 x1→G):G:=h.elim fun x0 h0=>h0.elim fun x1 h1=>k x0 x1 h1.1 h1.2.1 h1.2.2.1 h1.2.2.2.1 h1.2.2.2.2
theorem vx {α0:Sort _} {α1:Sort _} {α2:Sort _} {p0:α0→α1→Prop} {p1:α0→α1→Prop} {p2:α0→α1→Prop} {p3:α0→α1→α2→Prop} {G:Prop} (h:∃ x0,∃ x1,p0 x0 x1∧p1 x0 x1∧p2 x0 x1∧∃ x2,p3 x0 x1 x2) (k:∀ x0,∀ x1,p0 x0 x1→p1 x0 x1→p2 x0 x1→∀ x2,p3 x0 x1 x2→G):G:=h.elim fun x0 h0=>h0.elim fun x1 h1=>h1.2.2.2.elim fun x2 h2=>k x0 x1 h1.1 h1.2.1 h1.2.2.1 x2 h2
theorem bv {α0:Sort _} {α1:Sort _} {α2:Sort _} {p0:α0→α1→α2→Prop} {p1:α0→α1→α2→Prop} {p2:α0→α1→α2→Prop} {p3:α0→α1→α2→Prop} {G:Prop} (h:∃ x0,∃ x1,∃ x2,p0 x0 x1 x2∧p1 x0 x1 x2∧p2 x0 x1 x2∧p3 x0 x1 x2) (k:∀ x0,∀ x1,∀ x2,p0 x0 x1 x2→p1 x0 x1 x2→p2 x0 x1 x2→p3 x0 x1 x2→G):G:=h.elim fun x0 h0=>h0.elim fun x1 h1=>h1.elim fun x2 h2=>k x0 x1 x2 h2.1 h2.2.1 h2.2.2.1 h2.2.2.2
theorem cO {α0:Sort _} {α1:Sort _} {α2:Sort _} {α3:Sort _} {p0:α0→α1→α2→α3→Prop} {p1:α0→α1→α2→α3→Prop} {p2:α0→α1→α2→α3→Prop} {G:Prop} (h:∃ x0,∃ x1,∃ x2,∃ x3,p0 x0 x1 x2 x3∧p1 x0 x1 x2 x3∧p2 x0 x1 x2 x3) (k:∀ x0,∀ x1,∀ x2,∀ x3,p0 x0 x1 x2 x3→p1 x0 x1 x2 x3→p2 x0 x1 x2 x3→G):G:=h.elim fun x0 h0=>h0.elim fun x1 h1=>h1.elim fun x2 h2=>h2.elim fun x3 h3=>k x0 x1 x2 x3 h3.1 h3.2.1 h3.2.2
theorem lE {α0:Sort _} {α1:Sort _} {p0:α0→α1→Prop} {p1:α0→α1→Prop} {p2:α0→α1→Prop} {p3:α0→α1→Prop} {p4:α0→α1→Prop} {p5:α0→α1→Prop} {G:Prop} (h:∃ x0,∃ x1,p0 x0 x1∧p1 x0 x1∧p2 x0 x1∧p3 x0 x1∧p4 x0 x1∧p5 x0 x1) (k:∀ x0,∀ x1,p0 x0 x1→p1 x0 x1→p2 x0 x1→p3 x0 x1→p4 x0 x1→p5 x0 x1→G):G:=h.elim fun x0 h0=>h0.elim fun x1 h1=>k x0 x1 h1.1 h1.2.1 h1.2.2.1 h1.2.2.2.1 h1.2.2.2.2.1 h1.2.2.2.2.2
theorem fv {α0:Sort _} {α1:Sort _} {α2:Sort _} {α3:Sort _} {p0:α0→α1→α2→α3→Prop} {p1:α0→α1→α2→α3→Prop} {p2:α0→α1→α2→α3→Prop} {p3:α0→α1→α2→α3→Prop} {G:Prop} (h:∃ x0,∃ x1,∃ x2,∃ x3,p0 x0 x1 x2 x3∧p1 x0 x1 x2 x3∧p2 x0 x1 x2 x3∧p3 x0 x1 x2 x3) (k:∀ x0,∀ x1,∀ x2,∀ x3,p0 x0 x1 x2 x3→p1 x0 x1 x2 x3→p2 x0 x1 x2 x3→p3 x0 x1 x2 x3→G):G:=h.elim fun x0 h0=>h0.elim fun x1 h1=>h1.elim fun x2 h2=>h2.elim fun x3 h3=>k x0 x1 x2 x3 h3.1 h3.2.1 h3.2.2.1 h3.2.2.2
theorem ft {α0:Sort _} {α1:Sort _} {α2:Sort _} {α3:Sort _} {α4:Sort _} {α5:Sort _} {p0:α0→α1→α2→α3→α4→α5→Prop} {p1:α0→α1→α2→α3→α4→α5→Prop} {G:Prop} (h:∃ x0,∃ x1,∃ x2,∃ x3,∃ x4,∃ x5,p0 x0 x1 x2 x3 x4 x5∧p1 x0 x1 x2 x3 x4 x5) (k:∀ x0,∀ x1,∀ x2,∀ x3,∀ x4,∀ x5,p0 x0 x1 x2 x3 x4 x5→p1 x0 x1 x2 x3 x4 x5→G):G:=h.elim fun x0 h0=>h0.elim fun x1 h1=>h1.elim fun x2 h2=>h2.elim fun x3 h3=>h3.elim fun x4 h4=>h4.elim fun x5 h5=>k x0 x1 x2 x3 x4 x5 h5.1 h5.2
theorem d4 {α0:Sort _} {α1:Sort _} {α2:Sort _} {α3:Sort _} {p0:α0→α1→α2→α3→Prop} {p1:α0→α1→α2→α3→Prop} {p2:α0→α1→α2→α3→Prop} {p3:α0→α1→α2→α3→Prop} {p4:α0→α1→α2→α3→Prop} {G:Prop} (h:∃ x0,∃ x1,∃ x2,∃ x3,p0 x0 x1 x2 x3∧p1 x0 x1 x2 x3∧p2 x0 x1 x2 x3∧p3 x0 x1 x2 x3∧p4 x0 x1 x2 x3) (k:∀ x0,∀ x1,∀ x2,∀ x3,p0 x0 x1 x2 x3→p1 x0 x1 x2 x3→p2 x0 x1 x2 x3→p3 x0 x1 x2 x3→p4 x0 x1 x2 x3→G):G:=h.elim fun x0 h0=>h0.elim fun x1 h1=>h1.elim fun x2 h2=>h2.elim fun x3 h3=>k x0 x1 x2 x3 h3.1 h3.2.1 h3.2.2.1 h3.2.2.2.1 h3.2.2.2.2
theorem fX {α0:Sort _} {α1:Sort _} {α2:Sort _} {α3:Sort _} {α4:Sort _} {p0:α0→α1→α2→α3→α4→Prop} {p1:α0→α1→α2→α3→α4→Prop} {p2:α0→α1→α2→α3→α4→Prop} {p3:α0→α1→α2→α3→α4→Prop} {G:Prop} (h:∃ x0,∃ x1,∃ x2,∃ x3,∃ x4,p0 x0 x1 x2 x3 x4∧p1 x0 x1 x2 x3 x4∧p2 x0 x1 x2 x3 x4∧p3 x0 x1 x2 x3 x4) (k:∀ x0,∀ x1,∀ x2,∀ x3,∀ x4,p0 x0 x1 x2 x3 x4→p1 x0 x1 x2 x3 x4→p2 x0 x1 x2 x3 x4→p3 x0 x1 x2 x3 x4→G):G:=h.elim fun x0 h0=>h0.elim fun x1 h1=>h1.elim fun x2 h2=>h2.elim fun x3 h3=>h3.elim fun x4 h4=>k x0 x1 x2 x3 x4 h4.1 h4.2.1 h4.2.2.1 h4.2.2.2
theorem oI {α0:Sort _} {α1:Sort _} {α2:Sort _} {α3:Sort _} {α4:Sort _} {α5:Sort _} {α6:Sort _} {p0:Prop} {p1:α0→α1→α2→α3→α4→α5→α6→Prop} {p2:α0→α1→α2→α3→α4→α5→α6→Prop} {G:Prop} (h:p0∧∃ x0,∃ x1,∃ x2,∃ x3,∃ x4,∃ x5,∃ x6,p1 x0 x1 x2 x3 x4 x5 x6∧p2 x0 x1 x2 x3 x4 x5 x6) (k:p0→∀ x0,∀ x1,∀ x2,∀ x3,∀ x4,∀ x5,∀ x6,p1 x0 x1 x2 x3 x4 x5 x6→p2 x0 x1 x2 x3 x4 x5 x6→G):G:=h.2.elim fun x0 h0=>h0.elim fun x1 h1=>h1.elim fun x2 h2=>h2.elim fun x3 h3=>h3.elim fun x4 h4=>h4.elim fun x5 h5=>h5.elim fun x6 h6=>k h.1 x0 x1 x2 x3 x4 x5 x6 h6.1 h6.2
theorem hO {α0:Sort _} {α1:Sort _} {α2:Sort _} {α3:Sort _} {p0:α0→α1→α2→α3→Prop} {p1:α0→α1→α2→α3→Prop} {p2:α0→α1→α2→α3→Prop} {p3:α0→α1→α2→α3→Prop} {p4:α0→α1→α2→α3→Prop} {p5:α0→α1→α2→α3→Prop} {G:Prop} (h:∃ x0,∃ x1,∃ x2,∃ x3,p0 x0 x1 x2 x3∧p1 x0 x1 x2 x3∧p2 x0 x1 x2 x3∧p3 x0 x1 x2 x3∧p4 x0 x1 x2 x3∧p5 x0 x1 x2 x3) (k:∀ x0,∀ x1,∀ x2,∀ x3,p0 x0 x1 x2 x3→p1 x0 x1 x2 x3→p2 x0 x1 x2 x3→p3 x0 x1 x2 x3→p4 x0 x1 x2 x3→p5 x0 x1 x2 x3→G):G:=h.elim fun x0 h0=>h0.elim fun x1 h1=>h1.elim fun x2 h2=>h2.elim fun x3 h3=>k x0 x1 x2 x3 h3.1 h3.2.1 h3.2.2.1 h3.2.2.2.1 h3.2.2.2.2.1 h3.2.2.2.2.2
theorem gE {α0:Sort _} {α1:Sort _} {α2:Sort _} {α3:Sort _} {α4:Sort _} {p0:Prop} {p1:α0→α1→α2→α3→α4→Prop} {p2:α0→α1→α2→α3→α4→Prop} {p3:α0→α1→α2→α3→α4→Prop} {p4:α0→α1→α2→α3→α4→Prop} {p5:α0→α1→α2→α3→α4→Prop} {G:Prop} (h:p0∧∃ x0,∃ x1,∃ x2,∃ x3,∃ x4,p1 x0 x1 x2 x3 x4∧p2 x0 x1 x2 x3 x4∧p3 x0 x1 x2 x3 x4∧p4 x0 x1 x2 x3 x4∧p5 x0 x1 x2 x3 x4) (k:p0→∀ x0,∀ x1,∀ x2,∀ x3,∀ x4,p1 x0 x1 x2 x3 x4→p2 x0 x1 x2 x3 x4→p3 x0 x1 x2 x3 x4→p4 x0 x1 x2 x3 x4→p5 x0 x1 x2 x3 x4→G):G:=h.2.elim fun x0 h0=>h0.elim fun x1 h1=>h1.elim fun x2 h2=>h2.elim fun x3 h3=>h3.elim fun x4 h4=>k h.1 x0 x1 x2 x3 x4 h4.1 h4.2.1 h4.2.2.1 h4.2.2.2.1 h4.2.2.2.2
theorem gq {α0:Sort _} {α1:Sort _} {α2:Sort _} {α3:Sort _} {α4:Sort _} {p0:α0→α1→α2→α3→α4→Prop} {p1:α0→α1→α2→α3→α4→Prop} {p2:α0→α1→α2→α3→α4→Prop} {p3:α0→α1→α2→α3→α4→Prop} {p4:α0→α1→α2→α3→α4→Prop} {p5:α0→α1→α2→α3→α4→Prop} {G:Prop} (h:∃ x0,∃ x1,∃ x2,∃ x3,∃ x4,p0 x0 x1 x2 x3 x4∧p1 x0 x1 x2 x3 x4∧p2 x0 x1 x2 x3 x4∧p3 x0 x1 x2 x3 x4∧p4 x0 x1 x2 x3 x4∧p5 x0 x1 x2 x3 x4) (k:∀ x0,∀ x1,∀ x2,∀ x3,∀ x4,p0 x0 x1 x2 x3 x4→p1 x0 x1 x2 x3 x4→p2 x0 x1 x2 x3 x4→p3 x0 x1 x2 x3 x4→p4 x0 x1 x2 x3 x4→p5 x0 x1 x2 x3 x4→G):G:=h.elim fun x0 h0=>h0.elim fun x1 h1=>h1.elim fun x2 h2=>h2.elim fun x3 h3=>h3.elim fun x4 h4=>k x0 x1 x2 x3 x4 h4.1 h4.2.1 h4.2.2.1 h4.2.2.2.1 h4.2.2.2.2.1 h4.2.2.2.2.2
theorem mo {α0:Sort _} {α1:Sort _} {α2:Sort _} {α3:Sort _} {α4:Sort _} {α5:Sort _} {p0:α0→α1→α2→α3→α4→α5→Prop} {p1:α0→α1→α2→α3→α4→α5→Prop} {p2:α0→α1→α2→α3→α4→α5→Prop} {p3:α0→α1→α2→α3→α4→α5→Prop} {p4:α0→α1→α2→α3→α4→α5→Prop} {G:Prop} (h:∃ x0,∃ x1,∃ x2,∃ x3,∃ x4,∃ x5,p0 x0 x1 x2 x3 x4 x5∧p1 x0 x1 x2 x3 x4 x5∧p2 x0 x1 x2 x3 x4 x5∧p3 x0 x1 x2 x3 x4 x5∧p4 x0 x1 x2 x3 x4 x5) (k:∀ x0,∀ x1,∀ x2,∀ x3,∀ x4,∀ x5,p0 x0 x1 x2 x3 x4 x5→p1 x0 x1 x2 x3 x4 x5→p2 x0 x1 x2 x3 x4 x5→p3 x0 x1 x2 x3 x4 x5→p4 x0 x1 x2 x3 x4 x5→G):G:=h.elim fun x0 h0=>h0.elim fun x1 h1=>h1.elim fun x2 h2=>h2.elim fun x3 h3=>h3.elim fun x4 h4=>h4.elim fun x5 h5=>k x0 x1 x2 x3 x4 x5 h5.1 h5.2.1 h5.2.2.1 h5.2.2.2.1 h5.2.2.2.2
theorem fW {α0:Sort _} {α1:Sort _} {α2:Sort _} {α3:Sort _} {α4:Sort _} {p0:α0→α1→α2→α3→α4→Prop} {p1:α0→α1→α2→α3→α4→Prop} {p2:α0→α1→α2→α3→α4→Prop} {p3:α0→α1→α2→α3→α4→Prop} {p4:α0→α1→α2→α3→α4→Prop} {p5:α0→α1→α2→α3→α4→Prop} {p6:α0→α1→α2→α3→α4→Prop} {G:Prop} (h:∃ x0,∃ x1,∃ x2,∃ x3,∃ x4,p0 x0 x1 x2 x3 x4∧p1 x0 x1 x2 x3 x4∧p2 x0 x1 x2 x3 x4∧p3 x0 x1 x2 x3 x4∧p4 x0 x1 x2 x3 x4∧p5 x0 x1 x2 x3 x4∧p6 x0 x1 x2 x3 x4) (k:∀ x0,∀ x1,∀ x2,∀ x3,∀ x4,p0 x0 x1 x2 x3 x4→p1 x0 x1 x2 x3 x4→p2 x0 x1 x2 x3 x4→p3 x0 x1 x2 x3 x4→p4 x0 x1 x2 x3 x4→p5 x0 x1 x2 x3 x4→p6 x0 x1 x2 x3 x4→G):G:=h.elim fun x0 h0=>h0.elim fun x1 h1=>h1.elim fun x2 h2=>h2.elim fun x3 h3=>h3.elim fun x4 h4=>k x0 x1 x2 x3 x4 h4.1 h4.2.1 h4.2.2.1 h4.2.2.2.1 h4.2.2.2.2.1 h4.2.2.2.2.2.1 h4.2.2.2.2.2.2
theorem fQ {α0:Sort _} {α1:Sort _} {α2:Sort _} {α3:Sort _} {α4:Sort _} {α5:Sort _} {p0:α0→α1→α2→α3→α4→α5→Prop} {p1:α0→α1→α2→α3→α4→α5→Prop} {p2:α0→α1→α2→α3→α4→α5→Prop} {p3:α0→α1→α2→α3→α4→α5→Prop} {p4:α0→α1→α2→α3→α4→α5→Prop} {p5:α0→α1→α2→α3→α4→α5→Prop} {G:Prop} (h:∃ x0,∃ x1,∃ x2,∃ x3,∃ x4,∃ x5,p0 x0 x1 x2 x3 x4 x5∧p1 x0 x1 x2 x3 x4 x5∧p2 x0 x1 x2 x3 x4 x5∧p3 x0 x1 x2 x3 x4 x5∧p4 x0 x1 x2 x3 x4 x5∧p5 x0 x1 x2 x3 x4 x5) (k:∀ x0,∀ x1,∀ x2,∀ x3,∀ x4,∀ x5,p0 x0 x1 x2 x3 x4 x5→p1 x0 x1 x2 x3 x4 x5→p2 x0 x1 x2 x3 x4 x5→p3 x0 x1 x2 x3 x4 x5→p4 x0 x1 x2 x3 x4 x5→p5 x0 x1 x2 x3 x4 x5→G):G:=h.elim fun x0 h0=>h0.elim fun x1 h1=>h1.elim fun x2 h2=>h2.elim fun x3 h3=>h3.elim fun x4 h4=>h4.elim fun x5 h5=>k x0 x1 x2 x3 x4 x5 h5.1 h5.2.1 h5.2.2.1 h5.2.2.2.1 h5.2.2.2.2.1 h5.2.2.2.2.2
theorem ja {α0:Sort _} {α1:Sort _} {α2:Sort _} {α3:Sort _} {α4:Sort _} {α5:Sort _} {α6:Sort _} {p0:α0→α1→α2→α3→α4→α5→α6→Prop} {p1:α0→α1→α2→α3→α4→α5→α6→Prop} {p2:α0→α1→α2→α3→α4→α5→α6→Prop} {p3:α0→α1→α2→α3→α4→α5→α6→Prop} {p4:α0→α1→α2→α3→α4→α5→α6→Prop} {p5:α0→α1→α2→α3→α4→α5→α6→Prop} {p6:α0→α1→α2→α3→α4→α5→α6→Prop} {G:Prop} (h:∃ x0,∃ x1,∃ x2,∃ x3,∃ x4,∃ x5,∃ x6,p0 x0 x1 x2 x3 x4 x5 x6∧p1 x0 x1 x2 x3 x4 x5 x6∧p2 x0 x1 x2 x3 x4 x5 x6∧p3 x0 x1 x2 x3 x4 x5 x6∧p4 x0 x1 x2 x3 x4 x5 x6∧p5 x0 x1 x2 x3 x4 x5 x6∧p6 x0 x1 x2 x3 x4 x5 x6) (k:∀ x0,∀ x1,∀ x2,∀ x3,∀ x4,∀ x5,∀ x6,p0 x0 x1 x2 x3 x4 x5 x6→p1 x0 x1 x2 x3 x4 x5 x6→p2 x0 x1 x2 x3 x4 x5 x6→p3 x0 x1 x2 x3 x4 x5 x6→p4 x0 x1 x2 x3 x4 x5 x6→p5 x0 x1 x2 x3 x4 x5 x6→p6 x0 x1 x2 x3 x4 x5 x6→G):G:=h.elim fun x0 h0=>h0.elim fun x1 h1=>h1.elim fun x2 h2=>h2.elim fun x3 h3=>h3.elim fun x4 h4=>h4.elim fun x5 h5=>h5.elim fun x6 h6=>k x0 x1 x2 x3 x4 x5 x6 h6.1 h6.2.1 h6.2.2.1 h6.2.2.2.1 h6.2.2.2.2.1 h6.2.2.2.2.2.1 h6.2.2.2.2.2.2
theorem i7 {α0:Sort _} {α1:Sort _} {α2:Sort _} {α3:Sort _} {α4:Sort _} {α5:Sort _} {α6:Sort _} {α7:Sort _} {p0:α0→α1→α2→α3→α4→α5→α6→α7→Prop} {p1:α0→α1→α2→α3→α4→α5→α6→α7→Prop} {p2:α0→α1→α2→α3→α4→α5→α6→α7→Prop} {p3:α0→α1→α2→α3→α4→α5→α6→α7→Prop} {p4:α0→α1→α2→α3→α4→α5→α6→α7→Prop} {p5:α0→α1→α2→α3→α4→α5→α6→α7→Prop} {G:Prop} (h:∃ x0,∃ x1,∃ x2,∃ x3,∃ x4,∃ x5,∃ x6,∃ x7,p0 x0 x1 x2 x3 x4 x5 x6 x7∧p1 x0 x1 x2 x3 x4 x5 x6 x7∧p2 x0 x1 x2 x3 x4 x5 x6 x7∧p3 x0 x1 x2 x3 x4 x5 x6 x7∧p4 x0 x1 x2 x3 x4 x5 x6 x7∧p5 x0 x1 x2 x3 x4 x5 x6 x7) (k:∀ x0,∀ x1,∀ x2,∀ x3,∀ x4,∀ x5,∀ x6,∀ x7,p0 x0 x1 x2 x3 x4 x5 x6 x7→p1 x0 x1 x2 x3 x4 x5 x6 x7→p2 x0 x1 x2 x3 x4 x5 x6 x7→p3 x0 x1 x2 x3 x4 x5 x6 x7→p4 x0 x1 x2 x3 x4 x5 x6 x7→p5 x0 x1 x2 x3 x4 x5 x6 x7→G):G:=h.elim fun x0 h0=>h0.elim fun x1 h1=>h1.elim fun x2 h2=>h2.elim fun x3 h3=>h3.elim fun x4 h4=>h4.elim fun x5 h5=>h5.elim fun x6 h6=>h6.elim fun x7 h7=>k x0 x1 x2 x3 x4 x5 x6 x7 h7.1 h7.2.1 h7.2.2.1 h7.2.2.2.1 h7.2.2.2.2.1 h7.2.2.2.2.2
theorem iI {α0:Sort _} {α1:Sort _} {α2:Sort _} {α3:Sort _} {α4:Sort _} {α5:Sort _} {α6:Sort _} {p0:α0→α1→α2→α3→α4→α5→α6→Prop} {p1:α0→α1→α2→α3→α4→α5→α6→Prop} {p2:α0→α1→α2→α3→α4→α5→α6→Prop} {p3:α0→α1→α2→α3→α4→α5→α6→Prop} {p4:α0→α1→α2→α3→α4→α5→α6→Prop} {p5:α0→α1→α2→α3→α4→α5→α6→Prop} {p6:α0→α1→α2→α3→α4→α5→α6→Prop} {p7:α0→α1→α2→α3→α4→α5→α6→Prop} {G:Prop} (h:∃ x0,∃ x1,∃ x2,∃ x3,∃ x4,∃ x5,∃ x6,p0 x0 x1 x2 x3 x4 x5 x6∧p1 x0 x1 x2 x3 x4 x5 x6∧p2 x0 x1 x2 x3 x4 x5 x6∧p3 x0 x1 x2 x3 x4 x5 x6∧p4 x0 x1 x2 x3 x4 x5 x6∧p5 x0 x1 x2 x3 x4 x5 x6∧p6 x0 x1 x2 x3 x4 x5 x6∧p7 x0 x1 x2 x3 x4 x5 x6) (k:∀ x0,∀ x1,∀ x2,∀ x3,∀ x4,∀ x5,∀ x6,p0 x0 x1 x2 x3 x4 x5 x6→p1 x0 x1 x2 x3 x4 x5 x6→p2 x0 x1 x2 x3 x4 x5 x6→p3 x0 x1 x2 x3 x4 x5 x6→p4 x0 x1 x2 x3 x4 x5 x6→p5 x0 x1 x2 x3 x4 x5 x6→p6 x0 x1 x2 x3 x4 x5 x6→p7 x0 x1 x2 x3 x4 x5 x6→G):G:=h.elim fun x0 h0=>h0.elim fun x1 h1=>h1.elim fun x2 h2=>h2.elim fun x3 h3=>h3.elim fun x4 h4=>h4.elim fun x5 h5=>h5.elim fun x6 h6=>k x0 x1 x2 x3 x4 x5 x6 h6.1 h6.2.1 h6.2.2.1 h6.2.2.2.1 h6.2.2.2.2.1 h6.2.2.2.2.2.1 h6.2.2.2.2.2.2.1 h6.2.2.2.2.2.2.2
theorem gN {α0:Sort _} {α1:Sort _} {α2:Sort _} {α3:Sort _} {α4:Sort _} {α5:Sort _} {α6:Sort _} {α7:Sort _} {α8:Sort _} {p0:α0→α1→α2→α3→α4→α5→α6→α7→α8→Prop} {p1:α0→α1→α2→α3→α4→α5→α6→α7→α8→Prop} {p2:α0→α1→α2→α3→α4→α5→α6→α7→α8→Prop} {p3:α0→α1→α2→α3→α4→α5→α6→α7→α8→Prop} {p4:α0→α1→α2→α3→α4→α5→α6→α7→α8→Prop} {p5:α0→α1→α2→α3→α4→α5→α6→α7→α8→Prop} {p6:α0→α1→α2→α3→α4→α5→α6→α7→α8→Prop} {G:Prop} (h:∃ x0,∃ x1,∃ x2,∃ x3,∃ x4,∃ x5,∃ x6,∃ x7,∃ x8,p0 x0 x1 x2 x3 x4 x5 x6 x7 x8∧p1 x0 x1 x2 x3 x4 x5 x6 x7 x8∧p2 x0 x1 x2 x3 x4 x5 x6 x7 x8∧p3 x0 x1 x2 x3 x4 x5 x6 x7 x8∧p4 x0 x1 x2 x3 x4 x5 x6 x7 x8∧p5 x0 x1 x2 x3 x4 x5 x6 x7 x8∧p6 x0 x1 x2 x3 x4 x5 x6 x7 x8) (k:∀ x0,∀ x1,∀ x2,∀ x3,∀ x4,∀ x5,∀ x6,∀ x7,∀ x8,p0 x0 x1 x2 x3 x4 x5 x6 x7 x8→p1 x0 x1 x2 x3 x4 x5 x6 x7 x8→p2 x0 x1 x2 x3 x4 x5 x6 x7 x8→p3 x0 x1 x2 x3 x4 x5 x6 x7 x8→p4 x0 x1 x2 x3 x4 x5 x6 x7 x8→p5 x0 x1 x2 x3 x4 x5 x6 x7 x8→p6 x0 x1 x2 x3 x4 x5 x6 x7 x8→G):G:=h.elim fun x0 h0=>h0.elim fun x1 h1=>h1.elim fun x2 h2=>h2.elim fun x3 h3=>h3.elim fun x4 h4=>h4.elim fun x5 h5=>h5.elim fun x6 h6=>h6.elim fun x7 h7=>h7.elim fun x8 h8=>k x0 x1 x2 x3 x4 x5 x6 x7 x8 h8.1 h8.2.1 h8.2.2.1 h8.2.2.2.1 h8.2.2.2.2.1 h8.2.2.2.2.2.1 h8.2.2.2.2.2.2
theorem gm {α0:Sort _} {α1:Sort _} {α2:Sort _} {α3:Sort _} {α4:Sort _} {α5:Sort _} {p0:α0→α1→α2→Prop} {p1:α0→α1→α2→Prop} {p2:α0→α1→α2→Prop} {p3:α0→α1→α2→Prop} {p4:α0→α1→α2→Prop} {p5:α0→α1→α2→Prop} {p6:α0→α1→α2→Prop} {p7:α0→α1→α2→α3→α4→α5→Prop} {p8:α0→α1→α2→α3→α4→α5→Prop} {p9:α0→α1→α2→α3→α4→α5→Prop} {p10:α0→α1→α2→α3→α4→α5→Prop} {G:Prop} (h:∃ x0,∃ x1,∃ x2,p0 x0 x1 x2∧p1 x0 x1 x2∧p2 x0 x1 x2∧p3 x0 x1 x2∧p4 x0 x1 x2∧p5 x0 x1 x2∧p6 x0 x1 x2∧∃ x3,∃ x4,∃ x5,p7 x0 x1 x2 x3 x4 x5∧p8 x0 x1 x2 x3 x4 x5∧p9 x0 x1 x2 x3 x4 x5∧p10 x0 x1 x2 x3 x4 x5) (k:∀ x0,∀ x1,∀ x2,p0 x0 x1 x2→p1 x0 x1 x2→p2 x0 x1 x2→p3 x0 x1 x2→p4 x0 x1 x2→p5 x0 x1 x2→p6 x0 x1 x2→∀ x3,∀ x4,∀ x5,p7 x0 x1 x2 x3 x4 x5→p8 x0 x1 x2 x3 x4 x5→p9 x0 x1 x2 x3 x4 x5→p10 x0 x1 x2 x3 x4 x5→G):G:=h.elim fun x0 h0=>h0.elim fun x1 h1=>h1.elim fun x2 h2=>h2.2.2.2.2.2.2.2.elim fun x3 h3=>h3.elim fun x4 h4=>h4.elim fun x5 h5=>k x0 x1 x2 h2.1 h2.2.1 h2.2.2.1 h2.2.2.2.1 h2.2.2.2.2.1 h2.2.2.2.2.2.1 h2.2.2.2.2.2.2.1 x3 x4 x5 h5.1 h5.2.1 h5.2.2.1 h5.2.2.2
theorem gg {α0:Sort _} {α1:Sort _} {α2:Sort _} {α3:Sort _} {α4:Sort _} {α5:Sort _} {p0:α0→α1→α2→α3→α4→α5→Prop} {p1:α0→α1→α2→α3→α4→α5→Prop} {p2:α0→α1→α2→α3→α4→α5→Prop} {p3:α0→α1→α2→α3→α4→α5→Prop} {p4:α0→α1→α2→α3→α4→α5→Prop} {p5:α0→α1→α2→α3→α4→α5→Prop} {p6:α0→α1→α2→α3→α4→α5→Prop} {p7:α0→α1→α2→α3→α4→α5→Prop} {p8:α0→α1→α2→α3→α4→α5→Prop} {p9:α0→α1→α2→α3→α4→α5→Prop} {p10:α0→α1→α2→α3→α4→α5→Prop} {G:Prop} (h:∃ x0,∃ x1,∃ x2,∃ x3,∃ x4,∃ x5,p0 x0 x1 x2 x3 x4 x5∧p1 x0 x1 x2 x3 x4 x5∧p2 x0 x1 x2 x3 x4 x5∧p3 x0 x1 x2 x3 x4 x5∧p4 x0 x1 x2 x3 x4 x5∧p5 x0 x1 x2 x3 x4 x5∧p6 x0 x1 x2 x3 x4 x5∧p7 x0 x1 x2 x3 x4 x5∧p8 x0 x1 x2 x3 x4 x5∧p9 x0 x1 x2 x3 x4 x5∧p10 x0 x1 x2 x3 x4 x5) (k:∀ x0,∀ x1,∀ x2,∀ x3,∀ x4,∀ x5,p0 x0 x1 x2 x3 x4 x5→p1 x0 x1 x2 x3 x4 x5→p2 x0 x1 x2 x3 x4 x5→p3 x0 x1 x2 x3 x4 x5→p4 x0 x1 x2 x3 x4 x5→p5 x0 x1 x2 x3 x4 x5→p6 x0 x1 x2 x3 x4 x5→p7 x0 x1 x2 x3 x4 x5→p8 x0 x1 x2 x3 x4 x5→p9 x0 x1 x2 x3 x4 x5→p10 x0 x1 x2 x3 x4 x5→G):G:=h.elim fun x0 h0=>h0.elim fun x1 h1=>h1.elim fun x2 h2=>h2.elim fun x3 h3=>h3.elim fun x4 h4=>h4.elim fun x5 h5=>k x0 x1 x2 x3 x4 x5 h5.1 h5.2.1 h5.2.2.1 h5.2.2.2.1 h5.2.2.2.2.1 h5.2.2.2.2.2.1 h5.2.2.2.2.2.2.1 h5.2.2.2.2.2.2.2.1 h5.2.2.2.2.2.2.2.2.1 h5.2.2.2.2.2.2.2.2.2.1 h5.2.2.2.2.2.2.2.2.2.2
theorem gk {α0:Sort _} {α1:Sort _} {α2:Sort _} {α3:Sort _} {α4:Sort _} {α5:Sort _} {α6:Sort _} {p0:α0→α1→α2→α3→α4→α5→α6→Prop} {p1:α0→α1→α2→α3→α4→α5→α6→Prop} {p2:α0→α1→α2→α3→α4→α5→α6→Prop} {p3:α0→α1→α2→α3→α4→α5→α6→Prop} {p4:α0→α1→α2→α3→α4→α5→α6→Prop} {p5:α0→α1→α2→α3→α4→α5→α6→Prop} {p6:α0→α1→α2→α3→α4→α5→α6→Prop} {p7:α0→α1→α2→α3→α4→α5→α6→Prop} {p8:α0→α1→α2→α3→α4→α5→α6→Prop} {p9:α0→α1→α2→α3→α4→α5→α6→Prop} {G:Prop} (h:∃ x0,∃ x1,∃ x2,∃ x3,∃ x4,∃ x5,∃ x6,p0 x0 x1 x2 x3 x4 x5 x6∧p1 x0 x1 x2 x3 x4 x5 x6∧p2 x0 x1 x2 x3 x4 x5 x6∧p3 x0 x1 x2 x3 x4 x5 x6∧p4 x0 x1 x2 x3 x4 x5 x6∧p5 x0 x1 x2 x3 x4 x5 x6∧p6 x0 x1 x2 x3 x4 x5 x6∧p7 x0 x1 x2 x3 x4 x5 x6∧p8 x0 x1 x2 x3 x4 x5 x6∧p9 x0 x1 x2 x3 x4 x5 x6) (k:∀ x0,∀ x1,∀ x2,∀ x3,∀ x4,∀ x5,∀ x6,p0 x0 x1 x2 x3 x4 x5 x6→p1 x0 x1 x2 x3 x4 x5 x6→p2 x0 x1 x2 x3 x4 x5 x6→p3 x0 x1 x2 x3 x4 x5 x6→p4 x0 x1 x2 x3 x4 x5 x6→p5 x0 x1 x2 x3 x4 x5 x6→p6 x0 x1 x2 x3 x4 x5 x6→p7 x0 x1 x2 x3 x4 x5 x6→p8 x0 x1 x2 x3 x4 x5 x6→p9 x0 x1 x2 x3 x4 x5 x6→G):G:=h.elim fun x0 h0=>h0.elim fun x1 h1=>h1.elim fun x2 h2=>h2.elim fun x3 h3=>h3.elim fun x4 h4=>h4.elim fun x5 h5=>h5.elim fun x6 h6=>k x0 x1 x2 x3 x4 x5 x6 h6.1 h6.2.1 h6.2.2.1 h6.2.2.2.1 h6.2.2.2.2.1 h6.2.2.2.2.2.1 h6.2.2.2.2.2.2.1 h6.2.2.2.2.2.2.2.1 h6.2.2.2.2.2.2.2.2.1 h6.2.2.2.2.2.2.2.2.2
theorem fh {α0:Sort _} {α1:Sort _} {α2:Sort _} {α3:Sort _} {α4:Sort _} {α5:Sort _} {p0:α0→α1→α2→α3→α4→α5→Prop} {p1:α0→α1→α2→α3→α4→α5→Prop} {p2:α0→α1→α2→α3→α4→α5→Prop} {p3:α0→α1→α2→α3→α4→α5→Prop} {p4:α0→α1→α2→α3→α4→α5→Prop} {p5:α0→α1→α2→α3→α4→α5→Prop} {p6:α0→α1→α2→α3→α4→α5→Prop} {p7:α0→α1→α2→α3→α4→α5→Prop} {p8:α0→α1→α2→α3→α4→α5→Prop} {p9:α0→α1→α2→α3→α4→α5→Prop} {p10:α0→α1→α2→α3→α4→α5→Prop} {p11:α0→α1→α2→α3→α4→α5→Prop} {p12:α0→α1→α2→α3→α4→α5→Prop} {p13:α0→α1→α2→α3→α4→α5→Prop} {G:Prop} (h:∃ x0,∃ x1,∃ x2,∃ x3,∃ x4,∃ x5,p0 x0 x1 x2 x3 x4 x5∧p1 x0 x1 x2 x3 x4 x5∧p2 x0 x1 x2 x3 x4 x5∧p3 x0 x1 x2 x3 x4 x5∧p4 x0 x1 x2 x3 x4 x5∧p5 x0 x1 x2 x3 x4 x5∧p6 x0 x1 x2 x3 x4 x5∧p7 x0 x1 x2 x3 x4 x5∧p8 x0 x1 x2 x3 x4 x5∧p9 x0 x1 x2 x3 x4 x5∧p10 x0 x1 x2 x3 x4 x5∧p11 x0 x1 x2 x3 x4 x5∧p12 x0 x1 x2 x3 x4 x5∧p13 x0 x1 x2 x3 x4 x5) (k:∀ x0,∀ x1,∀ x2,∀ x3,∀ x4,∀ x5,p0 x0 x1 x2 x3 x4 x5→p1 x0 x1 x2 x3 x4 x5→p2 x0 x1 x2 x3 x4 x5→p3 x0 x1 x2 x3 x4 x5→p4 x0 x1 x2 x3 x4 x5→p5 x0 x1 x2 x3 x4 x5→p6 x0 x1 x2 x3 x4 x5→p7 x0 x1 x2 x3 x4 x5→p8 x0 x1 x2 x3 x4 x5→p9 x0 x1 x2 x3 x4 x5→p10 x0 x1 x2 x3 x4 x5→p11 x0 x1 x2 x3 x4 x5→p12 x0 x1 x2 x3 x4 x5→p13 x0 x1 x2 x3 x4 x5→G):G:=h.elim fun x0 h0=>h0.elim fun x1 h1=>h1.elim fun x2 h2=>h2.elim fun x3 h3=>h3.elim fun x4 h4=>h4.elim fun x5 h5=>k x0 x1 x2 x3 x4 x5 h5.1 h5.2.1 h5.2.2.1 h5.2.2.2.1 h5.2.2.2.2.1 h5.2.2.2.2.2.1 h5.2.2.2.2.2.2.1 h5.2.2.2.2.2.2.2.1 h5.2.2.2.2.2.2.2.2.1 h5.2.2.2.2.2.2.2.2.2.1 h5.2.2.2.2.2.2.2.2.2.2.1 h5.2.2.2.2.2.2.2.2.2.2.2.1 h5.2.2.2.2.2.2.2.2.2.2.2.2.1 h5.2.2.2.2.2.2.2.2.2.2.2.2.2
theorem bO {α0:Sort _} {α1:Sort _} {α2:Sort _} {α3:Sort _} {α4:Sort _} {α5:Sort _} {α6:Sort _} {p0:α0→α1→α2→α3→α4→α5→α6→Prop} {p1:α0→α1→α2→α3→α4→α5→α6→Prop} {p2:α0→α1→α2→α3→α4→α5→α6→Prop} {p3:α0→α1→α2→α3→α4→α5→α6→Prop} {p4:α0→α1→α2→α3→α4→α5→α6→Prop} {p5:α0→α1→α2→α3→α4→α5→α6→Prop} {p6:α0→α1→α2→α3→α4→α5→α6→Prop} {p7:α0→α1→α2→α3→α4→α5→α6→Prop} {p8:α0→α1→α2→α3→α4→α5→α6→Prop} {p9:α0→α1→α2→α3→α4→α5→α6→Prop} {p10:α0→α1→α2→α3→α4→α5→α6→Prop} {p11:α0→α1→α2→α3→α4→α5→α6→Prop} {p12:α0→α1→α2→α3→α4→α5→α6→Prop} {G:Prop} (h:∃ x0,∃ x1,∃ x2,∃ x3,∃ x4,∃ x5,∃ x6,p0 x0 x1 x2 x3 x4 x5 x6∧p1 x0 x1 x2 x3 x4 x5 x6∧p2 x0 x1 x2 x3 x4 x5 x6∧p3 x0 x1 x2 x3 x4 x5 x6∧p4 x0 x1 x2 x3 x4 x5 x6∧p5 x0 x1 x2 x3 x4 x5 x6∧p6 x0 x1 x2 x3 x4 x5 x6∧p7 x0 x1 x2 x3 x4 x5 x6∧p8 x0 x1 x2 x3 x4 x5 x6∧p9 x0 x1 x2 x3 x4 x5 x6∧p10 x0 x1 x2 x3 x4 x5 x6∧p11 x0 x1 x2 x3 x4 x5 x6∧p12 x0 x1 x2 x3 x4 x5 x6) (k:∀ x0,∀ x1,∀ x2,∀ x3,∀ x4,∀ x5,∀ x6,p0 x0 x1 x2 x3 x4 x5 x6→p1 x0 x1 x2 x3 x4 x5 x6→p2 x0 x1 x2 x3 x4 x5 x6→p3 x0 x1 x2 x3 x4 x5 x6→p4 x0 x1 x2 x3 x4 x5 x6→p5 x0 x1 x2 x3 x4 x5 x6→p6 x0 x1 x2 x3 x4 x5 x6→p7 x0 x1 x2 x3 x4 x5 x6→p8 x0 x1 x2 x3 x4 x5 x6→p9 x0 x1 x2 x3 x4 x5 x6→p10 x0 x1 x2 x3 x4 x5 x6→p11 x0 x1 x2 x3 x4 x5 x6→p12 x0 x1 x2 x3 x4 x5 x6→G):G:=h.elim fun x0 h0=>h0.elim fun x1 h1=>h1.elim fun x2 h2=>h2.elim fun x3 h3=>h3.elim fun x4 h4=>h4.elim fun x5 h5=>h5.elim fun x6 h6=>k x0 x1 x2 x3 x4 x5 x6 h6.1 h6.2.1 h6.2.2.1 h6.2.2.2.1 h6.2.2.2.2.1 h6.2.2.2.2.2.1 h6.2.2.2.2.2.2.1 h6.2.2.2.2.2.2.2.1 h6.2.2.2.2.2.2.2.2.1 h6.2.2.2.2.2.2.2.2.2.1 h6.2.2.2.2.2.2.2.2.2.2.1 h6.2.2.2.2.2.2.2.2.2.2.2.1 h6.2.2.2.2.2.2.2.2.2.2.2.2
theorem eT {α0:Sort _} {α1:Sort _} {α2:Sort _} {α3:Sort _} {α4:Sort _} {α5:Sort _} {α6:Sort _} {α7:Sort _} {p0:α0→α1→α2→α3→α4→α5→α6→α7→Prop} {p1:α0→α1→α2→α3→α4→α5→α6→α7→Prop} {p2:α0→α1→α2→α3→α4→α5→α6→α7→Prop} {p3:α0→α1→α2→α3→α4→α5→α6→α7→Prop} {p4:α0→α1→α2→α3→α4→α5→α6→α7→Prop} {p5:α0→α1→α2→α3→α4→α5→α6→α7→Prop} {p6:α0→α1→α2→α3→α4→α5→α6→α7→Prop} {p7:α0→α1→α2→α3→α4→α5→α6→α7→Prop} {p8:α0→α1→α2→α3→α4→α5→α6→α7→Prop} {p9:α0→α1→α2→α3→α4→α5→α6→α7→Prop} {p10:α0→α1→α2→α3→α4→α5→α6→α7→Prop} {p11:α0→α1→α2→α3→α4→α5→α6→α7→Prop} {p12:α0→α1→α2→α3→α4→α5→α6→α7→Prop} {G:Prop} (h:∃ x0,∃ x1,∃ x2,∃ x3,∃ x4,∃ x5,∃ x6,∃ x7,p0 x0 x1 x2 x3 x4 x5 x6 x7∧p1 x0 x1 x2 x3 x4 x5 x6 x7∧p2 x0 x1 x2 x3 x4 x5 x6 x7∧p3 x0 x1 x2 x3 x4 x5 x6 x7∧p4 x0 x1 x2 x3 x4 x5 x6 x7∧p5 x0 x1 x2 x3 x4 x5 x6 x7∧p6 x0 x1 x2 x3 x4 x5 x6 x7∧p7 x0 x1 x2 x3 x4 x5 x6 x7∧p8 x0 x1 x2 x3 x4 x5 x6 x7∧p9 x0 x1 x2 x3 x4 x5 x6 x7∧p10 x0 x1 x2 x3 x4 x5 x6 x7∧p11 x0 x1 x2 x3 x4 x5 x6 x7∧p12 x0 x1 x2 x3 x4 x5 x6 x7) (k:∀ x0,∀ x1,∀ x2,∀ x3,∀ x4,∀ x5,∀ x6,∀ x7,p0 x0 x1 x2 x3 x4 x5 x6 x7→p1 x0 x1 x2 x3 x4 x5 x6 x7→p2 x0 x1 x2 x3 x4 x5 x6 x7→p3 x0 x1 x2 x3 x4 x5 x6 x7→p4 x0 x1 x2 x3 x4 x5 x6 x7→p5 x0 x1 x2 x3 x4 x5 x6 x7→p6 x0 x1 x2 x3 x4 x5 x6 x7→p7 x0 x1 x2 x3 x4 x5 x6 x7→p8 x0 x1 x2 x3 x4 x5 x6 x7→p9 x0 x1 x2 x3 x4 x5 x6 x7→p10 x0 x1 x2 x3 x4 x5 x6 x7→p11 x0 x1 x2 x3 x4 x5 x6 x7→p12 x0 x1 x2 x3 x4 x5 x6 x7→G):G:=h.elim fun x0 h0=>h0.elim fun x1 h1=>h1.elim fun x2 h2=>h2.elim fun x3 h3=>h3.elim fun x4 h4=>h4.elim fun x5 h5=>h5.elim fun x6 h6=>h6.elim fun x7 h7=>k x0 x1 x2 x3 x4 x5 x6 x7 h7.1 h7.2.1 h7.2.2.1 h7.2.2.2.1 h7.2.2.2.2.1 h7.2.2.2.2.2.1 h7.2.2.2.2.2.2.1 h7.2.2.2.2.2.2.2.1 h7.2.2.2.2.2.2.2.2.1 h7.2.2.2.2.2.2.2.2.2.1 h7.2.2.2.2.2.2.2.2.2.2.1 h7.2.2.2.2.2.2.2.2.2.2.2.1 h7.2.2.2.2.2.2.2.2.2.2.2.2
end Mine
namespace Mine
open PySem PySem.W PySem.Calls PyProof.Rows
noncomputable def iy (tb:String→Option Builtin) (p:Program) (w:World) (n₀:Nat) (ann:Option Value):Nat→SharedT→Thread→Option SharedT
  | 0,_,_=>none
  | n+1,s,t=>match through t with
    | true=>some s
    | false=>match stepOk n₀ ann t with
      | false=>none
      | true=>match stepT (denote tb) p w s t with
        | some (⟨T,m,l,g,d,0,o⟩,t')=>iy tb p w n₀ ann n ⟨T,m,l,g,d,0,o⟩ t'
        | some (⟨T,m,l,g,d,k+1,o⟩,t')=>iy tb p w n₀ ann n ⟨T,m,l,g,d,k+1,o⟩ t'
        | none=>none
theorem gX {tb:String→Option Builtin} {p:Program} {w:World} {n₀:Nat} {ann:Option Value}:∀ {n:Nat} {s s':SharedT} {t:Thread},iy tb p w n₀ ann n s t=some s'→topRun tb p w n₀ ann n s.abs t=some s'.abs
  | 0,_,_,_,h=>by cases h
  | n+1,s,s',t,h=>by
    unfold iy at h
    unfold topRun
    cases he:through t with
    | true=>rw [he] at h; cases h; rfl
    | false =>
      rw [he] at h
      cases hk:stepOk n₀ ann t with
      | false=>rw [hk] at h; cases h
      | true =>
        rw [hk] at h
        cases hs:stepT (denote tb) p w s t with
        | none=>rw [hs] at h; cases h
        | some r =>
          obtain ⟨⟨T,m,l,g,d,k,o⟩,t₂⟩:=r
          rw [hs] at h
          rw [stepT_spec hs]
          cases k with
          | zero=>exact gX h
          | succ k=>exact gX h
noncomputable def bt:List Obj→Nat→BT→BT
  | [],_,t=>t
  | o :: l,n,t=>bt l (n+1) (t.ins n o)
noncomputable def AP (P:Params) (os:OsState):SharedT:=⟨bt (boot_heap P).objs.toList 0 .nil,(boot_heap P).objs.size,(boot_heap P).life,Array.mk [],boot_drawn,boot_toks,os⟩
theorem vk (P:Params) (os:OsState):(AP P os).abs=⟨boot_heap P,Array.mk [],boot_drawn,boot_toks,os⟩:=by kernel_rfl
noncomputable def uz (p q:Program) (loose:List Str) (Xt:Shared→Bool) {α:Type} (Yf:Shared→α) (P:Params) (s:Shared) :=
  ((staticsOk (importedModules p.main.body) (boot_heap P) s.heap && namesBound p s.heap && gensDone s && laidKept (boot_heap P) s.heap),openSeen q loose (importedModules p.main.body) Xt true s,Yf s)
noncomputable def AX (p q:Program) (loose:List Str) (Xt:Shared→Bool) {α:Type} (Yf:Shared→α) (m₀:Nat) (ann:Option Value) (N:Nat) (w:World) (os:OsState) :=
  (iy treeTable p w m₀ ann N (AP w.params os) (topStub p)).map fun s=>uz p q loose Xt Yf w.params s.abs
theorem yv {p q:Program} {loose:List Str} {Xt:Shared→Bool} {α:Type} {Yf:Shared→α} {Ya:World→α} {N:Nat} {m₀:Nat} {ann:Option Value}
    (e:opening p=plainProg p.main.scope.names) (hN:Nat.ble 600 N=true) (f:∀ s,fenceModules? p s=some s)
    (size : ∀ w : World, ((boot_heap w.params).isNs mainGlobals, (boot_heap w.params).objs.size, (boot_heap w.params).nsMap mainGlobals "__annotations__") = (true, m₀, ann))
    (run:∀ (w:World) (os:OsState),AX p q loose Xt Yf m₀ ann N w os=some (true,openGood q loose,Ya w)):LeftO p q loose Xt Yf Ya N:=fun w=>by
  refine ad (Option.map_eq_some_iff.mp (boot_open e hN f w)) fun zq106 e e'=>?_; obtain ⟨h,gs,d,k,os⟩:=zq106
  obtain ⟨rfl,rfl,rfl,rfl⟩:h=boot_heap w.params∧gs=Array.mk []∧d=boot_drawn∧k=boot_toks:=by simpa using e'
  obtain ⟨z1,z2,z3⟩:_∧_∧_:=by simpa only [Prod.mk.injEq] using size w
  refine ad (Option.map_eq_some_iff.mp (run w os)) fun s₁ hr hl=>?_
  have r:=gX hr
  rw [vk] at r
  obtain ⟨l1,l2,l3⟩:_∧_∧_:=by simpa only [uz,Prod.mk.injEq] using hl
  have t:topFrom treeTable p w N ⟨boot_heap w.params,Array.mk [],boot_drawn,boot_toks,os⟩=some s₁.abs:=by
    unfold topFrom
    dsimp only
    rw [z1,z2,z3,r]
    show (match staticsOk (importedModules p.main.body) (boot_heap w.params) s₁.abs.heap && namesBound p s₁.abs.heap && gensDone s₁.abs && laidKept (boot_heap w.params) s₁.abs.heap with | true=>_ | false=>_)=_
    rw [l1]
  unfold openEnds
  rw [e]
  show (topFrom treeTable p w N _).map _=_
  rw [t]
  exact congrArg some (Prod.ext l2 l3)
end Mine
section
open PySem PyProof.Rows PySem.Calls PySem.W
set_option Elab.async false
set_option maxRecDepth 100000
namespace Mine
theorem vB (w : World) : ((boot_heap w.params).isNs mainGlobals, (boot_heap w.params).objs.size, (boot_heap w.params).nsMap mainGlobals "__annotations__") = (true, 11, some (.ref 6)) := by kernel_rfl
noncomputable def ou:Program:=PySem.W.view PySem.Challenge.pw_uf020007_10 [1,2,3,4,6,7,8,9,10,11,13,14,15,16,17,18,19,20,21,23,24,25,27,28,29,30,31,32,34,35,36,37,38,39,40,41,43,44,45,46,47,48,49,50,51,52,53,54,55,56,57,58,59,60,61,62,63,64,65,66,67]
noncomputable def Af (P : Params) : List DictEntry := [{ hash := PyData.keyHash P (Str.ofString "__name__"), key := Value.str (Str.ofString "__name__") 165, val := Value.str (Str.ofString "law_uf020007_10") 535 }, { hash := PyData.keyHash P (Str.ofString "__doc__"), key := Value.str (Str.ofString "__doc__") 166, val := Value.none }, { hash := PyData.keyHash P (Str.ofString "__package__"), key := Value.str (Str.ofString "__package__") 167, val := Value.none }, { hash := PyData.keyHash P (Str.ofString "__loader__"), key := Value.str (Str.ofString "__loader__") 168, val := Value.builtin "__main__.__loader__#opaque" }, { hash := PyData.keyHash P (Str.ofString "__spec__"), key := Value.str (Str.ofString "__spec__") 169, val := Value.none }, { hash := PyData.keyHash P (Str.ofString "__annotations__"), key := Value.str (Str.ofString "__annotations__") 170, val := Value.ref 6 }, { hash := PyData.keyHash P (Str.ofString "__builtins__"), key := Value.str (Str.ofString "__builtins__") 171, val := Value.ref 4 }, { hash := PyData.keyHash P (Str.ofString "__file__"), key := Value.str (Str.ofString "__file__") 173, val := Value.str (Str.ofString "/claim/cut.py") 172 }]
noncomputable def zi (P : Params) : List DictEntry := [{ hash := PyData.keyHash P (Str.ofString "__cached__"), key := Value.str (Str.ofString "__cached__") 174, val := Value.none }, { hash := PyData.keyHash P (Str.ofString "PegError"), key := Value.str (Str.ofString "PegError") 206, val := Value.ref 24 }, { hash := PyData.keyHash P (Str.ofString "NoPart"), key := Value.str (Str.ofString "NoPart") 222, val := Value.ref 37 }, { hash := PyData.keyHash P (Str.ofString "NoRow"), key := Value.str (Str.ofString "NoRow") 238, val := Value.ref 49 }, { hash := PyData.keyHash P (Str.ofString "NoStretch"), key := Value.str (Str.ofString "NoStretch") 254, val := Value.ref 61 }, { hash := PyData.keyHash P (Str.ofString "divisor"), key := Value.str (Str.ofString "divisor") 265, val := Value.ref 70 }, { hash := PyData.keyHash P (Str.ofString "part"), key := Value.str (Str.ofString "part") 274, val := Value.ref 77 }, { hash := PyData.keyHash P (Str.ofString "below"), key := Value.str (Str.ofString "below") 282, val := Value.ref 84 }]
noncomputable def zR (P : Params) : List DictEntry := [{ hash := PyData.keyHash P (Str.ofString "part_sum"), key := Value.str (Str.ofString "part_sum") 290, val := Value.ref 91 }, { hash := PyData.keyHash P (Str.ofString "part_product"), key := Value.str (Str.ofString "part_product") 298, val := Value.ref 98 }, { hash := PyData.keyHash P (Str.ofString "turned_about"), key := Value.str (Str.ofString "turned_about") 305, val := Value.ref 105 }, { hash := PyData.keyHash P (Str.ofString "sign_at"), key := Value.str (Str.ofString "sign_at") 318, val := Value.ref 112 }, { hash := PyData.keyHash P (Str.ofString "trimmed"), key := Value.str (Str.ofString "trimmed") 326, val := Value.ref 119 }, { hash := PyData.keyHash P (Str.ofString "reduced"), key := Value.str (Str.ofString "reduced") 332, val := Value.ref 124 }, { hash := PyData.keyHash P (Str.ofString "slope"), key := Value.str (Str.ofString "slope") 338, val := Value.ref 129 }, { hash := PyData.keyHash P (Str.ofString "without_last"), key := Value.str (Str.ofString "without_last") 344, val := Value.ref 134 }]
noncomputable def zo (P : Params) : List DictEntry := [{ hash := PyData.keyHash P (Str.ofString "rest_of"), key := Value.str (Str.ofString "rest_of") 353, val := Value.ref 141 }, { hash := PyData.keyHash P (Str.ofString "common"), key := Value.str (Str.ofString "common") 362, val := Value.ref 148 }, { hash := PyData.keyHash P (Str.ofString "quotient"), key := Value.str (Str.ofString "quotient") 373, val := Value.ref 155 }, { hash := PyData.keyHash P (Str.ofString "plain"), key := Value.str (Str.ofString "plain") 381, val := Value.ref 162 }, { hash := PyData.keyHash P (Str.ofString "multiplied"), key := Value.str (Str.ofString "multiplied") 394, val := Value.ref 169 }, { hash := PyData.keyHash P (Str.ofString "seen"), key := Value.str (Str.ofString "seen") 400, val := Value.ref 174 }, { hash := PyData.keyHash P (Str.ofString "turns"), key := Value.str (Str.ofString "turns") 412, val := Value.ref 181 }, { hash := PyData.keyHash P (Str.ofString "HALF"), key := Value.str (Str.ofString "HALF") 417, val := Value.ref 182 }]
noncomputable def Ap (P : Params) : List DictEntry := [{ hash := PyData.keyHash P (Str.ofString "QUARTER"), key := Value.str (Str.ofString "QUARTER") 420, val := Value.ref 183 }, { hash := PyData.keyHash P (Str.ofString "is_alone"), key := Value.str (Str.ofString "is_alone") 429, val := Value.ref 190 }, { hash := PyData.keyHash P (Str.ofString "width_of"), key := Value.str (Str.ofString "width_of") 436, val := Value.ref 197 }, { hash := PyData.keyHash P (Str.ofString "narrowed"), key := Value.str (Str.ofString "narrowed") 450, val := Value.ref 204 }, { hash := PyData.keyHash P (Str.ofString "halved"), key := Value.str (Str.ofString "halved") 457, val := Value.ref 211 }, { hash := PyData.keyHash P (Str.ofString "NOUGHT"), key := Value.str (Str.ofString "NOUGHT") 462, val := Value.ref 212 }, { hash := PyData.keyHash P (Str.ofString "ONE"), key := Value.str (Str.ofString "ONE") 465, val := Value.ref 213 }, { hash := PyData.keyHash P (Str.ofString "power_sums"), key := Value.str (Str.ofString "power_sums") 478, val := Value.ref 220 }]
noncomputable def Am (P : Params) : List DictEntry := [{ hash := PyData.keyHash P (Str.ofString "signed"), key := Value.str (Str.ofString "signed") 486, val := Value.ref 227 }, { hash := PyData.keyHash P (Str.ofString "row_of"), key := Value.str (Str.ofString "row_of") 502, val := Value.ref 234 }, { hash := PyData.keyHash P (Str.ofString "settled"), key := Value.str (Str.ofString "settled") 514, val := Value.ref 241 }, { hash := PyData.keyHash P (Str.ofString "product_bounds"), key := Value.str (Str.ofString "product_bounds") 528, val := Value.ref 248 }, { hash := PyData.keyHash P (Str.ofString "times"), key := Value.str (Str.ofString "times") 534, val := Value.ref 253 }, { hash := PyData.keyHash P (Str.ofString "_law_whole"), key := Value.str (Str.ofString "_law_whole") 543, val := Value.ref 260 }, { hash := PyData.keyHash P (Str.ofString "_law_cell_at"), key := Value.str (Str.ofString "_law_cell_at") 551, val := Value.ref 267 }, { hash := PyData.keyHash P (Str.ofString "_law_divisor"), key := Value.str (Str.ofString "_law_divisor") 560, val := Value.ref 274 }]
noncomputable def yX (P : Params) : List DictEntry := [{ hash := PyData.keyHash P (Str.ofString "_law_part"), key := Value.str (Str.ofString "_law_part") 569, val := Value.ref 281 }, { hash := PyData.keyHash P (Str.ofString "_law_smallest"), key := Value.str (Str.ofString "_law_smallest") 575, val := Value.ref 286 }, { hash := PyData.keyHash P (Str.ofString "_law_value"), key := Value.str (Str.ofString "_law_value") 586, val := Value.ref 293 }, { hash := PyData.keyHash P (Str.ofString "_law_by"), key := Value.str (Str.ofString "_law_by") 592, val := Value.ref 298 }, { hash := PyData.keyHash P (Str.ofString "_law_seen"), key := Value.str (Str.ofString "_law_seen") 598, val := Value.ref 303 }, { hash := PyData.keyHash P (Str.ofString "_law_turns"), key := Value.str (Str.ofString "_law_turns") 610, val := Value.ref 310 }, { hash := PyData.keyHash P (Str.ofString "_law_is_part"), key := Value.str (Str.ofString "_law_is_part") 617, val := Value.ref 317 }, { hash := PyData.keyHash P (Str.ofString "_law_is_peg"), key := Value.str (Str.ofString "_law_is_peg") 623, val := Value.ref 322 }]
noncomputable def zv (P : Params) : List DictEntry := [{ hash := PyData.keyHash P (Str.ofString "_law_sign"), key := Value.str (Str.ofString "_law_sign") 630, val := Value.ref 329 }, { hash := PyData.keyHash P (Str.ofString "_law_two"), key := Value.str (Str.ofString "_law_two") 639, val := Value.ref 336 }, { hash := PyData.keyHash P (Str.ofString "_law_four"), key := Value.str (Str.ofString "_law_four") 652, val := Value.ref 343 }, { hash := PyData.keyHash P (Str.ofString "_law_mul"), key := Value.str (Str.ofString "_law_mul") 661, val := Value.ref 350 }, { hash := PyData.keyHash P (Str.ofString "_law_product"), key := Value.str (Str.ofString "_law_product") 675, val := Value.ref 357 }, { hash := PyData.keyHash P (Str.ofString "_law_many"), key := Value.str (Str.ofString "_law_many") 681, val := Value.ref 362 }, { hash := PyData.keyHash P (Str.ofString "_law_and"), key := Value.str (Str.ofString "_law_and") 687, val := Value.ref 367 }, { hash := PyData.keyHash P (Str.ofString "_law_ends"), key := Value.str (Str.ofString "_law_ends") 698, val := Value.ref 374 }]
noncomputable def zj (P : Params) : List DictEntry := [{ hash := PyData.keyHash P (Str.ofString "_law_quad_peg"), key := Value.str (Str.ofString "_law_quad_peg") 709, val := Value.ref 381 }, { hash := PyData.keyHash P (Str.ofString "_law_quad"), key := Value.str (Str.ofString "_law_quad") 720, val := Value.ref 388 }, { hash := PyData.keyHash P (Str.ofString "_law_two_quads"), key := Value.str (Str.ofString "_law_two_quads") 730, val := Value.ref 395 }, { hash := PyData.keyHash P (Str.ofString "_law_holds"), key := Value.str (Str.ofString "_law_holds") 748, val := Value.ref 402 }, { hash := PyData.keyHash P (Str.ofString "_law_right"), key := Value.str (Str.ofString "_law_right") 759, val := Value.ref 409 }, { hash := PyData.keyHash P (Str.ofString "law"), key := Value.str (Str.ofString "law") 776, val := Value.ref 416 }]
noncomputable def C2 (P : Params) : Obj := { cls := Value.type "dict", data := Data.dict ⟨Af P ++ (zi P ++ (zR P ++ (zo P ++ (Ap P ++ (Am P ++ (yX P ++ (zv P ++ (zj P))))))))⟩ 70 }
noncomputable def ua (P : Params) : Obj := { cls := Value.type "tuple", data := Data.seq #[Value.int 1 415, Value.int 2 416] }
noncomputable def t7 (P : Params) : Obj := { cls := Value.type "tuple", data := Data.seq #[Value.int 1 418, Value.int 4 419] }
noncomputable def uG (P : Params) : Obj := { cls := Value.type "tuple", data := Data.seq #[Value.int 0 460, Value.int 1 461] }
noncomputable def uL (P : Params) : Obj := { cls := Value.type "tuple", data := Data.seq #[Value.int 1 463, Value.int 1 464] }
noncomputable def K10:Params→Frag:=fun P=>[(nat_lit 3,C2 P),(nat_lit 182,ua P),(nat_lit 183,t7 P),(nat_lit 212,uG P),(nat_lit 213,uL P)]
noncomputable def as10:List Addr:=[3,182,183,212,213]
noncomputable def E10 (w:World) (os:OsState):=AX PySem.Challenge.pw_uf020007_10 ou [] (fun s=>xlAt ou [] s && recOk (RowW.records PySem.Challenge.rw_uf020007_10.row.toRowW) s) (fun s=>as10.map s.heap.get?) 11 (some (.ref 6)) 4500 w os
noncomputable def G10 (w:World):=some (true,openGood ou [],(K10 w.params).map fun p=>some p.2)
theorem CY (w:World) (os:OsState):E10 w os=G10 w:=by kernel_rfl
theorem Ca:LeftO PySem.Challenge.pw_uf020007_10 ou [] (fun s=>xlAt ou [] s && recOk (RowW.records PySem.Challenge.rw_uf020007_10.row.toRowW) s) (fun s=>as10.map s.heap.get?) (fun w=>(K10 w.params).map fun p=>some p.2) 4500 :=
  yv (by kernel_rfl) (by kernel_rfl) (fun s=>by kernel_rfl) vB CY
end Mine
end
namespace Mine
inductive LX where
  | v (i:Nat)
  | n (k:Nat)
  | a (x y:LX)
  | m (k:Nat) (x:LX)
  | r (x:LX) (k:Nat)
  | s (x y:LX)
  | g (x:LX)
  | c (x:LX)
noncomputable abbrev Y0:LX:=.v 0
noncomputable abbrev Y1:LX:=.v 1
noncomputable abbrev Y2:LX:=.v 2
noncomputable abbrev Y3:LX:=.v 3
noncomputable abbrev Y4:LX:=.v 4
noncomputable abbrev Y5:LX:=.v 5
noncomputable abbrev Y6:LX:=.v 6
noncomputable abbrev Y7:LX:=.v 7
noncomputable abbrev Y8:LX:=.v 8
noncomputable def LX.den (c:List Nat):LX→Nat
  | .v i=>c.getD i 0
  | .n k=>k
  | .a x y=>x.den c+y.den c
  | .m k x=>k*x.den c
  | .r x k=>x.den c*k
  | .s _ _=>0
  | .g _=>0
  | .c _=>0
noncomputable def LX.di (c:List Nat) (d:List Int):LX→Int
  | .v i=>d.getD i 0
  | .n k=>(k:Int)
  | .a x y=>x.di c d+y.di c d
  | .m k x=>(k:Int)*x.di c d
  | .r x k=>x.di c d*(k:Int)
  | .s x y=>x.di c d - y.di c d
  | .g x=>- x.di c d
  | .c x=>((x.den c:Nat):Int)
noncomputable def adz:List Int→List Int→List Int
  | [],ys=>ys
  | x :: xs,[]=>x :: xs
  | x :: xs,y :: ys=>(x+y) :: adz xs ys
noncomputable def smz (k:Int) (xs:List Int):List Int:=xs.map (k*·)
noncomputable def unz:Nat→List Int
  | 0=>[1]
  | i+1=>0 :: unz i
noncomputable def dtz:List Int→List Int→Int
  | [],_=>0
  | _ :: _,[]=>0
  | k :: r,x :: c=>k*x+dtz r c
theorem sM:∀ (xs ys c:List Int),dtz (adz xs ys) c=dtz xs c+dtz ys c
  | [],_,_=>(Int.zero_add _).symm
  | _ :: _,[],_=>(Int.add_zero _).symm
  | _ :: _,_ :: _,[]=>rfl
  | x :: xs,y :: ys,z :: c=>by
    show (x+y)*z+dtz (adz xs ys) c=x*z+dtz xs c+(y*z+dtz ys c)
    rw [sM xs ys c,Int.add_mul,Int.add_assoc,Int.add_assoc,Int.add_left_comm (y*z)]
theorem sv (k:Int):∀ (xs c:List Int),dtz (smz k xs) c=k*dtz xs c
  | [],_=>(Int.mul_zero k).symm
  | _ :: _,[]=>(Int.mul_zero k).symm
  | x :: xs,z :: c=>by
    show k*x*z+dtz (smz k xs) c=k*(x*z+dtz xs c)
    rw [sv k xs c,Int.mul_add,Int.mul_assoc]
theorem rY:∀ (i:Nat) (c:List Int),dtz (unz i) c=c.getD i 0
  | 0,[]=>rfl
  | _+1,[]=>rfl
  | 0,x :: c=>by show 1*x+dtz [] c=x; rw [Int.one_mul]; exact Int.add_zero _
  | i+1,x :: c=>by show 0*x+dtz (unz i) c=_; rw [rY i c,Int.zero_mul,Int.zero_add]; rfl
abbrev P2:=List Int × List Int
noncomputable def adp (x y:P2):P2:=(adz x.1 y.1,adz x.2 y.2)
noncomputable def smp (k:Int) (x:P2):P2:=(smz k x.1,smz k x.2)
noncomputable def evw (c:List Nat) (d:List Int) (x:P2):Int:=dtz x.1 (1 :: c.map Int.ofNat)+dtz x.2 d
theorem jo (c:List Nat) (d:List Int) (x y:P2):evw c d (adp x y)=evw c d x+evw c d y:=by
  show dtz (adz x.1 y.1) _+dtz (adz x.2 y.2) d=dtz x.1 _+dtz x.2 d+(dtz y.1 _+dtz y.2 d)
  rw [sM,sM,Int.add_assoc,Int.add_assoc,Int.add_left_comm (dtz y.1 _)]
theorem fZ (c:List Nat) (d:List Int) (k:Int) (x:P2):evw c d (smp k x)=k*evw c d x:=by
  show dtz (smz k x.1) _+dtz (smz k x.2) d=k*(dtz x.1 _+dtz x.2 d)
  rw [sv,sv,Int.mul_add]
noncomputable def LX.nf:LX→P2
  | .v i=>(0 :: unz i,[])
  | .n k=>([(k:Int)],[])
  | .a x y=>adp x.nf y.nf
  | .m k x=>smp k x.nf
  | .r x k=>smp k x.nf
  | .s _ _=>([],[])
  | .g _=>([],[])
  | .c _=>([],[])
noncomputable def LX.ni:LX→P2
  | .v i=>([],unz i)
  | .n k=>([(k:Int)],[])
  | .a x y=>adp x.ni y.ni
  | .m k x=>smp k x.ni
  | .r x k=>smp k x.ni
  | .s x y=>adp x.ni (smp (-1) y.ni)
  | .g x=>smp (-1) x.ni
  | .c x=>x.nf
theorem q5:∀ (c:List Nat) (i:Nat),(c.map Int.ofNat).getD i 0=((c.getD i 0:Nat):Int)
  | [],_=>rfl
  | _ :: _,0=>rfl
  | _ :: c,i+1=>q5 c i
theorem A5 (c:List Nat) (d:List Int) (k:Nat):evw c d ([(k:Int)],[])=(k:Int):=by
  show (k:Int)*1+0+0=k
  rw [Int.add_zero,Int.add_zero,Int.mul_one]
theorem eP (c:List Nat) (d:List Int):∀ e:LX,evw c d e.nf=(e.den c:Int)
  | .v i=>by
    show 0*1+dtz (unz i) (c.map Int.ofNat)+0=_
    rw [rY,q5,Int.zero_mul,Int.zero_add,Int.add_zero]; rfl
  | .n k=>A5 c d k
  | .a x y=>(jo c d _ _).trans (by rw [eP c d x,eP c d y]; exact (Int.natCast_add _ _).symm)
  | .m k x=>(fZ c d _ _).trans (by rw [eP c d x]; exact (Int.natCast_mul _ _).symm)
  | .r x k=>(fZ c d _ _).trans (by rw [eP c d x,Int.mul_comm]; exact (Int.natCast_mul _ _).symm)
  | .s _ _=>rfl
  | .g _=>rfl
  | .c _=>rfl
theorem dK (c:List Nat) (d:List Int):∀ e:LX,evw c d e.ni=e.di c d
  | .v i=>by show 0+dtz (unz i) d=_; rw [rY,Int.zero_add]; rfl
  | .n k=>A5 c d k
  | .a x y=>(jo c d _ _).trans (by rw [dK c d x,dK c d y]; rfl)
  | .m k x=>(fZ c d _ _).trans (by rw [dK c d x]; rfl)
  | .r x k=>(fZ c d _ _).trans (by rw [dK c d x,Int.mul_comm]; rfl)
  | .s x y=>(jo c d _ _).trans (by rw [fZ,dK c d x,dK c d y,Int.neg_mul,Int.one_mul]; rfl)
  | .g x=>(fZ c d _ _).trans (by rw [dK c d x,Int.neg_mul,Int.one_mul]; rfl)
  | .c x=>eP c d x
inductive QX where
  | le (x y:LX)
  | eq (x y:LX)
  | il (x y:LX)
  | ie (x y:LX)
  | an (p q:QX)
  | or (p q:QX)
  | no (p:QX)
  | ff
noncomputable def QX.den (c:List Nat) (d:List Int):QX→Prop
  | .le x y=>x.den c≤y.den c
  | .eq x y=>x.den c=y.den c
  | .il x y=>x.di c d≤y.di c d
  | .ie x y=>x.di c d=y.di c d
  | .an p q=>p.den c d∧q.den c d
  | .or p q=>p.den c d∨q.den c d
  | .no p=>¬ p.den c d
  | .ff=>False
noncomputable def ct (k:Int) (x y:P2):P2:=adp (adp y (smp (-1) x)) ([-k],[])
theorem mH (c:List Nat) (d:List Int) (k:Int) (x y:P2) (h:evw c d x+k≤evw c d y):0≤evw c d (ct k x y):=by
  have h1:evw c d (ct k x y)=evw c d y - (evw c d x+k):=by
    unfold ct
    rw [jo,jo,fZ,Int.neg_mul,Int.one_mul,show evw c d ([-k],[])=-k from (by show -k*1+0+0=-k; rw [Int.add_zero,Int.add_zero,Int.mul_one])]
    rw [Int.sub_eq_add_neg,Int.neg_add,Int.add_assoc]
  rw [h1]; exact Int.sub_nonneg_of_le h
noncomputable def zA (A B:List (List P2)):List (List P2):=A.flatMap fun a=>B.map (a++·)
noncomputable def leD (x y:P2):Bool→List (List P2)
  | true=>[[ct 0 x y]]
  | false=>[[ct 1 y x]]
noncomputable def eqD (x y:P2):Bool→List (List P2)
  | true=>[[ct 0 x y,ct 0 y x]]
  | false=>[[ct 1 x y],[ct 1 y x]]
noncomputable def QX.dnf:QX→Bool→List (List P2)
  | .le x y,b=>leD x.nf y.nf b
  | .eq x y,b=>eqD x.nf y.nf b
  | .il x y,b=>leD x.ni y.ni b
  | .ie x y,b=>eqD x.ni y.ni b
  | .an p q,true=>zA (p.dnf true) (q.dnf true)
  | .an p q,false=>p.dnf false++q.dnf false
  | .or p q,true=>p.dnf true++q.dnf true
  | .or p q,false=>zA (p.dnf false) (q.dnf false)
  | .no p,b=>p.dnf (!b)
  | .ff,true=>[]
  | .ff,false=>[[]]
noncomputable def Gd (c:List Nat) (d:List Int) (D:List (List P2)):Prop:=∃ cs,cs∈D∧∀ f,f∈cs→0≤evw c d f
theorem Gd.l {c:List Nat} {d:List Int} {A B:List (List P2)}:Gd c d A→Gd c d (A++B)
  | ⟨x,h,k⟩=>⟨x,List.mem_append_left _ h,k⟩
theorem Gd.r {c:List Nat} {d:List Int} {A B:List (List P2)}:Gd c d B→Gd c d (A++B)
  | ⟨x,h,k⟩=>⟨x,List.mem_append_right _ h,k⟩
theorem Gd.mul {c:List Nat} {d:List Int} {A B:List (List P2)}:Gd c d A→Gd c d B→Gd c d (zA A B)
  | ⟨x,h,k⟩,⟨y,h',k'⟩=>⟨x++y,List.mem_flatMap.mpr ⟨x,h,List.mem_map.mpr ⟨y,h',rfl⟩⟩,fun f hf=>(List.mem_append.mp hf).elim (k f) (k' f)⟩
theorem Gd.one {c:List Nat} {d:List Int} {f:P2} (h:0≤evw c d f):Gd c d [[f]] :=
  ⟨[f],List.mem_singleton.mpr rfl,fun g hg=>List.mem_singleton.mp hg ▸ h⟩
theorem leD_ok {c:List Nat} {d:List Int} {x y:P2}:(evw c d x≤evw c d y→Gd c d (leD x y true))∧(¬ evw c d x≤evw c d y→Gd c d (leD x y false)) :=
  ⟨fun h=>Gd.one (mH _ _ _ _ _ ((Int.add_zero _).symm ▸ h)),fun h=>Gd.one (mH _ _ _ _ _ (Int.not_le.mp h))⟩
theorem eqD_ok {c:List Nat} {d:List Int} {x y:P2}:(evw c d x=evw c d y→Gd c d (eqD x y true))∧(¬ evw c d x=evw c d y→Gd c d (eqD x y false)) :=
  ⟨fun h=>Gd.mul (Gd.one (mH _ _ _ _ _ (Int.le_of_eq ((Int.add_zero _).trans h)))) (Gd.one (mH _ _ _ _ _ (Int.le_of_eq ((Int.add_zero _).trans h.symm)))),
   fun h=>(Int.lt_or_lt_of_ne h).elim (fun h=>Gd.l (Gd.one (mH _ _ _ _ _ h)) (B:=[[ct 1 y x]])) (fun h=>Gd.r (Gd.one (mH _ _ _ _ _ h)) (A:=[[ct 1 x y]]))⟩
theorem dj (c:List Nat) (d:List Int):∀ p:QX,(p.den c d→Gd c d (p.dnf true))∧(¬ p.den c d→Gd c d (p.dnf false))
  | .le x y=>⟨fun h=>leD_ok.1 (by rw [eP,eP]; exact Int.ofNat_le.mpr h),fun h=>leD_ok.2 (by rw [eP,eP]; exact fun k=>h (Int.ofNat_le.mp k))⟩
  | .eq x y=>⟨fun h=>eqD_ok.1 (by rw [eP,eP]; exact congrArg Int.ofNat h),fun h=>eqD_ok.2 (by rw [eP,eP]; exact fun k=>h (Int.ofNat.inj k))⟩
  | .il x y=>⟨fun h=>leD_ok.1 (by rw [dK,dK]; exact h),fun h=>leD_ok.2 (by rw [dK,dK]; exact h)⟩
  | .ie x y=>⟨fun h=>eqD_ok.1 (by rw [dK,dK]; exact h),fun h=>eqD_ok.2 (by rw [dK,dK]; exact h)⟩
  | .an p q=>⟨fun h=>Gd.mul ((dj c d p).1 h.1) ((dj c d q).1 h.2),fun h=>(Classical.em (p.den c d)).elim (fun k=>Gd.r ((dj c d q).2 fun l=>h ⟨k,l⟩)) (fun k=>Gd.l ((dj c d p).2 k))⟩
  | .or p q=>⟨fun h=>h.elim (fun k=>Gd.l ((dj c d p).1 k)) (fun k=>Gd.r ((dj c d q).1 k)),fun h=>Gd.mul ((dj c d p).2 fun k=>h (.inl k)) ((dj c d q).2 fun k=>h (.inr k))⟩
  | .no p=>⟨(dj c d p).2,fun h=>(dj c d p).1 (Classical.not_not.mp h)⟩
  | .ff=>⟨False.elim,fun _=>⟨[],List.mem_singleton.mpr rfl,fun _ h=>nomatch h⟩⟩
noncomputable def cmb:List P2→List Nat→P2
  | f :: fs,k :: ks=>adp (smp k f) (cmb fs ks)
  | _,_=>([],[])
theorem yy {c:List Nat} {d:List Int}:∀ (fs:List P2) (ks:List Nat),(∀ f,f∈fs→0≤evw c d f)→0≤evw c d (cmb fs ks)
  | [],_,_=>Int.le_refl _
  | _ :: _,[],_=>Int.le_refl _
  | f :: fs,k :: ks,h=>by
    show 0≤evw c d (adp (smp k f) (cmb fs ks))
    rw [jo,fZ]
    exact Int.add_nonneg (Int.mul_nonneg (Int.natCast_nonneg k) (h f (List.mem_cons_self ..))) (yy fs ks fun g hg=>h g (List.mem_cons_of_mem _ hg))
noncomputable def npz (g:List Int):Bool:=g.all fun k=>decide (k≤0)
noncomputable def zrz (g:List Int):Bool:=g.all fun k=>decide (k=0)
noncomputable def ngz:P2→Bool
  | ([],_)=>false
  | (k :: r,s)=>decide (k+1≤0) && (npz r && zrz s)
theorem yx:∀ {g:List Int} {c:List Nat},npz g=true→dtz g (c.map Int.ofNat)≤0
  | [],_,_=>Int.le_refl _
  | _ :: _,[],_=>Int.le_refl _
  | k :: r,x :: c,h=>Int.add_nonpos (Int.mul_nonpos_of_nonpos_of_nonneg (of_decide_eq_true (Bool.and_eq_true_iff.mp h).1) (Int.natCast_nonneg x)) (yx (Bool.and_eq_true_iff.mp h).2)
theorem wY:∀ {g d:List Int},zrz g=true→dtz g d=0
  | [],_,_=>rfl
  | _ :: _,[],_=>rfl
  | k :: r,x :: c,h=>by
    show k*x+dtz r c=0
    rw [show k=0 from of_decide_eq_true (Bool.and_eq_true_iff.mp h).1,wY (Bool.and_eq_true_iff.mp h).2,Int.zero_mul]; rfl
theorem Co {c:List Nat} {d:List Int}:∀ {x:P2},ngz x=true→¬ 0≤evw c d x
  | ([],_),h=>nomatch h
  | (k :: r,s),h=>fun h0=>by
    have h1:=Bool.and_eq_true_iff.mp h
    have h2:=Bool.and_eq_true_iff.mp h1.2
    have h0:0≤k*1+dtz r (c.map Int.ofNat)+dtz s d:=h0
    rw [wY h2.2,Int.add_zero,Int.mul_one] at h0
    exact Int.not_le.mpr (Int.lt_of_lt_of_le (Int.lt_of_lt_of_le (Int.lt_succ k) (of_decide_eq_true h1.1)) (Int.le_refl 0)) (Int.le_trans h0 (Int.le_trans (Int.add_le_add_left (yx h2.1) k) (Int.le_of_eq (Int.add_zero k))))
noncomputable def chk (D:List (List P2)) (ks:List (List Nat)):Bool:=D.all fun cs=>ks.any fun k=>ngz (cmb cs k)
theorem BP {c:List Nat} {d:List Int} (D:List (List P2)) (ks:List (List Nat)) (h:chk D ks=true):¬ Gd c d D
  | ⟨x,hx,hs⟩=>(List.any_eq_true.mp (List.all_eq_true.mp h x hx)).elim fun k hk=>Co hk.2 (yy x k hs)
noncomputable def QX.all:List QX→List (List P2)→List (List P2)
  | [],D=>D
  | p :: r,D=>QX.all r (zA D (p.dnf true))
noncomputable def Hyp (c:List Nat) (d:List Int):List QX→Prop→Prop
  | [],P=>P
  | p :: r,P=>p.den c d→Hyp c d r P
theorem A7 {c:List Nat} {d:List Int} {P:Prop} {ks:List (List Nat)}:∀ (hs:List QX) (D:List (List P2)),chk (QX.all hs D) ks=true→(¬ P→Gd c d D)→Hyp c d hs P
  | [],_,h,hp=>Classical.byContradiction fun hn=>BP _ _ h (hp hn)
  | p :: r,_,h,hp=>fun h1=>A7 r _ h fun hn=>Gd.mul (hp hn) ((dj c d p).1 h1)
theorem om (c:List Nat) (d:List Int) (hs:List QX) (g:QX) (ks:List (List Nat)) (h:chk (QX.all hs (g.dnf false)) ks=true):Hyp c d hs (g.den c d) :=
  A7 hs _ h (dj c d g).2
theorem lin (c:List Nat) (hs:List (Nat × LX × LX)) (x y:LX) (h:chk (QX.all (hs.map fun p=>.le p.2.1 p.2.2) (leD x.nf y.nf false)) [1 :: hs.map fun p=>p.1]=true):Hyp c [] (hs.map fun p=>.le p.2.1 p.2.2) (x.den c≤y.den c) :=
  om c [] _ (.le x y) _ h
theorem aN (a b:Nat):(b≤a∧a=(a - b)+b)∨(a≤b∧a - b=0) :=
  (Nat.le_total b a).imp (fun h=>⟨h,(Nat.sub_add_cancel h).symm⟩) (fun h=>⟨h,Nat.sub_eq_zero_of_le h⟩)
theorem bT (z:Int):(0≤z∧(z.natAbs:Int)=z)∨(z≤0∧(z.natAbs:Int)=-z) :=
  (Int.le_total 0 z).imp (fun h=>⟨h,Int.natAbs_of_nonneg h⟩) (fun h=>⟨h,Int.ofNat_natAbs_of_nonpos h⟩)
theorem bo (z:Int):(0≤z∧(z.toNat:Int)=z)∨(z≤0∧z.toNat=0) :=
  (Int.le_total 0 z).imp (fun h=>⟨h,Int.toNat_of_nonneg h⟩) (fun h=>⟨h,Int.toNat_of_nonpos h⟩)
theorem tj (a b:Nat):(a≤b∧min a b=a)∨(b≤a∧min a b=b) :=
  (Nat.le_total a b).imp (fun h=>⟨h,Nat.min_eq_left h⟩) (fun h=>⟨h,Nat.min_eq_right h⟩)
theorem jf (a b:Nat):(b≤a∧max a b=a)∨(a≤b∧max a b=b) :=
  (Nat.le_total b a).imp (fun h=>⟨h,Nat.max_eq_left h⟩) (fun h=>⟨h,Nat.max_eq_right h⟩)
theorem sO {α:Type} (p:Prop) [Decidable p] (a b:α):(p∧(if p then a else b)=a)∨(¬ p∧(if p then a else b)=b) :=
  (Decidable.em p).imp (fun h=>⟨h,if_pos h⟩) (fun h=>⟨h,if_neg h⟩)
theorem dG (a b:Nat):a≤(a - b)+b∧a - b≤a:=⟨Nat.sub_le_iff_le_add.mp (Nat.le_refl _),Nat.sub_le a b⟩
theorem Cc (a b:Nat):min a b≤a∧min a b≤b:=⟨Nat.min_le_left a b,Nat.min_le_right a b⟩
theorem c5 (z:Int):z≤(z.natAbs:Int)∧-z≤(z.natAbs:Int):=⟨Int.le_natAbs,Int.natAbs_neg z ▸ Int.le_natAbs⟩
end Mine
set_option genSizeOf false
set_option genInjectivity false
namespace Mine
open PySem
inductive V where
  | int (i:Int)
  | bool (b:Bool)
  | none
  | str (s:Str)
  | tup (xs:List V)
  | lst (n:Nat)
  | fn (k:Nat)
  | exc (k:Nat)
abbrev Hp:=List (List V)
abbrev Loc:=List (Option V)
inductive BOp where
  | add | sub | mul | fdiv | mod | pow
inductive COp where
  | lt | le | gt | ge | eq | ne | isin | notin | is
inductive Bi where
  | abs | len | int | list | tuple | min | listrev
inductive Ty where
  | int | bool | tuple | list | cls (k:Nat)
mutual
inductive PE where
  | cint (i:Int)
  | cbool (b:Bool)
  | var (i:Nat)
  | fnv (k:Nat)
  | glob (x:Str) (a b:Int)
  | bin (op:BOp) (a b:PE)
  | neg (a:PE)
  | nt (a:PE)
  | cmp (op:COp) (a b:PE)
  | and (es:PEs)
  | or (es:PEs)
  | call (f:Nat) (es:PEs)
  | callv (i f:Nat) (es:PEs)
  | bi (b:Bi) (es:PEs)
  | isi (a:PE) (ts:List Ty)
  | idx (a b:PE)
  | slc (a:PE) (lo hi:PO)
  | tup (es:PEs)
  | lst (es:PEs)
  | comp (elt:PE) (tg:Nat) (caps:List Nat) (it:PI) (cond:PO)
inductive PEs where
  | nil
  | cons (e:PE) (r:PEs)
inductive PO where
  | no
  | some (e:PE)
inductive PI where
  | seq (e:PE)
  | rev (e:PE)
  | rng (es:PEs)
end
inductive PS where
  | skip
  | seq (a b:PS)
  | assign (i:Nat) (e:PE)
  | unpack (xs:List Nat) (e:PE)
  | setidx (i:Nat) (k e:PE)
  | app (i:Nat) (e:PE)
  | pop (i:Nat)
  | rev (i:Nat)
  | ret (e:PE)
  | ite (c:PE) (a b:PS)
  | whl (c:PE) (b:PS)
  | forr (i:Nat) (it:PI) (b:PS)
  | raise (k:Nat)
  | opaq
noncomputable def af:Loc→Nat→Option V
  | [],_=>none
  | x :: _,0=>x
  | _ :: r,n+1=>af r n
noncomputable def au:Loc→Nat→V→Loc
  | [],_,_=>[]
  | _ :: r,0,v=>some v :: r
  | x :: r,n+1,v=>x :: au r n v
noncomputable def kz:Loc→List Nat→List V→Loc
  | ρ,i :: is,v :: vs=>kz (au ρ i v) is vs
  | ρ,_,_=>ρ
noncomputable def items (H:Hp):V→Option (List V)
  | .tup xs=>some xs
  | .lst n=>H[n]?
  | _=>none
noncomputable def bn (H:Hp):V→Option Bool
  | .bool b=>some b
  | .int i=>some (i != 0)
  | .none=>some false
  | .tup xs=>some (!xs.isEmpty)
  | .lst n=>(H[n]?).map fun xs=>!xs.isEmpty
  | _=>none
noncomputable def cv (n:Nat) (k:Int):Option Nat :=
  if 0≤k then (if k < n then some k.toNat else none) else (if 0≤k+n then some (k+n).toNat else none)
noncomputable def bX (n:Nat) (k:Int):Nat :=
  (max 0 (min (if k < 0 then k+n else k) n)).toNat
noncomputable def cut (xs:List V) (lo hi:Nat):List V:=(xs.take hi).drop lo
end Mine
namespace Mine
open PySem
abbrev Call:=Nat→List V→Hp→(V→Hp→Prop)→(Nat→Hp→Prop)→Prop
noncomputable def lim:Nat:=1000000
noncomputable def ifSome {β:Type} (o:Option β) (P:β→Prop):Prop:=match o with
  | some v=>P v
  | none=>False
theorem ac {β:Type} {v:β} {P:β→Prop}:ifSome (some v) P=P v:=rfl
theorem ifSome.get {β:Type} {o:Option β} {P:β→Prop} (q:ifSome o P):∃ v,o=some v∧P v:=by
  cases o with
  | none=>exact False.elim q
  | some v=>exact ⟨v,rfl,q⟩
theorem ifSome.mk {β:Type} {o:Option β} {P:β→Prop} {v:β} (e:o=some v) (q:P v):ifSome o P:=by rw [e]; exact q
noncomputable def ifLst (o:Option V) (P:Nat→Prop):Prop:=match o with
  | some (.lst n)=>P n
  | _=>False
theorem cl {n:Nat} {P:Nat→Prop}:ifLst (some (.lst n)) P=P n:=rfl
theorem ifLst.get {o:Option V} {P:Nat→Prop} (q:ifLst o P):∃ n,o=some (.lst n)∧P n:=by
  cases o with
  | none=>exact False.elim q
  | some v=>cases v <;> first | exact False.elim q | exact ⟨_,rfl,q⟩
noncomputable def ifTup (v:V) (P:List V→Prop):Prop:=match v with
  | .tup xs=>P xs
  | _=>False
theorem jn {xs:List V} {P:List V→Prop}:ifTup (.tup xs) P=P xs:=rfl
theorem ifTup.get {v:V} {P:List V→Prop} (q:ifTup v P):∃ xs,v=.tup xs∧P xs:=by
  cases v <;> first | exact False.elim q | exact ⟨_,rfl,q⟩
noncomputable def ifInt (v:V) (P:Int→Prop):Prop:=match v with
  | .int i=>P i
  | _=>False
theorem iX {i:Int} {P:Int→Prop}:ifInt (.int i) P=P i:=rfl
theorem ifInt.get {v:V} {P:Int→Prop} (q:ifInt v P):∃ i,v=.int i∧P i:=by
  cases v <;> first | exact False.elim q | exact ⟨_,rfl,q⟩
noncomputable def gw (b:Int):Prop:=b≠0
noncomputable def gG (op:BOp) (x y:V) (H:Hp) (Q:V→Hp→Prop):Prop :=
  match op,x,y with
  | .add,.int a,.int b=>Q (.int (a+b)) H
  | .add,.lst m,.lst n=>ifSome H[m]? fun xs=>ifSome H[n]? fun ys=>xs.length+ys.length≤lim∧Q (.lst H.length) (H++[xs++ys])
  | .sub,.int a,.int b=>Q (.int (a - b)) H
  | .mul,.int a,.int b=>IntMulOk a b∧Q (.int (a*b)) H
  | .mul,.lst m,.int k=>∃ x,H[m]?=some [x]∧0≤k∧k≤lim∧Q (.lst H.length) (H++[List.replicate k.toNat x])
  | .fdiv,.int a,.int b=>gw b∧Q (.int (a.fdiv b)) H
  | .mod,.int a,.int b=>b≠0∧Q (.int (a.fmod b)) H
  | .pow,.int a,.int b=>0≤b∧b≤1000∧a.natAbs < 2 ^ 64∧Q (.int (a ^ b.toNat)) H
  | _,_,_=>False
noncomputable def uX (H:Hp) (x:V) (d:PyData):Prop :=
  (∃ cs:List Int,x=.tup (cs.map .int)∧d=.tuple (cs.map .int))∨(∃ k,∃ cs:List Int,x=.lst k∧H[k]?=some (cs.map .int)∧d=.list (cs.map .int))
noncomputable def oO (x y:V) (H:Hp) (Q:Bool→Prop):Prop :=
  ∃ da db,uX H x da∧uX H y db∧Q (PyData.eqv da db)
noncomputable def eI (op:COp) (x y:V) (H:Hp) (Q:V→Hp→Prop):Prop :=
  match op,x,y with
  | .lt,.int a,.int b=>Q (.bool (decide (a < b))) H
  | .le,.int a,.int b=>Q (.bool (decide (a≤b))) H
  | .gt,.int a,.int b=>Q (.bool (decide (b < a))) H
  | .ge,.int a,.int b=>Q (.bool (decide (b≤a))) H
  | .eq,.int a,.int b=>Q (.bool (decide (a=b))) H
  | .ne,.int a,.int b=>Q (.bool (!decide (a=b))) H
  | .eq,x,y=>oO x y H fun b=>Q (.bool b) H
  | .ne,x,y=>oO x y H fun b=>Q (.bool (!b)) H
  | .is,x,.none=>Q (.bool (match x with | .none=>true | _=>false)) H
  | _,_,_=>False
noncomputable def kZ (b:Bi) (vs:List V) (H:Hp) (Q:V→Hp→Prop):Prop :=
  match b,vs with
  | .abs,[.int a]=>Q (.int (if a < 0 then -a else a)) H
  | .len,[x]=>ifSome (items H x) fun xs=>Q (.int xs.length) H
  | .int,[.bool b]=>Q (.int (if b then 1 else 0)) H
  | .list,[x]=>ifSome (items H x) fun xs=>Q (.lst H.length) (H++[xs])
  | .tuple,[x]=>ifSome (items H x) fun xs=>Q (.tup xs) H
  | .listrev,[x]=>∃ xs,items H x=some xs∧Q (.lst H.length) (H++[xs.reverse])
  | .min,[.int a,.int b]=>Q (.int (if b < a then b else a)) H
  | _,_=>False
noncomputable def Aj (sub:Nat→Nat→Bool) (v:V) (t:Ty):Option Bool :=
  match v,t with
  | .exc c,.cls k=>some (sub c k)
  | .exc _,_=>none
  | .fn _,_=>none
  | _,.cls _=>none
  | .int _,.int=>some true
  | .bool _,.int=>some true
  | .bool _,.bool=>some true
  | .tup _,.tuple=>some true
  | .lst _,.list=>some true
  | _,_=>some false
noncomputable def cU (x y:V) (H:Hp) (Q:V→Hp→Prop):Prop :=
  match y with
  | .int k=>ifSome (items H x) fun xs=>ifSome (cv xs.length k) fun i=>ifSome xs[i]? fun v=>Q v H
  | _=>False
noncomputable def ny (n:Nat) (lo hi:Option V):Option (Nat × Nat) :=
  match lo,hi with
  | some (.int a),some (.int b)=>some (bX n a,bX n b)
  | none,some (.int b)=>some (0,bX n b)
  | some (.int a),none=>some (bX n a,n)
  | none,none=>some (0,n)
  | _,_=>none
noncomputable def gA (x:V) (lo hi:Option V) (H:Hp) (Q:V→Hp→Prop):Prop :=
  match x with
  | .lst n=>ifSome H[n]? fun xs=>ifSome (ny xs.length lo hi) fun p=>Q (.lst H.length) (H++[cut xs p.1 p.2])
  | _=>False
noncomputable def dF (a b c:Int):List Int:=(List.range (Builtin.Range.rangeSize a b c).toNat).map fun (i:Nat)=>a+c*(i:Int)
noncomputable def cZ (a:Int):Prop:=-(2 ^ 40) < a∧a < 2 ^ 40
noncomputable def AK:List V→Option (Int × Int × Int)
  | [.int b]=>some (0,b,1)
  | [.int a,.int b]=>some (a,b,1)
  | [.int a,.int b,.int c]=>some (a,b,c)
  | _=>none
noncomputable def qQ (vs:List V) (H:Hp) (Q:List V→Option Nat→Hp→Prop):Prop :=
  ∃ a b c,AK vs=some (a,b,c)∧cZ a∧cZ b∧(c=1∨c=-1∨c=2)∧Q ((dF a b c).map V.int) none H
noncomputable def jx:V→Option Nat
  | .lst n=>some n
  | _=>none
noncomputable def cK (step:V→Hp→(Option V→Hp→Prop)→Prop):List V→Hp→(List V→Hp→Prop)→Prop
  | [],H,Q=>Q [] H
  | x :: xs,H,Q=>step x H fun o H1=>cK step xs H1 fun ys H2=>Q (match o with | some y=>y :: ys | none=>ys) H2
noncomputable def nj (tg:Nat) (x:V):Option Loc :=
  match tg,x with
  | 1,x=>some [some x]
  | 2,.tup [a,b]=>some [some a,some b]
  | _,_=>none
section
variable (sub:Nat→Nat→Bool) (Φ:Call)
mutual
noncomputable def wpE:PE→Loc→Hp→(V→Hp→Prop)→Prop
  | .cint i,_,H,Q=>Q (.int i) H
  | .cbool b,_,H,Q=>Q (.bool b) H
  | .var i,ρ,H,Q=>ifSome (af ρ i) fun v=>Q v H
  | .fnv k,_,H,Q=>Q (.fn k) H
  | .glob _ a b,_,H,Q=>Q (.tup [.int a,.int b]) H
  | .bin op a b,ρ,H,Q=>wpE a ρ H fun x H1=>wpE b ρ H1 fun y H2=>gG op x y H2 Q
  | .neg a,ρ,H,Q=>wpE a ρ H fun x H1=>match x with | .int i=>Q (.int (-i)) H1 | _=>False
  | .nt a,ρ,H,Q=>wpE a ρ H fun x H1=>ifSome (bn H1 x) fun t=>Q (.bool (!t)) H1
  | .cmp op a b,ρ,H,Q=>wpE a ρ H fun x H1=>wpE b ρ H1 fun y H2=>eI op x y H2 Q
  | .and es,ρ,H,Q=>bV true es ρ H Q
  | .or es,ρ,H,Q=>bV false es ρ H Q
  | .call f es,ρ,H,Q=>eA es ρ H fun vs H1=>Φ f vs H1 Q fun _ _=>False
  | .callv i f es,ρ,H,Q=>ifSome (af ρ i) fun v=>v=.fn f∧eA es ρ H fun vs H1=>Φ f vs H1 Q fun _ _=>False
  | .bi b es,ρ,H,Q=>eA es ρ H fun vs H1=>kZ b vs H1 Q
  | .isi a ts,ρ,H,Q=>wpE a ρ H fun x H1=>ifSome (ts.mapM (Aj sub x)) fun bs=>Q (.bool (bs.any id)) H1
  | .idx a b,ρ,H,Q=>wpE a ρ H fun x H1=>wpE b ρ H1 fun y H2=>cU x y H2 Q
  | .slc a lo hi,ρ,H,Q=>wpE a ρ H fun x H1=>wpO lo ρ H1 fun l H2=>wpO hi ρ H2 fun h H3=>gA x l h H3 Q
  | .tup es,ρ,H,Q=>eA es ρ H fun vs H1=>Q (.tup vs) H1
  | .lst es,ρ,H,Q=>eA es ρ H fun vs H1=>Q (.lst H1.length) (H1++[vs])
  | .comp elt tg caps it cond,ρ,H,Q=>wpI it ρ H fun xs _ H1=>xs.length≤lim∧cK (fun x H2 k=>ifSome (nj tg x) fun ρt =>
      wpO cond (ρt++caps.map (af ρ)) H2 fun c H3=>ifSome (match c with | some c=>bn H3 c | none=>some true) fun t =>
        if t then wpE elt (ρt++caps.map (af ρ)) H3 fun y H4=>k (some y) H4 else k none H3) xs H1 fun ys H5=>Q (.lst H5.length) (H5++[ys])
noncomputable def eA:PEs→Loc→Hp→(List V→Hp→Prop)→Prop
  | .nil,_,H,Q=>Q [] H
  | .cons e r,ρ,H,Q=>wpE e ρ H fun v H1=>eA r ρ H1 fun vs H2=>Q (v :: vs) H2
noncomputable def bV (b:Bool):PEs→Loc→Hp→(V→Hp→Prop)→Prop
  | .nil,_,_,_=>False
  | .cons e .nil,ρ,H,Q=>wpE e ρ H Q
  | .cons e r,ρ,H,Q=>wpE e ρ H fun v H1=>ifSome (bn H1 v) fun t=>if t=b then bV b r ρ H1 Q else Q v H1
noncomputable def wpO:PO→Loc→Hp→(Option V→Hp→Prop)→Prop
  | .no,_,H,Q=>Q none H
  | .some e,ρ,H,Q=>wpE e ρ H fun v H1=>Q (some v) H1
noncomputable def wpI:PI→Loc→Hp→(List V→Option Nat→Hp→Prop)→Prop
  | .seq e,ρ,H,Q=>wpE e ρ H fun v H1=>ifSome (items H1 v) fun xs=>Q xs (jx v) H1
  | .rev e,ρ,H,Q=>wpE e ρ H fun v H1=>ifSome (items H1 v) fun xs=>Q xs.reverse (jx v) H1
  | .rng es,ρ,H,Q=>eA es ρ H fun vs H1=>qQ vs H1 Q
end
noncomputable def bx (body:Loc→Hp→(Loc→Hp→Prop)→Prop) (i:Nat):List V→Loc→Hp→(Loc→Hp→Prop)→Prop
  | [],ρ,H,N=>N ρ H
  | x :: xs,ρ,H,N=>body (au ρ i x) H fun ρ' H'=>bx body i xs ρ' H' N
noncomputable def oh (W:Nat→Prop) (ρ:Loc) (H:Hp) (i:Nat) (Q:Nat→List V→Prop):Prop :=
  ifLst (af ρ i) fun n=>W n∧ifSome H[n]? fun xs=>Q n xs
noncomputable def wpS:(Nat→Prop)→PS→Loc→Hp→(Loc→Hp→Prop)→(V→Hp→Prop)→(Nat→Hp→Prop)→Prop
  | _,.skip,ρ,H,N,_,_=>N ρ H
  | W,.seq a b,ρ,H,N,R,X=>wpS W a ρ H (fun ρ1 H1=>wpS W b ρ1 H1 N R X) R X
  | _,.assign i e,ρ,H,N,_,_=>wpE sub Φ e ρ H fun v H1=>N (au ρ i v) H1
  | _,.unpack is e,ρ,H,N,_,_=>wpE sub Φ e ρ H fun v H1=>ifTup v fun vs=>vs.length=is.length∧N (kz ρ is vs) H1
  | W,.setidx i k e,ρ,H,N,_,_=>wpE sub Φ e ρ H fun v H1=>ifLst (af ρ i) fun n=>W n∧wpE sub Φ k ρ H1 fun kv H2=>ifInt kv fun j=>ifSome H2[n]? fun xs =>
      ifSome (cv xs.length j) fun p=>N ρ (H2.set n (xs.set p v))
  | W,.app i e,ρ,H,N,_,_=>ifLst (af ρ i) fun n=>W n∧wpE sub Φ e ρ H fun v H1=>ifSome H1[n]? fun xs=>xs.length < lim∧N ρ (H1.set n (xs++[v]))
  | W,.pop i,ρ,H,N,_,_=>oh W ρ H i fun n xs=>∃ ys k,xs=ys++[.int k]∧N ρ (H.set n ys)
  | W,.rev i,ρ,H,N,_,_=>oh W ρ H i fun n xs=>N ρ (H.set n xs.reverse)
  | _,.ret e,ρ,H,_,R,_=>wpE sub Φ e ρ H R
  | W,.ite c a b,ρ,H,N,R,X=>wpE sub Φ c ρ H fun v H1=>ifSome (bn H1 v) fun t=>if t then wpS W a ρ H1 N R X else wpS W b ρ H1 N R X
  | W,.whl c b,ρ,H,N,R,_=>∃ (I:Loc→Hp→Prop) (μ:Loc→Hp→Nat),I ρ H∧∀ ρ1 H1,I ρ1 H1→wpE sub Φ c ρ1 H1 fun v H2=>ifSome (bn H2 v) fun t =>
      if t then wpS W b ρ1 H2 (fun ρ3 H3=>I ρ3 H3∧μ ρ3 H3 < μ ρ1 H1) R (fun _ _=>False) else N ρ1 H2
  | W,.forr i it b,ρ,H,N,R,_=>wpI sub Φ it ρ H fun xs src H1=>bx (fun ρ2 H2 k=>wpS (fun m=>W m∧some m≠src) b ρ2 H2 k R fun _ _=>False) i xs ρ H1 N
  | _,.raise k,_,H,_,_,X=>X k H
  | _,.opaq,_,_,_,_,_=>False
end
section
set_option autoImplicit true
set_option relaxedAutoImplicit true
variable {sub:Nat→Nat→Bool} {Φ:Call}
theorem qE1:wpE sub Φ (.cint i) z1 H Q=(Q (.int i) H):=rfl
theorem qE2:wpE sub Φ (.cbool b) z1 H Q=(Q (.bool b) H):=rfl
theorem qE5:wpE sub Φ (.var i) ρ H Q=(ifSome (af ρ i) fun v=>Q v H):=rfl
theorem qE6:wpE sub Φ (.fnv k) z1 H Q=(Q (.fn k) H):=rfl
theorem qE7:wpE sub Φ (.glob y1 a b) z1 H Q=(Q (.tup [.int a,.int b]) H):=rfl
theorem qE8:wpE sub Φ (.bin op a b) ρ H Q=(wpE sub Φ a ρ H fun x H1=>wpE sub Φ b ρ H1 fun y H2=>gG op x y H2 Q):=rfl
theorem qE9:wpE sub Φ (.neg a) ρ H Q=(wpE sub Φ a ρ H fun x H1=>match x with | .int i=>Q (.int (-i)) H1 | _=>False):=rfl
theorem fy:wpE sub Φ (.nt a) ρ H Q=(wpE sub Φ a ρ H fun x H1=>ifSome (bn H1 x) fun t=>Q (.bool (!t)) H1):=rfl
theorem bh:wpE sub Φ (.cmp op a b) ρ H Q=(wpE sub Φ a ρ H fun x H1=>wpE sub Φ b ρ H1 fun y H2=>eI op x y H2 Q):=rfl
theorem fz:wpE sub Φ (.and es) ρ H Q=(bV sub Φ true es ρ H Q):=rfl
theorem fB:wpE sub Φ (.or es) ρ H Q=(bV sub Φ false es ρ H Q):=rfl
theorem aO:wpE sub Φ (.call f es) ρ H Q=(eA sub Φ es ρ H fun vs H1=>Φ f vs H1 Q fun _ _=>False):=rfl
theorem iw:wpE sub Φ (.callv i f es) ρ H Q=(ifSome (af ρ i) fun v=>v=.fn f∧eA sub Φ es ρ H fun vs H1=>Φ f vs H1 Q fun _ _=>False):=rfl
theorem br:wpE sub Φ (.bi b es) ρ H Q=(eA sub Φ es ρ H fun vs H1=>kZ b vs H1 Q):=rfl
theorem g7:wpE sub Φ (.isi a ts) ρ H Q=(wpE sub Φ a ρ H fun x H1=>ifSome (ts.mapM (Aj sub x)) fun bs=>Q (.bool (bs.any id)) H1):=rfl
theorem aY:wpE sub Φ (.idx a b) ρ H Q=(wpE sub Φ a ρ H fun x H1=>wpE sub Φ b ρ H1 fun y H2=>cU x y H2 Q):=rfl
theorem hX:wpE sub Φ (.slc a lo hi) ρ H Q=(wpE sub Φ a ρ H fun x H1=>wpO sub Φ lo ρ H1 fun l H2=>wpO sub Φ hi ρ H2 fun h H3=>gA x l h H3 Q):=rfl
theorem cJ:wpE sub Φ (.tup es) ρ H Q=(eA sub Φ es ρ H fun vs H1=>Q (.tup vs) H1):=rfl
theorem cY:wpE sub Φ (.lst es) ρ H Q=(eA sub Φ es ρ H fun vs H1=>Q (.lst H1.length) (H1++[vs])):=rfl
theorem dH:wpE sub Φ (.comp elt tg caps it cnd) ρ H Q=(wpI sub Φ it ρ H fun xs _ H1=>xs.length≤lim∧cK (fun x H2 k=>ifSome (nj tg x) fun ρt=>wpO sub Φ cnd (ρt++caps.map (af ρ)) H2 fun c H3=>ifSome (match c with | some c=>bn H3 c | none=>some true) fun t=>if t then wpE sub Φ elt (ρt++caps.map (af ρ)) H3 fun y H4=>k (some y) H4 else k none H3) xs H1 fun ys H5=>Q (.lst H5.length) (H5++[ys])):=rfl
theorem aC:eA sub Φ (.nil) z1 H Q=(Q [] H):=rfl
theorem aD:eA sub Φ (.cons e r) ρ H Q=(wpE sub Φ e ρ H fun v H1=>eA sub Φ r ρ H1 fun vs H2=>Q (v :: vs) H2):=rfl
theorem qO1:wpO sub Φ (.no) z1 H Q=(Q none H):=rfl
theorem qO2:wpO sub Φ (.some e) ρ H Q=(wpE sub Φ e ρ H fun v H1=>Q (some v) H1):=rfl
theorem qI1:wpI sub Φ (.seq e) ρ H Q=(wpE sub Φ e ρ H fun v H1=>ifSome (items H1 v) fun xs=>Q xs (jx v) H1):=rfl
theorem qI2:wpI sub Φ (.rev e) ρ H Q=(wpE sub Φ e ρ H fun v H1=>ifSome (items H1 v) fun xs=>Q xs.reverse (jx v) H1):=rfl
theorem qI3:wpI sub Φ (.rng es) ρ H Q=(eA sub Φ es ρ H fun vs H1=>qQ vs H1 Q):=rfl
theorem qS1:wpS sub Φ z0 (.skip) ρ H N z5 z6=(N ρ H):=rfl
theorem qS2:wpS sub Φ W (.seq a b) ρ H N R X=(wpS sub Φ W a ρ H (fun ρ1 H1=>wpS sub Φ W b ρ1 H1 N R X) R X):=rfl
theorem qS3:wpS sub Φ z0 (.assign i e) ρ H N z5 z6=(wpE sub Φ e ρ H fun v H1=>N (au ρ i v) H1):=rfl
theorem qS4:wpS sub Φ z0 (.unpack is e) ρ H N z5 z6=(wpE sub Φ e ρ H fun v H1=>ifTup v fun vs=>vs.length=is.length∧N (kz ρ is vs) H1):=rfl
theorem qS5:wpS sub Φ W (.setidx i k e) ρ H N z5 z6=(wpE sub Φ e ρ H fun v H1=>ifLst (af ρ i) fun n=>W n∧wpE sub Φ k ρ H1 fun kv H2=>ifInt kv fun j=>ifSome H2[n]? fun xs=>ifSome (cv xs.length j) fun p=>N ρ (H2.set n (xs.set p v))):=rfl
theorem qS6:wpS sub Φ W (.app i e) ρ H N z5 z6=(ifLst (af ρ i) fun n=>W n∧wpE sub Φ e ρ H fun v H1=>ifSome H1[n]? fun xs=>xs.length < lim∧N ρ (H1.set n (xs++[v]))):=rfl
theorem qS7:wpS sub Φ W (.pop i) ρ H N z5 z6=(oh W ρ H i fun n xs=>∃ ys k,xs=ys++[.int k]∧N ρ (H.set n ys)):=rfl
theorem qS8:wpS sub Φ W (.rev i) ρ H N z5 z6=(oh W ρ H i fun n xs=>N ρ (H.set n xs.reverse)):=rfl
theorem qS9:wpS sub Φ z0 (.ret e) ρ H z4 R z6=(wpE sub Φ e ρ H R):=rfl
theorem bj:wpS sub Φ W (.ite c a b) ρ H N R X=(wpE sub Φ c ρ H fun v H1=>ifSome (bn H1 v) fun t=>if t then wpS sub Φ W a ρ H1 N R X else wpS sub Φ W b ρ H1 N R X):=rfl
theorem dy:wpS sub Φ W (.whl c b) ρ H N R z6=(∃ (I:Loc→Hp→Prop) (μ:Loc→Hp→Nat),I ρ H∧∀ ρ1 H1,I ρ1 H1→wpE sub Φ c ρ1 H1 fun v H2=>ifSome (bn H2 v) fun t=>if t then wpS sub Φ W b ρ1 H2 (fun ρ3 H3=>I ρ3 H3∧μ ρ3 H3 < μ ρ1 H1) R (fun _ _=>False) else N ρ1 H2):=rfl
theorem b5:wpS sub Φ W (.forr i it b) ρ H N R z6=(wpI sub Φ it ρ H fun xs src H1=>bx (fun ρ2 H2 k=>wpS sub Φ (fun m=>W m∧some m≠src) b ρ2 H2 k R fun _ _=>False) i xs ρ H1 N):=rfl
theorem fA:wpS sub Φ z0 (.raise k) z2 H z4 z5 X=(X k H):=rfl
theorem gH:wpS sub Φ z0 (.opaq) z2 z3 z4 z5 z6=(False):=rfl
end
structure Fn where
  np:Nat
  nv:Nat
  body:PS
noncomputable def dO (np nv:Nat) (vs:List V):Loc:=vs.map some++List.replicate (nv - np) none
noncomputable def aj (sub:Nat→Nat→Bool) (P:List Fn):Nat→Call
  | 0=>fun _ _ _ _ _=>False
  | n+1=>fun f vs H Q X=>∃ d,P[f]?=some d∧vs.length=d.np∧wpS sub (aj sub P n) (fun m=>H.length≤m) d.body (dO d.np d.nv vs) H (fun _ H'=>Q .none H') Q X
end Mine
namespace Mine
open PySem
structure GC where
  fns:List Str
  cls:List Str
  globs:List (Str × Int × Int)
structure MC where
  g:GC
  scope:Scope
  names:List Str
noncomputable def MC.isGlob (c : MC) (x : Str) : Bool := decide (c.scope.names.lookup x = some NameKind.globalImplicit) && !(x == Str.ofString "__debug__")
noncomputable def MC.isVar (c : MC) (i : Nat) (x : Str) : Bool := decide (c.names[i]? = some x) && !(x == Str.ofString "__debug__") && !(x == Str.ofString "__classdict__") &&
  (decide (c.scope.names.lookup x=some NameKind.local) || decide (c.scope.names.lookup x=some NameKind.cell) || decide (c.scope.names.lookup x=some NameKind.free))
noncomputable def MC.isNm (c:MC) (e:Expr) (x:Str):Bool:=match e with
  | .Name y _=>y == x && c.isGlob y
  | _=>false
noncomputable def zb:BOp→Operator
  | .add=>.Add | .sub=>.Sub | .mul=>.Mult | .fdiv=>.FloorDiv | .mod=>.Mod | .pow=>.Pow
noncomputable def gy:COp→CmpOp
  | .lt=>.Lt | .le=>.LtE | .gt=>.Gt | .ge=>.GtE | .eq=>.Eq | .ne=>.NotEq | .isin=>.In | .notin=>.NotIn | .is=>.Is
noncomputable def oX:Bi→Str
  | .abs => "abs" | .len => "len" | .int => "int" | .list => "list" | .tuple => "tuple" | .min => "min" | .listrev => "list"
noncomputable def Bi.isRev:Bi→Bool
  | .listrev=>true
  | _=>false
noncomputable def Ty.isCls:Ty→Bool
  | .cls _=>true
  | _=>false
noncomputable def fR (e:Expr):Bool:=match e with | .ListComp .. | .SetComp .. | .DictComp ..=>false | _=>true
noncomputable def cf (e:Expr):Bool:=match e with | .Starred ..=>false | _=>true
noncomputable def MC.isTyp (c:MC) (t:Ty) (e:Expr):Bool:=match t with
  | .int => c.isNm e "int"
  | .bool => c.isNm e "bool"
  | .tuple => c.isNm e "tuple"
  | .list => c.isNm e "list"
  | .cls k=>match c.g.cls[k]? with | some x=>c.isNm e x | none=>false
noncomputable def MC.areTyps (c:MC):List Ty→List Expr→Bool
  | [],[]=>true
  | t :: ts,e :: es=>c.isTyp t e && c.areTyps ts es
  | _,_=>false
noncomputable def cR (sc:Scope) (ts cs:List Str):Bool :=
  decide (sc.kind=ScopeKind.function) && sc.names.all (fun p=>match p.2 with
    | .local => (p.1 == Str.ofString ".0" || ts.contains p.1) && decide (sc.names.lookup p.1 = some NameKind.local)
    | .free=>cs.contains p.1
    | .globalImplicit=>true
    | _=>false) && ts.all (fun n=>decide (sc.names.lookup n=some NameKind.local)) && cs.all (fun n=>decide (sc.names.lookup n=some NameKind.free))
noncomputable def de (c:MC) (caps:List Nat):Option (List Str):=caps.mapM fun i=>c.names[i]?
noncomputable def MC.varNm (c:MC) (i:Nat) (e:Expr):Bool:=match e with
  | .Name x _=>c.isVar i x
  | _=>false
noncomputable def MC.fnNm (c:MC) (k:Nat) (e:Expr):Bool:=match c.g.fns[k]? with
  | some x=>c.isNm e x
  | none=>false
noncomputable def MC.clsNm (c:MC) (k:Nat) (e:Expr):Bool:=match c.g.cls[k]? with
  | some x=>c.isNm e x
  | none=>false
noncomputable def iC (e:Expr):Option Str:=match e with
  | .Name x _=>some x
  | _=>none
noncomputable def bY {α:Type} (l:List α):Option α:=match l with
  | [x]=>some x
  | _=>none
noncomputable def MC.isiOk (c:MC) (ts:List Ty) (e:Expr):Bool:=match e with
  | .Tuple es _ _=>decide (2≤ts.length) && ts.all Ty.isCls && c.areTyps ts es
  | e=>c.areTyps ts [e]
noncomputable def yc (e:Expr):Bool:=match e with | .Slice ..=>false | _=>true
noncomputable def zq (e:Expr):Bool:=match e with | .Set ..=>false | _=>true
mutual
noncomputable def av (c:MC):PE→Expr→Bool
  | .cint i,e=>match e with | .Constant k _ _=>(match k with | .int j=>decide (i=j) | _=>false) | _=>false
  | .cbool b,e=>match e with | .Constant k _ _=>(match k with | .bool d=>decide (b=d) | _=>false) | _=>false
  | .var i,e=>c.varNm i e
  | .fnv k,e=>c.fnNm k e
  | .glob x a b,e=>c.g.globs.contains (x,a,b) && c.isNm e x
  | .bin op a b,e=>match e with | .BinOp l o r _=>decide (o=zb op) && av c a l && av c b r | _=>false
  | .neg a,e=>match e with | .UnaryOp o x _=>decide (o=.USub) && av c a x | _=>false
  | .nt a,e=>match e with | .UnaryOp o x _=>decide (o=.Not) && av c a x | _=>false
  | .cmp op a b,e=>match e with | .Compare l os rs _=>(match bY os,bY rs with | some o,some r=>decide (o=gy op) && !behindInMarks o r && av c a l && av c b r | _,_=>false) | _=>false
  | .and es,e=>match e with | .BoolOp o vs _=>decide (o=.And) && bc c es vs | _=>false
  | .or es,e=>match e with | .BoolOp o vs _=>decide (o=.Or) && bc c es vs | _=>false
  | .call f es,e=>match e with | .Call g as kw _=>kw.isEmpty && c.fnNm f g && !as.isEmpty && bc c es as | _=>false
  | .callv i f es,e=>match e with | .Call g as kw _=>kw.isEmpty && c.varNm i g && (c.g.fns[f]?).isSome && !as.isEmpty && bc c es as | _=>false
  | .bi b es,e=>match e with | .Call f as kw _=>!b.isRev && kw.isEmpty && c.isNm f (oX b) && !as.isEmpty && bc c es as | _=>false
  | .isi a ts,e=>match e with
    | .Call f as kw _=>(match as with
      | x :: ys => (match bY ys with | some t => kw.isEmpty && c.isNm f "isinstance" && av c a x && cf x && c.isiOk ts t | none => false)
      | []=>false)
    | _=>false
  | .idx a b,e=>match e with | .Subscript x i _=>av c a x && av c b i && yc i | _=>false
  | .slc a lo hi,e=>match e with | .Subscript x i _=>(match i with | .Slice l h st _=>st.isNone && av c a x && gS c lo l && gS c hi h | _=>false) | _=>false
  | .tup es,e=>match e with | .Tuple vs _ _=>decide (vs.length≤1000) && bc c es vs | _=>false
  | .lst es,e=>match e with | .List vs _=>decide (vs.length≤1000) && bc c es vs | _=>false
  | .comp elt tg caps it cond,e=>match e with
    | .ListComp x gs sc _=>(match bY gs with
      | some gn=>(match iC gn.target,de c caps with
        | some tx,some cs=>decide (gn.is_async=0) && decide (tg=1) && cs.all (fun n=>decide (c.scope.names.lookup n=some NameKind.cell) || decide (c.scope.names.lookup n=some NameKind.free)) && cR sc [tx] cs &&
          eW c it gn.iter && av ⟨c.g,sc,[tx]++cs⟩ elt x && eS ⟨c.g,sc,[tx]++cs⟩ cond gn.ifs
        | _,_=>false)
      | none=>false)
    | _=>false
noncomputable def bc (c:MC):PEs→List Expr→Bool
  | .nil,es=>es.isEmpty
  | .cons e r,es=>match es with | x :: xs=>av c e x && cf x && bc c r xs | []=>false
noncomputable def gS (c:MC):PO→Option Expr→Bool
  | .no,o=>o.isNone
  | .some e,o=>match o with | some x=>av c e x | none=>false
noncomputable def eS (c:MC):PO→List Expr→Bool
  | .no,o=>o.isEmpty
  | .some e,o=>match bY o with | some x=>av c e x | none=>false
noncomputable def eW (c:MC):PI→Expr→Bool
  | .seq e,x=>av c e x && zq x
  | .rev e, x => match x with | .Call f as kw _ => (match bY as with | some y => kw.isEmpty && c.isNm f "reversed" && av c e y && cf y | none => false) | _ => false
  | .rng es, x => match x with | .Call f as kw _ => kw.isEmpty && c.isNm f "range" && !as.isEmpty && bc c es as | _ => false
end
noncomputable def g9 (v:Expr):Bool:=match v with
  | .Tuple _ _ _=>false
  | v=>fR v
noncomputable def vl (c:MC):List Nat→List Expr→Bool
  | [],ts=>ts.isEmpty
  | i :: is,ts=>match ts with | e :: es=>c.varNm i e && vl c is es | []=>false
noncomputable def MC.isMeth (c:MC) (i:Nat) (m:Str) (e:Expr) (cp:Pos):Bool:=match e with
  | .Attribute y a ap=>c.varNm i y && a == m && decide (ap.endLine=cp.line)
  | _=>false
noncomputable def Br (e:Expr):Bool:=match e with | .Constant k _ _=>(match k with | .str _=>true | _=>false) | _=>false
mutual
noncomputable def r7 (c:MC):PS→Stmt→Bool
  | .skip,_=>false
  | .seq _ _,_=>false
  | .assign i e,s=>match s with | .Assign ts v _=>(match bY ts with | some t=>c.varNm i t && av c e v && (fR v || (match e with | .comp ..=>true | _=>false)) | none=>false) | _=>false
  | .unpack is e,s=>match s with | .Assign ts v _=>(match bY ts with | some t=>(match t with | .Tuple us _ _=>vl c is us && av c e v && g9 v && decide is.Nodup | _=>false) | none=>false) | _=>false
  | .setidx i k e,s=>match s with | .Assign ts v _=>(match bY ts with | some t=>(match t with | .Subscript y j _=>c.varNm i y && av c k j && av c e v && fR v | _=>false) | none=>false) | _=>false
  | .app i e, s => match s with | .Expr x _ => (match x with | .Call f as kw cp => (match bY as with | some v => kw.isEmpty && c.isMeth i (Str.ofString "append") f cp && av c e v && cf v | none => false) | _ => false) | _ => false
  | .pop i, s => match s with | .Expr x _ => (match x with | .Call f as kw cp => as.isEmpty && kw.isEmpty && c.isMeth i (Str.ofString "pop") f cp | _ => false) | _ => false
  | .rev i, s => match s with | .Expr x _ => (match x with | .Call f as kw cp => as.isEmpty && kw.isEmpty && c.isMeth i (Str.ofString "reverse") f cp | _ => false) | _ => false
  | .ret e,s=>match s with | .Return o _=>(match o with | some v=>av c e v | none=>false) | _=>false
  | .ite t a b,s=>match s with | .If v x y _=>av c t v && fG c a x && fG c b y | _=>false
  | .whl t b,s=>match s with | .While v x y _=>y.isEmpty && av c t v && fG c b x | _=>false
  | .forr i it b,s=>match s with | .For t v y z _=>z.isEmpty && c.varNm i t && eW c it v && fG c b y | _=>false
  | .raise k,s=>match s with | .Raise o o2 _=>o2.isNone && (match o with | some x=>(match x with | .Call f as kw _=>kw.isEmpty && c.clsNm k f && (match bY as with | some a=>Br a | none=>false) | _=>false) | none=>false) | _=>false
  | .opaq,_=>false
noncomputable def fG (c:MC):PS→List Stmt→Bool
  | .skip,b=>b.isEmpty
  | .seq a r,b=>match b with | s :: ss=>r7 c a s && fG c r ss | []=>false
  | .assign _ _,_=>false
  | .unpack _ _,_=>false
  | .setidx _ _ _,_=>false
  | .app _ _,_=>false
  | .pop _,_=>false
  | .rev _,_=>false
  | .ret _,_=>false
  | .ite _ _ _,_=>false
  | .whl _ _,_=>false
  | .forr _ _ _,_=>false
  | .raise _,_=>false
  | .opaq,_=>true
end
end Mine
namespace Mine
open PySem PyProof.Rows
abbrev KeepsH (h h':Heap):Prop:=∀ b o,h.get? b=some o→h'.get? b=some o
theorem KeepsH.trans {h h' h'':Heap} (a:KeepsH h h') (b:KeepsH h' h''):KeepsH h h'':=fun x o e=>b x o (a x o e)
theorem KeepsH.refl (h:Heap):KeepsH h h:=fun _ _ e=>e
structure GV where
  mg:Str→Option Value
  mb:Str→Option Value
  fa:Nat→Addr
  ca:Nat→Value
mutual
inductive Rep (G:GV) (α:List Addr) (h:Heap):Value→V→Prop
  | int (i:Int) (t:Tok):Rep G α h (.int i t) (.int i)
  | bool (b:Bool):Rep G α h (.bool b) (.bool b)
  | none:Rep G α h .none .none
  | str (s:Str) (t:Tok):Rep G α h (.str s t) (.str s)
  | tup {a:Addr} {vs:List Value} {xs:List V}:IsTup h a vs.toArray→Reps G α h vs xs→xs.length≤lim→Rep G α h (.ref a) (.tup xs)
  | lst {a:Addr} {n:Nat}:α[n]?=some a→Rep G α h (.ref a) (.lst n)
  | fn {a:Addr} {k:Nat}:a=G.fa k→Rep G α h (.ref a) (.fn k)
inductive Reps (G:GV) (α:List Addr) (h:Heap):List Value→List V→Prop
  | nil:Reps G α h [] []
  | cons {v:Value} {d:V} {vs:List Value} {ds:List V}:Rep G α h v d→Reps G α h vs ds→Reps G α h (v :: vs) (d :: ds)
end
section
variable {G:GV} {α:List Addr} {h:Heap} {u:Value}
noncomputable def CE (G:GV) (α:List Addr) (h:Heap) (u:Value):V→Prop
  | .int i=>∃ t,u=.int i t
  | .bool b=>u=.bool b
  | .none=>u=.none
  | .str s=>∃ t,u=.str s t
  | .tup xs=>∃ a vs,u=.ref a∧IsTup h a (List.toArray vs)∧Reps G α h vs xs∧xs.length≤lim
  | .lst n=>∃ a,u=.ref a∧α[n]?=some a
  | .fn k=>u=.ref (G.fa k)
  | .exc _=>False
theorem Rep.out {x:V} (r:Rep G α h u x):CE G α h u x:=by
  cases r with
  | int i t=>exact ⟨t,rfl⟩
  | bool b=>exact rfl
  | none=>exact rfl
  | str s t=>exact ⟨t,rfl⟩
  | tup t r z=>exact ⟨_,_,rfl,t,r,z⟩
  | lst e=>exact ⟨_,rfl,e⟩
  | fn e=>exact congrArg _ e
theorem Rep.int_inv {i:Int} (r:Rep G α h u (.int i)):∃ t,u=.int i t:=r.out
theorem Rep.bool_inv {b:Bool} (r:Rep G α h u (.bool b)):u=.bool b:=r.out
theorem Rep.none_inv (r:Rep G α h u .none):u=.none:=r.out
theorem Rep.tup_inv {xs:List V} (r:Rep G α h u (.tup xs)):∃ a vs,u=.ref a∧IsTup h a (List.toArray vs)∧Reps G α h vs xs∧xs.length≤lim:=r.out
theorem Rep.lst_inv {n:Nat} (r:Rep G α h u (.lst n)):∃ a,u=.ref a∧α[n]?=some a:=r.out
noncomputable def An (G:GV) (α:List Addr) (h:Heap) (vs:List Value):List V→Prop
  | []=>vs=[]
  | d :: ds=>∃ v vs',vs=v :: vs'∧Rep G α h v d∧Reps G α h vs' ds
theorem Reps.out {vs:List Value} {ds:List V} (r:Reps G α h vs ds):An G α h vs ds:=by
  cases r with
  | nil=>exact rfl
  | cons a b=>exact ⟨_,_,rfl,a,b⟩
theorem Reps.one_inv {vs:List Value} {d:V} (r:Reps G α h vs [d]):∃ v,vs=[v]∧Rep G α h v d:=by
  obtain ⟨v,vs',e,a,b⟩:=r.out
  cases b.out
  exact ⟨v,e,a⟩
theorem Reps.two_inv {vs:List Value} {d e:V} (r:Reps G α h vs [d,e]):∃ v w,vs=[v,w]∧Rep G α h v d∧Rep G α h w e:=by
  obtain ⟨v,vs',e,a,b⟩:=r.out
  obtain ⟨w,rfl,c⟩:=b.one_inv
  exact ⟨v,w,e,a,c⟩
end
noncomputable def KeepsT (h h':Heap):Prop:=∀ a items,IsTup h a items→IsTup h' a items
theorem KeepsT.of {h h':Heap} (k:KeepsH h h'):KeepsT h h':=fun _ _ x=>x.keeps k
mutual
theorem Rep.mono {G:GV} {α α':List Addr} {h h':Heap} (ha:∀ (n:Nat) (a:Addr),α[n]?=some a→α'[n]?=some a) (k:KeepsT h h') :
    ∀ {v:Value} {d:V},Rep G α h v d→Rep G α' h' v d
  | _,_,.int i t=>.int i t
  | _,_,.bool b=>.bool b
  | _,_,.none=>.none
  | _,_,.str s t=>.str s t
  | _,_,.tup t r z=>.tup (k _ _ t) (Reps.mono ha k r) z
  | _,_,.lst e=>.lst (ha _ _ e)
  | _,_,.fn e=>.fn e
theorem Reps.mono {G:GV} {α α':List Addr} {h h':Heap} (ha:∀ (n:Nat) (a:Addr),α[n]?=some a→α'[n]?=some a) (k:KeepsT h h') :
    ∀ {vs:List Value} {ds:List V},Reps G α h vs ds→Reps G α' h' vs ds
  | _,_,.nil=>.nil
  | _,_,.cons r rs=>.cons (Rep.mono ha k r) (Reps.mono ha k rs)
end
theorem dW {α β:List Addr} (n:Nat) (a:Addr) (e:α[n]?=some a):(α++β)[n]?=some a:=by
  have hl:n < α.length:=(List.getElem?_eq_some_iff.mp e).1
  rw [List.getElem?_append_left hl]; exact e
theorem Rep.up {G:GV} {α β:List Addr} {h h':Heap} {v:Value} {d:V} (r:Rep G α h v d) (k:KeepsH h h'):Rep G (α++β) h' v d:=r.mono dW (.of k)
theorem Reps.up {G:GV} {α β:List Addr} {h h':Heap} {v:List Value} {d:List V} (r:Reps G α h v d) (k:KeepsH h h'):Reps G (α++β) h' v d:=r.mono dW (.of k)
theorem Reps.len {G:GV} {α:List Addr} {h:Heap}:∀ {vs:List Value} {ds:List V},Reps G α h vs ds→vs.length=ds.length
  | _,_,.nil=>rfl
  | _,_,.cons _ r=>by simp [r.len]
theorem Reps.get {G:GV} {α:List Addr} {h:Heap}:∀ {vs:List Value} {ds:List V},Reps G α h vs ds→∀ {n:Nat} {d:V},ds[n]?=some d→∃ v,vs[n]?=some v∧Rep G α h v d
  | _,_,.nil,n,d,e=>by simp at e
  | _,_,.cons r rs,0,d,e=>by simp at e; subst e; exact ⟨_,rfl,r⟩
  | _,_,.cons r rs,n+1,d,e=>by
    simp at e
    obtain ⟨v,a,b⟩:=rs.get e
    exact ⟨v,by simpa using a,b⟩
theorem Reps.get' {G:GV} {α:List Addr} {h:Heap}:∀ {vs:List Value} {ds:List V},Reps G α h vs ds→∀ {n:Nat} {v:Value},vs[n]?=some v→∃ d,ds[n]?=some d∧Rep G α h v d
  | _,_,.nil,n,d,e=>by simp at e
  | _,_,.cons r rs,0,d,e=>by simp at e; subst e; exact ⟨_,rfl,r⟩
  | _,_,.cons r rs,n+1,d,e=>by
    simp at e
    obtain ⟨v,a,b⟩:=rs.get' e
    exact ⟨v,by simpa using a,b⟩
theorem Reps.append {G:GV} {α:List Addr} {h:Heap}:∀ {vs vs':List Value} {ds ds':List V},Reps G α h vs ds→Reps G α h vs' ds'→Reps G α h (vs++vs') (ds++ds')
  | _,_,_,_,.nil,r=>r
  | _,_,_,_,.cons a b,r=>.cons a (b.append r)
theorem Reps.take {G:GV} {α:List Addr} {h:Heap}:∀ {vs:List Value} {ds:List V} (n:Nat),Reps G α h vs ds→Reps G α h (vs.take n) (ds.take n)
  | _,_,0,_=>by simpa using Reps.nil
  | _,_,_+1,.nil=>.nil
  | _,_,n+1,.cons a b=>.cons a (b.take n)
theorem Reps.drop {G:GV} {α:List Addr} {h:Heap}:∀ {vs:List Value} {ds:List V} (n:Nat),Reps G α h vs ds→Reps G α h (vs.drop n) (ds.drop n)
  | _,_,0,r=>r
  | _,_,_+1,.nil=>.nil
  | _,_,n+1,.cons _ b=>b.drop n
theorem Reps.reverse {G:GV} {α:List Addr} {h:Heap}:∀ {vs:List Value} {ds:List V},Reps G α h vs ds→Reps G α h vs.reverse ds.reverse
  | _,_,.nil=>.nil
  | _,_,.cons a b=>by rw [List.reverse_cons,List.reverse_cons]; exact b.reverse.append (.cons a .nil)
theorem Reps.set {G:GV} {α:List Addr} {h:Heap} {v:Value} {d:V} (r:Rep G α h v d):∀ {vs:List Value} {ds:List V} (n:Nat),Reps G α h vs ds→Reps G α h (vs.set n v) (ds.set n d)
  | _,_,_,.nil=>.nil
  | _,_,0,.cons _ b=>.cons r b
  | _,_,n+1,.cons a b=>.cons a (b.set r n)
theorem Reps.dropLast {G:GV} {α:List Addr} {h:Heap} {vs:List Value} {ds:List V} (r:Reps G α h vs ds):Reps G α h vs.dropLast ds.dropLast:=by
  rw [List.dropLast_eq_take,List.dropLast_eq_take,r.len]; exact r.take _
theorem Reps.replicate {G:GV} {α:List Addr} {h:Heap} {v:Value} {d:V} (r:Rep G α h v d):∀ n:Nat,Reps G α h (List.replicate n v) (List.replicate n d)
  | 0=>.nil
  | n+1=>.cons r (Reps.replicate r n)
structure HR (G:GV) (α:List Addr) (h:Heap) (H:Hp):Prop where
  len:α.length=H.length
  nodup:α.Nodup
  pos:1≤H.length
  lst:∀ (n:Nat) (a:Addr) (xs:List V),α[n]?=some a→H[n]?=some xs→∃ vs:List Value,h.IsList a vs.toArray∧Reps G α h vs xs∧xs.length≤lim∧(n≠0→h.PlainList a vs.toArray)
theorem HR.at {G:GV} {α:List Addr} {h:Heap} {H:Hp} (r:HR G α h H) {n:Nat} {a:Addr} (e:α[n]?=some a):∃ xs,H[n]?=some xs:=by
  have:n < H.length:=by rw [← r.len]; exact (List.getElem?_eq_some_iff.mp e).1
  exact ⟨H[n],List.getElem?_eq_getElem this⟩
theorem dw {h h':Heap} {a:Addr} {items:Array Value} (x:h.IsList a items) (k:KeepsH h h'):h'.IsList a items:=let ⟨o,ho,r⟩:=x; ⟨o,k _ _ ho,r⟩
theorem cG {h h':Heap} {a:Addr} {items:Array Value} (x:h.PlainList a items) (k:KeepsH h h'):h'.PlainList a items:=let ⟨n,e⟩:=x; ⟨n,k _ _ e⟩
theorem HR.keeps {G:GV} {α:List Addr} {h h':Heap} {H:Hp} (r:HR G α h H) (k:KeepsH h h'):HR G α h' H :=
  ⟨r.len,r.nodup,r.pos,fun n a xs e1 e2=>let ⟨vs,l,q,z,p⟩:=r.lst n a xs e1 e2; ⟨vs,dw l k,q.mono (fun _ _ e=>e) (.of k),z,fun hn=>cG (p hn) k⟩⟩
theorem HR.push {G:GV} {α:List Addr} {h h':Heap} {H:Hp} (r:HR G α h H) (k:KeepsH h h') {a:Addr} (ha:a ∉ α) {vs:List Value} {xs:List V} (hl:h'.PlainList a vs.toArray) (q:Reps G α h' vs xs) (z:xs.length≤lim) :
    HR G (α++[a]) h' (H++[xs]):=by
  refine ⟨by simp [r.len],?_,by simp,fun n b ys e1 e2=>?_⟩
  · rw [List.nodup_append]
    refine ⟨r.nodup,by simp,fun x hx y hy=>?_⟩
    simp at hy; subst hy; intro e; subst e; exact ha hx
  · by_cases hn:n < α.length
    · rw [List.getElem?_append_left hn] at e1
      rw [List.getElem?_append_left (r.len ▸ hn)] at e2
      obtain ⟨vs,l,q,z',p⟩:=r.lst n b ys e1 e2
      exact ⟨vs,dw l k,q.up k,z',fun hn=>cG (p hn) k⟩
    · have hn':n=α.length:=by
        have:=(List.getElem?_eq_some_iff.mp e1).1
        simp at this; exact om [n,α.length] [] [(.no (.le (.a Y0 (.n 1)) Y1)),(.le (.a Y0 (.n 1)) (.a Y1 (.n 1)))] (.eq Y0 Y1) [[1,1],[1,0,1]] rfl hn this
      subst hn'
      rw [List.getElem?_append_right (Nat.le_refl _)] at e1
      rw [List.getElem?_append_right (by rw [r.len]; exact Nat.le_refl _)] at e2
      simp [r.len] at e1 e2
      subst e1 e2
      exact ⟨vs,hl.isList,q.mono dW (.of (.refl _)),z,fun _=>hl⟩
theorem HR.set {G:GV} {α:List Addr} {h h':Heap} {H:Hp} (r:HR G α h H) {n:Nat} {a:Addr} (e:α[n]?=some a) {xs₀:List V} (e0:H[n]?=some xs₀) (hs:Heap.SameBut a h h') {vs:List Value} {xs:List V} (hl:h'.PlainList a vs.toArray) (q:Reps G α h vs xs) (z:xs.length≤lim) :
    KeepsT h h'∧HR G α h' (H.set n xs):=by
  obtain ⟨vs₀,⟨o₀,ho₀,hc₀,_⟩,_⟩:=r.lst n a xs₀ e e0
  have kt:KeepsT h h':=fun b items x=>by
    refine x.extBut hs.extBut fun q=>?_
    subst q
    obtain ⟨o,ho,hc,_⟩:=x
    rw [ho₀] at ho; cases ho
    rw [hc₀] at hc; exact absurd hc (by decide)
  refine ⟨kt,by simp [r.len],r.nodup,by simpa using r.pos,fun m b ys e1 e2=>?_⟩
  by_cases hm:m=n
  · subst hm
    rw [e] at e1; cases e1
    have hlt:m < H.length:=by rw [← r.len]; exact (List.getElem?_eq_some_iff.mp e).1
    rw [List.getElem?_set_self hlt] at e2
    cases e2
    exact ⟨vs,hl.isList,q.mono (fun _ _ e=>e) kt,z,fun _=>hl⟩
  · rw [List.getElem?_set_ne (Ne.symm hm)] at e2
    obtain ⟨vs',l,q',z',p⟩:=r.lst m b ys e1 e2
    have hab:b≠a:=fun hba=>by
      subst hba
      have h1:=(List.getElem?_eq_some_iff.mp e1)
      have h2:=(List.getElem?_eq_some_iff.mp e)
      obtain ⟨l1,g1⟩:=h1
      obtain ⟨l2,g2⟩:=h2
      exact hm ((List.getElem_inj r.nodup).mp (g1.trans g2.symm))
    exact ⟨vs',l.extBut hs.extBut hab,q'.mono (fun _ _ e=>e) kt,z',fun hn=>let ⟨n',e'⟩:=p hn; ⟨n',hs.extBut _ _ hab e'⟩⟩
end Mine
namespace Mine
open PySem PyProof.Rows PySem.Calls
structure dq where
  name:Str
  params:Arguments
  body:List Stmt
  scope:Scope
noncomputable def bltNames : List Str := ["abs", "len", "int", "list", "tuple", "min", "isinstance", "reversed", "range", "bool"]
structure GF (G:GV) (gc:GC) (DT:List dq) (h:Heap):Prop where
  g:h.Ns mainGlobals G.mg
  b:h.Ns builtinsNs G.mb
  nolimit:h.NoLimit
  seer:h.NoSeer
  fn:∀ (k:Nat) (x:Str),gc.fns[k]?=some x→G.mg x=some (.ref (G.fa k))∧∃ d o pm cd doc,DT[k]?=some d∧d.name=x∧h.get? (G.fa k)=some o ∧
    o.data=.func (docDef d.name d.params d.body d.scope pm cd doc)∧h.CodeRec cd d.name
  blt:∀ x∈bltNames,G.mg x=none∧G.mb x=bootBuiltins x
  glob:∀ x a b,(x,a,b)∈gc.globs→∃ t ta tb,G.mg x=some (.ref t)∧IsTup h t #[.int a ta,.int b tb]
theorem GF.keeps {G:GV} {gc:GC} {DT:List dq} {h h':Heap} (F:GF G gc DT h) (k:KeepsH h h'):GF G gc DT h' where
  g:=F.g.keeps k
  b:=F.b.keeps k
  nolimit:=F.nolimit.keeps k
  seer:=F.seer.keeps k
  fn:=fun i x e=>let ⟨a,d,o,pm,cd,doc,b,c,f,g,r⟩:=F.fn i x e; ⟨a,d,o,pm,cd,doc,b,c,k _ _ f,g,r.keeps k⟩
  blt:=F.blt
  glob:=fun x a b e=>let ⟨t,ta,tb,m,i⟩:=F.glob x a b e; ⟨t,ta,tb,m,i.keeps k⟩
structure bH (c:MC) (env:Env):Prop where
  kind:env.scope.kind=.function
  globals:env.globals=mainGlobals
  builtins:env.builtins=builtinsNs
  loc:∀ x,c.scope.names.lookup x=some NameKind.local→env.kindOf x=some .local
  glob:∀ x,c.scope.names.lookup x=some NameKind.globalImplicit→env.kindOf x=some .globalImplicit
  cel:∀ x,c.scope.names.lookup x=some NameKind.cell→env.kindOf x=some .cell
  fre:∀ x,c.scope.names.lookup x=some NameKind.free→env.kindOf x=some .cell∨env.kindOf x=some .free
  cells:∀ x,env.kindOf x=some .cell∨env.kindOf x=some .free→∃ a,env.cells.lookup x=some a
noncomputable def VarAt (env:Env) (h:Heap) (x:Str) (v:Value):Prop :=
  (env.kindOf x=some .local∧∃ m,h.Ns env.locals m∧m x=some v) ∨
  ((env.kindOf x=some .cell∨env.kindOf x=some .free)∧∃ c,env.cells.lookup x=some c∧h.IsCell c (some v))
theorem g8 {h h':Heap} {c:Addr} {v:Option Value} (x:h.IsCell c v) (k:KeepsH h h'):h'.IsCell c v:=let ⟨o,ho,r⟩:=x; ⟨o,k _ _ ho,r⟩
theorem VarAt.keeps {env:Env} {h h':Heap} {x:Str} {v:Value} (a:VarAt env h x v) (k:KeepsH h h'):VarAt env h' x v:=by
  rcases a with ⟨a,m,b,c⟩ | ⟨a,c,b,d⟩
  · exact .inl ⟨a,m,b.keeps k,c⟩
  · exact .inr ⟨a,c,b,g8 d k⟩
noncomputable def FI (G:GV) (c:MC) (env:Env) (α:List Addr) (h:Heap) (ρ:Loc):Prop :=
  ∀ (i:Nat) (x:Str) (d:V),c.names[i]?=some x→af ρ i=some d→∃ v,VarAt env h x v∧Rep G α h v d
theorem FI.up {G:GV} {c:MC} {env:Env} {α β:List Addr} {h h':Heap} {ρ:Loc} (F:FI G c env α h ρ) (k:KeepsH h h'):FI G c env (α++β) h' ρ :=
  fun i x d e1 e2=>let ⟨v,a,b⟩:=F i x d e1 e2; ⟨v,a.keeps k,b.up k⟩
inductive Post {γ δ:Type} (G:GV) (RR:List Addr→Heap→γ→δ→Prop) (s:Shared) (α:List Addr) (H:Hp) (Q:δ→Hp→Prop) (v:γ) (s':Shared):Prop
  | mk (h':Heap) (tk:Nat) (β:List Addr) (K:Hp) (d:δ) (e:s'={ s with heap:=h',toks:=tk }) (k:KeepsH s.heap h') (f:∀ b∈β,s.heap.get? b=none) (R:HR G (α++β) h' (H++K)) (r:RR (α++β) h' v d) (q:Q d (H++K))
section
variable {prog:Program} {w:World} {A:Around} {E:Value→Shared→Prop} {s:Shared} {G:GV} {α:List Addr} {H:Hp}
theorem Post.same {γ δ:Type} {RR:List Addr→Heap→γ→δ→Prop} {Q:δ→Hp→Prop} {v:γ} {d:δ} (R:HR G α s.heap H) (r:RR α s.heap v d) (q:Q d H) (tk:Nat):Post G RR s α H Q v { s with toks:=tk } :=
  ⟨s.heap,tk,[],[],d,rfl,.refl _,by simp,by simpa using R,by simpa using r,by simpa using q⟩
theorem Post.same' {γ δ:Type} {RR:List Addr→Heap→γ→δ→Prop} {Q:δ→Hp→Prop} {v:γ} {d:δ} (R:HR G α s.heap H) (r:RR α s.heap v d) (q:Q d H):Post G RR s α H Q v s :=
  Post.same R r q s.toks
theorem Post.trans {γ δ:Type} {RR:List Addr→Heap→γ→δ→Prop} {Q:δ→Hp→Prop} {v:γ} {s':Shared} {h₁:Heap} {tk₁:Nat} {β:List Addr} {K:Hp}
    (k:KeepsH s.heap h₁) (f:∀ b∈β,s.heap.get? b=none) (p:Post G RR { s with heap:=h₁,toks:=tk₁ } (α++β) (H++K) Q v s'):Post G RR s α H Q v s':=by
  obtain ⟨h',tk,β',K',d,rfl,k',f',R,r,q⟩:=p
  refine ⟨h',tk,β++β',K++K',d,rfl,k.trans k',fun b hb=>?_,by simpa using R,by simpa using r,by simpa using q⟩
  rcases List.mem_append.mp hb with hb | hb
  · exact f b hb
  · cases e:s.heap.get? b with
    | none=>rfl
    | some o=>have:=k b o e; rw [show h₁.get? b=none from f' b hb] at this; cases this
theorem Post.then {γ δ γ' δ':Type} {RR:List Addr→Heap→γ→δ→Prop} {RR':List Addr→Heap→γ'→δ'→Prop} {Q:δ→Hp→Prop} {Q':δ'→Hp→Prop} {v:γ} {s₁:Shared} {t:Sem γ'}
    (p:Post G RR s α H Q v s₁)
    (h:∀ h₁ tk₁ β K d,KeepsH s.heap h₁→(∀ b∈β,s.heap.get? b=none)→HR G (α++β) h₁ (H++K)→RR (α++β) h₁ v d→Q d (H++K) →
      wpAny (model prog w) A t (Post G RR' { s with heap:=h₁,toks:=tk₁ } (α++β) (H++K) Q') E { s with heap:=h₁,toks:=tk₁ }) :
    wpAny (model prog w) A t (Post G RR' s α H Q') E s₁:=by
  obtain ⟨h',tk,β,K,d,rfl,k,f,R,r,q⟩:=p
  exact wpAny_mono (h h' tk β K d k f R r q) (fun _ _ x=>x.trans k f) fun _ _ x=>x
theorem Post.go {γ δ γ':Type} {RR:List Addr→Heap→γ→δ→Prop} {Q:δ→Hp→Prop} {v:γ} {s₁:Shared} {t:Sem γ'} {Z:γ'→Shared→Prop}
    (p:Post G RR s α H Q v s₁)
    (h:∀ h₁ tk₁ β K d,KeepsH s.heap h₁→(∀ b∈β,s.heap.get? b=none)→HR G (α++β) h₁ (H++K)→RR (α++β) h₁ v d→Q d (H++K) →
      wpAny (model prog w) A t Z E { s with heap:=h₁,toks:=tk₁ }) :
    wpAny (model prog w) A t Z E s₁:=by
  obtain ⟨h',tk,β,K,d,rfl,k,f,R,r,q⟩:=p
  exact h h' tk β K d k f R r q
end
theorem MC.isVar_spec {c : MC} {i : Nat} {x : Str} (h : c.isVar i x = true) : c.names[i]? = some x ∧ (x == Str.ofString "__debug__") = false ∧ (x == Str.ofString "__classdict__") = false ∧
    (c.scope.names.lookup x=some NameKind.local∨c.scope.names.lookup x=some NameKind.cell∨c.scope.names.lookup x=some NameKind.free):=by
  unfold MC.isVar at h
  simp only [Bool.and_eq_true,Bool.or_eq_true,decide_eq_true_eq,Bool.not_eq_true'] at h
  obtain ⟨⟨⟨a,b⟩,d⟩,e⟩:=h
  exact ⟨a,b,d,by rcases e with (e | e) | e <;> simp [e]⟩
theorem MC.isGlob_spec {c : MC} {x : Str} (h : c.isGlob x = true) : c.scope.names.lookup x = some NameKind.globalImplicit ∧ (x == Str.ofString "__debug__") = false := by
  unfold MC.isGlob at h
  simpa only [Bool.and_eq_true,decide_eq_true_eq,Bool.not_eq_true'] using h
theorem MC.isNm_spec {c:MC} {e:Expr} {x:Str} (h:c.isNm e x=true):∃ pos,e=.Name x pos∧c.isGlob x=true:=by
  unfold MC.isNm at h
  split at h
  · simp only [Bool.and_eq_true,beq_iff_eq] at h
    obtain ⟨rfl,h⟩:=h
    exact ⟨_,rfl,h⟩
  · cases h
section
variable {M:Model} {A:Around} {E:Value→Shared→Prop} {s:Shared} {c:MC} {env:Env} {Q:Value→Shared→Prop}
theorem eG {i:Nat} {x:Str} {pos:Pos} {v:Value} (O:bH c env) (hx:c.isVar i x=true) (hv:VarAt env s.heap x v) (h:Q v s):wpAny M A (eval (.Name x pos) env) Q E s:=by
  refine bP (MC.isVar_spec hx) fun _ hd hn _=>?_
  refine wpAny_Name ?_ hd
  rcases hv with ⟨k,m,hm,e⟩ | ⟨k | k,cc,hc,hv⟩
  · exact wpAny_loadName_local O.kind k hm e h
  · exact wpAny_loadName_cell O.kind k hc hv h
  · exact wpAny_loadName_free O.kind k hc hv h hn
theorem iY {G:GV} {x:Str} {pos:Pos} {v:Value} (O:bH c env) (hx:c.isGlob x=true) (hg:s.heap.Ns mainGlobals G.mg) (hv:G.mg x=some v) (h:Q v s):wpAny M A (eval (.Name x pos) env) Q E s:=by
  obtain ⟨hk,hd⟩:=MC.isGlob_spec hx
  exact Name_function_global O.kind (O.glob x hk) (loadGlobal_global (O.globals ▸ hg) hv h) hd
theorem vY {G:GV} {x:Str} {pos:Pos} {v:Value} (O:bH c env) (hx:c.isGlob x=true) (hg:s.heap.Ns mainGlobals G.mg) (hm:G.mg x=none) (hb:s.heap.Ns builtinsNs G.mb) (hv:G.mb x=some v) (h:Q v s) :
    wpAny M A (eval (.Name x pos) env) Q E s:=by
  obtain ⟨hk,hd⟩:=MC.isGlob_spec hx
  exact Name_function_global O.kind (O.glob x hk) (loadGlobal_builtin (O.globals ▸ hg) hm (O.builtins ▸ hb) hv h) hd
end
structure AOk (prog:Program) (A:Around):Prop where
  handled:A.handled=none
  units:A.units+100 < cLine
  py:∀ (w:World) (s:Shared),s.heap.NoLimit→s.heap.NoSeer→PylongRoom (model prog w) A s
noncomputable def jz (prog:Program) (w:World) (G:GV) (gc:GC) (DT:List dq) (A:Around) (Φ:Call):Prop :=
  ∀ (f:Nat) (x:Str) (vs:List V) (H:Hp) (Q:V→Hp→Prop),gc.fns[f]?=some x→Φ f vs H Q (fun _ _=>False)→∀ (s:Shared) (α:List Addr) (vals:List Value) (E:Value→Shared→Prop),
    GF G gc DT s.heap→HR G α s.heap H→Reps G α s.heap vals vs→wpAny (model prog w) A (call (.ref (G.fa f)) vals) (Post G (Rep G) s α H Q) E s
structure SX where
  prog:Program
  w:World
  G:GV
  DT:List dq
  A:Around
  sub:Nat→Nat→Bool
  Φ:Call
noncomputable def SE (X:SX) (c:MC) (pe:PE) (e:Expr):Prop :=
  ∀ (env:Env) (s:Shared) (α:List Addr) (ρ:Loc) (H:Hp) (Q:V→Hp→Prop) (E:Value→Shared→Prop),bH c env→GF X.G c.g X.DT s.heap→HR X.G α s.heap H→FI X.G c env α s.heap ρ →
    wpE X.sub X.Φ pe ρ H Q→wpAny (model X.prog X.w) X.A (eval e env) (Post X.G (Rep X.G) s α H Q) E s
noncomputable def SEs (X:SX) (c:MC) (pes:PEs) (es:List Expr):Prop :=
  ∀ (env:Env) (s:Shared) (α:List Addr) (ρ:Loc) (H:Hp) (Q:List V→Hp→Prop) (E:Value→Shared→Prop) (pos:Pos),bH c env→GF X.G c.g X.DT s.heap→HR X.G α s.heap H→FI X.G c env α s.heap ρ →
    eA X.sub X.Φ pes ρ H Q→wpAny (model X.prog X.w) X.A (spliced (backTo pos (starEach es env))) (Post X.G (fun α h vs ds=>Reps X.G α h vs ds∧vs.length=es.length) s α H Q) E s
section
variable {X:SX} {c:MC}
theorem yU {i k:_} {pos:Pos}:SE X c (.cint i) (.Constant (.int i) k pos):=fun env s α ρ H Q E _ _ R _ q =>
  wpAny_Constant_int (Post.same R (Rep.int _ _) q _)
theorem xS {i k:_} {pos:Pos}:SE X c (.cbool i) (.Constant (.bool i) k pos):=fun env s α ρ H Q E _ _ R _ q =>
  wpAny_Constant_bool (Post.same' R (Rep.bool _) q)
theorem Ce {i:Nat} {x:Str} {pos:Pos} (hx:c.isVar i x=true):SE X c (.var i) (.Name x pos):=fun env s α ρ H Q E O _ R F q=>by
  refine ad (ifSome.get q) fun v e q=>?_
  refine ad (F i x v (MC.isVar_spec hx).1 e) fun u hu r=>?_
  exact eG O hx hu (Post.same' R r q)
theorem CG {i:Nat} {x:Str} {pos:Pos} (hf:c.g.fns[i]?=some x) (hx:c.isGlob x=true):SE X c (.fnv i) (.Name x pos):=fun env s α ρ H Q E O T R F q =>
  iY O hx T.g (T.fn i x hf).1 (Post.same' R (Rep.fn rfl) q)
theorem zB {x:Str} {a b:Int} {e:Expr} (hf:(x,a,b)∈c.g.globs) (hx:c.isNm e x=true):SE X c (.glob x a b) e:=fun env s α ρ H Q E O T R F q=>by
  refine ad (MC.isNm_spec hx) fun pos zq4 hx2=>?_; subst zq4
  refine jM (T.glob x a b hf) fun t ta tb hm ht=>?_
  exact iY O hx2 T.g hm (Post.same' R (Rep.tup (vs:=[.int a ta,.int b tb]) ht (.cons (.int _ _) (.cons (.int _ _) .nil)) (by show 2≤lim; decide)) q)
theorem As:SEs X c .nil []:=fun env s α ρ H Q E pos _ _ R _ q=>args_nil (Post.same' R ⟨Reps.nil,rfl⟩ q)
theorem xB {pe:PE} {e:Expr} {ps:PEs} {es:List Expr} (hs:(match e with | .Starred ..=>false | _=>true)=true) (h1:SE X c pe e) (h2:SEs X c ps es):SEs X c (.cons pe ps) (e :: es) :=
  fun env s α ρ H Q E pos O T R F q=>by
  have he:starEach (e :: es) env=(false,eval e env) :: starEach es env:=by cases e <;> first | rfl | cases hs
  refine args_cons (wpAny_mono (h1 env s α ρ H _ E O T R F q) (fun v s₁ p=>?_) fun _ _ x=>x) he
  refine p.go fun h₁ tk₁ β K d k f R' r q'=>?_
  refine wpAny_mono (h2 env _ (α++β) ρ (H++K) _ E pos O (T.keeps k) R' (F.up k) q') (fun vs s₂ p₂=>?_) fun _ _ x=>x
  obtain ⟨h₂,tk₂,β₂,K₂,ds,rfl,k₂,f₂,R₂,r₂,q₂⟩:=p₂
  refine Post.trans (tk₁:=tk₁) k f ⟨h₂,tk₂,β₂,K₂,d :: ds,rfl,k₂,f₂,R₂,⟨.cons (r.up k₂) r₂.1,by simp [r₂.2]⟩,q₂⟩
theorem a9 (h:Heap) (o:Obj):KeepsH h (h.push o):=fun _ _ e=>Heap.get?_push_of_some o e
theorem cj (h:Heap):h.get? h.objs.size=none:=by
  cases e:h.get? h.objs.size with
  | none=>rfl
  | some o=>exact absurd (Heap.lt_size e) (Nat.lt_irrefl _)
theorem d6:lim≤sizeLine:=by rw [sizeLine_eq]; decide
theorem Post.newTup {s:Shared} {G:GV} {α:List Addr} {H:Hp} {vs:List Value} {xs:List V} {Q:V→Hp→Prop} (R:HR G α s.heap H) (r:Reps G α s.heap vs xs) (z:xs.length≤lim) (q:Q (.tup xs) H) {n:Nat} (tk:Nat) :
    Post G (Rep G) s α H Q (.ref s.heap.objs.size) { s with heap := s.heap.push { cls := .type "tuple", data := .seq vs.toArray n }, toks := tk } := by
  refine ⟨_,tk,[],[],.tup xs,rfl,a9 _ _,by simp,by simpa using R.keeps (a9 _ _),?_,by simpa using q⟩
  exact Rep.tup (vs:=vs) ⟨_,Heap.get?_push_size _ rfl,rfl,n,rfl⟩ (r.up (a9 _ _)) z
theorem Post.newLst {s:Shared} {G:GV} {α:List Addr} {H:Hp} {vs:List Value} {xs:List V} {Q:V→Hp→Prop} (R:HR G α s.heap H) {h':Heap} (k:KeepsH s.heap h') (r:Reps G α h' vs xs) (z:xs.length≤lim) (q:Q (.lst H.length) (H++[xs]))
    {D:Addr} (hD:s.heap.get? D=none) (hl:h'.PlainList D vs.toArray) (tk:Nat) :
    Post G (Rep G) s α H Q (.ref D) { s with heap:=h',toks:=tk }:=by
  refine ⟨h',tk,[D],[xs],.lst H.length,rfl,k,by simpa using hD,R.push k (fun hm=>?_) hl r z,?_,q⟩
  · obtain ⟨n,hn⟩:=List.mem_iff_getElem?.mp hm
    obtain ⟨ys,hy⟩:=R.at hn
    refine ad (R.lst n D ys hn hy) fun us zq3 _=>?_; refine ad (zq3) fun o ho _=>?_
    rw [hD] at ho; cases ho
  · refine Rep.lst ?_
    rw [List.getElem?_append_right (by rw [R.len]; exact Nat.le_refl _)]; simp [R.len]
theorem Post.newLst' {s:Shared} {G:GV} {α:List Addr} {H:Hp} {vs:List Value} {xs:List V} {Q:V→Hp→Prop} (R:HR G α s.heap H) (r:Reps G α s.heap vs xs) (z:xs.length≤lim) (q:Q (.lst H.length) (H++[xs])) {n:Nat} (tk:Nat) :
    Post G (Rep G) s α H Q (.ref s.heap.objs.size) { s with heap := s.heap.push { cls := .type "list", data := .seq vs.toArray n }, toks := tk } :=
  Post.newLst R (a9 _ _) (r.mono (fun _ _ e=>e) (.of (a9 _ _))) z q (cj _) ⟨n,Heap.get?_push_size _ rfl⟩ tk
theorem BL {ps:PEs} {es:List Expr} {k:Nat} {pos:Pos} (hn:es.length≤1000) (h:SEs X c ps es):SE X c (.tup ps) (.Tuple es k pos):=fun env s α ρ H Q E O T R F q=>by
  refine wpAny_Tuple (wpAny_mono (h env s α ρ H _ E pos O T R F q) (fun vs s₁ p=>?_) fun _ _ x=>x)
  obtain ⟨h₁,tk₁,β,K,ds,rfl,k₁,f,R',r,q'⟩:=p
  have hl:=r.1.len
  refine ⟨by rw [r.2]; exact Nat.le_trans hn (Nat.le_trans (by decide) d6),Post.trans (tk₁:=tk₁) (K:=K) k₁ f ?_⟩
  exact Post.newTup (s:={ s with heap:=h₁,toks:=tk₁ }) R' r.1 (by rw [← hl,r.2]; exact Nat.le_trans hn (by decide)) q' tk₁
theorem CM {ps:PEs} {es:List Expr} {pos:Pos} (hn:es.length≤1000) (h:SEs X c ps es):SE X c (.lst ps) (.List es pos):=fun env s α ρ H Q E O T R F q=>by
  refine wpAny_List (wpAny_mono (h env s α ρ H _ E pos O T R F q) (fun vs s₁ p=>?_) fun _ _ x=>x)
  obtain ⟨h₁,tk₁,β,K,ds,rfl,k₁,f,R',r,q'⟩:=p
  have hl:=r.1.len
  refine ⟨by rw [r.2]; exact Nat.le_trans hn (Nat.le_trans (by decide) d6),Post.trans (tk₁:=tk₁) (K:=K) k₁ f ?_⟩
  exact Post.newLst' (s:={ s with heap:=h₁,toks:=tk₁ }) R' r.1 (by rw [← hl,r.2]; exact Nat.le_trans hn (by decide)) q' tk₁
theorem two {a b:PE} {l r:Expr} {ρ:Loc} {env:Env} {s:Shared} {α:List Addr} {H:Hp} {E:Value→Shared→Prop} {Q:V→V→Hp→Prop} {Z:Value→Value→Shared→Prop} (h1:SE X c a l) (h2:SE X c b r)
    (O:bH c env) (T:GF X.G c.g X.DT s.heap) (R:HR X.G α s.heap H) (F:FI X.G c env α s.heap ρ)
    (q:wpE X.sub X.Φ a ρ H fun x H1=>wpE X.sub X.Φ b ρ H1 fun y H2=>Q x y H2)
    (hz:∀ h' tk β K u v x y,KeepsH s.heap h'→(∀ b∈β,s.heap.get? b=none)→HR X.G (α++β) h' (H++K)→Rep X.G (α++β) h' u x→Rep X.G (α++β) h' v y→Q x y (H++K)→Z u v { s with heap:=h',toks:=tk }) :
    wpAny (model X.prog X.w) X.A (eval l env) (fun u s₁=>wpAny (model X.prog X.w) X.A (eval r env) (fun v s₂=>Z u v s₂) E s₁) E s:=by
  refine wpAny_mono (h1 env s α ρ H _ E O T R F q) (fun u s₁ p=>?_) fun _ _ x=>x
  refine p.go fun h₁ tk₁ β K d k f R' r q'=>?_
  refine wpAny_mono (h2 env _ (α++β) ρ (H++K) _ E O (T.keeps k) R' (F.up k) q') (fun v s₂ p₂=>?_) fun _ _ x=>x
  obtain ⟨h₂,tk₂,β₂,K₂,e,rfl,k₂,f₂,R₂,r₂,q₂⟩:=p₂
  have:=hz h₂ tk₂ (β++β₂) (K++K₂) u v d e (k.trans k₂) (fun b hb=>?_) (by simpa using R₂) (by simpa using (r.up (β:=β₂) k₂)) (by simpa using r₂) (by simpa using q₂)
  · exact this
  · rcases List.mem_append.mp hb with hb | hb
    · exact f b hb
    · cases e:s.heap.get? b with
      | none=>rfl
      | some o=>have:=k b o e; rw [show h₁.get? b=none from f₂ b hb] at this; cases this
section
variable {prog:Program} {w:World} {A:Around} {E:Value→Shared→Prop} {s:Shared} {G:GV} {α:List Addr} {H:Hp} {Q:V→Hp→Prop}
theorem tG {l b:Addr} {vs ws:List Value} {Z:Value→Shared→Prop} (hl:s.heap.IsList l vs.toArray) (hb:s.heap.IsList b ws.toArray) (hsz:vs.length+ws.length≤sizeLine)
    (h : Z (.ref s.heap.objs.size) { s with heap := s.heap.push { cls := .type "list", data := .seq (vs ++ ws).toArray } }) : wpAny (model prog w) A (binaryOp .Add (.ref l) (.ref b)) Z E s := by
  refine dc (hl) fun zq2 o1 e1 n1 f1=>?_; obtain ⟨c1,d1,t1,sl1⟩:=zq2
  refine dc (hb) fun zq1 o2 e2 n2 f2=>?_; obtain ⟨c2,d2,t2,sl2⟩:=zq1
  dsimp only at e1 f1 e2 f2
  subst e1 f1 e2 f2
  refine concat_meets ⟨_,o1,rfl⟩ ⟨_,o2,rfl⟩ noFill_list_add seq_list_add PySem.F.slot_list_add PySem.F.entry_list_add (PySem.F.args_list_add_2 _ _) (list_addW l b vs.toArray ws.toArray n1 n2 d1 d2 sl1 sl2 (by simpa using hsz)) ⟨o1,o2,?_⟩
  simpa using h
end
end
end Mine
namespace Mine
open PySem PyProof.Rows PySem.Calls
section
variable {prog:Program} {w:World} {A:Around} {E:Value→Shared→Prop} {s:Shared} {G:GV} {α:List Addr} {H:Hp} {Q:V→Hp→Prop}
theorem HR.getList (R:HR G α s.heap H) {a:Addr} {n:Nat} {xs:List V} (e:α[n]?=some a) (h:H[n]?=some xs):∃ vs:List Value,s.heap.IsList a vs.toArray∧Reps G α s.heap vs xs∧xs.length≤lim∧vs.length≤lim:=by
  refine cu (R.lst n a xs e h) fun vs l r z _=>?_
  exact ⟨vs,l,r,z,by rw [r.len]; exact z⟩
theorem nk {v:Value} {d:V} {xs:List V} (R:HR G α s.heap H) (r:Rep G α s.heap v d) (e:items H d=some xs) :
    ∃ (a:Addr) (vs:List Value),v=.ref a∧Reps G α s.heap vs xs∧xs.length≤lim∧vs.length≤lim∧((IsTup s.heap a vs.toArray∧∃ ys,d=.tup ys)∨(s.heap.IsList a vs.toArray∧∃ n,d=.lst n)):=by
  cases r with
  | tup t q z=>cases e; exact ⟨_,_,rfl,q,z,by rw [q.len]; exact z,.inl ⟨t,_,rfl⟩⟩
  | lst q =>
    refine cu (R.getList q e) fun vs l r z y=>?_
    exact ⟨_,vs,rfl,r,z,y,.inr ⟨l,_,rfl⟩⟩
  | _=>cases e
theorem kD (v:Value):∀ n:Nat,List.foldl (fun x1 x2:Array Value=>x1++x2) #[] (List.replicate n #[v])=(List.replicate n v).toArray:=by
  intro n
  have key:∀ (n:Nat) (acc:Array Value),List.foldl (fun x1 x2:Array Value=>x1++x2) acc (List.replicate n #[v])=acc++(List.replicate n v).toArray:=by
    intro n
    induction n with
    | zero=>intro acc; simp
    | succ n ih =>
      intro acc
      rw [List.replicate_succ,List.foldl_cons,ih,List.replicate_succ]
      apply Array.ext'
      simp
  rw [key]; simp
theorem vN {l:Addr} {v:Value} {k:Int} {u:Tok} {Z:Value→Shared→Prop} (hl:s.heap.IsList l [v].toArray) (h0:0≤k) (h1:k≤lim)
    (h : Z (.ref s.heap.objs.size) { s with heap := s.heap.push { cls := .type "list", data := .seq (List.replicate k.toNat v).toArray } }) : wpAny (model prog w) A (binaryOp .Mult (.ref l) (.int k u)) Z E s := by
  refine dc (hl) fun zq10 o1 e1 n1 f1=>?_; obtain ⟨c1,d1,t1,sl1⟩:=zq10
  dsimp only at e1 f1
  subst e1 f1
  have hk:k.toNat≤1000000:=by have h2:k≤1000000:=h1; (exact om [k.toNat] [k] [(.il Y0 (.n 1000000)),(.or (.an (.il (.n 0) Y0) (.ie (.c Y0) Y0)) (.an (.il Y0 (.n 0)) (.eq Y0 (.n 0))))] (.le Y0 (.n 1000000)) [[1,1,0,1],[1,0,0,1]] rfl h2 (bo (k)))
  have hk':k≤1000000:=h1
  refine wpAny_binaryOp_repeat_ref (T := "list") (U := "int") (by decide) ⟨_, o1, rfl⟩ (fun s' => typeIs_int s' k u) noFill_list_mul F.fills_int_mul F.slot_int_rmul repeat_list F.slot_int_index.lookup
    (call_meets F.slot_int_rmul (typeIs_int s k u) F.entry_int_rmul (F.args_int_rmul_2 _ _) (lm_int_rmul_list_any k u l [v].toArray n1 d1 sl1)
      ⟨o1,rfl,⟨_,o1,rfl⟩,call_meets F.slot_list_mul ⟨_,o1,rfl⟩ F.entry_list_mul (F.args_list_mul_2 _ _)
        (lm_list_mul_any l [v].toArray n1 d1 sl1 k u (by simp [Builtin.List.listFitsIndex]; (exact om [] [k] [(.il (.n 0) Y0),(.il Y0 (.n 1000000))] (.an (.il (.g (.n 9223372036854775808)) Y0) (.il (.a Y0 (.n 1)) (.n 9223372036854775808))) [[1,1],[1,0,1]] rfl h0 hk')) (by simp; (exact om [] [k] [(.il Y0 (.n 1000000))] (.il Y0 (.n 1152921504606846975)) [[1,1]] rfl hk')) (by simp [Builtin.List.listTooLong,sizeLine]; (exact om [] [k] [(.il Y0 (.n 1000000))] (.il Y0 (.n 16777216)) [[1,1]] rfl hk')))
        ⟨o1,?_⟩⟩)
  have e:(if ([v].toArray).isEmpty=true then 0 else k.toNat)=k.toNat:=by simp
  rw [e,show ([v].toArray:Array Value)=#[v] from rfl,kD]
  exact h
theorem qD {op:BOp} {u v:Value} {x y:V} (hP:PylongRoom (model prog w) A s) (R:HR G α s.heap H) (ru:Rep G α s.heap u x) (rv:Rep G α s.heap v y) (q:gG op x y H Q) :
    wpAny (model prog w) A (binaryOp (zb op) u v) (Post G (Rep G) s α H Q) E s:=by
  cases op
  · cases x <;> first | exact False.elim q | skip
    · cases y <;> first | exact False.elim q | skip
      obtain ⟨t,rfl⟩:=ru.int_inv
      obtain ⟨t',rfl⟩:=rv.int_inv
      exact add_int (Post.same R (.int _ _) q _)
    · cases y <;> first | exact False.elim q | skip
      refine ad (ru.lst_inv) fun a zq9 e1=>?_; subst zq9
      refine ad (rv.lst_inv) fun b zq8 e2=>?_; subst zq8
      refine ad (ifSome.get q) fun xs h1 q=>?_
      refine bU (ifSome.get q) fun ys h2 hz q=>?_
      refine cu (R.getList e1 h1) fun vs l1 r1 z1 z1'=>?_
      refine cu (R.getList e2 h2) fun ws l2 r2 z2 z2'=>?_
      have hlen:vs.length+ws.length≤lim:=by rw [r1.len,r2.len]; exact hz
      exact tG l1 l2 (Nat.le_trans hlen d6) (Post.newLst' R (r1.append r2) (by rw [List.length_append]; exact hz) q s.toks)
  · cases x <;> first | exact False.elim q | skip
    cases y <;> first | exact False.elim q | skip
    obtain ⟨t,rfl⟩:=ru.int_inv
    obtain ⟨t',rfl⟩:=rv.int_inv
    exact sub_int (Post.same R (.int _ _) q _)
  · cases x <;> first | exact False.elim q | skip
    · cases y <;> first | exact False.elim q | skip
      obtain ⟨t,rfl⟩:=ru.int_inv
      obtain ⟨t',rfl⟩:=rv.int_inv
      exact mul_int (Post.same R (.int _ _) q.2 _) q.1
    · cases y <;> first | exact False.elim q | skip
      rename_i k
      refine ad (ru.lst_inv) fun a zq7 e1=>?_; subst zq7
      obtain ⟨t',rfl⟩:=rv.int_inv
      refine cu (q) fun x h1 h0 hk q=>?_
      refine cu (R.getList e1 h1) fun vs l1 r1 z1 z1'=>?_
      refine ad (r1.one_inv) fun v zq6 rx=>?_; subst zq6
      have hk':k.toNat≤lim:=by have h2:k≤1000000:=hk; show _≤1000000; (exact om [k.toNat] [k] [(.il Y0 (.n 1000000)),(.or (.an (.il (.n 0) Y0) (.ie (.c Y0) Y0)) (.an (.il Y0 (.n 0)) (.eq Y0 (.n 0))))] (.le Y0 (.n 1000000)) [[1,1,0,1],[1,0,0,1]] rfl h2 (bo (k)))
      exact vN l1 h0 hk (Post.newLst' R (Reps.replicate rx k.toNat) (by rw [List.length_replicate]; exact hk') q s.toks)
  · cases x <;> first | exact False.elim q | skip
    cases y <;> first | exact False.elim q | skip
    rename_i i j
    obtain ⟨t,rfl⟩:=ru.int_inv
    obtain ⟨t',rfl⟩:=rv.int_inv
    replace q:gw j∧Q (.int (i.fdiv j)) H:=q
    exact floordiv_int q.1 (Post.same R (.int _ _) q.2 _) (Or.inr hP)
  · cases x <;> first | exact False.elim q | skip
    cases y <;> first | exact False.elim q | skip
    obtain ⟨t,rfl⟩:=ru.int_inv
    obtain ⟨t',rfl⟩:=rv.int_inv
    exact mod_int' q.1 (Post.same R (.int _ _) q.2 _)
  · cases x <;> first | exact False.elim q | skip
    cases y <;> first | exact False.elim q | skip
    obtain ⟨t,rfl⟩:=ru.int_inv
    obtain ⟨t',rfl⟩:=rv.int_inv
    exact pow_int_small q.1 (by have:=q.2.1; (exact om [] [_] [(.il Y0 (.n 1000))] (.il Y0 (.n 1000000)) [[1,1]] rfl this)) q.2.2.1 (Post.same R (.int _ _) q.2.2.2 _)
theorem CI {β γ:Type} {f:β→γ} {o:Option β} {c:γ} (h:o.map f=some c):∃ b,o=some b∧f b=c:=by
  cases o with
  | none=>cases h
  | some b=>cases h; exact ⟨b,rfl,rfl⟩
theorem l6:∀ {cs:List Int} {vs:List Value},Reps G α s.heap vs (cs.map .int)→∃ as,ReadsAll s.heap vs (cs.map .int) as
  | [],_,.nil=>⟨_,.nil⟩
  | _ :: _,_,.cons a b=>by
    obtain ⟨t,rfl⟩:=a.int_inv
    obtain ⟨as,r⟩:=l6 b
    exact ⟨_,.cons (.int _ _) r⟩
theorem pM (R:HR G α s.heap H) {v:Value} {x:V} {d:PyData} (r:Rep G α s.heap v x) (h:uX H x d):∃ as,Reads s.heap v d as:=by
  rcases h with ⟨cs,rfl,rfl⟩ | ⟨k,cs,rfl,hk,rfl⟩
  · cases r with
    | tup t q z =>
      obtain ⟨as,r⟩:=l6 q
      refine dc (t) fun o ho hc k hd=>?_
      exact ⟨_,.tuple ho hc hd (by simpa using r)⟩
  · cases r with
    | lst ha =>
      refine bU (R.lst _ _ _ ha hk) fun vs zq5 q _=>?_; obtain ⟨o,ho,hc,k,hd⟩:=zq5
      obtain ⟨as,r⟩:=l6 q
      exact ⟨_,.list ho hc hd (by simpa using r)⟩
end
end Mine
namespace Mine
open PySem PyProof.Rows PySem.Calls
theorem f9:∀ cs:List Int,PyData.canLayAll0 (cs.map .int)=true∧PyData.depthAll (cs.map .int)=0
  | []=>⟨rfl,rfl⟩
  | c :: cs=>⟨(f9 cs).1,by show max 0 (PyData.depthAll (cs.map .int))=0; rw [(f9 cs).2]; rfl⟩
theorem c8 {H:Hp} {x:V} {d:PyData} (h:uX H x d):SeqAt.shaped d=true:=by
  have key:∀ cs:List Int,(PyData.canLayAll0 (cs.map .int) && decide (PyData.depthAll (cs.map .int)+1≤64))=true:=fun cs=>by
    rw [(f9 cs).1,(f9 cs).2]; rfl
  rcases h with ⟨cs,rfl,rfl⟩ | ⟨k,cs,rfl,hk,rfl⟩
  · exact key cs
  · exact key cs
section
variable {prog:Program} {w:World} {A:Around} {E:Value→Shared→Prop} {s:Shared} {G:GV} {α:List Addr} {H:Hp} {Q:V→Hp→Prop}
theorem nw {op:COp} {u v:Value} {x y:V} (hA:AOk prog A) (R:HR G α s.heap H) (ru:Rep G α s.heap u x) (rv:Rep G α s.heap v y) (q:eI op x y H Q) :
    wpAny (model prog w) A (compareOp (gy op) u v) (Post G (Rep G) s α H Q) E s:=by
  have hu:=hA.units
  have eqs:∀ Q',oO x y H Q'→∃ da db as bs,Reads s.heap u da as∧Reads s.heap v db bs∧uX H x da∧uX H y db∧Q' (PyData.eqv da db):=fun Q' q=>by
    refine aJ (q) fun da db e1 e2 q=>?_
    obtain ⟨as,r1⟩:=pM R ru e1
    obtain ⟨bs,r2⟩:=pM R rv e2
    exact ⟨da,db,as,bs,r1,r2,e1,e2,q⟩
  have hE:oO x y H (fun b=>Q (.bool b) H)→wpAny (model prog w) A (compareOp .Eq u v) (Post G (Rep G) s α H Q) E s:=fun q=>by
    refine d4 (eqs _ q) fun da db as bs r1 r2 e1 e2 q=>?_
    exact SeqAt.compareEq_shaped r1 r2 (c8 e1) (c8 e2) (by (clear hA R ru rv eqs r1 r2 e1 e2 q; omega)) (Post.same' R (.bool _) q)
  have hN:oO x y H (fun b=>Q (.bool (!b)) H)→wpAny (model prog w) A (compareOp .NotEq u v) (Post G (Rep G) s α H Q) E s:=fun q=>by
    refine d4 (eqs _ q) fun da db as bs r1 r2 e1 e2 q=>?_
    exact SeqAt.compareNe_shaped r1 r2 (c8 e1) (c8 e2) (by (clear hA R ru rv eqs hE r1 r2 e1 e2 q; omega)) (Post.same' R (.bool _) q)
  cases op
  · cases x <;> first | exact False.elim q | skip
    cases y <;> first | exact False.elim q | skip
    obtain ⟨t,rfl⟩:=ru.int_inv
    obtain ⟨t',rfl⟩:=rv.int_inv
    exact lt_int (Post.same' R (.bool _) q)
  · cases x <;> first | exact False.elim q | skip
    cases y <;> first | exact False.elim q | skip
    obtain ⟨t,rfl⟩:=ru.int_inv
    obtain ⟨t',rfl⟩:=rv.int_inv
    exact le_int (Post.same' R (.bool _) q)
  · cases x <;> first | exact False.elim q | skip
    cases y <;> first | exact False.elim q | skip
    obtain ⟨t,rfl⟩:=ru.int_inv
    obtain ⟨t',rfl⟩:=rv.int_inv
    exact gt_int (Post.same' R (.bool _) q)
  · cases x <;> first | exact False.elim q | skip
    cases y <;> first | exact False.elim q | skip
    obtain ⟨t,rfl⟩:=ru.int_inv
    obtain ⟨t',rfl⟩:=rv.int_inv
    exact ge_int (Post.same' R (.bool _) q)
  · cases x <;> first | exact hE q | skip
    cases y <;> first | exact hE q | skip
    obtain ⟨t,rfl⟩:=ru.int_inv
    obtain ⟨t',rfl⟩:=rv.int_inv
    exact eq_int (Post.same' R (.bool _) q)
  · cases x <;> first | exact hN q | skip
    cases y <;> first | exact hN q | skip
    obtain ⟨t,rfl⟩:=ru.int_inv
    obtain ⟨t',rfl⟩:=rv.int_inv
    exact ne_int (Post.same' R (.bool _) q)
  · exact False.elim q
  · exact False.elim q
  · cases y <;> first | exact False.elim q | skip
    cases rv.none_inv
    refine is_none (Post.same' R (.bool _) ?_)
    cases ru <;> exact q
theorem dT {u:Value} {x:V} {t:Bool} {Z:Bool→Shared→Prop} (R:HR G α s.heap H) (ru:Rep G α s.heap u x) (e:bn H x=some t) (h:∀ tk,Z t { s with toks:=tk }) :
    wpAny (model prog w) A (truthy u) Z E s:=by
  cases ru with
  | int i tk=>cases e; exact truthy_int (h s.toks)
  | bool b=>cases e; exact wpAny_truthy_bool (h s.toks)
  | none=>cases e; exact fun _ _ _=>h s.toks
  | str z tk=>cases e
  | tup ht q z =>
    cases e
    have hl:=q.len
    refine truthy_tuple ht (by have:_≤1000000:=z; simp; (exact om [_,_] [] [(.eq Y0 Y1),(.le Y1 (.n 1000000))] (.il (.a (.c Y0) (.n 1)) (.n 9223372036854775808)) [[1,1,0,1]] rfl hl this)) ?_
    rename_i vs xs
    have:(!vs.toArray.isEmpty)=!xs.isEmpty:=by cases q <;> simp
    rw [this]; exact h _
  | lst ha =>
    refine ad (CI e) fun xs hx zq11=>?_; subst zq11
    refine cu (R.getList ha hx) fun vs l q z z'=>?_
    refine wpAny_truthy_list l (by have:_≤1000000:=z'; simp; (exact om [vs.length] [] [(.le Y0 (.n 1000000))] (.il (.a (.c Y0) (.n 1)) (.n 9223372036854775808)) [[1,1]] rfl this)) ?_
    have:(!vs.toArray.isEmpty)=!xs.isEmpty:=by cases q <;> simp
    rw [this]; exact h _
  | fn _=>cases e
end
end Mine
namespace Mine
open PySem PyProof.Rows PySem.Calls
noncomputable def SC (X:SX) (c:MC) (pe:PE) (e:Expr):Prop :=
  ∀ (env:Env) (s:Shared) (α:List Addr) (ρ:Loc) (H:Hp) (Q:Bool→Hp→Prop) (E:Value→Shared→Prop),bH c env→GF X.G c.g X.DT s.heap→HR X.G α s.heap H→FI X.G c env α s.heap ρ →
    wpE X.sub X.Φ pe ρ H (fun v H'=>ifSome (bn H' v) fun t=>Q t H')→wpAny (model X.prog X.w) X.A (isTrue e env (eval e env)) (Post X.G (fun _ _ a b=>a=b) s α H Q) E s
noncomputable def bC (e:Expr):Prop:=∀ (env:Env) (whole:Sem Value),isTrue e env whole=(do let v ← whole; standAt e.pos; holding [v] (truthy v))
section
variable {X:SX} {c:MC}
theorem yM {pe:PE} {e:Expr} (h:SE X c pe e) (he:bC e):SC X c pe e:=fun env s α ρ H Q E O T R F q=>by
  refine wpAny_isTrue_value (wpAny_mono (h env s α ρ H _ E O T R F q) (fun v s₁ p=>?_) fun _ _ x=>x) (he env _)
  obtain ⟨h₁,tk₁,β,K,d,rfl,k,f,R',r,q⟩:=p
  refine ad (ifSome.get q) fun t e q=>?_
  exact dT (s:={ s with heap:=h₁,toks:=tk₁ }) R' r e fun tk=>⟨h₁,tk,β,K,t,rfl,k,f,R',rfl,q⟩
theorem Cx {op:BOp} {a b:PE} {l r:Expr} {pos:Pos} (hA:AOk X.prog X.A) (h1:SE X c a l) (h2:SE X c b r):SE X c (.bin op a b) (.BinOp l (zb op) r pos):=fun env s α ρ H Q E O T R F q=>by
  refine wpAny_BinOp (two h1 h2 O T R F (Q:=fun x y H2=>gG op x y H2 Q) q fun h' tk β K u v x y k f R' ru rv q'=>?_)
  exact wpAny_mono (qD (s:={ s with heap:=h',toks:=tk }) (hA.py _ _ (T.nolimit.keeps k) (T.seer.keeps k)) R' ru rv q') (fun _ _ p=>p.trans k f) fun _ _ x=>x
theorem Cw {a:PE} {l:Expr} {pos:Pos} (h1:SE X c a l):SE X c (.neg a) (.UnaryOp .USub l pos):=fun env s α ρ H Q E O T R F q=>by
  refine wpAny_UnaryOp (wpAny_mono (h1 env s α ρ H _ E O T R F q) (fun v s₁ p=>?_) fun _ _ x=>x)
  refine p.then fun h₁ tk₁ β K d k f R' r q'=>?_
  cases d <;> first | exact q'.elim | skip
  cases r
  exact neg_int (Post.same R' (.int _ _) q' _)
theorem Dj {a:PE} {l:Expr} {pos:Pos} (h1:SE X c a l):SE X c (.nt a) (.UnaryOp .Not l pos):=fun env s α ρ H Q E O T R F q=>by
  refine wpAny_UnaryOp (wpAny_mono (h1 env s α ρ H _ E O T R F q) (fun v s₁ p=>?_) fun _ _ x=>x)
  refine p.then fun h₁ tk₁ β K d k f R' r q'=>?_
  refine ad (ifSome.get q') fun t e q'=>?_
  exact not_value (dT (s:={ s with heap:=h₁,toks:=tk₁ }) R' r e fun tk=>Post.same (s:={ s with heap:=h₁,toks:=tk₁ }) R' (.bool _) q' tk)
theorem Di {a:PE} {l:Expr} {pos:Pos} (h1:SC X c a l):SC X c (.nt a) (.UnaryOp .Not l pos):=fun env s α ρ H Q E O T R F q=>by
  refine wpAny_isTrue_Not (wpAny_mono (h1 env s α ρ H (fun t=>Q (!t)) E O T R F ?_) (fun v s₁ p=>?_) fun _ _ x=>x)
  · exact q
  · obtain ⟨h₁,tk₁,β,K,d,rfl,k,f,R',rfl,q'⟩:=p
    exact ⟨h₁,tk₁,β,K,_,rfl,k,f,R',rfl,q'⟩
theorem Bx {op:COp} {a b:PE} {l r:Expr} {pos:Pos} (hA:AOk X.prog X.A) (hm:behindInMarks (gy op) r=false) (h1:SE X c a l) (h2:SE X c b r):SE X c (.cmp op a b) (.Compare l [gy op] [r] pos):=fun env s α ρ H Q E O T R F q=>by
  refine wpAny_Compare1 (two h1 h2 O T R F (Q:=fun x y H2=>eI op x y H2 Q) q fun h' tk β K u v x y k f R' ru rv q'=>?_) hm
  exact wpAny_mono (nw (s:={ s with heap:=h',toks:=tk }) hA R' ru rv q') (fun _ _ p=>p.trans k f) fun _ _ x=>x
theorem Cj {op:COp} {a b:PE} {l r:Expr} {pos:Pos} (hA:AOk X.prog X.A) (hm:behindInMarks (gy op) r=false) (h1:SE X c a l) (h2:SE X c b r):SC X c (.cmp op a b) (.Compare l [gy op] [r] pos):=fun env s α ρ H Q E O T R F q=>by
  refine wpAny_isTrue_Compare1 (two h1 h2 O T R F (Q:=fun x y H2=>eI op x y H2 _) q fun h' tk β K u v x y k f R' ru rv q'=>?_) hm
  refine wpAny_mono (nw (s:={ s with heap:=h',toks:=tk }) hA R' ru rv q') (fun v s₁ p=>?_) fun _ _ x=>x
  obtain ⟨h₂,tk₂,β₂,K₂,d,rfl,k₂,f₂,R₂,r₂,q₂⟩:=p
  refine ad (ifSome.get q₂) fun t e q₂=>?_
  refine dT (s:={ s with heap:=h₂,toks:=tk₂ }) R₂ r₂ e fun tk'=>?_
  exact Post.trans (tk₁:=tk) k f ⟨h₂,tk',β₂,K₂,t,rfl,k₂,f₂,R₂,rfl,q₂⟩
noncomputable def tY (X:SX) (c:MC) (b:Bool) (ps:PEs) (es:List Expr):Prop :=
  ∀ (env:Env) (s:Shared) (α:List Addr) (ρ:Loc) (H:Hp) (Q:V→Hp→Prop) (E:Value→Shared→Prop) (pos:Pos),bH c env→GF X.G c.g X.DT s.heap→HR X.G α s.heap H→FI X.G c env α s.heap ρ →
    bV X.sub X.Φ b ps ρ H Q→wpAny (model X.prog X.w) X.A (boolOp pos (if b then .And else .Or) (evalEach es env)) (Post X.G (Rep X.G) s α H Q) E s
noncomputable def kJ (X:SX) (c:MC) (b:Bool) (ps:PEs) (es:List Expr):Prop :=
  ∀ (env:Env) (s:Shared) (α:List Addr) (ρ:Loc) (H:Hp) (Q:Bool→Hp→Prop) (E:Value→Shared→Prop),bH c env→GF X.G c.g X.DT s.heap→HR X.G α s.heap H→FI X.G c env α s.heap ρ →
    bV X.sub X.Φ b ps ρ H (fun v H'=>ifSome (bn H' v) fun t=>Q t H')→wpAny (model X.prog X.w) X.A (allTrue (if b then .And else .Or) es env) (Post X.G (fun _ _ a b=>a=b) s α H Q) E s
theorem xi {b:Bool}:tY X c b .nil []:=fun env s α ρ H Q E pos O T R F q=>(by simp [bV] at q)
theorem uS {b:Bool}:kJ X c b .nil []:=fun env s α ρ H Q E O T R F q=>(by simp [bV] at q)
theorem v7 {b:Bool} {a:PE} {e:Expr} (h:SE X c a e):tY X c b (.cons a .nil) [e]:=fun env s α ρ H Q E pos O T R F q=>by
  simp only [bV] at q
  cases b <;> exact h env s α ρ H Q E O T R F q
theorem uT {b:Bool} {a a2:PE} {r:PEs} {e e2:Expr} {es:List Expr} (h1:SE X c a e) (h2:tY X c b (.cons a2 r) (e2 :: es)):tY X c b (.cons a (.cons a2 r)) (e :: e2 :: es):=fun env s α ρ H Q E pos O T R F q=>by
  simp only [bV] at q
  have key:wpAny (model X.prog X.w) X.A (eval e env >>= fun v=>do
      standAt pos
      let t ← holding [v] (truthy v)
      match (if b then BoolOp.And else BoolOp.Or),t with
      | .And,false | .Or,true=>pure v
      | _,_=>boolOp pos (if b then .And else .Or) (evalEach (e2 :: es) env)) (Post X.G (Rep X.G) s α H Q) E s:=by
    refine wpAny_bind (wpAny_mono (h1 env s α ρ H _ E O T R F q) (fun v s₁ p=>?_) fun _ _ x=>x)
    refine p.then fun h₁ tk₁ β K d k f R' rr q'=>?_
    refine ad (ifSome.get q') fun t e q'=>?_
    refine wpAny_bind (wpAny_standAt (wpAny_bind (wpAny_holding (dT (s:={ s with heap:=h₁,toks:=tk₁ }) R' rr e fun tk=>?_))))
    have step:wpAny (model X.prog X.w) X.A (boolOp pos (if b then .And else .Or) (evalEach (e2 :: es) env)) (Post X.G (Rep X.G) { s with heap:=h₁,toks:=tk } (α++β) (H++K) Q) E { s with heap:=h₁,toks:=tk } →
        wpAny (model X.prog X.w) X.A (boolOp pos (if b then .And else .Or) (evalEach (e2 :: es) env)) (Post X.G (Rep X.G) { s with heap:=h₁,toks:=tk₁ } (α++β) (H++K) Q) E { s with heap:=h₁,toks:=tk }:=fun h =>
      wpAny_mono h (fun _ _ ⟨h',tk',β',K',d',e',a',b',c',r',q''⟩=>⟨h',tk',β',K',d',e',a',b',c',r',q''⟩) fun _ _ x=>x
    cases b <;> cases t <;> simp only [Bool.false_eq_true,Bool.true_eq_false,if_true,if_false] at q' ⊢
    · exact step (h2 env { s with heap:=h₁,toks:=tk } (α++β) ρ (H++K) Q E pos O (T.keeps k) R' (F.up k) q')
    · exact wpAny_pure (Post.same (s:={ s with heap:=h₁,toks:=tk₁ }) R' rr q' tk)
    · exact wpAny_pure (Post.same (s:={ s with heap:=h₁,toks:=tk₁ }) R' rr q' tk)
    · exact step (h2 env { s with heap:=h₁,toks:=tk } (α++β) ρ (H++K) Q E pos O (T.keeps k) R' (F.up k) q')
  exact key
theorem vo {b:Bool} {a:PE} {e:Expr} (h:SC X c a e):kJ X c b (.cons a .nil) [e]:=fun env s α ρ H Q E O T R F q=>by
  simp only [bV] at q
  cases b
  · refine wpAny_allTrue_Or_cons (wpAny_mono (h env s α ρ H Q E O T R F q) (fun v s₁ p=>?_) fun _ _ x=>x)
    cases v
    · exact wpAny_allTrue_Or_nil p
    · exact p
  · refine wpAny_allTrue_And_cons (wpAny_mono (h env s α ρ H Q E O T R F q) (fun v s₁ p=>?_) fun _ _ x=>x)
    cases v
    · exact p
    · exact wpAny_allTrue_And_nil p
theorem rR {b:Bool} {a a2:PE} {r:PEs} {e e2:Expr} {es:List Expr} (h1:SC X c a e) (h2:kJ X c b (.cons a2 r) (e2 :: es)):kJ X c b (.cons a (.cons a2 r)) (e :: e2 :: es):=fun env s α ρ H Q E O T R F q=>by
  simp only [bV] at q
  have e0:(fun (v:V) (H1:Hp)=>ifSome (bn H1 v) fun t=>if t=b then bV X.sub X.Φ b (.cons a2 r) ρ H1 (fun v H'=>ifSome (bn H' v) fun t=>Q t H') else ifSome (bn H1 v) fun t=>Q t H1) =
      fun v H1=>ifSome (bn H1 v) fun t=>if t=b then bV X.sub X.Φ b (.cons a2 r) ρ H1 (fun v H'=>ifSome (bn H' v) fun t=>Q t H') else Q t H1:=by
    funext v H1
    generalize bn H1 v=o
    cases o <;> rfl
  rw [e0] at q
  have h:=h1 env s α ρ H _ E O T R F q
  cases b
  · refine wpAny_allTrue_Or_cons (wpAny_mono h (fun v s₁ p=>?_) fun _ _ x=>x)
    cases v
    · simp only [Bool.false_eq_true,if_false]
      refine p.then fun h₁ tk₁ β K d k f R' rr q'=>?_
      subst rr
      simp only [if_true] at q'
      exact h2 env { s with heap:=h₁,toks:=tk₁ } (α++β) ρ (H++K) Q E O (T.keeps k) R' (F.up k) q'
    · obtain ⟨h',tk',β',K',d',e',k',f',R',rfl,q'⟩:=p
      exact ⟨h',tk',β',K',_,e',k',f',R',rfl,q'⟩
  · refine wpAny_allTrue_And_cons (wpAny_mono h (fun v s₁ p=>?_) fun _ _ x=>x)
    cases v
    · obtain ⟨h',tk',β',K',d',e',k',f',R',rfl,q'⟩:=p
      exact ⟨h',tk',β',K',_,e',k',f',R',rfl,q'⟩
    · simp only [if_true]
      refine p.then fun h₁ tk₁ β K d k f R' rr q'=>?_
      subst rr
      simp only [if_true] at q'
      exact h2 env { s with heap:=h₁,toks:=tk₁ } (α++β) ρ (H++K) Q E O (T.keeps k) R' (F.up k) q'
theorem Cd {ps:PEs} {es:List Expr} {pos:Pos} (h:tY X c true ps es):SE X c (.and ps) (.BoolOp .And es pos):=fun env s α ρ H Q E O T R F q=>by
  rw [arm_eval_BoolOp]; exact h env s α ρ H Q E pos O T R F (by simpa only [qE1,qE2,qE5,qE6,qE7,qE8,qE9,fy,bh,fz,fB,aO,iw,br,g7,aY,hX,cJ,cY,dH] using q)
theorem Df {ps:PEs} {es:List Expr} {pos:Pos} (h:tY X c false ps es):SE X c (.or ps) (.BoolOp .Or es pos):=fun env s α ρ H Q E O T R F q=>by
  rw [arm_eval_BoolOp]; exact h env s α ρ H Q E pos O T R F (by simpa only [qE1,qE2,qE5,qE6,qE7,qE8,qE9,fy,bh,fz,fB,aO,iw,br,g7,aY,hX,cJ,cY,dH] using q)
theorem CJ {ps:PEs} {es:List Expr} {pos:Pos} (h:kJ X c true ps es):SC X c (.and ps) (.BoolOp .And es pos):=fun env s α ρ H Q E O T R F q =>
  wpAny_isTrue_BoolOp (h env s α ρ H Q E O T R F (by simpa only [qE1,qE2,qE5,qE6,qE7,qE8,qE9,fy,bh,fz,fB,aO,iw,br,g7,aY,hX,cJ,cY,dH] using q))
theorem Du {ps:PEs} {es:List Expr} {pos:Pos} (h:kJ X c false ps es):SC X c (.or ps) (.BoolOp .Or es pos):=fun env s α ρ H Q E O T R F q =>
  wpAny_isTrue_BoolOp (h env s α ρ H Q E O T R F (by simpa only [qE1,qE2,qE5,qE6,qE7,qE8,qE9,fy,bh,fz,fB,aO,iw,br,g7,aY,hX,cJ,cY,dH] using q))
end
end Mine
namespace Mine
open PySem PyProof.Rows PySem.Calls
noncomputable def bA (e:Expr):Bool:=match e with | .Starred ..=>false | _=>true
noncomputable def dm (es:List Expr):Bool:=es.all bA
theorem aL {e:Expr} {es:List Expr} {env:Env} (h:bA e=true):starEach (e :: es) env=(false,eval e env) :: starEach es env:=by
  cases e <;> first | rfl | cases h
theorem eJ {pos:Pos} {env:Env}:∀ {es:List Expr},dm es=true→(backTo pos (starEach es env)).any (·.1)=false
  | [],_=>rfl
  | e :: es,h=>by
    simp only [dm,List.all_cons,Bool.and_eq_true] at h
    rw [aL h.1]
    show (false || (backTo pos (starEach es env)).any (·.1))=false
    rw [eJ h.2]; rfl
section
variable {X:SX} {c:MC}
theorem uw {f:Nat} {x:Str} {ps:PEs} {e:Expr} {es:List Expr} {pos:Pos} (hΦ:jz X.prog X.w X.G c.g X.DT X.A X.Φ) (hf:c.g.fns[f]?=some x) (hn:bA e=true) (h:SEs X c ps (e :: es))
    (env:Env) (s:Shared) (α:List Addr) (ρ:Loc) (H:Hp) (Q:V→Hp→Prop) (E:Value→Shared→Prop) (O:bH c env) (T:GF X.G c.g X.DT s.heap) (R:HR X.G α s.heap H) (F:FI X.G c env α s.heap ρ)
    (q:eA X.sub X.Φ ps ρ H fun vs H1=>X.Φ f vs H1 Q fun _ _=>False) :
    wpAny (model X.prog X.w) X.A (callWith pos (.ref (X.G.fa f)) [] (backTo pos (starEach (e :: es) env)) []) (Post X.G (Rep X.G) s α H Q) E s:=by
  refine gE (T.fn f x hf) fun _ d o pm cd doc _ _ ho hd _=>?_
  refine callWith_def hd (wpAny_mono (h env s α ρ H _ E pos O T R F q) (fun vs s₁ p=>?_) fun _ _ y=>y) (aL hn)
  obtain ⟨h₁,tk₁,β,K,ds,rfl,k,f',R',r,q'⟩:=p
  refine ⟨k _ _ ho,?_⟩
  exact wpAny_mono (hΦ f x ds (H++K) Q hf q' { s with heap:=h₁,toks:=tk₁ } (α++β) vs E (T.keeps k) R' r.1) (fun _ _ p=>p.trans k f') fun _ _ y=>y
theorem Ag {f:Nat} {x:Str} {ps:PEs} {e:Expr} {es:List Expr} {p pos:Pos} (hΦ:jz X.prog X.w X.G c.g X.DT X.A X.Φ) (hf:c.g.fns[f]?=some x) (hx:c.isGlob x=true) (hn:bA e=true) (h:SEs X c ps (e :: es)) :
    SE X c (.call f ps) (.Call (.Name x p) (e :: es) [] pos):=fun env s α ρ H Q E O T R F q =>
  Call_ (iY O hx T.g (T.fn f x hf).1 (uw hΦ hf hn h env s α ρ H Q E O T R F (by simpa only [qE1,qE2,qE5,qE6,qE7,qE8,qE9,fy,bh,fz,fB,aO,iw,br,g7,aY,hX,cJ,cY,dH] using q)))
theorem yG {i f:Nat} {x y:Str} {ps:PEs} {e:Expr} {es:List Expr} {p pos:Pos} (hΦ:jz X.prog X.w X.G c.g X.DT X.A X.Φ) (hf:c.g.fns[f]?=some x) (hy:c.isVar i y=true) (hn:bA e=true) (h:SEs X c ps (e :: es)) :
    SE X c (.callv i f ps) (.Call (.Name y p) (e :: es) [] pos):=fun env s α ρ H Q E O T R F q=>by
  refine bU (ifSome.get q) fun v e1 zq12 q=>?_; subst zq12
  refine ad (F i y _ (MC.isVar_spec hy).1 e1) fun u hu r=>?_
  cases r with
  | fn e2=>subst e2; exact Call_ (eG O hy hu (uw hΦ hf hn h env s α ρ H Q E O T R F q))
theorem Aw : bootBuiltins "abs" = some (.builtin "abs") := by boot_by_name
theorem Ay : bootBuiltins "len" = some (.builtin "len") := by boot_by_name
theorem uO : bootBuiltins "int" = some (.type "int") := by boot_by_name
theorem qX : bootBuiltins "list" = some (.type "list") := by boot_by_name
theorem mI : bootBuiltins "tuple" = some (.type "tuple") := by boot_by_name
theorem zy : bootBuiltins "min" = some (.builtin "min") := by boot_by_name
theorem um : bootBuiltins "isinstance" = some (.builtin "isinstance") := by boot_by_name
theorem zX : bootBuiltins "reversed" = some (.type "reversed") := by boot_by_name
theorem vW : bootBuiltins "range" = some (.type "range") := by boot_by_name
theorem v6 : bootBuiltins "bool" = some (.type "bool") := by boot_by_name
theorem d7 {x:Str} {v:Value} {pos:Pos} {env:Env} {s:Shared} {Q:Value→Shared→Prop} {E:Value→Shared→Prop} (hb:bootBuiltins x=some v) (hm:x∈bltNames) (hx:c.isGlob x=true) (O:bH c env) (T:GF X.G c.g X.DT s.heap) (h:Q v s) :
    wpAny (model X.prog X.w) X.A (eval (.Name x pos) env) Q E s :=
  vY O hx T.g (T.blt x hm).1 T.b ((T.blt x hm).2.trans hb) h
theorem tt {x:Str} {id:String} {ps:PEs} {e:Expr} {es:List Expr} {p pos:Pos} {env:Env} {s:Shared} {α:List Addr} {ρ:Loc} {H:Hp} {Q:V→Hp→Prop} {Q1:List V→Hp→Prop} {E:Value→Shared→Prop}
    (hb:bootBuiltins x=some (.builtin id)) (hm:x∈bltNames) (hx:c.isGlob x=true) (hn:dm (e :: es)=true) (h:SEs X c ps (e :: es)) (O:bH c env) (T:GF X.G c.g X.DT s.heap) (R:HR X.G α s.heap H) (F:FI X.G c env α s.heap ρ)
    (q:eA X.sub X.Φ ps ρ H Q1)
    (hz:∀ h' tk β K vs ds,KeepsH s.heap h'→HR X.G (α++β) h' (H++K)→Reps X.G (α++β) h' vs ds→Q1 ds (H++K) →
      wpAny (model X.prog X.w) X.A (call (.builtin id) vs) (Post X.G (Rep X.G) { s with heap:=h',toks:=tk } (α++β) (H++K) Q) E { s with heap:=h',toks:=tk }) :
    wpAny (model X.prog X.w) X.A (eval (.Call (.Name x p) (e :: es) [] pos) env) (Post X.G (Rep X.G) s α H Q) E s:=by
  simp only [dm,List.all_cons,Bool.and_eq_true] at hn
  refine Call_ (d7 hb hm hx O T (callWith_builtin1 (wpAny_mono (h env s α ρ H _ E pos O T R F q) (fun vs s₁ p=>?_) fun _ _ y=>y) (aL hn.1) (eJ hn.2)))
  exact p.then fun h₁ tk₁ β K d k f R' r q'=>hz h₁ tk₁ β K vs d k R' r.1 q'
theorem rS {x:Str} {id:String} {ps:PEs} {e:Expr} {es:List Expr} {p pos:Pos} {env:Env} {s:Shared} {α:List Addr} {ρ:Loc} {H:Hp} {Q:V→Hp→Prop} {Q1:List V→Hp→Prop} {E:Value→Shared→Prop}
    (hb:bootBuiltins x=some (.type id)) (hm:x∈bltNames) (hx:c.isGlob x=true) (hn:dm (e :: es)=true) (h:SEs X c ps (e :: es)) (O:bH c env) (T:GF X.G c.g X.DT s.heap) (R:HR X.G α s.heap H) (F:FI X.G c env α s.heap ρ)
    (q:eA X.sub X.Φ ps ρ H Q1)
    (hz:∀ h' tk β K vs ds,KeepsH s.heap h'→HR X.G (α++β) h' (H++K)→Reps X.G (α++β) h' vs ds→Q1 ds (H++K) →
      wpAny (model X.prog X.w) X.A (call (.type id) vs) (Post X.G (Rep X.G) { s with heap:=h',toks:=tk } (α++β) (H++K) Q) E { s with heap:=h',toks:=tk }) :
    wpAny (model X.prog X.w) X.A (eval (.Call (.Name x p) (e :: es) [] pos) env) (Post X.G (Rep X.G) s α H Q) E s:=by
  simp only [dm,List.all_cons,Bool.and_eq_true] at hn
  refine Call_ (d7 hb hm hx O T (callWith_type1 (wpAny_mono (h env s α ρ H _ E pos O T R F q) (fun vs s₁ p=>?_) fun _ _ y=>y) (aL hn.1) (eJ hn.2)))
  exact p.then fun h₁ tk₁ β K d k f R' r q'=>hz h₁ tk₁ β K vs d k R' r.1 q'
end
end Mine
namespace Mine
open PySem PyProof PyProof.Rows
section
variable {prog:Program} {w:World} {A:Around} {E:Value→Shared→Prop} {s:Shared}
end
end Mine
namespace Mine
open PySem PyProof.Rows PySem.Calls
section
variable {prog:Program} {w:World} {A:Around} {E:Value→Shared→Prop} {s:Shared} {G:GV} {α:List Addr} {H:Hp} {Q:V→Hp→Prop}
theorem y4 {v:Value} {d:V} {xs:List V} (R:HR G α s.heap H) (r:Rep G α s.heap v d) (e:items H d=some xs) (q:Q (.lst H.length) (H++[xs])) :
    wpAny (model prog w) A (call (.type "list") [v]) (Post G (Rep G) s α H Q) E s := by
  refine ck (nk R r e) fun a vs zq22 rs z z' hk=>?_; subst zq22
  have hsz:vs.toArray.size≤sizeLine:=by rw [List.size_toArray]; exact Nat.le_trans z' d6
  have go : ∀ h' c', KeepsH s.heap h' → h'.get? s.heap.objs.size = some { cls := .type "list", dict := none, data := .seq vs.toArray c', slots := #[] } → Post G (Rep G) s α H Q (.ref s.heap.objs.size) { s with heap := h' } := fun h' c' k hg =>
    Post.newLst R k (rs.mono (fun _ _ e=>e) (.of k)) z q (cj _) ⟨c',hg⟩ s.toks
  rcases hk with ⟨⟨o,ho,hc,n,hd⟩,_⟩ | ⟨⟨o,ho,hc,n,hd⟩,_⟩
  · exact call_list_seq a (.inr rfl) ho hc hd go hsz
  · exact call_list_seq a (.inl rfl) ho hc hd go hsz
theorem wk {v:Value} {d:V} {xs:List V} (R:HR G α s.heap H) (r:Rep G α s.heap v d) (e:items H d=some xs) (q:Q (.tup xs) H) :
    wpAny (model prog w) A (call (.type "tuple") [v]) (Post G (Rep G) s α H Q) E s := by
  refine ck (nk R r e) fun a vs zq21 rs z z' hk=>?_; subst zq21
  have hsz:vs.toArray.size≤sizeLine:=by rw [List.size_toArray]; exact Nat.le_trans z' d6
  rcases hk with ⟨ht,ys,rfl⟩ | ⟨hl,n,rfl⟩
  · cases e
    exact call_tuple_tup ht (Post.same' R r q)
  · refine call_tuple_list hl (fun h' k=>?_) hsz
    have k2 : KeepsH s.heap (h'.push { cls := .type "tuple", data := .seq vs.toArray }) := KeepsH.trans k (a9 _ _)
    refine ⟨_,s.toks,[],[],.tup xs,rfl,k2,by simp,by simpa using R.keeps k2,?_,by simpa using q⟩
    exact Rep.tup (vs:=vs) ⟨_,Heap.get?_push_size _ rfl,rfl,_,rfl⟩ (rs.up k2) z
theorem CR {v:Value} {d:V} {xs:List V} (R:HR G α s.heap H) (r:Rep G α s.heap v d) (e:items H d=some xs) (q:Q (.int xs.length) H) :
    wpAny (model prog w) A (call (.builtin "len") [v]) (Post G (Rep G) s α H Q) E s := by
  refine ck (nk R r e) fun a vs zq20 rs z z' hk=>?_; subst zq20
  have hz:(vs.toArray.size:Int) < 2 ^ 63:=by have:vs.length≤1000000:=z'; simp; (exact om [vs.length] [] [(.le Y0 (.n 1000000))] (.il (.a (.c Y0) (.n 1)) (.n 9223372036854775808)) [[1,1]] rfl this)
  have hl:((vs.toArray.size:Nat):Int)=xs.length:=by simp [rs.len]
  rcases hk with ⟨ht,_⟩ | ⟨hl',_⟩
  · exact len_tuple ht hz (by rw [hl]; exact Post.same R (.int _ _) q _)
  · exact len_list hl' hz (by rw [hl]; exact Post.same R (.int _ _) q _)
theorem eB {b:Bi} {vs:List Value} {ds:List V} (hA:AOk prog A) (R:HR G α s.heap H) (r:Reps G α s.heap vs ds) (q:kZ b ds H Q) :
    match b with
    | .abs => wpAny (model prog w) A (call (.builtin "abs") vs) (Post G (Rep G) s α H Q) E s
    | .len => wpAny (model prog w) A (call (.builtin "len") vs) (Post G (Rep G) s α H Q) E s
    | .int => wpAny (model prog w) A (call (.type "int") vs) (Post G (Rep G) s α H Q) E s
    | .list => wpAny (model prog w) A (call (.type "list") vs) (Post G (Rep G) s α H Q) E s
    | .tuple => wpAny (model prog w) A (call (.type "tuple") vs) (Post G (Rep G) s α H Q) E s
    | .min => wpAny (model prog w) A (call (.builtin "min") vs) (Post G (Rep G) s α H Q) E s
    | .listrev=>True:=by
  cases b
  · rcases ds with _ | ⟨d,_ | ⟨_,_⟩⟩ <;> first | exact False.elim q | skip
    · cases d <;> first | exact False.elim q | skip
      refine ad (r.one_inv) fun v zq19 a=>?_; subst zq19
      obtain ⟨t,rfl⟩:=a.int_inv
      exact call_abs_int fun u tk=>Post.same R (.int _ _) q tk
    · cases d <;> exact False.elim q
  · rcases ds with _ | ⟨d,_ | ⟨_,_⟩⟩ <;> first | exact False.elim q | skip
    refine ad (r.one_inv) fun v zq18 a=>?_; subst zq18
    refine ad (ifSome.get q) fun xs e q=>?_; exact CR R a e q
  · rcases ds with _ | ⟨d,_ | ⟨_,_⟩⟩ <;> first | exact False.elim q | skip
    · cases d <;> first | exact False.elim q | skip
      refine ad (r.one_inv) fun v zq17 a=>?_; subst zq17
      cases a.bool_inv
      exact call_int_bool (Post.same R (.int _ _) q _)
    · cases d <;> exact False.elim q
  · rcases ds with _ | ⟨d,_ | ⟨_,_⟩⟩ <;> first | exact False.elim q | skip
    refine ad (r.one_inv) fun v zq16 a=>?_; subst zq16
    refine ad (ifSome.get q) fun xs e q=>?_; exact y4 R a e q
  · rcases ds with _ | ⟨d,_ | ⟨_,_⟩⟩ <;> first | exact False.elim q | skip
    refine ad (r.one_inv) fun v zq15 a=>?_; subst zq15
    refine ad (ifSome.get q) fun xs e q=>?_; exact wk R a e q
  · rcases ds with _ | ⟨d,_ | ⟨d',_ | ⟨_,_⟩⟩⟩ <;> first | exact False.elim q | (cases d <;> first | exact False.elim q | skip)
    all_goals (cases d' <;> first | exact False.elim q | skip)
    refine aJ (r.two_inv) fun v v' zq14 a a'=>?_; subst zq14
    obtain ⟨tx,rfl⟩:=a.int_inv
    obtain ⟨ty,rfl⟩:=a'.int_inv
    rename_i x y
    refine min_two_ints hA.handled fun h' tk k=>?_
    have:(if y < x then Value.int y ty else Value.int x tx)=Value.int (if y < x then y else x) (if y < x then ty else tx):=by split <;> rfl
    rw [this]
    exact ⟨h',tk,[],[],_,rfl,k,List.forall_mem_nil _,by rw [List.append_nil,List.append_nil]; exact R.keeps k,.int _ _,by rw [List.append_nil]; exact q⟩
  · trivial
theorem gP {n i:Nat} {k:Int} (h:cv n k=some i):i < n∧((0≤k∧k=i)∨(k < 0∧k+n=i)):=by
  unfold cv at h
  split at h
  · split at h
    · cases h; exact om [k.toNat,n] [k] [(.il (.n 0) Y0),(.il (.a Y0 (.n 1)) (.c Y1)),(.or (.an (.il (.n 0) Y0) (.ie (.c Y0) Y0)) (.an (.il Y0 (.n 0)) (.eq Y0 (.n 0))))] (.an (.le (.a Y0 (.n 1)) Y1) (.or (.an (.il (.n 0) Y0) (.ie Y0 (.c Y0))) (.an (.il (.a Y0 (.n 1)) (.n 0)) (.ie (.a Y0 (.c Y1)) (.c Y0))))) [[1,0,1,0,1],[1,1,1,0,1],[1,0,0,0,0,1],[1,0,1,0,0,1],[1,0,0,0,0,0,1],[1,0,0,0,1]] rfl (by assumption) (by assumption) (bo (k))
    · cases h
  · split at h
    · cases h; exact om [(k+(↑n:Int)).toNat,n] [k] [(.no (.il (.n 0) Y0)),(.il (.n 0) (.a Y0 (.c Y1))),(.or (.an (.il (.n 0) (.a Y0 (.c Y1))) (.ie (.c Y0) (.a Y0 (.c Y1)))) (.an (.il (.a Y0 (.c Y1)) (.n 0)) (.eq Y0 (.n 0))))] (.an (.le (.a Y0 (.n 1)) Y1) (.or (.an (.il (.n 0) Y0) (.ie Y0 (.c Y0))) (.an (.il (.a Y0 (.n 1)) (.n 0)) (.ie (.a Y0 (.c Y1)) (.c Y0))))) [[1,1,0,0,1],[1,1,1,0,1],[0,1,0,0,0,1],[0,1,0,1,0,1],[0,1,0,0,0,0,1],[0,1,0,0,1],[0,1,1]] rfl (by assumption) (by assumption) (bo (k+(↑n:Int)))
    · cases h
theorem nl {n i:Nat} {k:Int} (h:cv n k=some i):seqIndex? k n=some i:=by
  obtain ⟨h1,h2⟩:=gP h
  unfold seqIndex?
  rcases h2 with ⟨h0,h2⟩ | ⟨h0,h2⟩
  · have:¬ k < 0:=by (exact om [] [k] [(.il (.n 0) Y0)] (.no (.il (.a Y0 (.n 1)) (.n 0))) [[1,1]] rfl h0)
    simp only [this,if_false,Bool.and_eq_true,decide_eq_true_eq]
    rw [if_pos ⟨h0,by (exact om [n,i] [k] [(.le (.a Y1 (.n 1)) Y0),(.ie Y0 (.c Y1))] (.il (.a Y0 (.n 1)) (.c Y0)) [[1,1,1]] rfl h1 h2)⟩]; congr 1; (exact om [k.toNat,i] [k] [(.ie Y0 (.c Y1)),(.or (.an (.il (.n 0) Y0) (.ie (.c Y0) Y0)) (.an (.il Y0 (.n 0)) (.eq Y0 (.n 0))))] (.eq Y0 Y1) [[1,0,1,0,0,1],[1,0,1,1],[1,1,0,0,1],[1,0,0,0,1]] rfl h2 (bo (k)))
  · simp only [h0,if_true,Bool.and_eq_true,decide_eq_true_eq]
    rw [if_pos ⟨by (exact om [n,i] [k] [(.ie (.a Y0 (.c Y0)) (.c Y1))] (.il (.n 0) (.a Y0 (.c Y0))) [[1,0,1]] rfl h2),by (exact om [n,i] [k] [(.le (.a Y1 (.n 1)) Y0),(.ie (.a Y0 (.c Y0)) (.c Y1))] (.il (.a (.a Y0 (.c Y0)) (.n 1)) (.c Y0)) [[1,1,1]] rfl h1 h2)⟩]; congr 1; (exact om [(k+(↑n:Int)).toNat,n,i] [k] [(.ie (.a Y0 (.c Y1)) (.c Y2)),(.or (.an (.il (.n 0) (.a Y0 (.c Y1))) (.ie (.c Y0) (.a Y0 (.c Y1)))) (.an (.il (.a Y0 (.c Y1)) (.n 0)) (.eq Y0 (.n 0))))] (.eq Y0 Y2) [[1,0,1,0,0,1],[1,0,1,1],[1,1,0,0,1],[1,0,0,0,1]] rfl h2 (bo (k+(↑n:Int))))
theorem vp {value slice:Expr} {u v:Value} {x y:V} (hs:∀ o i,subscripted slice false o i=operate [o,i] (getItem o i)) (R:HR G α s.heap H) (ru:Rep G α s.heap u x) (rv:Rep G α s.heap v y) (q:cU x y H Q) :
    wpAny (model prog w) A (subscriptTail value slice u v) (Post G (Rep G) s α H Q) E s:=by
  cases rv with
  | int k t =>
    · refine ad (ifSome.get q) fun xs e q=>?_
      refine ad (ifSome.get q) fun i hp q=>?_
      refine ad (ifSome.get q) fun d hd q=>?_
      refine ck (nk R ru e) fun a vs zq13 rs z z' hk=>?_; subst zq13
      refine ad (rs.get hd) fun val aW rd=>?_
      have hz:vs.length≤1000000:=z'
      have hlen:=rs.len
      rw [← hlen] at hp
      obtain ⟨h1,h2⟩:=gP hp
      have hval':vs.toArray[i]?=some val:=by simpa using aW
      have b1:-(2 ^ 63)≤k:=by (clear hs R e hd q hp ru rs z z' hk aW rd hlen h1 hval'; omega)
      have b2:k < 2 ^ 63:=by (clear hs R e hd q hp ru rs z z' hk aW rd hlen hval' b1; omega)
      rcases hk with ⟨ht,_⟩ | ⟨hl,_⟩
      · exact item_tupleT (j:=i) ht b1 b2 (nl hp) aW (Post.same' R rd q) (hs _ _)
      · rcases h2 with ⟨h0,h2⟩ | ⟨h0,h2⟩
        · exact tail_any hl.typeIs slot_list_getitem.lookup (wpAny_getItem_list hl h0 b2 (by rw [show k.toNat=i by (exact om [k.toNat,i] [k] [(.ie Y0 (.c Y1)),(.or (.an (.il (.n 0) Y0) (.ie (.c Y0) Y0)) (.an (.il Y0 (.n 0)) (.eq Y0 (.n 0))))] (.eq Y0 Y1) [[1,0,1,0,0,1],[1,0,1,1],[1,1,0,0,1],[1,0,0,0,1]] rfl h2 (bo (k)))]; exact hval') (Post.same' R rd q)) (hs _ _)
        · refine tail_any hl.typeIs slot_list_getitem.lookup (wpAny_getItem_list_neg hl h0 (by simp; (exact om [vs.length,i] [k] [(.ie (.a Y0 (.c Y0)) (.c Y1))] (.il (.g (.c Y0)) Y0) [[1,0,1]] rfl h2)) b1 ?_ (Post.same' R rd q)) (hs _ _)
          rw [show (k+(vs.toArray.size:Int)).toNat=i by simp; (exact om [(k+(↑vs.length:Int)).toNat,vs.length,i] [k] [(.ie (.a Y0 (.c Y1)) (.c Y2)),(.or (.an (.il (.n 0) (.a Y0 (.c Y1))) (.ie (.c Y0) (.a Y0 (.c Y1)))) (.an (.il (.a Y0 (.c Y1)) (.n 0)) (.eq Y0 (.n 0))))] (.eq Y0 Y2) [[1,0,1,0,0,1],[1,0,1,1],[1,1,0,0,1],[1,0,0,0,1]] rfl h2 (bo (k+(↑vs.length:Int))))]; exact hval'
  | _=>exact False.elim q
theorem oz (n:Nat) (k:Int):clipAt n k=bX n k:=rfl
theorem vM {value slice:Expr} {u l h:Value} {x:V} {lo hi:Option V} {sl:Addr} (hs:∀ o i,subscripted slice false o i=operate [i,o] (getItem o i)) (R:HR G α s.heap H) (ru:Rep G α s.heap u x)
    (hsl:s.heap.IsSliceOf sl l h .none) (rl:(l=.none∧lo=none)∨∃ a ta,l=.int a ta∧lo=some (.int a)) (rh:(h=.none∧hi=none)∨∃ a ta,h=.int a ta∧hi=some (.int a)) (q:gA x lo hi H Q) :
    wpAny (model prog w) A (subscriptTail value slice u (.ref sl)) (Post G (Rep G) s α H Q) E s:=by
  unfold gA at q
  split at q
  · rename_i n
    refine ad (ifSome.get q) fun xs hx q=>?_
    refine ad (ifSome.get q) fun p hc q=>?_
    cases ru with
    | lst ha =>
      refine cu (R.getList ha hx) fun vs hl rs z z'=>?_
      have hlen:=rs.len
      have hsz:vs.toArray.size≤sizeLine:=by rw [List.size_toArray]; exact Nat.le_trans z' d6
      have key:∀ (lo' hi':Option Int),IsPart l lo'→IsPart h hi'→((vs.toArray.toList.drop (lo'.elim 0 (clipAt vs.toArray.size))).take (hi'.elim vs.toArray.size (clipAt vs.toArray.size) - lo'.elim 0 (clipAt vs.toArray.size)))=(vs.take p.2).drop p.1 →
          wpAny (model prog w) A (subscriptTail value slice (.ref _) (.ref sl)) (Post G (Rep G) s α H Q) E s:=fun lo' hi' pl ph he=>by
        refine tail_any hl.typeIs slot_list_getitem.lookup (wpAny_getItem_list_slice (st:=none) hl hsl pl ph .none (by intro e; cases e) ?_ hsz) (hs _ _)
        rw [slicePick_plain,he]
        refine Post.newLst' R ((rs.take p.2).drop p.1) ?_ q s.toks
        rw [List.length_drop,List.length_take]; (clear hs R hsl rl rh hx hc q ha hl rs z hsz pl ph he; omega)
      have dt:∀ a b:Nat,((vs.toArray.toList.drop a).take (b - a))=(vs.take b).drop a:=fun a b=>by simp [List.drop_take]
      unfold ny at hc
      rcases rl with ⟨rfl,rfl⟩ | ⟨a,ta,rfl,rfl⟩ <;> rcases rh with ⟨rfl,rfl⟩ | ⟨b,tb,rfl,rfl⟩ <;> simp only [Option.some.injEq] at hc <;> subst hc
      · refine key none none .none .none ?_
        simp [hlen]
      · refine key none (some b) .none (.int _ _) ?_
        simp [hlen,oz]
      · refine key (some a) none (.int _ _) .none ?_
        rw [dt]; simp [hlen,oz]
      · refine key (some a) (some b) (.int _ _) (.int _ _) ?_
        rw [dt]; simp [hlen,oz]
  · exact q.elim
end
end Mine
set_option maxRecDepth 100000
namespace Mine
open PySem PyProof.Rows PySem.Calls
theorem pV:Manifest.owners.lookup (String.ofList ['d','e','s','r','e','v','e','r'].reverse)=some Manifest.sig_reversed:=by kernel_rfl
theorem slot_rv_next : Slot "reversed" "__next__" "reversed.__next__" :=
  .of (owner := "reversed") (n := "__next__") (by rw [typeLookup_type, builtinLookup_eq_fast]; kernel_rfl) (by decide +kernel) (by decide +kernel) (by decide +kernel)
    (by first | exact .inl (by decide +kernel) | exact .inr (by decide +kernel)) (by rw [isSubtype_type]; kernel_rfl)
theorem gB : entryFor table "reversed.__next__" = some Builtin.«reversed.__next__» := entryFor_of_tree (by kernel_rfl)
theorem fO (a : Value) : argsOk "reversed.__next__" ⟨[a], []⟩ := by
  unfold argsOk; rw [signature?_of (id := "reversed.__next__") (n := ['_', '_', 't', 'x', 'e', 'n', '_', '_']) (o := ['d', 'e', 's', 'r', 'e', 'v', 'e', 'r']) (by kernel_rfl) pV]; kernel_rfl
theorem iB : Slot "reversed" "__iter__" "reversed.__iter__" :=
  .of (owner := "reversed") (n := "__iter__") (by rw [typeLookup_type, builtinLookup_eq_fast]; kernel_rfl) (by decide +kernel) (by decide +kernel) (by decide +kernel)
    (by first | exact .inl (by decide +kernel) | exact .inr (by decide +kernel)) (by rw [isSubtype_type]; kernel_rfl)
theorem kN (a : Value) : argsOk "reversed.__iter__" ⟨[a], []⟩ := by
  unfold argsOk; rw [signature?_of (id := "reversed.__iter__") (n := ['_', '_', 'r', 'e', 't', 'i', '_', '_']) (o := ['d', 'e', 's', 'r', 'e', 'v', 'e', 'r']) (by kernel_rfl) pV]; kernel_rfl
theorem mC : entryFor table "reversed.__iter__" = some Builtin.«dict_keyiterator.__iter__» := by
  first
  | exact entryFor_alias (id' := "dict_keyiterator.__iter__") (by kernel_rfl) (by first | rfl | decide +kernel | (unfold String.splitOn; simp +decide [String.splitOnAux])) (by decide +kernel) (by kernel_rfl)
theorem qL : typeLookup (.type "tuple") "__reversed__" = pure none := by rw [typeLookup_type, builtinLookup_eq_fast]; kernel_rfl
theorem lH : isSubtype (.type "tuple") (.type "dict") = pure false := by rw [isSubtype_type]; kernel_rfl
noncomputable def nC (t : Addr) (i : Int) : Obj := { cls := .type "reversed", data := .fields #[.ref t, rawInt i] }
noncomputable def IsRv (h : Heap) (a t : Addr) (i : Int) : Prop := ∃ o, h.get? a = some o ∧ o.cls = .type "reversed" ∧ o.data = .fields #[.ref t, rawInt i]
section
variable {prog:Program} {w:World} {A:Around} {E:Value→Shared→Prop} {s:Shared}
theorem IsRv.typeIs {a t : Addr} {i : Int} (x : IsRv s.heap a t i) : s.TypeIs (.ref a) "reversed" := let ⟨o, ho, hc, _⟩ := x; ⟨o, ho, hc⟩
theorem IsRv.at {h h':Heap} {a t:Addr} {i:Int} (x:IsRv h a t i) (e:∀ o,h.get? a=some o→h'.get? a=some o):IsRv h' a t i:=let ⟨o,ho,r⟩:=x; ⟨o,e _ ho,r⟩
theorem uN {it t:Addr} {i:Int} {Q:Value→Shared→Prop} (hit:IsRv s.heap it t i) (h:Q (.ref it) s):wpAny (model prog w) A (pyIter (.ref it)) Q E s:=by
  refine wpAny_pyIter_slot hit.typeIs iB (wpAny_call_entry iB hit.typeIs mC ?_ (kN _))
  show wpAny _ _ (ret (.ref it)) _ _ s
  exact wpAny_pure ⟨_, rfl, "reversed", _, hit.typeIs, slot_rv_next.lookup, h⟩
theorem Ax {it t:Addr} {i:Nat} {items:Array Value} {x:Value} {Q:Option Value→Shared→Prop} (hit:IsRv s.heap it t (i:Int)) (ht:IsTup s.heap t items) (hx:items[i]?=some x) (hsm:(i:Int) < 2 ^ 63)
    (hQ:∀ h' tk,IsRv h' it t ((i:Int) - 1)→Heap.SameBut it s.heap h'→Q (some x) { s with heap:=h',toks:=tk }):wpAny (model prog w) A (pyNext (.ref it)) Q E s:=by
  refine bU (id hit) fun o ho hc hd=>?_
  unfold pyNext
  refine wpAny_bind (wpAny_attempt (wpAny_callSpecial?_slot (name := Str.ofString "__next__") hit.typeIs slot_rv_next
    (wpAny_call_entry slot_rv_next hit.typeIs gB ?_ (fO _))))
  unfold Builtin.«reversed.__next__»
  refine wpAny_bind (wpAny_of_eq (a:=(Value.ref it,[])) rfl ?_)
  try dsimp only
  refine wpAny_bind (wpAny_field ho hd (x:=.ref t) rfl ?_)
  refine wpAny_bind (wpAny_field ho hd (x:=rawInt (i:Int)) rfl ?_)
  show wpAny _ _ (if (i:Int) < 0 then _ else _) _ _ s
  rw [if_neg (by (exact om [i] [] [] (.no (.il (.a (.c Y0) (.n 1)) (.n 0))) [[1]] rfl))]
  show wpAny _ _ (specialOf (.ref t) "__getitem__" >>= _) _ _ s
  refine wpAny_bind (wpAny_specialOf ht.typeIs slot_tuple_getitem.lookup ?_)
  show wpAny _ _ ((mkInt (i:Int)) >>= _) _ _ s
  refine wpAny_bind (wpAny_mkInt ?_)
  have hj:seqIndex? (i:Int) items.size=some i:=by
    have hlt:i < items.size:=(Array.getElem?_eq_some_iff.mp hx).1
    unfold seqIndex?
    have:¬ ((i:Int) < 0):=by (exact om [i] [] [] (.no (.il (.a (.c Y0) (.n 1)) (.n 0))) [[1]] rfl)
    simp only [this,if_false,Bool.and_eq_true,decide_eq_true_eq]
    rw [if_pos ⟨by (exact om [i] [] [] (.il (.n 0) (.c Y0)) [[1]] rfl),by (exact om [i,items.size] [] [(.le (.a Y0 (.n 1)) Y1)] (.il (.a (.c Y0) (.n 1)) (.c Y1)) [[1,1]] rfl hlt)⟩]; congr 1
  refine wpAny_bind (wpAny_attempt (getItem_tuple (s:={ s with toks:=s.toks+1 }) ht (by (exact om [i] [2 ^ 63] [(.il (.a (.c Y0) (.n 1)) Y0)] (.il (.g Y0) (.c Y0)) [[1,1]] rfl hsm)) hsm hj hx ?_))
  show wpAny _ _ (field (.ref it) 1 >>= _) _ _ _
  refine wpAny_bind (wpAny_field (s:={ s with toks:=s.toks+1 }) ho hd (x:=rawInt (i:Int)) rfl ?_)
  refine wpAny_bind (m:=setField (.ref it) 1 (rawInt ((i:Int) - 1))) (wpAny_setField (s:={ s with toks:=s.toks+1 }) ho hd (by simp) ?_)
  first
  | refine wpAny_pure ⟨x,rfl,wpAny_pure (hQ _ _ ?_ (Heap.SameBut.update ..))⟩
  | refine wpAny_bind (wpAny_pure (wpAny_pure ⟨x,rfl,wpAny_pure (hQ _ _ ?_ (Heap.SameBut.update ..))⟩))
  exact ⟨_,Heap.get?_update_self _ ho (Obj.isFreed_of_fields (Obj.data_mapFields hd _)),(Obj.cls_mapFields ..).trans hc,by
    rw [Obj.data_mapFields hd]; simp⟩
theorem Cz {it t:Addr} {Q:Option Value→Shared→Prop} (hh:A.handled=none) (hit:IsRv s.heap it t (-1))
    (hQ:∀ h',Heap.ExtBut it s.heap h'→Q none { s with heap:=h' }):wpAny (model prog w) A (pyNext (.ref it)) Q E s:=by
  refine bU (id hit) fun o ho hc hd=>?_
  unfold pyNext
  refine wpAny_bind (wpAny_attempt (wpAny_callSpecial?_slot (name := Str.ofString "__next__") hit.typeIs slot_rv_next
    (wpAny_call_entry slot_rv_next hit.typeIs gB ?_ (fO _))))
  unfold Builtin.«reversed.__next__»
  refine wpAny_bind (wpAny_of_eq (a:=(Value.ref it,[])) rfl ?_)
  try dsimp only
  refine wpAny_bind (wpAny_field ho hd (x:=.ref t) rfl ?_)
  refine wpAny_bind (wpAny_field ho hd (x:=rawInt (-1)) rfl ?_)
  show wpAny _ _ (if (-1:Int) < 0 then _ else _) _ _ s
  rw [if_pos (by decide)]
  refine wpAny_bind (wpAny_rule ?_)
  show wpAny _ _ ((do setField (.ref it) 1 (rawInt (-1)); setField (.ref it) 0 .none:Sem Unit) >>= _) _ _ _
  refine wpAny_bind (wpAny_bind (wpAny_setField ho hd (by simp) ?_))
  have ho1:(s.heap.update it (Obj.mapFields fun x=>x.setIfInBounds 1 (rawInt (-1)))).get? it=some (Obj.mapFields (fun x=>x.setIfInBounds 1 (rawInt (-1))) o) :=
    Heap.get?_update_self _ ho (Obj.isFreed_of_fields (Obj.data_mapFields hd _))
  have hd1:=Obj.data_mapFields hd (fun x=>x.setIfInBounds 1 (rawInt (-1)))
  refine wpAny_setField (s:={ s with heap:=s.heap.update it (Obj.mapFields fun x=>x.setIfInBounds 1 (rawInt (-1))) }) ho1 hd1 (by simp) ?_
  have hsb:Heap.SameBut it s.heap ((s.heap.update it (Obj.mapFields fun x=>x.setIfInBounds 1 (rawInt (-1)))).update it (Obj.mapFields fun x=>x.setIfInBounds 0 .none)) :=
    (Heap.SameBut.update ..).trans (Heap.SameBut.update ..)
  generalize (s.heap.update it (Obj.mapFields fun x=>x.setIfInBounds 1 (rawInt (-1)))).update it (Obj.mapFields fun x=>x.setIfInBounds 0 .none)=h2 at hsb ⊢
  first
  | show wpAny _ _ (newExc (.type "StopIteration") [] >>= _) _ _ _
  | (refine wpAny_bind ?_; show wpAny _ _ (newExc (.type "StopIteration") [] >>= _) _ _ _)
  refine wpAny_bind ?_
  simp only [newExc,newTuple]
  refine wpAny_bind (wpAny_newObj_type ?_ (by size_fits))
  refine wpAny_bind (m:=firstArgMember _ _) (wpAny_of_eq (a:=Value.none) (by first | rfl | (simp only [firstArgMember]; rfl)) ?_)
  refine wpAny_newObj_type ?_ (by size_fits)
  simp only [raiseNew]
  refine wpAny_bind (wpAny_handled ?_)
  first | rw [show A.in1.handled=none from hh] | rw [hh]
  refine wpAny_bind (wpAny_pure (wpAny_throw ?_))
  refine wpAny_bind (wpAny_isInstance (T := "StopIteration") (b := true) ⟨_, Heap.get?_push_size _ rfl, rfl⟩ isSubtype_stop ?_)
  exact wpAny_pure (hQ _ ((hsb.extBut.push _).push _))
theorem Walks.tupRev (hh:A.handled=none) (I t:Addr) (hne:t≠I) (items:Array Value) (hz:items.size≤1000000) :
    Walks prog w A I [I,t] [I] items.size (fun i v=>items[items.size - 1 - i]?=some v) (fun i h=>i≤items.size∧IsRv h I t ((items.size:Int) - 1 - (i:Int))∧IsTup h t items) where
  sub:=fun b hb=>by simp at hb; simp [hb]
  frame:=fun _ _ _ x hk=>⟨x.1,x.2.1.at fun o e=>hk I (by simp) o e,let ⟨o,ho,r⟩:=x.2.2; ⟨o,hk t (by simp) o ho,r⟩⟩
  item:=fun i s Q E hi x hQ=>by
    have e:(items.size:Int) - 1 - (i:Int)=((items.size - 1 - i:Nat):Int):=by (exact om [items.size,i,items.size - 1 - i,items.size - 1] [] [(.le (.a Y1 (.n 1)) Y0),(.or (.an (.le (.n 1) Y0) (.eq Y0 (.a Y3 (.n 1)))) (.an (.le Y0 (.n 1)) (.eq Y3 (.n 0)))),(.or (.an (.le Y1 Y3) (.eq Y3 (.a Y2 Y1))) (.an (.le Y3 Y1) (.eq Y2 (.n 0))))] (.ie (.s (.s (.c Y0) (.n 1)) (.c Y1)) (.c Y2)) [[1,0,0,0,1,0,0,1],[1,1,0,0,0,0,1],[1,1,0,1,0,0,0,1],[1,0,0,1,0,0,1],[1,0,0,1,0,1],[1,0,1]] rfl hi (aN (items.size) (1)) (aN (items.size - 1) (i)))
    have hit:=x.2.1
    rw [e] at hit
    have hlt:items.size - 1 - i < items.size:=by (exact om [items.size - 1 - i,items.size,i] [] [(.ie (.s (.s (.c Y1) (.n 1)) (.c Y2)) (.c Y0))] (.le (.a Y0 (.n 1)) Y1) [[1,0,1]] rfl e)
    refine Ax hit x.2.2 (x:=items[items.size - 1 - i]) (by simp [hlt]) (by (clear hh hne hi x hQ hit; omega)) fun h' tk hit' hs'=>?_
    refine hQ _ h' tk (by simp [hlt]) ⟨by (exact om [i,items.size] [] [(.le (.a Y0 (.n 1)) Y1)] (.le (.a Y0 (.n 1)) Y1) [[1,1]] rfl hi),?_,x.2.2.extBut hs'.extBut hne⟩ fun b o hb e=>hs'.extBut b o (fun h=>hb (by simp [h])) e
    have e2:(items.size:Int) - 1 - ((i+1:Nat):Int)=((items.size - 1 - i:Nat):Int) - 1:=by (exact om [items.size,i,items.size - 1 - i] [] [(.ie (.s (.s (.c Y0) (.n 1)) (.c Y1)) (.c Y2))] (.ie (.s (.s (.c Y0) (.n 1)) (.c (.a Y1 (.n 1)))) (.s (.c Y2) (.n 1))) [[1,0,1],[1,1]] rfl e)
    rw [e2]; exact hit'
  done:=fun s Q E x hQ=>by
    have hit:=x.2.1
    rw [show (items.size:Int) - 1 - (items.size:Int)=-1 by (exact om [items.size] [] [] (.ie (.s (.s (.c Y0) (.n 1)) (.c Y0)) (.g (.n 1))) [[1]] rfl)] at hit
    exact Cz hh hit fun h' he'=>hQ h' s.toks fun b o hb e=>he' b o (fun h=>hb (by simp [h])) e
  self:=fun _ _ _ _ x hQ=>uN x.2.1 hQ
theorem qH {t:Addr} {items:Array Value} {Q₁:Value→Shared→Prop} (ht:IsTup s.heap t items) (hz:(items.size:Int) < 2 ^ 63)
    (h:∀ tk,Q₁ (.ref s.heap.objs.size) { s with heap:=s.heap.push (nC t ((items.size:Int) - 1)),toks:=tk }) :
    codeAny (model prog w) A (.call (.builtin "reversed.__new__") ⟨[.type "reversed", .ref t], []⟩) (wants Q₁ E) s := by
  refine codeAny_of_tree ?_
  show wpAny _ A.in1 (do checkBuiltinCall "reversed.__new__" ⟨[.type "reversed", .ref t], []⟩; again (.builtin "reversed.__new__" ⟨[.type "reversed", .ref t], []⟩)) _ _ s
  refine wpAny_bind (wpAny_of_eq (F.newCall_reversed_1 _) (wpAny_pure ⟨plainId_quiet F.plain_reversed_new _,codeAny_builtin F.entry_reversed_new ?_⟩))
  rw [Around.under_plainId F.plain_reversed_new _]
  unfold Builtin.«reversed.__new__»
  refine wpAny_bind (wpAny_of_eq (newClass_reversed _) ?_)
  try dsimp only
  refine wpAny_bind (wpAny_of_eq (a:=()) (by first | rfl | kernel_rfl) ?_)
  refine wpAny_bind (wpAny_of_eq (a:=()) (by first | rfl | kernel_rfl) ?_)
  try dsimp only
  refine wpAny_bind (wpAny_specialOf ht.typeIs qL ?_)
  try dsimp only
  refine wpAny_bind (wpAny_bind (wpAny_isInstance ht.typeIs lH ?_))
  show wpAny _ _ (specialOf (.ref t) "__getitem__" >>= _) _ _ s
  refine wpAny_bind (wpAny_specialOf ht.typeIs slot_tuple_getitem.lookup ?_)
  show wpAny _ _ (if (["tuple.__getitem__", "str.__getitem__", "bytes.__getitem__", "bytearray.__getitem__", "memoryview.__getitem__", "numpy.ndarray.__getitem__", "sqlite3.Row.__getitem__"].contains "tuple.__getitem__") = true then _ else _) _ _ s
  rw [if_pos (by decide)]
  refine wpAny_pure ?_
  show wpAny _ _ (call (.builtin "len") [.ref t] >>= _) _ _ s
  refine wpAny_bind (len_tuple ht hz ?_)
  refine wpAny_bind (m:=asInt? _) (wpAny_of_eq (a:=some (items.size:Int)) (by rfl) ?_)
  try dsimp only
  refine wpAny_bind (m:=Builtin.SmallTypes.newRecord _ _) ?_
  unfold Builtin.SmallTypes.newRecord
  refine wpAny_newObj_type ?_ (by show Array.size _≤_; rw [sizeLine_eq]; simp)
  first
  | exact wpAny_pure (h _)
  | exact wpAny_bind (wpAny_pure (wpAny_pure (h _)))
theorem slot_rv_init : Slot "reversed" "__init__" "object.__init__" :=
  .of (owner := "object") (n := "__init__") (by rw [typeLookup_type, builtinLookup_eq_fast]; kernel_rfl) (by decide +kernel) (by decide +kernel) (by decide +kernel)
    (by first | exact .inl (by decide +kernel) | exact .inr (by decide +kernel)) (by rw [isSubtype_type]; kernel_rfl)
theorem jI : TypeCalled "reversed" "reversed.__new__" "object.__init__" :=
  ⟨by decide +kernel,F.create_reversed,⟨_,_,F.mro_reversed⟩,F.made_reversed,F.plain_reversed_new,F.sub_reversed_self,slot_rv_init⟩
theorem iF {t:Addr} {items:Array Value} {Q:Value→Shared→Prop} (ht:IsTup s.heap t items) (hz:(items.size:Int) < 2 ^ 63)
    (h : ∀ tk, Q (.ref s.heap.objs.size) { s with heap := s.heap.push (nC t ((items.size : Int) - 1)), toks := tk }) : wpAny (model prog w) A (call (.type "reversed") [.ref t]) Q E s := by
  refine callType_codes (Q₁:=fun obj s₁=>∃ tk,obj=.ref s.heap.objs.size∧s₁={ s with heap:=s.heap.push (nC t ((items.size:Int) - 1)),toks:=tk }) jI (F.typeCall_reversed_1 _) F.entry_object_init
    (qH ht hz fun tk=>⟨tk,rfl,rfl⟩) ?_
  intro obj s₁ zr1; refine ad (zr1) fun tk zq1 zq2=>?_; subst zq1; subst zq2
  have hT : Shared.TypeIs { s with heap := s.heap.push (nC t ((items.size : Int) - 1)), toks := tk } (.ref s.heap.objs.size) "reversed" := ⟨_, Heap.get?_push_size _ rfl, rfl⟩
  refine ⟨hT,F.args_object_init_2 _ _,?_⟩
  exact object_init_meets slot_rv_init.lookup F.made_reversed (by decide) prog w A.in1 _ _ ⟨hT,rfl,h tk⟩
end
end Mine
namespace Mine
open PySem PyProof.Rows PySem.Calls
theorem Reps.inv1 {G:GV} {α:List Addr} {h:Heap} {vs:List Value} {a:V} (r:Reps G α h vs [a]):∃ v,vs=[v]∧Rep G α h v a:=by
  cases r with | cons x r=>cases r with | nil=>exact ⟨_,rfl,x⟩
theorem Reps.inv2 {G:GV} {α:List Addr} {h:Heap} {vs:List Value} {a b:V} (r:Reps G α h vs [a,b]):∃ v w,vs=[v,w]∧Rep G α h v a∧Rep G α h w b:=by
  cases r with | cons x r=>refine ad (r.inv1) fun w zq29 y=>?_; subst zq29; exact ⟨_,_,rfl,x,y⟩
theorem Reps.inv3 {G:GV} {α:List Addr} {h:Heap} {vs:List Value} {a b c:V} (r:Reps G α h vs [a,b,c]):∃ v w u,vs=[v,w,u]∧Rep G α h v a∧Rep G α h w b∧Rep G α h u c:=by
  cases r with | cons x r=>refine aJ (r.inv2) fun w u zq28 y z=>?_; subst zq28; exact ⟨_,_,_,rfl,x,y,z⟩
noncomputable def zU (prog:Program) (w:World) (A:Around) (G:GV) (s:Shared) (α:List Addr) (xs:List V) (src:Option Nat) (it:Value) (s₂:Shared):Prop :=
  ∃ I fp wr P St h tk,it=.ref I∧s₂={ s with heap:=h,toks:=tk }∧KeepsH s.heap h∧Walks prog w A I fp wr xs.length P St∧St 0 h∧(∀ b∈wr,s.heap.get? b=none) ∧
    (∀ i h,St i h→∀ b∈wr,∃ o vs,h.get? b=some o∧o.data=.fields vs)∧(∀ b∈fp,∃ o,h.get? b=some o)∧(∀ b∈fp,b ∉ wr→(∃ n,src=some n∧α[n]?=some b)∨∃ items,IsTup h b items)∧(∀ i v,i < xs.length→P i v→∃ d,xs[i]?=some d∧Rep G α h v d)
section
variable {prog:Program} {w:World} {A:Around} {E:Value→Shared→Prop} {s:Shared} {G:GV} {α:List Addr} {H:Hp}
theorem xP {v:Value} {d:V} {xs:List V} (hA:AOk prog A) (R:HR G α s.heap H) (r:Rep G α s.heap v d) (e:items H d=some xs) :
    wpAny (model prog w) A (pyIter v) (zU prog w A G s α xs (jx d)) E s:=by
  refine ck (nk R r e) fun a vs zq27 rs z z' hk=>?_; subst zq27
  rcases hk with ⟨ht,ys,rfl⟩ | ⟨hl,n,rfl⟩
  · refine wpAny_pyIter_tuple ht ?_
    have hlt:a < s.heap.objs.size:=let ⟨o,ho,_⟩:=ht; Heap.lt_size ho
    have hne:a≠s.heap.objs.size:=Nat.ne_of_lt hlt
    have k := a9 s.heap { cls := .type "tuple_iterator", data := .fields #[.ref a, .int 0 0] }
    have ht':=ht.keeps k
    have W:=Walks.tuple (prog:=prog) (w:=w) hA.handled s.heap.objs.size a hne vs.toArray
    have hsz:vs.toArray.size=xs.length:=by rw [List.size_toArray,rs.len]
    rw [hsz] at W
    refine ⟨_,_,_,_,_,_,s.toks,rfl,rfl,k,W,⟨⟨_,Heap.get?_push_size _ rfl,rfl,rfl⟩,ht'⟩,?_,?_,?_,?_,?_⟩
    · intro b hb; simp at hb; subst hb; exact cj _
    · rintro i h ⟨⟨o,ho,_,hd⟩,_⟩ b hb; simp at hb; subst hb; exact ⟨o,_,ho,hd⟩
    · intro b hb; simp at hb
      rcases hb with rfl | rfl
      · exact ⟨_,Heap.get?_push_size _ rfl⟩
      · refine ad (ht') fun o ho _=>?_; exact ⟨o,ho⟩
    · intro b hb hw; simp at hb hw
      rcases hb with rfl | rfl
      · exact absurd rfl hw
      · exact .inr ⟨_,ht'⟩
    · intro i v _ hv
      refine ad (rs.get' (by simpa using hv)) fun d hd r=>?_
      exact ⟨d,hd,r.mono (fun _ _ e=>e) (.of k)⟩
  · refine wpAny_pyIter_list hl ?_
    have hlt:a < s.heap.objs.size:=let ⟨o,ho,_⟩:=hl; Heap.lt_size ho
    have hne:a≠s.heap.objs.size:=Nat.ne_of_lt hlt
    have k := a9 s.heap { cls := .type "list_iterator", data := .fields #[.ref a, .int 0 0] }
    have hl':=dw hl k
    have W:=Walks.list (prog:=prog) (w:=w) hA.handled s.heap.objs.size a hne vs.toArray
    have hsz:vs.toArray.size=xs.length:=by rw [List.size_toArray,rs.len]
    rw [hsz] at W
    refine ⟨_,_,_,_,_,_,s.toks,rfl,rfl,k,W,⟨⟨_,Heap.get?_push_size _ rfl,rfl,rfl⟩,hl'⟩,?_,?_,?_,?_,?_⟩
    · intro b hb; simp at hb; subst hb; exact cj _
    · rintro i h ⟨⟨o,ho,_,hd⟩,_⟩ b hb; simp at hb; subst hb; exact ⟨o,_,ho,hd⟩
    · intro b hb; simp at hb
      rcases hb with rfl | rfl
      · exact ⟨_,Heap.get?_push_size _ rfl⟩
      · refine ad (hl') fun o ho _=>?_; exact ⟨o,ho⟩
    · intro b hb hw; simp at hb hw
      rcases hb with rfl | rfl
      · exact absurd rfl hw
      · cases r with
        | lst ha=>exact .inl ⟨n,rfl,ha⟩
    · intro i v _ hv
      refine ad (rs.get' (by simpa using hv)) fun d hd r=>?_
      exact ⟨d,hd,r.mono (fun _ _ e=>e) (.of k)⟩
theorem eO {a b c:Int} (hc:c=1∨c=-1∨c=2):0≤Builtin.Range.rangeSize a b c:=by
  unfold Builtin.Range.rangeSize
  rcases hc with rfl | rfl | rfl <;> simp <;> (split <;> omega)
theorem nZ {a b c:Int} (hc:c=1∨c=-1∨c=2) (ha:cZ a) (hb:cZ b):Builtin.Range.rangeSize a b c≤2 ^ 41:=by
  unfold Builtin.Range.rangeSize
  obtain ⟨a1,a2⟩:=ha
  obtain ⟨b1,b2⟩:=hb
  rcases hc with rfl | rfl | rfl <;> simp <;> (split <;> omega)
theorem sL {a b c:Int} {t u v:Tok} {r:Addr} (hA:AOk prog A) (hr:IsRange s.heap r a b c t u v) (ha:cZ a) (hb:cZ b) (hc:c=1∨c=-1∨c=2) :
    wpAny (model prog w) A (pyIter (.ref r)) (zU prog w A G s α ((dF a b c).map V.int) none) E s:=by
  have hsm:Builtin.Range.small a b c=true:=by
    have h1:=eO (a:=a) (b:=b) hc
    have h2:=nZ hc ha hb
    obtain ⟨a1,a2⟩:=ha
    obtain ⟨b1,b2⟩:=hb
    have f:∀ x:Int,-(2 ^ 63)≤x→x < 2 ^ 63→Builtin.Range.rangeFitsLong x=true:=fun x p q=>by
      unfold Builtin.Range.rangeFitsLong
      rw [Bool.and_eq_true]; exact ⟨decide_eq_true p,decide_eq_true q⟩
    unfold Builtin.Range.small
    rw [f a (by (clear hA hr hc h1 h2 b1 b2 f; omega)) (by (clear hA hr hc h1 h2 b1 b2 f; omega)),f b (by (clear hA hr hc h1 h2 a1 a2 f; omega)) (by (clear hA hr hc h1 h2 a1 a2 f; omega)),f c (by (clear hA hr h1 h2 a1 a2 b1 b2 f; omega)) (by (clear hA hr h1 h2 a1 a2 b1 b2 f; omega)),f _ (by (clear hA hr hc a1 a2 b1 b2 f; omega)) (by (clear hA hr hc a1 a2 b1 b2 f; omega))]
    rcases hc with rfl | rfl | rfl
    · rw [if_pos (by decide),f _ (by (clear hA a1 a2 f hr h1 h2; omega)) (by (clear hA a1 a2 f hr h1 h2; omega))]; simp
    · rw [if_neg (by decide),f _ (by (clear hA a1 a2 f hr h1 h2; omega)) (by (clear hA a1 a2 f hr h1 h2; omega))]; simp
    · rw [if_pos (by decide),f _ (by (clear hA a1 a2 f hr h1 h2; omega)) (by (clear hA a1 a2 f hr h1 h2; omega))]; simp
  refine wpAny_pyIter_range hr hsm ?_
  have k := a9 s.heap { cls := .type "range_iterator", data := .fields #[rawInt a, rawInt (Builtin.Range.rangeSize a b c), rawInt c] }
  have hn:0≤Builtin.Range.rangeSize a b c:=eO hc
  have hlen:((dF a b c).map V.int).length=(Builtin.Range.rangeSize a b c).toNat:=by simp [dF]
  have W:=Walks.range (prog:=prog) (w:=w) hA.handled s.heap.objs.size a c (Builtin.Range.rangeSize a b c).toNat
  rw [← hlen] at W
  refine ⟨_,_,_,_,_,_,s.toks,rfl,rfl,k,W,?_,?_,?_,?_,?_,?_⟩
  · show IsRangeIter _ _ _ _ _
    rw [hlen]
    have e1:a+((0:Nat):Int)*c=a:=by simp
    have e2:(((Builtin.Range.rangeSize a b c).toNat:Nat):Int) - ((0:Nat):Int)=Builtin.Range.rangeSize a b c:=by (exact om [(Builtin.Range.rangeSize a b c).toNat] [Builtin.Range.rangeSize a b c] [(.il (.n 0) Y0),(.or (.an (.il (.n 0) Y0) (.ie (.c Y0) Y0)) (.an (.il Y0 (.n 0)) (.eq Y0 (.n 0))))] (.ie (.s (.c Y0) (.c (.n 0))) Y0) [[1,0,0,0,1],[1,0,1],[1,0,0,1],[1,1,0,1]] rfl hn (bo (Builtin.Range.rangeSize a b c)))
    rw [e1,e2]
    exact Heap.get?_push_size _ rfl
  · intro b hb; simp at hb; subst hb; exact cj _
  · intro i h hi b hb; simp at hb; subst hb; exact ⟨_,_,hi,rfl⟩
  · intro b hb; simp at hb; subst hb; exact ⟨_,Heap.get?_push_size _ rfl⟩
  · intro b hb hw; exact absurd hb hw
  · rintro i v hi ⟨t,rfl⟩
    rw [hlen] at hi
    refine ⟨.int (a+i*c),?_,.int _ _⟩
    simp [dF,List.getElem?_range hi,Int.mul_comm]
theorem yi {v:Value} {d:V} {xs:List V} (hA:AOk prog A) (R:HR G α s.heap H) (r:Rep G α s.heap v d) (e:items H d=some xs) :
    wpAny (model prog w) A (call (.type "reversed") [v]) (fun x s₁ => wpAny (model prog w) A (pyIter x) (zU prog w A G s α xs.reverse (jx d)) E s₁) E s := by
  refine ck (nk R r e) fun a vs zq26 rs z z' hk=>?_; subst zq26
  have hz:vs.length≤1000000:=z'
  have hsz:vs.toArray.size=xs.reverse.length:=by rw [List.size_toArray,rs.len,List.length_reverse]
  have get:∀ i v (h:Heap),KeepsH s.heap h→i < xs.reverse.length→vs.toArray[xs.reverse.length - 1 - i]?=some v→∃ d,xs.reverse[i]?=some d∧Rep G α h v d:=fun i v h k hi hv=>by
    refine ad (rs.get' (by simpa using hv)) fun d hd r=>?_
    refine ⟨d,?_,r.mono (fun _ _ e=>e) (.of k)⟩
    rw [List.length_reverse] at hi
    rw [List.getElem?_reverse hi]; exact hd
  rcases hk with ⟨ht,ys,rfl⟩ | ⟨hl,n,rfl⟩
  · have hlt:a < s.heap.objs.size:=let ⟨o,ho,_⟩:=ht; Heap.lt_size ho
    have hne:a≠s.heap.objs.size:=Nat.ne_of_lt hlt
    refine iF ht (by simp; (exact om [vs.length] [] [(.le Y0 (.n 1000000))] (.il (.a (.c Y0) (.n 1)) (.n 9223372036854775808)) [[1,1]] rfl hz)) fun tk=>?_
    have k:=a9 s.heap (nC a ((vs.toArray.size:Int) - 1))
    have ht':=ht.keeps k
    have hI:IsRv (s.heap.push (nC a ((vs.toArray.size:Int) - 1))) s.heap.objs.size a ((vs.toArray.size:Int) - 1):=⟨_,Heap.get?_push_size _ rfl,rfl,rfl⟩
    refine uN hI ?_
    have W:=Walks.tupRev (prog:=prog) (w:=w) hA.handled s.heap.objs.size a hne vs.toArray (by simp; (exact om [vs.length] [] [(.le Y0 (.n 1000000))] (.le Y0 (.n 1000000)) [[1,1]] rfl hz))
    rw [hsz] at W
    refine ⟨_,_,_,_,_,_,tk,rfl,rfl,k,W,⟨Nat.zero_le _,?_,ht'⟩,?_,?_,?_,?_,fun i v hi hv=>get i v _ k hi hv⟩
    · rw [← hsz]; simpa using hI
    · intro b hb; simp at hb; subst hb; exact cj _
    · rintro i h ⟨_,⟨o,ho,_,hd⟩,_⟩ b hb; simp at hb; subst hb; exact ⟨o,_,ho,hd⟩
    · intro b hb; simp at hb
      rcases hb with rfl | rfl
      · exact ⟨_,Heap.get?_push_size _ rfl⟩
      · refine ad (ht') fun o ho _=>?_; exact ⟨o,ho⟩
    · intro b hb hw; simp at hb hw
      rcases hb with rfl | rfl
      · exact absurd rfl hw
      · exact .inr ⟨_,ht'⟩
  · have hlt:a < s.heap.objs.size:=let ⟨o,ho,_⟩:=hl; Heap.lt_size ho
    have hne:a≠s.heap.objs.size:=Nat.ne_of_lt hlt
    refine call_reversed_list hl ?_
    have k:=a9 s.heap (revObj a ((vs.toArray.size:Int) - 1))
    have hl':=dw hl k
    have hI:(s.heap.push (revObj a ((vs.toArray.size:Int) - 1))).IsRevIter s.heap.objs.size a ((vs.toArray.size:Int) - 1):=⟨_,Heap.get?_push_size _ rfl,rfl,rfl⟩
    refine wpAny_pyIter_revIter hI ?_
    have W:=Walks.listRev (prog:=prog) (w:=w) hA.handled s.heap.objs.size a hne vs.toArray
    rw [hsz] at W
    refine ⟨_,_,_,_,_,_,s.toks,rfl,rfl,k,W,⟨Nat.zero_le _,?_,hl'⟩,?_,?_,?_,?_,fun i v hi hv=>get i v _ k hi hv⟩
    · rw [← hsz]; simpa using hI
    · intro b hb; simp at hb; subst hb; exact cj _
    · rintro i h ⟨_,⟨o,ho,_,hd⟩,_⟩ b hb; simp at hb; subst hb; exact ⟨o,_,ho,hd⟩
    · intro b hb; simp at hb
      rcases hb with rfl | rfl
      · exact ⟨_,Heap.get?_push_size _ rfl⟩
      · refine ad (hl') fun o ho _=>?_; exact ⟨o,ho⟩
    · intro b hb hw; simp at hb hw
      rcases hb with rfl | rfl
      · exact absurd rfl hw
      · cases r with
        | lst ha=>exact .inl ⟨n,rfl,ha⟩
end
noncomputable def sI (X:SX) (s:Shared) (α:List Addr) (H:Hp) (Q:List V→Option Nat→Hp→Prop) (it:Value) (s₂:Shared):Prop :=
  ∃ h₁ tk₁ β K xs src,KeepsH s.heap h₁∧(∀ b∈β,s.heap.get? b=none)∧HR X.G (α++β) h₁ (H++K)∧zU X.prog X.w X.A X.G { s with heap:=h₁,toks:=tk₁ } (α++β) xs src it s₂∧Q xs src (H++K)
noncomputable def SI (X:SX) (c:MC) (pi:PI) (e:Expr):Prop :=
  ∀ (env:Env) (s:Shared) (α:List Addr) (ρ:Loc) (H:Hp) (Q:List V→Option Nat→Hp→Prop) (E:Value→Shared→Prop),bH c env→GF X.G c.g X.DT s.heap→HR X.G α s.heap H→FI X.G c env α s.heap ρ →
    wpI X.sub X.Φ pi ρ H Q→wpAny (model X.prog X.w) X.A (eval e env) (fun xv s₁=>wpAny (model X.prog X.w) X.A (pyIter xv) (sI X s α H Q) E s₁) E s
section
variable {X:SX} {c:MC}
theorem Cy {pe:PE} {e:Expr} (hA:AOk X.prog X.A) (h:SE X c pe e):SI X c (.seq pe) e:=fun env s α ρ H Q E O T R F q=>by
  simp only [qI1,qI2,qI3] at q
  refine wpAny_mono (h env s α ρ H _ E O T R F q) (fun v s₁ p=>?_) fun _ _ x=>x
  obtain ⟨h₁,tk₁,β,K,d,rfl,k,f,R',r,q⟩:=p
  refine ad (ifSome.get q) fun xs e q=>?_
  exact wpAny_mono (xP (s:={ s with heap:=h₁,toks:=tk₁ }) hA R' r e) (fun it s₂ p=>⟨h₁,tk₁,β,K,xs,_,k,f,R',p,q⟩) fun _ _ x=>x
theorem Bu {pe : PE} {e : Expr} {p pos : Pos} (hA : AOk X.prog X.A) (hx : c.isGlob "reversed" = true) (hn : bA e = true) (h : SE X c pe e) : SI X c (.rev pe) (.Call (.Name "reversed" p) [e] [] pos) := fun env s α ρ H Q E O T R F q => by
  simp only [qI1,qI2,qI3] at q
  refine Call_ (d7 zX (by simp [bltNames]) hx O T (callWith_type1 (args_cons (wpAny_mono (h env s α ρ H _ E O T R F q) (fun v s₁ p=>args_nil ?_) fun _ _ x=>x) (aL hn)) (aL hn) rfl))
  obtain ⟨h₁,tk₁,β,K,d,rfl,k,f,R',r,q⟩:=p
  refine ad (ifSome.get q) fun xs e q=>?_
  refine wpAny_mono (yi (s:={ s with heap:=h₁,toks:=tk₁ }) hA R' r e) (fun x s₂ p=>?_) fun _ _ x=>x
  exact wpAny_mono p (fun it s₂ p=>⟨h₁,tk₁,β,K,_,_,k,f,R',p,q⟩) fun _ _ x=>x
theorem BM {ps : PEs} {e : Expr} {es : List Expr} {p pos : Pos} (hA : AOk X.prog X.A) (hx : c.isGlob "range" = true) (hn : dm (e :: es) = true) (h : SEs X c ps (e :: es)) : SI X c (.rng ps) (.Call (.Name "range" p) (e :: es) [] pos) := fun env s α ρ H Q E O T R F q => by
  simp only [qI1,qI2,qI3] at q
  simp only [dm,List.all_cons,Bool.and_eq_true] at hn
  refine Call_ (d7 vW (by simp [bltNames]) hx O T (callWith_type1 (wpAny_mono (h env s α ρ H _ E pos O T R F q) (fun vs s₁ p=>?_) fun _ _ y=>y) (aL hn.1) (eJ hn.2)))
  obtain ⟨h₁,tk₁,β,K,ds,rfl,k,f,R',r,a,b,cc,hr,ha,hb,hc,q⟩:=p
  obtain ⟨r,_⟩:=r
  have fin : ∀ (o : Obj) (tk : Nat) (t u v : Tok), o = { cls := .type "range", data := .fields #[.int a t, .int b u, .int cc v] } →
      wpAny (model X.prog X.w) X.A (pyIter (.ref h₁.objs.size)) (sI X s α H Q) E { s with heap:=h₁.push o,toks:=tk }:=fun o tk t u v ho=>by
    subst ho
    refine wpAny_mono (sL (s:={ s with heap:=h₁.push _,toks:=tk }) (G:=X.G) (α:=α++β) hA (IsRange.new h₁ a b cc t u v) ha hb hc) (fun it s₂ p=>?_) fun _ _ x=>x
    refine ⟨_,tk,β,K,_,_,KeepsH.trans k (a9 _ _),f,R'.keeps (a9 _ _),p,q⟩
  unfold AK at hr
  split at hr
  · cases hr
    refine ad (r.inv1) fun v1 zq25 x1=>?_; subst zq25
    cases x1
    exact call_range_1 (s:={ s with heap:=h₁,toks:=tk₁ }) (fin _ _ _ _ _ rfl)
  · cases hr
    refine aJ (r.inv2) fun v1 v2 zq24 x1 x2=>?_; subst zq24
    cases x1; cases x2
    exact call_range_2 (s:={ s with heap:=h₁,toks:=tk₁ }) (fin _ _ _ _ _ rfl)
  · cases hr
    refine bv (r.inv3) fun v1 v2 v3 zq23 x1 x2 x3=>?_; subst zq23
    cases x1; cases x2; cases x3
    exact call_range_3 (s:={ s with heap:=h₁,toks:=tk₁ }) (by (exact om [] [cc] [(.or (.ie Y0 (.n 1)) (.or (.ie Y0 (.g (.n 1))) (.ie Y0 (.n 2))))] (.no (.ie Y0 (.n 0))) [[1,0,0,1],[0,1,1]] rfl hc)) (fin _ _ _ _ _ rfl) (Or.inl (PyProof.noPylong_small (by (exact om [cc.natAbs] [cc] [(.or (.ie Y0 (.n 1)) (.or (.ie Y0 (.g (.n 1))) (.ie Y0 (.n 2)))),(.or (.an (.il (.n 0) Y0) (.ie (.c Y0) Y0)) (.an (.il Y0 (.n 0)) (.ie (.c Y0) (.g Y0))))] (.le (.a Y0 (.n 1)) (.n 1073741824)) [[1,1,0,0,1],[1,0,1,0,1]] rfl hc (bT (cc))))))
  · cases hr
end
end Mine
namespace Mine
open PySem PyProof.Rows PySem.Calls
noncomputable def KeepsLT (h h':Heap):Prop:=∀ a o items n,h.get? a=some o→o.data=.seq items n→h'.get? a=some o
theorem KeepsLT.trans {h h' h'':Heap} (a:KeepsLT h h') (b:KeepsLT h' h''):KeepsLT h h'':=fun x o _ _ e d=>b x o _ _ (a x o _ _ e d) d
theorem KeepsLT.tup {h h':Heap} (k:KeepsLT h h'):KeepsT h h':=fun a items ⟨o,ho,hc,n,hd⟩=>⟨o,k a o _ _ ho hd,hc,n,hd⟩
theorem KeepsLT.list {h h':Heap} (k:KeepsLT h h') {a:Addr} {items:Array Value} (x:h.IsList a items):h'.IsList a items:=let ⟨o,ho,hc,n,hd⟩:=x; ⟨o,k a o _ _ ho hd,hc,n,hd⟩
theorem KeepsLT.plain {h h':Heap} (k:KeepsLT h h') {a:Addr} {items:Array Value} (x:h.PlainList a items):h'.PlainList a items:=let ⟨n,e⟩:=x; ⟨n,k a _ _ _ e rfl⟩
theorem HR.lt' {G:GV} {α:List Addr} {h h':Heap} {H:Hp} (r:HR G α h H) (k:KeepsLT h h'):HR G α h' H :=
  ⟨r.len,r.nodup,r.pos,fun n a xs e1 e2=>let ⟨vs,l,q,z,p⟩:=r.lst n a xs e1 e2; ⟨vs,k.list l,q.mono (fun _ _ e=>e) k.tup,z,fun hn=>k.plain (p hn)⟩⟩
theorem KeepsLT.sameBut {h h':Heap} {b:Addr} (hs:Heap.SameBut b h h') (hb:∀ o,h.get? b=some o→∀ items n,o.data≠.seq items n):KeepsLT h h':=fun a o items n e d=>by
  by_cases hab:a=b
  · subst hab; exact absurd d (hb o e items n)
  · exact hs.extBut a o hab e
theorem gf {h:Heap} {b:Addr} {m:Str→Option Value} (hn:h.Ns b m):∀ o,h.get? b=some o→∀ items n,o.data≠.seq items n:=fun o e items n d=>by
  refine dQ (hn) fun o' es ep ho hd _=>?_
  rw [ho] at e; cases e; rw [hd] at d; cases d
theorem b7 {env:Env}:∀ {names:List (Str × NameKind)} {x:Str} {k:NameKind},names.lookup x=some k →
    (names.map fun (n,k)=>if (k == NameKind.free && env.scope.kind == .function && env.kindOf n == some .cell) then (n,NameKind.cell) else (n,k)).lookup x =
      some (if (k == NameKind.free && env.scope.kind == .function && env.kindOf x == some .cell) then NameKind.cell else k)
  | [],_,_,h=>by simp at h
  | (n,k') :: r,x,k,h=>by
    have ih:=@b7 env r x k
    show List.lookup x ((if (k' == NameKind.free && env.scope.kind == .function && env.kindOf n == some .cell)=true then (n,NameKind.cell) else (n,k')) :: _)=_
    cases hx:x == n with
    | true =>
      have hx':=beq_iff_eq.mp hx
      subst hx'
      simp only [List.lookup_cons,beq_self_eq_true] at h
      cases h
      by_cases hc:(k' == NameKind.free && env.scope.kind == .function && env.kindOf x == some .cell)=true
      · rw [if_pos hc,if_pos hc,List.lookup_cons,beq_self_eq_true]
      · rw [if_neg hc,if_neg hc,List.lookup_cons,beq_self_eq_true]
    | false =>
      simp only [List.lookup_cons,hx] at h
      by_cases hc:(k' == NameKind.free && env.scope.kind == .function && env.kindOf n == some .cell)=true
      · rw [if_pos hc]; simp only [List.lookup_cons,hx]; exact ih h
      · rw [if_neg hc]; simp only [List.lookup_cons,hx]; exact ih h
theorem dr {env:Env}:∀ {names:List (Str × NameKind)} {x:Str},names.lookup x=none →
    (names.map fun (n,k)=>if (k == NameKind.free && env.scope.kind == .function && env.kindOf n == some .cell) then (n,NameKind.cell) else (n,k)).lookup x=none
  | [],_,h=>by simp
  | (n,k') :: r,x,h=>by
    have ih:=@dr env r x
    show List.lookup x ((if (k' == NameKind.free && env.scope.kind == .function && env.kindOf n == some .cell)=true then (n,NameKind.cell) else (n,k')) :: _)=_
    cases hx:x == n with
    | true=>simp [List.lookup_cons,hx] at h
    | false =>
      simp only [List.lookup_cons,hx] at h
      by_cases hc:(k' == NameKind.free && env.scope.kind == .function && env.kindOf n == some .cell)=true
      · rw [if_pos hc]; simp only [List.lookup_cons,hx]; exact ih h
      · rw [if_neg hc]; simp only [List.lookup_cons,hx]; exact ih h
noncomputable def dg (env:Env):List (Str × NameKind)→List (Str × Addr)→List (Str × Addr)
  | [],acc=>acc
  | (n,k) :: r,acc=>dg env r (if k == .free then (n,(env.cells.lookup n).getD 0) :: acc else acc)
theorem kM (env:Env):∀ (names:List (Str × NameKind)) (acc:List (Str × Addr)),(∀ x∈names,x.2=.free→∃ c,env.cells.lookup x.1=some c) →
    (forIn names acc fun x (r:List (Str × Addr))=>(if x.2 == .free then do let c ← cellOf env x.1; pure (ForInStep.yield ((x.1,c) :: r)) else pure (ForInStep.yield r):Sem (ForInStep (List (Str × Addr)))))=pure (dg env names acc)
  | [],acc,_=>rfl
  | (n,k) :: r,acc,h=>by
    rw [List.forIn_cons]
    by_cases hk:k=.free
    · subst hk
      obtain ⟨c,hc⟩:=h _ List.mem_cons_self rfl
      dsimp only at hc
      have e:cellOf env n=pure c:=by unfold cellOf; rw [hc]
      simp only [beq_self_eq_true,if_true,e,pure_bind,dg,hc,Option.getD_some]
      exact kM env r _ fun x hx=>h x (List.mem_cons_of_mem _ hx)
    · have hb:(k == NameKind.free)=false:=by simpa using hk
      simp only [hb,Bool.false_eq_true,if_false,pure_bind,dg]
      exact kM env r _ fun x hx=>h x (List.mem_cons_of_mem _ hx)
theorem iO {scope:Scope} {env:Env} (h:∀ x∈scope.names,x.2=.free→∃ c,env.cells.lookup x.1=some c):closureFor scope env=pure (dg env scope.names []):=by
  have e:=kM env scope.names [] h
  unfold closureFor
  first
  | exact e
  | (simp only [bind_pure]; exact e)
theorem lV (env:Env) (n:Str):∀ (names:List (Str × NameKind)) (acc:List (Str × Addr)),((n,NameKind.free)∈names∨acc.lookup n=some ((env.cells.lookup n).getD 0))→(dg env names acc).lookup n=some ((env.cells.lookup n).getD 0)
  | [],acc,h=>by
    rcases h with h | h
    · simp at h
    · exact h
  | (m,k) :: r,acc,h=>by
    unfold dg
    refine lV env n r _ ?_
    by_cases hk:k=.free
    · subst hk
      simp only [beq_self_eq_true,if_true]
      by_cases hm:n=m
      · subst hm; right; simp [List.lookup_cons]
      · rcases h with h | h
        · left
          rcases List.mem_cons.mp h with h | h
          · cases h; exact absurd rfl hm
          · exact h
        · right
          have:(n == m)=false:=by simpa using hm
          simp [List.lookup_cons,this,h]
    · have hb:(k == NameKind.free)=false:=by simpa using hk
      simp only [hb,Bool.false_eq_true,if_false]
      rcases h with h | h
      · left
        rcases List.mem_cons.mp h with h | h
        · cases h; exact absurd rfl hk
        · exact h
      · right; exact h
theorem dJ {names:List (Str × NameKind)} {x:Str} {k:NameKind} (h:names.lookup x=some k):(x,k)∈names:=by
  induction names with
  | nil=>simp at h
  | cons p r ih =>
    obtain ⟨n,k'⟩:=p
    rw [List.lookup_cons] at h
    cases hx:x == n with
    | true=>rw [hx] at h; cases h; rw [beq_iff_eq.mp hx]; exact List.mem_cons_self
    | false=>rw [hx] at h; exact List.mem_cons_of_mem _ (ih h)
structure CompOk (c:MC) (sc:Scope) (x:Str) (cs:List Str) (caps:List Nat):Prop where
  kind:sc.kind=.function
  loc : ∀ p ∈ sc.names, p.2 = .local → p.1 = Str.ofString ".0" ∨ p.1 = x
  fre:∀ p∈sc.names,p.2=.free→p.1∈cs
  nocell:∀ p∈sc.names,p.2≠.cell
  tx:sc.names.lookup x=some .local
  cap:∀ n∈cs,sc.names.lookup n=some .free
  out:∀ n∈cs,c.scope.names.lookup n=some NameKind.cell∨c.scope.names.lookup n=some NameKind.free
  names:∀ y∈sc.names,y.2=.local→sc.names.lookup y.1=some .local
  cp:∀ (i j:Nat),caps[i]?=some j→∃ n,cs[i]?=some n∧c.names[j]?=some n
theorem CompOk.outer {c:MC} {sc:Scope} {x:Str} {cs:List Str} {caps:List Nat} {env:Env} (K:CompOk c sc x cs caps) (O:bH c env) {n:Str} (hn:n∈cs):(env.kindOf n=some .cell∨env.kindOf n=some .free)∧∃ a,env.cells.lookup n=some a:=by
  have h:env.kindOf n=some .cell∨env.kindOf n=some .free:=by
    rcases K.out n hn with h | h
    · exact .inl (O.cel n h)
    · exact O.fre n h
  exact ⟨h,O.cells n h⟩
theorem CompOk.clos {c:MC} {sc:Scope} {x:Str} {cs:List Str} {caps:List Nat} {env:Env} (K:CompOk c sc x cs caps) (O:bH c env):closureFor sc env=pure (dg env sc.names []) :=
  iO fun p hp hf=>(K.outer O (K.fre p hp hf)).2
theorem CompOk.closLook {c:MC} {sc:Scope} {x:Str} {cs:List Str} {caps:List Nat} {env:Env} (K:CompOk c sc x cs caps) (O:bH c env) {n:Str} (hn:n∈cs) {a:Addr} (ha:env.cells.lookup n=some a):(dg env sc.names []).lookup n=some a:=by
  rw [lV env n sc.names [] (.inl (dJ (K.cap n hn))),ha]; rfl
theorem CompOk.env {c:MC} {sc:Scope} {x:Str} {cs:List Str} {caps:List Nat} {env:Env} (K:CompOk c sc x cs caps) (O:bH c env) (C:Addr):bH ⟨c.g,sc,x :: cs⟩ (compEnvC sc (dg env sc.names []) C env) where
  kind:=K.kind
  globals:=O.globals
  builtins:=O.builtins
  loc:=fun y h=>b7 (env:=env) h
  glob:=fun y h=>b7 (env:=env) h
  cel:=fun y h=>absurd rfl (K.nocell _ (dJ h))
  fre:=fun y h=>by
    have:=b7 (env:=env) h
    by_cases hc:((NameKind.free == NameKind.free && env.scope.kind == .function && env.kindOf y == some .cell))=true
    · rw [if_pos hc] at this; exact .inl this
    · rw [if_neg hc] at this; exact .inr this
  cells:=fun y h=>by
    have hy:y∈cs:=by
      cases hl:sc.names.lookup y with
      | none =>
        have:=dr (env:=env) hl
        have h':(compEnvC sc (dg env sc.names []) C env).kindOf y=none:=this
        rw [h'] at h; rcases h with h | h <;> cases h
      | some k =>
        have:=b7 (env:=env) hl
        have h':(compEnvC sc (dg env sc.names []) C env).kindOf y=_:=this
        rw [h'] at h
        have hm:=dJ hl
        cases k with
        | free=>exact K.fre _ hm rfl
        | cell=>exact absurd rfl (K.nocell _ hm)
        | _=>simp at h
    obtain ⟨a,ha⟩:=(K.outer O hy).2
    exact ⟨a,K.closLook O hy ha⟩
theorem qO {ρ:Loc}:∀ {caps:List Nat} {i:Nat} {d:V},af (caps.map (af ρ)) i=some d→∃ j,caps[i]?=some j∧af ρ j=some d
  | [],i,d,h=>by simp [af] at h
  | j :: r,0,d,h=>⟨j,rfl,h⟩
  | j :: r,i+1,d,h=>by
    refine ad (qO (caps:=r) h) fun k a b=>?_
    exact ⟨k,by simpa using a,b⟩
theorem CompOk.vars {G:GV} {c:MC} {sc:Scope} {x:Str} {cs:List Str} {caps:List Nat} {env:Env} {α:List Addr} {h h':Heap} {ρ:Loc} {β:List Addr} {C:Addr} {m:Str→Option Value} {v:Value} {d:V}
    (K:CompOk c sc x cs caps) (O:bH c env) (F:FI G c env α h ρ) (k:KeepsH h h') (hn:h'.Ns C m) (hm:m x=some v) (r:Rep G (α++β) h' v d) :
    FI G ⟨c.g,sc,x :: cs⟩ (compEnvC sc (dg env sc.names []) C env) (α++β) h' (some d :: caps.map (af ρ)):=by
  intro i y e hy he
  cases i with
  | zero =>
    simp at hy; subst hy
    simp [af] at he; subst he
    exact ⟨v,.inl ⟨(K.env O C).loc x K.tx,m,hn,hm⟩,r⟩
  | succ i =>
    simp at hy
    refine ad (qO he) fun j hj hd=>?_
    refine ad (K.cp i j hj) fun n hn1 hn2=>?_
    have hyn:n=y:=by rw [hn1] at hy; exact Option.some.inj hy
    rw [hyn] at hn1 hn2
    have hmem:y∈cs:=List.mem_of_getElem? hn1
    refine ad (F j y e hn2 hd) fun u hu ru=>?_
    refine ⟨u,?_,ru.up k⟩
    obtain ⟨hk,a,ha⟩:=K.outer O hmem
    rcases hu with ⟨hl,_⟩ | ⟨_,cc,hc,hv⟩
    · rcases hk with hk | hk <;> rw [hk] at hl <;> cases hl
    · rw [ha] at hc; cases hc
      exact .inr ⟨(K.env O C).fre y (K.cap y hmem),a,K.closLook O hmem ha,g8 hv k⟩
end Mine
namespace Mine
open PySem PyProof.Rows PySem.Calls
section
variable {X:SX} {c:MC}
noncomputable def wm (X:SX) (c:MC) (po:PO) (ifs:List Expr):Prop :=
  match po with
  | .no=>ifs=[]
  | .some pe=>∃ e,ifs=[e]∧SC X c pe e
theorem vR {po:PO} {ifs:List Expr} (h:wm X c po ifs) (env:Env) (s:Shared) (α:List Addr) (ρ:Loc) (H:Hp) (Q:Bool→Hp→Prop) (E:Value→Shared→Prop) (O:bH c env) (T:GF X.G c.g X.DT s.heap) (R:HR X.G α s.heap H)
    (F:FI X.G c env α s.heap ρ) (q:wpO X.sub X.Φ po ρ H fun c H3=>ifSome (match c with | some c=>bn H3 c | none=>some true) fun t=>Q t H3) :
    wpAny (model X.prog X.w) X.A (forIn ifs true fun c r=>if r=true then do let ok ← isTrue c env (eval c env); pure (ForInStep.yield ok) else pure (ForInStep.yield r)) (Post X.G (fun _ _ a b=>a=b) s α H Q) E s:=by
  cases po with
  | no =>
    cases h
    simp only [qO1,qO2] at q
    exact wpAny_pure (Post.same' (d:=true) R rfl q)
  | some pe =>
    obtain ⟨e,rfl,h⟩:=h
    simp only [qO1,qO2] at q
    rw [List.forIn_cons]
    simp only [if_true]
    refine wpAny_bind (wpAny_bind (wpAny_mono (h env s α ρ H Q E O T R F q) (fun b s₁ p=>wpAny_pure ?_) fun _ _ x=>x))
    simp only [List.forIn_nil]
    exact wpAny_pure p
noncomputable def uc (X:SX) (s:Shared) (α:List Addr) (H:Hp) (Q:List V→Hp→Prop) (D C:Addr) (s':Shared):Prop :=
  ∃ h' tk β K ys ds m,s'={ s with heap:=h',toks:=tk }∧KeepsH s.heap h'∧(∀ b∈β,s.heap.get? b=none)∧HR X.G (α++β) h' (H++K)∧s.heap.get? D=none∧s.heap.get? C=none∧D≠C∧D ∉ α++β ∧
    h'.PlainList D ys.toArray∧Reps X.G (α++β) h' ys ds∧ds.length≤lim∧h'.Ns C m∧Q ds (H++K)
theorem nu {elt:Expr} {iter:Expr} {x:Str} {px pos:Pos} {ifs:List Expr} {sc:Scope} {cs:List Str} {pelt:PE} {caps:List Nat} {cond:PO}
    (K:CompOk c sc x cs caps) (h1:SE X ⟨c.g,sc,x :: cs⟩ pelt elt) (h2:wm X ⟨c.g,sc,x :: cs⟩ cond ifs)
    (env:Env) (s:Shared) (α:List Addr) (ρ:Loc) (H:Hp) (Q:List V→Hp→Prop) (E:Value→Shared→Prop) (O:bH c env) (T:GF X.G c.g X.DT s.heap) (F:FI X.G c env α s.heap ρ)
    (it:Value) (s₂:Shared)
    (hit:sI X s α H (fun xs _ H1=>xs.length≤lim∧cK (fun x H2 k=>ifSome (nj 1 x) fun ρt =>
      wpO X.sub X.Φ cond (ρt++caps.map (af ρ)) H2 fun c H3=>ifSome (match c with | some c=>bn H3 c | none=>some true) fun t =>
        if t then wpE X.sub X.Φ pelt (ρt++caps.map (af ρ)) H3 fun y H4=>k (some y) H4 else k none H3) xs H1 Q) it s₂)
    (RR:Value→Addr→Result→Shared→Prop) (hRR:∀ D C s',uc X s α H Q D C s'→RR (.ref D) C (.ok .next) s') :
    wpAny (model X.prog X.w) X.A (newList []) (fun acc s₃=>wpAny (model X.prog X.w) X.A (newFunctionEnv sc env.globals (dg env sc.names []) [] env.qual none .none (some env)) (fun cenv s₄ =>
      codeAny (model X.prog X.w) X.A (.compStart (.ListComp elt [⟨.Name x px,iter,ifs,0⟩] sc pos) 0 it acc { cenv with scope:=relabel sc env }) (RR acc cenv.locals) s₄) E s₃) E s₂:=by
  refine fQ (hit) fun h₁ tk₁ β₁ K₁ xs src k₁ f₁ R₁ zq3 hlen hgo=>?_; refine gk (zq3) fun I fp wr P St h₂ tk₂ zq3 zq4 k₂ W hst hwr hfield hfp hsrc hP=>?_; subst zq3; subst zq4
  dsimp only at k₂ hwr
  refine wpAny_newObj_type (wpAny_newFunctionEnv K.nocell (by intro y hy; simp at hy) (fun h₃ hns₃ hsb₃=>?_) K.kind)
  dsimp only at hns₃ hsb₃ ⊢
  generalize hH2 : h₂.push { cls := .type "list", dict := none, data := .seq ([] : List Value).toArray } = H2 at hns₃ hsb₃ ⊢
  have hC:H2.objs.size=h₂.objs.size+1:=by rw [← hH2,Heap.size_push]
  have hDC:h₂.objs.size≠H2.objs.size:=by rw [hC]; exact Nat.ne_of_lt (Nat.lt_succ_self _)
  generalize hCC:H2.objs.size=C at hns₃ hsb₃ hDC hC ⊢
  generalize hDD:h₂.objs.size=D at hDC hC ⊢
  have deadD:h₂.get? D=none:=by rw [← hDD]; exact cj _
  have deadC:h₂.get? C=none:=by
    cases e:h₂.get? C with
    | none=>rfl
    | some o=>exact absurd (Heap.lt_size e) (by rw [hDD,hC]; exact Nat.not_lt.mpr (Nat.le_succ _))
  have aliveNe:∀ b o,h₂.get? b=some o→b≠D∧b≠C:=fun b o e=>⟨fun q=>(by rw [q,deadD] at e; cases e),fun q=>(by rw [q,deadC] at e; cases e)⟩
  have old:KeepsH h₂ h₃:=fun b o e=>hsb₃.extBut b o (aliveNe b o e).2 (Heap.get?_push_of_some _ (hH2 ▸ Heap.get?_push_of_some _ e))
  have hacc:h₃.PlainList D ([]:List Value).toArray:=⟨_,hsb₃.extBut _ _ hDC (Heap.get?_push_of_some _ (hH2 ▸ hDD ▸ Heap.get?_push_size _ rfl))⟩
  have hst₃:St 0 h₃:=W.frame _ _ _ hst fun b _ o e=>old b o e
  have hDf:D ∉ fp:=fun hm=>by obtain ⟨o,e⟩:=hfp _ hm; rw [deadD] at e; cases e
  have hCf:C ∉ fp:=fun hm=>by obtain ⟨o,e⟩:=hfp _ hm; rw [deadC] at e; cases e
  have hDw:D ∉ wr:=fun hm=>hDf (W.sub _ hm)
  have hCw:C ∉ wr:=fun hm=>hCf (W.sub _ hm)
  have deadS:∀ b,h₁.get? b=none→s.heap.get? b=none:=fun b e=>by
    cases e':s.heap.get? b with
    | none=>rfl
    | some o=>have:=k₁ b o e'; rw [e] at this; cases this
  have deadS2:∀ b,h₂.get? b=none→s.heap.get? b=none:=fun b e=>deadS b (by
    cases e':h₁.get? b with
    | none=>rfl
    | some o=>have:=k₂ b o e'; rw [e] at this; cases this)
  -- whatever keeps h₂ off wr keeps s
  have keepS:∀ h':Heap,(∀ b o,b ∉ wr→h₂.get? b=some o→h'.get? b=some o)→KeepsH s.heap h':=fun h' hk b o e =>
    hk b o (fun hm=>by have:=hwr b hm; rw [k₁ b o e] at this; cases this) (k₂ b o (k₁ b o e))
  have keepT:∀ h':Heap,(∀ b o,b ∉ wr→h₂.get? b=some o→h'.get? b=some o)→KeepsT h₂ h':=fun h' hk=>by
    refine KeepsLT.tup fun a o items n e d=>hk a o (fun hm=>?_) e
    refine aX (hfield 0 h₂ hst a hm) fun o' vs e' d'=>?_
    rw [e] at e'; cases e'; rw [d] at d'; cases d'
  have D₁:D ∉ α++β₁:=fun hm=>by
    obtain ⟨n,hn⟩:=List.mem_iff_getElem?.mp hm
    obtain ⟨ys,hy⟩:=R₁.at hn
    refine ad (R₁.lst n D ys hn hy) fun us zq30 _=>?_; refine ad (zq30) fun o ho _=>?_
    have:=k₂ _ _ ho; rw [deadD] at this; cases this
  let step:V→Hp→(Option V→Hp→Prop)→Prop:=fun x H2 k=>ifSome (nj 1 x) fun ρt =>
      wpO X.sub X.Φ cond (ρt++caps.map (af ρ)) H2 fun c H3=>ifSome (match c with | some c=>bn H3 c | none=>some true) fun t =>
        if t then wpE X.sub X.Φ pelt (ρt++caps.map (af ρ)) H3 fun y H4=>k (some y) H4 else k none H3
  let Inv:Nat→Shared→Prop:=fun n s'=>∃ i h' tk γ KK ys ds m,s'={ s with heap:=h',toks:=tk }∧i≤xs.length∧n=xs.length+1 - i∧St i h'∧(∀ b o,b ∉ wr→h₂.get? b=some o→h'.get? b=some o) ∧
    (∀ b∈β₁++γ,s.heap.get? b=none)∧D ∉ α++(β₁++γ)∧HR X.G (α++(β₁++γ)) h' (H++KK)∧h'.PlainList D ys.toArray∧Reps X.G (α++(β₁++γ)) h' ys ds∧ds.length≤i∧h'.Ns C m ∧
    cK step (xs.drop i) (H++KK) (fun r H2=>Q (ds++r) H2)
  have loop:∀ s₃:Shared,s₃={ s with heap:=h₃,toks:=tk₂+([]:List (Str × Value)).length } →
      codeAny (model X.prog X.w) X.A (.compLoop (.ListComp elt [⟨.Name x px,iter,ifs,0⟩] sc pos) 0 (.ref I) (.ref D) (compEnvC sc (dg env sc.names []) C env)) (RR (.ref D) C) s₃:=by
    rintro s₃ rfl
    refine codeAny_compLoop_tests Inv ?_ (xs.length+1) ⟨0,h₃,_,[],K₁,[],[],_,rfl,Nat.zero_le _,rfl,hst₃,fun b o _ e=>old b o e,by simpa using f₁,by simpa using D₁,?_,hacc,.nil,Nat.le_refl _,hns₃,?_⟩
    · intro n s' zr2; refine eT (zr2) fun i h' tk γ KK ys ds m zq1 hi zq2 hsti hkeep hfresh hD' R' hpl rys hdl hns hgo'=>?_; subst zq1; subst zq2
      by_cases hlt:i < xs.length
      · refine W.item i _ _ _ hlt hsti fun v h'' tk' hPv hst'' hk''=>?_
        have lt1:KeepsLT h' h'':=fun a o items n e d=>hk'' a o (fun hm=>by
          refine aX (hfield i h' hsti a hm) fun o' vs e' d'=>?_
          rw [e] at e'; cases e'; rw [d] at d'; cases d') e
        have hns'':h''.Ns C m:=hns.at' fun o e=>hk'' C o hCw e
        refine wpAny_assign_Name (wpAny_storeName_local ((K.env O C).loc x K.tx) hns'' (fun h₄ hns₄ hsb₄=>?_) (by simp [compEnvC,relabel,K.kind]))
        have lt2:KeepsLT h'' h₄:=KeepsLT.sameBut hsb₄ (gf hns'')
        have hkeep₄:∀ b o,b ∉ wr→h₂.get? b=some o→h₄.get? b=some o:=fun b o hb e=>hsb₄.extBut b o (aliveNe b o e).2 (hk'' b o hb (hkeep b o hb e))
        have st₄:St (i+1) h₄:=W.frame _ _ _ hst'' fun b hb o e=>hsb₄.extBut b o (fun (q:b=C)=>hCf (q ▸ hb)) e
        have R₄:=(R'.lt' lt1).lt' lt2
        have kS:=keepS h₄ hkeep₄
        refine ad (hP i v hlt hPv) fun d hd rd=>?_
        have rd₄:Rep X.G (α++(β₁++γ)) h₄ v d:=by
          have:=rd.mono (α':=(α++β₁)++γ) dW (keepT h₄ hkeep₄)
          rwa [List.append_assoc] at this
        have hdrop:xs.drop i=d :: xs.drop (i+1):=by
          obtain ⟨hl,he⟩:=List.getElem?_eq_some_iff.mp hd
          rw [List.drop_eq_getElem_cons hl,he]
        rw [hdrop] at hgo'
        simp only [cK] at hgo'
        obtain ⟨ρt,hρ,hgo'⟩:=ifSome.get hgo'
        simp only [nj,Option.some.injEq] at hρ
        subst hρ
        have FI₄:=K.vars O F kS hns₄ (if_pos rfl) rd₄
        have T₄:GF X.G c.g X.DT h₄:=T.keeps kS
        refine wpAny_mono (vR h2 (compEnvC sc (dg env sc.names []) C env) { s with heap:=h₄,toks:=tk'+1 } (α++(β₁++γ)) _ (H++KK) _ _ (K.env O C) T₄ R₄ FI₄ hgo') (fun ok s₅ p=>?_) fun _ _ x=>x
        obtain ⟨h₅,tk₅,γ₅,K₅,t,rfl,k₅,f₅,R₅,rfl,q₅⟩:=p
        dsimp only at k₅ f₅
        have hD5:D ∉ (α++(β₁++γ))++γ₅:=fun hm=>by
          rcases List.mem_append.mp hm with hm | hm
          · exact hD' hm
          · have:=f₅ _ hm
            obtain ⟨nn,hh⟩:=lt2.plain (lt1.plain hpl)
            rw [hh] at this; cases this
        have fr5:∀ b∈β₁++(γ++γ₅),s.heap.get? b=none:=fun b hb=>by
          rw [← List.append_assoc] at hb
          rcases List.mem_append.mp hb with hb | hb
          · exact hfresh b hb
          · cases e:s.heap.get? b with
            | none=>rfl
            | some o=>have:=kS b o e; rw [f₅ b hb] at this; cases this
        have keep5:∀ b o,b ∉ wr→h₂.get? b=some o→h₅.get? b=some o:=fun b o hb e=>k₅ b o (hkeep₄ b o hb e)
        have ns5:=hns₄.keeps k₅
        have st5:St (i+1) h₅:=W.frame _ _ _ st₄ fun b _ o e=>k₅ b o e
        have pl5:h₅.PlainList D ys.toArray:=cG (lt2.plain (lt1.plain hpl)) k₅
        have rys5:Reps X.G ((α++(β₁++γ))++γ₅) h₅ ys ds:=((rys.mono (fun _ _ e=>e) (lt1.trans lt2).tup).up k₅)
        cases ok with
        | false =>
          simp only [Bool.false_eq_true,if_false] at q₅ ⊢
          refine ⟨xs.length+1 - (i+1),by (exact om [xs.length+1 - (i+1),xs.length,i,xs.length+1 - i] [] [(.le (.a Y2 (.n 1)) Y1),(.an (.le (.a Y1 (.n 1)) (.a Y3 Y2)) (.le Y3 (.a Y1 (.n 1)))),(.or (.an (.le (.a Y2 (.n 1)) (.a Y1 (.n 1))) (.eq (.a Y1 (.n 1)) (.a Y0 (.a Y2 (.n 1))))) (.an (.le (.a Y1 (.n 1)) (.a Y2 (.n 1))) (.eq Y0 (.n 0))))] (.le (.a Y0 (.n 1)) Y3) [[1,0,1,0,0,0,1],[1,1,1,0,0,1]] rfl hlt (dG (xs.length+1) (i)) (aN (xs.length+1) (i+1))),i+1,h₅,tk₅,γ++γ₅,KK++K₅,ys,ds,_,rfl,hlt,rfl,st5,keep5,fr5,by simpa using hD5,by simpa using R₅,pl5,by simpa using rys5,by (exact om [ds.length,i] [] [(.le Y0 Y1)] (.le Y0 (.a Y1 (.n 1))) [[1,1]] rfl hdl),ns5,?_⟩
          simpa using q₅
        | true =>
          simp only [if_true] at q₅ ⊢
          refine wpAny_mono (h1 (compEnvC sc (dg env sc.names []) C env) { s with heap:=h₅,toks:=tk₅ } ((α++(β₁++γ))++γ₅) _ ((H++KK)++K₅) _ _ (K.env O C) (T₄.keeps k₅) R₅ (FI₄.up k₅) q₅) (fun y s₆ p=>?_) fun _ _ x=>x
          obtain ⟨h₆,tk₆,γ₆,K₆,e,rfl,k₆,f₆,R₆,r₆,q₆⟩:=p
          dsimp only at k₆ f₆
          have pl6:=cG pl5 k₆
          have hlen6:ys.length≤lim:=by rw [rys5.len]; (clear K h1 h2 O T F hRR k₁ f₁ R₁ k₂ W hst hwr hfield hfp hsrc hP hgo hH2 hCC hns₃ hsb₃ hDD hDC hC deadD deadC aliveNe old hacc hst₃ hDf hCf hDw hCw deadS deadS2 keepS keepT D₁ hi hsti hkeep hfresh hD' R' hpl rys hns hPv hst'' hk'' lt1 hns'' hns₄ hsb₄ lt2 hkeep₄ st₄ R₄ kS hd rd rd₄ hdrop hgo' FI₄ T₄ k₅ f₅ R₅ hD5 fr5 keep5 ns5 st5 pl5 rys5 q₅ k₆ f₆ R₆ r₆ q₆ pl6; omega)
          refine wpAny_list_append_plain (s:={ s with heap:=h₆,toks:=tk₆ }) pl6 (fun h₇ pl7 hsb₇=>?_) (by simp; have:=d6; (clear K h1 h2 O T F hRR k₁ f₁ R₁ k₂ W hst hwr hfield hfp hsrc hP hlen hgo hH2 hCC hns₃ hsb₃ hDD hDC hC deadD deadC aliveNe old hacc hst₃ hDf hCf hDw hCw deadS deadS2 keepS keepT D₁ hi hsti hkeep hfresh hD' R' hpl rys hdl hns hlt hPv hst'' hk'' lt1 hns'' hns₄ hsb₄ lt2 hkeep₄ st₄ R₄ kS hd rd rd₄ hdrop hgo' FI₄ T₄ k₅ f₅ R₅ hD5 fr5 keep5 ns5 st5 pl5 rys5 q₅ k₆ f₆ R₆ r₆ q₆ pl6; omega))
          have hD6:D ∉ ((α++(β₁++γ))++γ₅)++γ₆:=fun hm=>by
            rcases List.mem_append.mp hm with hm | hm
            · exact hD5 hm
            · have:=f₆ _ hm
              obtain ⟨nn,hh⟩:=pl5
              rw [hh] at this; cases this
          have fr6:∀ b∈β₁++(γ++γ₅++γ₆),s.heap.get? b=none:=fun b hb=>by
            rw [← List.append_assoc] at hb
            rcases List.mem_append.mp hb with hb | hb
            · exact fr5 b hb
            · cases e:s.heap.get? b with
              | none=>rfl
              | some o=>have:=k₅ b o (kS b o e); rw [f₆ b hb] at this; cases this
          -- only D is written
          have nD:∀ b∈(((α++(β₁++γ))++γ₅)++γ₆),b≠D:=fun b hb q=>hD6 (q ▸ hb)
          have tup7:KeepsT h₆ h₇:=fun a items x=>x.extBut hsb₇.extBut fun q=>by
            subst q
            refine bU (x) fun o ho hc _=>?_
            obtain ⟨nn,hh⟩:=pl6
            rw [hh] at ho; cases ho; simp at hc
          have R₇:HR X.G (((α++(β₁++γ))++γ₅)++γ₆) h₇ (((H++KK)++K₅)++K₆) :=
            ⟨R₆.len,R₆.nodup,R₆.pos,fun n a xs e1 e2=>by
              refine cu (R₆.lst n a xs e1 e2) fun vs l q z p=>?_
              have hne:=nD a (List.mem_of_getElem? e1)
              exact ⟨vs,l.extBut hsb₇.extBut hne,q.mono (fun _ _ e=>e) tup7,z,fun hn=>let ⟨n',e'⟩:=p hn; ⟨n',hsb₇.extBut _ _ hne e'⟩⟩⟩
          have aliveD:∀ b o,h₂.get? b=some o→b≠D:=fun b o e=>(aliveNe b o e).1
          have ns7:=(ns5.keeps k₆).extBut hsb₇.extBut (Ne.symm hDC)
          refine ⟨xs.length+1 - (i+1),by (exact om [xs.length+1 - (i+1),xs.length,i,xs.length+1 - i] [] [(.le (.a Y2 (.n 1)) Y1),(.an (.le (.a Y1 (.n 1)) (.a Y3 Y2)) (.le Y3 (.a Y1 (.n 1)))),(.or (.an (.le (.a Y2 (.n 1)) (.a Y1 (.n 1))) (.eq (.a Y1 (.n 1)) (.a Y0 (.a Y2 (.n 1))))) (.an (.le (.a Y1 (.n 1)) (.a Y2 (.n 1))) (.eq Y0 (.n 0))))] (.le (.a Y0 (.n 1)) Y3) [[1,0,1,0,0,0,1],[1,1,1,0,0,1]] rfl hlt (dG (xs.length+1) (i)) (aN (xs.length+1) (i+1))),i+1,h₇,tk₆,γ++γ₅++γ₆,KK++K₅++K₆,ys++[y],ds++[e],_,rfl,hlt,rfl,?_,?_,fr6,by simpa using hD6,by simpa using R₇,?_,?_,by simp; (exact om [ds.length,i] [] [(.le Y0 Y1)] (.le Y0 Y1) [[1,1]] rfl hdl),ns7,?_⟩
          · exact W.frame _ _ _ st5 fun b hb o eo=>hsb₇.extBut b o (fun q=>hDf (q ▸ hb)) (k₆ b o eo)
          · exact fun b o hb eo=>hsb₇.extBut b o (aliveD b o eo) (k₆ b o (keep5 b o hb eo))
          · simpa using pl7
          · have:Reps X.G (((α++(β₁++γ))++γ₅)++γ₆) h₆ (ys++[y]) (ds++[e]):=(rys5.up k₆).append (.cons r₆ .nil)
            simpa using this.mono (fun _ _ e=>e) tup7
          · simpa using q₆
      · have hin:i=xs.length:=by (exact om [i,xs.length] [] [(.le Y0 Y1),(.no (.le (.a Y0 (.n 1)) Y1))] (.eq Y0 Y1) [[1,0,1],[1,1]] rfl hi hlt)
        subst hin
        refine W.done _ _ _ hsti fun h'' tk' hk''=>?_
        have lt1:KeepsLT h' h'':=fun a o items n e d=>hk'' a o (fun hm=>by
          refine aX (hfield _ h' hsti a hm) fun o' vs e' d'=>?_
          rw [e] at e'; cases e'; rw [d] at d'; cases d') e
        refine hRR D C _ ⟨h'',tk',β₁++γ,KK,ys,ds,m,rfl,keepS h'' fun b o hb e=>hk'' b o hb (hkeep b o hb e),hfresh,R'.lt' lt1,deadS2 _ deadD,deadS2 _ deadC,hDC,hD',lt1.plain hpl,rys.mono (fun _ _ e=>e) lt1.tup,by (clear K h1 h2 O T F hRR k₁ f₁ R₁ k₂ W hst hwr hfield hfp hsrc hP hgo hH2 hCC hns₃ hsb₃ hDD hDC hC deadD deadC aliveNe old hacc hst₃ hDf hCf hDw hCw deadS deadS2 keepS keepT D₁ hkeep hfresh hD' R' hpl rys hns hi hsti hgo' hlt hk'' lt1; omega),hns.at' fun o e=>hk'' C o hCw e,?_⟩
        simpa [cK] using hgo'
    · simpa using (R₁.keeps k₂).keeps old
    · simp only [List.drop_zero,List.nil_append]; exact hgo
  exact codeAny_compStart_list (loop _ rfl) (W.self 0 _ _ _ hst₃ (loop _ rfl))
end
end Mine
namespace Mine
open PySem PyProof.Rows PySem.Calls
noncomputable def kK (e:Expr):Bool:=match e with | .Set ..=>false | _=>true
theorem fF {e:Expr} (h:kK e=true) (env:Env) (x:Value):foldedSetIterable e env x=pure x:=by
  cases e <;> first | rfl | cases h
section
variable {X:SX} {c:MC}
theorem oa {s:Shared} {α:List Addr} {H:Hp} {Q:V→Hp→Prop} {D C:Addr} {s':Shared} (p:uc X s α H (fun ys H5=>Q (.lst H5.length) (H5++[ys])) D C s') {h'':Heap} (hs:Heap.SameBut C s'.heap h'') :
    Post X.G (Rep X.G) s α H Q (.ref D) { s' with heap:=h'' }:=by
  refine bO (p) fun h' tk β K ys ds m zq34 k f R dD dC hDC hD hpl rys z hn q=>?_; subst zq34
  have lt:KeepsLT h' h'':=KeepsLT.sameBut hs (gf hn)
  have kk:KeepsH s.heap h'':=fun b o e=>hs.extBut b o (fun q=>by rw [q,dC] at e; cases e) (k b o e)
  have R':=R.lt' lt
  refine ⟨h'',tk,β++[D],K++[ds],.lst (H++K).length,rfl,kk,?_,?_,?_,by simpa using q⟩
  · intro b hb
    rcases List.mem_append.mp hb with hb | hb
    · exact f b hb
    · simp at hb; subst hb; exact dD
  · have:=R'.push (.refl _) hD (lt.plain hpl) (rys.mono (fun _ _ e=>e) lt.tup) z
    simpa using this
  · refine Rep.lst ?_
    rw [← R.len,← List.append_assoc,List.getElem?_append_right (Nat.le_refl _)]; simp
theorem uf {elt iter:Expr} {x:Str} {px pos:Pos} {ifs:List Expr} {sc:Scope} {cs:List Str} {pelt:PE} {caps:List Nat} {pit:PI} {cond:PO}
    (K:CompOk c sc x cs caps) (h1:SE X ⟨c.g,sc,x :: cs⟩ pelt elt) (h2:wm X ⟨c.g,sc,x :: cs⟩ cond ifs) (h3:SI X c pit iter) (hns:kK iter=true) :
    SE X c (.comp pelt 1 caps pit cond) (.ListComp elt [⟨.Name x px,iter,ifs,0⟩] sc pos):=fun env s α ρ H Q E O T R F q=>by
  simp only [qE1,qE2,qE5,qE6,qE7,qE8,qE9,fy,bh,fz,fB,aO,iw,br,g7,aY,hX,cJ,cY,dH] at q
  rw [eval_ListComp]
  refine wpAny_comprehension_free (use:=none) rfl (fF hns env) (K.clos O) K.kind K.names (wpAny_mono (h3 env s α ρ H _ E O T R F q) (fun xv s₁ p=>wpAny_mono p (fun it s₂ p=>?_) fun _ _ e=>e) fun _ _ e=>e)
  refine nu K h1 h2 env s α ρ H _ E O T F it s₂ p (fun acc C=>compPost (model X.prog X.w) X.A E none (Post X.G (Rep X.G) s α H Q) acc C) fun D C s' p=>?_
  obtain ⟨m,hm⟩:∃ m,s'.heap.Ns C m:=by refine bO (p) fun h' tk β K ys ds m zq33 k f R dD dC hDC hD hpl rys z hn q=>?_; subst zq33; exact ⟨m,hn⟩
  exact ⟨m,hm,fun h' hs=>oa p hs⟩
theorem BR {a b:PE} {x i:Expr} {pos:Pos} (hs:(match i with | .Slice ..=>false | _=>true)=true) (h1:SE X c a x) (h2:SE X c b i):SE X c (.idx a b) (.Subscript x i pos):=fun env s α ρ H Q E O T R F q=>by
  simp only [qE1,qE2,qE5,qE6,qE7,qE8,qE9,fy,bh,fz,fB,aO,iw,br,g7,aY,hX,cJ,cY,dH] at q
  refine Subscript_ (two h1 h2 O T R F (Q:=fun x y H2=>cU x y H2 Q) q fun h' tk β K u v x y k f R' ru rv q'=>?_)
  refine wpAny_mono (vp (s:={ s with heap:=h',toks:=tk }) (fun o i'=>?_) R' ru rv q') (fun _ _ p=>p.trans k f) fun _ _ x=>x
  cases i <;> first | rfl | cases hs
noncomputable def SO (X:SX) (c:MC) (po:PO) (o:Option Expr):Prop :=
  match po with
  | .no=>o=none
  | .some pe=>∃ e,o=some e∧SE X c pe e
theorem pC {po:PO} {o:Option Expr} (h:SO X c po o) (env:Env) (s:Shared) (α:List Addr) (ρ:Loc) (H:Hp) (Q:Option V→Hp→Prop) (E:Value→Shared→Prop) (O:bH c env) (T:GF X.G c.g X.DT s.heap) (R:HR X.G α s.heap H)
    (F:FI X.G c env α s.heap ρ) (q:wpO X.sub X.Φ po ρ H Q) :
    wpAny (model X.prog X.w) X.A (valueOrNone (evalOpt o env)) (Post X.G (fun α h v (d:Option V)=>match d with | none=>v=.none | some d=>Rep X.G α h v d) s α H Q) E s:=by
  cases po with
  | no =>
    cases h
    simp only [qO1,qO2] at q
    exact wpAny_pure (Post.same' (d:=none) R rfl q)
  | some pe =>
    obtain ⟨e,rfl,h⟩:=h
    simp only [qO1,qO2] at q
    refine wpAny_mono (h env s α ρ H _ E O T R F q) (fun v s₁ p=>?_) fun _ _ x=>x
    obtain ⟨h₁,tk₁,β,K,d,e,k,f,R',r,q⟩:=p
    exact ⟨h₁,tk₁,β,K,some d,e,k,f,R',r,q⟩
theorem xN {x:V} {lo hi:Option V} {H:Hp} {Q:V→Hp→Prop} (q:gA x lo hi H Q):(lo=none∨∃ a,lo=some (.int a))∧(hi=none∨∃ a,hi=some (.int a)):=by
  unfold gA at q
  split at q
  · refine ad (ifSome.get q) fun xs _ q=>?_
    refine ad (ifSome.get q) fun p hc _=>?_
    unfold ny at hc
    split at hc
    · exact ⟨.inr ⟨_,rfl⟩,.inr ⟨_,rfl⟩⟩
    · exact ⟨.inl rfl,.inr ⟨_,rfl⟩⟩
    · exact ⟨.inr ⟨_,rfl⟩,.inl rfl⟩
    · exact ⟨.inl rfl,.inl rfl⟩
    · cases hc
  · exact q.elim
theorem BN {a:PE} {lo hi:PO} {x:Expr} {l h:Option Expr} {p pos:Pos} (h1:SE X c a x) (h2:SO X c lo l) (h3:SO X c hi h):SE X c (.slc a lo hi) (.Subscript x (.Slice l h none p) pos):=fun env s α ρ H Q E O T R F q=>by
  simp only [qE1,qE2,qE5,qE6,qE7,qE8,qE9,fy,bh,fz,fB,aO,iw,br,g7,aY,hX,cJ,cY,dH] at q
  refine Subscript_ (wpAny_mono (h1 env s α ρ H _ E O T R F q) (fun u s₁ p₁=>?_) fun _ _ x=>x)
  refine p₁.go fun h₁ tk₁ β₁ K₁ d₁ k₁ f₁ R₁ r₁ q₁=>?_
  rw [arm_eval_Slice]
  refine wpAny_bind (wpAny_mono (pC h2 env { s with heap:=h₁,toks:=tk₁ } (α++β₁) ρ (H++K₁) _ E O (T.keeps k₁) R₁ (F.up k₁) q₁) (fun lv s₂ p₂=>?_) fun _ _ x=>x)
  refine p₂.go fun h₂ tk₂ β₂ K₂ d₂ k₂ f₂ R₂ r₂ q₂=>?_
  dsimp only at k₂ f₂ ⊢
  refine wpAny_bind (wpAny_holding (wpAny_mono (pC h3 env { s with heap:=h₂,toks:=tk₂ } (α++β₁++β₂) ρ (H++K₁++K₂) _ E O (T.keeps (k₁.trans k₂)) R₂ ((F.up k₁).up k₂) q₂) (fun hv s₃ p₃=>?_) fun _ _ x=>x))
  refine p₃.go fun h₃ tk₃ β₃ K₃ d₃ k₃ f₃ R₃ r₃ q₃=>?_
  dsimp only at k₃ f₃ ⊢
  refine wpAny_bind (wpAny_holding (wpAny_pure ?_))
  refine wpAny_newObj_type ?_ (by show Array.size _≤_; rw [sizeLine_eq]; simp)
  dsimp only
  have k4 := a9 h₃ { cls := .type "slice", data := .fields #[lv, hv, .none] }
  have kk : KeepsH s.heap (h₃.push { cls := .type "slice", data := .fields #[lv, hv, .none] }) := ((k₁.trans k₂).trans k₃).trans k4
  have ff:∀ b∈β₁++β₂++β₃,s.heap.get? b=none:=fun b hb=>by
    rcases List.mem_append.mp hb with hb | hb
    · rcases List.mem_append.mp hb with hb | hb
      · exact f₁ b hb
      · cases e:s.heap.get? b with
        | none=>rfl
        | some o=>have:=k₁ b o e; rw [f₂ b hb] at this; cases this
    · cases e:s.heap.get? b with
      | none=>rfl
      | some o=>have:=k₂ b o (k₁ b o e); rw [f₃ b hb] at this; cases this
  have ru : Rep X.G (α ++ (β₁ ++ β₂ ++ β₃)) (h₃.push { cls := .type "slice", data := .fields #[lv, hv, .none] }) u d₁ := by
    have:=((r₁.up (β:=β₂) k₂).up (β:=β₃) k₃).mono (fun _ _ e=>e) (.of k4)
    simpa using this
  have R4 : HR X.G (α ++ (β₁ ++ β₂ ++ β₃)) (h₃.push { cls := .type "slice", data := .fields #[lv, hv, .none] }) (H ++ (K₁ ++ K₂ ++ K₃)) := by
    have:=R₃.keeps k4
    simpa using this
  have q4:gA d₁ d₂ d₃ (H++(K₁++K₂++K₃)) Q:=by simpa using q₃
  obtain ⟨e2,e3⟩:=xN q4
  have lo':(lv=.none∧d₂=none)∨∃ a ta,lv=.int a ta∧d₂=some (.int a):=by
    rcases e2 with rfl | ⟨a,rfl⟩
    · exact .inl ⟨r₂,rfl⟩
    · cases r₂ with | int i t=>exact .inr ⟨_,t,rfl,rfl⟩
  have hi':(hv=.none∧d₃=none)∨∃ a ta,hv=.int a ta∧d₃=some (.int a):=by
    rcases e3 with rfl | ⟨a,rfl⟩
    · exact .inl ⟨r₃,rfl⟩
    · cases r₃ with | int i t=>exact .inr ⟨_,t,rfl,rfl⟩
  exact wpAny_mono (vM (s := { s with heap := h₃.push { cls := .type "slice", data := .fields #[lv, hv, .none] }, toks := tk₃ }) (fun _ _ => rfl) R4 ru (Heap.IsSliceOf.new h₃ lv hv .none) lo' hi' q4) (fun _ _ p => p.trans kk ff) fun _ _ x => x
end
end Mine
namespace Mine
open PySem PyProof.Rows PySem.Calls
theorem ba {c:MC} {e:Expr} {x:Str} (h:c.isNm e x=true):∃ p,e=.Name x p∧c.isGlob x=true:=MC.isNm_spec h
theorem Av : (Str.ofString "abs") ∈ bltNames := by simp [bltNames]
theorem y7 : (Str.ofString "len") ∈ bltNames := by simp [bltNames]
theorem zO : (Str.ofString "int") ∈ bltNames := by simp [bltNames]
theorem yd : (Str.ofString "list") ∈ bltNames := by simp [bltNames]
theorem vS : (Str.ofString "tuple") ∈ bltNames := by simp [bltNames]
theorem Aa : (Str.ofString "min") ∈ bltNames := by simp [bltNames]
section
variable {X:SX} {c:MC}
theorem Dz {b:Bi} {f:Expr} {ps:PEs} {e:Expr} {es:List Expr} {pos:Pos} (hA:AOk X.prog X.A) (hb:b≠.listrev) (hf:c.isNm f (oX b)=true) (hn:dm (e :: es)=true) (h:SEs X c ps (e :: es)):SE X c (.bi b ps) (.Call f (e :: es) [] pos):=fun env s α ρ H Q E O T R F q=>by
  refine ad (ba hf) fun p zq46 hx=>?_; subst zq46
  simp only [qE1,qE2,qE5,qE6,qE7,qE8,qE9,fy,bh,fz,fB,aO,iw,br,g7,aY,hX,cJ,cY,dH] at q
  cases b with
  | abs=>exact tt Aw (Av) hx hn h O T R F q fun h' tk β K vs ds k R' r q'=>eB (b:=.abs) (s:={ s with heap:=h',toks:=tk }) hA R' r q'
  | len=>exact tt Ay (y7) hx hn h O T R F q fun h' tk β K vs ds k R' r q'=>eB (b:=.len) (s:={ s with heap:=h',toks:=tk }) hA R' r q'
  | int=>exact rS uO (zO) hx hn h O T R F q fun h' tk β K vs ds k R' r q'=>eB (b:=.int) (s:={ s with heap:=h',toks:=tk }) hA R' r q'
  | list=>exact rS qX (yd) hx hn h O T R F q fun h' tk β K vs ds k R' r q'=>eB (b:=.list) (s:={ s with heap:=h',toks:=tk }) hA R' r q'
  | tuple=>exact rS mI (vS) hx hn h O T R F q fun h' tk β K vs ds k R' r q'=>eB (b:=.tuple) (s:={ s with heap:=h',toks:=tk }) hA R' r q'
  | min=>exact tt zy (Aa) hx hn h O T R F q fun h' tk β K vs ds k R' r q'=>eB (b:=.min) (s:={ s with heap:=h',toks:=tk }) hA R' r q'
  | listrev=>exact absurd rfl hb
noncomputable def AI:Ty→String
  | .int => "int" | .bool => "bool" | .tuple => "tuple" | .list => "list" | .cls _ => ""
theorem vC {prog:Program} {w:World} {A:Around} {E:Value→Shared→Prop} {s:Shared} {G:GV} {α:List Addr} {H:Hp} {Q:V→Hp→Prop} {u:Value} {x:V} {t:Ty} {b:Bool} {sub:Nat→Nat→Bool}
    (R : HR G α s.heap H) (r : Rep G α s.heap u x) (e : Aj sub x t = some b) (q : Q (.bool b) H) : wpAny (model prog w) A (call (.builtin "isinstance") [u, .type (AI t)]) (Post G (Rep G) s α H Q) E s := by
  have yes:b=true→Post G (Rep G) s α H Q (.bool true) s:=fun h=>by subst h; exact Post.same' R (.bool _) q
  have no:b=false→Post G (Rep G) s α H Q (.bool false) { s with toks:=s.toks+1 }:=fun h=>by subst h; exact Post.same R (.bool _) q _
  cases r with
  | int i tk=>cases t <;> first
    | exact IsiPair.int_int (yes (Option.some.inj e).symm) | exact IsiPair.int_bool (no (Option.some.inj e).symm) | exact IsiPair.int_tuple (no (Option.some.inj e).symm) | exact IsiPair.int_list (no (Option.some.inj e).symm) | cases e
  | bool i=>cases t <;> first
    | exact IsiPair.bool_int (yes (Option.some.inj e).symm) | exact IsiPair.bool_bool (yes (Option.some.inj e).symm) | exact IsiPair.bool_tuple (no (Option.some.inj e).symm) | exact IsiPair.bool_list (no (Option.some.inj e).symm) | cases e
  | none=>cases t <;> first
    | exact IsiPair.NoneType_int (no (Option.some.inj e).symm) | exact IsiPair.NoneType_bool (no (Option.some.inj e).symm) | exact IsiPair.NoneType_tuple (no (Option.some.inj e).symm) | exact IsiPair.NoneType_list (no (Option.some.inj e).symm) | cases e
  | str i tk=>cases t <;> first
    | exact IsiPair.str_int (no (Option.some.inj e).symm) | exact IsiPair.str_bool (no (Option.some.inj e).symm) | exact IsiPair.str_tuple (no (Option.some.inj e).symm) | exact IsiPair.str_list (no (Option.some.inj e).symm) | cases e
  | tup ht rs z=>cases t <;> first
    | exact IsiPair.isTuple_int ht (fun _ _ e=>e) (no (Option.some.inj e).symm) | exact IsiPair.isTuple_bool ht (fun _ _ e=>e) (no (Option.some.inj e).symm) | exact IsiPair.isTuple_tuple ht (fun _ _ e=>e) (yes (Option.some.inj e).symm) | exact IsiPair.isTuple_list ht (fun _ _ e=>e) (no (Option.some.inj e).symm) | cases e
  | lst ha =>
    obtain ⟨xs,hx⟩:=R.at ha
    refine ad (R.getList ha hx) fun vs hl _=>?_
    cases t <;> first
    | exact IsiPair.isList_int hl (fun _ _ e=>e) (no (Option.some.inj e).symm) | exact IsiPair.isList_bool hl (fun _ _ e=>e) (no (Option.some.inj e).symm) | exact IsiPair.isList_tuple hl (fun _ _ e=>e) (no (Option.some.inj e).symm) | exact IsiPair.isList_list hl (fun _ _ e=>e) (yes (Option.some.inj e).symm) | cases e
  | fn _=>cases t <;> cases e
theorem kY {G:GV} {α:List Addr} {h:Heap} {u:Value} {x:V} {sub:Nat→Nat→Bool} (r:Rep G α h u x) {ts:List Ty} {bs:List Bool} (hc:ts.any Ty.isCls=true) (e:ts.mapM (Aj sub x)=some bs):False:=by
  induction ts generalizing bs with
  | nil=>simp at hc
  | cons t ts ih =>
    simp only [List.mapM_cons,Option.bind_eq_bind,Option.bind_eq_some_iff,Option.pure_def,Option.some.injEq] at e
    refine oE (e) fun d e1 ds' e2 zq45=>?_; subst zq45
    simp only [List.any_cons,Bool.or_eq_true] at hc
    rcases hc with hc | hc
    · cases t <;> simp [Ty.isCls] at hc
      cases r <;> cases e1
    · exact ih hc e2
theorem B4 {t:Ty} {e:Expr} (ht:t.isCls=false) (he:c.isTyp t e=true) (env:Env) (s:Shared) (Z:Value→Shared→Prop) (E:Value→Shared→Prop) (O:bH c env) (T:GF X.G c.g X.DT s.heap) (hz:Z (.type (AI t)) s) :
    bA e=true∧wpAny (model X.prog X.w) X.A (eval e env) Z E s:=by
  cases t with
  | int=>refine ad (ba he) fun p zq44 hx=>?_; subst zq44; exact ⟨rfl,d7 uO (by simp [bltNames]) hx O T hz⟩
  | bool=>refine ad (ba he) fun p zq43 hx=>?_; subst zq43; exact ⟨rfl,d7 v6 (by simp [bltNames]) hx O T hz⟩
  | tuple=>refine ad (ba he) fun p zq42 hx=>?_; subst zq42; exact ⟨rfl,d7 mI (by simp [bltNames]) hx O T hz⟩
  | list=>refine ad (ba he) fun p zq41 hx=>?_; subst zq41; exact ⟨rfl,d7 qX (by simp [bltNames]) hx O T hz⟩
  | cls k=>simp [Ty.isCls] at ht
theorem B7 {t:Ty} {e:Expr} (he:c.isTyp t e=true):bA e=true:=by
  cases t <;> simp only [MC.isTyp] at he <;> first
    | (refine ad (ba he) fun p zq40 hx=>?_; subst zq40; rfl)
    | (split at he
       · refine ad (ba he) fun p zq39 hx=>?_; subst zq39; rfl
       · cases he)
theorem Ac {a : PE} {t : Ty} {f x te : Expr} {pos : Pos} (hf : c.isNm f "isinstance" = true) (hn : bA x = true) (h : SE X c a x) (ht : c.isTyp t te = true) : SE X c (.isi a [t]) (.Call f [x, te] [] pos) := fun env s α ρ H Q E O T R F q => by
  refine ad (ba hf) fun p zq38 hx=>?_; subst zq38
  simp only [qE1,qE2,qE5,qE6,qE7,qE8,qE9,fy,bh,fz,fB,aO,iw,br,g7,aY,hX,cJ,cY,dH] at q
  have hst:=B7 ht
  refine Call_ (d7 um (by simp [bltNames]) hx O T (callWith_builtin1 (args_cons (wpAny_mono (h env s α ρ H _ E O T R F q) (fun u s₁ p=>?_) fun _ _ y=>y) (aL hn)) (aL hn) (eJ (by simp [dm,hst]))))
  obtain ⟨h₁,tk₁,β,K,d,rfl,k,f',R',r,q'⟩:=p
  refine ad (ifSome.get q') fun bs e q'=>?_
  cases hc:t.isCls with
  | true=>exact (kY r (ts:=[t]) (by simp [hc]) e).elim
  | false =>
    simp only [List.mapM_cons,List.mapM_nil,Option.bind_eq_bind,Option.bind_eq_some_iff,Option.pure_def,Option.some.injEq] at e
    refine oE (e) fun b e1 _ zq36 zq37=>?_; subst zq36; subst zq37
    refine args_cons (B4 hc ht env _ _ _ O (T.keeps k) (args_nil ?_)).2 (aL hst)
    exact wpAny_mono (vC (s:={ s with heap:=h₁,toks:=tk₁ }) R' r e1 (by simpa using q')) (fun _ _ p=>p.trans k f') fun _ _ y=>y
theorem zk {a : PE} {ts : List Ty} {f x : Expr} {es : List Expr} {kk : Nat} {pp pos : Pos} (hf : c.isNm f "isinstance" = true) (hn : bA x = true) (h : SE X c a x) (hc : ts.any Ty.isCls = true) : SE X c (.isi a ts) (.Call f [x, .Tuple es kk pp] [] pos) := fun env s α ρ H Q E O T R F q => by
  refine ad (ba hf) fun p zq35 hx=>?_; subst zq35
  simp only [qE1,qE2,qE5,qE6,qE7,qE8,qE9,fy,bh,fz,fB,aO,iw,br,g7,aY,hX,cJ,cY,dH] at q
  refine Call_ (d7 um (by simp [bltNames]) hx O T (callWith_builtin1 (args_cons (wpAny_mono (h env s α ρ H _ E O T R F q) (fun u s₁ p=>?_) fun _ _ y=>y) (aL hn)) (aL hn) (eJ (by simp [dm,bA]))))
  obtain ⟨h₁,tk₁,β,K,d,rfl,k,f',R',r,q'⟩:=p
  refine ad (ifSome.get q') fun bs e q'=>?_
  exact (kY r hc e).elim
end
end Mine
namespace Mine
open PySem PyProof.Rows PySem.Calls
theorem gx {c:MC}:∀ {caps:List Nat} {cs:List Str},de c caps=some cs→cs.length=caps.length∧∀ (i j:Nat),caps[i]?=some j→∃ n,cs[i]?=some n∧c.names[j]?=some n
  | [],cs,h=>by simp [de] at h; subst h; exact ⟨rfl,fun i j e=>by simp at e⟩
  | k :: r,cs,h=>by
    simp only [de,List.mapM_cons,Option.bind_eq_bind,Option.bind_eq_some_iff,Option.pure_def,Option.some.injEq] at h
    refine oE (h) fun n hn ds hd zq67=>?_; subst zq67
    obtain ⟨h1,h2⟩:=gx (caps:=r) hd
    refine ⟨by simp [h1],fun i j e=>?_⟩
    cases i with
    | zero=>simp at e; subst e; exact ⟨n,rfl,hn⟩
    | succ i=>simp at e; refine ad (h2 i j e) fun m a b=>?_; exact ⟨m,by simpa using a,b⟩
theorem vF {c:MC} {sc:Scope} {x:Str} {cs:List Str} {caps:List Nat} (hc:de c caps=some cs)
    (hout:cs.all (fun n=>decide (c.scope.names.lookup n=some NameKind.cell) || decide (c.scope.names.lookup n=some NameKind.free))=true)
    (hs:cR sc [x] cs=true):CompOk c sc x cs caps:=by
  unfold cR at hs
  simp only [Bool.and_eq_true,decide_eq_true_eq,List.all_eq_true] at hs
  obtain ⟨⟨⟨hk,hs⟩,hx⟩,hcs⟩:=hs
  simp only [List.all_eq_true,Bool.or_eq_true,decide_eq_true_eq] at hout
  refine ⟨hk,fun p hp hl=>?_,fun p hp hl=>?_,fun p hp hl=>?_,hx x (by simp),fun n hn=>hcs n hn,fun n hn=>hout n hn,fun p hp hl=>?_,(gx hc).2⟩
  · have:=hs p hp; rw [hl] at this; simp at this; exact this.1
  · have:=hs p hp; rw [hl] at this; simpa using this
  · have:=hs p hp; rw [hl] at this; simp at this
  · have:=hs p hp; rw [hl] at this; simp at this; exact this.2
theorem rC {a b p}:bC (.Constant a b p):=fun _ _=>rfl
theorem pz {a p}:bC (.Name a p):=fun _ _=>rfl
theorem CF {a b d p}:bC (.BinOp a b d p):=fun _ _=>rfl
theorem Ct {a p}:bC (.UnaryOp .USub a p):=fun _ _=>rfl
theorem iG {a b d p}:bC (.Call a b d p):=fun _ _=>rfl
theorem xI {a b p}:bC (.Subscript a b p):=fun _ _=>rfl
theorem Bt {a b p}:bC (.Tuple a b p):=fun _ _=>rfl
theorem zD {a p}:bC (.List a p):=fun _ _=>rfl
theorem zd {a b d p}:bC (.ListComp a b d p):=fun _ _=>rfl
theorem fL {X:SX} {c:MC} {pe:PE} {e:Expr} (h:SE X c pe e) (pt:bC e):SE X c pe e∧SC X c pe e:=⟨h,yM h pt⟩
theorem dS (e:Expr):cf e=bA e:=by cases e <;> rfl
theorem eM {β:Type} {l:List β} {x:β} (h:bY l=some x):l=[x]:=by
  cases l with
  | nil=>exact (Option.some_ne_none x h.symm).elim
  | cons y r=>cases r with
    | nil=>cases h; rfl
    | cons _ _=>exact (Option.some_ne_none x h.symm).elim
theorem b8 {c:MC} {i:Nat} {e:Expr} (h:c.varNm i e=true):∃ x p,e=.Name x p∧c.isVar i x=true:=by
  cases e <;> first | exact (Bool.false_ne_true h).elim | exact ⟨_,_,rfl,h⟩
theorem nd {c:MC} {k:Nat} {e:Expr} (h:c.fnNm k e=true):∃ x p,e=.Name x p∧c.g.fns[k]?=some x∧c.isGlob x=true:=by
  unfold MC.fnNm at h
  cases hx:c.g.fns[k]? with
  | none=>rw [hx] at h; exact (Bool.false_ne_true h).elim
  | some x =>
    rw [hx] at h
    refine ad (MC.isNm_spec h) fun p zq66 hg=>?_; subst zq66
    exact ⟨x,p,rfl,rfl,hg⟩
theorem nN {e:Expr} {x:Str} (h:iC e=some x):∃ p,e=.Name x p:=by
  cases e <;> first | exact (Option.some_ne_none x h.symm).elim | exact ⟨_,by rw [show x=_ from (Option.some.inj h).symm]⟩
theorem sJ {b:Bi} (h:(!b.isRev)=true):b≠.listrev:=fun e=>by subst e; exact Bool.false_ne_true h
section
variable {c:MC}
theorem zP {op:COp} {a b:PE} {e:Expr} (h:av c (.cmp op a b) e=true):∃ l r p,e=.Compare l [gy op] [r] p∧behindInMarks (gy op) r=false∧av c a l=true∧av c b r=true:=by
  cases e <;> first | exact (Bool.false_ne_true h).elim | skip
  rename_i l os rs p
  have h:(match bY os,bY rs with | some o,some r=>decide (o=gy op) && !behindInMarks o r && av c a l && av c b r | _,_=>false)=true:=h
  cases h1:bY os with
  | none=>rw [h1] at h; exact (Bool.false_ne_true h).elim
  | some o=>cases h2:bY rs with
    | none=>rw [h1,h2] at h; exact (Bool.false_ne_true h).elim
    | some r =>
      rw [h1,h2] at h
      have h:(decide (o=gy op) && !behindInMarks o r && av c a l && av c b r)=true:=h
      simp only [Bool.and_eq_true,decide_eq_true_eq,Bool.not_eq_true'] at h
      obtain ⟨⟨⟨rfl,hm⟩,h3⟩,h4⟩:=h
      rw [eM h1,eM h2]
      exact ⟨l,r,p,rfl,hm,h3,h4⟩
theorem wc {f:Nat} {es:PEs} {e:Expr} (h:av c (.call f es) e=true):∃ x p a as pos,e=.Call (.Name x p) (a :: as) [] pos∧c.g.fns[f]?=some x∧c.isGlob x=true∧bc c es (a :: as)=true:=by
  cases e <;> first | exact (Bool.false_ne_true h).elim | skip
  rename_i g as kw pos
  have h:(kw.isEmpty && c.fnNm f g && !as.isEmpty && bc c es as)=true:=h
  simp only [Bool.and_eq_true,List.isEmpty_iff,Bool.not_eq_true',List.isEmpty_eq_false_iff] at h
  obtain ⟨⟨⟨rfl,h1⟩,h0⟩,h3⟩:=h
  obtain ⟨x,p,rfl,h1,h2⟩:=nd h1
  cases as with
  | nil=>exact absurd rfl h0
  | cons a r=>exact ⟨x,p,a,r,pos,rfl,h1,h2,h3⟩
theorem vT {i f:Nat} {es:PEs} {e:Expr} (h:av c (.callv i f es) e=true):∃ x y p a as pos,e=.Call (.Name y p) (a :: as) [] pos∧c.g.fns[f]?=some x∧c.isVar i y=true∧bc c es (a :: as)=true:=by
  cases e <;> first | exact (Bool.false_ne_true h).elim | skip
  rename_i g as kw pos
  have h:(kw.isEmpty && c.varNm i g && (c.g.fns[f]?).isSome && !as.isEmpty && bc c es as)=true:=h
  simp only [Bool.and_eq_true,List.isEmpty_iff,Bool.not_eq_true',List.isEmpty_eq_false_iff,Option.isSome_iff_exists] at h
  obtain ⟨⟨⟨⟨rfl,h1⟩,x,h2⟩,h0⟩,h3⟩:=h
  refine aX (b8 h1) fun y p zq64 h1=>?_; subst zq64
  cases as with
  | nil=>exact absurd rfl h0
  | cons a r=>exact ⟨x,y,p,a,r,pos,rfl,h2,h1,h3⟩
theorem Bz {b:Bi} {es:PEs} {e:Expr} (h:av c (.bi b es) e=true):∃ f a as pos,e=.Call f (a :: as) [] pos∧b≠.listrev∧c.isNm f (oX b)=true∧bc c es (a :: as)=true:=by
  cases e <;> first | exact (Bool.false_ne_true h).elim | skip
  rename_i f as kw pos
  have h:(!b.isRev && kw.isEmpty && c.isNm f (oX b) && !as.isEmpty && bc c es as)=true:=h
  simp only [Bool.and_eq_true,List.isEmpty_iff,List.isEmpty_eq_false_iff] at h
  obtain ⟨⟨⟨⟨hb,rfl⟩,h1⟩,h0⟩,h3⟩:=h
  cases as with
  | nil=>exact (Bool.false_ne_true h0).elim
  | cons a r=>exact ⟨f,a,r,pos,rfl,sJ hb,h1,h3⟩
theorem Ai {a : PE} {ts : List Ty} {e : Expr} (h : av c (.isi a ts) e = true) : ∃ f x t pos, e = .Call f [x, t] [] pos ∧ c.isNm f "isinstance" = true ∧ av c a x = true ∧ bA x = true ∧ c.isiOk ts t = true := by
  cases e <;> first | exact (Bool.false_ne_true h).elim | skip
  rename_i f as kw pos
  cases as with
  | nil=>exact (Bool.false_ne_true h).elim
  | cons x ys =>
    have h : (match bY ys with | some t => kw.isEmpty && c.isNm f "isinstance" && av c a x && cf x && c.isiOk ts t | none => false) = true := h
    cases h1:bY ys with
    | none=>rw [h1] at h; exact (Bool.false_ne_true h).elim
    | some t =>
      rw [h1] at h
      have h : (kw.isEmpty && c.isNm f "isinstance" && av c a x && cf x && c.isiOk ts t) = true := h
      simp only [Bool.and_eq_true,List.isEmpty_iff] at h
      obtain ⟨⟨⟨⟨rfl,h2⟩,h3⟩,h4⟩,h5⟩:=h
      rw [eM h1]
      exact ⟨f,x,t,pos,rfl,h2,h3,dS x ▸ h4,h5⟩
theorem vg {ts:List Ty} {t:Expr} (h:c.isiOk ts t=true):(∃ es k p,t=.Tuple es k p∧ts.any Ty.isCls=true)∨∃ ty,ts=[ty]∧c.isTyp ty t=true:=by
  have one:c.areTyps ts [t]=true→∃ ty,ts=[ty]∧c.isTyp ty t=true:=fun h=>by
    cases ts with
    | nil=>exact (Bool.false_ne_true h).elim
    | cons ty r=>cases r with
      | nil=>exact ⟨ty,rfl,(Bool.and_eq_true_iff.mp h).1⟩
      | cons _ _=>exact (Bool.false_ne_true (Bool.and_eq_true_iff.mp h).2).elim
  cases t <;> first | exact .inr (one h) | skip
  rename_i es k p
  have h:(decide (2≤ts.length) && ts.all Ty.isCls && c.areTyps ts es)=true:=h
  simp only [Bool.and_eq_true,decide_eq_true_eq] at h
  cases ts with
  | nil=>exact absurd h.1.1 (by decide)
  | cons t r =>
    have h5:=h.1.2
    rw [List.all_cons,Bool.and_eq_true] at h5
    exact .inl ⟨es,k,p,rfl,by rw [List.any_cons,h5.1]; rfl⟩
theorem Ak {a:PE} {lo hi:PO} {e:Expr} (h:av c (.slc a lo hi) e=true):∃ x l hh p pos,e=.Subscript x (.Slice l hh none p) pos∧av c a x=true∧gS c lo l=true∧gS c hi hh=true:=by
  cases e <;> first | exact (Bool.false_ne_true h).elim | skip
  rename_i x i pos
  cases i <;> first | exact (Bool.false_ne_true h).elim | skip
  rename_i l hh st p
  have h:(st.isNone && av c a x && gS c lo l && gS c hi hh)=true:=h
  simp only [Bool.and_eq_true,Option.isNone_iff_eq_none] at h
  obtain ⟨⟨⟨rfl,h1⟩,h2⟩,h3⟩:=h
  exact ⟨x,l,hh,p,pos,rfl,h1,h2,h3⟩
theorem qo {elt:PE} {tg:Nat} {caps:List Nat} {it:PI} {cond:PO} {e:Expr} (h:av c (.comp elt tg caps it cond) e=true) :
    ∃ x tx px i ifs sc pos cs,e=.ListComp x [⟨.Name tx px,i,ifs,0⟩] sc pos∧tg=1∧CompOk c sc tx cs caps∧eW c it i=true∧av ⟨c.g,sc,[tx]++cs⟩ elt x=true∧eS ⟨c.g,sc,[tx]++cs⟩ cond ifs=true:=by
  cases e <;> first | exact (Bool.false_ne_true h).elim | skip
  rename_i x gs sc pos
  change (match bY gs with
      | some gn=>(match iC gn.target,de c caps with
        | some tx,some cs=>decide (gn.is_async=0) && decide (tg=1) && cs.all (fun n=>decide (c.scope.names.lookup n=some NameKind.cell) || decide (c.scope.names.lookup n=some NameKind.free)) && cR sc [tx] cs &&
          eW c it gn.iter && av ⟨c.g,sc,[tx]++cs⟩ elt x && eS ⟨c.g,sc,[tx]++cs⟩ cond gn.ifs
        | _,_=>false)
      | none=>false)=true at h
  cases h1:bY gs with
  | none=>rw [h1] at h; exact (Bool.false_ne_true h).elim
  | some gn =>
    rw [h1] at h
    obtain ⟨t,i,ifs,asy⟩:=gn
    change (match iC t,de c caps with
        | some tx,some cs=>decide (asy=0) && decide (tg=1) && cs.all (fun n=>decide (c.scope.names.lookup n=some NameKind.cell) || decide (c.scope.names.lookup n=some NameKind.free)) && cR sc [tx] cs &&
          eW c it i && av ⟨c.g,sc,[tx]++cs⟩ elt x && eS ⟨c.g,sc,[tx]++cs⟩ cond ifs
        | _,_=>false)=true at h
    cases h2:iC t with
    | none=>rw [h2] at h; exact (Bool.false_ne_true h).elim
    | some tx=>cases h3:de c caps with
      | none=>rw [h2,h3] at h; exact (Bool.false_ne_true h).elim
      | some cs =>
        rw [h2,h3] at h
        have h:(decide (asy=0) && decide (tg=1) && cs.all (fun n=>decide (c.scope.names.lookup n=some NameKind.cell) || decide (c.scope.names.lookup n=some NameKind.free)) && cR sc [tx] cs &&
          eW c it i && av ⟨c.g,sc,[tx]++cs⟩ elt x && eS ⟨c.g,sc,[tx]++cs⟩ cond ifs)=true:=h
        rw [Bool.and_eq_true,Bool.and_eq_true,Bool.and_eq_true,Bool.and_eq_true,Bool.and_eq_true,Bool.and_eq_true,decide_eq_true_eq,decide_eq_true_eq] at h
        obtain ⟨⟨⟨⟨⟨⟨rfl,rfl⟩,hout⟩,hsc⟩,hi⟩,he⟩,hf⟩:=h
        obtain ⟨px,rfl⟩:=nN h2
        rw [eM h1]
        exact ⟨x,tx,px,i,ifs,sc,pos,cs,rfl,rfl,vF h3 hout hsc,hi,he,hf⟩
theorem zZ {pe : PE} {e : Expr} (h : eW c (.rev pe) e = true) : ∃ f y pos, e = .Call f [y] [] pos ∧ c.isNm f "reversed" = true ∧ av c pe y = true ∧ bA y = true := by
  cases e <;> first | exact (Bool.false_ne_true h).elim | skip
  rename_i f as kw pos
  have h : (match bY as with | some y => kw.isEmpty && c.isNm f "reversed" && av c pe y && cf y | none => false) = true := h
  cases h1:bY as with
  | none=>rw [h1] at h; exact (Bool.false_ne_true h).elim
  | some y =>
    rw [h1] at h
    have h : (kw.isEmpty && c.isNm f "reversed" && av c pe y && cf y) = true := h
    simp only [Bool.and_eq_true,List.isEmpty_iff] at h
    obtain ⟨⟨⟨rfl,h2⟩,h3⟩,h4⟩:=h
    rw [eM h1]
    exact ⟨f,y,pos,rfl,h2,h3,dS y ▸ h4⟩
theorem zr {es : PEs} {e : Expr} (h : eW c (.rng es) e = true) : ∃ f a as pos, e = .Call f (a :: as) [] pos ∧ c.isNm f "range" = true ∧ bc c es (a :: as) = true := by
  cases e <;> first | exact (Bool.false_ne_true h).elim | skip
  rename_i f as kw pos
  have h : (kw.isEmpty && c.isNm f "range" && !as.isEmpty && bc c es as) = true := h
  simp only [Bool.and_eq_true,List.isEmpty_iff] at h
  obtain ⟨⟨⟨rfl,h1⟩,h0⟩,h3⟩:=h
  cases as with
  | nil=>exact (Bool.false_ne_true h0).elim
  | cons a r=>exact ⟨f,a,r,pos,rfl,h1,h3⟩
theorem ku {pe:PE} {ps:PEs} {es:List Expr} (h:bc c (.cons pe ps) es=true):∃ x xs,es=x :: xs∧av c pe x=true∧bA x=true∧bc c ps xs=true:=by
  cases es with
  | nil=>exact (Bool.false_ne_true h).elim
  | cons x xs =>
    have h:(av c pe x && cf x && bc c ps xs)=true:=h
    simp only [Bool.and_eq_true] at h
    exact ⟨x,xs,rfl,h.1.1,dS x ▸ h.1.2,h.2⟩
end
section
variable {X:SX} {g:GC} (hA:AOk X.prog X.A) (hΦ:jz X.prog X.w X.G g X.DT X.A X.Φ)
include hA hΦ
mutual
theorem aV:(pe:PE)→∀ (sc:Scope) (names:List Str) (e:Expr),av ⟨g,sc,names⟩ pe e=true→SE X ⟨g,sc,names⟩ pe e∧SC X ⟨g,sc,names⟩ pe e
  | .cint i,sc,names,e,h=>by
    cases e <;> first | exact (Bool.false_ne_true h).elim | skip
    rename_i k _ _
    cases k <;> first | exact (Bool.false_ne_true h).elim | skip
    cases of_decide_eq_true h; exact fL yU rC
  | .cbool i,sc,names,e,h=>by
    cases e <;> first | exact (Bool.false_ne_true h).elim | skip
    rename_i k _ _
    cases k <;> first | exact (Bool.false_ne_true h).elim | skip
    cases of_decide_eq_true h; exact fL xS rC
  | .var i,sc,names,e,h=>by
    refine aX (b8 h) fun x p zq63 h=>?_; subst zq63
    exact fL (Ce h) pz
  | .fnv k,sc,names,e,h=>by
    refine aJ (nd h) fun x p zq62 h1 h2=>?_; subst zq62
    exact fL (CG h1 h2) pz
  | .glob x a b,sc,names,e,h=>by
    have h:=Bool.and_eq_true_iff.mp h
    have hs:=zB (X:=X) (c:=⟨g,sc,names⟩) (List.contains_iff_mem.mp h.1) h.2
    refine ad (MC.isNm_spec h.2) fun p zq61 _=>?_; subst zq61
    exact fL hs pz
  | .bin op a b,sc,names,e,h=>by
    cases e <;> first | exact (Bool.false_ne_true h).elim | skip
    rename_i l o r p
    have h:(decide (o=zb op) && av ⟨g,sc,names⟩ a l && av ⟨g,sc,names⟩ b r)=true:=h
    simp only [Bool.and_eq_true,decide_eq_true_eq] at h
    obtain ⟨⟨rfl,h1⟩,h2⟩:=h
    exact fL (Cx (op:=op) hA (aV a sc names _ h1).1 (aV b sc names _ h2).1) CF
  | .neg a,sc,names,e,h=>by
    cases e <;> first | exact (Bool.false_ne_true h).elim | skip
    rename_i o x p
    have h:=Bool.and_eq_true_iff.mp h
    cases of_decide_eq_true h.1
    exact fL (Cw (aV a sc names _ h.2).1) Ct
  | .nt a,sc,names,e,h=>by
    cases e <;> first | exact (Bool.false_ne_true h).elim | skip
    rename_i o x p
    have h:=Bool.and_eq_true_iff.mp h
    cases of_decide_eq_true h.1
    exact ⟨Dj (aV a sc names _ h.2).1,Di (aV a sc names _ h.2).2⟩
  | .cmp op a b,sc,names,e,h=>by
    refine bv (zP h) fun l r p zq60 hm h1 h2=>?_; subst zq60
    exact ⟨Bx hA hm (aV a sc names _ h1).1 (aV b sc names _ h2).1,Cj hA hm (aV a sc names _ h1).1 (aV b sc names _ h2).1⟩
  | .and es,sc,names,e,h=>by
    cases e <;> first | exact (Bool.false_ne_true h).elim | skip
    have h:=Bool.and_eq_true_iff.mp h
    cases of_decide_eq_true h.1
    exact ⟨Cd (fU true es sc names _ h.2).1,CJ (fU true es sc names _ h.2).2⟩
  | .or es,sc,names,e,h=>by
    cases e <;> first | exact (Bool.false_ne_true h).elim | skip
    have h:=Bool.and_eq_true_iff.mp h
    cases of_decide_eq_true h.1
    exact ⟨Df (fU false es sc names _ h.2).1,Du (fU false es sc names _ h.2).2⟩
  | .call f es,sc,names,e,h=>by
    refine fX (wc h) fun x p a r pos zq59 h1 h2 h3=>?_; subst zq59
    obtain ⟨hs,hn⟩:=e5 es sc names _ h3
    exact fL (Ag (c:=⟨g,sc,names⟩) hΦ h1 h2 (Bool.and_eq_true_iff.mp hn).1 hs) iG
  | .callv i f es,sc,names,e,h=>by
    obtain ⟨x,y,p,a,r,pos,rfl,h1,h2,h3⟩:=vT h
    obtain ⟨hs,hn⟩:=e5 es sc names _ h3
    exact fL (yG (c:=⟨g,sc,names⟩) hΦ h1 h2 (Bool.and_eq_true_iff.mp hn).1 hs) iG
  | .bi b es,sc,names,e,h=>by
    refine fv (Bz h) fun f a r pos zq58 hb h1 h3=>?_; subst zq58
    obtain ⟨hs,hn⟩:=e5 es sc names _ h3
    exact fL (Dz hA hb h1 hn hs) iG
  | .isi a ts,sc,names,e,h=>by
    refine d4 (Ai h) fun f x t pos zq57 h1 h2 h3 h4=>?_; subst zq57
    rcases vg h4 with ⟨es,k,p,rfl,h5⟩ | ⟨ty,rfl,h5⟩
    · exact fL (zk h1 h3 (aV a sc names _ h2).1 h5) iG
    · exact fL (Ac h1 h3 (aV a sc names _ h2).1 h5) iG
  | .idx a b,sc,names,e,h=>by
    cases e <;> first | exact (Bool.false_ne_true h).elim | skip
    have h:=Bool.and_eq_true_iff.mp h
    have h1:=Bool.and_eq_true_iff.mp h.1
    exact fL (BR h.2 (aV a sc names _ h1.1).1 (aV b sc names _ h1.2).1) xI
  | .slc a lo hi,sc,names,e,h=>by
    refine fX (Ak h) fun x l hh p pos zq56 h1 h2 h3=>?_; subst zq56
    exact fL (BN (aV a sc names _ h1).1 (wG lo sc names _ h2) (wG hi sc names _ h3)) xI
  | .tup es,sc,names,e,h=>by
    cases e <;> first | exact (Bool.false_ne_true h).elim | skip
    have h:=Bool.and_eq_true_iff.mp h
    exact fL (BL (of_decide_eq_true h.1) (e5 es sc names _ h.2).1) Bt
  | .lst es,sc,names,e,h=>by
    cases e <;> first | exact (Bool.false_ne_true h).elim | skip
    have h:=Bool.and_eq_true_iff.mp h
    exact fL (CM (of_decide_eq_true h.1) (e5 es sc names _ h.2).1) zD
  | .comp elt tg caps it cond,sc,names,e,h=>by
    refine i7 (qo h) fun x tx px i ifs sc' pos cs zq54 zq55 hK hi he hf=>?_; subst zq54; subst zq55
    obtain ⟨hsi,hns⟩:=sz it sc names _ hi
    exact fL (uf hK (aV elt sc' _ _ he).1 (qz cond sc' _ _ hf) hsi hns) zd
theorem e5:(ps:PEs)→∀ (sc:Scope) (names:List Str) (es:List Expr),bc ⟨g,sc,names⟩ ps es=true→SEs X ⟨g,sc,names⟩ ps es∧dm es=true
  | .nil,sc,names,es,h=>by
    cases es with
    | nil=>exact ⟨As,rfl⟩
    | cons _ _=>exact (Bool.false_ne_true h).elim
  | .cons pe ps,sc,names,es,h=>by
    refine eC (ku h) fun x xs zq53 h1 hst h2=>?_; subst zq53
    obtain ⟨h3,h4⟩:=e5 ps sc names _ h2
    exact ⟨xB hst (aV pe sc names _ h1).1 h3,Bool.and_eq_true_iff.mpr ⟨hst,h4⟩⟩
theorem fU:(b:Bool)→(ps:PEs)→∀ (sc:Scope) (names:List Str) (es:List Expr),bc ⟨g,sc,names⟩ ps es=true→tY X ⟨g,sc,names⟩ b ps es∧kJ X ⟨g,sc,names⟩ b ps es
  | b,.nil,sc,names,es,h=>by
    cases es with
    | nil=>exact ⟨xi,uS⟩
    | cons _ _=>exact (Bool.false_ne_true h).elim
  | b,.cons pe ps,sc,names,es,h=>by
    refine eC (ku h) fun x xs zq52 h1 _ h2=>?_; subst zq52
    have ih:=fU b ps sc names _ h2
    cases ps with
    | nil =>
      cases xs with
      | nil=>exact ⟨v7 (aV pe sc names _ h1).1,vo (aV pe sc names _ h1).2⟩
      | cons _ _=>exact (Bool.false_ne_true h2).elim
    | cons p2 ps =>
      refine aX (ku h2) fun y ys zq51 _=>?_; subst zq51
      exact ⟨uT (aV pe sc names _ h1).1 ih.1,rR (aV pe sc names _ h1).2 ih.2⟩
theorem wG:(po:PO)→∀ (sc:Scope) (names:List Str) (o:Option Expr),gS ⟨g,sc,names⟩ po o=true→SO X ⟨g,sc,names⟩ po o
  | .no,sc,names,o,h=>by
    cases o with
    | none=>rfl
    | some _=>exact (Bool.false_ne_true h).elim
  | .some pe,sc,names,o,h=>by
    cases o with
    | none=>exact (Bool.false_ne_true h).elim
    | some x=>exact ⟨_,rfl,(aV pe sc names _ h).1⟩
theorem qz:(po:PO)→∀ (sc:Scope) (names:List Str) (o:List Expr),eS ⟨g,sc,names⟩ po o=true→wm X ⟨g,sc,names⟩ po o
  | .no,sc,names,o,h=>by
    cases o with
    | nil=>rfl
    | cons _ _=>exact (Bool.false_ne_true h).elim
  | .some pe,sc,names,o,h=>by
    cases o with
    | nil=>exact (Bool.false_ne_true h).elim
    | cons x r=>cases r with
      | nil=>exact ⟨_,rfl,(aV pe sc names _ h).2⟩
      | cons _ _=>exact (Bool.false_ne_true h).elim
theorem sz:(pi:PI)→∀ (sc:Scope) (names:List Str) (e:Expr),eW ⟨g,sc,names⟩ pi e=true→SI X ⟨g,sc,names⟩ pi e∧kK e=true
  | .seq pe,sc,names,e,h=>by
    have h:=Bool.and_eq_true_iff.mp h
    exact ⟨Cy hA (aV pe sc names _ h.1).1,h.2⟩
  | .rev pe,sc,names,e,h=>by
    refine bv (zZ h) fun f y pos zq50 h1 h2 h3=>?_; subst zq50
    refine ad (MC.isNm_spec h1) fun p zq49 hx=>?_; subst zq49
    exact ⟨Bu hA hx h3 (aV pe sc names _ h2).1,rfl⟩
  | .rng es,sc,names,e,h=>by
    refine cO (zr h) fun f a r pos zq48 h1 h3=>?_; subst zq48
    refine ad (MC.isNm_spec h1) fun p zq47 hx=>?_; subst zq47
    obtain ⟨hs,hn⟩:=e5 es sc names _ h3
    exact ⟨BM hA hx hn hs,rfl⟩
end
end
end Mine
namespace Mine
open PySem PyProof.Rows PySem.Calls
structure FC where
  c:MC
  env:Env
  hb:Heap
structure dI (f:FC):Prop where
  env:bH f.c f.env
  nodup:f.c.names.Nodup
  kind:∀ x,f.c.scope.names.lookup x≠some NameKind.free
  deadL:f.hb.get? f.env.locals=none
  deadC:∀ n a,(n,a)∈f.env.cells→f.hb.get? a=none
  above:∀ n a,(n,a)∈f.env.cells→f.env.locals < a
  apart:f.env.cells.Pairwise fun x y=>x.2≠y.2
  uniq:∀ n a,(n,a)∈f.env.cells→f.env.cells.lookup n=some a
structure FrS (G:GV) (f:FC) (W:Nat→Prop) (h:Heap) (α:List Addr) (ρ:Loc):Prop where
  fr:∃ m cm,h.Ns f.env.locals m∧Cl f.env.locals f.env.cells h cm∧∀ (i:Nat) (x:Str) (d:V),f.c.names[i]?=some x→af ρ i=some d →
    ∃ v,((f.env.kindOf x=some .local∧m x=some v)∨(f.env.kindOf x=some .cell∧cm x=some v∧∃ a,f.env.cells.lookup x=some a))∧Rep G α h v d
  kb:KeepsH f.hb h
  wb:∀ n a,α[n]?=some a→W n→f.hb.get? a=none
theorem FrS.fi {G:GV} {f:FC} {W:Nat→Prop} {h:Heap} {α:List Addr} {ρ:Loc} (F:FrS G f W h α ρ):FI G f.c f.env α h ρ:=fun i x d e1 e2=>by
  refine aJ (F.fr) fun m cm hn hc hv=>?_
  refine ad (hv i x d e1 e2) fun v hv r=>?_
  refine ⟨v,?_,r⟩
  rcases hv with ⟨k,e⟩ | ⟨k,e,a,ha⟩
  · exact .inl ⟨k,m,hn,e⟩
  · exact .inr ⟨.inl k,a,ha,by have:=hc.cell x a ha; rw [e] at this; exact this⟩
theorem FrS.up {G:GV} {f:FC} {W:Nat→Prop} {h h':Heap} {α β:List Addr} {ρ:Loc} (F:FrS G f W h α ρ) (k:KeepsH h h') (hf:∀ b∈β,h.get? b=none):FrS G f W h' (α++β) ρ:=by
  refine aJ (F.fr) fun m cm hn hc hv=>?_
  refine ⟨⟨m,cm,hn.keeps k,hc.keeps k,fun i x d e1 e2=>?_⟩,F.kb.trans k,fun n a ha hw=>?_⟩
  · refine ad (hv i x d e1 e2) fun v hv r=>?_
    exact ⟨v,hv,r.up k⟩
  · by_cases hl:n < α.length
    · rw [List.getElem?_append_left hl] at ha; exact F.wb n a ha hw
    · rw [List.getElem?_append_right (by (exact om [α.length,n] [] [(.no (.le (.a Y1 (.n 1)) Y0))] (.le Y0 Y1) [[1,1]] rfl hl))] at ha
      have hm:=hf a (List.mem_of_getElem? ha)
      cases e:f.hb.get? a with
      | none=>rfl
      | some o=>have:=F.kb a o e; rw [hm] at this; cases this
theorem FrS.weak {G:GV} {f:FC} {W W':Nat→Prop} {h:Heap} {α:List Addr} {ρ:Loc} (F:FrS G f W h α ρ) (hw:∀ n,W' n→W n):FrS G f W' h α ρ:=⟨F.fr,F.kb,fun n a e w=>F.wb n a e (hw n w)⟩
theorem mM {v:V}:∀ (ρ:Loc) (i j:Nat),af (au ρ i v) j=some v∧j=i∨af (au ρ i v) j=af ρ j∧(j≠i∨af ρ j=none)
  | [],i,j=>by cases i <;> cases j <;> simp [au,af]
  | x :: r,0,0=>by simp [au,af]
  | x :: r,0,j+1=>by simp [au,af]
  | x :: r,i+1,0=>by simp [au,af]
  | x :: r,i+1,j+1=>by
    simp only [au,af]
    rcases mM r i j with ⟨a,b⟩ | ⟨a,b⟩
    · exact .inl ⟨a,by (exact om [j,i] [] [(.eq Y0 Y1)] (.eq (.a Y0 (.n 1)) (.a Y1 (.n 1))) [[1,0,1],[1,1]] rfl b)⟩
    · exact .inr ⟨a,by rcases b with b | b; exact .inl (by (exact om [j,i] [] [(.no (.eq Y0 Y1))] (.no (.eq (.a Y0 (.n 1)) (.a Y1 (.n 1)))) [[0,1,1],[1,0,1]] rfl b)); exact .inr b⟩
noncomputable def Lives (h h':Heap):Prop:=∀ b o,h.get? b=some o→∃ o',h'.get? b=some o'
theorem Lives.of {h h':Heap} (k:KeepsH h h'):Lives h h':=fun b o e=>⟨o,k b o e⟩
theorem Lives.trans {h h' h'':Heap} (a:Lives h h') (b:Lives h' h''):Lives h h'':=fun x o e=>let ⟨o',e'⟩:=a x o e; b x o' e'
theorem Lives.sameBut {h h':Heap} {a:Addr} (hs:Heap.SameBut a h h') (ha:∃ o,h'.get? a=some o):Lives h h':=fun b o e=>by
  by_cases hb:b=a
  · subst hb; exact ha
  · exact ⟨o,hs.extBut b o hb e⟩
noncomputable def sF (f:FC) (h h':Heap):Prop:=∀ b o,h.get? b=some o→b≠f.env.locals→(∀ n,(n,b) ∉ f.env.cells)→h'.get? b=some o
theorem FrS.alive {G:GV} {f:FC} {W:Nat→Prop} {h:Heap} {α:List Addr} {ρ:Loc} (F:FrS G f W h α ρ):(∃ o,h.get? f.env.locals=some o):=by
  refine aX (F.fr) fun m cm zq68 _=>?_; obtain ⟨o,es,ep,ho,_⟩:=zq68
  exact ⟨o,ho⟩
section
variable {M:Model} {A:Around} {E:Value→Shared→Prop} {s:Shared} {G:GV} {f:FC} {W:Nat→Prop} {α:List Addr} {ρ:Loc}
theorem f5 {i:Nat} {x:Str} {v:Value} {d:V} {Q:Unit→Shared→Prop} (K:dI f) (F:FrS G f W s.heap α ρ) (hx:f.c.isVar i x=true) (r:Rep G α s.heap v d)
    (h:∀ h' tk,FrS G f W h' α (au ρ i d)→sF f s.heap h'→KeepsLT s.heap h'→Lives s.heap h'→Q () { s with heap:=h',toks:=tk }):wpAny M A (storeName f.env x v) Q E s:=by
  refine aJ (F.fr) fun m cm hn hc hv=>?_
  refine bP (MC.isVar_spec hx) fun hxi _ _ hk=>?_
  have other:∀ j y e,f.c.names[j]?=some y→af (au ρ i d) j=some e→(j=i∧e=d)∨(y≠x∧af ρ j=some e):=fun j y e hj he=>by
    rcases mM (v:=d) ρ i j with ⟨a,b⟩ | ⟨a,b⟩
    · rw [a] at he; cases he; exact .inl ⟨b,rfl⟩
    · rw [a] at he
      rcases b with b | b
      · refine .inr ⟨fun q=>b ?_,he⟩
        subst q
        obtain ⟨l1,g1⟩:=List.getElem?_eq_some_iff.mp hj
        obtain ⟨l2,g2⟩:=List.getElem?_eq_some_iff.mp hxi
        exact (List.getElem_inj K.nodup).mp (g1.trans g2.symm)
      · rw [b] at he; cases he
  have hkind:f.env.kindOf x=some .local∨f.env.kindOf x=some .cell:=by
    rcases hk with hk | hk | hk
    · exact .inl (K.env.loc x hk)
    · exact .inr (K.env.cel x hk)
    · exact absurd hk (K.kind x)
  rcases hkind with hl | hl
  · refine wpAny_storeName_local hl hn (fun h' hn' hs'=>?_) (by rw [K.env.kind]; rfl)
    have lt:KeepsLT s.heap h':=KeepsLT.sameBut hs' (gf hn)
    refine h h' _ ⟨⟨_,cm,hn',hc.sameBut hs' (Nat.le_refl _),fun j y e hj he=>?_⟩,fun b o e=>hs'.extBut b o (fun q=>by rw [q,K.deadL] at e; cases e) (F.kb b o e),F.wb⟩ (fun b o e hb _=>hs'.extBut b o hb e) lt (.sameBut hs' (let ⟨o,_,_,ho,_⟩:=hn'; ⟨o,ho⟩))
    rcases other j y e hj he with ⟨rfl,rfl⟩ | ⟨hy,he⟩
    · rw [hxi] at hj; cases hj
      exact ⟨v,.inl ⟨hl,if_pos rfl⟩,r.mono (fun _ _ e=>e) lt.tup⟩
    · refine ad (hv j y e hj he) fun u hu ru=>?_
      refine ⟨u,?_,ru.mono (fun _ _ e=>e) lt.tup⟩
      rcases hu with ⟨k,e⟩ | hu
      · exact .inl ⟨k,by rw [if_neg hy]; exact e⟩
      · exact .inr hu
  · obtain ⟨ca,hca⟩:=K.env.cells x (.inl hl)
    have hcell:=hc.cell x ca hca
    have hmem:=PySem.mem_of_lookup hca
    refine wpAny_storeName_cell K.env.kind hl hca hcell fun h' hv' hs'=>?_
    have lt:KeepsLT s.heap h':=KeepsLT.sameBut hs' fun o ho items n d=>by
      refine ad (hcell) fun o' ho' hd'=>?_
      rw [ho] at ho'; cases ho'; rw [hd'] at d; cases d
    have hLc:f.env.locals < ca:=K.above x ca hmem
    refine h h' s.toks ⟨⟨m,fun y=>if y=x then some v else cm y,hn.sameBut hs' (Nat.ne_of_lt hLc),⟨fun n c' e=>?_,hc.apart,hc.above⟩,fun j y e hj he=>?_⟩,fun b o e=>hs'.extBut b o (fun q=>by rw [q,K.deadC x ca hmem] at e; cases e) (F.kb b o e),F.wb⟩ (fun b o e _ hb=>hs'.extBut b o (fun q=>hb x (q ▸ hmem)) e) lt (.sameBut hs' (let ⟨o,ho,_⟩:=hv'; ⟨o,ho⟩))
    · by_cases hnx:n=x
      · subst hnx; rw [hca] at e; cases e; simpa using hv'
      · have hcc:c'≠ca:=fun q=>hnx (name_of_addr hc.apart (PySem.mem_of_lookup e) (q ▸ hmem))
        simpa [hnx] using (hc.cell n c' e).sameBut hs' hcc
    · rcases other j y e hj he with ⟨rfl,rfl⟩ | ⟨hy,he⟩
      · rw [hxi] at hj; cases hj
        exact ⟨v,.inr ⟨hl,if_pos rfl,ca,hca⟩,r.mono (fun _ _ e=>e) lt.tup⟩
      · refine ad (hv j y e hj he) fun u hu ru=>?_
        refine ⟨u,?_,ru.mono (fun _ _ e=>e) lt.tup⟩
        rcases hu with hu | ⟨k,e,a,ha⟩
        · exact .inl hu
        · exact .inr ⟨k,by show (if y=x then some v else cm y)=some u; rw [if_neg hy]; exact e,a,ha⟩
end
end Mine
namespace Mine
open PySem PyProof.Rows PySem.Calls
structure StepS (f:FC) (W:Nat→Prop) (s:Shared) (α:List Addr) (H:Hp) (h':Heap) (β:List Addr) (H':Hp):Prop where
  keep:∀ b o,s.heap.get? b=some o→b≠f.env.locals→(∀ n,(n,b) ∉ f.env.cells)→(∀ n,α[n]?=some b→¬ W n)→h'.get? b=some o
  fresh:∀ b∈β,s.heap.get? b=none
  same:∀ n,n < H.length→¬ W n→H'[n]?=H[n]?
  le:H.length≤H'.length
theorem StepS.refl {f:FC} {W:Nat→Prop} {s:Shared} {α:List Addr} {H:Hp}:StepS f W s α H s.heap [] H:=⟨fun _ _ e _ _ _=>e,by simp,fun _ _ _=>rfl,Nat.le_refl _⟩
theorem StepS.of {f:FC} {W:Nat→Prop} {s:Shared} {α:List Addr} {H:Hp} {h':Heap} {β:List Addr} {K:Hp} (k:KeepsH s.heap h') (hf:∀ b∈β,s.heap.get? b=none):StepS f W s α H h' β (H++K) :=
  ⟨fun b o e _ _ _=>k b o e,hf,fun n hn _=>List.getElem?_append_left hn,by simp⟩
theorem StepS.trans {f:FC} {W:Nat→Prop} {s:Shared} {α:List Addr} {H:Hp} {h₁ h₂:Heap} {tk:Nat} {β₁ β₂:List Addr} {H₁ H₂:Hp}
    (a:StepS f W s α H h₁ β₁ H₁) (ak:∀ b o,s.heap.get? b=some o→∃ o',h₁.get? b=some o') (b:StepS f W { s with heap:=h₁,toks:=tk } (α++β₁) H₁ h₂ β₂ H₂):StepS f W s α H h₂ (β₁++β₂) H₂:=by
  refine ⟨fun x o e h1 h2 h3=>?_,fun x hx=>?_,fun n hn hw=>?_,Nat.le_trans a.le b.le⟩
  · refine b.keep x o (a.keep x o e h1 h2 h3) h1 h2 fun n hn=>?_
    by_cases hlt:n < α.length
    · rw [List.getElem?_append_left hlt] at hn; exact h3 n hn
    · rw [List.getElem?_append_right (by (exact om [α.length,n] [] [(.no (.le (.a Y1 (.n 1)) Y0))] (.le Y0 Y1) [[1,1]] rfl hlt))] at hn
      have:=a.fresh x (List.mem_of_getElem? hn)
      rw [e] at this; cases this
  · rcases List.mem_append.mp hx with hx | hx
    · exact a.fresh x hx
    · cases e:s.heap.get? x with
      | none=>rfl
      | some o =>
        obtain ⟨o',e'⟩:=ak x o e
        have:=b.fresh x hx
        rw [show ({ s with heap:=h₁,toks:=tk }:Shared).heap.get? x=some o' from e'] at this; cases this
  · rw [b.same n (Nat.lt_of_lt_of_le hn a.le) hw]; exact a.same n hn hw
inductive PostS (G:GV) (f:FC) (W:Nat→Prop) (s:Shared) (α:List Addr) (H:Hp) (N:Loc→Hp→Prop) (R:V→Hp→Prop) (fl:Flow) (s':Shared):Prop
  | mk (h':Heap) (tk:Nat) (β:List Addr) (H':Hp) (e:s'={ s with heap:=h',toks:=tk }) (st:StepS f W s α H h' β H') (lv:Lives s.heap h') (hr:HR G (α++β) h' H') (c:match fl with
    | .next=>∃ ρ',FrS G f W h' (α++β) ρ'∧N ρ' H'
    | .ret v=>KeepsH f.hb h'∧∃ d,Rep G (α++β) h' v d∧R d H'
    | _=>False)
noncomputable def RaiseOk (X:SX) (f:FC) (W:Nat→Prop) (s:Shared) (α:List Addr) (H:Hp) (Y:Nat→Hp→Prop) (E:Value→Shared→Prop):Prop :=
  ∀ (k:Nat) (st:Stmt) (h':Heap) (tk:Nat) (β:List Addr) (H':Hp) (ρ':Loc),r7 f.c (.raise k) st=true→StepS f W s α H h' β H'→Lives s.heap h'→HR X.G (α++β) h' H'→FrS X.G f W h' (α++β) ρ'→Y k H' →
    wpAny (model X.prog X.w) X.A (exec st f.env) (fun _ _=>False) E { s with heap:=h',toks:=tk }
noncomputable def SS (X:SX) (f:FC) (ps:PS) (st:Stmt):Prop :=
  ∀ (W:Nat→Prop) (s:Shared) (α:List Addr) (ρ:Loc) (H:Hp) (N:Loc→Hp→Prop) (R:V→Hp→Prop) (Y:Nat→Hp→Prop) (E:Value→Shared→Prop),(∀ n,W n→1≤n)→GF X.G f.c.g X.DT f.hb→FrS X.G f W s.heap α ρ→HR X.G α s.heap H →
    RaiseOk X f W s α H Y E→wpS X.sub X.Φ W ps ρ H N R Y→wpAny (model X.prog X.w) X.A (exec st f.env) (PostS X.G f W s α H N R) E s
noncomputable def SB (X:SX) (f:FC) (ps:PS) (sts:List Stmt):Prop :=
  ∀ (W:Nat→Prop) (s:Shared) (α:List Addr) (ρ:Loc) (H:Hp) (N:Loc→Hp→Prop) (R:V→Hp→Prop) (Y:Nat→Hp→Prop) (E:Value→Shared→Prop),(∀ n,W n→1≤n)→GF X.G f.c.g X.DT f.hb→FrS X.G f W s.heap α ρ→HR X.G α s.heap H →
    RaiseOk X f W s α H Y E→wpS X.sub X.Φ W ps ρ H N R Y→wpAny (model X.prog X.w) X.A (execs sts f.env) (PostS X.G f W s α H N R) E s
end Mine
namespace Mine
open PySem PyProof.Rows PySem.Calls
theorem f7 {h:Heap} {a:Addr} {items:Array Value} (x:h.PlainList a items) (f:Array Value→Array Value):(h.update a (Obj.mapSeq f)).PlainList a (f items):=by
  obtain ⟨n,e⟩:=x
  have:=Heap.get?_update_self (h:=h) (a:=a) (Obj.mapSeq f) e rfl
  exact ⟨_,this⟩
section
variable {prog:Program} {w:World} {A:Around} {E:Value→Shared→Prop} {s:Shared}
theorem mc {l:Addr} {items:Array Value} {k:Int} {j:Nat} {t:Tok} {v:Value} {Q:Unit→Shared→Prop} (hl:s.heap.PlainList l items) (hp:cv items.size k=some j) (hz:items.size≤1000000)
    (hQ:Q () { s with heap:=s.heap.update l (Obj.mapSeq (·.setIfInBounds j v)) }) :
    wpAny (model prog w) A (setItem (.ref l) (.int k t) v) Q E s:=by
  obtain ⟨ne,ho⟩:=id hl
  have hty:=hl.isList.typeIs
  obtain ⟨h1,h2⟩:=gP hp
  have hx':items[j]?=some items[j]:=Array.getElem?_eq_getElem h1
  unfold setItem
  try with_reducible refine wpAny_holding ?_
  first | refine wpAny_bind (wpAny_pure ?_) | skip
  refine wpAny_bind (wpAny_sequenceKey hty (by decide) ?_)
  refine wpAny_bind (wpAny_callSpecial?_slot (name := Str.ofString "__setitem__") hty slot_list_setitem
    (wpAny_call_entry slot_list_setitem hty entry_list_setitem ?_ (args_list_setitem _ _ _)))
  show wpAny _ _ (Builtin.List.listSubscript? (.int k t) >>= _) _ _ s
  rcases h2 with ⟨h0,h2⟩ | ⟨h0,h2⟩
  · refine wpAny_bind (wpAny_listSubscript_int (fitsIndex_of h0 (by (clear hl hp hQ ho hty hx' h0; omega))) ?_)
    subst h2
    show wpAny _ _ ((seqItemAt l j >>= fun r=>pure (r.map (j,·))) >>= _) _ _ s
    refine wpAny_bind (wpAny_bind (wpAny_seqItemAt ho rfl (wpAny_pure ?_)))
    rw [hx']
    show wpAny _ _ (setSeqItemAt l j v >>= _) _ _ s
    refine wpAny_bind (wpAny_setSeqItemAt ho rfl ?_)
    first
      | exact wpAny_bind (wpAny_pure (wpAny_pure ⟨.none,rfl,wpAny_pure hQ⟩))
      | exact wpAny_pure ⟨.none,rfl,wpAny_pure hQ⟩
  · refine wpAny_bind (wpAny_listSubscript_int (fitsIndex_neg h0 (by (clear hl hp hQ ho hty hx' h0; omega))) ?_)
    have hidx:seqIndex? k items.size=some j:=nl hp
    obtain ⟨i,rfl⟩:∃ i:Nat,k=Int.negSucc i:=by
      cases k with
      | ofNat n=>exact absurd h0 (Int.not_lt.mpr (Int.ofNat_nonneg n))
      | negSucc n=>exact ⟨n,rfl⟩
    show wpAny _ _ ((Builtin.List.listItems (.ref l) >>= fun xs=>pure ((seqIndex? (Int.negSucc i) xs.size).bind fun i=>xs[i]?.map (i,·))) >>= _) _ _ s
    refine wpAny_bind (wpAny_bind ?_)
    show wpAny _ _ (seqItems? (.ref l) >>= _) _ _ s
    refine wpAny_bind (wpAny_seqItems ho rfl (wpAny_pure (wpAny_pure ?_)))
    rw [hidx]
    simp only [Option.bind_some,hx',Option.map_some]
    show wpAny _ _ (setSeqItemAt l j v >>= _) _ _ s
    refine wpAny_bind (wpAny_setSeqItemAt ho rfl ?_)
    first
      | exact wpAny_bind (wpAny_pure (wpAny_pure ⟨.none,rfl,wpAny_pure hQ⟩))
      | exact wpAny_pure ⟨.none,rfl,wpAny_pure hQ⟩
end
section
variable {G:GV} {f:FC} {W:Nat→Prop} {s:Shared} {α:List Addr} {ρ:Loc} {H:Hp}
theorem e7 (K:dI f) (F:FrS G f W s.heap α ρ) (R:HR G α s.heap H) {n:Nat} {a:Addr} {xs xs':List V} {vs':List Value} (hw:W n) (ha:α[n]?=some a) (hx:H[n]?=some xs) {h':Heap} (hs:Heap.SameBut a s.heap h')
    (hl:h'.PlainList a vs'.toArray) (q:Reps G α s.heap vs' xs') (z:xs'.length≤lim) :
    FrS G f W h' α ρ∧HR G α h' (H.set n xs')∧StepS f W s α H h' [] (H.set n xs')∧Lives s.heap h':=by
  obtain ⟨kt,R'⟩:=R.set ha hx hs hl q z
  refine aJ (F.fr) fun m cm hn hc hv=>?_
  refine ad (R.lst n a xs ha hx) fun us zq69 _=>?_; obtain ⟨o,ho,hcl,no,hd⟩:=zq69
  have hL:a≠f.env.locals:=fun q=>by
    refine dQ (hn) fun o' es ep ho' hd' _=>?_
    rw [← q,ho] at ho'; cases ho'; rw [hd] at hd'; cases hd'
  refine ⟨⟨⟨m,cm,hn.sameBut hs (Ne.symm hL),⟨fun x c e=>?_,hc.apart,hc.above⟩,fun i x d e1 e2=>?_⟩,fun b ob e=>hs.extBut b ob (fun q=>?_) (F.kb b ob e),F.wb⟩,R',⟨fun b ob e _ _ h3=>hs.extBut b ob (fun q=>h3 n (q ▸ ha) hw) e,by simp,fun k hk hnw=>?_,by simp⟩,.sameBut hs (let ⟨k,e⟩:=hl; ⟨_,e⟩)⟩
  · refine (hc.cell x c e).sameBut hs fun q=>?_
    refine ad (hc.cell x c e) fun o' ho' hd'=>?_
    rw [q,ho] at ho'; cases ho'; rw [hd] at hd'; cases hd'
  · refine ad (hv i x d e1 e2) fun v hv r=>?_
    exact ⟨v,hv,r.mono (fun _ _ e=>e) kt⟩
  · rw [q,F.wb n a ha hw] at e; cases e
  · rw [List.getElem?_set_ne (fun (q:n=k)=>hnw (q ▸ hw))]
end
end Mine
namespace Mine
open PySem PyProof.Rows PySem.Calls
section
variable {X:SX} {f:FC}
theorem GF.at {G:GV} {gc:GC} {DT:List dq} {W:Nat→Prop} {h:Heap} {α:List Addr} {ρ:Loc} (T:GF G gc DT f.hb) (F:FrS G f W h α ρ):GF G gc DT h:=T.keeps F.kb
theorem lB (K:dI f) {W:Nat→Prop} {s:Shared} {α:List Addr} {ρ:Loc} {H:Hp} {N:Loc→Hp→Prop} {R:V→Hp→Prop} {E:Value→Shared→Prop} {i:Nat} {x:Str} (F:FrS X.G f W s.heap α ρ) (hx:f.c.isVar i x=true)
    {v:Value} {s₁:Shared} (p:Post X.G (Rep X.G) s α H (fun v H1=>N (au ρ i v) H1) v s₁) :
    wpAny (model X.prog X.w) X.A (storeName f.env x v) (fun _=>PostS X.G f W s α H N R .next) E s₁:=by
  obtain ⟨h₁,tk₁,β,K₁,d,rfl,k,fr,R',r,q⟩:=p
  refine f5 (s:={ s with heap:=h₁,toks:=tk₁ }) K (F.up k fr) hx r fun h' tk F' kf lt lv=>?_
  refine ⟨h',tk,β,H++K₁,rfl,⟨fun b o e h1 h2 _=>kf b o (k b o e) h1 h2,fr,fun n hn _=>List.getElem?_append_left hn,by simp⟩,(Lives.of k).trans lv,R'.lt' lt,_,F',q⟩
noncomputable abbrev jW:=fR
theorem cQ {e:Expr} (h:jW e=true) (t:Option Expr) (l:Nat) (env:Env):swapsWith e t l env=pure false:=by
  cases e <;> first | rfl | cases h
theorem vL {i:Nat} {x:Str} {pe:PE} {v:Expr} {px pos:Pos} (K:dI f) (hx:f.c.isVar i x=true) (h:SE X f.c pe v) (hc:jW v=true):SS X f (.assign i pe) (.Assign [.Name x px] v pos):=fun W s α ρ H N R Y E hW T F HR' hY q=>by
  simp only [qS1,qS2,qS3,qS4,qS5,qS6,qS7,qS8,qS9,bj,dy,b5,fA,gH] at q
  refine wpAny_Assign_Name (wpAny_mono (h f.env s α ρ H _ E K.env (T.at F) HR' F.fi q) (fun v s₁ p=>?_) fun _ _ x=>x) (cQ hc _ _ _)
  exact lB K F hx p
theorem BF {pe:PE} {v:Expr} {pos:Pos} (K:dI f) (h:SE X f.c pe v):SS X f (.ret pe) (.Return (some v) pos):=fun W s α ρ H N R Y E hW T F HR' hY q=>by
  simp only [qS1,qS2,qS3,qS4,qS5,qS6,qS7,qS8,qS9,bj,dy,b5,fA,gH] at q
  refine wpAny_Return_some (wpAny_mono (h f.env s α ρ H _ E K.env (T.at F) HR' F.fi q) (fun v s₁ p=>?_) fun _ _ x=>x)
  obtain ⟨h₁,tk₁,β,K₁,d,rfl,k,fr,R',r,q⟩:=p
  exact ⟨h₁,tk₁,β,H++K₁,rfl,.of k fr,.of k,R',F.kb.trans k,d,r,q⟩
theorem PostS.trans {G:GV} {W:Nat→Prop} {s:Shared} {α:List Addr} {H:Hp} {N:Loc→Hp→Prop} {R:V→Hp→Prop} {h₁:Heap} {tk₁:Nat} {β:List Addr} {H₁:Hp} {fl:Flow} {s':Shared} (st:StepS f W s α H h₁ β H₁) (lv:Lives s.heap h₁)
    (p:PostS G f W { s with heap:=h₁,toks:=tk₁ } (α++β) H₁ N R fl s'):PostS G f W s α H N R fl s':=by
  obtain ⟨h',tk,β',H',rfl,st',lv',R',q⟩:=p
  refine ⟨h',tk,β++β',H',rfl,st.trans lv st',lv.trans lv',by simpa using R',?_⟩
  cases fl with
  | next=>refine ad (q) fun ρ' F' q=>?_; exact ⟨ρ',by simpa using F',q⟩
  | ret v=>refine tK (q) fun k d r q=>?_; exact ⟨k,d,by simpa using r,q⟩
  | brk=>exact q
  | cont=>exact q
theorem RaiseOk.later {W:Nat→Prop} {s:Shared} {α:List Addr} {H:Hp} {Y:Nat→Hp→Prop} {E:Value→Shared→Prop} {h₁:Heap} {tk₁:Nat} {β:List Addr} {H₁:Hp} (hY:RaiseOk X f W s α H Y E) (st:StepS f W s α H h₁ β H₁) (lv:Lives s.heap h₁) :
    RaiseOk X f W { s with heap:=h₁,toks:=tk₁ } (α++β) H₁ Y E:=fun k stm h' tk β' H' ρ' hm st' lv' R' F' y=>by
  exact hY k stm h' tk (β++β') H' ρ' hm (st.trans lv st') (lv.trans lv') (by simpa using R') (by simpa using F') y
theorem BS (K:dI f):SB X f .skip []:=fun W s α ρ H N R Y E hW T F HR' hY q=>by
  simp only [qS1,qS2,qS3,qS4,qS5,qS6,qS7,qS8,qS9,bj,dy,b5,fA,gH] at q
  exact wpAny_execs_nil ⟨s.heap,s.toks,[],H,rfl,.refl,fun b o e=>⟨o,e⟩,by simpa using HR',ρ,by simpa using F,q⟩
theorem za {a b:PS} {st:Stmt} {sts:List Stmt} (K:dI f) (h1:SS X f a st) (h2:SB X f b sts):SB X f (.seq a b) (st :: sts):=fun W s α ρ H N R Y E hW T F HR' hY q=>by
  simp only [qS1,qS2,qS3,qS4,qS5,qS6,qS7,qS8,qS9,bj,dy,b5,fA,gH] at q
  refine wpAny_execs_cons (wpAny_mono (h1 W s α ρ H _ R Y E hW T F HR' hY q) (fun fl s₁ p=>?_) fun _ _ x=>x)
  cases fl with
  | next =>
    obtain ⟨h₁,tk₁,β,H₁,rfl,st,lv,R₁,ρ',F',q'⟩:=p
    exact wpAny_mono (h2 W { s with heap:=h₁,toks:=tk₁ } (α++β) ρ' H₁ N R Y E hW T F' R₁ (hY.later st lv) q') (fun _ _ p=>p.trans st lv) fun _ _ x=>x
  | ret v =>
    obtain ⟨h₁,tk₁,β,H₁,rfl,st,lv,R₁,k,d,r,q'⟩:=p
    exact ⟨h₁,tk₁,β,H₁,rfl,st,lv,R₁,k,d,r,q'⟩
  | brk=>obtain ⟨_,_,_,_,_,_,_,_,q⟩:=p; exact q.elim
  | cont=>obtain ⟨_,_,_,_,_,_,_,_,q⟩:=p; exact q.elim
theorem Ci {c:PE} {a b:PS} {v:Expr} {x y:List Stmt} {pos:Pos} (K:dI f) (h:SC X f.c c v) (h1:SB X f a x) (h2:SB X f b y):SS X f (.ite c a b) (.If v x y pos):=fun W s α ρ H N R Y E hW T F HR' hY q=>by
  simp only [qS1,qS2,qS3,qS4,qS5,qS6,qS7,qS8,qS9,bj,dy,b5,fA,gH] at q
  refine wpAny_If (wpAny_mono (h f.env s α ρ H (fun t H1=>if t then wpS X.sub X.Φ W a ρ H1 N R Y else wpS X.sub X.Φ W b ρ H1 N R Y) E K.env (T.at F) HR' F.fi q) (fun t s₁ p=>?_) fun _ _ x=>x)
  obtain ⟨h₁,tk₁,β,K₁,t',rfl,k,fr,R',rfl,q'⟩:=p
  have st:StepS f W s α H h₁ β (H++K₁):=.of k fr
  cases t with
  | true =>
    simp only [if_true] at q' ⊢
    exact wpAny_mono (h1 W { s with heap:=h₁,toks:=tk₁ } (α++β) ρ (H++K₁) N R Y E hW T (F.up k fr) R' (hY.later st (.of k)) q') (fun _ _ p=>p.trans st (.of k)) fun _ _ x=>x
  | false =>
    simp only [Bool.false_eq_true,if_false] at q' ⊢
    exact wpAny_mono (h2 W { s with heap:=h₁,toks:=tk₁ } (α++β) ρ (H++K₁) N R Y E hW T (F.up k fr) R' (hY.later st (.of k)) q') (fun _ _ p=>p.trans st (.of k)) fun _ _ x=>x
theorem kh {W:Nat→Prop} {s:Shared} {α:List Addr} {H:Hp} {E:Value→Shared→Prop}:RaiseOk X f W s α H (fun _ _=>False) E:=fun _ _ _ _ _ _ _ _ _ _ _ _ y=>y.elim
theorem CK {c:PE} {b:PS} {v:Expr} {x:List Stmt} {pos:Pos} (K:dI f) (h:SC X f.c c v) (h1:SB X f b x):SS X f (.whl c b) (.While v x [] pos):=fun W s α ρ H N R Y E hW T F HR' hY q=>by
  simp only [qS1,qS2,qS3,qS4,qS5,qS6,qS7,qS8,qS9,bj,dy,b5,fA,gH] at q
  refine aX (q) fun I μ hI turn=>?_
  refine wpAny_While (codeAny_whileLoop
    (fun n s'=>∃ h' tk β H' ρ',s'={ s with heap:=h',toks:=tk }∧StepS f W s α H h' β H'∧Lives s.heap h'∧HR X.G (α++β) h' H'∧FrS X.G f W h' (α++β) ρ'∧I ρ' H'∧n=μ ρ' H') ?_ (μ ρ H)
    ⟨s.heap,s.toks,[],H,ρ,rfl,.refl,fun b o e=>⟨o,e⟩,by simpa using HR',by simpa using F,hI,rfl⟩)
  intro n s' zr3; refine fW (zr3) fun h' tk β H' ρ' zq5 st lv R' F' hI' zq6=>?_; subst zq5; subst zq6
  have q:=turn ρ' H' hI'
  refine wpAny_mono (h f.env { s with heap:=h',toks:=tk } (α++β) ρ' H' (fun t H2=>if t then wpS X.sub X.Φ W b ρ' H2 (fun ρ3 H3=>I ρ3 H3∧μ ρ3 H3 < μ ρ' H') R (fun _ _=>False) else N ρ' H2) _ K.env (T.at F') R' F'.fi q) (fun t s₁ p=>?_) fun _ _ x=>x
  obtain ⟨h₁,tk₁,γ,K₁,t',rfl,k,fr,R₁,rfl,q'⟩:=p
  dsimp only at k fr
  have st1:StepS f W { s with heap:=h',toks:=tk } (α++β) H' h₁ γ (H'++K₁):=.of k fr
  have st2:=st.trans lv st1
  have lv2:=lv.trans (.of k)
  have F₁:=F'.up k fr
  cases t with
  | true =>
    simp only [if_true] at q' ⊢
    refine wpAny_mono (h1 W { s with heap:=h₁,toks:=tk₁ } ((α++β)++γ) ρ' (H'++K₁) _ R _ _ hW T F₁ R₁ kh q') (fun fl s₂ p=>?_) fun _ _ x=>x
    cases fl with
    | next =>
      obtain ⟨h₂,tk₂,δ,H₂,rfl,st3,lv3,R₂,ρ₂,F₂,hI₂,hμ⟩:=p
      refine ⟨_,hμ,h₂,tk₂,(β++γ)++δ,H₂,ρ₂,rfl,st2.trans (tk:=tk₁) lv2 (by simpa using st3),lv2.trans lv3,by simpa using R₂,by simpa using F₂,hI₂,rfl⟩
    | ret v =>
      obtain ⟨h₂,tk₂,δ,H₂,rfl,st3,lv3,R₂,kk,d,r,q₂⟩:=p
      exact ⟨h₂,tk₂,(β++γ)++δ,H₂,rfl,st2.trans (tk:=tk₁) lv2 (by simpa using st3),lv2.trans lv3,by simpa using R₂,kk,d,by simpa using r,q₂⟩
    | brk=>obtain ⟨_,_,_,_,_,_,_,_,q⟩:=p; exact q.elim
    | cont=>obtain ⟨_,_,_,_,_,_,_,_,q⟩:=p; exact q.elim
  | false =>
    simp only [Bool.false_eq_true,if_false] at q' ⊢
    refine wpAny_execs_nil ?_
    exact ⟨h₁,tk₁,β++γ,H'++K₁,rfl,st2,lv2,by simpa using R₁,ρ',by simpa using F₁,q'⟩
end
end Mine
namespace Mine
open PySem PyProof.Rows PySem.Calls
section
variable {X:SX} {f:FC}
theorem uR {G:GV} {W:Nat→Prop} {h:Heap} {α:List Addr} {ρ:Loc} (F:FrS G f W h α ρ) {b:Addr} {o:Obj} (e:h.get? b=some o) (hd:∀ es n,o.data≠.dict es n):b≠f.env.locals:=fun q=>by
  refine aX (F.fr) fun m cm zq73 _=>?_; refine dQ (zq73) fun o' es ep ho' hd' _=>?_
  rw [← q,e] at ho'; cases ho'; exact hd _ _ hd'
theorem im {G:GV} {W:Nat→Prop} {h:Heap} {α:List Addr} {ρ:Loc} (K:dI f) (F:FrS G f W h α ρ) {b:Addr} {o:Obj} (e:h.get? b=some o) (hd:∀ v,o.data≠.cell v):∀ n,(n,b) ∉ f.env.cells:=fun n hm=>by
  refine aJ (F.fr) fun m cm _ hc _=>?_
  refine ad (hc.cell n b (K.uniq n b hm)) fun o' ho' hd'=>?_
  rw [e] at ho'; cases ho'; exact hd _ hd'
theorem oL {G : GV} {h : Heap} {α : List Addr} {H : Hp} (R : HR G α h H) {b : Addr} {o : Obj} (e : h.get? b = some o) (hd : o.cls ≠ .type "list" ∨ ∀ xs n, o.data ≠ .seq xs n) (n : Nat) : α[n]? ≠ some b := fun ha => by
  obtain ⟨xs,hx⟩:=R.at ha
  refine ad (R.lst n b xs ha hx) fun vs zq72 _=>?_; refine dc (zq72) fun o' ho' hc' k hd'=>?_
  rw [e] at ho'; cases ho'
  rcases hd with hd | hd
  · exact hd hc'
  · exact hd _ _ hd'
theorem StepS.tup {G:GV} {W:Nat→Prop} {s:Shared} {α:List Addr} {H:Hp} {ρ:Loc} {h':Heap} {β:List Addr} {H':Hp} (K:dI f) (F:FrS G f W s.heap α ρ) (R:HR G α s.heap H) (st:StepS f W s α H h' β H'):KeepsT s.heap h':=fun a items x=>by
  refine dc (x) fun o ho hc n hd=>?_
  refine ⟨o,st.keep a o ho (uR F ho (by simp [hd])) (im K F ho (by simp [hd])) fun k hk=>?_,hc,n,hd⟩
  exact absurd hk (oL R ho (.inl (by rw [hc]; decide)) k)
theorem StepS.weak {W W':Nat→Prop} {s:Shared} {α:List Addr} {H:Hp} {h':Heap} {β:List Addr} {H':Hp} (hw:∀ n,W' n→W n) (st:StepS f W' s α H h' β H'):StepS f W s α H h' β H' :=
  ⟨fun b o e h1 h2 h3=>st.keep b o e h1 h2 fun n hn w=>h3 n hn (hw n w),st.fresh,fun n hn w=>st.same n hn fun x=>w (hw n x),st.le⟩
theorem FrS.off {G:GV} {W:Nat→Prop} {h h':Heap} {α:List Addr} {ρ:Loc} {wr:List Addr} (K:dI f) (F:FrS G f W h α ρ) (hwr:∀ b∈wr,∃ o vs,h.get? b=some o∧o.data=.fields vs) (hdead:∀ b∈wr,f.hb.get? b=none)
    (hk:∀ b o,b ∉ wr→h.get? b=some o→h'.get? b=some o) (lt:KeepsLT h h'):FrS G f W h' α ρ:=by
  refine aJ (F.fr) fun m cm hn hc hv=>?_
  refine ⟨⟨m,cm,hn.at' fun o e=>hk _ o (fun hm=>?_) e,⟨fun x a e=>?_,hc.apart,hc.above⟩,fun i x d e1 e2=>?_⟩,fun b o e=>hk b o (fun hm=>?_) (F.kb b o e),F.wb⟩
  · refine aX (hwr _ hm) fun o' vs e' d'=>?_
    exact uR F e' (by simp [d']) rfl
  · refine ad (hc.cell x a e) fun o ho hd=>?_
    refine ⟨o,hk a o (fun hm=>?_) ho,hd⟩
    refine aX (hwr _ hm) fun o' vs e' d'=>?_
    rw [ho] at e'; cases e'; rw [hd] at d'; cases d'
  · refine ad (hv i x d e1 e2) fun v hv r=>?_
    exact ⟨v,hv,r.mono (fun _ _ e=>e) lt.tup⟩
  · rw [hdead b hm] at e; cases e
theorem zL {i:Nat} {x:Str} {pit:PI} {b:PS} {iter:Expr} {body:List Stmt} {px pos:Pos} (K:dI f) (hx:f.c.isVar i x=true) (h:SI X f.c pit iter) (hns:kK iter=true) (h1:SB X f b body) :
    SS X f (.forr i pit b) (.For (.Name x px) iter body [] pos):=fun W s α ρ H N R Y E hW T F HR' hY q=>by
  simp only [qS1,qS2,qS3,qS4,qS5,qS6,qS7,qS8,qS9,bj,dy,b5,fA,gH] at q
  refine wpAny_For (wpAny_mono (h f.env s α ρ H _ E K.env (T.at F) HR' F.fi q) (fun xv s₁ p=>wpAny_mono p (fun it s₂ p=>?_) fun _ _ e=>e) fun _ _ e=>e) (fF hns f.env)
  refine mo (p) fun h₁ tk₁ β₁ K₁ xs src k₁ f₁ R₁ zq8 hgo=>?_; obtain ⟨I,fp,wr,P,St,h₂,tk₂,rfl,rfl,k₂,Wk,hst,hwr,hfield,hfp,hsrc,hP⟩:=zq8
  dsimp only at k₂ hwr
  have k12:KeepsH s.heap h₂:=k₁.trans k₂
  have deadS:∀ b∈wr,s.heap.get? b=none:=fun b hb=>by
    cases e:s.heap.get? b with
    | none=>rfl
    | some o=>have:=hwr b hb; rw [k₁ b o e] at this; cases this
  have deadB:∀ b∈wr,f.hb.get? b=none:=fun b hb=>by
    cases e:f.hb.get? b with
    | none=>rfl
    | some o=>have:=deadS b hb; rw [F.kb b o e] at this; cases this
  have hWW:∀ m,(W m∧some m≠src)→W m:=fun m h=>h.1
  refine codeAny_forLoop (fun n s'=>∃ j h' tk γ H' ρ',s'={ s with heap:=h',toks:=tk }∧j≤xs.length∧n=xs.length+1 - j∧St j h'∧StepS f W s α H h' (β₁++γ) H'∧Lives s.heap h'∧HR X.G (α++(β₁++γ)) h' H'∧FrS X.G f W h' (α++(β₁++γ)) ρ'∧KeepsT h₂ h' ∧
      (∀ b∈fp,b ∉ wr→(∃ n,src=some n∧(α++(β₁++γ))[n]?=some b)∨∃ items,IsTup h' b items) ∧
      bx (fun ρ2 H2 k=>wpS X.sub X.Φ (fun m=>W m∧some m≠src) b ρ2 H2 k R fun _ _=>False) i (xs.drop j) ρ' H' N) ?_ (xs.length+1)
    ⟨0,h₂,tk₂,[],H++K₁,ρ,rfl,Nat.zero_le _,rfl,hst,by simpa using (StepS.of (f:=f) (W:=W) (α:=α) (H:=H) (K:=K₁) k12 f₁),.of k12,by simpa using R₁.keeps k₂,by simpa using F.up k12 f₁,fun _ _ x=>x,by simpa using hsrc,by simpa using hgo⟩
  intro n s' zr4; refine gg (zr4) fun j h' tk γ H' ρ' zq6 hj zq7 hstj st lv R' F' kt hsrc' hgo'=>?_; subst zq6; subst zq7
  have off:∀ h'':Heap,(∀ b o,b ∉ wr→h'.get? b=some o→h''.get? b=some o)→KeepsLT h' h'':=fun h'' hk a o items n e d=>hk a o (fun hm=>by
    refine aX (hfield j h' hstj a hm) fun o' vs e' d'=>?_
    rw [e] at e'; cases e'; rw [d] at d'; cases d') e
  have stOff:∀ h'':Heap,(∀ b o,b ∉ wr→h'.get? b=some o→h''.get? b=some o)→StepS f W s α H h'' (β₁++γ) H'∧Lives s.heap h'':=fun h'' hk =>
    ⟨⟨fun b o e a1 a2 a3=>hk b o (fun hm=>by rw [deadS b hm] at e; cases e) (st.keep b o e a1 a2 a3),st.fresh,st.same,st.le⟩,
      fun b o e=>by obtain ⟨o',e'⟩:=lv b o e; exact ⟨o',hk b o' (fun hm=>by rw [deadS b hm] at e; cases e) e'⟩⟩
  by_cases hlt:j < xs.length
  · refine Wk.item j _ _ _ hlt hstj fun v h'' tk' hPv hst'' hk''=>?_
    have lt1:=off h'' hk''
    obtain ⟨st1,lv1⟩:=stOff h'' hk''
    have F1:=F'.off K (hfield j h' hstj) deadB hk'' lt1
    have R1:=R'.lt' lt1
    have kt1:KeepsT h₂ h'':=fun a items x=>lt1.tup a items (kt a items x)
    refine ad (hP j v hlt hPv) fun d hd rd=>?_
    have rd1:Rep X.G (α++(β₁++γ)) h'' v d:=by
      have:=rd.mono (α':=(α++β₁)++γ) dW kt1
      rwa [List.append_assoc] at this
    refine wpAny_assign_Name (f5 (s:={ s with heap:=h'',toks:=tk' }) K F1 hx rd1 fun h₃ tk₃ F3 kf3 lt3 lv3=>?_)
    dsimp only at kf3 lt3 lv3
    have R3:=R1.lt' lt3
    have kt3:KeepsT h₂ h₃:=fun a items x=>lt3.tup a items (kt1 a items x)
    have st3:StepS f W s α H h₃ (β₁++γ) H':=⟨fun b o e a1 a2 a3=>kf3 b o (st1.keep b o e a1 a2 a3) a1 a2,st1.fresh,st1.same,st1.le⟩
    have lv13:=lv1.trans lv3
    -- what the iterator reads is kept by the store
    have st3':St (j+1) h₃:=Wk.frame _ _ _ hst'' fun b hb o e=>by
      by_cases hbw:b∈wr
      · refine aX (hfield (j+1) h'' hst'' b hbw) fun o' vs e' d'=>?_
        rw [e] at e'; cases e'
        exact kf3 b o e (uR F1 e (by simp [d'])) (im K F1 e (by simp [d']))
      · rcases hsrc' b hb hbw with ⟨n,hn,ha⟩ | ⟨items,hi⟩
        · obtain ⟨ys,hy⟩:=R1.at ha
          refine ad (R1.lst n b ys ha hy) fun vs zq71 _=>?_; refine dc (zq71) fun o' ho' hc' kk hd'=>?_
          rw [e] at ho'; cases ho'
          exact lt3 b o _ _ e hd'
        · refine dc (lt1.tup b items hi) fun o' ho' hc' kk hd'=>?_
          rw [e] at ho'; cases ho'
          exact lt3 b o _ _ e hd'
    have hdrop:xs.drop j=d :: xs.drop (j+1):=by
      obtain ⟨hl,he⟩:=List.getElem?_eq_some_iff.mp hd
      rw [List.drop_eq_getElem_cons hl,he]
    rw [hdrop] at hgo'
    simp only [bx] at hgo'
    refine wpAny_mono (h1 (fun m=>W m∧some m≠src) { s with heap:=h₃,toks:=tk₃ } (α++(β₁++γ)) (au ρ' i d) H' _ R _ _ (fun n hn=>hW n hn.1) T (F3.weak hWW) R3 kh hgo') (fun fl s₄ p=>?_) fun _ _ e=>e
    obtain ⟨h₄,tk₄,δ,H₄,rfl,st4,lv4,R4,q4⟩:=p
    have stAll:StepS f W s α H h₄ ((β₁++γ)++δ) H₄:=st3.trans (tk:=tk₃) lv13 (st4.weak hWW)
    have lvAll:=lv13.trans lv4
    cases fl with
    | next =>
      refine ad (q4) fun ρ₄ F4 q4=>?_
      have kt4:KeepsT h₃ h₄:=st4.tup K (F3.weak hWW) R3
      refine ⟨xs.length+1 - (j+1),by (exact om [xs.length+1 - (j+1),xs.length,j,xs.length+1 - j] [] [(.le (.a Y2 (.n 1)) Y1),(.an (.le (.a Y1 (.n 1)) (.a Y3 Y2)) (.le Y3 (.a Y1 (.n 1)))),(.or (.an (.le (.a Y2 (.n 1)) (.a Y1 (.n 1))) (.eq (.a Y1 (.n 1)) (.a Y0 (.a Y2 (.n 1))))) (.an (.le (.a Y1 (.n 1)) (.a Y2 (.n 1))) (.eq Y0 (.n 0))))] (.le (.a Y0 (.n 1)) Y3) [[1,0,1,0,0,0,1],[1,1,1,0,0,1]] rfl hlt (dG (xs.length+1) (j)) (aN (xs.length+1) (j+1))),j+1,h₄,tk₄,γ++δ,H₄,ρ₄,rfl,hlt,rfl,?_,by simpa using stAll,lvAll,by simpa using R4,?_,fun a items x=>kt4 a items (kt3 a items x),fun b hb hbw=>?_,q4⟩
      · refine Wk.frame _ _ _ st3' fun b hb o e=>?_
        by_cases hbw:b∈wr
        · refine aX (hfield (j+1) h₃ st3' b hbw) fun o' vs e' d'=>?_
          rw [e] at e'; cases e'
          exact st4.keep b o e (uR F3 e (by simp [d'])) (im K F3 e (by simp [d'])) fun n hn=>absurd hn (oL R3 e (.inr (by simp [d'])) n)
        · rcases hsrc' b hb hbw with ⟨n,hn,ha⟩ | ⟨items,hi⟩
          · obtain ⟨ys,hy⟩:=R3.at ha
            refine ad (R3.lst n b ys ha hy) fun vs zq70 _=>?_; refine dc (zq70) fun o' ho' hc' kk hd'=>?_
            rw [e] at ho'; cases ho'
            refine st4.keep b o e (uR F3 e (by simp [hd'])) (im K F3 e (by simp [hd'])) fun m hm hw=>?_
            obtain ⟨l1,g1⟩:=List.getElem?_eq_some_iff.mp ha
            obtain ⟨l2,g2⟩:=List.getElem?_eq_some_iff.mp hm
            have:m=n:=(List.getElem_inj R3.nodup).mp (g2.trans g1.symm)
            exact hw.2 (by rw [this,hn])
          · refine dc (lt3.tup b items (lt1.tup b items hi)) fun o' ho' hc' kk hd'=>?_
            rw [e] at ho'; cases ho'
            exact st4.keep b o e (uR F3 e (by simp [hd'])) (im K F3 e (by simp [hd'])) fun n hn=>absurd hn (oL R3 e (.inl (by rw [hc']; decide)) n)
      · -- the frame,with the lists of the loop's outside
        obtain ⟨fr4,kb4,wb4⟩:=F4
        refine ⟨by simpa using fr4,kb4,fun n a ha hw=>?_⟩
        rw [← List.append_assoc,← List.append_assoc] at ha
        by_cases hl:n < (α++β₁++γ).length
        · rw [List.getElem?_append_left hl] at ha
          exact F3.wb n a (by simpa using ha) hw
        · rw [List.getElem?_append_right (by (exact om [(α++β₁++γ).length,n] [] [(.no (.le (.a Y1 (.n 1)) Y0))] (.le Y0 Y1) [[1,1]] rfl hl))] at ha
          have hm:=st4.fresh a (List.mem_of_getElem? ha)
          cases e:f.hb.get? a with
          | none=>rfl
          | some o=>have:=F3.kb a o e; rw [show ({ s with heap:=h₃,toks:=tk₃ }:Shared).heap.get? a=none from hm] at this; cases this
      · rcases hsrc' b hb hbw with ⟨n,hn,ha⟩ | ⟨items,hi⟩
        · refine .inl ⟨n,hn,?_⟩
          have:=dW (β:=δ) n b ha
          simpa using this
        · exact .inr ⟨items,kt4 b items (lt3.tup b items (lt1.tup b items hi))⟩
    | ret v =>
      refine tK (q4) fun kk d r q4=>?_
      exact ⟨h₄,tk₄,(β₁++γ)++δ,H₄,rfl,stAll,lvAll,by simpa using R4,kk,d,by simpa using r,q4⟩
    | brk=>exact q4.elim
    | cont=>exact q4.elim
  · have hin:j=xs.length:=by (exact om [j,xs.length] [] [(.le Y0 Y1),(.no (.le (.a Y0 (.n 1)) Y1))] (.eq Y0 Y1) [[1,0,1],[1,1]] rfl hj hlt)
    subst hin
    refine Wk.done _ _ _ hstj fun h'' tk' hk''=>wpAny_execs_nil ?_
    have lt1:=off h'' hk''
    obtain ⟨st1,lv1⟩:=stOff h'' hk''
    refine ⟨h'',tk',β₁++γ,H',rfl,st1,lv1,R'.lt' lt1,ρ',F'.off K (hfield _ h' hstj) deadB hk'' lt1,?_⟩
    simpa [bx] using hgo'
end
end Mine
namespace Mine
open PySem PyProof.Rows PySem.Calls
theorem tL (vs:List Value):vs.toArray.eraseIdxIfInBounds (vs.toArray.size - 1)=vs.dropLast.toArray:=by
  unfold Array.eraseIdxIfInBounds
  split
  · rename_i h
    apply Array.ext'
    simp only [List.size_toArray,List.eraseIdx_toArray] at h ⊢
    rw [List.eraseIdx_length_sub_one]
  · rename_i h
    simp at h
    have h0:vs=[]:=by cases vs with | nil=>rfl | cons a r=>simp at h; omega
    subst h0; rfl
section
variable {X:SX} {f:FC}
theorem qy {G:GV} {W:Nat→Prop} {s:Shared} {α:List Addr} {ρ:Loc} {H:Hp} (F:FrS G f W s.heap α ρ) (R:HR G α s.heap H) (hW:∀ n,W n→1≤n) {i:Nat} {x:Str} (hx:f.c.isVar i x=true) {n:Nat} {xs:List V}
    (hv:af ρ i=some (.lst n)) (hw:W n) (hh:H[n]?=some xs) :
    ∃ (a:Addr) (vs:List Value),α[n]?=some a∧VarAt f.env s.heap x (.ref a)∧s.heap.PlainList a vs.toArray∧Reps G α s.heap vs xs∧vs.length≤lim∧xs.length≤lim:=by
  refine ad (F.fi i x _ (MC.isVar_spec hx).1 hv) fun u hu r=>?_
  cases r with
  | lst ha =>
    refine cu (R.lst n _ xs ha hh) fun vs hl q z p=>?_
    exact ⟨_,vs,ha,hu,p (by have:=hW n hw; (exact om [n] [] [(.le (.n 1) Y0)] (.no (.eq Y0 (.n 0))) [[1,0,1]] rfl this)),q,by rw [q.len]; exact z,z⟩
theorem gT {W:Nat→Prop} {s:Shared} {α:List Addr} {ρ:Loc} {H:Hp} {N:Loc→Hp→Prop} {R:V→Hp→Prop} {h₁ h₂:Heap} {tk₁ tk₂:Nat} {β:List Addr} {K₁:Hp} {n:Nat} {xs':List V} (k:KeepsH s.heap h₁) (fr:∀ b∈β,s.heap.get? b=none)
    (p:FrS X.G f W h₂ (α++β) ρ∧HR X.G (α++β) h₂ ((H++K₁).set n xs')∧StepS f W { s with heap:=h₁,toks:=tk₁ } (α++β) (H++K₁) h₂ [] ((H++K₁).set n xs')∧Lives h₁ h₂) (q:N ρ ((H++K₁).set n xs')) :
    PostS X.G f W s α H N R .next { s with heap:=h₂,toks:=tk₂ }:=by
  refine bP (p) fun F' R' st lv=>?_
  have:=(StepS.of (f:=f) (W:=W) (α:=α) (H:=H) (K:=K₁) k fr).trans (Lives.of k) st
  exact ⟨h₂,tk₂,β,_,rfl,by simpa using this,(Lives.of k).trans lv,R',ρ,F',q⟩
theorem vA {i:Nat} {x:Str} {pk pe:PE} {j v:Expr} {px pp pos:Pos} (K:dI f) (hx:f.c.isVar i x=true) (hk:SE X f.c pk j) (h:SE X f.c pe v) (hc:jW v=true) :
    SS X f (.setidx i pk pe) (.Assign [.Subscript (.Name x px) j pp] v pos):=fun W s α ρ H N R Y E hW T F HR' hY q=>by
  simp only [qS1,qS2,qS3,qS4,qS5,qS6,qS7,qS8,qS9,bj,dy,b5,fA,gH] at q
  refine wpAny_Assign_Subscript (wpAny_mono (h f.env s α ρ H _ E K.env (T.at F) HR' F.fi q) (fun v s₁ p=>?_) fun _ _ x=>x) (cQ hc _ _ _)
  refine p.go fun h₁ tk₁ β K₁ d k₁ fr₁ R₁ r₁ q₁=>?_
  have F₁:=F.up k₁ fr₁
  refine bU (ifLst.get q₁) fun n hl hw q₁=>?_
  refine ad (F₁.fi i x _ (MC.isVar_spec hx).1 hl) fun u hu ru=>?_
  refine eG (s:={ s with heap:=h₁,toks:=tk₁ }) K.env hx hu ?_
  refine wpAny_mono (hk f.env { s with heap:=h₁,toks:=tk₁ } (α++β) ρ (H++K₁) _ E K.env (T.at F₁) R₁ F₁.fi q₁) (fun iv s₃ p=>?_) fun _ _ x=>x
  obtain ⟨h₂,tk₂,γ,K₂,kv,rfl,k₂,fr₂,R₂,r₂,q₂⟩:=p
  refine ad (ifInt.get q₂) fun jj zq74 q₂=>?_; subst zq74
  refine ad (ifSome.get q₂) fun xs hxs q₂=>?_
  refine ad (ifSome.get q₂) fun pl hpl q₂=>?_
  dsimp only at k₂ fr₂
  have F₂:=F₁.up k₂ fr₂
  cases r₂ with
  | int _ t =>
    cases ru with
    | lst ha =>
      have ha₂:=dW (β:=γ) _ _ ha
      refine cu (R₂.lst n _ xs ha₂ hxs) fun vs hli rs z pp=>?_
      have hpl':=pp (by have:=hW n hw; (exact om [n] [] [(.le (.n 1) Y0)] (.no (.eq Y0 (.n 0))) [[1,0,1]] rfl this))
      have hlen:=rs.len
      have zz:xs.length≤1000000:=z
      refine mc (s:={ s with heap:=h₂,toks:=tk₂ }) hpl' (by rw [List.size_toArray,hlen]; exact hpl) (by rw [List.size_toArray]; (exact om [vs.length,xs.length] [] [(.eq Y0 Y1),(.le Y1 (.n 1000000))] (.le Y0 (.n 1000000)) [[1,1,0,1]] rfl hlen zz)) ?_
      have wl:=e7 (s:={ s with heap:=h₂,toks:=tk₂ }) (vs':=vs.set pl v) (xs':=xs.set pl d) K F₂ R₂ hw ha₂ hxs (Heap.SameBut.update ..) (by simpa using f7 hpl' (·.setIfInBounds pl v)) (rs.set (r₁.up k₂) pl) (by rw [List.length_set]; exact z)
      have st1:StepS f W s α H h₁ β (H++K₁):=.of k₁ fr₁
      have st2:StepS f W { s with heap:=h₁,toks:=tk₁ } (α++β) (H++K₁) h₂ γ (H++K₁++K₂):=.of k₂ fr₂
      have st12:=st1.trans (Lives.of k₁) st2
      refine bP (wl) fun F₃ R₃ st3 lv3=>?_
      have st:=st12.trans (tk:=tk₂) ((Lives.of k₁).trans (.of k₂)) (by simpa using st3)
      exact ⟨_,tk₂,β++γ,_,rfl,by simpa using st,((Lives.of k₁).trans (.of k₂)).trans lv3,by simpa using R₃,ρ,by simpa using F₃,q₂⟩
theorem gR {prog : Program} {w : World} {A : Around} {E : Value → Shared → Prop} {s : Shared} {name : Str} {id : String} {a : Addr} {items : Array Value} {pos : Pos} {args : List (Bool × Sem Value)} {Q : Value → Shared → Prop} (slot : Slot "list" name id)
    (hty : typeOf (.builtin id) = pure (.type "method_descriptor")) (hl : s.heap.PlainList a items) (h : wpAny (model prog w) A (callWith pos (.builtin id) [.ref a] args []) Q E s) : MethodOnS prog w A E name (.ref a) pos args Q s := by
  refine ⟨"list", id, PySem.F.plainAttrs_list, slot, hty, hl.isList.typeIs, fun b e => ?_, h⟩
  cases e
  obtain ⟨n,ho⟩:=hl
  exact ⟨_,ho,rfl⟩
theorem BW {i : Nat} {x a : Str} {pe : PE} {v : Expr} {px ap cp pos : Pos} (K : dI f) (hx : f.c.isVar i x = true) (ha : a = Str.ofString "append") (hli : ap.endLine = cp.line) (hn : bA v = true) (h : SE X f.c pe v) :
    SS X f (.app i pe) (.Expr (.Call (.Attribute (.Name x px) a ap) [v] [] cp) pos):=fun W s α ρ H N R Y E hW T F HR' hY q=>by
  subst ha
  simp only [qS1,qS2,qS3,qS4,qS5,qS6,qS7,qS8,qS9,bj,dy,b5,fA,gH] at q
  refine bU (ifLst.get q) fun n hl hw q=>?_
  refine ad (F.fi i x _ (MC.isVar_spec hx).1 hl) fun u hu ru=>?_
  cases ru with
  | lst ha =>
    obtain ⟨xs₀,hx₀⟩:=HR'.at ha
    refine cu (HR'.lst n _ xs₀ ha hx₀) fun vs₀ _ _ _ pp₀=>?_
    have hpl₀:=pp₀ (by have:=hW n hw; (exact om [n] [] [(.le (.n 1) Y0)] (.no (.eq Y0 (.n 0))) [[1,0,1]] rfl this))
    refine wpAny_Expr (Call_method1 rfl (aL hn) (by simp [hli]) (eG K.env hx hu ?_)) (by have:=K.env.kind; simp [interactive,this]) (cQ rfl _ _ _)
    refine gR PySem.F.slot_list_append PySem.F.type_list_append hpl₀ (P.append_list ?_)
    refine wpAny_mono (h f.env s α ρ H _ E K.env (T.at F) HR' F.fi q) (fun v s₁ p=>?_) fun _ _ x=>x
    obtain ⟨h₁,tk₁,β,K₁,d,rfl,k₁,fr₁,R₁,r₁,q₁⟩:=p
    refine bU (ifSome.get q₁) fun xs hxs hlt q₁=>?_
    have F₁:=F.up k₁ fr₁
    have ha₁:=dW (β:=β) _ _ ha
    refine cu (R₁.lst n _ xs ha₁ hxs) fun vs _ rs z pp=>?_
    have hpl:=pp (by have:=hW n hw; (exact om [n] [] [(.le (.n 1) Y0)] (.no (.eq Y0 (.n 0))) [[1,0,1]] rfl this))
    have hlen:=rs.len
    obtain ⟨ne,ho⟩:=id hpl
    refine ⟨vs.toArray,ne,by rw [List.size_toArray]; have:=d6; (clear K hx hli hn h hW T F HR' hY hl hw q hu ha hx₀ pp₀ hpl₀ k₁ fr₁ R₁ r₁ hxs q₁ F₁ ha₁ rs z pp hpl ho; omega),ho,?_⟩
    have wl:=e7 (s:={ s with heap:=h₁,toks:=tk₁ }) (vs':=vs++[v]) (xs':=xs++[d]) K F₁ R₁ hw ha₁ hxs (Heap.SameBut.update ..) (by simpa using f7 hpl (·.push v)) (rs.append (.cons r₁ .nil)) (by rw [List.length_append]; simp; (clear K hx hli hn h hW T F HR' hY hl hw q hu ha hx₀ pp₀ hpl₀ k₁ fr₁ R₁ r₁ hxs q₁ F₁ ha₁ rs z pp hpl ho; omega))
    exact gT k₁ fr₁ wl q₁
theorem Cr {i : Nat} {x a : Str} {px ap cp pos : Pos} (K : dI f) (hx : f.c.isVar i x = true) (ha : a = Str.ofString "pop") (hli : ap.endLine = cp.line) :
    SS X f (.pop i) (.Expr (.Call (.Attribute (.Name x px) a ap) [] [] cp) pos):=fun W s α ρ H N R Y E hW T F HR' hY q=>by
  subst ha
  simp only [qS1,qS2,qS3,qS4,qS5,qS6,qS7,qS8,qS9,bj,dy,b5,fA,gH] at q
  refine bU (ifLst.get q) fun n hl hw q=>?_
  refine xD (ifSome.get q) fun xs hh ys k zq9 q=>?_; subst zq9
  refine lE (qy F HR' hW hx hl hw hh) fun a vs ha hu hpl rs z' z=>?_
  have hlen:=rs.len
  refine ad (rs.get (n:=ys.length) (d:=.int k) (by simp)) fun val aW rval=>?_
  cases rval with
  | int _ t =>
    obtain ⟨ne,ho⟩:=id hpl
    refine wpAny_Expr (Call_method0 rfl (by simp [hli]) (eG K.env hx hu ?_)) (by have:=K.env.kind; simp [interactive,this]) (cQ rfl _ _ _)
    refine gR PySem.F.slot_list_pop PySem.F.type_list_pop hpl (P.pop_list (y:=.int k t) ho ?_ ?_ (by rw [List.size_toArray]; have:=d6; (clear K hx hli hW T F HR' hY hl hw q hh ha hu hpl rs z aW ho; omega)))
    · simp only [List.size_toArray,List.getElem?_toArray]
      rw [show vs.length - 1=ys.length by simp at hlen; (exact om [vs.length - 1,vs.length,ys.length] [] [(.eq Y1 (.a Y2 (.n 1))),(.or (.an (.le (.n 1) Y1) (.eq Y1 (.a Y0 (.n 1)))) (.an (.le Y1 (.n 1)) (.eq Y0 (.n 0))))] (.eq Y0 Y2) [[1,0,1,0,1],[1,0,1,1],[1,1,0,0,0,1],[1,0,0,0,1]] rfl hlen (aN (vs.length) (1)))]; exact aW
    · have wl:=e7 (s:=s) (vs':=vs.dropLast) (xs':=ys) K F HR' hw ha hh (Heap.SameBut.update ..) (by
        have e:=f7 hpl (fun xs=>xs.eraseIdxIfInBounds (vs.toArray.size - 1))
        have e2:vs.toArray.eraseIdxIfInBounds (vs.toArray.size - 1)=vs.dropLast.toArray:=tL vs
        rw [e2] at e; exact e) (by simpa using rs.dropLast) (by simp at z; (clear K hx hli hW T F HR' hY hl hw q hh ha hu hpl rs z' hlen aW ho; omega))
      exact gT (h₁:=s.heap) (tk₁:=s.toks) (β:=[]) (K₁:=[]) (.refl _) (by simp) (by simpa using wl) (by simpa using q)
theorem Cm {i : Nat} {x a : Str} {px ap cp pos : Pos} (K : dI f) (hx : f.c.isVar i x = true) (ha : a = Str.ofString "reverse") (hli : ap.endLine = cp.line) :
    SS X f (.rev i) (.Expr (.Call (.Attribute (.Name x px) a ap) [] [] cp) pos):=fun W s α ρ H N R Y E hW T F HR' hY q=>by
  subst ha
  simp only [qS1,qS2,qS3,qS4,qS5,qS6,qS7,qS8,qS9,bj,dy,b5,fA,gH] at q
  refine bU (ifLst.get q) fun n hl hw q=>?_
  refine ad (ifSome.get q) fun xs hh q=>?_
  refine lE (qy F HR' hW hx hl hw hh) fun a vs ha hu hpl rs z' z=>?_
  obtain ⟨ne,ho⟩:=id hpl
  refine wpAny_Expr (Call_method0 rfl (by simp [hli]) (eG K.env hx hu ?_)) (by have:=K.env.kind; simp [interactive,this]) (cQ rfl _ _ _)
  refine gR PySem.F.slot_list_reverse PySem.F.type_list_reverse hpl (P.reverse_list ho ?_ (by rw [List.size_toArray]; have:=d6; (clear K hx hli hW T F HR' hY hl hw hh q ha hu hpl rs z ho; omega)))
  have wl:=e7 (s:=s) (vs':=vs.reverse) (xs':=xs.reverse) K F HR' hw ha hh (Heap.SameBut.update ..) (by simpa using f7 hpl (fun xs=>xs.reverse)) rs.reverse (by rw [List.length_reverse]; exact z)
  exact gT (h₁:=s.heap) (tk₁:=s.toks) (β:=[]) (K₁:=[]) (.refl _) (by simp) (by simpa using wl) (by simpa using q)
end
end Mine
namespace Mine
open PySem PyProof.Rows PySem.Calls
section
variable {X:SX} {f:FC}
theorem FrS.other {G:GV} {W:Nat→Prop} {h h':Heap} {α:List Addr} {ρ:Loc} {C:Addr} (K:dI f) (F:FrS G f W h α ρ) (hs:Heap.SameBut C h h') (hL:C≠f.env.locals) (hc:∀ n,(n,C) ∉ f.env.cells) (hb:f.hb.get? C=none) (kt:KeepsT h h'):FrS G f W h' α ρ:=by
  refine aJ (F.fr) fun m cm hn hcl hv=>?_
  refine ⟨⟨m,cm,hn.sameBut hs (Ne.symm hL),⟨fun x a e=>(hcl.cell x a e).sameBut hs fun q=>hc x (q ▸ PySem.mem_of_lookup e),hcl.apart,hcl.above⟩,fun i x d e1 e2=>?_⟩,fun b o e=>hs.extBut b o (fun q=>by rw [q,hb] at e; cases e) (F.kb b o e),F.wb⟩
  refine ad (hv i x d e1 e2) fun v hv r=>?_
  exact ⟨v,hv,r.mono (fun _ _ e=>e) kt⟩
theorem FrS.deadH {G:GV} {W:Nat→Prop} {s:Heap} {α:List Addr} {ρ:Loc} (F:FrS G f W s α ρ) {b:Addr} (e:s.get? b=none):f.hb.get? b=none:=by
  cases e':f.hb.get? b with
  | none=>rfl
  | some o=>have:=F.kb b o e'; rw [e] at this; cases this
theorem lu {i:Nat} {y:Str} {py spos:Pos} {elt iter:Expr} {x:Str} {px pos:Pos} {ifs:List Expr} {sc:Scope} {cs:List Str} {pelt:PE} {caps:List Nat} {pit:PI} {cond:PO} (KK:dI f) (hy:f.c.isVar i y=true)
    (K:CompOk f.c sc x cs caps) (h1:SE X ⟨f.c.g,sc,x :: cs⟩ pelt elt) (h2:wm X ⟨f.c.g,sc,x :: cs⟩ cond ifs) (h3:SI X f.c pit iter) (hns:kK iter=true) :
    SS X f (.assign i (.comp pelt 1 caps pit cond)) (.Assign [.Name y py] (.ListComp elt [⟨.Name x px,iter,ifs,0⟩] sc pos) spos):=fun W s α ρ H N R Y E hW T F HR' hY q=>by
  have hsw:∃ b,swapsWith (.ListComp elt [⟨.Name x px,iter,ifs,0⟩] sc pos) (some (.Name y py)) spos.line f.env=pure b:=⟨_,rfl⟩
  obtain ⟨b,hsw⟩:=hsw
  cases b with
  | false =>
    simp only [qS1,qS2,qS3,qS4,qS5,qS6,qS7,qS8,qS9,bj,dy,b5,fA,gH] at q
    refine wpAny_Assign_Name (wpAny_mono (uf K h1 h2 h3 hns f.env s α ρ H _ E KK.env (T.at F) HR' F.fi q) (fun v s₁ p=>?_) fun _ _ x=>x) hsw
    exact lB KK F hy p
  | true =>
    simp only [qS1,qS2,qS3,qS4,qS5,qS6,qS7,qS8,qS9,bj,dy,b5,fA,gH,qE1,qE2,qE5,qE6,qE7,qE8,qE9,fy,bh,fz,fB,aO,iw,br,g7,aY,hX,cJ,cY,dH] at q
    rw [exec_Assign_Name_used _ _ _ _ hsw]
    refine wpAny_bind (wpAny_standAt (wpAny_bind ?_))
    rw [arm_evalThenUse_ListComp]
    refine wpAny_bind (wpAny_mono (Q:=fun _ s'=>PostS X.G f W s α H N R .next s') ?_ (fun _ _ p=>wpAny_pure (wpAny_pure p)) fun _ _ e=>e)
    refine wpAny_comprehension_free (use:=some (assign (.Name y py) f.env)) rfl (fF hns f.env) (K.clos KK.env) K.kind K.names (wpAny_mono (h3 f.env s α ρ H _ E KK.env (T.at F) HR' F.fi q) (fun xv s₁ p=>wpAny_mono p (fun it s₂ p=>?_) fun _ _ e=>e) fun _ _ e=>e)
    refine nu K h1 h2 f.env s α ρ H _ E KK.env (T.at F) F.fi it s₂ p (fun acc C=>compPost (model X.prog X.w) X.A E (some (assign (.Name y py) f.env)) (fun _ s'=>PostS X.G f W s α H N R .next s') acc C) fun D C s' p=>?_
    refine bO (p) fun h' tk β K₁ ys ds m zq77 k fr R' dD dC hDC hD hpl rys z hn q'=>?_; subst zq77
    -- the new list joins the lists
    have fr':∀ b∈β++[D],s.heap.get? b=none:=fun b hb=>by
      rcases List.mem_append.mp hb with hb | hb
      · exact fr b hb
      · simp at hb; subst hb; exact dD
    have F':=F.up k fr'
    have R'':HR X.G (α++(β++[D])) h' (H++(K₁++[ds])):=by
      have:=R'.push (.refl _) hD hpl rys z
      simpa using this
    have rD:Rep X.G (α++(β++[D])) h' (.ref D) (.lst (H++K₁).length):=by
      refine Rep.lst ?_
      rw [← R'.len,← List.append_assoc,List.getElem?_append_right (Nat.le_refl _)]; simp
    have hCL:C≠f.env.locals:=fun q=>by obtain ⟨o,ho⟩:=F.alive; rw [← q,dC] at ho; cases ho
    have hCc:∀ n,(n,C) ∉ f.env.cells:=fun n hm=>by
      refine aJ (F.fr) fun m cm _ hc _=>?_
      refine ad (hc.cell n C (KK.uniq n C hm)) fun o' ho' hd'=>?_
      rw [dC] at ho'; cases ho'
    show wpAny _ _ (assign (.Name y py) f.env (.ref D)) _ _ _
    refine wpAny_assign_Name (f5 (s:={ s with heap:=h',toks:=tk }) KK F' hy rD fun h₃ tk₃ F3 kf3 lt3 lv3=>?_)
    dsimp only at kf3 lt3 lv3
    refine bv (id hn) fun oC es ep hoC hdC hkC hfC=>?_
    have hoC3:=kf3 C oC hoC hCL hCc
    have hn3:h₃.Ns C m:=⟨oC,es,ep,hoC3,hdC,hkC,hfC⟩
    refine ⟨m,hn3,fun h₄ hs4=>?_⟩
    dsimp only at hs4
    have lt4:KeepsLT h₃ h₄:=KeepsLT.sameBut hs4 (gf hn3)
    refine ⟨h₄,tk₃,β++[D],H++(K₁++[ds]),rfl,⟨fun b o e a1 a2 _=>hs4.extBut b o (fun q=>by rw [q,dC] at e; cases e) (kf3 b o (k b o e) a1 a2),fr',fun n hnn _=>List.getElem?_append_left hnn,by simp⟩,fun b o e=>?_,(R''.lt' lt3).lt' lt4,_,F3.other KK hs4 hCL hCc (F.deadH dC) lt4.tup,by simpa using q'⟩
    obtain ⟨o',e'⟩:=lv3 b o (k b o e)
    exact ⟨o',hs4.extBut b o' (fun q=>by rw [q,dC] at e; cases e) e'⟩
theorem nh (K:dI f) {W:Nat→Prop} {E:Value→Shared→Prop}:∀ (is:List Nat) (ts:List Expr) (s:Shared) (α:List Addr) (ρ:Loc) (vs:List Value) (ds:List V) (Z:Unit→Shared→Prop),vl f.c is ts=true→vs.length=is.length→FrS X.G f W s.heap α ρ→Reps X.G α s.heap vs ds →
    (∀ h' tk,FrS X.G f W h' α (kz ρ is ds)→sF f s.heap h'→KeepsLT s.heap h'→Lives s.heap h'→Z () { s with heap:=h',toks:=tk }) →
    wpAny (model X.prog X.w) X.A (assignInOrder ((assignEach ts f.env).map (·.2)) vs) Z E s
  | [],ts,s,α,ρ,vs,ds,Z,ht,hl,F,r,hz=>by
    cases ts with
    | cons _ _=>exact (Bool.false_ne_true ht).elim
    | nil =>
      cases vs with
      | nil =>
        cases r
        exact wpAny_pure (hz s.heap s.toks F (fun _ _ e _ _=>e) (fun _ _ _ _ e _=>e) (fun b o e=>⟨o,e⟩))
      | cons v vs=>exact absurd hl (Nat.succ_ne_zero _)
  | i :: is,ts,s,α,ρ,vs,ds,Z,ht,hl,F,r,hz=>by
    cases ts with
    | nil=>exact (Bool.false_ne_true ht).elim
    | cons t ts =>
      have ht:=Bool.and_eq_true_iff.mp ht
      refine aX (b8 ht.1) fun x p zq76 hx=>?_; subst zq76
      cases vs with
      | nil=>exact absurd hl.symm (Nat.succ_ne_zero _)
      | cons v vs =>
        cases r with
        | cons rv rs =>
          rename_i d ds
          show wpAny _ _ (do holding vs (assign (.Name x p) f.env v); assignInOrder ((assignEach ts f.env).map (·.2)) vs) Z E s
          refine wpAny_bind (wpAny_holding (wpAny_assign_Name (f5 K F hx rv fun h' tk F' kf lt lv=>?_)))
          refine nh K is ts { s with heap:=h',toks:=tk } α (au ρ i d) vs ds Z ht.2 (Nat.succ.inj hl) F' (rs.mono (fun _ _ e=>e) lt.tup) fun h'' tk' F'' kf' lt' lv'=>?_
          exact hz h'' tk' F'' (fun b o e a1 a2=>kf' b o (kf b o e a1 a2) a1 a2) (lt.trans lt') (lv.trans lv')
theorem nc:∀ {is:List Nat} {ts:List Expr},vl f.c is ts=true→(assignEach ts f.env).length=is.length∧(assignEach ts f.env).findIdx? (·.1)=none
  | [],[],h=>⟨rfl,rfl⟩
  | [],_ :: _,h=>(Bool.false_ne_true h).elim
  | i :: is,[],h=>(Bool.false_ne_true h).elim
  | i :: is,t :: ts,h=>by
    have h:=Bool.and_eq_true_iff.mp h
    refine aX (b8 h.1) fun x p zq75 hx=>?_; subst zq75
    obtain ⟨a,b⟩:=nc h.2
    have e:assignEach (.Name x p :: ts) f.env=(false,assign (.Name x p) f.env) :: assignEach ts f.env:=rfl
    rw [e,List.length_cons,List.length_cons,a,List.findIdx?_cons,b]
    exact ⟨rfl,rfl⟩
theorem ot {ts:List Expr} {k:Nat} {tp:Pos} {v:Expr} (h:∀ vs k p,v≠.Tuple vs k p) (env:Env):swappedStores [.Tuple ts k tp] v env=pure none:=by
  cases v <;> first | rfl | exact absurd rfl (h _ _ _)
end
end Mine
namespace Mine
open PySem PyProof.Rows PySem.Calls
section
variable {X:SX} {f:FC}
theorem gF {v:Expr} (h:g9 v=true):jW v=true∧∀ vs k p,v≠.Tuple vs k p:=by
  cases v <;> first | exact (Bool.false_ne_true h).elim | exact ⟨rfl,fun _ _ _ e=>Expr.noConfusion e⟩
theorem vU {h h':Heap} (e:Heap.ExtBut h.objs.size h h'):KeepsH h h':=fun b o eo=>e b o (Nat.ne_of_lt (Heap.lt_size eo)) eo
theorem q7 {W:Nat→Prop} {s:Shared} {α:List Addr} {H:Hp} {N:Loc→Hp→Prop} {R:V→Hp→Prop} {h₁ h₂:Heap} {tk:Nat} {β:List Addr} {K₁:Hp} {ρ':Loc} (k:KeepsH s.heap h₁) (fr:∀ b∈β,s.heap.get? b=none) (R':HR X.G (α++β) h₁ (H++K₁))
    (F':FrS X.G f W h₂ (α++β) ρ') (kf:sF f h₁ h₂) (lt:KeepsLT h₁ h₂) (lv:Lives h₁ h₂) (q:N ρ' (H++K₁)):PostS X.G f W s α H N R .next { s with heap:=h₂,toks:=tk } :=
  ⟨h₂,tk,β,H++K₁,rfl,⟨fun b o e a1 a2 _=>kf b o (k b o e) a1 a2,fr,fun n hn _=>List.getElem?_append_left hn,by simp⟩,(Lives.of k).trans lv,R'.lt' lt,ρ',F',q⟩
theorem vP {is:List Nat} {ts:List Expr} {pe:PE} {v:Expr} {k:Nat} {tp pos:Pos} (hA:AOk X.prog X.A) (K:dI f) (ht:vl f.c is ts=true) (hnd:is.Nodup) (hok:g9 v=true) (h:SE X f.c pe v):SS X f (.unpack is pe) (.Assign [.Tuple ts k tp] v pos):=fun W s α ρ H N R Y E hW T F HR' hY q=>by
  simp only [qS1,qS2,qS3,qS4,qS5,qS6,qS7,qS8,qS9,bj,dy,b5,fA,gH] at q
  have hsole:swapsWithSole [.Tuple ts k tp] v pos.line f.env=pure false:=by
    show swapsWith v (some (.Tuple ts k tp)) pos.line f.env=pure false
    refine cQ ?_ _ _ _
    exact (gF hok).1
  have ev:=h f.env s α ρ H _ E K.env (T.at F) HR' F.fi q
  obtain ⟨hlen,hfind⟩:=nc ht
  refine Assign_Tuple (wpAny_mono ev (fun u s₁ p=>?_) fun _ _ x=>x) hsole (ot (gF hok).2 f.env)
  obtain ⟨h₁,tk₁,β,K₁,d,rfl,k₁,fr,R₁,r,q'⟩:=p
  obtain ⟨vs,rfl,hl,q'⟩:=ifTup.get q'
  obtain ⟨a,us,rfl,hti,rs,z⟩:=r.tup_inv
  · rw [arm_assign_Tuple]
    refine wpAny_bind (wpAny_standAt ?_)
    refine unpack_tuple (s:={ s with heap:=h₁,toks:=tk₁ }) hA.handled hti (by rw [hlen,List.size_toArray,rs.len,hl]) hfind fun h₂ he=>?_
    have k₂:=vU he
    refine nh (W:=W) K is ts { s with heap:=h₂,toks:=tk₁ } (α++β) ρ us vs _ ht (by rw [rs.len,hl]) (F.up (k₁.trans k₂) fr) (rs.mono (fun _ _ e=>e) (.of k₂)) fun h₃ tk₃ F3 kf3 lt3 lv3=>?_
    exact q7 (k₁.trans k₂) fr (R₁.keeps k₂) F3 kf3 lt3 lv3 q'
end
end Mine
namespace Mine
open PySem PyProof.Rows PySem.Calls
inductive C5 (G:GV) (f:FC) (s:Shared) (α:List Addr) (H:Hp) (Q:V→Hp→Prop) (v:Value) (s':Shared):Prop
  | mk (h':Heap) (tk:Nat) (β:List Addr) (K:Hp) (d:V) (e:s'={ s with heap:=h',toks:=tk }) (k:∀ b o,s.heap.get? b=some o→b≠f.env.locals→h'.get? b=some o)
    (l:∀ m,s.heap.Ns f.env.locals m→h'.Ns f.env.locals m) (fr:∀ b∈β,s.heap.get? b=none) (R:HR G (α++β) h' (H++K)) (r:Rep G (α++β) h' v d) (q:Q d (H++K))
noncomputable def Cq (X:SX) (f:FC):Prop :=
  ∀ (k:Nat) (x:Str) (vs:List V) (H:Hp) (Q:V→Hp→Prop),f.c.g.fns[k]?=some x→X.Φ (k+1000) vs H Q (fun _ _=>False)→∀ (W:Nat→Prop) (s:Shared) (α:List Addr) (ρ:Loc) (vals:List Value) (E:Value→Shared→Prop),
    GF X.G f.c.g X.DT f.hb→FrS X.G f W s.heap α ρ→HR X.G α s.heap H→Reps X.G α s.heap vals vs→wpAny (model X.prog X.w) X.A (call (.ref (X.G.fa k)) vals) (C5 X.G f s α H Q) E s
section
variable {X:SX} {f:FC}
noncomputable def Ej (X:SX) (f:FC) (c:Nat × PEs) (e:Expr):Prop :=
  ∃ x p a r pos,e=.Call (.Name x p) (a :: r) [] pos∧f.c.g.fns[c.1]?=some x∧f.c.isGlob x=true∧bA a=true∧SEs X f.c c.2 (a :: r)
end
end Mine
namespace Mine
open PySem PyProof.Rows PySem.Calls
theorem jb {c:MC} {i:Nat} {m:Str} {e:Expr} {cp:Pos} (h:c.isMeth i m e cp=true):∃ x px a ap,e=.Attribute (.Name x px) a ap∧c.isVar i x=true∧a=m∧ap.endLine=cp.line:=by
  cases e <;> first | exact (Bool.false_ne_true h).elim | skip
  rename_i y a ap
  replace h:(c.varNm i y && a == m && decide (ap.endLine=cp.line))=true:=h
  rw [Bool.and_eq_true,Bool.and_eq_true,decide_eq_true_eq,beq_iff_eq] at h
  refine aX (b8 h.1.1) fun x px zq104 hx=>?_; subst zq104
  exact ⟨x,px,a,ap,rfl,hx,h.1.2,h.2⟩
theorem dY {P:Expr→Bool} {ts:List Expr} (h:(match bY ts with | some t=>P t | none=>false)=true):∃ t,ts=[t]∧P t=true:=by
  cases h1:bY ts with
  | none=>rw [h1] at h; exact (Bool.false_ne_true h).elim
  | some t=>rw [h1] at h; exact ⟨t,eM h1,h⟩
section
variable {X:SX} {f:FC} (hA:AOk X.prog X.A) (hΦ:jz X.prog X.w X.G f.c.g X.DT X.A X.Φ) (K:dI f) (hT:Cq X f)
include hA hΦ K hT
mutual
theorem CO:(ps:PS)→∀ (st:Stmt),r7 f.c ps st=true→SS X f ps st
  | .skip,st,h=>(Bool.false_ne_true h).elim
  | .seq _ _,st,h=>(Bool.false_ne_true h).elim
  | .assign i e,st,h=>by
    cases st <;> first | exact (Bool.false_ne_true h).elim | skip
    rename_i ts v pos
    replace h:=dY h
    obtain ⟨t,rfl,h⟩:=h
    replace h:=Bool.and_eq_true_iff.mp h
    have h1:=Bool.and_eq_true_iff.mp h.1
    refine aX (b8 h1.1) fun x px zq101 hx=>?_; subst zq101
    rcases Bool.or_eq_true_iff.mp h.2 with hc | hc
    · exact vL K hx (aV hA hΦ e f.c.scope f.c.names v h1.2).1 hc
    · cases e with
      | comp elt tg caps it cond =>
        obtain ⟨x',tx,px',i',ifs,sc',pos',cs,rfl,rfl,hK,hi,he,hf⟩:=qo h1.2
        obtain ⟨hsi,hns⟩:=sz hA hΦ it f.c.scope f.c.names _ hi
        exact lu K hx hK (aV hA hΦ elt sc' _ _ he).1 (qz hA hΦ cond sc' _ _ hf) hsi hns
      | _=>exact (Bool.false_ne_true hc).elim
  | .unpack is e,st,h=>by
    cases st <;> first | exact (Bool.false_ne_true h).elim | skip
    rename_i ts v pos
    replace h:=dY h
    obtain ⟨t,rfl,h⟩:=h
    cases t <;> first | exact (Bool.false_ne_true h).elim | skip
    rename_i us _ _
    replace h:(vl f.c is us && av f.c e v && g9 v && decide is.Nodup)=true:=h
    rw [Bool.and_eq_true,Bool.and_eq_true,Bool.and_eq_true,decide_eq_true_eq] at h
    exact vP hA K h.1.1.1 h.2 h.1.2 (aV hA hΦ e f.c.scope f.c.names _ h.1.1.2).1
  | .setidx i k e,st,h=>by
    cases st <;> first | exact (Bool.false_ne_true h).elim | skip
    rename_i ts v pos
    replace h:=dY h
    obtain ⟨t,rfl,h⟩:=h
    cases t <;> first | exact (Bool.false_ne_true h).elim | skip
    rename_i y j _
    replace h:(f.c.varNm i y && av f.c k j && av f.c e v && fR v)=true:=h
    rw [Bool.and_eq_true,Bool.and_eq_true,Bool.and_eq_true] at h
    refine aX (b8 h.1.1.1) fun x px zq96 hx=>?_; subst zq96
    exact vA K hx (aV hA hΦ k f.c.scope f.c.names _ h.1.1.2).1 (aV hA hΦ e f.c.scope f.c.names _ h.1.2).1 h.2
  | .app i e,st,h=>by
    cases st <;> first | exact (Bool.false_ne_true h).elim | skip
    rename_i x pos
    cases x <;> first | exact (Bool.false_ne_true h).elim | skip
    rename_i g as kw cp
    replace h:=dY h
    obtain ⟨v,rfl,h⟩:=h
    replace h : (kw.isEmpty && f.c.isMeth i (Str.ofString "append") g cp && av f.c e v && cf v) = true := h
    rw [Bool.and_eq_true,Bool.and_eq_true,Bool.and_eq_true,List.isEmpty_iff] at h
    obtain ⟨⟨⟨rfl,hm⟩,h2⟩,h3⟩:=h
    refine fv (jb hm) fun x px a ap zq94 hx ha hl=>?_; subst zq94
    exact BW K hx ha hl (dS v ▸ h3) (aV hA hΦ e f.c.scope f.c.names _ h2).1
  | .pop i,st,h=>by
    cases st <;> first | exact (Bool.false_ne_true h).elim | skip
    rename_i x pos
    cases x <;> first | exact (Bool.false_ne_true h).elim | skip
    rename_i g as kw cp
    replace h : (as.isEmpty && kw.isEmpty && f.c.isMeth i (Str.ofString "pop") g cp) = true := h
    rw [Bool.and_eq_true,Bool.and_eq_true,List.isEmpty_iff,List.isEmpty_iff] at h
    obtain ⟨⟨rfl,rfl⟩,hm⟩:=h
    refine fv (jb hm) fun x px a ap zq93 hx ha hl=>?_; subst zq93
    exact Cr K hx ha hl
  | .rev i,st,h=>by
    cases st <;> first | exact (Bool.false_ne_true h).elim | skip
    rename_i x pos
    cases x <;> first | exact (Bool.false_ne_true h).elim | skip
    rename_i g as kw cp
    replace h : (as.isEmpty && kw.isEmpty && f.c.isMeth i (Str.ofString "reverse") g cp) = true := h
    rw [Bool.and_eq_true,Bool.and_eq_true,List.isEmpty_iff,List.isEmpty_iff] at h
    obtain ⟨⟨rfl,rfl⟩,hm⟩:=h
    refine fv (jb hm) fun x px a ap zq92 hx ha hl=>?_; subst zq92
    exact Cm K hx ha hl
  | .ret e,st,h=>by
    cases st <;> first | exact (Bool.false_ne_true h).elim | skip
    rename_i o pos
    cases o with
    | none=>exact (Bool.false_ne_true h).elim
    | some v=>exact BF K (aV hA hΦ e f.c.scope f.c.names _ h).1
  | .ite c a b,st,h=>by
    cases st <;> first | exact (Bool.false_ne_true h).elim | skip
    replace h:=Bool.and_eq_true_iff.mp h
    have h1:=Bool.and_eq_true_iff.mp h.1
    exact Ci K (aV hA hΦ c f.c.scope f.c.names _ h1.1).2 (je a _ h1.2) (je b _ h.2)
  | .whl c b,st,h=>by
    cases st <;> first | exact (Bool.false_ne_true h).elim | skip
    replace h:=Bool.and_eq_true_iff.mp h
    have h1:=Bool.and_eq_true_iff.mp h.1
    have h0:=List.isEmpty_iff.mp h1.1
    subst h0
    exact CK K (aV hA hΦ c f.c.scope f.c.names _ h1.2).2 (je b _ h.2)
  | .forr i it b,st,h=>by
    cases st <;> first | exact (Bool.false_ne_true h).elim | skip
    replace h:=Bool.and_eq_true_iff.mp h
    have h1:=Bool.and_eq_true_iff.mp h.1
    have h2:=Bool.and_eq_true_iff.mp h1.1
    have h0:=List.isEmpty_iff.mp h2.1
    subst h0
    refine aX (b8 h2.2) fun x px zq91 hx=>?_; subst zq91
    obtain ⟨hsi,hns⟩:=sz hA hΦ it f.c.scope f.c.names _ h1.2
    exact zL K hx hsi hns (je b _ h.2)
  | .raise k,st,h=>fun W s α ρ H N R Y E hW T F HR' hY q=>by
    simp only [qS1,qS2,qS3,qS4,qS5,qS6,qS7,qS8,qS9,bj,dy,b5,fA,gH] at q
    exact wpAny_mono (hY k st s.heap s.toks [] H ρ h .refl (fun b o e=>⟨o,e⟩) (by simpa using HR') (by simpa using F) q) (fun _ _ f=>f.elim) fun _ _ e=>e
  | .opaq,st,h=>(Bool.false_ne_true h).elim
theorem je:(ps:PS)→∀ (sts:List Stmt),fG f.c ps sts=true→SB X f ps sts
  | .skip,sts,h=>by
    cases sts with
    | nil=>exact BS K
    | cons _ _=>exact (Bool.false_ne_true h).elim
  | .seq a b,sts,h=>by
    cases sts with
    | nil=>exact (Bool.false_ne_true h).elim
    | cons st sts =>
      replace h:=Bool.and_eq_true_iff.mp h
      exact za K (CO a _ h.1) (je b _ h.2)
  | .assign _ _,sts,h=>(Bool.false_ne_true h).elim
  | .unpack _ _,sts,h=>(Bool.false_ne_true h).elim
  | .setidx _ _ _,sts,h=>(Bool.false_ne_true h).elim
  | .app _ _,sts,h=>(Bool.false_ne_true h).elim
  | .pop _,sts,h=>(Bool.false_ne_true h).elim
  | .rev _,sts,h=>(Bool.false_ne_true h).elim
  | .ret _,sts,h=>(Bool.false_ne_true h).elim
  | .ite _ _ _,sts,h=>(Bool.false_ne_true h).elim
  | .whl _ _,sts,h=>(Bool.false_ne_true h).elim
  | .forr _ _ _,sts,h=>(Bool.false_ne_true h).elim
  | .raise _,sts,h=>(Bool.false_ne_true h).elim
  | .opaq,sts,h=>fun W s α ρ H N R Y E hW T F HR' hY q=>(show False from q).elim
end
end
end Mine
namespace Mine
open PySem PyProof.Rows PySem.Calls
theorem a5:∀ (names:List (Str × NameKind)) (n:Nat) (acc:List (Str × Addr)) (x:Str),(names.lookup x=some NameKind.cell∨∃ a,acc.lookup x=some a)→∃ a,(cellsFrom n names acc).lookup x=some a
  | [],n,acc,x,h=>by
    rcases h with h | h
    · simp at h
    · exact h
  | (y,k) :: r,n,acc,x,h=>by
    unfold cellsFrom
    by_cases hxy:x=y
    · subst hxy
      rcases h with h | ⟨a,h⟩
      · rw [List.lookup_cons_self] at h; cases h
        rw [if_pos (by rfl)]
        exact a5 r _ _ x (.inr ⟨n,by rw [List.lookup_cons_self]⟩)
      · by_cases hk:(k == NameKind.cell)=true
        · rw [if_pos hk]; exact a5 r _ _ x (.inr ⟨n,by rw [List.lookup_cons_self]⟩)
        · rw [if_neg hk]; exact a5 r _ _ x (.inr ⟨a,h⟩)
    · have hne:(x == y)=false:=by simpa using hxy
      have h':r.lookup x=some NameKind.cell∨∃ a,acc.lookup x=some a:=by
        rcases h with h | h
        · rw [List.lookup_cons,hne] at h; exact .inl h
        · exact .inr h
      by_cases hk:(k == NameKind.cell)=true
      · rw [if_pos hk]
        refine a5 r _ _ x ?_
        rcases h' with h' | ⟨a,h'⟩
        · exact .inl h'
        · exact .inr ⟨a,by rw [List.lookup_cons,hne]; exact h'⟩
      · rw [if_neg hk]; exact a5 r _ _ x h'
theorem dL:∀ (names:List (Str × NameKind)) (n:Nat) (acc:List (Str × Addr)),(cellsFrom n names acc).map (·.1)=((names.filter fun x=>x.2 == NameKind.cell).map (·.1)).reverse++acc.map (·.1)
  | [],n,acc=>by simp [cellsFrom]
  | (y,k) :: r,n,acc=>by
    unfold cellsFrom
    by_cases hk:(k == NameKind.cell)=true
    · rw [if_pos hk,dL r]; simp [hk]
    · rw [if_neg hk,dL r]; simp [hk]
theorem dp {β:Type}:∀ (l:List (Str × β)) (x:Str) (v:β),(l.map (·.1)).Nodup→(x,v)∈l→l.lookup x=some v
  | [],_,_,_,h=>by simp at h
  | (y,u) :: r,x,v,hn,h=>by
    rw [List.map_cons,List.nodup_cons] at hn
    rcases List.mem_cons.mp h with h | h'
    · cases h; rw [List.lookup_cons_self]
    · have hne:(x == y)=false:=by
        simp only [beq_eq_false_iff_ne]
        intro e; subst e
        exact hn.1 (List.mem_map.mpr ⟨_,h',rfl⟩)
      rw [List.lookup_cons,hne]; exact dp r x v hn.2 h'
theorem ki {k:Str→Option NameKind}:∀ (binds:List (Str × Value)) (m:Str→Option Value) (x:Str),x ∉ binds.map (·.1)→bindL k binds m x=m x
  | [],_,_,_=>rfl
  | (n,v) :: r,m,x,h=>by
    simp only [List.map_cons,List.mem_cons,not_or] at h
    unfold bindL
    rw [ki r _ x h.2]
    split
    · exact if_neg h.1
    · rfl
theorem nx {k:Str→Option NameKind}:∀ (binds:List (Str × Value)) (m:Str→Option Value) (x:Str) (v:Value),(binds.map (·.1)).Nodup→(x,v)∈binds→k x=some .local→bindL k binds m x=some v
  | [],_,_,_,_,h,_=>by simp at h
  | (n,u) :: r,m,x,v,hn,h,hk=>by
    rw [List.map_cons,List.nodup_cons] at hn
    unfold bindL
    rcases List.mem_cons.mp h with h | h
    · cases h
      rw [ki r _ _ hn.1,if_pos hk]; exact if_pos rfl
    · exact nx r _ x v hn.2 h hk
theorem lI {k:Str→Option NameKind}:∀ (binds:List (Str × Value)) (m:Str→Option Value) (x:Str),x ∉ binds.map (·.1)→bindC k binds m x=m x
  | [],_,_,_=>rfl
  | (n,v) :: r,m,x,h=>by
    simp only [List.map_cons,List.mem_cons,not_or] at h
    unfold bindC
    rw [lI r _ x h.2]
    split
    · rfl
    · exact if_neg h.1
theorem nr {k:Str→Option NameKind}:∀ (binds:List (Str × Value)) (m:Str→Option Value) (x:Str) (v:Value),(binds.map (·.1)).Nodup→(x,v)∈binds→k x≠some .local→bindC k binds m x=some v
  | [],_,_,_,_,h,_=>by simp at h
  | (n,u) :: r,m,x,v,hn,h,hk=>by
    rw [List.map_cons,List.nodup_cons] at hn
    unfold bindC
    rcases List.mem_cons.mp h with h | h
    · cases h
      rw [lI r _ _ hn.1,if_neg hk]; exact if_pos rfl
    · exact nr r _ x v hn.2 h hk
theorem q9 {h:Heap} {a:Addr} (ha:h.objs.size≤a):h.get? a=none:=by
  cases e:h.get? a with
  | none=>rfl
  | some o=>exact absurd (Heap.lt_size e) (Nat.not_lt.mpr ha)
structure kj (gc:GC) (d:dq) (f:Fn) (vs:List Str):Prop where
  nodup:vs.Nodup
  kind:d.scope.kind=.function
  coro:d.scope.isCoroutine=false
  gen:d.scope.isGenerator=false
  nofree:∀ x,d.scope.names.lookup x≠some NameKind.free
  uniq:((d.scope.names.filter fun x=>x.2 == NameKind.cell).map (·.1)).Nodup
  par:∀ x∈vs.take f.np,d.scope.names.lookup x=some .local∨d.scope.names.lookup x=some .cell
  bind:∀ (pm cd doc:Value) (vals:List Value),vals.length=f.np→bindArgs (docDef d.name d.params d.body d.scope pm cd doc) ⟨vals,[]⟩=pure ((vs.take f.np).zip vals)
  body:fG ⟨gc,d.scope,vs⟩ f.body d.body=true
theorem vX {gc:GC} {d:dq} {f:Fn} {vs:List Str} (D:kj gc d f vs) (L a:Addr) (cd:Value):bH ⟨gc,d.scope,vs⟩ (envOfC d.name d.scope L a cd) where
  kind:=D.kind
  globals:=rfl
  builtins:=rfl
  loc:=fun x e=>e
  glob:=fun x e=>e
  cel:=fun x e=>e
  fre:=fun x e=>absurd e (D.nofree x)
  cells:=fun x e=>by
    rcases e with e | e
    · exact a5 _ _ _ x (.inl e)
    · exact absurd e (D.nofree x)
theorem uD {β:Type}:∀ {xs:List Str} {ys:List β} {i:Nat} {x:Str} {y:β},xs[i]?=some x→ys[i]?=some y→(x,y)∈xs.zip ys
  | [],_,_,_,_,h,_=>by simp at h
  | _ :: _,[],_,_,_,_,h=>by simp at h
  | _ :: _,_ :: _,0,_,_,h1,h2=>by simp at h1 h2; subst h1 h2; simp
  | _ :: _,_ :: _,i+1,_,_,h1,h2=>by
    simp at h1 h2
    simp only [List.zip_cons_cons,List.mem_cons]
    exact .inr (uD h1 h2)
theorem rW {np nv:Nat} {vs:List V} {i:Nat} {d:V} (h:af (dO np nv vs) i=some d):vs[i]?=some d:=by
  have key:∀ (l:List V) (n i:Nat),af (l.map some++List.replicate n none) i=some d→l[i]?=some d:=fun l=>by
    induction l with
    | nil =>
      intro n
      induction n with
      | zero=>intro i h; simp [af] at h
      | succ n ih =>
        intro i h
        cases i with
        | zero=>simp [List.replicate_succ,af] at h
        | succ i=>exact absurd (ih i (by simpa [List.replicate_succ,af] using h)) (by simp)
    | cons x l ih =>
      intro n i h
      cases i with
      | zero=>simpa [af] using h
      | succ i=>simpa using ih n i (by simpa [af] using h)
  exact key vs _ i h
structure Room (prog:Program) (A:Around) (n:Nat):Prop where
  handled:A.handled=none
  depth:A.depth+n+100 < recursionLimit
  units:A.units+3*n+100 < cLine
  tree:prog.given.tree=none
  frames:∃ l,A.frames=some l
theorem Room.down {prog:Program} {A:Around} {n:Nat} {env:Env} (r:Room prog A (n+1)):Room prog (A.deeper env) n :=
  ⟨r.handled,by have:=r.depth; show A.depth+1+n+100 < _; (clear r; omega),by have:=r.units; show A.units+3+3*n+100 < _; (clear r; omega),r.tree,by
    obtain ⟨l,e⟩:=r.frames
    exact ⟨env :: l,by show A.frames.map (env :: ·)=_; rw [e]; rfl⟩⟩
theorem Room.ok {prog:Program} {A:Around} {n:Nat} {env:Env} (r:Room prog A (n+1)) (hg:env.scope.isGenerator=false) (hc:env.scope.isCoroutine=false) (hb:env.builtins=builtinsNs) (hm:env.globals=mainGlobals):AOk prog (A.deeper env):=by
  obtain ⟨l,e⟩:=r.frames
  refine ⟨r.handled,by have:=r.units; show A.units+3+100 < _; (clear r hg hc hb hm e; omega),fun w s hl hs=>PylongRoom.of hl ?_ (SeerAt.of hs r.tree (env:=env) (l:=l) (by show A.frames.map (env :: ·)=_; rw [e]; rfl) hg hc hb hm)⟩
  have:=r.depth
  show A.depth+1+100 < _
  (clear r hg hc hb hm e hl hs; omega)
section
variable {prog:Program} {w:World} {G:GV} {gc:GC} {DT:List dq} {P:List Fn} {VT:List (List Str)} {sub:Nat→Nat→Bool}
theorem jH {H H':Hp} (hs:∀ n,n < H.length→H'[n]?=H[n]?) (hl:H.length≤H'.length):H'=H++H'.drop H.length:=by
  conv=>lhs; rw [← List.take_append_drop H.length H']
  congr 1
  apply List.ext_getElem?
  intro n
  by_cases hn:n < H.length
  · rw [List.getElem?_take,if_pos hn]; exact hs n hn
  · rw [List.getElem?_take,if_neg hn,List.getElem?_eq_none (by (exact om [List.length H,n] [] [(.no (.le (.a Y1 (.n 1)) Y0))] (.le Y0 Y1) [[1,1]] rfl hn))]
noncomputable def SCallC (prog:Program) (w:World) (G:GV) (gc:GC) (DT:List dq) (A:Around) (Φ:Call):Prop :=
  ∀ (f:Nat) (x:Str) (vs:List V) (H:Hp) (Q:V→Hp→Prop),gc.fns[f]?=some x→Φ f vs H Q (fun _ _=>False)→∀ (s:Shared) (α:List Addr) (vals:List Value) (E:Value→Shared→Prop),
    GF G gc DT s.heap→HR G α s.heap H→Reps G α s.heap vals vs→codeAny (model prog w) A (.call (.ref (G.fa f)) ⟨vals,[]⟩)
      (fun r s'=>match r with | .ok (.ret v)=>Post G (Rep G) s α H Q v s' | .ok _=>False | .error e=>E e s') s
theorem SCallC.wp {A:Around} {Φ:Call} (h:SCallC prog w G gc DT A Φ):jz prog w G gc DT A Φ:=fun f x vs H Q hx hq s α vals E T R r=>wpAny_call (h f x vs H Q hx hq s α vals E T R r)
theorem vb {n:Nat} {A:Around} {Φ:Call} {f:Nat} {s:Shared} (hA:Room prog A (n+1)) (hdefs:∀ (k:Nat) (d:dq) (f:Fn),DT[k]?=some d→P[k]?=some f→∃ vs,kj gc d f vs) (hΦ:∀ env,jz prog w G gc DT (A.deeper env) Φ)
    (hT:∀ (d:dq) (vn:List Str) (cd:Value),DT[f]?=some d →
      Cq ⟨prog,w,G,DT,A.deeper (envOfC d.name d.scope s.heap.objs.size (G.fa f) cd),sub,Φ⟩ ⟨⟨gc,d.scope,vn⟩,envOfC d.name d.scope s.heap.objs.size (G.fa f) cd,s.heap⟩)
    {x:Str} {vs:List V} {H:Hp} {Q:V→Hp→Prop} {Y:Nat→Hp→Prop} {fd:Fn} (hx:gc.fns[f]?=some x) (hf:P[f]?=some fd) (hlen:vs.length=fd.np)
    (hw:wpS sub Φ (fun m=>H.length≤m) fd.body (dO fd.np fd.nv vs) H (fun _ H'=>Q .none H') Q Y) (α:List Addr) (vals:List Value) (E:Value→Shared→Prop)
    (hR:∀ (d:dq) (vn:List Str) (cd:Value) (h₁:Heap) (tk:Nat),DT[f]?=some d→kj gc d fd vn→KeepsH s.heap h₁→RaiseOk ⟨prog,w,G,DT,A.deeper (envOfC d.name d.scope s.heap.objs.size (G.fa f) cd),sub,Φ⟩ ⟨⟨gc,d.scope,vn⟩,envOfC d.name d.scope s.heap.objs.size (G.fa f) cd,s.heap⟩ (fun m=>H.length≤m)
      { s with heap:=h₁,toks:=tk } α H Y (fun e s'=>wpAny (model prog w) (A.deeper (envOfC d.name d.scope s.heap.objs.size (G.fa f) cd)) (leaving (envOfC d.name d.scope s.heap.objs.size (G.fa f) cd) e) (fun _ s''=>E e s'') (fun e' s''=>E e' s'') s'))
    (T:GF G gc DT s.heap) (R:HR G α s.heap H) (r:Reps G α s.heap vals vs):codeAny (model prog w) A (.call (.ref (G.fa f)) ⟨vals,[]⟩)
      (fun r s'=>match r with | .ok (.ret v)=>Post G (Rep G) s α H Q v s' | .ok _=>False | .error e=>E e s') s:=by
  refine gE (T.fn f x hx) fun hm d o pm cd doc hd hname ho hdata hcd=>?_
  obtain ⟨vn,D⟩:=hdefs f d fd hd hf
  have hvl:vals.length=fd.np:=r.len.trans hlen
  have hkindOf:∀ (x:Str),x∈vn.take fd.np→d.scope.names.lookup x=some .local∨(d.scope.names.lookup x=some .cell∧((cellsFrom (s.heap.objs.size+1) d.scope.names []).lookup x).isSome=true):=fun x hx=>by
    rcases D.par x hx with e | e
    · exact .inl e
    · obtain ⟨a,ha⟩:=a5 d.scope.names (s.heap.objs.size+1) [] x (.inl e)
      exact .inr ⟨e,by rw [ha]; rfl⟩
  have hmemz:∀ y∈(vn.take fd.np).zip vals,y.1∈vn.take fd.np:=fun y hy=>(List.of_mem_zip (show (y.1,y.2)∈_ from hy)).1
  refine (call_cells (by have:=hA.depth; (clear hA hdefs hΦ hT hx hf hlen hw hR T R r hm hd hname ho hdata hcd D hvl hkindOf hmemz; omega)) ho hdata T.nolimit hcd (D.bind pm cd doc vals hvl) (fun y hy=>hkindOf y.1 (hmemz y hy)) (fun h₁ tk Fr' Cl'=>?_) D.coro D.gen D.kind)
  let env:=envOfC d.name d.scope s.heap.objs.size (G.fa f) cd
  let fc:FC:=⟨⟨gc,d.scope,vn⟩,env,s.heap⟩
  let X:SX:=⟨prog,w,G,DT,A.deeper env,sub,Φ⟩
  have K:dI fc:=by
    refine ⟨vX D _ _ _,D.nodup,D.nofree,cj _,fun m a hm=>q9 (Nat.le_of_lt (Cl'.above m a hm)),Cl'.above,Cl'.apart,fun m a hm=>?_⟩
    refine dp _ _ _ ?_ hm
    show ((cellsFrom _ _ _).map (·.1)).Nodup
    rw [dL]
    rw [List.map_nil,List.append_nil]
    exact (List.reverse_perm _).nodup_iff.mpr D.uniq
  have hnd:(((vn.take fd.np).zip vals).map (·.1)).Nodup:=by
    refine List.Nodup.sublist ?_ (List.Nodup.sublist (List.take_sublist fd.np vn) D.nodup)
    have:∀ (a:List Str) (b:List Value),((a.zip b).map (·.1)).Sublist a:=fun a=>by
      induction a with
      | nil=>intro b; simp
      | cons x a ih=>intro b; cases b with
        | nil=>simp
        | cons y b=>simpa using ih b
    exact this _ _
  have hkeep:KeepsH s.heap h₁:=Fr'.keep
  have F:FrS G fc (fun m=>H.length≤m) h₁ α (dO fd.np fd.nv vs):=by
    refine ⟨⟨_,_,Fr'.ns,Cl',fun i y dv hi hd'=>?_⟩,hkeep,fun m a ha hm=>?_⟩
    · have hvi:=rW hd'
      refine ad (r.get hvi) fun v hv rv=>?_
      have hil:i < fd.np:=by rw [← hlen]; exact (List.getElem?_eq_some_iff.mp hvi).1
      have hyt:(vn.take fd.np)[i]?=some y:=by rw [List.getElem?_take,if_pos hil]; exact hi
      have hz:(y,v)∈(vn.take fd.np).zip vals:=uD hyt hv
      refine ⟨v,?_,rv.mono (fun _ _ e=>e) (.of hkeep)⟩
      rcases hkindOf y (hmemz _ hz) with e | ⟨e,_⟩
      · exact .inl ⟨e,nx _ _ _ _ hnd hz e⟩
      · exact .inr ⟨e,nr _ _ _ _ hnd hz (by rw [show (envOfC d.name d.scope s.heap.objs.size (G.fa f) cd).kindOf y=some .cell from e]; simp),a5 _ _ _ y (.inl e)⟩
    · have:=(List.getElem?_eq_some_iff.mp ha).1
      rw [R.len] at this; (clear hA hdefs hΦ hT hx hf hlen hw hR T R r hd hname ho hdata hcd D hvl hkindOf hmemz Fr' Cl' K hnd hkeep ha; omega)
  have hs:=je (X:=X) (f:=fc) (hA.ok (env:=env) D.gen D.coro rfl rfl) (hΦ env) K (hT d vn cd hd) fd.body d.body D.body (fun m=>H.length≤m) { s with heap:=h₁,toks:=tk } α _ H _ _ _ _
    (fun m hm=>Nat.le_trans R.pos hm) T F (R.keeps hkeep) (hR d vn cd h₁ tk hd D hkeep) hw
  refine wpAny_mono hs (fun fl s' p=>?_) fun _ _ e=>e
  obtain ⟨h',tk',β,H',rfl,st,lv,R',pf⟩:=p
  have hH':H'=H++H'.drop H.length:=jH (fun m hm=>st.same m hm (Nat.not_le.mpr hm)) st.le
  have fresh:∀ b∈β,s.heap.get? b=none:=fun b hb=>by
    cases e:s.heap.get? b with
    | none=>rfl
    | some o'=>have:=st.fresh b hb; rw [show ({ s with heap:=h₁,toks:=tk }:Shared).heap.get? b=some o' from hkeep b o' e] at this; cases this
  cases fl with
  | next =>
    refine ad (pf) fun ρ' F' hN=>?_
    exact ⟨h',tk',β,_,.none,rfl,F'.kb,fresh,hH' ▸ R',Rep.none,hH' ▸ hN⟩
  | ret v =>
    refine tK (pf) fun kb dv rv hR=>?_
    exact ⟨h',tk',β,_,dv,rfl,kb,fresh,hH' ▸ R',rv,hH' ▸ hR⟩
  | _=>exact pf.elim
theorem vE {n:Nat} {A:Around} {Φ:Call} {f:Nat} {s:Shared} (hA:Room prog A (n+1)) (hdefs:∀ (k:Nat) (d:dq) (f:Fn),DT[k]?=some d→P[k]?=some f→∃ vs,kj gc d f vs) (hΦ:∀ env,jz prog w G gc DT (A.deeper env) Φ)
    (hT:∀ (d:dq) (vn:List Str) (cd:Value),DT[f]?=some d →
      Cq ⟨prog,w,G,DT,A.deeper (envOfC d.name d.scope s.heap.objs.size (G.fa f) cd),sub,Φ⟩ ⟨⟨gc,d.scope,vn⟩,envOfC d.name d.scope s.heap.objs.size (G.fa f) cd,s.heap⟩)
    {x:Str} {vs:List V} {H:Hp} {Q:V→Hp→Prop} {fd:Fn} (hx:gc.fns[f]?=some x) (hf:P[f]?=some fd) (hlen:vs.length=fd.np)
    (hw:wpS sub Φ (fun m=>H.length≤m) fd.body (dO fd.np fd.nv vs) H (fun _ H'=>Q .none H') Q (fun _ _=>False)) (α:List Addr) (vals:List Value) (E:Value→Shared→Prop)
    (T:GF G gc DT s.heap) (R:HR G α s.heap H) (r:Reps G α s.heap vals vs):codeAny (model prog w) A (.call (.ref (G.fa f)) ⟨vals,[]⟩)
      (fun r s'=>match r with | .ok (.ret v)=>Post G (Rep G) s α H Q v s' | .ok _=>False | .error e=>E e s') s :=
  vb hA hdefs hΦ hT hx hf hlen hw α vals E (fun d vn cd h₁ tk _ _ _ k st h' tk' β H' ρ' _ _ _ _ _ hf=>hf.elim) T R r
theorem js (hlenP:P.length=gc.fns.length) (hP:P.length≤1000) (hdefs:∀ (k:Nat) (d:dq) (f:Fn),DT[k]?=some d→P[k]?=some f→∃ vs,kj gc d f vs) :
    ∀ (n:Nat) (A:Around),Room prog A n→SCallC prog w G gc DT A (aj sub P n)
  | 0,A,_=>fun f x vs H Q _ h=>by simp [aj] at h
  | n+1,A,hA=>fun f x vs H Q hx h s α vals E T R r=>by
    simp only [aj] at h
    refine bU (h) fun fd hf hlen hw=>?_
    refine vE hA hdefs (fun env=>(js hlenP hP hdefs n _ hA.down).wp) (fun d vn cd _ k x vs H Q _ hk=>?_) hx hf hlen hw α vals E T R r
    · replace hk:aj sub P n (k+1000) vs H Q (fun _ _=>False):=hk
      cases n with
      | zero=>simp [aj] at hk
      | succ n =>
        simp only [aj] at hk
        refine ad (hk) fun d' hd' _=>?_
        have:=(List.getElem?_eq_some_iff.mp hd').1
        (clear hdefs hx T R r hf hlen hA hw hd'; omega)
end
end Mine
namespace Mine
open PySem PyProof.Rows PySem.Calls
theorem lC:∀ (ns:List Str) (vals:List Value),ns.Nodup→vals.length=ns.length→∀ x∈ns,(((ns.zip vals).lookup x).isNone)=false
  | [],_,_,_,x,h=>by simp at h
  | n :: ns,[],_,h,_,_=>by simp at h
  | n :: ns,v :: vals,hn,hl,x,hx=>by
    rw [List.zip_cons_cons]
    by_cases e:x=n
    · subst e; rw [List.lookup_cons_self]; rfl
    · have:(x == n)=false:=by simpa using e
      rw [List.lookup_cons,this]
      rw [List.nodup_cons] at hn
      exact lC ns vals hn.2 (by simpa using hl) x (by simpa [e] using hx)
theorem mf:∀ (ns:List Str) (vals:List Value),ns.Nodup→vals.length=ns.length→(ns.filterMap fun n=>((ns.zip vals).lookup n).map (n,·))=ns.zip vals:=by
  have key:∀ (ms:List Str) (us:List Value) (f:Str→Option Value),us.length=ms.length→(∀ n v,(n,v)∈ms.zip us→f n=some v)→(ms.filterMap fun n=>(f n).map (n,·))=ms.zip us:=fun ms=>by
    induction ms with
    | nil=>intro us f _ _; simp
    | cons n ms ih =>
      intro us f hl h
      cases us with
      | nil=>simp at hl
      | cons u us =>
        rw [List.filterMap_cons,h n u (by simp),List.zip_cons_cons]
        show (n,u) :: _=_
        rw [ih us f (by simpa using hl) fun a b hab=>h a b (by simp [hab])]
  intro ns vals hn hl
  refine key ns vals _ hl fun n v h=>?_
  refine dp _ _ _ ?_ h
  have:(ns.zip vals).map (·.1)=ns:=List.map_fst_zip (by (exact om [ns.length,vals.length] [] [(.eq Y1 Y0)] (.le Y0 Y1) [[1,0,1]] rfl hl))
  rw [this]; exact hn
theorem s5 {name:Str} {params:Arguments} {body:List Stmt} {scope:Scope} {pm cd doc:Value} {vals:List Value} {ns:List Str}
    (h1:params.posonlyargs=[]) (h2:params.vararg=none) (h3:params.kwonlyargs=[]) (h4:params.kwarg=none) (hns:params.args.map (·.arg)=ns) (hn:ns.Nodup) (hl:vals.length=ns.length) :
    bindArgs (docDef name params body scope pm cd doc) ⟨vals,[]⟩=pure (ns.zip vals):=by
  obtain ⟨po,ar,va,ko,kd,kw,df⟩:=params
  simp only at h1 h2 h3 h4 hns
  subst h1 h2 h3 h4
  subst hns
  unfold bindArgs
  dsimp only [docDef,List.map_nil,List.nil_append,List.append_nil]
  generalize List.map (fun x:Arg=>x.arg) ar=ns at hn hl ⊢
  have hf:(List.filter (fun n=>(List.lookup n (ns.zip vals)).isNone) ns)=[]:=by
    rw [List.filter_eq_nil_iff]
    intro x hx
    rw [lC _ _ hn hl x hx]; simp
  have hg:=mf _ _ hn hl
  have hns:notAStandIn Value.none=pure ():=rfl
  dsimp [seqItems?]
  simp [hl,hns]
  have hc:¬ ((!(List.filter (fun n=>(List.lookup n (ns.zip vals)).isNone) (List.take (ns.length - (List.drop ((#[]:Array Value).size - ns.length) ([]:List Value)).length) ns)).isEmpty)=true):=by
    simp only [List.drop_nil,List.length_nil,Nat.sub_zero,List.take_length,hf]; decide
  exact (if_neg hc).trans (congrArg pure hg)
end Mine
namespace Mine
open PySem PyProof.Rows PySem.Calls PySem.W
noncomputable def ui (r:DefRec):dq:=⟨r.name,r.params,r.body,r.scope⟩
noncomputable def tI (gc:GC) (d:dq) (f:Fn) (vs:List Str):Bool :=
  decide vs.Nodup && decide (d.scope.kind=.function) && (d.scope.isCoroutine == false) && (d.scope.isGenerator == false) && d.scope.names.all (fun x=>decide (x.2≠NameKind.free)) &&
  decide ((d.scope.names.filter fun x=>x.2 == NameKind.cell).map (·.1)).Nodup &&
  (vs.take f.np).all (fun x=>decide (d.scope.names.lookup x=some NameKind.local) || decide (d.scope.names.lookup x=some NameKind.cell)) &&
  d.params.posonlyargs.isEmpty && d.params.vararg.isNone && d.params.kwonlyargs.isEmpty && d.params.kwarg.isNone && decide (d.params.args.map (·.arg)=vs.take f.np) && decide (f.np≤vs.length) && fG ⟨gc,d.scope,vs⟩ f.body d.body
theorem yE {gc:GC} {d:dq} {f:Fn} {vs:List Str} (h:tI gc d f vs=true):kj gc d f vs:=by
  unfold tI at h
  simp only [Bool.and_eq_true,decide_eq_true_eq,beq_iff_eq,List.isEmpty_iff,Option.isNone_iff_eq_none] at h
  obtain ⟨⟨⟨⟨⟨⟨⟨⟨⟨⟨⟨⟨⟨h1,h2⟩,h3⟩,h4⟩,h5⟩,h6⟩,h7⟩,h8⟩,h9⟩,h10⟩,h11⟩,h12⟩,h13⟩,h14⟩:=h
  refine ⟨h1,h2,h3,h4,fun x e=>?_,h6,fun x hx=>?_,fun pm cd doc vals hv=>?_,h14⟩
  · have:=List.all_eq_true.mp h5 (x,NameKind.free) (PySem.mem_of_lookup e)
    simp at this
  · have:=List.all_eq_true.mp h7 x hx
    simpa using this
  · exact s5 h8 h9 h10 h11 h12 (List.Nodup.sublist (List.take_sublist _ _) h1) (by rw [hv,List.length_take]; (exact om [f.np,min f.np vs.length,vs.length] [] [(.le Y0 Y2),(.or (.an (.le Y0 Y2) (.eq Y1 Y0)) (.an (.le Y2 Y0) (.eq Y1 Y2)))] (.eq Y0 Y1) [[1,0,0,1],[1,0,1,1],[1,0,0,0,1],[1,1,0,0,1]] rfl h13 (Mine.tj (f.np) (vs.length))))
noncomputable def kr (gc:GC):List dq→List Fn→List (List Str)→Bool
  | [],[],[]=>true
  | d :: ds,f :: fs,v :: vs=>tI gc d f v && kr gc ds fs vs
  | _,_,_=>false
theorem uk {gc:GC}:∀ {DT:List dq} {P:List Fn} {VT:List (List Str)},kr gc DT P VT=true→P.length=DT.length∧∀ (k:Nat) (d:dq) (f:Fn),DT[k]?=some d→P[k]?=some f→∃ vs,kj gc d f vs
  | [],[],[],_=>⟨rfl,fun k d f h=>by simp at h⟩
  | d :: ds,f :: fs,v :: vs,h=>by
    replace h:=Bool.and_eq_true_iff.mp h
    obtain ⟨hl,hr⟩:=uk h.2
    refine ⟨by simp [hl],fun k d' f' h1 h2=>?_⟩
    cases k with
    | zero=>simp at h1 h2; subst h1 h2; exact ⟨v,yE h.1⟩
    | succ k=>simp at h1 h2; exact hr k d' f' h1 h2
  | [],[],_ :: _,h=>(Bool.false_ne_true h).elim
  | [],_ :: _,_,h=>(Bool.false_ne_true h).elim
  | _ :: _,[],_,h=>(Bool.false_ne_true h).elim
  | _ :: _,_ :: _,[],h=>(Bool.false_ne_true h).elim
theorem mZ {G:GV} {α:List Addr} {h:Heap}:∀ {vs:List Value} {ns:List Int},IntsAre vs ns→Reps G α h vs (ns.map .int)
  | _,_,.nil=>.nil
  | _,_,.cons n t r=>.cons (.int n t) (mZ r)
noncomputable def gM (mg:Str→Option Value) (fns:List Str) (k:Nat):Addr:=match fns[k]? with | some x=>(match mg x with | some (.ref a)=>a | _=>0) | none=>0
section
variable {prog:Program} {w:World} {view:Program} {loose:List Str} {mean:ExcName→Option Value} {mg mb:Str→Option Value}
theorem wu {h:Heap} {gc:GC} (T:Top view loose mean mg mb h) (hfns:gc.fns=(recsOf view).map (·.name))  (hglobs:gc.globs=[]) (hseer:importsNone view=true)
    (hblt : (bltNames.all fun x => !startupNames.contains x && !loose.contains x && !((recsOf view).map (·.name)).contains x && !((litsOf view).map (·.1)).contains x && !((clssOf view loose).map (·.name)).contains x && decide (x ≠ "__name__")) = true) :
    GF ⟨mg,mb,gM mg gc.fns,fun _=>.none⟩ gc ((recsOf view).map ui) h where
  g:=T.g
  b:=T.b
  nolimit:=T.nolimit
  seer:=T.seer hseer
  fn:=fun k x e=>by
    have e0:=e
    rw [hfns,List.getElem?_map] at e
    cases hr:(recsOf view)[k]? with
    | none=>rw [hr] at e; simp at e
    | some r =>
      rw [hr] at e; simp at e; subst e
      refine fX (T.fn r (List.mem_of_getElem? hr)) fun a o pm cd doc h1 h2 h3 h4=>?_
      have hfa:gM mg gc.fns k=a:=by unfold gM; rw [e0]; simp [h1]
      refine ⟨by show mg r.name=some (.ref (gM mg gc.fns k)); rw [hfa]; exact h1,ui r,o,pm,cd,doc,by rw [List.getElem?_map,hr]; rfl,rfl,?_,h3,h4⟩
      show h.get? (gM mg gc.fns k)=some o
      rw [hfa]; exact h2
  blt:=fun x hx=>by
    have:=List.all_eq_true.mp hblt x hx
    simp only [Bool.and_eq_true,Bool.not_eq_true',decide_eq_true_eq] at this
    obtain ⟨⟨⟨⟨⟨h1,h2⟩,h3⟩,h4⟩,h5⟩,h6⟩:=this
    have nm:∀ {l:List Str},l.contains x=false→x ∉ l:=fun {l} h hm=>by
      rw [List.contains_iff_mem.mpr hm] at h; cases h
    exact ⟨T.free x (nm h1) (nm h2) (nm h3) (nm h4) (nm h5),T.builtins x h6⟩
  glob:=fun x a b e=>by rw [hglobs] at e; simp at e
theorem sE {prog:Program} {n:Nat} (ht:prog.given.tree=none) (hn:n≤500):Room prog callerA n:=⟨rfl,by show 1+300+n+100 < 1000; (exact om [n] [] [(.le Y0 (.n 500))] (.le (.a (.a (.a (.n 301) Y0) (.n 100)) (.n 1)) (.n 1000)) [[1,1]] rfl hn),by show 4+3*n+100 < 9900; (exact om [n] [] [(.le Y0 (.n 500))] (.le (.a (.a (.a (.n 4) (.m 3 Y0)) (.n 100)) (.n 1)) (.n 9900)) [[1,3]] rfl hn),ht,[],rfl⟩
theorem yZ (htree:prog.given.tree=none) {s:Shared} {gc:GC} {G:GV} {DT:List dq} {P:List Fn} {VT:List (List Str)} {sub:Nat→Nat→Bool} (F:GF G gc DT s.heap) (hlen:gc.fns.length=DT.length) (hchk:kr gc DT P VT=true)
    {l:Addr} {vs:List Value} {ns:List Int} (hP1:P.length≤1000) (hl:s.heap.IsList l vs.toArray) (hI:IntsAre vs ns) (h63:ns.length≤63) {k n:Nat} {x:Str} {fa:Addr} (hk:gc.fns[k]?=some x) (hfa:G.mg x=some (.ref fa)) (hn:n≤500)
    (hw:aj sub P n k [.lst 0] [ns.map .int] (fun v _=>v=.bool true) (fun _ _=>False)) {R:Result→Shared→Prop}
    (hR:∀ h' tk,KeepsH s.heap h'→R (.ok (.ret (.bool true))) { s with heap:=h',toks:=tk }) :
    codeAny (model prog w) callerA (.call (.ref fa) ⟨[.ref l],[]⟩) R s:=by
  obtain ⟨hP,hdefs⟩:=uk hchk
  have hsc:=js (prog:=prog) (w:=w) (G:=G) (sub:=sub) (by rw [hP,hlen]) hP1 hdefs n callerA (sE htree hn)
  have hf:G.fa k=fa:=by
    have:=(F.fn k x hk).1
    rw [hfa] at this; injection this with this; injection this with this; exact this.symm
  have HR0:HR G [l] s.heap [ns.map .int]:=by
    refine ⟨rfl,by simp,by simp,fun m a xs e1 e2=>?_⟩
    cases m with
    | zero =>
      simp at e1 e2; subst e1 e2
      refine ⟨vs,hl,mZ hI,?_,fun h=>absurd rfl h⟩
      rw [List.length_map]; exact Nat.le_trans h63 (by decide)
    | succ m=>simp at e1
  have:=hsc k x [.lst 0] [ns.map .int] _ hk hw s [l] [.ref l] (fun _ _=>False) F HR0 (.cons (Rep.lst rfl) .nil)
  rw [hf] at this
  refine codeAny_mono this fun r s' p=>?_
  cases r with
  | error e=>exact p.elim
  | ok fl =>
    cases fl with
    | ret v =>
      obtain ⟨h',tk,β,K,d,rfl,kp,_,_,rp,rfl⟩:=p
      cases rp
      exact hR h' tk kp
    | _=>exact p.elim
end
end Mine
namespace Mine
open PySem
noncomputable def Sm (k:Nat) (x:Int):Prop:=x.natAbs < 2 ^ k
theorem Sm.mono {k l:Nat} {x:Int} (h:Sm k x) (hl:k≤l):Sm l x:=Nat.lt_of_lt_of_le h (Nat.pow_le_pow_right (by decide) hl)
theorem Sm.mul {k l:Nat} {x y:Int} (h1:Sm k x) (h2:Sm l y):Sm (k+l) (x*y):=by
  unfold Sm at *
  rw [Int.natAbs_mul,Nat.pow_add]
  exact Nat.mul_lt_mul'' h1 h2
theorem Sm.add {k:Nat} {x y:Int} (h1:Sm k x) (h2:Sm k y):Sm (k+1) (x+y):=by
  unfold Sm at *
  rw [Nat.pow_succ]; exact om [(x+y).natAbs,2 ^ k,x.natAbs,y.natAbs] [x,y] [(.le (.a Y2 (.n 1)) Y1),(.le (.a Y3 (.n 1)) Y1),(.an (.il Y0 (.c Y2)) (.il (.g Y0) (.c Y2))),(.an (.il Y1 (.c Y3)) (.il (.g Y1) (.c Y3))),(.or (.an (.il (.n 0) (.a Y0 Y1)) (.ie (.c Y0) (.a Y0 Y1))) (.an (.il (.a Y0 Y1) (.n 0)) (.ie (.c Y0) (.g (.a Y0 Y1)))))] (.le (.a Y0 (.n 1)) (.r Y1 2)) [[1,1,1,1,0,1,0,0,1],[1,1,1,0,1,0,1,0,1]] rfl h1 h2 (c5 (x)) (c5 (y)) (bT (x+y))
theorem Sm.sub {k:Nat} {x y:Int} (h1:Sm k x) (h2:Sm k y):Sm (k+1) (x - y):=by
  unfold Sm at *
  rw [Nat.pow_succ]; exact om [(x - y).natAbs,2 ^ k,x.natAbs,y.natAbs] [x,y] [(.le (.a Y2 (.n 1)) Y1),(.le (.a Y3 (.n 1)) Y1),(.an (.il Y0 (.c Y2)) (.il (.g Y0) (.c Y2))),(.an (.il Y1 (.c Y3)) (.il (.g Y1) (.c Y3))),(.or (.an (.il (.n 0) (.s Y0 Y1)) (.ie (.c Y0) (.s Y0 Y1))) (.an (.il (.s Y0 Y1) (.n 0)) (.ie (.c Y0) (.g (.s Y0 Y1)))))] (.le (.a Y0 (.n 1)) (.r Y1 2)) [[1,1,1,1,0,0,1,0,1],[1,1,1,0,1,1,0,0,1]] rfl h1 h2 (c5 (x)) (c5 (y)) (bT (x - y))
theorem Sm.neg {k:Nat} {x:Int} (h1:Sm k x):Sm k (-x):=by
  unfold Sm at *; exact om [(-x).natAbs,2 ^ k,x.natAbs] [x] [(.le (.a Y2 (.n 1)) Y1),(.an (.il Y0 (.c Y2)) (.il (.g Y0) (.c Y2))),(.or (.an (.il (.n 0) (.g Y0)) (.ie (.c Y0) (.g Y0))) (.an (.il (.g Y0) (.n 0)) (.ie (.c Y0) (.g (.g Y0)))))] (.le (.a Y0 (.n 1)) Y1) [[1,1,0,1,0,1],[1,1,1,0,0,1]] rfl h1 (c5 (x)) (bT (-x))
theorem Sm.bits {k:Nat} {x:Int} (h:Sm k x):Builtin.Int.intBits x≤k:=by
  unfold Builtin.Int.intBits
  split
  · exact Nat.zero_le _
  · rename_i hx
    have:x.natAbs≠0:=by simpa using hx
    exact (Nat.log2_lt this).mpr h
theorem IntMulOk.left {a b:Int} (h:Sm 64 a):IntMulOk a b:=IntMulOk.of_left h.bits
theorem IntMulOk.right {a b:Int} (h:Sm 64 b):IntMulOk a b:=IntMulOk.of_right h.bits
theorem IntMulOk.sm {k l:Nat} {a b:Int} (h1:Sm k a) (h2:Sm l b) (hk:k≤1048576) (hl:l≤1048576):IntMulOk a b :=
  IntMulOk.of_bits (Nat.le_trans h1.bits (by simpa using hk)) (Nat.le_trans h2.bits (by simpa using hl))
theorem fN {a b:Int} (hb:b≠0):(a.fmod b).natAbs < b.natAbs:=by
  rcases Int.lt_or_gt_of_ne hb with h | h
  · have h1:a.fmod b=-((-a).fmod (-b)):=by rw [Int.neg_fmod_neg]; (exact om [] [a.fmod b] [] (.ie Y0 (.g (.g Y0))) [[1]] rfl)
    have h2:=Int.fmod_nonneg_of_pos (-a) (b:=-b) (by (exact om [] [b] [(.il (.a Y0 (.n 1)) (.n 0))] (.il (.a (.n 0) (.n 1)) (.g Y0)) [[1,1]] rfl h))
    have h3:=Int.fmod_lt_of_pos (-a) (b:=-b) (by (exact om [] [b] [(.il (.a Y0 (.n 1)) (.n 0))] (.il (.a (.n 0) (.n 1)) (.g Y0)) [[1,1]] rfl h))
    (exact om [(a.fmod b).natAbs,b.natAbs] [a.fmod b,b,(-a).fmod (-b)] [(.ie Y0 (.g Y2)),(.il (.n 0) Y2),(.il (.a Y2 (.n 1)) (.g Y1)),(.an (.il Y1 (.c Y1)) (.il (.g Y1) (.c Y1))),(.or (.an (.il (.n 0) Y0) (.ie (.c Y0) Y0)) (.an (.il Y0 (.n 0)) (.ie (.c Y0) (.g Y0))))] (.le (.a Y0 (.n 1)) Y1) [[1,1,0,2,1,0,1,0,1],[1,0,1,0,1,0,1,0,1]] rfl h1 h2 h3 (c5 (b)) (bT (a.fmod b)))
  · have h2:=Int.fmod_nonneg_of_pos a h
    have h3:=Int.fmod_lt_of_pos a h
    (exact om [(a.fmod b).natAbs,b.natAbs] [a.fmod b,b] [(.il (.n 0) Y0),(.il (.a Y0 (.n 1)) Y1),(.an (.il Y1 (.c Y1)) (.il (.g Y1) (.c Y1))),(.or (.an (.il (.n 0) Y0) (.ie (.c Y0) Y0)) (.an (.il Y0 (.n 0)) (.ie (.c Y0) (.g Y0))))] (.le (.a Y0 (.n 1)) Y1) [[1,0,1,1,0,0,1],[1,2,1,1,0,0,1]] rfl h2 h3 (c5 (b)) (bT (a.fmod b)))
theorem xn {a b:Int}:b.gcd (a.fmod b)=a.gcd b:=by
  rw [Int.fmod_def,Int.gcd_comm,Int.mul_comm,Int.gcd_sub_mul_right_left]
theorem ag {β:Type} (H:List β) (x:β) (K:List β):(H++x :: K)[H.length]?=some x:=by simp
theorem cW {β:Type} (H:List β) (x y:β) (K:List β):(H++x :: y :: K)[H.length+1]?=some y:=by
  rw [List.getElem?_append_right (by exact om [H.length] [] [] (.le Y0 (.a Y0 (.n 1))) [[1]] rfl)]; simp
theorem bk {β:Type} (H:List β) (x y:β) (K:List β):(H++x :: K).set H.length y=H++y :: K:=by simp
theorem ao {β:Type} {H H':List β} {n:Nat} {x:β} (h:H<+:H') (e:H[n]?=some x):H'[n]?=some x:=by
  obtain ⟨K,rfl⟩:=h
  rw [List.getElem?_append_left (List.getElem?_eq_some_iff.mp e).1]; exact e
theorem ah {β:Type} (H K:List β):H<+:H++K:=⟨K,rfl⟩
theorem ae {β:Type} {A B C:List β} (h1:A<+:B) (h2:B<+:C):A<+:C:=List.IsPrefix.trans h1 h2
theorem yq (b:Int):dF 0 b 1=(List.range b.toNat).map fun (i:Nat)=>(i:Int):=by
  unfold dF
  have:(Builtin.Range.rangeSize 0 b 1).toNat=b.toNat:=by
    unfold Builtin.Range.rangeSize
    simp
    first | done | exact om [(if 0 < b then b else 0).toNat,b.toNat] [if 0 < b then b else 0,b] [(.or (.an (.il (.a (.n 0) (.n 1)) Y1) (.ie Y0 Y1)) (.an (.no (.il (.a (.n 0) (.n 1)) Y1)) (.ie Y0 (.n 0)))),(.or (.an (.il (.n 0) Y0) (.ie (.c Y0) Y0)) (.an (.il Y0 (.n 0)) (.eq Y0 (.n 0)))),(.or (.an (.il (.n 0) Y1) (.ie (.c Y1) Y1)) (.an (.il Y1 (.n 0)) (.eq Y1 (.n 0))))] (.eq Y0 Y1) [[1,0,0,1,0,0,1,0,1],[1,0,0,0,0,0,0,0,1],[0,1,0,1,1],[1,1,0,0,0,0,0,0,1],[1,0,1,0,0,1,0,0,0,1],[0,1,0,0,0,0,0,1],[1,0,1,0,0,1],[1,0,0,0,0,1]] rfl (Mine.sO (0 < b) (b) (0)) (bo (if 0 < b then b else 0)) (bo (b)) | (split <;> omega)
  rw [this]
  apply List.map_congr_left
  intro i _; (exact om [i] [] [] (.ie (.a (.n 0) (.m 1 (.c Y0))) (.c Y0)) [[1]] rfl)
end Mine
namespace Mine
theorem bl {body:Loc→Hp→(Loc→Hp→Prop)→Prop} {i:Nat} {N:Loc→Hp→Prop} (I:List V→Loc→Hp→Prop)
    (step:∀ (x:V) (xs:List V) (ρ:Loc) (H:Hp) (k:Loc→Hp→Prop),I (x :: xs) ρ H→(∀ ρ' H',I xs ρ' H'→k ρ' H')→body (au ρ i x) H k) (fin:∀ ρ H,I [] ρ H→N ρ H) :
    ∀ (xs:List V) (ρ:Loc) (H:Hp),I xs ρ H→bx body i xs ρ H N
  | [],ρ,H,h=>fin ρ H h
  | x :: xs,ρ,H,h=>step x xs ρ H _ h fun ρ' H' h'=>bl I step fin xs ρ' H' h'
end Mine
namespace Mine
open PySem
theorem mr {b:Int} {H:Hp} {Q:List V→Option Nat→Hp→Prop} (hb:cZ b) (h:Q ((List.range' 0 b.toNat).map fun (i:Nat)=>V.int (i:Int)) none H):qQ [.int b] H Q:=by
  refine ⟨0,b,1,rfl,by unfold cZ; decide,hb,.inl rfl,?_⟩
  rw [yq,List.map_map,List.range_eq_range']; exact h
theorem DQ {a b:Int} {H:Hp} {Q:List V→Option Nat→Hp→Prop} (ha:cZ a) (hb:cZ b) (h:Q ((List.range' 0 (b - a).toNat).map fun (i:Nat)=>V.int (a+(i:Int))) none H):qQ [.int a,.int b] H Q:=by
  refine ⟨a,b,1,rfl,ha,hb,.inl rfl,?_⟩
  have:dF a b 1=(List.range (b - a).toNat).map fun (i:Nat)=>a+(i:Int):=by
    unfold dF
    have:(Builtin.Range.rangeSize a b 1).toNat=(b - a).toNat:=by
      unfold Builtin.Range.rangeSize
      simp
      first | done | (exact om [(if a < b then b - a else 0).toNat,(b - a).toNat] [if a < b then b - a else 0,a,b] [(.or (.an (.il (.a Y1 (.n 1)) Y2) (.ie Y0 (.s Y2 Y1))) (.an (.no (.il (.a Y1 (.n 1)) Y2)) (.ie Y0 (.n 0)))),(.or (.an (.il (.n 0) Y0) (.ie (.c Y0) Y0)) (.an (.il Y0 (.n 0)) (.eq Y0 (.n 0)))),(.or (.an (.il (.n 0) (.s Y2 Y1)) (.ie (.c Y1) (.s Y2 Y1))) (.an (.il (.s Y2 Y1) (.n 0)) (.eq Y1 (.n 0))))] (.eq Y0 Y1) [[1,0,0,1,0,0,1,0,1],[1,0,0,0,0,0,0,0,1],[0,1,0,1,1],[1,1,0,0,0,0,0,0,1],[1,0,1,0,0,1,0,0,0,1],[0,1,0,0,0,0,0,1],[1,0,1,0,0,1],[1,0,0,0,0,1]] rfl (Mine.sO (a < b) (b - a) (0)) (bo (if a < b then b - a else 0)) (bo (b - a))) | (split <;> omega)
    rw [this]
    apply List.map_congr_left
    intro i _; (exact om [i] [a] [] (.ie (.a Y0 (.m 1 (.c Y0))) (.a Y0 (.c Y0))) [[1]] rfl)
  rw [this,List.map_map,List.range_eq_range']; exact h
theorem Sm.pow {k:Nat} {x:Int} (h:Sm k x):∀ n:Nat,Sm (k*n+1) (x ^ n)
  | 0=>by rw [Int.pow_zero]; unfold Sm; simp
  | n+1=>by
    rw [Int.pow_succ]
    exact Sm.mono (Sm.mul (Sm.pow h n) h) (by rw [Nat.mul_succ]; (exact om [k*n,k] [] [] (.le (.a (.a Y0 (.n 1)) Y1) (.a (.a Y0 Y1) (.n 1))) [[1]] rfl))
end Mine
namespace Mine
theorem aB {i:Int} (h1:-1000000≤i) (h2:i≤1000000):cZ i:=by
  have e:(2:Int) ^ 40=1099511627776:=by decide
  unfold cZ
  rw [e]; (exact om [] [i] [(.il (.g (.n 1000000)) Y0),(.il Y0 (.n 1000000))] (.an (.il (.a (.g (.n 1099511627776)) (.n 1)) Y0) (.il (.a Y0 (.n 1)) (.n 1099511627776))) [[1,1],[1,0,1]] rfl h1 h2)
end Mine
namespace Mine
open PySem
theorem fK:∀ xs ys:List Int,PyData.eqvAll (xs.map .int) (ys.map .int)=decide (xs=ys)
  | [],[]=>rfl
  | [],_ :: _=>rfl
  | _ :: _,[]=>rfl
  | x :: xs,y :: ys=>by
    simp only [List.map_cons,PyData.eqvAll,PyData.eqv,fK xs ys,List.cons.injEq]
    by_cases h:x=y <;> simp [h]
theorem vD {H:Hp} {k l:Nat} {cs ds:List Int} {Q:Bool→Prop} (h1:H[k]?=some (cs.map .int)) (h2:H[l]?=some (ds.map .int)) (h:Q (decide (cs=ds))):oO (.lst k) (.lst l) H Q :=
  ⟨_,_,.inr ⟨_,_,rfl,h1,rfl⟩,.inr ⟨_,_,rfl,h2,rfl⟩,by rw [PyData.eqv,fK]; exact h⟩
end Mine
namespace Mine
open PySem
section
variable {a b c:Int} {m n:Nat} {H:Hp} {Q:V→Hp→Prop} {x y:V} {xs ys:List V}
theorem cw:gG .add (.int a) (.int b) H Q=Q (.int (a+b)) H:=rfl
theorem cM:gG .sub (.int a) (.int b) H Q=Q (.int (a - b)) H:=rfl
theorem cx:gG .mul (.int a) (.int b) H Q=(IntMulOk a b∧Q (.int (a*b)) H):=rfl
theorem yo:gG .fdiv (.int a) (.int b) H Q=(gw b∧Q (.int (a.fdiv b)) H):=rfl
theorem w7:gG .mod (.int a) (.int b) H Q=(b≠0∧Q (.int (a.fmod b)) H):=rfl
theorem DD:gG .pow (.int a) (.int b) H Q=(0≤b∧b≤1000∧a.natAbs < 2 ^ 64∧Q (.int (a ^ b.toNat)) H):=rfl
theorem fY:eI .lt (.int a) (.int b) H Q=Q (.bool (decide (a < b))) H:=rfl
theorem CL:eI .le (.int a) (.int b) H Q=Q (.bool (decide (a≤b))) H:=rfl
theorem li:eI .gt (.int a) (.int b) H Q=Q (.bool (decide (b < a))) H:=rfl
theorem xm:eI .ge (.int a) (.int b) H Q=Q (.bool (decide (b≤a))) H:=rfl
theorem gi:eI .eq (.int a) (.int b) H Q=Q (.bool (decide (a=b))) H:=rfl
theorem qC:eI .ne (.int a) (.int b) H Q=Q (.bool (!decide (a=b))) H:=rfl
theorem DE:eI .eq (.tup xs) y H Q=oO (.tup xs) y H fun b=>Q (.bool b) H:=rfl
theorem DM:eI .ne (.lst m) y H Q=oO (.lst m) y H fun b=>Q (.bool (!b)) H:=rfl
theorem AG:kZ .abs [.int a] H Q=Q (.int (if a < 0 then -a else a)) H:=rfl
theorem ji:kZ .len [.tup xs] H Q=Q (.int xs.length) H:=rfl
theorem c7:kZ .len [.lst m] H Q=ifSome H[m]? fun xs=>Q (.int xs.length) H:=rfl
theorem kq {t:Bool}:kZ .int [.bool t] H Q=Q (.int (if t then 1 else 0)) H:=rfl
theorem nM:kZ .list [x] H Q=ifSome (items H x) fun xs=>Q (.lst H.length) (H++[xs]):=rfl
theorem uM:kZ .tuple [x] H Q=ifSome (items H x) fun xs=>Q (.tup xs) H:=rfl
theorem DB:kZ .min [.int a,.int b] H Q=Q (.int (if b < a then b else a)) H:=rfl
theorem cq:cU (.tup [x,y]) (.int 0) H Q=Q x H:=rfl
theorem cr:cU (.tup [x,y]) (.int 1) H Q=Q y H:=rfl
theorem jK {z:V}:cU (.tup [x,y,z]) (.int 0) H Q=Q x H:=rfl
theorem jV {z:V}:cU (.tup [x,y,z]) (.int 1) H Q=Q y H:=rfl
theorem iD {z:V}:cU (.tup [x,y,z]) (.int 2) H Q=Q z H:=rfl
theorem cy {k:Int}:cU (.lst m) (.int k) H Q=ifSome H[m]? fun xs=>ifSome (cv xs.length k) fun i=>ifSome xs[i]? fun v=>Q v H:=rfl
theorem CN {lo hi:Option V}:gA (.lst m) lo hi H Q=ifSome H[m]? fun xs=>ifSome (ny xs.length lo hi) fun p=>Q (.lst H.length) (H++[cut xs p.1 p.2]):=rfl
theorem aZ {t:Bool}:bn H (.bool t)=some t:=rfl
theorem D1:bn H (.lst m)=(H[m]?).map fun xs=>!xs.isEmpty:=rfl
theorem yn:items H (.tup xs)=some xs:=rfl
theorem d5:items H (.lst m)=H[m]?:=rfl
theorem cD:nj 1 x=some [some x]:=rfl
theorem n6:jx (.lst m)=some m:=rfl
theorem CQ:jx (.tup xs)=none:=rfl
theorem BB {a:Int}:ny n (some (.int a)) none=some (bX n a,n):=rfl
theorem Ao {a:Int}:ny n none (some (.int a))=some (0,bX n a):=rfl
variable {sub:Nat→Nat→Bool}
end
end Mine
namespace Mine
theorem az {v:V} {l:List V}:List.map some (v :: l)=some v :: List.map some l:=rfl
theorem aA:List.map some ([]:List V)=[]:=rfl
theorem ax {v:Option V} {l m:Loc}:v :: l++m=v :: (l++m):=rfl
theorem aw {m:Loc}:([]:Loc)++m=m:=rfl
theorem aP {n:Nat}:List.replicate (n+1) (none:Option V)=none :: List.replicate n none:=rfl
theorem ay:List.replicate 0 (none:Option V)=[]:=rfl
theorem aq {a b:Nat} {vs:List V}:dO a b vs=List.map some vs++List.replicate (b - a) none:=rfl
theorem fw {v:V} {l:List V}:(v :: l).length=l.length+1:=rfl
theorem bu {A B:Prop}:(if true=true then A else B)=A:=rfl
theorem bR {A B:Prop}:(if false=true then A else B)=B:=rfl
theorem gJ {A B:Prop}:(if false=false then A else B)=A:=rfl
theorem kU:(!true)=false:=rfl
theorem CT:[true].any id=true:=rfl
theorem DP:decide (((2:Nat):Int)=2)=true:=rfl
theorem BX:(!false)=true:=rfl
end Mine
namespace Mine
open PySem PyProof.Rows PySem.Calls PySem.W
section
variable {prog:Program} {w:World}
end
end Mine
namespace Mine
open PySem PyProof.Rows PySem.Calls
section
variable {X:SX} {f:FC}
end
end Mine
namespace Mine
open PySem PyProof.Rows PySem.Calls
structure D6 (D:Addr→Prop) (h h':Heap):Prop where
  keep:∀ b o,h.get? b=some o→¬ D b→h'.get? b=some o
  dict:∀ b o,D b→h.get? b=some o→∃ es n,o.data=.dict es n
section
variable {X:SX} {f:FC}
end
end Mine
namespace Mine
open PySem PyProof.Rows PySem.Calls PySem.W
section
variable {prog:Program} {w:World} {G:GV} {gc:GC} {DT:List dq} {P:List Fn} {sub:Nat→Nat→Bool} {view:Program} {loose:List Str} {mean:ExcName→Option Value} {mb:Str→Option Value}
end
end Mine
namespace Mine
open PySem PyProof.Rows PySem.Calls PySem.W
end Mine
namespace Mine
open PySem PyProof.Rows PySem.Calls PySem.W
end Mine
namespace Mine
open PySem PyProof.Rows PySem.Calls PySem.W
end Mine
namespace Mine
open PySem PyProof.Rows PySem.Calls PySem.W
end Mine
namespace Mine
open PySem PyProof.Rows PySem.Calls PySem.W
section
variable {prog:Program} {w:World} {A:Around} {E:Value→Shared→Prop} {s:Shared} {h₀:Heap} {L D D':Addr} {m:Str→Option Value} {news:List (Addr × Obj)} {v:Value} {n n':Nat} {k:Int} {u:Tok} {Q:Value→Shared→Prop}
end
end Mine
namespace Mine
open PySem PyProof.Rows PySem.Calls
theorem xj {G:GV} {gc:GC} {DT:List dq} {h:Heap} (F:GF G ⟨gc.fns,gc.cls,[]⟩ DT h) (hg:∀ x a b,(x,a,b)∈gc.globs→∃ t ta tb,G.mg x=some (.ref t)∧IsTup h t #[.int a ta,.int b tb]):GF G gc DT h where
  g:=F.g
  b:=F.b
  nolimit:=F.nolimit
  seer:=F.seer
  fn:=F.fn
  blt:=F.blt
  glob:=hg
end Mine
namespace Mine
noncomputable def sgn (x:Int):Int:=if x < 0 then -1 else if 0 < x then 1 else 0
noncomputable def aW (p q:Int):List Int→Int
  | []=>0
  | c :: cs=>aW p q cs*p+c*q ^ cs.length
theorem ue (p q c:Int) (cs:List Int):aW p q (c :: cs)=aW p q cs*p+c*q ^ cs.length:=rfl
end Mine
namespace Mine
theorem sH {α:Type} {l:List α} {n:Nat} (h:l.length=n+1):∃ a t,l=a :: t∧t.length=n:=by
  cases l with
  | nil=>cases h
  | cons a t=>exact ⟨a,t,rfl,Nat.succ.inj h⟩
theorem Ec {α:Type} {l:List α} (h:l.length=3):∃ a b c,l=[a,b,c]:=by
  obtain ⟨a,t,rfl,h1⟩:=sH h
  obtain ⟨b,t,rfl,h2⟩:=sH h1
  obtain ⟨c,t,rfl,h3⟩:=sH h2
  cases List.eq_nil_of_length_eq_zero h3
  exact ⟨a,b,c,rfl⟩
noncomputable def mulG (a b:Int):Int→List Int→List Int
  | c,[]=>[c]
  | c,x :: r=>(c+x*a) :: mulG a b (x*b) r
noncomputable def addL (xs ys:List Int):List Int:=List.zipWith (fun x y=>x+y) xs ys
noncomputable def smul (c:Int) (xs:List Int):List Int:=xs.map fun x=>c*x
noncomputable def mulN (a b:Int):Nat→List Int→List Int
  | 0,xs=>xs
  | n+1,xs=>mulG a b 0 (mulN a b n xs)
noncomputable def ch (n:Nat):List Int:=List.replicate n 0
theorem b9 {a b:Int}:∀ {c:Int} {xs:List Int},(mulG a b c xs).length=xs.length+1
  | _,[]=>rfl
  | c,x :: r=>by
    show (mulG a b (x*b) r).length+1=r.length+1+1
    rw [b9]
theorem bF {a b:Int} {xs:List Int}:∀ {n:Nat},(mulN a b n xs).length=xs.length+n
  | 0=>rfl
  | n+1=>by
    show (mulG a b 0 (mulN a b n xs)).length=_
    rw [b9,bF]; rfl
theorem mV {a b c d:Int}:∀ {xs:List Int} {e f e' f':Int},e+f*a=e'+f'*c→f*b=f'*d→mulG a b e (mulG c d f xs)=mulG c d e' (mulG a b f' xs)
  | [],e,f,e',f',h1,h2=>by
    show [e+f*a,f*b]=[e'+f'*c,f'*d]
    rw [h1,h2]
  | x :: r,e,f,e',f',h1,h2=>by
    show (e+(f+x*c)*a) :: mulG a b ((f+x*c)*b) (mulG c d (x*d) r)=(e'+(f'+x*a)*c) :: mulG c d ((f'+x*a)*d) (mulG a b (x*b) r)
    have i1:e+(f+x*c)*a=e'+(f'+x*a)*c:=by grind
    have i2:(f+x*c)*b+x*d*a=(f'+x*a)*d+x*b*c:=by grind
    have i3:x*d*b=x*b*d:=by grind
    rw [i1,mV i2 i3]
theorem mU {a b c d:Int} {xs:List Int}:∀ {n:Nat},mulG a b 0 (mulN c d n xs)=mulN c d n (mulG a b 0 xs)
  | 0=>rfl
  | n+1=>by
    show mulG a b 0 (mulG c d 0 (mulN c d n xs))=mulG c d 0 (mulN c d n (mulG a b 0 xs))
    rw [← mU (n:=n)]
    exact mV (by exact om [] [a,c] [] (.ie (.a (.n 0) (.m 0 Y0)) (.a (.n 0) (.m 0 Y1))) [[1]] rfl) (by exact om [] [b,d] [] (.ie (.m 0 Y0) (.m 0 Y1)) [[1]] rfl)
theorem mK {a b c d:Int} {xs:List Int} {m:Nat}:∀ {n:Nat},mulN a b n (mulN c d m xs)=mulN c d m (mulN a b n xs)
  | 0=>rfl
  | n+1=>by
    show mulG a b 0 (mulN a b n (mulN c d m xs))=mulN c d m (mulG a b 0 (mulN a b n xs))
    rw [mK (n:=n),mU]
theorem uJ {a b:Int} {xs:List Int}:∀ {n:Nat},mulN a b (n+1) xs=mulN a b n (mulG a b 0 xs)
  | 0=>rfl
  | n+1=>by
    show mulG a b 0 (mulN a b (n+1) xs)=mulG a b 0 (mulN a b n (mulG a b 0 xs))
    rw [uJ (n:=n)]
theorem gZ {xs ys:List Int} (h:xs.length=ys.length):(addL xs ys).length=xs.length:=by
  unfold addL; rw [List.length_zipWith,h,Nat.min_self]
theorem qm {a b:Int}:∀ {xs ys:List Int} {c d:Int},xs.length=ys.length→mulG a b (c+d) (addL xs ys)=addL (mulG a b c xs) (mulG a b d ys)
  | [],[],_,_,_=>rfl
  | x :: r,y :: t,c,d,h=>by
    show ((c+d)+(x+y)*a) :: mulG a b ((x+y)*b) (addL r t)=((c+x*a)+(d+y*a)) :: addL (mulG a b (x*b) r) (mulG a b (y*b) t)
    have i1:(c+d)+(x+y)*a=(c+x*a)+(d+y*a):=by grind
    have i2:(x+y)*b=x*b+y*b:=by grind
    rw [i1,i2,qm (Nat.succ.inj h)]
theorem mQ {a b t:Int}:∀ {xs:List Int} {c:Int},mulG a b (t*c) (smul t xs)=smul t (mulG a b c xs)
  | [],_=>rfl
  | x :: r,c=>by
    show (t*c+t*x*a) :: mulG a b (t*x*b) (smul t r)=(t*(c+x*a)) :: smul t (mulG a b (x*b) r)
    have i1:t*c+t*x*a=t*(c+x*a):=by grind
    have i2:t*x*b=t*(x*b):=by grind
    rw [i1,i2,mQ]
theorem rE {a b:Int} {xs ys:List Int} (h:xs.length=ys.length):∀ {n:Nat},mulN a b n (addL xs ys)=addL (mulN a b n xs) (mulN a b n ys)
  | 0=>rfl
  | n+1=>by
    show mulG a b 0 (mulN a b n (addL xs ys))=_
    rw [rE h (n:=n),show (0:Int)=0+0 from rfl,qm (by rw [bF,bF,h])]
    rfl
theorem f4 {a b t:Int} {xs:List Int}:∀ {n:Nat},mulN a b n (smul t xs)=smul t (mulN a b n xs)
  | 0=>rfl
  | n+1=>by
    show mulG a b 0 (mulN a b n (smul t xs))=_
    rw [f4 (n:=n),show (0:Int)=t*0 from (Int.mul_zero t).symm,mQ]
    rfl
theorem lq {a b:Int}:∀ {n:Nat},mulG a b 0 (ch n)=ch (n+1)
  | 0=>rfl
  | n+1=>by
    show (0+0*a) :: mulG a b (0*b) (ch n)=0 :: ch (n+1)
    rw [Int.zero_mul,Int.zero_mul,lq]; rfl
theorem mulN_nil {a b:Int}:∀ {n:Nat},mulN a b n []=ch n
  | 0=>rfl
  | n+1=>by
    show mulG a b 0 (mulN a b n [])=_
    rw [mulN_nil,lq]
theorem mJ {xs ys:List Int}:addL xs ys=addL ys xs:=by
  unfold addL; rw [List.zipWith_comm]; congr 1; funext x y; exact Int.add_comm _ _
theorem lZ:∀ {xs ys zs:List Int},addL (addL xs ys) zs=addL xs (addL ys zs)
  | [],_,_=>by simp [addL]
  | _ :: _,[],_=>by simp [addL]
  | _ :: _,_ :: _,[]=>by simp [addL]
  | x :: r,y :: t,z :: u=>by
    show ((x+y)+z) :: addL (addL r t) u=(x+(y+z)) :: addL r (addL t u)
    rw [lZ,Int.add_assoc]
theorem iZ:∀ {xs:List Int},addL (ch xs.length) xs=xs
  | []=>rfl
  | x :: r=>by
    show (0+x) :: addL (ch r.length) r=x :: r
    rw [iZ,Int.zero_add]
noncomputable def hs (b e s:Int):List Int→List Int
  | []=>[]
  | c :: r=>addL (mulG b e 0 (hs b e s r)) (smul c (mulN s s r.length [1]))
theorem fS {b e s:Int}:∀ {r:List Int},(hs b e s r).length=r.length
  | []=>rfl
  | c :: r=>by
    show (addL _ _).length=r.length+1
    rw [gZ,b9,fS]
    rw [b9,fS]; unfold smul; rw [List.length_map,bF]; exact Nat.add_comm _ _
noncomputable def ls (b e s:Int):Nat→List Int→List Int
  | k,[]=>ch k
  | k,c :: r=>addL (mulN s s r.length (mulN b e k [c])) (ls b e s (k+1) r)
theorem AH {b e s:Int}:∀ {r:List Int} {k:Nat},ls b e s k r=mulN b e k (hs b e s r)
  | [],_=>mulN_nil.symm
  | c :: r,k=>by
    show addL (mulN s s r.length (mulN b e k [c])) (ls b e s (k+1) r)=mulN b e k (addL (mulG b e 0 (hs b e s r)) (smul c (mulN s s r.length [1])))
    rw [rE (by rw [b9,fS]; unfold smul; rw [List.length_map,bF]; exact Nat.add_comm _ _),AH,← uJ,f4,mK,mJ,← f4,← f4]
    show _=addL _ (mulN b e k (mulN s s r.length [c*1]))
    rw [Int.mul_one]
theorem wK {b e s:Int} {r:List Int}:ls b e s 0 r=hs b e s r:=AH
noncomputable def tv:Int→List Int→Int
  | _,[]=>0
  | l,x :: r=>(if l*x < 0 then 1 else 0)+tv (if x=0 then l else x) r
theorem kR (l x:Int) (r:List Int):tv l (x :: r)=(if l*x < 0 then 1 else 0)+tv (if x=0 then l else x) r:=rfl
theorem AE (l:Int):tv l []=0:=rfl
end Mine
set_option maxRecDepth 100000
namespace Mine
open PySem
noncomputable def cF (ns:List Int) (k:Nat):Int:=ns.getD k 0
section
variable {sub:Nat→Nat→Bool} {P:List Fn} {f n:Nat} {H:Hp} {Q:V→Hp→Prop} {X:Nat→Hp→Prop}
theorem ai {d:Fn} {vs:List V} (e:P[f]?=some d) (hl:vs.length=d.np) (h:wpS sub (aj sub P n) (fun m=>H.length≤m) d.body (dO d.np d.nv vs) H (fun _ H'=>Q .none H') Q X):aj sub P (n+1) f vs H Q X:=⟨d,e,hl,h⟩
noncomputable def mT:PS:=.seq (.ite (.cmp .lt (.var 1) (.bi .len (.cons (.var 0) .nil))) (.seq (.ret (.idx (.var 0) (.var 1))) .skip) .skip) (.seq (.ret (.cint 0)) .skip)
theorem d8 (e:P[f]?=some ⟨2,2,mT⟩) {m:Nat} {ns:List Int} {k:Int} (hk:0≤k) (hH:H[m]?=some (ns.map .int)) (hQ:Q (.int (cF ns k.toNat)) H):aj sub P (n+1) f [.lst m,.int k] H Q X:=by
  refine ai e rfl ?_
  dsimp only [mT,qS1,qS2,qS9,bj,qE1,qE5,bh,br,aY,aC,aD,fY,c7,cy,aZ,az,aA,ax,aw,ay,aq,ac,af,Nat.reduceSub]
  refine ifSome.mk hH ?_
  rw [List.length_map]
  by_cases h:k < ns.length
  · rw [if_pos (decide_eq_true h)]
    have hl:k.toNat < ns.length:=(Int.toNat_lt hk).mpr h
    refine ifSome.mk hH (ifSome.mk (v:=k.toNat) ?_ (ifSome.mk (v:=.int ns[k.toNat]) ?_ ?_))
    · rw [List.length_map,cv,if_pos hk,if_pos h]
    · rw [List.getElem?_map,List.getElem?_eq_getElem hl]; rfl
    · rw [cF,List.getD_eq_getElem?_getD,List.getElem?_eq_getElem hl] at hQ; exact hQ
  · rw [if_neg (by rw [decide_eq_true_eq]; exact h)]
    rw [cF,List.getD_eq_getElem?_getD,List.getElem?_eq_none ((Int.le_toNat hk).mpr (Int.not_lt.mp h))] at hQ
    exact hQ
noncomputable def Dr:PS:=.seq (.assign 2 (.bin .mod (.var 0) (.var 1))) (.seq (.assign 0 (.var 1)) (.seq (.assign 1 (.var 2)) .skip))
noncomputable def my:PS:=.seq (.whl (.cmp .ne (.var 1) (.cint 0)) Dr) (.seq (.ret (.bi .abs (.cons (.var 0) .nil))) .skip)
noncomputable def AA (ρ:Loc) (i:Nat):Nat:=match af ρ i with | some (.int y)=>y.natAbs | _=>0
theorem uI (e:P[f]?=some ⟨2,3,my⟩) {a b:Int} (hQ:Q (.int (a.gcd b:Nat)) H):aj sub P (n+1) f [.int a,.int b] H Q X:=by
  refine ai e rfl ?_
  dsimp only [my,qS1,qS2,qS9,dy,qE1,qE5,bh,br,aC,aD,az,aA,ax,aw,aP,ay,aq,Nat.reduceSub]
  refine ⟨fun ρ H'=>∃ x y o,ρ=[some (.int x),some (.int y),o]∧H'=H∧x.gcd y=a.gcd b,fun ρ _=>AA ρ 1,⟨a,b,_,rfl,rfl,rfl⟩,?_⟩
  intro ρ H' zr5; refine dQ (zr5) fun x y o zq7 zq8 hg=>?_; subst zq7; subst zq8
  dsimp only [Dr,qS1,qS2,qS3,qE5,qE8,w7,qC,AG,aZ,ac,af,au]
  by_cases hy:y=0
  · subst hy
    have:(if x < 0 then -x else x)=((a.gcd b:Nat):Int):=by
      rw [← hg,Int.gcd_zero_right]
      split <;> omega
    show Q (.int (if x < 0 then -x else x)) _
    rw [this]; exact hQ
  · rw [decide_eq_false hy]
    exact ⟨hy,⟨y,x.fmod y,_,rfl,rfl,by rw [xn]; exact hg⟩,fN hy⟩
noncomputable def n4:PS:=.seq (.ret (.and (.cons (.isi (.var 0) [.int]) (.cons (.nt (.isi (.var 0) [.bool])) .nil)))) .skip
theorem od (e:P[f]?=some ⟨1,1,n4⟩) {x:Int} (hQ:Q (.bool true) H):aj sub P (n+1) f [.int x] H Q X :=
  ai e rfl hQ
noncomputable def gr (dv:Nat):PS:=.seq (.assign 2 (.call dv (.cons (.var 0) (.cons (.var 1) .nil)))) (.seq (.ite (.cmp .lt (.var 1) (.cint 0)) (.seq (.assign 2 (.bin .sub (.cint 0) (.var 2))) .skip) .skip)
  (.seq (.ret (.tup (.cons (.bin .fdiv (.var 0) (.var 2)) (.cons (.bin .fdiv (.var 1) (.var 2)) .nil)))) .skip))
theorem BJ {dv:Nat} (e:P[f]?=some ⟨2,3,gr dv⟩) (ed:P[dv]?=some ⟨2,3,my⟩) {a b:Int} (hb:0 < b) (hs:Sm 2000 b)
    (hQ:∀ p q:Int,p*(a.gcd b:Nat)=a→q*(a.gcd b:Nat)=b→Q (.tup [.int p,.int q]) H):aj sub P (n+2) f [.int a,.int b] H Q X:=by
  refine ai e rfl ?_
  dsimp only [gr,qS1,qS2,qS3,qS9,bj,qE1,qE5,qE8,bh,aO,cJ,aC,aD,fY,aZ,az,aA,ax,aw,aP,ay,aq,ac,af,au,Nat.reduceSub]
  refine uI ed ?_
  have hnb:¬ b < 0:=Int.not_lt.mpr (Int.le_of_lt hb)
  rw [decide_eq_false hnb]
  have h0:0 < a.gcd b:=Int.gcd_pos_of_ne_zero_right a (Int.ne_of_gt hb)
  have hd1:((a.gcd b:Nat):Int) ∣ a:=Int.gcd_dvd_left a b
  have hd2:((a.gcd b:Nat):Int) ∣ b:=Int.gcd_dvd_right a b
  have hle:a.gcd b≤b.natAbs:=Nat.le_of_dvd (Int.natAbs_pos.mpr (Int.ne_of_gt hb)) (Int.natAbs_dvd_natAbs.mpr hd2)
  have hok:gw ((a.gcd b:Nat):Int):=Int.natCast_ne_zero.mpr (Nat.ne_of_gt h0)
  exact ⟨hok,hok,hQ _ _ (Int.fdiv_mul_cancel hd1) (Int.fdiv_mul_cancel hd2)⟩
end
end Mine
set_option maxRecDepth 100000
namespace Mine
open PySem
theorem jm {x:V} {k:Int} {H:Hp} {Q:V→Hp→Prop}:cU x (.int k) H Q=ifSome (items H x) fun xs=>ifSome (cv xs.length k) fun i=>ifSome xs[i]? fun v=>Q v H:=rfl
theorem xo {x:V} {H:Hp} {Q:V→Hp→Prop}:kZ .len [x] H Q=ifSome (items H x) fun xs=>Q (.int xs.length) H:=rfl
theorem aF {n k:Nat} (h:k < n):cv n (k:Int)=some k:=by
  rw [cv,if_pos (Int.natCast_nonneg k),if_pos (Int.ofNat_lt.mpr h)]; rfl
theorem ci {n:Nat} (h:1≤n):cv n (-1)=some (n - 1):=by
  rw [cv,if_neg (by decide),if_pos (by exact om [n] [] [(.le (.n 1) Y0)] (.il (.n 0) (.a (.g (.n 1)) (.c Y0))) [[1,1]] rfl h)]; congr 1; exact om [(-1+(↑n:Int)).toNat,n,n - 1] [] [(.or (.an (.il (.n 0) (.a (.g (.n 1)) (.c Y1))) (.ie (.c Y0) (.a (.g (.n 1)) (.c Y1)))) (.an (.il (.a (.g (.n 1)) (.c Y1)) (.n 0)) (.eq Y0 (.n 0)))),(.or (.an (.le (.n 1) Y1) (.eq Y1 (.a Y2 (.n 1)))) (.an (.le Y1 (.n 1)) (.eq Y2 (.n 0))))] (.eq Y0 Y2) [[1,0,0,1,0,0,1],[1,0,0,0,0,1],[1,1,0,0,0,0,1],[1,0,1,0,0,1],[1,0,1,0,1],[1,0,1]] rfl (bo (-1+(↑n:Int))) (aN (n) (1))
theorem gb {β:Type} (H:List β) (x y z:β) (K:List β):(H++x :: y :: K).set (H.length+1) z=H++x :: z :: K:=by
  rw [List.set_append_right _ _ (by exact lin [H.length] [] Y0 (.a Y0 (.n 1)) rfl )]; simp
theorem bD {H H':Hp} {v:V} {xs:List V} (h:H<+:H') (e:items H v=some xs):items H' v=some xs:=by
  cases v <;> first | exact e | exact ao h e
theorem bN {k:Nat} {β:Type} {x:β} {r:List β}:List.range' k (x :: r).length=k :: List.range' (k+1) r.length:=List.range'_succ ..
theorem gV {g:V→V} {step:V→Hp→(Option V→Hp→Prop)→Prop} {H:Hp}:∀ {xs:List V} {Q:List V→Hp→Prop},(∀ x∈xs,∀ k:Option V→Hp→Prop,k (some (g x)) H→step x H k)→Q (xs.map g) H→cK step xs H Q
  | [],_,_,h=>h
  | x :: xs,Q,hs,h=>hs x List.mem_cons_self _ (gV (g:=g) (fun y hy=>hs y (List.mem_cons_of_mem _ hy)) h)
theorem fM {β:Type} {h g:β→V} {step:V→Hp→(Option V→Hp→Prop)→Prop} {H:Hp}:∀ {xs:List β} {Q:List V→Hp→Prop},(∀ x∈xs,∀ k:Option V→Hp→Prop,k (some (g x)) H→step (h x) H k)→Q (xs.map g) H→cK step (xs.map h) H Q
  | [],_,_,hq=>hq
  | x :: xs,Q,hs,hq=>hs x List.mem_cons_self _ (fM (g:=g) (fun y hy=>hs y (List.mem_cons_of_mem _ hy)) hq)
theorem eV {g:Nat→V} {step:V→Hp→(Option V→Hp→Prop)→Prop} {H:Hp}:∀ {n a:Nat} {Q:List V→Hp→Prop},(∀ i,i < a+n→∀ k:Option V→Hp→Prop,k (some (g i)) H→step (.int (i:Int)) H k)→Q ((List.range' a n).map g) H→cK step ((List.range' a n).map fun (i:Nat)=>V.int (i:Int)) H Q
  | 0,_,_,_,h=>h
  | n+1,a,Q,hs,h=>hs a (by (exact lin [a,n] [] (.a Y0 (.n 1)) (.a Y0 (.a Y1 (.n 1))) rfl )) _ (eV (g:=g) (fun i hi=>hs i (by (exact lin [i,a,n] [(1,(.a Y0 (.n 1)),(.a (.a Y1 (.n 1)) Y2))] (.a Y0 (.n 1)) (.a Y1 (.a Y2 (.n 1))) rfl hi))) h)
theorem mF {xs ys:List Int} {f:Int→Int→Int} (h:xs.length=ys.length):((List.range' 0 xs.length).map fun i=>V.int (f (xs.getD i 0) (ys.getD i 0)))=(List.zipWith f xs ys).map V.int:=by
  apply List.ext_getElem
  · simp [h]
  · intro i h1 h2
    simp at h1 h2
    have h3:i < ys.length:=by (exact lin [xs.length,ys.length,i,(List.map (fun i=>V.int (f (xs.getD i 0) (ys.getD i 0))) (List.range' 0 xs.length)).length,(List.map V.int (List.zipWith f xs ys)).length] [(1,Y0,Y1),(1,(.a Y2 (.n 1)),Y0)] (.a Y2 (.n 1)) Y1 rfl (Nat.le_of_eq h) h1)
    simp [h1,h3]
noncomputable def AllSm (k:Nat) (xs:List Int):Prop:=∀ x∈xs,Sm k x
theorem AllSm.mono {k l:Nat} {xs:List Int} (h:AllSm k xs) (hl:k≤l):AllSm l xs:=fun x hx=>(h x hx).mono hl
theorem AllSm.cons {k:Nat} {x:Int} {xs:List Int} (h:Sm k x) (h':AllSm k xs):AllSm k (x :: xs):=fun y hy=>by
  cases hy with
  | head=>exact h
  | tail _ hy=>exact h' y hy
theorem AllSm.hd {k:Nat} {x:Int} {xs:List Int} (h:AllSm k (x :: xs)):Sm k x:=h x List.mem_cons_self
theorem AllSm.tl {k:Nat} {x:Int} {xs:List Int} (h:AllSm k (x :: xs)):AllSm k xs:=fun y hy=>h y (List.mem_cons_of_mem _ hy)
theorem AllSm.nil {k:Nat}:AllSm k []:=fun _ h=>nomatch h
theorem AllSm.mulG {k l:Nat} {a b:Int} (ha:Sm l a) (hb:Sm l b):∀ {xs:List Int} {c:Int},AllSm k xs→Sm (k+l) c→AllSm (k+l+1) (Mine.mulG a b c xs)
  | [],c,_,hc=>.cons (hc.mono (Nat.le_succ _)) .nil
  | x :: r,c,h,hc=>.cons (hc.add (h.hd.mul ha)) (AllSm.mulG ha hb h.tl (h.hd.mul hb))
theorem Sm.zero {k:Nat}:Sm k 0:=Nat.two_pow_pos k
theorem AllSm.mulG0 {k l:Nat} {a b:Int} (ha:Sm l a) (hb:Sm l b) {xs:List Int} (h:AllSm k xs):AllSm (k+l+1) (Mine.mulG a b 0 xs):=h.mulG ha hb .zero
theorem AllSm.mulN {k l:Nat} {a b:Int} (ha:Sm l a) (hb:Sm l b) {xs:List Int} (h:AllSm k xs):∀ {n:Nat},AllSm (k+n*(l+1)) (Mine.mulN a b n xs)
  | 0=>h.mono (Nat.le_add_right _ _)
  | n+1=>((AllSm.mulN ha hb h (n:=n)).mulG0 ha hb).mono (by rw [Nat.succ_mul]; (exact lin [k,n*(l+1),l] [] (.a (.a (.a Y0 Y1) Y2) (.n 1)) (.a Y0 (.a Y1 (.a Y2 (.n 1)))) rfl ))
theorem AllSm.addL {k:Nat}:∀ {xs ys:List Int},AllSm k xs→AllSm k ys→AllSm (k+1) (Mine.addL xs ys)
  | [],_,_,_=>fun _ h=>nomatch h
  | _ :: _,[],_,_=>fun _ h=>nomatch h
  | _ :: _,_ :: _,h1,h2=>.cons (h1.hd.add h2.hd) (AllSm.addL h1.tl h2.tl)
theorem AllSm.smul {k l:Nat} {c:Int} {xs:List Int} (hc:Sm l c) (h:AllSm k xs):AllSm (l+k) (Mine.smul c xs):=fun x hx=>by
  refine ad (List.mem_map.mp hx) fun y hy zq107=>?_; subst zq107
  exact hc.mul (h y hy)
theorem Sm.one {k:Nat}:Sm (k+1) 1:=Nat.lt_of_lt_of_le (show (1:Int).natAbs < 2 ^ 1 by decide) (Nat.pow_le_pow_right (by decide) (Nat.le_add_left 1 k))
theorem AllSm.pow1 {l:Nat} {s:Int} (hs:Sm l s) {n:Nat}:AllSm (1+n*(l+1)) (Mine.mulN s s n [1]):=AllSm.mulN hs hs (.cons Sm.one .nil)
theorem AllSm.hs {k l:Nat} {b e s:Int} (hb:Sm l b) (he:Sm l e) (hs:Sm l s):∀ {r:List Int},AllSm k r→AllSm (k+2+r.length*(l+2)) (Mine.hs b e s r)
  | [],_=>.nil
  | c :: r,h=>by
    have h1:=(AllSm.hs hb he hs h.tl).mulG0 hb he
    have h2:=AllSm.smul h.hd (AllSm.pow1 hs (n:=r.length))
    have hm:r.length*(l+1)≤r.length*(l+2):=Nat.mul_le_mul_left _ (Nat.le_succ _)
    refine AllSm.mono (AllSm.addL h1 (h2.mono ?_)) ?_
    · (exact lin [r.length*(l+1),r.length*(l+2),k,l] [(1,Y0,Y1)] (.a Y2 (.a (.n 1) Y0)) (.a (.a (.a (.a Y2 (.n 2)) Y1) Y3) (.n 1)) rfl hm)
    · rw [List.length_cons,Nat.succ_mul]; (exact lin [k,r.length*(l+2),l] [] (.a (.a (.a (.a (.a Y0 (.n 2)) Y1) Y2) (.n 1)) (.n 1)) (.a (.a Y0 (.n 2)) (.a Y1 (.a Y2 (.n 2)))) rfl )
section
variable {sub:Nat→Nat→Bool} {P:List Fn} {f n:Nat} {H:Hp} {Q:V→Hp→Prop} {X:Nat→Hp→Prop}
noncomputable def DK:PS:=(.seq (.setidx 3 (.var 4) (.bin .add (.idx (.var 3) (.var 4)) (.bin .mul (.idx (.var 0) (.var 4)) (.var 1))))
 (.seq (.setidx 3 (.bin .add (.var 4) (.cint 1)) (.bin .add (.idx (.var 3) (.bin .add (.var 4) (.cint 1))) (.bin .mul (.idx (.var 0) (.var 4)) (.var 2))))
 .skip))
noncomputable def r6:PS:=(.seq (.assign 3 (.bin .mul (.lst (.cons (.cint 0) .nil)) (.bin .add (.bi .len (.cons (.var 0) .nil)) (.cint 1))))
 (.seq (.forr 4 (.rng (.cons (.bi .len (.cons (.var 0) .nil)) .nil)) DK)
 (.seq (.ret (.var 3)) .skip)))
theorem AO (e:P[f]?=some ⟨3,5,r6⟩) {v:V} {row:List Int} {a b:Int} (hv:items H v=some (row.map .int)) (hl:row.length≤1000) (hb:∀ x∈row,IntMulOk x a∧IntMulOk x b)
    (hQ:∀ H' k,H<+:H'→H'[k]?=some ((mulG a b 0 row).map .int)→Q (.lst k) H'):aj sub P (n+1) f [v,.int a,.int b] H Q X:=by
  refine ai e rfl ?_
  dsimp only [r6,qS1,qS2,qS3,qS9,b5,qE1,qE5,qE8,br,cY,aC,aD,qI3,az,aA,ax,aw,aP,ay,aq,ac,af,au,Nat.reduceSub]
  refine ifSome.mk (bD (ah _ _) hv) ?_
  rw [List.length_map]
  refine ⟨.int 0,ag _ _ _,by (exact om [row.length] [] [] (.il (.n 0) (.a (.c Y0) (.n 1))) [[1]] rfl),by unfold lim; (exact om [row.length] [] [(.le Y0 (.n 1000))] (.il (.a (.c Y0) (.n 1)) (.c (.n 1000000))) [[1,1]] rfl hl),?_⟩
  refine ifSome.mk (bD (ae (ah _ _) (ah _ _)) hv) ?_
  refine mr (aB (by rw [List.length_map]; (exact om [row.length] [] [] (.il (.g (.n 1000000)) (.c Y0)) [[1]] rfl)) (by rw [List.length_map]; (exact om [row.length] [] [(.le Y0 (.n 1000))] (.il (.c Y0) (.n 1000000)) [[1,1]] rfl hl))) ?_
  have eH:H++[[V.int 0]]++[List.replicate ((row.length:Int)+1).toNat (V.int 0)]=H++[V.int 0] :: (List.replicate (row.length+1) (V.int 0)) :: []:=by
    rw [List.append_assoc,show ((row.length:Int)+1).toNat=row.length+1 by (exact om [((↑row.length:Int)+1).toNat,row.length] [] [(.or (.an (.il (.n 0) (.a (.c Y1) (.n 1))) (.ie (.c Y0) (.a (.c Y1) (.n 1)))) (.an (.il (.a (.c Y1) (.n 1)) (.n 0)) (.eq Y0 (.n 0))))] (.eq Y0 (.a Y1 (.n 1))) [[1,0,0,1],[0,1],[1,0,1]] rfl (bo ((↑row.length:Int)+1)))]; rfl
  have eL:(H++[[V.int 0]]).length=H.length+1:=by simp
  rw [eH,eL,List.length_map,Int.toNat_natCast]
  refine bl (fun rest ρ H'=>∃ dn td pre c o,row=dn++td∧rest=(List.range' dn.length td.length).map (fun (i:Nat)=>V.int (i:Int))∧ρ=[some v,some (.int a),some (.int b),some (.lst (H.length+1)),o] ∧
    H'=H++[V.int 0] :: ((pre:List Int).map V.int++V.int c :: List.replicate td.length (V.int 0)) :: []∧pre.length=dn.length∧pre++mulG a b c td=mulG a b 0 row) ?_ ?_ _ _ _ ⟨[],row,[],0,_,rfl,rfl,rfl,rfl,rfl,rfl⟩
  · rintro x xs ρ H' k ⟨dn,td,pre,c,o,hr,hx,rfl,rfl,hp,hm⟩ hk
    cases td with
    | nil=>cases hx
    | cons y td =>
      rw [bN] at hx
      cases hx
      have hv':∀ l:List V,items (H++[V.int 0] :: l :: []) v=some (row.map .int):=fun l=>bD (ah _ _) hv
      have hy:(row.map V.int)[dn.length]?=some (.int y):=by rw [hr,List.map_append,List.map_cons]; have:=ag (dn.map V.int) (V.int y) (td.map V.int); rwa [List.length_map] at this
      have hdl:dn.length < (row.map V.int).length:=by rw [hr]; simp
      have hmy:=hb y (by rw [hr]; simp)
      have hpl:(pre.map V.int).length=dn.length:=by rw [List.length_map,hp]
      dsimp only [DK,qS1,qS2,qS5,qE1,qE5,qE8,aY,cw,d5,ac,cl,iX,af,au,jm,List.length_cons,List.replicate_succ]
      refine ifSome.mk (cW _ _ _ _) (ifSome.mk (aF (k:=dn.length) (by simp; (exact lin [pre.length,dn.length,td.length] [(1,Y1,Y0)] (.a Y1 (.n 1)) (.a Y0 (.a (.a Y2 (.n 1)) (.n 1))) rfl (Nat.le_of_eq (hp).symm)))) (ifSome.mk (v:=.int c) (by rw [← hpl]; exact ag _ _ _) ?_))
      refine ifSome.mk (hv' _) (ifSome.mk (aF (k:=dn.length) hdl) (ifSome.mk hy ⟨hmy.1,?_⟩))
      refine ⟨⟨Nat.le_succ _,Option.some_ne_none _⟩,?_⟩
      refine ifSome.mk (cW _ _ _ _) (ifSome.mk (aF (k:=dn.length) (by simp; (exact lin [pre.length,dn.length,td.length] [(1,Y1,Y0)] (.a Y1 (.n 1)) (.a Y0 (.a (.a Y2 (.n 1)) (.n 1))) rfl (Nat.le_of_eq (hp).symm)))) ?_)
      rw [gb,← hpl,bk]
      refine ifSome.mk (cW _ _ _ _) (ifSome.mk (aF (k:=(pre.map V.int).length+1) (by simp)) (ifSome.mk (v:=.int 0) (cW _ _ _ _) ?_))
      refine ifSome.mk (hv' _) (ifSome.mk (aF (k:=(pre.map V.int).length) (by rw [hpl]; exact hdl)) (ifSome.mk (v:=.int y) (by rw [hpl]; exact hy) ⟨hmy.2,?_⟩))
      refine ⟨⟨Nat.le_succ _,Option.some_ne_none _⟩,?_⟩
      refine ifSome.mk (cW _ _ _ _) (ifSome.mk (aF (k:=(pre.map V.int).length+1) (by simp)) ?_)
      rw [gb,gb]
      refine hk _ _ ⟨dn++[y],td,pre++[c+y*a],0+y*b,_,by rw [hr]; simp,by rw [List.length_append]; rfl,rfl,by rw [List.map_append,List.append_assoc]; rfl,by rw [List.length_append,List.length_append,hp]; rfl,?_⟩
      rw [Int.zero_add,List.append_assoc]; exact hm
  · intro ρ H' zr6; refine gq (zr6) fun dn td pre c o hr hx zq9 zq10 hp hm=>?_; subst zq9; subst zq10
    cases td with
    | cons y td=>rw [bN] at hx; cases hx
    | nil =>
      refine hQ _ _ (ah _ _) ?_
      rw [cW,← hm]
      show some (pre.map V.int++[V.int c])=some ((pre++[c]).map V.int); rw [List.map_append]; rfl
end
end Mine
set_option maxRecDepth 100000
namespace Mine
open PySem
theorem tJ {n:Nat} (h:1≤n):bX n (-1)=n - 1:=by
  obtain ⟨m,rfl⟩:=Nat.exists_eq_add_of_le h
  unfold bX
  rw [if_pos (by decide),show (-1:Int)+((1+m:Nat):Int)=(m:Int) by (exact om [m] [] [] (.ie (.a (.g (.n 1)) (.c (.a (.n 1) Y0))) (.c Y0)) [[1]] rfl),Int.min_eq_left (by (exact om [m] [] [] (.il (.c Y0) (.c (.a (.n 1) Y0))) [[1]] rfl)),Int.max_eq_right (Int.natCast_nonneg m),Int.toNat_natCast,Nat.add_sub_cancel_left]
theorem Cn {m:Nat} {H:Hp} {Q:V→Hp→Prop} {b:Int} {xs:List V} (h:H[m]?=some xs) (hq:Q (.lst H.length) (H++[cut xs 0 (bX xs.length b)])):gA (.lst m) none (some (.int b)) H Q:=ifSome.mk h hq
theorem vj {m:Nat} {xs:List V} {H:Hp} {Q:V→Hp→Prop} (h:items H (.lst m)=some xs) (h1:xs≠[]) (hq:∀ v' H',H<+:H'→items H' v'=some xs.dropLast→Q v' H'):gA (.lst m) none (some (.int (-1))) H Q:=by
  refine Cn h (hq _ _ (ah _ _) ?_)
  rw [show ∀ (H:Hp) (n:Nat),items H (.lst n)=H[n]? from fun _ _=>rfl,ag,cut,List.drop_zero,List.dropLast_eq_take,tJ (List.length_pos_iff.mpr h1)]
section
variable {sub:Nat→Nat→Bool} {P:List Fn} {f n mu:Nat} {H:Hp} {Q:V→Hp→Prop} {X:Nat→Hp→Prop}
noncomputable def Bb:PE:=(.bin .add (.idx (.var 1) (.var 0)) (.bin .mul (.var 2) (.idx (.var 3) (.var 0))))
noncomputable def xM:PE:=(.comp Bb 1 [6,8,7] (.rng (.cons (.bi .len (.cons (.var 6) .nil)) .nil)) .no)
noncomputable def AT (mu:Nat):PS:=(.seq (.assign 7 (.call mu (.cons (.var 7) (.cons (.var 5) (.cons (.var 5) .nil)))))
 (.seq (.assign 6 (.call mu (.cons (.var 6) (.cons (.var 3) (.cons (.var 4) .nil)))))
 (.seq (.assign 6 xM)
 .skip)))
noncomputable def mR (mu:Nat):PS:=(.seq (.assign 3 (.bin .mul (.idx (.var 1) (.cint 0)) (.idx (.var 2) (.cint 1))))
 (.seq (.assign 4 (.bin .mul (.idx (.var 2) (.cint 0)) (.idx (.var 1) (.cint 1))))
 (.seq (.assign 5 (.bin .mul (.idx (.var 1) (.cint 1)) (.idx (.var 2) (.cint 1))))
 (.seq (.assign 6 (.lst (.cons (.idx (.var 0) (.neg (.cint 1))) .nil)))
 (.seq (.assign 7 (.lst (.cons (.cint 1) .nil)))
 (.seq (.forr 8 (.rev (.slc (.var 0) .no (.some (.neg (.cint 1))))) (AT mu))
 (.seq (.ret (.var 6)) .skip)))))))
theorem CV {ρ:Loc} {c:Int} {i j:Nat} {Φ:Call} {xs ys:List Int} (h6:af ρ 6=some (.lst i)) (h8:af ρ 8=some (.int c)) (h7:af ρ 7=some (.lst j)) (hi:H[i]?=some (xs.map .int)) (hj:H[j]?=some (ys.map .int))
    (hl:xs.length=ys.length) (hn:xs.length≤1000) (hm:∀ y∈ys,IntMulOk c y) (hQ:Q (.lst H.length) (H++[(addL xs (smul c ys)).map .int])) :
    wpE sub Φ xM ρ H Q:=by
  dsimp only [xM,qE5,br,dH,qI3,aC,aD]
  refine ifSome.mk h6 ?_
  dsimp only [c7]
  refine ifSome.mk hi ?_
  rw [List.length_map]
  refine mr (aB (by (exact om [xs.length] [] [] (.il (.g (.n 1000000)) (.c Y0)) [[1]] rfl)) (by (exact om [xs.length] [] [(.le Y0 (.n 1000))] (.il (.c Y0) (.n 1000000)) [[1,1]] rfl hn))) ⟨by rw [List.length_map,List.length_range']; unfold lim; (exact lin [xs.length,ys.length] [(1,Y0,(.n 1000))] Y0 (.n 1000000) rfl hn),?_⟩
  rw [Int.toNat_natCast]
  refine eV (g:=fun i=>V.int (xs.getD i 0+c*ys.getD i 0)) ?_ ?_
  · intro t ht k hk
    rw [Nat.zero_add] at ht
    have ht':t < ys.length:=hl ▸ ht
    dsimp only [Bb,cD,qO1,ac,List.cons_append,List.nil_append]
    have em:List.map (af ρ) [6,8,7]=[some (.lst i),some (.int c),some (.lst j)]:=by
      show [af ρ 6,af ρ 8,af ρ 7]=_
      rw [h6,h8,h7]
    rw [em,if_pos rfl]
    dsimp only [qE5,qE8,aY,af,ac,cy]
    refine ifSome.mk hi (ifSome.mk (aF (k:=t) (by rw [List.length_map]; exact ht)) (ifSome.mk (v:=.int (xs.getD t 0)) ?_ ?_))
    · rw [List.getElem?_map,List.getElem?_eq_getElem ht,List.getD_eq_getElem?_getD,List.getElem?_eq_getElem ht]; rfl
    refine ifSome.mk hj (ifSome.mk (aF (k:=t) (by rw [List.length_map]; exact ht')) (ifSome.mk (v:=.int (ys.getD t 0)) ?_ ⟨?_,hk⟩))
    · rw [List.getElem?_map,List.getElem?_eq_getElem ht',List.getD_eq_getElem?_getD,List.getElem?_eq_getElem ht']; rfl
    · rw [List.getD_eq_getElem?_getD,List.getElem?_eq_getElem ht']; exact hm _ (List.getElem_mem _)
  · rw [mF (f:=fun x y=>x+c*y) hl]
    have:List.zipWith (fun x y=>x+c*y) xs ys=addL xs (smul c ys):=by
      rw [addL,smul,List.zipWith_map_right]
    rw [this]; exact hQ
noncomputable def lo (p1 q1:Int):V:=.tup [.int p1,.int q1]
theorem Cf (e:P[f]?=some ⟨3,9,mR mu⟩) (em:P[mu]?=some ⟨3,5,r6⟩) {m0:Nat} {row:List Int} {p1 q1 p2 q2:Int} {K L:Nat} (hv:items H (.lst m0)=some (row.map .int)) (h0:row≠[]) (hl:row.length≤900)
    (hr:AllSm K row) (hb:Sm L (p1*q2)) (he:Sm L (p2*q1)) (hs:Sm L (q1*q2)) (m1:IntMulOk p1 q2) (m2:IntMulOk p2 q1) (m3:IntMulOk q1 q2) (hB:K+L+2+row.length*(L+2)≤1000000)
    (hQ:∀ H' k,H<+:H'→H'[k]?=some ((Mine.hs (p1*q2) (p2*q1) (q1*q2) row).map .int)→Q (.lst k) H'):aj sub P (n+2) f [.lst m0,.tup [.int p1,.int q1],.tup [.int p2,.int q2]] H Q X:=by
  refine ai e rfl ?_
  generalize eb:p1*q2=b at *
  generalize ee:p2*q1=e' at *
  generalize es:q1*q2=s at *
  obtain ⟨r0,c,hrow⟩:∃ r0 c,row=r0++[c]:=⟨row.dropLast,row.getLast h0,(List.dropLast_concat_getLast h0).symm⟩
  dsimp only [mR,qS1,qS2,qS3,qS9,b5,qE1,qE5,qE8,qE9,aY,hX,cY,aC,aD,qO1,qO2,qI2,yn,az,aA,ax,aw,aP,ay,aq,fw,ac,af,au,Nat.reduceSub,Nat.reduceAdd,List.length_nil,jm]
  refine ⟨m1,m2,m3,?_⟩
  rw [eb,ee,es]
  refine ifSome.mk hv (ifSome.mk (ci (by rw [List.length_map]; exact List.length_pos_iff.mpr h0)) (ifSome.mk (v:=.int c) ?_ ?_))
  · rw [hrow,List.map_append,List.length_append,List.length_map]; simp
  refine vj (bD (ae (ah _ _) (ah _ _)) hv) (by rw [hrow]; simp) fun v' H1 hp hv1=>?_
  refine ifSome.mk hv1 ?_
  have hp0:H<+:H1:=ae (ae (ah _ _) (ah _ _)) hp
  refine bl (fun rest ρ H'=>∃ pre suf kf kp o,row=pre++suf∧suf≠[]∧rest=((pre:List Int).map V.int).reverse∧ρ=[some (.lst m0),some (.tup [.int p1,.int q1]),some (.tup [.int p2,.int q2]),some (.int b),some (.int e'),some (.int s),some (.lst kf),some (.lst kp),o] ∧
    H<+:H'∧H'[kf]?=some ((Mine.hs b e' s suf).map .int)∧H'[kp]?=some ((mulN s s (suf.length - 1) [1]).map .int)) ?_ ?_ _ _ _ ⟨r0,[c],H.length,H.length+1,none,hrow,List.cons_ne_nil _ _,?_,?_,hp0,?_,?_⟩
  · rintro x xs ρ H' k ⟨pre,suf,kf,kp,o,hr1,hr2,hx,rfl,hpre,hf,hpw⟩ hk
    rcases List.eq_nil_or_concat pre with rfl | ⟨pre',d,rfl⟩
    · cases hx
    rw [List.concat_eq_append] at hr1 hx
    rw [List.map_append,List.reverse_append] at hx
    cases hx
    have hsl:suf.length≤row.length:=by rw [hr1,List.length_append]; exact Nat.le_add_left _ _
    have hdm:Sm K d:=hr d (by rw [hr1]; simp)
    have hsf:AllSm K suf:=fun y hy=>hr y (by rw [hr1]; simp [hy])
    have hs1:1≤suf.length:=List.length_pos_iff.mpr hr2
    have bp:=AllSm.pow1 hs (n:=suf.length - 1)
    have bf:=AllSm.hs hb he hs hsf
    have mm:suf.length*(L+2)≤row.length*(L+2):=Nat.mul_le_mul_right _ hsl
    have mm1:(suf.length - 1)*(L+1)+(L+1)≤suf.length*(L+2):=by
      have e1:(suf.length - 1)*(L+1)+(L+1)=suf.length*(L+1):=by rw [← Nat.succ_mul]; congr 1; (exact om [suf.length - 1,suf.length] [] [(.le (.n 1) Y1),(.or (.an (.le (.n 1) Y1) (.eq Y1 (.a Y0 (.n 1)))) (.an (.le Y1 (.n 1)) (.eq Y0 (.n 0))))] (.eq (.a Y0 (.n 1)) Y1) [[1,0,0,1],[1,0,1],[1,0,0,0,1],[1,1,0,1]] rfl hs1 (aN (suf.length) (1)))
      rw [e1]; exact Nat.mul_le_mul_left _ (Nat.le_succ _)
    dsimp only [AT,qS1,qS2,qS3,qE5,aO,aC,aD,ac,af,au]
    refine AO em (row:=mulN s s (suf.length - 1) [1]) hpw ?_ ?_ fun H2 kp' hp2 hpw2=>?_
    · rw [bF,List.length_singleton]; (exact om [suf.length - 1,suf.length,row.length] [] [(.le Y2 (.n 900)),(.le Y1 Y2),(.an (.le Y1 (.a Y0 (.n 1))) (.le Y0 Y1))] (.le (.a (.n 1) Y0) (.n 1000)) [[1,1,1,0,1]] rfl hl hsl (dG (suf.length) (1)))
    · intro y hy; have:=IntMulOk.sm (bp y hy) hs (by (exact lin [K,L,row.length*(L+2),suf.length*(L+2),(suf.length - 1)*(L+1)] [(1,(.a (.a (.a Y0 Y1) (.n 2)) Y2),(.n 1000000)),(1,Y3,Y2),(1,(.a Y4 (.a Y1 (.n 1))),Y3)] (.a (.n 1) Y4) (.n 1048576) rfl hB mm mm1)) (by (exact lin [K,L,row.length*(L+2)] [(1,(.a (.a (.a Y0 Y1) (.n 2)) Y2),(.n 1000000))] Y1 (.n 1048576) rfl hB)); exact ⟨this,this⟩
    refine AO em (row:=Mine.hs b e' s suf) (ao hp2 hf) ?_ ?_ fun H3 kf' hp3 hf3=>?_
    · rw [fS]; (exact lin [row.length,suf.length] [(1,Y0,(.n 900)),(1,Y1,Y0)] Y1 (.n 1000) rfl hl hsl)
    · intro y hy; exact ⟨IntMulOk.sm (bf y hy) hb (by (exact lin [K,L,row.length*(L+2),suf.length*(L+2)] [(1,(.a (.a (.a Y0 Y1) (.n 2)) Y2),(.n 1000000)),(1,Y3,Y2)] (.a (.a Y0 (.n 2)) Y3) (.n 1048576) rfl hB mm)) (by (exact lin [K,L,row.length*(L+2)] [(1,(.a (.a (.a Y0 Y1) (.n 2)) Y2),(.n 1000000))] Y1 (.n 1048576) rfl hB)),IntMulOk.sm (bf y hy) he (by (exact lin [K,L,row.length*(L+2),suf.length*(L+2)] [(1,(.a (.a (.a Y0 Y1) (.n 2)) Y2),(.n 1000000)),(1,Y3,Y2)] (.a (.a Y0 (.n 2)) Y3) (.n 1048576) rfl hB mm)) (by (exact lin [K,L,row.length*(L+2)] [(1,(.a (.a (.a Y0 Y1) (.n 2)) Y2),(.n 1000000))] Y1 (.n 1048576) rfl hB))⟩
    have ep:mulG s s 0 (mulN s s (suf.length - 1) [1])=mulN s s suf.length [1]:=by
      show mulN s s (suf.length - 1+1) [1]=_
      rw [Nat.sub_add_cancel hs1]
    rw [ep] at hpw2
    refine CV rfl rfl rfl hf3 (ao hp3 hpw2) ?_ ?_ ?_ ?_
    · rw [b9,fS,bF,List.length_singleton]; (exact om [suf.length] [] [] (.eq (.a Y0 (.n 1)) (.a (.n 1) Y0)) [[1]] rfl)
    · rw [b9,fS]; (exact lin [row.length,suf.length] [(1,Y0,(.n 900)),(1,Y1,Y0)] (.a Y1 (.n 1)) (.n 1000) rfl hl hsl)
    · intro y hy; refine IntMulOk.sm hdm (AllSm.pow1 hs y hy) (by (exact lin [K,L,row.length*(L+2)] [(1,(.a (.a (.a Y0 Y1) (.n 2)) Y2),(.n 1000000))] Y0 (.n 1048576) rfl hB)) ?_
      have:suf.length*(L+1)≤suf.length*(L+2):=Nat.mul_le_mul_left suf.length (Nat.le_succ (L+1)); (exact om [suf.length*(L+1),K,L,row.length*(L+2),suf.length*(L+2)] [] [(.le (.a (.a (.a Y1 Y2) (.n 2)) Y3) (.n 1000000)),(.le Y4 Y3),(.le Y0 Y4)] (.le (.a (.n 1) Y0) (.n 1048576)) [[1,1,1,1]] rfl hB mm this)
    refine hk _ _ ⟨pre',d :: suf,_,_,_,by rw [hr1,List.append_assoc]; rfl,List.cons_ne_nil _ _,rfl,rfl,ae hpre (ae hp2 (ae hp3 (ah _ _))),?_,?_⟩
    · rw [ag]; rfl
    · exact ao (ae hp3 (ah _ _)) hpw2
  · intro ρ H' zr7; refine fW (zr7) fun pre suf kf kp o hr1 hr2 hx zq13 hpre hf hpw=>?_; subst zq13
    have hnil:pre=[]:=by
      have:=congrArg List.length hx
      simp at this; exact List.eq_nil_of_length_eq_zero this.symm
    subst hnil
    rw [List.nil_append] at hr1
    subst hr1
    exact hQ _ _ hpre hf
  · rw [hrow,List.map_append,List.map_cons,List.map_nil,List.dropLast_concat]
  · rw [List.length_append]; rfl
  · refine ao hp ?_
    rw [List.append_assoc]
    show (H++[V.int c] :: _)[H.length]?=_
    rw [ag]; show _=some [V.int (0+c*1)]; rw [Int.mul_one,Int.zero_add]
  · refine ao hp ?_
    rw [List.append_assoc]
    exact cW _ _ _ _
noncomputable def xg:PS:=(.seq (.ite (.cmp .ne (.var 5) (.cint 0)) (.seq (.ite (.cmp .lt (.bin .mul (.var 4) (.var 5)) (.cint 0)) (.seq (.assign 3 (.bin .add (.var 3) (.cint 1)))
 .skip) .skip)
 (.seq (.assign 4 (.var 5)) .skip)) .skip)
 .skip)
noncomputable def kW (se:Nat):PS:=(.seq (.assign 3 (.cint 0))
 (.seq (.assign 4 (.cint 0))
 (.seq (.forr 5 (.seq (.call se (.cons (.var 0) (.cons (.var 1) (.cons (.var 2) .nil))))) xg)
 (.seq (.ret (.var 3)) .skip))))
theorem zM {se:Nat} (e0:P[f]?=some ⟨3,6,kW se⟩) (e:P[se]?=some ⟨3,9,mR mu⟩) (em:P[mu]?=some ⟨3,5,r6⟩) {m0:Nat} {row:List Int} {p1 q1 p2 q2:Int} {K L:Nat} (hv:items H (.lst m0)=some (row.map .int)) (h0:row≠[]) (hl:row.length≤900)
    (hr:AllSm K row) (hb:Sm L (p1*q2)) (he:Sm L (p2*q1)) (hs:Sm L (q1*q2)) (m1:IntMulOk p1 q2) (m2:IntMulOk p2 q1) (m3:IntMulOk q1 q2) (hB:K+L+2+row.length*(L+2)≤1000000)
    (hQ:∀ H',H<+:H'→Q (.int (tv 0 (Mine.hs (p1*q2) (p2*q1) (q1*q2) row))) H'):aj sub P (n+3) f [.lst m0,.tup [.int p1,.int q1],.tup [.int p2,.int q2]] H Q X:=by
  refine ai e0 rfl ?_
  dsimp only [kW,qS1,qS2,qS3,qS9,b5,qE1,qE5,aO,aC,aD,qI1,az,aA,ax,aw,aP,ay,aq,ac,af,au,Nat.reduceSub]
  refine Cf e em hv h0 hl hr hb he hs m1 m2 m3 hB fun H1 k hp hk=>?_
  have hA:=AllSm.hs hb he hs hr
  revert hA hQ hk
  generalize Mine.hs (p1*q2) (p2*q1) (q1*q2) row=xs
  intro hQ hk hA
  refine ifSome.mk hk ?_
  refine bl (fun rest ρ H'=>∃ td many ahead o,rest=(td:List Int).map V.int∧ρ=[some (.lst m0),some (.tup [.int p1,.int q1]),some (.tup [.int p2,.int q2]),some (.int many),some (.int ahead),o]∧H'=H1∧many+tv ahead td=tv 0 xs∧AllSm 1000000 td∧Sm 1000000 ahead) ?_ ?_ _ _ _ ⟨xs,0,0,_,rfl,rfl,rfl,Int.zero_add _,hA.mono (by (exact lin [K,L,row.length*(L+2)] [(1,(.a (.a (.a Y0 Y1) (.n 2)) Y2),(.n 1000000))] (.a (.a Y0 (.n 2)) Y2) (.n 1000000) rfl hB)),Sm.zero⟩
  · rintro x rest ρ H' k' ⟨td,many,ahead,o,hx,rfl,rfl,hm,ha,hah⟩ hk'
    cases td with
    | nil=>cases hx
    | cons y td =>
      cases hx
      dsimp only [xg,qS1,qS2,qS3,bj,qE1,qE5,qE8,bh,cw,cx,fY,qC,aZ,n6,ac,af,au]
      by_cases hy:y=0
      · rw [decide_eq_true hy]
        refine hk' _ _ ⟨td,many,ahead,_,rfl,rfl,rfl,?_,ha.tl,hah⟩
        rw [← hm,kR,if_pos hy,hy,Int.mul_zero,if_neg (by decide),Int.zero_add]
      · rw [decide_eq_false hy]
        refine ⟨IntMulOk.sm hah ha.hd (by decide) (by decide),?_⟩
        by_cases hc:ahead*y < 0
        · rw [decide_eq_true hc]
          refine hk' _ _ ⟨td,many+1,y,_,rfl,rfl,rfl,?_,ha.tl,ha.hd⟩
          rw [← hm,kR,if_neg hy,if_pos hc,Int.add_assoc]
        · rw [decide_eq_false hc]
          refine hk' _ _ ⟨td,many,y,_,rfl,rfl,rfl,?_,ha.tl,ha.hd⟩
          rw [← hm,kR,if_neg hy,if_neg hc,Int.zero_add]
  · intro ρ H' zr8; refine hO (zr8) fun td many ahead o hx zq11 zq12 hm ha hah=>?_; subst zq11; subst zq12
    cases td with
    | cons y td=>cases hx
    | nil =>
      rw [AE,Int.add_zero] at hm
      subst hm
      exact hQ _ hp
end
end Mine
set_option maxRecDepth 100000
namespace Mine
open PySem
theorem xW {n:Nat}:((n+1:Nat):Int) - 1=(n:Int):=by exact om [n] [] [] (.ie (.s (.c (.a Y0 (.n 1))) (.n 1)) (.c Y0)) [[1]] rfl
theorem iQ {n:Nat} (h:n≤900):cZ (n:Int):=aB (by exact om [n] [] [] (.il (.g (.n 1000000)) (.c Y0)) [[1]] rfl) (by exact om [n] [] [(.le Y0 (.n 900))] (.il (.c Y0) (.n 1000000)) [[1,1]] rfl h)
theorem DH {K L j r:Nat} (h:j*(L+1)≤r*(L+2)) (hB:K+L+2+r*(L+2)≤1000000):K+j*(L+1)≤1048576:=by exact lin [j*(L+1),r*(L+2),K,L] [(1,Y0,Y1),(1,(.a (.a (.a Y2 Y3) (.n 2)) Y1),(.n 1000000))] (.a Y2 Y0) (.n 1048576) rfl h hB
theorem Dy {K L r:Nat} (hB:K+L+2+r*(L+2)≤1000000):L≤1048576:=by exact lin [K,L,r*(L+2)] [(1,(.a (.a (.a Y0 Y1) (.n 2)) Y2),(.n 1000000))] Y1 (.n 1048576) rfl hB
theorem zC {j r d:Nat} (h:j≤r) (hl:r≤900):1+min j d+(j - d)≤1000:=by exact om [min j d,j,d,j - d,r] [] [(.le Y1 Y4),(.le Y4 (.n 900)),(.an (.le Y0 Y1) (.le Y0 Y2)),(.or (.an (.le Y2 Y1) (.eq Y1 (.a Y3 Y2))) (.an (.le Y1 Y2) (.eq Y3 (.n 0))))] (.le (.a (.a (.n 1) Y0) Y3) (.n 1000)) [[1,1,1,0,1,0,0,1],[1,1,1,1,0,0,1]] rfl h hl (Mine.Cc (j) (d)) (aN (j) (d))
theorem zh {j d:Nat}:min j d+(j - d)=j:=by exact om [min j d,j,d,j - d] [] [(.or (.an (.le Y1 Y2) (.eq Y0 Y1)) (.an (.le Y2 Y1) (.eq Y0 Y2))),(.or (.an (.le Y2 Y1) (.eq Y1 (.a Y3 Y2))) (.an (.le Y1 Y2) (.eq Y3 (.n 0))))] (.eq (.a Y0 Y3) Y1) [[1,0,0,1],[1,0,0,1,0,1],[1,0,0,1,1],[1,1,1,0,0,0,1],[1,0,1,0,0,1],[1,0,1,0,0,0,1],[1,1,1,0,0,1]] rfl (Mine.tj (j) (d)) (aN (j) (d))
section
variable {sub:Nat→Nat→Bool} {P:List Fn} {f n mu:Nat} {H:Hp} {Q:V→Hp→Prop} {X:Nat→Hp→Prop}
noncomputable def Dx:PS:=(.seq (.setidx 2 (.bin .add (.var 3) (.var 4)) (.bin .add (.idx (.var 2) (.bin .add (.var 3) (.var 4))) (.bin .mul (.idx (.var 0) (.var 3)) (.idx (.var 1) (.var 4)))))
 .skip)
noncomputable def CX:PS:=(.seq (.forr 4 (.rng (.cons (.bi .len (.cons (.var 1) .nil)) .nil)) Dx)
 .skip)
noncomputable def zBy:PE:=(.comp (.cint 0) 1 [] (.rng (.cons (.bin .sub (.bin .add (.bi .len (.cons (.var 0) .nil)) (.bi .len (.cons (.var 1) .nil))) (.cint 1)) .nil)) .no)
noncomputable def bBy:PS:=(.seq (.assign 2 zBy)
 (.seq (.forr 3 (.rng (.cons (.bi .len (.cons (.var 0) .nil)) .nil)) CX)
 (.seq (.ret (.var 2)) .skip)))
theorem Dh (e:P[f]?=some ⟨2,5,bBy⟩) {m w:Nat} {row:List Int} {a b:Int} (hm:H[m]?=some (row.map .int)) (hw:H[w]?=some [.int a,.int b]) (hl:row.length≤1000) (hb:∀ x∈row,IntMulOk x a∧IntMulOk x b)
    (hQ:∀ H' k,H<+:H'→H.length≤k→H'[k]?=some ((mulG a b 0 row).map .int)→Q (.lst k) H'):aj sub P (n+1) f [.lst m,.lst w] H Q X:=by
  refine ai e rfl ?_
  dsimp only [bBy,zBy,qS1,qS2,qS3,qS9,b5,qE1,qE5,qE8,br,dH,aC,aD,qO1,qI3,cw,cM,c7,cD,az,aA,ax,aw,aP,ay,aq,bu,ac,af,au,Nat.reduceSub]
  refine ifSome.mk hm (ifSome.mk hw ?_)
  rw [List.length_map]
  refine mr (aB (by (exact om [row.length] [] [] (.il (.g (.n 1000000)) (.s (.a (.c Y0) (.c (.a (.a (.n 0) (.n 1)) (.n 1)))) (.n 1))) [[1]] rfl)) (by simp; (exact om [row.length] [] [(.le Y0 (.n 1000))] (.il (.s (.a (.c Y0) (.n 2)) (.n 1)) (.n 1000000)) [[1,1]] rfl hl))) ⟨by rw [List.length_map,List.length_range']; unfold lim; simp; (exact om [row.length] [] [(.le Y0 (.n 1000))] (.il (.a (.c Y0) (.n 2)) (.n 1000001)) [[1,1]] rfl hl),?_⟩
  refine eV (g:=fun _=>V.int 0) (fun i hi k hk=>hk) ?_
  rw [show ((row.length:Int)+(([V.int a,V.int b].length:Nat):Int) - 1).toNat=row.length+1 by simp; (exact om [((↑row.length:Int)+2).toNat,row.length] [] [(.or (.an (.il (.n 0) (.a (.c Y1) (.n 2))) (.ie (.c Y0) (.a (.c Y1) (.n 2)))) (.an (.il (.a (.c Y1) (.n 2)) (.n 0)) (.eq Y0 (.n 0))))] (.eq Y0 (.a Y1 (.n 2))) [[1,0,0,1],[0,1],[1,0,1]] rfl (bo ((↑row.length:Int)+2)))]
  refine ifSome.mk (ao (ah _ _) hm) ?_
  refine mr (aB (by rw [List.length_map]; (exact om [row.length] [] [] (.il (.g (.n 1000000)) (.c Y0)) [[1]] rfl)) (by rw [List.length_map]; (exact om [row.length] [] [(.le Y0 (.n 1000))] (.il (.c Y0) (.n 1000000)) [[1,1]] rfl hl))) ?_
  rw [List.length_map,Int.toNat_natCast,show (List.range' 0 (row.length+1)).map (fun _=>V.int 0)=List.replicate (row.length+1) (V.int 0) from by rw [List.map_const',List.length_range']]
  refine bl (fun rest ρ H'=>∃ dn td pre c o o',row=dn++td∧rest=(List.range' dn.length td.length).map (fun (i:Nat)=>V.int (i:Int))∧ρ=[some (.lst m),some (.lst w),some (.lst H.length),o,o'] ∧
    H'=H++((pre:List Int).map V.int++V.int c :: List.replicate td.length (V.int 0)) :: []∧pre.length=dn.length∧pre++mulG a b c td=mulG a b 0 row) ?_ ?_ _ _ _ ⟨[],row,[],0,_,_,rfl,rfl,rfl,rfl,rfl,rfl⟩
  · rintro x xs ρ H' k ⟨dn,td,pre,c,o,o',hr,hx,rfl,rfl,hp,hmm⟩ hk
    cases td with
    | nil=>cases hx
    | cons y td =>
      rw [bN] at hx
      cases hx
      have hm':∀ l:List V,(H++l :: [])[m]?=some (row.map .int):=fun l=>ao (ah _ _) hm
      have hw':∀ l:List V,(H++l :: [])[w]?=some [.int a,.int b]:=fun l=>ao (ah _ _) hw
      have hy:(row.map V.int)[dn.length]?=some (.int y):=by rw [hr,List.map_append,List.map_cons]; have:=ag (dn.map V.int) (V.int y) (td.map V.int); rwa [List.length_map] at this
      have hdl:dn.length < (row.map V.int).length:=by rw [hr]; simp
      have hmy:=hb y (by rw [hr]; simp)
      have hpl:(pre.map V.int).length=dn.length:=by rw [List.length_map,hp]
      dsimp only [CX,qS1,qS2,b5,qE5,br,aC,aD,qI3,c7,ac,af,au]
      refine ifSome.mk (hw' _) (mr (aB (show (-1000000:Int)≤2 by decide) (show (2:Int)≤1000000 by decide)) ?_)
      show bx _ 4 [.int 0,.int 1] _ _ _
      dsimp only [bx,Dx,qS1,qS2,qS5,qE5,qE8,aY,cw,cy,ac,cl,iX,af,au,List.replicate_succ,List.length_cons]
      refine ifSome.mk (ag _ _ _) (ifSome.mk (v:=dn.length) ?_ (ifSome.mk (v:=.int c) (by rw [← hpl]; exact ag _ _ _) ?_))
      · rw [Int.add_zero]; exact aF (by simp; (exact lin [pre.length,dn.length,td.length] [(1,Y1,Y0)] (.a Y1 (.n 1)) (.a Y0 (.a (.a Y2 (.n 1)) (.n 1))) rfl (Nat.le_of_eq (hp).symm)))
      refine ifSome.mk (hm' _) (ifSome.mk (aF (k:=dn.length) hdl) (ifSome.mk hy ?_))
      refine ifSome.mk (hw' _) (ifSome.mk (v:=0) rfl (ifSome.mk (v:=.int a) rfl ⟨hmy.1,?_⟩))
      refine ⟨⟨⟨Nat.le_refl _,Option.some_ne_none _⟩,Option.some_ne_none _⟩,?_⟩
      refine ifSome.mk (ag _ _ _) (ifSome.mk (v:=dn.length) ?_ ?_)
      · rw [Int.add_zero]; exact aF (by simp; (exact lin [pre.length,dn.length,td.length] [(1,Y1,Y0)] (.a Y1 (.n 1)) (.a Y0 (.a (.a Y2 (.n 1)) (.n 1))) rfl (Nat.le_of_eq (hp).symm)))
      rw [bk,← hpl,bk]
      refine ifSome.mk (ag _ _ _) (ifSome.mk (v:=(pre.map V.int).length+1) (aF (by simp)) (ifSome.mk (v:=.int 0) (cW _ _ _ _) ?_))
      refine ifSome.mk (hm' _) (ifSome.mk (aF (k:=(pre.map V.int).length) (by rw [hpl]; exact hdl)) (ifSome.mk (v:=.int y) (by rw [hpl]; exact hy) ?_))
      refine ifSome.mk (hw' _) (ifSome.mk (v:=1) rfl (ifSome.mk (v:=.int b) rfl ⟨hmy.2,?_⟩))
      refine ⟨⟨⟨Nat.le_refl _,Option.some_ne_none _⟩,Option.some_ne_none _⟩,?_⟩
      refine ifSome.mk (ag _ _ _) (ifSome.mk (v:=(pre.map V.int).length+1) (aF (by simp)) ?_)
      rw [bk,gb]
      refine hk _ _ ⟨dn++[y],td,pre++[c+y*a],0+y*b,_,_,by rw [hr]; simp,by rw [List.length_append]; rfl,rfl,by rw [List.map_append,List.append_assoc]; rfl,by rw [List.length_append,List.length_append,hp]; rfl,?_⟩
      rw [Int.zero_add,List.append_assoc]; exact hmm
  · intro ρ H' zr9; refine fQ (zr9) fun dn td pre c o o' hr hx zq17 zq18 hp hmm=>?_; subst zq17; subst zq18
    cases td with
    | cons y td=>rw [bN] at hx; cases hx
    | nil =>
      refine hQ _ _ (ah _ _) (Nat.le_refl _) ?_
      rw [ag,← hmm]
      show _=some ((pre++[c]).map V.int); rw [List.map_append]; simp
noncomputable def uK (by_:Nat):PS:=(.seq (.ite (.cmp .lt (.var 6) (.var 4)) (.seq (.assign 5 (.call by_ (.cons (.var 5) (.cons (.lst (.cons (.bin .mul (.idx (.var 1) (.cint 0)) (.idx (.var 2) (.cint 1))) (.cons (.bin .mul (.idx (.var 2) (.cint 0)) (.idx (.var 1) (.cint 1))) .nil))) .nil))))
 .skip) (.seq (.assign 5 (.call by_ (.cons (.var 5) (.cons (.lst (.cons (.bin .mul (.idx (.var 1) (.cint 1)) (.idx (.var 2) (.cint 1))) (.cons (.bin .mul (.idx (.var 1) (.cint 1)) (.idx (.var 2) (.cint 1))) .nil))) .nil))))
 .skip))
 .skip)
noncomputable def sT:PE:=(.comp (.bin .add (.idx (.var 1) (.var 0)) (.idx (.var 2) (.var 0))) 1 [3,5] (.rng (.cons (.bi .len (.cons (.var 0) .nil)) .nil)) .no)
noncomputable def uv (by_:Nat):PS:=(.seq (.assign 5 (.lst (.cons (.idx (.var 0) (.var 4)) .nil)))
 (.seq (.forr 6 (.rng (.cons (.bin .sub (.bi .len (.cons (.var 0) .nil)) (.cint 1)) .nil)) (uK by_))
 (.seq (.assign 3 sT) .skip)))
noncomputable def wJ:PE:=(.comp (.cint 0) 1 [] (.seq (.var 0)) .no)
noncomputable def kX (by_:Nat):PS:=(.seq (.assign 3 wJ)
 (.seq (.forr 4 (.rng (.cons (.bi .len (.cons (.var 0) .nil)) .nil)) (uv by_))
 (.seq (.ret (.var 3)) .skip)))
theorem By {ρ:Loc} {i j r:Nat} {Φ:Call} {xs ys:List Int} {zs:List V} (h0:af ρ 0=some (.lst r)) (h3:af ρ 3=some (.lst i)) (h5:af ρ 5=some (.lst j)) (hr:H[r]?=some zs) (hi:H[i]?=some (xs.map .int)) (hj:H[j]?=some (ys.map .int))
    (hz:zs.length=xs.length) (hl:xs.length=ys.length) (hn:xs.length≤1000) (hQ:Q (.lst H.length) (H++[(addL xs ys).map .int])) :
    wpE sub Φ sT ρ H Q:=by
  dsimp only [sT,qE5,qE8,br,aY,dH,qI3,aC,aD]
  refine ifSome.mk h0 ?_
  dsimp only [c7]
  refine ifSome.mk hr ?_
  rw [hz]
  refine mr (aB (by (exact om [xs.length] [] [] (.il (.g (.n 1000000)) (.c Y0)) [[1]] rfl)) (by (exact om [xs.length] [] [(.le Y0 (.n 1000))] (.il (.c Y0) (.n 1000000)) [[1,1]] rfl hn))) ⟨by rw [List.length_map,List.length_range']; unfold lim; (exact lin [zs.length,xs.length,ys.length] [(1,Y1,(.n 1000))] Y1 (.n 1000000) rfl hn),?_⟩
  rw [Int.toNat_natCast]
  refine eV (g:=fun i=>V.int (xs.getD i 0+ys.getD i 0)) ?_ ?_
  · intro t ht k hk
    rw [Nat.zero_add] at ht
    have ht':t < ys.length:=hl ▸ ht
    dsimp only [cD,qO1,ac,List.cons_append,List.nil_append]
    have em:List.map (af ρ) [3,5]=[some (.lst i),some (.lst j)]:=by
      show [af ρ 3,af ρ 5]=_
      rw [h3,h5]
    rw [em,if_pos rfl]
    dsimp only [af,ac,cy]
    refine ifSome.mk hi (ifSome.mk (aF (k:=t) (by rw [List.length_map]; exact ht)) (ifSome.mk (v:=.int (xs.getD t 0)) ?_ ?_))
    · rw [List.getElem?_map,List.getElem?_eq_getElem ht,List.getD_eq_getElem?_getD,List.getElem?_eq_getElem ht]; rfl
    refine ifSome.mk hj (ifSome.mk (aF (k:=t) (by rw [List.length_map]; exact ht')) (ifSome.mk (v:=.int (ys.getD t 0)) ?_ hk))
    · rw [List.getElem?_map,List.getElem?_eq_getElem ht',List.getD_eq_getElem?_getD,List.getElem?_eq_getElem ht']; rfl
  · rw [mF (f:=fun x y=>x+y) hl]; exact hQ
theorem zF {by_:Nat} (e:P[f]?=some ⟨3,7,kX by_⟩) (eb:P[by_]?=some ⟨2,5,bBy⟩) {m:Nat} {row:List Int} {p1 q1 p2 q2:Int} {K L:Nat} (hm:H[m]?=some (row.map .int)) (hl:row.length≤900)
    (hr:AllSm K row) (hb:Sm L (p1*q2)) (he:Sm L (p2*q1)) (hs:Sm L (q1*q2)) (m1:IntMulOk p1 q2) (m2:IntMulOk p2 q1) (m3:IntMulOk q1 q2) (hB:K+L+2+row.length*(L+2)≤1000000)
    (hQ:∀ H' k,H<+:H'→H'[k]?=some ((Mine.hs (p1*q2) (p2*q1) (q1*q2) row).map .int)→Q (.lst k) H'):aj sub P (n+2) f [.lst m,.tup [.int p1,.int q1],.tup [.int p2,.int q2]] H Q X:=by
  refine ai e rfl ?_
  generalize eb':p1*q2=b at *
  generalize ee:p2*q1=e' at *
  generalize es:q1*q2=s at *
  dsimp only [kX,wJ,qS1,qS2,qS3,qS9,b5,qE1,qE5,br,dH,aC,aD,qO1,qI1,qI3,c7,d5,cD,az,aA,ax,aw,aP,ay,aq,bu,ac,af,au,Nat.reduceSub]
  refine ifSome.mk hm ⟨by rw [List.length_map]; unfold lim; (exact lin [row.length] [(1,Y0,(.n 900))] Y0 (.n 1000000) rfl hl),?_⟩
  refine gV (g:=fun _=>V.int 0) (fun x hx k hk=>hk) ?_
  refine ifSome.mk (ao (ah _ _) hm) ?_
  rw [List.length_map]
  refine mr (iQ hl) ?_
  rw [Int.toNat_natCast]
  refine bl (fun rest ρ H'=>∃ dn td kf acc o o1 o2,row=dn++td∧rest=(List.range' dn.length td.length).map (fun (i:Nat)=>V.int (i:Int))∧ρ=[some (.lst m),some (.tup [.int p1,.int q1]),some (.tup [.int p2,.int q2]),some (.lst kf),o,o1,o2] ∧
    H<+:H'∧H'[kf]?=some ((acc:List Int).map .int)∧acc.length=row.length∧addL acc (ls b e' s dn.length td)=ls b e' s 0 row) ?_ ?_ _ _ _ ⟨[],row,H.length,ch row.length,_,_,_,rfl,rfl,rfl,ah _ _,?_,?_,?_⟩
  · rintro x xs ρ H' k ⟨dn,td,kf,acc,o,o1,o2,hr1,hx,rfl,hpre,hf,hacc,hsum⟩ hk
    cases td with
    | nil=>cases hx
    | cons c td =>
      rw [bN] at hx
      cases hx
      have hy:(row.map V.int)[dn.length]?=some (.int c):=by rw [hr1,List.map_append,List.map_cons]; have:=ag (dn.map V.int) (V.int c) (td.map V.int); rwa [List.length_map] at this
      have hdl:dn.length < (row.map V.int).length:=by rw [hr1]; simp
      have hrl:row.length=dn.length+td.length+1:=by rw [hr1,List.length_append,List.length_cons]; rfl
      have hc:Sm K c:=hr c (by rw [hr1]; simp)
      have hL:L≤1048576:=Dy hB
      dsimp only [uv,qS1,qS2,qS3,b5,qE1,qE5,qE8,br,aY,cY,aC,aD,qI3,cM,c7,cy,ac,af,au]
      refine ifSome.mk (ao hpre hm) (ifSome.mk (aF (k:=dn.length) hdl) (ifSome.mk hy ?_))
      have hp1:H<+:H'++[[V.int c]]:=ae hpre (ah _ _)
      refine ifSome.mk (ao hp1 hm) ?_
      rw [List.length_map,hrl,show (((dn.length+td.length+1:Nat):Int) - 1)=((dn.length+td.length:Nat):Int) from xW]
      refine mr (iQ (Nat.le_trans (Nat.le_succ _) (Nat.le_trans (Nat.le_of_eq hrl.symm) hl))) ?_
      rw [Int.toNat_natCast]
      refine bl (fun rest ρ H2=>∃ j t kd o3,j+t=dn.length+td.length∧rest=(List.range' j t).map (fun (i:Nat)=>V.int (i:Int))∧ρ=[some (.lst m),some (.tup [.int p1,.int q1]),some (.tup [.int p2,.int q2]),some (.lst kf),some (.int (dn.length:Int)),some (.lst kd),o3] ∧
        H'<+:H2∧H2[kd]?=some ((mulN s s (j - dn.length) (mulN b e' (min j dn.length) [c])).map .int)) ?_ ?_ _ _ _ ⟨0,dn.length+td.length,H'.length,_,Nat.zero_add _,rfl,rfl,ah _ _,?_⟩
      · rintro x2 xs2 ρ2 H2 k2 ⟨j,t,kd,o3,hjt,hx2,rfl,hpre2,hd⟩ hk2
        cases t with
        | zero=>cases hx2
        | succ t =>
          rw [List.range'_succ] at hx2
          cases hx2
          have hAll:AllSm (K+j*(L+1)) (mulN s s (j - dn.length) (mulN b e' (min j dn.length) [c])):=by
            refine (AllSm.mulN hs hs (AllSm.mulN hb he (.cons hc .nil))).mono ?_
            rw [Nat.add_assoc,← Nat.add_mul,zh]
            exact Nat.le_refl _
          have hjr:j≤row.length:=by clear hB hAll; (exact lin [acc.length,row.length,dn.length,td.length,j,t] [(1,(.a (.a Y2 Y3) (.n 1)),Y1),(1,(.a Y4 (.a Y5 (.n 1))),(.a Y2 Y3))] Y4 Y1 rfl (Nat.le_of_eq (hrl).symm) (Nat.le_of_eq hjt))
          have hjb:j*(L+1)≤row.length*(L+2):=Nat.mul_le_mul hjr (Nat.le_succ _)
          have hK:K+j*(L+1)≤1048576:=DH hjb hB
          have hlen:(mulN s s (j - dn.length) (mulN b e' (min j dn.length) [c])).length≤1000:=by
            rw [bF,bF,List.length_singleton]; exact zC hjr hl
          dsimp only [uK,qS1,qS2,qS3,bj,qE1,qE5,qE8,bh,aO,aY,cY,aC,aD,cx,fY,cq,cr,aZ,ac,af,au]
          by_cases hj:j < dn.length
          · rw [decide_eq_true (Int.ofNat_lt.mpr hj)]
            refine ⟨m1,m2,?_⟩
            rw [eb',ee]
            refine Dh eb (ao (ah _ _) hd) (ag _ _ _) hlen ?_ fun H3 kd' hp3 _ hd3=>?_
            · intro y hy'
              exact ⟨IntMulOk.sm (hAll y hy') hb hK hL,IntMulOk.sm (hAll y hy') he hK hL⟩
            refine hk2 _ _ ⟨j+1,t,kd',_,(Nat.succ_add_eq_add_succ j t).trans hjt,rfl,rfl,ae hpre2 (ae (ah _ _) hp3),?_⟩
            rw [hd3,Nat.sub_eq_zero_of_le (Nat.le_of_lt hj),Nat.sub_eq_zero_of_le hj,Nat.min_eq_left (Nat.le_of_lt hj),Nat.min_eq_left hj]
            rfl
          · rw [decide_eq_false (fun h=>hj (Int.ofNat_lt.mp h))]
            refine ⟨m3,m3,?_⟩
            rw [es]
            refine Dh eb (ao (ah _ _) hd) (ag _ _ _) hlen ?_ fun H3 kd' hp3 _ hd3=>?_
            · intro y hy'
              have:=IntMulOk.sm (hAll y hy') hs hK hL; exact ⟨this,this⟩
            refine hk2 _ _ ⟨j+1,t,kd',_,(Nat.succ_add_eq_add_succ j t).trans hjt,rfl,rfl,ae hpre2 (ae (ah _ _) hp3),?_⟩
            have hj':=Nat.not_lt.mp hj
            rw [hd3,Nat.succ_sub hj',Nat.min_eq_right hj',Nat.min_eq_right (Nat.le_succ_of_le hj')]
            rfl
      · intro ρ2 H2 zr10; refine d4 (zr10) fun j t kd o3 hjt hx2 zq16 hpre2 hd=>?_; subst zq16
        cases t with
        | succ t=>rw [List.range'_succ] at hx2; cases hx2
        | zero =>
          have hj:j=dn.length+td.length:=hjt
          subst hj
          rw [Nat.add_sub_cancel_left,Nat.min_eq_right (Nat.le_add_right _ _)] at hd
          have hlx:acc.length=(mulN s s td.length (mulN b e' dn.length [c])).length:=by rw [bF,bF,List.length_singleton,hacc,hrl,Nat.add_assoc,Nat.add_comm,Nat.add_assoc,Nat.add_comm td.length,Nat.add_comm]
          refine By rfl rfl rfl (ao (ae hpre hpre2) hm) (ao hpre2 hf) hd ?_ ?_ ?_ ?_
          · rw [List.length_map,hacc]
          · exact hlx
          · exact Nat.le_trans (Nat.le_of_eq hacc) (Nat.le_trans hl (by decide))
          refine hk _ _ ⟨dn++[c],td,_,_,_,_,_,by rw [hr1,List.append_assoc]; rfl,by rw [List.length_append]; rfl,rfl,ae hpre (ae hpre2 (ah _ _)),ag _ _ _,?_,?_⟩
          · rw [gZ hlx,hacc]
          · rw [← hsum,lZ,List.length_append]; rfl
      · rw [ag,Nat.zero_sub,Nat.zero_min]; rfl
  · intro ρ H' zr11; refine ja (zr11) fun dn td kf acc o o1 o2 hr1 hx zq24 hpre hf hacc hsum=>?_; subst zq24
    cases td with
    | cons y td=>rw [bN] at hx; cases hx
    | nil =>
      rw [List.append_nil] at hr1
      subst hr1
      refine hQ _ _ hpre ?_
      rw [← wK,← hsum,hf]
      show _=some ((addL acc (ch row.length)).map V.int)
      rw [← hacc,mJ,iZ]
  · rw [ag,ch,List.map_replicate,List.map_map]; congr 1; exact List.map_const' ..
  · rw [ch,List.length_replicate]
  · have:=@iZ (ls b e' s 0 row)
    rw [wK,fS] at this
    show addL (ch row.length) (ls b e' s 0 row)=_
    rw [wK]; exact this
noncomputable def ur:PS:=(.seq (.ite (.cmp .lt (.bin .mul (.var 5) (.var 4)) (.cint 0)) (.seq (.assign 3 (.bin .add (.var 3) (.cint 1)))
 .skip) .skip)
 (.seq (.ite (.cmp .ne (.var 5) (.cint 0)) (.seq (.assign 4 (.var 5)) .skip) .skip) .skip))
noncomputable def jZ (se:Nat):PS:=(.seq (.assign 3 (.cint 0))
 (.seq (.assign 4 (.cint 0))
 (.seq (.forr 5 (.seq (.call se (.cons (.var 0) (.cons (.var 1) (.cons (.var 2) .nil))))) ur)
 (.seq (.ret (.var 3)) .skip))))
theorem ye {se by_:Nat} (e0:P[f]?=some ⟨3,6,jZ se⟩) (e:P[se]?=some ⟨3,7,kX by_⟩) (eb:P[by_]?=some ⟨2,5,bBy⟩) {m:Nat} {row:List Int} {p1 q1 p2 q2:Int} {K L:Nat} (hm:H[m]?=some (row.map .int)) (hl:row.length≤900)
    (hr:AllSm K row) (hb:Sm L (p1*q2)) (he:Sm L (p2*q1)) (hs:Sm L (q1*q2)) (m1:IntMulOk p1 q2) (m2:IntMulOk p2 q1) (m3:IntMulOk q1 q2) (hB:K+L+2+row.length*(L+2)≤1000000)
    (hQ:∀ H',H<+:H'→Q (.int (tv 0 (Mine.hs (p1*q2) (p2*q1) (q1*q2) row))) H'):aj sub P (n+3) f [.lst m,.tup [.int p1,.int q1],.tup [.int p2,.int q2]] H Q X:=by
  refine ai e0 rfl ?_
  dsimp only [jZ,qS1,qS2,qS3,qS9,b5,qE1,qE5,aO,aC,aD,qI1,az,aA,ax,aw,aP,ay,aq,ac,af,au,Nat.reduceSub]
  refine zF e eb hm hl hr hb he hs m1 m2 m3 hB fun H1 k hp hk=>?_
  have hA:=AllSm.hs hb he hs hr
  revert hA hQ hk
  generalize Mine.hs (p1*q2) (p2*q1) (q1*q2) row=xs
  intro hQ hk hA
  refine ifSome.mk hk ?_
  refine bl (fun rest ρ H'=>∃ td many ahead o,rest=(td:List Int).map V.int∧ρ=[some (.lst m),some (.tup [.int p1,.int q1]),some (.tup [.int p2,.int q2]),some (.int many),some (.int ahead),o]∧H'=H1∧many+tv ahead td=tv 0 xs∧AllSm 1000000 td∧Sm 1000000 ahead) ?_ ?_ _ _ _ ⟨xs,0,0,_,rfl,rfl,rfl,Int.zero_add _,hA.mono (by (exact lin [K,L,row.length*(L+2)] [(1,(.a (.a (.a Y0 Y1) (.n 2)) Y2),(.n 1000000))] (.a (.a Y0 (.n 2)) Y2) (.n 1000000) rfl hB)),Sm.zero⟩
  · rintro x rest ρ H' k' ⟨td,many,ahead,o,hx,rfl,rfl,hmm,ha,hah⟩ hk'
    cases td with
    | nil=>cases hx
    | cons y td =>
      cases hx
      dsimp only [ur,qS1,qS2,qS3,bj,qE1,qE5,qE8,bh,cw,cx,fY,qC,aZ,n6,ac,af,au]
      refine ⟨IntMulOk.sm ha.hd hah (by decide) (by decide),?_⟩
      rw [Int.mul_comm]
      have key:∀ many':Int,many'=many+(if ahead*y < 0 then 1 else 0)→k' [some (.lst m),some (.tup [.int p1,.int q1]),some (.tup [.int p2,.int q2]),some (.int many'),some (.int (if y=0 then ahead else y)),some (.int y)] H':=fun many' h=>by
        refine hk' _ _ ⟨td,many',_,_,rfl,rfl,rfl,?_,ha.tl,?_⟩
        · rw [h,← hmm,kR,Int.add_assoc]
        · split
          · exact hah
          · exact ha.hd
      by_cases hc:ahead*y < 0
      · rw [decide_eq_true hc]
        rw [if_pos hc] at key
        by_cases hy:y=0
        · rw [decide_eq_true hy]; rw [if_pos hy] at key; exact key _ rfl
        · rw [decide_eq_false hy]; rw [if_neg hy] at key; exact key _ rfl
      · rw [decide_eq_false hc]
        rw [if_neg hc] at key
        by_cases hy:y=0
        · rw [decide_eq_true hy]; rw [if_pos hy] at key; exact key _ (Int.add_zero _).symm
        · rw [decide_eq_false hy]; rw [if_neg hy] at key; exact key _ (Int.add_zero _).symm
  · intro ρ H' zr12; refine hO (zr12) fun td many ahead o hx zq14 zq15 hmm ha hah=>?_; subst zq14; subst zq15
    cases td with
    | cons y td=>cases hx
    | nil =>
      rw [AE,Int.add_zero] at hmm
      subst hmm
      exact hQ _ hp
end
end Mine
set_option maxRecDepth 100000
namespace Mine
open PySem
section
variable {sub:Nat→Nat→Bool} {P:List Fn} {f n ce pa dv:Nat} {H:Hp} {Q:V→Hp→Prop} {X:Nat→Hp→Prop}
structure Low (k:Nat) (p q:Int):Prop where
  top:Sm k p
  bot:Sm k q
  pos:0 < q
  one:p.gcd q=1
theorem xt {k:Nat} {a b p q:Int} (ha:Sm k a) (hb:Sm k b) (h0:0 < b) (e1:p*(a.gcd b:Nat)=a) (e2:q*(a.gcd b:Nat)=b):Low k p q:=by
  have hg:0 < a.gcd b:=Int.gcd_pos_of_ne_zero_right a (Int.ne_of_gt h0)
  have hg':(0:Int) < (a.gcd b:Nat):=Int.natCast_pos.mpr hg
  refine ⟨?_,?_,?_,?_⟩
  · refine Nat.lt_of_le_of_lt ?_ ha
    rw [show a.natAbs=(p*(a.gcd b:Nat)).natAbs by rw [e1],Int.natAbs_mul,Int.natAbs_natCast]; exact Nat.le_mul_of_pos_right _ hg
  · refine Nat.lt_of_le_of_lt ?_ hb
    rw [show b.natAbs=(q*(a.gcd b:Nat)).natAbs by rw [e2],Int.natAbs_mul,Int.natAbs_natCast]; exact Nat.le_mul_of_pos_right _ hg
  · exact Int.pos_of_mul_pos_left (by rw [e2]; exact h0) hg'
  · have h:p.gcd q*a.gcd b=1*a.gcd b:=by
      have:=Int.gcd_mul_right p (a.gcd b:Nat) q
      rw [e1,e2,Int.natAbs_natCast] at this
      rw [← this,Nat.one_mul]
    exact Nat.eq_of_mul_eq_mul_right hg h
end
end Mine
set_option maxRecDepth 100000
namespace Mine
open PySem
theorem u8 {H:Hp} {a b c d:Int} {Q:Bool→Prop} (h:Q (decide (a=c∧b=d))):oO (.tup [.int a,.int b]) (.tup [.int c,.int d]) H Q:=by
  refine ⟨_,_,.inl ⟨[a,b],rfl,rfl⟩,.inl ⟨[c,d],rfl,rfl⟩,?_⟩
  have e:PyData.eqv (.tuple [.int a,.int b]) (.tuple [.int c,.int d])=decide (a=c∧b=d):=by
    rw [PyData.eqv]
    have:=fK [a,b] [c,d]
    rw [List.map_cons,List.map_cons,List.map_nil] at this
    rw [show PyData.eqvAll [.int a,.int b] [.int c,.int d]=decide ([a,b]=[c,d]) from this]
    simp
  show Q (PyData.eqv (.tuple [.int a,.int b]) (.tuple [.int c,.int d]))
  rw [e]; exact h
noncomputable def bB:List Int→Nat→Nat
  | [],g=>g
  | x :: r,g=>bB r (Nat.gcd g x.natAbs)
theorem ig:∀ (r:List Int) (g:Nat),bB r g ∣ g∧∀ x∈r,bB r g ∣ x.natAbs
  | [],g=>⟨Nat.dvd_refl _,fun x hx=>nomatch hx⟩
  | y :: r,g=>by
    obtain ⟨h1,h2⟩:=ig r (Nat.gcd g y.natAbs)
    refine ⟨Nat.dvd_trans h1 (Nat.gcd_dvd_left _ _),fun x hx=>?_⟩
    rcases List.mem_cons.mp hx with rfl | hx
    · exact Nat.dvd_trans h1 (Nat.gcd_dvd_right _ _)
    · exact h2 x hx
theorem kA (c:Nat):∀ (r:List Int) (s:Int) (g:Nat),s.natAbs=c→bB (r.map fun x=>x*s) (g*c)=bB r g*c
  | [],s,g,_=>rfl
  | x :: r,s,g,h=>by
    show bB (r.map fun x=>x*s) (Nat.gcd (g*c) (x*s).natAbs)=_
    rw [Int.natAbs_mul,h,Nat.gcd_mul_right,kA c r s _ h]; rfl
noncomputable def gOf (r:List Int) (l:Int):Int:=if l < 0 then -(bB r 0:Int) else (bB r 0:Int)
noncomputable def cn (r:List Int) (l:Int):List Int:=r.map fun x=>x.fdiv (gOf r l)
theorem j6 {r:List Int} {l:Int}:(gOf r l).natAbs=bB r 0:=by unfold gOf; split <;> omega
theorem fD {r:List Int} {l:Int} (hl:l∈r) (h0:l≠0):0 < bB r 0:=Nat.pos_of_dvd_of_pos ((ig r 0).2 l hl) (Int.natAbs_pos.mpr h0)
theorem ej {r:List Int} {l:Int} (hl:l∈r) (h0:l≠0):gOf r l≠0:=by
  have:=fD hl h0
  have h:=@j6 r l
  intro e; rw [e] at h; simp at h; (exact om [bB r 0] [] [(.le (.a (.n 0) (.n 1)) Y0),(.eq (.n 0) Y0)] .ff [[1,0,1]] rfl this h)
theorem nF {r:List Int} {l x:Int} (hx:x∈r):gOf r l ∣ x:=Int.natAbs_dvd_natAbs.mp (by rw [j6]; exact (ig r 0).2 x hx)
theorem pT {r:List Int} {l:Int}:(cn r l).map (fun x=>x*gOf r l)=r:=by
  unfold cn
  rw [List.map_map]
  conv=>rhs; rw [← List.map_id r]
  apply List.map_congr_left
  intro x hx
  exact Int.fdiv_mul_cancel (nF hx)
theorem fH {r:List Int} {l:Int}:(cn r l).length=r.length:=List.length_map ..
theorem dM {r:List Int} {l:Int} (hl:l∈r) (h0:l≠0):bB (cn r l) 0=1:=by
  have h:=kA (gOf r l).natAbs (cn r l) (gOf r l) 0 rfl
  rw [pT,Nat.zero_mul,j6] at h
  exact (Nat.eq_of_mul_eq_mul_right (fD hl h0) (by rw [Nat.one_mul]; exact h)).symm
theorem cP {r:List Int} {l:Int} (hl:l∈r) (h0:l≠0):0 < l.fdiv (gOf r l):=by
  have hg:=fD hl h0
  have e:=Int.fdiv_mul_cancel (nF (l:=l) hl)
  by_cases h:l < 0
  · have hg0:gOf r l < 0:=by unfold gOf; rw [if_pos h]; (exact om [bB r 0] [] [(.le (.a (.n 0) (.n 1)) Y0)] (.il (.a (.g (.c Y0)) (.n 1)) (.n 0)) [[1,1]] rfl hg)
    exact Int.not_le.mp fun hle=>by
      have:=Int.mul_nonneg_of_nonpos_of_nonpos hle (Int.le_of_lt hg0)
      rw [e] at this; (exact om [] [l] [(.il (.a Y0 (.n 1)) (.n 0)),(.il (.n 0) Y0)] .ff [[1,1]] rfl h this)
  · have hg0:0 < gOf r l:=by unfold gOf; rw [if_neg h]; (exact om [bB r 0] [] [(.le (.a (.n 0) (.n 1)) Y0)] (.il (.a (.n 0) (.n 1)) (.c Y0)) [[1,1]] rfl hg)
    exact Int.pos_of_mul_pos_left (by rw [e]; (exact om [] [l] [(.no (.il (.a Y0 (.n 1)) (.n 0))),(.no (.ie Y0 (.n 0)))] (.il (.a (.n 0) (.n 1)) Y0) [[0,1,1],[1,0,1]] rfl h h0)) hg0
theorem vZ {r:List Int} {l:Int} (h:bB r 0=1) (hl:0 < l):cn r l=r:=by
  have hg:gOf r l=1:=by unfold gOf; rw [if_neg (by (exact om [] [l] [(.il (.a (.n 0) (.n 1)) Y0)] (.no (.il (.a Y0 (.n 1)) (.n 0))) [[1,1]] rfl hl)),h]; rfl
  unfold cn
  rw [hg]
  conv=>rhs; rw [← List.map_id r]
  apply List.map_congr_left
  intro x _
  exact Int.fdiv_one x
theorem iu {r:List Int} {l:Int} {k:Nat} (hl:l∈r) (h0:l≠0) (h:AllSm k r):AllSm k (cn r l):=fun x hx=>by
  refine ad (List.mem_map.mp hx) fun y hy zq109=>?_; subst zq109
  refine Nat.lt_of_le_of_lt ?_ (h y hy)
  have e:=Int.fdiv_mul_cancel (nF (l:=l) hy)
  have:=fD hl h0
  rw [show y.natAbs=(y.fdiv (gOf r l)*gOf r l).natAbs by rw [e],Int.natAbs_mul,j6]
  exact Nat.le_mul_of_pos_right _ this
theorem oB {g:Int} {r:List Int}:(r.map fun x=>x*g)=smul g r:=List.map_congr_left fun x _=>Int.mul_comm x g
theorem jv {a b g:Int} (hg:g≠0):(g*a)*(g*b) < 0 ↔ a*b < 0:=by
  have e:(g*a)*(g*b)=(g*g)*(a*b):=by grind
  have hp:0 < g*g:=by
    rcases Int.lt_or_gt_of_ne hg with h | h
    · exact Int.mul_pos_of_neg_of_neg h h
    · exact Int.mul_pos h h
  rw [e]
  constructor
  · intro h; exact Int.not_le.mp fun hle=>by have:=Int.mul_nonneg (Int.le_of_lt hp) hle; (exact om [] [g*g*(a*b)] [(.il (.a Y0 (.n 1)) (.n 0)),(.il (.n 0) Y0)] .ff [[1,1]] rfl h this)
  · intro h; exact Int.mul_neg_of_pos_of_neg hp h
theorem t9 {g:Int} (hg:g≠0):∀ (r:List Int) (l:Int),tv (g*l) (smul g r)=tv l r
  | [],_=>rfl
  | x :: r,l=>by
    show (if (g*l)*(g*x) < 0 then 1 else 0)+tv (if g*x=0 then g*l else g*x) (smul g r)=(if l*x < 0 then 1 else 0)+tv (if x=0 then l else x) r
    have h0:(g*x=0) ↔ x=0:=⟨fun h=>(Int.mul_eq_zero.mp h).resolve_left hg,fun h=>by rw [h,Int.mul_zero]⟩
    have e2:(if g*x=0 then g*l else g*x)=g*(if x=0 then l else x):=by
      by_cases hx:x=0
      · rw [if_pos hx,if_pos (h0.mpr hx)]
      · rw [if_neg hx,if_neg (fun h=>hx (h0.mp h))]
    rw [e2,t9 hg r]
    by_cases hc:l*x < 0
    · rw [if_pos hc,if_pos ((jv hg).mpr hc)]
    · rw [if_neg hc,if_neg (fun h=>hc ((jv hg).mp h))]
theorem sgn_zero {x:Int}:sgn x=0 ↔ x=0:=by
  unfold sgn
  constructor
  · intro h
    by_cases h1:x < 0
    · rw [if_pos h1] at h; (exact om [] [x] [(.ie (.g (.n 1)) (.n 0))] (.ie Y0 (.n 0)) [[0,0,1]] rfl h)
    · rw [if_neg h1] at h
      by_cases h2:0 < x
      · rw [if_pos h2] at h; (exact om [] [x] [(.ie (.n 1) (.n 0))] (.ie Y0 (.n 0)) [[0,1]] rfl h)
      · (exact om [] [x] [(.no (.il (.a Y0 (.n 1)) (.n 0))),(.no (.il (.a (.n 0) (.n 1)) Y0))] (.ie Y0 (.n 0)) [[1,1],[1,0,1]] rfl h1 h2)
  · intro h; subst h; rfl
section
variable {sub:Nat→Nat→Bool} {P:List Fn} {f n dv pa:Nat} {H:Hp} {Q:V→Hp→Prop} {X:Nat→Hp→Prop}
noncomputable def bW:PS:=(.seq (.assign 0 (.bi .abs (.cons (.var 0) .nil)))
 (.seq (.assign 1 (.bi .abs (.cons (.var 1) .nil)))
 (.seq (.whl (.cmp .gt (.var 1) (.cint 0)) (.seq (.assign 2 (.bin .mod (.var 0) (.var 1))) (.seq (.assign 0 (.var 1)) (.seq (.assign 1 (.var 2)) .skip))))
 (.seq (.ret (.var 0)) .skip))))
theorem jr (e:P[f]?=some ⟨2,3,bW⟩) {a b:Int} (hQ:Q (.int (a.gcd b:Nat)) H):aj sub P (n+1) f [.int a,.int b] H Q X:=by
  refine ai e rfl ?_
  dsimp only [bW,qS1,qS2,qS3,qS9,dy,qE1,qE5,qE8,bh,br,aC,aD,AG,az,aA,ax,aw,aP,ay,aq,ac,af,au,Nat.reduceSub]
  have ha:∀ x:Int,(if x < 0 then -x else x)=(x.natAbs:Int):=fun x=>by split <;> (clear e hQ; omega)
  rw [ha,ha]
  refine ⟨fun ρ H'=>∃ x y:Nat,∃ o,ρ=[some (.int x),some (.int y),o]∧H'=H∧x.gcd y=a.gcd b,fun ρ _=>AA ρ 1,⟨a.natAbs,b.natAbs,_,rfl,rfl,rfl⟩,?_⟩
  intro ρ H' zr14; refine dQ (zr14) fun x y o zq23 zq24 hg=>?_; subst zq23; subst zq24
  dsimp only [w7,li,aZ,ac,af,au]
  by_cases hy:y=0
  · subst hy
    rw [Nat.gcd_zero_right] at hg
    subst hg
    exact hQ
  · have h0:(0:Int) < (y:Int):=Int.natCast_pos.mpr (Nat.pos_of_ne_zero hy)
    rw [decide_eq_true h0]
    refine ⟨Int.ne_of_gt h0,⟨y,x % y,some (.int ((x:Int).fmod (y:Int))),?_,rfl,?_⟩,fN (Int.ne_of_gt h0)⟩
    · rw [show ((x % y:Nat):Int)=(x:Int).fmod (y:Int) by rw [Int.fmod_eq_emod_of_nonneg _ (Int.le_of_lt h0)]; rfl]
    · rw [← hg,Nat.gcd_comm x y,Nat.gcd_rec y x,Nat.gcd_comm]
noncomputable def bL (dv:Nat):PS:=(.seq (.ite (.cmp .eq (.var 1) (.cint 0)) (.seq (.raise 1) .skip) .skip)
 (.seq (.assign 2 (.call dv (.cons (.var 0) (.cons (.var 1) .nil))))
 (.seq (.ite (.cmp .lt (.var 1) (.cint 0)) (.seq (.assign 2 (.neg (.var 2))) .skip) .skip)
 (.seq (.ret (.tup (.cons (.bin .fdiv (.var 0) (.var 2)) (.cons (.bin .fdiv (.var 1) (.var 2)) .nil)))) .skip))))
noncomputable def e9:PS:=(.seq (.ret (.cmp .lt (.bin .mul (.idx (.var 0) (.cint 0)) (.idx (.var 1) (.cint 1))) (.bin .mul (.idx (.var 1) (.cint 0)) (.idx (.var 0) (.cint 1))))) .skip)
theorem oo (e:P[f]?=some ⟨2,2,e9⟩) {p1 q1 p2 q2:Int} (m1:IntMulOk p1 q2) (m2:IntMulOk p2 q1) (hQ:Q (.bool (decide (p1*q2 < p2*q1))) H):aj sub P (n+1) f [.tup [.int p1,.int q1],.tup [.int p2,.int q2]] H Q X:=by
  refine ai e rfl ?_
  dsimp only [e9,qS1,qS2,qS9,qE1,qE5,qE8,bh,aY,cx,fY,cq,cr,az,aA,ax,aw,ay,aq,ac,af,Nat.reduceSub]
  exact ⟨m1,m2,hQ⟩
noncomputable def eK (pa:Nat):PS:=(.seq (.ret (.call pa (.cons (.bin .add (.bin .mul (.idx (.var 0) (.cint 0)) (.idx (.var 1) (.cint 1))) (.bin .mul (.idx (.var 1) (.cint 0)) (.idx (.var 0) (.cint 1)))) (.cons (.bin .mul (.idx (.var 0) (.cint 1)) (.idx (.var 1) (.cint 1))) .nil)))) .skip)
noncomputable def Bf:PS:=(.seq (.assign 2 (.bin .add (.bin .mul (.var 2) (.idx (.var 1) (.cint 0))) (.bin .mul (.var 4) (.var 3))))
 (.seq (.assign 3 (.bin .mul (.var 3) (.idx (.var 1) (.cint 1)))) .skip))
noncomputable def kT:PS:=(.seq (.assign 2 (.cint 0))
 (.seq (.assign 3 (.cint 1))
 (.seq (.forr 4 (.rev (.var 0)) Bf)
 (.seq (.ite (.cmp .lt (.var 2) (.cint 0)) (.seq (.ret (.neg (.cint 1))) .skip) .skip)
 (.seq (.ret (.bi .int (.cons (.cmp .gt (.var 2) (.cint 0)) .nil))) .skip)))))
theorem pA {k l:Nat} {p q:Int} (hp:Sm l p) (hq:Sm l q):∀ {r:List Int},AllSm k r→Sm (k+1+r.length*(l+2)) (aW p q r)
  | [],_=>Sm.zero
  | c :: r,h=>by
    have h1:=(pA hp hq h.tl).mul hp
    have h2:=h.hd.mul (hq.pow r.length)
    have hm:l*r.length≤r.length*(l+2):=by rw [Nat.mul_comm]; exact Nat.mul_le_mul_left _ (by (exact lin [l] [] Y0 (.a Y0 (.n 2)) rfl ))
    refine Sm.mono (Sm.add (h1.mono (Nat.le_max_left _ (k+(l*r.length+1)))) (h2.mono (Nat.le_max_right _ _))) ?_
    rw [List.length_cons,Nat.succ_mul]
    (exact om [max (k+1+r.length*(l+2)+l) (k+(l*r.length+1)),k,r.length*(l+2),l,l*r.length] [] [(.le Y4 Y2),(.or (.an (.le (.a Y1 (.a Y4 (.n 1))) (.a (.a (.a Y1 (.n 1)) Y2) Y3)) (.eq Y0 (.a (.a (.a Y1 (.n 1)) Y2) Y3))) (.an (.le (.a (.a (.a Y1 (.n 1)) Y2) Y3) (.a Y1 (.a Y4 (.n 1)))) (.eq Y0 (.a Y1 (.a Y4 (.n 1))))))] (.le (.a Y0 (.n 1)) (.a (.a Y1 (.n 1)) (.a Y2 (.a Y3 (.n 2))))) [[1,0,0,1],[1,1,0,1]] rfl hm (Mine.jf (k+1+r.length*(l+2)+l) (k+(l*r.length+1))))
theorem oi (e:P[f]?=some ⟨2,5,kT⟩) {v:V} {row:List Int} {p q:Int} {K L:Nat} (hv:items H v=some (row.map .int)) (hr:AllSm K row) (hp:Sm L p) (hq:Sm L q) (hB:K+1+(row.length+1)*(L+2)≤1000000)
    (hQ:Q (.int (sgn (aW p q row))) H):aj sub P (n+1) f [v,.tup [.int p,.int q]] H Q X:=by
  refine ai e rfl ?_
  dsimp only [kT,qS1,qS2,qS3,qS9,bj,b5,qE1,qE5,qE9,bh,br,aC,aD,qI2,az,aA,ax,aw,aP,ay,aq,ac,af,au,Nat.reduceSub]
  refine ifSome.mk hv ?_
  refine bl (fun rest ρ H'=>∃ pre suf o,row=pre++suf∧rest=((pre:List Int).map V.int).reverse∧ρ=[some v,some (.tup [.int p,.int q]),some (.int (aW p q suf)),some (.int (q ^ suf.length)),o]∧H'=H) ?_ ?_ _ _ _ ⟨row,[],none,(List.append_nil _).symm,rfl,by rw [List.length_nil,Int.pow_zero]; rfl,rfl⟩
  · rintro x xs ρ H' k ⟨pre,suf,o,hr1,hx,rfl,rfl⟩ hk
    rcases List.eq_nil_or_concat pre with rfl | ⟨pre',d,rfl⟩
    · cases hx
    rw [List.concat_eq_append] at hr1 hx
    rw [List.map_append,List.reverse_append] at hx
    cases hx
    have hsl:suf.length+1≤row.length:=by rw [hr1,List.length_append,List.length_append,List.length_singleton]; (exact lin [suf.length,pre'.length] [] (.a Y0 (.n 1)) (.a (.a Y1 (.n 1)) Y0) rfl )
    have hsf:AllSm K suf:=fun y hy=>hr y (by rw [hr1]; simp [hy])
    have hdm:Sm K d:=hr d (by rw [hr1]; simp)
    have b1:=pA hp hq hsf
    have b2:=hq.pow suf.length
    have mm:(suf.length+1)*(L+2)≤row.length*(L+2):=Nat.mul_le_mul_right _ hsl
    rw [Nat.succ_mul] at mm hB
    have mm1:L*suf.length≤suf.length*(L+2):=by rw [Nat.mul_comm]; exact Nat.mul_le_mul_left _ (by (exact lin [L] [] Y0 (.a Y0 (.n 2)) rfl ))
    have hL:L≤1048576:=by (exact lin [K,row.length*(L+2),L] [(1,(.a (.a Y0 (.n 1)) (.a Y1 (.a Y2 (.n 2)))),(.n 1000000))] Y2 (.n 1048576) rfl hB)
    have h2:L*suf.length+1≤1048576:=by (exact lin [K,row.length*(L+2),L,suf.length*(L+2),L*suf.length] [(1,(.a (.a Y0 (.n 1)) (.a Y1 (.a Y2 (.n 2)))),(.n 1000000)),(1,(.a Y3 (.a Y2 (.n 2))),Y1),(1,Y4,Y3)] (.a Y4 (.n 1)) (.n 1048576) rfl hB mm mm1)
    dsimp only [Bf,qS1,qS2,qS3,qE1,qE5,qE8,aY,cw,cx,cq,cr,ac,af,au]
    refine ⟨IntMulOk.sm b1 hp (by (exact lin [K,row.length*(L+2),L,suf.length*(L+2)] [(1,(.a (.a Y0 (.n 1)) (.a Y1 (.a Y2 (.n 2)))),(.n 1000000)),(1,(.a Y3 (.a Y2 (.n 2))),Y1)] (.a (.a Y0 (.n 1)) Y3) (.n 1048576) rfl hB mm)) hL,IntMulOk.sm hdm b2 (by (exact lin [K,row.length*(L+2),L] [(1,(.a (.a Y0 (.n 1)) (.a Y1 (.a Y2 (.n 2)))),(.n 1000000))] Y0 (.n 1048576) rfl hB)) h2,IntMulOk.sm b2 hq h2 hL,?_⟩
    refine hk _ _ ⟨pre',d :: suf,some (.int d),by rw [hr1,List.append_assoc]; rfl,rfl,?_,rfl⟩
    rw [ue,List.length_cons,Int.pow_succ]
  · intro ρ H' zr15; refine bv (zr15) fun pre suf o hr1 hx zq21 zq22=>?_; subst zq21; subst zq22
    have hnil:pre=[]:=by
      have:=congrArg List.length hx
      simp at this; exact List.eq_nil_of_length_eq_zero this.symm
    subst hnil
    rw [List.nil_append] at hr1
    subst hr1
    dsimp only [fY,li,kq,aZ,ac,af]
    revert hQ
    generalize aW p q row=z
    intro hQ
    unfold sgn at hQ
    by_cases h1:z < 0
    · rw [if_pos h1] at hQ; rw [decide_eq_true h1]; exact hQ
    · rw [if_neg h1] at hQ; rw [decide_eq_false h1]
      by_cases h2:0 < z
      · rw [if_pos h2] at hQ; rw [decide_eq_true h2]; exact hQ
      · rw [if_neg h2] at hQ; rw [decide_eq_false h2]; exact hQ
noncomputable def BY:PE:=(.comp (.bin .fdiv (.var 0) (.var 1)) 1 [1] (.seq (.var 0)) .no)
noncomputable def Dp (dv:Nat):PS:=(.seq (.assign 1 (.call dv (.cons (.var 1) (.cons (.var 2) .nil)))) .skip)
noncomputable def nH (dv:Nat) (ng:PE):PS:=(.seq (.assign 1 (.cint 0))
 (.seq (.forr 2 (.seq (.var 0)) (Dp dv))
 (.seq (.ite (.cmp .lt (.idx (.var 0) (.neg (.cint 1))) (.cint 0)) (.seq (.assign 1 ng) .skip) .skip)
 (.seq (.ret BY) .skip))))
theorem mP {ng:PE} (hng:∀ (g:Int) (ρ:Loc) (H':Hp) (Z:V→Hp→Prop),af ρ 1=some (.int g)→Z (.int (-g)) H'→wpE sub (aj sub P n) ng ρ H' Z) (e:P[f]?=some ⟨1,3,nH dv ng⟩)
    (ed:∀ (a b:Int) (H':Hp) (Z:V→Hp→Prop) (X':Nat→Hp→Prop),Z (.int (a.gcd b:Nat)) H'→aj sub P n dv [.int a,.int b] H' Z X') {v:V} {row:List Int} {l:Int} (hv:items H v=some (row.map .int)) (hlast:row.getLast?=some l) (h0:l≠0) (hl:row.length≤1000)
    (hQ:Q (.lst H.length) (H++[(cn row l).map .int])):aj sub P (n+1) f [v] H Q X:=by
  have hmem:l∈row:=List.mem_of_getLast? hlast
  refine ai e rfl ?_
  dsimp only [nH,qS1,qS2,qS3,qS9,bj,b5,qE1,qE5,qE9,bh,aY,qI1,az,aA,ax,aw,aP,ay,aq,ac,af,au,Nat.reduceSub]
  refine ifSome.mk hv ?_
  refine bl (fun rest ρ H'=>∃ td g o,rest=(td:List Int).map V.int∧ρ=[some v,some (.int ((g:Nat):Int)),o]∧H'=H∧bB td g=bB row 0) ?_ ?_ _ _ _ ⟨row,0,_,rfl,rfl,rfl,rfl⟩
  · rintro x xs ρ H' k ⟨td,g,o,hx,rfl,rfl,hg⟩ hk
    cases td with
    | nil=>cases hx
    | cons y td =>
      cases hx
      dsimp only [Dp,qS1,qS2,qS3,qE5,aO,aC,aD,ac,af,au]
      refine ed _ _ _ _ _ ?_
      exact hk _ _ ⟨td,Nat.gcd g y.natAbs,_,rfl,rfl,rfl,hg⟩
  · intro ρ H' zr16; refine bv (zr16) fun td g o hx zq19 zq20 hg=>?_; subst zq19; subst zq20
    cases td with
    | cons y td=>cases hx
    | nil =>
      have hg':g=bB row 0:=hg
      have hrl:1≤(row.map V.int).length:=by rw [List.length_map]; exact List.length_pos_of_mem hmem
      have hgp:=fD hmem h0
      have hok:gw (gOf row l):=ej hmem h0
      have key:∀ o',wpE sub (aj sub P n) BY [some v,some (.int (gOf row l)),o'] H' Q:=fun o'=>by
        dsimp only [BY,qE5,qE8,dH,qI1,af,ac]
        refine ifSome.mk hv ⟨by rw [List.length_map]; unfold lim; (exact lin [row.length] [(1,Y0,(.n 1000))] Y0 (.n 1000000) rfl hl),?_⟩
        refine gV (g:=fun x=>match x with | .int y=>V.int (y.fdiv (gOf row l)) | x=>x) (fun x hx k hk=>?_) ?_
        · refine ad (List.mem_map.mp hx) fun y _ zq108=>?_; subst zq108
          exact ⟨hok,hk⟩
        · rw [List.map_map]
          unfold cn at hQ
          rw [List.map_map] at hQ
          exact hQ
      dsimp only [ac,af,au,jm]
      refine ifSome.mk hv (ifSome.mk (ci hrl) (ifSome.mk (v:=.int l) ?_ ?_))
      · rw [List.length_map,List.getElem?_map,← List.getLast?_eq_getElem?,hlast]; rfl
      by_cases hn:l < 0
      · dsimp only [fY,aZ,ac]
        rw [decide_eq_true hn]
        refine hng g _ _ _ rfl ?_
        have:gOf row l=-(g:Int):=by unfold gOf; rw [if_pos hn,hg']
        rw [this] at key
        exact key _
      · dsimp only [fY,aZ,ac]
        rw [decide_eq_false hn]
        have:gOf row l=(g:Int):=by unfold gOf; rw [if_neg hn,hg']
        rw [this] at key
        exact key _
end
end Mine
set_option maxRecDepth 100000
namespace Mine
open PySem
theorem rP (n:Nat):dF ((n:Int) - 1) (-1) (-1)=(List.range n).reverse.map fun (i:Nat)=>(i:Int):=by
  have hsz:(Builtin.Range.rangeSize ((n:Int) - 1) (-1) (-1)).toNat=n:=by
    unfold Builtin.Range.rangeSize
    simp
    first | done | exact om [(if -1 < ↑n - 1 then ↑n else 0).toNat,n] [if -1 < ↑n - 1 then ↑n else 0] [(.or (.an (.il (.a (.g (.n 1)) (.n 1)) (.s (.c Y1) (.n 1))) (.ie Y0 (.c Y1))) (.an (.no (.il (.a (.g (.n 1)) (.n 1)) (.s (.c Y1) (.n 1)))) (.ie Y0 (.n 0)))),(.or (.an (.il (.n 0) Y0) (.ie (.c Y0) Y0)) (.an (.il Y0 (.n 0)) (.eq Y0 (.n 0))))] (.eq Y0 Y1) [[1,0,0,1,0,0,1],[1,0,0,1,1],[1,1],[1,0,1,0,0,1],[1,1,0,0,0,1]] rfl (Mine.sO (-1 < ↑n - 1) (↑n) (0)) (bo (if -1 < ↑n - 1 then ↑n else 0)) | (split <;> omega)
  unfold dF
  rw [hsz]
  apply List.ext_getElem
  · simp
  · intro i h1 h2
    simp at h1 h2
    simp
    (exact om [n,i,n - 1 - i,n - 1] [] [(.le (.a Y1 (.n 1)) Y0),(.or (.an (.le (.n 1) Y0) (.eq Y0 (.a Y3 (.n 1)))) (.an (.le Y0 (.n 1)) (.eq Y3 (.n 0)))),(.or (.an (.le Y1 Y3) (.eq Y3 (.a Y2 Y1))) (.an (.le Y3 Y1) (.eq Y2 (.n 0))))] (.ie (.a (.s (.c Y0) (.n 1)) (.g (.c Y1))) (.c Y2)) [[1,0,0,0,1,0,0,1],[1,1,0,0,0,0,1],[1,1,0,1,0,0,0,1],[1,0,0,1,0,0,1],[1,0,0,1,0,1],[1,0,1]] rfl h1 (aN (n) (1)) (aN (n - 1) (i)))
theorem DY {n:Nat} {H:Hp} {Q:List V→Option Nat→Hp→Prop} (hn:n≤900) (h:Q ((List.range n).reverse.map fun (i:Nat)=>V.int (i:Int)) none H):qQ [.int ((n:Int) - 1),.int (-1),.int (-1)] H Q:=by
  refine ⟨(n:Int) - 1,-1,-1,rfl,aB (by (exact om [n] [] [] (.il (.g (.n 1000000)) (.s (.c Y0) (.n 1))) [[1]] rfl)) (by (exact om [n] [] [(.le Y0 (.n 900))] (.il (.s (.c Y0) (.n 1)) (.n 1000000)) [[1,1]] rfl hn)),aB (by decide) (by decide),.inr (.inl rfl),?_⟩
  rw [rP,List.map_map]; exact h
section
variable {sub:Nat→Nat→Bool} {P:List Fn} {f n dv pa:Nat} {H:Hp} {Q:V→Hp→Prop} {X:Nat→Hp→Prop}
noncomputable def DW:PS:=(.seq (.assign 2 (.bin .add (.bin .mul (.var 2) (.idx (.var 1) (.cint 0))) (.bin .mul (.idx (.var 0) (.var 4)) (.var 3))))
 (.seq (.assign 3 (.bin .mul (.var 3) (.idx (.var 1) (.cint 1)))) .skip))
noncomputable def Ar:PS:=(.seq (.assign 2 (.cint 0))
 (.seq (.assign 3 (.cint 1))
 (.seq (.forr 4 (.rng (.cons (.bin .sub (.bi .len (.cons (.var 0) .nil)) (.cint 1)) (.cons (.neg (.cint 1)) (.cons (.neg (.cint 1)) .nil)))) DW)
 (.seq (.ret (.var 2)) .skip))))
theorem AU (e:P[f]?=some ⟨2,5,Ar⟩) {m:Nat} {row:List Int} {p q:Int} {K L:Nat} (hm:H[m]?=some (row.map .int)) (hl:row.length≤900) (hr:AllSm K row) (hp:Sm L p) (hq:Sm L q) (hB:K+1+(row.length+1)*(L+2)≤1000000)
    (hQ:Q (.int (aW p q row)) H):aj sub P (n+1) f [.lst m,.tup [.int p,.int q]] H Q X:=by
  refine ai e rfl ?_
  dsimp only [Ar,qS1,qS2,qS3,qS9,b5,qE1,qE5,qE8,qE9,br,aC,aD,qI3,cM,c7,az,aA,ax,aw,aP,ay,aq,ac,af,au,Nat.reduceSub]
  refine ifSome.mk hm ?_
  rw [List.length_map]
  refine DY hl ?_
  refine bl (fun rest ρ H'=>∃ pre suf o,row=pre++suf∧rest=(List.range (pre:List Int).length).reverse.map (fun (i:Nat)=>V.int (i:Int))∧ρ=[some (.lst m),some (.tup [.int p,.int q]),some (.int (aW p q suf)),some (.int (q ^ suf.length)),o]∧H'=H) ?_ ?_ _ _ _ ⟨row,[],none,(List.append_nil _).symm,rfl,by rw [List.length_nil,Int.pow_zero]; rfl,rfl⟩
  · rintro x xs ρ H' k ⟨pre,suf,o,hr1,hx,rfl,rfl⟩ hk
    rcases List.eq_nil_or_concat pre with rfl | ⟨pre',d,rfl⟩
    · cases hx
    rw [List.concat_eq_append] at hr1 hx
    rw [List.length_append,List.length_singleton,List.range_succ,List.reverse_append] at hx
    cases hx
    have hy:(row.map V.int)[pre'.length]?=some (.int d):=by
      rw [hr1,List.append_assoc,List.map_append]
      have:=ag (pre'.map V.int) (V.int d) (suf.map V.int); rwa [List.length_map] at this
    have hdl:pre'.length < (row.map V.int).length:=by rw [hr1]; simp
    have hsl:suf.length+1≤row.length:=by rw [hr1,List.length_append,List.length_append,List.length_singleton]; (exact om [suf.length,pre'.length] [] [] (.le (.a Y0 (.n 1)) (.a (.a Y1 (.n 1)) Y0)) [[1]] rfl)
    have hsf:AllSm K suf:=fun y hy=>hr y (by rw [hr1]; simp [hy])
    have hdm:Sm K d:=hr d (by rw [hr1]; simp)
    have b1:=pA hp hq hsf
    have b2:=hq.pow suf.length
    have mm:(suf.length+1)*(L+2)≤row.length*(L+2):=Nat.mul_le_mul_right _ hsl
    rw [Nat.succ_mul] at mm hB
    have mm1:L*suf.length≤suf.length*(L+2):=by rw [Nat.mul_comm]; exact Nat.mul_le_mul_left _ (by (exact om [L] [] [] (.le Y0 (.a Y0 (.n 2))) [[1]] rfl))
    have hL:L≤1048576:=by (exact om [L,K,row.length*(L+2)] [] [(.le (.a (.a Y1 (.n 1)) (.a Y2 (.a Y0 (.n 2)))) (.n 1000000))] (.le Y0 (.n 1048576)) [[1,1]] rfl hB)
    have h2:L*suf.length+1≤1048576:=by (exact om [L*suf.length,K,row.length*(L+2),L,suf.length*(L+2)] [] [(.le (.a (.a Y1 (.n 1)) (.a Y2 (.a Y3 (.n 2)))) (.n 1000000)),(.le (.a Y4 (.a Y3 (.n 2))) Y2),(.le Y0 Y4)] (.le (.a Y0 (.n 1)) (.n 1048576)) [[1,1,1,1]] rfl hB mm mm1)
    dsimp only [DW,qS1,qS2,qS3,qE1,qE5,qE8,aY,cx,cq,cr,cy,ac,af,au]
    refine ⟨IntMulOk.sm b1 hp (by (exact om [K,suf.length*(L+2),row.length*(L+2),L] [] [(.le (.a (.a Y0 (.n 1)) (.a Y2 (.a Y3 (.n 2)))) (.n 1000000)),(.le (.a Y1 (.a Y3 (.n 2))) Y2)] (.le (.a (.a Y0 (.n 1)) Y1) (.n 1048576)) [[1,1,1]] rfl hB mm)) hL,?_⟩
    refine ifSome.mk hm (ifSome.mk (aF hdl) (ifSome.mk hy ⟨IntMulOk.sm hdm b2 (by (exact om [K,row.length*(L+2),L] [] [(.le (.a (.a Y0 (.n 1)) (.a Y1 (.a Y2 (.n 2)))) (.n 1000000))] (.le Y0 (.n 1048576)) [[1,1]] rfl hB)) h2,IntMulOk.sm b2 hq h2 hL,?_⟩))
    refine hk _ _ ⟨pre',d :: suf,some (.int (pre'.length:Int)),by rw [hr1,List.append_assoc]; rfl,rfl,?_,rfl⟩
    rw [ue,List.length_cons,Int.pow_succ]
  · intro ρ H' zr17; refine bv (zr17) fun pre suf o hr1 hx zq25 zq26=>?_; subst zq25; subst zq26
    have hnil:pre=[]:=by
      have:=congrArg List.length hx
      simp at this; exact List.eq_nil_of_length_eq_zero this.symm
    subst hnil
    rw [List.nil_append] at hr1
    subst hr1
    exact hQ
noncomputable def j7 (wh pa:Nat):PS:=(.seq (.ite (.or (.cons (.nt (.isi (.var 0) [.tuple])) (.cons (.cmp .ne (.bi .len (.cons (.var 0) .nil)) (.cint 2)) (.cons (.nt (.call wh (.cons (.idx (.var 0) (.cint 0)) .nil))) (.cons (.nt (.call wh (.cons (.idx (.var 0) (.cint 1)) .nil))) .nil))))) (.seq (.ret (.cbool false)) .skip) .skip)
 (.seq (.ret (.and (.cons (.cmp .gt (.idx (.var 0) (.cint 1)) (.cint 0)) (.cons (.cmp .eq (.call pa (.cons (.idx (.var 0) (.cint 0)) (.cons (.idx (.var 0) (.cint 1)) .nil))) (.var 0)) .nil)))) .skip))
theorem pJ {wh:Nat} (e:P[f]?=some ⟨1,1,j7 wh pa⟩) (ew:P[wh]?=some ⟨1,1,n4⟩) (ep:P[pa]?=some ⟨2,3,gr dv⟩) (ed:P[dv]?=some ⟨2,3,my⟩) {p q:Int} {k:Nat} (a:Low k p q) (hk:k≤2000) (hQ:Q (.bool true) H):aj sub P (n+3) f [.tup [.int p,.int q]] H Q X:=by
  refine ai e rfl ?_
  dsimp only [j7,qS1,qS2,qS9,bj,qE1,qE2,qE5,fy,bh,fz,fB,aO,br,g7,aY,aC,aD,bV,li,qC,ji,cq,cr,aZ,az,aA,ax,aw,ay,aq,fw,bR,gJ,kU,DP,ac,af,Nat.reduceSub,Nat.reduceAdd,List.length_nil]
  refine ifSome.mk (v:=[true]) rfl ?_
  refine (if_pos (show (![true].any id)=false from rfl)).mpr ?_
  refine od ew ?_
  dsimp only [aZ,bR,gJ,kU,ac]
  refine od ew ?_
  dsimp only [aZ,bR,kU,ac]
  rw [decide_eq_true a.pos]
  dsimp only [bu]
  refine BJ ep ed a.pos (a.bot.mono hk) fun p' q' e1 e2=>?_
  rw [a.one] at e1 e2
  have h1:p'=p:=by rw [← e1]; exact (Int.mul_one _).symm
  have h2:q'=q:=by rw [← e2]; exact (Int.mul_one _).symm
  subst h1 h2
  dsimp only [DE]
  refine u8 ?_
  rw [decide_eq_true ⟨rfl,rfl⟩]; exact hQ
noncomputable def zWh (wh:Nat):PE:=(.comp (.var 0) 1 [] (.seq (.var 1)) (.some (.nt (.call wh (.cons (.var 0) .nil)))))
noncomputable def rO (wh sm ip va tu:Nat):PS:=(.seq (.ite (.or (.cons (.nt (.isi (.var 0) [.tuple])) (.cons (.cmp .ne (.bi .len (.cons (.var 0) .nil)) (.cint 3)) (.cons (.nt (.isi (.idx (.var 0) (.cint 0)) [.tuple])) .nil)))) (.seq (.ret (.cbool false)) .skip) .skip)
 (.seq (.assign 1 (.bi .list (.cons (.idx (.var 0) (.cint 0)) .nil)))
 (.seq (.ite (.or (.cons (.cmp .lt (.bi .len (.cons (.var 1) .nil)) (.cint 2)) (.cons (.cmp .gt (.bi .len (.cons (zWh wh) .nil)) (.cint 0)) (.cons (.cmp .lt (.idx (.var 1) (.neg (.cint 1))) (.cint 1)) .nil)))) (.seq (.ret (.cbool false)) .skip) .skip)
 (.seq (.ite (.or (.cons (.cmp .ne (.call sm (.cons (.var 1) .nil)) (.var 1)) (.cons (.nt (.call ip (.cons (.idx (.var 0) (.cint 1)) .nil))) (.cons (.nt (.call ip (.cons (.idx (.var 0) (.cint 2)) .nil))) .nil)))) (.seq (.ret (.cbool false)) .skip) .skip)
 (.seq (.assign 2 (.call va (.cons (.var 1) (.cons (.idx (.var 0) (.cint 1)) .nil))))
 (.seq (.assign 3 (.call va (.cons (.var 1) (.cons (.idx (.var 0) (.cint 2)) .nil))))
 (.seq (.ite (.or (.cons (.cmp .ge (.bin .mul (.idx (.idx (.var 0) (.cint 1)) (.cint 0)) (.idx (.idx (.var 0) (.cint 2)) (.cint 1))) (.bin .mul (.idx (.idx (.var 0) (.cint 2)) (.cint 0)) (.idx (.idx (.var 0) (.cint 1)) (.cint 1)))) (.cons (.cmp .eq (.var 2) (.cint 0)) (.cons (.cmp .eq (.var 3) (.cint 0)) .nil)))) (.seq (.ret (.cbool false)) .skip) .skip)
 (.seq (.ret (.cmp .eq (.call tu (.cons (.var 1) (.cons (.idx (.var 0) (.cint 1)) (.cons (.idx (.var 0) (.cint 2)) .nil)))) (.cint 1))) .skip))))))))
noncomputable def ngL:PE:=.bin .sub (.cint 0) (.var 1)
theorem ju {step:V→Hp→(Option V→Hp→Prop)→Prop} {H:Hp}:∀ {xs:List V} {Q:List V→Hp→Prop},(∀ x∈xs,∀ k:Option V→Hp→Prop,k none H→step x H k)→Q [] H→cK step xs H Q
  | [],_,_,h=>h
  | x :: xs,Q,hs,h=>hs x List.mem_cons_self _ (ju (fun y hy=>hs y (List.mem_cons_of_mem _ hy)) h)
structure AW (k m:Nat) (row:List Int) (l p1 q1 p2 q2:Int):Prop where
  len:2≤row.length
  len':row.length≤100
  last:row.getLast?=some l
  pos:0 < l
  one:bB row 0=1
  sm:AllSm k row
  low:Low m p1 q1
  high:Low m p2 q2
  lt:p1*q2 < p2*q1
  v1:aW p1 q1 row≠0
  v2:aW p2 q2 row≠0
  tv:Mine.tv 0 (hs (p1*q2) (p2*q1) (q1*q2) row)=1
theorem zT {wh sm ip va tu se by_:Nat} (e:P[f]?=some ⟨1,4,rO wh sm ip va tu⟩) (ew:P[wh]?=some ⟨1,1,n4⟩) (es:P[sm]?=some ⟨1,3,nH dv ngL⟩) (ei:P[ip]?=some ⟨1,1,j7 wh pa⟩) (ev:P[va]?=some ⟨2,5,Ar⟩) (et:P[tu]?=some ⟨3,6,jZ se⟩) (ese:P[se]?=some ⟨3,7,kX by_⟩) (eb:P[by_]?=some ⟨2,5,bBy⟩)
    (ep:P[pa]?=some ⟨2,3,gr dv⟩) (ed:P[dv]?=some ⟨2,3,my⟩) {row:List Int} {l p1 q1 p2 q2:Int} {k m:Nat} (hk:k≤200000) (hm:m≤2000) (I:AW k m row l p1 q1 p2 q2) (hQ:∀ H',H<+:H'→Q (.bool true) H') :
    aj sub P (n+4) f [.tup [.tup (row.map .int),.tup [.int p1,.int q1],.tup [.int p2,.int q2]]] H Q X:=by
  have hl1:1≤row.length:=Nat.le_trans (by decide) I.len
  have kk:m≤1048576:=Nat.le_trans hm (by decide)
  have hB:k+(m+m)+2+row.length*((m+m)+2)≤1000000:=by
    have:=Nat.mul_le_mul I.len' (show (m+m)+2≤4002 by exact om [m] [] [(.le Y0 (.n 2000))] (.le (.a (.a Y0 Y0) (.n 2)) (.n 4002)) [[1,2]] rfl hm); clear hQ I; exact om [k,m,row.length*(m+m+2)] [] [(.le Y0 (.n 200000)),(.le Y1 (.n 2000)),(.le Y2 (.m 100 (.n 4002)))] (.le (.a (.a (.a Y0 (.a Y1 Y1)) (.n 2)) Y2) (.n 1000000)) [[1,1,2,1]] rfl hk hm this
  have hBv:k+1+(row.length+1)*(m+2)≤1000000:=by
    have:=Nat.mul_le_mul (show row.length+1≤101 from Nat.succ_le_succ I.len') (show m+2≤2002 by exact om [m] [] [(.le Y0 (.n 2000))] (.le (.a Y0 (.n 2)) (.n 2002)) [[1,1]] rfl hm); clear hQ I; exact om [k,(row.length+1)*(m+2)] [] [(.le Y0 (.n 200000)),(.le Y1 (.m 101 (.n 2002)))] (.le (.a (.a Y0 (.n 1)) Y1) (.n 1000000)) [[1,1,1]] rfl hk this
  have hl9:row.length≤900:=Nat.le_trans I.len' (by decide)
  have m12:=IntMulOk.sm I.low.top I.high.bot kk kk
  have m21:=IntMulOk.sm I.high.top I.low.bot kk kk
  have mqq:=IntMulOk.sm I.low.bot I.high.bot kk kk
  refine ai e rfl ?_
  dsimp only [rO,qS1,qS2,qS3,qS9,bj,qE1,qE2,qE5,qE8,qE9,fy,bh,fB,aO,br,g7,aY,aC,aD,bV,cx,fY,xm,qC,ji,c7,nM,cq,cr,jK,jV,iD,cy,aZ,yn,az,aA,ax,aw,aP,ay,aq,fw,ac,af,au,Nat.reduceSub,Nat.reduceAdd,List.length_nil]
  refine ifSome.mk (v:=[true]) rfl ?_
  refine (if_pos (show (![true].any id)=false from rfl)).mpr ?_
  refine (if_pos (show (!decide ((([V.tup (row.map .int),V.tup [.int p1,.int q1],V.tup [.int p2,.int q2]].length:Nat):Int)=3))=false from rfl)).mpr ?_
  refine ifSome.mk (v:=[true]) rfl ?_
  dsimp only [kU,CT]
  have hr:(H++[row.map V.int])[H.length]?=some (row.map V.int):=ag _ _ _
  refine ifSome.mk hr ?_
  rw [List.length_map,decide_eq_false (show ¬ ((row.length:Nat):Int) < 2 by have:=I.len; (exact om [row.length] [] [(.le (.n 2) Y0)] (.no (.il (.a (.c Y0) (.n 1)) (.n 2))) [[1,1]] rfl this))]
  dsimp only [zWh,qE5,fy,aO,dH,aC,aD,qO2,qI1,li,c7,aZ,d5,cD,ax,aw,bR,gJ,ac,af]
  refine ifSome.mk hr ⟨by rw [List.length_map]; exact Nat.le_trans I.len' (by decide),?_⟩
  refine ju (fun x hx k' hk'=>?_) ?_
  · refine ad (List.mem_map.mp hx) fun y _ zq110=>?_; subst zq110
    exact od ew hk'
  refine ifSome.mk (v:=[]) (ag _ _ _) ?_
  dsimp only [List.length_nil]
  have hp1:H++[row.map V.int]<+:H++[row.map V.int]++[[]]:=ah _ _
  refine (if_pos (show decide ((0:Int) < ((0:Nat):Int))=false from rfl)).mpr ?_
  refine ifSome.mk (ao hp1 hr) (ifSome.mk (ci (by rw [List.length_map]; exact hl1)) (ifSome.mk (v:=.int l) ?_ ?_))
  · rw [List.length_map,List.getElem?_map,← List.getLast?_eq_getElem?,I.last]; rfl
  dsimp only [fY,aZ,ac]
  rw [decide_eq_false (show ¬ l < 1 by have:=I.pos; (exact om [] [l] [(.il (.a (.n 0) (.n 1)) Y0)] (.no (.il (.a Y0 (.n 1)) (.n 1))) [[1,1]] rfl this))]
  dsimp only [bR]
  refine mP (n:=n+2) (fun g ρ H' Z hg hz=>?_) es (fun a b H' Z X' hz=>uI ed hz) (v:=.lst H.length) (ao hp1 hr) I.last (Int.ne_of_gt I.pos) (Nat.le_trans I.len' (by decide)) ?_
  · dsimp only [ngL,qE1,qE5,qE8]
    refine ifSome.mk hg ?_
    show Z (.int (0 - g)) H'
    rw [Int.zero_sub]; exact hz
  rw [vZ I.one I.pos]
  dsimp only [DM,aZ,ac]
  generalize hH2:H++[row.map V.int]++[[]]=H2 at hp1
  have hr2:H2[H.length]?=some (row.map V.int):=ao hp1 hr
  have hp0:H<+:H2:=ae (ah _ _) hp1
  refine vD (ag _ _ _) (ao (ah _ _) hr2) ?_
  rw [decide_eq_true rfl]
  dsimp only [bR,gJ,kU]
  refine pJ ei ew ep ed I.low hm ?_
  dsimp only [aZ,bR,gJ,kU,ac]
  refine pJ ei ew ep ed I.high hm ?_
  dsimp only [aZ,bR,kU,ac]
  have hr3:(H2++[row.map V.int])[H.length]?=some (row.map V.int):=ao (ah _ _) hr2
  refine AU ev hr3 hl9 I.sm I.low.top I.low.bot hBv ?_
  refine AU ev hr3 hl9 I.sm I.high.top I.high.bot hBv ?_
  dsimp only [gi,aZ,ac]
  refine ⟨m12,m21,?_⟩
  rw [decide_eq_false (Int.not_le.mpr I.lt),decide_eq_false I.v1,decide_eq_false I.v2]
  dsimp only [bR,gJ]
  refine ye et ese eb hr3 hl9 I.sm (I.low.top.mul I.high.bot) (I.high.top.mul I.low.bot) (I.low.bot.mul I.high.bot) m12 m21 mqq hB fun H4 hp4=>?_
  rw [I.tv]
  exact hQ _ (ae (ae hp0 (ah _ _)) hp4)
end
end Mine
namespace Mine
noncomputable def hc (a0 a1 b0 b1:Int):List Int→List Int
  | []=>[]
  | c :: r=>addL (mulG a0 a1 0 (hc a0 a1 b0 b1 r)) (smul c (mulN b0 b1 r.length [1]))
theorem A3 {b e s:Int}:∀ {r:List Int},hs b e s r=hc b e s s r
  | []=>rfl
  | c :: r=>by
    show addL (mulG b e 0 (hs b e s r)) _=addL (mulG b e 0 (hc b e s s r)) _
    rw [A3]
theorem bQ {c:Int} {xs:List Int}:(smul c xs).length=xs.length:=List.length_map ..
theorem tN {a0 a1 b0 b1:Int}:∀ {r:List Int},(hc a0 a1 b0 b1 r).length=r.length
  | []=>rfl
  | c :: r=>by
    have e:(mulG a0 a1 0 (hc a0 a1 b0 b1 r)).length=(smul c (mulN b0 b1 r.length [1])).length:=by
      rw [b9,tN,bQ,bF]; exact Nat.add_comm _ _
    show (addL _ _).length=r.length+1
    rw [gZ e,b9,tN]
theorem iS (p q:Int):∀ {xs ys:List Int},xs.length=ys.length→aW p q (addL xs ys)=aW p q xs+aW p q ys
  | [],[],_=>rfl
  | x :: r,y :: t,h=>by
    have h':r.length=t.length:=Nat.succ.inj h
    show aW p q (addL r t)*p+(x+y)*q ^ (addL r t).length=(aW p q r*p+x*q ^ r.length)+(aW p q t*p+y*q ^ t.length)
    rw [iS p q h',gZ h',h']; grind
theorem f8 (p q c:Int):∀ {xs:List Int},aW p q (smul c xs)=c*aW p q xs
  | []=>(Int.mul_zero _).symm
  | x :: r=>by
    show aW p q (smul c r)*p+(c*x)*q ^ (smul c r).length=c*(aW p q r*p+x*q ^ r.length)
    rw [f8 p q c,bQ]; grind
theorem iT (p q a b:Int):∀ {xs:List Int} {c:Int},aW p q (mulG a b c xs)=(a*q+b*p)*aW p q xs+c*q ^ xs.length
  | [],c=>by
    show 0*p+c*q ^ 0=(a*q+b*p)*0+c*q ^ 0
    exact om [] [p,c*q ^ 0,a*q,b*p] [] (.ie (.a (.m 0 Y0) Y1) (.a (.r (.a Y2 Y3) 0) Y1)) [[1]] rfl
  | x :: r,c=>by
    show aW p q (mulG a b (x*b) r)*p+(c+x*a)*q ^ (mulG a b (x*b) r).length=(a*q+b*p)*(aW p q r*p+x*q ^ r.length)+c*q ^ (r.length+1)
    rw [iT p q a b,b9,Int.pow_succ]; grind
theorem mS (p q a b:Int) {xs:List Int}:∀ {n:Nat},aW p q (mulN a b n xs)=(a*q+b*p) ^ n*aW p q xs
  | 0=>by rw [Int.pow_zero,Int.one_mul]; rfl
  | n+1=>by
    show aW p q (mulG a b 0 (mulN a b n xs))=_
    rw [iT,mS,Int.pow_succ]; grind
theorem v9 (p q:Int):aW p q [1]=1:=by
  show 0*p+1*q ^ 0=1
  grind
theorem uP (p q a0 a1 b0 b1:Int):∀ {xs:List Int},aW p q (hc a0 a1 b0 b1 xs)=aW (a0*q+a1*p) (b0*q+b1*p) xs
  | []=>rfl
  | c :: r=>by
    have e:(mulG a0 a1 0 (hc a0 a1 b0 b1 r)).length=(smul c (mulN b0 b1 r.length [1])).length:=by
      rw [b9,tN,bQ,bF]; exact Nat.add_comm _ _
    show aW p q (addL _ _)=aW (a0*q+a1*p) (b0*q+b1*p) r*(a0*q+a1*p)+c*(b0*q+b1*p) ^ r.length
    rw [iS p q e,iT,f8,mS,v9,uP p q]; grind
theorem lJ (t c:Int) (r:List Int):aW t 1 (c :: r)=aW t 1 r*t+c:=by
  show aW t 1 r*t+c*1 ^ r.length=_
  rw [Int.one_pow,Int.mul_one]
theorem du:∀ {xs:List Int},(∀ t:Int,t≠0→aW t 1 xs=0)→∀ x∈xs,x=0
  | [],_,x,hx=>nomatch hx
  | c :: r,h,x,hx=>by
    have h':∀ t:Int,t≠0→aW t 1 r*t+c=0:=fun t ht=>by rw [← lJ]; exact h t ht
    have hc:c=0:=by
      have h1:=h' (c.natAbs+1) (by (exact om [c.natAbs] [] [] (.no (.ie (.a (.c Y0) (.n 1)) (.n 0))) [[1]] rfl))
      have hd:((c.natAbs:Int)+1) ∣ c:=⟨-(aW (c.natAbs+1) 1 r),by grind⟩
      exact Classical.byContradiction fun h0=>by
        have h2:=Nat.le_of_dvd (Int.natAbs_pos.mpr h0) (Int.natAbs_dvd_natAbs.mpr hd)
        (clear h hx h' h1 hd h0; omega)
    have hr:∀ t:Int,t≠0→aW t 1 r=0:=fun t ht=>by
      have h1:=h' t ht
      rw [hc,Int.add_zero] at h1
      exact (Int.mul_eq_zero.mp h1).resolve_right ht
    rcases List.mem_cons.mp hx with rfl | hx
    · exact hc
    · exact du hr x hx
theorem qZ:∀ {xs ys:List Int},xs.length=ys.length→(∀ t:Int,aW t 1 xs=aW t 1 ys)→xs=ys:=fun {xs ys} hl h=>by
  have hz:∀ x∈addL xs (smul (-1) ys),x=0:=du fun t _=>by
    rw [iS t 1 (by rw [bQ,hl]),f8,h t]; (exact om [] [aW t 1 ys,-1*aW t 1 ys] [(.ie Y1 (.g (.m 1 Y0)))] (.ie (.a Y0 Y1) (.n 0)) [[1,0,1],[1,1]] rfl (Int.neg_mul 1 (aW t 1 ys)))
  clear h
  induction xs generalizing ys with
  | nil=>cases ys with
    | nil=>rfl
    | cons y t=>cases hl
  | cons x r ih=>cases ys with
    | nil=>cases hl
    | cons y t =>
      have h1:x+-1*y=0:=hz _ List.mem_cons_self
      have h2:r=t:=ih (Nat.succ.inj hl) fun z hz'=>hz z (List.mem_cons_of_mem _ hz')
      rw [h2]; congr 1; (exact om [] [x,y,-1*y] [(.ie (.a Y0 Y2) (.n 0)),(.ie Y2 (.g (.m 1 Y1)))] (.ie Y0 Y1) [[1,0,1,1],[1,1,0,0,1]] rfl h1 (Int.neg_mul 1 (y)))
noncomputable def Up (xs:List Int):Prop:=xs.Pairwise fun x y=>0 < x→0≤y
noncomputable def NN (xs:List Int):Prop:=∀ x∈xs,0≤x
theorem Up.hd {x:Int} {xs:List Int} (h:Up (x :: xs)) (hx:0 < x):NN xs:=fun y hy=>(List.pairwise_cons.mp h).1 y hy hx
theorem Up.tl {x:Int} {xs:List Int} (h:Up (x :: xs)):Up xs:=(List.pairwise_cons.mp h).2
theorem NN.hd {x:Int} {xs:List Int} (h:NN (x :: xs)):0≤x:=h x List.mem_cons_self
theorem NN.tl {x:Int} {xs:List Int} (h:NN (x :: xs)):NN xs:=fun y hy=>h y (List.mem_cons_of_mem _ hy)
end Mine
namespace Mine
noncomputable def ev (xs:List Int) (t:Int):Int:=aW t 1 xs
theorem cX (t:Int):ev [] t=0:=rfl
theorem aS (c:Int) (r:List Int) (t:Int):ev (c :: r) t=c+t*ev r t:=by
  unfold ev; rw [lJ]; grind
noncomputable def dE:List Int→List Int→List Int
  | [],ys=>ys
  | x :: xs,[]=>x :: xs
  | x :: xs,y :: ys=>(x+y) :: dE xs ys
theorem jJ (x y:Int) (xs ys:List Int):dE (x :: xs) (y :: ys)=(x+y) :: dE xs ys:=rfl
theorem j8 (ys:List Int):dE [] ys=ys:=rfl
theorem oe (x:Int) (xs:List Int):dE (x :: xs) []=x :: xs:=rfl
theorem fq (t:Int):∀ xs ys:List Int,ev (dE xs ys) t=ev xs t+ev ys t
  | [],ys=>by rw [j8,cX]; exact om [] [ev ys t] [] (.ie Y0 (.a (.n 0) Y0)) [[1]] rfl
  | x :: xs,[]=>by rw [oe,cX]; exact om [] [ev (x :: xs) t] [] (.ie Y0 (.a Y0 (.n 0))) [[1]] rfl
  | x :: xs,y :: ys=>by rw [jJ,aS,aS,aS,fq t xs ys]; grind
theorem bZ (c t:Int) (xs:List Int):ev (smul c xs) t=c*ev xs t:=f8 t 1 c
noncomputable def a7:List Int→List Int→List Int
  | [],_=>[]
  | x :: r,ys=>dE (smul x ys) (0 :: a7 r ys)
theorem dx (x:Int) (r ys:List Int):a7 (x :: r) ys=dE (smul x ys) (0 :: a7 r ys):=rfl
theorem j9 (ys:List Int):a7 [] ys=[]:=rfl
theorem bJ (t:Int):∀ xs ys:List Int,ev (a7 xs ys) t=ev xs t*ev ys t
  | [],ys=>by rw [j9,cX]; exact om [] [ev ys t] [] (.ie (.n 0) (.m 0 Y0)) [[1]] rfl
  | x :: r,ys=>by rw [dx,fq,bZ,aS,aS,bJ t r ys]; grind
theorem hJ:∀ xs ys:List Int,(dE xs ys).length=max xs.length ys.length
  | [],ys=>by rw [j8]; simp
  | x :: xs,[]=>by rw [oe]; simp
  | x :: xs,y :: ys=>by rw [jJ,List.length_cons,hJ xs ys,List.length_cons,List.length_cons]; exact om [max xs.length ys.length,xs.length,ys.length,max (xs.length+1) (ys.length+1)] [] [(.or (.an (.le Y2 Y1) (.eq Y0 Y1)) (.an (.le Y1 Y2) (.eq Y0 Y2))),(.or (.an (.le (.a Y2 (.n 1)) (.a Y1 (.n 1))) (.eq Y3 (.a Y1 (.n 1)))) (.an (.le (.a Y1 (.n 1)) (.a Y2 (.n 1))) (.eq Y3 (.a Y2 (.n 1)))))] (.eq (.a Y0 (.n 1)) Y3) [[1,0,0,1,0,1],[1,1,0,1,0,1],[1,0,1,0,0,0,1],[1,0,1,0,1,0,1]] rfl (Mine.jf (xs.length) (ys.length)) (Mine.jf (xs.length+1) (ys.length+1))
theorem cg:∀ {xs ys:List Int},xs≠[]→ys≠[]→(a7 xs ys).length+1=xs.length+ys.length
  | [],_,h,_=>absurd rfl h
  | [x],ys,_,h=>by
    have:=List.length_pos_iff.mpr h
    rw [dx,hJ,bQ,j9]; simp; (exact om [max ys.length 1,ys.length] [] [(.le (.a (.n 0) (.n 1)) Y1),(.or (.an (.le (.n 1) Y1) (.eq Y0 Y1)) (.an (.le Y1 (.n 1)) (.eq Y0 (.n 1))))] (.eq (.a Y0 (.n 1)) (.a (.n 1) Y1)) [[1,0,0,0,1],[1,0,1,0,1],[1,0,0,1],[1,1,0,1]] rfl this (Mine.jf (ys.length) (1)))
  | x :: y :: r,ys,_,h=>by
    have ih:=@cg (y :: r) ys (List.cons_ne_nil _ _) h
    rw [dx,hJ,bQ,List.length_cons,List.length_cons]; (exact om [max ys.length ((a7 (y :: r) ys).length+1),ys.length,(a7 (y :: r) ys).length,r.length] [] [(.eq (.a Y2 (.n 1)) (.a (.a Y3 (.n 1)) Y1)),(.or (.an (.le (.a Y2 (.n 1)) Y1) (.eq Y0 Y1)) (.an (.le Y1 (.a Y2 (.n 1))) (.eq Y0 (.a Y2 (.n 1)))))] (.eq (.a Y0 (.n 1)) (.a (.a (.a Y3 (.n 1)) (.n 1)) Y1)) [[0,0,1,1],[1,0,1,0,0,1],[1,1,0,0,1]] rfl ih (Mine.jf (ys.length) ((a7 (y :: r) ys).length+1)))
noncomputable def Tr (xs:List Int):Prop:=∃ l,xs.getLast?=some l∧l≠0
theorem Tr.ne {xs:List Int} (h:Tr xs):xs≠[]:=by
  refine ad (h) fun l e _=>?_
  intro h; rw [h] at e; cases e
theorem Tr.tl {x y:Int} {xs:List Int} (h:Tr (x :: y :: xs)):Tr (y :: xs):=by
  refine ad (h) fun l e h=>?_
  rw [List.getLast?_cons_cons] at e; exact ⟨l,e,h⟩
theorem Tr.cons {x:Int} {xs:List Int} (h:Tr xs):Tr (x :: xs):=by
  obtain ⟨l,e,h⟩:=h
  cases xs with
  | nil=>cases e
  | cons y r=>exact ⟨l,by rw [List.getLast?_cons_cons]; exact e,h⟩
theorem Tr.one {x:Int} (h:x≠0):Tr [x]:=⟨x,rfl,h⟩
theorem Tr.of_one {x:Int} (h:Tr [x]):x≠0:=by refine ad (h) fun l e h=>?_; cases e; exact h
theorem Tr.mem {xs:List Int} (h:Tr xs):∃ x∈xs,x≠0:=by
  refine ad (h) fun l e h=>?_
  exact ⟨l,List.mem_of_getLast? e,h⟩
theorem f6 {c:Int} (hc:c≠0) {xs:List Int} (h:Tr xs):Tr (smul c xs):=by
  refine ad (h) fun l e h=>?_
  refine ⟨c*l,?_,Int.mul_ne_zero hc h⟩
  unfold smul; rw [List.getLast?_map,e]; rfl
theorem uE {xs:List Int} (h:∀ t,ev xs t=0):∀ x∈xs,x=0:=du fun t _=>h t
theorem Tr.nz {xs:List Int} (h:Tr xs):∃ t,ev xs t≠0:=Classical.byContradiction fun hn=>by
  refine ad (h.mem) fun x hx h0=>?_
  exact h0 (uE (fun t=>Classical.byContradiction fun ht=>hn ⟨t,ht⟩) x hx)
theorem lO:∀ {xs ys:List Int},(xs=[]∨Tr xs)→(ys=[]∨Tr ys)→(∀ t,ev xs t=ev ys t)→xs=ys:=fun {xs ys} hx hy h=>by
  have hz:∀ z∈dE xs (smul (-1) ys),z=0:=uE fun t=>by rw [fq,bZ,h]; (exact om [] [ev ys t,-1*ev ys t] [(.ie Y1 (.g (.m 1 Y0)))] (.ie (.a Y0 Y1) (.n 0)) [[1,0,1],[1,1]] rfl (Int.neg_mul 1 (ev ys t)))
  clear h
  induction xs generalizing ys with
  | nil =>
    rcases hy with rfl | hy
    · rfl
    · refine ad ((f6 (c:=-1) (by decide) hy).mem) fun z h1 h2=>?_
      exact absurd (hz z h1) h2
  | cons x r ih =>
    cases ys with
    | nil =>
      rcases hx with h | hx
      · cases h
      · refine ad (hx.mem) fun z h1 h2=>?_
        exact absurd (hz z h1) h2
    | cons y s =>
      have h1:x+-1*y=0:=hz _ List.mem_cons_self
      have h2:r=s:=ih (by
        cases r with
        | nil=>exact .inl rfl
        | cons a b=>exact .inr (hx.resolve_left (List.cons_ne_nil _ _)).tl) (by
        cases s with
        | nil=>exact .inl rfl
        | cons a b=>exact .inr (hy.resolve_left (List.cons_ne_nil _ _)).tl) fun z hz'=>hz z (List.mem_cons_of_mem _ hz')
      rw [h2]; congr 1; (exact om [] [x,y,-1*y] [(.ie (.a Y0 Y2) (.n 0)),(.ie Y2 (.g (.m 1 Y1)))] (.ie Y0 Y1) [[1,0,1,1],[1,1,0,0,1]] rfl h1 (Int.neg_mul 1 (y)))
theorem mG:∀ {xs ys:List Int} {l:Int},xs.length < ys.length→ys.getLast?=some l→(dE xs ys).getLast?=some l
  | [],ys,l,_,h=>by rw [j8]; exact h
  | x :: xs,[],l,h,_=>absurd h (by simp)
  | x :: xs,[y],l,h,_=>absurd h (by simp)
  | x :: xs,y :: z :: ys,l,h,hl=>by
    rw [jJ]
    have ih:=@mG xs (z :: ys) l (by simp at h ⊢; (exact om [xs.length,ys.length] [] [(.le (.a Y0 (.n 1)) (.a Y1 (.n 1)))] (.le (.a Y0 (.n 1)) (.a Y1 (.n 1))) [[1,1]] rfl h)) (by rw [List.getLast?_cons_cons] at hl; exact hl)
    cases e:dE xs (z :: ys) with
    | nil=>rw [e] at ih; cases ih
    | cons a b=>rw [List.getLast?_cons_cons,← e]; exact ih
theorem cN:∀ {xs ys:List Int} {l m:Int},xs.getLast?=some l→ys.getLast?=some m→(a7 xs ys).getLast?=some (l*m)
  | [],_,_,_,h,_=>by cases h
  | [x],ys,l,m,h,hm=>by
    obtain rfl:x=l:=Option.some.inj h
    have e:a7 [x] ys=smul x ys:=by
      cases ys with
      | nil=>cases hm
      | cons y r =>
        rw [dx,j9]
        show (x*y+0) :: dE (smul x r) []=x*y :: smul x r
        cases r with
        | nil=>show [x*y+0]=[x*y]; rw [Int.add_zero]
        | cons a b=>show (x*y+0) :: (x*a :: smul x b)=_; rw [Int.add_zero]; rfl
    rw [e]; unfold smul; rw [List.getLast?_map,hm]; rfl
  | x :: y :: r,ys,l,m,h,hm=>by
    rw [List.getLast?_cons_cons] at h
    have ih:=cN h hm
    have hne:ys≠[]:=by intro h; rw [h] at hm; cases hm
    have hl:=@cg (y :: r) ys (List.cons_ne_nil _ _) hne
    rw [dx]
    refine mG ?_ ?_
    · rw [bQ,List.length_cons]; rw [List.length_cons] at hl; (exact om [ys.length,(a7 (y :: r) ys).length,r.length] [] [(.eq (.a Y1 (.n 1)) (.a (.a Y2 (.n 1)) Y0))] (.le (.a Y0 (.n 1)) (.a Y1 (.n 1))) [[1,0,1]] rfl hl)
    · cases e:a7 (y :: r) ys with
      | nil=>rw [e] at ih; cases ih
      | cons a b=>rw [List.getLast?_cons_cons,← e]; exact ih
theorem ka {xs ys:List Int} (h1:Tr xs) (h2:Tr ys):Tr (a7 xs ys):=by
  refine ad (h1) fun l e h=>?_
  refine ad (h2) fun m e' h'=>?_
  exact ⟨_,cN e e',Int.mul_ne_zero h h'⟩
noncomputable def PF (f:Int→Int):Prop:=∃ xs,∀ t,f t=ev xs t
theorem PF.const (c:Int):PF (fun _=>c):=⟨[c],fun t=>by rw [aS,cX]; dsimp only; exact om [] [c,t] [] (.ie Y0 (.a Y0 (.r Y1 0))) [[1]] rfl⟩
theorem PF.id:PF (fun t=>t):=⟨[0,1],fun t=>by rw [aS,aS,cX]; dsimp only; omega⟩
theorem PF.add {f g:Int→Int} (h1:PF f) (h2:PF g):PF (fun t=>f t+g t):=by
  obtain ⟨xs,h1⟩:=h1
  obtain ⟨ys,h2⟩:=h2
  exact ⟨dE xs ys,fun t=>by dsimp only; rw [fq,h1,h2]⟩
theorem PF.mul {f g:Int→Int} (h1:PF f) (h2:PF g):PF (fun t=>f t*g t):=by
  obtain ⟨xs,h1⟩:=h1
  obtain ⟨ys,h2⟩:=h2
  exact ⟨a7 xs ys,fun t=>by dsimp only; rw [bJ,h1,h2]⟩
theorem PF.smul (c:Int) {f:Int→Int} (h1:PF f):PF (fun t=>c*f t):=(PF.const c).mul h1
theorem PF.neg {f:Int→Int} (h1:PF f):PF (fun t=>- f t):=by
  obtain ⟨xs,h1⟩:=h1
  exact ⟨Mine.smul (-1) xs,fun t=>by dsimp only; rw [bZ,h1]; (exact om [] [Mine.ev xs t,-1*Mine.ev xs t] [(.ie Y1 (.g (.m 1 Y0)))] (.ie (.g Y0) Y1) [[1,1],[1,0,1]] rfl (Int.neg_mul 1 (Mine.ev xs t)))⟩
theorem wn:∀ n:Nat,PF (fun t=>t ^ n)
  | 0=>⟨[1],fun t=>by dsimp only; rw [aS,cX,Int.pow_zero]; exact om [] [t] [] (.ie (.n 1) (.a (.n 1) (.r Y0 0))) [[1]] rfl⟩
  | n+1=>by
    obtain ⟨xs,h⟩:=(wn n).mul PF.id
    exact ⟨xs,fun t=>by rw [← h]; exact Int.pow_succ _ _⟩
theorem Ds:∀ xs:List Int,∃ ys,(ys=[]∨Tr ys)∧∀ t,ev xs t=ev ys t
  | []=>⟨[],.inl rfl,fun _=>rfl⟩
  | x :: r=>by
    refine ad (Ds r) fun ys h e=>?_
    rcases h with rfl | h
    · by_cases hx:x=0
      · exact ⟨[],.inl rfl,fun t=>by rw [aS,e,hx,cX]; (exact om [] [t] [] (.ie (.a (.n 0) (.r Y0 0)) (.n 0)) [[1]] rfl)⟩
      · exact ⟨[x],.inr (.one hx),fun t=>by rw [aS,aS,e]⟩
    · exact ⟨x :: ys,.inr h.cons,fun t=>by rw [aS,aS,e]⟩
theorem PF.tr {f:Int→Int} (h:PF f) (h0:∃ t,f t≠0):∃ xs,Tr xs∧∀ t,f t=Mine.ev xs t:=by
  obtain ⟨xs,e⟩:=h
  refine ad (Ds xs) fun ys h e'=>?_
  rcases h with rfl | h
  · obtain ⟨t,ht⟩:=h0
    exact absurd (by rw [e,e',cX]) ht
  · exact ⟨ys,h,fun t=>by rw [e,e']⟩
noncomputable def Dv (f g:Int→Int):Prop:=∃ (c:Int) (h:Int→Int),c≠0∧PF h∧∀ t,c*g t=f t*h t
theorem Dv.zero (f:Int→Int):Dv f (fun _=>0):=⟨1,fun _=>0,by decide,.const 0,fun t=>by dsimp only; exact om [] [f t] [] (.ie (.m 1 (.n 0)) (.r Y0 0)) [[1]] rfl⟩
theorem Dv.comb {f g h k u v:Int→Int} {c:Int} (h1:Dv f g) (h2:Dv f h) (pu:PF u) (pv:PF v) (hc:c≠0) (e:∀ t,c*k t=u t*g t+v t*h t):Dv f k:=by
  refine aJ (h1) fun a x ha px e1=>?_
  refine aJ (h2) fun b y hb py e2=>?_
  refine ⟨a*b*c,fun t=>b*(u t*x t)+a*(v t*y t),Int.mul_ne_zero (Int.mul_ne_zero ha hb) hc,((pu.mul px).smul b).add ((pv.mul py).smul a),fun t=>?_⟩
  have:=e t; have:=e1 t; have:=e2 t; grind
noncomputable def Cop (f g:Int→Int):Prop:=∃ (c:Int) (u v:Int→Int),c≠0∧PF u∧PF v∧∀ t,c=u t*f t+v t*g t
noncomputable def evd:List Int→Int→Int
  | [],_=>0
  | _ :: r,t=>ev r t+t*evd r t
theorem Ed (x:Int) (r:List Int) (t:Int):evd (x :: r) t=ev r t+t*evd r t:=rfl
theorem Ef (t:Int):evd [] t=0:=rfl
end Mine
namespace Mine
theorem kx:∀ (r:List Int) (g d:Nat),d ∣ g→(∀ x∈r,d ∣ x.natAbs)→d ∣ bB r g
  | [],g,d,h,_=>h
  | x :: r,g,d,h,hx=>kx r _ d (Nat.dvd_gcd h (hx x List.mem_cons_self)) fun y hy=>hx y (List.mem_cons_of_mem _ hy)
theorem yW {xs:List Int} (h:∀ d:Nat,(∀ x∈xs,(d:Int) ∣ x)→d=1):bB xs 0=1 :=
  h _ fun x hx=>Int.natAbs_dvd_natAbs.mp (by rw [Int.natAbs_natCast]; exact (ig xs 0).2 x hx)
theorem qY {xs:List Int} (h:bB xs 0=1) {d:Nat} (hd:∀ x∈xs,(d:Int) ∣ x):d=1:=by
  have:=kx xs 0 d (Nat.dvd_zero d) fun x hx=>by
    have:=Int.natAbs_dvd_natAbs.mpr (hd x hx)
    rwa [Int.natAbs_natCast] at this
  rw [h] at this
  exact Nat.dvd_one.mp this
noncomputable def Pr (p:Nat):Prop:=1 < p∧∀ a,a ∣ p→a=1∨a=p
theorem iR:∀ (n d:Nat),d≤n→d≠1→∃ p,Pr p∧p ∣ d
  | 0,d,h,_=>by
    obtain rfl:d=0:=by exact om [d] [] [(.le Y0 (.n 0))] (.eq Y0 (.n 0)) [[1,1]] rfl h
    refine ⟨2,⟨by decide,fun a ha=>?_⟩,Nat.dvd_zero 2⟩
    have:=Nat.le_of_dvd (by decide) ha
    rcases Nat.lt_or_ge a 2 with h | h
    · by_cases h0:a=0
      · subst h0; rw [Nat.zero_dvd] at ha; (exact om [] [] [(.eq (.n 2) (.n 0))] (.or (.eq (.n 0) (.n 1)) (.eq (.n 0) (.n 2))) [[0,0,1]] rfl ha)
      · left; (exact om [a] [] [(.le (.a Y0 (.n 1)) (.n 2)),(.no (.eq Y0 (.n 0)))] (.eq Y0 (.n 1)) [[1,0,1],[1,1]] rfl h h0)
    · right; (exact om [a] [] [(.le Y0 (.n 2)),(.le (.n 2) Y0)] (.eq Y0 (.n 2)) [[1,0,1],[1,1]] rfl this h)
  | n+1,d,h,h1=>by
    by_cases h0:d=0
    · exact iR n d (by (exact om [d,n] [] [(.eq Y0 (.n 0))] (.le Y0 Y1) [[1,1]] rfl h0)) h1
    by_cases hp:∀ a,a ∣ d→a=1∨a=d
    · exact ⟨d,⟨by (exact om [d] [] [(.no (.eq Y0 (.n 1))),(.no (.eq Y0 (.n 0)))] (.le (.a (.n 1) (.n 1)) Y0) [[0,1,1],[1,1]] rfl h1 h0),hp⟩,Nat.dvd_refl d⟩
    · obtain ⟨a,ha⟩:=Classical.not_forall.mp hp
      obtain ⟨hd,ha⟩:=Classical.not_imp.mp ha
      have hle:=Nat.le_of_dvd (by (exact om [d] [] [(.no (.eq Y0 (.n 0)))] (.le (.a (.n 0) (.n 1)) Y0) [[1,1]] rfl h0)) hd
      refine ad (iR n a (by (exact om [a,n,d] [] [(.le Y2 (.a Y1 (.n 1))),(.le Y0 Y2),(.no (.or (.eq Y0 (.n 1)) (.eq Y0 Y2)))] (.le Y0 Y1) [[1,1,0,0,1],[0,0,1,0,1]] rfl h hle ha)) (by (exact om [a,d] [] [(.no (.or (.eq Y0 (.n 1)) (.eq Y0 Y1)))] (.no (.eq Y0 (.n 1))) [[0,1,1],[1,0,1]] rfl ha))) fun p h2 h3=>?_
      exact ⟨p,h2,Nat.dvd_trans h3 hd⟩
theorem Pr.mul {p:Nat} (h:Pr p) {x y:Int} (hd:(p:Int) ∣ x*y):(p:Int) ∣ x∨(p:Int) ∣ y:=by
  have hd':p ∣ x.natAbs*y.natAbs:=by
    have:=Int.natAbs_dvd_natAbs.mpr hd
    rwa [Int.natAbs_natCast,Int.natAbs_mul] at this
  have back:∀ {z:Int},p ∣ z.natAbs→(p:Int) ∣ z:=fun hz=>Int.natAbs_dvd_natAbs.mp (by rw [Int.natAbs_natCast]; exact hz)
  rcases h.2 _ (Nat.gcd_dvd_left p x.natAbs) with h1 | h1
  · exact .inr (back (Nat.Coprime.dvd_of_dvd_mul_left h1 hd'))
  · exact .inl (back (by rw [← h1]; exact Nat.gcd_dvd_right _ _))
noncomputable def AD (p:Int) (xs:List Int):Prop:=∀ x∈xs,p ∣ x
theorem AD.cons {p x:Int} {xs:List Int} (h:p ∣ x) (h':AD p xs):AD p (x :: xs):=fun y hy=>by
  rcases List.mem_cons.mp hy with rfl | hy
  · exact h
  · exact h' y hy
theorem AD.hd {p x:Int} {xs:List Int} (h:AD p (x :: xs)):p ∣ x:=h x List.mem_cons_self
theorem AD.tl {p x:Int} {xs:List Int} (h:AD p (x :: xs)):AD p xs:=fun y hy=>h y (List.mem_cons_of_mem _ hy)
theorem AD.smul {p c:Int} {xs:List Int} (h:p ∣ c):AD p (Mine.smul c xs):=fun x hx=>by
  refine ad (List.mem_map.mp hx) fun y _ zq145=>?_; subst zq145
  exact Int.dvd_mul_of_dvd_left h
theorem AD.of_add {p:Int}:∀ {xs ys:List Int},AD p (dE xs ys)→AD p xs→AD p ys
  | [],ys,h,_=>h
  | x :: xs,[],_,_=>fun _ h=>nomatch h
  | x :: xs,y :: ys,h,h1=>.cons (by
      have h2:p ∣ x+y:=AD.hd (show AD p ((x+y) :: dE xs ys) from h)
      exact (Int.dvd_add_right h1.hd).mp h2) (AD.of_add (AD.tl (show AD p ((x+y) :: dE xs ys) from h)) h1.tl)
theorem rI {x y:Int} {r s:List Int} (hs:s≠[]):a7 (x :: r) (y :: s)=dE (smul y (x :: r)) (0 :: a7 (x :: r) s):=by
  refine qZ ?_ fun t=>?_
  · have h1:=@cg (x :: r) (y :: s) (List.cons_ne_nil _ _) (List.cons_ne_nil _ _)
    have h2:=@cg (x :: r) s (List.cons_ne_nil _ _) hs
    have h3:=List.length_pos_iff.mpr hs
    rw [hJ,bQ]
    simp only [List.length_cons] at h1 h2 ⊢
    (exact om [(a7 (x :: r) (y :: s)).length,max (r.length+1) ((a7 (x :: r) s).length+1),r.length,(a7 (x :: r) s).length,s.length] [] [(.eq (.a Y0 (.n 1)) (.a (.a Y2 (.n 1)) (.a Y4 (.n 1)))),(.eq (.a Y3 (.n 1)) (.a (.a Y2 (.n 1)) Y4)),(.or (.an (.le (.a Y3 (.n 1)) (.a Y2 (.n 1))) (.eq Y1 (.a Y2 (.n 1)))) (.an (.le (.a Y2 (.n 1)) (.a Y3 (.n 1))) (.eq Y1 (.a Y3 (.n 1)))))] (.eq Y0 Y1) [[1,0,1,0,0,0,1],[1,0,1,1,0,0,1],[1,1,0,0,1,1,0,1],[1,1,0,0,1,0,0,1]] rfl h1 h2 (Mine.jf (r.length+1) ((a7 (x :: r) s).length+1)))
  · show ev _ t=ev _ t
    rw [bJ,fq,bZ,aS,aS,aS,bJ,aS]; grind
theorem yg {p:Nat} (hp:Pr p) {x:Int} {r:List Int} (hx:¬ (p:Int) ∣ x):∀ {ys:List Int},AD p (a7 (x :: r) ys)→AD p ys
  | [],_=>fun _ h=>nomatch h
  | [y],h=>.cons (by
      have h1:(p:Int) ∣ x*y+0:=h _ (by rw [dx]; exact List.mem_cons_self)
      rw [Int.add_zero] at h1
      exact (hp.mul h1).resolve_left hx) (fun _ h=>nomatch h)
  | y :: z :: s,h=>by
    have h1:(p:Int) ∣ x*y+0:=h _ (by rw [dx]; exact List.mem_cons_self)
    rw [Int.add_zero] at h1
    have hy:=(hp.mul h1).resolve_left hx
    rw [rI (List.cons_ne_nil _ _)] at h
    exact .cons hy (yg hp hx (h.of_add (.smul hy)).tl)
theorem yr {p:Nat} (hp:Pr p):∀ {xs ys:List Int},AD p (a7 xs ys)→AD p xs∨AD p ys
  | [],_,_=>.inl fun _ h=>nomatch h
  | x :: r,ys,h=>by
    by_cases hx:(p:Int) ∣ x
    · rcases yr hp (show AD p (a7 r ys) from (AD.of_add (by rw [dx] at h; exact h) (.smul hx)).tl) with h1 | h1
      · exact .inl (.cons hx h1)
      · exact .inr h1
    · exact .inr (yg hp hx h)
theorem DL {xs ys:List Int} (h1:bB xs 0=1) (h2:bB ys 0=1):bB (a7 xs ys) 0=1:=yW fun d hd=>Classical.byContradiction fun hn=>by
  refine ad (iR d d (Nat.le_refl d) hn) fun p hp hpd=>?_
  have hpd':(p:Int) ∣ (d:Int):=Int.natCast_dvd_natCast.mpr hpd
  have hA:AD p (a7 xs ys):=fun x hx=>Int.dvd_trans hpd' (hd x hx)
  have hp1:=hp.1
  rcases yr hp hA with h | h
  · have:=qY h1 h; (exact om [p] [] [(.le (.a (.n 1) (.n 1)) Y0),(.eq Y0 (.n 1))] .ff [[1,1]] rfl hp1 this)
  · have:=qY h2 h; (exact om [p] [] [(.le (.a (.n 1) (.n 1)) Y0),(.eq Y0 (.n 1))] .ff [[1,1]] rfl hp1 this)
theorem gd {c:Int} {xs:List Int}:bB (smul c xs) 0=bB xs 0*c.natAbs:=by
  have:=kA c.natAbs xs c 0 rfl
  rw [Nat.zero_mul,oB] at this; exact this
theorem zm {xs ys:List Int} {l m a b:Int} (g1:bB xs 0=1) (g2:bB ys 0=1) (l1:xs.getLast?=some l) (l2:ys.getLast?=some m) (p1:0 < l) (p2:0 < m) (ha:a≠0) (hb:b≠0) (e:∀ t,a*ev xs t=b*ev ys t):xs=ys:=by
  have t1:Tr xs:=⟨l,l1,by (exact om [] [l] [(.il (.a (.n 0) (.n 1)) Y0)] (.no (.ie Y0 (.n 0))) [[1,0,1]] rfl p1)⟩
  have t2:Tr ys:=⟨m,l2,by (exact om [] [m] [(.il (.a (.n 0) (.n 1)) Y0)] (.no (.ie Y0 (.n 0))) [[1,0,1]] rfl p2)⟩
  have h:smul a xs=smul b ys:=lO (.inr (f6 ha t1)) (.inr (f6 hb t2)) fun t=>by rw [bZ,bZ,e]
  have h1:a.natAbs=b.natAbs:=by
    have:=congrArg (fun x=>bB x 0) h
    rw [gd,gd,g1,g2] at this
    (exact om [a.natAbs,b.natAbs] [] [(.eq (.m 1 Y0) (.m 1 Y1))] (.eq Y0 Y1) [[1,0,1],[1,1]] rfl this)
  have h2:a*l=b*m:=by
    have:=congrArg List.getLast? h
    unfold smul at this
    rw [List.getLast?_map,List.getLast?_map,l1,l2] at this
    exact Option.some.inj this
  have h3:a=b:=by
    rcases (by (exact om [a.natAbs,b.natAbs] [a,b] [(.eq Y0 Y1),(.or (.an (.il (.n 0) Y0) (.ie (.c Y0) Y0)) (.an (.il Y0 (.n 0)) (.ie (.c Y0) (.g Y0)))),(.or (.an (.il (.n 0) Y1) (.ie (.c Y1) Y1)) (.an (.il Y1 (.n 0)) (.ie (.c Y1) (.g Y1))))] (.or (.ie Y0 Y1) (.ie Y0 (.g Y1))) [[0,1,1,0,0,0,1,0,1],[1,0,1,0,0,0,1,0,1],[1,0,0,1,0,1,0,0,0,1],[0,1,0,1,0,1,0,0,0,1]] rfl h1 (bT (a)) (bT (b))):a=b∨a=-b) with h | h
    · exact h
    · exfalso
      rw [h] at h2
      have h4:b*(l+m)=0:=by grind
      rcases Int.mul_eq_zero.mp h4 with h5 | h5
      · exact hb h5
      · (exact om [] [l,m] [(.il (.a (.n 0) (.n 1)) Y0),(.il (.a (.n 0) (.n 1)) Y1),(.ie (.a Y0 Y1) (.n 0))] .ff [[1,1,1]] rfl p1 p2 h5)
  subst h3
  refine lO (.inr t1) (.inr t2) fun t=>?_
  exact Int.eq_of_mul_eq_mul_left ha (e t)
theorem dz {r:List Int} {l:Int}:smul (gOf r l) (cn r l)=r:=by rw [← oB,pT]
theorem jh {r:List Int} {l:Int} (t:Int):ev r t=gOf r l*ev (cn r l) t:=by
  have:=congrArg (fun x=>ev x t) (@dz r l)
  rw [bZ] at this; exact this.symm
theorem bw {r:List Int} {l:Int} (hl:r.getLast?=some l):(cn r l).getLast?=some (l.fdiv (gOf r l)):=by
  unfold cn; rw [List.getLast?_map,hl]; rfl
theorem sZ {r:List Int} {l:Int} (hl:r.getLast?=some l) (h0:l≠0):Tr (cn r l):=⟨_,bw hl,by have:=cP (List.mem_of_getLast? hl) h0; (exact om [] [l.fdiv (gOf r l)] [(.il (.a (.n 0) (.n 1)) Y0)] (.no (.ie Y0 (.n 0))) [[1,0,1]] rfl this)⟩
theorem vc {g k:List Int} {l m:Int} (hg:bB g 0=1) (hk:bB k 0=1) (lg:g.getLast?=some l) (lk:k.getLast?=some m) (g0:l≠0) (k0:m≠0) (h:Dv (ev g) (ev k)):∃ h,Tr h∧∀ t,ev k t=ev g t*ev h t:=by
  refine aJ (h) fun c u hc pu e=>?_
  have tk:Tr k:=⟨m,lk,k0⟩
  have tg:Tr g:=⟨l,lg,g0⟩
  have hu:∃ t,u t≠0:=by
    obtain ⟨t,ht⟩:=tk.nz
    refine ⟨t,fun h=>?_⟩
    have:=e t
    rw [h,Int.mul_zero] at this
    exact (Int.mul_ne_zero hc ht) this
  refine ad (pu.tr hu) fun xs tx ex=>?_
  refine ad (tx) fun n ln n0=>?_
  have hx:∀ t,u t=gOf xs n*ev (cn xs n) t:=fun t=>by rw [ex,← jh]
  have hmem:=List.mem_of_getLast? ln
  have tr:=sZ ln n0
  have h1:smul c k=smul (gOf xs n) (a7 g (cn xs n)):=lO (.inr (f6 hc tk)) (.inr (f6 (ej hmem n0) (ka tg tr))) fun t=>by
    rw [bZ,bZ,bJ,e,hx]; grind
  have h2:c.natAbs=(gOf xs n).natAbs:=by
    have:=congrArg (fun x=>bB x 0) h1
    rw [gd,gd,hk,DL hg (dM hmem n0)] at this
    (exact om [c.natAbs,(gOf xs n).natAbs] [] [(.eq (.m 1 Y0) (.m 1 Y1))] (.eq Y0 Y1) [[1,0,1],[1,1]] rfl this)
  rcases (by (exact om [c.natAbs,(gOf xs n).natAbs] [gOf xs n,c] [(.eq Y0 Y1),(.or (.an (.il (.n 0) Y1) (.ie (.c Y0) Y1)) (.an (.il Y1 (.n 0)) (.ie (.c Y0) (.g Y1)))),(.or (.an (.il (.n 0) Y0) (.ie (.c Y1) Y0)) (.an (.il Y0 (.n 0)) (.ie (.c Y1) (.g Y0))))] (.or (.ie Y0 Y1) (.ie Y0 (.g Y1))) [[0,1,0,1,0,1,0,0,0,1],[1,0,0,1,0,1,0,0,0,1],[1,0,1,0,0,0,1,0,1],[0,1,1,0,0,0,1,0,1]] rfl h2 (bT (c)) (bT (gOf xs n))):gOf xs n=c∨gOf xs n=-c) with h3 | h3
  · refine ⟨cn xs n,tr,fun t=>?_⟩
    have:=e t
    rw [hx,h3] at this
    exact Int.eq_of_mul_eq_mul_left hc (by grind)
  · refine ⟨smul (-1) (cn xs n),f6 (by decide) tr,fun t=>?_⟩
    have:=e t
    rw [hx,h3] at this
    rw [bZ]
    exact Int.eq_of_mul_eq_mul_left hc (by grind)
structure Fac (f d:List Int) (G E:Int→Int):Prop where
  pG:PF G
  pE:PF E
  nz:∃ t,G t≠0
  fe:∀ t,ev f t=G t*ev d t
  fd:∀ t,evd f t=G t*E t
  co:Cop (ev d) E
end Mine
namespace Mine
noncomputable def sl:Int→List Int→List Int
  | _,[]=>[]
  | k,x :: r=>k*x :: sl (k+1) r
theorem Do (k x:Int) (r:List Int):sl k (x :: r)=k*x :: sl (k+1) r:=rfl
theorem xf:∀ (r:List Int) (k:Int),(sl k r).length=r.length
  | [],_=>rfl
  | x :: r,k=>by show (sl (k+1) r).length+1=r.length+1; rw [xf]
theorem AS:∀ {r:List Int} {k:Int},0 < k→Tr r→Tr (sl k r)
  | [],_,_,h=>absurd rfl h.ne
  | [x],k,hk,h=>.one (Int.mul_ne_zero (by (exact om [] [k] [(.il (.a (.n 0) (.n 1)) Y0)] (.no (.ie Y0 (.n 0))) [[1,0,1]] rfl hk)) h.of_one)
  | x :: y :: r,k,hk,h=>Tr.cons (AS (r:=y :: r) (by (exact om [] [k] [(.il (.a (.n 0) (.n 1)) Y0)] (.il (.a (.n 0) (.n 1)) (.a Y0 (.n 1))) [[1,1]] rfl hk)) h.tl)
noncomputable def Irr (F:List Int):Prop:=Tr F∧∀ X,Tr X→X.length < F.length→Cop (ev F) (ev X)
theorem ev1 (c t:Int):ev [c] t=c:=by rw [aS,cX]; exact om [] [c,t] [] (.ie (.a Y0 (.r Y1 0)) Y0) [[1]] rfl
structure Ftr (F:List Int) (l:Int):Prop where
  irr:Irr F
  len:2≤F.length
  len':F.length≤4
  last:F.getLast?=some l
  pos:0 < l
  one:bB F 0=1
theorem pL (t:Int):∀ xs:List Int,ev (xs++[0]) t=ev xs t
  | []=>by rw [List.nil_append,ev1,cX]
  | x :: r=>by rw [List.cons_append,aS,aS,pL t r]
end Mine
set_option maxRecDepth 100000
namespace Mine
open PySem
theorem IntMulOk.sum {k l:Nat} {a b:Int} (h1:Sm k a) (h2:Sm l b) (h:k+l≤134217728):IntMulOk a b:=by
  have e:(2:Nat) ^ 27=134217728:=by decide
  have b1:=h1.bits
  have b2:=h2.bits
  have h3:Builtin.Int.intTooBig (Builtin.Int.intBits a+Builtin.Int.intBits b)=false:=by
    unfold Builtin.Int.intTooBig bitsLine
    exact decide_eq_false (by (exact om [Builtin.Int.intBits a,Builtin.Int.intBits b,k,l] [] [(.le (.a Y2 Y3) (.n 134217728)),(.le Y0 Y2),(.le Y1 Y3)] (.no (.il (.a (.c (.n 134217728)) (.n 1)) (.a (.c Y0) (.c Y1)))) [[1,1,1,1]] rfl h b1 b2))
  unfold IntMulOk
  rw [h3]; simp
theorem eu (t:Int):∀ xs ys:List Int,ev (xs++ys) t=ev xs t+t ^ xs.length*ev ys t
  | [],ys=>by rw [List.nil_append,cX,List.length_nil,Int.pow_zero]; exact om [] [ev ys t] [] (.ie Y0 (.a (.n 0) (.m 1 Y0))) [[1]] rfl
  | x :: r,ys=>by rw [List.cons_append,aS,aS,eu t r ys,List.length_cons,Int.pow_succ]; grind
theorem q8 (t:Int):∀ n:Nat,ev (ch n) t=0
  | 0=>rfl
  | n+1=>by show ev (0 :: ch n) t=0; rw [aS,q8 t n]; exact om [] [t] [] (.ie (.a (.n 0) (.r Y0 0)) (.n 0)) [[1]] rfl
theorem oR {xs ys:List Int} {n:Nat} (h:xs=ys++ch n) (t:Int):ev xs t=ev ys t:=by rw [h,eu,q8]; (exact om [] [ev ys t,t ^ ys.length] [] (.ie (.a Y0 (.r Y1 0)) Y0) [[1]] rfl)
noncomputable def wlz (s m:Int) (xs ys:List Int):List Int:=List.zipWith (fun x y=>x*s - m*y) xs ys
theorem xV (s m t:Int):∀ {xs ys:List Int},xs.length=ys.length→ev (wlz s m xs ys) t=s*ev xs t - m*ev ys t
  | [],[],_=>by show (0:Int)=s*0 - m*0; exact om [] [s,m] [] (.ie (.n 0) (.s (.r Y0 0) (.r Y1 0))) [[1]] rfl
  | x :: r,y :: u,h=>by
    show ev ((x*s - m*y) :: wlz s m r u) t=_
    rw [aS,aS,aS,xV s m t (Nat.succ.inj h)]; grind
noncomputable def wlo (s m:Int) (l0 l1 o:List Int):List Int:=(l0.map fun x=>x*s)++wlz s m l1 o
theorem tD {s m:Int} {l0 l1 o:List Int} (h:l1.length=o.length) (t:Int):ev (wlo s m l0 l1 o) t=s*ev (l0++l1) t - m*t ^ l0.length*ev o t:=by
  have e:(l0.map fun x=>x*s)=smul s l0:=oB
  rw [wlo,eu,eu,e,bZ,bQ,xV s m t h]; grind
theorem ug {s m:Int} {xs ys:List Int} (h:xs.length=ys.length):(wlz s m xs ys).length=ys.length:=by unfold wlz; rw [List.length_zipWith,h,Nat.min_self]
theorem oS {s m:Int} {l0 l1 o:List Int} (h:l1.length=o.length):(wlo s m l0 l1 o).length=l0.length+o.length:=by
  rw [wlo,List.length_append,List.length_map,ug h]
theorem xG {s m:Int} {K L:Nat} (hs:Sm L s) (hm:Sm K m):∀ {xs ys:List Int},AllSm K xs→AllSm L ys→AllSm (K+L+1) (wlz s m xs ys)
  | [],_,_,_=>.nil
  | _ :: _,[],_,_=>.nil
  | x :: r,y :: u,h1,h2=>.cons ((h1.hd.mul hs).sub (hm.mul h2.hd)) (xG hs hm h1.tl h2.tl)
theorem BE {s m:Int} {K L:Nat} {l0 l1 o:List Int} (hs:Sm L s) (hm:Sm K m) (h0:AllSm K l0) (h1:AllSm K l1) (h2:AllSm L o):AllSm (K+L+1) (wlo s m l0 l1 o):=fun x hx=>by
  rcases List.mem_append.mp hx with hx | hx
  · refine ad (List.mem_map.mp hx) fun y hy zq113=>?_; subst zq113
    exact ((h0 y hy).mul hs).mono (Nat.le_succ _)
  · exact xG hs hm h1 h2 x hx
theorem iJ {s m a b:Int}:∀ {xs ys:List Int},xs.length=ys.length→xs.getLast?=some a→ys.getLast?=some b→(wlz s m xs ys).getLast?=some (a*s - m*b)
  | [],[],_,h,_=>by cases h
  | [x],[y],_,h1,h2=>by cases h1; cases h2; rfl
  | x :: x' :: r,y :: y' :: u,h,h1,h2=>by
    rw [List.getLast?_cons_cons] at h1 h2
    have ih:=iJ (s:=s) (m:=m) (Nat.succ.inj h) h1 h2
    show ((x*s - m*y) :: (x'*s - m*y') :: wlz s m r u).getLast?=_
    rw [List.getLast?_cons_cons]; exact ih
  | [_],_ :: _ :: _,h,_,_=>by simp at h
  | _ :: _ :: _,[_],h,_,_=>by simp at h
section
variable {sub:Nat→Nat→Bool} {P:List Fn} {f n dv tr re wl ro:Nat} {H:Hp} {Q:V→Hp→Prop} {X:Nat→Hp→Prop}
noncomputable def AN:PE:=(.and (.cons (.var 1) (.cons (.cmp .eq (.idx (.var 1) (.neg (.cint 1))) (.cint 0)) .nil)))
noncomputable def mL:PS:=(.seq (.assign 1 (.bi .list (.cons (.var 0) .nil)))
 (.seq (.whl AN (.seq (.pop 1) .skip))
 (.seq (.ret (.var 1)) .skip)))
noncomputable def Bg (H:Hp) (k:Nat):Nat:=match H[k]? with | some xs=>xs.length | none=>0
theorem xE (e:P[f]?=some ⟨1,2,mL⟩) {v:V} {row:List Int} (hv:items H v=some (row.map .int))
    (hQ:∀ (ys:List Int) (k:Nat),row=ys++ch k→(ys=[]∨Tr ys)→Q (.lst H.length) (H++[ys.map .int])):aj sub P (n+1) f [v] H Q X:=by
  refine ai e rfl ?_
  dsimp only [mL,qS1,qS2,qS3,qS7,qS9,dy,qE5,br,aC,aD,nM,az,aA,ax,aw,aP,ay,aq,ac,af,au,Nat.reduceSub]
  refine ifSome.mk hv ?_
  refine ⟨fun ρ H'=>∃ (ys:List Int) (k:Nat),ρ=[some v,some (.lst H.length)]∧H'=H++[ys.map .int]∧row=ys++ch k,fun _ H'=>Bg H' H.length,⟨row,0,rfl,rfl,(List.append_nil _).symm⟩,?_⟩
  intro ρ H' zr18; refine aJ (zr18) fun ys k zq29 zq30 hr=>?_; subst zq29; subst zq30
  have hy:(H++[ys.map V.int])[H.length]?=some (ys.map V.int):=ag _ _ _
  dsimp only [AN,qE1,qE5,qE9,bh,fz,aY,bV,cy,D1,ac,af]
  refine ifSome.mk (v:=!(ys.map V.int).isEmpty) (by rw [hy]; rfl) ?_
  rcases List.eq_nil_or_concat ys with rfl | ⟨zs,c,rfl⟩
  · refine (if_neg (by decide)).mpr ?_
    refine ifSome.mk (v:=false) (by rw [hy]; rfl) ?_
    exact hQ [] k hr (.inl rfl)
  · rw [List.concat_eq_append] at hr hy ⊢
    have hne:(!((zs++[c]).map V.int).isEmpty)=true:=by simp
    rw [hne]
    dsimp only [bu]
    have hl:((zs++[c]).map V.int).length=zs.length+1:=by simp
    refine ifSome.mk hy (ifSome.mk (ci (by (exact lin [(List.map V.int (zs++[c])).length,zs.length] [(1,(.a Y1 (.n 1)),Y0)] (.n 1) Y0 rfl (Nat.le_of_eq (hl).symm)))) (ifSome.mk (v:=.int c) ?_ ?_))
    · rw [hl,Nat.add_sub_cancel,List.map_append]
      have:=ag (zs.map V.int) (V.int c) []; rwa [List.length_map] at this
    dsimp only [gi,aZ,ac]
    by_cases hc:c=0
    · rw [decide_eq_true hc]
      dsimp only [bu]
      refine ⟨Nat.le_refl _,ifSome.mk hy ⟨zs.map V.int,c,by rw [List.map_append]; rfl,?_⟩⟩
      rw [bk]
      refine ⟨⟨zs,k+1,rfl,rfl,?_⟩,?_⟩
      · rw [hr,hc,List.append_assoc]; rfl
      · unfold Bg
        rw [ag,hy]
        show (zs.map V.int).length < ((zs++[c]).map V.int).length
        rw [hl,List.length_map]; exact Nat.lt_succ_self _
    · rw [decide_eq_false hc]
      dsimp only [bR]
      exact hQ _ k hr (.inr ⟨c,by simp,hc⟩)
noncomputable def lWl:PS:=(.seq (.setidx 4 (.bin .add (.var 5) (.var 6)) (.bin .sub (.idx (.var 4) (.bin .add (.var 5) (.var 6))) (.bin .mul (.var 2) (.idx (.var 1) (.var 6)))))
 .skip)
noncomputable def bWl:PS:=(.seq (.assign 4 (.comp (.bin .mul (.var 0) (.var 1)) 1 [3] (.seq (.var 0)) .no))
 (.seq (.assign 5 (.bin .sub (.bi .len (.cons (.var 0) .nil)) (.bi .len (.cons (.var 1) .nil))))
 (.seq (.forr 6 (.rng (.cons (.bi .len (.cons (.var 1) .nil)) .nil)) lWl)
 (.seq (.ret (.var 4)) .skip))))
theorem C4 (e:P[f]?=some ⟨4,7,bWl⟩) {a:Nat} {w:V} {l0 l1 o:List Int} {m s:Int} (ha:H[a]?=some ((l0++l1).map .int)) (hw:items H w=some (o.map .int)) (hl:l1.length=o.length) (hn:(l0++l1).length≤900)
    (h1:∀ x∈l0++l1,IntMulOk x s) (h2:∀ y∈o,IntMulOk m y) (hQ:Q (.lst H.length) (H++[(wlo s m l0 l1 o).map .int])):aj sub P (n+1) f [.lst a,w,.int m,.int s] H Q X:=by
  have hn':l0.length+l1.length≤900:=by rw [List.length_append] at hn; exact hn
  refine ai e rfl ?_
  dsimp only [bWl,qS1,qS2,qS3,qS9,b5,qE5,qE8,br,dH,aC,aD,qO1,qI1,qI3,c7,d5,cD,az,aA,ax,aw,aP,ay,aq,bu,ac,af,au,Nat.reduceSub]
  refine ifSome.mk ha ⟨by rw [List.length_map]; unfold lim; (exact lin [(l0++l1).length] [(1,Y0,(.n 900))] Y0 (.n 1000000) rfl hn),?_⟩
  refine fM (h:=V.int) (g:=fun x=>V.int (x*s)) (fun x hx k hk=>⟨h1 x hx,hk⟩) ?_
  have ha':∀ l:List V,(H++[l])[a]?=some ((l0++l1).map .int):=fun l=>ao (ah _ _) ha
  have hw':∀ l:List V,items (H++[l]) w=some (o.map .int):=fun l=>bD (ah _ _) hw
  refine ifSome.mk (ha' _) (ifSome.mk (hw' _) ?_)
  refine ifSome.mk (hw' _) ?_
  rw [List.length_map,List.length_map,List.length_append]
  have ed:((l0.length+l1.length:Nat):Int) - ((o.length:Nat):Int)=((l0.length:Nat):Int):=by (exact om [l0.length,l1.length,o.length] [] [(.eq Y1 Y2)] (.ie (.s (.c (.a Y0 Y1)) (.c Y2)) (.c Y0)) [[1,0,1],[1,1]] rfl hl)
  rw [ed]
  refine mr (iQ (by (exact lin [l1.length,o.length,l0.length] [(1,Y1,Y0),(1,(.a Y2 Y0),(.n 900))] Y1 (.n 900) rfl (Nat.le_of_eq (hl).symm) hn'))) ?_
  rw [Int.toNat_natCast]
  refine bl (fun rest ρ H'=>∃ d1 t1 d2 t2 x,l1=d1++t1∧o=d2++t2∧d1.length=d2.length∧rest=(List.range' d2.length t2.length).map (fun (i:Nat)=>V.int (i:Int)) ∧
    ρ=[some (.lst a),some w,some (.int m),some (.int s),some (.lst H.length),some (.int (l0.length:Int)),x]∧H'=H++[((l0.map fun x=>x*s)++(wlz s m d1 d2++(t1.map fun x=>x*s))).map .int]) ?_ ?_ _ _ _ ⟨[],l1,[],o,_,rfl,rfl,rfl,rfl,rfl,?_⟩
  · rintro x rest ρ H' k ⟨d1,t1,d2,t2,x0,e1,e2,hd,hx,rfl,rfl⟩ hk
    cases t2 with
    | nil=>cases hx
    | cons y t2 =>
      cases t1 with
      | nil=>exfalso; rw [e1,e2] at hl; simp at hl; (exact om [d1.length,d2.length,t2.length] [] [(.eq Y0 Y1),(.eq Y0 (.a Y1 (.a Y2 (.n 1))))] .ff [[1,0,0,1]] rfl hd hl)
      | cons z t1 =>
        rw [bN] at hx
        cases hx
        have hwl:(wlz s m d1 d2).length=d2.length:=ug hd
        have hy:(o.map V.int)[d2.length]?=some (.int y):=by rw [e2,List.map_append,List.map_cons]; have:=ag (d2.map V.int) (V.int y) (t2.map V.int); rwa [List.length_map] at this
        have hdl:d2.length < (o.map V.int).length:=by rw [e2]; simp
        have el:((l0.map fun x=>x*s)++(wlz s m d1 d2++((z :: t1).map fun x=>x*s))).map V.int=(((l0.map fun x=>x*s)++wlz s m d1 d2).map V.int)++V.int (z*s) :: (t1.map fun x=>x*s).map V.int:=by simp
        have ep:(((l0.map fun x=>x*s)++wlz s m d1 d2).map V.int).length=l0.length+d2.length:=by rw [List.length_map,List.length_append,List.length_map,hwl]
        have ei:((l0.length:Nat):Int)+((d2.length:Nat):Int)=((l0.length+d2.length:Nat):Int):=by (exact om [l0.length,d2.length] [] [] (.ie (.a (.c Y0) (.c Y1)) (.c (.a Y0 Y1))) [[1]] rfl)
        rw [el]
        dsimp only [lWl,qS1,qS2,qS5,qE5,qE8,aY,cw,d5,ac,cl,iX,af,au,jm]
        rw [ei]
        refine ifSome.mk (ag _ _ _) (ifSome.mk (aF (k:=l0.length+d2.length) (by rw [List.length_append,ep]; simp)) (ifSome.mk (v:=.int (z*s)) (by rw [← ep]; exact ag _ _ _) ?_))
        refine ifSome.mk (bD (ah _ _) hw) (ifSome.mk (aF hdl) (ifSome.mk hy ⟨h2 y (by rw [e2]; simp),?_⟩))
        refine ⟨⟨Nat.le_refl _,Option.some_ne_none _⟩,?_⟩
        refine ifSome.mk (ag _ _ _) (ifSome.mk (aF (k:=l0.length+d2.length) (by rw [List.length_append,ep]; simp)) ?_)
        rw [bk,← ep,bk]
        refine hk _ _ ⟨d1++[z],t1,d2++[y],t2,_,by rw [e1,List.append_assoc]; rfl,by rw [e2,List.append_assoc]; rfl,by simp [hd],by rw [List.length_append]; rfl,rfl,?_⟩
        have ez:wlz s m (d1++[z]) (d2++[y])=wlz s m d1 d2++[z*s - m*y]:=by unfold wlz; rw [List.zipWith_append hd]; rfl
        rw [ez]; simp
  · intro ρ H' zr19; refine gq (zr19) fun d1 t1 d2 t2 x0 e1 e2 hd hx zq27 zq28=>?_; subst zq27; subst zq28
    cases t2 with
    | cons y t2=>rw [bN] at hx; cases hx
    | nil =>
      have ht:t1=[]:=by
        rw [e1,e2] at hl
        exact List.eq_nil_of_length_eq_zero (by simp at hl; (exact om [t1.length,d1.length,d2.length] [] [(.eq Y1 Y2),(.eq (.a Y1 Y0) Y2)] (.eq Y0 (.n 0)) [[1,0,1,1]] rfl hd hl))
      subst ht
      rw [List.append_nil] at e1 e2
      subst e1 e2
      dsimp only [ac,af]
      rw [List.map_nil,List.append_nil]
      exact hQ
  · show _=H++[((l0.map fun x=>x*s)++([]++(l1.map fun x=>x*s))).map V.int]
    rw [List.nil_append,← List.map_append,List.map_map]; rfl
end
end Mine
set_option maxRecDepth 100000
namespace Mine
open PySem
noncomputable def ngQ:PE:=.neg (.var 1)
theorem jt {H:Hp} {x:V} {xs:List V} (h:items H x=some xs):bn H x=some (!xs.isEmpty):=by
  cases x with
  | tup ys=>cases h; rfl
  | lst m=>show (H[m]?).map _=_; rw [show H[m]?=some xs from h]; rfl
  | _=>cases h
theorem km {xs:List Int} {n:Nat} (h:n≤xs.length):∃ l0 l1,xs=l0++l1∧l1.length=n∧l0.length=xs.length - n :=
  ⟨xs.take (xs.length - n),xs.drop (xs.length - n),(List.take_append_drop _ _).symm,by rw [List.length_drop]; exact om [xs.length - (xs.length - n),xs.length,xs.length - n,n] [] [(.le Y3 Y1),(.or (.an (.le Y3 Y1) (.eq Y1 (.a Y2 Y3))) (.an (.le Y1 Y3) (.eq Y2 (.n 0)))),(.or (.an (.le Y2 Y1) (.eq Y1 (.a Y0 Y2))) (.an (.le Y1 Y2) (.eq Y0 (.n 0))))] (.eq Y0 Y3) [[1,0,0,0,1,0,1],[1,0,0,0,1,1],[1,1,0,1,0,0,1],[1,1,0,1,0,1],[1,0,0,1,0,0,0,1],[1,0,0,0,0,0,1],[1,0,1,0,0,0,0,1]] rfl h (aN (xs.length) (n)) (aN (xs.length) (xs.length - n)),by rw [List.length_take]; exact om [min (xs.length - n) xs.length,xs.length - n,xs.length,n] [] [(.an (.le Y2 (.a Y1 Y3)) (.le Y1 Y2)),(.or (.an (.le Y1 Y2) (.eq Y0 Y1)) (.an (.le Y2 Y1) (.eq Y0 Y2)))] (.eq Y0 Y1) [[1,0,0,0,0,1],[1,0,1,0,0,1],[1,0,0,0,1],[1,0,0,1,1]] rfl (dG (xs.length) (n)) (Mine.tj (xs.length - n) (xs.length))⟩
theorem ly {l0 l1:List Int} {a:Int} (h1:l1≠[]) (h:(l0++l1).getLast?=some a):l1.getLast?=some a:=by
  rw [List.getLast?_append] at h
  cases e:l1.getLast? with
  | none=>exact absurd (List.getLast?_eq_none_iff.mp e) h1
  | some b=>rw [e] at h; exact h
theorem qM {D zs:List Int} {k:Nat} (h:D=zs++ch k) (hz:zs=[]∨Tr zs) (hl:D.getLast?=some 0):zs.length < D.length:=by
  cases k with
  | zero =>
    exfalso
    rw [show ch 0=[] from rfl,List.append_nil] at h
    subst h
    rcases hz with rfl | ⟨l,e,h0⟩
    · cases hl
    · rw [hl] at e; cases e; exact h0 rfl
  | succ k=>rw [h]; simp [ch]
theorem su1 {b y g m n:Nat} (h:b≤y) (h1:m+1=g+b) (h2:n+1=g+y):((m:Nat):Int)≤((n:Nat):Int):=by exact om [m,n,b,y,g] [] [(.le Y2 Y3),(.eq (.a Y0 (.n 1)) (.a Y4 Y2)),(.eq (.a Y1 (.n 1)) (.a Y4 Y3))] (.il (.c Y0) (.c Y1)) [[1,1,1,0,0,1]] rfl h h1 h2
theorem su2 {b y g m n:Nat} (h:b≤y) (h1:m+1=g+b) (h2:n+1=g+y):m≤n:=by exact lin [b,y,m,g,n] [(1,Y0,Y1),(1,(.a Y2 (.n 1)),(.a Y3 Y0)),(1,(.a Y3 Y1),(.a Y4 (.n 1)))] Y2 Y4 rfl h (Nat.le_of_eq h1) (Nat.le_of_eq (h2).symm)
theorem su3 {y g n:Nat} (h0:1≤y) (h1:1≤g) (h2:n+1=g+y):1≤n:=by exact lin [y,g,n] [(1,(.n 1),Y0),(1,(.n 1),Y1),(1,(.a Y1 Y0),(.a Y2 (.n 1)))] (.n 1) Y2 rfl h0 h1 (Nat.le_of_eq (h2).symm)
theorem su4 {i y a b:Nat} (h:i+y≤a) (h1:b≤y):i≤a - b:=by exact om [i,a - b,a,b,y] [] [(.le (.a Y0 Y4) Y2),(.le Y3 Y4),(.an (.le Y2 (.a Y1 Y3)) (.le Y1 Y2))] (.le Y0 Y1) [[1,1,1,1]] rfl h h1 (dG (a) (b))
theorem su5 {g K i d n p:Nat} (hi:i*(K+1)≤d*(K+1)) (hK:K+(d+2)*(K+1)+2*(g+100)≤130000000) (hn:n≤100):(g+(K+i*(K+1))+n)+(g+K+n)≤134217728:=by
  have:(d+2)*(K+1)=d*(K+1)+2*(K+1):=by rw [Nat.add_mul]
  exact om [g,K,i*(K+1),n,d*(K+1),(d+2)*(K+1)] [] [(.le Y2 Y4),(.le (.a (.a Y1 Y5) (.m 2 (.a Y0 (.n 100)))) (.n 130000000)),(.le Y3 (.n 100)),(.eq Y5 (.a Y4 (.m 2 (.a Y1 (.n 1)))))] (.le (.a (.a (.a Y0 (.a Y1 Y2)) Y3) (.a (.a Y0 Y1) Y3)) (.n 134217728)) [[1,1,1,2,0,1]] rfl hi hK hn this
theorem su6 {g y n a i:Nat} (hg:g≤100) (h:n+1=g+y) (h1:i+y≤a) (ha:a≤600):n≤900:=by exact lin [g,n,y,i,a] [(1,Y0,(.n 100)),(1,(.a Y1 (.n 1)),(.a Y0 Y2)),(1,(.a Y3 Y2),Y4),(1,Y4,(.n 600))] Y1 (.n 900) rfl hg (Nat.le_of_eq h) h1 ha
theorem su7 {K i:Nat}:K+i*(K+1)+K+1≤K+(i+1)*(K+1):=by rw [Nat.add_mul]; exact lin [K,i*(K+1)] [] (.a (.a (.a Y0 Y1) Y0) (.n 1)) (.a Y0 (.a Y1 (.m 1 (.a Y0 (.n 1))))) rfl
theorem su8 {k l m n g b y:Nat} (h1:k=n - m) (h2:l=y - b) (h3:m+1=g+b) (h4:n+1=g+y) (hb:b≤y):k=l:=by exact om [k,l,n - m,n,m,y - b,y,b,g] [] [(.eq Y0 Y2),(.eq Y1 Y5),(.eq (.a Y4 (.n 1)) (.a Y8 Y7)),(.eq (.a Y3 (.n 1)) (.a Y8 Y6)),(.or (.an (.le Y4 Y3) (.eq Y3 (.a Y2 Y4))) (.an (.le Y3 Y4) (.eq Y2 (.n 0)))),(.or (.an (.le Y7 Y6) (.eq Y6 (.a Y5 Y7))) (.an (.le Y6 Y7) (.eq Y5 (.n 0))))] (.eq Y0 Y1) [[1,0,1,1,0,1,0,0,1,0,1,0,0,0,1],[1,0,0,1,0,0,0,0,0,0,0,0,0,1],[1,0,0,1,0,1,0,0,1,1,0,0,0,0,1],[1,1,0,0,1,0,1,1,0,0,0,1,0,1],[1,1,0,0,0,0,1,1,0,0,0,1,1],[1,1,0,0,0,0,0,0,0,0,1]] rfl h1 h2 h3 h4 (aN (n) (m)) (aN (y) (b))
theorem su9 {i y a z:Nat} (h:i+y≤a) (h1:z < y):i+1+z≤a:=by exact lin [i,y,a,z] [(1,(.a Y0 Y1),Y2),(1,(.a Y3 (.n 1)),Y1)] (.a (.a Y0 (.n 1)) Y3) Y2 rfl h h1
theorem C3 {i y a b:Nat} (h:i+y≤a) (h1:b≤y):i+1≤a - b+1:=by exact om [i,a - b,a,b,y] [] [(.le (.a Y0 Y4) Y2),(.le Y3 Y4),(.an (.le Y2 (.a Y1 Y3)) (.le Y1 Y2))] (.le (.a Y0 (.n 1)) (.a Y1 (.n 1))) [[1,1,1,1]] rfl h h1 (dG (a) (b))
theorem D9 {m n g b y:Nat} (h1:m+1=g+b) (h2:n+1=g+y) (h:¬ b≤y):¬ ((m:Nat):Int)≤((n:Nat):Int):=by exact om [m,n,g,b,y] [] [(.eq (.a Y0 (.n 1)) (.a Y2 Y3)),(.eq (.a Y1 (.n 1)) (.a Y2 Y4)),(.no (.le Y3 Y4))] (.no (.il (.c Y0) (.c Y1))) [[1,0,1,1,0,1]] rfl h1 h2 h
theorem D7 {m g b:Nat} (h1:m+1=g+b) (h:1≤b) (h2:1≤g):¬ ((m:Nat):Int)≤((0:Nat):Int):=by exact om [m,g,b] [] [(.eq (.a Y0 (.n 1)) (.a Y1 Y2)),(.le (.n 1) Y2),(.le (.n 1) Y1)] (.no (.il (.c Y0) (.c (.n 0)))) [[1,0,1,1,1]] rfl h1 h h2
theorem D8 {z d n g y a i:Nat} (h:z < d) (h1:d=n) (h2:n+1=g+y) (hg:g≤100) (hi:i+y≤a) (ha:a≤600):z≤1000:=by exact om [z,d,n,g,y,i,a] [] [(.le (.a Y0 (.n 1)) Y1),(.eq Y1 Y2),(.eq (.a Y2 (.n 1)) (.a Y3 Y4)),(.le Y3 (.n 100)),(.le (.a Y5 Y4) Y6),(.le Y6 (.n 600))] (.le Y0 (.n 1000)) [[1,1,1,0,1,0,1,1,1]] rfl h h1 h2 hg hi ha
structure Rst (A B r:List Int):Prop where
  tr:r=[]∨Tr r
  len:r.length < B.length
  eq:∃ (c d:Int) (q:Int→Int),c≠0∧d≠0∧PF q∧∀ t,c*ev A t=q t*ev B t+d*ev r t
theorem yS {K k:Nat} {D zs:List Int} (h:D=zs++ch k) (hD:AllSm K D):AllSm K zs:=fun x hx=>hD x (by rw [h]; exact List.mem_append_left _ hx)
noncomputable def lT (G xs:List Int):List Int:=match xs with | []=>[] | _ :: _=>a7 G xs
theorem dU {G xs:List Int} (h:Tr xs):lT G xs=a7 G xs:=by
  cases xs with
  | nil=>exact absurd rfl h.ne
  | cons _ _=>rfl
theorem uh {a:Nat}:∀ {xs ys:List Int},AllSm a xs→AllSm a ys→AllSm (a+1) (dE xs ys)
  | [],ys,_,h=>h.mono (Nat.le_succ _)
  | x :: xs,[],h,_=>h.mono (Nat.le_succ _)
  | x :: xs,y :: ys,h1,h2=>.cons (h1.hd.add h2.hd) (uh h1.tl h2.tl)
theorem oy {a b:Nat}:∀ {xs ys:List Int},AllSm a xs→AllSm b ys→AllSm (a+b+xs.length) (a7 xs ys)
  | [],_,_,_=>.nil
  | x :: r,ys,h1,h2=>by
    have i1:=AllSm.smul h1.hd h2
    have i2:=oy h1.tl h2
    exact (uh (i1.mono (Nat.le_add_right _ r.length)) (.cons .zero i2)).mono (by rw [List.length_cons]; (exact lin [a,b,r.length] [] (.a (.a (.a Y0 Y1) Y2) (.n 1)) (.a (.a Y0 Y1) (.a Y2 (.n 1))) rfl ))
theorem qa:∀ xs:List Int,∃ (ys:List Int) (k:Nat),xs=ys++ch k∧(ys=[]∨Tr ys)
  | []=>⟨[],0,rfl,.inl rfl⟩
  | x :: r=>by
    refine aX (qa r) fun ys k h t=>?_
    rcases t with rfl | t
    · by_cases hx:x=0
      · exact ⟨[],k+1,by rw [h,hx]; rfl,.inl rfl⟩
      · exact ⟨[x],k,by rw [h]; rfl,.inr (.one hx)⟩
    · exact ⟨x :: ys,k,by rw [h]; rfl,.inr t.cons⟩
theorem xR {xs ys:List Int} (hx:xs=[]∨Tr xs) (hy:Tr ys) {c:Int} (e:∀ t,ev xs t=c*ev ys t) (hc:c≠0):Tr xs:=by
  rcases hx with rfl | h
  · obtain ⟨t,ht⟩:=hy.nz
    exact absurd (e t).symm (Int.mul_ne_zero hc ht)
  · exact h
structure Fct (G:List Int) (l:Int) (g:Nat):Prop where
  last:G.getLast?=some l
  pos:0 < l
  one:bB G 0=1
  gs:∀ xs,bB xs 0=1→bB (a7 G xs) 0=1
  sm:AllSm g G
  len:G.length≤100
theorem Fct.tr {G:List Int} {l:Int} {g:Nat} (h:Fct G l g):Tr G:=⟨l,h.last,by have:=h.pos; (exact om [] [l] [(.il (.a (.n 0) (.n 1)) Y0)] (.no (.ie Y0 (.n 0))) [[1,0,1]] rfl this)⟩
theorem Fct.red {G zs ws:List Int} {lG lz lw m:Int} {g:Nat} (h:Fct G lG g) (hz:zs.getLast?=some lz) (z0:lz≠0) (hw:ws.getLast?=some lw) (w0:lw≠0) (hm:m≠0) (e:∀ t,ev zs t=m*(ev G t*ev ws t)):cn zs lz=a7 G (cn ws lw):=by
  have z1:=List.mem_of_getLast? hz
  have w1:=List.mem_of_getLast? hw
  refine zm (dM z1 z0) (h.gs _ (dM w1 w0)) (bw hz) (cN h.last (bw hw)) (cP z1 z0) (Int.mul_pos h.pos (cP w1 w0)) (ej z1 z0) (Int.mul_ne_zero hm (ej w1 w0)) fun t=>?_
  rw [← jh,e,bJ,jh (r:=ws) (l:=lw) t]; grind
section
variable {sub:Nat→Nat→Bool} {P:List Fn} {f n dv tr re wl ro:Nat} {H:Hp} {Q:V→Hp→Prop} {X:Nat→Hp→Prop}
theorem uH {Φ:Call} (g:Int) (ρ:Loc) (H':Hp) (Z:V→Hp→Prop) (hg:af ρ 1=some (.int g)) (hz:Z (.int (-g)) H'):wpE sub Φ ngQ ρ H' Z:=by
  dsimp only [ngQ,wpE]
  exact ifSome.mk hg hz
noncomputable def ub:PE:=(.cmp .ge (.bi .len (.cons (.var 2) .nil)) (.bi .len (.cons (.var 1) .nil)))
noncomputable def A8 (tr wl re:Nat):PS:=(.seq (.assign 2 (.call tr (.cons (.call wl (.cons (.var 2) (.cons (.var 1) (.cons (.idx (.var 2) (.neg (.cint 1))) (.cons (.idx (.var 1) (.neg (.cint 1))) .nil))))) .nil)))
 (.seq (.ite (.var 2) (.seq (.assign 2 (.call re (.cons (.var 2) .nil)))
 .skip) .skip)
 .skip))
noncomputable def qR (tr wl re:Nat):PS:=(.seq (.assign 2 (.bi .list (.cons (.var 0) .nil)))
 (.seq (.whl ub (A8 tr wl re))
 (.seq (.ret (.var 2)) .skip)))
noncomputable def i9 (H:Hp) (o:Option V):Nat:=match o with | some x=>(match items H x with | some xs=>xs.length | none=>0) | none=>0
theorem eX {H:Hp} {x:V} {xs:List V} (h:items H x=some xs):i9 H (some x)=xs.length:=by
  show (match items H x with | some xs=>xs.length | none=>0)=_
  rw [h]
theorem Bm (e:P[f]?=some ⟨2,3,qR tr wl re⟩) (et:P[tr]?=some ⟨1,2,mL⟩) (ew:P[wl]?=some ⟨4,7,bWl⟩) (er:P[re]?=some ⟨1,3,nH dv ngQ⟩) (ed:P[dv]?=some ⟨2,3,bW⟩)
    {v w:V} {G A B:List Int} {lG lb:Int} {g K:Nat} (hG:Fct G lG g) (hv:items H v=some ((lT G A).map .int)) (hw:items H w=some ((a7 G B).map .int)) (tA:A=[]∨Tr A) (hlb:B.getLast?=some lb) (h0:lb≠0) (hA:A.length≤600) (sA:AllSm K A) (sB:AllSm K B)
    (hK:K+(A.length - B.length+2)*(K+1)+2*(g+100)≤130000000)
    (hQ:∀ H' k r,H<+:H'→H'[k]?=some ((lT G r).map .int)→Rst A B r→AllSm (K+(A.length - B.length+1)*(K+1)) r→Q (.lst k) H'):aj sub P (n+3) f [v,w] H Q X:=by
  have hBne:B≠[]:=by intro h; rw [h] at hlb; cases hlb
  have hB1:1≤B.length:=List.length_pos_iff.mpr hBne
  have hG1:1≤G.length:=List.length_pos_iff.mpr hG.tr.ne
  have tB:Tr B:=⟨lb,hlb,h0⟩
  have hBl:=cg hG.tr.ne hBne
  have hBlast:=cN hG.last hlb
  have sG:=hG.sm
  have nG:=hG.len
  have lG0:lG≠0:=by have:=hG.pos; (exact om [] [lG] [(.il (.a (.n 0) (.n 1)) Y0)] (.no (.ie Y0 (.n 0))) [[1,0,1]] rfl this)
  have sMB:AllSm (g+K+G.length) (a7 G B):=oy sG sB
  refine ai e rfl ?_
  dsimp only [qR,qS1,qS2,qS3,qS9,dy,qE5,br,aC,aD,nM,az,aA,ax,aw,aP,ay,aq,ac,af,au,Nat.reduceSub]
  refine ifSome.mk hv ?_
  refine ⟨fun ρ H'=>∃ (a:Nat) (ys:List Int) (i:Nat),ρ=[some v,some w,some (.lst a)]∧H<+:H'∧H'[a]?=some ((lT G ys).map .int)∧(ys=[]∨Tr ys)∧i+ys.length≤A.length∧i≤A.length - B.length+1∧AllSm (K+i*(K+1)) ys ∧
    ∃ (c d:Int) (q:Int→Int),c≠0∧d≠0∧PF q∧∀ t,c*ev A t=q t*ev B t+d*ev ys t,fun ρ H'=>i9 H' (af ρ 2),
    ⟨H.length,A,0,rfl,ah _ _,ag _ _ _,tA,Nat.le_of_eq (Nat.zero_add _),Nat.zero_le _,sA.mono (Nat.le_add_right _ _),1,1,fun _=>0,by decide,by decide,.const 0,fun t=>by dsimp only; (exact om [] [ev A t,ev B t] [] (.ie (.m 1 Y0) (.a (.m 0 Y1) (.m 1 Y0))) [[1]] rfl)⟩,?_⟩
  intro ρ H' zr20; refine gm (zr20) fun a ys i zq13 hp ha ty hi hi2 sy c d q hc hd pq heq=>?_; subst zq13
  dsimp only [ub,qE5,bh,br,aC,aD,xm,aZ,d5,ac,af,xo]
  refine ifSome.mk ha (ifSome.mk (bD hp hw) ?_)
  rw [List.length_map,List.length_map]
  have lens:ys=[]∨(lT G ys).length+1=G.length+ys.length:=by
    rcases ty with h | h
    · exact .inl h
    · exact .inr (by rw [dU h]; exact cg hG.tr.ne h.ne)
  by_cases hge':B.length≤ys.length
  · have hyn:ys≠[]:=fun h=>by rw [h,List.length_nil] at hge'; (exact om [B.length] [] [(.le (.n 1) Y0),(.le Y0 (.n 0))] .ff [[1,1]] rfl hB1 hge')
    have hly:=lens.resolve_left hyn
    rw [decide_eq_true (su1 hge' hBl hly)]
    have ty':Tr ys:=ty.resolve_left hyn
    rw [dU ty'] at ha hly
    refine ad (id ty') fun l hl hl0=>?_
    refine aJ (km (xs:=a7 G ys) (n:=(a7 G B).length) (su2 hge' hBl hly)) fun k0 k1 hsp h1 h2=>?_
    refine aJ (km hge') fun l0 l1 zq114 g1 g2=>?_; subst zq114
    have hl2:=cN hG.last hl
    have hyl:1≤((a7 G (l0++l1)).map V.int).length:=by rw [List.length_map]; exact su3 (Nat.le_trans hB1 hge') hG1 hly
    have sl:Sm (K+i*(K+1)) l:=sy l (List.mem_of_getLast? hl)
    have slb:Sm K lb:=sB lb (List.mem_of_getLast? hlb)
    have sMy:AllSm (g+(K+i*(K+1))+G.length) (a7 G (l0++l1)):=oy sG sy
    have hib:i≤A.length - B.length:=su4 hi hge'
    have hmul:i*(K+1)≤(A.length - B.length)*(K+1):=Nat.mul_le_mul_right _ hib
    have hbits:(g+(K+i*(K+1))+G.length)+(g+K+G.length)≤134217728:=su5 (p:=0) hmul hK nG
    have hMB1:1≤(a7 G B).length:=su3 hB1 hG1 hBl
    have hk1:k1≠[]:=fun h=>Nat.lt_irrefl 0 (Nat.lt_of_lt_of_le hMB1 (Nat.le_of_eq (by rw [← h1,h]; rfl)))
    dsimp only [A8,qS1,qS2,qS3,bj,qE1,qE5,qE9,aO,aY,aC,aD,d5,bu,ac,af,au,jm]
    refine ifSome.mk ha (ifSome.mk (ci hyl) (ifSome.mk (v:=.int (lG*l)) ?_ ?_))
    · rw [List.length_map,List.getElem?_map,← List.getLast?_eq_getElem?,hl2]; rfl
    refine ifSome.mk (bD hp hw) (ifSome.mk (ci (by rw [List.length_map]; exact hMB1)) (ifSome.mk (v:=.int (lG*lb)) ?_ ?_))
    · rw [List.length_map,List.getElem?_map,← List.getLast?_eq_getElem?,hBlast]; rfl
    rw [hsp] at ha
    refine C4 ew ha (bD hp hw) h1 (by rw [← hsp]; exact su6 nG hly hi hA) (fun x hx=>IntMulOk.sum (sMy x (by rw [hsp]; exact hx)) (sMB _ (List.mem_of_getLast? hBlast)) hbits) (fun y hy=>IntMulOk.sum (sMy _ (List.mem_of_getLast? hl2)) (sMB y hy) hbits) ?_
    have eD:=fun t=>tD (s:=lG*lb) (m:=lG*l) (l0:=k0) h1 t
    have lD:(wlo (lG*lb) (lG*l) k0 k1 (a7 G B)).getLast?=some 0:=by
      have:=iJ (s:=lG*lb) (m:=lG*l) h1 (ly hk1 (by rw [← hsp]; exact hl2)) hBlast
      rw [wlo,List.getLast?_append,this,show lG*l*(lG*lb) - lG*l*(lG*lb)=0 from Int.sub_self _]; rfl
    have nD:(wlo (lG*lb) (lG*l) k0 k1 (a7 G B)).length=(a7 G (l0++l1)).length:=by rw [oS h1,hsp,List.length_append,h1]
    -- the same without the factor
    have sD:=BE (l0:=l0) (l1:=l1) slb sl (fun x hx=>sy x (List.mem_append_left _ hx)) (fun x hx=>sy x (List.mem_append_right _ hx)) sB
    have eD':=fun t=>tD (s:=lb) (m:=l) (l0:=l0) g1 t
    have lD':(wlo lb l l0 l1 B).getLast?=some 0:=by
      have:=iJ (s:=lb) (m:=l) g1 (ly (fun h=>Nat.lt_irrefl 0 (Nat.lt_of_lt_of_le hB1 (Nat.le_of_eq (by rw [← g1,h]; rfl)))) hl) hlb
      rw [wlo,List.getLast?_append,this,show l*lb - l*lb=0 from Int.sub_self _]; rfl
    have nD':(wlo lb l l0 l1 B).length=(l0++l1).length:=by rw [oS g1,List.length_append,g1]
    have sD':AllSm (K+(i+1)*(K+1)) (wlo lb l l0 l1 B):=sD.mono su7
    have hk0:k0.length=l0.length:=su8 h2 g2 hBl hly hge'
    rw [← hsp,hk0] at eD
    clear sD
    revert eD lD nD eD' lD' nD' sD'
    generalize wlo (lG*lb) (lG*l) k0 k1 (a7 G B)=D
    generalize wlo lb l l0 l1 B=D'
    intro eD lD nD eD' lD' nD' sD'
    have eDD:∀ t,ev D t=lG*(ev G t*ev D' t):=fun t=>by rw [eD,eD',bJ,bJ]; grind
    refine aX (qa D') fun ws k' hws tw=>?_
    have ews:=fun t=>oR hws t
    have hltw:=qM hws tw lD'
    have sws:=yS hws sD'
    refine xE et (v:=.lst H'.length) (ag _ _ _) fun zs k hz tz=>?_
    have ez:=fun t=>oR hz t
    have hlt:=qM hz tz lD
    have hpz:H<+:H'++[D.map V.int]++[zs.map V.int]:=ae hp (ae (ah _ _) (ah _ _))
    have hzg:(H'++[D.map V.int]++[zs.map V.int])[(H'++[D.map V.int]).length]?=some (zs.map V.int):=ag _ _ _
    refine ifSome.mk (jt (x:=.lst (H'++[D.map V.int]).length) hzg) ?_
    have old:i9 H' (some (.lst a))=(a7 G (l0++l1)).length:=by rw [eX (x:=.lst a) ha,List.length_map,hsp]
    have pq':PF (fun t=>q t*lb+d*(l*t ^ l0.length)):=(pq.mul (.const lb)).add (((PF.const l).mul (wn l0.length)).smul d)
    rcases tw with rfl | tw
    · have hz0:zs=[]:=by
        rcases tz with h | h
        · exact h
        · obtain ⟨t,ht⟩:=h.nz
          exact absurd (by rw [← ez,eDD,ews,cX]; (clear e et ew er ed hG hv hw tA hlb h0 hA sA sB hK hQ hBne hB1 hG1 tB hBl hBlast sG nG lG0 sMB hp hi2 hc hd pq hl0 h1 ha ty hi sy heq lens hge' hyn hly ty' hl hsp h2 g1 g2 hl2 hyl sl slb sMy hib hmul hbits hMB1 hk1 hk0 eD lD nD eD' lD' nD' sD' eDD hz ez hlt hpz hzg old pq' hws ews hltw sws h ht; omega)) ht
      subst hz0
      refine ⟨⟨_,[],i+1,rfl,hpz,hzg,.inl rfl,su9 hi (by rw [← nD']; exact hltw),C3 hi hge',.nil,c*lb,1,fun t=>q t*lb+d*(l*t ^ l0.length),Int.mul_ne_zero hc h0,by decide,pq',fun t=>?_⟩,?_⟩
      · have h3:=heq t
        have h4:=eD' t
        rw [ews,cX] at h4
        rw [cX]; grind
      · show i9 _ (some (V.lst _)) < i9 H' (some (V.lst a))
        rw [eX (x:=.lst _) hzg,old,List.length_map,← nD]; exact hlt
    · have tz':Tr zs:=xR tz (ka hG.tr tw) (c:=lG) (fun t=>by rw [← ez,eDD,ews,bJ]) lG0
      refine ad (tz') fun lz hlz hlz0=>?_
      refine ad (tw) fun lw hlw hlw0=>?_
      have hne:(!(zs.map V.int).isEmpty)=true:=by
        cases zs with
        | nil=>cases hlz
        | cons _ _=>rfl
      rw [hne]
      dsimp only [bu]
      have hmem:=List.mem_of_getLast? hlw
      refine mP (n:=n+1) (ng:=ngQ) uH er (fun a b H' Z X' hz=>jr ed hz) (v:=.lst _) hzg hlz hlz0 (D8 hlt nD hly nG hi hA) ?_
      have trw:=sZ hlw hlw0
      have ered:cn zs lz=lT G (cn ws lw):=by rw [dU trw]; exact hG.red hlz hlz0 hlw hlw0 lG0 fun t=>by rw [← ez,eDD,ews]
      refine ⟨⟨_,cn ws lw,i+1,rfl,ae hpz (ah _ _),by rw [ag,ered],.inr trw,by rw [fH]; exact su9 hi (by rw [← nD']; exact hltw),C3 hi hge',iu hmem hlw0 sws,c*lb,d*gOf ws lw,fun t=>q t*lb+d*(l*t ^ l0.length),Int.mul_ne_zero hc h0,Int.mul_ne_zero hd (ej hmem hlw0),pq',fun t=>?_⟩,?_⟩
      · have h3:=heq t
        have h4:=eD' t
        rw [ews,jh (r:=ws) (l:=lw) t] at h4
        grind
      · show i9 _ (some (V.lst _)) < i9 H' (some (V.lst a))
        rw [eX (x:=.lst _) (ag _ _ _),old,List.length_map,fH,← nD]; exact hlt
  · have hn:¬ (((a7 G B).length:Nat):Int)≤(((lT G ys).length:Nat):Int):=by
      rcases lens with rfl | h
      · exact D7 hBl hB1 hG1
      · exact D9 hBl h hge'
    rw [decide_eq_false hn]
    exact hQ _ _ _ hp ha ⟨ty,Nat.lt_of_not_le hge',c,d,q,hc,hd,pq,heq⟩ (sy.mono (Nat.add_le_add_left (Nat.mul_le_mul_right _ hi2) _))
end
end Mine
set_option maxRecDepth 100000
namespace Mine
open PySem
noncomputable def Comb (A B x:List Int):Prop:=∃ (c:Int) (u v:Int→Int),c≠0∧PF u∧PF v∧∀ t,c*ev x t=u t*ev A t+v t*ev B t
structure Gcd (A B g:List Int) (l:Int):Prop where
  last:g.getLast?=some l
  pos:0 < l
  one:bB g 0=1
  d1:Dv (ev g) (ev A)
  d2:Dv (ev g) (ev B)
  cb:Comb A B g
theorem Comb.rest {A B A1 B1 r:List Int} (h1:Comb A B A1) (h2:Comb A B B1) (R:Rst A1 B1 r):Comb A B r:=by
  refine bv (h1) fun c1 u1 v1 hc1 pu1 pv1 e1=>?_
  refine bv (h2) fun c2 u2 v2 hc2 pu2 pv2 e2=>?_
  refine bv (R.eq) fun c d q hc hd pq e=>?_
  refine ⟨c1*c2*d,fun t=>c2*c*u1 t+-(c1*(q t*u2 t)),fun t=>c2*c*v1 t+-(c1*(q t*v2 t)),Int.mul_ne_zero (Int.mul_ne_zero hc1 hc2) hd,
    (pu1.smul (c2*c)).add ((pq.mul pu2).smul c1).neg,(pv1.smul (c2*c)).add ((pq.mul pv2).smul c1).neg,fun t=>?_⟩
  have:=e1 t; have:=e2 t; have:=e t; grind
theorem Rst.back {A B r:List Int} (R:Rst A B r) {h:Int→Int} (h1:Dv h (ev B)) (h2:Dv h (ev r)):Dv h (ev A):=by
  refine bv (R.eq) fun c d q hc hd pq e=>?_
  exact Dv.comb h1 h2 pq (.const d) hc fun t=>by rw [e t]
theorem DC {d:Nat} (h:1≤d):d+2≤3 ^ d:=by
  induction d with
  | zero=>exact lin [3 ^ 0] [(2,(.n 1),(.n 0))] (.a (.n 0) (.n 2)) Y0 rfl h
  | succ d ih =>
    rcases Nat.eq_zero_or_pos d with rfl | hd
    · decide
    · have:=ih hd
      rw [Nat.pow_succ]; (exact om [d,3 ^ d] [] [(.le (.a Y0 (.n 2)) Y1)] (.le (.a (.a Y0 (.n 1)) (.n 2)) (.r Y1 3)) [[1,2]] rfl this)
theorem Eb {N K K1 a b:Nat} (hb:b < a) (ha:a≤N) (h:K1+1≤2*(K+1)*3 ^ (N - a)):K1+(a - b+1)*(K1+1)+1≤2*(K+1)*3 ^ (N - b):=by
  obtain ⟨d,rfl⟩:=Nat.exists_eq_add_of_le (Nat.le_of_lt hb)
  have hd:1≤d:=by (exact lin [b,d] [(1,(.a Y0 (.n 1)),(.a Y0 Y1))] (.n 1) Y1 rfl hb)
  have e1:N - b=(N - (b+d))+d:=by (exact om [N - b,N,b,N - (b+d),d] [] [(.le (.a Y2 Y4) Y1),(.or (.an (.le Y2 Y1) (.eq Y1 (.a Y0 Y2))) (.an (.le Y1 Y2) (.eq Y0 (.n 0)))),(.or (.an (.le (.a Y2 Y4) Y1) (.eq Y1 (.a Y3 (.a Y2 Y4)))) (.an (.le Y1 (.a Y2 Y4)) (.eq Y3 (.n 0))))] (.eq Y0 (.a Y3 Y4)) [[1,0,0,1,0,0,0,1],[1,1,0,1,0,0,1],[1,0,1,0,0,0,0,1],[1,1,1,0,0,0,1],[1,0,0,0,1,0,1],[1,0,0,0,1,1]] rfl ha (aN (N) (b)) (aN (N) (b+d)))
  rw [e1,Nat.pow_add,← Nat.mul_assoc,Nat.add_sub_cancel_left]
  have e2:K1+(d+1)*(K1+1)+1=(K1+1)*(d+2):=by grind
  rw [e2]
  exact Nat.mul_le_mul h (DC hd)
section
variable {sub:Nat→Nat→Bool} {P:List Fn} {f n dv tr re wl ro sp qu co:Nat} {H:Hp} {Q:V→Hp→Prop} {X:Nat→Hp→Prop}
noncomputable def ul (ro:Nat):PS:=(.seq (.assign 2 (.call ro (.cons (.var 0) (.cons (.var 1) .nil))))
 (.seq (.assign 0 (.var 1))
 (.seq (.assign 1 (.var 2))
 .skip)))
noncomputable def jN (ro re:Nat):PS:=(.seq (.whl (.var 1) (ul ro))
 (.seq (.ret (.call re (.cons (.var 0) .nil)))
 .skip))
theorem Dl {d:Nat} (h:1≤d):d+3≤2*3 ^ d:=by
  have:=DC h
  have:1≤3 ^ d:=Nat.pow_pos (by decide)
  (clear h; omega)
theorem DO {N K K1 a b:Nat} (hb:b < a) (ha:a≤N) (h:K1+1≤2*(K+1)*3 ^ (N - a)):K1+(a - b+2)*(K1+1)≤4*(K+1)*3 ^ N:=by
  obtain ⟨d,rfl⟩:=Nat.exists_eq_add_of_le (Nat.le_of_lt hb)
  have hd:1≤d:=by (exact lin [b,d] [(1,(.a Y0 (.n 1)),(.a Y0 Y1))] (.n 1) Y1 rfl hb)
  rw [Nat.add_sub_cancel_left]
  have e2:K1+(d+2)*(K1+1)+1=(K1+1)*(d+3):=by grind
  have h2:=Nat.mul_le_mul h (Dl hd)
  have h3:2*(K+1)*3 ^ (N - (b+d))*(2*3 ^ d)=4*(K+1)*(3 ^ (N - (b+d))*3 ^ d):=by grind
  rw [← Nat.pow_add] at h3
  have h4:3 ^ (N - (b+d)+d)≤3 ^ N:=Nat.pow_le_pow_right (by decide) (by (exact om [N - (b+d),N,b,d] [] [(.le (.a Y2 Y3) Y1),(.or (.an (.le (.a Y2 Y3) Y1) (.eq Y1 (.a Y0 (.a Y2 Y3)))) (.an (.le Y1 (.a Y2 Y3)) (.eq Y0 (.n 0))))] (.le (.a Y0 Y3) Y1) [[1,0,0,0,1],[1,1,0,1]] rfl ha (aN (N) (b+d))))
  have h5:=Nat.mul_le_mul_left (4*(K+1)) h4
  (exact om [K1,(d+2)*(K1+1),4*(K+1)*3 ^ N,(K1+1)*(d+3),2*(K+1)*3 ^ (N - (b+d))*(2*3 ^ d),4*(K+1)*3 ^ (N - (b+d)+d)] [] [(.eq (.a (.a Y0 Y1) (.n 1)) Y3),(.le Y3 Y4),(.eq Y4 Y5),(.le Y5 Y2)] (.le (.a Y0 Y1) Y2) [[1,1,0,1,1,0,1]] rfl e2 h2 h3 h5)
theorem vh {N K K1 a b:Nat} (ha:a≤N) (h:(a≤b∧K1≤K)∨(b < a∧K1+1≤2*(K+1)*3 ^ (N - a))):K1≤4*(K+1)*3 ^ N:=by
  have h1:1≤3 ^ N:=Nat.pow_pos (by decide)
  rcases h with ⟨_,h⟩ | ⟨_,h⟩
  · have:=Nat.mul_le_mul_left (4*(K+1)) h1
    exact om [K1,4*(K+1)*3 ^ N,K] [] [(.le Y0 Y2),(.le (.r (.m 4 (.a Y2 (.n 1))) 1) Y1)] (.le Y0 Y1) [[1,1,1]] rfl h this
  · have h4:3 ^ (N - a)≤3 ^ N:=Nat.pow_le_pow_right (by decide) (by exact om [N - a,N,a] [] [(.an (.le Y1 (.a Y0 Y2)) (.le Y0 Y1))] (.le Y0 Y1) [[1,0,1]] rfl (dG (N) (a)))
    have h5:=Nat.mul_le_mul_left (2*(K+1)) h4
    have h6:4*(K+1)*3 ^ N=2*(2*(K+1)*3 ^ N):=by grind
    exact om [K1,4*(K+1)*3 ^ N,2*(K+1)*3 ^ (N - a),2*(K+1)*3 ^ N] [] [(.le (.a Y0 (.n 1)) Y2),(.le Y2 Y3),(.eq Y1 (.m 2 Y3))] (.le Y0 Y1) [[3,3,3,0,2]] rfl h h5 h6
theorem vO (e:P[f]?=some ⟨2,3,jN ro re⟩) (eo:P[ro]?=some ⟨2,3,qR tr wl re⟩) (et:P[tr]?=some ⟨1,2,mL⟩) (ew:P[wl]?=some ⟨4,7,bWl⟩) (er:P[re]?=some ⟨1,3,nH dv ngQ⟩) (ed:P[dv]?=some ⟨2,3,bW⟩)
    {v w:V} {G A B:List Int} {lG:Int} {g N K:Nat} (hG:Fct G lG g) (hv:items H v=some ((a7 G A).map .int)) (hw:items H w=some ((lT G B).map .int)) (tA:Tr A) (tB:B=[]∨Tr B) (hA:A.length≤N) (hB:B.length≤N) (hN:N≤100) (sA:AllSm K A) (sB:AllSm K B)
    (hK:4*(K+1)*3 ^ N+2*(g+100)≤130000000)
    (hQ:∀ H' k x l,H<+:H'→H'[k]?=some ((a7 G x).map .int)→Gcd A B x l→AllSm (4*(K+1)*3 ^ N) x→Q (.lst k) H'):aj sub P (n+4) f [v,w] H Q X:=by
  refine ai e rfl ?_
  dsimp only [jN,qS1,qS2,qS9,dy,qE5,aO,aC,aD,az,aA,ax,aw,aP,ay,aq,Nat.reduceSub]
  refine ⟨fun ρ H'=>∃ (v1 w1:V) (A1 B1:List Int) (K1:Nat) (o:Option V),ρ=[some v1,some w1,o]∧H<+:H'∧items H' v1=some ((a7 G A1).map .int)∧items H' w1=some ((lT G B1).map .int)∧Tr A1∧(B1=[]∨Tr B1)∧A1.length≤N∧B1.length≤N ∧
    AllSm K1 A1∧AllSm K1 B1∧((A1.length≤B1.length∧K1≤K)∨(B1.length < A1.length∧K1+1≤2*(K+1)*3 ^ (N - A1.length))) ∧
    (∀ h,Dv h (ev A1)→Dv h (ev B1)→Dv h (ev A)∧Dv h (ev B))∧Comb A B A1∧Comb A B B1,fun ρ H'=>i9 H' (af ρ 1),⟨v,w,A,B,K,none,rfl,List.prefix_refl _,hv,hw,tA,tB,hA,hB,sA,sB,?_,fun h h1 h2=>⟨h1,h2⟩,?_,?_⟩,?_⟩
  · by_cases h:A.length≤B.length
    · exact .inl ⟨h,Nat.le_refl _⟩
    · refine .inr ⟨by (exact lin [B.length,A.length] [(1,(.a Y0 (.n 1)),Y1)] (.a Y0 (.n 1)) Y1 rfl (Nat.not_le.mp h)),?_⟩
      have:1≤3 ^ (N - A.length):=Nat.pow_pos (by decide)
      have:=Nat.mul_le_mul_left (2*(K+1)) this
      (exact om [K,2*(K+1)*3 ^ (N - A.length)] [] [(.le (.r (.m 2 (.a Y0 (.n 1))) 1) Y1)] (.le (.a Y0 (.n 1)) Y1) [[1,1]] rfl this)
  · exact ⟨1,fun _=>1,fun _=>0,by decide,.const 1,.const 0,fun t=>by dsimp only; (exact om [] [ev A t,ev B t] [] (.ie (.m 1 Y0) (.a (.m 1 Y0) (.m 0 Y1))) [[1]] rfl)⟩
  · exact ⟨1,fun _=>0,fun _=>1,by decide,.const 0,.const 1,fun t=>by dsimp only; (exact om [] [ev B t,ev A t] [] (.ie (.m 1 Y0) (.a (.m 0 Y1) (.m 1 Y0))) [[1]] rfl)⟩
  intro ρ H' zr21; refine fh (zr21) fun v1 w1 A1 B1 K1 o zq16 hp hv1 hw1 tA1 tB1 nA nB sA1 sB1 hk back cA cB=>?_; subst zq16
  dsimp only [ac,af]
  refine ifSome.mk (jt hw1) ?_
  rcases tB1 with rfl | tB1
  · refine (if_neg (show ¬ (!(([]:List Int).map V.int).isEmpty)=true by decide)).mpr ?_
    refine ad (tA1) fun l hl hl0=>?_
    have hmem:=List.mem_of_getLast? hl
    have hll:=cN hG.last hl
    have lG0:lG*l≠0:=Int.mul_ne_zero (by have:=hG.pos; (exact om [] [lG] [(.il (.a (.n 0) (.n 1)) Y0)] (.no (.ie Y0 (.n 0))) [[1,0,1]] rfl this)) hl0
    have hln:=cg hG.tr.ne (show A1≠[] by intro h; rw [h] at hl; cases hl)
    refine mP (n:=n+2) (ng:=ngQ) uH er (fun a b H' Z X' hz=>jr ed hz) hv1 hll lG0 (by have:=hG.len; (exact om [(a7 G A1).length,N,A1.length,G.length] [] [(.le Y1 (.n 100)),(.le Y2 Y1),(.eq (.a Y0 (.n 1)) (.a Y3 Y2)),(.le Y3 (.n 100))] (.le Y0 (.n 1000)) [[1,1,1,1,0,1]] rfl hN nA hln this)) ?_
    have ered:cn (a7 G A1) (lG*l)=a7 G (cn A1 l):=hG.red hll lG0 hl hl0 (m:=1) (by decide) fun t=>by rw [bJ,Int.one_mul]
    rw [ered]
    have hg:Dv (ev (cn A1 l)) (ev A1):=⟨1,fun _=>gOf A1 l,by decide,.const _,fun t=>by rw [Int.one_mul,jh (r:=A1) (l:=l) t,Int.mul_comm]⟩
    obtain ⟨b1,b2⟩:=back _ hg (Dv.zero _)
    refine hQ _ _ _ _ (ae hp (ah _ _)) (ag _ _ _) ⟨bw hl,cP hmem hl0,dM hmem hl0,b1,b2,?_⟩ (iu hmem hl0 (sA1.mono (vh nA hk)))
    refine bv (cA) fun c u v hc pu pv ee=>?_
    exact ⟨c*gOf A1 l,u,v,Int.mul_ne_zero hc (ej hmem hl0),pu,pv,fun t=>by rw [← ee,jh (r:=A1) (l:=l) t,Int.mul_assoc]⟩
  · have hne:(!((lT G B1).map V.int).isEmpty)=true:=by
      cases e1:lT G B1 with
      | nil=>rw [dU tB1] at e1; exact absurd e1 (ka hG.tr tB1).ne
      | cons _ _=>rfl
    rw [hne]
    have hw2:=hw1
    rw [dU tB1] at hw2
    refine ad (id tB1) fun lb hlb hlb0=>?_
    dsimp only [ul,qS1,qS2,qS3,qE5,aO,aC,aD,bu,ac,af,au]
    have hsz:K1+(A1.length - B1.length+2)*(K1+1)≤4*(K+1)*3 ^ N:=by
      rcases hk with ⟨h1,h2⟩ | ⟨h1,h2⟩
      · rw [Nat.sub_eq_zero_of_le h1]
        have:1≤3 ^ N:=Nat.pow_pos (by decide)
        have:=Nat.mul_le_mul_left (4*(K+1)) this
        (exact om [K1,4*(K+1)*3 ^ N,K] [] [(.le Y0 Y2),(.le (.r (.m 4 (.a Y2 (.n 1))) 1) Y1)] (.le (.a Y0 (.m 2 (.a Y0 (.n 1)))) Y1) [[1,3,1]] rfl h2 this)
      · exact DO h1 nA h2
    refine Bm eo et ew er ed hG (A:=A1) (by rw [dU tA1]; exact hv1) hw2 (.inr tA1) hlb hlb0 (by (exact lin [N,A1.length] [(1,Y0,(.n 100)),(1,Y1,Y0)] Y1 (.n 600) rfl hN nA)) sA1 sB1 (by (exact lin [4*(K+1)*3 ^ N,g,K1,(A1.length - B1.length+2)*(K1+1)] [(1,(.a Y0 (.m 2 (.a Y1 (.n 100)))),(.n 130000000)),(1,(.a Y2 Y3),Y0)] (.a (.a Y2 Y3) (.m 2 (.a Y1 (.n 100)))) (.n 130000000) rfl hK hsz)) fun H2 k r hp2 hr R sr=>?_
    have sB2:AllSm (K1+(A1.length - B1.length+1)*(K1+1)) B1:=sB1.mono (Nat.le_add_right _ _)
    refine ⟨⟨w1,.lst k,B1,r,_,_,rfl,ae hp hp2,bD hp2 hw2,hr,tB1,R.tr,nB,by have:=R.len; (exact om [r.length,N,B1.length] [] [(.le Y2 Y1),(.le (.a Y0 (.n 1)) Y2)] (.le Y0 Y1) [[1,1,1]] rfl nB this),sB2,sr,.inr ⟨R.len,?_⟩,fun h h1 h2=>back h (R.back h1 h2) h1,cB,cA.rest cB R⟩,?_⟩
    · rcases hk with ⟨h1,h2⟩ | ⟨h1,h2⟩
      · rw [Nat.sub_eq_zero_of_le h1]
        have:1≤3 ^ (N - B1.length):=Nat.pow_pos (by decide)
        have:=Nat.mul_le_mul_left (2*(K+1)) this
        (exact om [K1,2*(K+1)*3 ^ (N - B1.length),K] [] [(.le Y0 Y2),(.le (.r (.m 2 (.a Y2 (.n 1))) 1) Y1)] (.le (.a (.a Y0 (.m 1 (.a Y0 (.n 1)))) (.n 1)) Y1) [[1,2,1]] rfl h2 this)
      · exact Eb h1 nA h2
    · show i9 H2 (some (V.lst k)) < i9 H' (some w1)
      rw [eX (x:=.lst k) hr,eX hw2,List.length_map,List.length_map]
      have hlb1:=cg hG.tr.ne tB1.ne
      have hG1:1≤G.length:=List.length_pos_iff.mpr hG.tr.ne
      rcases R.tr with rfl | h
      · show 0 < _; have:=List.length_pos_iff.mpr tB1.ne; (exact om [(a7 G B1).length,G.length,B1.length] [] [(.eq (.a Y0 (.n 1)) (.a Y1 Y2)),(.le (.n 1) Y1),(.le (.a (.n 0) (.n 1)) Y2)] (.le (.a (.n 0) (.n 1)) Y0) [[1,0,1,1,1]] rfl hlb1 hG1 this)
      · rw [dU h]
        have:=cg hG.tr.ne h.ne
        have:=R.len
        (clear e eo et ew er ed hG hv hw tA tB hA hB hN sA sB hK hQ hp hv1 hw1 tA1 nA nB sA1 sB1 hk back cA cB tB1 hne hw2 hlb hlb0 hsz hp2 hr R sr sB2 hG1 h; omega)
theorem qi {i:Int} (h:0≤i∧i≤1000000):Sm 64 i:=by
  have e:(2:Nat) ^ 64=18446744073709551616:=by decide
  unfold Sm; (clear e; omega)
noncomputable def nY:PS:=(.seq (.ret (.comp (.bin .mul (.var 0) (.idx (.var 1) (.var 0))) 1 [0] (.rng (.cons (.cint 1) (.cons (.bi .len (.cons (.var 0) .nil)) .nil))) .no))
 .skip)
theorem xe {k:Nat}:∀ (r:List Int) (g:Nat→Int),(∀ i,i < r.length→g (k+i)=r.getD i 0)→((List.range' k r.length).map fun (i:Nat)=>V.int ((i:Int)*g i))=(sl (k:Int) r).map V.int
  | [],_,_=>rfl
  | x :: r,g,h=>by
    rw [bN]
    show V.int ((k:Int)*g k) :: _=V.int ((k:Int)*x) :: _
    have h0:=h 0 (by simp)
    rw [Nat.add_zero] at h0
    rw [h0]
    have:=@xe (k+1) r g (fun i hi=>by
      have:=h (i+1) (by simp; exact hi)
      rw [show k+(i+1)=k+1+i by (exact om [k,i] [] [] (.eq (.a Y0 (.a Y1 (.n 1))) (.a (.a Y0 (.n 1)) Y1)) [[1]] rfl)] at this
      rw [this]; rfl)
    rw [this]
    rfl
theorem zQ (e:P[f]?=some ⟨1,1,nY⟩) {a:Nat} {c:Int} {r:List Int} (ha:H[a]?=some ((c :: r).map .int)) (hl:r.length≤900) (hQ:Q (.lst H.length) (H++[(sl 1 r).map .int])):aj sub P (n+1) f [.lst a] H Q X:=by
  refine ai e rfl ?_
  dsimp only [nY,qS1,qS2,qS9,qE1,qE5,qE8,br,aY,dH,aC,aD,qO1,qI3,c7,cD,az,aA,ax,aw,ay,aq,bu,ac,af,Nat.reduceSub]
  refine ifSome.mk ha ?_
  rw [List.length_map,List.length_cons]
  refine DQ (aB (by decide) (by decide)) (aB (by (exact om [r.length] [] [] (.il (.g (.n 1000000)) (.c (.a Y0 (.n 1)))) [[1]] rfl)) (by (exact om [r.length] [] [(.le Y0 (.n 900))] (.il (.c (.a Y0 (.n 1))) (.n 1000000)) [[1,1]] rfl hl))) ⟨by rw [List.length_map,List.length_range']; unfold lim; (exact om [((↑(r.length+1):Int) - 1).toNat,r.length] [] [(.le Y1 (.n 900)),(.or (.an (.il (.n 0) (.s (.c (.a Y1 (.n 1))) (.n 1))) (.ie (.c Y0) (.s (.c (.a Y1 (.n 1))) (.n 1)))) (.an (.il (.s (.c (.a Y1 (.n 1))) (.n 1)) (.n 0)) (.eq Y0 (.n 0))))] (.le Y0 (.n 1000000)) [[1,1,0,1]] rfl hl (bo ((↑(r.length+1):Int) - 1))),?_⟩
  rw [show (((r.length+1:Nat):Int) - 1).toNat=r.length by (exact om [((↑(r.length+1):Int) - 1).toNat,r.length] [] [(.or (.an (.il (.n 0) (.s (.c (.a Y1 (.n 1))) (.n 1))) (.ie (.c Y0) (.s (.c (.a Y1 (.n 1))) (.n 1)))) (.an (.il (.s (.c (.a Y1 (.n 1))) (.n 1)) (.n 0)) (.eq Y0 (.n 0))))] (.eq Y0 Y1) [[1,0,0,1],[1,1],[1,0,1]] rfl (bo ((↑(r.length+1):Int) - 1)))]
  refine fM (g:=fun (i:Nat)=>V.int ((1+(i:Int))*r.getD i 0)) (fun i hi k' hk'=>?_) ?_
  · have hi':i < r.length:=by have:=(List.mem_range'_1.mp hi).2; (exact om [i,r.length] [] [(.le (.a Y0 (.n 1)) (.a (.n 0) Y1))] (.le (.a Y0 (.n 1)) Y1) [[1,1]] rfl this)
    show ifSome (H[a]?) fun xs=>ifSome (cv xs.length (1+(i:Int))) fun j=>ifSome xs[j]? fun v=>_
    refine ifSome.mk ha (ifSome.mk (v:=i+1) ?_ (ifSome.mk (v:=.int (r.getD i 0)) ?_ ⟨IntMulOk.left (qi (by (exact om [i,r.length] [] [(.le Y1 (.n 900)),(.le (.a Y0 (.n 1)) Y1)] (.an (.il (.n 0) (.a (.n 1) (.c Y0))) (.il (.a (.n 1) (.c Y0)) (.n 1000000))) [[1],[1,1,1]] rfl hl hi'))),hk'⟩))
    · rw [List.length_map,List.length_cons,show 1+(i:Int)=((i+1:Nat):Int) by (exact om [i] [] [] (.ie (.a (.n 1) (.c Y0)) (.c (.a Y0 (.n 1)))) [[1]] rfl)]; exact aF (by (exact lin [i,r.length] [(1,(.a Y0 (.n 1)),Y1)] (.a (.a Y0 (.n 1)) (.n 1)) (.a Y1 (.n 1)) rfl hi'))
    · rw [List.map_cons,List.getElem?_cons_succ,List.getElem?_map,List.getElem?_eq_getElem hi',List.getD_eq_getElem?_getD,List.getElem?_eq_getElem hi']; rfl
  · have h1:=@xe 1 r (fun i=>r.getD (i - 1) 0) (fun i _=>by show r.getD (1+i - 1) 0=_; rw [Nat.add_sub_cancel_left])
    have h2:((List.range' 0 r.length).map fun (i:Nat)=>V.int ((1+(i:Int))*r.getD i 0))=(sl 1 r).map V.int:=by
      rw [show (sl 1 r)=sl ((1:Nat):Int) r from rfl,← h1]
      apply List.ext_getElem
      · simp
      · intro j h3 h4
        simp
    rw [h2]; exact hQ
noncomputable def AQ (wl:Nat):PS:=(.seq (.assign 4 (.bin .fdiv (.idx (.var 2) (.neg (.cint 1))) (.idx (.var 1) (.neg (.cint 1)))))
 (.seq (.app 3 (.var 4))
 (.seq (.assign 2 (.call wl (.cons (.var 2) (.cons (.var 1) (.cons (.var 4) (.cons (.cint 1) .nil))))))
 (.seq (.pop 2)
 .skip))))
noncomputable def uC (wl:Nat):PS:=(.seq (.assign 2 (.bi .list (.cons (.var 0) .nil)))
 (.seq (.assign 3 (.lst .nil))
 (.seq (.whl ub (AQ wl))
 (.seq (.rev 3) (.seq (.ret (.var 3)) .skip)))))
theorem y8 {β:Type} {H K:List β} {x y:β} {a:Nat} {z:β} (h:a≠H.length+1) (e:(H++x :: y :: K)[a]?=some z) (y':β):(H++x :: y' :: K)[a]?=some z:=by
  rcases Nat.lt_trichotomy a (H.length+1) with h1 | h1 | h1
  · rw [List.getElem?_append,show (x :: y' :: K)=[x]++y' :: K from rfl] at *
    by_cases h2:a < H.length
    · rw [if_pos h2] at e ⊢; exact e
    · rw [if_neg h2] at e ⊢
      obtain rfl:a=H.length:=by (exact om [a,H.length] [] [(.le (.a Y0 (.n 1)) (.a Y1 (.n 1))),(.no (.le (.a Y0 (.n 1)) Y1))] (.eq Y0 Y1) [[1,0,1],[1,1]] rfl h1 h2)
      rw [Nat.sub_self] at e ⊢; exact e
  · exact absurd h1 h
  · rw [List.getElem?_append_right (by (exact lin [H.length,a] [(1,(.a (.a Y0 (.n 1)) (.n 1)),Y1)] Y0 Y1 rfl h1))] at e ⊢
    obtain ⟨j,hj⟩:∃ j,a - H.length=j+2:=⟨a - H.length - 2,by (exact om [a - H.length,a,H.length,a - H.length - 2] [] [(.le (.a (.a Y2 (.n 1)) (.n 1)) Y1),(.an (.le Y1 (.a Y0 Y2)) (.le Y0 Y1)),(.or (.an (.le (.n 2) Y0) (.eq Y0 (.a Y3 (.n 2)))) (.an (.le Y0 (.n 2)) (.eq Y3 (.n 0))))] (.eq Y0 (.a Y3 (.n 2))) [[1,0,0,0,0,0,1],[1,1,1,0,0,1],[1,0,0,0,0,1],[1,0,0,0,1]] rfl h1 (dG (a) (H.length)) (aN (a - H.length) (2)))⟩
    rw [hj] at e ⊢; exact e
theorem qq1 (n:Nat):n≠n+1:=Nat.ne_of_lt (Nat.lt_succ_self n)
theorem qq2 {a b:Nat} (h:a+1=b+0):¬ ((b:Nat):Int)≤((a:Nat):Int):=by exact om [b,a] [] [(.eq (.a Y1 (.n 1)) (.a Y0 (.n 0)))] (.no (.il (.c Y0) (.c Y1))) [[1,1]] rfl h
theorem qq3 {a b c:Nat} (h:a+1=b+(c+1)):((b:Nat):Int)≤((a:Nat):Int):=by exact om [b,a,c] [] [(.eq (.a Y1 (.n 1)) (.a Y0 (.a Y2 (.n 1))))] (.il (.c Y0) (.c Y1)) [[1,0,1]] rfl h
theorem qq5 {a b:Nat} (h:1≤b) (g:((b:Nat):Int)≤((a:Nat):Int)):1≤a:=by exact om [a,b] [] [(.le (.n 1) Y1),(.il (.c Y1) (.c Y0))] (.le (.n 1) Y0) [[1,1,1]] rfl h g
theorem qq6 {A y b G h:Nat} (h1:G≤h) (h2:y+1=b+G) (h3:A+1=b+h) (h4:A≤800):y≤900:=by exact lin [G,h,y,b,A] [(1,Y0,Y1),(1,(.a Y2 (.n 1)),(.a Y3 Y0)),(1,(.a Y3 Y1),(.a Y4 (.n 1))),(1,Y4,(.n 800))] Y2 (.n 900) rfl h1 (Nat.le_of_eq h2) (Nat.le_of_eq (h3).symm) h4
theorem qq9 {a b:Nat} (h:a+2≤b):b≠a+1∧a≤b:=by exact om [b,a] [] [(.le (.a Y1 (.n 2)) Y0)] (.an (.no (.eq Y0 (.a Y1 (.n 1)))) (.le Y1 Y0)) [[1,0,1],[1,1]] rfl h
theorem Eh {d y b c:Nat} (h:d+1=y) (g:y+1=b+(c+1)):d+1=b+c:=by exact om [d,b,c,y] [] [(.eq (.a Y0 (.n 1)) Y3),(.eq (.a Y3 (.n 1)) (.a Y1 (.a Y2 (.n 1))))] (.eq (.a Y0 (.n 1)) (.a Y1 Y2)) [[1,0,1,0,1],[1,1,0,1]] rfl h g
theorem CD (e:P[f]?=some ⟨2,5,uC wl⟩) (ew:P[wl]?=some ⟨4,7,bWl⟩) {v w:V} {A B h:List Int} {lb:Int} {K L:Nat} (hv:items H v=some (A.map .int)) (hw:items H w=some (B.map .int)) (hlb:B.getLast?=some lb) (h0:lb≠0)
    (eq:∀ t,ev A t=ev B t*ev h t) (hlen:A.length+1=B.length+h.length) (hA:A.length≤800) (sB:AllSm K B) (sh:AllSm L h) (hKL:L+K≤134217728)
    (hQ:∀ H' k,H<+:H'→H'[k]?=some (h.map .int)→Q (.lst k) H'):aj sub P (n+2) f [v,w] H Q X:=by
  have hB1:1≤B.length:=by cases B with | nil=>cases hlb | cons _ _=>simp
  have hBne:B≠[]:=by intro h; rw [h] at hB1; simp at hB1
  refine ai e rfl ?_
  dsimp only [uC,qS1,qS2,qS3,qS8,qS9,dy,qE5,br,cY,aC,aD,nM,az,aA,ax,aw,aP,ay,aq,ac,af,au,Nat.reduceSub]
  refine ifSome.mk hv ?_
  have eH:H++[A.map V.int]++[([]:List V)]=H++(A.map V.int) :: ([]:List V) :: []:=by rw [List.append_assoc]; rfl
  have eL:(H++[A.map V.int]).length=H.length+1:=by simp
  rw [eH,eL]
  refine ⟨fun ρ H'=>∃ (a:Nat) (ys h1 h2:List Int) (x:List V) (KK:Hp) (o:Option V),ρ=[some v,some w,some (.lst a),some (.lst (H.length+1)),o]∧H'=H++x :: (h2.reverse.map V.int) :: KK∧a≠H.length+1∧H.length≤a∧H'[a]?=some (ys.map .int)∧h=h1++h2 ∧
    (∀ t,ev ys t=ev B t*ev h1 t)∧ys.length+1=B.length+h1.length,fun ρ H'=>i9 H' (af ρ 2),⟨H.length,A,h,[],_,[],none,rfl,rfl,by exact qq1 _,Nat.le_refl _,ag _ _ _,(List.append_nil _).symm,eq,hlen⟩,?_⟩
  intro ρ H' zr22; refine iI (zr22) fun a ys h1 h2 x KK o zq14 zq15 ha1 ha2 ha hh hev hyl=>?_; subst zq14; subst zq15
  have hw':∀ (z y:List V) (KK:Hp),items (H++z :: y :: KK) w=some (B.map .int):=fun z y KK=>bD (ah _ _) hw
  dsimp only [ub,qE5,bh,br,aC,aD,xm,aZ,d5,ac,af,xo]
  refine ifSome.mk ha (ifSome.mk (hw' _ _ _) ?_)
  rw [List.length_map,List.length_map]
  rcases List.eq_nil_or_concat h1 with rfl | ⟨g1,hl,rfl⟩
  · have hlt:¬ ((B.length:Nat):Int)≤((ys.length:Nat):Int):=by rw [List.length_nil] at hyl; exact qq2 hyl
    rw [decide_eq_false hlt]
    dsimp only [bR]
    refine ⟨Nat.le_succ _,ifSome.mk (cW _ _ _ _) ?_⟩
    show Q (V.lst (H.length+1)) ((H++x :: (h2.reverse.map V.int) :: KK).set (H.length+1) (h2.reverse.map V.int).reverse)
    rw [gb]
    refine hQ _ _ (ah _ _) ?_
    rw [cW,← List.map_reverse,List.reverse_reverse,hh]; rfl
  · rw [List.concat_eq_append] at hh hev hyl
    have hge:((B.length:Nat):Int)≤((ys.length:Nat):Int):=by rw [List.length_append,List.length_singleton] at hyl; exact qq3 hyl
    rw [decide_eq_true hge]
    have hg1:(g1++[hl]).getLast?=some hl:=by simp
    have hys:ys=a7 B (g1++[hl]):=qZ (by have:=cg hBne (show g1++[hl]≠[] by simp); (exact om [ys.length,(a7 B (g1++[hl])).length,B.length,(g1++[hl]).length] [] [(.eq (.a Y0 (.n 1)) (.a Y2 Y3)),(.eq (.a Y1 (.n 1)) (.a Y2 Y3))] (.eq Y0 Y1) [[1,0,1,1],[1,1,0,0,1]] rfl hyl this)) fun t=>by
      show ev ys t=ev _ t
      rw [bJ,hev]
    have hyla:ys.getLast?=some (lb*hl):=by rw [hys]; exact cN hlb hg1
    have hyl1:1≤(ys.map V.int).length:=by rw [List.length_map]; exact qq5 hB1 hge
    have hyle:ys.length≤900:=by
      have:(g1++[hl]).length≤h.length:=by rw [hh]; simp
      exact qq6 this hyl hlen hA
    refine aJ (km (xs:=ys) (n:=B.length) (by exact Int.ofNat_le.mp hge)) fun l0 l1 hsp hn1 hn2=>?_
    have shl:Sm L hl:=sh hl (by rw [hh]; simp)
    have hl1:l1≠[]:=by intro h; rw [h] at hn1; rw [← hn1] at hB1; exact absurd hB1 (by decide)
    dsimp only [AQ,qS1,qS2,qS3,qS6,qS7,qE1,qE5,qE8,qE9,aO,aY,aC,aD,d5,bu,ac,cl,af,au,jm]
    refine ifSome.mk ha (ifSome.mk (ci hyl1) (ifSome.mk (v:=.int (lb*hl)) ?_ ?_))
    · rw [List.length_map,List.getElem?_map,← List.getLast?_eq_getElem?,hyla]; rfl
    refine ifSome.mk (hw' _ _ _) (ifSome.mk (ci (by rw [List.length_map]; exact hB1)) (ifSome.mk (v:=.int lb) ?_ ?_))
    · rw [List.length_map,List.getElem?_map,← List.getLast?_eq_getElem?,hlb]; rfl
    refine ⟨h0,?_⟩
    rw [show (lb*hl).fdiv lb=hl from Int.mul_fdiv_cancel_left hl h0]
    refine ⟨Nat.le_succ _,ifSome.mk (cW _ _ _ _) ⟨?_,?_⟩⟩
    · rw [List.length_map,List.length_reverse]
      have:h2.length≤h.length:=by rw [hh,List.length_append]; exact Nat.le_add_left _ _
      unfold lim; (exact om [h2.length,A.length,B.length,h.length] [] [(.eq (.a Y1 (.n 1)) (.a Y2 Y3)),(.le Y1 (.n 800)),(.le Y0 Y3)] (.le (.a Y0 (.n 1)) (.n 1000000)) [[1,0,1,1,1]] rfl hlen hA this)
    rw [gb]
    have ha':=y8 ha1 ha (h2.reverse.map V.int++[V.int hl])
    rw [hsp] at ha'
    refine C4 ew ha' (hw' _ _ _) hn1 (by rw [← hsp]; exact hyle) (fun x _=>IntMulOk.right (show Sm 64 1 by unfold Sm; decide)) (fun y hy=>IntMulOk.sum shl (sB y hy) hKL) ?_
    have eD:=fun t=>tD (s:=1) (m:=hl) (l0:=l0) hn1 t
    have lD:(wlo 1 hl l0 l1 B).getLast?=some 0:=by
      have:=iJ (s:=1) (m:=hl) hn1 (ly hl1 (by rw [← hsp]; exact hyla)) hlb
      rw [wlo,List.getLast?_append,this,show lb*hl*1 - hl*lb=0 by grind]; rfl
    have nD:(wlo 1 hl l0 l1 B).length=ys.length:=by rw [oS hn1,hsp,List.length_append,hn1]
    revert eD lD nD
    generalize wlo 1 hl l0 l1 B=D
    intro eD lD nD
    obtain ⟨D0,rfl⟩:=List.getLast?_eq_some_iff.mp lD
    generalize hH1:(H++x :: (h2.reverse.map V.int++[V.int hl]) :: KK)=H1
    have hle1:H.length+2≤H1.length:=by rw [← hH1]; simp
    refine ⟨(qq9 hle1).2,ifSome.mk (ag _ _ _) ⟨D0.map V.int,0,by rw [List.map_append]; rfl,?_⟩⟩
    rw [bk]
    have hl0:l0.length=g1.length:=by rw [hn2]; rw [List.length_append,List.length_singleton] at hyl; (exact om [ys.length - B.length,ys.length,B.length,g1.length] [] [(.eq (.a Y1 (.n 1)) (.a Y2 (.a Y3 (.n 1)))),(.or (.an (.le Y2 Y1) (.eq Y1 (.a Y0 Y2))) (.an (.le Y1 Y2) (.eq Y0 (.n 0))))] (.eq Y0 Y3) [[1,0,1,0,1],[1,0,1,1],[1,1,0,0,0,1],[1,0,0,0,1]] rfl hyl (aN (ys.length) (B.length)))
    refine ⟨⟨H1.length,D0,g1,hl :: h2,x,KK++[D0.map V.int],_,rfl,?_,by exact (qq9 hle1).1,by exact (qq9 hle1).2,ag _ _ _,by rw [hh,List.append_assoc]; rfl,fun t=>?_,?_⟩,?_⟩
    · rw [← hH1,List.append_assoc,List.reverse_cons,List.map_append]; rfl
    · have h4:=eD t
      rw [pL,← hsp,hev t,eu,ev1,hl0] at h4
      rw [h4]; grind
    · rw [List.length_append,List.length_singleton] at nD hyl; exact Eh nD hyl
    · show i9 _ (some (V.lst _)) < i9 _ (some (V.lst a))
      rw [eX (x:=.lst _) (ag _ _ _),eX (x:=.lst a) ha,List.length_map,List.length_map]
      rw [List.length_append,List.length_singleton] at nD; exact Nat.lt_of_succ_le (Nat.le_of_eq nD)
end
end Mine
set_option maxRecDepth 100000
namespace Mine
open PySem
noncomputable def pw (F:List Int):Nat→List Int→List Int
  | 0,K=>K
  | n+1,K=>a7 (pw F n K) F
structure FL (K d gl El:List Int) (g k:Nat):Prop where
  fac:Fac K d (ev gl) (ev El)
  dl:∃ l,d.getLast?=some l∧0 < l
  d1:bB d 0=1
  fg:∃ l,Fct gl l g
  sd:AllSm k d
  se:AllSm k El
section
variable {sub:Nat→Nat→Bool} {P:List Fn} {f n dv tr re wl ro sp qu co:Nat} {H:Hp} {Q:V→Hp→Prop} {X:Nat→Hp→Prop}
noncomputable def wH (re qu co sp:Nat):PS:=(.seq (.assign 1 (.call re (.cons (.var 1) .nil)))
 (.seq (.ret (.call re (.cons (.call qu (.cons (.var 1) (.cons (.call co (.cons (.var 1) (.cons (.call sp (.cons (.var 1) .nil)) .nil))) .nil))) .nil)))
 .skip))
noncomputable def rU (tr re qu co sp:Nat):PS:=(.seq (.assign 1 (.call tr (.cons (.var 0) .nil)))
 (.seq (.ite (.cmp .lt (.bi .len (.cons (.var 1) .nil)) (.cint 2)) (.seq (.raise 2)
 .skip) .skip)
 (wH re qu co sp)))
end
end Mine
set_option maxRecDepth 100000
namespace Mine
open PySem
section
variable {sub:Nat→Nat→Bool} {P:List Fn} {f n dv by_ pa fa:Nat} {H:Hp} {Q:V→Hp→Prop} {X:Nat→Hp→Prop}
end
end Mine
namespace Mine
noncomputable def evQ:List Int→Rat→Rat
  | [],_=>0
  | c :: r,t=>(c:Rat)+t*evQ r t
end Mine
namespace Mine
theorem tT:∀ {r:List Int} {l:Int},0 < l→NN r→tv l r=0
  | [],_,_,_=>rfl
  | x :: r,l,hl,h=>by
    rw [kR,if_neg (Int.not_lt.mpr (Int.mul_nonneg (Int.le_of_lt hl) h.hd)),Int.zero_add]
    by_cases h0:x=0
    · rw [if_pos h0]; exact tT hl h.tl
    · rw [if_neg h0]; exact tT (by have:=h.hd; exact om [] [x] [(.il (.n 0) Y0),(.no (.ie Y0 (.n 0)))] (.il (.a (.n 0) (.n 1)) Y0) [[0,1,1],[1,0,1]] rfl this h0) h.tl
theorem lQ:∀ {r:List Int} {l z:Int},l < 0→Up r→r.getLast?=some z→0 < z→tv l r=1
  | [],_,_,_,_,h,_=>by cases h
  | x :: r,l,z,hl,u,h,hz=>by
    rw [kR]
    by_cases h0:0 < x
    · rw [if_pos (Int.mul_neg_of_neg_of_pos hl h0),if_neg (by exact om [] [x] [(.il (.a (.n 0) (.n 1)) Y0)] (.no (.ie Y0 (.n 0))) [[1,0,1]] rfl h0),tT h0 (u.hd h0)]; rfl
    · have hr:r.getLast?=some z:=by
        cases r with
        | nil=>rw [List.getLast?_singleton] at h; cases h; omega
        | cons y t=>rw [List.getLast?_cons_cons] at h; exact h
      by_cases hx:x=0
      · rw [if_pos hx,hx,Int.mul_zero,if_neg (by decide),Int.zero_add]; exact lQ hl u.tl hr hz
      · have hn:x < 0:=by exact om [] [x] [(.no (.il (.a (.n 0) (.n 1)) Y0)),(.no (.ie Y0 (.n 0)))] (.il (.a Y0 (.n 1)) (.n 0)) [[1,0,1],[0,1,1]] rfl h0 hx
        rw [if_neg hx,if_neg (Int.not_lt.mpr (Int.mul_nonneg_of_nonpos_of_nonpos (Int.le_of_lt hl) (Int.le_of_lt hn))),Int.zero_add]
        exact lQ hn u.tl hr hz
structure UP (row:List Int) (p1 q1 p2 q2:Int):Prop where
  b1:0 < q1
  b2:0 < q2
  lt:p1*q2 < p2*q1
  lo:aW p1 q1 row < 0
  hi:0 < aW p2 q2 row
  up:Up (hs (p1*q2) (p2*q1) (q1*q2) row)
end Mine
set_option maxRecDepth 100000
namespace Mine
open PySem
theorem so {p q a d:Int} (h1:p.gcd q=1) (hq:0 < q) (hd:0 < d) (e:p*d=a*q):∃ g:Int,0 < g∧d=q*g∧a=p*g:=by
  have hdv:q ∣ p*d:=⟨a,by rw [e,Int.mul_comm]⟩
  have h2:q ∣ d:=by
    have:=Int.dvd_gcd_mul_iff_dvd_mul.mpr hdv
    rw [Int.gcd_comm,h1] at this
    rw [show d=((1:Nat):Int)*d from (Int.one_mul d).symm]; exact this
  obtain ⟨g,rfl⟩:=h2
  refine ⟨g,Int.pos_of_mul_pos_right hd hq,rfl,?_⟩
  have e2:q*a=q*(p*g):=by grind
  exact Int.eq_of_mul_eq_mul_left (Int.ne_of_gt hq) e2
theorem Sm.of_le {k:Nat} {x y:Int} (h:Sm k y) (hx:x.natAbs≤y.natAbs):Sm k x:=Nat.lt_of_le_of_lt hx h
theorem ze {k:Nat} {p q a d:Int} (h1:p.gcd q=1) (hq:0 < q) (hd:0 < d) (e:p*d=a*q) (sa:Sm k a) (sd:Sm k d):Low k p q:=by
  refine bU (so h1 hq hd e) fun g hg zq111 zq112=>?_; subst zq111; subst zq112
  have hg1:1≤g.natAbs:=by (exact om [g.natAbs] [g] [(.il (.a (.n 0) (.n 1)) Y0),(.an (.il Y0 (.c Y0)) (.il (.g Y0) (.c Y0)))] (.le (.n 1) Y0) [[1,1,1]] rfl hg (c5 (g)))
  refine ⟨sa.of_le ?_,sd.of_le ?_,hq,h1⟩
  · rw [Int.natAbs_mul]; exact Nat.le_mul_of_pos_right _ hg1
  · rw [Int.natAbs_mul]; exact Nat.le_mul_of_pos_right _ hg1
theorem Low.mono {k l:Nat} {p q:Int} (h:Low k p q) (hl:k≤l):Low l p q:=⟨h.top.mono hl,h.bot.mono hl,h.pos,h.one⟩
theorem Low.neg {k:Nat} {p q:Int} (h:Low k p q):Low k (-p) q:=⟨h.top.neg,h.bot,h.pos,by rw [Int.neg_gcd]; exact h.one⟩
theorem Low.same {k l:Nat} {p q a b:Int} (h:Low k p q) (h':Low l a b) (e:p*b=a*q):p=a∧q=b:=by
  refine bU (so h.one h.pos h'.pos e) fun g hg e1 e2=>?_
  refine bU (so h'.one h'.pos h.pos e.symm) fun g' hg' e3 e4=>?_
  have:g*g'=1:=by
    have:q*(g*g')=q*1:=by rw [← Int.mul_assoc,← e1,← e3,Int.mul_one]
    exact Int.eq_of_mul_eq_mul_left (Int.ne_of_gt h.pos) this
  have hg1:g=1:=by
    have h2:g≤g*g':=by have:=Int.mul_le_mul_of_nonneg_left (show (1:Int)≤g' by (exact om [] [g'] [(.il (.a (.n 0) (.n 1)) Y0)] (.il (.n 1) Y0) [[1,1]] rfl hg')) (Int.le_of_lt hg); rw [Int.mul_one] at this; exact this
    (exact om [] [g,g*g'] [(.il (.a (.n 0) (.n 1)) Y0),(.ie Y1 (.n 1)),(.il Y0 Y1)] (.ie Y0 (.n 1)) [[1,1],[1,0,1,0,1]] rfl hg this h2)
  subst hg1
  exact ⟨by rw [e2,Int.mul_one],by rw [e1,Int.mul_one]⟩
section
variable {sub:Nat→Nat→Bool} {P:List Fn} {f n dv pa be ps pr ta sg:Nat} {H:Hp} {Q:V→Hp→Prop} {X:Nat→Hp→Prop}
theorem uu {a b:Int} (hb:0 < b) (hs:Sm 100000 b):gw ((a.gcd b:Nat):Int):=by
  have h0:0 < a.gcd b:=Int.gcd_pos_of_ne_zero_right a (Int.ne_of_gt hb)
  have hle:a.gcd b≤b.natAbs:=Nat.le_of_dvd (Int.natAbs_pos.mpr (Int.ne_of_gt hb)) (Int.natAbs_dvd_natAbs.mpr (Int.gcd_dvd_right a b))
  exact Int.natCast_ne_zero.mpr (Nat.ne_of_gt h0)
theorem z7 (e:P[f]?=some ⟨2,3,bL dv⟩) (ed:P[dv]?=some ⟨2,3,bW⟩) {a b:Int} {k:Nat} (hb:0 < b) (ha:Sm k a) (hs:Sm k b) (hk:k≤100000) (hQ:∀ p q:Int,Low k p q→p*b=a*q→Q (.tup [.int p,.int q]) H):aj sub P (n+2) f [.int a,.int b] H Q X:=by
  refine ai e rfl ?_
  dsimp only [bL,qS1,qS2,qS3,qS9,bj,fA,qE1,qE5,qE8,qE9,bh,aO,cJ,aC,aD,yo,fY,gi,aZ,az,aA,ax,aw,aP,ay,aq,ac,af,au,Nat.reduceSub]
  rw [decide_eq_false (Int.ne_of_gt hb)]
  dsimp only [bR]
  refine jr ed ?_
  have ok:=uu (a:=a) hb (hs.mono hk)
  rw [decide_eq_false (Int.not_lt.mpr (Int.le_of_lt hb))]
  have e1:=Int.fdiv_mul_cancel (Int.gcd_dvd_left a b)
  have e2:=Int.fdiv_mul_cancel (Int.gcd_dvd_right a b)
  refine ⟨ok,ok,hQ _ _ (xt ha hs hb e1 e2) ?_⟩
  generalize a.fdiv ((a.gcd b:Nat):Int)=p at *
  generalize b.fdiv ((a.gcd b:Nat):Int)=q at *
  generalize ((a.gcd b:Nat):Int)=g at *
  subst e1 e2; grind
theorem zW (e:P[f]?=some ⟨2,3,gr dv⟩) (ed:P[dv]?=some ⟨2,3,my⟩) {a b:Int} {k:Nat} (hb:0 < b) (ha:Sm k a) (hs:Sm k b) (hk:k≤100000) (hQ:∀ p q:Int,Low k p q→p*b=a*q→Q (.tup [.int p,.int q]) H):aj sub P (n+2) f [.int a,.int b] H Q X:=by
  refine ai e rfl ?_
  dsimp only [gr,qS1,qS2,qS3,qS9,bj,qE1,qE5,qE8,bh,aO,cJ,aC,aD,fY,aZ,az,aA,ax,aw,aP,ay,aq,ac,af,au,Nat.reduceSub]
  refine uI ed ?_
  have ok:=uu (a:=a) hb (hs.mono hk)
  rw [decide_eq_false (Int.not_lt.mpr (Int.le_of_lt hb))]
  have e1:=Int.fdiv_mul_cancel (Int.gcd_dvd_left a b)
  have e2:=Int.fdiv_mul_cancel (Int.gcd_dvd_right a b)
  refine ⟨ok,ok,hQ _ _ (xt ha hs hb e1 e2) ?_⟩
  generalize a.fdiv ((a.gcd b:Nat):Int)=p at *
  generalize b.fdiv ((a.gcd b:Nat):Int)=q at *
  generalize ((a.gcd b:Nat):Int)=g at *
  subst e1 e2; grind
theorem rQ (e:P[ps]?=some ⟨2,2,eK pa⟩) (ep:P[pa]?=some ⟨2,3,bL dv⟩) (ed:P[dv]?=some ⟨2,3,bW⟩) {p1 q1 p2 q2:Int} {k l:Nat} (a1:Low k p1 q1) (a2:Low l p2 q2) (hk:k+l+1≤100000)
    (hQ:∀ p q:Int,Low (k+l+1) p q→p*(q1*q2)=(p1*q2+p2*q1)*q→Q (.tup [.int p,.int q]) H):aj sub P (n+3) ps [.tup [.int p1,.int q1],.tup [.int p2,.int q2]] H Q X:=by
  refine ai e rfl ?_
  dsimp only [eK,qS1,qS2,qS9,qE1,qE5,qE8,aO,aY,aC,aD,cw,cx,cq,cr,az,aA,ax,aw,ay,aq,ac,af,Nat.reduceSub]
  have hk1:k≤1048576:=by (exact om [k,l] [] [(.le (.a (.a Y0 Y1) (.n 1)) (.n 100000))] (.le Y0 (.n 1048576)) [[1,1]] rfl hk)
  have hl1:l≤1048576:=by (exact om [l,k] [] [(.le (.a (.a Y1 Y0) (.n 1)) (.n 100000))] (.le Y0 (.n 1048576)) [[1,1]] rfl hk)
  refine ⟨IntMulOk.sm a1.top a2.bot hk1 hl1,IntMulOk.sm a2.top a1.bot hl1 hk1,IntMulOk.sm a1.bot a2.bot hk1 hl1,?_⟩
  exact z7 ep ed (Int.mul_pos a1.pos a2.pos) ((a1.top.mul a2.bot).add ((a2.top.mul a1.bot).mono (by (exact om [l,k] [] [] (.le (.a Y0 Y1) (.a Y1 Y0)) [[1]] rfl)))) ((a1.bot.mul a2.bot).mono (by (exact om [k,l] [] [] (.le (.a Y0 Y1) (.a (.a Y0 Y1) (.n 1))) [[1]] rfl))) hk hQ
noncomputable def cH (pa:Nat):PS:=(.seq (.ret (.call pa (.cons (.bin .mul (.idx (.var 0) (.cint 0)) (.idx (.var 1) (.cint 0))) (.cons (.bin .mul (.idx (.var 0) (.cint 1)) (.idx (.var 1) (.cint 1))) .nil))))
 .skip)
theorem nL (e:P[pr]?=some ⟨2,2,cH pa⟩) (ep:P[pa]?=some ⟨2,3,bL dv⟩) (ed:P[dv]?=some ⟨2,3,bW⟩) {p1 q1 p2 q2:Int} {k l:Nat} (t1:Sm k p1) (b1:Sm k q1) (c1:0 < q1) (t2:Sm l p2) (b2:Sm l q2) (c2:0 < q2) (hk:k+l≤100000)
    (hQ:∀ p q:Int,Low (k+l) p q→p*(q1*q2)=(p1*p2)*q→Q (.tup [.int p,.int q]) H):aj sub P (n+3) pr [.tup [.int p1,.int q1],.tup [.int p2,.int q2]] H Q X:=by
  refine ai e rfl ?_
  dsimp only [cH,qS1,qS2,qS9,qE1,qE5,qE8,aO,aY,aC,aD,cx,cq,cr,az,aA,ax,aw,ay,aq,ac,af,Nat.reduceSub]
  have hk1:k≤1048576:=by (exact om [k,l] [] [(.le (.a Y0 Y1) (.n 100000))] (.le Y0 (.n 1048576)) [[1,1]] rfl hk)
  have hl1:l≤1048576:=by (exact om [l,k] [] [(.le (.a Y1 Y0) (.n 100000))] (.le Y0 (.n 1048576)) [[1,1]] rfl hk)
  refine ⟨IntMulOk.sm t1 t2 hk1 hl1,IntMulOk.sm b1 b2 hk1 hl1,?_⟩
  exact z7 ep ed (Int.mul_pos c1 c2) (t1.mul t2) (b1.mul b2) hk hQ
noncomputable def gu:PS:=(.seq (.ret (.tup (.cons (.neg (.idx (.var 0) (.cint 0))) (.cons (.idx (.var 0) (.cint 1)) .nil))))
 .skip)
theorem wN (e:P[ta]?=some ⟨1,1,gu⟩) {p q:Int} (hQ:Q (.tup [.int (-p),.int q]) H):aj sub P (n+1) ta [.tup [.int p,.int q]] H Q X:=ai e rfl hQ
noncomputable def Bc (be ps ta:Nat):PE:=(.call be (.cons (.var 1) (.cons (.call ps (.cons (.var 4) (.cons (.call ta (.cons (.var 3) .nil)) .nil))) .nil)))
noncomputable def xY (sg:Nat):PS:=(.seq (.ite (.cmp .eq (.var 6) (.call sg (.cons (.var 2) (.cons (.var 3) .nil)))) (.seq (.assign 3 (.var 5))
 .skip) (.seq (.assign 4 (.var 5))
 .skip))
 .skip)
noncomputable def Ba (ps pr ta sg : Nat) : PS := (.seq (.assign 5 (.call pr (.cons (.call ps (.cons (.var 3) (.cons (.var 4) .nil))) (.cons (.glob (Str.ofString "HALF") 1 2) .nil))))
 (.seq (.assign 6 (.call sg (.cons (.var 2) (.cons (.var 5) .nil))))
 (.seq (.ite (.cmp .eq (.var 6) (.cint 0)) (.seq (.assign 7 (.call pr (.cons (.var 1) (.cons (.glob (Str.ofString "QUARTER") 1 4) .nil))))
 (.seq (.ret (.tup (.cons (.var 2) (.cons (.call ps (.cons (.var 5) (.cons (.call ta (.cons (.var 7) .nil)) .nil))) (.cons (.call ps (.cons (.var 5) (.cons (.var 7) .nil))) .nil)))))
 .skip)) .skip)
 (xY sg))))
end
end Mine
namespace Mine
theorem two_pow_pos (n:Nat):(0:Rat) < 2 ^ n:=Rat.pow_pos (by decide)
structure Sq where
  f:Nat→Rat
  c:∃ K:Rat,∀ n m,n≤m→(f n - f m)*2 ^ n≤K∧(f m - f n)*2 ^ n≤K
theorem Sq.bd (x:Sq):∃ B:Rat,0≤B∧∀ n,x.f n≤B∧- B≤x.f n:=by
  obtain ⟨K,h⟩:=x.c
  have h0:=h 0 0 (Nat.le_refl _)
  refine ⟨K+(x.f 0).abs,?_,fun n=>?_⟩
  · have:=@Rat.abs_nonneg (x.f 0); grind
  · have:=h 0 n (Nat.zero_le _)
    rw [Rat.pow_zero,Rat.mul_one,Rat.mul_one] at this
    have a1:x.f 0≤(x.f 0).abs:=by unfold Rat.abs; grind
    have a2:- (x.f 0).abs≤x.f 0:=by unfold Rat.abs; grind
    grind
noncomputable def Sq.ofRat (q:Rat):Sq:=⟨fun _=>q,0,fun n m _=>by grind⟩
noncomputable def Sq.add (x y:Sq):Sq:=⟨fun n=>x.f n+y.f n,by
  obtain ⟨K,h⟩:=x.c; obtain ⟨L,g⟩:=y.c
  refine ⟨K+L,fun n m hm=>?_⟩
  have:=h n m hm; have:=g n m hm; grind⟩
noncomputable def Sq.neg (x:Sq):Sq:=⟨fun n=>- x.f n,by
  obtain ⟨K,h⟩:=x.c
  refine ⟨K,fun n m hm=>?_⟩
  have:=h n m hm; grind⟩
theorem bI {a b:Rat} (ha:0≤a) (hb:0≤b):0≤a*b:=Rat.mul_nonneg ha hb
theorem zS {u v B L:Rat} (h1:u≤B) (h2:-B≤u) (g1:v≤L) (g2:-L≤v):u*v≤B*L∧-(B*L)≤u*v:=by
  have e1:=bI (a:=B - u) (b:=L+v) (by grind) (by grind)
  have e2:=bI (a:=B+u) (b:=L - v) (by grind) (by grind)
  have e3:=bI (a:=B - u) (b:=L - v) (by grind) (by grind)
  have e4:=bI (a:=B+u) (b:=L+v) (by grind) (by grind)
  constructor <;> grind
noncomputable def Sq.mul (x y:Sq):Sq:=⟨fun n=>x.f n*y.f n,by
  obtain ⟨K,h⟩:=x.c; obtain ⟨L,g⟩:=y.c
  obtain ⟨B,hB,b⟩:=x.bd; obtain ⟨C,hC,c⟩:=y.bd
  refine ⟨B*L+C*K,fun n m hm=>?_⟩
  have h1:=h n m hm; have g1:=g n m hm
  have e1:=zS (u:=x.f n) (v:=(y.f n - y.f m)*2 ^ n) (B:=B) (L:=L) (b n).1 (b n).2 g1.1 (by grind)
  have e2:=zS (u:=y.f m) (v:=(x.f n - x.f m)*2 ^ n) (B:=C) (L:=K) (c m).1 (c m).2 h1.1 (by grind)
  constructor <;> grind⟩
noncomputable def Sq.le (x y:Sq):Prop:=∃ K:Rat,∀ n,(x.f n - y.f n)*2 ^ n≤K
theorem Sq.le_refl (x:Sq):x.le x:=⟨0,fun n=>by grind⟩
theorem Sq.le_trans {x y z:Sq}:x.le y→y.le z→x.le z:=fun ⟨K,h⟩ ⟨L,g⟩=>⟨K+L,fun n=>by have:=h n; have:=g n; grind⟩
theorem Sq.le_total (x y:Sq):x.le y∨y.le x:=by
  rcases Classical.em (x.le y) with h | h
  · exact .inl h
  · right
    obtain ⟨K,hx⟩:=x.c; obtain ⟨L,hy⟩:=y.c
    have:∃ n,K+L < (x.f n - y.f n)*2 ^ n:=by
      refine Classical.byContradiction fun hn=>h ⟨K+L,fun n=>?_⟩
      exact Rat.not_lt.mp fun hlt=>hn ⟨n,hlt⟩
    obtain ⟨n,hn⟩:=this
    refine ⟨K+L,fun m=>?_⟩
    have p0:=two_pow_pos n
    have k0:0≤K:=by have:=hx 0 0 (Nat.le_refl _); grind
    have l0:0≤L:=by have:=hy 0 0 (Nat.le_refl _); grind
    rcases Nat.le_total n m with hm | hm
    · have a:=hx n m hm; have b:=hy n m hm
      have:0 < (x.f m - y.f m)*2 ^ n:=by grind
      have h3:0 < x.f m - y.f m:=by
        refine Rat.not_le.mp fun hle=>?_
        have:=bI (a:=- (x.f m - y.f m)) (b:=2 ^ n) (by grind) (Rat.le_of_lt p0)
        grind
      have:=bI (Rat.le_of_lt h3) (Rat.le_of_lt (two_pow_pos m))
      grind
    · have a:=hx m n hm; have b:=hy m n hm
      have h3:0 < x.f n - y.f n:=by
        refine Rat.not_le.mp fun hle=>?_
        have:=bI (a:=- (x.f n - y.f n)) (b:=2 ^ n) (by grind) (Rat.le_of_lt p0)
        grind
      have:=bI (Rat.le_of_lt h3) (Rat.le_of_lt (two_pow_pos m))
      grind
noncomputable instance Sq.st:Setoid Sq:=⟨fun x y=>x.le y∧y.le x,fun _=>⟨Sq.le_refl _,Sq.le_refl _⟩,fun h=>⟨h.2,h.1⟩,fun h g=>⟨Sq.le_trans h.1 g.1,Sq.le_trans g.2 h.2⟩⟩
noncomputable def Re:Type:=Quotient Sq.st
theorem Sq.add_le {x y z w:Sq}:x.le y→z.le w→(x.add z).le (y.add w):=fun ⟨K,h⟩ ⟨L,g⟩=>⟨K+L,fun n=>by
  have:=h n; have:=g n; show (x.f n+z.f n - (y.f n+w.f n))*2 ^ n≤K+L; grind⟩
theorem Sq.neg_le {x y:Sq}:x.le y→(y.neg).le x.neg:=fun ⟨K,h⟩=>⟨K,fun n=>by
  have:=h n; show (- y.f n - - x.f n)*2 ^ n≤K; grind⟩
theorem Sq.mul_eqv {x y z w:Sq} (h:x ≈ y) (g:z ≈ w):(x.mul z).le (y.mul w):=by
  obtain ⟨⟨K,h1⟩,K',h2⟩:=h; obtain ⟨⟨L,g1⟩,L',g2⟩:=g
  obtain ⟨B,hB,b⟩:=x.bd; obtain ⟨C,hC,c⟩:=w.bd
  have k0:∃ M:Rat,K≤M∧K'≤M:=⟨if K≤K' then K' else K,by grind⟩
  have l0:∃ M:Rat,L≤M∧L'≤M:=⟨if L≤L' then L' else L,by grind⟩
  obtain ⟨M,m1,m2⟩:=k0; obtain ⟨N,n1,n2⟩:=l0
  refine ⟨B*N+C*M,fun n=>?_⟩
  have p1:=h1 n; have p2:=h2 n; have q1:=g1 n; have q2:=g2 n
  have e1:=zS (u:=x.f n) (v:=(z.f n - w.f n)*2 ^ n) (B:=B) (L:=N) (b n).1 (b n).2 (by grind) (by grind)
  have e2:=zS (u:=w.f n) (v:=(x.f n - y.f n)*2 ^ n) (B:=C) (L:=M) (c n).1 (c n).2 (by grind) (by grind)
  show (x.f n*z.f n - y.f n*w.f n)*2 ^ n≤_
  grind
theorem Sq.eqv_of {x y:Sq} (h:∀ n,x.f n=y.f n):x ≈ y:=⟨⟨0,fun n=>by rw [h]; grind⟩,⟨0,fun n=>by rw [h]; grind⟩⟩
namespace Re
noncomputable def mk (x:Sq):Re:=Quotient.mk _ x
noncomputable instance:Add Re:=⟨Quotient.lift₂ (fun x y=>mk (Sq.add x y)) fun _ _ _ _ h g=>Quotient.sound ⟨Sq.add_le h.1 g.1,Sq.add_le h.2 g.2⟩⟩
noncomputable instance:Mul Re:=⟨Quotient.lift₂ (fun x y=>mk (Sq.mul x y)) fun _ _ _ _ h g=>Quotient.sound ⟨Sq.mul_eqv h g,Sq.mul_eqv (Setoid.symm h) (Setoid.symm g)⟩⟩
noncomputable instance:Neg Re:=⟨Quotient.lift (fun x=>mk (Sq.neg x)) fun _ _ h=>Quotient.sound ⟨Sq.neg_le h.2,Sq.neg_le h.1⟩⟩
noncomputable instance:Sub Re:=⟨fun x y=>x+-y⟩
noncomputable instance:NatCast Re:=⟨fun n=>mk (Sq.ofRat (n:Rat))⟩
noncomputable instance:IntCast Re:=⟨fun n=>mk (Sq.ofRat (n:Rat))⟩
noncomputable instance (n:Nat):OfNat Re n:=⟨((n:Nat):Re)⟩
noncomputable def C9 (x:Re):Nat→Re
  | 0=>1
  | n+1=>C9 x n*x
noncomputable instance:HPow Re Nat Re:=⟨C9⟩
noncomputable instance:SMul Nat Re:=⟨fun n x=>(n:Re)*x⟩
noncomputable instance:SMul Int Re:=⟨fun n x=>(n:Re)*x⟩
noncomputable def leR:Re→Re→Prop:=Quotient.lift₂ Sq.le fun _ _ _ _ h g=>propext ⟨fun k=>Sq.le_trans (Sq.le_trans h.2 k) g.1,fun k=>Sq.le_trans (Sq.le_trans h.1 k) g.2⟩
noncomputable instance:LE Re:=⟨leR⟩
noncomputable instance:LT Re:=⟨fun x y=>¬ y≤x⟩
theorem e6 {x y:Sq} (h:∀ n,x.f n=y.f n):mk x=mk y:=Quotient.sound (Sq.eqv_of h)
theorem bK {P:Re→Prop} (h:∀ x,P (mk x)):∀ x,P x:=Quotient.ind h
theorem Dq (x y:Re):x+y=y+x:=bK (P:=fun x=>x+y=y+x) (fun a=>bK (P:=fun y=>mk a+y=y+mk a) (fun b=>e6 (x:=a.add b) (y:=b.add a) fun _=>Rat.add_comm _ _) y) x
noncomputable instance:Lean.Grind.CommRing Re where
  add_zero x:=bK (P:=fun x=>x+0=x) (fun a=>e6 (x:=a.add (.ofRat ((0:Nat):Rat))) (y:=a) fun n=>Rat.add_zero _) x
  add_comm:=Dq
  add_assoc x y z:=bK (P:=fun x=>x+y+z=x+(y+z)) (fun a=>bK (P:=fun y=>mk a+y+z=mk a+(y+z)) (fun b=>bK (P:=fun z=>mk a+mk b+z=mk a+(mk b+z)) (fun c=>e6 (x:=(a.add b).add c) (y:=a.add (b.add c)) fun n=>Rat.add_assoc _ _ _) z) y) x
  mul_assoc x y z:=bK (P:=fun x=>x*y*z=x*(y*z)) (fun a=>bK (P:=fun y=>mk a*y*z=mk a*(y*z)) (fun b=>bK (P:=fun z=>mk a*mk b*z=mk a*(mk b*z)) (fun c=>e6 (x:=(a.mul b).mul c) (y:=a.mul (b.mul c)) fun n=>Rat.mul_assoc _ _ _) z) y) x
  mul_one x:=bK (P:=fun x=>x*1=x) (fun a=>e6 (x:=a.mul (.ofRat ((1:Nat):Rat))) (y:=a) fun n=>Rat.mul_one _) x
  one_mul x:=bK (P:=fun x=>1*x=x) (fun a=>e6 (x:=(Sq.ofRat ((1:Nat):Rat)).mul a) (y:=a) fun n=>Rat.one_mul _) x
  left_distrib x y z:=bK (P:=fun x=>x*(y+z)=x*y+x*z) (fun a=>bK (P:=fun y=>mk a*(y+z)=mk a*y+mk a*z) (fun b=>bK (P:=fun z=>mk a*(mk b+z)=mk a*mk b+mk a*z) (fun c=>e6 (x:=a.mul (b.add c)) (y:=(a.mul b).add (a.mul c)) fun n=>Rat.mul_add _ _ _) z) y) x
  right_distrib x y z:=bK (P:=fun x=>(x+y)*z=x*z+y*z) (fun a=>bK (P:=fun y=>(mk a+y)*z=mk a*z+y*z) (fun b=>bK (P:=fun z=>(mk a+mk b)*z=mk a*z+mk b*z) (fun c=>e6 (x:=(a.add b).mul c) (y:=(a.mul c).add (b.mul c)) fun n=>Rat.add_mul _ _ _) z) y) x
  zero_mul x:=bK (P:=fun x=>0*x=0) (fun a=>e6 (x:=(Sq.ofRat ((0:Nat):Rat)).mul a) (y:=.ofRat ((0:Nat):Rat)) fun n=>Rat.zero_mul _) x
  mul_zero x:=bK (P:=fun x=>x*0=0) (fun a=>e6 (x:=a.mul (.ofRat ((0:Nat):Rat))) (y:=.ofRat ((0:Nat):Rat)) fun n=>Rat.mul_zero _) x
  mul_comm x y:=bK (P:=fun x=>x*y=y*x) (fun a=>bK (P:=fun y=>mk a*y=y*mk a) (fun b=>e6 (x:=a.mul b) (y:=b.mul a) fun n=>Rat.mul_comm _ _) y) x
  pow_zero x:=rfl
  pow_succ x n:=rfl
  ofNat_succ n:=e6 (x:=.ofRat ((n+1:Nat):Rat)) (y:=(Sq.ofRat ((n:Nat):Rat)).add (.ofRat ((1:Nat):Rat))) fun k=>by show ((n+1:Nat):Rat)=(n:Rat)+((1:Nat):Rat); grind
  neg_add_cancel x:=bK (P:=fun x=>-x+x=0) (fun a=>e6 (x:=a.neg.add a) (y:=.ofRat ((0:Nat):Rat)) fun n=>Rat.neg_add_cancel _) x
  sub_eq_add_neg x y:=rfl
  neg_zsmul i x:=bK (P:=fun x=>((-i:Int):Re)*x=-((i:Re)*x)) (fun a=>e6 (x:=(Sq.ofRat ((-i:Int):Rat)).mul a) (y:=((Sq.ofRat (i:Rat)).mul a).neg) fun n=>by show ((-i:Int):Rat)*a.f n=- ((i:Rat)*a.f n); rw [Rat.intCast_neg,Rat.neg_mul]) x
  zsmul_natCast_eq_nsmul n x:=rfl
  intCast_neg i:=e6 (x:=.ofRat ((-i:Int):Rat)) (y:=(Sq.ofRat (i:Rat)).neg) fun n=>Rat.intCast_neg _
instance:Std.IsLinearOrder Re where
  le_refl x:=bK (P:=fun x=>x≤x) (fun a=>Sq.le_refl a) x
  le_trans x y z:=bK (P:=fun x=>x≤y→y≤z→x≤z) (fun a=>bK (P:=fun y=>mk a≤y→y≤z→mk a≤z) (fun b=>bK (P:=fun z=>mk a≤mk b→mk b≤z→mk a≤z) (fun _=>Sq.le_trans) z) y) x
  le_antisymm x y:=bK (P:=fun x=>x≤y→y≤x→x=y) (fun a=>bK (P:=fun y=>mk a≤y→y≤mk a→mk a=y) (fun _ h g=>Quotient.sound ⟨h,g⟩) y) x
  le_total x y:=bK (P:=fun x=>x≤y∨y≤x) (fun a=>bK (P:=fun y=>mk a≤y∨y≤mk a) (fun b=>Sq.le_total a b) y) x
instance:Std.LawfulOrderLT Re where
  lt_iff x y:=⟨fun h=>⟨(Std.le_total (a:=x) (b:=y)).resolve_right h,h⟩,fun h=>h.2⟩
instance:Lean.Grind.OrderedAdd Re where
  add_le_left_iff {x y} z:=by
    refine ⟨fun h=>?_,fun h=>?_⟩
    · revert h
      exact bK (P:=fun x=>x≤y→x+z≤y+z) (fun a=>bK (P:=fun y=>mk a≤y→mk a+z≤y+z) (fun b=>bK (P:=fun z=>mk a≤mk b→mk a+z≤mk b+z) (fun c h=>show Sq.le (a.add c) (b.add c) from Sq.add_le h (Sq.le_refl c)) z) y) x
    · have key:∀ x y z:Re,x≤y→x+z≤y+z:=fun x y z=>bK (P:=fun x=>x≤y→x+z≤y+z) (fun a=>bK (P:=fun y=>mk a≤y→mk a+z≤y+z) (fun b=>bK (P:=fun z=>mk a≤mk b→mk a+z≤mk b+z) (fun c h=>show Sq.le (a.add c) (b.add c) from Sq.add_le h (Sq.le_refl c)) z) y) x
      have:=key _ _ (-z) h
      rwa [show x+z+-z=x by grind,show y+z+-z=y by grind] at this
theorem Dc (K:Rat):∃ m:Nat,K < 2 ^ m:=by
  refine ⟨K.num.natAbs,?_⟩
  have h1:K≤(K.num.natAbs:Rat):=by
    rw [Rat.le_iff]
    show K.num*((1:Nat):Int)≤((K.num.natAbs:Nat):Int)*(K.den:Int)
    have d:=K.den_pos
    have:((K.num.natAbs:Nat):Int)*1≤((K.num.natAbs:Nat):Int)*(K.den:Int):=Int.mul_le_mul_of_nonneg_left (by exact om [K.den] [] [(.le (.a (.n 0) (.n 1)) Y0)] (.il (.n 1) (.c Y0)) [[1,1]] rfl d) (by (exact om [K.num.natAbs] [] [] (.il (.n 0) (.c Y0)) [[1]] rfl))
    (clear d; omega)
  have h2:∀ n:Nat,(n:Rat) < 2 ^ n:=fun n=>by
    have:=Rat.natCast_lt_natCast.mpr (Nat.lt_two_pow_self (n:=n))
    rwa [Rat.natCast_pow] at this
  have:=h2 K.num.natAbs
  grind
theorem Sq.pos {x:Sq} (h:¬ x.le (.ofRat ((0:Nat):Rat))):∃ n,∀ m,n≤m→1 < x.f m*2 ^ n:=by
  obtain ⟨K,hK⟩:=x.c
  refine Classical.byContradiction fun hn=>h ⟨K+1,fun n=>?_⟩
  refine Rat.not_lt.mp fun hlt=>hn ⟨n,fun m hm=>?_⟩
  have:=hK n m hm
  have e:(Sq.ofRat ((0:Nat):Rat)).f n=0:=rfl
  rw [e] at hlt
  grind
theorem mul_pos {x y:Re}:0 < x→0 < y→0 < x*y:=by
  refine bK (P:=fun x=>0 < x→0 < y→0 < x*y) (fun a=>bK (P:=fun y=>0 < mk a→0 < y→0 < mk a*y) (fun b h g=>?_) y) x
  obtain ⟨n,hn⟩:=Sq.pos (x:=a) h
  obtain ⟨k,hk⟩:=Sq.pos (x:=b) g
  rintro ⟨K,hK⟩
  obtain ⟨m,hm⟩:=Dc K
  have a1:=hn (n+k+m) (by (exact om [n,k,m] [] [] (.le Y0 (.a (.a Y0 Y1) Y2)) [[1]] rfl))
  have a2:=hk (n+k+m) (by (exact om [k,n,m] [] [] (.le Y0 (.a (.a Y1 Y0) Y2)) [[1]] rfl))
  have a3:(a.f (n+k+m)*b.f (n+k+m) - ((0:Nat):Rat))*2 ^ (n+k+m)≤K:=hK (n+k+m)
  revert a1 a2 a3
  generalize a.f (n+k+m)=u
  generalize b.f (n+k+m)=v
  intro a1 a2 a3
  have e:(u*v - ((0:Nat):Rat))*2 ^ (n+k+m)=(u*2 ^ n)*(v*2 ^ k)*2 ^ m:=by rw [show ((0:Nat):Rat)=0 from rfl]; grind
  have p1:0 < (u*2 ^ n - 1)*(v*2 ^ k - 1):=Rat.mul_pos (by grind) (by grind)
  have p2:0 < ((u*2 ^ n)*(v*2 ^ k) - 1)*2 ^ m:=Rat.mul_pos (by grind) (two_pow_pos m)
  grind
instance:Lean.Grind.OrderedRing Re where
  zero_lt_one:=by
    rintro ⟨K,hK⟩
    obtain ⟨m,hm⟩:=Dc K
    have:(((1:Nat):Rat) - ((0:Nat):Rat))*2 ^ m≤K:=hK m
    rw [show ((0:Nat):Rat)=0 from rfl,show ((1:Nat):Rat)=1 from rfl] at this
    grind
  mul_lt_mul_of_pos_left {a b c} h g:=by
    have:=mul_pos (x:=c) (y:=b - a) g (by grind)
    rw [show c*(b - a)=c*b - c*a by grind] at this
    generalize c*b=u at *; generalize c*a=v at *
    grind
  mul_lt_mul_of_pos_right {a b c} h g:=by
    have:=mul_pos (x:=c) (y:=b - a) g (by grind)
    rw [show c*(b - a)=b*c - a*c by grind] at this
    generalize b*c=u at *; generalize a*c=v at *
    grind
example (x y:Re) (h:0 < x) (g:x < y):x*x < y*y:=by
  have:=mul_pos h h; have:=mul_pos h (show 0 < y - x by grind); have:=mul_pos (show 0 < y by grind) (show 0 < y - x by grind); grind
end Re
end Mine
namespace Mine
open Re
theorem hV {a b:Re} (h:a < b):0 < b - a:=by grind
theorem xq {a b:Re} (h:a < b):a - b < 0:=by grind
theorem rn {a b:Re} (h:a≤b):0≤b - a:=by grind
theorem sj {a b c:Re} (h:a < b) (g:b < c):a < c:=by grind
theorem wE {a b c:Re} (h:a < b) (g:b≤c):a < c:=by grind
theorem yA {a b c:Re} (h:a≤b) (g:b < c):a < c:=by grind
theorem l8 {a b c:Re} (h:a≤b) (g:b≤c):a≤c:=by grind
theorem ol {a b:Re} (h:a < b):a≤b:=by grind
theorem DA {a b:Re} (h:¬ a < b):b≤a:=by grind
theorem D2 {a b:Re} (h:a < b):b≠a:=by grind
end Mine
namespace Mine
theorem A0:∀ N:Nat,∃ A:Nat,A*A≤N∧N < (A+1)*(A+1)
  | 0=>⟨0,by decide,by decide⟩
  | N+1=>by
    obtain ⟨A,h1,h2⟩:=A0 N
    rcases Nat.lt_or_ge (N+1) ((A+1)*(A+1)) with h | h
    · exact ⟨A,Nat.le_succ_of_le h1,h⟩
    · have:(A+1+1)*(A+1+1)=(A+1)*(A+1)+2*A+3:=by grind
      exact ⟨A+1,h,Mine.om [N,(A+1+1)*(A+1+1),(A+1)*(A+1),A] [] [(.le (.a Y0 (.n 1)) Y2),(.eq Y1 (.a (.a Y2 (.m 2 Y3)) (.n 3)))] (.le (.a (.a Y0 (.n 1)) (.n 1)) Y1) [[1,1,0,1]] rfl h2 this⟩
theorem AR (d n:Nat):∃ s:Rat,0≤s∧s*s≤(d:Rat)∧(d:Rat)*(2 ^ n*2 ^ n) < (s*2 ^ n+1)*(s*2 ^ n+1):=by
  obtain ⟨A,h1,h2⟩:=A0 (d*(2 ^ n*2 ^ n))
  have p:=two_pow_pos n
  have hp:(2:Rat) ^ n≠0:=by grind
  have e:(A:Rat) / 2 ^ n*2 ^ n=A:=by rw [Rat.div_def,Rat.mul_assoc,Rat.inv_mul_cancel _ hp,Rat.mul_one]
  have c1:=Rat.natCast_le_natCast.mpr h1
  have c2:=Rat.natCast_lt_natCast.mpr h2
  simp only [Rat.natCast_mul,Rat.natCast_pow,Rat.natCast_add] at c1 c2
  have hs:0≤(A:Rat) / 2 ^ n:=by rw [Rat.div_def]; exact Rat.mul_nonneg Rat.natCast_nonneg (Rat.le_of_lt (Rat.inv_pos.mpr p))
  refine ⟨(A:Rat) / 2 ^ n,hs,?_,?_⟩
  · generalize (A:Rat) / 2 ^ n=s at *
    generalize (2:Rat) ^ n=q at *
    rw [← e] at c1
    refine Rat.not_lt.mp fun hl=>?_
    have:=Rat.mul_pos (show 0 < s*s - d by grind) (Rat.mul_pos p p)
    have c3:s*q*(s*q)≤(d:Rat)*(q*q):=c1
    grind
  · rw [e]; exact c2
noncomputable def rt (d:Nat) (n:Nat):Rat:=Classical.choose (AR d n)
theorem rf (d n:Nat):0≤rt d n∧rt d n*rt d n≤(d:Rat)∧(d:Rat)*(2 ^ n*2 ^ n) < (rt d n*2 ^ n+1)*(rt d n*2 ^ n+1):=Classical.choose_spec (AR d n)
theorem C8 {a b:Rat} (hb:0≤b) (h:a*a < b*b):a < b:=by
  refine Rat.not_le.mp fun hl=>?_
  have:=Rat.mul_nonneg (show 0≤a - b by grind) (show 0≤a+b by grind)
  grind
theorem wt (d n m:Nat):(rt d m - rt d n)*2 ^ n≤1:=by
  obtain ⟨a1,a2,a3⟩:=rf d n
  obtain ⟨b1,b2,b3⟩:=rf d m
  have p:=two_pow_pos n
  generalize (2:Rat) ^ n=q at *
  have c:=Rat.mul_nonneg (show 0≤(d:Rat) - rt d m*rt d m by grind) (Rat.le_of_lt (Rat.mul_pos p p))
  have:=C8 (a:=rt d m*q) (b:=rt d n*q+1) (by have:=Rat.mul_nonneg a1 (Rat.le_of_lt p); grind) (by grind)
  grind
theorem qS {n m:Nat} (h:n≤m):(2:Rat) ^ n≤2 ^ m:=by
  have:=Rat.natCast_le_natCast.mpr (Nat.pow_le_pow_right (show 0 < 2 by decide) h)
  rwa [Rat.natCast_pow,Rat.natCast_pow] at this
noncomputable def sqS (d:Nat):Sq:=⟨rt d,1,fun n m h=>⟨by
  have h1:=wt d m n
  have:=qS h
  have p:=two_pow_pos n
  refine Rat.not_lt.mp fun hl=>?_
  have h2:0 < rt d n - rt d m:=by
    refine Rat.not_le.mp fun hle=>?_
    have:=Rat.mul_nonneg (show 0≤- (rt d n - rt d m) by grind) (Rat.le_of_lt p)
    grind
  have:=Rat.mul_nonneg (Rat.le_of_lt h2) (show 0≤2 ^ m - 2 ^ n by grind)
  grind,wt d n m⟩⟩
noncomputable def aG (d:Nat):Re:=Re.mk (sqS d)
theorem dZ (d:Nat):0≤aG d:=⟨0,fun n=>by
  have:=Rat.mul_nonneg (rf d n).1 (Rat.le_of_lt (two_pow_pos n))
  show (((0:Nat):Rat) - rt d n)*2 ^ n≤0
  rw [show ((0:Nat):Rat)=0 from rfl]; grind⟩
theorem dd (d:Nat):aG d*aG d=(d:Re):=by
  have h1:aG d*aG d≤(d:Re):=⟨0,fun n=>by
    have:=Rat.mul_nonneg (show 0≤(d:Rat) - rt d n*rt d n by have:=(rf d n).2.1; grind) (Rat.le_of_lt (two_pow_pos n))
    show (rt d n*rt d n - (d:Rat))*2 ^ n≤0
    grind⟩
  have h2:(d:Re)≤aG d*aG d:=by
    obtain ⟨B,hB,hb⟩:=(sqS d).bd
    refine ⟨2*B+1,fun n=>?_⟩
    obtain ⟨a1,a2,a3⟩:=rf d n
    have b1:rt d n≤B:=(hb n).1
    have p:=qS (Nat.zero_le n)
    rw [Rat.pow_zero] at p
    show ((d:Rat) - rt d n*rt d n)*2 ^ n≤2*B+1
    generalize (2:Rat) ^ n=q at *
    generalize rt d n=s at *
    refine Rat.not_lt.mp fun hl=>?_
    have:=Rat.mul_pos (show 0 < ((d:Rat) - s*s)*q - (2*B+1) by grind) (show 0 < q by grind)
    have:=Rat.mul_nonneg (show 0≤B - s by grind) (show 0≤q by grind)
    grind
  exact Std.le_antisymm h1 h2
end Mine
namespace Mine
open Re
theorem bE (x y:Int):((x+y:Int):Re)=x+y:=e6 (x:=.ofRat ((x+y:Int):Rat)) (y:=(Sq.ofRat (x:Rat)).add (.ofRat (y:Rat))) fun _=>Rat.intCast_add _ _
theorem am (x y:Int):((x*y:Int):Re)=x*y:=e6 (x:=.ofRat ((x*y:Int):Rat)) (y:=(Sq.ofRat (x:Rat)).mul (.ofRat (y:Rat))) fun _=>Rat.intCast_mul _ _
theorem cC (x:Int):((-x:Int):Re)=-x:=e6 (x:=.ofRat ((-x:Int):Rat)) (y:=(Sq.ofRat (x:Rat)).neg) fun _=>Rat.intCast_neg _
theorem cL (x y:Int):((x - y:Int):Re)=x - y:=by rw [Int.sub_eq_add_neg,bE,cC]; grind
theorem aE:((0:Int):Re)=0:=rfl
theorem a6 {x:Int} (h:0 < x):(0:Re) < (x:Re):=by
  obtain ⟨n,rfl⟩:∃ n:Nat,x=((n+1:Nat):Int):=⟨(x - 1).toNat,by exact om [(x - 1).toNat] [x] [(.il (.a (.n 0) (.n 1)) Y0),(.or (.an (.il (.n 0) (.s Y0 (.n 1))) (.ie (.c Y0) (.s Y0 (.n 1)))) (.an (.il (.s Y0 (.n 1)) (.n 0)) (.eq Y0 (.n 0))))] (.ie Y0 (.c (.a Y0 (.n 1)))) [[1,0,0,1],[1,1,0,1],[1,0,0,0,1],[1,0,1]] rfl h (bo (x - 1))⟩
  induction n with
  | zero=>exact Lean.Grind.OrderedRing.zero_lt_one
  | succ n ih =>
    have h1:=ih (by (exact om [n] [] [] (.il (.a (.n 0) (.n 1)) (.c (.a Y0 (.n 1)))) [[1]] rfl))
    have:(((n+1+1:Nat):Int):Re)=((n+1:Nat):Int)+1:=by
      rw [show ((n+1+1:Nat):Int)=((n+1:Nat):Int)+1 by (exact om [n] [] [] (.ie (.c (.a (.a Y0 (.n 1)) (.n 1))) (.a (.c (.a Y0 (.n 1))) (.n 1))) [[1]] rfl),bE]; rfl
    rw [this]; have:=Lean.Grind.OrderedRing.zero_lt_one (R:=Re); grind
theorem kg {x y:Int} (h:x < y):(x:Re) < (y:Re):=by
  have:=a6 (x:=y - x) (by exact om [] [y,x] [(.il (.a Y1 (.n 1)) Y0)] (.il (.a (.n 0) (.n 1)) (.s Y0 Y1)) [[1,1]] rfl h)
  rw [cL] at this; grind
theorem cE {x y:Int} (h:x≤y):(x:Re)≤(y:Re):=by
  rcases Int.lt_or_eq_of_le h with h | h
  · have:=kg h; exact ol (this)
  · rw [h]; exact Std.le_refl _
open Classical in
noncomputable def rsg (x:Re):Int:=if 0 < x then 1 else if x < 0 then -1 else 0
theorem aK {x:Re} (h:0 < x):rsg x=1:=if_pos h
theorem aM {x:Re} (h:x < 0):rsg x=-1:=by unfold rsg; rw [if_neg (by grind),if_pos h]
theorem aT:rsg 0=0:=by unfold rsg; rw [if_neg (by grind),if_neg (by grind)]
theorem aI (x:Re):0 < x∨x < 0∨x=0:=by
  rcases Classical.em (0 < x) with h | h
  · exact .inl h
  · rcases Classical.em (x < 0) with g | g
    · exact .inr (.inl g)
    · exact .inr (.inr (by grind))
theorem ir (x y:Re):rsg (x*y)=rsg x*rsg y:=by
  rcases aI x with h | h | h <;> rcases aI y with g | g | g
  · rw [aK h,aK g,aK (mul_pos h g)]; rfl
  · rw [aK h,aM g,aM (by have:=mul_pos h (show 0 < -y by grind); grind)]; rfl
  · rw [g,show x*0=0 by grind,aT,Int.mul_zero]
  · rw [aM h,aK g,aM (by have:=mul_pos (show 0 < -x by grind) g; grind)]; rfl
  · rw [aM h,aM g,aK (by have:=mul_pos (show 0 < -x by grind) (show 0 < -y by grind); grind)]; rfl
  · rw [g,show x*0=0 by grind,aT,Int.mul_zero]
  · rw [h,show 0*y=0 by grind,aT,Int.zero_mul]
  · rw [h,show 0*y=0 by grind,aT,Int.zero_mul]
  · rw [h,show 0*y=0 by grind,aT,Int.zero_mul]
theorem yF (x:Re):rsg (-x)=- rsg x:=by
  rcases aI x with h | h | h
  · rw [aK h,aM (by grind)]
  · rw [aM h,aK (by grind)]; rfl
  · rw [h,show -(0:Re)=0 by grind,aT]; rfl
noncomputable def sg (n:Int):Int:=if n < 0 then -1 else if 0 < n then 1 else 0
theorem ij (n:Int):rsg (n:Re)=sg n:=by
  unfold sg
  rcases Int.lt_trichotomy n 0 with h | h | h
  · rw [if_pos h,aM (kg h)]
  · rw [h]; exact aT
  · rw [if_neg (by exact om [] [n] [(.il (.a (.n 0) (.n 1)) Y0)] (.no (.il (.a Y0 (.n 1)) (.n 0))) [[1,1]] rfl h),if_pos h,aK (a6 h)]
noncomputable def dh (x y a:Int):Int:=if 0≤x∧0≤y then (if 0 < x∨0 < y*a then 1 else 0) else if x≤0∧y≤0 then 0 - (if x < 0∨y*a < 0 then 1 else 0) else if 0 < x then sg (x*x - y*y*a) else sg (y*y*a - x*x)
theorem eQ {d:Nat} (h:0 < d):0 < aG d:=by
  have h0:=dZ d
  have h1:=dd d
  have h2:(0:Re) < ((d:Nat):Int):=a6 (by (exact om [d] [] [(.le (.a (.n 0) (.n 1)) Y0)] (.il (.a (.n 0) (.n 1)) (.c Y0)) [[1,1]] rfl h))
  have h3:(((d:Nat):Int):Re)=(d:Re):=rfl
  rw [h3,← h1] at h2
  rcases aI (aG d) with g | g | g
  · exact g
  · exact wE (yA (h0) (g)) (h0)
  · rw [g] at h2; grind
theorem aH {x y:Re} (h:0≤x) (g:0≤y):0≤x*y:=by
  rcases aI x with a | a | a
  · rcases aI y with b | b | b
    · have:=mul_pos a b; exact ol (this)
    · grind
    · rw [b]; grind
  · grind
  · rw [a]; grind
theorem iK {X Y:Re} (h:0 < X - Y):rsg (X+Y)=rsg (X*X - Y*Y):=by
  rw [show X*X - Y*Y=(X+Y)*(X - Y) by grind,ir,aK h,Int.mul_one]
theorem nI (x y:Int) {a:Nat} (ha:0 < a):dh x y a=rsg (x+y*aG a):=by
  have hs:=eQ ha
  have hq:aG a*aG a=(((a:Nat):Int):Re):=dd a
  have ha':(0:Int) < a:=by (exact om [a] [] [(.le (.a (.n 0) (.n 1)) Y0)] (.il (.a (.n 0) (.n 1)) (.c Y0)) [[1,1]] rfl ha)
  unfold dh
  by_cases c1:0≤x∧0≤y
  · rw [if_pos c1]
    have x0:=cE c1.1; have y0:=cE c1.2
    have m0:=aH y0 (Std.le_of_lt hs)
    by_cases c2:0 < x∨0 < y*a
    · rw [if_pos c2,aK]
      rcases c2 with c | c
      · have:=a6 c; rw [aE] at *; grind
      · have:=mul_pos (a6 (Int.pos_of_mul_pos_left c ha')) hs; rw [aE] at *; grind
    · have e1:x=0:=by (exact om [] [x,y,y*(↑a:Int)] [(.an (.il (.n 0) Y0) (.il (.n 0) Y1)),(.no (.or (.il (.a (.n 0) (.n 1)) Y0) (.il (.a (.n 0) (.n 1)) Y2)))] (.ie Y0 (.n 0)) [[1,1],[1,0,0,1]] rfl c1 c2)
      have e2:y=0:=by
        rcases Int.lt_or_eq_of_le c1.2 with h | h
        · exact absurd (.inr (Int.mul_pos h ha')) c2
        · exact h.symm
      rw [if_neg c2,e1,e2,aE,show (0:Re)+0*aG a=0 by grind,aT]
  rw [if_neg c1]
  by_cases d1:x≤0∧y≤0
  · rw [if_pos d1]
    have x0:=cE d1.1; have y0:=cE (show 0≤-y by (exact om [] [y,x] [(.an (.il Y1 (.n 0)) (.il Y0 (.n 0)))] (.il (.n 0) (.g Y0)) [[1,0,1]] rfl d1))
    have m0:=aH y0 (Std.le_of_lt hs)
    rw [cC] at *
    by_cases c2:x < 0∨y*a < 0
    · rw [if_pos c2,aM]; rfl
      rcases c2 with c | c
      · have:=kg c; rw [aE] at *; grind
      · have hy:0 < -y:=by
          refine Int.pos_of_mul_pos_left (b:=(a:Int)) ?_ ha'
          rw [Int.neg_mul]; (exact om [] [y*(↑a:Int)] [(.il (.a Y0 (.n 1)) (.n 0))] (.il (.a (.n 0) (.n 1)) (.g Y0)) [[1,1]] rfl c)
        have:=mul_pos (a6 hy) hs; rw [cC] at this; rw [aE] at *; grind
    · have e1:x=0:=by (exact om [] [x,y,y*(↑a:Int)] [(.an (.il Y0 (.n 0)) (.il Y1 (.n 0))),(.no (.or (.il (.a Y0 (.n 1)) (.n 0)) (.il (.a Y2 (.n 1)) (.n 0))))] (.ie Y0 (.n 0)) [[1,0,0,1],[1,1]] rfl d1 c2)
      have e2:y=0:=by
        rcases Int.lt_or_eq_of_le d1.2 with h | h
        · exact absurd (.inr (by have:=Int.mul_pos (show 0 < -y by (exact om [] [y] [(.il (.a Y0 (.n 1)) (.n 0))] (.il (.a (.n 0) (.n 1)) (.g Y0)) [[1,1]] rfl h)) ha'; rw [Int.neg_mul] at this; (exact om [] [y*(↑a:Int)] [(.il (.a (.n 0) (.n 1)) (.g Y0))] (.il (.a Y0 (.n 1)) (.n 0)) [[1,1]] rfl this))) c2
        · exact h
      rw [if_neg c2,e1,e2,aE,show (0:Re)+0*aG a=0 by grind,aT]; rfl
  rw [if_neg d1]
  by_cases c3:0 < x
  · have hy:y < 0:=by (exact om [] [y,x] [(.il (.a (.n 0) (.n 1)) Y1),(.no (.an (.il (.n 0) Y1) (.il (.n 0) Y0)))] (.il (.a Y0 (.n 1)) (.n 0)) [[0,1,1],[1,0,1]] rfl c3 c1)
    have x0:=a6 c3
    have y0:=mul_pos (a6 (show 0 < -y by (exact om [] [y] [(.il (.a Y0 (.n 1)) (.n 0))] (.il (.a (.n 0) (.n 1)) (.g Y0)) [[1,1]] rfl hy))) hs
    rw [cC] at y0
    rw [if_pos c3,← ij,iK (by grind),cL,am,am,am,← hq]
    congr 1; grind
  · have hx:x < 0:=by (exact om [] [x,y] [(.no (.il (.a (.n 0) (.n 1)) Y0)),(.no (.an (.il (.n 0) Y0) (.il (.n 0) Y1))),(.no (.an (.il Y0 (.n 0)) (.il Y1 (.n 0))))] (.il (.a Y0 (.n 1)) (.n 0)) [[0,0,1,1],[1,0,1],[0,1,0,1]] rfl c3 c1 d1)
    have hy:0 < y:=by (exact om [] [y,x] [(.il (.a Y1 (.n 1)) (.n 0)),(.no (.an (.il Y1 (.n 0)) (.il Y0 (.n 0))))] (.il (.a (.n 0) (.n 1)) Y0) [[0,1,1],[1,0,1]] rfl hx d1)
    have x0:=a6 (show 0 < -x by (exact om [] [x] [(.il (.a Y0 (.n 1)) (.n 0))] (.il (.a (.n 0) (.n 1)) (.g Y0)) [[1,1]] rfl hx))
    have y0:=mul_pos (a6 hy) hs
    rw [cC] at x0
    rw [if_neg c3,← ij,show (x:Re)+y*aG a=y*aG a+x by grind,iK (by grind),cL,am,am,am,← hq]
    congr 1; grind
end Mine
namespace Mine
open Re
noncomputable def zg (x0 x1 x2 x3 a b:Int):Int :=
  if 0≤dh x0 x1 a*dh x2 x3 a then sg (dh x0 x1 a+dh x2 x3 a)
  else dh x0 x1 a*dh ((x0*x0+a*x1*x1) - b*(x2*x2+a*x3*x3)) ((x0*x1+x1*x0) - b*(x2*x3+x3*x2)) a
theorem zN {X Z s:Re} (hs:0 < s) (h:0≤rsg X*rsg Z):rsg (X+Z*s)=sg (rsg X+rsg Z):=by
  rcases aI X with x | x | x <;> rcases aI Z with z | z | z
  · have:=mul_pos z hs; rw [aK x,aK z,aK (by grind)]; rfl
  · rw [aK x,aM z] at h; exact absurd h (by decide)
  · rw [z,aT,aK x,show X+0*s=X by grind,aK x]; rfl
  · rw [aM x,aK z] at h; exact absurd h (by decide)
  · have:=mul_pos (show 0 < -Z by grind) hs; rw [aM x,aM z,aM (by grind)]; rfl
  · rw [z,aT,aM x,show X+0*s=X by grind,aM x]; rfl
  · have:=mul_pos z hs; rw [x,aT,aK z,aK (by grind)]; rfl
  · have:=mul_pos (show 0 < -Z by grind) hs; rw [x,aT,aM z,aM (by grind)]; rfl
  · rw [z,x,aT,show (0:Re)+0*s=0 by grind,aT]; rfl
theorem yQ {X Z s:Re} (hs:0 < s) (h:¬ 0≤rsg X*rsg Z):rsg (X+Z*s)=rsg X*rsg (X*X - Z*Z*(s*s)):=by
  rcases aI X with x | x | x
  · rcases aI Z with z | z | z
    · rw [aK x,aK z] at h; exact absurd (by decide) h
    · have:=mul_pos (show 0 < -Z by grind) hs
      rw [aK x,Int.one_mul,iK (by grind)]; congr 1; grind
    · rw [z,aT,Int.mul_zero] at h; exact absurd (by decide) h
  · rcases aI Z with z | z | z
    · have:=mul_pos z hs
      have e:=iK (X:=-X) (Y:=-(Z*s)) (by grind)
      rw [show -X+-(Z*s)=-(X+Z*s) by grind,yF] at e
      rw [aM x,show X*X - Z*Z*(s*s)=-X*-X - -(Z*s)*-(Z*s) by grind,← e]; exact om [] [rsg (X+Z*s),-1*-rsg (X+Z*s)] [(.ie Y1 (.g (.m 1 (.g Y0))))] (.ie Y0 Y1) [[1,1],[1,0,1]] rfl (Int.neg_mul 1 (-rsg (X+Z*s)))
    · rw [aM x,aM z] at h; exact absurd (by decide) h
    · rw [z,aT,Int.mul_zero] at h; exact absurd (by decide) h
  · rw [x,aT,Int.zero_mul] at h; exact absurd (by decide) h
theorem yp (x0 x1 x2 x3:Int) {a b:Nat} (ha:0 < a) (hb:0 < b):zg x0 x1 x2 x3 a b=rsg ((x0+x1*aG a)+(x2+x3*aG a)*aG b):=by
  unfold zg
  rw [nI _ _ ha,nI _ _ ha,nI _ _ ha]
  have hq:aG a*aG a=(((a:Nat):Int):Re):=dd a
  have hr:aG b*aG b=(((b:Nat):Int):Re):=dd b
  split
  next h=>rw [zN (eQ hb) h]
  next h =>
    rw [yQ (eQ hb) h,hr]
    congr 2
    simp only [cL,bE,am]
    rw [← hq]; grind
end Mine
namespace Mine
open Re
open Classical in
noncomputable def ab (x:Re):Re:=if 0≤x then x else -x
theorem bg (x:Re):0≤ab x:=by unfold ab; split <;> grind
theorem mY (x:Re):ab x=x∨ab x=-x:=by unfold ab; split <;> simp
theorem jw (x:Re):x≤ab x∧-x≤ab x:=by unfold ab; split <;> grind
theorem gW (x y:Re):ab (x*y)=ab x*ab y:=by
  have h:=bg x; have g:=bg y
  have k:=aH h g
  have e:ab (x*y)*ab (x*y)=(ab x*ab y)*(ab x*ab y):=by
    rcases mY x with a | a <;> rcases mY y with b | b <;> rcases mY (x*y) with c | c <;> rw [a,b,c] <;> grind
  have l:=bg (x*y)
  generalize ab (x*y)=p at *
  generalize ab x*ab y=q at *
  rcases aI (p - q) with d | d | d
  · have:=mul_pos d (show 0 < p+q by grind); grind
  · have:=mul_pos (show 0 < q - p by grind) (show 0 < p+q by grind); grind
  · grind
theorem nT {n:Int} (h:n≠0):1≤ab (n:Re):=by
  have one:((1:Int):Re)=1:=rfl
  rcases Int.lt_or_lt_of_ne h with h | h
  · have:=cE (show 1≤-n by (exact om [] [n] [(.il (.a Y0 (.n 1)) (.n 0))] (.il (.n 1) (.g Y0)) [[1,1]] rfl h)); have:=(jw (n:Re)).2; rw [cC] at *; grind
  · have:=cE (show 1≤n by (exact om [] [n] [(.il (.a (.n 0) (.n 1)) Y0)] (.il (.n 1) Y0) [[1,1]] rfl h)); have:=(jw (n:Re)).1; grind
theorem aR {x y:Re} (h:x*y=0) (g:x≠0):y=0:=by
  rcases aI x with a | a | a
  · rcases aI y with b | b | b
    · have:=mul_pos a b; grind
    · have:=mul_pos a (show 0 < -y by grind); grind
    · exact b
  · rcases aI y with b | b | b
    · have:=mul_pos (show 0 < -x by grind) b; grind
    · have:=mul_pos (show 0 < -x by grind) (show 0 < -y by grind); grind
    · exact b
  · exact absurd a g
theorem D3 (u v:Int) (a:Nat) (h:(u:Re)+v*aG a≠0):1≤ab ((u:Re)+v*aG a)*(ab ((u:Re) - v*aG a)+1):=by
  have hq:aG a*aG a=(((a:Nat):Int):Re):=dd a
  have e:((u:Re)+v*aG a)*((u:Re) - v*aG a)=((u*u - v*v*a:Int):Re):=by
    simp only [cL,am]; rw [← hq]; grind
  have k1:=bg ((u:Re)+v*aG a)
  have k2:=bg ((u:Re) - v*aG a)
  by_cases n0:u*u - v*v*a=0
  · rw [n0,aE] at e
    have w:=aR e h
    have hu:u≠0:=by
      intro hu; rw [hu,aE] at w h; grind
    have h1:=nT hu
    have:(u:Re)+v*aG a=u+u:=by grind
    rw [w,this]
    have h2:ab ((u:Re)+u)=ab u+ab u:=by
      unfold ab; split <;> split <;> grind
    have:ab (0:Re)=0:=by unfold ab; split <;> grind
    rw [h2,this]; grind
  · have h1:=nT n0
    rw [← e,gW] at h1
    grind
end Mine
namespace Mine
open Re
noncomputable def evR:List Int→Re→Re
  | [],_=>0
  | c :: r,t=>(c:Re)+t*evR r t
theorem bm (c:Int) (r:List Int) (t:Re):evR (c :: r) t=(c:Re)+t*evR r t:=rfl
theorem tH (t:Re):evR [] t=0:=rfl
theorem iM (t:Re):∀ xs ys:List Int,evR (dE xs ys) t=evR xs t+evR ys t
  | [],ys=>by rw [j8,tH]; grind
  | x :: xs,[]=>by rw [oe]; show _=_+(0:Re); grind
  | x :: xs,y :: ys=>by rw [jJ,bm,bm,bm,iM t xs ys,bE]; grind
theorem cS (c:Int) (t:Re):∀ xs:List Int,evR (smul c xs) t=c*evR xs t
  | []=>by show (0:Re)=c*0; grind
  | x :: xs=>by
    have:smul c (x :: xs)=(c*x) :: smul c xs:=rfl
    rw [this,bm,bm,cS c t xs,am]; grind
theorem fT (t:Re):∀ xs ys:List Int,evR (a7 xs ys) t=evR xs t*evR ys t
  | [],ys=>by rw [j9,tH]; grind
  | x :: r,ys=>by rw [dx,iM,cS,bm,bm,fT t r ys,aE]; grind
theorem ox (q:Int):∀ n:Nat,((q ^ n:Int):Re)=(q:Re) ^ n
  | 0=>by rw [Int.pow_zero,Lean.Grind.Semiring.pow_zero]; rfl
  | n+1=>by rw [Int.pow_succ,am,ox q n]; grind
theorem fV {p q:Int} {t:Re} (h:(q:Re)*t=p):∀ (xs:List Int) (c:Int),((aW p q (c :: xs):Int):Re)=(q:Re) ^ xs.length*evR (c :: xs) t
  | [],c=>by
    show ((0*p+c*q ^ 0:Int):Re)=(q:Re) ^ 0*((c:Re)+t*0)
    simp only [bE,am,ox,aE]; grind
  | d :: ys,c=>by
    show ((aW p q (d :: ys)*p+c*q ^ (ys.length+1):Int):Re)=(q:Re) ^ (ys.length+1)*((c:Re)+t*evR (d :: ys) t)
    rw [bE,am,am,ox,fV h ys d,← h]; grind
end Mine
namespace Mine
open Re
noncomputable def rq (p q:Int):Re:=Re.mk (.ofRat ((p:Rat) / q))
theorem bG {p q:Int} (h:q≠0):(q:Re)*rq p q=p:=e6 (x:=(Sq.ofRat (q:Rat)).mul (.ofRat ((p:Rat) / q))) (y:=.ofRat (p:Rat)) fun _=>by
  show (q:Rat)*((p:Rat) / q)=p
  have:(q:Rat)≠0:=fun e=>h (Rat.intCast_inj.mp e)
  rw [Rat.mul_comm,Rat.div_def,Rat.mul_assoc,Rat.inv_mul_cancel _ this,Rat.mul_one]
structure Ei (row:List Int) (lo hi al:Re) (σ:Int):Prop where
  l:lo < al
  u:al < hi
  sg:σ=1∨σ=-1
  val:∀ t,lo≤t→t≤hi→rsg (evR row t)=σ*rsg (t - al)
theorem eE {r a b:Re} (hr:0 < r) (h:r*a < r*b):a < b:=by
  rcases aI (b - a) with g | g | g
  · grind
  · have:=mul_pos hr (show 0 < a - b by grind); grind
  · have:a=b:=by grind
    rw [this] at h; grind
end Mine
namespace Mine
open Re
theorem dk {x y:Re} (hx:0≤x) (hy:0≤y):0≤x*y:=Lean.Grind.OrderedRing.mul_nonneg hx hy
theorem nb {lo1 hi1 a lo2 hi2 b L:Re} (h1:lo1 < a) (h2:a < hi1) (h3:lo2 < b) (h4:b < hi2) (c1:L≤lo1*lo2) (c2:L≤lo1*hi2) (c3:L≤hi1*lo2) (c4:L≤hi1*hi2):L < a*b:=by
  refine Classical.byContradiction fun hn=>?_
  have hn:a*b≤L:=by grind
  have p1:0 < hi1 - a:=by grind
  have p2:0 < a - lo1:=by grind
  have q1:0 < hi2 - b:=by grind
  have q2:0 < b - lo2:=by grind
  have w1:=mul_pos p1 q1
  have w2:=mul_pos p1 q2
  have w3:=mul_pos p2 q1
  have w4:=mul_pos p2 q2
  have t1:=dk (x:=(hi1 - a)*(hi2 - b)) (y:=lo1*lo2 - L) (by grind) (by grind)
  have t2:=dk (x:=(hi1 - a)*(b - lo2)) (y:=lo1*hi2 - L) (by grind) (by grind)
  have t3:=dk (x:=(a - lo1)*(hi2 - b)) (y:=hi1*lo2 - L) (by grind) (by grind)
  have t4:=dk (x:=(a - lo1)*(b - lo2)) (y:=hi1*hi2 - L) (by grind) (by grind)
  have ww:0 < (hi1 - lo1)*(hi2 - lo2):=mul_pos (by grind) (by grind)
  have t0:=dk (x:=(hi1 - lo1)*(hi2 - lo2)) (y:=L - a*b) (by grind) (by grind)
  have e:(hi1 - a)*(hi2 - b)*(lo1*lo2 - L)+(hi1 - a)*(b - lo2)*(lo1*hi2 - L)+(a - lo1)*(hi2 - b)*(hi1*lo2 - L)+(a - lo1)*(b - lo2)*(hi1*hi2 - L)=-((hi1 - lo1)*(hi2 - lo2)*(L - a*b)):=by
    clear t0 t1 t2 t3 t4 w1 w2 w3 w4 ww; grind
  have ne:∀ {x:Re},0 < x→x≠0:=fun h e=>by rw [e] at h; grind
  have z1:lo1*lo2 - L=0:=aR (x:=(hi1 - a)*(hi2 - b)) (by grind) (ne w1)
  have z2:lo1*hi2 - L=0:=aR (x:=(hi1 - a)*(b - lo2)) (by grind) (ne w2)
  have z3:hi1*lo2 - L=0:=aR (x:=(a - lo1)*(hi2 - b)) (by grind) (ne w3)
  have z4:hi1*hi2 - L=0:=aR (x:=(a - lo1)*(b - lo2)) (by grind) (ne w4)
  have d:hi2 - lo2≠0:=ne (by grind)
  have l0:lo1=0:=aR (x:=hi2 - lo2) (by clear t0 t1 t2 t3 t4 w1 w2 w3 w4 ww e; grind) d
  have h0:hi1=0:=aR (x:=hi2 - lo2) (by clear t0 t1 t2 t3 t4 w1 w2 w3 w4 ww e; grind) d
  grind
theorem uU {lo1 hi1 a lo2 hi2 b U:Re} (h1:lo1 < a) (h2:a < hi1) (h3:lo2 < b) (h4:b < hi2) (c1:lo1*lo2≤U) (c2:lo1*hi2≤U) (c3:hi1*lo2≤U) (c4:hi1*hi2≤U):a*b < U:=by
  have:=nb (lo1:=-hi1) (hi1:=-lo1) (a:=-a) (L:=-U) (lo2:=lo2) (hi2:=hi2) (b:=b) (by grind) (by grind) h3 h4 (by grind) (by grind) (by grind) (by grind)
  grind
theorem wf {u v B L:Re} (h1:u≤B) (h2:-B≤u) (g1:v≤L) (g2:-L≤v):u*v≤B*L:=by
  have a:=dk (x:=B - u) (y:=L+v) (by grind) (by grind)
  have b:=dk (x:=B+u) (y:=L - v) (by grind) (by grind)
  have e:(B - u)*(L+v)+(B+u)*(L - v)=2*(B*L - u*v):=by clear a b; grind
  grind
theorem CS {x1 x2 y1 y2 z B c:Re} (a1:x1≤B) (a2:-B≤x1) (b1:y2≤B) (b2:-B≤y2) (w1:z*(y1 - y2)≤c) (w2:-c≤z*(y1 - y2)) (v1:z*(x1 - x2)≤c) (v2:-c≤z*(x1 - x2)):z*(x1*y1 - x2*y2)≤B*c+B*c:=by
  have p:=wf a1 a2 w1 w2
  have q:=wf b1 b2 v1 v2
  have e:z*(x1*y1 - x2*y2)=x1*(z*(y1 - y2))+y2*(z*(x1 - x2)):=by clear p q w1 w2 v1 v2; grind
  rw [e]; grind
theorem wC {lo hi z c x y:Re} (z0:0 < z) (o:lo < hi) (w:z*(hi - lo)≤c) (hx:x=lo∨x=hi) (hy:y=lo∨y=hi):z*(x - y)≤c∧-c≤z*(x - y):=by
  have p:0 < z*(hi - lo):=mul_pos z0 (by grind)
  have e:z*(lo - hi)=-(z*(hi - lo)):=by grind
  have e0:∀ t:Re,z*(t - t)=0:=fun t=>by grind
  rcases hx with rfl | rfl <;> rcases hy with rfl | rfl
  · rw [e0]; grind
  · rw [e]; grind
  · grind
  · rw [e0]; grind
theorem vz {lo1 hi1 lo2 hi2 z xl xh B c:Re} (z0:0 < z) (l1:-B≤lo1) (u1:hi1≤B) (o1:lo1 < hi1) (l2:-B≤lo2) (u2:hi2≤B) (o2:lo2 < hi2) (w1:z*(hi1 - lo1)≤c) (w2:z*(hi2 - lo2)≤c)
    (hl:xl=lo1*lo2∨xl=lo1*hi2∨xl=hi1*lo2∨xl=hi1*hi2) (hh:xh=lo1*lo2∨xh=lo1*hi2∨xh=hi1*lo2∨xh=hi1*hi2):z*(xh - xl)≤B*c+B*c:=by
  have S:∀ {x:Re},(x=lo1*lo2∨x=lo1*hi2∨x=hi1*lo2∨x=hi1*hi2)→∃ p q,(p=lo1∨p=hi1)∧(q=lo2∨q=hi2)∧x=p*q:=fun h=>by
    rcases h with rfl | rfl | rfl | rfl
    · exact ⟨_,_,.inl rfl,.inl rfl,rfl⟩
    · exact ⟨_,_,.inl rfl,.inr rfl,rfl⟩
    · exact ⟨_,_,.inr rfl,.inl rfl,rfl⟩
    · exact ⟨_,_,.inr rfl,.inr rfl,rfl⟩
  refine aJ (S hl) fun p q hp hq zq16=>?_; subst zq16
  refine aJ (S hh) fun p' q' hp' hq' zq15=>?_; subst zq15
  have k1:=wC z0 o2 w2 hq' hq
  have k2:=wC z0 o1 w1 hp' hp
  refine CS ?_ ?_ ?_ ?_ k1.1 k1.2 k2.1 k2.2
  · clear k1 k2 w1 w2; rcases hp' with rfl | rfl <;> grind
  · clear k1 k2 w1 w2; rcases hp' with rfl | rfl <;> grind
  · clear k1 k2 w1 w2; rcases hq with rfl | rfl <;> grind
  · clear k1 k2 w1 w2; rcases hq with rfl | rfl <;> grind
end Mine
namespace Mine
open Re
theorem qG (t:Re):∀ {xs:List Int},(∀ x∈xs,x=0)→evR xs t=0
  | [],_=>rfl
  | x :: xs,h=>by rw [bm,h x (.head _),aE,qG t fun y hy=>h y (.tail _ hy)]; grind
theorem ux {xs ys:List Int} (h:∀ t,ev xs t=ev ys t) (s:Re):evR xs s=evR ys s:=by
  have z:=du (xs:=dE xs (smul (-1) ys)) fun t _=>by
    show ev _ t=0
    rw [fq,bZ,h]; exact om [] [ev ys t,-1*ev ys t] [(.ie Y1 (.g (.m 1 Y0)))] (.ie (.a Y0 Y1) (.n 0)) [[1,0,1],[1,1]] rfl (Int.neg_mul 1 (ev ys t))
  have e:=qG s z
  rw [iM,cS] at e
  have m:((-1:Int):Re)=-1:=rfl
  rw [m] at e; grind
theorem Au {G A:List Int} (h:Dv (ev G) (ev A)):∃ (c:Int) (K:List Int),c≠0∧∀ s,(c:Re)*evR A s=evR G s*evR K s:=by
  obtain ⟨c,k,hc,⟨K,hK⟩,e⟩:=h
  refine ⟨c,K,hc,fun s=>?_⟩
  have:=ux (xs:=smul c A) (ys:=a7 G K) (fun t=>by rw [bZ,bJ,e,hK]) s
  rwa [cS,fT] at this
theorem u5 {A B x:List Int} (h:Comb A B x):∃ (c:Int) (U W:List Int),c≠0∧∀ s,(c:Re)*evR x s=evR U s*evR A s+evR W s*evR B s:=by
  obtain ⟨c,u,v,hc,⟨U,hU⟩,⟨W,hW⟩,e⟩:=h
  refine ⟨c,U,W,hc,fun s=>?_⟩
  have:=ux (xs:=smul c x) (ys:=dE (a7 U A) (a7 W B)) (fun t=>by rw [bZ,fq,bJ,bJ,e,hU,hW]) s
  rwa [cS,iM,fT,fT] at this
end Mine
namespace Mine
open Re
noncomputable def PR:Nat→(Re→Re)→Prop
  | 0,f=>∀ t,f t=0
  | n+1,f=>∃ c g,PR n g∧∀ t,f t=c+t*g t
theorem PR.lin:∀ {n:Nat} {f g:Re→Re} (r:Re),PR n f→PR n g→PR n fun t=>f t+r*g t
  | 0,f,g,r,hf,hg=>fun t=>by show f t+r*g t=0; rw [hf t,hg t]; grind
  | n+1,f,g,r,⟨c,f1,hf,ef⟩,⟨d,g1,hg,eg⟩=>⟨c+r*d,_,PR.lin r hf hg,fun t=>by show f t+r*g t=_; rw [ef,eg]; grind⟩
theorem PR.up:∀ {n:Nat} {f:Re→Re},PR n f→PR (n+1) f
  | 0,f,h=>⟨0,f,h,fun t=>by rw [h t]; grind⟩
  | n+1,f,⟨c,g,hg,e⟩=>⟨c,g,hg.up,e⟩
theorem PR.fac:∀ {n:Nat} {f:Re→Re} (r:Re),PR (n+1) f→∃ g,PR n g∧∀ t,f t=f r+(t - r)*g t
  | 0,f,r,⟨c,g,hg,e⟩=>⟨fun _=>0,fun _=>rfl,fun t=>by rw [e,e r,hg t,hg r]; grind⟩
  | n+1,f,r,⟨c,g,hg,e⟩=>by
    refine ad (PR.fac r hg) fun h hh eh=>?_
    refine ⟨_,PR.lin r hg hh.up,fun t=>?_⟩
    show f t=f r+(t - r)*(g t+r*h t)
    rw [e,e r,eh t]; grind
theorem pW:∀ xs:List Int,PR xs.length (evR xs)
  | []=>fun _=>rfl
  | c :: xs=>⟨(c:Re),evR xs,pW xs,fun _=>rfl⟩
noncomputable def bS:List Re→Re→Re
  | [],_=>1
  | r :: rs,t=>(t - r)*bS rs t
theorem aU (r:Re) (rs:List Re) (t:Re):bS (r :: rs) t=(t - r)*bS rs t:=rfl
theorem a8 (t:Re):bS [] t=1:=rfl
noncomputable def Out (lo hi r:Re):Prop:=r < lo∨hi < r
theorem oG:(1:Re)≠0:=by have:=Lean.Grind.OrderedRing.zero_lt_one (R:=Re); grind
theorem aQ {x y:Re} (h:x≠0) (g:y≠0):x*y≠0:=fun e=>g (aR e h)
theorem Cv {lo hi r:Re} (h:Out lo hi r):∃ σ:Int,(σ=1∨σ=-1)∧∀ t,lo≤t→t≤hi→rsg (t - r)=σ:=by
  rcases h with h | h
  · exact ⟨1,.inl rfl,fun t h1 _=>aK (by exact hV (wE (h) (h1)))⟩
  · exact ⟨-1,.inr rfl,fun t _ h2=>aM (by exact xq (yA (h2) (h)))⟩
theorem xp {a b:Int} (h:a=1∨a=-1) (g:b=1∨b=-1):a*b=1∨a*b=-1:=by
  rcases h with rfl | rfl <;> rcases g with rfl | rfl <;> decide
theorem pD {lo hi:Re}:∀ {rs:List Re},(∀ r∈rs,Out lo hi r)→∃ σ:Int,(σ=1∨σ=-1)∧∀ t,lo≤t→t≤hi→rsg (bS rs t)=σ
  | [],_=>⟨1,.inl rfl,fun _ _ _=>aK Lean.Grind.OrderedRing.zero_lt_one⟩
  | r :: rs,h=>by
    refine ad (Cv (h r (.head _))) fun a ha ea=>?_
    refine ad (pD fun x hx=>h x (.tail _ hx)) fun b hb eb=>?_
    exact ⟨a*b,xp ha hb,fun t h1 h2=>by rw [aU,ir,ea t h1 h2,eb t h1 h2]⟩
theorem CB {x:Re} (h:x≠0):rsg x=1∨rsg x=-1:=by
  rcases aI x with g | g | g
  · exact .inl (aK g)
  · exact .inr (aM g)
  · exact absurd g h
theorem dX {c:Int} (hc:c≠0):(c:Re)≠0:=fun h=>by
  have e:=ij c
  rw [h,aT] at e
  unfold sg at e
  rcases Int.lt_or_lt_of_ne hc with g | g
  · rw [if_pos g] at e; exact absurd e (by decide)
  · rw [if_neg (by (exact om [] [c] [(.il (.a (.n 0) (.n 1)) Y0)] (.no (.il (.a Y0 (.n 1)) (.n 0))) [[1,1]] rfl g)),if_pos g] at e; exact absurd e (by decide)
structure RP (row:List Int) (lo hi al:Re):Prop where
  l:lo < al
  u:al < hi
  fa:∃ (c:Re) (rs:List Re),c≠0∧row.length=rs.length+2∧rs.Pairwise (·≠·)∧(∀ r∈rs,Out lo hi r)∧∀ t,evR row t=c*((t - al)*bS rs t)
theorem RP.sub {row:List Int} {lo hi al lo' hi':Re} (h:RP row lo hi al) (h1:lo≤lo') (h2:lo' < al) (h3:al < hi') (h4:hi'≤hi):RP row lo' hi' al:=by
  refine ck (h.fa) fun c rs k1 k2 k3 k4 k5=>?_
  exact ⟨h2,h3,c,rs,k1,k2,k3,fun r hr=>(k4 r hr).elim (fun g=>.inl (by exact wE (g) (h1))) fun g=>.inr (by exact yA (h4) (g)),k5⟩
theorem RP.sign {row:List Int} {lo hi al:Re} (h:RP row lo hi al):∃ σ:Int,(σ=1∨σ=-1)∧∀ t,lo≤t→t≤hi→rsg (evR row t)=σ*rsg (t - al):=by
  refine ck (h.fa) fun c rs k1 k2 k3 k4 k5=>?_
  refine ad (pD k4) fun a ha ea=>?_
  refine ⟨rsg c*a,xp (CB k1) ha,fun t h1 h2=>?_⟩
  rw [k5,ir,ir,ea t h1 h2,Int.mul_assoc,Int.mul_comm a]
end Mine
namespace Mine
open Re
end Mine
namespace Mine
open Re
theorem n9 {x y:Int} (h:(x:Re) < (y:Re)):x < y:=Int.not_le.mp fun g=>by have:=cE g; grind
theorem fJ {x y:Int} (h:(x:Re)≤(y:Re)):x≤y:=Int.not_lt.mp fun g=>by have:=kg g; grind
theorem fu {x y:Int} (h:(x:Re)=(y:Re)):x=y:=by
  have h1:(x:Re)≤(y:Re):=by grind
  have h2:(y:Re)≤(x:Re):=by grind
  have:=fJ h1; have:=fJ h2; (clear h h1 h2; omega)
theorem eZ {a x y:Re} (ha:a≠0) (h:a*x=a*y):x=y:=by
  have:=aR (show a*(x - y)=0 by grind) ha
  grind
theorem cz {q:Int} (h:0 < q):(q:Re)≠0:=dX (Int.ne_of_gt h)
theorem nQ {p1 q1 p2 q2:Int} {x y:Re} (h1:0 < q1) (h2:0 < q2) (e1:(q1:Re)*x=p1) (e2:(q2:Re)*y=p2):p1*q2 < p2*q1 ↔ x < y:=by
  have hq:(0:Re) < (q1:Re)*q2:=mul_pos (a6 h1) (a6 h2)
  have i1:((p1*q2:Int):Re)=(q1:Re)*q2*x:=by rw [am,← e1]; grind
  have i2:((p2*q1:Int):Re)=(q1:Re)*q2*y:=by rw [am,← e2]; grind
  constructor
  · intro h
    have:=kg h
    rw [i1,i2] at this
    exact eE hq this
  · intro h
    have k:=mul_pos hq (show 0 < y - x by exact hV (h))
    refine n9 ?_
    rw [i1,i2]
    rw [show (q1:Re)*q2*(y - x)=q1*q2*y - q1*q2*x by grind] at k
    clear i1 i2 e1 e2 hq; grind
theorem eY {p1 q1 p2 q2 p q:Int} {x y:Re} (h1:0 < q1) (h2:0 < q2) (e1:(q1:Re)*x=p1) (e2:(q2:Re)*y=p2) (e:p*(q1*q2)=(p1*q2+p2*q1)*q):(q:Re)*(x+y)=p:=by
  have hq:(q1:Re)*q2≠0:=aQ (cz h1) (cz h2)
  have e':=congrArg (fun z:Int=>(z:Re)) e
  simp only [am,bE] at e'
  refine eZ hq ?_
  rw [← e1,← e2] at e'
  grind
theorem sS {u v p q n:Int} {x:Re} (hv:0 < v) (hq:0 < q) (e1:(v:Re)*x=u) (e:p*(v*n)=(u*1)*q):(n:Re)*rq p q=x:=by
  have h:(q:Re)*v≠0:=aQ (cz hq) (cz hv)
  have e':=congrArg (fun z:Int=>(z:Re)) e
  rw [Int.mul_one] at e'
  simp only [am] at e'
  have e2:=bG (p:=p) (Int.ne_of_gt hq)
  refine eZ h ?_
  rw [← e1,← e2] at e'
  grind
theorem cV {q:Int} (h:0 < q):∀ n:Nat,0 < q ^ n
  | 0=>by rw [Int.pow_zero]; decide
  | n+1=>by rw [Int.pow_succ]; exact Int.mul_pos (cV h n) h
theorem gY {p q:Int} {x:Re} (e:(q:Re)*x=p):(q:Re)*(-x)=((-p:Int):Re):=by rw [cC,← e]; grind
theorem oY {row:List Int} {p q:Int} {x:Re} (hr:row≠[]) (hq:0 < q) (e:(q:Re)*x=p):sgn (aW p q row)=rsg (evR row x):=by
  cases row with
  | nil=>exact absurd rfl hr
  | cons c xs =>
    have h:=fV e xs c
    have h2:=congrArg rsg h
    rw [ij,ir,← ox,ij] at h2
    have:sg (q ^ xs.length)=1:=by
      have:=cV hq xs.length
      unfold sg; rw [if_neg (by (exact om [] [q ^ xs.length] [(.il (.a (.n 0) (.n 1)) Y0)] (.no (.il (.a Y0 (.n 1)) (.n 0))) [[1,1]] rfl this)),if_pos this]
    rw [this,Int.one_mul] at h2
    exact h2
structure Pt (D:Int) (x:Re) (p q:Int):Prop where
  pos:0 < q
  one:p.gcd q=1
  val:(q:Re)*x=p
  un:∃ a:Int,(D:Re)*x=a
theorem Pt.low {D B p q:Int} {x:Re} {k:Nat} (h:Pt D x p q) (hD:0 < D) (hB:1≤B) (b1:-(B:Re)≤x) (b2:x≤B) (s:Sm k (D*B)):Low k p q:=by
  obtain ⟨a,ha⟩:=h.un
  have e:p*D=a*q:=fu (by rw [am,am,← h.val,← ha]; grind)
  have hD':=Std.le_of_lt (a6 hD)
  have i1:a≤D*B:=fJ (by rw [am,← ha]; have:=aH hD' (show 0≤(B:Re) - x by exact rn (b2)); clear e b1 s ha; grind)
  have i2:-(D*B)≤a:=fJ (by rw [cC,am,← ha]; have:=aH hD' (show 0≤(B:Re)+x by grind); clear e b1 s ha; grind)
  have i3:D≤D*B:=by have:=Int.mul_le_mul_of_nonneg_left hB (Int.le_of_lt hD); (exact om [] [D,D*B] [(.il (.r Y0 1) Y1)] (.il Y0 Y1) [[1,1]] rfl this)
  refine ze h.one h.pos hD e (s.of_le ?_) (s.of_le ?_) <;> clear e ha b1 b2 hD' <;> (clear h hB s; omega)
theorem Pt.scale {D p q:Int} {x:Re} (h:Pt D x p q) (n:Int):Pt (n*D) x p q:=by
  obtain ⟨a,ha⟩:=h.un
  exact ⟨h.pos,h.one,h.val,n*a,by rw [am,am,← ha]; grind⟩
theorem Pt.of_low {k:Nat} {D p q:Int} {x:Re} (h:Low k p q) (e:(q:Re)*x=p) (u:∃ a:Int,(D:Re)*x=a):Pt D x p q:=⟨h.pos,h.one,e,u⟩
theorem yj {P:Nat→Prop} (h:∃ n,P n):∃ n,P n∧∀ m,P m→n≤m:=by
  obtain ⟨n,hn⟩:=h
  induction n using Nat.strongRecOn with
  | ind n ih =>
    by_cases g:∃ m,m < n∧P m
    · refine ad (g) fun m hm pm=>?_; exact ih m hm pm
    · exact ⟨n,hn,fun m pm=>Nat.not_lt.mp fun l=>g ⟨m,l,pm⟩⟩
open Classical in
noncomputable def muI (I:Nat→Loc→Hp→Prop) (ρ:Loc) (H:Hp):Nat:=if h:∃ n,I n ρ H then Classical.choose (yj h) else 0
theorem rT {I:Nat→Loc→Hp→Prop} {ρ:Loc} {H:Hp} (h:∃ n,I n ρ H):I (muI I ρ H) ρ H:=by
  unfold muI; rw [dif_pos h]; exact (Classical.choose_spec (yj h)).1
theorem ow {I:Nat→Loc→Hp→Prop} {ρ:Loc} {H:Hp} {n:Nat} (h:I n ρ H):muI I ρ H≤n:=by
  unfold muI; rw [dif_pos ⟨n,h⟩]; exact (Classical.choose_spec (yj ⟨n,h⟩)).2 n h
structure yP (D:Int) (al lo hi lo' hi':Re) (x1 y1 x2 y2:Int):Prop where
  a1:Pt (8*D) lo' x1 y1
  a2:Pt (8*D) hi' x2 y2
  l1:lo≤lo'
  l2:lo' < al
  u1:al < hi'
  u2:hi'≤hi
  wd:2*(hi' - lo')≤hi - lo
end Mine
set_option maxRecDepth 100000
namespace Mine
open PySem
open Re
noncomputable abbrev pt (p q:Int):V:=.tup [.int p,.int q]
noncomputable def qK (H:Hp) (one wv v:V) (D:Int) (al lo hi:Re) (p1 q1 p2 q2:Int) (n:Nat) (ρ:Loc) (H':Hp):Prop :=
  H'=H∧∃ x1 y1 x2 y2 o5 o6 o7,ρ=[some one,some wv,some v,some (pt x1 y1),some (pt x2 y2),o5,o6,o7] ∧
    ((n=1∧x1=p1∧y1=q1∧x2=p2∧y2=q2)∨(n=0∧∃ lo' hi',yP D al lo hi lo' hi' x1 y1 x2 y2))
theorem Bv {lo hi lo' hi' wr:Re} (h1:2*wr=hi - lo) (h2:2*(hi' - lo')≤hi - lo):¬ wr < hi'+-lo':=by grind
theorem Bp {lo hi al wr:Re} (h1:2*wr=hi - lo) (l:lo < al) (u:al < hi):wr < hi+-lo:=by grind
theorem BU {lo hi m B:Re} (e:2*m=lo+hi) (h:lo < hi) (b1:-B≤lo) (b2:hi≤B):lo < m∧m < hi∧-B≤m∧m≤B:=by grind
theorem yK {D:Int} {lo hi m:Re} {a b:Int} (e:2*m=lo+hi) (h1:(D:Re)*lo=a) (h2:(D:Re)*hi=b):((8*D:Int):Re)*m=((4*(a+b):Int):Re):=by
  rw [am,am,bE,← h1,← h2]
  have e8:((8:Int):Re)=8:=rfl
  have e4:((4:Int):Re)=4:=rfl
  rw [e8,e4]
  have:(D:Re)*(2*m)=D*(lo+hi):=by rw [e]
  grind
theorem BV {D:Int} {lo hi m s:Re} {a b:Int} (e:2*m=lo+hi) (es:8*s=hi - lo) (h1:(D:Re)*lo=a) (h2:(D:Re)*hi=b):((8*D:Int):Re)*(m+-s)=((4*(a+b) - (b - a):Int):Re)∧((8*D:Int):Re)*(m+s)=((4*(a+b)+(b - a):Int):Re):=by
  have h:=yK e h1 h2
  have e8:((8:Int):Re)=8:=rfl
  have k:((8*D:Int):Re)*s=((b - a:Int):Re):=by
    rw [am,cL,← h1,← h2,e8]
    have:(D:Re)*(8*s)=D*(hi - lo):=by rw [es]
    grind
  constructor
  · rw [cL,← h,← k]; grind
  · rw [bE,← h,← k]; grind
theorem BA {lo hi m s al:Re} (e:2*m=lo+hi) (es:8*s=hi - lo) (h:lo < hi) (ea:m=al):lo≤m+-s∧m+-s < al∧al < m+s∧m+s≤hi∧2*((m+s) - (m+-s))≤hi - lo:=by
  have:0 < s:=by
    have h8:(0:Re) < 8*s:=by grind
    rcases aI s with g | g | g
    · exact g
    · grind
    · rw [g] at h8; grind
  grind
theorem rsg_is {x:Re}:rsg x=-1 ↔ x < 0:=by
  rcases aI x with g | g | g
  · rw [aK g]; constructor
    · intro h; exact absurd h (by decide)
    · intro h; grind
  · rw [aM g]; exact ⟨fun _=>g,fun _=>rfl⟩
  · rw [g,aT]; constructor
    · intro h; exact absurd h (by decide)
    · intro h; grind
theorem rsg_is0 {x:Re}:rsg x=0 ↔ x=0:=by
  rcases aI x with g | g | g
  · rw [aK g]; constructor
    · intro h; exact absurd h (by decide)
    · intro h; grind
  · rw [aM g]; constructor
    · intro h; exact absurd h (by decide)
    · intro h; grind
  · rw [g,aT]; exact ⟨fun _=>rfl,fun _=>rfl⟩
theorem CC {row:List Int} {lo hi al m:Re} (h:RP row lo hi al) (h1:lo < m) (h2:m < hi):(rsg (evR row m)=0 ↔ m=al)∧(rsg (evR row m)=rsg (evR row lo) ↔ m < al):=by
  obtain ⟨σ,hσ,e⟩:=h.sign
  have hl:=h.l
  have hu:=h.u
  have e1:=e m (Std.le_of_lt h1) (Std.le_of_lt h2)
  have e2:=e lo (Std.le_refl _) (Std.le_of_lt (by exact sj (h1) (h2)))
  rw [aM (x:=lo - al) (by exact xq (hl))] at e2
  constructor
  · rw [e1]
    constructor
    · intro h0
      have:rsg (m - al)=0:=by rcases hσ with rfl | rfl <;> (clear h h1 h2 hl hu e e1 e2; omega)
      have:=rsg_is0.mp this
      grind
    · intro h0
      rw [rsg_is0.mpr (show m - al=0 by grind),Int.mul_zero]
  · rw [e1,e2]
    constructor
    · intro h0
      have:rsg (m - al)=-1:=by rcases hσ with rfl | rfl <;> (clear h h1 h2 hl hu e e1 e2; omega)
      have:=rsg_is.mp this
      grind
    · intro h0
      rw [rsg_is.mpr (show m - al < 0 by exact xq (h0))]
theorem yR {row:List Int} (hl:row.length≤4):200+1+(row.length+1)*(600+2)≤1000000:=by
  exact om [row.length] [] [(.le Y0 (.n 4))] (.le (.a (.n 201) (.r (.a Y0 (.n 1)) 602)) (.n 1000000)) [[1,602]] rfl hl
theorem ok6 {x y:Int} {k l:Nat} (h1:Sm k x) (h2:Sm l y) (hk:k≤4000:=by decide) (hl:l≤4000:=by decide):IntMulOk x y:=IntMulOk.sm h1 h2 (Nat.le_trans hk (by decide)) (Nat.le_trans hl (by decide))
section
noncomputable def nO (kc be ps pr ta sg:Nat):PS:=(.seq (.ite (.cmp .le (.idx (.var 1) (.cint 0)) (.cint 0)) (.seq (.raise kc)
 .skip) .skip)
 (.seq (.unpack [2,3,4] (.var 0))
 (.seq (.whl (Bc be ps ta) (Ba ps pr ta sg))
 (.seq (.ret (.tup (.cons (.var 2) (.cons (.var 3) (.cons (.var 4) .nil)))))
 .skip))))
variable {sub:Nat→Nat→Bool} {P:List Fn} {f n dv pa be ps pr ta sg wo na ha kc:Nat} {H:Hp} {Q:V→Hp→Prop} {X:Nat→Hp→Prop}
theorem Bw (e:P[f]?=some ⟨2,8,nO kc be ps pr ta sg⟩) (eb:P[be]?=some ⟨2,2,e9⟩) (es:P[ps]?=some ⟨2,2,eK pa⟩) (er:P[pr]?=some ⟨2,2,cH pa⟩) (et:P[ta]?=some ⟨1,1,gu⟩) (eg:P[sg]?=some ⟨2,5,kT⟩) (ep:P[pa]?=some ⟨2,3,bL dv⟩) (ed:P[dv]?=some ⟨2,3,bW⟩)
    {v:V} {row:List Int} {p1 q1 p2 q2 wp wq D B:Int} {al lo hi wr:Re} (hv:items H v=some (row.map .int)) (hsm:AllSm 200 row) (hl:row.length≤4) (hr:RP row lo hi al)
    (a1:Pt D lo p1 q1) (a2:Pt D hi p2 q2) (hD:0 < D) (hB:1≤B) (b1:-(B:Re)≤lo) (b2:hi≤B) (hk:Sm 600 (8*D*B)) (w:Low 1204 wp wq) (hw:(wq:Re)*wr=wp) (hw2:2*wr=hi - lo)
    (hQ:∀ lo' hi' x1 y1 x2 y2,yP D al lo hi lo' hi' x1 y1 x2 y2→Q (.tup [v,pt x1 y1,pt x2 y2]) H) :
    aj sub P (n+4) f [.tup [v,pt p1 q1,pt p2 q2],pt wp wq] H Q X:=by
  have hlh:lo < hi:=by have:=hr.l; have:=hr.u; grind
  have hw0:0 < wp:=by
    refine n9 ?_
    rw [← hw,aE]
    refine mul_pos (a6 w.pos) ?_
    grind
  have hrne:row≠[]:=by refine aJ (hr.fa) fun c rs _ h _=>?_; intro h'; rw [h'] at h; cases h
  have hD8:0 < 8*D:=by (exact om [] [D] [(.il (.a (.n 0) (.n 1)) Y0)] (.il (.a (.n 0) (.n 1)) (.m 8 Y0)) [[1,8]] rfl hD)
  have hB3:=yR hl
  refine ai e rfl ?_
  dsimp only [nO,qS1,qS2,qS4,qS9,bj,dy,fA,qE1,qE5,bh,aY,cJ,aC,aD,CL,cq,aZ,az,aA,ax,aw,aP,ay,aq,fw,ac,jn,af,au,kz,Nat.reduceSub,Nat.reduceAdd,List.length_nil]
  rw [decide_eq_false (Int.not_le.mpr hw0)]
  dsimp only [bR]
  refine ⟨rfl,fun ρ H'=>∃ n,qK H (.tup [v,pt p1 q1,pt p2 q2]) (pt wp wq) v D al lo hi p1 q1 p2 q2 n ρ H',muI (qK H (.tup [v,pt p1 q1,pt p2 q2]) (pt wp wq) v D al lo hi p1 q1 p2 q2),⟨1,rfl,p1,q1,p2,q2,_,_,_,rfl,.inl ⟨rfl,rfl,rfl,rfl,rfl⟩⟩,?_⟩
  intro ρ H' hex
  have hI:=rT hex
  generalize muI (qK H (.tup [v,pt p1 q1,pt p2 q2]) (pt wp wq) v D al lo hi p1 q1 p2 q2) ρ H'=nn at *
  refine oI (hI) fun zq17 x1 y1 x2 y2 o5 o6 o7 zq18 hc=>?_; subst zq17; subst zq18
  dsimp only [Bc,qE5,aO,aC,aD,ac,af]
  rcases hc with ⟨rfl,rfl,rfl,rfl,rfl⟩ | ⟨rfl,lo',hi',O⟩
  · have L1:Low 600 x1 y1:=(a1.scale 8).low hD8 hB b1 (by exact ol (wE (hlh) (b2))) hk
    have L2:Low 600 x2 y2:=(a2.scale 8).low hD8 hB (by exact ol (yA (b1) (hlh))) b2 hk
    refine wN et ?_
    refine rQ es ep ed L2 L1.neg (by decide) fun d1 d2 Dd hd=>?_
    refine oo eb (ok6 w.top Dd.bot) (ok6 Dd.top w.bot) ?_
    dsimp only [aZ,ac]
    rw [decide_eq_true ((nQ w.pos Dd.pos hw (eY a2.pos a1.pos a2.val (gY a1.val) hd)).mpr (Bp hw2 hr.l hr.u))]
    dsimp only [Ba,qS1,qS2,qS3,qS9,bj,qE1,qE5,qE7,bh,aO,cJ,aC,aD,bu,ac,af,au]
    refine rQ es ep ed L1 L2 (by decide) fun s1 s2 S hs=>?_
    refine nL er ep ed (l:=3) S.top S.bot S.pos (by unfold Sm; decide) (by unfold Sm; decide) (by decide) (by decide) fun m1 m2 M hm=>?_
    have em:2*rq m1 m2=lo+hi:=sS (n:=2) S.pos M.pos (eY a1.pos a2.pos a1.val a2.val hs) hm
    have vm:=bG (p:=m1) (Int.ne_of_gt M.pos)
    generalize rq m1 m2=m at *
    refine bP (BU em hlh b1 b2) fun i1 i2 i3 i4=>?_
    obtain ⟨a,ha⟩:=a1.un
    obtain ⟨b,hb⟩:=a2.un
    have PM:Pt (8*D) m m1 m2:=Pt.of_low M vm ⟨_,yK em ha hb⟩
    have LM:Low 600 m1 m2:=PM.low hD8 hB i3 i4 hk
    obtain ⟨g1,g2⟩:=CC hr i1 i2
    refine oi eg hv hsm LM.top LM.bot hB3 ?_
    dsimp only [gi,aZ,ac]
    rw [oY hrne M.pos vm]
    by_cases hz:rsg (evR row m)=0
    · rw [decide_eq_true hz]
      dsimp only [bu]
      refine nL er ep ed (l:=3) w.top w.bot w.pos (by unfold Sm; decide) (by unfold Sm; decide) (by decide) (by decide) fun t1 t2 T ht=>?_
      have et4:4*rq t1 t2=wr:=sS (n:=4) w.pos T.pos hw ht
      have vt:=bG (p:=t1) (Int.ne_of_gt T.pos)
      generalize rq t1 t2=s at *
      have e8:8*s=hi - lo:=by grind
      refine wN et ?_
      refine rQ es ep ed LM T.neg (by decide) fun z1 w1 Z1 hz1=>?_
      refine rQ es ep ed LM T (by decide) fun z2 w2 Z2 hz2=>?_
      obtain ⟨u1,u2⟩:=BV em e8 ha hb
      obtain ⟨k1,k2,k3,k4,k5⟩:=BA em e8 hlh (g1.mp hz)
      exact hQ _ _ _ _ _ _ ⟨Pt.of_low Z1 (eY M.pos T.pos vm (gY vt) hz1) ⟨_,u1⟩,Pt.of_low Z2 (eY M.pos T.pos vm vt hz2) ⟨_,u2⟩,k1,k2,k3,k4,k5⟩
    · rw [decide_eq_false hz]
      dsimp only [xY,qS1,qS2,qS3,bj,qE5,bh,aO,aC,aD,bR,ac,af,au]
      refine oi eg hv hsm L1.top L1.bot hB3 ?_
      dsimp only [gi,aZ,ac]
      rw [oY hrne a1.pos a1.val]
      by_cases hs':rsg (evR row m)=rsg (evR row lo)
      · rw [decide_eq_true hs']
        have hN:qK H' (.tup [v,pt x1 y1,pt x2 y2]) (pt wp wq) v D al lo hi x1 y1 x2 y2 0 [some (.tup [v,pt x1 y1,pt x2 y2]),some (pt wp wq),some v,some (pt m1 m2),some (pt x2 y2),some (pt m1 m2),some (.int (rsg (evR row m))),o7] H' :=
          ⟨rfl,_,_,_,_,_,_,_,rfl,.inr ⟨rfl,m,hi,PM,a2.scale 8,Std.le_of_lt i1,g2.mp hs',hr.u,Std.le_refl _,by clear g1 g2 hz hs' vm ha hb; grind⟩⟩
        exact ⟨⟨_,hN⟩,Nat.lt_of_le_of_lt (ow hN) (by decide)⟩
      · rw [decide_eq_false hs']
        have hma:al < m:=by
          have n1:¬ m=al:=fun h=>hz (g1.mpr h)
          have n2:¬ m < al:=fun h=>hs' (g2.mpr h)
          clear g1 g2 hz hs' vm ha hb
          grind
        have hN:qK H' (.tup [v,pt x1 y1,pt x2 y2]) (pt wp wq) v D al lo hi x1 y1 x2 y2 0 [some (.tup [v,pt x1 y1,pt x2 y2]),some (pt wp wq),some v,some (pt x1 y1),some (pt m1 m2),some (pt m1 m2),some (.int (rsg (evR row m))),o7] H' :=
          ⟨rfl,_,_,_,_,_,_,_,rfl,.inr ⟨rfl,lo,m,a1.scale 8,PM,Std.le_refl _,hr.l,hma,Std.le_of_lt i2,by clear g1 g2 hz hs' vm ha hb; grind⟩⟩
        exact ⟨⟨_,hN⟩,Nat.lt_of_le_of_lt (ow hN) (by decide)⟩
  · have o1:=O.l1
    have o2:=O.u2
    have o3:=O.l2
    have o4:=O.u1
    have L1:Low 600 x1 y1:=O.a1.low hD8 hB (by exact l8 (b1) (o1)) (by grind) hk
    have L2:Low 600 x2 y2:=O.a2.low hD8 hB (by grind) (by exact l8 (o2) (b2)) hk
    refine wN et ?_
    refine rQ es ep ed L2 L1.neg (by decide) fun d1 d2 Dd hd=>?_
    refine oo eb (ok6 w.top Dd.bot) (ok6 Dd.top w.bot) ?_
    dsimp only [aZ,ac]
    rw [decide_eq_false (fun h=>Bv hw2 O.wd ((nQ w.pos Dd.pos hw (eY O.a2.pos O.a1.pos O.a2.val (gY O.a1.val) hd)).mp h))]
    exact hQ _ _ _ _ _ _ O
end
end Mine
set_option maxRecDepth 100000
namespace Mine
open PySem
open Re
structure PD (row:List Int) (N:Int) (al lo hi:Re) (p1 q1 p2 q2:Int) (j:Nat):Prop where
  rp:RP row lo hi al
  tr:Tr row
  ln:row.length≤4
  sm:AllSm 200 row
  n0:0 < N
  n1:N≤1073741824
  a1:Pt (N*8 ^ j) lo p1 q1
  a2:Pt (N*8 ^ j) hi p2 q2
  wd:((2 ^ j:Int):Re)*(hi - lo)≤((64:Int):Re)
  b1:-((1073741824:Int):Re)≤lo
  b2:hi≤((1073741824:Int):Re)
section
variable {row:List Int} {N:Int} {al lo hi:Re} {p1 q1 p2 q2:Int} {j:Nat}
theorem PD.dpos (d:PD row N al lo hi p1 q1 p2 q2 j):0 < N*8 ^ j:=Int.mul_pos d.n0 (cV (by decide) j)
theorem PD.big (d:PD row N al lo hi p1 q1 p2 q2 j) (hj:j≤120):Sm 600 (8*(N*8 ^ j)*1073741824):=by
  have h8:Sm 4 (8:Int):=by unfold Sm; decide
  have hN : Sm 31 N := by have := d.n0; have := d.n1; unfold Sm; have : (2 : Nat) ^ 31 = 2147483648 := by decide
                          (clear d hj h8 this; omega)
  have hp:Sm (4*j+1) ((8:Int) ^ j):=h8.pow j
  have hB:Sm 31 (1073741824:Int):=by unfold Sm; decide
  exact ((h8.mul (hN.mul hp)).mul hB).mono (by (exact om [j] [] [(.le Y0 (.n 120))] (.le (.a (.a (.n 4) (.a (.n 31) (.a (.m 4 Y0) (.n 1)))) (.n 31)) (.n 600)) [[1,4]] rfl hj))
theorem PD.lh (d:PD row N al lo hi p1 q1 p2 q2 j):lo < hi:=by have:=d.rp.l; have:=d.rp.u; grind
theorem PD.low1 (d:PD row N al lo hi p1 q1 p2 q2 j) (hj:j≤120):Low 600 p1 q1:=by
  have h:=d.lh; have h1:=d.b1; have h2:=d.b2
  exact (d.a1.scale 8).low (B:=1073741824) (Int.mul_pos (by decide) d.dpos) (by decide) h1 (by exact ol (wE (h) (h2))) (d.big hj)
theorem PD.low2 (d:PD row N al lo hi p1 q1 p2 q2 j) (hj:j≤120):Low 600 p2 q2:=by
  have h:=d.lh; have h1:=d.b1; have h2:=d.b2
  exact (d.a2.scale 8).low (B:=1073741824) (Int.mul_pos (by decide) d.dpos) (by decide) (by exact ol (yA (h1) (h))) h2 (d.big hj)
theorem PD.step (d:PD row N al lo hi p1 q1 p2 q2 j) {lo' hi':Re} {x1 y1 x2 y2:Int} (o:yP (N*8 ^ j) al lo hi lo' hi' x1 y1 x2 y2):PD row N al lo' hi' x1 y1 x2 y2 (j+1):=by
  have e:N*8 ^ (j+1)=8*(N*8 ^ j):=by rw [Int.pow_succ]; grind
  have h1:=d.b1
  have h2:=d.b2
  have h3:=o.l1
  have h4:=o.u2
  refine ⟨d.rp.sub o.l1 o.l2 o.u1 o.u2,d.tr,d.ln,d.sm,d.n0,d.n1,by rw [e]; exact o.a1,by rw [e]; exact o.a2,?_,by exact l8 (h1) (h3),by exact l8 (h4) (h2)⟩
  have h5:=o.wd
  have h6:=d.wd
  have h7:=aH (Std.le_of_lt (a6 (cV (show (0:Int) < 2 by decide) j))) (show 0≤(hi - lo) - 2*(hi' - lo') by exact rn (h5))
  rw [Int.pow_succ,am]
  have e2:((2:Int):Re)=2:=rfl
  rw [e2]
  generalize ((2 ^ j:Int):Re)=z at *
  grind
end
theorem iA {A:List Int} (h:A≠[]):a7 [1] A=A:=by
  cases A with
  | nil=>exact absurd rfl h
  | cons x xs =>
    show (1*x+0) :: dE (smul 1 xs) []=x :: xs
    have e:smul 1 xs=xs:=by unfold smul; rw [show (fun x:Int=>1*x)=id from funext fun x=>Int.one_mul x,List.map_id]
    rw [e,Int.one_mul,Int.add_zero]
    cases xs <;> rfl
theorem zx:Fct [1] 1 1:=⟨rfl,by decide,by decide,fun xs h=>by rw [iA (by rintro rfl; cases h)]; exact h,AllSm.cons (by unfold Sm; decide) .nil,by decide⟩
section
variable {sub:Nat→Nat→Bool} {P:List Fn} {f n dv pa be ps pr ta sg wo na ha tr re wl ro co sa kc:Nat} {H:Hp} {Q:V→Hp→Prop} {X:Nat→Hp→Prop}
noncomputable def B5 (ps ta:Nat):PS:=(.seq (.ret (.call ps (.cons (.idx (.var 0) (.cint 2)) (.cons (.call ta (.cons (.idx (.var 0) (.cint 1)) .nil)) .nil))))
 .skip)
noncomputable def yB (na pr wo : Nat) : PS := (.seq (.ret (.call na (.cons (.var 0) (.cons (.call pr (.cons (.call wo (.cons (.var 0) .nil)) (.cons (.glob (Str.ofString "HALF") 1 2) .nil))) .nil))))
 .skip)
theorem wI (eh:P[f]?=some ⟨1,1,yB na pr wo⟩) (ew:P[wo]?=some ⟨1,1,B5 ps ta⟩) (e:P[na]?=some ⟨2,8,nO kc be ps pr ta sg⟩) (eb:P[be]?=some ⟨2,2,e9⟩) (es:P[ps]?=some ⟨2,2,eK pa⟩) (er:P[pr]?=some ⟨2,2,cH pa⟩) (et:P[ta]?=some ⟨1,1,gu⟩) (eg:P[sg]?=some ⟨2,5,kT⟩) (ep:P[pa]?=some ⟨2,3,bL dv⟩) (ed:P[dv]?=some ⟨2,3,bW⟩)
    {v:V} {row:List Int} {p1 q1 p2 q2 N:Int} {al lo hi:Re} {j:Nat} (hv:items H v=some (row.map .int)) (d:PD row N al lo hi p1 q1 p2 q2 j) (hj:j≤120)
    (hQ:∀ lo' hi' x1 y1 x2 y2,PD row N al lo' hi' x1 y1 x2 y2 (j+1)→Q (.tup [v,pt x1 y1,pt x2 y2]) H) :
    aj sub P (n+5) f [.tup [v,pt p1 q1,pt p2 q2]] H Q X:=by
  have L1:=d.low1 hj
  have L2:=d.low2 hj
  refine ai eh rfl ?_
  dsimp only [yB,qS1,qS2,qS9,qE5,qE7,aO,aC,aD,az,aA,ax,aw,ay,aq,ac,af,Nat.reduceSub]
  refine ai ew rfl ?_
  dsimp only [B5,qS1,qS2,qS9,qE1,qE5,aO,aY,aC,aD,jV,iD,az,aA,ax,aw,ay,aq,ac,af,Nat.reduceSub]
  refine wN et ?_
  refine rQ es ep ed L2 L1.neg (by decide) fun d1 d2 Dd hd=>?_
  refine nL er ep ed (l:=3) Dd.top Dd.bot Dd.pos (by unfold Sm; decide) (by unfold Sm; decide) (by decide) (by decide) fun w1 w2 W hw=>?_
  have ew2:2*rq w1 w2=hi+-lo:=sS (n:=2) Dd.pos W.pos (eY d.a2.pos d.a1.pos d.a2.val (gY d.a1.val) hd) hw
  have vw:=bG (p:=w1) (Int.ne_of_gt W.pos)
  generalize rq w1 w2=wr at *
  exact Bw e eb es er et eg ep ed hv d.sm d.ln d.rp d.a1 d.a2 d.dpos (B:=1073741824) (by decide) d.b1 d.b2 (d.big hj) W vw (by grind) fun lo' hi' x1 y1 x2 y2 O=>hQ _ _ _ _ _ _ (d.step O)
end
end Mine
set_option maxRecDepth 100000
namespace Mine
open PySem
open Re
section
variable {sub:Nat→Nat→Bool} {P:List Fn} {f n dv pa be ps pr ta sg wo na ha tr re wl ro co sa kc:Nat} {H:Hp} {Q:V→Hp→Prop} {X:Nat→Hp→Prop}
end
end Mine
namespace Mine
open Re
theorem qq {x c:Re} (h1:-c≤x) (h2:x≤c):ab x≤c:=by rcases mY x with h | h <;> rw [h] <;> (first | exact h2 | grind)
theorem rM {x y:Re} {c d:Int} (h:ab x≤c) (g:ab y≤d):ab (x+y)≤((c+d:Int):Re):=by
  have:=jw x; have:=jw y
  rw [bE]; exact qq (by grind) (by grind)
theorem yI (x:Re):ab (-x)=ab x:=by
  have h1:=jw x; have h2:=jw (-x)
  rcases mY x with h | h <;> rcases mY (-x) with g | g <;> rw [h,g] <;> rw [h] at h1 <;> rw [g] at h2 <;> grind
theorem wa {x y:Re} {c d:Int} (h:ab x≤c) (g:ab y≤d):ab (x - y)≤((c+d:Int):Re):=by
  rw [show x - y=x+-y by grind]; exact rM h (by rw [yI]; exact g)
theorem qt {a b c d:Re} (h0:0≤a) (h1:a≤c) (g0:0≤b) (g1:b≤d):a*b≤c*d:=by
  have k1:=aH h0 (show 0≤d - b by exact rn (g1))
  have k2:=aH (show 0≤d by exact l8 (g0) (g1)) (show 0≤c - a by exact rn (h1))
  grind
theorem d9 {x y:Re} {c d:Int} (h:ab x≤c) (g:ab y≤d):ab (x*y)≤((c*d:Int):Re):=by
  rw [gW,am]; exact qt (bg x) h (bg y) g
theorem cT {n c:Int} (h1:-c≤n) (h2:n≤c):ab (n:Re)≤(c:Re):=qq (by rw [← cC]; exact cE h1) (cE h2)
theorem jP {x:Re} {c d:Int} (h:ab x≤c) (hd:c≤d):ab x≤(d:Re):=by have:=cE hd; exact l8 (h) (this)
theorem yf {x y:Re} (h0:0≤y) (h:x*x < y*y):x < y:=by
  rcases aI (y - x) with g | g | g
  · grind
  · have:=aH (show 0≤x - y by grind) (show 0≤x+y by grind); grind
  · have:x=y:=by grind
    rw [this] at h; grind
theorem iH (d:Nat):aG d*aG d=(((d:Nat):Int):Re):=dd d
theorem uF {d:Nat} {A:Int} (hA:0≤A) (h:(d:Int) < A*A):aG d < A:=yf (by have:=cE hA; rw [aE] at this; exact this) (by rw [iH,← am]; exact kg h)
theorem g6 {d:Nat} {A:Int} (hA:0≤A) (h:(d:Int) < A*A):ab (aG d)≤(A:Re):=by
  have h1:=uF hA h
  have h2:=dZ d
  exact qq (by grind) (by exact ol (h1))
theorem kE {R:Int} (hR:0 < R) (x:Re):ab ((R:Re)*x)=(R:Re)*ab x:=by
  rw [gW]
  have:=Std.le_of_lt (a6 hR)
  rw [show ab (R:Re)=R by unfold ab; rw [if_pos this]]
theorem jy {R:Int} (hR:0 < R) {al be g:Re} (e:(R:Re)*(al - be)=g) (h:al≠be):g≠0:=fun h0=>h (by
  rw [h0] at e
  have:=aR e (cz hR)
  grind)
theorem su {r c:Int} {x z:Re} (hr:0 < r) (hc:0≤c) (e:(r:Re)*x=z) (g1:-(c:Re)≤z) (g2:z≤c):-(c:Re)≤x∧x≤(c:Re):=by
  have hrc:c≤r*c:=by have:=Int.mul_le_mul_of_nonneg_right (show 1≤r from hr) hc; (exact om [] [c,r*c] [(.il (.m 1 Y0) Y1)] (.il Y0 Y1) [[1,1]] rfl this)
  have hr':=a6 hr
  have g3:=cE hrc
  rw [am] at g3
  constructor
  · refine Std.not_lt.mp fun hn=>?_
    have:=mul_pos hr' (show 0 < -(c:Re) - x by exact hV (hn))
    rw [show (r:Re)*(-(c:Re) - x)=-(r*c) - r*x by grind,e] at this
    clear e; grind
  · refine Std.not_lt.mp fun hn=>?_
    have:=mul_pos hr' (show 0 < x - (c:Re) by exact hV (hn))
    rw [show (r:Re)*(x - (c:Re))=r*x - r*c by grind,e] at this
    clear e; grind
end Mine
namespace Mine
open Re
structure QD (p q r:Int) (d:Nat):Prop where
  p1:-1000000≤p
  p2:p≤1000000
  q0:(1≤q∧q≤6)∨(-6≤q∧q≤-1)
  r1:1≤r
  r2:r≤7
  d1:1≤d
  d2:d≤30
noncomputable def qal (p q r:Int) (d:Nat):Re:=rq p r+rq q r*aG d
theorem cI {p q r:Int} {d:Nat} (hr:0 < r):(r:Re)*qal p q r d=p+q*aG d:=by
  unfold qal
  rw [← bG (p:=p) (Int.ne_of_gt hr),← bG (p:=q) (Int.ne_of_gt hr)]; grind
theorem zt {row:List Int} {p q r g:Int} {d:Nat} {al:Re} (hr:0 < r) (hg:g≠0) (e:smul g row=[p*p - q*q*d,-2*p*r,r*r]) (ha:(r:Re)*al=p+q*aG d) :
    ∃ C:Re,C≠0∧∀ t,evR row t=C*((t - al)*(t - (2*rq p r - al))):=by
  have hq:aG d*aG d=(((d:Nat):Int):Re):=dd d
  have m2:((-2:Int):Re)=-2:=rfl
  have hC:=bG (p:=r*r) hg
  have hp:=bG (p:=p) (Int.ne_of_gt hr)
  rw [am] at hC
  refine ⟨rq (r*r) g,fun h=>?_,fun t=>?_⟩
  · rw [h] at hC
    exact aQ (cz hr) (cz hr) (by rw [← hC]; grind)
  · refine eZ (dX hg) ?_
    rw [← cS,e]
    show ((p*p - q*q*d:Int):Re)+t*(((-2*p*r:Int):Re)+t*(((r*r:Int):Re)+t*0))=_
    simp only [cL,am]
    rw [← hq,m2]
    have h2:(r:Re)*(2*rq p r - al)=p - q*aG d:=by rw [show (r:Re)*(2*rq p r - al)=2*(r*rq p r) - r*al by grind,hp,ha]; grind
    have h3:(g:Re)*(rq (r*r) g*((t - al)*(t - (2*rq p r - al))))=((r:Re)*t - r*al)*(r*t - r*(2*rq p r - al)):=by
      rw [show (g:Re)*(rq (r*r) g*((t - al)*(t - (2*rq p r - al))))=((g:Re)*rq (r*r) g)*((t - al)*(t - (2*rq p r - al))) by grind,hC]
      generalize 2*rq p r - al=x
      clear h2 hp hC e ha hq; grind
    rw [h3,ha,h2]
    clear h3 h2 hp hC e ha
    grind
theorem zH {row:List Int} {p q r g:Int} {d:Nat} {al lo hi:Re} (hr:0 < r) (hg:g≠0) (e:smul g row=[p*p - q*q*d,-2*p*r,r*r]) (ha:(r:Re)*al=p+q*aG d)
    (l:lo < al) (u:al < hi) (o:Out lo hi (2*rq p r - al)):RP row lo hi al:=by
  refine ad (zt hr hg e ha) fun C hC h=>?_
  have hl:=bQ (c:=g) (xs:=row)
  rw [e] at hl
  refine ⟨l,u,C,[2*rq p r - al],hC,hl.symm,List.pairwise_singleton _ _,fun x hx=>?_,fun t=>?_⟩
  · rw [List.mem_singleton.mp hx]; exact o
  · rw [h,aU,a8]; grind
theorem wW {p q a r:Int} (hr:0 < r) (e:p*r=a*q):(q:Re)*rq a r=p:=by
  have h:=bG (p:=a) (Int.ne_of_gt hr)
  refine eZ (cz hr) ?_
  have e':=congrArg (fun z:Int=>(z:Re)) e
  simp only [am] at e'
  rw [show (r:Re)*(q*rq a r)=q*(r*rq a r) by grind,h]
  grind
theorem Dn {row:List Int} {r L U p1 q1 p2 q2:Int} {al:Re} {k:Nat} (rp:RP row (rq L r) (rq U r) al) (tr:Tr row) (ln:row.length≤4) (sm:AllSm 200 row) (r0:0 < r) (r1:r≤1073741824)
    (b1:-1073741824≤L) (b2:L≤U) (b3:U≤1073741824) (w:U - L≤r*64) (l1:Low k p1 q1) (e1:p1*r=L*q1) (l2:Low k p2 q2) (e2:p2*r=U*q2):PD row r al (rq L r) (rq U r) p1 q1 p2 q2 0:=by
  have hL:=bG (p:=L) (Int.ne_of_gt r0)
  have hU:=bG (p:=U) (Int.ne_of_gt r0)
  have e0:r*8 ^ 0=r:=by rw [Int.pow_zero,Int.mul_one]
  have one:((2 ^ 0:Int):Re)=1:=rfl
  refine ⟨rp,tr,ln,sm,r0,r1,⟨l1.pos,l1.one,wW r0 e1,L,by rw [e0]; exact hL⟩,⟨l2.pos,l2.one,wW r0 e2,U,by rw [e0]; exact hU⟩,?_,?_,?_⟩
  · rw [one]
    have:=cE w
    rw [cL,am,← hL,← hU] at this
    refine Std.not_lt.mp fun hn=>?_
    have k:=mul_pos (a6 r0) (show 0 < rq U r - rq L r - ((64:Int):Re) by grind)
    generalize ((64:Int):Re)=z at *
    clear hL hU rp hn; grind
  · have h1:=cE b1
    have h2:=cE (show L≤1073741824 by (exact om [] [L,U] [(.il Y0 Y1),(.il Y1 (.n 1073741824))] (.il Y0 (.n 1073741824)) [[1,1,1]] rfl b2 b3))
    rw [cC] at h1
    exact (su (c:=1073741824) r0 (by decide) hL h1 h2).1
  · have h1:=cE (show -1073741824≤U by (exact om [] [U,L] [(.il (.g (.n 1073741824)) Y1),(.il Y1 Y0)] (.il (.g (.n 1073741824)) Y0) [[1,1,1]] rfl b1 b2))
    have h2:=cE b3
    rw [cC] at h1
    exact (su (c:=1073741824) r0 (by decide) hU h1 h2).2
theorem QD.up {p q r A:Int} {d:Nat} (h:QD p q r d) (hq:0 < q) (hA:aG d < A):rq p r < qal p q r d∧qal p q r d < rq (p+q*A) r∧Out (rq p r) (rq (p+q*A) r) (2*rq p r - qal p q r d):=by
  have hr:0 < r:=by have:=h.r1; (exact om [] [r] [(.il (.n 1) Y0)] (.il (.a (.n 0) (.n 1)) Y0) [[1,1]] rfl this)
  have hr':=a6 hr
  have e:=cI (p:=p) (q:=q) (d:=d) hr
  have eL:=bG (p:=p) (Int.ne_of_gt hr)
  have eU:=bG (p:=p+q*A) (Int.ne_of_gt hr)
  rw [bE,am] at eU
  have s:=mul_pos (a6 hq) (eQ (show 0 < d from h.d1))
  have s2:=mul_pos (a6 hq) (show 0 < (A:Re) - aG d by exact hV (hA))
  generalize qal p q r d=al at *
  have k1:rq p r < al:=eE hr' (by rw [e,eL]; grind)
  refine ⟨k1,eE hr' (by rw [e,eU]; grind),.inl (by grind)⟩
theorem QD.dn {p q r A:Int} {d:Nat} (h:QD p q r d) (hq:q < 0) (hA:aG d < A):rq (p+q*A) r < qal p q r d∧qal p q r d < rq p r∧Out (rq (p+q*A) r) (rq p r) (2*rq p r - qal p q r d):=by
  have hr:0 < r:=by have:=h.r1; (exact om [] [r] [(.il (.n 1) Y0)] (.il (.a (.n 0) (.n 1)) Y0) [[1,1]] rfl this)
  have hr':=a6 hr
  have e:=cI (p:=p) (q:=q) (d:=d) hr
  have eL:=bG (p:=p) (Int.ne_of_gt hr)
  have eU:=bG (p:=p+q*A) (Int.ne_of_gt hr)
  rw [bE,am] at eU
  have hq':=a6 (show 0 < -q by (exact om [] [q] [(.il (.a Y0 (.n 1)) (.n 0))] (.il (.a (.n 0) (.n 1)) (.g Y0)) [[1,1]] rfl hq))
  rw [cC] at hq'
  have s:=mul_pos hq' (eQ (show 0 < d from h.d1))
  have s2:=mul_pos hq' (show 0 < (A:Re) - aG d by exact hV (hA))
  generalize qal p q r d=al at *
  have k1:al < rq p r:=eE hr' (by rw [e,eL]; grind)
  refine ⟨eE hr' (by rw [e,eU]; grind),k1,.inr (by grind)⟩
theorem QD.bds {p q r:Int} {d:Nat} (h:QD p q r d):ab ((q:Re)*aG d)≤((36:Int):Re) :=
  d9 (c:=6) (d:=6) (cT (by have:=h.q0; (exact om [] [q] [(.or (.an (.il (.n 1) Y0) (.il Y0 (.n 6))) (.an (.il (.g (.n 6)) Y0) (.il Y0 (.g (.n 1)))))] (.il (.g (.n 6)) Y0) [[1,1]] rfl this)) (by have:=h.q0; (exact om [] [q] [(.or (.an (.il (.n 1) Y0) (.il Y0 (.n 6))) (.an (.il (.g (.n 6)) Y0) (.il Y0 (.g (.n 1)))))] (.il Y0 (.n 6)) [[1,0,1]] rfl this))) (g6 (by decide) (by have:=h.d2; (exact om [d] [] [(.le Y0 (.n 30))] (.il (.a (.c Y0) (.n 1)) (.m 6 (.n 6))) [[1,1]] rfl this)))
end Mine
set_option maxRecDepth 100000
namespace Mine
open PySem
section
variable {sub:Nat→Nat→Bool} {P:List Fn} {f n ls tw mu fo:Nat} {H:Hp} {Q:V→Hp→Prop} {X:Nat→Hp→Prop}
noncomputable def fk:PS:=(.seq (.ite (.cmp .lt (.var 0) (.cint 0)) (.seq (.ret (.neg (.cint 1)))
 .skip) .skip)
 (.seq (.ret (.bi .int (.cons (.cmp .gt (.var 0) (.cint 0)) .nil)))
 .skip))
theorem oV (e:P[f]?=some ⟨1,1,fk⟩) {x:Int} (hQ:Q (.int (sg x)) H):aj sub P (n+1) f [.int x] H Q X:=by
  refine ai e rfl ?_
  dsimp only [fk,qS1,qS2,qS9,bj,qE1,qE5,qE9,bh,br,aC,aD,fY,li,kq,aZ,az,aA,ax,aw,ay,aq,ac,af,Nat.reduceSub]
  unfold sg at hQ
  by_cases h1:x < 0
  · rw [if_pos h1] at hQ
    rw [decide_eq_true h1]
    exact hQ
  · rw [if_neg h1] at hQ
    rw [decide_eq_false h1]
    dsimp only [bR]
    by_cases h2:0 < x
    · rw [if_pos h2] at hQ
      rw [decide_eq_true h2]
      exact hQ
    · rw [if_neg h2] at hQ
      rw [decide_eq_false h2]
      exact hQ
noncomputable def BO (ls:Nat):PS:=(.seq (.ite (.cmp .gt (.var 0) (.cint 0)) (.seq (.ret (.call ls (.cons (.bin .sub (.bin .mul (.var 0) (.var 0)) (.bin .mul (.bin .mul (.var 1) (.var 1)) (.var 2))) .nil)))
 .skip) .skip)
 (.seq (.ret (.call ls (.cons (.bin .sub (.bin .mul (.bin .mul (.var 1) (.var 1)) (.var 2)) (.bin .mul (.var 0) (.var 0))) .nil)))
 .skip))
noncomputable def qj (ls:Nat):PS:=(.seq (.ite (.and (.cons (.cmp .le (.var 0) (.cint 0)) (.cons (.cmp .le (.var 1) (.cint 0)) .nil))) (.seq (.ret (.bin .sub (.cint 0) (.bi .int (.cons (.or (.cons (.cmp .lt (.var 0) (.cint 0)) (.cons (.cmp .lt (.bin .mul (.var 1) (.var 2)) (.cint 0)) .nil))) .nil))))
 .skip) .skip)
 (BO ls))
noncomputable def sC (ls:Nat):PS:=(.seq (.ite (.and (.cons (.cmp .ge (.var 0) (.cint 0)) (.cons (.cmp .ge (.var 1) (.cint 0)) .nil))) (.seq (.ret (.bi .int (.cons (.or (.cons (.cmp .gt (.var 0) (.cint 0)) (.cons (.cmp .gt (.bin .mul (.var 1) (.var 2)) (.cint 0)) .nil))) .nil)))
 .skip) .skip)
 (qj ls))
theorem tQ (x y a:Int):Sm 64 (dh x y a):=by
  have e:(2:Nat) ^ 64=18446744073709551616:=by decide
  have hs:∀ n,-1≤sg n∧sg n≤1:=fun n=>by unfold sg; split <;> (try split) <;> omega
  have h:-1≤dh x y a∧dh x y a≤1:=by
    unfold dh
    have h1:=hs (x*x - y*y*a)
    have h2:=hs (y*y*a - x*x)
    generalize sg (x*x - y*y*a)=u at *
    generalize sg (y*y*a - x*x)=v at *
    split
    · split <;> decide
    · split
      · split <;> decide
      · split <;> assumption
  unfold Sm; omega
theorem ok7 {x y:Int} {k l:Nat} (h1:Sm k x) (h2:Sm l y) (hk:k≤1048576:=by decide) (hl:l≤1048576:=by decide):IntMulOk x y:=IntMulOk.sm h1 h2 hk hl
theorem BZ (el:P[ls]?=some ⟨1,1,fk⟩) {W:Nat→Prop} {NN:Loc→Hp→Prop} {R:V→Hp→Prop} {Y:Nat→Hp→Prop} {x y a:Int} (mya:IntMulOk y a) (mxx:IntMulOk x x) (myy:IntMulOk y y) (myya:IntMulOk (y*y) a) (hn:¬ (0≤x∧0≤y)) (hQ:R (.int (dh x y a)) H) :
    wpS sub (aj sub P (n+1)) W (qj ls) [some (.int x),some (.int y),some (.int a)] H NN R Y:=by
  unfold dh at hQ
  rw [if_neg hn] at hQ
  dsimp only [qj]
  generalize hT:BO ls=T
  have fin:¬ (x≤0∧y≤0)→wpS sub (aj sub P (n+1)) W T [some (.int x),some (.int y),some (.int a)] H NN R Y:=fun h=>by
    subst hT
    rw [if_neg h] at hQ
    dsimp only [BO,qS1,qS2,qS9,bj,qE1,qE5,qE8,bh,aO,aC,aD,cM,cx,li,aZ,ac,af]
    by_cases hx:0 < x
    · rw [if_pos hx] at hQ
      rw [decide_eq_true hx]
      exact ⟨mxx,myy,myya,oV el hQ⟩
    · rw [if_neg hx] at hQ
      rw [decide_eq_false hx]
      exact ⟨myy,myya,mxx,oV el hQ⟩
  dsimp only [qS1,qS2,qS9,bj,qE1,qE5,qE8,bh,fz,fB,br,aC,aD,bV,cM,cx,fY,CL,kq,aZ,ac,af]
  by_cases h1:x≤0
  · rw [decide_eq_true h1]
    by_cases h2:y≤0
    · rw [decide_eq_true h2]
      rw [if_pos ⟨h1,h2⟩] at hQ
      dsimp only [bu]
      by_cases h3:x < 0
      · rw [if_pos (.inl h3)] at hQ
        rw [decide_eq_true h3]
        exact hQ
      · rw [decide_eq_false h3]
        refine ⟨mya,?_⟩
        by_cases h4:y*a < 0
        · rw [if_pos (.inr h4)] at hQ
          rw [decide_eq_true h4]
          exact hQ
        · rw [if_neg (fun h=>h.elim h3 h4)] at hQ
          rw [decide_eq_false h4]
          exact hQ
    · rw [decide_eq_false h2]
      exact fin fun h=>h2 h.2
  · rw [decide_eq_false h1]
    exact fin fun h=>h1 h.1
theorem yC (e:P[f]?=some ⟨3,3,sC ls⟩) (el:P[ls]?=some ⟨1,1,fk⟩) {x y a:Int} (hx:Sm 1000000 x) (hy:Sm 1000000 y) (ha:Sm 64 a) (hQ:Q (.int (dh x y a)) H):aj sub P (n+2) f [.int x,.int y,.int a] H Q X:=by
  have mya:IntMulOk y a:=IntMulOk.right ha
  have mxx:IntMulOk x x:=ok7 hx hx
  have myy:IntMulOk y y:=ok7 hy hy
  have myya:IntMulOk (y*y) a:=IntMulOk.right ha
  refine ai e rfl ?_
  have fin:¬ (0≤x∧0≤y)→wpS sub (aj sub P (n+1)) (fun m=>H.length≤m) (qj ls) [some (.int x),some (.int y),some (.int a)] H (fun _ H'=>Q V.none H') Q X:=fun h=>BZ el mya mxx myy myya h hQ
  dsimp only [sC]
  revert fin
  generalize qj ls=T
  intro fin
  dsimp only [qS1,qS2,qS9,bj,qE1,qE5,qE8,bh,fz,fB,br,aC,aD,bV,cx,li,xm,kq,aZ,az,aA,ax,aw,ay,aq,ac,af,Nat.reduceSub]
  by_cases h1:0≤x
  · rw [decide_eq_true h1]
    by_cases h2:0≤y
    · rw [decide_eq_true h2]
      unfold dh at hQ
      rw [if_pos ⟨h1,h2⟩] at hQ
      dsimp only [bu]
      by_cases h3:0 < x
      · rw [if_pos (.inl h3)] at hQ
        rw [decide_eq_true h3]
        exact hQ
      · rw [decide_eq_false h3]
        refine ⟨mya,?_⟩
        by_cases h4:0 < y*a
        · rw [if_pos (.inr h4)] at hQ
          rw [decide_eq_true h4]
          exact hQ
        · rw [if_neg (fun h=>h.elim h3 h4)] at hQ
          rw [decide_eq_false h4]
          exact hQ
    · rw [decide_eq_false h2]
      exact fin fun h=>h2 h.2
  · rw [decide_eq_false h1]
    exact fin fun h=>h1 h.1
noncomputable def fC:PS:=(.seq (.ret (.lst (.cons (.bin .add (.bin .mul (.idx (.var 0) (.cint 0)) (.idx (.var 1) (.cint 0))) (.bin .mul (.bin .mul (.var 2) (.idx (.var 0) (.cint 1))) (.idx (.var 1) (.cint 1)))) (.cons (.bin .add (.bin .mul (.idx (.var 0) (.cint 0)) (.idx (.var 1) (.cint 1))) (.bin .mul (.idx (.var 0) (.cint 1)) (.idx (.var 1) (.cint 0)))) .nil))))
 .skip)
theorem gC {i:Nat} {H:Hp} {Q:V→Prop} {x y:V} (h:H[i]?=some [x,y]) (hq:Q x):ifSome H[i]? fun xs=>ifSome (cv xs.length 0) fun j=>ifSome xs[j]? fun v=>Q v:=by rw [h]; exact hq
theorem gv {i:Nat} {H:Hp} {Q:V→Prop} {x y:V} (h:H[i]?=some [x,y]) (hq:Q y):ifSome H[i]? fun xs=>ifSome (cv xs.length 1) fun j=>ifSome xs[j]? fun v=>Q v:=by rw [h]; exact hq
theorem tC (e:P[f]?=some ⟨3,3,fC⟩) {i j:Nat} {x0 x1 y0 y1 a:Int} (hi:H[i]?=some [.int x0,.int x1]) (hj:H[j]?=some [.int y0,.int y1]) (sx0:Sm 200000 x0) (sx1:Sm 200000 x1) (sy0:Sm 200000 y0) (sy1:Sm 200000 y1) (sa:Sm 64 a)
    (hQ:Q (.lst H.length) (H++[[.int (x0*y0+a*x1*y1),.int (x0*y1+x1*y0)]])):aj sub P (n+1) f [.lst i,.lst j,.int a] H Q X:=by
  refine ai e rfl ?_
  dsimp only [fC,qS1,qS2,qS9,qE1,qE5,qE8,aY,cY,aC,aD,cy,az,aA,ax,aw,ay,aq,ac,af,Nat.reduceSub]
  refine gC hi ?_
  refine gC hj ⟨ok7 sx0 sy0,?_⟩
  refine gv hi ⟨ok7 sa sx1,?_⟩
  refine gv hj ⟨ok7 (sa.mul sx1) sy1,?_⟩
  refine gC hi ?_
  refine gv hj ⟨ok7 sx0 sy1,?_⟩
  refine gv hi ?_
  exact gC hj ⟨ok7 sx1 sy0,hQ⟩
noncomputable def rg (tw mu:Nat):PS:=(.seq (.assign 5 (.call mu (.cons (.slc (.var 0) .no (.some (.cint 2))) (.cons (.slc (.var 0) .no (.some (.cint 2))) (.cons (.var 1) .nil)))))
 (.seq (.assign 6 (.call mu (.cons (.slc (.var 0) (.some (.cint 2)) .no) (.cons (.slc (.var 0) (.some (.cint 2)) .no) (.cons (.var 1) .nil)))))
 (.seq (.ret (.bin .mul (.var 3) (.call tw (.cons (.bin .sub (.idx (.var 5) (.cint 0)) (.bin .mul (.var 2) (.idx (.var 6) (.cint 0)))) (.cons (.bin .sub (.idx (.var 5) (.cint 1)) (.bin .mul (.var 2) (.idx (.var 6) (.cint 1)))) (.cons (.var 1) .nil))))))
 .skip)))
noncomputable def pI (tw ls mu:Nat):PS:=(.seq (.assign 3 (.call tw (.cons (.idx (.var 0) (.cint 0)) (.cons (.idx (.var 0) (.cint 1)) (.cons (.var 1) .nil)))))
 (.seq (.assign 4 (.bin .mul (.call tw (.cons (.idx (.var 0) (.cint 2)) (.cons (.idx (.var 0) (.cint 3)) (.cons (.var 1) .nil)))) (.bi .int (.cons (.cmp .gt (.var 2) (.cint 0)) .nil))))
 (.seq (.ite (.cmp .ge (.bin .mul (.var 3) (.var 4)) (.cint 0)) (.seq (.ret (.call ls (.cons (.bin .add (.var 3) (.var 4)) .nil)))
 .skip) .skip)
 (rg tw mu))))
theorem ix4 {i:Nat} {H:Hp} {Q:V→Prop} {x y z w:V} {k:Int} {v:V} (h:H[i]?=some [x,y,z,w]) (hk:(k=0∧v=x)∨(k=1∧v=y)∨(k=2∧v=z)∨(k=3∧v=w)) (hq:Q v):ifSome H[i]? fun xs=>ifSome (cv xs.length k) fun j=>ifSome xs[j]? fun v=>Q v:=by
  rw [h]
  rcases hk with ⟨rfl,rfl⟩ | ⟨rfl,rfl⟩ | ⟨rfl,rfl⟩ | ⟨rfl,rfl⟩ <;> exact hq
theorem yT (et:P[tw]?=some ⟨3,3,sC ls⟩) (el:P[ls]?=some ⟨1,1,fk⟩) (em:P[mu]?=some ⟨3,3,fC⟩) {W:Nat→Prop} {NN:Loc→Hp→Prop} {R:V→Hp→Prop} {Y:Nat→Hp→Prop} {m:Nat} {x0 x1 x2 x3 a b l:Int} {o:Option V} (hm:H[m]?=some [.int x0,.int x1,.int x2,.int x3])
    (s0:Sm 200000 x0) (s1:Sm 200000 x1) (s2:Sm 200000 x2) (s3:Sm 200000 x3) (sa:Sm 64 a) (sb:Sm 64 b) (hl:Sm 64 l)
    (hQ:∀ H',H<+:H'→R (.int (l*dh ((x0*x0+a*x1*x1) - b*(x2*x2+a*x3*x3)) ((x0*x1+x1*x0) - b*(x2*x3+x3*x2)) a)) H') :
    wpS sub (aj sub P (n+2)) W (rg tw mu) [some (.lst m),some (.int a),some (.int b),some (.int l),o,none,none] H NN R Y:=by
  dsimp only [rg,qS1,qS2,qS3,qS9,qE1,qE5,qE8,aO,aY,hX,aC,aD,qO1,qO2,CN,BB,Ao,ac,af,au]
  refine ifSome.mk hm ?_
  dsimp only [fw,Nat.reduceAdd,List.length_nil]
  have h1:(H++[[V.int x0,V.int x1]])[m]?=some [.int x0,.int x1,.int x2,.int x3]:=ao (ah _ _) hm
  refine ifSome.mk h1 ?_
  have g1:(H++[[V.int x0,V.int x1]]++[[V.int x0,V.int x1]])[H.length]?=some [.int x0,.int x1]:=ao (ah _ _) (ag _ _ _)
  have g2:(H++[[V.int x0,V.int x1]]++[[V.int x0,V.int x1]])[(H++[[V.int x0,V.int x1]]).length]?=some [.int x0,.int x1]:=ag _ _ _
  refine tC em g1 g2 s0 s1 s0 s1 sa ?_
  have p1:H<+:(H++[[V.int x0,V.int x1]]++[[V.int x0,V.int x1]]):=ae (ah _ _) (ah _ _)
  have eH:(H++[cut [V.int x0,V.int x1,V.int x2,V.int x3] 0 (bX 4 2)]++[cut [V.int x0,V.int x1,V.int x2,V.int x3] 0 (bX [V.int x0,V.int x1,V.int x2,V.int x3].length 2)])=(H++[[V.int x0,V.int x1]]++[[V.int x0,V.int x1]]):=rfl
  rw [eH]
  generalize (H++[[V.int x0,V.int x1]]++[[V.int x0,V.int x1]])=H2 at *
  clear eH
  have q1:H<+:H2++[[V.int (x0*x0+a*x1*x1),V.int (x0*x1+x1*x0)]]:=ae p1 (ah _ _)
  have u1:(H2++[[V.int (x0*x0+a*x1*x1),V.int (x0*x1+x1*x0)]])[H2.length]?=some [.int (x0*x0+a*x1*x1),.int (x0*x1+x1*x0)]:=ag _ _ _
  generalize H2++[[V.int (x0*x0+a*x1*x1),V.int (x0*x1+x1*x0)]]=H3 at *
  have hm3:=ao q1 hm
  refine ifSome.mk hm3 ?_
  have hm4:(H3++[[V.int x2,V.int x3]])[m]?=some [.int x0,.int x1,.int x2,.int x3]:=ao (ah _ _) hm3
  refine ifSome.mk hm4 ?_
  have g3:(H3++[[V.int x2,V.int x3]]++[[V.int x2,V.int x3]])[H3.length]?=some [.int x2,.int x3]:=ao (ah _ _) (ag _ _ _)
  have g4:(H3++[[V.int x2,V.int x3]]++[[V.int x2,V.int x3]])[(H3++[[V.int x2,V.int x3]]).length]?=some [.int x2,.int x3]:=ag _ _ _
  refine tC em g3 g4 s2 s3 s2 s3 sa ?_
  have p3:H3<+:(H3++[[V.int x2,V.int x3]]++[[V.int x2,V.int x3]]):=ae (ah _ _) (ah _ _)
  have eH:(H3++[cut [V.int x0,V.int x1,V.int x2,V.int x3] (bX [V.int x0,V.int x1,V.int x2,V.int x3].length 2) [V.int x0,V.int x1,V.int x2,V.int x3].length]++[cut [V.int x0,V.int x1,V.int x2,V.int x3] (bX [V.int x0,V.int x1,V.int x2,V.int x3].length 2) [V.int x0,V.int x1,V.int x2,V.int x3].length])=(H3++[[V.int x2,V.int x3]]++[[V.int x2,V.int x3]]):=rfl
  rw [eH]
  generalize (H3++[[V.int x2,V.int x3]]++[[V.int x2,V.int x3]])=H4 at *
  clear eH
  have q3:H3<+:H4++[[V.int (x2*x2+a*x3*x3),V.int (x2*x3+x3*x2)]]:=ae p3 (ah _ _)
  have u3:(H4++[[V.int (x2*x2+a*x3*x3),V.int (x2*x3+x3*x2)]])[H4.length]?=some [.int (x2*x2+a*x3*x3),.int (x2*x3+x3*x2)]:=ag _ _ _
  generalize H4++[[V.int (x2*x2+a*x3*x3),V.int (x2*x3+x3*x2)]]=H5 at *
  have v1:=ao q3 u1
  have t0:Sm 400065 (x0*x0+a*x1*x1):=Sm.add ((s0.mul s0).mono (by decide)) (((sa.mul s1).mul s1).mono (by decide))
  have t1:Sm 400065 (x0*x1+x1*x0):=(Sm.add (s0.mul s1) (s1.mul s0)).mono (by decide)
  have t2:Sm 400065 (x2*x2+a*x3*x3):=Sm.add ((s2.mul s2).mono (by decide)) (((sa.mul s3).mul s3).mono (by decide))
  have t3:Sm 400065 (x2*x3+x3*x2):=(Sm.add (s2.mul s3) (s3.mul s2)).mono (by decide)
  refine gC v1 ?_
  refine gC u3 ⟨ok7 sb t2,?_⟩
  refine gv v1 ?_
  refine gv u3 ⟨ok7 sb t3,?_⟩
  dsimp only [cM]
  refine yC et el ((Sm.sub (t0.mono (show _≤400129 by decide)) ((sb.mul t2).mono (by decide))).mono (by decide)) ((Sm.sub (t1.mono (show _≤400129 by decide)) ((sb.mul t3).mono (by decide))).mono (by decide)) (sa.mono (by decide)) ?_
  exact ⟨IntMulOk.left hl,hQ _ (ae q1 q3)⟩
theorem B9 (e:P[f]?=some ⟨3,7,pI tw ls mu⟩) (et:P[tw]?=some ⟨3,3,sC ls⟩) (el:P[ls]?=some ⟨1,1,fk⟩) (em:P[mu]?=some ⟨3,3,fC⟩) {m:Nat} {x0 x1 x2 x3 a b:Int} (hm:H[m]?=some [.int x0,.int x1,.int x2,.int x3])
    (s0:Sm 200000 x0) (s1:Sm 200000 x1) (s2:Sm 200000 x2) (s3:Sm 200000 x3) (sa:Sm 64 a) (sb:Sm 64 b) (hb:0 < b)
    (hQ:∀ H',H<+:H'→Q (.int (zg x0 x1 x2 x3 a b)) H'):aj sub P (n+3) f [.lst m,.int a,.int b] H Q X:=by
  refine ai e rfl ?_
  unfold zg at hQ
  have fin:¬ 0≤dh x0 x1 a*dh x2 x3 a→wpS sub (aj sub P (n+2)) (fun m=>H.length≤m) (rg tw mu) [some (.lst m),some (.int a),some (.int b),some (.int (dh x0 x1 a)),some (.int (dh x2 x3 a*1)),none,none] H (fun _ H'=>Q .none H') Q X:=fun h=>by
    rw [if_neg h] at hQ
    exact yT et el em hm s0 s1 s2 s3 sa sb (tQ _ _ _) hQ
  dsimp only [pI]
  revert fin
  generalize rg tw mu=T
  intro fin
  dsimp only [qS1,qS2,qS3,qS9,bj,qE1,qE5,qE8,bh,aO,br,aY,aC,aD,li,kq,cy,az,aA,ax,aw,aP,ay,aq,ac,af,au,Nat.reduceSub]
  refine ix4 hm (.inl ⟨rfl,rfl⟩) ?_
  refine ix4 hm (.inr (.inl ⟨rfl,rfl⟩)) ?_
  refine yC et el (s0.mono (by decide)) (s1.mono (by decide)) (sa.mono (by decide)) ?_
  refine ix4 hm (.inr (.inr (.inl ⟨rfl,rfl⟩))) ?_
  refine ix4 hm (.inr (.inr (.inr ⟨rfl,rfl⟩))) ?_
  refine yC et el (s2.mono (by decide)) (s3.mono (by decide)) (sa.mono (by decide)) ?_
  rw [decide_eq_true hb]
  refine ⟨IntMulOk.left (tQ _ _ _),?_⟩
  dsimp only [cw,cx,xm,aZ,ac]
  refine ⟨IntMulOk.left (tQ _ _ _),?_⟩
  rw [show (dh x2 x3 a*if true=true then 1 else 0)=dh x2 x3 a from Int.mul_one _]
  by_cases h:0≤dh x0 x1 a*dh x2 x3 a
  · rw [decide_eq_true h]
    rw [if_pos h] at hQ
    dsimp only [bu]
    exact oV el (hQ _ (List.prefix_refl _))
  · rw [decide_eq_false h]
    rw [Int.mul_one] at fin
    exact fin h
end
end Mine
set_option maxRecDepth 100000
namespace Mine
open PySem
open Re
theorem iN {x y z w:V} {H:Hp} {Q:V→Hp→Prop}:cU (.tup [x,y,z,w]) (.int 0) H Q=Q x H:=rfl
theorem ga {x y z w:V} {H:Hp} {Q:V→Hp→Prop}:cU (.tup [x,y,z,w]) (.int 1) H Q=Q y H:=rfl
theorem fj {x y z w:V} {H:Hp} {Q:V→Hp→Prop}:cU (.tup [x,y,z,w]) (.int 2) H Q=Q z H:=rfl
theorem ik {x y z w:V} {H:Hp} {Q:V→Hp→Prop}:cU (.tup [x,y,z,w]) (.int 3) H Q=Q w H:=rfl
theorem fm {x b:Int} (hb:0 < b):0≤x.fmod b∧x.fmod b < b:=⟨Int.fmod_nonneg_of_pos x hb,Int.fmod_lt_of_pos x hb⟩
section
variable {sub:Nat→Nat→Bool} {P:List Fn} {f n ce qu lp dv ld en sm sg be ps pr ta pa by_ wh:Nat} {H:Hp} {Q:V→Hp→Prop} {X:Nat→Hp→Prop}
noncomputable def kH (ce:Nat):PS:=(.seq (.assign 4 (.bin .add (.cint 1) (.bin .mod (.call ce (.cons (.var 0) (.cons (.bin .add (.var 1) (.cint 2)) .nil))) (.cint 7))))
 (.seq (.ret (.tup (.cons (.var 2) (.cons (.var 3) (.cons (.var 4) (.cons (.bin .add (.cint 1) (.bin .mod (.bin .fdiv (.call ce (.cons (.var 0) (.cons (.bin .add (.var 1) (.cint 3)) .nil))) (.cint 8)) (.cint 30))) .nil))))))
 .skip))
noncomputable def kQ (ce:Nat):PS:=(.seq (.assign 3 (.bin .add (.cint 1) (.bin .mod (.call ce (.cons (.var 0) (.cons (.bin .add (.var 1) (.cint 1)) .nil))) (.cint 6))))
 (.seq (.ite (.cmp .eq (.bin .mod (.bin .fdiv (.call ce (.cons (.var 0) (.cons (.bin .add (.var 1) (.cint 1)) .nil))) (.cint 6)) (.cint 2)) (.cint 1)) (.seq (.assign 3 (.bin .sub (.cint 0) (.var 3)))
 .skip) .skip)
 (kH ce)))
noncomputable def wL (ce:Nat):PS:=(.seq (.assign 2 (.bin .sub (.bin .mod (.call ce (.cons (.var 0) (.cons (.var 1) .nil))) (.cint 19)) (.cint 9)))
 (.seq (.ite (.cmp .eq (.bin .mod (.call ce (.cons (.var 0) (.cons (.bin .add (.var 1) (.cint 3)) .nil))) (.cint 8)) (.cint 1)) (.seq (.assign 2 (.bin .sub (.bin .mod (.call ce (.cons (.var 0) (.cons (.var 1) .nil))) (.cint 2000001)) (.bin .pow (.cint 10) (.cint 6))))
 .skip) .skip)
 (kQ ce)))
noncomputable abbrev qv (p q r:Int) (d:Nat):V:=.tup [.int p,.int q,.int r,.int (d:Int)]
theorem zf (ec:P[ce]?=some ⟨2,2,mT⟩) {W:Nat→Prop} {NN:Loc→Hp→Prop} {R:V→Hp→Prop} {Y:Nat→Hp→Prop} {m:Nat} {ns:List Int} {k p q:Int} (hm:H[m]?=some (ns.map .int)) (hk:0≤k)
    (p1:-1000000≤p) (p2:p≤1000000) (q0:(1≤q∧q≤6)∨(-6≤q∧q≤-1)) (hQ:∀ r d,QD p q r d→R (qv p q r d) H) :
    wpS sub (aj sub P (n+1)) W (kH ce) [some (.lst m),some (.int k),some (.int p),some (.int q),none] H NN R Y:=by
  dsimp only [kH,qS1,qS2,qS3,qS9,qE1,qE5,qE8,aO,cJ,aC,aD,cw,ac,af,au]
  refine d8 ec (ns:=ns) (by (exact om [] [k] [(.il (.n 0) Y0)] (.il (.n 0) (.a Y0 (.n 2))) [[1,1]] rfl hk)) hm ?_
  refine ⟨by decide,?_⟩
  dsimp only [cw]
  refine d8 ec (ns:=ns) (by (exact om [] [k] [(.il (.n 0) Y0)] (.il (.n 0) (.a Y0 (.n 3))) [[1,1]] rfl hk)) hm ?_
  refine ⟨(show gw _ by unfold gw; decide),by decide,?_⟩
  have h1:=fm (x:=cF ns (k+2).toNat) (b:=7) (by decide)
  have h2:=fm (x:=(cF ns (k+3).toNat).fdiv 8) (b:=30) (by decide)
  generalize (cF ns (k+2).toNat).fmod 7=x at *
  generalize ((cF ns (k+3).toNat).fdiv 8).fmod 30=y at *
  obtain ⟨d,hd⟩:∃ d:Nat,(d:Int)=1+y:=⟨(1+y).toNat,by (exact om [(1+y).toNat] [y] [(.an (.il (.n 0) Y0) (.il (.a Y0 (.n 1)) (.n 30))),(.or (.an (.il (.n 0) (.a (.n 1) Y0)) (.ie (.c Y0) (.a (.n 1) Y0))) (.an (.il (.a (.n 1) Y0) (.n 0)) (.eq Y0 (.n 0))))] (.ie (.c Y0) (.a (.n 1) Y0)) [[1,0,0,0,0,1],[1,0,0,1],[1,0,0,0,1],[1,1,0,0,1]] rfl h2 (bo (1+y)))⟩
  have:=hQ (1+x) d ⟨p1,p2,q0,by (exact om [] [x] [(.an (.il (.n 0) Y0) (.il (.a Y0 (.n 1)) (.n 7)))] (.il (.n 1) (.a (.n 1) Y0)) [[1,1]] rfl h1),by (exact om [] [x] [(.an (.il (.n 0) Y0) (.il (.a Y0 (.n 1)) (.n 7)))] (.il (.a (.n 1) Y0) (.n 7)) [[1,0,1]] rfl h1),by (exact om [d] [y] [(.an (.il (.n 0) Y0) (.il (.a Y0 (.n 1)) (.n 30))),(.ie (.c Y0) (.a (.n 1) Y0))] (.le (.n 1) Y0) [[1,1,0,0,1]] rfl h2 hd),by (exact om [d] [y] [(.an (.il (.n 0) Y0) (.il (.a Y0 (.n 1)) (.n 30))),(.ie (.c Y0) (.a (.n 1) Y0))] (.le Y0 (.n 30)) [[1,0,1,1]] rfl h2 hd)⟩
  unfold qv at this
  rw [hd] at this
  exact this
theorem Ae (ec:P[ce]?=some ⟨2,2,mT⟩) {W:Nat→Prop} {NN:Loc→Hp→Prop} {R:V→Hp→Prop} {Y:Nat→Hp→Prop} {m:Nat} {ns:List Int} {k p:Int} (hm:H[m]?=some (ns.map .int)) (hk:0≤k)
    (p1:-1000000≤p) (p2:p≤1000000) (hQ:∀ q r d,QD p q r d→R (qv p q r d) H) :
    wpS sub (aj sub P (n+1)) W (kQ ce) [some (.lst m),some (.int k),some (.int p),none,none] H NN R Y:=by
  have fin:∀ q,((1≤q∧q≤6)∨(-6≤q∧q≤-1))→wpS sub (aj sub P (n+1)) W (kH ce) [some (.lst m),some (.int k),some (.int p),some (.int q),none] H NN R Y:=fun q h=>zf ec hm hk p1 p2 h fun r d=>hQ q r d
  dsimp only [kQ]
  revert fin
  generalize kH ce=T
  intro fin
  dsimp only [qS1,qS2,qS3,bj,qE1,qE5,qE8,bh,aO,aC,aD,cw,ac,af,au]
  refine d8 ec (ns:=ns) (by (exact om [] [k] [(.il (.n 0) Y0)] (.il (.n 0) (.a Y0 (.n 1))) [[1,1]] rfl hk)) hm ?_
  refine ⟨by decide,?_⟩
  dsimp only [cw,cM]
  refine d8 ec (ns:=ns) (by (exact om [] [k] [(.il (.n 0) Y0)] (.il (.n 0) (.a Y0 (.n 1))) [[1,1]] rfl hk)) hm ?_
  refine ⟨(show gw _ by unfold gw; decide),by decide,?_⟩
  dsimp only [gi,aZ,ac]
  have h1:=fm (x:=cF ns (k+1).toNat) (b:=6) (by decide)
  by_cases hc:((cF ns (k+1).toNat).fdiv 6).fmod 2=1
  · rw [decide_eq_true hc]
    exact fin _ (.inr (by (exact om [] [(cF ns (k+1).toNat).fmod 6] [(.an (.il (.n 0) Y0) (.il (.a Y0 (.n 1)) (.n 6)))] (.an (.il (.g (.n 6)) (.s (.n 0) (.a (.n 1) Y0))) (.il (.s (.n 0) (.a (.n 1) Y0)) (.g (.n 1)))) [[1,0,1],[1,1]] rfl h1)))
  · rw [decide_eq_false hc]
    exact fin _ (.inl (by (exact om [] [(cF ns (k+1).toNat).fmod 6] [(.an (.il (.n 0) Y0) (.il (.a Y0 (.n 1)) (.n 6)))] (.an (.il (.n 1) (.a (.n 1) Y0)) (.il (.a (.n 1) Y0) (.n 6))) [[1,1],[1,0,1]] rfl h1)))
theorem ya (e:P[f]?=some ⟨2,5,wL ce⟩) (ec:P[ce]?=some ⟨2,2,mT⟩) {m:Nat} {ns:List Int} {k:Int} (hm:H[m]?=some (ns.map .int)) (hk:0≤k) (hQ:∀ p q r d,QD p q r d→Q (qv p q r d) H):aj sub P (n+2) f [.lst m,.int k] H Q X:=by
  have fin:∀ p,-1000000≤p→p≤1000000→wpS sub (aj sub P (n+1)) (fun m=>H.length≤m) (kQ ce) [some (.lst m),some (.int k),some (.int p),none,none] H (fun _ H'=>Q .none H') Q X:=fun p h1 h2=>Ae ec hm hk h1 h2 fun q r d=>hQ p q r d
  refine ai e rfl ?_
  dsimp only [wL]
  revert fin
  generalize kQ ce=T
  intro fin
  dsimp only [qS1,qS2,qS3,bj,qE1,qE5,qE8,bh,aO,aC,aD,cw,DD,az,aA,ax,aw,aP,ay,aq,ac,af,au,Nat.reduceSub]
  refine d8 ec (ns:=ns) (by (exact om [] [k] [(.il (.n 0) Y0)] (.il (.n 0) Y0) [[1,1]] rfl hk)) hm ?_
  refine ⟨by decide,?_⟩
  dsimp only [cM]
  refine d8 ec (ns:=ns) (by (exact om [] [k] [(.il (.n 0) Y0)] (.il (.n 0) (.a Y0 (.n 3))) [[1,1]] rfl hk)) hm ?_
  refine ⟨by decide,?_⟩
  dsimp only [gi,aZ,ac]
  have h1:=fm (x:=cF ns k.toNat) (b:=19) (by decide)
  have h2:=fm (x:=cF ns k.toNat) (b:=2000001) (by decide)
  by_cases hc:(cF ns (k+3).toNat).fmod 8=1
  · rw [decide_eq_true hc]
    dsimp only [bu]
    refine d8 ec (ns:=ns) (by (exact om [] [k] [(.il (.n 0) Y0)] (.il (.n 0) Y0) [[1,1]] rfl hk)) hm ?_
    refine ⟨by decide,by decide,by decide,by decide,?_⟩
    show wpS _ _ _ T [_,_,some (.int ((cF ns k.toNat).fmod 2000001 - 1000000)),_,_] _ _ _ _
    exact fin _ (by (exact om [] [(cF ns k.toNat).fmod 2000001] [(.an (.il (.n 0) Y0) (.il (.a Y0 (.n 1)) (.n 2000001)))] (.il (.g (.n 1000000)) (.s Y0 (.n 1000000))) [[1,1]] rfl h2)) (by (exact om [] [(cF ns k.toNat).fmod 2000001] [(.an (.il (.n 0) Y0) (.il (.a Y0 (.n 1)) (.n 2000001)))] (.il (.s Y0 (.n 1000000)) (.n 1000000)) [[1,0,1]] rfl h2))
  · rw [decide_eq_false hc]
    exact fin _ (by (exact om [] [(cF ns k.toNat).fmod 19] [(.an (.il (.n 0) Y0) (.il (.a Y0 (.n 1)) (.n 19)))] (.il (.g (.n 1000000)) (.s Y0 (.n 9))) [[1,1]] rfl h1)) (by (exact om [] [(cF ns k.toNat).fmod 19] [(.an (.il (.n 0) Y0) (.il (.a Y0 (.n 1)) (.n 19)))] (.il (.s Y0 (.n 9)) (.n 1000000)) [[1,0,1]] rfl h1))
noncomputable def CU:PS:=(.seq (.ret (.tup (.cons (.var 1) (.cons (.var 2) .nil))))
 .skip)
noncomputable def yO:PS:=(.seq (.ite (.cmp .eq (.var 3) (.cint 5)) (.seq (.assign 2 (.tup (.cons (.idx (.var 1) (.cint 0)) (.cons (.idx (.var 1) (.cint 1)) (.cons (.idx (.var 1) (.cint 2)) (.cons (.idx (.var 1) (.cint 3)) .nil))))))
 .skip) .skip)
 CU)
noncomputable def wg:PS:=(.seq (.ite (.or (.cons (.cmp .eq (.var 3) (.cint 3)) (.cons (.cmp .eq (.var 3) (.cint 4)) .nil))) (.seq (.assign 2 (.tup (.cons (.idx (.var 2) (.cint 0)) (.cons (.idx (.var 2) (.cint 1)) (.cons (.idx (.var 2) (.cint 2)) (.cons (.idx (.var 1) (.cint 3)) .nil))))))
 .skip) .skip)
 yO)
noncomputable def xO:PS:=(.seq (.ite (.cmp .eq (.var 3) (.cint 2)) (.seq (.assign 2 (.tup (.cons (.idx (.var 1) (.cint 0)) (.cons (.bin .sub (.cint 0) (.idx (.var 1) (.cint 1))) (.cons (.idx (.var 1) (.cint 2)) (.cons (.idx (.var 1) (.cint 3)) .nil))))))
 .skip) .skip)
 wg)
noncomputable def BQ:PS:=(.seq (.ite (.cmp .eq (.var 3) (.cint 1)) (.seq (.assign 2 (.tup (.cons (.bin .sub (.cint 0) (.idx (.var 1) (.cint 0))) (.cons (.bin .sub (.cint 0) (.idx (.var 1) (.cint 1))) (.cons (.idx (.var 1) (.cint 2)) (.cons (.idx (.var 1) (.cint 3)) .nil))))))
 .skip) .skip)
 xO)
noncomputable def bTq (ce qu:Nat):PS:=(.seq (.assign 1 (.call qu (.cons (.var 0) (.cons (.cint 0) .nil))))
 (.seq (.assign 2 (.call qu (.cons (.var 0) (.cons (.cint 4) .nil))))
 (.seq (.assign 3 (.bin .mod (.call ce (.cons (.var 0) (.cons (.cint 8) .nil))) (.cint 8)))
 BQ)))
theorem QD.negq {p q r:Int} {d:Nat} (h:QD p q r d):QD p (0 - q) r d:=⟨h.p1,h.p2,by have:=h.q0; (exact om [] [q] [(.or (.an (.il (.n 1) Y0) (.il Y0 (.n 6))) (.an (.il (.g (.n 6)) Y0) (.il Y0 (.g (.n 1)))))] (.or (.an (.il (.n 1) (.s (.n 0) Y0)) (.il (.s (.n 0) Y0) (.n 6))) (.an (.il (.g (.n 6)) (.s (.n 0) Y0)) (.il (.s (.n 0) Y0) (.g (.n 1))))) [[0,1,0,1],[0,1,1],[1,0,0,1],[1,0,1]] rfl this),h.r1,h.r2,h.d1,h.d2⟩
theorem QD.negp {p q r:Int} {d:Nat} (h:QD p q r d):QD (0 - p) q r d:=⟨by have:=h.p2; (exact om [] [p] [(.il Y0 (.n 1000000))] (.il (.g (.n 1000000)) (.s (.n 0) Y0)) [[1,1]] rfl this),by have:=h.p1; (exact om [] [p] [(.il (.g (.n 1000000)) Y0)] (.il (.s (.n 0) Y0) (.n 1000000)) [[1,1]] rfl this),h.q0,h.r1,h.r2,h.d1,h.d2⟩
section
variable {Φ:Call} {W:Nat→Prop} {NN:Loc→Hp→Prop} {R:V→Hp→Prop} {Y:Nat→Hp→Prop} {p q r p' q' r':Int} {d d':Nat} {v:V} {way:Int}
theorem Da (h1:QD p q r d) (h2:QD p' q' r' d') (hQ:∀ p' q' r' d',QD p' q' r' d'→R (.tup [qv p q r d,qv p' q' r' d']) H):wpS sub Φ W yO [some v,some (qv p q r d),some (qv p' q' r' d'),some (.int way)] H NN R Y:=by
  have fin:∀ {p' q' r' d'},QD p' q' r' d'→wpS sub Φ W CU [some v,some (qv p q r d),some (qv p' q' r' d'),some (.int way)] H NN R Y:=fun h=>hQ _ _ _ _ h
  dsimp only [yO]
  revert fin
  generalize CU=T
  intro fin
  dsimp only [qS1,qS2,qS3,bj,qE1,qE5,bh,aY,cJ,aC,aD,gi,aZ,ac,af,au,iN,ga,fj,ik]
  by_cases hc:way=5
  · rw [decide_eq_true hc]; exact fin h1
  · rw [decide_eq_false hc]; exact fin h2
theorem DF (h1:QD p q r d) (h2:QD p' q' r' d') (hQ:∀ p' q' r' d',QD p' q' r' d'→R (.tup [qv p q r d,qv p' q' r' d']) H):wpS sub Φ W wg [some v,some (qv p q r d),some (qv p' q' r' d'),some (.int way)] H NN R Y:=by
  have fin:∀ {p' q' r' d'},QD p' q' r' d'→wpS sub Φ W yO [some v,some (qv p q r d),some (qv p' q' r' d'),some (.int way)] H NN R Y:=fun h=>Da h1 h hQ
  have h3:QD p' q' r' d:=⟨h2.p1,h2.p2,h2.q0,h2.r1,h2.r2,h1.d1,h1.d2⟩
  dsimp only [wg]
  revert fin
  generalize yO=T
  intro fin
  dsimp only [qS1,qS2,qS3,bj,qE1,qE5,bh,fB,aY,cJ,aC,aD,bV,gi,aZ,ac,af,au,iN,ga,fj,ik]
  by_cases hc:way=3
  · rw [decide_eq_true hc]; exact fin h3
  · rw [decide_eq_false hc]
    by_cases hc:way=4
    · rw [decide_eq_true hc]; exact fin h3
    · rw [decide_eq_false hc]; exact fin h2
theorem DJ (h1:QD p q r d) (h2:QD p' q' r' d') (hQ:∀ p' q' r' d',QD p' q' r' d'→R (.tup [qv p q r d,qv p' q' r' d']) H):wpS sub Φ W xO [some v,some (qv p q r d),some (qv p' q' r' d'),some (.int way)] H NN R Y:=by
  have fin:∀ {p' q' r' d'},QD p' q' r' d'→wpS sub Φ W wg [some v,some (qv p q r d),some (qv p' q' r' d'),some (.int way)] H NN R Y:=fun h=>DF h1 h hQ
  dsimp only [xO]
  revert fin
  generalize wg=T
  intro fin
  dsimp only [qS1,qS2,qS3,bj,qE1,qE5,qE8,bh,aY,cJ,aC,aD,cM,gi,aZ,ac,af,au,iN,ga,fj,ik]
  by_cases hc:way=2
  · rw [decide_eq_true hc]; exact fin h1.negq
  · rw [decide_eq_false hc]; exact fin h2
theorem DV (h1:QD p q r d) (h2:QD p' q' r' d') (hQ:∀ p' q' r' d',QD p' q' r' d'→R (.tup [qv p q r d,qv p' q' r' d']) H):wpS sub Φ W BQ [some v,some (qv p q r d),some (qv p' q' r' d'),some (.int way)] H NN R Y:=by
  have fin:∀ {p' q' r' d'},QD p' q' r' d'→wpS sub Φ W xO [some v,some (qv p q r d),some (qv p' q' r' d'),some (.int way)] H NN R Y:=fun h=>DJ h1 h hQ
  dsimp only [BQ]
  revert fin
  generalize xO=T
  intro fin
  dsimp only [qS1,qS2,qS3,bj,qE1,qE5,qE8,bh,aY,cJ,aC,aD,cM,gi,aZ,ac,af,au,iN,ga,fj,ik]
  by_cases hc:way=1
  · rw [decide_eq_true hc]; exact fin h1.negq.negp
  · rw [decide_eq_false hc]; exact fin h2
end
theorem Eg (e:P[f]?=some ⟨1,4,bTq ce qu⟩) (eq:P[qu]?=some ⟨2,5,wL ce⟩) (ec:P[ce]?=some ⟨2,2,mT⟩) {m:Nat} {ns:List Int} (hm:H[m]?=some (ns.map .int)) (hQ:∀ p q r d p' q' r' d',QD p q r d→QD p' q' r' d'→Q (.tup [qv p q r d,qv p' q' r' d']) H):aj sub P (n+3) f [.lst m] H Q X:=by
  refine ai e rfl ?_
  dsimp only [bTq,qS2,qS3,qE1,qE5,qE8,aO,aC,aD,az,aA,ax,aw,aP,ay,aq,ac,af,au,Nat.reduceSub]
  refine ya eq ec hm (by decide) fun p q r d h1=>?_
  refine ya eq ec hm (by decide) fun p' q' r' d' h2=>?_
  refine d8 ec (by decide) hm ⟨by decide,?_⟩
  exact DV h1 h2 fun p' q' r' d' h=>hQ _ _ _ _ _ _ _ _ h1 h
end
end Mine
set_option maxRecDepth 100000
namespace Mine
open PySem
open Re
noncomputable abbrev pvv (row:List Int) (p1 q1 p2 q2:Int):V:=.tup [.tup (row.map .int),pt p1 q1,pt p2 q2]
theorem dP {k:Nat} {x c:Int} (h1:-c≤x) (h2:x≤c) (hc:Sm k c):Sm k x:=by unfold Sm at *; exact om [x.natAbs,2 ^ k,c.natAbs] [x,c] [(.il (.g Y1) Y0),(.il Y0 Y1),(.le (.a Y2 (.n 1)) Y1),(.an (.il Y1 (.c Y2)) (.il (.g Y1) (.c Y2))),(.or (.an (.il (.n 0) Y0) (.ie (.c Y0) Y0)) (.an (.il Y0 (.n 0)) (.ie (.c Y0) (.g Y0))))] (.le (.a Y0 (.n 1)) Y1) [[1,0,1,1,1,0,0,1],[1,1,0,1,1,0,0,1]] rfl h1 h2 hc (c5 (c)) (bT (x))
structure QE (p q r:Int) (d:Nat) (A L U p1 q1 p2 q2:Int):Prop where
  A1:1≤A
  A6:A≤6
  Ad:(d:Int) < A*A
  or:(0 < q∧L=p∧U=p+q*A)∨(q < 0∧L=p+q*A∧U=p)
  l1:Low 40 p1 q1
  e1:p1*r=L*q1
  l2:Low 40 p2 q2
  e2:p2*r=U*q2
structure QP (p q r:Int) (d:Nat) (row:List Int) (g A L U p1 q1 p2 q2:Int):Prop where
  qd:QD p q r d
  qe:QE p q r d A L U p1 q1 p2 q2
  hg:g≠0
  e:smul g row=[p*p - q*q*d,-2*p*r,r*r]
  tr:Tr row
  sm:AllSm 60 row
  one:bB row 0=1
  la:∃ l,row.getLast?=some l∧0 < l
theorem QD.qA {p q r A:Int} {d:Nat} (h:QD p q r d) (hA:1≤A) (hA6:A≤6):(0 < q→0 < q*A∧q*A≤36)∧(q < 0→-36≤q*A∧q*A < 0):=by
  constructor
  · intro hq
    have h2:q≤6:=by have:=h.q0; (exact om [] [q] [(.or (.an (.il (.n 1) Y0) (.il Y0 (.n 6))) (.an (.il (.g (.n 6)) Y0) (.il Y0 (.g (.n 1)))))] (.il Y0 (.n 6)) [[1,0,1]] rfl this)
    have i1:=Int.mul_le_mul h2 hA6 (by (exact om [] [A] [(.il (.n 1) Y0)] (.il (.n 0) Y0) [[1,1]] rfl hA)) (by (exact om [] [] [] (.il (.n 0) (.n 6)) [[1]] rfl))
    exact ⟨Int.mul_pos hq (by (exact om [] [A] [(.il (.n 1) Y0)] (.il (.a (.n 0) (.n 1)) Y0) [[1,1]] rfl hA)),i1⟩
  · intro hq
    have h2:-q≤6:=by have:=h.q0; (exact om [] [q] [(.or (.an (.il (.n 1) Y0) (.il Y0 (.n 6))) (.an (.il (.g (.n 6)) Y0) (.il Y0 (.g (.n 1)))))] (.il (.g Y0) (.n 6)) [[1,1]] rfl this)
    have i1:=Int.mul_le_mul h2 hA6 (by (exact om [] [A] [(.il (.n 1) Y0)] (.il (.n 0) Y0) [[1,1]] rfl hA)) (by (exact om [] [] [] (.il (.n 0) (.n 6)) [[1]] rfl))
    have i2:=Int.mul_pos (show 0 < -q by (exact om [] [q] [(.il (.a Y0 (.n 1)) (.n 0))] (.il (.a (.n 0) (.n 1)) (.g Y0)) [[1,1]] rfl hq)) (show 0 < A by (exact om [] [A] [(.il (.n 1) Y0)] (.il (.a (.n 0) (.n 1)) Y0) [[1,1]] rfl hA))
    rw [Int.neg_mul] at i1 i2
    (exact om [] [q*A] [(.il (.g Y0) (.m 6 (.n 6))),(.il (.a (.n 0) (.n 1)) (.g Y0))] (.an (.il (.g (.n 36)) Y0) (.il (.a Y0 (.n 1)) (.n 0))) [[1,1],[1,0,1]] rfl i1 i2)
section
variable {p q r:Int} {d:Nat} {row:List Int} {g A L U p1 q1 p2 q2:Int}
theorem QP.len (h:QP p q r d row g A L U p1 q1 p2 q2):row.length=3:=by
  have hl:=bQ (c:=g) (xs:=row)
  rw [h.e] at hl; exact hl.symm
theorem QP.ends (h:QP p q r d row g A L U p1 q1 p2 q2):rq L r < qal p q r d∧qal p q r d < rq U r∧Out (rq L r) (rq U r) (2*rq p r - qal p q r d):=by
  have hA:aG d < A:=uF (by have:=h.qe.A1; (exact om [] [A] [(.il (.n 1) Y0)] (.il (.n 0) Y0) [[1,1]] rfl this)) h.qe.Ad
  rcases h.qe.or with ⟨hq,rfl,rfl⟩ | ⟨hq,rfl,rfl⟩
  · exact h.qd.up hq hA
  · exact h.qd.dn hq hA
theorem QP.LU (h:QP p q r d row g A L U p1 q1 p2 q2):(-1000036≤L∧U≤1000036)∧L≤U∧U - L≤36:=by
  have b1:=h.qd.p1
  have b2:=h.qd.p2
  obtain ⟨k1,k2⟩:=h.qd.qA h.qe.A1 h.qe.A6
  rcases h.qe.or with ⟨hq,rfl,rfl⟩ | ⟨hq,rfl,rfl⟩
  · have:=k1 hq; (exact om [] [L,q*A] [(.il (.g (.n 1000000)) Y0),(.il Y0 (.n 1000000)),(.an (.il (.a (.n 0) (.n 1)) Y1) (.il Y1 (.n 36)))] (.an (.an (.il (.g (.n 1000036)) Y0) (.il (.a Y0 Y1) (.n 1000036))) (.an (.il Y0 (.a Y0 Y1)) (.il (.s (.a Y0 Y1) Y0) (.n 36)))) [[1,1],[1,0,1,0,1],[1,0,0,1],[1,0,0,0,1]] rfl b1 b2 this)
  · have:=k2 hq; (exact om [] [U,q*A] [(.il (.g (.n 1000000)) Y0),(.il Y0 (.n 1000000)),(.an (.il (.g (.n 36)) Y1) (.il (.a Y1 (.n 1)) (.n 0)))] (.an (.an (.il (.g (.n 1000036)) (.a Y0 Y1)) (.il Y0 (.n 1000036))) (.an (.il (.a Y0 Y1) Y0) (.il (.s Y0 (.a Y0 Y1)) (.n 36)))) [[1,1,0,1],[1,0,1],[1,0,0,0,1],[1,0,0,1]] rfl b1 b2 this)
theorem QP.mkpd (h:QP p q r d row g A L U p1 q1 p2 q2) {row':List Int} (rp:RP row' (rq L r) (rq U r) (qal p q r d)) (tr:Tr row') (ln:row'.length≤4) (sm:AllSm 200 row'):PD row' r (qal p q r d) (rq L r) (rq U r) p1 q1 p2 q2 0:=by
  have r1:=h.qd.r1
  have r2:=h.qd.r2
  refine fx (h.LU) fun zq117 k3 k4=>?_; obtain ⟨k1,k2⟩:=zq117
  exact Dn rp tr ln sm r1 (Int.le_trans r2 (by decide)) (Int.le_trans (by decide) k1) k3 (Int.le_trans k2 (by decide)) (by (exact om [] [U,L,r] [(.il (.n 1) Y2),(.il (.s Y0 Y1) (.n 36))] (.il (.s Y0 Y1) (.r Y2 64)) [[1,64,1]] rfl r1 k4)) h.qe.l1 h.qe.e1 h.qe.l2 h.qe.e2
theorem QP.pd (h:QP p q r d row g A L U p1 q1 p2 q2):PD row r (qal p q r d) (rq L r) (rq U r) p1 q1 p2 q2 0:=by
  have hr:0 < r:=by have:=h.qd.r1; (exact om [] [r] [(.il (.n 1) Y0)] (.il (.a (.n 0) (.n 1)) Y0) [[1,1]] rfl this)
  refine fx (h.ends) fun a1 a2 a3=>?_
  exact h.mkpd (zH hr h.hg h.e (cI hr) a1 a2 a3) h.tr (by rw [h.len]; decide) (h.sm.mono (by decide))
end
section
variable {sub:Nat→Nat→Bool} {P:List Fn} {f n ce qu lp dv ld en sm sg be ps pr ta pa by_ wh:Nat} {H:Hp} {Q:V→Hp→Prop} {X:Nat→Hp→Prop}
noncomputable def rA (lp:Nat):PS:=(.seq (.ite (.cmp .gt (.var 1) (.cint 0)) (.seq (.ret (.tup (.cons (.call lp (.cons (.var 0) (.cons (.var 2) .nil))) (.cons (.call lp (.cons (.bin .add (.var 0) (.bin .mul (.var 1) (.var 4))) (.cons (.var 2) .nil))) .nil))))
 .skip) .skip)
 (.seq (.ret (.tup (.cons (.call lp (.cons (.bin .add (.var 0) (.bin .mul (.var 1) (.var 4))) (.cons (.var 2) .nil))) (.cons (.call lp (.cons (.var 0) (.cons (.var 2) .nil))) .nil))))
 .skip))
noncomputable def AV:PE:=(.cmp .le (.bin .mul (.var 4) (.var 4)) (.var 3))
noncomputable def Be:PS:=(.seq (.assign 4 (.bin .add (.var 4) (.cint 1)))
 .skip)
noncomputable def wP (lp:Nat):PS:=(.seq (.assign 4 (.cint 1))
 (.seq (.whl AV Be)
 (rA lp)))
theorem y6 (ep:P[lp]?=some ⟨2,3,gr ld⟩) (ed:P[ld]?=some ⟨2,3,my⟩) {W:Nat→Prop} {NN:Loc→Hp→Prop} {R:V→Hp→Prop} {Y:Nat→Hp→Prop} {p q r A:Int} {d:Nat} {x:V} (h:QD p q r d) (hA:1≤A) (hA6:A≤6) (hd:(d:Int) < A*A)
    (hQ:∀ L U p1 q1 p2 q2,QE p q r d A L U p1 q1 p2 q2→R (.tup [pt p1 q1,pt p2 q2]) H) :
    wpS sub (aj sub P (n+2)) W (rA lp) [some (.int p),some (.int q),some (.int r),some x,some (.int A)] H NN R Y:=by
  obtain ⟨k1,k2⟩:=h.qA hA hA6
  have b1:=h.p1
  have b2:=h.p2
  have r1:=h.r1
  have c40:Sm 40 (2000000:Int):=by unfold Sm; decide
  have sp:Sm 40 p:=dP (by (exact om [] [p] [(.il (.g (.n 1000000)) Y0)] (.il (.g (.n 2000000)) Y0) [[1,1]] rfl b1)) (by (exact om [] [p] [(.il Y0 (.n 1000000))] (.il Y0 (.n 2000000)) [[1,1]] rfl b2)) c40
  have sr:Sm 40 r:=dP (by (exact om [] [r] [(.il (.n 1) Y0)] (.il (.g (.n 2000000)) Y0) [[1,1]] rfl r1)) (Int.le_trans h.r2 (by decide)) c40
  have sA:Sm 64 A:=(dP (by (exact om [] [A] [(.il (.n 1) Y0)] (.il (.g (.n 2000000)) Y0) [[1,1]] rfl hA)) (Int.le_trans hA6 (by decide)) c40).mono (by decide)
  dsimp only [rA,qS1,qS2,qS9,bj,qE1,qE5,qE8,bh,aO,cJ,aC,aD,cw,cx,li,aZ,ac,af]
  by_cases hq:0 < q
  · rw [decide_eq_true hq]
    have sU:Sm 40 (p+q*A):=by have:=k1 hq; exact dP (by (exact om [] [p,q*A] [(.il (.g (.n 1000000)) Y0),(.an (.il (.a (.n 0) (.n 1)) Y1) (.il Y1 (.n 36)))] (.il (.g (.n 2000000)) (.a Y0 Y1)) [[1,1,1]] rfl b1 this)) (by (exact om [] [p,q*A] [(.il Y0 (.n 1000000)),(.an (.il (.a (.n 0) (.n 1)) Y1) (.il Y1 (.n 36)))] (.il (.a Y0 Y1) (.n 2000000)) [[1,1,0,1]] rfl b2 this)) c40
    dsimp only [bu]
    refine zW ep ed (by (exact om [] [r] [(.il (.n 1) Y0)] (.il (.a (.n 0) (.n 1)) Y0) [[1,1]] rfl r1)) sp sr (by decide) fun p1 q1 l1 e1=>?_
    refine ⟨IntMulOk.right sA,?_⟩
    refine zW ep ed (by (exact om [] [r] [(.il (.n 1) Y0)] (.il (.a (.n 0) (.n 1)) Y0) [[1,1]] rfl r1)) sU sr (by decide) fun p2 q2 l2 e2=>?_
    exact hQ _ _ _ _ _ _ ⟨hA,hA6,hd,.inl ⟨hq,rfl,rfl⟩,l1,e1,l2,e2⟩
  · rw [decide_eq_false hq]
    have hq':q < 0:=by have:=h.q0; (exact om [] [q] [(.no (.il (.a (.n 0) (.n 1)) Y0)),(.or (.an (.il (.n 1) Y0) (.il Y0 (.n 6))) (.an (.il (.g (.n 6)) Y0) (.il Y0 (.g (.n 1)))))] (.il (.a Y0 (.n 1)) (.n 0)) [[0,1,1],[1,0,0,1]] rfl hq this)
    have sU:Sm 40 (p+q*A):=by have:=k2 hq'; exact dP (by (exact om [] [p,q*A] [(.il (.g (.n 1000000)) Y0),(.an (.il (.g (.n 36)) Y1) (.il (.a Y1 (.n 1)) (.n 0)))] (.il (.g (.n 2000000)) (.a Y0 Y1)) [[1,1,1]] rfl b1 this)) (by (exact om [] [p,q*A] [(.il Y0 (.n 1000000)),(.an (.il (.g (.n 36)) Y1) (.il (.a Y1 (.n 1)) (.n 0)))] (.il (.a Y0 Y1) (.n 2000000)) [[1,1,0,1]] rfl b2 this)) c40
    refine ⟨IntMulOk.right sA,?_⟩
    refine zW ep ed (by (exact om [] [r] [(.il (.n 1) Y0)] (.il (.a (.n 0) (.n 1)) Y0) [[1,1]] rfl r1)) sU sr (by decide) fun p1 q1 l1 e1=>?_
    refine zW ep ed (by (exact om [] [r] [(.il (.n 1) Y0)] (.il (.a (.n 0) (.n 1)) Y0) [[1,1]] rfl r1)) sp sr (by decide) fun p2 q2 l2 e2=>?_
    exact hQ _ _ _ _ _ _ ⟨hA,hA6,hd,.inr ⟨hq',rfl,rfl⟩,l1,e1,l2,e2⟩
noncomputable def t6 (H:Hp) (a b c e:V) (n:Nat) (ρ:Loc) (H':Hp):Prop:=H'=H∧∃ A:Int,(n:Int)+A=6∧1≤A∧ρ=[some a,some b,some c,some e,some (.int A)]
theorem Cb (e:P[f]?=some ⟨4,5,wP lp⟩) (ep:P[lp]?=some ⟨2,3,gr ld⟩) (ed:P[ld]?=some ⟨2,3,my⟩) {p q r:Int} {d:Nat} (h:QD p q r d)
    (hQ:∀ A L U p1 q1 p2 q2,QE p q r d A L U p1 q1 p2 q2→Q (.tup [pt p1 q1,pt p2 q2]) H):aj sub P (n+3) f [.int p,.int q,.int r,.int (d:Int)] H Q X:=by
  refine ai e rfl ?_
  have fin:∀ A,1≤A→A≤6→(d:Int) < A*A→wpS sub (aj sub P (n+2)) (fun m=>H.length≤m) (rA lp) [some (.int p),some (.int q),some (.int r),some (.int (d:Int)),some (.int A)] H (fun _ H'=>Q .none H') Q X:=fun A h1 h2 h3=>y6 ep ed h h1 h2 h3 fun L U p1 q1 p2 q2 o=>hQ A L U p1 q1 p2 q2 o
  dsimp only [wP]
  revert fin
  generalize rA lp=T
  intro fin
  dsimp only [qS2,qS3,dy,qE1,az,aA,ax,aw,aP,ay,aq,au,Nat.reduceSub]
  refine ⟨fun ρ H'=>∃ n,t6 H (.int p) (.int q) (.int r) (.int (d:Int)) n ρ H',muI (t6 H (.int p) (.int q) (.int r) (.int (d:Int))),⟨5,rfl,1,rfl,by decide,rfl⟩,?_⟩
  intro ρ H' hex
  have hI:=rT hex
  generalize muI (t6 H (.int p) (.int q) (.int r) (.int (d:Int))) ρ H'=nn at *
  obtain ⟨rfl,A,hn,hA,rfl⟩:=hI
  dsimp only [AV,qE5,qE8,bh,cx,CL,aZ,ac,af]
  have hA6:A≤6:=by (exact om [nn] [A] [(.ie (.a (.c Y0) Y0) (.n 6))] (.il Y0 (.n 6)) [[1,1]] rfl hn)
  refine ⟨IntMulOk.left (dP (c:=6) (by (exact om [] [A] [(.il (.n 1) Y0)] (.il (.g (.n 6)) Y0) [[1,1]] rfl hA)) hA6 (by unfold Sm; decide)),?_⟩
  by_cases hc:A*A≤(d:Int)
  · rw [decide_eq_true hc]
    have hA5:A≤5:=Int.not_lt.mp fun hl=>by
      have:=Int.mul_le_mul (show 6≤A by (exact om [] [A] [(.il (.a (.n 5) (.n 1)) Y0)] (.il (.n 6) Y0) [[1,1]] rfl hl)) (show 6≤A by (exact om [] [A] [(.il (.a (.n 5) (.n 1)) Y0)] (.il (.n 6) Y0) [[1,1]] rfl hl)) (by decide) (by (exact om [] [A] [(.il (.n 1) Y0)] (.il (.n 0) Y0) [[1,1]] rfl hA))
      have:=h.d2
      (clear e ep ed h hQ fin hn hA hex hA6 hl; omega)
    dsimp only [Be,qS1,qS2,qS3,qE1,qE5,qE8,cw,bu,ac,af,au]
    have hN:t6 H' (.int p) (.int q) (.int r) (.int (d:Int)) (nn - 1) [some (.int p),some (.int q),some (.int r),some (.int (d:Int)),some (.int (A+1))] H':=⟨rfl,A+1,by (exact om [nn - 1,nn] [A] [(.ie (.a (.c Y1) Y0) (.n 6)),(.il Y0 (.n 5)),(.or (.an (.le (.n 1) Y1) (.eq Y1 (.a Y0 (.n 1)))) (.an (.le Y1 (.n 1)) (.eq Y0 (.n 0))))] (.ie (.a (.c Y0) (.a Y0 (.n 1))) (.n 6)) [[1,0,1,0,0,1],[1,0,1,0,1],[1,1,0,0,0,0,1],[1,0,0,1,0,1]] rfl hn hA5 (aN (nn) (1))),by (exact om [] [A] [(.il (.n 1) Y0)] (.il (.n 1) (.a Y0 (.n 1))) [[1,1]] rfl hA),rfl⟩
    exact ⟨⟨_,hN⟩,Nat.lt_of_le_of_lt (ow hN) (by (exact om [nn - 1,nn] [A] [(.ie (.a (.c Y1) Y0) (.n 6)),(.il Y0 (.n 5)),(.or (.an (.le (.n 1) Y1) (.eq Y1 (.a Y0 (.n 1)))) (.an (.le Y1 (.n 1)) (.eq Y0 (.n 0))))] (.le (.a Y0 (.n 1)) Y1) [[1,0,0,0,0,0,1],[1,0,1,1,0,1]] rfl hn hA5 (aN (nn) (1))))⟩
  · rw [decide_eq_false hc]
    exact fin A hA hA6 (Int.not_le.mp hc)
noncomputable def AJ (en sm:Nat):PS:=(.seq (.assign 4 (.call en (.cons (.var 0) (.cons (.var 1) (.cons (.var 2) (.cons (.var 3) .nil))))))
 (.seq (.ret (.tup (.cons (.bi .tuple (.cons (.call sm (.cons (.lst (.cons (.bin .sub (.bin .mul (.var 0) (.var 0)) (.bin .mul (.bin .mul (.var 1) (.var 1)) (.var 3))) (.cons (.bin .mul (.bin .mul (.neg (.cint 2)) (.var 0)) (.var 2)) (.cons (.bin .mul (.var 2) (.var 2)) .nil)))) .nil)) .nil)) (.cons (.idx (.var 4) (.cint 0)) (.cons (.idx (.var 4) (.cint 1)) .nil)))))
 .skip))
theorem QD.sm64 {p q r:Int} {d:Nat} (h:QD p q r d):Sm 64 p∧Sm 64 q∧Sm 64 r∧Sm 64 (d:Int):=by
  have c6:Sm 64 (1000000:Int):=by unfold Sm; decide
  have b1:=h.p1
  have b2:=h.p2
  have q0:=h.q0
  have d2:=h.d2
  have r1:=h.r1
  have r2:=h.r2
  exact ⟨dP b1 b2 c6,dP (by (exact om [] [q] [(.or (.an (.il (.n 1) Y0) (.il Y0 (.n 6))) (.an (.il (.g (.n 6)) Y0) (.il Y0 (.g (.n 1)))))] (.il (.g (.n 1000000)) Y0) [[1,1]] rfl q0)) (by (exact om [] [q] [(.or (.an (.il (.n 1) Y0) (.il Y0 (.n 6))) (.an (.il (.g (.n 6)) Y0) (.il Y0 (.g (.n 1)))))] (.il Y0 (.n 1000000)) [[1,0,1]] rfl q0)) c6,dP (by (exact om [] [r] [(.il (.n 1) Y0)] (.il (.g (.n 1000000)) Y0) [[1,1]] rfl r1)) (by (exact om [] [r] [(.il Y0 (.n 7))] (.il Y0 (.n 1000000)) [[1,1]] rfl r2)) c6,dP (by (exact om [d] [] [] (.il (.g (.n 1000000)) (.c Y0)) [[1]] rfl)) (by (exact om [d] [] [(.le Y0 (.n 30))] (.il (.c Y0) (.n 1000000)) [[1,1]] rfl d2)) c6⟩
theorem QD.row_sm {p q r:Int} {d:Nat} (h:QD p q r d):AllSm 60 [p*p - q*q*d,-2*p*r,r*r]:=by
  have b1:=h.p1
  have b2:=h.p2
  have r1:=h.r1
  have r2:=h.r2
  have d2:=h.d2
  have q0:=h.q0
  have sp : Sm 20 p := by unfold Sm; have : (2 : Nat) ^ 20 = 1048576 := by decide
                          (exact om [p.natAbs] [p] [(.il (.g (.n 1000000)) Y0),(.il Y0 (.n 1000000)),(.or (.an (.il (.n 0) Y0) (.ie (.c Y0) Y0)) (.an (.il Y0 (.n 0)) (.ie (.c Y0) (.g Y0))))] (.le (.a Y0 (.n 1)) (.n 1048576)) [[1,0,1,0,1],[1,1,0,0,1]] rfl b1 b2 (bT (p)))
  have sq:Sm 4 q:=by unfold Sm; (exact om [q.natAbs] [q] [(.or (.an (.il (.n 1) Y0) (.il Y0 (.n 6))) (.an (.il (.g (.n 6)) Y0) (.il Y0 (.g (.n 1))))),(.or (.an (.il (.n 0) Y0) (.ie (.c Y0) Y0)) (.an (.il Y0 (.n 0)) (.ie (.c Y0) (.g Y0))))] (.le (.a Y0 (.n 1)) (.n 16)) [[1,0,1,0,1],[1,1,0,0,1]] rfl q0 (bT (q)))
  have sr:Sm 4 r:=by unfold Sm; (exact om [r.natAbs] [r] [(.il (.n 1) Y0),(.il Y0 (.n 7)),(.or (.an (.il (.n 0) Y0) (.ie (.c Y0) Y0)) (.an (.il Y0 (.n 0)) (.ie (.c Y0) (.g Y0))))] (.le (.a Y0 (.n 1)) (.n 16)) [[1,0,1,0,1],[1,1,0,0,1]] rfl r1 r2 (bT (r)))
  have sd:Sm 5 (d:Int):=by unfold Sm; (exact om [(↑d:Int).natAbs,d] [] [(.le Y1 (.n 30)),(.or (.an (.il (.n 0) (.c Y1)) (.ie (.c Y0) (.c Y1))) (.an (.il (.c Y1) (.n 0)) (.ie (.c Y0) (.g (.c Y1)))))] (.le (.a Y0 (.n 1)) (.n 32)) [[1,1,0,1]] rfl d2 (bT ((↑d:Int))))
  have s2:Sm 2 (-2:Int):=by unfold Sm; decide
  exact .cons ((Sm.sub ((sp.mul sp).mono (show 20+20≤50 by decide)) (((sq.mul sq).mul sd).mono (by decide))).mono (by decide)) (.cons (((s2.mul sp).mul sr).mono (by decide)) (.cons ((sr.mul sr).mono (by decide)) .nil))
theorem CA {Φ:Call} (g:Int) (ρ:Loc) (H':Hp) (Z:V→Hp→Prop) (hg:af ρ 1=some (.int g)) (hz:Z (.int (-g)) H'):wpE sub Φ ngL ρ H' Z:=by
  dsimp only [ngL,qE1,qE5,qE8]
  refine ifSome.mk hg ?_
  show Z (.int (0 - g)) H'
  rw [Int.zero_sub]; exact hz
theorem xC (e:P[f]?=some ⟨4,5,AJ en sm⟩) (ee:P[en]?=some ⟨4,5,wP lp⟩) (ep:P[lp]?=some ⟨2,3,gr ld⟩) (ed:P[ld]?=some ⟨2,3,my⟩) (es:P[sm]?=some ⟨1,3,nH ld ngL⟩) {p q r:Int} {d:Nat} (h:QD p q r d)
    (hQ:∀ H' row g A L U p1 q1 p2 q2,H<+:H'→QP p q r d row g A L U p1 q1 p2 q2→Q (pvv row p1 q1 p2 q2) H'):aj sub P (n+4) f [.int p,.int q,.int r,.int (d:Int)] H Q X:=by
  refine ai e rfl ?_
  dsimp only [AJ,qS1,qS2,qS3,qS9,qE1,qE5,qE8,qE9,aO,br,aY,cJ,cY,aC,aD,cM,cx,uM,az,aA,ax,aw,aP,ay,aq,ac,af,au,Nat.reduceSub]
  refine Cb ee ep ed h fun A L U p1 q1 p2 q2 qe=>?_
  refine bP (h.sm64) fun sp sq sr sd=>?_
  have r1:=h.r1
  refine ⟨IntMulOk.left sp,IntMulOk.left sq,IntMulOk.right sd,IntMulOk.right sp,IntMulOk.right sr,IntMulOk.left sr,?_⟩
  have hl:[p*p - q*q*(d:Int),-2*p*r,r*r].getLast?=some (r*r):=rfl
  have hr0:r*r≠0:=Int.mul_ne_zero (by (exact om [] [r] [(.il (.n 1) Y0)] (.no (.ie Y0 (.n 0))) [[1,0,1]] rfl r1)) (by (exact om [] [r] [(.il (.n 1) Y0)] (.no (.ie Y0 (.n 0))) [[1,0,1]] rfl r1))
  have hmem:=List.mem_of_getLast? hl
  refine mP (n:=n+2) (ng:=ngL) CA es (fun a b H' Z X' hz=>uI ed hz) (v:=.lst H.length) (row:=[p*p - q*q*(d:Int),-2*p*r,r*r]) (ag _ _ _) hl hr0 (by simp) ?_
  dsimp only [cq,cr,d5]
  refine ifSome.mk (ag _ _ _) ?_
  exact hQ _ _ _ A L U _ _ _ _ (ae (ah _ _) (ah _ _)) ⟨h,qe,ej hmem hr0,dz,sZ hl hr0,iu hmem hr0 h.row_sm,dM hmem hr0,⟨_,bw hl,cP hmem hr0⟩⟩
end
end Mine
namespace Mine
open Re
noncomputable def evl:List Re→Re→Re
  | [],_=>0
  | c :: r,t=>c+t*evl r t
theorem fP (c:Re) (r:List Re) (t:Re):evl (c :: r) t=c+t*evl r t:=rfl
theorem CP (t:Re):evl [] t=0:=rfl
theorem wX:∀ xs:List Re,PR xs.length (evl xs)
  | []=>fun _=>rfl
  | c :: xs=>⟨c,evl xs,wX xs,fun _=>rfl⟩
theorem jX:∀ {n:Nat} {f:Re→Re} {rs:List Re},PR n f→rs.length=n→rs.Pairwise (·≠·)→(∀ r∈rs,f r=0)→∀ t,f t=0
  | 0,f,rs,hf,_,_,_=>hf
  | n+1,f,[],_,hl,_,_=>nomatch hl
  | n+1,f,r :: rs,hf,hl,hp,h=>fun t=>by
    refine ad (hf.fac r) fun g hg e=>?_
    have h0:=h r (.head _)
    have hp':=List.pairwise_cons.mp hp
    have:=jX hg (Nat.succ.inj hl) hp'.2 (fun x hx=>aR (x:=x - r) (by have:=e x; rw [h x (.tail _ hx),h0] at this; grind) (fun k=>hp'.1 x hx (by grind))) t
    rw [e,h0,this]; grind
noncomputable def pts (n:Nat):List Re:=(List.range n).map fun (k:Nat)=>(((k:Int)+1:Int):Re)
theorem wZ (n:Nat):(pts n).Pairwise (·≠·):=by
  refine List.pairwise_map.mpr (List.nodup_range.imp fun h e=>h ?_)
  have:=fu e; (clear h e; omega)
theorem rb:∀ {xs:List Re},(∀ n:Int,0 < n→evl xs n=0)→∀ x∈xs,x=0
  | [],_,_,hx=>nomatch hx
  | c :: xs,h,x,hx=>by
    have h0:∀ t,evl (c :: xs) t=0:=jX (wX _) (by simp [pts]) (wZ (xs.length+1)) (fun r hr=>by
      refine ad (List.mem_map.mp hr) fun k _ zq142=>?_; subst zq142
      exact h _ (by (exact om [k] [] [] (.il (.a (.n 0) (.n 1)) (.a (.c Y0) (.n 1))) [[1]] rfl)))
    have hc:c=0:=by have:=h0 0; rw [fP] at this; grind
    rcases List.mem_cons.mp hx with rfl | hx
    · exact hc
    · exact rb (fun n hn=>aR (x:=(n:Re)) (by have:=h n hn; rw [fP,hc] at this; grind) (cz hn)) x hx
noncomputable def gp (a b:Re):Re→List Re→List Re
  | c,[]=>[c]
  | c,x :: r=>(c+x*a) :: gp a b (x*b) r
theorem uj (a b c x:Re) (r:List Re):gp a b c (x :: r)=(c+x*a) :: gp a b (x*b) r:=rfl
theorem io (a b t:Re):∀ (xs:List Re) (c:Re),evl (gp a b c xs) t=c+(a+b*t)*evl xs t
  | [],c=>by show c+t*0=c+(a+b*t)*0; grind
  | x :: r,c=>by rw [uj,fP,fP,io a b t r]; grind
theorem lP {a b:Re}:∀ {xs:List Re} {c:Re},(gp a b c xs).length=xs.length+1
  | [],_=>rfl
  | x :: r,c=>by rw [uj,List.length_cons,List.length_cons,lP]
noncomputable def UpR (xs:List Re):Prop:=xs.Pairwise fun x y=>0 < x→0≤y
theorem nnR {a b:Re} (ha:0≤a) (hb:0≤b):∀ {xs:List Re} {c:Re},0≤c→(∀ x∈xs,0≤x)→∀ x∈gp a b c xs,0≤x
  | [],c,hc,_,x,hx=>by cases List.mem_singleton.mp hx; exact hc
  | y :: r,c,hc,h,x,hx=>by
    have hy:=h y (.head _)
    rcases List.mem_cons.mp hx with rfl | hx
    · have:=aH hy ha; grind
    · exact nnR ha hb (aH hy hb) (fun z hz=>h z (.tail _ hz)) x hx
theorem kG {x a:Re} (h:0 < x*a) (ha:0 < a):0 < x:=by
  refine Std.not_le.mp fun hx=>?_
  have:=aH (show 0≤-x by grind) (Std.le_of_lt ha)
  grind
theorem UpR.mul {a b:Re} (ha:0 < a) (hb:0 < b):∀ {xs:List Re} {c:Re},UpR (c :: xs)→UpR (gp a b c xs)
  | [],c,_=>List.pairwise_singleton ..
  | x :: r,c,h=>by
    obtain ⟨h1,h2⟩:=List.pairwise_cons.mp h
    obtain ⟨h3,h4⟩:=List.pairwise_cons.mp h2
    have h5:UpR ((x*b) :: r):=List.pairwise_cons.mpr ⟨fun y hy hx=>h3 y hy (kG hx hb),h4⟩
    refine List.pairwise_cons.mpr ⟨fun y hy hx=>?_,UpR.mul ha hb h5⟩
    by_cases h0:0 < c
    · exact nnR (Std.le_of_lt ha) (Std.le_of_lt hb) (aH (h1 x (.head _) h0) (Std.le_of_lt hb)) (fun z hz=>h1 z (.tail _ hz) h0) y hy
    · have hx1:0 < x:=kG (show 0 < x*a by grind) ha
      exact nnR (Std.le_of_lt ha) (Std.le_of_lt hb) (aH (Std.le_of_lt hx1) (Std.le_of_lt hb)) (fun z hz=>h3 z hz hx1) y hy
theorem up0 {xs:List Re} (h:UpR xs):UpR (0 :: xs):=List.pairwise_cons.mpr ⟨fun _ _ hx=>absurd hx (by grind),h⟩
noncomputable def mX (b e s:Re):List Re→Re→Re
  | [],_=>1
  | r :: rs,t=>((b - s*r)+(e - s*r)*t)*mX b e s rs t
theorem eN (b e s r:Re) (rs:List Re) (t:Re):mX b e s (r :: rs) t=((b - s*r)+(e - s*r)*t)*mX b e s rs t:=rfl
theorem pQ (b e s t:Re):mX b e s [] t=1:=rfl
theorem i6 {a b z:Re}:∀ {xs:List Re} {c:Re},xs.getLast?=some z→(gp a b c xs).getLast?=some (z*b)
  | [],_,h=>nomatch h
  | [x],c,h=>by cases h; rfl
  | x :: y :: r,c,h=>by
    have h':(y :: r).getLast?=some z:=h
    exact i6 (xs:=y :: r) (c:=x*b) h'
structure UpL (n:Nat) (m:Re) (M:List Re):Prop where
  up:UpR (m :: M)
  m0:m < 0
  la:∃ z,M.getLast?=some z∧0 < z
  ln:M.length=n+1
theorem UpL.mul {n:Nat} {m a b:Re} {M:List Re} (h:UpL n m M) (ha:0 < a) (hb:0 < b):UpL (n+1) (0+m*a) (gp a b (m*b) M):=by
  refine ad (h.la) fun z hz z0=>?_
  have:=mul_pos (show 0 < -m by have:=h.m0; grind) ha
  exact ⟨UpR.mul ha hb (up0 h.up),by grind,⟨z*b,i6 hz,mul_pos z0 hb⟩,by rw [lP,h.ln]⟩
theorem uq {b e s al:Re} (h1:b < s*al) (h2:s*al < e):∀ {rs:List Re},(∀ r∈rs,s*r < b∨e < s*r)→∃ (m:Re) (M:List Re) (k:Re),UpL rs.length m M∧k≠0∧∀ t,mX b e s (al :: rs) t=k*evl (m :: M) t
  | [],_=>⟨b - s*al,[e - s*al],1,⟨List.pairwise_cons.mpr ⟨fun _ _ hx=>absurd hx (by grind),List.pairwise_singleton ..⟩,by exact xq (h1),⟨_,rfl,by grind⟩,rfl⟩,oG,fun t=>by rw [eN,pQ,fP,fP,CP]; grind⟩
  | r :: rs,h=>by
    refine dQ (uq h1 h2 (rs:=rs) fun x hx=>h x (.tail _ hx)) fun m M k hM hk e1=>?_
    rcases h r (.head _) with g | g
    · refine ⟨_,_,k,hM.mul (a:=b - s*r) (b:=e - s*r) (by exact hV (g)) (by exact hV (sj (sj (g) (h1)) (h2))),hk,fun t=>?_⟩
      have:=e1 t
      rw [eN] at this ⊢
      rw [eN,show ∀ a b:Re,(0+m*a) :: gp a b (m*b) M=gp a b 0 (m :: M) from fun _ _=>rfl,io]; grind
    · refine ⟨_,_,-k,hM.mul (a:=s*r - b) (b:=s*r - e) (by exact hV (sj (sj (h1) (h2)) (g))) (by exact hV (g)),fun h=>hk (by grind),fun t=>?_⟩
      have:=e1 t
      rw [eN] at this ⊢
      rw [eN,show ∀ a b:Re,(0+m*a) :: gp a b (m*b) M=gp a b 0 (m :: M) from fun _ _=>rfl,io]; grind
theorem pB:∀ {L:List Int} {M:List Re} {k:Re},L.length=M.length→(∀ n:Int,0 < n→evR L n=k*evl M n)→L.map (fun x:Int=>(x:Re))=M.map (k*·):=fun {L M k} hl h=>by
  have z:∀ (L:List Int) (M:List Re) (t:Re),L.length=M.length→evl (List.zipWith (fun (x:Int) m=>(x:Re) - k*m) L M) t=evR L t - k*evl M t:=by
    intro L
    induction L with
    | nil=>intro M t hl; cases M with
      | nil=>show (0:Re)=0 - k*0; grind
      | cons _ _=>cases hl
    | cons x L ih=>intro M t hl; cases M with
      | nil=>cases hl
      | cons m M=>rw [List.zipWith_cons_cons,fP,fP,bm,ih M t (Nat.succ.inj hl)]; grind
  have z0:=rb (xs:=List.zipWith (fun (x:Int) m=>(x:Re) - k*m) L M) fun n hn=>by rw [z L M _ hl,h n hn]; grind
  clear z h
  induction L generalizing M with
  | nil=>cases M with
    | nil=>rfl
    | cons _ _=>cases hl
  | cons x L ih=>cases M with
    | nil=>cases hl
    | cons m M =>
      rw [List.map_cons,List.map_cons,ih (Nat.succ.inj hl) fun y hy=>z0 y (.tail _ hy)]
      have:=z0 _ (.head _)
      rw [show (x:Re)=k*m by grind]
theorem xL {L:List Int} {n:Nat} {m k:Re} {M:List Re} (u:UpL n m M) (hk:0 < k) (e:L.map (fun x:Int=>(x:Re))=(m :: M).map (k*·)):tv 0 L=1:=by
  cases L with
  | nil=>cases e
  | cons x r =>
    rw [List.map_cons,List.map_cons] at e
    obtain ⟨e1,e2⟩:=List.cons.inj e
    have hx:x < 0:=n9 (by rw [e1,aE]; have:=mul_pos hk (show 0 < -m by have:=u.m0; grind); grind)
    refine ad (u.la) fun z hz z0=>?_
    have hl:=congrArg List.getLast? e2
    rw [List.getLast?_map,List.getLast?_map,hz] at hl
    refine ad (Option.map_eq_some_iff.mp hl) fun y hy ey=>?_
    have h0:0 < y:=n9 (by rw [ey,aE]; exact mul_pos hk z0)
    have hu:Up r:=by
      have h1:UpR (M.map (k*·)):=List.pairwise_map.mpr ((List.pairwise_cons.mp u.up).2.imp fun {a b} h g=>aH (Std.le_of_lt hk) (h (kG (x:=a) (a:=k) (by grind) hk)))
      rw [← e2] at h1
      exact (List.pairwise_map.mp h1).imp fun {a b} h g=>fJ (by rw [aE]; exact h (by rw [← aE]; exact kg g))
    rw [kR,Int.zero_mul,if_neg (by decide),if_neg (by (exact om [] [x] [(.il (.a Y0 (.n 1)) (.n 0))] (.no (.ie Y0 (.n 0))) [[0,1,1]] rfl hx)),Int.zero_add]
    exact lQ hx hu hy h0
theorem qI {b e s:Re} {P Q x t:Re} (h1:P=b+e*t) (h2:Q=s+s*t) (h3:Q*x=P):∀ rs:List Re,mX b e s rs t=Q ^ rs.length*bS rs x
  | []=>by rw [pQ,a8,List.length_nil]; grind
  | r :: rs=>by rw [eN,aU,qI h1 h2 h3 rs,List.length_cons]; grind
theorem DU {row:List Int} {lo hi al:Re} {p1 q1 p2 q2:Int} (h:RP row lo hi al) (h1:0 < q1) (h2:0 < q2) (e1:(q1:Re)*lo=p1) (e2:(q2:Re)*hi=p2):tv 0 (hs (p1*q2) (p2*q1) (q1*q2) row)=1:=by
  refine ck (h.fa) fun c rs c0 ln _ ho ev=>?_
  have s0:=a6 (Int.mul_pos h1 h2)
  have eb:((p1*q2:Int):Re)=((q1*q2:Int):Re)*lo:=by rw [am,am,← e1]; grind
  have ee:((p2*q1:Int):Re)=((q1*q2:Int):Re)*hi:=by rw [am,am,← e2]; grind
  have lt:∀ x y:Re,x < y→((q1*q2:Int):Re)*x < ((q1*q2:Int):Re)*y:=fun x y g=>by have:=mul_pos s0 (hV g); grind
  refine dQ (uq (b:=((p1*q2:Int):Re)) (e:=((p2*q1:Int):Re)) (s:=((q1*q2:Int):Re)) (al:=al) (rs:=rs) (by rw [eb]; exact lt _ _ h.l) (by rw [ee]; exact lt _ _ h.u) (fun r hr=>(ho r hr).elim (fun g=>.inl (by rw [eb]; exact lt _ _ g)) fun g=>.inr (by rw [ee]; exact lt _ _ g))) fun m M k u k0 hM=>?_
  have hl:(hs (p1*q2) (p2*q1) (q1*q2) row).length=(m :: M).length:=by rw [fS,ln,List.length_cons,u.ln]
  have key:∀ n:Int,0 < n→evR (hs (p1*q2) (p2*q1) (q1*q2) row) n=(c*k)*evl (m :: M) n:=fun n hn=>by
    cases row with
    | nil=>cases ln
    | cons d r =>
      have hQ:0 < q1*q2+q1*q2*n:=by have:=Int.mul_pos h1 h2; have:=Int.mul_pos this hn; (clear h1 h2 e1 e2 c0 ho s0 eb ee lt u k0 hM hn h ln ev hl; omega)
      have v1:=uP n 1 (p1*q2) (p2*q1) (q1*q2) (q1*q2) (xs:=d :: r)
      rw [Int.mul_one,Int.mul_one,← A3] at v1
      have v2:=fV (bG (p:=p1*q2+p2*q1*n) (Int.ne_of_gt hQ)) r d
      have v3:((aW n 1 (hs (p1*q2) (p2*q1) (q1*q2) (d :: r)):Int):Re)=evR (hs (p1*q2) (p2*q1) (q1*q2) (d :: r)) n:=by
        cases hh:hs (p1*q2) (p2*q1) (q1*q2) (d :: r) with
        | nil=>rw [hh] at hl; cases hl
        | cons y w=>rw [fV (t:=(n:Re)) (show ((1:Int):Re)*(n:Re)=n by show (1:Re)*_=_; grind)]; show (1:Re) ^ _*_=_; rw [Lean.Grind.Semiring.one_pow]; grind
      rw [← v3,v1,v2,ev,show r.length=(al :: rs).length from Nat.succ.inj ln]
      have v4:=qI (b:=((p1*q2:Int):Re)) (e:=((p2*q1:Int):Re)) (s:=((q1*q2:Int):Re)) (t:=(n:Re)) (by rw [bE,am (p2*q1)]) (by rw [bE,am (q1*q2)]) (bG (p:=p1*q2+p2*q1*n) (Int.ne_of_gt hQ)) (al :: rs)
      rw [hM n,aU] at v4
      grind
  have hk:=aQ c0 k0
  rcases aI (c*k) with g | g | g
  · exact xL u g (pB hl key)
  · have:=t9 (g:=-1) (by decide) (hs (p1*q2) (p2*q1) (q1*q2) row) 0
    rw [Int.mul_zero] at this
    rw [← this]
    refine xL (k:=-(c*k)) u (by grind) (pB (by rw [bQ,hl]) fun n hn=>?_)
    rw [cS,key n hn,cC]; show -(1:Re)*_=_; grind
  · exact absurd g hk
end Mine
namespace Mine
open Re
noncomputable def PX (f:Re→Re):Prop:=∃ n,PR n f
theorem PR.mono {f:Re→Re} {n:Nat} (h:PR n f):∀ k,PR (n+k) f
  | 0=>h
  | k+1=>(PR.mono h k).up
theorem PX.lin {f g:Re→Re} (r:Re) (hf:PX f) (hg:PX g):PX fun t=>f t+r*g t:=by
  obtain ⟨n,hf⟩:=hf
  obtain ⟨m,hg⟩:=hg
  exact ⟨n+m,PR.lin r (hf.mono m) (Nat.add_comm m n ▸ hg.mono n)⟩
theorem PX.const (c:Re):PX fun _=>c:=⟨1,c,fun _=>0,fun _=>rfl,fun t=>by grind⟩
theorem PX.tmul {f:Re→Re} (h:PX f):PX fun t=>t*f t:=by
  obtain ⟨n,h⟩:=h
  exact ⟨n+1,0,f,h,fun t=>by grind⟩
theorem PX.of {f g:Re→Re} (h:PX f) (e:∀ t,f t=g t):PX g:=(funext e:f=g) ▸ h
theorem PX.mulr {g:Re→Re} (hg:PX g):∀ {n:Nat} {f:Re→Re},PR n f→PX fun t=>f t*g t
  | 0,f,hf=>(PX.const 0).of fun t=>by rw [hf t]; grind
  | n+1,f,⟨c,k,hk,e⟩=>(PX.lin c (PX.mulr hg hk).tmul hg).of fun t=>by rw [e]; grind
theorem PX.mul {f g:Re→Re} (hf:PX f) (hg:PX g):PX fun t=>f t*g t:=by
  obtain ⟨n,hf⟩:=hf
  exact PX.mulr hg hf
theorem PX.x (r:Re):PX fun t=>t - r:=(PX.lin (-r) (PX.const 1).tmul (PX.const 1)).of fun t=>by grind
theorem dN (xs:List Int):PX (evR xs):=⟨_,pW xs⟩
theorem oU:∀ rs:List Re,PX (bS rs)
  | []=>PX.const 1
  | r :: rs=>(PX.x r).mul (oU rs)
theorem PX.cut {f:Re→Re} {u:Re} (h:PX f) (h0:f u=0):∃ g,PX g∧∀ t,f t=(t - u)*g t:=by
  obtain ⟨n,h⟩:=h
  refine ad (h.up.fac u) fun g hg e=>?_
  exact ⟨g,⟨n,hg⟩,fun t=>by rw [e,h0]; grind⟩
theorem PX.at {f g:Re→Re} {u:Re} (hf:PX f) (hg:PX g) (h:∀ t,t≠u→f t=g t):f u=g u:=by
  obtain ⟨n,hd⟩:=PX.lin (-1) hf hg
  have:=jX (rs:=(pts n).map (u+·)) hd (by simp [pts]) (List.pairwise_map.mpr ((wZ n).imp fun h e=>h (by grind))) (fun r hr=>by
    refine ad (List.mem_map.mp hr) fun k hk zq144=>?_; subst zq144
    refine ad (List.mem_map.mp hk) fun j _ zq143=>?_; subst zq143
    have:=cz (show 0 < (j:Int)+1 by (exact om [j] [] [] (.il (.a (.n 0) (.n 1)) (.a (.c Y0) (.n 1))) [[1]] rfl))
    rw [h _ (fun e=>this (by grind))]; grind) u
  grind
theorem PX.cancel {f g:Re→Re} {u:Re} (hf:PX f) (hg:PX g) (h:∀ t,(t - u)*f t=(t - u)*g t):f u=g u :=
  hf.at hg fun t ht=>eZ (a:=t - u) (fun e=>ht (by grind)) (h t)
noncomputable def dR:List Int→Re→Re
  | [],_=>0
  | _ :: r,t=>evR r t+t*dR r t
theorem uB (x:Int) (r:List Int) (t:Re):dR (x :: r) t=evR r t+t*dR r t:=rfl
noncomputable def wR:List Int→Re→Re→Re
  | [],_,_=>0
  | _ :: r,u,t=>dR r u+t*wR r u t
theorem xT (x:Int) (r:List Int) (u t:Re):wR (x :: r) u t=dR r u+t*wR r u t:=rfl
theorem nE (u t:Re):∀ xs:List Int,evR xs t=evR xs u+(t - u)*dR xs u+(t - u)*((t - u)*wR xs u t)
  | []=>by show (0:Re)=0+(t - u)*0+(t - u)*((t - u)*0); grind
  | c :: xs=>by rw [bm,bm,uB,xT,nE u t xs]; grind
theorem xK (t:Re):∀ (r:List Int) (k:Int),evR (sl k r) t=k*evR r t+t*dR r t
  | [],k=>by show (0:Re)=k*0+t*0; grind
  | x :: r,k=>by rw [Do,bm,bm,uB,xK t r,am,bE,show ((1:Int):Re)=1 from rfl]; grind
theorem x9:∀ xs:List Int,PX (dR xs)
  | []=>PX.const 0
  | c :: r=>(PX.lin 1 (dN r) (x9 r).tmul).of fun t=>by rw [uB]; grind
theorem Bk (t:Re):∀ xs:List Int,PX fun u=>wR xs u t
  | []=>PX.const 0
  | c :: r=>(PX.lin t (x9 r) (Bk t r)).of fun u=>by rw [xT]
theorem xA (u:Re):∀ xs:List Int,PX (wR xs u)
  | []=>PX.const 0
  | c :: r=>(PX.lin 1 (PX.const (dR r u)) (xA u r).tmul).of fun t=>by rw [xT]; grind
theorem kn {xs:List Int} {u c:Re} {g:Re→Re} (hc:c≠0) (hg:PX g) (h:∀ t,c*evR xs t=(t - u)*g t):c*dR xs u=g u:=by
  have h0:evR xs u=0:=aR (by rw [h]; grind) hc
  have:=PX.cancel (u:=u) (g:=g) ((PX.lin c (PX.const (c*dR xs u)) ((PX.x u).mul (xA u xs))).of fun t=>rfl) hg (fun t=>by rw [← h,nE u t xs,h0]; grind)
  grind
theorem ut {u t x y:Re} (ht:t≠u) (h:(t - u)*((t - u)*x)=(t - u)*((t - u)*y)):x=y:=by
  have hn:t - u≠0:=fun e=>ht (by grind)
  exact eZ hn (eZ hn h)
theorem ym {xs:List Int} {u c:Re} {g:Re→Re} (hc:c≠0) (hg:PX g) (h:∀ t,c*evR xs t=(t - u)*((t - u)*g t)):∃ k,PX k∧(∀ t,dR xs t=(t - u)*k t)∧c*k u=2*g u:=by
  have h0:evR xs u=0:=aR (by rw [h]; grind) hc
  have d0:dR xs u=0:=aR (by rw [kn hc ((PX.x u).mul hg) h]; grind) hc
  refine ad ((x9 xs).cut (u:=u) d0) fun k hk ek=>?_
  refine ⟨k,hk,ek,?_⟩
  have e1:c*k u=g u+c*wR xs u u:=PX.at (u:=u) ((PX.const c).mul hk) (PX.lin c hg (Bk u xs)) (fun t ht=>ut ht (by
    have:=nE t u xs
    have h2:=h t
    rw [h0,ek t] at this
    grind))
  have e2:c*wR xs u u=g u:=PX.at (u:=u) ((PX.const c).mul (xA u xs)) hg (fun t ht=>ut ht (by
    have:=nE u t xs
    rw [h0,d0] at this
    rw [← h t,this]; grind))
  rw [e1,e2]; grind
noncomputable def R1 (f:Re→Re) (u:Re):Prop:=∃ c g,c≠0∧PX g∧g u≠0∧∀ t,c*f t=(t - u)*g t
noncomputable def R2 (f:Re→Re) (u:Re):Prop:=∃ c g,c≠0∧PX g∧g u≠0∧∀ t,c*f t=(t - u)*((t - u)*g t)
theorem R1.scale {f k:Re→Re} {u s:Re} (h:R1 f u) (hs:s≠0) (e:∀ t,f t=s*k t):R1 k u:=by
  refine eC (h) fun c g hc pg g0 k=>?_
  exact ⟨c*s,g,aQ hc hs,pg,g0,fun t=>by rw [← k,e]; grind⟩
theorem R2.scale {f k:Re→Re} {u s:Re} (h:R2 f u) (hs:s≠0) (e:∀ t,f t=s*k t):R2 k u:=by
  refine eC (h) fun c g hc pg g0 k=>?_
  exact ⟨c*s,g,aQ hc hs,pg,g0,fun t=>by rw [← k,e]; grind⟩
section
variable {c:Int} {r x h E U W:List Int} {c2 c3:Int}
theorem xF (t:Re):evR (sl 1 r) t=dR (c :: r) t:=by rw [xK,uB,show ((1:Int):Re)=1 from rfl]; grind
theorem wT {u:Re} (e:∀ s,evR (c :: r) s=evR x s*evR h s) (hc2:c2≠0) (e2:∀ s,(c2:Re)*evR (sl 1 r) s=evR x s*evR E s) (hu:R1 (evR (c :: r)) u∨R2 (evR (c :: r)) u):evR h u=0:=by
  have hf:evR (c :: r) u=0:=by rcases hu with ⟨c,g,hc,_,_,k⟩ | ⟨c,g,hc,_,_,k⟩ <;> exact aR (by rw [k]; grind) hc
  have c2':=dX hc2
  refine Classical.byContradiction fun hn=>?_
  have x0:evR x u=0:=aR (x:=evR h u) (by rw [e] at hf; grind) hn
  rcases hu with ⟨k0,g,hc,pg,g0,k⟩ | ⟨k0,g,hc,pg,g0,k⟩
  · have d:=e2 u
    rw [x0,xF (c:=c)] at d
    refine g0 ?_
    rw [← kn hc pg k,aR (x:=(c2:Re)) (y:=dR _ u) (by grind) c2']; grind
  · refine bU (ym hc pg k) fun q pq eq q0=>?_
    refine ad ((dN x).cut x0) fun x1 p1 e1=>?_
    have x1z:x1 u=0:=aR (x:=k0*evR h u) (by
      have:=PX.cancel (u:=u) ((PX.const k0).mul (p1.mul (dN h))) ((PX.x u).mul pg) (fun t=>by rw [← k,e,e1]; grind)
      grind) (aQ hc hn)
    refine ad (p1.cut x1z) fun x2 p2 e3=>?_
    have:(c2:Re)*q u=(u - u)*(x2 u*evR E u):=PX.cancel (u:=u) ((PX.const (c2:Re)).mul pq) ((PX.x u).mul (p2.mul (dN E))) (fun t=>by
      have:=e2 t
      rw [xF (c:=c),eq,e1,e3] at this; grind)
    have:=aR (x:=(c2:Re)) (y:=q u) (by rw [this]; grind) c2'
    rw [this] at q0
    exact g0 (by grind)
theorem xH {u:Re} (hc3:c3≠0) (e3:∀ s,(c3:Re)*evR x s=evR U s*evR (c :: r) s+evR W s*evR (sl 1 r) s) (hu:R2 (evR (c :: r)) u):evR x u=0:=by
  refine eC (hu) fun c' g hc pg g0 k=>?_
  have d:dR (c :: r) u=0:=aR (by rw [kn hc ((PX.x u).mul pg) k]; grind) hc
  have f:evR (c :: r) u=0:=aR (by rw [k]; grind) hc
  have:=e3 u
  rw [xF (c:=c),d,f] at this
  exact aR (x:=(c3:Re)) (by rw [this]; grind) (dX hc3)
end
theorem xZ {xs:List Int} {rs:List Re} (h:Tr xs) (hp:rs.Pairwise (·≠·)) (h0:∀ r∈rs,evR xs r=0):rs.length+1≤xs.length:=by
  refine Nat.lt_of_not_le fun hle=>?_
  have z:=jX (rs:=rs.take xs.length) (pW xs) (by rw [List.length_take,Nat.min_eq_left hle]) (hp.sublist (List.take_sublist ..)) (fun r hr=>h0 r (List.mem_of_mem_take hr))
  obtain ⟨t,ht⟩:=h.nz
  refine ht (fu ?_)
  cases xs with
  | nil=>exact absurd rfl h.ne
  | cons d w =>
    show ((aW t 1 (d :: w):Int):Re)=_
    rw [fV (t:=(t:Re)) (show ((1:Int):Re)*(t:Re)=t by show (1:Re)*_=_; grind),z,aE]; grind
theorem oJ:∀ {rs:List Re} {f:Re→Re},PR (rs.length+1) f→rs.Pairwise (·≠·)→(∀ r∈rs,f r=0)→∃ k,∀ t,f t=k*bS rs t
  | [],f,⟨c,g,hg,e⟩,_,_=>⟨c,fun t=>by rw [e,hg,a8]; grind⟩
  | r :: rs,f,hf,hp,h=>by
    refine ad (PR.fac r hf) fun g hg e=>?_
    have h0:=h r (.head _)
    have hp':=List.pairwise_cons.mp hp
    obtain ⟨k,ek⟩:=oJ hg hp'.2 (fun x hx=>aR (x:=x - r) (by have:=e x; rw [h x (.tail _ hx),h0] at this; grind) (fun k=>hp'.1 x hx (by grind)))
    exact ⟨k,fun t=>by rw [e,h0,ek,aU]; grind⟩
noncomputable def gD:List Re→List Re
  | []=>[1]
  | r :: rs=>gp (-r) 1 0 (gD rs)
theorem lX (r:Re) (rs:List Re):gD (r :: rs)=gp (-r) 1 0 (gD rs):=rfl
theorem mO (t:Re):∀ rs:List Re,evl (gD rs) t=bS rs t
  | []=>by show (1:Re)+t*0=1; grind
  | r :: rs=>by rw [lX,io,mO t rs,aU]; grind
theorem nq:∀ rs:List Re,(gD rs).length=rs.length+1
  | []=>rfl
  | r :: rs=>by rw [lX,lP,nq rs,List.length_cons]
theorem kC:∀ rs:List Re,(gD rs).getLast?=some 1
  | []=>rfl
  | r :: rs=>by rw [lX,i6 (kC rs)]; congr 1; grind
theorem ud {a:Re} {B C:Int} (ha:ab a≤(B:Re)) (hB:0≤B) (hC:0≤C):∀ {xs:List Re} {c:Re},ab c≤(C:Re)→(∀ x∈xs,ab x≤(C:Re))→∀ y∈gp a 1 c xs,ab y≤((C+C*B:Int):Re)
  | [],c,hc,_,y,hy=>by cases List.mem_singleton.mp hy; exact jP hc (by have:=Int.mul_nonneg hC hB; (exact om [] [C,C*B] [(.il (.n 0) Y1)] (.il Y0 (.a Y0 Y1)) [[1,1]] rfl this))
  | x :: r,c,hc,h,y,hy=>by
    have hx:=h x (.head _)
    rcases List.mem_cons.mp hy with rfl | hy
    · exact rM hc (d9 hx ha)
    · exact ud ha hB hC (by rw [show x*1=x by grind]; exact hx) (fun z hz=>h z (.tail _ hz)) y hy
theorem pO {B:Int} (hB:0≤B):∀ {rs:List Re},(∀ r∈rs,ab r≤(B:Re))→∀ y∈gD rs,ab y≤(((1+B) ^ rs.length:Int):Re)
  | [],_,y,hy=>by cases List.mem_singleton.mp hy; rw [List.length_nil,Int.pow_zero]; exact cT (n:=1) (by decide) (by decide)
  | r :: rs,h,y,hy=>by
    have:=ud (a:=-r) (C:=(1+B) ^ rs.length) (by rw [yI]; exact h r (.head _)) hB (Int.le_of_lt (cV (by (exact om [] [B] [(.il (.n 0) Y0)] (.il (.a (.n 0) (.n 1)) (.a (.n 1) Y0)) [[1,1]] rfl hB)) _)) (xs:=gD rs) (c:=0) (cT (n:=0) (by have:=cV (q:=1+B) (by (exact om [] [B] [(.il (.n 0) Y0)] (.il (.a (.n 0) (.n 1)) (.a (.n 1) Y0)) [[1,1]] rfl hB)) rs.length; (exact om [] [(1+B) ^ rs.length] [(.il (.a (.n 0) (.n 1)) Y0)] (.il (.g Y0) (.n 0)) [[1,1]] rfl this)) (Int.le_of_lt (cV (by (exact om [] [B] [(.il (.n 0) Y0)] (.il (.a (.n 0) (.n 1)) (.a (.n 1) Y0)) [[1,1]] rfl hB)) _))) (pO hB fun x hx=>h x (.tail _ hx)) y hy
    rw [show (1+B) ^ (r :: rs).length=(1+B) ^ rs.length+(1+B) ^ rs.length*B by rw [List.length_cons,Int.pow_succ,Int.mul_add,Int.mul_one]]
    exact this
theorem ri {xs:List Int} {rs:List Re} {k:Re} {l:Int} (e:∀ t,evR xs t=k*bS rs t) (hl:xs.length=rs.length+1) (la:xs.getLast?=some l):xs.map (fun x:Int=>(x:Re))=(gD rs).map (k*·)∧k=l:=by
  have em:=pB (L:=xs) (M:=gD rs) (k:=k) (by rw [hl,nq]) (fun t _=>by rw [e,mO])
  refine ⟨em,?_⟩
  have:=congrArg List.getLast? em
  rw [List.getLast?_map,List.getLast?_map,kC,la] at this
  have:=Option.some.inj this
  grind
theorem row_sm {xs:List Int} {rs:List Re} {k:Re} {B l:Int} {K n:Nat} (e:∀ t,evR xs t=k*bS rs t) (hl:xs.length=rs.length+1) (la:xs.getLast?=some l) (sl:Sm K l) (hB:0≤B) (h:∀ r∈rs,ab r≤(B:Re)) (sB:Sm n (1+B)):AllSm (K+(n*rs.length+1)) xs:=by
  obtain ⟨em,ek⟩:=ri e hl la
  intro x hx
  have hx':=List.mem_map_of_mem (f:=fun x:Int=>(x:Re)) hx
  rw [em] at hx'
  refine ad (List.mem_map.mp hx') fun y hy ey=>?_
  have b1:=d9 (x:=(l:Re)) (y:=y) (c:=(l.natAbs:Int)) (cT (by (exact om [l.natAbs] [l] [(.an (.il Y0 (.c Y0)) (.il (.g Y0) (.c Y0)))] (.il (.g (.c Y0)) Y0) [[1,0,1]] rfl (c5 (l)))) (by (exact om [l.natAbs] [l] [(.an (.il Y0 (.c Y0)) (.il (.g Y0) (.c Y0)))] (.il Y0 (.c Y0)) [[1,1]] rfl (c5 (l))))) (pO hB h y hy)
  rw [← ek,ey] at b1
  have b2:=jw (x:Re)
  have i1:x≤(l.natAbs:Int)*(1+B) ^ rs.length:=fJ (l8 b2.1 b1)
  have i2:-x≤(l.natAbs:Int)*(1+B) ^ rs.length:=fJ (by rw [cC]; exact l8 b2.2 b1)
  have s0:Sm K (l.natAbs:Int):=by unfold Sm at *; (exact om [(↑l.natAbs:Int).natAbs,l.natAbs,2 ^ K] [] [(.le (.a Y1 (.n 1)) Y2),(.or (.an (.il (.n 0) (.c Y1)) (.ie (.c Y0) (.c Y1))) (.an (.il (.c Y1) (.n 0)) (.ie (.c Y0) (.g (.c Y1)))))] (.le (.a Y0 (.n 1)) Y2) [[1,1,0,1]] rfl sl (bT ((↑l.natAbs:Int))))
  refine (s0.mul (sB.pow rs.length)).of_le ?_
  (exact om [x.natAbs,((↑l.natAbs:Int)*(1+B) ^ rs.length).natAbs] [x,(↑l.natAbs:Int)*(1+B) ^ rs.length] [(.il Y0 Y1),(.il (.g Y0) Y1),(.an (.il Y1 (.c Y1)) (.il (.g Y1) (.c Y1))),(.or (.an (.il (.n 0) Y0) (.ie (.c Y0) Y0)) (.an (.il Y0 (.n 0)) (.ie (.c Y0) (.g Y0))))] (.le Y0 Y1) [[1,1,0,1,0,0,1],[1,0,1,1,0,0,1]] rfl i1 i2 (c5 ((↑l.natAbs:Int)*(1+B) ^ rs.length)) (bT (x)))
end Mine
set_option maxRecDepth 100000
namespace Mine
open PySem Re
structure PlO (K:Nat) (us:List Re) (R:List Int):Prop where
  la:∃ l,R.getLast?=some l∧0 < l
  one:bB R 0=1
  ln:R.length=us.length+1
  ev:∃ k:Re,k≠0∧∀ t,evR R t=k*bS us t
  sm:AllSm K R
section
variable {sub:Nat→Nat→Bool} {P:List Fn} {f n dv tr re wl ro qu co sp:Nat} {H:Hp} {Q:V→Hp→Prop} {X:Nat→Hp→Prop}
end
end Mine
namespace Mine
open Re
section
variable (x y z w:Re)
end
section
variable (a b c d:Re)
end
end Mine
set_option maxRecDepth 100000
namespace Mine
open PySem Re
noncomputable def Pv (k:Nat) (x:Re) (v:V):Prop:=∃ p q:Int,v=pt p q∧Low k p q∧(q:Re)*x=p
theorem Pv.mono {k l:Nat} {x:Re} {v:V} (h:Pv k x v) (hl:k≤l):Pv l x v:=by
  refine aJ (h) fun p q e L hx=>?_
  exact ⟨p,q,e,L.mono hl,hx⟩
theorem Pv.eq {k:Nat} {x y:Re} {v:V} (h:Pv k x v) (e:x=y):Pv k y v:=e ▸ h
theorem Pv.whole {k:Nat} {c:Int} (h:Sm (k+1) c):Pv (k+1) (c:Re) (pt c 1):=⟨c,1,rfl,⟨h,Sm.one,by decide,Int.gcd_one⟩,by show (1:Re)*_=_; grind⟩
theorem kI {p1 q1 p2 q2 p q:Int} {x y:Re} (h1:0 < q1) (h2:0 < q2) (e1:(q1:Re)*x=p1) (e2:(q2:Re)*y=p2) (e:p*(q1*q2)=(p1*p2)*q):(q:Re)*(x*y)=p:=by
  have:=congrArg (fun n:Int=>(n:Re)) e
  simp only [am] at this
  rw [← e1,← e2] at this
  exact eZ (aQ (cz h1) (cz h2)) (by grind)
section
variable {sub:Nat→Nat→Bool} {P:List Fn} {f n dv pa ps pr ta:Nat} {H:Hp} {Q:V→Hp→Prop} {X:Nat→Hp→Prop}
theorem wQ (e:P[ps]?=some ⟨2,2,eK pa⟩) (ep:P[pa]?=some ⟨2,3,bL dv⟩) (ed:P[dv]?=some ⟨2,3,bW⟩) {k l:Nat} {x y:Re} {v w:V} (a1:Pv k x v) (a2:Pv l y w) (hk:k+l+1≤100000)
    (hQ:∀ u,Pv (k+l+1) (x+y) u→Q u H):aj sub P (n+3) ps [v,w] H Q X:=by
  refine aJ (a1) fun p1 q1 zq121 L1 e1=>?_; subst zq121
  refine aJ (a2) fun p2 q2 zq120 L2 e2=>?_; subst zq120
  exact rQ e ep ed L1 L2 hk fun p q L hp=>hQ _ ⟨p,q,rfl,L,eY L1.pos L2.pos e1 e2 hp⟩
theorem t8 (e:P[pr]?=some ⟨2,2,cH pa⟩) (ep:P[pa]?=some ⟨2,3,bL dv⟩) (ed:P[dv]?=some ⟨2,3,bW⟩) {k l:Nat} {x y:Re} {v w:V} (a1:Pv k x v) (a2:Pv l y w) (hk:k+l≤100000)
    (hQ:∀ u,Pv (k+l) (x*y) u→Q u H):aj sub P (n+3) pr [v,w] H Q X:=by
  refine aJ (a1) fun p1 q1 zq119 L1 e1=>?_; subst zq119
  refine aJ (a2) fun p2 q2 zq118 L2 e2=>?_; subst zq118
  exact nL e ep ed L1.top L1.bot L1.pos L2.top L2.bot L2.pos hk fun p q L hp=>hQ _ ⟨p,q,rfl,L,kI L1.pos L2.pos e1 e2 hp⟩
noncomputable def PvL (b:Nat→Nat) (x:Nat→Re) (m:Nat) (vs:List V):Prop:=vs.length=m∧∀ i,i < m→∃ v,vs[i]?=some v∧Pv (b i) (x i) v
theorem PvL.snoc {b:Nat→Nat} {x:Nat→Re} {m:Nat} {vs:List V} {v:V} (h:PvL b x m vs) (hv:Pv (b m) (x m) v):PvL b x (m+1) (vs++[v]):=by
  obtain ⟨h1,h2⟩:=h
  refine ⟨by rw [List.length_append,h1]; rfl,fun i hi=>?_⟩
  by_cases g:i=m
  · subst g; exact ⟨v,by rw [← h1]; exact ag _ _ _,hv⟩
  · refine ad (h2 i (by clear h2 hv; (exact om [i,m] [] [(.le (.a Y0 (.n 1)) (.a Y1 (.n 1))),(.no (.eq Y0 Y1))] (.le (.a Y0 (.n 1)) Y1) [[1,0,1],[0,1,1]] rfl hi g))) fun w hw p=>?_
    exact ⟨w,ao (ah _ _) hw,p⟩
theorem zu {vs:List V} {a:Nat} {k:Int} {v:V} {H:Hp} {Q:V→Prop} (ha:H[a]?=some vs) (hk:0≤k) (hv:vs[k.toNat]?=some v) (hQ:Q v):ifSome H[a]? fun xs=>ifSome (cv xs.length k) fun i=>ifSome xs[i]? fun v=>Q v:=by
  have hl:=(List.getElem?_eq_some_iff.mp hv).1
  refine ifSome.mk ha (ifSome.mk (v:=k.toNat) ?_ (ifSome.mk hv hQ))
  unfold cv; rw [if_pos hk,if_pos (by clear ha hv hQ; exact om [vs.length,k.toNat] [k] [(.le (.a Y1 (.n 1)) Y0),(.il Y0 (.c Y1))] (.il (.a Y0 (.n 1)) (.c Y0)) [[1,1,1]] rfl hl (Int.self_le_toNat (k)))]
end
noncomputable def fb (i:Nat):Nat:=100*2 ^ i
noncomputable def p2 (a b:Re) (k:Nat):Re:=a ^ k+b ^ k
section
variable {c0 c1 c2:Int} {a b:Re}
theorem Ea (h1:(c1:Re)=-((c2:Re)*(a+b))):(c2:Re)*p2 a b 1=-(0+((1*c1:Int):Re)):=by rw [Int.one_mul,h1]; unfold p2; grind
theorem D4 (h1:(c1:Re)=-((c2:Re)*(a+b))) (h0:(c0:Re)=(c2:Re)*(a*b)):(c2:Re)*p2 a b 2=-(0+(c1:Re)*p2 a b 1+((2*c0:Int):Re)):=by
  rw [am,h1,h0]; unfold p2; show _=-(_+(2:Re)*_); grind
theorem Ee (h1:(c1:Re)=-((c2:Re)*(a+b))) (h0:(c0:Re)=(c2:Re)*(a*b)) (k:Nat):(c2:Re)*p2 a b (k+2)=-(0+(c1:Re)*p2 a b (k+1)+(c0:Re)*p2 a b k):=by
  rw [h1,h0]; unfold p2; grind
end
end Mine
set_option maxRecDepth 100000
namespace Mine
open PySem Re
noncomputable def yN (pa pr:Nat):PS:=(.seq (.app 3 (.call pr (.cons (.var 5) (.cons (.call pa (.cons (.neg (.cint 1)) (.cons (.idx (.var 0) (.var 2)) .nil))) .nil))))
 .skip)
noncomputable def pK (ps pr:Nat):PS:=(.seq (.ite (.cmp .eq (.var 6) (.var 4)) (.seq (.assign 5 (.call ps (.cons (.var 5) (.cons (.tup (.cons (.bin .mul (.var 4) (.idx (.var 0) (.bin .sub (.var 2) (.var 6)))) (.cons (.cint 1) .nil))) .nil))))
 .skip) (.seq (.assign 5 (.call ps (.cons (.var 5) (.cons (.call pr (.cons (.tup (.cons (.idx (.var 0) (.bin .sub (.var 2) (.var 6))) (.cons (.cint 1) .nil))) (.cons (.idx (.var 3) (.bin .sub (.var 4) (.var 6))) .nil))) .nil))))
 .skip))
 .skip)
noncomputable def xU (pa ps pr : Nat) : PS := (.seq (.assign 5 (.glob (Str.ofString "NOUGHT") 0 1))
 (.seq (.forr 6 (.rng (.cons (.cint 1) (.cons (.bin .add (.bi .min (.cons (.var 4) (.cons (.var 2) .nil))) (.cint 1)) .nil))) (pK ps pr))
 (yN pa pr)))
noncomputable def BD (pa ps pr:Nat):PS:=(.seq (.assign 2 (.bin .sub (.bi .len (.cons (.var 0) .nil)) (.cint 1)))
 (.seq (.assign 3 (.lst (.cons (.call pa (.cons (.var 2) (.cons (.cint 1) .nil))) .nil)))
 (.seq (.forr 4 (.rng (.cons (.cint 1) (.cons (.bin .add (.var 1) (.cint 1)) .nil))) (xU pa ps pr))
 (.seq (.ret (.var 3)) .skip))))
noncomputable abbrev rJ (c0 c1 c2:Int):V:=.tup [.int c0,.int c1,.int c2]
section
variable {sub:Nat→Nat→Bool} {P:List Fn} {f n dv pa ps pr ta:Nat} {H:Hp} {Q:V→Hp→Prop} {X:Nat→Hp→Prop} {W:Nat→Prop} {NN:Loc→Hp→Prop} {R:V→Hp→Prop} {Y:Nat→Hp→Prop}
theorem AM (e:P[ps]?=some ⟨2,2,eK pa⟩) (ep:P[pa]?=some ⟨2,3,bL dv⟩) (ed:P[dv]?=some ⟨2,3,bW⟩) {rv t:V} {o1 o3:Option V} {w c:Int} {b:Nat} {x:Re} (ht:Pv b x t) (hi:∀ Z:V→Hp→Prop,Z (.int c) H→cU rv (.int (2 - w)) H Z) (sw:Sm 3 w) (sc:Sm 60 c) (hb:b≤2000)
    (hN:∀ t',Pv (b+63+1) (x+((w*c:Int):Re)) t'→NN [some rv,o1,some (.int 2),o3,some (.int w),some t',some (.int w)] H) :
    wpS sub (aj sub P (n+3)) W (pK ps pr) [some rv,o1,some (.int 2),o3,some (.int w),some t,some (.int w)] H NN R Y:=by
  dsimp only [pK,qS1,qS2,qS3,bj,qE1,qE5,qE8,bh,aO,aY,cJ,aC,aD,cM,gi,aZ,ac,af,au]
  rw [decide_eq_true rfl]
  dsimp only [bu]
  refine hi _ ?_
  refine ⟨ok6 sw sc,?_⟩
  exact wQ e ep ed ht (Pv.whole (k:=62) (sw.mul sc)) (by clear hi hN; (exact lin [b] [(1,Y0,(.n 2000))] (.a (.a Y0 (.a (.n 62) (.n 1))) (.n 1)) (.n 100000) rfl hb)) hN
theorem xQ (e:P[ps]?=some ⟨2,2,eK pa⟩) (er:P[pr]?=some ⟨2,2,cH pa⟩) (ep:P[pa]?=some ⟨2,3,bL dv⟩) (ed:P[dv]?=some ⟨2,3,bW⟩) {rv t u:V} {o1:Option V} {m:Nat} {w k c:Int} {b l:Nat} {x y:Re} (ht:Pv b x t) (hk:k≠w) (hi:∀ Z:V→Hp→Prop,Z (.int c) H→cU rv (.int (2 - k)) H Z) (hf:∀ Z:V→Prop,Z u→ifSome H[m]? fun xs=>ifSome (cv xs.length (w - k)) fun i=>ifSome xs[i]? fun v=>Z v) (hu:Pv l y u) (sc:Sm 60 c) (hb:b≤4000) (hl:l≤4000)
    (hN:∀ t',Pv (b+(60+l)+1) (x+(c:Re)*y) t'→NN [some rv,o1,some (.int 2),some (.lst m),some (.int w),some t',some (.int k)] H) :
    wpS sub (aj sub P (n+3)) W (pK ps pr) [some rv,o1,some (.int 2),some (.lst m),some (.int w),some t,some (.int k)] H NN R Y:=by
  dsimp only [pK,qS1,qS2,qS3,bj,qE1,qE5,qE8,bh,aO,aY,cJ,aC,aD,cM,gi,cy,aZ,ac,af,au]
  rw [decide_eq_false hk]
  dsimp only [bR]
  refine hi _ ?_
  refine hf _ ?_
  refine t8 er ep ed (Pv.whole (k:=59) sc) hu (by clear hi hf hN; (exact lin [l] [(1,Y0,(.n 4000))] (.a (.a (.n 59) (.n 1)) Y0) (.n 100000) rfl hl)) fun t1 h1=>?_
  exact wQ e ep ed ht h1 (by clear hi hf hN; (exact lin [b,l] [(1,Y0,(.n 4000)),(1,Y1,(.n 4000))] (.a (.a Y0 (.a (.a (.n 59) (.n 1)) Y1)) (.n 1)) (.n 100000) rfl hb hl)) hN
theorem s8 (er:P[pr]?=some ⟨2,2,cH pa⟩) (ep:P[pa]?=some ⟨2,3,bL dv⟩) (ed:P[dv]?=some ⟨2,3,bW⟩) {c0 c1 c2:Int} {t:V} {o1 o4 o6:Option V} {vs:List V} {m w b:Nat} {x:Re} {z:Nat→Re} (hm:H[m]?=some vs) (hW:W m) (hv:PvL fb z w vs) (hw:w≤4) (ht:Pv b x t) (h2:0 < c2) (s2:Sm 60 c2) (hx:(c2:Re)*z w=-x) (hb:b+60≤fb w) (hb':b≤4000)
    (hN:∀ vs',PvL fb z (w+1) vs'→NN [some (rJ c0 c1 c2),o1,some (.int 2),some (.lst m),o4,some t,o6] (H.set m vs')) :
    wpS sub (aj sub P (n+3)) W (yN pa pr) [some (rJ c0 c1 c2),o1,some (.int 2),some (.lst m),o4,some t,o6] H NN R Y:=by
  dsimp only [yN,qS1,qS2,qS6,qE1,qE5,qE9,aO,aY,aC,aD,iD,ac,cl,af]
  refine ⟨hW,?_⟩
  refine z7 ep ed h2 (k:=60) (by unfold Sm; decide) s2 (by decide) fun p q L hp=>?_
  have hq:(q:Re)*rq (-1) c2=p:=wW h2 hp
  have hv2:=bG (p:=-1) (Int.ne_of_gt h2)
  refine t8 er ep ed ht ⟨p,q,rfl,L,hq⟩ (by clear hN; (exact lin [b] [(1,Y0,(.n 4000))] (.a Y0 (.n 60)) (.n 100000) rfl hb')) fun t1 h1=>?_
  refine ifSome.mk hm ⟨by rw [hv.1]; unfold lim; clear hN; (exact lin [w] [(1,Y0,(.n 4))] (.a Y0 (.n 1)) (.n 1000000) rfl hw),hN _ (hv.snoc ((h1.mono hb).eq ?_))⟩
  have hc:=cz h2
  refine eZ hc ?_
  rw [hx]
  rw [cC] at hv2
  have:(c2:Re)*(x*rq (-1) c2)=x*((c2:Re)*rq (-1) c2):=by grind
  rw [this,hv2]; show x*-1=_; grind
theorem jQ (e:P[ps]?=some ⟨2,2,eK pa⟩) (er:P[pr]?=some ⟨2,2,cH pa⟩) (ep:P[pa]?=some ⟨2,3,bL dv⟩) (ed:P[dv]?=some ⟨2,3,bW⟩) {c0 c1 c2:Int} {al be:Re} {o1 o5 o6:Option V} {vs:List V} {m w:Nat} (hm:H[m]?=some vs) (hW:W m) (hv:PvL fb (p2 al be) w vs) (hw1:1≤w) (hw:w≤4) (h2:0 < c2) (s0:Sm 60 c0) (s1:Sm 60 c1) (s2:Sm 60 c2) (h1:(c1:Re)=-((c2:Re)*(al+be))) (h0:(c0:Re)=(c2:Re)*(al*be))
    (hN:∀ vs' o5 o6,PvL fb (p2 al be) (w+1) vs'→NN [some (rJ c0 c1 c2),o1,some (.int 2),some (.lst m),some (.int w),o5,o6] (H.set m vs')) :
    wpS sub (aj sub P (n+3)) W (xU pa ps pr) [some (rJ c0 c1 c2),o1,some (.int 2),some (.lst m),some (.int w),o5,o6] H NN R Y:=by
  have nought:Pv 1 0 (pt 0 1):=Pv.whole (k:=0) (c:=0) Sm.zero
  have z2:∀ Z:V→Hp→Prop,Z (.int c0) H→cU (rJ c0 c1 c2) (.int (2 - 2)) H Z:=fun Z h=>h
  have z1:∀ Z:V→Hp→Prop,Z (.int c1) H→cU (rJ c0 c1 c2) (.int (2 - 1)) H Z:=fun Z h=>h
  have ix:∀ i,i < w→∃ u,Pv (fb i) (p2 al be i) u∧∀ j:Int,j=(i:Int)→∀ Z:V→Prop,Z u→ifSome H[m]? fun xs=>ifSome (cv xs.length j) fun i=>ifSome xs[i]? fun v=>Z v:=fun i hi=>by
    refine ad (hv.2 i hi) fun u hu p=>?_
    exact ⟨u,p,fun j hj Z hZ=>zu hm (by (exact om [i] [j] [(.ie Y0 (.c Y0))] (.il (.n 0) Y0) [[1,0,1]] rfl hj)) (by rw [hj]; exact hu) hZ⟩
  dsimp only [xU,qS2,qS3,b5,qE1,qE5,qE7,qE8,br,aC,aD,qI3,cw,DB,ac,af,au]
  rcases (show w=1∨w=2∨3≤w by clear ix z1 z2 hN; (exact om [w] [] [(.le (.n 1) Y0)] (.or (.eq Y0 (.n 1)) (.or (.eq Y0 (.n 2)) (.le (.n 3) Y0))) [[1,0,0,1],[1,1],[0,1,1]] rfl hw1)) with rfl | rfl | h3
  · refine ⟨1,2,1,rfl,aB (by decide) (by decide),aB (by decide) (by decide),.inl rfl,?_⟩
    show bx _ _ [.int 1] _ _ _
    dsimp only [bx,au]
    refine AM e ep ed nought z1 (by unfold Sm; decide) s1 (by decide) fun t1 a1=>?_
    exact s8 er ep ed hm hW hv (by decide) a1 h2 s2 (Ea h1) (by decide) (by decide) fun vs' k=>hN vs' _ _ k
  · refine ad (ix 1 (by decide)) fun u1 g1 q1=>?_
    refine ⟨1,3,1,rfl,aB (by decide) (by decide),aB (by decide) (by decide),.inl rfl,?_⟩
    show bx _ _ [.int 1,.int 2] _ _ _
    dsimp only [bx,au]
    refine xQ e er ep ed nought (by decide) z1 (q1 (2 - 1) rfl) g1 s1 (by decide) (by decide) fun t1 a1=>?_
    dsimp only [au]
    refine AM e ep ed a1 z2 (by unfold Sm; decide) s0 (by decide) fun t2 a2=>?_
    exact s8 er ep ed hm hW hv (by decide) a2 h2 s2 (D4 h1 h0) (by decide) (by decide) fun vs' k=>hN vs' _ _ k
  · refine ad (ix (w - 1) (by clear ix z1 z2 hN; (exact om [w - 1,w] [] [(.le (.n 3) Y1),(.or (.an (.le (.n 1) Y1) (.eq Y1 (.a Y0 (.n 1)))) (.an (.le Y1 (.n 1)) (.eq Y0 (.n 0))))] (.le (.a Y0 (.n 1)) Y1) [[1,0,0,0,1],[1,1,0,1]] rfl h3 (aN (w) (1))))) fun u1 g1 q1=>?_
    refine ad (ix (w - 2) (by clear ix z1 z2 hN; (exact om [w - 2,w] [] [(.le (.n 3) Y1),(.or (.an (.le (.n 2) Y1) (.eq Y1 (.a Y0 (.n 2)))) (.an (.le Y1 (.n 2)) (.eq Y0 (.n 0))))] (.le (.a Y0 (.n 1)) Y1) [[1,0,0,0,1],[1,1,0,1]] rfl h3 (aN (w) (2))))) fun u2 g2 q2=>?_
    rw [if_pos (show (2:Int) < w by clear ix z1 z2 hN q1 q2; (exact om [w] [] [(.le (.n 3) Y0)] (.il (.a (.n 2) (.n 1)) (.c Y0)) [[1,1]] rfl h3))]
    refine ⟨1,3,1,rfl,aB (by decide) (by decide),aB (by decide) (by decide),.inl rfl,?_⟩
    have hw34:w=3∨w=4:=by clear ix z1 z2 hN q1 q2; (exact om [w] [] [(.le Y0 (.n 4)),(.le (.n 3) Y0)] (.or (.eq Y0 (.n 3)) (.eq Y0 (.n 4))) [[1,0,0,1],[1,1],[0,1,1]] rfl hw h3)
    have bb:fb (w - 1)≤800∧fb (w - 2)≤400∧1+(60+fb (w - 1))+1+(60+fb (w - 2))+1+60≤fb w:=by
      clear ix z1 z2 hN q1 q2; rcases hw34 with rfl | rfl <;> decide
    show bx _ _ [.int 1,.int 2] _ _ _
    dsimp only [bx,au]
    refine xQ e er ep ed nought (by clear ix z1 z2 hN q1 q2; (exact om [w] [] [(.le (.n 3) Y0)] (.no (.ie (.n 1) (.c Y0))) [[0,1,1]] rfl h3)) z1 (q1 _ (by clear ix z1 z2 hN q1 q2; (exact om [w,w - 1] [] [(.le (.n 3) Y0),(.or (.an (.le (.n 1) Y0) (.eq Y0 (.a Y1 (.n 1)))) (.an (.le Y0 (.n 1)) (.eq Y1 (.n 0))))] (.ie (.s (.c Y0) (.n 1)) (.c Y1)) [[1,0,0,0,1],[1,0,0,1],[0,1,1]] rfl h3 (aN (w) (1))))) g1 s1 (by decide) (by clear ix z1 z2 hN q1 q2; (exact om [fb (w - 1),fb (w - 2),fb w] [] [(.an (.le Y0 (.n 800)) (.an (.le Y1 (.n 400)) (.le (.a (.a (.a (.a (.a (.n 1) (.a (.n 60) Y0)) (.n 1)) (.a (.n 60) Y1)) (.n 1)) (.n 60)) Y2)))] (.le Y0 (.n 4000)) [[1,1]] rfl bb)) fun t1 a1=>?_
    dsimp only [au]
    refine xQ e er ep ed a1 (by clear ix z1 z2 hN q1 q2; (exact om [w] [] [(.le (.n 3) Y0)] (.no (.ie (.n 2) (.c Y0))) [[0,1,1]] rfl h3)) z2 (q2 _ (by clear ix z1 z2 hN q1 q2; (exact om [w,w - 2] [] [(.le (.n 3) Y0),(.or (.an (.le (.n 2) Y0) (.eq Y0 (.a Y1 (.n 2)))) (.an (.le Y0 (.n 2)) (.eq Y1 (.n 0))))] (.ie (.s (.c Y0) (.n 2)) (.c Y1)) [[1,0,0,0,1],[1,1,0,1],[1,0,0,1],[1,0,1]] rfl h3 (aN (w) (2))))) g2 s0 (by clear ix z1 z2 hN q1 q2; (exact om [fb (w - 1),fb (w - 2),fb w] [] [(.an (.le Y0 (.n 800)) (.an (.le Y1 (.n 400)) (.le (.a (.a (.a (.a (.a (.n 1) (.a (.n 60) Y0)) (.n 1)) (.a (.n 60) Y1)) (.n 1)) (.n 60)) Y2)))] (.le (.a (.a (.n 1) (.a (.n 60) Y0)) (.n 1)) (.n 4000)) [[1,1]] rfl bb)) (by clear ix z1 z2 hN q1 q2; (exact om [fb (w - 2),fb (w - 1),fb w] [] [(.an (.le Y1 (.n 800)) (.an (.le Y0 (.n 400)) (.le (.a (.a (.a (.a (.a (.n 1) (.a (.n 60) Y1)) (.n 1)) (.a (.n 60) Y0)) (.n 1)) (.n 60)) Y2)))] (.le Y0 (.n 4000)) [[1,0,1]] rfl bb)) fun t2 a2=>?_
    refine s8 er ep ed hm hW hv hw a2 h2 s2 ?_ (by clear ix z1 z2 hN q1 q2; (exact om [fb (w - 1),fb (w - 2),fb w] [] [(.an (.le Y0 (.n 800)) (.an (.le Y1 (.n 400)) (.le (.a (.a (.a (.a (.a (.n 1) (.a (.n 60) Y0)) (.n 1)) (.a (.n 60) Y1)) (.n 1)) (.n 60)) Y2)))] (.le (.a (.a (.a (.a (.a (.n 1) (.a (.n 60) Y0)) (.n 1)) (.a (.n 60) Y1)) (.n 1)) (.n 60)) Y2) [[1,0,0,1]] rfl bb)) (by clear ix z1 z2 hN q1 q2; (exact om [fb (w - 1),fb (w - 2),fb w] [] [(.an (.le Y0 (.n 800)) (.an (.le Y1 (.n 400)) (.le (.a (.a (.a (.a (.a (.n 1) (.a (.n 60) Y0)) (.n 1)) (.a (.n 60) Y1)) (.n 1)) (.n 60)) Y2)))] (.le (.a (.a (.a (.a (.n 1) (.a (.n 60) Y0)) (.n 1)) (.a (.n 60) Y1)) (.n 1)) (.n 4000)) [[1,1,1]] rfl bb)) fun vs' k=>hN vs' _ _ k
    have:=Ee h1 h0 (w - 2)
    rw [show w - 2+2=w by clear ix z1 z2 hN q1 q2; (exact om [w - 2,w] [] [(.le (.n 3) Y1),(.or (.an (.le (.n 2) Y1) (.eq Y1 (.a Y0 (.n 2)))) (.an (.le Y1 (.n 2)) (.eq Y0 (.n 0))))] (.eq (.a Y0 (.n 2)) Y1) [[1,0,0,1],[1,0,1],[1,0,0,0,1],[1,1,0,1]] rfl h3 (aN (w) (2))),show w - 2+1=w - 1 by clear ix z1 z2 hN q1 q2; (exact om [w - 2,w,w - 1] [] [(.le (.n 3) Y1),(.or (.an (.le (.n 2) Y1) (.eq Y1 (.a Y0 (.n 2)))) (.an (.le Y1 (.n 2)) (.eq Y0 (.n 0)))),(.or (.an (.le (.n 1) Y1) (.eq Y1 (.a Y2 (.n 1)))) (.an (.le Y1 (.n 1)) (.eq Y2 (.n 0))))] (.eq (.a Y0 (.n 1)) Y2) [[1,0,0,1,0,0,0,1],[0,1,1],[1,0,0,0,1,0,1],[0,1,0,0,0,1]] rfl h3 (aN (w) (2)) (aN (w) (1)))] at this
    exact this
theorem AZ (e0:P[f]?=some ⟨2,7,BD pa ps pr⟩) (e:P[ps]?=some ⟨2,2,eK pa⟩) (er:P[pr]?=some ⟨2,2,cH pa⟩) (ep:P[pa]?=some ⟨2,3,bL dv⟩) (ed:P[dv]?=some ⟨2,3,bW⟩) {c0 c1 c2:Int} {al be:Re} (h2:0 < c2) (s0:Sm 60 c0) (s1:Sm 60 c1) (s2:Sm 60 c2) (h1:(c1:Re)=-((c2:Re)*(al+be))) (h0:(c0:Re)=(c2:Re)*(al*be))
    (hQ:∀ vs,PvL fb (p2 al be) 5 vs→Q (.lst H.length) (H++[vs])):aj sub P (n+4) f [rJ c0 c1 c2,.int 4] H Q X:=by
  refine ai e0 rfl ?_
  dsimp only [BD,qS1,qS2,qS3,qS9,b5,qE1,qE5,qE8,aO,br,cY,aC,aD,qI3,cw,cM,ji,az,aA,ax,aw,aP,ay,aq,fw,ac,af,au,Nat.reduceSub,Nat.reduceAdd,List.length_nil]
  refine z7 ep ed (by decide) (k:=3) (by unfold Sm; decide) (by unfold Sm; decide) (by decide) fun p q L hp=>?_
  have v0:PvL fb (p2 al be) 1 [pt p q]:=⟨rfl,fun i hi=>by
    obtain rfl:i=0:=by (exact om [i] [] [(.le (.a Y0 (.n 1)) (.n 1))] (.eq Y0 (.n 0)) [[1,1]] rfl hi)
    refine ⟨_,rfl,p,q,rfl,L.mono (by decide),?_⟩
    have:p=2*q:=by clear L; simp at hp; (exact om [] [p,q] [(.ie Y0 (.m 2 Y1))] (.ie Y0 (.m 2 Y1)) [[1,0,1],[1,1]] rfl hp)
    rw [this,am]; unfold p2; show _=(2:Re)*_; grind⟩
  refine ⟨1,5,1,rfl,aB (by decide) (by decide),aB (by decide) (by decide),.inl rfl,?_⟩
  show bx _ _ [.int (1:Nat),.int (2:Nat),.int (3:Nat),.int (4:Nat)] _ _ _
  dsimp only [bx,au]
  refine jQ e er ep ed (ag _ _ _) ⟨Nat.le_refl _,nofun⟩ v0 (by decide) (by decide) h2 s0 s1 s2 h1 h0 fun v1 o5 o6 g1=>?_
  rw [bk]
  dsimp only [au]
  refine jQ e er ep ed (ag _ _ _) ⟨Nat.le_refl _,nofun⟩ g1 (by decide) (by decide) h2 s0 s1 s2 h1 h0 fun v2 o5 o6 g2=>?_
  rw [bk]
  dsimp only [au]
  refine jQ e er ep ed (ag _ _ _) ⟨Nat.le_refl _,nofun⟩ g2 (by decide) (by decide) h2 s0 s1 s2 h1 h0 fun v3 o5 o6 g3=>?_
  rw [bk]
  dsimp only [au]
  refine jQ e er ep ed (ag _ _ _) ⟨Nat.le_refl _,nofun⟩ g3 (by decide) (by decide) h2 s0 s1 s2 h1 h0 fun v4 o5 o6 g4=>?_
  rw [bk]
  exact hQ v4 g4
end
end Mine
namespace Mine
open Re
noncomputable def p4 (x y z w:Re) (k:Nat):Re:=x ^ k+y ^ k+z ^ k+w ^ k
noncomputable def eF (x y z w:Re):Nat→Re
  | 0=>1
  | 1=>x+y+z+w
  | 2=>x*y+x*z+x*w+y*z+y*w+z*w
  | 3=>x*y*z+x*y*w+x*z*w+y*z*w
  | _=>x*y*z*w
theorem eF0 (x y z w:Re):eF x y z w 0=1:=rfl
theorem eF1 (x y z w:Re):eF x y z w 1=x+y+z+w:=rfl
theorem eF2 (x y z w:Re):eF x y z w 2=x*y+x*z+x*w+y*z+y*w+z*w:=rfl
theorem eF3 (x y z w:Re):eF x y z w 3=x*y*z+x*y*w+x*z*w+y*z*w:=rfl
theorem eF4 (x y z w:Re):eF x y z w 4=x*y*z*w:=rfl
noncomputable def sgr (j:Nat) (x:Re):Re:=if j % 2=1 then -x else x
noncomputable def tE (x y z w:Re) (m:Nat):Nat→Re
  | 0=>0
  | j+1=>tE x y z w m j+sgr j (eF x y z w (m - (j+1))*p4 x y z w (j+1))
section
variable {x y z w:Re}
theorem sg0 (a:Re):sgr 0 a=a:=rfl
theorem sg1 (a:Re):sgr 1 a=-a:=rfl
theorem sg2 (a:Re):sgr 2 a=a:=rfl
theorem sg3 (a:Re):sgr 3 a=-a:=rfl
theorem sg4 (a:Re):sgr 4 a=a:=rfl
theorem Bq {m:Nat} (h1:1≤m) (h4:m≤4):((m:Int):Re)*eF x y z w m=tE x y z w m m:=by
  rcases (show m=1∨m=2∨m=3∨m=4 by exact om [m] [] [(.le (.n 1) Y0),(.le Y0 (.n 4))] (.or (.eq Y0 (.n 1)) (.or (.eq Y0 (.n 2)) (.or (.eq Y0 (.n 3)) (.eq Y0 (.n 4))))) [[1,0,0,0,1],[1,1],[0,1,1],[0,0,1,1],[0,0,0,1,0,1]] rfl h1 h4) with rfl | rfl | rfl | rfl
  · show (1:Re)*eF x y z w 1=0+sgr 0 (eF x y z w 0*p4 x y z w 1); rw [sg0]; dsimp only [eF0,eF1,eF2,eF3,eF4,p4]; grind
  · show (2:Re)*eF x y z w 2=0+sgr 0 (eF x y z w 1*p4 x y z w 1)+sgr 1 (eF x y z w 0*p4 x y z w 2); rw [sg0,sg1]; dsimp only [eF0,eF1,eF2,eF3,eF4,p4]; grind
  · show (3:Re)*eF x y z w 3=0+sgr 0 (eF x y z w 2*p4 x y z w 1)+sgr 1 (eF x y z w 1*p4 x y z w 2)+sgr 2 (eF x y z w 0*p4 x y z w 3); rw [sg0,sg1,sg2]; dsimp only [eF0,eF1,eF2,eF3,eF4,p4]; grind
  · show (4:Re)*eF x y z w 4=0+sgr 0 (eF x y z w 3*p4 x y z w 1)+sgr 1 (eF x y z w 2*p4 x y z w 2)+sgr 2 (eF x y z w 1*p4 x y z w 3)+sgr 3 (eF x y z w 0*p4 x y z w 4); rw [sg0,sg1,sg2,sg3]; dsimp only [eF0,eF1,eF2,eF3,eF4,p4]; grind
theorem yk (s t:Re):s*bS [x,y,z,w] t=s*sgr 4 (eF x y z w 4)+t*(s*sgr 3 (eF x y z w 3)+t*(s*sgr 2 (eF x y z w 2)+t*(s*sgr 1 (eF x y z w 1)+t*(s*sgr 0 (eF x y z w 0)+t*0)))):=by
  rw [sg0,sg1,sg2,sg3,sg4]; dsimp only [eF0,eF1,eF2,eF3,eF4]; dsimp only [aU,a8]; grind
end
theorem ii {f:Re→Re} {s u:Re} {rs:List Re} (hs:s≠0) (hn:bS rs u≠0) (e:∀ t,f t=s*((t - u)*bS rs t)):R1 f u :=
  ⟨1,fun t=>s*bS rs t,oG,(PX.const s).mul (oU rs),aQ hs hn,fun t=>by rw [e]; grind⟩
theorem qW {f:Re→Re} {s u:Re} {rs:List Re} (hs:s≠0) (hn:bS rs u≠0) (e:∀ t,f t=s*((t - u)*((t - u)*bS rs t))):R2 f u :=
  ⟨1,fun t=>s*bS rs t,oG,(PX.const s).mul (oU rs),aQ hs hn,fun t=>by rw [e]; grind⟩
theorem bM {u:Re}:∀ {rs:List Re},(∀ r∈rs,u≠r)→bS rs u≠0
  | [],_=>oG
  | r :: rs,h=>aQ (fun e=>h r (.head _) (by grind)) (bM fun x hx=>h x (.tail _ hx))
theorem iq {p:Re→Prop} {a b c:Re} (h1:p a) (h2:p b) (h3:p c):∀ r∈[a,b,c],p r:=fun r hr=>by
  rcases List.mem_cons.mp hr with rfl | hr
  · exact h1
  rcases List.mem_cons.mp hr with rfl | hr
  · exact h2
  · cases List.mem_singleton.mp hr; exact h3
theorem gj {p:Re→Prop} {a b:Re} (h1:p a) (h2:p b):∀ r∈[a,b],p r:=fun r hr=>by
  rcases List.mem_cons.mp hr with rfl | hr
  · exact h1
  · cases List.mem_singleton.mp hr; exact h2
theorem AF {p:Re→Prop} {a:Re} {rs:List Re} (h1:p a) (h2:∀ r∈rs,p r):∀ r∈a :: rs,p r:=fun r hr=>by
  rcases List.mem_cons.mp hr with rfl | hr
  · exact h1
  · exact h2 r hr
theorem pw3 {a b c:Re} (h1:a≠b) (h2:a≠c) (h3:b≠c):[a,b,c].Pairwise (·≠·) :=
  List.pairwise_cons.mpr ⟨gj h1 h2,List.pairwise_cons.mpr ⟨fun r hr=>by cases List.mem_singleton.mp hr; exact h3,List.pairwise_singleton ..⟩⟩
end Mine
namespace Mine
open Re
noncomputable def Z3 (xs:List Int):Prop:=∃ c w,xs=0 :: 0 :: 0 :: c :: w∧c≠0
theorem AB {c:Int} {w:List Int} (t:Re):evR (0 :: 0 :: 0 :: c :: w) t=t*(t*(t*evR (c :: w) t)):=by
  show ((0:Int):Re)+t*(((0:Int):Re)+t*(((0:Int):Re)+t*evR (c :: w) t))=_
  rw [aE]; grind
theorem CW {c:Int} {w:List Int} (t:Re):dR (0 :: 0 :: 0 :: c :: w) t=t*(t*(3*evR (c :: w) t+t*dR (c :: w) t)):=by
  show evR (0 :: 0 :: c :: w) t+t*(evR (0 :: c :: w) t+t*(evR (c :: w) t+t*dR (c :: w) t))=_
  rw [bm,bm 0 (c :: w),aE]; grind
theorem xu {f g:Re→Re} (hf:PX f) (hg:PX g) (h:∀ t,t*f t=t*g t):f 0=g 0:=PX.at (u:=0) hf hg fun t ht=>eZ ht (h t)
theorem yJ {f g:Re→Re} (hf:PX f) (hg:PX g) (h:∀ t,t*(t*f t)=t*(t*g t)):f 0=g 0:=PX.at (u:=0) hf hg fun t ht=>eZ ht (eZ ht (h t))
theorem px_id:PX fun t=>t:=(PX.x 0).of fun t=>by grind
theorem Cs {f:Re→Re} (h:PX f) (h0:f 0=0):∃ g,PX g∧∀ t,f t=t*g t:=by
  refine ad (h.cut h0) fun g hg e=>?_
  exact ⟨g,hg,fun t=>by rw [e]; grind⟩
theorem ev0 (c:Int) (w:List Int):evR (c :: w) 0=(c:Re):=by rw [bm]; grind
section
variable {c:Int} {r x h E U W:List Int} {c2 c3:Int}
theorem BH (e:∀ s,evR (c :: r) s=evR x s*evR h s) (hc2:c2≠0) (e2:∀ s,(c2:Re)*evR (sl 1 r) s=evR x s*evR E s) (hz:Z3 (c :: r)):evR h 0=0:=by
  refine aX (hz) fun k w hk k0=>?_
  refine Classical.byContradiction fun hn=>?_
  have px:=dN x
  have ph:=dN h
  have pw:=dN (k :: w)
  have ef:∀ t,evR x t*evR h t=t*(t*(t*evR (k :: w) t)):=fun t=>by rw [← e,hk,AB]
  have x0:evR x 0=0:=aR (x:=evR h 0) (by have:=ef 0; grind) hn
  refine ad (Cs px x0) fun x1 p1 e1=>?_
  have y1:x1 0*evR h 0=0*(0*evR (k :: w) 0):=xu (f:=fun t=>x1 t*evR h t) (g:=fun t=>t*(t*evR (k :: w) t)) (p1.mul ph) (px_id.mul (px_id.mul pw)) fun t=>by rw [← ef,e1]; grind
  have x10:x1 0=0:=aR (x:=evR h 0) (by grind) hn
  refine ad (Cs p1 x10) fun x2 p2 e2'=>?_
  have y2:x2 0*evR h 0=0*evR (k :: w) 0:=yJ (f:=fun t=>x2 t*evR h t) (g:=fun t=>t*evR (k :: w) t) (p2.mul ph) (px_id.mul pw) fun t=>by rw [← ef,e1,e2']; grind
  have x20:x2 0=0:=aR (x:=evR h 0) (by grind) hn
  refine ad (Cs p2 x20) fun x3 p3 e3'=>?_
  have y3:(c2:Re)*(3*evR (k :: w) 0+0*dR (k :: w) 0)=0*(x3 0*evR E 0):=yJ (f:=fun t=>(c2:Re)*(3*evR (k :: w) t+t*dR (k :: w) t)) (g:=fun t=>t*(x3 t*evR E t))
    ((PX.const (c2:Re)).mul ((PX.lin 1 ((PX.const 3).mul pw) (px_id.mul (x9 (k :: w)))).of fun t=>by grind)) (px_id.mul (p3.mul (dN E))) fun t=>by
      have:=e2 t
      rw [xF (c:=c),hk,CW,e1,e2',e3'] at this
      grind
  rw [ev0] at y3
  have c2':=dX hc2
  have k0':=dX k0
  have:=aR (x:=(c2:Re)) (y:=3*(k:Re)) (by grind) c2'
  exact k0' (aR (x:=(3:Re)) (by grind) (dX (c:=3) (by decide)))
theorem B0 {lx:Int} (hc3:c3≠0) (e3:∀ s,(c3:Re)*evR x s=evR U s*evR (c :: r) s+evR W s*evR (sl 1 r) s) (la:x.getLast?=some lx) (l0:lx≠0) (hz:Z3 (c :: r)):3≤x.length:=by
  refine aX (hz) fun k w hk k0=>?_
  have c3':=dX hc3
  have pS:PX fun t=>evR U t*(t*evR (k :: w) t)+1*(evR W t*(3*evR (k :: w) t+t*dR (k :: w) t)) :=
    PX.lin 1 ((dN U).mul (px_id.mul (dN (k :: w)))) ((dN W).mul ((PX.lin 1 ((PX.const 3).mul (dN (k :: w))) (px_id.mul (x9 (k :: w)))).of fun t=>by grind))
  have ex:∀ t,(c3:Re)*evR x t=t*(t*(evR U t*(t*evR (k :: w) t)+1*(evR W t*(3*evR (k :: w) t+t*dR (k :: w) t)))):=fun t=>by
    rw [e3,xF (c:=c),hk,AB,CW]; grind
  have a0:(c3:Re)*evR x 0=0:=by rw [ex]; grind
  have x0:evR x 0=0:=aR (x:=(c3:Re)) a0 c3'
  cases x with
  | nil=>cases la
  | cons a q =>
    rw [ev0] at x0
    cases q with
    | nil=>cases la; exact absurd x0 (dX l0)
    | cons b s =>
      cases s with
      | nil =>
        cases la
        have hb:(c3:Re)*(b:Re)=0*(evR U 0*(0*evR (k :: w) 0)+1*(evR W 0*(3*evR (k :: w) 0+0*dR (k :: w) 0))) :=
          xu (f:=fun _=>(c3:Re)*(b:Re)) (g:=fun t=>t*(evR U t*(t*evR (k :: w) t)+1*(evR W t*(3*evR (k :: w) t+t*dR (k :: w) t)))) (PX.const _) (px_id.mul pS) fun t=>by
            rw [← ex t,bm,bm,x0,tH]; grind
        exact absurd (aR (x:=(c3:Re)) (y:=(b:Re)) (by grind) c3') (dX l0)
      | cons d v=>exact Nat.le_add_left 3 _
end
end Mine
namespace Mine
open Re
theorem DX {f g:Re→Re} (hf:PX f) (hg:PX g) (h:∀ t,t*(t*(t*f t))=t*(t*(t*g t))):f 0=g 0:=PX.at (u:=0) hf hg fun t ht=>eZ ht (eZ ht (eZ ht (h t)))
theorem DN {xs:List Int} {s a:Re} (hl:xs.length=5) (hs:s≠0) (ha:a≠0) (e:∀ t,evR xs t=s*(t*(t*(t*(t - a))))):Z3 xs:=by
  refine aX (sH hl) fun c0 r0 zq14 h1=>?_; subst zq14
  refine aX (sH h1) fun c1 r1 zq13 h2=>?_; subst zq13
  refine aX (sH h2) fun c2 r2 zq12 h3=>?_; subst zq12
  refine aX (sH h3) fun c3 r3 zq11 h4=>?_; subst zq11
  have e0:=e 0
  rw [ev0] at e0
  have z0:c0=0:=fu (by rw [e0,aE]; grind)
  subst z0
  have pa:PX fun t=>t - a:=PX.x a
  have e1:evR (c1 :: c2 :: c3 :: r3) 0=s*(0*(0*(0 - a))):=xu (f:=evR (c1 :: c2 :: c3 :: r3)) (g:=fun t=>s*(t*(t*(t - a)))) (dN _) ((PX.const s).mul (px_id.mul (px_id.mul pa))) fun t=>by
    have:=e t
    rw [bm,aE] at this
    grind
  rw [ev0] at e1
  have z1:c1=0:=fu (by rw [e1,aE]; grind)
  subst z1
  have e2:evR (c2 :: c3 :: r3) 0=s*(0*(0 - a)):=yJ (f:=evR (c2 :: c3 :: r3)) (g:=fun t=>s*(t*(t - a))) (dN _) ((PX.const s).mul (px_id.mul pa)) fun t=>by
    have:=e t
    rw [bm,bm,aE] at this
    grind
  rw [ev0] at e2
  have z2:c2=0:=fu (by rw [e2,aE]; grind)
  subst z2
  have e3:evR (c3 :: r3) 0=s*(0 - a):=DX (f:=evR (c3 :: r3)) (g:=fun t=>s*(t - a)) (dN _) ((PX.const s).mul pa) fun t=>by
    have:=e t
    rw [bm,bm,bm,aE] at this
    grind
  rw [ev0] at e3
  refine ⟨c3,r3,rfl,fun h=>?_⟩
  rw [h,aE] at e3
  exact aQ hs ha (by grind)
structure RtM (xs:List Int) (x:Re) (us:List Re) (m:Nat):Prop where
  n:us.length+m=3
  pu:(x :: us).Pairwise (·≠·)
  r1:∀ u∈x :: us,(R1 (evR xs) u∨R2 (evR xs) u)∨(u=0∧Z3 xs)
  r2:(∃ ds:List Re,ds.length=m∧ds.Pairwise (·≠·)∧∀ u∈ds,R2 (evR xs) u)∨(m=2∧Z3 xs)
section
variable {xs:List Int} {s x a b:Re}
theorem pZ {p:Re→Prop} {a:Re} (h1:p a):∀ r∈[a],p r:=fun r hr=>by cases List.mem_singleton.mp hr; exact h1
theorem pw2 {a b:Re} (h:a≠b):[a,b].Pairwise (·≠·):=List.pairwise_cons.mpr ⟨pZ h,List.pairwise_singleton ..⟩
theorem xk (hs:s≠0) (e:∀ t,evR xs t=s*((t - x)*((t - x)*((t - a)*((t - b)*1))))) (xa:x≠a) (xb:x≠b) (ab:a≠b):RtM xs x [a,b] 1 :=
  ⟨rfl,pw3 xa xb ab,iq (.inl (.inr (qW (rs:=[a,b]) hs (bM (gj xa xb)) fun t=>by rw [e]; dsimp only [aU,a8])))
    (.inl (.inl (ii (rs:=[x,x,b]) hs (bM (iq xa.symm xa.symm ab)) fun t=>by rw [e]; dsimp only [aU,a8]; grind)))
    (.inl (.inl (ii (rs:=[x,x,a]) hs (bM (iq xb.symm xb.symm ab.symm)) fun t=>by rw [e]; dsimp only [aU,a8]; grind))),
   .inl ⟨[x],rfl,List.pairwise_singleton ..,pZ (qW (rs:=[a,b]) hs (bM (gj xa xb)) fun t=>by rw [e]; dsimp only [aU,a8])⟩⟩
theorem yL (hs:s≠0) (e:∀ t,evR xs t=s*((t - x)*((t - a)*((t - a)*((t - b)*1))))) (xa:x≠a) (xb:x≠b) (ab:a≠b):RtM xs x [a,b] 1 :=
  have ra:R2 (evR xs) a:=qW (rs:=[x,b]) hs (bM (gj xa.symm ab)) fun t=>by rw [e]; dsimp only [aU,a8]; grind
  ⟨rfl,pw3 xa xb ab,iq (.inl (.inl (ii (rs:=[a,a,b]) hs (bM (iq xa xa xb)) fun t=>by rw [e]; dsimp only [aU,a8])))
    (.inl (.inr ra))
    (.inl (.inl (ii (rs:=[x,a,a]) hs (bM (iq xb.symm ab.symm ab.symm)) fun t=>by rw [e]; dsimp only [aU,a8]; grind))),
   .inl ⟨[a],rfl,List.pairwise_singleton ..,pZ ra⟩⟩
theorem C6 (hs:s≠0) (e:∀ t,evR xs t=s*((t - x)*((t - x)*((t - a)*((t - a)*1))))) (xa:x≠a):RtM xs x [a] 2 :=
  have rx:R2 (evR xs) x:=qW (rs:=[a,a]) hs (bM (gj xa xa)) fun t=>by rw [e]; dsimp only [aU,a8]
  have ra:R2 (evR xs) a:=qW (rs:=[x,x]) hs (bM (gj xa.symm xa.symm)) fun t=>by rw [e]; dsimp only [aU,a8]; grind
  ⟨rfl,pw2 xa,gj (.inl (.inr rx)) (.inl (.inr ra)),.inl ⟨[x,a],rfl,pw2 xa,gj rx ra⟩⟩
theorem nJ (hl:xs.length=5) (hs:s≠0) (e:∀ t,evR xs t=s*((t - 0)*((t - 0)*((t - 0)*((t - a)*1))))) (xa:a≠0):RtM xs 0 [a] 2∧RtM xs a [0] 2 :=
  have z:=DN hl hs xa fun t=>by rw [e]; grind
  have ra:R1 (evR xs) a:=ii (rs:=[0,0,0]) hs (bM (iq xa xa xa)) fun t=>by rw [e]; dsimp only [aU,a8]; grind
  ⟨⟨rfl,pw2 xa.symm,gj (.inr ⟨rfl,z⟩) (.inl (.inl ra)),.inr ⟨rfl,z⟩⟩,⟨rfl,pw2 xa,gj (.inl (.inl ra)) (.inr ⟨rfl,z⟩),.inr ⟨rfl,z⟩⟩⟩
end
section
variable {xs:List Int} {s x y z w:Re}
theorem D5 (hs:s≠0) (e:∀ t,evR xs t=s*((t - x)*((t - y)*((t - z)*((t - w)*1))))) (xy:x≠y) (xz:x≠z) (xw:x≠w) (yz:y≠z) (yw:y≠w) (zw:z≠w):RtM xs x [y,z,w] 0 :=
  ⟨rfl,List.pairwise_cons.mpr ⟨iq xy xz xw,pw3 yz yw zw⟩,AF (.inl (.inl (ii (rs:=[y,z,w]) hs (bM (iq xy xz xw)) fun t=>by rw [e]; dsimp only [aU,a8])))
    (iq (.inl (.inl (ii (rs:=[x,z,w]) hs (bM (iq xy.symm yz yw)) fun t=>by rw [e]; dsimp only [aU,a8]; grind)))
      (.inl (.inl (ii (rs:=[x,y,w]) hs (bM (iq xz.symm yz.symm zw)) fun t=>by rw [e]; dsimp only [aU,a8]; grind)))
      (.inl (.inl (ii (rs:=[x,y,z]) hs (bM (iq xw.symm yw.symm zw.symm)) fun t=>by rw [e]; dsimp only [aU,a8]; grind)))),
   .inl ⟨[],rfl,.nil,nofun⟩⟩
end
theorem fE {a b c:Re} (ha:a≠0) (h:b≠c):a*b≠a*c:=fun e=>h (eZ ha e)
theorem fI {a b c:Re} (ha:a≠0) (h:b≠c):b*a≠c*a:=fun e=>h (eZ ha (by grind))
theorem sP {xs:List Int} {s a a' b b':Re} (hl:xs.length=5) (hs:s≠0) (e:∀ t,evR xs t=s*bS [a*b,a*b',a'*b,a'*b'] t) (aa:a≠a') (bb:b≠b') :
    ∃ us m,RtM xs (a*b) us m∧∀ r∈us,r≠a*b∧(r=a*b'∨r=a'*b∨r=a'*b'):=by
  have e':∀ t,evR xs t=s*((t - a*b)*((t - a*b')*((t - a'*b)*((t - a'*b')*1)))):=fun t=>by rw [e]; dsimp only [aU,a8]
  clear e
  have z1:∀ c:Re,c*0=0:=fun c=>by grind
  have z2:∀ c:Re,0*c=0:=fun c=>by grind
  by_cases ha:a=0
  · subst ha
    have a0:a'≠0:=fun h=>aa h.symm
    simp only [z2] at *
    by_cases hb:b=0
    · subst hb
      have b0:b'≠0:=fun h=>bb h.symm
      simp only [z1] at *
      exact ⟨_,_,(nJ hl hs e' (aQ a0 b0)).1,pZ ⟨aQ a0 b0,.inr (.inr rfl)⟩⟩
    by_cases hb':b'=0
    · subst hb'
      simp only [z1] at *
      exact ⟨_,_,(nJ (a:=a'*b) hl hs (fun t=>by rw [e']; grind) (aQ a0 hb)).1,pZ ⟨aQ a0 hb,.inr (.inl rfl)⟩⟩
    · exact ⟨_,_,xk hs e' (aQ a0 hb).symm (aQ a0 hb').symm (fE a0 bb),gj ⟨aQ a0 hb,.inr (.inl rfl)⟩ ⟨aQ a0 hb',.inr (.inr rfl)⟩⟩
  by_cases ha':a'=0
  · subst ha'
    simp only [z2] at *
    by_cases hb:b=0
    · subst hb
      have b0:b'≠0:=fun h=>bb h.symm
      simp only [z1] at *
      exact ⟨_,_,(nJ (a:=a*b') hl hs (fun t=>by rw [e']; grind) (aQ ha b0)).1,pZ ⟨aQ ha b0,.inl rfl⟩⟩
    by_cases hb':b'=0
    · subst hb'
      simp only [z1] at *
      exact ⟨_,_,(nJ (a:=a*b) hl hs (fun t=>by rw [e']; grind) (aQ ha hb)).2,pZ ⟨(aQ ha hb).symm,.inl rfl⟩⟩
    · exact ⟨_,_,yL (a:=0) (b:=a*b') hs (fun t=>by rw [e']; grind) (aQ ha hb) (fE ha bb) (aQ ha hb').symm,gj ⟨(aQ ha hb).symm,.inr (.inl rfl)⟩ ⟨(fE ha bb).symm,.inl rfl⟩⟩
  by_cases hb:b=0
  · subst hb
    have b0:b'≠0:=fun h=>bb h.symm
    simp only [z1] at *
    exact ⟨_,_,xk (x:=0) (a:=a*b') (b:=a'*b') hs (fun t=>by rw [e']; grind) (aQ ha b0).symm (aQ ha' b0).symm (fI b0 aa),gj ⟨aQ ha b0,.inl rfl⟩ ⟨aQ ha' b0,.inr (.inr rfl)⟩⟩
  by_cases hb':b'=0
  · subst hb'
    simp only [z1] at *
    exact ⟨_,_,yL (a:=0) (b:=a'*b) hs (fun t=>by rw [e']; grind) (aQ ha hb) (fI hb aa) (aQ ha' hb).symm,gj ⟨(aQ ha hb).symm,.inl rfl⟩ ⟨(fI hb aa).symm,.inr (.inl rfl)⟩⟩
  have xy:=fE ha bb
  have xz:=fI hb aa
  have wy:a'*b'≠a*b':=(fI hb' aa).symm
  have wz:a'*b'≠a'*b:=(fE ha' bb).symm
  generalize a*b=x at *
  generalize a*b'=y at *
  generalize a'*b=z at *
  generalize a'*b'=w at *
  by_cases xw:x=w
  · subst xw
    by_cases yz:y=z
    · subst yz
      exact ⟨_,_,C6 hs (fun t=>by rw [e']; grind) xy,pZ ⟨xy.symm,.inl rfl⟩⟩
    · exact ⟨_,_,xk (a:=y) (b:=z) hs (fun t=>by rw [e']; grind) xy xz yz,gj ⟨xy.symm,.inl rfl⟩ ⟨xz.symm,.inr (.inl rfl)⟩⟩
  · by_cases yz:y=z
    · subst yz
      exact ⟨_,_,yL (a:=y) (b:=w) hs e' xy xw wy.symm,gj ⟨xy.symm,.inl rfl⟩ ⟨fun h=>xw h.symm,.inr (.inr rfl)⟩⟩
    · exact ⟨_,_,D5 hs e' xy xz xw yz wy.symm wz.symm,iq ⟨xy.symm,.inl rfl⟩ ⟨xz.symm,.inr (.inl rfl)⟩ ⟨fun h=>xw h.symm,.inr (.inr rfl)⟩⟩
end Mine
set_option maxRecDepth 100000
namespace Mine
open PySem Re
theorem Z3.red {g:Int} {F ys:List Int} (hg:g≠0) (h:smul g F=ys) (z:Z3 ys):Z3 F:=by
  refine aX (z) fun c w zq5 hc=>?_; subst zq5
  cases F with
  | nil=>exact (List.cons_ne_nil _ _ h.symm).elim
  | cons f0 F=>cases F with
    | nil=>exact (List.cons_ne_nil _ _ (List.cons.inj h).2.symm).elim
    | cons f1 F=>cases F with
      | nil=>exact (List.cons_ne_nil _ _ (List.cons.inj (List.cons.inj h).2).2.symm).elim
      | cons f2 F=>cases F with
        | nil=>exact (List.cons_ne_nil _ _ (List.cons.inj (List.cons.inj (List.cons.inj h).2).2).2.symm).elim
        | cons f3 F =>
          obtain ⟨h0,h⟩:=List.cons.inj h
          obtain ⟨h1,h⟩:=List.cons.inj h
          obtain ⟨h2,h⟩:=List.cons.inj h
          obtain ⟨h3,h⟩:=List.cons.inj h
          have z:∀ {x:Int},g*x=0→x=0:=fun e=>(Int.mul_eq_zero.mp e).resolve_left hg
          rw [z h0,z h1,z h2]
          exact ⟨f3,F,rfl,fun e=>hc (by rw [← h3,e]; exact Int.mul_zero g)⟩
noncomputable def RA (xs:List Int) (us:List Re):Prop:=∀ u∈us,(R1 (evR xs) u∨R2 (evR xs) u)∨(u=0∧Z3 xs)
noncomputable def RB (xs:List Int) (m:Nat):Prop:=(∃ ds:List Re,ds.length=m∧ds.Pairwise (·≠·)∧∀ u∈ds,R2 (evR xs) u)∨(m=2∧Z3 xs)
theorem tW {c l lx B:Int} {r x h:List Int} {us:List Re} {K n m:Nat} (hG:Gcd (c :: r) (sl 1 r) x lx) (la:(c :: r).getLast?=some l) (l0:l≠0) (sK:Sm K l) (th:Tr h) (e:∀ t,ev (c :: r) t=ev x t*ev h t)
    (hn:(c :: r).length=us.length+m+1) (pu:us.Pairwise (·≠·)) (h1:RA (c :: r) us) (h2:RB (c :: r) m) (hB:0≤B) (hb:∀ u∈us,ab u≤(B:Re)) (sB:Sm n (1+B)) :
    (c :: r).length+1=x.length+h.length∧h.length=us.length+1∧AllSm (K+(n*us.length+1)) h∧∀ u∈us,evR h u=0:=by
  have lx0:lx≠0:=Int.ne_of_gt hG.pos
  have tx:Tr x:=⟨lx,hG.last,lx0⟩
  have em:c :: r=a7 x h:=lO (.inr ⟨l,la,l0⟩) (.inr (ka tx th)) fun t=>by rw [e,bJ]
  have eR:∀ s,evR (c :: r) s=evR x s*evR h s:=fun s=>by rw [em,fT]
  have ln:=cg tx.ne th.ne
  rw [← em] at ln
  refine aX (Au hG.d2) fun c2 E hc2 e2=>?_
  refine jM (u5 hG.cb) fun c3 U W hc3 e3=>?_
  have r1:∀ u∈us,evR h u=0:=fun u hu=>(h1 u hu).elim (wT eR hc2 e2) fun hz=>hz.1 ▸ BH eR hc2 e2 hz.2
  have n1:=xZ th pu r1
  have n2:m+1≤x.length:=h2.elim (fun hd=>by refine bU (hd) fun ds hd pd h2=>?_; exact hd ▸ xZ tx pd fun u hu=>xH hc3 e3 (h2 u hu)) fun hm=>hm.1 ▸ B0 hc3 e3 hG.last lx0 hm.2
  have n3:h.length=us.length+1:=by clear hG la sK e h1 h2 hb sB em eR e2 e3 r1; exact om [h.length,us.length,r.length,m,x.length] [] [(.eq (.a Y2 (.n 1)) (.a (.a Y1 Y3) (.n 1))),(.eq (.a (.a Y2 (.n 1)) (.n 1)) (.a Y4 Y0)),(.le (.a Y1 (.n 1)) Y0),(.le (.a Y3 (.n 1)) Y4)] (.eq Y0 (.a Y1 (.n 1))) [[1,0,0,0,0,1],[1,1,0,0,1,0,1]] rfl hn ln n1 n2
  obtain ⟨k,hk⟩:=oJ (n3 ▸ pW h) pu r1
  refine ad (id th) fun lh lah lh0=>?_
  have ll:=cN hG.last lah
  rw [← em,la] at ll
  have sh:Sm K lh:=sK.of_le (by
    rw [Option.some.inj ll,Int.natAbs_mul]
    exact Nat.le_mul_of_pos_left _ (Int.natAbs_pos.mpr lx0))
  exact ⟨ln,n3,row_sm hk n3 lah sh hB hb sB,r1⟩
section
variable {sub:Nat→Nat→Bool} {P:List Fn} {f n dv tr re wl ro qu co sp:Nat} {H:Hp} {Q:V→Hp→Prop} {X:Nat→Hp→Prop}
theorem wA (e:P[f]?=some ⟨1,2,rU tr re qu co sp⟩) (et:P[tr]?=some ⟨1,2,mL⟩) (er:P[re]?=some ⟨1,3,nH dv ngQ⟩) (ed:P[dv]?=some ⟨2,3,bW⟩) (eq:P[qu]?=some ⟨2,5,uC wl⟩) (ew:P[wl]?=some ⟨4,7,bWl⟩) (ec:P[co]?=some ⟨2,3,jN ro re⟩) (eo:P[ro]?=some ⟨2,3,qR tr wl re⟩) (es:P[sp]?=some ⟨1,1,nY⟩)
    {v:V} {row:List Int} {us:List Re} {l B:Int} {K b m:Nat} (hv:items H v=some (row.map .int)) (la:row.getLast?=some l) (l0:l≠0) (sm:AllSm K row) (hn:row.length=us.length+m+1) (h5:row.length≤5) (hu0:1≤us.length) (pu:us.Pairwise (·≠·)) (h1:RA row us) (h2:RB row m) (hB:0≤B) (hb:∀ u∈us,ab u≤(B:Re)) (sB:Sm b (1+B)) (hK:K≤130000) (hb':b≤1000)
    (hQ:∀ H' i R,H<+:H'→H'[i]?=some (R.map .int)→PlO (K+(b*us.length+1)) us R→Q (.lst i) H'):aj sub P (n+5) f [v] H Q X:=by
  have hmem:=List.mem_of_getLast? la
  refine ai e rfl ?_
  dsimp only [rU,qS1,qS2,qS3,bj,fA,qE1,qE5,bh,aO,br,aC,aD,az,aA,ax,aw,aP,ay,aq,ac,af,au,Nat.reduceSub]
  refine xE et hv fun ys j' hz ty=>?_
  have hys:ys=row:=lO ty (.inr ⟨l,la,l0⟩) fun t=>(oR hz t).symm
  subst hys
  refine ifSome.mk (ag _ _ _) ?_
  dsimp only [fY,aZ,ac]
  rw [List.length_map,decide_eq_false (by clear hz h1 h2 hb; exact om [ys.length,us.length,m] [] [(.le (.n 1) Y1),(.eq Y0 (.a (.a Y1 Y2) (.n 1)))] (.no (.il (.a (.c Y0) (.n 1)) (.n 2))) [[1,1,0,1]] rfl hu0 hn)]
  dsimp only [wH,qS1,qS2,qS3,qS9,qE5,aO,aC,aD,bR,ac,af,au]
  refine mP (n:=n+3) (ng:=ngQ) uH er (fun a b H' Z X' hz=>jr ed hz) (v:=.lst H.length) (ag _ _ _) la l0 (by clear hz h1 h2 hb; exact om [ys.length] [] [(.le Y0 (.n 5))] (.le Y0 (.n 1000)) [[1,1]] rfl h5) ?_
  generalize hH1:H++[ys.map V.int]=H1
  have hp1:H<+:H1:=by rw [← hH1]; exact ah _ _
  have g0:=dX (ej hmem l0)
  have hev:∀ t,evR ys t=((gOf ys l:Int):Re)*evR (cn ys l) t:=fun t=>by rw [← cS,dz]
  have gz:=ej hmem l0
  have h1':RA (cn ys l) us:=fun u hu=>(h1 u hu).imp (fun k=>k.imp (fun k=>k.scale g0 hev) fun k=>k.scale g0 hev) fun k=>⟨k.1,k.2.red gz dz⟩
  have h2':RB (cn ys l) m:=h2.imp (fun k=>by refine bU (k) fun ds hd pd k=>?_; exact ⟨ds,hd,pd,fun u hu=>(k u hu).scale g0 hev⟩) fun k=>⟨k.1,k.2.red gz dz⟩
  have la':=bw la
  have l0':=cP hmem l0
  have one':=dM hmem l0
  have sm':=iu hmem l0 sm
  have ln':=@fH ys l
  generalize cn ys l=F at *
  generalize l.fdiv (gOf ys l)=lF at *
  cases F with
  | nil=>cases la'
  | cons c r =>
    have tF:Tr (c :: r):=⟨lF,la',Int.ne_of_gt l0'⟩
    have tr':Tr r:=by
      cases r with
      | nil=>rw [List.length_singleton] at ln'; clear hz h1 h2 hb h1' h2'; omega
      | cons y w=>exact tF.tl
    have hrl:r.length≤4:=by rw [List.length_cons] at ln'; clear hz h1 h2 hb h1' h2'; exact om [r.length,ys.length] [] [(.le Y1 (.n 5)),(.eq (.a Y0 (.n 1)) Y1)] (.le Y0 (.n 4)) [[1,1,1]] rfl h5 ln'
    refine zQ es (c:=c) (r:=r) (ag _ _ _) (by clear hz h1 h2 hb h1' h2'; exact om [r.length] [] [(.le Y0 (.n 4))] (.le Y0 (.n 900)) [[1,1]] rfl hrl) ?_
    generalize hH2:H1++[(c :: r).map V.int]=H2
    have hk1:H2[H1.length]?=some ((c :: r).map V.int):=by rw [← hH2]; exact ag _ _ _
    have hp2:H1<+:H2:=by rw [← hH2]; exact ah _ _
    have ssl:AllSm (64+K) (sl 1 r):=by
      have:∀ (r:List Int) (k:Int),0≤k→k+r.length≤1000→AllSm K r→AllSm (64+K) (sl k r):=by
        intro r
        induction r with
        | nil=>intro k _ _ _; exact .nil
        | cons y w ih =>
          intro k h0 h1 h2
          rw [List.length_cons] at h1
          exact .cons ((qi ⟨h0,by exact om [w.length] [k] [(.il (.a Y0 (.c (.a Y0 (.n 1)))) (.n 1000))] (.il Y0 (.n 1000000)) [[1,1]] rfl h1⟩).mul h2.hd) (ih (k+1) (by exact om [] [k] [(.il (.n 0) Y0)] (.il (.n 0) (.a Y0 (.n 1))) [[1,1]] rfl h0) (by exact om [w.length] [k] [(.il (.a Y0 (.c (.a Y0 (.n 1)))) (.n 1000))] (.il (.a (.a Y0 (.n 1)) (.c Y0)) (.n 1000)) [[1,1]] rfl h1) h2.tl)
      exact this r 1 (by decide) (by clear hz h1 h2 hb h1' h2'; exact om [r.length] [] [(.le Y0 (.n 4))] (.il (.a (.n 1) (.c Y0)) (.n 1000)) [[1,1]] rfl hrl) sm'.tl
    have tsl:=AS (k:=1) (by decide) tr'
    refine vO ec eo et ew er ed zx (A:=c :: r) (B:=sl 1 r) (N:=5) (K:=64+K) (v:=.lst H1.length) (w:=.lst H2.length) (by rw [iA tF.ne]; exact ao (ah _ _) hk1) (by rw [dU tsl,iA tsl.ne]; exact ag _ _ _) tF (.inr tsl) (by rw [ln']; exact h5) (by rw [xf]; clear hz h1 h2 hb h1' h2'; exact om [r.length] [] [(.le Y0 (.n 4))] (.le Y0 (.n 5)) [[1,1]] rfl hrl) (by decide) (sm'.mono (by clear hz h1 h2 hb h1' h2'; exact om [K] [] [] (.le Y0 (.a (.n 64) Y0)) [[1]] rfl)) ssl (by clear hz h1 h2 hb h1' h2'; omega) fun H3 i x lx hp3 hi hx sx=>?_
    refine ad (vc hx.one one' hx.last la' (Int.ne_of_gt hx.pos) (Int.ne_of_gt l0') hx.d1) fun h th eh=>?_
    refine bP (tW hx la' (Int.ne_of_gt l0') (sm' lF (List.mem_of_getLast? la')) th eh (by rw [ln']; exact hn) pu h1' h2' hB hb sB) fun q1 q2 q3 q4=>?_
    rw [iA (by intro h; rw [h] at hx; cases hx.last)] at hi
    have hk3:H3[H1.length]?=some ((c :: r).map V.int):=ao hp3 (ao (ah _ _) hk1)
    refine ad (id th) fun lh lah lh0=>?_
    have mh:=List.mem_of_getLast? lah
    refine CD eq ew (v:=.lst H1.length) (w:=.lst i) hk3 hi hx.last (Int.ne_of_gt hx.pos) eh q1 (by clear hz h1 h2 hb h1' h2'; exact om [r.length] [] [(.le Y0 (.n 4))] (.le (.a Y0 (.n 1)) (.n 800)) [[1,1]] rfl hrl) sx q3 (by
      have:=Nat.mul_le_mul hb' (show us.length≤4 by clear hz h1 h2 hb h1' h2'; exact om [us.length,ys.length,m] [] [(.eq Y1 (.a (.a Y0 Y2) (.n 1))),(.le Y1 (.n 5))] (.le Y0 (.n 4)) [[1,0,1,1]] rfl hn h5)
      clear hz h1 h2 hb h1' h2'; omega) fun H4 i4 hp4 hi4=>?_
    refine mP (n:=n+3) (ng:=ngQ) uH er (fun a b H' Z X' hz=>jr ed hz) (v:=.lst i4) hi4 lah lh0 (by clear hz h1 h2 hb h1' h2'; exact om [h.length,us.length,ys.length,m] [] [(.eq Y2 (.a (.a Y1 Y3) (.n 1))),(.le Y2 (.n 5)),(.eq Y0 (.a Y1 (.n 1)))] (.le Y0 (.n 1000)) [[1,0,1,1,1]] rfl hn h5 q2) ?_
    have hpp:H<+:H4:=ae hp1 (ae hp2 (ae (ah _ _) (ae hp3 hp4)))
    refine hQ _ _ _ (ae hpp (ah _ _)) (ag _ _ _) ⟨⟨_,bw lah,cP mh lh0⟩,dM mh lh0,by rw [fH,q2],?_,iu mh lh0 q3⟩
    have gh:=dX (ej mh lh0)
    have he:∀ t,evR h t=((gOf h lh:Int):Re)*evR (cn h lh) t:=fun t=>by rw [← cS,dz]
    have lR:(cn h lh).length=us.length+1:=by rw [fH,q2]
    obtain ⟨k',ek'⟩:=oJ (rs:=us) (lR ▸ pW (cn h lh)) pu fun u hu=>aR (by rw [← he,q4 u hu]) gh
    exact ⟨k',by rw [(ri ek' lR (bw lah)).2]; exact cz (cP mh lh0),ek'⟩
end
end Mine
set_option maxRecDepth 100000
namespace Mine
open PySem Re
noncomputable def rB (ta:Nat):PS:=(.seq (.ite (.cmp .eq (.bin .mod (.var 1) (.cint 2)) (.cint 1)) (.seq (.ret (.call ta (.cons (.var 0) .nil)))
 .skip) .skip)
 (.seq (.ret (.var 0)) .skip))
noncomputable def Bl (ps pr sg:Nat):PS:=(.seq (.assign 4 (.call ps (.cons (.var 4) (.cons (.call sg (.cons (.call pr (.cons (.idx (.var 2) (.bin .sub (.var 3) (.var 5))) (.cons (.idx (.var 0) (.var 5)) .nil))) (.cons (.bin .sub (.var 5) (.cint 1)) .nil))) .nil))))
 .skip)
noncomputable def Db (pr:Nat):PS:=(.seq (.app 2 (.call pr (.cons (.var 4) (.cons (.tup (.cons (.cint 1) (.cons (.var 3) .nil))) .nil))))
 .skip)
noncomputable def BG (ps pr sg : Nat) : PS := (.seq (.assign 4 (.glob (Str.ofString "NOUGHT") 0 1))
 (.seq (.forr 5 (.rng (.cons (.cint 1) (.cons (.bin .add (.var 3) (.cint 1)) .nil))) (Bl ps pr sg))
 (Db pr)))
noncomputable def eb (i:Nat):Nat:=210*4 ^ i
noncomputable def sb (k:Nat):Nat:=(k+1)*(100*2 ^ k+108)
noncomputable def tbE (w:Nat):Nat→Nat
  | 0=>1
  | j+1=>tbE w j+(eb (w - (j+1))+sb (j+1))+1
theorem Bo:∀ w,w < 5→∀ j,j < w→tbE w j+(eb (w - (j+1))+sb (j+1))+1≤60000:=by decide
theorem Ah:∀ w,w < 5→1≤w→tbE w w+3≤eb w:=by decide
theorem wO:∀ w,w < 5→eb w≤60000:=by decide
section
variable {sub:Nat→Nat→Bool} {P:List Fn} {f n dv pa ps pr ta sg:Nat} {H:Hp} {Q:V→Hp→Prop} {X:Nat→Hp→Prop} {W:Nat→Prop} {NN:Loc→Hp→Prop} {R:V→Hp→Prop} {Y:Nat→Hp→Prop} {x y z w:Re}
theorem A9 (e:P[sg]?=some ⟨2,2,rB ta⟩) (et:P[ta]?=some ⟨1,1,gu⟩) {k j:Nat} {v:V} {i:Int} (a:Pv k x v) (hi:i=(j:Int)) (hQ:∀ u,Pv k (sgr j x) u→Q u H):aj sub P (n+2) sg [v,.int i] H Q X:=by
  subst hi
  refine aJ (a) fun p q zq122 L hx=>?_; subst zq122
  have hm:(j:Int).fmod 2=((j % 2:Nat):Int):=by rw [Int.fmod_eq_emod_of_nonneg _ (by decide)]; rfl
  refine ai e rfl ?_
  dsimp only [rB,qS1,qS2,qS9,bj,qE1,qE5,qE8,bh,aO,aC,aD,w7,gi,aZ,az,aA,ax,aw,ay,aq,ac,af,Nat.reduceSub]
  refine ⟨by decide,?_⟩
  rw [hm]
  by_cases h:j % 2=1
  · rw [decide_eq_true (show ((j % 2:Nat):Int)=1 by rw [h]; rfl)]
    refine wN et (hQ _ ⟨-p,q,rfl,L.neg,?_⟩)
    unfold sgr; rw [if_pos h]; exact gY hx
  · rw [decide_eq_false (by clear hQ; (exact om [j % 2] [] [(.no (.eq Y0 (.n 1)))] (.no (.ie (.c Y0) (.n 1))) [[0,1,1],[1,0,1]] rfl h))]
    refine hQ _ ⟨p,q,rfl,L,?_⟩
    unfold sgr; rw [if_neg h]; exact hx
theorem Bh (e:P[ps]?=some ⟨2,2,eK pa⟩) (er:P[pr]?=some ⟨2,2,cH pa⟩) (es:P[sg]?=some ⟨2,2,rB ta⟩) (et:P[ta]?=some ⟨1,1,gu⟩) (ep:P[pa]?=some ⟨2,3,bL dv⟩) (ed:P[dv]?=some ⟨2,3,bW⟩) {o1 o6 o7 o8 o9:Option V} {us vs:List V} {a m l:Nat} (hl:l≤4) (ha:H[a]?=some us) (hm:H[m]?=some vs) (hu:PvL sb (p4 x y z w) 5 us) (hv:PvL eb (eF x y z w) l vs)
    (hN:∀ t o5,Pv (tbE l l) (tE x y z w l l) t→NN [some (.lst a),o1,some (.lst m),some (.int l),some t,o5,o6,o7,o8,o9] H):∀ (r j:Nat) (t:V) (o5:Option V),j+r=l→Pv (tbE l j) (tE x y z w l j) t →
    bx (fun ρ2 H2 k=>wpS sub (aj sub P (n+3)) W (Bl ps pr sg) ρ2 H2 k R fun _ _=>False) 5 ((List.range' j r).map fun (i:Nat)=>V.int (1+(i:Int))) [some (.lst a),o1,some (.lst m),some (.int l),some t,o5,o6,o7,o8,o9] H NN
  | 0,j,t,o5,hj,ht=>by
    obtain rfl:j=l:=hj
    exact hN t o5 ht
  | r+1,j,t,o5,hj,ht=>by
    refine ad (hv.2 (l - (j+1)) (by clear hN; (exact om [l - (j+1),l,j,r] [] [(.eq (.a Y2 (.a Y3 (.n 1))) Y1),(.or (.an (.le (.a Y2 (.n 1)) Y1) (.eq Y1 (.a Y0 (.a Y2 (.n 1))))) (.an (.le Y1 (.a Y2 (.n 1))) (.eq Y0 (.n 0))))] (.le (.a Y0 (.n 1)) Y1) [[1,0,0,0,0,1],[1,1,0,0,1]] rfl hj (aN (l) (j+1))))) fun v hv1 hv2=>?_
    refine ad (hu.2 (j+1) (by clear hN; (exact lin [l,j,r] [(1,Y0,(.n 4)),(1,(.a Y1 (.a Y2 (.n 1))),Y0)] (.a (.a Y1 (.n 1)) (.n 1)) (.n 5) rfl hl (Nat.le_of_eq hj)))) fun u hu1 hu2=>?_
    rw [List.range'_succ,List.map_cons]
    dsimp only [bx,Bl,qS1,qS2,qS3,qE1,qE5,qE8,aO,aY,aC,aD,cM,cy,ac,af,au]
    refine zu hm (k:=(l:Int) - (1+(j:Int))) (by clear hN; (exact om [l,j,r] [] [(.eq (.a Y1 (.a Y2 (.n 1))) Y0)] (.il (.n 0) (.s (.c Y0) (.a (.n 1) (.c Y1)))) [[1,1]] rfl hj)) (by rw [show ((l:Int) - (1+(j:Int))).toNat=l - (j+1) by clear hN; (exact om [((↑l:Int) - (1+(↑j:Int))).toNat,l,j,l - (j+1)] [] [(.or (.an (.il (.n 0) (.s (.c Y1) (.a (.n 1) (.c Y2)))) (.ie (.c Y0) (.s (.c Y1) (.a (.n 1) (.c Y2))))) (.an (.il (.s (.c Y1) (.a (.n 1) (.c Y2))) (.n 0)) (.eq Y0 (.n 0)))),(.or (.an (.le (.a Y2 (.n 1)) Y1) (.eq Y1 (.a Y3 (.a Y2 (.n 1))))) (.an (.le Y1 (.a Y2 (.n 1))) (.eq Y3 (.n 0))))] (.eq Y0 Y3) [[1,0,0,1,0,0,1],[1,0,0,0,0,1],[1,1,0,0,0,0,1],[1,0,1,0,0,1],[1,0,1,0,1],[1,0,1]] rfl (bo ((↑l:Int) - (1+(↑j:Int)))) (aN (l) (j+1)))]; exact hv1) ?_
    refine zu ha (k:=1+(j:Int)) (by clear hN; (exact om [j] [] [] (.il (.n 0) (.a (.n 1) (.c Y0))) [[1]] rfl)) (by rw [show (1+(j:Int)).toNat=j+1 by clear hN; (exact om [(1+(↑j:Int)).toNat,j] [] [(.or (.an (.il (.n 0) (.a (.n 1) (.c Y1))) (.ie (.c Y0) (.a (.n 1) (.c Y1)))) (.an (.il (.a (.n 1) (.c Y1)) (.n 0)) (.eq Y0 (.n 0))))] (.eq Y0 (.a Y1 (.n 1))) [[1,0,0,1],[0,1],[1,0,1]] rfl (bo (1+(↑j:Int))))]; exact hu1) ?_
    have hb:=Bo l (by clear hN; (exact lin [l,j,r] [(1,Y0,(.n 4))] (.a Y0 (.n 1)) (.n 5) rfl hl)) j (by clear hN; (exact lin [j,r,l] [(1,(.a Y0 (.a Y1 (.n 1))),Y2)] (.a Y0 (.n 1)) Y2 rfl (Nat.le_of_eq hj)))
    refine t8 er ep ed hv2 hu2 (by clear hN; (exact lin [tbE l j,eb (l - (j+1)),sb (j+1)] [(1,(.a (.a Y0 (.a Y1 Y2)) (.n 1)),(.n 60000))] (.a Y1 Y2) (.n 100000) rfl hb)) fun t1 h1=>?_
    refine A9 es et h1 (j:=j) (by clear hN; (exact om [j] [] [] (.ie (.s (.a (.n 1) (.c Y0)) (.n 1)) (.c Y0)) [[1]] rfl)) fun t2 h2=>?_
    refine wQ e ep ed ht h2 (by clear hN; (exact lin [tbE l j,eb (l - (j+1)),sb (j+1)] [(1,(.a (.a Y0 (.a Y1 Y2)) (.n 1)),(.n 60000))] (.a (.a Y0 (.a Y1 Y2)) (.n 1)) (.n 100000) rfl hb)) fun t3 h3=>?_
    exact Bh e er es et ep ed hl ha hm hu hv hN r (j+1) t3 _ (by clear hN; (exact om [j,r,l] [] [(.eq (.a Y0 (.a Y1 (.n 1))) Y2)] (.eq (.a (.a Y0 (.n 1)) Y1) Y2) [[1,0,1],[1,1]] rfl hj)) h3
theorem jY (e:P[ps]?=some ⟨2,2,eK pa⟩) (er:P[pr]?=some ⟨2,2,cH pa⟩) (es:P[sg]?=some ⟨2,2,rB ta⟩) (et:P[ta]?=some ⟨1,1,gu⟩) (ep:P[pa]?=some ⟨2,3,bL dv⟩) (ed:P[dv]?=some ⟨2,3,bW⟩) {o1 o4 o5 o6 o7 o8 o9:Option V} {us vs:List V} {a m l:Nat} (hl1:1≤l) (hl:l≤4) (ha:H[a]?=some us) (hm:H[m]?=some vs) (hW:W m) (hu:PvL sb (p4 x y z w) 5 us) (hv:PvL eb (eF x y z w) l vs)
    (hN:∀ vs' o4 o5,PvL eb (eF x y z w) (l+1) vs'→NN [some (.lst a),o1,some (.lst m),some (.int l),o4,o5,o6,o7,o8,o9] (H.set m vs')) :
    wpS sub (aj sub P (n+3)) W (BG ps pr sg) [some (.lst a),o1,some (.lst m),some (.int l),o4,o5,o6,o7,o8,o9] H NN R Y:=by
  have nought:Pv 1 0 (pt 0 1):=Pv.whole (k:=0) (c:=0) Sm.zero
  dsimp only [BG,qS2,qS3,b5,qE1,qE5,qE7,qE8,aC,aD,qI3,cw,ac,af,au]
  refine DQ (aB (by decide) (by decide)) (aB (by clear hN; (exact om [l] [] [] (.il (.g (.n 1000000)) (.a (.c Y0) (.n 1))) [[1]] rfl)) (by clear hN; (exact om [l] [] [(.le Y0 (.n 4))] (.il (.a (.c Y0) (.n 1)) (.n 1000000)) [[1,1]] rfl hl))) ?_
  rw [show ((l:Int)+1 - 1).toNat=l by clear hN; (exact om [((↑l:Int)+1 - 1).toNat,l] [] [(.or (.an (.il (.n 0) (.s (.a (.c Y1) (.n 1)) (.n 1))) (.ie (.c Y0) (.s (.a (.c Y1) (.n 1)) (.n 1)))) (.an (.il (.s (.a (.c Y1) (.n 1)) (.n 1)) (.n 0)) (.eq Y0 (.n 0))))] (.eq Y0 Y1) [[1,0,0,1],[1,1],[1,0,1]] rfl (bo ((↑l:Int)+1 - 1)))]
  refine Bh e er es et ep ed hl ha hm hu hv (fun t o5 ht=>?_) l 0 _ _ (Nat.zero_add l) nought
  dsimp only [Db,qS1,qS2,qS6,qE1,qE5,aO,cJ,aC,aD,ac,cl,af]
  refine ⟨hW,?_⟩
  have l0:0 < (l:Int):=by clear hN; (exact om [l] [] [(.le (.n 1) Y0)] (.il (.a (.n 0) (.n 1)) (.c Y0)) [[1,1]] rfl hl1)
  have ll:Pv 3 (rq 1 l) (pt 1 l):=⟨1,l,rfl,⟨by unfold Sm; decide,by unfold Sm; rw [show (2:Nat) ^ 3=8 by decide]; clear hN; (exact lin [l] [(1,Y0,(.n 4))] (.a Y0 (.n 1)) (.n 8) rfl hl),l0,Int.one_gcd⟩,bG (Int.ne_of_gt l0)⟩
  have hb:=Ah l (by clear hN; (exact lin [l] [(1,Y0,(.n 4))] (.a Y0 (.n 1)) (.n 5) rfl hl)) hl1
  have hb2:=wO l (by clear hN; (exact lin [l] [(1,Y0,(.n 4))] (.a Y0 (.n 1)) (.n 5) rfl hl))
  refine t8 er ep ed ht ll (by clear hN; (exact lin [tbE l l,eb l] [(1,(.a Y0 (.n 3)),Y1),(1,Y1,(.n 60000))] (.a Y0 (.n 3)) (.n 100000) rfl hb hb2)) fun t1 h1=>?_
  refine ifSome.mk hm ⟨by rw [hv.1]; unfold lim; clear hN; (exact lin [l] [(1,Y0,(.n 4))] (.a Y0 (.n 1)) (.n 1000000) rfl hl),hN _ _ _ (hv.snoc ((h1.mono hb).eq ?_))⟩
  have:=bG (p:=1) (Int.ne_of_gt l0)
  rw [← Bq hl1 hl]
  have h3:((l:Int):Re)*eF x y z w l*rq 1 l=eF x y z w l*(((l:Int):Re)*rq 1 l):=by grind
  rw [h3,this]; show _*(1:Re)=_; grind
end
end Mine
set_option maxRecDepth 100000
namespace Mine
open PySem Re
noncomputable def B3 (sg:Nat):PS:=(.seq (.assign 9 (.call sg (.cons (.idx (.var 2) (.var 5)) (.cons (.var 5) .nil))))
 (.seq (.app 8 (.bin .mul (.idx (.var 9) (.cint 0)) (.bin .fdiv (.var 6) (.idx (.var 9) (.cint 1)))))
 .skip))
noncomputable def Cp (sg pl:Nat):PS:=(.seq (.assign 8 (.lst .nil))
 (.seq (.forr 5 (.rng (.cons (.var 1) (.cons (.neg (.cint 1)) (.cons (.neg (.cint 1)) .nil)))) (B3 sg))
 (.seq (.ret (.call pl (.cons (.var 8) .nil))) .skip)))
noncomputable def Cu (dv:Nat):PS:=(.seq (.assign 6 (.bin .fdiv (.bin .mul (.var 6) (.idx (.var 7) (.cint 1))) (.call dv (.cons (.var 6) (.cons (.idx (.var 7) (.cint 1)) .nil)))))
 .skip)
noncomputable def DS (dv sg pl:Nat):PS:=(.seq (.assign 6 (.cint 1))
 (.seq (.forr 7 (.seq (.var 2)) (Cu dv))
 (Cp sg pl)))
noncomputable def bRo (dv ps pr sg pl:Nat):PS:=(.seq (.assign 1 (.bin .sub (.bi .len (.cons (.var 0) .nil)) (.cint 1)))
 (.seq (.assign 2 (.lst (.cons (.glob (Str.ofString "ONE") 1 1) .nil)))
 (.seq (.forr 3 (.rng (.cons (.cint 1) (.cons (.bin .add (.var 1) (.cint 1)) .nil))) (BG ps pr sg))
 (DS dv sg pl))))
noncomputable def scb:Nat→Nat
  | 0=>1
  | j+1=>scb j+eb j
theorem yh:∀ j,j < 6→scb j≤71611:=by decide
theorem BK {s q:Int} (hs:0 < s) (hq:0 < q):0 < (s*q).fdiv ((s.gcd q:Nat):Int)∧s ∣ (s*q).fdiv ((s.gcd q:Nat):Int)∧q ∣ (s*q).fdiv ((s.gcd q:Nat):Int)∧(s*q).fdiv ((s.gcd q:Nat):Int)≤s*q:=by
  obtain ⟨a,ha⟩:=Int.gcd_dvd_left s q
  obtain ⟨b,hb⟩:=Int.gcd_dvd_right s q
  have hg:0 < ((s.gcd q:Nat):Int):=Int.natCast_pos.mpr (Int.gcd_pos_of_ne_zero_left q (Int.ne_of_gt hs))
  generalize ((s.gcd q:Nat):Int)=g at *
  have ha0:0 < a:=Int.pos_of_mul_pos_right (ha ▸ hs) hg
  have hb0:0 < b:=Int.pos_of_mul_pos_right (hb ▸ hq) hg
  have e:(s*q).fdiv g=a*q:=by rw [ha,Int.mul_assoc,Int.mul_fdiv_cancel_left _ (Int.ne_of_gt hg)]
  rw [e]
  refine ⟨Int.mul_pos ha0 hq,⟨b,by rw [hb,ha]; grind⟩,⟨a,Int.mul_comm ..⟩,?_⟩
  rw [ha]
  have:=Int.mul_le_mul_of_nonneg_right (show a≤g*a by have:=Int.mul_le_mul_of_nonneg_right (show 1≤g by (exact om [] [g] [(.il (.a (.n 0) (.n 1)) Y0)] (.il (.n 1) Y0) [[1,1]] rfl hg)) (Int.le_of_lt ha0); (exact om [] [a,g*a] [(.il (.m 1 Y0) Y1)] (.il Y0 Y1) [[1,1]] rfl this)) (Int.le_of_lt hq)
  exact this
section
variable {sub:Nat→Nat→Bool} {P:List Fn} {f n dv pa ps pr ta sg pl tr re wl ro qu co sp:Nat} {H:Hp} {Q:V→Hp→Prop} {X:Nat→Hp→Prop} {W:Nat→Prop} {NN:Loc→Hp→Prop} {R:V→Hp→Prop} {Y:Nat→Hp→Prop} {x y z w:Re}
noncomputable def Sc (x y z w:Re) (vs:List V) (j:Nat) (s:Int):Prop:=0 < s∧Sm (scb j) s∧∀ i,i < j→∃ p q:Int,vs[i]?=some (pt p q)∧Low (eb i) p q∧(q:Re)*eF x y z w i=p∧q ∣ s
theorem Az (ed:P[dv]?=some ⟨2,3,bW⟩) {o0 o1 o2 o3 o4 o5 o8 o9:Option V} {vs:List V} (hv:PvL eb (eF x y z w) 5 vs)
    (hN:∀ s o7,Sc x y z w vs 5 s→NN [o0,o1,o2,o3,o4,o5,some (.int s),o7,o8,o9] H):∀ (rest:List V) (j:Nat) (s:Int) (o7:Option V),rest=vs.drop j→j+rest.length=5→Sc x y z w vs j s →
    bx (fun ρ2 H2 k=>wpS sub (aj sub P (n+1)) W (Cu dv) ρ2 H2 k R fun _ _=>False) 7 rest [o0,o1,o2,o3,o4,o5,some (.int s),o7,o8,o9] H NN
  | [],j,s,o7,_,hj,hs=>by
    obtain rfl:j=5:=hj
    exact hN s o7 hs
  | v :: rest,j,s,o7,hr,hj,⟨h0,h1,h2⟩=>by
    rw [List.length_cons] at hj
    refine jg (hv.2 j (by clear hN h2; (exact lin [j,rest.length] [(1,(.a Y0 (.a Y1 (.n 1))),(.n 5))] (.a Y0 (.n 1)) (.n 5) rfl (Nat.le_of_eq hj)))) fun u hu p q zq21 L hx=>?_; subst zq21
    have hd:vs.drop j=pt p q :: vs.drop (j+1):=List.drop_eq_getElem?_toList_append.trans (by rw [hu]; rfl)
    rw [hd] at hr
    obtain ⟨hv1,hr2⟩:=List.cons.inj hr
    subst hv1
    dsimp only [bx,Cu,qS1,qS2,qS3,qE1,qE5,qE8,aO,aY,aC,aD,cx,cr,ac,af,au]
    have b1:=yh j (by clear hN h2; (exact lin [j,rest.length] [(1,(.a Y0 (.a Y1 (.n 1))),(.n 5))] (.a Y0 (.n 1)) (.n 6) rfl (Nat.le_of_eq hj)))
    have b2:=wO j (by clear hN h2; (exact lin [j,rest.length] [(1,(.a Y0 (.a Y1 (.n 1))),(.n 5))] (.a Y0 (.n 1)) (.n 5) rfl (Nat.le_of_eq hj)))
    refine ⟨IntMulOk.sm h1 L.bot (by clear hN h2; (exact lin [scb j] [(1,Y0,(.n 71611))] Y0 (.n 1048576) rfl b1)) (by clear hN h2; (exact lin [eb j] [(1,Y0,(.n 60000))] Y0 (.n 1048576) rfl b2)),?_⟩
    refine jr ed ?_
    have hg:0 < ((s.gcd q:Nat):Int):=Int.natCast_pos.mpr (Int.gcd_pos_of_ne_zero_left q (Int.ne_of_gt h0))
    refine ⟨Int.ne_of_gt hg,?_⟩
    refine bP (BK h0 L.pos) fun k1 k2 k3 k4=>?_
    generalize (s*q).fdiv ((s.gcd q:Nat):Int)=s' at *
    refine Az ed hv hN rest (j+1) s' _ hr2 (by clear hN h2; (exact om [j,rest.length] [] [(.eq (.a Y0 (.a Y1 (.n 1))) (.n 5))] (.eq (.a (.a Y0 (.n 1)) Y1) (.n 5)) [[1,0,1],[1,1]] rfl hj)) ⟨k1,(h1.mul L.bot).of_le (by clear hN h2; (exact om [s'.natAbs,(s*q).natAbs] [s',s*q] [(.il (.a (.n 0) (.n 1)) Y0),(.il Y0 Y1),(.an (.il Y1 (.c Y1)) (.il (.g Y1) (.c Y1))),(.or (.an (.il (.n 0) Y0) (.ie (.c Y0) Y0)) (.an (.il Y0 (.n 0)) (.ie (.c Y0) (.g Y0))))] (.le Y0 Y1) [[1,0,1,1,0,0,1],[1,1,0,0,0,0,1]] rfl k1 k4 (c5 (s*q)) (bT (s')))),fun i hi=>?_⟩
    by_cases g:i=j
    · subst g; exact ⟨p,q,hu,L,hx,k3⟩
    · refine eC (h2 i (by clear hN h2; (exact om [i,j] [] [(.le (.a Y0 (.n 1)) (.a Y1 (.n 1))),(.no (.eq Y0 Y1))] (.le (.a Y0 (.n 1)) Y1) [[1,0,1],[0,1,1]] rfl hi g))) fun p' q' a1 a2 a3 a4=>?_
      exact ⟨p',q',a1,a2,a3,Int.dvd_trans a4 k2⟩
theorem hF (e:P[sg]?=some ⟨2,2,rB ta⟩) (et:P[ta]?=some ⟨1,1,gu⟩) {o0 o1 o3 o4 o7 o9:Option V} {vs xs:List V} {m b k:Nat} {s:Int} (hk:k≤4) (hm:H[m]?=some vs) (hb:H[b]?=some xs) (hW:W b) (hx:xs.length≤4) (hs:Sc x y z w vs 5 s)
    (hN:∀ (u:Int) o9,(u:Re)=(s:Re)*sgr k (eF x y z w k)→Sm (eb k+scb 5) u→NN [o0,o1,some (.lst m),o3,o4,some (.int k),some (.int s),o7,some (.lst b),o9] (H.set b (xs++[.int u]))) :
    wpS sub (aj sub P (n+2)) W (B3 sg) [o0,o1,some (.lst m),o3,o4,some (.int k),some (.int s),o7,some (.lst b),o9] H NN R Y:=by
  refine fx (hs) fun h0 h1 h2=>?_
  refine vx (h2 k (by clear hN h2; (exact lin [k] [(1,Y0,(.n 4))] (.a Y0 (.n 1)) (.n 5) rfl hk))) fun p q hv L hx' c hc=>?_
  have q0:=L.pos
  dsimp only [B3,qS1,qS2,qS3,qS6,qE1,qE5,qE8,aO,aY,aC,aD,cy,ac,cl,af,au]
  refine zu hm (k:=(k:Int)) (by clear hN h2; (exact om [k] [] [] (.il (.n 0) (.c Y0)) [[1]] rfl)) hv ?_
  have key:∀ p':Int,Sm (eb k) p'→(q:Re)*sgr k (eF x y z w k)=p'→wpS sub (aj sub P (n+2)) W (.seq (.app 8 (.bin .mul (.idx (.var 9) (.cint 0)) (.bin .fdiv (.var 6) (.idx (.var 9) (.cint 1))))) .skip) [o0,o1,some (.lst m),o3,o4,some (.int k),some (.int s),o7,some (.lst b),some (pt p' q)] H NN R Y:=fun p' L' hp'=>by
    dsimp only [qS1,qS2,qS6,qE1,qE5,qE8,aY,cx,yo,cq,cr,ac,cl,af]
    have sc:Sm (scb 5) c:=h1.of_le (by rw [hc,Int.natAbs_mul]; exact Nat.le_mul_of_pos_left _ (Int.natAbs_pos.mpr (Int.ne_of_gt q0)))
    have hd:s.fdiv q=c:=by rw [hc,Int.mul_fdiv_cancel_left _ (Int.ne_of_gt q0)]
    have b2:=wO k (by clear hN h2; (exact lin [k] [(1,Y0,(.n 4))] (.a Y0 (.n 1)) (.n 5) rfl hk))
    have b3:=yh 5 (by decide)
    rw [hd]
    refine ⟨hW,Int.ne_of_gt q0,IntMulOk.sm L' sc (by clear hN h2; (exact lin [eb k] [(1,Y0,(.n 60000))] Y0 (.n 1048576) rfl b2)) (by clear hN h2; (exact lin [scb 5] [(1,Y0,(.n 71611))] Y0 (.n 1048576) rfl b3)),?_⟩
    refine ifSome.mk hb ⟨by unfold lim; clear hN h2; (exact lin [xs.length] [(1,Y0,(.n 4))] (.a Y0 (.n 1)) (.n 1000000) rfl hx),hN _ _ ?_ (L'.mul sc)⟩
    rw [am,← hp',hc,am]; grind
  refine A9 e et (j:=k) ⟨p,q,rfl,L,hx'⟩ rfl fun u hu=>?_
  refine aJ (hu) fun p' q' zq123 L' hp'=>?_; subst zq123
  have hqq:q'=q:=by
    rcases (show sgr k (eF x y z w k)=eF x y z w k∨sgr k (eF x y z w k)=-(eF x y z w k) by unfold sgr; split <;> simp) with g | g
    · rw [g] at hp'
      exact (Low.same L' L (fu (by rw [am,am,← hp',← hx']; grind))).2
    · rw [g] at hp'
      exact (Low.same L' L.neg (fu (by rw [am,am,← hp',cC,← hx']; grind))).2
  subst hqq
  exact key p' L'.top hp'
end
end Mine
set_option maxRecDepth 100000
namespace Mine
open PySem Re
section
variable {sub:Nat→Nat→Bool} {P:List Fn} {f n dv pa ps pr ta sg pl tr re wl ro qu co sp:Nat} {H:Hp} {Q:V→Hp→Prop} {X:Nat→Hp→Prop} {W:Nat→Prop} {NN:Loc→Hp→Prop} {R:V→Hp→Prop} {Y:Nat→Hp→Prop} {x y z w:Re}
theorem xr:eb 4+scb 5=125371:=by decide
theorem CZ (es:P[sg]?=some ⟨2,2,rB ta⟩) (et:P[ta]?=some ⟨1,1,gu⟩) {o0 o3 o4 o5 o7 o9:Option V} {vs:List V} {m:Nat} {s:Int} (hm:H[m]?=some vs) (hW:∀ k,H.length≤k→W k) (hs:Sc x y z w vs 5 s)
    (hQ:∀ xs:List Int,xs.length=5→(∀ t,evR xs t=(s:Re)*bS [x,y,z,w] t)→AllSm (eb 4+scb 5) xs→xs.getLast?=some s→aj sub P (n+5) pl [.lst H.length] (H++[xs.map .int]) R fun _ _=>False) :
    wpS sub (aj sub P (n+5)) W (Cp sg pl) [o0,some (.int 4),some (.lst m),o3,o4,o5,some (.int s),o7,none,o9] H NN R Y:=by
  have hm':∀ K,(H++[K])[m]?=some vs:=fun K=>ao (ah _ _) hm
  have hW':W H.length:=hW _ (Nat.le_refl _)
  have le:∀ k,k < 5→eb k+scb 5≤eb 4+scb 5:=by decide
  dsimp only [Cp,qS1,qS2,qS3,qS9,b5,qE1,qE5,qE9,aO,cY,aC,aD,qI3,ac,af,au]
  refine ⟨4,-1,-1,rfl,aB (by decide) (by decide),aB (by decide) (by decide),.inr (.inl rfl),?_⟩
  show bx _ _ [.int (4:Nat),.int (3:Nat),.int (2:Nat),.int (1:Nat),.int (0:Nat)] _ _ _
  dsimp only [bx,au]
  refine hF es et (by decide) (hm' _) (ag _ _ _) ⟨hW',nofun⟩ (Nat.le_of_ble_eq_true rfl) hs fun u4 o9 e4 s4=>?_
  rw [bk]
  dsimp only [au,List.nil_append]
  refine hF es et (by decide) (hm' _) (ag _ _ _) ⟨hW',nofun⟩ (Nat.le_of_ble_eq_true rfl) hs fun u3 o9 e3 s3=>?_
  rw [bk]
  dsimp only [au,List.cons_append,List.nil_append]
  refine hF es et (by decide) (hm' _) (ag _ _ _) ⟨hW',nofun⟩ (Nat.le_of_ble_eq_true rfl) hs fun u2 o9 e2 s2=>?_
  rw [bk]
  dsimp only [au,List.cons_append,List.nil_append]
  refine hF es et (by decide) (hm' _) (ag _ _ _) ⟨hW',nofun⟩ (Nat.le_of_ble_eq_true rfl) hs fun u1 o9 e1 s1=>?_
  rw [bk]
  dsimp only [au,List.cons_append,List.nil_append]
  refine hF es et (by decide) (hm' _) (ag _ _ _) ⟨hW',nofun⟩ (Nat.le_of_ble_eq_true rfl) hs fun u0 o9 e0 s0=>?_
  rw [bk]
  have h0:u0=s:=fu (by rw [e0,sg0,eF0]; grind)
  refine hQ [u4,u3,u2,u1,u0] rfl (fun t=>?_) (.cons s4 (.cons (s3.mono (le 3 (by decide))) (.cons (s2.mono (le 2 (by decide))) (.cons (s1.mono (le 1 (by decide))) (.cons (s0.mono (le 0 (by decide))) .nil))))) (by rw [h0]; rfl)
  rw [yk,← e4,← e3,← e2,← e1,← e0]; rfl
theorem Aq (e0:P[f]?=some ⟨1,10,bRo dv ps pr sg pl⟩) (e:P[ps]?=some ⟨2,2,eK pa⟩) (er:P[pr]?=some ⟨2,2,cH pa⟩) (es:P[sg]?=some ⟨2,2,rB ta⟩) (et:P[ta]?=some ⟨1,1,gu⟩) (ep:P[pa]?=some ⟨2,3,bL dv⟩) (ed:P[dv]?=some ⟨2,3,bW⟩) {us:List V} {a:Nat} (ha:H[a]?=some us) (hu:PvL sb (p4 x y z w) 5 us)
    (hQ:∀ (s:Int) (xs:List Int) H',H<+:H'→0 < s→xs.length=5→(∀ t,evR xs t=(s:Re)*bS [x,y,z,w] t)→AllSm (eb 4+scb 5) xs→xs.getLast?=some s→aj sub P (n+5) pl [.lst H'.length] (H'++[xs.map .int]) Q fun _ _=>False):aj sub P (n+6) f [.lst a] H Q X:=by
  refine ai e0 rfl ?_
  dsimp only [bRo,qS2,qS3,b5,qE1,qE5,qE7,qE8,br,cY,aC,aD,qI3,cw,cM,c7,az,aA,ax,aw,aP,ay,aq,ac,af,au,Nat.reduceSub]
  refine ifSome.mk ha ?_
  rw [hu.1]
  have v0:PvL eb (eF x y z w) 1 [pt 1 1]:=⟨rfl,fun i hi=>by
    obtain rfl:i=0:=by (exact om [i] [] [(.le (.a Y0 (.n 1)) (.n 1))] (.eq Y0 (.n 0)) [[1,1]] rfl hi)
    exact ⟨_,rfl,1,1,rfl,⟨Sm.one (k:=209),Sm.one (k:=209),by decide,by decide⟩,by show (1:Re)*1=1; grind⟩⟩
  have ha':∀ K,(H++[K])[a]?=some us:=fun K=>ao (ah _ _) ha
  refine ⟨1,5,1,rfl,aB (by decide) (by decide),aB (by decide) (by decide),.inl rfl,?_⟩
  show bx _ _ [.int (1:Nat),.int (2:Nat),.int (3:Nat),.int (4:Nat)] _ _ _
  dsimp only [bx,au]
  refine jY e er es et ep ed (by decide) (by decide) (ha' _) (ag _ _ _) ⟨Nat.le_refl _,nofun⟩ hu v0 fun v1 o4 o5 g1=>?_
  rw [bk]
  dsimp only [au]
  refine jY e er es et ep ed (by decide) (by decide) (ha' _) (ag _ _ _) ⟨Nat.le_refl _,nofun⟩ hu g1 fun v2 o4 o5 g2=>?_
  rw [bk]
  dsimp only [au]
  refine jY e er es et ep ed (by decide) (by decide) (ha' _) (ag _ _ _) ⟨Nat.le_refl _,nofun⟩ hu g2 fun v3 o4 o5 g3=>?_
  rw [bk]
  dsimp only [au]
  refine jY e er es et ep ed (by decide) (by decide) (ha' _) (ag _ _ _) ⟨Nat.le_refl _,nofun⟩ hu g3 fun v4 o4 o5 g4=>?_
  rw [bk]
  dsimp only [DS,qS2,qS3,b5,qE1,qE5,qI1,d5,n6,ac,af,au]
  refine ifSome.mk (ag _ _ _) ?_
  refine Az ed g4 (fun s o7 hs=>?_) v4 0 1 _ rfl (by rw [g4.1]) ⟨by decide,by unfold Sm; decide,fun i hi=>nomatch hi⟩
  refine CZ es et (ag _ _ _) (fun k hk=>Nat.le_trans (List.IsPrefix.length_le (ah _ _)) hk) hs fun xs h1 h2 h3 h4=>?_
  exact hQ s xs _ (ah _ _) hs.1 h1 h2 h3 h4
end
end Mine
set_option maxRecDepth 100000
namespace Mine
open PySem Re
noncomputable def nK (sg tu:Nat):PS:=(.seq (.ret (.and (.cons (.cmp .ne (.call sg (.cons (.var 0) (.cons (.var 1) .nil))) (.cint 0)) (.cons (.cmp .ne (.call sg (.cons (.var 0) (.cons (.var 2) .nil))) (.cint 0)) (.cons (.cmp .eq (.call tu (.cons (.var 0) (.cons (.var 1) (.cons (.var 2) .nil)))) (.cint 1)) .nil)))))
 .skip)
noncomputable def Dg (ia:Nat):PE:=(.nt (.call ia (.cons (.var 0) (.cons (.var 4) (.cons (.var 5) .nil)))))
noncomputable def Dt (ha bd:Nat):PS:=(.seq (.assign 2 (.call ha (.cons (.var 2) .nil)))
 (.seq (.assign 3 (.call ha (.cons (.var 3) .nil)))
 (.seq (.unpack [4,5] (.callv 1 bd (.cons (.var 2) (.cons (.var 3) .nil))))
 .skip)))
noncomputable def C7:PS:=(.seq (.ret (.tup (.cons (.bi .tuple (.cons (.var 0) .nil)) (.cons (.var 4) (.cons (.var 5) .nil)))))
 .skip)
noncomputable def CH (ia ha bd:Nat):PS:=(.seq (.unpack [4,5] (.callv 1 bd (.cons (.var 2) (.cons (.var 3) .nil))))
 (.seq (.whl (Dg ia) (Dt ha bd))
 C7))
noncomputable def Aln (row:List Int) (p1 q1 p2 q2:Int):Prop:=aW p1 q1 row≠0∧aW p2 q2 row≠0∧tv 0 (hs (p1*q2) (p2*q1) (q1*q2) row)=1
structure Ab (g lo hi:Re) (p1 q1 p2 q2:Int):Prop where
  l1:Low 1300 p1 q1
  l2:Low 1300 p2 q2
  v1:(q1:Re)*lo=p1
  v2:(q2:Re)*hi=p2
  lt:lo < g
  gt:g < hi
theorem yD {R:List Int} {g lo hi:Re} {p1 q1 p2 q2:Int} (rp:RP R lo hi g) (a:Ab g lo hi p1 q1 p2 q2):Aln R p1 q1 p2 q2:=by
  have hne:R≠[]:=by refine aJ (rp.fa) fun c rs _ h _=>?_; intro h'; rw [h'] at h; cases h
  obtain ⟨σ,hσ,e⟩:=rp.sign
  have lh:=sj a.lt a.gt
  refine ⟨fun h0=>?_,fun h0=>?_,DU rp a.l1.pos a.l2.pos a.v1 a.v2⟩
  · have:=oY hne a.l1.pos a.v1
    rw [h0,e lo (Std.le_refl _) (ol lh),aM (xq a.lt)] at this
    rcases hσ with rfl | rfl <;> cases this
  · have:=oY hne a.l2.pos a.v2
    rw [h0,e hi (ol lh) (Std.le_refl _),aK (hV a.gt)] at this
    rcases hσ with rfl | rfl <;> cases this
theorem xd {K:Nat} {us:List Re} {R:List Int} {g lo hi:Re} {p1 q1 p2 q2:Int} (h:PlO K (g :: us) R) (hp:(g :: us).Pairwise (·≠·)) (a:Ab g lo hi p1 q1 p2 q2) (ho:∀ r∈us,Out lo hi r):Aln R p1 q1 p2 q2:=by
  refine ad (h.ev) fun k k0 ev=>?_
  exact yD ⟨a.lt,a.gt,k,us,k0,h.ln,(List.pairwise_cons.mp hp).2,ho,ev⟩ a
theorem y9 {g r lo hi:Re} {S C:Int} {j:Nat} (hS:0≤S) (hSC:S*C < 2 ^ 120) (hs:1≤(S:Re)*ab (g - r)) (a:lo < g) (b:g < hi) (h:¬ Out lo hi r) (w:((2 ^ j:Int):Re)*(hi - lo)≤(C:Re)):j < 120:=by
  have h1:lo≤r:=DA fun k=>h (.inl k)
  have h2:r≤hi:=DA fun k=>h (.inr k)
  have h3:ab (g - r)≤hi - lo:=qq (by grind) (by grind)
  have j0:=Std.le_of_lt (a6 (cV (show (0:Int) < 2 by decide) j))
  have S0:(0:Re)≤(S:Re):=cE hS
  have e1:=aH S0 (rn h3)
  have e2:=aH j0 (show 0≤(S:Re)*(hi - lo) - 1 by grind)
  have e3:=aH S0 (rn w)
  have:(2:Int) ^ j≤S*C:=fJ (by rw [am]; generalize ((2 ^ j:Int):Re)=z at *; clear h hs; grind)
  have:(2:Int) ^ j < 2 ^ 120:=Int.lt_of_le_of_lt this hSC
  exact (Nat.pow_lt_pow_iff_right (a:=2) (by decide)).mp (by exact_mod_cast this)
section
variable {sub:Nat→Nat→Bool} {P:List Fn} {f n ia ha bd sg tu se mu:Nat} {H:Hp} {Q:V→Hp→Prop} {X:Nat→Hp→Prop} {W:Nat→Prop} {NN:Loc→Hp→Prop} {Y:Nat→Hp→Prop}
theorem yb (e:P[ia]?=some ⟨3,3,nK sg tu⟩) (eg:P[sg]?=some ⟨2,5,kT⟩) (et:P[tu]?=some ⟨3,6,kW se⟩) (ee:P[se]?=some ⟨3,9,mR mu⟩) (em:P[mu]?=some ⟨3,5,r6⟩) {m0:Nat} {row:List Int} {p1 q1 p2 q2:Int} {K:Nat} (hv:items H (.lst m0)=some (row.map .int)) (h0:row≠[]) (hl:row.length≤5) (sm:AllSm K row) (hK:K≤200000) (l1:Low 1300 p1 q1) (l2:Low 1300 p2 q2)
    (hQ:∀ (b:Bool) H',H<+:H'→(b=true ↔ Aln row p1 q1 p2 q2)→Q (.bool b) H'):aj sub P (n+4) ia [.lst m0,pt p1 q1,pt p2 q2] H Q X:=by
  have B1:K+1+(row.length+1)*(1300+2)≤1000000:=by clear hQ sm; (exact om [K,row.length] [] [(.le Y1 (.n 5)),(.le Y0 (.n 200000))] (.le (.a (.a Y0 (.n 1)) (.r (.a Y1 (.n 1)) 1302)) (.n 1000000)) [[1,1302,1]] rfl hl hK)
  refine ai e rfl ?_
  dsimp only [nK,qS1,qS2,qS9,qE1,qE5,bh,fz,aO,aC,aD,bV,az,aA,ax,aw,ay,aq,ac,af,Nat.reduceSub]
  refine oi eg hv sm l1.top l1.bot B1 ?_
  dsimp only [qC,aZ,ac]
  by_cases h1:aW p1 q1 row=0
  · rw [decide_eq_true (sgn_zero.mpr h1)]
    exact hQ false _ (List.prefix_refl _) ⟨nofun,fun a=>absurd h1 a.1⟩
  rw [decide_eq_false (fun h=>h1 (sgn_zero.mp h))]
  dsimp only [bu,BX]
  refine oi eg hv sm l2.top l2.bot B1 ?_
  dsimp only [qC,aZ,ac]
  by_cases h2:aW p2 q2 row=0
  · rw [decide_eq_true (sgn_zero.mpr h2)]
    exact hQ false _ (List.prefix_refl _) ⟨nofun,fun a=>absurd h2 a.2.1⟩
  rw [decide_eq_false (fun h=>h2 (sgn_zero.mp h))]
  dsimp only [bu,BX]
  refine zM et ee em hv h0 (by clear hQ sm; (exact om [row.length] [] [(.le Y0 (.n 5))] (.le Y0 (.n 900)) [[1,1]] rfl hl)) sm (l1.top.mul l2.bot) (l2.top.mul l1.bot) (l1.bot.mul l2.bot) (ok6 l1.top l2.bot) (ok6 l2.top l1.bot) (ok6 l1.bot l2.bot) (by clear hQ sm; (exact om [K,row.length] [] [(.le Y1 (.n 5)),(.le Y0 (.n 200000))] (.le (.a (.a (.a Y0 (.n 2600)) (.n 2)) (.r Y1 2602)) (.n 1000000)) [[1,2602,1]] rfl hl hK)) fun H' hp=>?_
  dsimp only [gi]
  exact hQ _ _ hp ⟨fun h=>⟨h1,h2,of_decide_eq_true h⟩,fun a=>decide_eq_true a.2.2⟩
end
end Mine
set_option maxRecDepth 100000
namespace Mine
open PySem Re
noncomputable abbrev pg (row:List Int) (p1 q1 p2 q2:Int):V:=.tup [.tup (row.map .int),pt p1 q1,pt p2 q2]
structure Two (A B:List Int) (N M:Int) (al be:Re) (j:Nat) (u v:V):Prop where
  a:∃ lo hi p1 q1 p2 q2,PD A N al lo hi p1 q1 p2 q2 j∧u=pg A p1 q1 p2 q2
  b:∃ lo hi p1 q1 p2 q2,PD B M be lo hi p1 q1 p2 q2 j∧v=pg B p1 q1 p2 q2
section
variable {sub:Nat→Nat→Bool} {P:List Fn} {f n ia ha bd sg tu se mu na wo kc be ps pr ta pa dv:Nat} {H:Hp} {Q:V→Hp→Prop} {X:Nat→Hp→Prop} {W:Nat→Prop} {NN:Loc→Hp→Prop} {Y:Nat→Hp→Prop}
noncomputable def Al (H:Hp) (A B R:List Int) (N M C:Int) (a b g:Re) (i bd:Nat) (n:Nat) (ρ:Loc) (H':Hp):Prop :=
  ∃ j u v lo hi p1 q1 p2 q2,n+j=120∧H<+:H'∧H'[i]?=some (R.map V.int)∧Two A B N M a b j u v∧Ab g lo hi p1 q1 p2 q2∧((2 ^ j:Int):Re)*(hi - lo)≤(C:Re)∧ρ=[some (.lst i),some (.fn bd),some u,some v,some (pt p1 q1),some (pt p2 q2)]
end
end Mine
set_option maxRecDepth 100000
namespace Mine
open PySem Re
section
variable {sub:Nat→Nat→Bool} {P:List Fn} {f n ia ha bd sg tu se mu na wo kc be ps pr ta pa dv:Nat} {H:Hp} {Q:V→Hp→Prop} {X:Nat→Hp→Prop} {W:Nat→Prop} {NN:Loc→Hp→Prop} {Y:Nat→Hp→Prop}
theorem BI (e0:P[f]?=some ⟨4,6,CH ia ha bd⟩) (e:P[ia]?=some ⟨3,3,nK sg tu⟩) (eg:P[sg]?=some ⟨2,5,kT⟩) (et:P[tu]?=some ⟨3,6,kW se⟩) (ee:P[se]?=some ⟨3,9,mR mu⟩) (em:P[mu]?=some ⟨3,5,r6⟩)
    {A B R:List Int} {N M S C:Int} {a b g:Re} {us:List Re} {K i:Nat} {u v:V}
    (hha:∀ (row:List Int) (N:Int) (al lo hi:Re) (p1 q1 p2 q2:Int) (j:Nat) (H:Hp) (Q:V→Hp→Prop) (X:Nat→Hp→Prop),PD row N al lo hi p1 q1 p2 q2 j→j≤120→(∀ lo' hi' x1 y1 x2 y2,PD row N al lo' hi' x1 y1 x2 y2 (j+1)→Q (pg row x1 y1 x2 y2) H)→aj sub P (n+5) ha [pg row p1 q1 p2 q2] H Q X)
    (hbd:∀ (j:Nat) (u v:V) (H:Hp) (Q:V→Hp→Prop) (X:Nat→Hp→Prop),j≤120→Two A B N M a b j u v→(∀ lo hi p1 q1 p2 q2 H',H<+:H'→Ab g lo hi p1 q1 p2 q2→((2 ^ j:Int):Re)*(hi - lo)≤(C:Re)→Q (.tup [pt p1 q1,pt p2 q2]) H')→aj sub P (n+5) bd [u,v] H Q X)
    (hi:H[i]?=some (R.map V.int)) (hR:PlO K (g :: us) R) (hu:us.length≤3) (hp:(g :: us).Pairwise (·≠·)) (hK:K≤200000) (hS:0≤S) (hSC:S*C < 2 ^ 120) (hs:∀ r∈us,1≤(S:Re)*ab (g - r)) (h0:Two A B N M a b 0 u v)
    (hQ:∀ lo hi p1 q1 p2 q2 H',H<+:H'→Ab g lo hi p1 q1 p2 q2→Aln R p1 q1 p2 q2→Q (pg R p1 q1 p2 q2) H'):aj sub P (n+6) f [.lst i,.fn bd,u,v] H Q X:=by
  have hne:R≠[]:=by intro h'; have:=hR.ln; rw [h'] at this; cases this
  have hl5:R.length≤5:=by rw [hR.ln,List.length_cons]; clear hQ hbd hha; exact om [us.length] [] [(.le Y0 (.n 3))] (.le (.a (.a Y0 (.n 1)) (.n 1)) (.n 5)) [[1,1]] rfl hu
  refine ai e0 rfl ?_
  dsimp only [CH,qS2,qS4,dy,qE5,iw,aC,aD,az,aA,ax,aw,aP,ay,aq,ac,af,Nat.reduceSub]
  refine ⟨rfl,hbd 0 u v _ _ _ (by decide) h0 fun lo hh p1 q1 p2 q2 H0 hp0 ab w=>?_⟩
  dsimp only [fw,jn,au,kz,Nat.reduceAdd,List.length_nil]
  refine ⟨rfl,fun ρ H'=>∃ n,Al H A B R N M C a b g i bd n ρ H',muI (Al H A B R N M C a b g i bd),⟨120,0,u,v,lo,hh,p1,q1,p2,q2,rfl,hp0,ao hp0 hi,h0,ab,w,rfl⟩,?_⟩
  intro ρ H' hex
  have hI:=rT hex
  generalize muI (Al H A B R N M C a b g i bd) ρ H'=nn at *
  refine gN (hI) fun j u v lo hh p1 q1 p2 q2 hj hp1 hi' ht ab w zq8=>?_; subst zq8
  dsimp only [Dg,qE5,fy,aO,aC,aD,aZ,ac,af]
  refine yb e eg et ee em (m0:=i) hi' hne hl5 hR.sm hK ab.l1 ab.l2 fun bb H1 hp2 hb=>?_
  cases bb with
  | true =>
    dsimp only [C7,qS1,qS2,qS9,qE5,br,cJ,aC,aD,uM,aZ,d5,bR,kU,ac,af]
    refine ifSome.mk (ao hp2 hi') ?_
    exact hQ lo hh _ _ _ _ _ (ae hp1 hp2) ab (hb.mp rfl)
  | false =>
    dsimp only [Dt,qS1,qS2,qS3,qS4,qE5,aO,iw,aC,aD,aZ,bu,BX,ac,af,au]
    have hjj:j < 120:=Classical.byContradiction fun hn=>Bool.false_ne_true (hb.mpr (xd hR hp ab fun r hr=>Classical.byContradiction fun ho=>hn (y9 hS hSC (hs r hr) ab.lt ab.gt ho w)))
    refine ft (ht.a) fun lo1 hi1 x1 y1 x2 y2 d1 zq7=>?_; subst zq7
    refine ft (ht.b) fun lo2 hi2 z1 w1 z2 w2 d2 zq6=>?_; subst zq6
    refine hha _ _ _ _ _ _ _ _ _ _ _ _ _ d1 (Nat.le_of_lt hjj) fun lo1' hi1' x1' y1' x2' y2' d1'=>?_
    refine hha _ _ _ _ _ _ _ _ _ _ _ _ _ d2 (Nat.le_of_lt hjj) fun lo2' hi2' z1' w1' z2' w2' d2'=>?_
    have ht':Two A B N M a b (j+1) (pg A x1' y1' x2' y2') (pg B z1' w1' z2' w2'):=⟨⟨_,_,_,_,_,_,d1',rfl⟩,⟨_,_,_,_,_,_,d2',rfl⟩⟩
    refine ⟨rfl,hbd (j+1) _ _ _ _ _ hjj ht' fun lo' hh' p1' q1' p2' q2' H2 hp3 ab' w'=>?_⟩
    dsimp only [fw,jn,au,kz,Nat.reduceAdd,List.length_nil]
    have hN:Al H A B R N M C a b g i bd (nn - 1) [some (.lst i),some (.fn bd),some (pg A x1' y1' x2' y2'),some (pg B z1' w1' z2' w2'),some (pt p1' q1'),some (pt p2' q2')] H2 :=
      ⟨j+1,_,_,lo',hh',p1',q1',p2',q2',by clear hQ hbd hha hs hb; exact om [nn - 1,nn,j] [] [(.eq (.a Y1 Y2) (.n 120)),(.le (.a Y2 (.n 1)) (.n 120)),(.or (.an (.le (.n 1) Y1) (.eq Y1 (.a Y0 (.n 1)))) (.an (.le Y1 (.n 1)) (.eq Y0 (.n 0))))] (.eq (.a Y0 (.a Y2 (.n 1))) (.n 120)) [[1,0,1,0,0,1],[1,0,1,0,1],[1,1,0,0,0,0,1],[1,0,0,1,0,1]] rfl hj hjj (aN (nn) (1)),ae (ae hp1 hp2) hp3,ao hp3 (ao hp2 hi'),ht',ab',w',rfl⟩
    exact ⟨rfl,⟨_,hN⟩,Nat.lt_of_le_of_lt (ow hN) (by clear hQ hbd hha hs hb; exact om [nn - 1,nn,j] [] [(.eq (.a Y1 Y2) (.n 120)),(.le (.a Y2 (.n 1)) (.n 120)),(.or (.an (.le (.n 1) Y1) (.eq Y1 (.a Y0 (.n 1)))) (.an (.le Y1 (.n 1)) (.eq Y0 (.n 0))))] (.le (.a Y0 (.n 1)) Y1) [[1,0,0,0,0,0,1],[1,0,1,1,0,1]] rfl hj hjj (aN (nn) (1)))⟩
end
end Mine
set_option maxRecDepth 100000
namespace Mine
open PySem Re
section
variable {sub:Nat→Nat→Bool} {P:List Fn} {f n dv pa ps pr:Nat} {H:Hp} {Q:V→Hp→Prop} {X:Nat→Hp→Prop} {W:Nat→Prop} {NN:Loc→Hp→Prop} {R:V→Hp→Prop} {Y:Nat→Hp→Prop} {a a' b b':Re}
end
end Mine
set_option maxRecDepth 100000
namespace Mine
open PySem Re
structure QR (c0 c1 c2:Int) (a a':Re):Prop where
  pos:0 < c2
  s0:Sm 60 c0
  s1:Sm 60 c1
  s2:Sm 60 c2
  e1:(c1:Re)=-((c2:Re)*(a+a'))
  e0:(c0:Re)=(c2:Re)*(a*a')
  ne:a≠a'
  b1:ab a≤((2000000:Int):Re)
  b2:ab a'≤((2000000:Int):Re)
structure PgO (R:List Int) (g:Re) (p1 q1 p2 q2:Int):Prop where
  la:∃ l,R.getLast?=some l∧0 < l
  one:bB R 0=1
  l2:2≤R.length
  l5:R.length≤5
  sm:AllSm 126000 R
  rt:evR R g=0
  ab:∃ lo hi,Ab g lo hi p1 q1 p2 q2
  al:Aln R p1 q1 p2 q2
section
variable {sub:Nat→Nat→Bool} {P:List Fn} {f n ia ha bd sg tu se mu na wo kc be ps pr ta pa dv pl tr re wl rs qu co sp ro st pw sn:Nat} {H:Hp} {Q:V→Hp→Prop} {X:Nat→Hp→Prop}
end
end Mine
set_option maxRecDepth 100000
namespace Mine
open PySem Re
noncomputable def v4 (a b:Nat) (x0 x1 x2 x3:Int):Re:=((x0:Re)+x1*aG a)+(x2+x3*aG a)*aG b
noncomputable def L4 (a b k:Nat) (H:Hp) (i:Nat) (x:Re):Prop:=∃ x0 x1 x2 x3:Int,H[i]?=some [.int x0,.int x1,.int x2,.int x3]∧(Sm k x0∧Sm k x1∧Sm k x2∧Sm k x3)∧x=v4 a b x0 x1 x2 x3
theorem L4.keep {a b k i:Nat} {H H':Hp} {x:Re} (h:L4 a b k H i x) (hp:H<+:H'):L4 a b k H' i x:=by
  refine wF (h) fun x0 x1 x2 x3 h1 h2=>?_
  exact ⟨x0,x1,x2,x3,ao hp h1,h2⟩
theorem L4.mono {a b k l i:Nat} {H:Hp} {x:Re} (h:L4 a b k H i x) (hk:k≤l):L4 a b l H i x:=by
  refine cO (h) fun x0 x1 x2 x3 h1 zq138 h2=>?_; refine bP (zq138) fun s0 s1 s2 s3=>?_
  exact ⟨x0,x1,x2,x3,h1,⟨s0.mono hk,s1.mono hk,s2.mono hk,s3.mono hk⟩,h2⟩
theorem L4.eq {a b k i:Nat} {H:Hp} {x y:Re} (h:L4 a b k H i x) (e:x=y):L4 a b k H i y:=e ▸ h
noncomputable def slx (b:Bool) (i:Nat):PE:=match b with | true=>.slc (.var i) .no (.some (.cint 2)) | false=>.slc (.var i) (.some (.cint 2)) .no
noncomputable def mlx (mu:Nat) (b c:Bool):PE:=.call mu (.cons (slx b 0) (.cons (slx c 1) (.cons (.var 2) .nil)))
noncomputable def jq (mu:Nat):PS:=(.seq (.assign 4 (mlx mu true true))
 (.seq (.assign 5 (mlx mu false false))
 (.seq (.assign 6 (mlx mu true false))
 (.seq (.assign 7 (mlx mu false true))
 (.seq (.ret (.lst (.cons (.bin .add (.idx (.var 4) (.cint 0)) (.bin .mul (.var 3) (.idx (.var 5) (.cint 0)))) (.cons (.bin .add (.idx (.var 4) (.cint 1)) (.bin .mul (.var 3) (.idx (.var 5) (.cint 1)))) (.cons (.bin .add (.idx (.var 6) (.cint 0)) (.idx (.var 7) (.cint 0))) (.cons (.bin .add (.idx (.var 6) (.cint 1)) (.idx (.var 7) (.cint 1))) .nil))))))
 .skip)))))
noncomputable def jk:PS:=(.seq (.ret (.comp (.bin .mul (.var 1) (.var 0)) 1 [1] (.seq (.var 0)) .no))
 .skip)
noncomputable def mE:PS:=(.seq (.ret (.comp (.bin .add (.idx (.var 1) (.var 0)) (.idx (.var 2) (.var 0))) 1 [0,1] (.rng (.cons (.cint 4) .nil)) .no))
 .skip)
noncomputable def hlf (b:Bool) (x0 x1 x2 x3:Int):Int × Int:=match b with | true=>(x0,x1) | false=>(x2,x3)
section
variable {sub:Nat→Nat→Bool} {P:List Fn} {f n mu:Nat} {H:Hp} {Q:V→Hp→Prop} {X:Nat→Hp→Prop} {a b:Nat}
theorem AY {Φ:Call} {c:Bool} {i m:Nat} {ρ:Loc} {x0 x1 x2 x3:Int} (hi:af ρ i=some (.lst m)) (hm:H[m]?=some [.int x0,.int x1,.int x2,.int x3]) (hQ:Q (.lst H.length) (H++[[.int (hlf c x0 x1 x2 x3).1,.int (hlf c x0 x1 x2 x3).2]])):wpE sub Φ (slx c i) ρ H Q:=by
  cases c <;> exact ifSome.mk hi (ifSome.mk hm hQ)
theorem uy (em:P[mu]?=some ⟨3,3,fC⟩) {c d:Bool} {i j:Nat} {o3 o4 o5 o6 o7:Option V} {k l:Nat} {x0 x1 x2 x3 y0 y1 y2 y3:Int} (hi:H[i]?=some [.int x0,.int x1,.int x2,.int x3]) (hj:H[j]?=some [.int y0,.int y1,.int y2,.int y3]) (sx:Sm k x0∧Sm k x1∧Sm k x2∧Sm k x3) (sy:Sm l y0∧Sm l y1∧Sm l y2∧Sm l y3) (hk:k≤190000) (hl:l≤190000) (sa:Sm 64 (a:Int))
    (hQ:∀ H' m,H<+:H'→H'[m]?=some [.int ((hlf c x0 x1 x2 x3).1*(hlf d y0 y1 y2 y3).1+a*(hlf c x0 x1 x2 x3).2*(hlf d y0 y1 y2 y3).2),.int ((hlf c x0 x1 x2 x3).1*(hlf d y0 y1 y2 y3).2+(hlf c x0 x1 x2 x3).2*(hlf d y0 y1 y2 y3).1)]→Q (.lst m) H'):wpE sub (aj sub P (n+1)) (mlx mu c d) [some (.lst i),some (.lst j),some (.int a),o3,o4,o5,o6,o7] H Q:=by
  have hx:Sm k (hlf c x0 x1 x2 x3).1∧Sm k (hlf c x0 x1 x2 x3).2:=by cases c <;> first | exact ⟨sx.2.2.1,sx.2.2.2⟩ | exact ⟨sx.1,sx.2.1⟩
  have hy:Sm l (hlf d y0 y1 y2 y3).1∧Sm l (hlf d y0 y1 y2 y3).2:=by cases d <;> first | exact ⟨sy.2.2.1,sy.2.2.2⟩ | exact ⟨sy.1,sy.2.1⟩
  dsimp only [mlx,aO,aC,aD]
  refine AY rfl hi ?_
  refine AY rfl (ao (ah _ _) hj) ?_
  generalize hlf c x0 x1 x2 x3=u at *
  generalize hlf d y0 y1 y2 y3=v at *
  refine tC em (ao (ah _ _) (ag _ _ _)) (ag _ _ _) (hx.1.mono (by clear hQ; (exact om [k] [] [(.le Y0 (.n 190000))] (.le Y0 (.n 200000)) [[1,1]] rfl hk))) (hx.2.mono (by clear hQ; (exact om [k] [] [(.le Y0 (.n 190000))] (.le Y0 (.n 200000)) [[1,1]] rfl hk))) (hy.1.mono (by clear hQ; (exact om [l] [] [(.le Y0 (.n 190000))] (.le Y0 (.n 200000)) [[1,1]] rfl hl))) (hy.2.mono (by clear hQ; (exact om [l] [] [(.le Y0 (.n 190000))] (.le Y0 (.n 200000)) [[1,1]] rfl hl))) sa ?_
  exact hQ _ _ (ae (ah _ _) (ae (ah _ _) (ah _ _))) (ag _ _ _)
theorem jR (e:P[f]?=some ⟨4,8,jq mu⟩) (em:P[mu]?=some ⟨3,3,fC⟩) {i j k l:Nat} {x y:Re} (hx:L4 a b k H i x) (hy:L4 a b l H j y) (hk:k≤190000) (hl:l≤190000) (sa:Sm 64 (a:Int)) (sb:Sm 64 (b:Int))
    (hQ:∀ H' m,H<+:H'→L4 a b (k+l+130) H' m (x*y)→Q (.lst m) H'):aj sub P (n+2) f [.lst i,.lst j,.int a,.int b] H Q X:=by
  refine cO (hx) fun x0 x1 x2 x3 hi sx zq137=>?_; subst zq137
  refine cO (hy) fun y0 y1 y2 y3 hj sy zq136=>?_; subst zq136
  refine ai e rfl ?_
  dsimp only [jq,qS1,qS2,qS3,qS9,aq,az,aA,ax,aw,aP,ay,Nat.reduceSub]
  refine uy em hi hj sx sy hk hl sa fun H1 m1 p1 g1=>?_
  refine uy em (ao p1 hi) (ao p1 hj) sx sy hk hl sa fun H2 m2 p2 g2=>?_
  have p12:=ae p1 p2
  refine uy em (ao p12 hi) (ao p12 hj) sx sy hk hl sa fun H3 m3 p3 g3=>?_
  have p13:=ae p12 p3
  refine uy em (ao p13 hi) (ao p13 hj) sx sy hk hl sa fun H4 m4 p4 g4=>?_
  have h1:=ao (ae p2 (ae p3 p4)) g1
  have h2:=ao (ae p3 p4) g2
  have h3:=ao p4 g3
  dsimp only [hlf] at h1 h2 h3 g4
  dsimp only [qE1,qE5,qE8,aY,cY,aC,aD,cy,ac,af,au]
  refine gC h1 ?_
  refine gC h2 ⟨IntMulOk.left sb,?_⟩
  refine gv h1 ?_
  refine gv h2 ⟨IntMulOk.left sb,?_⟩
  refine gC h3 ?_
  refine gC g4 ?_
  refine gv h3 ?_
  refine gv g4 ?_
  refine bP (sx) fun u0 u1 u2 u3=>?_
  refine bP (sy) fun w0 w1 w2 w3=>?_
  have m2:∀ {p q r s:Int},Sm k p→Sm l q→Sm k r→Sm l s→Sm (k+l+65) (p*q+a*r*s):=fun h1 h2 h3 h4=>Sm.add ((h1.mul h2).mono (by clear hQ; (exact om [k,l] [] [] (.le (.a Y0 Y1) (.a (.a Y0 Y1) (.n 64))) [[1]] rfl))) (((sa.mul h3).mul h4).mono (by clear hQ; (exact om [k,l] [] [] (.le (.a (.a (.n 64) Y0) Y1) (.a (.a Y0 Y1) (.n 64))) [[1]] rfl)))
  have m3:∀ {p q r s:Int},Sm k p→Sm l q→Sm k r→Sm l s→Sm (k+l+65) (p*q+r*s):=fun h1 h2 h3 h4=>(Sm.add (h1.mul h2) (h3.mul h4)).mono (by clear hQ; (exact om [k,l] [] [] (.le (.a (.a Y0 Y1) (.n 1)) (.a (.a Y0 Y1) (.n 65))) [[1]] rfl))
  have m4:∀ {p q:Int},Sm (k+l+65) p→Sm (k+l+65) q→Sm (k+l+130) (p+b*q):=fun h1 h2=>Sm.add (h1.mono (show _≤k+l+129 by clear hQ; (exact om [k,l] [] [] (.le (.a (.a Y0 Y1) (.n 65)) (.a (.a Y0 Y1) (.n 129))) [[1]] rfl))) ((sb.mul h2).mono (by clear hQ; (exact om [k,l] [] [] (.le (.a (.n 64) (.a (.a Y0 Y1) (.n 65))) (.a (.a Y0 Y1) (.n 129))) [[1]] rfl)))
  have m5:∀ {p q:Int},Sm (k+l+65) p→Sm (k+l+65) q→Sm (k+l+130) (p+q):=fun h1 h2=>(Sm.add h1 h2).mono (by clear hQ; (exact om [k,l] [] [] (.le (.a (.a (.a Y0 Y1) (.n 65)) (.n 1)) (.a (.a Y0 Y1) (.n 130))) [[1]] rfl))
  refine hQ _ _ (ae p13 (ae p4 (ah _ _))) ⟨_,_,_,_,ag _ _ _,⟨m4 (m2 u0 w0 u1 w1) (m2 u2 w2 u3 w3),m4 (m3 u0 w1 u1 w0) (m3 u2 w3 u3 w2),m5 (m2 u0 w2 u1 w3) (m2 u2 w0 u3 w1),m5 (m3 u0 w3 u1 w2) (m3 u2 w1 u3 w0)⟩,?_⟩
  have ea:=iH a
  have eb:=iH b
  unfold v4
  simp only [bE,am]
  rw [← ea,← eb]
  generalize aG a=A
  generalize aG b=B
  clear hQ
  grind
theorem iE (e:P[f]?=some ⟨2,2,jk⟩) {i k l:Nat} {c:Int} {x:Re} (hx:L4 a b k H i x) (sc:Sm l c) (hk:k≤190000) (hl:l≤190000)
    (hQ:∀ H' m,H<+:H'→L4 a b (k+l) H' m ((c:Re)*x)→Q (.lst m) H'):aj sub P (n+1) f [.lst i,.int c] H Q X:=by
  refine cO (hx) fun x0 x1 x2 x3 hi zq134 zq135=>?_; refine bP (zq134) fun s0 s1 s2 s3=>?_; subst zq135
  have ok:∀ {y:Int},Sm k y→IntMulOk c y:=fun h=>IntMulOk.sm sc h (by clear hQ; (exact om [l] [] [(.le Y0 (.n 190000))] (.le Y0 (.n 1048576)) [[1,1]] rfl hl)) (by clear hQ; (exact om [k] [] [(.le Y0 (.n 190000))] (.le Y0 (.n 1048576)) [[1,1]] rfl hk))
  have sm:∀ {y:Int},Sm k y→Sm (k+l) (c*y):=fun h=>(sc.mul h).mono (by clear hQ; (exact om [l,k] [] [] (.le (.a Y0 Y1) (.a Y1 Y0)) [[1]] rfl))
  refine ai e rfl ?_
  dsimp only [jk,qS1,qS2,qS9,qE5,qE8,dH,qO1,qI1,d5,cD,az,aA,ax,aw,ay,aq,bu,ac,af,Nat.reduceSub]
  refine ifSome.mk hi ⟨show 4≤lim by decide,?_⟩
  dsimp only [cK]
  refine ⟨ok s0,ok s1,ok s2,ok s3,hQ _ _ (ah _ _) ⟨_,_,_,_,ag _ _ _,⟨sm s0,sm s1,sm s2,sm s3⟩,?_⟩⟩
  unfold v4
  simp only [am]
  clear hQ
  grind
theorem s7 (e:P[f]?=some ⟨2,2,mE⟩) {i j k:Nat} {x y:Re} (hx:L4 a b k H i x) (hy:L4 a b k H j y)
    (hQ:∀ H' m,H<+:H'→L4 a b (k+1) H' m (x+y)→Q (.lst m) H'):aj sub P (n+1) f [.lst i,.lst j] H Q X:=by
  refine cO (hx) fun x0 x1 x2 x3 hi zq132 zq133=>?_; refine bP (zq132) fun s0 s1 s2 s3=>?_; subst zq133
  refine cO (hy) fun y0 y1 y2 y3 hj zq130 zq131=>?_; refine bP (zq130) fun t0 t1 t2 t3=>?_; subst zq131
  refine ai e rfl ?_
  dsimp only [mE,qS1,qS2,qS9,qE1,qE5,qE8,aY,dH,aC,aD,qO1,qI3,cD,az,aA,ax,aw,ay,aq,bu,ac,af,Nat.reduceSub]
  refine ⟨0,4,1,rfl,aB (by decide) (by decide),aB (by decide) (by decide),.inl rfl,by decide,?_⟩
  show cK _ [.int 0,.int 1,.int 2,.int 3] _ _
  dsimp only [cK]
  refine ix4 hi (.inl ⟨rfl,rfl⟩) (ix4 hj (.inl ⟨rfl,rfl⟩) ?_)
  refine ix4 hi (.inr (.inl ⟨rfl,rfl⟩)) (ix4 hj (.inr (.inl ⟨rfl,rfl⟩)) ?_)
  refine ix4 hi (.inr (.inr (.inl ⟨rfl,rfl⟩))) (ix4 hj (.inr (.inr (.inl ⟨rfl,rfl⟩))) ?_)
  refine ix4 hi (.inr (.inr (.inr ⟨rfl,rfl⟩))) (ix4 hj (.inr (.inr (.inr ⟨rfl,rfl⟩))) ?_)
  refine hQ _ _ (ah _ _) ⟨_,_,_,_,ag _ _ _,⟨Sm.add s0 t0,Sm.add s1 t1,Sm.add s2 t2,Sm.add s3 t3⟩,?_⟩
  unfold v4
  simp only [bE]
  clear hQ
  grind
theorem jT {tw ls:Nat} (e:P[f]?=some ⟨3,7,pI tw ls mu⟩) (et:P[tw]?=some ⟨3,3,sC ls⟩) (el:P[ls]?=some ⟨1,1,fk⟩) (em:P[mu]?=some ⟨3,3,fC⟩) {i k:Nat} {x:Re} (hx:L4 a b k H i x) (hk:k≤200000) (ha:0 < a) (hb:0 < b) (sa:Sm 64 (a:Int)) (sb:Sm 64 (b:Int))
    (hQ:∀ H',H<+:H'→Q (.int (rsg x)) H'):aj sub P (n+3) f [.lst i,.int a,.int b] H Q X:=by
  refine cO (hx) fun x0 x1 x2 x3 hi zq128 zq129=>?_; refine bP (zq128) fun s0 s1 s2 s3=>?_; subst zq129
  have:=yp x0 x1 x2 x3 ha hb
  exact B9 e et el em hi (s0.mono hk) (s1.mono hk) (s2.mono hk) (s3.mono hk) sa sb (Int.natCast_pos.mpr hb) (by rw [this]; exact hQ)
end
end Mine
set_option maxRecDepth 100000
namespace Mine
open PySem Re
noncomputable def Bs (fo an ma:Nat):PS:=(.seq (.assign 9 (.call fo (.cons (.var 2) (.cons (.var 3) (.cons (.var 4) .nil)))))
 (.seq (.assign 10 (.call an (.cons (.call ma (.cons (.var 1) (.cons (.idx (.idx (.var 0) (.cint 1)) (.cint 1)) .nil))) (.cons (.call ma (.cons (.var 2) (.cons (.bin .sub (.cint 0) (.idx (.idx (.var 0) (.cint 1)) (.cint 0))) .nil))) .nil))))
 (.seq (.assign 11 (.call an (.cons (.call ma (.cons (.var 1) (.cons (.idx (.idx (.var 0) (.cint 2)) (.cint 1)) .nil))) (.cons (.call ma (.cons (.var 2) (.cons (.bin .sub (.cint 0) (.idx (.idx (.var 0) (.cint 2)) (.cint 0))) .nil))) .nil))))
 (.seq (.ret (.and (.cons (.cmp .gt (.bin .mul (.call fo (.cons (.var 10) (.cons (.var 3) (.cons (.var 4) .nil)))) (.var 9)) (.cint 0)) (.cons (.cmp .lt (.bin .mul (.call fo (.cons (.var 11) (.cons (.var 3) (.cons (.var 4) .nil)))) (.var 9)) (.cint 0)) .nil))))
 .skip))))
noncomputable def lHo (an pd ma:Nat):PS:=(.seq (.assign 6 (.call an (.cons (.call pd (.cons (.var 6) (.cons (.var 1) (.cons (.var 3) (.cons (.var 4) .nil))))) (.cons (.call ma (.cons (.var 7) (.cons (.idx (.var 5) (.var 8)) .nil))) .nil))))
 (.seq (.assign 7 (.call pd (.cons (.var 7) (.cons (.var 2) (.cons (.var 3) (.cons (.var 4) .nil))))))
 .skip))
noncomputable def bHo (fo an pd ma:Nat):PS:=(.seq (.assign 5 (.idx (.var 0) (.cint 0)))
 (.seq (.assign 6 (.lst (.cons (.cint 0) (.cons (.cint 0) (.cons (.cint 0) (.cons (.cint 0) .nil))))))
 (.seq (.assign 7 (.lst (.cons (.cint 1) (.cons (.cint 0) (.cons (.cint 0) (.cons (.cint 0) .nil))))))
 (.seq (.forr 8 (.rng (.cons (.bin .sub (.bi .len (.cons (.var 5) .nil)) (.cint 1)) (.cons (.neg (.cint 1)) (.cons (.neg (.cint 1)) .nil)))) (lHo an pd ma))
 (.seq (.ite (.cmp .ne (.call fo (.cons (.var 6) (.cons (.var 3) (.cons (.var 4) .nil)))) (.cint 0)) (.seq (.ret (.cbool false))
 .skip) .skip)
 (Bs fo an ma))))))
theorem wS {g lo:Re} {p q β:Int} (hq:0 < q) (hβ:0 < β) (e:(q:Re)*lo=p):(q:Re)*((β:Re)*g)+((0 - p:Int):Re)*(β:Re)=((q*β:Int):Re)*(g - lo):=by
  rw [cL,aE,am,← e]; grind
section
variable {sub:Nat→Nat→Bool} {P:List Fn} {f n mu an pd ma fo tw ls:Nat} {H:Hp} {Q:V→Hp→Prop} {X:Nat→Hp→Prop} {W:Nat→Prop} {NN:Loc→Hp→Prop} {R:V→Hp→Prop} {Y:Nat→Hp→Prop} {a b:Nat}
end
end Mine
set_option maxRecDepth 100000
namespace Mine
open PySem Re
theorem QD.r0 {p q r:Int} {d:Nat} (h:QD p q r d):0 < r:=by have:=h.r1; (exact om [] [r] [(.il (.n 1) Y0)] (.il (.a (.n 0) (.n 1)) Y0) [[1,1]] rfl this)
theorem QD.bdal {p q r:Int} {d:Nat} (h:QD p q r d):ab (qal p q r d)≤((2000000:Int):Re):=by
  have b:=jP (rM (cT (n:=p) (c:=1000000) h.p1 h.p2) h.bds) (show (1000000+36:Int)≤2000000 by decide)
  have k:=jw ((p:Re)+q*aG d)
  obtain ⟨k1,k2⟩:=su (c:=2000000) h.r0 (by decide) (cI h.r0) (by have:=l8 k.2 b; grind) (l8 k.1 b)
  exact qq k1 k2
theorem QD.df {p q r:Int} {d:Nat} (h:QD p q r d):(r:Re)*(qal p q r d - qal p (0 - q) r d)=((2*q:Int):Re)*aG d:=by
  have e:=cI (p:=p) (q:=q) (d:=d) h.r0
  have e':=cI (p:=p) (q:=0 - q) (d:=d) h.r0
  rw [show (r:Re)*(qal p q r d - qal p (0 - q) r d)=(r:Re)*qal p q r d - (r:Re)*qal p (0 - q) r d by grind,e,e',cL,aE,am]
  show _=(2:Re)*_*_; grind
theorem QD.ne {p q r:Int} {d:Nat} (h:QD p q r d):qal p q r d≠qal p (0 - q) r d:=fun k=>by
  have e:=h.df
  rw [k] at e
  exact aQ (dX (c:=2*q) (by have:=h.q0; (exact om [] [q] [(.or (.an (.il (.n 1) Y0) (.il Y0 (.n 6))) (.an (.il (.g (.n 6)) Y0) (.il Y0 (.g (.n 1)))))] (.no (.ie (.m 2 Y0) (.n 0))) [[1,0,2],[0,1,0,2]] rfl this))) (D2 (eQ h.d1)) (by rw [← e]; grind)
section
variable {p q r:Int} {d:Nat} {row:List Int} {g A L U p1 q1 p2 q2:Int}
theorem QP.qr (h:QP p q r d row g A L U p1 q1 p2 q2):∃ c0 c1 c2,row=[c0,c1,c2]∧QR c0 c1 c2 (qal p q r d) (qal p (0 - q) r d):=by
  have hl:=h.len
  refine ad (h.la) fun l hla l0=>?_
  have he:=h.e
  have sm:=h.sm
  refine Ch (Ec hl) fun c0 c1 c2 zq139=>?_; subst zq139
  have hc2:c2=l:=Option.some.inj hla
  obtain ⟨e0,he⟩:=List.cons.inj he
  obtain ⟨e1,he⟩:=List.cons.inj he
  obtain ⟨e2,_⟩:=List.cons.inj he
  have gn:=dX h.hg
  have x1:=cI (p:=p) (q:=q) (d:=d) h.qd.r0
  have x2:=cI (p:=p) (q:=0 - q) (d:=d) h.qd.r0
  rw [cL,aE] at x2
  have sq:=iH d
  have f0:=congrArg (fun n:Int=>(n:Re)) e0
  have f1:=congrArg (fun n:Int=>(n:Re)) e1
  have f2:=congrArg (fun n:Int=>(n:Re)) e2
  simp only [am,cL] at f0 f1 f2
  rw [← sq] at f0
  have m2:((-2:Int):Re)=-2:=rfl
  rw [m2] at f1
  refine ⟨c0,c1,c2,rfl,by rw [hc2]; exact l0,sm.hd,sm.tl.hd,sm.tl.tl.hd,eZ gn ?_,eZ gn ?_,h.qd.ne,h.qd.bdal,QD.bdal ⟨h.qd.p1,h.qd.p2,by have:=h.qd.q0; (exact om [] [q] [(.or (.an (.il (.n 1) Y0) (.il Y0 (.n 6))) (.an (.il (.g (.n 6)) Y0) (.il Y0 (.g (.n 1)))))] (.or (.an (.il (.n 1) (.s (.n 0) Y0)) (.il (.s (.n 0) Y0) (.n 6))) (.an (.il (.g (.n 6)) (.s (.n 0) Y0)) (.il (.s (.n 0) Y0) (.g (.n 1))))) [[0,1,0,1],[0,1,1],[1,0,0,1],[1,0,1]] rfl this),h.qd.r1,h.qd.r2,h.qd.d1,h.qd.d2⟩⟩
  · rw [f1,show (g:Re)*-((c2:Re)*(qal p q r d+qal p (0 - q) r d))=-(((g:Re)*c2)*(qal p q r d+qal p (0 - q) r d)) by grind,f2,show (r:Re)*r*(qal p q r d+qal p (0 - q) r d)=r*(r*qal p q r d+r*qal p (0 - q) r d) by grind,x1,x2]
    clear f0 f1 f2 x1 x2 sq; grind
  · rw [f0,show (g:Re)*((c2:Re)*(qal p q r d*qal p (0 - q) r d))=((g:Re)*c2)*(qal p q r d*qal p (0 - q) r d) by grind,f2,show (r:Re)*r*(qal p q r d*qal p (0 - q) r d)=(r*qal p q r d)*(r*qal p (0 - q) r d) by grind,x1,x2]
    clear f0 f1 f2 x1 x2 sq; grind
end
end Mine
set_option maxRecDepth 100000
namespace Mine
open PySem Re
theorem PgO.peg {R:List Int} {g:Re} {p1 q1 p2 q2:Int} (h:PgO R g p1 q1 p2 q2):∃ l,AW 126000 1300 R l p1 q1 p2 q2:=by
  refine ad (h.la) fun l hl l0=>?_
  refine AL (h.ab) fun lo hi A=>?_
  refine fx (h.al) fun v1 v2 tv=>?_
  exact ⟨l,h.l2,Nat.le_trans h.l5 (by decide),hl,l0,h.one,h.sm,A.l1,A.l2,(nQ A.l1.pos A.l2.pos A.v1 A.v2).mpr (sj A.lt A.gt),v1,v2,tv⟩
section
variable {sub:Nat→Nat→Bool} {P:List Fn} {f n dv re ta ip ho wh sm va tu se by_ pa ld mu an pd ma fo tw ls:Nat} {H:Hp} {Q:V→Hp→Prop} {X:Nat→Hp→Prop} {a b:Nat}
end
end Mine
set_option maxRecDepth 100000
namespace Mine
open PySem Re
noncomputable def Dk:PS:=(.seq (.ret (.tup (.cons (.var 5) (.cons (.var 6) .nil))))
 .skip)
noncomputable def zG (be:Nat):PS:=(.seq (.ite (.call be (.cons (.var 6) (.cons (.var 7) .nil))) (.seq (.assign 6 (.var 7))
 .skip) .skip)
 .skip)
noncomputable def Ck (be:Nat):PS:=(.seq (.ite (.call be (.cons (.var 7) (.cons (.var 5) .nil))) (.seq (.assign 5 (.var 7))
 .skip) .skip)
 (zG be))
noncomputable def yY (be:Nat):PS:=(.seq (.assign 5 (.idx (.var 2) (.cint 0)))
 (.seq (.assign 6 (.idx (.var 2) (.cint 0)))
 (.seq (.forr 7 (.seq (.var 2)) (Ck be))
 Dk)))
noncomputable def Dm (pr:Nat):PS:=(.seq (.app 2 (.call pr (.cons (.var 3) (.cons (.var 4) .nil))))
 .skip)
noncomputable def Dw (pr:Nat):PS:=(.seq (.forr 4 (.seq (.tup (.cons (.idx (.var 1) (.cint 1)) (.cons (.idx (.var 1) (.cint 2)) .nil)))) (Dm pr))
 .skip)
noncomputable def bPB (be pr:Nat):PS:=(.seq (.assign 2 (.lst .nil))
 (.seq (.forr 3 (.seq (.tup (.cons (.idx (.var 0) (.cint 1)) (.cons (.idx (.var 0) (.cint 2)) .nil)))) (Dw pr))
 (yY be)))
structure PP (x:Re) (p q:Int):Prop where
  l:Low 1300 p q
  v:(q:Re)*x=p
section
variable {sub:Nat→Nat→Bool} {P:List Fn} {f n be pr pa dv:Nat} {H:Hp} {Q:V→Hp→Prop} {X:Nat→Hp→Prop} {W:Nat→Prop} {N:Loc→Hp→Prop} {R:V→Hp→Prop} {Y:Nat→Hp→Prop}
theorem De (eb:P[be]?=some ⟨2,2,e9⟩) {x y:Re} {p1 q1 p2 q2:Int} (a:PP x p1 q1) (b:PP y p2 q2) (h1:x < y→Q (.bool true) H) (h2:¬ x < y→Q (.bool false) H):aj sub P (n+1) be [pt p1 q1,pt p2 q2] H Q X:=by
  refine oo eb (Mine.IntMulOk.sum a.l.top b.l.bot (by decide)) (Mine.IntMulOk.sum b.l.top a.l.bot (by decide)) ?_
  have:=nQ a.l.pos b.l.pos a.v b.v
  by_cases h:x < y
  · rw [decide_eq_true (this.mpr h)]; exact h1 h
  · rw [decide_eq_false (fun k=>h (this.mp k))]; exact h2 h
theorem jL (eb:P[be]?=some ⟨2,2,e9⟩) {o0 o1 o2 o3 o4:Option V} {xl xh xc:Re} {l1 l2 h1 h2 c1 c2:Int} (pl:PP xl l1 l2) (ph:PP xh h1 h2) (pc:PP xc c1 c2)
    (k:∀ xl' l1' l2' xh' h1' h2',PP xl' l1' l2'→PP xh' h1' h2'→(xl'≤xl∧xl'≤xc∧(xl'=xl∨xl'=xc))→(xh≤xh'∧xc≤xh'∧(xh'=xh∨xh'=xc))→N [o0,o1,o2,o3,o4,some (pt l1' l2'),some (pt h1' h2'),some (pt c1 c2)] H) :
    wpS sub (aj sub P (n+1)) W (Ck be) [o0,o1,o2,o3,o4,some (pt l1 l2),some (pt h1 h2),some (pt c1 c2)] H N R Y:=by
  have key:∀ xl' l1' l2',PP xl' l1' l2'→(xl'≤xl∧xl'≤xc∧(xl'=xl∨xl'=xc))→wpS sub (aj sub P (n+1)) W (zG be) [o0,o1,o2,o3,o4,some (pt l1' l2'),some (pt h1 h2),some (pt c1 c2)] H N R Y:=fun xl' l1' l2' p1 hx=>by
    dsimp only [zG,qS1,qS2,qS3,bj,qE5,aO,aC,aD,ac,af,au]
    refine De eb ph pc (fun h=>?_) fun h=>?_
    · dsimp only [aZ,bu,ac]
      exact k _ _ _ _ _ _ p1 pc hx ⟨by grind,by grind,.inr rfl⟩
    · dsimp only [aZ,bR,ac]
      exact k _ _ _ _ _ _ p1 ph hx ⟨by grind,by grind,.inl rfl⟩
  dsimp only [Ck]
  generalize zG be=T at *
  dsimp only [qS1,qS2,qS3,bj,qE5,aO,aC,aD,ac,af,au]
  refine De eb pc pl (fun h=>?_) fun h=>?_
  · dsimp only [aZ,bu,ac]
    exact key _ _ _ pc ⟨by grind,by grind,.inr rfl⟩
  · dsimp only [aZ,bR,ac]
    exact key _ _ _ pl ⟨by grind,by grind,.inl rfl⟩
theorem zY (eb:P[be]?=some ⟨2,2,e9⟩) {o0 o1 o3 o4:Option V} {m:Nat} {x1 x2 x3 x4:Re} {a1 b1 a2 b2 a3 b3 a4 b4:Int} (hc:H[m]?=some [pt a1 b1,pt a2 b2,pt a3 b3,pt a4 b4]) (p1:PP x1 a1 b1) (p2:PP x2 a2 b2) (p3:PP x3 a3 b3) (p4:PP x4 a4 b4)
    (k:∀ xl l1 l2 xh h1 h2,PP xl l1 l2→PP xh h1 h2→(xl≤x1∧xl≤x2∧xl≤x3∧xl≤x4∧(xl=x1∨xl=x2∨xl=x3∨xl=x4))→(x1≤xh∧x2≤xh∧x3≤xh∧x4≤xh∧(xh=x1∨xh=x2∨xh=x3∨xh=x4))→R (.tup [pt l1 l2,pt h1 h2]) H) :
    wpS sub (aj sub P (n+1)) W (yY be) [o0,o1,some (.lst m),o3,o4,none,none,none] H N R Y:=by
  dsimp only [yY,Dk,qS1,qS2,qS3,qS9,b5,qE1,qE5,aY,cJ,aC,aD,qI1,cy,d5,n6,ac,af,au]
  refine ifSome.mk hc (ifSome.mk rfl (ifSome.mk rfl (ifSome.mk hc (ifSome.mk rfl (ifSome.mk rfl (ifSome.mk hc ?_))))))
  dsimp only [bx,au]
  refine jL eb p1 p1 p1 fun xl l1 l2 xh h1 h2 pl ph hl hh=>?_
  dsimp only [au]
  refine jL eb pl ph p2 fun xl2 l1 l2 xh2 h1 h2 pl ph hl2 hh2=>?_
  dsimp only [au]
  refine jL eb pl ph p3 fun xl3 l1 l2 xh3 h1 h2 pl ph hl3 hh3=>?_
  dsimp only [au]
  refine jL eb pl ph p4 fun xl4 l1 l2 xh4 h1 h2 pl ph hl4 hh4=>?_
  dsimp only [ac,af]
  refine k _ _ _ _ _ _ pl ph ?_ ?_
  · clear hh hh2 hh3 hh4 k p1 p2 p3 p4 pl ph
    refine fx (hl) fun a1 a2 a3=>?_
    refine fx (hl2) fun b1 b2 b3=>?_
    refine fx (hl3) fun c1 c2 c3=>?_
    refine fx (hl4) fun d1 d2 d3=>?_
    refine ⟨by grind,by grind,by grind,d2,?_⟩
    rcases d3 with rfl | rfl
    · rcases c3 with rfl | rfl
      · rcases b3 with rfl | rfl
        · exact .inl (a3.elim id id)
        · exact .inr (.inl rfl)
      · exact .inr (.inr (.inl rfl))
    · exact .inr (.inr (.inr rfl))
  · clear hl hl2 hl3 hl4 k p1 p2 p3 p4 pl ph
    refine fx (hh) fun a1 a2 a3=>?_
    refine fx (hh2) fun b1 b2 b3=>?_
    refine fx (hh3) fun c1 c2 c3=>?_
    refine fx (hh4) fun d1 d2 d3=>?_
    refine ⟨by grind,by grind,by grind,d2,?_⟩
    rcases d3 with rfl | rfl
    · rcases c3 with rfl | rfl
      · rcases b3 with rfl | rfl
        · exact .inl (a3.elim id id)
        · exact .inr (.inl rfl)
      · exact .inr (.inr (.inl rfl))
    · exact .inr (.inr (.inr rfl))
theorem At (e0:P[f]?=some ⟨2,8,bPB be pr⟩) (eb:P[be]?=some ⟨2,2,e9⟩) (e:P[pr]?=some ⟨2,2,cH pa⟩) (ep:P[pa]?=some ⟨2,3,bL dv⟩) (ed:P[dv]?=some ⟨2,3,bW⟩) {A B:List Int} {N M:Int} {a b:Re} {j:Nat} {u v:V} (hj:j≤120) (h:Two A B N M a b j u v)
    (hQ:∀ lo hi p1 q1 p2 q2 H',H<+:H'→Ab (a*b) lo hi p1 q1 p2 q2→((2 ^ j:Int):Re)*(hi - lo)≤((137438953472:Int):Re)→Q (.tup [pt p1 q1,pt p2 q2]) H'):aj sub P (n+4) f [u,v] H Q X:=by
  refine ft (h.a) fun lo1 hi1 x1 y1 x2 y2 d1 zq2=>?_; subst zq2
  refine ft (h.b) fun lo2 hi2 z1 w1 z2 w2 d2 zq1=>?_; subst zq1
  refine ai e0 rfl ?_
  dsimp only [bPB]
  generalize hT:yY be=T
  dsimp only [qS1,qS2,qS3,qS6,b5,qE1,qE5,aO,aY,cJ,cY,aC,aD,qI1,jV,iD,yn,CQ,az,aA,ax,aw,aP,ay,aq,ac,cl,af,au,Nat.reduceSub,bx,Dw,Dm]
  have w0:((H.length≤H.length∧some H.length≠none)∧some H.length≠none):=⟨⟨Nat.le_refl _,Option.some_ne_none _⟩,Option.some_ne_none _⟩
  have A1:=d1.low1 hj; have A2:=d1.low2 hj; have B1:=d2.low1 hj; have B2:=d2.low2 hj
  have mk:∀ {x y:Re} {p1 q1 p2 q2 p q:Int},(q1:Re)*x=p1→(q2:Re)*y=p2→0 < q1→0 < q2→Low (600+600) p q→p*(q1*q2)=(p1*p2)*q→PP (x*y) p q:=fun e1 e2 c1 c2 L h=>⟨L.mono (by decide),kI c1 c2 e1 e2 h⟩
  refine ⟨w0,nL e ep ed A1.top A1.bot A1.pos B1.top B1.bot B1.pos (by decide) fun p1 q1 L1 h1=>ifSome.mk (ag _ _ _) ⟨by decide,?_⟩⟩
  rw [bk]
  refine ⟨w0,nL e ep ed A1.top A1.bot A1.pos B2.top B2.bot B2.pos (by decide) fun p2 q2 L2 h2=>ifSome.mk (ag _ _ _) ⟨show 1 < lim by decide,?_⟩⟩
  rw [bk]
  refine ⟨w0,nL e ep ed A2.top A2.bot A2.pos B1.top B1.bot B1.pos (by decide) fun p3 q3 L3 h3=>ifSome.mk (ag _ _ _) ⟨show 2 < lim by decide,?_⟩⟩
  rw [bk]
  refine ⟨w0,nL e ep ed A2.top A2.bot A2.pos B2.top B2.bot B2.pos (by decide) fun p4 q4 L4 h4=>ifSome.mk (ag _ _ _) ⟨show 3 < lim by decide,?_⟩⟩
  rw [bk]
  subst hT
  have P1:=mk d1.a1.val d2.a1.val A1.pos B1.pos L1 h1
  have P2:=mk d1.a1.val d2.a2.val A1.pos B2.pos L2 h2
  have P3:=mk d1.a2.val d2.a1.val A2.pos B1.pos L3 h3
  have P4:=mk d1.a2.val d2.a2.val A2.pos B2.pos L4 h4
  refine zY eb (ag _ _ _) P1 P2 P3 P4 fun xl l1 l2 xh g1 g2 pl ph hl hh=>?_
  have r1:=d1.rp.l; have r2:=d2.rp.l; have r3:=d1.rp.u; have r4:=d2.rp.u
  refine uo (hl) fun i1 i2 i3 i4 i5=>?_
  refine uo (hh) fun j1 j2 j3 j4 j5=>?_
  refine hQ xl xh _ _ _ _ _ (ah _ _) ⟨pl.l,ph.l,pl.v,ph.v,nb r1 r3 r2 r4 i1 i2 i3 i4,uU r1 r3 r2 r4 j1 j2 j3 j4⟩ ?_
  have e:((137438953472:Int):Re)=((1073741824:Int):Re)*((64:Int):Re)+((1073741824:Int):Re)*((64:Int):Re):=by rw [← am,← bE]; rfl
  rw [e]
  exact vz (a6 (cV (by decide) j)) d1.b1 d1.b2 (by clear h1 h2 h3 h4; grind) d2.b1 d2.b2 (by clear h1 h2 h3 h4; grind) d1.wd d2.wd i5 j5
end
end Mine
set_option maxRecDepth 100000
namespace Mine
open PySem Re
noncomputable def zp (pr:Nat):PE:=(.call pr (.cons (.idx (.var 1) (.var 0)) (.cons (.idx (.var 2) (.var 0)) .nil)))
noncomputable def Cg (st ro bd:Nat):PS:=(.seq (.ret (.call st (.cons (.call ro (.cons (.var 5) .nil)) (.cons (.fnv bd) (.cons (.var 0) (.cons (.var 1) .nil))))))
 .skip)
noncomputable def DG (pw pr st ro bd:Nat):PS:=(.seq (.assign 2 (.bin .mul (.bin .sub (.bi .len (.cons (.idx (.var 0) (.cint 0)) .nil)) (.cint 1)) (.bin .sub (.bi .len (.cons (.idx (.var 1) (.cint 0)) .nil)) (.cint 1))))
 (.seq (.assign 3 (.call pw (.cons (.idx (.var 0) (.cint 0)) (.cons (.var 2) .nil))))
 (.seq (.assign 4 (.call pw (.cons (.idx (.var 1) (.cint 0)) (.cons (.var 2) .nil))))
 (.seq (.assign 5 (.comp (zp pr) 1 [3,4] (.rng (.cons (.bin .add (.var 2) (.cint 1)) .nil)) .no))
 (Cg st ro bd)))))
section
variable {sub:Nat→Nat→Bool} {P:List Fn} {f n ia ha bd sg tu se mu na wo kc be ps pr ta pa dv pl tr re wl rs qu co sp ro st pw sn:Nat} {H:Hp} {Q:V→Hp→Prop} {X:Nat→Hp→Prop}
theorem Bd:∀ k,k < 5→fb k+fb k≤sb k∧fb k+fb k≤100000:=by decide
theorem AC (er:P[pr]?=some ⟨2,2,cH pa⟩) (ep:P[pa]?=some ⟨2,3,bL dv⟩) (ed:P[dv]?=some ⟨2,3,bW⟩) {xa xb:Nat→Re} {ls rs':List V} {l m:Nat} (hls:H[l]?=some ls) (hrs:H[m]?=some rs') (hl:PvL fb xa 5 ls) (hr:PvL fb xb 5 rs') :
    ∀ (r j:Nat) (acc:List V) (Q:List V→Hp→Prop),j+r=5→PvL sb (fun k=>xa k*xb k) j acc→(∀ ys,PvL sb (fun k=>xa k*xb k) 5 (acc++ys)→Q ys H) →
      cK (fun x H2 k=>wpE sub (aj sub P (n+3)) (zp pr) [some x,some (V.lst l),some (V.lst m)] H2 fun y H4=>k (some y) H4) (List.map (fun i:Nat=>V.int (i:Int)) (List.range' j r)) H Q
  | 0,j,acc,Q,hj,ha,hq=>by
    obtain rfl:j=5:=hj
    exact hq [] (by rw [List.append_nil]; exact ha)
  | r+1,j,acc,Q,hj,ha,hq=>by
    have hj5:j < 5:=by exact om [j,r] [] [(.eq (.a Y0 (.a Y1 (.n 1))) (.n 5))] (.le (.a Y0 (.n 1)) (.n 5)) [[1,1]] rfl hj
    refine jg (hl.2 j hj5) fun v hv p1 q1 zq4 L1 e1=>?_; subst zq4
    refine jg (hr.2 j hj5) fun w hw p2 q2 zq3 L2 e2=>?_; subst zq3
    show wpE sub (aj sub P (n+3)) (zp pr) [some (V.int (j:Int)),some (V.lst l),some (V.lst m)] H _
    dsimp only [zp,qE5,aO,aY,aC,aD,cy,ac,af]
    refine ifSome.mk hls (ifSome.mk (aF (by rw [hl.1]; exact hj5)) (ifSome.mk hv ?_))
    refine ifSome.mk hrs (ifSome.mk (aF (by rw [hr.1]; exact hj5)) (ifSome.mk hw ?_))
    refine nL er ep ed L1.top L1.bot L1.pos L2.top L2.bot L2.pos (Bd j hj5).2 fun p q L h=>?_
    refine AC er ep ed hls hrs hl hr r (j+1) (acc++[pt p q]) _ (by exact om [j,r] [] [(.eq (.a Y0 (.a Y1 (.n 1))) (.n 5))] (.eq (.a (.a Y0 (.n 1)) Y1) (.n 5)) [[1,0,1],[1,1]] rfl hj) (ha.snoc ⟨p,q,rfl,L.mono (Bd j hj5).1,kI L1.pos L2.pos e1 e2 h⟩) fun ys hys=>?_
    exact hq _ (by rw [List.append_assoc] at hys; exact hys)
theorem lS (x y:Re):∀ k:Nat,(x*y) ^ k=x ^ k*y ^ k
  | 0=>by rw [Lean.Grind.Semiring.pow_zero,Lean.Grind.Semiring.pow_zero,Lean.Grind.Semiring.pow_zero]; grind
  | k+1=>by rw [Lean.Grind.Semiring.pow_succ,Lean.Grind.Semiring.pow_succ,Lean.Grind.Semiring.pow_succ,lS x y k]; grind
theorem DI (a a' b b':Re):(fun k=>Mine.p2 a a' k*Mine.p2 b b' k)=p4 (a*b) (a*b') (a'*b) (a'*b'):=funext fun k=>by
  unfold Mine.p2 p4; rw [lS,lS,lS,lS]; grind
theorem jS {x y:Re} (h1:ab x≤((2000000:Int):Re)) (h2:ab y≤((2000000:Int):Re)):ab (x*y)≤((4000000000000:Int):Re):=by
  have e:((4000000000000:Int):Re)=((2000000:Int):Re)*((2000000:Int):Re):=by rw [← am]; rfl
  have a:=bg x
  have b:=bg y
  rw [gW,e]
  exact wf h1 (by grind) h2 (by grind)
theorem zV (e0:P[f]?=some ⟨2,6,DG pw pr st ro bd⟩) (epw:P[pw]?=some ⟨2,7,BD pa ps pr⟩) (es:P[ps]?=some ⟨2,2,eK pa⟩) (er:P[pr]?=some ⟨2,2,cH pa⟩) (ep:P[pa]?=some ⟨2,3,bL dv⟩) (ed:P[dv]?=some ⟨2,3,bW⟩)
    (est:P[st]?=some ⟨4,6,CH ia ha bd⟩) (ero:P[ro]?=some ⟨1,10,bRo dv ps pr sn pl⟩) (esn:P[sn]?=some ⟨2,2,rB ta⟩) (eta:P[ta]?=some ⟨1,1,gu⟩) (ebd:P[bd]?=some ⟨2,8,bPB be pr⟩)
    (eia:P[ia]?=some ⟨3,3,nK sg tu⟩) (eg:P[sg]?=some ⟨2,5,kT⟩) (etu:P[tu]?=some ⟨3,6,kW se⟩) (ese:P[se]?=some ⟨3,9,mR mu⟩) (emu:P[mu]?=some ⟨3,5,r6⟩)
    (eha:P[ha]?=some ⟨1,1,yB na pr wo⟩) (ewo:P[wo]?=some ⟨1,1,B5 ps ta⟩) (ena:P[na]?=some ⟨2,8,nO kc be ps pr ta sg⟩) (ebe:P[be]?=some ⟨2,2,e9⟩)
    (epl:P[pl]?=some ⟨1,2,rU tr re qu co sp⟩) (etr:P[tr]?=some ⟨1,2,mL⟩) (ere:P[re]?=some ⟨1,3,nH dv ngQ⟩) (equ:P[qu]?=some ⟨2,5,uC wl⟩) (ewl:P[wl]?=some ⟨4,7,bWl⟩) (eco:P[co]?=some ⟨2,3,jN rs re⟩) (ers:P[rs]?=some ⟨2,3,qR tr wl re⟩) (esp:P[sp]?=some ⟨1,1,nY⟩)
    {c0 c1 c2 d0 d1 d2 N M p1 q1 p2 q2 r1 s1 r2 s2:Int} {a a' b b' lo1 hi1 lo2 hi2:Re} (hA:QR c0 c1 c2 a a') (hB:QR d0 d1 d2 b b') (dA:PD [c0,c1,c2] N a lo1 hi1 p1 q1 p2 q2 0) (dB:PD [d0,d1,d2] M b lo2 hi2 r1 s1 r2 s2 0)
    (hs1:a*b≠a*b'→1≤((2 ^ 82:Int):Re)*ab (a*b - a*b')) (hs2:a*b≠a'*b→1≤((2 ^ 82:Int):Re)*ab (a*b - a'*b)) (hs3:a*b≠a'*b'→1≤((2 ^ 82:Int):Re)*ab (a*b - a'*b'))
    (hQ:∀ R x1 y1 x2 y2 H',H<+:H'→PgO R (a*b) x1 y1 x2 y2→Q (pg R x1 y1 x2 y2) H'):aj sub P (n+7) f [pg [c0,c1,c2] p1 q1 p2 q2,pg [d0,d1,d2] r1 s1 r2 s2] H Q X:=by
  refine ai e0 rfl ?_
  dsimp only [DG]
  generalize hT:Cg st ro bd=T
  dsimp only [qS2,qS3,qE1,qE5,qE8,aO,br,aY,dH,aC,aD,qO1,qI3,cw,cM,cx,ji,jK,cD,az,aA,ax,aw,aP,ay,aq,fw,bu,ac,af,au,Nat.reduceSub,Nat.reduceAdd,List.length_nil,pg,List.map]
  refine ⟨IntMulOk.left (by unfold Sm; decide),?_⟩
  refine AZ epw es er ep ed hA.pos hA.s0 hA.s1 hA.s2 hA.e1 hA.e0 fun ls hl=>?_
  refine AZ epw es er ep ed hB.pos hB.s0 hB.s1 hB.s2 hB.e1 hB.e0 fun rs' hr=>?_
  refine mr (aB (by decide) (by decide)) ?_
  refine ⟨by decide,?_⟩
  generalize hH1:H++[ls]=H1
  have hp1:H<+:H1:=by rw [← hH1]; exact ah _ _
  have gl:H1[H.length]?=some ls:=by rw [← hH1]; exact ag _ _ _
  refine AC (n:=n+3) er ep ed (ao (ah _ _) gl) (ag _ _ _) hl hr 5 0 [] _ rfl ⟨rfl,nofun⟩ fun ys hys=>?_
  subst hT
  dsimp only [Cg,qS1,qS2,qS9,qE5,qE6,aO,aC,aD,ac,af]
  rw [List.nil_append,DI] at hys
  refine Aq ero es er esn eta ep ed (ag _ _ _) hys fun s xs H3 hp4 s0 hn he hsm hla=>?_
  have sne:=cz s0
  refine aX (sP hn sne he hA.ne hB.ne) fun us m rts hus=>?_
  have hu3:us.length≤3:=by have:=rts.n; clear hQ hs1 hs2 hs3; exact om [us.length,m] [] [(.eq (.a Y0 Y1) (.n 3))] (.le Y0 (.n 3)) [[1,1]] rfl this
  refine wA epl etr ere ed equ ewl eco ers esp (us:=(a*b) :: us) (m:=m) (B:=4000000000000) (b:=42) (v:=.lst H3.length) (ag _ _ _) hla (Int.ne_of_gt s0) hsm (by rw [hn,List.length_cons]; have:=rts.n; clear hQ hs1 hs2 hs3; exact om [us.length,m] [] [(.eq (.a Y0 Y1) (.n 3))] (.eq (.n 5) (.a (.a (.a Y0 (.n 1)) Y1) (.n 1))) [[1,1],[1,0,1]] rfl this) (by rw [hn]; decide) (by rw [List.length_cons]; clear hQ hs1 hs2 hs3; exact om [us.length] [] [] (.le (.n 1) (.a Y0 (.n 1))) [[1]] rfl) rts.pu rts.r1 rts.r2 (by decide) (AF (jS hA.b1 hB.b1) fun r hr=>by rcases (hus r hr).2 with rfl | rfl | rfl <;> first | exact jS hA.b1 hB.b2 | exact jS hA.b2 hB.b1 | exact jS hA.b2 hB.b2) (by unfold Sm; decide) (by decide) (by decide) fun H4 i R hp5 hi hR=>?_
  refine BI est eia eg etu ese emu (A:=[c0,c1,c2]) (B:=[d0,d1,d2]) (N:=N) (M:=M) (S:=2 ^ 82) (C:=137438953472) (a:=a) (b:=b) (fun row N al lo hi p1 q1 p2 q2 j H Q X d hj hQ=>wI eha ewo ena ebe es er eta eg ep ed rfl d hj hQ) (fun j u v H Q X hj h2 hQ=>At ebd ebe er ep ed hj h2 hQ) hi hR hu3 rts.pu (by rw [List.length_cons,xr]; clear hQ hs1 hs2 hs3; exact om [us.length] [] [(.le Y0 (.n 3))] (.le (.a (.n 125371) (.a (.m 42 (.a Y0 (.n 1))) (.n 1))) (.n 200000)) [[1,42]] rfl hu3) (by decide) (by decide) (fun r hr=>?_) ⟨⟨_,_,_,_,_,_,dA,rfl⟩,⟨_,_,_,_,_,_,dB,rfl⟩⟩ fun lo hi x1 y1 x2 y2 H5 hp6 hab hal=>?_
  · obtain ⟨hne,h | h | h⟩:=hus r hr
    · rw [h]; exact hs1 fun k=>hne (by rw [h,k])
    · rw [h]; exact hs2 fun k=>hne (by rw [h,k])
    · rw [h]; exact hs3 fun k=>hne (by rw [h,k])
  · refine hQ R x1 y1 x2 y2 H5 (ae hp1 (ae (ae (ah _ _) (ah _ _)) (ae hp4 (ae (ah _ _) (ae hp5 hp6))))) ⟨hR.la,hR.one,by rw [hR.ln,List.length_cons]; clear hQ hs1 hs2 hs3; exact om [us.length] [] [] (.le (.n 2) (.a (.a Y0 (.n 1)) (.n 1))) [[1]] rfl,by rw [hR.ln,List.length_cons]; clear hQ hs1 hs2 hs3; exact om [us.length] [] [(.le Y0 (.n 3))] (.le (.a (.a Y0 (.n 1)) (.n 1)) (.n 5)) [[1,1]] rfl hu3,hR.sm.mono ?_,?_,⟨lo,hi,hab⟩,hal⟩
    · rw [List.length_cons,xr]; clear hQ hs1 hs2 hs3; exact om [us.length] [] [(.le Y0 (.n 3))] (.le (.a (.n 125371) (.a (.m 42 (.a Y0 (.n 1))) (.n 1))) (.n 126000)) [[1,42]] rfl hu3
    · refine ad (hR.ev) fun k _ ev=>?_
      rw [ev,bS]; grind
end
end Mine
namespace Mine
open PySem Re
theorem qg {g t:Re} {R M Z:Int} (hR:0 < R) (e:ab g=(R:Re)*t) (h0:0≤t) {m:Re} (h:1≤ab g*m) (hm:m≤(M:Re)) (hM:R*M≤Z):1≤(Z:Re)*t:=by
  have k1:=cE hM
  rw [am] at k1
  have hR':=a6 hR
  have k2:=aH (aH (Std.le_of_lt hR') h0) (show 0≤(M:Re) - m by exact rn (hm))
  have k3:=aH h0 (show 0≤(Z:Re) - (R:Re)*M by exact rn (k1))
  rw [e] at h
  generalize (Z:Re)=z at *
  clear k1 e hM hm hR
  grind
theorem pH {R u v U Y S Z:Int} {a:Nat} {al be:Re} (hR:0 < R) (e:(R:Re)*(al - be)=u+v*aG a) (hu:ab (u:Re)≤U) (hv:ab (v:Re)≤Y) (ha:ab (aG a)≤S) (hM:R*(U+Y*S+1)≤Z) (h:al≠be):1≤(Z:Re)*ab (al - be):=by
  have h0:=jy hR e h
  have s:=D3 u v a h0
  have i0:(0:Re)≤1:=Std.le_of_lt Lean.Grind.OrderedRing.zero_lt_one
  have n1:=bg ((u:Re) - v*aG a)
  refine qg (g:=(R:Re)*(al - be)) (t:=ab (al - be)) hR (kE hR _) (bg _) (by rw [e]; exact s) (M:=U+Y*S+1) ?_ hM
  have:=wa hu (d9 hv ha)
  have one':((1:Int):Re)=1:=rfl
  rw [bE _ 1,one']; grind
theorem wB {a:Nat} (h:0 < a):1≤aG a:=by
  refine Classical.byContradiction fun hn=>?_
  have s0:=dZ a
  have hq:aG a*aG a=(((a:Nat):Int):Re):=dd a
  have a1:=cE (show (1:Int)≤(a:Int) from Int.ofNat_le.mpr h)
  have one':((1:Int):Re)=1:=rfl
  have:=dk s0 (show 0≤1 - aG a by grind)
  rw [one',← hq] at a1
  grind
theorem DZ (y z:Int) {a b:Nat} (ha:0 < a) {g h:Re} (eg:g=y*aG a+z*aG b) (eh:h=y*aG a - z*aG b) (h0:g≠0):1≤ab g*(ab h+1):=by
  have hq:aG a*aG a=(((a:Nat):Int):Re):=dd a
  have hr:aG b*aG b=(((b:Nat):Int):Re):=dd b
  have e:g*h=((y*y*a - z*z*b:Int):Re):=by
    simp only [cL,am]; rw [← hq,← hr,eg,eh]; grind
  have n1:=bg g
  have n2:=bg h
  by_cases hN:y*y*a - z*z*b=0
  · rw [hN,aE] at e
    have hz:h=0:=aR e h0
    have e2:g=((2*y:Int):Re)*aG a:=by rw [am]; show g=(2:Re)*y*aG a; rw [hz] at eh; rw [eg]; grind
    have y0:2*y≠0:=fun k=>h0 (by rw [e2,k,aE]; grind)
    have k1:=nT y0
    have k2:=wB ha
    have k3:ab (aG a)=aG a:=by unfold ab; rw [if_pos (dZ a)]
    have k4:ab g=ab ((2*y:Int):Re)*aG a:=by rw [e2,gW,k3]
    have k5:=dk (show 0≤ab ((2*y:Int):Re) - 1 by grind) (show 0≤aG a - 1 by grind)
    have k6:=dk n1 n2
    clear e2 e hz eg eh hq hr
    grind
  · have k1:=nT hN
    rw [← e,gW] at k1
    have k6:ab g*(ab h+1)=ab g*ab h+ab g:=by grind
    rw [k6]; grind
theorem tR {x y:Re} (h1:1≤x) (h2:1≤y):1≤x*y:=by
  have:=dk (show 0≤x - 1 by grind) (show 0≤y - 1 by grind)
  grind
theorem z9 {t:Re} {Z W:Int} (h:1≤(Z:Re)*t) (h0:0≤t) (hZ:Z≤W):1≤(W:Re)*t:=by
  have k:=cE hZ
  have:=dk h0 (show 0≤(W:Re) - (Z:Re) by grind)
  grind
section
variable {p q r p' q' r':Int} {d d':Nat}
theorem QD.nz (h:QD p q r d) (h0:qal p q r d≠0):1≤((8388608:Int):Re)*ab (qal p q r d):=by
  have q0:=h.q0
  have e:=cI (p:=p) (q:=q) (d:=d) h.r0
  have:=pH (a:=d) (u:=p) (v:=q) (U:=1000000) (Y:=6) (S:=6) (Z:=8388608) (al:=qal p q r d) (be:=0) h.r0 (by rw [← e]; grind) (cT h.p1 h.p2) (cT (by exact om [] [q] [(.or (.an (.il (.n 1) Y0) (.il Y0 (.n 6))) (.an (.il (.g (.n 6)) Y0) (.il Y0 (.g (.n 1)))))] (.il (.g (.n 6)) Y0) [[1,1]] rfl q0) (by exact om [] [q] [(.or (.an (.il (.n 1) Y0) (.il Y0 (.n 6))) (.an (.il (.g (.n 6)) Y0) (.il Y0 (.g (.n 1)))))] (.il Y0 (.n 6)) [[1,0,1]] rfl q0)) (g6 (by decide) (by have:=h.d2; exact om [d] [] [(.le Y0 (.n 30))] (.il (.a (.c Y0) (.n 1)) (.m 6 (.n 6))) [[1,1]] rfl this)) (Int.le_trans (Int.mul_le_mul_of_nonneg_right h.r2 (by decide)) (by decide)) h0
  rwa [show qal p q r d - 0=qal p q r d by grind] at this
theorem QD.df4 (h:QD p q r d):1≤((512:Int):Re)*ab (qal p q r d - qal p (0 - q) r d):=by
  have q0:=h.q0
  exact pH (a:=d) (u:=0) (v:=2*q) (U:=0) (Y:=12) (S:=6) (Z:=512) h.r0 (by rw [h.df,aE]; grind) (cT (by decide) (by decide)) (cT (by exact om [] [q] [(.or (.an (.il (.n 1) Y0) (.il Y0 (.n 6))) (.an (.il (.g (.n 6)) Y0) (.il Y0 (.g (.n 1)))))] (.il (.g (.n 12)) (.m 2 Y0)) [[1,2]] rfl q0) (by exact om [] [q] [(.or (.an (.il (.n 1) Y0) (.il Y0 (.n 6))) (.an (.il (.g (.n 6)) Y0) (.il Y0 (.g (.n 1)))))] (.il (.m 2 Y0) (.n 12)) [[1,0,2]] rfl q0)) (g6 (by decide) (by have:=h.d2; exact om [d] [] [(.le Y0 (.n 30))] (.il (.a (.c Y0) (.n 1)) (.m 6 (.n 6))) [[1,1]] rfl this)) (Int.le_trans (Int.mul_le_mul_of_nonneg_right h.r2 (by decide)) (by decide)) h.ne
theorem uA {a x:Re} (h1:1≤((8388608:Int):Re)*ab a) (h2:1≤((512:Int):Re)*ab x):1≤((2 ^ 82:Int):Re)*ab (a*x):=by
  have k:=tR h1 h2
  have e:((8388608:Int):Re)*ab a*(((512:Int):Re)*ab x)=((4294967296:Int):Re)*ab (a*x):=by
    rw [gW,show ((4294967296:Int):Re)=((8388608:Int):Re)*((512:Int):Re) by rw [← am]; rfl]; grind
  rw [e] at k
  exact z9 k (bg _) (by decide)
theorem QD.t1 (h:QD p q r d) (h':QD p' q' r' d') (hn:qal p q r d*qal p' q' r' d'≠qal p q r d*qal p' (0 - q') r' d'):1≤((2 ^ 82:Int):Re)*ab (qal p q r d*qal p' q' r' d' - qal p q r d*qal p' (0 - q') r' d'):=by
  rw [show qal p q r d*qal p' q' r' d' - qal p q r d*qal p' (0 - q') r' d'=qal p q r d*(qal p' q' r' d' - qal p' (0 - q') r' d') by grind]
  exact uA (h.nz fun k=>hn (by rw [k]; grind)) h'.df4
theorem QD.t2 (h:QD p q r d) (h':QD p' q' r' d') (hn:qal p q r d*qal p' q' r' d'≠qal p (0 - q) r d*qal p' q' r' d'):1≤((2 ^ 82:Int):Re)*ab (qal p q r d*qal p' q' r' d' - qal p (0 - q) r d*qal p' q' r' d'):=by
  rw [show qal p q r d*qal p' q' r' d' - qal p (0 - q) r d*qal p' q' r' d'=qal p' q' r' d'*(qal p q r d - qal p (0 - q) r d) by grind]
  exact uA (h'.nz fun k=>hn (by rw [k]; grind)) h.df4
theorem QD.t3 (h:QD p q r d) (h':QD p' q' r' d') (hn:qal p q r d*qal p' q' r' d'≠qal p (0 - q) r d*qal p' (0 - q') r' d'):1≤((2 ^ 82:Int):Re)*ab (qal p q r d*qal p' q' r' d' - qal p (0 - q) r d*qal p' (0 - q') r' d'):=by
  have e1:=cI (p:=p) (q:=q) (d:=d) h.r0
  have e2:=cI (p:=p) (q:=0 - q) (d:=d) h.r0
  have f1:=cI (p:=p') (q:=q') (d:=d') h'.r0
  have f2:=cI (p:=p') (q:=0 - q') (d:=d') h'.r0
  rw [cL,aE] at e2 f2
  have hR:0 < r*r':=Int.mul_pos h.r0 h'.r0
  have r1':=h'.r1
  have hR2:r*r'≤49:=Int.mul_le_mul h.r2 h'.r2 (by exact om [] [r'] [(.il (.n 1) Y0)] (.il (.n 0) Y0) [[1,1]] rfl r1') (by decide)
  have e:((r*r':Int):Re)*(qal p q r d*qal p' q' r' d' - qal p (0 - q) r d*qal p' (0 - q') r' d')=((2*(p'*q):Int):Re)*aG d+((2*(p*q'):Int):Re)*aG d':=by
    rw [am,show (r:Re)*r'*(qal p q r d*qal p' q' r' d' - qal p (0 - q) r d*qal p' (0 - q') r' d')=(r*qal p q r d)*(r'*qal p' q' r' d') - (r*qal p (0 - q) r d)*(r'*qal p' (0 - q') r' d') by grind,e1,e2,f1,f2]
    simp only [am]
    show _=(2:Re)*_*_+(2:Re)*_*_
    clear e1 e2 f1 f2 hn; grind
  have q0:=h.q0; have q0':=h'.q0
  have bq:=cT (n:=q) (c:=6) (by exact om [] [q] [(.or (.an (.il (.n 1) Y0) (.il Y0 (.n 6))) (.an (.il (.g (.n 6)) Y0) (.il Y0 (.g (.n 1)))))] (.il (.g (.n 6)) Y0) [[1,1]] rfl q0) (by exact om [] [q] [(.or (.an (.il (.n 1) Y0) (.il Y0 (.n 6))) (.an (.il (.g (.n 6)) Y0) (.il Y0 (.g (.n 1)))))] (.il Y0 (.n 6)) [[1,0,1]] rfl q0)
  have bq':=cT (n:=q') (c:=6) (by exact om [] [q'] [(.or (.an (.il (.n 1) Y0) (.il Y0 (.n 6))) (.an (.il (.g (.n 6)) Y0) (.il Y0 (.g (.n 1)))))] (.il (.g (.n 6)) Y0) [[1,1]] rfl q0') (by exact om [] [q'] [(.or (.an (.il (.n 1) Y0) (.il Y0 (.n 6))) (.an (.il (.g (.n 6)) Y0) (.il Y0 (.g (.n 1)))))] (.il Y0 (.n 6)) [[1,0,1]] rfl q0')
  have b2:=cT (n:=2) (c:=2) (by decide) (by decide)
  have by_:ab ((2*(p'*q):Int):Re)≤((12000000:Int):Re):=by rw [am,am]; exact jP (d9 b2 (d9 (cT h'.p1 h'.p2) bq)) (by decide)
  have bz:ab ((2*(p*q'):Int):Re)≤((12000000:Int):Re):=by rw [am,am]; exact jP (d9 b2 (d9 (cT h.p1 h.p2) bq')) (by decide)
  have sd:=g6 (d:=d) (A:=6) (by decide) (by have:=h.d2; exact om [d] [] [(.le Y0 (.n 30))] (.il (.a (.c Y0) (.n 1)) (.m 6 (.n 6))) [[1,1]] rfl this)
  have sd':=g6 (d:=d') (A:=6) (by decide) (by have:=h'.d2; exact om [d'] [] [(.le Y0 (.n 30))] (.il (.a (.c Y0) (.n 1)) (.m 6 (.n 6))) [[1,1]] rfl this)
  have h0:=jy hR e hn
  have s:=DZ _ _ h.d1 rfl rfl h0
  refine qg (Z:=2 ^ 82) (g:=((r*r':Int):Re)*(qal p q r d*qal p' q' r' d' - qal p (0 - q) r d*qal p' (0 - q') r' d')) hR (kE hR _) (bg _) (by rw [e]; exact s) (M:=12000000*6+12000000*6+1) ?_ (Int.le_trans (Int.mul_le_mul_of_nonneg_right hR2 (by decide)) (by decide))
  have k:=wa (d9 by_ sd) (d9 bz sd')
  rw [bE _ 1,show ((1:Int):Re)=1 from rfl]
  clear e s h0 e1 e2 f1 f2 hn
  grind
end
end Mine
set_option maxRecDepth 100000
namespace Mine
open PySem Re
section
variable {sub:Nat→Nat→Bool} {P:List Fn} {f n mu an pd ma fo tw ls:Nat} {H:Hp} {Q:V→Hp→Prop} {X:Nat→Hp→Prop} {W:Nat→Prop} {NN:Loc→Hp→Prop} {R:V→Hp→Prop} {Y:Nat→Hp→Prop} {a b:Nat}
theorem v5 (ea:P[an]?=some ⟨2,2,mE⟩) (ep:P[pd]?=some ⟨4,8,jq mu⟩) (ema:P[ma]?=some ⟨2,2,jk⟩) (em:P[mu]?=some ⟨3,3,fC⟩) {row:List Int} {fd:V} {g T S:Re} {β d:Int} {it ib i j r k:Nat} {o9 o10 o11:Option V} (hd:row[r]?=some d) (sd:Sm 126000 d) (hk:k≤5) (sa:Sm 64 (a:Int)) (sb:Sm 64 (b:Int)) (h1:L4 a b 180 H it ((β:Re)*g)) (h2:L4 a b 180 H ib (β:Re)) (h3:L4 a b (127500+320*k) H i T) (h4:L4 a b (10+320*k) H j S)
    (hN:∀ H' i' j',H<+:H'→L4 a b (127500+320*(k+1)) H' i' (T*((β:Re)*g)+(d:Re)*S)→L4 a b (10+320*(k+1)) H' j' (S*(β:Re))→NN [some fd,some (.lst it),some (.lst ib),some (.int a),some (.int b),some (.tup (row.map .int)),some (.lst i'),some (.lst j'),some (.int r),o9,o10,o11] H') :
    wpS sub (aj sub P (n+2)) W (lHo an pd ma) [some fd,some (.lst it),some (.lst ib),some (.int a),some (.int b),some (.tup (row.map .int)),some (.lst i),some (.lst j),some (.int r),o9,o10,o11] H NN R Y:=by
  dsimp only [lHo,qS1,qS2,qS3,qE5,aO,aY,aC,aD,ac,af,au]
  refine jR ep em h3 h1 (by clear hN; exact om [k] [] [(.le Y0 (.n 5))] (.le (.a (.n 127500) (.m 320 Y0)) (.n 190000)) [[1,320]] rfl hk) (by decide) sa sb fun H2 m2 p2 k2=>?_
  refine ifSome.mk (aF (show r < (row.map V.int).length by rw [List.length_map]; exact (List.getElem?_eq_some_iff.mp hd).1)) (ifSome.mk (v:=V.int d) (by rw [List.getElem?_map,hd]; rfl) ?_)
  refine iE ema (h4.keep p2) sd (by clear hN; exact om [k] [] [(.le Y0 (.n 5))] (.le (.a (.n 10) (.m 320 Y0)) (.n 190000)) [[1,320]] rfl hk) (by decide) fun H3 m3 p3 k3=>?_
  refine s7 ea ((k2.keep p3).mono (show _≤127500+320*k+310 by clear hN; exact om [k] [] [] (.le (.a (.a (.a (.n 127500) (.m 320 Y0)) (.n 180)) (.n 130)) (.a (.a (.n 127500) (.m 320 Y0)) (.n 310))) [[1]] rfl)) (k3.mono (by clear hN; exact om [k] [] [] (.le (.a (.a (.n 10) (.m 320 Y0)) (.n 126000)) (.a (.a (.n 127500) (.m 320 Y0)) (.n 310))) [[1]] rfl)) fun H4 m4 p4 k4=>?_
  have p24:=ae p2 (ae p3 p4)
  refine jR ep em (h4.keep p24) (h2.keep p24) (by clear hN; exact om [k] [] [(.le Y0 (.n 5))] (.le (.a (.n 10) (.m 320 Y0)) (.n 190000)) [[1,320]] rfl hk) (by decide) sa sb fun H5 m5 p5 k5=>?_
  exact hN _ _ _ (ae p24 p5) ((k4.keep p5).mono (by clear hN; exact om [k] [] [] (.le (.a (.a (.a (.n 127500) (.m 320 Y0)) (.n 310)) (.n 1)) (.a (.n 127500) (.m 320 (.a Y0 (.n 1))))) [[1]] rfl)) (k5.mono (by clear hN; exact om [k] [] [] (.le (.a (.a (.a (.n 10) (.m 320 Y0)) (.n 180)) (.n 130)) (.a (.n 10) (.m 320 (.a Y0 (.n 1))))) [[1]] rfl))
theorem xJ (ea:P[an]?=some ⟨2,2,mE⟩) (ep:P[pd]?=some ⟨4,8,jq mu⟩) (ema:P[ma]?=some ⟨2,2,jk⟩) (em:P[mu]?=some ⟨3,3,fC⟩) {row:List Int} {fd:V} {g:Re} {β:Int} {it ib:Nat} {o9 o10 o11:Option V} (sm:AllSm 126000 row) (hl:row.length≤5) (sa:Sm 64 (a:Int)) (sb:Sm 64 (b:Int))
    (hN:∀ H' i j T o8,H<+:H'→L4 a b 190000 H' i T→(β:Re)*T=0∨evR row g≠0→NN [some fd,some (.lst it),some (.lst ib),some (.int a),some (.int b),some (.tup (row.map .int)),some (.lst i),some (.lst j),o8,o9,o10,o11] H') :
    ∀ (r:Nat) (H1:Hp) (i j:Nat) (T S:Re) (o8:Option V),r≤row.length→H<+:H1→L4 a b 180 H1 it ((β:Re)*g)→L4 a b 180 H1 ib (β:Re)→L4 a b (127500+320*(row.length - r)) H1 i T→L4 a b (10+320*(row.length - r)) H1 j S→(β:Re)*T=S*evR (row.drop r) g →
    bx (fun ρ2 H2 k=>wpS sub (aj sub P (n+2)) W (lHo an pd ma) ρ2 H2 k R fun _ _=>False) 8 ((List.range r).reverse.map fun (i:Nat)=>V.int (i:Int)) [some fd,some (.lst it),some (.lst ib),some (.int a),some (.int b),some (.tup (row.map .int)),some (.lst i),some (.lst j),o8,o9,o10,o11] H1 NN
  | 0,H1,i,j,T,S,o8,_,hp,_,_,h3,_,he=>by
    refine hN H1 i j T o8 hp (h3.mono (by clear hN; exact om [row.length - 0,row.length] [] [(.le Y1 (.n 5)),(.an (.le Y1 (.a Y0 (.n 0))) (.le Y0 Y1))] (.le (.a (.n 127500) (.m 320 Y0)) (.n 190000)) [[1,320,0,320]] rfl hl (dG (row.length) (0)))) ?_
    rw [List.drop_zero] at he
    by_cases h:evR row g=0
    · left; rw [he,h]; grind
    · exact .inr h
  | r+1,H1,i,j,T,S,o8,hr,hp,h1,h2,h3,h4,he=>by
    have hd:∃ d,row[r]?=some d:=⟨row[r],List.getElem?_eq_getElem hr⟩
    obtain ⟨d,hd⟩:=hd
    have hdrop:row.drop r=d :: row.drop (r+1):=List.drop_eq_getElem?_toList_append.trans (by rw [hd]; rfl)
    have e1:row.length - r=row.length - (r+1)+1:=by clear hN; exact om [row.length - r,row.length,r,row.length - (r+1)] [] [(.le (.a Y2 (.n 1)) Y1),(.or (.an (.le Y2 Y1) (.eq Y1 (.a Y0 Y2))) (.an (.le Y1 Y2) (.eq Y0 (.n 0)))),(.or (.an (.le (.a Y2 (.n 1)) Y1) (.eq Y1 (.a Y3 (.a Y2 (.n 1))))) (.an (.le Y1 (.a Y2 (.n 1))) (.eq Y3 (.n 0))))] (.eq Y0 (.a Y3 (.n 1))) [[1,0,0,1,0,0,0,1],[1,1,0,1,0,0,1],[0,1,1],[1,0,0,0,1,0,1],[1,0,0,0,1,1]] rfl hr (aN (row.length) (r)) (aN (row.length) (r+1))
    rw [List.range_succ,List.reverse_append,List.reverse_singleton,List.singleton_append,List.map_cons]
    dsimp only [bx,au]
    refine v5 ea ep ema em hd (sm d (List.mem_of_getElem? hd)) (by clear hN; exact om [row.length - (r+1),row.length,r,row.length - r] [] [(.le Y1 (.n 5)),(.eq Y3 (.a Y0 (.n 1))),(.an (.le Y1 (.a Y3 Y2)) (.le Y3 Y1))] (.le Y0 (.n 5)) [[1,1,0,1,0,1]] rfl hl e1 (dG (row.length) (r))) sa sb h1 h2 h3 h4 fun H5 i' j' p5 k4 k5=>?_
    refine xJ ea ep ema em sm hl sa sb hN r H5 i' j' _ _ _ (Nat.le_of_succ_le hr) (ae hp p5) (h1.keep p5) (h2.keep p5) (e1 ▸ k4) (e1 ▸ k5) ?_
    rw [hdrop,evR]
    have:(β:Re)*(T*((β:Re)*g)+(d:Re)*S)=(β:Re)*(g*((β:Re)*T)+(d:Re)*S):=by grind
    rw [this,he]; grind
theorem w9 (e:P[f]?=some ⟨5,12,bHo fo an pd ma⟩) (ea:P[an]?=some ⟨2,2,mE⟩) (ep:P[pd]?=some ⟨4,8,jq mu⟩) (ema:P[ma]?=some ⟨2,2,jk⟩) (em:P[mu]?=some ⟨3,3,fC⟩) (ef:P[fo]?=some ⟨3,7,pI tw ls mu⟩) (et:P[tw]?=some ⟨3,3,sC ls⟩) (el:P[ls]?=some ⟨1,1,fk⟩)
    {row:List Int} {p1 q1 p2 q2 β:Int} {g:Re} {it ib:Nat} (h:PgO row g p1 q1 p2 q2) (ha:0 < a) (hb:0 < b) (sa:Sm 64 (a:Int)) (sb:Sm 64 (b:Int)) (hβ:0 < β) (h1:L4 a b 180 H it ((β:Re)*g)) (h2:L4 a b 180 H ib (β:Re)) (hQ:∀ H',H<+:H'→Q (.bool true) H') :
    aj sub P (n+4) f [pg row p1 q1 p2 q2,.lst it,.lst ib,.int a,.int b] H Q X:=by
  refine AL (h.ab) fun lo hi A=>?_
  have β0:=cz hβ
  refine ai e rfl ?_
  dsimp only [bHo]
  generalize hT:Bs fo an ma=T
  dsimp only [qS1,qS2,qS3,qS9,bj,b5,qE1,qE2,qE5,qE8,qE9,bh,aO,br,aY,cY,aC,aD,qI3,cM,ji,jK,az,aA,ax,aw,aP,ay,aq,ac,af,au,Nat.reduceSub]
  rw [List.length_map]
  refine DY (by have:=h.l5; clear hQ; exact om [row.length] [] [(.le Y0 (.n 5))] (.le Y0 (.n 900)) [[1,1]] rfl this) ?_
  have p0:H<+:H++[[V.int 0,V.int 0,V.int 0,V.int 0]]++[[V.int 1,V.int 0,V.int 0,V.int 0]]:=ae (ah _ _) (ah _ _)
  have z:∀ k,Sm k 0:=fun k=>Sm.zero
  have l0:L4 a b 127500 (H++[[V.int 0,V.int 0,V.int 0,V.int 0]]++[[V.int 1,V.int 0,V.int 0,V.int 0]]) H.length 0:=⟨0,0,0,0,ao (ah _ _) (ag _ _ _),⟨z _,z _,z _,z _⟩,by unfold v4; show (0:Re)=(0+0*aG a)+(0+0*aG a)*aG b; grind⟩
  have l1:L4 a b 10 (H++[[V.int 0,V.int 0,V.int 0,V.int 0]]++[[V.int 1,V.int 0,V.int 0,V.int 0]]) (H++[[V.int 0,V.int 0,V.int 0,V.int 0]]).length 1:=⟨1,0,0,0,ag _ _ _,⟨Sm.one (k:=9),z _,z _,z _⟩,by unfold v4; show (1:Re)=(1+0*aG a)+(0+0*aG a)*aG b; grind⟩
  generalize H++[[V.int 0,V.int 0,V.int 0,V.int 0]]++[[V.int 1,V.int 0,V.int 0,V.int 0]]=H1 at *
  refine xJ (n:=n+1) ea ep ema em (g:=g) (β:=β) (H:=H1) h.sm h.l5 sa sb (fun H2 i j T' o8 p1' k1 k2=>?_) row.length H1 _ _ 0 1 _ (Nat.le_refl _) (List.prefix_refl _) (h1.keep p0) (h2.keep p0) (by rw [Nat.sub_self]; exact l0) (by rw [Nat.sub_self]; exact l1) (by rw [List.drop_length]; show _=1*(0:Re); grind)
  have hT0:T'=0:=aR (k2.resolve_right fun h'=>h' h.rt) β0
  subst hT0
  dsimp only [ac,af]
  refine jT ef et el em k1 (by decide) ha hb sa sb fun H3 p2'=>?_
  rw [aT]
  dsimp only [qC,aZ,ac]
  rw [decide_eq_true rfl]
  dsimp only [bR,kU]
  subst hT
  have p3:=ae p0 (ae p1' p2')
  have r1:=aK (mul_pos (a6 (Int.mul_pos A.l1.pos hβ)) (hV A.lt))
  have r2:=aM (show ((q2*β:Int):Re)*(g - hi) < 0 by have:=mul_pos (a6 (Int.mul_pos A.l2.pos hβ)) (hV A.gt); grind)
  dsimp only [Bs,qS1,qS2,qS3,qS9,qE1,qE5,qE8,bh,fz,aO,aY,aC,aD,bV,cM,cq,cr,jV,iD,ac,af,au]
  refine jT ef et el em (h2.keep p3) (by decide) ha hb sa sb fun H4 p4=>?_
  rw [aK (a6 hβ)]
  have p34:=ae p3 p4
  refine iE ema (h1.keep p34) A.l1.bot (by decide) (by decide) fun H5 m5 p5 k5=>?_
  refine iE ema (h2.keep (ae p34 p5)) (show Sm 1300 (0 - p1) by rw [Int.zero_sub]; exact A.l1.top.neg) (by decide) (by decide) fun H6 m6 p6 k6=>?_
  refine s7 ea (k5.keep p6) k6 fun H7 m7 p7 k7=>?_
  have p37:=ae p34 (ae p5 (ae p6 p7))
  refine iE ema (h1.keep p37) A.l2.bot (by decide) (by decide) fun H8 m8 p8 k8=>?_
  refine iE ema (h2.keep (ae p37 p8)) (show Sm 1300 (0 - p2) by rw [Int.zero_sub]; exact A.l2.top.neg) (by decide) (by decide) fun H9 m9 p9 k9=>?_
  refine s7 ea (k8.keep p9) k9 fun H10 m10 p10 k10=>?_
  have p310:=ae p8 (ae p9 p10)
  refine jT ef et el em ((k7.keep p310).eq (wS A.l1.pos hβ A.v1)) (by decide) ha hb sa sb fun H11 p11=>?_
  rw [r1]
  refine ⟨IntMulOk.left (by unfold Sm; decide),?_⟩
  dsimp only [li,aZ,ac]
  rw [decide_eq_true (show (0:Int) < 1*1 by decide)]
  dsimp only [bu]
  refine jT ef et el em ((k10.keep p11).eq (wS A.l2.pos hβ A.v2)) (by decide) ha hb sa sb fun H12 p12=>?_
  rw [r2]
  refine ⟨IntMulOk.left (by unfold Sm; decide),?_⟩
  dsimp only [fY]
  rw [decide_eq_true (show (-1*1:Int) < 0 by decide)]
  exact hQ _ (ae p37 (ae p310 (ae p11 p12)))
end
noncomputable def C1 (ip ho:Nat):PS:=(.seq (.ite (.or (.cons (.nt (.call ip (.cons (.var 0) .nil))) (.cons (.cmp .gt (.bi .len (.cons (.idx (.var 0) (.cint 0)) .nil)) (.cint 5)) .nil))) (.seq (.ret (.cbool false))
 .skip) .skip)
 (.seq (.ret (.call ho (.cons (.var 0) (.cons (.var 1) (.cons (.lst (.cons (.var 2) (.cons (.cint 0) (.cons (.cint 0) (.cons (.cint 0) .nil))))) (.cons (.var 3) (.cons (.var 4) .nil)))))))
 .skip))
section
variable {sub:Nat→Nat→Bool} {P:List Fn} {f n dv re ta ip ho wh sm va tu se by_ pa ld mu an pd ma fo tw ls:Nat} {H:Hp} {Q:V→Hp→Prop} {X:Nat→Hp→Prop} {a b:Nat}
theorem yl (e:P[f]?=some ⟨5,5,C1 ip ho⟩) (ei:P[ip]?=some ⟨1,4,rO wh sm re va tu⟩) (ew:P[wh]?=some ⟨1,1,n4⟩) (es:P[sm]?=some ⟨1,3,nH ld ngL⟩) (eip:P[re]?=some ⟨1,1,j7 wh pa⟩) (ev:P[va]?=some ⟨2,5,Ar⟩) (etu:P[tu]?=some ⟨3,6,jZ se⟩) (ese:P[se]?=some ⟨3,7,kX by_⟩) (eb:P[by_]?=some ⟨2,5,bBy⟩) (ep:P[pa]?=some ⟨2,3,gr ld⟩) (ed:P[ld]?=some ⟨2,3,my⟩)
    (eh:P[ho]?=some ⟨5,12,bHo fo an pd ma⟩) (ea:P[an]?=some ⟨2,2,mE⟩) (epd:P[pd]?=some ⟨4,8,jq mu⟩) (ema:P[ma]?=some ⟨2,2,jk⟩) (em:P[mu]?=some ⟨3,3,fC⟩) (ef:P[fo]?=some ⟨3,7,pI tw ls mu⟩) (et:P[tw]?=some ⟨3,3,sC ls⟩) (el:P[ls]?=some ⟨1,1,fk⟩)
    {row:List Int} {p1 q1 p2 q2 β:Int} {g:Re} {it:Nat} (h:PgO row g p1 q1 p2 q2) (ha:0 < a) (hb:0 < b) (sa:Sm 64 (a:Int)) (sb:Sm 64 (b:Int)) (hβ:0 < β) (sβ:Sm 64 β) (h1:L4 a b 180 H it ((β:Re)*g)) (hQ:∀ H',H<+:H'→Q (.bool true) H') :
    aj sub P (n+5) f [pg row p1 q1 p2 q2,.lst it,.int β,.int a,.int b] H Q X:=by
  obtain ⟨l,I⟩:=h.peg
  refine ai e rfl ?_
  dsimp only [C1,qS1,qS2,qS9,bj,qE1,qE2,qE5,fy,bh,fB,aO,br,aY,cY,aC,aD,bV,li,ji,jK,aZ,az,aA,ax,aw,ay,aq,ac,af,Nat.reduceSub]
  refine zT ei ew es eip ev etu ese eb ep ed (by decide) (by decide) I fun H1 hp1=>?_
  dsimp only [aZ,bR,gJ,kU,ac]
  rw [List.length_map,decide_eq_false (Int.not_lt.mpr (show (row.length:Int)≤5 by have:=h.l5; exact om [row.length] [] [(.le Y0 (.n 5))] (.il (.c Y0) (.n 5)) [[1,1]] rfl this))]
  dsimp only [bR]
  have z:∀ k,Sm k 0:=fun k=>Sm.zero
  refine w9 eh ea epd ema em ef et el h ha hb sa sb hβ (h1.keep (ae hp1 (ah _ _))) ⟨β,0,0,0,ag _ _ _,⟨sβ.mono (by decide),z _,z _,z _⟩,?_⟩ fun H2 hp2=>hQ _ (ae hp1 (ae (ah _ _) hp2))
  unfold v4; show _=((β:Re)+0*aG a)+(0+0*aG a)*aG b; grind
end
end Mine
set_option maxRecDepth 100000
namespace Mine
namespace L10
open PySem
noncomputable def pY:PS:=(.seq (.ret (.var 0))
 .skip)
noncomputable def rz:PE:=(.cmp .gt (.var 1) (.cint 0))
noncomputable def qw:PS:=(.seq (.assign 2 (.bin .mod (.var 0) (.var 1)))
 (.seq (.assign 0 (.var 1))
 (.seq (.assign 1 (.var 2))
 .skip)))
noncomputable def vI:PS:=(.seq (.assign 0 (.bi .abs (.cons (.var 0) .nil)))
 (.seq (.assign 1 (.bi .abs (.cons (.var 1) .nil)))
 (.seq (.whl rz qw)
 pY)))
noncomputable def vf : List Str := ["one", "other", "rest"]
noncomputable def xX:PS:=(.seq (.ret (.tup (.cons (.bin .fdiv (.var 0) (.var 2)) (.cons (.bin .fdiv (.var 1) (.var 2)) .nil))))
 .skip)
noncomputable def wx:PS:=(.seq (.assign 2 (.call 0 (.cons (.var 0) (.cons (.var 1) .nil))))
 (.seq (.ite (.cmp .lt (.var 1) (.cint 0)) (.seq (.assign 2 (.neg (.var 2)))
 .skip) .skip)
 xX))
noncomputable def B6:PS:=(.seq (.ite (.cmp .eq (.var 1) (.cint 0)) (.seq (.raise 1)
 .skip) .skip)
 wx)
noncomputable def B8 : List Str := ["top", "bottom", "many"]
noncomputable def zK:PS:=(.seq (.ret (.cmp .lt (.bin .mul (.idx (.var 0) (.cint 0)) (.idx (.var 1) (.cint 1))) (.bin .mul (.idx (.var 1) (.cint 0)) (.idx (.var 0) (.cint 1)))))
 .skip)
noncomputable def zn : List Str := ["one", "other"]
noncomputable def r9:PS:=(.seq (.ret (.call 1 (.cons (.bin .add (.bin .mul (.idx (.var 0) (.cint 0)) (.idx (.var 1) (.cint 1))) (.bin .mul (.idx (.var 1) (.cint 0)) (.idx (.var 0) (.cint 1)))) (.cons (.bin .mul (.idx (.var 0) (.cint 1)) (.idx (.var 1) (.cint 1))) .nil))))
 .skip)
noncomputable def rF : List Str := ["one", "other"]
noncomputable def kL:PS:=(.seq (.ret (.call 1 (.cons (.bin .mul (.idx (.var 0) (.cint 0)) (.idx (.var 1) (.cint 0))) (.cons (.bin .mul (.idx (.var 0) (.cint 1)) (.idx (.var 1) (.cint 1))) .nil))))
 .skip)
noncomputable def kO : List Str := ["one", "other"]
noncomputable def l4:PS:=(.seq (.ret (.tup (.cons (.neg (.idx (.var 0) (.cint 0))) (.cons (.idx (.var 0) (.cint 1)) .nil))))
 .skip)
noncomputable def lL : List Str := ["one"]
noncomputable def rc:PS:=(.seq (.ret (.bi .int (.cons (.cmp .gt (.var 2) (.cint 0)) .nil)))
 .skip)
noncomputable def qF:PS:=(.seq (.ite (.cmp .lt (.var 2) (.cint 0)) (.seq (.ret (.neg (.cint 1)))
 .skip) .skip)
 rc)
noncomputable def rk:PS:=(.seq (.assign 2 (.bin .add (.bin .mul (.var 2) (.idx (.var 1) (.cint 0))) (.bin .mul (.var 4) (.var 3))))
 (.seq (.assign 3 (.bin .mul (.var 3) (.idx (.var 1) (.cint 1))))
 .skip))
noncomputable def uV:PS:=(.seq (.assign 2 (.cint 0))
 (.seq (.assign 3 (.cint 1))
 (.seq (.forr 4 (.rev (.var 0)) rk)
 qF)))
noncomputable def u7 : List Str := ["row", "at", "value", "scale", "number"]
noncomputable def qB:PS:=(.seq (.ret (.var 1))
 .skip)
noncomputable def qn:PE:=(.and (.cons (.var 1) (.cons (.cmp .eq (.idx (.var 1) (.neg (.cint 1))) (.cint 0)) .nil)))
noncomputable def pR:PS:=(.seq (.pop 1)
 .skip)
noncomputable def vd:PS:=(.seq (.assign 1 (.bi .list (.cons (.var 0) .nil)))
 (.seq (.whl qn pR)
 qB))
noncomputable def uY : List Str := ["row", "found"]
noncomputable def rj:PE:=(.bin .fdiv (.var 0) (.var 1))
noncomputable def qP:PS:=(.seq (.ret (.comp rj 1 [1] (.seq (.var 0)) .no))
 .skip)
noncomputable def ql:PS:=(.seq (.ite (.cmp .lt (.idx (.var 0) (.neg (.cint 1))) (.cint 0)) (.seq (.assign 1 (.neg (.var 1)))
 .skip) .skip)
 qP)
noncomputable def qN:PS:=(.seq (.assign 1 (.call 0 (.cons (.var 1) (.cons (.var 2) .nil))))
 .skip)
noncomputable def vi:PS:=(.seq (.assign 1 (.cint 0))
 (.seq (.forr 2 (.seq (.var 0)) qN)
 ql))
noncomputable def vy : List Str := ["row", "many", "number"]
noncomputable def uQ:PE:=(.bin .mul (.var 0) (.idx (.var 1) (.var 0)))
noncomputable def zl:PS:=(.seq (.ret (.comp uQ 1 [0] (.rng (.cons (.cint 1) (.cons (.bi .len (.cons (.var 0) .nil)) .nil))) .no))
 .skip)
noncomputable def zc : List Str := ["row"]
noncomputable def jp:PS:=(.seq (.ret (.var 4))
 .skip)
noncomputable def jl:PS:=(.seq (.setidx 4 (.bin .add (.var 5) (.var 6)) (.bin .sub (.idx (.var 4) (.bin .add (.var 5) (.var 6))) (.bin .mul (.var 2) (.idx (.var 1) (.var 6)))))
 .skip)
noncomputable def jd:PE:=(.bin .mul (.var 0) (.var 1))
noncomputable def kF:PS:=(.seq (.assign 4 (.comp jd 1 [3] (.seq (.var 0)) .no))
 (.seq (.assign 5 (.bin .sub (.bi .len (.cons (.var 0) .nil)) (.bi .len (.cons (.var 1) .nil))))
 (.seq (.forr 6 (.rng (.cons (.bi .len (.cons (.var 1) .nil)) .nil)) jl)
 jp)))
noncomputable def ke : List Str := ["left", "other", "many", "scale", "found", "ahead", "k"]
noncomputable def qb:PS:=(.seq (.ret (.var 2))
 .skip)
noncomputable def qJ:PE:=(.cmp .ge (.bi .len (.cons (.var 2) .nil)) (.bi .len (.cons (.var 1) .nil)))
noncomputable def rm:PS:=(.seq (.assign 2 (.call 7 (.cons (.call 10 (.cons (.var 2) (.cons (.var 1) (.cons (.idx (.var 2) (.neg (.cint 1))) (.cons (.idx (.var 1) (.neg (.cint 1))) .nil))))) .nil)))
 (.seq (.ite (.var 2) (.seq (.assign 2 (.call 8 (.cons (.var 2) .nil)))
 .skip) .skip)
 .skip))
noncomputable def vH:PS:=(.seq (.assign 2 (.bi .list (.cons (.var 0) .nil)))
 (.seq (.whl qJ rm)
 qb))
noncomputable def vG : List Str := ["one", "other", "left"]
noncomputable def tU:PS:=(.seq (.ret (.call 8 (.cons (.var 0) .nil)))
 .skip)
noncomputable def tV:PE:=(.var 1)
noncomputable def rX:PS:=(.seq (.assign 2 (.call 11 (.cons (.var 0) (.cons (.var 1) .nil))))
 (.seq (.assign 0 (.var 1))
 (.seq (.assign 1 (.var 2))
 .skip)))
noncomputable def yu:PS:=(.seq (.whl tV rX)
 tU)
noncomputable def yt : List Str := ["one", "other", "rest"]
noncomputable def pj:PS:=(.seq (.rev 3)
 (.seq (.ret (.var 3))
 .skip))
noncomputable def nW:PE:=(.cmp .ge (.bi .len (.cons (.var 2) .nil)) (.bi .len (.cons (.var 1) .nil)))
noncomputable def nP:PS:=(.seq (.assign 4 (.bin .fdiv (.idx (.var 2) (.neg (.cint 1))) (.idx (.var 1) (.neg (.cint 1)))))
 (.seq (.app 3 (.var 4))
 (.seq (.assign 2 (.call 10 (.cons (.var 2) (.cons (.var 1) (.cons (.var 4) (.cons (.cint 1) .nil))))))
 (.seq (.pop 2)
 .skip))))
noncomputable def tq:PS:=(.seq (.assign 2 (.bi .list (.cons (.var 0) .nil)))
 (.seq (.assign 3 (.lst .nil))
 (.seq (.whl nW nP)
 pj)))
noncomputable def si : List Str := ["one", "other", "left", "found", "many"]
noncomputable def vu:PS:=(.seq (.assign 1 (.call 8 (.cons (.var 1) .nil)))
 (.seq (.ret (.call 8 (.cons (.call 13 (.cons (.var 1) (.cons (.call 12 (.cons (.var 1) (.cons (.call 9 (.cons (.var 1) .nil)) .nil))) .nil))) .nil)))
 .skip))
noncomputable def zI:PS:=(.seq (.assign 1 (.call 7 (.cons (.var 0) .nil)))
 (.seq (.ite (.cmp .lt (.bi .len (.cons (.var 1) .nil)) (.cint 2)) (.seq (.raise 2)
 .skip) .skip)
 vu))
noncomputable def z8 : List Str := ["row", "kept"]
noncomputable def lj:PS:=(.seq (.ret (.var 3))
 .skip)
noncomputable def ky:PS:=(.seq (.setidx 3 (.var 4) (.bin .add (.idx (.var 3) (.var 4)) (.bin .mul (.idx (.var 0) (.var 4)) (.var 1))))
 (.seq (.setidx 3 (.bin .add (.var 4) (.cint 1)) (.bin .add (.idx (.var 3) (.bin .add (.var 4) (.cint 1))) (.bin .mul (.idx (.var 0) (.var 4)) (.var 2))))
 .skip))
noncomputable def nX:PS:=(.seq (.assign 3 (.bin .mul (.lst (.cons (.cint 0) .nil)) (.bin .add (.bi .len (.cons (.var 0) .nil)) (.cint 1))))
 (.seq (.forr 4 (.rng (.cons (.bi .len (.cons (.var 0) .nil)) .nil)) ky)
 lj))
noncomputable def oA : List Str := ["row", "first", "second", "found", "k"]
noncomputable def wj:PS:=(.seq (.ret (.var 6))
 .skip)
noncomputable def wM:PE:=(.bin .add (.idx (.var 1) (.var 0)) (.bin .mul (.var 2) (.idx (.var 3) (.var 0))))
noncomputable def wV:PS:=(.seq (.assign 7 (.call 15 (.cons (.var 7) (.cons (.var 5) (.cons (.var 5) .nil)))))
 (.seq (.assign 6 (.call 15 (.cons (.var 6) (.cons (.var 3) (.cons (.var 4) .nil)))))
 (.seq (.assign 6 (.comp wM 1 [6,8,7] (.rng (.cons (.bi .len (.cons (.var 6) .nil)) .nil)) .no))
 .skip)))
noncomputable def Bn:PS:=(.seq (.assign 3 (.bin .mul (.idx (.var 1) (.cint 0)) (.idx (.var 2) (.cint 1))))
 (.seq (.assign 4 (.bin .mul (.idx (.var 2) (.cint 0)) (.idx (.var 1) (.cint 1))))
 (.seq (.assign 5 (.bin .mul (.idx (.var 1) (.cint 1)) (.idx (.var 2) (.cint 1))))
 (.seq (.assign 6 (.lst (.cons (.idx (.var 0) (.neg (.cint 1))) .nil)))
 (.seq (.assign 7 (.lst (.cons (.cint 1) .nil)))
 (.seq (.forr 8 (.rev (.slc (.var 0) .no (.some (.neg (.cint 1))))) wV)
 wj))))))
noncomputable def BC : List Str := ["row", "low", "high", "begin", "end", "scale", "found", "power", "number"]
noncomputable def vK:PS:=(.seq (.ret (.var 3))
 .skip)
noncomputable def vr:PS:=(.seq (.assign 4 (.var 5))
 .skip)
noncomputable def uW:PS:=(.seq (.ite (.cmp .ne (.var 5) (.cint 0)) (.seq (.ite (.cmp .lt (.bin .mul (.var 4) (.var 5)) (.cint 0)) (.seq (.assign 3 (.bin .add (.var 3) (.cint 1)))
 .skip) .skip)
 vr) .skip)
 .skip)
noncomputable def yV:PS:=(.seq (.assign 3 (.cint 0))
 (.seq (.assign 4 (.cint 0))
 (.seq (.forr 5 (.seq (.call 16 (.cons (.var 0) (.cons (.var 1) (.cons (.var 2) .nil))))) uW)
 vK)))
noncomputable def zJ : List Str := ["row", "low", "high", "many", "ahead", "number"]
noncomputable def ti:PS:=(.seq (.ret (.and (.cons (.cmp .ne (.call 6 (.cons (.var 0) (.cons (.var 1) .nil))) (.cint 0)) (.cons (.cmp .ne (.call 6 (.cons (.var 0) (.cons (.var 2) .nil))) (.cint 0)) (.cons (.cmp .eq (.call 17 (.cons (.var 0) (.cons (.var 1) (.cons (.var 2) .nil)))) (.cint 1)) .nil)))))
 .skip)
noncomputable def rV : List Str := ["row", "low", "high"]
noncomputable def tX:PS:=(.seq (.ret (.call 3 (.cons (.idx (.var 0) (.cint 2)) (.cons (.call 5 (.cons (.idx (.var 0) (.cint 1)) .nil)) .nil))))
 .skip)
noncomputable def rN : List Str := ["one"]
noncomputable def nS:PS:=(.seq (.ret (.tup (.cons (.var 2) (.cons (.var 3) (.cons (.var 4) .nil)))))
 .skip)
noncomputable def n5:PE:=(.call 2 (.cons (.var 1) (.cons (.call 3 (.cons (.var 4) (.cons (.call 5 (.cons (.var 3) .nil)) .nil))) .nil)))
noncomputable def pb:PS:=(.seq (.ite (.cmp .eq (.var 6) (.call 6 (.cons (.var 2) (.cons (.var 3) .nil)))) (.seq (.assign 3 (.var 5))
 .skip) (.seq (.assign 4 (.var 5))
 .skip))
 .skip)
noncomputable def pn : PS := (.seq (.assign 5 (.call 4 (.cons (.call 3 (.cons (.var 3) (.cons (.var 4) .nil))) (.cons (.glob (Str.ofString "HALF") 1 2) .nil))))
 (.seq (.assign 6 (.call 6 (.cons (.var 2) (.cons (.var 5) .nil))))
 (.seq (.ite (.cmp .eq (.var 6) (.cint 0)) (.seq (.assign 7 (.call 4 (.cons (.var 1) (.cons (.glob (Str.ofString "QUARTER") 1 4) .nil))))
 (.seq (.ret (.tup (.cons (.var 2) (.cons (.call 3 (.cons (.var 5) (.cons (.call 5 (.cons (.var 7) .nil)) .nil))) (.cons (.call 3 (.cons (.var 5) (.cons (.var 7) .nil))) .nil)))))
 .skip)) .skip)
 pb)))
noncomputable def n8:PS:=(.seq (.unpack [2,3,4] (.var 0))
 (.seq (.whl n5 pn)
 nS))
noncomputable def tn:PS:=(.seq (.ite (.cmp .le (.idx (.var 1) (.cint 0)) (.cint 0)) (.seq (.raise 3)
 .skip) .skip)
 n8)
noncomputable def sV : List Str := ["one", "width", "row", "low", "high", "middle", "side", "step"]
noncomputable def wD : PS := (.seq (.ret (.call 20 (.cons (.var 0) (.cons (.call 4 (.cons (.call 19 (.cons (.var 0) .nil)) (.cons (.glob (Str.ofString "HALF") 1 2) .nil))) .nil))))
 .skip)
noncomputable def w8 : List Str := ["one"]
noncomputable def lW:PS:=(.seq (.ret (.var 3))
 .skip)
noncomputable def lc:PS:=(.seq (.app 3 (.call 4 (.cons (.var 5) (.cons (.call 1 (.cons (.neg (.cint 1)) (.cons (.idx (.var 0) (.var 2)) .nil))) .nil))))
 .skip)
noncomputable def kP:PS:=(.seq (.ite (.cmp .eq (.var 6) (.var 4)) (.seq (.assign 5 (.call 3 (.cons (.var 5) (.cons (.tup (.cons (.bin .mul (.var 4) (.idx (.var 0) (.bin .sub (.var 2) (.var 6)))) (.cons (.cint 1) .nil))) .nil))))
 .skip) (.seq (.assign 5 (.call 3 (.cons (.var 5) (.cons (.call 4 (.cons (.tup (.cons (.idx (.var 0) (.bin .sub (.var 2) (.var 6))) (.cons (.cint 1) .nil))) (.cons (.idx (.var 3) (.bin .sub (.var 4) (.var 6))) .nil))) .nil))))
 .skip))
 .skip)
noncomputable def lf : PS := (.seq (.assign 5 (.glob (Str.ofString "NOUGHT") 0 1))
 (.seq (.forr 6 (.rng (.cons (.cint 1) (.cons (.bin .add (.bi .min (.cons (.var 4) (.cons (.var 2) .nil))) (.cint 1)) .nil))) kP)
 lc))
noncomputable def nU:PS:=(.seq (.assign 2 (.bin .sub (.bi .len (.cons (.var 0) .nil)) (.cint 1)))
 (.seq (.assign 3 (.lst (.cons (.call 1 (.cons (.var 2) (.cons (.cint 1) .nil))) .nil)))
 (.seq (.forr 4 (.rng (.cons (.cint 1) (.cons (.bin .add (.var 1) (.cint 1)) .nil))) lf)
 lW)))
noncomputable def oN : List Str := ["row", "many", "last", "found", "power", "total", "k"]
noncomputable def sY:PS:=(.seq (.ret (.var 0))
 .skip)
noncomputable def wi:PS:=(.seq (.ite (.cmp .eq (.bin .mod (.var 1) (.cint 2)) (.cint 1)) (.seq (.ret (.call 5 (.cons (.var 0) .nil)))
 .skip) .skip)
 sY)
noncomputable def yH : List Str := ["one", "k"]
noncomputable def rL:PS:=(.seq (.ret (.call 14 (.cons (.var 8) .nil)))
 .skip)
noncomputable def sk:PS:=(.seq (.assign 9 (.call 23 (.cons (.idx (.var 2) (.var 5)) (.cons (.var 5) .nil))))
 (.seq (.app 8 (.bin .mul (.idx (.var 9) (.cint 0)) (.bin .fdiv (.var 6) (.idx (.var 9) (.cint 1)))))
 .skip))
noncomputable def tS:PS:=(.seq (.assign 8 (.lst .nil))
 (.seq (.forr 5 (.rng (.cons (.var 1) (.cons (.neg (.cint 1)) (.cons (.neg (.cint 1)) .nil)))) sk)
 rL))
noncomputable def s6:PS:=(.seq (.assign 6 (.bin .fdiv (.bin .mul (.var 6) (.idx (.var 7) (.cint 1))) (.call 0 (.cons (.var 6) (.cons (.idx (.var 7) (.cint 1)) .nil)))))
 .skip)
noncomputable def rK:PS:=(.seq (.assign 6 (.cint 1))
 (.seq (.forr 7 (.seq (.var 2)) s6)
 tS))
noncomputable def t5:PS:=(.seq (.app 2 (.call 4 (.cons (.var 4) (.cons (.tup (.cons (.cint 1) (.cons (.var 3) .nil))) .nil))))
 .skip)
noncomputable def sX:PS:=(.seq (.assign 4 (.call 3 (.cons (.var 4) (.cons (.call 23 (.cons (.call 4 (.cons (.idx (.var 2) (.bin .sub (.var 3) (.var 5))) (.cons (.idx (.var 0) (.var 5)) .nil))) (.cons (.bin .sub (.var 5) (.cint 1)) .nil))) .nil))))
 .skip)
noncomputable def tc : PS := (.seq (.assign 4 (.glob (Str.ofString "NOUGHT") 0 1))
 (.seq (.forr 5 (.rng (.cons (.cint 1) (.cons (.bin .add (.var 3) (.cint 1)) .nil))) sX)
 t5))
noncomputable def wU:PS:=(.seq (.assign 1 (.bin .sub (.bi .len (.cons (.var 0) .nil)) (.cint 1)))
 (.seq (.assign 2 (.lst (.cons (.glob (Str.ofString "ONE") 1 1) .nil)))
 (.seq (.forr 3 (.rng (.cons (.cint 1) (.cons (.bin .add (.var 1) (.cint 1)) .nil))) tc)
 rK)))
noncomputable def w6 : List Str := ["sums", "many", "found", "power", "total", "k", "scale", "one", "row", "told"]
noncomputable def qx:PS:=(.seq (.ret (.tup (.cons (.bi .tuple (.cons (.var 0) .nil)) (.cons (.var 4) (.cons (.var 5) .nil)))))
 .skip)
noncomputable def qc:PE:=(.nt (.call 18 (.cons (.var 0) (.cons (.var 4) (.cons (.var 5) .nil)))))
noncomputable def qT:PS:=(.seq (.assign 2 (.call 21 (.cons (.var 2) .nil)))
 (.seq (.assign 3 (.call 21 (.cons (.var 3) .nil)))
 (.seq (.unpack [4,5] (.callv 1 26 (.cons (.var 2) (.cons (.var 3) .nil))))
 .skip)))
noncomputable def vq:PS:=(.seq (.unpack [4,5] (.callv 1 26 (.cons (.var 2) (.cons (.var 3) .nil))))
 (.seq (.whl qc qT)
 qx))
noncomputable def u6 : List Str := ["row", "bounds", "one", "other", "low", "high"]
noncomputable def gK:PS:=(.seq (.ret (.tup (.cons (.var 5) (.cons (.var 6) .nil))))
 .skip)
noncomputable def gO:PS:=(.seq (.ite (.call 2 (.cons (.var 6) (.cons (.var 7) .nil))) (.seq (.assign 6 (.var 7))
 .skip) .skip)
 .skip)
noncomputable def gI:PS:=(.seq (.ite (.call 2 (.cons (.var 7) (.cons (.var 5) .nil))) (.seq (.assign 5 (.var 7))
 .skip) .skip)
 gO)
noncomputable def gQ:PS:=(.seq (.assign 5 (.idx (.var 2) (.cint 0)))
 (.seq (.assign 6 (.idx (.var 2) (.cint 0)))
 (.seq (.forr 7 (.seq (.var 2)) gI)
 gK)))
noncomputable def gL:PS:=(.seq (.app 2 (.call 4 (.cons (.var 3) (.cons (.var 4) .nil))))
 .skip)
noncomputable def gU:PS:=(.seq (.forr 4 (.seq (.tup (.cons (.idx (.var 1) (.cint 1)) (.cons (.idx (.var 1) (.cint 2)) .nil)))) gL)
 .skip)
noncomputable def iU:PS:=(.seq (.assign 2 (.lst .nil))
 (.seq (.forr 3 (.seq (.tup (.cons (.idx (.var 0) (.cint 1)) (.cons (.idx (.var 0) (.cint 2)) .nil)))) gU)
 gQ))
noncomputable def iW : List Str := ["one", "other", "corners", "first", "second", "low", "high", "corner"]
noncomputable def vJ:PE:=(.call 4 (.cons (.idx (.var 1) (.var 0)) (.cons (.idx (.var 2) (.var 0)) .nil)))
noncomputable def zE:PS:=(.seq (.assign 2 (.bin .mul (.bin .sub (.bi .len (.cons (.idx (.var 0) (.cint 0)) .nil)) (.cint 1)) (.bin .sub (.bi .len (.cons (.idx (.var 1) (.cint 0)) .nil)) (.cint 1))))
 (.seq (.assign 3 (.call 22 (.cons (.idx (.var 0) (.cint 0)) (.cons (.var 2) .nil))))
 (.seq (.assign 4 (.call 22 (.cons (.idx (.var 1) (.cint 0)) (.cons (.var 2) .nil))))
 (.seq (.assign 5 (.comp vJ 1 [3,4] (.rng (.cons (.bin .add (.var 2) (.cint 1)) .nil)) .no))
 (.seq (.ret (.call 25 (.cons (.call 24 (.cons (.var 5) .nil)) (.cons (.fnv 26) (.cons (.var 0) (.cons (.var 1) .nil))))))
 .skip)))))
noncomputable def y5 : List Str := ["one", "other", "many", "left", "right", "sums"]
noncomputable def pU:PS:=(.seq (.ret (.and (.cons (.isi (.var 0) [.int]) (.cons (.nt (.isi (.var 0) [.bool])) .nil))))
 .skip)
noncomputable def ry : List Str := ["_law_found"]
noncomputable def jE:PS:=(.seq (.ret (.cint 0))
 .skip)
noncomputable def mq:PS:=(.seq (.ite (.cmp .lt (.var 1) (.bi .len (.cons (.var 0) .nil))) (.seq (.ret (.idx (.var 0) (.var 1)))
 .skip) .skip)
 jE)
noncomputable def l7 : List Str := ["_law_script", "_law_k"]
noncomputable def jD:PS:=(.seq (.ret (.bi .abs (.cons (.var 0) .nil)))
 .skip)
noncomputable def jC:PE:=(.cmp .ne (.var 1) (.cint 0))
noncomputable def jF:PS:=(.seq (.assign 2 (.bin .mod (.var 0) (.var 1)))
 (.seq (.assign 0 (.var 1))
 (.seq (.assign 1 (.var 2))
 .skip)))
noncomputable def mj:PS:=(.seq (.whl jC jF)
 jD)
noncomputable def mv : List Str := ["_law_one", "_law_other", "_law_over"]
noncomputable def oP:PS:=(.seq (.ret (.tup (.cons (.bin .fdiv (.var 0) (.var 2)) (.cons (.bin .fdiv (.var 1) (.var 2)) .nil))))
 .skip)
noncomputable def to:PS:=(.seq (.assign 2 (.call 30 (.cons (.var 0) (.cons (.var 1) .nil))))
 (.seq (.ite (.cmp .lt (.var 1) (.cint 0)) (.seq (.assign 2 (.bin .sub (.cint 0) (.var 2)))
 .skip) .skip)
 oP))
noncomputable def s9 : List Str := ["_law_top", "_law_bottom", "_law_by_here"]
noncomputable def jc:PE:=(.bin .fdiv (.var 0) (.var 1))
noncomputable def iV:PS:=(.seq (.ret (.comp jc 1 [1] (.seq (.var 0)) .no))
 .skip)
noncomputable def i8:PS:=(.seq (.ite (.cmp .lt (.idx (.var 0) (.neg (.cint 1))) (.cint 0)) (.seq (.assign 1 (.bin .sub (.cint 0) (.var 1)))
 .skip) .skip)
 iV)
noncomputable def iP:PS:=(.seq (.assign 1 (.call 30 (.cons (.var 1) (.cons (.var 2) .nil))))
 .skip)
noncomputable def kB:PS:=(.seq (.assign 1 (.cint 0))
 (.seq (.forr 2 (.seq (.var 0)) iP)
 i8))
noncomputable def lr : List Str := ["_law_row", "_law_by_here", "_law_one"]
noncomputable def l9:PS:=(.seq (.ret (.var 2))
 .skip)
noncomputable def mx:PS:=(.seq (.assign 2 (.bin .add (.bin .mul (.var 2) (.idx (.var 1) (.cint 0))) (.bin .mul (.idx (.var 0) (.var 4)) (.var 3))))
 (.seq (.assign 3 (.bin .mul (.var 3) (.idx (.var 1) (.cint 1))))
 .skip))
noncomputable def qU:PS:=(.seq (.assign 2 (.cint 0))
 (.seq (.assign 3 (.cint 1))
 (.seq (.forr 4 (.rng (.cons (.bin .sub (.bi .len (.cons (.var 0) .nil)) (.cint 1)) (.cons (.neg (.cint 1)) (.cons (.neg (.cint 1)) .nil)))) mx)
 l9)))
noncomputable def pP : List Str := ["_law_row", "_law_at", "_law_total", "_law_scale", "_law_k"]
noncomputable def tM:PS:=(.seq (.ret (.var 2))
 .skip)
noncomputable def r8:PS:=(.seq (.setidx 2 (.bin .add (.var 3) (.var 4)) (.bin .add (.idx (.var 2) (.bin .add (.var 3) (.var 4))) (.bin .mul (.idx (.var 0) (.var 3)) (.idx (.var 1) (.var 4)))))
 .skip)
noncomputable def tO:PS:=(.seq (.forr 4 (.rng (.cons (.bi .len (.cons (.var 1) .nil)) .nil)) r8)
 .skip)
noncomputable def r5:PE:=(.cint 0)
noncomputable def we:PS:=(.seq (.assign 2 (.comp r5 1 [] (.rng (.cons (.bin .sub (.bin .add (.bi .len (.cons (.var 0) .nil)) (.bi .len (.cons (.var 1) .nil))) (.cint 1)) .nil)) .no))
 (.seq (.forr 3 (.rng (.cons (.bi .len (.cons (.var 0) .nil)) .nil)) tO)
 tM))
noncomputable def xx : List Str := ["_law_row", "_law_other", "_law_found", "_law_k", "_law_j"]
noncomputable def nV:PS:=(.seq (.ret (.var 3))
 .skip)
noncomputable def oj:PE:=(.bin .add (.idx (.var 1) (.var 0)) (.idx (.var 2) (.var 0)))
noncomputable def n7:PS:=(.seq (.assign 3 (.comp oj 1 [3,5] (.rng (.cons (.bi .len (.cons (.var 0) .nil)) .nil)) .no))
 .skip)
noncomputable def oF:PS:=(.seq (.ite (.cmp .lt (.var 6) (.var 4)) (.seq (.assign 5 (.call 34 (.cons (.var 5) (.cons (.lst (.cons (.bin .mul (.idx (.var 1) (.cint 0)) (.idx (.var 2) (.cint 1))) (.cons (.bin .mul (.idx (.var 2) (.cint 0)) (.idx (.var 1) (.cint 1))) .nil))) .nil))))
 .skip) (.seq (.assign 5 (.call 34 (.cons (.var 5) (.cons (.lst (.cons (.bin .mul (.idx (.var 1) (.cint 1)) (.idx (.var 2) (.cint 1))) (.cons (.bin .mul (.idx (.var 1) (.cint 1)) (.idx (.var 2) (.cint 1))) .nil))) .nil))))
 .skip))
 .skip)
noncomputable def oq:PS:=(.seq (.assign 5 (.lst (.cons (.idx (.var 0) (.var 4)) .nil)))
 (.seq (.forr 6 (.rng (.cons (.bin .sub (.bi .len (.cons (.var 0) .nil)) (.cint 1)) .nil)) oF)
 n7))
noncomputable def nR:PE:=(.cint 0)
noncomputable def tZ:PS:=(.seq (.assign 3 (.comp nR 1 [] (.seq (.var 0)) .no))
 (.seq (.forr 4 (.rng (.cons (.bi .len (.cons (.var 0) .nil)) .nil)) oq)
 nV))
noncomputable def sf : List Str := ["_law_row", "_law_low", "_law_high", "_law_found", "_law_k", "_law_made", "_law_j"]
noncomputable def mt:PS:=(.seq (.ret (.var 3))
 .skip)
noncomputable def md:PS:=(.seq (.ite (.cmp .ne (.var 5) (.cint 0)) (.seq (.assign 4 (.var 5))
 .skip) .skip)
 .skip)
noncomputable def mz:PS:=(.seq (.ite (.cmp .lt (.bin .mul (.var 5) (.var 4)) (.cint 0)) (.seq (.assign 3 (.bin .add (.var 3) (.cint 1)))
 .skip) .skip)
 md)
noncomputable def pF:PS:=(.seq (.assign 3 (.cint 0))
 (.seq (.assign 4 (.cint 0))
 (.seq (.forr 5 (.seq (.call 35 (.cons (.var 0) (.cons (.var 1) (.cons (.var 2) .nil))))) mz)
 mt)))
noncomputable def qE : List Str := ["_law_row", "_law_low", "_law_high", "_law_count", "_law_last", "_law_one"]
noncomputable def jG:PS:=(.seq (.ret (.and (.cons (.cmp .gt (.idx (.var 0) (.cint 1)) (.cint 0)) (.cons (.cmp .eq (.call 31 (.cons (.idx (.var 0) (.cint 0)) (.cons (.idx (.var 0) (.cint 1)) .nil))) (.var 0)) .nil))))
 .skip)
noncomputable def mi:PS:=(.seq (.ite (.or (.cons (.nt (.isi (.var 0) [.tuple])) (.cons (.cmp .ne (.bi .len (.cons (.var 0) .nil)) (.cint 2)) (.cons (.nt (.call 28 (.cons (.idx (.var 0) (.cint 0)) .nil))) (.cons (.nt (.call 28 (.cons (.idx (.var 0) (.cint 1)) .nil))) .nil))))) (.seq (.ret (.cbool false))
 .skip) .skip)
 jG)
noncomputable def mB : List Str := ["_law_found"]
noncomputable def lA:PS:=(.seq (.ret (.cmp .eq (.call 36 (.cons (.var 1) (.cons (.idx (.var 0) (.cint 1)) (.cons (.idx (.var 0) (.cint 2)) .nil)))) (.cint 1)))
 .skip)
noncomputable def lM:PS:=(.seq (.assign 2 (.call 33 (.cons (.var 1) (.cons (.idx (.var 0) (.cint 1)) .nil))))
 (.seq (.assign 3 (.call 33 (.cons (.var 1) (.cons (.idx (.var 0) (.cint 2)) .nil))))
 (.seq (.ite (.or (.cons (.cmp .ge (.bin .mul (.idx (.idx (.var 0) (.cint 1)) (.cint 0)) (.idx (.idx (.var 0) (.cint 2)) (.cint 1))) (.bin .mul (.idx (.idx (.var 0) (.cint 2)) (.cint 0)) (.idx (.idx (.var 0) (.cint 1)) (.cint 1)))) (.cons (.cmp .eq (.var 2) (.cint 0)) (.cons (.cmp .eq (.var 3) (.cint 0)) .nil)))) (.seq (.ret (.cbool false))
 .skip) .skip)
 lA)))
noncomputable def lK:PS:=(.seq (.ite (.or (.cons (.cmp .ne (.call 32 (.cons (.var 1) .nil)) (.var 1)) (.cons (.nt (.call 37 (.cons (.idx (.var 0) (.cint 1)) .nil))) (.cons (.nt (.call 37 (.cons (.idx (.var 0) (.cint 2)) .nil))) .nil)))) (.seq (.ret (.cbool false))
 .skip) .skip)
 lM)
noncomputable def lY:PO:=(.some (.nt (.call 28 (.cons (.var 0) .nil))))
noncomputable def kl:PE:=(.var 0)
noncomputable def lU:PS:=(.seq (.assign 1 (.bi .list (.cons (.idx (.var 0) (.cint 0)) .nil)))
 (.seq (.ite (.or (.cons (.cmp .lt (.bi .len (.cons (.var 1) .nil)) (.cint 2)) (.cons (.cmp .gt (.bi .len (.cons (.comp kl 1 [] (.seq (.var 1)) lY) .nil)) (.cint 0)) (.cons (.cmp .lt (.idx (.var 1) (.neg (.cint 1))) (.cint 1)) .nil)))) (.seq (.ret (.cbool false))
 .skip) .skip)
 lK))
noncomputable def oK:PS:=(.seq (.ite (.or (.cons (.nt (.isi (.var 0) [.tuple])) (.cons (.cmp .ne (.bi .len (.cons (.var 0) .nil)) (.cint 3)) (.cons (.nt (.isi (.idx (.var 0) (.cint 0)) [.tuple])) .nil)))) (.seq (.ret (.cbool false))
 .skip) .skip)
 lU)
noncomputable def oQ : List Str := ["_law_found", "_law_row", "_law_low", "_law_high"]
noncomputable def oM:PS:=(.seq (.ret (.bi .int (.cons (.cmp .gt (.var 0) (.cint 0)) .nil)))
 .skip)
noncomputable def sW:PS:=(.seq (.ite (.cmp .lt (.var 0) (.cint 0)) (.seq (.ret (.neg (.cint 1)))
 .skip) .skip)
 oM)
noncomputable def tf : List Str := ["_law_number"]
noncomputable def qh:PS:=(.seq (.ret (.call 39 (.cons (.bin .sub (.bin .mul (.bin .mul (.var 1) (.var 1)) (.var 2)) (.bin .mul (.var 0) (.var 0))) .nil)))
 .skip)
noncomputable def pN:PS:=(.seq (.ite (.cmp .gt (.var 0) (.cint 0)) (.seq (.ret (.call 39 (.cons (.bin .sub (.bin .mul (.var 0) (.var 0)) (.bin .mul (.bin .mul (.var 1) (.var 1)) (.var 2))) .nil)))
 .skip) .skip)
 qh)
noncomputable def qV:PS:=(.seq (.ite (.and (.cons (.cmp .le (.var 0) (.cint 0)) (.cons (.cmp .le (.var 1) (.cint 0)) .nil))) (.seq (.ret (.bin .sub (.cint 0) (.bi .int (.cons (.or (.cons (.cmp .lt (.var 0) (.cint 0)) (.cons (.cmp .lt (.bin .mul (.var 1) (.var 2)) (.cint 0)) .nil))) .nil))))
 .skip) .skip)
 pN)
noncomputable def vV:PS:=(.seq (.ite (.and (.cons (.cmp .ge (.var 0) (.cint 0)) (.cons (.cmp .ge (.var 1) (.cint 0)) .nil))) (.seq (.ret (.bi .int (.cons (.or (.cons (.cmp .gt (.var 0) (.cint 0)) (.cons (.cmp .gt (.bin .mul (.var 1) (.var 2)) (.cint 0)) .nil))) .nil)))
 .skip) .skip)
 qV)
noncomputable def uZ : List Str := ["_law_x", "_law_y", "_law_a"]
noncomputable def oc:PS:=(.seq (.assign 5 (.call 42 (.cons (.slc (.var 0) .no (.some (.cint 2))) (.cons (.slc (.var 0) .no (.some (.cint 2))) (.cons (.var 1) .nil)))))
 (.seq (.assign 6 (.call 42 (.cons (.slc (.var 0) (.some (.cint 2)) .no) (.cons (.slc (.var 0) (.some (.cint 2)) .no) (.cons (.var 1) .nil)))))
 (.seq (.ret (.bin .mul (.var 3) (.call 40 (.cons (.bin .sub (.idx (.var 5) (.cint 0)) (.bin .mul (.var 2) (.idx (.var 6) (.cint 0)))) (.cons (.bin .sub (.idx (.var 5) (.cint 1)) (.bin .mul (.var 2) (.idx (.var 6) (.cint 1)))) (.cons (.var 1) .nil))))))
 .skip)))
noncomputable def sQ:PS:=(.seq (.assign 3 (.call 40 (.cons (.idx (.var 0) (.cint 0)) (.cons (.idx (.var 0) (.cint 1)) (.cons (.var 1) .nil)))))
 (.seq (.assign 4 (.bin .mul (.call 40 (.cons (.idx (.var 0) (.cint 2)) (.cons (.idx (.var 0) (.cint 3)) (.cons (.var 1) .nil)))) (.bi .int (.cons (.cmp .gt (.var 2) (.cint 0)) .nil))))
 (.seq (.ite (.cmp .ge (.bin .mul (.var 3) (.var 4)) (.cint 0)) (.seq (.ret (.call 39 (.cons (.bin .add (.var 3) (.var 4)) .nil)))
 .skip) .skip)
 oc)))
noncomputable def rG : List Str := ["_law_one", "_law_a", "_law_b", "_law_left", "_law_right_here", "_law_x", "_law_y"]
noncomputable def u9:PS:=(.seq (.ret (.lst (.cons (.bin .add (.bin .mul (.idx (.var 0) (.cint 0)) (.idx (.var 1) (.cint 0))) (.bin .mul (.bin .mul (.var 2) (.idx (.var 0) (.cint 1))) (.idx (.var 1) (.cint 1)))) (.cons (.bin .add (.bin .mul (.idx (.var 0) (.cint 0)) (.idx (.var 1) (.cint 1))) (.bin .mul (.idx (.var 0) (.cint 1)) (.idx (.var 1) (.cint 0)))) .nil))))
 .skip)
noncomputable def ve : List Str := ["_law_x", "_law_y", "_law_a"]
noncomputable def mA:PS:=(.seq (.assign 4 (.call 42 (.cons (.slc (.var 0) .no (.some (.cint 2))) (.cons (.slc (.var 1) .no (.some (.cint 2))) (.cons (.var 2) .nil)))))
 (.seq (.assign 5 (.call 42 (.cons (.slc (.var 0) (.some (.cint 2)) .no) (.cons (.slc (.var 1) (.some (.cint 2)) .no) (.cons (.var 2) .nil)))))
 (.seq (.assign 6 (.call 42 (.cons (.slc (.var 0) .no (.some (.cint 2))) (.cons (.slc (.var 1) (.some (.cint 2)) .no) (.cons (.var 2) .nil)))))
 (.seq (.assign 7 (.call 42 (.cons (.slc (.var 0) (.some (.cint 2)) .no) (.cons (.slc (.var 1) .no (.some (.cint 2))) (.cons (.var 2) .nil)))))
 (.seq (.ret (.lst (.cons (.bin .add (.idx (.var 4) (.cint 0)) (.bin .mul (.var 3) (.idx (.var 5) (.cint 0)))) (.cons (.bin .add (.idx (.var 4) (.cint 1)) (.bin .mul (.var 3) (.idx (.var 5) (.cint 1)))) (.cons (.bin .add (.idx (.var 6) (.cint 0)) (.idx (.var 7) (.cint 0))) (.cons (.bin .add (.idx (.var 6) (.cint 1)) (.idx (.var 7) (.cint 1))) .nil))))))
 .skip)))))
noncomputable def me : List Str := ["_law_one", "_law_two_here", "_law_a", "_law_b", "_law_x", "_law_y", "_law_z", "_law_w"]
noncomputable def oD:PE:=(.bin .mul (.var 1) (.var 0))
noncomputable def sN:PS:=(.seq (.ret (.comp oD 1 [1] (.seq (.var 0)) .no))
 .skip)
noncomputable def rH : List Str := ["_law_one", "_law_by_here"]
noncomputable def qk:PE:=(.bin .add (.idx (.var 1) (.var 0)) (.idx (.var 2) (.var 0)))
noncomputable def vv:PS:=(.seq (.ret (.comp qk 1 [0,1] (.rng (.cons (.cint 4) .nil)) .no))
 .skip)
noncomputable def vQ : List Str := ["_law_one", "_law_two_here"]
noncomputable def oZ:PS:=(.seq (.ret (.tup (.cons (.call 31 (.cons (.bin .add (.var 0) (.bin .mul (.var 1) (.var 4))) (.cons (.var 2) .nil))) (.cons (.call 31 (.cons (.var 0) (.cons (.var 2) .nil))) .nil))))
 .skip)
noncomputable def ov:PS:=(.seq (.ite (.cmp .gt (.var 1) (.cint 0)) (.seq (.ret (.tup (.cons (.call 31 (.cons (.var 0) (.cons (.var 2) .nil))) (.cons (.call 31 (.cons (.bin .add (.var 0) (.bin .mul (.var 1) (.var 4))) (.cons (.var 2) .nil))) .nil))))
 .skip) .skip)
 oZ)
noncomputable def oT:PE:=(.cmp .le (.bin .mul (.var 4) (.var 4)) (.var 3))
noncomputable def oW:PS:=(.seq (.assign 4 (.bin .add (.var 4) (.cint 1)))
 .skip)
noncomputable def rZ:PS:=(.seq (.assign 4 (.cint 1))
 (.seq (.whl oT oW)
 ov))
noncomputable def tP : List Str := ["_law_p", "_law_q", "_law_r", "_law_d", "_law_above"]
noncomputable def lm:PS:=(.seq (.assign 4 (.call 46 (.cons (.var 0) (.cons (.var 1) (.cons (.var 2) (.cons (.var 3) .nil))))))
 (.seq (.ret (.tup (.cons (.bi .tuple (.cons (.call 32 (.cons (.lst (.cons (.bin .sub (.bin .mul (.var 0) (.var 0)) (.bin .mul (.bin .mul (.var 1) (.var 1)) (.var 3))) (.cons (.bin .mul (.bin .mul (.neg (.cint 2)) (.var 0)) (.var 2)) (.cons (.bin .mul (.var 2) (.var 2)) .nil)))) .nil)) .nil)) (.cons (.idx (.var 4) (.cint 0)) (.cons (.idx (.var 4) (.cint 1)) .nil)))))
 .skip))
noncomputable def lN : List Str := ["_law_p", "_law_q", "_law_r", "_law_d", "_law_ends_here"]
noncomputable def oH:PS:=(.seq (.assign 4 (.bin .add (.cint 1) (.bin .mod (.call 29 (.cons (.var 0) (.cons (.bin .add (.var 1) (.cint 2)) .nil))) (.cint 7))))
 (.seq (.ret (.tup (.cons (.var 2) (.cons (.var 3) (.cons (.var 4) (.cons (.bin .add (.cint 1) (.bin .mod (.bin .fdiv (.call 29 (.cons (.var 0) (.cons (.bin .add (.var 1) (.cint 3)) .nil))) (.cint 8)) (.cint 30))) .nil))))))
 .skip))
noncomputable def og:PS:=(.seq (.assign 3 (.bin .add (.cint 1) (.bin .mod (.call 29 (.cons (.var 0) (.cons (.bin .add (.var 1) (.cint 1)) .nil))) (.cint 6))))
 (.seq (.ite (.cmp .eq (.bin .mod (.bin .fdiv (.call 29 (.cons (.var 0) (.cons (.bin .add (.var 1) (.cint 1)) .nil))) (.cint 6)) (.cint 2)) (.cint 1)) (.seq (.assign 3 (.bin .sub (.cint 0) (.var 3)))
 .skip) .skip)
 oH))
noncomputable def tm:PS:=(.seq (.assign 2 (.bin .sub (.bin .mod (.call 29 (.cons (.var 0) (.cons (.var 1) .nil))) (.cint 19)) (.cint 9)))
 (.seq (.ite (.cmp .eq (.bin .mod (.call 29 (.cons (.var 0) (.cons (.bin .add (.var 1) (.cint 3)) .nil))) (.cint 8)) (.cint 1)) (.seq (.assign 2 (.bin .sub (.bin .mod (.call 29 (.cons (.var 0) (.cons (.var 1) .nil))) (.cint 2000001)) (.bin .pow (.cint 10) (.cint 6))))
 .skip) .skip)
 og))
noncomputable def sR : List Str := ["_law_script", "_law_k", "_law_p", "_law_q", "_law_r"]
noncomputable def iL:PS:=(.seq (.ret (.tup (.cons (.var 1) (.cons (.var 2) .nil))))
 .skip)
noncomputable def g5:PS:=(.seq (.ite (.cmp .eq (.var 3) (.cint 5)) (.seq (.assign 2 (.tup (.cons (.idx (.var 1) (.cint 0)) (.cons (.idx (.var 1) (.cint 1)) (.cons (.idx (.var 1) (.cint 2)) (.cons (.idx (.var 1) (.cint 3)) .nil))))))
 .skip) .skip)
 iL)
noncomputable def iz:PS:=(.seq (.ite (.or (.cons (.cmp .eq (.var 3) (.cint 3)) (.cons (.cmp .eq (.var 3) (.cint 4)) .nil))) (.seq (.assign 2 (.tup (.cons (.idx (.var 2) (.cint 0)) (.cons (.idx (.var 2) (.cint 1)) (.cons (.idx (.var 2) (.cint 2)) (.cons (.idx (.var 1) (.cint 3)) .nil))))))
 .skip) .skip)
 g5)
noncomputable def ic:PS:=(.seq (.ite (.cmp .eq (.var 3) (.cint 2)) (.seq (.assign 2 (.tup (.cons (.idx (.var 1) (.cint 0)) (.cons (.bin .sub (.cint 0) (.idx (.var 1) (.cint 1))) (.cons (.idx (.var 1) (.cint 2)) (.cons (.idx (.var 1) (.cint 3)) .nil))))))
 .skip) .skip)
 iz)
noncomputable def jB:PS:=(.seq (.assign 1 (.call 48 (.cons (.var 0) (.cons (.cint 0) .nil))))
 (.seq (.assign 2 (.call 48 (.cons (.var 0) (.cons (.cint 4) .nil))))
 (.seq (.assign 3 (.bin .mod (.call 29 (.cons (.var 0) (.cons (.cint 8) .nil))) (.cint 8)))
 (.seq (.ite (.cmp .eq (.var 3) (.cint 1)) (.seq (.assign 2 (.tup (.cons (.bin .sub (.cint 0) (.idx (.var 1) (.cint 0))) (.cons (.bin .sub (.cint 0) (.idx (.var 1) (.cint 1))) (.cons (.idx (.var 1) (.cint 2)) (.cons (.idx (.var 1) (.cint 3)) .nil))))))
 .skip) .skip)
 ic))))
noncomputable def jA : List Str := ["_law_script", "_law_one", "_law_two_here", "_law_way"]
noncomputable def mD:PS:=(.seq (.assign 9 (.call 41 (.cons (.var 2) (.cons (.var 3) (.cons (.var 4) .nil)))))
 (.seq (.assign 10 (.call 45 (.cons (.call 44 (.cons (.var 1) (.cons (.idx (.idx (.var 0) (.cint 1)) (.cint 1)) .nil))) (.cons (.call 44 (.cons (.var 2) (.cons (.bin .sub (.cint 0) (.idx (.idx (.var 0) (.cint 1)) (.cint 0))) .nil))) .nil))))
 (.seq (.assign 11 (.call 45 (.cons (.call 44 (.cons (.var 1) (.cons (.idx (.idx (.var 0) (.cint 2)) (.cint 1)) .nil))) (.cons (.call 44 (.cons (.var 2) (.cons (.bin .sub (.cint 0) (.idx (.idx (.var 0) (.cint 2)) (.cint 0))) .nil))) .nil))))
 (.seq (.ret (.and (.cons (.cmp .gt (.bin .mul (.call 41 (.cons (.var 10) (.cons (.var 3) (.cons (.var 4) .nil)))) (.var 9)) (.cint 0)) (.cons (.cmp .lt (.bin .mul (.call 41 (.cons (.var 11) (.cons (.var 3) (.cons (.var 4) .nil)))) (.var 9)) (.cint 0)) .nil))))
 .skip))))
noncomputable def ml:PS:=(.seq (.ite (.cmp .ne (.call 41 (.cons (.var 6) (.cons (.var 3) (.cons (.var 4) .nil)))) (.cint 0)) (.seq (.ret (.cbool false))
 .skip) .skip)
 mD)
noncomputable def mw:PS:=(.seq (.assign 6 (.call 45 (.cons (.call 43 (.cons (.var 6) (.cons (.var 1) (.cons (.var 3) (.cons (.var 4) .nil))))) (.cons (.call 44 (.cons (.var 7) (.cons (.idx (.var 5) (.var 8)) .nil))) .nil))))
 (.seq (.assign 7 (.call 43 (.cons (.var 7) (.cons (.var 2) (.cons (.var 3) (.cons (.var 4) .nil))))))
 .skip))
noncomputable def pX:PS:=(.seq (.assign 5 (.idx (.var 0) (.cint 0)))
 (.seq (.assign 6 (.lst (.cons (.cint 0) (.cons (.cint 0) (.cons (.cint 0) (.cons (.cint 0) .nil))))))
 (.seq (.assign 7 (.lst (.cons (.cint 1) (.cons (.cint 0) (.cons (.cint 0) (.cons (.cint 0) .nil))))))
 (.seq (.forr 8 (.rng (.cons (.bin .sub (.bi .len (.cons (.var 5) .nil)) (.cint 1)) (.cons (.neg (.cint 1)) (.cons (.neg (.cint 1)) .nil)))) mw)
 ml))))
noncomputable def qs : List Str := ["_law_found", "_law_top", "_law_bottom", "_law_a", "_law_b", "_law_row", "_law_total", "_law_scale", "_law_k", "_law_side", "_law_low", "_law_high"]
noncomputable def mn:PS:=(.seq (.ret (.call 50 (.cons (.var 0) (.cons (.var 1) (.cons (.lst (.cons (.var 2) (.cons (.cint 0) (.cons (.cint 0) (.cons (.cint 0) .nil))))) (.cons (.var 3) (.cons (.var 4) .nil)))))))
 .skip)
noncomputable def q6:PS:=(.seq (.ite (.or (.cons (.nt (.call 38 (.cons (.var 0) .nil))) (.cons (.cmp .gt (.bi .len (.cons (.idx (.var 0) (.cint 0)) .nil)) (.cint 5)) .nil))) (.seq (.ret (.cbool false))
 .skip) .skip)
 mn)
noncomputable def qf : List Str := ["_law_found", "_law_top", "_law_bottom", "_law_a", "_law_b"]
noncomputable def jO:PS:=(.seq (.ret (.call 51 (.cons (.call 27 (.cons (.var 7) (.cons (.var 7) .nil))) (.cons (.call 43 (.cons (.var 9) (.cons (.var 9) (.cons (.var 5) (.cons (.var 6) .nil))))) (.cons (.bin .mul (.idx (.var 2) (.cint 2)) (.idx (.var 2) (.cint 2))) (.cons (.var 5) (.cons (.var 6) .nil)))))))
 .skip)
noncomputable def jU:PS:=(.seq (.assign 5 (.idx (.var 2) (.cint 3)))
 (.seq (.assign 6 (.idx (.var 3) (.cint 3)))
 (.seq (.assign 7 (.call 47 (.cons (.idx (.var 2) (.cint 0)) (.cons (.idx (.var 2) (.cint 1)) (.cons (.idx (.var 2) (.cint 2)) (.cons (.var 5) .nil))))))
 (.seq (.assign 8 (.call 47 (.cons (.idx (.var 3) (.cint 0)) (.cons (.idx (.var 3) (.cint 1)) (.cons (.idx (.var 3) (.cint 2)) (.cons (.var 6) .nil))))))
 (.seq (.assign 9 (.lst (.cons (.idx (.var 2) (.cint 0)) (.cons (.idx (.var 2) (.cint 1)) (.cons (.cint 0) (.cons (.cint 0) .nil))))))
 (.seq (.assign 10 (.call 43 (.cons (.var 9) (.cons (.lst (.cons (.idx (.var 3) (.cint 0)) (.cons (.cint 0) (.cons (.idx (.var 3) (.cint 1)) (.cons (.cint 0) .nil))))) (.cons (.var 5) (.cons (.var 6) .nil))))))
 (.seq (.ite (.nt (.call 51 (.cons (.call 27 (.cons (.var 7) (.cons (.var 8) .nil))) (.cons (.var 10) (.cons (.bin .mul (.idx (.var 2) (.cint 2)) (.idx (.var 3) (.cint 2))) (.cons (.var 5) (.cons (.var 6) .nil))))))) (.seq (.ret (.cbool false))
 .skip) .skip)
 jO)))))))
noncomputable def Bj:PS:=(.seq (.assign 1 (.call 49 (.cons (.var 0) .nil)))
 (.seq (.assign 2 (.idx (.var 1) (.cint 0)))
 (.seq (.assign 3 (.idx (.var 1) (.cint 1)))
 (.seq (.ite (.cmp .eq (.bin .mod (.call 29 (.cons (.var 0) (.cons (.cint 9) .nil))) (.cint 5)) (.cint 1)) (.seq (.assign 4 (.bin .add (.cint 1) (.bin .mod (.call 29 (.cons (.var 0) (.cons (.cint 10) .nil))) (.cint 5))))
 (.seq (.assign 3 (.tup (.cons (.bin .sub (.cint 0) (.bin .mul (.idx (.var 3) (.cint 1)) (.var 4))) (.cons (.idx (.var 3) (.cint 1)) (.cons (.idx (.var 3) (.cint 2)) (.cons (.bin .mul (.var 4) (.var 4)) .nil))))))
 .skip)) .skip)
 jU))))
noncomputable def DR : List Str := ["_law_script", "_law_pair", "_law_one", "_law_two_here", "_law_root", "_law_a", "_law_b", "_law_left", "_law_right_here", "_law_first", "_law_top"]
noncomputable def fnNames : List Str := [(Str.ofString "divisor"), (Str.ofString "part"), (Str.ofString "below"), (Str.ofString "part_sum"), (Str.ofString "part_product"), (Str.ofString "turned_about"), (Str.ofString "sign_at"), (Str.ofString "trimmed"), (Str.ofString "reduced"), (Str.ofString "slope"), (Str.ofString "without_last"), (Str.ofString "rest_of"), (Str.ofString "common"), (Str.ofString "quotient"), (Str.ofString "plain"), (Str.ofString "multiplied"), (Str.ofString "seen"), (Str.ofString "turns"), (Str.ofString "is_alone"), (Str.ofString "width_of"), (Str.ofString "narrowed"), (Str.ofString "halved"), (Str.ofString "power_sums"), (Str.ofString "signed"), (Str.ofString "row_of"), (Str.ofString "settled"), (Str.ofString "product_bounds"), (Str.ofString "times"), (Str.ofString "_law_whole"), (Str.ofString "_law_cell_at"), (Str.ofString "_law_divisor"), (Str.ofString "_law_part"), (Str.ofString "_law_smallest"), (Str.ofString "_law_value"), (Str.ofString "_law_by"), (Str.ofString "_law_seen"), (Str.ofString "_law_turns"), (Str.ofString "_law_is_part"), (Str.ofString "_law_is_peg"), (Str.ofString "_law_sign"), (Str.ofString "_law_two"), (Str.ofString "_law_four"), (Str.ofString "_law_mul"), (Str.ofString "_law_product"), (Str.ofString "_law_many"), (Str.ofString "_law_and"), (Str.ofString "_law_ends"), (Str.ofString "_law_quad_peg"), (Str.ofString "_law_quad"), (Str.ofString "_law_two_quads"), (Str.ofString "_law_holds"), (Str.ofString "_law_right"), (Str.ofString "law")]
noncomputable def clsNames : List Str := ["PegError", "NoPart", "NoRow", "NoStretch", "ValueError"]
noncomputable def fnTab:List Fn:=[⟨2,3,vI⟩,⟨2,3,B6⟩,⟨2,2,zK⟩,⟨2,2,r9⟩,⟨2,2,kL⟩,⟨1,1,l4⟩,⟨2,5,uV⟩,⟨1,2,vd⟩,⟨1,3,vi⟩,⟨1,1,zl⟩,⟨4,7,kF⟩,⟨2,3,vH⟩,⟨2,3,yu⟩,⟨2,5,tq⟩,⟨1,2,zI⟩,⟨3,5,nX⟩,⟨3,9,Bn⟩,⟨3,6,yV⟩,⟨3,3,ti⟩,⟨1,1,tX⟩,⟨2,8,tn⟩,⟨1,1,wD⟩,⟨2,7,nU⟩,⟨2,2,wi⟩,⟨1,10,wU⟩,⟨4,6,vq⟩,⟨2,8,iU⟩,⟨2,6,zE⟩,⟨1,1,pU⟩,⟨2,2,mq⟩,⟨2,3,mj⟩,⟨2,3,to⟩,⟨1,3,kB⟩,⟨2,5,qU⟩,⟨2,5,we⟩,⟨3,7,tZ⟩,⟨3,6,pF⟩,⟨1,1,mi⟩,⟨1,4,oK⟩,⟨1,1,sW⟩,⟨3,3,vV⟩,⟨3,7,sQ⟩,⟨3,3,u9⟩,⟨4,8,mA⟩,⟨2,2,sN⟩,⟨2,2,vv⟩,⟨4,5,rZ⟩,⟨4,5,lm⟩,⟨2,5,tm⟩,⟨1,4,jB⟩,⟨5,12,pX⟩,⟨5,5,q6⟩,⟨1,11,Bj⟩]
noncomputable def varTab:List (List Str):=[vf,B8,zn,rF,kO,lL,u7,uY,vy,zc,ke,vG,yt,si,z8,oA,BC,zJ,rV,rN,sV,w8,oN,yH,w6,u6,iW,y5,ry,l7,mv,s9,lr,pP,xx,sf,qE,mB,oQ,tf,uZ,rG,ve,me,rH,vQ,tP,lN,sR,jA,qs,qf,DR]
end L10
end Mine
set_option maxRecDepth 100000
namespace Mine
namespace L10
open PySem Re
noncomputable def nosub:Nat→Nat→Bool:=fun _ _=>false
section
variable {n:Nat} {H:Hp} {Q:V→Hp→Prop} {X:Nat→Hp→Prop} {W:Nat→Prop} {NN:Loc→Hp→Prop} {R:V→Hp→Prop} {Y:Nat→Hp→Prop}
theorem mW {c0 c1 c2 d0 d1 d2 N M p1 q1 p2 q2 r1 s1 r2 s2:Int} {a a' b b' lo1 hi1 lo2 hi2:Re} (hA:QR c0 c1 c2 a a') (hB:QR d0 d1 d2 b b') (dA:PD [c0,c1,c2] N a lo1 hi1 p1 q1 p2 q2 0) (dB:PD [d0,d1,d2] M b lo2 hi2 r1 s1 r2 s2 0)
    (hs1:a*b≠a*b'→1≤((2 ^ 82:Int):Re)*ab (a*b - a*b')) (hs2:a*b≠a'*b→1≤((2 ^ 82:Int):Re)*ab (a*b - a'*b)) (hs3:a*b≠a'*b'→1≤((2 ^ 82:Int):Re)*ab (a*b - a'*b'))
    (hQ:∀ R x1 y1 x2 y2 H',H<+:H'→PgO R (a*b) x1 y1 x2 y2→Q (pg R x1 y1 x2 y2) H'):aj nosub fnTab (n+7) 27 [pg [c0,c1,c2] p1 q1 p2 q2,pg [d0,d1,d2] r1 s1 r2 s2] H Q X :=
  zV (pw:=22) (ps:=3) (pr:=4) (st:=25) (ro:=24) (bd:=26) (pa:=1) (dv:=0) (ia:=18) (ha:=21) (sn:=23) (pl:=14) (ta:=5) (sg:=6) (tu:=17) (se:=16) (mu:=15) (na:=20) (wo:=19) (kc:=3) (be:=2) (tr:=7) (re:=8) (qu:=13) (co:=12) (sp:=9) (wl:=10) (rs:=11)
    rfl rfl rfl rfl rfl rfl rfl rfl rfl rfl rfl rfl rfl rfl rfl rfl rfl rfl rfl rfl rfl rfl rfl rfl rfl rfl rfl rfl hA hB dA dB hs1 hs2 hs3 hQ
theorem mN {a b:Nat} {row:List Int} {p1 q1 p2 q2 β:Int} {g:Re} {it:Nat} (h:PgO row g p1 q1 p2 q2) (ha:0 < a) (hb:0 < b) (sa:Sm 64 (a:Int)) (sb:Sm 64 (b:Int)) (hβ:0 < β) (sβ:Sm 64 β) (h1:L4 a b 180 H it ((β:Re)*g)) (hQ:∀ H',H<+:H'→Q (.bool true) H') :
    aj nosub fnTab (n+5) 51 [pg row p1 q1 p2 q2,.lst it,.int β,.int a,.int b] H Q X :=
  yl (ip:=38) (ho:=50) (wh:=28) (sm:=32) (re:=37) (va:=33) (tu:=36) (ld:=30) (pa:=31) (se:=35) (by_:=34) (fo:=41) (an:=45) (pd:=43) (ma:=44) (mu:=42) (tw:=40) (ls:=39) rfl rfl rfl rfl rfl rfl rfl rfl rfl rfl rfl rfl rfl rfl rfl rfl rfl rfl rfl h ha hb sa sb hβ sβ h1 hQ
variable {p q r p' q' r':Int} {d d':Nat}
theorem rr (h:QD p q r d) (h':QD p' q' r' d'):0 < r*r'∧Sm 64 (r*r') :=
  ⟨Int.mul_pos h.r0 h'.r0,dP (c:=49) (by have:=Int.mul_pos h.r0 h'.r0; exact om [] [r*r'] [(.il (.a (.n 0) (.n 1)) Y0)] (.il (.g (.n 49)) Y0) [[1,1]] rfl this) (Int.mul_le_mul h.r2 h'.r2 (by have:=h'.r0; exact om [] [r'] [(.il (.a (.n 0) (.n 1)) Y0)] (.il (.n 0) Y0) [[1,1]] rfl this) (by decide)) (by unfold Sm; decide)⟩
theorem C0 {c0 c1 c2 N p1 q1 p2 q2:Int} {lo hi:Re} {fi:Nat} {v8 v10:V} {o0 o1 o3 o4:Option V} (h1:QD p q r d) (d0':0 < d') (sd':Sm 64 (d':Int)) (hA:QR c0 c1 c2 (qal p q r d) (qal p (0 - q) r d)) (dA:PD [c0,c1,c2] N (qal p q r d) lo hi p1 q1 p2 q2 0) (f:L4 d d' 20 H fi ((r:Re)*qal p q r d)) (hR:∀ H',R (.bool true) H') :
    wpS nosub (aj nosub fnTab 8) W jO [o0,o1,some (qv p q r d),o3,o4,some (.int (d:Int)),some (.int (d':Int)),some (pg [c0,c1,c2] p1 q1 p2 q2),some v8,some (.lst fi),some v10] H NN R Y:=by
  refine bP (h1.sm64) fun sp sq sr sd=>?_
  obtain ⟨β0,sβ⟩:=rr h1 h1
  dsimp only [jO,qS1,qS2,qS9,qE1,qE5,qE8,aO,aY,aC,aD,cx,ac,af,fj]
  refine mW hA hA dA dA (h1.t1 h1) (h1.t2 h1) (h1.t3 h1) fun RR x1 y1 x2 y2 H1 hp1 o=>?_
  refine jR (f:=43) (mu:=42) (a:=d) (b:=d') rfl rfl (f.keep hp1) (f.keep hp1) (by decide) (by decide) sd sd' fun H2 m2 hp2 k2=>?_
  refine ⟨IntMulOk.left sr,?_⟩
  refine mN o h1.d1 d0' sd sd' β0 sβ ((k2.mono (by decide)).eq (by rw [am]; grind)) fun H3 hp3=>?_
  exact hR _
theorem A4 {o0 o1 o4:Option V} (h1:QD p q r d) (h2:QD p' q' r' d') (hR:∀ H',R (.bool true) H') :
    wpS nosub (aj nosub fnTab 8) W jU [o0,o1,some (qv p q r d),some (qv p' q' r' d'),o4,none,none,none,none,none,none] H NN R Y:=by
  dsimp only [jU]
  generalize hT:jO=T
  dsimp only [qS1,qS2,qS3,qS9,bj,qE1,qE2,qE5,qE8,fy,aO,aY,cY,aC,aD,cx,aZ,ac,af,au,iN,ga,fj,ik]
  refine xC (f:=47) (en:=46) (sm:=32) (lp:=31) (ld:=30) rfl rfl rfl rfl rfl h1 fun H1 row g A L U p1 q1 p2 q2 hp1 qp=>?_
  refine xC (f:=47) (en:=46) (sm:=32) (lp:=31) (ld:=30) rfl rfl rfl rfl rfl h2 fun H2 row' g' A' L' U' r1 s1 r2 s2 hp2 qp'=>?_
  refine jM (qp.qr) fun c0 c1 c2 zq10 hA=>?_; subst zq10
  refine jM (qp'.qr) fun d0 d1 d2 zq9 hB=>?_; subst zq9
  refine bP (h1.sm64) fun sp sq sr sd=>?_
  refine bP (h2.sm64) fun sp' sq' sr' sd'=>?_
  have dA:=qp.pd
  have dB:=qp'.pd
  obtain ⟨β0,sβ⟩:=rr h1 h2
  have z:∀ k,Sm k 0:=fun k=>Sm.zero
  have e1:=cI (p:=p) (q:=q) (d:=d) h1.r0
  have e2:=cI (p:=p') (q:=q') (d:=d') h2.r0
  have q0:=h1.q0
  have q0':=h2.q0
  have b6:∀ {x:Int},(1≤x∧x≤6)∨(-6≤x∧x≤-1)→Sm 20 x:=fun h=>dP (c:=6) (by exact om [] [_] [(.or (.an (.il (.n 1) Y0) (.il Y0 (.n 6))) (.an (.il (.g (.n 6)) Y0) (.il Y0 (.g (.n 1)))))] (.il (.g (.n 6)) Y0) [[1,1]] rfl h) (by exact om [] [_] [(.or (.an (.il (.n 1) Y0) (.il Y0 (.n 6))) (.an (.il (.g (.n 6)) Y0) (.il Y0 (.g (.n 1)))))] (.il Y0 (.n 6)) [[1,0,1]] rfl h) (by unfold Sm; decide)
  generalize hH3:H2++[[V.int p,V.int q,V.int 0,V.int 0]]++[[V.int p',V.int 0,V.int q',V.int 0]]=H3
  have f:L4 d d' 20 H3 H2.length ((r:Re)*qal p q r d):=⟨p,q,0,0,by rw [← hH3]; exact ao (ah _ _) (ag _ _ _),⟨dP (c:=1000000) h1.p1 h1.p2 (by unfold Sm; decide),b6 q0,z _,z _⟩,by unfold v4; rw [e1,aE]; grind⟩
  have s:L4 d d' 20 H3 (H2++[[V.int p,V.int q,V.int 0,V.int 0]]).length ((r':Re)*qal p' q' r' d'):=⟨p',0,q',0,by rw [← hH3]; exact ag _ _ _,⟨dP (c:=1000000) h2.p1 h2.p2 (by unfold Sm; decide),z _,b6 q0',z _⟩,by unfold v4; rw [e2,aE]; grind⟩
  clear qp qp' hH3 e1 e2
  refine jR (f:=43) (mu:=42) (a:=d) (b:=d') rfl rfl f s (by decide) (by decide) sd sd' fun H4 m4 hp4 k4=>?_
  refine mW hA hB dA dB (h1.t1 h2) (h1.t2 h2) (h1.t3 h2) fun RR x1 y1 x2 y2 H5 hp5 o=>?_
  refine ⟨IntMulOk.left sr,?_⟩
  refine mN o h1.d1 h2.d1 sd sd' β0 sβ (((k4.keep hp5).mono (by decide)).eq (by rw [am]; grind)) fun H6 hp6=>?_
  dsimp only [aZ,bR,kU,ac]
  subst hT
  exact C0 h1 h2.d1 sd' hA dA (f.keep (ae hp4 (ae hp5 hp6))) hR
end
theorem spec (ns:List Int) (h:ns.length≤63):aj nosub fnTab 9 52 [.lst 0] [ns.map .int] (fun v _=>v=.bool true) (fun _ _=>False):=by
  refine ai rfl rfl ?_
  dsimp only [Bj]
  generalize hT:jU=T
  dsimp only [qS1,qS2,qS3,bj,qE1,qE5,qE8,bh,aO,aY,cJ,aC,aD,az,aA,ax,aw,aP,ay,aq,ac,af,au,Nat.reduceSub]
  refine Eg (f:=49) (ce:=29) (qu:=48) rfl rfl rfl (m:=0) (ns:=ns) rfl fun p q r d p' q' r' d' h1 h2=>?_
  dsimp only [cq,cr,ga,fj]
  refine d8 (f:=29) rfl (by decide) (ns:=ns) rfl ?_
  generalize cF ns (9:Int).toNat=c9
  refine ⟨by decide,?_⟩
  dsimp only [gi,aZ,ac]
  subst hT
  by_cases hc:c9.fmod 5=1
  · rw [decide_eq_true hc]
    dsimp only [bu]
    refine d8 (f:=29) rfl (by decide) (ns:=ns) rfl ?_
    generalize cF ns (10:Int).toNat=c10
    refine ⟨by decide,?_⟩
    dsimp only [cw,cM,cx]
    refine bP (h2.sm64) fun sp' sq' sr' sd'=>?_
    have k1:0≤c10.fmod 5:=Int.fmod_nonneg_of_pos c10 (by decide)
    have k2:c10.fmod 5 < 5:=Int.fmod_lt_of_pos c10 (by decide)
    generalize hw:1+c10.fmod 5=w
    have w1:1≤w:=by exact om [] [w,c10.fmod 5] [(.il (.n 0) Y1),(.ie (.a (.n 1) Y1) Y0)] (.il (.n 1) Y0) [[1,1,1]] rfl k1 hw
    have w5:w≤5:=by exact om [] [w,c10.fmod 5] [(.il (.a Y1 (.n 1)) (.n 5)),(.ie (.a (.n 1) Y1) Y0)] (.il Y0 (.n 5)) [[1,1,0,1]] rfl k2 hw
    clear hw k1 k2
    obtain ⟨m,rfl⟩:=Int.eq_ofNat_of_zero_le (show 0≤w by exact om [] [w] [(.il (.n 1) Y0)] (.il (.n 0) Y0) [[1,1]] rfl w1)
    have hm:m=1∨m=2∨m=3∨m=4∨m=5:=by exact om [m] [] [(.il (.n 1) (.c Y0)),(.il (.c Y0) (.n 5))] (.or (.eq Y0 (.n 1)) (.or (.eq Y0 (.n 2)) (.or (.eq Y0 (.n 3)) (.or (.eq Y0 (.n 4)) (.eq Y0 (.n 5)))))) [[1,0,0,0,0,1],[1,1],[0,1,1],[0,0,1,1],[0,0,0,1,1],[0,0,0,0,1,0,1]] rfl w1 w5
    have hQ:QD (0 - q'*(m:Int)) q' r' (m*m):=by
      have q0:=h2.q0
      refine ⟨?_,?_,h2.q0,h2.r1,h2.r2,?_,?_⟩ <;> rcases hm with rfl | rfl | rfl | rfl | rfl <;> first | omega | decide
    refine ⟨IntMulOk.left sq',IntMulOk.left (dP (c:=5) (by exact om [m] [] [] (.il (.g (.n 5)) (.c Y0)) [[1]] rfl) (by exact om [m] [] [(.il (.c Y0) (.n 5))] (.il (.c Y0) (.n 5)) [[1,1]] rfl w5) (by unfold Sm; decide)),?_⟩
    rw [show (m:Int)*(m:Int)=((m*m:Nat):Int) from (Int.natCast_mul m m).symm]
    exact A4 h1 hQ fun _=>rfl
  · rw [decide_eq_false hc]
    dsimp only [bR]
    exact A4 h1 h2 fun _=>rfl
end L10
end Mine
open PySem PyProof.Rows PySem.Calls PySem.W
set_option Elab.async false
set_option maxRecDepth 100000
namespace Mine
noncomputable def L10.gc : GC := ⟨L10.fnNames, L10.clsNames, [(Str.ofString "HALF", 1, 2), (Str.ofString "QUARTER", 1, 4), (Str.ofString "NOUGHT", 0, 1), (Str.ofString "ONE", 1, 1)]⟩
theorem L10.chk:kr L10.gc ((recsOf ou).map ui) L10.fnTab L10.varTab=true:=by decide +kernel
theorem L10.said:PySem.Challenge.rw_uf020007_10.wellSaid=true:=by kernel_rfl
noncomputable def OL (p : Program) : PySem.W.OpenLaw := { prog := p, name := Str.ofString "law", about := [Str.ofString "times"], foot := 25, most := some 63, bound := none, writes := false }
theorem L10.fin {p : Program} (htree : p.given.tree = none) {w : World} {s₀ s₁ : Shared} {mg mb : Str → Option Value} {DT : List dq} {fa : Addr} {args : List WData} {vals : List Value} {as : List Addr} (GF1 : GF ⟨mg, mb, gM mg L10.gc.fns, fun _ => .none⟩ L10.gc DT s₁.heap) (hlen : L10.gc.fns.length = DT.length) (chk : kr L10.gc DT L10.fnTab L10.varTab = true) (hmg : mg (Str.ofString "law") = some (.ref fa)) (hg : s₁.gens = #[])
    (hpre:(OL p).row.claim.pre args=true) (hlay:WData.layableAll args=true) (hrd:ReadsAllW (OL p).row.records (classAt s₀.heap) s₁.heap vals args as) (hwl:WellAll w.params s₁.heap vals args) (hlo:∀ a,a∈as→(a == sysModules)=false) :
    wpAny (model (OL p).row.prog w) callerA ((fun f vs=>call f vs) (.ref fa) vals) (fun v s'=>GoodWG (OL p).row.claim (classAt s₀.heap) (ExcName.means s₀.heap) args s₁ (Except.ok (Flow.ret v)) s') (fun e s'=>GoodWG (OL p).row.claim (classAt s₀.heap) (ExcName.means s₀.heap) args s₁ (Except.error e) s') s₁:=by
  wrow_args hpre hlay hrd hwl hlo
  all_goals (
    first | refine callC_kw (enter_call ?_) | refine enter_call ?_ | refine callC_kw (enter_callW ?_) | refine enter_callW ?_ | w_how
    w_top on
    try refine codeAny_mono ?_ (fun _ _ g=>GoodW.toG g)
    rename_i hL hlay1 _ _ _ _ _ _ _ hLs _ _ _ hI _ hcond _
    refine Mine.yZ htree (gc := Mine.L10.gc) (P := Mine.L10.fnTab) (VT := Mine.L10.varTab) (sub := Mine.L10.nosub) (k := 52) (n := 9) (x := "law")
      GF1 hlen chk (by decide) hLs hI (by omega) (by decide +kernel) hmg (by decide) (Mine.L10.spec _ (by omega)) ?_
    · intro h' tk kp
      exact ⟨.inl ⟨_,.bool true,[],rfl,by intro cls; rfl,.bool true,(by first | rfl | exact postW_of rfl rfl (by decide +kernel)),unshared_nil⟩,kp,rfl,hg⟩)
end Mine
theorem PySem.Challenge.cw_uf020007_10_holds : PySem.Challenge.rw_uf020007_10.Holds := by
  w_on
  refine holds_law Mine.L10.said fun said=>?_
  refine holds_open (q:=Mine.ou) (loose:=[]) (XP:=XL Mine.ou []) (YP:=InK Mine.K10) (N:=4500) Mine.Ca (InK.of (fun _=>by kernel_rfl)) InK.keeps (fun s e=>xl_of s (Bool.and_eq_true_iff.mp e).1) XL.keeps (by rfl) (by rfl) (by rfl) (fun s e=>recFacts_of (Bool.and_eq_true_iff.mp e).2) (by rfl) (by first | assumption | decide +kernel) (by decide +kernel) ⟨rfl,rfl,rfl,rfl,rfl,by decide +kernel⟩ ?hw ?hc
  case hw=>w_witness2
  k_fill
  intro w s₀ s₁ mg mb G Y fa o pm cd doc dV kV ho hd hcd hD hmg hg args vals as hpre hlay hrd hwl hlo
  have KX:(Mine.K10 w.params).In s₁.heap:=Y
  refine Ground.open G ?_
  intro T B D TE TW
  have GF0:=Mine.wu (gc:=⟨Mine.L10.gc.fns,Mine.L10.gc.cls,[]⟩) T (by decide +kernel) rfl (by decide +kernel) (by decide +kernel)
  have m0 := mg_of KX T.g (show nsIn (Mine.K10 w.params) mainGlobals (Str.ofString "HALF") = some (some (.ref 182)) by k_is)
  have m1 := mg_of KX T.g (show nsIn (Mine.K10 w.params) mainGlobals (Str.ofString "QUARTER") = some (some (.ref 183)) by k_is)
  have m2 := mg_of KX T.g (show nsIn (Mine.K10 w.params) mainGlobals (Str.ofString "NOUGHT") = some (some (.ref 212)) by k_is)
  have m3 := mg_of KX T.g (show nsIn (Mine.K10 w.params) mainGlobals (Str.ofString "ONE") = some (some (.ref 213)) by k_is)
  have GF1:Mine.GF ⟨mg,mb,Mine.gM mg Mine.L10.gc.fns,fun _=>.none⟩ Mine.L10.gc ((recsOf Mine.ou).map Mine.ui) s₁.heap:=Mine.xj GF0 (fun x a b hx=>by
    rcases List.mem_cons.mp hx with hx | hx
    · cases hx
      exact ⟨182,415,416,m0,Mine.ua w.params,KX 182 _ rfl,rfl,_,rfl⟩
    rcases List.mem_cons.mp hx with hx | hx
    · cases hx
      exact ⟨183,418,419,m1,Mine.t7 w.params,KX 183 _ rfl,rfl,_,rfl⟩
    rcases List.mem_cons.mp hx with hx | hx
    · cases hx
      exact ⟨212,460,461,m2,Mine.uG w.params,KX 212 _ rfl,rfl,_,rfl⟩
    rcases List.mem_cons.mp hx with hx | hx
    · cases hx
      exact ⟨213,463,464,m3,Mine.uL w.params,KX 213 _ rfl,rfl,_,rfl⟩
    cases hx)
  exact Mine.L10.fin rfl GF1 (by decide +kernel) Mine.L10.chk hmg hg hpre hlay hrd hwl hlo
