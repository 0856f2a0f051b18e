import PyProof.Rows.All
import PyProof.Walks
import PyProof.StationsW
import PyProof.RangeIter
import PyProof.InstFacts
import Wide.All
import OpenK.AllK
import KE.KTryMore
import Wide.FinOn
import KE.KDictList
import KE.KSortAsk
import KE.KSortTup
import Open.FastRun
import Open.FastT9
import Open.Line
import PySem.Challenge.RW_uf010026_07
set_option Elab.async false
set_option maxRecDepth 1000000
set_option maxHeartbeats 8000000
set_option linter.all false
set_option tactic.hygienic false
set_option genSizeOf false
set_option genInjectivity false
set_option compiler.extract_closed false
set_option bootstrap.genMatcherCode false
section
namespace Mine
@[elab_as_elim] theorem X0lp.{v0}{b0:Sort v0}{w0:b0}{f0:b0}{p1:Prop}{G:b0->Prop} (h:w0=f0/\p1) (k:p1->G (f0)):G w0:=by
 obtain ⟨rfl,h1⟩:=h
 exact k h1
theorem Ad {p0:Prop}{p1:Prop}{G:Prop} (h:p0/\p1) (k:p0->p1->G):G:=by
 obtain ⟨h0,h1⟩:=h
 exact k h0 h1
theorem AU {p0:Prop}{p1:Prop}{p2:Prop}{G:Prop} (h:p0/\p1/\p2) (k:p0->p1->p2->G):G:=by
 obtain ⟨h0,h1,h2⟩:=h
 exact k h0 h1 h2
theorem BO {p0:Prop}{p1:Prop}{p2:Prop}{p3:Prop}{G:Prop} (h:p0/\p1/\p2/\p3) (k:p0->p1->p2->p3->G):G:=by
 obtain ⟨h0,h1,h2,h3⟩:=h
 exact k h0 h1 h2 h3
theorem X0ppppp {p0:Prop}{p1:Prop}{p2:Prop}{p3:Prop}{p4:Prop}{G:Prop} (h:p0/\p1/\p2/\p3/\p4) (k:p0->p1->p2->p3->p4->G):G:=by
 obtain ⟨h0,h1,h2,h3,h4⟩:=h
 exact k h0 h1 h2 h3 h4
theorem Fj {p0:Prop}{p1:Prop}{p2:Prop}{p3:Prop}{p4:Prop}{p5:Prop}{p6:Prop}{G:Prop} (h:p0/\p1/\p2/\p3/\p4/\p5/\p6) (k:p0->p1->p2->p3->p4->p5->p6->G):G:=by
 obtain ⟨h0,h1,h2,h3,h4,h5,h6⟩:=h
 exact k h0 h1 h2 h3 h4 h5 h6
theorem X1p.{u0}{a0:Sort u0}{p0:a0->Prop}{G:Prop} (h:∃ x0,p0 x0) (k:∀ x0,p0 x0->G):G:=by
 obtain ⟨x0,h0⟩:=h
 exact k x0 h0
theorem X1pp.{u0}{a0:Sort u0}{p0:a0->Prop}{p1:a0->Prop}{G:Prop} (h:∃ x0,p0 x0/\p1 x0) (k:∀ x0,p0 x0->p1 x0->G):G:=by
 obtain ⟨x0,h0,h1⟩:=h
 exact k x0 h0 h1
theorem X1ppp.{u0}{a0:Sort u0}{p0:a0->Prop}{p1:a0->Prop}{p2:a0->Prop}{G:Prop} (h:∃ x0,p0 x0/\p1 x0/\p2 x0) (k:∀ x0,p0 x0->p1 x0->p2 x0->G):G:=by
 obtain ⟨x0,h0,h1,h2⟩:=h
 exact k x0 h0 h1 h2
theorem X1pppp.{u0}{a0:Sort u0}{p0:a0->Prop}{p1:a0->Prop}{p2:a0->Prop}{p3:a0->Prop}{G:Prop} (h:∃ x0,p0 x0/\p1 x0/\p2 x0/\p3 x0) (k:∀ x0,p0 x0->p1 x0->p2 x0->p3 x0->G):G:=by
 obtain ⟨x0,h0,h1,h2,h3⟩:=h
 exact k x0 h0 h1 h2 h3
theorem X1ppppp.{u0}{a0:Sort u0}{p0:a0->Prop}{p1:a0->Prop}{p2:a0->Prop}{p3:a0->Prop}{p4:a0->Prop}{G:Prop} (h:∃ x0,p0 x0/\p1 x0/\p2 x0/\p3 x0/\p4 x0) (k:∀ x0,p0 x0->p1 x0->p2 x0->p3 x0->p4 x0->G):G:=by
 obtain ⟨x0,h0,h1,h2,h3,h4⟩:=h
 exact k x0 h0 h1 h2 h3 h4
theorem X1pppppp.{u0}{a0:Sort u0}{p0:a0->Prop}{p1:a0->Prop}{p2:a0->Prop}{p3:a0->Prop}{p4:a0->Prop}{p5:a0->Prop}{G:Prop} (h:∃ x0,p0 x0/\p1 x0/\p2 x0/\p3 x0/\p4 x0/\p5 x0) (k:∀ x0,p0 x0->p1 x0->p2 x0->p3 x0->p4 x0->p5 x0->G):G:=by
 obtain ⟨x0,h0,h1,h2,h3,h4,h5⟩:=h
 exact k x0 h0 h1 h2 h3 h4 h5
theorem X1ppppppp.{u0}{a0:Sort u0}{p0:a0->Prop}{p1:a0->Prop}{p2:a0->Prop}{p3:a0->Prop}{p4:a0->Prop}{p5:a0->Prop}{p6:a0->Prop}{G:Prop} (h:∃ x0,p0 x0/\p1 x0/\p2 x0/\p3 x0/\p4 x0/\p5 x0/\p6 x0) (k:∀ x0,p0 x0->p1 x0->p2 x0->p3 x0->p4 x0->p5 x0->p6 x0->G):G:=by
 obtain ⟨x0,h0,h1,h2,h3,h4,h5,h6⟩:=h
 exact k x0 h0 h1 h2 h3 h4 h5 h6
theorem X2p.{u0,u1}{a0:Sort u0}{a1:Sort u1}{p0:a0->a1->Prop}{G:Prop} (h:∃ x0 x1,p0 x0 x1) (k:∀ x0 x1,p0 x0 x1->G):G:=by
 obtain ⟨x0,x1,h0⟩:=h
 exact k x0 x1 h0
theorem X2pp.{u0,u1}{a0:Sort u0}{a1:Sort u1}{p0:a0->a1->Prop}{p1:a0->a1->Prop}{G:Prop} (h:∃ x0 x1,p0 x0 x1/\p1 x0 x1) (k:∀ x0 x1,p0 x0 x1->p1 x0 x1->G):G:=by
 obtain ⟨x0,x1,h0,h1⟩:=h
 exact k x0 x1 h0 h1
theorem X2ppp.{u0,u1}{a0:Sort u0}{a1:Sort u1}{p0:a0->a1->Prop}{p1:a0->a1->Prop}{p2:a0->a1->Prop}{G:Prop} (h:∃ x0 x1,p0 x0 x1/\p1 x0 x1/\p2 x0 x1) (k:∀ x0 x1,p0 x0 x1->p1 x0 x1->p2 x0 x1->G):G:=by
 obtain ⟨x0,x1,h0,h1,h2⟩:=h
 exact k x0 x1 h0 h1 h2
theorem X2pppp.{u0,u1}{a0:Sort u0}{a1:Sort u1}{p0:a0->a1->Prop}{p1:a0->a1->Prop}{p2:a0->a1->Prop}{p3:a0->a1->Prop}{G:Prop} (h:∃ x0 x1,p0 x0 x1/\p1 x0 x1/\p2 x0 x1/\p3 x0 x1) (k:∀ x0 x1,p0 x0 x1->p1 x0 x1->p2 x0 x1->p3 x0 x1->G):G:=by
 obtain ⟨x0,x1,h0,h1,h2,h3⟩:=h
 exact k x0 x1 h0 h1 h2 h3
theorem X2ppppp.{u0,u1}{a0:Sort u0}{a1:Sort u1}{p0:a0->a1->Prop}{p1:a0->a1->Prop}{p2:a0->a1->Prop}{p3:a0->a1->Prop}{p4:a0->a1->Prop}{G:Prop} (h:∃ x0 x1,p0 x0 x1/\p1 x0 x1/\p2 x0 x1/\p3 x0 x1/\p4 x0 x1) (k:∀ x0 x1,p0 x0 x1->p1 x0 x1->p2 x0 x1->p3 x0 x1->p4 x0 x1->G):G:=by
 obtain ⟨x0,x1,h0,h1,h2,h3,h4⟩:=h
 exact k x0 x1 h0 h1 h2 h3 h4
theorem X3p.{u0,u1,u2}{a0:Sort u0}{a1:Sort u1}{a2:Sort u2}{p0:a0->a1->a2->Prop}{G:Prop} (h:∃ x0 x1 x2,p0 x0 x1 x2) (k:∀ x0 x1 x2,p0 x0 x1 x2->G):G:=by
 obtain ⟨x0,x1,x2,h0⟩:=h
 exact k x0 x1 x2 h0
theorem X3pp.{u0,u1,u2}{a0:Sort u0}{a1:Sort u1}{a2:Sort u2}{p0:a0->a1->a2->Prop}{p1:a0->a1->a2->Prop}{G:Prop} (h:∃ x0 x1 x2,p0 x0 x1 x2/\p1 x0 x1 x2) (k:∀ x0 x1 x2,p0 x0 x1 x2->p1 x0 x1 x2->G):G:=by
 obtain ⟨x0,x1,x2,h0,h1⟩:=h
 exact k x0 x1 x2 h0 h1
theorem X3ppp.{u0,u1,u2}{a0:Sort u0}{a1:Sort u1}{a2:Sort u2}{p0:a0->a1->a2->Prop}{p1:a0->a1->a2->Prop}{p2:a0->a1->a2->Prop}{G:Prop} (h:∃ x0 x1 x2,p0 x0 x1 x2/\p1 x0 x1 x2/\p2 x0 x1 x2) (k:∀ x0 x1 x2,p0 x0 x1 x2->p1 x0 x1 x2->p2 x0 x1 x2->G):G:=by
 obtain ⟨x0,x1,x2,h0,h1,h2⟩:=h
 exact k x0 x1 x2 h0 h1 h2
theorem X3pppp.{u0,u1,u2}{a0:Sort u0}{a1:Sort u1}{a2:Sort u2}{p0:a0->a1->a2->Prop}{p1:a0->a1->a2->Prop}{p2:a0->a1->a2->Prop}{p3:a0->a1->a2->Prop}{G:Prop} (h:∃ x0 x1 x2,p0 x0 x1 x2/\p1 x0 x1 x2/\p2 x0 x1 x2/\p3 x0 x1 x2) (k:∀ x0 x1 x2,p0 x0 x1 x2->p1 x0 x1 x2->p2 x0 x1 x2->p3 x0 x1 x2->G):G:=by
 obtain ⟨x0,x1,x2,h0,h1,h2,h3⟩:=h
 exact k x0 x1 x2 h0 h1 h2 h3
theorem X3ppppp.{u0,u1,u2}{a0:Sort u0}{a1:Sort u1}{a2:Sort u2}{p0:a0->a1->a2->Prop}{p1:a0->a1->a2->Prop}{p2:a0->a1->a2->Prop}{p3:a0->a1->a2->Prop}{p4:a0->a1->a2->Prop}{G:Prop} (h:∃ x0 x1 x2,p0 x0 x1 x2/\p1 x0 x1 x2/\p2 x0 x1 x2/\p3 x0 x1 x2/\p4 x0 x1 x2) (k:∀ x0 x1 x2,p0 x0 x1 x2->p1 x0 x1 x2->p2 x0 x1 x2->p3 x0 x1 x2->p4 x0 x1 x2->G):G:=by
 obtain ⟨x0,x1,x2,h0,h1,h2,h3,h4⟩:=h
 exact k x0 x1 x2 h0 h1 h2 h3 h4
theorem X4p.{u0,u1,u2,u3}{a0:Sort u0}{a1:Sort u1}{a2:Sort u2}{a3:Sort u3}{p0:a0->a1->a2->a3->Prop}{G:Prop} (h:∃ x0 x1 x2 x3,p0 x0 x1 x2 x3) (k:∀ x0 x1 x2 x3,p0 x0 x1 x2 x3->G):G:=by
 obtain ⟨x0,x1,x2,x3,h0⟩:=h
 exact k x0 x1 x2 x3 h0
theorem X4pp.{u0,u1,u2,u3}{a0:Sort u0}{a1:Sort u1}{a2:Sort u2}{a3:Sort u3}{p0:a0->a1->a2->a3->Prop}{p1:a0->a1->a2->a3->Prop}{G:Prop} (h:∃ x0 x1 x2 x3,p0 x0 x1 x2 x3/\p1 x0 x1 x2 x3) (k:∀ x0 x1 x2 x3,p0 x0 x1 x2 x3->p1 x0 x1 x2 x3->G):G:=by
 obtain ⟨x0,x1,x2,x3,h0,h1⟩:=h
 exact k x0 x1 x2 x3 h0 h1
theorem X4ppp.{u0,u1,u2,u3}{a0:Sort u0}{a1:Sort u1}{a2:Sort u2}{a3:Sort u3}{p0:a0->a1->a2->a3->Prop}{p1:a0->a1->a2->a3->Prop}{p2:a0->a1->a2->a3->Prop}{G:Prop} (h:∃ x0 x1 x2 x3,p0 x0 x1 x2 x3/\p1 x0 x1 x2 x3/\p2 x0 x1 x2 x3) (k:∀ x0 x1 x2 x3,p0 x0 x1 x2 x3->p1 x0 x1 x2 x3->p2 x0 x1 x2 x3->G):G:=by
 obtain ⟨x0,x1,x2,x3,h0,h1,h2⟩:=h
 exact k x0 x1 x2 x3 h0 h1 h2
theorem X4pppp.{u0,u1,u2,u3}{a0:Sort u0}{a1:Sort u1}{a2:Sort u2}{a3:Sort u3}{p0:a0->a1->a2->a3->Prop}{p1:a0->a1->a2->a3->Prop}{p2:a0->a1->a2->a3->Prop}{p3:a0->a1->a2->a3->Prop}{G:Prop} (h:∃ x0 x1 x2 x3,p0 x0 x1 x2 x3/\p1 x0 x1 x2 x3/\p2 x0 x1 x2 x3/\p3 x0 x1 x2 x3) (k:∀ x0 x1 x2 x3,p0 x0 x1 x2 x3->p1 x0 x1 x2 x3->p2 x0 x1 x2 x3->p3 x0 x1 x2 x3->G):G:=by
 obtain ⟨x0,x1,x2,x3,h0,h1,h2,h3⟩:=h
 exact k x0 x1 x2 x3 h0 h1 h2 h3
theorem X4ppppp.{u0,u1,u2,u3}{a0:Sort u0}{a1:Sort u1}{a2:Sort u2}{a3:Sort u3}{p0:a0->a1->a2->a3->Prop}{p1:a0->a1->a2->a3->Prop}{p2:a0->a1->a2->a3->Prop}{p3:a0->a1->a2->a3->Prop}{p4:a0->a1->a2->a3->Prop}{G:Prop} (h:∃ x0 x1 x2 x3,p0 x0 x1 x2 x3/\p1 x0 x1 x2 x3/\p2 x0 x1 x2 x3/\p3 x0 x1 x2 x3/\p4 x0 x1 x2 x3) (k:∀ x0 x1 x2 x3,p0 x0 x1 x2 x3->p1 x0 x1 x2 x3->p2 x0 x1 x2 x3->p3 x0 x1 x2 x3->p4 x0 x1 x2 x3->G):G:=by
 obtain ⟨x0,x1,x2,x3,h0,h1,h2,h3,h4⟩:=h
 exact k x0 x1 x2 x3 h0 h1 h2 h3 h4
theorem X4pppppp.{u0,u1,u2,u3}{a0:Sort u0}{a1:Sort u1}{a2:Sort u2}{a3:Sort u3}{p0:a0->a1->a2->a3->Prop}{p1:a0->a1->a2->a3->Prop}{p2:a0->a1->a2->a3->Prop}{p3:a0->a1->a2->a3->Prop}{p4:a0->a1->a2->a3->Prop}{p5:a0->a1->a2->a3->Prop}{G:Prop} (h:∃ x0 x1 x2 x3,p0 x0 x1 x2 x3/\p1 x0 x1 x2 x3/\p2 x0 x1 x2 x3/\p3 x0 x1 x2 x3/\p4 x0 x1 x2 x3/\p5 x0 x1 x2 x3) (k:∀ x0 x1 x2 x3,p0 x0 x1 x2 x3->p1 x0 x1 x2 x3->p2 x0 x1 x2 x3->p3 x0 x1 x2 x3->p4 x0 x1 x2 x3->p5 x0 x1 x2 x3->G):G:=by
 obtain ⟨x0,x1,x2,x3,h0,h1,h2,h3,h4,h5⟩:=h
 exact k x0 x1 x2 x3 h0 h1 h2 h3 h4 h5
theorem X5pp.{u0,u1,u2,u3,u4}{a0:Sort u0}{a1:Sort u1}{a2:Sort u2}{a3:Sort u3}{a4:Sort u4}{p0:a0->a1->a2->a3->a4->Prop}{p1:a0->a1->a2->a3->a4->Prop}{G:Prop} (h:∃ x0 x1 x2 x3 x4,p0 x0 x1 x2 x3 x4/\p1 x0 x1 x2 x3 x4) (k:∀ x0 x1 x2 x3 x4,p0 x0 x1 x2 x3 x4->p1 x0 x1 x2 x3 x4->G):G:=by
 obtain ⟨x0,x1,x2,x3,x4,h0,h1⟩:=h
 exact k x0 x1 x2 x3 x4 h0 h1
theorem X5pppp.{u0,u1,u2,u3,u4}{a0:Sort u0}{a1:Sort u1}{a2:Sort u2}{a3:Sort u3}{a4:Sort u4}{p0:a0->a1->a2->a3->a4->Prop}{p1:a0->a1->a2->a3->a4->Prop}{p2:a0->a1->a2->a3->a4->Prop}{p3:a0->a1->a2->a3->a4->Prop}{G:Prop} (h:∃ x0 x1 x2 x3 x4,p0 x0 x1 x2 x3 x4/\p1 x0 x1 x2 x3 x4/\p2 x0 x1 x2 x3 x4/\p3 x0 x1 x2 x3 x4) (k:∀ x0 x1 x2 x3 x4,p0 x0 x1 x2 x3 x4->p1 x0 x1 x2 x3 x4->p2 x0 x1 x2 x3 x4->p3 x0 x1 x2 x3 x4->G):G:=by
 obtain ⟨x0,x1,x2,x3,x4,h0,h1,h2,h3⟩:=h
 exact k x0 x1 x2 x3 x4 h0 h1 h2 h3
theorem X5ppppp.{u0,u1,u2,u3,u4}{a0:Sort u0}{a1:Sort u1}{a2:Sort u2}{a3:Sort u3}{a4:Sort u4}{p0:a0->a1->a2->a3->a4->Prop}{p1:a0->a1->a2->a3->a4->Prop}{p2:a0->a1->a2->a3->a4->Prop}{p3:a0->a1->a2->a3->a4->Prop}{p4:a0->a1->a2->a3->a4->Prop}{G:Prop} (h:∃ x0 x1 x2 x3 x4,p0 x0 x1 x2 x3 x4/\p1 x0 x1 x2 x3 x4/\p2 x0 x1 x2 x3 x4/\p3 x0 x1 x2 x3 x4/\p4 x0 x1 x2 x3 x4) (k:∀ x0 x1 x2 x3 x4,p0 x0 x1 x2 x3 x4->p1 x0 x1 x2 x3 x4->p2 x0 x1 x2 x3 x4->p3 x0 x1 x2 x3 x4->p4 x0 x1 x2 x3 x4->G):G:=by
 obtain ⟨x0,x1,x2,x3,x4,h0,h1,h2,h3,h4⟩:=h
 exact k x0 x1 x2 x3 x4 h0 h1 h2 h3 h4
theorem X6p.{u0,u1,u2,u3,u4,u5}{a0:Sort u0}{a1:Sort u1}{a2:Sort u2}{a3:Sort u3}{a4:Sort u4}{a5:Sort u5}{p0:a0->a1->a2->a3->a4->a5->Prop}{G:Prop} (h:∃ x0 x1 x2 x3 x4 x5,p0 x0 x1 x2 x3 x4 x5) (k:∀ x0 x1 x2 x3 x4 x5,p0 x0 x1 x2 x3 x4 x5->G):G:=by
 obtain ⟨x0,x1,x2,x3,x4,x5,h0⟩:=h
 exact k x0 x1 x2 x3 x4 x5 h0
theorem X6ppppp.{u0,u1,u2,u3,u4,u5}{a0:Sort u0}{a1:Sort u1}{a2:Sort u2}{a3:Sort u3}{a4:Sort u4}{a5:Sort u5}{p0:a0->a1->a2->a3->a4->a5->Prop}{p1:a0->a1->a2->a3->a4->a5->Prop}{p2:a0->a1->a2->a3->a4->a5->Prop}{p3:a0->a1->a2->a3->a4->a5->Prop}{p4:a0->a1->a2->a3->a4->a5->Prop}{G:Prop} (h:∃ x0 x1 x2 x3 x4 x5,p0 x0 x1 x2 x3 x4 x5/\p1 x0 x1 x2 x3 x4 x5/\p2 x0 x1 x2 x3 x4 x5/\p3 x0 x1 x2 x3 x4 x5/\p4 x0 x1 x2 x3 x4 x5) (k:∀ x0 x1 x2 x3 x4 x5,p0 x0 x1 x2 x3 x4 x5->p1 x0 x1 x2 x3 x4 x5->p2 x0 x1 x2 x3 x4 x5->p3 x0 x1 x2 x3 x4 x5->p4 x0 x1 x2 x3 x4 x5->G):G:=by
 obtain ⟨x0,x1,x2,x3,x4,x5,h0,h1,h2,h3,h4⟩:=h
 exact k x0 x1 x2 x3 x4 x5 h0 h1 h2 h3 h4
theorem X6pppppp.{u0,u1,u2,u3,u4,u5}{a0:Sort u0}{a1:Sort u1}{a2:Sort u2}{a3:Sort u3}{a4:Sort u4}{a5:Sort u5}{p0:a0->a1->a2->a3->a4->a5->Prop}{p1:a0->a1->a2->a3->a4->a5->Prop}{p2:a0->a1->a2->a3->a4->a5->Prop}{p3:a0->a1->a2->a3->a4->a5->Prop}{p4:a0->a1->a2->a3->a4->a5->Prop}{p5:a0->a1->a2->a3->a4->a5->Prop}{G:Prop} (h:∃ x0 x1 x2 x3 x4 x5,p0 x0 x1 x2 x3 x4 x5/\p1 x0 x1 x2 x3 x4 x5/\p2 x0 x1 x2 x3 x4 x5/\p3 x0 x1 x2 x3 x4 x5/\p4 x0 x1 x2 x3 x4 x5/\p5 x0 x1 x2 x3 x4 x5) (k:∀ x0 x1 x2 x3 x4 x5,p0 x0 x1 x2 x3 x4 x5->p1 x0 x1 x2 x3 x4 x5->p2 x0 x1 x2 x3 x4 x5->p3 x0 x1 x2 x3 x4 x5->p4 x0 x1 x2 x3 x4 x5->p5 x0 x1 x2 x3 x4 x5->G):G:=by
 obtain ⟨x0,x1,x2,x3,x4,x5,h0,h1,h2,h3,h4,h5⟩:=h
 exact k x0 x1 x2 x3 x4 x5 h0 h1 h2 h3 h4 h5
inductive La where
 | v (i:Nat)
 | k (z:Int)
 | c (a:La)
 | add (a b:La)
 | sub (a b:La)
 | neg (a:La)
 | mul (z:Int) (a:La)
 | mur (a:La) (z:Int)
noncomputable def gt0 {α:Type} (d:α):List α->Nat->α
 | [],_=>d
 | x::_,0=>x
 | _::r,n+1=>gt0 d r n
noncomputable def La.n (ns:List Nat):La->Nat
 | .v i=>gt0 0 ns i
 | .k z=>z.toNat
 | .add a b=>a.n ns+b.n ns
 | .mul z a=>z.toNat * a.n ns
 | .mur a z=>a.n ns * z.toNat
 | _=>0
noncomputable def La.i (ns:List Nat) (is:List Int):La->Int
 | .v i=>gt0 0 is i
 | .k z=>z
 | .c a=>(a.n ns:Nat)
 | .add a b=>a.i ns is+b.i ns is
 | .sub a b=>a.i ns is - b.i ns is
 | .neg a=>-(a.i ns is)
 | .mul z a=>z * a.i ns is
 | .mur a z=>a.i ns is * z
structure Lp where
 k:Int
 n:List Int
 i:List Int
noncomputable def Ch:List Int->List Int->Int
 | c::r,x::s=>c * x+Ch r s
 | _,_=>0
noncomputable def addL:List Int->List Int->List Int
 | [],b=>b
 | x::r,[]=>x::r
 | x::r,y::s=>(x+y)::addL r s
noncomputable def mulL (z:Int):List Int->List Int
 | []=>[]
 | x::r=>z * x::mulL z r
noncomputable def one:Nat->List Int
 | 0=>[1]
 | n+1=>0::one n
noncomputable def H0:List Nat->List Int
 | []=>[]
 | x::r=>(x:Int)::H0 r
noncomputable def Lp.ev (ns:List Nat) (is:List Int) (p:Lp):Int:=p.k+(Ch p.n (H0 ns)+Ch p.i is)
noncomputable def Lp.add (p q:Lp):Lp:=⟨p.k+q.k,addL p.n q.n,addL p.i q.i⟩
noncomputable def Lp.mul (z:Int) (p:Lp):Lp:=⟨z * p.k,mulL z p.n,mulL z p.i⟩
theorem F6:∀ a b l,Ch (addL a b) l=Ch a l+Ch b l
 | [],b,l=>(Int.zero_add _).symm
 | x::r,[],l=>(Int.add_zero _).symm
 | x::r,y::s,[]=>rfl
 | x::r,y::s,u::l=>by
  show (x+y) * u+Ch (addL r s) l=(x * u+Ch r l)+(y * u+Ch s l)
  rw [F6 r s l,Int.add_mul,Int.add_assoc,Int.add_assoc,Int.add_left_comm (y * u)]
theorem F5 (z:Int):∀ a l,Ch (mulL z a) l=z * Ch a l
 | [],l=>(Int.mul_zero _).symm
 | x::r,[]=>(Int.mul_zero _).symm
 | x::r,u::l=>by
  show z * x * u+Ch (mulL z r) l=z * (x * u+Ch r l)
  rw [F5 z r l,Int.mul_add,Int.mul_assoc]
theorem F4:∀ i l,Ch (one i) l=gt0 0 l i
 | 0,[]=>rfl
 | _+1,[]=>rfl
 | 0,u::l=>by show 1 * u+0=u;rw [Int.one_mul,Int.add_zero]
 | i+1,u::l=>by show 0 * u+Ch (one i) l=gt0 0 l i;rw [F4 i l,Int.zero_mul,Int.zero_add]
theorem Jq:∀ l i,gt0 0 (H0 l) i=((gt0 0 l i:Nat):Int)
 | [],_=>rfl
 | _::_,0=>rfl
 | _::r,i+1=>Jq r i
theorem Lp.ev_add (ns is) (p q:Lp):Lp.ev ns is (p.add q)=p.ev ns is+q.ev ns is:=by
 show (p.k+q.k)+(Ch (addL p.n q.n) _+Ch (addL p.i q.i) _)=(p.k+(_+_))+(q.k+(_+_))
 rw [F6,F6]
 generalize Ch p.n (H0 ns)=a
 generalize Ch p.i is=b
 generalize Ch q.n (H0 ns)=c
 generalize Ch q.i is=d
 rw [Int.add_assoc,Int.add_assoc p.k,Int.add_left_comm (a+b),Int.add_assoc a c,Int.add_left_comm c b,Int.add_assoc a b]
theorem Lp.ev_mul (ns is z) (p:Lp):Lp.ev ns is (Lp.mul z p)=z * p.ev ns is:=by
 show z * p.k+(Ch (mulL z p.n) _+Ch (mulL z p.i) _)=z * (p.k+(_+_))
 rw [F5,F5,Int.mul_add,Int.mul_add]
noncomputable def La.pn:La->Lp
 | .v i=>⟨0,one i,[]⟩
 | .k z=>⟨z.toNat,[],[]⟩
 | .add a b=>a.pn.add b.pn
 | .mul z a=>Lp.mul z.toNat a.pn
 | .mur a z=>Lp.mul z.toNat a.pn
 | _=>⟨0,[],[]⟩
noncomputable def La.p:La->Lp
 | .v i=>⟨0,[],one i⟩
 | .k z=>⟨z,[],[]⟩
 | .c a=>a.pn
 | .add a b=>a.p.add b.p
 | .sub a b=>a.p.add (Lp.mul (-1) b.p)
 | .neg a=>Lp.mul (-1) a.p
 | .mul z a=>Lp.mul z a.p
 | .mur a z=>Lp.mul z a.p
theorem ev_k (ns is z):Lp.ev ns is ⟨z,[],[]⟩=z:=Int.add_zero _
theorem La.pn_ok (ns is):∀ t:La,((t.n ns:Nat):Int)=Lp.ev ns is t.pn
 | .v i=>by show _=0+(Ch (one i) _+0);rw [F4,Jq,Int.zero_add,Int.add_zero];rfl
 | .k z=>(ev_k _ _ _).symm
 | .add a b=>by show ((a.n ns+b.n ns:Nat):Int)=Lp.ev ns is (a.pn.add b.pn);rw [Lp.ev_add,<- pn_ok ns is a,<- pn_ok ns is b];rfl
 | .mul z a=>by show ((z.toNat * a.n ns:Nat):Int)=Lp.ev ns is (Lp.mul z.toNat a.pn);rw [Lp.ev_mul,<- pn_ok ns is a];rfl
 | .mur a z=>by show ((a.n ns * z.toNat:Nat):Int)=Lp.ev ns is (Lp.mul z.toNat a.pn);rw [Lp.ev_mul,<- pn_ok ns is a,Nat.mul_comm];rfl
 | .c _ | .sub _ _ | .neg _=>rfl
theorem La.p_ok (ns is):∀ t:La,t.i ns is=Lp.ev ns is t.p
 | .v i=>by show _=0+(0+Ch (one i) _);rw [F4,Int.zero_add,Int.zero_add];rfl
 | .k z=>(ev_k _ _ _).symm
 | .c a=>a.pn_ok ns is
 | .add a b=>by show a.i ns is+b.i ns is=Lp.ev ns is (a.p.add b.p);rw [Lp.ev_add,<- p_ok ns is a,<- p_ok ns is b]
 | .sub a b=>by show a.i ns is - b.i ns is=Lp.ev ns is (a.p.add (Lp.mul (-1) b.p));rw [Lp.ev_add,Lp.ev_mul,<- p_ok ns is a,<- p_ok ns is b,Int.neg_one_mul];rfl
 | .neg a=>by show -(a.i ns is)=Lp.ev ns is (Lp.mul (-1) a.p);rw [Lp.ev_mul,<- p_ok ns is a,Int.neg_one_mul]
 | .mul z a=>by show z * a.i ns is=Lp.ev ns is (Lp.mul z a.p);rw [Lp.ev_mul,<- p_ok ns is a]
 | .mur a z=>by show a.i ns is * z=Lp.ev ns is (Lp.mul z a.p);rw [Lp.ev_mul,<- p_ok ns is a,Int.mul_comm]
inductive Lc where
 | nle (k:Nat) (a b:La)
 | nlt (k:Nat) (a b:La)
 | neq (k:Int) (a b:La)
 | ile (k:Nat) (a b:La)
 | ilt (k:Nat) (a b:La)
 | ieq (k:Int) (a b:La)
 | ngt (k:Nat) (a b:La)
 | nge (k:Nat) (a b:La)
 | igt (k:Nat) (a b:La)
 | ige (k:Nat) (a b:La)
 | no
noncomputable def Lc.den (ns:List Nat) (is:List Int):Lc->Prop
 | .nle _ a b=>a.n ns<=b.n ns
 | .nlt _ a b=>a.n ns<b.n ns
 | .neq _ a b=>a.n ns=b.n ns
 | .ile _ a b=>a.i ns is<=b.i ns is
 | .ilt _ a b=>a.i ns is<b.i ns is
 | .ieq _ a b=>a.i ns is=b.i ns is
 | .ngt _ a b=>¬ (a.n ns<=b.n ns)
 | .nge _ a b=>¬ (a.n ns<b.n ns)
 | .igt _ a b=>¬ (a.i ns is<=b.i ns is)
 | .ige _ a b=>¬ (a.i ns is<b.i ns is)
 | .no=>False
noncomputable def Lp.df (k d:Int) (a b:Lp):Lp:=Lp.mul k (b.add (Lp.mul (-1) (a.add ⟨d,[],[]⟩)))
noncomputable def Lc.p:Lc->Lp
 | .nle k a b=>Lp.df k 0 a.pn b.pn
 | .nlt k a b=>Lp.df k 1 a.pn b.pn
 | .neq k a b=>Lp.df k 0 a.pn b.pn
 | .ile k a b=>Lp.df k 0 a.p b.p
 | .ilt k a b=>Lp.df k 1 a.p b.p
 | .ieq k a b=>Lp.df k 0 a.p b.p
 | .ngt k a b=>Lp.df k 1 b.pn a.pn
 | .nge k a b=>Lp.df k 0 b.pn a.pn
 | .igt k a b=>Lp.df k 1 b.p a.p
 | .ige k a b=>Lp.df k 0 b.p a.p
 | .no=>⟨0,[],[]⟩
noncomputable def Lc.nt:Lc->Lc
 | .nle k a b=>.nlt k b a
 | .nlt k a b=>.nle k b a
 | .ile k a b=>.ilt k b a
 | .ilt k a b=>.ile k b a
 | .ngt k a b=>.nle k a b
 | .nge k a b=>.nlt k a b
 | .igt k a b=>.ile k a b
 | .ige k a b=>.ilt k a b
 | _=>.neq 0 (.k 0) (.k 0)
theorem E5 {ns is}{k:Nat}{d:Int}{a b:Lp} (h:a.ev ns is+d<=b.ev ns is):0<=(Lp.df k d a b).ev ns is:=by
 unfold Lp.df
 rw [Lp.ev_mul,Lp.ev_add,Lp.ev_mul,Lp.ev_add,ev_k,Int.neg_one_mul]
 exact Int.mul_nonneg (Int.natCast_nonneg k) (Int.sub_nonneg_of_le h)
theorem df_eq {ns is}{k:Int}{a b:Lp} (h:a.ev ns is=b.ev ns is):0<=(Lp.df k 0 a b).ev ns is:=by
 unfold Lp.df
 rw [Lp.ev_mul,Lp.ev_add,Lp.ev_mul,Lp.ev_add,ev_k,Int.neg_one_mul,Int.add_zero,h,Int.add_right_neg,Int.mul_zero]
 exact Int.le_refl _
theorem Lc.ok (ns is):∀ c:Lc,c.den ns is->0<=c.p.ev ns is
 | .nle k a b,h=>E5 (by rw [Int.add_zero,<- La.pn_ok,<- La.pn_ok];exact Int.ofNat_le.mpr h)
 | .nlt k a b,h=>E5 (by rw [<- La.pn_ok,<- La.pn_ok];exact Int.ofNat_le.mpr h)
 | .neq k a b,h=>df_eq (by rw [<- La.pn_ok,<- La.pn_ok];exact congrArg _ h)
 | .ile k a b,h=>E5 (by rw [Int.add_zero,<- La.p_ok,<- La.p_ok];exact h)
 | .ilt k a b,h=>E5 (by rw [<- La.p_ok,<- La.p_ok];exact h)
 | .ieq k a b,h=>df_eq (by rw [<- La.p_ok,<- La.p_ok];exact h)
 | .ngt k a b,h=>E5 (by rw [<- La.pn_ok,<- La.pn_ok];exact Int.ofNat_le.mpr (Nat.lt_of_not_le h))
 | .nge k a b,h=>E5 (by rw [Int.add_zero,<- La.pn_ok,<- La.pn_ok];exact Int.ofNat_le.mpr (Nat.le_of_not_lt h))
 | .igt k a b,h=>E5 (by rw [<- La.p_ok,<- La.p_ok];exact Int.lt_of_not_ge h)
 | .ige k a b,h=>E5 (by rw [Int.add_zero,<- La.p_ok,<- La.p_ok];exact Int.not_lt.mp h)
 | .no,h=>h.elim
theorem Lc.nt_ok (ns is):∀ c:Lc,c.nt.den ns is\/c.den ns is
 | .nle _ a b=>Nat.lt_or_ge (b.n ns) (a.n ns)
 | .nlt _ a b=>(Nat.lt_or_ge (a.n ns) (b.n ns)).symm
 | .ile _ a b=>Int.lt_or_le (b.i ns is) (a.i ns is)
 | .ilt _ a b=>(Int.lt_or_le (a.i ns is) (b.i ns is)).symm
 | .ngt _ a b=>Decidable.em (a.n ns<=b.n ns)
 | .nge _ a b=>Decidable.em (a.n ns<b.n ns)
 | .igt _ a b=>Decidable.em (a.i ns is<=b.i ns is)
 | .ige _ a b=>Decidable.em (a.i ns is<b.i ns is)
 | .neq _ _ _ | .ieq _ _ _ | .no=>.inl rfl
noncomputable def tot:List Lc->Lp
 | []=>⟨0,[],[]⟩
 | c::r=>c.p.add (tot r)
noncomputable def np:Int->Bool
 | .ofNat 0=>true
 | .ofNat _=>false
 | .negSucc _=>true
noncomputable def nz:Int->Bool
 | .ofNat 0=>true
 | _=>false
noncomputable def ng:Int->Bool
 | .ofNat _=>false
 | .negSucc _=>true
noncomputable def Lp.bad (p:Lp):Bool:=ng p.k && (p.n.all np && p.i.all nz)
noncomputable def dAll (ns:List Nat) (is:List Int) (P:Prop):List Lc->Prop
 | []=>P
 | c::r=>c.den ns is->dAll ns is P r
theorem ands {a b:Bool} (h:(a && b)=true):a=true/\b=true:=by
 cases a
 ·cases h
 ·exact ⟨rfl,h⟩
theorem np_le {z:Int} (h:np z=true):z<=0:=by
 cases z with
 | ofNat n=>cases n with
  | zero=>exact Int.le_refl _
  | succ n=>cases h
 | negSucc n=>exact Int.negSucc_le_zero n
theorem nz_eq {z:Int} (h:nz z=true):z=0:=by
 cases z with
 | ofNat n=>cases n with
  | zero=>rfl
  | succ n=>cases h
 | negSucc n=>cases h
theorem ng_lt {z:Int} (h:ng z=true):z<0:=by
 cases z with
 | ofNat n=>cases h
 | negSucc n=>exact Int.negSucc_lt_zero n
theorem np_all:∀ {l:List Int},l.all np=true->∀ ns,Ch l (H0 ns)<=0
 | [],_,_=>Int.le_refl _
 | z::r,_,[]=>Int.le_refl _
 | z::r,h,n::s=>by
  have h:=ands h
  exact Int.add_nonpos (Int.mul_nonpos_of_nonpos_of_nonneg (np_le h.1) (Int.natCast_nonneg n)) (np_all h.2 s)
theorem nz_all:∀ {l:List Int},l.all nz=true->∀ is,Ch l is=0
 | [],_,_=>rfl
 | z::r,_,[]=>rfl
 | z::r,h,n::s=>by
  have h:=ands h
  show z * n+Ch r s=0
  rw [nz_eq h.1,nz_all h.2 s,Int.zero_mul];rfl
theorem bad_lt {p:Lp} (h:p.bad=true) (ns is):p.ev ns is<0:=by
 have h1:=ands h
 have h2:=ands h1.2
 have e:=np_all h2.1 ns
 unfold Lp.ev
 rw [nz_all h2.2 is,Int.add_zero]
 exact Int.add_neg_of_neg_of_nonpos (ng_lt h1.1) e
theorem dAll_of {ns is}{P:Prop}:∀ (cs:List Lc),(0<=(tot cs).ev ns is->P)->dAll ns is P cs
 | [],h=>h (Int.le_refl _)
 | c::r,h=>fun hc=>dAll_of r fun hr=>h (by
  show 0<=(c.p.add (tot r)).ev ns is
  rw [Lp.ev_add];exact Int.add_nonneg (c.ok ns is hc) hr)
noncomputable abbrev K0:La:=.k 0
noncomputable abbrev K1:La:=.k 1
noncomputable abbrev H5:La:=.k 100
noncomputable abbrev AG:La:=.k 1000
noncomputable abbrev Ke:La:=.k 10000
noncomputable abbrev Al:La:=.k 1000000
noncomputable abbrev BA:La:=.k 10000000
noncomputable abbrev K1114112:La:=.k 1114112
noncomputable abbrev K128:La:=.k 128
noncomputable abbrev K14:La:=.k 14
noncomputable abbrev K15:La:=.k 15
noncomputable abbrev AH:La:=.k 16777216
noncomputable abbrev K17:La:=.k 17
noncomputable abbrev K2:La:=.k 2
noncomputable abbrev K28:La:=.k 28
noncomputable abbrev K29:La:=.k 29
noncomputable abbrev K3:La:=.k 3
noncomputable abbrev K30:La:=.k 30
noncomputable abbrev K36:La:=.k 36
noncomputable abbrev K5:La:=.k 5
noncomputable abbrev K6:La:=.k 6
noncomputable abbrev K63:La:=.k 63
noncomputable abbrev K64:La:=.k 64
noncomputable abbrev K8:La:=.k 8
noncomputable abbrev Kd:La:=.k 900
noncomputable abbrev Bz:La:=.k 9000
noncomputable abbrev Cg:La:=.k 92233720368547758
noncomputable abbrev BJ:La:=.k 9223372036854775808
noncomputable abbrev Gf:La:=.k 9900
noncomputable abbrev Km1:La:=.k (-1)
noncomputable abbrev Km100:La:=.k (-100)
noncomputable abbrev A8:La:=.k (-1000000)
noncomputable abbrev BH:La:=.k (-10000000)
noncomputable abbrev By:La:=.k (-9223372036854775808)
noncomputable abbrev V0:La:=.v 0
noncomputable abbrev V1:La:=.v 1
noncomputable abbrev V2:La:=.v 2
noncomputable abbrev V3:La:=.v 3
noncomputable abbrev V4:La:=.v 4
noncomputable abbrev V5:La:=.v 5
theorem lin (ns:List Nat) (is:List Int) (g:Lc) (cs:List Lc) (h:((g.nt.p).add (tot cs)).bad=true):dAll ns is (g.den ns is) cs :=
 dAll_of cs fun hs=>(g.nt_ok ns is).elim (fun hg=>(Int.not_le.mpr (bad_lt h ns is) (by rw [Lp.ev_add];exact Int.add_nonneg (Lc.ok ns is _ hg) hs)).elim) id
theorem sub_sp (a b:Nat):(b<=a/\a - b+b=a)\/(a<b/\a - b=0) :=
 (Nat.lt_or_ge a b).symm.imp (fun h=>⟨h,Nat.sub_add_cancel h⟩) fun h=>⟨h,Nat.sub_eq_zero_of_le (Nat.le_of_lt h)⟩
theorem Gi (z:Int):(0<=z/\(z.toNat:Int)=z)\/(z<0/\z.toNat=0) :=
 (Int.lt_or_le z 0).symm.imp (fun h=>⟨h,Int.toNat_of_nonneg h⟩) fun h=>⟨h,Int.toNat_of_nonpos (Int.le_of_lt h)⟩
theorem IX (a b:Nat):max a b=a\/max a b=b:=(Nat.le_total b a).imp Nat.max_eq_left Nat.max_eq_right
theorem IW (a b:Nat):min a b=a\/min a b=b:=(Nat.le_total a b).imp Nat.min_eq_left Nat.min_eq_right
theorem BV (a b:Int):max a b=a\/max a b=b:=(Int.le_total b a).imp Int.max_eq_left Int.max_eq_right
end Mine
end
section
namespace Mine
open PySem
noncomputable def HY (B:Nat):List Nat->Nat
 | []=>0
 | c::l=>HY B l * B+(c+1)
theorem JK {B a b c d:Nat} (hc:c+1<B) (hd:d+1<B) (h:a * B+(c+1)=b * B+(d+1)):c=d/\a=b:=by
 have e1:(a * B+(c+1)) % B=c+1:=by rw [Nat.mul_comm,Nat.mul_add_mod,Nat.mod_eq_of_lt hc]
 have e2:(b * B+(d+1)) % B=d+1:=by rw [Nat.mul_comm,Nat.mul_add_mod,Nat.mod_eq_of_lt hd]
 rw [h,e2] at e1
 have hcd:d=c:=Nat.succ.inj e1
 subst hcd
 have hB:0<B:=Nat.lt_of_le_of_lt (Nat.zero_le _) hc
 exact ⟨rfl,Nat.eq_of_mul_eq_mul_right hB (Nat.add_right_cancel h)⟩
theorem codeB_inj {B:Nat}:∀ (a b:List Nat),(∀ c∈a,c+1<B)->(∀ c∈b,c+1<B)->HY B a=HY B b->a=b
 | [],[],_,_,_=>rfl
 | [],c::l,_,_,h=>by simp [HY] at h
 | c::l,[],_,_,h=>by simp [HY] at h
 | c::l,d::k,ha,hb,h=>by
  refine Ad (JK (ha c (.head _)) (hb d (.head _)) h) fun h1 h2=>?_
  rw [h1,codeB_inj l k (fun x hx=>ha x (.tail _ hx)) (fun x hx=>hb x (.tail _ hx)) h2]
noncomputable def codeL (l:List Nat):Nat:=HY 2097152 l
noncomputable def IS (l:List Nat):Bool:=l.all fun c=>Nat.blt (c+1) 2097152
theorem JV (a b:List Nat) (ha:IS a=true) (hb:IS b=true) (h:codeL a=codeL b):a=b :=
 codeB_inj a b (fun c hc=>by have:=List.all_eq_true.mp ha c hc;exact Nat.blt_eq.mp this) (fun c hc=>by have:=List.all_eq_true.mp hb c hc;exact Nat.blt_eq.mp this) h
noncomputable def code (x:Str):Nat:=if IS x.cps.toList then codeL x.cps.toList else 0
theorem code_inj {x y:Str} (h:code x=code y) (hx:code x≠0):x=y:=by
 unfold code at h hx
 by_cases a:IS x.cps.toList=true
 ·rw [if_pos a] at h hx
  by_cases b:IS y.cps.toList=true
  ·rw [if_pos b] at h
   have:=JV _ _ a b h
   obtain ⟨⟨cx⟩⟩:=x
   obtain ⟨⟨cy⟩⟩:=y
   simp only at this
   rw [this]
  ·rw [if_neg b] at h;exact absurd h hx
 ·rw [if_neg a] at hx;exact absurd rfl hx
noncomputable def ixN:List Nat->Nat->Option Nat
 | [],_=>none
 | d::l,c=>if Nat.beq c d then some 0 else (ixN l c).map (·+1)
theorem FN:∀ {l:List Nat}{c i:Nat},ixN l c=some i->l[i]?=some c
 | [],_,_,h=>by cases h
 | d::l,c,i,h=>by
  unfold ixN at h
  by_cases e:Nat.beq c d=true
  ·rw [if_pos e] at h;cases h;simp [Nat.eq_of_beq_eq_true e]
  ·rw [if_neg e] at h
   cases q:ixN l c with
   | none=>rw [q] at h;cases h
   | some j=>rw [q] at h;cases h;simpa using FN q
noncomputable def ixS (tb:List Nat) (x:Str):Option Nat:=if code x=0 then none else ixN tb (code x)
theorem Bo {tb:List Nat}{x y:Str}{i:Nat} (hx:ixS tb x=some i) (hy:ixS tb y=some i):x=y:=by
 unfold ixS at hx hy
 by_cases a:code x=0
 ·rw [if_pos a] at hx;cases hx
 ·by_cases b:code y=0
  ·rw [if_pos b] at hy;cases hy
  ·rw [if_neg a] at hx
   rw [if_neg b] at hy
   have h1:=FN hx
   have h2:=FN hy
   rw [h1] at h2
   exact code_inj (Option.some.inj h2) a
noncomputable def GT:List Nat:=[488183376642157,80033084540641898480094239089228231436665003453574281166954,514571674583146,1005348044598614687843,1972967942959123809794261109,1079135038485626355821,505775594143860,1079134968116882178149,1972967896842254829385416819,38162751627490379747452398003482574466029863143735398,4097048712905654171746245472682100,483785363685492,510173602906210,488183385030766,532163833364590,479387298300002,536561907138658,90233379350378998227153712756468239537380784352481645690967,90233379350378998227153712756468490993895923976323018522695,20516695110558990338349423043768236959579766851,4097048712905654171746245443321937,1953625065281667892816904265,4421567401963634344580608052691023,38911039395368713077120569378125327593434223166357571,18554229448017460382995876969397224232426930255,43400773495684931299990303152339635632874951695925327,4502697156435267283308154296729679,9953264140782547107729548004762710966339,26938412273360973710146055992342944584562113553367118,2224424541109078390632087623,18197417354700030340848489945371723337639657578,9953263775699387013229657059599239348330,18375823571499401479770734400747965486269988976,9187628571821442950012028645006517469290,9527911019871981142584984497405730750575,181005589184799986677156147774642533556690027265787335787732271220,20695101752711969165474692825965948435387383906,166196047384272537809289455056229126457739035918218201144596889700,18197416589064299120564216867920607479947329642,169487057283544435640426665101935405545032624369300756501555576945,45645636799317123958615858659419724959709671387562093,171132561056231666204508540239819374032478365443519710043144454261,4502697098406625027691511828971629,846730049398473916085087584128933697840380091329857293191965510740677956206701,18375823571499401479790077204638471496639971433,18375823571499401479790077213861799553046413428,396850582782009359370119880267881792802359345170147795437217238556344423,95725838504961505145080012563471106329936091183885114671209,80817726747295587368214924465216021871482886418226535727209,190878618882635509821928589408131882311271528517103037820484714594,91018018938022645045637264236535371547050118533823877611626,181005589184799986677156147774642655251399105783183241273292095597,81602364090076287366173780493044425818343523366074587283562,3310185146202486990159897262910785962440316216946269930930577122749621626347220819221938276,9953263207791589283113833233319297286261,18375823571499401479790077296872209457415716981,43774914525127606634948462309549954583142299009548405,192524123439955219288904614187488428846096326495758438584626970741,4583826736821425400178084581212266,189233104125027351079044284948292633439235375008653565194139598959,182651085895739159611544028051033954835980804142498541835594498168,18375823571499401479770734400748049049147408493,18375823571499401479770734400748018262823927926,41530051043090558306419451808164507616289346805563503,171132561056231666204508540239819374032478365591093693419117084781,358890992684198351244117494181017679890960069356093321341288232567963757,3310185146202486990197856839844549527063395318482692411445352864523095987143731162826932328,10378616207007581569746392292124973334644,10378616207007581569727945570041487949924,91802658151523121551182478706899233711977115684111583805556,21765535735758363704234157414456811028979122279,43774918628465233588782538751077194349118739659620467,403752322546769924304731750433691914414489823876796984833443022619279456,79248447572009185758333506431352985962475023867187635945568,7742956824657454511956318923814547708781627226174131122382169039603859410782705933984571542470752,421006690059250891097143695140917066809609715599597812568445437129785440,839493061075507520855370235839129965667347155426955459942090491728453699633248,91018015944868005415624299308479862754795154219907449618528,91018015570724656694342399756974592903473822180854263185504,80033088656230687610814220734090481631045705683825583980640,91018014074146266443651458333636699022498581066138634944608,18197418120334909699774667083190765414510493792,81602364090077357802283592532699828490939855109768301510752,43774916844405617705602520682488447646056418390311008,376145337159623361912698492388468032872923258503129083604288419640901728,3723957881593141820746691508245982495671109949404972261701025290226972580569300003874406496,41530051043090558306419451808164535286304302314815584,7742956665513927798097241316892216214588599199992503912193136464043409796016289409272493773946976,882915022071138124765372453842085820144227560863652118647196572824639041962080,90233375608932308976580008428965506433129796719669223096416,37788605781087166882797726435001178606952615065419872,91802656280803345044191614365910231084237604146364133933152,166196040322526725043969524243678063596587590643091508768591052896,348538364936483441850335885126143820542383599358076084550426633208594528,846730049398473916085087584128933697840465161678198612564186553338684774547552,91018012951712652162785828947459767547022670722609534992480,82387004051868278273799477919677025937730432309507471179872,400301477346956824698566919056352424534797759621257456523006554629210208,90233375608934093035855608268506975583308188893790917886048,167841544095212084885777211650720385374882549712431272192582352992,3723958154780933078993815348549031929600789542461701977153418488425042733009601494769467488,79248447572006866481683564677070781918793014781436403646560,190878607897710840194831257729729748984291347386754377891931226208,348538358354479336047783637559236661292520842545390999917957776140140640,42278337562126394882722636668977402652438790710231136,400301477346956824694077185134442593252847708572699835991927056798580832,38162750378648648629778066780632868089197520152952928,348538358354469920392561545711964376848906820579848583725870345019719776,40407615109529299628999473434303460201105905516806240,91018016693157914166177253055962971198019440249030815252576,400301455955399148798322214679042067742290137871126482889589276698214496,403752355456873624927459489802379276535130602047601608300036202864574560,91802655906658390669510632506423932130708194924539850784864,43774918628465233588782538751077369593187439915040864,37788603818620738706104457995284705495682434113470560,3692129528359153038004073583514481007015027167786146815651303681903408044680313940553498720,19446259085817177329131502603843663253859205216,348538358354470705026162880436335778493756426633483496118712640695435360,91802656280800312142504332077630959006909194449134567817312,527765786853485,2108367634755896306667880544]
noncomputable def AT:List Nat:=[4097048886990833845663497717809250,496979490635889,4746086071678939754579271075496042,2224424411981825894200115300,4097048886990833845681089920630886,8677205062005183289952466234080782975091,514571655708776,91802653661792946164417784946020646843673666288009024110708,1023794762284045172843,2263110111996501108962885748,8677204412967747145340641066502926106739,2243767400339812224105185397,488183414390896,4097048886990981419611689351905378,1069911684040970207347,510173600809065,2243767326552783152708845668,4137613512770042941672065802960995,9868193305663397248283467000068658167908,2224424448875353624042012778]
inductive E where
 | none
 | bool (b:Bool)
 | int (i:Int)
 | str (s:Str)
 | v (i:Nat)
 | g (i:Nat)
 | tup (es:List E)
 | list (es:List E)
 | dict (ks vs:List E)
 | bin (op:Operator) (l r:E)
 | neg (x:E)
 | not (x:E)
 | and (es:List E)
 | or (es:List E)
 | cmp (op:CmpOp) (l r:E)
 | cmp2 (o1 o2:CmpOp) (a b c:E)
 | ite (c a b:E)
 | sub (o i:E)
 | slice (o lo hi st:E)
 | attr (o:E) (n:Nat)
 | call (f:E) (args:List E)
 | sorted (x f:E)
 | meth (o:E) (n:Nat) (args:List E)
 | comp (elt:E) (x:Nat) (src:E) (c:List E)
 | mu (l:Nat) (e:E)
 deriving Inhabited
inductive Pat where
 | v (i:Nat)
 | tup (ps:List Pat)
 deriving Inhabited
inductive S where
 | assign (p:Pat) (e:E)
 | setattr (o:E) (n:Nat) (e:E)
 | setitem (o i e:E)
 | expr (e:E)
 | ret (e:E)
 | ite (c:E) (a b:List S)
 | for_ (p:Pat) (e:E) (body:List S)
 | while_ (c:E) (body:List S)
 | raise (e:E)
 | try_ (body:List S) (cls:E) (x:Option Nat) (h:List S)
 | pass
 deriving Inhabited
noncomputable def okName (x:Str):Bool:=!(Nat.beq (code x) 35917881366025429935618926129718285898815186866798688) && !(Nat.beq (code x) 694752866707914342600158099379000926982518397911170979246594950709587596017760)
theorem AL {x:Str} (h:okName x=true):(x == ("__debug__":Str))=false:=by
 cases q:x == ("__debug__":Str) with
 | false=>rfl
 | true =>
  rw [eq_of_beq q] at h
  have:okName ("__debug__":Str)=false:=by decide +kernel
  rw [this] at h;cases h
theorem IR {x:Str} (h:okName x=true):(x == ("__classdict__":Str))=false:=by
 cases q:x == ("__classdict__":Str) with
 | false=>rfl
 | true =>
  rw [eq_of_beq q] at h
  have:okName ("__classdict__":Str)=false:=by decide +kernel
  rw [this] at h;cases h
noncomputable def relab (sc names:List (Str×NameKind)):List (Str×NameKind) :=
 names.map fun (n,k)=>if (k == .free && sc.lookup n == some .cell) then (n,.cell) else (n,k)
noncomputable def A4:PySem.Expr->Bool
 | .Starred ..=>false
 | _=>true
noncomputable def CN:PySem.Expr->Bool
 | .Call (.Name _ _) [] [] _=>false
 | _=>true
noncomputable def Bn:PySem.Expr->Bool
 | .Slice ..=>false
 | _=>true
noncomputable def AO:PySem.Expr->Bool
 | .Set ..=>false
 | _=>true
noncomputable def C7 (tb:List Nat) (sc:List (Str×NameKind)) (x:Str) (p:Str×NameKind):Bool:=match p.2 with
 | .local | .cell=>(ixS tb p.1).isNone || ixS tb p.1 == ixS tb x
 | .free=>sc.lookup p.1 == some .cell
 | .globalImplicit=>true
 | .globalExplicit=>false
end Mine
end
section
namespace Mine
open PySem
section
variable {M:Model}{A:Around}{E:Value->Shared->Prop}{s:Shared}
end
end Mine
end
section
namespace Mine
open PySem
theorem Em:entryFor table "proto.unchain"=some Builtin.«proto.unchain»:=entryFor_of_tree (by kernel_rfl)
section
variable {prog:Program}{w:World}{A:Around}{E:Value->Shared->Prop}{s:Shared}
theorem Hv {α:Type}{e x:Addr}{o oe:Obj}{vs ws:Array Value}{Q:α->Shared->Prop} (hh:A.handled=some (.ref x)) (ne:x≠e) (ho:s.heap.get? x=some o) (hd:o.data=.fields vs) (h2:vs[2]?=some .none)
  (he:s.heap.get? e=some oe) (hde:oe.data=.fields ws) (hz:2<ws.size) (h:E (.ref e) { s with heap:=s.heap.update e (Obj.mapFields (·.setIfInBounds 2 (.ref x))) }):wpAny (model prog w) A (raiseNew (.ref e):Sem α) Q E s:=by
 unfold raiseNew
 refine wpAny_bind (wpAny_handled ?_)
 rw [hh]
 dsimp only
 have q:(Value.ref x != Value.ref e)=true:=by simp [ne]
 rw [if_pos q]
 refine wpAny_bind (wpAny_holding (wpAny_runValue (codeAny_builtin Em ?_)))
 unfold Builtin.«proto.unchain»
 refine wpAny_bind (wpAny_field ho hd h2 ?_)
 rw [if_pos (show ((Value.none == Value.none)=true) from by decide)]
 refine wpAny_bind (wpAny_pure (wpAny_pure ?_))
 unfold updateField
 refine wpAny_bind (wpAny_bind (wpAny_load he ?_))
 rw [hde]
 dsimp only
 rw [if_pos hz]
 exact wpAny_update he (wpAny_throw h)
theorem IG {it:Addr}{y left step:Int}{Q:Option Value->Shared->Prop}{hx:Option Addr} (hh:A.handled=hx.map Value.ref) (hxo:∀ x,hx=some x->∃ o vs,s.heap.get? x=some o/\o.data=.fields vs/\vs[2]?=some Value.none)
  (hit:IsRangeIter s.heap it y left step) (hleft:left<=0) (hQ:∀ h',Heap.ExtBut it s.heap h'->Q Option.none { s with heap:=h' }):wpAny (model prog w) A (pyNext (.ref it)) Q E s:=by
 cases hx with
 | none=>exact wpAny_pyNext_range_end hh hit hleft hQ
 | some x =>
 refine X2ppp (hxo x rfl) fun o vs ho hd h2=>?_
 have hT:s.TypeIs (.ref it) "range_iterator":=⟨_,hit,rfl⟩
 unfold pyNext
 refine wpAny_bind (wpAny_attempt (wpAny_callSpecial?_slot (name:=Str.ofString "__next__") hT F.slot_range_iterator_next
  (wpAny_call_entry F.slot_range_iterator_next hT F.entry_range_iterator_next ?_ (F.args_range_iterator_next_1 _))))
 show wpAny _ _ (field (.ref it) 0 >>= _) _ _ s
 refine wpAny_bind (wpAny_field hit rfl (x:=rawInt y) rfl ?_)
 show wpAny _ _ (field (.ref it) 1 >>= _) _ _ s
 refine wpAny_bind (wpAny_field hit rfl (x:=rawInt left) rfl ?_)
 show wpAny _ _ (field (.ref it) 2 >>= _) _ _ s
 refine wpAny_bind (wpAny_field hit rfl (x:=rawInt step) rfl ?_)
 show wpAny _ _ (if left<=0 then _ else _) _ _ s
 rw [if_pos hleft]
 refine wpAny_bind (wpAny_rule ?_)
 refine wpAny_bind ?_
 show wpAny _ _ (newExc (.type "StopIteration") [] >>= _) _ _ _
 refine wpAny_bind ?_
 simp only [newExc,newTuple]
 refine wpAny_bind (wpAny_newObj_type ?_ (by size_fits))
 refine wpAny_bind (m:=firstArgMember _ _) (wpAny_of_eq (a:=Value.none) (by first | rfl | (simp only [firstArgMember];rfl)) ?_)
 refine wpAny_newObj_type ?_ (by size_fits)
 have lx:x<s.heap.objs.size:=Heap.lt_size ho
 refine Hv (x:=x) (o:=o) (vs:=vs) (hh:=hh) ?_ (Heap.get?_push_of_some _ (Heap.get?_push_of_some _ ho)) hd h2 (Heap.get?_push_size _ rfl) rfl (Nat.le_of_ble_eq_true rfl) ?_
 ·rw [Heap.size_push];exact Nat.ne_of_lt (Nat.lt_succ_of_lt lx)
 refine wpAny_bind (wpAny_isInstance (T := "StopIteration") (b:=true) ⟨_,Heap.get?_update_self _ (Heap.get?_push_size _ rfl) rfl,rfl⟩ isSubtype_stop ?_)
 refine wpAny_pure (hQ _ fun b ob ne e=>?_)
 have lb:b<s.heap.objs.size:=Heap.lt_size e
 rw [Heap.get?_update_other _ _ (by rw [Heap.size_push];exact Nat.ne_of_gt (Nat.lt_succ_of_lt lb))]
 exact Heap.get?_push_of_some _ (Heap.get?_push_of_some _ e)
end
end Mine
end
section
namespace Mine
open PySem
noncomputable abbrev Ab:=Int×Int
set_option genInjectivity true in
inductive AV where
 | none
 | bool (b:Bool)
 | int (i:Int)
 | str (s:Str)
 | tup (l:List AV)
 | list (l:List AV)
 | dict (l:List (Ab×AV))
 | inst (fs:List (Str×AV))
 | loc (a:Addr) (i:Nat)
 | exc (c:Nat)
 | range (a b c:Int)
 | nums (l:List Int)
 | cls (c:Nat)
 deriving Inhabited
inductive AObj where
 | list (l:List AV)
 | dict (l:List (Ab×AV))
 | inst (dx:Addr)
 | attrs (fs:List (Str×AV))
theorem Ae {α:Type}{x:Option α}{o:α} (q:x=Option.none) (e:x=some o):False:=by rw [q] at e;cases e
theorem Aw {α β:Type}{o:Option α}{f:α->Option β}{b:β} (h:o.bind f=some b):∃ a,o=some a/\f a=some b:=by
 cases o with
 | none=>cases h
 | some a=>exact ⟨a,rfl,h⟩
noncomputable def one? {α:Type}:List α->Option α
 | []=>Option.none
 | a::r=>(match r with
  | []=>some a
  | _::_=>Option.none)
noncomputable def two? {α:Type}:List α->Option (α×α)
 | []=>Option.none
 | a::r=>(one? r).bind fun b=>some (a,b)
theorem one?_out {α:Type}{l:List α}{a:α} (h:one? l=some a):l=[a]:=by
 cases l with
 | nil=>cases h
 | cons b r =>
  cases r with
  | nil=>cases h;rfl
  | cons _ _=>cases h
theorem two?_out {α:Type}{l:List α}{p:α×α} (h:two? l=some p):l=[p.1,p.2]:=by
 cases l with
 | nil=>cases h
 | cons a r =>
  refine X1pp (Aw h) fun b h1 h2=>?_
  cases h2
  rw [one?_out h1]
noncomputable def AV.int?:AV->Option Int
 | .int x=>some x
 | _=>Option.none
noncomputable def AV.tup?:AV->Option (List AV)
 | .tup l=>some l
 | _=>Option.none
theorem AV.int?_out {a:AV}{x:Int} (h:a.int?=some x):a=.int x:=by
 cases a with
 | int y=>cases h;rfl
 | _=>exact (Ae rfl h).elim
theorem AV.tup?_out {a:AV}{l:List AV} (h:a.tup?=some l):a=.tup l:=by
 cases a with
 | tup y=>cases h;rfl
 | _=>exact (Ae rfl h).elim
noncomputable def AObj.list?:AObj->Option (List AV)
 | .list l=>some l
 | _=>Option.none
noncomputable def AObj.dict?:AObj->Option (List (Ab×AV))
 | .dict l=>some l
 | _=>Option.none
noncomputable def AObj.inst?:AObj->Option Addr
 | .inst d=>some d
 | _=>Option.none
noncomputable def AObj.attrs?:AObj->Option (List (Str×AV))
 | .attrs l=>some l
 | _=>Option.none
theorem AObj.list?_out {o:AObj}{l:List AV} (h:o.list?=some l):o=.list l:=by
 cases o with
 | list y=>cases h;rfl
 | _=>exact (Ae rfl h).elim
theorem AObj.dict?_out {o:AObj}{l:List (Ab×AV)} (h:o.dict?=some l):o=.dict l:=by
 cases o with
 | dict y=>cases h;rfl
 | _=>exact (Ae rfl h).elim
theorem AObj.inst?_out {o:AObj}{d:Addr} (h:o.inst?=some d):o=.inst d:=by
 cases o with
 | inst y=>cases h;rfl
 | _=>exact (Ae rfl h).elim
theorem AObj.attrs?_out {o:AObj}{l:List (Str×AV)} (h:o.attrs?=some l):o=.attrs l:=by
 cases o with
 | attrs y=>cases h;rfl
 | _=>exact (Ae rfl h).elim
noncomputable def int2? (a b:AV):Option Ab:=a.int?.bind fun x=>b.int?.bind fun y=>some (x,y)
noncomputable def spot? (a:AV):Option Ab:=a.tup?.bind fun l=>(two? l).bind fun p=>int2? p.1 p.2
theorem int2?_out {a b:AV}{k:Ab} (h:int2? a b=some k):a=.int k.1/\b=.int k.2:=by
 refine X1pp (Aw h) fun x h1 h=>?_
 refine X1pp (Aw h) fun y h2 h=>?_
 cases h
 exact ⟨AV.int?_out h1,AV.int?_out h2⟩
theorem spot?_out {a:AV}{k:Ab} (h:spot? a=some k):a=.tup [.int k.1,.int k.2]:=by
 refine X1pp (Aw h) fun l h1 h=>?_
 refine X1pp (Aw h) fun p h2 h=>?_
 refine Ad (int2?_out h) fun e1 e2=>?_
 rw [AV.tup?_out h1,two?_out h2,e1,e2]
noncomputable abbrev Store:=Addr->Option AObj
noncomputable def Dom (σ:Store) (a:Addr):Prop:=σ a≠Option.none
noncomputable def Store.set (σ:Store) (a:Addr) (o:AObj):Store:=fun b=>if b=a then some o else σ b
theorem Store.set_self (σ:Store) (a:Addr) (o:AObj):(σ.set a o) a=some o:=if_pos rfl
theorem Store.set_ne (σ:Store) {a b:Addr} (o:AObj) (h:b≠a):(σ.set a o) b=σ b:=if_neg h
noncomputable def Gk (k:Ab):Int:=reduceHash (Builtin.Tuple.tupleHashOf [hashInt k.1,hashInt k.2])
noncomputable abbrev Be (vs:Array Value) (n:Nat):Obj:={ cls:=.type "tuple",data:=.seq vs n }
noncomputable abbrev Ax (vs:Array Value) (n:Nat):Obj:={ cls:=.type "list",data:=.seq vs n }
noncomputable abbrev Gq (a b c:Int) (t u v:Tok):Obj:={ cls:=.type "range",data:=.fields #[.int a t,.int b u,.int c v] }
noncomputable abbrev AP (es:Array DictEntry) (n:Nat):Obj:={ cls:=.type "dict",data:=.dict es n }
noncomputable abbrev CA (C:Value) (dx:Addr):Obj:={ cls:=C,dict:=some dx,data:=.plain }
noncomputable abbrev Bv:Nat:=29
variable {cv:Nat->Value}
mutual
inductive Rep (cv:Nat->Value) (h:Heap) (D:Addr->Prop):AV->Value->Prop
 | none:Rep cv h D .none .none
 | bool (b:Bool):Rep cv h D (.bool b) (.bool b)
 | int (i:Int) (t:Tok):Rep cv h D (.int i) (.int i t)
 | str (s:Str) (t:Tok):Rep cv h D (.str s) (.str s t)
 | tup {l:List AV}{a:Addr}{vs:List Value}{n:Nat}:h.get? a=some (Be vs.toArray n)->¬ D a->RepL cv h D l vs->Rep cv h D (.tup l) (.ref a)
 | list {l:List AV}{a:Addr}{vs:List Value}{n:Nat}:h.get? a=some (Ax vs.toArray n)->¬ D a->RepL cv h D l vs->Rep cv h D (.list l) (.ref a)
 | dict {l:List (Ab×AV)}{a:Addr}{es:List DictEntry}{n:Nat}:h.get? a=some (AP es.toArray n)->¬ D a->(a == sysModules)=false->(l.map (·.1)).Nodup->RepD cv h D l es->Rep cv h D (.dict l) (.ref a)
 | inst {fs:List (Str×AV)}{a dx:Addr}{es:List DictEntry}{n:Nat}:h.get? a=some (CA (cv Bv) dx)->(∃ C,cv Bv=.ref C)->h.get? dx=some (AP es.toArray n)->¬ D a->¬ D dx->RepF cv h D fs es->Rep cv h D (.inst fs) (.ref a)
 | loc (a:Addr) (i:Nat):Rep cv h D (.loc a i) (.ref a)
 | exc {c:Nat}{a:Addr}{o:Obj}:h.get? a=some o->o.cls=cv c->((∃ vs,o.data=.fields vs)/\o.dict=Option.none)->¬ D a->(∃ C,cv c=.ref C)->Rep cv h D (.exc c) (.ref a)
 | range {a b c:Int}{r:Addr}{t u v:Tok}:h.get? r=some (Gq a b c t u v)->¬ D r->Rep cv h D (.range a b c) (.ref r)
 | cls (c:Nat):Rep cv h D (.cls c) (cv c)
 | nums {l:List Int}{a:Addr}{o:Obj}{vs:List Value}{n:Nat}:h.get? a=some o->o.cls=.type "list"->o.data=.seq vs.toArray n->¬ D a->(vs.length=l.length/\∀ (i:Nat) (x:Int),l[i]?=some x->∃ t,vs[i]?=some (.int x t))->Rep cv h D (.nums l) (.ref a)
inductive RepL (cv:Nat->Value) (h:Heap) (D:Addr->Prop):List AV->List Value->Prop
 | nil:RepL cv h D [] []
 | cons {x:AV}{v:Value}{l:List AV}{vs:List Value}:Rep cv h D x v->RepL cv h D l vs->RepL cv h D (x::l) (v::vs)
inductive RepD (cv:Nat->Value) (h:Heap) (D:Addr->Prop):List (Ab×AV)->List DictEntry->Prop
 | nil:RepD cv h D [] []
 | cons {k:Ab}{x:AV}{l:List (Ab×AV)}{t:Addr}{tx ty:Tok}{n:Nat}{v:Value}{es:List DictEntry} :
   h.get? t=some (Be #[.int k.1 tx,.int k.2 ty] n)->¬ D t->Rep cv h D x v->RepD cv h D l es->RepD cv h D ((k,x)::l) (⟨Gk k,.ref t,v⟩::es)
inductive RepF (cv:Nat->Value) (h:Heap) (D:Addr->Prop):List (Str×AV)->List DictEntry->Prop
 | nil:RepF cv h D [] []
 | cons {n:Str}{x:AV}{l:List (Str×AV)}{hsh:Int}{t:Tok}{v:Value}{es:List DictEntry} :
   Rep cv h D x v->RepF cv h D l es->RepF cv h D ((n,x)::l) (⟨hsh,.str n t,v⟩::es)
end
structure Ext (D:Addr->Prop) (h h':Heap):Prop where
 obj:∀ b o,h.get? b=some o->¬ D b->h'.get? b=some o
theorem Ext.refl (D:Addr->Prop) (h:Heap):Ext D h h:=⟨fun zz zz e zz=>e⟩
theorem Ext.of_keeps {D:Addr->Prop}{h h':Heap} (k:∀ b o,h.get? b=some o->h'.get? b=some o):Ext D h h':=⟨fun b o e zz=>k b o e⟩
theorem Ext.of_but {D:Addr->Prop}{h h':Heap} (k:∀ b o,¬ D b->h.get? b=some o->h'.get? b=some o):Ext D h h':=⟨fun b o e d=>k b o d e⟩
theorem Ext.trans {D D':Addr->Prop}{h h' h'':Heap} (x:Ext D h h') (y:Ext D' h' h'') (hD:∀ b,D' b->D b\/h.get? b=Option.none):Ext D h h'' :=
 ⟨fun b o e d=>y.obj b o (x.obj b o e d) fun d'=>(hD b d').elim d fun q=>Ae q e⟩
noncomputable def RepV (cv:Nat->Value) (h:Heap) (D:Addr->Prop) (a:AV) (v:Value):Prop:=match a with
 | .none=>v=.none
 | .bool b=>v=.bool b
 | .int i=>∃ t,v=.int i t
 | .str s=>∃ t,v=.str s t
 | .tup l=>∃ a vs n,v=.ref a/\h.get? a=some (Be (List.toArray vs) n)/\¬ D a/\RepL cv h D l vs
 | .list l=>∃ a vs n,v=.ref a/\h.get? a=some (Ax (List.toArray vs) n)/\¬ D a/\RepL cv h D l vs
 | .dict l=>∃ a es n,v=.ref a/\h.get? a=some (AP (List.toArray es) n)/\¬ D a/\(a == sysModules)=false/\(l.map (·.1)).Nodup/\RepD cv h D l es
 | .inst fs=>∃ a dx es n,v=.ref a/\h.get? a=some (CA (cv Bv) dx)/\(∃ C,cv Bv=.ref C)/\h.get? dx=some (AP (List.toArray es) n)/\¬ D a/\¬ D dx/\RepF cv h D fs es
 | .loc a _=>v=.ref a
 | .exc c=>∃ a o,v=.ref a/\h.get? a=some o/\o.cls=cv c/\((∃ vs,o.data=.fields vs)/\o.dict=Option.none)/\¬ D a/\(∃ C,cv c=.ref C)
 | .range a b c=>∃ r t u w,v=.ref r/\h.get? r=some (Gq a b c t u w)/\¬ D r
 | .cls c=>v=cv c
 | .nums l=>∃ a o vs n,v=.ref a/\h.get? a=some o/\o.cls=.type "list"/\o.data=.seq (List.toArray vs) n/\¬ D a/\(vs.length=l.length/\∀ (i:Nat) (x:Int),l[i]?=some x->∃ t,vs[i]?=some (.int x t))
theorem Rep.inv {h:Heap}{D:Addr->Prop}{a:AV}{v:Value} (r:Rep cv h D a v):RepV cv h D a v:=by
 induction r using Rep.casesOn with
 | none=>exact rfl
 | bool b=>exact rfl
 | int i t=>exact ⟨t,rfl⟩
 | str s t=>exact ⟨t,rfl⟩
 | tup a b c=>exact ⟨_,_,_,rfl,a,b,c⟩
 | list a b c=>exact ⟨_,_,_,rfl,a,b,c⟩
 | dict a b c d e=>exact ⟨_,_,_,rfl,a,b,c,d,e⟩
 | inst a b c d e f=>exact ⟨_,_,_,_,rfl,a,b,c,d,e,f⟩
 | loc a i=>exact rfl
 | exc a b c d e=>exact ⟨_,_,rfl,a,b,c,d,e⟩
 | range a b=>exact ⟨_,_,_,_,rfl,a,b⟩
 | cls c=>exact rfl
 | nums a b c d e=>exact ⟨_,_,_,_,rfl,a,b,c,d,e⟩
noncomputable def RepLV (cv:Nat->Value) (h:Heap) (D:Addr->Prop) (l:List AV) (vs:List Value):Prop:=match l with
 | []=>vs=[]
 | x::l=>∃ v r,vs=v::r/\Rep cv h D x v/\RepL cv h D l r
theorem RepL.inv {h:Heap}{D:Addr->Prop}{l:List AV}{vs:List Value} (r:RepL cv h D l vs):RepLV cv h D l vs:=by
 induction r using RepL.casesOn with
 | nil=>exact rfl
 | cons a b=>exact ⟨_,_,rfl,a,b⟩
noncomputable def RepDV (cv:Nat->Value) (h:Heap) (D:Addr->Prop) (l:List (Ab×AV)) (es:List DictEntry):Prop:=match l with
 | []=>es=[]
 | p::l=>∃ t tx ty n v r,es=⟨Gk p.1,.ref t,v⟩::r/\h.get? t=some (Be #[.int p.1.1 tx,.int p.1.2 ty] n)/\¬ D t/\Rep cv h D p.2 v/\RepD cv h D l r
theorem RepD.inv {h:Heap}{D:Addr->Prop}{l:List (Ab×AV)}{es:List DictEntry} (r:RepD cv h D l es):RepDV cv h D l es:=by
 induction r using RepD.casesOn with
 | nil=>exact rfl
 | cons a b c d=>exact ⟨_,_,_,_,_,_,rfl,a,b,c,d⟩
noncomputable def RepFV (cv:Nat->Value) (h:Heap) (D:Addr->Prop) (l:List (Str×AV)) (es:List DictEntry):Prop:=match l with
 | []=>es=[]
 | p::l=>∃ hsh t v r,es=⟨hsh,.str p.1 t,v⟩::r/\Rep cv h D p.2 v/\RepF cv h D l r
theorem RepF.inv {h:Heap}{D:Addr->Prop}{l:List (Str×AV)}{es:List DictEntry} (r:RepF cv h D l es):RepFV cv h D l es:=by
 induction r using RepF.casesOn with
 | nil=>exact rfl
 | cons a b=>exact ⟨_,_,_,_,rfl,a,b⟩
noncomputable def Cw (o:Obj):Prop:=(∃ T,o.cls=.type T/\T ≠ "frame"/\T ≠ "range")/\∃ vs,o.data=.fields vs
theorem B4 {o:Obj} (hd:∀ vs,o.data≠.fields vs):¬ Cw o:=fun q=>q.2.elim hd
theorem BF {vs:Array Value}{n:Nat}:¬ Cw (Be vs n):=B4 fun zz h=>by cases h
theorem GN {vs:Array Value}{n:Nat}:¬ Cw (Ax vs n):=B4 fun zz h=>by cases h
theorem CU {vs:Array DictEntry}{n:Nat}:¬ Cw (AP vs n):=B4 fun zz h=>by cases h
theorem GO {C:Value}{dx:Addr}:¬ Cw (CA C dx):=B4 fun zz h=>by cases h
theorem GL {a b c:Int}{t u v:Tok}:¬ Cw (Gq a b c t u v):=fun q=>by
 obtain ⟨⟨T,hT,_,hn⟩,_⟩:=q
 exact hn (Value.type.inj hT).symm
theorem GP {o:Obj}{v:Value} (c:o.cls=v) (n:∃ C,v=.ref C):¬ Cw o:=fun q=>by
 obtain ⟨⟨T,hT,_⟩,_⟩:=q
 refine X1p (n) fun C hC=>?_
 rw [hT,hC] at c;cases c
theorem GM {o:Obj}{vs:Array Value}{n:Nat} (f:o.data=.seq vs n):¬ Cw o:=B4 fun zz h=>by rw [f] at h;cases h
section
variable {D D':Addr->Prop}{h h':Heap} (k:∀ b o,h.get? b=some o->¬ Cw o->¬ D b->h'.get? b=some o/\¬ D' b)
include k
theorem Rep.turn {av:AV}{v:Value} (r:Rep cv h D av v):Rep cv h' D' av v :=
 Rep.rec (motive_1:=fun a v zz=>Rep cv h' D' a v) (motive_2:=fun l vs zz=>RepL cv h' D' l vs) (motive_3:=fun l es zz=>RepD cv h' D' l es) (motive_4:=fun l es zz=>RepF cv h' D' l es)
  .none .bool .int .str (fun e d zz r=>.tup (k _ _ e BF d).1 (k _ _ e BF d).2 r) (fun e d zz r=>.list (k _ _ e GN d).1 (k _ _ e GN d).2 r) (fun e d sm n zz r=>.dict (k _ _ e CU d).1 (k _ _ e CU d).2 sm n r)
  (fun e nf f d d₂ zz r=>.inst (k _ _ e GO d).1 nf (k _ _ f CU d₂).1 (k _ _ e GO d).2 (k _ _ f CU d₂).2 r) .loc (fun e c f d n=>.exc (k _ _ e (GP c n) d).1 c f (k _ _ e (GP c n) d).2 n)
  (fun e d=>.range (k _ _ e GL d).1 (k _ _ e GL d).2) .cls (fun e c f d r=>.nums (k _ _ e (GM f) d).1 c f (k _ _ e (GM f) d).2 r)
  .nil (fun zz zz r rs=>.cons r rs) .nil (fun e d zz zz r rs=>.cons (k _ _ e BF d).1 (k _ _ e BF d).2 r rs) .nil (fun zz zz r rs=>.cons r rs) r
theorem RepL.turn {av:List AV}{v:List Value} (r:RepL cv h D av v):RepL cv h' D' av v:=by
 induction av generalizing v with
 | nil=>rw [show v=[] from r.inv];exact .nil
 | cons x l ih=>refine X2ppp (r.inv) fun u us e a b=>?_;rw [e];exact .cons (a.turn k) (ih b)
theorem RepD.turn {av:List (Ab×AV)}{v:List DictEntry} (r:RepD cv h D av v):RepD cv h' D' av v:=by
 induction av generalizing v with
 | nil=>rw [show v=[] from r.inv];exact .nil
 | cons x l ih=>refine X6ppppp (r.inv) fun t tx ty n u us e a b c d=>?_;rw [e];exact .cons (k _ _ a BF b).1 (k _ _ a BF b).2 (c.turn k) (ih d)
theorem RepF.turn {av:List (Str×AV)}{v:List DictEntry} (r:RepF cv h D av v):RepF cv h' D' av v:=by
 induction av generalizing v with
 | nil=>rw [show v=[] from r.inv];exact .nil
 | cons x l ih=>refine X4ppp (r.inv) fun t u us rr e a b=>?_;rw [e];exact .cons (a.turn k) (ih b)
end
theorem Ext.turn {D D':Addr->Prop}{h h':Heap} (x:Ext D h h') (hD:∀ b,D' b->D b\/h.get? b=Option.none) (b:Addr) (o:Obj) (e:h.get? b=some o) (zz:¬ Cw o) (d:¬ D b):h'.get? b=some o/\¬ D' b :=
 ⟨x.obj b o e d,fun q=>(hD b q).elim d fun q=>Ae q e⟩
theorem Rep.ext {D D':Addr->Prop}{h h':Heap} (x:Ext D h h') (hD:∀ b,D' b->D b\/h.get? b=Option.none) {av:AV}{v:Value} (r:Rep cv h D av v):Rep cv h' D' av v:=r.turn (x.turn hD)
theorem RepL.ext {D D':Addr->Prop}{h h':Heap} (x:Ext D h h') (hD:∀ b,D' b->D b\/h.get? b=Option.none) {av:List AV}{v:List Value} (r:RepL cv h D av v):RepL cv h' D' av v:=r.turn (x.turn hD)
theorem RepD.ext {D D':Addr->Prop}{h h':Heap} (x:Ext D h h') (hD:∀ b,D' b->D b\/h.get? b=Option.none) {av:List (Ab×AV)}{v:List DictEntry} (r:RepD cv h D av v):RepD cv h' D' av v:=r.turn (x.turn hD)
theorem RepF.ext {D D':Addr->Prop}{h h':Heap} (x:Ext D h h') (hD:∀ b,D' b->D b\/h.get? b=Option.none) {av:List (Str×AV)}{v:List DictEntry} (r:RepF cv h D av v):RepF cv h' D' av v:=r.turn (x.turn hD)
inductive RepO (cv:Nat->Value) (h:Heap) (D:Addr->Prop):AObj->Addr->Prop
 | list {l:List AV}{a:Addr}{vs:List Value}{n:Nat}:h.get? a=some (Ax vs.toArray n)->RepL cv h D l vs->RepO cv h D (.list l) a
 | dict {l:List (Ab×AV)}{a:Addr}{es:List DictEntry}{n:Nat}:h.get? a=some (AP es.toArray n)->(a == sysModules)=false->(l.map (·.1)).Nodup->RepD cv h D l es->RepO cv h D (.dict l) a
 | inst {dx a:Addr}:h.get? a=some (CA (cv Bv) dx)->(∃ C,cv Bv=.ref C)->RepO cv h D (.inst dx) a
 | attrs {fs:List (Str×AV)}{a:Addr}{es:List DictEntry}{n:Nat}:h.get? a=some (AP es.toArray n)->RepF cv h D fs es->RepO cv h D (.attrs fs) a
noncomputable def RepOV (cv:Nat->Value) (h:Heap) (D:Addr->Prop) (o:AObj) (a:Addr):Prop:=match o with
 | .list l=>∃ vs n,h.get? a=some (Ax (List.toArray vs) n)/\RepL cv h D l vs
 | .dict l=>∃ es n,h.get? a=some (AP (List.toArray es) n)/\(a == sysModules)=false/\(l.map (·.1)).Nodup/\RepD cv h D l es
 | .inst dx=>h.get? a=some (CA (cv Bv) dx)/\(∃ C,cv Bv=.ref C)
 | .attrs fs=>∃ es n,h.get? a=some (AP (List.toArray es) n)/\RepF cv h D fs es
theorem RepO.inv {h:Heap}{D:Addr->Prop}{o:AObj}{a:Addr} (r:RepO cv h D o a):RepOV cv h D o a:=by
 induction r with
 | list a b=>exact ⟨_,_,a,b⟩
 | dict a b c d=>exact ⟨_,_,a,b,c,d⟩
 | inst a b=>exact ⟨a,b⟩
 | attrs a b=>exact ⟨_,_,a,b⟩
theorem RepO.there {h:Heap}{D:Addr->Prop}{o:AObj}{a:Addr} (r:RepO cv h D o a):∃ ob,h.get? a=some ob/\ob.cls≠.type "frame":=by
 induction r with
 | list e _=>exact ⟨_,e,by show Value.type "list"≠.type "frame";decide⟩
 | dict e _ _ _=>exact ⟨_,e,by show Value.type "dict"≠.type "frame";decide⟩
 | inst e nf=>exact ⟨_,e,by refine X1p (nf) fun C q=>?_;show cv Bv≠_;rw [q];exact nofun⟩
 | attrs e _=>exact ⟨_,e,by show Value.type "dict"≠.type "frame";decide⟩
structure Sta (prog:Program) (w:World) where
 cv:Nat->Value
 g:Heap
 K:W.Frag
 X:K.In g
 gens:Array GenState
 drawn:Drawn
 os:OsState
 mg:Str->Option Value
 mb:Str->Option Value
 ng:g.Ns mainGlobals mg
 nb:g.Ns builtinsNs mb
 lim:g.NoLimit
 sm:∃ o,g.get? sysModules=some o
 hx:Option Addr
 hxo:∀ x,hx=some x->∃ o vs,g.get? x=some o/\o.data=.fields vs/\vs[2]?=some Value.none
theorem Ext.mono {D D':Addr->Prop}{h h':Heap} (x:Ext D h h') (k:∀ a,D a->D' a):Ext D' h h':=⟨fun b o e d=>x.obj b o e fun q=>d (k b q)⟩
noncomputable def DN (N:Addr->Prop) (σ:Store) (a:Addr):Prop:=Dom σ a\/N a
noncomputable def Own (env:Env) (a:Addr):Prop:=a=env.locals\/∃ x,env.cells.lookup x=some a
noncomputable abbrev LocAt (cv:Nat->Value) (h:Heap) (D:Addr->Prop) (mc cm:Str->Option Value) (cells:List (Str×Addr)) (k:Option NameKind) (x:Str) (av:AV):Prop:=match k with
 | some .local=>∃ v,mc x=some v/\Rep cv h D av v
 | some .cell | some .free=>∃ v c,cells.lookup x=some c/\cm x=some v/\Rep cv h D av v
 | _=>True
theorem LocAt.map {h h':Heap}{D D':Addr->Prop}{mc cm mc' cm':Str->Option Value}{cells:List (Str×Addr)}{k:Option NameKind}{x:Str}{av:AV} (l:LocAt cv h D mc cm cells k x av) (r:∀ {v},Rep cv h D av v->Rep cv h' D' av v) (h1:∀ v,mc x=some v->mc' x=some v) (h2:∀ v,cm x=some v->cm' x=some v):LocAt cv h' D' mc' cm' cells k x av:=by
 cases k with
 | none=>exact trivial
 | some k =>
  cases k with
  | «local»=>refine X1pp (l) fun v a b=>?_;exact ⟨v,h1 v a,r b⟩
  | cell=>refine X2ppp (l) fun v c a b d=>?_;exact ⟨v,c,a,h2 v b,r d⟩
  | free=>refine X2ppp (l) fun v c a b d=>?_;exact ⟨v,c,a,h2 v b,r d⟩
  | _=>exact trivial
inductive Loc (cv:Nat->Value) (g:Heap) (tb:List Nat) (env:Env) (m:Nat->Option AV) (N:Addr->Prop) (σ:Store) (h:Heap):Prop
 | mk (mc cm:Str->Option Value) (ns:h.Ns env.locals mc) (cell:∀ x c,env.cells.lookup x=some c->h.IsCell c (cm x)) (own:∀ a,Own env a->¬ Dom σ a/\g.get? a=Option.none)
  (apart:∀ x y c,env.cells.lookup x=some c->env.cells.lookup y=some c->x=y) (cl:∀ x c,env.cells.lookup x=some c->c≠env.locals)
  (names:∀ x i av,ixS tb x=some i->m i=some av->LocAt cv h (DN N σ) mc cm env.cells (env.kindOf x) x av):Loc cv g tb env m N σ h
structure Step (P O:Addr->Prop) (σ:Store) (s:Shared) (σ':Store) (s':Shared):Prop where
 ext:Ext (fun a=>Dom σ a\/O a\/P a) s.heap s'.heap
 frm:∀ b o,s.heap.get? b=some o->P b->¬ O b->¬ Dom σ b->∃ o',s'.heap.get? b=some o'/\o'.cls=o.cls/\o'.data=o.data/\o'.dict=o.dict
 dom:∀ b,Dom σ' b->Dom σ b\/s.heap.get? b=Option.none
 there:∀ b o,s.heap.get? b=some o->∃ o',s'.heap.get? b=some o'
noncomputable abbrev noO:Addr->Prop:=fun zz=>False
theorem Step.there' {P O:Addr->Prop}{σ σ':Store}{s s':Shared} (x:Step P O σ s σ' s') {b:Addr}{o:Obj} (e:s.heap.get? b=some o) (d:¬ Dom σ b) (ho:¬ O b):∃ o',s'.heap.get? b=some o'/\o'.cls=o.cls/\o'.data=o.data/\o'.dict=o.dict:=by
 by_cases f:P b
 ·exact x.frm b o e f ho d
 ·exact ⟨o,x.ext.obj b o e fun q=>q.elim d fun q=>q.elim ho f,rfl,rfl,rfl⟩
theorem Step.of_keeps {P O:Addr->Prop}{σ σ':Store}{s s':Shared} (k:∀ b o,s.heap.get? b=some o->s'.heap.get? b=some o) (d:∀ b,Dom σ' b->Dom σ b\/s.heap.get? b=Option.none):Step P O σ s σ' s' :=
 ⟨Ext.of_keeps k,fun b o e zz zz zz=>⟨o,k b o e,rfl,rfl,rfl⟩,d,fun b o e=>⟨o,k b o e⟩⟩
theorem Step.of_but {P O:Addr->Prop}{σ σ':Store}{s s':Shared} (k:∀ b o,¬ Dom σ b->¬ O b->s.heap.get? b=some o->s'.heap.get? b=some o) (d:∀ b,Dom σ' b->Dom σ b\/s.heap.get? b=Option.none)
  (t:∀ b o,s.heap.get? b=some o->∃ o',s'.heap.get? b=some o'):Step P O σ s σ' s' :=
 ⟨Ext.of_but fun b o q e=>k b o (fun z=>q (.inl z)) (fun z=>q (.inr (.inl z))) e,fun b o e zz n dd=>⟨o,k b o dd n e,rfl,rfl,rfl⟩,d,t⟩
theorem Step.over {P O:Addr->Prop}{σ₀ σ:Store}{s₀ s s':Shared} (z:Step P O σ₀ s₀ σ s) (k:∀ a,(∃ o,s₀.heap.get? a=some o)->∀ o,s.heap.get? a=some o->s'.heap.get? a=some o):Step P O σ₀ s₀ σ s' :=
 ⟨⟨fun a o e d=>k a ⟨o,e⟩ o (z.ext.obj a o e d)⟩,fun a o e d f g=>by
  refine X1pp (z.frm a o e d f g) fun o' e' r=>?_
  exact ⟨o',k a ⟨o,e⟩ o' e',r⟩,z.dom,fun a o e=>by
  refine X1p (z.there a o e) fun o' e'=>?_
  exact ⟨o',k a ⟨o,e⟩ o' e'⟩⟩
theorem Step.refl (P O:Addr->Prop) (σ:Store) (s:Shared):Step P O σ s σ s:=Step.of_keeps (fun zz zz e=>e) fun zz h=>.inl h
theorem Step.toks (P O:Addr->Prop) (σ:Store) (s:Shared) (t:Nat):Step P O σ s σ { s with toks:=t }:=Step.of_keeps (fun zz zz e=>e) fun zz h=>.inl h
theorem Step.new {P O:Addr->Prop}{σ σ₁:Store}{s s₁:Shared} (x:Step P O σ s σ₁ s₁) {b:Addr} (e:s₁.heap.get? b=Option.none):s.heap.get? b=Option.none:=by
 cases q:s.heap.get? b with
 | none=>rfl
 | some o=>refine X1p (x.there b o q) fun o' e'=>?_;rw [e] at e';cases e'
theorem Step.ndom {P O:Addr->Prop}{σ σ₁:Store}{s s₁:Shared} (x:Step P O σ s σ₁ s₁) {b:Addr}{o:Obj} (e:s.heap.get? b=some o) (d:¬ Dom σ b):¬ Dom σ₁ b:=fun q=>(x.dom b q).elim d fun z=>Ae z e
theorem Step.trans {P O:Addr->Prop}{σ σ₁ σ₂:Store}{s s₁ s₂:Shared} (x:Step P O σ s σ₁ s₁) (y:Step P O σ₁ s₁ σ₂ s₂):Step P O σ s σ₂ s₂ :=
 ⟨x.ext.trans y.ext fun b h=>h.elim (fun h=>(x.dom b h).imp .inl id) fun h=>.inl (.inr h),fun b o e n ho d=>by
   refine X1pppp (x.frm b o e n ho d) fun o' e' c' d' i'=>?_
   refine X1pppp (y.frm b o' e' n ho (x.ndom e d)) fun o'' e'' c'' d'' i''=>?_
   exact ⟨o'',e'',c''.trans c',d''.trans d',i''.trans i'⟩,
  fun b h=>(y.dom b h).elim (x.dom b) fun q=>.inr (x.new q),
  fun b o e=>by refine X1p (x.there b o e) fun o' e'=>?_;exact y.there b o' e'⟩
theorem Step.mono {P O O':Addr->Prop}{σ σ₁:Store}{s s₁:Shared} (x:Step P O σ s σ₁ s₁) (k:∀ a,O a->O' a):Step P O' σ s σ₁ s₁ :=
 ⟨x.ext.mono fun a h=>h.imp id fun h=>h.imp (k a) id,fun b o e n ho d=>x.frm b o e n (fun q=>ho (k b q)) d,x.dom,x.there⟩
theorem Step.wide {P P' O:Addr->Prop}{σ σ₁:Store}{s s₁:Shared} (x:Step P O σ s σ₁ s₁) (k:∀ a,P a->P' a):Step P' O σ s σ₁ s₁ :=
 ⟨x.ext.mono fun a h=>h.imp id fun h=>h.imp id (k a),fun b o e zz ho d=>x.there' e d ho,x.dom,x.there⟩
theorem Step.narrow {P P' O:Addr->Prop}{σ σ₁:Store}{s s₁:Shared} (x:Step P' O σ s σ₁ s₁) (k:∀ a,P' a->P a\/s.heap.get? a=Option.none):Step P O σ s σ₁ s₁ :=
 ⟨⟨fun b o e d=>x.ext.obj b o e fun q=>q.elim (fun q=>d (.inl q)) fun q=>q.elim (fun q=>d (.inr (.inl q))) fun q=>(k b q).elim (fun q=>d (.inr (.inr q))) fun q=>Ae q e⟩,fun b o e zz ho d=>x.there' e d ho,x.dom,x.there⟩
theorem Step.out {P O:Addr->Prop}{σ σ₁ σ₂:Store}{s s₁ s₂:Shared} (x:Step P noO σ s σ₁ s₁) (y:Step P O σ₁ s₁ σ₂ s₂) (hO:∀ a,O a->s.heap.get? a=Option.none):Step P noO σ s σ₂ s₂ :=
 ⟨x.ext.trans y.ext fun b h=>h.elim (fun h=>(x.dom b h).imp .inl id) fun h=>h.elim (fun h=>.inr (hO b h)) fun h=>.inl (.inr (.inr h)),fun b o e n zz d=>by
   refine X1pppp (x.frm b o e n id d) fun o' e' c' d' i'=>?_
   obtain ⟨o'',e'',c'',d'',i''⟩:=y.there' e' (x.ndom e d) fun q=>by rw [hO b q] at e;cases e
   exact ⟨o'',e'',c''.trans c',d''.trans d',i''.trans i'⟩,
  fun b h=>(y.dom b h).elim (x.dom b) fun q=>.inr (x.new q),
  fun b o e=>by refine X1p (x.there b o e) fun o' e'=>?_;exact y.there b o' e'⟩
theorem Rep.step {P O N:Addr->Prop}{σ σ':Store}{s s':Shared} (x:Step P O σ s σ' s') (hO:∀ a,O a->N a) (hP:∀ a,P a->N a) {av:AV}{v:Value} (r:Rep cv s.heap (DN N σ) av v):Rep cv s'.heap (DN N σ') av v :=
 r.ext (x.ext.mono fun a h=>h.imp id fun h=>h.elim (hO a) (hP a)) fun b h=>h.elim (fun h=>(x.dom b h).imp .inl id) fun h=>.inl (.inr h)
theorem RepL.step {P O N:Addr->Prop}{σ σ':Store}{s s':Shared} (x:Step P O σ s σ' s') (hO:∀ a,O a->N a) (hP:∀ a,P a->N a) {av:List AV}{v:List Value} (r:RepL cv s.heap (DN N σ) av v):RepL cv s'.heap (DN N σ') av v :=
 r.ext (x.ext.mono fun a h=>h.imp id fun h=>h.elim (hO a) (hP a)) fun b h=>h.elim (fun h=>(x.dom b h).imp .inl id) fun h=>.inl (.inr h)
theorem RepD.step {P O N:Addr->Prop}{σ σ':Store}{s s':Shared} (x:Step P O σ s σ' s') (hO:∀ a,O a->N a) (hP:∀ a,P a->N a) {av:List (Ab×AV)}{v:List DictEntry} (r:RepD cv s.heap (DN N σ) av v):RepD cv s'.heap (DN N σ') av v :=
 r.ext (x.ext.mono fun a h=>h.imp id fun h=>h.elim (hO a) (hP a)) fun b h=>h.elim (fun h=>(x.dom b h).imp .inl id) fun h=>.inl (.inr h)
theorem Rep.less {D D':Addr->Prop}{h:Heap}{av:AV}{v:Value} (r:Rep cv h D av v) (k:∀ a,D' a->D a):Rep cv h D' av v:=r.ext (Ext.refl _ _) fun b h=>.inl (k b h)
theorem RepL.less {D D':Addr->Prop}{h:Heap}{av:List AV}{v:List Value} (r:RepL cv h D av v) (k:∀ a,D' a->D a):RepL cv h D' av v:=r.ext (Ext.refl _ _) fun b h=>.inl (k b h)
structure Inv {prog:Program}{w:World} (S:Sta prog w) (N:Addr->Prop) (σ:Store) (s:Shared):Prop where
 keep:∀ b o,S.g.get? b=some o->s.heap.get? b=some o
 gens:s.gens=S.gens
 drawn:s.drawn=S.drawn
 os:s.os=S.os
 σg:∀ a,Dom σ a->S.g.get? a=Option.none
 σN:∀ a,Dom σ a->¬ N a
 Nin:∀ a,N a->∃ o,s.heap.get? a=some o/\∀ vs,o.data≠.fields vs
 rep:∀ a o,σ a=some o->RepO S.cv s.heap (DN N σ) o a
structure St {prog:Program}{w:World} (S:Sta prog w) (tb:List Nat) (env:Env) (N P:Addr->Prop) (b:Store×Shared) (m:Nat->Option AV) (σ:Store) (s:Shared):Prop where
 inv:Inv S N σ s
 loc:Loc S.cv S.g tb env m N σ s.heap
 frm:Step P noO b.1 b.2 σ s
 pN:∀ a,P a->N a
 new:∀ a,Own env a->b.2.heap.get? a=Option.none
 own:∀ a,Own env a->N a
 gb:∀ a,b.2.heap.get? a=Option.none->S.g.get? a=Option.none
end Mine
end
section
namespace Mine
open PySem
noncomputable section
noncomputable abbrev Nms:=List (Str×NameKind)
structure IsV (tb:List Nat) (sc:Nms) (x:Str) (i:Nat):Prop where
 ok:okName x=true
 kind:sc.lookup x=some .local\/sc.lookup x=some .cell\/sc.lookup x=some .free
 ix:ixS tb x=some i
structure IsG (sc:Nms) (x:Str) (i:Nat):Prop where
 ok:okName x=true
 kind:sc.lookup x=some .globalImplicit
 ix:ixS GT x=some i
mutual
inductive CE (tb:List Nat):Nms->PySem.Expr->E->Prop
 | none {sc k p}:CE tb sc (.Constant .none k p) .none
 | bool {sc b k p}:CE tb sc (.Constant (.bool b) k p) (.bool b)
 | int {sc i k p}:CE tb sc (.Constant (.int i) k p) (.int i)
 | str {sc s k p}:CE tb sc (.Constant (.str s) k p) (.str s)
 | v {sc x p i}:IsV tb sc x i->CE tb sc (.Name x p) (.v i)
 | g {sc x p i}:IsG sc x i->CE tb sc (.Name x p) (.g i)
 | tup {sc es es' k p}:CEs tb sc es es'->CE tb sc (.Tuple es k p) (.tup es')
 | list {sc es es' p}:CEs tb sc es es'->CE tb sc (.List es p) (.list es')
 | dict {sc ks ks' vs vs' p}:CKs tb sc ks ks'->CEs tb sc vs vs'->CE tb sc (.Dict ks vs p) (.dict ks' vs')
 | bin {sc l l' op r r' p}:CE tb sc l l'->CE tb sc r r'->CE tb sc (.BinOp l op r p) (.bin op l' r')
 | neg {sc x x' p}:CE tb sc x x'->CE tb sc (.UnaryOp .USub x p) (.neg x')
 | not {sc x x' p}:CE tb sc x x'->CE tb sc (.UnaryOp .Not x p) (.not x')
 | and {sc es es' p}:CEs tb sc es es'->CE tb sc (.BoolOp .And es p) (.and es')
 | or {sc es es' p}:CEs tb sc es es'->CE tb sc (.BoolOp .Or es p) (.or es')
 | cmp {sc l l' op r r' p}:AO r=true->CE tb sc l l'->CE tb sc r r'->CE tb sc (.Compare l [op] [r] p) (.cmp op l' r')
 | cmp2 {sc a a' o1 o2 b b' c c' p}:AO b=true->AO c=true->CE tb sc a a'->CE tb sc b b'->CE tb sc c c'->CE tb sc (.Compare a [o1,o2] [b,c] p) (.cmp2 o1 o2 a' b' c')
 | ite {sc c c' a a' b b' p}:CE tb sc c c'->CE tb sc a a'->CE tb sc b b'->CE tb sc (.IfExp c a b p) (.ite c' a' b')
 | slice {sc o o' lo lo' hi hi' st st' p q}:CE tb sc o o'->CO tb sc lo lo'->CO tb sc hi hi'->CO tb sc st st'->CE tb sc (.Subscript o (.Slice lo hi st q) p) (.slice o' lo' hi' st')
 | sub {sc o o' i i' p}:Bn i=true->CE tb sc o o'->CE tb sc i i'->CE tb sc (.Subscript o i p) (.sub o' i')
 | attr {sc x q a p i k}:IsV tb sc x i->ixS AT a=some k->CE tb sc (.Attribute (.Name x q) a p) (.attr (.v i) k)
 | meth {sc o o' a ap args args' p k}:CN o=true->ap.endLine=p.line->args.length<29->CE tb sc o o'->ixS AT a=some k->CEs tb sc args args'->CE tb sc (.Call (.Attribute o a ap) args [] p) (.meth o' k args')
 | callg {sc x q args args' p i}:args.length<29->IsG sc x i->CEs tb sc args args'->CE tb sc (.Call (.Name x q) args [] p) (.call (.g i) args')
 | sorted {sc a a' f f' kp p q}{x key:Str}:x = "sorted"->key = "key"->sc.lookup x=some .globalImplicit->A4 a=true->CE tb sc a a'->CE tb sc f f'->CE tb sc (.Call (.Name x q) [a] [⟨some key,f,kp⟩] p) (.sorted a' f')
 | comp {sc elt elt' x xp src src' cs cs' scope p i}:scope.kind=.function->(scope.names.lookup x=some .local\/scope.names.lookup x=some .cell)->AO src=true ->
   okName x=true->(∀ q∈scope.names,C7 tb sc x q=true/\scope.names.lookup q.1=some q.2)->CE tb sc src src'->ixS tb x=some i->CEs tb (relab sc scope.names) cs cs'->CE tb (relab sc scope.names) elt elt' ->
   CE tb sc (.ListComp elt [⟨.Name x xp,src,cs,0⟩] scope p) (.comp elt' i src' cs')
 | mu {sc pe e l}:CE tb sc pe e->CE tb sc pe (.mu l e)
inductive CEs (tb:List Nat):Nms->List PySem.Expr->List E->Prop
 | nil {sc}:CEs tb sc [] []
 | cons {sc e e' r r'}:A4 e=true->CE tb sc e e'->CEs tb sc r r'->CEs tb sc (e::r) (e'::r')
inductive CKs (tb:List Nat):Nms->List (Option PySem.Expr)->List E->Prop
 | nil {sc}:CKs tb sc [] []
 | cons {sc e e' r r'}:CE tb sc e e'->CKs tb sc r r'->CKs tb sc (some e::r) (e'::r')
inductive CO (tb:List Nat):Nms->Option PySem.Expr->E->Prop
 | no {sc}:CO tb sc none .none
 | yes {sc e e'}:CE tb sc e e'->CO tb sc (some e) e'
end
mutual
inductive CP (tb:List Nat):Nms->PySem.Expr->Pat->Prop
 | v {sc x p i}:sc.lookup x≠some .free->IsV tb sc x i->CP tb sc (.Name x p) (.v i)
 | tup {sc es es' k p}:CPs tb sc es es'->CP tb sc (.Tuple es k p) (.tup es')
inductive CPs (tb:List Nat):Nms->List PySem.Expr->List Pat->Prop
 | nil {sc}:CPs tb sc [] []
 | cons {sc e e' r r'}:A4 e=true->CP tb sc e e'->CPs tb sc r r'->CPs tb sc (e::r) (e'::r')
end
mutual
inductive CS (tb:List Nat):Nms->PySem.Stmt->S->Prop
 | setitem {sc o o' i i' e e' p q}:Bn i=true->CE tb sc o o'->CE tb sc i i'->CE tb sc e e'->CS tb sc (.Assign [.Subscript o i q] e p) (.setitem o' i' e')
 | setattr {sc o o' a k e e' p q}:CE tb sc o o'->ixS AT a=some k->CE tb sc e e'->CS tb sc (.Assign [.Attribute o a q] e p) (.setattr o' k e')
 | assign {sc t t' e e' p}:CP tb sc t t'->CE tb sc e e'->CS tb sc (.Assign [t] e p) (.assign t' e')
 | expr {sc e e' p}:CE tb sc e e'->CS tb sc (.Expr e p) (.expr e')
 | ret {sc e e' p}:CE tb sc e e'->CS tb sc (.Return (some e) p) (.ret e')
 | ite {sc c c' a a' b b' p}:CE tb sc c c'->CSs tb sc a a'->CSs tb sc b b'->CS tb sc (.If c a b p) (.ite c' a' b')
 | for_ {sc t t' e e' b b' p}:AO e=true->CP tb sc t t'->CE tb sc e e'->CSs tb sc b b'->CS tb sc (.For t e b [] p) (.for_ t' e' b')
 | while_ {sc c c' b b' p}:CE tb sc c c'->CSs tb sc b b'->CS tb sc (.While c b [] p) (.while_ c' b')
 | raise {sc e e' p}:CE tb sc e e'->CS tb sc (.Raise (some e) none p) (.raise e')
 | try0 {sc b b' t t' h h' q p}:CSs tb sc b b'->CE tb sc t t'->CSs tb sc h h'->CS tb sc (.Try b [.ExceptHandler (some t) none h q] [] [] p) (.try_ b' t' none h')
 | try1 {sc b b' t t' h h' q p x i}:CSs tb sc b b'->CE tb sc t t'->sc.lookup x≠some .free->IsV tb sc x i->CSs tb sc h h'->CS tb sc (.Try b [.ExceptHandler (some t) (some x) h q] [] [] p) (.try_ b' t' (some i) h')
 | pass {sc p}:CS tb sc (.Pass p) .pass
inductive CSs (tb:List Nat):Nms->List PySem.Stmt->List S->Prop
 | nil {sc}:CSs tb sc [] []
 | cons {sc e e' r r'}:CS tb sc e e'->CSs tb sc r r'->CSs tb sc (e::r) (e'::r')
end
noncomputable def CEi (tb:List Nat) (sc:Nms) (pe:PySem.Expr) (e:E):Prop:=match e with
 | .none=>∃ k p,pe=.Constant .none k p
 | .bool b=>∃ k p,pe=.Constant (.bool b) k p
 | .int i=>∃ k p,pe=.Constant (.int i) k p
 | .str s=>∃ k p,pe=.Constant (.str s) k p
 | .v i=>∃ x p,pe=.Name x p/\IsV tb sc x i
 | .g i=>∃ x p,pe=.Name x p/\IsG sc x i
 | .tup es'=>∃ es k p,pe=.Tuple es k p/\CEs tb sc es es'
 | .list es'=>∃ es p,pe=.List es p/\CEs tb sc es es'
 | .dict ks' vs'=>∃ ks vs p,pe=.Dict ks vs p/\CKs tb sc ks ks'/\CEs tb sc vs vs'
 | .bin op l' r'=>∃ l r p,pe=.BinOp l op r p/\CE tb sc l l'/\CE tb sc r r'
 | .neg x'=>∃ x p,pe=.UnaryOp .USub x p/\CE tb sc x x'
 | .not x'=>∃ x p,pe=.UnaryOp .Not x p/\CE tb sc x x'
 | .and es'=>∃ es p,pe=.BoolOp .And es p/\CEs tb sc es es'
 | .or es'=>∃ es p,pe=.BoolOp .Or es p/\CEs tb sc es es'
 | .cmp op l' r'=>∃ l r p,pe=.Compare l [op] [r] p/\AO r=true/\CE tb sc l l'/\CE tb sc r r'
 | .cmp2 o1 o2 a' b' c'=>∃ a b c p,pe=.Compare a [o1,o2] [b,c] p/\AO b=true/\AO c=true/\CE tb sc a a'/\CE tb sc b b'/\CE tb sc c c'
 | .ite c' a' b'=>∃ c a b p,pe=.IfExp c a b p/\CE tb sc c c'/\CE tb sc a a'/\CE tb sc b b'
 | .slice o' lo' hi' st'=>∃ o lo hi st p q,pe=.Subscript o (.Slice lo hi st q) p/\CE tb sc o o'/\CO tb sc lo lo'/\CO tb sc hi hi'/\CO tb sc st st'
 | .sub o' i'=>∃ o i p,pe=.Subscript o i p/\Bn i=true/\CE tb sc o o'/\CE tb sc i i'
 | .attr (.v i) k=>∃ x q a p,pe=.Attribute (.Name x q) a p/\IsV tb sc x i/\ixS AT a=some k
 | .attr _ _=>False
 | .meth o' k args'=>∃ o a ap args p,pe=.Call (.Attribute o a ap) args [] p/\CN o=true/\ap.endLine=p.line/\args.length<29/\CE tb sc o o'/\ixS AT a=some k/\CEs tb sc args args'
 | .call (.g i) args'=>∃ x q args p,pe=.Call (.Name x q) args [] p/\args.length<29/\IsG sc x i/\CEs tb sc args args'
 | .call _ _=>False
 | .sorted a' f'=>∃ a f kp p q,∃ x key:Str,pe=.Call (.Name x q) [a] [⟨some key,f,kp⟩] p/\x = "sorted"/\key = "key"/\sc.lookup x=some .globalImplicit/\A4 a=true/\CE tb sc a a'/\CE tb sc f f'
 | .comp elt' i src' cs'=>∃ elt x xp src cs scope p,pe=.ListComp elt [⟨.Name x xp,src,cs,0⟩] scope p/\scope.kind=.function/\(scope.names.lookup x=some .local\/scope.names.lookup x=some .cell)/\AO src=true /\
   okName x=true/\(∀ q∈scope.names,C7 tb sc x q=true/\scope.names.lookup q.1=some q.2)/\CE tb sc src src'/\ixS tb x=some i/\CEs tb (relab sc scope.names) cs cs'/\CE tb (relab sc scope.names) elt elt'
 | .mu _ e'=>CE tb sc pe e'
theorem CE.inv {tb:List Nat}{sc:Nms}{pe:PySem.Expr}{e:E} (h:CE tb sc pe e):CEi tb sc pe e:=by
 induction h using CE.casesOn with
 | none=>exact ⟨_,_,rfl⟩
 | bool=>exact ⟨_,_,rfl⟩
 | int=>exact ⟨_,_,rfl⟩
 | str=>exact ⟨_,_,rfl⟩
 | v a=>exact ⟨_,_,rfl,a⟩
 | g a=>exact ⟨_,_,rfl,a⟩
 | tup a=>exact ⟨_,_,_,rfl,a⟩
 | list a=>exact ⟨_,_,rfl,a⟩
 | dict a b=>exact ⟨_,_,_,rfl,a,b⟩
 | bin a b=>exact ⟨_,_,_,rfl,a,b⟩
 | neg a=>exact ⟨_,_,rfl,a⟩
 | not a=>exact ⟨_,_,rfl,a⟩
 | and a=>exact ⟨_,_,rfl,a⟩
 | or a=>exact ⟨_,_,rfl,a⟩
 | cmp a b c=>exact ⟨_,_,_,rfl,a,b,c⟩
 | cmp2 a b c d e=>exact ⟨_,_,_,_,rfl,a,b,c,d,e⟩
 | ite a b c=>exact ⟨_,_,_,_,rfl,a,b,c⟩
 | slice a b c d=>exact ⟨_,_,_,_,_,_,rfl,a,b,c,d⟩
 | sub a b c=>exact ⟨_,_,_,rfl,a,b,c⟩
 | attr a b=>exact ⟨_,_,_,_,rfl,a,b⟩
 | meth a b c d e f=>exact ⟨_,_,_,_,_,rfl,a,b,c,d,e,f⟩
 | callg a b c=>exact ⟨_,_,_,_,rfl,a,b,c⟩
 | sorted a b c d e f=>exact ⟨_,_,_,_,_,_,_,rfl,a,b,c,d,e,f⟩
 | comp a b c d e f g h i=>exact ⟨_,_,_,_,_,_,_,rfl,a,b,c,d,e,f,g,h,i⟩
 | mu a=>exact a
noncomputable def E.un:E->E
 | .mu _ e=>e
 | e=>e
theorem CE.un {tb:List Nat}{sc:Nms}{pe:PySem.Expr}{e:E} (h:CE tb sc pe e):CE tb sc pe e.un:=by
 cases e<;>first | exact h | exact h.inv
theorem CEs.inv_nil {tb:List Nat}{sc:Nms}{pe:List PySem.Expr} (h:CEs tb sc pe []):pe=[]:=by cases h;rfl
theorem CEs.inv {tb:List Nat}{sc:Nms}{pe:List PySem.Expr}{e':E}{r':List E} (h:CEs tb sc pe (e'::r')):∃ e r,pe=e::r/\A4 e=true/\CE tb sc e e'/\CEs tb sc r r':=by
 cases h with | cons a b c=>exact ⟨_,_,rfl,a,b,c⟩
noncomputable def CKi (tb:List Nat) (sc:Nms) (pe:List (Option PySem.Expr)) (es:List E):Prop:=match es with
 | []=>pe=[]
 | e'::r'=>∃ e r,pe=some e::r/\CE tb sc e e'/\CKs tb sc r r'
theorem CKs.inv {tb:List Nat}{sc:Nms}{pe:List (Option PySem.Expr)}{es:List E} (h:CKs tb sc pe es):CKi tb sc pe es:=by
 induction h using CKs.casesOn with
 | nil=>exact rfl
 | cons a b=>exact ⟨_,_,rfl,a,b⟩
theorem CO.inv {tb:List Nat}{sc:Nms}{pe:Option PySem.Expr}{e:E} (h:CO tb sc pe e):(pe=Option.none/\e=.none)\/∃ x,pe=some x/\CE tb sc x e:=by
 induction h using CO.casesOn with
 | no=>exact .inl ⟨rfl,rfl⟩
 | yes a=>exact .inr ⟨_,rfl,a⟩
noncomputable def CPi (tb:List Nat) (sc:Nms) (pe:PySem.Expr) (e:Pat):Prop:=match e with
 | .v i=>∃ x p,pe=.Name x p/\sc.lookup x≠some .free/\IsV tb sc x i
 | .tup es'=>∃ es k p,pe=.Tuple es k p/\CPs tb sc es es'
theorem CP.inv {tb:List Nat}{sc:Nms}{pe:PySem.Expr}{e:Pat} (h:CP tb sc pe e):CPi tb sc pe e:=by
 induction h using CP.casesOn with
 | v a b=>exact ⟨_,_,rfl,a,b⟩
 | tup a=>exact ⟨_,_,_,rfl,a⟩
theorem CPs.inv_nil {tb:List Nat}{sc:Nms}{pe:List PySem.Expr} (h:CPs tb sc pe []):pe=[]:=by cases h;rfl
theorem CPs.inv {tb:List Nat}{sc:Nms}{pe:List PySem.Expr}{e':Pat}{r':List Pat} (h:CPs tb sc pe (e'::r')):∃ e r,pe=e::r/\A4 e=true/\CP tb sc e e'/\CPs tb sc r r':=by
 cases h with | cons a b c=>exact ⟨_,_,rfl,a,b,c⟩
noncomputable def CSi (tb:List Nat) (sc:Nms) (ps:PySem.Stmt) (s:S):Prop:=match s with
 | .setitem o' i' e'=>∃ o i e p q,ps=.Assign [.Subscript o i q] e p/\Bn i=true/\CE tb sc o o'/\CE tb sc i i'/\CE tb sc e e'
 | .setattr o' k e'=>∃ o a e p q,ps=.Assign [.Attribute o a q] e p/\CE tb sc o o'/\ixS AT a=some k/\CE tb sc e e'
 | .assign t' e'=>∃ t e p,ps=.Assign [t] e p/\CP tb sc t t'/\CE tb sc e e'
 | .expr e'=>∃ e p,ps=.Expr e p/\CE tb sc e e'
 | .ret e'=>∃ e p,ps=.Return (some e) p/\CE tb sc e e'
 | .ite c' a' b'=>∃ c a b p,ps=.If c a b p/\CE tb sc c c'/\CSs tb sc a a'/\CSs tb sc b b'
 | .for_ t' e' b'=>∃ t e b p,ps=.For t e b [] p/\AO e=true/\CP tb sc t t'/\CE tb sc e e'/\CSs tb sc b b'
 | .while_ c' b'=>∃ c b p,ps=.While c b [] p/\CE tb sc c c'/\CSs tb sc b b'
 | .raise e'=>∃ e p,ps=.Raise (some e) none p/\CE tb sc e e'
 | .try_ b' t' none h'=>∃ b t h q p,ps=.Try b [.ExceptHandler (some t) none h q] [] [] p/\CSs tb sc b b'/\CE tb sc t t'/\CSs tb sc h h'
 | .try_ b' t' (some i) h'=>∃ b t h q p x,ps=.Try b [.ExceptHandler (some t) (some x) h q] [] [] p/\CSs tb sc b b'/\CE tb sc t t'/\sc.lookup x≠some .free/\IsV tb sc x i/\CSs tb sc h h'
 | .pass=>∃ p,ps=.Pass p
theorem CS.inv {tb:List Nat}{sc:Nms}{ps:PySem.Stmt}{s:S} (h:CS tb sc ps s):CSi tb sc ps s:=by
 induction h using CS.casesOn with
 | setitem a b c d=>exact ⟨_,_,_,_,_,rfl,a,b,c,d⟩
 | setattr a b c=>exact ⟨_,_,_,_,_,rfl,a,b,c⟩
 | assign a b=>exact ⟨_,_,_,rfl,a,b⟩
 | expr a=>exact ⟨_,_,rfl,a⟩
 | ret a=>exact ⟨_,_,rfl,a⟩
 | ite a b c=>exact ⟨_,_,_,_,rfl,a,b,c⟩
 | for_ a b c d=>exact ⟨_,_,_,_,rfl,a,b,c,d⟩
 | while_ a b=>exact ⟨_,_,_,rfl,a,b⟩
 | raise a=>exact ⟨_,_,rfl,a⟩
 | try0 a b c=>exact ⟨_,_,_,_,_,rfl,a,b,c⟩
 | try1 a b c d e=>exact ⟨_,_,_,_,_,_,rfl,a,b,c,d,e⟩
 | pass=>exact ⟨_,rfl⟩
theorem CSs.inv_nil {tb:List Nat}{sc:Nms}{pe:List PySem.Stmt} (h:CSs tb sc pe []):pe=[]:=by cases h;rfl
theorem CSs.inv {tb:List Nat}{sc:Nms}{pe:List PySem.Stmt}{e':S}{r':List S} (h:CSs tb sc pe (e'::r')):∃ e r,pe=e::r/\CS tb sc e e'/\CSs tb sc r r':=by
 cases h with | cons a b=>exact ⟨_,_,rfl,a,b⟩
noncomputable def JZ (tb:List Nat) (sc:Nms) (x:Str):Option ((Σ' i,IsV tb sc x i) ⊕' (Σ' i,IsG sc x i)) :=
 if ok:okName x=true then match q:sc.lookup x with
 | some .local=>match e:ixS tb x with
  | some i=>some (.inl ⟨i,ok,.inl q,e⟩)
  | none=>none
 | some .cell=>match e:ixS tb x with
  | some i=>some (.inl ⟨i,ok,.inr (.inl q),e⟩)
  | none=>none
 | some .free=>match e:ixS tb x with
  | some i=>some (.inl ⟨i,ok,.inr (.inr q),e⟩)
  | none=>none
 | some .globalImplicit=>match e:ixS GT x with
  | some i=>some (.inr ⟨i,ok,q,e⟩)
  | none=>none
 | _=>none
 else none
noncomputable def cAt (a:Str):Option {k:Nat // ixS AT a=some k}:=match ixS AT a with
 | some k=>some ⟨k,rfl⟩
 | none=>none
noncomputable def cIx (tb:List Nat) (a:Str):Option {k:Nat // ixS tb a=some k}:=match ixS tb a with
 | some k=>some ⟨k,rfl⟩
 | none=>none
noncomputable def okScope (tb:List Nat) (sc:Nms) (x:Str) (src:PySem.Expr) (scope:Scope):Bool:=scope.kind == .function && ((scope.names.lookup x == some .local || scope.names.lookup x == some .cell) && (AO src && (okName x && scope.names.all fun p=>C7 tb sc x p && scope.names.lookup p.1 == some p.2)))
theorem okScope.of {tb:List Nat}{sc:Nms}{x:Str}{src:PySem.Expr}{scope:Scope} (h:okScope tb sc x src scope=true):scope.kind=.function/\(scope.names.lookup x=some .local\/scope.names.lookup x=some .cell)/\AO src=true/\okName x=true/\(∀ q∈scope.names,C7 tb sc x q=true/\scope.names.lookup q.1=some q.2):=by
 simp only [okScope,Bool.and_eq_true,beq_iff_eq,Bool.or_eq_true,List.all_eq_true] at h
 exact h
mutual
noncomputable def cE (tb:List Nat):Nat->(sc:Nms)->(pe:PySem.Expr)->Option {e:E // CE tb sc pe e}
 | 0,_,_=>none
 | n+1,sc,pe=>match pe with
  | .Constant c _ _=>(match c with
   | .none=>some ⟨.none,.none⟩
   | .bool b=>some ⟨.bool b,.bool⟩
   | .int i=>some ⟨.int i,.int⟩
   | .str s=>some ⟨.str s,.str⟩
   | _=>none)
  | .Name x _=>(match JZ tb sc x with
   | some (.inl i)=>some ⟨.v i.1,.v i.2⟩
   | some (.inr i)=>some ⟨.g i.1,.g i.2⟩
   | none=>none)
  | .Tuple es _ _=>(cEs tb n sc es).map fun a=>⟨.tup a.1,.tup a.2⟩
  | .List es _=>(cEs tb n sc es).map fun a=>⟨.list a.1,.list a.2⟩
  | .Dict ks vs _=>(cKs tb n sc ks).bind fun a=>(cEs tb n sc vs).map fun b=>⟨.dict a.1 b.1,.dict a.2 b.2⟩
  | .BinOp l op r _=>(cE tb n sc l).bind fun a=>(cE tb n sc r).map fun b=>⟨.bin op a.1 b.1,.bin a.2 b.2⟩
  | .UnaryOp op x _=>(match op with
   | .USub=>(cE tb n sc x).map fun a=>⟨.neg a.1,.neg a.2⟩
   | .Not=>(cE tb n sc x).map fun a=>⟨.not a.1,.not a.2⟩
   | _=>none)
  | .BoolOp op es _=>(match op with
   | .And=>(cEs tb n sc es).map fun a=>⟨.and a.1,.and a.2⟩
   | .Or=>(cEs tb n sc es).map fun a=>⟨.or a.1,.or a.2⟩)
  | .Compare l os rs _=>(match os,rs with
   | [op],[r]=>if q:AO r=true then (cE tb n sc l).bind fun a=>(cE tb n sc r).map fun b=>⟨.cmp op a.1 b.1,.cmp q a.2 b.2⟩ else none
   | [o1,o2],[b,c]=>if q:AO b=true then (if q':AO c=true then (cE tb n sc l).bind fun x=>(cE tb n sc b).bind fun y=>(cE tb n sc c).map fun z=>⟨.cmp2 o1 o2 x.1 y.1 z.1,.cmp2 q q' x.2 y.2 z.2⟩ else none) else none
   | _,_=>none)
  | .IfExp c a b _=>(cE tb n sc c).bind fun x=>(cE tb n sc a).bind fun y=>(cE tb n sc b).map fun z=>⟨.ite x.1 y.1 z.1,.ite x.2 y.2 z.2⟩
  | .Subscript o i _=>(match i with
   | .Slice lo hi st _=>(cE tb n sc o).bind fun x=>(cO tb n sc lo).bind fun y=>(cO tb n sc hi).bind fun z=>(cO tb n sc st).map fun u=>⟨.slice x.1 y.1 z.1 u.1,.slice x.2 y.2 z.2 u.2⟩
   | i=>if q:Bn i=true then (cE tb n sc o).bind fun x=>(cE tb n sc i).map fun y=>⟨.sub x.1 y.1,.sub q x.2 y.2⟩ else none)
  | .Attribute o a _=>(match o with
   | .Name x _=>(match JZ tb sc x with
    | some (.inl i)=>(cAt a).map fun k=>⟨.attr (.v i.1) k.1,.attr i.2 k.2⟩
    | _=>none)
   | _=>none)
  | .Call f args kw p=>(match f,kw with
   | .Attribute o a ap,[]=>if q:CN o=true then (if q':ap.endLine=p.line then (if q'':args.length<29 then (cE tb n sc o).bind fun x=>(cAt a).bind fun k=>(cEs tb n sc args).map fun y=>⟨.meth x.1 k.1 y.1,.meth q q' q'' x.2 k.2 y.2⟩ else none) else none) else none
   | .Name x _,[]=>if q:args.length<29 then (match JZ tb sc x with
    | some (.inr i)=>(cEs tb n sc args).map fun y=>⟨.call (.g i.1) y.1,.callg q i.2 y.2⟩
    | _=>none) else none
   | .Name x _,[⟨some k,g,_⟩]=>(match args with
    | [a]=>if q:x = "sorted"/\k = "key"/\sc.lookup x=some .globalImplicit/\A4 a=true then (cE tb n sc a).bind fun y=>(cE tb n sc g).map fun z=>⟨.sorted y.1 z.1,.sorted q.1 q.2.1 q.2.2.1 q.2.2.2 y.2 z.2⟩ else none
    | _=>none)
   | _,_=>none)
  | .ListComp elt gens scope _=>(match gens with
   | [⟨.Name x _,src,cs,0⟩]=>if q:okScope tb sc x src scope=true then
     (cE tb n sc src).bind fun y=>(cIx tb x).bind fun i=>(cEs tb n (relab sc scope.names) cs).bind fun z=>(cE tb n (relab sc scope.names) elt).map fun u=>⟨.comp u.1 i.1 y.1 z.1,.comp (okScope.of q).1 (okScope.of q).2.1 (okScope.of q).2.2.1 (okScope.of q).2.2.2.1 (okScope.of q).2.2.2.2 y.2 i.2 z.2 u.2⟩
    else none
   | _=>none)
  | _=>none
noncomputable def cEs (tb:List Nat):Nat->(sc:Nms)->(pe:List PySem.Expr)->Option {e:List E // CEs tb sc pe e}
 | _,_,[]=>some ⟨[],.nil⟩
 | 0,_,_::_=>none
 | n+1,sc,e::r=>if q:A4 e=true then (cE tb n sc e).bind fun a=>(cEs tb n sc r).map fun b=>⟨a.1::b.1,.cons q a.2 b.2⟩ else none
noncomputable def cKs (tb:List Nat):Nat->(sc:Nms)->(pe:List (Option PySem.Expr))->Option {e:List E // CKs tb sc pe e}
 | _,_,[]=>some ⟨[],.nil⟩
 | 0,_,_::_=>none
 | n+1,sc,e::r=>(match e with
  | some e=>(cE tb n sc e).bind fun a=>(cKs tb n sc r).map fun b=>⟨a.1::b.1,.cons a.2 b.2⟩
  | none=>none)
noncomputable def cO (tb:List Nat):Nat->(sc:Nms)->(pe:Option PySem.Expr)->Option {e:E // CO tb sc pe e}
 | _,_,none=>some ⟨.none,.no⟩
 | 0,_,some _=>none
 | n+1,sc,some e=>(cE tb n sc e).map fun a=>⟨a.1,.yes a.2⟩
end
mutual
noncomputable def cP (tb:List Nat):Nat->(sc:Nms)->(pe:PySem.Expr)->Option {e:Pat // CP tb sc pe e}
 | 0,_,_=>none
 | n+1,sc,pe=>match pe with
  | .Name x _=>if q:sc.lookup x=some .free then none else (match JZ tb sc x with
   | some (.inl i)=>some ⟨.v i.1,.v q i.2⟩
   | _=>none)
  | .Tuple es _ _=>(cPs tb n sc es).map fun a=>⟨.tup a.1,.tup a.2⟩
  | _=>none
noncomputable def cPs (tb:List Nat):Nat->(sc:Nms)->(pe:List PySem.Expr)->Option {e:List Pat // CPs tb sc pe e}
 | _,_,[]=>some ⟨[],.nil⟩
 | 0,_,_::_=>none
 | n+1,sc,e::r=>if q:A4 e=true then (cP tb n sc e).bind fun a=>(cPs tb n sc r).map fun b=>⟨a.1::b.1,.cons q a.2 b.2⟩ else none
end
mutual
noncomputable def cS (tb:List Nat):Nat->(sc:Nms)->(ps:PySem.Stmt)->Option {s:S // CS tb sc ps s}
 | 0,_,_=>none
 | n+1,sc,ps=>match ps with
  | .Assign ts e _=>(match ts with
   | [t]=>(match t with
    | .Subscript o i _=>if q:Bn i=true then (cE tb n sc o).bind fun x=>(cE tb n sc i).bind fun y=>(cE tb n sc e).map fun z=>⟨.setitem x.1 y.1 z.1,.setitem q x.2 y.2 z.2⟩ else none
    | .Attribute o a _=>(cE tb n sc o).bind fun x=>(cAt a).bind fun k=>(cE tb n sc e).map fun z=>⟨.setattr x.1 k.1 z.1,.setattr x.2 k.2 z.2⟩
    | t=>(cP tb n sc t).bind fun x=>(cE tb n sc e).map fun z=>⟨.assign x.1 z.1,.assign x.2 z.2⟩)
   | _=>none)
  | .Expr e _=>(cE tb n sc e).map fun a=>⟨.expr a.1,.expr a.2⟩
  | .Return (some e) _=>(cE tb n sc e).map fun a=>⟨.ret a.1,.ret a.2⟩
  | .If c a b _=>(cE tb n sc c).bind fun x=>(cSs tb n sc a).bind fun y=>(cSs tb n sc b).map fun z=>⟨.ite x.1 y.1 z.1,.ite x.2 y.2 z.2⟩
  | .For t e b [] _=>if q:AO e=true then (cP tb n sc t).bind fun x=>(cE tb n sc e).bind fun y=>(cSs tb n sc b).map fun z=>⟨.for_ x.1 y.1 z.1,.for_ q x.2 y.2 z.2⟩ else none
  | .While c b [] _=>(cE tb n sc c).bind fun x=>(cSs tb n sc b).map fun y=>⟨.while_ x.1 y.1,.while_ x.2 y.2⟩
  | .Raise (some e) none _=>(cE tb n sc e).map fun a=>⟨.raise a.1,.raise a.2⟩
  | .Try b [.ExceptHandler (some t) nm h _] [] [] _=>(cSs tb n sc b).bind fun x=>(cE tb n sc t).bind fun y=>(cSs tb n sc h).bind fun z=>(match nm with
   | none=>some ⟨.try_ x.1 y.1 none z.1,.try0 x.2 y.2 z.2⟩
   | some v=>if q:sc.lookup v=some .free then none else (match JZ tb sc v with
    | some (.inl i)=>some ⟨.try_ x.1 y.1 (some i.1) z.1,.try1 x.2 y.2 q i.2 z.2⟩
    | _=>none))
  | .Pass _=>some ⟨.pass,.pass⟩
  | _=>none
noncomputable def cSs (tb:List Nat):Nat->(sc:Nms)->(ps:List PySem.Stmt)->Option {s:List S // CSs tb sc ps s}
 | _,_,[]=>some ⟨[],.nil⟩
 | 0,_,_::_=>none
 | n+1,sc,e::r=>(cS tb n sc e).bind fun a=>(cSs tb n sc r).map fun b=>⟨a.1::b.1,.cons a.2 b.2⟩
end
theorem JY {tb:List Nat}{n:Nat}{sc:Nms}{pe:List PySem.Stmt}{e:List S} (h:(cSs tb n sc pe).map (·.1)=some e):CSs tb sc pe e:=by
 refine X1pp (Option.map_eq_some_iff.mp h) fun x zz he350_2=>?_
 subst he350_2
 exact x.2
end
end Mine
end
section
namespace Mine
open PySem PyProof.Rows
structure Room {prog:Program}{w:World} (S:Sta prog w) (N:Addr->Prop) (k:Nat) (A:Around):Prop where
 hh:A.handled=S.hx.map Value.ref
 fr:∃ l,A.frames=some l/\∀ e∈l,e.scope.kind≠.module/\∃ L,e.frame=some L/\N L/\S.g.get? L=Option.none
 dp:A.depth+2 * k<900
 un:A.units+20 * k<9000
theorem Room.quiet {prog:Program}{w:World}{S:Sta prog w}{N:Addr->Prop}{k:Nat}{A:Around} (r:Room S N k A) (hq:S.hx=Option.none):A.handled=Option.none:=r.hh.trans (by rw [hq];rfl)
theorem Room.wide {prog:Program}{w:World}{S:Sta prog w}{N N':Addr->Prop}{k:Nat}{A:Around} (r:Room S N k A) (h:∀ a,N a->N' a):Room S N' k A :=
 ⟨r.hh,(by refine X1pp (r.fr) fun l e q=>?_;exact ⟨l,e,fun ev he=>by refine Ad (q ev he) fun h1 hy19_0=>?_;refine X1ppp (hy19_0) fun L h2 h3 h4=>?_;exact ⟨h1,L,h2,h L h3,h4⟩⟩),r.dp,r.un⟩
structure Fx {prog:Program}{w:World} (S:Sta prog w) where
 A:Around
 tb:List Nat
 env:Env
 b:Store×Shared
 N:Addr->Prop
 k:Nat
 room:Room S N k A
 fk:env.scope.kind=.function
 fg:env.globals=mainGlobals
 fb:env.builtins=builtinsNs
 fc:∀ x,env.kindOf x=some .cell->∃ c,env.cells.lookup x=some c
variable {prog:Program}{w:World}{S:Sta prog w}
noncomputable def Frm (A:Around) (a:Addr):Prop:=∃ l,A.frames=some l/\∃ e∈l,e.frame=some a
noncomputable abbrev Fx.P (F:Fx S):Addr->Prop:=Frm F.A
noncomputable abbrev Fx.St (F:Fx S):=Mine.St S F.tb F.env F.N F.P F.b
noncomputable abbrev Fx.D (F:Fx S) (σ:Store):Addr->Prop:=DN F.N σ
noncomputable abbrev Fx.O (F:Fx S):Addr->Prop:=Own F.env
noncomputable abbrev Fx.sc (F:Fx S):Nms:=F.env.scope.names
inductive PW (F:Fx S) (m:Nat->Option AV) (σ:Store) (s:Shared) {α:Type} (P:α->Store->Shared->Prop) (a:α) (s':Shared):Prop
 | mk (σ':Store) (st:Step F.P F.O σ s σ' s') (h:F.St m σ' s') (p:P a σ' s'):PW F m σ s P a s'
inductive PV (F:Fx S) (Q:AV->Store->Prop) (v:Value) (σ':Store) (s':Shared):Prop
 | mk (av:AV) (r:Rep S.cv s'.heap (F.D σ') av v) (q:Q av σ'):PV F Q v σ' s'
inductive PVs (F:Fx S) (Q:List AV->Store->Prop) (vs:List Value) (σ':Store) (s':Shared):Prop
 | mk (avs:List AV) (r:RepL S.cv s'.heap (F.D σ') avs vs) (q:Q avs σ'):PVs F Q vs σ' s'
noncomputable def W (F:Fx S) (m:Nat->Option AV) (σ:Store) (s:Shared) {α:Type} (t:Sem α) (P:α->Store->Shared->Prop) (X:Value->Shared->Prop):Prop :=
 wpAny (model prog w) F.A t (PW F m σ s P) X s
noncomputable abbrev VT (F:Fx S) (m:Nat->Option AV) (σ:Store) (s:Shared) (t:Sem Value) (Q:AV->Store->Prop) (X:Value->Shared->Prop):Prop :=
 W F m σ s t (PV F Q) X
section
variable {F:Fx S}{m:Nat->Option AV}{σ:Store}{s:Shared}{α β:Type}{X:Value->Shared->Prop}
theorem W.mono {t:Sem α}{P P':α->Store->Shared->Prop} (h:W F m σ s t P X) (k:∀ a σ' s',Step F.P F.O σ s σ' s'->F.St m σ' s'->P a σ' s'->P' a σ' s'):W F m σ s t P' X :=
 wpAny_mono h (fun a s' ⟨σ',st,h1,h2⟩=>⟨σ',st,h1,k a σ' s' st h1 h2⟩) fun zz zz e=>e
theorem W.out {t:Sem α}{P:α->Store->Shared->Prop}{Q:α->Shared->Prop} (h:W F m σ s t P X) (k:∀ a σ' s',Step F.P F.O σ s σ' s'->F.St m σ' s'->P a σ' s'->Q a s'):wpAny (model prog w) F.A t Q X s :=
 wpAny_mono h (fun a s' ⟨σ',st,h1,h2⟩=>k a σ' s' st h1 h2) fun zz zz e=>e
theorem W.later {t:Sem α}{P:α->Store->Shared->Prop}{σ₀:Store}{s₀:Shared} (h:W F m σ s t P X) (st:Step F.P F.O σ₀ s₀ σ s):wpAny (model prog w) F.A t (PW F m σ₀ s₀ P) X s :=
 wpAny_mono h (fun _ _ ⟨σ',st',h1,h2⟩=>⟨σ',st.trans st',h1,h2⟩) fun zz zz e=>e
end
noncomputable def ET (F:Fx S) (m:Nat->Option AV) (σ:Store) (e:E) (Q:AV->Store->Prop) (X:Value->Shared->Prop):Prop :=
 ∀ pe,CE F.tb F.sc pe e->∀ s,F.St m σ s->VT F m σ s (eval pe F.env) Q X
noncomputable def TT (F:Fx S) (m:Nat->Option AV) (σ:Store) (e:E) (Q:Bool->Store->Prop) (X:Value->Shared->Prop):Prop :=
 ∀ pe,CE F.tb F.sc pe e->∀ s,F.St m σ s->W F m σ s (isTrue pe F.env (eval pe F.env)) (fun b σ' zz=>Q b σ') X
noncomputable def EsT (F:Fx S) (m:Nat->Option AV) (σ:Store) (es:List E) (Q:List AV->Store->Prop) (X:Value->Shared->Prop):Prop :=
 ∀ pes pos,CEs F.tb F.sc pes es->∀ s,F.St m σ s ->
  W F m σ s (spliced (backTo pos (starEach pes F.env))) (PVs F Q) X
section
variable {tb:List Nat}{env:Env}{N P:Addr->Prop}{b:Store×Shared}{m:Nat->Option AV}{σ σ':Store}{s s':Shared}
theorem Inv.tok (x:Inv S N σ s) (t:Nat):Inv S N σ { s with toks:=t }:=⟨x.keep,x.gens,x.drawn,x.os,x.σg,x.σN,x.Nin,x.rep⟩
theorem St.tok (x:Mine.St S tb env N P b m σ s) (t:Nat):Mine.St S tb env N P b m σ { s with toks:=t }:=⟨x.inv.tok t,x.loc,⟨x.frm.ext,x.frm.frm,x.frm.dom,x.frm.there⟩,x.pN,x.new,x.own,x.gb⟩
theorem RepO.ext {cv:Nat->Value}{D D':Addr->Prop}{h h':Heap} (x:Ext D h h') (hD:∀ b,D' b->D b\/h.get? b=Option.none) {o:AObj}{a:Addr} (r:RepO cv h D o a) (k:∀ ob,h.get? a=some ob->h'.get? a=some ob):RepO cv h' D' o a:=by
 induction r with
 | list e r=>exact .list (k _ e) (r.ext x hD)
 | dict e sm n r=>exact .dict (k _ e) sm n (r.ext x hD)
 | inst e n=>exact .inst (k _ e) n
 | attrs e r=>exact .attrs (k _ e) (r.ext x hD)
theorem Inv.dom_there (x:Inv S N σ s) {a:Addr} (d:Dom σ a):∃ ob,s.heap.get? a=some ob:=by
 cases e:σ a with
 | none=>exact absurd e d
 | some o=>refine X1pp ((x.rep a o e).there) fun ob h zz=>?_;exact ⟨ob,h⟩
theorem Inv.not_dom (x:Inv S N σ s) {a:Addr} (e:s.heap.get? a=Option.none):¬ Dom σ a:=fun d=>by refine X1p (x.dom_there d) fun ob h=>?_;rw [e] at h;cases h
theorem Inv.not_D (x:Inv S N σ s) {a:Addr} (e:s.heap.get? a=Option.none):¬ DN N σ a:=fun d=>d.elim (x.not_dom e) fun d=>by refine X1pp (x.Nin a d) fun ob h zz=>?_;rw [e] at h;cases h
theorem Inv.not_g (x:Inv S N σ s) {a:Addr} (e:s.heap.get? a=Option.none):S.g.get? a=Option.none:=by
 cases q:S.g.get? a with
 | none=>rfl
 | some o=>have:=x.keep a o q;rw [e] at this;cases this
theorem Inv.not_sm (x:Inv S N σ s) {a:Addr} (e:s.heap.get? a=Option.none):(a == sysModules)=false:=by
 cases q:a == sysModules with
 | false=>rfl
 | true =>
  refine X1p (S.sm) fun o h=>?_
  have:=x.keep _ _ h
  rw [<- eq_of_beq q,e] at this;cases this
theorem Loc.step {P':Addr->Prop}{cv:Nat->Value}{g:Heap} (l:Loc cv g tb env m N σ s.heap) (x:Step P' noO σ s σ' s') (hP:∀ a,P' a->N a):Loc cv g tb env m N σ' s'.heap:=by
 obtain ⟨mc,cm,n,c,o,ap,cl,r⟩:=l
 have oin:∀ a,Own env a->∃ ob,s.heap.get? a=some ob:=by
  intro a ha
  rcases ha with rfl | ⟨y,hy⟩
  ·refine X3pp (n) fun ob zz zz e zz=>?_;exact ⟨ob,e⟩
  ·refine X1pp (c y a hy) fun ob e zz=>?_;exact ⟨ob,e⟩
 have nsKeep:s'.heap.Ns env.locals mc:=by
  refine X3ppp (n) fun ob es ep e hd q=>?_
  refine X1pppp (x.there' e (o _ (.inl rfl)).1 id) fun o' e' zz d' zz=>?_
  exact ⟨o',es,ep,e',d'.trans hd,q⟩
 refine ⟨mc,cm,nsKeep,fun y cc hy=>?_,fun a ha=>⟨fun d=>?_,(o a ha).2⟩,ap,cl,fun y i av hi hm=>?_⟩
 ·refine X1pp (c y cc hy) fun ob e hd=>?_
  refine X1pppp (x.there' e (o _ (.inr ⟨y,hy⟩)).1 id) fun o' e' zz d' zz=>?_
  exact ⟨o',e',d'.trans hd⟩
 ·rcases x.dom a d with q | q
  ·exact (o a ha).1 q
  ·refine X1p (oin a ha) fun ob e=>?_;rw [q] at e;cases e
 ·exact LocAt.map (r y i av hi hm) (fun h2=>h2.step x (fun zz h=>h.elim) hP) (fun zz h1=>h1) (fun zz h1=>h1)
theorem Loc.weak {cv:Nat->Value}{g h:Heap}{m':Nat->Option AV} (l:Loc cv g tb env m N σ h) (hm:∀ i av,m' i=some av->m i=some av):Loc cv g tb env m' N σ h:=by
 obtain ⟨mc,cm,n,c,o,ap,cl,r⟩:=l
 exact ⟨mc,cm,n,c,o,ap,cl,fun x i av hi h=>r x i av hi (hm i av h)⟩
theorem St.to {P':Addr->Prop} (x:Mine.St S tb env N P b m σ s) (st:Step P' noO σ s σ' s') (i:Inv S N σ' s') (hP:∀ a,P' a->P a):Mine.St S tb env N P b m σ' s':=⟨i,x.loc.step st (fun a h=>x.pN a (hP a h)),x.frm.trans (st.wide hP),x.pN,x.new,x.own,x.gb⟩
theorem Inv.grow (x:Inv S N σ s) {h':Heap} (k:∀ a o,s.heap.get? a=some o->h'.get? a=some o) (tk:Nat):Inv S N σ { s with heap:=h',toks:=tk }/\Step noO noO σ s σ { s with heap:=h',toks:=tk }:=by
 have st:Step noO noO σ s σ { s with heap:=h',toks:=tk }:=Step.of_keeps k fun zz h=>.inl h
 exact ⟨⟨fun a o e=>k a o (x.keep a o e),x.gens,x.drawn,x.os,x.σg,x.σN,fun a h=>by refine X1pp (x.Nin a h) fun o e f=>?_;exact ⟨o,k a o e,f⟩,fun a o e=>(x.rep a o e).ext (Ext.of_keeps k) (fun zz h=>.inl h) (k a)⟩,st⟩
theorem St.grow (x:Mine.St S tb env N P b m σ s) {h':Heap} (k:∀ a o,s.heap.get? a=some o->h'.get? a=some o) (tk:Nat):Mine.St S tb env N P b m σ { s with heap:=h',toks:=tk }/\Step noO noO σ s σ { s with heap:=h',toks:=tk }:=by
 refine Ad (x.inv.grow k tk) fun i st=>?_
 exact ⟨x.to st i (fun zz h=>h.elim),st⟩
theorem AJ {a c:Addr}{o:AObj} (h:Dom (σ.set a o) c):c=a\/Dom σ c:=by
 by_cases e:c=a
 ·exact .inl e
 ·right;unfold Dom Store.set at h;rw [if_neg e] at h;exact h
theorem Inv.new (x:Inv S N σ s) {h':Heap} (k:∀ a o,s.heap.get? a=some o->h'.get? a=some o) (tk:Nat) {a:Addr} (ha:s.heap.get? a=Option.none) {o:AObj}
  (r:RepO S.cv h' (DN N (σ.set a o)) o a):Inv S N (σ.set a o) { s with heap:=h',toks:=tk }/\Step noO noO σ s (σ.set a o) { s with heap:=h',toks:=tk }:=by
 have st:Step noO noO σ s (σ.set a o) { s with heap:=h',toks:=tk }:=Step.of_keeps k fun c h=>(AJ h).elim (fun q=>.inr (q▸ha)) .inl
 refine ⟨⟨fun a o e=>k a o (x.keep a o e),x.gens,x.drawn,x.os,fun c h=>(st.dom c h).elim (x.σg c) x.not_g,fun c h=>(AJ h).elim (fun q n=>?_) (x.σN c),fun a h=>?_,fun c oc e=>?_⟩,st⟩
 ·subst q;refine X1pp (x.Nin c n) fun ob e zz=>?_;rw [ha] at e;cases e
 ·refine X1pp (x.Nin a h) fun o e f=>?_;exact ⟨o,k a o e,f⟩
 ·by_cases q:c=a
  ·subst q;rw [Store.set_self] at e;cases e;exact r
  ·rw [Store.set_ne _ _ q] at e
   exact (x.rep c oc e).ext (Ext.of_keeps k) (fun d h=>h.elim (fun h=>(AJ h).elim (fun q=>.inr (q▸ha)) fun q=>.inl (.inl q)) fun h=>.inl (.inr h)) (k c)
theorem St.new' (x:Mine.St S tb env N P b m σ s) {h':Heap} (k:∀ a o,s.heap.get? a=some o->h'.get? a=some o) (tk:Nat) {a:Addr} (ha:s.heap.get? a=Option.none) {o:AObj}
  (r:RepO S.cv h' (DN N (σ.set a o)) o a):Mine.St S tb env N P b m (σ.set a o) { s with heap:=h',toks:=tk }/\Step noO noO σ s (σ.set a o) { s with heap:=h',toks:=tk }:=by
 refine Ad (x.inv.new k tk ha r) fun i st=>?_
 exact ⟨x.to st i (fun zz h=>h.elim),st⟩
theorem Inv.upd (x:Inv S N σ s) {h':Heap}{a:Addr} (da:Dom σ a) (k:∀ c o,c≠a->s.heap.get? c=some o->h'.get? c=some o) (tk:Nat) {o:AObj}
  (r:RepO S.cv h' (DN N (σ.set a o)) o a):Inv S N (σ.set a o) { s with heap:=h',toks:=tk }/\Step noO noO σ s (σ.set a o) { s with heap:=h',toks:=tk }:=by
 have dd:∀ c,Dom (σ.set a o) c->Dom σ c:=fun c h=>(AJ h).elim (fun q=>q▸da) id
 have e0:Ext (DN N σ) s.heap h':=Ext.of_but fun c oc d e=>k c oc (fun q=>d (q▸.inl da)) e
 have st:Step noO noO σ s (σ.set a o) { s with heap:=h',toks:=tk }:=Step.of_but (fun c oc d zz e=>k c oc (fun q=>d (q▸da)) e) (fun c h=>.inl (dd c h)) (fun c oc e=>by
  by_cases q:c=a
  ·subst q;refine X1pp (r.there) fun ob h zz=>?_;exact ⟨ob,h⟩
  ·exact ⟨oc,k c oc q e⟩)
 refine ⟨⟨fun c oc e=>k c oc (fun q=>?_) (x.keep c oc e),x.gens,x.drawn,x.os,fun c h=>x.σg c (dd c h),fun c h=>x.σN c (dd c h),fun c h=>?_,fun c oc e=>?_⟩,st⟩
 ·subst q;rw [x.σg c da] at e;cases e
 ·refine X1pp (x.Nin c h) fun o e f=>?_;exact ⟨o,k c o (fun q=>x.σN a da (q▸h)) e,f⟩
 ·by_cases q:c=a
  ·subst q;rw [Store.set_self] at e;cases e;exact r
  ·rw [Store.set_ne _ _ q] at e
   exact (x.rep c oc e).ext e0 (fun d h=>.inl (h.imp (dd d) id)) (k c · q)
theorem St.upd (x:Mine.St S tb env N P b m σ s) {h':Heap}{a:Addr} (da:Dom σ a) (k:∀ c o,c≠a->s.heap.get? c=some o->h'.get? c=some o) (tk:Nat) {o:AObj}
  (r:RepO S.cv h' (DN N (σ.set a o)) o a):Mine.St S tb env N P b m (σ.set a o) { s with heap:=h',toks:=tk }/\Step noO noO σ s (σ.set a o) { s with heap:=h',toks:=tk }:=by
 refine Ad (x.inv.upd da k tk r) fun i st=>?_
 exact ⟨x.to st i (fun zz h=>h.elim),st⟩
theorem Inv.drop (x:Inv S N σ s) (h:∀ a o,σ' a=some o->σ a=some o):Inv S N σ' s/\Step noO noO σ s σ' s:=by
 have dd:∀ a,Dom σ' a->Dom σ a:=fun a d=>by
  cases e:σ' a with
  | none=>exact absurd e d
  | some o=>unfold Dom;rw [h a o e];simp
 have st:Step noO noO σ s σ' s:=Step.of_keeps (fun zz zz e=>e) fun a d=>.inl (dd a d)
 exact ⟨⟨x.keep,x.gens,x.drawn,x.os,fun a d=>x.σg a (dd a d),fun a d=>x.σN a (dd a d),x.Nin,fun a o e=>(x.rep a o (h a o e)).ext (Ext.refl _ _) (fun b h=>.inl (h.imp (dd b) id)) fun zz q=>q⟩,st⟩
theorem St.drop (x:Mine.St S tb env N P b m σ s) (h:∀ a o,σ' a=some o->σ a=some o):Mine.St S tb env N P b m σ' s/\Step noO noO σ s σ' s:=by
 refine Ad (x.inv.drop h) fun i st=>?_
 exact ⟨x.to st i (fun zz h=>h.elim),st⟩
theorem St.weak (x:Mine.St S tb env N P b m σ s) {m':Nat->Option AV} (h:∀ i av,m' i=some av->m i=some av):Mine.St S tb env N P b m' σ s:=⟨x.inv,x.loc.weak h,x.frm,x.pN,x.new,x.own,x.gb⟩
end
theorem Step.any {P O:Addr->Prop}{σ σ':Store}{s s':Shared} (x:Step noO noO σ s σ' s'):Step P O σ s σ' s':=(x.mono fun zz h=>h.elim).wide fun zz h=>h.elim
noncomputable def Fresh (σ:Store) (o:AObj) (fz:AV) (Q:AV->Store->Prop):Prop:=Q fz σ\/∃ i,∀ a,¬ Dom σ a->Q (.loc a i) (σ.set a o)
section
variable {F:Fx S}{m:Nat->Option AV}{σ:Store}{X:Value->Shared->Prop}{s:Shared}{Q:AV->Store->Prop}
theorem Rep.st {σ':Store}{s':Shared}{av:AV}{v:Value} (r:Rep S.cv s.heap (F.D σ) av v) (x:Step F.P F.O σ s σ' s') (h:F.St m σ' s'):Rep S.cv s'.heap (F.D σ') av v:=Mine.Rep.step x h.own h.pN r
theorem RepL.st {σ':Store}{s':Shared}{av:List AV}{v:List Value} (r:RepL S.cv s.heap (F.D σ) av v) (x:Step F.P F.O σ s σ' s') (h:F.St m σ' s'):RepL S.cv s'.heap (F.D σ') av v:=Mine.RepL.step x h.own h.pN r
theorem now {v:Value}{av:AV} (hs:F.St m σ s) (r:Rep S.cv s.heap (F.D σ) av v) (q:Q av σ) :
  PW F m σ s (PV F Q) v s:=⟨σ,Step.refl _ _ _ _,hs,av,r,q⟩
theorem DK {v:Value}{av:AV} (t:Nat) (hs:F.St m σ s) (r:Rep S.cv s.heap (F.D σ) av v) (q:Q av σ) :
  PW F m σ s (PV F Q) v { s with toks:=t }:=⟨σ,Step.toks _ _ _ _ _,hs.tok t,av,r,q⟩
theorem Iy {a:Addr}{o:AObj}{N:Addr->Prop} (ha:s.heap.get? a=Option.none):∀ b,DN N (σ.set a o) b->DN N σ b\/s.heap.get? b=Option.none :=
 fun zz h=>h.elim (fun h=>(AJ h).elim (fun q=>.inr (q▸ha)) fun q=>.inl (.inl q)) fun h=>.inl (.inr h)
theorem A2 {h':Heap}{tk:Nat}{a:Addr}{vs:List Value}{n:Nat}{l:List AV} (hs:F.St m σ s) (k:∀ b o,s.heap.get? b=some o->h'.get? b=some o) (ha:s.heap.get? a=Option.none)
  (e:h'.get? a=some (Ax vs.toArray n)) (r:RepL S.cv s.heap (F.D σ) l vs) (q:Fresh σ (.list l) (.list l) Q) :
  PW F m σ s (PV F Q) (.ref a) { s with heap:=h',toks:=tk }:=by
 rcases q with q | ⟨i,q⟩
 ·refine Ad (hs.grow k tk) fun h1 st=>?_
  exact ⟨σ,st.any,h1,_,.list e (hs.inv.not_D ha) (r.st st.any h1),q⟩
 ·refine Ad (hs.new' k tk ha (o:=.list l) (.list e (r.ext (Ext.of_keeps k) (Iy ha)))) fun h1 st=>?_
  exact ⟨_,st.any,h1,_,.loc a i,q a (hs.inv.not_dom ha)⟩
theorem HR {h':Heap}{tk:Nat}{a:Addr}{es:List DictEntry}{n:Nat}{l:List (Ab×AV)} (hs:F.St m σ s) (k:∀ b o,s.heap.get? b=some o->h'.get? b=some o) (ha:s.heap.get? a=Option.none)
  (e:h'.get? a=some (AP es.toArray n)) (nd:(l.map (·.1)).Nodup) (r:RepD S.cv s.heap (F.D σ) l es) (q:Fresh σ (.dict l) (.dict l) Q) :
  PW F m σ s (PV F Q) (.ref a) { s with heap:=h',toks:=tk }:=by
 rcases q with q | ⟨i,q⟩
 ·refine Ad (hs.grow k tk) fun h1 st=>?_
  exact ⟨σ,st.any,h1,_,.dict e (hs.inv.not_D ha) (hs.inv.not_sm ha) nd (r.step st.any h1.own h1.pN),q⟩
 ·refine Ad (hs.new' k tk ha (o:=.dict l) (.dict e (hs.inv.not_sm ha) nd (r.ext (Ext.of_keeps k) (Iy ha)))) fun h1 st=>?_
  exact ⟨_,st.any,h1,_,.loc a i,q a (hs.inv.not_dom ha)⟩
theorem Ar (h:Heap):h.get? h.objs.size=Option.none:=by
 cases q:h.get? h.objs.size with
 | none=>rfl
 | some o=>exact absurd (Heap.lt_size q) (Nat.lt_irrefl _)
theorem Am (h:Heap) (o:Obj):∀ b ob,h.get? b=some ob->(h.push o).get? b=some ob:=fun zz zz e=>Heap.get?_push_of_some o e
theorem IY {h':Heap}{tk:Nat}{a:Addr}{vs:List Value}{n:Nat}{l:List AV} (hs:F.St m σ s) (k:∀ b o,s.heap.get? b=some o->h'.get? b=some o) (ha:s.heap.get? a=Option.none)
  (e:h'.get? a=some (Be vs.toArray n)) (r:RepL S.cv s.heap (F.D σ) l vs) (q:Q (.tup l) σ) :
  PW F m σ s (PV F Q) (.ref a) { s with heap:=h',toks:=tk }:=by
 refine Ad (hs.grow k tk) fun h1 st=>?_
 exact ⟨σ,st.any,h1,_,.tup e (hs.inv.not_D ha) (r.st st.any h1),q⟩
end
end Mine
end
section
namespace Mine
open PySem PyProof.Rows
variable {prog:Program}{w:World}{S:Sta prog w}
section
variable {F:Fx S}{m:Nat->Option AV}{σ:Store}{X:Value->Shared->Prop}{Q:AV->Store->Prop}
theorem ET.mono {e:E}{Q':AV->Store->Prop} (h:ET F m σ e Q X) (k:∀ a σ,Q a σ->Q' a σ):ET F m σ e Q' X :=
 fun pe hc s hs=>(h pe hc s hs).mono fun _ _ _ _ _ ⟨av,r,q⟩=>⟨av,r,k _ _ q⟩
theorem TT.mono {e:E}{Q Q':Bool->Store->Prop} (h:TT F m σ e Q X) (k:∀ a σ,Q a σ->Q' a σ):TT F m σ e Q' X :=
 fun pe hc s hs=>(h pe hc s hs).mono fun zz zz zz zz zz q=>k _ _ q
theorem ET.none (h:Q .none σ):ET F m σ .none Q X:=by
 intro pe hc s hs;refine X2p (hc.inv) fun zz zz he17_2=>?_;subst he17_2;exact wpAny_Constant_none (now hs .none h)
theorem ET.bool {b:Bool} (h:Q (.bool b) σ):ET F m σ (.bool b) Q X:=by
 intro pe hc s hs;refine X2p (hc.inv) fun zz zz he19_2=>?_;subst he19_2;exact wpAny_Constant_bool (now hs (.bool b) h)
theorem ET.int {i:Int} (h:Q (.int i) σ):ET F m σ (.int i) Q X:=by
 intro pe hc s hs;refine X2p (hc.inv) fun zz zz he21_2=>?_;subst he21_2;exact wpAny_Constant_int (DK _ hs (.int i _) h)
theorem ET.str {x:Str} (h:Q (.str x) σ):ET F m σ (.str x) Q X:=by
 intro pe hc s hs;refine X2p (hc.inv) fun zz zz he23_2=>?_;subst he23_2;exact wpAny_Constant_str (DK _ hs (.str x _) h)
theorem load_v {i:Nat}{x:Str}{av:AV}{s:Shared}{Q':Value->Shared->Prop} (hx:IsV F.tb F.sc x i) (hm:m i=some av) (hs:F.St m σ s) (h:∀ v,Rep S.cv s.heap (F.D σ) av v->Q' v s)
: wpAny (model prog w) F.A (loadName F.env x) Q' X s:=by
 obtain ⟨mc,cm,n,c,_,ap,_,r⟩:=hs.loc
 have:=r x i av hx.ix hm
 have kd:F.env.kindOf x=F.sc.lookup x:=rfl
 rcases hx.kind with q | q | q
 ·rw [kd,q] at this
  refine X1pp (this) fun v h1 h2=>?_
  exact wpAny_loadName_local F.fk (kd.trans q) n h1 (h v h2)
 ·rw [kd,q] at this
  refine X2ppp (this) fun v cc h0 h1 h2=>?_
  have:=c x cc h0
  rw [h1] at this
  exact wpAny_loadName_cell F.fk (kd.trans q) h0 this (h v h2)
 ·rw [kd,q] at this
  refine X2ppp (this) fun v cc h0 h1 h2=>?_
  have:=c x cc h0
  rw [h1] at this
  exact wpAny_loadName_free F.fk (kd.trans q) h0 this (h v h2) (IR hx.ok)
theorem ET.v {i:Nat}{av:AV} (hm:m i=some av) (h:Q av σ):ET F m σ (.v i) Q X:=by
 intro pe hc s hs
 refine X2pp (hc.inv) fun zz zz he48_2 hx=>?_
 subst he48_2
 exact wpAny_Name (load_v hx hm hs fun v r=>now hs r h) (AL hx.ok)
structure Glob (S:Sta prog w) (i:Nat) (v:Value):Prop where
 at_:∀ x,ixS GT x=some i->S.mg x=some v\/(S.mg x=Option.none/\S.mb x=some v)
theorem DM {A:Around}{i:Nat}{x:Str}{pos:Pos}{v:Value}{s:Shared}{Q':Value->Shared->Prop} (hx:IsG F.sc x i) (hg:Glob S i v) (hs:F.St m σ s) (h:Q' v s):wpAny (model prog w) A (eval (.Name x pos) F.env) Q' X s:=by
 have ng:s.heap.Ns F.env.globals S.mg:=by rw [F.fg];exact S.ng.keeps hs.inv.keep
 have nb:s.heap.Ns F.env.builtins S.mb:=by rw [F.fb];exact S.nb.keeps hs.inv.keep
 rcases hg.at_ x hx.ix with q | ⟨q,q'⟩
 ·exact Calls.Name_function_global F.fk hx.kind (Calls.loadGlobal_global ng q h) (AL hx.ok)
 ·exact Calls.Name_function_global F.fk hx.kind (Calls.loadGlobal_builtin ng q nb q' h) (AL hx.ok)
theorem ET.g_int {i:Nat}{n:Int}{t:Tok} (hg:Glob S i (.int n t)) (h:Q (.int n) σ):ET F m σ (.g i) Q X:=by
 intro pe hc s hs
 refine X2pp (hc.inv) fun zz zz he62_2 hx=>?_
 subst he62_2
 exact DM hx hg hs (now hs (.int n t) h)
theorem EsT.nil {Q:List AV->Store->Prop} (h:Q [] σ):EsT F m σ [] Q X:=by
 intro pes pos hc s hs
 obtain rfl:=hc.inv_nil
 exact wpAny_items_nil ⟨σ,Step.refl _ _ _ _,hs,[],.nil,h⟩
theorem AE {e:PySem.Expr}{r:List PySem.Expr}{env:Env} (h:A4 e=true):starEach (e::r) env=(false,eval e env)::starEach r env:=by
 cases e<;>first | rfl | cases h
theorem EsT.cons {e:E}{r:List E}{Q:List AV->Store->Prop} (h:ET F m σ e (fun a σ₁=>EsT F m σ₁ r (fun as σ₂=>Q (a::as) σ₂) X) X):EsT F m σ (e::r) Q X:=by
 intro pes pos hc s hs
 refine X2pppp (hc.inv) fun zz zz he73_2 hn he hr=>?_
 subst he73_2
 refine wpAny_items_cons ?_ (AE hn)
 refine (h _ he s hs).out ?_
 rintro va σ₁ s₁ st₁ h₁ ⟨a,ra,AA⟩
 refine (AA _ _ hr s₁ h₁).out ?_
 rintro vs σ₂ s₂ st₂ h₂ ⟨as,rs,AW⟩
 exact ⟨σ₂,st₁.trans st₂,h₂,a::as,.cons (ra.st st₂ h₂) rs,AW⟩
theorem RepL.length {cv:Nat->Value}{h:Heap}{D:Addr->Prop}{l:List AV}{vs:List Value} (r:RepL cv h D l vs):vs.length=l.length:=by
 induction l generalizing vs with
 | nil=>rw [show vs=[] from r.inv];rfl
 | cons x l ih=>refine X2ppp (r.inv) fun v us he84_2 zz b=>?_;subst he84_2;exact congrArg Nat.succ (ih b)
noncomputable abbrev big:Nat:=1000000
theorem A7 {n:Nat} (h:n<=big):n<=sizeLine:=by unfold big at h;rw [sizeLine_eq];exact lin [n] [] (.nle 1 V0 AH) [.nle 1 V0 Al] rfl h
theorem ET.tup {es:List E} (h:EsT F m σ es (fun l σ'=>l.length<=big/\Q (.tup l) σ') X):ET F m σ (.tup es) Q X:=by
 intro pe hc s hs
 refine X3pp (hc.inv) fun zz zz zz he90_3 he=>?_
 subst he90_3
 refine wpAny_Tuple ((h _ _ he s hs).out ?_)
 rintro vs σ₁ s₁ st₁ h₁ ⟨l,r,hz,q⟩
 refine ⟨A7 (by rw [r.length];exact hz),?_⟩
 obtain ⟨σ',st,h2,r2⟩:=IY (tk:=s₁.toks) h₁ (Am _ _) (Ar _) (Heap.get?_push_size _ rfl) r q
 exact ⟨σ',st₁.trans st,h2,r2⟩
theorem ET.list {es:List E} (h:EsT F m σ es (fun l σ'=>l.length<=big/\Fresh σ' (.list l) (.list l) Q) X):ET F m σ (.list es) Q X:=by
 intro pe hc s hs
 refine X2pp (hc.inv) fun zz zz he98_2 he=>?_
 subst he98_2
 refine wpAny_List ((h _ _ he s hs).out ?_)
 rintro vs σ₁ s₁ st₁ h₁ ⟨l,r,hz,q⟩
 refine ⟨A7 (by rw [r.length];exact hz),?_⟩
 obtain ⟨σ',st,h2,r2⟩:=A2 (tk:=s₁.toks) h₁ (Am _ _) (Ar _) (Heap.get?_push_size _ rfl) r q
 exact ⟨σ',st₁.trans st,h2,r2⟩
noncomputable def BT (F:Fx S) (m:Nat->Option AV) (σ:Store) (op:Operator) (a b:AV) (Q:AV->Store->Prop) (X:Value->Shared->Prop):Prop :=
 ∀ va vb s,F.St m σ s->Rep S.cv s.heap (F.D σ) a va->Rep S.cv s.heap (F.D σ) b vb->VT F m σ s (binaryOp op va vb) Q X
noncomputable def KT (F:Fx S) (m:Nat->Option AV) (σ:Store) (op:CmpOp) (a b:AV) (Q:Bool->Store->Prop) (X:Value->Shared->Prop):Prop :=
 ∀ va vb s,F.St m σ s->Rep S.cv s.heap (F.D σ) a va->Rep S.cv s.heap (F.D σ) b vb->W F m σ s (compareOp op va vb) (fun v σ' zz=>∃ c,v=.bool c/\Q c σ') X
theorem ET.bin {op:Operator}{l r:E} (h:ET F m σ l (fun a σ₁=>ET F m σ₁ r (fun b σ₂=>BT F m σ₂ op a b Q X) X) X):ET F m σ (.bin op l r) Q X:=by
 intro pe hc s hs
 refine X3ppp (hc.inv) fun zz zz zz he115_3 hl hr=>?_
 subst he115_3
 refine wpAny_BinOp ((h _ hl s hs).out ?_)
 rintro va σ₁ s₁ st₁ h₁ ⟨a,ra,AA⟩
 refine (AA _ hr s₁ h₁).out ?_
 rintro vb σ₂ s₂ st₂ h₂ ⟨b,rb,AW⟩
 exact (AW va vb s₂ h₂ (ra.st st₂ h₂) rb).later (st₁.trans st₂)
theorem BT.add {a b:Int} (h:Q (.int (a+b)) σ):BT F m σ .Add (.int a) (.int b) Q X:=by
 intro va vb s hs ra rb;refine X1p (ra.inv) fun zz he123_1=>?_;subst he123_1;refine X1p (rb.inv) fun zz he123_1=>?_;subst he123_1;exact add_int (DK _ hs (.int _ _) h)
theorem BT.sub {a b:Int} (h:Q (.int (a - b)) σ):BT F m σ .Sub (.int a) (.int b) Q X:=by
 intro va vb s hs ra rb;refine X1p (ra.inv) fun zz he125_1=>?_;subst he125_1;refine X1p (rb.inv) fun zz he125_1=>?_;subst he125_1;exact sub_int (DK _ hs (.int _ _) h)
theorem BT.mul {a b:Int} (hm:IntMulOk a b) (h:Q (.int (a * b)) σ):BT F m σ .Mult (.int a) (.int b) Q X:=by
 intro va vb s hs ra rb;refine X1p (ra.inv) fun zz he127_1=>?_;subst he127_1;refine X1p (rb.inv) fun zz he127_1=>?_;subst he127_1;exact mul_int (DK _ hs (.int _ _) h) hm
theorem BT.mod {a b:Int} (hb:b≠0) (h:Q (.int (a.fmod b)) σ):BT F m σ .Mod (.int a) (.int b) Q X:=by
 intro va vb s hs ra rb;refine X1p (ra.inv) fun zz he129_1=>?_;subst he129_1;refine X1p (rb.inv) fun zz he129_1=>?_;subst he129_1;exact mod_int hb (DK _ hs (.int _ _) h)
theorem BT.div {a b:Int} (hb:b≠0) (hb':b.natAbs<1073741824) (h:Q (.int (a.fdiv b)) σ):BT F m σ .FloorDiv (.int a) (.int b) Q X:=by
 intro va vb s hs ra rb;refine X1p (ra.inv) fun zz he131_1=>?_;subst he131_1;refine X1p (rb.inv) fun zz he131_1=>?_;subst he131_1;exact floordiv_int hb (DK _ hs (.int _ _) h) (.inl (PyProof.noPylong_small hb'))
theorem BT.addStr {a b:Str} (hz:a.length+b.length<=big) (h:Q (.str (a++b)) σ):BT F m σ .Add (.str a) (.str b) Q X:=by
 intro va vb s hs ra rb;refine X1p (ra.inv) fun zz he133_1=>?_;subst he133_1;refine X1p (rb.inv) fun zz he133_1=>?_;subst he133_1;exact add_str (fun t' tk=>DK tk hs (.str _ _) h) (A7 hz)
theorem BT.mulStr {a:Str}{n:Int} (hok:MulOk a n) (h:Q (.str (Txt.mul a n)) σ):BT F m σ .Mult (.str a) (.int n) Q X:=by
 intro va vb s hs ra rb;refine X1p (ra.inv) fun zz he135_1=>?_;subst he135_1;refine X1p (rb.inv) fun zz he135_1=>?_;subst he135_1;exact SB.mul hok (fun t' tk=>DK tk hs (.str _ _) h)
end
end Mine
end
section
namespace Mine
open PySem PyProof.Rows
variable {prog:Program}{w:World}{S:Sta prog w}
noncomputable def dl (σ:Store):AV->Option (List AV)
 | .list l=>some l
 | .loc a _=>(σ a).bind AObj.list?
 | _=>Option.none
noncomputable def dd (σ:Store):AV->Option (List (Ab×AV))
 | .dict l=>some l
 | .loc a _=>(σ a).bind AObj.dict?
 | _=>Option.none
theorem dl_list (σ:Store) (l:List AV):dl σ (.list l)=some l:=rfl
theorem Bw {σ:Store}{a:Addr}{i:Nat}{l:List AV} (h:σ a=some (.list l)):dl σ (.loc a i)=some l:=by show (σ a).bind _=_;rw [h];rfl
theorem E6 {σ:Store}{a:Addr}{i:Nat}{l:List (Ab×AV)} (h:σ a=some (.dict l)):dd σ (.loc a i)=some l:=by show (σ a).bind _=_;rw [h];rfl
section
variable {N:Addr->Prop}{σ:Store}{s:Shared}
theorem Rep.lst {a:AV}{v:Value}{l:List AV} (r:Rep S.cv s.heap (DN N σ) a v) (hs:Inv S N σ s) (h:dl σ a=some l) :
  ∃ ad vs n,v=.ref ad/\s.heap.get? ad=some (Ax (List.toArray vs) n)/\RepL S.cv s.heap (DN N σ) l vs:=by
 cases a with
 | list l'=>refine X3pppp (r.inv) fun a b c e f zz r=>?_;exact ⟨a,b,c,e,f,Option.some.inj h▸r⟩
 | loc ad ii =>
  refine X1pp (Aw (show (σ ad).bind AObj.list?=some l from h)) fun o e h=>?_
  obtain rfl:=AObj.list?_out h
  refine X2pp ((hs.rep ad _ e).inv) fun vs n g q=>?_
  exact ⟨ad,vs,n,r.inv,g,q⟩
 | _=>exact (Ae rfl h).elim
theorem Rep.dct {a:AV}{v:Value}{l:List (Ab×AV)} (r:Rep S.cv s.heap (DN N σ) a v) (hs:Inv S N σ s) (h:dd σ a=some l) :
  ∃ ad es n,v=.ref ad/\s.heap.get? ad=some (AP (List.toArray es) n)/\(ad == sysModules)=false/\(l.map (·.1)).Nodup/\RepD S.cv s.heap (DN N σ) l es:=by
 cases a with
 | dict l'=>refine X3pppp (r.inv) fun a b c e f zz r=>?_;exact ⟨a,b,c,e,f,Option.some.inj h▸r⟩
 | loc ad ii =>
  refine X1pp (Aw (show (σ ad).bind AObj.dict?=some l from h)) fun o e h=>?_
  obtain rfl:=AObj.dict?_out h
  refine X2pp ((hs.rep ad _ e).inv) fun vs n g q=>?_
  exact ⟨ad,vs,n,r.inv,g,q⟩
 | _=>exact (Ae rfl h).elim
end
mutual
noncomputable def Fn:AV->Option PyData
 | .none=>some .none
 | .bool b=>some (.bool b)
 | .int i=>some (.int i)
 | .str s=>some (.str s)
 | .tup l=>(CH l).map .tuple
 | .list l=>(CH l).map .list
 | .dict _=>Option.none
 | .inst _=>Option.none
 | .loc _ _=>Option.none
 | .exc _=>Option.none
 | .range _ _ _=>Option.none
 | .nums _=>Option.none
 | .cls _=>Option.none
noncomputable def CH:List AV->Option (List PyData)
 | []=>some []
 | x::l=>(Fn x).bind fun d=>(CH l).map fun ds=>d::ds
end
theorem D9 {h:Heap}{v:Value}{d d':PyData} (e:some d=some d') (r:∃ as,Reads h v d as):∃ as,Reads h v d' as:=Option.some.inj e▸r
theorem IF {h:Heap}{ds:List PyData} (e:some []=some ds):∃ as,ReadsAll h [] ds as:=Option.some.inj e▸⟨_,.nil⟩
theorem Rep.reads {cv:Nat->Value}{h:Heap}{D:Addr->Prop}{a:AV}{v:Value} (r:Rep cv h D a v):∀ {d:PyData},Fn a=some d->∃ as,Reads h v d as :=
 Rep.rec (motive_1:=fun a v zz=>∀ {d:PyData},Fn a=some d->∃ as,Reads h v d as) (motive_2:=fun l vs zz=>∀ {ds:List PyData},CH l=some ds->∃ as,ReadsAll h vs ds as) (motive_3:=fun zz zz zz=>True) (motive_4:=fun zz zz zz=>True)
  (fun e=>D9 e ⟨_,.none⟩) (fun b zz e=>D9 e ⟨_,.bool b⟩) (fun i t zz e=>D9 e ⟨_,.int i t⟩) (fun x t zz e=>D9 e ⟨_,.str x t⟩)
  (fun g zz zz ih zz e=>by
   refine X1pp (Option.map_eq_some_iff.mp e) fun ds e1 he73_2=>?_
   subst he73_2
   obtain ⟨as,q⟩:=ih e1
   exact ⟨as,.tuple g rfl rfl q⟩)
  (fun g zz zz ih zz e=>by
   refine X1pp (Option.map_eq_some_iff.mp e) fun ds e1 he77_2=>?_
   subst he77_2
   obtain ⟨as,q⟩:=ih e1
   exact ⟨_,.list g rfl rfl q⟩)
  (fun zz zz zz zz zz zz zz e=>(Ae rfl e).elim) (fun zz zz zz zz zz zz zz zz e=>(Ae rfl e).elim) (fun zz zz zz e=>(Ae rfl e).elim) (fun zz zz zz zz zz zz e=>(Ae rfl e).elim) (fun zz zz zz e=>(Ae rfl e).elim) (fun zz zz e=>(Ae rfl e).elim) (fun zz zz zz zz zz zz e=>(Ae rfl e).elim)
  (fun e=>IF e)
  (fun zz zz ih1 ih2 zz e=>by
   refine X1pp (Option.bind_eq_some_iff.mp e) fun d e1 e=>?_
   refine X1pp (Option.map_eq_some_iff.mp e) fun ds e2 he84_2=>?_
   subst he84_2
   refine X1p (ih1 e1) fun as q=>?_
   refine X1p (ih2 e2) fun bs q'=>?_
   exact ⟨_,.cons q q'⟩)
  trivial (fun zz zz zz zz zz zz=>trivial) trivial (fun zz zz zz zz=>trivial) r
theorem RepL.reads {cv:Nat->Value}{h:Heap}{D:Addr->Prop}{l:List AV}{vs:List Value}{ds:List PyData} (r:RepL cv h D l vs) (e:CH l=some ds):∃ as,ReadsAll h vs ds as:=by
 induction l generalizing vs ds with
 | nil=>rw [show vs=[] from r.inv];exact IF e
 | cons x l ih =>
  refine X2ppp (r.inv) fun v us he93_2 a b=>?_
  subst he93_2
  refine X1pp (Option.bind_eq_some_iff.mp e) fun d e1 e=>?_
  refine X1pp (Option.map_eq_some_iff.mp e) fun ds e2 he95_2=>?_
  subst he95_2
  refine X1p (a.reads e1) fun as q=>?_
  refine X1p (ih b e2) fun bs q'=>?_
  exact ⟨_,.cons q q'⟩
noncomputable def Bs (σ:Store) (a:AV):Option PyData:=match a with
 | .loc _ _=>(dl σ a).bind fun l=>(CH l).map .list
 | a=>Fn a
theorem Rep.readsS {N:Addr->Prop}{σ:Store}{s:Shared}{a:AV}{v:Value}{d:PyData} (r:Rep S.cv s.heap (DN N σ) a v) (hs:Inv S N σ s) (h:Bs σ a=some d):∃ as,Reads s.heap v d as:=by
 cases a with
 | loc ad ii =>
  simp only [Bs,Option.bind_eq_some_iff,Option.map_eq_some_iff] at h
  refine X1pp (h) fun l h1 hy107_0=>?_
  refine X1pp (hy107_0) fun ds h2 he107_4=>?_
  subst he107_4
  refine X3ppp (r.lst hs h1) fun ad vs n he108_3 e rl=>?_
  subst he108_3
  refine X1p (rl.reads h2) fun as q=>?_
  exact ⟨_,.list e rfl rfl (by simpa using q)⟩
 | _=>exact r.reads h
theorem RepL.app {cv:Nat->Value}{h:Heap}{D:Addr->Prop}{l k:List AV}{vs ws:List Value} (r1:RepL cv h D l vs) (r2:RepL cv h D k ws):RepL cv h D (l++k) (vs++ws):=by
 induction l generalizing vs with
 | nil=>rw [show vs=[] from r1.inv];exact r2
 | cons v l ih=>obtain ⟨u,us,rfl,a,b⟩:=r1.inv;exact .cons a (ih b)
section
variable {F:Fx S}{m:Nat->Option AV}{σ:Store}{X:Value->Shared->Prop}{Q:AV->Store->Prop}
theorem BT.addList {a b:AV}{l k:List AV} (ha:dl σ a=some l) (hb:dl σ b=some k) (hz:l.length+k.length<=big) (h:Fresh σ (.list (l++k)) (.list (l++k)) Q):BT F m σ .Add a b Q X:=by
 intro va vb s hs ra rb
 refine X3ppp (ra.lst hs.inv ha) fun ad vs n he122_3 e rl=>?_
 subst he122_3
 refine X3ppp (rb.lst hs.inv hb) fun bd ws n2 he123_3 e2 rk=>?_
 subst he123_3
 have hz':vs.toArray.size+ws.toArray.size<=sizeLine:=by
  have h1:=rl.length;have h2:=rk.length
  simp only [List.size_toArray]
  exact A7 (by exact lin [(l.length),(k.length),(big),(vs.length),(ws.length)] [] (.nle 1 (.add V3 V4) V2) [.nle 1 (.add V0 V1) V2,.neq 1 V3 V0,.neq 1 V4 V1] rfl hz h1 h2)
 refine concat_meets ⟨_,e,rfl⟩ ⟨_,e2,rfl⟩ noFill_list_add seq_list_add PySem.F.slot_list_add PySem.F.entry_list_add (PySem.F.args_list_add_2 _ _) (list_addW ad bd vs.toArray ws.toArray n n2 Option.none Option.none #[] #[] hz') ⟨e,e2,?_⟩
 have q:vs.toArray++ws.toArray=(vs++ws).toArray:=by simp
 rw [q]
 exact A2 (tk:=s.toks) hs (Am _ _) (Ar _) (Heap.get?_push_size _ rfl) (rl.app rk) h
theorem KT.intEq {a b:Int}{Q:Bool->Store->Prop} (h:Q (a == b) σ):KT F m σ .Eq (.int a) (.int b) Q X:=by
 intro va vb s hs ra rb;refine X1p (ra.inv) fun zz he136_1=>?_;subst he136_1;refine X1p (rb.inv) fun zz he136_1=>?_;subst he136_1;exact eq_int ⟨σ,Step.refl _ _ _ _,hs,_,rfl,h⟩
theorem KT.intNe {a b:Int}{Q:Bool->Store->Prop} (h:Q (a != b) σ):KT F m σ .NotEq (.int a) (.int b) Q X:=by
 intro va vb s hs ra rb;refine X1p (ra.inv) fun zz he138_1=>?_;subst he138_1;refine X1p (rb.inv) fun zz he138_1=>?_;subst he138_1;exact ne_int ⟨σ,Step.refl _ _ _ _,hs,_,rfl,h⟩
theorem KT.intLt {a b:Int}{Q:Bool->Store->Prop} (h:Q (decide (a<b)) σ):KT F m σ .Lt (.int a) (.int b) Q X:=by
 intro va vb s hs ra rb;refine X1p (ra.inv) fun zz he140_1=>?_;subst he140_1;refine X1p (rb.inv) fun zz he140_1=>?_;subst he140_1;exact lt_int ⟨σ,Step.refl _ _ _ _,hs,_,rfl,h⟩
theorem KT.intLe {a b:Int}{Q:Bool->Store->Prop} (h:Q (decide (a<=b)) σ):KT F m σ .LtE (.int a) (.int b) Q X:=by
 intro va vb s hs ra rb;refine X1p (ra.inv) fun zz he142_1=>?_;subst he142_1;refine X1p (rb.inv) fun zz he142_1=>?_;subst he142_1;exact le_int ⟨σ,Step.refl _ _ _ _,hs,_,rfl,h⟩
theorem KT.intGt {a b:Int}{Q:Bool->Store->Prop} (h:Q (decide (b<a)) σ):KT F m σ .Gt (.int a) (.int b) Q X:=by
 intro va vb s hs ra rb;refine X1p (ra.inv) fun zz he144_1=>?_;subst he144_1;refine X1p (rb.inv) fun zz he144_1=>?_;subst he144_1;exact gt_int ⟨σ,Step.refl _ _ _ _,hs,_,rfl,h⟩
theorem KT.eq {a b:AV}{da db:PyData}{Q:Bool->Store->Prop} (ha:Bs σ a=some da) (hb:Bs σ b=some db) (sa:SeqAt.shaped da=true) (sb:SeqAt.shaped db=true) (h:Q (PyData.eqv da db) σ):KT F m σ .Eq a b Q X:=by
 intro va vb s hs ra rb
 refine X1p (ra.readsS hs.inv ha) fun as ra=>?_
 refine X1p (rb.readsS hs.inv hb) fun bs rb=>?_
 exact eq_dataH ra rb sa sb (by have:=F.room.un;unfold cLine;exact lin [(F.A.units),(F.k)] [] (.nlt 1 (.add V0 K64) Gf) [.nlt 1 (.add V0 (.mul 20 V1)) Bz] rfl this) ⟨σ,Step.refl _ _ _ _,hs,_,rfl,h⟩
theorem KT.ne {a b:AV}{da db:PyData}{Q:Bool->Store->Prop} (ha:Bs σ a=some da) (hb:Bs σ b=some db) (sa:SeqAt.shaped da=true) (sb:SeqAt.shaped db=true) (h:Q (!PyData.eqv da db) σ):KT F m σ .NotEq a b Q X:=by
 intro va vb s hs ra rb
 refine X1p (ra.readsS hs.inv ha) fun as ra=>?_
 refine X1p (rb.readsS hs.inv hb) fun bs rb=>?_
 exact ne_dataH ra rb sa sb (by have:=F.room.un;unfold cLine;exact lin [(F.A.units),(F.k)] [] (.nlt 1 (.add V0 K64) Gf) [.nlt 1 (.add V0 (.mul 20 V1)) Bz] rfl this) ⟨σ,Step.refl _ _ _ _,hs,_,rfl,h⟩
noncomputable def key (k:Ab):List Int:=[k.1,k.2]
class inductive XsOf (cv:Nat->Value) (h:Heap) (D:Addr->Prop):List (Ab×AV)->List (List Int×Addr×Value)->Prop
 | nil:XsOf cv h D [] []
 | cons {k:Ab}{x:AV}{l:List (Ab×AV)}{t:Addr}{tx ty:Tok}{n:Nat}{v:Value}{xs:List (List Int×Addr×Value)} :
   h.get? t=some (Be #[.int k.1 tx,.int k.2 ty] n)->¬ D t->Rep cv h D x v->XsOf cv h D l xs->XsOf cv h D ((k,x)::l) ((key k,t,v)::xs)
theorem HP {h:Heap}{k:Ab}{t:Addr}{tx ty:Tok}{n:Nat} (e:h.get? t=some (Be #[.int k.1 tx,.int k.2 ty] n)):IsTupleKey (intKind prog w) h (key k) t :=
 ⟨_,_,n,e,rfl,rfl,.cons (by simp [intKind,Value.isInt]) (.cons (by simp [intKind,Value.isInt]) .nil)⟩
theorem RepD.xs {cv:Nat->Value}{h:Heap}{D:Addr->Prop}{l:List (Ab×AV)}{es:List DictEntry} (r:RepD cv h D l es):∃ xs,XsOf cv h D l xs/\es=xs.map (entryOfKey (tupleKind (intKind prog w))):=by
 induction l generalizing es with
 | nil=>exact ⟨[],.nil,r.inv⟩
 | cons p l ih =>
  refine X6ppppp (r.inv) fun t tx ty n v r he168_6 e d q rs=>?_
  subst he168_6
  obtain ⟨xs,h1,h2⟩:=ih rs
  exact ⟨_,.cons e d q h1,by rw [h2];rfl⟩
theorem XsOf.repD {cv:Nat->Value}{h:Heap}{D:Addr->Prop}{l:List (Ab×AV)}{xs:List (List Int×Addr×Value)} (r:XsOf cv h D l xs):RepD cv h D l (xs.map (entryOfKey (tupleKind (intKind prog w)))):=by
 induction r with
 | nil=>exact .nil
 | cons e d r _ ih=>exact .cons e d r ih
theorem FM {a b:Ab} (h:key a=key b):a=b:=by
 obtain ⟨a1,a2⟩:=a;obtain ⟨b1,b2⟩:=b
 simp only [key,List.cons.injEq,and_true] at h
 rw [h.1,h.2]
theorem XsOf.keys {cv:Nat->Value}{h:Heap}{D:Addr->Prop}{l:List (Ab×AV)}{xs:List (List Int×Addr×Value)} (r:XsOf cv h D l xs):xs.map (·.1)=l.map fun p=>key p.1:=by
 induction r with
 | nil=>rfl
 | cons _ _ _ _ ih=>rw [List.map_cons,List.map_cons,ih]
theorem HH {l:List (Ab×AV)} (h:(l.map (·.1)).Nodup):(l.map fun p=>key p.1).Nodup:=by
 have:(l.map fun p=>key p.1)=(l.map (·.1)).map key:=by rw [List.map_map];rfl
 rw [this]
 exact List.pairwise_map.mpr (h.imp fun hne q=>hne (FM q))
theorem XsOf.is {cv:Nat->Value}{h:Heap}{D:Addr->Prop}{l:List (Ab×AV)}{xs:List (List Int×Addr×Value)} (r:XsOf cv h D l xs):∀ x∈xs,(tupleKind (intKind prog w)).is h x.1 x.2.1:=by
 induction r with
 | nil=>exact fun zz hx=>absurd hx List.not_mem_nil
 | cons e _ _ _ ih=>exact fun x hx=>(List.mem_cons.mp hx).elim (fun q=>q▸HP e) (ih x)
theorem HX {cv:Nat->Value}{h:Heap}{D:Addr->Prop}{l:List (Ab×AV)}{xs:List (List Int×Addr×Value)}{d:Addr}{n:Nat} (x:XsOf cv h D l xs) (nd:(l.map (·.1)).Nodup)
  (e:h.get? d=some (AP (xs.map (entryOfKey (tupleKind (intKind prog w)))).toArray n)):h.DictOfH (tupleKind (intKind prog w)) d xs :=
 ⟨_,_,n,e,⟨rfl,rfl,rfl⟩,rfl,by simp,x.is,by rw [x.keys];exact HH nd⟩
noncomputable def BW (l:List (Ab×AV)) (k:Ab):Option AV:=(l.find? fun p=>decide (p.1=k)).map (·.2)
theorem XsOf.at_ {cv:Nat->Value}{h:Heap}{D:Addr->Prop} (k:Ab) {l:List (Ab×AV)}{xs:List (List Int×Addr×Value)} (r:XsOf cv h D l xs) :
  match BW l k,atKey xs (key k) with
  | some av,some p=>Rep cv h D av p.2
  | Option.none,Option.none=>True
  | _,_=>False:=by
 induction r with
 | nil=>exact trivial
 | @cons k' x l t _ _ _ v xs e d r rs ih =>
  unfold BW atKey at ih ⊢
  by_cases q:k'=k
  ·subst q;simp only [List.find?_cons,decide_true,Option.map_some];exact r
  ·have q':¬ key k'=key k:=fun z=>q (FM z)
   simp only [List.find?_cons,decide_eq_false q,decide_eq_false q']
   exact ih
noncomputable abbrev sp (k:Ab):AV:=.tup [.int k.1,.int k.2]
theorem Rep.spot {cv:Nat->Value}{h:Heap}{D:Addr->Prop}{k:Ab}{v:Value} (r:Rep cv h D (sp k) v):∃ t tx ty n,v=.ref t/\h.get? t=some (Be #[.int k.1 tx,.int k.2 ty] n)/\¬ D t:=by
 obtain ⟨t,vs,n,rfl,e,d,r⟩:=r.inv
 obtain ⟨v,us,rfl,r1,rr⟩:=r.inv
 refine X2ppp (rr.inv) fun u ws he216_2 r2 rz=>?_
 subst he216_2
 obtain rfl:=rz.inv
 refine X1p (r1.inv) fun tx he218_1=>?_
 subst he218_1
 refine X1p (r2.inv) fun ty he219_1=>?_
 subst he219_1
 exact ⟨_,_,_,_,rfl,e,d⟩
theorem CJ (F:Fx S):(tupleKind (intKind prog w)).room F.A.in1:=by
 show F.A.in1.units<cLine
 have:=F.room.un;unfold cLine;simp;exact lin [(F.A.units),(F.k)] [] (.nlt 1 (.add V0 K1) Gf) [.nlt 1 (.add V0 (.mul 20 V1)) Bz] rfl this
theorem room_0 (F:Fx S):(tupleKind (intKind prog w)).room F.A:=by
 show F.A.units<cLine
 have:=F.room.un;unfold cLine;exact lin [(F.A.units),(F.k)] [] (.nlt 1 V0 Gf) [.nlt 1 (.add V0 (.mul 20 V1)) Bz] rfl this
theorem KT.inDict {k:Ab}{b:AV}{l:List (Ab×AV)}{Q:Bool->Store->Prop} (hb:dd σ b=some l) (h:Q (BW l k).isSome σ):KT F m σ .In (sp k) b Q X:=by
 intro va vb s hs ra rb
 refine X4ppp (ra.spot) fun t tx ty n he231_4 e d=>?_
 subst he231_4
 refine X3ppppp (rb.dct hs.inv hb) fun ad es n' he232_3 e' sm nd rd=>?_
 subst he232_3
 refine X1pp (RepD.xs (prog:=prog) (w:=w) rd) fun xs hx he233_2=>?_
 subst he233_2
 have q:=hx.at_ k
 refine wpAny_in_heap (CJ F) (HP e) sm (HX hx nd e') ⟨σ,Step.toks _ _ _ _ _,hs.tok _,_,rfl,?_⟩
 have:(atKey xs (key k)).isSome=(BW l k).isSome:=by
  revert q
  cases BW l k<;>cases atKey xs (key k)<;>simp
 rw [this];exact h
theorem Eg {op:CmpOp}{r:PySem.Expr} (h:AO r=true):behindInMarks op r=false:=by
 cases r<;>first | rfl | cases h
theorem ET.cmp {op:CmpOp}{l r:E} (h:ET F m σ l (fun a σ₁=>ET F m σ₁ r (fun b σ₂=>KT F m σ₂ op a b (fun c σ₃=>Q (.bool c) σ₃) X) X) X):ET F m σ (.cmp op l r) Q X:=by
 intro pe hc s hs
 refine X3pppp (hc.inv) fun zz zz zz he256_3 hn hl hr=>?_
 subst he256_3
 refine wpAny_Compare1 ((h _ hl s hs).out ?_) (Eg hn)
 rintro va σ₁ s₁ st₁ h₁ ⟨a,ra,AA⟩
 refine (AA _ hr s₁ h₁).out ?_
 rintro vb σ₂ s₂ st₂ h₂ ⟨b,rb,AW⟩
 refine (AW va vb s₂ h₂ (ra.st st₂ h₂) rb).out ?_
 rintro v σ₃ Bf st₃ h₃ ⟨c,rfl,Hw⟩
 exact ⟨σ₃,(st₁.trans st₂).trans st₃,h₃,_,.bool c,Hw⟩
theorem TT.cmp {op:CmpOp}{l r:E}{Q:Bool->Store->Prop} (h:ET F m σ l (fun a σ₁=>ET F m σ₁ r (fun b σ₂=>KT F m σ₂ op a b Q X) X) X):TT F m σ (.cmp op l r) Q X:=by
 intro pe hc s hs
 refine X3pppp (hc.inv) fun zz zz zz he266_3 hn hl hr=>?_
 subst he266_3
 refine wpAny_isTrue_Compare1 ((h _ hl s hs).out ?_) (Eg hn)
 rintro va σ₁ s₁ st₁ h₁ ⟨a,ra,AA⟩
 refine (AA _ hr s₁ h₁).out ?_
 rintro vb σ₂ s₂ st₂ h₂ ⟨b,rb,AW⟩
 refine (AW va vb s₂ h₂ (ra.st st₂ h₂) rb).out ?_
 rintro v σ₃ Bf st₃ h₃ ⟨c,rfl,Hw⟩
 exact wpAny_truthy_bool ⟨σ₃,(st₁.trans st₂).trans st₃,h₃,Hw⟩
end
end Mine
end
section
namespace Mine
open PySem PyProof.Rows
variable {prog:Program}{w:World}{S:Sta prog w}
section
variable {F:Fx S}{m:Nat->Option AV}{σ:Store}{X:Value->Shared->Prop}{Q:AV->Store->Prop}
theorem ET.neg {x:E}{Q:AV->Store->Prop} (h:ET F m σ x (fun a σ₁=>∃ i,a=.int i/\Q (.int (-i)) σ₁) X):ET F m σ (.neg x) Q X:=by
 intro pe hc s hs
 refine X2pp (hc.inv) fun zz zz he13_2 hx=>?_
 subst he13_2
 refine wpAny_UnaryOp ((h _ hx s hs).out ?_)
 rintro va σ₁ s₁ st₁ h₁ ⟨a,ra,i,rfl,AA⟩
 refine X1p (ra.inv) fun zz he16_1=>?_
 subst he16_1
 obtain ⟨σ',st,r,r'⟩:=DK (s₁.toks+1) h₁ (.int (-i) s₁.toks) AA
 exact neg_int ⟨σ',st₁.trans st,r,r'⟩
theorem ET.not {x:E} (h:ET F m σ x (fun a σ₁=>∃ b,a=.bool b/\Q (.bool (!b)) σ₁) X):ET F m σ (.not x) Q X:=by
 intro pe hc s hs
 refine X2pp (hc.inv) fun zz zz he21_2 hx=>?_
 subst he21_2
 refine wpAny_UnaryOp ((h _ hx s hs).out ?_)
 rintro va σ₁ s₁ st₁ h₁ ⟨a,ra,b,rfl,AA⟩
 obtain rfl:=ra.inv
 exact not_of (wpAny_truthy_bool ⟨σ₁,st₁,h₁,_,.bool _,AA⟩)
theorem TT.not {x:E}{Q:Bool->Store->Prop} (h:TT F m σ x (fun b σ₁=>Q (!b) σ₁) X):TT F m σ (.not x) Q X:=by
 intro pe hc s hs
 refine X2pp (hc.inv) fun zz zz he29_2 hx=>?_
 subst he29_2
 exact wpAny_isTrue_Not ((h _ hx s hs).out fun zz σ' zz st h1 q=>⟨σ',st,h1,q⟩)
noncomputable def plainE0:E->Bool
 | .not _ | .and _ | .or _ | .cmp _ _ _ | .cmp2 _ _ _ _ _ | .ite _ _ _ | .mu _ _=>false
 | _=>true
noncomputable def Gu (e:E):Bool:=plainE0 e.un
theorem Hx {e:E}{pe:PySem.Expr}{env:Env}{tb:List Nat}{sc:Nms} (hp:Gu e=true) (hc:CE tb sc pe e):isTrue pe env (eval pe env)=(do let v <- eval pe env;standAt pe.pos;holding [v] (truthy v)):=by
 replace hc:=hc.un
 unfold Gu at hp
 generalize e.un=e at hc hp
 induction hc using CE.casesOn<;>first | rfl | exact (Bool.false_ne_true hp).elim
theorem TT.val {e:E}{Q:Bool->Store->Prop} (hp:Gu e=true) (h:ET F m σ e (fun a σ₁=>∃ b,a=.bool b/\Q b σ₁) X):TT F m σ e Q X:=by
 intro pe hc s hs
 refine wpAny_isTrue_value ((h _ hc s hs).out ?_) (Hx hp hc)
 rintro va σ₁ s₁ st₁ h₁ ⟨a,ra,b,rfl,AA⟩
 obtain rfl:=ra.inv
 exact wpAny_truthy_bool ⟨σ₁,st₁,h₁,AA⟩
noncomputable def AndT (F:Fx S) (m:Nat->Option AV) (X:Value->Shared->Prop) (Q:Bool->Store->Prop):List E->Store->Prop
 | [],σ=>Q true σ
 | e::r,σ=>TT F m σ e (fun b σ₁=>if b then AndT F m X Q r σ₁ else Q false σ₁) X
noncomputable def OrT (F:Fx S) (m:Nat->Option AV) (X:Value->Shared->Prop) (Q:Bool->Store->Prop):List E->Store->Prop
 | [],σ=>Q false σ
 | e::r,σ=>TT F m σ e (fun b σ₁=>if b then Q true σ₁ else OrT F m X Q r σ₁) X
theorem Gc {Q:Bool->Store->Prop}{es:List E}:∀ {pes:List PySem.Expr}{σ:Store}{s:Shared},CEs F.tb F.sc pes es->AndT F m X Q es σ->F.St m σ s ->
  W F m σ s (allTrue .And pes F.env) (fun b σ' zz=>Q b σ') X:=by
 induction es with
 | nil =>
  intro pes σ s hc h hs
  obtain rfl:=hc.inv_nil
  exact wpAny_allTrue_And_nil ⟨σ,Step.refl _ _ _ _,hs,h⟩
 | cons e r ih =>
  intro pes σ s hc h hs
  refine X2pppp (hc.inv) fun zz zz he65_2 zz he hr=>?_
  subst he65_2
  refine wpAny_allTrue_And_cons ((h _ he s hs).out ?_)
  rintro b σ₁ s₁ st₁ h₁ AA
  cases b with
  | true=>exact (ih hr AA h₁).later st₁
  | false=>exact ⟨σ₁,st₁,h₁,AA⟩
theorem H4 {Q:Bool->Store->Prop}{es:List E}:∀ {pes:List PySem.Expr}{σ:Store}{s:Shared},CEs F.tb F.sc pes es->OrT F m X Q es σ->F.St m σ s ->
  W F m σ s (allTrue .Or pes F.env) (fun b σ' zz=>Q b σ') X:=by
 induction es with
 | nil =>
  intro pes σ s hc h hs
  obtain rfl:=hc.inv_nil
  exact wpAny_allTrue_Or_nil ⟨σ,Step.refl _ _ _ _,hs,h⟩
 | cons e r ih =>
  intro pes σ s hc h hs
  refine X2pppp (hc.inv) fun zz zz he80_2 zz he hr=>?_
  subst he80_2
  refine wpAny_allTrue_Or_cons ((h _ he s hs).out ?_)
  rintro b σ₁ s₁ st₁ h₁ AA
  cases b with
  | false=>exact (ih hr AA h₁).later st₁
  | true=>exact ⟨σ₁,st₁,h₁,AA⟩
theorem TT.and {es:List E}{Q:Bool->Store->Prop} (h:AndT F m X Q es σ):TT F m σ (.and es) Q X:=by
 intro pe hc s hs
 refine X2pp (hc.inv) fun zz zz he88_2 hx=>?_
 subst he88_2
 exact wpAny_isTrue_BoolOp (Gc hx h hs)
theorem TT.or {es:List E}{Q:Bool->Store->Prop} (h:OrT F m X Q es σ):TT F m σ (.or es) Q X:=by
 intro pe hc s hs
 refine X2pp (hc.inv) fun zz zz he92_2 hx=>?_
 subst he92_2
 exact wpAny_isTrue_BoolOp (H4 hx h hs)
noncomputable def AndV (F:Fx S) (m:Nat->Option AV) (X:Value->Shared->Prop) (Q:AV->Store->Prop):List E->Store->Prop
 | [],_=>False
 | [e],σ=>ET F m σ e Q X
 | e::r,σ=>ET F m σ e (fun a σ₁=>∃ b,a=.bool b/\if b then AndV F m X Q r σ₁ else Q (.bool false) σ₁) X
noncomputable def OrV (F:Fx S) (m:Nat->Option AV) (X:Value->Shared->Prop) (Q:AV->Store->Prop):List E->Store->Prop
 | [],_=>False
 | [e],σ=>ET F m σ e Q X
 | e::r,σ=>ET F m σ e (fun a σ₁=>∃ b,a=.bool b/\if b then Q (.bool true) σ₁ else OrV F m X Q r σ₁) X
theorem CG (pos:Pos) (op:BoolOp) (x y:Sem Value) (r:List (Sem Value)):boolOp pos op (x::y::r)=(do
  let v <- x
  standAt pos
  let t <- holding [v] (truthy v)
  match op,t with
  | .And,false | .Or,true=>pure v
  | _,_=>boolOp pos op (y::r)):=rfl
theorem H2 {pos:Pos}{es:List E}:∀ {pes:List PySem.Expr}{σ:Store}{s:Shared},CEs F.tb F.sc pes es->AndV F m X Q es σ->F.St m σ s ->
  VT F m σ s (boolOp pos .And (evalEach pes F.env)) Q X:=by
 induction es with
 | nil=>intro pes σ s hc h hs;exact h.elim
 | cons e r ih =>
 intro pes σ s hc h hs
 refine X2pppp (hc.inv) fun zz zz he117_2 zz he hr=>?_
 subst he117_2
 cases r with
 | nil=>obtain rfl:=hr.inv_nil;exact h _ he s hs
 | cons e' r =>
  have hr':=hr
  refine X2pp (hr'.inv) fun zz zz he122_2 zz=>?_
  subst he122_2
  show VT F m σ s (boolOp pos .And (eval _ F.env::eval _ F.env::evalEach _ F.env)) Q X
  rw [CG]
  refine wpAny_bind ((h _ he s hs).out ?_)
  rintro va σ₁ s₁ st₁ h₁ ⟨a,ra,b,rfl,AA⟩
  obtain rfl:=ra.inv
  refine wpAny_bind (wpAny_standAt (wpAny_bind (wpAny_holding (wpAny_truthy_bool ?_))))
  cases b with
  | true=>exact (ih hr AA h₁).later st₁
  | false=>exact wpAny_pure ⟨σ₁,st₁,h₁,_,.bool _,AA⟩
theorem J1 {pos:Pos}{es:List E}:∀ {pes:List PySem.Expr}{σ:Store}{s:Shared},CEs F.tb F.sc pes es->OrV F m X Q es σ->F.St m σ s ->
  VT F m σ s (boolOp pos .Or (evalEach pes F.env)) Q X:=by
 induction es with
 | nil=>intro pes σ s hc h hs;exact h.elim
 | cons e r ih =>
 intro pes σ s hc h hs
 refine X2pppp (hc.inv) fun zz zz he138_2 zz he hr=>?_
 subst he138_2
 cases r with
 | nil=>obtain rfl:=hr.inv_nil;exact h _ he s hs
 | cons e' r =>
  have hr':=hr
  refine X2pp (hr'.inv) fun zz zz he143_2 zz=>?_
  subst he143_2
  show VT F m σ s (boolOp pos .Or (eval _ F.env::eval _ F.env::evalEach _ F.env)) Q X
  rw [CG]
  refine wpAny_bind ((h _ he s hs).out ?_)
  rintro va σ₁ s₁ st₁ h₁ ⟨a,ra,b,rfl,AA⟩
  obtain rfl:=ra.inv
  refine wpAny_bind (wpAny_standAt (wpAny_bind (wpAny_holding (wpAny_truthy_bool ?_))))
  cases b with
  | false=>exact (ih hr AA h₁).later st₁
  | true=>exact wpAny_pure ⟨σ₁,st₁,h₁,_,.bool _,AA⟩
theorem ET.and {es:List E} (h:AndV F m X Q es σ):ET F m σ (.and es) Q X:=by
 intro pe hc s hs
 refine X2pp (hc.inv) fun zz zz he155_2 hx=>?_
 subst he155_2
 exact H2 hx h hs
theorem ET.or {es:List E} (h:OrV F m X Q es σ):ET F m σ (.or es) Q X:=by
 intro pe hc s hs
 refine X2pp (hc.inv) fun zz zz he159_2 hx=>?_
 subst he159_2
 exact J1 hx h hs
theorem ET.ite {c a b:E} (h:TT F m σ c (fun t σ₁=>if t then ET F m σ₁ a Q X else ET F m σ₁ b Q X) X):ET F m σ (.ite c a b) Q X:=by
 intro pe hc s hs
 have hi0:=hc.inv
 clear hc
 refine X4pppp (hi0) fun zz zz zz zz he166_4 hc ha hb=>?_
 subst he166_4
 refine wpAny_IfExp ((h _ hc s hs).out ?_)
 rintro t σ₁ s₁ st₁ h₁ AA
 cases t with
 | true=>exact (AA _ ha s₁ h₁).later st₁
 | false=>exact (AA _ hb s₁ h₁).later st₁
theorem wp_rel {A:Around}{vs ks:List Value}{s:Shared}{Q:Unit->Shared->Prop} (h:Q () s):wpAny (model prog w) A (release vs ks) Q X s:=fun Γ p _=>by
 rw [Sem.wp_release];exact h
theorem TT.cmp2 {o1 o2:CmpOp}{a b c:E}{Q:Bool->Store->Prop}
  (h:ET F m σ a (fun x σ₁=>ET F m σ₁ b (fun y σ₂=>KT F m σ₂ o1 x y (fun t σ₃=>if t then ET F m σ₃ c (fun z Cy=>KT F m Cy o2 y z Q X) X else Q false σ₃) X) X) X) :
  TT F m σ (.cmp2 o1 o2 a b c) Q X:=by
 intro pe hc s hs
 refine X4pppppp (hc.inv) fun pa pb pc pos he180_4 hn1 hn2 ha hb hcc=>?_
 subst he180_4
 have he:isTrue (.Compare pa [o1,o2] [pb,pc] pos) F.env (eval (.Compare pa [o1,o2] [pb,pc] pos) F.env) =
  (do testChain pos (<- eval pa F.env) [o1,o2] (markedEach [o1,o2] [pb,pc] [eval pb F.env,eval pc F.env])):=rfl
 show wpAny _ _ (isTrue _ _ _) _ _ _
 rw [he]
 have hme:markedEach [o1,o2] [pb,pc] [eval pb F.env,eval pc F.env]=[eval pb F.env,eval pc F.env]:=by
  have h2:=markedBehindIn_of_false (t:=eval pc F.env) (Eg (op:=o2) hn2)
  simp only [markedEach,h2]
 rw [hme]
 refine wpAny_bind ((h _ ha s hs).out ?_)
 rintro va σ₁ s₁ st₁ h₁ ⟨x,rx,AA⟩
 refine wpAny_bind (wpAny_holding ((AA _ hb s₁ h₁).out ?_))
 rintro vb σ₂ s₂ st₂ h₂ ⟨y,ry,AW⟩
 refine wpAny_bind (wpAny_standAt (wpAny_bind (wpAny_holding ((AW va vb s₂ h₂ (rx.st st₂ h₂) ry).out ?_))))
 rintro v σ₃ Bf st₃ h₃ ⟨t,rfl,Hw⟩
 refine wpAny_bind (m:=release _ _) (wp_rel (wpAny_bind (wpAny_holding (wpAny_truthy_bool ?_))))
 cases t with
 | false=>exact wpAny_pure ⟨σ₃,(st₁.trans st₂).trans st₃,h₃,Hw⟩
 | true =>
  refine wpAny_bind (wpAny_holding ((Hw _ hcc Bf h₃).out ?_))
  rintro vc Cy s₄ BZ Bq ⟨z,rz,q₄⟩
  refine wpAny_bind (wpAny_standAt (wpAny_bind (m:=operate _ _) (wpAny_operating ((q₄ vb vc s₄ Bq ((ry.st st₃ h₃).st BZ Bq) rz).out ?_))))
  rintro v DD Hh st₅ h₅ ⟨t,rfl,q₅⟩
  exact wpAny_holding (wpAny_truthy_bool ⟨DD,(((st₁.trans st₂).trans st₃).trans BZ).trans st₅,h₅,q₅⟩)
end
end Mine
end
section
namespace Mine
open PySem PyProof.Rows
variable {prog:Program}{w:World}{S:Sta prog w}
section
variable {F:Fx S}{m:Nat->Option AV}{σ:Store}{X:Value->Shared->Prop}{Q:AV->Store->Prop}
noncomputable def IT (F:Fx S) (m:Nat->Option AV) (σ:Store) (a k:AV) (Q:AV->Store->Prop) (X:Value->Shared->Prop):Prop :=
 ∀ va vk s,F.St m σ s->Rep S.cv s.heap (F.D σ) a va->Rep S.cv s.heap (F.D σ) k vk ->
  ∃ T id,s.TypeIs va T/\typeLookup (.type T) "__getitem__"=pure (some (.builtin id))/\VT F m σ s (getItem va vk) Q X
theorem Ci {i:PySem.Expr}{o k:Value} (h:Bn i=true):subscripted i false o k=operate [o,k] (getItem o k):=by
 cases i<;>first | rfl | cases h
theorem ET.sub {o i:E} (h:ET F m σ o (fun a σ₁=>ET F m σ₁ i (fun k σ₂=>IT F m σ₂ a k Q X) X) X):ET F m σ (.sub o i) Q X:=by
 intro pe hc s hs
 refine X3pppp (hc.inv) fun zz zz zz he19_3 hn ho hi=>?_
 subst he19_3
 refine Subscript_ ((h _ ho s hs).out ?_)
 rintro va σ₁ s₁ st₁ h₁ ⟨a,ra,AA⟩
 refine (AA _ hi s₁ h₁).out ?_
 rintro vk σ₂ s₂ st₂ h₂ ⟨k,rk,AW⟩
 refine X2ppp (AW va vk s₂ h₂ (ra.st st₂ h₂) rk) fun T id hT hl hg=>?_
 exact tail_any hT hl (hg.later (st₁.trans st₂)) (Ci hn)
theorem RepL.get {cv:Nat->Value}{h:Heap}{D:Addr->Prop}{l:List AV}{vs:List Value}{k:Nat}{x:AV} (r:RepL cv h D l vs) (e:l[k]?=some x):∃ v,vs[k]?=some v/\Rep cv h D x v:=by
 induction l generalizing vs k with
 | nil=>exact (Ae List.getElem?_nil e).elim
 | cons y l ih =>
  obtain ⟨v,us,rfl,a,b⟩:=r.inv
  cases k with
  | zero=>exact ⟨v,rfl,Option.some.inj e▸a⟩
  | succ k=>exact ih (vs:=us) (k:=k) b e
theorem lt_63 {i:Int} (h:i<1000000):i<2 ^ 63:=Int.lt_trans h (by decide)
theorem seqIx {i:Int}{n:Nat} (h0:0<=i) (h1:i<n):seqIndex? i n=some i.toNat:=by
 unfold seqIndex?
 have h2:¬ i<0:=by exact lin [] [i] (.ige 1 V0 K0) [.ile 1 K0 V0] rfl h0
 simp only [h2,if_false]
 rw [if_pos (by simp;exact ⟨h0,h1⟩)]
theorem IT.list {a:AV}{l:List AV}{i:Int}{x:AV} (ha:dl σ a=some l) (h0:0<=i) (h1:i<1000000) (hx:l[i.toNat]?=some x) (h:Q x σ):IT F m σ a (.int i) Q X:=by
 intro va vk s hs ra rk
 refine X3ppp (ra.lst hs.inv ha) fun ad vs n he43_3 e rl=>?_
 subst he43_3
 refine X1p (rk.inv) fun zz he44_1=>?_
 subst he44_1
 refine X1pp (rl.get hx) fun v hv rv=>?_
 have hl:s.heap.IsList ad vs.toArray:=⟨_,e,rfl,n,rfl⟩
 exact ⟨_,_,hl.typeIs,slot_list_getitem.lookup,wpAny_getItem_list hl h0 (lt_63 h1) (by simpa using hv) (now hs rv h)⟩
theorem IT.nums {l:List Int}{i x:Int} (h0:0<=i) (h1:i<1000000) (hx:l[i.toNat]?=some x) (h:Q (.int x) σ):IT F m σ (.nums l) (.int i) Q X:=by
 intro va vk s hs ra rk
 ·refine X4pppppp (ra.inv) fun a o vs n he50_4 e c f d r=>?_
  subst he50_4
  refine X1p (rk.inv) fun zz he51_1=>?_
  subst he51_1
  refine X1p (r.2 _ _ hx) fun t hv=>?_
  have hl:s.heap.IsList a vs.toArray:=⟨o,e,c,n,f⟩
  exact ⟨_,_,hl.typeIs,slot_list_getitem.lookup,wpAny_getItem_list hl h0 (lt_63 h1) (by simpa using hv) (now hs (.int _ _) h)⟩
theorem IT.tup {l:List AV}{i:Int}{x:AV} (h0:0<=i) (h1:i<1000000) (hx:l[i.toNat]?=some x) (h:Q x σ):IT F m σ (.tup l) (.int i) Q X:=by
 intro va vk s hs ra rk
 ·refine X3pppp (ra.inv) fun ad vs n he57_3 e d r=>?_
  subst he57_3
  refine X1p (rk.inv) fun zz he58_1=>?_
  subst he58_1
  obtain ⟨v,hv,rv⟩:=r.get hx
  have ht:IsTup s.heap ad vs.toArray:=⟨_,e,rfl,n,rfl⟩
  have hlt:i.toNat<vs.length:=by
   rcases Nat.lt_or_ge i.toNat vs.length with q | q
   ·exact q
   ·rw [List.getElem?_eq_none q] at hv;cases hv
  have lo:-(2:Int) ^ 63<=i:=Int.le_trans (by decide) h0
  refine ⟨_,_,⟨_,e,rfl⟩,PyProof.Rows.slot_tuple_getitem.lookup,getItem_tuple ht lo (lt_63 h1) (j:=i.toNat) ?_ (by simpa using hv) (now hs rv h)⟩
  rw [List.size_toArray];exact seqIx h0 (by exact lin [(i.toNat),(vs.length)] [i] (.ilt 1 V0 (.c V1)) [.nlt 1 V0 V1,.ile 1 V0 (.c V0)] rfl hlt (Int.self_le_toNat (i)))
theorem IT.str {x:Str}{i:Int}{c:Nat} (h0:0<=i) (h1:i<1000000) (hx:x.cps[i.toNat]?=some c) (h:Q (.str ⟨#[c]⟩) σ):IT F m σ (.str x) (.int i) Q X:=by
 intro va vk s hs ra rk
 refine X1p (ra.inv) fun zz he70_1=>?_
 subst he70_1
 refine X1p (rk.inv) fun zz he71_1=>?_
 subst he71_1
 refine ⟨_,_,typeIs_str _ _ _,PySem.F.slot_str_getitem.lookup,P.getItem_str (c:=c) ?_ ?_ (DK _ hs (.str _ _) h)⟩
 ·have:i<2 ^ 63:=lt_63 h1
  simp only [Bool.or_eq_false_iff,decide_eq_false_iff_not]
  exact ⟨Int.not_lt.mpr (Int.le_trans (by decide) h0),Int.not_le.mpr this⟩
 ·have hlt:i.toNat<x.cps.size:=by
   rcases Nat.lt_or_ge i.toNat x.cps.size with q | q
   ·exact q
   ·rw [Array.getElem?_eq_none q] at hx;cases hx
  rw [seqIx h0 (show i<(x.length:Int) from by have:x.length=x.cps.size:=rfl;exact lin [(i.toNat),(x.cps.size),(x.length)] [i] (.ilt 1 V0 (.c V2)) [.nlt 1 V0 V1,.neq (-1) V2 V1,.ile 1 V0 (.c V0)] rfl hlt this (Int.self_le_toNat (i)))]
  exact hx
theorem IT.dict {a:AV}{l:List (Ab×AV)}{k:Ab}{x:AV} (ha:dd σ a=some l) (hx:BW l k=some x) (h:Q x σ):IT F m σ a (sp k) Q X:=by
 intro va vk s hs ra rk
 refine X4ppp (rk.spot) fun t tx ty n he84_4 e d=>?_
 subst he84_4
 refine X3ppppp (ra.dct hs.inv ha) fun ad es n' he85_3 e' sm nd rd=>?_
 subst he85_3
 refine X1pp (RepD.xs (prog:=prog) (w:=w) rd) fun xs hxs he86_2=>?_
 subst he86_2
 have q:=hxs.at_ k
 rw [hx] at q
 cases hp:atKey xs (key k) with
 | none=>rw [hp] at q;exact q.elim
 | some p =>
  rw [hp] at q
  exact ⟨_,_,(HX (prog:=prog) (w:=w) hxs nd e').typeIs,PySem.slot_dict_getitem.lookup,wpAny_getItem_heap (CJ F) (HP e) (HX hxs nd e') hp (DK _ hs q h)⟩
theorem optE {pe:Option PySem.Expr}{e:E}{s:Shared} (h:ET F m σ e Q X) (hc:CO F.tb F.sc pe e) (hs:F.St m σ s):VT F m σ s (valueOrNone (evalOpt pe F.env)) Q X:=by
 rcases hc.inv with ⟨rfl,rfl⟩ | ⟨x,rfl,he⟩
 ·exact h (.Constant .none 0 default) .none s hs
 ·exact h _ he s hs
theorem RepL.take {cv:Nat->Value}{h:Heap}{D:Addr->Prop}{l:List AV}{vs:List Value} (k:Nat) (r:RepL cv h D l vs):RepL cv h D (l.take k) (vs.take k):=by
 induction l generalizing vs k with
 | nil=>rw [show vs=[] from r.inv,List.take_nil,List.take_nil];exact .nil
 | cons y l ih =>
  obtain ⟨v,us,rfl,a,b⟩:=r.inv
  cases k with
  | zero=>exact .nil
  | succ k=>exact .cons a (ih k b)
noncomputable def cut (l:List AV) (x y:AV):Option (List AV):=match x with
 | .none=>y.int?.bind fun b=>if 0<=b then some (l.take b.toNat) else Option.none
 | _=>Option.none
theorem cut_out {l l':List AV}{x y:AV} (h:cut l x y=some l'):x=.none/\∃ b,y=.int b/\0<=b/\l'=l.take b.toNat:=by
 cases x with
 | none =>
  refine X1pp (Aw (show y.int?.bind (fun b=>if 0<=b then some (l.take b.toNat) else Option.none)=some l' from h)) fun b h1 h2=>?_
  by_cases hb:0<=b
  ·rw [if_pos hb] at h2;exact ⟨rfl,b,AV.int?_out h1,hb,(Option.some.inj h2).symm⟩
  ·rw [if_neg hb] at h2;cases h2
 | _=>exact (Ae rfl h).elim
end
end Mine
end
section
namespace Mine
open PySem PyProof.Rows PySem.W
variable {prog:Program}{w:World}{S:Sta prog w}
noncomputable def Callable (S:Sta prog w) (f:Value):Prop:=∀ h,(∀ b o,S.g.get? b=some o->h.get? b=some o)->∃ k,(k=Keeper.frame\/k=Keeper.machine\/k=Keeper.boundFrame)/\Looks (model prog w) h (keeperOf f) k
theorem Callable.builtin (id:String):Callable S (.builtin id):=fun zz zz=>⟨.machine,.inr (.inl rfl),Looks.of_pure rfl⟩
theorem Callable.type (id:String):Callable S (.type id):=fun zz zz=>⟨.machine,.inr (.inl rfl),Looks.of_pure rfl⟩
theorem Callable.own {f:Value} (h:keepIn S.K f=true):Callable S f:=fun zz k=>keeps_K h _ (S.X.keeps k)
section
variable {F:Fx S}{m:Nat->Option AV}{σ:Store}{X:Value->Shared->Prop}{Q:AV->Store->Prop}
noncomputable def CT (F:Fx S) (m:Nat->Option AV) (σ:Store) (f:Value) (avs:List AV) (Q:AV->Store->Prop) (X:Value->Shared->Prop):Prop :=
 ∀ vals s,F.St m σ s->RepL S.cv s.heap (F.D σ) avs vals->VT F m σ s (call f vals) Q X
theorem IV {pos:Pos}{pes:List PySem.Expr}{es:List E} (hc:CEs F.tb F.sc pes es):(backTo pos (starEach pes F.env)).any (·.1)=false:=by
 induction es generalizing pes with
 | nil=>obtain rfl:=hc.inv_nil;rfl
 | cons e es ih=>refine X2pppp (hc.inv) fun zz zz he24_2 hn zz hr=>?_;subst he24_2;rw [AE hn];exact ih hr
theorem Cd {pos:Pos}{f:Value}{first:List Value}{pes:List PySem.Expr}{e:E}{es:List E}{s:Shared}{P:List AV->Store->Prop}{Q':Value->Shared->Prop} (hc:CEs F.tb F.sc pes (e::es)) (hk:Callable S f) (h:EsT F m σ (e::es) P X) (hs:F.St m σ s)
  (hq:∀ vals avs σ' s',Step F.P F.O σ s σ' s'->F.St m σ' s'->RepL S.cv s'.heap (F.D σ') avs vals->P avs σ'->wpAny (model prog w) F.A (call f (first++vals)) Q' X s') :
  wpAny (model prog w) F.A (callWith pos f first (backTo pos (starEach pes F.env)) []) Q' X s:=by
 refine callWith_of (P:=fun h=>∀ b o,S.g.get? b=some o->h.get? b=some o) (by rw [IV hc];rfl) hk ?_
 have h':=h _ pos hc s hs
 refine X2pppp (hc.inv) fun zz zz he30_2 hn he hr=>?_
 subst he30_2
 rw [AE hn] at h' ⊢
 refine Calls.evalArgs_plain (W.out h' ?_)
 rintro vals σ' s' st h1 ⟨avs,r,p⟩
 exact ⟨h1.inv.keep,hq vals avs σ' s' st h1 r p⟩
theorem DS {pos:Pos}{f:Value}{first:List Value}{s:Shared}{Q':Value->Shared->Prop} (hk:Callable S f) (hs:F.St m σ s) (hq:wpAny (model prog w) F.A (call f (first++[])) Q' X s) :
  wpAny (model prog w) F.A (callWith pos f first (backTo pos (starEach [] F.env)) []) Q' X s :=
 callWith_of (P:=fun h=>∀ b o,S.g.get? b=some o->h.get? b=some o) rfl hk (evalArgs_nil3 ⟨hs.inv.keep,hq⟩)
theorem ET.callg {i:Nat}{fv:Value}{e:E}{es:List E} (hg:Glob S i fv) (hk:Callable S fv) (h:EsT F m σ (e::es) (fun avs σ₁=>CT F m σ₁ fv avs Q X) X):ET F m σ (.call (.g i) (e::es)) Q X:=by
 intro pe hc s hs
 refine X4pppp (hc.inv) fun zz zz zz zz he41_4 zz hx ha=>?_
 subst he41_4
 refine Call_ (DM hx hg hs (Cd ha hk h hs ?_))
 intro vals avs σ' s' st h1 r p
 exact (p vals s' h1 r).later st
theorem RepL.one {cv:Nat->Value}{h:Heap}{D:Addr->Prop}{a:AV}{vs:List Value} (r:RepL cv h D [a] vs):∃ v,vs=[v]/\Rep cv h D a v:=by
 refine X2ppp (r.inv) fun v us he49_2 r1 rr=>?_
 subst he49_2
 obtain rfl:=rr.inv
 exact ⟨_,rfl,r1⟩
theorem RepL.two {cv:Nat->Value}{h:Heap}{D:Addr->Prop}{a b:AV}{vs:List Value} (r:RepL cv h D [a,b] vs):∃ v u,vs=[v,u]/\Rep cv h D a v/\Rep cv h D b u:=by
 refine X2ppp (r.inv) fun v us he53_2 r1 rr=>?_
 subst he53_2
 refine X1pp (rr.one) fun u he54_1 r2=>?_
 subst he54_1
 exact ⟨_,_,rfl,r1,r2⟩
theorem Fi {n:Nat} (h:n<=big):¬ (n:Int) >= 2 ^ 63:=by
 have:(n:Int)<=1000000:=by unfold big at h;exact lin [n] [] (.ile 1 (.c V0) Al) [.nle 1 V0 Al] rfl h
 exact Int.not_le.mpr (Int.lt_of_le_of_lt this (by decide))
theorem CT.lenList {a:AV}{l:List AV} (ha:dl σ a=some l) (hz:l.length<=big) (h:Q (.int l.length) σ):CT F m σ (.builtin "len") [a] Q X:=by
 intro vals s hs r
 refine X1pp (r.one) fun v he62_1 ra=>?_
 subst he62_1
 refine X3ppp (ra.lst hs.inv ha) fun ad vs n he63_3 e rl=>?_
 subst he63_3
 have hL:s.heap.IsList ad vs.toArray:=⟨_,e,rfl,n,rfl⟩
 refine Calls.call_len_list hL (by rw [List.size_toArray,rl.length];exact Int.not_le.mp (Fi hz)) ?_
 rw [List.size_toArray,rl.length]
 exact DK _ hs (.int _ _) h
theorem CT.lenInts {l:List Int} (hz:l.length<=big) (h:Q (.int l.length) σ):CT F m σ (.builtin "len") [.nums l] Q X:=by
 intro vals s hs r
 refine X1pp (r.one) fun v he70_1 ra=>?_
 subst he70_1
 ·refine X4pppppp (ra.inv) fun a o vs n he71_4 e c f d ri=>?_
  subst he71_4
  have hL:s.heap.IsList a vs.toArray:=⟨o,e,c,n,f⟩
  refine Calls.call_len_list hL (by rw [List.size_toArray,ri.1];exact Int.not_le.mp (Fi hz)) ?_
  rw [List.size_toArray,ri.1]
  exact DK _ hs (.int _ _) h
theorem CT.lenStr {x:Str} (hz:x.length<=big) (h:Q (.int x.length) σ):CT F m σ (.builtin "len") [.str x] Q X:=by
 intro vals s hs r
 refine X1pp (r.one) fun v he78_1 ra=>?_
 subst he78_1
 refine X1p (ra.inv) fun zz he79_1=>?_
 subst he79_1
 exact P.len_str (Fi hz) (DK _ hs (.int _ _) h)
end
end Mine
end
section
namespace Mine
open PySem PyProof.Rows PySem.W
variable {prog:Program}{w:World}{S:Sta prog w}
noncomputable abbrev Vars:=Nat->Option AV
noncomputable def Vars.set (m:Vars) (i:Nat) (v:AV):Vars:=fun j=>if j=i then some v else m j
inductive Fl where
 | next
 | ret (v:AV)
noncomputable def FlR (cv:Nat->Value) (h:Heap) (D:Addr->Prop):Flow->Fl->Prop
 | .next,.next=>True
 | .ret v,.ret a=>Rep cv h D a v
 | _,_=>False
inductive PS (F:Fx S) (σ:Store) (s:Shared) (K:Fl->Vars->Store->Prop) (f:Flow) (s':Shared):Prop
 | mk (fl:Fl) (m':Vars) (σ':Store) (st:Step F.P F.O σ s σ' s') (h:F.St m' σ' s') (r:FlR S.cv s'.heap (F.D σ') f fl) (k:K fl m' σ'):PS F σ s K f s'
inductive PP (F:Fx S) (σ:Store) (s:Shared) (K:Vars->Store->Prop) (s':Shared):Prop
 | mk (m':Vars) (σ':Store) (st:Step F.P F.O σ s σ' s') (h:F.St m' σ' s') (k:K m' σ'):PP F σ s K s'
noncomputable def WS (F:Fx S) (σ:Store) (s:Shared) (t:Sem Flow) (K:Fl->Vars->Store->Prop) (X:Value->Shared->Prop):Prop :=
 wpAny (model prog w) F.A t (PS F σ s K) X s
noncomputable def ST (F:Fx S) (m:Vars) (σ:Store) (st:Mine.S) (K:Fl->Vars->Store->Prop) (X:Value->Shared->Prop):Prop :=
 ∀ ps,CS F.tb F.sc ps st->∀ s,F.St m σ s->WS F σ s (exec ps F.env) K X
noncomputable def SsT (F:Fx S) (m:Vars) (σ:Store) (ss:List Mine.S) (K:Fl->Vars->Store->Prop) (X:Value->Shared->Prop):Prop :=
 ∀ ps,CSs F.tb F.sc ps ss->∀ s,F.St m σ s->WS F σ s (execs ps F.env) K X
section
variable {F:Fx S}{m:Vars}{σ:Store}{X:Value->Shared->Prop}{K K':Fl->Vars->Store->Prop}
theorem WS.mono {s:Shared}{t:Sem Flow} (h:WS F σ s t K X) (k:∀ f m σ,K f m σ->K' f m σ):WS F σ s t K' X :=
 wpAny_mono h (fun _ _ ⟨fl,m',σ',st,h1,h2,h3⟩=>⟨fl,m',σ',st,h1,h2,k _ _ _ h3⟩) fun zz zz e=>e
theorem WS.later {s:Shared}{t:Sem Flow}{σ₀:Store}{s₀:Shared} (h:WS F σ s t K X) (st:Step F.P F.O σ₀ s₀ σ s) :
  wpAny (model prog w) F.A t (PS F σ₀ s₀ K) X s :=
 wpAny_mono h (fun _ _ ⟨fl,m',σ',st',h1,h2,h3⟩=>⟨fl,m',σ',st.trans st',h1,h2,h3⟩) fun zz zz e=>e
theorem ST.mono {st:Mine.S} (h:ST F m σ st K X) (k:∀ f m σ,K f m σ->K' f m σ):ST F m σ st K' X:=fun ps hc s hs=>(h ps hc s hs).mono k
theorem SsT.mono {ss:List Mine.S} (h:SsT F m σ ss K X) (k:∀ f m σ,K f m σ->K' f m σ):SsT F m σ ss K' X:=fun ps hc s hs=>(h ps hc s hs).mono k
theorem SsT.weak {ss:List Mine.S}{m':Vars}{σ':Store} (h:SsT F m' σ' ss K X) (hm:∀ i av,m' i=some av->m i=some av) (hσ:∀ a o,σ' a=some o->σ a=some o):SsT F m σ ss K X:=by
 intro ps hc s hs
 refine Ad ((hs.weak hm).drop hσ) fun h1 st=>?_
 exact (h ps hc s h1).later st.any
set_option tactic.hygienic true in
theorem SsT.nil (h:K .next m σ):SsT F m σ [] K X:=by
 intro ps hc s hs
 obtain rfl:=hc.inv_nil
 exact wpAny_execs_nil ⟨.next,m,σ,Step.refl _ _ _ _,hs,trivial,h⟩
theorem SsT.cons {st:Mine.S}{r:List Mine.S} (h:ST F m σ st (fun fl Af σ₁=>match fl with | .next=>SsT F Af σ₁ r K X | .ret v=>K (.ret v) Af σ₁) X):SsT F m σ (st::r) K X:=by
 intro ps hc s hs
 refine X2ppp (hc.inv) fun zz zz he57_2 he hr=>?_
 subst he57_2
 refine wpAny_execs_cons (wpAny_mono (h _ he s hs) ?_ fun zz zz e=>e)
 rintro f s₁ ⟨fl,Af,σ₁,st₁,h₁,hf,q⟩
 cases fl with
 | next =>
  cases f with
  | next=>exact (q _ hr s₁ h₁).later st₁
  | _=>exact hf.elim
 | ret v =>
  cases f with
  | ret u=>exact ⟨.ret v,Af,σ₁,st₁,h₁,hf,q⟩
  | _=>exact hf.elim
set_option tactic.hygienic true in
theorem ST.pass (h:K .next m σ):ST F m σ .pass K X:=by
 intro ps hc s hs
 refine X1p (hc.inv) fun zz he75_1=>?_
 subst he75_1
 exact wpAny_Pass ⟨.next,m,σ,Step.refl _ _ _ _,hs,trivial,h⟩
theorem ST.ret {e:E} (h:ET F m σ e (fun a σ₁=>K (.ret a) m σ₁) X):ST F m σ (.ret e) K X:=by
 intro ps hc s hs
 refine X2pp (hc.inv) fun zz zz he79_2 he=>?_
 subst he79_2
 refine wpAny_Return_some ((h _ he s hs).out ?_)
 rintro v σ₁ s₁ st₁ h₁ ⟨a,ra,q⟩
 exact ⟨.ret a,m,σ₁,st₁,h₁,ra,q⟩
theorem ST.ite {c:E}{a b:List Mine.S} (h:TT F m σ c (fun t σ₁=>if t then SsT F m σ₁ a K X else SsT F m σ₁ b K X) X):ST F m σ (.ite c a b) K X:=by
 intro ps hc s hs
 have hi0:=hc.inv
 clear hc
 refine X4pppp (hi0) fun zz zz zz zz he87_4 hc ha hb=>?_
 subst he87_4
 refine wpAny_If ((h _ hc s hs).out ?_)
 rintro t σ₁ s₁ st₁ h₁ AA
 cases t with
 | true=>exact (AA _ ha s₁ h₁).later st₁
 | false=>exact (AA _ hb s₁ h₁).later st₁
theorem St.own_turn {tb:List Nat}{env:Env}{N P:Addr->Prop}{b:Store×Shared}{m m':Vars}{s:Shared}{L:Addr}{h':Heap}{tk:Nat} (hs:Mine.St S tb env N P b m σ s) (oL:Own env L)
  (hk:∀ c o,c≠L->s.heap.get? c=some o->h'.get? c=some o) (hL:∃ o,h'.get? L=some o) (hl:Loc S.cv S.g tb env m' N σ h') :
  Step P (Own env) σ s σ { s with heap:=h',toks:=tk }/\Mine.St S tb env N P b m' σ { s with heap:=h',toks:=tk }:=by
 have there:∀ c o,s.heap.get? c=some o->∃ o',h'.get? c=some o':=fun c o e=>by
  by_cases q:c=L
  ·subst q;exact hL
  ·exact ⟨o,hk c o q e⟩
 have st:Step P (Own env) σ s σ { s with heap:=h',toks:=tk }:=Step.of_but (fun c o zz n e=>hk c o (fun q=>n (q▸oL)) e) (fun zz h=>.inl h) there
 have own:=hs.loc
 obtain ⟨_,_,_,_,o,_,_,_⟩:=own
 have e0:Ext (DN N σ) s.heap h':=Ext.of_but fun c oc d e=>hk c oc (fun q=>d (.inr (q▸hs.own L oL))) e
 refine ⟨st,⟨fun c oc e=>hk c oc (fun q=>?_) (hs.inv.keep c oc e),hs.inv.gens,hs.inv.drawn,hs.inv.os,hs.inv.σg,hs.inv.σN,fun c h=>?_,fun c oc e=>?_⟩,hl,hs.frm.out st hs.new,hs.pN,hs.new,hs.own,hs.gb⟩
 ·subst q;rw [(o c oL).2] at e;cases e
 ·refine X1pp (hs.inv.Nin c h) fun ob e f=>?_
  by_cases q:c=L
  ·obtain ⟨mc,cm,n,cc,_⟩:=hl
   subst q
   rcases oL with rfl | ⟨y,hy⟩
   ·refine X3ppp (n) fun o' zz zz e' d' zz=>?_;exact ⟨o',e',fun vs z=>by rw [d'] at z;cases z⟩
   ·refine X1pp (cc y _ hy) fun o' e' d'=>?_;exact ⟨o',e',fun vs z=>by rw [d'] at z;cases z⟩
  ·exact ⟨ob,hk c ob q e,f⟩
 ·exact (hs.inv.rep c oc e).ext e0 (fun zz h=>.inl h) fun ob e'=>hk c ob (fun q=>(o L oL).1 (by rw [<- q];unfold Dom;rw [e];simp)) e'
theorem BR {i:Nat}{x:Str}{av:AV}{v:Value}{s:Shared}{Q':Unit->Shared->Prop} (hf:F.sc.lookup x≠some .free) (hx:IsV F.tb F.sc x i) (hs:F.St m σ s) (r:Rep S.cv s.heap (F.D σ) av v)
  (h:∀ s',Step F.P F.O σ s σ s'->F.St (Vars.set m i av) σ s'->Q' () s'):wpAny (model prog w) F.A (storeName F.env x v) Q' X s:=by
 obtain ⟨mc,cm,n,c,o,ap,cl,rr⟩:=hs.loc
 have kd:∀ y,F.env.kindOf y=F.sc.lookup y:=fun zz=>rfl
 have setm:∀ {y:Str}{j:Nat}{bv:AV},ixS F.tb y=some j->(Vars.set m i av) j=some bv->(y=x/\bv=av)\/(y≠x/\m j=some bv):=by
  intro y j bv hj hm
  unfold Vars.set at hm
  by_cases q:j=i
  ·subst q
   rw [if_pos rfl] at hm
   exact .inl ⟨Bo hj hx.ix,(Option.some.inj hm).symm⟩
  ·rw [if_neg q] at hm
   refine .inr ⟨fun e=>?_,hm⟩
   subst e
   rw [hx.ix] at hj
   exact q (Option.some.inj hj).symm
 rcases hx.kind with q | q | q
 ·refine wpAny_storeName_local ((kd x).trans q) n (fun h' hn hsb=>?_) (by rw [F.fk];rfl)
  have hk:∀ cc oc,cc≠F.env.locals->s.heap.get? cc=some oc->h'.get? cc=some oc:=fun cc oc ne e=>hsb.extBut cc oc ne e
  have hL:∃ oo,h'.get? F.env.locals=some oo:=by refine X3pp (hn) fun oo zz zz e zz=>?_;exact ⟨oo,e⟩
  have e0:Ext (F.D σ) s.heap h':=Ext.of_but fun cc oc d e=>hk cc oc (fun q=>d (.inr (q▸hs.own _ (.inl rfl)))) e
  have loc':Loc S.cv S.g F.tb F.env (Vars.set m i av) F.N σ h':=by
   refine ⟨_,cm,hn,fun y cc hy=>?_,o,ap,cl,fun y j bv hj hm=>?_⟩
   ·refine X1pp (c y cc hy) fun ob e hd=>?_
    exact ⟨ob,hk cc ob (cl y cc hy) e,hd⟩
   ·rcases setm hj hm with ⟨rfl,rfl⟩ | ⟨ne,hm'⟩
    ·rw [kd,q]
     exact ⟨v,if_pos rfl,r.ext e0 fun zz h=>.inl h⟩
    ·exact LocAt.map (rr y j bv hj hm') (fun h2=>h2.ext e0 fun zz h=>.inl h) (fun zz h1=>(if_neg ne).trans h1) (fun zz h1=>h1)
  refine Ad (St.own_turn (tk:=s.toks+1) hs (.inl rfl) hk hL loc') fun st h1=>?_
  exact h _ st h1
 ·have hc:=F.fc x ((kd x).trans q)
  ·refine X1p (hc) fun cc hcc=>?_
   refine wpAny_storeName_cell F.fk ((kd x).trans q) hcc (c x cc hcc) (fun h' hv hsb=>?_)
   have hk:∀ d od,d≠cc->s.heap.get? d=some od->h'.get? d=some od:=fun d od ne e=>hsb.extBut d od ne e
   have hL:∃ oo,h'.get? cc=some oo:=by refine X1pp (hv) fun oo e zz=>?_;exact ⟨oo,e⟩
   have e0:Ext (F.D σ) s.heap h':=Ext.of_but fun d od dd e=>hk d od (fun q=>dd (.inr (q▸hs.own _ (.inr ⟨x,hcc⟩)))) e
   have loc':Loc S.cv S.g F.tb F.env (Vars.set m i av) F.N σ h':=by
    refine ⟨mc,fun y=>if y=x then some v else cm y,n.sameBut hsb (Ne.symm (cl x cc hcc)),fun y d hy=>?_,o,ap,cl,fun y j bv hj hm=>?_⟩
    ·by_cases e:y=x
     ·subst e;rw [hcc] at hy;cases hy;simp only [if_true];exact hv
     ·simp only [if_neg e]
      refine X1pp (c y d hy) fun ob eo hd=>?_
      exact ⟨ob,hk d ob (fun z=>e (ap y x d hy (z▸hcc))) eo,hd⟩
    ·rcases setm hj hm with ⟨rfl,rfl⟩ | ⟨ne,hm'⟩
     ·rw [kd,q]
      exact ⟨v,cc,hcc,if_pos rfl,r.ext e0 fun zz h=>.inl h⟩
     ·exact LocAt.map (rr y j bv hj hm') (fun h2=>h2.ext e0 fun zz h=>.inl h) (fun zz h1=>h1) (fun zz h1=>(if_neg ne).trans h1)
   refine Ad (St.own_turn (tk:=s.toks) hs (.inr ⟨x,hcc⟩) hk hL loc') fun st h1=>?_
   exact h _ st h1
 ·exact absurd q hf
noncomputable def PT (F:Fx S) (m:Vars) (σ:Store) (p:Pat) (a:AV) (K:Vars->Store->Prop) (X:Value->Shared->Prop):Prop :=
 ∀ pe,CP F.tb F.sc pe p->∀ v s,F.St m σ s->Rep S.cv s.heap (F.D σ) a v ->
  wpAny (model prog w) F.A (assign pe F.env v) (fun zz=>PP F σ s K) X s
theorem PT.v {i:Nat}{a:AV}{K:Vars->Store->Prop} (h:K (Vars.set m i a) σ):PT F m σ (.v i) a K X:=by
 intro pe hc v s hs r
 refine X2ppp (hc.inv) fun zz zz he178_2 hf hx=>?_
 subst he178_2
 exact wpAny_assign_Name (BR hf hx hs r fun s' st h1=>⟨_,σ,st,h1,h⟩)
noncomputable def Gz:E->Bool
 | .comp ..=>false
 | .mu ..=>false
 | _=>true
noncomputable def notTup0:E->Bool
 | .tup ..=>false
 | .mu ..=>false
 | _=>true
noncomputable def AC (e:E):Bool:=Gz e.un
noncomputable def EM (e:E):Bool:=notTup0 e.un
theorem BC {sc:Nms}{pe t:PySem.Expr}{e:E}{line:Nat}{env:Env}{tb:List Nat} (hc:CE tb sc pe e) (h:AC e=true):swapsWith pe (some t) line env=pure false:=by
 replace hc:=hc.un
 unfold AC at h
 generalize e.un=e at hc h
 induction hc using CE.casesOn<;>first | rfl | exact (Bool.false_ne_true h).elim
theorem ST.assign {i:Nat}{e:E} (hn:AC e=true) (h:ET F m σ e (fun a σ₁=>K .next (Vars.set m i a) σ₁) X):ST F m σ (.assign (.v i) e) K X:=by
 intro ps hc s hs
 refine X3ppp (hc.inv) fun zz zz zz he199_3 hp he=>?_
 subst he199_3
 refine X2ppp (hp.inv) fun zz zz he200_2 hf hx=>?_
 subst he200_2
 refine wpAny_Assign_Name ((h _ he s hs).out ?_) (BC he hn)
 rintro v σ₁ s₁ st₁ h₁ ⟨a,ra,q⟩
 exact BR hf hx h₁ ra fun s₂ st₂ h₂=>⟨.next,_,σ₁,st₁.trans st₂,h₂,trivial,q⟩
theorem Hi {sc:Nms}{pe:PySem.Expr}{e:E}{line:Nat}{env:Env}{tb:List Nat} (hc:CE tb sc pe e) (h:AC e=true):swapsWith pe none line env=pure false:=by
 replace hc:=hc.un
 unfold AC at h
 generalize e.un=e at hc h
 induction hc using CE.casesOn<;>first | rfl | exact (Bool.false_ne_true h).elim
set_option tactic.hygienic true in
theorem let_go {pe:PySem.Expr}{pos:Pos}{v:Value}{A:Around}{s:Shared}{Q':Flow->Shared->Prop} (h:Q' .next s):wpAny (model prog w) A (dropValue pe pos v) Q' X s:=by
 unfold dropValue
 split
 ·exact wpAny_pure h
 ·refine wpAny_bind (wpAny_standAt (wpAny_bind (wpAny_runValue (codeAny_builtin (b:=Builtin.«proto.let_go») (entryFor_of_tree (by kernel_rfl)) ?_))))
  exact wpAny_pure (wpAny_pure h)
 ·exact wpAny_pure h
set_option tactic.hygienic true in
theorem ST.expr {e:E} (hn:AC e=true) (h:ET F m σ e (fun zz σ₁=>K .next m σ₁) X):ST F m σ (.expr e) K X:=by
 intro ps hc s hs
 refine X2pp (hc.inv) fun pe pos he219_2 he=>?_
 subst he219_2
 have hi:interactive F.env=false:=by unfold interactive;rw [F.fk];rfl
 show wpAny _ _ (exec (.Expr pe pos) F.env) _ _ _
 rw [exec_Expr (hi:=hi) (hs:=Hi he hn)]
 refine wpAny_bind (wpAny_standAt (wpAny_bind ((h _ he s hs).out ?_)))
 rintro v σ₁ s₁ st₁ h₁ ⟨a,ra,q⟩
 exact let_go ⟨.next,m,σ₁,st₁,h₁,trivial,q⟩
end
end Mine
end
section
namespace Mine
open PySem PyProof.Rows PySem.W
variable {prog:Program}{w:World}{S:Sta prog w}
structure Ag where
 tb:List Nat
 n:Nat
 body:List Mine.S
structure FnEx (S:Sta prog w) (f:Addr) (c:Ag) (o:Obj) (fd:FuncData) (body:List Stmt) (names:List Str):Prop where
 ho:S.g.get? f=some o
 hd:o.data=.func fd
 hb:fd.body=.stmts body
 hcl:fd.closure=[]
 hg:fd.globals=mainGlobals
 hbl:fd.builtins=builtinsNs
 hk:fd.scope.kind=.function
 hco:fd.scope.isCoroutine=false
 hgen:fd.scope.isGenerator=false
 hcd:S.g.CodeRec fd.code fd.qualname
 hnl:names.length=c.n
 hbind:∀ vals:List Value,vals.length=c.n->bindArgs fd ⟨vals,[]⟩=pure (names.zip vals)
 hnm:∀ j x,names[j]?=some x->ixS c.tb x=some j/\(fd.scope.names.lookup x=some .local\/fd.scope.names.lookup x=some .cell)
 hnd:((cellsFrom 0 fd.scope.names []).map (·.1)).Nodup
 hcs:CSs c.tb fd.scope.names body c.body
structure IsFn (S:Sta prog w) (f:Addr) (c:Ag):Prop where
 ex:∃ (o:Obj) (fd:FuncData) (body:List Stmt) (names:List Str),FnEx S f c o fd body names
noncomputable def View (S:Sta prog w) (N:Addr->Prop) (v:AV) (σ:Store) (v':AV) (σ':Store):Prop :=
 ∀ s u,Inv S N σ s->Rep S.cv s.heap (DN N σ) v u->Inv S N σ' s/\Step noO noO σ s σ' s/\Rep S.cv s.heap (DN N σ') v' u
noncomputable abbrev KX:=Nat->Store->Prop
noncomputable abbrev noX:KX:=fun zz zz=>False
inductive PCv (S:Sta prog w) (N:Addr->Prop) (A:Around) (σ:Store) (s:Shared) (Q:AV->Store->Prop) (v:Value) (s':Shared):Prop
 | mk (av:AV) (σ':Store) (st:Step (Frm A) noO σ s σ' s') (i:Inv S N σ' s') (r:Rep S.cv s'.heap (DN N σ') av v) (q:Q av σ'):PCv S N A σ s Q v s'
noncomputable def PCe (S:Sta prog w) (N:Addr->Prop) (A:Around) (σ:Store) (s:Shared) (X:KX) (e:Value) (s':Shared):Prop:=False
noncomputable def CallT (S:Sta prog w) (k:Nat) (f:Value) (avs:List AV) (σ:Store) (Q:AV->Store->Prop) (X:KX):Prop :=
 ∀ (N:Addr->Prop) (A:Around) vals s,Room S N k A->Inv S N σ s->RepL S.cv s.heap (DN N σ) avs vals ->
  codeAny (model prog w) A (.call f ⟨vals,[]⟩) (fun r s'=>match r with
   | .ok (.ret v)=>PCv S N A σ s Q v s'
   | .ok _=>False
   | .error e=>PCe S N A σ s X e s') s
theorem CallT.mono {k:Nat}{f:Value}{avs:List AV}{σ:Store}{Q Q':AV->Store->Prop}{X X':KX} (h:CallT S k f avs σ Q X) (q:∀ a σ,Q a σ->Q' a σ) (x:∀ c σ,X c σ->X' c σ):CallT S k f avs σ Q' X' :=
 fun N A vals s hr hi rl=>codeAny_mono (h N A vals s hr hi rl) fun r s' z=>by
  cases r with
  | error e=>exact z
  | ok fl =>
   cases fl with
   | ret v=>obtain ⟨av,σ',a,b,c,d⟩:=z;exact ⟨av,σ',a,b,c,q _ _ d⟩
   | _=>exact z
noncomputable def XF (F:Fx S) (m:Nat->Option AV) (X:KX) (e:Value) (s':Shared):Prop:=False
noncomputable def XR (F:Fx S) (X:KX) (e:Value) (s':Shared):Prop:=False
theorem XF.up {F:Fx S}{m:Nat->Option AV}{X:KX}{e:Value}{s':Shared} (h:XF F m X e s'):XR F X e s':=h
section
variable {F:Fx S}{m:Nat->Option AV}{σ:Store}{Q:AV->Store->Prop}
theorem CT.own {k:Nat}{f:Value}{avs:List AV}{X:KX} (h:CallT S k f avs σ Q X) (hk:k<=F.k):CT F m σ f avs Q (XF F m X):=by
 intro vals s hs rl
 have room:Room S F.N k F.A:=⟨F.room.hh,F.room.fr,by have:=F.room.dp;exact lin [k,(F.k),(F.A.depth)] [] (.nlt 1 (.add V2 (.mul 2 V0)) Kd) [.nle 2 V0 V1,.nlt 1 (.add V2 (.mul 2 V1)) Kd] rfl hk this,by have:=F.room.un;exact lin [k,(F.k),(F.A.units)] [] (.nlt 1 (.add V2 (.mul 20 V0)) Bz) [.nle 20 V0 V1,.nlt 1 (.add V2 (.mul 20 V1)) Bz] rfl hk this⟩
 refine wpAny_call (codeAny_mono (h F.N F.A vals s room hs.inv rl) fun r s' x=>?_)
 cases r with
 | error e =>
  exact x
 | ok fl =>
  cases fl with
  | ret v =>
   obtain ⟨av,σ',st,i,r,q⟩:=x
   exact ⟨σ',st.mono (fun zz h=>h.elim),hs.to st i (fun zz h=>h),av,r,q⟩
  | _=>exact x
end
structure Top (F:Fx S):Prop where
 top:∃ l,F.A.frames=some (F.env::l)
 frame:F.env.frame=some F.env.locals
theorem Jb {F:Fx S}{A:Around}{N:Addr->Prop}{X:KX}{e:Value}{s s':Shared}{σ:Store}{l:List Env}{E:Value->Shared->Prop} (hA:F.A.frames=some (F.env::l)) (hl:A.frames=some l) (hfr:F.env.frame=some F.env.locals)
  (hN:F.N=fun a=>N a\/Own F.env a) (hb:F.b=(σ,s)) (hPn:∀ a,F.P a->Frm A a\/s.heap.get? a=Option.none) (hNin:∀ a,N a->∃ o,s.heap.get? a=some o) (x:XR F X e s') :
  wpAny (model prog w) F.A (leaving F.env e) (fun zz=>PCe S N A σ s X e) E s':=False.elim x
noncomputable def J8 (avs:List AV):Vars:=fun i=>avs[i]?
theorem H9 {names:List Str}{vals:List Value}{x:Str}{v:Value} (h:(x,v)∈names.zip vals):∃ j:Nat,names[j]?=some x/\vals[j]?=some v:=by
 obtain ⟨j,hj,e⟩:=List.mem_iff_getElem.mp h
 refine ⟨j,?_,?_⟩<;>simp only [List.getElem_zip,Prod.mk.injEq] at e<;>simp only [List.length_zip] at hj
 ·rw [List.getElem?_eq_getElem (by omega),e.1]
 ·rw [List.getElem?_eq_getElem (by omega),e.2]
theorem bindL_at {kind:Str->Option NameKind}:∀ {names:List Str}{vals:List Value} (m:Str->Option Value) {j:Nat}{x:Str}{v:Value},names.Nodup->names[j]?=some x->vals[j]?=some v->kind x=some .local->bindL kind (names.zip vals) m x=some v:=by
 intro names
 induction names with
 | nil=>intro vals m j x v _ h;simp at h
 | cons n r ih =>
  intro vals m j x v nd hx hv hk
  cases vals with
  | nil=>simp at hv
  | cons u us =>
   simp only [List.zip_cons_cons,bindL]
   rw [List.nodup_cons] at nd
   cases j with
   | zero =>
    simp only [List.getElem?_cons_zero,Option.some.injEq] at hx hv
    subst hx hv
    rw [if_pos hk]
    have:∀ (l:List (Str×Value)) (m:Str->Option Value),(∀ p∈l,p.1≠n)->bindL kind l m n=m n:=by
     intro l
     induction l with
     | nil=>intro m _;rfl
     | cons p l ih =>
      intro m hp
      obtain ⟨a,b⟩:=p
      simp only [bindL]
      rw [ih _ fun q hq=>hp q (.tail _ hq)]
      split
      ·exact if_neg fun e=>hp (a,b) (.head _) e.symm
      ·rfl
    rw [this _ _ fun p hp e=>nd.1 (by refine X1pp (H9 (x:=p.1) (v:=p.2) hp) fun j h1 zz=>?_;rw [e] at h1;exact List.mem_of_getElem? h1)]
    exact if_pos rfl
   | succ j=>exact ih _ nd.2 (by simpa using hx) (by simpa using hv) hk
theorem bindC_at {kind:Str->Option NameKind}:∀ {names:List Str}{vals:List Value} (m:Str->Option Value) {j:Nat}{x:Str}{v:Value},names.Nodup->names[j]?=some x->vals[j]?=some v->kind x≠some .local->bindC kind (names.zip vals) m x=some v:=by
 intro names
 induction names with
 | nil=>intro vals m j x v _ h;simp at h
 | cons n r ih =>
  intro vals m j x v nd hx hv hk
  cases vals with
  | nil=>simp at hv
  | cons u us =>
   simp only [List.zip_cons_cons,bindC]
   rw [List.nodup_cons] at nd
   cases j with
   | zero =>
    simp only [List.getElem?_cons_zero,Option.some.injEq] at hx hv
    subst hx hv
    rw [if_neg hk]
    have:∀ (l:List (Str×Value)) (m:Str->Option Value),(∀ p∈l,p.1≠n)->bindC kind l m n=m n:=by
     intro l
     induction l with
     | nil=>intro m _;rfl
     | cons p l ih =>
      intro m hp
      obtain ⟨a,b⟩:=p
      simp only [bindC]
      rw [ih _ fun q hq=>hp q (.tail _ hq)]
      split
      ·rfl
      ·exact if_neg fun e=>hp (a,b) (.head _) e.symm
    rw [this _ _ fun p hp e=>nd.1 (by refine X1pp (H9 (x:=p.1) (v:=p.2) hp) fun j h1 zz=>?_;rw [e] at h1;exact List.mem_of_getElem? h1)]
    exact if_pos rfl
   | succ j=>exact ih _ nd.2 (by simpa using hx) (by simpa using hv) hk
noncomputable def RetK (S:Sta prog w) (Q:AV->Store->Prop):Fl->Vars->Store->Prop:=fun fl zz σ=>∀ N:Addr->Prop,∃ v' σ',View S N (match fl with | .ret v=>v | .next=>.none) σ v' σ'/\Q v' σ'
inductive PB (F:Fx S) (Q:AV->Store->Prop) (f:Flow) (s':Shared):Prop
 | mk (fl:Fl) (m':Vars) (σ':Store) (h:F.St m' σ' s') (r:FlR S.cv s'.heap (F.D σ') f fl) (k:RetK S Q fl m' σ'):PB F Q f s'
theorem CallT.body0 {k:Nat}{f:Addr}{c:Ag}{avs:List AV}{σ:Store}{Q:AV->Store->Prop}{X:KX} (hf:IsFn S f c) (hn:avs.length=c.n)
  (h:∀ (F:Fx S),F.k=k->Top F->∀ Y:Value->Shared->Prop,(∀ e s,XR F X e s->Y e s)->PassesOwn (model prog w) F.A F.env Y->∀ ps,CSs F.tb F.sc ps c.body->∀ s,F.St (J8 avs) σ s->wpAny (model prog w) F.A (execs ps F.env) (PB F Q) Y s):CallT S (k+1) (.ref f) avs σ Q X:=by
 intro N A vals s room hi rl
 refine X4p (hf.ex) fun o fd body names hz198=>?_
 obtain ⟨ho,hd,hb,hcl,hg,hbl,hk,hco,hgen,hcd,hnl,hbind,hnm,hnd,hcs⟩:=hz198
 have hlen:vals.length=c.n:=rl.length.trans hn
 have hkind:∀ x∈names.zip vals,fd.scope.names.lookup x.1=some .local\/(fd.scope.names.lookup x.1=some .cell/\((cellsFrom (s.heap.objs.size+1) fd.scope.names []).lookup x.1).isSome=true):=by
  rintro ⟨x,v⟩ hx
  refine X1pp (H9 hx) fun j h1 zz=>?_
  rcases (hnm j x h1).2 with q | q
  ·exact .inl q
  ·exact .inr ⟨q,cellsFrom_some _ _ _ (.inl q)⟩
 refine codeAny_call_cells (fd:=fd) (body:=body) (binds:=names.zip vals) (by have:=room.dp;unfold recursionLimit;exact lin [(A.depth),k] [] (.nlt 1 V0 AG) [.nlt 1 (.add V0 (.mul 2 (.add V1 K1))) Kd] rfl this) (hi.keep _ _ ho) hd (S.lim.keeps hi.keep) (hcd.keeps hi.keep) hb (hbind vals hlen) hcl hkind (fun s₁ hin=>?_) hco hgen hk
 refine X2pp (hin.done) fun h₁ tk hs₁ hkeep=>?_
 have envL:(callEnvC fd s.heap.objs.size f).locals=s.heap.objs.size:=rfl
 have none_of:∀ a,s.heap.objs.size<=a->s.heap.get? a=Option.none:=fun a ha=>by
  cases q:s.heap.get? a with
  | none=>rfl
  | some o=>exact absurd (Heap.lt_size q) (Nat.not_lt.mpr ha)
 have ownNew:∀ a,Own (callEnvC fd s.heap.objs.size f) a->s.heap.get? a=Option.none:=by
  rintro a (rfl | ⟨x,hx⟩)
  ·exact none_of _ (Nat.le_refl _)
  ·exact none_of _ (Nat.le_of_lt (hin.above x a (mem_of_lookup hx)))
 have hnod:names.Nodup:=by
  rw [List.nodup_iff_pairwise_ne,List.pairwise_iff_getElem]
  intro i j hi hj hij e
  have h1:=(hnm i _ (List.getElem?_eq_getElem hi)).1
  have h2:=(hnm j _ (List.getElem?_eq_getElem hj)).1
  rw [e,h2] at h1
  have:=Option.some.inj h1
  exact lin [i,j] [] .no [.nlt 1 V0 V1,.neq 1 V1 V0] rfl hij this
 have er:Ext (DN N σ) s.heap s₁.heap:=Ext.of_keeps (by rw [hs₁];exact hkeep)
 have room':Room S (fun a=>N a\/Own (callEnvC fd s.heap.objs.size f) a) k (A.deeper (callEnvC fd s.heap.objs.size f)):=by
  refine ⟨room.hh,?_,?_,?_⟩
  ·refine X1pp (room.fr) fun l el hl=>?_
   refine ⟨callEnvC fd s.heap.objs.size f::l,?_,?_⟩
   ·show (A.frames.map (callEnvC fd s.heap.objs.size f::·))=_;rw [el];rfl
   ·intro e he
    rcases List.mem_cons.mp he with rfl | he
    ·exact ⟨by show fd.scope.kind≠_;rw [hk];simp,s.heap.objs.size,rfl,.inr (.inl rfl),hi.not_g (none_of _ (Nat.le_refl _))⟩
    ·refine Ad (hl e he) fun h1 hy234_0=>?_
     refine X1ppp (hy234_0) fun L h2 h3 h4=>?_;exact ⟨h1,L,h2,.inl h3,h4⟩
  ·have:=room.dp;show A.depth+1+2 * k<900;exact lin [(A.depth),k] [] (.nlt 1 (.add (.add V0 K1) (.mul 2 V1)) Kd) [.nlt 1 (.add V0 (.mul 2 (.add V1 K1))) Kd] rfl this
  ·have:=room.un;show A.units+3+20 * k<9000;exact lin [(A.units),k] [] (.nlt 1 (.add (.add V0 K3) (.mul 20 V1)) Bz) [.nlt 1 (.add V0 (.mul 20 (.add V1 K1))) Bz] rfl this
 have fc':∀ x,(callEnvC fd s.heap.objs.size f).kindOf x=some .cell->∃ c,(callEnvC fd s.heap.objs.size f).cells.lookup x=some c:=fun x hx =>
  Option.isSome_iff_exists.mp (cellsFrom_some (x:=x) fd.scope.names (s.heap.objs.size+1) [] (.inl hx))
 have hPn:∀ a,Frm (A.deeper (callEnvC fd s.heap.objs.size f)) a->Frm A a\/s.heap.get? a=Option.none:=by
  rintro a ⟨l,el,e,he,hf⟩
  refine X1pp (room.fr) fun l' el' zz=>?_
  have:l=callEnvC fd s.heap.objs.size f::l':=by
   have q:A.frames.map (callEnvC fd s.heap.objs.size f::·)=some l:=el
   rw [el'] at q;exact (Option.some.inj q).symm
  subst this
  rcases List.mem_cons.mp he with rfl | he
  ·exact .inr (by have q:some s.heap.objs.size=some a:=hf;cases q;exact none_of _ (Nat.le_refl _))
  ·exact .inl ⟨l',el',e,he,hf⟩
 have hPN:∀ a,Frm (A.deeper (callEnvC fd s.heap.objs.size f)) a->N a\/Own (callEnvC fd s.heap.objs.size f) a:=by
  rintro a ⟨l,el,e,he,hf⟩
  refine X1pp (room'.fr) fun l2 el2 h2=>?_
  rw [el2] at el;cases el
  refine Ad (h2 e he) fun zz hy253_0=>?_
  refine X1ppp (hy253_0) fun L h3 h4 zz=>?_
  rw [hf] at h3;cases h3;exact h4
 let Fc:Fx S:=⟨A.deeper (callEnvC fd s.heap.objs.size f),c.tb,callEnvC fd s.heap.objs.size f,(σ,s),(fun a=>N a\/Own (callEnvC fd s.heap.objs.size f) a),k,room',hk,hg,hbl,fc'⟩
 have hD:∀ b,DN Fc.N σ b->DN N σ b\/s.heap.get? b=Option.none:=fun b hb=>hb.elim (fun q=>.inl (.inl q)) fun q=>q.elim (fun q=>.inl (.inr q)) fun q=>.inr (ownNew b q)
 have st:Fc.St (J8 avs) σ s₁:=by
  refine ⟨⟨?_,?_,?_,?_,hi.σg,(fun a d q=>q.elim (hi.σN a d) fun q=>by refine X1p (hi.dom_there d) fun ob e=>?_;rw [ownNew a q] at e;cases e),fun a q=>?_,fun a oa e=>(hi.rep a oa e).ext er hD (by rw [hs₁];exact hkeep a)⟩,
   ⟨_,_,hin.toInCall.ns,hin.cell,fun a ha=>⟨hi.not_dom (ownNew a ha),hi.not_g (ownNew a ha)⟩,fun x y cc h1 h2=>name_of_addr hin.apart (mem_of_lookup h1) (mem_of_lookup h2),fun x cc h1=>Nat.ne_of_gt (hin.above x cc (mem_of_lookup h1)),fun x i av hx hm=>?_⟩,
   Step.of_keeps (by rw [hs₁];exact hkeep) (fun zz h=>.inl h),hPN,ownNew,fun a ha=>.inr ha,fun a e=>hi.not_g e⟩
  ·rw [hs₁];exact fun b ob e=>hkeep b ob (hi.keep b ob e)
  ·rw [hs₁];exact hi.gens
  ·rw [hs₁];exact hi.drawn
  ·rw [hs₁];exact hi.os
  ·rcases q with q | rfl | ⟨x,hx⟩
   ·refine X1pp (hi.Nin a q) fun ob e nf=>?_;rw [hs₁];exact ⟨ob,hkeep a ob e,nf⟩
   ·refine X3ppp (hin.toInCall.ns) fun ob zz zz e dd zz=>?_;exact ⟨ob,e,fun vs z=>by rw [dd] at z;cases z⟩
   ·refine X1pp (hin.cell x a hx) fun ob e dd=>?_;exact ⟨ob,e,fun vs z=>by rw [dd] at z;cases z⟩
  ·refine X1pp (rl.get hm) fun v hv rv=>?_
   have hin':i<names.length:=by
    have:i<vals.length:=by
     rcases Nat.lt_or_ge i vals.length with q | q
     ·exact q
     ·rw [List.getElem?_eq_none q] at hv;cases hv
    exact lin [(names.length),(c.n),(vals.length),i] [] (.nlt 1 V3 V0) [.neq (-1) V0 V1,.neq 1 V2 V1,.nlt 1 V3 V2] rfl hnl hlen this
   have hxi:=List.getElem?_eq_getElem hin'
   have hxx:names[i]=x:=Bo (hnm i _ hxi).1 hx
   rw [hxx] at hxi
   have rv':Rep S.cv s₁.heap (DN Fc.N σ) av v:=rv.ext er hD
   have kd:(callEnvC fd s.heap.objs.size f).kindOf x=fd.scope.names.lookup x:=rfl
   rcases (hnm i x hxi).2 with q | q
   ·show LocAt _ _ _ _ _ _ ((callEnvC fd s.heap.objs.size f).kindOf x) _ _
    rw [kd,q]
    exact ⟨v,bindL_at _ hnod hxi hv (kd.trans q),rv'⟩
   ·show LocAt _ _ _ _ _ _ ((callEnvC fd s.heap.objs.size f).kindOf x) _ _
    rw [kd,q]
    refine X1p (Option.isSome_iff_exists.mp (cellsFrom_some (x:=x) fd.scope.names (s.heap.objs.size+1) [] (.inl q))) fun cc hcc=>?_
    exact ⟨v,cc,hcc,bindC_at _ hnod hxi hv (by rw [kd,q];simp),rv'⟩
 refine X1pp (room.fr) fun lf elf zz=>?_
 have top:Fc.A.frames=some (Fc.env::lf):=by show (A.frames.map (callEnvC fd s.heap.objs.size f::·))=_;rw [elf];rfl
 have hbody:=h Fc rfl ⟨⟨lf,top⟩,rfl⟩
 have hcs':CSs Fc.tb Fc.sc body c.body:=hcs
 refine wpAny_mono (hbody _ (fun e s' hx=>Jb (N:=N) top elf rfl rfl rfl hPn (fun a q=>by refine X1pp (hi.Nin a q) fun o e zz=>?_;exact ⟨o,e⟩) hx) PassesOwn.leaving _ hcs' s₁ st) (fun fl s' hq=>?_) fun e s' hx=>hx
 obtain ⟨fl',m',σ',h',hfr,hret⟩:=hq
 refine X2pp (hret N) fun v' σ'' hview hQ=>?_
 have hi':Inv S N σ' s':=⟨h'.inv.keep,h'.inv.gens,h'.inv.drawn,h'.inv.os,h'.inv.σg,fun a d q=>h'.inv.σN a d (.inl q),fun a q=>h'.inv.Nin a (.inl q),
  fun a oa e=>(h'.inv.rep a oa e).ext (Ext.refl _ _) (fun b q=>.inl (q.imp id .inl)) fun zz q=>q⟩
 have fin:∀ u,Rep S.cv s'.heap (DN Fc.N σ') (match fl' with | .ret v=>v | .next=>.none) u->PCv S N A σ s Q u s':=by
  intro u ru
  refine AU (hview s' u hi' (ru.less fun a q=>q.imp id .inl)) fun i2 st2 r2=>?_
  exact ⟨v',σ'',(Step.narrow h'.frm hPn).trans st2.any,i2,r2,hQ⟩
 cases fl' with
 | next =>
  cases fl with
  | next=>exact fin .none .none
  | _=>exact hfr.elim
 | ret v =>
  cases fl with
  | ret u=>exact fin u hfr
  | _=>exact hfr.elim
theorem CallT.body {k:Nat}{f:Addr}{c:Ag}{avs:List AV}{σ:Store}{Q:AV->Store->Prop}{X:KX} (hf:IsFn S f c) (hn:avs.length=c.n)
  (h:∀ (F:Fx S),F.k=k->Top F->∀ Y:Value->Shared->Prop,(∀ e s,XR F X e s->Y e s)->PassesOwn (model prog w) F.A F.env Y->SsT F (J8 avs) σ c.body (RetK S Q) Y):CallT S (k+1) (.ref f) avs σ Q X :=
 CallT.body0 hf hn fun F hk ht Y y1 y2 ps hc s hs=>wpAny_mono (h F hk ht Y y1 y2 ps hc s hs) (fun _ _ ⟨fl,m',σ',_,h1,h2,h3⟩=>⟨fl,m',σ',h1,h2,h3⟩) fun zz zz e=>e
end Mine
end
section
namespace Mine
open PySem PyProof.Rows PySem.W
variable {prog:Program}{w:World}{S:Sta prog w}
noncomputable def Its (h:Heap) (W:Addr->Prop):Prop:=∀ a,W a->∃ o,h.get? a=some o/\Cw o
theorem Its.seq {h:Heap}{W:Addr->Prop} (x:Its h W) {a:Addr}{o:Obj} (e:h.get? a=some o) (hd:∀ vs,o.data≠.fields vs):¬ W a:=fun q=>by
 refine X1ppp (x a q) fun o' e' zz hy12_0=>?_
 refine X1p (hy12_0) fun vs hv=>?_
 rw [e] at e';cases e';exact hd vs hv
theorem Its.turn {h h':Heap}{D W:Addr->Prop} (it:Its h W) (k:∀ b o,¬ W b->h.get? b=some o->h'.get? b=some o) (b:Addr) (o:Obj) (e:h.get? b=some o) (hd:¬ Cw o) (d:¬ D b):h'.get? b=some o/\¬ D b :=
 ⟨k b o (fun q=>by refine X1pp (it b q) fun o' e' h'=>?_;exact hd (Option.some.inj (e'.symm.trans e)▸h')) e,d⟩
section
variable {cv:Nat->Value}{h h':Heap}{D W:Addr->Prop}
theorem Rep.it (it:Its h W) (k:∀ b o,¬ W b->h.get? b=some o->h'.get? b=some o) {av:AV}{v:Value} (r:Rep cv h D av v):Rep cv h' D av v :=
 r.turn (it.turn k)
theorem RepL.it (it:Its h W) (k:∀ b o,¬ W b->h.get? b=some o->h'.get? b=some o) {av:List AV}{v:List Value} (r:RepL cv h D av v):RepL cv h' D av v :=
 r.turn (it.turn k)
theorem RepD.it (it:Its h W) (k:∀ b o,¬ W b->h.get? b=some o->h'.get? b=some o) {av:List (Ab×AV)}{v:List DictEntry} (r:RepD cv h D av v):RepD cv h' D av v :=
 r.turn (it.turn k)
theorem RepF.it (it:Its h W) (k:∀ b o,¬ W b->h.get? b=some o->h'.get? b=some o) {av:List (Str×AV)}{v:List DictEntry} (r:RepF cv h D av v):RepF cv h' D av v :=
 r.turn (it.turn k)
theorem RepO.it (it:Its h W) (k:∀ b o,¬ W b->h.get? b=some o->h'.get? b=some o) {o:AObj}{a:Addr} (r:RepO cv h D o a):RepO cv h' D o a:=by
 induction r with
 | list e r=>exact .list (k _ _ (it.seq e (by intro _ h;cases h)) e) (r.it it k)
 | dict e sm n r=>exact .dict (k _ _ (it.seq e (by intro _ h;cases h)) e) sm n (r.it it k)
 | inst e n=>exact .inst (k _ _ (it.seq e (by intro _ h;cases h)) e) n
 | attrs e r=>exact .attrs (k _ _ (it.seq e (by intro _ h;cases h)) e) (r.it it k)
end
structure ItStep (W:Addr->Prop) (s s':Shared):Prop where
 keep:∀ b o,¬ W b->s.heap.get? b=some o->s'.heap.get? b=some o
 rest:s'.gens=s.gens/\s'.drawn=s.drawn/\s'.os=s.os
theorem St.it {tb:List Nat}{env:Env}{N P W:Addr->Prop}{b:Store×Shared}{m:Vars}{σ:Store}{s s':Shared} (hs:Mine.St S tb env N P b m σ s) (it:Its s.heap W)
  (new:∀ a,W a->b.2.heap.get? a=Option.none) (hN:∀ a,W a->¬ N a) (st:ItStep W s s'):Mine.St S tb env N P b m σ s':=by
 obtain ⟨mc,cm,n,c,ow,ap,cl,r⟩:=hs.loc
 have nI:∀ a,Own env a->¬ W a:=by
  rintro a (rfl | ⟨x,hx⟩)
  ·refine X3ppp (n) fun o es ep e d zz=>?_;exact it.seq e (by rw [d];intro _ h;cases h)
  ·refine X1pp (c x a hx) fun o e d=>?_;exact it.seq e (by rw [d];intro _ h;cases h)
 refine ⟨⟨fun a o e=>st.keep a o (fun q=>by rw [hs.gb a (new a q)] at e;cases e) (hs.inv.keep a o e),st.rest.1.trans hs.inv.gens,st.rest.2.1.trans hs.inv.drawn,st.rest.2.2.trans hs.inv.os,hs.inv.σg,hs.inv.σN,fun a h=>?_,fun a o e=>(hs.inv.rep a o e).it it st.keep⟩,?_,?_,hs.pN,hs.new,hs.own,hs.gb⟩
 ·refine X1pp (hs.inv.Nin a h) fun o e nf=>?_;exact ⟨o,st.keep a o (fun q=>hN a q h) e,nf⟩
 ·refine ⟨mc,cm,?_,fun x cc hx=>?_,ow,ap,cl,fun x i av hx hm=>?_⟩
  ·refine X3pp (n) fun o es ep e d=>?_;exact ⟨o,es,ep,st.keep _ _ (nI _ (.inl rfl)) e,d⟩
  ·refine X1pp (c x cc hx) fun o e d=>?_;exact ⟨o,st.keep _ _ (nI _ (.inr ⟨x,hx⟩)) e,d⟩
  ·exact LocAt.map (r x i av hx hm) (fun h2=>h2.it it st.keep) (fun zz h1=>h1) (fun zz h1=>h1)
 ·exact hs.frm.over fun c e o=>st.keep c o fun z=>e.elim fun o e=>Ae (new c z) e
structure Walk (F:Fx S) (I:Addr) (items:List AV) (t:PySem.Expr) (W:Addr->Prop) (J:Nat->Store->Shared->Prop) (ok:Store->Store->Prop):Prop where
 its:∀ i σ s,J i σ s->Its s.heap W
 stays:∀ i m m' σ s σ' s' (O:Addr->Prop),(∀ a,O a->F.N a)->(∀ a,W a->¬ F.N a)->J i σ s->F.St m σ s->Step F.P O σ s σ' s'->F.St m' σ' s'->ok σ σ'->J i σ' s'
 next:∀ i x m σ s (Ge:Shared->Prop) (Q:Value->Shared->Prop) (X:Value->Shared->Prop),items[i]?=some x->F.St m σ s->J i σ s ->
  (∀ v s₂,ItStep W s s₂->Rep S.cv s₂.heap (F.D σ) x v->J (i+1) σ s₂->Q v s₂) ->
  wpAny (model prog w) F.A (pyNext (.ref I)) (fun r s₁=>match r with
   | none=>Ge s₁
   | some v=>wpAny (model prog w) F.A (letOwnedTupleGo t (.ref I) v) (fun zz s₂=>Q v s₂) X s₁) X s
 self:∀ i σ s (Q:Value->Shared->Prop) (X:Value->Shared->Prop),J i σ s->Q (.ref I) s->wpAny (model prog w) F.A (pyIter (.ref I)) Q X s
 done:∀ m σ s (Q:Option Value->Shared->Prop) (X:Value->Shared->Prop),F.St m σ s->J items.length σ s->(∀ s₁,ItStep W s s₁->Q none s₁)->wpAny (model prog w) F.A (pyNext (.ref I)) Q X s
set_option tactic.hygienic true in
noncomputable def Kc (F:Fx S) (p:Pat) (body:List Mine.S) (ok:Store->Store->Prop) (K:Fl->Vars->Store->Prop) (X:Value->Shared->Prop):List AV->Vars->Store->Prop
 | [],m,σ=>K .next m σ
 | x::r,m,σ=>PT F m σ p x (fun Af σ₁=>SsT F Af σ₁ body (fun fl Ah σ₂=>match fl with
   | .next=>ok σ σ₂/\Kc F p body ok K X r Ah σ₂
   | .ret v=>K (.ret v) Ah σ₂) X) X
section
variable {F:Fx S}{σ:Store}{X:Value->Shared->Prop}{K:Fl->Vars->Store->Prop}
inductive FInv (F:Fx S) (p:Pat) (body:List Mine.S) (ok:Store->Store->Prop) (K:Fl->Vars->Store->Prop) (X:Value->Shared->Prop) (items:List AV) (J:Nat->Store->Shared->Prop) (σ₀:Store) (s₀:Shared) (n:Nat) (s':Shared):Prop
 | mk (i:Nat) (m':Vars) (σ':Store) (hn:n+i=items.length+1) (hi:i<=items.length) (st:Step F.P F.O σ₀ s₀ σ' s') (h:F.St m' σ' s') (hJ:J i σ' s') (l:Kc F p body ok K X (items.drop i) m' σ'):FInv F p body ok K X items J σ₀ s₀ n s'
set_option tactic.hygienic true in
theorem forLoopT {I:Addr}{items:List AV}{t:PySem.Expr}{W:Addr->Prop}{J:Nat->Store->Shared->Prop}{ok:Store->Store->Prop}{p:Pat}{body:List Mine.S}{pb:List Stmt}{m:Vars}{s₀ s:Shared}{σ₀:Store}
  (Wk:Walk F I items t W J ok) (hX:PassesOwn (model prog w) F.A F.env X) (hp:CP F.tb F.sc t p) (hb:CSs F.tb F.sc pb body) (new:∀ a,W a->s₀.heap.get? a=Option.none)
  (st:Step F.P F.O σ₀ s₀ σ s) (hs:F.St m σ s) (bN:∀ a,W a->F.b.2.heap.get? a=Option.none) (hN:∀ a,W a->¬ F.N a) (hJ:J 0 σ s) (h:Kc F p body ok K X items m σ) :
  codeAny (model prog w) F.A (.forLoop t (.ref I) pb [] F.env) (fun r s'=>match r with
   | .ok f=>PS F σ₀ s₀ K f s'
   | .error e=>cameBackBy (model prog w) F.A F.env X e s') s:=by
 refine codeAny_forLoop_any (FInv F p body ok K X items J σ₀ s₀) ?_ (items.length+1) ⟨0,m,σ,rfl,Nat.zero_le _,st,hs,hJ,h⟩
 rintro n s₁ ⟨i,Af,σ₁,hn,hi,st₁,h₁,Dg,hl⟩
 have its:=Wk.its i σ₁ s₁ Dg
 have stp:∀ {s₂:Shared},ItStep W s₁ s₂->Step F.P F.O σ₀ s₀ σ₁ s₂:=fun q=>st₁.over fun c e o=>q.keep c o fun z=>e.elim fun o e=>Ae (new c z) e
 by_cases hlt:i<items.length
 ·obtain ⟨x,hx⟩:∃ x,items[i]?=some x:=⟨_,List.getElem?_eq_getElem hlt⟩
  have hd:items.drop i=x::items.drop (i+1):=by
   rw [List.drop_eq_getElem_cons hlt]
   rw [List.getElem?_eq_getElem hlt] at hx
   cases hx;rfl
  rw [hd] at hl
  refine Wk.next i x Af σ₁ s₁ _ _ _ hx h₁ Dg fun v s₂ ist rv GR=>?_
  have h₂:F.St Af σ₁ s₂:=h₁.it its bN hN ist
  refine wpAny_passesOwn hX (wpAny_mono (hl t hp v s₂ h₂ rv) ?_ fun zz zz e=>e)
  rintro _ Bf ⟨m₃,σ₃,st₃,h₃,hq⟩
  refine wpAny_passesOwn hX (wpAny_mono (hq pb hb Bf h₃) ?_ fun zz zz e=>e)
  rintro f s₄ ⟨fl,m₄,Cy,BZ,Bq,hf,hq'⟩
  have st':=((stp ist).trans st₃).trans BZ
  cases fl with
  | next =>
   cases f with
   | next=>exact ⟨n - 1,by exact lin [(n - 1),n] [] (.nlt 1 V0 V1) [.neq 1 (.add V0 K1) V1] rfl (Nat.sub_add_cancel (lin [n,i,(items.length)] [] (.nle 1 K1 V0) [.neq (-1) (.add V0 V1) (.add V2 K1),.nlt 1 V1 V2] rfl hn hlt)),i+1,m₄,Cy,by exact Nat.le_antisymm (lin [n,i,(items.length),(n - 1)] [] (.nle 1 (.add V3 (.add V1 K1)) (.add V2 K1)) [.neq 1 (.add V0 V1) (.add V2 K1),.neq 1 (.add V3 K1) V0] rfl hn (Nat.sub_add_cancel (lin [n,i,(items.length)] [] (.nle 1 K1 V0) [.neq (-1) (.add V0 V1) (.add V2 K1),.nlt 1 V1 V2] rfl hn hlt))) (lin [n,i,(items.length),(n - 1)] [] (.nle 1 (.add V2 K1) (.add V3 (.add V1 K1))) [.neq (-1) (.add V0 V1) (.add V2 K1),.nle 1 V0 (.add K1 V3)] rfl hn (Nat.sub_le_iff_le_add'.mp (Nat.le_refl ((n) - (1))))),hlt,st',Bq,Wk.stays _ _ _ _ _ _ _ F.O h₂.own hN GR h₂ (st₃.trans BZ) Bq hq'.1,hq'.2⟩
   | _=>exact hf.elim
  | ret v =>
   cases f with
   | ret u=>exact ⟨.ret v,m₄,Cy,st',Bq,hf,hq'⟩
   | _=>exact hf.elim
 ·have hi':i=items.length:=by exact Nat.le_antisymm (hi) (lin [i,(items.length)] [] (.nle 1 V1 V0) [.nge 1 V0 V1] rfl hlt)
  subst hi'
  rw [List.drop_length] at hl
  refine Wk.done Af σ₁ s₁ _ _ h₁ Dg fun s₂ ist=>?_
  exact wpAny_execs_nil ⟨.next,Af,σ₁,stp ist,h₁.it its bN hN ist,trivial,hl⟩
end
end Mine
end
section
namespace Mine
open PySem PyProof.Rows PySem.W
variable {prog:Program}{w:World}{S:Sta prog w}
set_option tactic.hygienic true in
theorem A0 {A:Around}{X:Value->Shared->Prop}{t:PySem.Expr}{I:Addr}{v:Value}{s:Shared}{o:Obj}{T:String}{Q:Unit->Shared->Prop} (ho:s.heap.get? I=some o) (hc:o.cls=.type T)
  (hn:["enumerate", "zip", "dict_itemiterator", "dict_reverseitemiterator", "odict_iterator", "itertools.zip_longest", "itertools.pairwise"].contains T=false) (h:Q () s) :
  wpAny (model prog w) A (letOwnedTupleGo t (.ref I) v) Q X s:=by
 have core:wpAny (model prog w) A (do
  let (.ref r,.ref a):=((Value.ref I,v):Value×Value) | return
  let o <- load r
  match o.cls,o.data with
  | .type n,.fields vs =>
   if ["enumerate", "zip", "dict_itemiterator", "dict_reverseitemiterator", "odict_iterator", "itertools.zip_longest", "itertools.pairwise"].contains n && vs[0]? == some (rawInt a) then
    rule "for.unpacks-the-owned-tuple"
    updateField r 0 .none
  | _,_=>pure ()) Q X s:=by
  cases v with
  | ref a =>
   refine wpAny_bind (wpAny_load ho ?_)
   rw [hc]
   split
   ·rename_i n vs q1 q2
    cases q1
    rw [hn,Bool.false_and,if_neg Bool.false_ne_true]
    exact wpAny_pure h
   ·exact wpAny_pure h
  | _=>exact wpAny_pure h
 cases t<;>first | exact core | exact wpAny_pure h
theorem Its.notDom {N W:Addr->Prop}{σ:Store}{s:Shared} (x:Its s.heap W) (hi:Inv S N σ s) {a:Addr} (q:W a):¬ Dom σ a:=fun d=>by
 cases e:σ a with
 | none=>exact d e
 | some o =>
  cases hi.rep a o e with
  | list e _=>exact x.seq e (by intro _ h;cases h) q
  | dict e _ _ _=>exact x.seq e (by intro _ h;cases h) q
  | inst e _=>exact x.seq e (by intro _ h;cases h) q
  | attrs e _=>exact x.seq e (by intro _ h;cases h) q
section
variable {F:Fx S}{m m':Vars}{σ σ':Store}{s s':Shared}{X:Value->Shared->Prop}{Q:AV->Store->Prop}
theorem Its.notOwn {W:Addr->Prop} (x:Its s.heap W) (hs:F.St m σ s) {a:Addr} (q:W a):¬ F.O a:=by
 obtain ⟨mc,cm,n,c,_⟩:=hs.loc
 rintro (rfl | ⟨y,hy⟩)
 ·refine X3ppp (n) fun o es ep e d zz=>?_;exact x.seq e (by rw [d];intro _ h;cases h) q
 ·refine X1pp (c y a hy) fun o e d=>?_;exact x.seq e (by rw [d];intro _ h;cases h) q
theorem Its.still {O W:Addr->Prop} (x:Its s.heap W) (hs:F.St m σ s) (hO:∀ a,O a->F.N a) (hN:∀ a,W a->¬ F.N a) (st:Step F.P O σ s σ' s') {a:Addr} (q:W a) {o:Obj} (e:s.heap.get? a=some o):s'.heap.get? a=some o :=
 st.ext.obj a o e (fun d=>d.elim (x.notDom hs.inv q) fun z=>hN a q (z.elim (hO a) (hs.pN a)))
noncomputable def Moves (F:Fx S) (σ:Store) (s₁:Shared) (J:Fx S->Nat->Store->Shared->Prop):Prop :=
 ∀ (F₂:Fx S) (σ₂:Store) (s₂:Shared),(∀ b o,s₁.heap.get? b=some o->s₂.heap.get? b=some o)->(∀ b,F₂.D σ₂ b->F.D σ b\/s₁.heap.get? b=Option.none)->(∀ b o,σ b=some o->σ₂ b=some o)->J F₂ 0 σ₂ s₂
theorem Moves.here {J:Fx S->Nat->Store->Shared->Prop} (h:Moves F σ s J):J F 0 σ s:=h F σ s (fun zz zz e=>e) (fun zz d=>.inl d) fun zz zz e=>e
inductive PIter (F:Fx S) (σ:Store) (s:Shared) (items:List AV) (ok:Store->Store->Prop) (t:PySem.Expr) (it:Value) (s₁:Shared):Prop
 | mk (I:Addr) (W:Addr->Prop) (J:Fx S->Nat->Store->Shared->Prop) (hit:it=.ref I) (wk:∀ F₂:Fx S,Walk F₂ I items t W (J F₂) ok) (kp:∀ b o,s.heap.get? b=some o->s₁.heap.get? b=some o) (hs:∃ h' tk,s₁={ s with heap:=h',toks:=tk })
  (nw:∀ a,W a->s.heap.get? a=Option.none) (mv:Moves F σ s₁ J):PIter F σ s items ok t it s₁
noncomputable def IterT (F:Fx S) (σ:Store) (a:AV) (items:List AV) (ok:Store->Store->Prop):Prop :=
 ∀ m va s t (X:Value->Shared->Prop),F.St m σ s->Rep S.cv s.heap (F.D σ) a va->wpAny (model prog w) F.A (pyIter va) (PIter F σ s items ok t) X s
noncomputable def okL (a:AV) (σ σ':Store):Prop:=match a with
 | .loc ad _=>σ' ad=σ ad
 | _=>True
theorem okL_dl {a:AV}{l:List AV} (h:dl σ a=some l) (o:okL a σ σ'):dl σ' a=some l:=by
 cases a with
 | loc ad ii=>exact (congrArg (·.bind AObj.list?) (show σ' ad=σ ad from o)).trans h
 | _=>exact h
theorem IterT.list (hq:S.hx=Option.none) {a:AV}{l:List AV} (h:dl σ a=some l):IterT F σ a l (okL a):=by
 intro m va s t X hs ra
 refine X3ppp (ra.lst hs.inv h) fun ad vs n he81_3 e rl=>?_
 subst he81_3
 have hL:s.heap.IsList ad vs.toArray:=⟨_,e,rfl,n,rfl⟩
 refine wpAny_pyIter_list hL ⟨s.heap.objs.size,(·=s.heap.objs.size),fun F₂ i σ' s'=>s'.heap.IsListIter s.heap.objs.size ad i/\Rep S.cv s'.heap (F₂.D σ') a (.ref ad)/\dl σ' a=some l,rfl,?_,Am _ _,⟨_,_,rfl⟩,fun b q=>by rw [q];exact Ar _,?_⟩
 ·have its:∀ i (s':Shared),s'.heap.IsListIter s.heap.objs.size ad i->Its s'.heap (·=s.heap.objs.size):=by
   rintro i s' ⟨o,e,c,d⟩ b rfl
   exact ⟨o,e,⟨_,c,by decide⟩,_,d⟩
  intro F₂
  refine ⟨fun i σ' s' hJ=>its i s' hJ.1,fun i Af Ah σ₁ s₁ σ₂ s₂ O hO hN hJ h₁ st h₂ o=>⟨?_,hJ.2.1.step st hO h₁.pN,okL_dl hJ.2.2 o⟩,fun i x Af σ₁ s₁ Ge Q X hx h₁ hJ hQ=>?_,fun i σ₁ s₁ Q X hJ hQ=>wpAny_pyIter_listiter hJ.1 hQ,fun Af σ₁ s₁ Q X h₁ hJ hQ=>?_⟩
  ·have z:=its i s₁ hJ.1
   refine X1ppp (hJ.1) fun o e c d=>?_
   exact ⟨o,z.still h₁ hO hN st rfl e,c,d⟩
  ·refine AU (hJ) fun hit ra' hl=>?_
   refine X3ppp (ra'.lst h₁.inv hl) fun ad' ws n' e1 e' rl'=>?_
   cases e1
   refine X1pp (rl'.get hx) fun v hv rv=>?_
   have z:=its i s₁ hit
   refine wpAny_pyNext_list_item hit (items:=ws.toArray) ⟨_,e',rfl,n',rfl⟩ (x:=v) (by simpa using hv) fun h' hit' hsb=>?_
   have ist:ItStep (·=s.heap.objs.size) s₁ { s₁ with heap:=h' }:=⟨fun b o q e=>hsb.extBut b o q e,rfl,rfl,rfl⟩
   refine X1ppp (id hit') fun o eo co zz=>?_
   refine A0 eo co (by decide) (hQ v _ ist (rv.it z ist.keep) ⟨hit',ra'.it z ist.keep,hl⟩)
  ·refine AU (hJ) fun hit ra' hl=>?_
   refine X3ppp (ra'.lst h₁.inv hl) fun ad' ws n' e1 e' rl'=>?_
   cases e1
   exact wpAny_pyNext_list_end (F₂.room.quiet hq) hit (items:=ws.toArray) ⟨_,e',rfl,n',rfl⟩ (by simp [rl'.length]) fun h' he=>hQ _ ⟨fun b o q e=>he b o q e,rfl,rfl,rfl⟩
 ·intro F₂ σ₂ s₂ kp hD ks
  refine ⟨⟨_,kp _ _ (Heap.get?_push_size _ rfl),rfl,rfl⟩,?_,?_⟩
  ·refine Ad (hs.grow (Am s.heap { cls:=.type "list_iterator",data:=.fields #[.ref ad,.int 0 0] }) s.toks) fun h1 st=>?_
   exact (ra.st st.any h1).ext (Ext.of_keeps kp) hD
  ·cases a with
   | loc ad' ii =>
    refine X1pp (Aw (show (σ ad').bind AObj.list?=some l from h)) fun o e' h'=>?_
    exact (congrArg (·.bind AObj.list?) (ks _ _ e')).trans h'
   | _=>exact h
noncomputable def AD (a c:Int) (n:Nat):List AV:=(List.range n).map fun i:Nat=>AV.int (a+c * (i:Int))
end
end Mine
end
section
namespace Mine
open PySem PyProof.Rows PySem.W
variable {prog:Program}{w:World}{S:Sta prog w}
section
variable {A:Around}{E:Value->Shared->Prop}{s:Shared}
noncomputable def DictE (h:Heap) (d:Addr) (es:Array DictEntry) (ep:Nat):Prop:=h.get? d=some (AP es ep)
theorem DictE.typeIs {d:Addr}{es:Array DictEntry}{ep:Nat} (x:DictE s.heap d es ep):s.TypeIs (.ref d) "dict":=⟨_,x,rfl⟩
theorem dictIter {d:Addr}{es:Array DictEntry}{ep:Nat}{Q:Value->Shared->Prop} (hd:(d == sysModules)=false) (hm:DictE s.heap d es ep)
  (hQ:Q (.ref s.heap.objs.size) { s with heap:=s.heap.push { cls:=.type "dict_keyiterator",data:=.fields #[.ref d,.int 0 0,.int es.size 0,.int ep 0] } }) :
  wpAny (model prog w) A (pyIter (.ref d)) Q E s:=by
 have hT:=hm.typeIs
 refine wpAny_pyIter_slot hT PySem.F.slot_dict_iter (wpAny_call_entry PySem.F.slot_dict_iter hT PySem.F.entry_dict_iter ?_ (PySem.F.args_dict_iter_1 _))
 unfold Builtin.«dict.__iter__»
 refine wpAny_bind ?_
 unfold Builtin.Dict.dictSlotNone
 refine wpAny_bind (wpAny_notOrdered_dict hT ?_)
 show wpAny _ _ (pure (Value.ref d)) _ _ s
 refine wpAny_pure ?_
 show wpAny _ _ (Builtin.Dict.showsAll d >>= _) _ _ s
 unfold Builtin.Dict.showsAll
 rw [if_neg (by rw [hd];exact Bool.false_ne_true)]
 refine wpAny_bind (wpAny_pure ?_)
 refine wpAny_bind (wpAny_dictEntries hm rfl ?_)
 refine wpAny_bind (wpAny_dictEpoch hm rfl ?_)
 refine wpAny_bind (wpAny_newObj_type (wpAny_pure ⟨_,rfl, "dict_keyiterator",_,⟨_,Heap.get?_push_size _ rfl,rfl⟩,PySem.F.slot_dict_keyiterator_next.lookup,?_⟩))
 simpa [rawInt] using hQ
theorem dictNext {it d:Addr}{i ep:Nat}{es:Array DictEntry}{e:DictEntry}{Q:Option Value->Shared->Prop} (hit:s.heap.IsKeyIter it d i es.size ep)
  (hm:DictE s.heap d es ep) (hx:es[i]?=some e)
  (hQ:∀ h',h'.IsKeyIter it d (i+1) es.size ep->Heap.SameBut it s.heap h'->Q (some e.key) { s with heap:=h' }) :
  wpAny (model prog w) A (pyNext (.ref it)) Q E s:=by
 refine X1ppp (id hit) fun o ho hc hd=>?_
 unfold pyNext
 refine wpAny_bind (wpAny_attempt (wpAny_callSpecial?_slot (name:=Str.ofString "__next__") hit.typeIs PySem.F.slot_dict_keyiterator_next
  (wpAny_call_entry PySem.F.slot_dict_keyiterator_next hit.typeIs PySem.F.entry_dict_keyiterator_next ?_ (PySem.F.args_dict_keyiterator_next_1 _))))
 refine wpAny_bind (wpAny_pure ?_)
 refine wpAny_bind ?_
 refine wpAny_bind ?_
 first | refine wpAny_bind (wpAny_typeNameOfWhole_keyiter hit.typeIs (wpAny_pure ?_)) | refine wpAny_bind (wpAny_typeNameOf_keyiter hit.typeIs (wpAny_pure ?_))
 refine wpAny_bind (wpAny_fieldsOf ho hd ?_)
 have hown:Builtin.Dict_items.ownsTuple "dict_keyiterator"=false:=by decide
 rw [hown]
 show wpAny _ _ (if (Value.ref d == Value.none)=true then _ else _) _ _ s
 rw [if_neg (show ¬ ((Value.ref d == Value.none)=true) from Bool.false_ne_true)]
 refine wpAny_bind (wpAny_pure ?_)
 refine wpAny_bind (wpAny_dictEntries hm rfl ?_)
 rw [if_neg (by simp)]
 refine wpAny_bind (wpAny_pure ?_)
 refine wpAny_bind (wpAny_dictEpoch hm rfl ?_)
 rw [if_neg (by simp)]
 refine wpAny_pure ?_
 simp only [show ¬ ((i:Int)<0) from by exact lin [i] [] (.ige 1 (.c V0) K0) [] rfl,if_false,Int.toNat_natCast,hx]
 refine wpAny_bind ?_
 first | refine wpAny_bind (wpAny_typeNameOfWhole_keyiter hit.typeIs (wpAny_pure ?_)) | refine wpAny_bind (wpAny_typeNameOf_keyiter hit.typeIs (wpAny_pure ?_))
 refine wpAny_bind (wpAny_isOneOf_keyiter hit.typeIs ?_)
 show wpAny _ _ (setField (.ref it) 1 (rawInt ((i:Int)+1)) >>= _) _ _ s
 refine wpAny_bind (wpAny_setField ho hd (by simp) ?_)
 have hit':(s.heap.update it (Obj.mapFields (·.setIfInBounds 1 (rawInt ((i:Int)+1))))).IsKeyIter it d (i+1) es.size ep :=
  ⟨_,Heap.get?_update_self _ ho (Obj.isFreed_of_fields (Obj.data_mapFields hd _)),(Obj.cls_mapFields ..).trans hc,by rw [Obj.data_mapFields hd];simp [rawInt]⟩
 refine wpAny_bind (wpAny_holding ?_)
 refine wpAny_bind (wpAny_isOneOf_keyiter (s:={ s with heap:=s.heap.update it (Obj.mapFields (·.setIfInBounds 1 (rawInt ((i:Int)+1)))) }) hit'.typeIs ?_)
 show wpAny _ _ (pure e.key) _ _ _
 exact wpAny_pure (wpAny_pure ⟨_,rfl,wpAny_pure (hQ _ hit' (Heap.SameBut.update ..))⟩)
theorem dictEnd {it d:Addr}{i ep:Nat}{es:Array DictEntry}{Q:Option Value->Shared->Prop} (hh:A.handled=none) (hit:s.heap.IsKeyIter it d i es.size ep)
  (hm:DictE s.heap d es ep) (hx:es.size<=i) (hQ:∀ h',Heap.ExtBut it s.heap h'->Q none { s with heap:=h' }):wpAny (model prog w) A (pyNext (.ref it)) Q E s:=by
 refine X1ppp (id hit) fun o ho hc hd=>?_
 unfold pyNext
 refine wpAny_bind (wpAny_attempt (wpAny_callSpecial?_slot (name:=Str.ofString "__next__") hit.typeIs PySem.F.slot_dict_keyiterator_next
  (wpAny_call_entry PySem.F.slot_dict_keyiterator_next hit.typeIs PySem.F.entry_dict_keyiterator_next ?_ (PySem.F.args_dict_keyiterator_next_1 _))))
 refine wpAny_bind (wpAny_pure ?_)
 refine wpAny_bind ?_
 refine wpAny_bind ?_
 first | refine wpAny_bind (wpAny_typeNameOfWhole_keyiter hit.typeIs (wpAny_pure ?_)) | refine wpAny_bind (wpAny_typeNameOf_keyiter hit.typeIs (wpAny_pure ?_))
 refine wpAny_bind (wpAny_fieldsOf ho hd ?_)
 have hown:Builtin.Dict_items.ownsTuple "dict_keyiterator"=false:=by decide
 rw [hown]
 show wpAny _ _ (if (Value.ref d == Value.none)=true then _ else _) _ _ s
 rw [if_neg (show ¬ ((Value.ref d == Value.none)=true) from Bool.false_ne_true)]
 refine wpAny_bind (wpAny_pure ?_)
 refine wpAny_bind (wpAny_dictEntries hm rfl ?_)
 rw [if_neg (by simp)]
 refine wpAny_bind (wpAny_pure ?_)
 refine wpAny_bind (wpAny_dictEpoch hm rfl ?_)
 rw [if_neg (by simp)]
 refine wpAny_pure ?_
 simp only [show ¬ ((i:Int)<0) from by exact lin [i] [] (.ige 1 (.c V0) K0) [] rfl,if_false,Int.toNat_natCast,Array.getElem?_eq_none hx]
 refine wpAny_bind ?_
 first | refine wpAny_bind (wpAny_typeNameOfWhole_keyiter hit.typeIs (wpAny_pure ?_)) | refine wpAny_bind (wpAny_typeNameOf_keyiter hit.typeIs (wpAny_pure ?_))
 show wpAny _ _ (setField (.ref it) 0 .none >>= _) _ _ s
 refine wpAny_bind (wpAny_setField ho hd (by simp) ?_)
 show wpAny _ _ (newExc (.type "StopIteration") [] >>= _) _ _ _
 refine wpAny_bind ?_
 simp only [newExc,newTuple]
 refine wpAny_bind (wpAny_newObj_type ?_ (by size_fits))
 refine wpAny_bind (m:=firstArgMember _ _) (wpAny_of_eq (a:=Value.none) (by first | rfl | (simp only [firstArgMember];rfl)) ?_)
 refine wpAny_newObj_type ?_ (by size_fits)
 simp only [raiseNew]
 refine wpAny_bind (wpAny_handled ?_)
 rw [show A.in1.handled=none from hh]
 refine wpAny_bind (wpAny_pure (wpAny_throw ?_))
 refine wpAny_bind (wpAny_isInstance (T := "StopIteration") (b:=true) ⟨_,Heap.get?_push_size _ rfl,rfl⟩ isSubtype_stop ?_)
 exact wpAny_pure (hQ _ (((Heap.SameBut.update ..).extBut.push _).push _))
end
section
variable {F:Fx S}{m m':Vars}{σ σ':Store}{s s':Shared}{X:Value->Shared->Prop}{Q:AV->Store->Prop}
theorem grown {o:Obj}{av:AV}{v:Value} (hs:F.St m σ s) (r:Rep S.cv s.heap (F.D σ) av v):Rep S.cv (s.heap.push o) (F.D σ) av v:=by
 refine Ad (hs.grow (Am s.heap o) s.toks) fun h1 st=>?_
 exact r.st st.any h1
theorem IterT.tup (hq:S.hx=Option.none) {l:List AV}:IterT F σ (.tup l) l (fun zz zz=>True):=by
 intro m va s t X hs ra
 obtain ⟨ad,vs,n,rfl,e,rl⟩:∃ ad vs n,va=.ref ad/\s.heap.get? ad=some (Be (List.toArray vs) n)/\RepL S.cv s.heap (F.D σ) l vs:=by
  refine X3pppp (ra.inv) fun a b c e f zz r=>?_;exact ⟨a,b,c,e,f,r⟩
 have hL:s.heap.IsTuple ad vs.toArray:=⟨_,e,rfl,n,rfl⟩
 refine wpAny_pyIter_tuple hL ⟨s.heap.objs.size,(·=s.heap.objs.size),fun F₂ i σ' s'=>s'.heap.IsTupleIter s.heap.objs.size ad i/\Rep S.cv s'.heap (F₂.D σ') (.tup l) (.ref ad),rfl,?_,Am _ _,⟨_,_,rfl⟩,fun b q=>by rw [q];exact Ar _,?_⟩
 ·have its:∀ i (s':Shared),s'.heap.IsTupleIter s.heap.objs.size ad i->Its s'.heap (·=s.heap.objs.size):=by
   rintro i s' ⟨o,e,c,d⟩ b rfl
   exact ⟨o,e,⟨_,c,by decide,by decide⟩,_,d⟩
  intro F₂
  refine ⟨fun i σ' s' hJ=>its i s' hJ.1,fun i Af Ah σ₁ s₁ σ₂ s₂ O hO hN hJ h₁ st h₂ o=>⟨?_,hJ.2.step st hO h₁.pN⟩,fun i x Af σ₁ s₁ Ge Q X hx h₁ hJ hQ=>?_,fun i σ₁ s₁ Q X hJ hQ=>wpAny_pyIter_tupleiter hJ.1 hQ,fun Af σ₁ s₁ Q X h₁ hJ hQ=>?_⟩
  ·have z:=its i s₁ hJ.1
   refine X1ppp (hJ.1) fun o e c d=>?_
   exact ⟨o,z.still h₁ hO hN st rfl e,c,d⟩
  ·refine Ad (hJ) fun hit ra'=>?_
   ·refine X3pppp (ra'.inv) fun zz ws n' e0 e' d rl'=>?_
    obtain rfl:=Value.ref.inj e0
    refine X1pp (rl'.get hx) fun v hv rv=>?_
    have z:=its i s₁ hit
    refine wpAny_pyNext_tuple_item hit (items:=ws.toArray) ⟨_,e',rfl,n',rfl⟩ (x:=v) (by simpa using hv) fun h' hit' hsb=>?_
    have ist:ItStep (·=s.heap.objs.size) s₁ { s₁ with heap:=h' }:=⟨fun b o q e=>hsb.extBut b o q e,rfl,rfl,rfl⟩
    refine X1ppp (id hit') fun o eo co zz=>?_
    exact A0 eo co (by decide) (hQ v _ ist (rv.it z ist.keep) ⟨hit',ra'.it z ist.keep⟩)
  ·refine Ad (hJ) fun hit ra'=>?_
   ·refine X3pppp (ra'.inv) fun zz ws n' e0 e' d rl'=>?_
    obtain rfl:=Value.ref.inj e0
    exact wpAny_pyNext_tuple_end (F₂.room.quiet hq) hit (items:=ws.toArray) ⟨_,e',rfl,n',rfl⟩ (by simp [rl'.length]) fun h' he=>hQ _ ⟨fun b o q e=>he b o q e,rfl,rfl,rfl⟩
 ·intro F₂ σ₂ s₂ kp hD ks
  exact ⟨⟨_,kp _ _ (Heap.get?_push_size _ rfl),rfl,rfl⟩,(grown hs ra).ext (Ext.of_keeps kp) hD⟩
noncomputable def Cn (x:Str):List AV:=x.cps.toList.map fun c=>.str ⟨#[c]⟩
theorem IterT.str (hq:S.hx=Option.none) {x:Str} (ha:x.cps.all (·<128)=true):IterT F σ (.str x) (Cn x) (fun zz zz=>True):=by
 intro m va s t X hs ra
 refine X1p (ra.inv) fun tk he150_1=>?_
 subst he150_1
 refine wpAny_pyIter_ascii ha ⟨s.heap.objs.size,(·=s.heap.objs.size),fun F₂ i σ' s'=>s'.heap.IsStrIter s.heap.objs.size "str_ascii_iterator" x tk i,rfl,?_,Am _ _,⟨_,_,rfl⟩,fun b q=>by rw [q];exact Ar _,?_⟩
 ·have its:∀ i (s':Shared),s'.heap.IsStrIter s.heap.objs.size "str_ascii_iterator" x tk i->Its s'.heap (·=s.heap.objs.size):=by
   rintro i s' ⟨o,e,c,d⟩ b rfl
   exact ⟨o,e,⟨_,c,by decide,by decide⟩,_,d⟩
  intro F₂
  refine ⟨fun i σ' s' hJ=>its i s' hJ,fun i Af Ah σ₁ s₁ σ₂ s₂ O hO hN hJ h₁ st h₂ o=>?_,fun i y Af σ₁ s₁ Ge Q X hx h₁ hJ hQ=>?_,fun i σ₁ s₁ Q X hJ hQ=>wpAny_pyIter_striter_ascii hJ hQ,fun Af σ₁ s₁ Q X h₁ hJ hQ=>?_⟩
  ·have z:=its i s₁ hJ
   refine X1ppp (hJ) fun o e c d=>?_
   exact ⟨o,z.still h₁ hO hN st rfl e,c,d⟩
  ·have z:=its i s₁ hJ
   simp only [Cn,List.getElem?_map,Option.map_eq_some_iff,Array.getElem?_toList] at hx
   refine X1pp (hx) fun c hc he162_2=>?_
   subst he162_2
   refine wpAny_pyNext_ascii_item hJ (c:=c) hc fun h' hit' hsb=>?_
   have ist:ItStep (·=s.heap.objs.size) s₁ { s₁ with heap:=h',toks:=s₁.toks+1 }:=⟨fun b o q e=>hsb.extBut b o q e,rfl,rfl,rfl⟩
   refine X1ppp (id hit') fun o eo co zz=>?_
   exact A0 eo co (by decide) (hQ _ _ ist (.str _ _) hit')
  ·exact wpAny_pyNext_ascii_end (F₂.room.quiet hq) hJ (by simp [Cn]) fun h' he=>hQ _ ⟨fun b o q e=>he b o q e,rfl,rfl,rfl⟩
 ·intro F₂ σ₂ s₂ kp hD ks
  exact ⟨_,kp _ _ (Heap.get?_push_size _ rfl),rfl,rfl⟩
theorem RepD.length {cv:Nat->Value}{h:Heap}{D:Addr->Prop}{l:List (Ab×AV)}{es:List DictEntry} (r:RepD cv h D l es):es.length=l.length:=by
 induction l generalizing es with
 | nil=>rw [show es=[] from r.inv];rfl
 | cons p l ih=>refine X6ppppp (r.inv) fun t tx ty n v us he182_6 zz zz zz b=>?_;subst he182_6;exact congrArg Nat.succ (ih b)
theorem Rep.dctE {a:AV}{l:List (Ab×AV)}{v:Value} (r:Rep S.cv s.heap (F.D σ) a v) (hs:F.St m σ s) (h:dd σ a=some l) :
  ∃ ad es n,v=.ref ad/\DictE s.heap ad (List.toArray es) n/\(ad == sysModules)=false/\RepD S.cv s.heap (F.D σ) l es:=by
 refine X3ppppp (r.dct hs.inv h) fun ad es n he187_3 e sm nd rd=>?_
 subst he187_3
 exact ⟨ad,es,n,rfl,e,sm,rd⟩
noncomputable def AK (a b c:Int):Nat:=(Builtin.Range.rangeSize a b c).toNat
theorem IterT.range {a b c:Int} (hsm:Builtin.Range.small a b c=true):IterT F σ (.range a b c) (AD a c (AK a b c)) (fun zz zz=>True):=by
 intro m va s t X hs ra
 refine X4ppp (ra.inv) fun r tk1 tk2 tk3 he229_4 e d=>?_
 subst he229_4
 have sz:0<=Builtin.Range.rangeSize a b c:=by
  unfold Builtin.Range.rangeSize
  split
  ·split
   ·have:0<=(b - a - 1) / c:=Int.ediv_nonneg (by omega) (by omega)
    exact lin [] [((b - a - 1) / c)] (.ile 1 K0 (.add V0 K1)) [.ile 1 K0 V0] rfl this
   ·exact lin [] [] (.ile 1 K0 K0) [] rfl
  ·split
   ·have:0<=(a - b - 1) / -c:=Int.ediv_nonneg (by omega) (by omega)
    exact lin [] [((a - b - 1) / -c)] (.ile 1 K0 (.add V0 K1)) [.ile 1 K0 V0] rfl this
   ·exact lin [] [] (.ile 1 K0 K0) [] rfl
 refine wpAny_pyIter_range (t:=tk1) (u:=tk2) (v:=tk3) e hsm ⟨s.heap.objs.size,(·=s.heap.objs.size),fun F₂ i σ' s'=>IsRangeIter s'.heap s.heap.objs.size (a+c * i) (Builtin.Range.rangeSize a b c - i) c,rfl,?_,Am _ _,⟨_,_,rfl⟩,fun b q=>by rw [q];exact Ar _,?_⟩
 ·have its:∀ (i:Nat) (s':Shared),IsRangeIter s'.heap s.heap.objs.size (a+c * i) (Builtin.Range.rangeSize a b c - i) c->Its s'.heap (·=s.heap.objs.size):=by
   rintro i s' e b rfl
   exact ⟨_,e,⟨_,rfl,by decide,by decide⟩,_,rfl⟩
  have len:(AD a c (AK a b c)).length=AK a b c:=by simp [AD]
  intro F₂
  refine ⟨fun i σ' s' hJ=>its i s' hJ,fun i Af Ah σ₁ s₁ σ₂ s₂ O hO hN hJ h₁ st h₂ o=>?_,fun i y Af σ₁ s₁ Ge Q X hx h₁ hJ hQ=>?_,fun i σ₁ s₁ Q X hJ hQ=>wpAny_pyIter_rangeiter hJ hQ,fun Af σ₁ s₁ Q X h₁ hJ hQ=>?_⟩
  ·exact (its i s₁ hJ).still h₁ hO hN st rfl hJ
  ·have z:=its i s₁ hJ
   simp only [AD,List.getElem?_map,Option.map_eq_some_iff] at hx
   refine X1pp (hx) fun j hj he251_2=>?_
   subst he251_2
   have hlt:i<AK a b c:=by
    rcases Nat.lt_or_ge i (AK a b c) with q | q
    ·exact q
    ·rw [List.getElem?_eq_none (by simpa using q)] at hj;cases hj
   have:j=i:=by rw [List.getElem?_range hlt] at hj;exact (Option.some.inj hj).symm
   subst this
   refine wpAny_pyNext_range_item hJ (by unfold AK at hlt;exact lin [j,((Builtin.Range.rangeSize a b c).toNat)] [(Builtin.Range.rangeSize a b c)] (.ilt 1 K0 (.sub V0 (.c V0))) [.nlt 1 V0 V1,.ieq 1 (.c V1) V0] rfl hlt (Int.toNat_of_nonneg (sz))) fun h' hit' hsb=>?_
   have ist:ItStep (·=s.heap.objs.size) s₁ { s₁ with heap:=h',toks:=s₁.toks+1 }:=⟨fun b o q e=>hsb.extBut b o q e,rfl,rfl,rfl⟩
   refine A0 hit' rfl (by decide) (hQ _ _ ist (.int _ _) ?_)
   show IsRangeIter h' _ _ _ _
   have e1:a+c * ((j+1:Nat):Int)=a+c * j+c:=by rw [Int.natCast_add,Int.mul_add];simp [Int.add_assoc]
   have e2:Builtin.Range.rangeSize a b c - ((j+1:Nat):Int)=Builtin.Range.rangeSize a b c - j - 1:=by exact Int.le_antisymm (lin [j] [(Builtin.Range.rangeSize a b c)] (.ile 1 (.sub V0 (.c (.add V0 K1))) (.sub (.sub V0 (.c V0)) K1)) [] rfl) (lin [j] [(Builtin.Range.rangeSize a b c)] (.ile 1 (.sub (.sub V0 (.c V0)) K1) (.sub V0 (.c (.add V0 K1)))) [] rfl)
   rw [e1,e2];exact hit'
  ·refine IG F₂.room.hh (fun x hx=>by refine X2pp (S.hxo x hx) fun o vs e r=>?_;exact ⟨o,vs,h₁.inv.keep _ _ e,r⟩) hJ ?_ fun h' he=>hQ _ ⟨fun b o q e=>he b o q e,rfl,rfl,rfl⟩
   rw [len];unfold AK;exact lin [((Builtin.Range.rangeSize a b c).toNat)] [(Builtin.Range.rangeSize a b c)] (.ile 1 (.sub V0 (.c V0)) K0) [.ile 1 V0 (.c V0)] rfl (Int.self_le_toNat (Builtin.Range.rangeSize a b c))
 ·intro F₂ σ₂ s₂ kp hD ks
  show IsRangeIter _ _ _ _ _
  have:=kp _ _ <| Heap.get?_push_size s.heap (o:={ cls:=.type "range_iterator",data:=.fields #[rawInt a,rawInt (Builtin.Range.rangeSize a b c),rawInt c] }) rfl
  simpa using this
theorem C9 {h':Heap}{tk:Nat}{r:Addr}{a b c:Int}{t u v:Tok} (hs:F.St m σ s) (k:∀ b o,s.heap.get? b=some o->h'.get? b=some o) (ha:s.heap.get? r=Option.none)
  (e:h'.get? r=some (Gq a b c t u v)) (q:Q (.range a b c) σ) :
  PW F m σ s (PV F Q) (.ref r) { s with heap:=h',toks:=tk }:=by
 refine Ad (hs.grow k tk) fun h1 st=>?_
 exact ⟨σ,st.any,h1,_,.range e (hs.inv.not_D ha),q⟩
theorem CT.range1 {n:Int} (h:Q (.range 0 n 1) σ):CT F m σ (.type "range") [.int n] Q X:=by
 intro vals s hs r
 refine X1pp (r.one) fun v he279_1 ra=>?_
 subst he279_1
 refine X1p (ra.inv) fun zz he280_1=>?_
 subst he280_1
 exact call_range_1 (C9 (tk:=s.toks+1+1) hs (Am _ _) (Ar _) (IsRange.new ..) h)
theorem CT.range2 {a b:Int} (h:Q (.range a b 1) σ):CT F m σ (.type "range") [.int a,.int b] Q X:=by
 intro vals s hs r
 refine X2ppp (r.two) fun v u he284_2 ra rb=>?_
 subst he284_2
 refine X1p (ra.inv) fun zz he285_1=>?_
 subst he285_1
 refine X1p (rb.inv) fun zz he286_1=>?_
 subst he286_1
 exact call_range_2 (C9 (tk:=s.toks+1) hs (Am _ _) (Ar _) (IsRange.new ..) h)
theorem CT.range3 {a b c:Int} (hc:c≠0) (hc':c.natAbs<1073741824) (h:Q (.range a b c) σ):CT F m σ (.type "range") [.int a,.int b,.int c] Q X:=by
 intro vals s hs r
 ·obtain ⟨_,_,rfl,ra,r⟩:=r.inv
  obtain ⟨_,_,rfl,rb,rc⟩:=r.two
  refine X1p (ra.inv) fun zz he292_1=>?_
  subst he292_1
  refine X1p (rb.inv) fun zz he293_1=>?_
  subst he293_1
  refine X1p (rc.inv) fun zz he294_1=>?_
  subst he294_1
  ··exact call_range_3 hc (C9 (tk:=s.toks) hs (Am _ _) (Ar _) (IsRange.new ..) h) (.inl (PyProof.noPylong_small hc'))
end
end Mine
end
section
namespace Mine
open PySem PyProof.Rows PySem.W
variable {prog:Program}{w:World}{S:Sta prog w}
section
variable {F:Fx S}{m m':Vars}{σ σ':Store}{s s':Shared}{X:Value->Shared->Prop}{Q:AV->Store->Prop}{K:Fl->Vars->Store->Prop}
noncomputable def Tgt (p:Pat) (t:PySem.Expr):Prop:=match p with
 | .tup _=>∃ es k q,t=.Tuple es k q
 | _=>True
theorem CP.tgt {tb:List Nat}{sc:Nms}{t:PySem.Expr}{p:Pat} (h:CP tb sc t p):Tgt p t:=by
 cases h with
 | v=>trivial
 | tup=>exact ⟨_,_,_,rfl⟩
inductive PSrc (F:Fx S) (m:Vars) (σ:Store) (s:Shared) (t:PySem.Expr) (G:List AV->(Store->Store->Prop)->Store->Prop) (it:Value) (s₂:Shared):Prop
 | mk (I:Addr) (items:List AV) (W:Addr->Prop) (J:Fx S->Nat->Store->Shared->Prop) (ok:Store->Store->Prop) (σ₂:Store) (sm:Shared) (hit:it=.ref I) (wk:∀ F₂:Fx S,Walk F₂ I items t W (J F₂) ok) (st:Step F.P F.O σ s σ₂ sm) (hm:F.St m σ₂ sm)
  (st':Step noO noO σ₂ sm σ₂ s₂) (h:F.St m σ₂ s₂) (nw:∀ a,W a->sm.heap.get? a=Option.none) (mv:Moves F σ₂ s₂ J) (g:G items ok σ₂):PSrc F m σ s t G it s₂
noncomputable def SrcT (F:Fx S) (m:Vars) (σ:Store) (p:Pat) (e:E) (G:List AV->(Store->Store->Prop)->Store->Prop) (X:Value->Shared->Prop):Prop :=
 ∀ pe t,CE F.tb F.sc pe e->Tgt p t->∀ s,F.St m σ s ->
  wpAny (model prog w) F.A (eval pe F.env) (fun x s₁=>wpAny (model prog w) F.A (pyIter x) (PSrc F m σ s t G) X s₁) X s
theorem SrcT.val {p:Pat}{e:E}{G:List AV->(Store->Store->Prop)->Store->Prop} (h:ET F m σ e (fun a σ₁=>∃ items ok,IterT F σ₁ a items ok/\G items ok σ₁) X):SrcT F m σ p e G X:=by
 intro pe t hc hp s hs
 refine (h pe hc s hs).out ?_
 rintro v σ₁ s₁ st₁ h₁ ⟨a,ra,items,ok,hit,hg⟩
 refine wpAny_mono (hit m v s₁ t X h₁ ra) ?_ fun zz zz e=>e
 rintro it s₂ ⟨I,W,J,rfl,wk,kp,⟨h',tk,rfl⟩,nw,hJ⟩
 refine Ad (h₁.grow kp tk) fun h₂ st=>?_
 exact ⟨I,items,W,J,ok,σ₁,s₁,rfl,wk,st₁,h₁,st,h₂,nw,hJ,hg⟩
theorem E1 {e:PySem.Expr}{env:Env} (h:AO e=true):∀ x,foldedSetIterable e env x=pure x:=by
 intro x;cases e<;>first | rfl | cases h
theorem ST.for_ {p:Pat}{e:E}{body:List Mine.S} (hX:PassesOwn (model prog w) F.A F.env X) (h:SrcT F m σ p e (fun items ok σ₁=>Kc F p body ok K X items m σ₁) X):ST F m σ (.for_ p e body) K X:=by
 intro ps hc s hs
 refine X4ppppp (hc.inv) fun zz zz zz zz he40_4 hn hp he hb=>?_
 subst he40_4
 refine wpAny_For (wpAny_mono (h _ _ he hp.tgt s hs) ?_ fun zz zz e=>e) (E1 hn)
 intro x s₁ h₁
 refine wpAny_mono h₁ ?_ fun zz zz e=>e
 rintro it s₂ ⟨I,items,W,J,ok,σ₂,sm,rfl,wk,st,hm,stm,h₂,nwm,hJ,hl⟩
 have nw:∀ a,W a->s.heap.get? a=Option.none:=fun a q=>st.new (nwm a q)
 replace st:=st.trans stm.any
 refine codeAny_mono (forLoopT (wk F) hX hp hb nw st h₂ (fun a q=>?_) (fun a q n=>?_) hJ.here hl) fun r s' x=>?_
 ·cases z:F.b.2.heap.get? a with
  | none=>rfl
  | some o=>refine X1p (hs.frm.there a o z) fun o' e'=>?_;rw [nw a q] at e';cases e'
 ·refine X1pp (hs.inv.Nin a n) fun o e' nf=>?_;rw [nw a q] at e';cases e'
 ·cases r<;>exact x
set_option tactic.hygienic true in
theorem ST.while_ {c:E}{body:List Mine.S} (hX:PassesOwn (model prog w) F.A F.env X) (I:Nat->Vars->Store->Prop)
  (turn:∀ n m σ,I n m σ->TT F m σ c (fun t σ₁=>if t then SsT F m σ₁ body (fun fl Ah σ₂=>match fl with
   | .next=>∃ n',n'<n/\I n' Ah σ₂
   | .ret v=>K (.ret v) Ah σ₂) X else K .next m σ₁) X) (n:Nat) (h:I n m σ):ST F m σ (.while_ c body) K X:=by
 intro ps hc s hs
 have hi0:=hc.inv
 clear hc
 refine X3ppp (hi0) fun zz zz zz he62_3 hc hb=>?_
 subst he62_3
 refine wpAny_While (codeAny_whileLoop (fun n=>PP F σ s (I n)) ?_ n ⟨m,σ,Step.refl _ _ _ _,hs,h⟩)
 rintro n s₁ ⟨Af,σ₁,st₁,h₁,hI⟩
 refine wpAny_passesOwn hX ((turn n Af σ₁ hI _ hc s₁ h₁).out ?_)
 rintro b σ₂ s₂ st₂ h₂ q
 cases b with
 | true =>
  simp only [if_true] at q ⊢
  refine wpAny_passesOwn hX (wpAny_mono (q _ hb s₂ h₂) ?_ fun zz zz e=>e)
  rintro f Bf ⟨fl,m₃,σ₃,st₃,h₃,hf,q'⟩
  have st':=(st₁.trans st₂).trans st₃
  cases fl with
  | next =>
   cases f with
   | next=>refine X1pp (q') fun n' hn hI'=>?_;exact ⟨n',hn,m₃,σ₃,st',h₃,hI'⟩
   | _=>exact hf.elim
  | ret v =>
   cases f with
   | ret u=>exact ⟨.ret v,m₃,σ₃,st',h₃,hf,q'⟩
   | _=>exact hf.elim
 | false =>
  simp only [Bool.false_eq_true,if_false] at q ⊢
  exact wpAny_execs_nil ⟨.next,Af,σ₂,st₁.trans st₂,h₂,trivial,q⟩
noncomputable def PTs (F:Fx S) (X:Value->Shared->Prop) (K:Vars->Store->Prop):List Pat->List AV->Vars->Store->Prop
 | [],[],m,σ=>K m σ
 | p::ps,a::as,m,σ=>PT F m σ p a (fun Af σ₁=>PTs F X K ps as Af σ₁) X
 | _,_,_,_=>False
theorem E4 {e:PySem.Expr}{r:List PySem.Expr}{env:Env} (h:A4 e=true):assignEach (e::r) env=(false,assign e env)::assignEach r env:=by
 cases e<;>first | rfl | cases h
theorem each_len:∀ {qs:List Pat}{es:List PySem.Expr},CPs F.tb F.sc es qs->(assignEach es F.env).length=qs.length/\(assignEach es F.env).findIdx? (·.1)=none:=by
 intro qs
 induction qs with
 | nil=>intro es hc;obtain rfl:=hc.inv_nil;exact ⟨rfl,rfl⟩
 | cons q qs ih =>
  intro es hc
  refine X2pppp (hc.inv) fun zz zz he99_2 hn hp hr=>?_
  subst he99_2
  refine Ad (ih hr) fun z1 z2=>?_
  rw [E4 hn]
  refine ⟨by rw [List.length_cons,List.length_cons,z1],?_⟩
  rw [List.findIdx?_cons];simp [z2]
theorem PTs.run {K:Vars->Store->Prop}:∀ {ps:List Pat}{as:List AV}{pes:List PySem.Expr}{vs:List Value}{m:Vars}{σ:Store}{s:Shared} ,PTs F X K ps as m σ->CPs F.tb F.sc pes ps->RepL S.cv s.heap (F.D σ) as vs->F.St m σ s ->
  wpAny (model prog w) F.A (assignInOrder ((assignEach pes F.env).map (·.2)) vs) (fun zz=>PP F σ s K) X s:=by
 intro ps
 induction ps with
 | nil =>
  intro as pes vs m σ s h hc r hs
  obtain rfl:=hc.inv_nil
  cases as with
  | nil=>rw [show vs=[] from r.inv];exact wpAny_assignInOrder_none ⟨m,σ,Step.refl _ _ _ _,hs,h⟩
  | cons=>exact h.elim
 | cons p ps ih =>
  intro as pes vs m σ s h hc r hs
  refine X2pppp (hc.inv) fun e rr he116_2 hn hp hr=>?_
  subst he116_2
  rw [E4 hn]
  cases as with
  | nil=>exact h.elim
  | cons a as =>
   ·obtain ⟨v,vs,rfl,r1,r⟩:=r.inv
    refine wpAny_assignInOrder_more (wpAny_mono (h e hp v s hs r1) ?_ fun zz zz e=>e)
    rintro _ s₁ ⟨Af,σ₁,st₁,h₁,q⟩
    refine wpAny_mono (ih q hr (r.st st₁ h₁) h₁) ?_ fun zz zz e=>e
    rintro _ s₂ ⟨Ah,σ₂,st₂,h₂,AW⟩
    exact ⟨Ah,σ₂,st₁.trans st₂,h₂,AW⟩
theorem Js {h':Heap} (hs:F.St m σ s) (k:Heap.ExtBut s.heap.objs.size s.heap h'):F.St m σ { s with heap:=h' }/\Step F.P F.O σ s σ { s with heap:=h' }:=by
 refine Ad (hs.grow (h':=h') (fun b o e=>k b o (Nat.ne_of_lt (Heap.lt_size e)) e) s.toks) fun h1 st=>?_
 exact ⟨h1,st.any⟩
theorem PT.tup (hq:S.hx=Option.none) {ps:List Pat}{l:List AV}{K:Vars->Store->Prop} (hl:ps.length=l.length) (h:PTs F X K ps l m σ):PT F m σ (.tup ps) (.tup l) K X:=by
 intro pe hc v s hs r
 have hi0:=hc.inv
 clear hc
 obtain ⟨_,_,_,rfl,hc⟩:=hi0
 ·obtain ⟨ad,vs,n,rfl,e,d,r⟩:=r.inv
  have ht:s.heap.IsTuple ad vs.toArray:=⟨_,e,rfl,n,rfl⟩
  obtain ⟨z1,z2⟩:=each_len hc
  refine wpAny_assign_Tuple (F.room.quiet hq) ht (by rw [z1,hl,List.size_toArray,r.length]) z2 fun h' k=>?_
  obtain ⟨h1,st⟩:=Js hs k
  refine wpAny_mono (h.run hc (r.st st h1) h1) ?_ fun zz zz e=>e
  rintro _ s₂ ⟨Ah,σ₂,st₂,h₂,AW⟩
  exact ⟨Ah,σ₂,st.trans st₂,h₂,AW⟩
theorem EC {ts:List PySem.Expr}{k:Nat}{tp:Pos}{pe:PySem.Expr}{e:E}{env:Env}{tb:List Nat}{sc:Nms} (hc:CE tb sc pe e) (h:EM e=true):swappedStores [.Tuple ts k tp] pe env=pure none:=by
 replace hc:=hc.un
 unfold EM at h
 generalize e.un=e at hc h
 induction hc using CE.casesOn<;>first | rfl | exact (Bool.false_ne_true h).elim
set_option tactic.hygienic true in
theorem ST.unpack {ps:List Pat}{e:E} (hn:EM e=true) (hn':AC e=true) (h:ET F m σ e (fun a σ₁=>PT F m σ₁ (.tup ps) a (fun Ah σ₂=>K .next Ah σ₂) X) X):ST F m σ (.assign (.tup ps) e) K X:=by
 intro st hc s hs
 refine X3ppp (hc.inv) fun zz zz zz he152_3 hp he=>?_
 subst he152_3
 have hp':=hp
 refine X3pp (hp'.inv) fun zz zz zz he154_3 hps=>?_
 subst he154_3
 refine Assign_Tuple ((h _ he s hs).out ?_) (by unfold swapsWithSole;exact BC he hn') (EC he hn)
 rintro v σ₁ s₁ st₁ h₁ ⟨a,ra,q⟩
 refine wpAny_mono (q _ hp v s₁ h₁ ra) ?_ fun zz zz e=>e
 rintro _ s₂ ⟨Ah,σ₂,st₂,h₂,AW⟩
 exact ⟨.next,Ah,σ₂,st₁.trans st₂,h₂,trivial,AW⟩
noncomputable def Dc:Nat->E->Bool
 | _,.v _=>true
 | n+1,.bin _ l r=>Dc n l || Dc n r
 | n+1,.tup es=>es.any (Dc n)
 | _,_=>false
theorem EO {tb:List Nat}{sc:Nms}:∀ {n:Nat}{pe:PySem.Expr}{e:E},CE tb sc pe e->Dc n e=true->constantsAlone n pe=false:=by
 intro n
 induction n with
 | zero =>
  intro pe e hc h
  cases e<;>first | exact (Bool.false_ne_true h).elim | skip
  refine X2pp (hc.inv) fun zz zz he173_2 hx=>?_
  subst he173_2
  exact AL hx.ok
 | succ n ih =>
  intro pe e hc h
  cases e with
  | v =>
   refine X2pp (hc.inv) fun zz zz he179_2 hx=>?_
   subst he179_2
   exact AL hx.ok
  | bin op l r =>
   refine X3ppp (hc.inv) fun zz zz zz he182_3 hl hr=>?_
   subst he182_3
   exact Bool.and_eq_false_iff.mpr ((Bool.or_eq_true_iff.mp h).imp (ih hl) (ih hr))
  | tup es =>
   refine X3pp (hc.inv) fun pes zz zz he185_3 he=>?_
   subst he185_3
   change es.any (Dc n)=true at h
   show pes.all (constantsAlone n)=false
   clear hc
   induction es generalizing pes with
   | nil=>exact (Bool.false_ne_true h).elim
   | cons e es ih2 =>
    have hi0:=he.inv
    clear he
    refine X2pppp (hi0) fun zz zz he194_2 hn he hr=>?_
    subst he194_2
    exact Bool.and_eq_false_iff.mpr ((Bool.or_eq_true_iff.mp h).imp (ih he) fun h=>ih2 _ hr h)
  | _=>exact (Bool.false_ne_true h).elim
theorem set_swap (m:Vars) {i j:Nat} (a b:AV) (h:i≠j):(m.set i a).set j b=(m.set j b).set i a:=by
 funext k
 unfold Vars.set
 by_cases h1:k=j
 ·subst h1;simp [Ne.symm h]
 ·simp [h1]
set_option tactic.hygienic true in
theorem sw2 {env:Env}{x1 x2:Str}{p1 p2 tp p:Pos}{k kk:Nat}{pa pb:PySem.Expr} (bk:env.blockKind=.function)
  (c2:(constantsAlone 8 pa && constantsAlone 8 pb)=false) :
  swappedStores [.Tuple [.Name x1 p1,.Name x2 p2] k tp] (.Tuple [pa,pb] kk p) env=pure none\/swappedStores [.Tuple [.Name x1 p1,.Name x2 p2] k tp] (.Tuple [pa,pb] kk p) env=pure (some [x1,x2]):=by
 have c3:List.all [pa,pb] (constantsAlone 8)=false:=by simpa [Bool.and_true] using c2
 unfold swappedStores
 simp only [c3,bk]
 generalize hf:List.filterMap _ _=ns
 have key:ns.length=2->ns=[x1,x2]:=by
  rw [<- hf]
  simp only [List.filterMap_cons,List.filterMap_nil]
  split<;>split<;>rename_i a b<;>(try (intro h;simp at h;done))
  rename_i y1 y2
  intro _
  split at y1<;>cases y1
  split at b<;>cases b
  rfl
 clear hf
 generalize List.any [pa,pb] _=b0
 generalize List.all [pa,pb] (foldedForSure 8)=b1
 cases b0 with
 | true=>left;rfl
 | false =>
  cases b1 with
  | true =>
   left
   by_cases q:(ns.length != 2 || ns.eraseDups.length != ns.length)=true
   ·simp only [List.length_cons,List.length_nil,q];rfl
   ·simp only [List.length_cons,List.length_nil,q];rfl
  | false =>
   by_cases q:(ns.length != 2 || ns.eraseDups.length != ns.length)=true
   ·left;simp only [List.length_cons,List.length_nil,q];rfl
   ·right
    have:ns.length=2:=by
     simp only [Bool.or_eq_true,bne_iff_ne,ne_eq,not_or,Decidable.not_not] at q;exact q.1
    simp only [List.length_cons,List.length_nil,q]
    rw [key this]
    rfl
theorem unpack2 (hq:S.hx=Option.none) {i j:Nat}{x1 x2:Str}{x y:AV}{v:Value} (hij:i≠j) (hf1:F.sc.lookup x1≠some .free) (hx1:IsV F.tb F.sc x1 i) (hf2:F.sc.lookup x2≠some .free) (hx2:IsV F.tb F.sc x2 j) (hs:F.St m σ s)
  (ra:Rep S.cv s.heap (F.D σ) (.tup [x,y]) v):wpAny (model prog w) F.A (unpackItems v 2 none) (fun items s₂ =>
   wpAny (model prog w) F.A (assignInOrder [bindName F.env x2,bindName F.env x1] items.reverse) (fun zz s'=>Step F.P F.O σ s σ s'/\F.St ((m.set i x).set j y) σ s') X s₂) X s:=by
 ·refine X3pppp (ra.inv) fun ad vs n he274_3 e d r=>?_
  subst he274_3
  refine X2ppp (r.two) fun u1 u2 he275_2 r1 r2=>?_
  subst he275_2
  have ht:s.heap.IsTuple ad #[u1,u2]:=⟨_,e,rfl,n,rfl⟩
  refine wpAny_unpackItems_tuple (items:=#[u1,u2]) (F.room.quiet hq) ht fun h' kx=>?_
  refine Ad (Js hs kx) fun hh1 stx=>?_
  show wpAny _ _ (assignInOrder [bindName F.env x2,bindName F.env x1] [u2,u1]) _ _ _
  refine wpAny_assignInOrder_more (wpAny_bindName (BR hf2 hx2 hh1 (r2.st stx hh1) fun s₂ st₂ h₂=>?_))
  refine wpAny_assignInOrder_more (wpAny_bindName (BR hf1 hx1 h₂ ((r1.st stx hh1).st st₂ h₂) fun Bf st₃ h₃=>?_))
  refine wpAny_assignInOrder_none ⟨(stx.trans st₂).trans st₃,?_⟩
  rw [set_swap _ _ _ hij]
  exact h₃
set_option tactic.hygienic true in
theorem ST.assign2 (hq:S.hx=Option.none) {i j:Nat}{e1 e2:E} (hij:i≠j) (hn:(Dc 8 e1 || Dc 8 e2)=true) (h:ET F m σ e1 (fun x σ₁=>ET F m σ₁ e2 (fun y σ₂=>K .next ((Vars.set m i x).set j y) σ₂) X) X) :
  ST F m σ (.assign (.tup [.v i,.v j]) (.tup [e1,e2])) K X:=by
 intro st hc s hs
 refine X3ppp (hc.inv) fun zz zz zz he289_3 hp he=>?_
 subst he289_3
 have ev:ET F m σ (.tup [e1,e2]) (fun a σ₁=>∃ x y,a=.tup [x,y]/\K .next ((Vars.set m i x).set j y) σ₁) X :=
  ET.tup (EsT.cons (h.mono fun x σ₁ q=>EsT.cons (q.mono fun y σ₂ q=>EsT.nil ⟨by show 2<=big;decide,x,y,rfl,q⟩)))
 have hp':=hp
 refine X3pp (hp'.inv) fun ts k tp he293_3 hps=>?_
 subst he293_3
 ····obtain ⟨t1,_,rfl,n1,hp1,hps⟩:=hps.inv
     obtain ⟨t2,_,rfl,n2,hp2,hps⟩:=hps.inv
     obtain rfl:=hps.inv_nil
     refine X2ppp (hp1.inv) fun x1 p1 he297_2 hf1 hx1=>?_
     subst he297_2
     refine X2ppp (hp2.inv) fun x2 p2 he298_2 hf2 hx2=>?_
     subst he298_2
     have hne:x1≠x2:=by
      rintro rfl
      have:=hx1.ix
      rw [hx2.ix] at this
      exact hij (Option.some.inj this).symm
     have he':=he
     ···refine X3pp (he'.inv) fun pes kk p he305_3 hes=>?_;subst he305_3
        obtain ⟨pa,_,rfl,m1,ha,hes⟩:=hes.inv
        obtain ⟨pb,_,rfl,m2,hb,hes⟩:=hes.inv
        obtain rfl:=hes.inv_nil
        have bk:F.env.blockKind=.function:=by unfold Env.blockKind;rw [F.fk];rfl
        have c2:(constantsAlone 8 pa && constantsAlone 8 pb)=false:=by
         simp only [Bool.or_eq_true] at hn
         simp only [Bool.and_eq_false_iff]
         exact hn.imp (EO ha) (EO hb)
        rcases sw2 (x1:=x1) (x2:=x2) (p1:=p1) (p2:=p2) (tp:=tp) (p:=p) (k:=k) (kk:=kk) bk c2 with sw | sw
        ·refine Assign_Tuple ((ev _ he s hs).out ?_) (by unfold swapsWithSole;exact BC he rfl) sw
         rintro v σ₁ s₁ st₁ h₁ ⟨a,ra,x,y,rfl,q⟩
         have pt:PT F m σ₁ (.tup [.v i,.v j]) (.tup [x,y]) (fun Ah σ₂=>K .next Ah σ₂) X:=PT.tup hq rfl (by
          show PT F m σ₁ (.v i) x (fun Af σ₁=>PT F Af σ₁ (.v j) y (fun Ah σ₂=>K .next Ah σ₂) X) X
          exact PT.v (PT.v q))
         refine wpAny_mono (pt _ hp v s₁ h₁ ra) ?_ fun zz zz e=>e
         rintro _ s₂ ⟨Ah,σ₂,st₂,h₂,AW⟩
         exact ⟨.next,Ah,σ₂,st₁.trans st₂,h₂,trivial,AW⟩
        ·refine Assign_Tuple_swapped (names:=[x1,x2]) ((ev _ he s hs).out ?_) (by unfold swapsWithSole;exact BC he rfl) sw
         rintro v σ₁ s₁ st₁ h₁ ⟨a,ra,x,y,rfl,q⟩
         refine wpAny_mono (unpack2 hq hij hf1 hx1 hf2 hx2 h₁ ra) (fun items s₂ h₂=>?_) fun zz zz e=>e
         refine wpAny_mono h₂ (fun zz Bf h₃=>?_) fun zz zz e=>e
         exact ⟨.next,_,σ₁,st₁.trans h₃.1,h₃.2,trivial,q⟩
end
end Mine
end
section
namespace Mine
open PySem PyProof.Rows PySem.W
variable {prog:Program}{w:World}{S:Sta prog w}
section
variable {F:Fx S}{m m':Vars}{σ σ':Store}{s s':Shared}{X:Value->Shared->Prop}{Q:AV->Store->Prop}{K:Fl->Vars->Store->Prop}
noncomputable def B7 (l:List AV):List AV:=l.mapIdx fun i x=>.tup [.int i,x]
theorem E2 {l:List AV}{i:Nat}{y:AV} (h:(B7 l)[i]?=some y):∃ x,l[i]?=some x/\y=.tup [.int i,x]:=by
 simp only [B7,List.getElem?_mapIdx,Option.map_eq_some_iff] at h
 refine X1pp (h) fun x hx he14_2=>?_
 subst he14_2
 exact ⟨x,hx,rfl⟩
theorem CC (l:List AV):(B7 l).length=l.length:=by simp [B7]
theorem G0 {h:Heap}{e it:Addr}{i:Int}{old:Value}{oi:Obj} (he:IsEnum h e it i old) (hi:h.get? it=some oi) (hoi:Cw oi):Its h (fun a=>a=e\/a=it):=by
 rintro a (rfl | rfl)
 ·exact ⟨_,he,⟨_,rfl,by decide,by decide⟩,_,rfl⟩
 ·exact ⟨_,hi,hoi⟩
theorem F7 {a:AV}{l:List AV}{σ σ₂:Store} (h:dl σ a=some l) (ks:∀ b o,σ b=some o->σ₂ b=some o):dl σ₂ a=some l:=by
 cases a with
 | loc ad' ii =>
  refine X1pp (Aw (show (σ ad').bind AObj.list?=some l from h)) fun o e' h'=>?_
  exact (congrArg (·.bind AObj.list?) (ks _ _ e')).trans h'
 | _=>exact h
theorem E3 (hq:S.hx=Option.none) {t:PySem.Expr}{ps:List Pat}{a:AV}{l:List AV}{ad e it:Addr} (hp:Tgt (.tup ps) t) (hne:e≠it) :
  Walk F e (B7 l) t (fun b=>b=e\/b=it) (fun i σ' s'=>(∃ old,IsEnum s'.heap e it i old)/\s'.heap.IsListIter it ad i/\Rep S.cv s'.heap (F.D σ') a (.ref ad)/\dl σ' a=some l) (okL a):=by
 refine X3p (hp) fun es kk pp he31_3=>?_
 subst he31_3
 have its:∀ (i:Nat) (s':Shared) (old:Value),IsEnum s'.heap e it i old->s'.heap.IsListIter it ad i->Its s'.heap (fun b=>b=e\/b=it):=by
  rintro i s' old he ⟨o,eo,c,d⟩
  exact G0 he eo ⟨⟨_,c,by decide,by decide⟩,_,d⟩
 refine ⟨?_,?_,?_,?_,?_⟩
 ·rintro i σ' s' ⟨⟨old,he⟩,hit,_⟩
  exact its i s' old he hit
 ·rintro i Af Ah σ₁ s₁ σ₂ s₂ O hO hN ⟨⟨old,he⟩,hit,ra,hl⟩ h₁ st h₂ o
  have z:=its i s₁ old he hit
  refine X1ppp (hit) fun oi ei c d=>?_
  exact ⟨⟨old,z.still h₁ hO hN st (.inl rfl) he⟩,⟨oi,z.still h₁ hO hN st (.inr rfl) ei,c,d⟩,ra.step st hO h₁.pN,okL_dl hl o⟩
 ·rintro i y Af σ₁ s₁ Ge Q X hxx h₁ ⟨⟨old,he⟩,hit,ra,hl⟩ hQ
  refine X1pp (E2 hxx) fun x hx he43_2=>?_
  subst he43_2
  have z:=its i s₁ old he hit
  refine X3ppp (ra.lst h₁.inv hl) fun ad' ws n' e1 e' rl'=>?_
  cases e1
  refine X1pp (rl'.get hx) fun v hv rv=>?_
  refine wpAny_pyNext_enum_item he hit (items:=ws.toArray) ⟨_,e',rfl,n',rfl⟩ (x:=v) (by simpa using hv) hne fun h' ho hit' hT hz hk=>?_
  refine wpAny_letOwnedTupleGo_enum ho fun h'' he'' hsb=>?_
  have kp:∀ b o,¬ (b=e\/b=it)->s₁.heap.get? b=some o->h''.get? b=some o:=fun b o q eb=>hsb.extBut b o (fun z=>q (.inl z)) (hk b o (fun z=>q (.inl z)) (fun z=>q (.inr z)) eb)
  have hlt:s₁.heap.objs.size≠e:=Nat.ne_of_gt (Heap.lt_size he)
  have ist:ItStep (fun b=>b=e\/b=it) s₁ { s₁ with heap:=h'',toks:=s₁.toks+1 }:=⟨kp,rfl,rfl,rfl⟩
  refine hQ _ _ ist ?_ ⟨⟨v,by simpa using he''⟩,hit'.extBut hsb.extBut (Ne.symm hne),ra.it z kp,hl⟩
  exact .tup (vs:=[_,_]) (hsb.extBut _ _ hlt hT) (h₁.inv.not_D (Ar _)) (.cons (.int _ _) (.cons (rv.it z kp) .nil))
 ·rintro i σ₁ s₁ Q X ⟨⟨old,he⟩,_⟩ hQ
  exact wpAny_pyIter_enum he hQ
 ·rintro Af σ₁ s₁ Q X h₁ ⟨⟨old,he⟩,hit,ra,hl⟩ hQ
  refine X3ppp (ra.lst h₁.inv hl) fun ad' ws n' e1 e' rl'=>?_
  cases e1
  refine wpAny_pyNext_enum_end (F.room.quiet hq) he hit (items:=ws.toArray) ⟨_,e',rfl,n',rfl⟩ (by simp [rl'.length,CC]) fun h' hx=>hQ _ ⟨fun b o q e=>hx b o (fun z=>q (.inr z)) e,rfl,rfl,rfl⟩
theorem F2 (hq:S.hx=Option.none) {t:PySem.Expr}{ps:List Pat}{x:Str}{tk:Tok}{e it:Addr} (hp:Tgt (.tup ps) t) (hne:e≠it) :
  Walk F e (B7 (Cn x)) t (fun b=>b=e\/b=it) (fun i σ' s'=>(∃ old,IsEnum s'.heap e it i old)/\s'.heap.IsStrIter it "str_ascii_iterator" x tk i) (fun zz zz=>True):=by
 refine X3p (hp) fun es kk pp he64_3=>?_
 subst he64_3
 have its:∀ (i:Nat) (s':Shared) (old:Value),IsEnum s'.heap e it i old->s'.heap.IsStrIter it "str_ascii_iterator" x tk i->Its s'.heap (fun b=>b=e\/b=it):=by
  rintro i s' old he ⟨o,eo,c,d⟩
  exact G0 he eo ⟨⟨_,c,by decide,by decide⟩,_,d⟩
 have D:Draws prog w F.A.in1 it [it] x.cps.size (fun i v=>∃ c u,x.cps[i]?=some c/\v=.str ⟨#[c]⟩ u) (fun i h=>h.IsStrIter it "str_ascii_iterator" x tk i):=Draws.strAscii (A:=F.A.in1) (F.room.quiet hq) it x tk
 refine ⟨?_,?_,?_,?_,?_⟩
 ·rintro i σ' s' ⟨⟨old,he⟩,hit⟩
  exact its i s' old he hit
 ·rintro i Af Ah σ₁ s₁ σ₂ s₂ O hO hN ⟨⟨old,he⟩,hit⟩ h₁ st h₂ o
  have z:=its i s₁ old he hit
  refine X1ppp (hit) fun oi ei c d=>?_
  exact ⟨⟨old,z.still h₁ hO hN st (.inl rfl) he⟩,⟨oi,z.still h₁ hO hN st (.inr rfl) ei,c,d⟩⟩
 ·rintro i y Af σ₁ s₁ Ge Q X hxx h₁ ⟨⟨old,he⟩,hit⟩ hQ
  refine X1pp (E2 hxx) fun u hx he77_2=>?_
  subst he77_2
  have z:=its i s₁ old he hit
  have hlt':i<x.cps.size:=by
   rcases Nat.lt_or_ge i x.cps.size with q | q
   ·exact q
   ·rw [List.getElem?_eq_none (by simpa [Cn] using q)] at hx;cases hx
  refine wpAny_pyNext_enum_itemD D he hit hlt' hne (by simpa using hne) fun v h' tk' hP ho hit' hT hz hk=>?_
  refine wpAny_letOwnedTupleGo_enum ho fun h'' he'' hsb=>?_
  have kp:∀ b o,¬ (b=e\/b=it)->s₁.heap.get? b=some o->h''.get? b=some o:=fun b o q eb=>hsb.extBut b o (fun z=>q (.inl z)) (hk b o (fun z=>q (.inl z)) (fun z=>q (.inr z)) eb)
  have hlt:s₁.heap.objs.size≠e:=Nat.ne_of_gt (Heap.lt_size he)
  have ist:ItStep (fun b=>b=e\/b=it) s₁ { s₁ with heap:=h'',toks:=tk'+1 }:=⟨kp,rfl,rfl,rfl⟩
  refine X2pp (hP) fun c tu hc he88_3=>?_
  subst he88_3
  simp only [Cn,List.getElem?_map,Option.map_eq_some_iff,Array.getElem?_toList] at hx
  refine X1pp (hx) fun c' hc' he90_2=>?_
  subst he90_2
  rw [hc] at hc';cases hc'
  refine hQ _ _ ist ?_ ⟨⟨_,by simpa using he''⟩,hit'.extBut hsb.extBut (Ne.symm hne)⟩
  exact .tup (vs:=[_,_]) (hsb.extBut _ _ hlt hT) (h₁.inv.not_D (Ar _)) (.cons (.int _ _) (.cons (.str _ _) .nil))
 ·rintro i σ₁ s₁ Q X ⟨⟨old,he⟩,_⟩ hQ
  exact wpAny_pyIter_enum he hQ
 ·rintro Af σ₁ s₁ Q X h₁ ⟨⟨old,he⟩,hit⟩ hQ
  have hl:(B7 (Cn x)).length=x.cps.size:=by simp [CC,Cn]
  rw [hl] at hit
  exact wpAny_pyNext_enum_endD D he hit fun h' hx=>hQ _ ⟨fun b o q e=>hx b o (fun z=>q (.inr z)) e,rfl,rfl,rfl⟩
theorem SrcT.enum1 {ps:List Pat}{e:E}{gi:Nat}{G:List AV->(Store->Store->Prop)->Store->Prop} (hg:Glob S gi (.type "enumerate"))
  (h':EsT F m σ [e] (fun avs σ₁=>∃ a,avs=[a]/\S.hx=Option.none/\((∃ l,dl σ₁ a=some l/\G (B7 l) (okL a) σ₁)\/(∃ x,a=.str x/\x.cps.all (·<128)=true/\G (B7 (Cn x)) (fun zz zz=>True) σ₁))) X):SrcT F m σ (.tup ps) (.call (.g gi) [e]) G X:=by
 intro pe t hc hp s hs
 refine X4pppp (hc.inv) fun zz zz zz zz he105_4 zz hx ha=>?_
 subst he105_4
 refine Call_ (DM hx hg hs (Cd ha (Callable.type _) h' hs ?_))
 rintro vals avs σ₁ s₁ st₁ h₁ r ⟨a,rfl,hq,q⟩
 refine X1pp (r.one) fun v he108_1 ra=>?_
 subst he108_1
 have nsz:∀ k,s₁.heap.get? (s₁.heap.objs.size+k)=Option.none:=fun k=>by
  cases q:s₁.heap.get? (s₁.heap.objs.size+k) with
  | none=>rfl
  | some o=>exact absurd (Heap.lt_size q) (Nat.not_lt.mpr (Nat.le_add_right _ _))
 rcases q with ⟨l,hl,hG⟩ | ⟨x,rfl,hasc,hG⟩
 ·refine X3ppp (ra.lst h₁.inv hl) fun ad vs n he114_3 e1 rl=>?_
  subst he114_3
  refine call_enumerate_list (items:=vs.toArray) ⟨_,e1,rfl,n,rfl⟩ fun h2 he hit hz hk=>?_
  refine wpAny_pyIter_enum he ?_
  refine Ad (h₁.grow hk s₁.toks) fun h₂ st₂=>?_
  refine ⟨_,_,_,_,_,σ₁,s₁,rfl,fun F₂=>E3 (F:=F₂) (a:=a) (ad:=ad) hq hp (Nat.succ_ne_self _),st₁,h₁,st₂,h₂,?_,?_,hG⟩
  case refine_2 =>
   intro F₂ σ₂ s₂ kp hD ks
   refine X1pp (hit) fun oi eo r=>?_
   refine ⟨⟨_,kp _ _ he⟩,⟨oi,kp _ _ eo,r⟩,(ra.st st₂.any h₂).ext (Ext.of_keeps kp) hD,F7 hl ks⟩
  rintro b (rfl | rfl)
  ·exact nsz 1
  ·exact nsz 0
 ·refine X1p (ra.inv) fun tk he126_1=>?_
  subst he126_1
  refine call_enumerate_str fun h2 he hit hz hk=>?_
  refine wpAny_pyIter_enum he ?_
  refine Ad (h₁.grow hk s₁.toks) fun h₂ st₂=>?_
  have hty:strIterType x = "str_ascii_iterator":=by unfold strIterType;rw [hasc];rfl
  rw [hty] at hit
  refine ⟨_,_,_,_,_,σ₁,s₁,rfl,fun F₂=>F2 (F:=F₂) (tk:=tk) hq hp (Nat.succ_ne_self _),st₁,h₁,st₂,h₂,?_,?_,hG⟩
  case refine_2 =>
   intro F₂ σ₂ s₂ kp hD ks
   refine X1pp (hit) fun oi eo r=>?_
   exact ⟨⟨_,kp _ _ he⟩,⟨oi,kp _ _ eo,r⟩⟩
  rintro b (rfl | rfl)
  ·exact nsz 1
  ·exact nsz 0
end
end Mine
end
section
namespace Mine
open PySem PyProof.Rows PySem.W
variable {prog:Program}{w:World}{S:Sta prog w}
noncomputable def H8 (env:Env):List (Str×NameKind)->List (Str×Addr)->List (Str×Addr)
 | [],acc=>acc
 | (n,k)::r,acc=>if k == .free then H8 env r ((n,(env.cells.lookup n).getD 0)::acc) else H8 env r acc
set_option tactic.hygienic true in
theorem Ev {env:Env}{y:Str}{c:Addr}:∀ {names:List (Str×NameKind)}{acc:List (Str×Addr)},(y,c)∈H8 env names acc->((y,NameKind.free)∈names/\c=(env.cells.lookup y).getD 0)\/(y,c)∈acc
 | [],_,h=>.inr h
 | (n,k)::r,acc,h=>by
  unfold H8 at h
  split at h
  ·rename_i hk
   have hk':k=NameKind.free:=by simpa using hk
   rcases Ev h with q | q
   ·exact .inl ⟨.tail _ q.1,q.2⟩
   ·rcases List.mem_cons.mp q with e | q
    ·cases e;subst hk';exact .inl ⟨.head _,rfl⟩
    ·exact .inr q
  ·rcases Ev h with q | q
   ·exact .inl ⟨.tail _ q.1,q.2⟩
   ·exact .inr q
set_option tactic.hygienic true in
theorem Cb {env:Env}{y:Str}:∀ {names:List (Str×NameKind)}{acc:List (Str×Addr)},(y,NameKind.free)∈names\/(acc.lookup y).isSome=true->((H8 env names acc).lookup y).isSome=true
 | [],_,h=>h.elim (fun e=>by cases e) id
 | (n,k)::r,acc,h=>by
  unfold H8
  split
  ·refine Cb ?_
   by_cases q:(y == n)=true
   ·right;rw [List.lookup_cons,q];rfl
   ·rcases h with h | h
    ·rcases List.mem_cons.mp h with e | h
     ·cases e;simp at q
     ·exact .inl h
    ·right;rw [List.lookup_cons];simpa only [q] using h
  ·rename_i hk
   refine Cb ?_
   rcases h with h | h
   ·rcases List.mem_cons.mp h with e | h
    ·cases e;simp at hk
    ·exact .inl h
   ·exact .inr h
theorem Cv {env:Env} (f:Str×NameKind->List (Str×Addr)->Sem (ForInStep (List (Str×Addr))))
  (hf:∀ name kind cs,f (name,kind) cs=if kind == .free then (do let a <- cellOf env name;pure (.yield ((name,a)::cs))) else pure (.yield cs)) :
  ∀ (names:List (Str×NameKind)) (acc:List (Str×Addr)),(∀ p∈names,p.2=.free->∃ c,env.cells.lookup p.1=some c)->forIn names acc f=pure (H8 env names acc)
 | [],acc,_=>by rw [List.forIn_nil];rfl
 | (n,k)::r,acc,h=>by
  rw [List.forIn_cons,hf]
  unfold H8
  by_cases hk:(k == NameKind.free)=true
  ·rw [if_pos hk,if_pos hk]
   refine X1p (h (n,k) (.head _) (by simpa using hk)) fun c hc=>?_
   have:cellOf env n=pure c:=by unfold cellOf;rw [hc]
   rw [this,hc]
   exact Cv f hf r _ fun p hp=>h p (.tail _ hp)
  ·rw [if_neg hk,if_neg hk]
   exact Cv f hf r _ fun p hp=>h p (.tail _ hp)
theorem Eu {env:Env}{scope:Scope} (h:∀ p∈scope.names,p.2=.free->∃ c,env.cells.lookup p.1=some c):closureFor scope env=pure (H8 env scope.names []):=by
 unfold closureFor
 dsimp only
 rw [Cv _ (fun name kind cs=>by cases hkc:kind == NameKind.free<;>simp [hkc]) scope.names [] h]
 rfl
set_option tactic.hygienic true in
theorem Cc {y:Str}{c:Addr}:∀ {names:List (Str×NameKind)}{h:Heap}{acc:List (Str×Addr)},(y,c)∈cellsFrom h.objs.size names acc->(y,c)∈acc\/((pushCells h names).IsCell c Option.none/\h.objs.size<=c/\(y,NameKind.cell)∈names)
 | [],_,_,h=>.inl h
 | (n,k)::r,hp,acc,h=>by
  unfold cellsFrom at h
  unfold pushCells
  split at h
  ·rename_i hk
   rw [if_pos hk]
   have hz:(hp.push { cls:=.type "cell",data:=.cell Option.none }).objs.size=hp.objs.size+1:=Heap.size_push ..
   rw [<- hz] at h
   rcases Cc h with q | q
   ·rcases List.mem_cons.mp q with e | q
    ·cases e
     have hk':k=NameKind.cell:=by simpa using hk
     subst hk'
     exact .inr ⟨⟨_,pushCells_keeps _ _ _ _ (Heap.get?_push_size _ rfl),rfl⟩,Nat.le_refl _,.head _⟩
    ·exact .inl q
   ·exact .inr ⟨q.1,by have:=q.2.1;rw [hz] at this;exact Nat.le_of_succ_le this,.tail _ q.2.2⟩
  ·rename_i hk
   rw [if_neg hk]
   rcases Cc h with q | q
   ·exact .inl q
   ·exact .inr ⟨q.1,q.2.1,.tail _ q.2.2⟩
theorem Dr:∀ {names:List (Str×NameKind)}{n:Nat}{acc:List (Str×Addr)},(∀ p∈acc,p.2<n)->(∀ p∈acc,∀ q∈acc,p.2=q.2->p.1=q.1)->∀ p∈cellsFrom n names acc,∀ q∈cellsFrom n names acc,p.2=q.2->p.1=q.1
 | [],_,_,_,h2=>h2
 | (x,k)::r,n,acc,h1,h2=>by
  unfold cellsFrom
  split
  ·refine Dr (fun p hp=>?_) fun p hp q hq e=>?_
   ·rcases List.mem_cons.mp hp with rfl | hp
    ·exact Nat.lt_succ_self n
    ·exact Nat.lt_succ_of_lt (h1 p hp)
   ·rcases List.mem_cons.mp hp with rfl | hp<;>rcases List.mem_cons.mp hq with rfl | hq
    ·rfl
    ·exact absurd e (Nat.ne_of_gt (h1 q hq))
    ·exact absurd e (Nat.ne_of_lt (h1 p hp))
    ·exact h2 p hp q hq e
  ·exact Dr h1 h2
noncomputable def compEnv (scope:Scope) (env:Env) (cl:List (Str×Addr)) (C:Addr):Env :=
 { scope:=relabel scope env,locals:=C,globals:=env.globals,cells:=cellsFrom (C+1) scope.names cl,qual:=env.qual,func:=none,code:=env.code,frame:=env.frame,builtins:=env.builtins }
theorem FF {A:Around}{E:Value->Shared->Prop}{s:Shared}{scope:Scope}{env:Env}{cl:List (Str×Addr)}{M:Model}{Q:Env->Shared->Prop}
  (h:Q { scope:=scope,locals:=s.heap.objs.size,globals:=env.globals,cells:=cellsFrom (s.heap.objs.size+1) scope.names cl,qual:=env.qual,func:=none,code:=env.code,frame:=env.frame,builtins:=env.builtins }
   { s with heap:=pushCells (s.heap.push { cls:=.type "dict",data:=.dict #[] }) scope.names }) :
  wpAny M A (newFunctionEnv scope env.globals cl [] env.qual none .none (some env)) Q E s:=by
 simp only [newFunctionEnv,Option.isSome_some,if_true]
 refine wpAny_bind (wpAny_alloc ?_)
 refine wpAny_bind (wpAny_layCells _ (fun name kind cells=>by cases hkc:kind == NameKind.cell<;>simp [hkc]) _ _ _ _ ?_)
 rw [show ({ s with heap:=s.heap.push { cls:=.type "dict",data:=.dict #[] } }:Shared).heap.objs.size=s.heap.objs.size+1 from Heap.size_push ..]
 exact wpAny_bind (wpAny_pure (wpAny_pure h))
set_option tactic.hygienic true in
theorem EJ {sc names:List (Str×NameKind)}{y:Str}{k:NameKind} (h:(y,k)∈relab sc names):(y,k)∈names\/(k=.cell/\(y,NameKind.free)∈names/\sc.lookup y=some .cell):=by
 unfold relab at h
 obtain ⟨⟨n,k'⟩,hm,e⟩:=List.mem_map.mp h
 simp only at e
 split at e
 ·rename_i hc
  cases e
  simp only [Bool.and_eq_true,beq_iff_eq] at hc
  obtain ⟨rfl,hc⟩:=hc
  exact .inr ⟨rfl,hm,hc⟩
 ·cases e;exact .inl hm
theorem Ba {sc:List (Str×NameKind)}{y:Str}{k:NameKind}:∀ {names:List (Str×NameKind)},names.lookup y=some k->(relab sc names).lookup y=some (if (k == .free && sc.lookup y == some .cell) then .cell else k)
 | [],h=>by cases h
 | (n,k')::r,h=>by
  unfold relab
  rw [List.map_cons]
  by_cases q:(y == n)=true
  ·rw [List.lookup_cons,q] at h
   cases h
   have:y=n:=by simpa using q
   subst this
   simp only
   split<;>rw [List.lookup_cons]<;>simp
  ·rw [List.lookup_cons] at h
   simp only [q] at h
   have ih:=Ba (sc:=sc) (names:=r) h
   simp only
   split<;>rw [List.lookup_cons]<;>simp only [q]<;>exact ih
section
variable {F:Fx S}{m:Vars}{σ:Store}{s:Shared}{scope:Scope}{x:Str}{i:Nat}
theorem Bm (F:Fx S) (scope:Scope):(relabel scope F.env).names=relab F.sc scope.names:=by
 unfold relabel relab
 simp only [F.fk,beq_self_eq_true,Bool.and_true]
 rfl
structure CompOk (F:Fx S) (scope:Scope) (x:Str) (i:Nat):Prop where
 kind:scope.kind=.function
 var:scope.names.lookup x=some .local\/scope.names.lookup x=some .cell
 ok:okName x=true
 ix:ixS F.tb x=some i
 names:∀ q∈scope.names,C7 F.tb F.sc x q=true/\scope.names.lookup q.1=some q.2
theorem CompOk.free (c:CompOk F scope x i) {y:Str} (h:(y,NameKind.free)∈scope.names):F.sc.lookup y=some .cell:=by
 have:=(c.names _ h).1
 simpa [C7] using this
theorem CompOk.own (c:CompOk F scope x i) {y:Str}{k:NameKind}{j:Nat} (h:(y,k)∈scope.names) (hk:k=.local\/k=.cell) (hj:ixS F.tb y=some j):j=i:=by
 have:=(c.names _ h).1
 rcases hk with rfl | rfl <;>
 ·simp only [C7,hj,c.ix,Option.isNone_some,Bool.false_or,beq_iff_eq,Option.some.injEq] at this
  exact this
theorem CompOk.cl (c:CompOk F scope x i):∀ p∈scope.names,p.2=.free->∃ a,F.env.cells.lookup p.1=some a:=by
 rintro ⟨y,k⟩ hp rfl
 exact F.fc y (c.free hp)
theorem CompOk.closure (c:CompOk F scope x i):closureFor scope F.env=pure (H8 F.env scope.names []):=Eu c.cl
theorem CompOk.clCell (c:CompOk F scope x i) {y:Str}{a:Addr} (h:(y,a)∈H8 F.env scope.names []):(y,NameKind.free)∈scope.names/\F.env.cells.lookup y=some a:=by
 rcases Ev h with q | q
 ·refine X1p (c.cl _ q.1 rfl) fun a' ha=>?_
  have:=q.2
  simp only at ha
  rw [ha] at this
  exact ⟨q.1,by rw [this];exact ha⟩
 ·cases q
end
end Mine
end
section
namespace Mine
open PySem PyProof.Rows PySem.W
variable {prog:Program}{w:World}{S:Sta prog w}
section
variable {F:Fx S}{m Af:Vars}{σ σ₁:Store}{s s₁:Shared}{scope:Scope}{x:Str}{i:Nat}
noncomputable abbrev ccl (F:Fx S) (scope:Scope):List (Str×Addr):=H8 F.env scope.names []
noncomputable abbrev DX (F:Fx S) (scope:Scope) (C:Addr):Env:=compEnv scope F.env (ccl F scope) C
theorem Dv (C:Addr) (y:Str):(DX F scope C).kindOf y=(relab F.sc scope.names).lookup y:=by
 show (relabel scope F.env).names.lookup y=_
 rw [Bm]
theorem CompOk.fc (c:CompOk F scope x i) (C:Addr):∀ y,(DX F scope C).kindOf y=some .cell->∃ a,(DX F scope C).cells.lookup y=some a:=by
 intro y hy
 rw [Dv] at hy
 refine Option.isSome_iff_exists.mp (cellsFrom_some _ _ _ ?_)
 rcases EJ (mem_of_lookup hy) with q | ⟨_,q,_⟩
 ·exact .inl ((c.names _ q).2)
 ·exact .inr (Cb (.inl q))
noncomputable def AZ (c:CompOk F scope x i) (D C:Addr):Fx S :=
 ⟨F.A,F.tb,DX F scope C,F.b,fun a=>F.N a\/a=D\/Own (DX F scope C) a,F.k,F.room.wide (fun zz q=>.inl q),c.kind,F.fg,F.fb,c.fc C⟩
structure BB (F:Fx S) (scope:Scope) (s:Shared) (C:Addr):Prop where
 out:∀ a,Own (DX F scope C) a->(∃ y,(y,NameKind.free)∈scope.names/\F.env.cells.lookup y=some a)\/s.heap.get? a=Option.none
theorem CompOk.own_out (c:CompOk F scope x i) {C:Addr}{h:Heap} (hC:h.objs.size=C+1) (hn:∀ a,C<=a->s.heap.get? a=Option.none):BB F scope s C:=by
 constructor
 rintro a (rfl | ⟨y,hy⟩)
 ·exact .inr (hn _ (Nat.le_refl _))
 ·have hm:=mem_of_lookup hy
  have hm':(y,a)∈cellsFrom h.objs.size scope.names (ccl F scope):=by rw [hC];exact hm
  rcases Cc hm' with q | q
  ·exact .inl ⟨y,c.clCell q⟩
  ·exact .inr (hn a (Nat.le_of_succ_le (by have:=q.2.1;rw [hC] at this;exact this)))
theorem comp_in (c:CompOk F scope x i) (hs:F.St m σ s) :
  let D:=s.heap.objs.size
  let h₁:=(s.heap.push (Ax #[] 0)).push { cls:=.type "dict",data:=.dict #[] }
  let s₄:Shared:={ s with heap:=pushCells h₁ scope.names }
  (AZ c D (D+1)).St (fun j=>if j=i then Option.none else m j) σ s₄/\Step noO noO σ s σ s₄/\s₄.heap.get? D=some (Ax #[] 0)/\BB F scope s (D+1)/\(∀ b o,s.heap.get? b=some o->s₄.heap.get? b=some o)/\(∀ b,(AZ c D (D+1)).D σ b->F.D σ b\/s.heap.get? b=Option.none)/\¬ Own (DX F scope (D+1)) D:=by
 intro D h₁ s₄
 have hz1:(s.heap.push (Ax #[] 0)).objs.size=D+1:=Heap.size_push ..
 have hz:h₁.objs.size=D+1+1:=(Heap.size_push ..).trans (by rw [hz1])
 have kp:∀ b o,s.heap.get? b=some o->s₄.heap.get? b=some o:=fun b o e=>pushCells_keeps _ _ _ _ (Heap.get?_push_of_some _ (Heap.get?_push_of_some _ e))
 have fresh:∀ a,D<=a->s.heap.get? a=Option.none:=fun a ha=>by
  cases q:s.heap.get? a with
  | none=>rfl
  | some o=>exact absurd (Heap.lt_size q) (Nat.not_lt.mpr ha)
 have cn:BB F scope s (D+1):=c.own_out (h:=h₁) hz fun a ha=>fresh a (Nat.le_of_succ_le ha)
 have gD:s₄.heap.get? D=some (Ax #[] 0):=pushCells_keeps _ _ _ _ (Heap.get?_push_of_some _ (Heap.get?_push_size _ rfl))
 have gC:h₁.get? (D+1)=some { cls:=.type "dict",data:=.dict #[] }:=by rw [<- hz1];exact Heap.get?_push_size _ rfl
 refine Ad (hs.grow kp s.toks) fun zz st=>?_
 obtain ⟨mc,cm,n,cc,ow,ap,cl,rr⟩:=hs.loc
 have FO:∀ {y a},F.env.cells.lookup y=some a->F.O a:=fun h=>.inr ⟨_,h⟩
 have hDN:∀ b,DN (AZ c D (D+1)).N σ b->DN F.N σ b\/s.heap.get? b=Option.none:=by
  rintro b (q | q | q | q)
  ·exact .inl (.inl q)
  ·exact .inl (.inr q)
  ·exact .inr (q▸fresh D (Nat.le_refl _))
  ·rcases cn.out b q with ⟨y,_,hy⟩ | q
   ·exact .inl (.inr (hs.own b (FO hy)))
   ·exact .inr q
 have e0:Ext (DN F.N σ) s.heap s₄.heap:=Ext.of_keeps kp
 have cellAt:∀ {y a},(DX F scope (D+1)).cells.lookup y=some a->((y,NameKind.free)∈scope.names/\F.env.cells.lookup y=some a)\/(s₄.heap.IsCell a Option.none/\D+2<=a/\(y,NameKind.cell)∈scope.names):=by
  intro y a hy
  have hm:(y,a)∈cellsFrom h₁.objs.size scope.names (ccl F scope):=by rw [hz];exact mem_of_lookup hy
  rcases Cc hm with q | ⟨q1,q2,q3⟩
  ·exact .inl (c.clCell q)
  ·exact .inr ⟨q1,by rw [hz] at q2;exact q2,q3⟩
 have uniq:∀ {y k k'},(y,k)∈scope.names->(y,k')∈scope.names->k=k':=by
  intro y k k' h1 h2
  have a1:=(c.names _ h1).2
  have a2:=(c.names _ h2).2
  simp only at a1 a2
  rw [a1] at a2
  exact Option.some.inj a2
 refine ⟨⟨⟨?_,hs.inv.gens,hs.inv.drawn,hs.inv.os,hs.inv.σg,?_,?_,?_⟩,?_,hs.frm.trans st.any,fun a q=>.inl (hs.pN a q),?_,fun a q=>.inr (.inr q),hs.gb⟩,st,gD,cn,kp,hDN,?_⟩
 ·exact fun b o e=>kp b o (hs.inv.keep b o e)
 ·rintro a d (q | q | q)
  ·exact hs.inv.σN a d q
  ·exact hs.inv.not_dom (q▸fresh D (Nat.le_refl _)) d
  ·rcases cn.out a q with ⟨y,_,hy⟩ | q
   ·exact hs.inv.σN a d (hs.own a (FO hy))
   ·exact hs.inv.not_dom q d
 ·rintro a (q | q | q | ⟨y,hy⟩)
  ·refine X1pp (hs.inv.Nin a q) fun o e nf=>?_;exact ⟨o,kp a o e,nf⟩
  ·exact ⟨_,q▸gD,fun vs z=>by cases z⟩
  ·have q':a=D+1:=q
   exact ⟨_,by rw [q'];exact pushCells_keeps _ _ _ _ gC,fun vs z=>by cases z⟩
  ·rcases cellAt hy with ⟨_,hy⟩ | ⟨⟨o,e,dd⟩,_⟩
   ·refine X1pp (cc y a hy) fun o e dd=>?_;exact ⟨o,kp a o e,fun vs z=>by rw [dd] at z;cases z⟩
   ·exact ⟨o,e,fun vs z=>by rw [dd] at z;cases z⟩
 ·exact fun a o e=>(hs.inv.rep a o e).ext e0 hDN (kp a)
 ·refine ⟨fun zz=>Option.none,fun y=>if (y,NameKind.cell)∈scope.names then Option.none else cm y,?_,?_,?_,?_,?_,?_⟩
  ·have:h₁.Ns (D+1) (fun zz=>Option.none):=by rw [<- hz1];exact Heap.Ns.new _ _
   exact this.keeps (pushCells_keeps _ _)
  ·intro y a hy
   rcases cellAt hy with ⟨hf,hy⟩ | ⟨q,_,hc⟩
   ·have:¬ (y,NameKind.cell)∈scope.names:=fun h=>by cases uniq h hf
    simp only [if_neg this]
    exact (cc y a hy).keeps kp
   ·simp only [if_pos hc];exact q
  ·intro a q
   rcases cn.out a q with ⟨y,_,hy⟩ | q
   ·exact ow a (FO hy)
   ·exact ⟨hs.inv.not_dom q,hs.inv.not_g q⟩
  ·intro y z a hy hz'
   refine Dr (n:=D+1+1) (names:=scope.names) (acc:=ccl F scope) ?_ ?_ (y,a) (mem_of_lookup hy) (z,a) (mem_of_lookup hz') rfl
   ·rintro ⟨p1,p2⟩ hp
    refine Ad (c.clCell hp) fun zz hl=>?_
    have:=(cc p1 p2 hl).lt
    show p2<D+1+1
    exact Nat.lt_of_lt_of_le this (Nat.le_add_right _ 2)
   ·rintro ⟨p1,p2⟩ hp ⟨q1,q2⟩ hq e
    simp only at e;subst e
    exact ap _ _ _ (c.clCell hp).2 (c.clCell hq).2
  ·intro y a hy
   rcases cellAt hy with ⟨_,hy⟩ | ⟨_,q,_⟩
   ·have:=(cc y a hy).lt
    exact Nat.ne_of_lt (Nat.lt_succ_of_lt this)
   ·exact Nat.ne_of_gt q
  ·intro y j av hj hm
   have hji:j≠i:=fun e=>by rw [if_pos e] at hm;cases hm
   rw [if_neg hji] at hm
   show LocAt _ _ _ _ _ _ ((DX F scope (D+1)).kindOf y) _ _
   cases hk:(DX F scope (D+1)).kindOf y with
   | none=>trivial
   | some k =>
    have hk2:=hk
    rw [Dv] at hk2
    rcases EJ (mem_of_lookup hk2) with q | ⟨rfl,q,q2⟩
    ·cases k with
     | «local»=>exact absurd (c.own q (.inl rfl) hj) hji
     | cell=>exact absurd (c.own q (.inr rfl) hj) hji
     | free =>
      have e1:=(c.names _ q).2
      simp only at e1
      rw [Ba e1,c.free q] at hk2
      simp at hk2
     | globalExplicit=>trivial
     | globalImplicit=>trivial
    ·have:=rr y j av hj hm
     have kd:F.env.kindOf y=F.sc.lookup y:=rfl
     rw [kd,q2] at this
     refine X2ppp (this) fun v a h0 h1 h2=>?_
     refine X1p (c.fc (D+1) y hk) fun a' ha'=>?_
     have hmem:¬ (y,NameKind.cell)∈scope.names:=fun h=>by cases uniq h q
     refine ⟨v,a',ha',by simp only [if_neg hmem];exact h1,h2.ext e0 hDN⟩
 ·intro a q
  rcases cn.out a q with ⟨y,_,hy⟩ | q
  ·exact hs.new a (FO hy)
  ·exact hs.frm.new q
 ·rintro (q | ⟨y,hy⟩)
  ·exact absurd (show D=D+1 from q) (Nat.ne_of_lt (Nat.lt_succ_self D))
  ·rcases cellAt hy with ⟨_,hy⟩ | ⟨_,q,_⟩
   ·exact absurd (cc y D hy).lt (Nat.lt_irrefl _)
   ·exact absurd q (Nat.not_le.mpr (Nat.lt_succ_of_lt (Nat.lt_succ_self D)))
theorem JS (c:CompOk F scope x i) {D C:Addr} (cn:BB F scope s C) (y:Step F.P (AZ c D C).O σ s σ₁ s₁):Step F.P F.O σ s σ₁ s₁:=by
 have oo:∀ {b o},s.heap.get? b=some o->(AZ c D C).O b->F.O b:=fun {b o} e q=>by
  rcases cn.out b q with ⟨z,_,hz⟩ | q
  ·exact .inr ⟨z,hz⟩
  ·rw [q] at e;cases e
 exact ⟨⟨fun b o e d=>y.ext.obj b o e fun q=>d (q.imp id fun q=>q.imp (oo e) id)⟩,fun b o e n ho d=>y.frm b o e n (fun q=>ho (oo e q)) d,y.dom,y.there⟩
open Classical in
set_option tactic.hygienic true in
theorem JT (c:CompOk F scope x i) {C:Addr} (cn:BB F scope s C) (hs:F.St m σ s) {Np:Addr->Prop} (hN:∀ b,Np b->F.N b\/s.heap.get? b=Option.none) (hN2:∀ b,F.N b->Np b) (stF:Step F.P F.O σ s σ₁ s₁) (inv':Inv S Np σ₁ s₁) (frm':Step F.P noO F.b.1 F.b.2 σ₁ s₁)
  (out:∀ a o,s.heap.get? a=some o->F.O a->¬ Own (DX F scope C) a->∃ o',s₁.heap.get? a=some o'/\o'.cls=o.cls/\o'.data=o.data/\o'.dict=o.dict)
  (cm':Str->Option Value) (hcm:∀ z a,(z,NameKind.free)∈scope.names->(DX F scope C).cells.lookup z=some a->s₁.heap.IsCell a (cm' z))
  (hcv:∀ z j av,(z,NameKind.free)∈scope.names->ixS F.tb z=some j->j≠i->m j=some av->∃ v,cm' z=some v/\Rep S.cv s₁.heap (DN Np σ₁) av v):Mine.St S F.tb F.env Np F.P F.b m σ₁ s₁:=by
 have FO:∀ {y a},F.env.cells.lookup y=some a->F.O a:=fun h=>.inr ⟨_,h⟩
 obtain ⟨mc,cm,n,cc,ow,ap,cl,rr⟩:=hs.loc
 have uniq:∀ {y k k'},(y,k)∈scope.names->(y,k')∈scope.names->k=k':=by
  intro y k k' h1 h2
  have a1:=(c.names _ h1).2
  have a2:=(c.names _ h2).2
  simp only at a1 a2
  rw [a1] at a2
  exact Option.some.inj a2
 have step_rep:∀ {av v},Rep S.cv s.heap (DN F.N σ) av v->Rep S.cv s₁.heap (DN Np σ₁) av v:=fun r=>r.ext (stF.ext.mono fun a h=>h.imp id fun h=>h.elim (hs.own a) (hs.pN a)) fun b h=>h.elim (fun h=>(stF.dom b h).imp .inl id) fun h=>(hN b h).imp .inr id
 have shared:∀ {z a},F.env.cells.lookup z=some a->Own (DX F scope C) a->(z,NameKind.free)∈scope.names:=by
  intro z a hz ha
  refine X1pp (cc z a hz) fun o e zz=>?_
  rcases cn.out a ha with ⟨z',hf,hz'⟩ | q
  ·have:=ap _ _ _ hz hz'
   subst this
   exact hf
  ·rw [e] at q;cases q
 have lk:∀ {z a b},F.env.cells.lookup z=some a->(z,NameKind.free)∈scope.names->(DX F scope C).cells.lookup z=some b->b=a:=by
  intro z a b hz hf hb
  have hm:(z,b)∈cellsFrom (C+1) scope.names (ccl F scope):=mem_of_lookup hb
  have gen:∀ {names:List (Str×NameKind)}{k:Nat}{acc:List (Str×Addr)},(z,b)∈cellsFrom k names acc->(z,b)∈acc\/(z,NameKind.cell)∈names:=by
   intro names
   induction names with
   | nil=>intro k acc h;exact .inl h
   | cons p r ih =>
    intro k acc h
    obtain ⟨pn,pk⟩:=p
    unfold cellsFrom at h
    split at h
    ·rename_i hk
     have hk':pk=NameKind.cell:=by simpa using hk
     subst hk'
     rcases ih h with q | q
     ·rcases List.mem_cons.mp q with e | q
      ·cases e;exact .inr (.head _)
      ·exact .inl q
     ·exact .inr (.tail _ q)
    ·rcases ih h with q | q
     ·exact .inl q
     ·exact .inr (.tail _ q)
  rcases gen hm with q | q
  ·have:=(c.clCell q).2
   rw [hz] at this
   exact (Option.some.inj this).symm
  ·cases uniq q hf
 refine ⟨inv',⟨mc,fun z=>if (z,NameKind.free)∈scope.names then cm' z else cm z,?_,?_,?_,ap,cl,?_⟩,frm',(fun a q=>hN2 a (hs.pN a q)),hs.new,fun a q=>hN2 a (hs.own a q),hs.gb⟩
 ·refine X3ppp (n) fun o es ep e d r=>?_
  have hn:¬ Own (DX F scope C) F.env.locals:=fun q=>by
   rcases cn.out _ q with ⟨z,_,hz⟩ | q
   ·exact cl z _ hz rfl
   ·rw [e] at q;cases q
  refine X1pppp (out _ _ e (.inl rfl) hn) fun o' e' zz d' zz=>?_
  exact ⟨o',es,ep,e',d'.trans d,r⟩
 ·intro z a hz
  by_cases hf:(z,NameKind.free)∈scope.names
  ·simp only [if_pos hf]
   refine X1p (Option.isSome_iff_exists.mp (cellsFrom_some (x:=z) scope.names (C+1) (ccl F scope) (.inr (Cb (.inl hf))))) fun b hb=>?_
   have:=lk hz hf hb
   subst this
   exact hcm z b hf hb
  ·simp only [if_neg hf]
   have hn:¬ Own (DX F scope C) a:=fun q=>hf (shared hz q)
   refine X1pp (cc z a hz) fun o e d=>?_
   refine X1pppp (out _ _ e (FO hz) hn) fun o' e' zz d' zz=>?_
   exact ⟨o',e',d'.trans d⟩
 ·intro a ha
  exact ⟨fun d=>inv'.σN a d (hN2 a (hs.own a ha)),(ow a ha).2⟩
 ·intro z j av hj hmj
  have old:=rr z j av hj hmj
  have kd:F.env.kindOf z=F.sc.lookup z:=rfl
  by_cases hf:(z,NameKind.free)∈scope.names
  ·have q2:=c.free hf
   rw [kd,q2] at old ⊢
   refine X2ppp (old) fun v a h0 zz zz=>?_
   have hji:j≠i:=by
    rintro rfl
    have:z=x:=Bo hj c.ix
    subst this
    rcases c.var with q | q<;>cases uniq (mem_of_lookup q) hf
   refine X1pp (hcv z j av hf hj hji hmj) fun v' h1' h2'=>?_
   exact ⟨v',a,h0,by simp only [if_pos hf];exact h1',h2'⟩
  ·exact LocAt.map old (fun h2=>step_rep h2) (fun zz h1=>h1) (fun zz h1=>by simp only [if_neg hf];exact h1)
theorem G4 (c:CompOk F scope x i) {D C:Addr}{h':Heap}{ys:List AV}{vs:List Value}{n:Nat} (cn:BB F scope s C) (hs:F.St m σ s) (hDs:s.heap.get? D=Option.none) (hCs:s.heap.get? C=Option.none) (hDC:D≠C)
  (y:Step F.P (AZ c D C).O σ s σ₁ s₁) (h₁:(AZ c D C).St Af σ₁ s₁) (hm:∀ j,j≠i->Af j=m j) (hb:Heap.SameBut C s₁.heap h') (gD:s₁.heap.get? D=some (Ax vs.toArray n)) (rl:RepL S.cv s₁.heap ((AZ c D C).D σ₁) ys vs)
  {Np:Addr->Prop} (hNp:∀ b,Np b->F.N b\/b=C) (hN2:∀ b,F.N b->Np b) (hex:Np C->∃ o,h'.get? C=some o/\∀ vs,o.data≠.fields vs)
  {Q:AV->Store->Prop} (q:Fresh σ₁ (.list ys) (.list ys) Q):∃ σ',Step F.P F.O σ s σ' { s₁ with heap:=h' }/\Mine.St S F.tb F.env Np F.P F.b m σ' { s₁ with heap:=h' }/\∃ av,Rep S.cv h' (DN Np σ') av (.ref D)/\Q av σ':=by
 have stF:=JS c cn y
 obtain ⟨mc',cm',n',cc',ow',ap',cl',rr'⟩:=h₁.loc
 have oC:Own (DX F scope C) C:=.inl rfl
 have nC:∀ {b o},s.heap.get? b=some o->b≠C:=fun e q=>by rw [q,hCs] at e;cases e
 have kpC:∀ b o,b≠C->s₁.heap.get? b=some o->h'.get? b=some o:=fun b o ne e=>hb.extBut b o ne e
 have e0:Ext (DN (AZ c D C).N σ₁) s₁.heap h':=Ext.of_but fun b o d e=>kpC b o (fun q=>d (.inr (.inr (.inr (q▸oC))))) e
 have nFN:¬ F.N D:=fun q=>by refine X1pp (hs.inv.Nin D q) fun o e nf=>?_;rw [hDs] at e;cases e
 have nNp:¬ Np D:=fun q=>(hNp D q).elim nFN hDC
 have inNp:∀ b,Np b->(AZ c D C).N b:=fun b q=>(hNp b q).elim .inl fun q=>.inr (.inr (q▸oC))
 have nD₁:¬ Dom σ₁ D:=fun d=>h₁.inv.σN D d (.inr (.inl rfl))
 have mk:∀ σ':Store,(∀ a o,σ' a=some o->σ₁ a=some o\/(a=D/\o=.list ys))->Mine.St S F.tb F.env Np F.P F.b m σ' { s₁ with heap:=h' }/\Step F.P F.O σ s σ' { s₁ with heap:=h' }:=by
  intro σ' ho
  have hd:∀ a,Dom σ' a->Dom σ₁ a\/a=D:=fun a d=>by
   cases e:σ' a with
   | none=>exact absurd e d
   | some o=>exact (ho a o e).imp (fun q=>by unfold Dom;rw [q];simp) fun q=>q.1
  have hDN:∀ b,DN Np σ' b->DN (AZ c D C).N σ₁ b:=fun b q=>q.elim (fun q=>(hd b q).elim .inl fun q=>.inr (.inr (.inl q))) fun q=>.inr (inNp b q)
  have stF':Step F.P F.O σ s σ' { s₁ with heap:=h' }:=⟨⟨fun b o e d=>kpC b o (nC e) (stF.ext.obj b o e d)⟩,fun b o e d f g=>by
    refine X1pp (stF.frm b o e d f g) fun o' e' r=>?_
    exact ⟨o',kpC b o' (nC e) e',r⟩,fun b d=>(hd b d).elim (stF.dom b) fun q=>.inr (q▸hDs),fun b o e=>by
    refine X1p (stF.there b o e) fun o' e'=>?_
    exact ⟨o',kpC b o' (nC e) e'⟩⟩
  have inv':Inv S Np σ' { s₁ with heap:=h' }:=by
   refine ⟨fun b o e=>kpC b o (fun q=>?_) (h₁.inv.keep b o e),h₁.inv.gens,h₁.inv.drawn,h₁.inv.os,fun a d=>(hd a d).elim (h₁.inv.σg a) fun q=>q▸hs.inv.not_g hDs,fun a d q=>(hd a d).elim (fun d=>h₁.inv.σN a d (inNp a q)) fun z=>nNp (z▸q),fun a q=>?_,fun a o e=>?_⟩
   ·subst q
    have:=(ow' b oC).2
    rw [this] at e;cases e
   ·rcases hNp a q with q' | q'
    ·refine X1pp (hs.inv.Nin a q') fun o e nf=>?_
     refine X1pp (h₁.inv.Nin a (.inl q')) fun o' e' nf'=>?_
     exact ⟨o',kpC a o' (nC e) e',nf'⟩
    ·rw [q'] at q ⊢;exact hex q
   ·rcases ho a o e with q | ⟨rfl,rfl⟩
    ·exact (h₁.inv.rep a o q).ext e0 (fun b z=>.inl (hDN b z)) fun ob e'=>kpC a ob (fun z=>h₁.inv.σN a (by unfold Dom;rw [q];simp) (.inr (.inr (z▸oC)))) e'
    ·exact .list (kpC _ _ hDC gD) (rl.ext e0 fun b z=>.inl (hDN b z))
  have frm':Step F.P noO F.b.1 F.b.2 σ' { s₁ with heap:=h' }:=by
   have bC:∀ {b o},F.b.2.heap.get? b=some o->b≠C:=fun {b o} e q=>by
    refine X1p (hs.frm.there b o e) fun o' e'=>?_
    exact nC e' q
   have bD:F.b.2.heap.get? D=Option.none:=hs.frm.new hDs
   have f:=h₁.frm
   exact ⟨⟨fun b o e d=>kpC b o (bC e) (f.ext.obj b o e d)⟩,fun b o e d g x=>by
    refine X1pp (f.frm b o e d g x) fun o' e' r=>?_
    exact ⟨o',kpC b o' (bC e) e',r⟩,fun b d=>(hd b d).elim (f.dom b) fun q=>.inr (q▸bD),fun b o e=>by
    refine X1p (f.there b o e) fun o' e'=>?_
    exact ⟨o',kpC b o' (bC e) e'⟩⟩
  refine ⟨JT c cn hs (fun b q=>(hNp b q).imp id fun (q:b=C)=>by rw [q];exact hCs) hN2 stF' inv' frm' ?_ cm' ?_ ?_,stF'⟩
  ·intro a o e ha hn
   obtain ⟨_,_,_,_,ow,_,_,_⟩:=hs.loc
   refine X1pp (y.there' e (ow a ha).1 hn) fun o' e' r=>?_
   exact ⟨o',kpC a o' (nC e) e',r⟩
  ·intro z a hf hz
   refine X1pp (cc' z a hz) fun o e d=>?_
   exact ⟨o,kpC a o (cl' z a hz) e,d⟩
  ·intro z j av hf hj hji hmj
   have hk:(AZ c D C).env.kindOf z=some .cell:=by
    show (DX F scope C).kindOf z=_
    rw [Dv,Ba ((c.names _ hf).2),c.free hf];simp
   have new:=rr' z j av hj ((hm j hji).trans hmj)
   rw [hk] at new
   refine X2ppp (new) fun v a zz h1 h2=>?_
   exact ⟨v,h1,h2.ext e0 fun b q=>.inl (hDN b q)⟩
 rcases q with q | ⟨i,q⟩
 ·refine Ad (mk σ₁ fun a o e=>.inl e) fun h2 st2=>?_
  exact ⟨σ₁,st2,h2,_,.list (kpC _ _ hDC gD) (fun d=>d.elim nD₁ nNp) (rl.ext e0 fun b z=>.inl (z.imp id (inNp b))),q⟩
 ·obtain ⟨h2,st2⟩:=mk (σ₁.set D (.list ys)) fun a o e=>by
   by_cases z:a=D
   ·subst z;rw [Store.set_self] at e;exact .inr ⟨rfl,(Option.some.inj e).symm⟩
   ·rw [Store.set_ne _ _ z] at e;exact .inl e
  exact ⟨_,st2,h2,_,.loc D i,q D nD₁⟩
theorem St.letGo {tb:List Nat}{env:Env}{N Np P:Addr->Prop}{b:Store×Shared}{m:Vars}{σ:Store}{s:Shared}{h':Heap}{C:Addr} (hs:Mine.St S tb env Np P b m σ s) (hC:Np C) (hN:∀ a,N a->Np a) (hPN:∀ a,P a->N a) (nC:¬ N C) (ho:∀ a,Own env a->N a) (hb0:b.2.heap.get? C=Option.none)
  (hb:Heap.SameBut C s.heap h'):Mine.St S tb env N P b m σ { s with heap:=h' }/\∀ {av v},Rep S.cv s.heap (DN Np σ) av v->Rep S.cv h' (DN N σ) av v:=by
 have kpC:∀ b o,b≠C->s.heap.get? b=some o->h'.get? b=some o:=fun b o ne e=>hb.extBut b o ne e
 have e0:Ext (DN Np σ) s.heap h':=Ext.of_but fun b o d e=>kpC b o (fun q=>d (.inr (q▸hC))) e
 have hD:∀ b,DN N σ b->DN Np σ b\/s.heap.get? b=Option.none:=fun b q=>.inl (q.imp id (hN b))
 have rep:∀ {av v},Rep S.cv s.heap (DN Np σ) av v->Rep S.cv h' (DN N σ) av v:=fun r=>r.ext e0 hD
 obtain ⟨mc,cm,n,cc,ow,ap,cl,rr⟩:=hs.loc
 have oC:∀ a,Own env a->a≠C:=fun a q z=>nC (z▸ho a q)
 refine ⟨⟨⟨fun a o e=>kpC a o (fun q=>?_) (hs.inv.keep a o e),hs.inv.gens,hs.inv.drawn,hs.inv.os,hs.inv.σg,fun a d q=>hs.inv.σN a d (hN a q),fun a q=>?_,fun a o e=>(hs.inv.rep a o e).ext e0 hD fun ob e'=>kpC a ob (fun z=>hs.inv.σN a (by unfold Dom;rw [e];simp) (z▸hC)) e'⟩,?_,?_,hPN,hs.new,ho,hs.gb⟩,rep⟩
 ·subst q;rw [hs.gb a hb0] at e;cases e
 ·refine X1pp (hs.inv.Nin a (hN a q)) fun o e nf=>?_;exact ⟨o,kpC a o (fun z=>nC (z▸q)) e,nf⟩
 ·refine ⟨mc,cm,?_,fun z a hz=>?_,ow,ap,cl,fun z j av hj hm=>?_⟩
  ·refine X3pp (n) fun o es ep e d=>?_;exact ⟨o,es,ep,kpC _ _ (oC _ (.inl rfl)) e,d⟩
  ·refine X1pp (cc z a hz) fun o e d=>?_;exact ⟨o,kpC _ _ (oC _ (.inr ⟨z,hz⟩)) e,d⟩
  ·exact LocAt.map (rr z j av hj hm) (fun h2=>rep h2) (fun zz h1=>h1) (fun zz h1=>h1)
 ·have bC:∀ {a o},b.2.heap.get? a=some o->a≠C:=fun e z=>by rw [z,hb0] at e;cases e
  have f:=hs.frm
  exact ⟨⟨fun a o e d=>kpC a o (bC e) (f.ext.obj a o e d)⟩,fun a o e d g x=>by
   refine X1pp (f.frm a o e d g x) fun o' e' r=>?_
   exact ⟨o',kpC a o' (bC e) e',r⟩,f.dom,fun a o e=>by
   refine X1p (f.there a o e) fun o' e'=>?_
   exact ⟨o',kpC a o' (bC e) e'⟩⟩
end
end Mine
end
section
namespace Mine
open PySem PyProof.Rows PySem.W
variable {prog:Program}{w:World}{S:Sta prog w}
noncomputable abbrev NoX:Value->Shared->Prop:=fun zz zz=>False
theorem E8 {A:Around}{R:Result->Shared->Prop}{s:Shared}{elt target iter:PySem.Expr}{ifs:List PySem.Expr}{scope:Scope}{pos:Pos}{it acc:Value}{env:Env} (I:Nat->Shared->Prop)
  (turn:∀ n s,I n s->wpAny (model prog w) A (pyNext it) (fun r s₁=>match r with
   | none=>R (.ok .next) s₁
   | some v=>wpAny (model prog w) A (letOwnedTupleGo target it v) (fun zz s₁'=>wpAny (model prog w) A (assign target env v) (fun zz s₂ =>
     wpAny (model prog w) A (forIn ifs true fun c r=>if r=true then do let ok <- isTrue c env (eval c env);pure (ForInStep.yield ok) else pure (ForInStep.yield r)) (fun ok Bf =>
      if ok=true then wpAny (model prog w) A (eval elt env) (fun x s₄ =>
       wpAny (model prog w) A (call (.builtin "list.append") [acc,x]) (fun zz Hh=>∃ m,m<n/\I m Hh) NoX s₄) NoX Bf
      else ∃ m,m<n/\I m Bf) NoX s₂) NoX s₁') NoX s₁) NoX s)
  (n:Nat) (h:I n s):codeAny (model prog w) A (.compLoop (.ListComp elt [⟨target,iter,ifs,0⟩] scope pos) 0 it acc env) R s:=by
 refine codeAny_loop rfl I (fun n s hI=>?_) n h
 show wpAny _ A ((compTurn (.ListComp elt [⟨target,iter,ifs,0⟩] scope pos) 0 it acc env).onRaise (fun x=>do noteFrame x env;theTreesLotGoes x)) _ _ s
 refine wpAny_noted (wpAny_noRaise ?_)
 rw [compTurn_list]
 refine wpAny_bind (wpAny_standAt (wpAny_bind (wpAny_mono (turn n s hI) (fun r s₁ h₁=>?_) fun zz zz h'=>h')))
 cases r with
 | none=>exact wpAny_pure h₁
 | some v =>
  refine wpAny_bind (wpAny_mono h₁ (fun zz s₁' h₁'=>?_) fun zz zz h'=>h')
  refine wpAny_bind (wpAny_mono h₁' (fun zz s₂ h₂=>wpAny_bind (wpAny_mono h₂ (fun ok Bf h₃=>?_) fun zz zz h'=>h')) fun zz zz h'=>h')
  cases ok with
  | false=>exact wpAny_pure ⟨rfl,h₃⟩
  | true =>
   exact wpAny_bind (wpAny_bind (wpAny_mono h₃ (fun x s₄ Bq=>wpAny_bind (wpAny_mono Bq (fun zz Hh h₅=>wpAny_pure (wpAny_pure ⟨rfl,h₅⟩)) fun zz zz h'=>h')) fun zz zz h'=>h'))
noncomputable def TestT (F:Fx S) (m:Vars) (σ:Store) (cs:List E) (Q:Bool->Store->Prop):Prop:=match cs with
 | []=>Q true σ
 | [c]=>TT F m σ c Q NoX
 | _=>False
theorem TestT.run {F:Fx S}{m:Vars}{σ:Store}{s:Shared}{cs:List E}{pcs:List PySem.Expr}{Q:Bool->Store->Prop} (h:TestT F m σ cs Q) (hc:CEs F.tb F.sc pcs cs) (hs:F.St m σ s) :
  W F m σ s (forIn pcs true fun c r=>if r=true then do let ok <- isTrue c F.env (eval c F.env);pure (ForInStep.yield ok) else pure (ForInStep.yield r)) (fun b σ' zz=>Q b σ') NoX:=by
 match cs,h with
 | [],h=>obtain rfl:=hc.inv_nil;exact wpAny_tests_nil ⟨σ,Step.refl _ _ _ _,hs,h⟩
 | [c],h =>
  refine X2pppp (hc.inv) fun zz zz he44_2 hn he hr=>?_
  subst he44_2
  obtain rfl:=hr.inv_nil;exact wpAny_tests_one (h _ he s hs)
noncomputable def Ez (F:Fx S) (i:Nat) (elt:E) (cs:List E) (ok:Store->Store->Prop) (m:Vars) (K:List AV->Store->Prop):List AV->List AV->Store->Prop
 | [],ys,σ=>K ys σ
 | x::r,ys,σ=>TestT F (m.set i x) σ cs (fun b σ₁=>if b=true then ET F (m.set i x) σ₁ elt (fun y σ₂=>ok σ σ₂/\Ez F i elt cs ok m K r (ys++[y]) σ₂) NoX else ok σ σ₁/\Ez F i elt cs ok m K r ys σ₁)
section
variable {F:Fx S}{m:Vars}{σ:Store}{s:Shared}{scope:Scope}{x:Str}{i:Nat}
theorem set_over {m m':Vars}{i:Nat}{x:AV} (h:∀ j,j≠i->m' j=m j):m'.set i x=m.set i x:=by
 funext j
 unfold Vars.set
 by_cases q:j=i
 ·simp [q]
 ·simp [q,h j q]
theorem RepL.snoc {cv:Nat->Value}{h:Heap}{D:Addr->Prop}{a:AV}{v:Value}{l:List AV}{vs:List Value} (r:RepL cv h D l vs) (r':Rep cv h D a v):RepL cv h D (l++[a]) (vs++[v]):=r.app (.cons r' .nil)
theorem St.turnN {tb:List Nat}{env:Env}{N P:Addr->Prop}{b:Store×Shared}{m:Vars}{σ:Store}{s:Shared}{h':Heap}{C:Addr} (hs:Mine.St S tb env N P b m σ s) (hC:N C) (nO:¬ Own env C) (hb0:b.2.heap.get? C=Option.none)
  (hb:Heap.ExtBut C s.heap h') (hex:∃ o,h'.get? C=some o/\∀ vs,o.data≠.fields vs):Mine.St S tb env N P b m σ { s with heap:=h' }/\Step P (·=C) σ s σ { s with heap:=h' }:=by
 have kpC:∀ b o,b≠C->s.heap.get? b=some o->h'.get? b=some o:=fun b o ne e=>hb b o ne e
 have e0:Ext (DN N σ) s.heap h':=Ext.of_but fun b o d e=>kpC b o (fun q=>d (.inr (q▸hC))) e
 have hD:∀ b,DN N σ b->DN N σ b\/s.heap.get? b=Option.none:=fun b q=>.inl q
 have rep:∀ {av v},Rep S.cv s.heap (DN N σ) av v->Rep S.cv h' (DN N σ) av v:=fun r=>r.ext e0 hD
 have there:∀ a o,s.heap.get? a=some o->∃ o',h'.get? a=some o':=fun a o e=>by
  by_cases q:a=C
  ·subst q;exact ⟨hex.choose,hex.choose_spec.1⟩
  ·exact ⟨o,kpC a o q e⟩
 obtain ⟨mc,cm,n,cc,ow,ap,cl,rr⟩:=hs.loc
 have oC:∀ a,Own env a->a≠C:=fun a q z=>nO (z▸q)
 refine ⟨⟨⟨fun a o e=>kpC a o (fun q=>?_) (hs.inv.keep a o e),hs.inv.gens,hs.inv.drawn,hs.inv.os,hs.inv.σg,hs.inv.σN,fun a q=>?_,fun a o e=>(hs.inv.rep a o e).ext e0 hD fun ob e'=>kpC a ob (fun z=>hs.inv.σN a (by unfold Dom;rw [e];simp) (z▸hC)) e'⟩,?_,?_,hs.pN,hs.new,hs.own,hs.gb⟩,
  Step.of_but (fun a o zz n e=>kpC a o n e) (fun zz h=>.inl h) there⟩
 ·subst q;rw [hs.gb a hb0] at e;cases e
 ·refine X1pp (hs.inv.Nin a q) fun o e nf=>?_
  by_cases z:a=C
  ·rw [z];exact hex
  ·exact ⟨o,kpC a o z e,nf⟩
 ·refine ⟨mc,cm,?_,fun z a hz=>?_,ow,ap,cl,fun z j av hj hm=>?_⟩
  ·refine X3pp (n) fun o es ep e d=>?_;exact ⟨o,es,ep,kpC _ _ (oC _ (.inl rfl)) e,d⟩
  ·refine X1pp (cc z a hz) fun o e d=>?_;exact ⟨o,kpC _ _ (oC _ (.inr ⟨z,hz⟩)) e,d⟩
  ·exact LocAt.map (rr z j av hj hm) (fun h2=>rep h2) (fun zz h1=>h1) (fun zz h1=>h1)
 ·have bC:∀ {a o},b.2.heap.get? a=some o->a≠C:=fun e z=>by rw [z,hb0] at e;cases e
  have f:=hs.frm
  exact ⟨⟨fun a o e d=>kpC a o (bC e) (f.ext.obj a o e d)⟩,fun a o e d g x=>by
   refine X1pp (f.frm a o e d g x) fun o' e' r=>?_
   exact ⟨o',kpC a o' (bC e) e',r⟩,f.dom,fun a o e=>by
   refine X1p (f.there a o e) fun o' e'=>?_
   exact ⟨o',kpC a o' (bC e) e'⟩⟩
theorem ItStep.step {W P O:Addr->Prop}{σ₀:Store}{s₀ s₂:Shared} (st:ItStep W s s₂) (new:∀ a,W a->s₀.heap.get? a=Option.none) (z:Step P O σ₀ s₀ σ s):Step P O σ₀ s₀ σ s₂ :=
 z.over fun c e o=>st.keep c o fun z=>e.elim fun o e=>Ae (new c z) e
inductive CEnd (F:Fx S) (i:Nat) (m:Vars) (K:List AV->Store->Prop) (D:Addr) (σ₀:Store) (s₀ s':Shared):Prop
 | mk (σ':Store) (Af:Vars) (ys:List AV) (vs:List Value) (n:Nat) (st:Step F.P F.O σ₀ s₀ σ' s') (h:F.St Af σ' s') (hm:∀ j,j≠i->Af j=m j) (g:s'.heap.get? D=some (Ax (List.toArray vs) n)) (rl:RepL S.cv s'.heap (F.D σ') ys vs) (k:K ys σ'):CEnd F i m K D σ₀ s₀ s'
inductive CInv (F:Fx S) (i:Nat) (elt:E) (cs:List E) (ok:Store->Store->Prop) (m:Vars) (K:List AV->Store->Prop) (items:List AV) (J:Nat->Store->Shared->Prop) (D:Addr) (σ₀:Store) (s₀:Shared) (n:Nat) (s':Shared):Prop
 | mk (k:Nat) (Af:Vars) (σ':Store) (ys:List AV) (vs:List Value) (nn:Nat) (hn:n+k=items.length+1) (hk:k<=items.length) (hv:vs.length<=k) (st:Step F.P F.O σ₀ s₀ σ' s') (h:F.St Af σ' s') (hm:∀ j,j≠i->Af j=m j) (hJ:J k σ' s')
  (g:s'.heap.get? D=some (Ax (List.toArray vs) nn)) (rl:RepL S.cv s'.heap (F.D σ') ys vs) (c:Ez F i elt cs ok m K (items.drop k) ys σ'):CInv F i elt cs ok m K items J D σ₀ s₀ n s'
set_option tactic.hygienic true in
theorem JU {I D:Addr}{items:List AV}{x:Str}{px:Pos}{W:Addr->Prop}{J:Nat->Store->Shared->Prop}{ok:Store->Store->Prop}{i:Nat}{elt:E}{cs:List E}{pelt piter:PySem.Expr}{pcs:List PySem.Expr}{scope:Scope}{pos:Pos}{m₀:Vars}{K:List AV->Store->Prop}{σ₀:Store}{s₀:Shared}
  (Wk:Walk F I items (.Name x px) W J ok) (hf:F.sc.lookup x≠some .free) (hx:IsV F.tb F.sc x i) (hlen:items.length<=big) (he:CE F.tb F.sc pelt elt) (hcs:CEs F.tb F.sc pcs cs)
  (new:∀ a,W a->F.b.2.heap.get? a=Option.none) (hN:∀ a,W a->¬ F.N a) (hD:F.N D) (hDO:¬ F.O D) (hDP:¬ F.P D) (hDb:F.b.2.heap.get? D=Option.none) (hD0:s₀.heap.get? D=Option.none)
  (new0:∀ a,W a->s₀.heap.get? a=Option.none) (hs:F.St m₀ σ s) (st0:Step F.P F.O σ₀ s₀ σ s) (hm0:∀ j,j≠i->m₀ j=m j) (gD:s.heap.get? D=some (Ax #[] 0)) (hJ:J 0 σ s) (h:Ez F i elt cs ok m K items [] σ) :
  codeAny (model prog w) F.A (.compLoop (.ListComp pelt [⟨.Name x px,piter,pcs,0⟩] scope pos) 0 (.ref I) (.ref D) F.env) (fun r s'=>match r with
   | .ok _=>CEnd F i m K D σ₀ s₀ s'
   | .error _=>False) s:=by
 have wD:¬ W D:=fun q=>hN D q hD
 refine E8 (CInv F i elt cs ok m K items J D σ₀ s₀) ?_ (items.length+1)
  ⟨0,m₀,σ,[],[],0,rfl,Nat.zero_le _,Nat.le_refl _,st0,hs,hm0,hJ,gD,.nil,h⟩
 rintro n s₁ ⟨k,Af,σ₁,ys,vs,nn,hn,hk,hv,st₁,h₁,CB,Dg,g₁,rl₁,hl⟩
 have its:=Wk.its k σ₁ s₁ Dg
 have dom_D:∀ {σ':Store}{s':Shared}{m':Vars},F.St m' σ' s'->¬ (Dom σ' D\/F.O D\/F.P D):=fun q d=>d.elim (fun d=>q.inv.σN D d hD) fun d=>d.elim hDO hDP
 by_cases hlt:k<items.length
 ·obtain ⟨y,hy⟩:∃ y,items[k]?=some y:=⟨_,List.getElem?_eq_getElem hlt⟩
  have hd:items.drop k=y::items.drop (k+1):=by
   rw [List.drop_eq_getElem_cons hlt]
   rw [List.getElem?_eq_getElem hlt] at hy
   cases hy;rfl
  rw [hd] at hl
  refine Wk.next k y Af σ₁ s₁ _ _ _ hy h₁ Dg fun v s₂ ist rv GR=>?_
  have h₂:F.St Af σ₁ s₂:=h₁.it its new hN ist
  have g₂:=ist.keep D _ wD g₁
  have rl₂:=rl₁.it its ist.keep
  refine wpAny_assign_Name (BR hf hx h₂ rv fun Bf st₃ h₃=>?_)
  rw [set_over CB] at h₃
  refine (TestT.run hl hcs h₃).out ?_
  rintro b Cy s₄ BZ Bq q
  have st34:=st₃.trans BZ
  have g₄:=st34.ext.obj D _ g₂ (dom_D h₂)
  have rl₄:=rl₂.st st34 Bq
  have st':=(ist.step new0 st₁).trans st34
  cases b with
  | false =>
   simp only [Bool.false_eq_true,if_false] at q ⊢
   exact ⟨n - 1,by exact lin [(n - 1),n] [] (.nlt 1 V0 V1) [.neq 1 (.add V0 K1) V1] rfl (Nat.sub_add_cancel (lin [n,k,(items.length)] [] (.nle 1 K1 V0) [.neq (-1) (.add V0 V1) (.add V2 K1),.nlt 1 V1 V2] rfl hn hlt)),k+1,_,Cy,ys,vs,nn,by exact Nat.le_antisymm (lin [n,k,(items.length),(n - 1)] [] (.nle 1 (.add V3 (.add V1 K1)) (.add V2 K1)) [.neq 1 (.add V0 V1) (.add V2 K1),.neq 1 (.add V3 K1) V0] rfl hn (Nat.sub_add_cancel (lin [n,k,(items.length)] [] (.nle 1 K1 V0) [.neq (-1) (.add V0 V1) (.add V2 K1),.nlt 1 V1 V2] rfl hn hlt))) (lin [n,k,(items.length),(n - 1)] [] (.nle 1 (.add V2 K1) (.add V3 (.add V1 K1))) [.neq (-1) (.add V0 V1) (.add V2 K1),.nle 1 V0 (.add K1 V3)] rfl hn (Nat.sub_le_iff_le_add'.mp (Nat.le_refl ((n) - (1))))),hlt,by exact lin [(vs.length),k] [] (.nle 1 V0 (.add V1 K1)) [.nle 1 V0 V1] rfl hv,st',Bq,fun j hj=>by unfold Vars.set;rw [if_neg hj],Wk.stays _ _ _ _ _ _ _ F.O h₂.own hN GR h₂ st34 Bq q.1,g₄,rl₄,q.2⟩
  | true =>
   simp only [if_true] at q ⊢
   refine (q _ he s₄ Bq).out ?_
   rintro v5 DD Hh st₅ h₅ ⟨e5,r5,hok,hrest⟩
   have g₅:=st₅.ext.obj D _ g₄ (dom_D Bq)
   have rl₅:=rl₄.st st₅ h₅
   refine wpAny_list_append_plain (items:=vs.toArray) ⟨nn,g₅⟩ (fun h' pl sb=>?_) (by rw [List.size_toArray];exact A7 (by exact lin [(items.length),(big),(vs.length),k] [] (.nle 1 V2 V1) [.nle 1 V0 V1,.nle 1 V2 V3,.nlt 1 V3 V0] rfl hlen hv hlt))
   refine X1p (pl) fun n6 g₆=>?_
   obtain ⟨h₆,st₆⟩:=h₅.turnN hD hDO hDb sb.extBut ⟨_,g₆,fun vs z=>by cases z⟩
   have ee:vs.toArray.push v5=(vs++[v5]).toArray:=by simp
   rw [ee] at g₆
   have stN:Step F.P F.N σ₁ s₂ DD { Hh with heap:=h' }:=((st34.trans st₅).mono h₂.own).trans (st₆.mono fun a q=>q▸hD)
   have rl₆:RepL S.cv h' (F.D DD) (ys++[e5]) (vs++[v5]):=(RepL.snoc rl₅ r5).step st₆ (fun a q=>q▸hD) h₅.pN
   have stD:Step F.P F.O σ₀ s₀ DD { Hh with heap:=h' }:=by
    exact (st'.trans st₅).over fun a e o=>sb.extBut a o fun q=>e.elim fun o e=>by rw [q] at e;exact Ae hD0 e
   exact ⟨n - 1,by exact lin [(n - 1),n] [] (.nlt 1 V0 V1) [.neq 1 (.add V0 K1) V1] rfl (Nat.sub_add_cancel (lin [n,k,(items.length)] [] (.nle 1 K1 V0) [.neq (-1) (.add V0 V1) (.add V2 K1),.nlt 1 V1 V2] rfl hn hlt)),k+1,_,DD,ys++[e5],vs++[v5],n6,by exact Nat.le_antisymm (lin [n,k,(items.length),(n - 1)] [] (.nle 1 (.add V3 (.add V1 K1)) (.add V2 K1)) [.neq 1 (.add V0 V1) (.add V2 K1),.neq 1 (.add V3 K1) V0] rfl hn (Nat.sub_add_cancel (lin [n,k,(items.length)] [] (.nle 1 K1 V0) [.neq (-1) (.add V0 V1) (.add V2 K1),.nlt 1 V1 V2] rfl hn hlt))) (lin [n,k,(items.length),(n - 1)] [] (.nle 1 (.add V2 K1) (.add V3 (.add V1 K1))) [.neq (-1) (.add V0 V1) (.add V2 K1),.nle 1 V0 (.add K1 V3)] rfl hn (Nat.sub_le_iff_le_add'.mp (Nat.le_refl ((n) - (1))))),hlt,by simp;exact hv,stD,h₆,fun j hj=>by unfold Vars.set;rw [if_neg hj],Wk.stays _ _ _ _ _ _ _ F.N (fun zz q=>q) hN GR h₂ stN h₆ hok,g₆,rl₆,hrest⟩
 ·have hk':k=items.length:=by exact Nat.le_antisymm (hk) (lin [k,(items.length)] [] (.nle 1 V1 V0) [.nge 1 V0 V1] rfl hlt)
  subst hk'
  rw [List.drop_length] at hl
  refine Wk.done Af σ₁ s₁ _ _ h₁ Dg fun s₂ ist=>?_
  exact ⟨σ₁,Af,ys,vs,nn,ist.step new0 st₁,h₁.it its new hN ist,CB,ist.keep D _ wD g₁,rl₁.it its ist.keep,hl⟩
theorem CompOk.isV (c:CompOk F scope x i) {D C:Addr}:(AZ c D C).sc.lookup x≠some .free/\IsV (AZ c D C).tb (AZ c D C).sc x i:=by
 have e:(AZ c D C).sc.lookup x=scope.names.lookup x:=by
  show (relabel scope F.env).names.lookup x=_
  rw [Bm]
  rcases c.var with q | q<;>rw [Ba q,q]<;>rfl
 rw [e]
 refine ⟨?_,c.ok,?_,c.ix⟩
 ·rcases c.var with q | q<;>rw [q]<;>simp
 ·rw [e];exact c.var.imp id .inl
theorem compT {psrc pelt:PySem.Expr}{pcs:List PySem.Expr}{px pos pos':Pos}{src elt:E}{cs:List E}{X:Value->Shared->Prop}{K:List AV->Store->Prop}{use:Option (Value->Sem Unit)}{Q:Value->Shared->Prop} (c:CompOk F scope x i)
  (hsrc:CE F.tb F.sc psrc src) (hcs:CEs F.tb (relab F.sc scope.names) pcs cs) (helt:CE F.tb (relab F.sc scope.names) pelt elt) (hns:AO psrc=true)
  (h:SrcT F m σ (.v i) src (fun items ok σ₁=>items.length<=big/\∀ F':Fx S,F'.tb=F.tb->F'.k=F.k->Ez F' i elt cs ok m K items [] σ₁) X) (hs:F.St m σ s)
  (fin:∀ (D C:Addr) σb sb σ₁ s₁ Af ys vs n,Step F.P F.O σ s σb sb->F.St m σb sb->sb.heap.get? D=Option.none->sb.heap.get? C=Option.none->D≠C->BB F scope sb C->Step F.P (AZ c D C).O σb sb σ₁ s₁->(AZ c D C).St Af σ₁ s₁->(∀ j,j≠i->Af j=m j) ->
   s₁.heap.get? D=some (Ax (List.toArray vs) n)->RepL S.cv s₁.heap ((AZ c D C).D σ₁) ys vs->K ys σ₁->compPost (model prog w) F.A X use Q (.ref D) C (.ok .next) s₁) :
  wpAny (model prog w) F.A (comprehension (.ListComp pelt [⟨.Name x px,psrc,pcs,0⟩] scope pos) scope F.env pos' (newList []) false (eval psrc F.env) use) Q X s:=by
 refine wpAny_comprehension_free (use:=use) rfl (E1 hns) c.closure c.kind (fun q hq hl=>by have:=(c.names q hq).2;rw [hl] at this;exact this) ?_
 refine wpAny_mono (h psrc (.Name x px) hsrc trivial s hs) (fun xv s₁ h₁=>wpAny_mono h₁ ?_ fun zz zz e=>e) fun zz zz e=>e
 rintro it s₂ ⟨I,items,W,J,ok,σ₂,sm,rfl,wk,stm,hm,st,h₂,nw,mv,hlen,hcomp⟩
 have comp_in':=comp_in c h₂
 generalize hDD:s₂.heap.objs.size=D at comp_in'
 dsimp only at comp_in'
 refine wpAny_newObj_type ?_ (by size_fits)
 have hC:(s₂.heap.push { cls:=.type "list",data:=.seq ([]:List Value).toArray }).objs.size=D+1:=by rw [<- hDD];exact Heap.size_push ..
 refine FF ?_
 dsimp only
 rw [hC,hDD]
 show codeAny (model prog w) F.A (.compStart (.ListComp pelt [⟨.Name x px,psrc,pcs,0⟩] scope pos) 0 (.ref I) (.ref D) (DX F scope (D+1))) (compPost (model prog w) F.A X use Q (.ref D) (D+1))
  { s₂ with heap:=pushCells ((s₂.heap.push (Ax #[] 0)).push { cls:=.type "dict",data:=.dict #[] }) scope.names }
 obtain ⟨Bq,BZ,g₄,cn,kp,hDN,hDO⟩:=comp_in'
 have its:=(wk F).its 0 σ₂ s₂ mv.here
 have fD:s₂.heap.get? D=Option.none:=by rw [<- hDD];exact Ar _
 have fC:s₂.heap.get? (D+1)=Option.none:=by
  cases q:s₂.heap.get? (D+1) with
  | none=>rfl
  | some o=>exact absurd (Heap.lt_size q) (by rw [hDD];exact Nat.not_lt.mpr (Nat.le_succ _))
 have sD:=st.new fD
 have sC:=st.new fC
 have cn0:BB F scope sm (D+1):=⟨fun a q=>(cn.out a q).imp id st.new⟩
 have Wb:∀ a,W a->F.b.2.heap.get? a=Option.none:=fun a q=>hm.frm.new (nw a q)
 have WN:∀ a,W a->¬ (AZ c D (D+1)).N a:=by
  rintro a q (z | z | z)
  ·refine X1pp (hm.inv.Nin a z) fun o e nf=>?_;rw [nw a q] at e;cases e
  ·refine X1pp (its a q) fun o e zz=>?_;rw [z,fD] at e;cases e
  ·rcases cn.out a z with ⟨y,_,hy⟩ | z
   ·exact its.notOwn h₂ q (.inr ⟨y,hy⟩)
   ·refine X1pp (its a q) fun o e zz=>?_;rw [z] at e;cases e
 have Db:F.b.2.heap.get? D=Option.none:=hm.frm.new sD
 have hJ:=mv (AZ c D (D+1)) σ₂ { s₂ with heap:=pushCells ((s₂.heap.push (Ax #[] 0)).push { cls:=.type "dict",data:=.dict #[] }) scope.names } kp hDN fun zz zz e=>e
 have scn:(AZ c D (D+1)).sc=relab F.sc scope.names:=Bm F scope
 have st0:Step F.P (AZ c D (D+1)).O σ₂ sm σ₂ { s₂ with heap:=pushCells ((s₂.heap.push (Ax #[] 0)).push { cls:=.type "dict",data:=.dict #[] }) scope.names }:=(st.trans BZ).any
 have loop:codeAny (model prog w) F.A (.compLoop (.ListComp pelt [⟨.Name x px,psrc,pcs,0⟩] scope pos) 0 (.ref I) (.ref D) (DX F scope (D+1))) (compPost (model prog w) F.A X use Q (.ref D) (D+1))
   { s₂ with heap:=pushCells ((s₂.heap.push (Ax #[] 0)).push { cls:=.type "dict",data:=.dict #[] }) scope.names }:=by
  refine codeAny_mono (JU (F:=AZ c D (D+1)) (m:=m) (σ₀:=σ₂) (s₀:=sm) (wk _) c.isV.1 c.isV.2 hlen (by rw [scn];exact helt) (by rw [scn];exact hcs) Wb WN (.inr (.inl rfl)) hDO (fun q=>by refine X1pp (hm.inv.Nin D (hm.pN D q)) fun o e zz=>?_;rw [sD] at e;cases e) Db sD nw Bq st0 (fun j hj=>if_neg hj) g₄ hJ (hcomp _ rfl rfl)) fun r s' hr=>?_
  cases r with
  | error e=>exact hr.elim
  | ok f =>
   obtain ⟨σ',Af,ys,vs,n,st',h',CB,gD',rl',hK⟩:=hr
   have:=fin D (D+1) σ₂ sm σ' s' Af ys vs n stm hm sD sC (Nat.ne_of_lt (Nat.lt_succ_self D)) cn0 st' h' CB gD' rl' hK
   cases use<;>exact this
 exact codeAny_compStart_list loop ((wk (AZ c D (D+1))).self 0 σ₂ _ _ _ hJ loop)
theorem ET.comp {src elt:E}{cs:List E}{X:Value->Shared->Prop}{Q:AV->Store->Prop}
  (h:SrcT F m σ (.v i) src (fun items ok σ₁=>items.length<=big/\∀ F':Fx S,F'.tb=F.tb->F'.k=F.k->Ez F' i elt cs ok m (fun ys σ₂=>Fresh σ₂ (.list ys) (.list ys) Q) items [] σ₁) X):ET F m σ (.comp elt i src cs) Q X:=by
 intro pe hc s hs
 refine X6p (hc.inv) fun zz zz zz zz zz zz hy227_0=>?_
 refine X1ppppppp (hy227_0) fun zz he227_7 hkind hvar hns hok hnames hy227_1=>?_
 refine BO (hy227_1) fun hsrc hix hcs helt=>?_
 subst he227_7
 have c:CompOk F _ _ i:=⟨hkind,hvar,hok,hix,hnames⟩
 show wpAny _ _ (eval _ _) _ _ _
 rw [eval_ListComp]
 refine compT (K:=fun ys σ₂=>Fresh σ₂ (.list ys) (.list ys) Q) c hsrc hcs helt hns h hs ?_
 intro D C σb sb σ₁ s₁ Af ys vs n stb hb hD hC hDC cn st h₁ CB gD rl hK
 obtain ⟨mc,_,ns,_⟩:=h₁.loc
 refine ⟨mc,ns,fun h' sb'=>?_⟩
 obtain ⟨σ',st',h2,av,ra,q⟩:=G4 c cn hb hD hC hDC st h₁ CB sb' gD rl (Np:=F.N) (fun b q=>.inl q) (fun b q=>q) (fun q=>by refine X1pp (hb.inv.Nin C q) fun o e nf=>?_;rw [hC] at e;cases e) hK
 exact ⟨σ',stb.trans st',h2,av,ra,q⟩
theorem ST.assignComp {j:Nat}{src elt:E}{cs:List E}{X:Value->Shared->Prop}{K:Fl->Vars->Store->Prop}
  (h:SrcT F m σ (.v i) src (fun items ok σ₁=>items.length<=big/\∀ F':Fx S,F'.tb=F.tb->F'.k=F.k->Ez F' i elt cs ok m (fun ys σ₂=>Fresh σ₂ (.list ys) (.list ys) (fun a σ₃=>K .next (m.set j a) σ₃)) items [] σ₁) X):ST F m σ (.assign (.v j) (.comp elt i src cs)) K X:=by
 intro ps hc s hs
 refine X3ppp (hc.inv) fun zz zz zz he242_3 hp he=>?_
 subst he242_3
 refine X2ppp (hp.inv) fun y py he243_2 hf hx=>?_
 subst he243_2
 have ev:=ET.comp (F:=F) (X:=X) h
 refine X6p (he.inv) fun pelt x xp psrc pcs scope hy245_0=>?_
 refine X1ppppppp (hy245_0) fun p he245_7 hkind hvar hns hok hnames hy245_1=>?_
 refine BO (hy245_1) fun hsrc hix hcs helt=>?_
 subst he245_7
 ···
    have c:CompOk F scope x i:=⟨hkind,hvar,hok,hix,hnames⟩
    show wpAny _ _ (exec (.Assign [.Name y py] _ _) _) _ _ _
    cases hsw:(F.env.blockKind == .function && F.env.kindOf y == some .local && py.line == p.line && !(scope.names.any fun (n,k)=>n == y && (k == .local || k == .cell))) with
    | false =>
     refine wpAny_Assign_Name ((ev _ he s hs).out ?_) (by unfold swapsWith;exact congrArg pure hsw)
     rintro v σ₁ s₁ st₁ h₁ ⟨a,ra,q⟩
     exact BR hf hx h₁ ra fun s₂ st₂ h₂=>⟨.next,_,σ₁,st₁.trans st₂,h₂,trivial,q⟩
    | true =>
     rw [exec_Assign_Name_used _ _ _ _ (by unfold swapsWith;exact congrArg pure hsw)]
     refine wpAny_bind (wpAny_standAt (wpAny_bind ?_))
     show wpAny _ _ (do let _ <- comprehension (.ListComp pelt [⟨.Name x xp,psrc,pcs,0⟩] scope p) scope F.env _ (newList []) false (eval psrc F.env) (some (PySem.assign (.Name y py) F.env))) _ _ s
     refine wpAny_bind (wpAny_mono (compT (use:=some (PySem.assign (.Name y py) F.env)) (Q:=fun zz s'=>∃ σ',Step F.P F.O σ s σ' s'/\∃ a,F.St (m.set j a) σ' s'/\K .next (m.set j a) σ') (K:=fun ys σ₂=>Fresh σ₂ (.list ys) (.list ys) (fun a σ₃=>K .next (m.set j a) σ₃)) c hsrc hcs helt hns h hs ?_) ?_ fun zz zz e=>e)
     ·intro D C σb sb σ₁ s₁ Af ys vs n stb hb hD hC hDC cn st h₁ CB gD rl hK
      let Np:Addr->Prop:=fun a=>F.N a\/a=C
      have nFC:¬ F.N C:=fun q=>by refine X1pp (hb.inv.Nin C q) fun o e nf=>?_;rw [hC] at e;cases e
      obtain ⟨mc,_,ns,_⟩:=h₁.loc
      have nsC:s₁.heap.Ns C mc:=ns
      obtain ⟨σ',st',h2,av,ra,q⟩:=G4 c cn hb hD hC hDC st h₁ CB (h':=s₁.heap) (Heap.SameBut.refl ..) gD rl (Np:=Np) (fun b q=>q) (fun b q=>.inl q) (fun zz=>by refine X3ppp (nsC) fun o zz zz e dd zz=>?_;exact ⟨o,e,fun vs z=>by rw [dd] at z;cases z⟩) hK
      let Fp:Fx S:=⟨F.A,F.tb,F.env,F.b,Np,F.k,F.room.wide (fun zz q=>.inl q),F.fk,F.fg,F.fb,F.fc⟩
      have h2':Fp.St m σ' s₁:=h2
      show wpAny (model prog w) F.A (PySem.assign (.Name y py) F.env (.ref D)) _ _ s₁
      refine wpAny_assign_Name (BR (F:=Fp) hf hx h2' ra fun s₂ st₂ h₂=>?_)
      have nOC:¬ F.O C:=fun q=>nFC (hb.own C q)
      have nDC:¬ Dom σ' C:=fun d=>h2'.inv.σN C d (.inr rfl)
      refine ⟨mc,(by refine X3ppp (nsC) fun o es ep e dd r=>?_;refine X1pppp (st₂.there' e nDC nOC) fun o' e' zz d' zz=>?_;exact ⟨o',es,ep,e',d'.trans dd,r⟩),fun h' sb'=>?_⟩
      refine Ad (St.letGo (N:=F.N) h₂ (.inr rfl) (fun a q=>.inl q) hs.pN nFC hs.own (hb.frm.new hC) sb') fun h3 zz=>?_
      exact ⟨σ',((stb.trans st').trans st₂).over (fun a e o=>sb'.extBut a o fun q=>e.elim fun o e=>by rw [q] at e;exact Ae (stb.new hC) e),av,h3,q⟩
     ·rintro _ s' ⟨σ',st',a,h',hk⟩
      exact wpAny_pure (wpAny_pure ⟨.next,_,σ',st',h',trivial,hk⟩)
end
end Mine
end
section
namespace Mine
open PySem PyProof.Rows PySem.W
variable {prog:Program}{w:World}{S:Sta prog w}
inductive Ty where
 | none | bool | int | str | tup | list | dict
 deriving DecidableEq
noncomputable def Ty.name:Ty->String
 | .none => "NoneType"
 | .bool => "bool"
 | .int => "int"
 | .str => "str"
 | .tup => "tuple"
 | .list => "list"
 | .dict => "dict"
noncomputable def tyA (σ:Store):AV->Option Ty
 | .none=>some .none
 | .bool _=>some .bool
 | .int _=>some .int
 | .str _=>some .str
 | .tup _=>some .tup
 | .list _=>some .list
 | .dict _=>some .dict
 | .loc a _=>match σ a with
  | some (.list _)=>some .list
  | some (.dict _)=>some .dict
  | _=>Option.none
 | _=>Option.none
noncomputable def isT (t u:Ty):Bool:=t == u || (t == .bool && u == .int)
section
variable {F:Fx S}{m:Vars}{σ:Store}{s:Shared}{X:Value->Shared->Prop}{Q:AV->Store->Prop}
noncomputable def isP (t u:Ty):Bool:=match t with
 | .int=>(match u with
  | .int=>true
  | .bool=>true
  | _=>false)
 | .str=>(match u with
  | .str=>true
  | _=>false)
 | .tup=>(match u with
  | .tup=>true
  | _=>false)
 | .list=>(match u with
  | .list=>true
  | _=>false)
 | _=>false
theorem rep_ty {a:AV}{v:Value}{t:Ty} (r:Rep S.cv s.heap (F.D σ) a v) (hs:F.St m σ s) (h:tyA σ a=some t):match t with
  | .int=>∃ n u,v=.int n u
  | .str=>∃ x u,v=.str x u
  | .tup=>∃ ad o,v=.ref ad/\s.heap.get? ad=some o/\o.cls=.type "tuple"
  | .list=>∃ ad o,v=.ref ad/\s.heap.get? ad=some o/\o.cls=.type "list"
  | _=>True:=by
 cases a with
 | int n=>obtain rfl:=Option.some.inj h;exact ⟨n,r.inv⟩
 | str x=>obtain rfl:=Option.some.inj h;exact ⟨x,r.inv⟩
 | tup l=>obtain rfl:=Option.some.inj h;obtain ⟨a,b,c,e,f,_⟩:=r.inv;exact ⟨a,_,e,f,rfl⟩
 | list l=>obtain rfl:=Option.some.inj h;obtain ⟨a,b,c,e,f,_⟩:=r.inv;exact ⟨a,_,e,f,rfl⟩
 | none=>obtain rfl:=Option.some.inj h;trivial
 | bool b=>obtain rfl:=Option.some.inj h;trivial
 | dict l=>obtain rfl:=Option.some.inj h;trivial
 | loc ad ii =>
  unfold tyA at h
  dsimp only at h
  cases e:σ ad with
  | none=>rw [e] at h;cases h
  | some o =>
   rw [e] at h
   cases o with
   | list l'=>obtain rfl:=Option.some.inj h;obtain ⟨vs,n,g,q⟩:=(hs.inv.rep ad _ e).inv;exact ⟨ad,_,r.inv,g,rfl⟩
   | dict l'=>obtain rfl:=Option.some.inj h;trivial
   | _=>exact (Ae rfl h).elim
 | _=>exact (Ae rfl h).elim
theorem CT.isinst {a:AV}{j:Nat}{t u:Ty} (hp:isP t u=true) (ha:tyA σ a=some t) (hj:S.cv j=.type u.name) (hu:u≠.none) (h:Q (.bool (isT t u)) σ):CT F m σ (.builtin "isinstance") [a,.cls j] Q X:=by
 intro vals s hs r
 obtain ⟨v,c,rfl,ra,rc⟩:=r.two
 have hc:c=.type u.name:=rc.inv.trans hj
 subst hc
 have q:=rep_ty ra hs ha
 cases t with
 | int =>
  obtain ⟨n,k,rfl⟩:=q
  cases u with
  | bool=>exact PySem.IsiPair.int_bool (DK _ hs (.bool _) h)
  | int=>exact PySem.IsiPair.int_int (now hs (.bool _) h)
  | _=>exact (Bool.false_ne_true hp).elim
 | str =>
  obtain ⟨x,k,rfl⟩:=q
  cases u with
  | str=>exact PySem.IsiPair.str_str (now hs (.bool _) h)
  | _=>exact (Bool.false_ne_true hp).elim
 | tup =>
  obtain ⟨ad,o,rfl,e,hc⟩:=q
  cases u with
  | tup=>exact PySem.IsiPair.tuple_tuple e hc (now hs (.bool _) h)
  | _=>exact (Bool.false_ne_true hp).elim
 | list =>
  obtain ⟨ad,o,rfl,e,hc⟩:=q
  cases u with
  | list=>exact PySem.IsiPair.list_list e hc (now hs (.bool _) h)
  | _=>exact (Bool.false_ne_true hp).elim
 | _=>exact (Bool.false_ne_true hp).elim
theorem ET.cls {j:Nat} (hg:Glob S j (S.cv j)) (h:Q (.cls j) σ):ET F m σ (.g j) Q X:=by
 intro pe hc s hs
 refine X2pp (hc.inv) fun zz zz he107_2 hx=>?_
 subst he107_2
 exact DM hx hg hs (now hs (.cls j) h)
theorem CT.lenTup {l:List AV} (hz:l.length<=big) (h:Q (.int l.length) σ):CT F m σ (.builtin "len") [.tup l] Q X:=by
 intro vals s hs r
 refine X1pp (r.one) fun v he112_1 ra=>?_
 subst he112_1
 ·refine X3pppp (ra.inv) fun ad vs n he113_3 e d rl=>?_
  subst he113_3
  have ht:IsTup s.heap ad vs.toArray:=⟨_,e,rfl,n,rfl⟩
  refine len_tuple ht (by rw [List.size_toArray,rl.length];exact Int.not_le.mp (Fi hz)) ?_
  rw [List.size_toArray,rl.length]
  exact DK _ hs (.int _ _) h
theorem CT.lenDict {a:AV}{l:List (Ab×AV)} (ha:dd σ a=some l) (hz:l.length<=big) (h:Q (.int l.length) σ):CT F m σ (.builtin "len") [a] Q X:=by
 intro vals s hs r
 refine X1pp (r.one) fun v he120_1 ra=>?_
 subst he120_1
 refine X3pppp (ra.dctE hs ha) fun ad es n he121_3 e sm rd=>?_
 subst he121_3
 have e':s.heap.get? ad=some (AP es.toArray n):=e
 refine call_len_slot (n:=l.length) e.typeIs PySem.F.slot_dict_len (fun Q' hq=>?_) (by exact lin [(l.length)] [] (.ige 1 (.c V0) K0) [] rfl) (Fi hz) (DK _ hs (.int _ _) h)
 refine wpAny_call_entry PySem.F.slot_dict_len (s:=s) ⟨_,e',rfl⟩ PySem.F.entry_dict_len ?_ (PySem.F.args_dict_len_1 _)
 show wpAny _ _ (dictSize ad >>= _) _ _ s
 unfold dictSize
 refine wpAny_bind (wpAny_bind (wpAny_dictEntries e' rfl (wpAny_pure ?_)))
 show wpAny _ _ (Builtin.Dict.pendingCount ad >>= _) _ _ s
 refine wpAny_bind (wpAny_pendingCount_other sm ?_)
 refine wpAny_bind (wpAny_mkInt (wpAny_pure ⟨_,rfl,?_⟩))
 have hl:es.toArray.size=l.length:=by rw [List.size_toArray,rd.length]
 rw [hl,Nat.add_zero]
 exact hq
theorem CT.max2 (hq:S.hx=Option.none) {a b:Int} (h:Q (.int (if b > a then b else a)) σ):CT F m σ (.builtin "max") [.int a,.int b] Q X:=by
 intro vals s hs r
 refine X2ppp (r.two) fun v u he137_2 ra rb=>?_
 subst he137_2
 refine X1p (ra.inv) fun zz he138_1=>?_
 subst he138_1
 refine X1p (rb.inv) fun zz he139_1=>?_
 subst he139_1
 refine max_two_ints (F.room.quiet hq) fun h' tk k=>?_
 refine Ad (hs.grow k tk) fun h1 st=>?_
 by_cases c:b > a
 ·rw [if_pos c] at h ⊢;exact ⟨σ,st.any,h1,_,.int _ _,h⟩
 ·rw [if_neg c] at h ⊢;exact ⟨σ,st.any,h1,_,.int _ _,h⟩
theorem CT.min2 (hq:S.hx=Option.none) {a b:Int} (h:Q (.int (if b<a then b else a)) σ):CT F m σ (.builtin "min") [.int a,.int b] Q X:=by
 intro vals s hs r
 refine X2ppp (r.two) fun v u he147_2 ra rb=>?_
 subst he147_2
 refine X1p (ra.inv) fun zz he148_1=>?_
 subst he148_1
 refine X1p (rb.inv) fun zz he149_1=>?_
 subst he149_1
 refine min_two_ints (F.room.quiet hq) fun h' tk k=>?_
 refine Ad (hs.grow k tk) fun h1 st=>?_
 by_cases c:b<a
 ·rw [if_pos c] at h ⊢;exact ⟨σ,st.any,h1,_,.int _ _,h⟩
 ·rw [if_neg c] at h ⊢;exact ⟨σ,st.any,h1,_,.int _ _,h⟩
theorem CT.listList {a:AV}{l:List AV} (ha:dl σ a=some l) (hz:l.length<=big) (h:Fresh σ (.list l) (.list l) Q):CT F m σ (.type "list") [a] Q X:=by
 intro vals s hs r
 refine X1pp (r.one) fun v he158_1 ra=>?_
 subst he158_1
 obtain ⟨ad,vs,n,rfl,e,rl⟩:=ra.lst hs.inv ha
 refine call_list_seq ad (T := "list") (.inl rfl) e rfl rfl (fun h' c' k e'=>A2 (tk:=s.toks) hs k (Ar _) e' rl h) (by rw [List.size_toArray,rl.length];exact A7 hz)
theorem CT.listTup {l:List AV} (hz:l.length<=big) (h:Fresh σ (.list l) (.list l) Q):CT F m σ (.type "list") [.tup l] Q X:=by
 intro vals s hs r
 refine X1pp (r.one) fun v he163_1 ra=>?_
 subst he163_1
 ·refine X3pppp (ra.inv) fun ad vs n he164_3 e d rl=>?_
  subst he164_3
  exact call_list_seq ad (T := "tuple") (.inr rfl) e rfl rfl (fun h' c' k e'=>A2 (tk:=s.toks) hs k (Ar _) e' rl h) (by rw [List.size_toArray,rl.length];exact A7 hz)
noncomputable def Hu (σ:Store) (a:AV):Option (List PyData):=match Bs σ a with
 | some d=>(match d with
  | .list xs=>some xs
  | .tuple xs=>some xs
  | _=>Option.none)
 | Option.none=>Option.none
theorem EH {σ:Store}{a:AV}{xs:List PyData} (h:Hu σ a=some xs):Bs σ a=some (.list xs)\/Bs σ a=some (.tuple xs):=by
 unfold Hu at h
 cases e:Bs σ a with
 | none=>rw [e] at h;cases h
 | some d =>
  rw [e] at h
  cases d with
  | list ys=>cases h;exact .inl rfl
  | tuple ys=>cases h;exact .inr rfl
  | _=>cases h
theorem KT.inSeq {a b:AV}{d:PyData}{xs:List PyData}{Q:Bool->Store->Prop} (ha:Bs σ a=some d) (hb:Hu σ b=some xs) (sx:PyData.canLayAll0 xs=true) (sd:d.canLay0=true) (hdp:d.depth<=100) (h:Q (xs.any fun y=>PyData.eqv y d) σ):KT F m σ .In a b Q X:=by
 intro va vb s hs ra rb
 refine X1p (ra.readsS hs.inv ha) fun as r1=>?_
 have hu:F.A.units+1+min (PyData.depthAll xs) d.depth<cLine:=by have:=F.room.un;unfold cLine;exact lin [(d.depth),(F.A.units),(F.k),(min (PyData.depthAll xs) d.depth)] [] (.nlt 1 (.add (.add V1 K1) V3) Gf) [.nle 1 V0 H5,.nlt 1 (.add V1 (.mul 20 V2)) Bz,.nle 1 V3 V0] rfl hdp this (Nat.min_le_right (PyData.depthAll xs) (d.depth))
 rcases EH hb with e | e
 ·refine X1p (rb.readsS hs.inv e) fun bs r2=>?_
  exact PySem.SeqAt.in_list_reads r2 r1 sx sd hu ⟨σ,Step.refl _ _ _ _,hs,_,rfl,h⟩
 ·refine X1p (rb.readsS hs.inv e) fun bs r2=>?_
  exact PySem.SeqAt.in_tuple_reads r2 r1 sx sd hu ⟨σ,Step.refl _ _ _ _,hs,_,rfl,h⟩
theorem KT.notInSeq {a b:AV}{d:PyData}{xs:List PyData}{Q:Bool->Store->Prop} (ha:Bs σ a=some d) (hb:Hu σ b=some xs) (sx:PyData.canLayAll0 xs=true) (sd:d.canLay0=true) (hdp:d.depth<=100) (h:Q (!xs.any fun y=>PyData.eqv y d) σ):KT F m σ .NotIn a b Q X:=by
 intro va vb s hs ra rb
 refine X1p (ra.readsS hs.inv ha) fun as r1=>?_
 have hu:F.A.units+1+min (PyData.depthAll xs) d.depth<cLine:=by have:=F.room.un;unfold cLine;exact lin [(d.depth),(F.A.units),(F.k),(min (PyData.depthAll xs) d.depth)] [] (.nlt 1 (.add (.add V1 K1) V3) Gf) [.nle 1 V0 H5,.nlt 1 (.add V1 (.mul 20 V2)) Bz,.nle 1 V3 V0] rfl hdp this (Nat.min_le_right (PyData.depthAll xs) (d.depth))
 rcases EH hb with e | e
 ·refine X1p (rb.readsS hs.inv e) fun bs r2=>?_
  exact PySem.SeqAt.notIn_list_reads r2 r1 sx sd hu ⟨σ,Step.refl _ _ _ _,hs,_,rfl,h⟩
 ·refine X1p (rb.readsS hs.inv e) fun bs r2=>?_
  exact PySem.SeqAt.notIn_tuple_reads r2 r1 sx sd hu ⟨σ,Step.refl _ _ _ _,hs,_,rfl,h⟩
theorem KT.inStr {x y:Str}{Q:Bool->Store->Prop} (h:Q (Txt.contains x y) σ):KT F m σ .In (.str y) (.str x) Q X:=by
 intro va vb s hs ra rb
 refine X1p (ra.inv) fun zz he243_1=>?_
 subst he243_1
 refine X1p (rb.inv) fun zz he244_1=>?_
 subst he244_1
 exact SB.contains ⟨σ,Step.refl _ _ _ _,hs,_,rfl,h⟩
theorem KT.notInDict {k:Ab}{b:AV}{l:List (Ab×AV)}{Q:Bool->Store->Prop} (hb:dd σ b=some l) (h:Q (!(BW l k).isSome) σ):KT F m σ .NotIn (sp k) b Q X:=by
 intro va vb s hs ra rb
 refine X4ppp (ra.spot) fun t tx ty n he248_4 e d=>?_
 subst he248_4
 refine X3ppppp (rb.dct hs.inv hb) fun ad es n' he249_3 e' sm nd rd=>?_
 subst he249_3
 refine X1pp (RepD.xs (prog:=prog) (w:=w) rd) fun xs hx he250_2=>?_
 subst he250_2
 have q:=hx.at_ k
 refine wpAny_notIn_heap (CJ F) (HP e) sm (HX hx nd e') ⟨σ,Step.toks _ _ _ _ _,hs.tok _,_,rfl,?_⟩
 have:(atKey xs (key k)).isSome=(BW l k).isSome:=by
  revert q
  cases BW l k<;>cases atKey xs (key k)<;>simp
 rw [this];exact h
end
end Mine
end
section
namespace Mine
open PySem PyProof.Rows PySem.W
variable {prog:Program}{w:World}{S:Sta prog w}
structure Meth (nm:Str) (T id:String):Prop where
 pa:PlainAttrs T
 slot:Slot T nm id
 ty:typeOf (.builtin id)=pure (.type "method_descriptor")
section
variable {F:Fx S}{m:Vars}{σ:Store}{s:Shared}{X:Value->Shared->Prop}{Q:AV->Store->Prop}{K:Fl->Vars->Store->Prop}
theorem rep_obj {a:AV}{v:Value}{t:Ty} (r:Rep S.cv s.heap (F.D σ) a v) (hs:F.St m σ s) (h:tyA σ a=some t):s.TypeIs v t.name/\∀ b,v=.ref b->∃ ob,s.heap.get? b=some ob/\ob.dict=none:=by
 cases a with
 | none=>obtain rfl:=Option.some.inj h;rw [show v=.none from r.inv];exact ⟨rfl,nofun⟩
 | bool b=>obtain rfl:=Option.some.inj h;rw [show v=.bool b from r.inv];exact ⟨rfl,nofun⟩
 | int n=>obtain rfl:=Option.some.inj h;refine X1p (r.inv) fun u he21_1=>?_;subst he21_1;exact ⟨rfl,nofun⟩
 | str x=>obtain rfl:=Option.some.inj h;refine X1p (r.inv) fun u he22_1=>?_;subst he22_1;exact ⟨rfl,nofun⟩
 | tup l=>obtain rfl:=Option.some.inj h;refine X3ppp (r.inv) fun a b c he23_3 f zz=>?_;subst he23_3;exact ⟨⟨_,f,rfl⟩,fun zz q=>Value.ref.inj q▸⟨_,f,rfl⟩⟩
 | list l=>obtain rfl:=Option.some.inj h;refine X3ppp (r.inv) fun a b c he24_3 f zz=>?_;subst he24_3;exact ⟨⟨_,f,rfl⟩,fun zz q=>Value.ref.inj q▸⟨_,f,rfl⟩⟩
 | dict l=>obtain rfl:=Option.some.inj h;refine X3ppp (r.inv) fun a b c he25_3 f zz=>?_;subst he25_3;exact ⟨⟨_,f,rfl⟩,fun zz q=>Value.ref.inj q▸⟨_,f,rfl⟩⟩
 | loc ad ii =>
  rw [show v=.ref ad from r.inv]
  unfold tyA at h
  dsimp only at h
  cases e:σ ad with
  | none=>rw [e] at h;cases h
  | some o =>
   rw [e] at h
   cases o with
   | list l'=>obtain rfl:=Option.some.inj h;refine X2pp ((hs.inv.rep ad _ e).inv) fun vs n f q=>?_;exact ⟨⟨_,f,rfl⟩,fun zz q=>Value.ref.inj q▸⟨_,f,rfl⟩⟩
   | dict l'=>obtain rfl:=Option.some.inj h;refine X2pp ((hs.inv.rep ad _ e).inv) fun vs n f q=>?_;exact ⟨⟨_,f,rfl⟩,fun zz q=>Value.ref.inj q▸⟨_,f,rfl⟩⟩
   | _=>exact (Ae rfl h).elim
 | _=>exact (Ae rfl h).elim
theorem J5 {o:PySem.Expr}{nm:Str}{env:Env}{x:Sem Value} (h:CN o=true):attributeBase o nm env x=x:=by
 cases o with
 | Call f as ks p =>
  cases f with
  | Name i q =>
   cases as with
   | nil =>
    cases ks with
    | nil=>exact (Bool.false_ne_true h).elim
    | cons _ _=>rfl
   | cons _ _=>rfl
  | _=>rfl
 | _=>rfl
theorem G5 {pos:Pos}{pes:List PySem.Expr}{es:List E} (hc:CEs F.tb F.sc pes es) (hl:pes.length<29):((backTo pos (starEach pes F.env)).all (fun x=>!x.1) && (backToKw pos (keywordEach [] F.env)).all (fun x=>x.1.isSome)
   && decide (pes.length+([]:List Keyword).length+(if ([]:List Keyword).isEmpty then 0 else 1)<30))=true:=by
 have h1:(backTo pos (starEach pes F.env)).all (fun x=>!x.1)=true:=by
  have:=IV (pos:=pos) hc
  rw [List.all_eq_true]
  intro x hx
  rw [List.any_eq_false] at this
  have:=this x hx
  simpa using this
 have h2:(backToKw pos (keywordEach [] F.env)).all (fun x=>x.1.isSome)=true:=rfl
 rw [h1,h2]
 simp
 exact lin [(pes.length)] [] (.nlt 1 V0 K30) [.nlt 1 V0 K29] rfl hl
noncomputable def ArgsT (F:Fx S) (m:Vars) (σ:Store) (es:List E) (P:List AV->Store->Prop) (X:Value->Shared->Prop):Prop:=match es with
 | []=>P [] σ
 | es=>EsT F m σ es P X
theorem ET.meth {o:E}{n:Nat}{nm:Str}{args:List E}{t:Ty}{id:String} (hn:ixS AT nm=some n) (hm:Meth nm t.name id)
  (h:ET F m σ o (fun a σ₁=>tyA σ₁ a=some t/\ArgsT F m σ₁ args (fun avs σ₂=>CT F m σ₂ (.builtin id) (a::avs) Q X) X) X):ET F m σ (.meth o n args) Q X:=by
 intro pe hc s hs
 obtain ⟨po,a,ap,pargs,p,rfl,hsup,hline,hlen,ho,hk,ha⟩:=hc.inv
 have:a=nm:=Bo hk hn
 subst this
 refine wpAny_Call_method_lateS (J5 hsup) (G5 ha hlen) (by simpa using hline) ((h _ ho s hs).out ?_)
 rintro ov σ₁ s₁ st₁ h₁ ⟨av,ra,hty,hargs⟩
 refine Ad (rep_obj ra h₁ hty) fun hT hd=>?_
 refine ⟨t.name,id,hm.pa,hm.slot,hm.ty,hT,fun b e=>hd b e,?_⟩
 cases ha with
 | nil =>
  refine DS (Callable.builtin id) h₁ ?_
  exact (hargs [ov] s₁ h₁ (.cons ra .nil)).later st₁
 | cons hn1 he1 hr1 =>
  refine Cd (.cons hn1 he1 hr1) (Callable.builtin id) hargs h₁ ?_
  intro vals avs σ₂ s₂ st₂ h₂ rl q
  exact (q (ov::vals) s₂ h₂ (.cons (ra.st st₂ h₂) rl)).later (st₁.trans st₂)
theorem Jk:ixS AT "append"=some 0:=by decide +kernel
theorem ix_pop:ixS AT "pop"=some 1:=by decide +kernel
theorem ix_clear:ixS AT "clear"=some 3:=by decide +kernel
theorem ix_join:ixS AT "join"=some 8:=by decide +kernel
theorem FG:Meth "append" (Ty.name .list) "list.append":=⟨PySem.F.plainAttrs_list,PySem.F.slot_list_append,PySem.F.type_list_append⟩
theorem meth_pop:Meth "pop" (Ty.name .list) "list.pop":=⟨PySem.F.plainAttrs_list,PySem.F.slot_list_pop,PySem.F.type_list_pop⟩
theorem I3:Meth "join" (Ty.name .str) "str.join":=⟨PySem.F.plainAttrs_str,PySem.F.slot_str_join,PySem.F.type_str_join⟩
theorem D4 {ad:Addr}{l l':List AV}{h':Heap}{vs:List Value}{n:Nat}{s':Shared} (hs:F.St m σ s) (ho:σ ad=some (.list l)) (k:Heap.ExtBut ad s.heap h') (e:h'.get? ad=some (Ax vs.toArray n)) (r:RepL S.cv s.heap (F.D σ) l' vs) :
  F.St m (σ.set ad (.list l')) { s with heap:=h' }/\Step F.P F.O σ s (σ.set ad (.list l')) { s with heap:=h' }:=by
 have da:Dom σ ad:=by unfold Dom;rw [ho];simp
 have e0:Ext (F.D σ) s.heap h':=Ext.of_but fun b o d e=>k b o (fun q=>d (.inl (q▸da))) e
 obtain ⟨h1,st⟩:=hs.upd (h':=h') da (fun c o ne e=>k c o ne e) s.toks (o:=.list l') (.list e (r.ext e0 fun b q=>.inl (q.imp (fun q=>(AJ q).elim (fun (q:b=ad)=>by rw [q];exact da) id) id)))
 exact ⟨h1,st.any⟩
theorem CT.append {ad:Addr}{ii:Nat}{l:List AV}{x:AV} (ho:σ ad=some (.list l)) (hz:l.length<=big) (h:Q .none (σ.set ad (.list (l++[x])))):CT F m σ (.builtin "list.append") [.loc ad ii,x] Q X:=by
 intro vals s hs r
 refine X2ppp (r.two) fun v u he113_2 ra rx=>?_
 subst he113_2
 refine X3ppp (ra.lst hs.inv (Bw ho)) fun ad' vs n he114_3 e rl=>?_
 subst he114_3
 obtain rfl:=(Value.ref.inj ra.inv).symm
 refine wpAny_list_append_plain (items:=vs.toArray) ⟨n,e⟩ (fun h' pl sb=>?_) (by rw [List.size_toArray,rl.length];exact A7 hz)
 refine X1p (pl) fun n' e'=>?_
 have ee:vs.toArray.push u=(vs++[u]).toArray:=by simp
 rw [ee] at e'
 refine Ad (D4 (s':=s) hs ho sb.extBut e' (rl.snoc rx)) fun h1 st=>?_
 exact ⟨_,st,h1,_,.none,h⟩
theorem RepL.dropLast {cv:Nat->Value}{h:Heap}{D:Addr->Prop}{l:List AV}{vs:List Value} (r:RepL cv h D l vs):RepL cv h D l.dropLast vs.dropLast:=by
 rw [List.dropLast_eq_take,List.dropLast_eq_take,r.length]
 exact r.take _
theorem CT.pop {ad:Addr}{ii:Nat}{l:List AV}{x:AV} (ho:σ ad=some (.list l)) (hx:l.getLast?=some x) (hz:l.length<=big) (h:Q x (σ.set ad (.list l.dropLast))):CT F m σ (.builtin "list.pop") [.loc ad ii] Q X:=by
 intro vals s hs r
 refine X1pp (r.one) fun v he127_1 ra=>?_
 subst he127_1
 refine X3ppp (ra.lst hs.inv (Bw ho)) fun ad' vs n he128_3 e rl=>?_
 subst he128_3
 obtain rfl:=(Value.ref.inj ra.inv).symm
 have hx':l[l.length - 1]?=some x:=by rw [<- List.getLast?_eq_getElem?];exact hx
 refine X1pp (rl.get hx') fun u hu ru=>?_
 have hy:vs.toArray[vs.toArray.size - 1]?=some u:=by rw [List.size_toArray,rl.length];simpa using hu
 refine call_meets PySem.F.slot_list_pop ⟨_,e,rfl⟩ PySem.F.entry_list_pop (PySem.F.args_list_pop_1 _) (PySem.MeetsSeq.list_pop_last ad vs.toArray n u hy (by rw [List.size_toArray,rl.length];exact A7 hz)) ⟨e,?_⟩
 have hne:vs≠[]:=by rintro rfl;simp at hy
 have ee:vs.toArray.eraseIdxIfInBounds (vs.toArray.size - 1)=vs.dropLast.toArray:=by
  have hlt:vs.length - 1<vs.length:=by have:=List.length_pos_iff.mpr hne;exact lin [(vs.length - 1),(vs.length)] [] (.nlt 1 V0 V1) [.neq 1 (.add V0 K1) V1] rfl (Nat.sub_add_cancel (lin [(vs.length)] [] (.nle 1 K1 V0) [.nlt 1 K0 V0] rfl this))
  simp only [List.size_toArray,Array.eraseIdxIfInBounds,List.size_toArray,hlt,dif_pos]
  simp [List.eraseIdx_length_sub_one]
 have hk:Heap.ExtBut ad s.heap (s.heap.update ad (Obj.mapSeq fun xs=>xs.eraseIdxIfInBounds (vs.toArray.size - 1))):=(Heap.SameBut.update ..).extBut
 have ms:Obj.mapSeq (fun xs=>xs.eraseIdxIfInBounds (vs.toArray.size - 1)) (Ax vs.toArray n)=Ax vs.dropLast.toArray (if (vs.dropLast.toArray.size == vs.toArray.size) then n else n+1):=by
  simp only [Obj.mapSeq,ee]
 have e':=Heap.get?_update_self (Obj.mapSeq fun xs=>xs.eraseIdxIfInBounds (vs.toArray.size - 1)) e (by rw [ms];rfl)
 rw [ms] at e'
 refine Ad (D4 (s':=s) hs ho hk e' rl.dropLast) fun h1 st=>?_
 exact ⟨_,st,h1,_,ru.st st h1,h⟩
noncomputable def Bj (l:List (Ab×AV)) (k:Ab) (x:AV):List (Ab×AV):=if (BW l k).isSome then l.map (fun p=>if p.1=k then (k,x) else p) else l++[(k,x)]
theorem DZ {cv:Nat->Value}{h:Heap}{D:Addr->Prop}{l:List (Ab×AV)}{xs:List (List Int×Addr×Value)} (r:XsOf cv h D l xs) (k:Ab):(atKey xs (key k)).isSome=(BW l k).isSome:=by
 have q:=r.at_ k
 revert q
 cases BW l k<;>cases atKey xs (key k)<;>simp
theorem XsOf.put {cv:Nat->Value}{h:Heap}{D:Addr->Prop}{k:Ab}{x:AV}{v:Value} (rv:Rep cv h D x v) {l:List (Ab×AV)}{xs:List (List Int×Addr×Value)} (r:XsOf cv h D l xs):XsOf cv h D (l.map (fun p=>if p.1=k then (k,x) else p)) (xs.map (putAt (key k) v)):=by
 induction r with
 | nil=>exact .nil
 | @cons k' x' l t _ _ _ v' xs e d r rs ih =>
  rw [List.map_cons,List.map_cons]
  by_cases q:k'=k
  ·subst q
   have:putAt (key k') v (key k',t,v')=(key k',t,v):=by simp [putAt]
   rw [this]
   simp only [if_true]
   exact .cons e d rv ih
  ·have q':¬ key k'=key k:=fun z=>q (FM z)
   have:putAt (key k) v (key k',t,v')=(key k',t,v'):=by simp [putAt,q']
   rw [this]
   simp only [if_neg q]
   exact .cons e d r ih
theorem XsOf.snoc {cv:Nat->Value}{h:Heap}{D:Addr->Prop}{k:Ab}{x:AV}{t:Addr}{tx ty:Tok}{n:Nat}{v:Value} (e:h.get? t=some (Be #[.int k.1 tx,.int k.2 ty] n)) (d:¬ D t) (rv:Rep cv h D x v) :
  ∀ {l:List (Ab×AV)}{xs:List (List Int×Addr×Value)},XsOf cv h D l xs->XsOf cv h D (l++[(k,x)]) (xs++[(key k,t,v)]):=by
 intro l xs r
 induction r with
 | nil=>exact .cons e d rv .nil
 | cons e' d' r' _ ih=>exact .cons e' d' r' ih
theorem JL {l:List (Ab×AV)}{k:Ab} (h:BW l k=Option.none):∀ p∈l,p.1≠k:=by
 unfold BW at h
 rw [Option.map_eq_none_iff,List.find?_eq_none] at h
 intro p hp e
 exact h p hp (by simp [e])
set_option tactic.hygienic true in
theorem DQ {l:List (Ab×AV)} (k:Ab) (x:AV) (h:(l.map (·.1)).Nodup):((Bj l k x).map (·.1)).Nodup:=by
 unfold Bj
 split
 ·have:(l.map (fun p=>if p.1=k then (k,x) else p)).map (·.1)=l.map (·.1):=by
   rw [List.map_map]
   apply List.map_congr_left
   intro p _
   simp only [Function.comp_apply]
   split
   ·rename_i q;exact q.symm
   ·rfl
  rw [this];exact h
 ·rename_i q
  have q':BW l k=Option.none:=by simpa using q
  rw [List.map_append,List.nodup_append]
  refine ⟨h,by simp,?_⟩
  intro a ha b hb e
  simp at hb
  refine X1pp (List.mem_map.mp ha) fun p hp he198_2=>?_
  subst he198_2
  exact JL q' p hp (e.trans hb)
theorem CF {h:Heap}{d:Addr}{xs:List (List Int×Addr×Value)} (hm:h.DictOfH (tupleKind (intKind prog w)) d xs):∃ n,h.get? d=some (AP (xs.map (entryOfKey (tupleKind (intKind prog w)))).toArray n):=by
 obtain ⟨o,es,ep,ho,⟨h1,h2,h3⟩,hd,he,_,_⟩:=hm
 refine ⟨ep,?_⟩
 obtain ⟨c,dx,dt,sl⟩:=o
 simp only at h1 h2 h3 hd
 subst h1 h2 h3 hd
 have:es=(xs.map (entryOfKey (tupleKind (intKind prog w)))).toArray:=by rw [<- he]
 rw [ho,this]
theorem setItemD {ad:Addr}{l:List (Ab×AV)}{k:Ab}{x:AV}{vk vx:Value}{Q':Unit->Shared->Prop} (ho:σ ad=some (.dict l)) (hz:l.length<=big) (hs:F.St m σ s) (rk:Rep S.cv s.heap (F.D σ) (sp k) vk) (rx:Rep S.cv s.heap (F.D σ) x vx)
  (h:∀ s',F.St m (σ.set ad (.dict (Bj l k x))) s'->Step F.P F.O σ s (σ.set ad (.dict (Bj l k x))) s'->Q' () s'):wpAny (model prog w) F.A (setItem (.ref ad) vk vx) Q' X s:=by
 refine X4ppp (rk.spot) fun t tx ty n he211_4 e d=>?_
 subst he211_4
 refine X3ppppp ((Rep.loc (cv:=S.cv) (h:=s.heap) (D:=F.D σ) ad 0).dct hs.inv (E6 ho)) fun ad' es n' e1 e' sm nd rd=>?_
 cases e1
 refine X1pp (RepD.xs (prog:=prog) (w:=w) rd) fun xs hx he214_2=>?_
 subst he214_2
 have hlen:xs.length=l.length:=by have:=rd.length;simpa using this
 refine wpAny_setItem_heap (CJ F) (HP e) (HX hx nd e') (fun h' hm sb=>?_) (by rw [hlen];exact A7 hz)
 refine X1p (CF hm) fun n2 e2=>?_
 have da:Dom σ ad:=by unfold Dom;rw [ho];simp
 have e0:Ext (F.D σ) s.heap h':=Ext.of_but fun b o d e=>sb.extBut b o (fun q=>d (.inl (q▸da))) e
 have hD:∀ b,DN F.N (σ.set ad (.dict (Bj l k x))) b->DN F.N σ b\/s.heap.get? b=Option.none:=fun b q=>.inl (q.imp (fun q=>(AJ q).elim (fun (q:b=ad)=>by rw [q];exact da) id) id)
 have xs':XsOf S.cv s.heap (F.D σ) (Bj l k x) (storedH xs (key k) t vx):=by
  unfold Bj storedH
  rw [DZ hx k]
  split
  ·exact hx.put rx
  ·exact hx.snoc e d rx
 refine Ad (hs.upd (h':=h') da (fun c o ne e=>sb.extBut c o ne e) (s.toks+(tupleKind (intKind prog w)).draws (key k)) (o:=.dict (Bj l k x)) (.dict e2 sm (DQ k x nd) (xs'.repD.ext e0 hD))) fun h1 st=>?_
 exact h _ h1 st.any
set_option tactic.hygienic true in
theorem ST.setitem {o i e:E} (hn:AC e=true) (h:ET F m σ e (fun x σ₁=>ET F m σ₁ o (fun a σ₂=>ET F m σ₂ i (fun k σ₃=>∃ ad ii l kk,a=.loc ad ii/\k=sp kk/\σ₃ ad=some (.dict l)/\l.length<=big/\K .next m (σ₃.set ad (.dict (Bj l kk x)))) X) X) X):ST F m σ (.setitem o i e) K X:=by
 intro ps hc s hs
 refine X5ppppp (hc.inv) fun zz zz zz zz zz he232_5 hns ho hi he=>?_
 subst he232_5
 refine wpAny_Assign_Subscript ((h _ he s hs).out ?_) (BC he hn)
 rintro vx σ₁ s₁ st₁ h₁ ⟨x,rx,AA⟩
 refine (AA _ ho s₁ h₁).out ?_
 rintro va σ₂ s₂ st₂ h₂ ⟨a,ra,AW⟩
 refine (AW _ hi s₂ h₂).out ?_
 rintro vk σ₃ Bf st₃ h₃ ⟨k,rk,ad,ii,l,kk,rfl,rfl,hd,hz,hK⟩
 obtain rfl:=ra.inv
 refine setItemD hd hz h₃ rk ((rx.st st₂ h₂).st st₃ h₃) fun s' h' st'=>?_
 exact ⟨.next,m,_,((st₁.trans st₂).trans st₃).trans st',h',trivial,hK⟩
end
end Mine
end
section
namespace Mine
open PySem PyProof.Rows PySem.W
variable {prog:Program}{w:World}{S:Sta prog w}
section
variable {tb:List Nat}{env:Env}{N Np:Addr->Prop}{b:Store×Shared}{m:Vars}{σ:Store}{s:Shared}{D:Addr}
theorem Loc.map {h h':Heap}{σ':Store}{g:Heap}{cv:Nat->Value} (l:Loc cv g tb env m N σ h) (own:∀ a o,Own env a->h.get? a=some o->h'.get? a=some o) (hd:∀ a,Own env a->¬ Dom σ' a) (r:∀ {av v},Rep cv h (DN N σ) av v->Rep cv h' (DN Np σ') av v):Loc cv g tb env m Np σ' h':=by
 obtain ⟨mc,cm,n,cc,ow,ap,cl,rr⟩:=l
 refine ⟨mc,cm,?_,fun z a hz=>?_,fun a q=>⟨hd a q,(ow a q).2⟩,ap,cl,fun z j av hj hm=>?_⟩
 ·refine X3pp (n) fun o es ep e d=>?_;exact ⟨o,es,ep,own _ _ (.inl rfl) e,d⟩
 ·refine X1pp (cc z a hz) fun o e d=>?_;exact ⟨o,own _ _ (.inr ⟨z,hz⟩) e,d⟩
 ·exact LocAt.map (rr z j av hj hm) (fun h2=>r h2) (fun zz h1=>h1) (fun zz h1=>h1)
theorem St.apart {h':Heap}{tk:Nat} (hs:Mine.St S tb env N P b m σ s) (k:∀ b o,s.heap.get? b=some o->h'.get? b=some o) (hD:s.heap.get? D=Option.none) (hD':∃ o,h'.get? D=some o/\∀ vs,o.data≠.fields vs) :
  Mine.St S tb env (fun a=>N a\/a=D) P b m σ { s with heap:=h',toks:=tk }/\Step noO noO σ s σ { s with heap:=h',toks:=tk }:=by
 refine Ad (hs.grow k tk) fun h1 st=>?_
 have e0:Ext (DN N σ) s.heap h':=Ext.of_keeps k
 have hDN:∀ b,DN (fun a=>N a\/a=D) σ b->DN N σ b\/s.heap.get? b=Option.none:=by
  rintro b (q | q | q)
  ·exact .inl (.inl q)
  ·exact .inl (.inr q)
  ·exact .inr (q▸hD)
 refine ⟨⟨⟨h1.inv.keep,h1.inv.gens,h1.inv.drawn,h1.inv.os,h1.inv.σg,?_,?_,fun a o e=>(hs.inv.rep a o e).ext e0 hDN (k a)⟩,?_,h1.frm,fun a q=>.inl (hs.pN a q),hs.new,fun a q=>.inl (hs.own a q),hs.gb⟩,st⟩
 ·rintro a d (q | q)
  ·exact hs.inv.σN a d q
  ·exact hs.inv.not_dom (q▸hD) d
 ·rintro a (q | q)
  ·exact h1.inv.Nin a q
  ·exact q▸hD'
 ·have ow:=hs.loc
  obtain ⟨_,_,_,_,ow,_⟩:=ow
  exact hs.loc.map (fun a o zz e=>k a o e) (fun a q=>(ow a q).1) fun r=>r.ext e0 hDN
theorem St.open_ (hs:Mine.St S tb env Np P b m σ s) (hN:∀ a,N a->Np a) (hO:∀ a,Own env a->N a) (hPN:∀ a,P a->N a):Mine.St S tb env N P b m σ s:=by
 have hD:∀ b,DN N σ b->DN Np σ b\/s.heap.get? b=Option.none:=fun b q=>.inl (q.imp id (hN b))
 refine ⟨⟨hs.inv.keep,hs.inv.gens,hs.inv.drawn,hs.inv.os,hs.inv.σg,fun a d q=>hs.inv.σN a d (hN a q),fun a q=>hs.inv.Nin a (hN a q),fun a o e=>(hs.inv.rep a o e).ext (Ext.refl _ _) hD fun zz q=>q⟩,?_,hs.frm,hPN,hs.new,hO,hs.gb⟩
 have ow:=hs.loc
 obtain ⟨_,_,_,_,ow,_⟩:=ow
 exact hs.loc.map (fun a o zz e=>e) (fun a q=>(ow a q).1) fun r=>r.ext (Ext.refl _ _) hD
theorem St.take {o:AObj} (hs:Mine.St S tb env (fun a=>N a\/a=D) P b m σ s) (hO:∀ a,Own env a->N a) (hPN:∀ a,P a->N a) (nD:¬ N D) (bD:b.2.heap.get? D=Option.none) (r:RepO S.cv s.heap (DN (fun a=>N a\/a=D) σ) o D):Mine.St S tb env N P b m (σ.set D o) s:=by
 have hD:∀ b,DN N (σ.set D o) b->DN (fun a=>N a\/a=D) σ b\/s.heap.get? b=Option.none:=fun b q=>.inl (q.elim (fun q=>(AJ q).elim (fun q=>.inr (.inr q)) .inl) fun q=>.inr (.inl q))
 refine ⟨⟨hs.inv.keep,hs.inv.gens,hs.inv.drawn,hs.inv.os,fun a d=>(AJ d).elim (fun (q:a=D)=>by rw [q];exact hs.gb D bD) (hs.inv.σg a),fun a d q=>(AJ d).elim (fun (z:a=D)=>nD (z▸q)) fun d=>hs.inv.σN a d (.inl q),fun a q=>hs.inv.Nin a (.inl q),fun a oa e=>?_⟩,?_,?_,hPN,hs.new,hO,hs.gb⟩
 ·by_cases z:a=D
  ·subst z;rw [Store.set_self] at e;cases e;exact r.ext (Ext.refl _ _) hD fun zz q=>q
  ·rw [Store.set_ne _ _ z] at e;exact (hs.inv.rep a oa e).ext (Ext.refl _ _) hD fun zz q=>q
 ·have ow:=hs.loc
  obtain ⟨_,_,_,_,ow,_⟩:=ow
  exact hs.loc.map (fun a o zz e=>e) (fun a q d=>(AJ d).elim (fun (z:a=D)=>nD (z▸hO a q)) (ow a q).1) fun r=>r.ext (Ext.refl _ _) hD
 ·have f:=hs.frm
  exact ⟨f.ext,f.frm,fun a d=>(AJ d).elim (fun (z:a=D)=>.inr (by rw [z];exact bD)) (f.dom a),f.there⟩
end
section
variable {F:Fx S}{m:Vars}{σ:Store}{s:Shared}{X:Value->Shared->Prop}{Q:AV->Store->Prop}
noncomputable def Fx.with (F:Fx S) (D:Addr):Fx S:=⟨F.A,F.tb,F.env,F.b,fun a=>F.N a\/a=D,F.k,F.room.wide (fun zz q=>.inl q),F.fk,F.fg,F.fb,F.fc⟩
noncomputable def Like (F F':Fx S):Prop:=F'.A=F.A/\F'.tb=F.tb/\F'.env=F.env/\F'.k=F.k
noncomputable def D1 (F:Fx S) (m:Vars) (X:Value->Shared->Prop) (Q:List (AV×AV)->Store->Prop):List E->List E->List (AV×AV)->Store->Prop
 | [],[],r,σ=>Q r σ
 | k::ks,v::vs,r,σ=>ET F m σ k (fun a σ₁=>ET F m σ₁ v (fun b σ₂=>D1 F m X Q ks vs (r++[(a,b)]) σ₂) X) X
 | _,_,_,_=>False
class inductive RepP (cv:Nat->Value) (h:Heap) (D:Addr->Prop):List (AV×AV)->List (Value×Value)->Prop
 | nil:RepP cv h D [] []
 | cons {a b:AV}{u v:Value}{l:List (AV×AV)}{vs:List (Value×Value)}:Rep cv h D a u->Rep cv h D b v->RepP cv h D l vs->RepP cv h D ((a,b)::l) ((u,v)::vs)
theorem RepP.step {cv:Nat->Value}{P O N:Addr->Prop}{σ σ':Store}{s s':Shared} (x:Step P O σ s σ' s') (hO:∀ a,O a->N a) (hP:∀ a,P a->N a) {l:List (AV×AV)}{vs:List (Value×Value)} (r:RepP cv s.heap (DN N σ) l vs):RepP cv s'.heap (DN N σ') l vs:=by
 induction r with
 | nil=>exact .nil
 | cons r1 r2 _ ih=>exact .cons (r1.step x hO hP) (r2.step x hO hP) ih
theorem RepP.app {cv:Nat->Value}{h:Heap}{D:Addr->Prop}{l l':List (AV×AV)}{vs vs':List (Value×Value)} (r:RepP cv h D l vs) (r':RepP cv h D l' vs'):RepP cv h D (l++l') (vs++vs'):=by
 induction r with
 | nil=>exact r'
 | cons r1 r2 _ ih=>exact .cons r1 r2 ih
theorem HB {pos:Pos}{Q:List (AV×AV)->Store->Prop}{ks:List E}:∀ {vs:List E}{pks:List (Option PySem.Expr)}{pvs:List PySem.Expr}{r:List (AV×AV)}{σ:Store}{s:Shared}{ru:List (Value×Value)}{Q':List (Value×Value)->Shared->Prop},CKs F.tb F.sc pks ks->CEs F.tb F.sc pvs vs->D1 F m X Q ks vs r σ->F.St m σ s->RepP S.cv s.heap (F.D σ) r ru ->
  (∀ us r' σ' s',Step F.P F.O σ s σ' s'->F.St m σ' s'->RepP S.cv s'.heap (F.D σ') r' (ru++us)->Q r' σ'->Q' us s')->wpAny (model prog w) F.A (evalPairs (pairTrees pks pvs F.env pos)) Q' X s:=by
 induction ks with
 | nil =>
  intro vs pks pvs r σ s ru Q' hk hv h hs rr hQ
  cases vs with
  | cons v vs=>exact h.elim
  | nil =>
   obtain rfl:=hk.inv
   obtain rfl:=hv.inv_nil
   exact pairTrees_nil_walk (hQ [] r σ s (Step.refl _ _ _ _) hs (by rw [List.append_nil];exact rr) h)
 | cons k ks ih =>
  intro vs pks pvs r σ s ru Q' hk hv h hs rr hQ
  cases vs with
  | nil=>exact h.elim
  | cons v vs =>
   obtain ⟨pk,pks,rfl,hk,hks⟩:=hk.inv
   obtain ⟨pv,pvs,rfl,hn,hv,hvs⟩:=hv.inv
   refine pairTrees_cons_walk ((h _ hk s hs).out ?_)
   rintro uk σ₁ s₁ st₁ h₁ ⟨a,ra,AA⟩
   refine (AA _ hv s₁ h₁).out ?_
   rintro uv σ₂ s₂ st₂ h₂ ⟨b,rb,AW⟩
   have rr2:=((rr.step st₁ h₁.own h₁.pN).step st₂ h₂.own h₂.pN).app (.cons (ra.st st₂ h₂) rb .nil)
   refine ih hks hvs AW h₂ rr2 fun us r' σ' s' st' h' rr' q=>hQ _ r' σ' s' ((st₁.trans st₂).trans st') h' ?_ q
   rw [List.append_assoc] at rr';exact rr'
noncomputable def mkD:List (AV×AV)->List (Ab×AV)->Option (List (Ab×AV))
 | [],l=>some l
 | p::r,l=>(spot? p.1).bind fun k=>mkD r (Bj l k p.2)
theorem mkD_cons {a b:AV}{r:List (AV×AV)}{l l':List (Ab×AV)} (h:mkD ((a,b)::r) l=some l'):∃ k:Ab,a=sp k/\mkD r (Bj l k b)=some l':=by
 refine X1pp (Aw (show (spot? a).bind (fun k=>mkD r (Bj l k b))=some l' from h)) fun k h1 h2=>?_
 exact ⟨k,spot?_out h1,h2⟩
theorem Ip {F:Fx S}{D:Addr}{Q':PUnit->Shared->Prop} (hDN:F.N D) (nO:¬ F.O D) (bD:F.b.2.heap.get? D=Option.none) (sm:(D == sysModules)=false):∀ {r:List (AV×AV)}{us:List (Value×Value)}{l l':List (Ab×AV)}{es:List DictEntry}{n:Nat}{s:Shared},mkD r l=some l'->l.length+r.length<=big->F.St m σ s->RepP S.cv s.heap (F.D σ) r us ->
  s.heap.get? D=some (AP es.toArray n)->(l.map (·.1)).Nodup->RepD S.cv s.heap (F.D σ) l es ->
  (∀ s' es' n',F.St m σ s'->Step F.P (·=D) σ s σ s'->s'.heap.get? D=some (AP (List.toArray es') n')->(l'.map (·.1)).Nodup->RepD S.cv s'.heap (F.D σ) l' es'->Q' PUnit.unit s')->wpAny (model prog w) F.A (storeAll D us) Q' X s:=by
 intro r
 induction r with
 | nil =>
  intro us l l' es n s hm hz hs rr g nd rd hQ
  cases rr;cases hm
  exact wpAny_pure (hQ s es n hs (Step.refl _ _ _ _) g nd rd)
 | cons p r ih =>
  intro us l l' es n s hm hz hs rr g nd rd hQ
  cases rr with
  | @cons a bb u v _ vs r1 r2 rs =>
   refine X1pp (mkD_cons hm) fun kk he131_1 hm=>?_
   subst he131_1
   ·refine X4ppp (Rep.spot (k:=kk) r1) fun t tx ty n1 he132_4 e d=>?_
    subst he132_4
    obtain ⟨xs,hx,rfl⟩:=RepD.xs (prog:=prog) (w:=w) rd
    have hlen:xs.length=l.length:=by have:=rd.length;simpa using this
    show wpAny _ _ (forIn _ _ _) _ _ _
    rw [List.forIn_cons]
    refine wpAny_bind (wpAny_bind (wpAny_dictSet_heap (room_0 F) (HP e) (HX hx nd g) (fun h' hmm sb=>?_) (by rw [hlen];exact A7 (by exact lin [(l.length),(((sp kk,bb)::r).length),(big)] [] (.nle 1 V0 V2) [.nle 1 (.add V0 V1) V2] rfl hz))))
    refine X1p (CF hmm) fun n2 e2=>?_
    obtain ⟨h2,st2⟩:=(hs.tok (s.toks+(tupleKind (intKind prog w)).draws (key kk))).turnN (h':=h') hDN nO bD sb.extBut ⟨_,e2,fun vs z=>by cases z⟩
    have st2':Step F.P (·=D) σ s σ { s with heap:=h',toks:=s.toks+(tupleKind (intKind prog w)).draws (key kk) }:=⟨st2.ext,st2.frm,st2.dom,st2.there⟩
    have hO:∀ a,a=D->F.N a:=fun a q=>q▸hDN
    have xs':XsOf S.cv s.heap (F.D σ) (Bj l kk bb) (storedH xs (key kk) t v):=by
     unfold Bj storedH
     rw [DZ hx kk]
     split
     ·exact hx.put r2
     ·exact hx.snoc e d r2
    have hd:(Bj l kk bb).length<=l.length+1:=by unfold Bj;split<;>simp
    refine wpAny_pure (ih hm (by have hz':l.length+(r.length+1)<=big:=hz;have hd':(Bj l kk bb).length<=l.length+1:=hd;exact Nat.le_trans (Nat.add_le_add_right hd' _) (by exact lin [(l.length),(r.length),(big)] [] (.nle 1 (.add (.add V0 K1) V1) V2) [.nle 1 (.add V0 (.add V1 K1)) V2] rfl hz')) h2 (rs.step st2' hO hs.pN) e2 (DQ _ _ nd) (xs'.repD.step st2' hO hs.pN) fun s' es' n' h3 st3 g3 nd3 rd3=>?_)
    exact hQ s' es' n' h3 (st2'.trans st3) g3 nd3 rd3
theorem CKs.len {tb:List Nat}{sc:Nms}{pks:List (Option PySem.Expr)}{ks:List E} (h:CKs tb sc pks ks):pks.length=ks.length/\pks.all (·.isSome)=true:=by
 induction ks generalizing pks with
 | nil=>obtain rfl:=h.inv;exact ⟨rfl,rfl⟩
 | cons k ks ih=>refine X2ppp (h.inv) fun e r he155_2 zz q=>?_;subst he155_2;exact ⟨congrArg Nat.succ (ih q).1,(ih q).2⟩
theorem CEs.len {tb:List Nat}{sc:Nms}{pks:List PySem.Expr}{ks:List E} (h:CEs tb sc pks ks):pks.length=ks.length:=by
 induction ks generalizing pks with
 | nil=>obtain rfl:=h.inv_nil;rfl
 | cons k ks ih=>refine X2pppp (h.inv) fun e r he159_2 zz zz q=>?_;subst he159_2;exact congrArg Nat.succ (ih q)
theorem ET.dict0 (h:Fresh σ (.dict []) (.dict []) Q):ET F m σ (.dict [] []) Q X:=by
 intro pe hc s hs
 refine X3ppp (hc.inv) fun zz zz zz he164_3 hk hv=>?_
 subst he164_3
 cases hk;cases hv
 exact wpAny_Dict_empty (HR (tk:=s.toks) (es:=[]) (l:=[]) hs (Am _ _) (Ar _) (Heap.get?_push_size _ rfl) .nil .nil h)
theorem ET.dict {k v:E}{ks vs:List E} (hlen:ks.length=vs.length) (h15:ks.length<15) (h:∀ F':Fx S,Like F F'->D1 F' m X (fun r σ'=>∃ l,mkD r []=some l/\r.length<=15/\Fresh σ' (.dict l) (.dict l) Q) (k::ks) (v::vs) [] σ):ET F m σ (.dict (k::ks) (v::vs)) Q X:=by
 intro pe hc s hs
 refine X3ppp (hc.inv) fun pks pvs p he170_3 hk hv=>?_
 subst he170_3
 refine Ad (hk.len) fun l1 l2=>?_
 have l3:=hv.len
 refine wpAny_Dict_any l2 (by rw [l1,l3];simp [hlen]) (by intro e;subst e;simp at l1) (by rw [l1];simp;exact lin [(ks.length)] [] (.nle 1 V0 K14) [.nlt 1 V0 K15] rfl h15) ?_
 have nD:s.heap.get? s.heap.objs.size=Option.none:=Ar _
 obtain ⟨h1,st1⟩:=St.apart (D:=s.heap.objs.size) (tk:=s.toks) hs (Am _ { cls:=.type "dict",data:=.dict #[] }) nD ⟨_,Heap.get?_push_size _ rfl,fun vs z=>by cases z⟩
 generalize hD:s.heap.objs.size=D at *
 have g1:(s.heap.push { cls:=.type "dict",data:=.dict #[] }).get? D=some (AP #[] 0):=by rw [<- hD];exact Heap.get?_push_size _ rfl
 have h1':(F.with D).St m σ { s with heap:=s.heap.push { cls:=.type "dict",data:=.dict #[] } }:=h1
 have nFN:¬ F.N D:=fun q=>by refine X1pp (hs.inv.Nin D q) fun o e nf=>?_;rw [nD] at e;cases e
 have nO:¬ F.O D:=fun q=>nFN (hs.own D q)
 have bD:F.b.2.heap.get? D=Option.none:=hs.frm.new nD
 refine HB (F:=F.with D) (ru:=[]) hk hv (h (F.with D) ⟨rfl,rfl,rfl,rfl⟩) h1' .nil ?_
 rintro us r' σ₂ s₂ st₂ h₂ rr ⟨l,hml,hr15,hfr⟩
 have gD:=st₂.ext.obj D _ g1 (fun d=>d.elim (fun d=>h1'.inv.σN D d (.inr rfl)) fun d=>d.elim nO fun d=>nFN (hs.pN D d))
 refine Ip (F:=F.with D) (σ:=σ₂) (es:=[]) (l:=[]) (.inr rfl) nO bD (hs.inv.not_sm nD) hml (by simp;exact Nat.le_trans hr15 (by decide)) h₂ (by simpa using rr) gD .nil .nil ?_
 intro s' es' n' h3 st3 g3 nd3 rd3
 have stF:Step F.P F.O σ s σ₂ s':=by
  have z:=(st1.any (O:=F.O)).trans st₂
  have nD':∀ {a o},s.heap.get? a=some o->¬ a=D:=fun e q=>by rw [q,nD] at e;cases e
  exact ⟨⟨fun a o e d=>st3.ext.obj a o (z.ext.obj a o e d) fun q=>q.elim (z.ndom e fun q=>d (.inl q)) fun q=>q.elim (nD' e) fun q=>d (.inr (.inr q))⟩,fun a o e n ho d=>by
   refine X1pppp (z.frm a o e n ho d) fun o' e' c' r1 r2=>?_
   refine X1pppp (st3.frm a o' e' n (nD' e) (z.ndom e d)) fun o'' e'' c'' r1' r2'=>?_
   exact ⟨o'',e'',c''.trans c',r1'.trans r1,r2'.trans r2⟩,z.dom,fun a o e=>by
   refine X1p (z.there a o e) fun o' e'=>?_
   exact st3.there a o' e'⟩
 have nDσ:¬ Dom σ₂ D:=fun d=>h3.inv.σN D d (.inr rfl)
 rcases hfr with q | ⟨ii,q⟩
 ·have h4:F.St m σ₂ s':=St.open_ (N:=F.N) h3 (fun a q=>.inl q) hs.own hs.pN
  exact ⟨σ₂,stF,h4,_,.dict g3 (fun d=>d.elim nDσ nFN) (hs.inv.not_sm nD) nd3 (rd3.ext (Ext.refl _ _) fun b q=>.inl (q.imp id .inl)),q⟩
 ·have h4:F.St m (σ₂.set D (.dict l)) s':=St.take h3 hs.own hs.pN nFN bD (.dict g3 (hs.inv.not_sm nD) nd3 rd3)
  exact ⟨_,⟨stF.ext,stF.frm,fun a d=>(AJ d).elim (fun (z:a=D)=>.inr (by rw [z];exact nD)) (stF.dom a),stF.there⟩,h4,_,.loc D ii,q D nDσ⟩
end
end Mine
end
section
namespace Mine
open PySem PyProof.Rows PySem.W
variable {prog:Program}{w:World}{S:Sta prog w}
section
variable {F:Fx S}{m:Vars}{σ:Store}{s:Shared}{X:Value->Shared->Prop}{Q:AV->Store->Prop}
theorem Ff {h:Heap}{D:Addr->Prop}{cv:Nat->Value}{bs:List Bool}{vs:List Value}{i:Nat}{v:Value} (r:RepL cv h D (bs.map .bool) vs) (e:vs[i]?=some v):∃ b,bs[i]?=some b/\v=.bool b:=by
 induction bs generalizing vs i with
 | nil=>rw [show vs=[] from r.inv] at e;exact (Ae List.getElem?_nil e).elim
 | cons b bs ih =>
  obtain ⟨u,us,rfl,a,r⟩:=r.inv
  cases i with
  | zero=>exact ⟨b,rfl,(Option.some.inj e).symm.trans a.inv⟩
  | succ i=>exact ih (vs:=us) (i:=i) r e
theorem II (bs:List Bool):(List.range bs.length).all (fun i=>bs.getD i true)=bs.all id:=by
 have:(List.range bs.length).map (fun i=>bs.getD i true)=bs:=by
  apply List.ext_getElem?
  intro i
  by_cases h:i<bs.length
  ·simp [h]
  ·simp [h]
 have h:=List.all_map (f:=fun i=>bs.getD i true) (p:=id) (l:=List.range bs.length)
 rw [this] at h
 exact h.symm
theorem IH (bs:List Bool):(List.range bs.length).any (fun i=>bs.getD i true)=bs.any id:=by
 have:(List.range bs.length).map (fun i=>bs.getD i true)=bs:=by
  apply List.ext_getElem?
  intro i
  by_cases h:i<bs.length
  ·simp [h]
  ·simp [h]
 have h:=List.any_map (f:=fun i=>bs.getD i true) (p:=id) (l:=List.range bs.length)
 rw [this] at h
 exact h.symm
theorem CT.all (hq:S.hx=Option.none) {a:AV}{bs:List Bool} (ha:dl σ a=some (bs.map .bool)) (h:Q (.bool (bs.all id)) σ):CT F m σ (.builtin "all") [a] Q X:=by
 intro vals s hs r
 refine X1pp (r.one) fun v he42_1 ra=>?_
 subst he42_1
 refine X3ppp (ra.lst hs.inv ha) fun ad vs n he43_3 e rl=>?_
 subst he43_3
 have hL:s.heap.IsList ad vs.toArray:=⟨_,e,rfl,n,rfl⟩
 have hne:ad≠s.heap.objs.size:=Nat.ne_of_lt (Heap.lt_size e)
 have hlen:vs.toArray.size=bs.length:=by have:=rl.length;simpa using this
 refine call_all_walk (wpAny_pyIter_list hL ⟨_,_,_,_,_,_,fun i=>bs.getD i true,rfl,Walks.list (A:=F.A.in1) (F.room.quiet hq) s.heap.objs.size ad hne vs.toArray,⟨⟨_,Heap.get?_push_size _ rfl,rfl,rfl⟩,⟨_,Heap.get?_push_of_some _ e,rfl,n,rfl⟩⟩,?_,fun h' tk k=>?_⟩)
 ·intro i v s' Q' E' hP hq
  refine X1pp (Ff rl (i:=i) (by simpa using hP)) fun b hb he49_2=>?_
  subst he49_2
  refine wpAny_truthy_bool ?_
  have:bs.getD i true=b:=by simp [List.getD,hb]
  simp only [this] at hq;exact hq
 ·refine Ad (hs.grow (h':=h') (fun b o eb=>k b o (by simp;exact Nat.ne_of_lt (Heap.lt_size eb)) (Heap.get?_push_of_some _ eb)) tk) fun h1 st=>?_
  rw [hlen,II]
  exact ⟨σ,st.any,h1,_,.bool _,h⟩
theorem CT.any (hq:S.hx=Option.none) {a:AV}{bs:List Bool} (ha:dl σ a=some (bs.map .bool)) (h:Q (.bool (bs.any id)) σ):CT F m σ (.builtin "any") [a] Q X:=by
 intro vals s hs r
 refine X1pp (r.one) fun v he58_1 ra=>?_
 subst he58_1
 refine X3ppp (ra.lst hs.inv ha) fun ad vs n he59_3 e rl=>?_
 subst he59_3
 have hL:s.heap.IsList ad vs.toArray:=⟨_,e,rfl,n,rfl⟩
 have hne:ad≠s.heap.objs.size:=Nat.ne_of_lt (Heap.lt_size e)
 have hlen:vs.toArray.size=bs.length:=by have:=rl.length;simpa using this
 refine call_any_walk (wpAny_pyIter_list hL ⟨_,_,_,_,_,_,fun i=>bs.getD i true,rfl,Walks.list (A:=F.A.in1) (F.room.quiet hq) s.heap.objs.size ad hne vs.toArray,⟨⟨_,Heap.get?_push_size _ rfl,rfl,rfl⟩,⟨_,Heap.get?_push_of_some _ e,rfl,n,rfl⟩⟩,?_,fun h' tk k=>?_⟩)
 ·intro i v s' Q' E' hP hq
  refine X1pp (Ff rl (i:=i) (by simpa using hP)) fun b hb he65_2=>?_
  subst he65_2
  refine wpAny_truthy_bool ?_
  have:bs.getD i true=b:=by simp [List.getD,hb]
  simp only [this] at hq;exact hq
 ·refine Ad (hs.grow (h':=h') (fun b o eb=>k b o (by simp;exact Nat.ne_of_lt (Heap.lt_size eb)) (Heap.get?_push_of_some _ eb)) tk) fun h1 st=>?_
  rw [hlen,IH]
  exact ⟨σ,st.any,h1,_,.bool _,h⟩
theorem strsAre {h:Heap}{D:Addr->Prop}{cv:Nat->Value}{ys:List Str}{vs:List Value} (r:RepL cv h D (ys.map .str) vs):StrsAre vs ys:=by
 induction ys generalizing vs with
 | nil=>rw [show vs=[] from r.inv];exact .nil
 | cons y ys ih =>
  refine X2ppp (r.inv) fun u us he77_2 a rr=>?_
  subst he77_2
  refine X1p (a.inv) fun t he78_1=>?_
  subst he78_1
  exact .cons _ _ (ih rr)
theorem CT.join {x:Str}{a:AV}{ys:List Str} (ha:dl σ a=some (ys.map .str)) (hok:(ys.map (·.length)).sum+ys.length * x.length<=1000000) (h:Q (.str (Txt.join x ys)) σ):CT F m σ (.builtin "str.join") [.str x,a] Q X:=by
 intro vals s hs r
 refine X2ppp (r.two) fun v u he82_2 ra rb=>?_
 subst he82_2
 refine X1p (ra.inv) fun zz he83_1=>?_
 subst he83_1
 refine X3ppp (rb.lst hs.inv ha) fun ad vs n he84_3 e rl=>?_
 subst he84_3
 exact join_list ⟨_,e,rfl,n,rfl⟩ (by simpa using strsAre rl) (Nat.le_trans hok (by decide)) fun t' k=>DK _ hs (.str _ _) h
theorem Walks.heapDict {A:Around} (hh:A.handled=none) (I d:Addr) (hne:d≠I) (es:Array DictEntry) (ep:Nat) :
  Walks prog w A I [I,d] [I] es.size (fun i v=>∃ e,es[i]?=some e/\v=e.key) (fun i h=>h.IsKeyIter I d i es.size ep/\DictE h d es ep) where
 sub:=fun b hb=>by simp at hb;simp [hb]
 frame:=fun zz zz zz st hk=>⟨(let ⟨o,ho,r⟩:=st.1;⟨o,hk I (by simp) o ho,r⟩),hk d (by simp) _ st.2⟩
 item:=fun i s Q E hi st hQ=>by
  refine dictNext st.1 st.2 (e:=es[i]) (by simp [hi]) fun h' hit' hs'=>?_
  exact hQ _ h' s.toks ⟨_,by simp [hi],rfl⟩ ⟨hit',hs'.extBut d _ hne st.2⟩ fun b o hb e=>hs'.extBut b o (fun h=>hb (by simp [h])) e
 done:=fun s Q E st hQ=>dictEnd hh st.1 st.2 (Nat.le_refl _) fun h' he'=>hQ h' s.toks fun b o hb e=>he' b o (fun h=>hb (by simp [h])) e
 self:=fun zz zz zz zz st hQ=>wpAny_pyIter_keyiter st.1 hQ
theorem srcDict {d:Addr}{es:Array DictEntry}{ep:Nat} (lo:(d == sysModules)=false):KdlSrc prog w "dict" d d es.size (fun i v=>∃ e,es[i]?=some e/\v=e.key) (fun h=>DictE h d es ep) where
 type:=fun zz hm=>hm.typeIs
 there:=fun zz hm=>⟨Heap.lt_size hm,Heap.lt_size hm⟩
 keep:=fun zz zz hm hk=>hk d (.inl rfl) _ hm
 notList:=by decide
 notTuple:=by decide
 hint:=fun zz zz zz zz hm hq=>kdl_hint_dict hm.typeIs hq
 iter:=fun zz zz hh hm=>⟨_,_,(fun zz zz hq=>dictIter lo hm hq),Walks.heapDict hh _ d (Nat.ne_of_lt (Heap.lt_size hm)) es ep,⟨⟨_,Heap.get?_push_size _ rfl,rfl,rfl⟩,Heap.get?_push_of_some _ hm⟩⟩
theorem repKeys {h:Heap}{D:Addr->Prop}{cv:Nat->Value}{l:List (Ab×AV)}{es:List DictEntry} (r:RepD cv h D l es):RepL cv h D (l.map fun p=>sp p.1) (es.map (·.key)):=by
 induction l generalizing es with
 | nil=>rw [show es=[] from r.inv];exact .nil
 | cons p l ih=>refine X6ppppp (r.inv) fun t tx ty n v us he108_6 e d a b=>?_;subst he108_6;exact .cons (.tup (vs:=[_,_]) e d (.cons (.int _ _) (.cons (.int _ _) .nil))) (ih b)
theorem CT.listDict (hq:S.hx=Option.none) {a:AV}{l:List (Ab×AV)} (ha:dd σ a=some l) (hz:l.length<=big) (h:Fresh σ (.list (l.map fun p=>sp p.1)) (.list (l.map fun p=>sp p.1)) Q):CT F m σ (.type "list") [a] Q X:=by
 intro vals s hs r
 refine X1pp (r.one) fun v he111_1 ra=>?_
 subst he111_1
 refine X3pppp (ra.dctE hs ha) fun ad es n he112_3 e sm rd=>?_
 subst he112_3
 refine kdl_call (srcDict (ep:=n) sm) (F.room.quiet hq) e (by rw [List.size_toArray,rd.length];exact A7 hz) fun h' tk acc' c' k e' hi=>?_
 refine Ad (hi) fun h1 h2=>?_
 have:acc'=(es.map (·.key)).toArray:=by
  apply Array.ext
  ·simp [h1]
  ·intro i hi1 hi2
   refine X1pp (h2 i acc'[i] (by simp [hi1])) fun en he hv=>?_
   simp only [List.getElem_toArray,List.getElem_map]
   rw [hv]
   have:es[i]?=some en:=by simpa using he
   rw [List.getElem?_eq_getElem (by simpa using hi2)] at this
   rw [Option.some.inj this]
 rw [this] at e'
 exact A2 (tk:=tk) hs k (Ar _) e' (repKeys rd) h
end
end Mine
end
section
namespace Mine
open PySem PyProof.Rows PySem.W
variable {prog:Program}{w:World}{S:Sta prog w}
structure DA (S:Sta prog w) (C:Addr):Prop where
 cv:S.cv Bv=.ref C
 get:plainGet S.K C "texts"=true
 has:hasDictIn S.K C=true
 setattr:findIn S.K (.ref C) "__setattr__"=some (some (.builtin "object.__setattr__"))
 over:plainOver S.K C=true
 make:makesIn S.K C=true
structure Field (S:Sta prog w) (C:Addr) (nm:Str):Prop where
 find:findIn S.K (.ref C) nm=some Option.none
 take:takerIn S.K C nm=some Option.none
noncomputable def Jz (fs:List (Str×AV)) (nm:Str):Option AV:=(fs.find? fun p=>p.1 == nm).map (·.2)
noncomputable def H7:List (Str×AV)->Str->AV->List (Str×AV)
 | [],nm,x=>[(nm,x)]
 | p::r,nm,x=>if p.1 == nm then (p.1,x)::r else p::H7 r nm x
noncomputable def Dy (σ:Store):AV->Option (List (Str×AV))
 | .inst fs=>some fs
 | .loc a _=>(σ a).bind fun o=>o.inst?.bind fun dx=>(σ dx).bind AObj.attrs?
 | _=>Option.none
theorem DY {σ:Store}{a dx:Addr}{i:Nat}{fs:List (Str×AV)} (h1:σ a=some (.inst dx)) (h2:σ dx=some (.attrs fs)):Dy σ (.loc a i)=some fs:=by
 show (σ a).bind _=_
 rw [h1]
 show (σ dx).bind _=_
 rw [h2];rfl
theorem RepF.get {h:Heap}{D:Addr->Prop}{cv:Nat->Value}{nm:Str}{fs:List (Str×AV)}{es:List DictEntry} (r:RepF cv h D fs es):(∀ {x},Jz fs nm=some x->∃ v,getL nm es=some (some v)/\Rep cv h D x v)/\(Jz fs nm=Option.none->getL nm es=some Option.none):=by
 induction fs generalizing es with
 | nil=>rw [show es=[] from r.inv];exact ⟨fun h=>(Ae rfl h).elim,fun zz=>rfl⟩
 | cons p l ih =>
  obtain ⟨n,x⟩:=p
  obtain ⟨hsh,t,v,es,rfl,r,rs⟩:=r.inv
  have ih:=ih rs
  unfold Jz getL at ih ⊢
  by_cases q:(n == nm)=true
  ·have q':(Value.str n t).isStr nm=true:=q
   simp only [List.find?_cons,q,q',Option.map_some]
   exact ⟨fun h=>⟨v,rfl,Option.some.inj h▸r⟩,fun h=>(Ae h rfl).elim⟩
  ·have q1:(n == nm)=false:=by simpa using q
   have q':(Value.str n t).isStr nm=false:=q1
   have q2:DictEntry.refKey ⟨hsh,.str n t,v⟩=false:=rfl
   simp only [List.find?_cons,q1,q',List.any_cons,q2,Bool.false_or]
   exact ih
theorem RepF.put {h:Heap}{D:Addr->Prop}{cv:Nat->Value}{nm:Str}{x:AV}{v:Value}{hsh:Int}{t:Tok} (rx:Rep cv h D x v) {fs:List (Str×AV)}{es:List DictEntry} (r:RepF cv h D fs es):RepF cv h D (H7 fs nm x) (putL nm hsh (.str nm t) v es):=by
 induction fs generalizing es with
 | nil=>rw [show es=[] from r.inv];exact .cons rx .nil
 | cons p l ih =>
  obtain ⟨n,y⟩:=p
  obtain ⟨hsh',t',v',es,rfl,r,rs⟩:=r.inv
  unfold H7 putL
  by_cases q:(n == nm)=true
  ·have q':(Value.str n t').isStr nm=true:=q
   simp only [q,q',if_true]
   exact .cons rx rs
  ·have q1:(n == nm)=false:=by simpa using q
   have q':(Value.str n t').isStr nm=false:=q1
   simp only [q1,q',Bool.false_eq_true,if_false]
   exact .cons r (ih rs)
theorem RepF.length {h:Heap}{D:Addr->Prop}{cv:Nat->Value}{fs:List (Str×AV)}{es:List DictEntry} (r:RepF cv h D fs es):es.length=fs.length:=by
 induction fs generalizing es with
 | nil=>rw [show es=[] from r.inv];rfl
 | cons p l ih=>obtain ⟨a,b,c,d,rfl,_,r⟩:=r.inv;exact congrArg Nat.succ (ih r)
section
variable {F:Fx S}{m:Vars}{σ:Store}{s:Shared}{X:Value->Shared->Prop}{Q:AV->Store->Prop}{K:Fl->Vars->Store->Prop}{C:Addr}
theorem Rep.instAt {a:AV}{v:Value}{fs:List (Str×AV)} (hC:DA S C) (r:Rep S.cv s.heap (F.D σ) a v) (hs:F.St m σ s) (h:Dy σ a=some fs) :
  ∃ x dx es n,v=.ref x/\InstAt s.heap x (CA (.ref C) dx) C (some (dictOf es n))/\RepF S.cv s.heap (F.D σ) fs es:=by
 cases a with
 | inst fs' =>
  obtain ⟨x,dx,es,n,rfl,e,nf,f,d,d2,r⟩:=r.inv
  rw [hC.cv] at e
  exact ⟨_,_,_,_,rfl,⟨e,rfl,rfl,f⟩,Option.some.inj h▸r⟩
 | loc x ii =>
  refine X1pp (Aw (show (σ x).bind (fun o=>o.inst?.bind fun dx=>(σ dx).bind AObj.attrs?)=some fs from h)) fun o e h1=>?_
  refine X1pp (Aw h1) fun dx h2 h3=>?_
  refine X1pp (Aw h3) fun o' e' h4=>?_
  obtain rfl:=AObj.inst?_out h2
  obtain rfl:=AObj.attrs?_out h4
  refine Ad ((hs.inv.rep x _ e).inv) fun g zz=>?_
  refine X2pp ((hs.inv.rep dx _ e').inv) fun es n g' q=>?_
  rw [hC.cv] at g
  exact ⟨x,dx,es,n,r.inv,⟨g,rfl,rfl,g'⟩,q⟩
 | _=>exact (Ae rfl h).elim
noncomputable def noCls:AV->Bool
 | .cls _=>false
 | _=>true
theorem Rep.handed {a:AV}{v:Value}{cv:Nat->Value}{h:Heap}{D:Addr->Prop} (r:Rep cv h D a v) (hc:noCls a=true):handedIn v=true:=by
 induction r using Rep.casesOn<;>first | rfl | exact (Bool.false_ne_true hc).elim
theorem ET.attr {i n:Nat}{nm:Str}{a x:AV}{fs:List (Str×AV)} (hC:DA S C) (hf:Field S C nm) (hn:ixS AT nm=some n) (hm:m i=some a) (ha:Dy σ a=some fs) (hx:Jz fs nm=some x) (hc:noCls x=true) (h:Q x σ):ET F m σ (.attr (.v i) n) Q X:=by
 intro pe hcc s hs
 refine X4ppp (hcc.inv) fun y q at_ p he105_4 hy hk=>?_
 subst he105_4
 have:at_=nm:=Bo hk hn
 subst this
 refine Attribute_name (wpAny_Name (load_v hy hm hs fun v r=>?_) (AL hy.ok))
 refine X4ppp (r.instAt hC hs ha) fun ad dx es n' he109_4 I rf=>?_
 subst he109_4
 refine X1pp (rf.get.1 hx) fun u hu ru=>?_
 exact get_value (S.X.keeps hs.inv.keep) I (plainGet_of hC.get).1 (findObj_own hC.has hf.find rfl hu) (ru.handed hc) (DK _ hs ru h)
theorem setAttrT {ad dx:Addr}{nm:Str}{fs:List (Str×AV)}{x:AV}{vx:Value}{Q':Unit->Shared->Prop} (hC:DA S C) (hf:Field S C nm) (ho:σ ad=some (.inst dx)) (hd:σ dx=some (.attrs fs)) (hz:fs.length<=100) (hs:F.St m σ s) (rx:Rep S.cv s.heap (F.D σ) x vx)
  (h:∀ s',F.St m (σ.set dx (.attrs (H7 fs nm x))) s'->Step F.P F.O σ s (σ.set dx (.attrs (H7 fs nm x))) s'->Q' () s'):wpAny (model prog w) F.A (setAttr (.ref ad) nm vx) Q' X s:=by
 refine X4ppp ((Rep.loc (cv:=S.cv) (h:=s.heap) (D:=F.D σ) ad 0).instAt hC hs (fs:=fs) (DY ho hd)) fun x' dx' es n e1 I rf=>?_
 obtain rfl:=Value.ref.inj e1
 have hdx:dx'=dx:=by
  refine Ad ((hs.inv.rep ad _ ho).inv) fun g zz=>?_
  rw [hC.cv] at g;have:=I.at_;rw [g] at this;cases this;rfl
 subst hdx
 have D:s.heap.get? dx'=some (dictOf es n):=I.dict
 have da:Dom σ dx':=by unfold Dom;rw [hd];simp
 have KX:=S.X.keeps hs.inv.keep
 refine set_plain KX I hC.setattr ?_
 have I1:InstAt ({ s with toks:=s.toks+1 }:Shared).heap ad (CA (.ref C) dx') C (some (dictOf es n)):=I
 refine osa_open (s:={ s with toks:=s.toks+1 }) (K:=S.K) KX I1 hC.over hf.take fun b=>?_
 refine X1pp (any_some hC.has) fun cd hc hd'=>?_
 refine wpAny_bind (wpAny_pure (wpAny_bind (wpAny_bind (wpAny_loadPart I.at_ (wpAny_bind (Looks.here (s:={ s with toks:=s.toks+1 }) (looks_clsIn KX hc) ?_))))))
 rw [hd']
 refine wpAny_pure (a:=some dx') (wpAny_bind (wpAny_pure (wpAny_bind ?_)))
 unfold nsSet
 refine wpAny_bind (wpAny_bind (wpAny_askSetting (wpAny_pure (wpAny_bind (wpAny_mkText (wpAny_bind (wpAny_loadPart D ?_)))))))
 dsimp only
 have c:(!es.toArray.any (·.key.isStr nm) && es.toArray.any (·.refKey))=false:=by
  have:es.toArray.any (·.refKey)=false:=by
   rw [<- Array.any_toList]
   have gen:∀ {fs:List (Str×AV)}{es:List DictEntry},RepF S.cv s.heap (F.D σ) fs es->es.any (·.refKey)=false:=by
    intro fs
    induction fs with
    | nil=>intro es r;rw [show es=[] from r.inv];rfl
    | cons p fs ih=>intro es r;refine X4ppp (r.inv) fun zz zz zz zz he142_4 zz rs=>?_;subst he142_4;rw [List.any_cons,ih rs];rfl
   simpa using gen rf
  rw [this,Bool.and_false]
 rw [aRefKeyMayBeTheName_at,c]
 refine wpAny_updatePart D ?_
 have e0:∀ (hsh:Int) (key:Value),Obj.putName nm hsh key vx (dictOf es n)=dictOf (putL nm hsh key vx es) (putN nm es n):=fun hsh key=>putName_dict nm hsh key vx es n
 have D':∀ (hsh:Int) (key:Value),(s.heap.update dx' (Obj.putName nm hsh key vx)).get? dx'=some (dictOf (putL nm hsh key vx es) (putN nm es n)):=fun hsh key=>by
  have:=Heap.get?_update_self (Obj.putName nm hsh key vx) D (by rw [e0];rfl)
  rw [e0] at this;exact this
 have len:∀ (hsh:Int) (key:Value) (l:List DictEntry),(putL nm hsh key vx l).length<=l.length+1:=by
  intro hsh key l
  induction l with
  | nil=>simp [putL]
  | cons p r ih=>unfold putL;split<;>simp<;>exact ih
 refine wpAny_bind (wpAny_lookBehind (D' _ _) (pastItsLine_dict (by rw [List.size_toArray];refine Nat.le_succ_of_le (A7 (Nat.le_trans (len _ _ es) ?_));rw [rf.length];exact Nat.le_trans (Nat.succ_le_succ hz) (by decide))) ?_)
 have kp:∀ (hsh:Int) (key:Value),Heap.ExtBut dx' s.heap (s.heap.update dx' (Obj.putName nm hsh key vx)):=fun hsh key=>(Heap.SameBut.update ..).extBut
 have fin:∀ (hsh:Int) (t:Tok) (tk:Nat),Q' () { s with heap:=s.heap.update dx' (Obj.putName nm hsh (.str nm t) vx),toks:=tk }:=by
  intro hsh t tk
  have e1:Ext (F.D σ) s.heap (s.heap.update dx' (Obj.putName nm hsh (.str nm t) vx)):=Ext.of_but fun b o d e=>kp _ _ b o (fun q=>d (.inl (q▸da))) e
  obtain ⟨h1,st⟩:=hs.upd (h':=s.heap.update dx' (Obj.putName nm hsh (.str nm t) vx)) da (fun c o ne e=>kp _ _ c o ne e) tk (o:=.attrs (H7 fs nm x))
   (.attrs (D' _ _) ((rf.put rx).ext e1 fun b q=>.inl (q.imp (fun q=>(AJ q).elim (fun (q:b=dx')=>by rw [q];exact da) id) id)))
  exact h _ h1 st.any
 exact wpAny_pure (fin _ _ _)
set_option tactic.hygienic true in
theorem ST.setattr {o e:E}{n:Nat}{nm:Str} (hC:DA S C) (hf:Field S C nm) (hnn:ixS AT nm=some n) (hn:AC e=true)
  (h:ET F m σ e (fun x σ₁=>ET F m σ₁ o (fun a σ₂=>∃ ad ii dx fs,a=.loc ad ii/\σ₂ ad=some (.inst dx)/\σ₂ dx=some (.attrs fs)/\fs.length<=100/\K .next m (σ₂.set dx (.attrs (H7 fs nm x)))) X) X):ST F m σ (.setattr o n e) K X:=by
 intro ps hc s hs
 refine X5pppp (hc.inv) fun po a pe p q he169_5 ho hk he=>?_
 subst he169_5
 have:a=nm:=Bo hk hnn
 subst this
 refine plainObj_wpAny_Assign_Attribute ((h _ he s hs).out ?_) (BC he hn)
 rintro vx σ₁ s₁ st₁ h₁ ⟨x,rx,AA⟩
 refine (AA _ ho s₁ h₁).out ?_
 rintro va σ₂ s₂ st₂ h₂ ⟨a',ra,ad,ii,dx,fs,rfl,h3,h4,hz,hK⟩
 obtain rfl:=ra.inv
 refine setAttrT hC hf h3 h4 hz h₂ (rx.st st₂ h₂) fun s' h' st'=>?_
 exact ⟨.next,m,_,(st₁.trans st₂).trans st',h',trivial,hK⟩
theorem ET.method {o:E}{n:Nat}{nm:Str}{f:Addr}{args:List E} (hC:DA S C) (hn:ixS AT nm=some n) (hf:findIn S.K (.ref C) nm=some (some (.ref f))) (ht:isFn S.K (.ref f)=true) (hk:keepIn S.K (.ref f)=true)
  (h:ET F m σ o (fun a σ₁=>(∃ fs,Dy σ₁ a=some fs/\Jz fs nm=Option.none)/\ArgsT F m σ₁ args (fun avs σ₂=>CT F m σ₂ (.ref f) (a::avs) Q X) X) X):ET F m σ (.meth o n args) Q X:=by
 intro pe hc s hs
 obtain ⟨po,a,ap,pargs,p,rfl,hsup,hline,hlen,ho,hk',ha⟩:=hc.inv
 have:a=nm:=Bo hk' hn
 subst this
 have hbase:=J5 (nm:=a) (env:=F.env) (x:=eval po F.env) hsup
 have hfew:=G5 (pos:=p) ha hlen
 have hline':(ap.endLine == p.line)=true:=by simpa using hline
 show wpAny _ _ (eval (.Call (.Attribute po a ap) pargs [] p) F.env) _ _ _
 rw [arm_eval_Call,hbase]
 refine wpAny_bind ((h _ ho s hs).out ?_)
 rintro ov σ₁ s₁ st₁ h₁ ⟨av,ra,⟨fs,hfs,hno⟩,hargs⟩
 refine wpAny_bind (wpAny_standAt ?_)
 have hform:methodCallForm (pargs.length+([]:List Keyword).length) (backTo p (starEach pargs F.env)) (backToKw p (keywordEach [] F.env))=true:=hfew
 have hpos:methodCallPos true po F.env ap p=pure p:=by unfold methodCallPos;simp [hline']
 unfold methodCall
 rw [hform]
 refine X4ppp (ra.instAt hC h₁ hfs) fun x dx es n' he200_4 I rf=>?_
 subst he200_4
 refine wpAny_bind (wpAny_holding (method_fn (S.X.keeps h₁.inv.keep) I (plainGet_of hC.get).1 (plainGet_of hC.get).2 hf (beq_iff_eq.mp ht) (by show (lookIn a (dictOf es n')).map _=_;rw [lookIn_dict,rf.get.2 hno];rfl) ?_))
 refine wpAny_bind (wpAny_of_eq hpos ?_)
 cases ha with
 | nil =>
  refine DS (Callable.own hk) h₁ ?_
  exact (hargs [.ref x] s₁ h₁ (.cons ra .nil)).later st₁
 | cons hn1 he1 hr1 =>
  refine Cd (.cons hn1 he1 hr1) (Callable.own hk) hargs h₁ ?_
  intro vals avs σ₂ s₂ st₂ h₂ rl q
  exact (q (.ref x::vals) s₂ h₂ (.cons (ra.st st₂ h₂) rl)).later (st₁.trans st₂)
end
end Mine
end
section
namespace Mine
open PySem PyProof.Rows PySem.W
variable {prog:Program}{w:World}{S:Sta prog w}
section
variable {N:Addr->Prop}{σ σ':Store}{v:AV}
theorem View.same:View S N v σ v σ:=fun zz zz hi r=>⟨hi,Step.refl _ _ _ _,r⟩
inductive Froze (σ:Store):List Addr->AV->AV->Prop
 | same (v:AV):Froze σ [] v v
 | list {a:Addr}{ii:Nat}{l:List AV}:σ a=some (.list l)->Froze σ [a] (.loc a ii) (.list l)
 | dict {a:Addr}{ii:Nat}{l:List (Ab×AV)}:σ a=some (.dict l)->Froze σ [a] (.loc a ii) (.dict l)
class inductive FrozeF (σ:Store):List Addr->List (Str×AV)->List (Str×AV)->Prop
 | nil:FrozeF σ [] [] []
 | cons {as bs:List Addr}{n:Str}{v v':AV}{l l':List (Str×AV)}:Froze σ as v v'->FrozeF σ bs l l'->FrozeF σ (as++bs) ((n,v)::l) ((n,v')::l')
noncomputable def Store.dels (σ:Store) (as:List Addr):Store:=fun b=>if b∈as then Option.none else σ b
theorem B8 {as:List Addr}{b:Addr}{o:AObj} (h:(σ.dels as) b=some o):b∉as/\σ b=some o:=by
 unfold Store.dels at h
 by_cases q:b∈as
 ·rw [if_pos q] at h;cases h
 ·rw [if_neg q] at h;exact ⟨q,h⟩
theorem AM {as:List Addr}{a:Addr} (h:a∈as):¬ Dom (σ.dels as) a:=fun d=>d (if_pos h)
theorem Froze.rep {s:Shared}{as al:List Addr}{v v':AV}{u:Value} (f:Froze σ as v v') (hi:Inv S N σ s) (hal:∀ a∈as,a∈al) (st:Step noO noO σ s (σ.dels al) s) (r:Rep S.cv s.heap (DN N σ) v u):Rep S.cv s.heap (DN N (σ.dels al)) v' u:=by
 induction f with
 | same=>exact r.step st (fun zz h=>h.elim) (fun zz h=>h.elim)
 | @list a ii l h =>
  obtain rfl:=r.inv
  refine X2pp ((hi.rep a _ h).inv) fun vs n e r=>?_
  exact .list e (fun d=>d.elim (AM (hal a (.head _))) (hi.σN a (by unfold Dom;rw [h];simp))) (r.step st (fun zz h=>h.elim) (fun zz h=>h.elim))
 | @dict a ii l h =>
  obtain rfl:=r.inv
  refine X2pppp ((hi.rep a _ h).inv) fun vs n e sm nd r=>?_
  exact .dict e (fun d=>d.elim (AM (hal a (.head _))) (hi.σN a (by unfold Dom;rw [h];simp))) sm nd (r.step st (fun zz h=>h.elim) (fun zz h=>h.elim))
theorem FrozeF.rep {s:Shared}{al:List Addr} (hi:Inv S N σ s) (st:Step noO noO σ s (σ.dels al) s) {as:List Addr}{fs fs':List (Str×AV)}{es:List DictEntry} (f:FrozeF σ as fs fs') (hal:∀ a∈as,a∈al) (r:RepF S.cv s.heap (DN N σ) fs es):RepF S.cv s.heap (DN N (σ.dels al)) fs' es:=by
 induction f generalizing es with
 | nil=>rw [show es=[] from r.inv];exact .nil
 | cons f fr ih =>
  obtain ⟨_,_,_,_,rfl,r,rs⟩:=r.inv
  exact .cons (f.rep hi (fun a h=>hal a (List.mem_append.mpr (.inl h))) st r) (ih (fun a h=>hal a (List.mem_append.mpr (.inr h))) rs)
theorem View.inst {x dx:Addr}{ii:Nat}{fs fs':List (Str×AV)}{as:List Addr} (h:σ x=some (.inst dx)) (h':σ dx=some (.attrs fs)) (f:FrozeF σ as fs fs'):View S N (.loc x ii) σ (.inst fs') (σ.dels (x::dx::as)):=fun s u hi r=>by
 refine Ad (hi.drop (σ':=σ.dels (x::dx::as)) fun b o e=>(B8 e).2) fun i st=>?_
 refine ⟨i,st,?_⟩
 ··obtain rfl:=r.inv
   refine Ad ((hi.rep x _ h).inv) fun e nf=>?_
   refine X2pp ((hi.rep dx _ h').inv) fun es n e' r=>?_
   exact .inst e nf e' (fun d=>d.elim (AM (.head _)) (hi.σN x (by unfold Dom;rw [h];simp))) (fun d=>d.elim (AM (.tail _ (.head _))) (hi.σN dx (by unfold Dom;rw [h'];simp)))
    (FrozeF.rep hi st f (fun a q=>.tail _ (.tail _ q)) r)
end
section
variable {F:Fx S}{m:Vars}{σ:Store}{X:Value->Shared->Prop}{Q:AV->Store->Prop}{C:Addr}
theorem Room.in1 {N:Addr->Prop}{k:Nat}{A:Around} (h:Room S N (k+1) A):Room S N k A.in1:=⟨h.hh,h.fr,by have:=h.dp;show A.depth+2 * k<900;exact lin [(A.depth),k] [] (.nlt 1 (.add V0 (.mul 2 V1)) Kd) [.nlt 1 (.add V0 (.mul 2 (.add V1 K1))) Kd] rfl this,by have:=h.un;show A.units+1+20 * k<9000;exact lin [(A.units),k] [] (.nlt 1 (.add (.add V0 K1) (.mul 20 V1)) Bz) [.nlt 1 (.add V0 (.mul 20 (.add V1 K1))) Bz] rfl this⟩
theorem CT.make {k:Nat}{fI:Addr}{avs:List AV}{Y:KX} (hC:DA S C) (hi:findIn S.K (.ref C) "__init__"=some (some (.ref fI))) (hf:isFn S.K (.ref fI)=true) (hk:k+1<=F.k)
  (h:∀ x dx,¬ Dom σ x->¬ Dom σ dx->x≠dx->CallT S k (.ref fI) (.loc x 0::avs) ((σ.set dx (.attrs [])).set x (.inst dx)) (fun av σ₂=>av=.none/\∀ N,∃ v' σ₃,View S N (.loc x 0) σ₂ v' σ₃/\Q v' σ₃) Y):CT F m σ (.ref C) avs Q (XF F m Y):=by
 intro vals s hs rl
 refine wpAny_call ?_
 have e1:s=⟨s.heap,s.gens,s.drawn,s.toks,s.os⟩:=rfl
 rw [e1]
 refine make_core (makes_of (S.X.keeps hs.inv.keep) hC.make) (looks_findIn (S.X.keeps hs.inv.keep) hi) (fun self=>bind_fn (S.X.keeps hs.inv.keep) self (beq_iff_eq.mp hf)) (.inl rfl) ?_
 generalize hA:F.A.under (.builtin "type.__call__" ⟨.ref C::vals,[]⟩)=A'
 have fx:s.heap.get? s.heap.objs.size=Option.none:=Ar _
 have fy:s.heap.get? (s.heap.objs.size+1)=Option.none:=by
  cases q:s.heap.get? (s.heap.objs.size+1) with
  | none=>rfl
  | some o=>exact absurd (Heap.lt_size q) (Nat.not_lt.mpr (Nat.le_succ _))
 have ne:s.heap.objs.size+1≠s.heap.objs.size:=Nat.succ_ne_self _
 have g1:(s.heap.push emptyDict).get? s.heap.objs.size=some (AP #[] 0):=Heap.get?_push_size _ rfl
 refine Ad (hs.inv.new (h':=s.heap.push emptyDict) (Am _ _) s.toks (a:=s.heap.objs.size) fx (o:=.attrs []) (.attrs (es:=[]) g1 .nil)) fun i1 st1=>?_
 have fz:(s.heap.push emptyDict).get? (s.heap.objs.size+1)=Option.none:=by
  have:=Ar (s.heap.push emptyDict)
  rw [Heap.size_push] at this;exact this
 have g2:((s.heap.push emptyDict).push (instObj C s.heap.objs.size)).get? (s.heap.objs.size+1)=some (CA (S.cv Bv) s.heap.objs.size):=by
  rw [hC.cv]
  have:=Heap.get?_push_size (s.heap.push emptyDict) (o:=instObj C s.heap.objs.size) rfl
  rw [Heap.size_push] at this;exact this
 refine Ad (i1.new (h':=(s.heap.push emptyDict).push (instObj C s.heap.objs.size)) (Am _ _) s.toks (a:=s.heap.objs.size+1) fz (o:=.inst s.heap.objs.size) (.inst g2 ⟨C,hC.cv⟩)) fun i2 st2=>?_
 have st:=st1.trans st2
 have eF:A'.frames=F.A.frames:=by rw [<- hA];rfl
 have eP:∀ a,Frm A' a->F.P a:=fun a ⟨l,h1,h2⟩=>⟨l,eF▸h1,h2⟩
 have room:Room S F.N k A':=by
  rw [<- hA]
  have h1:(F.A.under (.builtin "type.__call__" ⟨.ref C::vals,[]⟩)).handled=F.A.handled:=rfl
  have h2:(F.A.under (.builtin "type.__call__" ⟨.ref C::vals,[]⟩)).depth=F.A.depth+1:=rfl
  have h3:(F.A.under (.builtin "type.__call__" ⟨.ref C::vals,[]⟩)).units=F.A.units+1:=rfl
  exact ⟨h1.trans F.room.hh,F.room.fr,by rw [h2];have:=F.room.dp;exact lin [k,(F.k),(F.A.depth)] [] (.nlt 1 (.add (.add V2 K1) (.mul 2 V0)) Kd) [.nle 2 (.add V0 K1) V1,.nlt 1 (.add V2 (.mul 2 V1)) Kd] rfl hk this,by rw [h3];have:=F.room.un;exact lin [k,(F.k),(F.A.units)] [] (.nlt 1 (.add (.add V2 K1) (.mul 20 V0)) Bz) [.nle 20 (.add V0 K1) V1,.nlt 1 (.add V2 (.mul 20 V1)) Bz] rfl hk this⟩
 have hc:=h (s.heap.objs.size+1) s.heap.objs.size (hs.inv.not_dom fy) (hs.inv.not_dom fx) ne F.N A' (.ref (s.heap.objs.size+1)::vals) _ room i2 (.cons (.loc _ _) (rl.step st (fun zz h=>h.elim) (fun zz h=>h.elim)))
 refine codeAny_mono hc fun r s' z=>?_
 cases r with
 | error e =>
  exact z
 | ok fl =>
  cases fl with
  | ret v =>
   obtain ⟨av,σ₂,st3,i3,r3,rfl,hq⟩:=z
   obtain rfl:=r3.inv
   refine X2pp (hq F.N) fun v' σ₃ hv hQ=>?_
   refine AU (hv s' (.ref (s.heap.objs.size+1)) i3 (.loc _ _)) fun i4 st4 r4=>?_
   have stt:Step F.P noO σ s σ₃ s':=((st.any (P:=F.P) (O:=noO)).trans (st3.wide eP)).trans st4.any
   refine ⟨rfl,σ₃,stt.mono (fun zz h=>h.elim),hs.to stt i4 (fun zz h=>h),v',r4,hQ⟩
  | _=>exact z.elim
end
end Mine
end
section
namespace Mine
open PySem PyProof.Rows PySem.W PySem.Calls PySem.Spec
variable {prog:Program}{w:World}{S:Sta prog w}
section
variable {F:Fx S}{m:Vars}{σ:Store}{X:Value->Shared->Prop}{Q:AV->Store->Prop}
end
end Mine
end
section
namespace Mine
open PySem PyProof.Rows PySem.W
variable {prog:Program}{w:World}{S:Sta prog w}
structure Wd where
 U:Nat->Bool
 C:Addr
 M:Nat->Option Addr
noncomputable def bvL:List Value:=[.builtin "len",.builtin "isinstance",.type "int",.type "bool",.type "tuple",.type "list",.type "str",.type "dict",.type "range",.type "enumerate",.builtin "sorted",.builtin "sum",.builtin "abs",.builtin "min",.builtin "max",.builtin "all",.builtin "any"]
noncomputable def bv (i:Nat):Value:=(bvL[i]?).getD (.builtin "any")
noncomputable def isBT:Value->Bool
 | .builtin _=>true
 | .type _=>true
 | _=>false
structure Good (S:Sta prog w) (W:Wd):Prop where
 glob:∀ i,W.U i=true->Glob S i (S.cv i)
 bu:∀ i,i<17->W.U i=true
 own:∀ i,W.U i=true->17<=i->i≠28->Callable S (S.cv i)
 base:∀ i,i<17->S.cv i=bv i
 six:∃ t,S.cv 28=.int 6 t
 floor:DA S W.C
 texts:Field S W.C "texts"
 cells:Field S W.C "own"
 meth:∀ n f,W.M n=some f->∃ nm,ixS AT nm=some n/\nm ≠ "texts"/\nm ≠ "own"/\findIn S.K (.ref W.C) nm=some (some (.ref f))/\isFn S.K (.ref f)=true/\keepIn S.K (.ref f)=true
section
variable {W:Wd}
theorem bv_able {i:Nat} (h:i<17):Callable S (bv i):=by
 have:∀ i,i<17->isBT (bv i)=true:=by decide
 have:=this i h
 revert this
 cases bv i<;>first | (intro _;exact Callable.builtin _) | (intro _;exact Callable.type _) | (intro h;cases h)
theorem JW (G:Good S W) {i:Nat} (hu:W.U i=true) (h28:i≠28):Callable S (S.cv i):=by
 by_cases h:i<17
 ·rw [G.base i h]
  exact bv_able h
 ·exact G.own i hu (Nat.not_lt.mp h) h28
noncomputable def tyCls:Nat->Option Ty
 | 2=>some .int
 | 3=>some .bool
 | 4=>some .tup
 | 5=>some .list
 | 6=>some .str
 | 7=>some .dict
 | _=>Option.none
theorem Gg {j:Nat}{u:Ty} (G:Good S W) (h2:tyCls j=some u):S.cv j=.type u.name/\u≠.none:=by
 match j,h2 with
 | 2,h2 | 3,h2 | 4,h2 | 5,h2 | 6,h2 | 7,h2=>rw [G.base _ (Nat.le_of_ble_eq_true rfl)];cases h2;exact ⟨rfl,nofun⟩
noncomputable def fld:Nat->Str
 | 11 => "texts"
 | _ => "own"
theorem Jx {n:Nat} (h:n=11\/n=12):ixS AT (fld n)=some n:=by
 rcases h with rfl | rfl<;>decide +kernel
theorem Good.field {S:Sta prog w} (G:Good S W) {n:Nat} (h:n=11\/n=12):Field S W.C (fld n):=by
 rcases h with rfl | rfl
 ·exact G.texts
 ·exact G.cells
theorem Jy {fs:List (Str×AV)}{nm:Str} (h:∀ p∈fs,p.1 = "texts"\/p.1 = "own") (h1:nm ≠ "texts") (h2:nm ≠ "own"):Jz fs nm=Option.none:=by
 unfold Jz
 rw [Option.map_eq_none_iff,List.find?_eq_none]
 intro p hp e
 have e:=eq_of_beq e
 rcases h p hp with q | q
 ·exact h1 (by rw [<- e,q])
 ·exact h2 (by rw [<- e,q])
end
section
variable {F:Fx S}{m:Vars}{σ:Store}{X:Value->Shared->Prop}{Q:AV->Store->Prop}
theorem KT.notInStr {x y:Str}{Q:Bool->Store->Prop} (h:Q (!Txt.contains x y) σ):KT F m σ .NotIn (.str y) (.str x) Q X:=by
 intro va vb s hs ra rb
 refine X1p (ra.inv) fun zz he94_1=>?_
 subst he94_1
 refine X1p (rb.inv) fun zz he95_1=>?_
 subst he95_1
 exact SB.notContains ⟨σ,Step.refl _ _ _ _,hs,_,rfl,h⟩
theorem CT.clear {ad:Addr}{ii:Nat}{l:List AV} (ho:σ ad=some (.list l)) (hz:l.length<=big) (h:Q .none (σ.set ad (.list []))):CT F m σ (.builtin "list.clear") [.loc ad ii] Q X:=by
 intro vals s hs r
 refine X1pp (r.one) fun v he99_1 ra=>?_
 subst he99_1
 refine X3ppp (ra.lst hs.inv (Bw ho)) fun ad' vs n he100_3 e rl=>?_
 subst he100_3
 obtain rfl:=(Value.ref.inj ra.inv).symm
 refine call_meets PySem.F.slot_list_clear ⟨_,e,rfl⟩ PySem.F.entry_list_clear (PySem.F.args_list_clear_1 _) (PySem.AutoSeq1.list_clear_list_0 ad vs.toArray n (by rw [List.size_toArray,rl.length];exact A7 hz)) ⟨e,?_⟩
 have ms:Obj.mapSeq (fun zz=>#[]) (Ax vs.toArray n)=Ax ([]:List Value).toArray (if ((#[]:Array Value).size == vs.toArray.size) then n else n+1):=by
  simp only [Obj.mapSeq]
 have e':=Heap.get?_update_self (Obj.mapSeq fun zz=>#[]) e (by rw [ms];rfl)
 rw [ms] at e'
 refine Ad (D4 (s':=s) (vs:=[]) hs ho (Heap.SameBut.update ..).extBut e' .nil) fun h1 st=>?_
 exact ⟨_,st,h1,_,.none,h⟩
theorem B3 {i:Int} (h:i.natAbs<=2000000):InLong i :=
 ⟨Int.le_trans (by decide:-(2 ^ 63:Int)<=-2000000) (Int.neg_le_of_neg_le (Int.le_trans (Int.le_natAbs (a:=-i)) (by rw [Int.natAbs_neg];exact Int.ofNat_le.mpr h))),Int.lt_of_le_of_lt (Int.le_trans Int.le_natAbs (Int.ofNat_le.mpr h)) (by decide:(2000000:Int)<2 ^ 63)⟩
theorem CT.sum2 (hq:S.hx=Option.none) {x y:Int} (hx:x.natAbs<=1000000) (hy:y.natAbs<=1000000) (h:Q (.int (x+y)) σ):CT F m σ (.builtin "sum") [.tup [.int x,.int y]] Q X:=by
 intro vals s hs r
 refine X1pp (r.one) fun v he113_1 ra=>?_
 subst he113_1
 refine X4ppp (Rep.spot (k:=(x,y)) ra) fun t tx ty n he114_4 e d=>?_
 subst he114_4
 have hT:s.heap.IsTuple t #[.int x tx,.int y ty]:=⟨_,e,rfl,n,rfl⟩
 have hne:t≠s.heap.objs.size:=Nat.ne_of_lt (Heap.lt_size e)
 refine call_sum_walk (wpAny_pyIter_tuple hT ⟨_,_,_,_,_,_,fun i=>if i=0 then x else y,rfl,Walks.tuple (A:=F.A.in1) (F.room.quiet hq) s.heap.objs.size t hne #[.int x tx,.int y ty],⟨⟨_,Heap.get?_push_size _ rfl,rfl,rfl⟩,hT.push _⟩,?_,?_,?_,fun h' tk t' k=>?_⟩)
 ·intro b hb
  rw [Heap.size_push]
  cases hb with
  | head=>exact Nat.lt_succ_self _
  | tail _ hb =>
   rw [List.mem_singleton.mp hb]
   exact Nat.lt_succ_of_lt (Heap.lt_size e)
 ·intro i v hv
  match i,hv with
  | 0,hv=>exact ⟨tx,(Option.some.inj hv).symm⟩
  | 1,hv=>exact ⟨ty,(Option.some.inj hv).symm⟩
  | i+2,hv=>cases hv
 ·intro j hj
  match j,hj with
  | 0,_=>exact ⟨B3 (Nat.le_trans hx (by decide)),by show InLong (0+x);rw [Int.zero_add];exact B3 (Nat.le_trans hx (by decide))⟩
  | 1,_=>exact ⟨B3 (Nat.le_trans hy (by decide)),by show InLong (0+x+y);rw [Int.zero_add];exact B3 (Nat.le_trans (Int.natAbs_add_le x y) (Nat.add_le_add hx hy))⟩
  | j+2,hj=>exact (Nat.not_lt_zero j (Nat.lt_of_succ_lt_succ (Nat.lt_of_succ_lt_succ hj))).elim
 ·refine Ad (hs.grow (h':=h') (fun b o eb=>k b o (by simp;exact Nat.ne_of_lt (Heap.lt_size eb)) (Heap.get?_push_of_some _ eb)) tk) fun h1 st=>?_
  have e2:preSum (fun i=>if i=0 then x else y) 2=x+y:=by show 0+x+y=x+y;rw [Int.zero_add]
  exact ⟨σ,st.any,h1,_,e2▸.int _ _,h⟩
theorem HK:Meth "clear" (Ty.name .list) "list.clear":=⟨PySem.F.plainAttrs_list,PySem.F.slot_list_clear,PySem.F.type_list_clear⟩
theorem CT.min2' (hq:S.hx=Option.none) {a b:Int} (h:Q (.int (min a b)) σ):CT F m σ (.builtin "min") [.int a,.int b] Q X:=CT.min2 hq (by
 by_cases q:b<a
 ·rw [if_pos q,<- Int.min_eq_right (Int.le_of_lt q)];exact h
 ·rw [if_neg q,<- Int.min_eq_left (Int.not_lt.mp q)];exact h)
theorem CT.max2' (hq:S.hx=Option.none) {a b:Int} (h:Q (.int (max a b)) σ):CT F m σ (.builtin "max") [.int a,.int b] Q X:=CT.max2 hq (by
 by_cases q:b > a
 ·rw [if_pos q,<- Int.max_eq_right (Int.le_of_lt q)];exact h
 ·rw [if_neg q,<- Int.max_eq_left (Int.not_lt.mp q)];exact h)
end
theorem ET.monoX {F:Fx S}{m:Vars}{σ:Store}{X X':Value->Shared->Prop}{e:E}{Q:AV->Store->Prop} (h:ET F m σ e Q X) (k:∀ e s,X e s->X' e s):ET F m σ e Q X':=fun pe hc s hs=>wpAny_mono (h pe hc s hs) (fun zz zz q=>q) k
theorem TT.monoX {F:Fx S}{m:Vars}{σ:Store}{X X':Value->Shared->Prop}{e:E}{Q:Bool->Store->Prop} (h:TT F m σ e Q X) (k:∀ e s,X e s->X' e s):TT F m σ e Q X':=fun pe hc s hs=>wpAny_mono (h pe hc s hs) (fun zz zz q=>q) k
theorem SrcT.monoX {F:Fx S}{m:Vars}{σ:Store}{X X':Value->Shared->Prop}{p:Pat}{e:E}{G:List AV->(Store->Store->Prop)->Store->Prop} (h:SrcT F m σ p e G X) (k:∀ e s,X e s->X' e s):SrcT F m σ p e G X' :=
 fun pe t hc hp s hs=>wpAny_mono (h pe t hc hp s hs) (fun zz zz h₁=>wpAny_mono h₁ (fun zz zz q=>q) k) k
theorem ET.mu {F:Fx S}{m:Vars}{σ:Store}{X:Value->Shared->Prop}{e:E}{l:Nat}{Q:AV->Store->Prop} (h:ET F m σ e Q X):ET F m σ (.mu l e) Q X:=fun pe hc s hs=>h pe hc.inv s hs
theorem TT.mu {F:Fx S}{m:Vars}{σ:Store}{X:Value->Shared->Prop}{e:E}{l:Nat}{Q:Bool->Store->Prop} (h:TT F m σ e Q X):TT F m σ (.mu l e) Q X:=fun pe hc s hs=>h pe hc.inv s hs
end Mine
end
section
namespace Mine
open PySem PyProof.Rows PySem.W
variable {prog:Program}{w:World}{S:Sta prog w}
inductive Slot where
 | no
 | at (a:Addr) (o:AObj)
noncomputable abbrev LS:=List Slot
noncomputable def Ak:LS->Store
 | [],_=>Option.none
 | .no::r,b=>Ak r b
 | .at a o::r,b=>if b=a then some o else Ak r b
noncomputable def okS:LS->Prop
 | []=>True
 | .no::r=>okS r
 | .at a _::r=>Ak r a=Option.none/\okS r
noncomputable def slot (σ:LS) (i:Nat):Slot:=σ.getD i .no
theorem D7 {σ:LS}{i:Nat}{a:Addr}{o:AObj} (h:slot σ i=.at a o):.at a o∈σ/\i<σ.length:=by
 unfold slot at h
 by_cases q:i<σ.length
 ·rw [List.getD_eq_getElem?_getD,List.getElem?_eq_getElem q] at h
  exact ⟨h▸List.getElem_mem q,q⟩
 ·rw [List.getD_eq_getElem?_getD,List.getElem?_eq_none (Nat.not_lt.mp q)] at h;cases h
theorem EE:∀ {σ:LS}{b:Addr}{o:AObj},Ak σ b=some o->.at b o∈σ
 | [],_,_,h=>by cases h
 | .no::r,b,o,h=>.tail _ (EE (σ:=r) h)
 | .at c p::r,b,o,h=>by
  unfold Ak at h
  by_cases e:b=c
  ·rw [if_pos e] at h;cases h;rw [e];exact .head _
  ·rw [if_neg e] at h;exact .tail _ (EE h)
theorem DL:∀ {σ:LS}{b:Addr}{o:AObj},okS σ->.at b o∈σ->Ak σ b=some o
 | .no::r,b,o,k,h=>by
  rcases List.mem_cons.mp h with q | q
  ·cases q
  ·exact DL (σ:=r) k q
 | .at c p::r,b,o,k,h=>by
  unfold Ak
  rcases List.mem_cons.mp h with q | q
  ·cases q;exact if_pos rfl
  ·have z:=DL k.2 q
   by_cases e:b=c
   ·rw [e,k.1] at z;cases z
   ·rw [if_neg e];exact z
theorem An {σ:LS}{i:Nat}{a:Addr}{o:AObj} (k:okS σ) (h:slot σ i=.at a o):Ak σ a=some o:=DL k (D7 h).1
noncomputable def Fits (σ:LS) (i:Nat) (s:Slot):Prop:=∀ a o,s=.at a o->Ak σ a=Option.none\/∃ p,slot σ i=.at a p
theorem CZ:∀ {σ:LS}{i:Nat}{s:Slot},okS σ->Fits σ i s->okS (σ.set i s)
 | [],_,_,_,_=>trivial
 | x::r,0,s,k,f=>by
  show okS (s::r)
  have kr:okS r:=by cases x with
   | no=>exact k
   | «at» c p=>exact k.2
  cases s with
  | no=>exact kr
  | «at» a o =>
   refine ⟨?_,kr⟩
   rcases f a o rfl with q | ⟨p,q⟩
   ·cases x with
    | no=>exact q
    | «at» c p' =>
     unfold Ak at q
     by_cases e:a=c
     ·rw [if_pos e] at q;cases q
     ·rw [if_neg e] at q;exact q
   ·have:x=.at a p:=q
    subst this;exact k.1
 | x::r,i+1,s,k,f=>by
  show okS (x::r.set i s)
  have fr:okS r->Fits r i s:=fun kr a o e=>by
   rcases f a o e with q | ⟨p,q⟩
   ·cases x with
    | no=>exact .inl q
    | «at» c p' =>
     unfold Ak at q
     by_cases e:a=c
     ·rw [if_pos e] at q;cases q
     ·rw [if_neg e] at q;exact .inl q
   ·exact .inr ⟨p,q⟩
  cases x with
  | no=>exact CZ (σ:=r) k (fr k)
  | «at» c p =>
   refine ⟨?_,CZ k.2 (fr k.2)⟩
   cases h:Ak (r.set i s) c with
   | none=>rfl
   | some o =>
    rcases List.mem_or_eq_of_mem_set (EE h) with q | q
    ·have:=DL k.2 q;rw [k.1] at this;cases this
    ·rcases f c o q.symm with z | ⟨p',z⟩
     ·unfold Ak at z;rw [if_pos rfl] at z;cases z
     ·have:slot r i=.at c p':=z
      have:=An k.2 this;rw [k.1] at this;cases this
theorem D8 {σ:LS}{i:Nat}{a:Addr}{o:AObj} (k:okS σ) (f:Fits σ i (.at a o)) (b:Addr) (p:AObj) (h:Ak (σ.set i (.at a o)) b=some p):((Ak σ).set a o) b=some p:=by
 by_cases e:b=a
 ·subst e
  rw [Store.set_self]
  by_cases q:i<σ.length
  ·have:=DL (CZ k f) (List.mem_set q (.at b o));rw [h] at this;exact this.symm
  ·rw [List.set_eq_of_length_le (Nat.not_lt.mp q)] at h
   rcases f b o rfl with z | ⟨p',z⟩
   ·rw [h] at z;cases z
   ·exact absurd (D7 z).2 q
 ·rw [Store.set_ne _ _ e]
  rcases List.mem_or_eq_of_mem_set (EE h) with q | q
  ·exact DL k q
  ·cases q;exact absurd rfl e
theorem Cp {σ:LS}{a:Addr} (h:¬ Dom (Ak σ) a):Ak σ a=Option.none:=Classical.byContradiction fun q=>h q
noncomputable abbrev KV:=AV->LS->Prop
noncomputable abbrev KB:=Bool->LS->Prop
noncomputable abbrev M:=List (Option AV)
noncomputable abbrev KS:=Fl->M->LS->Prop
noncomputable abbrev XL:=Nat->LS->Prop
noncomputable abbrev B1:XL:=fun zz zz=>False
noncomputable def vr (m:M):Vars:=fun i=>m.getD i Option.none
noncomputable def Sub (σ:LS) (s:Store):Prop:=∀ b o,Ak σ b=some o->s b=some o
theorem Sub.rfl {σ:LS}:Sub σ (Ak σ):=fun zz zz h=>h
inductive Up {α:Type} (K:α->LS->Prop) (v:α) (s:Store):Prop
 | mk (σ:LS) (e:Sub σ s) (k:okS σ) (h:K v σ):Up K v s
inductive UpS (K:KS) (fl:Fl) (m':Vars) (s:Store):Prop
 | mk (m:M) (σ:LS) (em:m'=vr m) (e:Sub σ s) (k:okS σ) (h:K fl m σ):UpS K fl m' s
noncomputable def Fo:M->Nat->AV->M
 | [],0,a=>[some a]
 | [],n+1,a=>Option.none::Fo [] n a
 | _::r,0,a=>some a::r
 | x::r,n+1,a=>x::Fo r n a
theorem GK {α:Type}{j n:Nat}{a b:α}:(if j=n then a else b)=if j+1=n+1 then a else b:=by
 by_cases e:j=n
 ·rw [if_pos e,if_pos (congrArg Nat.succ e)]
 ·rw [if_neg e,if_neg fun z=>e (Nat.succ.inj z)]
theorem EB:∀ (m:M) (i:Nat) (a:AV),vr (Fo m i a)=Vars.set (vr m) i a:=by
 intro m i a
 funext j
 unfold vr Vars.set
 induction m generalizing i j with
 | nil =>
  induction i generalizing j with
  | zero =>
   cases j with
   | zero=>exact (if_pos rfl).symm
   | succ j=>exact (if_neg (Nat.succ_ne_zero j)).symm
  | succ n ih =>
   cases j with
   | zero=>exact (if_neg (Nat.succ_ne_zero n).symm).symm
   | succ j=>exact (ih j).trans GK
 | cons x r ih =>
  cases i with
  | zero =>
   cases j with
   | zero=>exact (if_pos rfl).symm
   | succ j=>exact (if_neg (Nat.succ_ne_zero j)).symm
  | succ n =>
   cases j with
   | zero=>exact (if_neg (Nat.succ_ne_zero n).symm).symm
   | succ j=>exact (ih n j).trans GK
theorem Ia (avs:List AV):vr (avs.map some)=J8 avs:=by
 funext i
 unfold vr J8
 simp only [List.getD_eq_getElem?_getD,List.getElem?_map]
 cases avs[i]?<;>rfl
section
variable {F:Fx S}{m:Vars}{σ:LS}{s:Store}{X:Value->Shared->Prop}
theorem W.less {α:Type}{t:Sem α}{P:α->Store->Shared->Prop}{u:Shared} (hσ:Sub σ s) (hs:F.St m s u) (h:F.St m (Ak σ) u->W F m (Ak σ) u t P X):W F m s u t P X:=by
 refine Ad (hs.drop hσ) fun h1 st=>?_
 exact (h h1).later st.any
theorem ET.less {e:E}{Q:AV->Store->Prop} (hσ:Sub σ s) (h:ET F m (Ak σ) e Q X):ET F m s e Q X:=fun pe hc zz ht=>W.less hσ ht fun h1=>h pe hc _ h1
theorem TT.less {e:E}{Q:Bool->Store->Prop} (hσ:Sub σ s) (h:TT F m (Ak σ) e Q X):TT F m s e Q X:=fun pe hc zz ht=>W.less hσ ht fun h1=>h pe hc _ h1
theorem Rep.less' {u:Shared}{av:AV}{v:Value} (hσ:Sub σ s) (hs:F.St m s u) (r:Rep S.cv u.heap (F.D s) av v):Rep S.cv u.heap (F.D (Ak σ)) av v:=by
 refine Ad (hs.drop hσ) fun h1 st=>?_
 exact r.st st.any h1
theorem RepL.less' {u:Shared}{av:List AV}{v:List Value} (hσ:Sub σ s) (hs:F.St m s u) (r:RepL S.cv u.heap (F.D s) av v):RepL S.cv u.heap (F.D (Ak σ)) av v:=by
 refine Ad (hs.drop hσ) fun h1 st=>?_
 exact r.st st.any h1
theorem BT.less {op:Operator}{a b:AV}{Q:AV->Store->Prop} (hσ:Sub σ s) (h:BT F m (Ak σ) op a b Q X):BT F m s op a b Q X:=fun va vb u hs ra rb=>W.less hσ hs fun h1=>h va vb u h1 (ra.less' hσ hs) (rb.less' hσ hs)
theorem KT.less {op:CmpOp}{a b:AV}{Q:Bool->Store->Prop} (hσ:Sub σ s) (h:KT F m (Ak σ) op a b Q X):KT F m s op a b Q X:=fun va vb u hs ra rb=>W.less hσ hs fun h1=>h va vb u h1 (ra.less' hσ hs) (rb.less' hσ hs)
theorem IT.less {a b:AV}{Q:AV->Store->Prop} (hσ:Sub σ s) (h:IT F m (Ak σ) a b Q X):IT F m s a b Q X:=fun va vb u hs ra rb=>by
 refine Ad (hs.drop hσ) fun h1 st=>?_
 refine X2ppp (h va vb u h1 (ra.less' hσ hs) (rb.less' hσ hs)) fun T id h2 h3 h4=>?_
 exact ⟨T,id,h2,h3,h4.later st.any⟩
theorem CT.less {f:Value}{avs:List AV}{Q:AV->Store->Prop} (hσ:Sub σ s) (h:CT F m (Ak σ) f avs Q X):CT F m s f avs Q X:=fun va u hs ra=>W.less hσ hs fun h1=>h va u h1 (ra.less' hσ hs)
end
end Mine
end
section
namespace Mine
open PySem PySem.W PyProof.Rows
noncomputable def ans {α:Type} (lt:Nat->Nat->Bool):KasT α->α
 | .ret a=>a
 | .ask i j k=>ans lt (k (lt i j))
theorem Cf {α β:Type} (lt:Nat->Nat->Bool) (f:α->KasT β) (t:KasT α):ans lt (t.bind f)=ans lt (f (ans lt t)):=by
 induction t with
 | ret a=>rfl
 | ask i j k ih=>exact ih (lt i j)
noncomputable def Srt (lt:Nat->Nat->Bool) (p:Array Nat) (k:Nat):Prop:=∀ i j,i<j->j<k->lt (p.getD j 0) (p.getD i 0)=false
structure Ord (lt:Nat->Nat->Bool):Prop where
 trans:∀ a b c,lt b a=false->lt c b=false->lt c a=false
 up:∀ a b c,lt c a=true->lt b a=false->lt c b=true
 irr:∀ a,lt a a=false
 asym:∀ a b,lt a b=true->¬ lt b a=true
theorem Srt.step {lt:Nat->Nat->Bool} (o:Ord lt) {p:Array Nat}{k:Nat} (h:Srt lt p k) (hk:0<k) (q:lt (p.getD k 0) (p.getD (k - 1) 0)=false):Srt lt p (k+1):=by
 intro i j hij hj
 by_cases e:j=k
 ·subst e
  by_cases e':i=j - 1
  ·rw [e'];exact q
  ·exact o.trans _ _ _ (h i (j - 1) (by exact (Nat.lt_or_gt_of_ne e').elim (fun z0=>z0) (fun z0=>lin [i,j,(j - 1)] [] (.nlt 0 V0 V2) [.nlt 1 V0 V1,.nle 1 V1 (.add K1 V2),.nlt 1 V2 V0] rfl hij (Nat.sub_le_iff_le_add'.mp (Nat.le_refl ((j) - (1)))) z0)) (by exact lin [(j - 1),j] [] (.nlt 1 V0 V1) [.neq 1 (.add V0 K1) V1] rfl (Nat.sub_add_cancel (lin [i,j] [] (.nle 1 K1 V1) [.nlt 1 V0 V1] rfl hij)))) q
 ·exact h i j hij (by exact (Nat.lt_or_gt_of_ne e).elim (fun z0=>z0) (fun z0=>lin [j,k] [] (.nlt 0 V0 V1) [.nlt 1 V0 (.add V1 K1),.nlt 1 V1 V0] rfl hj z0))
theorem Ga {lt:Nat->Nat->Bool} (o:Ord lt) (p:Array Nat) (f:Nat):∀ n,0<n->Srt lt p n->n<=ans lt (kas_asc p f n)/\ans lt (kas_asc p f n)<=n+f/\Srt lt p (ans lt (kas_asc p f n)):=by
 induction f with
 | zero=>intro n _ h;exact ⟨Nat.le_refl _,Nat.le_refl _,h⟩
 | succ f ih =>
  intro n hn h
  show n<=ans lt (if lt (p.getD n 0) (p.getD (n - 1) 0)=true then .ret n else kas_asc p f (n+1))/\ans lt (if lt (p.getD n 0) (p.getD (n - 1) 0)=true then .ret n else kas_asc p f (n+1))<=n+(f+1)/\Srt lt p (ans lt (if lt (p.getD n 0) (p.getD (n - 1) 0)=true then .ret n else kas_asc p f (n+1)))
  by_cases c:lt (p.getD n 0) (p.getD (n - 1) 0)=true
  ·rw [if_pos c];exact ⟨Nat.le_refl _,Nat.le_add_right _ _,h⟩
  ·rw [if_neg c]
   refine AU (ih (n+1) (Nat.succ_pos _) (h.step o hn (Bool.eq_false_iff.mpr c))) fun a b d=>?_
   exact ⟨by exact lin [n,(ans lt (kas_asc p f (n+1)))] [] (.nle 1 V0 V1) [.nle 1 (.add V0 K1) V1] rfl a,by exact lin [(ans lt (kas_asc p f (n+1))),n,f] [] (.nle 1 V0 (.add V1 (.add V2 K1))) [.nle 1 V0 (.add (.add V1 K1) V2)] rfl b,d⟩
theorem place_at {lt:Nat->Nat->Bool} (o:Ord lt) (p:Array Nat) (k:Nat) (hs:Srt lt p k) (f:Nat):∀ l r,l<=r->r<=k->r - l<=f->(∀ i,i<l->lt (p.getD k 0) (p.getD i 0)=false)->(∀ i,r<=i->i<k->lt (p.getD k 0) (p.getD i 0)=true) ->
  ans lt (kas_place p k f l r)<=k/\(∀ i,i<ans lt (kas_place p k f l r)->lt (p.getD k 0) (p.getD i 0)=false)/\(∀ i,ans lt (kas_place p k f l r)<=i->i<k->lt (p.getD k 0) (p.getD i 0)=true):=by
 induction f with
 | zero =>
  intro l r h1 h2 h3 hl hr
  have e:l=r:=by exact Nat.le_antisymm (h1) (lin [(r - l),r,l] [] (.nle 1 V1 V2) [.nle 1 V0 K0,.nle 1 V1 (.add V2 V0)] rfl h3 (Nat.sub_le_iff_le_add'.mp (Nat.le_refl ((r) - (l)))))
  subst e
  exact ⟨h2,hl,hr⟩
 | succ f ih =>
  intro l r h1 h2 h3 hl hr
  unfold kas_place
  by_cases c:l >= r
  ·rw [if_pos c]
   have e:l=r:=by exact Nat.le_antisymm (h1) (c)
   subst e
   exact ⟨h2,hl,hr⟩
  ·rw [if_neg c]
   show ans lt (if lt (p.getD k 0) (p.getD ((l+r) / 2) 0)=true then _ else _)<=k/\(∀ i,i<ans lt (if lt (p.getD k 0) (p.getD ((l+r) / 2) 0)=true then _ else _)->_)/\(∀ i,ans lt (if lt (p.getD k 0) (p.getD ((l+r) / 2) 0)=true then _ else _)<=i->_)
   have hm:l<=(l+r) / 2/\(l+r) / 2<r:=by exact ⟨lin [r,l,((l+r) / 2)] [] (.nle 2 V1 V2) [.ngt 1 V0 V1,.nlt 1 (.add V1 V0) (.mul 2 (.add V2 K1))] rfl c (Nat.lt_mul_div_succ (l+r) (by decide:0<2)),lin [r,l,((l+r) / 2)] [] (.nlt 2 V2 V0) [.ngt 1 V0 V1,.nle 1 (.mul 2 V2) (.add V1 V0)] rfl c (Nat.mul_div_le (l+r) 2)⟩
   generalize (l+r) / 2=m at hm
   by_cases q:lt (p.getD k 0) (p.getD m 0)=true
   ·rw [if_pos q]
    refine ih l m hm.1 (by exact lin [r,k,m] [] (.nle 1 V2 V1) [.nle 1 V0 V1,.nlt 1 V2 V0] rfl h2 hm.2) (by exact lin [(r - l),f,m,r,l,(m - l)] [] (.nle 1 V5 V1) [.nle 1 V0 (.add V1 K1),.nlt 1 V2 V3,.nle 1 V3 (.add V4 V0),.neq 1 (.add V5 V4) V2] rfl h3 hm.2 (Nat.sub_le_iff_le_add'.mp (Nat.le_refl ((r) - (l)))) (Nat.sub_add_cancel (hm.1))) hl fun i h4 h5=>?_
    by_cases e:i=m
    ·rw [e];exact q
    ·exact o.up _ _ _ q (hs m i (by exact (Nat.lt_or_gt_of_ne e).elim (fun z0=>lin [m,i] [] (.nlt 0 V0 V1) [.nle 1 V0 V1,.nlt 1 V1 V0] rfl h4 z0) (fun z0=>z0)) h5)
   ·rw [if_neg q]
    have q:=Bool.eq_false_iff.mpr q
    refine ih (m+1) r (by exact hm.2) h2 (by exact lin [(r - l),f,l,m,r,(r - (m+1))] [] (.nle 1 V5 V1) [.nle 1 V0 (.add V1 K1),.nle 1 V2 V3,.nle 1 V4 (.add V2 V0),.neq 1 (.add V5 (.add V3 K1)) V4] rfl h3 hm.1 (Nat.sub_le_iff_le_add'.mp (Nat.le_refl ((r) - (l)))) (Nat.sub_add_cancel (hm.2))) (fun i h4=>?_) hr
    by_cases e:i=m
    ·rw [e];exact q
    ·exact o.trans _ _ _ (hs i m (by exact (Nat.lt_or_gt_of_ne e).elim (fun z0=>z0) (fun z0=>lin [i,m] [] (.nlt 0 V0 V1) [.nlt 1 V0 (.add V1 K1),.nlt 1 V1 V0] rfl h4 z0)) (by exact lin [r,k,m] [] (.nlt 1 V2 V1) [.nle 1 V0 V1,.nlt 1 V2 V0] rfl h2 hm.2)) q
theorem Dw {p:Array Nat}{k l:Nat} (hk:k<p.size) (hl:l<=k) (i:Nat):(bubble p k (k - l)).getD i 0=if i=l then p.getD k 0 else if l<i/\i<=k then p.getD (i - 1) 0 else p.getD i 0:=by
 have h:=getElem?_bubble hk (k - l) (Nat.sub_le _ _) i
 rw [show k - (k - l)=l by exact Nat.le_antisymm (lin [k,l,(k - l),(k - (k - l))] [] (.nle 1 V3 V1) [.nle 1 V0 (.add V1 V2),.neq 1 (.add V3 V2) V0] rfl (Nat.sub_le_iff_le_add'.mp (Nat.le_refl ((k) - (l)))) (Nat.sub_add_cancel ((Nat.sub_le (k) (l))))) (lin [k,(k - l),(k - (k - l)),l] [] (.nle 1 V3 V2) [.nle 1 V0 (.add V1 V2),.neq 1 (.add V1 V3) V0] rfl (Nat.sub_le_iff_le_add'.mp (Nat.le_refl ((k) - (k - l)))) (Nat.sub_add_cancel (hl)))] at h
 rw [Array.getD_eq_getD_getElem?,h,Array.getD_eq_getD_getElem?,Array.getD_eq_getD_getElem?,Array.getD_eq_getD_getElem?]
 split
 ·rfl
 ·split<;>rfl
theorem bin_srt {lt:Nat->Nat->Bool} (o:Ord lt) (f:Nat):∀ (p:Array Nat) (k:Nat),k+f<=p.size->Srt lt p k->Srt lt (ans lt (kas_bin f p k)) (k+f)/\(ans lt (kas_bin f p k)).Perm p:=by
 induction f with
 | zero=>intro p k _ h;exact ⟨h,.refl _⟩
 | succ f ih =>
  intro p k hk h
  unfold kas_bin
  rw [Cf]
  refine AU (place_at o p k h k 0 k (Nat.zero_le _) (Nat.le_refl _) (Nat.sub_le _ _) (fun i hi=>absurd hi (Nat.not_lt_zero _)) (fun i hi hi'=>absurd hi' (Nat.not_lt.mpr hi))) fun h1 h2 h3=>?_
  generalize ans lt (kas_place p k k 0 k)=l at h1 h2 h3
  have hs:k<p.size:=by exact lin [k,f,(p.size)] [] (.nlt 1 V0 V2) [.nle 1 (.add V0 (.add V1 K1)) V2] rfl hk
  have key:Srt lt (bubble p k (k - l)) (k+1):=by
   intro i j hij hj
   rw [Dw hs h1,Dw hs h1]
   by_cases a:i=l
   ·subst a
    rw [if_pos rfl,if_neg (by exact fun z0=>lin [i,j] [] .no [.nlt 1 V0 V1,.neq 1 V1 V0] rfl hij z0),if_pos (by exact ⟨hij,lin [j,k] [] (.nle 1 V0 V1) [.nlt 1 V0 (.add V1 K1)] rfl hj⟩)]
    have:=h3 (j - 1) (by exact lin [i,j,(j - 1)] [] (.nle 1 V0 V2) [.nlt 1 V0 V1,.nle 1 V1 (.add K1 V2)] rfl hij (Nat.sub_le_iff_le_add'.mp (Nat.le_refl ((j) - (1))))) (by exact lin [j,k,(j - 1)] [] (.nlt 1 V2 V1) [.nlt 1 V0 (.add V1 K1),.neq 1 (.add V2 K1) V0] rfl hj (Nat.sub_add_cancel (lin [i,j] [] (.nle 1 K1 V1) [.nlt 1 V0 V1] rfl hij)))
    exact Bool.eq_false_iff.mpr fun q=>by have z:=o.up _ _ _ this (o.irr _);exact o.asym _ _ z q
   ·rw [if_neg a]
    by_cases b:j=l
    ·subst b
     rw [if_pos rfl,if_neg (by exact fun z0=>lin [i,j] [] .no [.nlt 1 V0 V1,.nlt 1 V1 V0] rfl hij z0.1)]
     exact h2 i (by exact hij)
    ·rw [if_neg b]
     by_cases c:l<i
     ·rw [if_pos (by exact ⟨lin [i,j,l] [] (.nlt 1 V2 V1) [.nlt 1 V0 V1,.nlt 1 V2 V0] rfl hij c,lin [j,k] [] (.nle 1 V0 V1) [.nlt 1 V0 (.add V1 K1)] rfl hj⟩),if_pos (by exact ⟨c,lin [i,j,k] [] (.nle 1 V0 V2) [.nlt 1 V0 V1,.nlt 1 V1 (.add V2 K1)] rfl hij hj⟩)]
      exact h (i - 1) (j - 1) (by exact lin [i,j,(j - 1),(i - 1)] [] (.nlt 1 V3 V2) [.nlt 1 V0 V1,.nle 1 V1 (.add K1 V2),.neq 1 (.add V3 K1) V0] rfl hij (Nat.sub_le_iff_le_add'.mp (Nat.le_refl ((j) - (1)))) (Nat.sub_add_cancel (lin [l,i] [] (.nle 1 K1 V1) [.nlt 1 V0 V1] rfl c))) (by exact lin [j,k,(j - 1)] [] (.nlt 1 V2 V1) [.nlt 1 V0 (.add V1 K1),.neq 1 (.add V2 K1) V0] rfl hj (Nat.sub_add_cancel (lin [i,j] [] (.nle 1 K1 V1) [.nlt 1 V0 V1] rfl hij)))
     ·have ci:¬ (l<i/\i<=k):=by exact fun z0=>lin [l,i] [] .no [.nge 1 V0 V1,.nlt 1 V0 V1] rfl c z0.1
      rw [if_neg ci]
      by_cases d:l<j
      ·have cj:l<j/\j<=k:=by exact ⟨d,lin [j,k] [] (.nle 1 V0 V1) [.nlt 1 V0 (.add V1 K1)] rfl hj⟩
       rw [if_pos cj]
       exact h i (j - 1) (by exact (Nat.lt_or_gt_of_ne a).elim (fun z0=>lin [l,j,(j - 1),i] [] (.nlt 1 V3 V2) [.nlt 1 V0 V1,.nle 1 V1 (.add K1 V2),.nlt 1 V3 V0] rfl d (Nat.sub_le_iff_le_add'.mp (Nat.le_refl ((j) - (1)))) z0) (fun z0=>lin [l,i,(j - 1)] [] (.nlt 0 V1 V2) [.nge 1 V0 V1,.nlt 1 V0 V1] rfl c z0)) (by exact lin [j,k,(j - 1)] [] (.nlt 1 V2 V1) [.nlt 1 V0 (.add V1 K1),.neq 1 (.add V2 K1) V0] rfl hj (Nat.sub_add_cancel (lin [i,j] [] (.nle 1 K1 V1) [.nlt 1 V0 V1] rfl hij)))
      ·have cj:¬ (l<j/\j<=k):=by exact fun z0=>lin [l,j] [] .no [.nge 1 V0 V1,.nlt 1 V0 V1] rfl d z0.1
       rw [if_neg cj]
       exact h i j hij (by exact (Nat.lt_or_gt_of_ne a).elim (fun z0=>(Nat.lt_or_gt_of_ne b).elim (fun z1=>lin [l,k,j] [] (.nlt 1 V2 V1) [.nle 1 V0 V1,.nlt 1 V2 V0] rfl h1 z1) (fun z1=>lin [l,j,k] [] (.nlt 0 V1 V2) [.nge 1 V0 V1,.nlt 1 V0 V1] rfl d z1)) (fun z0=>lin [i,j,l,k] [] (.nlt 0 V1 V3) [.nlt 1 V0 V1,.nge 1 V2 V1,.nlt 1 V2 V0] rfl hij d z0))
  refine Ad (ih (bubble p k (k - l)) (k+1) (by rw [bubble_size];exact lin [k,f,(p.size)] [] (.nle 1 (.add (.add V0 K1) V1) V2) [.nle 1 (.add V0 (.add V1 K1)) V2] rfl hk) key) fun a b=>?_
  exact ⟨by rw [show k+(f+1)=k+1+f by exact Nat.le_antisymm (lin [k,f] [] (.nle 1 (.add V0 (.add V1 K1)) (.add (.add V0 K1) V1)) [] rfl) (lin [k,f] [] (.nle 1 (.add (.add V0 K1) V1) (.add V0 (.add V1 K1))) [] rfl)];exact a,b.trans (bubble_perm _ _ _)⟩
end Mine
end
section
namespace Mine
open PySem PySem.W PyProof.Rows
theorem Gs {p:Array Nat}{j:Nat} (hj:j<=p.size) {k:Nat} (hk:k<j):(kas_rev p 0 j).getD k 0=p.getD (j - 1 - k) 0:=by
 have h:=getElem?_mirror_all (xs:=p) (i:=0) hj k
 rw [if_pos ⟨Nat.zero_le _,hk⟩,Nat.zero_add] at h
 unfold kas_rev
 rw [Array.getD_eq_getD_getElem?,h,Array.getD_eq_getD_getElem?]
noncomputable def Fal (lt:Nat->Nat->Bool) (p:Array Nat) (k:Nat):Prop:=∀ i j,i<j->j<k->lt (p.getD i 0) (p.getD j 0)=false
theorem Fal.rev {lt:Nat->Nat->Bool}{p:Array Nat}{k:Nat} (h:Fal lt p k) (hk:k<=p.size):Srt lt (kas_rev p 0 k) k:=by
 intro i j hij hj
 rw [Gs hk hj,Gs hk (Nat.lt_trans hij hj)]
 exact h (k - 1 - j) (k - 1 - i) (by exact lin [i,j,(k - 1),(k - 1 - i),(k - 1 - j)] [] (.nlt 1 V4 V3) [.nlt 1 V0 V1,.nle 1 V2 (.add V0 V3),.neq 1 (.add V4 V1) V2] rfl hij (Nat.sub_le_iff_le_add'.mp (Nat.le_refl ((k - 1) - (i)))) (Nat.sub_add_cancel (lin [j,k,(k - 1)] [] (.nle 1 V0 V2) [.nlt 1 V0 V1,.nle 1 V1 (.add K1 V2)] rfl hj (Nat.sub_le_iff_le_add'.mp (Nat.le_refl ((k) - (1))))))) (by exact lin [(k - 1 - i),(k - 1),k] [] (.nlt 1 V0 V2) [.nle 1 V0 V1,.neq 1 (.add V1 K1) V2] rfl (Nat.sub_le (k - 1) (i)) (Nat.sub_add_cancel (lin [j,k] [] (.nle 1 K1 V1) [.nlt 1 V0 V1] rfl hj)))
theorem Fal.step {lt:Nat->Nat->Bool} (o:Ord lt) {p:Array Nat}{k:Nat} (h:Fal lt p k) (hk:0<k) (q:lt (p.getD k 0) (p.getD (k - 1) 0)=true):Fal lt p (k+1):=by
 have q':lt (p.getD (k - 1) 0) (p.getD k 0)=false:=Bool.eq_false_iff.mpr (o.asym _ _ q)
 intro i j hij hj
 by_cases e:j=k
 ·subst e
  by_cases e':i=j - 1
  ·rw [e'];exact q'
  ·exact o.trans _ _ _ q' (h i (j - 1) (by exact (Nat.lt_or_gt_of_ne e').elim (fun z0=>z0) (fun z0=>lin [i,j,(j - 1)] [] (.nlt 0 V0 V2) [.nlt 1 V0 V1,.nle 1 V1 (.add K1 V2),.nlt 1 V2 V0] rfl hij (Nat.sub_le_iff_le_add'.mp (Nat.le_refl ((j) - (1)))) z0)) (by exact lin [(j - 1),j] [] (.nlt 1 V0 V1) [.neq 1 (.add V0 K1) V1] rfl (Nat.sub_add_cancel (lin [i,j] [] (.nle 1 K1 V1) [.nlt 1 V0 V1] rfl hij))))
 ·exact h i j hij (by exact (Nat.lt_or_gt_of_ne e).elim (fun z0=>z0) (fun z0=>lin [j,k] [] (.nlt 0 V0 V1) [.nlt 1 V0 (.add V1 K1),.nlt 1 V1 V0] rfl hj z0))
noncomputable def Dif (lt:Nat->Nat->Bool) (p:Array Nat):Prop:=∀ i j,i≠j->i<p.size->j<p.size->lt (p.getD i 0) (p.getD j 0)=true\/lt (p.getD j 0) (p.getD i 0)=true
theorem desc_fal {lt:Nat->Nat->Bool} (o:Ord lt) {p:Array Nat} (d:Dif lt p) (f:Nat):∀ n,0<n->n+f<=p.size->Fal lt p n->∃ n',ans lt (kas_desc f p n 0)=(p,n',0)/\n<=n'/\n'<=n+f/\Fal lt p n':=by
 induction f with
 | zero=>intro n _ _ h;exact ⟨n,rfl,Nat.le_refl _,Nat.le_refl _,h⟩
 | succ f ih =>
  intro n hn hz h
  by_cases c:lt (p.getD n 0) (p.getD (n - 1) 0)=true
  ·refine X1pppp (ih (n+1) (Nat.succ_pos _) (by exact lin [n,f,(p.size)] [] (.nle 1 (.add (.add V0 K1) V1) V2) [.nle 1 (.add V0 (.add V1 K1)) V2] rfl hz) (h.step o hn c)) fun n' e a b q=>?_
   refine ⟨n',?_,by exact lin [n,n'] [] (.nle 1 V0 V1) [.nle 1 (.add V0 K1) V1] rfl a,by exact lin [n',n,f] [] (.nle 1 V0 (.add V1 (.add V2 K1))) [.nle 1 V0 (.add (.add V1 K1) V2)] rfl b,q⟩
   show ans lt (if lt (p.getD n 0) (p.getD (n - 1) 0)=true then (if 0 > 0 then _ else kas_desc f p (n+1) 0) else _)=_
   rw [if_pos c,if_neg (by decide)]
   exact e
  ·refine ⟨n,?_,Nat.le_refl _,Nat.le_add_right _ _,h⟩
   show ans lt (if lt (p.getD n 0) (p.getD (n - 1) 0)=true then _ else KasT.ask (p.getD (n - 1) 0) (p.getD n 0) fun d=>if d=true then .ret (p,n,0) else _)=_
   rw [if_neg c]
   show ans lt (if lt (p.getD (n - 1) 0) (p.getD n 0)=true then .ret (p,n,0) else _)=_
   rw [if_pos ((d (n - 1) n (by exact fun z0=>lin [(n - 1),n] [] .no [.neq (-1) V0 V1,.neq 1 (.add V0 K1) V1] rfl z0 (Nat.sub_add_cancel (lin [n] [] (.nle 1 K1 V0) [.nlt 1 K0 V0] rfl hn))) (by exact lin [n,f,(p.size),(n - 1)] [] (.nlt 1 V3 V2) [.nle 1 (.add V0 (.add V1 K1)) V2,.nle 1 V3 V0] rfl hz (Nat.sub_le (n) (1))) (by exact lin [n,f,(p.size)] [] (.nlt 1 V0 V2) [.nle 1 (.add V0 (.add V1 K1)) V2] rfl hz)).resolve_right c)]
   rfl
theorem JR {lt:Nat->Nat->Bool} (o:Ord lt) {p:Array Nat} (d:Dif lt p) (h2:2<=p.size):1<=(ans lt (kas_count p.size p)).1/\(ans lt (kas_count p.size p)).1<=p.size/\Srt lt (ans lt (kas_count p.size p)).2 (ans lt (kas_count p.size p)).1/\(ans lt (kas_count p.size p)).2.Perm p:=by
 unfold kas_count
 rw [Cf]
 obtain ⟨a,b,c⟩:=Ga o p (p.size - 1) 1 Nat.one_pos (fun i j h1 h2=>by omega)
 by_cases e1:ans lt (kas_asc p (p.size - 1) 1)=1
 ·rw [e1]
  have q:lt (p.getD 1 0) (p.getD 0 0)=true:=by
   refine Classical.byContradiction fun q=>?_
   have:ans lt (kas_asc p (p.size - 1) 1)=ans lt (kas_asc p (p.size - 2) 2):=by
    rw [show p.size - 1=(p.size - 2)+1 by exact Nat.le_antisymm (lin [(p.size),(p.size - 2),(p.size - 1)] [] (.nle 1 V2 (.add V1 K1)) [.nle 1 V0 (.add K2 V1),.neq 1 (.add V2 K1) V0] rfl (Nat.sub_le_iff_le_add'.mp (Nat.le_refl ((p.size) - (2)))) (Nat.sub_add_cancel (lin [(p.size)] [] (.nle 1 K1 V0) [.nle 1 K2 V0] rfl h2))) (lin [(p.size),(p.size - 1),(p.size - 2)] [] (.nle 1 (.add V2 K1) V1) [.nle 1 V0 (.add K1 V1),.neq 1 (.add V2 K2) V0] rfl (Nat.sub_le_iff_le_add'.mp (Nat.le_refl ((p.size) - (1)))) (Nat.sub_add_cancel (h2)))]
    show ans lt (if lt (p.getD 1 0) (p.getD 0 0)=true then _ else _)=_
    rw [if_neg q]
   have z:=(Ga o p (p.size - 2) 2 (by exact lin [] [] (.nlt 1 K0 K2) [] rfl) (fun i j h1 h2=>by
    have e:i=0/\j=1:=by exact ⟨Nat.le_antisymm (lin [i,j] [] (.nle 1 V0 K0) [.nlt 1 V0 V1,.nlt 1 V1 K2] rfl h1 h2) (lin [i] [] (.nle 1 K0 V0) [] rfl),Nat.le_antisymm (lin [j] [] (.nle 1 V0 K1) [.nlt 1 V0 K2] rfl h2) (lin [i,j] [] (.nle 1 K1 V1) [.nlt 1 V0 V1] rfl h1)⟩
    rw [e.1,e.2];exact Bool.eq_false_iff.mpr q)).1
   exact lin [(ans lt (kas_asc p (p.size - 1) 1)),(ans lt (kas_asc p (p.size - 2) 2))] [] .no [.neq 1 V0 K1,.neq (-1) V0 V1,.nle 1 K2 V1] rfl e1 this z
  rw [if_neg (by simp;exact fun z0=>lin [(p.size)] [] .no [.nle 1 K2 V0,.neq (-1) K1 V0] rfl h2 z0),if_neg (by decide)]
  unfold kas_descPart
  rw [Cf]
  obtain ⟨n',e,h3,h4,fl⟩:=desc_fal o d (p.size - 2) 2 (by exact lin [] [] (.nlt 1 K0 K2) [] rfl) (by exact lin [(p.size - 2),(p.size)] [] (.nle 1 (.add K2 V0) V1) [.neq 1 (.add V0 K2) V1] rfl (Nat.sub_add_cancel (h2))) (fun i j h1 h2=>by
   have e:i=0/\j=1:=by exact ⟨Nat.le_antisymm (lin [i,j] [] (.nle 1 V0 K0) [.nlt 1 V0 V1,.nlt 1 V1 K2] rfl h1 h2) (lin [i] [] (.nle 1 K0 V0) [] rfl),Nat.le_antisymm (lin [j] [] (.nle 1 V0 K1) [.nlt 1 V0 K2] rfl h2) (lin [i,j] [] (.nle 1 K1 V1) [.nlt 1 V0 V1] rfl h1)⟩
   rw [e.1,e.2];exact Bool.eq_false_iff.mpr (o.asym _ _ q))
  rw [e]
  dsimp only
  rw [if_neg (by decide)]
  unfold kas_tail3
  rw [Cf]
  refine AU (Ga o (kas_rev p 0 n') (p.size - n') n' (by exact lin [n'] [] (.nlt 1 K0 V0) [.nle 1 K2 V0] rfl h3) (fl.rev (by exact lin [n',(p.size - 2),(p.size)] [] (.nle 1 V0 V2) [.nle 1 V0 (.add K2 V1),.neq 1 (.add V1 K2) V2] rfl h4 (Nat.sub_add_cancel (h2))))) fun x y z=>?_
  exact ⟨by show 1<=ans lt (kas_asc _ _ _);exact lin [n',(ans lt (kas_asc (kas_rev p 0 n') (p.size - n') n'))] [] (.nle 1 K1 V1) [.nle 1 K2 V0,.nle 1 V0 V1] rfl h3 x,by show ans lt (kas_asc _ _ _)<=_;exact lin [(ans lt (kas_asc (kas_rev p 0 n') (p.size - n') n')),n',(p.size - n'),(p.size)] [] (.nle 1 V0 V3) [.nle 1 V0 (.add V1 V2),.neq 1 (.add V2 V1) V3] rfl y (Nat.sub_add_cancel (lin [n',(p.size - 2),(p.size)] [] (.nle 1 V0 V2) [.nle 1 V0 (.add K2 V1),.neq 1 (.add V1 K2) V2] rfl h4 (Nat.sub_add_cancel (h2)))),z,mirror_perm _ _ _ _⟩
 ·generalize hn:ans lt (kas_asc p (p.size - 1) 1)=n at a b c e1
  by_cases e2:n=p.size
  ·rw [if_pos (by rw [e2];simp)]
   exact ⟨a,by show n<=_;exact lin [n,(p.size)] [] (.nle 1 V0 V1) [.neq 1 V0 V1] rfl e2,c,.refl _⟩
  ·rw [if_neg (by simp;exact e2),if_pos (by exact (Nat.lt_or_gt_of_ne e1).elim (fun z0=>lin [n] [] (.nlt 0 K1 V0) [.nle 1 K1 V0,.nlt 1 V0 K1] rfl a z0) (fun z0=>z0))]
   show 1<=(ans lt (if lt (p.getD 0 0) (p.getD (n - 1) 0)=true then .ret (n,p) else _)).1/\(ans lt (if lt (p.getD 0 0) (p.getD (n - 1) 0)=true then .ret (n,p) else _)).1<=_/\Srt lt (ans lt (if lt (p.getD 0 0) (p.getD (n - 1) 0)=true then .ret (n,p) else _)).2 (ans lt (if lt (p.getD 0 0) (p.getD (n - 1) 0)=true then .ret (n,p) else _)).1/\(ans lt (if lt (p.getD 0 0) (p.getD (n - 1) 0)=true then .ret (n,p) else _)).2.Perm p
   have hc:lt (p.getD 0 0) (p.getD (n - 1) 0)=true:=(d 0 (n - 1) (by exact fun z0=>(Nat.lt_or_gt_of_ne e1).elim (fun z1=>lin [n] [] .no [.nle 1 K1 V0,.nlt 1 V0 K1] rfl a z1) (fun z1=>lin [(n - 1),n] [] .no [.neq (-1) K0 V0,.nle 1 V1 (.add K1 V0),.nlt 1 K1 V1] rfl z0 (Nat.sub_le_iff_le_add'.mp (Nat.le_refl ((n) - (1)))) z1)) (by exact lin [(p.size)] [] (.nlt 1 K0 V0) [.nle 1 K2 V0] rfl h2) (by exact lin [n,(p.size - 1),(p.size),(n - 1)] [] (.nlt 1 V3 V2) [.nle 1 V0 (.add K1 V1),.neq 1 (.add V1 K1) V2,.neq 1 (.add V3 K1) V0] rfl b (Nat.sub_add_cancel (lin [(p.size)] [] (.nle 1 K1 V0) [.nle 1 K2 V0] rfl h2)) (Nat.sub_add_cancel (a)))).resolve_right fun q=>by
    have:=c 0 (n - 1) (by exact (Nat.lt_or_gt_of_ne e1).elim (fun z0=>lin [n,(n - 1)] [] (.nlt 0 K0 V1) [.nle 1 K1 V0,.nlt 1 V0 K1] rfl a z0) (fun z0=>lin [n,(n - 1)] [] (.nlt 1 K0 V1) [.nle 1 V0 (.add K1 V1),.nlt 1 K1 V0] rfl (Nat.sub_le_iff_le_add'.mp (Nat.le_refl ((n) - (1)))) z0)) (by exact lin [(n - 1),n] [] (.nlt 1 V0 V1) [.neq 1 (.add V0 K1) V1] rfl (Nat.sub_add_cancel (a)))
    rw [q] at this;cases this
   rw [if_pos hc]
   exact ⟨a,by show n<=_;exact lin [n,(p.size - 1),(p.size)] [] (.nle 1 V0 V2) [.nle 1 V0 (.add K1 V1),.neq 1 (.add V1 K1) V2] rfl b (Nat.sub_add_cancel (lin [(p.size)] [] (.nle 1 K1 V0) [.nle 1 K2 V0] rfl h2)),c,.refl _⟩
end Mine
end
section
namespace Mine
open PySem PySem.W PyProof.Rows
theorem sort_srt {lt:Nat->Nat->Bool} (o:Ord lt) {n:Nat} (h2:2<=n) (d:∀ i j,i≠j->i<n->j<n->lt i j=true\/lt j i=true):Srt lt (ans lt (kas_sort n)) n/\(ans lt (kas_sort n)).Perm (List.toArray (List.range n)):=by
 have hz:(List.toArray (List.range n)).size=n:=by simp
 have hg:∀ i,i<n->(List.toArray (List.range n)).getD i 0=i:=fun i hi=>by
  rw [Array.getD_eq_getD_getElem?]
  simp [hi]
 have dd:Dif lt (List.toArray (List.range n)):=fun i j hij hi hj=>by
  rw [hz] at hi hj
  rw [hg i hi,hg j hj]
  exact d i j hij hi hj
 have k:=JR o dd (by rw [hz];exact h2)
 rw [hz] at k
 unfold kas_sort
 rw [Cf]
 generalize ans lt (kas_count n (List.toArray (List.range n)))=r at k
 obtain ⟨m,p⟩:=r
 refine BO (k) fun a b c e=>?_
 dsimp only at a b c e ⊢
 have hp:p.size=n:=by rw [e.size_eq,hz]
 by_cases q:m<n
 ·rw [if_pos q,show max m 1=m by exact Nat.le_antisymm (lin [(max m 1),m] [] (.nle 1 V0 V1) [.neq 1 V0 V1] rfl (Nat.max_eq_left (a))) (lin [m,(max m 1)] [] (.nle 1 V0 V1) [.nle 1 V0 V1] rfl (Nat.le_max_left (m) (1)))]
  refine Ad (bin_srt o (n - m) p m (by exact lin [(p.size),n,(n - m),m] [] (.nle 1 (.add V3 V2) V0) [.neq (-1) V0 V1,.neq 1 (.add V2 V3) V1] rfl hp (Nat.sub_add_cancel (b))) c) fun x y=>?_
  exact ⟨by rw [show m+(n - m)=n by exact Nat.le_antisymm (lin [(n - m),m,n] [] (.nle 1 (.add V1 V0) V2) [.neq 1 (.add V0 V1) V2] rfl (Nat.sub_add_cancel (b))) (lin [n,m,(n - m)] [] (.nle 1 V0 (.add V1 V2)) [.nle 1 V0 (.add V1 V2)] rfl (Nat.sub_le_iff_le_add'.mp (Nat.le_refl ((n) - (m)))))] at x;exact x,y.trans e⟩
 ·rw [if_neg q]
  have:m=n:=by exact Nat.le_antisymm (b) (lin [m,n] [] (.nle 1 V1 V0) [.nge 1 V0 V1] rfl q)
  subst this
  exact ⟨c,e⟩
end Mine
end
section
namespace Mine
open PySem PySem.W PySem.Calls PyProof.Rows
section
variable {prog:Program}{w:World}{A:Around}{E:Value->Shared->Prop}{s:Shared}{kS D:Addr}{ks:List Value}
theorem Iv {st:SortSt}{e e1:Nat}{out:List Value}{P:PySem.Fin->Shared->Prop} (hk:s.heap.get? kS=some (seqObj "list" (List.toArray ks) e)) (hd:s.heap.get? D=some (seqObj "list" #[] e1)) (hne:D≠kS)
  (hout:(arrOf st).map (·.2)=List.toArray out) (hz:out.length<64) (hkz:ks.length<64) (hf:failedOf st=none)
  (h:∀ h' c,(∀ b o,b≠kS->b≠D->s.heap.get? b=some o->h'.get? b=some o)->(∃ c',h'.get? kS=some (seqObj "list" #[] c'))->h'.get? D=some (seqObj "list" (List.toArray out) c)->P (.done (.ret .none)) { s with heap:=h' }):wpAny (model prog w) A (ksk_tail D false e1 (.ref kS) st) P E s:=by
 have s1:=Heap.SameBut.update s.heap kS (Obj.mapSeq fun zz=>(#[]:Array Value))
 obtain ⟨ck,hck⟩:∃ ck,(s.heap.update kS (Obj.mapSeq fun zz=>(#[]:Array Value))).get? kS=some (seqObj "list" #[] ck):=⟨_,get?_update_seq hk fun zz=>#[]⟩
 have nd:=s1.extBut D _ hne hd
 have s2:=Heap.SameBut.update (s.heap.update kS (Obj.mapSeq fun zz=>(#[]:Array Value))) D (Obj.mapSeq fun zz=>List.toArray out)
 obtain ⟨c2,hc2⟩:∃ c2,((s.heap.update kS (Obj.mapSeq fun zz=>(#[]:Array Value))).update D (Obj.mapSeq fun zz=>List.toArray out)).get? D=some (seqObj "list" (List.toArray out) c2):=⟨_,get?_update_seq nd fun zz=>List.toArray out⟩
 have hsz:(List.toArray out).size=out.length:=List.size_toArray
 unfold ksk_tail
 try dsimp only
 rw [hout]
 refine wpAny_bind (listUpdate_at hk rfl ?_ (by rw [List.size_toArray,sizeLine_eq];exact lin [(ks.length)] [] (.nle 1 V0 AH) [.nlt 1 V0 K64] rfl hkz) (Nat.zero_le _))
 refine wpAny_bind (wpAny_letGo ?_)
 refine wpAny_bind (seqEpoch_at nd rfl ?_)
 refine wpAny_bind (listUpdate_at nd rfl ?_ (Nat.zero_le _) (Nat.le_trans (Nat.le_of_eq hsz) (by rw [sizeLine_eq];exact lin [(out.length)] [] (.nle 1 V0 (.add AH K1)) [.nlt 1 V0 K64] rfl hz)))
 rw [hf]
 simp only [bne_self_eq_false,Bool.false_eq_true,if_false]
 exact wpAny_pure (h _ c2 (fun b o b1 b2 e=>s2.extBut b o b2 (s1.extBut b o b1 e)) ⟨ck,s2.extBut _ _ (Ne.symm hne) hck⟩ hc2)
noncomputable def SkFin (kS D:Addr) (ks vs:List Value) (e e1:Nat) (P:PySem.Fin->Shared->Prop) (p:Array Nat) (s:Shared):Prop :=
 s.heap.get? kS=some (seqObj "list" (List.toArray ks) e)/\s.heap.get? D=some (seqObj "list" #[] e1)/\∀ h' c,(∀ b o,b≠kS->b≠D->s.heap.get? b=some o->h'.get? b=some o)->(∃ c',h'.get? kS=some (seqObj "list" #[] c')) ->
  h'.get? D=some (seqObj "list" (List.toArray (p.toList.map fun i=>vs.getD i Value.none)) c)->P (.done (.ret .none)) { s with heap:=h' }
noncomputable def Gd (prog:Program) (w:World) (A:Around) (kS D:Addr) (ks vs:List Value) (e e1:Nat) (P:PySem.Fin->Shared->Prop) (s:Shared):Prop :=
 if vs.length<2 then SkFin kS D ks vs e e1 P (List.range vs.length).toArray s else wpAny (model prog w) A (keyKind' (List.toArray ks)) (fun κ s'=>(kas_sort vs.length).kasWp (kas_ask prog w A κ ks) (SkFin kS D ks vs e e1 P) s') (fun zz zz=>False) s
theorem sk_end {vs:List Value}{e e1:Nat}{P:PySem.Fin->Shared->Prop} (hne:D≠kS) (hl:ks.length=vs.length) (h64:vs.length<64)
  (h:Gd prog w A kS D ks vs e e1 P s) :
  wpAny (model prog w) A (ksk_end D false vs.toArray e1 (.ref kS) (List.toArray ks)) P E s:=by
 unfold Gd at h
 by_cases h2:vs.length<2
 ·rw [if_pos h2] at h
  have hn2:vs.toArray.size<2:=by rw [List.size_toArray];exact h2
  unfold ksk_end
  try dsimp only
  simp only [Bool.false_eq_true,if_false]
  rw [if_pos hn2,if_pos hn2]
  refine wpAny_bind (wpAny_pure ?_)
  refine wpAny_bind (wpAny_pure ?_)
  try dsimp only
  refine AU (h) fun f1 f2 f3=>?_
  refine Iv f1 f2 hne ?_ (by simp;exact h64) (by exact lin [(ks.length),(vs.length)] [] (.nlt 1 V0 K64) [.neq 1 V0 V1,.nlt 1 V1 K64] rfl hl h64) rfl f3
  have e1:(((List.toArray ks).zip (List.toArray vs)).map (·.2)).toList=vs:=by
   rw [Array.toList_map,Array.toList_zip]
   exact List.map_snd_zip (Nat.le_of_eq hl.symm)
  have e2:((List.range vs.length).map fun i=>vs.getD i Value.none)=vs:=by
   apply List.ext_getElem?
   intro i
   by_cases z:i<vs.length
   ·simp [z]
   ·simp [z]
  rw [List.toList_toArray,e2]
  exact (congrArg List.toArray e1)
 rw [if_neg h2] at h
 have h2:2<=vs.length:=Nat.not_lt.mp h2
 have hn2:¬ vs.toArray.size<2:=by rw [List.size_toArray];exact lin [(vs.length)] [] (.nge 1 V0 K2) [.nle 1 K2 V0] rfl h2
 unfold ksk_end
 try dsimp only
 simp only [Bool.false_eq_true,if_false]
 rw [if_neg hn2,if_neg hn2]
 refine wpAny_bind (wpAny_mono h (fun κ s0 hk=>?_) fun zz zz x=>x.elim)
 refine wpAny_bind (wpAny_mono (kat_run (ks:=ks) (vs:=vs) (Q:=fun st' s'=>∃ p:Array Nat,p.size=vs.length/\arrOf st'=p.map (kas_item ((List.toArray ks).zip (List.toArray vs)))/\failedOf st'=none/\SkFin kS D ks vs e e1 P p s')
  hl h2 h64 (fun p' st' s' a1 a2 a3 a4=>⟨p',a1,a2,a3,a4⟩) hk) ?_ fun zz zz x=>x)
 rintro ⟨⟨⟩,st'⟩ s' ⟨p,hp,har,hf,f1,f2,f3⟩
 try dsimp only
 exact Iv f1 f2 hne (kat_snds hl har) (by rw [List.length_map,Array.length_toList,hp];exact h64) (by exact lin [(ks.length),(vs.length)] [] (.nlt 1 V0 K64) [.neq 1 V0 V1,.nlt 1 V1 K64] rfl hl h64) hf f3
noncomputable def SkKeys (prog:Program) (w:World) (A:Around) (kS:Addr) (f:Value) (Fin:List Value->Nat->Shared->Prop):List Value->List Value->Nat->Shared->Prop
 | [],ks,e,s=>Fin ks e s
 | v::r,ks,e,s=>wpAny (model prog w) A (call f [v]) (fun k s'=>s'.heap.get? kS=some (seqObj "list" (List.toArray ks) e)/\∀ h' c,Heap.ExtBut kS s'.heap h'->h'.get? kS=some (seqObj "list" (List.toArray (ks++[k])) c)->SkKeys prog w A kS f Fin r (ks++[k]) c { s' with heap:=h' }) (fun zz zz=>False) s
theorem sk_fold {f:Value}{Fin:List Value->Nat->Shared->Prop}{n:Nat}{body:Value->PUnit->Sem (ForInStep PUnit)} (hn:n<64)
  (hb:∀ x ks e (s:Shared) (C:Value->Nat->Shared->Prop),List.length ks<64->wpAny (model prog w) A (call f [x]) (fun k s'=>s'.heap.get? kS=some (seqObj "list" (List.toArray ks) e)/\∀ h' c,Heap.ExtBut kS s'.heap h'->h'.get? kS=some (seqObj "list" (List.toArray (ks++[k])) c)->C k c { s' with heap:=h' }) (fun zz zz=>False) s ->
   wpAny (model prog w) A (body x ⟨⟩) (fun r s'=>r=.yield ⟨⟩/\∃ k c,s'.heap.get? kS=some (seqObj "list" (List.toArray (ks++[k])) c)/\C k c s') E s) (r:List Value):∀ (ks:List Value) (e:Nat) (s:Shared),ks.length+r.length=n ->
   s.heap.get? kS=some (seqObj "list" (List.toArray ks) e)->SkKeys prog w A kS f Fin r ks e s ->
   wpAny (model prog w) A (forIn r PUnit.unit body) (fun zz s'=>∃ ks e,s'.heap.get? kS=some (seqObj "list" (List.toArray ks) e)/\ks.length=n/\Fin ks e s') E s:=by
 induction r with
 | nil =>
  intro ks e s hl hk h
  rw [List.forIn_nil]
  exact wpAny_pure ⟨ks,e,hk,by simpa using hl,h⟩
 | cons x r ih =>
  intro ks e s hl hk h
  rw [List.length_cons] at hl
  rw [List.forIn_cons]
  refine wpAny_bind (wpAny_mono (hb x ks e s (fun k c s'=>SkKeys prog w A kS f Fin r (ks++[k]) c s') (by exact lin [n,(ks.length),(r.length)] [] (.nlt 1 V1 K64) [.nlt 1 V0 K64,.neq 1 (.add V1 (.add V2 K1)) V0] rfl hn hl) h) (fun q s' hq=>?_) fun zz zz x=>x)
  refine X0lp (hq) fun hy95_0=>?_
  refine X2pp (hy95_0) fun k c hk' h2=>?_
  show wpAny (model prog w) A (forIn r PUnit.unit body) _ E s'
  exact ih (ks++[k]) c s' (by rw [List.length_append,List.length_singleton];exact Nat.le_antisymm (lin [(ks.length),(r.length),n] [] (.nle 1 (.add (.add V0 K1) V1) V2) [.neq 1 (.add V0 (.add V1 K1)) V2] rfl hl) (lin [(ks.length),(r.length),n] [] (.nle 1 V2 (.add (.add V0 K1) V1)) [.neq (-1) (.add V0 (.add V1 K1)) V2] rfl hl)) hk' h2
theorem sk_rest {vs:List Value}{f:Value}{e1:Nat}{P:PySem.Fin->Shared->Prop} (hne:D≠kS) (hk:s.heap.get? kS=some (seqObj "list" #[] 0)) (h64:vs.length<64)
  (h:SkKeys prog w A kS f (fun ks e s'=>Gd prog w A kS D ks vs e e1 P s') vs [] 0 s) :
  wpAny (model prog w) A (ksk_rest D f false vs.toArray e1 (.ref kS)) P E s:=by
 unfold ksk_rest
 refine wpAny_bind (wpAny_rule ?_)
 first
  | rw [List.forIn_toArray]
  | (rw [<- Array.forIn_toList];simp only [List.toList_toArray])
  | rw [<- Array.forIn_toList]
 refine wpAny_bind (wpAny_mono (sk_fold (kS:=kS) h64 (fun x ks e s' C hz hx=>?_) vs [] 0 s (by simp) hk h) (fun zz s' hd=>?_) fun zz zz x=>x)
 ·refine wpAny_bind (wpAny_attempt (wpAny_mono hx (fun k s'' hk=>?_) fun zz zz hF=>hF.elim))
  refine Ad (hk) fun nk c=>?_
  have s1:=Heap.SameBut.update s''.heap kS (Obj.mapSeq (·.push k))
  have ea:(List.toArray ks).push k=List.toArray (ks++[k]):=by simp
  obtain ⟨c2,hc2⟩:∃ c2,(s''.heap.update kS (Obj.mapSeq (·.push k))).get? kS=some (seqObj "list" (List.toArray (ks++[k])) c2):=⟨_,by rw [<- ea];exact get?_update_seq nk (·.push k)⟩
  try dsimp only
  refine wpAny_bind (listUpdate_at nk rfl ?_ (by rw [List.size_toArray,sizeLine_eq];exact lin [(ks.length)] [] (.nle 1 V0 AH) [.nlt 1 V0 K64] rfl hz) (Nat.le_trans (Nat.le_of_eq (Array.size_push ..)) (by rw [List.size_toArray,sizeLine_eq];exact lin [(ks.length)] [] (.nle 1 (.add V0 K1) (.add AH K1)) [.nlt 1 V0 K64] rfl hz)))
  exact wpAny_pure ⟨rfl,k,c2,hc2,c _ c2 s1.extBut hc2⟩
 ·refine X2ppp (hd) fun ks e hk' hl fin=>?_
  try dsimp only
  refine wpAny_bind (listItems_at hk' rfl ?_)
  exact sk_end hne hl h64 fin
theorem sk_keyed {vs:List Value}{f:Value}{n:Nat}{P:PySem.Fin->Shared->Prop} (ho:s.heap.get? D=some (seqObj "list" vs.toArray n)) (h64:vs.length<64)
  (h:∀ kS e1 h',D≠kS->s.heap.get? kS=none->Heap.ExtBut D s.heap h'->h'.get? D=some (seqObj "list" #[] e1)->h'.get? kS=some (seqObj "list" #[] 0) ->
   SkKeys prog w A kS f (fun ks e s'=>Gd prog w A kS D ks vs e e1 P s') vs [] 0 { s with heap:=h' }) :
  wpAny (model prog w) A (ksk_tree D f false) P E s:=by
 have ha:D<s.heap.objs.size:=Heap.lt_size ho
 have s1:=Heap.SameBut.update s.heap D (Obj.mapSeq fun zz=>(#[]:Array Value))
 obtain ⟨e1,ho1⟩:∃ e1,(s.heap.update D (Obj.mapSeq fun zz=>(#[]:Array Value))).get? D=some (seqObj "list" #[] e1):=⟨_,get?_update_seq ho fun zz=>#[]⟩
 have hkS:((s.heap.update D (Obj.mapSeq fun zz=>(#[]:Array Value))).push (seqObj "tuple" vs.toArray 0)).objs.size=s.heap.objs.size+1:=by rw [size_push',Heap.size_update]
 have hn:D≠((s.heap.update D (Obj.mapSeq fun zz=>(#[]:Array Value))).push (seqObj "tuple" vs.toArray 0)).objs.size:=by rw [hkS];exact Nat.ne_of_lt (Nat.lt_succ_of_lt ha)
 unfold ksk_tree
 refine wpAny_bind (listItems_at ho rfl ?_)
 refine wpAny_bind (listUpdate_at ho rfl ?_ (by rw [List.size_toArray,sizeLine_eq];exact lin [(vs.length)] [] (.nle 1 V0 AH) [.nlt 1 V0 K64] rfl h64) (Nat.zero_le _))
 refine wpAny_bind (seqEpoch_at ho1 rfl ?_)
 refine wpAny_bind (wpAny_newTuple ?_ (by show vs.length<=_;rw [sizeLine_eq];exact lin [(vs.length)] [] (.nle 1 V0 AH) [.nlt 1 V0 K64] rfl h64))
 refine wpAny_bind (wpAny_newList ?_ (Nat.zero_le _))
 refine wpAny_holding ?_
 refine sk_rest (s:={ s with heap:=((s.heap.update D (Obj.mapSeq fun zz=>(#[]:Array Value))).push (seqObj "tuple" vs.toArray 0)).push (seqObj "list" #[] 0) }) (kS:=((s.heap.update D (Obj.mapSeq fun zz=>(#[]:Array Value))).push (seqObj "tuple" vs.toArray 0)).objs.size)
  hn (Heap.get?_push_size _ rfl) h64 (h _ e1 _ hn (Heap.get?_none_of_le (by rw [hkS];exact Nat.le_succ _)) (fun b o hb e=>Heap.get?_push_of_some _ (Heap.get?_push_of_some _ (s1.extBut b o hb e))) (Heap.get?_push_of_some _ (Heap.get?_push_of_some _ ho1)) (Heap.get?_push_size _ rfl))
end
end Mine
end
section
namespace Mine
open PySem PySem.W PySem.Calls PyProof.Rows
section
variable {prog:Program}{w:World}{A:Around}{E:Value->Shared->Prop}{s:Shared}{kS D:Addr}{ks:List Value}
theorem SkFin.mono {vs:List Value}{e e1:Nat}{P P':PySem.Fin->Shared->Prop}{p:Array Nat} (h:SkFin kS D ks vs e e1 P p s) (k:∀ s,P (.done (.ret .none)) s->P' (.done (.ret .none)) s):SkFin kS D ks vs e e1 P' p s :=
 ⟨h.1,h.2.1,fun h' c a b d=>k _ (h.2.2 h' c a b d)⟩
theorem SkKeys.mono {f:Value}{Fin Fin':List Value->Nat->Shared->Prop} (r:List Value):∀ {ks:List Value}{e:Nat}{s:Shared},SkKeys prog w A kS f Fin r ks e s ->
  (∀ ks' e' s',ks'.length=ks.length+r.length->Fin ks' e' s'->Fin' ks' e' s')->SkKeys prog w A kS f Fin' r ks e s:=by
 induction r with
 | nil=>intro ks e s h hf;exact hf ks e s rfl h
 | cons v r ih =>
  intro ks e s h hf
  refine wpAny_mono h (fun k s' hk=>⟨hk.1,fun h' c a b=>ih (hk.2 h' c a b) fun ks' e' s'' hl=>hf ks' e' s'' ?_⟩) fun zz zz x=>x
  rw [hl,List.length_append,List.length_singleton,List.length_cons]
  exact Nat.le_antisymm (lin [(ks.length),(r.length)] [] (.nle 1 (.add (.add V0 K1) V1) (.add V0 (.add V1 K1))) [] rfl) (lin [(ks.length),(r.length)] [] (.nle 1 (.add V0 (.add V1 K1)) (.add (.add V0 K1) V1)) [] rfl)
theorem Iw {l:Addr}{vs:List Value}{f:Value}{Q:Value->Shared->Prop} (hl:s.heap.IsList l vs.toArray) (h64:vs.length<64) (ht:∀ x,Builtin.«list.sort» ⟨[.ref x],[(Str.ofString "key",f)]⟩=ksk_tree x f false)
  (h:∀ D kS e1 h',D≠kS->s.heap.get? D=none->s.heap.get? kS=none->(∀ b o,s.heap.get? b=some o->h'.get? b=some o)->h'.get? D=some (seqObj "list" #[] e1)->h'.get? kS=some (seqObj "list" #[] 0) ->
   SkKeys prog w A.in1.in1 kS f (fun ks e s'=>Gd prog w A.in1.in1 kS D ks vs e e1 (fun zz s4=>Q (.ref D) s4) s') vs [] 0 { s with heap:=h' }) :
  wpAny (model prog w) A (call (.builtin "sorted") [.ref l] [(Str.ofString "key",f)]) Q E s:=by
 refine call_function_entry_kw kind_sorted plain_sorted entry_sorted (ksk_s1 _ _) ?_
 unfold Builtin.«sorted»
 refine wpAny_bind (m:=checkCount "sorted" 1 1 _) (wpAny_pure ?_)
 refine wpAny_bind (collect_list hl ?_ (by rw [sizeLine_eq];exact lin [(vs.length)] [] (.nle 1 V0 AH) [.nlt 1 V0 K64] rfl h64))
 refine wpAny_bind (wpAny_newList ?_ (by rw [sizeLine_eq];exact lin [(vs.length)] [] (.nle 1 V0 AH) [.nlt 1 V0 K64] rfl h64))
 have hsz:((s.heap.push (seqObj "list" #[] 0)).update s.heap.objs.size (Obj.mapSeq (·++vs.toArray))).objs.size=s.heap.objs.size+1:=by
  rw [Heap.size_update,size_push']
 have hoL:(((s.heap.push (seqObj "list" #[] 0)).update s.heap.objs.size (Obj.mapSeq (·++vs.toArray))).push (seqObj "list" vs.toArray 0)).get? (s.heap.objs.size+1)=some (seqObj "list" vs.toArray 0):=by
  rw [<- hsz];exact Heap.get?_push_size _ rfl
 have keep:∀ b o,s.heap.get? b=some o->(((s.heap.push (seqObj "list" #[] 0)).update s.heap.objs.size (Obj.mapSeq (·++vs.toArray))).push (seqObj "list" vs.toArray 0)).get? b=some o:=fun b o q=>by
  have hlt:b<s.heap.objs.size:=Heap.lt_size q
  rw [Heap.get?_push_ne _ _ _ (by rw [hsz];exact Nat.ne_of_lt (Nat.lt_succ_of_lt hlt)),Heap.get?_update_ne _ _ _ _ (Nat.ne_of_lt hlt),Heap.get?_push_ne _ _ _ (Nat.ne_of_lt hlt)]
  exact q
 show wpAny _ _ _ _ _ { s with heap:=((s.heap.push (seqObj "list" #[] 0)).update s.heap.objs.size (Obj.mapSeq (·++vs.toArray))).push (seqObj "list" vs.toArray 0) }
 rw [hsz]
 refine wpAny_bind (wpAny_holding (wpAny_call_entry_kw slot_list_sort ⟨_,hoL,rfl⟩ entry_list_sort ?body (ksk_l1 _ _)))
 case body =>
  show wpAny (model prog w) A.in1.in1 (Builtin.«list.sort» ⟨[.ref (s.heap.objs.size+1)],[(Str.ofString "key",f)]⟩) _ _ _
  rw [ht]
  refine sk_keyed (s:={ s with heap:=((s.heap.push (seqObj "list" #[] 0)).update s.heap.objs.size (Obj.mapSeq (·++vs.toArray))).push (seqObj "list" vs.toArray 0) }) hoL h64 fun kS e1 h' a1 a2 a3 a4 a5=>?_
  have nD:s.heap.get? (s.heap.objs.size+1)=none:=Heap.get?_none_of_le (Nat.le_succ _)
  have nK:s.heap.get? kS=none:=by
   cases q:s.heap.get? kS with
   | none=>rfl
   | some o=>rw [keep _ _ q] at a2;cases a2
  refine SkKeys.mono vs (h _ kS e1 h' a1 nD nK (fun b o q=>a3 b o (fun e=>by rw [e,nD] at q;cases q) (keep b o q)) a4 a5) fun ks e s' hl' hd=>?_
  have hl2:ks.length=vs.length:=by simpa using hl'
  unfold Gd at hd ⊢
  by_cases hz:vs.length<2
  ·rw [if_pos hz] at hd ⊢
   exact hd.mono fun s4 hq=>⟨_,rfl,wpAny_pure ⟨_,rfl,hq⟩⟩
  rw [if_neg hz] at hd ⊢
  refine wpAny_mono hd (fun κ s'' hk=>?_) fun zz zz x=>x
  rw [kat_ask_eq (vs:=vs) hl2] at hk ⊢
  exact kas_wp_mono hk fun p s3 hk'=>hk'.mono fun s4 hq=>⟨_,rfl,wpAny_pure ⟨_,rfl,hq⟩⟩
end
end Mine
end
section
namespace Mine
open PySem PySem.W PySem.Calls PyProof.Rows
section
variable {prog:Program}{w:World}{A:Around}{E:Value->Shared->Prop}{s:Shared}
theorem HF {a b:Int}{t u:Tok}{Q:Bool->Shared->Prop} (h:Q (decide (a<b)) s):wpAny (model prog w) A (oneLt' false (.int a t) (.int b u)) Q E s:=by
 rw [oneLt'_eq]
 simp only [Bool.false_eq_true,if_false]
 refine wpAny_bind (lt_int ?_)
 exact wpAny_truthy_bool h
noncomputable def At (p q:Int×Int):Bool:=if p.1=q.1 then decide (p.2<q.2) else decide (p.1<q.1)
theorem pair_lt {x y:Addr}{p q:Int×Int}{t u t' u':Tok}{n k:Nat}{Q:Bool->Shared->Prop} (hx:s.heap.get? x=some { cls:=.type "tuple",data:=.seq #[.int p.1 t,.int p.2 u] n }) (hy:s.heap.get? y=some { cls:=.type "tuple",data:=.seq #[.int q.1 t',.int q.2 u'] k })
  (h:Q (At p q) s):wpAny (model prog w) A (keyLt' (tuples' true) (.ref x) (.ref y)) Q E s:=by
 refine kat_lt hx rfl hy rfl ?_
 refine kat_cons (wpAny_eqBool_int ?_)
 unfold At at h
 by_cases e:p.1=q.1
 ·rw [if_pos e] at h
  rw [show (p.1 == q.1)=true from beq_iff_eq.mpr e]
  refine kat_yes (kat_cons (wpAny_eqBool_int ?_))
  by_cases e2:p.2=q.2
  ·rw [show (p.2 == q.2)=true from beq_iff_eq.mpr e2]
   refine kat_yes (kat_nil ?_)
   rw [e2] at h
   have:decide (q.2<q.2)=false:=decide_eq_false (Int.lt_irrefl _)
   rw [this] at h
   exact h
  ·rw [show (p.2 == q.2)=false from beq_eq_false_iff_ne.mpr e2]
   exact kat_no (HF h)
 ·rw [if_neg e] at h
  rw [show (p.1 == q.1)=false from beq_eq_false_iff_ne.mpr e]
  exact kat_no (oneLt_int h)
theorem pairLt_iff {p q:Int×Int}:At p q=true↔(p.1<q.1\/(p.1=q.1/\p.2<q.2)):=by
 unfold At
 by_cases e:p.1=q.1
 ·rw [if_pos e,decide_eq_true_eq];exact ⟨fun h=>.inr ⟨e,h⟩,fun h=>h.elim (fun h=>(Int.ne_of_lt h e).elim) (·.2)⟩
 ·rw [if_neg e,decide_eq_true_eq];exact ⟨.inl,fun h=>h.elim id fun h=>(e h.1).elim⟩
theorem BD {p q:Int×Int} (h:At p q=false):q.1<=p.1/\(p.1=q.1->q.2<=p.2) :=
 have z:=fun y=>Bool.eq_false_iff.mp h (pairLt_iff.mpr y)
 ⟨Int.not_lt.mp fun y=>z (.inl y),fun e=>Int.not_lt.mp fun y=>z (.inr ⟨e,y⟩)⟩
theorem HD (k:Nat->Int×Int):Ord fun i j=>At (k i) (k j) where
 trans:=fun a b c h1 h2=>by
  refine Ad (BD h1) fun a1 a2=>?_
  refine Ad (BD h2) fun b1 b2=>?_
  refine Bool.eq_false_iff.mpr fun h3=>?_
  rcases pairLt_iff.mp h3 with c1 | ⟨c1,c2⟩
  ·exact lin [] [((k a).fst),((k b).fst),((k c).fst)] .no [.ile 1 V0 V1,.ile 1 V1 V2,.ilt 1 V2 V0] rfl a1 b1 c1
  ·have a3:=a2 (by exact Int.le_antisymm (lin [] [((k b).fst),((k c).fst),((k a).fst)] (.ile 1 V0 V2) [.ile 1 V0 V1,.ieq 1 V1 V2] rfl b1 c1) (a1))
   have b3:=b2 (by exact Int.le_antisymm (lin [] [((k a).fst),((k b).fst),((k c).fst)] (.ile 1 V2 V1) [.ile 1 V0 V1,.ieq 1 V2 V0] rfl a1 c1) (b1))
   exact lin [] [((k c).snd),((k a).snd),((k b).snd)] .no [.ilt 1 V0 V1,.ile 1 V1 V2,.ile 1 V2 V0] rfl c2 a3 b3
 up:=fun a b c h1 h2=>by
  refine Ad (BD h2) fun a1 a2=>?_
  refine Bool.not_eq_false _▸fun h3=>?_
  refine Ad (BD h3) fun b1 b2=>?_
  rcases pairLt_iff.mp h1 with c1 | ⟨c1,c2⟩
  ·exact lin [] [((k a).fst),((k b).fst),((k c).fst)] .no [.ile 1 V0 V1,.ile 1 V1 V2,.ilt 1 V2 V0] rfl a1 b1 c1
  ·have a3:=a2 (by exact Int.le_antisymm (lin [] [((k b).fst),((k c).fst),((k a).fst)] (.ile 1 V0 V2) [.ile 1 V0 V1,.ieq 1 V1 V2] rfl b1 c1) (a1))
   have b3:=b2 (by exact Int.le_antisymm (lin [] [((k a).fst),((k b).fst),((k c).fst)] (.ile 1 V2 V1) [.ile 1 V0 V1,.ieq 1 V2 V0] rfl a1 c1) (b1))
   exact lin [] [((k c).snd),((k a).snd),((k b).snd)] .no [.ilt 1 V0 V1,.ile 1 V1 V2,.ile 1 V2 V0] rfl c2 a3 b3
 irr:=fun a=>by unfold At;rw [if_pos rfl];exact decide_eq_false (Int.lt_irrefl _)
 asym:=fun a b h1 h2=>by
  rcases pairLt_iff.mp h1 with c1 | ⟨c1,c2⟩
  ·rcases pairLt_iff.mp h2 with d1 | ⟨d1,d2⟩
   ·exact lin [] [((k a).fst),((k b).fst)] .no [.ilt 1 V0 V1,.ilt 1 V1 V0] rfl c1 d1
   ·exact lin [] [((k a).fst),((k b).fst)] .no [.ilt 1 V0 V1,.ieq 1 V1 V0] rfl c1 d1
  ·rcases pairLt_iff.mp h2 with d1 | ⟨d1,d2⟩
   ·exact lin [] [((k a).fst),((k b).fst)] .no [.ieq 1 V0 V1,.ilt 1 V1 V0] rfl c1 d1
   ·exact lin [] [((k a).snd),((k b).snd)] .no [.ilt 1 V0 V1,.ilt 1 V1 V0] rfl c2 d2
end
end Mine
end
section
namespace Mine
open PySem PySem.W PySem.Calls PyProof.Rows
section
variable {prog:Program}{w:World}{A:Around}{E:Value->Shared->Prop}{s:Shared}
noncomputable def IsPr (h:Heap) (v:Value) (p:Int×Int):Prop:=∃ a t u n,v=.ref a/\h.get? a=some { cls:=.type "tuple",data:=.seq #[.int p.1 t,.int p.2 u] n }
theorem Hz {h:Heap} (ks:List Value) (hk:∀ v∈ks,∃ p,IsPr h v p):∃ fs,KatTups h ks fs/\fs.length=ks.length/\∀ v∈fs,∃ i t,v=.int i t:=by
 induction ks with
 | nil=>exact ⟨[],.nil,rfl,fun v hv=>absurd hv List.not_mem_nil⟩
 | cons v ks ih =>
  refine X5pp (hk _ (.head _)) fun p a t u n he14_5 e=>?_
  subst he14_5
  refine X1ppp (ih fun v hv=>hk v (.tail _ hv)) fun fs h1 h2 h3=>?_
  exact ⟨.int p.1 t::fs,KatTups.cons e rfl rfl rfl h1,congrArg Nat.succ h2,fun v hv=>(List.mem_cons.mp hv).elim (fun q=>⟨_,_,q⟩) (h3 v)⟩
theorem HA {ks:List Value}{Q:SortKind->Shared->Prop} (hk:∀ v∈ks,∃ p,IsPr s.heap v p) (hne:0<ks.length) (h:Q (tuples' true) s):wpAny (model prog w) A (keyKind' ks.toArray) Q E s:=by
 refine X1ppp (Hz ks hk) fun fs h1 h2 h3=>?_
 refine kat_kind (T:=.type "int") h1 (by exact lin [(ks.length),(fs.length)] [] (.nlt 1 K0 V1) [.nlt 1 K0 V0,.neq (-1) V1 V0] rfl hne h2) (fun v hv=>?_) rfl h
 refine X2p (h3 v hv) fun i t he20_2=>?_
 subst he20_2
 exact .now
end
end Mine
end
section
namespace Mine
open PySem PySem.W PySem.Calls PyProof.Rows
noncomputable def AR {α:Type} (n:Nat) (R:α->Prop):KasT α->Prop
 | .ret a=>R a
 | .ask i j k=>i<n/\j<n/\∀ b,AR n R (k b)
theorem AR.bind {α β:Type}{n:Nat}{R:α->Prop}{R':β->Prop}{f:α->KasT β} (t:KasT α) (h:AR n R t) (hf:∀ a,R a->AR n R' (f a)):AR n R' (t.bind f):=by
 induction t with
 | ret a=>exact hf a h
 | ask i j k ih=>exact ⟨h.1,h.2.1,fun b=>ih b (h.2.2 b)⟩
noncomputable def AllLt (n:Nat) (p:Array Nat):Prop:=∀ k,p.getD k 0<n
theorem AllLt.perm {n:Nat}{p q:Array Nat} (hn:0<n) (h:AllLt n p) (e:q.Perm p):AllLt n q:=fun k=>by
 rw [Array.getD_eq_getD_getElem?]
 cases g:q[k]? with
 | none=>exact hn
 | some x =>
  have hx:x∈q:=Array.mem_of_getElem? g
  have hp:x∈p:=e.mem_iff.mp hx
  obtain ⟨i,hi,rfl⟩:=Array.mem_iff_getElem.mp hp
  have:=h i
  rw [Array.getD_eq_getD_getElem?,Array.getElem?_eq_getElem hi] at this
  exact this
theorem ar_asc {n:Nat}{p:Array Nat} (h:AllLt n p) (f:Nat):∀ m,AR n (fun zz=>True) (kas_asc p f m):=by
 induction f with
 | zero=>intro m;exact trivial
 | succ f ih =>
  intro m
  refine ⟨h _,h _,fun b=>?_⟩
  cases b
  ·exact ih (m+1)
  ·exact trivial
theorem ar_desc {n:Nat} (hn:0<n) (f:Nat):∀ (p:Array Nat) (m q:Nat),AllLt n p->AR n (fun r=>AllLt n r.1) (kas_desc f p m q):=by
 induction f with
 | zero=>intro p m q h;exact h
 | succ f ih =>
  intro p m q h
  refine ⟨h _,h _,fun b=>?_⟩
  cases b
  ·refine ⟨h _,h _,fun b=>?_⟩
   cases b
   ·exact ih p (m+1) (q+1) h
   ·exact h
  ·show AR n _ (if q > 0 then _ else _)
   by_cases c:q > 0
   ·rw [if_pos c];exact ih _ _ _ (h.perm hn (mirror_perm _ _ _ _))
   ·rw [if_neg c];exact ih _ _ _ h
theorem He {n:Nat} (hn:0<n) {p:Array Nat} (h:AllLt n p) (m r:Nat):AR n (fun r=>AllLt n r.2) (kas_tail3 m r p) :=
 AR.bind _ (ar_asc (h.perm hn (mirror_perm _ _ _ _)) _ _) fun zz zz=>h.perm hn (mirror_perm _ _ _ _)
theorem Dz {n:Nat} (hn:0<n) {p:Array Nat} (h:AllLt n p) (m r:Nat):AR n (fun r=>AllLt n r.2) (kas_descPart m r p):=by
 refine AR.bind _ (ar_desc hn _ _ _ _ h) fun a ha=>?_
 by_cases c:a.2.2 > 0
 ·rw [if_pos c];exact He hn (ha.perm hn (mirror_perm _ _ _ _)) _ _
 ·rw [if_neg c];exact He hn ha _ _
theorem ar_count {n:Nat} (hn:0<n) {p:Array Nat} (h:AllLt n p) (r:Nat):AR n (fun r=>AllLt n r.2) (kas_count r p):=by
 refine AR.bind _ (ar_asc h _ _) fun m zz=>?_
 by_cases c:(m == r)=true
 ·rw [if_pos c];exact h
 ·rw [if_neg c]
  by_cases d:m > 1
  ·rw [if_pos d]
   refine ⟨h _,h _,fun b=>?_⟩
   cases b
   ·exact Dz hn (h.perm hn (mirror_perm _ _ _ _)) _ _
   ·exact h
  ·rw [if_neg d];exact Dz hn h _ _
theorem ar_place {n:Nat}{p:Array Nat} (h:AllLt n p) (k f:Nat):∀ l r,AR n (fun zz=>True) (kas_place p k f l r):=by
 induction f with
 | zero=>intro l r;exact trivial
 | succ f ih =>
  intro l r
  show AR n _ (if l >= r then _ else _)
  by_cases c:l >= r
  ·rw [if_pos c];exact trivial
  ·rw [if_neg c]
   refine ⟨h _,h _,fun b=>?_⟩
   cases b
   ·exact ih _ _
   ·exact ih _ _
theorem ar_bin {n:Nat} (hn:0<n) (f:Nat):∀ (p:Array Nat) (k:Nat),AllLt n p->AR n (fun zz=>True) (kas_bin f p k):=by
 induction f with
 | zero=>intro p k _;exact trivial
 | succ f ih=>intro p k h;exact AR.bind _ (ar_place h _ _ _ _) fun l zz=>ih _ _ (h.perm hn (bubble_perm _ _ _))
theorem ar_sort {n:Nat} (hn:0<n):AR n (fun zz=>True) (kas_sort n):=by
 refine AR.bind _ (ar_count hn (p:=List.toArray (List.range n)) (fun k=>?_) _) fun r hr=>?_
 ·rw [Array.getD_eq_getD_getElem?]
  cases g:(List.toArray (List.range n))[k]? with
  | none=>exact hn
  | some x =>
   have:x∈List.range n:=by simpa using Array.mem_of_getElem? g
   exact List.mem_range.mp this
 ·by_cases c:r.1<n
  ·rw [if_pos c];exact ar_bin hn _ _ _ hr
  ·rw [if_neg c];exact trivial
end Mine
end
section
namespace Mine
open PySem PySem.W PySem.Calls PyProof.Rows
theorem kasWp_ar {α:Type}{n:Nat}{R:α->Prop}{cmp:Nat->Nat->(Bool->Shared->Prop)->Shared->Prop}{lt:Nat->Nat->Bool}{I:Shared->Prop} (h:∀ i j C s,i<n->j<n->I s->(∀ s',I s'->C (lt i j) s')->cmp i j C s) {Q:α->Shared->Prop} (t:KasT α) (ht:AR n R t) :
  ∀ {s:Shared},I s->(∀ s',I s'->Q (ans lt t) s')->t.kasWp cmp Q s:=by
 induction t with
 | ret a=>intro s hs hq;exact hq s hs
 | ask i j k ih=>intro s hs hq;exact h i j _ s ht.1 ht.2.1 hs fun s' hs'=>ih (lt i j) (ht.2.2 _) hs' hq
section
variable {prog:Program}{w:World}{A:Around}{s:Shared}
theorem FD {ks:List Value}{kk:Nat->Int×Int}{n:Nat}{G:Array Nat->Shared->Prop} (hn:0<n) (hk:∀ i,i<n->IsPr s.heap (ks.getD i Value.none) (kk i)) (h:G (ans (fun i j=>At (kk i) (kk j)) (kas_sort n)) s) :
  (kas_sort n).kasWp (kas_ask prog w A (tuples' true) ks) G s:=by
 refine kasWp_ar (I:=fun s'=>s'=s) (lt:=fun i j=>At (kk i) (kk j)) (fun i j C s' hi hj hs hC=>?_) _ (ar_sort hn) rfl fun s' e=>e▸h
 subst hs
 unfold kas_ask
 refine X4pp (hk i hi) fun a t u m e1 g1=>?_
 refine X4pp (hk j hj) fun b t' u' m' e2 g2=>?_
 rw [e1,e2]
 exact pair_lt g1 g2 (hC _ rfl)
theorem IN {kk:Nat->Int×Int}{n:Nat} (h2:2<=n) (d:∀ i j,i≠j->i<n->j<n->kk i≠kk j) :
  Srt (fun i j=>At (kk i) (kk j)) (ans (fun i j=>At (kk i) (kk j)) (kas_sort n)) n/\(ans (fun i j=>At (kk i) (kk j)) (kas_sort n)).Perm (List.toArray (List.range n)) :=
 sort_srt (HD kk) h2 fun i j hij hi hj=>by
  have:=d i j hij hi hj
  unfold At
  by_cases e:(kk i).1=(kk j).1
  ·rw [if_pos e,if_pos e.symm,decide_eq_true_eq,decide_eq_true_eq]
   have:(kk i).2≠(kk j).2:=fun e2=>this (Prod.ext e e2)
   exact Decidable.byContradiction fun z0=>(Nat.lt_or_gt_of_ne hij).elim (fun z1=>(Int.lt_or_gt_of_ne this).elim (fun z2=>lin [] [((kk i).snd),((kk j).snd)] .no [.ige 1 V0 V1,.ilt 1 V0 V1] rfl (fun z=>z0 (.inl z)) z2) (fun z2=>lin [] [((kk j).snd),((kk i).snd)] .no [.ige 1 V0 V1,.ilt 1 V0 V1] rfl (fun z=>z0 (.inr z)) z2)) (fun z1=>(Int.lt_or_gt_of_ne this).elim (fun z2=>lin [] [((kk i).snd),((kk j).snd)] .no [.ige 1 V0 V1,.ilt 1 V0 V1] rfl (fun z=>z0 (.inl z)) z2) (fun z2=>lin [] [((kk j).snd),((kk i).snd)] .no [.ige 1 V0 V1,.ilt 1 V0 V1] rfl (fun z=>z0 (.inr z)) z2))
  ·rw [if_neg e,if_neg (Ne.symm e),decide_eq_true_eq,decide_eq_true_eq]
   exact Decidable.byContradiction fun z0=>(Nat.lt_or_gt_of_ne hij).elim (fun z1=>(Int.lt_or_gt_of_ne e).elim (fun z2=>lin [] [((kk i).fst),((kk j).fst)] .no [.ige 1 V0 V1,.ilt 1 V0 V1] rfl (fun z=>z0 (.inl z)) z2) (fun z2=>lin [] [((kk j).fst),((kk i).fst)] .no [.ige 1 V0 V1,.ilt 1 V0 V1] rfl (fun z=>z0 (.inr z)) z2)) (fun z1=>(Int.lt_or_gt_of_ne e).elim (fun z2=>lin [] [((kk i).fst),((kk j).fst)] .no [.ige 1 V0 V1,.ilt 1 V0 V1] rfl (fun z=>z0 (.inl z)) z2) (fun z2=>lin [] [((kk j).fst),((kk i).fst)] .no [.ige 1 V0 V1,.ilt 1 V0 V1] rfl (fun z=>z0 (.inr z)) z2))
end
end Mine
end
section
namespace Mine
open PySem PyProof.Rows PySem.W
variable {prog:Program}{w:World}{S:Sta prog w}
section
variable {tb:List Nat}{env:Env}{N P Z:Addr->Prop}{b:Store×Shared}{m:Vars}{σ:Store}{s:Shared}{h':Heap}
theorem St.apartZ {tk:Nat} (hs:Mine.St S tb env N P b m σ s) (k:∀ b o,s.heap.get? b=some o->h'.get? b=some o) (hZ:∀ a,Z a->s.heap.get? a=Option.none/\∃ o,h'.get? a=some o/\∀ vs,o.data≠.fields vs) :
  Mine.St S tb env (fun a=>N a\/Z a) P b m σ { s with heap:=h',toks:=tk }/\Step noO noO σ s σ { s with heap:=h',toks:=tk }:=by
 refine Ad (hs.grow k tk) fun h1 st=>?_
 have e0:Ext (DN N σ) s.heap h':=Ext.of_keeps k
 have hDN:∀ b,DN (fun a=>N a\/Z a) σ b->DN N σ b\/s.heap.get? b=Option.none:=by
  rintro b (q | q | q)
  ·exact .inl (.inl q)
  ·exact .inl (.inr q)
  ·exact .inr (hZ b q).1
 refine ⟨⟨⟨h1.inv.keep,h1.inv.gens,h1.inv.drawn,h1.inv.os,h1.inv.σg,?_,?_,fun a o e=>(hs.inv.rep a o e).ext e0 hDN (k a)⟩,?_,h1.frm,fun a q=>.inl (hs.pN a q),hs.new,fun a q=>.inl (hs.own a q),hs.gb⟩,st⟩
 ·rintro a d (q | q)
  ·exact hs.inv.σN a d q
  ·exact hs.inv.not_dom (hZ a q).1 d
 ·rintro a (q | q)
  ·exact h1.inv.Nin a q
  ·exact (hZ a q).2
 ·have ow:=hs.loc
  obtain ⟨_,_,_,_,ow,_⟩:=ow
  exact hs.loc.map (fun a o zz e=>k a o e) (fun a q=>(ow a q).1) fun r=>r.ext e0 hDN
theorem St.turnZ (hs:Mine.St S tb env N P b m σ s) (hZ:∀ a,Z a->N a/\¬ Own env a/\b.2.heap.get? a=Option.none) (hb:∀ c o,¬ Z c->s.heap.get? c=some o->h'.get? c=some o) (hex:∀ a,Z a->∃ o,h'.get? a=some o/\∀ vs,o.data≠.fields vs) :
  Mine.St S tb env N P b m σ { s with heap:=h' }/\Step P Z σ s σ { s with heap:=h' }:=by
 have e0:Ext (DN N σ) s.heap h':=Ext.of_but fun c o d e=>hb c o (fun q=>d (.inr (hZ c q).1)) e
 have hD:∀ c,DN N σ c->DN N σ c\/s.heap.get? c=Option.none:=fun c q=>.inl q
 have rep:∀ {av v},Rep S.cv s.heap (DN N σ) av v->Rep S.cv h' (DN N σ) av v:=fun r=>r.ext e0 hD
 have there:∀ a o,s.heap.get? a=some o->∃ o',h'.get? a=some o':=fun a o e=>by
  by_cases q:Z a
  ·refine X1pp (hex a q) fun o' e' zz=>?_;exact ⟨o',e'⟩
  ·exact ⟨o,hb a o q e⟩
 obtain ⟨mc,cm,n,cc,ow,ap,cl,rr⟩:=hs.loc
 refine ⟨⟨⟨fun a o e=>hb a o (fun q=>?_) (hs.inv.keep a o e),hs.inv.gens,hs.inv.drawn,hs.inv.os,hs.inv.σg,hs.inv.σN,fun a q=>?_,fun a o e=>(hs.inv.rep a o e).ext e0 hD fun ob e'=>hb a ob (fun z=>hs.inv.σN a (by unfold Dom;rw [e];simp) (hZ a z).1) e'⟩,?_,?_,hs.pN,hs.new,hs.own,hs.gb⟩,
  Step.of_but (fun a o zz n e=>hb a o n e) (fun zz h=>.inl h) there⟩
 ·rw [hs.gb a (hZ a q).2.2] at e;cases e
 ·refine X1pp (hs.inv.Nin a q) fun o e nf=>?_
  by_cases z:Z a
  ·exact hex a z
  ·exact ⟨o,hb a o z e,nf⟩
 ·refine ⟨mc,cm,?_,fun z a hz=>?_,ow,ap,cl,fun z j av hj hm=>?_⟩
  ·refine X3pp (n) fun o es ep e d=>?_;exact ⟨o,es,ep,hb _ _ (fun q=>(hZ _ q).2.1 (.inl rfl)) e,d⟩
  ·refine X1pp (cc z a hz) fun o e d=>?_;exact ⟨o,hb _ _ (fun q=>(hZ _ q).2.1 (.inr ⟨z,hz⟩)) e,d⟩
  ·exact LocAt.map (rr z j av hj hm) (fun h2=>rep h2) (fun zz h1=>h1) (fun zz h1=>h1)
 ·exact hs.frm.over fun a e o=>hb a o fun q=>e.elim fun o e=>Ae (hZ a q).2.2 e
end
noncomputable def KeyT (S:Sta prog w) (k:Nat) (fv:Value) (key:AV->Ab) (l:List AV):Prop:=∀ x∈l,∀ (σ:Store) (Q:AV->Store->Prop),Q (sp (key x)) σ->CallT S k fv [x] σ Q noX
section
variable {F:Fx S}{m:Vars}{σ:Store}{s:Shared}{X:Value->Shared->Prop}{Q:AV->Store->Prop}
theorem Gl {kS D:Addr}{oD:Obj}{Z:Addr->Prop}{fv:Value}{key:AV->Ab}{kf:Nat}{Fin:List Value->Nat->Shared->Prop} (hZ:∀ a,Z a->F.N a/\¬ F.O a/\F.b.2.heap.get? a=Option.none/\¬ F.P a) (zk:Z kS) (zD:Z D) (hne:D≠kS) (hk:kf+2<=F.k) {s₀:Shared}{L:List AV} :
  ∀ (r:List AV) (d:List AV) (rv ks:List Value) (e:Nat) (s:Shared),KeyT S kf fv key r->L=d++r->F.St m σ s->Step F.P Z σ s₀ σ s->RepL S.cv s.heap (F.D σ) r rv->s.heap.get? D=some oD->s.heap.get? kS=some (Ax ks.toArray e)->RepL S.cv s.heap (F.D σ) (d.map fun x=>sp (key x)) ks ->
  (∀ ks' e' s',F.St m σ s'->Step F.P Z σ s₀ σ s'->s'.heap.get? D=some oD->s'.heap.get? kS=some (Ax (List.toArray ks') e')->RepL S.cv s'.heap (F.D σ) (L.map fun x=>sp (key x)) ks'->Fin ks' e' s')->SkKeys prog w F.A.in1.in1 kS fv Fin rv ks e s
 | [],d,rv,ks,e,s,_,hL,hs,st,rr,gD,g,rk,fin=>by
  rw [show rv=[] from rr.inv]
  rw [List.append_nil] at hL
  subst hL
  exact fin ks e s hs st gD g rk
 | x::r,d,rv,ks,e,s,hkey,hL,hs,st,rr,gD,g,rk,fin=>by
  obtain ⟨v,rv,rfl,rx,rr⟩:=rr.inv
  have room:Room S F.N kf F.A.in1.in1:=Room.in1 (Room.in1 ⟨F.room.hh,F.room.fr,by have:=F.room.dp;exact lin [kf,(F.k),(F.A.depth)] [] (.nlt 1 (.add V2 (.mul 2 (.add (.add V0 K1) K1))) Kd) [.nle 2 (.add V0 K2) V1,.nlt 1 (.add V2 (.mul 2 V1)) Kd] rfl hk this,by have:=F.room.un;exact lin [kf,(F.k),(F.A.units)] [] (.nlt 1 (.add V2 (.mul 20 (.add (.add V0 K1) K1))) Bz) [.nle 20 (.add V0 K2) V1,.nlt 1 (.add V2 (.mul 20 V1)) Bz] rfl hk this⟩)
  refine wpAny_call (codeAny_mono (hkey x (.head _) σ (fun a σ'=>a=sp (key x)/\σ=σ') ⟨rfl,rfl⟩ F.N F.A.in1.in1 [v] s room hs.inv (.cons rx .nil)) fun res s' z=>?_)
  cases res with
  | error err=>exact False.elim z
  | ok fl =>
   cases fl with
   | ret k =>
    obtain ⟨av,σ',st',i,ra,rfl,rfl⟩:=z
    have hs':F.St m σ s':=hs.to st' i fun zz h=>h
    have stay:∀ a o,Z a->s.heap.get? a=some o->s'.heap.get? a=some o:=fun a o z e=>st'.ext.obj _ _ e fun q=>q.elim (fun q=>hs.inv.σN _ q (hZ a z).1) fun q=>q.elim (fun q=>q.elim) (hZ a z).2.2.2
    have stN:Step F.P Z σ s σ s':=st'.mono fun zz h=>h.elim
    refine ⟨stay _ _ zk g,fun h'' c eb gk=>?_⟩
    obtain ⟨hs2,st2⟩:=St.turnZ (Z:=(·=kS)) (h':=h'') hs' (fun a q=>by subst q;exact ⟨(hZ _ zk).1,(hZ _ zk).2.1,(hZ _ zk).2.2.1⟩) (fun a o q e=>eb a o q e) (fun a q=>by subst q;exact ⟨_,gk,fun vs z=>by cases z⟩)
    have st2':Step F.P Z σ s' σ { s' with heap:=h'' }:=st2.mono fun a q=>by subst q;exact zk
    have zN:∀ a,Z a->F.N a:=fun a z=>(hZ a z).1
    refine Gl hZ zk zD hne hk r (d++[x]) rv (ks++[k]) c _ (fun y hy=>hkey y (.tail _ hy)) (by rw [hL];simp) hs2 ((st.trans stN).trans st2') ?_ (eb D _ hne (stay _ _ zD gD)) gk ?_ fin
    ·exact ((rr.step stN zN hs.pN).step st2' zN hs.pN)
    ·rw [List.map_append]
     exact RepL.snoc ((rk.step stN zN hs.pN).step st2' zN hs.pN) (ra.step st2' zN hs.pN)
   | _=>exact z.elim
theorem RepL.at {cv:Nat->Value}{h:Heap}{D:Addr->Prop}:∀ {L:List AV}{vs:List Value},RepL cv h D L vs->∀ i,i<L.length->Rep cv h D (L.getD i .none) (vs.getD i Value.none)
 | [],_,_,i,hi=>absurd hi (Nat.not_lt_zero _)
 | x::L,vs,r,i,hi=>by
  refine X2ppp (r.inv) fun v us he94_2 r1 rr=>?_
  subst he94_2
  cases i with
  | zero=>exact r1
  | succ i=>exact RepL.at rr i (Nat.lt_of_succ_lt_succ hi)
theorem RepL.pick {cv:Nat->Value}{h:Heap}{D:Addr->Prop}{L:List AV}{vs:List Value} (r:RepL cv h D L vs):∀ {p:List Nat},(∀ i∈p,i<L.length)->RepL cv h D (p.map fun i=>L.getD i .none) (p.map fun i=>vs.getD i Value.none)
 | [],_=>.nil
 | i::p,h=>.cons (r.at i (h i (.head _))) (RepL.pick r fun j hj=>h j (.tail _ hj))
theorem Cr {α:Type} (L:List α) (d:α):(List.range L.length).map (fun i=>L.getD i d)=L:=by
 apply List.ext_getElem?
 intro i
 by_cases z:i<L.length
 ·simp [z]
 ·simp [z]
theorem key_ne {L:List AV}{key:AV->Ab} (nd:(L.map key).Nodup) {i j:Nat} (h:i≠j) (hi:i<L.length) (hj:j<L.length):key (L.getD i .none)≠key (L.getD j .none):=by
 intro e
 have hi':i<(L.map key).length:=by rw [List.length_map];exact hi
 have hj':j<(L.map key).length:=by rw [List.length_map];exact hj
 have:(L.map key)[i]=(L.map key)[j]:=by
  rw [List.getElem_map,List.getElem_map]
  rw [List.getD_eq_getElem?_getD,List.getD_eq_getElem?_getD,List.getElem?_eq_getElem hi,List.getElem?_eq_getElem hj] at e
  exact e
 exact h ((List.getElem_inj nd).mp this)
theorem HC {p q:Ab} (h:p≠q) (n:At q p=false):At p q=true:=by
 obtain ⟨a,b⟩:=p
 obtain ⟨c,d⟩:=q
 unfold At at *
 dsimp only at *
 by_cases e:a=c
 ·subst e
  rw [if_pos rfl] at n ⊢
  rw [decide_eq_false_iff_not] at n
  rw [decide_eq_true_eq]
  have:b≠d:=fun z=>h (by rw [z])
  exact (Int.lt_or_gt_of_ne this).elim (fun z0=>z0) (fun z0=>lin [] [d,b] (.ilt 0 V1 V0) [.ige 1 V0 V1,.ilt 1 V0 V1] rfl n z0)
 ·rw [if_neg e]
  rw [if_neg (Ne.symm e),decide_eq_false_iff_not] at n
  rw [decide_eq_true_eq]
  exact (Int.lt_or_gt_of_ne e).elim (fun z0=>z0) (fun z0=>lin [] [c,a] (.ilt 0 V1 V0) [.ige 1 V0 V1,.ilt 1 V0 V1] rfl n z0)
structure Picks (L:List AV) (key:AV->Ab) (p:List Nat):Prop where
 lt:∀ i∈p,i<L.length
 perm:(p.map fun i=>L.getD i .none).Perm L
 up:(p.map fun i=>L.getD i .none).Pairwise fun x y=>At (key x) (key y)=true
theorem IL {L:List AV}{key:AV->Ab} (h:L.length<2):Picks L key (List.range L.length):=by
 refine ⟨fun i hi=>List.mem_range.mp hi,?_,?_⟩
 ·rw [Cr]
 ·rw [Cr]
  match L,h with
  | [],_=>exact .nil
  | [x],_=>exact List.pairwise_singleton _ _
theorem Hy {L:List AV}{key:AV->Ab} (nd:(L.map key).Nodup) {p:Array Nat} (hs:Srt (fun i j=>At (key (L.getD i .none)) (key (L.getD j .none))) p L.length) (hp:p.Perm (List.toArray (List.range L.length))):Picks L key p.toList:=by
 have hp:p.toList.Perm (List.range L.length):=by simpa using Array.perm_iff_toList_perm.mp hp
 have lt:∀ i∈p.toList,i<L.length:=fun i hi=>List.mem_range.mp (hp.mem_iff.mp hi)
 refine ⟨lt,?_,?_⟩
 ·have:=hp.map fun i=>L.getD i .none
  rwa [Cr] at this
 ·rw [List.pairwise_map,List.pairwise_iff_getElem]
  intro i j hi hj hij
  have hn:p.toList.Nodup:=hp.nodup_iff.mpr List.nodup_range
  have hl:p.toList.length=L.length:=by rw [hp.length_eq,List.length_range]
  have ne:p.toList[i]≠p.toList[j]:=fun e=>Nat.ne_of_lt hij ((List.getElem_inj hn).mp e)
  have g:∀ k (hk:k<p.toList.length),p.getD k 0=p.toList[k]:=fun k hk=>by
   have:k<p.size:=by simpa using hk
   simp [Array.getD,this]
  have:=hs i j hij (by exact lin [j,(p.toList.length),(L.length)] [] (.nlt 1 V0 V2) [.nlt 1 V0 V1,.neq 1 V1 V2] rfl hj hl)
  rw [g i hi,g j hj] at this
  exact HC (key_ne nd ne (lt _ (List.getElem_mem hi)) (lt _ (List.getElem_mem hj))) this
noncomputable def Fx.more (F:Fx S) (Z:Addr->Prop):Fx S:=⟨F.A,F.tb,F.env,F.b,fun a=>F.N a\/Z a,F.k,F.room.wide (fun zz q=>.inl q),F.fk,F.fg,F.fb,F.fc⟩
theorem Jj {h:Heap}{D:Addr->Prop}{cv:Nat->Value}{L:List AV}{key:AV->Ab}{ks:List Value} (r:RepL cv h D (L.map fun x=>sp (key x)) ks) (i:Nat) (hi:i<L.length):IsPr h (ks.getD i Value.none) (key (L.getD i .none)):=by
 have hi':i<(L.map fun x=>sp (key x)).length:=by rw [List.length_map];exact hi
 have:=r.at i hi'
 have e:(L.map fun x=>sp (key x)).getD i .none=sp (key (L.getD i .none)):=by
  rw [List.getD_eq_getElem?_getD,List.getD_eq_getElem?_getD,List.getElem?_map,List.getElem?_eq_getElem hi];rfl
 rw [e] at this
 refine X4ppp (Rep.spot this) fun t tx ty n e1 e2 zz=>?_
 exact ⟨t,tx,ty,n,e1,e2⟩
theorem Fw {l:Addr}{vs:List Value}{n:Nat}{L:List AV}{fv:Value}{key:AV->Ab}{kf:Nat} (hk:kf+2<=F.k) (hkey:KeyT S kf fv key L) (h64:L.length<64) (nd:(L.map key).Nodup)
  (ht:∀ x,Builtin.«list.sort» ⟨[.ref x],[(Str.ofString "key",fv)]⟩=ksk_tree x fv false) (hs:F.St m σ s) (e:s.heap.get? l=some (Ax vs.toArray n)) (r:RepL S.cv s.heap (F.D σ) L vs)
  (hQ:∀ L',L'.Perm L->L'.Pairwise (fun x y=>At (key x) (key y)=true)->Fresh σ (.list L') (.list L') Q):VT F m σ s (call (.builtin "sorted") [.ref l] [(Str.ofString "key",fv)]) Q X:=by
 have hlen:vs.length=L.length:=r.length
 refine Iw ⟨_,e,rfl,n,rfl⟩ (by rw [hlen];exact h64) ht fun D kS e1 h' hne nD nK k gD gK=>?_
 have hnew:∀ a,a=D\/a=kS->s.heap.get? a=Option.none:=fun a q=>q.elim (fun q=>q▸nD) (fun q=>q▸nK)
 have gZ:∀ a,a=D\/a=kS->∃ o,h'.get? a=some o/\∀ vs,o.data≠.fields vs:=fun a q=>q.elim (fun q=>⟨_,q▸gD,fun zz z=>by cases z⟩) (fun q=>⟨_,q▸gK,fun zz z=>by cases z⟩)
 refine Ad (hs.apartZ (Z:=fun a=>a=D\/a=kS) (tk:=s.toks) k fun a q=>⟨hnew a q,gZ a q⟩) fun hs1 st1=>?_
 have nN:∀ a,a=D\/a=kS->¬ F.N a:=fun a q z=>by refine X1pp (hs.inv.Nin a z) fun o eo zz=>?_;exact Ae (hnew a q) eo
 have zz:∀ a,a=D\/a=kS->(F.N a\/a=D\/a=kS)/\¬ F.O a/\F.b.2.heap.get? a=Option.none/\¬ F.P a:=fun a q=>⟨.inr q,fun z=>nN a q (hs.own a z),hs.frm.new (hnew a q),fun z=>nN a q (hs.pN a z)⟩
 have zN:∀ a,(a=D\/a=kS)->F.N a\/a=D\/a=kS:=fun a q=>.inr q
 have r1:RepL S.cv h' (DN (fun a=>F.N a\/a=D\/a=kS) σ) L vs:=r.ext (Ext.of_keeps k) fun b q=>q.elim (fun q=>.inl (.inl q)) fun q=>q.elim (fun q=>.inl (.inr q)) fun q=>.inr (hnew b q)
 refine Gl (F:=F.more fun a=>a=D\/a=kS) (s₀:={ s with heap:=h' }) (m:=m) (σ:=σ) (D:=D) (oD:=Ax #[] e1) zz (.inr rfl) (.inl rfl) hne hk L [] vs [] 0 _ hkey rfl hs1 (Step.refl _ _ _ _) r1 gD gK .nil ?_
 intro ks' e' s' hs' st' gD' gk' rk
 have hl:ks'.length=L.length:=by have:=rk.length;rw [List.length_map] at this;exact this
 have r2:=r1.step st' zN hs'.pN
 have fin:∀ p:Array Nat,Picks L key p.toList->SkFin kS D ks' vs e' e1 (fun zz s4=>PW F m σ s (PV F Q) (.ref D) s4) p s':=fun p hp=>by
  refine ⟨gk',gD',fun h'' c hb hkc hD'=>?_⟩
  obtain ⟨hs3,st3⟩:=St.turnZ (Z:=fun a=>a=D\/a=kS) (h':=h'') hs' (fun a q=>⟨.inr q,(zz a q).2.1,(zz a q).2.2.1⟩) (fun b o q e=>hb b o (fun z=>q (.inr z)) (fun z=>q (.inl z)) e) (fun a q=>q.elim (fun q=>⟨_,q▸hD',fun zz z=>by cases z⟩) fun q=>by refine X1p (hkc) fun c' ec=>?_;exact ⟨_,q▸ec,fun zz z=>by cases z⟩)
  have r3:=(r2.step st3 zN hs'.pN).pick hp.lt
  have st:Step F.P noO σ s σ { s' with heap:=h'' }:=Step.out (st1.wide fun zz h=>h.elim) (st'.trans st3) hnew
  rcases hQ _ hp.perm hp.up with q | ⟨i,q⟩
  ·have h1:F.St m σ { s' with heap:=h'' }:=hs3.open_ (fun zz q=>.inl q) hs.own hs.pN
   exact ⟨σ,st.mono fun zz h=>h.elim,h1,_,.list hD' (hs.inv.not_D nD) (r3.less fun a q=>q.imp id .inl),q⟩
  ·have h1:Mine.St S F.tb F.env (fun a=>F.N a\/a=D) F.P F.b m σ { s' with heap:=h'' }:=hs3.open_ (fun zz q=>q.imp id .inl) (fun a q=>.inl (hs.own a q)) (fun a q=>.inl (hs.pN a q))
   have h2:F.St m (σ.set D (.list (p.toList.map fun i=>L.getD i .none))) { s' with heap:=h'' }:=h1.take hs.own hs.pN (nN D (.inl rfl)) (hs.frm.new nD) (.list hD' (r3.less fun a q=>q.imp id fun q=>q.imp id .inl))
   have st4:Step F.P noO σ s (σ.set D (.list (p.toList.map fun i=>L.getD i .none))) { s' with heap:=h'' }:=⟨st.ext,st.frm,fun a d=>(AJ d).elim (fun z=>.inr (by rw [z];exact nD)) (st.dom a),st.there⟩
   exact ⟨_,st4.mono fun zz h=>h.elim,h2,_,.loc D i,q D (hs.inv.not_dom nD)⟩
 unfold Gd
 by_cases h2:vs.length<2
 ·rw [if_pos h2]
  exact fin _ (by rw [hlen] at h2 ⊢;exact IL h2)
 ·rw [if_neg h2]
  refine HA (fun v hv=>?_) (by exact lin [(vs.length),(L.length),(ks'.length)] [] (.nlt 1 K0 V2) [.neq 1 V0 V1,.neq (-1) V2 V1,.nge 1 V0 K2] rfl hlen hl h2) ?_
  ·obtain ⟨i,hi,rfl⟩:=List.getElem_of_mem hv
   have:=Jj (L:=L) rk i (Nat.lt_of_lt_of_eq hi hl)
   rw [List.getD_eq_getElem?_getD,List.getElem?_eq_getElem hi] at this
   exact ⟨_,this⟩
  ·refine Ad (IN (kk:=fun i=>key (L.getD i .none)) (n:=L.length) (by exact lin [(vs.length),(L.length)] [] (.nle 1 K2 V1) [.neq 1 V0 V1,.nge 1 V0 K2] rfl hlen h2) fun i j hij hi hj=>key_ne nd hij hi hj) fun p1 p2=>?_
   rw [hlen]
   refine FD (by exact lin [(vs.length),(L.length)] [] (.nlt 1 K0 V1) [.neq 1 V0 V1,.nge 1 V0 K2] rfl hlen h2) (fun i hi=>Jj rk i hi) (fin _ (Hy nd p1 p2))
theorem ET.sorted {x:E}{i:Nat}{fa:Addr}{kf:Nat}{key:AV->Ab} (hg:Glob S i (.ref fa)) (hb:Glob S 10 (.builtin "sorted")) (hk:kf+2<=F.k)
  (h:ET F m σ x (fun a σ₁=>∃ L,dl σ₁ a=some L/\KeyT S kf (.ref fa) key L/\L.length<64/\(L.map key).Nodup/\∀ L',L'.Perm L->L'.Pairwise (fun x y=>At (key x) (key y)=true)->Fresh σ₁ (.list L') (.list L') Q) X):ET F m σ (.sorted x (.g i)) Q X:=by
 intro pe hc s hs
 obtain ⟨a,f,kp,p,q,x,key',rfl,rfl,rfl,hlk,hn,ha,hf⟩:=hc.inv
 refine X2pp (hf.inv) fun f' pos' he217_2 hx=>?_
 subst he217_2
 have h10:IsG F.sc "sorted" 10:=⟨by decide +kernel,hlk,by decide +kernel⟩
 show wpAny _ _ (do callWith p (<- eval (.Name "sorted" q) F.env) [] (backTo p (starEach [a] F.env)) (backToKw p (keywordEach [⟨some "key",.Name f' pos',kp⟩] F.env))) _ _ _
 refine wpAny_bind (DM h10 hb hs ?_)
 refine callWith_of (P:=fun h=>∀ b o,S.g.get? b=some o->h.get? b=some o) ?_ (Callable.builtin (S:=S) _) ?_
 ·rw [AE hn];rfl
 refine evalArgs_kw2 rfl ?_ (AE hn)
 refine wpAny_items_cons (W.out (h _ ha s hs) ?_) (AE hn)
 rintro v σ' s' st h1 ⟨av,ra,L,hd,hkey,h64,nd,hQ⟩
 refine args_nil ?_
 refine kwAll_cons (DM hx hg h1 (kwAll_nil ?_))
 refine X3ppp (ra.lst h1.inv hd) fun l vs n he228_3 e rl=>?_
 subst he228_3
 exact ⟨h1.inv.keep,(Fw hk hkey h64 nd (fun x=>ksk_t1 fa x) h1 e rl hQ).later st⟩
end
end Mine
end
section
namespace Mine
open PySem PyProof.Rows PySem.W
inductive Sh where
 | val (v:AV)
 | new (j:Nat)
 | tup (l:List Sh)
 | list (l:List Sh)
structure RT where
 os:List AObj
 sh:Sh
noncomputable abbrev KR:=RT->LS->Prop
inductive Rs where
 | val
 | new
 | tup (l:List Rs)
 | list (l:List Rs)
structure FS where
 pure:List AV->Option AV
 spec:List AV->LS->KR->XL->Prop
 whole:Bool
structure Tab where
 q:Bool
 ex:List Nat
 fn:List (Nat×FS)
 me:List (Nat×FS)
 ky:List (Nat×(AV->Option Ab)):=[]
noncomputable def Gj {α:Type}:List (Nat×α)->Nat->Option α
 | [],_=>Option.none
 | (j,x)::r,i=>match Nat.beq i j with
  | true=>some x
  | false=>Gj r i
noncomputable def frz:AObj->AV
 | .list l=>.list l
 | .dict l=>.dict l
 | _=>.none
mutual
noncomputable def Sh.with (f:Nat->AV):Sh->AV
 | .val v=>v
 | .new j=>f j
 | .tup l=>.tup (Sh.withL f l)
 | .list l=>.list (Sh.withL f l)
noncomputable def Sh.withL (f:Nat->AV):List Sh->List AV
 | []=>[]
 | x::r=>Sh.with f x::Sh.withL f r
end
noncomputable def frzN:List AObj->Nat->AV
 | [],_=>.none
 | o::_,0=>frz o
 | _::r,j+1=>frzN r j
noncomputable def Kb:List AObj->Nat->LS->List AV->(List AV->LS->Prop)->Prop
 | [],_,σ,acc,k=>k acc σ
 | o::r,i,σ,acc,k=>∀ a,Kb r (i+1) (σ.set i (.at a o)) (acc++[.loc a i]) k
noncomputable def HQ (mu:Option Nat) (r:RT) (σ:LS) (K:KV):Prop:=match mu with
 | Option.none=>K (r.sh.with (frzN r.os)) σ
 | some i=>Kb r.os i σ [] (fun vs σ'=>K (r.sh.with (fun j=>vs.getD j .none)) σ')
noncomputable def quiet (q:Bool) (P:Prop):Prop:=match q with
 | true=>P
 | false=>False
noncomputable def frW (mu:Option Nat) (o:AObj) (fz:AV) (σ:LS) (K:KV):Prop:=match mu with
 | Option.none=>K fz σ
 | some i=>∀ a,K (.loc a i) (σ.set i (.at a o))
noncomputable def cnd (lit:Bool) (P R:Prop):Prop:=match lit with
 | true=>R
 | false=>P/\R
noncomputable def ifW (b:Bool) (A B:Prop):Prop:=match b with
 | true=>A
 | false=>B
noncomputable def boolW (a:AV) (K:Bool->Prop):Prop:=match a with
 | .bool b=>K b
 | _=>False
noncomputable def dlW (σ:LS) (v:AV) (K:List AV->Prop):Prop:=match v with
 | .list l=>K l
 | .loc a i=>(match slot σ i with
  | .at b (.list l)=>b=a/\K l
  | _=>False)
 | _=>False
noncomputable def ddW (σ:LS) (v:AV) (K:List (Ab×AV)->Prop):Prop:=match v with
 | .dict l=>K l
 | .loc a i=>(match slot σ i with
  | .at b (.dict l)=>b=a/\K l
  | _=>False)
 | _=>False
noncomputable def spotW (a:AV) (K:Ab->Prop):Prop:=match spot? a with
 | some k=>K k
 | Option.none=>False
noncomputable def vwW (σ:LS) (v:AV) (K:AV->Prop):Prop:=match v with
 | .loc a i=>(match slot σ i with
  | .at b (.list l)=>b=a/\K (.list l)
  | .at b (.dict l)=>b=a/\K (.dict l)
  | _=>False)
 | v=>K v
noncomputable def E.nat?:E->Option Nat
 | .int i=>(match i with
  | .ofNat n=>some n
  | .negSucc _=>Option.none)
 | _=>Option.none
noncomputable def lit (e:E):Bool:=match e.nat? with
 | some n=>(match n with
  | 0=>false
  | n+1=>Nat.blt n 1000000)
 | Option.none=>false
noncomputable def lit0 (e:E):Bool:=match e.nat? with
 | some n=>Nat.blt n 1000000
 | Option.none=>false
noncomputable def addW (mu:Option Nat) (a b:AV) (σ:LS) (K:KV):Prop:=match a with
 | .int x=>(match b with
  | .int y=>K (.int (x+y)) σ
  | _=>False)
 | .str x=>(match b with
  | .str y=>x.length+y.length<=big/\K (.str (x++y)) σ
  | _=>False)
 | a=>dlW σ a fun l=>dlW σ b fun k=>l.length+k.length<=big/\frW mu (.list (l++k)) (.list (l++k)) σ K
noncomputable def mulW (mu:Option Nat) (a b:AV) (σ:LS) (K:KV):Prop:=match b with
 | .int y=>(match a with
  | .int x=>IntMulOk x y/\K (.int (x * y)) σ
  | .str x=>MulOk x y/\K (.str (Txt.mul x y)) σ
  | _=>False)
 | _=>False
noncomputable def int2 (a b:AV) (K:Int->Int->Prop):Prop:=match a with
 | .int x=>(match b with
  | .int y=>K x y
  | _=>False)
 | _=>False
noncomputable def binW (li:Bool) (mu:Option Nat) (op:Operator) (a b:AV) (σ:LS) (K:KV):Prop:=match op with
 | .Add=>addW mu a b σ K
 | .Sub=>int2 a b fun x y=>K (.int (x - y)) σ
 | .Mult=>mulW mu a b σ K
 | .Mod=>int2 a b fun x y=>cnd li (y≠0) (K (.int (x.fmod y)) σ)
 | .FloorDiv=>int2 a b fun x y=>cnd li (y≠0/\y.natAbs<1073741824) (K (.int (x.fdiv y)) σ)
 | _=>False
noncomputable def EqP (a b:AV) (t:Bool):Prop:=∃ da db,Fn a=some da/\Fn b=some db/\SeqAt.shaped da=true/\SeqAt.shaped db=true/\PyData.eqv da db=t
noncomputable def InP (a b:AV) (t:Bool):Prop:=∃ d xs,Fn a=some d/\(Fn b=some (.list xs)\/Fn b=some (.tuple xs))/\PyData.canLayAll0 xs=true/\d.canLay0=true/\d.depth<=100/\(xs.any fun y=>PyData.eqv y d)=t
noncomputable def eqW (a b:AV) (σ:LS) (K:Bool->Prop):Prop:=match a with
 | .int x=>(match b with
  | .int y=>K (x == y)
  | b=>vwW σ b fun b'=>∃ t,EqP (.int x) b' t/\K t)
 | a=>vwW σ a fun a'=>vwW σ b fun b'=>∃ t,EqP a' b' t/\K t
noncomputable def InV (σ:LS) (a b:AV) (t:Bool):Prop:=match b with
 | .dict l=>spotW a fun k=>(BW l k).isSome=t
 | .str x=>(match a with
  | .str y=>Txt.contains x y=t
  | _=>False)
 | .loc ad i=>(match slot σ i with
  | .at b' (.dict l)=>b'=ad/\spotW a fun k=>(BW l k).isSome=t
  | .at b' (.list l)=>b'=ad/\InP a (.list l) t
  | _=>False)
 | b=>InP a b t
noncomputable def inW (a b:AV) (σ:LS) (K:Bool->Prop):Prop:=∃ t,InV σ a b t/\K t
noncomputable def ltW (a b:AV) (K:Bool->Prop):Prop:=match a with
 | .tup l=>spotW (.tup l) fun p=>spotW b fun q=>K (At p q)
 | a=>int2 a b fun x y=>K (decide (x<y))
noncomputable def cmpW (op:CmpOp) (a b:AV) (σ:LS) (K:Bool->Prop):Prop:=match op with
 | .Eq=>eqW a b σ K
 | .NotEq=>eqW a b σ fun t=>K (!t)
 | .Lt=>ltW a b K
 | .LtE=>int2 a b fun x y=>K (decide (x<=y))
 | .Gt=>int2 a b fun x y=>K (decide (y<x))
 | .In=>inW a b σ K
 | .NotIn=>inW a b σ fun t=>K (!t)
 | _=>False
noncomputable def idxW (li:Bool) (i:AV) (K:Nat->Prop):Prop:=match i with
 | .int k=>cnd li (0<=k/\k<1000000) (K k.toNat)
 | _=>False
noncomputable def subW (li:Bool) (a i:AV) (σ:LS) (K:KV):Prop:=match a with
 | .tup l=>idxW li i fun n=>(match l[n]? with
  | some x=>K x σ
  | Option.none=>False)
 | .str x=>idxW li i fun n=>∃ c,x.cps[n]?=some c/\K (.str ⟨#[c]⟩) σ
 | .nums l=>idxW li i fun n=>∃ x,l[n]?=some x/\K (.int x) σ
 | .list l=>idxW li i fun n=>∃ x,l[n]?=some x/\K x σ
 | .dict l=>spotW i fun k=>∃ x,BW l k=some x/\K x σ
 | .loc ad j=>(match slot σ j with
  | .at b (.list l)=>b=ad/\idxW li i fun n=>∃ x,l[n]?=some x/\K x σ
  | .at b (.dict l)=>b=ad/\spotW i fun k=>∃ x,BW l k=some x/\K x σ
  | _=>False)
 | _=>False
noncomputable def Iu (mu:Option Nat) (a x y:AV) (σ:LS) (K:KV):Prop:=match a with
 | a=>dlW σ a fun l=>∃ l',l.length<=big/\cut l x y=some l'/\frW mu (.list l') (.list l') σ K
noncomputable abbrev EA (t o:AV):List (Str×AV):=[("texts",t),("own",o)]
noncomputable def Slot.obj?:Slot->Option (Addr×AObj)
 | .at a o=>some (a,o)
 | .no=>Option.none
noncomputable def fields? (σ:LS) (i:Nat):Option ((Addr×Addr)×Addr×List (Str×AV)):=(slot σ i).obj?.bind fun b=>b.2.inst?.bind fun d=>(slot σ (i+1)).obj?.bind fun c=>c.2.attrs?.bind fun l=>some ((b.1,d),c.1,l)
noncomputable def instW (σ:LS) (a:AV) (K:AV->AV->Prop):Prop:=match a with
 | .inst l=>(match two? l with
  | some p=>(p.1.1 = "texts"/\p.2.1 = "own")/\K p.1.2 p.2.2
  | Option.none=>False)
 | .loc x i=>(match fields? σ i with
  | some f=>(match two? f.2.2 with
   | some p=>(f.1.1=x/\f.2.1=f.1.2/\p.1.1 = "texts"/\p.2.1 = "own")/\K p.1.2 p.2.2
   | Option.none=>False)
  | Option.none=>False)
 | _=>False
noncomputable def attrW (n:Nat) (a:AV) (σ:LS) (K:KV):Prop:=instW σ a fun t o=>match n with
 | 11=>noCls t=true/\K t σ
 | 12=>noCls o=true/\K o σ
 | _=>False
noncomputable def tyW (σ:LS):AV->Option Ty
 | .none=>some .none
 | .bool _=>some .bool
 | .int _=>some .int
 | .str _=>some .str
 | .tup _=>some .tup
 | .list _=>some .list
 | .dict _=>some .dict
 | .loc _ i=>(match slot σ i with
  | .at _ (.list _)=>some .list
  | .at _ (.dict _)=>some .dict
  | _=>Option.none)
 | _=>Option.none
noncomputable def atW (σ:LS) (a:AV) (P:Prop):Prop:=match a with
 | .loc x i=>(match slot σ i with
  | .at b _=>b=x/\P
  | .no=>False)
 | _=>P
noncomputable def lenW (a:AV) (σ:LS) (K:KV):Prop:=match a with
 | .str x=>x.length<=big/\K (.int x.length) σ
 | .tup l=>l.length<=big/\K (.int l.length) σ
 | .nums l=>l.length<=big/\K (.int l.length) σ
 | .list l=>l.length<=big/\K (.int l.length) σ
 | .dict l=>l.length<=big/\K (.int l.length) σ
 | .loc ad i=>(match slot σ i with
  | .at b (.list l)=>b=ad/\l.length<=big/\K (.int l.length) σ
  | .at b (.dict l)=>b=ad/\l.length<=big/\K (.int l.length) σ
  | _=>False)
 | _=>False
noncomputable def isi? (σ:LS) (a:AV) (j:Nat):Option Bool:=(tyW σ a).bind fun t=>(tyCls j).bind fun u=>match isP t u with
 | true=>some (isT t u)
 | false=>Option.none
noncomputable def isiW (ex:List Nat) (a c:AV) (σ:LS) (K:KV):Prop:=match c with
 | .cls j=>atW σ a (match isi? σ a j with
   | some b=>K (.bool b) σ
   | Option.none=>False)
 | _=>False
noncomputable def listW (q:Bool) (mu:Option Nat) (a:AV) (σ:LS) (K:KV):Prop:=match a with
 | .tup l=>l.length<=big/\frW mu (.list l) (.list l) σ K
 | .list l=>l.length<=big/\frW mu (.list l) (.list l) σ K
 | .dict l=>quiet q (l.length<=big/\frW mu (.list (l.map fun p=>sp p.1)) (.list (l.map fun p=>sp p.1)) σ K)
 | .loc ad i=>(match slot σ i with
  | .at b (.list l)=>b=ad/\l.length<=big/\frW mu (.list l) (.list l) σ K
  | .at b (.dict l)=>b=ad/\quiet q (l.length<=big/\frW mu (.list (l.map fun p=>sp p.1)) (.list (l.map fun p=>sp p.1)) σ K)
  | _=>False)
 | _=>False
noncomputable def ints?:List AV->Option (List Int)
 | []=>some []
 | a::r=>a.int?.bind fun x=>(ints? r).bind fun l=>some (x::l)
noncomputable def rngW (σ:LS) (K:KV):List Int->Prop
 | []=>False
 | a::r=>(match r with
  | []=>K (.range 0 a 1) σ
  | b::r=>(match r with
   | []=>K (.range a b 1) σ
   | c::r=>(match r with
    | []=>c≠0/\c.natAbs<1073741824/\K (.range a b c) σ
    | _::_=>False)))
noncomputable def IK (avs:List AV) (σ:LS) (K:KV):Prop:=match ints? avs with
 | some l=>rngW σ K l
 | Option.none=>False
noncomputable def buW (q:Bool) (ex:List Nat) (mu:Option Nat) (i:Nat) (avs:List AV) (σ:LS) (K:KV):Prop:=match i with
 | 0=>(match avs with
  | [a]=>lenW a σ K
  | _=>False)
 | 1=>(match avs with
  | [a,c]=>isiW ex a c σ K
  | _=>False)
 | 5=>(match avs with
  | [a]=>listW q mu a σ K
  | _=>False)
 | 8=>IK avs σ K
 | 11=>(match avs with
  | [a]=>quiet q (spotW a fun p=>(p.1.natAbs<=1000000/\p.2.natAbs<=1000000)/\K (.int (p.1+p.2)) σ)
  | _=>False)
 | 13=>(match avs with
  | [a,b]=>quiet q (int2 a b fun x y=>K (.int (min x y)) σ)
  | _=>False)
 | 14=>(match avs with
  | [a,b]=>quiet q (int2 a b fun x y=>K (.int (max x y)) σ)
  | _=>False)
 | 15=>(match avs with
  | [a]=>quiet q (dlW σ a fun l=>∃ bs:List Bool,l=bs.map .bool/\K (.bool (bs.all id)) σ)
  | _=>False)
 | 16=>(match avs with
  | [a]=>quiet q (dlW σ a fun l=>∃ bs:List Bool,l=bs.map .bool/\K (.bool (bs.any id)) σ)
  | _=>False)
 | _=>False
noncomputable def A3:List AV->Nat->List AV
 | [],_=>[]
 | x::r,n=>(match x with
  | .loc a _=>.loc a n::A3 r (n+1)
  | x=>x::A3 r n)
noncomputable def AF:List AV->List Nat
 | []=>[]
 | x::r=>(match x with
  | .loc _ i=>i::AF r
  | _=>AF r)
noncomputable def IU:List Nat->Bool
 | []=>true
 | i::r=>!(r.any (Nat.beq i)) && IU r
noncomputable def wb (σ:LS):List Nat->LS->LS
 | [],_=>σ
 | i::r,s::t=>wb (σ.set i s) r t
 | i::r,[]=>wb (σ.set i .no) r []
noncomputable def ownW (f:FS) (mu:Option Nat) (avs:List AV) (σ:LS) (K:KV) (X:XL):Prop:=match f.pure avs with
 | some v=>K v σ
 | Option.none=>(match f.whole with
  | true=>f.spec avs σ (fun r σ'=>HQ mu r σ' K) X
  | false=>(match IU (AF avs) with
   | true=>f.spec (A3 avs 0) ((AF avs).map (slot σ)) (fun r σ'=>HQ mu r (wb σ (AF avs) σ') K) (fun c σ'=>X c (wb σ (AF avs) σ'))
   | false=>False))
noncomputable def callW (Φ:Tab) (X:XL) (mu:Option Nat) (i:Nat) (avs:List AV) (σ:LS) (K:KV):Prop:=match Nat.blt i 17 with
 | true=>buW Φ.q Φ.ex mu i avs σ K
 | false=>(match Gj Φ.fn i with
  | some f=>ownW f mu avs σ K X
  | Option.none=>False)
noncomputable def slotL (σ:LS) (a:AV) (K:Addr->Nat->List AV->Prop):Prop:=match a with
 | .loc x i=>(match slot σ i with
  | .at b (.list l)=>b=x/\K x i l
  | _=>False)
 | _=>False
noncomputable def HL (Φ:Tab) (X:XL) (mu:Option Nat) (n:Nat) (a:AV) (avs:List AV) (σ:LS) (K:KV):Prop:=match n with
 | 0=>(match avs with
  | [x]=>slotL σ a fun ad i l=>l.length<=big/\K .none (σ.set i (.at ad (.list (l++[x]))))
  | _=>False)
 | 1=>(match avs with
  | []=>slotL σ a fun ad i l=>l.length<=big/\∃ x,l.getLast?=some x/\K x (σ.set i (.at ad (.list l.dropLast)))
  | _=>False)
 | 3=>(match avs with
  | []=>slotL σ a fun ad i l=>l.length<=big/\K .none (σ.set i (.at ad (.list [])))
  | _=>False)
 | 8=>(match a with
  | .str x=>(match avs with
   | [b]=>dlW σ b fun l=>∃ ys:List Str,l=ys.map .str/\(ys.map (·.length)).sum+ys.length * x.length<=1000000/\K (.str (Txt.join x ys)) σ
   | _=>False)
  | _=>False)
 | n=>(match Gj Φ.me n with
  | some f=>instW σ a fun zz zz=>ownW f mu (a::avs) σ K X
  | Option.none=>False)
noncomputable def objW (n:Nat) (a:AV) (σ:LS) (P:Prop):Prop:=match n with
 | 0=>slotL σ a fun zz zz zz=>P
 | 1=>slotL σ a fun zz zz zz=>P
 | 3=>slotL σ a fun zz zz zz=>P
 | 8=>(match a with
  | .str _=>P
  | _=>False)
 | _=>instW σ a fun zz zz=>P
noncomputable def hasF (Φ:Tab) (i:Nat):Bool:=Nat.blt i 17 || (Gj Φ.fn i).isSome
noncomputable def isMe:Nat->Bool
 | 0 | 1 | 3 | 8=>true
 | _=>false
noncomputable def hasM (Φ:Tab) (n:Nat):Bool:=isMe n || (Gj Φ.me n).isSome
noncomputable def Bh (f:AV->Option Ab) (x:AV):Ab:=match f x with
 | some p=>p
 | Option.none=>(0,0)
noncomputable def Sorts (f:AV->Option Ab) (L L':List AV):Prop:=L'.Perm L/\L'.Pairwise (fun x y=>At (Bh f x) (Bh f y)=true)
noncomputable def sortW (f:AV->Option Ab) (mu:Option Nat) (L:List AV) (σ:LS) (K:KV):Prop :=
 ((∀ x∈L,(f x).isSome=true)/\L.length<64/\(L.map (Bh f)).Nodup)/\∀ L',Sorts f L L'->frW mu (.list L') (.list L') σ K
noncomputable abbrev KG:=List AV->Option Nat->LS->Prop
noncomputable def FQ (q:Bool) (a:AV) (σ:LS) (G:KG):Prop:=match a with
 | .tup l=>quiet q (G l Option.none σ)
 | .list l=>quiet q (G l Option.none σ)
 | .str x=>quiet q (x.cps.all (·<128)=true/\G (Cn x) Option.none σ)
 | .range a b c=>Builtin.Range.small a b c=true/\G (AD a c (AK a b c)) Option.none σ
 | .loc x i=>(match slot σ i with
  | .at b (.list l)=>b=x/\quiet q (G l (some i) σ)
  | _=>False)
 | _=>False
noncomputable def enumW (q:Bool) (a:AV) (σ:LS) (G:KG):Prop:=match a with
 | .str x=>quiet q (x.cps.all (·<128)=true/\G (B7 (Cn x)) Option.none σ)
 | .list l=>quiet q (G (B7 l) Option.none σ)
 | .loc x i=>(match slot σ i with
  | .at b (.list l)=>b=x/\quiet q (G (B7 l) (some i) σ)
  | _=>False)
 | _=>False
noncomputable def stays (ok:Option Nat) (σ σ':LS) (P:Prop):Prop:=match ok with
 | Option.none=>P
 | some i=>slot σ' i=slot σ i/\P
mutual
noncomputable def patW (q:Bool):Pat->AV->M->(M->Prop)->Prop
 | .v i,a,m,K=>K (Fo m i a)
 | .tup ps,a,m,K=>quiet q (match a with
  | .tup l=>(match Nat.beq ps.length l.length with
   | true=>patsW q ps l m K
   | false=>False)
  | _=>False)
noncomputable def patsW (q:Bool):List Pat->List AV->M->(M->Prop)->Prop
 | [],[],m,K=>K m
 | p::ps,a::as,m,K=>patW q p a m (fun Af=>patsW q ps as Af K)
 | _,_,_,_=>False
end
noncomputable def kSeq (f:M->LS->KS->Prop) (K:KS):KS:=fun fl m σ=>match fl with
 | .next=>f m σ K
 | .ret v=>K (.ret v) m σ
noncomputable def GG (ok:Option Nat) (σ:LS) (C:M->LS->Prop) (K:KS):KS:=fun fl m σ₂=>match fl with
 | .next=>stays ok σ σ₂ (C m σ₂)
 | .ret v=>K (.ret v) m σ₂
noncomputable def kWh (n:Nat) (I:Nat->M->LS->Prop) (K:KS):KS:=fun fl m σ=>match fl with
 | .next=>∃ n',n'<n/\I n' m σ
 | .ret v=>K (.ret v) m σ
set_option tactic.hygienic true in
noncomputable def Jw (q:Bool) (p:Pat) (body:M->LS->KS->Prop) (ok:Option Nat) (K:KS):List AV->M->LS->Prop
 | [],m,σ=>K .next m σ
 | x::r,m,σ=>patW q p x m (fun Af=>body Af σ (GG ok σ (Jw q p body ok K r) K))
noncomputable def Dq (i:Nat) (elt:M->LS->KV->Prop) (tst:M->LS->KB->Prop) (ok:Option Nat) (m:M) (K:List AV->LS->Prop):List AV->List AV->LS->Prop
 | [],ys,σ=>K ys σ
 | x::r,ys,σ=>tst (Fo m i x) σ (fun b σ₁=>ifW b (elt (Fo m i x) σ₁ (fun y σ₂=>stays ok σ σ₂ (Dq i elt tst ok m K r (ys++[y]) σ₂)))
  (stays ok σ σ₁ (Dq i elt tst ok m K r ys σ₁)))
structure WT where
 v:Option Nat->M->LS->KV->Prop
 t:M->LS->KB->Prop
noncomputable def vt (f:Option Nat->M->LS->KV->Prop):WT:=⟨f,fun m σ K=>f Option.none m σ (fun a σ'=>boolW a fun b=>K b σ')⟩
noncomputable def Fz:List WT->M->LS->(List AV->LS->Prop)->Prop
 | [],_,σ,K=>K [] σ
 | f::r,m,σ,K=>f.v Option.none m σ (fun a σ₁=>Fz r m σ₁ (fun l σ₂=>K (a::l) σ₂))
noncomputable def andT:List WT->M->LS->KB->Prop
 | [],_,σ,K=>K true σ
 | f::r,m,σ,K=>f.t m σ (fun b σ₁=>ifW b (andT r m σ₁ K) (K false σ₁))
noncomputable def orT:List WT->M->LS->KB->Prop
 | [],_,σ,K=>K false σ
 | f::r,m,σ,K=>f.t m σ (fun b σ₁=>ifW b (K true σ₁) (orT r m σ₁ K))
noncomputable def andV:List WT->M->LS->KV->Prop
 | [],_,_,_=>False
 | f::r,m,σ,K=>(match r with
  | []=>f.v Option.none m σ K
  | _::_=>f.v Option.none m σ (fun a σ₁=>boolW a fun b=>ifW b (andV r m σ₁ K) (K (.bool false) σ₁)))
noncomputable def orV:List WT->M->LS->KV->Prop
 | [],_,_,_=>False
 | f::r,m,σ,K=>(match r with
  | []=>f.v Option.none m σ K
  | _::_=>f.v Option.none m σ (fun a σ₁=>boolW a fun b=>ifW b (K (.bool true) σ₁) (orV r m σ₁ K)))
noncomputable def pairW:List WT->List WT->List (AV×AV)->M->LS->(List (AV×AV)->LS->Prop)->Prop
 | [],[],r,_,σ,K=>K r σ
 | f::fs,g::gs,r,m,σ,K=>f.v Option.none m σ (fun a σ₁=>g.v Option.none m σ₁ (fun b σ₂=>pairW fs gs (r++[(a,b)]) m σ₂ K))
 | _,_,_,_,_,_=>False
noncomputable def dictW (mu:Option Nat) (ps:List (AV×AV)) (σ:LS) (K:KV):Prop:=match Nat.ble ps.length 15 with
 | true=>(match mkD ps [] with
  | some l=>frW mu (.dict l) (.dict l) σ K
  | Option.none=>False)
 | false=>False
noncomputable def few {α:Type} (l:List α) (P:Prop):Prop:=match Nat.blt l.length 15 with
 | true=>P
 | false=>False
noncomputable def Fq (fs:List WT) (m:M) (σ:LS) (K:KB):Prop:=match fs with
 | []=>K true σ
 | [f]=>f.t m σ K
 | _=>False
noncomputable def gW (Φ:Tab) (i:Nat) (σ:LS) (K:KV):Prop:=match Nat.beq i 28 with
 | true=>(match Φ.ex.contains 28 with
  | true=>K (.int 6) σ
  | false=>False)
 | false=>(match Nat.blt i 17 || Φ.ex.contains i with
  | true=>K (.cls i) σ
  | false=>False)
mutual
noncomputable def wp (Φ:Tab):E->XL->WT
 | .none,_=>vt fun zz zz σ K=>K .none σ
 | .bool b,_=>vt fun zz zz σ K=>K (.bool b) σ
 | .int i,_=>vt fun zz zz σ K=>K (.int i) σ
 | .str s,_=>vt fun zz zz σ K=>K (.str s) σ
 | .v i,_=>vt fun zz m σ K=>match m.getD i Option.none with
  | some a=>K a σ
  | Option.none=>False
 | .g i,_=>vt fun zz zz σ K=>gW Φ i σ K
 | .tup es,X=>vt fun zz m σ K=>few es (Fz (wpL Φ es X) m σ (fun l σ'=>K (.tup l) σ'))
 | .list es,X=>vt fun mu m σ K=>few es (Fz (wpL Φ es X) m σ (fun l σ'=>frW mu (.list l) (.list l) σ' K))
 | .dict ks vs,_=>vt fun mu m σ K=>(match Nat.beq ks.length vs.length && Nat.blt ks.length 15 with
  | true=>pairW (wpL Φ ks B1) (wpL Φ vs B1) [] m σ (fun ps σ'=>dictW mu ps σ' K)
  | false=>False)
 | .bin op l r,X=>vt fun mu m σ K=>(wp Φ l X).v Option.none m σ (fun a σ₁=>(wp Φ r X).v Option.none m σ₁ (fun b σ₂=>binW (lit r) mu op a b σ₂ K))
 | .neg x,X=>vt fun zz m σ K=>(wp Φ x X).v Option.none m σ (fun a σ₁=>match a with
  | .int i=>K (.int (-i)) σ₁
  | _=>False)
 | .not x,X=>⟨fun zz m σ K=>(wp Φ x X).v Option.none m σ (fun a σ₁=>boolW a fun b=>K (.bool (!b)) σ₁),fun m σ K=>(wp Φ x X).t m σ (fun b σ₁=>K (!b) σ₁)⟩
 | .and es,X=>⟨fun zz m σ K=>andV (wpL Φ es X) m σ K,fun m σ K=>andT (wpL Φ es X) m σ K⟩
 | .or es,X=>⟨fun zz m σ K=>orV (wpL Φ es X) m σ K,fun m σ K=>orT (wpL Φ es X) m σ K⟩
 | .cmp op l r,X=>⟨fun zz m σ K=>(wp Φ l X).v Option.none m σ (fun a σ₁=>(wp Φ r X).v Option.none m σ₁ (fun b σ₂=>cmpW op a b σ₂ fun t=>K (.bool t) σ₂)),
   fun m σ K=>(wp Φ l X).v Option.none m σ (fun a σ₁=>(wp Φ r X).v Option.none m σ₁ (fun b σ₂=>cmpW op a b σ₂ fun t=>K t σ₂))⟩
 | .cmp2 o1 o2 a b c,X=>⟨fun zz zz zz zz=>False,fun m σ K=>(wp Φ a X).v Option.none m σ (fun x σ₁=>(wp Φ b X).v Option.none m σ₁ (fun y σ₂=>cmpW o1 x y σ₂ fun t=>ifW t ((wp Φ c X).v Option.none m σ₂ (fun z σ₃=>cmpW o2 y z σ₃ fun t=>K t σ₃)) (K false σ₂)))⟩
 | .ite c a b,X=>⟨fun mu m σ K=>(wp Φ c X).t m σ (fun t σ₁=>ifW t ((wp Φ a X).v mu m σ₁ K) ((wp Φ b X).v mu m σ₁ K)),fun zz zz zz=>False⟩
 | .sub o i,X=>vt fun zz m σ K=>(wp Φ o X).v Option.none m σ (fun a σ₁=>(wp Φ i X).v Option.none m σ₁ (fun k σ₂=>subW (lit0 i) a k σ₂ K))
 | .slice o lo hi .none,X=>vt fun mu m σ K=>(wp Φ o X).v Option.none m σ (fun a σ₁=>(wp Φ lo X).v Option.none m σ₁ (fun x σ₂=>(wp Φ hi X).v Option.none m σ₂ (fun y σ₃=>Iu mu a x y σ₃ K)))
 | .attr (.v i) n,_=>vt fun zz m σ K=>match m.getD i Option.none with
  | some a=>attrW n a σ K
  | Option.none=>False
 | .call (.g i) (e::es),X=>vt fun mu m σ K=>(match hasF Φ i with
  | true=>Fz (wpL Φ (e::es) X) m σ (fun avs σ₁=>callW Φ X mu i avs σ₁ K)
  | false=>False)
 | .sorted x (.g i),X=>vt fun mu m σ K=>match Gj Φ.ky i with
  | some f=>(wp Φ x X).v Option.none m σ (fun a σ₁=>dlW σ₁ a fun L=>sortW f mu L σ₁ K)
  | Option.none=>False
 | .meth o n args,X=>vt fun mu m σ K=>(match hasM Φ n with
  | true=>(wp Φ o X).v Option.none m σ (fun a σ₁=>objW n a σ₁ (Fz (wpL Φ args X) m σ₁ (fun avs σ₂=>HL Φ X mu n a avs σ₂ K)))
  | false=>False)
 | .comp elt i src cs,X=>vt fun mu m σ K=>(wp Φ src X).v Option.none m σ (fun a σ₁=>FQ Φ.q a σ₁ (fun items ok σ₂=>items.length<=big/\Dq i ((wp Φ elt B1).v Option.none) (Fq (wpL Φ cs B1)) ok m (fun ys σ₃=>frW mu (.list ys) (.list ys) σ₃ K) items [] σ₂))
 | .mu l e,X=>⟨fun zz m σ K=>(wp Φ e X).v (some l) m σ K,fun m σ K=>(wp Φ e X).t m σ K⟩
 | _,_=>⟨fun zz zz zz zz=>False,fun zz zz zz=>False⟩
noncomputable def wpL (Φ:Tab):List E->XL->List WT
 | [],_=>[]
 | e::r,X=>wp Φ e X::wpL Φ r X
end
noncomputable def slotD (σ:LS) (a:AV) (K:Addr->Nat->List (Ab×AV)->Prop):Prop:=match a with
 | .loc x i=>(match slot σ i with
  | .at b (.dict l)=>b=x/\K b i l
  | _=>False)
 | _=>False
noncomputable def slotI (σ:LS) (a:AV) (K:Addr->Nat->Addr->List (Str×AV)->Prop):Prop:=match a with
 | .loc x i=>(match fields? σ i with
  | some f=>(f.1.1=x/\f.2.1=f.1.2)/\K f.1.1 i f.2.1 f.2.2
  | Option.none=>False)
 | _=>False
noncomputable def vOf:Pat->Option Nat
 | .v i=>some i
 | _=>Option.none
noncomputable def tupOf:E->Option (List E)
 | .tup es=>some es
 | _=>Option.none
noncomputable def asg3 (p q:Pat) (a b:E):Bool:=match vOf p with
 | some i=>(match vOf q with
  | some j=>!(Nat.beq i j) && (Dc 8 a || Dc 8 b)
  | Option.none=>false)
 | Option.none=>false
noncomputable def asg2 (ps:List Pat) (es:List E):Bool:=match two? ps with
 | some pq=>(match two? es with
  | some ab=>asg3 pq.1 pq.2 ab.1 ab.2
  | Option.none=>false)
 | Option.none=>false
noncomputable def asgT (ps:List Pat) (e:E):Bool:=match tupOf e with
 | some es=>asg2 ps es
 | Option.none=>EM e && AC e
noncomputable def notMu:E->Bool
 | .mu _ _=>false
 | _=>true
noncomputable def notMu2:E->Bool
 | .mu _ e=>notMu e
 | _=>true
noncomputable def asgOk (q:Bool) (p:Pat) (e:E):Bool:=match p with
 | .v _=>notMu2 e
 | .tup ps=>q && asgT ps e
noncomputable def E.g?:E->Option Nat
 | .g i=>some i
 | _=>Option.none
noncomputable def call1?:E->Option (Nat×E)
 | .call f es=>f.g?.bind fun i=>(one? es).bind fun e=>some (i,e)
 | _=>Option.none
noncomputable def JJ (e:E):Option E:=(call1? e).bind fun p=>match Nat.beq p.1 9 with
 | true=>some p.2
 | false=>Option.none
noncomputable def isTup:Pat->Bool
 | .tup _=>true
 | _=>false
noncomputable def srcS (Φ:Tab) (X:XL) (p:Pat) (e:E) (m:M) (σ:LS) (G:KG):Prop:=match JJ e with
 | some e'=>(match isTup p with
  | true=>(wp Φ e' X).v Option.none m σ (fun a σ₁=>enumW Φ.q a σ₁ G)
  | false=>False)
 | Option.none=>(wp Φ e X).v Option.none m σ (fun a σ₁=>FQ Φ.q a σ₁ G)
set_option tactic.hygienic true in
mutual
noncomputable def wpS (Φ:Tab):Mine.S->XL->M->LS->KS->Prop
 | .assign p e,X,m,σ,K=>quiet (asgOk Φ.q p e) ((wp Φ e X).v Option.none m σ (fun a σ₁=>patW Φ.q p a m (fun Af=>K .next Af σ₁)))
 | .setattr o n e,X,m,σ,K=>quiet (AC e && (Nat.beq n 11 || Nat.beq n 12)) ((wp Φ e X).v Option.none m σ (fun x σ₁=>(wp Φ o X).v Option.none m σ₁ (fun a σ₂=>slotI σ₂ a fun zz i d fs=>fs.length<=100/\K .next m (σ₂.set (i+1) (.at d (.attrs (H7 fs (fld n) x)))))))
 | .setitem o i e,X,m,σ,K=>quiet (AC e) ((wp Φ e X).v Option.none m σ (fun x σ₁=>(wp Φ o X).v Option.none m σ₁ (fun a σ₂=>(wp Φ i X).v Option.none m σ₂ (fun k σ₃=>slotD σ₃ a fun b j l=>l.length<=big/\spotW k fun kk=>K .next m (σ₃.set j (.at b (.dict (Bj l kk x))))))))
 | .expr e,X,m,σ,K=>quiet (AC e) ((wp Φ e X).v Option.none m σ (fun zz σ₁=>K .next m σ₁))
 | .ret e,X,m,σ,K=>(wp Φ e X).v Option.none m σ (fun a σ₁=>K (.ret a) m σ₁)
 | .ite c a b,X,m,σ,K=>(wp Φ c X).t m σ (fun t σ₁=>ifW t (wpSs Φ a X m σ₁ K) (wpSs Φ b X m σ₁ K))
 | .for_ p e body,X,m,σ,K=>srcS Φ X p e m σ (fun items ok σ₂=>Jw Φ.q p (wpSs Φ body X) ok K items m σ₂)
 | .while_ c body,X,m,σ,K=>∃ I:Nat->M->LS->Prop,(∃ n,I n m σ)/\∀ n m σ,I n m σ->(wp Φ c X).t m σ (fun t σ₁=>ifW t (wpSs Φ body X m σ₁ (kWh n I K)) (K .next m σ₁))
 | .pass,_,m,σ,K=>K .next m σ
 | _,_,_,_,_=>False
noncomputable def wpSs (Φ:Tab):List Mine.S->XL->M->LS->KS->Prop
 | [],_,m,σ,K=>K .next m σ
 | s::r,X,m,σ,K=>wpS Φ s X m σ (kSeq (wpSs Φ r X) K)
end
end Mine
end
section
namespace Mine
open PySem PySem.W PySem.Calls PyProof.Rows
section
variable {prog:Program}{w:World}{A:Around}{E:Value->Shared->Prop}{s:Shared}
theorem tup_lt {x y:Addr}{p q:Ab}{t u t' u':Tok}{n k:Nat}{P:Fin->Shared->Prop} (hx:s.heap.get? x=some (Be #[.int p.1 t,.int p.2 u] n)) (hy:s.heap.get? y=some (Be #[.int q.1 t',.int q.2 u'] k))
  (h:P (.done (.ret (.bool (At p q)))) s):wpAny (model prog w) A (Builtin.«tuple.__lt__» ⟨[.ref x,.ref y],[]⟩) P E s:=by
 show wpAny _ _ (isInstance (.ref y) (.type "tuple") >>= _) _ _ s
 refine wpAny_bind (wpAny_isInstance (T := "tuple") ⟨_,hy,rfl⟩ isSubtype_tuple_tuple ?_)
 simp only [Bool.not_true,Bool.false_eq_true,if_false]
 refine wpAny_bind (wpAny_tupleItemsOf hx rfl ?_)
 refine wpAny_bind (wpAny_tupleItemsOf hy rfl ?_)
 refine wpAny_bind ?_
 show wpAny _ _ (forIn [(Value.int p.1 t,Value.int q.1 t'),(Value.int p.2 u,Value.int q.2 u')] _ _) _ _ s
 rw [List.forIn_cons]
 refine wpAny_bind (wpAny_bind (wpAny_eqBool_int ?_))
 unfold At at h
 by_cases e:p.1=q.1
 ·rw [if_pos e] at h
  rw [show (p.1 == q.1)=true from beq_iff_eq.mpr e]
  refine wpAny_pure ?_
  show wpAny _ _ (forIn [(Value.int p.2 u,Value.int q.2 u')] _ _) _ _ s
  rw [List.forIn_cons]
  refine wpAny_bind (wpAny_bind (wpAny_eqBool_int ?_))
  by_cases e2:p.2=q.2
  ·rw [show (p.2 == q.2)=true from beq_iff_eq.mpr e2]
   refine wpAny_pure ?_
   refine wpAny_pure ?_
   rw [e2,decide_eq_false (Int.lt_irrefl _)] at h
   exact wpAny_pure h
  ·rw [show (p.2 == q.2)=false from beq_eq_false_iff_ne.mpr e2]
   refine wpAny_bind (wpAny_rule (wpAny_bind (lt_int ?_)))
   exact wpAny_pure (wpAny_pure (wpAny_pure h))
 ·rw [if_neg e] at h
  rw [show (p.1 == q.1)=false from beq_eq_false_iff_ne.mpr e]
  refine wpAny_bind (wpAny_rule (wpAny_bind (lt_int ?_)))
  exact wpAny_pure (wpAny_pure (wpAny_pure h))
end
section
variable {prog:Program}{w:World}{S:Sta prog w}{F:Fx S}{m:Nat->Option AV}{σ:Store}{X:Value->Shared->Prop}
theorem KT.ltSpot {p q:Ab}{Q:Bool->Store->Prop} (h:Q (At p q) σ):KT F m σ .Lt (sp p) (sp q) Q X:=by
 intro va vb s hs ra rb
 refine X4ppp (Rep.spot ra) fun x t u n he48_4 e zz=>?_
 subst he48_4
 refine X4ppp (Rep.spot rb) fun y t' u' k he49_4 e' zz=>?_
 subst he49_4
 have hu:F.A.units<cLine:=by have:=F.room.un;unfold cLine;exact lin [(F.A.units),(F.k)] [] (.nlt 1 V0 Gf) [.nlt 1 (.add V0 (.mul 20 V1)) Bz] rfl this
 exact wpAny_richCompare_same_room (op:=.Lt) ⟨_,e,rfl⟩ ⟨_,e',rfl⟩ PySem.F.slot_tuple_lt
  (wpAny_call_entry PySem.F.slot_tuple_lt ⟨_,e,rfl⟩ PySem.F.entry_tuple_lt (tup_lt e e' ⟨_,rfl,(fun e=>nomatch e),σ,Step.refl _ _ _ _,hs,_,rfl,h⟩) (PySem.F.args_tuple_lt_2 _ _)) hu
end
end Mine
end
section
namespace Mine
open PySem PyProof.Rows PySem.W
variable {prog:Program}{w:World}{S:Sta prog w}
section
variable {F:Fx S}{m:Vars}{σ:LS}{X:Value->Shared->Prop}{K:KV}
theorem Up.now {α:Type}{K:α->LS->Prop}{v:α} (k:okS σ) (h:K v σ):Up K v (Ak σ):=⟨σ,Sub.rfl,k,h⟩
theorem Up.upd {α:Type}{K:α->LS->Prop}{v:α}{i:Nat}{a:Addr}{o p:AObj} (k:okS σ) (hi:slot σ i=.at a o) (h:K v (σ.set i (.at a p))):Up K v ((Ak σ).set a p) :=
 have f:Fits σ i (.at a p):=fun zz zz e=>by cases e;exact .inr ⟨o,hi⟩
 ⟨_,D8 k f,CZ k f,h⟩
theorem Up.add {α:Type}{K:α->LS->Prop}{v:α}{i:Nat}{a:Addr}{p:AObj} (k:okS σ) (hd:¬ Dom (Ak σ) a) (h:K v (σ.set i (.at a p))):Up K v ((Ak σ).set a p) :=
 have f:Fits σ i (.at a p):=fun zz zz e=>by cases e;exact .inl (Cp hd)
 ⟨_,D8 k f,CZ k f,h⟩
theorem frW.fresh {mu:Option Nat}{o:AObj}{fz:AV} (k:okS σ) (h:frW mu o fz σ K):Fresh (Ak σ) o fz (Up K):=by
 cases mu with
 | none=>exact .inl (.now k h)
 | some i=>exact .inr ⟨i,fun a hd=>.add k hd (h a)⟩
theorem dlW.out {v:AV}{K:List AV->Prop} (k:okS σ) (h:dlW σ v K):∃ l,dl (Ak σ) v=some l/\K l:=by
 cases v with
 | list l=>exact ⟨l,rfl,h⟩
 | loc a i =>
  unfold dlW at h
  dsimp only at h
  cases q:slot σ i with
  | no=>rw [q] at h;exact h.elim
  | «at» b o =>
   rw [q] at h
   cases o with
   | list l=>obtain ⟨rfl,h⟩:=h;exact ⟨l,Bw (An k q),h⟩
   | _=>exact h.elim
 | _=>exact h.elim
theorem spotW.out {a:AV}{K:Ab->Prop} (h:spotW a K):∃ k:Ab,a=sp k/\K k:=by
 unfold spotW at h
 cases q:spot? a with
 | none=>rw [q] at h;exact h.elim
 | some k=>rw [q] at h;exact ⟨k,spot?_out q,h⟩
theorem int2.out {a b:AV}{K:Int->Int->Prop} (h:int2 a b K):∃ x y,a=.int x/\b=.int y/\K x y:=by
 cases a with
 | int x =>
  cases b with
  | int y=>exact ⟨x,y,rfl,rfl,h⟩
  | _=>exact h.elim
 | _=>exact h.elim
theorem boolW.out {a:AV}{K:Bool->Prop} (h:boolW a K):∃ b,a=.bool b/\K b:=by
 cases a with
 | bool b=>exact ⟨b,rfl,h⟩
 | _=>exact h.elim
theorem quiet.out {q:Bool}{P:Prop} (h:quiet q P):q=true/\P:=by
 cases q with
 | true=>exact ⟨rfl,h⟩
 | false=>exact h.elim
theorem vwW.out {v:AV}{K:AV->Prop} (k:okS σ) (h:vwW σ v K):∃ v',K v'/\∀ d,Fn v'=some d->Bs (Ak σ) v=some d:=by
 cases v with
 | loc a i =>
  unfold vwW at h
  dsimp only at h
  cases q:slot σ i with
  | no=>rw [q] at h;exact h.elim
  | «at» b o =>
   rw [q] at h
   cases o with
   | list l =>
    obtain ⟨rfl,h⟩:=h
    refine ⟨_,h,fun d e=>?_⟩
    simp only [Bs,Bw (An k q)]
    exact e
   | dict l=>refine X0lp (h) fun h=>?_;exact ⟨_,h,fun d e=>(Ae rfl e).elim⟩
   | _=>exact h.elim
 | _=>exact ⟨_,h,fun d e=>e⟩
theorem addW_ok {mu:Option Nat}{a b:AV} (k:okS σ) (h:addW mu a b σ K):BT F m (Ak σ) .Add a b (Up K) X:=by
 have lists:(dlW σ a fun l=>dlW σ b fun k=>l.length+k.length<=big/\frW mu (.list (l++k)) (.list (l++k)) σ K)->BT F m (Ak σ) .Add a b (Up K) X:=fun h=>by
  refine X1pp (h.out k) fun l h1 h=>?_
  refine X1ppp (h.out k) fun l' h2 hz h=>?_
  exact BT.addList h1 h2 hz (h.fresh k)
 cases a with
 | int x =>
  cases b with
  | int y=>exact BT.add (.now k h)
  | _=>exact h.elim
 | str x =>
  cases b with
  | str y=>exact BT.addStr h.1 (.now k h.2)
  | _=>exact h.elim
 | _=>exact lists h
theorem mulW_ok {mu:Option Nat}{a b:AV} (k:okS σ) (h:mulW mu a b σ K):BT F m (Ak σ) .Mult a b (Up K) X:=by
 cases b with
 | int y =>
  cases a with
  | int x=>exact BT.mul h.1 (.now k h.2)
  | str x=>exact BT.mulStr h.1 (.now k h.2)
  | _=>exact h.elim
 | _=>exact h.elim
theorem cnd.out {li:Bool}{P R:Prop} (h:cnd li P R) (hl:li=true->P):P/\R:=by
 cases li with
 | true=>exact ⟨hl rfl,h⟩
 | false=>exact h
theorem J3 {li:Bool}{mu:Option Nat}{op:Operator}{a b:AV} (k:okS σ) (hl:li=true->∀ y,b=.int y->y≠0/\y.natAbs<1073741824) (h:binW li mu op a b σ K):BT F m (Ak σ) op a b (Up K) X:=by
 cases op with
 | Add=>exact addW_ok k h
 | Sub=>refine X2ppp (int2.out h) fun x y he121_2 he121_3 h=>?_;subst he121_2;subst he121_3;exact BT.sub (.now k h)
 | Mult=>exact mulW_ok (mu:=mu) k h
 | Mod=>unfold binW at h;refine X2ppp (int2.out h) fun x y he123_2 he123_3 h=>?_;subst he123_2;subst he123_3;refine Ad (cnd.out h fun q=>(hl q y rfl).1) fun h1 h2=>?_;exact BT.mod h1 (.now k h2)
 | FloorDiv=>unfold binW at h;refine X2ppp (int2.out h) fun x y he124_2 he124_3 h=>?_;subst he124_2;subst he124_3;refine Ad (cnd.out h fun q=>hl q y rfl) fun h1 h2=>?_;exact BT.div h1.1 h1.2 (.now k h2)
 | _=>exact h.elim
theorem lit_pos {e:E} (h:lit e=true):∃ n:Nat,e=.int (n+1:Nat)/\n<1000000:=by
 cases e with
 | int i =>
  cases i with
  | ofNat n =>
   cases n with
   | zero=>cases h
   | succ n=>exact ⟨n,rfl,Nat.blt_eq.mp h⟩
  | negSucc n=>cases h
 | _=>exact (Bool.false_ne_true h).elim
theorem lit0_pos {e:E} (h:lit0 e=true):∃ n:Nat,e=.int (n:Nat)/\n<1000000:=by
 cases e with
 | int i =>
  cases i with
  | ofNat n=>exact ⟨n,rfl,Nat.blt_eq.mp h⟩
  | negSucc n=>cases h
 | _=>exact (Bool.false_ne_true h).elim
theorem eqW_ok {a b:AV}{K:Bool->LS->Prop}{f:Bool->Bool}{op:CmpOp} (hop:(op=.Eq/\f=id)\/(op=.NotEq/\f=not)) (k:okS σ) (h:eqW a b σ fun t=>K (f t) σ):KT F m (Ak σ) op a b (Up K) X:=by
 have gen:∀ {a b:AV},(vwW σ a fun a'=>vwW σ b fun b'=>∃ t,EqP a' b' t/\K (f t) σ)->KT F m (Ak σ) op a b (Up K) X:=fun h=>by
  refine X1pp (h.out k) fun a' h ea=>?_
  obtain ⟨b',h,eb⟩:=h.out k
  obtain ⟨t,⟨da,db,h1,h2,h3,h4,h5⟩,h⟩:=h
  rcases hop with ⟨rfl,rfl⟩ | ⟨rfl,rfl⟩
  ·exact KT.eq (ea _ h1) (eb _ h2) h3 h4 (.now k (by rw [h5];exact h))
  ·exact KT.ne (ea _ h1) (eb _ h2) h3 h4 (.now k (by rw [h5];exact h))
 cases a with
 | int x =>
  cases b with
  | int y =>
   rcases hop with ⟨rfl,rfl⟩ | ⟨rfl,rfl⟩
   ·exact KT.intEq (.now k h)
   ·exact KT.intNe (.now k h)
  | _=>exact gen (a:=.int x) h
 | _=>exact gen h
theorem D6 {s:Store}{a:AV}{d:PyData} (h:Fn a=some d):Bs s a=some d:=by
 cases a<;>first | exact h | exact (Ae rfl h).elim
theorem inW_ok {a b:AV}{K:Bool->LS->Prop}{f:Bool->Bool}{op:CmpOp} (hop:(op=.In/\f=id)\/(op=.NotIn/\f=not)) (k:okS σ) (h:inW a b σ fun t=>K (f t) σ):KT F m (Ak σ) op a b (Up K) X:=by
 obtain ⟨t,h,hK⟩:=h
 have dct:∀ {l:List (Ab×AV)},dd (Ak σ) b=some l->(spotW a fun k=>(BW l k).isSome=t)->KT F m (Ak σ) op a b (Up K) X:=fun e h=>by
  obtain ⟨kk,rfl,h⟩:=h.out
  subst h
  rcases hop with ⟨rfl,rfl⟩ | ⟨rfl,rfl⟩
  ·exact KT.inDict e (.now k hK)
  ·exact KT.notInDict e (.now k hK)
 have seq:∀ {v:AV},(∀ d,Fn v=some d->Bs (Ak σ) b=some d)->InP a v t->KT F m (Ak σ) op a b (Up K) X:=fun e h=>by
  obtain ⟨d,xs,h1,h2,h3,h4,h5,h6⟩:=h
  have hb:Hu (Ak σ) b=some xs:=by
   unfold Hu
   rcases h2 with q | q<;>rw [e _ q]
  rcases hop with ⟨rfl,rfl⟩ | ⟨rfl,rfl⟩
  ·exact KT.inSeq (D6 h1) hb h3 h4 h5 (.now k (by rw [h6];exact hK))
  ·exact KT.notInSeq (D6 h1) hb h3 h4 h5 (.now k (by rw [h6];exact hK))
 cases b with
 | dict l=>exact dct rfl h
 | str x =>
  cases a with
  | str y =>
   have h:Txt.contains x y=t:=h
   subst h
   rcases hop with ⟨rfl,rfl⟩ | ⟨rfl,rfl⟩
   ·exact KT.inStr (.now k hK)
   ·exact KT.notInStr (.now k hK)
  | _=>exact h.elim
 | loc ad i =>
  unfold InV at h
  dsimp only at h
  cases q:slot σ i with
  | no=>rw [q] at h;exact h.elim
  | «at» b o =>
   rw [q] at h
   cases o with
   | list l =>
    obtain ⟨rfl,h⟩:=h
    refine seq (v:=.list l) (fun d e=>?_) h
    simp only [Bs,Bw (An k q)]
    exact e
   | dict l=>obtain ⟨rfl,h⟩:=h;exact dct (E6 (An k q)) h
   | _=>exact h.elim
 | _=>exact seq (fun d e=>D6 e) h
theorem ltW_ok {a b:AV}{K:Bool->LS->Prop} (k:okS σ) (h:ltW a b fun t=>K t σ):KT F m (Ak σ) .Lt a b (Up K) X:=by
 have gen:(int2 a b fun x y=>K (decide (x<y)) σ)->KT F m (Ak σ) .Lt a b (Up K) X:=fun h=>by
  refine X2ppp (int2.out h) fun x y he219_2 he219_3 h=>?_
  subst he219_2
  subst he219_3
  exact KT.intLt (.now k h)
 cases a with
 | tup l =>
  refine X1pp (spotW.out h) fun p e h=>?_
  refine X1pp (h.out) fun q he224_1 h=>?_
  subst he224_1
  rw [e]
  exact KT.ltSpot (.now k h)
 | _=>exact gen h
theorem Et {op:CmpOp}{a b:AV}{K:Bool->LS->Prop} (k:okS σ) (h:cmpW op a b σ fun t=>K t σ):KT F m (Ak σ) op a b (Up K) X:=by
 cases op with
 | Eq=>exact eqW_ok (.inl ⟨rfl,rfl⟩) k h
 | NotEq=>exact eqW_ok (.inr ⟨rfl,rfl⟩) k h
 | Lt=>exact ltW_ok k h
 | LtE=>refine X2ppp (int2.out h) fun x y he233_2 he233_3 h=>?_;subst he233_2;subst he233_3;exact KT.intLe (.now k h)
 | Gt=>refine X2ppp (int2.out h) fun x y he234_2 he234_3 h=>?_;subst he234_2;subst he234_3;exact KT.intGt (.now k h)
 | In=>exact inW_ok (.inl ⟨rfl,rfl⟩) k h
 | NotIn=>exact inW_ok (.inr ⟨rfl,rfl⟩) k h
 | _=>exact h.elim
theorem idxW.out {li:Bool}{i:AV}{K:Nat->Prop} (hl:li=true->∃ n:Nat,i=.int n/\n<1000000) (h:idxW li i K):∃ k:Int,i=.int k/\0<=k/\k<1000000/\K k.toNat:=by
 cases i with
 | int k =>
  obtain ⟨⟨h1,h2⟩,h3⟩:=cnd.out h fun q=>by
   obtain ⟨n,e,hn⟩:=hl q
   cases e
   exact ⟨Int.natCast_nonneg n,Int.ofNat_lt.mpr hn⟩
  exact ⟨k,rfl,h1,h2,h3⟩
 | _=>exact h.elim
theorem Il {li:Bool}{a i:AV} (hl:li=true->∃ n:Nat,i=.int n/\n<1000000) (k:okS σ) (h:subW li a i σ K):IT F m (Ak σ) a i (Up K) X:=by
 have lst:∀ {l:List AV},dl (Ak σ) a=some l->(idxW li i fun n=>∃ x,l[n]?=some x/\K x σ)->IT F m (Ak σ) a i (Up K) X:=fun e h=>by
  obtain ⟨kk,rfl,h0,h1,x,hx,h⟩:=idxW.out hl h
  exact IT.list e h0 h1 hx (.now k h)
 have dct:∀ {l:List (Ab×AV)},dd (Ak σ) a=some l->(spotW i fun k=>∃ x,BW l k=some x/\K x σ)->IT F m (Ak σ) a i (Up K) X:=fun e h=>by
  obtain ⟨kk,rfl,x,hx,h⟩:=h.out
  exact IT.dict e hx (.now k h)
 cases a with
 | tup l =>
  unfold subW at h
  obtain ⟨kk,rfl,h0,h1,h⟩:=idxW.out hl h
  cases hx:l[kk.toNat]? with
  | none=>rw [hx] at h;exact h.elim
  | some x=>rw [hx] at h;exact IT.tup h0 h1 hx (.now k h)
 | str x=>unfold subW at h;obtain ⟨kk,rfl,h0,h1,c,hx,h⟩:=idxW.out hl h;exact IT.str h0 h1 hx (.now k h)
 | nums l=>unfold subW at h;obtain ⟨kk,rfl,h0,h1,c,hx,h⟩:=idxW.out hl h;exact IT.nums h0 h1 hx (.now k h)
 | list l=>exact lst rfl h
 | dict l=>exact dct rfl h
 | loc ad j =>
  unfold subW at h
  dsimp only at h
  cases q:slot σ j with
  | no=>rw [q] at h;exact h.elim
  | «at» b o =>
   rw [q] at h
   cases o with
   | list l=>obtain ⟨rfl,h⟩:=h;exact lst (Bw (An k q)) h
   | dict l=>obtain ⟨rfl,h⟩:=h;exact dct (E6 (An k q)) h
   | _=>exact h.elim
 | _=>exact h.elim
end
end Mine
end
section
namespace Mine
open PySem PyProof.Rows PySem.W
variable {prog:Program}{w:World}{S:Sta prog w}
theorem CO.stp {tb:List Nat}{sc:Nms}{pst:Option PySem.Expr} (h:CO tb sc pst .none):pst=Option.none\/∃ k p,pst=some (.Constant .none k p):=by
 rcases h.inv with ⟨e,_⟩ | ⟨x,e,hc⟩
 ·exact .inl e
 ·refine X2p (hc.inv) fun k p he13_2=>?_
  subst he13_2;exact .inr ⟨k,p,e⟩
theorem stp_ev {pst:Option PySem.Expr}{env:Env} (h:pst=Option.none\/∃ k p,pst=some (.Constant .none k p)):valueOrNone (evalOpt pst env)=pure .none:=by
 rcases h with e | ⟨k,p,e⟩<;>rw [e]<;>rfl
theorem Hg {A:Around}{X:Value->Shared->Prop}{Q':Value->Shared->Prop}{s:Shared}{po:PySem.Expr}{plo phi pst:Option PySem.Expr}{q:Pos}{o i:Value} (h:pst=Option.none\/∃ k p,pst=some (.Constant .none k p)) (t:ItemOn (model prog w) A X o i Q' s) :
  wpAny (model prog w) A (subscriptTail po (.Slice plo phi pst q) o i) Q' X s:=by
 refine X2ppp (t) fun T id hl hT hg=>?_
 refine tail_any (ops:=if pst=Option.none then [i,o] else [o,i]) hT hl hg ?_
 rcases h with e | ⟨k,p,e⟩
 ·subst e;rw [if_pos rfl];rfl
 ·subst e;rw [if_neg nofun];rfl
theorem part_nat {b:Int}{n:Nat}{t:Tok} (h:(n:Int)=b):IsPart (.int b t) (some (n:Int)):=h▸.int _ _
theorem I7 {cv:Nat->Value}{h:Heap}{D:Addr->Prop}{x y:AV}{vx vy:Value}{l l':List AV}{vs:List Value} (rx:Rep cv h D x vx) (ry:Rep cv h D y vy) (hcut:cut l x y=some l') (rl:RepL cv h D l vs) :
  ∃ lo hi vs',IsPart vx lo/\IsPart vy hi/\slicePick vs.toArray lo hi Option.none=List.toArray vs'/\RepL cv h D l' vs':=by
 refine Ad (cut_out hcut) fun e hy26_0=>?_
 refine X1ppp (hy26_0) fun b e2 hb he26_4=>?_
 subst he26_4
 subst e;subst e2
 rw [show vx=.none from rx.inv]
 obtain ⟨_,rfl⟩:=ry.inv
 exact ⟨_,_,_,.none,part_nat (Int.toNat_of_nonneg hb),slicePick_upto' _ b.toNat,rl.take _⟩
theorem two_new (h:Heap) (o:Obj):h.get? (h.push o).objs.size=Option.none:=by
 rw [Heap.size_push]
 cases q:h.get? (h.objs.size+1) with
 | none=>rfl
 | some o=>exact absurd (Heap.lt_size q) (Nat.not_lt.mpr (Nat.le_succ _))
theorem Hq {F:Fx S}{m:Vars}{σ:Store}{s:Shared}{X:Value->Shared->Prop}{Q:AV->Store->Prop}{ad:Addr}{vs vs':List Value}{n:Nat}{l l':List AV}{lo hi:Option Int}{vx vy:Value} (hs:F.St m σ s) (e:s.heap.get? ad=some (Ax vs.toArray n)) (rl:RepL S.cv s.heap (F.D σ) l vs) (hz:l.length<=big)
  (p1:IsPart vx lo) (p2:IsPart vy hi) (hp:slicePick vs.toArray lo hi Option.none=vs'.toArray) (r':RepL S.cv s.heap (F.D σ) l' vs') (q:Fresh σ (.list l') (.list l') Q) :
  ItemOn (model prog w) F.A X (.ref ad) (.ref s.heap.objs.size) (PW F m σ s (PV F Q)) { s with heap:=s.heap.push { cls:=.type "slice",data:=.fields #[vx,vy,.none] } }:=by
 have hL:s.heap.IsList ad vs.toArray:=⟨_,e,rfl,n,rfl⟩
 refine ⟨_,_,list_getitem_lookup,Heap.IsList.typeIs (s:={ s with heap:=s.heap.push { cls:=.type "slice",data:=.fields #[vx,vy,.none] } }) (hL.push _),
  wpAny_getItem_list_slice (hL.push _) (Heap.IsSliceOf.new ..) p1 p2 .none (by simp) ?_ (by rw [List.size_toArray,rl.length];exact A7 hz)⟩
 rw [hp]
 exact A2 (tk:=s.toks) (a:=(s.heap.push { cls:=.type "slice",data:=.fields #[vx,vy,.none] }).objs.size) hs (fun b o e=>Heap.get?_push_of_some _ (Heap.get?_push_of_some _ e)) (two_new _ _) (Heap.get?_push_size _ rfl) r' q
inductive Fm (σ:Store) (Q:AV->Store->Prop):AV->AV->AV->Prop
 | list {a x y:AV}{l l':List AV} (hl:dl σ a=some l) (hz:l.length<=big) (hcut:cut l x y=some l') (h:Fresh σ (.list l') (.list l') Q):Fm σ Q a x y
theorem Hr {F:Fx S}{m:Vars}{σ:Store}{s:Shared}{X:Value->Shared->Prop}{Q:AV->Store->Prop}{a x y:AV}{va vx vy:Value} (hs:F.St m σ s) (ra:Rep S.cv s.heap (F.D σ) a va) (rx:Rep S.cv s.heap (F.D σ) x vx) (ry:Rep S.cv s.heap (F.D σ) y vy) (h:Fm σ Q a x y) :
  ItemOn (model prog w) F.A X va (.ref s.heap.objs.size) (PW F m σ s (PV F Q)) { s with heap:=s.heap.push { cls:=.type "slice",data:=.fields #[vx,vy,.none] } }:=by
 cases h with
 | list hl hz hcut q =>
  refine X3ppp (ra.lst hs.inv hl) fun ad vs n he50_3 e rl=>?_
  subst he50_3
  obtain ⟨lo,hi,vs',p1,p2,hp,r'⟩:=I7 rx ry hcut rl
  exact Hq hs e rl hz p1 p2 hp r' q
theorem ET.sliceAny {F:Fx S}{m:Vars}{σ:Store}{X:Value->Shared->Prop}{Q:AV->Store->Prop}{o lo hi:E} (h:ET F m σ o (fun a σ₁=>ET F m σ₁ lo (fun x σ₂=>ET F m σ₂ hi (fun y σ₃=>Fm σ₃ Q a x y) X) X) X) :
  ET F m σ (.slice o lo hi .none) Q X:=by
 intro pe hc s hs
 refine X6ppppp (hc.inv) fun po plo phi pst p q he56_6 ho hlo hhi hst=>?_
 subst he56_6
 refine Subscript_ ((h _ ho s hs).out ?_)
 rintro va σ₁ s₁ st₁ h₁ ⟨a,ra,AA⟩
 show wpAny _ _ (do
  let l <- valueOrNone (evalOpt plo F.env)
  let u <- holding [l] (valueOrNone (evalOpt phi F.env))
  let s <- holding [l,u] (valueOrNone (evalOpt pst F.env))
  newFields "slice" [l,u,s]) _ _ _
 refine wpAny_bind ((optE AA hlo h₁).out ?_)
 rintro vx σ₂ s₂ st₂ h₂ ⟨x,rx,AW⟩
 refine wpAny_bind (wpAny_holding ((optE AW hhi h₂).out ?_))
 rintro vy σ₃ Bf st₃ h₃ ⟨y,ry,hsl⟩
 refine wpAny_bind (wpAny_holding (wpAny_of_eq (stp_ev hst.stp) ?_))
 refine wpAny_newObj_type (Hg hst.stp ?_) (by size_fits)
 obtain ⟨T,id,hl,hT,hg⟩:=Hr h₃ ((ra.st st₂ h₂).st st₃ h₃) (rx.st st₃ h₃) ry hsl
 exact ⟨T,id,hl,hT,wpAny_mono hg (fun _ _ ⟨σ',st',h1,q⟩=>⟨σ',((st₁.trans st₂).trans st₃).trans st',h1,q⟩) fun zz zz e=>e⟩
end Mine
end
section
namespace Mine
open PySem PyProof.Rows PySem.W
variable {prog:Program}{w:World}{S:Sta prog w}{W:Wd}
theorem Sub.trans {σ:LS}{s t:Store} (a:Sub σ s) (b:∀ x o,s x=some o->t x=some o):Sub σ t:=fun x o h=>b x o (a x o h)
theorem Up.less {α:Type}{K:α->LS->Prop}{v:α}{s t:Store} (h:Up K v s) (b:∀ x o,s x=some o->t x=some o):Up K v t:=by
 obtain ⟨σ,e,k,q⟩:=h;exact ⟨σ,e.trans b,k,q⟩
theorem Sub.at {σ:LS}{s:Store}{i:Nat}{a:Addr}{o:AObj} (h:Sub σ s) (k:okS σ) (q:slot σ i=.at a o):s a=some o:=h _ _ (An k q)
theorem frW.freshS {σ:LS}{s:Store}{K:KV}{mu:Option Nat}{o:AObj}{fz:AV} (k:okS σ) (hs:Sub σ s) (h:frW mu o fz σ K):Fresh s o fz (Up K):=by
 rcases h.fresh k with q | ⟨i,q⟩
 ·exact .inl (q.less hs)
 ·refine .inr ⟨i,fun a hd=>(q a fun d=>hd ?_).less fun x p e=>?_⟩
  ·intro z
   cases e:Ak σ a with
   | none=>exact d e
   | some o'=>rw [hs _ _ e] at z;cases z
  ·by_cases z:x=a
   ·subst z;rw [Store.set_self] at e ⊢;exact e
   ·rw [Store.set_ne _ _ z] at e ⊢;exact hs _ _ e
section
variable {F:Fx S}{m:Vars}{σ:LS}{X:Value->Shared->Prop}{K:KV}
theorem tyW_ok {a:AV}{t:Ty}{P:Prop} (k:okS σ) (h:atW σ a (tyW σ a=some t/\P)):tyA (Ak σ) a=some t/\P:=by
 cases a with
 | loc x i =>
  unfold atW at h
  unfold tyA
  dsimp only at h ⊢
  unfold tyW at h
  dsimp only at h
  cases q:slot σ i with
  | no=>rw [q] at h;exact h.elim
  | «at» b o =>
   rw [q] at h
   obtain ⟨rfl,h,p⟩:=h
   rw [An k q]
   refine ⟨?_,p⟩
   cases o<;>exact h
 | _=>exact h
theorem atW.imp {a:AV}{P Q:Prop} (g:P->Q) (h:atW σ a P):atW σ a Q:=by
 cases a with
 | loc x i =>
  unfold atW at h ⊢
  dsimp only at h ⊢
  cases q:slot σ i with
  | no=>rw [q] at h;exact h.elim
  | «at» b o=>rw [q] at h;exact ⟨h.1,g h.2⟩
 | _=>exact g h
theorem isiW_ok {a c:AV}{ex:List Nat} (G:Good S W) (hx:∀ i,ex.contains i=true->W.U i=true) (k:okS σ) (h:isiW ex a c σ K):CT F m (Ak σ) (.builtin "isinstance") [a,c] (Up K) X:=by
 cases c with
 | cls j =>
  have gen:atW σ a (match isi? σ a j with
   | some b=>K (.bool b) σ
   | Option.none=>False)->CT F m (Ak σ) (.builtin "isinstance") [a,.cls j] (Up K) X:=fun h=>by
   cases hb:isi? σ a j with
   | none =>
    rw [hb] at h
    exact (tyW_ok (t:=.none) (P:=False) k (h.imp False.elim)).2.elim
   | some b =>
    rw [hb] at h
    refine X1pp (Aw hb) fun t ht hb=>?_
    refine X1pp (Aw hb) fun u hu e=>?_
    refine Ad (tyW_ok k (h.imp fun p=>⟨ht,p⟩)) fun h1 h2=>?_
    cases hp:isP t u with
    | false=>rw [hp] at e;cases e
    | true =>
     rw [hp] at e
     cases e
     exact CT.isinst hp h1 (Gg G hu).1 (Gg G hu).2 (.now k h2)
  exact gen h
 | _=>exact h.elim
theorem lenW_ok {a:AV} (k:okS σ) (h:lenW a σ K):CT F m (Ak σ) (.builtin "len") [a] (Up K) X:=by
 cases a with
 | str x=>exact CT.lenStr h.1 (.now k h.2)
 | tup l=>exact CT.lenTup h.1 (.now k h.2)
 | nums l=>exact CT.lenInts h.1 (.now k h.2)
 | list l=>exact CT.lenList rfl h.1 (.now k h.2)
 | dict l=>exact CT.lenDict rfl h.1 (.now k h.2)
 | loc ad i =>
  unfold lenW at h
  dsimp only at h
  cases q:slot σ i with
  | no=>rw [q] at h;exact h.elim
  | «at» b o =>
   rw [q] at h
   cases o with
   | list l=>refine AU (h) fun he90_0 h1 h2=>?_;subst he90_0;exact CT.lenList (Bw (An k q)) h1 (.now k h2)
   | dict l=>refine AU (h) fun he91_0 h1 h2=>?_;subst he91_0;exact CT.lenDict (E6 (An k q)) h1 (.now k h2)
   | _=>exact h.elim
 | _=>exact h.elim
theorem listW_ok {q:Bool}{mu:Option Nat}{a:AV} (hq:q=true->S.hx=Option.none) (k:okS σ) (h:listW q mu a σ K):CT F m (Ak σ) (.type "list") [a] (Up K) X:=by
 cases a with
 | tup l=>exact CT.listTup h.1 (h.2.fresh k)
 | list l=>exact CT.listList rfl h.1 (h.2.fresh k)
 | dict l=>refine AU (quiet.out h) fun e h1 h2=>?_;exact CT.listDict (hq e) rfl h1 (h2.fresh k)
 | loc ad i =>
  unfold listW at h
  dsimp only at h
  cases q:slot σ i with
  | no=>rw [q] at h;exact h.elim
  | «at» b o =>
   rw [q] at h
   cases o with
   | list l=>refine AU (h) fun he107_0 h1 h2=>?_;subst he107_0;exact CT.listList (Bw (An k q)) h1 (h2.fresh k)
   | dict l=>obtain ⟨rfl,h⟩:=h;obtain ⟨e,h1,h2⟩:=quiet.out h;exact CT.listDict (hq e) (E6 (An k q)) h1 (h2.fresh k)
   | _=>exact h.elim
 | _=>exact h.elim
theorem ints?_out:∀ {avs:List AV}{l:List Int},ints? avs=some l->avs=l.map .int
 | [],l,h=>by cases h;rfl
 | a::r,l,h=>by
  refine X1pp (Aw (show a.int?.bind (fun x=>(ints? r).bind fun l=>some (x::l))=some l from h)) fun x h1 h=>?_
  refine X1pp (Aw h) fun k h2 h=>?_
  cases h
  rw [AV.int?_out h1,ints?_out h2];rfl
theorem IJ {avs:List AV} (k:okS σ) (h:IK avs σ K):CT F m (Ak σ) (.type "range") avs (Up K) X:=by
 unfold IK at h
 cases q:ints? avs with
 | none=>rw [q] at h;exact h.elim
 | some l =>
  rw [q] at h
  rw [ints?_out q]
  cases l with
  | nil=>exact h.elim
  | cons a l =>
   cases l with
   | nil=>exact CT.range1 (.now k h)
   | cons b l =>
    cases l with
    | nil=>exact CT.range2 (.now k h)
    | cons c l =>
     cases l with
     | nil=>exact CT.range3 h.1 h.2.1 (.now k h.2.2)
     | cons _ _=>exact h.elim
theorem C5 {avs:List AV}{P:AV->Prop} (h:match avs with | [a]=>P a | _=>False):∃ a,avs=[a]/\P a:=by
 cases avs with
 | nil=>exact h.elim
 | cons a r =>
  cases r with
  | nil=>exact ⟨a,rfl,h⟩
  | cons _ _=>exact h.elim
theorem Ie {avs:List AV}{P:AV->AV->Prop} (h:match avs with | [a,b]=>P a b | _=>False):∃ a b,avs=[a,b]/\P a b:=by
 cases avs with
 | nil=>exact h.elim
 | cons a r =>
  cases r with
  | nil=>exact h.elim
  | cons b r =>
   cases r with
   | nil=>exact ⟨a,b,rfl,h⟩
   | cons _ _=>exact h.elim
theorem nil_of {avs:List AV}{P:Prop} (h:match avs with | []=>P | _=>False):avs=[]/\P:=by
 cases avs with
 | nil=>exact ⟨rfl,h⟩
 | cons _ _=>exact h.elim
theorem buW_ok {q:Bool}{ex:List Nat}{mu:Option Nat}{i:Nat}{avs:List AV} (G:Good S W) (hx:∀ i,ex.contains i=true->W.U i=true) (hq:q=true->S.hx=Option.none) (k:okS σ) (h:buW q ex mu i avs σ K):CT F m (Ak σ) (bv i) avs (Up K) X:=by
 unfold buW at h
 split at h
 ·refine X1pp (C5 h) fun a he161_1 h=>?_
  subst he161_1;exact lenW_ok k h
 ·refine X2pp (Ie h) fun a b he162_2 h=>?_
  subst he162_2;exact isiW_ok G hx k h
 ·refine X1pp (C5 h) fun a he163_1 h=>?_
  subst he163_1;exact listW_ok hq k h
 ·exact IJ k h
 ·refine X1pp (C5 h) fun a he165_1 h=>?_
  subst he165_1
  refine Ad (quiet.out h) fun e h=>?_
  refine X1pp (spotW.out h) fun p he167_1 h=>?_
  subst he167_1
  exact CT.sum2 (hq e) h.1.1 h.1.2 (.now k h.2)
 ·refine X2pp (Ie h) fun a b he169_2 h=>?_
  subst he169_2
  refine Ad (quiet.out h) fun e h=>?_
  refine X2ppp (int2.out h) fun x y he171_2 he171_3 h=>?_
  subst he171_2
  subst he171_3
  exact CT.min2' (hq e) (.now k h)
 ·refine X2pp (Ie h) fun a b he173_2 h=>?_
  subst he173_2
  refine Ad (quiet.out h) fun e h=>?_
  refine X2ppp (int2.out h) fun x y he175_2 he175_3 h=>?_
  subst he175_2
  subst he175_3
  exact CT.max2' (hq e) (.now k h)
 ·refine X1pp (C5 h) fun a he177_1 h=>?_
  subst he177_1
  refine Ad (quiet.out h) fun e h=>?_
  refine X1pp (h.out k) fun l h1 hy179_0=>?_
  refine X1pp (hy179_0) fun bs he179_3 h=>?_
  subst he179_3
  exact CT.all (hq e) h1 (.now k h)
 ·refine X1pp (C5 h) fun a he181_1 h=>?_
  subst he181_1
  refine Ad (quiet.out h) fun e h=>?_
  refine X1pp (h.out k) fun l h1 hy183_0=>?_
  refine X1pp (hy183_0) fun bs he183_3 h=>?_
  subst he183_3
  exact CT.any (hq e) h1 (.now k h)
 ·exact h.elim
end
noncomputable def Snd (S:Sta prog w) (k:Nat) (fv:Value) (f:FS):Prop:=∀ F:Fx S,k<=F.k->∀ m mu avs σ K X,okS σ->ownW f mu avs σ K X->CT F m (Ak σ) fv avs (Up K) (XF F m (Up X))
structure TabOk (S:Sta prog w) (W:Wd) (k:Nat) (Φ:Tab):Prop where
 good:Good S W
 q:Φ.q=true->S.hx=Option.none
 ex:∀ i,Φ.ex.contains i=true->W.U i=true
 fn:∀ i f,Gj Φ.fn i=some f->(W.U i=true/\i≠28)/\Snd S k (S.cv i) f
 me:∀ n f,Gj Φ.me n=some f->∃ fa,W.M n=some fa/\Snd S k (.ref fa) f
 ky:∀ i f,Gj Φ.ky i=some f->W.U i=true/\∃ fa kf,S.cv i=.ref fa/\kf+2<=k/\∀ x,(f x).isSome=true->KeyT S kf (.ref fa) (Bh f) [x]
set_option tactic.hygienic true in
theorem callW_ok {Φ:Tab}{k:Nat}{F:Fx S}{m:Vars}{σ:LS}{X:XL}{K:KV}{mu:Option Nat}{i:Nat}{avs:List AV} (T:TabOk S W k Φ) (hk:k<=F.k) (o:okS σ) (h:callW Φ X mu i avs σ K) :
  (W.U i=true/\i≠28)/\CT F m (Ak σ) (S.cv i) avs (Up K) (XF F m (Up X)):=by
 unfold callW at h
 split at h
 ·rename_i q
  have q:=Nat.blt_eq.mp q
  refine ⟨⟨T.good.bu i q,by exact fun z0=>lin [i] [] .no [.nlt 1 V0 K17,.neq (-1) V0 K28] rfl q z0⟩,?_⟩
  rw [T.good.base i q]
  exact buW_ok T.good T.ex T.q o h
 ·split at h
  ·rename_i f hf
   exact ⟨(T.fn i f hf).1,(T.fn i f hf).2 F hk m mu avs σ K X o h⟩
  ·exact h.elim
theorem slotL.out {σ:LS}{a:AV}{P:Addr->Nat->List AV->Prop} (h:slotL σ a P):∃ x i l,a=.loc x i/\slot σ i=.at x (.list l)/\P x i l:=by
 cases a with
 | loc x i =>
  unfold slotL at h
  dsimp only at h
  cases q:slot σ i with
  | no=>rw [q] at h;exact h.elim
  | «at» b o =>
   rw [q] at h
   cases o with
   | list l=>refine Ad (h) fun he221_0 h=>?_;subst he221_0;exact ⟨_,_,_,rfl,q,h⟩
   | _=>exact h.elim
 | _=>exact h.elim
theorem obj?_out {s:Slot}{b:Addr×AObj} (h:s.obj?=some b):s=.at b.1 b.2:=by
 cases s with
 | no=>cases h
 | «at» a o=>cases h;rfl
theorem D5 {l:List (Str×AV)}{p:(Str×AV)×(Str×AV)} (q:two? l=some p) (e1:p.1.1 = "texts") (e2:p.2.1 = "own"):l=EA p.1.2 p.2.2:=by
 rw [two?_out q];unfold EA;rw [<- e1,<- e2]
theorem fields?_out {σ:LS}{i:Nat}{f:(Addr×Addr)×Addr×List (Str×AV)} (h:fields? σ i=some f):slot σ i=.at f.1.1 (.inst f.1.2)/\slot σ (i+1)=.at f.2.1 (.attrs f.2.2):=by
 refine X1pp (Aw h) fun b h1 h=>?_
 refine X1pp (Aw h) fun d h2 h=>?_
 refine X1pp (Aw h) fun c h3 h=>?_
 refine X1pp (Aw h) fun l h4 h=>?_
 cases h
 exact ⟨by rw [obj?_out h1,AObj.inst?_out h2],by rw [obj?_out h3,AObj.attrs?_out h4]⟩
theorem instW.out {σ:LS}{s:Store}{a:AV}{P:AV->AV->Prop} (k:okS σ) (hs:Sub σ s) (h:instW σ a P):∃ t o,Dy s a=some (EA t o)/\P t o:=by
 cases a with
 | inst l =>
  have h:(match two? l with
   | some p=>(p.1.1 = "texts"/\p.2.1 = "own")/\P p.1.2 p.2.2
   | Option.none=>False):=h
  cases q:two? l with
  | none=>rw [q] at h;exact h.elim
  | some p=>rw [q] at h;rw [D5 q h.1.1 h.1.2];exact ⟨_,_,rfl,h.2⟩
 | loc x i =>
  have h:(match fields? σ i with
   | some f=>(match two? f.2.2 with
    | some p=>(f.1.1=x/\f.2.1=f.1.2/\p.1.1 = "texts"/\p.2.1 = "own")/\P p.1.2 p.2.2
    | Option.none=>False)
   | Option.none=>False):=h
  cases q:fields? σ i with
  | none=>rw [q] at h;exact h.elim
  | some f =>
   rw [q] at h
   dsimp only at h
   cases q2:two? f.2.2 with
   | none=>rw [q2] at h;exact h.elim
   | some p =>
    rw [q2] at h
    obtain ⟨⟨rfl,e2,e3,e4⟩,hP⟩:=h
    refine Ad (fields?_out q) fun q1 q3=>?_
    refine ⟨_,_,?_,hP⟩
    exact (DY (hs.at k q1) (e2▸hs.at k q3)).trans (congrArg some (D5 q2 e3 e4))
 | _=>exact h.elim
structure Sd (S:Sta prog w) (k:Nat) (e:E) (f:WT) (X:XL):Prop where
 v:∀ F:Fx S,k<=F.k->∀ mu m σ K,okS σ->f.v mu m σ K->ET F (vr m) (Ak σ) e (Up K) (XF F (vr m) (Up X))
 t:∀ F:Fx S,k<=F.k->∀ m σ K,okS σ->f.t m σ K->TT F (vr m) (Ak σ) e (Up K) (XF F (vr m) (Up X))
noncomputable def SdL (S:Sta prog w) (k:Nat):List E->List WT->XL->Prop
 | [],[],_=>True
 | e::es,f::fs,X=>Sd S k e f X/\SdL S k es fs X
 | _,_,_=>False
section
variable {k:Nat}{F:Fx S}{m:M}{X:XL}
theorem Sd.on {e:E}{f:WT} (d:Sd S k e f X) (hk:k<=F.k) {mu:Option Nat}{σ:LS}{s:Store}{K:KV}{Q:AV->Store->Prop} (o:okS σ) (hs:Sub σ s) (h:f.v mu m σ K) (q:∀ a σ₁ s₁,okS σ₁->Sub σ₁ s₁->K a σ₁->Q a s₁):ET F (vr m) s e Q (XF F (vr m) (Up X)) :=
 ET.less hs (ET.mono (d.v F hk mu m σ K o h) fun a s₁ z=>by obtain ⟨σ₁,e,Ac,z⟩:=z;exact q a σ₁ s₁ Ac e z)
theorem Sd.onT {e:E}{f:WT} (d:Sd S k e f X) (hk:k<=F.k) {σ:LS}{s:Store}{K:KB}{Q:Bool->Store->Prop} (o:okS σ) (hs:Sub σ s) (h:f.t m σ K) (q:∀ a σ₁ s₁,okS σ₁->Sub σ₁ s₁->K a σ₁->Q a s₁):TT F (vr m) s e Q (XF F (vr m) (Up X)) :=
 TT.less hs (TT.mono (d.t F hk m σ K o h) fun a s₁ z=>by obtain ⟨σ₁,e,Ac,z⟩:=z;exact q a σ₁ s₁ Ac e z)
theorem Fy (hk:k<=F.k):∀ {es:List E}{fs:List WT}{σ:LS}{s:Store}{K:List AV->LS->Prop}{Q:List AV->Store->Prop},SdL S k es fs X->okS σ->Sub σ s->Fz fs m σ K->(∀ a σ₁ s₁,okS σ₁->Sub σ₁ s₁->K a σ₁->Q a s₁)->EsT F (vr m) s es Q (XF F (vr m) (Up X))
 | [],[],σ,s,K,Q,_,o,hs,h,q=>EsT.nil (q _ σ s o hs h)
 | e::es,f::fs,σ,s,K,Q,d,o,hs,h,q=>EsT.cons (d.1.on hk o hs h fun a σ₁ s₁ Ac hs₁ h₁=>Fy hk d.2 Ac hs₁ h₁ fun l σ₂ s₂ Ao hs₂ h₂=>q _ σ₂ s₂ Ao hs₂ h₂)
 | [],_::_,_,_,_,_,d,_,_,_,_=>d.elim
 | _::_,[],_,_,_,_,d,_,_,_,_=>d.elim
theorem C0 (hk:k<=F.k) {es:List E}{fs:List WT}{σ:LS}{s:Store}{K:List AV->LS->Prop}{Q:List AV->Store->Prop} (d:SdL S k es fs X) (o:okS σ) (hs:Sub σ s) (h:Fz fs m σ K) (q:∀ a σ₁ s₁,okS σ₁->Sub σ₁ s₁->K a σ₁->Q a s₁):ArgsT F (vr m) s es Q (XF F (vr m) (Up X)):=by
 cases es with
 | nil =>
  cases fs with
  | nil=>exact q _ σ s o hs h
  | cons f fs=>exact d.elim
 | cons e es=>exact Fy hk d o hs h q
theorem Ka (hk:k<=F.k) {K:KB}:∀ {es:List E}{fs:List WT}{σ:LS}{s:Store},SdL S k es fs X->okS σ->Sub σ s->andT fs m σ K->AndT F (vr m) (XF F (vr m) (Up X)) (Up K) es s
 | [],[],σ,s,_,o,hs,h=>⟨σ,hs,o,h⟩
 | e::es,f::fs,σ,s,d,o,hs,h=>d.1.onT hk o hs h fun b σ₁ s₁ Ac hs₁ h₁=>by
  cases b with
  | true=>exact Ka hk d.2 Ac hs₁ h₁
  | false=>exact ⟨σ₁,hs₁,Ac,h₁⟩
 | [],_::_,_,_,d,_,_,_=>d.elim
 | _::_,[],_,_,d,_,_,_=>d.elim
theorem orT_ok (hk:k<=F.k) {K:KB}:∀ {es:List E}{fs:List WT}{σ:LS}{s:Store},SdL S k es fs X->okS σ->Sub σ s->orT fs m σ K->OrT F (vr m) (XF F (vr m) (Up X)) (Up K) es s
 | [],[],σ,s,_,o,hs,h=>⟨σ,hs,o,h⟩
 | e::es,f::fs,σ,s,d,o,hs,h=>d.1.onT hk o hs h fun b σ₁ s₁ Ac hs₁ h₁=>by
  cases b with
  | true=>exact ⟨σ₁,hs₁,Ac,h₁⟩
  | false=>exact orT_ok hk d.2 Ac hs₁ h₁
 | [],_::_,_,_,d,_,_,_=>d.elim
 | _::_,[],_,_,d,_,_,_=>d.elim
theorem J9 (hk:k<=F.k) {K:KV}:∀ {es:List E}{fs:List WT}{σ:LS}{s:Store},SdL S k es fs X->okS σ->Sub σ s->andV fs m σ K->AndV F (vr m) (XF F (vr m) (Up X)) (Up K) es s
 | [],[],_,_,_,_,_,h=>h
 | [e],[f],σ,s,d,o,hs,h=>d.1.on hk o hs h fun a σ₁ s₁ Ac hs₁ h₁=>⟨σ₁,hs₁,Ac,h₁⟩
 | e::e'::es,f::f'::fs,σ,s,d,o,hs,h=>d.1.on hk o hs h fun a σ₁ s₁ Ac hs₁ h₁=>by
  refine X1pp (boolW.out h₁) fun b he314_1 h₁=>?_
  subst he314_1
  refine ⟨b,rfl,?_⟩
  cases b with
  | true=>exact J9 hk d.2 Ac hs₁ h₁
  | false=>exact ⟨σ₁,hs₁,Ac,h₁⟩
 | [],_::_,_,_,d,_,_,_=>d.elim
 | _::_,[],_,_,d,_,_,_=>d.elim
 | [_],_::_::_,_,_,d,_,_,_=>d.2.elim
 | _::_::_,[_],_,_,d,_,_,_=>d.2.elim
theorem orV_ok (hk:k<=F.k) {K:KV}:∀ {es:List E}{fs:List WT}{σ:LS}{s:Store},SdL S k es fs X->okS σ->Sub σ s->orV fs m σ K->OrV F (vr m) (XF F (vr m) (Up X)) (Up K) es s
 | [],[],_,_,_,_,_,h=>h
 | [e],[f],σ,s,d,o,hs,h=>d.1.on hk o hs h fun a σ₁ s₁ Ac hs₁ h₁=>⟨σ₁,hs₁,Ac,h₁⟩
 | e::e'::es,f::f'::fs,σ,s,d,o,hs,h=>d.1.on hk o hs h fun a σ₁ s₁ Ac hs₁ h₁=>by
  refine X1pp (boolW.out h₁) fun b he327_1 h₁=>?_
  subst he327_1
  refine ⟨b,rfl,?_⟩
  cases b with
  | true=>exact ⟨σ₁,hs₁,Ac,h₁⟩
  | false=>exact orV_ok hk d.2 Ac hs₁ h₁
 | [],_::_,_,_,d,_,_,_=>d.elim
 | _::_,[],_,_,d,_,_,_=>d.elim
 | [_],_::_::_,_,_,d,_,_,_=>d.2.elim
 | _::_::_,[_],_,_,d,_,_,_=>d.2.elim
theorem Gx (hk:k<=F.k) {K:List (AV×AV)->LS->Prop}{Q:List (AV×AV)->Store->Prop} (q:∀ a σ₁ s₁,okS σ₁->Sub σ₁ s₁->K a σ₁->Q a s₁):∀ {ks vs:List E}{fs gs:List WT}{r:List (AV×AV)}{σ:LS}{s:Store},SdL S k ks fs X->SdL S k vs gs X->okS σ->Sub σ s->pairW fs gs r m σ K->D1 F (vr m) (XF F (vr m) (Up X)) Q ks vs r s
 | [],[],[],[],r,σ,s,_,_,o,hs,h=>q r σ s o hs h
 | e::es,v::vs,f::fs,g::gs,r,σ,s,d,d',o,hs,h=>d.1.on hk o hs h fun a σ₁ s₁ Ac hs₁ h₁=>d'.1.on hk Ac hs₁ h₁ fun b σ₂ s₂ Ao hs₂ h₂=>Gx hk q d.2 d'.2 Ao hs₂ h₂
 | [],[],_::_,_,_,_,_,d,_,_,_,_=>d.elim
 | [],[],[],_::_,_,_,_,_,d,_,_,_=>d.elim
 | [],_::_,_::_,_,_,_,_,d,_,_,_,_=>d.elim
 | [],_::_,[],[],_,_,_,_,d,_,_,_=>d.elim
 | [],_::_,[],_::_,_,_,_,_,_,_,_,h=>h.elim
 | _::_,_,[],_,_,_,_,d,_,_,_,_=>d.elim
 | _::_,[],_::_,[],_,_,_,_,_,_,_,h=>h.elim
 | _::_,[],_::_,_::_,_,_,_,_,d,_,_,_=>d.elim
 | _::_,_::_,_::_,[],_,_,_,_,d,_,_,_=>d.elim
theorem noUp {F:Fx S}{m:Vars}{e:Value}{s:Shared} (x:XF F m (Up B1) e s):False:=x
theorem testW_ok (hk:k<=F.k) {es:List E}{fs:List WT}{σ:LS}{s:Store}{K:KB}{Q:Bool->Store->Prop} (d:SdL S k es fs B1) (o:okS σ) (hs:Sub σ s) (h:Fq fs m σ K) (q:∀ a σ₁ s₁,okS σ₁->Sub σ₁ s₁->K a σ₁->Q a s₁):TestT F (vr m) s es Q:=by
 match es,fs,d,h with
 | [],[],_,h=>exact q _ σ s o hs h
 | [e],[f],d,h=>exact (d.1.onT hk o hs h q).monoX fun zz zz x=>noUp x
 | [],_::_,d,_=>exact d.elim
 | _::_,[],d,_=>exact d.elim
 | [_],_::_::_,d,_=>exact d.2.elim
 | _::_::_,[_],d,_=>exact d.2.elim
 | _::_::_,_::_::_,_,h=>exact h.elim
end
end Mine
end
section
namespace Mine
open PySem PyProof.Rows PySem.W
variable {prog:Program}{w:World}{S:Sta prog w}{W:Wd}
structure Turn (ok:Option Nat) (okP:Store->Store->Prop) (I:LS->Prop):Prop where
 go:∀ {σ₀:LS}{s₀:Store}{σ₂:LS}{s₂:Store}{P:Prop},okS σ₀->okS σ₂->Sub σ₀ s₀->Sub σ₂ s₂->I σ₀->stays ok σ₀ σ₂ P->(okP s₀ s₂/\I σ₂)/\P
theorem Turn.free {okP:Store->Store->Prop} (h:∀ s t,okP s t):Turn Option.none okP (fun zz=>True):=⟨fun zz zz zz zz zz p=>⟨⟨h _ _,trivial⟩,p⟩⟩
theorem Turn.loc {x:Addr}{i j:Nat}{o:AObj}:Turn (some i) (okL (.loc x j)) (fun σ=>slot σ i=.at x o):=⟨fun k₀ k₂ h₀ h₂ e p=>by
 have e2:=p.1.trans e
 exact ⟨⟨(h₂.at k₂ e2).trans (h₀.at k₀ e).symm,e2⟩,p.2⟩⟩
inductive Iters (F:Fx S) (s:Store) (a:AV) (σ:LS) (G:KG):Prop
 | mk (items:List AV) (okP:Store->Store->Prop) (ok:Option Nat) (I:LS->Prop) (it:IterT F s a items okP) (tn:Turn ok okP I) (i:I σ) (g:G items ok σ):Iters F s a σ G
theorem GJ {F:Fx S}{q:Bool}{a:AV}{σ:LS}{s:Store}{G:KG} (hq:q=true->S.hx=Option.none) (o:okS σ) (hs:Sub σ s) (h:FQ q a σ G):Iters F s a σ G:=by
 cases a with
 | tup l=>refine Ad (quiet.out h) fun e h=>?_;exact ⟨_,_,_,_,IterT.tup (hq e),.free fun zz zz=>trivial,trivial,h⟩
 | list l=>refine Ad (quiet.out h) fun e h=>?_;exact ⟨_,_,_,_,IterT.list (hq e) (dl_list _ _),.free fun zz zz=>trivial,trivial,h⟩
 | str x=>refine AU (quiet.out h) fun e h1 h=>?_;exact ⟨_,_,_,_,IterT.str (hq e) h1,.free fun zz zz=>trivial,trivial,h⟩
 | range a b c=>exact ⟨_,_,_,_,IterT.range h.1,.free fun zz zz=>trivial,trivial,h.2⟩
 | loc x i =>
  unfold FQ at h
  dsimp only at h
  cases z:slot σ i with
  | no=>rw [z] at h;exact h.elim
  | «at» b p =>
   rw [z] at h
   cases p with
   | list l =>
    obtain ⟨rfl,h⟩:=h
    obtain ⟨e,h⟩:=quiet.out h
    exact ⟨_,_,_,_,IterT.list (hq e) (Bw (hs.at o z)),.loc,z,h⟩
   | _=>exact h.elim
 | _=>exact h.elim
theorem Es {k:Nat}{F:Fx S}{i:Nat}{elt:E}{f:WT}{cs:List E}{fs:List WT}{ok:Option Nat}{okP:Store->Store->Prop}{I:LS->Prop}{m:M}{K:List AV->LS->Prop}{Q:List AV->Store->Prop} (d:Sd S k elt f B1) (dt:SdL S k cs fs B1) (hk:k<=F.k) (tn:Turn ok okP I) (q:∀ a σ₁ s₁,okS σ₁->Sub σ₁ s₁->K a σ₁->Q a s₁) :
  ∀ {items ys:List AV}{σ:LS}{s:Store},okS σ->Sub σ s->I σ->Dq i (f.v Option.none) (Fq fs) ok m K items ys σ->Ez F i elt cs okP (vr m) Q items ys s
 | [],ys,σ,s,o,hs,_,h=>q _ σ s o hs h
 | x::r,ys,σ,s,o,hs,hi,h=>by
  refine (?_:TestT F ((vr m).set i x) s cs _)
  rw [<- EB]
  refine testW_ok hk dt o hs h fun b σ₁ s₁ Ac hs₁ h₁=>?_
  cases b with
  | true =>
   rw [if_pos rfl]
   refine (d.on hk Ac hs₁ h₁ fun y σ₂ s₂ Ao hs₂ h₂=>?_).monoX fun zz zz x=>noUp x
   obtain ⟨⟨h3,h4⟩,h5⟩:=tn.go o Ao hs hs₂ hi h₂
   exact ⟨h3,Es d dt hk tn q Ao hs₂ h4 h5⟩
  | false =>
   rw [if_neg (by decide)]
   obtain ⟨⟨h3,h4⟩,h5⟩:=tn.go o Ac hs hs₁ hi h₁
   exact ⟨h3,Es d dt hk tn q Ac hs₁ h4 h5⟩
theorem Fresh.mono {σ:Store}{o:AObj}{fz:AV}{Q Q':AV->Store->Prop} (h:Fresh σ o fz Q) (k:∀ a s,Q a s->Q' a s):Fresh σ o fz Q':=by
 rcases h with q | ⟨i,q⟩
 ·exact .inl (k _ _ q)
 ·exact .inr ⟨i,fun a d=>k _ _ (q a d)⟩
theorem Er {Q:AV->Store->Prop}{Φ:Tab}{k:Nat}{F:Fx S}{m:M}{X:XL}{σ:LS}{K:KV}{mu:Option Nat}{elt src:E}{i:Nat}{cs:List E}{f g:WT}{fs:List WT}{p:Pat} (T:TabOk S W k Φ) (hk:k<=F.k) (ds:Sd S k src g X) (d:Sd S k elt f B1) (dt:SdL S k cs fs B1) (o:okS σ) (q:∀ a s,Up K a s->Q a s)
  (h:g.v Option.none m σ (fun a σ₁=>FQ Φ.q a σ₁ (fun items ok σ₂=>items.length<=big/\Dq i (f.v Option.none) (Fq fs) ok m (fun ys σ₃=>frW mu (.list ys) (.list ys) σ₃ K) items [] σ₂))) :
  SrcT F (vr m) (Ak σ) p src (fun items okP s=>items.length<=big/\∀ F':Fx S,F'.tb=F.tb->F'.k=F.k->Ez F' i elt cs okP (vr m) (fun ys s₂=>Fresh s₂ (.list ys) (.list ys) Q) items [] s) (XF F (vr m) (Up X)) :=
 SrcT.val (ds.on hk o Sub.rfl h fun a σ₁ s₁ Ac hs₁ h₁=>by
  obtain ⟨items,okP,ok,I,it,tn,hi,hz,h₂⟩:=GJ (F:=F) T.q Ac hs₁ h₁
  exact ⟨items,okP,it,hz,fun F' zz e=>Es d dt (by rw [e];exact hk) tn (fun ys σ₃ Bf C4 hs₃ h₃=>(h₃.freshS C4 hs₃).mono q) Ac hs₁ hi h₂⟩)
section
variable {k:Nat}{X:XL}{Φ:Tab}
theorem Sd.vt {e:E}{f:Option Nat->M->LS->KV->Prop} (hp:Gu e=true) (h:∀ F:Fx S,k<=F.k->∀ mu m σ K,okS σ->f mu m σ K->ET F (vr m) (Ak σ) e (Up K) (XF F (vr m) (Up X))):Sd S k e (vt f) X :=
 ⟨h,fun F hk m σ K o q=>TT.val hp (ET.mono (h F hk Option.none m σ _ o q) fun a s z=>by
  obtain ⟨σ₁,e,Ac,z⟩:=z
  refine X1pp (boolW.out z) fun b he71_1 z=>?_
  subst he71_1
  exact ⟨b,rfl,σ₁,e,Ac,z⟩)⟩
theorem Sd.no {e:E}:Sd S k e ⟨fun zz zz zz zz=>False,fun zz zz zz=>False⟩ X:=⟨fun zz zz zz zz zz zz zz h=>h.elim,fun zz zz zz zz zz zz h=>h.elim⟩
set_option tactic.hygienic true in
theorem few.out {α:Type}{l:List α}{P:Prop} (h:few l P):l.length<15/\P:=by
 unfold few at h
 split at h
 ·rename_i q;exact ⟨Nat.blt_eq.mp q,h⟩
 ·exact h.elim
theorem EG {F:Fx S}{m:M} (hk:k<=F.k) {es:List E}{fs:List WT}{σ:LS}{s:Store}{K:List AV->LS->Prop}{Q:List AV->Store->Prop} (d:SdL S k es fs X) (o:okS σ) (hs:Sub σ s) (h:Fz fs m σ K) (q:∀ a σ₁ s₁,okS σ₁->Sub σ₁ s₁->a.length=es.length->K a σ₁->Q a s₁):EsT F (vr m) s es Q (XF F (vr m) (Up X)):=by
 have gen:∀ {fs:List WT}{m:M}{σ:LS}{K:List AV->LS->Prop},Fz fs m σ K->Fz fs m σ (fun a σ₁=>a.length=fs.length/\K a σ₁)->True:=fun zz zz=>trivial
 clear gen
 revert s σ K Q
 induction es generalizing fs with
 | nil =>
  intro σ s K Q o hs h q
  cases fs with
  | nil=>exact EsT.nil (q _ σ s o hs rfl h)
  | cons f fs=>exact d.elim
 | cons e es ih =>
  intro σ s K Q o hs h q
  cases fs with
  | nil=>exact d.elim
  | cons f fs=>exact EsT.cons (d.1.on hk o hs h fun a σ₁ s₁ Ac hs₁ h₁=>ih d.2 Ac hs₁ h₁ fun l σ₂ s₂ Ao hs₂ hl h₂=>q _ σ₂ s₂ Ao hs₂ (congrArg Nat.succ hl) h₂)
theorem I6 {n:Nat} (h:n<15):n<=big:=Nat.le_trans (Nat.le_of_lt h) (by decide)
theorem tup_ok {es:List E}{fs:List WT} (d:SdL S k es fs X):Sd S k (.tup es) (Mine.vt fun zz m σ K=>few es (Fz fs m σ (fun l σ'=>K (.tup l) σ'))) X :=
 Sd.vt rfl fun F hk mu m σ K o h=>by
  refine Ad (h.out) fun h15 h=>?_
  exact ET.tup (EG hk d o Sub.rfl h fun a σ₁ s₁ Ac hs₁ hl h₁=>⟨by rw [hl];exact I6 h15,σ₁,hs₁,Ac,h₁⟩)
theorem list_ok {es:List E}{fs:List WT} (d:SdL S k es fs X):Sd S k (.list es) (Mine.vt fun mu m σ K=>few es (Fz fs m σ (fun l σ'=>frW mu (.list l) (.list l) σ' K))) X :=
 Sd.vt rfl fun F hk mu m σ K o h=>by
  refine Ad (h.out) fun h15 h=>?_
  exact ET.list (EG hk d o Sub.rfl h fun a σ₁ s₁ Ac hs₁ hl h₁=>⟨by rw [hl];exact I6 h15,h₁.freshS Ac hs₁⟩)
theorem pairsX {F:Fx S}{m:Vars}{X X':Value->Shared->Prop}{Q:List (AV×AV)->Store->Prop} (x:∀ e s,X e s->X' e s):∀ {ks vs:List E}{r:List (AV×AV)}{σ:Store},D1 F m X Q ks vs r σ->D1 F m X' Q ks vs r σ
 | [],[],_,_,h=>h
 | _::_,_::_,_,_,h=>(ET.monoX h x).mono fun a σ₁ q=>(ET.monoX q x).mono fun b σ₂ q=>pairsX x q
 | [],_::_,_,_,h=>h.elim
 | _::_,[],_,_,h=>h.elim
set_option tactic.hygienic true in
theorem dict_ok {ks vs:List E}{fs gs:List WT} (d:SdL S k ks fs B1) (d':SdL S k vs gs B1):Sd S k (.dict ks vs) (Mine.vt fun mu m σ K=>(match Nat.beq ks.length vs.length && Nat.blt ks.length 15 with
  | true=>pairW fs gs [] m σ (fun ps σ'=>dictW mu ps σ' K)
  | false=>False)) X :=
 Sd.vt rfl fun F hk mu m σ K o h=>by
  split at h
  ·rename_i q
   refine Ad (Bool.and_eq_true_iff.mp q) fun q1 q2=>?_
   have q1:=Nat.eq_of_beq_eq_true q1
   have q2:=Nat.blt_eq.mp q2
   have fin:∀ {F':Fx S} (ps:List (AV×AV)) (σ₁:LS) (s₁:Store),okS σ₁->Sub σ₁ s₁->dictW mu ps σ₁ K->∃ l,mkD ps []=some l/\ps.length<=15/\Fresh s₁ (.dict l) (.dict l) (Up K):=fun {F'} ps σ₁ s₁ Ac hs₁ h₁=>by
    unfold dictW at h₁
    split at h₁
    ·rename_i z
     split at h₁
     ·rename_i l e;exact ⟨l,e,Nat.ble_eq.mp z,h₁.freshS Ac hs₁⟩
     ·exact h₁.elim
    ·exact h₁.elim
   cases ks with
   | nil =>
    cases vs with
    | nil =>
     cases fs with
     | nil =>
      cases gs with
      | nil =>
       refine X1ppp (fin (F':=F) [] σ (Ak σ) o Sub.rfl h) fun l e zz hf=>?_
       cases e
       exact ET.dict0 hf
      | cons=>exact d'.elim
     | cons=>exact d.elim
    | cons=>cases q1
   | cons e ks =>
    cases vs with
    | nil=>cases q1
    | cons v vs =>
     refine (ET.dict (X:=NoX) (Nat.succ.inj q1) (by have:ks.length+1<15:=q2;exact lin [(ks.length)] [] (.nlt 1 V0 K15) [.nlt 1 (.add V0 K1) K15] rfl this) fun F' lk=>?_).monoX fun zz zz z=>z.elim
     exact pairsX (fun zz zz x=>noUp x) (Gx (F:=F') (by rw [lk.2.2.2];exact hk) (fun ps σ₁ s₁ Ac hs₁ h₁=>fin (F':=F') ps σ₁ s₁ Ac hs₁ h₁) d d' o Sub.rfl h)
  ·exact h.elim
theorem bin_ok {op:Operator}{l r:E}{f g:WT} (d:Sd S k l f X) (d':Sd S k r g X) (hg:∀ n:Int,r=.int n->g=Mine.vt fun zz zz σ K=>K (.int n) σ):Sd S k (.bin op l r) (Mine.vt fun mu m σ K=>f.v Option.none m σ (fun a σ₁=>g.v Option.none m σ₁ (fun b σ₂=>binW (lit r) mu op a b σ₂ K))) X :=
 Sd.vt rfl fun F hk mu m σ K o h=>ET.bin (d.on hk o Sub.rfl h fun a σ₁ s₁ Ac hs₁ h₁=>by
  by_cases q:lit r=true
  ·refine X1pp (lit_pos q) fun n e hn=>?_
   rw [hg _ e] at h₁
   subst e
   exact ET.int (BT.less hs₁ (J3 Ac (fun zz y e=>by cases e;exact ⟨by exact fun z0=>lin [n] [] .no [.ieq 1 (.c (.add V0 K1)) K0] rfl z0,by omega⟩) h₁))
  ·exact d'.on hk Ac hs₁ h₁ fun b σ₂ s₂ Ao hs₂ h₂=>BT.less hs₂ (J3 Ao (fun z=>absurd z q) h₂))
theorem sub_ok {l r:E}{f g:WT} (d:Sd S k l f X) (d':Sd S k r g X) (hg:∀ n:Int,r=.int n->g=Mine.vt fun zz zz σ K=>K (.int n) σ):Sd S k (.sub l r) (Mine.vt fun zz m σ K=>f.v Option.none m σ (fun a σ₁=>g.v Option.none m σ₁ (fun b σ₂=>subW (lit0 r) a b σ₂ K))) X :=
 Sd.vt rfl fun F hk mu m σ K o h=>ET.sub (d.on hk o Sub.rfl h fun a σ₁ s₁ Ac hs₁ h₁=>by
  by_cases q:lit0 r=true
  ·refine X1pp (lit0_pos q) fun n e hn=>?_
   rw [hg _ e] at h₁
   subst e
   exact ET.int (IT.less hs₁ (Il (fun zz=>⟨n,rfl,hn⟩) Ac h₁))
  ·exact d'.on hk Ac hs₁ h₁ fun b σ₂ s₂ Ao hs₂ h₂=>IT.less hs₂ (Il (fun z=>absurd z q) Ao h₂))
theorem neg_ok {x:E}{f:WT} (d:Sd S k x f X):Sd S k (.neg x) (Mine.vt fun zz m σ K=>f.v Option.none m σ (fun a σ₁=>match a with
  | .int i=>K (.int (-i)) σ₁
  | _=>False)) X :=
 Sd.vt rfl fun F hk mu m σ K o h=>ET.neg (d.on hk o Sub.rfl h fun a σ₁ s₁ Ac hs₁ h₁=>by
  cases a with
  | int i=>exact ⟨i,rfl,σ₁,hs₁,Ac,h₁⟩
  | _=>exact h₁.elim)
theorem not_ok {x:E}{f:WT} (d:Sd S k x f X):Sd S k (.not x) ⟨fun zz m σ K=>f.v Option.none m σ (fun a σ₁=>boolW a fun b=>K (.bool (!b)) σ₁),fun m σ K=>f.t m σ (fun b σ₁=>K (!b) σ₁)⟩ X :=
 ⟨fun F hk mu m σ K o h=>ET.not (d.on hk o Sub.rfl h fun a σ₁ s₁ Ac hs₁ h₁=>by
  refine X1pp (boolW.out h₁) fun b he178_1 h₁=>?_
  subst he178_1
  exact ⟨b,rfl,σ₁,hs₁,Ac,h₁⟩),fun F hk m σ K o h=>TT.not (d.onT hk o Sub.rfl h fun a σ₁ s₁ Ac hs₁ h₁=>⟨σ₁,hs₁,Ac,h₁⟩)⟩
theorem KT.mono {F:Fx S}{m:Vars}{σ:Store}{X:Value->Shared->Prop}{op:CmpOp}{a b:AV}{Q Q':Bool->Store->Prop} (h:KT F m σ op a b Q X) (k:∀ b σ,Q b σ->Q' b σ):KT F m σ op a b Q' X :=
 fun va vb s hs ra rb=>(h va vb s hs ra rb).mono fun _ _ _ _ _ ⟨c,e,q⟩=>⟨c,e,k _ _ q⟩
theorem cmp_ok {op:CmpOp}{l r:E}{f g:WT} (d:Sd S k l f X) (d':Sd S k r g X):Sd S k (.cmp op l r) ⟨fun zz m σ K=>f.v Option.none m σ (fun a σ₁=>g.v Option.none m σ₁ (fun b σ₂=>cmpW op a b σ₂ fun t=>K (.bool t) σ₂)),
   fun m σ K=>f.v Option.none m σ (fun a σ₁=>g.v Option.none m σ₁ (fun b σ₂=>cmpW op a b σ₂ fun t=>K t σ₂))⟩ X :=
 ⟨fun F hk mu m σ K o h=>ET.cmp (d.on hk o Sub.rfl h fun a σ₁ s₁ Ac hs₁ h₁=>d'.on hk Ac hs₁ h₁ fun b σ₂ s₂ Ao hs₂ h₂=>KT.mono (KT.less hs₂ (Et (K:=fun t σ=>K (.bool t) σ) Ao h₂)) fun t Bf z=>by obtain ⟨σ₃,hs₃,C4,z⟩:=z;exact ⟨σ₃,hs₃,C4,z⟩),
 fun F hk m σ K o h=>TT.cmp (d.on hk o Sub.rfl h fun a σ₁ s₁ Ac hs₁ h₁=>d'.on hk Ac hs₁ h₁ fun b σ₂ s₂ Ao hs₂ h₂=>KT.less hs₂ (Et Ao h₂))⟩
theorem cmp2_ok {o1 o2:CmpOp}{a b c:E}{f g h:WT} (d:Sd S k a f X) (d':Sd S k b g X) (d2:Sd S k c h X):Sd S k (.cmp2 o1 o2 a b c) ⟨fun zz zz zz zz=>False,fun m σ K=>f.v Option.none m σ (fun x σ₁=>g.v Option.none m σ₁ (fun y σ₂=>cmpW o1 x y σ₂ fun t=>ifW t (h.v Option.none m σ₂ (fun z σ₃=>cmpW o2 y z σ₃ fun t=>K t σ₃)) (K false σ₂)))⟩ X :=
 ⟨fun zz zz zz zz zz zz zz h=>h.elim,fun F hk m σ K o q=>TT.cmp2 (d.on hk o Sub.rfl q fun x σ₁ s₁ Ac hs₁ h₁=>d'.on hk Ac hs₁ h₁ fun y σ₂ s₂ Ao hs₂ h₂ =>
  KT.mono (KT.less hs₂ (Et (K:=fun t σ₂=>ifW t (h.v Option.none m σ₂ (fun z σ₃=>cmpW o2 y z σ₃ fun t=>K t σ₃)) (K false σ₂)) Ao h₂)) fun t Bf z=>by
    obtain ⟨σ₃,hs₃,C4,z⟩:=z
    cases t with
    | true=>exact d2.on hk C4 hs₃ z fun z Cy s₄ IP EU Bq=>KT.less EU (Et IP Bq)
    | false=>exact ⟨σ₃,hs₃,C4,z⟩)⟩
theorem ite_ok {c a b:E}{f g h:WT} (d:Sd S k c f X) (d':Sd S k a g X) (d2:Sd S k b h X):Sd S k (.ite c a b) ⟨fun mu m σ K=>f.t m σ (fun t σ₁=>ifW t (g.v mu m σ₁ K) (h.v mu m σ₁ K)),fun zz zz zz=>False⟩ X :=
 ⟨fun F hk mu m σ K o q=>ET.ite (d.onT hk o Sub.rfl q fun t σ₁ s₁ Ac hs₁ h₁=>by
  cases t with
  | true=>exact d'.on hk Ac hs₁ h₁ fun a σ₂ s₂ Ao hs₂ h₂=>⟨σ₂,hs₂,Ao,h₂⟩
  | false=>exact d2.on hk Ac hs₁ h₁ fun a σ₂ s₂ Ao hs₂ h₂=>⟨σ₂,hs₂,Ao,h₂⟩),fun zz zz zz zz zz zz h=>h.elim⟩
theorem It {mu:Option Nat}{a x y:AV}{σ:LS}{s:Store}{K:KV} (o:okS σ) (hs:Sub σ s) (h:Iu mu a x y σ K):Fm s (Up K) a x y:=by
 have lst:(dlW σ a fun l=>∃ l',l.length<=big/\cut l x y=some l'/\frW mu (.list l') (.list l') σ K)->Fm s (Up K) a x y:=fun h=>by
  refine X1pp (h.out o) fun l h1 hy200_0=>?_
  refine X1ppp (hy200_0) fun l' h2 h3 h4=>?_
  refine .list (l:=l) ?_ h2 h3 (h4.freshS o hs)
  exact F7 h1 hs
 exact lst h
theorem slice_ok {e lo hi:E}{f g h:WT} (d:Sd S k e f X) (d':Sd S k lo g X) (d2:Sd S k hi h X):Sd S k (.slice e lo hi .none) (Mine.vt fun mu m σ K=>f.v Option.none m σ (fun a σ₁=>g.v Option.none m σ₁ (fun x σ₂=>h.v Option.none m σ₂ (fun y σ₃=>Iu mu a x y σ₃ K)))) X :=
 Sd.vt rfl fun F hk mu m σ K o q=>ET.sliceAny (d.on hk o Sub.rfl q fun a σ₁ s₁ Ac hs₁ h₁=>d'.on hk Ac hs₁ h₁ fun x σ₂ s₂ Ao hs₂ h₂=>d2.on hk Ao hs₂ h₂ fun y σ₃ Bf C4 hs₃ h₃=>It C4 hs₃ h₃)
theorem fget_t {t o:AV}:Jz (EA t o) "texts"=some t:=by
 have e:(("texts":Str) == "texts")=true:=by decide +kernel
 simp only [Jz,EA,List.find?_cons,e,Option.map_some]
theorem fget_o {t o:AV}:Jz (EA t o) "own"=some o:=by
 have e:(("texts":Str) == "own")=false:=by decide +kernel
 have e':(("own":Str) == "own")=true:=by decide +kernel
 simp only [Jz,EA,List.find?_cons,e,e',Option.map_some]
set_option tactic.hygienic true in
theorem attr_ok {i n:Nat} (T:TabOk S W k Φ):Sd S k (.attr (.v i) n) (Mine.vt fun zz m σ K=>match m.getD i Option.none with
  | some a=>attrW n a σ K
  | Option.none=>False) X :=
 Sd.vt rfl fun F hk mu m σ K o h=>by
  split at h
  ·rename_i a ha
   refine X2pp (instW.out o Sub.rfl h) fun t ow h1 h=>?_
   split at h
   ·exact ET.attr T.good.floor T.good.texts (Jx (.inl rfl)) ha h1 fget_t h.1 (.now o h.2)
   ·exact ET.attr T.good.floor T.good.cells (Jx (.inr rfl)) ha h1 fget_o h.1 (.now o h.2)
   ·exact h.elim
  ·exact h.elim
theorem hasF_ok {i:Nat} (T:TabOk S W k Φ) (h:hasF Φ i=true):W.U i=true/\i≠28:=by
 rcases Bool.or_eq_true_iff.mp h with q | q
 ·have q:=Nat.blt_eq.mp q;exact ⟨T.good.bu i q,by exact fun z0=>lin [i] [] .no [.nlt 1 V0 K17,.neq (-1) V0 K28] rfl q z0⟩
 ·refine X1p (Option.isSome_iff_exists.mp q) fun f hf=>?_;exact (T.fn i f hf).1
set_option tactic.hygienic true in
theorem call_ok {i:Nat}{e:E}{es:List E}{fs:List WT} (T:TabOk S W k Φ) (d:SdL S k (e::es) fs X):Sd S k (.call (.g i) (e::es)) (Mine.vt fun mu m σ K=>(match hasF Φ i with
  | true=>Fz fs m σ (fun avs σ₁=>callW Φ X mu i avs σ₁ K)
  | false=>False)) X :=
 Sd.vt rfl fun F hk mu m σ K o h=>by
  split at h
  ·rename_i q
   refine Ad (hasF_ok T q) fun h1 h2=>?_
   exact ET.callg (T.good.glob i h1) (JW T.good h1 h2) (Fy hk d o Sub.rfl h fun a σ₁ s₁ Ac hs₁ h₁=>CT.less hs₁ (callW_ok T hk Ac h₁).2)
  ·exact h.elim
theorem Ef {F:Fx S}{m:M}{σ:LS}{K:KV}{mu:Option Nat}{e:E}{n:Nat}{es:List E}{f:WT}{fs:List WT}{nm:Str}{id:String} (d:Sd S k e f X) (d':SdL S k es fs X) (hk:k<=F.k) (o:okS σ) (h1:ixS AT nm=some n) (h2:Meth nm (Ty.name .list) id) (h3:∀ a σ₁ P,objW n a σ₁ P->slotL σ₁ a fun zz zz zz=>P)
  (h4:∀ a avs σ₂,okS σ₂->HL Φ X mu n a avs σ₂ K->CT F (vr m) (Ak σ₂) (.builtin id) (a::avs) (Up K) (XF F (vr m) (Up X))) (h:f.v Option.none m σ (fun a σ₁=>objW n a σ₁ (Fz fs m σ₁ (fun avs σ₂=>HL Φ X mu n a avs σ₂ K)))):ET F (vr m) (Ak σ) (.meth e n es) (Up K) (XF F (vr m) (Up X)) :=
 ET.meth (t:=.list) h1 h2 (d.on hk o Sub.rfl h fun a σ₁ s₁ Ac hs₁ h₁=>by
  refine X3ppp ((h3 _ _ _ h₁).out) fun x i l he242_3 z h₁=>?_
  subst he242_3
  refine ⟨?_,C0 hk d' Ac hs₁ h₁ fun avs σ₂ s₂ Ao hs₂ h₂=>CT.less hs₂ (h4 _ _ _ Ao h₂)⟩
  unfold tyA;dsimp only;rw [hs₁.at Ac z])
set_option tactic.hygienic true in
theorem meth_ok {e:E}{n:Nat}{es:List E}{f:WT}{fs:List WT} (T:TabOk S W k Φ) (d:Sd S k e f X) (d':SdL S k es fs X):Sd S k (.meth e n es) (Mine.vt fun mu m σ K=>(match hasM Φ n with
  | true=>f.v Option.none m σ (fun a σ₁=>objW n a σ₁ (Fz fs m σ₁ (fun avs σ₂=>HL Φ X mu n a avs σ₂ K)))
  | false=>False)) X :=
 Sd.vt rfl fun F hk mu m σ K o h=>by
  split at h
  ·rename_i q
   by_cases n0:n=0
   ·subst n0
    exact Ef d d' hk o Jk FG (fun zz zz zz z=>z) (fun a avs σ₂ Ao h₂=>by
     refine X1pp (C5 h₂) fun x he254_1 h₂=>?_
     subst he254_1
     refine X3pppp (slotL.out h₂) fun ad i l he255_3 z h5 h6=>?_
     subst he255_3
     exact CT.append (An Ao z) h5 (.upd Ao z h6)) h
   by_cases n1:n=1
   ·subst n1
    exact Ef d d' hk o ix_pop meth_pop (fun zz zz zz z=>z) (fun a avs σ₂ Ao h₂=>by
     refine X0lp (nil_of h₂) fun h₂=>?_
     refine X3pppp (slotL.out h₂) fun ad i l he261_3 z h5 hy261_0=>?_
     refine X1pp (hy261_0) fun x h6 h7=>?_
     subst he261_3
     exact CT.pop (An Ao z) h6 h5 (.upd Ao z h7)) h
   by_cases n3:n=3
   ·subst n3
    exact Ef d d' hk o ix_clear HK (fun zz zz zz z=>z) (fun a avs σ₂ Ao h₂=>by
     refine X0lp (nil_of h₂) fun h₂=>?_
     refine X3pppp (slotL.out h₂) fun ad i l he267_3 z h5 h6=>?_
     subst he267_3
     exact CT.clear (An Ao z) h5 (.upd Ao z h6)) h
   by_cases n8:n=8
   ·subst n8
    exact ET.meth (t:=.str) ix_join I3 (d.on hk o Sub.rfl h fun a σ₁ s₁ Ac hs₁ h₁=>by
     cases a with
     | str x =>
      refine ⟨rfl,C0 hk d' Ac hs₁ h₁ fun avs σ₂ s₂ Ao hs₂ h₂=>CT.less hs₂ ?_⟩
      refine X1pp (C5 h₂) fun b he275_1 h₂=>?_
      subst he275_1
      refine X1pp (dlW.out Ao h₂) fun l h5 hy276_0=>?_
      refine X1ppp (hy276_0) fun ys he276_3 h6 h7=>?_
      subst he276_3
      exact CT.join h5 h6 (.now Ao h7)
     | _=>exact h₁.elim)
   have hm:isMe n=false:=by
    unfold isMe;split<;>first | rfl | contradiction
   unfold hasM at q
   rw [hm,Bool.false_or] at q
   refine X1p (Option.isSome_iff_exists.mp q) fun f' hf=>?_
   refine X1pp (T.me n f' hf) fun fa hfa hsnd=>?_
   refine X1pppppp (T.good.meth n fa hfa) fun nm hn n1 n2 hfi ht hkp=>?_
   have ob:∀ {a σ₁ P},objW n a σ₁ P->instW σ₁ a fun zz zz=>P:=fun {a σ₁ P} z=>by
    unfold objW at z;split at z<;>first | exact z | contradiction
   have mb:∀ {a avs σ₂},HL Φ X mu n a avs σ₂ K->instW σ₂ a fun zz zz=>ownW f' mu (a::avs) σ₂ K X:=fun {a avs σ₂} z=>by
    unfold HL at z
    split at z<;>first | contradiction | skip
    rw [hf] at z;exact z
   refine ET.method T.good.floor hn hfi ht hkp (d.on hk o Sub.rfl h fun a σ₁ s₁ Ac hs₁ h₁=>?_)
   refine X2pp (instW.out Ac hs₁ (ob h₁)) fun t ow h5 h₁=>?_
   refine ⟨⟨_,h5,Jy (fun p hp=>?_) n1 n2⟩,C0 hk d' Ac hs₁ h₁ fun avs σ₂ s₂ Ao hs₂ h₂=>CT.less hs₂ ?_⟩
   ·simp only [EA,List.mem_cons,List.not_mem_nil,or_false] at hp
    rcases hp with rfl | rfl
    ·exact .inl rfl
    ·exact .inr rfl
   ·refine X2pp (instW.out Ao hs₂ (mb h₂)) fun zz zz zz h₂=>?_
    exact hsnd F hk (vr m) mu _ σ₂ K X Ao h₂
  ·exact h.elim
theorem comp_ok {elt src:E}{i:Nat}{cs:List E}{f g:WT}{fs:List WT} (T:TabOk S W k Φ) (ds:Sd S k src g X) (d:Sd S k elt f B1) (dt:SdL S k cs fs B1):Sd S k (.comp elt i src cs) (Mine.vt fun mu m σ K=>g.v Option.none m σ (fun a σ₁=>FQ Φ.q a σ₁ (fun items ok σ₂=>items.length<=big/\Dq i (f.v Option.none) (Fq fs) ok m (fun ys σ₃=>frW mu (.list ys) (.list ys) σ₃ K) items [] σ₂))) X :=
 Sd.vt rfl fun F hk mu m σ K o h=>ET.comp (Er T hk ds d dt o (fun zz zz z=>z) h)
set_option tactic.hygienic true in
theorem v_ok {i:Nat}:Sd S k (.v i) (Mine.vt fun zz m σ K=>match m.getD i Option.none with
  | some a=>K a σ
  | Option.none=>False) X :=
 Sd.vt rfl fun F hk mu m σ K o h=>by
  split at h
  ·rename_i a ha;exact ET.v ha (.now o h)
  ·exact h.elim
set_option tactic.hygienic true in
theorem g_ok {i:Nat} (T:TabOk S W k Φ):Sd S k (.g i) (Mine.vt fun zz zz σ K=>gW Φ i σ K) X :=
 Sd.vt rfl fun F hk mu m σ K o h=>by
  unfold gW at h
  split at h
  ·rename_i q
   have q:=Nat.eq_of_beq_eq_true q
   subst q
   split at h
   ·rename_i z
    refine X1p (T.good.six) fun t e=>?_
    have hg:=T.good.glob 28 (T.ex 28 z)
    rw [e] at hg
    exact ET.g_int hg (.now o h)
   ·exact h.elim
  ·split at h
   ·rename_i q
    have hu:W.U i=true:=by
     rcases Bool.or_eq_true_iff.mp q with q | q
     ·exact T.good.bu i (Nat.blt_eq.mp q)
     ·exact T.ex i q
    exact ET.cls (T.good.glob i hu) (.now o h)
   ·exact h.elim
set_option tactic.hygienic true in
theorem Ir {x:E}{g:WT}{i:Nat} (T:TabOk S W k Φ) (d:Sd S k x g X):Sd S k (.sorted x (.g i)) (Mine.vt fun mu m σ K=>match Gj Φ.ky i with
  | some f=>g.v Option.none m σ (fun a σ₁=>dlW σ₁ a fun L=>sortW f mu L σ₁ K)
  | Option.none=>False) X :=
 Sd.vt rfl fun F hk mu m σ K o h=>by
  split at h
  ·rename_i f hf
   refine Ad (T.ky i f hf) fun hu hy340_0=>?_
   refine X2ppp (hy340_0) fun fa kf e hkf hkey=>?_
   have hg:=T.good.glob i hu
   rw [e] at hg
   have h10:=T.good.glob 10 (T.good.bu 10 (by decide))
   rw [T.good.base 10 (by decide)] at h10
   refine ET.sorted (key:=Bh f) hg h10 (Nat.le_trans hkf hk) (d.on hk o Sub.rfl h fun a σ₁ s₁ Ac hs₁ h₁=>?_)
   obtain ⟨L,hl,⟨h1,h2,h3⟩,h4⟩:=dlW.out Ac h₁
   refine ⟨L,?_,fun x hx=>hkey x (h1 x hx) x (.head _),h2,h3,fun L' p1 p2=>?_⟩
   ·exact F7 hl hs₁
   ·exact frW.freshS Ac hs₁ (h4 L' ⟨p1,p2⟩)
  ·exact h.elim
mutual
theorem Ay (T:TabOk S W k Φ):∀ (e:E) (X:XL),Sd S k e (wp Φ e X) X
 | .none,X=>Sd.vt rfl fun F hk mu m σ K o h=>ET.none (.now o h)
 | .bool b,X=>Sd.vt rfl fun F hk mu m σ K o h=>ET.bool (.now o h)
 | .int b,X=>Sd.vt rfl fun F hk mu m σ K o h=>ET.int (.now o h)
 | .str b,X=>Sd.vt rfl fun F hk mu m σ K o h=>ET.str (.now o h)
 | .v i,X=>v_ok
 | .g i,X=>g_ok T
 | .tup es,X=>tup_ok (A9 T es X)
 | .list es,X=>list_ok (A9 T es X)
 | .dict ks vs,X=>dict_ok (A9 T ks B1) (A9 T vs B1)
 | .bin op l r,X=>bin_ok (Ay T l X) (Ay T r X) fun n e=>by rw [e];rfl
 | .neg x,X=>neg_ok (Ay T x X)
 | .not x,X=>not_ok (Ay T x X)
 | .and es,X=>⟨fun F hk mu m σ K o h=>ET.and (J9 hk (A9 T es X) o Sub.rfl h),fun F hk m σ K o h=>TT.and (Ka hk (A9 T es X) o Sub.rfl h)⟩
 | .or es,X=>⟨fun F hk mu m σ K o h=>ET.or (orV_ok hk (A9 T es X) o Sub.rfl h),fun F hk m σ K o h=>TT.or (orT_ok hk (A9 T es X) o Sub.rfl h)⟩
 | .cmp op l r,X=>cmp_ok (Ay T l X) (Ay T r X)
 | .cmp2 _ _ a b c,X=>cmp2_ok (Ay T a X) (Ay T b X) (Ay T c X)
 | .ite c a b,X=>ite_ok (Ay T c X) (Ay T a X) (Ay T b X)
 | .sub l r,X=>sub_ok (Ay T l X) (Ay T r X) fun n e=>by rw [e];rfl
 | .slice o lo hi st,X=>by
  cases st<;>first | exact Sd.no | exact slice_ok (Ay T o X) (Ay T lo X) (Ay T hi X)
 | .attr o n,X=>by
  cases o<;>first | exact Sd.no | exact attr_ok T
 | .call f es,X=>by
  cases f<;>first | exact Sd.no | (cases es<;>first | exact Sd.no | exact call_ok T ⟨Ay T _ X,A9 T _ X⟩)
 | .sorted x f,X=>by
  cases f<;>first | exact Sd.no | exact Ir T (Ay T x X)
 | .meth o n es,X=>meth_ok T (Ay T o X) (A9 T es X)
 | .comp elt i src cs,X=>comp_ok T (Ay T src X) (Ay T elt B1) (A9 T cs B1)
 | .mu l e,X=>⟨fun F hk mu m σ K o h=>ET.mu ((Ay T e X).v F hk (some l) m σ K o h),fun F hk m σ K o h=>TT.mu ((Ay T e X).t F hk m σ K o h)⟩
theorem A9 (T:TabOk S W k Φ):∀ (es:List E) (X:XL),SdL S k es (wpL Φ es X) X
 | [],_=>trivial
 | e::es,X=>⟨Ay T e X,A9 T es X⟩
end
end
end Mine
end
section
namespace Mine
open PySem PyProof.Rows PySem.W
variable {prog:Program}{w:World}{S:Sta prog w}{W:Wd}
structure Xo (F:Fx S) (X:XL) (Y:Value->Shared->Prop):Prop where
 up:∀ e s,XR F (Up X) e s->Y e s
 pass:PassesOwn (model prog w) F.A F.env Y
theorem Xo.xf {F:Fx S}{X:XL}{Y:Value->Shared->Prop} (x:Xo F X Y) {m:Vars} (e:Value) (s:Shared) (h:XF F m (Up X) e s):Y e s:=x.up e s h.up
noncomputable def SdS (S:Sta prog w) (k:Nat) (st:Mine.S) (f:M->LS->KS->Prop) (X:XL):Prop:=∀ F:Fx S,k<=F.k->∀ Y,Xo F X Y->∀ m σ K,okS σ->f m σ K->ST F (vr m) (Ak σ) st (UpS K) Y
noncomputable def SdSs (S:Sta prog w) (k:Nat) (ss:List Mine.S) (f:M->LS->KS->Prop) (X:XL):Prop:=∀ F:Fx S,k<=F.k->∀ Y,Xo F X Y->∀ m σ K,okS σ->f m σ K->SsT F (vr m) (Ak σ) ss (UpS K) Y
theorem Sub.set {σ:LS}{s:Store}{i:Nat}{a:Addr}{o p:AObj} (k:okS σ) (h:Sub σ s) (q:slot σ i=.at a o):okS (σ.set i (.at a p))/\Sub (σ.set i (.at a p)) (s.set a p):=by
 have f:Fits σ i (.at a p):=fun zz zz e=>by cases e;exact .inr ⟨o,q⟩
 refine ⟨CZ k f,fun b r e=>?_⟩
 have:=D8 k f b r e
 by_cases z:b=a
 ·subst z;rw [Store.set_self] at this ⊢;exact this
 ·rw [Store.set_ne _ _ z] at this ⊢;exact h _ _ this
inductive PatK (s:Store) (K:M->Prop) (m':Vars) (s':Store):Prop
 | mk (m:M) (em:m'=vr m) (es:s'=s) (h:K m):PatK s K m' s'
set_option tactic.hygienic true in
mutual
theorem FC {F:Fx S}{q:Bool}{Y:Value->Shared->Prop}{s:Store} (hq:q=true->S.hx=Option.none):∀ {p:Pat}{a:AV}{m:M}{K:M->Prop},patW q p a m K->PT F (vr m) s p a (PatK s K) Y
 | .v i,a,m,K,h=>PT.v ⟨_,(EB m i a).symm,rfl,h⟩
 | .tup ps,a,m,K,h=>by
  refine Ad (quiet.out h) fun e h=>?_
  cases a with
  | tup l =>
   dsimp only at h
   split at h
   ·rename_i z;exact PT.tup (hq e) (Nat.eq_of_beq_eq_true z) (Gw hq h)
   ·exact h.elim
  | _=>exact h.elim
theorem Gw {F:Fx S}{q:Bool}{Y:Value->Shared->Prop}{s:Store} (hq:q=true->S.hx=Option.none):∀ {ps:List Pat}{l:List AV}{m:M}{K:M->Prop},patsW q ps l m K->PTs F Y (PatK s K) ps l (vr m) s
 | [],[],m,K,h=>⟨m,rfl,rfl,h⟩
 | p::ps,a::as,m,K,h=>fun pe hc v u hs r=>wpAny_mono (FC hq h pe hc v u hs r) (fun _ u' ⟨m',s',st,h',⟨mm,em,es,q⟩⟩=>by
   subst em;subst es
   exact ⟨_,_,st,h',Gw hq q⟩) fun zz zz e=>e
 | [],_::_,_,_,h=>h.elim
 | _::_,[],_,_,h=>h.elim
end
theorem SsT.less {F:Fx S}{m:Vars}{σ:LS}{s:Store}{ss:List Mine.S}{K:Fl->Vars->Store->Prop}{Y:Value->Shared->Prop} (hs:Sub σ s) (h:SsT F m (Ak σ) ss K Y):SsT F m s ss K Y:=h.weak (fun zz zz e=>e) hs
theorem Dj {k:Nat}{F:Fx S}{q:Bool}{p:Pat}{body:List Mine.S}{f:M->LS->KS->Prop}{X:XL}{Y:Value->Shared->Prop}{ok:Option Nat}{okP:Store->Store->Prop}{I:LS->Prop}{K:KS} (hq:q=true->S.hx=Option.none) (d:SdSs S k body f X) (hk:k<=F.k) (hY:Xo F X Y) (tn:Turn ok okP I) :
  ∀ {items:List AV}{m:M}{σ:LS}{s:Store},okS σ->Sub σ s->I σ->Jw q p f ok K items m σ->Kc F p body okP (UpS K) Y items (vr m) s
 | [],m,σ,s,o,hs,_,h=>⟨m,σ,rfl,hs,o,h⟩
 | x::r,m,σ,s,o,hs,hi,h=>by
  intro pe hc v u hu rx
  refine wpAny_mono (FC (Y:=Y) hq h pe hc v u hu rx) ?_ fun zz zz e=>e
  rintro _ u' ⟨m',s',st,h',⟨mm,em,es,h₁⟩⟩
  subst em;subst es
  refine ⟨_,_,st,h',SsT.mono (SsT.less hs (d F hk Y hY mm σ _ o h₁)) fun fl Ah s₂ z=>?_⟩
  obtain ⟨m2,σ₂,em2,hs₂,Ao,z⟩:=z
  subst em2
  cases fl with
  | next =>
   obtain ⟨⟨h3,h4⟩,h5⟩:=tn.go o Ao hs hs₂ hi z
   exact ⟨h3,Dj hq d hk hY tn Ao hs₂ h4 h5⟩
  | ret v=>exact ⟨m2,σ₂,rfl,hs₂,Ao,z⟩
section
variable {k:Nat}{X:XL}{Φ:Tab}
theorem for_ok {p:Pat}{e:E}{body:List Mine.S}{f:WT}{g:M->LS->KS->Prop} (T:TabOk S W k Φ) (d:Sd S k e f X) (d':SdSs S k body g X) (F:Fx S) (hk:k<=F.k) (Y:Value->Shared->Prop) (hY:Xo F X Y) (m:M) (σ:LS) (K:KS) (o:okS σ)
  (h:f.v Option.none m σ (fun a σ₁=>FQ Φ.q a σ₁ (fun items ok σ₂=>Jw Φ.q p g ok K items m σ₂))):ST F (vr m) (Ak σ) (.for_ p e body) (UpS K) Y :=
 ST.for_ hY.pass (SrcT.val ((d.on hk o Sub.rfl h fun a σ₁ s₁ Ac hs₁ h₁=>by
  obtain ⟨items,okP,ok,I,it,tn,hi,h₂⟩:=GJ (F:=F) T.q Ac hs₁ h₁
  exact ⟨items,okP,it,Dj T.q d' hk hY tn Ac hs₁ hi h₂⟩).monoX hY.xf))
theorem enum_ok {ps:List Pat}{e:E}{body:List Mine.S}{f:WT}{g:M->LS->KS->Prop} (T:TabOk S W k Φ) (d:Sd S k e f X) (d':SdSs S k body g X) (F:Fx S) (hk:k<=F.k) (Y:Value->Shared->Prop) (hY:Xo F X Y) (m:M) (σ:LS) (K:KS) (o:okS σ)
  (h:f.v Option.none m σ (fun a σ₁=>enumW Φ.q a σ₁ (fun items ok σ₂=>Jw Φ.q (.tup ps) g ok K items m σ₂))):ST F (vr m) (Ak σ) (.for_ (.tup ps) (.call (.g 9) [e]) body) (UpS K) Y:=by
 have hg:Glob S 9 (.type "enumerate"):=by have:=T.good.glob 9 (T.good.bu 9 (by decide));rw [T.good.base 9 (by decide)] at this;exact this
 refine ST.for_ hY.pass (SrcT.enum1 hg (EsT.cons ((d.on hk o Sub.rfl h fun a σ₁ s₁ Ac hs₁ h₁=>EsT.nil ⟨a,rfl,?_⟩).monoX hY.xf)))
 cases a with
 | str x=>refine AU (quiet.out h₁) fun e h2 h₁=>?_;exact ⟨T.q e,.inr ⟨x,rfl,h2,Dj T.q d' hk hY (.free fun zz zz=>trivial) Ac hs₁ trivial h₁⟩⟩
 | list l=>refine Ad (quiet.out h₁) fun e h₁=>?_;exact ⟨T.q e,.inl ⟨l,rfl,Dj T.q d' hk hY (.free fun zz zz=>trivial) Ac hs₁ trivial h₁⟩⟩
 | loc x i =>
  unfold enumW at h₁
  dsimp only at h₁
  cases z:slot σ₁ i with
  | no=>rw [z] at h₁;exact h₁.elim
  | «at» b p =>
   rw [z] at h₁
   cases p with
   | list l =>
    obtain ⟨rfl,h₁⟩:=h₁
    obtain ⟨e,h₁⟩:=quiet.out h₁
    exact ⟨T.q e,.inl ⟨l,Bw (hs₁.at Ac z),Dj T.q d' hk hY .loc Ac hs₁ z h₁⟩⟩
   | _=>exact h₁.elim
 | _=>exact h₁.elim
inductive WInv (I:Nat->M->LS->Prop) (n:Nat) (m':Vars) (s:Store):Prop
 | mk (m:M) (σ:LS) (em:m'=vr m) (e:Sub σ s) (k:okS σ) (h:I n m σ):WInv I n m' s
set_option tactic.hygienic true in
theorem while_ok {c:E}{body:List Mine.S}{f:WT}{g:M->LS->KS->Prop} (d:Sd S k c f X) (d':SdSs S k body g X):SdS S k (.while_ c body) (fun m σ K=>∃ I:Nat->M->LS->Prop,(∃ n,I n m σ)/\∀ n m σ,I n m σ->f.t m σ (fun t σ₁=>ifW t (g m σ₁ (kWh n I K)) (K .next m σ₁))) X:=by
 rintro F hk Y hY m σ K o ⟨I,⟨n,h0⟩,h⟩
 refine ST.while_ hY.pass (WInv I) ?_ n ⟨m,σ,rfl,Sub.rfl,o,h0⟩
 rintro n m' s ⟨m,σ,rfl,hs,o,hI⟩
 refine (d.onT hk o hs (h n m σ hI) fun t σ₁ s₁ Ac hs₁ h₁=>?_).monoX hY.xf
 cases t with
 | true =>
  rw [if_pos rfl]
  refine SsT.mono (SsT.less hs₁ (d' F hk Y hY m σ₁ _ Ac h₁)) fun fl Ah s₂ z=>?_
  obtain ⟨m2,σ₂,em2,hs₂,Ao,z⟩:=z
  subst em2
  cases fl with
  | next=>refine X1pp (z) fun n' hn hI'=>?_;exact ⟨n',hn,m2,σ₂,rfl,hs₂,Ao,hI'⟩
  | ret v=>exact ⟨m2,σ₂,rfl,hs₂,Ao,z⟩
 | false=>rw [if_neg (by decide)];exact ⟨m,σ₁,rfl,hs₁,Ac,h₁⟩
theorem ST.mu {F:Fx S}{m:Vars}{σ:Store}{p:Pat}{e:E}{l:Nat}{K:Fl->Vars->Store->Prop}{Y:Value->Shared->Prop} (h:ST F m σ (.assign p e) K Y):ST F m σ (.assign p (.mu l e)) K Y:=fun ps hc s hs=>by
 refine X3ppp (hc.inv) fun t pe pp he113_3 hp he=>?_
 subst he113_3
 exact h _ (.assign hp he.inv) s hs
inductive AsgT:List Pat->E->Prop
 | un {ps:List Pat}{e:E}:EM e=true->AC e=true->AsgT ps e
 | two {i j:Nat}{a b:E}:i≠j->(Dc 8 a || Dc 8 b)=true->AsgT [.v i,.v j] (.tup [a,b])
theorem vOf_ok {p:Pat}{i:Nat} (h:vOf p=some i):p=.v i:=by
 cases p with
 | v j=>cases h;rfl
 | tup l=>cases h
theorem tupOf_ok {e:E}{es:List E} (h:tupOf e=some es):e=.tup es:=by
 cases e with
 | tup l=>cases h;rfl
 | _=>exact (Ae rfl h).elim
theorem asg3_ok {p q:Pat}{a b:E} (h:asg3 p q a b=true):AsgT [p,q] (.tup [a,b]):=by
 unfold asg3 at h
 cases h1:vOf p with
 | none=>rw [h1] at h;cases h
 | some i =>
  rw [h1] at h
  dsimp only at h
  cases h2:vOf q with
  | none=>rw [h2] at h;cases h
  | some j =>
   rw [h2] at h
   refine Ad (Bool.and_eq_true_iff.mp h) fun q1 q2=>?_
   rw [vOf_ok h1,vOf_ok h2]
   refine .two (fun e=>?_) q2
   subst e
   rw [Nat.beq_refl] at q1;cases q1
theorem asg2_ok {ps:List Pat}{es:List E} (h:asg2 ps es=true):AsgT ps (.tup es):=by
 unfold asg2 at h
 cases h1:two? ps with
 | none=>rw [h1] at h;cases h
 | some pq =>
  rw [h1] at h
  dsimp only at h
  cases h2:two? es with
  | none=>rw [h2] at h;cases h
  | some ab =>
   rw [h2] at h
   rw [two?_out h1,two?_out h2]
   exact asg3_ok h
theorem asgT_ok {ps:List Pat}{e:E} (h:asgT ps e=true):AsgT ps e:=by
 unfold asgT at h
 cases h1:tupOf e with
 | none=>rw [h1] at h;refine Ad (Bool.and_eq_true_iff.mp h) fun q1 q2=>?_;exact .un q1 q2
 | some es=>rw [h1] at h;rw [tupOf_ok h1];exact asg2_ok h
theorem Ib {K:KS}{m:M}{j:Nat} (a:AV) (s:Store) (z:Up (fun a σ₁=>K .next (Fo m j a) σ₁) a s):UpS K .next (Vars.set (vr m) j a) s:=by
 obtain ⟨σ₁,hs₁,Ac,z⟩:=z
 exact ⟨_,σ₁,(EB m j a).symm,hs₁,Ac,z⟩
set_option tactic.hygienic true in
theorem pat_up {F:Fx S}{Y:Value->Shared->Prop}{q:Bool}{K:KS}{m:M}{p:Pat} (hq:q=true->S.hx=Option.none) (a:AV) (σ₁:LS) (s₁:Store) (Ac:okS σ₁) (hs₁:Sub σ₁ s₁) (h₁:patW q p a m (fun Af=>K .next Af σ₁)):PT F (vr m) s₁ p a (fun Ah σ₂=>UpS K .next Ah σ₂) Y:=fun pe hc v u hs r =>
 wpAny_mono (FC (Y:=Y) hq h₁ pe hc v u hs r) (fun _ u' ⟨m',s',st,h',⟨mm,em,es,z⟩⟩=>by
  subst em;subst es
  exact ⟨_,_,st,h',mm,σ₁,rfl,hs₁,Ac,z⟩) fun zz zz e=>e
inductive Cmp:E->Prop
 | c (elt:E) (i:Nat) (src:E) (cs:List E):Cmp (.comp elt i src cs)
 | m (l:Nat) (elt:E) (i:Nat) (src:E) (cs:List E):Cmp (.mu l (.comp elt i src cs))
theorem FE {e:E} (h:Gz e=false) (hm:notMu e=true):∃ elt i src cs,e=.comp elt i src cs:=by
 cases e with
 | comp a b c d=>exact ⟨_,_,_,_,rfl⟩
 | mu l e=>cases hm
 | _=>cases h
theorem cmp_of {e:E} (h:AC e=false) (hm:notMu2 e=true):Cmp e:=by
 unfold AC at h
 cases e with
 | mu l e' =>
  refine X4p (FE (e:=e') h hm) fun elt i src cs he179_4=>?_
  subst he179_4
  exact .m _ _ _ _ _
 | comp elt i src cs=>exact .c _ _ _ _
 | _=>cases h
set_option tactic.hygienic true in
theorem J6 {p:Pat}{e:E} (T:TabOk S W k Φ):SdS S k (.assign p e) (fun m σ K=>quiet (asgOk Φ.q p e) ((wp Φ e X).v Option.none m σ (fun a σ₁=>patW Φ.q p a m (fun Af=>K .next Af σ₁)))) X:=by
 intro F hk Y hY m σ K o h
 refine Ad (h.out) fun q h=>?_
 cases p with
 | v j =>
  cases hc:AC e with
  | true=>exact ST.assign hc (((Ay T e X).v F hk _ m σ _ o h).mono Ib |>.monoX hY.xf)
  | false =>
   cases cmp_of hc q with
   | c elt i src cs=>exact ST.assignComp ((Er (mu:=Option.none) T hk (Ay T src X) (Ay T elt B1) (A9 T cs B1) o Ib h).monoX hY.xf)
   | m l elt i src cs=>exact ST.mu (ST.assignComp ((Er (mu:=some l) T hk (Ay T src X) (Ay T elt B1) (A9 T cs B1) o Ib h).monoX hY.xf))
 | tup ps =>
  refine Ad (Bool.and_eq_true_iff.mp q) fun qq q=>?_
  cases asgT_ok q with
  | un n1 n2=>exact ST.unpack n1 n2 (((Ay T e X).on hk o Sub.rfl h (pat_up T.q)).monoX hY.xf)
  | @two i j a b hij q2 =>
   have h:(wp Φ a X).v Option.none m σ (fun x σ₁=>(wp Φ b X).v Option.none m σ₁ (fun y σ₂=>patW Φ.q (.tup [.v i,.v j]) (.tup [x,y]) m fun Af=>K .next Af σ₂)):=h
   refine ST.assign2 (T.q qq) hij q2 (((Ay T a X).on hk o Sub.rfl h fun x σ₁ s₁ Ac hs₁ h₁=>((Ay T b X).on hk Ac hs₁ h₁ fun y σ₂ s₂ Ao hs₂ h₂=>?_).monoX hY.xf).monoX hY.xf)
   refine Ad (quiet.out h₂) fun zz h₂=>?_
   exact ⟨_,σ₂,by rw [EB,EB],hs₂,Ao,h₂⟩
theorem slotD.out {σ:LS}{a:AV}{P:Addr->Nat->List (Ab×AV)->Prop} (h:slotD σ a P):∃ x i l,a=.loc x i/\slot σ i=.at x (.dict l)/\P x i l:=by
 cases a with
 | loc x i =>
  unfold slotD at h
  dsimp only at h
  cases q:slot σ i with
  | no=>rw [q] at h;exact h.elim
  | «at» b o =>
   rw [q] at h
   cases o with
   | dict l=>obtain ⟨rfl,h⟩:=h;exact ⟨_,_,_,rfl,q,h⟩
   | _=>exact h.elim
 | _=>exact h.elim
theorem slotI.out {σ:LS}{a:AV}{P:Addr->Nat->Addr->List (Str×AV)->Prop} (h:slotI σ a P):∃ x i d fs,a=.loc x i/\slot σ i=.at x (.inst d)/\slot σ (i+1)=.at d (.attrs fs)/\P x i d fs:=by
 cases a with
 | loc x i =>
  have h:(match fields? σ i with
   | some f=>(f.1.1=x/\f.2.1=f.1.2)/\P f.1.1 i f.2.1 f.2.2
   | Option.none=>False):=h
  cases q:fields? σ i with
  | none=>rw [q] at h;exact h.elim
  | some f =>
   rw [q] at h
   obtain ⟨⟨rfl,e⟩,hP⟩:=h
   refine Ad (fields?_out q) fun q1 q2=>?_
   exact ⟨_,_,_,_,rfl,e▸q1,q2,hP⟩
 | _=>exact h.elim
set_option tactic.hygienic true in
theorem Ht {e ob:E}{n:Nat}{f g:WT} (T:TabOk S W k Φ) (d:Sd S k e f X) (d':Sd S k ob g X):SdS S k (.setattr ob n e) (fun m σ K=>quiet (AC e && (Nat.beq n 11 || Nat.beq n 12)) (f.v Option.none m σ (fun x σ₁=>g.v Option.none m σ₁ (fun a σ₂=>slotI σ₂ a fun zz i d fs=>fs.length<=100/\K .next m (σ₂.set (i+1) (.at d (.attrs (H7 fs (fld n) x)))))))) X:=by
 intro F hk Y hY m σ K o h
 refine Ad (h.out) fun hc h=>?_
 have hc:AC e=true/\(n=11\/n=12):=by
  refine Ad (Bool.and_eq_true_iff.mp hc) fun h1 h2=>?_
  exact ⟨h1,(Bool.or_eq_true_iff.mp h2).imp Nat.eq_of_beq_eq_true Nat.eq_of_beq_eq_true⟩
 refine ST.setattr T.good.floor (T.good.field hc.2) (Jx hc.2) hc.1 (((d.on hk o Sub.rfl h fun x σ₁ s₁ Ac hs₁ h₁=>(d'.on hk Ac hs₁ h₁ fun a σ₂ s₂ Ao hs₂ h₂=>?_).monoX hY.xf)).monoX hY.xf)
 obtain ⟨b,i,d,fs,rfl,z,z',hz,h₂⟩:=h₂.out
 obtain ⟨IP,EU⟩:=hs₂.set (p:=.attrs (H7 fs (fld n) x)) Ao z'
 exact ⟨b,i,d,fs,rfl,hs₂.at Ao z,hs₂.at Ao z',hz,m,_,rfl,EU,IP,h₂⟩
set_option tactic.hygienic true in
theorem Hs {e ob i:E}{f g h:WT} (d:Sd S k e f X) (d':Sd S k ob g X) (d2:Sd S k i h X):SdS S k (.setitem ob i e) (fun m σ K=>quiet (AC e) (f.v Option.none m σ (fun x σ₁=>g.v Option.none m σ₁ (fun a σ₂=>h.v Option.none m σ₂ (fun k σ₃=>slotD σ₃ a fun b j l=>l.length<=big/\spotW k fun kk=>K .next m (σ₃.set j (.at b (.dict (Bj l kk x))))))))) X:=by
 intro F hk Y hY m σ K o q
 refine Ad (q.out) fun hn q=>?_
 refine ST.setitem hn (((d.on hk o Sub.rfl q fun x σ₁ s₁ Ac hs₁ h₁=>((d'.on hk Ac hs₁ h₁ fun a σ₂ s₂ Ao hs₂ h₂=>((d2.on hk Ao hs₂ h₂ fun kk σ₃ Bf C4 hs₃ h₃=>?_).monoX hY.xf)).monoX hY.xf)).monoX hY.xf))
 obtain ⟨b,j,l,rfl,z,hz,h₃⟩:=h₃.out
 obtain ⟨kk,rfl,h₃⟩:=h₃.out
 refine Ad (hs₃.set (p:=.dict (Bj l kk x)) C4 z) fun IP EU=>?_
 exact ⟨b,j,l,kk,rfl,rfl,hs₃.at C4 z,hz,m,_,rfl,EU,IP,h₃⟩
theorem E.g?_out {e:E}{i:Nat} (h:e.g?=some i):e=.g i:=by
 cases e with
 | g j=>cases h;rfl
 | _=>exact (Ae rfl h).elim
theorem call1?_out {e:E}{p:Nat×E} (h:call1? e=some p):e=.call (.g p.1) [p.2]:=by
 cases e with
 | call f es =>
  refine X1pp (Aw (show f.g?.bind (fun i=>(one? es).bind fun e=>some (i,e))=some p from h)) fun i h1 h=>?_
  refine X1pp (Aw h) fun a h2 h=>?_
  cases h
  rw [one?_out h2,E.g?_out h1]
 | _=>exact (Ae rfl h).elim
theorem HW {e e':E} (h:JJ e=some e'):e=.call (.g 9) [e']:=by
 refine X1pp (Aw h) fun p h1 h=>?_
 cases q:Nat.beq p.1 9 with
 | false=>rw [q] at h;cases h
 | true=>rw [q] at h;cases h;rw [call1?_out h1,Nat.eq_of_beq_eq_true q]
set_option tactic.hygienic true in
theorem srcS_ok {p:Pat}{e:E}{body:List Mine.S}{g:M->LS->KS->Prop} (T:TabOk S W k Φ) (d':SdSs S k body g X) (F:Fx S) (hk:k<=F.k) (Y:Value->Shared->Prop) (hY:Xo F X Y) (m:M) (σ:LS) (K:KS) (o:okS σ)
  (h:srcS Φ X p e m σ (fun items ok σ₂=>Jw Φ.q p g ok K items m σ₂)):ST F (vr m) (Ak σ) (.for_ p e body) (UpS K) Y:=by
 unfold srcS at h
 split at h
 ·rename_i e' he
  split at h
  ·rename_i hp
   rw [HW he]
   cases p with
   | v i=>cases hp
   | tup ps=>exact enum_ok T (Ay T e' X) d' F hk Y hY m σ K o h
  ·exact h.elim
 ·exact for_ok T (Ay T e X) d' F hk Y hY m σ K o h
mutual
theorem wpS_ok (T:TabOk S W k Φ):∀ (st:Mine.S) (X:XL),SdS S k st (wpS Φ st X) X
 | .assign p e,X=>J6 T
 | .setattr ob n e,X=>Ht T (Ay T e X) (Ay T ob X)
 | .setitem ob i e,X=>Hs (Ay T e X) (Ay T ob X) (Ay T i X)
 | .expr e,X=>fun F hk Y hY m σ K o h=>ST.expr (quiet.out h).1 (((Ay T e X).on hk o Sub.rfl (quiet.out h).2 fun a σ₁ s₁ Ac hs₁ h₁=>⟨m,σ₁,rfl,hs₁,Ac,h₁⟩).monoX hY.xf)
 | .ret e,X=>fun F hk Y hY m σ K o h=>ST.ret (((Ay T e X).on hk o Sub.rfl h fun a σ₁ s₁ Ac hs₁ h₁=>⟨m,σ₁,rfl,hs₁,Ac,h₁⟩).monoX hY.xf)
 | .ite c a b,X=>fun F hk Y hY m σ K o h=>ST.ite (((Ay T c X).onT hk o Sub.rfl h fun t σ₁ s₁ Ac hs₁ h₁=>by
  cases t with
  | true=>exact SsT.less hs₁ (BP T a X F hk Y hY m σ₁ K Ac h₁)
  | false=>exact SsT.less hs₁ (BP T b X F hk Y hY m σ₁ K Ac h₁)).monoX hY.xf)
 | .for_ p e body,X=>fun F hk Y hY m σ K o h=>srcS_ok T (BP T body X) F hk Y hY m σ K o h
 | .while_ c body,X=>while_ok (Ay T c X) (BP T body X)
 | .raise e,X=>fun F hk Y hY m σ K o h=>h.elim
 | .try_ _ _ _ _,X=>fun F hk Y hY m σ K o h=>h.elim
 | .pass,X=>fun F hk Y hY m σ K o h=>ST.pass ⟨m,σ,rfl,Sub.rfl,o,h⟩
theorem BP (T:TabOk S W k Φ):∀ (ss:List Mine.S) (X:XL),SdSs S k ss (wpSs Φ ss X) X
 | [],X=>fun F hk Y hY m σ K o h=>SsT.nil ⟨m,σ,rfl,Sub.rfl,o,h⟩
 | s::r,X=>fun F hk Y hY m σ K o h=>SsT.cons ((wpS_ok T s X F hk Y hY m σ _ o h).mono fun fl Af s₁ z=>by
  obtain ⟨m1,σ₁,em,hs₁,Ac,z⟩:=z
  subst em
  cases fl with
  | next=>exact SsT.less hs₁ (BP T r X F hk Y hY m1 σ₁ K Ac z)
  | ret v=>exact ⟨m1,σ₁,rfl,hs₁,Ac,z⟩)
end
end
end Mine
end
section
namespace Mine
open PySem PyProof.Rows PySem.W
variable {prog:Program}{w:World}{S:Sta prog w}{W:Wd}
theorem RepO.nf {cv:Nat->Value}{h:Heap}{D:Addr->Prop}{o:AObj}{a:Addr} (r:RepO cv h D o a):∃ ob,h.get? a=some ob/\∀ vs,ob.data≠.fields vs:=by
 cases r with
 | list e _=>exact ⟨_,e,fun zz z=>by cases z⟩
 | dict e _ _ _=>exact ⟨_,e,fun zz z=>by cases z⟩
 | inst e _=>exact ⟨_,e,fun zz z=>by cases z⟩
 | attrs e _=>exact ⟨_,e,fun zz z=>by cases z⟩
inductive FrK (σ₁ σ:Store) {α:Type} (Q:α->Store->Prop) (v:α) (s:Store):Prop
 | mk (t:Store) (q:Q v t) (s1:∀ a o,t a=some o->s a=some o) (s2:∀ a o,σ a=some o->σ₁ a=Option.none->s a=some o) (new:∀ a,Dom t a->Dom σ₁ a\/σ a=Option.none):FrK σ₁ σ Q v s
theorem A5 {σ:Store}{a:Addr}{o:AObj} (e:σ a=some o):Dom σ a:=by unfold Dom;rw [e];simp
theorem BM {σ:Store}{a:Addr} (d:Dom σ a):∃ o,σ a=some o:=by
 cases e:σ a with
 | none=>exact absurd e d
 | some o=>exact ⟨o,rfl⟩
noncomputable abbrev Hid (σ₁ σ:Store) (a:Addr):Prop:=Dom σ a/\¬ Dom σ₁ a
open Classical in
noncomputable def Ej (σ₁ σ t:Store):Store:=fun a=>if Hid σ₁ σ a then σ a else t a
structure Framed (S:Sta prog w) (N:Addr->Prop) (A:Around) (σ₁ σ:Store) (s:Shared) (t:Store) (s':Shared):Prop where
 st:Step (Frm A) noO σ s (Ej σ₁ σ t) s'
 i:Inv S N (Ej σ₁ σ t) s'
 d:∀ b,DN N (Ej σ₁ σ t) b->DN (fun a=>N a\/Hid σ₁ σ a) t b
 nw:∀ a,Dom t a->Dom σ₁ a\/σ a=Option.none
theorem HT {N:Addr->Prop}{A:Around}{k:Nat}{σ₁ σ t:Store}{s s':Shared} (hsub:∀ a o,σ₁ a=some o->σ a=some o) (room:Room S N k A) (hi:Inv S N σ s)
  (st:Step (Frm A) noO σ₁ s t s') (i:Inv S (fun a=>N a\/Hid σ₁ σ a) t s'):Framed S N A σ₁ σ s t s':=by
 have hH:∀ {a},Hid σ₁ σ a->Ej σ₁ σ t a=σ a:=fun h=>if_pos h
 have hN:∀ {a},¬ Hid σ₁ σ a->Ej σ₁ σ t a=t a:=fun h=>if_neg h
 have ds:∀ {a},Dom σ₁ a->Dom σ a:=fun d=>by refine X1p (BM d) fun o e=>?_;exact A5 (hsub _ _ e)
 have dj:∀ {a},Dom (Ej σ₁ σ t) a->Hid σ₁ σ a\/Dom t a:=fun {a} d=>by
  by_cases h:Hid σ₁ σ a
  ·exact .inl h
  ·right;unfold Dom at d ⊢;rw [hN h] at d;exact d
 have fN:∀ {a},Frm A a->N a:=fun {a} ⟨l,el,e,he,hf⟩=>by
  refine X1pp (room.fr) fun l' el' hl=>?_
  rw [el] at el';cases el'
  refine Ad (hl e he) fun zz hy43_0=>?_
  refine X1ppp (hy43_0) fun L h2 h3 zz=>?_
  rw [hf] at h2;cases h2;exact h3
 have dm:∀ b,Dom (Ej σ₁ σ t) b->Dom σ b\/s.heap.get? b=Option.none:=fun b d=>(dj d).elim (fun h=>.inl h.1) fun h=>(st.dom b h).imp ds id
 have dd:∀ b,DN N (Ej σ₁ σ t) b->DN (fun a=>N a\/Hid σ₁ σ a) t b:=fun b d=>d.elim (fun d=>(dj d).elim (fun h=>.inr (.inr h)) .inl) fun h=>.inr (.inl h)
 refine ⟨⟨st.ext.mono fun a h=>h.imp ds id,fun b o e p ho d=>st.frm b o e p ho fun q=>d (ds q),dm,st.there⟩,⟨i.keep,i.gens,i.drawn,i.os,fun a d=>(dj d).elim (fun h=>hi.σg a h.1) (i.σg a),fun a d n=>(dj d).elim (fun h=>hi.σN a h.1 n) fun h=>i.σN a h (.inl n),fun a n=>i.Nin a (.inl n),fun a o e=>?_⟩,dd,fun a d=>?_⟩
 ·by_cases h:Hid σ₁ σ a
  ·rw [hH h] at e
   refine (hi.rep a o e).ext (D:=DN N σ) (st.ext.mono fun b q=>q.elim (fun q=>.inl (ds q)) fun q=>q.elim (fun q=>q.elim) fun q=>.inr (fN q)) (fun b d=>d.elim (fun d=>(dm b d).imp .inl id) fun d=>.inl (.inr d)) fun ob e'=>?_
   exact st.ext.obj a ob e' fun q=>q.elim h.2 fun q=>q.elim (fun q=>q.elim) fun q=>hi.σN a h.1 (fN q)
  ·rw [hN h] at e
   exact (i.rep a o e).ext (Ext.refl _ _) (fun b d=>.inl (dd b d)) fun zz q=>q
 ·rcases st.dom a d with q | q
  ·exact .inl q
  ·refine .inr ?_
   cases e:σ a with
   | none=>rfl
   | some o=>refine X1pp ((hi.rep a o e).there) fun ob e' zz=>?_;rw [q] at e';cases e'
theorem FrK.of {N:Addr->Prop}{A:Around}{σ₁ σ t:Store}{s s':Shared}{α:Type}{Q:α->Store->Prop}{v:α} (f:Framed S N A σ₁ σ s t s') (i:Inv S (fun a=>N a\/Hid σ₁ σ a) t s') (q:Q v t):FrK σ₁ σ Q v (Ej σ₁ σ t):=by
 refine ⟨t,q,fun a o e=>?_,fun a o e n=>?_,f.nw⟩
 ·have:¬ Hid σ₁ σ a:=fun h=>i.σN a (A5 e) (.inr h)
  exact (if_neg this).trans e
 ·exact (if_pos ⟨A5 e,fun d=>d n⟩).trans e
theorem CallT.frame {k:Nat}{f:Value}{avs:List AV}{σ₁ σ:Store}{Q:AV->Store->Prop}{X:KX} (hsub:∀ a o,σ₁ a=some o->σ a=some o) (h:CallT S k f avs σ₁ Q X):CallT S k f avs σ (FrK σ₁ σ Q) (FrK σ₁ σ X):=by
 intro N A vals s room hi rl
 have ds:∀ {a},Dom σ₁ a->Dom σ a:=fun d=>by refine X1p (BM d) fun o e=>?_;exact A5 (hsub _ _ e)
 have dd:∀ b,DN (fun a=>N a\/Hid σ₁ σ a) σ₁ b->DN N σ b:=fun b d=>d.elim (fun d=>.inl (ds d)) fun d=>d.elim .inr fun d=>.inl d.1
 have hi':Inv S (fun a=>N a\/Hid σ₁ σ a) σ₁ s:=⟨hi.keep,hi.gens,hi.drawn,hi.os,fun a d=>hi.σg a (ds d),fun a d n=>n.elim (hi.σN a (ds d)) fun n=>n.2 d,fun a n=>n.elim (hi.Nin a) fun n=>by
   refine X1p (BM n.1) fun o e=>?_
   exact (hi.rep a o e).nf,fun a o e=>(hi.rep a o (hsub a o e)).ext (Ext.refl _ _) (fun b d=>.inl (dd b d)) fun zz q=>q⟩
 refine codeAny_mono (h _ A vals s (room.wide fun a n=>.inl n) hi' (rl.less dd)) fun r s' z=>?_
 cases r with
 | error e =>
  exact z
 | ok fl =>
  cases fl with
  | ret v =>
   obtain ⟨av,t,st,i,r,q⟩:=z
   have f:=HT hsub room hi st i
   exact ⟨av,_,f.st,f.i,r.less f.d,FrK.of f i q⟩
  | _=>exact z
theorem AQ:∀ {σ:LS}{i j:Nat}{a:Addr}{o p:AObj},okS σ->slot σ i=.at a o->slot σ j=.at a p->i=j
 | [],i,j,a,o,p,_,h,_=>by cases h
 | x::r,0,0,a,o,p,_,_,_=>rfl
 | x::r,0,j+1,a,o,p,k,h,h'=>by
  have:x=.at a o:=h
  subst this
  have:=An k.2 (show slot r j=.at a p from h');rw [k.1] at this;cases this
 | x::r,i+1,0,a,o,p,k,h,h'=>by
  have:x=.at a p:=h'
  subst this
  have:=An k.2 (show slot r i=.at a o from h);rw [k.1] at this;cases this
 | x::r,i+1,j+1,a,o,p,k,h,h'=>by
  have kr:okS r:=by cases x with
   | no=>exact k
   | «at» c q=>exact k.2
  exact congrArg Nat.succ (AQ (σ:=r) kr h h')
theorem GB:∀ {σ:LS}{a:Addr}{o:AObj},.at a o∈σ->∃ i,slot σ i=.at a o
 | x::r,a,o,h=>by
  rcases List.mem_cons.mp h with q | q
  ·exact ⟨0,q.symm⟩
  ·refine X1p (GB q) fun i e=>?_;exact ⟨i+1,e⟩
theorem AN {σ:LS}{a:Addr}{o:AObj} (h:Ak σ a=some o):∃ i,slot σ i=.at a o:=GB (EE h)
theorem DJ:∀ {σ:LS},(∀ i j a o p,slot σ i=.at a o->slot σ j=.at a p->i=j)->okS σ
 | [],_=>trivial
 | .no::r,h=>DJ (σ:=r) fun i j a o p h1 h2=>Nat.succ.inj (h (i+1) (j+1) a o p h1 h2)
 | .at b q::r,h=>by
  refine ⟨?_,DJ (σ:=r) fun i j a o p h1 h2=>Nat.succ.inj (h (i+1) (j+1) a o p h1 h2)⟩
  cases e:Ak r b with
  | none=>rfl
  | some o=>refine X1p (AN e) fun i z=>?_;cases h 0 (i+1) b q o rfl z
theorem Gn {σ:LS}{i j:Nat}{s:Slot}{a:Addr}{o:AObj} (h:slot (σ.set i s) j=.at a o):(j=i/\s=.at a o)\/(j≠i/\slot σ j=.at a o):=by
 unfold slot at h ⊢
 rw [List.getD_eq_getElem?_getD,List.getElem?_set] at h
 by_cases q:i=j
 ·subst q
  rw [if_pos rfl] at h
  by_cases z:i<σ.length
  ·rw [if_pos z] at h;exact .inl ⟨rfl,h⟩
  ·rw [if_neg z] at h;cases h
 ·rw [if_neg q] at h
  exact .inr ⟨fun e=>q e.symm,by rw [List.getD_eq_getElem?_getD];exact h⟩
theorem C8:∀ {l:List Nat},IU l=true->l.Nodup
 | [],_=>.nil
 | i::r,h=>by
  refine Ad (Bool.and_eq_true_iff.mp h) fun h1 h2=>?_
  refine List.nodup_cons.mpr ⟨fun q=>?_,C8 h2⟩
  have:r.any (Nat.beq i)=true:=List.any_eq_true.mpr ⟨i,q,Nat.beq_refl i⟩
  rw [this] at h1;cases h1
theorem Cm:∀ {ix:List Nat}{σ τ:LS}{j:Nat}{a:Addr}{o:AObj},ix.Nodup->slot (wb σ ix τ) j=.at a o->(j∉ix/\slot σ j=.at a o)\/∃ p,ix[p]?=some j/\slot τ p=.at a o
 | [],σ,τ,j,a,o,_,h=>.inl ⟨List.not_mem_nil,h⟩
 | i::r,σ,s::τ,j,a,o,n,h=>by
  rw [List.nodup_cons] at n
  rcases Cm (ix:=r) n.2 h with ⟨h1,h2⟩ | ⟨p,h1,h2⟩
  ·rcases Gn h2 with ⟨rfl,q⟩ | ⟨q,z⟩
   ·exact .inr ⟨0,rfl,q⟩
   ·exact .inl ⟨fun m=>(List.mem_cons.mp m).elim q h1,z⟩
  ·exact .inr ⟨p+1,h1,h2⟩
 | i::r,σ,[],j,a,o,n,h=>by
  rw [List.nodup_cons] at n
  rcases Cm (ix:=r) n.2 h with ⟨h1,h2⟩ | ⟨p,h1,h2⟩
  ·rcases Gn h2 with ⟨rfl,q⟩ | ⟨q,z⟩
   ·cases q
   ·exact .inl ⟨fun m=>(List.mem_cons.mp m).elim q h1,z⟩
  ·cases h2
theorem Bl {σ:LS}{ix:List Nat}{p:Nat}{a:Addr}{o:AObj} (h:slot (ix.map (slot σ)) p=.at a o):∃ i,ix[p]?=some i/\slot σ i=.at a o:=by
 unfold slot at h
 rw [List.getD_eq_getElem?_getD,List.getElem?_map] at h
 cases e:ix[p]? with
 | none=>rw [e] at h;cases h
 | some i=>rw [e] at h;exact ⟨i,rfl,h⟩
theorem nodup_at {l:List Nat}{p q i:Nat} (n:l.Nodup) (h1:l[p]?=some i) (h2:l[q]?=some i):p=q:=by
 have hp:p<l.length:=by
  rcases Nat.lt_or_ge p l.length with z | z
  ·exact z
  ·rw [List.getElem?_eq_none z] at h1;cases h1
 exact (List.getElem?_inj hp n).mp (h1.trans h2.symm)
theorem IM {σ:LS}{ix:List Nat} (k:okS σ) (n:ix.Nodup):okS (ix.map (slot σ))/\Sub (ix.map (slot σ)) (Ak σ):=by
 refine ⟨DJ fun i j a o p h1 h2=>?_,fun a o e=>?_⟩
 ·refine X1pp (Bl h1) fun i' e1 z1=>?_
  refine X1pp (Bl h2) fun j' e2 z2=>?_
  have:=AQ k z1 z2
  subst this
  exact nodup_at n e1 e2
 ·refine X1p (AN e) fun p z=>?_
  refine X1pp (Bl z) fun i zz z=>?_
  exact An k z
theorem wb_ok {σ τ:LS}{ix:List Nat}{s:Store} (k:okS σ) (n:ix.Nodup) (kt:okS τ) (ht:Sub τ s) (h2:∀ a o,Ak σ a=some o->Ak (ix.map (slot σ)) a=Option.none->s a=some o) (nw:∀ a,Dom (Ak τ) a->Dom (Ak (ix.map (slot σ))) a\/Ak σ a=Option.none):okS (wb σ ix τ)/\Sub (wb σ ix τ) s:=by
 have mix:∀ {i a o p o'},i∉ix->slot σ i=.at a o->slot τ p=.at a o'->False:=fun {i a o p o'} hn h1 h2=>by
  rcases nw a (A5 (An kt h2)) with q | q
  ·refine X1p (BM q) fun o2 e=>?_
   refine X1p (AN e) fun p' z=>?_
   refine X1pp (Bl z) fun i' e1 z=>?_
   have:=AQ k h1 z
   subst this
   exact hn (List.mem_of_getElem? e1)
  ·rw [An k h1] at q;cases q
 refine ⟨DJ fun i j a o p h1 h2=>?_,fun a o e=>?_⟩
 ·rcases Cm n h1 with ⟨n1,z1⟩ | ⟨p1,e1,z1⟩<;>rcases Cm n h2 with ⟨n2,z2⟩ | ⟨p2,e2,z2⟩
  ·exact AQ k z1 z2
  ·exact (mix n1 z1 z2).elim
  ·exact (mix n2 z2 z1).elim
  ·have:=AQ kt z1 z2
   subst this
   rw [e1] at e2;exact Option.some.inj e2
 ·refine X1p (AN e) fun j z=>?_
  rcases Cm n z with ⟨n1,z1⟩ | ⟨p1,e1,z1⟩
  ·refine h2 a o (An k z1) ?_
   cases q:Ak (ix.map (slot σ)) a with
   | none=>rfl
   | some o' =>
    refine X1p (AN q) fun p' z=>?_
    refine X1pp (Bl z) fun i' e1 z=>?_
    have:=AQ k z1 z
    subst this
    exact (n1 (List.mem_of_getElem? e1)).elim
  ·exact ht a o (An kt z1)
end Mine
end
section
namespace Mine
open PySem PyProof.Rows PySem.W
variable {prog:Program}{w:World}{S:Sta prog w}{W:Wd}
noncomputable def isLD:AObj->Bool
 | .list _=>true
 | .dict _=>true
 | _=>false
noncomputable def newW (k:Nat) (σ:LS) (v:AV) (js:List Nat) (os:List AObj) (K:Sh->List Nat->List AObj->Prop):Prop:=match v with
 | .loc a i=>(match slot σ i with
  | .at b o=>(match isLD o && Nat.ble k i && !(js.any (Nat.beq i)) with
   | true=>b=a/\K (.new os.length) (js++[i]) (os++[o])
   | false=>False)
  | .no=>False)
 | _=>False
mutual
noncomputable def convW (k:Nat) (σ:LS):Rs->AV->List Nat->List AObj->(Sh->List Nat->List AObj->Prop)->Prop
 | .val,v,js,os,K=>K (.val v) js os
 | .new,v,js,os,K=>newW k σ v js os K
 | .tup rs,v,js,os,K=>(match v with
  | .tup vs=>G3 k σ rs vs js os (fun sh js os=>K (.tup sh) js os)
  | _=>False)
 | .list rs,v,js,os,K=>(match v with
  | .list vs=>G3 k σ rs vs js os (fun sh js os=>K (.list sh) js os)
  | _=>False)
noncomputable def G3 (k:Nat) (σ:LS):List Rs->List AV->List Nat->List AObj->(List Sh->List Nat->List AObj->Prop)->Prop
 | [],[],js,os,K=>K [] js os
 | r::rs,v::vs,js,os,K=>convW k σ r v js os (fun sh js os=>G3 k σ rs vs js os (fun shs js os=>K (sh::shs) js os))
 | _,_,_,_,_=>False
end
noncomputable def retW (rs:Rs) (k:Nat) (v:AV) (σ:LS) (K:KR):Prop:=convW k σ rs v [] [] (fun sh zz os=>K ⟨os,sh⟩ (σ.take k))
noncomputable def flV:Fl->AV
 | .ret v=>v
 | .next=>.none
noncomputable def fnW (Φ:Tab) (c:Ag) (rs:Rs) (nv ns:Nat) (avs:List AV) (σ:LS) (K:KR) (X:XL):Prop :=
 avs.length=c.n/\wpSs Φ c.body (fun e τ=>X e (τ.take σ.length)) (avs.map some++List.replicate nv Option.none) (σ++List.replicate ns .no) (fun fl zz τ=>retW rs σ.length (flV fl) τ K)
mutual
inductive ShR (σ:LS) (js:List Nat) (os:List AObj):Sh->AV->Prop
 | val (v:AV):ShR σ js os (.val v) v
 | new {j i:Nat}{a:Addr}{o:AObj}:js[j]?=some i->slot σ i=.at a o->os[j]?=some o->ShR σ js os (.new j) (.loc a i)
 | tup {l:List Sh}{vs:List AV}:ShRL σ js os l vs->ShR σ js os (.tup l) (.tup vs)
 | list {l:List Sh}{vs:List AV}:ShRL σ js os l vs->ShR σ js os (.list l) (.list vs)
inductive ShRL (σ:LS) (js:List Nat) (os:List AObj):List Sh->List AV->Prop
 | nil:ShRL σ js os [] []
 | cons {s:Sh}{v:AV}{l:List Sh}{vs:List AV}:ShR σ js os s v->ShRL σ js os l vs->ShRL σ js os (s::l) (v::vs)
end
theorem FW {α:Type}{l k:List α}{i:Nat}{x:α} (h:l[i]?=some x):(l++k)[i]?=some x:=by
 have:i<l.length:=by
  rcases Nat.lt_or_ge i l.length with z | z
  ·exact z
  ·rw [List.getElem?_eq_none z] at h;cases h
 rw [List.getElem?_append_left this];exact h
theorem ShR.more {σ:LS}{js js':List Nat}{os os':List AObj}{s:Sh}{v:AV} (h:ShR σ js os s v):ShR σ (js++js') (os++os') s v :=
 ShR.rec (motive_1:=fun s v zz=>ShR σ (js++js') (os++os') s v) (motive_2:=fun l vs zz=>ShRL σ (js++js') (os++os') l vs)
  (fun v=>.val v) (fun a b c=>.new (FW a) b (FW c)) (fun zz h=>.tup h) (fun zz h=>.list h) .nil (fun zz zz a b=>.cons a b) h
structure Fine (k:Nat) (σ:LS) (js:List Nat) (os:List AObj):Prop where
 len:js.length=os.length
 nd:js.Nodup
 at_:∀ (j i:Nat),js[j]?=some i->k<=i/\∃ a o,slot σ i=.at a o/\os[j]?=some o/\isLD o=true
inductive Conv (k:Nat) (σ:LS) (js:List Nat) (os:List AObj) {α:Type} (R:α->List Nat->List AObj->Prop) (K:α->List Nat->List AObj->Prop):Prop
 | mk (sh:α) (js':List Nat) (os':List AObj) (f:Fine k σ (js++js') (os++os')) (r:R sh (js++js') (os++os')) (h:K sh (js++js') (os++os')):Conv k σ js os R K
set_option tactic.hygienic true in
theorem newW_ok {k:Nat}{σ:LS}{v:AV}{js:List Nat}{os:List AObj}{K:Sh->List Nat->List AObj->Prop} (f:Fine k σ js os) (h:newW k σ v js os K):Conv k σ js os (fun s js os=>ShR σ js os s v) K:=by
 unfold newW at h
 split at h
 ·rename_i a i
  split at h
  ·rename_i b o z
   split at h
   ·rename_i q
    obtain ⟨rfl,h⟩:=h
    obtain ⟨q1,q3⟩:=Bool.and_eq_true_iff.mp q
    obtain ⟨q1,q2⟩:=Bool.and_eq_true_iff.mp q1
    refine ⟨_,[i],[o],⟨?_,?_,?_⟩,.new (j:=os.length) ?_ z ?_,h⟩
    ·rw [List.length_append,List.length_append,f.len];rfl
    ·rw [List.nodup_append]
     refine ⟨f.nd,List.nodup_cons.mpr ⟨List.not_mem_nil,.nil⟩,fun x hx y hy e=>?_⟩
     have hy:=List.mem_singleton.mp hy
     subst e;subst hy
     have:js.any (Nat.beq x)=true:=List.any_eq_true.mpr ⟨x,hx,Nat.beq_refl x⟩
     rw [this] at q3;cases q3
    ·intro j i' hj
     rcases Nat.lt_or_ge j js.length with z' | z'
     ·rw [List.getElem?_append_left z'] at hj
      refine Ad (f.at_ j i' hj) fun h1 hy92_0=>?_
      refine X2ppp (hy92_0) fun a' o' h2 h3 h4=>?_
      exact ⟨h1,a',o',h2,FW h3,h4⟩
     ·rw [List.getElem?_append_right z'] at hj
      cases hjj:j - js.length with
      | zero =>
       rw [hjj] at hj;cases hj
       refine ⟨Nat.ble_eq.mp q2,b,o,z,?_,q1⟩
       rw [List.getElem?_append_right (by rw [<- f.len];exact z'),<- f.len,hjj];rfl
      | succ n=>rw [hjj] at hj;cases hj
    ·rw [<- f.len,List.getElem?_append_right (Nat.le_refl _),Nat.sub_self];rfl
    ·rw [List.getElem?_append_right (Nat.le_refl _),Nat.sub_self];rfl
   ·exact h.elim
  ·exact h.elim
 ·exact h.elim
mutual
theorem Eo {k:Nat}{σ:LS}:∀ {rs:Rs}{v:AV}{js:List Nat}{os:List AObj}{K:Sh->List Nat->List AObj->Prop},Fine k σ js os->convW k σ rs v js os K->Conv k σ js os (fun s js os=>ShR σ js os s v) K
 | .val,v,js,os,K,f,h=>⟨_,[],[],by rw [List.append_nil,List.append_nil];exact f,.val v,by rw [List.append_nil,List.append_nil];exact h⟩
 | .new,v,js,os,K,f,h=>newW_ok f h
 | .tup rs,v,js,os,K,f,h=>by
  cases v with
  | tup vs=>obtain ⟨l,js',os',f',r,h⟩:=Dp f h;exact ⟨_,js',os',f',.tup r,h⟩
  | _=>exact h.elim
 | .list rs,v,js,os,K,f,h=>by
  cases v with
  | list vs=>obtain ⟨l,js',os',f',r,h⟩:=Dp f h;exact ⟨_,js',os',f',.list r,h⟩
  | _=>exact h.elim
theorem Dp {k:Nat}{σ:LS}:∀ {rs:List Rs}{v:List AV}{js:List Nat}{os:List AObj}{K:List Sh->List Nat->List AObj->Prop},Fine k σ js os->G3 k σ rs v js os K->Conv k σ js os (fun s js os=>ShRL σ js os s v) K
 | [],[],js,os,K,f,h=>⟨_,[],[],by rw [List.append_nil,List.append_nil];exact f,.nil,by rw [List.append_nil,List.append_nil];exact h⟩
 | r::rs,v::vs,js,os,K,f,h=>by
  obtain ⟨s,js',os',f',r1,h⟩:=Eo f h
  obtain ⟨l,js2,os2,f2,r2,h⟩:=Dp f' h
  rw [List.append_assoc,List.append_assoc] at f2 r2 h
  refine ⟨_,js'++js2,os'++os2,f2,.cons ?_ r2,h⟩
  have:=r1.more (js':=js2) (os':=os2)
  rw [List.append_assoc,List.append_assoc] at this
  exact this
 | [],_::_,_,_,_,_,h=>h.elim
 | _::_,[],_,_,_,_,h=>h.elim
end
theorem Fine.nil {k:Nat}{σ:LS}:Fine k σ [] []:=⟨rfl,.nil,fun zz zz h=>by cases h⟩
theorem ShR.rep {cv:Nat->Value}{h:Heap}{D D':Addr->Prop}{σ:LS}{js:List Nat}{os:List AObj}{f:Nat->AV}{s:Sh}{v:AV} (hr:ShR σ js os s v) (hf:∀ (j i:Nat) (a:Addr) (o:AObj),js[j]?=some i->slot σ i=.at a o->os[j]?=some o->Rep cv h D' (f j) (.ref a))
  (hl:∀ {v u},Rep cv h D v u->Rep cv h D' v u) (hd:∀ a,D' a->D a):∀ {u:Value},Rep cv h D v u->Rep cv h D' (s.with f) u :=
 ShR.rec (motive_1:=fun s v zz=>∀ {u:Value},Rep cv h D v u->Rep cv h D' (s.with f) u) (motive_2:=fun l vs zz=>∀ {us:List Value},RepL cv h D vs us->RepL cv h D' (Sh.withL f l) us)
  (fun v u r=>hl r) (fun a b c u r=>by rw [show u=Value.ref _ from r.inv];exact hf _ _ _ _ a b c)
  (fun zz ih u r=>by obtain ⟨a,vs,n,rfl,e,d,r⟩:=r.inv;exact .tup e (fun q=>d (hd _ q)) (ih r)) (fun zz ih u r=>by obtain ⟨a,vs,n,rfl,e,d,r⟩:=r.inv;exact .list e (fun q=>d (hd _ q)) (ih r))
  (fun r=>by rw [show _=([]:List Value) from r.inv];exact .nil) (fun zz zz ih1 ih2 us r=>by refine X2ppp (r.inv) fun v rr he138_2 r1 r2=>?_;subst he138_2;exact .cons (ih1 r1) (ih2 r2)) hr
inductive OutF (K:KR) (v:AV) (s:Store):Prop
 | mk (r:RT) (τ:LS) (e:v=r.sh.with (frzN r.os)) (k:okS τ) (hs:Sub τ s) (h:K r τ):OutF K v s
noncomputable def HN:List Addr->Nat->List AV
 | [],_=>[]
 | a::r,i=>.loc a i::HN r (i+1)
theorem ER:∀ {as:List Addr}{i j:Nat}{a:Addr},as[j]?=some a->∃ n,(HN as i).getD j .none=.loc a n
 | a::r,i,0,_,h=>by cases h;exact ⟨i,rfl⟩
 | _::r,i,j+1,a,h=>ER (as:=r) (i:=i+1) (j:=j) h
inductive OutM (i:Nat) (K:KR) (v:AV) (s:Store):Prop
 | mk (r:RT) (τ:LS) (as:List Addr) (e:v=r.sh.with (fun j=>(HN as i).getD j .none)) (k:okS τ) (hs:Sub τ s) (nd:as.Nodup) (len:as.length=r.os.length) (at_:∀ (j:Nat) (o:AObj),r.os[j]?=some o->∃ a,as[j]?=some a/\s a=some o/\Ak τ a=Option.none) (h:K r τ):OutM i K v s
theorem Bg {σ:LS}{k p:Nat}{a:Addr}{o:AObj} (h:slot (σ.take k) p=.at a o):p<k/\slot σ p=.at a o:=by
 unfold slot at h ⊢
 rw [List.getD_eq_getElem?_getD,List.getElem?_take] at h
 by_cases q:p<k
 ·rw [if_pos q] at h;exact ⟨q,by rw [List.getD_eq_getElem?_getD];exact h⟩
 ·rw [if_neg q] at h;cases h
theorem CW {σ:LS}{k:Nat} (o:okS σ):okS (σ.take k)/\∀ a p,Ak (σ.take k) a=some p->Ak σ a=some p:=by
 refine ⟨DJ fun i j a p q h1 h2=>AQ o (Bg h1).2 (Bg h2).2,fun a p e=>?_⟩
 refine X1p (AN e) fun i z=>?_
 exact An o (Bg z).2
theorem GV:∀ {os:List AObj}{j:Nat}{o:AObj},os[j]?=some o->frzN os j=frz o
 | o::os,0,_,h=>by cases h;rfl
 | _::os,j+1,o,h=>GV (os:=os) h
theorem CK {rs:Rs}{k:Nat}{fl:Fl}{σ:LS}{s:Store}{K:KR}{m:Vars} (o:okS σ) (hs:Sub σ s) (h:retW rs k (flV fl) σ K):RetK S (OutF K) fl m s:=by
 intro N
 obtain ⟨sh,js,os,f,r,h⟩:=Eo Fine.nil h
 simp only [List.nil_append] at f r h
 let as:List Addr:=js.filterMap fun i=>match slot σ i with
  | .at a _=>some a
  | .no=>Option.none
 have mem:∀ {i a p},i∈js->slot σ i=.at a p->a∈as:=fun {i a p} hi z=>List.mem_filterMap.mpr ⟨i,hi,by rw [z]⟩
 refine ⟨sh.with (frzN os),s.dels as,?_,⟨os,sh⟩,σ.take k,rfl,(CW o).1,fun a p e=>?_,h⟩
 ·show View S N (flV fl) _ _ _
  intro t u hi ru
  refine Ad (hi.drop (σ':=s.dels as) fun b p e=>(B8 e).2) fun i st=>?_
  refine ⟨i,st,r.rep (D:=DN N s) (D':=DN N (s.dels as)) (fun j i' a p hj z hp=>?_) (fun r=>r.step st (fun zz h=>h.elim) (fun zz h=>h.elim)) (fun a d=>d.imp (fun d=>?_) id) ru⟩
  ·have sa:s a=some p:=hs.at o z
   have ia:a∈as:=mem (List.mem_of_getElem? hj) z
   rw [GV hp]
   refine Ad (f.at_ j i' hj) fun zz hy182_0=>?_
   refine X2ppp (hy182_0) fun a' o' z' hp' hl=>?_
   rw [z] at z';cases z'
   cases p with
   | list l =>
    refine X2pp ((hi.rep a _ sa).inv) fun vs n e r=>?_
    exact .list e (fun d=>d.elim (AM ia) (hi.σN a (A5 sa))) (r.step st (fun zz h=>h.elim) (fun zz h=>h.elim))
   | dict l =>
    refine X2pppp ((hi.rep a _ sa).inv) fun vs n e sm nd r=>?_
    exact .dict e (fun d=>d.elim (AM ia) (hi.σN a (A5 sa))) sm nd (r.step st (fun zz h=>h.elim) (fun zz h=>h.elim))
   | _=>cases hl
  ·refine X1p (BM d) fun p e=>?_;exact A5 (B8 e).2
 ·refine X1p (AN e) fun i z=>?_
  refine Ad (Bg z) fun hik z=>?_
  unfold Store.dels
  rw [if_neg]
  ·exact hs.at o z
  ·intro q
   refine X1pp (List.mem_filterMap.mp q) fun i' hi' e'=>?_
   refine X1p (List.getElem?_of_mem hi') fun j hj=>?_
   refine Ad (f.at_ j i' hj) fun hk hy201_0=>?_
   refine X2ppp (hy201_0) fun a' o' z' zz zz=>?_
   rw [z'] at e'
   cases e'
   have:=AQ o z z'
   exact lin [i,k,i'] [] .no [.nlt 1 V0 V1,.nle 1 V1 V2,.neq (-1) V0 V2] rfl hik hk this
theorem ret_keep {rs:Rs}{k i:Nat}{fl:Fl}{σ:LS}{s:Store}{K:KR}{m:Vars} (o:okS σ) (hs:Sub σ s) (h:retW rs k (flV fl) σ K):RetK S (OutM i K) fl m s:=by
 intro N
 obtain ⟨sh,js,os,f,r,h⟩:=Eo Fine.nil h
 simp only [List.nil_append] at f r h
 let ad:Nat->Addr:=fun i=>match slot σ i with
  | .at a _=>a
  | .no=>0
 have adz:∀ {i a p},slot σ i=.at a p->ad i=a:=fun {i a p} z=>by simp only [ad,z]
 refine ⟨sh.with (fun j=>(HN (js.map ad) i).getD j .none),s,?_,⟨os,sh⟩,σ.take k,js.map ad,rfl,(CW o).1,fun a p e=>hs a p ((CW o).2 a p e),?_,?_,fun j p hp=>?_,h⟩
 ·show View S N (flV fl) _ _ _
  intro t u hi ru
  refine ⟨hi,Step.refl _ _ _ _,r.rep (fun j i' a p hj z hp=>?_) (fun r=>r) (fun zz d=>d) ru⟩
  refine X1p (ER (as:=js.map ad) (i:=i) (j:=j) (a:=a) (by rw [List.getElem?_map,hj];exact congrArg some (adz z))) fun n e=>?_
  rw [e];exact .loc _ _
 ·refine List.pairwise_map.mpr (List.Pairwise.imp_of_mem (fun {i j} hi hj hne e=>?_) f.nd)
  refine X1p (List.getElem?_of_mem hi) fun p hp=>?_
  refine X1p (List.getElem?_of_mem hj) fun q hq=>?_
  refine Ad (f.at_ p i hp) fun zz hy223_0=>?_
  refine X2pp (hy223_0) fun a o1 z1 zz=>?_
  refine Ad (f.at_ q j hq) fun zz hy224_0=>?_
  refine X2pp (hy224_0) fun b o2 z2 zz=>?_
  rw [adz z1,adz z2] at e
  subst e
  exact hne (AQ o z1 z2)
 ·rw [List.length_map];exact f.len
 ·have hj:j<js.length:=by
   rw [f.len]
   rcases Nat.lt_or_ge j os.length with z | z
   ·exact z
   ·have hp:os[j]?=some p:=hp
    rw [List.getElem?_eq_none z] at hp;cases hp
  obtain ⟨i',hi'⟩:∃ i',js[j]?=some i':=⟨_,List.getElem?_eq_getElem hj⟩
  refine Ad (f.at_ j i' hi') fun hk hy236_0=>?_
  refine X2ppp (hy236_0) fun a o' z ho' zz=>?_
  have hp:os[j]?=some p:=hp
  rw [hp] at ho';cases ho'
  refine ⟨a,by rw [List.getElem?_map,hi'];exact congrArg some (adz z),hs.at o z,?_⟩
  cases e:Ak (σ.take k) a with
  | none=>rfl
  | some p' =>
   refine X1p (AN e) fun q zq=>?_
   refine Ad (Bg zq) fun hq zq=>?_
   have:=AQ o zq z
   omega
end Mine
end
section
namespace Mine
open PySem PyProof.Rows PySem.W
variable {prog:Program}{w:World}{S:Sta prog w}{W:Wd}
theorem Ck:∀ {σ:LS}{n:Nat},Ak (σ++List.replicate n .no)=Ak σ
 | [],0=>rfl
 | [],n+1=>by funext a;exact congrFun (Ck (σ:=[]) (n:=n)) a
 | .no::r,n=>by funext a;exact congrFun (Ck (σ:=r) (n:=n)) a
 | .at b o::r,n=>by
  funext a
  have:=congrFun (Ck (σ:=r) (n:=n)) a
  show (if a=b then some o else Ak (r++List.replicate n .no) a)=if a=b then some o else Ak r a
  rw [this]
theorem C6:∀ {σ:LS}{n:Nat},okS σ->okS (σ++List.replicate n .no)
 | [],0,_=>trivial
 | [],n+1,k=>C6 (σ:=[]) (n:=n) k
 | .no::r,n,k=>C6 (σ:=r) k
 | .at b o::r,n,k=>⟨(congrFun (Ck (σ:=r) (n:=n)) b).trans k.1,C6 (σ:=r) k.2⟩
theorem vr_pad (m:M) (n:Nat):vr (m++List.replicate n Option.none)=vr m:=by
 funext i
 unfold vr
 rw [List.getD_eq_getElem?_getD,List.getD_eq_getElem?_getD]
 rcases Nat.lt_or_ge i m.length with h | h
 ·rw [List.getElem?_append_left h]
 ·rw [List.getElem?_append_right h,List.getElem?_eq_none h]
  rw [List.getElem?_replicate]
  split<;>rfl
theorem XR.mono {F:Fx S}{X X':KX}{e:Value}{s:Shared} (k:∀ c σ,X c σ->X' c σ) (h:XR F X e s):XR F X' e s:=h
theorem Dl {Φ:Tab}{k:Nat}{fa:Addr}{c:Ag}{rs:Rs}{nv ns:Nat}{avs:List AV}{σ:LS}{K:KR}{X:XL}{Q:AV->Store->Prop} (T:TabOk S W k Φ) (hf:IsFn S fa c) (o:okS σ) (h:fnW Φ c rs nv ns avs σ K X)
  (hr:∀ {fl:Fl}{m:Vars}{τ:LS}{s:Store},okS τ->Sub τ s->retW rs σ.length (flV fl) τ K->RetK S Q fl m s):CallT S (k+1) (.ref fa) avs (Ak σ) Q (Up X):=by
 refine CallT.body hf h.1 fun F hk ht Y y1 y2=>?_
 have x:Xo F (fun e τ=>X e (τ.take σ.length)) Y:=⟨fun e s z=>y1 e s (z.mono fun c t z=>by
  obtain ⟨τ,hs,ok,z⟩:=z
  exact ⟨τ.take σ.length,fun a p e=>hs a p ((CW ok).2 a p e),(CW ok).1,z⟩),y2⟩
 have:=BP T c.body _ F (Nat.le_of_eq hk.symm) Y x _ _ _ (C6 (n:=ns) o) h.2
 rw [vr_pad,Ia,Ck] at this
 refine SsT.mono this fun fl m s z=>?_
 obtain ⟨m1,τ,em,hs,ok,z⟩:=z
 exact hr ok hs z
theorem Ey:∀ {os:List AObj}{as:List Addr}{i:Nat}{τ:LS}{s:Store}{acc:List AV}{K:List AV->LS->Prop},okS τ->Sub τ s->as.Nodup->as.length=os.length->(∀ (j:Nat) (o:AObj),os[j]?=some o->∃ a,as[j]?=some a/\s a=some o/\Ak τ a=Option.none)->Kb os i τ acc K->∃ τ',okS τ'/\Sub τ' s/\K (acc++HN as i) τ'
 | [],[],i,τ,s,acc,K,k,hs,_,_,_,h=>⟨τ,k,hs,by rw [show HN [] i=[] from rfl,List.append_nil];exact h⟩
 | o::os,a::as,i,τ,s,acc,K,k,hs,nd,hl,ha,h=>by
  refine X1ppp (ha 0 o rfl) fun a' e sa na=>?_
  cases e
  rw [List.nodup_cons] at nd
  have f:Fits τ i (.at a o):=fun zz zz e=>by cases e;exact .inl na
  have sub:=D8 k f
  have:=Ey (os:=os) (as:=as) (i:=i+1) (s:=s) (CZ k f) (fun b p e=>by
   have:=sub b p e
   by_cases z:b=a
   ·subst z;rw [Store.set_self] at this;cases this;exact sa
   ·rw [Store.set_ne _ _ z] at this;exact hs b p this) nd.2 (Nat.succ.inj hl) (fun j p hp=>by
    refine X1ppp (ha (j+1) p hp) fun b hb sb nb=>?_
    refine ⟨b,hb,sb,?_⟩
    cases e:Ak (τ.set i (.at a o)) b with
    | none=>rfl
    | some p' =>
     have:=sub b p' e
     have ne:b≠a:=fun z=>nd.1 (by subst z;exact List.mem_of_getElem? hb)
     rw [Store.set_ne _ _ ne,nb] at this;cases this) (h a)
  refine X1ppp (this) fun τ' k' hs' h'=>?_
  exact ⟨τ',k',hs',by rw [List.append_assoc] at h';exact h'⟩
 | [],_::_,_,_,_,_,_,_,_,_,hl,_,_=>by cases hl
 | _::_,[],_,_,_,_,_,_,_,_,hl,_,_=>by cases hl
theorem OutF.up {K:KV}{v:AV}{s:Store} (h:OutF (fun r τ=>HQ Option.none r τ K) v s):Up K v s:=by
 obtain ⟨r,τ,rfl,k,hs,h⟩:=h
 exact ⟨τ,hs,k,h⟩
theorem OutM.up {i:Nat}{K:KV}{v:AV}{s:Store} (h:OutM i (fun r τ=>HQ (some i) r τ K) v s):Up K v s:=by
 obtain ⟨r,τ,as,rfl,k,hs,nd,len,at_,h⟩:=h
 refine X1ppp (Ey k hs nd len at_ h) fun τ' k' hs' h=>?_
 exact ⟨τ',hs',k',h⟩
theorem B0 {cv:Nat->Value}{h:Heap}{D:Addr->Prop}:∀ {avs:List AV}{n:Nat}{vals:List Value},RepL cv h D avs vals->RepL cv h D (A3 avs n) vals
 | [],_,_,r=>r
 | x::l,n,vals,r=>by
  refine X2ppp (r.inv) fun v rr he79_2 r1 r2=>?_
  subst he79_2
  unfold A3
  cases x with
  | loc a i=>rw [show v=.ref a from r1.inv];exact .cons (.loc _ _) (B0 r2)
  | _=>exact .cons r1 (B0 r2)
theorem CallT.relab {k:Nat}{f:Value}{avs:List AV}{n:Nat}{σ:Store}{Q:AV->Store->Prop}{X:KX} (h:CallT S k f (A3 avs n) σ Q X):CallT S k f avs σ Q X:=fun N A vals s room hi rl=>h N A vals s room hi (B0 rl)
structure FnOk (Φ:Tab) (c:Ag) (rs:Rs) (nv ns:Nat) (f:FS):Prop where
 spec:∀ avs σ K X,f.spec avs σ K X->fnW Φ c rs nv ns avs σ K X
 pure:∀ avs v,f.pure avs=some v->∀ K:KR,K ⟨[],.val v⟩ []->fnW Φ c .val nv ns avs [] K B1
set_option tactic.hygienic true in
theorem Snd.of {k:Nat}{fv:Value}{f:FS} (h1:∀ avs σ K X,okS σ->f.spec avs σ K X->CallT S k fv avs (Ak σ) (OutF K) (Up X)/\∀ i,CallT S k fv avs (Ak σ) (OutM i K) (Up X))
  (h2:∀ avs v,f.pure avs=some v->CallT S k fv avs (Ak []) (OutF fun r zz=>r=⟨[],.val v⟩) (Up B1)):Snd S k fv f:=by
 intro F hk m mu avs σ K X o q
 unfold ownW at q
 split at q
 ·rename_i v hv
  refine CT.own (CallT.mono (CallT.frame (σ:=Ak σ) (fun a p e=>by cases e) (h2 avs v hv)) (fun a s z=>?_) fun c s z=>?_) hk
  ·obtain ⟨t,⟨r,τ,e,_,_,e'⟩,s1,s2,_⟩:=z
   subst e';subst e
   exact ⟨σ,fun a p e=>s2 a p e rfl,o,q⟩
  ·obtain ⟨t,⟨τ,_,_,z⟩,_⟩:=z
   exact z.elim
 ·split at q
  ·have q:=h1 _ _ _ _ o q
   cases mu with
   | none=>exact CT.own (CallT.mono q.1 (fun a s z=>z.up) fun c s z=>z) hk
   | some i=>exact CT.own (CallT.mono (q.2 i) (fun a s z=>z.up) fun c s z=>z) hk
  ·split at q
   ·rename_i hn
    have n:=C8 hn
    refine Ad (IM (ix:=AF avs) o n) fun kp hp=>?_
    have q:=h1 _ _ _ _ kp q
    have back:∀ {τ:LS}{t s:Store},okS τ->Sub τ t->(∀ a p,t a=some p->s a=some p)->(∀ a p,Ak σ a=some p->Ak ((AF avs).map (slot σ)) a=Option.none->s a=some p)->(∀ a,Dom t a->Dom (Ak ((AF avs).map (slot σ))) a\/Ak σ a=Option.none)->okS (wb σ (AF avs) τ)/\Sub (wb σ (AF avs) τ) s:=fun {τ t s} kt ht s1 s2 nw =>
     wb_ok o n kt (ht.trans s1) s2 fun a d=>nw a (by refine X1p (BM d) fun p e=>?_;exact A5 (ht a p e))
    have xx:∀ c s,FrK (Ak ((AF avs).map (slot σ))) (Ak σ) (Up fun c σ'=>X c (wb σ (AF avs) σ')) c s->Up X c s:=fun c s z=>by
     obtain ⟨t,⟨τ,ht,kt,z⟩,s1,s2,nw⟩:=z
     refine Ad (back kt ht s1 s2 nw) fun k1 hb=>?_
     exact ⟨_,hb,k1,z⟩
    cases mu with
    | none =>
     refine CT.own (CallT.mono (CallT.frame hp (CallT.relab q.1)) (fun a s z=>?_) xx) hk
     obtain ⟨t,⟨r,τ,e,kt,ht,z⟩,s1,s2,nw⟩:=z
     refine Ad (back kt ht s1 s2 nw) fun k1 hb=>?_
     subst e
     exact ⟨_,hb,k1,z⟩
    | some i =>
     refine CT.own (CallT.mono (CallT.frame hp (CallT.relab (q.2 i))) (fun a s z=>?_) xx) hk
     obtain ⟨t,⟨r,τ,as,e,kt,ht,nd,len,at_,z⟩,s1,s2,nw⟩:=z
     refine Ad (back kt ht s1 s2 nw) fun k1 hb=>?_
     subst e
     obtain ⟨τ',k',hs',z⟩:=Ey k1 hb nd len (fun j p hp=>by
      refine X1ppp (at_ j p hp) fun a h2 h3 h4=>?_
      refine ⟨a,h2,s1 a p h3,?_⟩
      cases e:Ak (wb σ (AF avs) τ) a with
      | none=>rfl
      | some p' =>
       refine X1p (AN e) fun jj zz=>?_
       rcases Cm n zz with ⟨n1,z1⟩ | ⟨p1,e1,z1⟩
       ·rcases nw a (A5 h3) with w1 | w1
        ·refine X1p (BM w1) fun p2 e2=>?_
         refine X1p (AN e2) fun p3 z3=>?_
         refine X1pp (Bl z3) fun i' e4 z4=>?_
         have:=AQ o z1 z4
         subst this
         exact (n1 (List.mem_of_getElem? e4)).elim
        ·rw [An o z1] at w1;cases w1
       ·rw [An kt z1] at h4;cases h4) z
     exact ⟨τ',hs',k',z⟩
   ·exact q.elim
theorem Snd.fn {Φ:Tab}{k:Nat}{fa:Addr}{c:Ag}{rs:Rs}{nv ns:Nat}{f:FS} (T:TabOk S W k Φ) (hf:IsFn S fa c) (h:FnOk Φ c rs nv ns f):Snd S (k+1) (.ref fa) f :=
 Snd.of (fun avs σ K X o q=>⟨Dl T hf o (h.spec _ _ _ _ q) fun ok hs z=>CK ok hs z,fun i=>Dl T hf o (h.spec _ _ _ _ q) fun ok hs z=>ret_keep ok hs z⟩)
  fun avs v hv=>Dl (σ:=[]) T hf trivial (h.pure avs v hv _ rfl) fun ok hs z=>CK ok hs z
theorem KeyT.fn {Φ:Tab}{k:Nat}{fa:Addr}{c:Ag}{rs:Rs}{nv ns:Nat}{f:FS}{ky:AV->Option Ab} (T:TabOk S W k Φ) (hf:IsFn S fa c) (h:FnOk Φ c rs nv ns f) (e:∀ x p,ky x=some p->f.pure [x]=some (sp p)) (x:AV) (hx:(ky x).isSome=true):KeyT S (k+1) (.ref fa) (Bh ky) [x]:=by
 intro x' hx' σ Q q
 obtain rfl:=List.mem_singleton.mp hx'
 cases hp:ky x' with
 | none=>rw [hp] at hx;cases hx
 | some p =>
  have hk:Bh ky x'=p:=by unfold Bh;rw [hp]
  rw [hk] at q
  have h2:CallT S (k+1) (.ref fa) [x'] (Ak []) (OutF fun r zz=>r=⟨[],.val (sp p)⟩) (Up B1):=Dl (σ:=[]) T hf trivial (h.pure [x'] _ (e x' p hp) _ rfl) fun ok hs z=>CK ok hs z
  intro N A vals s room hi rl
  refine codeAny_mono (CallT.frame (σ:=σ) (fun a p e=>by cases e) h2 N A vals s room hi rl) fun r s' z=>?_
  cases r with
  | error e =>
   exact False.elim z
  | ok fl =>
   cases fl with
   | ret v =>
    obtain ⟨av,t,st,i,ra,t',⟨r,τ,e,_,_,e'⟩,s1,s2,_⟩:=z
    subst e';subst e
    refine Ad (i.drop (σ':=σ) fun a p e=>s2 a p e rfl) fun i2 st2=>?_
    exact ⟨_,σ,st.trans (st2.wide fun zz h=>h.elim),i2,Rep.step st2 (fun zz h=>h.elim) (fun zz h=>h.elim) ra,q⟩
   | _=>exact z.elim
end Mine
end
section
namespace Mine
open PySem PyProof.Rows PySem.W
mutual
noncomputable def E.st:E->E
 | .tup es=>.tup (E.stL es)
 | .list es=>.list (E.stL es)
 | .dict ks vs=>.dict (E.stL ks) (E.stL vs)
 | .bin op l r=>.bin op l.st r.st
 | .neg x=>.neg x.st
 | .not x=>.not x.st
 | .and es=>.and (E.stL es)
 | .or es=>.or (E.stL es)
 | .cmp op l r=>.cmp op l.st r.st
 | .cmp2 o1 o2 a b c=>.cmp2 o1 o2 a.st b.st c.st
 | .ite c a b=>.ite c.st a.st b.st
 | .sub o i=>.sub o.st i.st
 | .slice o lo hi st=>.slice o.st lo.st hi.st st.st
 | .call f args=>.call f (E.stL args)
 | .sorted x f=>.sorted x.st f.st
 | .meth o n args=>.meth o.st n (E.stL args)
 | .comp elt x src cs=>.comp elt.st x src.st (E.stL cs)
 | .mu _ e=>e.st
 | e=>e
noncomputable def E.stL:List E->List E
 | []=>[]
 | e::r=>e.st::E.stL r
end
mutual
noncomputable def stS:Mine.S->Mine.S
 | .assign p e=>.assign p e.st
 | .setattr o n e=>.setattr o.st n e.st
 | .setitem o i e=>.setitem o.st i.st e.st
 | .expr e=>.expr e.st
 | .ret e=>.ret e.st
 | .ite c a b=>.ite c.st (Fu a) (Fu b)
 | .for_ p e body=>.for_ p e.st (Fu body)
 | .while_ c body=>.while_ c.st (Fu body)
 | .raise e=>.raise e.st
 | .try_ b c x h=>.try_ (Fu b) c.st x (Fu h)
 | .pass=>.pass
noncomputable def Fu:List Mine.S->List Mine.S
 | []=>[]
 | s::r=>stS s::Fu r
end
theorem CO.of {tb:List Nat}{sc:Nms}{pe:Option PySem.Expr}{e e':E} (h:CO tb sc pe e) (k:∀ {pe},CE tb sc pe e->CE tb sc pe e') (hn:e=.none->e'=.none):CO tb sc pe e':=by
 rcases h.inv with ⟨rfl,e⟩ | ⟨x,rfl,h'⟩
 ·rw [hn e];exact .no
 ·exact .yes (k h')
noncomputable def noMu:E->Bool
 | .mu _ _=>false
 | _=>true
noncomputable def isNone:E->Bool
 | .none=>true
 | _=>false
theorem Cq {e:E} (hm:noMu e=true) (h:e.st=.none):e=.none:=by
 have h':isNone e.st=true:=by rw [h];rfl
 cases e<;>first | rfl | (cases hm;done) | exact (Bool.false_ne_true h').elim
mutual
noncomputable def E.okm:E->Bool
 | .tup es=>E.okmL es
 | .list es=>E.okmL es
 | .dict ks vs=>E.okmL ks && E.okmL vs
 | .bin _ l r=>l.okm && r.okm
 | .neg x=>x.okm
 | .not x=>x.okm
 | .and es=>E.okmL es
 | .or es=>E.okmL es
 | .cmp _ l r=>l.okm && r.okm
 | .cmp2 _ _ a b c=>a.okm && b.okm && c.okm
 | .ite c a b=>c.okm && a.okm && b.okm
 | .sub o i=>o.okm && i.okm
 | .slice o lo hi st=>o.okm && (lo.okm && noMu lo) && (hi.okm && noMu hi) && (st.okm && noMu st)
 | .call _ args=>E.okmL args
 | .sorted x f=>x.okm && f.okm
 | .meth o _ args=>o.okm && E.okmL args
 | .comp elt _ src cs=>elt.okm && src.okm && E.okmL cs
 | .mu _ e=>e.okm
 | _=>true
noncomputable def E.okmL:List E->Bool
 | []=>true
 | e::r=>e.okm && E.okmL r
end
mutual
theorem CE.of {tb:List Nat}:∀ (e:E) {sc:Nms}{pe:PySem.Expr},e.okm=true->CE tb sc pe e.st->CE tb sc pe e
 | .none,_,_,_,h=>h
 | .bool _,_,_,_,h=>h
 | .int _,_,_,_,h=>h
 | .str _,_,_,_,h=>h
 | .v _,_,_,_,h=>h
 | .g _,_,_,_,h=>h
 | .tup es,_,_,k,h=>by refine X3pp (h.inv) fun zz zz zz he98_3 h'=>?_;subst he98_3;exact .tup (CEs.of es k h')
 | .list es,_,_,k,h=>by refine X2pp (h.inv) fun zz zz he99_2 h'=>?_;subst he99_2;exact .list (CEs.of es k h')
 | .dict ks vs,_,_,k,h=>by
  refine X3ppp (h.inv) fun zz zz zz he101_3 h1 h2=>?_
  subst he101_3
  refine Ad (Bool.and_eq_true_iff.mp k) fun k1 k2=>?_
  exact .dict (CKs.of ks k1 h1) (CEs.of vs k2 h2)
 | .bin _ l r,_,_,k,h=>by
  refine X3ppp (h.inv) fun zz zz zz he105_3 h1 h2=>?_
  subst he105_3
  refine Ad (Bool.and_eq_true_iff.mp k) fun k1 k2=>?_
  exact .bin (CE.of l k1 h1) (CE.of r k2 h2)
 | .neg x,_,_,k,h=>by refine X2pp (h.inv) fun zz zz he108_2 h'=>?_;subst he108_2;exact .neg (CE.of x k h')
 | .not x,_,_,k,h=>by refine X2pp (h.inv) fun zz zz he109_2 h'=>?_;subst he109_2;exact .not (CE.of x k h')
 | .and es,_,_,k,h=>by refine X2pp (h.inv) fun zz zz he110_2 h'=>?_;subst he110_2;exact .and (CEs.of es k h')
 | .or es,_,_,k,h=>by refine X2pp (h.inv) fun zz zz he111_2 h'=>?_;subst he111_2;exact .or (CEs.of es k h')
 | .cmp _ l r,_,_,k,h=>by
  refine X3pppp (h.inv) fun zz zz zz he113_3 hn h1 h2=>?_
  subst he113_3
  refine Ad (Bool.and_eq_true_iff.mp k) fun k1 k2=>?_
  exact .cmp hn (CE.of l k1 h1) (CE.of r k2 h2)
 | .cmp2 _ _ a b c,_,_,k,h=>by
  refine X4pppppp (h.inv) fun zz zz zz zz he117_4 hn hn' h1 h2 h3=>?_
  subst he117_4
  refine Ad (Bool.and_eq_true_iff.mp k) fun k1 k3=>?_
  refine Ad (Bool.and_eq_true_iff.mp k1) fun k1 k2=>?_
  exact .cmp2 hn hn' (CE.of a k1 h1) (CE.of b k2 h2) (CE.of c k3 h3)
 | .ite c a b,_,_,k,h=>by
  refine X4pppp (h.inv) fun zz zz zz zz he122_4 h1 h2 h3=>?_
  subst he122_4
  refine Ad (Bool.and_eq_true_iff.mp k) fun k1 k3=>?_
  refine Ad (Bool.and_eq_true_iff.mp k1) fun k1 k2=>?_
  exact .ite (CE.of c k1 h1) (CE.of a k2 h2) (CE.of b k3 h3)
 | .sub l r,_,_,k,h=>by
  refine X3pppp (h.inv) fun zz zz zz he127_3 hn h1 h2=>?_
  subst he127_3
  refine Ad (Bool.and_eq_true_iff.mp k) fun k1 k2=>?_
  exact .sub hn (CE.of l k1 h1) (CE.of r k2 h2)
 | .slice o lo hi st,_,_,k,h=>by
  refine X6ppppp (h.inv) fun zz zz zz zz zz zz he131_6 h1 h2 h3 h4=>?_
  subst he131_6
  refine Ad (Bool.and_eq_true_iff.mp k) fun k1 k4=>?_
  refine Ad (Bool.and_eq_true_iff.mp k1) fun k1 k3=>?_
  refine Ad (Bool.and_eq_true_iff.mp k1) fun k1 k2=>?_
  refine Ad (Bool.and_eq_true_iff.mp k2) fun k2 n2=>?_
  refine Ad (Bool.and_eq_true_iff.mp k3) fun k3 n3=>?_
  refine Ad (Bool.and_eq_true_iff.mp k4) fun k4 n4=>?_
  exact .slice (CE.of o k1 h1) (h2.of (fun h=>CE.of lo k2 h) (Cq n2)) (h3.of (fun h=>CE.of hi k3 h) (Cq n3)) (h4.of (fun h=>CE.of st k4 h) (Cq n4))
 | .attr _ _,_,_,_,h=>h
 | .call f es,_,_,k,h=>by
  cases f with
  | g i=>refine X4pppp (h.inv) fun zz zz zz zz he142_4 hl hg h'=>?_;subst he142_4;exact .callg hl hg (CEs.of es k h')
  | _=>exact h.inv.elim
 | .sorted x f,_,_,k,h=>by
  obtain ⟨_,_,_,_,_,_,_,rfl,h1,h2,h3,h4,h5,h6⟩:=h.inv
  refine Ad (Bool.and_eq_true_iff.mp k) fun k1 k2=>?_
  exact .sorted h1 h2 h3 h4 (CE.of x k1 h5) (CE.of f k2 h6)
 | .meth o n es,_,_,k,h=>by
  obtain ⟨_,_,_,_,_,rfl,h1,h2,h3,h4,h5,h6⟩:=h.inv
  refine Ad (Bool.and_eq_true_iff.mp k) fun k1 k2=>?_
  exact .meth h1 h2 h3 (CE.of o k1 h4) h5 (CEs.of es k2 h6)
 | .comp elt i src cs,_,_,k,h=>by
  refine X6p (h.inv) fun zz zz zz zz zz zz hy153_0=>?_
  refine X1ppppppp (hy153_0) fun zz he153_7 h1 h2 h3 h4 h5 hy153_1=>?_
  refine BO (hy153_1) fun h6 h7 h8 h9=>?_
  subst he153_7
  refine Ad (Bool.and_eq_true_iff.mp k) fun k1 k3=>?_
  refine Ad (Bool.and_eq_true_iff.mp k1) fun k1 k2=>?_
  exact .comp h1 h2 h3 h4 h5 (CE.of src k2 h6) h7 (CEs.of cs k3 h8) (CE.of elt k1 h9)
 | .mu l e,_,_,k,h=>.mu (CE.of e k h)
theorem CEs.of {tb:List Nat}:∀ (es:List E) {sc:Nms}{pe:List PySem.Expr},E.okmL es=true->CEs tb sc pe (E.stL es)->CEs tb sc pe es
 | [],_,_,_,h=>h
 | e::r,_,_,k,h=>by
  refine X2pppp (CEs.inv h) fun zz zz he161_2 hn h1 h2=>?_
  subst he161_2
  refine Ad (Bool.and_eq_true_iff.mp k) fun k1 k2=>?_
  exact .cons hn (CE.of e k1 h1) (CEs.of r k2 h2)
theorem CKs.of {tb:List Nat}:∀ (es:List E) {sc:Nms}{pe:List (Option PySem.Expr)},E.okmL es=true->CKs tb sc pe (E.stL es)->CKs tb sc pe es
 | [],_,_,_,h=>h
 | e::r,_,_,k,h=>by
  refine X2ppp (CKs.inv h) fun zz zz he167_2 h1 h2=>?_
  subst he167_2
  refine Ad (Bool.and_eq_true_iff.mp k) fun k1 k2=>?_
  exact .cons (CE.of e k1 h1) (CKs.of r k2 h2)
end
mutual
noncomputable def okmS:Mine.S->Bool
 | .assign _ e=>e.okm
 | .setattr o _ e=>o.okm && e.okm
 | .setitem o i e=>o.okm && (i.okm && e.okm)
 | .expr e=>e.okm
 | .ret e=>e.okm
 | .ite c a b=>c.okm && (DC a && DC b)
 | .for_ _ e body=>e.okm && DC body
 | .while_ c body=>c.okm && DC body
 | .raise e=>e.okm
 | .try_ b c _ h=>DC b && (c.okm && DC h)
 | .pass=>true
noncomputable def DC:List Mine.S->Bool
 | []=>true
 | s::r=>okmS s && DC r
end
mutual
theorem CS.of {tb:List Nat}{sc:Nms}:∀ (s:Mine.S) {ps:PySem.Stmt},okmS s=true->CS tb sc ps (stS s)->CS tb sc ps s
 | .assign p e,_,k,h=>by refine X3ppp (h.inv) fun zz zz zz he190_3 h1 h2=>?_;subst he190_3;exact .assign h1 (CE.of e k h2)
 | .setattr o n e,_,k,h=>by
  refine X5pppp (h.inv) fun zz zz zz zz zz he192_5 h1 h2 h3=>?_
  subst he192_5
  refine Ad (Bool.and_eq_true_iff.mp k) fun k1 k2=>?_
  exact .setattr (CE.of o k1 h1) h2 (CE.of e k2 h3)
 | .setitem o i e,_,k,h=>by
  refine X5ppppp (h.inv) fun zz zz zz zz zz he196_5 h1 h2 h3 h4=>?_
  subst he196_5
  refine Ad (Bool.and_eq_true_iff.mp k) fun k1 k2=>?_
  refine Ad (Bool.and_eq_true_iff.mp k2) fun k2 k3=>?_
  exact .setitem h1 (CE.of o k1 h2) (CE.of i k2 h3) (CE.of e k3 h4)
 | .expr e,_,k,h=>by refine X2pp (h.inv) fun zz zz he200_2 h'=>?_;subst he200_2;exact .expr (CE.of e k h')
 | .ret e,_,k,h=>by refine X2pp (h.inv) fun zz zz he201_2 h'=>?_;subst he201_2;exact .ret (CE.of e k h')
 | .ite c a b,_,k,h=>by
  refine X4pppp (h.inv) fun zz zz zz zz he203_4 h1 h2 h3=>?_
  subst he203_4
  refine Ad (Bool.and_eq_true_iff.mp k) fun k1 k2=>?_
  refine Ad (Bool.and_eq_true_iff.mp k2) fun k2 k3=>?_
  exact .ite (CE.of c k1 h1) (CSs.of a k2 h2) (CSs.of b k3 h3)
 | .for_ p e body,_,k,h=>by
  refine X4ppppp (h.inv) fun zz zz zz zz he208_4 h1 h2 h3 h4=>?_
  subst he208_4
  refine Ad (Bool.and_eq_true_iff.mp k) fun k1 k2=>?_
  exact .for_ h1 h2 (CE.of e k1 h3) (CSs.of body k2 h4)
 | .while_ c body,_,k,h=>by
  refine X3ppp (h.inv) fun zz zz zz he212_3 h1 h2=>?_
  subst he212_3
  refine Ad (Bool.and_eq_true_iff.mp k) fun k1 k2=>?_
  exact .while_ (CE.of c k1 h1) (CSs.of body k2 h2)
 | .raise e,_,k,h=>by refine X2pp (h.inv) fun zz zz he215_2 h'=>?_;subst he215_2;exact .raise (CE.of e k h')
 | .try_ b c x hh,_,k,h=>by
  refine Ad (Bool.and_eq_true_iff.mp k) fun k1 k2=>?_
  refine Ad (Bool.and_eq_true_iff.mp k2) fun k2 k3=>?_
  cases x with
  | none=>refine X5pppp (h.inv) fun zz zz zz zz zz he220_5 h1 h2 h3=>?_;subst he220_5;exact .try0 (CSs.of b k1 h1) (CE.of c k2 h2) (CSs.of hh k3 h3)
  | some i=>refine X6pppppp (h.inv) fun zz zz zz zz zz zz he221_6 h1 h2 h3 h4 h5=>?_;subst he221_6;exact .try1 (CSs.of b k1 h1) (CE.of c k2 h2) h3 h4 (CSs.of hh k3 h5)
 | .pass,_,_,h=>h
theorem CSs.of {tb:List Nat}{sc:Nms}:∀ (ss:List Mine.S) {ps:List PySem.Stmt},DC ss=true->CSs tb sc ps (Fu ss)->CSs tb sc ps ss
 | [],_,_,h=>h
 | s::r,_,k,h=>by
  refine X2ppp (CSs.inv h) fun zz zz he226_2 h1 h2=>?_
  subst he226_2
  refine Ad (Bool.and_eq_true_iff.mp k) fun k1 k2=>?_
  exact .cons (CS.of s k1 h1) (CSs.of r k2 h2)
end
end Mine
end
section
namespace Mine
open PySem PyProof.Rows PySem.W
variable {prog:Program}{w:World}{S:Sta prog w}{W:Wd}
noncomputable def AV.loc?:AV->Option Addr
 | .loc a _=>some a
 | _=>Option.none
noncomputable def floor? (τ:LS):Option (((Addr×Addr)×Addr×List (Str×AV))×((Str×AV)×(Str×AV))×Addr×Addr×List (Ab×AV)):=(fields? τ 0).bind fun f=>(two? f.2.2).bind fun p=>p.2.2.loc?.bind fun e=>(slot τ 2).obj?.bind fun g=>g.2.dict?.bind fun l=>some (f,p,e,g.1,l)
noncomputable def madeW (n:Nat) (x dx:Addr) (τ:LS) (K:KR):Prop:=match floor? τ with
 | some q=>(q.1.1.1=x/\q.1.1.2=dx/\q.1.2.1=dx/\q.2.2.2.1=q.2.2.1/\q.2.1.1.1 = "texts"/\q.2.1.2.1 = "own")/\K ⟨[],.val (.inst (EA q.2.1.1.2 (.dict q.2.2.2.2)))⟩ ((τ.drop 3).take n)
 | Option.none=>False
theorem AV.loc?_out {a:AV}{x:Addr} (h:a.loc?=some x):∃ i,a=.loc x i:=by
 cases a with
 | loc y i=>cases h;exact ⟨i,rfl⟩
 | _=>exact (Ae rfl h).elim
inductive MadeV (n:Nat) (x dx:Addr) (τ:LS) (K:KR):Prop
 | mk (t:AV) (e i:_) (l:List (Ab×AV)) (z0:slot τ 0=.at x (.inst dx)) (z1:slot τ 1=.at dx (.attrs (EA t (.loc e i)))) (z2:slot τ 2=.at e (.dict l)) (h:K ⟨[],.val (.inst (EA t (.dict l)))⟩ ((τ.drop 3).take n)):MadeV n x dx τ K
theorem madeW.out {n:Nat}{x dx:Addr}{τ:LS}{K:KR} (h:madeW n x dx τ K):MadeV n x dx τ K:=by
 unfold madeW at h
 cases q:floor? τ with
 | none=>rw [q] at h;exact h.elim
 | some r =>
  rw [q] at h
  refine X1pp (Aw q) fun f h1 q=>?_
  refine X1pp (Aw q) fun p h2 q=>?_
  refine X1pp (Aw q) fun e h3 q=>?_
  refine X1pp (Aw q) fun g h4 q=>?_
  refine X1pp (Aw q) fun l h5 q=>?_
  cases q
  obtain ⟨⟨rfl,rfl,c1,c2,c3,c4⟩,h⟩:=h
  refine Ad (fields?_out h1) fun z0 z1=>?_
  dsimp only at c1 c2 c3 c4 h
  refine X1p (AV.loc?_out h3) fun i e3=>?_
  refine ⟨p.1.2,e,i,l,z0,?_,?_,h⟩
  ·rw [z1,c1,D5 h2 c3 c4,e3]
  ·rw [obj?_out h4,c2,AObj.dict?_out h5]
noncomputable def makeW (Φ:Tab) (c:Ag) (nv ns:Nat) (avs:List AV) (σ:LS) (K:KR) (X:XL):Prop :=
 avs.length+1=c.n/\∀ x dx,wpSs Φ c.body (fun e τ=>X e ((τ.drop 3).take σ.length)) (some (.loc x 0)::avs.map some++List.replicate nv Option.none) (.at x (.inst dx)::.at dx (.attrs [])::.no::σ++List.replicate ns .no) (fun fl zz τ=>flV fl=.none/\madeW σ.length x dx τ K)
inductive Made (n:Nat) (x dx:Addr) (K:KR) (v:AV) (s:Store):Prop
 | mk (τ:LS) (e:v=.none) (o:okS τ) (hs:Sub τ s) (h:madeW n x dx τ K):Made n x dx K v s
theorem Jp {Φ:Tab}{k:Nat}{fa:Addr}{c:Ag}{nv ns:Nat}{avs:List AV}{σ:LS}{K:KR}{X:XL}{x dx:Addr} (T:TabOk S W k Φ) (hf:IsFn S fa c) (o:okS (.at x (.inst dx)::.at dx (.attrs [])::.no::σ)) (h:makeW Φ c nv ns avs σ K X) :
  CallT S (k+1) (.ref fa) (.loc x 0::avs) (Ak (.at x (.inst dx)::.at dx (.attrs [])::.no::σ)) (Made σ.length x dx K) (Up fun e τ=>X e ((τ.drop 3).take σ.length)):=by
 refine CallT.body hf h.1 fun F hk ht Y y1 y2=>?_
 have:=BP T c.body _ F (Nat.le_of_eq hk.symm) Y ⟨y1,y2⟩ _ _ _ (C6 (n:=ns) o) (h.2 x dx)
 rw [Ck,show (some (AV.loc x 0)::avs.map some++List.replicate nv Option.none)=(AV.loc x 0::avs).map some++List.replicate nv Option.none from rfl,vr_pad,Ia] at this
 refine SsT.mono this fun fl m s z=>?_
 obtain ⟨m1,τ,em,hs,ok,e,z⟩:=z
 refine fun N=>⟨flV fl,s,?_,τ,e,ok,hs,z⟩
 show View S N (flV fl) s (flV fl) s
 exact View.same
theorem Is {σ:LS}{n p:Nat}:slot (σ.drop n) p=slot σ (n+p):=by
 unfold slot
 rw [List.getD_eq_getElem?_getD,List.getD_eq_getElem?_getD,List.getElem?_drop]
set_option tactic.hygienic true in
theorem Snd.make {Φ:Tab}{k:Nat}{fI:Addr}{c:Ag}{nv ns:Nat}{f:FS} (T:TabOk S W k Φ) (hi:findIn S.K (.ref W.C) "__init__"=some (some (.ref fI))) (ht:isFn S.K (.ref fI)=true) (hf:IsFn S fI c) (hp:∀ avs,f.pure avs=Option.none) (hw:f.whole=false)
  (h:∀ avs σ K X,f.spec (A3 avs 0) σ K X->makeW Φ c nv ns (A3 avs 3) σ K X):Snd S (k+2) (.ref W.C) f:=by
 intro F hk m mu avs σ K X o q
 unfold ownW at q
 rw [hp,hw] at q
 dsimp only at q
 split at q
 ·rename_i hn
  have n:=C8 hn
  refine Ad (IM (ix:=AF avs) o n) fun kp hps=>?_
  have q:=h _ _ _ _ q
  refine CT.make (k:=k+1) T.good.floor hi ht hk fun x dx nx ndx hne=>?_
  have zx:∀ {i a p},slot σ i=.at a p->a≠x/\a≠dx:=fun z=>⟨fun e=>nx (e▸A5 (An o z)),fun e=>ndx (e▸A5 (An o z))⟩
  have nL:∀ {a p},Ak ((AF avs).map (slot σ)) a=some p->a≠x/\a≠dx:=fun e=>by
   refine X1p (AN e) fun p z=>?_
   refine X1pp (Bl z) fun i zz z=>?_
   exact zx z
  have nn:∀ {a},(a=x\/a=dx)->Ak ((AF avs).map (slot σ)) a=Option.none:=fun {a} e=>by
   cases z:Ak ((AF avs).map (slot σ)) a with
   | none=>rfl
   | some p=>exact (e.elim (nL z).1 (nL z).2).elim
  have oI:okS (.at x (.inst dx)::.at dx (.attrs [])::.no::(AF avs).map (slot σ)):=by
   refine ⟨?_,nn (.inr rfl),kp⟩
   show (if x=dx then _ else Ak ((AF avs).map (slot σ)) x)=_
   rw [if_neg hne];exact nn (.inl rfl)
  have sI:∀ a p,Ak (.at x (.inst dx)::.at dx (.attrs [])::.no::(AF avs).map (slot σ)) a=some p->((Ak σ).set dx (.attrs [])).set x (.inst dx) a=some p:=fun a p e=>by
   have e:(if a=x then some (AObj.inst dx) else if a=dx then some (AObj.attrs []) else Ak ((AF avs).map (slot σ)) a)=some p:=e
   by_cases z:a=x
   ·rw [if_pos z] at e;rw [z,Store.set_self];exact e
   ·rw [if_neg z] at e
    rw [Store.set_ne _ _ z]
    by_cases z':a=dx
    ·rw [if_pos z'] at e;rw [z',Store.set_self];exact e
    ·rw [if_neg z'] at e
     rw [Store.set_ne _ _ z']
     exact hps _ _ e
  have lab:∀ {l:List AV}{Q:AV->Store->Prop}{Y:KX}{s:Store},CallT S (k+1) (.ref fI) (.loc x 0::A3 l 3) s Q Y->CallT S (k+1) (.ref fI) (.loc x 0::l) s Q Y:=fun {l Q Y s} h N A vals u room hi rl=>h N A vals u room hi (by
   refine X2ppp (rl.inv) fun v r he97_2 r1 r2=>?_
   subst he97_2
   exact .cons r1 (B0 r2))
  have hdel:∀ {τ:LS}{t s:Store}{as:List Addr},okS τ->Sub τ t->(∀ a p,t a=some p->s a=some p)->(∀ a p,((Ak σ).set dx (.attrs [])).set x (.inst dx) a=some p->Ak (.at x (.inst dx)::.at dx (.attrs [])::.no::(AF avs).map (slot σ)) a=Option.none->s a=some p)->(∀ a,Dom t a->Dom (Ak (.at x (.inst dx)::.at dx (.attrs [])::.no::(AF avs).map (slot σ))) a\/((Ak σ).set dx (.attrs [])).set x (.inst dx) a=Option.none) ->
    (∀ a∈as,∃ j p,j<3/\slot τ j=.at a p)->okS (wb σ (AF avs) ((τ.drop 3).take ((AF avs).map (slot σ)).length))/\Sub (wb σ (AF avs) ((τ.drop 3).take ((AF avs).map (slot σ)).length)) (s.dels as):=fun {τ t s as} kt ht s1 s2 nw has=>by
   have zt:∀ {p a q},slot ((τ.drop 3).take ((AF avs).map (slot σ)).length) p=.at a q->slot τ (3+p)=.at a q:=fun z=>by
    have:=(Bg z).2;rw [Is] at this;exact this
   have kt':okS ((τ.drop 3).take ((AF avs).map (slot σ)).length):=DJ fun i j a p q h1 h2=>by
    have:=AQ kt (zt h1) (zt h2);exact Nat.le_antisymm (lin [i,j] [] (.nle 1 V0 V1) [.neq 1 (.add K3 V0) (.add K3 V1)] rfl this) (lin [i,j] [] (.nle 1 V1 V0) [.neq (-1) (.add K3 V0) (.add K3 V1)] rfl this)
   have dom1:∀ {a p q},slot τ (3+p)=.at a q->Dom (Ak ((AF avs).map (slot σ))) a\/Ak σ a=Option.none:=fun {a p q} z=>by
    have dt:Dom t a:=A5 (ht.at kt z)
    by_cases zx':a=x
    ·exact .inr (by rw [zx'];exact Cp nx)
    by_cases zd:a=dx
    ·exact .inr (by rw [zd];exact Cp ndx)
    rcases nw a dt with w1 | w1
    ·left
     refine X1p (BM w1) fun p' e=>?_
     have e:(if a=x then some (AObj.inst dx) else if a=dx then some (AObj.attrs []) else Ak ((AF avs).map (slot σ)) a)=some p':=e
     rw [if_neg zx',if_neg zd] at e
     exact A5 e
    ·rw [Store.set_ne _ _ zx',Store.set_ne _ _ zd] at w1;exact .inr w1
   refine wb_ok o n kt' (fun a p e=>?_) (fun a p e e'=>?_) fun a d=>?_
   ·refine X1p (AN e) fun i z=>?_
    have z:=zt z
    unfold Store.dels
    rw [if_neg]
    ·exact s1 _ _ (ht.at kt z)
    ·intro q
     refine X2pp (has a q) fun j p' hj z'=>?_
     have:=AQ kt z z';exact lin [j,i] [] .no [.nlt 1 V0 K3,.neq 1 (.add K3 V1) V0] rfl hj this
   ·have za:a≠x/\a≠dx:=by refine X1p (AN e) fun i z=>?_;exact zx z
    unfold Store.dels
    rw [if_neg]
    ·refine s2 a p (by rw [Store.set_ne _ _ za.1,Store.set_ne _ _ za.2];exact e) ?_
     show (if a=x then _ else if a=dx then _ else Ak ((AF avs).map (slot σ)) a)=_
     rw [if_neg za.1,if_neg za.2];exact e'
    ·intro q
     refine X2pp (has a q) fun j p' hj z'=>?_
     have dt:Dom t a:=A5 (ht.at kt z')
     rcases nw a dt with w1 | w1
     ·refine X1p (BM w1) fun p2 e2=>?_
      have e2:(if a=x then some (AObj.inst dx) else if a=dx then some (AObj.attrs []) else Ak ((AF avs).map (slot σ)) a)=some p2:=e2
      rw [if_neg za.1,if_neg za.2,e'] at e2;cases e2
     ·rw [Store.set_ne _ _ za.1,Store.set_ne _ _ za.2,e] at w1;cases w1
   ·refine X1p (BM d) fun p e=>?_
    refine X1p (AN e) fun i z=>?_
    exact dom1 (zt z)
  refine CallT.mono (CallT.frame sI (lab (Jp T hf oI q))) (fun v s z=>?_) fun c s z=>?_
  ·obtain ⟨t,⟨τ,e,kt,ht,z⟩,s1,s2,nw⟩:=z
   refine ⟨e,fun N=>?_⟩
   obtain ⟨tx,f',i',l,z0,z1,z2,z⟩:=z.out
   ···refine ⟨_,_,View.inst (fs':=EA tx (.dict l)) (as:=[f']) (s1 _ _ (ht.at kt z0)) (s1 _ _ (ht.at kt z1)) (FrozeF.cons (as:=[]) (.same _) (FrozeF.cons (as:=[f']) (bs:=[]) (.dict (s1 _ _ (ht.at kt z2))) .nil)),?_⟩
      obtain ⟨k1,h1⟩:=hdel (as:=[x,dx,f']) kt ht s1 s2 nw (fun a ha=>by
       rcases List.mem_cons.mp ha with rfl | ha
       ·exact ⟨0,_,by decide,z0⟩
       ·rcases List.mem_cons.mp ha with rfl | ha
        ·exact ⟨1,_,by decide,z1⟩
        ·have:=List.mem_singleton.mp ha;subst this;exact ⟨2,_,by decide,z2⟩)
      cases mu with
      | none=>exact ⟨_,h1,k1,z⟩
      | some i=>exact ⟨_,h1,k1,z⟩
  ·obtain ⟨t,⟨τ,ht,kt,z⟩,s1,s2,nw⟩:=z
   obtain ⟨k1,h1⟩:=hdel (as:=[]) kt ht s1 s2 nw (fun a ha=>by cases ha)
   exact ⟨_,fun a p e=>(B8 (h1 a p e)).2,k1,z⟩
 ·exact q.elim
end Mine
end
section
namespace Mine
noncomputable abbrev Sp:=Int×Int
noncomputable def AY (k:Sp):List Sp:=[(k.1,k.2 - 1),(k.1 - 1,k.2),(k.1+1,k.2),(k.1,k.2+1)]
noncomputable def IZ (k:Sp):List Sp:=[(k.1+1,k.2),(k.1 - 1,k.2),(k.1,k.2+1),(k.1,k.2 - 1)]
theorem nearR_mem {k c:Sp}:c∈IZ k↔c∈AY k:=by
 simp only [IZ,AY,List.mem_cons,List.not_mem_nil,or_false]
 constructor<;>rintro (h | h | h | h)<;>simp [h]
inductive Reach (P:List Sp) (a:Sp):Sp->Prop
 | refl:Reach P a a
 | step {b c:Sp}:Reach P a b->c∈AY b->c∈P->Reach P a c
noncomputable def Comp (P:List Sp) (a:Sp) (fs:List Sp):Prop:=fs.Nodup/\∀ k,k∈fs↔Reach P a k
theorem sub_length:∀ {l k:List Sp},l.Nodup->(∀ x∈l,x∈k)->l.length<=k.length
 | [],_,_,_=>Nat.zero_le _
 | x::l,k,nd,h=>by
  rw [List.nodup_cons] at nd
  have hx:x∈k:=h x (.head _)
  have ih:=sub_length (k:=k.erase x) nd.2 fun y hy=>(List.mem_erase_of_ne (fun (e:y=x)=>nd.1 (by rw [<- e];exact hy))).mpr (h y (.tail _ hy))
  rw [List.length_erase_of_mem hx] at ih
  have:0<k.length:=List.length_pos_of_mem hx
  simp only [List.length_cons];exact lin [(l.length),(k.length - 1),(k.length)] [] (.nle 1 (.add V0 K1) V2) [.nle 1 V0 V1,.neq 1 (.add V1 K1) V2] rfl ih (Nat.sub_add_cancel (lin [(k.length)] [] (.nle 1 K1 V0) [.nlt 1 K0 V0] rfl this))
theorem same_length {l k:List Sp} (hl:l.Nodup) (hk:k.Nodup) (h:∀ x,x∈l↔x∈k):l.length=k.length :=
 Nat.le_antisymm (sub_length hl fun x hx=>(h x).mp hx) (sub_length hk fun x hx=>(h x).mpr hx)
theorem Reach.mem {P:List Sp}{a k:Sp} (h:Reach P a k):k=a\/k∈P:=by
 cases h with
 | refl=>exact .inl rfl
 | step _ _ h=>exact .inr h
structure Dfs (P:List Sp) (a:Sp) (fs ws:List Sp):Prop where
 nd:fs.Nodup
 ha:a∈fs
 rc:∀ k∈fs,Reach P a k
 wf:∀ k∈ws,k∈fs
 cl:∀ k∈fs,k∉ws->∀ c∈AY k,c∈P->c∈fs
structure DfsAt (P:List Sp) (a:Sp) (fs ws:List Sp) (e:Sp) (r:List Sp):Prop where
 nd:fs.Nodup
 ha:a∈fs
 rc:∀ k∈fs,Reach P a k
 wf:∀ k∈ws,k∈fs
 he:e∈fs
 hr:∀ c∈r,c∈AY e
 cl:∀ k∈fs,k∉ws->∀ c∈AY k,c∈P->c∈fs\/(k=e/\c∈r)
noncomputable def JN (P fs ws:List Sp):Nat:=2 * (P.length+1 - fs.length)+ws.length
theorem Dfs.start (P:List Sp) (a:Sp):Dfs P a [a] [a] :=
 ⟨by simp,by simp,fun k h=>by simp at h;subst h;exact .refl,fun k h=>h,fun k h n=>absurd h n⟩
theorem Dfs.pop {P:List Sp}{a e:Sp}{fs ws:List Sp} (h:Dfs P a fs (ws++[e])):DfsAt P a fs ws e (AY e) :=
 ⟨h.nd,h.ha,h.rc,fun k hk=>h.wf k (by simp [hk]),h.wf e (by simp),fun zz h=>h,fun k hk hn c hc hp=>by
  by_cases q:k=e
  ·subst q;exact .inr ⟨rfl,hc⟩
  ·exact .inl (h.cl k hk (by simp [hn,q]) c hc hp)⟩
theorem DfsAt.done {P:List Sp}{a e:Sp}{fs ws:List Sp} (h:DfsAt P a fs ws e []):Dfs P a fs ws :=
 ⟨h.nd,h.ha,h.rc,h.wf,fun k hk hn c hc hp=>(h.cl k hk hn c hc hp).elim id fun q=>absurd q.2 (by simp)⟩
theorem DfsAt.skip {P:List Sp}{a e c:Sp}{fs ws r:List Sp} (h:DfsAt P a fs ws e (c::r)) (hc:¬ (c∈P/\c∉fs)):DfsAt P a fs ws e r :=
 ⟨h.nd,h.ha,h.rc,h.wf,h.he,fun d hd=>h.hr d (.tail _ hd),fun k hk hn d hd hp=>by
  rcases h.cl k hk hn d hd hp with q | ⟨q,q'⟩
  ·exact .inl q
  ·rcases List.mem_cons.mp q' with rfl | q'
   ·exact .inl (Classical.byContradiction fun z=>hc ⟨hp,z⟩)
   ·exact .inr ⟨q,q'⟩⟩
theorem DfsAt.push {P:List Sp}{a e c:Sp}{fs ws r:List Sp} (h:DfsAt P a fs ws e (c::r)) (hc:c∈P) (hn:c∉fs):DfsAt P a (fs++[c]) (ws++[c]) e r:=by
 refine ⟨?_,by simp [h.ha],fun k hk=>?_,fun k hk=>?_,by simp [h.he],fun d hd=>h.hr d (.tail _ hd),fun k hk hw d hd hp=>?_⟩
 ·rw [List.nodup_append]
  exact ⟨h.nd,by simp,fun x hx y hy=>by simp at hy;subst hy;exact fun z=>hn (z▸hx)⟩
 ·rcases List.mem_append.mp hk with q | q
  ·exact h.rc k q
  ·simp at q;subst q;exact .step (h.rc e h.he) (h.hr k (.head _)) hc
 ·rcases List.mem_append.mp hk with q | q
  ·exact List.mem_append.mpr (.inl (h.wf k q))
  ·exact List.mem_append.mpr (.inr q)
 ·rcases List.mem_append.mp hk with q | q
  ·rcases h.cl k q (fun z=>hw (List.mem_append.mpr (.inl z))) d hd hp with z | ⟨z,z'⟩
   ·exact .inl (List.mem_append.mpr (.inl z))
   ·rcases List.mem_cons.mp z' with rfl | z'
    ·exact .inl (by simp)
    ·exact .inr ⟨z,z'⟩
  ·exact absurd (List.mem_append.mpr (.inr q)) hw
theorem Ix {P:List Sp}{a:Sp}{fs:List Sp} (nd:fs.Nodup) (rc:∀ k∈fs,Reach P a k):fs.length<=P.length+1 :=
 sub_length (k:=a::P) nd fun k hk=>by rcases (rc k hk).mem with q | q<;>simp [q]
theorem JM {P:List Sp}{a e c:Sp}{fs ws r:List Sp} (h:DfsAt P a fs ws e (c::r)) (hc:c∈P) (hn:c∉fs):JN P (fs++[c]) (ws++[c])<=JN P fs ws:=by
 have:=Ix (h.push hc hn).nd (h.push hc hn).rc
 unfold JN
 simp only [List.length_append,List.length_cons,List.length_nil] at this ⊢
 exact lin [(P.length),(fs.length),(P.length+1 - fs.length),(P.length+1 - (fs.length+(0+1))),(ws.length)] [] (.nle 1 (.add (.mul 2 V3) (.add V4 (.add K0 K1))) (.add (.mul 2 V2) V4)) [.nle 2 (.add V0 K1) (.add V1 V2),.neq 2 (.add V3 (.add V1 (.add K0 K1))) (.add V0 K1)] rfl (Nat.sub_le_iff_le_add'.mp (Nat.le_refl ((P.length+1) - (fs.length)))) (Nat.sub_add_cancel (this))
theorem Dfs.end_ {P:List Sp}{a:Sp}{fs:List Sp} (h:Dfs P a fs []):Comp P a fs :=
 ⟨h.nd,fun k=>⟨h.rc k,fun r=>by
  induction r with
  | refl=>exact h.ha
  | step _ hn hp ih=>exact h.cl _ ih (by simp) _ hn hp⟩⟩
inductive Near (x y:Int):Sp->Prop
 | u:Near x y (x,y - 1)
 | l:Near x y (x - 1,y)
 | r:Near x y (x+1,y)
 | d:Near x y (x,y+1)
theorem Ec {x y:Int}{b:Sp} (h:b∈AY (x,y)):Near x y b:=by
 cases h with
 | head=>exact .u
 | tail _ h =>
  cases h with
  | head=>exact .l
  | tail _ h =>
   cases h with
   | head=>exact .r
   | tail _ h =>
    cases h with
    | head=>exact .d
    | tail _ h=>cases h
theorem Bd {x y:Int}{b:Sp} (h:Near x y b):b∈AY (x,y):=by
 cases h with
 | u=>exact .head _
 | l=>exact .tail _ (.head _)
 | r=>exact .tail _ (.tail _ (.head _))
 | d=>exact .tail _ (.tail _ (.tail _ (.head _)))
theorem EN {a b:Sp} (h:b∈AY a):a∈AY b:=by
 cases Ec h with
 | u=>refine Bd ?_;have:=Near.d (x:=a.1) (y:=a.2 - 1);rwa [Int.sub_add_cancel] at this
 | l=>refine Bd ?_;have:=Near.r (x:=a.1 - 1) (y:=a.2);rwa [Int.sub_add_cancel] at this
 | r=>refine Bd ?_;have:=Near.l (x:=a.1+1) (y:=a.2);rwa [Int.add_sub_cancel] at this
 | d=>refine Bd ?_;have:=Near.u (x:=a.1) (y:=a.2+1);rwa [Int.add_sub_cancel] at this
end Mine
end
section
namespace Mine
noncomputable abbrev PD:=List (Sp×Sp)
noncomputable def As (l:PD) (k:Sp):Option Sp:=(l.find? fun p=>decide (p.1=k)).map (·.2)
noncomputable def CL (l:PD) (k x:Sp):PD:=if (As l k).isSome then l.map (fun p=>if p.1=k then (k,x) else p) else l++[(k,x)]
theorem Av {a b j:Sp}{l:PD}:As ((a,b)::l) j=if a=j then some b else As l j:=by
 unfold As
 by_cases h:a=j
 ·rw [if_pos h,List.find?_cons_of_pos (p:=fun p:Sp×Sp=>decide (p.1=j)) (decide_eq_true h)];rfl
 ·rw [if_neg h,List.find?_cons_of_neg (p:=fun p:Sp×Sp=>decide (p.1=j)) (fun z=>h (of_decide_eq_true z))]
theorem Gv {k x j:Sp}:∀ {l:PD},(As l k).isSome=true->As (l.map fun p=>if p.1=k then (k,x) else p) j=if j=k then some x else As l j
 | [],h=>by cases h
 | (a,b)::l,h=>by
  rw [Av] at h
  show As ((if a=k then (k,x) else (a,b))::l.map _) j=_
  by_cases e:a=k
  ·subst e
   rw [if_pos rfl,Av]
   by_cases q:j=a
   ·rw [if_pos q,if_pos q.symm]
   ·rw [if_neg q,if_neg fun z=>q z.symm,Av,if_neg fun z=>q z.symm]
    have other:∀ l:PD,As (l.map fun p=>if p.1=a then (a,x) else p) j=As l j:=fun l=>by
     induction l with
     | nil=>rfl
     | cons p l ih =>
      obtain ⟨c,d⟩:=p
      show As ((if c=a then (a,x) else (c,d))::l.map _) j=_
      rw [Av]
      by_cases z:c=a
      ·rw [if_pos z,Av,if_neg fun y=>q y.symm,if_neg fun y=>q (y.symm.trans z),ih]
      ·rw [if_neg z,Av,ih]
    exact other l
  ·rw [if_neg e] at h
   rw [if_neg e,Av,Gv h,Av]
   by_cases q:a=j
   ·rw [if_pos q,if_pos q,if_neg fun z=>e (q.trans z)]
   ·rw [if_neg q,if_neg q]
theorem C3 {k x j:Sp}:∀ {l:PD},(As l k).isSome=false->As (l++[(k,x)]) j=if j=k then some x else As l j
 | [],h=>by
  show As [(k,x)] j=_
  rw [Av]
  by_cases q:j=k
  ·rw [if_pos q,if_pos q.symm]
  ·rw [if_neg q,if_neg fun z=>q z.symm]
 | (a,b)::l,h=>by
  rw [Av] at h
  show As ((a,b)::(l++[(k,x)])) j=_
  by_cases e:a=k
  ·rw [if_pos e] at h;cases h
  ·rw [if_neg e] at h
   rw [Av,C3 h,Av]
   by_cases q:a=j
   ·rw [if_pos q,if_pos q,if_neg fun z=>e (q.trans z)]
   ·rw [if_neg q,if_neg q]
theorem EK (l:PD) (k x j:Sp):As (CL l k x) j=if j=k then some x else As l j:=by
 unfold CL
 by_cases h:(As l k).isSome=true
 ·rw [if_pos h];exact Gv h
 ·rw [if_neg h];exact C3 (Bool.eq_false_iff.mpr h)
theorem Ea (l:PD) (k x:Sp):As (CL l k x) k=some x:=(EK l k x k).trans (if_pos rfl)
theorem FA {l:PD}{k x j:Sp} (h:j≠k):As (CL l k x) j=As l j:=(EK l k x j).trans (if_neg h)
noncomputable def BE (s:List Sp) (k:Sp):List Sp:=if k∈s then s else s++[k]
theorem insS_mem {s:List Sp}{k x:Sp}:x∈BE s k↔x∈s\/x=k:=by
 unfold BE
 by_cases h:k∈s
 ·rw [if_pos h];exact ⟨.inl,fun q=>q.elim id fun e=>e▸h⟩
 ·rw [if_neg h,List.mem_append,List.mem_singleton]
noncomputable def mu:List Sp->List Sp->Nat
 | [],_=>0
 | a::P,s=>if a∈s then mu P s else mu P s+1
theorem EP:∀ P s,mu P s<=P.length
 | [],_=>Nat.le_refl _
 | a::P,s=>by
  unfold mu
  by_cases q:a∈s
  ·rw [if_pos q];exact Nat.le_succ_of_le (EP P s)
  ·rw [if_neg q];exact Nat.succ_le_succ (EP P s)
theorem HJ {s t:List Sp} (h:∀ x∈s,x∈t):∀ P,mu P t<=mu P s
 | []=>Nat.le_refl _
 | a::P=>by
  unfold mu
  have ih:=HJ h P
  by_cases q:a∈t
  ·rw [if_pos q]
   by_cases z:a∈s
   ·rw [if_pos z];exact ih
   ·rw [if_neg z];exact Nat.le_succ_of_le ih
  ·rw [if_neg q,if_neg fun z=>q (h a z)];exact Nat.succ_le_succ ih
theorem mu_lt {s:List Sp}{o:Sp} (h:o∉s):∀ {P:List Sp},o∈P->mu P (BE s o)<mu P s
 | a::P,hP=>by
  unfold mu
  by_cases q:a=o
  ·subst q
   rw [if_pos (insS_mem.mpr (.inr rfl)),if_neg h]
   exact Nat.lt_succ_of_le (HJ (fun x hx=>insS_mem.mpr (.inl hx)) P)
  ·have ih:=mu_lt h ((List.mem_cons.mp hP).resolve_left fun z=>q z.symm)
   by_cases z:a∈s
   ·rw [if_pos (insS_mem.mpr (.inl z)),if_pos z];exact ih
   ·rw [if_neg fun y=>(insS_mem.mp y).elim z q,if_neg z];exact Nat.succ_lt_succ ih
noncomputable def DO (f:PD->List Sp->Sp->Bool×PD×List Sp) (c:Sp):List Sp->PD->List Sp->Bool×PD×List Sp
 | [],p,s=>(false,p,s)
 | o::r,p,s=>if o∈s then DO f c r p s else match As p o with
  | none=>(true,CL (CL p c o) o c,BE s o)
  | some q=>match f p (BE s o) q with
   | (true,p',s')=>(true,CL (CL p' c o) o c,s')
   | (false,p',s')=>DO f c r p' s'
noncomputable def led (nb:Sp->List Sp):Nat->PD->List Sp->Sp->Bool×PD×List Sp
 | 0,p,s,_=>(false,p,s)
 | n+1,p,s,c=>DO (led nb n) c (nb c) p (BE s c)
theorem Dd {f:PD->List Sp->Sp->Bool×PD×List Sp}{c o:Sp}{r:List Sp}{p:PD}{s:List Sp} (h:o∈s):DO f c (o::r) p s=DO f c r p s:=if_pos h
theorem Df {f:PD->List Sp->Sp->Bool×PD×List Sp}{c o:Sp}{r:List Sp}{p:PD}{s:List Sp} (h:o∉s) (e:As p o=none):DO f c (o::r) p s=(true,CL (CL p c o) o c,BE s o):=by
 unfold DO;rw [if_neg h,e]
theorem Ei {f:PD->List Sp->Sp->Bool×PD×List Sp}{c o q:Sp}{r:List Sp}{p:PD}{s:List Sp} (h:o∉s) (e:As p o=some q) (w:(f p (BE s o) q).1=true):DO f c (o::r) p s=(true,CL (CL (f p (BE s o) q).2.1 c o) o c,(f p (BE s o) q).2.2):=by
 unfold DO;rw [if_neg h,e]
 dsimp only
 generalize f p (BE s o) q=z at *
 obtain ⟨b,p',s'⟩:=z
 have w:b=true:=w
 subst w;rfl
theorem De {f:PD->List Sp->Sp->Bool×PD×List Sp}{c o q:Sp}{r:List Sp}{p:PD}{s:List Sp} (h:o∉s) (e:As p o=some q) (w:(f p (BE s o) q).1=false):DO f c (o::r) p s=DO f c r (f p (BE s o) q).2.1 (f p (BE s o) q).2.2:=by
 rw [DO,if_neg h,e]
 dsimp only
 generalize f p (BE s o) q=z at *
 obtain ⟨b,p',s'⟩:=z
 have w:b=false:=w
 subst w;rfl
section
variable (nb:Sp->List Sp) (col:Sp->Bool)
structure Nb:Prop where
 sym:∀ a b,b∈nb a->a∈nb b
 alt:∀ a b,b∈nb a->col b=!(col a)
noncomputable def Mat (p:PD):Prop:=∀ x y,As p x=some y->y∈nb x/\As p y=some x
structure Fail (p:PD) (s:List Sp) (c:Sp) (L:List Sp) (p':PD) (s':List Sp):Prop where
 same:p'=p
 sub:∀ x∈s,x∈s'
 all:∀ x∈L,x∈s'
 here:c∈s->c∈s'
 cl:∀ x∈s',x∉s->col x=col c->∀ y∈nb x,y∈s'
 ma:∀ y∈s',y∉s->col y=!(col c)->∃ q,As p y=some q/\q∈s'
structure Won (p:PD) (s:List Sp) (c:Sp) (p':PD):Prop where
 sy:∀ x y,As p x≠some c->As p' x=some y->y∈nb x/\As p' y=some x/\As p y≠some c
 at_:(As p' c).isSome=true
 old:∀ z∈s,col z=!(col c)->As p' z=As p z
 few:∀ x,col x=col c->x=c\/As p' x=As p x\/∃ z,z∉s/\As p z=some x
 dom:∀ x,(As p x).isSome=true->(As p' x).isSome=true
variable {nb col}
theorem Nb.ne (N:Nb nb col) {a b:Sp} (h:b∈nb a):b≠a:=fun e=>by
 have:=N.alt a b h
 rw [e] at this
 cases q:col a<;>rw [q] at this<;>cases this
theorem Won.put (N:Nb nb col) {p p1:PD}{s:List Sp}{c o:Sp} (M:Mat nb p) (pre:∀ z,As p z=some c->z∈s) (ho:o∈nb c) (os:o∉s)
  (sy:∀ x y,x≠o->As p1 x=some y->y∈nb x/\As p1 y=some x/\y≠o) (old:∀ z∈s,col z=!(col c)->As p1 z=As p z)
  (cc:As p1 c=As p c) (few:∀ x,col x=col c->As p1 x=As p x\/∃ z,z∉s/\As p z=some x) (dom:∀ x,(As p x).isSome=true->(As p1 x).isSome=true):Won nb col p s c (CL (CL p1 c o) o c):=by
 have oc:o≠c:=N.ne ho
 have co:As (CL (CL p1 c o) o c) c=some o:=(FA oc.symm).trans (Ea _ _ _)
 have po:As p o≠some c:=fun e=>os (pre o e)
 have el:∀ x,x≠o->x≠c->As (CL (CL p1 c o) o c) x=As p1 x:=fun x h1 h2=>(FA h1).trans (FA h2)
 have dd:∀ {a b:Sp},b∈nb a->col a=col c->col b=!(col c):=fun {a b} h e=>by rw [N.alt a b h,e]
 refine ⟨fun x y hx e=>?_,by rw [co];rfl,fun z hz e=>?_,fun x e=>?_,fun x h=>?_⟩
 ·by_cases h1:x=o
  ·subst h1
   rw [Ea] at e;cases e
   exact ⟨N.sym _ _ ho,co,fun q=>N.ne (M _ _ q).1 rfl⟩
  ·by_cases h2:x=c
   ·subst h2
    rw [co] at e;cases e
    exact ⟨ho,Ea _ _ _,po⟩
   ·rw [el x h1 h2] at e
    refine AU (sy x y h1 e) fun a b d=>?_
    have yc:y≠c:=fun q=>by
     subst q
     rw [cc] at b
     exact hx (M _ _ b).2
    refine ⟨a,by rw [el y d yc];exact b,fun q=>?_⟩
    have ys:=pre y q
    have:col y=!(col c):=dd ((N.sym _ _ (M _ _ q).1)) rfl
    rw [old y ys this,q] at b
    cases b;exact h2 rfl
 ·have zo:z≠o:=fun q=>os (q▸hz)
  have zc:z≠c:=fun q=>by rw [q] at e;cases w:col c<;>rw [w] at e<;>cases e
  rw [el z zo zc];exact old z hz e
 ·by_cases h2:x=c
  ·exact .inl h2
  ·refine .inr ?_
   have h1:x≠o:=fun q=>by
    have:=N.alt _ _ ho
    rw [<- q,e] at this
    cases w:col c<;>rw [w] at this<;>cases this
   rw [el x h1 h2];exact few x e
 ·by_cases h1:x=o
  ·rw [h1,Ea];rfl
  ·by_cases h2:x=c
   ·rw [h2,co];rfl
   ·rw [el x h1 h2];exact dom x h
theorem mate {p:PD}{o q z:Sp} (M:Mat nb p) (e:As p o=some q) (hz:As p z=some q):z=o:=by
 have:=(M z q hz).2
 rw [(M o q e).2] at this
 exact (Option.some.inj this).symm
theorem J2 {a:Bool} (h:a=!a):False:=by cases a<;>cases h
theorem Won.on (N:Nb nb col) {p p1:PD}{s:List Sp}{c o q:Sp} (M:Mat nb p) (pre:∀ z,As p z=some c->z∈s) (ho:o∈nb c) (os:o∉s) (e:As p o=some q) (cq:col q=col c) (w:Won nb col p (BE s o) q p1):Won nb col p s c (CL (CL p1 c o) o c):=by
 have cc:As p1 c=As p c:=by
  rcases w.few c cq.symm with z | z | ⟨z,z1,z2⟩
  ·exact (os (pre o (z▸e))).elim
  ·exact z
  ·exact (z1 (insS_mem.mpr (.inl (pre z z2)))).elim
 refine Won.put N M pre ho os (fun x y hx e'=>?_) (fun z hz hc=>w.old z (insS_mem.mpr (.inl hz)) (by rw [hc,cq])) cc (fun x hx=>?_) w.dom
 ·refine AU (w.sy x y (fun z=>hx (mate M e z)) e') fun a b d=>?_
  exact ⟨a,b,fun z=>d (z▸e)⟩
 ·rcases w.few x (by rw [hx,cq]) with z | z | ⟨z,z1,z2⟩
  ·exact .inr ⟨o,os,z▸e⟩
  ·exact .inl z
  ·exact .inr ⟨z,fun h=>z1 (insS_mem.mpr (.inl h)),z2⟩
theorem Won.less {p p1:PD}{s s1:List Sp}{c:Sp} (ss:∀ x∈s,x∈s1) (z:Won nb col p s1 c p1):Won nb col p s c p1 :=
 ⟨z.sy,z.at_,fun x hx=>z.old x (ss x hx),fun x hx=>(z.few x hx).imp id fun y=>y.imp id fun ⟨v,v1,v2⟩=>⟨v,fun u=>v1 (ss v u),v2⟩,z.dom⟩
theorem Fail.on (N:Nb nb col) {p p':PD}{s s1 s':List Sp}{c o q:Sp}{L Q:List Sp} (ho:o∈nb c) (e:As p o=some q) (cq:col q=col c) (w:Fail nb col p (BE s o) q Q p s1) (wq:q∈s1) (z:Fail nb col p s1 c L p' s'):Fail nb col p s c (o::L) p' s':=by
 have so:o∈s1:=w.sub o (insS_mem.mpr (.inr rfl))
 have ss:∀ x∈s,x∈s1:=fun x hx=>w.sub x (insS_mem.mpr (.inl hx))
 refine ⟨z.same,fun x hx=>z.sub x (ss x hx),fun x hx=>(List.mem_cons.mp hx).elim (fun e=>e▸z.sub o so) (z.all x),fun hc=>z.sub c (ss c hc),fun x hx xs xc y hy=>?_,fun y hy ys yc=>?_⟩
 ·by_cases i1:x∈s1
  ·refine z.sub y (w.cl x i1 (fun q'=>(insS_mem.mp q').elim xs fun e=>?_) (by rw [xc,cq]) y hy)
   have:=N.alt _ _ ho
   rw [<- e,xc] at this
   exact J2 this
  ·exact z.cl x hx i1 xc y hy
 ·by_cases i1:y∈s1
  ·by_cases yo:y=o
   ·exact ⟨q,yo▸e,z.sub q wq⟩
   ·refine X1pp (w.ma y i1 (fun q'=>(insS_mem.mp q').elim ys yo) (by rw [yc,cq])) fun q' e1 e2=>?_
    exact ⟨q',e1,z.sub q' e2⟩
  ·exact z.ma y hy i1 yc
noncomputable def LedOk (P:List Sp) (n:Nat) (f:PD->List Sp->Sp->Bool×PD×List Sp):Prop:=∀ p s c,Mat nb p->(∀ z,As p z=some c->z∈s)->mu P s<n ->
 ((f p s c).1=false->Fail nb col p s c (nb c) (f p s c).2.1 (f p s c).2.2/\(c∈(f p s c).2.2))/\((f p s c).1=true->Won nb col p s c (f p s c).2.1)
theorem GE (N:Nb nb col) {P:List Sp} (hP:∀ a b,b∈nb a->b∈P) {n:Nat}{f:PD->List Sp->Sp->Bool×PD×List Sp} (hf:LedOk (nb:=nb) (col:=col) P n f) {p:PD}{c:Sp} (M:Mat nb p):∀ (L:List Sp) (s:List Sp),(∀ o∈L,o∈nb c)->(∀ z,As p z=some c->z∈s)->mu P s<=n ->
  ((DO f c L p s).1=false->Fail nb col p s c L (DO f c L p s).2.1 (DO f c L p s).2.2)/\((DO f c L p s).1=true->Won nb col p s c (DO f c L p s).2.1)
 | [],s,_,_,_=>⟨fun zz=>⟨rfl,fun zz h=>h,fun zz h=>(List.not_mem_nil h).elim,id,fun x h n=>(n h).elim,fun x h n=>(n h).elim⟩,fun h=>by cases h⟩
 | o::L,s,hL,pre,hn=>by
  have ho:=hL o (.head _)
  have ih:=GE N hP hf (c:=c) M L
  have hL':∀ o∈L,o∈nb c:=fun o h=>hL o (.tail _ h)
  by_cases os:o∈s
  ·rw [Dd os]
   refine Ad (ih s hL' pre hn) fun h1 h2=>?_
   exact ⟨fun e=>by have z:=h1 e;exact ⟨z.same,z.sub,fun x hx=>(List.mem_cons.mp hx).elim (fun e=>e▸z.sub o os) (z.all x),z.here,z.cl,z.ma⟩,h2⟩
  ·cases e:As p o with
   | none =>
    rw [Df os e]
    refine ⟨fun h=>(by cases h),fun zz=>?_⟩
    refine Won.put N M pre ho os (fun x y zz e'=>⟨(M x y e').1,(M x y e').2,fun q=>?_⟩) (fun zz zz zz=>rfl) rfl (fun zz zz=>.inl rfl) fun zz h=>h
    subst q
    have:=(M x y e').2
    rw [e] at this;cases this
   | some q =>
    have hq:=hf p (BE s o) q M (fun z hz=>insS_mem.mpr (.inr (mate M e hz))) (Nat.lt_of_lt_of_le (mu_lt os (hP _ _ ho)) hn)
    have cq:col q=col c:=by
     have h1:=N.alt _ _ (M o q e).1
     rw [N.alt _ _ ho,Bool.not_not] at h1
     exact h1
    cases b:(f p (BE s o) q).1 with
    | true =>
     rw [Ei os e b]
     exact ⟨fun h=>(by cases h),fun zz=>Won.on N M pre ho os e cq (hq.2 b)⟩
    | false =>
     refine Ad (hq.1 b) fun w wq=>?_
     have same:=w.same
     rw [De os e b]
     generalize (f p (BE s o) q).2=r at *
     obtain ⟨p1,s1⟩:=r
     dsimp only at same
     subst same
     have ss:∀ x∈s,x∈s1:=fun x hx=>w.sub x (insS_mem.mpr (.inl hx))
     refine Ad (ih s1 hL' (fun z hz=>ss z (pre z hz)) (Nat.le_trans (HJ ss P) hn)) fun h1 h2=>?_
     exact ⟨fun h=>Fail.on N ho e cq w wq (h1 h),fun h=>Won.less ss (h2 h)⟩
theorem I9 (N:Nb nb col) {P:List Sp} (hP:∀ a b,b∈nb a->b∈P):∀ n,LedOk (nb:=nb) (col:=col) P n (led nb n)
 | 0=>fun zz zz zz zz zz h=>(Nat.not_lt_zero _ h).elim
 | n+1=>fun p s c M pre hn=>by
  have ss:∀ x∈s,x∈BE s c:=fun x hx=>insS_mem.mpr (.inl hx)
  refine Ad (GE N hP (I9 N hP n) (c:=c) M (nb c) (BE s c) (fun zz h=>h) (fun z hz=>ss z (pre z hz)) (Nat.le_trans (HJ ss P) (Nat.le_of_lt_succ hn))) fun h1 h2=>?_
  refine ⟨fun h=>?_,fun h=>?_⟩
  ·have z:=h1 h
   have hc:=z.here (insS_mem.mpr (.inr rfl))
   refine ⟨⟨z.same,fun x hx=>z.sub x (ss x hx),z.all,fun zz=>hc,fun x hx xs xc y hy=>?_,fun y hy ys yc=>?_⟩,hc⟩
   ·by_cases e:x=c
    ·subst e;exact z.all y hy
    ·exact z.cl x hx (fun q=>(insS_mem.mp q).elim xs e) xc y hy
   ·refine z.ma y hy (fun q=>(insS_mem.mp q).elim ys fun e=>?_) yc
    rw [e] at yc;exact J2 yc
  ·have z:=h2 h
   exact ⟨z.sy,z.at_,fun x hx=>z.old x (ss x hx),fun x hx=>(z.few x hx).imp id fun y=>y.imp id fun ⟨v,v1,v2⟩=>⟨v,fun u=>v1 (ss v u),v2⟩,z.dom⟩
theorem led_won (N:Nb nb col) {P:List Sp} (hP:∀ a b,b∈nb a->b∈P) {n:Nat}{p:PD}{c:Sp} (M:Mat nb p) (hc:As p c=none) (hn:P.length<n) (h:(led nb n p [] c).1=true) :
  Mat nb (led nb n p [] c).2.1/\(As (led nb n p [] c).2.1 c).isSome=true/\∀ x,(As p x).isSome=true->(As (led nb n p [] c).2.1 x).isSome=true:=by
 have no:∀ z,As p z≠some c:=fun z hz=>by rw [(M z c hz).2] at hc;cases hc
 have w:=(I9 N hP n p [] c M (fun z hz=>(no z hz).elim) (Nat.lt_of_le_of_lt (EP _ _) hn)).2 h
 exact ⟨fun x y e=>⟨(w.sy x y (no x) e).1,(w.sy x y (no x) e).2.1⟩,w.at_,w.dom⟩
theorem GD (N:Nb nb col) {P:List Sp} (hP:∀ a b,b∈nb a->b∈P) {n:Nat}{p:PD}{c:Sp} (M:Mat nb p) (hc:As p c=none) (hn:P.length<n) (h:(led nb n p [] c).1=false) :
  (led nb n p [] c).2.1=p/\c∈(led nb n p [] c).2.2/\(∀ x∈(led nb n p [] c).2.2,col x=col c->∀ y∈nb x,y∈(led nb n p [] c).2.2)/\∀ y∈(led nb n p [] c).2.2,col y=!(col c)->∃ q,As p y=some q/\q∈(led nb n p [] c).2.2:=by
 have no:∀ z,As p z≠some c:=fun z hz=>by rw [(M z c hz).2] at hc;cases hc
 refine Ad ((I9 N hP n p [] c M (fun z hz=>(no z hz).elim) (Nat.lt_of_le_of_lt (EP _ _) hn)).1 h) fun w wc=>?_
 exact ⟨w.same,wc,fun x hx=>w.cl x hx List.not_mem_nil,fun y hy=>w.ma y hy List.not_mem_nil⟩
noncomputable def Short (nb:Sp->List Sp) (S:List Sp):Prop:=∀ Y:List Sp,Y.Nodup->(∀ y∈Y,∃ x∈S,y∈nb x)->Y.length<S.length
theorem FR {f:Sp->Sp}:∀ {l:List Sp},l.Nodup->(∀ a∈l,∀ b∈l,f a=f b->a=b)->(l.map f).Nodup
 | [],_,_=>.nil
 | a::l,nd,h=>by
  rw [List.nodup_cons] at nd
  refine List.nodup_cons.mpr ⟨fun q=>?_,FR nd.2 fun x hx y hy=>h x (.tail _ hx) y (.tail _ hy)⟩
  refine X1pp (List.mem_map.mp q) fun b hb e=>?_
  exact nd.1 (h b (.tail _ hb) a (.head _) e▸hb)
theorem I8 (N:Nb nb col) {P:List Sp} (hP:∀ a b,b∈nb a->b∈P) {n:Nat}{p:PD}{c:Sp} (M:Mat nb p) (hc:As p c=none) (hn:P.length<n) (h:(led nb n p [] c).1=false) {S:List Sp}
  (hS:∀ x,x∈S↔x∈P/\x∈(led nb n p [] c).2.2/\col x=col c) (cP:c∈P):Short nb S:=by
 refine BO (GD N hP M hc hn h) fun zz wc w1 w2=>?_
 generalize (led nb n p [] c).2.2=s at hS wc w1 w2
 intro Y nd hY
 have cS:c∈S:=(hS c).mpr ⟨cP,wc,rfl⟩
 have key:∀ y∈Y,∃ q,As p y=some q/\q∈S.erase c:=fun y hy=>by
  refine X1pp (hY y hy) fun x hx hn=>?_
  refine AU ((hS x).mp hx) fun zz x2 x3=>?_
  have yc:col y=!(col c):=by rw [N.alt _ _ hn,x3]
  refine X1pp (w2 y (w1 x x2 x3 y hn) yc) fun q e qs=>?_
  have m:=M y q e
  have qc:q≠c:=fun z=>by rw [z,hc] at m;cases m.2
  exact ⟨q,e,(List.mem_erase_of_ne qc).mpr ((hS q).mpr ⟨hP _ _ m.1,qs,by rw [N.alt _ _ m.1,yc];cases col c<;>rfl⟩)⟩
 have l1:=sub_length (l:=Y.map fun y=>(As p y).getD y) (k:=S.erase c) (FR nd fun a ha b hb e=>by
  refine X1pp (key a ha) fun q e1 zz=>?_
  refine X1pp (key b hb) fun r e2 zz=>?_
  rw [e1,e2] at e
  have e:q=r:=e
  subst e
  have:=(M a q e1).2
  rw [(M b q e2).2] at this
  cases this;rfl) fun x hx=>by
   refine X1pp (List.mem_map.mp hx) fun y hy he346_2=>?_
   subst he346_2
   refine X1pp (key y hy) fun q e hq=>?_
   rw [e];exact hq
 rw [List.length_map,List.length_erase_of_mem cS] at l1
 exact Nat.lt_of_le_of_lt l1 (Nat.sub_lt (List.length_pos_of_mem cS) Nat.one_pos)
theorem Short.not {S:List Sp} (h:Short nb S) (nd:S.Nodup) {m:Sp->Sp} (h1:∀ x∈S,m x∈nb x) (h2:∀ x∈S,m (m x)=x):False:=by
 have:=h (S.map m) (FR nd fun a ha b hb e=>by rw [<- h2 a ha,<- h2 b hb,e]) fun y hy=>by
  refine X1pp (List.mem_map.mp hy) fun x hx he353_2=>?_
  subst he353_2
  exact ⟨x,hx,h1 x hx⟩
 rw [List.length_map] at this
 exact Nat.lt_irrefl _ this
end
end Mine
end
section
namespace Mine
noncomputable def dark (k:Sp):Bool:=(k.1+k.2).fmod 2 == 0
noncomputable def nbP (P:List Sp) (a:Sp):List Sp:=if a∈P then (AY a).filter (fun c=>decide (c∈P)) else []
theorem nbP_mem {P:List Sp}{a b:Sp}:b∈nbP P a↔a∈P/\b∈AY a/\b∈P:=by
 unfold nbP
 by_cases h:a∈P
 ·rw [if_pos h,List.mem_filter,decide_eq_true_eq]
  exact ⟨fun q=>⟨h,q⟩,fun q=>q.2⟩
 ·rw [if_neg h]
  exact ⟨fun q=>(List.not_mem_nil q).elim,fun q=>(h q.1).elim⟩
theorem JO {s:Int}{b:Bool} (h:(s.fmod 2 == 0)=b):((s+1).fmod 2 == 0)=!b/\((s - 1).fmod 2 == 0)=!b:=by
 rw [Int.fmod_eq_emod_of_nonneg _ (by decide)] at h ⊢
 rw [Int.fmod_eq_emod_of_nonneg _ (by decide)]
 cases b with
 | true =>
  have:=eq_of_beq h
  exact ⟨beq_eq_false_iff_ne.mpr (by omega),beq_eq_false_iff_ne.mpr (by omega)⟩
 | false =>
  have:=beq_eq_false_iff_ne.mp h
  exact ⟨beq_iff_eq.mpr (by omega),beq_iff_eq.mpr (by omega)⟩
theorem JP {a b:Sp} (h:b∈AY a):dark b=!(dark a):=by
 refine Ad (JO (s:=a.1+a.2) (b:=dark a) rfl) fun d1 d2=>?_
 cases Ec h with
 | u=>rw [<- d2];show ((a.1+(a.2 - 1)).fmod 2 == 0)=_;rw [<- Int.add_sub_assoc]
 | l=>rw [<- d2];show ((a.1 - 1+a.2).fmod 2 == 0)=_;rw [show a.1 - 1+a.2=a.1+a.2 - 1 by exact Int.le_antisymm (lin [] [(a.fst),(a.snd)] (.ile 1 (.add (.sub V0 K1) V1) (.sub (.add V0 V1) K1)) [] rfl) (lin [] [(a.fst),(a.snd)] (.ile 1 (.sub (.add V0 V1) K1) (.add (.sub V0 K1) V1)) [] rfl)]
 | r=>rw [<- d1];show ((a.1+1+a.2).fmod 2 == 0)=_;rw [show a.1+1+a.2=a.1+a.2+1 by exact Int.le_antisymm (lin [] [(a.fst),(a.snd)] (.ile 1 (.add (.add V0 K1) V1) (.add (.add V0 V1) K1)) [] rfl) (lin [] [(a.fst),(a.snd)] (.ile 1 (.add (.add V0 V1) K1) (.add (.add V0 K1) V1)) [] rfl)]
 | d=>rw [<- d1];show ((a.1+(a.2+1)).fmod 2 == 0)=_;rw [<- Int.add_assoc]
theorem GA (P:List Sp):Nb (nbP P) dark :=
 ⟨fun a b h=>by refine AU (nbP_mem.mp h) fun h1 h2 h3=>?_;exact nbP_mem.mpr ⟨h3,EN h2,h1⟩,fun a b h=>JP (nbP_mem.mp h).2.1⟩
theorem Da (P:List Sp) (a b:Sp) (h:b∈nbP P a):b∈P:=(nbP_mem.mp h).2.2
theorem pget_key {l:PD}{k:Sp}:(As l k).isSome=true↔k∈l.map (·.1):=by
 induction l with
 | nil=>exact ⟨fun h=>(by cases h),fun h=>(by cases h)⟩
 | cons q l ih =>
  obtain ⟨a,b⟩:=q
  rw [Av,List.map_cons,List.mem_cons]
  by_cases e:a=k
  ·rw [if_pos e];exact ⟨fun zz=>.inl e.symm,fun zz=>rfl⟩
  ·rw [if_neg e,ih];exact ⟨.inr,fun h=>h.resolve_left fun z=>e z.symm⟩
theorem FB {l:PD}{k y:Sp} (h:As l k=some y):(k,y)∈l:=by
 induction l with
 | nil=>cases h
 | cons q l ih =>
  obtain ⟨a,b⟩:=q
  rw [Av] at h
  by_cases e:a=k
  ·rw [if_pos e] at h;cases h;subst e;exact .head _
  ·rw [if_neg e] at h;exact .tail _ (ih h)
structure PdW (P:List Sp) (p:PD):Prop where
 nd:(p.map (·.1)).Nodup
 mem:∀ q∈p,q.1∈P/\q.2∈P
structure SnW (P:List Sp) (s:List Sp):Prop where
 nd:s.Nodup
 mem:∀ x∈s,x∈P
theorem Cl {s:List Sp}{k:Sp} (n:s.Nodup) (h:k∉s):(s++[k]).Nodup:=by
 rw [List.nodup_append]
 exact ⟨n,List.nodup_cons.mpr ⟨List.not_mem_nil,List.nodup_nil⟩,fun a ha b hb e=>h (by rw [<- List.mem_singleton.mp hb,<- e];exact ha)⟩
theorem SnW.ins {P s:List Sp}{k:Sp} (h:SnW P s) (hk:k∈P):SnW P (BE s k):=by
 unfold BE
 by_cases q:k∈s
 ·rw [if_pos q];exact h
 ·rw [if_neg q]
  exact ⟨Cl h.nd q,fun x hx=>(List.mem_append.mp hx).elim (h.mem x) fun z=>by rw [List.mem_singleton.mp z];exact hk⟩
theorem SnW.len {P s:List Sp} (h:SnW P s):s.length<=P.length:=sub_length h.nd h.mem
theorem PdW.len {P:List Sp}{p:PD} (h:PdW P p):p.length<=P.length:=by
 have:=sub_length h.nd (k:=P) fun x hx=>by refine X1pp (List.mem_map.mp hx) fun q hq he74_2=>?_;subst he74_2;exact (h.mem q hq).1
 rwa [List.length_map] at this
theorem PdW.set {P:List Sp}{p:PD}{k x:Sp} (h:PdW P p) (hk:k∈P) (hx:x∈P):PdW P (CL p k x):=by
 unfold CL
 by_cases q:(As p k).isSome=true
 ·rw [if_pos q]
  refine ⟨?_,fun z hz=>?_⟩
  ·rw [List.map_map,show p.map ((fun z:Sp×Sp=>z.1) ∘ fun z=>if z.1=k then (k,x) else z)=p.map (·.1) from List.map_congr_left fun z zz=>by
    show (if z.1=k then (k,x) else z).1=z.1
    by_cases e:z.1=k
    ·rw [if_pos e];exact e.symm
    ·rw [if_neg e]]
   exact h.nd
  ·obtain ⟨y,hy,rfl⟩:=List.mem_map.mp hz
   by_cases e:y.1=k
   ·rw [if_pos e];exact ⟨hk,hx⟩
   ·rw [if_neg e];exact h.mem y hy
 ·rw [if_neg q]
  refine ⟨?_,fun z hz=>(List.mem_append.mp hz).elim (h.mem z) fun y=>by rw [List.mem_singleton.mp y];exact ⟨hk,hx⟩⟩
  rw [List.map_append]
  exact Cl h.nd fun z=>q (pget_key.mpr z)
structure LI (P s:List Sp) (r:Bool×PD×List Sp):Prop where
 pw:PdW P r.2.1
 sw:SnW P r.2.2
 sub:∀ x∈s,x∈r.2.2
theorem FL {P:List Sp}{f:PD->List Sp->Sp->Bool×PD×List Sp} (hf:∀ p s c,PdW P p->SnW P s->c∈P->LI P s (f p s c)) {c:Sp} (hc:c∈P):∀ {L:List Sp}{p:PD}{s:List Sp},(∀ o∈L,o∈P)->PdW P p->SnW P s->LI P s (DO f c L p s)
 | [],p,s,_,hp,hs=>⟨hp,hs,fun zz h=>h⟩
 | o::L,p,s,hL,hp,hs=>by
  have ho:=hL o (.head _)
  have hL':∀ o∈L,o∈P:=fun x h=>hL x (.tail _ h)
  by_cases os:o∈s
  ·rw [Dd os];exact FL hf hc hL' hp hs
  ·have ss:∀ x∈s,x∈BE s o:=fun x hx=>insS_mem.mpr (.inl hx)
   cases e:As p o with
   | none=>rw [Df os e];exact ⟨(hp.set hc ho).set ho hc,hs.ins ho,ss⟩
   | some q =>
    have k:=hf p (BE s o) q hp (hs.ins ho) (hp.mem _ (FB e)).2
    cases w:(f p (BE s o) q).1 with
    | true=>rw [Ei os e w];exact ⟨(k.pw.set hc ho).set ho hc,k.sw,fun x hx=>k.sub x (ss x hx)⟩
    | false =>
     rw [De os e w]
     have z:=FL hf hc hL' k.pw k.sw
     exact ⟨z.pw,z.sw,fun x hx=>z.sub x (k.sub x (ss x hx))⟩
theorem Ja {P:List Sp}:∀ (n:Nat) (p:PD) (s:List Sp) (c:Sp),PdW P p->SnW P s->c∈P->LI P s (led (nbP P) n p s c)
 | 0,p,s,c,hp,hs,_=>⟨hp,hs,fun zz h=>h⟩
 | n+1,p,s,c,hp,hs,hc=>by
  have z:=FL (Ja n) hc (L:=nbP P c) (fun o h=>Da P c o h) hp (hs.ins hc)
  exact ⟨z.pw,z.sw,fun x hx=>z.sub x (insS_mem.mpr (.inl hx))⟩
noncomputable def H6 (a b:Sp):Bool:=if a.2=b.2 then decide (a.1<b.1) else decide (a.2<b.2)
theorem ordB_iff {a b:Sp}:H6 a b=true↔a.2<b.2\/(a.2=b.2/\a.1<b.1):=by
 unfold H6
 by_cases h:a.2=b.2
 ·rw [if_pos h,decide_eq_true_eq];exact ⟨fun z0=>.inr (⟨Int.le_antisymm (lin [] [(a.snd),(b.snd)] (.ile 1 V0 V1) [.ieq 1 V0 V1] rfl h) (lin [] [(a.snd),(b.snd)] (.ile 1 V1 V0) [.ieq (-1) V0 V1] rfl h),z0⟩),fun z0=>z0.elim (fun z1=>lin [] [(a.snd),(b.snd),(a.fst),(b.fst)] (.ilt 0 V2 V3) [.ieq (-1) V0 V1,.ilt 1 V0 V1] rfl h z1) (fun z1=>z1.2)⟩
 ·rw [if_neg h,decide_eq_true_eq];exact ⟨fun z0=>.inl (z0),fun z0=>(Int.lt_or_gt_of_ne h).elim (fun z1=>z1) (fun z1=>z0.elim (fun z2=>z2) (fun z2=>lin [] [(b.snd),(a.snd)] (.ilt 0 V1 V0) [.ilt 1 V0 V1,.ieq 1 V1 V0] rfl z1 z2.1))⟩
noncomputable def mt (p:PD) (c:Sp):Sp:=(As p c).getD c
noncomputable def B2 (P:List Sp) (p:PD):List (Sp×Sp):=(P.filter fun c=>H6 c (mt p c)).map fun c=>(c,mt p c)
noncomputable def HasMatch (P:List Sp):Prop:=∃ m:Sp->Sp,∀ x∈P,m x∈nbP P x/\m (m x)=x
structure Full (P:List Sp) (p:PD):Prop where
 ma:Mat (nbP P) p
 all:∀ x∈P,(As p x).isSome=true
theorem Full.at {P:List Sp}{p:PD} (h:Full P p) {x:Sp} (hx:x∈P):mt p x∈nbP P x/\mt p (mt p x)=x:=by
 have:=h.all x hx
 cases e:As p x with
 | none=>rw [e] at this;cases this
 | some y =>
  have m:=h.ma x y e
  have e1:mt p x=y:=by unfold mt;rw [e];rfl
  rw [e1]
  exact ⟨m.1,by unfold mt;rw [m.2];rfl⟩
theorem Full.has {P:List Sp}{p:PD} (h:Full P p):HasMatch P:=⟨mt p,fun x hx=>h.at hx⟩
theorem Jf {P:List Sp}{p:PD}{q:Sp×Sp} (h:q∈B2 P p):q.1∈P/\q.2=mt p q.1/\H6 q.1 q.2=true:=by
 refine X1pp (List.mem_map.mp h) fun c hc he149_2=>?_
 subst he149_2
 refine Ad (List.mem_filter.mp hc) fun h1 h2=>?_
 exact ⟨h1,rfl,h2⟩
theorem Je {P:List Sp}{p:PD} (f:Full P p) {q:Sp×Sp} (h:q∈B2 P p):q.2∈[(q.1.1+1,q.1.2),(q.1.1,q.1.2+1)]:=by
 refine AU (Jf h) fun h1 h2 h3=>?_
 have n:=(nbP_mem.mp (f.at h1).1).2.1
 rw [<- h2] at n
 clear h h2
 obtain ⟨⟨x,y⟩,b⟩:=q
 have h3:=ordB_iff.mp h3
 cases Ec n with
 | u=>dsimp only at h3;omega
 | l=>dsimp only at h3;omega
 | r=>exact .head _
 | d=>exact .tail _ (.head _)
noncomputable def covL (l:List (Sp×Sp)):List Sp:=l.flatMap fun q=>[q.1,q.2]
theorem EL {a b:Sp} (h:H6 a b=true):H6 b a≠true:=fun h'=>by
 have h:=ordB_iff.mp h
 have h':=ordB_iff.mp h'
 exact h.elim (fun z0=>h'.elim (fun z1=>lin [] [(a.snd),(b.snd)] .no [.ilt 1 V0 V1,.ilt 1 V1 V0] rfl z0 z1) (fun z1=>lin [] [(a.snd),(b.snd)] .no [.ilt 1 V0 V1,.ieq 1 V1 V0] rfl z0 z1.1)) (fun z0=>h'.elim (fun z1=>lin [] [(a.snd),(b.snd)] .no [.ieq 1 V0 V1,.ilt 1 V1 V0] rfl z0.1 z1) (fun z1=>lin [] [(a.fst),(b.fst)] .no [.ilt 1 V0 V1,.ilt 1 V1 V0] rfl z0.2 z1.2))
theorem ordB_tot {a b:Sp} (h:a≠b):H6 a b=true\/H6 b a=true:=by
 rw [ordB_iff,ordB_iff]
 have:a.1≠b.1\/a.2≠b.2:=Classical.byContradiction fun q=>h (Prod.ext (Classical.byContradiction fun z=>q (.inl z)) (Classical.byContradiction fun z=>q (.inr z)))
 omega
theorem E7 {m:Sp->Sp}:∀ {l:List Sp},l.Nodup->(∀ a∈l,H6 a (m a)=true/\m (m a)=a)->(covL (l.map fun c=>(c,m c))).Nodup
 | [],_,_=>.nil
 | a::l,nd,h=>by
  rw [List.nodup_cons] at nd
  refine Ad (h a (.head _)) fun h1 h2=>?_
  have ih:=E7 nd.2 fun b hb=>h b (.tail _ hb)
  show ([a,m a]++covL (l.map fun c=>(c,m c))).Nodup
  have ne:a≠m a:=fun e=>by have:=ordB_iff.mp h1;rw [<- e] at this;exact this.elim (fun z0=>lin [] [(a.snd)] .no [.ilt 1 V0 V0] rfl z0) (fun z0=>lin [] [(a.fst)] .no [.ilt 1 V0 V0] rfl z0.2)
  have key:∀ x,x=a\/x=m a->∀ b∈l,x=b\/x=m b->False:=fun x hx b hb hy=>by
   refine Ad (h b (.tail _ hb)) fun b1 b2=>?_
   have ab:a≠b:=fun e=>nd.1 (e▸hb)
   rcases hx with rfl | rfl<;>rcases hy with e | e
   ·exact ab e
   ·rw [e,b2] at h1;exact EL h1 b1
   ·rw [<- e,h2] at b1;exact EL h1 b1
   ·exact ab (by rw [<- h2,e,b2])
  refine List.nodup_append.mpr ⟨List.nodup_cons.mpr ⟨fun q=>ne (List.mem_singleton.mp q),List.nodup_cons.mpr ⟨List.not_mem_nil,List.nodup_nil⟩⟩,ih,fun x hx y hy e=>?_⟩
  subst e
  refine X1pp (List.mem_flatMap.mp hy) fun q hq hy=>?_
  obtain ⟨b,hb,rfl⟩:=List.mem_map.mp hq
  refine key x ?_ b hb ?_
  ·rcases List.mem_cons.mp hx with z | z
   ·exact .inl z
   ·exact .inr (List.mem_singleton.mp z)
  ·rcases List.mem_cons.mp hy with z | z
   ·exact .inl z
   ·exact .inr (List.mem_singleton.mp z)
theorem Full.cov {P:List Sp}{p:PD} (f:Full P p) (nd:P.Nodup):(covL (B2 P p)).Nodup/\∀ x,x∈covL (B2 P p)↔x∈P:=by
 refine ⟨E7 (nd.filter _) fun a ha=>?_,fun x=>⟨fun h=>?_,fun h=>?_⟩⟩
 ·refine Ad (List.mem_filter.mp ha) fun h1 h2=>?_
  exact ⟨h2,(f.at h1).2⟩
 ·refine X1pp (List.mem_flatMap.mp h) fun q hq hx=>?_
  refine AU (Jf hq) fun h1 h2 zz=>?_
  rcases List.mem_cons.mp hx with z | z
  ·rw [z];exact h1
  ·rw [List.mem_singleton.mp z,h2];exact Da _ _ _ (f.at h1).1
 ·refine Ad (f.at h) fun n e=>?_
  have put:∀ c,c∈P->H6 c (mt p c)=true->(c,mt p c)∈B2 P p:=fun c hc ho=>List.mem_map.mpr ⟨c,List.mem_filter.mpr ⟨hc,ho⟩,rfl⟩
  rcases ordB_tot ((GA P).ne n) with z | z
  ·refine List.mem_flatMap.mpr ⟨_,put (mt p x) (Da _ _ _ n) (by rw [e];exact z),?_⟩
   rw [e];exact .tail _ (.head _)
  ·exact List.mem_flatMap.mpr ⟨_,put x h z,.head _⟩
structure Cx (P S:List Sp):Prop where
 ne:S≠[]
 sub:S.Sublist P
 one:∀ a∈S,∀ b∈S,dark a=dark b
 sh:Short (nbP P) S
theorem HasMatch.notShort {P S:List Sp} (nd:P.Nodup) (h:HasMatch P) (s:Cx P S):False:=by
 refine X1p (h) fun m hm=>?_
 exact s.sh.not (s.sub.nodup nd) (m:=m) (fun x hx=>(hm x (s.sub.subset hx)).1) fun x hx=>(hm x (s.sub.subset hx)).2
structure Sofar (P:List Sp) (p:PD) (S:List Sp) (done:Sp->Prop):Prop where
 pw:PdW P p
 ma:Mat (nbP P) p
 sh:(S=[]/\∀ x∈P,done x->(As p x).isSome=true)\/Cx P S
theorem Sofar.start (P:List Sp) {E:Sp->Prop} (h:∀ x,¬ E x):Sofar P [] [] E :=
 ⟨⟨.nil,fun zz h=>(by cases h)⟩,fun zz zz h=>(by cases h),.inl ⟨rfl,fun x zz e=>(h x e).elim⟩⟩
theorem Sofar.more {P:List Sp}{p:PD}{S:List Sp}{E E':Sp->Prop} (h:Sofar P p S E) (k:∀ x∈P,E' x->E x\/(As p x).isSome=true):Sofar P p S E' :=
 ⟨h.pw,h.ma,h.sh.imp (fun ⟨a,b⟩=>⟨a,fun x hx e=>(k x hx e).elim (b x hx) id⟩) id⟩
theorem Sofar.won {P:List Sp}{p:PD}{S:List Sp}{E:Sp->Prop}{c:Sp}{n:Nat} (h:Sofar P p S E) (hc:c∈P) (hn:P.length<n) (e:As p c=none) (w:(led (nbP P) n p [] c).1=true):Sofar P (led (nbP P) n p [] c).2.1 S fun x=>E x\/x=c:=by
 refine AU (led_won (GA P) (Da P) h.ma e hn w) fun h1 h2 h3=>?_
 exact ⟨(Ja n p [] c h.pw ⟨.nil,fun zz h=>(by cases h)⟩ hc).pw,h1,h.sh.imp (fun ⟨a,b⟩=>⟨a,fun x hx e=>e.elim (fun e=>h3 x (b x hx e)) fun e=>e▸h2⟩) id⟩
theorem Sofar.lost {P:List Sp}{p:PD}{S:List Sp}{E:Sp->Prop}{c:Sp}{n:Nat} (h:Sofar P p S E) (hc:c∈P) (hn:P.length<n) (e:As p c=none) (w:(led (nbP P) n p [] c).1=false) :
  (led (nbP P) n p [] c).2.1=p/\Cx P (P.filter fun x=>decide (x∈(led (nbP P) n p [] c).2.2) && (dark x == dark c)):=by
 have l:=GD (GA P) (Da P) h.ma e hn w
 have key:∀ x,x∈(P.filter fun x=>decide (x∈(led (nbP P) n p [] c).2.2) && (dark x == dark c))↔x∈P/\x∈(led (nbP P) n p [] c).2.2/\dark x=dark c:=fun x=>by
  rw [List.mem_filter,Bool.and_eq_true,decide_eq_true_eq,beq_iff_eq]
 refine ⟨l.1,⟨fun z=>?_,List.filter_sublist,fun a ha b hb=>((key a).mp ha).2.2.trans ((key b).mp hb).2.2.symm,I8 (GA P) (Da P) h.ma e hn w key hc⟩⟩
 have:=(key c).mpr ⟨hc,l.2.1,rfl⟩
 rw [z] at this;cases this
end Mine
end
section
namespace Mine
open PySem PyProof.Rows PySem.W
set_option tactic.hygienic true in
theorem GW {α:Type}{g:α->AV}{q:Bool}{p:Pat}{body:M->LS->KS->Prop}{ok:Option Nat}{K:KS} (J:List α->List α->M->LS->Prop) (he:∀ d m σ,J d [] m σ->K .next m σ)
  (hs:∀ d x r m σ,J d (x::r) m σ->∀ C:M->LS->Prop,(∀ Ah σ₂,J (d++[x]) r Ah σ₂->C Ah σ₂)->patW q p (g x) m (fun Af=>body Af σ (GG ok σ C K))):∀ {r d:List α}{m:M}{σ:LS},J d r m σ->Jw q p body ok K (r.map g) m σ
 | [],d,m,σ,h=>he d m σ h
 | x::r,d,m,σ,h=>hs d x r m σ h (Jw q p body ok K (r.map g)) fun Ah σ₂ h=>GW J he hs h
set_option tactic.hygienic true in
theorem AI {α:Type}{g:α->AV}{q:Bool}{p:Pat}{body:M->LS->KS->Prop}{ok:Option Nat}{K:KS}{items:List AV}{r d:List α}{m:M}{σ:LS} (e:items=r.map g) (J:List α->List α->M->LS->Prop) (he:∀ d m σ,J d [] m σ->K .next m σ)
  (hs:∀ d x r m σ,J d (x::r) m σ->∀ C:M->LS->Prop,(∀ Ah σ₂,J (d++[x]) r Ah σ₂->C Ah σ₂)->patW q p (g x) m (fun Af=>body Af σ (GG ok σ C K))) (h:J d r m σ):Jw q p body ok K items m σ:=by
 rw [e];exact GW J he hs h
theorem ifT {b:Bool}{A B:Prop} (e:b=true) (h:A):ifW b A B:=by subst e;exact h
theorem ifF {b:Bool}{A B:Prop} (e:b=false) (h:B):ifW b A B:=by subst e;exact h
theorem ifB {b:Bool}{A B:Prop} (h:b=true->A) (h':b=false->B):ifW b A B:=by
 cases b with
 | true=>exact h rfl
 | false=>exact h' rfl
noncomputable def tt (l:List Ab):List (Ab×AV):=l.map fun p=>(p,.bool true)
theorem A6 (l:List Ab) (k:Ab):(BW (tt l) k).isSome=decide (k∈l):=by
 unfold BW tt
 rw [Option.isSome_map]
 induction l with
 | nil=>rfl
 | cons x r ih =>
  rw [List.map_cons,List.find?_cons]
  by_cases e:x=k
  ·subst e;simp
  ·have:decide (x=k)=false:=decide_eq_false e
   simp only [this]
   rw [ih]
   simp [Ne.symm e]
theorem in_tt {P:List Ab}{k:Ab}{σ:LS}:InV σ (sp k) (.dict (tt P)) (decide (k∈P)):=A6 P k
theorem in_ttl {P:List Ab}{k:Ab}{σ:LS}{a:Addr}{i:Nat} (e:slot σ i=.at a (.dict (tt P))):InV σ (sp k) (.loc a i) (decide (k∈P)):=by
 unfold InV
 simp only [e]
 exact ⟨trivial,A6 P k⟩
theorem F3 {l:List Ab}{k:Ab} (h:k∉l):Bj (tt l) k (.bool true)=tt (l++[k]):=by
 unfold Bj
 rw [A6,decide_eq_false h,if_neg (by decide)]
 unfold tt;rw [List.map_append];rfl
theorem BK (l:List Ab):(tt l).length=l.length:=by unfold tt;rw [List.length_map]
end Mine
end
section
namespace Mine
open PySem PyProof.Rows PySem.W
noncomputable def c_near:Ag:=⟨[1079135020893454991476,121,122],1,[.assign (.tup [(.v 1),(.v 2)]) (.v 0),.ret (.list [(.tup [(.v 1),(.bin .Sub (.v 2) (.int 1))]),(.tup [(.bin .Sub (.v 1) (.int 1)),(.v 2)]),(.tup [(.bin .Add (.v 1) (.int 1)),(.v 2)]),(.tup [(.v 1),(.bin .Add (.v 2) (.int 1))])])]⟩
noncomputable def c_spread:Ag:=⟨[2263110204230247865775030375,940784431544538234996,1953625148292055806928486503,8847346042641382399987775315101205135480,1079135020893454991476],2,[.assign (.v 2) (.mu 4 (.dict [(.v 0)] [(.bool true)])),.assign (.v 3) (.mu 5 (.list [(.v 0)])),.while_ (.cmp .Gt (.call (.g 0) [(.v 3)]) (.int 0)) [.for_ (.v 4) (.call (.g 34) [(.meth (.v 3) 1 [])]) [.ite (.and [(.cmp .In (.v 4) (.v 1)),(.cmp .NotIn (.v 4) (.v 2))]) [.setitem (.v 2) (.v 4) (.bool true),.expr (.meth (.v 3) 0 [(.v 4)])] []]],.ret (.v 2)]⟩
noncomputable def spot1? (avs:List AV):Option Ab:=(one? avs).bind spot?
theorem spot1?_out {avs:List AV}{k:Ab} (h:spot1? avs=some k):avs=[sp k]:=by
 refine X1pp (Aw h) fun a h1 h=>?_
 rw [one?_out h1,spot?_out h]
noncomputable def JB:FS:=⟨fun avs=>(spot1? avs).bind fun k=>some (.list ((AY k).map sp)),fun zz zz zz zz=>False,false⟩
theorem near_ok {ex:List Nat}:FnOk ⟨true,ex,[],[],[]⟩ c_near .val 2 0 JB:=by
 refine ⟨fun zz zz zz zz h=>h.elim,fun avs v h K hK=>?_⟩
 obtain ⟨k,h1,h⟩:=Aw h
 cases h
 obtain rfl:=spot1?_out h1
 exact ⟨rfl,hK⟩
theorem FK {n:Nat} (h:n<=10000):n<=big:=Nat.le_trans h (by decide)
theorem Dfs.len {P:List Sp}{a:Sp}{fs ws:List Sp}{n:Nat} (h:JN P fs ws<=n):ws.length<=n:=by unfold JN at h;exact lin [(P.length+1 - fs.length),(ws.length),n] [] (.nle 1 V1 V2) [.nle 1 (.add (.mul 2 V0) V1) V2] rfl h
noncomputable def spM (p:Ab) (v:AV) (a1 a2:Addr) (x:Option AV):M:=[some (sp p),some v,some (.loc a1 4),some (.loc a2 5),x]
noncomputable def spS (b0:Slot) (a1 a2:Addr) (F:List (Ab×AV)) (W:List AV) (tl:LS):LS:=b0::.no::.no::.no::.at a1 (.dict F)::.at a2 (.list W)::tl
inductive SpJ (P:List Ab) (p:Ab) (v:AV) (a1 a2:Addr) (b0:Slot) (tl:LS):Nat->M->LS->Prop
 | mk (fs ws:List Ab) (x:Option AV) (F:List (Ab×AV)) (W:List AV) (hd:Dfs P p fs ws) (hM:JN P fs ws<=2 * (P.length+1)+1) (eF:F=tt fs) (eW:W=ws.map sp):SpJ P p v a1 a2 b0 tl (JN P fs ws) (spM p v a1 a2 x) (spS b0 a1 a2 F W tl)
inductive SpI (P:List Ab) (p:Ab) (v:AV) (a1 a2:Addr) (b0:Slot) (tl:LS) (e:Ab) (n:Nat) (d r:List Ab):M->LS->Prop
 | mk (fs ws:List Ab) (x:Option AV) (F:List (Ab×AV)) (W:List AV) (hd:DfsAt P p fs ws e r) (hM:JN P fs ws<n) (eF:F=tt fs) (eW:W=ws.map sp):SpI P p v a1 a2 b0 tl e n d r (spM p v a1 a2 x) (spS b0 a1 a2 F W tl)
theorem Fv {ex:List Nat}{p e c:Ab}{P d r:List Ab}{v:AV}{b0:Slot}{tl:LS}{X:XL}{KK:KS}{a1 a2:Addr}{n:Nat}{m:M}{σ:LS} (hP:P.length<=1000) (hn:n<=2 * (P.length+1)+1) (hin:∀ (k:Ab) (τ:LS),InV (b0::τ) (sp k) v (decide (k∈P)))
  (j:SpI P p v a1 a2 b0 tl e n d (c::r) m σ) (C:M->LS->Prop) (hC:∀ Ah σ₂,SpI P p v a1 a2 b0 tl e n (d++[c]) r Ah σ₂->C Ah σ₂) :
  patW true (.v 4) (sp c) m (fun Af=>wpSs ⟨true,ex,[(34,JB)],[],[]⟩ [.ite (.and [(.cmp .In (.v 4) (.v 1)),(.cmp .NotIn (.v 4) (.v 2))]) [.setitem (.v 2) (.v 4) (.bool true),.expr (.meth (.v 3) 0 [(.v 4)])] []] X Af σ (GG Option.none σ C KK)):=by
 cases j with
 | mk fs ws x F W hd hM eF eW =>
  by_cases h1:c∈P
  ·refine ⟨_,hin c _,ifT (decide_eq_true h1) ⟨_,⟨rfl,by rw [eF];exact A6 fs c⟩,?_⟩⟩
   by_cases h2:c∈fs
   ·rw [decide_eq_true h2]
    exact hC _ _ (.mk fs ws _ F W (hd.skip (fun q=>q.2 h2)) hM eF eW)
   ·rw [decide_eq_false h2]
    have hf:=Ix hd.nd hd.rc
    have hw:=Dfs.len (a:=p) (Nat.le_trans (Nat.le_of_lt hM) hn)
    refine ⟨rfl,by rw [eF,BK];exact FK (by exact lin [(P.length),(fs.length)] [] (.nle 1 V1 Ke) [.nle 1 V0 AG,.nle 1 V1 (.add V0 K1)] rfl hP hf),rfl,rfl,by rw [eW,List.length_map];exact FK (by exact lin [(P.length),(ws.length)] [] (.nle 1 V1 Ke) [.nle 2 V0 AG,.nle 1 V1 (.add (.mul 2 (.add V0 K1)) K1)] rfl hP hw),?_⟩
    exact hC _ _ (.mk (fs++[c]) (ws++[c]) _ _ _ (hd.push h1 h2) (Nat.lt_of_le_of_lt (JM hd h1 h2) hM) (by rw [eF,F3 h2]) (by rw [eW,List.map_append];rfl))
  ·refine ⟨_,hin c _,ifF (decide_eq_false h1) ?_⟩
   exact hC _ _ (.mk fs ws _ F W (hd.skip (fun q=>h1 q.1)) hM eF eW)
theorem CX {ex:List Nat}{p:Ab}{P:List Ab}{v:AV}{b0:Slot}{tl:LS}{X:XL}{KK:KS} (hP:P.length<=1000) (hin:∀ (k:Ab) (τ:LS),InV (b0::τ) (sp k) v (decide (k∈P)))
  (hK:∀ fs a1 a2 m,Comp P p fs->KK (.ret (.loc a1 4)) m (b0::.no::.no::.no::.at a1 (.dict (tt fs))::.at a2 (.list [])::tl)) :
  wpSs ⟨true,ex,[(34,JB)],[],[]⟩ c_spread.body X [some (sp p),some v,Option.none,Option.none,Option.none] (b0::.no::.no::.no::.no::.no::tl) KK:=by
 intro a1 a2
 refine ⟨SpJ P p v a1 a2 b0 tl,⟨_,.mk [p] [p] _ _ _ (Dfs.start P p) (by unfold JN;rw [List.length_singleton];exact lin [(P.length+1 - 1),(P.length)] [] (.nle 1 (.add (.mul 2 V0) K1) (.add (.mul 2 (.add V1 K1)) K1)) [.nle 2 V0 (.add V1 K1)] rfl (Nat.sub_le (P.length+1) (1))) rfl rfl⟩,fun n m σ j=>?_⟩
 cases j with
 | mk fs ws x F W hd hM eF eW =>
  have hws:W.length<=big:=by rw [eW,List.length_map];exact FK (Nat.le_trans (Dfs.len (a:=p) hM) (by exact lin [(P.length)] [] (.nle 1 (.add (.mul 2 (.add V0 K1)) K1) Ke) [.nle 2 V0 AG] rfl hP))
  refine ⟨rfl,hws,?_⟩
  rcases List.eq_nil_or_concat ws with rfl | ⟨w,e,rfl⟩
  ·subst eF;subst eW
   exact hK fs a1 a2 _ hd.end_
  ·rw [List.concat_eq_append] at hd hM ⊢
   rw [List.concat_eq_append,List.map_append] at eW
   have l1:(w++[e]).length=w.length+1:=List.length_append
   refine ifT (decide_eq_true (by rw [eW,List.length_append];exact Int.ofNat_lt.mpr (Nat.succ_pos _))) ⟨rfl,rfl,hws,sp e,by rw [eW];exact List.getLast?_concat,?_⟩
   refine AI (g:=sp) rfl (SpI P p v a1 a2 b0 tl e (JN P fs (w++[e]))) (fun d m τ j=>?_) (fun d c r m τ j C hC=>Fv hP hM hin j C hC) (d:=[]) (.mk fs w _ _ _ hd.pop (by unfold JN;rw [l1];exact lin [(P.length+1 - fs.length),(w.length)] [] (.nlt 1 (.add (.mul 2 V0) V1) (.add (.mul 2 V0) (.add V1 K1))) [] rfl) eF (by rw [eW];exact List.dropLast_concat))
   cases j with
   | mk fs' ws' x' F' W' hd' hM' eF' eW'=>exact ⟨_,hM',.mk fs' ws' _ _ _ hd'.done (Nat.le_trans (Nat.le_of_lt hM') hM) eF' eW'⟩
noncomputable def JA:FS:=⟨fun zz=>Option.none,fun avs σ K X=>∃ p P,P.length<=1000/\((avs=[sp p,.dict (tt P)]/\σ=[]/\∀ fs,Comp P p fs->K ⟨[.dict (tt fs)],.new 0⟩ [])\/∃ a,avs=[sp p,.loc a 0]/\σ=[.at a (.dict (tt P))]/\∀ fs,Comp P p fs->K ⟨[.dict (tt fs)],.new 0⟩ [.at a (.dict (tt P))]),false⟩
theorem Iq {ex:List Nat}:FnOk ⟨true,ex,[(34,JB)],[],[]⟩ c_spread .new 3 6 JA:=by
 refine ⟨fun avs σ K X h=>?_,fun avs v h K hK=>by cases h⟩
 obtain ⟨p,P,hP,⟨rfl,rfl,hK⟩ | ⟨a,rfl,rfl,hK⟩⟩:=h
 ·exact ⟨rfl,CX hP (fun k τ=>in_tt) fun fs a1 a2 m h=>⟨rfl,hK fs h⟩⟩
 ·exact ⟨rfl,CX hP (fun k τ=>in_ttl rfl) fun fs a1 a2 m h=>⟨rfl,hK fs h⟩⟩
end Mine
end
section
namespace Mine
open PySem PyProof.Rows PySem.W
noncomputable def Nice (d:Nat) (a:AV):Prop:=∃ p,Fn a=some p/\p.canLay0=true/\p.depth<=d
theorem Nice.mono {d e:Nat}{a:AV} (h:Nice d a) (le:d<=e):Nice e a:=by
 refine X1ppp (h) fun p h1 h2 h3=>?_;exact ⟨p,h1,h2,Nat.le_trans h3 le⟩
theorem Nice.eq {d:Nat}{a:AV} (h:Nice d a) (le:d<=64):EqP a a true:=by
 refine X1ppp (h) fun p h1 h2 h3=>?_
 have s:SeqAt.shaped p=true:=by
  unfold SeqAt.shaped
  rw [h2,decide_eq_true (Nat.le_trans h3 le)];rfl
 exact ⟨p,p,h1,h1,s,s,PySem.SeqAt.eqv_refl p h2⟩
theorem Nice.all {d:Nat}:∀ {l:List AV},(∀ x∈l,Nice d x)->∃ ps,CH l=some ps/\PyData.canLayAll0 ps=true/\PyData.depthAll ps<=d
 | [],_=>⟨[],rfl,by simp [PyData.canLayAll0],by simp [PyData.depthAll]⟩
 | x::l,h=>by
  refine X1ppp (h x (.head _)) fun p h1 h2 h3=>?_
  refine X1ppp (Nice.all fun y hy=>h y (.tail _ hy)) fun ps q1 q2 q3=>?_
  refine ⟨p::ps,?_,?_,?_⟩
  ·show (Fn x).bind _=_
   rw [h1,q1];rfl
  ·rw [PyData.canLayAll0,h2,q2];rfl
  ·rw [PyData.depthAll];exact Nat.max_le.mpr ⟨h3,q3⟩
theorem Nice.list {d:Nat}{l:List AV} (h:∀ x∈l,Nice d x):Nice (d+1) (.list l):=by
 refine X1ppp (Nice.all h) fun ps q1 q2 q3=>?_
 refine ⟨.list ps,?_,?_,?_⟩
 ·show (CH l).map _=_
  rw [q1];rfl
 ·rw [PyData.canLay0];exact q2
 ·rw [PyData.depth];exact lin [(PyData.depthAll ps),d] [] (.nle 1 (.add V0 K1) (.add V1 K1)) [.nle 1 V0 V1] rfl q3
theorem Nice.tup {d:Nat}{l:List AV} (h:∀ x∈l,Nice d x):Nice (d+1) (.tup l):=by
 refine X1ppp (Nice.all h) fun ps q1 q2 q3=>?_
 refine ⟨.tuple ps,?_,?_,?_⟩
 ·show (CH l).map _=_
  rw [q1];rfl
 ·rw [PyData.canLay0];exact q2
 ·rw [PyData.depth];exact lin [(PyData.depthAll ps),d] [] (.nle 1 (.add V0 K1) (.add V1 K1)) [.nle 1 V0 V1] rfl q3
theorem Nice.int (i:Int):Nice 0 (.int i):=⟨.int i,rfl,by simp [PyData.canLay0],by simp [PyData.depth]⟩
theorem Nice.str {x:Str} (h:∀ c∈x.cps.toList,c<128):Nice 0 (.str x):=⟨.str x,rfl,by
 simp only [PyData.canLay0,PyData.strOk]
 rw [Array.all_eq_true_iff_forall_mem]
 intro c hc
 have:=h c (Array.mem_toList_iff.mpr hc)
 simp;exact lin [c] [] (.nlt 1 V0 K1114112) [.nlt 1 V0 K128] rfl this,by simp [PyData.depth]⟩
theorem Nice.sp (k:Ab):Nice 1 (sp k):=Nice.tup fun x hx=>by
 rcases List.mem_cons.mp hx with rfl | hx
 ·exact Nice.int _
 ·rw [List.mem_singleton.mp hx];exact Nice.int _
theorem Nice.spots (P:List Ab):Nice 2 (.list (P.map Mine.sp)):=Nice.list fun x hx=>by
 refine X1pp (List.mem_map.mp hx) fun k zz he55_2=>?_
 subst he55_2
 exact Nice.sp k
noncomputable def Hp (k:Ab):PyData:=.tuple [.int k.1,.int k.2]
theorem eqv_sp (a b:Ab):PyData.eqv (Hp a) (Hp b)=decide (a=b):=by
 obtain ⟨a1,a2⟩:=a
 obtain ⟨b1,b2⟩:=b
 have e:∀ x y:Int,(x == y)=decide (x=y):=fun zz zz=>rfl
 simp [Hp,PyData.eqv,PyData.eqvAll,Prod.ext_iff,e]
theorem any_sp (P:List Ab) (k:Ab):((P.map Hp).any fun y=>PyData.eqv y (Hp k))=decide (k∈P):=by
 induction P with
 | nil=>rfl
 | cons a P ih =>
  rw [List.map_cons,List.any_cons,eqv_sp,ih]
  by_cases e:a=k
  ·subst e;simp
  ·simp [e,Ne.symm e]
theorem Gh (P:List Ab):CH (P.map sp)=some (P.map Hp):=by
 induction P with
 | nil=>rfl
 | cons k P ih=>show (Fn (sp k)).bind _=_;rw [ih];rfl
theorem lay_sp (P:List Ab):PyData.canLayAll0 (P.map Hp)=true:=by
 induction P with
 | nil=>rfl
 | cons k P ih=>rw [List.map_cons,PyData.canLayAll0,ih];simp [Hp,PyData.canLay0,PyData.canLayAll0]
theorem InP.spots (P:List Ab) (k:Ab):InP (sp k) (.list (P.map sp)) (decide (k∈P)) :=
 ⟨Hp k,P.map Hp,rfl,.inl (by show (CH _).map _=_;rw [Gh];rfl),lay_sp P,by simp [Hp,PyData.canLay0,PyData.canLayAll0],by simp [Hp,PyData.depth,PyData.depthAll],any_sp P k⟩
end Mine
end
section
namespace Mine
open PySem PyProof.Rows PySem.W
noncomputable def JX:Ag:=⟨[2011653587633505230741569653],1,[.ret (.and [(.call (.g 1) [(.v 0),(.g 2)]),(.not (.call (.g 1) [(.v 0),(.g 3)]))])]⟩
noncomputable def c_spot:Ag:=⟨[2011653587633505230741569653],1,[.ret (.and [(.call (.g 1) [(.v 0),(.g 4)]),(.cmp .Eq (.call (.g 0) [(.v 0)]) (.int 2)),(.call (.g 30) [(.sub (.v 0) (.int 0))]),(.call (.g 30) [(.sub (.v 0) (.int 1))])])]⟩
noncomputable def DT:Ag:=⟨[1079135020893454991476],1,[.ret (.tup [(.sub (.v 0) (.int 1)),(.sub (.v 0) (.int 0))])]⟩
noncomputable def Fa:Ag:=⟨[1005348031404454183012],1,[.ret (.cmp .Eq (.bin .Mod (.bin .Add (.sub (.v 0) (.int 0)) (.sub (.v 0) (.int 1))) (.int 2)) (.int 0))]⟩
noncomputable def c_Fhas:Ag:=⟨[950007799183325528180,1972967859948709507384737905],2,[.ret (.and [(.call (.g 31) [(.v 1)]),(.cmp .In (.v 1) (.attr (.v 0) 12))])]⟩
noncomputable def Hb:Ag:=⟨[950007799183325528180],1,[.ret (.mu 4 (.call (.g 5) [(.attr (.v 0) 12)]))]⟩
noncomputable def Fd:Ag:=⟨[950007799183325528180,1005348031404454183012,1079135020893454991476],2,[.ite (.not (.meth (.v 0) 15 [(.v 1)])) [.raise (.call (.g 22) [(.str "no cell of the floor")])] [],.ret (.mu 4 (.comp (.v 2) 2 (.call (.g 34) [(.v 1)]) [(.cmp .In (.v 2) (.attr (.v 0) 12))]))]⟩
noncomputable def DW:Ag:=⟨[192524121870682778597944489011036038917448218529394060437475033184,4381002331299926544718449986240608],2,[.ite (.cmp .Lt (.v 1) (.call (.g 0) [(.v 0)])) [.ret (.sub (.v 0) (.v 1))] [],.ret (.int 0)]⟩
noncomputable def G7:Ag:=⟨[189233104125022861345122375117010683388186817415792500651818221664,4381002331299926544718449986240608],2,[.ret (.bin .Mod (.bin .Add (.bin .Add (.bin .Mult (.v 0) (.int 48271)) (.bin .Mult (.int 7919) (.v 1))) (.int 11)) (.int 2147483647))]⟩
noncomputable def G6:Ag:=⟨[80033084540639579203529368251194428811096298434648411734112],1,[.ret (.tup [(.sub (.v 0) (.int 1)),(.sub (.v 0) (.int 0))])]⟩
theorem Ai {n:Nat} (h:n<=1000):n<=big:=by unfold big;exact lin [n] [] (.nle 1 V0 Al) [.nle 1 V0 AG] rfl h
noncomputable def pureF (f:List AV->Option AV):FS:=⟨f,fun zz zz zz zz=>False,false⟩
noncomputable def specF (f:List AV->LS->KR->XL->Prop):FS:=⟨fun zz=>Option.none,f,false⟩
theorem FnOk.pureF {Φ:Tab}{c:Ag}{nv ns:Nat}{f:List AV->Option AV} (h:∀ avs v,f avs=some v->∀ K:KR,K ⟨[],.val v⟩ []->fnW Φ c .val nv ns avs [] K B1):FnOk Φ c .val nv ns (pureF f):=⟨fun zz zz zz zz h=>h.elim,h⟩
theorem FnOk.specF {Φ:Tab}{c:Ag}{rs:Rs}{nv ns:Nat}{f:List AV->LS->KR->XL->Prop} (h:∀ avs σ K X,f avs σ K X->fnW Φ c rs nv ns avs σ K X):FnOk Φ c rs nv ns (specF f):=⟨h,fun zz zz h=>by cases h⟩
noncomputable def fWhole:FS:=pureF fun avs=>(one? avs).bind fun a=>a.int?.bind fun zz=>some (.bool true)
theorem whole_ok {ex:List Nat}:FnOk ⟨true,ex,[],[],[]⟩ JX .val 0 0 fWhole:=by
 refine .pureF fun avs v h K hK=>?_
 refine X1pp (Aw h) fun a h1 h=>?_
 refine X1pp (Aw h) fun b h2 h=>?_
 cases h
 obtain rfl:=one?_out h1
 rw [AV.int?_out h2]
 exact ⟨rfl,hK⟩
noncomputable def fSpot:FS:=pureF fun avs=>(spot1? avs).bind fun zz=>some (.bool true)
theorem spot_ok {ex:List Nat}:FnOk ⟨true,ex,[(30,fWhole)],[],[]⟩ c_spot .val 0 0 fSpot:=by
 refine .pureF fun avs v h K hK=>?_
 refine X1pp (Aw h) fun k h1 h=>?_
 cases h
 obtain rfl:=spot1?_out h1
 exact ⟨rfl,Ai (Nat.le_of_ble_eq_true rfl),hK⟩
noncomputable def keyF (avs:List AV):Option AV:=(spot1? avs).bind fun k=>some (sp (k.2,k.1))
theorem FnOk.spot {Φ:Tab}{c:Ag}{nv ns:Nat}{g:Ab->AV} (h:∀ (k:Ab) (K:KR),K ⟨[],.val (g k)⟩ []->fnW Φ c .val nv ns [sp k] [] K B1):FnOk Φ c .val nv ns (Mine.pureF fun avs=>(spot1? avs).bind fun k=>some (g k)) :=
 .pureF fun avs v e K hK=>by
  refine X1pp (Aw e) fun k h1 e=>?_
  cases e
  obtain rfl:=spot1?_out h1
  exact h k K hK
theorem HE {ex:List Nat}:FnOk ⟨true,ex,[],[],[]⟩ DT .val 0 0 (pureF keyF):=.spot fun k K hK=>⟨rfl,hK⟩
theorem EQ {ex:List Nat}:FnOk ⟨true,ex,[],[],[]⟩ G6 .val 0 0 (pureF keyF):=.spot fun k K hK=>⟨rfl,hK⟩
noncomputable def fDark:FS:=pureF fun avs=>(spot1? avs).bind fun k=>some (.bool ((k.1+k.2).fmod 2 == 0))
theorem dark_ok {ex:List Nat}:FnOk ⟨true,ex,[],[],[]⟩ Fa .val 0 0 fDark:=.spot fun k K hK=>⟨rfl,hK⟩
noncomputable def GY:FS:=pureF fun avs=>(two? avs).bind fun p=>(int2? p.1 p.2).bind fun k=>some (.int ((k.1 * 48271+7919 * k.2+11).fmod 2147483647))
end Mine
end
section
namespace Mine
open PySem PyProof.Rows PySem.W
theorem Cu {α:Type}{g:α->AV}{i:Nat}{elt:M->LS->KV->Prop}{tst:M->LS->KB->Prop}{ok:Option Nat}{m:M}{K:List AV->LS->Prop}{P:α->Bool}{f:α->AV}{σ:LS}:∀ {r:List α}{ys:List AV},
  (∀ x∈r,∀ (ys:List AV) (C:List AV->LS->Prop),(P x=true->C (ys++[f x]) σ)->(P x=false->C ys σ)->tst (Fo m i (g x)) σ (fun b σ₁=>ifW b (elt (Fo m i (g x)) σ₁ (fun y σ₂=>stays ok σ σ₂ (C (ys++[y]) σ₂))) (stays ok σ σ₁ (C ys σ₁)))) ->
  K (ys++(r.filter P).map f) σ->Dq i elt tst ok m K (r.map g) ys σ
 | [],ys,_,hK=>by rw [List.filter_nil,List.map_nil,List.append_nil] at hK;exact hK
 | x::r,ys,h,hK=>h x (.head _) ys (fun ys σ=>Dq i elt tst ok m K (r.map g) ys σ)
  (fun e=>Cu (fun y hy=>h y (.tail _ hy)) (by rw [List.filter_cons_of_pos e,List.map_cons] at hK;rw [List.append_assoc];exact hK))
  (fun e=>Cu (fun y hy=>h y (.tail _ hy)) (by rw [List.filter_cons_of_neg (by rw [e];decide)] at hK;exact hK))
theorem B9 {α:Type}{g:α->AV}{i:Nat}{elt:M->LS->KV->Prop}{tst:M->LS->KB->Prop}{ok:Option Nat}{m:M}{K:List AV->LS->Prop}{P:α->Bool}{f:α->AV}{σ:LS}{items:List AV}{r:List α} (e:items=r.map g)
  (h:∀ x∈r,∀ (ys:List AV) (C:List AV->LS->Prop),(P x=true->C (ys++[f x]) σ)->(P x=false->C ys σ)->tst (Fo m i (g x)) σ (fun b σ₁=>ifW b (elt (Fo m i (g x)) σ₁ (fun y σ₂=>stays ok σ σ₂ (C (ys++[y]) σ₂))) (stays ok σ σ₁ (C ys σ₁))))
  (hK:K ((r.filter P).map f) σ):Dq i elt tst ok m K items [] σ:=by
 rw [e];exact Cu h hK
theorem Ho {ok:Option Nat}{σ:LS}{P:Prop} (h:P):stays ok σ σ P:=by
 cases ok with
 | none=>exact h
 | some i=>exact ⟨rfl,h⟩
theorem DR {α:Type}{g:α->AV}{i:Nat}{elt:M->LS->KV->Prop}{ok:Option Nat}{m:M}{K:List AV->LS->Prop}{f:α->AV}{σ:LS}:∀ {r:List α}{ys:List AV},
  (∀ x∈r,∀ C:KV,C (f x) σ->elt (Fo m i (g x)) σ C)->K (ys++r.map f) σ->Dq i elt (Fq []) ok m K (r.map g) ys σ
 | [],ys,_,hK=>by rw [List.map_nil,List.append_nil] at hK;exact hK
 | x::r,ys,h,hK=>h x (.head _) _ (Ho (DR (fun y hy=>h y (.tail _ hy)) (by rw [List.append_assoc];exact hK)))
theorem Ca {α:Type}{g:α->AV}{i:Nat}{elt:M->LS->KV->Prop}{ok:Option Nat}{m:M}{K:List AV->LS->Prop}{f:α->AV}{σ:LS}{items:List AV}{r:List α} (e:items=r.map g)
  (h:∀ x∈r,∀ C:KV,C (f x) σ->elt (Fo m i (g x)) σ C) (hK:K (r.map f) σ):Dq i elt (Fq []) ok m K items [] σ:=by
 rw [e];exact DR h hK
noncomputable def ivs (a:Int):Nat->List Int
 | 0=>[]
 | n+1=>a::ivs (a+1) n
theorem Ap (a:Int):∀ n,(ivs a n).length=n
 | 0=>rfl
 | n+1=>by rw [ivs,List.length_cons,Ap (a+1) n]
theorem BU {a x:Int}:∀ {n:Nat},x∈ivs a n↔a<=x/\x<a+n
 | 0=>by simp [ivs]
 | n+1=>by rw [ivs,List.mem_cons,BU (n:=n)];exact ⟨fun z0=>⟨z0.elim (fun z1=>lin [] [x,a] (.ile 1 V1 V0) [.ieq (-1) V0 V1] rfl z1) (fun z1=>lin [] [a,x] (.ile 1 V0 V1) [.ile 1 (.add V0 K1) V1] rfl z1.1),z0.elim (fun z1=>lin [n] [x,a] (.ilt 1 V0 (.add V1 (.c (.add V0 K1)))) [.ieq 1 V0 V1] rfl z1) (fun z1=>lin [n] [x,a] (.ilt 1 V0 (.add V1 (.c (.add V0 K1)))) [.ilt 1 V0 (.add (.add V1 K1) (.c V0))] rfl z1.2)⟩,fun z0=>Decidable.byContradiction fun z1=>(Int.lt_or_gt_of_ne (fun z=>z1 (.inl z))).elim (fun z2=>lin [] [a,x] .no [.ile 1 V0 V1,.ilt 1 V1 V0] rfl z0.1 z2) (fun z2=>(Decidable.not_and_iff_or_not.mp (fun z=>z1 (.inr z))).elim (fun z3=>lin [] [a,x] .no [.ilt 1 V0 V1,.igt 1 (.add V0 K1) V1] rfl z2 z3) (fun z3=>lin [n] [x,a] .no [.ilt 1 V0 (.add V1 (.c (.add V0 K1))),.ige 1 V0 (.add (.add V1 K1) (.c V0))] rfl z0.2 z3))⟩
theorem Cz:∀ (n:Nat) (a:Int),AD a 1 n=(ivs a n).map .int
 | 0,_=>rfl
 | n+1,a=>by
  unfold AD
  rw [List.range_succ_eq_map,List.map_cons,List.map_map]
  have ih:=Cz n (a+1)
  unfold AD at ih
  rw [ivs,List.map_cons,<- ih]
  congr 1
  ·simp
  ·apply List.map_congr_left
   intro i _
   simp only [Function.comp_def]
   congr 1
   exact Int.le_antisymm (lin [i] [a] (.ile 1 (.add V0 (.mul 1 (.c (.add V0 K1)))) (.add (.add V0 K1) (.mul 1 (.c V0)))) [] rfl) (lin [i] [a] (.ile 1 (.add (.add V0 K1) (.mul 1 (.c V0))) (.add V0 (.mul 1 (.c (.add V0 K1))))) [] rfl)
theorem DI (a b:Int):Builtin.Range.rangeSize a b 1=max (b - a) 0:=by
 unfold Builtin.Range.rangeSize
 rw [if_pos (show (1:Int) > 0 by decide)]
 by_cases q:a<b
 ·rw [if_pos q,Int.ediv_one];exact Int.le_antisymm (lin [] [b,a,(max (b - a) 0)] (.ile 1 (.add (.sub (.sub V0 V1) K1) K1) V2) [.ile 1 (.sub V0 V1) V2] rfl (Int.le_max_left (b - a) (0))) ((BV (b - a) (0)).elim (fun z0=>lin [] [(max (b - a) 0),b,a] (.ile 1 V0 (.add (.sub (.sub V1 V2) K1) K1)) [.ieq 1 V0 (.sub V1 V2)] rfl z0) (fun z0=>lin [] [a,b,(max (b - a) 0)] (.ile 1 V2 (.add (.sub (.sub V1 V0) K1) K1)) [.ilt 1 V0 V1,.ieq 1 V2 K0] rfl q z0))
 ·rw [if_neg q];exact Int.le_antisymm (lin [] [(max (b - a) 0)] (.ile 1 K0 V0) [.ile 1 K0 V0] rfl (Int.le_max_right (b - a) (0))) ((BV (b - a) (0)).elim (fun z0=>lin [] [a,b,(max (b - a) 0)] (.ile 1 V2 K0) [.ige 1 V0 V1,.ieq 1 V2 (.sub V1 V0)] rfl q z0) (fun z0=>lin [] [(max (b - a) 0)] (.ile 1 V0 K0) [.ieq 1 V0 K0] rfl z0))
theorem rng_av (a b:Int):AD a 1 (AK a b 1)=(ivs a (b - a).toNat).map .int:=by
 have e:AK a b 1=(b - a).toNat:=by
  unfold AK
  rw [DI]
  exact Nat.le_antisymm ((Gi (b - a)).elim (fun z0=>(BV (b - a) (0)).elim (fun z1=>lin [((b - a).toNat),((max (b - a) 0).toNat)] [b,a,(max (b - a) 0)] (.nle 1 V1 V0) [.ile 1 (.sub V0 V1) (.c V0),.ieq 1 (.c V1) V2,.ieq 1 V2 (.sub V0 V1)] rfl (Int.self_le_toNat (b - a)) (Int.toNat_of_nonneg ((Int.le_max_right (b - a) (0)))) z1) (fun z1=>lin [((max (b - a) 0).toNat),((b - a).toNat)] [(max (b - a) 0)] (.nle 1 V0 V1) [.ieq 1 (.c V0) V0,.ieq 1 V0 K0] rfl (Int.toNat_of_nonneg ((Int.le_max_right (b - a) (0)))) z1)) (fun z0=>(BV (b - a) (0)).elim (fun z1=>lin [((max (b - a) 0).toNat),((b - a).toNat)] [(max (b - a) 0),b,a] (.nle 0 V0 V1) [.ile 1 K0 V0,.ilt 1 (.sub V1 V2) K0,.ieq 1 V0 (.sub V1 V2)] rfl (Int.le_max_right (b - a) (0)) z0.1 z1) (fun z1=>lin [((max (b - a) 0).toNat),((b - a).toNat)] [(max (b - a) 0)] (.nle 1 V0 V1) [.ieq 1 (.c V0) V0,.ieq 1 V0 K0] rfl (Int.toNat_of_nonneg ((Int.le_max_right (b - a) (0)))) z1))) ((Gi (b - a)).elim (fun z0=>lin [((max (b - a) 0).toNat),((b - a).toNat)] [(max (b - a) 0),b,a] (.nle 1 V1 V0) [.ile 1 V0 (.c V0),.ile 1 (.sub V1 V2) V0,.ieq 1 (.c V1) (.sub V1 V2)] rfl (Int.self_le_toNat (max (b - a) 0)) (Int.le_max_left (b - a) (0)) z0.2) (fun z0=>lin [((b - a).toNat),((max (b - a) 0).toNat)] [] (.nle 1 V0 V1) [.neq 1 V0 K0] rfl z0.2))
 rw [e,Cz]
theorem C1 {a b:Int} (h1:-1000000<=a) (h2:a<=1000000) (h3:-1000000<=b) (h4:b<=1000000):Builtin.Range.small a b 1=true:=by
 have fit:∀ i:Int,-10000000<=i->i<=10000000->Builtin.Range.rangeFitsLong i=true:=fun i h1 h2=>by
  unfold Builtin.Range.rangeFitsLong
  rw [Bool.and_eq_true,decide_eq_true_eq,decide_eq_true_eq]
  exact ⟨Int.le_trans (by decide) h1,Int.lt_of_le_of_lt h2 (by decide)⟩
 unfold Builtin.Range.small
 rw [DI,fit a (by exact lin [] [a] (.ile 1 BH V0) [.ile 1 A8 V0] rfl h1) (by exact lin [] [a] (.ile 1 V0 BA) [.ile 1 V0 Al] rfl h2),fit b (by exact lin [] [b] (.ile 1 BH V0) [.ile 1 A8 V0] rfl h3) (by exact lin [] [b] (.ile 1 V0 BA) [.ile 1 V0 Al] rfl h4),fit 1 (by decide) (by decide),fit _ (by exact lin [] [(max (b - a) 0)] (.ile 1 BH V0) [.ile 1 K0 V0] rfl (Int.le_max_right (b - a) (0))) (by exact (BV (b - a) (0)).elim (fun z0=>lin [] [a,b,(max (b - a) 0)] (.ile 1 V2 BA) [.ile 1 A8 V0,.ile 1 V1 Al,.ieq 1 V2 (.sub V1 V0)] rfl h1 h4 z0) (fun z0=>lin [] [(max (b - a) 0)] (.ile 1 V0 BA) [.ieq 1 V0 K0] rfl z0):max (b - a) 0<=10000000)]
 rw [if_pos (show (1:Int) > 0 by decide)]
 rw [fit (b+(1 - 1)) (by exact lin [] [b] (.ile 1 BH (.add V0 (.sub K1 K1))) [.ile 1 A8 V0] rfl h3) (by exact lin [] [b] (.ile 1 (.add V0 (.sub K1 K1)) BA) [.ile 1 V0 Al] rfl h4),Bool.or_true]
 rfl
theorem Go (n:Nat):AD 0 1 (AK 0 n 1)=(ivs 0 n).map .int:=by
 rw [rng_av,show ((n:Int) - 0).toNat=n by exact Nat.le_antisymm (lin [(((↑n:Int) - 0).toNat),n] [] (.nle 1 V0 V1) [.ieq 1 (.c V0) (.sub (.c V1) K0)] rfl (Int.toNat_of_nonneg (lin [n] [] (.ile 1 K0 (.sub (.c V0) K0)) [] rfl))) (lin [n,(((↑n:Int) - 0).toNat)] [] (.nle 1 V0 V1) [.ile 1 (.sub (.c V0) K0) (.c V1)] rfl (Int.self_le_toNat ((↑n:Int) - 0)))]
theorem mixed_ok {ex:List Nat}:FnOk ⟨true,ex,[],[],[]⟩ G7 .val 0 0 GY:=by
 refine .pureF fun avs v h K hK=>?_
 refine X1pp (Aw h) fun p h1 h=>?_
 refine X1pp (Aw h) fun k h2 h=>?_
 cases h
 obtain rfl:=two?_out h1
 rw [(int2?_out h2).1,(int2?_out h2).2]
 exact ⟨rfl,IntMulOk.of_right (by decide +kernel),IntMulOk.of_left (by decide +kernel),by decide,hK⟩
noncomputable def fAt:FS:=specF fun avs σ K zz=>∃ (l:List Int) (j:Nat),avs=[.nums l,.int j]/\l.length<=1000/\σ=[]/\K ⟨[],.val (.int (l.getD j 0))⟩ []
theorem at_ok {ex:List Nat}:FnOk ⟨true,ex,[],[],[]⟩ DW .val 0 0 fAt:=by
 refine .specF fun avs σ K X h=>?_
 refine X2pppp (h) fun l j he94_2 hl he94_4 hK=>?_
 subst he94_2
 subst he94_4
 refine ⟨rfl,Ai hl,?_⟩
 by_cases hj:j<l.length
 ·refine ifT (by rw [decide_eq_true_eq];exact lin [j,(l.length)] [] (.ilt 1 (.c V0) (.c V1)) [.nlt 1 V0 V1] rfl hj) ⟨⟨by exact lin [j] [] (.ile 1 K0 (.c V0)) [] rfl,by exact lin [(l.length),j] [] (.ilt 1 (.c V1) Al) [.nle 1 V0 AG,.nlt 1 V1 V0] rfl hl hj⟩,l.getD j 0,?_,hK⟩
  rw [show ((j:Int)).toNat=j by exact Nat.le_antisymm (lin [((↑j:Int).toNat),j] [] (.nle 1 V0 V1) [.ieq 1 (.c V0) (.c V1)] rfl (Int.toNat_of_nonneg (lin [j] [] (.ile 1 K0 (.c V0)) [] rfl))) (lin [j,((↑j:Int).toNat)] [] (.nle 1 V0 V1) [.ile 1 (.c V0) (.c V1)] rfl (Int.self_le_toNat ((↑j:Int)))),List.getElem?_eq_getElem hj,List.getD_eq_getElem?_getD,List.getElem?_eq_getElem hj];rfl
 ·refine ifF (by rw [decide_eq_false_iff_not];exact lin [j,(l.length)] [] (.ige 1 (.c V0) (.c V1)) [.nge 1 V0 V1] rfl hj) ?_
  have:l.getD j 0=0:=by rw [List.getD_eq_getElem?_getD,List.getElem?_eq_none (by exact lin [j,(l.length)] [] (.nle 1 V1 V0) [.nge 1 V0 V1] rfl hj)];rfl
  rw [this] at hK;exact hK
noncomputable abbrev Bp (t:AV) (P:List Ab):AV:=.inst (EA t (.dict (tt P)))
theorem Ih (P:List Ab):((tt P).map fun p=>sp p.1)=P.map sp:=by unfold tt;rw [List.map_map];rfl
noncomputable def fHas:FS:=specF fun avs σ K zz=>∃ t P k,avs=[Bp t P,sp k]/\σ=[]/\K ⟨[],.val (.bool (decide (k∈P)))⟩ []
theorem has_ok {ex:List Nat}:FnOk ⟨true,ex,[(31,fSpot)],[],[]⟩ c_Fhas .val 0 0 fHas:=by
 refine .specF fun avs σ K X h=>?_
 refine X3ppp (h) fun t P k he109_3 he109_4 hK=>?_
 subst he109_3
 subst he109_4
 exact ⟨rfl,⟨rfl,rfl⟩,rfl,_,A6 P k,hK⟩
noncomputable def JE:FS:=specF fun avs σ K zz=>∃ t P,avs=[Bp t P]/\P.length<=1000/\σ=[]/\K ⟨[.list (P.map sp)],.new 0⟩ []
theorem cells_ok {ex:List Nat}:FnOk ⟨true,ex,[],[],[]⟩ Hb .new 0 5 JE:=by
 refine .specF fun avs σ K X h=>?_
 refine X2pppp (h) fun t P he119_2 hl he119_4 hK=>?_
 subst he119_2
 subst he119_4
 exact ⟨rfl,⟨rfl,rfl⟩,rfl,Ai (by rw [BK];exact hl),fun a=>⟨rfl,by rw [Ih];exact hK⟩⟩
noncomputable def besL (P:List Ab) (k:Ab):List Ab:=(AY k).filter fun c=>decide (c∈P)
noncomputable def F1:FS:=specF fun avs σ K X=>∃ t P k,avs=[Bp t P,sp k]/\σ=[]/\k∈P/\K ⟨[.list ((besL P k).map sp)],.new 0⟩ []
theorem J4:FnOk ⟨true,[],[(34,JB)],[(15,fHas)],[]⟩ Fd .new 1 5 F1:=by
 refine .specF fun avs σ K X h=>?_
 refine X3pppp (h) fun t P k he125_3 he125_4 hk hK=>?_
 subst he125_3
 subst he125_4
 refine ⟨rfl,⟨rfl,rfl⟩,⟨rfl,rfl⟩,t,P,k,rfl,rfl,?_⟩
 rw [decide_eq_true hk]
 refine ⟨Ai (Nat.le_of_ble_eq_true rfl),?_⟩
 exact B9 (g:=sp) (f:=sp) (P:=fun c=>decide (c∈P)) rfl (fun x hx ys C h1 h2=>⟨⟨rfl,rfl⟩,rfl,_,A6 P x,ifB h1 h2⟩) fun a=>⟨rfl,hK⟩
end Mine
end
section
namespace Mine
open PySem PyProof.Rows PySem.W
noncomputable def ins (fs:List Ab) (k:Ab):List Ab:=if k∈fs then fs else fs++[k]
theorem ins_mem {fs:List Ab}{k x:Ab}:x∈ins fs k↔x∈fs\/x=k:=by
 unfold ins
 by_cases h:k∈fs
 ·rw [if_pos h]
  exact ⟨.inl,fun q=>q.elim id fun e=>e▸h⟩
 ·rw [if_neg h,List.mem_append,List.mem_singleton]
theorem Jn {fs:List Ab}{k:Ab} (n:fs.Nodup):(ins fs k).Nodup:=by
 unfold ins
 by_cases h:k∈fs
 ·rw [if_pos h];exact n
 ·rw [if_neg h,List.nodup_append]
  exact ⟨n,List.nodup_cons.mpr ⟨List.not_mem_nil,List.nodup_nil⟩,fun a ha b hb e=>h (by rw [<- List.mem_singleton.mp hb,<- e];exact ha)⟩
theorem G2 {fs:List Ab}{k:Ab} (n:fs.Nodup):Bj (tt fs) k (.bool true)=tt (ins fs k):=by
 unfold ins
 by_cases h:k∈fs
 ·rw [if_pos h]
  unfold Bj
  rw [A6,decide_eq_true h,if_pos rfl]
  unfold tt
  rw [List.map_map]
  apply List.map_congr_left
  intro x _
  by_cases e:x=k
  ·simp [e]
  ·simp [e]
 ·rw [if_neg h];exact F3 h
theorem B6 {x:Ab}:∀ {ks fs:List Ab},x∈ks.foldl ins fs↔x∈fs\/x∈ks
 | [],fs=>by simp
 | k::ks,fs=>by rw [List.foldl_cons,B6,ins_mem,List.mem_cons,or_assoc]
theorem Bu:∀ {ks fs:List Ab},fs.Nodup->(ks.foldl ins fs).Nodup
 | [],_,n=>n
 | k::ks,fs,n=>by rw [List.foldl_cons];exact Bu (Jn n)
noncomputable def lt2 (a b:Ab):Prop:=a.2<b.2\/(a.2=b.2/\a.1<b.1)
theorem FJ (a:Ab):¬ lt2 a a:=by unfold lt2;exact fun z0=>z0.elim (fun z1=>lin [] [(a.snd)] .no [.ilt 1 V0 V0] rfl z1) (fun z1=>lin [] [(a.fst)] .no [.ilt 1 V0 V0] rfl z1.2)
theorem lt2_asym {a b:Ab} (h:lt2 a b):¬ lt2 b a:=by unfold lt2 at *;exact fun z0=>h.elim (fun z1=>z0.elim (fun z2=>lin [] [(a.snd),(b.snd)] .no [.ilt 1 V0 V1,.ilt 1 V1 V0] rfl z1 z2) (fun z2=>lin [] [(a.snd),(b.snd)] .no [.ilt 1 V0 V1,.ieq 1 V1 V0] rfl z1 z2.1)) (fun z1=>z0.elim (fun z2=>lin [] [(a.snd),(b.snd)] .no [.ieq 1 V0 V1,.ilt 1 V1 V0] rfl z1.1 z2) (fun z2=>lin [] [(a.fst),(b.fst)] .no [.ilt 1 V0 V1,.ilt 1 V1 V0] rfl z1.2 z2.2))
theorem BY {l:List Ab} (h:l.Pairwise lt2):l.Nodup:=h.imp fun q e=>by subst e;exact FJ _ q
theorem Ic:∀ {l k:List Ab},l.Pairwise lt2->k.Pairwise lt2->(∀ x,x∈l↔x∈k)->l=k
 | [],[],_,_,_=>rfl
 | [],b::k,_,_,h=>by have:=(h b).mpr (.head _);cases this
 | a::l,[],_,_,h=>by have:=(h a).mp (.head _);cases this
 | a::l,b::k,hl,hk,h=>by
  rw [List.pairwise_cons] at hl hk
  have e:a=b:=by
   rcases List.mem_cons.mp ((h a).mp (.head _)) with q | q
   ·exact q
   ·rcases List.mem_cons.mp ((h b).mpr (.head _)) with z | z
    ·exact z.symm
    ·exact absurd (hk.1 a q) (lt2_asym (hl.1 b z))
  subst e
  congr 1
  refine Ic hl.2 hk.2 fun x=>⟨fun hx=>?_,fun hx=>?_⟩
  ·rcases List.mem_cons.mp ((h x).mp (.tail _ hx)) with q | q
   ·subst q;exact absurd (hl.1 x hx) (FJ _)
   ·exact q
  ·rcases List.mem_cons.mp ((h x).mpr (.tail _ hx)) with q | q
   ·subst q;exact absurd (hk.1 x hx) (FJ _)
   ·exact q
noncomputable def kyF (x:AV):Option Ab:=(spot? x).bind fun k=>some (k.2,k.1)
theorem lt2_key {a b:Ab} (h:At (Bh kyF (sp a)) (Bh kyF (sp b))=true):lt2 a b:=by
 exact pairLt_iff.mp (show At (a.2,a.1) (b.2,b.1)=true from h)
theorem sortW.spots {mu:Option Nat}{fs C:List Ab}{σ:LS}{K:KV} (n:fs.Nodup) (hC:C.Pairwise lt2) (hm:∀ x,x∈fs↔x∈C) (h64:C.length<64) (h:frW mu (.list (C.map sp)) (.list (C.map sp)) σ K):sortW kyF mu (fs.map sp) σ K:=by
 refine ⟨⟨fun x hx=>by refine X1pp (List.mem_map.mp hx) fun k zz he100_2=>?_;subst he100_2;rfl,?_,?_⟩,fun L' hL=>?_⟩
 ·rw [List.length_map,same_length n (BY hC) hm];exact h64
 ·rw [List.map_map]
  refine List.pairwise_map.mpr (n.imp fun q e=>q ?_)
  have e:((_,_):Ab)=(_,_):=e
  exact Prod.ext (Prod.mk.inj e).2 (Prod.mk.inj e).1
 ·refine Ad (hL) fun p hL=>?_
  have:∃ D:List Ab,L'=D.map sp:=by
   refine ⟨L'.map fun x=>let k:=Bh kyF x;(k.2,k.1),?_⟩
   rw [List.map_map]
   refine (List.map_id L').symm.trans (List.map_congr_left fun x hx=>?_)
   refine X1pp (List.mem_map.mp (p.mem_iff.mp hx)) fun k zz he111_2=>?_
   subst he111_2
   rfl
  refine X1p (this) fun D he113_1=>?_
  subst he113_1
  have hD:D.Pairwise lt2:=(List.pairwise_map.mp hL).imp lt2_key
  have inj:∀ a b:Ab,sp a=sp b->a=b:=fun a b e=>by
   have e:=AV.tup.inj e
   exact Prod.ext (AV.int.inj (List.cons.inj e).1) (AV.int.inj (List.cons.inj (List.cons.inj e).2).1)
  have:D=C:=Ic hD hC fun x=>by
   rw [<- hm]
   constructor
   ·intro hx
    refine X1pp (List.mem_map.mp (p.mem_iff.mp (List.mem_map_of_mem hx))) fun k hk e=>?_
    rw [<- inj _ _ e];exact hk
   ·intro hx
    refine X1pp (List.mem_map.mp (p.mem_iff.mpr (List.mem_map_of_mem hx))) fun k hk e=>?_
    rw [<- inj _ _ e];exact hk
  subst this
  exact h
theorem EZ:∀ {ks fs:List Ab},(ks.foldl ins fs).length<=fs.length+ks.length
 | [],fs=>Nat.le_refl _
 | k::ks,fs=>by
  rw [List.foldl_cons]
  refine Nat.le_trans EZ ?_
  have:(ins fs k).length<=fs.length+1:=by
   unfold ins
   split<;>simp
  rw [List.length_cons];exact lin [((ins fs k).length),(fs.length),(ks.length)] [] (.nle 1 (.add V0 V2) (.add V1 (.add V2 K1))) [.nle 1 V0 (.add V1 K1)] rfl this
end Mine
end
section
namespace Mine
open PySem PySem.Builtin PySem.Builtin.Str
noncomputable def AX (s sub:Str) (hi i:Nat) (r:Array Nat×Nat):Id (ForInStep (Array Nat×Nat)) :=
 if (decide (r.1.size<1) && decide (r.2<=i) && decide (i+sub.length<=hi) && subAt s sub i)=true then pure (.yield (r.1.push i,i+sub.length)) else pure (.yield (r.1,r.2))
theorem CM (s sub:Str) (hi:Nat):∀ (L:List Nat) (f:Array Nat) (fr:Nat),(f=#[]->fr=0) ->
  (Id.run (forIn (m:=Id) L ((f,fr):Array Nat×Nat) (AX s sub hi))).1.isEmpty=(f.isEmpty && !(L.any fun i=>decide (i+sub.length<=hi) && subAt s sub i))
 | [],f,fr,h=>by simp
 | i::L,f,fr,h=>by
  rw [List.forIn_cons]
  by_cases q:f=#[]
  ·obtain rfl:=q
   obtain rfl:=h rfl
   by_cases p:(decide (i+sub.length<=hi) && subAt s sub i)=true
   ·have e:AX s sub hi i (#[],0)=pure (.yield (#[i],i+sub.length)):=by
     unfold AX
     rw [if_pos (by simp;simpa using p)];rfl
    rw [e]
    show (Id.run (forIn (m:=Id) L ((#[i],i+sub.length):Array Nat×Nat) (AX s sub hi))).1.isEmpty=_
    rw [CM s sub hi L _ _ (fun z=>by simp at z)]
    rw [List.any_cons,p];simp
   ·have e:AX s sub hi i (#[],0)=pure (.yield (#[],0)):=by
     unfold AX
     rw [if_neg (by simp;simpa using p)]
    rw [e]
    show (Id.run (forIn (m:=Id) L ((#[],0):Array Nat×Nat) (AX s sub hi))).1.isEmpty=_
    rw [CM s sub hi L _ _ (fun zz=>rfl)]
    have p':(decide (i+sub.length<=hi) && subAt s sub i)=false:=by simpa using p
    rw [List.any_cons,p',Bool.false_or]
  ·have e:AX s sub hi i (f,fr)=pure (.yield (f,fr)):=by
    unfold AX
    have:¬ f.size<1:=fun z=>q (Array.eq_empty_of_size_eq_zero (by exact Nat.le_antisymm (lin [(f.size)] [] (.nle 1 V0 K0) [.nlt 1 V0 K1] rfl z) (lin [(f.size)] [] (.nle 1 K0 V0) [] rfl)))
    rw [if_neg (by simp [this])]
   rw [e]
   show (Id.run (forIn (m:=Id) L ((f,fr):Array Nat×Nat) (AX s sub hi))).1.isEmpty=_
   rw [CM s sub hi L _ _ h]
   have:f.isEmpty=false:=by
    cases z:f.isEmpty with
    | false=>rfl
    | true=>exact absurd (Array.isEmpty_iff.mp z) q
   simp [this]
theorem Dn (a:Array Nat) (i:Nat) (h:i<a.size):a.extract i (i+1)=#[a[i]]:=by
 apply Array.ext
 ·simp;exact Nat.le_antisymm ((sub_sp (Min.min (i+1) a.size) (i)).elim (fun z0=>lin [(Min.min (i+1) a.size),i,(Min.min (i+1) a.size - i)] [] (.nle 1 V2 K1) [.nle 1 V0 (.add V1 K1),.neq 1 (.add V2 V1) V0] rfl (Nat.min_le_left (i+1) (a.size)) z0.2) (fun z0=>lin [(Min.min (i+1) a.size - i)] [] (.nle 1 V0 K1) [.neq 1 V0 K0] rfl z0.2)) ((sub_sp (Min.min (i+1) a.size) (i)).elim (fun z0=>(IW (i+1) (a.size)).elim (fun z1=>lin [(Min.min (i+1) a.size),i,(Min.min (i+1) a.size - i)] [] (.nle 1 K1 V2) [.nle 1 V0 (.add V1 V2),.neq (-1) V0 (.add V1 K1)] rfl (Nat.sub_le_iff_le_add'.mp (Nat.le_refl ((Min.min (i+1) a.size) - (i)))) z1) (fun z1=>lin [i,(a.size),(Min.min (i+1) a.size),(Min.min (i+1) a.size - i)] [] (.nle 1 K1 V3) [.nlt 1 V0 V1,.nle 1 V2 (.add V0 V3),.neq (-1) V2 V1] rfl h (Nat.sub_le_iff_le_add'.mp (Nat.le_refl ((Min.min (i+1) a.size) - (i)))) z1)) (fun z0=>(IW (i+1) (a.size)).elim (fun z1=>lin [(Min.min (i+1) a.size),i,(Min.min (i+1) a.size - i)] [] (.nle 0 K1 V2) [.nlt 1 V0 V1,.neq (-1) V0 (.add V1 K1)] rfl z0.1 z1) (fun z1=>lin [i,(a.size),(Min.min (i+1) a.size),(Min.min (i+1) a.size - i)] [] (.nle 0 K1 V3) [.nlt 1 V0 V1,.nlt 1 V2 V0,.neq (-1) V2 V1] rfl h z0.1 z1)))
 ·intro j h1 h2
  have:j=0:=by simp at h2;exact Nat.le_antisymm (lin [j] [] (.nle 1 V0 K0) [.neq 1 V0 K0] rfl h2) (lin [j] [] (.nle 1 K0 V0) [] rfl)
  subst this
  simp
theorem Ep (x:Str):Txt.contains x "#"=x.cps.any (· == 35):=by
 have e:Txt.contains x "#"=!(Id.run (forIn (m:=Id) [0:x.length+1] ((#[],0):Array Nat×Nat) (AX x "#" x.length))).1.isEmpty:=by
  unfold Txt.contains occurrences
  show (!(Id.run (forIn (m:=Id) [0:x.length+1] ((#[],0):Array Nat×Nat) (AX x "#" x.length))).1.toList.isEmpty)=_
  rw [Array.isEmpty_toList]
 rw [e,Std.Legacy.Range.forIn_eq_forIn_range',CM x "#" x.length _ _ _ (fun zz=>rfl)]
 simp only [Array.isEmpty_empty,Bool.true_and,Bool.not_not]
 rw [Bool.eq_iff_iff,List.any_eq_true,Array.any_eq_true]
 have h1:("#":Str).length=1:=by decide
 have h2:("#":Str).cps=#[35]:=by decide
 constructor
 ·rintro ⟨i,hi,h⟩
  simp only [h1,Bool.and_eq_true,decide_eq_true_eq,subAt,h2,beq_iff_eq] at h
  refine Ad (h) fun h3 h4=>?_
  have lt:i<x.cps.size:=h3
  refine ⟨i,lt,?_⟩
  rw [Dn _ _ lt] at h4
  simp at h4 ⊢;exact h4
 ·rintro ⟨i,hi,h⟩
  refine ⟨i,by simp [Str.length];exact lin [i,(x.cps.size)] [] (.nlt 1 V0 (.add V1 K1)) [.nlt 1 V0 V1] rfl hi,?_⟩
  simp only [h1,Bool.and_eq_true,decide_eq_true_eq,subAt,h2,beq_iff_eq]
  refine ⟨hi,?_⟩
  rw [Dn _ _ hi]
  simp at h ⊢;exact h
end Mine
end
section
namespace Mine
open PySem PySem.Builtin PySem.Builtin.Str
theorem D0 (x y:Str):(x++y).cps.toList=x.cps.toList++y.cps.toList:=by
 show (Str.append x y).cps.toList=_
 unfold Str.append
 simp
theorem app_len (x y:Str):(x++y).length=x.length+y.length:=by
 show (Str.append x y).cps.size=x.cps.size+y.cps.size
 unfold Str.append
 simp
theorem Dk (b:Array Nat):∀ (n:Nat) (a:Array Nat),((List.replicate n b).foldl (·++·) a).toList=a.toList++(List.replicate n b.toList).flatten
 | 0,a=>by simp
 | n+1,a=>by
  rw [List.replicate_succ,List.foldl_cons,Dk b n]
  simp [List.replicate_succ]
set_option tactic.hygienic true in
theorem HI (x:Str) (n:Int):(Txt.mul x n).cps.toList=(List.replicate n.toNat x.cps.toList).flatten:=by
 unfold Txt.mul
 split
 ·rw [show n.toNat=0 by omega];rfl
 ·split
  ·rename_i q
   rw [Bool.or_eq_true,beq_iff_eq,beq_iff_eq] at q
   rcases q with rfl | q
   ·simp
   ·have:x.cps.toList=[]:=by
     have h:x.cps.size=0:=q
     rw [<- List.length_eq_zero_iff,Array.length_toList];exact h
    rw [this];simp
  ·rw [Dk];simp
theorem Ee (c:Nat) (n:Int):(Txt.mul ⟨#[c]⟩ n).cps.toList=List.replicate n.toNat c:=by
 rw [HI];simp [List.flatten_replicate_singleton]
theorem mul_ok {x:Str}{n:Int} (hx:x.length<=100) (h1:n<=100) (h0:-100<=n):MulOk x n:=by
 refine ⟨?_,fun h1' zz=>?_,fun h1' zz=>?_⟩
 ·simp;exact ⟨lin [] [n] (.ile 1 By V0) [.ile 1 Km100 V0] rfl h0,lin [] [n] (.ilt 1 V0 BJ) [.ile 1 V0 H5] rfl h1⟩
 ·have:(2 ^ 63 - 1) / n >= 92233720368547758:=by
   have:(92233720368547758:Int)<=(2 ^ 63 - 1) / n:=by
    rw [Int.le_ediv_iff_mul_le (by exact lin [] [n] (.ilt 1 K0 V0) [.ige 1 V0 K1] rfl h1')]
    have:92233720368547758 * n<=92233720368547758 * 100:=Int.mul_le_mul_of_nonneg_left h1 (by decide)
    omega
   exact this
  exact lin [(x.length)] [((2 ^ 63 - 1) / n)] (.ige 1 V0 (.c V0)) [.nle 1 V0 H5,.ile 1 Cg V0] rfl hx this
 ·unfold tooLong
  have:x.length * n.toNat<=100 * 100:=Nat.mul_le_mul hx (by exact lin [(n.toNat)] [n] (.nle 1 V0 H5) [.ile 1 V0 H5,.ieq 1 (.c V0) V0] rfl h1 (Int.toNat_of_nonneg (lin [] [n] (.ile 1 K0 V0) [.ige 1 V0 K1] rfl h1')))
  simp [sizeLine];exact lin [(x.length * n.toNat)] [] (.nle 1 V0 AH) [.nle 1 V0 (.mul 100 H5)] rfl this
theorem EX (ys:List Str):(Txt.join "" ys).cps.toList=(ys.map (·.cps.toList)).flatten:=by
 have he:("":Str).cps=#[]:=by decide +kernel
 have key:∀ (l:List Str) (a:Array Nat),(l.foldl (fun acc p=>acc++("":Str).cps++p.cps) a).toList=a.toList++(l.map (·.cps.toList)).flatten:=by
  intro l
  induction l with
  | nil=>intro a;simp
  | cons p l ih=>intro a;rw [List.foldl_cons,ih,he];simp
 unfold Txt.join glued
 cases ys with
 | nil=>rfl
 | cons y r=>simp only [List.headD_cons,List.drop_one,List.tail_cons];rw [key];simp
end Mine
end
section
namespace Mine
open PySem
noncomputable def sgn:Bool->Nat
 | true=>35
 | false=>46
noncomputable def BL (r:List Bool):Str:=⟨(r.map sgn).toArray⟩
noncomputable abbrev Gr:=List (List Bool)
noncomputable def Aj (G:Gr):List AV:=G.map fun r=>.str (BL r)
structure Grid (G:Gr) (w:Nat):Prop where
 h1:1<=G.length
 h6:G.length<=6
 w1:1<=w
 w6:w<=6
 len:∀ r∈G,r.length=w
theorem Az (r:List Bool):(BL r).length=r.length:=by
 show (BL r).cps.size=_
 unfold BL;simp
theorem DG (r:List Bool):(BL r).cps.all (·<128)=true:=by
 rw [Array.all_eq_true_iff_forall_mem]
 intro c hc
 have:c∈r.map sgn:=by unfold BL at hc;simpa using hc
 refine X1pp (List.mem_map.mp this) fun b zz he28_2=>?_
 subst he28_2
 cases b<;>rfl
theorem IB (r:List Bool):Txt.contains (BL r) "#"=r.any id:=by
 rw [Ep]
 have:(BL r).cps.any (· == 35)=(r.map sgn).any (· == 35):=by unfold BL;simp
 rw [this,List.any_map]
 congr 1
 funext b
 cases b<;>rfl
noncomputable def Br (y x:Int):List Bool->List Sp
 | []=>[]
 | b::r=>match b with
  | true=>(x,y)::Br y (x+1) r
  | false=>Br y (x+1) r
noncomputable def Bc (y:Int):Gr->List Sp
 | []=>[]
 | r::G=>Br y 0 r++Bc (y+1) G
noncomputable def Aa (G:Gr):List Sp:=Bc 0 G
theorem CI {y:Int}:∀ {r:List Bool}{x:Int},(Br y x r).length<=r.length
 | [],_=>Nat.le_refl _
 | b::r,x=>by
  have:=CI (y:=y) (r:=r) (x:=x+1)
  cases b
  ·show (Br y (x+1) r).length<=r.length+1;exact lin [((Br y (x+1) r).length),(r.length)] [] (.nle 1 V0 (.add V1 K1)) [.nle 1 V0 V1] rfl this
  ·show (Br y (x+1) r).length+1<=r.length+1;exact lin [((Br y (x+1) r).length),(r.length)] [] (.nle 1 (.add V0 K1) (.add V1 K1)) [.nle 1 V0 V1] rfl this
theorem BG {w:Nat}:∀ {G:Gr}{y:Int},(∀ r∈G,r.length=w)->(Bc y G).length<=G.length * w
 | [],_,_=>Nat.zero_le _
 | r::G,y,h=>by
  rw [Bc,List.length_append,List.length_cons,Nat.succ_mul]
  have h1:=CI (y:=y) (r:=r) (x:=0)
  have h2:=BG (y:=y+1) fun s hs=>h s (.tail _ hs)
  have h3:=h r (.head _)
  exact lin [((Br y 0 r).length),(r.length),((Bc (y+1) G).length),(G.length * w),w] [] (.nle 1 (.add V0 V2) (.add V3 V4)) [.nle 1 V0 V1,.nle 1 V2 V3,.neq 1 V1 V4] rfl h1 h2 h3
theorem Grid.cells {G:Gr}{w:Nat} (g:Grid G w):(Aa G).length<=36:=by
 have h1:=BG (y:=0) g.len
 have h2:G.length * w<=6 * 6:=Nat.mul_le_mul g.h6 g.w6
 unfold Aa;exact lin [((Bc 0 G).length),(List.length G * w)] [] (.nle 1 V0 K36) [.nle 1 V0 V1,.nle 1 V1 (.mul 6 K6)] rfl h1 h2
noncomputable def bit (r:List Bool) (x:Int):Prop:=0<=x/\r[x.toNat]?=some true
theorem rowC_mem {y:Int}{k:Sp}:∀ {r:List Bool}{x:Int},k∈Br y x r↔k.2=y/\bit r (k.1 - x)
 | [],x=>by
  constructor
  ·intro h;cases h
  ·rintro ⟨_,_,h⟩;cases h
 | b::r,x=>by
  have ih:=rowC_mem (y:=y) (k:=k) (r:=r) (x:=x+1)
  have key:k.2=y/\bit (b::r) (k.1 - x)↔(k=(x,y)/\b=true)\/(k.2=y/\bit r (k.1 - (x+1))):=by
   unfold bit
   by_cases e:k.1=x
   ·have e0:(k.1 - x).toNat=0:=by exact Nat.le_antisymm (lin [((k.fst - x).toNat)] [(k.fst),x] (.nle 1 V0 K0) [.ieq 1 V0 V1,.ieq 1 (.c V0) (.sub V0 V1)] rfl e (Int.toNat_of_nonneg (lin [] [(k.fst),x] (.ile 1 K0 (.sub V0 V1)) [.ieq (-1) V0 V1] rfl e))) (lin [((k.fst - x).toNat)] [] (.nle 1 K0 V0) [] rfl)
    rw [e0]
    constructor
    ·rintro ⟨h1,_,h2⟩
     exact .inl ⟨Prod.ext e h1,Option.some.inj h2⟩
    ·rintro (⟨h1,h2⟩ | ⟨_,h2,_⟩)
     ·subst h1;subst h2;exact ⟨rfl,by exact lin [] [((x,y).fst)] (.ile 1 K0 (.sub V0 V0)) [] rfl,rfl⟩
     ·omega
   ·constructor
    ·rintro ⟨h1,h2,h3⟩
     refine .inr ⟨h1,by exact (Int.lt_or_gt_of_ne e).elim (fun z0=>lin [] [(k.fst),x] (.ile 0 K0 (.sub V0 (.add V1 K1))) [.ile 1 K0 (.sub V0 V1),.ilt 1 V0 V1] rfl h2 z0) (fun z0=>lin [] [x,(k.fst)] (.ile 1 K0 (.sub V1 (.add V0 K1))) [.ilt 1 V0 V1] rfl z0),?_⟩
     rw [show (k.1 - x).toNat=(k.1 - (x+1)).toNat+1 by exact Nat.le_antisymm (lin [((k.fst - (x+1)).toNat),((k.fst - x).toNat)] [(k.fst),x] (.nle 1 V1 (.add V0 K1)) [.ile 1 (.sub V0 (.add V1 K1)) (.c V0),.ieq 1 (.c V1) (.sub V0 V1)] rfl (Int.self_le_toNat (k.fst - (x+1))) (Int.toNat_of_nonneg (h2))) ((Int.lt_or_gt_of_ne e).elim (fun z0=>lin [((k.fst - (x+1)).toNat),((k.fst - x).toNat)] [(k.fst),x] (.nle 0 (.add V0 K1) V1) [.ile 1 K0 (.sub V0 V1),.ilt 1 V0 V1] rfl h2 z0) (fun z0=>lin [((k.fst - x).toNat),((k.fst - (x+1)).toNat)] [(k.fst),x] (.nle 1 (.add V1 K1) V0) [.ile 1 (.sub V0 V1) (.c V0),.ieq 1 (.c V1) (.sub V0 (.add V1 K1))] rfl (Int.self_le_toNat (k.fst - x)) (Int.toNat_of_nonneg (lin [] [x,(k.fst)] (.ile 1 K0 (.sub V1 (.add V0 K1))) [.ilt 1 V0 V1] rfl z0))))] at h3
     exact h3
    ·rintro (⟨h1,_⟩ | ⟨h1,h2,h3⟩)
     ·exact absurd (congrArg Prod.fst h1) e
     ·refine ⟨h1,by exact lin [] [(k.fst),x] (.ile 1 K0 (.sub V0 V1)) [.ile 1 K0 (.sub V0 (.add V1 K1))] rfl h2,?_⟩
      rw [show (k.1 - x).toNat=(k.1 - (x+1)).toNat+1 by exact Nat.le_antisymm (lin [((k.fst - (x+1)).toNat),((k.fst - x).toNat)] [(k.fst),x] (.nle 1 V1 (.add V0 K1)) [.ile 1 (.sub V0 (.add V1 K1)) (.c V0),.ieq 1 (.c V1) (.sub V0 V1)] rfl (Int.self_le_toNat (k.fst - (x+1))) (Int.toNat_of_nonneg (lin [] [(k.fst),x] (.ile 1 K0 (.sub V0 V1)) [.ile 1 K0 (.sub V0 (.add V1 K1))] rfl h2))) (lin [((k.fst - x).toNat),((k.fst - (x+1)).toNat)] [(k.fst),x] (.nle 1 (.add V1 K1) V0) [.ile 1 (.sub V0 V1) (.c V0),.ieq 1 (.c V1) (.sub V0 (.add V1 K1))] rfl (Int.self_le_toNat (k.fst - x)) (Int.toNat_of_nonneg (h2)))]
      exact h3
  rw [key,<- ih]
  cases b
  ·show k∈Br y (x+1) r↔_
   simp
  ·show k∈(x,y)::Br y (x+1) r↔_
   rw [List.mem_cons];simp
noncomputable def has (G:Gr) (k:Sp):Prop:=0<=k.2/\∃ r,G[k.2.toNat]?=some r/\bit r k.1
theorem cellsF_mem {k:Sp}:∀ {G:Gr}{y:Int},k∈Bc y G↔has G (k.1,k.2 - y)
 | [],y=>by
  constructor
  ·intro h;cases h
  ·rintro ⟨_,r,h,_⟩;cases h
 | r::G,y=>by
  rw [Bc,List.mem_append,rowC_mem,cellsF_mem (G:=G)]
  unfold has
  dsimp only
  rw [Int.sub_zero]
  by_cases e:k.2=y
  ·have e0:(k.2 - y).toNat=0:=by exact Nat.le_antisymm (lin [((k.snd - y).toNat)] [(k.snd),y] (.nle 1 V0 K0) [.ieq 1 V0 V1,.ieq 1 (.c V0) (.sub V0 V1)] rfl e (Int.toNat_of_nonneg (lin [] [(k.snd),y] (.ile 1 K0 (.sub V0 V1)) [.ieq (-1) V0 V1] rfl e))) (lin [((k.snd - y).toNat)] [] (.nle 1 K0 V0) [] rfl)
   rw [e0]
   constructor
   ·rintro (⟨_,h⟩ | ⟨h,_⟩)
    ·exact ⟨by exact lin [] [(k.snd),y] (.ile 1 K0 (.sub V0 V1)) [.ieq (-1) V0 V1] rfl e,r,rfl,h⟩
    ·omega
   ·rintro ⟨_,r',h1,h2⟩
    exact .inl ⟨e,by rw [Option.some.inj h1];exact h2⟩
  ·constructor
   ·rintro (⟨h,_⟩ | ⟨h,r',h1,h2⟩)
    ·exact absurd h e
    ·refine ⟨by exact lin [] [(k.snd),y] (.ile 1 K0 (.sub V0 V1)) [.ile 1 K0 (.sub V0 (.add V1 K1))] rfl h,r',?_,h2⟩
     rw [show (k.2 - y).toNat=(k.2 - (y+1)).toNat+1 by exact Nat.le_antisymm (lin [((k.snd - (y+1)).toNat),((k.snd - y).toNat)] [(k.snd),y] (.nle 1 V1 (.add V0 K1)) [.ile 1 (.sub V0 (.add V1 K1)) (.c V0),.ieq 1 (.c V1) (.sub V0 V1)] rfl (Int.self_le_toNat (k.snd - (y+1))) (Int.toNat_of_nonneg (lin [] [(k.snd),y] (.ile 1 K0 (.sub V0 V1)) [.ile 1 K0 (.sub V0 (.add V1 K1))] rfl h))) (lin [((k.snd - y).toNat),((k.snd - (y+1)).toNat)] [(k.snd),y] (.nle 1 (.add V1 K1) V0) [.ile 1 (.sub V0 V1) (.c V0),.ieq 1 (.c V1) (.sub V0 (.add V1 K1))] rfl (Int.self_le_toNat (k.snd - y)) (Int.toNat_of_nonneg (h)))];exact h1
   ·rintro ⟨h,r',h1,h2⟩
    refine .inr ⟨by exact (Int.lt_or_gt_of_ne e).elim (fun z0=>lin [] [(k.snd),y] (.ile 0 K0 (.sub V0 (.add V1 K1))) [.ile 1 K0 (.sub V0 V1),.ilt 1 V0 V1] rfl h z0) (fun z0=>lin [] [y,(k.snd)] (.ile 1 K0 (.sub V1 (.add V0 K1))) [.ilt 1 V0 V1] rfl z0),r',?_,h2⟩
    rw [show (k.2 - y).toNat=(k.2 - (y+1)).toNat+1 by exact Nat.le_antisymm (lin [((k.snd - (y+1)).toNat),((k.snd - y).toNat)] [(k.snd),y] (.nle 1 V1 (.add V0 K1)) [.ile 1 (.sub V0 (.add V1 K1)) (.c V0),.ieq 1 (.c V1) (.sub V0 V1)] rfl (Int.self_le_toNat (k.snd - (y+1))) (Int.toNat_of_nonneg (h))) ((Int.lt_or_gt_of_ne e).elim (fun z0=>lin [((k.snd - (y+1)).toNat),((k.snd - y).toNat)] [(k.snd),y] (.nle 0 (.add V0 K1) V1) [.ile 1 K0 (.sub V0 V1),.ilt 1 V0 V1] rfl h z0) (fun z0=>lin [((k.snd - y).toNat),((k.snd - (y+1)).toNat)] [(k.snd),y] (.nle 1 (.add V1 K1) V0) [.ile 1 (.sub V0 V1) (.c V0),.ieq 1 (.c V1) (.sub V0 (.add V1 K1))] rfl (Int.self_le_toNat (k.snd - y)) (Int.toNat_of_nonneg (lin [] [y,(k.snd)] (.ile 1 K0 (.sub V1 (.add V0 K1))) [.ilt 1 V0 V1] rfl z0))))] at h1;exact h1
theorem cellsOf_mem {G:Gr}{k:Sp}:k∈Aa G↔has G k:=by
 unfold Aa
 rw [cellsF_mem,Int.sub_zero]
theorem Grid.in {G:Gr}{w:Nat} (g:Grid G w) {k:Sp} (h:k∈Aa G):0<=k.1/\k.1<w/\0<=k.2/\k.2<G.length:=by
 refine Ad (cellsOf_mem.mp h) fun h1 hy139_0=>?_
 refine X1ppp (hy139_0) fun r h2 h3 h4=>?_
 have e1:k.2.toNat<G.length:=by
  rcases Nat.lt_or_ge k.2.toNat G.length with z | z
  ·exact z
  ·rw [List.getElem?_eq_none z] at h2;cases h2
 have e2:k.1.toNat<r.length:=by
  rcases Nat.lt_or_ge k.1.toNat r.length with z | z
  ·exact z
  ·rw [List.getElem?_eq_none z] at h4;cases h4
 rw [g.len r (List.mem_of_getElem? h2)] at e2
 exact ⟨h3,⟨lin [(k.fst.toNat),w] [(k.fst)] (.ilt 1 V0 (.c V1)) [.nlt 1 V0 V1,.ile 1 V0 (.c V0)] rfl e2 (Int.self_le_toNat (k.fst)),⟨h1,lin [(k.snd.toNat),(List.length G)] [(k.snd)] (.ilt 1 V0 (.c V1)) [.nlt 1 V0 V1,.ile 1 V0 (.c V0)] rfl e1 (Int.self_le_toNat (k.snd))⟩⟩⟩
end Mine
end
section
namespace Mine
open PySem PyProof.Rows PySem.W
noncomputable def Fb:Ag:=⟨[1069911684040970207347,527765816213619,1023794753487939567732],1,[.ite (.or [(.not (.call (.g 1) [(.v 0),(.g 5)])),(.not (.cmp2 .LtE .LtE (.int 1) (.call (.g 0) [(.v 0)]) (.g 28)))]) [.ret (.bool false)] [],.for_ (.v 1) (.v 0) [.ite (.or [(.not (.call (.g 1) [(.v 1),(.g 6)])),(.not (.cmp2 .LtE .LtE (.int 1) (.call (.g 0) [(.v 1)]) (.g 28)))]) [.ret (.bool false)] []],.for_ (.v 1) (.v 0) [.ite (.or [(.cmp .NotEq (.call (.g 0) [(.v 1)]) (.call (.g 0) [(.sub (.v 0) (.int 0))])),(.not (.call (.g 15) [(.comp (.cmp .In (.v 2) (.tup [(.str "#"),(.str ".")])) 2 (.v 1) [])]))]) [.ret (.bool false)] []],.ret (.call (.g 16) [(.comp (.cmp .In (.str "#") (.v 1)) 1 (.v 0) [])])]⟩
noncomputable def c_Finit:Ag:=⟨[950007799183325528180,1069911684040970207347,122,527765816213619,121,1023794753487939567732,4097048886990981419611689351905378],2,[.ite (.not (.call (.g 36) [(.v 1)])) [.raise (.call (.g 19) [(.str "no rows of a floor")])] [],.setattr (.v 0) 11 (.call (.g 5) [(.v 1)]),.setattr (.v 0) 12 (.mu 2 (.dict [] [])),.for_ (.tup [(.v 2),(.v 3)]) (.call (.g 9) [(.v 1)]) [.for_ (.tup [(.v 4),(.v 5)]) (.call (.g 9) [(.v 3)]) [.ite (.cmp .Eq (.v 5) (.str "#")) [.setitem (.attr (.v 0) 12) (.tup [(.v 4),(.v 2)]) (.bool true)] []]],.ite (.cmp .NotEq (.call (.g 0) [(.call (.g 35) [(.sub (.call (.g 5) [(.attr (.v 0) 12)]) (.int 0)),(.attr (.v 0) 12)])]) (.call (.g 0) [(.attr (.v 0) 12)])) [.raise (.call (.g 20) [(.str "the cells don't hang together")])] [],.assign (.v 6) (.meth (.v 0) 13 []),.ite (.cmp .NotEq (.call (.g 0) [(.call (.g 35) [(.tup [(.neg (.int 1)),(.neg (.int 1))]),(.v 6)])]) (.call (.g 0) [(.v 6)])) [.raise (.call (.g 21) [(.str "the floor has a hole")])] []]⟩
noncomputable def Fe:Ag:=⟨[950007799183325528180,1953625148292055806928486503,122,121],1,[.assign (.v 1) (.mu 4 (.dict [] [])),.for_ (.v 2) (.call (.g 8) [(.neg (.int 1)),(.bin .Add (.call (.g 0) [(.attr (.v 0) 11)]) (.int 1))]) [.for_ (.v 3) (.call (.g 8) [(.neg (.int 1)),(.bin .Add (.call (.g 0) [(.sub (.attr (.v 0) 11) (.int 0))]) (.int 1))]) [.ite (.cmp .NotIn (.tup [(.v 3),(.v 2)]) (.attr (.v 0) 12)) [.setitem (.v 1) (.tup [(.v 3),(.v 2)]) (.bool true)] []]],.ret (.v 1)]⟩
noncomputable def BN:Ag:=⟨[43400774030903411559313583009360306713791419551580256,21408724918500336958217017566162088846755364960,4908344980994869975741078519677024],1,[.ret (.comp (.meth (.str "") 8 [(.comp (.sub (.v 1) (.v 2)) 1 (.v 0) [])]) 2 (.call (.g 8) [(.call (.g 0) [(.sub (.v 0) (.int 0))])]) [])]⟩
noncomputable def DU:Ag:=⟨[40781761134340005352671968699721311000275178949181536,38162751270679647559043826811439900761170624565477472,41530048723813142729217903034956150661808146096324704,82387004051865245371686842551052123159162781809304687083616,43400774030903411559313583009360306713791419551580256,21408724918500093569301773746117001479739932768,39285182565683693105776214804091086361059948067029088,4948909800202173316588973022249056,189233104125022861345122375117010683388186817415792500651818221664,38162752697926829841696715377274495193841980311339104,91802656280800312142504332077630959006909194449134567817312,87094826237817180438285548473054639082591576189006493253728],3,[.assign (.v 3) (.bin .Add (.int 2) (.bin .Mod (.v 0) (.int 5))),.assign (.v 4) (.mu 4 (.list [])),.assign (.tup [(.v 5),(.v 6)]) (.tup [(.int 0),(.bin .Sub (.v 3) (.int 1))]),.for_ (.v 7) (.call (.g 8) [(.bin .Add (.int 1) (.bin .Mod (.bin .FloorDiv (.v 0) (.int 5)) (.int 6)))]) [.assign (.v 8) (.call (.g 73) [(.v 1),(.v 7)]),.assign (.v 9) (.ite (.v 2) (.bin .Mult (.int 2) (.bin .Add (.int 1) (.bin .Mod (.v 8) (.bin .FloorDiv (.v 3) (.int 2))))) (.bin .Add (.int 1) (.bin .Mod (.v 8) (.v 3)))),.assign (.v 10) (.call (.g 14) [(.int 0),(.bin .Add (.bin .Sub (.v 5) (.v 9)) (.int 1))]),.assign (.v 11) (.bin .Add (.v 10) (.bin .Mod (.bin .FloorDiv (.v 8) (.int 30)) (.bin .Add (.bin .Sub (.call (.g 13) [(.bin .Sub (.v 3) (.v 9)),(.v 6)]) (.v 10)) (.int 1)))),.expr (.meth (.v 4) 0 [(.bin .Add (.bin .Add (.bin .Mult (.str ".") (.v 11)) (.bin .Mult (.str "#") (.v 9))) (.bin .Mult (.str ".") (.bin .Sub (.bin .Sub (.v 3) (.v 11)) (.v 9))))]),.assign (.tup [(.v 5),(.v 6)]) (.tup [(.v 11),(.bin .Sub (.bin .Add (.v 11) (.v 9)) (.int 1))])],.ret (.v 4)]⟩
noncomputable def Du:Ag:=⟨[192524121870682778597944489011036038917448218529394060437475033184,40781761134340005352671968699721311000275178949181536,43400774030903411559313583009360306713791419551580256],1,[.assign (.v 1) (.call (.g 72) [(.v 0),(.int 0)]),.ite (.cmp .Eq (.bin .Mod (.v 1) (.int 9)) (.int 7)) [.ret (.sub (.list [(.list [(.str "#####"),(.str "....#"),(.str "###.#"),(.str "#...#"),(.str "#####")]),(.list [(.str "######"),(.str "#.#.#."),(.str "#.#.##")]),(.list [(.str ".#."),(.str "###"),(.str ".#.")]),(.list [(.str "##..##"),(.str "#....#"),(.str "######"),(.str "..##.."),(.str "..#...")])]) (.bin .Mod (.bin .FloorDiv (.v 1) (.int 9)) (.int 4)))] [],.assign (.v 2) (.call (.g 75) [(.bin .FloorDiv (.v 1) (.int 9)),(.call (.g 72) [(.v 0),(.int 1)]),(.bool false)]),.ret (.ite (.cmp .Eq (.bin .Mod (.bin .FloorDiv (.v 1) (.int 270)) (.int 2)) (.int 1)) (.call (.g 74) [(.v 2)]) (.v 2))]⟩
noncomputable def Ha:Ag:=⟨[43400774030903411559313583009360306713791419551580256,79248450939308422951359488504115116927624233569666205745248,4948909800202173316588973022249056,4908344980994869975741078519677024],1,[.assign (.v 1) (.list []),.for_ (.v 2) (.call (.g 8) [(.call (.g 0) [(.v 0)])]) [.assign (.v 1) (.bin .Add (.v 1) (.comp (.tup [(.v 3),(.v 2)]) 3 (.call (.g 8) [(.call (.g 0) [(.sub (.v 0) (.v 2))])]) [(.cmp .Eq (.sub (.sub (.v 0) (.v 2)) (.v 3)) (.str "#"))]))],.ret (.v 1)]⟩
theorem sign_in (b:Bool):InP (.str ⟨#[sgn b]⟩) (.tup [.str "#",.str "."]) true:=by
 cases b
 ·exact ⟨_,_,rfl,.inr rfl,by decide +kernel,by decide +kernel,by decide +kernel,by decide +kernel⟩
 ·exact ⟨_,_,rfl,.inr rfl,by decide +kernel,by decide +kernel,by decide +kernel,by decide +kernel⟩
theorem CY (r:List Bool):Cn (BL r)=r.map fun b=>.str ⟨#[sgn b]⟩:=by
 unfold Cn BL
 show ((r.map sgn).map _)=_
 rw [List.map_map];rfl
noncomputable def fArows:FS:=specF fun avs σ K X=>∃ a G w,avs=[.loc a 0]/\σ=[.at a (.list (Aj G))]/\Grid G w/\(G.any fun r=>r.any id)=true/\K ⟨[],.val (.bool true)⟩ [.at a (.list (Aj G))]
theorem arows_ok:FnOk ⟨true,[28],[],[],[]⟩ Fb .val 2 0 fArows:=by
 refine .specF fun avs σ K X h=>?_
 refine X3ppppp (h) fun a G w he36_3 he36_4 g hc hK=>?_
 subst he36_3
 subst he36_4
 have hl:(Aj G).length=G.length:=by unfold Aj;rw [List.length_map]
 have h1:=g.h1
 have h6:=g.h6
 have hb:(Aj G).length<=big:=Ai (by exact lin [((Aj G).length),(List.length G)] [] (.nle 1 V0 AG) [.neq 1 V0 V1,.nle 1 V1 K6] rfl hl h6)
 have h0:∃ r0,G[0]?=some r0/\r0.length=w:=by
  cases G with
  | nil=>exact absurd h1 (by decide)
  | cons r0 G=>exact ⟨r0,rfl,g.len r0 (.head _)⟩
 refine X1pp (h0) fun r0 e0 l0=>?_
 have e0':(Aj G)[0]?=some (.str (BL r0)):=by unfold Aj;rw [List.getElem?_map,e0];rfl
 refine ⟨rfl,rfl,rfl,hb,ifT (by rw [hl,decide_eq_true_eq];exact lin [(List.length G)] [] (.ile 1 K1 (.c V0)) [.nle 1 K1 V0] rfl h1) (ifF (by rw [hl,Bool.not_eq_false',decide_eq_true_eq];exact lin [(List.length G)] [] (.ile 1 (.c V0) K6) [.nle 1 V0 K6] rfl h6) ⟨rfl,?_⟩)⟩
 refine AI (r:=G) (g:=fun r=>.str (BL r)) rfl (fun d r m σ=>(∀ x∈r,x∈G)/\∃ x,m=[some (.loc a 0),x,Option.none]/\σ=[.at a (.list (Aj G))]) ?_ ?_ (d:=[]) ⟨fun zz h=>h,_,rfl,rfl⟩
 ·rintro d m σ ⟨_,x,rfl,rfl⟩
  refine ⟨rfl,?_⟩
  refine AI (r:=G) (g:=fun r=>.str (BL r)) rfl (fun d r m σ=>(∀ x∈r,x∈G)/\∃ x,m=[some (.loc a 0),x,Option.none]/\σ=[.at a (.list (Aj G))]) ?_ ?_ (d:=[]) ⟨fun zz h=>h,_,rfl,rfl⟩
  ·rintro d m σ ⟨_,x,rfl,rfl⟩
   refine ⟨rfl,hb,?_⟩
   refine Ca (r:=G) (g:=fun r=>.str (BL r)) (f:=fun r=>.bool (r.any id)) rfl (fun r hr C h=>⟨_,IB r,h⟩) ?_
   refine ⟨G.map fun r=>r.any id,by rw [List.map_map];rfl,?_⟩
   rw [List.any_map,show (id ∘ fun r:List Bool=>r.any id)=fun r=>r.any id from rfl,hc]
   exact hK
  ·rintro d r s m σ ⟨hs,x,rfl,rfl⟩ C hC
   have lr:=g.len r (hs r (.head _))
   have w6:=g.w6
   refine ⟨Ai (by rw [Az];exact lin [(r.length),w] [] (.nle 1 V0 AG) [.neq 1 V0 V1,.nle 1 V1 K6] rfl lr w6),rfl,_,e0',Ai (by rw [Az];exact lin [(r0.length),w] [] (.nle 1 V0 AG) [.neq 1 V0 V1,.nle 1 V1 K6] rfl l0 w6),?_⟩
   refine ifF (by rw [Az,Az,lr,l0];simp) ?_
   refine ⟨DG r,Ai (by rw [CY,List.length_map];exact lin [(r.length),w] [] (.nle 1 V0 AG) [.neq 1 V0 V1,.nle 1 V1 K6] rfl lr w6),?_⟩
   rw [CY]
   refine Ca (r:=r) (g:=fun b=>.str ⟨#[sgn b]⟩) (f:=fun zz=>.bool true) rfl (fun b hb C h=>⟨_,sign_in b,h⟩) ?_
   refine ⟨r.map fun zz=>true,by rw [List.map_map];rfl,?_⟩
   rw [List.all_map,show (r.all (id ∘ fun zz=>true))=true by simp]
   exact ⟨rfl,hC _ _ ⟨fun y hy=>hs y (.tail _ hy),_,rfl,rfl⟩⟩
 ·rintro d r s m σ ⟨hs,x,rfl,rfl⟩ C hC
  have lr:=g.len r (hs r (.head _))
  have w6:=g.w6
  have w1:=g.w1
  refine ⟨Ai (by rw [Az];exact lin [(r.length),w] [] (.nle 1 V0 AG) [.neq 1 V0 V1,.nle 1 V1 K6] rfl lr w6),ifT (by rw [Az,decide_eq_true_eq];exact lin [(r.length),w] [] (.ile 1 K1 (.c V0)) [.neq (-1) V0 V1,.nle 1 K1 V1] rfl lr w1) (ifF (by rw [Az,Bool.not_eq_false',decide_eq_true_eq];exact lin [(r.length),w] [] (.ile 1 (.c V0) K6) [.neq 1 V0 V1,.nle 1 V1 K6] rfl lr w6) ⟨rfl,hC _ _ ⟨fun y hy=>hs y (.tail _ hy),_,rfl,rfl⟩⟩)⟩
end Mine
end
section
namespace Mine
open PySem PyProof.Rows PySem.W
noncomputable def HV (i:Nat):List AV->List AV
 | []=>[]
 | x::r=>.tup [.int i,x]::HV (i+1) r
theorem CD:∀ (l:List AV) (i:Nat),(l.mapIdx fun j x=>(.tup [.int ((i+j:Nat):Int),x]:AV))=HV i l
 | [],_=>rfl
 | x::r,i=>by
  rw [List.mapIdx_cons]
  have ih:=CD r (i+1)
  rw [HV,<- ih,Nat.add_zero]
  congr 1
  apply List.ext_getElem?
  intro j
  rw [List.getElem?_mapIdx,List.getElem?_mapIdx]
  congr 1
  funext y
  congr 3
  exact Int.le_antisymm (lin [i,j] [] (.ile 1 (.c (.add V0 (.add V1 K1))) (.c (.add (.add V0 K1) V1))) [] rfl) (lin [i,j] [] (.ile 1 (.c (.add (.add V0 K1) V1)) (.c (.add V0 (.add V1 K1)))) [] rfl)
theorem JI (l:List AV):B7 l=HV 0 l:=by
 rw [<- CD l 0]
 unfold B7
 simp
set_option tactic.hygienic true in
theorem FX {α:Type}{g:α->AV}{q:Bool}{p:Pat}{body:M->LS->KS->Prop}{ok:Option Nat}{K:KS} (J:List α->List α->M->LS->Prop) (he:∀ d m σ,J d [] m σ->K .next m σ)
  (hs:∀ d x r m σ,J d (x::r) m σ->∀ C:M->LS->Prop,(∀ Ah σ₂,J (d++[x]) r Ah σ₂->C Ah σ₂)->patW q p (.tup [.int d.length,g x]) m (fun Af=>body Af σ (GG ok σ C K))):∀ {r d:List α}{m:M}{σ:LS},J d r m σ->Jw q p body ok K (HV d.length (r.map g)) m σ
 | [],d,m,σ,h=>he d m σ h
 | x::r,d,m,σ,h=>hs d x r m σ h (Jw q p body ok K (HV (d.length+1) (r.map g))) fun Ah σ₂ h=>by
  have:=FX J he hs h
  rw [List.length_append] at this
  exact this
theorem EI {y:Int}{b:Bool}:∀ {e:List Bool}{x:Int},Br y x (e++[b])=Br y x e++Br y (x+e.length) [b]
 | [],x=>by rw [List.nil_append,List.length_nil];show _=Br y (x+0) [b];rw [Int.add_zero]
 | c::e,x=>by
  have ih:=EI (y:=y) (b:=b) (e:=e) (x:=x+1)
  rw [List.length_cons,show x+((e.length+1:Nat):Int)=x+1+e.length by exact Int.le_antisymm (lin [(e.length)] [x] (.ile 1 (.add V0 (.c (.add V0 K1))) (.add (.add V0 K1) (.c V0))) [] rfl) (lin [(e.length)] [x] (.ile 1 (.add (.add V0 K1) (.c V0)) (.add V0 (.c (.add V0 K1)))) [] rfl)]
  cases c
  ·exact ih
  ·show (x,y)::Br y (x+1) (e++[b])=(x,y)::(Br y (x+1) e++_)
   rw [ih]
theorem BX {r:List Bool}:∀ {d:Gr}{y:Int},Bc y (d++[r])=Bc y d++Br (y+d.length) 0 r
 | [],y=>by
  rw [List.nil_append]
  show Br y 0 r++[]=[]++Br (y+0) 0 r
  rw [List.append_nil,Int.add_zero];rfl
 | c::d,y=>by
  have ih:=BX (r:=r) (d:=d) (y:=y+1)
  rw [List.length_cons,show y+((d.length+1:Nat):Int)=y+1+d.length by exact Int.le_antisymm (lin [(d.length)] [y] (.ile 1 (.add V0 (.c (.add V0 K1))) (.add (.add V0 K1) (.c V0))) [] rfl) (lin [(d.length)] [y] (.ile 1 (.add (.add V0 K1) (.c V0)) (.add V0 (.c (.add V0 K1)))) [] rfl)]
  show Br y 0 c++Bc (y+1) (d++[r])=(Br y 0 c++Bc (y+1) d)++_
  rw [ih,List.append_assoc]
theorem HS {d:Gr}{e:List Bool}:(((e.length:Int),(d.length:Int)):Ab)∉Aa d++Br d.length 0 e:=by
 intro h
 rcases List.mem_append.mp h with h | h
 ·refine Ad (cellsOf_mem.mp h) fun zz hy59_0=>?_
  refine X1pp (hy59_0) fun r h1 zz=>?_
  rw [show ((e.length:Int),(d.length:Int)).2.toNat=d.length from Int.toNat_natCast _,List.getElem?_eq_none (Nat.le_refl _)] at h1
  cases h1
 ·refine AU (rowC_mem.mp h) fun zz zz h1=>?_
  rw [show (((e.length:Int),(d.length:Int)).1 - 0).toNat=e.length by show ((e.length:Int) - 0).toNat=_;exact Nat.le_antisymm (lin [(((↑e.length:Int) - 0).toNat),(e.length)] [] (.nle 1 V0 V1) [.ieq 1 (.c V0) (.sub (.c V1) K0)] rfl (Int.toNat_of_nonneg (lin [(e.length)] [] (.ile 1 K0 (.sub (.c V0) K0)) [] rfl))) (lin [(e.length),(((↑e.length:Int) - 0).toNat)] [] (.nle 1 V0 V1) [.ile 1 (.sub (.c V0) K0) (.c V1)] rfl (Int.self_le_toNat ((↑e.length:Int) - 0))),List.getElem?_eq_none (Nat.le_refl _)] at h1
  cases h1
noncomputable def BI (P vs:List Ab):List Ab:=(vs.filter fun k=>!decide (k∈P)).foldl ins []
theorem Ju {P vs:List Ab}{k:Ab}:k∈BI P vs↔k∈vs/\k∉P:=by
 unfold BI
 rw [B6,List.mem_filter]
 simp
theorem Dh {P vs:List Ab}:(BI P vs).Nodup:=Bu List.nodup_nil
theorem freeF_in {P vs:List Ab}{k:Ab} (h:k∈P):BI P (vs++[k])=BI P vs:=by
 unfold BI
 rw [List.filter_append,List.filter_cons_of_neg (by simp [h]),List.filter_nil,List.append_nil]
theorem Jt {P vs:List Ab}{k:Ab} (h:k∉P):BI P (vs++[k])=ins (BI P vs) k:=by
 unfold BI
 rw [List.filter_append,List.filter_cons_of_pos (by simp [h]),List.filter_nil,List.foldl_append];rfl
theorem EY {P vs:List Ab}:(BI P vs).length<=vs.length:=by
 unfold BI
 have h1:=EZ (ks:=vs.filter fun k=>!decide (k∈P)) (fs:=[])
 have h2:=List.length_filter_le (fun k=>!decide (k∈P)) vs
 rw [List.length_nil] at h1;exact lin [((List.foldl ins [] (List.filter (fun k=>!decide (k∈P)) vs)).length),((List.filter (fun k=>!decide (k∈P)) vs).length),(vs.length)] [] (.nle 1 V0 V2) [.nle 1 V0 (.add K0 V1),.nle 1 V1 V2] rfl h1 h2
noncomputable def box (xs ys:List Int):List Ab:=ys.flatMap fun y=>xs.map fun x=>(x,y)
theorem J0 (xs ys:List Int):(box xs ys).length=ys.length * xs.length:=by
 unfold box
 induction ys with
 | nil=>simp
 | cons y ys ih=>rw [List.flatMap_cons,List.length_append,ih,List.length_map,List.length_cons,Nat.succ_mul,Nat.add_comm]
theorem box_mem {xs ys:List Int}{k:Ab}:k∈box xs ys↔k.1∈xs/\k.2∈ys:=by
 unfold box
 rw [List.mem_flatMap]
 constructor
 ·rintro ⟨y,hy,h⟩
  refine X1pp (List.mem_map.mp h) fun x hx he95_2=>?_
  subst he95_2
  exact ⟨hx,hy⟩
 ·rintro ⟨hx,hy⟩
  exact ⟨k.2,hy,List.mem_map.mpr ⟨k.1,hx,rfl⟩⟩
theorem box_snoc (xs ys:List Int) (y:Int):box xs (ys++[y])=box xs ys++xs.map fun x=>(x,y):=by
 unfold box;rw [List.flatMap_append];simp
noncomputable def AB (P:List Ab) (w h:Nat):List Ab:=BI P (box (ivs (-1) (w+2)) (ivs (-1) (h+2)))
theorem around_mem {P:List Ab}{w h:Nat}{k:Ab}:k∈AB P w h↔((-1<=k.1/\k.1<=w)/\(-1<=k.2/\k.2<=h))/\k∉P:=by
 unfold AB
 rw [Ju,box_mem,BU,BU]
 constructor
 ·rintro ⟨⟨⟨h1,h2⟩,h3,h4⟩,hn⟩
  exact ⟨by exact ⟨⟨h1,lin [w] [(k.fst)] (.ile 1 V0 (.c V0)) [.ilt 1 V0 (.add Km1 (.c (.add V0 K2)))] rfl h2⟩,⟨h3,lin [h] [(k.snd)] (.ile 1 V0 (.c V0)) [.ilt 1 V0 (.add Km1 (.c (.add V0 K2)))] rfl h4⟩⟩,hn⟩
 ·rintro ⟨⟨⟨h1,h2⟩,h3,h4⟩,hn⟩
  exact ⟨by exact ⟨⟨h1,lin [w] [(k.fst)] (.ilt 1 V0 (.add Km1 (.c (.add V0 K2)))) [.ile 1 V0 (.c V0)] rfl h2⟩,⟨h3,lin [h] [(k.snd)] (.ilt 1 V0 (.add Km1 (.c (.add V0 K2)))) [.ile 1 V0 (.c V0)] rfl h4⟩⟩,hn⟩
theorem H3 {P:List Ab}{G:Gr}{w:Nat} (g:Grid G w):(AB P w G.length).length<=64:=by
 refine Nat.le_trans EY ?_
 rw [J0,Ap,Ap]
 exact Nat.mul_le_mul (show G.length+2<=8 by have:=g.h6;exact lin [(List.length G)] [] (.nle 1 (.add V0 K2) K8) [.nle 1 V0 K6] rfl this) (show w+2<=8 by have:=g.w6;exact lin [w] [] (.nle 1 (.add V0 K2) K8) [.nle 1 V0 K6] rfl this)
noncomputable def JF:FS:=⟨fun zz=>Option.none,fun avs σ K X=>∃ x dx o G w P tl,avs=[.loc x 0]/\σ=[.at x (.inst dx),.at dx (.attrs (EA (.list (Aj G)) (.loc o 2))),.at o (.dict (tt P)),tl]/\Grid G w/\K ⟨[.dict (tt (AB P w G.length))],.new 0⟩ σ,true⟩
theorem Grid.first {G:Gr}{w:Nat} (g:Grid G w):∃ r0,G[0]?=some r0/\r0.length=w:=by
 have h1:=g.h1
 have len:=g.len
 clear g
 cases G with
 | nil=>exact absurd h1 (by decide)
 | cons r0 G=>exact ⟨r0,rfl,len r0 (.head _)⟩
theorem gridA_at {G:Gr}{n:Nat}{r:List Bool} (h:G[n]?=some r):(Aj G)[n]?=some (.str (BL r)):=by
 unfold Aj;rw [List.getElem?_map,h];rfl
theorem B5 {G:Gr}{w:Nat} (g:Grid G w):(Aj G).length<=1000:=by
 unfold Aj;rw [List.length_map];exact Nat.le_trans g.h6 (by decide)
theorem GS (G:Gr):(Aj G).length=G.length:=by unfold Aj;rw [List.length_map]
theorem rowS_big {r:List Bool}{w:Nat} (e:r.length=w) (h:w<=6):(BL r).length<=big:=by
 rw [Az,e];exact Ai (Nat.le_trans h (by decide))
theorem EF {n:Nat} (h:n<=6):Builtin.Range.small (-1) ((n:Int)+1) 1=true:=C1 (by decide) (by decide) (by exact lin [n] [] (.ile 1 A8 (.add (.c V0) K1)) [] rfl) (by exact lin [n] [] (.ile 1 (.add (.c V0) K1) Al) [.nle 1 V0 K6] rfl h)
theorem ID (n:Nat):AD (-1) 1 (AK (-1) ((n:Int)+1) 1)=(ivs (-1) (n+2)).map .int:=by
 rw [rng_av,show ((n:Int)+1 - -1)=((n+2:Nat):Int) by exact Int.le_antisymm (lin [n] [] (.ile 1 (.sub (.add (.c V0) K1) Km1) (.c (.add V0 K2))) [] rfl) (lin [n] [] (.ile 1 (.c (.add V0 K2)) (.sub (.add (.c V0) K1) Km1)) [] rfl),Int.toNat_natCast]
noncomputable abbrev arS' (x dx o a:Addr) (G:Gr) (P:List Ab) (tl:Slot) (F:List (Ab×AV)):LS:=[.at x (.inst dx),.at dx (.attrs (EA (.list (Aj G)) (.loc o 2))),.at o (.dict (tt P)),tl,.at a (.dict F)]
noncomputable abbrev arS (x dx o a:Addr) (G:Gr) (P:List Ab) (tl:Slot) (F:List Ab):LS:=[.at x (.inst dx),.at dx (.attrs (EA (.list (Aj G)) (.loc o 2))),.at o (.dict (tt P)),tl,.at a (.dict (tt F))]
inductive ArJ (x dx o a:Addr) (G:Gr) (w:Nat) (P:List Ab) (tl:Slot) (d r:List Int):M->LS->Prop
 | mk (hd:d++r=ivs (-1) (G.length+2)) (u v:Option AV):ArJ x dx o a G w P tl d r [some (.loc x 0),some (.loc a 4),u,v] (arS x dx o a G P tl (BI P (box (ivs (-1) (w+2)) d)))
inductive ArI (x dx o a:Addr) (G:Gr) (w:Nat) (P:List Ab) (tl:Slot) (y:Int) (B:List Ab) (d r:List Int):M->LS->Prop
 | mk (hd:d++r=ivs (-1) (w+2)) (v:Option AV):ArI x dx o a G w P tl y B d r [some (.loc x 0),some (.loc a 4),some (.int y),v] (arS x dx o a G P tl (BI P (B++d.map fun x=>(x,y))))
theorem GH {a:Int}{n:Nat}{d r:List Int}{x:Int} (h:d++x::r=ivs a n):d.length<n:=by
 have:=congrArg List.length h
 rw [List.length_append,List.length_cons,Ap] at this
 exact lin [(d.length),(r.length),n] [] (.nlt 1 V0 V2) [.neq 1 (.add V0 (.add V1 K1)) V2] rfl this
theorem Gb {ex:List Nat}{X:XL}{x dx o a:Addr}{G:Gr}{w:Nat}{P:List Ab}{tl:Slot}{y z:Int}{B:List Ab}{d r:List Int}{m:M}{σ:LS}{C:M->LS->Prop}{KK:KS} (hB:B.length+w+2<=1000) (j:ArI x dx o a G w P tl y B d (z::r) m σ) (hC:∀ Ah σ₂,ArI x dx o a G w P tl y B (d++[z]) r Ah σ₂->C Ah σ₂) :
  wpSs ⟨true,ex,[],[],[]⟩ [.ite (.cmp .NotIn (.tup [(.v 3),(.v 2)]) (.attr (.v 0) 12)) [.setitem (.v 1) (.tup [(.v 3),(.v 2)]) (.bool true)] []] X (Fo m 3 (.int z)) σ (GG Option.none σ C KK):=by
 cases j with
 | mk hd v =>
  have hl:=GH hd
  refine ⟨⟨rfl,rfl,rfl,rfl⟩,rfl,_,⟨rfl,A6 P (z,y)⟩,?_⟩
  have e:B++(d++[z]).map (fun x=>(x,y))=(B++d.map fun x=>(x,y))++[(z,y)]:=by rw [List.map_append,<- List.append_assoc];rfl
  have go:∀ F,F=BI P (B++(d++[z]).map fun x=>(x,y))->C [some (.loc x 0),some (.loc a 4),some (.int y),some (.int z)] (arS x dx o a G P tl F):=fun F hF=>by
   subst hF
   exact hC _ _ (.mk (by rw [List.append_assoc];exact hd) _)
  rw [e] at go
  by_cases hz:(z,y)∈P
  ·exact ifF (by rw [decide_eq_true hz];rfl) (go _ (freeF_in hz).symm)
  ·refine ifT (by rw [decide_eq_false hz];rfl) ⟨rfl,Ai ?_,?_⟩
   ·rw [BK]
    refine Nat.le_trans EY ?_
    rw [List.length_append,List.length_map]
    clear go e hd;exact lin [(B.length),w,(d.length)] [] (.nle 1 (.add V0 V2) AG) [.nle 1 (.add (.add V0 V1) K2) AG,.nlt 1 V2 (.add V1 K2)] rfl hB hl
   ·have:=go _ (Jt hz).symm
    show C _ (arS' x dx o a G P tl (Bj (tt (BI P (B++d.map fun x=>(x,y)))) (z,y) (.bool true)))
    rw [G2 Dh]
    exact this
theorem J7 {ex:List Nat}:FnOk ⟨true,ex,[],[],[]⟩ Fe .new 3 1 JF:=by
 refine ⟨fun avs σ K X h=>?_,fun zz zz h=>by cases h⟩
 refine X6p (h) fun x dx o G w P hy167_0=>?_
 refine X1pppp (hy167_0) fun tl he167_7 he167_8 g hK=>?_
 subst he167_7
 subst he167_8
 have h6:=g.h6
 have w6:=g.w6
 refine X1pp (g.first) fun r0 e0 l0=>?_
 refine ⟨rfl,fun a=>⟨⟨rfl,rfl,rfl,rfl⟩,rfl,Ai (B5 g),?_⟩⟩
 refine ⟨by rw [GS];exact EF h6,?_⟩
 refine AI (g:=.int) ((congrArg (fun n:Nat=>AD (-1) 1 (AK (-1) ((n:Int)+1) 1)) (GS G)).trans (ID _)) (ArJ x dx o a G w P tl) ?_ ?_ (d:=[]) (.mk rfl _ _)
 ·intro d m σ j
  cases j with
  | mk hd u v =>
   rw [List.append_nil] at hd
   subst hd
   exact ⟨rfl,hK⟩
 ·intro d y r m σ j C hC
  cases j with
  | mk hd u v =>
   have hl:=GH hd
   refine ⟨⟨rfl,rfl,rfl,rfl⟩,rfl,_,gridA_at e0,rowS_big l0 w6,?_⟩
   refine ⟨by rw [Az,l0];exact EF w6,?_⟩
   have hB:(box (ivs (-1) (w+2)) d).length+w+2<=1000:=by
    rw [J0,Ap]
    have:d.length * (w+2)<=8 * 8:=Nat.mul_le_mul (by clear hd e0 l0;exact lin [(List.length G),(d.length)] [] (.nle 1 V1 K8) [.nle 1 V0 K6,.nlt 1 V1 (.add V0 K2)] rfl h6 hl) (by clear hd e0 l0;exact lin [w] [] (.nle 1 (.add V0 K2) K8) [.nle 1 V0 K6] rfl w6)
    clear hd e0 l0;exact lin [w,(d.length * (w+2))] [] (.nle 1 (.add (.add V1 V0) K2) AG) [.nle 1 V0 K6,.nle 1 V1 (.mul 8 K8)] rfl w6 this
   refine AI (g:=.int) ((congrArg (fun n:Nat=>AD (-1) 1 (AK (-1) ((n:Int)+1) 1)) ((Az r0).trans l0)).trans (ID _)) (ArI x dx o a G w P tl y (box (ivs (-1) (w+2)) d)) ?_ ?_ (d:=[]) ?_
   ·intro e m σ j
    cases j with
    | mk he v =>
     rw [List.append_nil] at he
     subst he
     rw [<- box_snoc]
     exact hC _ _ (.mk (by rw [List.append_assoc];exact hd) _ _)
   ·intro e z s m σ j C hC
    exact Gb hB j hC
   ·have:=ArI.mk (x:=x) (dx:=dx) (o:=o) (a:=a) (G:=G) (w:=w) (P:=P) (tl:=tl) (y:=y) (B:=box (ivs (-1) (w+2)) d) (d:=[]) (r:=ivs (-1) (w+2)) rfl v
    rw [List.map_nil,List.append_nil] at this
    exact this
theorem FT (b:Bool):EqP (.str ⟨#[sgn b]⟩) (.str "#") b:=by
 cases b
 ·exact ⟨_,_,rfl,rfl,by decide +kernel,by decide +kernel,by decide +kernel⟩
 ·exact ⟨_,_,rfl,rfl,by decide +kernel,by decide +kernel,by decide +kernel⟩
theorem fset_fl (t o:AV):H7 (H7 [] (fld 11) t) (fld 12) o=EA t o:=by
 show (if (("texts":Str) == ("own":Str))=true then _ else _)=_
 rw [if_neg (by decide +kernel)]
 rfl
noncomputable def Hangs (P:List Ab) (a:Ab):Prop:=∀ k∈P,Reach P a k
theorem Hangs.len {P fs:List Ab}{a:Ab} (h:Hangs P a) (ha:a∈P) (n:P.Nodup) (c:Comp P a fs):fs.length=P.length :=
 same_length c.1 n fun k=>(c.2 k).trans ⟨fun q=>q.mem.elim (fun e=>e▸ha) id,h k⟩
theorem IC {y:Int}:∀ {r:List Bool}{x:Int},(Br y x r).Pairwise lt2
 | [],_=>.nil
 | b::r,x=>by
  have ih:=IC (y:=y) (r:=r) (x:=x+1)
  cases b
  ·exact ih
  ·refine List.pairwise_cons.mpr ⟨fun k hk=>?_,ih⟩
   refine AU (rowC_mem.mp hk) fun h1 h2 zz=>?_
   exact .inr ⟨h1.symm,by exact lin [] [(k.fst),x] (.ilt 1 V1 V0) [.ile 1 K0 (.sub V0 (.add V1 K1))] rfl h2⟩
theorem E9:∀ {G:Gr}{y:Int},(Bc y G).Pairwise lt2
 | [],_=>.nil
 | r::G,y=>by
  refine List.pairwise_append.mpr ⟨IC,E9,fun a ha b hb=>?_⟩
  refine Ad (rowC_mem.mp ha) fun h1 zz=>?_
  refine Ad (cellsF_mem.mp hb) fun h2 zz=>?_
  exact .inl (by dsimp only at h2;exact lin [] [(a.snd),y,(b.snd)] (.ilt 1 V0 V2) [.ieq 1 V0 V1,.ile 1 K0 (.sub V2 (.add V1 K1))] rfl h1 h2)
theorem Ew (G:Gr):(Aa G).Pairwise lt2:=E9
structure Flo (G:Gr) (w:Nat):Prop where
 g:Grid G w
 ne:∃ a P',Aa G=a::P'/\Hangs (Aa G) a
 out:Hangs (AB (Aa G) w G.length) (-1,-1)
theorem Flo.some {G:Gr}{w:Nat} (f:Flo G w):(G.any fun r=>r.any id)=true:=by
 refine X2pp (f.ne) fun a P' e zz=>?_
 have ha:a∈Aa G:=by rw [e];exact .head _
 refine Ad (cellsOf_mem.mp ha) fun zz hy242_0=>?_
 refine X1ppp (hy242_0) fun r h1 zz h2=>?_
 rw [List.any_eq_true]
 exact ⟨r,List.mem_of_getElem? h1,List.any_eq_true.mpr ⟨true,List.mem_of_getElem? h2,rfl⟩⟩
noncomputable def fFloor:FS:=specF fun avs σ K X=>∃ a G w,avs=[.loc a 0]/\σ=[.at a (.list (Aj G))]/\Flo G w/\K ⟨[],.val (Bp (.list (Aj G)) (Aa G))⟩ [.at a (.list (Aj G))]
noncomputable abbrev tInit:Tab:=⟨true,[28],[(36,fArows),(35,JA)],[(13,JF)],[]⟩
noncomputable abbrev inS (x dx o a:Addr) (G:Gr) (P:List (Ab×AV)):LS:=[.at x (.inst dx),.at dx (.attrs (EA (.list (Aj G)) (.loc o 2))),.at o (.dict P),.at a (.list (Aj G))]
inductive InJ (x dx o a:Addr) (G:Gr) (d r:Gr):M->LS->Prop
 | mk (hd:d++r=G) (u1 u2 u3 u4:Option AV):InJ x dx o a G d r [some (.loc x 0),some (.loc a 3),u1,u2,u3,u4,Option.none] (inS x dx o a G (tt (Aa d)))
inductive InI (x dx o a:Addr) (G d:Gr) (r:List Bool) (e t:List Bool):M->LS->Prop
 | mk (he:e++t=r) (u1 u2:Option AV):InI x dx o a G d r e t [some (.loc x 0),some (.loc a 3),some (.int d.length),some (.str (BL r)),u1,u2,Option.none] (inS x dx o a G (tt (Aa d++Br d.length 0 e)))
theorem Eh {α:Type}{d r G:List α}{x:α} (h:d++x::r=G):d.length<G.length:=by
 rw [<- h,List.length_append,List.length_cons];exact lin [(d.length),(r.length)] [] (.nlt 1 V0 (.add V0 (.add V1 K1))) [] rfl
theorem Jo {X:XL}{x dx o a:Addr}{G d:Gr}{w:Nat}{r e t:List Bool}{b:Bool}{m:M}{σ:LS}{C:M->LS->Prop}{KK:KS} (hP:(Aa d).length<=36) (hr:r.length<=6) (j:InI x dx o a G d r e (b::t) m σ) (hC:∀ Ah σ₂,InI x dx o a G d r (e++[b]) t Ah σ₂->C Ah σ₂) :
  wpSs tInit [.ite (.cmp .Eq (.v 5) (.str "#")) [.setitem (.attr (.v 0) 12) (.tup [(.v 4),(.v 2)]) (.bool true)] []] X (Fo (Fo m 4 (.int e.length)) 5 (.str ⟨#[sgn b]⟩)) σ (GG Option.none σ C KK):=by
 cases j with
 | mk he u1 u2 =>
  have hel:=Eh he
  have go:∀ q,q=tt (Aa d++Br d.length 0 (e++[b]))->C [some (.loc x 0),some (.loc a 3),some (.int d.length),some (.str (BL r)),some (.int e.length),some (.str ⟨#[sgn b]⟩),Option.none] (inS x dx o a G q):=fun q hq=>by
   subst hq
   exact hC _ _ (.mk (by rw [List.append_assoc];exact he) _ _)
  rw [EI] at go
  refine ⟨b,FT b,?_⟩
  cases b
  ·rw [show Br (d.length:Int) (0+e.length) [false]=[] from rfl,List.append_nil] at go
   exact go _ rfl
  ·refine ⟨⟨rfl,rfl,rfl,rfl⟩,rfl,rfl,Ai ?_,go _ ?_⟩
   ·rw [BK,List.length_append]
    have h1:=CI (y:=d.length) (r:=e) (x:=0)
    clear go he;exact lin [((Aa d).length),(r.length),(e.length),((Br (↑(List.length d):Int) 0 e).length)] [] (.nle 1 (.add V0 V3) AG) [.nle 1 V0 K36,.nle 1 V1 K6,.nlt 1 V2 V1,.nle 1 V3 V2] rfl hP hr hel h1
   ·rw [show Br (d.length:Int) (0+e.length) [true]=[(0+(e.length:Int),(d.length:Int))] from rfl,Int.zero_add,<- List.append_assoc]
    exact F3 HS
theorem init_end {K:KR}{X:XL}{x dx o a:Addr}{G:Gr}{w:Nat}{u1 u2 u3 u4:Option AV} (f:Flo G w) (hK:K ⟨[],.val (Bp (.list (Aj G)) (Aa G))⟩ [.at a (.list (Aj G))]) :
  wpSs tInit (c_Finit.body.drop 4) X [some (.loc x 0),some (.loc a 3),u1,u2,u3,u4,Option.none] (inS x dx o a G (tt (Aa G))) (fun fl zz τ=>flV fl=.none/\madeW 1 x dx τ K):=by
 refine X2pp (f.ne) fun a0 P' eP hh=>?_
 have g:=f.g
 have hP:(Aa G).length<=1000:=Nat.le_trans g.cells (by decide)
 have hF:(AB (Aa G) w G.length).length<=1000:=Nat.le_trans (H3 g) (by decide)
 have h0:((tt (Aa G)).map fun p=>sp p.1)[0]?=some (sp a0):=by rw [Ih,eP];rfl
 have tl:∀ {P:List Ab},P.length<=1000->(tt P).length<=big:=fun h=>Ai (by rw [BK];exact h)
 refine ⟨⟨rfl,rfl,rfl,rfl⟩,rfl,rfl,tl hP,sp a0,h0,⟨rfl,rfl,rfl,rfl⟩,rfl,a0,Aa G,hP,.inr ⟨o,rfl,rfl,fun fs hc=>?_⟩⟩
 have e1:=hh.len (by rw [eP];exact .head _) (BY (Ew G)) hc
 refine ⟨tl (e1▸hP),⟨rfl,rfl,rfl,rfl⟩,rfl,rfl,tl hP,ifF (by rw [BK,BK,e1,beq_self_eq_true];rfl) ?_⟩
 refine ⟨⟨rfl,rfl,rfl,rfl⟩,⟨rfl,rfl,rfl,rfl⟩,x,dx,o,G,w,Aa G,_,rfl,rfl,g,?_⟩
 refine ⟨(-1,-1),AB (Aa G) w G.length,hF,.inl ⟨rfl,rfl,fun fs2 hc2=>?_⟩⟩
 have m1:((-1,-1):Ab)∈AB (Aa G) w G.length:=around_mem.mpr ⟨⟨⟨by decide,Int.le_trans (by decide) (Int.natCast_nonneg _)⟩,by decide,Int.le_trans (by decide) (Int.natCast_nonneg _)⟩,fun q=>by have:=(g.in q).1;exact absurd this (by decide)⟩
 have e2:=f.out.len m1 Dh hc2
 refine ⟨tl (e2▸hF),tl hF,ifF (by rw [BK,BK,e2,beq_self_eq_true];rfl) ?_⟩
 exact ⟨rfl,⟨rfl,rfl,rfl,rfl,rfl,rfl⟩,hK⟩
noncomputable def locHd? (l:List AV):Option Addr:=match l with
 | []=>Option.none
 | x::_=>(match x with
  | .loc a _=>some a
  | _=>Option.none)
theorem IE {avs:List AV}{a:Addr} (h:A3 avs 0=[.loc a 0]):A3 avs 3=[.loc a 3]:=by
 cases avs with
 | nil=>exact (Ae rfl (congrArg locHd? h)).elim
 | cons v r =>
  cases v with
  | loc b i =>
   obtain rfl:b=a:=Option.some.inj (congrArg locHd? h)
   cases r with
   | nil=>rfl
   | cons v r =>
    have e2:=(List.cons.inj h).2
    cases v<;>exact (List.cons_ne_nil _ _ e2).elim
  | _=>exact (Ae rfl (congrArg locHd? h)).elim
theorem HZ {G d r:Gr}{w:Nat} (g:Grid G w) (hd:d++r=G):(Aa d).length<=36:=by
 have h2:=BG (w:=w) (G:=d) (y:=0) fun q hq=>g.len q (by rw [<- hd];exact List.mem_append_left _ hq)
 have h3:d.length * w<=6 * 6:=Nat.mul_le_mul (Nat.le_trans (by rw [<- hd,List.length_append];exact Nat.le_add_right _ _) g.h6) g.w6
 exact Nat.le_trans h2 h3
theorem init_ok (avs:List AV) (σ:LS) (K:KR) (X:XL) (h:fFloor.spec (A3 avs 0) σ K X):makeW tInit c_Finit 5 0 (A3 avs 3) σ K X:=by
 refine X3pppp (h) fun a G w ha he313_4 f hK=>?_
 subst he313_4
 have g:=f.g
 rw [IE ha]
 refine ⟨rfl,fun x dx=>⟨a,G,w,rfl,rfl,g,f.some,?_⟩⟩
 refine ⟨rfl,Ai (B5 g),⟨rfl,rfl⟩,Nat.le_of_ble_eq_true rfl,fun o=>⟨⟨rfl,rfl⟩,Nat.le_of_ble_eq_true rfl,rfl,?_⟩⟩
 rw [JI]
 refine FX (r:=G) (g:=fun r=>.str (BL r)) (InJ x dx o a G) ?_ ?_ (d:=[]) ?_
 ·intro d m σ j
  cases j with
  | mk hd u1 u2 u3 u4 =>
   rw [List.append_nil] at hd
   subst hd
   exact init_end f hK
 ·intro d r s m σ j C hC
  cases j with
  | mk hd u1 u2 u3 u4 =>
   have hr:r.length<=6:=by rw [g.len r (by rw [<- hd];exact List.mem_append_right _ (.head _))];exact g.w6
   refine ⟨DG r,?_⟩
   rw [JI,CY]
   refine FX (r:=r) (g:=fun b=>.str ⟨#[sgn b]⟩) (InI x dx o a G d r) ?_ ?_ (d:=[]) ?_
   ·intro e m σ j
    cases j with
    | mk he u1 u2 =>
     rw [List.append_nil] at he
     subst he
     have:=InJ.mk (x:=x) (dx:=dx) (o:=o) (a:=a) (G:=G) (d:=d++[e]) (r:=s) (by rw [List.append_assoc];exact hd) (some (.int d.length)) (some (.str (BL e))) u1 u2
     unfold Aa at this
     rw [BX,Int.zero_add] at this
     exact ⟨rfl,hC _ _ this⟩
   ·intro e b t m σ j C hC
    exact Jo (w:=w) (HZ g hd) hr j hC
   ·have:=InI.mk (x:=x) (dx:=dx) (o:=o) (a:=a) (G:=G) (d:=d) (r:=r) (e:=[]) (t:=r) rfl u3 u4
    rw [show Br (d.length:Int) 0 []=[] from rfl,List.append_nil] at this
    exact this
 ·have:=InJ.mk (x:=x) (dx:=dx) (o:=o) (a:=a) (G:=G) (d:=[]) (r:=G) rfl Option.none Option.none Option.none Option.none
  have e:=fset_fl (.list (Aj G)) (.loc o 2)
  rw [inS,<- e] at this
  exact this
end Mine
end
section
namespace Mine
open PySem PyProof.Rows PySem.W
theorem GI:∀ {d:List Int}{x a:Int}{r:List Int}{n:Nat},d++x::r=ivs a n->x=a+d.length/\d.length<n
 | [],x,a,r,0,h=>by cases h
 | [],x,a,r,n+1,h=>by
  refine X0lp (List.cons.inj h) fun zz=>?_
  exact ⟨(Int.add_zero _).symm,Nat.succ_pos _⟩
 | z::d,x,a,r,0,h=>by cases h
 | z::d,x,a,r,n+1,h=>by
  refine Ad (List.cons.inj h) fun he15_0 h=>?_
  subst he15_0
  refine Ad (GI h) fun h1 h2=>?_
  rw [List.length_cons]
  exact ⟨by exact Int.le_antisymm (lin [(d.length)] [x,z] (.ile 1 V0 (.add V1 (.c (.add V0 K1)))) [.ieq 1 V0 (.add (.add V1 K1) (.c V0))] rfl h1) (lin [(d.length)] [x,z] (.ile 1 (.add V1 (.c (.add V0 K1))) V0) [.ieq (-1) V0 (.add (.add V1 K1) (.c V0))] rfl h1),by exact lin [(d.length),n] [] (.nlt 1 (.add V0 K1) (.add V1 K1)) [.nlt 1 V0 V1] rfl h2⟩
theorem BS {y:Int}:∀ {r:List Bool}{x:Int},Br y x r=((ivs x r.length).filter fun z=>r.getD (z - x).toNat false).map fun z=>(z,y)
 | [],_=>rfl
 | b::r,x=>by
  have ih:=BS (y:=y) (r:=r) (x:=x+1)
  have e:((ivs (x+1) r.length).filter fun z=>(b::r).getD (z - x).toNat false)=(ivs (x+1) r.length).filter fun z=>r.getD (z - (x+1)).toNat false:=by
   apply List.filter_congr
   intro z hz
   rw [BU] at hz
   rw [show (z - x).toNat=(z - (x+1)).toNat+1 by exact Nat.le_antisymm (lin [((z - (x+1)).toNat),((z - x).toNat)] [z,x] (.nle 1 V1 (.add V0 K1)) [.ile 1 (.sub V0 (.add V1 K1)) (.c V0),.ieq 1 (.c V1) (.sub V0 V1)] rfl (Int.self_le_toNat (z - (x+1))) (Int.toNat_of_nonneg (lin [] [x,z] (.ile 1 K0 (.sub V1 V0)) [.ile 1 (.add V0 K1) V1] rfl hz.1))) (lin [((z - x).toNat),((z - (x+1)).toNat)] [z,x] (.nle 1 (.add V1 K1) V0) [.ile 1 (.sub V0 V1) (.c V0),.ieq 1 (.c V1) (.sub V0 (.add V1 K1))] rfl (Int.self_le_toNat (z - x)) (Int.toNat_of_nonneg (lin [] [x,z] (.ile 1 K0 (.sub V1 (.add V0 K1))) [.ile 1 (.add V0 K1) V1] rfl hz.1)))]
   rfl
  rw [List.length_cons,ivs,List.filter_cons]
  have e0:(b::r).getD (x - x).toNat false=b:=by rw [Int.sub_self];rfl
  rw [e0,e]
  cases b
  ·rw [if_neg (by decide),<- ih];rfl
  ·rw [if_pos rfl,List.map_cons,<- ih];rfl
theorem IA {r:List Bool}{n:Nat} (h:n<r.length):(BL r).cps[n]?=some (sgn (r.getD n false)):=by
 show ((r.map sgn).toArray)[n]?=_
 rw [List.getElem?_toArray,List.getElem?_map,List.getElem?_eq_getElem h,List.getD_eq_getElem?_getD,List.getElem?_eq_getElem h];rfl
theorem FU {G:Gr}{n:Nat}{r:List Bool} (h:G[n]?=some r):(Aj G)[n]?=some (.str (BL r)):=by
 unfold Aj;rw [List.getElem?_map,h];rfl
theorem Bi (G:Gr):(Aj G).length=G.length:=by unfold Aj;rw [List.length_map]
theorem Bt {n:Nat} (h:n<=6):Builtin.Range.small 0 n 1=true:=C1 (by decide) (by decide) (by exact lin [n] [] (.ile 1 A8 (.c V0)) [] rfl) (by exact lin [n] [] (.ile 1 (.c V0) Al) [.nle 1 V0 K6] rfl h)
theorem Gp (G:Gr):AD 0 1 (AK 0 (Aj G).length 1)=(ivs 0 G.length).map .int:=by rw [Bi,Go]
theorem Co (r:List Bool):AD 0 1 (AK 0 (BL r).length 1)=(ivs 0 r.length).map .int:=by rw [Az,Go]
noncomputable def JC:FS:=specF fun avs σ K X=>∃ G w,avs=[.list (Aj G)]/\σ=[]/\Grid G w/\K ⟨[],.val (.list ((Aa G).map sp))⟩ []
theorem Jc {ex:List Nat}:FnOk ⟨true,ex,[],[],[]⟩ Ha .val 3 0 JC:=by
 refine .specF fun avs σ K X h=>?_
 refine X2pppp (h) fun G w he47_2 he47_3 g hK=>?_
 subst he47_2
 subst he47_3
 have h6:=g.h6
 have w6:=g.w6
 refine ⟨rfl,Ai (by rw [Bi];exact lin [(List.length G)] [] (.nle 1 V0 AG) [.nle 1 V0 K6] rfl h6),Bt (by rw [Bi];exact h6),?_⟩
 refine AI (g:=.int) (Gp G) (fun d r m σ=>d++r=ivs 0 G.length/\∃ u,m=[some (.list (Aj G)),some (.list ((Aa (G.take d.length)).map sp)),u,Option.none]/\σ=[]) ?_ ?_ (d:=[]) ⟨rfl,_,rfl,rfl⟩
 ·rintro d m σ ⟨hd,u,rfl,rfl⟩
  rw [List.append_nil] at hd
  subst hd
  rw [Ap,List.take_length]
  exact hK
 ·rintro d y r m σ ⟨hd,u,rfl,rfl⟩ C hC
  refine Ad (GI hd) fun hy hdl=>?_
  obtain rfl:y=d.length:=by exact Int.le_antisymm (lin [(d.length)] [y] (.ile 1 V0 (.c V0)) [.ieq 1 V0 (.add K0 (.c V0))] rfl hy) (lin [(d.length)] [y] (.ile 1 (.c V0) V0) [.ieq (-1) V0 (.add K0 (.c V0))] rfl hy)
  have er:G[d.length]?=some G[d.length]:=List.getElem?_eq_getElem hdl
  have lr:=g.len _ (List.getElem_mem hdl)
  have ea:(Aj G)[(d.length:Int).toNat]?=some (.str (BL G[d.length])):=by rw [Int.toNat_natCast];exact FU er
  refine ⟨⟨by exact lin [(d.length)] [] (.ile 1 K0 (.c V0)) [] rfl,by exact lin [(List.length G),(d.length)] [] (.ilt 1 (.c V1) Al) [.nle 1 V0 K6,.nlt 1 V1 V0] rfl h6 hdl⟩,_,ea,Ai (by rw [Az];exact lin [w,(G[d.length].length)] [] (.nle 1 V1 AG) [.nle 1 V0 K6,.neq 1 V1 V0] rfl w6 lr),Bt (by rw [Az];exact Nat.le_trans (Nat.le_of_eq lr) w6),?_⟩
  refine ⟨Ai (by rw [Co,List.length_map,Ap,lr];exact Nat.le_trans w6 (by decide)),?_⟩
  refine B9 (g:=.int) (f:=fun x=>sp (x,(d.length:Int))) (P:=fun x=>G[d.length].getD (x - 0).toNat false) (Co _) (fun x hx ys C2 h1 h2=>?_) ?_
  ·rw [BU] at hx
   refine ⟨⟨by exact lin [(d.length)] [] (.ile 1 K0 (.c V0)) [] rfl,by exact lin [(List.length G),(d.length)] [] (.ilt 1 (.c V1) Al) [.nle 1 V0 K6,.nlt 1 V1 V0] rfl h6 hdl⟩,_,ea,⟨by exact hx.1,by exact lin [w,(G[d.length].length)] [x] (.ilt 1 V0 Al) [.nle 1 V0 K6,.neq 1 V1 V0,.ilt 1 V0 (.add K0 (.c V1))] rfl w6 lr hx.2⟩,_,IA (by exact lin [(G[d.length].length),(x.toNat)] [x] (.nlt 1 V1 V0) [.ilt 1 V0 (.add K0 (.c V0)),.ieq 1 (.c V1) V0] rfl hx.2 (Int.toNat_of_nonneg (hx.1))),_,FT _,?_⟩
   rw [Int.sub_zero] at h1 h2
   exact ifB h1 h2
  ·have e2:(List.filter (fun x=>G[d.length].getD (x - 0).toNat false) (ivs 0 G[d.length].length)).map (fun x=>sp (x,(d.length:Int)))=(Br d.length 0 G[d.length]).map sp:=by
    rw [BS,List.map_map];rfl
   rw [e2]
   refine ⟨Ai ?_,hC _ _ ⟨by rw [List.append_assoc];exact hd,some (.int d.length),?_,rfl⟩⟩
   ·rw [List.length_map,List.length_map]
    have h1:=CI (y:=d.length) (r:=G[d.length]) (x:=0)
    have h2:=BG (w:=w) (G:=G.take d.length) (y:=0) fun q hq=>g.len q (List.mem_of_mem_take hq)
    have h3:(G.take d.length).length * w<=6 * 6:=Nat.mul_le_mul (by rw [List.length_take];exact lin [(List.length G),(d.length),(min d.length (List.length G))] [] (.nle 1 V2 K6) [.nle 1 V0 K6,.nlt 1 V1 V0,.nle 1 V2 V1] rfl h6 hdl (Nat.min_le_left (d.length) (List.length G))) w6
    unfold Aa;exact lin [w,(G[d.length].length),((Br (↑d.length:Int) 0 G[d.length]).length),((Bc 0 (List.take d.length G)).length),((List.take d.length G).length * w)] [] (.nle 1 (.add V3 V2) AG) [.nle 1 V0 K6,.neq 1 V1 V0,.nle 1 V2 V1,.nle 1 V3 V4,.nle 1 V4 (.mul 6 K6)] rfl w6 lr h1 h2 h3
   ·rw [List.length_append,List.length_singleton,List.take_add_one,er]
    show _=[_,some (AV.list ((Aa (List.take d.length G++[G[d.length]])).map sp)),_,_]
    unfold Aa
    rw [BX,List.map_append,List.length_take,Nat.min_eq_left (Nat.le_of_lt hdl),Int.zero_add]
    rfl
noncomputable def colG (G:Gr) (x:Int):List Bool:=G.map fun r=>r.getD x.toNat false
noncomputable def trG (G:Gr) (w:Nat):Gr:=(ivs 0 w).map (colG G)
theorem Io {x y:Str} (h:x.cps.toList=y.cps.toList):x=y:=by
 obtain ⟨⟨a⟩⟩:=x
 obtain ⟨⟨b⟩⟩:=y
 have:a=b:=h
 rw [this]
theorem GX {α β:Type} (f:α->β):∀ l:List α,(l.map fun x=>[f x]).flatten=l.map f
 | []=>rfl
 | x::l=>by rw [List.map_cons,List.flatten_cons,GX f l];rfl
noncomputable def FY:FS:=specF fun avs σ K X=>∃ G w,avs=[.list (Aj G)]/\σ=[]/\Grid G w/\K ⟨[],.val (.list (Aj (trG G w)))⟩ []
theorem Ig {ex:List Nat}:FnOk ⟨true,ex,[],[],[]⟩ BN .val 2 0 FY:=by
 refine .specF fun avs σ K X h=>?_
 refine X2pppp (h) fun G w he98_2 he98_3 g hK=>?_
 subst he98_2
 subst he98_3
 have h1:=g.h1
 have h6:=g.h6
 have w6:=g.w6
 have h0:∃ r0,G[0]?=some r0/\r0.length=w:=by
  cases G with
  | nil=>exact absurd h1 (by decide)
  | cons r0 G=>exact ⟨r0,rfl,g.len r0 (.head _)⟩
 obtain ⟨r0,e0,l0⟩:=h0
 refine ⟨rfl,_,FU e0,Ai (by rw [Az];exact lin [w,(r0.length)] [] (.nle 1 V1 AG) [.nle 1 V0 K6,.neq 1 V1 V0] rfl w6 l0),Bt (by rw [Az];exact Nat.le_trans (Nat.le_of_eq l0) w6),?_⟩
 refine ⟨Ai (by rw [Co,List.length_map,Ap,l0];exact Nat.le_trans w6 (by decide)),?_⟩
 refine Ca (g:=.int) (f:=fun x=>.str (BL (colG G x))) ((Co r0).trans (by rw [l0])) (fun x hx C h=>?_) ?_
 ·rw [BU] at hx
  refine ⟨Ai (by rw [Bi];exact lin [(List.length G)] [] (.nle 1 V0 AG) [.nle 1 V0 K6] rfl h6),?_⟩
  refine Ca (r:=G) (g:=fun r=>.str (BL r)) (f:=fun r=>.str ⟨#[sgn (r.getD x.toNat false)]⟩) rfl (fun r hr C2 h2=>?_) ?_
  ·have lr:=g.len r hr
   exact ⟨⟨by exact hx.1,by exact lin [w] [x] (.ilt 1 V0 Al) [.nle 1 V0 K6,.ilt 1 V0 (.add K0 (.c V0))] rfl w6 hx.2⟩,_,IA (by exact lin [w,(r.length),(x.toNat)] [x] (.nlt 1 V2 V1) [.ilt 1 V0 (.add K0 (.c V0)),.neq (-1) V1 V0,.ieq 1 (.c V2) V0] rfl hx.2 lr (Int.toNat_of_nonneg (hx.1))),h2⟩
  ·refine ⟨G.map fun r=>⟨#[sgn (r.getD x.toNat false)]⟩,by rw [List.map_map];rfl,?_,?_⟩
   ·rw [List.map_map,List.length_map]
    have e1:(G.map ((fun x:Str=>x.length) ∘ fun r=>(⟨#[sgn (r.getD x.toNat false)]⟩:Str))).sum=G.length:=by
     rw [show ((fun x:Str=>x.length) ∘ fun r:List Bool=>(⟨#[sgn (r.getD x.toNat false)]⟩:Str))=fun zz=>1 from rfl,List.map_const',List.sum_replicate_nat];exact Nat.le_antisymm (lin [(List.length G)] [] (.nle 1 (.mur V0 1) V0) [] rfl) (lin [(List.length G)] [] (.nle 1 V0 (.mur V0 1)) [] rfl)
    rw [e1,show ("":Str).length=0 from rfl];exact lin [(List.length G)] [] (.nle 1 (.add V0 (.mur V0 0)) Al) [.nle 1 V0 K6] rfl h6
   ·have e2:Txt.join "" (G.map fun r=>(⟨#[sgn (r.getD x.toNat false)]⟩:Str))=BL (colG G x):=by
     apply Io
     rw [EX,List.map_map]
     show (G.map fun r=>[sgn (r.getD x.toNat false)]).flatten=(colG G x).map sgn
     unfold colG
     rw [List.map_map,GX]
     rfl
    rw [e2]
    exact h
 ·have e3:(ivs 0 w).map (fun x=>AV.str (BL (colG G x)))=Aj (trG G w):=by unfold Aj trG;rw [List.map_map];rfl
  rw [e3]
  exact hK
end Mine
end
section
namespace Mine
open PySem PyProof.Rows PySem.W
noncomputable def Aq (w:Nat) (p:Nat×Nat):List Bool:=List.replicate p.1 false++(List.replicate p.2 true++List.replicate (w - p.1 - p.2) false)
structure Strips (ev:Bool) (w:Nat) (L:List (Nat×Nat)):Prop where
 ok:∀ p∈L,1<=p.2/\p.1+p.2<=w/\(ev=true->p.2 % 2=0)
 ch:∀ (i:Nat) (p q:Nat×Nat),L[i]?=some p->L[i+1]?=some q->p.1<q.1+q.2/\q.1<p.1+p.2
theorem Strips.nil {ev:Bool}{w:Nat}:Strips ev w []:=⟨fun zz h=>(by cases h),fun zz zz zz h=>(by cases h)⟩
theorem Strips.snoc {ev:Bool}{w:Nat}{L:List (Nat×Nat)}{q:Nat×Nat} (h:Strips ev w L) (hq:1<=q.2/\q.1+q.2<=w/\(ev=true->q.2 % 2=0)) (hl:∀ p,L.getLast?=some p->p.1<q.1+q.2/\q.1<p.1+p.2):Strips ev w (L++[q]):=by
 refine ⟨fun p hp=>?_,fun i p r hp hr=>?_⟩
 ·rcases List.mem_append.mp hp with z | z
  ·exact h.ok p z
  ·rw [List.mem_singleton.mp z];exact hq
 ·rcases Nat.lt_trichotomy (i+1) L.length with z | z | z
  ·rw [List.getElem?_append_left (by omega)] at hp hr
   exact h.ch i p r hp hr
  ·rw [List.getElem?_append_left (by exact lin [i,(L.length)] [] (.nlt 1 V0 V1) [.neq 1 (.add V0 K1) V1] rfl z)] at hp
   rw [List.getElem?_append_right (by exact lin [i,(L.length)] [] (.nle 1 V1 (.add V0 K1)) [.neq (-1) (.add V0 K1) V1] rfl z),show i+1 - L.length=0 by exact Nat.le_antisymm (lin [i,(L.length),(i+1 - L.length)] [] (.nle 1 V2 K0) [.neq 1 (.add V0 K1) V1,.neq 1 (.add V2 V1) (.add V0 K1)] rfl z (Nat.sub_add_cancel (lin [i,(L.length)] [] (.nle 1 V1 (.add V0 K1)) [.neq (-1) (.add V0 K1) V1] rfl z))) (lin [(i+1 - L.length)] [] (.nle 1 K0 V0) [] rfl)] at hr
   cases hr
   refine hl p ?_
   rw [List.getLast?_eq_getElem?,show L.length - 1=i by exact Nat.le_antisymm (lin [i,(L.length),(L.length - 1)] [] (.nle 1 V2 V0) [.neq (-1) (.add V0 K1) V1,.neq 1 (.add V2 K1) V1] rfl z (Nat.sub_add_cancel (lin [i,(L.length)] [] (.nle 1 K1 V1) [.neq 1 (.add V0 K1) V1] rfl z))) (lin [i,(L.length),(L.length - 1)] [] (.nle 1 V0 V2) [.neq 1 (.add V0 K1) V1,.nle 1 V1 (.add K1 V2)] rfl z (Nat.sub_le_iff_le_add'.mp (Nat.le_refl ((L.length) - (1)))))];exact hp
  ·rw [List.getElem?_append_right (by exact Nat.le_of_lt z),show i+1 - L.length=(i - L.length)+1 by exact Nat.le_antisymm (lin [i,(L.length),(i - L.length),(i+1 - L.length)] [] (.nle 1 V3 (.add V2 K1)) [.nle 1 V0 (.add V1 V2),.neq 1 (.add V3 V1) (.add V0 K1)] rfl (Nat.sub_le_iff_le_add'.mp (Nat.le_refl ((i) - (L.length)))) (Nat.sub_add_cancel (Nat.le_of_lt z))) (lin [i,(L.length),(i+1 - L.length),(i - L.length)] [] (.nle 1 (.add V3 K1) V2) [.nle 1 (.add V0 K1) (.add V1 V2),.neq 1 (.add V3 V1) V0] rfl (Nat.sub_le_iff_le_add'.mp (Nat.le_refl ((i+1) - (L.length)))) (Nat.sub_add_cancel (lin [(L.length),i] [] (.nle 1 V0 V1) [.nlt 1 V0 (.add V1 K1)] rfl z)))] at hr
   cases hr
theorem A1 {a b:Int} (hb:0<b):0<=a.fmod b/\a.fmod b<b:=⟨Int.fmod_nonneg_of_pos _ hb,Int.fmod_lt_of_pos _ hb⟩
theorem s_hash:("#":Str)=⟨#[35]⟩:=by decide +kernel
theorem s_dot:(".":Str)=⟨#[46]⟩:=by decide +kernel
theorem I2 (c:Nat) (n:Int):(Txt.mul ⟨#[c]⟩ n).length=n.toNat:=by
 have:(Txt.mul ⟨#[c]⟩ n).cps.toList.length=(Txt.mul ⟨#[c]⟩ n).length:=Array.length_toList
 rw [<- this,Ee,List.length_replicate]
theorem Hl (w b s:Nat) (h:b+s<=w):Txt.mul "." b++Txt.mul "#" s++Txt.mul "." ((w:Int) - b - s)=BL (Aq w (b,s)):=by
 apply Io
 rw [s_hash,s_dot,D0,D0,Ee,Ee,Ee]
 show _=(Aq w (b,s)).map sgn
 unfold Aq
 rw [List.map_append,List.map_append,List.map_replicate,List.map_replicate,List.map_replicate,Int.toNat_natCast,Int.toNat_natCast,show ((w:Int) - b - s).toNat=w - b - s by exact Nat.le_antisymm (lin [(w - b),s,(w - b - s),w,b,(((↑w:Int) - (↑b:Int) - (↑s:Int)).toNat)] [] (.nle 1 V5 V2) [.nle 1 V0 (.add V1 V2),.nle 1 V3 (.add V4 V0),.ieq 1 (.c V5) (.sub (.sub (.c V3) (.c V4)) (.c V1))] rfl (Nat.sub_le_iff_le_add'.mp (Nat.le_refl ((w - b) - (s)))) (Nat.sub_le_iff_le_add'.mp (Nat.le_refl ((w) - (b)))) (Int.toNat_of_nonneg (lin [b,s,w] [] (.ile 1 K0 (.sub (.sub (.c V2) (.c V0)) (.c V1))) [.nle 1 (.add V0 V1) V2] rfl h))) (lin [w,b,s,(((↑w:Int) - (↑b:Int) - (↑s:Int)).toNat),(w - b - s),(w - b)] [] (.nle 1 V4 V3) [.ile 1 (.sub (.sub (.c V0) (.c V1)) (.c V2)) (.c V3),.neq 1 (.add V4 V2) V5,.neq 1 (.add V5 V1) V0] rfl (Int.self_le_toNat ((↑w:Int) - (↑b:Int) - (↑s:Int))) (Nat.sub_add_cancel (lin [b,s,w,(w - b)] [] (.nle 1 V1 V3) [.nle 1 (.add V0 V1) V2,.nle 1 V2 (.add V0 V3)] rfl h (Nat.sub_le_iff_le_add'.mp (Nat.le_refl ((w) - (b)))))) (Nat.sub_add_cancel (lin [b,s,w] [] (.nle 1 V0 V2) [.nle 1 (.add V0 V1) V2] rfl h))),List.append_assoc]
 rfl
theorem Hd {li:Bool}{mu:Option Nat}{x y z:Int}{σ:LS}{K:KV} (e:x+y=z) (h:K (.int z) σ):binW li mu .Add (.int x) (.int y) σ K:=by subst e;exact h
theorem pick_lo {w sz lo hi m f:Int} (h1:1<=sz) (h2:sz<=w) (h4:lo<=hi) (h5:hi<=w - 1) (hm:m=max 0 (lo - sz+1)) (h0:0<=hi):0<=m/\lo<=m+sz - 1/\m<=w - sz/\m<=hi:=by exact ⟨lin [] [m,(max 0 (lo - sz+1))] (.ile 1 K0 V0) [.ieq (-1) V0 V1,.ile 1 K0 V1] rfl hm (Int.le_max_left (0) (lo - sz+1)),⟨lin [] [m,(max 0 (lo - sz+1)),lo,sz] (.ile 1 V2 (.sub (.add V0 V3) K1)) [.ieq (-1) V0 V1,.ile 1 (.add (.sub V2 V3) K1) V1] rfl hm (Int.le_max_right (0) (lo - sz+1)),⟨(BV (0) (lo - sz+1)).elim (fun z0=>lin [] [sz,w,m,(max 0 (lo - sz+1))] (.ile 1 V2 (.sub V1 V0)) [.ile 1 V0 V1,.ieq 1 V2 V3,.ieq 1 V3 K0] rfl h2 hm z0) (fun z0=>lin [] [lo,hi,w,m,(max 0 (lo - sz+1)),sz] (.ile 1 V3 (.sub V2 V5)) [.ile 1 V0 V1,.ile 1 V1 (.sub V2 K1),.ieq 1 V3 V4,.ieq 1 V4 (.add (.sub V0 V5) K1)] rfl h4 h5 hm z0),(BV (0) (lo - sz+1)).elim (fun z0=>lin [] [m,(max 0 (lo - sz+1)),hi] (.ile 1 V0 V2) [.ieq 1 V0 V1,.ile 1 K0 V2,.ieq 1 V1 K0] rfl hm h0 z0) (fun z0=>lin [] [sz,lo,hi,m,(max 0 (lo - sz+1))] (.ile 1 V3 V2) [.ile 1 K1 V0,.ile 1 V1 V2,.ieq 1 V3 V4,.ieq 1 V4 (.add (.sub V1 V0) K1)] rfl h1 h4 hm z0)⟩⟩⟩
theorem Hn {w sz:Nat}{lo hi N:Int} (s1:1<=sz) (s2:sz<=w) (h1:0<=lo) (h2:lo<=hi) (h3:hi<=(w:Int) - 1) :
  ∃ bg:Nat,min ((w:Int) - sz) hi - max 0 (lo - sz+1)+1≠0/\max 0 (lo - sz+1)+N.fmod (min ((w:Int) - sz) hi - max 0 (lo - sz+1)+1)=bg/\bg+sz<=w/\(bg:Int)<=hi/\lo<bg+sz:=by
 refine BO (pick_lo (f:=0) (Int.ofNat_le.mpr s1) (Int.ofNat_le.mpr s2) h2 h3 rfl (Int.le_trans h1 h2)) fun q1 q2 q3 q4=>?_
 have q5:max 0 (lo - sz+1)<=min ((w:Int) - sz) hi:=Int.le_min.mpr ⟨q3,q4⟩
 have q6:min ((w:Int) - sz) hi<=(w:Int) - sz:=Int.min_le_left _ _
 have q7:min ((w:Int) - sz) hi<=hi:=Int.min_le_right _ _
 generalize max 0 (lo - sz+1)=m at *
 generalize min ((w:Int) - sz) hi=u at *
 clear q3 q4 h1 h2 h3 s1 s2
 have hb:=A1 (a:=N) (b:=u - m+1) (by clear q1 q2 q6 q7;exact lin [] [m,u] (.ilt 1 K0 (.add (.sub V1 V0) K1)) [.ile 1 V0 V1] rfl q5)
 generalize N.fmod (u - m+1)=r at hb
 refine X1p (Int.eq_ofNat_of_zero_le (Int.add_nonneg q1 hb.1)) fun bg e=>?_
 refine ⟨bg,by clear e hb q1 q2 q6 q7;exact fun z0=>lin [] [m,u] .no [.ile 1 V0 V1,.ieq 1 (.add (.sub V1 V0) K1) K0] rfl q5 z0,e,?_,?_,?_⟩
 ·clear q1 q2 q5 q7;exact lin [w,sz,bg] [u,r,m] (.nle 1 (.add V2 V1) V0) [.ile 1 V0 (.sub (.c V0) (.c V1)),.ilt 1 V1 (.add (.sub V0 V2) K1),.ieq (-1) (.add V2 V1) (.c V2)] rfl q6 hb.2 e
 ·clear q1 q2 q5 q6;exact lin [bg] [u,hi,r,m] (.ile 1 (.c V0) V1) [.ile 1 V0 V1,.ilt 1 V2 (.add (.sub V0 V3) K1),.ieq (-1) (.add V3 V2) (.c V0)] rfl q7 hb.2 e
 ·clear q1 q5 q6 q7;exact lin [sz,bg] [lo,m,r] (.ilt 1 V0 (.add (.c V1) (.c V0))) [.ile 1 V0 (.sub (.add V1 (.c V0)) K1),.ile 1 K0 V2,.ieq 1 (.add V1 V2) (.c V1)] rfl q2 hb.1 e
theorem Hm {ev:Bool}{w:Nat}{N:Int} (w2:2<=w):∃ sz:Nat,(1<=sz/\sz<=w/\(ev=true->sz % 2=0))/\((w:Int)≠0/\(w:Int).fdiv 2≠0)/\(match ev with
  | true=>2 * (1+N.fmod ((w:Int).fdiv 2))=(sz:Int)
  | false=>1+N.fmod w=(sz:Int)):=by
 have h2:1<=(w:Int).fdiv 2/\2 * (w:Int).fdiv 2<=w:=by
  rw [Int.fdiv_eq_ediv_of_nonneg _ (by decide)];exact ⟨lin [w] [((↑w:Int) / 2)] (.ile 2 K1 V0) [.nle 1 K2 V0,.ilt 1 (.c V0) (.add (.mul 2 V0) K2)] rfl w2 (Int.lt_mul_ediv_self_add (x:=(↑w:Int)) (k:=2) (by decide)),lin [w] [((↑w:Int) / 2)] (.ile 1 (.mul 2 V0) (.c V0)) [.ile 1 (.mul 2 V0) (.c V0)] rfl (Int.mul_ediv_self_le (x:=(↑w:Int)) (k:=2) (by decide))⟩
 have ne:(w:Int)≠0/\(w:Int).fdiv 2≠0:=by exact ⟨fun z0=>lin [w] [] .no [.nle 1 K2 V0,.ieq 1 (.c V0) K0] rfl w2 z0,fun z1=>lin [] [((↑w:Int).fdiv 2)] .no [.ile 1 K1 V0,.ieq 1 V0 K0] rfl h2.1 z1⟩
 cases ev
 ·have hs:=A1 (a:=N) (b:=w) (by exact lin [w] [] (.ilt 1 K0 (.c V0)) [.nle 1 K2 V0] rfl w2)
  obtain ⟨sz,hz⟩:=Int.eq_ofNat_of_zero_le (show 0<=1+N.fmod w by clear h2 ne;exact lin [] [(N.fmod (↑w:Int))] (.ile 1 K0 (.add K1 V0)) [.ile 1 K0 V0] rfl hs.1)
  refine ⟨sz,⟨?_,?_,fun h=>(by cases h)⟩,ne,hz⟩<;>(clear h2 ne;omega)
 ·have hs:=A1 (a:=N) (b:=(w:Int).fdiv 2) (by exact lin [] [((↑w:Int).fdiv 2)] (.ilt 1 K0 V0) [.ile 1 K1 V0] rfl h2.1)
  obtain ⟨sz,hz⟩:=Int.eq_ofNat_of_zero_le (show 0<=1+N.fmod ((w:Int).fdiv 2) by clear h2 ne;exact lin [] [(N.fmod ((↑w:Int).fdiv 2))] (.ile 1 K0 (.add K1 V0)) [.ile 1 K0 V0] rfl hs.1)
  refine ⟨2 * sz,⟨?_,?_,fun zz=>Nat.mul_mod_right _ _⟩,ne,?_⟩
  ·clear h2 ne;exact lin [sz] [(N.fmod ((↑w:Int).fdiv 2))] (.nle 1 K1 (.mul 2 V0)) [.ile 2 K0 V0,.ieq 2 (.add K1 V0) (.c V0)] rfl hs.1 hz
  ·clear ne;exact lin [w,sz] [((↑w:Int).fdiv 2),(N.fmod ((↑w:Int).fdiv 2))] (.nle 1 (.mul 2 V1) V0) [.ile 1 (.mul 2 V0) (.c V0),.ilt 2 V1 V0,.ieq (-2) (.add K1 V1) (.c V1)] rfl h2.2 hs.2 hz
  ·dsimp only;rw [hz];rfl
noncomputable def FZ:FS:=specF fun avs σ K X=>∃ a b ev,avs=[.int a,.int b,.bool ev]/\σ=[]/\∀ w L,2<=w->w<=6->1<=L.length->L.length<=6->Strips ev w L->K ⟨[.list (Aj (L.map (Aq w)))],.new 0⟩ []
noncomputable abbrev rbM (a b:Int) (ev:Bool) (w:Nat) (f:Addr) (lo hi:Int) (u7 u8 u9 u10 u11:Option AV):M:=[some (.int a),some (.int b),some (.bool ev),some (.int w),some (.loc f 4),some (.int lo),some (.int hi),u7,u8,u9,u10,u11]
noncomputable abbrev rbS (w:Nat) (f:Addr) (L:List (Nat×Nat)):LS:=[.no,.no,.no,.no,.at f (.list (Aj (L.map (Aq w))))]
inductive RbJ (a b:Int) (ev:Bool) (w n:Nat) (f:Addr) (d r:List Int):M->LS->Prop
 | mk (hn:d.length+r.length=n) (L:List (Nat×Nat)) (lo hi:Int) (u7 u8 u9 u10 u11:Option AV) (hL:L.length=d.length) (st:Strips ev w L) (h1:0<=lo) (h2:lo<=hi) (h3:hi<=(w:Int) - 1) (hl:∀ p,L.getLast?=some p->lo=p.1/\hi=p.1+p.2 - 1):RbJ a b ev w n f d r (rbM a b ev w f lo hi u7 u8 u9 u10 u11) (rbS w f L)
theorem rb_last {L:List (Nat×Nat)}{bg sz:Nat}{lo hi:Int} (hl:∀ p,L.getLast?=some p->lo=p.1/\hi=p.1+p.2 - 1) (h4:(bg:Int)<=hi) (h5:lo<bg+sz) (p:Nat×Nat) (hp:L.getLast?=some p):p.1<bg+sz/\bg<p.1+p.2:=by
 refine Ad (hl p hp) fun e1 e2=>?_
 clear hp hl
 constructor
 ·clear e2 h4;exact lin [bg,sz,(p.fst)] [lo] (.nlt 1 V2 (.add V0 V1)) [.ilt 1 V0 (.add (.c V0) (.c V1)),.ieq (-1) V0 (.c V2)] rfl h5 e1
 ·clear e1 h5;exact lin [bg,(p.fst),(p.snd)] [hi] (.nlt 1 V0 (.add V1 V2)) [.ile 1 (.c V0) V0,.ieq 1 V0 (.sub (.add (.c V1) (.c V2)) K1)] rfl h4 e2
theorem rb_step {ex:List Nat}{X:XL}{a b:Int}{ev:Bool}{w n:Nat}{f:Addr}{lo hi y N:Int}{L:List (Nat×Nat)}{u9 u10 u11:Option AV}{sz:Nat}{KK:KS} (w6:w<=6) (hL:L.length<=6) (s1:1<=sz) (s2:sz<=w) (h1:0<=lo) (h2:lo<=hi) (h3:hi<=(w:Int) - 1)
  (h:∀ bg:Nat,bg+sz<=w->(bg:Int)<=hi->lo<bg+sz->∀ u10 u11,KK .next (rbM a b ev w f bg (bg+sz - 1) (some (.int y)) (some (.int N)) (some (.int sz)) u10 u11) (rbS w f (L++[(bg,sz)]))) :
  wpSs ⟨true,ex,[(73,GY)],[],[]⟩ [.assign (.v 10) (.call (.g 14) [(.int 0),(.bin .Add (.bin .Sub (.v 5) (.v 9)) (.int 1))]),.assign (.v 11) (.bin .Add (.v 10) (.bin .Mod (.bin .FloorDiv (.v 8) (.int 30)) (.bin .Add (.bin .Sub (.call (.g 13) [(.bin .Sub (.v 3) (.v 9)),(.v 6)]) (.v 10)) (.int 1)))),.expr (.meth (.v 4) 0 [(.bin .Add (.bin .Add (.bin .Mult (.str ".") (.v 11)) (.bin .Mult (.str "#") (.v 9))) (.bin .Mult (.str ".") (.bin .Sub (.bin .Sub (.v 3) (.v 11)) (.v 9))))]),.assign (.tup [(.v 5),(.v 6)]) (.tup [(.v 11),(.bin .Sub (.bin .Add (.v 11) (.v 9)) (.int 1))])] X
   (rbM a b ev w f lo hi (some (.int y)) (some (.int N)) (some (.int sz)) u10 u11) (rbS w f L) KK:=by
 refine X1ppppp (Hn (N:=N.fdiv 30) s1 s2 h1 h2 h3) fun bg ne e b1 b2 b3=>?_
 refine ⟨ne,Hd e ?_⟩
 have bw:bg<=6:=Nat.le_trans (Nat.le_trans (Nat.le_add_right _ _) b1) w6
 have sw:sz<=6:=Nat.le_trans s2 w6
 have m0:∀ n:Int,-100<=n->n<=100->MulOk "." n:=fun n h1 h2=>mul_ok (by decide) h2 h1
 have l0:∀ n:Int,(Txt.mul "." n).length=n.toNat:=fun n=>by rw [s_dot];exact I2 _ _
 have l1:(Txt.mul "#" sz).length=sz:=by rw [s_hash,I2,Int.toNat_natCast]
 clear ne e h1 h2 h3
 have z1:-100<=(w:Int) - bg - sz/\(w:Int) - bg - sz<=100:=by clear b2 b3 s1 s2 hL;exact ⟨lin [bg,sz,w] [] (.ile 1 Km100 (.sub (.sub (.c V2) (.c V0)) (.c V1))) [.nle 1 (.add V0 V1) V2] rfl b1,lin [w,bg,sz] [] (.ile 1 (.sub (.sub (.c V0) (.c V1)) (.c V2)) H5) [.nle 1 V0 K6] rfl w6⟩
 refine ⟨rfl,m0 _ (by clear z1 b1 b2 b3 s1 s2 hL;exact lin [bg] [] (.ile 1 Km100 (.c V0)) [] rfl) (by clear z1 b1 b2 b3 s1 s2 hL;exact lin [bg] [] (.ile 1 (.c V0) H5) [.nle 1 V0 K6] rfl bw),mul_ok (by decide) (by clear z1 b1 b2 b3 s1 s2 hL;exact lin [sz] [] (.ile 1 (.c V0) H5) [.nle 1 V0 K6] rfl sw) (by clear z1 b1 b2 b3 s1 s2 hL;exact lin [sz] [] (.ile 1 Km100 (.c V0)) [] rfl),Ai ?_,m0 _ z1.1 z1.2,Ai ?_,rfl,Ai ?_,?_⟩
 ·rw [l0,l1,Int.toNat_natCast];exact Nat.le_trans (Nat.add_le_add bw sw) (by decide)
 ·rw [app_len,l0,l1,l0,Int.toNat_natCast];clear b2 b3 s1 s2 hL;exact lin [w,(((↑w:Int) - (↑bg:Int) - (↑sz:Int)).toNat),bg,sz] [] (.nle 1 (.add (.add V2 V3) V1) AG) [.nle 1 V0 K6,.ieq 1 (.c V1) (.sub (.sub (.c V0) (.c V2)) (.c V3))] rfl w6 (Int.toNat_of_nonneg (lin [bg,sz,w] [] (.ile 1 K0 (.sub (.sub (.c V2) (.c V0)) (.c V1))) [.nle 1 (.add V0 V1) V2] rfl b1))
 ·rw [Bi,List.length_map];exact Nat.le_trans hL (by decide)
 ·have:=h bg b1 b2 b3 (some (.int (max 0 (lo - sz+1)))) (some (.int bg))
  have e:rbS w f (L++[(bg,sz)])=[.no,.no,.no,.no,.at f (.list (Aj (L.map (Aq w))++[.str (Txt.mul "." bg++Txt.mul "#" sz++Txt.mul "." ((w:Int) - bg - sz))]))]:=by
   rw [Hl w bg sz b1]
   show ([.no,.no,.no,.no,.at f (.list (Aj ((L++[(bg,sz)]).map (Aq w))))]:LS)=_
   rw [List.map_append]
   unfold Aj
   rw [List.map_append]
   rfl
  rw [e] at this
  exact this
theorem rb_count {a:Int}:∃ n:Nat,1+(a.fdiv 5).fmod 6=(n:Int)/\1<=n/\n<=6:=by
 have:=A1 (a:=a.fdiv 5) (b:=6) (by decide)
 obtain ⟨n,hn⟩:=Int.eq_ofNat_of_zero_le (show 0<=1+(a.fdiv 5).fmod 6 by exact lin [] [((a.fdiv 5).fmod 6)] (.ile 1 K0 (.add K1 V0)) [.ile 1 K0 V0] rfl this.1)
 exact ⟨n,hn,by exact lin [n] [((a.fdiv 5).fmod 6)] (.nle 1 K1 V0) [.ile 1 K0 V0,.ieq 1 (.add K1 V0) (.c V0)] rfl this.1 hn,by exact lin [n] [((a.fdiv 5).fmod 6)] (.nle 1 V0 K6) [.ilt 1 V0 K6,.ieq (-1) (.add K1 V0) (.c V0)] rfl this.2 hn⟩
theorem rb_width {a:Int}:∃ n:Nat,2+a.fmod 5=(n:Int)/\2<=n/\n<=6:=by
 have:=A1 (a:=a) (b:=5) (by decide)
 obtain ⟨n,hn⟩:=Int.eq_ofNat_of_zero_le (show 0<=2+a.fmod 5 by exact lin [] [(a.fmod 5)] (.ile 1 K0 (.add K2 V0)) [.ile 1 K0 V0] rfl this.1)
 exact ⟨n,hn,by exact lin [n] [(a.fmod 5)] (.nle 1 K2 V0) [.ile 1 K0 V0,.ieq 1 (.add K2 V0) (.c V0)] rfl this.1 hn,by exact lin [n] [(a.fmod 5)] (.nle 1 V0 K6) [.ilt 1 V0 K5,.ieq (-1) (.add K2 V0) (.c V0)] rfl this.2 hn⟩
theorem Gm {n:Nat} (h:n<=1000):Builtin.Range.small 0 n 1=true:=C1 (by decide) (by decide) (by exact lin [n] [] (.ile 1 A8 (.c V0)) [] rfl) (by exact lin [n] [] (.ile 1 (.c V0) Al) [.nle 1 V0 AG] rfl h)
theorem Iz {ex:List Nat}:FnOk ⟨true,ex,[(73,GY)],[],[]⟩ DU .new 9 5 FZ:=by
 refine .specF fun avs σ K X h=>?_
 refine X3ppp (h) fun a b ev he127_3 he127_4 hK=>?_
 subst he127_3
 subst he127_4
 refine X1ppp (rb_width (a:=a)) fun w hw w2 w6=>?_
 refine X1ppp (rb_count (a:=a)) fun n hn n1 n6=>?_
 refine ⟨rfl,fun f=>⟨by rw [hn];exact Gm (Nat.le_trans n6 (by decide)),?_⟩⟩
 rw [hn,hw]
 refine AI (g:=.int) (Go n) (RbJ a b ev w n f) ?_ ?_ (d:=[]) (.mk (by rw [Ap];exact Nat.zero_add _) [] 0 ((w:Int) - 1) _ _ _ _ _ rfl Strips.nil (by decide) (by clear hw hn;exact lin [w] [] (.ile 1 K0 (.sub (.c V0) K1)) [.nle 1 K2 V0] rfl w2) (Int.le_refl _) fun zz h=>(by cases h))
 ·intro d m σ j
  cases j with
  | mk hd L lo hi u7 u8 u9 u10 u11 hL st _ _ _ _ =>
   rw [List.length_nil,Nat.add_zero,<- hL] at hd
   subst hd
   exact ⟨rfl,hK w L w2 w6 n1 n6 st⟩
 ·intro d y r m σ j C hC
  cases j with
  | mk hd L lo hi u7 u8 u9 u10 u11 hL st h1 h2 h3 hl =>
   obtain ⟨sz,⟨s1,s2,s3⟩,⟨ne1,ne2⟩,hs⟩:=Hm (ev:=ev) (N:=(b * 48271+7919 * y+11).fmod 2147483647) w2
   have go:=rb_step (ex:=ex) (X:=fun e τ=>X e (List.take ([]:LS).length τ)) (a:=a) (b:=b) (ev:=ev) (n:=n) (f:=f) (y:=y) (N:=(b * 48271+7919 * y+11).fmod 2147483647) (u9:=u9) (u10:=u10) (u11:=u11) (KK:=GG Option.none (rbS w f L) C (kSeq (wpSs ⟨true,ex,[(73,GY)],[],[]⟩ [.ret (.v 4)] fun e τ=>X e (List.take ([]:LS).length τ)) fun fl zz τ=>retW .new ([]:LS).length (flV fl) τ K)) w6 (by rw [hL];clear hn hw;exact lin [n,(d.length),((y::r).length)] [] (.nle 1 V1 K6) [.nle 1 V0 K6,.neq 1 (.add V1 V2) V0] rfl n6 hd) s1 s2 h1 h2 h3 fun bg b1 b2 b3 v10 v11=>hC _ _ (.mk (by rw [List.length_append];clear hn hw;exact (Nat.add_assoc _ _ _).trans ((congrArg _ (Nat.add_comm _ _)).trans hd)) (L++[(bg,sz)]) bg (bg+sz - 1) _ _ _ _ _ (by rw [List.length_append,List.length_append,hL];rfl) (st.snoc ⟨s1,b1,s3⟩ (rb_last hl b2 b3)) (by exact lin [bg] [] (.ile 1 K0 (.c V0)) [] rfl) (by clear hn hw;exact lin [sz,bg] [] (.ile 1 (.c V1) (.sub (.add (.c V1) (.c V0)) K1)) [.nle 1 K1 V0] rfl s1) (by clear hn hw;exact lin [bg,sz,w] [] (.ile 1 (.sub (.add (.c V0) (.c V1)) K1) (.sub (.c V2) K1)) [.nle 1 (.add V0 V1) V2] rfl b1) fun p hp=>by
     rw [List.getLast?_append,List.getLast?_singleton,Option.some_or] at hp
     cases hp
     exact ⟨rfl,rfl⟩)
   cases ev
   ·refine ⟨ne1,?_⟩
    refine Hd hs go
   ·refine ⟨ne2,?_⟩
    refine ⟨IntMulOk.of_left (by decide +kernel),?_⟩
    rw [show (2:Int) * (1+((b * 48271+7919 * y+11).fmod 2147483647).fmod ((w:Int).fdiv 2))=_ from hs]
    exact go
end Mine
end
section
namespace Mine
open PySem
theorem Reach.trans {P:List Sp}{a b c:Sp} (h:Reach P a b) (g:Reach P b c):Reach P a c:=by
 induction g with
 | refl=>exact h
 | step _ n m ih=>exact .step ih n m
theorem Reach.symm {P:List Sp}{a b:Sp} (ha:a∈P) (h:Reach P a b):Reach P b a:=by
 induction h with
 | refl=>exact .refl
 | step g n m ih =>
  refine Reach.trans (.step .refl (EN n) ?_) ih
  exact g.mem.elim (fun e=>e▸ha) id
theorem Reach.into {P Q:List Sp}{a b:Sp} (f:Sp->Sp) (hf:∀ c∈P,f c∈Q) (hn:∀ c k,c∈AY k->f c∈AY (f k)) (h:Reach P a b):Reach Q (f a) (f b):=by
 induction h with
 | refl=>exact .refl
 | step _ n m ih=>exact .step ih (hn _ _ n) (hf _ m)
noncomputable def sw (k:Sp):Sp:=(k.2,k.1)
theorem Fr (c k:Sp) (h:c∈AY k):sw c∈AY (sw k):=by
 cases Ec h with
 | u=>exact Bd .l
 | l=>exact Bd .u
 | r=>exact Bd .d
 | d=>exact Bd .r
theorem near_l {x y:Int}:(x - 1,y)∈AY (x,y):=.tail _ (.head _)
theorem near_u {x y:Int}:(x,y - 1)∈AY (x,y):=.head _
theorem near_d {x y:Int}:(x,y+1)∈AY (x,y):=.tail _ (.tail _ (.tail _ (.head _)))
theorem FV {P:List Sp}{y:Int}:∀ {n:Nat}{x:Int},(∀ i:Nat,i<=n->(x - i,y)∈P)->Reach P (x,y) (x - n,y)
 | 0,x,_=>by rw [show x - ((0:Nat):Int)=x by exact Int.le_antisymm (lin [] [x] (.ile 1 (.sub V0 (.c K0)) V0) [] rfl) (lin [] [x] (.ile 1 V0 (.sub V0 (.c K0))) [] rfl)];exact .refl
 | n+1,x,h=>by
  refine .step (FV (n:=n) fun i hi=>h i (by exact lin [i,n] [] (.nle 1 V0 (.add V1 K1)) [.nle 1 V0 V1] rfl hi)) ?_ (h (n+1) (Nat.le_refl _))
  rw [show x - ((n+1:Nat):Int)=x - n - 1 by exact Int.le_antisymm (lin [n] [x] (.ile 1 (.sub V0 (.c (.add V0 K1))) (.sub (.sub V0 (.c V0)) K1)) [] rfl) (lin [n] [x] (.ile 1 (.sub (.sub V0 (.c V0)) K1) (.sub V0 (.c (.add V0 K1)))) [] rfl)]
  exact near_l
theorem go_up {P:List Sp}{x:Int}:∀ {n:Nat}{y:Int},(∀ i:Nat,i<=n->(x,y - i)∈P)->Reach P (x,y) (x,y - n)
 | 0,y,_=>by rw [show y - ((0:Nat):Int)=y by exact Int.le_antisymm (lin [] [y] (.ile 1 (.sub V0 (.c K0)) V0) [] rfl) (lin [] [y] (.ile 1 V0 (.sub V0 (.c K0))) [] rfl)];exact .refl
 | n+1,y,h=>by
  refine .step (go_up (n:=n) fun i hi=>h i (by exact lin [i,n] [] (.nle 1 V0 (.add V1 K1)) [.nle 1 V0 V1] rfl hi)) ?_ (h (n+1) (Nat.le_refl _))
  rw [show y - ((n+1:Nat):Int)=y - n - 1 by exact Int.le_antisymm (lin [n] [y] (.ile 1 (.sub V0 (.c (.add V0 K1))) (.sub (.sub V0 (.c V0)) K1)) [] rfl) (lin [n] [y] (.ile 1 (.sub (.sub V0 (.c V0)) K1) (.sub V0 (.c (.add V0 K1)))) [] rfl)]
  exact near_u
theorem EW {P:List Sp}{x z y:Int} (h:∀ u,(z<=u/\u<=x)\/(x<=u/\u<=z)->(u,y)∈P):Reach P (x,y) (z,y):=by
 by_cases q:z<=x
 ·have:=FV (P:=P) (y:=y) (n:=(x - z).toNat) (x:=x) fun i hi=>h _ (by exact .inl (⟨lin [i,((x - z).toNat)] [x,z] (.ile 1 V1 (.sub V0 (.c V0))) [.nle 1 V0 V1,.ieq 1 (.c V1) (.sub V0 V1)] rfl hi (Int.toNat_of_nonneg (lin [] [z,x] (.ile 1 K0 (.sub V1 V0)) [.ile 1 V0 V1] rfl q)),lin [i] [x] (.ile 1 (.sub V0 (.c V0)) V0) [] rfl⟩))
  rw [show x - ((x - z).toNat:Int)=z by exact Int.le_antisymm (lin [((x - z).toNat)] [x,z] (.ile 1 (.sub V0 (.c V0)) V1) [.ile 1 (.sub V0 V1) (.c V0)] rfl (Int.self_le_toNat (x - z))) (lin [((x - z).toNat)] [x,z] (.ile 1 V1 (.sub V0 (.c V0))) [.ieq 1 (.c V0) (.sub V0 V1)] rfl (Int.toNat_of_nonneg (lin [] [z,x] (.ile 1 K0 (.sub V1 V0)) [.ile 1 V0 V1] rfl q)))] at this;exact this
 ·have:=FV (P:=P) (y:=y) (n:=(z - x).toNat) (x:=z) fun i hi=>h _ (by exact .inr (⟨lin [i,((z - x).toNat)] [z,x] (.ile 1 V1 (.sub V0 (.c V0))) [.nle 1 V0 V1,.ieq 1 (.c V1) (.sub V0 V1)] rfl hi (Int.toNat_of_nonneg (lin [] [z,x] (.ile 1 K0 (.sub V0 V1)) [.igt 1 V0 V1] rfl q)),lin [i] [z] (.ile 1 (.sub V0 (.c V0)) V0) [] rfl⟩))
  rw [show z - ((z - x).toNat:Int)=x by exact Int.le_antisymm (lin [((z - x).toNat)] [z,x] (.ile 1 (.sub V0 (.c V0)) V1) [.ile 1 (.sub V0 V1) (.c V0)] rfl (Int.self_le_toNat (z - x))) (lin [((z - x).toNat)] [z,x] (.ile 1 V1 (.sub V0 (.c V0))) [.ieq 1 (.c V0) (.sub V0 V1)] rfl (Int.toNat_of_nonneg (lin [] [z,x] (.ile 1 K0 (.sub V0 V1)) [.igt 1 V0 V1] rfl q)))] at this
  exact this.symm (h z (by exact .inr (⟨lin [] [z,x] (.ile 1 V1 V0) [.igt 1 V0 V1] rfl q,lin [] [z] (.ile 1 V0 V0) [] rfl⟩)))
theorem go_col {P:List Sp}{x y z:Int} (hz:z<=y) (h:∀ u,z<=u/\u<=y->(x,u)∈P):Reach P (x,y) (x,z):=by
 have:=go_up (P:=P) (x:=x) (n:=(y - z).toNat) (y:=y) fun i hi=>h _ (by exact ⟨lin [i,((y - z).toNat)] [y,z] (.ile 1 V1 (.sub V0 (.c V0))) [.nle 1 V0 V1,.ieq 1 (.c V1) (.sub V0 V1)] rfl hi (Int.toNat_of_nonneg (lin [] [z,y] (.ile 1 K0 (.sub V1 V0)) [.ile 1 V0 V1] rfl hz)),lin [i] [y] (.ile 1 (.sub V0 (.c V0)) V0) [] rfl⟩)
 rw [show y - ((y - z).toNat:Int)=z by exact Int.le_antisymm (lin [((y - z).toNat)] [y,z] (.ile 1 (.sub V0 (.c V0)) V1) [.ile 1 (.sub V0 V1) (.c V0)] rfl (Int.self_le_toNat (y - z))) (lin [((y - z).toNat)] [y,z] (.ile 1 V1 (.sub V0 (.c V0))) [.ieq 1 (.c V0) (.sub V0 V1)] rfl (Int.toNat_of_nonneg (lin [] [z,y] (.ile 1 K0 (.sub V1 V0)) [.ile 1 V0 V1] rfl hz)))] at this;exact this
theorem Fg {w:Nat}{p:Nat×Nat} (h:p.1+p.2<=w) {x:Int}:bit (Aq w p) x↔(p.1:Int)<=x/\x<p.1+p.2:=by
 unfold bit Aq
 have key:∀ n:Nat,(List.replicate p.1 false++(List.replicate p.2 true++List.replicate (w - p.1 - p.2) false))[n]?=some true↔p.1<=n/\n<p.1+p.2:=fun n=>by
  rcases Nat.lt_or_ge n p.1 with z | z
  ·rw [List.getElem?_append_left (by rw [List.length_replicate];exact z),List.getElem?_replicate,if_pos z]
   exact ⟨fun h=>(by cases h),fun h=>(Nat.not_le_of_lt z h.1).elim⟩
  ·rw [List.getElem?_append_right (by rw [List.length_replicate];exact z),List.length_replicate]
   rcases Nat.lt_or_ge (n - p.1) p.2 with z2 | z2
   ·rw [List.getElem?_append_left (by rw [List.length_replicate];exact z2),List.getElem?_replicate,if_pos z2]
    exact ⟨fun zz=>⟨z,by exact lin [(n - p.fst),(p.snd),n,(p.fst)] [] (.nlt 1 V2 (.add V3 V1)) [.nlt 1 V0 V1,.nle 1 V2 (.add V3 V0)] rfl z2 (Nat.sub_le_iff_le_add'.mp (Nat.le_refl ((n) - (p.fst))))⟩,fun zz=>rfl⟩
   ·rw [List.getElem?_append_right (by rw [List.length_replicate];exact z2),List.length_replicate,List.getElem?_replicate]
    refine ⟨fun y=>?_,fun y=>(Nat.not_lt.mpr z2 (by exact lin [n,(p.fst),(p.snd),(n - p.fst)] [] (.nlt 1 V3 V2) [.nlt 1 V0 (.add V1 V2),.neq 1 (.add V3 V1) V0] rfl y.2 (Nat.sub_add_cancel (z)))).elim⟩
    by_cases q:n - p.1 - p.2<w - p.1 - p.2
    ·rw [if_pos q] at y;cases y
    ·rw [if_neg q] at y;cases y
 rw [key]
 exact ⟨fun z0=>⟨lin [(p.fst),(x.toNat)] [x] (.ile 1 (.c V0) V0) [.nle 1 V0 V1,.ieq 1 (.c V1) V0] rfl z0.2.1 (Int.toNat_of_nonneg (z0.1)),lin [(x.toNat),(p.fst),(p.snd)] [x] (.ilt 1 V0 (.add (.c V1) (.c V2))) [.nlt 1 V0 (.add V1 V2),.ile 1 V0 (.c V0)] rfl z0.2.2 (Int.self_le_toNat (x))⟩,fun z0=>⟨lin [(p.fst)] [x] (.ile 1 K0 V0) [.ile 1 (.c V0) V0] rfl z0.1,⟨lin [(p.fst),(x.toNat)] [x] (.nle 1 V0 V1) [.ile 1 (.c V0) V0,.ile 1 V0 (.c V1)] rfl z0.1 (Int.self_le_toNat (x)),lin [(p.fst),(p.snd),(x.toNat)] [x] (.nlt 1 V2 (.add V0 V1)) [.ilt 1 V0 (.add (.c V0) (.c V1)),.ieq 1 (.c V2) V0] rfl z0.2 (Int.toNat_of_nonneg (lin [(p.fst)] [x] (.ile 1 K0 V0) [.ile 1 (.c V0) V0] rfl z0.1))⟩⟩⟩
theorem Im {w:Nat}{p:Nat×Nat} (h:p.1+p.2<=w):(Aq w p).length=w:=by
 unfold Aq
 rw [List.length_append,List.length_append,List.length_replicate,List.length_replicate,List.length_replicate];exact Nat.le_antisymm (lin [(w - p.fst - p.snd),(p.snd),(w - p.fst),(p.fst),w] [] (.nle 1 (.add V3 (.add V1 V0)) V4) [.neq 1 (.add V0 V1) V2,.neq 1 (.add V2 V3) V4] rfl (Nat.sub_add_cancel (lin [(p.fst),(p.snd),w,(w - p.fst)] [] (.nle 1 V1 V3) [.nle 1 (.add V0 V1) V2,.nle 1 V2 (.add V0 V3)] rfl h (Nat.sub_le_iff_le_add'.mp (Nat.le_refl ((w) - (p.fst)))))) (Nat.sub_add_cancel (lin [(p.fst),(p.snd),w] [] (.nle 1 V0 V2) [.nle 1 (.add V0 V1) V2] rfl h))) (lin [(w - p.fst),(p.snd),(w - p.fst - p.snd),w,(p.fst)] [] (.nle 1 V3 (.add V4 (.add V1 V2))) [.nle 1 V0 (.add V1 V2),.nle 1 V3 (.add V4 V0)] rfl (Nat.sub_le_iff_le_add'.mp (Nat.le_refl ((w - p.fst) - (p.snd)))) (Nat.sub_le_iff_le_add'.mp (Nat.le_refl ((w) - (p.fst)))))
theorem Au {ev:Bool}{w:Nat}{L:List (Nat×Nat)} (st:Strips ev w L) {k:Sp}:k∈Aa (L.map (Aq w))↔0<=k.2/\∃ p,L[k.2.toNat]?=some p/\(p.1:Int)<=k.1/\k.1<p.1+p.2:=by
 rw [cellsOf_mem]
 unfold has
 constructor
 ·rintro ⟨h,r,h1,h2⟩
  rw [List.getElem?_map] at h1
  cases hp:L[k.2.toNat]? with
  | none=>rw [hp] at h1;cases h1
  | some p =>
   rw [hp] at h1;cases h1
   exact ⟨h,p,rfl,(Fg (st.ok p (List.mem_of_getElem? hp)).2.1).mp h2⟩
 ·rintro ⟨h,p,h1,h2⟩
  exact ⟨h,Aq w p,by rw [List.getElem?_map,h1];rfl,(Fg (st.ok p (List.mem_of_getElem? h1)).2.1).mpr h2⟩
theorem Fs {ev:Bool}{w:Nat}{L:List (Nat×Nat)} (st:Strips ev w L) (h1:1<=L.length) (h6:L.length<=6) (w2:2<=w) (w6:w<=6):Grid (L.map (Aq w)) w:=by
 refine ⟨by rw [List.length_map];exact h1,by rw [List.length_map];exact h6,by exact lin [w] [] (.nle 1 K1 V0) [.nle 1 K2 V0] rfl w2,w6,fun r hr=>?_⟩
 refine X1pp (List.mem_map.mp hr) fun p hp he94_2=>?_
 subst he94_2
 exact Im (st.ok p hp).2.1
noncomputable def Kf (P:List Sp):Prop:=∀ a∈P,∀ b∈P,Reach P a b
theorem DE {ev:Bool}{w:Nat}{L:List (Nat×Nat)} (st:Strips ev w L) {a b:Sp} (ha:a∈Aa (L.map (Aq w))) (hb:b∈Aa (L.map (Aq w))) (e:a.2=b.2):Reach (Aa (L.map (Aq w))) a b:=by
 obtain ⟨x,y⟩:=a
 obtain ⟨z,v⟩:=b
 dsimp only at e
 subst e
 refine Ad ((Au st).mp ha) fun h1 hy103_0=>?_
 refine X1pp (hy103_0) fun p h2 h3=>?_
 refine Ad ((Au st).mp hb) fun zz hy104_0=>?_
 refine X1pp (hy104_0) fun q k2 k3=>?_
 dsimp only at h2 k2 h3 k3
 rw [h2] at k2;cases k2
 refine EW fun u hu=>(Au st).mpr ⟨h1,p,h2,?_⟩
 dsimp only
 exact ⟨hu.elim (fun z0=>lin [(p.fst)] [z,u] (.ile 1 (.c V0) V1) [.ile 1 (.c V0) V0,.ile 1 V0 V1] rfl k3.1 z0.1) (fun z0=>lin [(p.fst)] [x,u] (.ile 1 (.c V0) V1) [.ile 1 (.c V0) V0,.ile 1 V0 V1] rfl h3.1 z0.1),hu.elim (fun z0=>lin [(p.fst),(p.snd)] [x,u] (.ilt 1 V1 (.add (.c V0) (.c V1))) [.ilt 1 V0 (.add (.c V0) (.c V1)),.ile 1 V1 V0] rfl h3.2 z0.2) (fun z0=>lin [(p.fst),(p.snd)] [z,u] (.ilt 1 V1 (.add (.c V0) (.c V1))) [.ilt 1 V0 (.add (.c V0) (.c V1)),.ile 1 V1 V0] rfl k3.2 z0.2)⟩
theorem BQ {ev:Bool}{w:Nat}{L:List (Nat×Nat)} (st:Strips ev w L):∀ (n:Nat) {a b:Sp},a∈Aa (L.map (Aq w))->b∈Aa (L.map (Aq w))->b.2=a.2+n->Reach (Aa (L.map (Aq w))) a b
 | 0,a,b,ha,hb,e=>DE st ha hb (by exact Int.le_antisymm (lin [] [(b.snd),(a.snd)] (.ile 1 V1 V0) [.ieq (-1) V0 (.add V1 (.c K0))] rfl e) (lin [] [(b.snd),(a.snd)] (.ile 1 V0 V1) [.ieq 1 V0 (.add V1 (.c K0))] rfl e))
 | n+1,a,b,ha,hb,e=>by
  refine Ad ((Au st).mp ha) fun h1 hy113_0=>?_
  refine X1pp (hy113_0) fun p h2 h3=>?_
  refine Ad ((Au st).mp hb) fun k1 hy114_0=>?_
  refine X1pp (hy114_0) fun q k2 k3=>?_
  have hl:a.2.toNat+1<L.length:=by
   rcases Nat.lt_or_ge b.2.toNat L.length with z | z
   ·exact lin [n,(b.snd.toNat),(L.length),(a.snd.toNat)] [(b.snd),(a.snd)] (.nlt 1 (.add V3 K1) V2) [.ieq (-1) V0 (.add V1 (.c (.add V0 K1))),.nlt 1 V1 V2,.ile 1 V0 (.c V1),.ieq 1 (.c V3) V1] rfl e z (Int.self_le_toNat (b.snd)) (Int.toNat_of_nonneg (h1))
   ·rw [List.getElem?_eq_none z] at k2;cases k2
  have hr:L[a.2.toNat+1]?=some L[a.2.toNat+1]:=List.getElem?_eq_getElem hl
  generalize L[a.2.toNat+1]=r at hr
  have ov:=st.ch _ p r h2 hr
  have rok:=st.ok r (List.mem_of_getElem? hr)
  have pok:=st.ok p (List.mem_of_getElem? h2)
  obtain ⟨x,hx⟩:∃ x:Nat,x=max p.1 r.1:=⟨_,rfl⟩
  have c1:((x:Int),a.2)∈Aa (L.map (Aq w)):=(Au st).mpr ⟨h1,p,h2,by dsimp only;exact ⟨lin [x,(max p.fst r.fst),(p.fst)] [] (.ile 1 (.c V2) (.c V0)) [.neq (-1) V0 V1,.nle 1 V2 V1] rfl hx (Nat.le_max_left (p.fst) (r.fst)),(IX (p.fst) (r.fst)).elim (fun z0=>lin [(p.fst),(p.snd),x,(max p.fst r.fst)] [(a.fst)] (.ilt 1 (.c V2) (.add (.c V0) (.c V1))) [.ile 1 (.c V0) V0,.ilt 1 V0 (.add (.c V0) (.c V1)),.neq 1 V2 V3,.neq 1 V3 V0] rfl h3.1 h3.2 hx z0) (fun z0=>lin [(r.fst),(p.fst),(p.snd),x,(max p.fst r.fst)] [] (.ilt 1 (.c V3) (.add (.c V1) (.c V2))) [.nlt 1 V0 (.add V1 V2),.neq 1 V3 V4,.neq 1 V4 V0] rfl ov.2 hx z0)⟩⟩
  have c2:((x:Int),a.2+1)∈Aa (L.map (Aq w)):=(Au st).mpr ⟨by dsimp only;exact lin [] [(a.snd)] (.ile 1 K0 (.add V0 K1)) [.ile 1 K0 V0] rfl h1,r,by dsimp only;rw [show (a.2+1).toNat=a.2.toNat+1 by exact Nat.le_antisymm (lin [(a.snd.toNat),((a.snd+1).toNat)] [(a.snd)] (.nle 1 V1 (.add V0 K1)) [.ile 1 V0 (.c V0),.ieq 1 (.c V1) (.add V0 K1)] rfl (Int.self_le_toNat (a.snd)) (Int.toNat_of_nonneg (lin [] [(a.snd)] (.ile 1 K0 (.add V0 K1)) [.ile 1 K0 V0] rfl h1))) (lin [((a.snd+1).toNat),(a.snd.toNat)] [(a.snd)] (.nle 1 (.add V1 K1) V0) [.ile 1 (.add V0 K1) (.c V0),.ieq 1 (.c V1) V0] rfl (Int.self_le_toNat (a.snd+1)) (Int.toNat_of_nonneg (h1)))];exact hr,by dsimp only;exact ⟨lin [x,(max p.fst r.fst),(r.fst)] [] (.ile 1 (.c V2) (.c V0)) [.neq (-1) V0 V1,.nle 1 V2 V1] rfl hx (Nat.le_max_right (p.fst) (r.fst)),(IX (p.fst) (r.fst)).elim (fun z0=>lin [(p.fst),(r.fst),(r.snd),x,(max p.fst r.fst)] [] (.ilt 1 (.c V3) (.add (.c V1) (.c V2))) [.nlt 1 V0 (.add V1 V2),.neq 1 V3 V4,.neq 1 V4 V0] rfl ov.1 hx z0) (fun z0=>lin [(r.snd),x,(max p.fst r.fst),(r.fst)] [] (.ilt 1 (.c V1) (.add (.c V3) (.c V0))) [.nle 1 K1 V0,.neq 1 V1 V2,.neq 1 V2 V3] rfl rok.1 hx z0)⟩⟩
  exact Reach.trans (.step (DE st ha c1 rfl) near_d c2) (BQ st n c2 hb (by dsimp only;exact Int.le_antisymm (lin [n] [(b.snd),(a.snd)] (.ile 1 V0 (.add (.add V1 K1) (.c V0))) [.ieq 1 V0 (.add V1 (.c (.add V0 K1)))] rfl e) (lin [n] [(b.snd),(a.snd)] (.ile 1 (.add (.add V1 K1) (.c V0)) V0) [.ieq (-1) V0 (.add V1 (.c (.add V0 K1)))] rfl e)))
theorem Bk {ev:Bool}{w:Nat}{L:List (Nat×Nat)} (st:Strips ev w L):Kf (Aa (L.map (Aq w))):=by
 intro a ha b hb
 by_cases h:a.2<=b.2
 ·exact BQ st (b.2 - a.2).toNat ha hb (by exact Int.le_antisymm (lin [((b.snd - a.snd).toNat)] [(b.snd),(a.snd)] (.ile 1 V0 (.add V1 (.c V0))) [.ile 1 (.sub V0 V1) (.c V0)] rfl (Int.self_le_toNat (b.snd - a.snd))) (lin [((b.snd - a.snd).toNat)] [(b.snd),(a.snd)] (.ile 1 (.add V1 (.c V0)) V0) [.ieq 1 (.c V0) (.sub V0 V1)] rfl (Int.toNat_of_nonneg (lin [] [(a.snd),(b.snd)] (.ile 1 K0 (.sub V1 V0)) [.ile 1 V0 V1] rfl h))))
 ·exact (BQ st (a.2 - b.2).toNat hb ha (by exact Int.le_antisymm (lin [((a.snd - b.snd).toNat)] [(a.snd),(b.snd)] (.ile 1 V0 (.add V1 (.c V0))) [.ile 1 (.sub V0 V1) (.c V0)] rfl (Int.self_le_toNat (a.snd - b.snd))) (lin [((a.snd - b.snd).toNat)] [(a.snd),(b.snd)] (.ile 1 (.add V1 (.c V0)) V0) [.ieq 1 (.c V0) (.sub V0 V1)] rfl (Int.toNat_of_nonneg (lin [] [(a.snd),(b.snd)] (.ile 1 K0 (.sub V0 V1)) [.igt 1 V0 V1] rfl h))))).symm hb
theorem Cj {ev:Bool}{w:Nat}{L:List (Nat×Nat)} (st:Strips ev w L) {k:Sp} (hk:k∈AB (Aa (L.map (Aq w))) w L.length):Reach (AB (Aa (L.map (Aq w))) w L.length) k (-1,-1):=by
 obtain ⟨x,y⟩:=k
 obtain ⟨⟨⟨x1,x2⟩,y1,y2⟩,hn⟩:=around_mem.mp hk
 dsimp only at x1 x2 y1 y2
 have out:∀ u v:Int,-1<=u->u<=w->-1<=v->v<=L.length->(u<0\/(w:Int)<=u\/v<0\/(L.length:Int)<=v)->(u,v)∈AB (Aa (L.map (Aq w))) w L.length:=fun u v a b c d e=>by
  refine around_mem.mpr ⟨⟨⟨a,b⟩,c,d⟩,fun q=>?_⟩
  refine Ad ((Au st).mp q) fun q1 hy140_0=>?_
  refine X1pp (hy140_0) fun p q2 q3=>?_
  dsimp only at q1 q2 q3
  have pok:=st.ok p (List.mem_of_getElem? q2)
  have:v.toNat<L.length:=by
   rcases Nat.lt_or_ge v.toNat L.length with z | z
   ·exact z
   ·rw [List.getElem?_eq_none z] at q2;cases q2
  exact e.elim (fun z0=>lin [(p.fst)] [u] .no [.ile 1 (.c V0) V0,.ilt 1 V0 K0] rfl q3.1 z0) (fun z0=>z0.elim (fun z1=>lin [(p.fst),(p.snd),w] [u] .no [.ilt 1 V0 (.add (.c V0) (.c V1)),.nle 1 (.add V0 V1) V2,.ile 1 (.c V2) V0] rfl q3.2 pok.2.1 z1) (fun z1=>z1.elim (fun z2=>lin [] [v] .no [.ile 1 K0 V0,.ilt 1 V0 K0] rfl q1 z2) (fun z2=>lin [(v.toNat),(L.length)] [v] .no [.nlt 1 V0 V1,.ile 1 V0 (.c V0),.ile 1 (.c V1) V0] rfl this (Int.self_le_toNat (v)) z2)))
 have left:∀ v:Int,-1<=v->v<=L.length->Reach (AB (Aa (L.map (Aq w))) w L.length) (-1,v) (-1,-1):=fun v a b=>go_col a fun u hu=>out _ _ (by exact lin [] [] (.ile 1 Km1 Km1) [] rfl) (by exact lin [w] [] (.ile 1 Km1 (.c V0)) [] rfl) (by exact hu.1) (by exact lin [(L.length)] [v,u] (.ile 1 V1 (.c V0)) [.ile 1 V0 (.c V0),.ile 1 V1 V0] rfl b hu.2) (.inl (by exact lin [] [] (.ilt 1 Km1 K0) [] rfl))
 by_cases hy:0<=y/\y<L.length
 ·have hl:y.toNat<L.length:=by exact lin [(L.length),(y.toNat)] [y] (.nlt 1 V1 V0) [.ilt 1 V0 (.c V0),.ieq 1 (.c V1) V0] rfl hy.2 (Int.toNat_of_nonneg (hy.1))
  have hp:L[y.toNat]?=some L[y.toNat]:=List.getElem?_eq_getElem hl
  generalize L[y.toNat]=p at hp
  have free:∀ u:Int,-1<=u->u<=w->¬ ((p.1:Int)<=u/\u<p.1+p.2)->(u,y)∈AB (Aa (L.map (Aq w))) w L.length:=fun u a b c=>by
   refine around_mem.mpr ⟨⟨⟨a,b⟩,by dsimp only;exact y1,by dsimp only;exact y2⟩,fun q=>?_⟩
   refine Ad ((Au st).mp q) fun zz hy155_0=>?_
   refine X1pp (hy155_0) fun p' q2 q3=>?_
   dsimp only at q2 q3
   rw [hp] at q2;cases q2
   exact c q3
  have nx:¬ ((p.1:Int)<=x/\x<p.1+p.2):=fun q=>hn ((Au st).mpr ⟨hy.1,p,hp,q⟩)
  by_cases hx:x<p.1
  ·exact Reach.trans (EW fun u hu=>free u (by exact (Decidable.not_and_iff_or_not.mp nx).elim (fun z0=>hu.elim (fun z1=>z1.1) (fun z1=>lin [] [x,u] (.ile 1 Km1 V1) [.ile 1 Km1 V0,.ile 1 V0 V1] rfl x1 z1.1)) (fun z0=>lin [(p.fst),(p.snd)] [x,u] (.ile 0 Km1 V1) [.ilt 1 V0 (.c V0),.ige 1 V0 (.add (.c V0) (.c V1))] rfl hx z0)) (by exact (Decidable.not_and_iff_or_not.mp nx).elim (fun z0=>hu.elim (fun z1=>lin [w] [x,u] (.ile 1 V1 (.c V0)) [.ile 1 V0 (.c V0),.ile 1 V1 V0] rfl x2 z1.2) (fun z1=>lin [w] [u] (.ile 1 V0 (.c V0)) [.ile 1 V0 Km1] rfl z1.2)) (fun z0=>lin [(p.fst),(p.snd),w] [x,u] (.ile 0 V1 (.c V2)) [.ilt 1 V0 (.c V0),.ige 1 V0 (.add (.c V0) (.c V1))] rfl hx z0)) (by exact fun z0=>(Decidable.not_and_iff_or_not.mp nx).elim (fun z1=>hu.elim (fun z2=>lin [(p.fst)] [x,u] .no [.ilt 1 V0 (.c V0),.ile 1 (.c V0) V1,.ile 1 V1 V0] rfl hx z0.1 z2.2) (fun z2=>lin [(p.fst)] [u] .no [.ile 1 (.c V0) V0,.ile 1 V0 Km1] rfl z0.1 z2.2)) (fun z1=>lin [(p.fst),(p.snd)] [x] .no [.ilt 1 V0 (.c V0),.ige 1 V0 (.add (.c V0) (.c V1))] rfl hx z1))) (left y (by exact y1) (by exact y2))
  ·refine Reach.trans (b:=((w:Int),y)) (EW fun u hu=>free u (by exact (Decidable.not_and_iff_or_not.mp nx).elim (fun z0=>lin [(p.fst)] [x,u] (.ile 0 Km1 V1) [.ige 1 V0 (.c V0),.igt 1 (.c V0) V0] rfl hx z0) (fun z0=>hu.elim (fun z1=>lin [w] [u] (.ile 1 Km1 V0) [.ile 1 (.c V0) V0] rfl z1.1) (fun z1=>lin [(p.fst)] [x,u] (.ile 1 Km1 V1) [.ige 1 V0 (.c V0),.ile 1 V0 V1] rfl hx z1.1))) (by exact (Decidable.not_and_iff_or_not.mp nx).elim (fun z0=>lin [(p.fst),w] [x,u] (.ile 0 V1 (.c V1)) [.ige 1 V0 (.c V0),.igt 1 (.c V0) V0] rfl hx z0) (fun z0=>hu.elim (fun z1=>lin [w] [x,u] (.ile 1 V1 (.c V0)) [.ile 1 V0 (.c V0),.ile 1 V1 V0] rfl x2 z1.2) (fun z1=>z1.2))) (by exact fun z0=>(Decidable.not_and_iff_or_not.mp nx).elim (fun z1=>lin [(p.fst)] [x] .no [.ige 1 V0 (.c V0),.igt 1 (.c V0) V0] rfl hx z1) (fun z1=>hu.elim (fun z2=>lin [w,(p.fst),(p.snd)] [x,u] .no [.ile 1 V0 (.c V0),.ilt 1 V1 (.add (.c V1) (.c V2)),.ige 1 V0 (.add (.c V1) (.c V2)),.ile 1 (.c V0) V1] rfl x2 z0.2 z1 z2.1) (fun z2=>lin [(p.fst),(p.snd)] [u,x] .no [.ilt 1 V0 (.add (.c V0) (.c V1)),.ige 1 V1 (.add (.c V0) (.c V1)),.ile 1 V1 V0] rfl z0.2 z1 z2.1)))) ?_
   refine Reach.trans (b:=((w:Int),-1)) (go_col (by exact y1) fun u hu=>out _ _ (by exact lin [w] [] (.ile 1 Km1 (.c V0)) [] rfl) (by exact lin [w] [] (.ile 1 (.c V0) (.c V0)) [] rfl) (by exact hu.1) (by exact lin [(L.length)] [y,u] (.ile 1 V1 (.c V0)) [.ilt 1 V0 (.c V0),.ile 1 V1 V0] rfl hy.2 hu.2) (.inr (.inl (by exact lin [w] [] (.ile 1 (.c V0) (.c V0)) [] rfl)))) ?_
   exact EW fun u hu=>out _ _ (by exact (Decidable.not_and_iff_or_not.mp nx).elim (fun z0=>lin [(p.fst)] [x,u] (.ile 0 Km1 V1) [.ige 1 V0 (.c V0),.igt 1 (.c V0) V0] rfl hx z0) (fun z0=>hu.elim (fun z1=>z1.1) (fun z1=>lin [w] [u] (.ile 1 Km1 V0) [.ile 1 (.c V0) V0] rfl z1.1))) (by exact (Decidable.not_and_iff_or_not.mp nx).elim (fun z0=>lin [(p.fst),w] [x,u] (.ile 0 V1 (.c V1)) [.ige 1 V0 (.c V0),.igt 1 (.c V0) V0] rfl hx z0) (fun z0=>hu.elim (fun z1=>z1.2) (fun z1=>lin [w] [u] (.ile 1 V0 (.c V0)) [.ile 1 V0 Km1] rfl z1.2))) (by exact lin [] [] (.ile 1 Km1 Km1) [] rfl) (by exact lin [(L.length)] [] (.ile 1 Km1 (.c V0)) [] rfl) (.inr (.inr (.inl (by exact lin [] [] (.ilt 1 Km1 K0) [] rfl))))
 ·refine Reach.trans (b:=(-1,y)) (EW fun u hu=>out _ _ (by exact (Decidable.not_and_iff_or_not.mp hy).elim (fun z0=>hu.elim (fun z1=>z1.1) (fun z1=>lin [] [x,u] (.ile 1 Km1 V1) [.ile 1 Km1 V0,.ile 1 V0 V1] rfl x1 z1.1)) (fun z0=>hu.elim (fun z1=>z1.1) (fun z1=>lin [] [x,u] (.ile 1 Km1 V1) [.ile 1 Km1 V0,.ile 1 V0 V1] rfl x1 z1.1))) (by exact (Decidable.not_and_iff_or_not.mp hy).elim (fun z0=>hu.elim (fun z1=>lin [w] [x,u] (.ile 1 V1 (.c V0)) [.ile 1 V0 (.c V0),.ile 1 V1 V0] rfl x2 z1.2) (fun z1=>lin [w] [u] (.ile 1 V0 (.c V0)) [.ile 1 V0 Km1] rfl z1.2)) (fun z0=>hu.elim (fun z1=>lin [w] [x,u] (.ile 1 V1 (.c V0)) [.ile 1 V0 (.c V0),.ile 1 V1 V0] rfl x2 z1.2) (fun z1=>lin [w] [u] (.ile 1 V0 (.c V0)) [.ile 1 V0 Km1] rfl z1.2))) (by exact y1) (by exact y2) (.inr (.inr (by exact Decidable.byContradiction fun z0=>(Decidable.not_and_iff_or_not.mp hy).elim (fun z1=>lin [] [y] .no [.ige 1 V0 K0,.igt 1 K0 V0] rfl (fun z=>z0 (.inl z)) z1) (fun z1=>lin [(L.length)] [y] .no [.igt 1 (.c V0) V0,.ige 1 V0 (.c V0)] rfl (fun z=>z0 (.inr z)) z1))))) (left y (by exact y1) (by exact y2))
end Mine
end
section
namespace Mine
open PySem
theorem Flo.of {G:Gr}{w:Nat} (g:Grid G w) (hc:Aa G≠[]) (j:Kf (Aa G)) (o:∀ k∈AB (Aa G) w G.length,Reach (AB (Aa G) w G.length) k (-1,-1)):Flo G w:=by
 refine ⟨g,?_,fun k hk=>(o k hk).symm hk⟩
 cases e:Aa G with
 | nil=>exact absurd e hc
 | cons a P' =>
  refine ⟨a,P',rfl,fun k hk=>?_⟩
  rw [<- e] at hk ⊢
  exact j a (by rw [e];exact .head _) k hk
theorem DF {ev:Bool}{w:Nat}{L:List (Nat×Nat)} (w2:2<=w) (w6:w<=6) (h1:1<=L.length) (h6:L.length<=6) (st:Strips ev w L):Flo (L.map (Aq w)) w:=by
 refine Flo.of (Fs st h1 h6 w2 w6) ?_ (Bk st) fun k hk=>?_
 ·cases L with
  | nil=>exact absurd h1 (by decide)
  | cons p L =>
   have pok:=st.ok p (.head _)
   intro e
   have:((p.1:Int),(0:Int))∈Aa ((p::L).map (Aq w)):=(Au st).mpr ⟨Int.le_refl _,p,rfl,by dsimp only;exact ⟨lin [(p.fst)] [] (.ile 1 (.c V0) (.c V0)) [] rfl,lin [(p.snd),(p.fst)] [] (.ilt 1 (.c V1) (.add (.c V1) (.c V0))) [.nle 1 K1 V0] rfl pok.1⟩⟩
   rw [e] at this;cases this
 ·rw [List.length_map] at hk ⊢
  exact Cj st hk
theorem FP {a:Int}:∀ {n i:Nat},i<n->(ivs a n)[i]?=some (a+i)
 | 0,_,h=>absurd h (Nat.not_lt_zero _)
 | n+1,0,_=>by show some a=_;rw [show a+((0:Nat):Int)=a by exact Int.le_antisymm (lin [] [a] (.ile 1 (.add V0 (.c K0)) V0) [] rfl) (lin [] [a] (.ile 1 V0 (.add V0 (.c K0))) [] rfl)]
 | n+1,i+1,h=>by
  show (ivs (a+1) n)[i]?=_
  rw [FP (Nat.lt_of_succ_lt_succ h)]
  congr 1
  exact Int.le_antisymm (lin [i] [a] (.ile 1 (.add (.add V0 K1) (.c V0)) (.add V0 (.c (.add V0 K1)))) [] rfl) (lin [i] [a] (.ile 1 (.add V0 (.c (.add V0 K1))) (.add (.add V0 K1) (.c V0))) [] rfl)
theorem Ii {G:Gr}{w:Nat} (g:Grid G w):Grid (trG G w) G.length:=by
 have h1:=g.w1
 have h2:=g.w6
 refine ⟨?_,?_,g.h1,g.h6,fun r hr=>?_⟩
 ·unfold trG;rw [List.length_map,Ap];exact h1
 ·unfold trG;rw [List.length_map,Ap];exact h2
 ·refine X1pp (List.mem_map.mp hr) fun x zz he41_2=>?_
  subst he41_2
  unfold colG;rw [List.length_map]
theorem CV {G:Gr}{w:Nat} (g:Grid G w) {k:Sp}:k∈Aa (trG G w)↔sw k∈Aa G:=by
 constructor
 ·intro h
  refine BO ((Ii g).in h) fun h1 h2 h3 h4=>?_
  have hw:(trG G w).length=w:=by unfold trG;rw [List.length_map,Ap]
  rw [hw] at h4
  refine Ad (cellsOf_mem.mp h) fun zz hy49_0=>?_
  refine X1ppp (hy49_0) fun r q1 zz q2=>?_
  unfold trG at q1
  rw [List.getElem?_map,FP (by exact lin [w,(k.snd.toNat)] [(k.snd)] (.nlt 1 V1 V0) [.ilt 1 V0 (.c V0),.ieq 1 (.c V1) V0] rfl h4 (Int.toNat_of_nonneg (h3)))] at q1
  cases q1
  unfold colG at q2
  rw [List.getElem?_map] at q2
  refine cellsOf_mem.mpr ⟨h1,?_⟩
  cases e:G[k.1.toNat]? with
  | none=>rw [e] at q2;cases q2
  | some r =>
   rw [e] at q2
   have q2:r.getD (0+(k.2.toNat:Int)).toNat false=true:=Option.some.inj q2
   rw [show (0+(k.2.toNat:Int)).toNat=k.2.toNat by exact Nat.le_antisymm (lin [((0+(↑k.snd.toNat:Int)).toNat),(k.snd.toNat)] [] (.nle 1 V0 V1) [.ieq 1 (.c V0) (.add K0 (.c V1))] rfl (Int.toNat_of_nonneg (lin [(k.snd.toNat)] [] (.ile 1 K0 (.add K0 (.c V0))) [] rfl))) (lin [(k.snd.toNat),((0+(↑k.snd.toNat:Int)).toNat)] [] (.nle 1 V0 V1) [.ile 1 (.add K0 (.c V0)) (.c V1)] rfl (Int.self_le_toNat (0+(↑k.snd.toNat:Int))))] at q2
   refine ⟨r,e,h3,?_⟩
   rw [List.getD_eq_getElem?_getD] at q2
   show r[k.2.toNat]?=some true
   cases e2:r[k.2.toNat]? with
   | none=>rw [e2] at q2;cases q2
   | some b=>rw [e2] at q2;rw [show b=true from q2]
 ·intro h
  refine BO (g.in h) fun h1 h2 h3 h4=>?_
  refine Ad (cellsOf_mem.mp h) fun zz hy70_0=>?_
  refine X1ppp (hy70_0) fun r q1 zz q2=>?_
  have h1:0<=k.2:=h1
  have h2:k.2<w:=h2
  have q1:G[k.1.toNat]?=some r:=q1
  have q2:r[k.2.toNat]?=some true:=q2
  refine cellsOf_mem.mpr ⟨h1,colG G (0+(k.2.toNat:Int)),?_,h3,?_⟩
  ·unfold trG;rw [List.getElem?_map,FP (by exact lin [w,(k.snd.toNat)] [(k.snd)] (.nlt 1 V1 V0) [.ilt 1 V0 (.c V0),.ieq 1 (.c V1) V0] rfl h2 (Int.toNat_of_nonneg (h1)))];rfl
  ·unfold colG
   rw [List.getElem?_map,q1]
   show some (r.getD (0+(k.2.toNat:Int)).toNat false)=some true
   rw [show (0+(k.2.toNat:Int)).toNat=k.2.toNat by exact Nat.le_antisymm (lin [((0+(↑k.snd.toNat:Int)).toNat),(k.snd.toNat)] [] (.nle 1 V0 V1) [.ieq 1 (.c V0) (.add K0 (.c V1))] rfl (Int.toNat_of_nonneg (lin [(k.snd.toNat)] [] (.ile 1 K0 (.add K0 (.c V0))) [] rfl))) (lin [(k.snd.toNat),((0+(↑k.snd.toNat:Int)).toNat)] [] (.nle 1 V0 V1) [.ile 1 (.add K0 (.c V0)) (.c V1)] rfl (Int.self_le_toNat (0+(↑k.snd.toNat:Int)))),List.getD_eq_getElem?_getD,q2];rfl
theorem Hj (k:Sp):sw (sw k)=k:=rfl
theorem tr_flo {G:Gr}{w:Nat} (g:Grid G w) (hc:Aa G≠[]) (j:Kf (Aa G)) (o:∀ k∈AB (Aa G) w G.length,Reach (AB (Aa G) w G.length) k (-1,-1)):Flo (trG G w) G.length:=by
 have hw:(trG G w).length=w:=by unfold trG;rw [List.length_map,Ap]
 refine Flo.of (Ii g) ?_ (fun a ha b hb=>?_) fun k hk=>?_
 ·intro e
  cases e2:Aa G with
  | nil=>exact hc e2
  | cons a P' =>
   have:sw a∈Aa (trG G w):=(CV g).mpr (by rw [Hj,e2];exact .head _)
   rw [e] at this;cases this
 ·have:=Reach.into (Q:=Aa (trG G w)) sw (fun c hc=>(CV g).mpr (by rw [Hj];exact hc)) Fr (j _ ((CV g).mp ha) _ ((CV g).mp hb))
  rwa [Hj,Hj] at this
 ·rw [hw] at hk ⊢
  have mem:∀ c,c∈AB (Aa (trG G w)) G.length w↔sw c∈AB (Aa G) w G.length:=fun c=>by
   rw [around_mem,around_mem,CV g]
   exact ⟨fun h=>⟨⟨h.1.2,h.1.1⟩,h.2⟩,fun h=>⟨⟨h.1.2,h.1.1⟩,h.2⟩⟩
  have:=Reach.into (Q:=AB (Aa (trG G w)) G.length w) sw (fun c hc=>(mem _).mpr (by rw [Hj];exact hc)) Fr (o _ ((mem k).mp hk))
  rwa [Hj] at this
noncomputable def grow (P fs:List Sp):List Sp:=P.foldl (fun fs k=>if (!(fs.contains k) && fs.any fun c=>(AY c).contains k)=true then fs++[k] else fs) fs
noncomputable def growN (P:List Sp):Nat->List Sp->List Sp
 | 0,fs=>fs
 | n+1,fs=>growN P n (grow P fs)
set_option tactic.hygienic true in
theorem Jr {P:List Sp}{a:Sp}:∀ {Q fs:List Sp},(∀ k∈Q,k∈P)->(∀ k∈fs,Reach P a k)->∀ k∈Q.foldl (fun fs k=>if (!(fs.contains k) && fs.any fun c=>(AY c).contains k)=true then fs++[k] else fs) fs,Reach P a k
 | [],fs,_,h,k,hk=>h k hk
 | q::Q,fs,hQ,h,k,hk=>by
  rw [List.foldl_cons] at hk
  refine Jr (Q:=Q) (fun z hz=>hQ z (.tail _ hz)) (fun z hz=>?_) k hk
  split at hz
  ·rename_i c
   rcases List.mem_append.mp hz with z1 | z1
   ·exact h z z1
   ·rw [List.mem_singleton.mp z1]
    refine X1pp (List.any_eq_true.mp (Bool.and_eq_true_iff.mp c).2) fun c1 hc1 c2=>?_
    exact .step (h c1 hc1) (List.contains_iff_mem.mp c2) (hQ q (.head _))
  ·exact h z hz
theorem growN_ok {P:List Sp}{a:Sp}:∀ {n:Nat}{fs:List Sp},(∀ k∈fs,Reach P a k)->∀ k∈growN P n fs,Reach P a k
 | 0,fs,h=>h
 | n+1,fs,h=>growN_ok (n:=n) (Jr (fun zz h=>h) h)
noncomputable def hangB (P:List Sp) (a:Sp):Bool:=P.all fun k=>(growN P 10 [a]).contains k
theorem GQ {P:List Sp}{a:Sp} (h:hangB P a=true):Hangs P a:=fun k hk =>
 growN_ok (n:=10) (fs:=[a]) (fun k hk=>by rw [List.mem_singleton.mp hk];exact .refl) k (List.contains_iff_mem.mp (List.all_eq_true.mp h k hk))
noncomputable def floB (G:Gr) (w:Nat):Bool:=(decide (1<=G.length/\G.length<=6/\1<=w/\w<=6) && G.all fun r=>r.length == w) && ((match Aa G with
 | []=>false
 | a::_=>hangB (Aa G) a) && hangB (AB (Aa G) w G.length) (-1,-1))
theorem Flo.ofB {G:Gr}{w:Nat} (h:floB G w=true):Flo G w:=by
 unfold floB at h
 rw [Bool.and_eq_true,Bool.and_eq_true,Bool.and_eq_true,decide_eq_true_eq] at h
 obtain ⟨⟨⟨h1,h2,h3,h4⟩,h5⟩,h6,h7⟩:=h
 refine ⟨⟨h1,h2,h3,h4,fun r hr=>eq_of_beq (List.all_eq_true.mp h5 r hr)⟩,?_,GQ h7⟩
 cases e:Aa G with
 | nil=>rw [e] at h6;cases h6
 | cons a P'=>rw [e] at h6;exact ⟨a,P',rfl,GQ h6⟩
noncomputable def gOf (l:List String):Gr:=l.map fun s=>s.toList.map fun c=>c == '#'
noncomputable def fixA:Gr:=gOf ["#####", "....#", "###.#", "#...#", "#####"]
noncomputable def fixB:Gr:=gOf ["######", "#.#.#.", "#.#.##"]
noncomputable def fixC:Gr:=gOf [".#.", "###", ".#."]
noncomputable def fixD:Gr:=gOf ["##..##", "#....#", "######", "..##..", "..#..."]
theorem fixA_ok:Flo fixA 5:=Flo.ofB (by decide +kernel)
theorem fixB_ok:Flo fixB 6:=Flo.ofB (by decide +kernel)
theorem fixC_ok:Flo fixC 3:=Flo.ofB (by decide +kernel)
theorem fixD_ok:Flo fixD 6:=Flo.ofB (by decide +kernel)
end Mine
end
section
namespace Mine
open PySem PyProof.Rows PySem.W
theorem Bb {l:List String}{G:Gr} (h:l.map Str.ofString=G.map BL):(l.map fun s=>AV.str (Str.ofString s))=Aj G:=by
 have:=congrArg (List.map AV.str) h
 rw [List.map_map,List.map_map] at this
 exact this
theorem fixA_lit:(["#####", "....#", "###.#", "#...#", "#####"].map fun s=>AV.str (Str.ofString s))=Aj fixA:=Bb (by decide +kernel)
theorem fixB_lit:(["######", "#.#.#.", "#.#.##"].map fun s=>AV.str (Str.ofString s))=Aj fixB:=Bb (by decide +kernel)
theorem fixC_lit:([".#.", "###", ".#."].map fun s=>AV.str (Str.ofString s))=Aj fixC:=Bb (by decide +kernel)
theorem fixD_lit:(["##..##", "#....#", "######", "..##..", "..#..."].map fun s=>AV.str (Str.ofString s))=Aj fixD:=Bb (by decide +kernel)
theorem four {x:Int} (h:0<=x/\x<4):x.toNat=0\/x.toNat=1\/x.toNat=2\/x.toNat=3:=by
 obtain ⟨n,rfl⟩:=Int.eq_ofNat_of_zero_le h.1
 match n,h.2 with
 | 0,_=>exact .inl rfl
 | 1,_=>exact .inr (.inl rfl)
 | 2,_=>exact .inr (.inr (.inl rfl))
 | 3,_=>exact .inr (.inr (.inr rfl))
 | n+4,h=>exact absurd (Int.ofNat_lt.mp h) (Nat.not_lt.mpr (Nat.le_add_left 4 n))
noncomputable def fAny:FS:=specF fun avs σ K X=>∃ l:List Int,avs=[.nums l]/\σ=[]/\l.length<=1000/\∀ G w,Flo G w->K ⟨[],.val (.list (Aj G))⟩ []
theorem any_ok {ex:List Nat}:FnOk ⟨true,ex,[(72,fAt),(74,FY),(75,FZ)],[],[]⟩ Du .val 2 0 fAny:=by
 refine .specF fun avs σ K X h=>?_
 refine X1pppp (h) fun l he27_1 he27_2 hl hK=>?_
 subst he27_1
 subst he27_2
 refine ⟨rfl,l,0,rfl,hl,rfl,?_⟩
 refine ifB (fun zz=>?_) fun zz=>?_
 ·have h4:=A1 (a:=(l.getD 0 0).fdiv 9) (b:=4) (by decide)
  refine ⟨⟨h4.1,Int.lt_trans h4.2 (by decide)⟩,?_⟩
  rcases four h4 with e | e | e | e<;>rw [e]
  ·exact ⟨_,rfl,by have:=hK _ _ fixA_ok;rw [<- fixA_lit] at this;exact this⟩
  ·exact ⟨_,rfl,by have:=hK _ _ fixB_ok;rw [<- fixB_lit] at this;exact this⟩
  ·exact ⟨_,rfl,by have:=hK _ _ fixC_ok;rw [<- fixC_lit] at this;exact this⟩
  ·exact ⟨_,rfl,by have:=hK _ _ fixD_ok;rw [<- fixD_lit] at this;exact this⟩
 ·refine ⟨l,1,rfl,hl,rfl,_,_,_,rfl,rfl,fun w L w2 w6 h1 h6 st=>?_⟩
  have f:=DF w2 w6 h1 h6 st
  refine ifB (fun zz=>⟨_,w,rfl,rfl,f.g,hK _ _ (tr_flo f.g ?_ (Bk st) fun k hk=>?_)⟩) fun zz=>hK _ _ f
  ·refine X2pp (f.ne) fun a P' e zz=>?_
   rw [e];exact List.cons_ne_nil _ _
  ·rw [List.length_map] at hk ⊢
   exact Cj st hk
end Mine
end
section
namespace Mine
open PySem PyProof.Rows PySem.W
noncomputable def Dt:Ag:=⟨[2224424541109078390632087655,20695101327358604866032169404574743881989488753,1953625148292055806928486503,1005348031404454183012],2,[.assign (.v 2) (.mu 4 (.list [])),.for_ (.v 3) (.meth (.v 0) 16 []) [.ite (.cmp .Lt (.call (.g 32) [(.v 3)]) (.call (.g 32) [(.sub (.v 1) (.v 3))])) [.expr (.meth (.v 2) 0 [(.tup [(.v 3),(.sub (.v 1) (.v 3))])])] []],.ret (.v 2)]⟩
noncomputable def Ex:Ag:=⟨[2224424541109078390632087655,20695101327358604866032169404574743881989488753,1005348031404454183012,1023794744691838156916,2224424448875327235775529072],4,[.setitem (.v 3) (.v 2) (.bool true),.for_ (.v 4) (.meth (.v 0) 17 [(.v 2)]) [.ite (.cmp .NotIn (.v 4) (.v 3)) [.setitem (.v 3) (.v 4) (.bool true),.ite (.or [(.cmp .NotIn (.v 4) (.v 1)),(.call (.g 42) [(.v 0),(.v 1),(.sub (.v 1) (.v 4)),(.v 3)])]) [.setitem (.v 1) (.v 2) (.v 4),.setitem (.v 1) (.v 4) (.v 2),.ret (.bool true)] []] []],.ret (.bool false)]⟩
noncomputable def Bx:Ag:=⟨[2224424541109078390632087655,20695101327358604866032169404574743881989488753,2263110195006862634778624116,84740916454345877126392850797306519658850923490107245723768,1005348031404454183012,1023794744691838156916,448600976916592],1,[.assign (.v 1) (.mu 4 (.dict [] [])),.assign (.v 2) (.mu 5 (.list [])),.for_ (.v 3) (.tup [(.bool true),(.bool false)]) [.for_ (.v 4) (.meth (.v 0) 16 []) [.ite (.and [(.cmp .Eq (.call (.g 33) [(.v 4)]) (.v 3)),(.cmp .NotIn (.v 4) (.v 1))]) [.assign (.v 5) (.mu 6 (.dict [] [])),.ite (.and [(.not (.call (.g 42) [(.v 0),(.v 1),(.v 4),(.v 5)])),(.cmp .Eq (.v 2) (.list []))]) [.assign (.v 2) (.mu 5 (.comp (.v 6) 6 (.meth (.v 0) 16 []) [(.and [(.cmp .In (.v 6) (.v 5)),(.cmp .Eq (.call (.g 33) [(.v 6)]) (.v 3))])]))] []] []]],.ite (.cmp .NotEq (.v 2) (.list [])) [.ret (.tup [(.str "short"),(.v 2)])] [],.ret (.tup [(.str "laid"),(.mu 5 (.call (.g 40) [(.v 0),(.v 1)]))])]⟩
noncomputable def Ce:Ag:=⟨[43400774030903411559313583009360306713791419551580256,403752334065308102653787000012206599970895246591058502767404664596988000,91018018189733985137666135094806080181247385265940457324640,4948909800202173316588973022249056,9868193549052196435307839356599797809248,4908344980994869975741078519677024,4381002331299926544718449986240608,18197417524841213801143636359034529248444416096,90233375608933022600596502592366504807846208770953298575456],2,[.assign (.v 2) (.mu 4 (.dict [] [])),.for_ (.v 3) (.call (.g 8) [(.call (.g 0) [(.v 0)])]) [.assign (.v 4) (.comp (.v 5) 5 (.call (.g 8) [(.call (.g 0) [(.sub (.v 0) (.v 3))])]) [(.cmp .Eq (.sub (.sub (.v 0) (.v 3)) (.v 5)) (.str "#"))]),.for_ (.v 6) (.call (.g 8) [(.int 0),(.call (.g 0) [(.v 4)]),(.int 2)]) [.assign (.tup [(.v 7),(.v 8)]) (.tup [(.tup [(.sub (.v 4) (.v 6)),(.v 3)]),(.tup [(.sub (.v 4) (.bin .Add (.v 6) (.int 1))),(.v 3)])]),.ite (.v 1) [.assign (.tup [(.v 7),(.v 8)]) (.tup [(.tup [(.v 3),(.sub (.v 4) (.v 6))]),(.tup [(.v 3),(.sub (.v 4) (.bin .Add (.v 6) (.int 1)))])])] [],.setitem (.v 2) (.v 7) (.v 8),.setitem (.v 2) (.v 8) (.v 7)]],.ret (.v 2)]⟩
noncomputable def c_lfloor_by:Ag:=⟨[192524121870682778597944489011036038917448218529394060437475033184,40781761134340005352671968699721311000275178949181536,43400774030903411559313583009360306713791419551580256,403752334065308102653787000012206599970895246591058502767404664596988000,91018018189733985137666135094806080181247385265940457324640],1,[.assign (.v 1) (.call (.g 72) [(.v 0),(.int 0)]),.assign (.v 2) (.call (.g 75) [(.v 1),(.call (.g 72) [(.v 0),(.int 1)]),(.bool true)]),.ite (.cmp .Eq (.bin .Mod (.v 1) (.int 7)) (.int 6)) [.assign (.v 2) (.sub (.list [(.list [(.str "##..##"),(.str "##..##"),(.str "######")]),(.list [(.str "######"),(.str "....##"),(.str "##..##"),(.str "##..##"),(.str "######")]),(.list [(.str "##..##"),(.str "######"),(.str "##..##"),(.str "##..##")]),(.list [(.str "##..##"),(.str "##..##"),(.str "######"),(.str "##..##"),(.str "##..##")])]) (.bin .Mod (.bin .FloorDiv (.v 1) (.int 7)) (.int 4)))] [],.assign (.v 3) (.cmp .Eq (.bin .Mod (.bin .FloorDiv (.v 1) (.int 30)) (.int 2)) (.int 1)),.assign (.v 4) (.call (.g 85) [(.v 2),(.v 3)]),.ite (.v 3) [.assign (.v 2) (.call (.g 74) [(.v 2)])] [],.ret (.tup [(.v 2),(.v 4)])]⟩
noncomputable def G9:Ag:=⟨[80033084540640292827120509455944254106483492226642776948832],1,[.ret (.call (.g 89) [(.sub (.v 0) (.int 0))])]⟩
noncomputable def DV:Ag:=⟨[3246527832650408233975027202027361740652525422007045942568833603673851803516606371401302112,190878608682344441530269252297162114522251466896987490791215595616,348538358354478551404080406372130039583109240686904139097806953087238240,80033084540640292827120509455944254106483492226642776948832,4908344980994869975741078519677024,4948909800202173316588973022249056,90233375608933022600596502592366504807846208770953298575456],2,[.ite (.or [(.not (.call (.g 1) [(.v 1),(.g 5)])),(.cmp .NotEq (.v 1) (.sorted (.v 1) (.g 91)))]) [.ret (.bool false)] [],.assign (.v 2) (.list []),.for_ (.v 3) (.v 1) [.ite (.or [(.not (.call (.g 1) [(.v 3),(.g 4)])),(.cmp .NotEq (.call (.g 0) [(.v 3)]) (.int 2))]) [.ret (.bool false)] [],.assign (.tup [(.tup [(.v 4),(.v 5)]),(.v 6)]) (.v 3),.ite (.cmp .NotIn (.v 6) (.list [(.tup [(.bin .Add (.v 4) (.int 1)),(.v 5)]),(.tup [(.v 4),(.bin .Add (.v 5) (.int 1))])])) [.ret (.bool false)] [],.assign (.v 2) (.bin .Add (.v 2) (.list [(.tup [(.v 4),(.v 5)]),(.v 6)]))],.ret (.cmp .Eq (.sorted (.v 2) (.g 89)) (.v 0))]⟩
noncomputable def Ds:Ag:=⟨[3246527832650408233975027202027361740652525422007045942568833603673851803516606371401302112,38162750378649839618062290065254989900323531341693024,167841544095212084885777211650720385374882549712431272192582352992,4381002331299926544718449986240608,4908344980994869975741078519677024,4948909800202173316588973022249056,90233375608933022600596502592366504807846208770953298575456],2,[.ite (.or [(.not (.call (.g 1) [(.v 1),(.g 5)])),(.cmp .Eq (.v 1) (.list [])),(.cmp .NotEq (.v 1) (.sorted (.v 1) (.g 89)))]) [.ret (.bool false)] [],.assign (.v 2) (.mu 4 (.list [])),.for_ (.v 3) (.call (.g 8) [(.call (.g 0) [(.v 1)])]) [.assign (.tup [(.v 4),(.v 5)]) (.sub (.v 1) (.v 3)),.ite (.or [(.cmp .NotIn (.sub (.v 1) (.v 3)) (.v 0)),(.cmp .In (.sub (.v 1) (.v 3)) (.slice (.v 1) .none (.v 3) .none)),(.cmp .NotEq (.bin .Mod (.call (.g 11) [(.sub (.v 1) (.v 3))]) (.int 2)) (.bin .Mod (.call (.g 11) [(.sub (.v 1) (.int 0))]) (.int 2)))]) [.ret (.bool false)] [],.for_ (.v 6) (.list [(.tup [(.bin .Add (.v 4) (.int 1)),(.v 5)]),(.tup [(.bin .Sub (.v 4) (.int 1)),(.v 5)]),(.tup [(.v 4),(.bin .Add (.v 5) (.int 1))]),(.tup [(.v 4),(.bin .Sub (.v 5) (.int 1))])]) [.ite (.and [(.cmp .In (.v 6) (.v 0)),(.cmp .NotIn (.v 6) (.v 2))]) [.expr (.meth (.v 2) 0 [(.v 6)])] []]],.ret (.cmp .Lt (.call (.g 0) [(.v 2)]) (.call (.g 0) [(.v 1)]))]⟩
noncomputable def G8:Ag:=⟨[3246527832650408233975027202027361740652525422007045942568833603673851803516606371401302112,79248450939308422951359488504115116927624233569666205745248],2,[.ite (.or [(.not (.call (.g 1) [(.v 1),(.g 4)])),(.cmp .NotEq (.call (.g 0) [(.v 1)]) (.int 2)),(.cmp .NotIn (.sub (.v 1) (.int 0)) (.tup [(.str "laid"),(.str "short")]))]) [.ret (.bool false)] [],.ret (.ite (.cmp .Eq (.sub (.v 1) (.int 0)) (.str "laid")) (.call (.g 93) [(.v 0),(.sub (.v 1) (.int 1))]) (.call (.g 94) [(.v 0),(.sub (.v 1) (.int 1))]))]⟩
noncomputable def c_law7:Ag:=⟨[192524121870682778597944489011036038917448218529394060437475033184,19803070073217239396453714178607562389597454432,43400774030903411559313583009360306713791419551580256,3246527832650408233975027202027361740652525422007045942568833603673851803516606371401302112,90233379350378463008758525809770352769097190552470883926112,79248450939308422951359488504115116927624233569666205745248,43774917201217540882457574319925670076061253009145952,87094826237816110002686160146039495392542835523475587727456,79248452435883958706069524230662624791329737762153997271136],1,[.assign (.v 1) (.cmp .Eq (.bin .Mod (.call (.g 72) [(.v 0),(.int 2)]) (.int 2)) (.int 1)),.assign (.v 2) (.ite (.v 1) (.sub (.call (.g 88) [(.v 0)]) (.int 0)) (.call (.g 76) [(.v 0)])),.assign (.v 3) (.call (.g 77) [(.v 2)]),.assign (.v 4) (.call (.g 29) [(.mu 6 (.call (.g 5) [(.v 2)]))]),.assign (.v 5) (.mu 4 (.call (.g 43) [(.v 4)])),.ite (.or [(.not (.call (.g 95) [(.v 3),(.v 5)])),(.and [(.v 1),(.cmp .NotEq (.sub (.v 5) (.int 0)) (.str "laid"))])]) [.ret (.bool false)] [],.assign (.v 6) (.call (.g 5) [(.sub (.v 5) (.int 1))]),.assign (.v 7) (.mu 5 (.call (.g 43) [(.v 4)])),.ite (.or [(.cmp .NotEq (.sub (.v 7) (.int 0)) (.sub (.v 5) (.int 0))),(.not (.call (.g 95) [(.v 3),(.v 7)]))]) [.ret (.bool false)] [],.expr (.meth (.sub (.v 7) (.int 1)) 3 []),.assign (.v 8) (.mu 6 (.call (.g 43) [(.v 4)])),.ret (.and [(.cmp .Eq (.sub (.v 8) (.int 0)) (.sub (.v 5) (.int 0))),(.call (.g 95) [(.v 3),(.v 8)]),(.cmp .Eq (.sub (.v 5) (.int 1)) (.v 6))])]⟩
end Mine
end
section
namespace Mine
open PySem PyProof.Rows PySem.W
noncomputable def pdA (p:PD):List (Ab×AV):=p.map fun q=>(q.1,sp q.2)
theorem pdA_len (p:PD):(pdA p).length=p.length:=by unfold pdA;rw [List.length_map]
theorem F8 (p:PD) (k:Ab):BW (pdA p) k=(As p k).map sp:=by
 induction p with
 | nil=>rfl
 | cons q p ih =>
  obtain ⟨a,b⟩:=q
  rw [Av]
  show (((a,sp b)::pdA p).find? fun z=>decide (z.1=k)).map (·.2)=_
  by_cases e:a=k
  ·rw [if_pos e,List.find?_cons_of_pos (p:=fun z:Ab×AV=>decide (z.1=k)) (decide_eq_true e)];rfl
  ·rw [if_neg e,List.find?_cons_of_neg (p:=fun z:Ab×AV=>decide (z.1=k)) (fun z=>e (of_decide_eq_true z))];exact ih
theorem Ct (p:PD) (k:Ab):(BW (pdA p) k).isSome=(As p k).isSome:=by rw [F8,Option.isSome_map]
theorem isS_tt {G:List (Ab×AV)}{s:List Ab}{o:Ab} (e:G=tt s) (h:o∈s):(BW G o).isSome=true:=by rw [e];exact (A6 s o).trans (decide_eq_true h)
theorem isN_tt {G:List (Ab×AV)}{s:List Ab}{o:Ab} (e:G=tt s) (h:o∉s):(BW G o).isSome=false:=by rw [e];exact (A6 s o).trans (decide_eq_false h)
theorem isS_pd {F:List (Ab×AV)}{p:PD}{k y:Ab} (e:F=pdA p) (h:As p k=some y):(BW F k).isSome=true:=by rw [e,Ct,h];rfl
theorem isN_pd {F:List (Ab×AV)}{p:PD}{k:Ab} (e:F=pdA p) (h:As p k=none):(BW F k).isSome=false:=by rw [e,Ct,h];rfl
theorem Cs (p:PD) (k x:Ab):Bj (pdA p) k (sp x)=pdA (CL p k x):=by
 unfold Bj CL
 rw [Ct]
 by_cases h:(As p k).isSome=true
 ·rw [if_pos h,if_pos h]
  unfold pdA
  rw [List.map_map,List.map_map]
  refine List.map_congr_left fun q zz=>?_
  show (if q.1=k then (k,sp x) else (q.1,sp q.2))=((if q.1=k then (k,x) else q).1,sp (if q.1=k then (k,x) else q).2)
  by_cases e:q.1=k
  ·rw [if_pos e,if_pos e]
  ·rw [if_neg e,if_neg e]
 ·rw [if_neg h,if_neg h]
  unfold pdA
  rw [List.map_append];rfl
theorem G1 {s:List Ab}{k:Ab} (n:s.Nodup):Bj (tt s) k (.bool true)=tt (BE s k):=G2 n
theorem PdW.big {P:List Ab}{p:PD} (h:PdW P p) (hP:P.length<=36):(pdA p).length<=Mine.big:=Ai (by rw [pdA_len];exact Nat.le_trans h.len (Nat.le_trans hP (by decide)))
theorem SnW.big {P s:List Ab} (h:SnW P s) (hP:P.length<=36):(tt s).length<=Mine.big:=Ai (by rw [BK];exact Nat.le_trans h.len (Nat.le_trans hP (by decide)))
noncomputable def fLed (n:Nat):FS:=specF fun avs σ K zz=>∃ t P a b p s c,avs=[Bp t P,.loc a 0,sp c,.loc b 1]/\σ=[.at a (.dict (pdA p)),.at b (.dict (tt s))]/\(P.length<=36/\PdW P p/\SnW P s/\c∈P/\mu P s<n) /\
 K ⟨[],.val (.bool (led (nbP P) n p s c).1)⟩ [.at a (.dict (pdA (led (nbP P) n p s c).2.1)),.at b (.dict (tt (led (nbP P) n p s c).2.2))]
noncomputable def ldM (t:AV) (P:List Ab) (a b:Addr) (c:Ab) (x:Option AV):M:=[some (Bp t P),some (.loc a 0),some (sp c),some (.loc b 1),x]
noncomputable def ldS (a b:Addr) (F G:List (Ab×AV)):LS:=[.at a (.dict F),.at b (.dict G)]
inductive LdJ (t:AV) (P:List Ab) (a b:Addr) (c:Ab) (n:Nat) (R:Bool×PD×List Ab) (d r:List Ab):M->LS->Prop
 | mk (p:PD) (s:List Ab) (x:Option AV) (F G:List (Ab×AV)) (hp:PdW P p) (hs:SnW P s) (hm:mu P s<=n) (hr:∀ o∈r,o∈P) (e:DO (led (nbP P) n) c r p s=R) (eF:F=pdA p) (eG:G=tt s):LdJ t P a b c n R d r (ldM t P a b c x) (ldS a b F G)
theorem led_turn {t:AV}{P:List Ab}{a b:Addr}{c o:Ab}{n:Nat}{R:Bool×PD×List Ab}{d r:List Ab}{m:M}{σ:LS}{X:XL}{KK:KS} (hP:P.length<=36) (hc:c∈P) (hK:∀ m bo F G,bo=R.1->F=pdA R.2.1->G=tt R.2.2->KK (.ret (.bool bo)) m (ldS a b F G))
  (j:LdJ t P a b c n R d (o::r) m σ) (C:M->LS->Prop) (hC:∀ Ah σ₂,LdJ t P a b c n R (d++[o]) r Ah σ₂->C Ah σ₂) :
  patW true (.v 4) (sp o) m (fun Af=>wpSs ⟨true,[],[(42,fLed n)],[(17,F1)],[]⟩ [.ite (.cmp .NotIn (.v 4) (.v 3)) [.setitem (.v 3) (.v 4) (.bool true),.ite (.or [(.cmp .NotIn (.v 4) (.v 1)),(.call (.g 42) [(.v 0),(.v 1),(.sub (.v 1) (.v 4)),(.v 3)])]) [.setitem (.v 1) (.v 2) (.v 4),.setitem (.v 1) (.v 4) (.v 2),.ret (.bool true)] []] []] X Af σ (GG Option.none σ C KK)):=by
 cases j with
 | mk p s x F G hp hs hm hr e eF eG =>
  have ho:=hr o (.head _)
  have hr':∀ o∈r,o∈P:=fun x h=>hr x (.tail _ h)
  by_cases os:o∈s
  ·refine ⟨true,⟨rfl,isS_tt eG os⟩,?_⟩
   exact hC _ _ (.mk p s _ F G hp hs hm hr' (by rw [<- e,Dd os]) eF eG)
  ·refine ⟨false,⟨rfl,isN_tt eG os⟩,rfl,by rw [eG];exact hs.big hP,?_⟩
   have hs':=hs.ins ho
   have eG':Bj G o (.bool true)=tt (BE s o):=by rw [eG,G1 hs.nd]
   cases q:As p o with
   | none =>
    refine ⟨false,⟨rfl,isN_pd eF q⟩,rfl,by rw [eF];exact hp.big hP,rfl,by rw [eF,Cs];exact (hp.set hc ho).big hP,?_⟩
    rw [Df os q] at e
    exact hK _ _ _ _ (by rw [<- e]) (by rw [<- e,eF,Cs,Cs]) (by rw [<- e];exact eG')
   | some z =>
    refine ⟨true,⟨rfl,isS_pd eF q⟩,rfl,sp z,by rw [eF,F8,q];rfl,?_⟩
    have k:=Ja n p (BE s o) z hp hs' (hp.mem _ (FB q)).2
    refine ⟨t,P,a,b,p,BE s o,z,rfl,?_,⟨hP,hp,hs',(hp.mem _ (FB q)).2,Nat.lt_of_lt_of_le (mu_lt os ho) hm⟩,?_⟩
    ·show [Slot.at a (.dict F),Slot.at b (.dict (Bj G o (.bool true)))]=_
     rw [eF,eG']
    ·have won:=Ei (f:=led (nbP P) n) (c:=c) (r:=r) os q
     have lost:=De (f:=led (nbP P) n) (c:=c) (r:=r) os q
     generalize led (nbP P) n p (BE s o) z=y at k won lost
     obtain ⟨bo,p',s'⟩:=y
     cases bo with
     | true =>
      rw [won rfl] at e
      refine ⟨rfl,k.pw.big hP,rfl,by rw [Cs];exact (k.pw.set hc ho).big hP,?_⟩
      exact hK _ _ _ _ (by rw [<- e]) (by rw [<- e,Cs,Cs]) (by rw [<- e])
     | false =>
      rw [lost rfl] at e
      exact hC _ _ (.mk p' s' _ _ _ k.pw k.sw (Nat.le_trans (HJ (fun x hx=>k.sub x (insS_mem.mpr (.inl hx))) P) hm) hr' e rfl rfl)
theorem led_walk {n:Nat}:FnOk ⟨true,[],[(42,fLed n)],[(17,F1)],[]⟩ Ex .val 1 0 (fLed (n+1)):=by
 refine .specF fun avs σ K X h=>?_
 obtain ⟨t,P,a,b,p,s,c,rfl,rfl,⟨hP,hp,hs,hc,hn⟩,hK⟩:=h
 refine ⟨rfl,rfl,hs.big hP,⟨rfl,rfl⟩,⟨rfl,rfl⟩,t,P,c,rfl,rfl,hc,?_⟩
 refine AI (r:=besL P c) (g:=sp) rfl (LdJ t P a b c n (led (nbP P) (n+1) p s c)) (fun d m τ j=>?_) (fun d o r m τ j C hC=>led_turn hP hc (fun m bo F G h1 h2 h3=>?_) j C hC) (d:=[]) ?_
 ·cases j with
  | mk p' s' x F G hp' hs' hm' hr' e eF eG =>
   rw [<- e] at hK
   subst eF;subst eG
   exact hK
 ·subst h1;subst h2;subst h3;exact hK
 ·refine .mk p (BE s c) _ _ _ hp (hs.ins hc) (Nat.le_trans (HJ (fun x hx=>insS_mem.mpr (.inl hx)) P) (Nat.le_of_lt_succ hn)) (fun o ho=>of_decide_eq_true (List.mem_filter.mp ho).2) ?_ rfl (G1 hs.nd)
  show _=DO (led (nbP P) n) c (nbP P c) p (BE s c)
  rw [show nbP P c=besL P c from if_pos hc]
noncomputable def pcA (q:Ab×Ab):AV:=.tup [sp q.1,sp q.2]
noncomputable def JD:FS:=specF fun avs σ K zz=>∃ t P a p,avs=[Bp t P,.loc a 0]/\σ=[.at a (.dict (pdA p))]/\(P.length<=36/\∀ x∈P,(As p x).isSome=true)/\K ⟨[.list ((B2 P p).map pcA)],.new 0⟩ [.at a (.dict (pdA p))]
noncomputable def lyM (t:AV) (P:List Ab) (a f:Addr) (x:Option AV):M:=[some (Bp t P),some (.loc a 0),some (.loc f 4),x]
noncomputable def lyS (a f:Addr) (p:PD) (L:List AV):LS:=[.at a (.dict (pdA p)),.no,.no,.no,.at f (.list L)]
inductive LyJ (t:AV) (P:List Ab) (a f:Addr) (p:PD) (d r:List Ab):M->LS->Prop
 | mk (x:Option AV) (L:List AV) (hd:d++r=P) (e:L=(B2 d p).map pcA):LyJ t P a f p d r (lyM t P a f x) (lyS a f p L)
theorem CR (P:List Ab) (p:PD):(B2 P p).length<=P.length:=by
 unfold B2;rw [List.length_map];exact List.length_filter_le _ _
theorem ES {d:List Ab}{p:PD}{c:Ab}:B2 (d++[c]) p=B2 d p++B2 [c] p:=by
 unfold B2;rw [List.filter_append,List.map_append]
theorem Jd:FnOk ⟨true,[],[(32,pureF keyF)],[(16,JE)],[]⟩ Dt .new 2 4 JD:=by
 refine .specF fun avs σ K X h=>?_
 obtain ⟨t,P,a,p,rfl,rfl,⟨hP,hf⟩,hK⟩:=h
 refine ⟨rfl,fun f=>⟨⟨rfl,rfl⟩,⟨rfl,rfl⟩,t,P,rfl,Nat.le_trans hP (by decide),rfl,?_⟩⟩
 refine AI (r:=P) (g:=sp) rfl (LyJ t P a f p) (fun d m τ j=>?_) (fun d c r m τ j C hC=>?_) (d:=[]) (.mk _ [] rfl rfl)
 ·cases j with
  | mk x L hd e =>
   rw [List.append_nil] at hd
   subst hd;subst e
   exact ⟨rfl,hK⟩
 ·cases j with
  | mk x L hd e =>
   have hc:c∈P:=by rw [<- hd];exact List.mem_append_right _ (.head _)
   have hg:BW (pdA p) c=some (sp (mt p c)):=by
    have:=hf c hc
    rw [F8]
    unfold mt
    cases q:As p c with
    | none=>rw [q] at this;cases this
    | some y=>rfl
   have hd':(d++[c])++r=P:=by rw [List.append_assoc];exact hd
   have hl:L.length<=big:=Ai (by
    rw [e,List.length_map]
    have h1:=CR d p
    have h2:d.length<=P.length:=by rw [<- hd,List.length_append];exact Nat.le_add_right _ _
    exact Nat.le_trans h1 (Nat.le_trans h2 (Nat.le_trans hP (by decide))))
   refine ⟨rfl,_,hg,ifB (fun o=>?_) fun o=>?_⟩
   ·refine ⟨rfl,rfl,_,hg,rfl,hl,hC _ _ (.mk _ _ hd' ?_)⟩
    have:B2 [c] p=[(c,mt p c)]:=by
     unfold B2
     rw [List.filter_cons_of_pos (p:=fun c=>H6 c (mt p c)) o];rfl
    rw [ES,this,List.map_append,e];rfl
   ·refine hC _ _ (.mk _ _ hd' ?_)
    have:B2 [c] p=[]:=by
     unfold B2
     rw [List.filter_cons_of_neg (p:=fun c=>H6 c (mt p c)) (fun z=>Bool.eq_false_iff.mp o z)];rfl
    rw [ES,this,List.append_nil,e]
end Mine
end
section
namespace Mine
open PySem PyProof.Rows PySem.W
theorem JH (x y:Bool):EqP (.bool x) (.bool y) (x == y):=by
 cases x<;>cases y<;>exact ⟨_,_,rfl,rfl,rfl,rfl,rfl⟩
theorem JG (S:List Ab):EqP (.list (S.map sp)) (.list []) S.isEmpty:=by
 cases S with
 | nil=>exact (Nice.spots []).eq (by decide)
 | cons a S =>
  have h:=(Nice.spots (a::S)).eq (by decide)
  refine X2ppppp (h) fun da db h1 h2 h3 h4 h5=>?_
  rw [h1] at h2
  cases h2
  have e:Fn (.list ((a::S).map sp))=some (.list ((a::S).map Hp)):=by show (CH _).map _=_;rw [Gh];rfl
  rw [h1] at e
  cases e
  exact ⟨_,.list [],h1,rfl,h3,rfl,rfl⟩
inductive Res (P:List Ab):Str->List AV->Prop
 | laid (p:PD) (f:Full P p):Res P "laid" ((B2 P p).map pcA)
 | short (S:List Ab) (s:Cx P S):Res P "short" (S.map sp)
noncomputable def fLos:FS:=specF fun avs σ K zz=>∃ t P,avs=[Bp t P]/\σ=[]/\P.length<=36/\∀ s L,Res P s L->K ⟨[.list L],.tup [.val (.str s),.new 0]⟩ []
noncomputable abbrev tLos:Tab:=⟨true,[],[(33,fDark),(42,fLed 37),(40,JD)],[(16,JE)],[]⟩
noncomputable def lsM (t:AV) (P:List Ab) (a b:Addr) (x3 x4 x5:Option AV):M:=[some (Bp t P),some (.loc a 4),some (.loc b 5),x3,x4,x5,Option.none]
noncomputable def lsS (a b:Addr) (F:List (Ab×AV)) (L:List AV) (z:Slot):LS:=[.no,.no,.no,.no,.at a (.dict F),.at b (.list L),z]
noncomputable def Ere (w:Bool) (x:Ab):Prop:=w=false/\dark x=true
noncomputable def Done (w:Bool) (d:List Ab) (x:Ab):Prop:=Ere w x\/(dark x=w/\x∈d)
theorem Do {w:Bool}{d:List Ab}{c x:Ab} (h:Done w (d++[c]) x):Done w d x\/(x=c/\dark c=w):=by
 rcases h with h | ⟨h1,h2⟩
 ·exact .inl (.inl h)
 ·rcases List.mem_append.mp h2 with z | z
  ·exact .inl (.inr ⟨h1,z⟩)
  ·have z:=List.mem_singleton.mp z
   exact .inr ⟨z,z▸h1⟩
inductive LsJ (t:AV) (P:List Ab) (w:Bool) (d r:List Ab):M->LS->Prop
 | mk (p:PD) (S:List Ab) (a b:Addr) (x4 x5:Option AV) (F:List (Ab×AV)) (L:List AV) (z:Slot) (h:Sofar P p S (Done w d)) (hd:d++r=P) (eF:F=pdA p) (eL:L=S.map sp):LsJ t P w d r (lsM t P a b (some (.bool w)) x4 x5) (lsS a b F L z)
theorem ls_turn {t:AV}{P:List Ab}{w:Bool}{c:Ab}{d r:List Ab}{m:M}{σ:LS}{X:XL}{KK:KS} (hP:P.length<=36) (j:LsJ t P w d (c::r) m σ) (C:M->LS->Prop) (hC:∀ Ah σ₂,LsJ t P w (d++[c]) r Ah σ₂->C Ah σ₂) :
  patW true (.v 4) (sp c) m (fun Af=>wpSs tLos [.ite (.and [(.cmp .Eq (.call (.g 33) [(.v 4)]) (.v 3)),(.cmp .NotIn (.v 4) (.v 1))]) [.assign (.v 5) (.mu 6 (.dict [] [])),.ite (.and [(.not (.call (.g 42) [(.v 0),(.v 1),(.v 4),(.v 5)])),(.cmp .Eq (.v 2) (.list []))]) [.assign (.v 2) (.mu 5 (.comp (.v 6) 6 (.meth (.v 0) 16 []) [(.and [(.cmp .In (.v 6) (.v 5)),(.cmp .Eq (.call (.g 33) [(.v 6)]) (.v 3))])]))] []] []] X Af σ (GG Option.none σ C KK)):=by
 cases j with
 | mk p S a b x4 x5 F L z h hd eF eL =>
  have hc:c∈P:=by rw [<- hd];exact List.mem_append_right _ (.head _)
  have hd':(d++[c])++r=P:=by rw [List.append_assoc];exact hd
  have hn:P.length<37:=Nat.lt_succ_of_le hP
  refine ⟨_,JH (dark c) w,?_⟩
  by_cases cw:dark c=w
  ·rw [beq_iff_eq.mpr cw]
   cases q:As p c with
   | some y =>
    refine ⟨true,⟨rfl,isS_pd eF q⟩,?_⟩
    exact hC _ _ (.mk p S a b _ _ F L z (h.more fun x hx hx'=>(Do hx').imp id fun e=>by rw [e.1,q];rfl) hd' eF eL)
   | none =>
    refine ⟨false,⟨rfl,isN_pd eF q⟩,fun s6=>?_⟩
    refine ⟨t,P,a,s6,p,[],c,rfl,by rw [<- eF];rfl,⟨hP,h.pw,⟨.nil,fun zz h=>(by cases h)⟩,hc,Nat.lt_of_le_of_lt (EP _ _) hn⟩,?_⟩
    have won:=h.won hc hn q
    have lost:=h.lost hc hn q
    generalize led (nbP P) 37 p [] c=y at won lost
    obtain ⟨bo,p',s'⟩:=y
    cases bo with
    | true =>
     exact hC _ _ (.mk p' S a b _ _ _ L _ ((won rfl).more fun x hx hx'=>.inl ((Do hx').imp id (·.1))) hd' rfl eL)
    | false =>
     refine Ad (lost rfl) fun l1 l2=>?_
     have l1:p'=p:=l1
     subst l1
     refine ⟨rfl,_,by rw [eL];exact JG S,?_⟩
     cases S with
     | cons x S =>
      refine hC _ _ (.mk p' (x::S) a b _ _ _ L _ ⟨h.pw,h.ma,.inr (h.sh.resolve_left fun z=>by cases z.1)⟩ hd' rfl eL)
     | nil =>
      refine ⟨⟨rfl,rfl⟩,⟨rfl,rfl⟩,t,P,rfl,Nat.le_trans hP (by decide),rfl,Ai (by rw [List.length_map];exact Nat.le_trans hP (by decide)),?_⟩
      refine B9 (r:=P) (g:=sp) (f:=sp) (P:=fun x=>decide (x∈s') && (dark x == dark c)) rfl (fun x hx ys C h1 h2=>?_) fun b'=>?_
      ·refine ⟨_,⟨rfl,A6 s' x⟩,?_⟩
       cases q1:decide (x∈s') with
       | false=>exact h2 (by rw [q1];rfl)
       | true =>
        refine ⟨_,JH (dark x) w,ifB (fun q2=>h1 (by rw [q1,cw,q2];rfl)) fun q2=>h2 (by rw [q1,cw,q2];rfl)⟩
      ·exact hC _ _ (.mk p' _ a b' _ _ _ _ _ ⟨h.pw,h.ma,.inr l2⟩ hd' rfl rfl)
  ·rw [beq_eq_false_iff_ne.mpr cw]
   exact hC _ _ (.mk p S a b _ _ F L z (h.more fun x hx hx'=>(Do hx').imp id fun e=>(cw e.2).elim) hd' eF eL)
set_option tactic.hygienic true in
theorem I4 {t:AV}{P:List Ab}{w:Bool}{p:PD}{S:List Ab}{a b:Addr}{x4 x5:Option AV}{F:List (Ab×AV)}{L:List AV}{z:Slot}{X:XL}{KK:KS} (hP:P.length<=36) (h:Sofar P p S (Ere w)) (eF:F=pdA p) (eL:L=S.map sp) (hK:∀ m σ,LsJ t P w P [] m σ->KK .next m σ) :
  wpSs tLos [.for_ (.v 4) (.meth (.v 0) 16 []) [.ite (.and [(.cmp .Eq (.call (.g 33) [(.v 4)]) (.v 3)),(.cmp .NotIn (.v 4) (.v 1))]) [.assign (.v 5) (.mu 6 (.dict [] [])),.ite (.and [(.not (.call (.g 42) [(.v 0),(.v 1),(.v 4),(.v 5)])),(.cmp .Eq (.v 2) (.list []))]) [.assign (.v 2) (.mu 5 (.comp (.v 6) 6 (.meth (.v 0) 16 []) [(.and [(.cmp .In (.v 6) (.v 5)),(.cmp .Eq (.call (.g 33) [(.v 6)]) (.v 3))])]))] []] []]] X (lsM t P a b (some (.bool w)) x4 x5) (lsS a b F L z) KK:=by
 refine ⟨⟨rfl,rfl⟩,⟨rfl,rfl⟩,t,P,rfl,Nat.le_trans hP (by decide),rfl,?_⟩
 refine AI (r:=P) (g:=sp) rfl (LsJ t P w) (fun d m τ j=>?_) (fun d c r m τ j C hC=>ls_turn hP j C hC) (d:=[]) (.mk p S a b x4 x5 F L z (h.more fun x hx hx'=>.inl (hx'.resolve_right fun q=>(List.not_mem_nil q.2))) rfl eF eL)
 refine hK m τ ?_
 cases j with
 | mk p S a b x4 x5 F L z h hd eF eL =>
  rw [List.append_nil] at hd
  subst hd
  exact .mk p S a b x4 x5 F L z h (List.append_nil _) eF eL
theorem los_ok:FnOk tLos Bx (.tup [.val,.new]) 6 7 fLos:=by
 refine .specF fun avs σ K X h=>?_
 refine X2pppp (h) fun t P he96_2 he96_3 hP hK=>?_
 subst he96_2
 subst he96_3
 refine ⟨rfl,fun a b=>?_⟩
 refine I4 (w:=true) (p:=[]) (S:=[]) (t:=t) (P:=P) (a:=a) (b:=b) (x4:=Option.none) (x5:=Option.none) (z:=.no) hP (Sofar.start P fun x h=>(by cases h.1)) rfl rfl fun m σ j=>?_
 cases j with
 | mk p S a b x4 x5 F L z h hd eF eL =>
  refine I4 (w:=false) (p:=p) (S:=S) (t:=t) (P:=P) (a:=a) (b:=b) (x4:=x4) (x5:=x5) (z:=z) hP (h.more fun x hx e=>.inl (.inr ⟨e.2,hx⟩)) eF eL fun m σ j=>?_
  clear h hd eF eL
  cases j with
  | mk p S a b x4 x5 F L z h hd eF eL =>
   refine ⟨rfl,_,by rw [eL];exact JG S,?_⟩
   have h:=h.sh
   cases S with
   | cons x S =>
    have hs:=h.resolve_left fun z=>by cases z.1
    have:=hK _ _ (.short _ hs)
    rw [<- eL] at this
    exact ⟨rfl,this⟩
   | nil =>
    have hf:=(h.resolve_right fun z=>z.ne rfl).2
    have full:∀ x∈P,(As p x).isSome=true:=fun x hx=>hf x hx (by
     cases q:dark x with
     | true=>exact .inl ⟨rfl,q⟩
     | false=>exact .inr ⟨q,hx⟩)
    subst eF
    exact ⟨t,P,a,p,rfl,rfl,⟨hP,full⟩,fun b'=>⟨rfl,hK _ _ (.laid p ⟨‹Sofar P p [] _›.ma,full⟩)⟩⟩
theorem Res.tag {P:List Ab} (nd:P.Nodup) {s s':Str}{L L':List AV} (h:Res P s L) (h':Res P s' L'):s=s':=by
 cases h with
 | laid p f =>
  cases h' with
  | laid _ _=>rfl
  | short S z=>exact (f.has.notShort nd z).elim
 | short S z =>
  cases h' with
  | laid p f=>exact (f.has.notShort nd z).elim
  | short _ _=>rfl
theorem Res.can {P:List Ab} (nd:P.Nodup) {s:Str}{L:List AV} (h:Res P s L) (m:HasMatch P):s = "laid":=by
 cases h with
 | laid p f=>rfl
 | short S z=>exact (m.notShort nd z).elim
theorem Ji:∀ c∈(Str.ofString "laid").cps.toList,c<128:=by decide +kernel
theorem short_lt:∀ c∈(Str.ofString "short").cps.toList,c<128:=by decide +kernel
theorem Res.str {P:List Ab}{s:Str}{L:List AV} (h:Res P s L):Nice 0 (.str s):=by
 cases h with
 | laid _ _=>exact Nice.str Ji
 | short _ _=>exact Nice.str short_lt
theorem Nice.pc (q:Ab×Ab):Nice 2 (pcA q):=Nice.tup fun x hx=>by
 rcases List.mem_cons.mp hx with rfl | hx
 ·exact Nice.sp _
 ·rw [List.mem_singleton.mp hx];exact Nice.sp _
theorem Nice.pcs (l:List (Ab×Ab)):Nice 3 (.list (l.map pcA)):=Nice.list fun x hx=>by
 refine X1pp (List.mem_map.mp hx) fun q zz he147_2=>?_
 subst he147_2
 exact Nice.pc q
theorem Res.list {P:List Ab}{s:Str}{L:List AV} (h:Res P s L):Nice 3 (.list L):=by
 cases h with
 | laid _ _=>exact Nice.pcs _
 | short _ _=>exact (Nice.spots _).mono (by decide)
theorem Res.len {P:List Ab} (hP:P.length<=36) {s:Str}{L:List AV} (h:Res P s L):L.length<=big:=by
 refine Ai (Nat.le_trans ?_ (Nat.le_trans hP (by decide)))
 cases h with
 | laid p _=>rw [List.length_map];exact CR P p
 | short S z=>rw [List.length_map];exact z.sub.length_le
theorem Res.in_ {P:List Ab}{s:Str}{L:List AV} (h:Res P s L):InP (.str s) (.tup [.str "laid",.str "short"]) true:=by
 cases h with
 | laid _ _=>exact ⟨_,_,rfl,.inr rfl,by decide +kernel,by decide +kernel,by decide +kernel,by decide +kernel⟩
 | short _ _=>exact ⟨_,_,rfl,.inr rfl,by decide +kernel,by decide +kernel,by decide +kernel,by decide +kernel⟩
end Mine
end
section
namespace Mine
open PySem PyProof.Rows PySem.W
theorem sortW.same {f:AV->Option Ab}{mu:Option Nat}{L:List AV}{σ:LS}{K:KV} (hs:∀ x∈L,(f x).isSome=true) (hl:L.length<64) (hp:L.Pairwise fun x y=>At (Bh f x) (Bh f y)=true) (h:frW mu (.list L) (.list L) σ K):sortW f mu L σ K:=by
 have asym:∀ {p q:Ab},At p q=true->At q p=true->False:=fun {p q} h1 h2=>by
  have h1:=pairLt_iff.mp h1
  have h2:=pairLt_iff.mp h2
  exact h1.elim (fun z0=>h2.elim (fun z1=>lin [] [(p.fst),(q.fst)] .no [.ilt 1 V0 V1,.ilt 1 V1 V0] rfl z0 z1) (fun z1=>lin [] [(p.fst),(q.fst)] .no [.ilt 1 V0 V1,.ieq 1 V1 V0] rfl z0 z1.1)) (fun z0=>h2.elim (fun z1=>lin [] [(p.fst),(q.fst)] .no [.ieq 1 V0 V1,.ilt 1 V1 V0] rfl z0.1 z1) (fun z1=>lin [] [(p.snd),(q.snd)] .no [.ilt 1 V0 V1,.ilt 1 V1 V0] rfl z0.2 z1.2))
 refine ⟨⟨hs,hl,List.pairwise_map.mpr (hp.imp fun {x y} (z:At (Bh f x) (Bh f y)=true) (e:Bh f x=Bh f y)=>by rw [e] at z;exact asym z z)⟩,fun L' hL=>?_⟩
 have:L'=L:=List.Perm.eq_of_pairwise (le:=fun x y=>At (Bh f x) (Bh f y)=true) (fun a b zz zz h1 h2=>(asym h1 h2).elim) hL.2 hp hL.1
 subst this
 exact h
noncomputable def pc? (a:AV):Option (Ab×Ab):=a.tup?.bind fun l=>(two? l).bind fun z=>(spot? z.1).bind fun u=>(spot? z.2).bind fun v=>some (u,v)
theorem pc?_out {a:AV}{q:Ab×Ab} (h:pc? a=some q):a=pcA q:=by
 refine X1pp (Aw h) fun l h1 h=>?_
 refine X1pp (Aw h) fun z h2 h=>?_
 refine X1pp (Aw h) fun u h3 h=>?_
 refine X1pp (Aw h) fun v h4 h=>?_
 cases h
 rw [AV.tup?_out h1,two?_out h2,spot?_out h3,spot?_out h4];rfl
noncomputable def kyP (x:AV):Option Ab:=(pc? x).bind fun q=>some (q.1.2,q.1.1)
noncomputable def firstF (avs:List AV):Option AV:=(one? avs).bind fun a=>(kyP a).bind fun k=>some (sp k)
theorem first_ok:FnOk ⟨true,[],[(89,pureF keyF)],[],[]⟩ G9 .val 0 0 (pureF firstF):=by
 refine .pureF fun avs v h K hK=>?_
 refine X1pp (Aw h) fun a h1 h=>?_
 refine X1pp (Aw h) fun k h2 h=>?_
 refine X1pp (Aw h2) fun q h3 h2=>?_
 cases h
 cases h2
 obtain rfl:=one?_out h1
 rw [pc?_out h3]
 exact ⟨rfl,hK⟩
theorem kyP_pure (x:AV) (p:Ab) (h:kyP x=some p):(pureF firstF).pure [x]=some (sp p):=by
 show (kyP x).bind _=_
 rw [h];rfl
theorem lay_up {P:List Ab}{p:PD} (h:P.Pairwise lt2):(B2 P p).Pairwise fun q r=>lt2 q.1 r.1:=by
 unfold B2
 exact List.pairwise_map.mpr (h.filter _)
theorem lt2_pair {a b:Ab} (h:lt2 a b):At (a.2,a.1) (b.2,b.1)=true:=pairLt_iff.mpr h
theorem sort_pcs {P:List Ab}{p:PD}{σ:LS}{K:KV} (hP:P.length<=36) (h:P.Pairwise lt2) (hK:K (.list ((B2 P p).map pcA)) σ):sortW kyP Option.none ((B2 P p).map pcA) σ K:=by
 refine sortW.same (fun x hx=>by refine X1pp (List.mem_map.mp hx) fun q zz he45_2=>?_;subst he45_2;rfl) ?_ (List.pairwise_map.mpr ((lay_up h).imp fun z=>lt2_pair z)) hK
 rw [List.length_map]
 exact Nat.lt_of_le_of_lt (CR P p) (Nat.lt_of_le_of_lt hP (by decide))
noncomputable def F0:FS:=specF fun avs σ K zz=>∃ P p a,avs=[.list (P.map sp),.loc a 0]/\σ=[.at a (.list ((B2 P p).map pcA))]/\(P.length<=36/\P.Pairwise lt2/\Full P p)/\K ⟨[],.val (.bool true)⟩ [.at a (.list ((B2 P p).map pcA))]
noncomputable def ilM (P:List Ab) (a:Addr) (cv:List AV) (x3 x4 x5 x6:Option AV):M:=[some (.list (P.map sp)),some (.loc a 0),some (.list cv),x3,x4,x5,x6]
inductive IlJ (P:List Ab) (p:PD) (a:Addr) (d r:List (Ab×Ab)):M->LS->Prop
 | mk (cv:List AV) (x3 x4 x5 x6:Option AV) (hd:d++r=B2 P p) (e:cv=(covL d).map sp):IlJ P p a d r (ilM P a cv x3 x4 x5 x6) [.at a (.list ((B2 P p).map pcA))]
theorem JQ (d:List (Ab×Ab)) (q:Ab×Ab):covL (d++[q])=covL d++[q.1,q.2]:=by
 unfold covL;rw [List.flatMap_append];rfl
theorem covL_len (d:List (Ab×Ab)):(covL d).length=2 * d.length:=by
 unfold covL
 induction d with
 | nil=>rfl
 | cons q d ih=>rw [List.flatMap_cons,List.length_append,ih];show 2+2 * d.length=2 * (d.length+1);exact Nat.le_antisymm (lin [(d.length)] [] (.nle 1 (.add K2 (.mul 2 V0)) (.mul 2 (.add V0 K1))) [] rfl) (lin [(d.length)] [] (.nle 1 (.mul 2 (.add V0 K1)) (.add K2 (.mul 2 V0))) [] rfl)
noncomputable abbrev tIl:Tab:=⟨true,[],[],[],[(91,kyP),(89,kyF)]⟩
theorem il_turn {P:List Ab}{p:PD}{a:Addr}{q:Ab×Ab}{d r:List (Ab×Ab)}{m:M}{σ:LS}{X:XL}{KK:KS} (hP:P.length<=36) (f:Full P p) (j:IlJ P p a d (q::r) m σ) (C:M->LS->Prop) (hC:∀ Ah σ₂,IlJ P p a (d++[q]) r Ah σ₂->C Ah σ₂) :
  patW true (.v 3) (pcA q) m (fun Af=>wpSs tIl [.ite (.or [(.not (.call (.g 1) [(.v 3),(.g 4)])),(.cmp .NotEq (.call (.g 0) [(.v 3)]) (.int 2))]) [.ret (.bool false)] [],.assign (.tup [(.tup [(.v 4),(.v 5)]),(.v 6)]) (.v 3),.ite (.cmp .NotIn (.v 6) (.list [(.tup [(.bin .Add (.v 4) (.int 1)),(.v 5)]),(.tup [(.v 4),(.bin .Add (.v 5) (.int 1))])])) [.ret (.bool false)] [],.assign (.v 2) (.bin .Add (.v 2) (.list [(.tup [(.v 4),(.v 5)]),(.v 6)]))] X Af σ (GG (some 0) σ C KK)):=by
 cases j with
 | mk cv x3 x4 x5 x6 hd e =>
  have hq:q∈B2 P p:=by rw [<- hd];exact List.mem_append_right _ (.head _)
  refine ⟨Ai (Nat.le_of_ble_eq_true rfl),_,InP.spots [(q.1.1+1,q.1.2),(q.1.1,q.1.2+1)] q.2,ifF (by rw [decide_eq_true (Je f hq)];rfl) ⟨Ai ?_,rfl,hC _ _ (.mk _ _ _ _ _ (by rw [List.append_assoc];exact hd) ?_)⟩⟩
  ·rw [e,List.length_map,covL_len]
   have h1:=Eh hd
   have h2:=CR P p
   show _+2<=1000
   exact lin [(P.length),(d.length),((B2 P p).length)] [] (.nle 1 (.add (.mul 2 V1) K2) AG) [.nle 2 V0 K36,.nlt 2 V1 V2,.nle 2 V2 V0] rfl hP h1 h2
  ·rw [JQ,List.map_append,<- e];rfl
theorem Jl:FnOk tIl DV .val 5 0 F0:=by
 refine .specF fun avs σ K X h=>?_
 obtain ⟨P,p,a,rfl,rfl,⟨hP,up,f⟩,hK⟩:=h
 refine ⟨rfl,rfl,rfl,sort_pcs hP up ⟨rfl,true,(Nice.pcs _).eq (by decide),rfl,?_⟩⟩
 refine AI (r:=B2 P p) (g:=pcA) rfl (IlJ P p a) (fun d m τ j=>?_) (fun d q r m τ j C hC=>il_turn hP f j C hC) (d:=[]) (.mk _ _ _ _ _ rfl rfl)
 cases j with
 | mk cv x3 x4 x5 x6 hd e =>
  rw [List.append_nil] at hd
  subst hd;subst e
  refine Ad (f.cov (BY up)) fun c1 c2=>?_
  exact sortW.spots c1 up c2 (Nat.lt_of_le_of_lt hP (by decide)) ⟨true,(Nice.spots P).eq (by decide),hK⟩
noncomputable def Ek:FS:=specF fun avs σ K zz=>∃ P S a,avs=[.list (P.map sp),.loc a 0]/\σ=[.at a (.list (S.map sp))]/\(P.length<=36/\P.Pairwise lt2/\(∀ k∈P,k.1.natAbs<=1000000/\k.2.natAbs<=1000000)/\Cx P S)/\K ⟨[],.val (.bool true)⟩ [.at a (.list (S.map sp))]
noncomputable def isM (P:List Ab) (a b:Addr) (x3 x4 x5 x6:Option AV):M:=[some (.list (P.map sp)),some (.loc a 0),some (.loc b 4),x3,x4,x5,x6]
noncomputable def isS (S:List Ab) (a b:Addr) (L:List AV):LS:=[.at a (.list (S.map sp)),.no,.no,.no,.at b (.list L)]
structure Bes (P S B:List Ab):Prop where
 nd:B.Nodup
 mem:∀ y∈B,∃ x∈S,y∈nbP P x
theorem Bes.len {P S B:List Ab} (h:Bes P S B):B.length<=P.length:=sub_length h.nd fun y hy=>by refine X1pp (h.mem y hy) fun x zz hx=>?_;exact Da _ _ _ hx
inductive IsJ (P S:List Ab) (a b:Addr) (d r:List Int):M->LS->Prop
 | mk (B:List Ab) (x3 x4 x5 x6:Option AV) (L:List AV) (hd:d++r=ivs 0 S.length) (h:Bes P S B) (e:L=B.map sp):IsJ P S a b d r (isM P a b x3 x4 x5 x6) (isS S a b L)
inductive IsI (P S:List Ab) (a b:Addr) (k:Ab) (x3 x4 x5:Option AV) (d r:List Ab):M->LS->Prop
 | mk (B:List Ab) (x6:Option AV) (L:List AV) (hr:∀ z∈r,z∈IZ k) (h:Bes P S B) (e:L=B.map sp):IsI P S a b k x3 x4 x5 d r (isM P a b x3 x4 x5 x6) (isS S a b L)
noncomputable abbrev tIs:Tab:=⟨true,[],[],[],[(89,kyF)]⟩
theorem is_in {P S:List Ab}{a b:Addr}{x3 x4 x5:Option AV}{k y:Ab}{d r:List Ab}{m:M}{σ:LS}{X:XL}{KK:KS} (hP:P.length<=36) (kS:k∈S) (kP:k∈P) (j:IsI P S a b k x3 x4 x5 d (y::r) m σ) (C:M->LS->Prop) (hC:∀ Ah σ₂,IsI P S a b k x3 x4 x5 (d++[y]) r Ah σ₂->C Ah σ₂) :
  patW true (.v 6) (sp y) m (fun Af=>wpSs tIs [.ite (.and [(.cmp .In (.v 6) (.v 0)),(.cmp .NotIn (.v 6) (.v 2))]) [.expr (.meth (.v 2) 0 [(.v 6)])] []] X Af σ (GG Option.none σ C KK)):=by
 cases j with
 | mk B x6 L hr h e =>
  have hy:=nearR_mem.mp (hr y (.head _))
  have hr:∀ z∈r,z∈IZ k:=fun z hz=>hr z (.tail _ hz)
  refine ⟨_,InP.spots P y,ifB (fun q1=>⟨_,⟨rfl,by rw [e];exact InP.spots B y⟩,?_⟩) fun zz=>hC _ _ (.mk B _ L hr h e)⟩
  have q1:=of_decide_eq_true q1
  by_cases q2:y∈B
  ·rw [decide_eq_true q2]
   exact hC _ _ (.mk B _ L hr h e)
  ·rw [decide_eq_false q2]
   refine ⟨rfl,rfl,Ai (by rw [e,List.length_map];exact Nat.le_trans h.len (Nat.le_trans hP (by decide))),hC _ _ (.mk (B++[y]) _ _ hr ⟨Cl h.nd q2,fun z hz=>?_⟩ (by rw [e,List.map_append];rfl))⟩
   rcases List.mem_append.mp hz with w | w
   ·exact h.mem z w
   ·rw [List.mem_singleton.mp w];exact ⟨k,kS,nbP_mem.mpr ⟨kP,hy,q1⟩⟩
theorem dark_sum {a b:Ab} (h:dark a=dark b):((a.1+a.2).fmod 2 == (b.1+b.2).fmod 2)=true:=by
 have ha:=A1 (a:=a.1+a.2) (b:=2) (by decide)
 have hb:=A1 (a:=b.1+b.2) (b:=2) (by decide)
 unfold dark at h
 generalize (a.1+a.2).fmod 2=x at *
 generalize (b.1+b.2).fmod 2=y at *
 rw [beq_iff_eq]
 by_cases hx:x=0
 ·rw [hx] at h
  have:(y == 0)=true:=by rw [<- h];rfl
  rw [hx,eq_of_beq this]
 ·have:(y == 0)=false:=by rw [<- h];exact beq_eq_false_iff_ne.mpr hx
  have:=beq_eq_false_iff_ne.mp this
  exact Int.le_antisymm ((Int.lt_or_gt_of_ne hx).elim (fun z0=>lin [] [x,y] (.ile 0 V0 V1) [.ile 1 K0 V0,.ilt 1 V0 K0] rfl ha.1 z0) (fun z0=>(Int.lt_or_gt_of_ne this).elim (fun z1=>lin [] [y,x] (.ile 0 V1 V0) [.ile 1 K0 V0,.ilt 1 V0 K0] rfl hb.1 z1) (fun z1=>lin [] [x,y] (.ile 1 V0 V1) [.ilt 1 V0 K2,.ilt 1 K0 V1] rfl ha.2 z1))) ((Int.lt_or_gt_of_ne hx).elim (fun z0=>lin [] [x,y] (.ile 0 V1 V0) [.ile 1 K0 V0,.ilt 1 V0 K0] rfl ha.1 z0) (fun z0=>lin [] [y,x] (.ile 1 V0 V1) [.ilt 1 V0 K2,.ilt 1 K0 V1] rfl hb.2 z0))
theorem HG {S:List Ab} (nd:S.Nodup) {n:Nat}{k:Ab} (h:S[n]?=some k):k∉S.take n:=fun q=>by
 obtain ⟨i,hi,e⟩:=List.mem_iff_getElem.mp q
 rw [List.length_take] at hi
 have h1:S[i]?=some k:=by
  rw [List.getElem_take] at e
  rw [List.getElem?_eq_getElem (by omega),e]
 have:=(List.getElem?_inj (by exact lin [i,(min n S.length),(S.length)] [] (.nlt 1 V0 V2) [.nlt 1 V0 V1,.nle 1 V1 V2] rfl hi (Nat.min_le_right (n) (S.length))) nd).mp (h1.trans h.symm)
 exact lin [i,(min n S.length),n] [] .no [.nlt 1 V0 V1,.neq (-1) V0 V2,.nle 1 V1 V2] rfl hi this (Nat.min_le_left (n) (S.length))
theorem is_turn {P S:List Ab}{a b:Addr}{y:Int}{d r:List Int}{m:M}{σ:LS}{X:XL}{KK:KS} (hP:P.length<=36) (na:∀ k∈P,k.1.natAbs<=1000000/\k.2.natAbs<=1000000) (hs:Cx P S) (nd:S.Nodup) (j:IsJ P S a b d (y::r) m σ) (C:M->LS->Prop) (hC:∀ Ah σ₂,IsJ P S a b (d++[y]) r Ah σ₂->C Ah σ₂) :
  patW true (.v 3) (.int y) m (fun Af=>wpSs tIs [.assign (.tup [(.v 4),(.v 5)]) (.sub (.v 1) (.v 3)),.ite (.or [(.cmp .NotIn (.sub (.v 1) (.v 3)) (.v 0)),(.cmp .In (.sub (.v 1) (.v 3)) (.slice (.v 1) .none (.v 3) .none)),(.cmp .NotEq (.bin .Mod (.call (.g 11) [(.sub (.v 1) (.v 3))]) (.int 2)) (.bin .Mod (.call (.g 11) [(.sub (.v 1) (.int 0))]) (.int 2)))]) [.ret (.bool false)] [],.for_ (.v 6) (.list [(.tup [(.bin .Add (.v 4) (.int 1)),(.v 5)]),(.tup [(.bin .Sub (.v 4) (.int 1)),(.v 5)]),(.tup [(.v 4),(.bin .Add (.v 5) (.int 1))]),(.tup [(.v 4),(.bin .Sub (.v 5) (.int 1))])]) [.ite (.and [(.cmp .In (.v 6) (.v 0)),(.cmp .NotIn (.v 6) (.v 2))]) [.expr (.meth (.v 2) 0 [(.v 6)])] []]] X Af σ (GG Option.none σ C KK)):=by
 cases j with
 | mk B x3 x4 x5 x6 L hd h e =>
  refine Ad (GI hd) fun hy hl=>?_
  obtain rfl:y=d.length:=by exact Int.le_antisymm (lin [(d.length)] [y] (.ile 1 V0 (.c V0)) [.ieq 1 V0 (.add K0 (.c V0))] rfl hy) (lin [(d.length)] [y] (.ile 1 (.c V0) V0) [.ieq (-1) V0 (.add K0 (.c V0))] rfl hy)
  have hS:S.length<=36:=Nat.le_trans hs.sub.length_le hP
  have hk:S[d.length]?=some S[d.length]:=List.getElem?_eq_getElem hl
  generalize S[d.length]=k at hk
  have kS:=List.mem_of_getElem? hk
  have kP:=hs.sub.subset kS
  have hx:(0:Int)<=d.length/\(d.length:Int)<1000000:=by exact ⟨lin [(d.length)] [] (.ile 1 K0 (.c V0)) [] rfl,lin [(d.length),(S.length)] [] (.ilt 1 (.c V0) Al) [.nlt 1 V0 V1,.nle 1 V1 K36] rfl hl hS⟩
  have ga:(S.map sp)[(d.length:Int).toNat]?=some (sp k):=by rw [Int.toNat_natCast,List.getElem?_map,hk];rfl
  have h0:∃ k0,S[0]?=some k0:=⟨_,List.getElem?_eq_getElem (by exact lin [(d.length),(S.length)] [] (.nlt 1 K0 V1) [.nlt 1 V0 V1] rfl hl)⟩
  refine X1p (h0) fun k0 h0=>?_
  have g0:(S.map sp)[0]?=some (sp k0):=by rw [List.getElem?_map,h0];rfl
  have k0S:=List.mem_of_getElem? h0
  have ct:cut (S.map sp) .none (.int d.length)=some ((S.take d.length).map sp):=by
   show some ((S.map sp).take (d.length:Int).toNat)=_
   rw [Int.toNat_natCast,List.map_take]
  refine ⟨rfl,hx,_,ga,rfl,hx,_,ga,_,InP.spots P k,ifF (by rw [decide_eq_true kP];rfl) ?_⟩
  refine ⟨rfl,hx,_,ga,rfl,_,Ai (by rw [List.length_map];exact lin [(S.length)] [] (.nle 1 V0 AG) [.nle 1 V0 K36] rfl hS),ct,_,InP.spots (S.take d.length) k,ifF (decide_eq_false (HG nd hk)) ?_⟩
  refine ⟨rfl,hx,_,ga,na k kP,rfl,_,g0,na k0 (hs.sub.subset k0S),ifF (by rw [dark_sum (hs.one k kS k0 k0S)];rfl) ?_⟩
  refine AI (r:=IZ k) (g:=sp) rfl (IsI P S a b k (some (.int d.length)) (some (.int k.1)) (some (.int k.2))) (fun d' m τ j=>?_) (fun d' z r m τ j C hC=>is_in (k:=k) hP kS kP j C hC) (d:=[]) (.mk B _ L (fun zz h=>h) h e)
  cases j with
  | mk B x6 L hr h e=>exact hC _ _ (.mk B _ _ _ _ L (by rw [List.append_assoc];exact hd) h e)
theorem HO:FnOk tIs Ds .val 5 4 Ek:=by
 refine .specF fun avs σ K X h=>?_
 obtain ⟨P,S,a,rfl,rfl,⟨hP,up,na,hs⟩,hK⟩:=h
 have upS:S.Pairwise lt2:=up.sublist hs.sub
 have nd:=BY upS
 have hS:S.length<=36:=Nat.le_trans hs.sub.length_le hP
 have lS:(S.map sp).length<=big:=Ai (by rw [List.length_map];exact lin [(S.length)] [] (.nle 1 V0 AG) [.nle 1 V0 K36] rfl hS)
 have ne:S.isEmpty=false:=by
  cases S with
  | nil=>exact (hs.ne rfl).elim
  | cons _ _=>rfl
 refine ⟨rfl,rfl,rfl,_,JG S,ifF ne ⟨rfl,sortW.spots nd upS (fun zz=>Iff.rfl) (by exact lin [(S.length)] [] (.nlt 1 V0 K64) [.nle 1 V0 K36] rfl hS) ⟨rfl,true,(Nice.spots S).eq (by decide),fun b=>⟨rfl,lS,?_⟩⟩⟩⟩
 refine ⟨by rw [List.length_map];exact Gm (by exact lin [(S.length)] [] (.nle 1 V0 AG) [.nle 1 V0 K36] rfl hS),?_⟩
 refine AI (g:=.int) ((congrArg (fun n:Nat=>AD 0 1 (AK 0 n 1)) (List.length_map _)).trans (Go S.length)) (IsJ P S a b) (fun d m τ j=>?_) (fun d y r m τ j C hC=>is_turn hP na hs nd j C hC) (d:=[]) (.mk [] _ _ _ _ _ rfl ⟨.nil,fun zz h=>(by cases h)⟩ rfl)
 cases j with
 | mk B x3 x4 x5 x6 L hd h e =>
  refine ⟨rfl,Ai (by rw [e,List.length_map];exact Nat.le_trans h.len (by exact lin [(P.length)] [] (.nle 1 V0 AG) [.nle 1 V0 K36] rfl hP)),rfl,lS,?_⟩
  have lt:=hs.sh B h.nd h.mem
  have:decide ((L.length:Int)<((S.map sp).length:Int))=true:=by
   rw [decide_eq_true_eq,e,List.length_map,List.length_map];exact lin [(B.length),(S.length)] [] (.ilt 1 (.c V0) (.c V1)) [.nlt 1 V0 V1] rfl lt
  show K ⟨[],.val (.bool (decide ((L.length:Int)<((S.map sp).length:Int))))⟩ _
  rw [this]
  exact hK
noncomputable def fHolds:FS:=⟨fun zz=>Option.none,fun avs σ K zz=>∃ P s L a i,avs=[.list (P.map sp),.tup [.str s,.loc a i]]/\slot σ i=.at a (.list L)/\(P.length<=36/\P.Pairwise lt2/\∀ k∈P,k.1.natAbs<=1000000/\k.2.natAbs<=1000000)/\Res P s L/\K ⟨[],.val (.bool true)⟩ σ,true⟩
theorem set_slot {σ:LS}{i:Nat}{a:Addr}{o:AObj} (h:slot σ i=.at a o):σ.set i (.at a o)=σ:=by
 have hi:=(D7 h).2
 unfold slot at h
 rw [List.getD_eq_getElem?_getD,List.getElem?_eq_getElem hi] at h
 have h:σ[i]=.at a o:=h
 rw [<- h]
 exact List.set_getElem_self hi
theorem Gy {f:List AV->LS->KR->XL->Prop}{l:List AV}{a:Addr}{i:Nat}{o:AObj}{σ:LS}{K:KV}{X:XL} (hs:slot σ i=.at a o) (h:f [.list l,.loc a 0] [.at a o] (fun r σ'=>HQ Option.none r (wb σ [i] σ') K) (fun c σ'=>X c (wb σ [i] σ'))):ownW (specF f) Option.none [.list l,.loc a i] σ K X:=by
 show f [.list l,.loc a 0] [slot σ i] (fun r σ'=>HQ Option.none r (wb σ [i] σ') K) (fun c σ'=>X c (wb σ [i] σ'))
 rw [hs];exact h
theorem holds_ok:FnOk ⟨true,[],[(93,F0),(94,Ek)],[],[]⟩ G8 .val 0 0 fHolds:=by
 refine ⟨fun avs σ K X h=>?_,fun zz zz h=>by cases h⟩
 obtain ⟨P,s,L,a,i,rfl,hs,⟨hP,up,na⟩,res,hK⟩:=h
 have e0:σ++List.replicate 0 Slot.no=σ:=List.append_nil σ
 refine ⟨rfl,?_⟩
 rw [e0]
 refine ⟨Ai (Nat.le_of_ble_eq_true rfl),true,res.in_,?_⟩
 have hK':K ⟨[],.val (.bool true)⟩ ((wb σ [i] [.at a (.list L)]).take σ.length):=by
  show K _ ((σ.set i (.at a (.list L))).take σ.length)
  rw [set_slot hs,List.take_length];exact hK
 cases res with
 | laid p f =>
  refine ⟨true,(Nice.str Ji).eq (by decide),?_⟩
  show ownW F0 Option.none [.list (P.map sp),.loc a i] σ _ (fun e τ=>X e (τ.take σ.length))
  exact Gy hs ⟨P,p,a,rfl,rfl,⟨hP,up,f⟩,hK'⟩
 | short S z =>
  refine ⟨false,⟨_,_,rfl,rfl,by decide +kernel,by decide +kernel,by decide +kernel⟩,?_⟩
  show ownW Ek Option.none [.list (P.map sp),.loc a i] σ _ (fun e τ=>X e (τ.take σ.length))
  exact Gy hs ⟨P,S,a,rfl,rfl,⟨hP,up,na,z⟩,hK'⟩
end Mine
end
section
namespace Mine
open PySem PyProof.Rows PySem.W
noncomputable def stM (L:List (Nat×Nat)) (k:Sp):Sp:=if (k.1 - ((L[k.2.toNat]?).getD (0,0)).1) % 2=0 then (k.1+1,k.2) else (k.1 - 1,k.2)
theorem ED {w:Nat}{L:List (Nat×Nat)} (st:Strips true w L):HasMatch (Aa (L.map (Aq w))):=by
 refine ⟨stM L,fun k hk=>?_⟩
 refine Ad ((Au st).mp hk) fun h1 hy11_0=>?_
 refine X1pp (hy11_0) fun p h2 h3=>?_
 have pok:=st.ok p (List.mem_of_getElem? h2)
 have ev:=pok.2.2 rfl
 have at_:∀ x:Int,(p.1:Int)<=x/\x<p.1+p.2->(x,k.2)∈Aa (L.map (Aq w)):=fun x hx=>(Au st).mpr ⟨h1,p,h2,hx⟩
 obtain ⟨x,y⟩:=k
 dsimp only at h1 h2 h3 at_
 have mv:∀ u:Int,stM L (u,y)=if (u - (p.1:Int)) % 2=0 then (u+1,y) else (u - 1,y):=fun u=>by
  unfold stM
  dsimp only
  rw [h2];rfl
 rw [mv]
 by_cases q:(x - (p.1:Int)) % 2=0
 ·rw [if_pos q,mv,if_neg (by omega),Int.add_sub_cancel]
  exact ⟨nbP_mem.mpr ⟨hk,Bd .r,at_ _ (by omega)⟩,rfl⟩
 ·rw [if_neg q,mv,if_pos (by omega),Int.sub_add_cancel]
  exact ⟨nbP_mem.mpr ⟨hk,Bd .l,at_ _ (by omega)⟩,rfl⟩
theorem tr_match {G:Gr}{w:Nat} (g:Grid G w) (h:HasMatch (Aa G)):HasMatch (Aa (trG G w)):=by
 refine X1p (h) fun m hm=>?_
 refine ⟨fun k=>sw (m (sw k)),fun k hk=>?_⟩
 refine Ad (hm _ ((CV g).mp hk)) fun h1 h2=>?_
 refine AU (nbP_mem.mp h1) fun zz n1 n2=>?_
 exact ⟨nbP_mem.mpr ⟨hk,Fr _ _ n1,(CV g).mpr n2⟩,congrArg sw h2⟩
noncomputable def IO:List Sp->PD
 | a::b::r=>(a,b)::(b,a)::IO r
 | _=>[]
noncomputable def matB (P:List Sp) (l:PD):Bool:=P.all fun x=>match As l x with
 | some y=>(nbP P x).contains y && (As l y == some x)
 | none=>false
theorem matB_ok {P:List Sp}{l:PD} (h:matB P l=true):HasMatch P:=by
 refine ⟨mt l,fun x hx=>?_⟩
 have:=List.all_eq_true.mp h x hx
 unfold mt
 cases e:As l x with
 | none=>rw [e] at this;cases this
 | some y =>
  rw [e] at this
  refine Ad (Bool.and_eq_true_iff.mp this) fun h1 h2=>?_
  refine ⟨List.contains_iff_mem.mp h1,?_⟩
  show (As l y).getD y=x
  rw [eq_of_beq h2];rfl
noncomputable def D3 (r:List Bool):List Int:=(ivs 0 r.length).filter fun x=>r.getD (x - 0).toNat false
noncomputable def EvR (G:Gr):Prop:=∀ r∈G,(D3 r).length % 2=0
theorem DH {y:Int}:∀ {r:List Bool}{x:Int},(Br y x r).length=r.count true
 | [],_=>rfl
 | b::r,x=>by
  have ih:=DH (y:=y) (r:=r) (x:=x+1)
  cases b
  ·exact ih
  ·show (Br y (x+1) r).length+1=_
   rw [ih,List.count_cons_self]
theorem Hf (r:List Bool):(D3 r).length=r.count true:=by
 rw [<- DH (y:=0) (x:=0),BS,List.length_map];rfl
theorem Ft {w:Nat}{L:List (Nat×Nat)} (st:Strips true w L):EvR (L.map (Aq w)):=fun r hr=>by
 refine X1pp (List.mem_map.mp hr) fun p hp he65_2=>?_
 subst he65_2
 rw [Hf]
 unfold Aq
 rw [List.count_append,List.count_append,List.count_replicate,List.count_replicate,List.count_replicate]
 have:=(st.ok p hp).2.2 rfl
 simp [this]
structure Lay (G:Gr) (w:Nat):Prop where
 f:Flo G w
 ft:Flo (trG G w) G.length
 m:HasMatch (Aa G)
 e:EvR G
theorem Hk {w:Nat}{L:List (Nat×Nat)} (w2:2<=w) (w6:w<=6) (h1:1<=L.length) (h6:L.length<=6) (st:Strips true w L):Lay (L.map (Aq w)) w:=by
 have f:=DF w2 w6 h1 h6 st
 refine ⟨f,tr_flo f.g ?_ (Bk st) fun k hk=>?_,ED st,Ft st⟩
 ·refine X2pp (f.ne) fun a P' e zz=>?_
  rw [e];exact List.cons_ne_nil _ _
 ·rw [List.length_map] at hk ⊢
  exact Cj st hk
noncomputable def layB (G:Gr) (w:Nat):Bool:=floB G w && (floB (trG G w) G.length && (matB (Aa G) (IO (Aa G)) && G.all fun r=>(D3 r).length % 2 == 0))
theorem Lay.ofB {G:Gr}{w:Nat} (h:layB G w=true):Lay G w:=by
 unfold layB at h
 refine Ad (Bool.and_eq_true_iff.mp h) fun h1 h=>?_
 refine Ad (Bool.and_eq_true_iff.mp h) fun h2 h=>?_
 refine Ad (Bool.and_eq_true_iff.mp h) fun h3 h4=>?_
 exact ⟨Flo.ofB h1,Flo.ofB h2,matB_ok h3,fun r hr=>eq_of_beq (List.all_eq_true.mp h4 r hr)⟩
noncomputable def fixE:Gr:=gOf ["##..##", "##..##", "######"]
noncomputable def fixF:Gr:=gOf ["######", "....##", "##..##", "##..##", "######"]
noncomputable def fixG:Gr:=gOf ["##..##", "######", "##..##", "##..##"]
noncomputable def fixH:Gr:=gOf ["##..##", "##..##", "######", "##..##", "##..##"]
theorem fixE_ok:Lay fixE 6:=Lay.ofB (by decide +kernel)
theorem fixF_ok:Lay fixF 6:=Lay.ofB (by decide +kernel)
theorem fixG_ok:Lay fixG 6:=Lay.ofB (by decide +kernel)
theorem fixH_ok:Lay fixH 6:=Lay.ofB (by decide +kernel)
theorem fixE_lit:(["##..##", "##..##", "######"].map fun s=>AV.str (Str.ofString s))=Aj fixE:=Bb (by decide +kernel)
theorem fixF_lit:(["######", "....##", "##..##", "##..##", "######"].map fun s=>AV.str (Str.ofString s))=Aj fixF:=Bb (by decide +kernel)
theorem fixG_lit:(["##..##", "######", "##..##", "##..##"].map fun s=>AV.str (Str.ofString s))=Aj fixG:=Bb (by decide +kernel)
theorem fixH_lit:(["##..##", "##..##", "######", "##..##", "##..##"].map fun s=>AV.str (Str.ofString s))=Aj fixH:=Bb (by decide +kernel)
theorem En (l:List (Ab×AV)) (k:Ab) (x:AV):(Bj l k x).length<=l.length+1:=by
 unfold Bj
 by_cases h:(BW l k).isSome=true
 ·rw [if_pos h,List.length_map];exact Nat.le_succ _
 ·rw [if_neg h,List.length_append];exact Nat.le_refl _
theorem rng2:∀ {h:Nat},h<=3->Builtin.Range.small 0 ((2 * h:Nat):Int) 2=true/\AD 0 2 (AK 0 ((2 * h:Nat):Int) 2)=(List.range h).map fun i:Nat=>AV.int (2 * (i:Int))
 | 0,_=>⟨by decide +kernel,rfl⟩
 | 1,_=>⟨by decide +kernel,rfl⟩
 | 2,_=>⟨by decide +kernel,rfl⟩
 | 3,_=>⟨by decide +kernel,rfl⟩
 | h+4,q=>by omega
noncomputable def fPairs:FS:=specF fun avs σ K zz=>∃ G w b,avs=[.list (Aj G),.bool b]/\σ=[]/\(Grid G w/\EvR G)/\∀ D,K ⟨[.dict D],.new 0⟩ []
noncomputable def pfM (G:Gr) (b:Bool) (f:Addr) (x3 x4 x5 x6 x7 x8:Option AV):M:=[some (.list (Aj G)),some (.bool b),some (.loc f 4),x3,x4,x5,x6,x7,x8]
noncomputable def pfS (f:Addr) (D:List (Ab×AV)):LS:=[.no,.no,.no,.no,.at f (.dict D)]
inductive PfJ (G:Gr) (b:Bool) (f:Addr) (d r:List Int):M->LS->Prop
 | mk (x3 x4 x5 x6 x7 x8:Option AV) (D:List (Ab×AV)) (hd:d++r=ivs 0 G.length) (hD:D.length<=6 * d.length):PfJ G b f d r (pfM G b f x3 x4 x5 x6 x7 x8) (pfS f D)
inductive PfI (G:Gr) (b:Bool) (f:Addr) (y:Int) (xs:List Int) (h N:Nat) (d r:List Nat):M->LS->Prop
 | mk (x5 x6 x7 x8:Option AV) (D:List (Ab×AV)) (hd:d++r=List.range h) (hD:D.length<=N+2 * d.length):PfI G b f y xs h N d r (pfM G b f (some (.int y)) (some (.list (xs.map .int))) x5 x6 x7 x8) (pfS f D)
theorem pf_in {G:Gr}{b:Bool}{f:Addr}{y:Int}{xs:List Int}{h N i:Nat}{d r:List Nat}{m:M}{σ:LS}{X:XL}{KK:KS} (hh:h<=3) (hx:xs.length=2 * h) (hN:N<=100) (j:PfI G b f y xs h N d (i::r) m σ) (C:M->LS->Prop) (hC:∀ Ah σ₂,PfI G b f y xs h N (d++[i]) r Ah σ₂->C Ah σ₂) :
  patW true (.v 6) (.int (2 * (i:Int))) m (fun Af=>wpSs ⟨true,[],[],[],[]⟩ [.assign (.tup [(.v 7),(.v 8)]) (.tup [(.tup [(.sub (.v 4) (.v 6)),(.v 3)]),(.tup [(.sub (.v 4) (.bin .Add (.v 6) (.int 1))),(.v 3)])]),.ite (.v 1) [.assign (.tup [(.v 7),(.v 8)]) (.tup [(.tup [(.v 3),(.sub (.v 4) (.v 6))]),(.tup [(.v 3),(.sub (.v 4) (.bin .Add (.v 6) (.int 1)))])])] [],.setitem (.v 2) (.v 7) (.v 8),.setitem (.v 2) (.v 8) (.v 7)] X Af σ (GG Option.none σ C KK)):=by
 cases j with
 | mk x5 x6 x7 x8 D hd hD =>
  have hi:i<h:=List.mem_range.mp (by rw [<- hd];exact List.mem_append_right _ (.head _))
  have hdl:=Eh hd
  rw [List.length_range] at hdl
  have hd':(d++[i])++r=List.range h:=by rw [List.append_assoc];exact hd
  have b1:(0:Int)<=2 * (i:Int)/\2 * (i:Int)<1000000:=by exact ⟨lin [i] [] (.ile 1 K0 (.mul 2 (.c V0))) [] rfl,lin [h,i] [] (.ilt 1 (.mul 2 (.c V1)) Al) [.nle 2 V0 K3,.nlt 2 V1 V0] rfl hh hi⟩
  have b2:(0:Int)<=2 * (i:Int)+1/\2 * (i:Int)+1<1000000:=by exact ⟨lin [i] [] (.ile 1 K0 (.add (.mul 2 (.c V0)) K1)) [] rfl,lin [h,i] [] (.ilt 1 (.add (.mul 2 (.c V1)) K1) Al) [.nle 2 V0 K3,.nlt 2 V1 V0] rfl hh hi⟩
  have e1:∃ u,(xs.map AV.int)[(2 * (i:Int)).toNat]?=some (.int u):=by
   refine ⟨xs[2 * i],?_⟩
   rw [show (2 * (i:Int)).toNat=2 * i by exact Nat.le_antisymm (lin [((2 * (↑i:Int)).toNat),i] [] (.nle 1 V0 (.mul 2 V1)) [.ieq 1 (.c V0) (.mul 2 (.c V1))] rfl (Int.toNat_of_nonneg (b1.1))) (lin [i,((2 * (↑i:Int)).toNat)] [] (.nle 1 (.mul 2 V0) V1) [.ile 1 (.mul 2 (.c V0)) (.c V1)] rfl (Int.self_le_toNat (2 * (↑i:Int)))),List.getElem?_map,List.getElem?_eq_getElem (by exact lin [(xs.length),h,i] [] (.nlt 1 (.mul 2 V2) V0) [.neq (-1) V0 (.mul 2 V1),.nlt 2 V2 V1] rfl hx hi)];rfl
  have e2:∃ u,(xs.map AV.int)[(2 * (i:Int)+1).toNat]?=some (.int u):=by
   refine ⟨xs[2 * i+1],?_⟩
   rw [show (2 * (i:Int)+1).toNat=2 * i+1 by exact Nat.le_antisymm (lin [((2 * (↑i:Int)+1).toNat),i] [] (.nle 1 V0 (.add (.mul 2 V1) K1)) [.ieq 1 (.c V0) (.add (.mul 2 (.c V1)) K1)] rfl (Int.toNat_of_nonneg (b2.1))) (lin [i,((2 * (↑i:Int)+1).toNat)] [] (.nle 1 (.add (.mul 2 V0) K1) V1) [.ile 1 (.add (.mul 2 (.c V0)) K1) (.c V1)] rfl (Int.self_le_toNat (2 * (↑i:Int)+1))),List.getElem?_map,List.getElem?_eq_getElem (by exact lin [(xs.length),h,i] [] (.nlt 1 (.add (.mul 2 V2) K1) V0) [.neq (-1) V0 (.mul 2 V1),.nlt 2 V2 V1] rfl hx hi)];rfl
  refine X1p (e1) fun u e1=>?_
  refine X1p (e2) fun v e2=>?_
  have l1:D.length<=big:=Ai (by exact lin [h,N,(D.length),(d.length)] [] (.nle 1 V2 AG) [.nle 2 V0 K3,.nle 1 V1 H5,.nle 1 V2 (.add V1 (.mul 2 V3)),.nlt 2 V3 V0] rfl hh hN hD hdl)
  have l2:∀ k x,(Bj D k x).length<=big:=fun k x=>Ai (by have:=En D k x;exact lin [h,N,(D.length),(d.length),((Bj D k x).length)] [] (.nle 1 V4 AG) [.nle 2 V0 K3,.nle 1 V1 H5,.nle 1 V2 (.add V1 (.mul 2 V3)),.nlt 2 V3 V0,.nle 1 V4 (.add V2 K1)] rfl hh hN hD hdl this)
  have l3:∀ k x k' x',(Bj (Bj D k x) k' x').length<=N+2 * (d++[i]).length:=fun k x k' x'=>by
   have h1:=En D k x
   have h2:=En (Bj D k x) k' x'
   rw [List.length_append,List.length_singleton];exact lin [(D.length),N,(d.length),((Bj D k x).length),((Bj (Bj D k x) k' x').length)] [] (.nle 1 V4 (.add V1 (.mul 2 (.add V2 K1)))) [.nle 1 V0 (.add V1 (.mul 2 V2)),.nle 1 V3 (.add V0 K1),.nle 1 V4 (.add V3 K1)] rfl hD h1 h2
  refine ⟨b1,_,e1,b2,_,e2,?_⟩
  cases b with
  | false=>exact ⟨rfl,l1,rfl,l2 _ _,hC _ _ (.mk _ _ _ _ _ hd' (l3 _ _ _ _))⟩
  | true=>exact ⟨b1,_,e1,b2,_,e2,rfl,l1,rfl,l2 _ _,hC _ _ (.mk _ _ _ _ _ hd' (l3 _ _ _ _))⟩
theorem pairs_ok:FnOk ⟨true,[],[],[],[]⟩ Ce .new 7 5 fPairs:=by
 refine .specF fun avs σ K X h=>?_
 obtain ⟨G,w,b,rfl,rfl,⟨g,ev⟩,hK⟩:=h
 have h6:=g.h6
 have w6:=g.w6
 refine ⟨rfl,fun f=>⟨Ai (B5 g),Bt (by rw [Bi];exact h6),?_⟩⟩
 refine AI (g:=.int) (Gp G) (PfJ G b f) (fun d m τ j=>?_) (fun d y r m τ j C hC=>?_) (d:=[]) (.mk _ _ _ _ _ _ [] rfl (Nat.le_refl _))
 ·cases j with
  | mk x3 x4 x5 x6 x7 x8 D hd hD=>exact ⟨rfl,hK D⟩
 ·cases j with
  | mk x3 x4 x5 x6 x7 x8 D hd hD =>
   refine Ad (GI hd) fun hy hdl=>?_
   obtain rfl:y=d.length:=by exact Int.le_antisymm (lin [(d.length)] [y] (.ile 1 V0 (.c V0)) [.ieq 1 V0 (.add K0 (.c V0))] rfl hy) (lin [(d.length)] [y] (.ile 1 (.c V0) V0) [.ieq (-1) V0 (.add K0 (.c V0))] rfl hy)
   have er:G[d.length]?=some G[d.length]:=List.getElem?_eq_getElem hdl
   have hr:G[d.length]∈G:=List.getElem_mem hdl
   generalize G[d.length]=row at er hr
   have lr:=g.len _ hr
   have ea:(Aj G)[(d.length:Int).toNat]?=some (.str (BL row)):=by rw [Int.toNat_natCast];exact FU er
   have bd:(0:Int)<=d.length/\(d.length:Int)<1000000:=by exact ⟨lin [(d.length)] [] (.ile 1 K0 (.c V0)) [] rfl,lin [(List.length G),(d.length)] [] (.ilt 1 (.c V1) Al) [.nle 1 V0 K6,.nlt 1 V1 V0] rfl h6 hdl⟩
   refine ⟨bd,_,ea,Ai (by rw [Az];exact lin [w,(row.length)] [] (.nle 1 V1 AG) [.nle 1 V0 K6,.neq 1 V1 V0] rfl w6 lr),Bt (by rw [Az];exact Nat.le_trans (Nat.le_of_eq lr) w6),?_⟩
   refine ⟨Ai (by rw [Co,List.length_map,Ap,lr];exact Nat.le_trans w6 (by decide)),?_⟩
   refine B9 (g:=.int) (f:=.int) (P:=fun x=>row.getD (x - 0).toNat false) (Co _) (fun x hx ys C2 h1 h2=>?_) ?_
   ·rw [BU] at hx
    refine ⟨bd,_,ea,⟨by exact hx.1,by exact lin [w,(row.length)] [x] (.ilt 1 V0 Al) [.nle 1 V0 K6,.neq 1 V1 V0,.ilt 1 V0 (.add K0 (.c V1))] rfl w6 lr hx.2⟩,_,IA (by exact lin [(row.length),(x.toNat)] [x] (.nlt 1 V1 V0) [.ilt 1 V0 (.add K0 (.c V0)),.ieq 1 (.c V1) V0] rfl hx.2 (Int.toNat_of_nonneg (hx.1))),_,FT _,?_⟩
    rw [Int.sub_zero] at h1 h2
    exact ifB h1 h2
   ·have e2:=ev row hr
    have lx:(D3 row).length<=6:=by
     have:=List.length_filter_le (fun x=>row.getD (x - 0).toNat false) (ivs 0 row.length)
     rw [Ap] at this
     exact Nat.le_trans this (by exact lin [w,(row.length)] [] (.nle 1 V1 K6) [.nle 1 V0 K6,.neq 1 V1 V0] rfl w6 lr)
    obtain ⟨h,hh⟩:∃ h,(D3 row).length=2 * h:=⟨(D3 row).length / 2,by exact Nat.le_antisymm (lin [((D3 row).length % 2),((D3 row).length / 2),((D3 row).length)] [] (.nle 1 V2 (.mul 2 V1)) [.neq 1 V0 K0,.neq (-1) (.add (.mul 2 V1) V0) V2] rfl e2 (Nat.div_add_mod ((D3 row).length) 2)) (lin [((D3 row).length / 2),((D3 row).length % 2),((D3 row).length)] [] (.nle 1 (.mul 2 V0) V2) [.neq 1 (.add (.mul 2 V0) V1) V2] rfl (Nat.div_add_mod ((D3 row).length) 2))⟩
    have h3:h<=3:=by exact lin [((D3 row).length),h] [] (.nle 2 V1 K3) [.nle 1 V0 K6,.neq (-1) V0 (.mul 2 V1)] rfl lx hh
    have el:((D3 row).map AV.int).length=2 * h:=by rw [List.length_map,hh]
    refine Ad (rng2 h3) fun s2 a2=>?_
    refine ⟨Ai (show ((D3 row).map AV.int).length<=1000 by exact lin [h,((List.map AV.int (D3 row)).length)] [] (.nle 1 V1 AG) [.nle 2 V0 K3,.neq 1 V1 (.mul 2 V0)] rfl h3 el),by decide,by decide,(congrArg (fun n:Nat=>Builtin.Range.small 0 n 2) el).trans s2,?_⟩
    refine AI (g:=fun i:Nat=>AV.int (2 * (i:Int))) ((congrArg (fun n:Nat=>AD 0 2 (AK 0 n 2)) el).trans a2) (PfI G b f d.length (D3 row) h (6 * d.length)) (fun d' m τ j=>?_) (fun d' i r m τ j C hC=>pf_in h3 hh (by exact lin [(List.length G),(d.length)] [] (.nle 1 (.mul 6 V1) H5) [.nle 6 V0 K6,.nlt 6 V1 V0] rfl h6 hdl) j C hC) (d:=[]) (.mk _ _ _ _ D rfl hD)
    cases j with
    | mk x5 x6 x7 x8 D hd2 hD2 =>
     refine hC _ _ (.mk _ _ _ _ _ _ D (by rw [List.append_assoc];exact hd) ?_)
     rw [List.append_nil] at hd2
     rw [hd2,List.length_range] at hD2
     rw [List.length_append,List.length_singleton];exact lin [h,(D.length),(d.length)] [] (.nle 1 V1 (.mul 6 (.add V2 K1))) [.nle 2 V0 K3,.nle 1 V1 (.add (.mul 6 V2) (.mul 2 V0))] rfl h3 hD2
noncomputable def GZ:FS:=specF fun avs σ K zz=>∃ l:List Int,avs=[.nums l]/\σ=[]/\l.length<=1000/\∀ G w D,Flo G w->HasMatch (Aa G)->K ⟨[],.val (.tup [.list (Aj G),.dict D])⟩ []
noncomputable abbrev tFb:Tab:=⟨true,[],[(72,fAt),(75,FZ),(85,fPairs),(74,FY)],[],[]⟩
theorem Dm {l:List Int}{x:Int}{G:Gr}{w:Nat}{K:KR}{X:XL} (h:Lay G w) (hK:∀ G w D,Flo G w->HasMatch (Aa G)->K ⟨[],.val (.tup [.list (Aj G),.dict D])⟩ []) :
  wpSs tFb (c_lfloor_by.body.drop 3) X [some (.nums l),some (.int x),some (.list (Aj G)),Option.none,Option.none] [] (fun fl zz τ=>retW .val 0 (flV fl) τ K):=by
 refine ⟨G,w,_,rfl,rfl,⟨h.f.g,h.e⟩,fun D=>ifB (fun zz=>?_) fun zz=>?_⟩
 ·exact ⟨G,w,rfl,rfl,h.f.g,hK _ _ D h.ft (tr_match h.f.g h.m)⟩
 ·exact hK _ _ D h.f h.m
theorem HU:FnOk tFb c_lfloor_by .val 4 0 GZ:=by
 refine .specF fun avs σ K X h=>?_
 refine X1pppp (h) fun l he205_1 he205_2 hl hK=>?_
 subst he205_1
 subst he205_2
 refine ⟨rfl,l,0,rfl,hl,rfl,l,1,rfl,hl,rfl,_,_,_,rfl,rfl,fun w L w2 w6 h1 h6 st=>?_⟩
 refine ifB (fun zz=>?_) fun zz=>Dm (Hk w2 w6 h1 h6 st) hK
 have h4:=A1 (a:=(l.getD 0 0).fdiv 7) (b:=4) (by decide)
 refine ⟨⟨h4.1,Int.lt_trans h4.2 (by decide)⟩,?_⟩
 rcases four h4 with e | e | e | e<;>rw [e]
 ·exact ⟨_,rfl,by have:=Dm (l:=l) (x:=l.getD 0 0) (X:=fun e τ=>X e (List.take ([]:LS).length τ)) fixE_ok hK;rw [<- fixE_lit] at this;exact this⟩
 ·exact ⟨_,rfl,by have:=Dm (l:=l) (x:=l.getD 0 0) (X:=fun e τ=>X e (List.take ([]:LS).length τ)) fixF_ok hK;rw [<- fixF_lit] at this;exact this⟩
 ·exact ⟨_,rfl,by have:=Dm (l:=l) (x:=l.getD 0 0) (X:=fun e τ=>X e (List.take ([]:LS).length τ)) fixG_ok hK;rw [<- fixG_lit] at this;exact this⟩
 ·exact ⟨_,rfl,by have:=Dm (l:=l) (x:=l.getD 0 0) (X:=fun e τ=>X e (List.take ([]:LS).length τ)) fixH_ok hK;rw [<- fixH_lit] at this;exact this⟩
end Mine
end
section
namespace Mine
open PySem PyProof.Rows PySem.W
noncomputable abbrev Ik:Tab:=⟨true,[],[(72,fAt),(88,GZ),(76,fAny),(77,JC),(29,fFloor),(43,fLos),(95,fHolds)],[],[]⟩
theorem Grid.abs {G:Gr}{w:Nat} (g:Grid G w):∀ k∈Aa G,k.1.natAbs<=1000000/\k.2.natAbs<=1000000:=fun k hk=>by
 refine BO (g.in hk) fun q1 q2 q3 q4=>?_
 have h6:=g.h6
 have w6:=g.w6
 have na:∀ i:Int,0<=i->i<=1000000->i.natAbs<=1000000:=fun i h1 h2=>Int.ofNat_le.mp (by rw [Int.natAbs_of_nonneg h1];exact h2)
 exact ⟨na _ q1 (by exact lin [w] [(k.fst)] (.ile 1 V0 Al) [.ilt 1 V0 (.c V0),.nle 1 V0 K6] rfl q2 w6),na _ q3 (by exact lin [(List.length G)] [(k.snd)] (.ile 1 V0 Al) [.ilt 1 V0 (.c V0),.nle 1 V0 K6] rfl q4 h6)⟩
noncomputable def l7M (l:List Int) (b:Bool) (G:Gr) (x3 x4 x5 x6 x7 x8:Option AV):M:=[some (.nums l),some (.bool b),some (.list (Aj G)),x3,x4,x5,x6,x7,x8]
noncomputable def l7S (s4 s5 s6:Slot):LS:=[.no,.no,.no,.no,s4,s5,s6]
noncomputable abbrev l7C (G:Gr):AV:=.list ((Aa G).map sp)
noncomputable abbrev l7F (G:Gr):AV:=Bp (.list (Aj G)) (Aa G)
noncomputable def l7T (s:Str) (a:Addr) (i:Nat):AV:=.tup [.str s,.loc a i]
structure CelOk (P:List Ab):Prop where
 ok:P.length<=36/\P.Pairwise lt2/\∀ k∈P,k.1.natAbs<=1000000/\k.2.natAbs<=1000000
 nd:P.Nodup
theorem Grid.celOk {G:Gr}{w:Nat} (g:Grid G w):CelOk (Aa G):=⟨⟨g.cells,Ew G,g.abs⟩,BY (Ew G)⟩
theorem Jg {l:List Int}{b:Bool}{G:Gr}{X:XL}{KK:KS}{s:Str}{L:List AV}{a4:Addr}{x7 x8:Option AV}{s5 s6:Slot} (h:CelOk (Aa G)) (res:Res (Aa G) s L) (hK:∀ m σ,KK (.ret (.bool true)) m σ) :
  wpSs Ik (c_law7.body.drop 10) X (l7M l b G (some (l7C G)) (some (l7F G)) (some (l7T s a4 4)) (some (.list L)) x7 x8) (l7S (.at a4 (.list L)) s5 s6) KK:=by
 refine ⟨.list (Aj G),Aa G,rfl,rfl,h.ok.1,fun s' L'' res'' a7=>?_⟩
 obtain rfl:=Res.tag h.nd res res''
 exact ⟨true,res.str.eq (by decide),Aa G,s,L'',a7,6,rfl,rfl,h.ok,res'',rfl,true,res.list.eq (by decide),hK _ _⟩
theorem Jh {l:List Int}{b:Bool}{G:Gr}{X:XL}{KK:KS}{s:Str}{L:List AV}{a4:Addr}{x6 x7 x8:Option AV}{s5 s6:Slot} (h:CelOk (Aa G)) (res:Res (Aa G) s L) (hK:∀ m σ,KK (.ret (.bool true)) m σ) :
  wpSs Ik (c_law7.body.drop 6) X (l7M l b G (some (l7C G)) (some (l7F G)) (some (l7T s a4 4)) x6 x7 x8) (l7S (.at a4 (.list L)) s5 s6) KK:=by
 refine ⟨rfl,res.len h.ok.1,.list (Aj G),Aa G,rfl,rfl,h.ok.1,fun s' L' res' a5=>?_⟩
 obtain rfl:=Res.tag h.nd res res'
 exact ⟨true,res.str.eq (by decide),Aa G,s,L',a5,5,rfl,rfl,h.ok,res',rfl,rfl,res'.len h.ok.1,Jg h res hK⟩
theorem GF {l:List Int}{b:Bool}{G:Gr}{w:Nat}{X:XL}{KK:KS} (f:Flo G w) (hb:b=true->HasMatch (Aa G)) (hK:∀ m σ,KK (.ret (.bool true)) m σ) :
  wpSs Ik (c_law7.body.drop 2) X (l7M l b G Option.none Option.none Option.none Option.none Option.none Option.none) (l7S .no .no .no) KK:=by
 have h:=f.g.celOk
 refine ⟨G,w,rfl,rfl,f.g,Ai (B5 f.g),fun a6=>⟨a6,G,w,rfl,rfl,f,?_⟩⟩
 refine ⟨.list (Aj G),Aa G,rfl,rfl,h.ok.1,fun s L res a4=>?_⟩
 refine ⟨Aa G,s,L,a4,4,rfl,rfl,h.ok,res,?_⟩
 have go:=Jh (l:=l) (b:=b) (X:=X) (a4:=a4) (x6:=Option.none) (x7:=Option.none) (x8:=Option.none) (s5:=.no) (s6:=.at a6 (.list (Aj G))) h res hK
 cases b with
 | false=>exact go
 | true =>
  obtain rfl:=res.can h.nd (hb rfl)
  exact ⟨true,res.str.eq (by decide),go⟩
noncomputable def fLaw7:FS:=specF fun avs σ K X=>∃ l:List Int,avs=[.nums l]/\l.length<=63/\σ=[]/\K ⟨[],.val (.bool true)⟩ []
theorem law7_ok:FnOk Ik c_law7 .val 8 7 fLaw7:=by
 refine .specF fun avs σ K X h=>?_
 refine X1pppp (h) fun l he50_1 hl he50_3 hK=>?_
 subst he50_1
 subst he50_3
 refine ⟨rfl,l,2,rfl,by exact lin [(l.length)] [] (.nle 1 V0 AG) [.nle 1 V0 K63] rfl hl,rfl,?_⟩
 refine ifB (fun e=>?_) fun e=>?_
 ·refine ⟨l,rfl,rfl,by exact lin [(l.length)] [] (.nle 1 V0 AG) [.nle 1 V0 K63] rfl hl,fun G w D f m=>?_⟩
  exact GF (b:=(l.getD 2 0).fmod 2 == 1) f (fun zz=>m) fun zz zz=>hK
 ·refine ⟨l,rfl,rfl,by exact lin [(l.length)] [] (.nle 1 V0 AG) [.nle 1 V0 K63] rfl hl,fun G w f=>?_⟩
  exact GF (b:=(l.getD 2 0).fmod 2 == 1) f (fun h=>by rw [h] at e;cases e) fun zz zz=>hK
end Mine
end
section
open PySem PySem.W PyProof.Rows
namespace Mine
section
variable {prog:Program}{w:World}{S:Sta prog w}
noncomputable def fnD (K:Frag) (a:Addr):Option FuncData:=match K.lookup a with
 | some ⟨_,_,.func fd,_⟩=>some fd
 | _=>Option.none
noncomputable def bodyD (fd:FuncData):Option (List Stmt):=match fd.body with
 | .stmts b=>some b
 | _=>Option.none
noncomputable def nmOk (tb:List Nat) (sc:Nms) (names:List Str):Bool:=(List.range names.length).all fun j=>match names[j]? with
 | some x=>ixS tb x == some j && (sc.lookup x == some .local || sc.lookup x == some .cell)
 | Option.none=>true
noncomputable def fnOk (K:Frag) (c:Ag) (names:List Str) (fd:FuncData):Bool :=
 decide (fd.globals=mainGlobals) && (decide (fd.builtins=builtinsNs) && (fd.scope.kind == .function && (!fd.scope.isCoroutine && (!fd.scope.isGenerator && (codeIn K fd.code fd.qualname && (names.length == c.n && (nmOk c.tb fd.scope.names names && decide ((cellsFrom 0 fd.scope.names []).map (·.1)).Nodup)))))))
set_option tactic.hygienic true in
theorem IsFn.of {K:Frag}{a:Addr}{c:Ag} (names:List Str) (hK:S.K=K) (h1:(fnD K a).map (fun fd=>(fnOk K c names fd,fd.closure))=some (true,[]))
  (h2:(fnD K a).map (fun fd=>(bodyD fd).map fun b=>(cSs c.tb 60 fd.scope.names b).map (·.1))=some (some (some (Fu c.body)))) (hm:DC c.body=true) (h3:∀ vals:List Value,vals.length=c.n->(fnD K a).map (fun fd=>bindArgs fd ⟨vals,[]⟩)=some (pure (names.zip vals))):IsFn S a c:=by
 subst hK
 unfold fnD at h1 h2 h3
 split at h1
 ·rename_i cl d fd sl hl
  simp only [hl] at h2 h3
  simp only [Option.map_some,Option.some.injEq,Prod.mk.injEq] at h1 h2 h3
  refine Ad (h1) fun h1 hcl=>?_
  unfold fnOk at h1
  simp only [Bool.and_eq_true,decide_eq_true_eq,beq_iff_eq,Bool.not_eq_true'] at h1
  refine Fj (h1) fun g1 g2 g3 g4 g5 g6 hy33_0=>?_
  refine AU (hy33_0) fun g7 g8 g9=>?_
  cases hb:bodyD fd with
  | none=>rw [hb] at h2;cases h2
  | some b =>
   rw [hb] at h2
   simp only [Option.map_some,Option.some.injEq] at h2
   have hbody:fd.body=.stmts b:=by
    unfold bodyD at hb
    split at hb
    ·rename_i b' e;cases hb;exact e
    ·cases hb
   refine ⟨_,fd,b,names,S.X _ _ hl,rfl,hbody,hcl,g1,g2,g3,g4,g5,codeRec_of S.X g6,g7,h3,fun j x hx=>?_,g9,CSs.of _ hm (JY h2)⟩
   unfold nmOk at g8
   have hj:j<names.length:=(List.getElem?_eq_some_iff.mp hx).1
   have:=List.all_eq_true.mp g8 j (List.mem_range.mpr hj)
   rw [hx] at this
   simp only [Bool.and_eq_true,beq_iff_eq,Bool.or_eq_true] at this
   exact ⟨this.1,this.2⟩
 ·cases h1
end
noncomputable def goT (nx:SharedT->Thread->Option (SharedT×Thread)) (ok:Thread->Bool):Nat->SharedT->Thread->Option SharedT
 | 0,_,_=>Option.none
 | n+1,s,t=>match through t with
  | true=>some s
  | false=>match ok t with
   | false=>Option.none
   | true=>match nx s t with
    | some (s',t')=>goT nx ok n s' t'
    | Option.none=>Option.none
theorem GU {tb:String->Option Builtin}{p:Program}{w:World}{Eb:Nat}{ann:Option Value}:∀ (n:Nat) (s r:SharedT) (t:Thread),goT (stepT (denote tb) p w) (stepOk Eb ann) n s t=some r->topRun tb p w Eb ann n s.abs t=some r.abs
 | 0,_,_,_,h=>by cases h
 | n+1,s,r,t,h=>by
  unfold goT at h
  unfold topRun
  cases ht:through t with
  | true=>rw [ht] at h;cases h;rfl
  | false =>
   rw [ht] at h
   cases hk:stepOk Eb ann t with
   | false=>rw [hk] at h;cases h
   | true =>
    rw [hk] at h
    cases hs:stepT (denote tb) p w s t with
    | none=>rw [hs] at h;cases h
    | some x =>
     obtain ⟨s',t'⟩:=x
     rw [hs] at h
     rw [stepT_spec hs]
     exact GU n s' r t' h
noncomputable def treeOf:List Obj->Nat->PySem.W.BT->PySem.W.BT
 | [],_,t=>t
 | o::l,n,t=>treeOf l (n+1) (t.ins n o)
noncomputable def H1 (P:Params):PySem.W.BT:=treeOf (boot_heap P).objs.toList 0 .nil
noncomputable def seenT {α:Type} (H₀:Heap) (p q:Program) (Xt:Shared->Bool) (Yf:Shared->α) (s:Shared) :=
 ((staticsOk (importedModules p.main.body) H₀ s.heap && namesBound p s.heap && gensDone s && laidKept H₀ s.heap),openSeen q [] (importedModules p.main.body) Xt true s,Yf s)
theorem left_of {p q:Program}{Xt:Shared->Bool}{α:Type}{Yf:Shared->α}{Ya:World->α}{N:Nat}{Eb:Nat}{life:Life}{ann:Option Value} (e:opening p=plainProg p.main.scope.names) (hN:Nat.ble 600 N=true) (f:∀ s,fenceModules? p s=some s)
  (hT:∀ P,absHeap (H1 P) Eb life=boot_heap P) (size:∀ P,((boot_heap P).isNs mainGlobals,(boot_heap P).objs.size,(boot_heap P).nsMap mainGlobals "__annotations__")=(true,Eb,ann))
  (run:∀ w:World,(fun os=>(goT (stepT (denote treeTable) p w) (stepOk Eb ann) N ⟨H1 w.params,Eb,life,Array.mk [],boot_drawn,boot_toks,os⟩ (topStub p)).map fun r=>seenT (boot_heap w.params) p q Xt Yf r.abs)=fun zz=>some (true,openGood q [],Ya w)) :
  LeftO p q [] Xt Yf Ya N true:=fun w=>by
 obtain ⟨⟨h,gs,d,k,os⟩,e1,e2⟩:=Option.map_eq_some_iff.mp (boot_open e hN f w)
 simp only [Prod.mk.injEq] at e2
 refine BO (e2) fun he96_0 he96_1 he96_2 he96_3=>?_
 subst he96_0
 subst he96_1
 subst he96_2
 subst he96_3
 have z:=size w.params
 simp only [Prod.mk.injEq] at z
 refine X1pp (Option.map_eq_some_iff.mp (congrFun (run w) os)) fun r g l=>?_
 unfold seenT at l
 simp only [Prod.mk.injEq] at l
 have g':=GU _ _ _ _ g
 have ea:SharedT.abs ⟨H1 w.params,Eb,life,Array.mk [],boot_drawn,boot_toks,os⟩=⟨boot_heap w.params,Array.mk [],boot_drawn,boot_toks,os⟩:=by
  show Shared.mk _ _ _ _ _=_
  rw [hT]
 rw [ea] at g'
 have t:topFrom treeTable p w N ⟨boot_heap w.params,Array.mk [],boot_drawn,boot_toks,os⟩=some r.abs:=by
  unfold topFrom
  dsimp only
  rw [z.1,z.2.1,z.2.2,g']
  show (match _ && _ && _ && _ with | true=>_ | false=>_)=_
  rw [l.1]
 unfold openEnds
 rw [e1]
 show (topFrom treeTable p w N _).map _=_
 rw [t]
 exact congrArg some (Prod.ext l.2.1 l.2.2)
noncomputable def Di (h:Heap):Frag:=(List.range h.objs.size).filterMap fun a=>(h.get? a).map fun o=>(a,o)
set_option tactic.hygienic true in
theorem HM {K:Frag}{a:Addr}{o:Obj} (h:K.lookup a=some o):(a,o)∈K:=by
 induction K with
 | nil=>cases h
 | cons x K ih =>
  obtain ⟨b,o'⟩:=x
  rw [List.lookup_cons] at h
  split at h
  ·rename_i e;cases h;rw [eq_of_beq e];exact .head _
  ·exact .tail _ (ih h)
theorem Jv (h:Heap):(Di h).In h:=fun a o e=>by
 refine X1pp (List.mem_filterMap.mp (HM e)) fun b zz hb=>?_
 refine X1pp (Option.map_eq_some_iff.mp hb) fun o' h1 h2=>?_
 cases h2;exact h1
noncomputable def adr:Value->Addr
 | .ref a=>a
 | _=>0
noncomputable def ownV (K:Frag) (x:Str):Value:=match nsIn K mainGlobals x with
 | some (some v)=>v
 | _=>.none
structure Ent where
 a:Addr
 c:Ag
 nms:List Str
noncomputable def Hc (K:Frag) (x:Ent):=(fnD K x.a).map fun fd=>(bodyD fd).map fun b=>(cSs x.c.tb 60 fd.scope.names b).map (·.1)
noncomputable def Fh (K:Frag) (x:Ent) (v u t s:Value):=(fnD K x.a).map fun fd=>bindArgs fd ⟨[v,u,t,s].take x.c.n,[]⟩
noncomputable def Dx (x:Ent) (v u t s:Value):Option (Sem (List (Str×Value))):=some (pure (x.nms.zip ([v,u,t,s].take x.c.n)))
noncomputable def entOk (K:Frag) (x:Ent):Bool:=(decide (x.c.n<=4) && DC x.c.body) && (fnD K x.a).any fun fd=>fnOk K x.c x.nms fd && fd.closure.isEmpty
theorem IsFn.ent {prog:Program}{w:World}{S:Sta prog w}{x:Ent} (h1:entOk S.K x=true) (h2:Hc S.K x=some (some (some (Fu x.c.body)))) (h3:Fh S.K x=Dx x):IsFn S x.a x.c:=by
 refine Ad (Bool.and_eq_true_iff.mp h1) fun hn h1=>?_
 refine Ad (Bool.and_eq_true_iff.mp hn) fun hn hm=>?_
 obtain ⟨fd,h4,h5⟩:∃ fd,fnD S.K x.a=some fd/\(fnOk S.K x.c x.nms fd && fd.closure.isEmpty)=true:=by
  cases e:fnD S.K x.a with
  | none=>rw [e] at h1;cases h1
  | some fd=>rw [e] at h1;exact ⟨fd,rfl,h1⟩
 refine Ad (Bool.and_eq_true_iff.mp h5) fun h5 h6=>?_
 refine IsFn.of x.nms rfl (by rw [h4,Option.map_some,h5,List.isEmpty_iff.mp h6]) h2 hm fun vals hv=>?_
 have hn:=of_decide_eq_true hn
 have key:∀ v u t s,[v,u,t,s].take x.c.n=vals->(fnD S.K x.a).map (fun fd=>bindArgs fd ⟨vals,[]⟩)=some (pure (x.nms.zip vals)):=fun v u t s e=>by
  have:=congrFun (congrFun (congrFun (congrFun h3 v) u) t) s
  unfold Fh Dx at this
  rw [e] at this
  exact this
 rw [<- hv] at key hn
 match vals,hn with
 | [],_=>exact key .none .none .none .none rfl
 | [v],_=>exact key v .none .none .none rfl
 | [v,u],_=>exact key v u .none .none rfl
 | [v,u,t],_=>exact key v u t .none rfl
 | [v,u,t,s],_=>exact key v u t s rfl
 | _::_::_::_::_::_,h=>simp at h
end Mine
end
section
open PySem PySem.W PyProof.Rows
namespace Mine
noncomputable def nbL:List (Nat×Str):=[(0, "len"),(1, "isinstance"),(2, "int"),(3, "bool"),(4, "tuple"),(5, "list"),(6, "str"),(7, "dict"),(8, "range"),(9, "enumerate"),(10, "sorted"),(11, "sum"),(12, "abs"),(13, "min"),(14, "max"),(15, "all"),(16, "any"),(17, "ValueError")]
noncomputable def neL:List (Nat×Str):=[(18, "FloorError"),(19, "BadFloor"),(20, "Parted"),(21, "Holed"),(22, "NoCell"),(23, "BadLaying"),(24, "NoLaying"),(25, "NoHeights"),(26, "NoTurn"),(27, "BadText")]
structure LawD where
 nf:List (Nat×Str)
 ms:List (Nat×Str)
 es:List (Bool×Str×Ag×List Str)
 ne:List (Nat×Str)
noncomputable def LawD.no (D:LawD):List (Nat×Str):=D.ne++D.nf
section
variable (D:LawD)
noncomputable def cvK (K:Frag) (i:Nat):Value:=if i<17 then bv i else if i=17 then .type "ValueError" else match D.no.lookup i with
 | some x=>ownV K x
 | Option.none=>ownV K "MOST_LONG"
noncomputable def clsK (K:Frag):Addr:=adr (ownV K "Floor")
noncomputable def FH (K:Frag) (x:Str):Addr:=match findIn K (.ref (clsK K)) x with
 | some (some v)=>adr v
 | _=>0
noncomputable def WK (K:Frag):Wd where
 U:=fun i=>Nat.ble i 17 || (D.no.lookup i).isSome || i == 28
 C:=clsK K
 M:=fun n=>(D.ms.lookup n).map (FH K)
noncomputable def entOf (K:Frag) (e:Bool×Str×Ag×List Str):Ent:=⟨(match e.1 with
 | true=>FH K e.2.1
 | false=>adr (ownV K e.2.1)),e.2.2.1,e.2.2.2⟩
noncomputable def El (K:Frag):List Ent:=D.es.map (entOf K)
noncomputable def refK (K:Frag) (x:Str):Bool:=decide (nsIn K mainGlobals x=some (some (.ref (adr (ownV K x)))))
noncomputable def floorB (K:Frag) (C:Addr):Bool:=plainGet K C "texts" && (hasDictIn K C && (decide (findIn K (.ref C) "__setattr__"=some (some (.builtin "object.__setattr__"))) && (plainOver K C && makesIn K C)))
noncomputable def DP (K:Frag) (C:Addr) (x:Str):Bool:=decide (findIn K (.ref C) x=some Option.none) && decide (takerIn K C x=some Option.none)
noncomputable def FI (K:Frag) (x:Str):Bool:=decide (findIn K (.ref (clsK K)) x=some (some (.ref (FH K x)))) && (isFn K (.ref (FH K x)) && keepIn K (.ref (FH K x)))
noncomputable def sixB (v:Value):Bool:=match v with
 | .int 6 _=>true
 | _=>false
structure D2 (K:Frag):Prop where
 blt:∀ p∈nbL,nsIn K mainGlobals p.2=some Option.none
 own:∀ p∈D.no,nsIn K mainGlobals p.2=some (some (.ref (adr (ownV K p.2))))/\keepIn K (.ref (adr (ownV K p.2)))=true
 law:nsIn K mainGlobals "law"=some (some (.ref (adr (ownV K "law"))))
 six:nsIn K mainGlobals "MOST_LONG"=some (some (ownV K "MOST_LONG"))/\sixB (ownV K "MOST_LONG")=true
 floor:floorB K (clsK K)=true
 texts:DP K (clsK K) "texts"=true
 cells:DP K (clsK K) "own"=true
 init:FI K "__init__"=true
 meth:∀ p∈D.ms,FI K p.2=true
 ent:∀ x∈El D K,entOk K x=true
noncomputable def GC (K:Frag):List Bool:=[nbL.all fun p=>decide (nsIn K mainGlobals p.2=some Option.none),D.no.all fun p=>refK K p.2 && keepIn K (.ref (adr (ownV K p.2))),refK K "law",decide (nsIn K mainGlobals "MOST_LONG"=some (some (ownV K "MOST_LONG"))),sixB (ownV K "MOST_LONG"),
 floorB K (clsK K),DP K (clsK K) "texts",DP K (clsK K) "own",FI K "__init__",D.ms.all fun p=>FI K p.2,(El D K).all (entOk K)]
variable {D}
theorem I5 {K:Frag} (h:GC D K=List.replicate 11 true):D2 D K:=by
 unfold GC at h
 simp only [List.replicate,List.cons.injEq,and_true,List.all_eq_true,Bool.and_eq_true,decide_eq_true_eq,refK] at h
 refine Fj (h) fun h1 h2 h3 h4 h5 h8 hy61_0=>?_
 refine X0ppppp (hy61_0) fun h9 h10 h11 h12 h13=>?_
 exact ⟨h1,h2,h3,⟨h4,h5⟩,h8,h9,h10,h11,h12,h13⟩
variable (D)
noncomputable def obsK (K:Frag):=(GC D K,(El D K).map (Hc K),(El D K).map (Fh K))
noncomputable def valK:List Bool×List (Option (Option (Option (List Mine.S))))×List (Value->Value->Value->Value->Option (Sem (List (Str×Value)))):=(List.replicate 11 true,(El D []).map fun x=>some (some (some (Fu x.c.body))),(El D []).map Dx)
structure Fk (K:Frag):Prop where
 L:D2 D K
 body:∀ x∈El D K,Hc K x=some (some (some (Fu x.c.body)))
 bind:∀ x∈El D K,Fh K x=Dx x
variable {D}
theorem start_of {K:Frag} (h:obsK D K=valK D):Fk D K:=by
 have e1:(El D []).map (fun x=>some (some (some (Fu x.c.body))))=(El D K).map fun x=>some (some (some (Fu x.c.body))):=by
  unfold El;rw [List.map_map,List.map_map];rfl
 have e2:(El D []).map Dx=(El D K).map Dx:=by
  unfold El;rw [List.map_map,List.map_map];rfl
 unfold obsK valK at h
 rw [e1,e2] at h
 simp only [Prod.mk.injEq] at h
 exact ⟨I5 h.1,List.map_inj_left.mp h.2.1,List.map_inj_left.mp h.2.2⟩
noncomputable def EV (D:LawD):Hook:=⟨_,fun s=>obsK D (Di s.heap),fun zz=>valK D,fun zz h=>∃ K:Frag,K.In h/\Fk D K,fun zz s e=>⟨_,Jv _,start_of e⟩,fun _ _ _ ⟨K,X,s⟩ k=>⟨K,X.keeps k,s⟩⟩
structure LawD.Ok (D:LawD):Prop where
 ix:∀ p∈D.nf,ixS GT p.2=some p.1
 hi:∀ p∈D.nf,29<=p.1
 ne:∀ p∈D.ne,p∈neL
 floor:D.no.lookup 29=some "Floor"
 mix:∀ p∈D.ms,ixS AT p.2=some p.1/\p.2 ≠ "texts"/\p.2 ≠ "own"
section
variable {prog:Program}{w:World}{S:Sta prog w}
theorem Glob.own {nm:Str}{i:Nat}{v:Value} (hi:ixS GT nm=some i) (h:nsIn S.K mainGlobals nm=some (some v)):Mine.Glob S i v:=⟨fun x hx=>.inl (by rw [Bo hx hi];exact mg_of S.X S.ng h)⟩
theorem Glob.built {nm:Str}{i:Nat}{v:Value} (hi:ixS GT nm=some i) (h:nsIn S.K mainGlobals nm=some Option.none) (hb:S.mb nm=some v):Mine.Glob S i v:=⟨fun x hx=>.inr (by rw [Bo hx hi];exact ⟨mg_none_of S.X S.ng h,hb⟩)⟩
theorem Ed:∀ p∈nbL++neL++[(28,Str.ofString "MOST_LONG")],ixS GT p.2=some p.1:=by decide +kernel
theorem I0:∀ p∈nbL,bootBuiltins p.2=some (cvK ⟨[],[],[],[]⟩ [] p.1)/\p.2 ≠ "__name__":=by decide +kernel
set_option tactic.hygienic true in
theorem AS {l:List (Nat×Str)}{i:Nat}{x:Str} (h:l.lookup i=some x):(i,x)∈l:=by
 induction l with
 | nil=>cases h
 | cons y l ih =>
  obtain ⟨b,o'⟩:=y
  rw [List.lookup_cons] at h
  split at h
  ·rename_i e;cases h;rw [eq_of_beq e];exact .head _
  ·exact .tail _ (ih h)
theorem no_hi (O:D.Ok):∀ p∈D.no,¬ p.1<17/\¬ p.1=17:=fun p hp=>by
 rcases List.mem_append.mp hp with h | h
 ·have:∀ p∈neL,¬ p.1<17/\¬ p.1=17:=by decide +kernel
  exact this p (O.ne p h)
 ·have:=O.hi p h;exact ⟨lin [(p.fst)] [] (.nge 1 V0 K17) [.nle 1 K29 V0] rfl this,fun z0=>lin [(p.fst)] [] .no [.nle 1 K29 V0,.neq 1 V0 K17] rfl this z0⟩
theorem no_ix (O:D.Ok):∀ p∈D.no,ixS GT p.2=some p.1:=fun p hp=>by
 rcases List.mem_append.mp hp with h | h
 ·exact Ed p (List.mem_append_left _ (List.mem_append_right _ (O.ne p h)))
 ·exact O.ix p h
theorem F9 (O:D.Ok) {K:Frag}{i:Nat}{x:Str} (h:D.no.lookup i=some x):cvK D K i=ownV K x:=by
 refine Ad (no_hi O _ (AS h)) fun h1 h2=>?_
 unfold cvK
 rw [if_neg h1,if_neg h2,h]
theorem cvK_blt {K:Frag}{i:Nat} (h:i<=17):cvK D K i=cvK ⟨[],[],[],[]⟩ [] i:=by
 unfold cvK
 by_cases h1:i<17
 ·rw [if_pos h1,if_pos h1]
 ·have:i=17:=Nat.le_antisymm h (Nat.le_of_not_lt h1)
  rw [if_neg h1,if_neg h1,if_pos this,if_pos this]
theorem usD {K:Frag}{i:Nat} (h:(WK D K).U i=true):i<=17\/(∃ x,D.no.lookup i=some x)\/i=28:=by
 simp only [WK,Bool.or_eq_true,beq_iff_eq,Option.isSome_iff_exists] at h
 rcases h with (h | h) | h
 ·exact .inl (Nat.le_of_ble_eq_true h)
 ·exact .inr (.inl h)
 ·exact .inr (.inr h)
theorem blt_at:∀ i,i<=17->∃ x,(i,x)∈nbL:=fun i hi=>by
 have:∀ i,i<18->(nbL.lookup i).isSome=true:=by decide +kernel
 refine X1p (Option.isSome_iff_exists.mp (this i (Nat.lt_succ_of_le hi))) fun x hx=>?_
 exact ⟨x,AS hx⟩
theorem cv28 (O:D.Ok) {K:Frag}:cvK D K 28=ownV K "MOST_LONG":=by
 have:D.no.lookup 28=Option.none:=by
  cases h:D.no.lookup 28 with
  | none=>rfl
  | some x =>
   rcases List.mem_append.mp (AS h) with q | q
   ·have:∀ p∈neL,p.1≠28:=by decide +kernel
    exact absurd rfl (this _ (O.ne _ q))
   ·have h2:29<=28:=O.hi _ q
    exact absurd h2 (by decide)
 unfold cvK
 rw [if_neg (by decide),if_neg (by decide),this]
theorem Field.of {C:Addr}{x:Str} (h:DP S.K C x=true):Field S C x:=by
 simp only [DP,Bool.and_eq_true,decide_eq_true_eq] at h
 exact ⟨h.1,h.2⟩
theorem IQ {K:Frag}{x:Str}{v:Value} (h:nsIn K mainGlobals x=some (some v)):ownV K x=v:=by unfold ownV;rw [h]
theorem globD (O:D.Ok) (L:D2 D S.K) (hmb:∀ x:Str,x ≠ "__name__"->S.mb x=bootBuiltins x) {i:Nat} (h:(WK D S.K).U i=true):Mine.Glob S i (cvK D S.K i):=by
 rcases usD h with h | ⟨x,h⟩ | rfl
 ·obtain ⟨x,hx⟩:=blt_at i h
  have hb:=I0 _ hx
  exact Glob.built (Ed (i,x) (List.mem_append_left _ (List.mem_append_left _ hx))) (L.blt _ hx) (by rw [hmb x hb.2,hb.1,cvK_blt (K:=S.K) h])
 ·have hx:=AS h
  rw [F9 O h]
  have:=(L.own _ hx).1
  exact Glob.own (no_ix O (i,x) hx) (this.trans (congrArg (fun v=>some (some v)) (IQ this).symm))
 ·rw [cv28 O]
  exact Glob.own (Ed (28,_) (List.mem_append_right _ (.head _))) L.six.1
theorem ownD (O:D.Ok) (L:D2 D S.K) {i:Nat} (h:(WK D S.K).U i=true) (h28:i≠28) (h17:17<=i):Callable S (cvK D S.K i):=by
 rcases usD h with h | ⟨x,h⟩ | rfl
 ·have:i=17:=Nat.le_antisymm h h17
  subst this
  exact Callable.type _
 ·rw [F9 O h]
  have:=L.own _ (AS h)
  refine Callable.own ?_
  unfold ownV
  rw [this.1]
  exact this.2
 ·exact absurd rfl h28
theorem refD (O:D.Ok) {K:Frag} (L:D2 D K) {i:Nat}{x:Str} (h:D.no.lookup i=some x):cvK D K i=.ref (adr (ownV K x)):=by
 rw [F9 O h]
 exact IQ (L.own _ (AS h)).1
set_option tactic.hygienic true in
theorem goodD {p:Program}{loose:List Str} (O:D.Ok) (L:D2 D S.K) (hcv:S.cv=cvK D S.K) (T:TopRead p loose S.mg S.mb S.g):Good S (WK D S.K) where
 glob:=fun i hi=>by rw [hcv];exact globD O L T.builtins hi
 bu:=fun i hi=>by
  show (_ || _ || _)=true
  rw [Nat.ble_eq_true_of_le (Nat.le_of_lt hi)];rfl
 own:=fun i hi h17 h28=>by rw [hcv];exact ownD O L hi h28 h17
 base:=fun i hi=>by rw [hcv];exact if_pos hi
 six:=by
  rw [hcv,cv28 O]
  have:=L.six.2
  revert this
  cases ownV S.K "MOST_LONG" with
  | int n t =>
   intro h
   unfold sixB at h
   split at h
   ·rename_i u e;exact ⟨u,e⟩
   ·cases h
  | _=>intro h;cases h
 floor:=by
  have h:=L.floor
  simp only [floorB,Bool.and_eq_true,decide_eq_true_eq] at h
  obtain ⟨h1,h2,h3,h4,h5⟩:=h
  exact ⟨by rw [hcv];exact refD O L (i:=29) (x := "Floor") O.floor,h1,h2,h3,h4,h5⟩
 texts:=Field.of L.texts
 cells:=Field.of L.cells
 meth:=fun n f hn=>by
  have key:∀ x:Str,ixS AT x=some n->x ≠ "texts"->x ≠ "own"->FI S.K x=true->FH S.K x=f->∃ nm,ixS AT nm=some n/\nm ≠ "texts"/\nm ≠ "own"/\findIn S.K (.ref (WK D S.K).C) nm=some (some (.ref f))/\isFn S.K (.ref f)=true/\keepIn S.K (.ref f)=true:=by
   rintro x a b c d rfl
   simp only [FI,Bool.and_eq_true,decide_eq_true_eq] at d
   exact ⟨x,a,b,c,d⟩
  refine X1pp (Option.map_eq_some_iff.mp hn) fun x hx e=>?_
  have hx:=AS hx
  refine AU (O.mix _ hx) fun a b c=>?_
  exact key x a b c (L.meth _ hx) e
theorem Jm (st:Fk D S.K) {e:Bool×Str×Ag×List Str} (he:e∈D.es):IsFn S (entOf S.K e).a e.2.2.1:=by
 have hx:entOf S.K e∈El D S.K:=List.mem_map_of_mem he
 exact IsFn.ent (st.L.ent _ hx) (st.body _ hx) (st.bind _ hx)
end
end
end Mine
end
section
open PySem PySem.W PyProof.Rows
namespace Mine
section
variable {prog:Program}{w:World}{S:Sta prog w}{W:Wd}{k k':Nat}
theorem Ij {α:Type}{j i:Nat}{y x:α}{r:List (Nat×α)} (h:Gj ((j,y)::r) i=some x):(i=j/\x=y)\/Gj r i=some x:=by
 have h:(match Nat.beq i j with
  | true=>some y
  | false=>Gj r i)=some x:=h
 cases q:Nat.beq i j with
 | false=>rw [q] at h;exact .inr h
 | true=>rw [q] at h;cases h;exact .inl ⟨Nat.eq_of_beq_eq_true q,rfl⟩
noncomputable abbrev FnS (S:Sta prog w) (W:Wd) (k i:Nat) (f:FS):Prop:=(W.U i=true/\i≠28)/\Snd S k (S.cv i) f
noncomputable abbrev MeS (S:Sta prog w) (W:Wd) (k n:Nat) (f:FS):Prop:=∃ fa,W.M n=some fa/\Snd S k (.ref fa) f
noncomputable abbrev KyS (S:Sta prog w) (W:Wd) (k i:Nat) (f:AV->Option Ab):Prop:=W.U i=true/\∃ fa kf,S.cv i=.ref fa/\kf+2<=k/\∀ x,(f x).isSome=true->KeyT S kf (.ref fa) (Bh f) [x]
theorem Snd.up {fv:Value}{f:FS} (h:Snd S k fv f) (le:k<=k'):Snd S k' fv f:=fun F hk=>h F (Nat.le_trans le hk)
theorem FnS.up {i:Nat}{f:FS} (h:FnS S W k i f) (le:k<=k'):FnS S W k' i f:=⟨h.1,h.2.up le⟩
theorem MeS.up {i:Nat}{f:FS} (h:MeS S W k i f) (le:k<=k'):MeS S W k' i f:=by
 refine X1pp (h) fun fa h1 h2=>?_;exact ⟨fa,h1,h2.up le⟩
theorem KyS.up {i:Nat}{f:AV->Option Ab} (h:KyS S W k i f) (le:k<=k'):KyS S W k' i f:=by
 refine Ad (h) fun h1 hy31_0=>?_
 refine X2ppp (hy31_0) fun fa kf h2 h3 h4=>?_;exact ⟨h1,fa,kf,h2,Nat.le_trans h3 le,h4⟩
noncomputable def AllP {α:Type} (P:Nat->α->Prop):List (Nat×α)->Prop
 | []=>True
 | p::r=>P p.1 p.2/\AllP P r
theorem AllP.at {α:Type}{P:Nat->α->Prop}:∀ {l:List (Nat×α)},AllP P l->∀ {i:Nat}{x:α},Gj l i=some x->P i x
 | [],_,_,_,h=>by cases h
 | (j,y)::r,a,i,x,h=>by
  rcases Ij h with ⟨rfl,rfl⟩ | h
  ·exact a.1
  ·exact a.2.at h
theorem TabOk.of {q:Bool}{ex:List Nat}{fn me:List (Nat×FS)}{ky:List (Nat×(AV->Option Ab))} (G:Good S W) (hq:q=true->S.hx=Option.none) (hx:ex.all W.U=true) (hf:AllP (FnS S W k) fn) (hm:AllP (MeS S W k) me) (hk:AllP (KyS S W k) ky):TabOk S W k ⟨q,ex,fn,me,ky⟩ :=
 ⟨G,hq,fun i hi=>List.all_eq_true.mp hx i (List.contains_iff_mem.mp hi),fun i f h=>hf.at h,fun i f h=>hm.at h,fun i f h=>hk.at h⟩
end
section
variable {prog:Program}{w:World}{S:Sta prog w}{D:LawD}{k:Nat}{Φ:Tab}{c:Ag}{rs:Rs}{nv ns:Nat}{f:FS}
theorem no_28 (O:D.Ok) {i:Nat}{x:Str} (h:D.no.lookup i=some x):i≠28:=by
 rintro rfl
 rcases List.mem_append.mp (AS h) with q | q
 ·have:∀ p∈neL,p.1≠28:=by decide +kernel
  exact absurd rfl (this _ (O.ne _ q))
 ·have h2:29<=28:=O.hi _ q
  exact absurd h2 (by decide)
theorem U_of {K:Frag}{i:Nat}{x:Str} (h:D.no.lookup i=some x):(WK D K).U i=true:=by
 show (Nat.ble i 17 || (D.no.lookup i).isSome || i == 28)=true
 rw [h];simp
theorem FnS.of (O:D.Ok) (st:Fk D S.K) (hcv:S.cv=cvK D S.K) {i:Nat}{nm:Str}{ps:List Str} (he:(false,nm,c,ps)∈D.es) (hl:D.no.lookup i=some nm) (h:FnOk Φ c rs nv ns f) (T:TabOk S (WK D S.K) k Φ):FnS S (WK D S.K) (k+1) i f :=
 ⟨⟨U_of hl,no_28 O hl⟩,by rw [hcv,refD O st.L hl];exact Snd.fn T (Jm st he) h⟩
theorem KyS.of (O:D.Ok) (st:Fk D S.K) (hcv:S.cv=cvK D S.K) {i:Nat}{nm:Str}{ps:List Str}{ky:AV->Option Ab} (he:(false,nm,c,ps)∈D.es) (hl:D.no.lookup i=some nm) (h:FnOk Φ c rs nv ns f) (e:∀ x p,ky x=some p->f.pure [x]=some (sp p)) (T:TabOk S (WK D S.K) k Φ):KyS S (WK D S.K) (k+3) i ky :=
 ⟨U_of hl,_,k+1,by rw [hcv,refD O st.L hl];rfl,Nat.le_refl _,KeyT.fn T (Jm st he) h e⟩
theorem MeS.of (st:Fk D S.K) {n:Nat}{nm:Str}{ps:List Str} (he:(true,nm,c,ps)∈D.es) (hl:D.ms.lookup n=some nm) (h:FnOk Φ c rs nv ns f) (T:TabOk S (WK D S.K) k Φ):MeS S (WK D S.K) (k+1) n f :=
 ⟨FH S.K nm,by show (D.ms.lookup n).map _=_;rw [hl];rfl,Snd.fn T (Jm st he) h⟩
theorem FnS.make (O:D.Ok) (st:Fk D S.K) (hcv:S.cv=cvK D S.K) {ps:List Str} (he:(true,Str.ofString "__init__",c,ps)∈D.es) (hp:∀ avs,f.pure avs=Option.none) (hw:f.whole=false)
  (h:∀ avs σ K X,f.spec (A3 avs 0) σ K X->makeW Φ c nv ns (A3 avs 3) σ K X) (T:TabOk S (WK D S.K) k Φ):FnS S (WK D S.K) (k+2) 29 f:=by
 have hi:=st.L.init
 simp only [FI,Bool.and_eq_true,decide_eq_true_eq] at hi
 refine ⟨⟨U_of O.floor,by decide⟩,?_⟩
 rw [hcv,refD O st.L O.floor]
 exact Snd.make T hi.1 hi.2.1 (Jm st he) hp hw h
end
end Mine
end
section
open PySem PySem.W PyProof.Rows
namespace Mine
noncomputable def D07:LawD:=⟨[(29, "Floor"),(30, "is_whole"),(31, "is_spot"),(32, "order_of"),(33, "is_dark"),(34, "near_to"),(35, "spread_from"),(36, "are_rows"),(40, "laying_by"),(42, "led_on"),(43, "laid_or_short"),(72, "_law_cell_at"),(73, "_law_mixed"),(74, "_law_turned_rows"),(75, "_law_rows_by"),(85, "_law_pairs_flat"),(88, "_law_floor_by"),(89, "_law_order"),(91, "_law_first"),(76, "_law_any_rows"),(77, "_law_cells"),(93, "_law_is_laid"),(94, "_law_is_short"),(95, "_law_holds")],
 [(13, "around"),(15, "has"),(16, "cells"),(17, "beside")],
 (false, "is_whole",JX,["thing"]) ::
 (false, "is_spot",c_spot,["thing"]) ::
 (false, "order_of",DT,["spot"]) ::
 (false, "is_dark",Fa,["cell"]) ::
 (false, "near_to",c_near,["spot"]) ::
 (false, "spread_from",c_spread,["first", "some"]) ::
 (false, "are_rows",Fb,["rows"]) ::
 (true, "__init__",c_Finit,["self", "rows"]) ::
 (true, "around",Fe,["self"]) ::
 (true, "has",c_Fhas,["self", "place"]) ::
 (true, "cells",Hb,["self"]) ::
 (true, "beside",Fd,["self", "cell"]) ::
 (false, "laying_by",Dt,["floor", "partners"]) ::
 (false, "led_on",Ex,["floor", "partners", "cell", "seen"]) ::
 (false, "laid_or_short",Bx,["floor"]) ::
 (false, "_law_cell_at",DW,["_law_script", "_law_k"]) ::
 (false, "_law_mixed",G7,["_law_number", "_law_k"]) ::
 (false, "_law_turned_rows",BN,["_law_rows"]) ::
 (false, "_law_rows_by",DU,["_law_cell", "_law_more", "_law_even"]) ::
 (false, "_law_pairs_flat",Ce,["_law_rows", "_law_upright"]) ::
 (false, "_law_floor_by",c_lfloor_by,["_law_script"]) ::
 (false, "_law_order",G6,["_law_place"]) ::
 (false, "_law_first",G9,["_law_piece"]) ::
 (false, "_law_any_rows",Du,["_law_script"]) ::
 (false, "_law_cells",Ha,["_law_rows"]) ::
 (false, "_law_is_laid",DV,["_law_cells_here", "_law_pieces"]) ::
 (false, "_law_is_short",Ds,["_law_cells_here", "_law_some"]) ::
 (false, "_law_holds",G8,["_law_cells_here", "_law_found"]) ::
 (false, "law",c_law7,["_law_script"])::[],[]⟩
theorem D07_ok:D07.Ok:=⟨by decide +kernel,by decide +kernel,by decide +kernel,by decide +kernel,by decide +kernel⟩
theorem kyF_pure (x:AV) (p:Ab) (h:kyF x=some p):(pureF keyF).pure [x]=some (sp p):=by
 refine X1pp (Aw h) fun k h1 h=>?_
 cases h
 rw [spot?_out h1];rfl
theorem U_ok {K:Frag}{ex:List Nat} (h:ex.all (WK D07 []).U=true):ex.all (WK D07 K).U=true:=h
theorem led_zero {ex:List Nat}:FnOk ⟨true,ex,[],[],[]⟩ Ex .val 1 0 (fLed 0):=.specF fun avs σ K X h=>by
 obtain ⟨_,_,_,_,_,_,_,_,_,⟨_,_,_,_,hn⟩,_⟩:=h
 exact (Nat.not_lt_zero _ hn).elim
section
variable {prog:Program}{w:World}{S:Sta prog w}
theorem law_call {l:List Int} (st:Fk D07 S.K) (hcv:S.cv=cvK D07 S.K) (G:Good S (WK D07 S.K)) (hq:S.hx=Option.none) (hl:l.length<=63) :
  CallT S 44 (.ref (adr (ownV S.K "law"))) [.nums l] (Ak []) (OutF fun r zz=>r=⟨[],.val (.bool true)⟩) (Up B1):=by
 have O:=D07_ok
 have q1:true=true->S.hx=Option.none:=fun zz=>hq
 have T0:∀ (k:Nat) (ex:List Nat),ex.all (WK D07 S.K).U=true->TabOk S (WK D07 S.K) k ⟨true,ex,[],[],[]⟩:=fun k ex hx=>TabOk.of G q1 hx trivial trivial trivial
 have E0:([]:List Nat).all (WK D07 S.K).U=true:=rfl
 have whole:=FnS.of (S:=S) O st hcv (i:=30) (List.mem_of_getElem? (i:=0) rfl) (by decide +kernel) whole_ok (T0 0 [] E0)
 have spot:=FnS.of (S:=S) O st hcv (i:=31) (List.mem_of_getElem? (i:=1) rfl) (by decide +kernel) spot_ok (TabOk.of G q1 E0 ⟨whole,trivial⟩ trivial trivial)
 have ordr:=FnS.of (S:=S) O st hcv (i:=32) (List.mem_of_getElem? (i:=2) rfl) (by decide +kernel) HE (T0 0 [] E0)
 have lord:=FnS.of (S:=S) O st hcv (i:=89) (List.mem_of_getElem? (i:=21) rfl) (by decide +kernel) EQ (T0 0 [] E0)
 have ky2:=KyS.of (S:=S) O st hcv (i:=89) (List.mem_of_getElem? (i:=21) rfl) (by decide +kernel) EQ kyF_pure (T0 0 [] E0)
 have ky3:=KyS.of (S:=S) O st hcv (i:=91) (List.mem_of_getElem? (i:=22) rfl) (by decide +kernel) first_ok kyP_pure (TabOk.of G q1 E0 ⟨lord,trivial⟩ trivial trivial)
 have dark:=FnS.of (S:=S) O st hcv (i:=33) (List.mem_of_getElem? (i:=3) rfl) (by decide +kernel) dark_ok (T0 0 [] E0)
 have near:=FnS.of (S:=S) O st hcv (i:=34) (List.mem_of_getElem? (i:=4) rfl) (by decide +kernel) near_ok (T0 0 [] E0)
 have spread:=FnS.of (S:=S) O st hcv (i:=35) (List.mem_of_getElem? (i:=5) rfl) (by decide +kernel) Iq (TabOk.of G q1 E0 ⟨near,trivial⟩ trivial trivial)
 have arows:=FnS.of (S:=S) O st hcv (i:=36) (List.mem_of_getElem? (i:=6) rfl) (by decide +kernel) arows_ok (T0 0 [28] (U_ok (by decide +kernel)))
 have around:=MeS.of (S:=S) st (n:=13) (List.mem_of_getElem? (i:=8) rfl) (by decide +kernel) J7 (T0 0 [] E0)
 have floor:=FnS.make (S:=S) O st hcv (List.mem_of_getElem? (i:=7) rfl) (fun zz=>rfl) rfl init_ok (TabOk.of (k:=2) (ex:=[28]) G q1 (U_ok (by decide +kernel)) ⟨arows.up (by decide),spread,trivial⟩ ⟨around.up (by decide),trivial⟩ trivial)
 have has_:=MeS.of (S:=S) st (n:=15) (List.mem_of_getElem? (i:=9) rfl) (by decide +kernel) has_ok (TabOk.of G q1 E0 ⟨spot,trivial⟩ trivial trivial)
 have cells:=MeS.of (S:=S) st (n:=16) (List.mem_of_getElem? (i:=10) rfl) (by decide +kernel) cells_ok (T0 0 [] E0)
 have beside:=MeS.of (S:=S) st (n:=17) (List.mem_of_getElem? (i:=11) rfl) (by decide +kernel) J4 (TabOk.of (k:=3) G q1 E0 ⟨near.up (by decide),trivial⟩ ⟨has_,trivial⟩ trivial)
 have laying:=FnS.of (S:=S) O st hcv (i:=40) (List.mem_of_getElem? (i:=12) rfl) (by decide +kernel) Jd (TabOk.of (k:=1) G q1 E0 ⟨ordr,trivial⟩ ⟨cells,trivial⟩ trivial)
 have led:∀ n,FnS S (WK D07 S.K) (n+5) 42 (fLed n):=fun n=>by
  induction n with
  | zero=>exact FnS.of (S:=S) O st hcv (i:=42) (List.mem_of_getElem? (i:=13) rfl) (by decide +kernel) led_zero (T0 4 [] E0)
  | succ n ih=>exact FnS.of (S:=S) O st hcv (i:=42) (List.mem_of_getElem? (i:=13) rfl) (by decide +kernel) led_walk (TabOk.of (k:=n+5) G q1 E0 ⟨ih,trivial⟩ ⟨beside.up (Nat.le_trans (by decide) (Nat.le_add_left 5 n)),trivial⟩ trivial)
 have los:=FnS.of (S:=S) O st hcv (i:=43) (List.mem_of_getElem? (i:=14) rfl) (by decide +kernel) los_ok (TabOk.of (k:=42) G q1 E0 ⟨dark.up (by decide),led 37,laying.up (by decide),trivial⟩ ⟨cells.up (by decide),trivial⟩ trivial)
 have cat:=FnS.of (S:=S) O st hcv (i:=72) (List.mem_of_getElem? (i:=15) rfl) (by decide +kernel) at_ok (T0 0 [] E0)
 have mixed:=FnS.of (S:=S) O st hcv (i:=73) (List.mem_of_getElem? (i:=16) rfl) (by decide +kernel) mixed_ok (T0 0 [] E0)
 have turned:=FnS.of (S:=S) O st hcv (i:=74) (List.mem_of_getElem? (i:=17) rfl) (by decide +kernel) Ig (T0 0 [] E0)
 have rowsby:=FnS.of (S:=S) O st hcv (i:=75) (List.mem_of_getElem? (i:=18) rfl) (by decide +kernel) Iz (TabOk.of G q1 E0 ⟨mixed,trivial⟩ trivial trivial)
 have pairs:=FnS.of (S:=S) O st hcv (i:=85) (List.mem_of_getElem? (i:=19) rfl) (by decide +kernel) pairs_ok (T0 0 [] E0)
 have floorby:=FnS.of (S:=S) O st hcv (i:=88) (List.mem_of_getElem? (i:=20) rfl) (by decide +kernel) HU (TabOk.of (k:=2) G q1 E0 ⟨cat.up (by decide),rowsby,pairs.up (by decide),turned.up (by decide),trivial⟩ trivial trivial)
 have anyr:=FnS.of (S:=S) O st hcv (i:=76) (List.mem_of_getElem? (i:=23) rfl) (by decide +kernel) any_ok (TabOk.of (k:=2) G q1 E0 ⟨cat.up (by decide),turned.up (by decide),rowsby,trivial⟩ trivial trivial)
 have lcells:=FnS.of (S:=S) O st hcv (i:=77) (List.mem_of_getElem? (i:=24) rfl) (by decide +kernel) Jc (T0 0 [] E0)
 have islaid:=FnS.of (S:=S) O st hcv (i:=93) (List.mem_of_getElem? (i:=25) rfl) (by decide +kernel) Jl (TabOk.of (k:=4) G q1 E0 trivial trivial ⟨ky3,ky2.up (by decide),trivial⟩)
 have isshort:=FnS.of (S:=S) O st hcv (i:=94) (List.mem_of_getElem? (i:=26) rfl) (by decide +kernel) HO (TabOk.of G q1 E0 trivial trivial ⟨ky2,trivial⟩)
 have holds:=FnS.of (S:=S) O st hcv (i:=95) (List.mem_of_getElem? (i:=27) rfl) (by decide +kernel) holds_ok (TabOk.of (k:=5) G q1 E0 ⟨islaid,isshort.up (by decide),trivial⟩ trivial trivial)
 have T:TabOk S (WK D07 S.K) 43 Ik:=TabOk.of G q1 E0 ⟨cat.up (by decide),floorby.up (by decide),anyr.up (by decide),lcells.up (by decide),floor.up (by decide),los,holds.up (by decide),trivial⟩ trivial trivial
 exact Dl (σ:=[]) T (Jm st (List.mem_of_getElem? (i:=28) rfl)) trivial (law7_ok.spec [.nums l] [] (fun r zz=>r=⟨[],.val (.bool true)⟩) B1 ⟨l,rfl,hl,rfl,rfl⟩) fun ok hs z=>CK ok hs z
end
end Mine
end
section
open PySem PySem.W PyProof.Rows
namespace Mine
noncomputable def keep07:List Nat:=[0,2,3,4,5,6,8,9,10,11,12,13,14,15,16,18,19,20,22,23,24,25,26,27,28,29,30,31,32,33,34,35,36,37,38,39]
noncomputable abbrev p07:Program:=PySem.Challenge.pw_uf010026_07
noncomputable def q07:Program:=view PySem.Challenge.pw_uf010026_07 keep07
noncomputable def Xt07 (s:Shared):Bool:=xlAt q07 [] s && recOk (RowW.records (OpenRow.toRowW (OpenLaw.row PySem.Challenge.rw_uf010026_07))) s
theorem opens:opening p07=plainProg p07.main.scope.names:=by kernel_rfl
theorem fence:∀ s,fenceModules? p07 s=some s:=fun s=>by kernel_rfl
theorem boots:∀ P,absHeap (H1 P) 11 {}=boot_heap P:=fun P=>by kernel_rfl
theorem sizes:∀ P,((boot_heap P).isNs mainGlobals,(boot_heap P).objs.size,(boot_heap P).nsMap mainGlobals "__annotations__")=(true,11,some (.ref 6)):=fun P=>by kernel_rfl
noncomputable def DB (w:World) (os:OsState):Option SharedT:=goT (stepT (denote treeTable) p07 w) (stepOk 11 (some (.ref 6))) 9000 ⟨H1 w.params,11,{},Array.mk [],boot_drawn,boot_toks,os⟩ (topStub p07)
theorem ranA:∀ w:World,(fun os=>(DB w os).map fun r=>(staticsOk (importedModules p07.main.body) (boot_heap w.params) r.abs.heap && namesBound p07 r.abs.heap && gensDone r.abs && laidKept (boot_heap w.params) r.abs.heap))=fun zz=>some true:=fun w=>by
 unfold DB
 rw [PySem.W.Fast.te10156331382660048174,PySem.W.Fast.te11892475500146522536,PySem.W.Fast.te14364793385576792824,PySem.W.Fast.te6613529449190102663,PySem.W.Fast.te5923862056798008813]
 kernel_rfl
theorem ranB:∀ w:World,(fun os=>(DB w os).map fun r=>openSeen q07 [] (importedModules p07.main.body) Xt07 true r.abs)=fun zz=>some (openGood q07 []):=fun w=>by
 unfold DB
 rw [PySem.W.Fast.te10156331382660048174,PySem.W.Fast.te11892475500146522536,PySem.W.Fast.te14364793385576792824,PySem.W.Fast.te6613529449190102663,PySem.W.Fast.te4187177175401517315,PySem.W.Fast.te5923862056798008813]
 kernel_rfl
theorem ranC:∀ w:World,(fun os=>(DB w os).map fun r=>GC D07 (Di r.abs.heap))=fun zz=>some (List.replicate 11 true):=fun w=>by
 unfold DB
 rw [PySem.W.Fast.te10156331382660048174,PySem.W.Fast.te11892475500146522536,PySem.W.Fast.te14364793385576792824,PySem.W.Fast.te6613529449190102663]
 kernel_rfl
theorem ranD:∀ w:World,(fun os=>(DB w os).map fun r=>(El D07 (Di r.abs.heap)).map (Hc (Di r.abs.heap)))=fun zz=>some ((El D07 []).map fun x=>some (some (some (Fu x.c.body)))):=fun w=>by
 unfold DB
 rw [PySem.W.Fast.te10156331382660048174,PySem.W.Fast.te11892475500146522536,PySem.W.Fast.te14364793385576792824,PySem.W.Fast.te6613529449190102663]
 kernel_rfl
theorem ranE:∀ w:World,(fun os=>(DB w os).map fun r=>(El D07 (Di r.abs.heap)).map (Fh (Di r.abs.heap)))=fun zz=>some ((El D07 []).map Dx):=fun w=>by
 unfold DB
 rw [PySem.W.Fast.te10156331382660048174,PySem.W.Fast.te11892475500146522536,PySem.W.Fast.te14364793385576792824,PySem.W.Fast.te6613529449190102663]
 kernel_rfl
theorem CQ {α β γ:Type}{o:Option α}{f:α->β}{g:α->γ}{a:β}{b:γ} (h1:o.map f=some a) (h2:o.map g=some b):(o.map fun r=>(f r,g r))=some (a,b):=by
 cases o with
 | none=>exact (Ae rfl h1).elim
 | some x=>rw [<- Option.some.inj h1,<- Option.some.inj h2];rfl
theorem ran:∀ w:World,(fun os=>(goT (stepT (denote treeTable) p07 w) (stepOk 11 (some (.ref 6))) 9000 ⟨H1 w.params,11,{},Array.mk [],boot_drawn,boot_toks,os⟩ (topStub p07)).map fun r=>seenT (boot_heap w.params) p07 q07 Xt07 (EV D07).obs r.abs)=fun zz=>some (true,openGood q07 [],(EV D07).val w) :=
 fun w=>funext fun os=>CQ (congrFun (ranA w) os) (CQ (congrFun (ranB w) os) (CQ (congrFun (ranC w) os) (CQ (congrFun (ranD w) os) (congrFun (ranE w) os))))
noncomputable abbrev r07:OpenRow:=OpenLaw.row PySem.Challenge.rw_uf010026_07
theorem said07:PySem.Challenge.rw_uf010026_07.wellSaid=true:=by rw [PySem.W.Fast.te9446332074065402090];kernel_rfl
theorem def07:(defOf q07 r07.name).isSome=true:=by kernel_rfl
noncomputable def d07:DefRec×List (Str×Expr):=(defOf q07 r07.name).get def07
theorem fits:(chainsOk q07 && opensWell r07.prog && (frees r07.toRowW && r07.within.isEmpty))=true:=by kernel_rfl
end Mine
end
section
open PySem PySem.W PyProof.Rows
namespace Mine
theorem left07:LeftO r07.prog q07 [] Xt07 (EV D07).obs (EV D07).val 9000:=left_of (p:=p07) opens rfl fence boots sizes ran
theorem head07 (call:WalkO q07 [] (PySem.W.XL q07 []) (EV D07).says r07.toRowW d07.1 d07.2 fun f vs=>PySem.call f vs):PySem.Challenge.rw_uf010026_07.Holds :=
 holds_law said07 fun said=>holds_open (q:=q07) (loose:=[]) (Xt:=Xt07) (XP:=PySem.W.XL q07 []) (YP:=(EV D07).says) (N:=9000) left07 (EV D07).of (EV D07).keeps (fun s e=>xl_of s (Bool.and_eq_true_iff.mp e).1) PySem.W.XL.keeps (Option.some_get def07).symm (by kernel_rfl) (by kernel_rfl)
  (fun s e=>recFacts_of (Bool.and_eq_true_iff.mp e).2) (by kernel_rfl) said fits ⟨rfl,rfl,rfl,rfl,rfl,by decide +kernel⟩ (by w_witness2) call
theorem room_caller {prog:Program}{w:World}{S:Sta prog w} (hq:S.hx=Option.none):Room S (fun zz=>False) 44 callerA :=
 ⟨by rw [hq];rfl,⟨[],rfl,fun e he=>by cases he⟩,by decide +kernel,by decide +kernel⟩
theorem inv_start {prog:Program}{w:World}{S:Sta prog w}{s:Shared} (h1:S.g=s.heap) (h2:S.gens=s.gens) (h3:S.drawn=s.drawn) (h4:S.os=s.os):Inv S (fun zz=>False) (fun zz=>Option.none) s :=
 ⟨fun b o e=>by rw [h1] at e;exact e,h2.symm,h3.symm,h4.symm,fun a d=>absurd rfl d,fun a d=>absurd rfl d,fun a h=>h.elim,fun a o e=>by cases e⟩
theorem rep_script {cv:Nat->Value}{h:Heap}{D:Addr->Prop}{a:Addr}{vs:List Value}{ns:List Int} (hL:h.IsList a vs.toArray) (hI:IntsAre vs ns) (hD:¬ D a):Rep cv h D (.nums ns) (.ref a):=by
 obtain ⟨o,e,c,n,f⟩:=hL
 refine .nums e c f hD ?_
 clear e c f hD
 induction hI with
 | nil=>exact ⟨rfl,fun i x h=>by simp at h⟩
 | @cons m t vs ns _ ih =>
  refine ⟨by simp [ih.1],fun i x h=>?_⟩
  cases i with
  | zero=>simp at h;subst h;exact ⟨t,rfl⟩
  | succ i=>simp at h;simpa using ih.2 i x h
end Mine
set_option tactic.hygienic true in
theorem PySem.Challenge.cw_uf010026_07_holds : PySem.Challenge.rw_uf010026_07.Holds :=
 Mine.head07 (by
 intro w s₀ s₁ mg mb G Y fa o pm cd doc dV kV ho hd' hcd hD hmg hg args vals as hpre hlay hrd hwl hlo
 obtain ⟨K,KX,st⟩:=Y
 refine Ground.open G ?_
 intro T B D TE TW
 have hfa:fa=Mine.adr (Mine.ownV K "law"):=by
  have e:=mg_of KX T.g st.L.law
  have e':mg "law"=some (.ref fa):=hmg
  rw [e] at e';cases e';rfl
 subst hfa
 clear hD hcd hd' ho hmg B D TE TW G
 wrow_args hpre hlay hrd hwl hlo
 rename_i ns _ _ _ _ _ _ _ a vs _ hL _ _ _ hI _ hlen _
 have hsm:∃ o,s₁.heap.get? sysModules=some o:=by
  obtain ⟨mm,⟨o,es,ep,e,_⟩,_⟩:=(T.seer (by decide +kernel)).mods
  exact ⟨o,e⟩
 let S:Mine.Sta PySem.Challenge.rw_uf010026_07.row.prog w:=⟨Mine.cvK Mine.D07 K,s₁.heap,K,KX,s₁.gens,s₁.drawn,s₁.os,mg,mb,T.g,T.b,T.nolimit,hsm,Option.none,fun x e=>by cases e⟩
 have C:=Mine.law_call (S:=S) (l:=ns) st rfl (Mine.goodD (S:=S) Mine.D07_ok st.L rfl (topRead_of T)) rfl (by omega)
 refine enter_call (codeAny_mono (C (fun zz=>False) callerA [.ref a] s₁ (Mine.room_caller rfl) (Mine.inv_start rfl rfl rfl rfl) (.cons (Mine.rep_script hL hI fun d=>d.elim (fun d=>absurd rfl d) id) .nil)) fun r s' z=>?_)
 cases r with
 | error e=>exact False.elim z
 | ok fl =>
  cases fl with
  | ret v =>
   obtain ⟨av,σ',st,i,r,rt,τ,e,_,_,e'⟩:=z
   subst e'
   subst e
   obtain rfl:=r.inv
   refine ⟨.inl ⟨.bool true,.bool true,[],rfl,fun cls=>?_,.bool true,?_,fun zz=>⟨by simp,by simp⟩⟩,.of_keep i.keep,i.os,.of_eq (i.gens.trans hg)⟩
   ·first | exact raisesW_false (by wrow_none_raised) cls | rfl
   ·first | wrow_post | rfl
  | _=>exact z.elim)
end
