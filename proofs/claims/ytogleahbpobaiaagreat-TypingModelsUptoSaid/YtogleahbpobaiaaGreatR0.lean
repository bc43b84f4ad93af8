/-  What is read. -/
import Derived.Test.YtogleahbpobaiaaGreatG0
import Derived.Test.YtogleahbpobaiaaGreatFW
namespace Go.Proofs.YtogleahbpobaiaaGreat.Ev
open Go An
set_option maxRecDepth 100000
set_option maxHeartbeats 4000000
set_option linter.unusedVariables false
set_option linter.unusedSimpArgs false
set_option linter.unnecessarySimpa false
inductive Bv:Ab→Prop
 |mk (a0:Int) (a1:ByteArray) (a2:Int) (a3:(List Ab)) (h0_0:okI .i64 a0) (h1_0:okS a1) (h2_0:okI .i64 a2) (h3_0:a3.length≤maxLen) (h3_1:∀y∈a3,Bv y):Bv (.mk a0 a1 a2 a3)
def Tt(x:Ar):Prop:=okS x.Name∧okI .i64 x.Length∧okI .i64 x.Step
def Akd(x:Cu):Prop:=okI .i64 x.At∧okI .i64 x.Units
def Afo(x:Bf):Prop:=okI .i64 x.Op∧okI .i64 x.A∧okI .i64 x.B∧okI .i64 x.N∧(x.Values.length≤maxLen∧∀y∈x.Values,okI .i64 y)∧(x.Weights.length≤maxLen∧∀y∈x.Weights,okI .i64 y)
def Nf(x:Ao):Prop:=okS x.Name∧okI .i64 x.Type_
def Apf(x:Au):Prop:=okI .i64 x.Coef∧okS x.What∧okS x.Name
def Acm(x:Ax):Prop:=okS x.Name∧(x.Terms.length≤maxLen∧∀y∈x.Terms,Apf y)∧okI .i64 x.Total
def Aui(x:F4):Prop:=okS x.Stream∧Afo x.Up∧Afo x.Down
def Rr(x:Af):Prop:=okS x.Name∧okI .i64 x.Units∧(x.Shift.length≤maxLen∧∀y∈x.Shift,Akd y)∧okI .i64 x.Cycle∧Aui x.Fault
inductive B4:Ac→Prop
 |mk (a0:Int) (a1:ByteArray) (a2:ByteArray) (a3:Ab) (a4:Ab) (a5:(List Ab)) (a6:Bf) (a7:Bool) (a8:(List Ac)) (a9:(List Ac)) (h0_0:okI .i64 a0) (h1_0:okS a1) (h2_0:okS a2) (h3_0:Bv a3) (h4_0:Bv a4) (h5_0:a5.length≤maxLen) (h5_1:∀y∈a5,Bv y) (h6_0:Afo a6) (h7_0:True) (h8_0:a8.length≤maxLen) (h8_1:∀y∈a8,B4 y) (h9_0:a9.length≤maxLen) (h9_1:∀y∈a9,B4 y):B4 (.mk a0 a1 a2 a3 a4 a5 a6 a7 a8 a9)
def Gm(x:Ai):Prop:=okS x.Name∧(x.Params.length≤maxLen∧∀y∈x.Params,Nf y)∧(x.Locals.length≤maxLen∧∀y∈x.Locals,Nf y)∧(x.Body.length≤maxLen∧∀y∈x.Body,B4 y)
def Ahb(x:Bh):Prop:=okS x.Routine∧(x.Args.length≤maxLen∧∀y∈x.Args,okI .i64 y)∧okI .i64 x.At∧okI .i64 x.Every∧okI .i64 x.Until
def Rx(x:Ap):Prop:=okS x.Name∧okI .i64 x.Room∧okI .i64 x.Policy
def Ng(x:Al):Prop:=okS x.Name∧okI .i64 x.Type_∧okI .i64 x.N
def B7(x:Aa):Prop:=okS x.Name∧(x.Vars.length≤maxLen∧∀y∈x.Vars,Ng y)∧(x.Resources.length≤maxLen∧∀y∈x.Resources,Rr y)∧(x.Stores.length≤maxLen∧∀y∈x.Stores,Rx y)∧(x.Belts.length≤maxLen∧∀y∈x.Belts,Tt y)∧(x.Queues.length≤maxLen∧∀y∈x.Queues,okS y)∧(x.Streams.length≤maxLen∧∀y∈x.Streams,okS y)∧(x.Tallies.length≤maxLen∧∀y∈x.Tallies,okS y)∧(x.Levels.length≤maxLen∧∀y∈x.Levels,okS y)∧(x.Counts.length≤maxLen∧∀y∈x.Counts,okS y)∧(x.Routines.length≤maxLen∧∀y∈x.Routines,Gm y)∧(x.Starts.length≤maxLen∧∀y∈x.Starts,Ahb y)∧(x.Laws.length≤maxLen∧∀y∈x.Laws,Acm y)
def Ec(x:Aq):Prop:=(x.Params.length≤maxLen∧∀y∈x.Params,Ng y)∧(x.Locals.length≤maxLen∧∀y∈x.Locals,Nf y)∧B7 x.Site
def Ape(x:Bg):Prop:=okS x.From∧okS x.To∧okI .i64 x.Delay
def S9(x:Ad):Prop:=okS x.Name∧(x.Params.length≤maxLen∧∀y∈x.Params,Ng y)∧(x.Sites.length≤maxLen∧∀y∈x.Sites,B7 y)∧(x.Links.length≤maxLen∧∀y∈x.Links,Ape y)
theorem lx3(x:LX)(h:x.e=3):∃l,x= .t3 l:=by
 cases x<;>first|exact ⟨_,rfl⟩|(simp [LX.e] at h)
theorem lx9(x:LX)(h:x.e=9):∃l,x= .t9 l:=by
 cases x<;>first|exact ⟨_,rfl⟩|(simp [LX.e] at h)
theorem Ckj(x:LX)(h:x.e=32):∃l,x= .t32 l:=by
 cases x<;>first|exact ⟨_,rfl⟩|(simp [LX.e] at h)
theorem Cfe(x:LX)(h:x.e=38):∃l,x= .t38 l:=by
 cases x<;>first|exact ⟨_,rfl⟩|(simp [LX.e] at h)
theorem B7h(x:LX)(h:x.e=55):∃l,x= .t55 l:=by
 cases x<;>first|exact ⟨_,rfl⟩|(simp [LX.e] at h)
theorem Cff(x:LX)(h:x.e=57):∃l,x= .t57 l:=by
 cases x<;>first|exact ⟨_,rfl⟩|(simp [LX.e] at h)
theorem Ckk(x:LX)(h:x.e=60):∃l,x= .t60 l:=by
 cases x<;>first|exact ⟨_,rfl⟩|(simp [LX.e] at h)
theorem B7i(x:LX)(h:x.e=69):∃l,x= .t69 l:=by
 cases x<;>first|exact ⟨_,rfl⟩|(simp [LX.e] at h)
theorem Ce6(x:LX)(h:x.e=116):∃l,x= .t116 l:=by
 cases x<;>first|exact ⟨_,rfl⟩|(simp [LX.e] at h)
theorem Ce7(x:LX)(h:x.e=123):∃l,x= .t123 l:=by
 cases x<;>first|exact ⟨_,rfl⟩|(simp [LX.e] at h)
theorem Ce8(x:LX)(h:x.e=127):∃l,x= .t127 l:=by
 cases x<;>first|exact ⟨_,rfl⟩|(simp [LX.e] at h)
theorem Ce9(x:LX)(h:x.e=133):∃l,x= .t133 l:=by
 cases x<;>first|exact ⟨_,rfl⟩|(simp [LX.e] at h)
theorem Cfa(x:LX)(h:x.e=139):∃l,x= .t139 l:=by
 cases x<;>first|exact ⟨_,rfl⟩|(simp [LX.e] at h)
theorem Cfb(x:LX)(h:x.e=151):∃l,x= .t151 l:=by
 cases x<;>first|exact ⟨_,rfl⟩|(simp [LX.e] at h)
theorem Cfc(x:LX)(h:x.e=178):∃l,x= .t178 l:=by
 cases x<;>first|exact ⟨_,rfl⟩|(simp [LX.e] at h)
theorem Cfd(x:LX)(h:x.e=186):∃l,x= .t186 l:=by
 cases x<;>first|exact ⟨_,rfl⟩|(simp [LX.e] at h)
theorem Ckl(n:Nat)(l:List PV)(h:Hg Tryz.prog n 32 l):∃y:Aa,l=Ae y:=by
 obtain ⟨m,_,h⟩:=Gy Tryz.underlying32 h
 change Sy (Hg Tryz.prog m) [9,22,24,25,26,27,27,27,27,27,28,29,30] l at h
 obtain ⟨a0,b0,rfl,h0,a1,b1,rfl,h1,a2,b2,rfl,h2,a3,b3,rfl,h3,a4,b4,rfl,h4,a5,b5,rfl,h5,a6,b6,rfl,h6,a7,b7,rfl,h7,a8,b8,rfl,h8,a9,b9,rfl,h9,a10,b10,rfl,h10,a11,b11,rfl,h11,a12,b12,rfl,h12,rfl⟩:=h
 obtain ⟨z0,rfl,_⟩:=K1 Tryz.underlying9 h0
 obtain ⟨x1,rfl,e1,_,_,_,_⟩:=Ig Tryz.underlying22 h1
 obtain ⟨z1,rfl⟩:=Cff x1 e1
 obtain ⟨x2,rfl,e2,_,_,_,_⟩:=Ig Tryz.underlying24 h2
 obtain ⟨z2,rfl⟩:=Ce6 x2 e2
 obtain ⟨x3,rfl,e3,_,_,_,_⟩:=Ig Tryz.underlying25 h3
 obtain ⟨z3,rfl⟩:=Ce7 x3 e3
 obtain ⟨x4,rfl,e4,_,_,_,_⟩:=Ig Tryz.underlying26 h4
 obtain ⟨z4,rfl⟩:=Ce8 x4 e4
 obtain ⟨x5,rfl,e5,_,_,_,_⟩:=Ig Tryz.underlying27 h5
 obtain ⟨z5,rfl⟩:=lx9 x5 e5
 obtain ⟨x6,rfl,e6,_,_,_,_⟩:=Ig Tryz.underlying27 h6
 obtain ⟨z6,rfl⟩:=lx9 x6 e6
 obtain ⟨x7,rfl,e7,_,_,_,_⟩:=Ig Tryz.underlying27 h7
 obtain ⟨z7,rfl⟩:=lx9 x7 e7
 obtain ⟨x8,rfl,e8,_,_,_,_⟩:=Ig Tryz.underlying27 h8
 obtain ⟨z8,rfl⟩:=lx9 x8 e8
 obtain ⟨x9,rfl,e9,_,_,_,_⟩:=Ig Tryz.underlying27 h9
 obtain ⟨z9,rfl⟩:=lx9 x9 e9
 obtain ⟨x10,rfl,e10,_,_,_,_⟩:=Ig Tryz.underlying28 h10
 obtain ⟨z10,rfl⟩:=Ckk x10 e10
 obtain ⟨x11,rfl,e11,_,_,_,_⟩:=Ig Tryz.underlying29 h11
 obtain ⟨z11,rfl⟩:=Ce9 x11 e11
 obtain ⟨x12,rfl,e12,_,_,_,_⟩:=Ig Tryz.underlying30 h12
 obtain ⟨z12,rfl⟩:=Cfb x12 e12
 exact ⟨.mk z0 z1 z2 z3 z4 z5 z6 z7 z8 z9 z10 z11 z12,rfl⟩
theorem Bzk(n:Nat)(l:List PV)(h:Hg Tryz.prog n 38 l):∃y:Ab,l=C5 y:=by
 obtain ⟨m,_,h⟩:=Gy Tryz.underlying38 h
 change Sy (Hg Tryz.prog m) [35,9,3,36] l at h
 obtain ⟨a0,b0,rfl,h0,a1,b1,rfl,h1,a2,b2,rfl,h2,a3,b3,rfl,h3,rfl⟩:=h
 obtain ⟨z0,rfl,_⟩:=Gj Tryz.underlying35 h0
 obtain ⟨z1,rfl,_⟩:=K1 Tryz.underlying9 h1
 obtain ⟨z2,rfl,_⟩:=Gj Tryz.underlying3 h2
 obtain ⟨x3,rfl,e3,_,_,_,_⟩:=Ig Tryz.underlying36 h3
 obtain ⟨z3,rfl⟩:=Cfe x3 e3
 exact ⟨.mk z0 z1 z2 z3,rfl⟩
theorem w38(n:Nat):∀l,Hg Tryz.prog n 38 l→l.length=4:=fun l h=>by obtain ⟨y,rfl⟩:=Bzk n l h;rfl
theorem Ckm(n:Nat)(l:List PV)(h:Hg Tryz.prog n 51 l):∃y:Ad,l=Az y:=by
 obtain ⟨m,_,h⟩:=Gy Tryz.underlying51 h
 change Sy (Hg Tryz.prog m) [9,22,48,49] l at h
 obtain ⟨a0,b0,rfl,h0,a1,b1,rfl,h1,a2,b2,rfl,h2,a3,b3,rfl,h3,rfl⟩:=h
 obtain ⟨z0,rfl,_⟩:=K1 Tryz.underlying9 h0
 obtain ⟨x1,rfl,e1,_,_,_,_⟩:=Ig Tryz.underlying22 h1
 obtain ⟨z1,rfl⟩:=Cff x1 e1
 obtain ⟨x2,rfl,e2,_,_,_,_⟩:=Ig Tryz.underlying48 h2
 obtain ⟨z2,rfl⟩:=Ckj x2 e2
 obtain ⟨x3,rfl,e3,_,_,_,_⟩:=Ig Tryz.underlying49 h3
 obtain ⟨z3,rfl⟩:=Cfa x3 e3
 exact ⟨.mk z0 z1 z2 z3,rfl⟩
theorem Ckn(n:Nat)(l:List PV)(h:Hg Tryz.prog n 55 l):∃y:Ao,l=Nm y:=by
 obtain ⟨m,_,h⟩:=Gy Tryz.underlying55 h
 change Sy (Hg Tryz.prog m) [9,41] l at h
 obtain ⟨a0,b0,rfl,h0,a1,b1,rfl,h1,rfl⟩:=h
 obtain ⟨z0,rfl,_⟩:=K1 Tryz.underlying9 h0
 obtain ⟨z1,rfl,_⟩:=Gj Tryz.underlying41 h1
 exact ⟨.mk z0 z1,rfl⟩
theorem Cko(n:Nat)(l:List PV)(h:Hg Tryz.prog n 57 l):∃y:Al,l=Bz y:=by
 obtain ⟨m,_,h⟩:=Gy Tryz.underlying57 h
 change Sy (Hg Tryz.prog m) [9,41,3] l at h
 obtain ⟨a0,b0,rfl,h0,a1,b1,rfl,h1,a2,b2,rfl,h2,rfl⟩:=h
 obtain ⟨z0,rfl,_⟩:=K1 Tryz.underlying9 h0
 obtain ⟨z1,rfl,_⟩:=Gj Tryz.underlying41 h1
 obtain ⟨z2,rfl,_⟩:=Gj Tryz.underlying3 h2
 exact ⟨.mk z0 z1 z2,rfl⟩
theorem Ckp(n:Nat)(l:List PV)(h:Hg Tryz.prog n 60 l):∃y:Ai,l=B3 y:=by
 obtain ⟨m,_,h⟩:=Gy Tryz.underlying60 h
 change Sy (Hg Tryz.prog m) [9,23,23,58] l at h
 obtain ⟨a0,b0,rfl,h0,a1,b1,rfl,h1,a2,b2,rfl,h2,a3,b3,rfl,h3,rfl⟩:=h
 obtain ⟨z0,rfl,_⟩:=K1 Tryz.underlying9 h0
 obtain ⟨x1,rfl,e1,_,_,_,_⟩:=Ig Tryz.underlying23 h1
 obtain ⟨z1,rfl⟩:=B7h x1 e1
 obtain ⟨x2,rfl,e2,_,_,_,_⟩:=Ig Tryz.underlying23 h2
 obtain ⟨z2,rfl⟩:=B7h x2 e2
 obtain ⟨x3,rfl,e3,_,_,_,_⟩:=Ig Tryz.underlying58 h3
 obtain ⟨z3,rfl⟩:=B7i x3 e3
 exact ⟨.mk z0 z1 z2 z3,rfl⟩
theorem Bzl(n:Nat)(l:List PV)(h:Hg Tryz.prog n 67 l):∃y:Bf,l=Tc y:=by
 obtain ⟨m,_,h⟩:=Gy Tryz.underlying67 h
 change Sy (Hg Tryz.prog m) [64,3,3,3,65,65] l at h
 obtain ⟨a0,b0,rfl,h0,a1,b1,rfl,h1,a2,b2,rfl,h2,a3,b3,rfl,h3,a4,b4,rfl,h4,a5,b5,rfl,h5,rfl⟩:=h
 obtain ⟨z0,rfl,_⟩:=Gj Tryz.underlying64 h0
 obtain ⟨z1,rfl,_⟩:=Gj Tryz.underlying3 h1
 obtain ⟨z2,rfl,_⟩:=Gj Tryz.underlying3 h2
 obtain ⟨z3,rfl,_⟩:=Gj Tryz.underlying3 h3
 obtain ⟨x4,rfl,e4,_,_,_,_⟩:=Ig Tryz.underlying65 h4
 obtain ⟨z4,rfl⟩:=lx3 x4 e4
 obtain ⟨x5,rfl,e5,_,_,_,_⟩:=Ig Tryz.underlying65 h5
 obtain ⟨z5,rfl⟩:=lx3 x5 e5
 exact ⟨.mk z0 z1 z2 z3 z4 z5,rfl⟩
theorem w67(n:Nat):∀l,Hg Tryz.prog n 67 l→l.length=6:=fun l h=>by obtain ⟨y,rfl⟩:=Bzl n l h;rfl
theorem Ckq(n:Nat)(l:List PV)(h:Hg Tryz.prog n 69 l):∃y:Ac,l=C7 y:=by
 obtain ⟨m,_,h⟩:=Gy Tryz.underlying69 h
 change Sy (Hg Tryz.prog m) [63,9,9,38,38,36,67,4,58,58] l at h
 obtain ⟨a0,b0,rfl,h0,a1,b1,rfl,h1,a2,b2,rfl,h2,a3,b3,rfl,h3,a4,b4,rfl,h4,a5,b5,rfl,h5,a6,b6,rfl,h6,a7,b7,rfl,h7,a8,b8,rfl,h8,a9,b9,rfl,h9,rfl⟩:=h
 obtain ⟨z0,rfl,_⟩:=Gj Tryz.underlying63 h0
 obtain ⟨z1,rfl,_⟩:=K1 Tryz.underlying9 h1
 obtain ⟨z2,rfl,_⟩:=K1 Tryz.underlying9 h2
 obtain ⟨z3,rfl⟩:=Bzk m _ h3
 obtain ⟨z4,rfl⟩:=Bzk m _ h4
 obtain ⟨x5,rfl,e5,_,_,_,_⟩:=Ig Tryz.underlying36 h5
 obtain ⟨z5,rfl⟩:=Cfe x5 e5
 obtain ⟨z6,rfl⟩:=Bzl m _ h6
 obtain ⟨z7,rfl⟩:=A42 Tryz.underlying4 h7
 obtain ⟨x8,rfl,e8,_,_,_,_⟩:=Ig Tryz.underlying58 h8
 obtain ⟨z8,rfl⟩:=B7i x8 e8
 obtain ⟨x9,rfl,e9,_,_,_,_⟩:=Ig Tryz.underlying58 h9
 obtain ⟨z9,rfl⟩:=B7i x9 e9
 exact ⟨.mk z0 z1 z2 z3 z4 z5 z6 z7 z8 z9,rfl⟩
theorem B1d(n:Nat)(l:List PV)(h:Hg Tryz.prog n 114 l):∃y:F4,l=S2 y:=by
 obtain ⟨m,_,h⟩:=Gy Tryz.underlying114 h
 change Sy (Hg Tryz.prog m) [9,67,67] l at h
 obtain ⟨a0,b0,rfl,h0,a1,b1,rfl,h1,a2,b2,rfl,h2,rfl⟩:=h
 obtain ⟨z0,rfl,_⟩:=K1 Tryz.underlying9 h0
 obtain ⟨z1,rfl⟩:=Bzl m _ h1
 obtain ⟨z2,rfl⟩:=Bzl m _ h2
 exact ⟨.mk z0 z1 z2,rfl⟩
theorem Chz(n:Nat):∀l,Hg Tryz.prog n 114 l→l.length=13:=fun l h=>by obtain ⟨y,rfl⟩:=B1d n l h;rfl
theorem Cfg(n:Nat)(l:List PV)(h:Hg Tryz.prog n 116 l):∃y:Af,l=Bo y:=by
 obtain ⟨m,_,h⟩:=Gy Tryz.underlying116 h
 change Sy (Hg Tryz.prog m) [9,3,112,3,114] l at h
 obtain ⟨a0,b0,rfl,h0,a1,b1,rfl,h1,a2,b2,rfl,h2,a3,b3,rfl,h3,a4,b4,rfl,h4,rfl⟩:=h
 obtain ⟨z0,rfl,_⟩:=K1 Tryz.underlying9 h0
 obtain ⟨z1,rfl,_⟩:=Gj Tryz.underlying3 h1
 obtain ⟨x2,rfl,e2,_,_,_,_⟩:=Ig Tryz.underlying112 h2
 obtain ⟨z2,rfl⟩:=Cfc x2 e2
 obtain ⟨z3,rfl,_⟩:=Gj Tryz.underlying3 h3
 obtain ⟨z4,rfl⟩:=B1d m _ h4
 exact ⟨.mk z0 z1 z2 z3 z4,rfl⟩
theorem Cfh(n:Nat)(l:List PV)(h:Hg Tryz.prog n 123 l):∃y:Ap,l=Cr y:=by
 obtain ⟨m,_,h⟩:=Gy Tryz.underlying123 h
 change Sy (Hg Tryz.prog m) [9,3,121] l at h
 obtain ⟨a0,b0,rfl,h0,a1,b1,rfl,h1,a2,b2,rfl,h2,rfl⟩:=h
 obtain ⟨z0,rfl,_⟩:=K1 Tryz.underlying9 h0
 obtain ⟨z1,rfl,_⟩:=Gj Tryz.underlying3 h1
 obtain ⟨z2,rfl,_⟩:=Gj Tryz.underlying121 h2
 exact ⟨.mk z0 z1 z2,rfl⟩
theorem Cfi(n:Nat)(l:List PV)(h:Hg Tryz.prog n 127 l):∃y:Ar,l=Cy y:=by
 obtain ⟨m,_,h⟩:=Gy Tryz.underlying127 h
 change Sy (Hg Tryz.prog m) [9,3,3] l at h
 obtain ⟨a0,b0,rfl,h0,a1,b1,rfl,h1,a2,b2,rfl,h2,rfl⟩:=h
 obtain ⟨z0,rfl,_⟩:=K1 Tryz.underlying9 h0
 obtain ⟨z1,rfl,_⟩:=Gj Tryz.underlying3 h1
 obtain ⟨z2,rfl,_⟩:=Gj Tryz.underlying3 h2
 exact ⟨.mk z0 z1 z2,rfl⟩
theorem Cfj(n:Nat)(l:List PV)(h:Hg Tryz.prog n 133 l):∃y:Bh,l=Nn y:=by
 obtain ⟨m,_,h⟩:=Gy Tryz.underlying133 h
 change Sy (Hg Tryz.prog m) [9,65,3,3,3] l at h
 obtain ⟨a0,b0,rfl,h0,a1,b1,rfl,h1,a2,b2,rfl,h2,a3,b3,rfl,h3,a4,b4,rfl,h4,rfl⟩:=h
 obtain ⟨z0,rfl,_⟩:=K1 Tryz.underlying9 h0
 obtain ⟨x1,rfl,e1,_,_,_,_⟩:=Ig Tryz.underlying65 h1
 obtain ⟨z1,rfl⟩:=lx3 x1 e1
 obtain ⟨z2,rfl,_⟩:=Gj Tryz.underlying3 h2
 obtain ⟨z3,rfl,_⟩:=Gj Tryz.underlying3 h3
 obtain ⟨z4,rfl,_⟩:=Gj Tryz.underlying3 h4
 exact ⟨.mk z0 z1 z2 z3 z4,rfl⟩
theorem Cfk(n:Nat)(l:List PV)(h:Hg Tryz.prog n 139 l):∃y:Bg,l=I5 y:=by
 obtain ⟨m,_,h⟩:=Gy Tryz.underlying139 h
 change Sy (Hg Tryz.prog m) [9,9,3] l at h
 obtain ⟨a0,b0,rfl,h0,a1,b1,rfl,h1,a2,b2,rfl,h2,rfl⟩:=h
 obtain ⟨z0,rfl,_⟩:=K1 Tryz.underlying9 h0
 obtain ⟨z1,rfl,_⟩:=K1 Tryz.underlying9 h1
 obtain ⟨z2,rfl,_⟩:=Gj Tryz.underlying3 h2
 exact ⟨.mk z0 z1 z2,rfl⟩
theorem Cfl(n:Nat)(l:List PV)(h:Hg Tryz.prog n 151 l):∃y:Ax,l=C6 y:=by
 obtain ⟨m,_,h⟩:=Gy Tryz.underlying151 h
 change Sy (Hg Tryz.prog m) [9,149,3] l at h
 obtain ⟨a0,b0,rfl,h0,a1,b1,rfl,h1,a2,b2,rfl,h2,rfl⟩:=h
 obtain ⟨z0,rfl,_⟩:=K1 Tryz.underlying9 h0
 obtain ⟨x1,rfl,e1,_,_,_,_⟩:=Ig Tryz.underlying149 h1
 obtain ⟨z1,rfl⟩:=Cfd x1 e1
 obtain ⟨z2,rfl,_⟩:=Gj Tryz.underlying3 h2
 exact ⟨.mk z0 z1 z2,rfl⟩
theorem Cfm(n:Nat)(l:List PV)(h:Hg Tryz.prog n 178 l):∃y:Cu,l=w8 y:=by
 obtain ⟨m,_,h⟩:=Gy Tryz.underlying178 h
 change Sy (Hg Tryz.prog m) [3,3] l at h
 obtain ⟨a0,b0,rfl,h0,a1,b1,rfl,h1,rfl⟩:=h
 obtain ⟨z0,rfl,_⟩:=Gj Tryz.underlying3 h0
 obtain ⟨z1,rfl,_⟩:=Gj Tryz.underlying3 h1
 exact ⟨.mk z0 z1,rfl⟩
theorem Cfn(n:Nat)(l:List PV)(h:Hg Tryz.prog n 186 l):∃y:Au,l=D3 y:=by
 obtain ⟨m,_,h⟩:=Gy Tryz.underlying186 h
 change Sy (Hg Tryz.prog m) [3,9,9] l at h
 obtain ⟨a0,b0,rfl,h0,a1,b1,rfl,h1,a2,b2,rfl,h2,rfl⟩:=h
 obtain ⟨z0,rfl,_⟩:=Gj Tryz.underlying3 h0
 obtain ⟨z1,rfl,_⟩:=K1 Tryz.underlying9 h1
 obtain ⟨z2,rfl,_⟩:=K1 Tryz.underlying9 h2
 exact ⟨.mk z0 z1 z2,rfl⟩
theorem Cku(n:Nat)(y:Al)(h:Hg Tryz.prog n 57 (Bz y)):Ng y:=by
 obtain ⟨m,_,h⟩:=Gy Tryz.underlying57 h
 change Sy (Hg Tryz.prog m) [9,41,3] (Bz y) at h
 obtain ⟨g0,h⟩:=Ba (Kr Tryz.underlying9 m) h
 obtain ⟨g1,h⟩:=Ba (Gh Tryz.underlying41 m) h
 obtain ⟨g2,h⟩:=Ba (Gh Tryz.underlying3 m) h
 exact ⟨Ti Tryz.underlying9 g0,Mq Tryz.underlying41 g1,Mq Tryz.underlying3 g2⟩
theorem B1g(n:Nat)(x:(List Al))(h:Hg Tryz.prog n 22 [.lst false (.t57 x)]):(x.length≤maxLen∧∀y∈x,Ng y):=by
 obtain ⟨h1,m,_,h2⟩:=Aav Tryz.underlying22 h
 exact ⟨h1,fun y hy=>Cku _ _ (I4 (row:=Azq) h2 y hy)⟩
theorem Ckt(n:Nat)(y:Ao)(h:Hg Tryz.prog n 55 (Nm y)):Nf y:=by
 obtain ⟨m,_,h⟩:=Gy Tryz.underlying55 h
 change Sy (Hg Tryz.prog m) [9,41] (Nm y) at h
 obtain ⟨g0,h⟩:=Ba (Kr Tryz.underlying9 m) h
 obtain ⟨g1,h⟩:=Ba (Gh Tryz.underlying41 m) h
 exact ⟨Ti Tryz.underlying9 g0,Mq Tryz.underlying41 g1⟩
theorem B1h(n:Nat)(x:(List Ao))(h:Hg Tryz.prog n 23 [.lst false (.t55 x)]):(x.length≤maxLen∧∀y∈x,Nf y):=by
 obtain ⟨h1,m,_,h2⟩:=Aav Tryz.underlying23 h
 exact ⟨h1,fun y hy=>Ckt _ _ (I4 (row:=Azp) h2 y hy)⟩
theorem Cfz(n:Nat)(y:Cu)(h:Hg Tryz.prog n 178 (w8 y)):Akd y:=by
 obtain ⟨m,_,h⟩:=Gy Tryz.underlying178 h
 change Sy (Hg Tryz.prog m) [3,3] (w8 y) at h
 obtain ⟨g0,h⟩:=Ba (Gh Tryz.underlying3 m) h
 obtain ⟨g1,h⟩:=Ba (Gh Tryz.underlying3 m) h
 exact ⟨Mq Tryz.underlying3 g0,Mq Tryz.underlying3 g1⟩
theorem B7n(n:Nat)(x:(List Cu))(h:Hg Tryz.prog n 112 [.lst false (.t178 x)]):(x.length≤maxLen∧∀y∈x,Akd y):=by
 obtain ⟨h1,m,_,h2⟩:=Aav Tryz.underlying112 h
 exact ⟨h1,fun y hy=>Cfz _ _ (I4 (row:=Ard) h2 y hy)⟩
theorem Bsr(n:Nat)(x:(List Int))(h:Hg Tryz.prog n 65 [.lst false (.t3 x)]):(x.length≤maxLen∧∀y∈x,okI .i64 y):=by
 obtain ⟨h1,m,_,h2⟩:=Aav Tryz.underlying65 h
 exact ⟨h1,fun y hy=>Mq Tryz.underlying3 (I4 (row:=Bfb) h2 y hy)⟩
theorem B7l(n:Nat)(y:Bf)(h:Hg Tryz.prog n 67 (Tc y)):Afo y:=by
 obtain ⟨m,_,h⟩:=Gy Tryz.underlying67 h
 change Sy (Hg Tryz.prog m) [64,3,3,3,65,65] (Tc y) at h
 obtain ⟨g0,h⟩:=Ba (Gh Tryz.underlying64 m) h
 obtain ⟨g1,h⟩:=Ba (Gh Tryz.underlying3 m) h
 obtain ⟨g2,h⟩:=Ba (Gh Tryz.underlying3 m) h
 obtain ⟨g3,h⟩:=Ba (Gh Tryz.underlying3 m) h
 obtain ⟨g4,h⟩:=Ba (K4 Tryz.underlying65 m) h
 obtain ⟨g5,h⟩:=Ba (K4 Tryz.underlying65 m) h
 exact ⟨Mq Tryz.underlying64 g0,Mq Tryz.underlying3 g1,Mq Tryz.underlying3 g2,Mq Tryz.underlying3 g3,Bsr m _ g4,Bsr m _ g5⟩
theorem Cfs(n:Nat)(y:F4)(h:Hg Tryz.prog n 114 (S2 y)):Aui y:=by
 obtain ⟨m,_,h⟩:=Gy Tryz.underlying114 h
 change Sy (Hg Tryz.prog m) [9,67,67] (S2 y) at h
 obtain ⟨g0,h⟩:=Ba (Kr Tryz.underlying9 m) h
 obtain ⟨g1,h⟩:=Ba (w67 m) h
 obtain ⟨g2,h⟩:=Ba (w67 m) h
 exact ⟨Ti Tryz.underlying9 g0,B7l m _ g1,B7l m _ g2⟩
theorem Cft(n:Nat)(y:Af)(h:Hg Tryz.prog n 116 (Bo y)):Rr y:=by
 obtain ⟨m,_,h⟩:=Gy Tryz.underlying116 h
 change Sy (Hg Tryz.prog m) [9,3,112,3,114] (Bo y) at h
 obtain ⟨g0,h⟩:=Ba (Kr Tryz.underlying9 m) h
 obtain ⟨g1,h⟩:=Ba (Gh Tryz.underlying3 m) h
 obtain ⟨g2,h⟩:=Ba (K4 Tryz.underlying112 m) h
 obtain ⟨g3,h⟩:=Ba (Gh Tryz.underlying3 m) h
 obtain ⟨g4,h⟩:=Ba (Chz m) h
 exact ⟨Ti Tryz.underlying9 g0,Mq Tryz.underlying3 g1,B7n m _ g2,Mq Tryz.underlying3 g3,Cfs m _ g4⟩
theorem Cf3(n:Nat)(x:(List Af))(h:Hg Tryz.prog n 24 [.lst false (.t116 x)]):(x.length≤maxLen∧∀y∈x,Rr y):=by
 obtain ⟨h1,m,_,h2⟩:=Aav Tryz.underlying24 h
 exact ⟨h1,fun y hy=>Cft _ _ (I4 (row:=Aq7) h2 y hy)⟩
theorem Cfu(n:Nat)(y:Ap)(h:Hg Tryz.prog n 123 (Cr y)):Rx y:=by
 obtain ⟨m,_,h⟩:=Gy Tryz.underlying123 h
 change Sy (Hg Tryz.prog m) [9,3,121] (Cr y) at h
 obtain ⟨g0,h⟩:=Ba (Kr Tryz.underlying9 m) h
 obtain ⟨g1,h⟩:=Ba (Gh Tryz.underlying3 m) h
 obtain ⟨g2,h⟩:=Ba (Gh Tryz.underlying121 m) h
 exact ⟨Ti Tryz.underlying9 g0,Mq Tryz.underlying3 g1,Mq Tryz.underlying121 g2⟩
theorem Cf4(n:Nat)(x:(List Ap))(h:Hg Tryz.prog n 25 [.lst false (.t123 x)]):(x.length≤maxLen∧∀y∈x,Rx y):=by
 obtain ⟨h1,m,_,h2⟩:=Aav Tryz.underlying25 h
 exact ⟨h1,fun y hy=>Cfu _ _ (I4 (row:=Aq8) h2 y hy)⟩
theorem Cfv(n:Nat)(y:Ar)(h:Hg Tryz.prog n 127 (Cy y)):Tt y:=by
 obtain ⟨m,_,h⟩:=Gy Tryz.underlying127 h
 change Sy (Hg Tryz.prog m) [9,3,3] (Cy y) at h
 obtain ⟨g0,h⟩:=Ba (Kr Tryz.underlying9 m) h
 obtain ⟨g1,h⟩:=Ba (Gh Tryz.underlying3 m) h
 obtain ⟨g2,h⟩:=Ba (Gh Tryz.underlying3 m) h
 exact ⟨Ti Tryz.underlying9 g0,Mq Tryz.underlying3 g1,Mq Tryz.underlying3 g2⟩
theorem Cf5(n:Nat)(x:(List Ar))(h:Hg Tryz.prog n 26 [.lst false (.t127 x)]):(x.length≤maxLen∧∀y∈x,Tt y):=by
 obtain ⟨h1,m,_,h2⟩:=Aav Tryz.underlying26 h
 exact ⟨h1,fun y hy=>Cfv _ _ (I4 (row:=Aq9) h2 y hy)⟩
theorem Bew(n:Nat)(x:(List ByteArray))(h:Hg Tryz.prog n 27 [.lst false (.t9 x)]):(x.length≤maxLen∧∀y∈x,okS y):=by
 obtain ⟨h1,m,_,h2⟩:=Aav Tryz.underlying27 h
 exact ⟨h1,fun y hy=>Ti Tryz.underlying9 (I4 (row:=Bfc) h2 y hy)⟩
theorem Cf1:∀n,(∀y:Ab,Hg Tryz.prog n 38 (C5 y)→Bv y):=by
 intro n
 induction n using Nat.strongRecOn with
 |_ n ih=>
 refine ?_
 ·intro y h
  obtain ⟨m,hm,h⟩:=Gy Tryz.underlying38 h
  change Sy (Hg Tryz.prog m) [35,9,3,36] (C5 y) at h
  cases y with
  |mk a0 a1 a2 a3=>
  obtain ⟨g0,h⟩:=Ba (Gh Tryz.underlying35 m) h
  obtain ⟨g1,h⟩:=Ba (Kr Tryz.underlying9 m) h
  obtain ⟨g2,h⟩:=Ba (Gh Tryz.underlying3 m) h
  obtain ⟨g3,h⟩:=Ba (K4 Tryz.underlying36 m) h
  have q3:(a3.length≤maxLen∧∀y∈a3,Bv y):=by
   obtain ⟨h1,m2,hm2,h2⟩:=Aav Tryz.underlying36 g3
   exact ⟨h1,fun y hy=>(ih m2 (by omega)) y (I4 (row:=Asv) h2 y hy)⟩
  exact .mk _ _ _ _ (Mq Tryz.underlying35 g0) (Ti Tryz.underlying9 g1) (Mq Tryz.underlying3 g2) q3.1 q3.2
theorem B7k(n:Nat)(y:Ab)(h:Hg Tryz.prog n 38 (C5 y)):Bv y:=(Cf1 n) y h
theorem B1i(n:Nat)(x:(List Ab))(h:Hg Tryz.prog n 36 [.lst false (.t38 x)]):(x.length≤maxLen∧∀y∈x,Bv y):=by
 obtain ⟨h1,m,_,h2⟩:=Aav Tryz.underlying36 h
 exact ⟨h1,fun y hy=>B7k _ _ (I4 (row:=Asv) h2 y hy)⟩
theorem Cf2:∀n,(∀y:Ac,Hg Tryz.prog n 69 (C7 y)→B4 y):=by
 intro n
 induction n using Nat.strongRecOn with
 |_ n ih=>
 refine ?_
 ·intro y h
  obtain ⟨m,hm,h⟩:=Gy Tryz.underlying69 h
  change Sy (Hg Tryz.prog m) [63,9,9,38,38,36,67,4,58,58] (C7 y) at h
  cases y with
  |mk a0 a1 a2 a3 a4 a5 a6 a7 a8 a9=>
  obtain ⟨g0,h⟩:=Ba (Gh Tryz.underlying63 m) h
  obtain ⟨g1,h⟩:=Ba (Kr Tryz.underlying9 m) h
  obtain ⟨g2,h⟩:=Ba (Kr Tryz.underlying9 m) h
  obtain ⟨g3,h⟩:=Ba (w38 m) h
  obtain ⟨g4,h⟩:=Ba (w38 m) h
  obtain ⟨g5,h⟩:=Ba (K4 Tryz.underlying36 m) h
  obtain ⟨g6,h⟩:=Ba (w67 m) h
  obtain ⟨g7,h⟩:=Ba (Bun Tryz.underlying4 m) h
  obtain ⟨g8,h⟩:=Ba (K4 Tryz.underlying58 m) h
  obtain ⟨g9,h⟩:=Ba (K4 Tryz.underlying58 m) h
  have q8:(a8.length≤maxLen∧∀y∈a8,B4 y):=by
   obtain ⟨h1,m2,hm2,h2⟩:=Aav Tryz.underlying58 g8
   exact ⟨h1,fun y hy=>(ih m2 (by omega)) y (I4 (row:=Aov) h2 y hy)⟩
  have q9:(a9.length≤maxLen∧∀y∈a9,B4 y):=by
   obtain ⟨h1,m2,hm2,h2⟩:=Aav Tryz.underlying58 g9
   exact ⟨h1,fun y hy=>(ih m2 (by omega)) y (I4 (row:=Aov) h2 y hy)⟩
  exact .mk _ _ _ _ _ _ _ _ _ _ (Mq Tryz.underlying63 g0) (Ti Tryz.underlying9 g1) (Ti Tryz.underlying9 g2) (B7k m _ g3) (B7k m _ g4) (B1i m _ g5).1 (B1i m _ g5).2 (B7l m _ g6) (trivial) q8.1 q8.2 q9.1 q9.2
theorem Ckw(n:Nat)(y:Ac)(h:Hg Tryz.prog n 69 (C7 y)):B4 y:=(Cf2 n) y h
theorem Cgb(n:Nat)(x:(List Ac))(h:Hg Tryz.prog n 58 [.lst false (.t69 x)]):(x.length≤maxLen∧∀y∈x,B4 y):=by
 obtain ⟨h1,m,_,h2⟩:=Aav Tryz.underlying58 h
 exact ⟨h1,fun y hy=>Ckw _ _ (I4 (row:=Aov) h2 y hy)⟩
theorem Ckv(n:Nat)(y:Ai)(h:Hg Tryz.prog n 60 (B3 y)):Gm y:=by
 obtain ⟨m,_,h⟩:=Gy Tryz.underlying60 h
 change Sy (Hg Tryz.prog m) [9,23,23,58] (B3 y) at h
 obtain ⟨g0,h⟩:=Ba (Kr Tryz.underlying9 m) h
 obtain ⟨g1,h⟩:=Ba (K4 Tryz.underlying23 m) h
 obtain ⟨g2,h⟩:=Ba (K4 Tryz.underlying23 m) h
 obtain ⟨g3,h⟩:=Ba (K4 Tryz.underlying58 m) h
 exact ⟨Ti Tryz.underlying9 g0,B1h m _ g1,B1h m _ g2,Cgb m _ g3⟩
theorem Cf6(n:Nat)(x:(List Ai))(h:Hg Tryz.prog n 28 [.lst false (.t60 x)]):(x.length≤maxLen∧∀y∈x,Gm y):=by
 obtain ⟨h1,m,_,h2⟩:=Aav Tryz.underlying28 h
 exact ⟨h1,fun y hy=>Ckv _ _ (I4 (row:=Azr) h2 y hy)⟩
theorem Cfw(n:Nat)(y:Bh)(h:Hg Tryz.prog n 133 (Nn y)):Ahb y:=by
 obtain ⟨m,_,h⟩:=Gy Tryz.underlying133 h
 change Sy (Hg Tryz.prog m) [9,65,3,3,3] (Nn y) at h
 obtain ⟨g0,h⟩:=Ba (Kr Tryz.underlying9 m) h
 obtain ⟨g1,h⟩:=Ba (K4 Tryz.underlying65 m) h
 obtain ⟨g2,h⟩:=Ba (Gh Tryz.underlying3 m) h
 obtain ⟨g3,h⟩:=Ba (Gh Tryz.underlying3 m) h
 obtain ⟨g4,h⟩:=Ba (Gh Tryz.underlying3 m) h
 exact ⟨Ti Tryz.underlying9 g0,Bsr m _ g1,Mq Tryz.underlying3 g2,Mq Tryz.underlying3 g3,Mq Tryz.underlying3 g4⟩
theorem Cf7(n:Nat)(x:(List Bh))(h:Hg Tryz.prog n 29 [.lst false (.t133 x)]):(x.length≤maxLen∧∀y∈x,Ahb y):=by
 obtain ⟨h1,m,_,h2⟩:=Aav Tryz.underlying29 h
 exact ⟨h1,fun y hy=>Cfw _ _ (I4 (row:=Ara) h2 y hy)⟩
theorem Cf0(n:Nat)(y:Au)(h:Hg Tryz.prog n 186 (D3 y)):Apf y:=by
 obtain ⟨m,_,h⟩:=Gy Tryz.underlying186 h
 change Sy (Hg Tryz.prog m) [3,9,9] (D3 y) at h
 obtain ⟨g0,h⟩:=Ba (Gh Tryz.underlying3 m) h
 obtain ⟨g1,h⟩:=Ba (Kr Tryz.underlying9 m) h
 obtain ⟨g2,h⟩:=Ba (Kr Tryz.underlying9 m) h
 exact ⟨Mq Tryz.underlying3 g0,Ti Tryz.underlying9 g1,Ti Tryz.underlying9 g2⟩
theorem B7o(n:Nat)(x:(List Au))(h:Hg Tryz.prog n 149 [.lst false (.t186 x)]):(x.length≤maxLen∧∀y∈x,Apf y):=by
 obtain ⟨h1,m,_,h2⟩:=Aav Tryz.underlying149 h
 exact ⟨h1,fun y hy=>Cf0 _ _ (I4 (row:=Are) h2 y hy)⟩
theorem Cfy(n:Nat)(y:Ax)(h:Hg Tryz.prog n 151 (C6 y)):Acm y:=by
 obtain ⟨m,_,h⟩:=Gy Tryz.underlying151 h
 change Sy (Hg Tryz.prog m) [9,149,3] (C6 y) at h
 obtain ⟨g0,h⟩:=Ba (Kr Tryz.underlying9 m) h
 obtain ⟨g1,h⟩:=Ba (K4 Tryz.underlying149 m) h
 obtain ⟨g2,h⟩:=Ba (Gh Tryz.underlying3 m) h
 exact ⟨Ti Tryz.underlying9 g0,B7o m _ g1,Mq Tryz.underlying3 g2⟩
theorem Cf8(n:Nat)(x:(List Ax))(h:Hg Tryz.prog n 30 [.lst false (.t151 x)]):(x.length≤maxLen∧∀y∈x,Acm y):=by
 obtain ⟨h1,m,_,h2⟩:=Aav Tryz.underlying30 h
 exact ⟨h1,fun y hy=>Cfy _ _ (I4 (row:=Arc) h2 y hy)⟩
theorem Ckr(n:Nat)(y:Aa)(h:Hg Tryz.prog n 32 (Ae y)):B7 y:=by
 obtain ⟨m,_,h⟩:=Gy Tryz.underlying32 h
 change Sy (Hg Tryz.prog m) [9,22,24,25,26,27,27,27,27,27,28,29,30] (Ae y) at h
 obtain ⟨g0,h⟩:=Ba (Kr Tryz.underlying9 m) h
 obtain ⟨g1,h⟩:=Ba (K4 Tryz.underlying22 m) h
 obtain ⟨g2,h⟩:=Ba (K4 Tryz.underlying24 m) h
 obtain ⟨g3,h⟩:=Ba (K4 Tryz.underlying25 m) h
 obtain ⟨g4,h⟩:=Ba (K4 Tryz.underlying26 m) h
 obtain ⟨g5,h⟩:=Ba (K4 Tryz.underlying27 m) h
 obtain ⟨g6,h⟩:=Ba (K4 Tryz.underlying27 m) h
 obtain ⟨g7,h⟩:=Ba (K4 Tryz.underlying27 m) h
 obtain ⟨g8,h⟩:=Ba (K4 Tryz.underlying27 m) h
 obtain ⟨g9,h⟩:=Ba (K4 Tryz.underlying27 m) h
 obtain ⟨g10,h⟩:=Ba (K4 Tryz.underlying28 m) h
 obtain ⟨g11,h⟩:=Ba (K4 Tryz.underlying29 m) h
 obtain ⟨g12,h⟩:=Ba (K4 Tryz.underlying30 m) h
 exact ⟨Ti Tryz.underlying9 g0,B1g m _ g1,Cf3 m _ g2,Cf4 m _ g3,Cf5 m _ g4,Bew m _ g5,Bew m _ g6,Bew m _ g7,Bew m _ g8,Bew m _ g9,Cf6 m _ g10,Cf7 m _ g11,Cf8 m _ g12⟩
theorem Cf9(n:Nat)(x:(List Aa))(h:Hg Tryz.prog n 48 [.lst false (.t32 x)]):(x.length≤maxLen∧∀y∈x,B7 y):=by
 obtain ⟨h1,m,_,h2⟩:=Aav Tryz.underlying48 h
 exact ⟨h1,fun y hy=>Ckr _ _ (I4 (row:=Azo) h2 y hy)⟩
theorem Cfx(n:Nat)(y:Bg)(h:Hg Tryz.prog n 139 (I5 y)):Ape y:=by
 obtain ⟨m,_,h⟩:=Gy Tryz.underlying139 h
 change Sy (Hg Tryz.prog m) [9,9,3] (I5 y) at h
 obtain ⟨g0,h⟩:=Ba (Kr Tryz.underlying9 m) h
 obtain ⟨g1,h⟩:=Ba (Kr Tryz.underlying9 m) h
 obtain ⟨g2,h⟩:=Ba (Gh Tryz.underlying3 m) h
 exact ⟨Ti Tryz.underlying9 g0,Ti Tryz.underlying9 g1,Mq Tryz.underlying3 g2⟩
theorem Cga(n:Nat)(x:(List Bg))(h:Hg Tryz.prog n 49 [.lst false (.t139 x)]):(x.length≤maxLen∧∀y∈x,Ape y):=by
 obtain ⟨h1,m,_,h2⟩:=Aav Tryz.underlying49 h
 exact ⟨h1,fun y hy=>Cfx _ _ (I4 (row:=Arb) h2 y hy)⟩
theorem Cks(n:Nat)(y:Ad)(h:Hg Tryz.prog n 51 (Az y)):S9 y:=by
 obtain ⟨m,_,h⟩:=Gy Tryz.underlying51 h
 change Sy (Hg Tryz.prog m) [9,22,48,49] (Az y) at h
 obtain ⟨g0,h⟩:=Ba (Kr Tryz.underlying9 m) h
 obtain ⟨g1,h⟩:=Ba (K4 Tryz.underlying22 m) h
 obtain ⟨g2,h⟩:=Ba (K4 Tryz.underlying48 m) h
 obtain ⟨g3,h⟩:=Ba (K4 Tryz.underlying49 m) h
 exact ⟨Ti Tryz.underlying9 g0,B1g m _ g1,Cf9 m _ g2,Cga m _ g3⟩
theorem Chs(n m:Nat)(f:Nat→List PV)(hf:∀i,i < m→Hg Tryz.prog n 3 (f i)):∃x:LX,x.e=3∧x.len=m∧x.sz= Tryz.prog.cellsOf 3∧∀i,i < m→x.row i=f i:=by
 obtain ⟨l,h1,h2⟩:=Lx Bfb m f (fun i hi=>let ⟨z,h,_⟩:=Gj Tryz.underlying3 (hf i hi);⟨z,h⟩)
 exact ⟨.t3 l,rfl,h1,by kernel_rfl,h2⟩
theorem Cht(n m:Nat)(f:Nat→List PV)(hf:∀i,i < m→Hg Tryz.prog n 4 (f i)):∃x:LX,x.e=4∧x.len=m∧x.sz= Tryz.prog.cellsOf 4∧∀i,i < m→x.row i=f i:=by
 obtain ⟨l,h1,h2⟩:=Lx Bob m f (fun i hi=>let ⟨z,h⟩:=A42 Tryz.underlying4 (hf i hi);⟨z,h⟩)
 exact ⟨.t4 l,rfl,h1,by kernel_rfl,h2⟩
theorem Chu(n m:Nat)(f:Nat→List PV)(hf:∀i,i < m→Hg Tryz.prog n 9 (f i)):∃x:LX,x.e=9∧x.len=m∧x.sz= Tryz.prog.cellsOf 9∧∀i,i < m→x.row i=f i:=by
 obtain ⟨l,h1,h2⟩:=Lx Bfc m f (fun i hi=>let ⟨z,h,_⟩:=K1 Tryz.underlying9 (hf i hi);⟨z,h⟩)
 exact ⟨.t9 l,rfl,h1,by kernel_rfl,h2⟩
theorem B90(n m:Nat)(f:Nat→List PV)(hf:∀i,i < m→Hg Tryz.prog n 23 (f i)):∃x:LX,x.e=23∧x.len=m∧x.sz= Tryz.prog.cellsOf 23∧∀i,i < m→x.row i=f i:=by
 obtain ⟨l,h1,h2⟩:=Lx A79 m f (fun i hi=>by
  obtain ⟨x,h,he,_⟩:=Ig Tryz.underlying23 (hf i hi)
  obtain ⟨z,rfl⟩:=B7h x he
  exact ⟨z,h⟩)
 exact ⟨.t23 l,rfl,h1,by kernel_rfl,h2⟩
theorem B91(n m:Nat)(f:Nat→List PV)(hf:∀i,i < m→Hg Tryz.prog n 27 (f i)):∃x:LX,x.e=27∧x.len=m∧x.sz= Tryz.prog.cellsOf 27∧∀i,i < m→x.row i=f i:=by
 obtain ⟨l,h1,h2⟩:=Lx A8a m f (fun i hi=>by
  obtain ⟨x,h,he,_⟩:=Ig Tryz.underlying27 (hf i hi)
  obtain ⟨z,rfl⟩:=lx9 x he
  exact ⟨z,h⟩)
 exact ⟨.t27 l,rfl,h1,by kernel_rfl,h2⟩
theorem B92(n m:Nat)(f:Nat→List PV)(hf:∀i,i < m→Hg Tryz.prog n 32 (f i)):∃x:LX,x.e=32∧x.len=m∧x.sz= Tryz.prog.cellsOf 32∧∀i,i < m→x.row i=f i:=by
 obtain ⟨l,h1,h2⟩:=Lx Azo m f (fun i hi=>Ckl n _ (hf i hi))
 exact ⟨.t32 l,rfl,h1,by kernel_rfl,h2⟩
theorem B93(n m:Nat)(f:Nat→List PV)(hf:∀i,i < m→Hg Tryz.prog n 38 (f i)):∃x:LX,x.e=38∧x.len=m∧x.sz= Tryz.prog.cellsOf 38∧∀i,i < m→x.row i=f i:=by
 obtain ⟨l,h1,h2⟩:=Lx Asv m f (fun i hi=>Bzk n _ (hf i hi))
 exact ⟨.t38 l,rfl,h1,by kernel_rfl,h2⟩
theorem B94(n m:Nat)(f:Nat→List PV)(hf:∀i,i < m→Hg Tryz.prog n 41 (f i)):∃x:LX,x.e=41∧x.len=m∧x.sz= Tryz.prog.cellsOf 41∧∀i,i < m→x.row i=f i:=by
 obtain ⟨l,h1,h2⟩:=Lx A8b m f (fun i hi=>let ⟨z,h,_⟩:=Gj Tryz.underlying41 (hf i hi);⟨z,h⟩)
 exact ⟨.t41 l,rfl,h1,by kernel_rfl,h2⟩
theorem B95(n m:Nat)(f:Nat→List PV)(hf:∀i,i < m→Hg Tryz.prog n 55 (f i)):∃x:LX,x.e=55∧x.len=m∧x.sz= Tryz.prog.cellsOf 55∧∀i,i < m→x.row i=f i:=by
 obtain ⟨l,h1,h2⟩:=Lx Azp m f (fun i hi=>Ckn n _ (hf i hi))
 exact ⟨.t55 l,rfl,h1,by kernel_rfl,h2⟩
theorem B96(n m:Nat)(f:Nat→List PV)(hf:∀i,i < m→Hg Tryz.prog n 57 (f i)):∃x:LX,x.e=57∧x.len=m∧x.sz= Tryz.prog.cellsOf 57∧∀i,i < m→x.row i=f i:=by
 obtain ⟨l,h1,h2⟩:=Lx Azq m f (fun i hi=>Cko n _ (hf i hi))
 exact ⟨.t57 l,rfl,h1,by kernel_rfl,h2⟩
theorem B97(n m:Nat)(f:Nat→List PV)(hf:∀i,i < m→Hg Tryz.prog n 60 (f i)):∃x:LX,x.e=60∧x.len=m∧x.sz= Tryz.prog.cellsOf 60∧∀i,i < m→x.row i=f i:=by
 obtain ⟨l,h1,h2⟩:=Lx Azr m f (fun i hi=>Ckp n _ (hf i hi))
 exact ⟨.t60 l,rfl,h1,by kernel_rfl,h2⟩
theorem B98(n m:Nat)(f:Nat→List PV)(hf:∀i,i < m→Hg Tryz.prog n 69 (f i)):∃x:LX,x.e=69∧x.len=m∧x.sz= Tryz.prog.cellsOf 69∧∀i,i < m→x.row i=f i:=by
 obtain ⟨l,h1,h2⟩:=Lx Aov m f (fun i hi=>Ckq n _ (hf i hi))
 exact ⟨.t69 l,rfl,h1,by kernel_rfl,h2⟩
theorem B0b(n m:Nat)(f:Nat→List PV)(hf:∀i,i < m→Hg Tryz.prog n 116 (f i)):∃x:LX,x.e=116∧x.len=m∧x.sz= Tryz.prog.cellsOf 116∧∀i,i < m→x.row i=f i:=by
 obtain ⟨l,h1,h2⟩:=Lx Aq7 m f (fun i hi=>Cfg n _ (hf i hi))
 exact ⟨.t116 l,rfl,h1,by kernel_rfl,h2⟩
theorem B0c(n m:Nat)(f:Nat→List PV)(hf:∀i,i < m→Hg Tryz.prog n 123 (f i)):∃x:LX,x.e=123∧x.len=m∧x.sz= Tryz.prog.cellsOf 123∧∀i,i < m→x.row i=f i:=by
 obtain ⟨l,h1,h2⟩:=Lx Aq8 m f (fun i hi=>Cfh n _ (hf i hi))
 exact ⟨.t123 l,rfl,h1,by kernel_rfl,h2⟩
theorem B0d(n m:Nat)(f:Nat→List PV)(hf:∀i,i < m→Hg Tryz.prog n 127 (f i)):∃x:LX,x.e=127∧x.len=m∧x.sz= Tryz.prog.cellsOf 127∧∀i,i < m→x.row i=f i:=by
 obtain ⟨l,h1,h2⟩:=Lx Aq9 m f (fun i hi=>Cfi n _ (hf i hi))
 exact ⟨.t127 l,rfl,h1,by kernel_rfl,h2⟩
theorem B0e(n m:Nat)(f:Nat→List PV)(hf:∀i,i < m→Hg Tryz.prog n 133 (f i)):∃x:LX,x.e=133∧x.len=m∧x.sz= Tryz.prog.cellsOf 133∧∀i,i < m→x.row i=f i:=by
 obtain ⟨l,h1,h2⟩:=Lx Ara m f (fun i hi=>Cfj n _ (hf i hi))
 exact ⟨.t133 l,rfl,h1,by kernel_rfl,h2⟩
theorem B0f(n m:Nat)(f:Nat→List PV)(hf:∀i,i < m→Hg Tryz.prog n 139 (f i)):∃x:LX,x.e=139∧x.len=m∧x.sz= Tryz.prog.cellsOf 139∧∀i,i < m→x.row i=f i:=by
 obtain ⟨l,h1,h2⟩:=Lx Arb m f (fun i hi=>Cfk n _ (hf i hi))
 exact ⟨.t139 l,rfl,h1,by kernel_rfl,h2⟩
theorem B0g(n m:Nat)(f:Nat→List PV)(hf:∀i,i < m→Hg Tryz.prog n 151 (f i)):∃x:LX,x.e=151∧x.len=m∧x.sz= Tryz.prog.cellsOf 151∧∀i,i < m→x.row i=f i:=by
 obtain ⟨l,h1,h2⟩:=Lx Arc m f (fun i hi=>Cfl n _ (hf i hi))
 exact ⟨.t151 l,rfl,h1,by kernel_rfl,h2⟩
theorem B0h(n m:Nat)(f:Nat→List PV)(hf:∀i,i < m→Hg Tryz.prog n 178 (f i)):∃x:LX,x.e=178∧x.len=m∧x.sz= Tryz.prog.cellsOf 178∧∀i,i < m→x.row i=f i:=by
 obtain ⟨l,h1,h2⟩:=Lx Ard m f (fun i hi=>Cfm n _ (hf i hi))
 exact ⟨.t178 l,rfl,h1,by kernel_rfl,h2⟩
theorem B0i(n m:Nat)(f:Nat→List PV)(hf:∀i,i < m→Hg Tryz.prog n 186 (f i)):∃x:LX,x.e=186∧x.len=m∧x.sz= Tryz.prog.cellsOf 186∧∀i,i < m→x.row i=f i:=by
 obtain ⟨l,h1,h2⟩:=Lx Are m f (fun i hi=>Cfn n _ (hf i hi))
 exact ⟨.t186 l,rfl,h1,by kernel_rfl,h2⟩
def rdL:List Nat:= [3,4,9,22,23,24,25,26,27,28,29,30,32,33,35,36,38,41,48,49,51,55,57,58,60,63,64,65,67,69,112,114,116,121,123,127,133,139,149,151,178,186]
theorem Ck3:A2d Tryz.prog rdL:=by
 intro e n m f he hs hf
 simp only [rdL,List.mem_cons,List.not_mem_nil,or_false] at he
 rcases he with rfl|rfl|rfl|rfl|rfl|rfl|rfl|rfl|rfl|rfl|rfl|rfl|rfl|rfl|rfl|rfl|rfl|rfl|rfl|rfl|rfl|rfl|rfl|rfl|rfl|rfl|rfl|rfl|rfl|rfl|rfl|rfl|rfl|rfl|rfl|rfl|rfl|rfl|rfl|rfl|rfl|rfl
 ·exact Chs n m f hf
 ·exact Cht n m f hf
 ·exact Chu n m f hf
 ·exact nomatch hs
 ·exact B90 n m f hf
 ·exact nomatch hs
 ·exact nomatch hs
 ·exact nomatch hs
 ·exact B91 n m f hf
 ·exact nomatch hs
 ·exact nomatch hs
 ·exact nomatch hs
 ·exact B92 n m f hf
 ·exact nomatch hs
 ·exact nomatch hs
 ·exact nomatch hs
 ·exact B93 n m f hf
 ·exact B94 n m f hf
 ·exact nomatch hs
 ·exact nomatch hs
 ·exact nomatch hs
 ·exact B95 n m f hf
 ·exact B96 n m f hf
 ·exact nomatch hs
 ·exact B97 n m f hf
 ·exact nomatch hs
 ·exact nomatch hs
 ·exact nomatch hs
 ·exact nomatch hs
 ·exact B98 n m f hf
 ·exact nomatch hs
 ·exact nomatch hs
 ·exact B0b n m f hf
 ·exact nomatch hs
 ·exact B0c n m f hf
 ·exact B0d n m f hf
 ·exact B0e n m f hf
 ·exact B0f n m f hf
 ·exact nomatch hs
 ·exact B0g n m f hf
 ·exact B0h n m f hf
 ·exact B0i n m f hf
theorem Ck4:Bei Tryz.prog rdL=true:=by kernel_rfl
end Go.Proofs.YtogleahbpobaiaaGreat.Ev
