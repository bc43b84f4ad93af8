/-  What is read. -/
import Derived.Test.YtfencmicmnhglaaGreatG0
import Derived.Test.YtfencmicmnhglaaGreatFW
namespace Go.Proofs.YtfencmicmnhglaaGreat.Ev
open Go An
set_option maxRecDepth 100000
set_option maxHeartbeats 4000000
set_option linter.unusedVariables false
set_option linter.unusedSimpArgs false
set_option linter.unnecessarySimpa false
inductive B1:Ab→Prop
 |mk (a0:Int) (a1:ByteArray) (a2:Int) (a3:(List Ab)) (h0_0:okI .i64 a0) (h1_0:okS a1) (h2_0:okI .i64 a2) (h3_0:a3.length≤maxLen) (h3_1:∀y∈a3,B1 y):B1 (.mk a0 a1 a2 a3)
def U9(x:Au):Prop:=okS x.Name∧okI .i64 x.Length∧okI .i64 x.Step
def Alw(x:Cx):Prop:=okI .i64 x.At∧okI .i64 x.Units
def Ag0(x:Bj):Prop:=okI .i64 x.Op∧okI .i64 x.A∧okI .i64 x.B∧okI .i64 x.N∧(x.Values.length≤maxLen∧∀y∈x.Values,okI .i64 y)∧(x.Weights.length≤maxLen∧∀y∈x.Weights,okI .i64 y)
def Nx(x:Ap):Prop:=okS x.Name∧okI .i64 x.Type_
def Aq7(x:Av):Prop:=okI .i64 x.Coef∧okS x.What∧okS x.Name
def Ad7(x:Ba):Prop:=okS x.Name∧(x.Terms.length≤maxLen∧∀y∈x.Terms,Aq7 y)∧okI .i64 x.Total
def Awh(x:Gu):Prop:=okS x.Stream∧Ag0 x.Up∧Ag0 x.Down
def S7(x:Af):Prop:=okS x.Name∧okI .i64 x.Units∧(x.Shift.length≤maxLen∧∀y∈x.Shift,Alw y)∧okI .i64 x.Cycle∧Awh x.Fault
inductive B6:Ac→Prop
 |mk (a0:Int) (a1:ByteArray) (a2:ByteArray) (a3:Ab) (a4:Ab) (a5:(List Ab)) (a6:Bj) (a7:Bool) (a8:(List Ac)) (a9:(List Ac)) (h0_0:okI .i64 a0) (h1_0:okS a1) (h2_0:okS a2) (h3_0:B1 a3) (h4_0:B1 a4) (h5_0:a5.length≤maxLen) (h5_1:∀y∈a5,B1 y) (h6_0:Ag0 a6) (h7_0:True) (h8_0:a8.length≤maxLen) (h8_1:∀y∈a8,B6 y) (h9_0:a9.length≤maxLen) (h9_1:∀y∈a9,B6 y):B6 (.mk a0 a1 a2 a3 a4 a5 a6 a7 a8 a9)
def Ia(x:Ak):Prop:=okS x.Name∧(x.Params.length≤maxLen∧∀y∈x.Params,Nx y)∧(x.Locals.length≤maxLen∧∀y∈x.Locals,Nx y)∧(x.Body.length≤maxLen∧∀y∈x.Body,B6 y)
def Aiq(x:Bm):Prop:=okS x.Routine∧(x.Args.length≤maxLen∧∀y∈x.Args,okI .i64 y)∧okI .i64 x.At∧okI .i64 x.Every∧okI .i64 x.Until
def Te(x:Aq):Prop:=okS x.Name∧okI .i64 x.Room∧okI .i64 x.Policy
def Ny(x:Al):Prop:=okS x.Name∧okI .i64 x.Type_∧okI .i64 x.N
def Ck(x:Aa):Prop:=okS x.Name∧(x.Vars.length≤maxLen∧∀y∈x.Vars,Ny y)∧(x.Resources.length≤maxLen∧∀y∈x.Resources,S7 y)∧(x.Stores.length≤maxLen∧∀y∈x.Stores,Te y)∧(x.Belts.length≤maxLen∧∀y∈x.Belts,U9 y)∧(x.Queues.length≤maxLen∧∀y∈x.Queues,okS y)∧(x.Streams.length≤maxLen∧∀y∈x.Streams,okS y)∧(x.Tallies.length≤maxLen∧∀y∈x.Tallies,okS y)∧(x.Levels.length≤maxLen∧∀y∈x.Levels,okS y)∧(x.Counts.length≤maxLen∧∀y∈x.Counts,okS y)∧(x.Routines.length≤maxLen∧∀y∈x.Routines,Ia y)∧(x.Starts.length≤maxLen∧∀y∈x.Starts,Aiq y)∧(x.Laws.length≤maxLen∧∀y∈x.Laws,Ad7 y)
def Ep(x:Ar):Prop:=(x.Params.length≤maxLen∧∀y∈x.Params,Ny y)∧(x.Locals.length≤maxLen∧∀y∈x.Locals,Nx y)∧Ck x.Site
def Alx(x:Ah):Prop:=okS x.Name∧(x.Levels.length≤maxLen∧∀y∈x.Levels,okI .i64 y)
def Aq6(x:Bl):Prop:=okS x.From∧okS x.To∧okI .i64 x.Delay
def Yj(x:Ad):Prop:=okS x.Name∧(x.Params.length≤maxLen∧∀y∈x.Params,Ny y)∧(x.Sites.length≤maxLen∧∀y∈x.Sites,Ck y)∧(x.Links.length≤maxLen∧∀y∈x.Links,Aq6 y)
theorem lx3(x:LX)(h:x.e=3):∃l,x= .t3 l:=by
 cases x<;>first|exact ⟨_,rfl⟩|(simp [LX.e] at h)
theorem lx9(x:LX)(h:x.e=9):∃l,x= .t9 l:=by
 cases x<;>first|exact ⟨_,rfl⟩|(simp [LX.e] at h)
theorem Cp9(x:LX)(h:x.e=46):∃l,x= .t46 l:=by
 cases x<;>first|exact ⟨_,rfl⟩|(simp [LX.e] at h)
theorem Cqa(x:LX)(h:x.e=55):∃l,x= .t55 l:=by
 cases x<;>first|exact ⟨_,rfl⟩|(simp [LX.e] at h)
theorem Cqb(x:LX)(h:x.e=60):∃l,x= .t60 l:=by
 cases x<;>first|exact ⟨_,rfl⟩|(simp [LX.e] at h)
theorem Cmk(x:LX)(h:x.e=77):∃l,x= .t77 l:=by
 cases x<;>first|exact ⟨_,rfl⟩|(simp [LX.e] at h)
theorem Cml(x:LX)(h:x.e=94):∃l,x= .t94 l:=by
 cases x<;>first|exact ⟨_,rfl⟩|(simp [LX.e] at h)
theorem Cc2(x:LX)(h:x.e=99):∃l,x= .t99 l:=by
 cases x<;>first|exact ⟨_,rfl⟩|(simp [LX.e] at h)
theorem Cmb(x:LX)(h:x.e=145):∃l,x= .t145 l:=by
 cases x<;>first|exact ⟨_,rfl⟩|(simp [LX.e] at h)
theorem Cmc(x:LX)(h:x.e=151):∃l,x= .t151 l:=by
 cases x<;>first|exact ⟨_,rfl⟩|(simp [LX.e] at h)
theorem Cmd(x:LX)(h:x.e=155):∃l,x= .t155 l:=by
 cases x<;>first|exact ⟨_,rfl⟩|(simp [LX.e] at h)
theorem Cme(x:LX)(h:x.e=161):∃l,x= .t161 l:=by
 cases x<;>first|exact ⟨_,rfl⟩|(simp [LX.e] at h)
theorem Cmf(x:LX)(h:x.e=167):∃l,x= .t167 l:=by
 cases x<;>first|exact ⟨_,rfl⟩|(simp [LX.e] at h)
theorem Cmg(x:LX)(h:x.e=180):∃l,x= .t180 l:=by
 cases x<;>first|exact ⟨_,rfl⟩|(simp [LX.e] at h)
theorem Cmh(x:LX)(h:x.e=184):∃l,x= .t184 l:=by
 cases x<;>first|exact ⟨_,rfl⟩|(simp [LX.e] at h)
theorem Bxs(x:LX)(h:x.e=190):∃l,x= .t190 l:=by
 cases x<;>first|exact ⟨_,rfl⟩|(simp [LX.e] at h)
theorem Cmi(x:LX)(h:x.e=195):∃l,x= .t195 l:=by
 cases x<;>first|exact ⟨_,rfl⟩|(simp [LX.e] at h)
theorem Cqc(n:Nat)(l:List PV)(h:Hn Tryz.prog n 26 l):∃y:Ad,l=Aw y:=by
 obtain ⟨m,_,h⟩:=Hg Tryz.underlying26 h
 change S6 (Hn Tryz.prog m) [9,22,23,24] l at h
 obtain ⟨a0,b0,rfl,h0,a1,b1,rfl,h1,a2,b2,rfl,h2,a3,b3,rfl,h3,rfl⟩:=h
 obtain ⟨z0,rfl,_⟩:=Kk Tryz.underlying9 h0
 obtain ⟨x1,rfl,e1,_,_,_,_⟩:=Hx Tryz.underlying22 h1
 obtain ⟨z1,rfl⟩:=Cmk x1 e1
 obtain ⟨x2,rfl,e2,_,_,_,_⟩:=Hx Tryz.underlying23 h2
 obtain ⟨z2,rfl⟩:=Cqa x2 e2
 obtain ⟨x3,rfl,e3,_,_,_,_⟩:=Hx Tryz.underlying24 h3
 obtain ⟨z3,rfl⟩:=Cmf x3 e3
 exact ⟨.mk z0 z1 z2 z3,rfl⟩
theorem Cqd(n:Nat)(l:List PV)(h:Hn Tryz.prog n 46 l):∃y:Ah,l=Ed y:=by
 obtain ⟨m,_,h⟩:=Hg Tryz.underlying46 h
 change S6 (Hn Tryz.prog m) [9,35] l at h
 obtain ⟨a0,b0,rfl,h0,a1,b1,rfl,h1,rfl⟩:=h
 obtain ⟨z0,rfl,_⟩:=Kk Tryz.underlying9 h0
 obtain ⟨x1,rfl,e1,_,_,_,_⟩:=Hx Tryz.underlying35 h1
 obtain ⟨z1,rfl⟩:=lx3 x1 e1
 exact ⟨.mk z0 z1,rfl⟩
theorem Cqe(n:Nat)(l:List PV)(h:Hn Tryz.prog n 55 l):∃y:Aa,l=Ae y:=by
 obtain ⟨m,_,h⟩:=Hg Tryz.underlying55 h
 change S6 (Hn Tryz.prog m) [9,22,47,48,49,50,50,50,50,50,51,52,53] l at h
 obtain ⟨a0,b0,rfl,h0,a1,b1,rfl,h1,a2,b2,rfl,h2,a3,b3,rfl,h3,a4,b4,rfl,h4,a5,b5,rfl,h5,a6,b6,rfl,h6,a7,b7,rfl,h7,a8,b8,rfl,h8,a9,b9,rfl,h9,a10,b10,rfl,h10,a11,b11,rfl,h11,a12,b12,rfl,h12,rfl⟩:=h
 obtain ⟨z0,rfl,_⟩:=Kk Tryz.underlying9 h0
 obtain ⟨x1,rfl,e1,_,_,_,_⟩:=Hx Tryz.underlying22 h1
 obtain ⟨z1,rfl⟩:=Cmk x1 e1
 obtain ⟨x2,rfl,e2,_,_,_,_⟩:=Hx Tryz.underlying47 h2
 obtain ⟨z2,rfl⟩:=Cmb x2 e2
 obtain ⟨x3,rfl,e3,_,_,_,_⟩:=Hx Tryz.underlying48 h3
 obtain ⟨z3,rfl⟩:=Cmc x3 e3
 obtain ⟨x4,rfl,e4,_,_,_,_⟩:=Hx Tryz.underlying49 h4
 obtain ⟨z4,rfl⟩:=Cmd x4 e4
 obtain ⟨x5,rfl,e5,_,_,_,_⟩:=Hx Tryz.underlying50 h5
 obtain ⟨z5,rfl⟩:=lx9 x5 e5
 obtain ⟨x6,rfl,e6,_,_,_,_⟩:=Hx Tryz.underlying50 h6
 obtain ⟨z6,rfl⟩:=lx9 x6 e6
 obtain ⟨x7,rfl,e7,_,_,_,_⟩:=Hx Tryz.underlying50 h7
 obtain ⟨z7,rfl⟩:=lx9 x7 e7
 obtain ⟨x8,rfl,e8,_,_,_,_⟩:=Hx Tryz.underlying50 h8
 obtain ⟨z8,rfl⟩:=lx9 x8 e8
 obtain ⟨x9,rfl,e9,_,_,_,_⟩:=Hx Tryz.underlying50 h9
 obtain ⟨z9,rfl⟩:=lx9 x9 e9
 obtain ⟨x10,rfl,e10,_,_,_,_⟩:=Hx Tryz.underlying51 h10
 obtain ⟨z10,rfl⟩:=Cqb x10 e10
 obtain ⟨x11,rfl,e11,_,_,_,_⟩:=Hx Tryz.underlying52 h11
 obtain ⟨z11,rfl⟩:=Cme x11 e11
 obtain ⟨x12,rfl,e12,_,_,_,_⟩:=Hx Tryz.underlying53 h12
 obtain ⟨z12,rfl⟩:=Cmg x12 e12
 exact ⟨.mk z0 z1 z2 z3 z4 z5 z6 z7 z8 z9 z10 z11 z12,rfl⟩
theorem Cqf(n:Nat)(l:List PV)(h:Hn Tryz.prog n 60 l):∃y:Ak,l=B5 y:=by
 obtain ⟨m,_,h⟩:=Hg Tryz.underlying60 h
 change S6 (Hn Tryz.prog m) [9,57,57,58] l at h
 obtain ⟨a0,b0,rfl,h0,a1,b1,rfl,h1,a2,b2,rfl,h2,a3,b3,rfl,h3,rfl⟩:=h
 obtain ⟨z0,rfl,_⟩:=Kk Tryz.underlying9 h0
 obtain ⟨x1,rfl,e1,_,_,_,_⟩:=Hx Tryz.underlying57 h1
 obtain ⟨z1,rfl⟩:=Bxs x1 e1
 obtain ⟨x2,rfl,e2,_,_,_,_⟩:=Hx Tryz.underlying57 h2
 obtain ⟨z2,rfl⟩:=Bxs x2 e2
 obtain ⟨x3,rfl,e3,_,_,_,_⟩:=Hx Tryz.underlying58 h3
 obtain ⟨z3,rfl⟩:=Cc2 x3 e3
 exact ⟨.mk z0 z1 z2 z3,rfl⟩
theorem Cqg(n:Nat)(l:List PV)(h:Hn Tryz.prog n 77 l):∃y:Al,l=B3 y:=by
 obtain ⟨m,_,h⟩:=Hg Tryz.underlying77 h
 change S6 (Hn Tryz.prog m) [9,75,3] l at h
 obtain ⟨a0,b0,rfl,h0,a1,b1,rfl,h1,a2,b2,rfl,h2,rfl⟩:=h
 obtain ⟨z0,rfl,_⟩:=Kk Tryz.underlying9 h0
 obtain ⟨z1,rfl,_⟩:=Hm Tryz.underlying75 h1
 obtain ⟨z2,rfl,_⟩:=Hm Tryz.underlying3 h2
 exact ⟨.mk z0 z1 z2,rfl⟩
theorem B5t(n:Nat)(l:List PV)(h:Hn Tryz.prog n 94 l):∃y:Ab,l=Dd y:=by
 obtain ⟨m,_,h⟩:=Hg Tryz.underlying94 h
 change S6 (Hn Tryz.prog m) [91,9,3,92] l at h
 obtain ⟨a0,b0,rfl,h0,a1,b1,rfl,h1,a2,b2,rfl,h2,a3,b3,rfl,h3,rfl⟩:=h
 obtain ⟨z0,rfl,_⟩:=Hm Tryz.underlying91 h0
 obtain ⟨z1,rfl,_⟩:=Kk Tryz.underlying9 h1
 obtain ⟨z2,rfl,_⟩:=Hm Tryz.underlying3 h2
 obtain ⟨x3,rfl,e3,_,_,_,_⟩:=Hx Tryz.underlying92 h3
 obtain ⟨z3,rfl⟩:=Cml x3 e3
 exact ⟨.mk z0 z1 z2 z3,rfl⟩
theorem w94(n:Nat):∀l,Hn Tryz.prog n 94 l→l.length=4:=fun l h=>by obtain ⟨y,rfl⟩:=B5t n l h;rfl
theorem B5u(n:Nat)(l:List PV)(h:Hn Tryz.prog n 97 l):∃y:Bj,l=Ur y:=by
 obtain ⟨m,_,h⟩:=Hg Tryz.underlying97 h
 change S6 (Hn Tryz.prog m) [95,3,3,3,35,35] l at h
 obtain ⟨a0,b0,rfl,h0,a1,b1,rfl,h1,a2,b2,rfl,h2,a3,b3,rfl,h3,a4,b4,rfl,h4,a5,b5,rfl,h5,rfl⟩:=h
 obtain ⟨z0,rfl,_⟩:=Hm Tryz.underlying95 h0
 obtain ⟨z1,rfl,_⟩:=Hm Tryz.underlying3 h1
 obtain ⟨z2,rfl,_⟩:=Hm Tryz.underlying3 h2
 obtain ⟨z3,rfl,_⟩:=Hm Tryz.underlying3 h3
 obtain ⟨x4,rfl,e4,_,_,_,_⟩:=Hx Tryz.underlying35 h4
 obtain ⟨z4,rfl⟩:=lx3 x4 e4
 obtain ⟨x5,rfl,e5,_,_,_,_⟩:=Hx Tryz.underlying35 h5
 obtain ⟨z5,rfl⟩:=lx3 x5 e5
 exact ⟨.mk z0 z1 z2 z3 z4 z5,rfl⟩
theorem w97(n:Nat):∀l,Hn Tryz.prog n 97 l→l.length=6:=fun l h=>by obtain ⟨y,rfl⟩:=B5u n l h;rfl
theorem Cqh(n:Nat)(l:List PV)(h:Hn Tryz.prog n 99 l):∃y:Ac,l=C5 y:=by
 obtain ⟨m,_,h⟩:=Hg Tryz.underlying99 h
 change S6 (Hn Tryz.prog m) [90,9,9,94,94,92,97,4,58,58] l at h
 obtain ⟨a0,b0,rfl,h0,a1,b1,rfl,h1,a2,b2,rfl,h2,a3,b3,rfl,h3,a4,b4,rfl,h4,a5,b5,rfl,h5,a6,b6,rfl,h6,a7,b7,rfl,h7,a8,b8,rfl,h8,a9,b9,rfl,h9,rfl⟩:=h
 obtain ⟨z0,rfl,_⟩:=Hm Tryz.underlying90 h0
 obtain ⟨z1,rfl,_⟩:=Kk Tryz.underlying9 h1
 obtain ⟨z2,rfl,_⟩:=Kk Tryz.underlying9 h2
 obtain ⟨z3,rfl⟩:=B5t m _ h3
 obtain ⟨z4,rfl⟩:=B5t m _ h4
 obtain ⟨x5,rfl,e5,_,_,_,_⟩:=Hx Tryz.underlying92 h5
 obtain ⟨z5,rfl⟩:=Cml x5 e5
 obtain ⟨z6,rfl⟩:=B5u m _ h6
 obtain ⟨z7,rfl⟩:=A74 Tryz.underlying4 h7
 obtain ⟨x8,rfl,e8,_,_,_,_⟩:=Hx Tryz.underlying58 h8
 obtain ⟨z8,rfl⟩:=Cc2 x8 e8
 obtain ⟨x9,rfl,e9,_,_,_,_⟩:=Hx Tryz.underlying58 h9
 obtain ⟨z9,rfl⟩:=Cc2 x9 e9
 exact ⟨.mk z0 z1 z2 z3 z4 z5 z6 z7 z8 z9,rfl⟩
theorem B7y(n:Nat)(l:List PV)(h:Hn Tryz.prog n 143 l):∃y:Gu,l=Uh y:=by
 obtain ⟨m,_,h⟩:=Hg Tryz.underlying143 h
 change S6 (Hn Tryz.prog m) [9,97,97] l at h
 obtain ⟨a0,b0,rfl,h0,a1,b1,rfl,h1,a2,b2,rfl,h2,rfl⟩:=h
 obtain ⟨z0,rfl,_⟩:=Kk Tryz.underlying9 h0
 obtain ⟨z1,rfl⟩:=B5u m _ h1
 obtain ⟨z2,rfl⟩:=B5u m _ h2
 exact ⟨.mk z0 z1 z2,rfl⟩
theorem Cos(n:Nat):∀l,Hn Tryz.prog n 143 l→l.length=13:=fun l h=>by obtain ⟨y,rfl⟩:=B7y n l h;rfl
theorem Cmm(n:Nat)(l:List PV)(h:Hn Tryz.prog n 145 l):∃y:Af,l=Bq y:=by
 obtain ⟨m,_,h⟩:=Hg Tryz.underlying145 h
 change S6 (Hn Tryz.prog m) [9,3,141,3,143] l at h
 obtain ⟨a0,b0,rfl,h0,a1,b1,rfl,h1,a2,b2,rfl,h2,a3,b3,rfl,h3,a4,b4,rfl,h4,rfl⟩:=h
 obtain ⟨z0,rfl,_⟩:=Kk Tryz.underlying9 h0
 obtain ⟨z1,rfl,_⟩:=Hm Tryz.underlying3 h1
 obtain ⟨x2,rfl,e2,_,_,_,_⟩:=Hx Tryz.underlying141 h2
 obtain ⟨z2,rfl⟩:=Cmh x2 e2
 obtain ⟨z3,rfl,_⟩:=Hm Tryz.underlying3 h3
 obtain ⟨z4,rfl⟩:=B7y m _ h4
 exact ⟨.mk z0 z1 z2 z3 z4,rfl⟩
theorem Cmn(n:Nat)(l:List PV)(h:Hn Tryz.prog n 151 l):∃y:Aq,l=Cv y:=by
 obtain ⟨m,_,h⟩:=Hg Tryz.underlying151 h
 change S6 (Hn Tryz.prog m) [9,3,149] l at h
 obtain ⟨a0,b0,rfl,h0,a1,b1,rfl,h1,a2,b2,rfl,h2,rfl⟩:=h
 obtain ⟨z0,rfl,_⟩:=Kk Tryz.underlying9 h0
 obtain ⟨z1,rfl,_⟩:=Hm Tryz.underlying3 h1
 obtain ⟨z2,rfl,_⟩:=Hm Tryz.underlying149 h2
 exact ⟨.mk z0 z1 z2,rfl⟩
theorem Cmo(n:Nat)(l:List PV)(h:Hn Tryz.prog n 155 l):∃y:Au,l=Cz y:=by
 obtain ⟨m,_,h⟩:=Hg Tryz.underlying155 h
 change S6 (Hn Tryz.prog m) [9,3,3] l at h
 obtain ⟨a0,b0,rfl,h0,a1,b1,rfl,h1,a2,b2,rfl,h2,rfl⟩:=h
 obtain ⟨z0,rfl,_⟩:=Kk Tryz.underlying9 h0
 obtain ⟨z1,rfl,_⟩:=Hm Tryz.underlying3 h1
 obtain ⟨z2,rfl,_⟩:=Hm Tryz.underlying3 h2
 exact ⟨.mk z0 z1 z2,rfl⟩
theorem Cmp(n:Nat)(l:List PV)(h:Hn Tryz.prog n 161 l):∃y:Bm,l=N4 y:=by
 obtain ⟨m,_,h⟩:=Hg Tryz.underlying161 h
 change S6 (Hn Tryz.prog m) [9,35,3,3,3] l at h
 obtain ⟨a0,b0,rfl,h0,a1,b1,rfl,h1,a2,b2,rfl,h2,a3,b3,rfl,h3,a4,b4,rfl,h4,rfl⟩:=h
 obtain ⟨z0,rfl,_⟩:=Kk Tryz.underlying9 h0
 obtain ⟨x1,rfl,e1,_,_,_,_⟩:=Hx Tryz.underlying35 h1
 obtain ⟨z1,rfl⟩:=lx3 x1 e1
 obtain ⟨z2,rfl,_⟩:=Hm Tryz.underlying3 h2
 obtain ⟨z3,rfl,_⟩:=Hm Tryz.underlying3 h3
 obtain ⟨z4,rfl,_⟩:=Hm Tryz.underlying3 h4
 exact ⟨.mk z0 z1 z2 z3 z4,rfl⟩
theorem Cmq(n:Nat)(l:List PV)(h:Hn Tryz.prog n 167 l):∃y:Bl,l=Jj y:=by
 obtain ⟨m,_,h⟩:=Hg Tryz.underlying167 h
 change S6 (Hn Tryz.prog m) [9,9,3] l at h
 obtain ⟨a0,b0,rfl,h0,a1,b1,rfl,h1,a2,b2,rfl,h2,rfl⟩:=h
 obtain ⟨z0,rfl,_⟩:=Kk Tryz.underlying9 h0
 obtain ⟨z1,rfl,_⟩:=Kk Tryz.underlying9 h1
 obtain ⟨z2,rfl,_⟩:=Hm Tryz.underlying3 h2
 exact ⟨.mk z0 z1 z2,rfl⟩
theorem Cmr(n:Nat)(l:List PV)(h:Hn Tryz.prog n 180 l):∃y:Ba,l=De y:=by
 obtain ⟨m,_,h⟩:=Hg Tryz.underlying180 h
 change S6 (Hn Tryz.prog m) [9,178,3] l at h
 obtain ⟨a0,b0,rfl,h0,a1,b1,rfl,h1,a2,b2,rfl,h2,rfl⟩:=h
 obtain ⟨z0,rfl,_⟩:=Kk Tryz.underlying9 h0
 obtain ⟨x1,rfl,e1,_,_,_,_⟩:=Hx Tryz.underlying178 h1
 obtain ⟨z1,rfl⟩:=Cmi x1 e1
 obtain ⟨z2,rfl,_⟩:=Hm Tryz.underlying3 h2
 exact ⟨.mk z0 z1 z2,rfl⟩
theorem Cms(n:Nat)(l:List PV)(h:Hn Tryz.prog n 184 l):∃y:Cx,l=Abo y:=by
 obtain ⟨m,_,h⟩:=Hg Tryz.underlying184 h
 change S6 (Hn Tryz.prog m) [3,3] l at h
 obtain ⟨a0,b0,rfl,h0,a1,b1,rfl,h1,rfl⟩:=h
 obtain ⟨z0,rfl,_⟩:=Hm Tryz.underlying3 h0
 obtain ⟨z1,rfl,_⟩:=Hm Tryz.underlying3 h1
 exact ⟨.mk z0 z1,rfl⟩
theorem Cmt(n:Nat)(l:List PV)(h:Hn Tryz.prog n 190 l):∃y:Ap,l=N3 y:=by
 obtain ⟨m,_,h⟩:=Hg Tryz.underlying190 h
 change S6 (Hn Tryz.prog m) [9,75] l at h
 obtain ⟨a0,b0,rfl,h0,a1,b1,rfl,h1,rfl⟩:=h
 obtain ⟨z0,rfl,_⟩:=Kk Tryz.underlying9 h0
 obtain ⟨z1,rfl,_⟩:=Hm Tryz.underlying75 h1
 exact ⟨.mk z0 z1,rfl⟩
theorem Cmu(n:Nat)(l:List PV)(h:Hn Tryz.prog n 195 l):∃y:Av,l=Ef y:=by
 obtain ⟨m,_,h⟩:=Hg Tryz.underlying195 h
 change S6 (Hn Tryz.prog m) [3,9,9] l at h
 obtain ⟨a0,b0,rfl,h0,a1,b1,rfl,h1,a2,b2,rfl,h2,rfl⟩:=h
 obtain ⟨z0,rfl,_⟩:=Hm Tryz.underlying3 h0
 obtain ⟨z1,rfl,_⟩:=Kk Tryz.underlying9 h1
 obtain ⟨z2,rfl,_⟩:=Kk Tryz.underlying9 h2
 exact ⟨.mk z0 z1 z2,rfl⟩
theorem Cqm(n:Nat)(y:Al)(h:Hn Tryz.prog n 77 (B3 y)):Ny y:=by
 obtain ⟨m,_,h⟩:=Hg Tryz.underlying77 h
 change S6 (Hn Tryz.prog m) [9,75,3] (B3 y) at h
 obtain ⟨g0,h⟩:=Bc (Ke Tryz.underlying9 m) h
 obtain ⟨g1,h⟩:=Bc (Hl Tryz.underlying75 m) h
 obtain ⟨g2,h⟩:=Bc (Hl Tryz.underlying3 m) h
 exact ⟨Tr Tryz.underlying9 g0,Nc Tryz.underlying75 g1,Nc Tryz.underlying3 g2⟩
theorem B72(n:Nat)(x:(List Al))(h:Hn Tryz.prog n 22 [.lst false (.t77 x)]):(x.length≤maxLen∧∀y∈x,Ny y):=by
 obtain ⟨h1,m,_,h2⟩:=Aav Tryz.underlying22 h
 exact ⟨h1,fun y hy=>Cqm _ _ (Iz (row:=A11) h2 y hy)⟩
theorem Cm6(n:Nat)(y:Cx)(h:Hn Tryz.prog n 184 (Abo y)):Alw y:=by
 obtain ⟨m,_,h⟩:=Hg Tryz.underlying184 h
 change S6 (Hn Tryz.prog m) [3,3] (Abo y) at h
 obtain ⟨g0,h⟩:=Bc (Hl Tryz.underlying3 m) h
 obtain ⟨g1,h⟩:=Bc (Hl Tryz.underlying3 m) h
 exact ⟨Nc Tryz.underlying3 g0,Nc Tryz.underlying3 g1⟩
theorem Cc9(n:Nat)(x:(List Cx))(h:Hn Tryz.prog n 141 [.lst false (.t184 x)]):(x.length≤maxLen∧∀y∈x,Alw y):=by
 obtain ⟨h1,m,_,h2⟩:=Aav Tryz.underlying141 h
 exact ⟨h1,fun y hy=>Cm6 _ _ (Iz (row:=As3) h2 y hy)⟩
theorem Bqc(n:Nat)(x:(List Int))(h:Hn Tryz.prog n 35 [.lst false (.t3 x)]):(x.length≤maxLen∧∀y∈x,okI .i64 y):=by
 obtain ⟨h1,m,_,h2⟩:=Aav Tryz.underlying35 h
 exact ⟨h1,fun y hy=>Nc Tryz.underlying3 (Iz (row:=Bik) h2 y hy)⟩
theorem Cc5(n:Nat)(y:Bj)(h:Hn Tryz.prog n 97 (Ur y)):Ag0 y:=by
 obtain ⟨m,_,h⟩:=Hg Tryz.underlying97 h
 change S6 (Hn Tryz.prog m) [95,3,3,3,35,35] (Ur y) at h
 obtain ⟨g0,h⟩:=Bc (Hl Tryz.underlying95 m) h
 obtain ⟨g1,h⟩:=Bc (Hl Tryz.underlying3 m) h
 obtain ⟨g2,h⟩:=Bc (Hl Tryz.underlying3 m) h
 obtain ⟨g3,h⟩:=Bc (Hl Tryz.underlying3 m) h
 obtain ⟨g4,h⟩:=Bc (Kp Tryz.underlying35 m) h
 obtain ⟨g5,h⟩:=Bc (Kp Tryz.underlying35 m) h
 exact ⟨Nc Tryz.underlying95 g0,Nc Tryz.underlying3 g1,Nc Tryz.underlying3 g2,Nc Tryz.underlying3 g3,Bqc m _ g4,Bqc m _ g5⟩
theorem Cmz(n:Nat)(y:Gu)(h:Hn Tryz.prog n 143 (Uh y)):Awh y:=by
 obtain ⟨m,_,h⟩:=Hg Tryz.underlying143 h
 change S6 (Hn Tryz.prog m) [9,97,97] (Uh y) at h
 obtain ⟨g0,h⟩:=Bc (Ke Tryz.underlying9 m) h
 obtain ⟨g1,h⟩:=Bc (w97 m) h
 obtain ⟨g2,h⟩:=Bc (w97 m) h
 exact ⟨Tr Tryz.underlying9 g0,Cc5 m _ g1,Cc5 m _ g2⟩
theorem Cm0(n:Nat)(y:Af)(h:Hn Tryz.prog n 145 (Bq y)):S7 y:=by
 obtain ⟨m,_,h⟩:=Hg Tryz.underlying145 h
 change S6 (Hn Tryz.prog m) [9,3,141,3,143] (Bq y) at h
 obtain ⟨g0,h⟩:=Bc (Ke Tryz.underlying9 m) h
 obtain ⟨g1,h⟩:=Bc (Hl Tryz.underlying3 m) h
 obtain ⟨g2,h⟩:=Bc (Kp Tryz.underlying141 m) h
 obtain ⟨g3,h⟩:=Bc (Hl Tryz.underlying3 m) h
 obtain ⟨g4,h⟩:=Bc (Cos m) h
 exact ⟨Tr Tryz.underlying9 g0,Nc Tryz.underlying3 g1,Cc9 m _ g2,Nc Tryz.underlying3 g3,Cmz m _ g4⟩
theorem Cne(n:Nat)(x:(List Af))(h:Hn Tryz.prog n 47 [.lst false (.t145 x)]):(x.length≤maxLen∧∀y∈x,S7 y):=by
 obtain ⟨h1,m,_,h2⟩:=Aav Tryz.underlying47 h
 exact ⟨h1,fun y hy=>Cm0 _ _ (Iz (row:=Asx) h2 y hy)⟩
theorem Cm1(n:Nat)(y:Aq)(h:Hn Tryz.prog n 151 (Cv y)):Te y:=by
 obtain ⟨m,_,h⟩:=Hg Tryz.underlying151 h
 change S6 (Hn Tryz.prog m) [9,3,149] (Cv y) at h
 obtain ⟨g0,h⟩:=Bc (Ke Tryz.underlying9 m) h
 obtain ⟨g1,h⟩:=Bc (Hl Tryz.underlying3 m) h
 obtain ⟨g2,h⟩:=Bc (Hl Tryz.underlying149 m) h
 exact ⟨Tr Tryz.underlying9 g0,Nc Tryz.underlying3 g1,Nc Tryz.underlying149 g2⟩
theorem Cnf(n:Nat)(x:(List Aq))(h:Hn Tryz.prog n 48 [.lst false (.t151 x)]):(x.length≤maxLen∧∀y∈x,Te y):=by
 obtain ⟨h1,m,_,h2⟩:=Aav Tryz.underlying48 h
 exact ⟨h1,fun y hy=>Cm1 _ _ (Iz (row:=Asy) h2 y hy)⟩
theorem Cm2(n:Nat)(y:Au)(h:Hn Tryz.prog n 155 (Cz y)):U9 y:=by
 obtain ⟨m,_,h⟩:=Hg Tryz.underlying155 h
 change S6 (Hn Tryz.prog m) [9,3,3] (Cz y) at h
 obtain ⟨g0,h⟩:=Bc (Ke Tryz.underlying9 m) h
 obtain ⟨g1,h⟩:=Bc (Hl Tryz.underlying3 m) h
 obtain ⟨g2,h⟩:=Bc (Hl Tryz.underlying3 m) h
 exact ⟨Tr Tryz.underlying9 g0,Nc Tryz.underlying3 g1,Nc Tryz.underlying3 g2⟩
theorem Cng(n:Nat)(x:(List Au))(h:Hn Tryz.prog n 49 [.lst false (.t155 x)]):(x.length≤maxLen∧∀y∈x,U9 y):=by
 obtain ⟨h1,m,_,h2⟩:=Aav Tryz.underlying49 h
 exact ⟨h1,fun y hy=>Cm2 _ _ (Iz (row:=Asz) h2 y hy)⟩
theorem Bh5(n:Nat)(x:(List ByteArray))(h:Hn Tryz.prog n 50 [.lst false (.t9 x)]):(x.length≤maxLen∧∀y∈x,okS y):=by
 obtain ⟨h1,m,_,h2⟩:=Aav Tryz.underlying50 h
 exact ⟨h1,fun y hy=>Tr Tryz.underlying9 (Iz (row:=Bim) h2 y hy)⟩
theorem Cm7(n:Nat)(y:Ap)(h:Hn Tryz.prog n 190 (N3 y)):Nx y:=by
 obtain ⟨m,_,h⟩:=Hg Tryz.underlying190 h
 change S6 (Hn Tryz.prog m) [9,75] (N3 y) at h
 obtain ⟨g0,h⟩:=Bc (Ke Tryz.underlying9 m) h
 obtain ⟨g1,h⟩:=Bc (Hl Tryz.underlying75 m) h
 exact ⟨Tr Tryz.underlying9 g0,Nc Tryz.underlying75 g1⟩
theorem B73(n:Nat)(x:(List Ap))(h:Hn Tryz.prog n 57 [.lst false (.t190 x)]):(x.length≤maxLen∧∀y∈x,Nx y):=by
 obtain ⟨h1,m,_,h2⟩:=Aav Tryz.underlying57 h
 exact ⟨h1,fun y hy=>Cm7 _ _ (Iz (row:=As4) h2 y hy)⟩
theorem Cm9:∀n,(∀y:Ab,Hn Tryz.prog n 94 (Dd y)→B1 y):=by
 intro n
 induction n using Nat.strongRecOn with
 |_ n ih=>
 refine ?_
 ·intro y h
  obtain ⟨m,hm,h⟩:=Hg Tryz.underlying94 h
  change S6 (Hn Tryz.prog m) [91,9,3,92] (Dd y) at h
  cases y with
  |mk a0 a1 a2 a3=>
  obtain ⟨g0,h⟩:=Bc (Hl Tryz.underlying91 m) h
  obtain ⟨g1,h⟩:=Bc (Ke Tryz.underlying9 m) h
  obtain ⟨g2,h⟩:=Bc (Hl Tryz.underlying3 m) h
  obtain ⟨g3,h⟩:=Bc (Kp Tryz.underlying92 m) h
  have q3:(a3.length≤maxLen∧∀y∈a3,B1 y):=by
   obtain ⟨h1,m2,hm2,h2⟩:=Aav Tryz.underlying92 g3
   exact ⟨h1,fun y hy=>(ih m2 (by omega)) y (Iz (row:=Aup) h2 y hy)⟩
  exact .mk _ _ _ _ (Nc Tryz.underlying91 g0) (Tr Tryz.underlying9 g1) (Nc Tryz.underlying3 g2) q3.1 q3.2
theorem Cc4(n:Nat)(y:Ab)(h:Hn Tryz.prog n 94 (Dd y)):B1 y:=(Cm9 n) y h
theorem B74(n:Nat)(x:(List Ab))(h:Hn Tryz.prog n 92 [.lst false (.t94 x)]):(x.length≤maxLen∧∀y∈x,B1 y):=by
 obtain ⟨h1,m,_,h2⟩:=Aav Tryz.underlying92 h
 exact ⟨h1,fun y hy=>Cc4 _ _ (Iz (row:=Aup) h2 y hy)⟩
theorem Cna:∀n,(∀y:Ac,Hn Tryz.prog n 99 (C5 y)→B6 y):=by
 intro n
 induction n using Nat.strongRecOn with
 |_ n ih=>
 refine ?_
 ·intro y h
  obtain ⟨m,hm,h⟩:=Hg Tryz.underlying99 h
  change S6 (Hn Tryz.prog m) [90,9,9,94,94,92,97,4,58,58] (C5 y) at h
  cases y with
  |mk a0 a1 a2 a3 a4 a5 a6 a7 a8 a9=>
  obtain ⟨g0,h⟩:=Bc (Hl Tryz.underlying90 m) h
  obtain ⟨g1,h⟩:=Bc (Ke Tryz.underlying9 m) h
  obtain ⟨g2,h⟩:=Bc (Ke Tryz.underlying9 m) h
  obtain ⟨g3,h⟩:=Bc (w94 m) h
  obtain ⟨g4,h⟩:=Bc (w94 m) h
  obtain ⟨g5,h⟩:=Bc (Kp Tryz.underlying92 m) h
  obtain ⟨g6,h⟩:=Bc (w97 m) h
  obtain ⟨g7,h⟩:=Bc (Bzc Tryz.underlying4 m) h
  obtain ⟨g8,h⟩:=Bc (Kp Tryz.underlying58 m) h
  obtain ⟨g9,h⟩:=Bc (Kp Tryz.underlying58 m) h
  have q8:(a8.length≤maxLen∧∀y∈a8,B6 y):=by
   obtain ⟨h1,m2,hm2,h2⟩:=Aav Tryz.underlying58 g8
   exact ⟨h1,fun y hy=>(ih m2 (by omega)) y (Iz (row:=Aqn) h2 y hy)⟩
  have q9:(a9.length≤maxLen∧∀y∈a9,B6 y):=by
   obtain ⟨h1,m2,hm2,h2⟩:=Aav Tryz.underlying58 g9
   exact ⟨h1,fun y hy=>(ih m2 (by omega)) y (Iz (row:=Aqn) h2 y hy)⟩
  exact .mk _ _ _ _ _ _ _ _ _ _ (Nc Tryz.underlying90 g0) (Tr Tryz.underlying9 g1) (Tr Tryz.underlying9 g2) (Cc4 m _ g3) (Cc4 m _ g4) (B74 m _ g5).1 (B74 m _ g5).2 (Cc5 m _ g6) (trivial) q8.1 q8.2 q9.1 q9.2
theorem Cqn(n:Nat)(y:Ac)(h:Hn Tryz.prog n 99 (C5 y)):B6 y:=(Cna n) y h
theorem Cnk(n:Nat)(x:(List Ac))(h:Hn Tryz.prog n 58 [.lst false (.t99 x)]):(x.length≤maxLen∧∀y∈x,B6 y):=by
 obtain ⟨h1,m,_,h2⟩:=Aav Tryz.underlying58 h
 exact ⟨h1,fun y hy=>Cqn _ _ (Iz (row:=Aqn) h2 y hy)⟩
theorem Cql(n:Nat)(y:Ak)(h:Hn Tryz.prog n 60 (B5 y)):Ia y:=by
 obtain ⟨m,_,h⟩:=Hg Tryz.underlying60 h
 change S6 (Hn Tryz.prog m) [9,57,57,58] (B5 y) at h
 obtain ⟨g0,h⟩:=Bc (Ke Tryz.underlying9 m) h
 obtain ⟨g1,h⟩:=Bc (Kp Tryz.underlying57 m) h
 obtain ⟨g2,h⟩:=Bc (Kp Tryz.underlying57 m) h
 obtain ⟨g3,h⟩:=Bc (Kp Tryz.underlying58 m) h
 exact ⟨Tr Tryz.underlying9 g0,B73 m _ g1,B73 m _ g2,Cnk m _ g3⟩
theorem Cnh(n:Nat)(x:(List Ak))(h:Hn Tryz.prog n 51 [.lst false (.t60 x)]):(x.length≤maxLen∧∀y∈x,Ia y):=by
 obtain ⟨h1,m,_,h2⟩:=Aav Tryz.underlying51 h
 exact ⟨h1,fun y hy=>Cql _ _ (Iz (row:=A10) h2 y hy)⟩
theorem Cm3(n:Nat)(y:Bm)(h:Hn Tryz.prog n 161 (N4 y)):Aiq y:=by
 obtain ⟨m,_,h⟩:=Hg Tryz.underlying161 h
 change S6 (Hn Tryz.prog m) [9,35,3,3,3] (N4 y) at h
 obtain ⟨g0,h⟩:=Bc (Ke Tryz.underlying9 m) h
 obtain ⟨g1,h⟩:=Bc (Kp Tryz.underlying35 m) h
 obtain ⟨g2,h⟩:=Bc (Hl Tryz.underlying3 m) h
 obtain ⟨g3,h⟩:=Bc (Hl Tryz.underlying3 m) h
 obtain ⟨g4,h⟩:=Bc (Hl Tryz.underlying3 m) h
 exact ⟨Tr Tryz.underlying9 g0,Bqc m _ g1,Nc Tryz.underlying3 g2,Nc Tryz.underlying3 g3,Nc Tryz.underlying3 g4⟩
theorem Cni(n:Nat)(x:(List Bm))(h:Hn Tryz.prog n 52 [.lst false (.t161 x)]):(x.length≤maxLen∧∀y∈x,Aiq y):=by
 obtain ⟨h1,m,_,h2⟩:=Aav Tryz.underlying52 h
 exact ⟨h1,fun y hy=>Cm3 _ _ (Iz (row:=As0) h2 y hy)⟩
theorem Cm8(n:Nat)(y:Av)(h:Hn Tryz.prog n 195 (Ef y)):Aq7 y:=by
 obtain ⟨m,_,h⟩:=Hg Tryz.underlying195 h
 change S6 (Hn Tryz.prog m) [3,9,9] (Ef y) at h
 obtain ⟨g0,h⟩:=Bc (Hl Tryz.underlying3 m) h
 obtain ⟨g1,h⟩:=Bc (Ke Tryz.underlying9 m) h
 obtain ⟨g2,h⟩:=Bc (Ke Tryz.underlying9 m) h
 exact ⟨Nc Tryz.underlying3 g0,Tr Tryz.underlying9 g1,Tr Tryz.underlying9 g2⟩
theorem Cda(n:Nat)(x:(List Av))(h:Hn Tryz.prog n 178 [.lst false (.t195 x)]):(x.length≤maxLen∧∀y∈x,Aq7 y):=by
 obtain ⟨h1,m,_,h2⟩:=Aav Tryz.underlying178 h
 exact ⟨h1,fun y hy=>Cm8 _ _ (Iz (row:=As5) h2 y hy)⟩
theorem Cm5(n:Nat)(y:Ba)(h:Hn Tryz.prog n 180 (De y)):Ad7 y:=by
 obtain ⟨m,_,h⟩:=Hg Tryz.underlying180 h
 change S6 (Hn Tryz.prog m) [9,178,3] (De y) at h
 obtain ⟨g0,h⟩:=Bc (Ke Tryz.underlying9 m) h
 obtain ⟨g1,h⟩:=Bc (Kp Tryz.underlying178 m) h
 obtain ⟨g2,h⟩:=Bc (Hl Tryz.underlying3 m) h
 exact ⟨Tr Tryz.underlying9 g0,Cda m _ g1,Nc Tryz.underlying3 g2⟩
theorem Cnj(n:Nat)(x:(List Ba))(h:Hn Tryz.prog n 53 [.lst false (.t180 x)]):(x.length≤maxLen∧∀y∈x,Ad7 y):=by
 obtain ⟨h1,m,_,h2⟩:=Aav Tryz.underlying53 h
 exact ⟨h1,fun y hy=>Cm5 _ _ (Iz (row:=As2) h2 y hy)⟩
theorem Cqk(n:Nat)(y:Aa)(h:Hn Tryz.prog n 55 (Ae y)):Ck y:=by
 obtain ⟨m,_,h⟩:=Hg Tryz.underlying55 h
 change S6 (Hn Tryz.prog m) [9,22,47,48,49,50,50,50,50,50,51,52,53] (Ae y) at h
 obtain ⟨g0,h⟩:=Bc (Ke Tryz.underlying9 m) h
 obtain ⟨g1,h⟩:=Bc (Kp Tryz.underlying22 m) h
 obtain ⟨g2,h⟩:=Bc (Kp Tryz.underlying47 m) h
 obtain ⟨g3,h⟩:=Bc (Kp Tryz.underlying48 m) h
 obtain ⟨g4,h⟩:=Bc (Kp Tryz.underlying49 m) h
 obtain ⟨g5,h⟩:=Bc (Kp Tryz.underlying50 m) h
 obtain ⟨g6,h⟩:=Bc (Kp Tryz.underlying50 m) h
 obtain ⟨g7,h⟩:=Bc (Kp Tryz.underlying50 m) h
 obtain ⟨g8,h⟩:=Bc (Kp Tryz.underlying50 m) h
 obtain ⟨g9,h⟩:=Bc (Kp Tryz.underlying50 m) h
 obtain ⟨g10,h⟩:=Bc (Kp Tryz.underlying51 m) h
 obtain ⟨g11,h⟩:=Bc (Kp Tryz.underlying52 m) h
 obtain ⟨g12,h⟩:=Bc (Kp Tryz.underlying53 m) h
 exact ⟨Tr Tryz.underlying9 g0,B72 m _ g1,Cne m _ g2,Cnf m _ g3,Cng m _ g4,Bh5 m _ g5,Bh5 m _ g6,Bh5 m _ g7,Bh5 m _ g8,Bh5 m _ g9,Cnh m _ g10,Cni m _ g11,Cnj m _ g12⟩
theorem Cnb(n:Nat)(x:(List Aa))(h:Hn Tryz.prog n 23 [.lst false (.t55 x)]):(x.length≤maxLen∧∀y∈x,Ck y):=by
 obtain ⟨h1,m,_,h2⟩:=Aav Tryz.underlying23 h
 exact ⟨h1,fun y hy=>Cqk _ _ (Iz (row:=A1z) h2 y hy)⟩
theorem Cm4(n:Nat)(y:Bl)(h:Hn Tryz.prog n 167 (Jj y)):Aq6 y:=by
 obtain ⟨m,_,h⟩:=Hg Tryz.underlying167 h
 change S6 (Hn Tryz.prog m) [9,9,3] (Jj y) at h
 obtain ⟨g0,h⟩:=Bc (Ke Tryz.underlying9 m) h
 obtain ⟨g1,h⟩:=Bc (Ke Tryz.underlying9 m) h
 obtain ⟨g2,h⟩:=Bc (Hl Tryz.underlying3 m) h
 exact ⟨Tr Tryz.underlying9 g0,Tr Tryz.underlying9 g1,Nc Tryz.underlying3 g2⟩
theorem Cnc(n:Nat)(x:(List Bl))(h:Hn Tryz.prog n 24 [.lst false (.t167 x)]):(x.length≤maxLen∧∀y∈x,Aq6 y):=by
 obtain ⟨h1,m,_,h2⟩:=Aav Tryz.underlying24 h
 exact ⟨h1,fun y hy=>Cm4 _ _ (Iz (row:=As1) h2 y hy)⟩
theorem Cqi(n:Nat)(y:Ad)(h:Hn Tryz.prog n 26 (Aw y)):Yj y:=by
 obtain ⟨m,_,h⟩:=Hg Tryz.underlying26 h
 change S6 (Hn Tryz.prog m) [9,22,23,24] (Aw y) at h
 obtain ⟨g0,h⟩:=Bc (Ke Tryz.underlying9 m) h
 obtain ⟨g1,h⟩:=Bc (Kp Tryz.underlying22 m) h
 obtain ⟨g2,h⟩:=Bc (Kp Tryz.underlying23 m) h
 obtain ⟨g3,h⟩:=Bc (Kp Tryz.underlying24 m) h
 exact ⟨Tr Tryz.underlying9 g0,B72 m _ g1,Cnb m _ g2,Cnc m _ g3⟩
theorem Cqj(n:Nat)(y:Ah)(h:Hn Tryz.prog n 46 (Ed y)):Alx y:=by
 obtain ⟨m,_,h⟩:=Hg Tryz.underlying46 h
 change S6 (Hn Tryz.prog m) [9,35] (Ed y) at h
 obtain ⟨g0,h⟩:=Bc (Ke Tryz.underlying9 m) h
 obtain ⟨g1,h⟩:=Bc (Kp Tryz.underlying35 m) h
 exact ⟨Tr Tryz.underlying9 g0,Bqc m _ g1⟩
theorem Cnd(n:Nat)(x:(List Ah))(h:Hn Tryz.prog n 27 [.lst false (.t46 x)]):(x.length≤maxLen∧∀y∈x,Alx y):=by
 obtain ⟨h1,m,_,h2⟩:=Aav Tryz.underlying27 h
 exact ⟨h1,fun y hy=>Cqj _ _ (Iz (row:=A1y) h2 y hy)⟩
theorem Col(n m:Nat)(f:Nat→List PV)(hf:∀i,i < m→Hn Tryz.prog n 3 (f i)):∃x:LX,x.e=3∧x.len=m∧x.sz= Tryz.prog.cellsOf 3∧∀i,i < m→x.row i=f i:=by
 obtain ⟨l,h1,h2⟩:=Kj Bik m f (fun i hi=>let ⟨z,h,_⟩:=Hm Tryz.underlying3 (hf i hi);⟨z,h⟩)
 exact ⟨.t3 l,rfl,h1,by kernel_rfl,h2⟩
theorem Com(n m:Nat)(f:Nat→List PV)(hf:∀i,i < m→Hn Tryz.prog n 4 (f i)):∃x:LX,x.e=4∧x.len=m∧x.sz= Tryz.prog.cellsOf 4∧∀i,i < m→x.row i=f i:=by
 obtain ⟨l,h1,h2⟩:=Kj Btu m f (fun i hi=>let ⟨z,h⟩:=A74 Tryz.underlying4 (hf i hi);⟨z,h⟩)
 exact ⟨.t4 l,rfl,h1,by kernel_rfl,h2⟩
theorem Con(n m:Nat)(f:Nat→List PV)(hf:∀i,i < m→Hn Tryz.prog n 9 (f i)):∃x:LX,x.e=9∧x.len=m∧x.sz= Tryz.prog.cellsOf 9∧∀i,i < m→x.row i=f i:=by
 obtain ⟨l,h1,h2⟩:=Kj Bim m f (fun i hi=>let ⟨z,h,_⟩:=Kk Tryz.underlying9 (hf i hi);⟨z,h⟩)
 exact ⟨.t9 l,rfl,h1,by kernel_rfl,h2⟩
theorem Cf9(n m:Nat)(f:Nat→List PV)(hf:∀i,i < m→Hn Tryz.prog n 35 (f i)):∃x:LX,x.e=35∧x.len=m∧x.sz= Tryz.prog.cellsOf 35∧∀i,i < m→x.row i=f i:=by
 obtain ⟨l,h1,h2⟩:=Kj Bbh m f (fun i hi=>by
  obtain ⟨x,h,he,_⟩:=Hx Tryz.underlying35 (hf i hi)
  obtain ⟨z,rfl⟩:=lx3 x he
  exact ⟨z,h⟩)
 exact ⟨.t35 l,rfl,h1,by kernel_rfl,h2⟩
theorem Cga(n m:Nat)(f:Nat→List PV)(hf:∀i,i < m→Hn Tryz.prog n 46 (f i)):∃x:LX,x.e=46∧x.len=m∧x.sz= Tryz.prog.cellsOf 46∧∀i,i < m→x.row i=f i:=by
 obtain ⟨l,h1,h2⟩:=Kj A1y m f (fun i hi=>Cqd n _ (hf i hi))
 exact ⟨.t46 l,rfl,h1,by kernel_rfl,h2⟩
theorem Cgb(n m:Nat)(f:Nat→List PV)(hf:∀i,i < m→Hn Tryz.prog n 50 (f i)):∃x:LX,x.e=50∧x.len=m∧x.sz= Tryz.prog.cellsOf 50∧∀i,i < m→x.row i=f i:=by
 obtain ⟨l,h1,h2⟩:=Kj Bbi m f (fun i hi=>by
  obtain ⟨x,h,he,_⟩:=Hx Tryz.underlying50 (hf i hi)
  obtain ⟨z,rfl⟩:=lx9 x he
  exact ⟨z,h⟩)
 exact ⟨.t50 l,rfl,h1,by kernel_rfl,h2⟩
theorem Cgc(n m:Nat)(f:Nat→List PV)(hf:∀i,i < m→Hn Tryz.prog n 55 (f i)):∃x:LX,x.e=55∧x.len=m∧x.sz= Tryz.prog.cellsOf 55∧∀i,i < m→x.row i=f i:=by
 obtain ⟨l,h1,h2⟩:=Kj A1z m f (fun i hi=>Cqe n _ (hf i hi))
 exact ⟨.t55 l,rfl,h1,by kernel_rfl,h2⟩
theorem Cgd(n m:Nat)(f:Nat→List PV)(hf:∀i,i < m→Hn Tryz.prog n 57 (f i)):∃x:LX,x.e=57∧x.len=m∧x.sz= Tryz.prog.cellsOf 57∧∀i,i < m→x.row i=f i:=by
 obtain ⟨l,h1,h2⟩:=Kj Bbj m f (fun i hi=>by
  obtain ⟨x,h,he,_⟩:=Hx Tryz.underlying57 (hf i hi)
  obtain ⟨z,rfl⟩:=Bxs x he
  exact ⟨z,h⟩)
 exact ⟨.t57 l,rfl,h1,by kernel_rfl,h2⟩
theorem Cge(n m:Nat)(f:Nat→List PV)(hf:∀i,i < m→Hn Tryz.prog n 60 (f i)):∃x:LX,x.e=60∧x.len=m∧x.sz= Tryz.prog.cellsOf 60∧∀i,i < m→x.row i=f i:=by
 obtain ⟨l,h1,h2⟩:=Kj A10 m f (fun i hi=>Cqf n _ (hf i hi))
 exact ⟨.t60 l,rfl,h1,by kernel_rfl,h2⟩
theorem Cgf(n m:Nat)(f:Nat→List PV)(hf:∀i,i < m→Hn Tryz.prog n 75 (f i)):∃x:LX,x.e=75∧x.len=m∧x.sz= Tryz.prog.cellsOf 75∧∀i,i < m→x.row i=f i:=by
 obtain ⟨l,h1,h2⟩:=Kj Bbk m f (fun i hi=>let ⟨z,h,_⟩:=Hm Tryz.underlying75 (hf i hi);⟨z,h⟩)
 exact ⟨.t75 l,rfl,h1,by kernel_rfl,h2⟩
theorem Cgg(n m:Nat)(f:Nat→List PV)(hf:∀i,i < m→Hn Tryz.prog n 77 (f i)):∃x:LX,x.e=77∧x.len=m∧x.sz= Tryz.prog.cellsOf 77∧∀i,i < m→x.row i=f i:=by
 obtain ⟨l,h1,h2⟩:=Kj A11 m f (fun i hi=>Cqg n _ (hf i hi))
 exact ⟨.t77 l,rfl,h1,by kernel_rfl,h2⟩
theorem Cgh(n m:Nat)(f:Nat→List PV)(hf:∀i,i < m→Hn Tryz.prog n 94 (f i)):∃x:LX,x.e=94∧x.len=m∧x.sz= Tryz.prog.cellsOf 94∧∀i,i < m→x.row i=f i:=by
 obtain ⟨l,h1,h2⟩:=Kj Aup m f (fun i hi=>B5t n _ (hf i hi))
 exact ⟨.t94 l,rfl,h1,by kernel_rfl,h2⟩
theorem Cgi(n m:Nat)(f:Nat→List PV)(hf:∀i,i < m→Hn Tryz.prog n 99 (f i)):∃x:LX,x.e=99∧x.len=m∧x.sz= Tryz.prog.cellsOf 99∧∀i,i < m→x.row i=f i:=by
 obtain ⟨l,h1,h2⟩:=Kj Aqn m f (fun i hi=>Cqh n _ (hf i hi))
 exact ⟨.t99 l,rfl,h1,by kernel_rfl,h2⟩
theorem B6m(n m:Nat)(f:Nat→List PV)(hf:∀i,i < m→Hn Tryz.prog n 145 (f i)):∃x:LX,x.e=145∧x.len=m∧x.sz= Tryz.prog.cellsOf 145∧∀i,i < m→x.row i=f i:=by
 obtain ⟨l,h1,h2⟩:=Kj Asx m f (fun i hi=>Cmm n _ (hf i hi))
 exact ⟨.t145 l,rfl,h1,by kernel_rfl,h2⟩
theorem B6n(n m:Nat)(f:Nat→List PV)(hf:∀i,i < m→Hn Tryz.prog n 151 (f i)):∃x:LX,x.e=151∧x.len=m∧x.sz= Tryz.prog.cellsOf 151∧∀i,i < m→x.row i=f i:=by
 obtain ⟨l,h1,h2⟩:=Kj Asy m f (fun i hi=>Cmn n _ (hf i hi))
 exact ⟨.t151 l,rfl,h1,by kernel_rfl,h2⟩
theorem B6o(n m:Nat)(f:Nat→List PV)(hf:∀i,i < m→Hn Tryz.prog n 155 (f i)):∃x:LX,x.e=155∧x.len=m∧x.sz= Tryz.prog.cellsOf 155∧∀i,i < m→x.row i=f i:=by
 obtain ⟨l,h1,h2⟩:=Kj Asz m f (fun i hi=>Cmo n _ (hf i hi))
 exact ⟨.t155 l,rfl,h1,by kernel_rfl,h2⟩
theorem B6p(n m:Nat)(f:Nat→List PV)(hf:∀i,i < m→Hn Tryz.prog n 161 (f i)):∃x:LX,x.e=161∧x.len=m∧x.sz= Tryz.prog.cellsOf 161∧∀i,i < m→x.row i=f i:=by
 obtain ⟨l,h1,h2⟩:=Kj As0 m f (fun i hi=>Cmp n _ (hf i hi))
 exact ⟨.t161 l,rfl,h1,by kernel_rfl,h2⟩
theorem B6q(n m:Nat)(f:Nat→List PV)(hf:∀i,i < m→Hn Tryz.prog n 167 (f i)):∃x:LX,x.e=167∧x.len=m∧x.sz= Tryz.prog.cellsOf 167∧∀i,i < m→x.row i=f i:=by
 obtain ⟨l,h1,h2⟩:=Kj As1 m f (fun i hi=>Cmq n _ (hf i hi))
 exact ⟨.t167 l,rfl,h1,by kernel_rfl,h2⟩
theorem B6r(n m:Nat)(f:Nat→List PV)(hf:∀i,i < m→Hn Tryz.prog n 180 (f i)):∃x:LX,x.e=180∧x.len=m∧x.sz= Tryz.prog.cellsOf 180∧∀i,i < m→x.row i=f i:=by
 obtain ⟨l,h1,h2⟩:=Kj As2 m f (fun i hi=>Cmr n _ (hf i hi))
 exact ⟨.t180 l,rfl,h1,by kernel_rfl,h2⟩
theorem B6s(n m:Nat)(f:Nat→List PV)(hf:∀i,i < m→Hn Tryz.prog n 184 (f i)):∃x:LX,x.e=184∧x.len=m∧x.sz= Tryz.prog.cellsOf 184∧∀i,i < m→x.row i=f i:=by
 obtain ⟨l,h1,h2⟩:=Kj As3 m f (fun i hi=>Cms n _ (hf i hi))
 exact ⟨.t184 l,rfl,h1,by kernel_rfl,h2⟩
theorem B6t(n m:Nat)(f:Nat→List PV)(hf:∀i,i < m→Hn Tryz.prog n 190 (f i)):∃x:LX,x.e=190∧x.len=m∧x.sz= Tryz.prog.cellsOf 190∧∀i,i < m→x.row i=f i:=by
 obtain ⟨l,h1,h2⟩:=Kj As4 m f (fun i hi=>Cmt n _ (hf i hi))
 exact ⟨.t190 l,rfl,h1,by kernel_rfl,h2⟩
theorem B6u(n m:Nat)(f:Nat→List PV)(hf:∀i,i < m→Hn Tryz.prog n 195 (f i)):∃x:LX,x.e=195∧x.len=m∧x.sz= Tryz.prog.cellsOf 195∧∀i,i < m→x.row i=f i:=by
 obtain ⟨l,h1,h2⟩:=Kj As5 m f (fun i hi=>Cmu n _ (hf i hi))
 exact ⟨.t195 l,rfl,h1,by kernel_rfl,h2⟩
def rdL:List Nat:= [3,4,9,22,23,24,26,27,35,46,47,48,49,50,51,52,53,55,57,58,60,75,77,90,91,92,94,95,97,99,121,141,143,145,149,151,155,161,167,178,180,184,190,195]
theorem Cq1:A46 Tryz.prog rdL:=by
 intro e n m f he hs hf
 simp only [rdL,List.mem_cons,List.not_mem_nil,or_false] at he
 rcases he with rfl|rfl|rfl|rfl|rfl|rfl|rfl|rfl|rfl|rfl|rfl|rfl|rfl|rfl|rfl|rfl|rfl|rfl|rfl|rfl|rfl|rfl|rfl|rfl|rfl|rfl|rfl|rfl|rfl|rfl|rfl|rfl|rfl|rfl|rfl|rfl|rfl|rfl|rfl|rfl|rfl|rfl|rfl|rfl
 ·exact Col n m f hf
 ·exact Com n m f hf
 ·exact Con n m f hf
 ·exact nomatch hs
 ·exact nomatch hs
 ·exact nomatch hs
 ·exact nomatch hs
 ·exact nomatch hs
 ·exact Cf9 n m f hf
 ·exact Cga n m f hf
 ·exact nomatch hs
 ·exact nomatch hs
 ·exact nomatch hs
 ·exact Cgb n m f hf
 ·exact nomatch hs
 ·exact nomatch hs
 ·exact nomatch hs
 ·exact Cgc n m f hf
 ·exact Cgd n m f hf
 ·exact nomatch hs
 ·exact Cge n m f hf
 ·exact Cgf n m f hf
 ·exact Cgg n m f hf
 ·exact nomatch hs
 ·exact nomatch hs
 ·exact nomatch hs
 ·exact Cgh n m f hf
 ·exact nomatch hs
 ·exact nomatch hs
 ·exact Cgi n m f hf
 ·exact nomatch hs
 ·exact nomatch hs
 ·exact nomatch hs
 ·exact B6m n m f hf
 ·exact nomatch hs
 ·exact B6n n m f hf
 ·exact B6o n m f hf
 ·exact B6p n m f hf
 ·exact B6q n m f hf
 ·exact nomatch hs
 ·exact B6r n m f hf
 ·exact B6s n m f hf
 ·exact B6t n m f hf
 ·exact B6u n m f hf
theorem Cq2:Bhp Tryz.prog rdL=true:=by kernel_rfl
end Go.Proofs.YtfencmicmnhglaaGreat.Ev
