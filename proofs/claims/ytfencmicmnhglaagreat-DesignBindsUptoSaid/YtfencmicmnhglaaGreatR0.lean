/-  What is read. -/
import Derived.Test.YtfencmicmnhglaaGreatG0
import Derived.Test.YtfencmicmnhglaaGreatFW
namespace Go.Proofs.YtfencmicmnhglaaGreat.Ev
open Go An
set_option maxRecDepth 100000
set_option maxHeartbeats 4000000
set_option linter.unusedVariables false
set_option linter.unusedSimpArgs false
set_option linter.unnecessarySimpa false
inductive B9:Ab→Prop
 |mk (a0:Int) (a1:ByteArray) (a2:Int) (a3:(List Ab)) (h0_0:okI .i64 a0) (h1_0:okS a1) (h2_0:okI .i64 a2) (h3_0:a3.length≤maxLen) (h3_1:∀y∈a3,B9 y):B9 (.mk a0 a1 a2 a3)
def R9(x:Aq):Prop:=okS x.Name∧okI .i64 x.Length∧okI .i64 x.Step
def Adl(x:Cy):Prop:=okI .i64 x.At∧okI .i64 x.Units
def w7(x:Bv):Prop:=okI .i64 x.Op∧okI .i64 x.A∧okI .i64 x.B∧okI .i64 x.N∧(x.Values.length≤maxLen∧∀y∈x.Values,okI .i64 y)∧(x.Weights.length≤maxLen∧∀y∈x.Weights,okI .i64 y)
def Om(x:Ap):Prop:=okS x.Name∧okI .i64 x.Type_
def Ahw(x:Aw):Prop:=okI .i64 x.Coef∧okS x.What∧okS x.Name
def Ab0(x:A9):Prop:=okS x.Name∧(x.Terms.length≤maxLen∧∀y∈x.Terms,Ahw y)∧okI .i64 x.Total
def Amc(x:Gf):Prop:=okS x.Stream∧w7 x.Up∧w7 x.Down
def P7(x:Ai):Prop:=okS x.Name∧okI .i64 x.Units∧(x.Shift.length≤maxLen∧∀y∈x.Shift,Adl y)∧okI .i64 x.Cycle∧Amc x.Fault
inductive Cs:Ac→Prop
 |mk (a0:Int) (a1:ByteArray) (a2:ByteArray) (a3:Ab) (a4:Ab) (a5:(List Ab)) (a6:Bv) (a7:Bool) (a8:(List Ac)) (a9:(List Ac)) (h0_0:okI .i64 a0) (h1_0:okS a1) (h2_0:okS a2) (h3_0:B9 a3) (h4_0:B9 a4) (h5_0:a5.length≤maxLen) (h5_1:∀y∈a5,B9 y) (h6_0:w7 a6) (h7_0:True) (h8_0:a8.length≤maxLen) (h8_1:∀y∈a8,Cs y) (h9_0:a9.length≤maxLen) (h9_1:∀y∈a9,Cs y):Cs (.mk a0 a1 a2 a3 a4 a5 a6 a7 a8 a9)
def Ku(x:Ak):Prop:=okS x.Name∧(x.Params.length≤maxLen∧∀y∈x.Params,Om y)∧(x.Locals.length≤maxLen∧∀y∈x.Locals,Om y)∧(x.Body.length≤maxLen∧∀y∈x.Body,Cs y)
def Abo(x:Bo):Prop:=okS x.Routine∧(x.Args.length≤maxLen∧∀y∈x.Args,okI .i64 y)∧okI .i64 x.At∧okI .i64 x.Every∧okI .i64 x.Until
def Qd(x:Am):Prop:=okS x.Name∧okI .i64 x.Room∧okI .i64 x.Policy
def On(x:Ah):Prop:=okS x.Name∧okI .i64 x.Type_∧okI .i64 x.N
def B6(x:Aa):Prop:=okS x.Name∧(x.Vars.length≤maxLen∧∀y∈x.Vars,On y)∧(x.Resources.length≤maxLen∧∀y∈x.Resources,P7 y)∧(x.Stores.length≤maxLen∧∀y∈x.Stores,Qd y)∧(x.Belts.length≤maxLen∧∀y∈x.Belts,R9 y)∧(x.Queues.length≤maxLen∧∀y∈x.Queues,okS y)∧(x.Streams.length≤maxLen∧∀y∈x.Streams,okS y)∧(x.Tallies.length≤maxLen∧∀y∈x.Tallies,okS y)∧(x.Levels.length≤maxLen∧∀y∈x.Levels,okS y)∧(x.Counts.length≤maxLen∧∀y∈x.Counts,okS y)∧(x.Routines.length≤maxLen∧∀y∈x.Routines,Ku y)∧(x.Starts.length≤maxLen∧∀y∈x.Starts,Abo y)∧(x.Laws.length≤maxLen∧∀y∈x.Laws,Ab0 y)
def Ju(x:Bf):Prop:=(x.Params.length≤maxLen∧∀y∈x.Params,On y)∧(x.Locals.length≤maxLen∧∀y∈x.Locals,Om y)∧B6 x.Site
def Adm(x:Af):Prop:=okS x.Name∧(x.Levels.length≤maxLen∧∀y∈x.Levels,okI .i64 y)
def Ahv(x:Be):Prop:=okS x.From∧okS x.To∧okI .i64 x.Delay
def Yb(x:Ad):Prop:=okS x.Name∧(x.Params.length≤maxLen∧∀y∈x.Params,On y)∧(x.Sites.length≤maxLen∧∀y∈x.Sites,B6 y)∧(x.Links.length≤maxLen∧∀y∈x.Links,Ahv y)
theorem lx3(x:LX)(h:x.e=3):∃l,x= .t3 l:=by
 cases x<;>first|exact ⟨_,rfl⟩|(simp [LX.e] at h)
theorem lx9(x:LX)(h:x.e=9):∃l,x= .t9 l:=by
 cases x<;>first|exact ⟨_,rfl⟩|(simp [LX.e] at h)
theorem B3u(x:LX)(h:x.e=46):∃l,x= .t46 l:=by
 cases x<;>first|exact ⟨_,rfl⟩|(simp [LX.e] at h)
theorem B3v(x:LX)(h:x.e=55):∃l,x= .t55 l:=by
 cases x<;>first|exact ⟨_,rfl⟩|(simp [LX.e] at h)
theorem B3w(x:LX)(h:x.e=60):∃l,x= .t60 l:=by
 cases x<;>first|exact ⟨_,rfl⟩|(simp [LX.e] at h)
theorem Bz4(x:LX)(h:x.e=77):∃l,x= .t77 l:=by
 cases x<;>first|exact ⟨_,rfl⟩|(simp [LX.e] at h)
theorem Bz5(x:LX)(h:x.e=94):∃l,x= .t94 l:=by
 cases x<;>first|exact ⟨_,rfl⟩|(simp [LX.e] at h)
theorem Bsz(x:LX)(h:x.e=99):∃l,x= .t99 l:=by
 cases x<;>first|exact ⟨_,rfl⟩|(simp [LX.e] at h)
theorem Bzv(x:LX)(h:x.e=145):∃l,x= .t145 l:=by
 cases x<;>first|exact ⟨_,rfl⟩|(simp [LX.e] at h)
theorem Bzw(x:LX)(h:x.e=151):∃l,x= .t151 l:=by
 cases x<;>first|exact ⟨_,rfl⟩|(simp [LX.e] at h)
theorem Bzx(x:LX)(h:x.e=155):∃l,x= .t155 l:=by
 cases x<;>first|exact ⟨_,rfl⟩|(simp [LX.e] at h)
theorem Bzy(x:LX)(h:x.e=161):∃l,x= .t161 l:=by
 cases x<;>first|exact ⟨_,rfl⟩|(simp [LX.e] at h)
theorem Bzz(x:LX)(h:x.e=167):∃l,x= .t167 l:=by
 cases x<;>first|exact ⟨_,rfl⟩|(simp [LX.e] at h)
theorem Bz0(x:LX)(h:x.e=180):∃l,x= .t180 l:=by
 cases x<;>first|exact ⟨_,rfl⟩|(simp [LX.e] at h)
theorem Bz1(x:LX)(h:x.e=184):∃l,x= .t184 l:=by
 cases x<;>first|exact ⟨_,rfl⟩|(simp [LX.e] at h)
theorem Bgl(x:LX)(h:x.e=190):∃l,x= .t190 l:=by
 cases x<;>first|exact ⟨_,rfl⟩|(simp [LX.e] at h)
theorem Bz2(x:LX)(h:x.e=195):∃l,x= .t195 l:=by
 cases x<;>first|exact ⟨_,rfl⟩|(simp [LX.e] at h)
theorem B3x(n:Nat)(l:List PV)(h:Gj Tryz.prog n 26 l):∃y:Ad,l=Ar y:=by
 obtain ⟨m,_,h⟩:=Ge Tryz.underlying26 h
 change P6 (Gj Tryz.prog m) [9,22,23,24] l at h
 obtain ⟨a0,b0,rfl,h0,a1,b1,rfl,h1,a2,b2,rfl,h2,a3,b3,rfl,h3,rfl⟩:=h
 obtain ⟨z0,rfl,_⟩:=Jo Tryz.underlying9 h0
 obtain ⟨x1,rfl,e1,_,_,_,_⟩:=Gw Tryz.underlying22 h1
 obtain ⟨z1,rfl⟩:=Bz4 x1 e1
 obtain ⟨x2,rfl,e2,_,_,_,_⟩:=Gw Tryz.underlying23 h2
 obtain ⟨z2,rfl⟩:=B3v x2 e2
 obtain ⟨x3,rfl,e3,_,_,_,_⟩:=Gw Tryz.underlying24 h3
 obtain ⟨z3,rfl⟩:=Bzz x3 e3
 exact ⟨.mk z0 z1 z2 z3,rfl⟩
theorem B3y(n:Nat)(l:List PV)(h:Gj Tryz.prog n 46 l):∃y:Af,l=Dy y:=by
 obtain ⟨m,_,h⟩:=Ge Tryz.underlying46 h
 change P6 (Gj Tryz.prog m) [9,35] l at h
 obtain ⟨a0,b0,rfl,h0,a1,b1,rfl,h1,rfl⟩:=h
 obtain ⟨z0,rfl,_⟩:=Jo Tryz.underlying9 h0
 obtain ⟨x1,rfl,e1,_,_,_,_⟩:=Gw Tryz.underlying35 h1
 obtain ⟨z1,rfl⟩:=lx3 x1 e1
 exact ⟨.mk z0 z1,rfl⟩
theorem B3z(n:Nat)(l:List PV)(h:Gj Tryz.prog n 55 l):∃y:Aa,l=Ae y:=by
 obtain ⟨m,_,h⟩:=Ge Tryz.underlying55 h
 change P6 (Gj Tryz.prog m) [9,22,47,48,49,50,50,50,50,50,51,52,53] l at h
 obtain ⟨a0,b0,rfl,h0,a1,b1,rfl,h1,a2,b2,rfl,h2,a3,b3,rfl,h3,a4,b4,rfl,h4,a5,b5,rfl,h5,a6,b6,rfl,h6,a7,b7,rfl,h7,a8,b8,rfl,h8,a9,b9,rfl,h9,a10,b10,rfl,h10,a11,b11,rfl,h11,a12,b12,rfl,h12,rfl⟩:=h
 obtain ⟨z0,rfl,_⟩:=Jo Tryz.underlying9 h0
 obtain ⟨x1,rfl,e1,_,_,_,_⟩:=Gw Tryz.underlying22 h1
 obtain ⟨z1,rfl⟩:=Bz4 x1 e1
 obtain ⟨x2,rfl,e2,_,_,_,_⟩:=Gw Tryz.underlying47 h2
 obtain ⟨z2,rfl⟩:=Bzv x2 e2
 obtain ⟨x3,rfl,e3,_,_,_,_⟩:=Gw Tryz.underlying48 h3
 obtain ⟨z3,rfl⟩:=Bzw x3 e3
 obtain ⟨x4,rfl,e4,_,_,_,_⟩:=Gw Tryz.underlying49 h4
 obtain ⟨z4,rfl⟩:=Bzx x4 e4
 obtain ⟨x5,rfl,e5,_,_,_,_⟩:=Gw Tryz.underlying50 h5
 obtain ⟨z5,rfl⟩:=lx9 x5 e5
 obtain ⟨x6,rfl,e6,_,_,_,_⟩:=Gw Tryz.underlying50 h6
 obtain ⟨z6,rfl⟩:=lx9 x6 e6
 obtain ⟨x7,rfl,e7,_,_,_,_⟩:=Gw Tryz.underlying50 h7
 obtain ⟨z7,rfl⟩:=lx9 x7 e7
 obtain ⟨x8,rfl,e8,_,_,_,_⟩:=Gw Tryz.underlying50 h8
 obtain ⟨z8,rfl⟩:=lx9 x8 e8
 obtain ⟨x9,rfl,e9,_,_,_,_⟩:=Gw Tryz.underlying50 h9
 obtain ⟨z9,rfl⟩:=lx9 x9 e9
 obtain ⟨x10,rfl,e10,_,_,_,_⟩:=Gw Tryz.underlying51 h10
 obtain ⟨z10,rfl⟩:=B3w x10 e10
 obtain ⟨x11,rfl,e11,_,_,_,_⟩:=Gw Tryz.underlying52 h11
 obtain ⟨z11,rfl⟩:=Bzy x11 e11
 obtain ⟨x12,rfl,e12,_,_,_,_⟩:=Gw Tryz.underlying53 h12
 obtain ⟨z12,rfl⟩:=Bz0 x12 e12
 exact ⟨.mk z0 z1 z2 z3 z4 z5 z6 z7 z8 z9 z10 z11 z12,rfl⟩
theorem B30(n:Nat)(l:List PV)(h:Gj Tryz.prog n 60 l):∃y:Ak,l=Bw y:=by
 obtain ⟨m,_,h⟩:=Ge Tryz.underlying60 h
 change P6 (Gj Tryz.prog m) [9,57,57,58] l at h
 obtain ⟨a0,b0,rfl,h0,a1,b1,rfl,h1,a2,b2,rfl,h2,a3,b3,rfl,h3,rfl⟩:=h
 obtain ⟨z0,rfl,_⟩:=Jo Tryz.underlying9 h0
 obtain ⟨x1,rfl,e1,_,_,_,_⟩:=Gw Tryz.underlying57 h1
 obtain ⟨z1,rfl⟩:=Bgl x1 e1
 obtain ⟨x2,rfl,e2,_,_,_,_⟩:=Gw Tryz.underlying57 h2
 obtain ⟨z2,rfl⟩:=Bgl x2 e2
 obtain ⟨x3,rfl,e3,_,_,_,_⟩:=Gw Tryz.underlying58 h3
 obtain ⟨z3,rfl⟩:=Bsz x3 e3
 exact ⟨.mk z0 z1 z2 z3,rfl⟩
theorem B31(n:Nat)(l:List PV)(h:Gj Tryz.prog n 77 l):∃y:Ah,l=Bz y:=by
 obtain ⟨m,_,h⟩:=Ge Tryz.underlying77 h
 change P6 (Gj Tryz.prog m) [9,75,3] l at h
 obtain ⟨a0,b0,rfl,h0,a1,b1,rfl,h1,a2,b2,rfl,h2,rfl⟩:=h
 obtain ⟨z0,rfl,_⟩:=Jo Tryz.underlying9 h0
 obtain ⟨z1,rfl,_⟩:=Fv Tryz.underlying75 h1
 obtain ⟨z2,rfl,_⟩:=Fv Tryz.underlying3 h2
 exact ⟨.mk z0 z1 z2,rfl⟩
theorem Bmf(n:Nat)(l:List PV)(h:Gj Tryz.prog n 94 l):∃y:Ab,l=F3 y:=by
 obtain ⟨m,_,h⟩:=Ge Tryz.underlying94 h
 change P6 (Gj Tryz.prog m) [91,9,3,92] l at h
 obtain ⟨a0,b0,rfl,h0,a1,b1,rfl,h1,a2,b2,rfl,h2,a3,b3,rfl,h3,rfl⟩:=h
 obtain ⟨z0,rfl,_⟩:=Fv Tryz.underlying91 h0
 obtain ⟨z1,rfl,_⟩:=Jo Tryz.underlying9 h1
 obtain ⟨z2,rfl,_⟩:=Fv Tryz.underlying3 h2
 obtain ⟨x3,rfl,e3,_,_,_,_⟩:=Gw Tryz.underlying92 h3
 obtain ⟨z3,rfl⟩:=Bz5 x3 e3
 exact ⟨.mk z0 z1 z2 z3,rfl⟩
theorem w94(n:Nat):∀l,Gj Tryz.prog n 94 l→l.length=4:=fun l h=>by obtain ⟨y,rfl⟩:=Bmf n l h;rfl
theorem Bmg(n:Nat)(l:List PV)(h:Gj Tryz.prog n 97 l):∃y:Bv,l=T0 y:=by
 obtain ⟨m,_,h⟩:=Ge Tryz.underlying97 h
 change P6 (Gj Tryz.prog m) [95,3,3,3,35,35] l at h
 obtain ⟨a0,b0,rfl,h0,a1,b1,rfl,h1,a2,b2,rfl,h2,a3,b3,rfl,h3,a4,b4,rfl,h4,a5,b5,rfl,h5,rfl⟩:=h
 obtain ⟨z0,rfl,_⟩:=Fv Tryz.underlying95 h0
 obtain ⟨z1,rfl,_⟩:=Fv Tryz.underlying3 h1
 obtain ⟨z2,rfl,_⟩:=Fv Tryz.underlying3 h2
 obtain ⟨z3,rfl,_⟩:=Fv Tryz.underlying3 h3
 obtain ⟨x4,rfl,e4,_,_,_,_⟩:=Gw Tryz.underlying35 h4
 obtain ⟨z4,rfl⟩:=lx3 x4 e4
 obtain ⟨x5,rfl,e5,_,_,_,_⟩:=Gw Tryz.underlying35 h5
 obtain ⟨z5,rfl⟩:=lx3 x5 e5
 exact ⟨.mk z0 z1 z2 z3 z4 z5,rfl⟩
theorem w97(n:Nat):∀l,Gj Tryz.prog n 97 l→l.length=6:=fun l h=>by obtain ⟨y,rfl⟩:=Bmg n l h;rfl
theorem B32(n:Nat)(l:List PV)(h:Gj Tryz.prog n 99 l):∃y:Ac,l=Eo y:=by
 obtain ⟨m,_,h⟩:=Ge Tryz.underlying99 h
 change P6 (Gj Tryz.prog m) [90,9,9,94,94,92,97,4,58,58] l at h
 obtain ⟨a0,b0,rfl,h0,a1,b1,rfl,h1,a2,b2,rfl,h2,a3,b3,rfl,h3,a4,b4,rfl,h4,a5,b5,rfl,h5,a6,b6,rfl,h6,a7,b7,rfl,h7,a8,b8,rfl,h8,a9,b9,rfl,h9,rfl⟩:=h
 obtain ⟨z0,rfl,_⟩:=Fv Tryz.underlying90 h0
 obtain ⟨z1,rfl,_⟩:=Jo Tryz.underlying9 h1
 obtain ⟨z2,rfl,_⟩:=Jo Tryz.underlying9 h2
 obtain ⟨z3,rfl⟩:=Bmf m _ h3
 obtain ⟨z4,rfl⟩:=Bmf m _ h4
 obtain ⟨x5,rfl,e5,_,_,_,_⟩:=Gw Tryz.underlying92 h5
 obtain ⟨z5,rfl⟩:=Bz5 x5 e5
 obtain ⟨z6,rfl⟩:=Bmg m _ h6
 obtain ⟨z7,rfl⟩:=Au9 Tryz.underlying4 h7
 obtain ⟨x8,rfl,e8,_,_,_,_⟩:=Gw Tryz.underlying58 h8
 obtain ⟨z8,rfl⟩:=Bsz x8 e8
 obtain ⟨x9,rfl,e9,_,_,_,_⟩:=Gw Tryz.underlying58 h9
 obtain ⟨z9,rfl⟩:=Bsz x9 e9
 exact ⟨.mk z0 z1 z2 z3 z4 z5 z6 z7 z8 z9,rfl⟩
theorem Bo3(n:Nat)(l:List PV)(h:Gj Tryz.prog n 143 l):∃y:Gf,l=Rj y:=by
 obtain ⟨m,_,h⟩:=Ge Tryz.underlying143 h
 change P6 (Gj Tryz.prog m) [9,97,97] l at h
 obtain ⟨a0,b0,rfl,h0,a1,b1,rfl,h1,a2,b2,rfl,h2,rfl⟩:=h
 obtain ⟨z0,rfl,_⟩:=Jo Tryz.underlying9 h0
 obtain ⟨z1,rfl⟩:=Bmg m _ h1
 obtain ⟨z2,rfl⟩:=Bmg m _ h2
 exact ⟨.mk z0 z1 z2,rfl⟩
theorem B19(n:Nat):∀l,Gj Tryz.prog n 143 l→l.length=13:=fun l h=>by obtain ⟨y,rfl⟩:=Bo3 n l h;rfl
theorem Bz7(n:Nat)(l:List PV)(h:Gj Tryz.prog n 145 l):∃y:Ai,l=Bl y:=by
 obtain ⟨m,_,h⟩:=Ge Tryz.underlying145 h
 change P6 (Gj Tryz.prog m) [9,3,141,3,143] l at h
 obtain ⟨a0,b0,rfl,h0,a1,b1,rfl,h1,a2,b2,rfl,h2,a3,b3,rfl,h3,a4,b4,rfl,h4,rfl⟩:=h
 obtain ⟨z0,rfl,_⟩:=Jo Tryz.underlying9 h0
 obtain ⟨z1,rfl,_⟩:=Fv Tryz.underlying3 h1
 obtain ⟨x2,rfl,e2,_,_,_,_⟩:=Gw Tryz.underlying141 h2
 obtain ⟨z2,rfl⟩:=Bz1 x2 e2
 obtain ⟨z3,rfl,_⟩:=Fv Tryz.underlying3 h3
 obtain ⟨z4,rfl⟩:=Bo3 m _ h4
 exact ⟨.mk z0 z1 z2 z3 z4,rfl⟩
theorem Bz8(n:Nat)(l:List PV)(h:Gj Tryz.prog n 151 l):∃y:Am,l=Co y:=by
 obtain ⟨m,_,h⟩:=Ge Tryz.underlying151 h
 change P6 (Gj Tryz.prog m) [9,3,149] l at h
 obtain ⟨a0,b0,rfl,h0,a1,b1,rfl,h1,a2,b2,rfl,h2,rfl⟩:=h
 obtain ⟨z0,rfl,_⟩:=Jo Tryz.underlying9 h0
 obtain ⟨z1,rfl,_⟩:=Fv Tryz.underlying3 h1
 obtain ⟨z2,rfl,_⟩:=Fv Tryz.underlying149 h2
 exact ⟨.mk z0 z1 z2,rfl⟩
theorem Bz9(n:Nat)(l:List PV)(h:Gj Tryz.prog n 155 l):∃y:Aq,l=Cu y:=by
 obtain ⟨m,_,h⟩:=Ge Tryz.underlying155 h
 change P6 (Gj Tryz.prog m) [9,3,3] l at h
 obtain ⟨a0,b0,rfl,h0,a1,b1,rfl,h1,a2,b2,rfl,h2,rfl⟩:=h
 obtain ⟨z0,rfl,_⟩:=Jo Tryz.underlying9 h0
 obtain ⟨z1,rfl,_⟩:=Fv Tryz.underlying3 h1
 obtain ⟨z2,rfl,_⟩:=Fv Tryz.underlying3 h2
 exact ⟨.mk z0 z1 z2,rfl⟩
theorem B0a(n:Nat)(l:List PV)(h:Gj Tryz.prog n 161 l):∃y:Bo,l=Ou y:=by
 obtain ⟨m,_,h⟩:=Ge Tryz.underlying161 h
 change P6 (Gj Tryz.prog m) [9,35,3,3,3] l at h
 obtain ⟨a0,b0,rfl,h0,a1,b1,rfl,h1,a2,b2,rfl,h2,a3,b3,rfl,h3,a4,b4,rfl,h4,rfl⟩:=h
 obtain ⟨z0,rfl,_⟩:=Jo Tryz.underlying9 h0
 obtain ⟨x1,rfl,e1,_,_,_,_⟩:=Gw Tryz.underlying35 h1
 obtain ⟨z1,rfl⟩:=lx3 x1 e1
 obtain ⟨z2,rfl,_⟩:=Fv Tryz.underlying3 h2
 obtain ⟨z3,rfl,_⟩:=Fv Tryz.underlying3 h3
 obtain ⟨z4,rfl,_⟩:=Fv Tryz.underlying3 h4
 exact ⟨.mk z0 z1 z2 z3 z4,rfl⟩
theorem B0b(n:Nat)(l:List PV)(h:Gj Tryz.prog n 167 l):∃y:Be,l=Jv y:=by
 obtain ⟨m,_,h⟩:=Ge Tryz.underlying167 h
 change P6 (Gj Tryz.prog m) [9,9,3] l at h
 obtain ⟨a0,b0,rfl,h0,a1,b1,rfl,h1,a2,b2,rfl,h2,rfl⟩:=h
 obtain ⟨z0,rfl,_⟩:=Jo Tryz.underlying9 h0
 obtain ⟨z1,rfl,_⟩:=Jo Tryz.underlying9 h1
 obtain ⟨z2,rfl,_⟩:=Fv Tryz.underlying3 h2
 exact ⟨.mk z0 z1 z2,rfl⟩
theorem B0c(n:Nat)(l:List PV)(h:Gj Tryz.prog n 180 l):∃y:A9,l=Dr y:=by
 obtain ⟨m,_,h⟩:=Ge Tryz.underlying180 h
 change P6 (Gj Tryz.prog m) [9,178,3] l at h
 obtain ⟨a0,b0,rfl,h0,a1,b1,rfl,h1,a2,b2,rfl,h2,rfl⟩:=h
 obtain ⟨z0,rfl,_⟩:=Jo Tryz.underlying9 h0
 obtain ⟨x1,rfl,e1,_,_,_,_⟩:=Gw Tryz.underlying178 h1
 obtain ⟨z1,rfl⟩:=Bz2 x1 e1
 obtain ⟨z2,rfl,_⟩:=Fv Tryz.underlying3 h2
 exact ⟨.mk z0 z1 z2,rfl⟩
theorem B0d(n:Nat)(l:List PV)(h:Gj Tryz.prog n 184 l):∃y:Cy,l=Yr y:=by
 obtain ⟨m,_,h⟩:=Ge Tryz.underlying184 h
 change P6 (Gj Tryz.prog m) [3,3] l at h
 obtain ⟨a0,b0,rfl,h0,a1,b1,rfl,h1,rfl⟩:=h
 obtain ⟨z0,rfl,_⟩:=Fv Tryz.underlying3 h0
 obtain ⟨z1,rfl,_⟩:=Fv Tryz.underlying3 h1
 exact ⟨.mk z0 z1,rfl⟩
theorem B0e(n:Nat)(l:List PV)(h:Gj Tryz.prog n 190 l):∃y:Ap,l=Mo y:=by
 obtain ⟨m,_,h⟩:=Ge Tryz.underlying190 h
 change P6 (Gj Tryz.prog m) [9,75] l at h
 obtain ⟨a0,b0,rfl,h0,a1,b1,rfl,h1,rfl⟩:=h
 obtain ⟨z0,rfl,_⟩:=Jo Tryz.underlying9 h0
 obtain ⟨z1,rfl,_⟩:=Fv Tryz.underlying75 h1
 exact ⟨.mk z0 z1,rfl⟩
theorem B0f(n:Nat)(l:List PV)(h:Gj Tryz.prog n 195 l):∃y:Aw,l=Gk y:=by
 obtain ⟨m,_,h⟩:=Ge Tryz.underlying195 h
 change P6 (Gj Tryz.prog m) [3,9,9] l at h
 obtain ⟨a0,b0,rfl,h0,a1,b1,rfl,h1,a2,b2,rfl,h2,rfl⟩:=h
 obtain ⟨z0,rfl,_⟩:=Fv Tryz.underlying3 h0
 obtain ⟨z1,rfl,_⟩:=Jo Tryz.underlying9 h1
 obtain ⟨z2,rfl,_⟩:=Jo Tryz.underlying9 h2
 exact ⟨.mk z0 z1 z2,rfl⟩
theorem B37(n:Nat)(y:Ah)(h:Gj Tryz.prog n 77 (Bz y)):On y:=by
 obtain ⟨m,_,h⟩:=Ge Tryz.underlying77 h
 change P6 (Gj Tryz.prog m) [9,75,3] (Bz y) at h
 obtain ⟨g0,h⟩:=Ay (Jj Tryz.underlying9 m) h
 obtain ⟨g1,h⟩:=Ay (Gh Tryz.underlying75 m) h
 obtain ⟨g2,h⟩:=Ay (Gh Tryz.underlying3 m) h
 exact ⟨Qm Tryz.underlying9 g0,Lw Tryz.underlying75 g1,Lw Tryz.underlying3 g2⟩
theorem Bo8(n:Nat)(x:(List Ah))(h:Gj Tryz.prog n 22 [.lst false (.t77 x)]):(x.length≤maxLen∧∀y∈x,On y):=by
 obtain ⟨h1,m,_,h2⟩:=Xq Tryz.underlying22 h
 exact ⟨h1,fun y hy=>B37 _ _ (H4 (row:=Aq3) h2 y hy)⟩
theorem B0s(n:Nat)(y:Cy)(h:Gj Tryz.prog n 184 (Yr y)):Adl y:=by
 obtain ⟨m,_,h⟩:=Ge Tryz.underlying184 h
 change P6 (Gj Tryz.prog m) [3,3] (Yr y) at h
 obtain ⟨g0,h⟩:=Ay (Gh Tryz.underlying3 m) h
 obtain ⟨g1,h⟩:=Ay (Gh Tryz.underlying3 m) h
 exact ⟨Lw Tryz.underlying3 g0,Lw Tryz.underlying3 g1⟩
theorem Bs3(n:Nat)(x:(List Cy))(h:Gj Tryz.prog n 141 [.lst false (.t184 x)]):(x.length≤maxLen∧∀y∈x,Adl y):=by
 obtain ⟨h1,m,_,h2⟩:=Xq Tryz.underlying141 h
 exact ⟨h1,fun y hy=>B0s _ _ (H4 (row:=Ajc) h2 y hy)⟩
theorem A95(n:Nat)(x:(List Int))(h:Gj Tryz.prog n 35 [.lst false (.t3 x)]):(x.length≤maxLen∧∀y∈x,okI .i64 y):=by
 obtain ⟨h1,m,_,h2⟩:=Xq Tryz.underlying35 h
 exact ⟨h1,fun y hy=>Lw Tryz.underlying3 (H4 (row:=A3c) h2 y hy)⟩
theorem Bs1(n:Nat)(y:Bv)(h:Gj Tryz.prog n 97 (T0 y)):w7 y:=by
 obtain ⟨m,_,h⟩:=Ge Tryz.underlying97 h
 change P6 (Gj Tryz.prog m) [95,3,3,3,35,35] (T0 y) at h
 obtain ⟨g0,h⟩:=Ay (Gh Tryz.underlying95 m) h
 obtain ⟨g1,h⟩:=Ay (Gh Tryz.underlying3 m) h
 obtain ⟨g2,h⟩:=Ay (Gh Tryz.underlying3 m) h
 obtain ⟨g3,h⟩:=Ay (Gh Tryz.underlying3 m) h
 obtain ⟨g4,h⟩:=Ay (Jt Tryz.underlying35 m) h
 obtain ⟨g5,h⟩:=Ay (Jt Tryz.underlying35 m) h
 exact ⟨Lw Tryz.underlying95 g0,Lw Tryz.underlying3 g1,Lw Tryz.underlying3 g2,Lw Tryz.underlying3 g3,A95 m _ g4,A95 m _ g5⟩
theorem B0l(n:Nat)(y:Gf)(h:Gj Tryz.prog n 143 (Rj y)):Amc y:=by
 obtain ⟨m,_,h⟩:=Ge Tryz.underlying143 h
 change P6 (Gj Tryz.prog m) [9,97,97] (Rj y) at h
 obtain ⟨g0,h⟩:=Ay (Jj Tryz.underlying9 m) h
 obtain ⟨g1,h⟩:=Ay (w97 m) h
 obtain ⟨g2,h⟩:=Ay (w97 m) h
 exact ⟨Qm Tryz.underlying9 g0,Bs1 m _ g1,Bs1 m _ g2⟩
theorem B0m(n:Nat)(y:Ai)(h:Gj Tryz.prog n 145 (Bl y)):P7 y:=by
 obtain ⟨m,_,h⟩:=Ge Tryz.underlying145 h
 change P6 (Gj Tryz.prog m) [9,3,141,3,143] (Bl y) at h
 obtain ⟨g0,h⟩:=Ay (Jj Tryz.underlying9 m) h
 obtain ⟨g1,h⟩:=Ay (Gh Tryz.underlying3 m) h
 obtain ⟨g2,h⟩:=Ay (Jt Tryz.underlying141 m) h
 obtain ⟨g3,h⟩:=Ay (Gh Tryz.underlying3 m) h
 obtain ⟨g4,h⟩:=Ay (B19 m) h
 exact ⟨Qm Tryz.underlying9 g0,Lw Tryz.underlying3 g1,Bs3 m _ g2,Lw Tryz.underlying3 g3,B0l m _ g4⟩
theorem B00(n:Nat)(x:(List Ai))(h:Gj Tryz.prog n 47 [.lst false (.t145 x)]):(x.length≤maxLen∧∀y∈x,P7 y):=by
 obtain ⟨h1,m,_,h2⟩:=Xq Tryz.underlying47 h
 exact ⟨h1,fun y hy=>B0m _ _ (H4 (row:=Ai6) h2 y hy)⟩
theorem B0n(n:Nat)(y:Am)(h:Gj Tryz.prog n 151 (Co y)):Qd y:=by
 obtain ⟨m,_,h⟩:=Ge Tryz.underlying151 h
 change P6 (Gj Tryz.prog m) [9,3,149] (Co y) at h
 obtain ⟨g0,h⟩:=Ay (Jj Tryz.underlying9 m) h
 obtain ⟨g1,h⟩:=Ay (Gh Tryz.underlying3 m) h
 obtain ⟨g2,h⟩:=Ay (Gh Tryz.underlying149 m) h
 exact ⟨Qm Tryz.underlying9 g0,Lw Tryz.underlying3 g1,Lw Tryz.underlying149 g2⟩
theorem B01(n:Nat)(x:(List Am))(h:Gj Tryz.prog n 48 [.lst false (.t151 x)]):(x.length≤maxLen∧∀y∈x,Qd y):=by
 obtain ⟨h1,m,_,h2⟩:=Xq Tryz.underlying48 h
 exact ⟨h1,fun y hy=>B0n _ _ (H4 (row:=Ai7) h2 y hy)⟩
theorem B0o(n:Nat)(y:Aq)(h:Gj Tryz.prog n 155 (Cu y)):R9 y:=by
 obtain ⟨m,_,h⟩:=Ge Tryz.underlying155 h
 change P6 (Gj Tryz.prog m) [9,3,3] (Cu y) at h
 obtain ⟨g0,h⟩:=Ay (Jj Tryz.underlying9 m) h
 obtain ⟨g1,h⟩:=Ay (Gh Tryz.underlying3 m) h
 obtain ⟨g2,h⟩:=Ay (Gh Tryz.underlying3 m) h
 exact ⟨Qm Tryz.underlying9 g0,Lw Tryz.underlying3 g1,Lw Tryz.underlying3 g2⟩
theorem B02(n:Nat)(x:(List Aq))(h:Gj Tryz.prog n 49 [.lst false (.t155 x)]):(x.length≤maxLen∧∀y∈x,R9 y):=by
 obtain ⟨h1,m,_,h2⟩:=Xq Tryz.underlying49 h
 exact ⟨h1,fun y hy=>B0o _ _ (H4 (row:=Ai8) h2 y hy)⟩
theorem A25(n:Nat)(x:(List ByteArray))(h:Gj Tryz.prog n 50 [.lst false (.t9 x)]):(x.length≤maxLen∧∀y∈x,okS y):=by
 obtain ⟨h1,m,_,h2⟩:=Xq Tryz.underlying50 h
 exact ⟨h1,fun y hy=>Qm Tryz.underlying9 (H4 (row:=A3e) h2 y hy)⟩
theorem B0t(n:Nat)(y:Ap)(h:Gj Tryz.prog n 190 (Mo y)):Om y:=by
 obtain ⟨m,_,h⟩:=Ge Tryz.underlying190 h
 change P6 (Gj Tryz.prog m) [9,75] (Mo y) at h
 obtain ⟨g0,h⟩:=Ay (Jj Tryz.underlying9 m) h
 obtain ⟨g1,h⟩:=Ay (Gh Tryz.underlying75 m) h
 exact ⟨Qm Tryz.underlying9 g0,Lw Tryz.underlying75 g1⟩
theorem Bo9(n:Nat)(x:(List Ap))(h:Gj Tryz.prog n 57 [.lst false (.t190 x)]):(x.length≤maxLen∧∀y∈x,Om y):=by
 obtain ⟨h1,m,_,h2⟩:=Xq Tryz.underlying57 h
 exact ⟨h1,fun y hy=>B0t _ _ (H4 (row:=Ajd) h2 y hy)⟩
theorem B0v:∀n,(∀y:Ab,Gj Tryz.prog n 94 (F3 y)→B9 y):=by
 intro n
 induction n using Nat.strongRecOn with
 |_ n ih=>
 refine ?_
 ·intro y h
  obtain ⟨m,hm,h⟩:=Ge Tryz.underlying94 h
  change P6 (Gj Tryz.prog m) [91,9,3,92] (F3 y) at h
  cases y with
  |mk a0 a1 a2 a3=>
  obtain ⟨g0,h⟩:=Ay (Gh Tryz.underlying91 m) h
  obtain ⟨g1,h⟩:=Ay (Jj Tryz.underlying9 m) h
  obtain ⟨g2,h⟩:=Ay (Gh Tryz.underlying3 m) h
  obtain ⟨g3,h⟩:=Ay (Jt Tryz.underlying92 m) h
  have q3:(a3.length≤maxLen∧∀y∈a3,B9 y):=by
   obtain ⟨h1,m2,hm2,h2⟩:=Xq Tryz.underlying92 g3
   exact ⟨h1,fun y hy=>(ih m2 (by omega)) y (H4 (row:=Aks) h2 y hy)⟩
  exact .mk _ _ _ _ (Lw Tryz.underlying91 g0) (Qm Tryz.underlying9 g1) (Lw Tryz.underlying3 g2) q3.1 q3.2
theorem Bs0(n:Nat)(y:Ab)(h:Gj Tryz.prog n 94 (F3 y)):B9 y:=(B0v n) y h
theorem Bpa(n:Nat)(x:(List Ab))(h:Gj Tryz.prog n 92 [.lst false (.t94 x)]):(x.length≤maxLen∧∀y∈x,B9 y):=by
 obtain ⟨h1,m,_,h2⟩:=Xq Tryz.underlying92 h
 exact ⟨h1,fun y hy=>Bs0 _ _ (H4 (row:=Aks) h2 y hy)⟩
theorem B0w:∀n,(∀y:Ac,Gj Tryz.prog n 99 (Eo y)→Cs y):=by
 intro n
 induction n using Nat.strongRecOn with
 |_ n ih=>
 refine ?_
 ·intro y h
  obtain ⟨m,hm,h⟩:=Ge Tryz.underlying99 h
  change P6 (Gj Tryz.prog m) [90,9,9,94,94,92,97,4,58,58] (Eo y) at h
  cases y with
  |mk a0 a1 a2 a3 a4 a5 a6 a7 a8 a9=>
  obtain ⟨g0,h⟩:=Ay (Gh Tryz.underlying90 m) h
  obtain ⟨g1,h⟩:=Ay (Jj Tryz.underlying9 m) h
  obtain ⟨g2,h⟩:=Ay (Jj Tryz.underlying9 m) h
  obtain ⟨g3,h⟩:=Ay (w94 m) h
  obtain ⟨g4,h⟩:=Ay (w94 m) h
  obtain ⟨g5,h⟩:=Ay (Jt Tryz.underlying92 m) h
  obtain ⟨g6,h⟩:=Ay (w97 m) h
  obtain ⟨g7,h⟩:=Ay (Bic Tryz.underlying4 m) h
  obtain ⟨g8,h⟩:=Ay (Jt Tryz.underlying58 m) h
  obtain ⟨g9,h⟩:=Ay (Jt Tryz.underlying58 m) h
  have q8:(a8.length≤maxLen∧∀y∈a8,Cs y):=by
   obtain ⟨h1,m2,hm2,h2⟩:=Xq Tryz.underlying58 g8
   exact ⟨h1,fun y hy=>(ih m2 (by omega)) y (H4 (row:=Ahd) h2 y hy)⟩
  have q9:(a9.length≤maxLen∧∀y∈a9,Cs y):=by
   obtain ⟨h1,m2,hm2,h2⟩:=Xq Tryz.underlying58 g9
   exact ⟨h1,fun y hy=>(ih m2 (by omega)) y (H4 (row:=Ahd) h2 y hy)⟩
  exact .mk _ _ _ _ _ _ _ _ _ _ (Lw Tryz.underlying90 g0) (Qm Tryz.underlying9 g1) (Qm Tryz.underlying9 g2) (Bs0 m _ g3) (Bs0 m _ g4) (Bpa m _ g5).1 (Bpa m _ g5).2 (Bs1 m _ g6) (trivial) q8.1 q8.2 q9.1 q9.2
theorem B38(n:Nat)(y:Ac)(h:Gj Tryz.prog n 99 (Eo y)):Cs y:=(B0w n) y h
theorem B06(n:Nat)(x:(List Ac))(h:Gj Tryz.prog n 58 [.lst false (.t99 x)]):(x.length≤maxLen∧∀y∈x,Cs y):=by
 obtain ⟨h1,m,_,h2⟩:=Xq Tryz.underlying58 h
 exact ⟨h1,fun y hy=>B38 _ _ (H4 (row:=Ahd) h2 y hy)⟩
theorem B36(n:Nat)(y:Ak)(h:Gj Tryz.prog n 60 (Bw y)):Ku y:=by
 obtain ⟨m,_,h⟩:=Ge Tryz.underlying60 h
 change P6 (Gj Tryz.prog m) [9,57,57,58] (Bw y) at h
 obtain ⟨g0,h⟩:=Ay (Jj Tryz.underlying9 m) h
 obtain ⟨g1,h⟩:=Ay (Jt Tryz.underlying57 m) h
 obtain ⟨g2,h⟩:=Ay (Jt Tryz.underlying57 m) h
 obtain ⟨g3,h⟩:=Ay (Jt Tryz.underlying58 m) h
 exact ⟨Qm Tryz.underlying9 g0,Bo9 m _ g1,Bo9 m _ g2,B06 m _ g3⟩
theorem B03(n:Nat)(x:(List Ak))(h:Gj Tryz.prog n 51 [.lst false (.t60 x)]):(x.length≤maxLen∧∀y∈x,Ku y):=by
 obtain ⟨h1,m,_,h2⟩:=Xq Tryz.underlying51 h
 exact ⟨h1,fun y hy=>B36 _ _ (H4 (row:=Aq2) h2 y hy)⟩
theorem B0p(n:Nat)(y:Bo)(h:Gj Tryz.prog n 161 (Ou y)):Abo y:=by
 obtain ⟨m,_,h⟩:=Ge Tryz.underlying161 h
 change P6 (Gj Tryz.prog m) [9,35,3,3,3] (Ou y) at h
 obtain ⟨g0,h⟩:=Ay (Jj Tryz.underlying9 m) h
 obtain ⟨g1,h⟩:=Ay (Jt Tryz.underlying35 m) h
 obtain ⟨g2,h⟩:=Ay (Gh Tryz.underlying3 m) h
 obtain ⟨g3,h⟩:=Ay (Gh Tryz.underlying3 m) h
 obtain ⟨g4,h⟩:=Ay (Gh Tryz.underlying3 m) h
 exact ⟨Qm Tryz.underlying9 g0,A95 m _ g1,Lw Tryz.underlying3 g2,Lw Tryz.underlying3 g3,Lw Tryz.underlying3 g4⟩
theorem B04(n:Nat)(x:(List Bo))(h:Gj Tryz.prog n 52 [.lst false (.t161 x)]):(x.length≤maxLen∧∀y∈x,Abo y):=by
 obtain ⟨h1,m,_,h2⟩:=Xq Tryz.underlying52 h
 exact ⟨h1,fun y hy=>B0p _ _ (H4 (row:=Ai9) h2 y hy)⟩
theorem B0u(n:Nat)(y:Aw)(h:Gj Tryz.prog n 195 (Gk y)):Ahw y:=by
 obtain ⟨m,_,h⟩:=Ge Tryz.underlying195 h
 change P6 (Gj Tryz.prog m) [3,9,9] (Gk y) at h
 obtain ⟨g0,h⟩:=Ay (Gh Tryz.underlying3 m) h
 obtain ⟨g1,h⟩:=Ay (Jj Tryz.underlying9 m) h
 obtain ⟨g2,h⟩:=Ay (Jj Tryz.underlying9 m) h
 exact ⟨Lw Tryz.underlying3 g0,Qm Tryz.underlying9 g1,Qm Tryz.underlying9 g2⟩
theorem Bs4(n:Nat)(x:(List Aw))(h:Gj Tryz.prog n 178 [.lst false (.t195 x)]):(x.length≤maxLen∧∀y∈x,Ahw y):=by
 obtain ⟨h1,m,_,h2⟩:=Xq Tryz.underlying178 h
 exact ⟨h1,fun y hy=>B0u _ _ (H4 (row:=Aje) h2 y hy)⟩
theorem B0r(n:Nat)(y:A9)(h:Gj Tryz.prog n 180 (Dr y)):Ab0 y:=by
 obtain ⟨m,_,h⟩:=Ge Tryz.underlying180 h
 change P6 (Gj Tryz.prog m) [9,178,3] (Dr y) at h
 obtain ⟨g0,h⟩:=Ay (Jj Tryz.underlying9 m) h
 obtain ⟨g1,h⟩:=Ay (Jt Tryz.underlying178 m) h
 obtain ⟨g2,h⟩:=Ay (Gh Tryz.underlying3 m) h
 exact ⟨Qm Tryz.underlying9 g0,Bs4 m _ g1,Lw Tryz.underlying3 g2⟩
theorem B05(n:Nat)(x:(List A9))(h:Gj Tryz.prog n 53 [.lst false (.t180 x)]):(x.length≤maxLen∧∀y∈x,Ab0 y):=by
 obtain ⟨h1,m,_,h2⟩:=Xq Tryz.underlying53 h
 exact ⟨h1,fun y hy=>B0r _ _ (H4 (row:=Ajb) h2 y hy)⟩
theorem B35(n:Nat)(y:Aa)(h:Gj Tryz.prog n 55 (Ae y)):B6 y:=by
 obtain ⟨m,_,h⟩:=Ge Tryz.underlying55 h
 change P6 (Gj Tryz.prog m) [9,22,47,48,49,50,50,50,50,50,51,52,53] (Ae y) at h
 obtain ⟨g0,h⟩:=Ay (Jj Tryz.underlying9 m) h
 obtain ⟨g1,h⟩:=Ay (Jt Tryz.underlying22 m) h
 obtain ⟨g2,h⟩:=Ay (Jt Tryz.underlying47 m) h
 obtain ⟨g3,h⟩:=Ay (Jt Tryz.underlying48 m) h
 obtain ⟨g4,h⟩:=Ay (Jt Tryz.underlying49 m) h
 obtain ⟨g5,h⟩:=Ay (Jt Tryz.underlying50 m) h
 obtain ⟨g6,h⟩:=Ay (Jt Tryz.underlying50 m) h
 obtain ⟨g7,h⟩:=Ay (Jt Tryz.underlying50 m) h
 obtain ⟨g8,h⟩:=Ay (Jt Tryz.underlying50 m) h
 obtain ⟨g9,h⟩:=Ay (Jt Tryz.underlying50 m) h
 obtain ⟨g10,h⟩:=Ay (Jt Tryz.underlying51 m) h
 obtain ⟨g11,h⟩:=Ay (Jt Tryz.underlying52 m) h
 obtain ⟨g12,h⟩:=Ay (Jt Tryz.underlying53 m) h
 exact ⟨Qm Tryz.underlying9 g0,Bo8 m _ g1,B00 m _ g2,B01 m _ g3,B02 m _ g4,A25 m _ g5,A25 m _ g6,A25 m _ g7,A25 m _ g8,A25 m _ g9,B03 m _ g10,B04 m _ g11,B05 m _ g12⟩
theorem B0x(n:Nat)(x:(List Aa))(h:Gj Tryz.prog n 23 [.lst false (.t55 x)]):(x.length≤maxLen∧∀y∈x,B6 y):=by
 obtain ⟨h1,m,_,h2⟩:=Xq Tryz.underlying23 h
 exact ⟨h1,fun y hy=>B35 _ _ (H4 (row:=Aq1) h2 y hy)⟩
theorem B0q(n:Nat)(y:Be)(h:Gj Tryz.prog n 167 (Jv y)):Ahv y:=by
 obtain ⟨m,_,h⟩:=Ge Tryz.underlying167 h
 change P6 (Gj Tryz.prog m) [9,9,3] (Jv y) at h
 obtain ⟨g0,h⟩:=Ay (Jj Tryz.underlying9 m) h
 obtain ⟨g1,h⟩:=Ay (Jj Tryz.underlying9 m) h
 obtain ⟨g2,h⟩:=Ay (Gh Tryz.underlying3 m) h
 exact ⟨Qm Tryz.underlying9 g0,Qm Tryz.underlying9 g1,Lw Tryz.underlying3 g2⟩
theorem B0y(n:Nat)(x:(List Be))(h:Gj Tryz.prog n 24 [.lst false (.t167 x)]):(x.length≤maxLen∧∀y∈x,Ahv y):=by
 obtain ⟨h1,m,_,h2⟩:=Xq Tryz.underlying24 h
 exact ⟨h1,fun y hy=>B0q _ _ (H4 (row:=Aja) h2 y hy)⟩
theorem B33(n:Nat)(y:Ad)(h:Gj Tryz.prog n 26 (Ar y)):Yb y:=by
 obtain ⟨m,_,h⟩:=Ge Tryz.underlying26 h
 change P6 (Gj Tryz.prog m) [9,22,23,24] (Ar y) at h
 obtain ⟨g0,h⟩:=Ay (Jj Tryz.underlying9 m) h
 obtain ⟨g1,h⟩:=Ay (Jt Tryz.underlying22 m) h
 obtain ⟨g2,h⟩:=Ay (Jt Tryz.underlying23 m) h
 obtain ⟨g3,h⟩:=Ay (Jt Tryz.underlying24 m) h
 exact ⟨Qm Tryz.underlying9 g0,Bo8 m _ g1,B0x m _ g2,B0y m _ g3⟩
theorem B34(n:Nat)(y:Af)(h:Gj Tryz.prog n 46 (Dy y)):Adm y:=by
 obtain ⟨m,_,h⟩:=Ge Tryz.underlying46 h
 change P6 (Gj Tryz.prog m) [9,35] (Dy y) at h
 obtain ⟨g0,h⟩:=Ay (Jj Tryz.underlying9 m) h
 obtain ⟨g1,h⟩:=Ay (Jt Tryz.underlying35 m) h
 exact ⟨Qm Tryz.underlying9 g0,A95 m _ g1⟩
theorem B0z(n:Nat)(x:(List Af))(h:Gj Tryz.prog n 27 [.lst false (.t46 x)]):(x.length≤maxLen∧∀y∈x,Adm y):=by
 obtain ⟨h1,m,_,h2⟩:=Xq Tryz.underlying27 h
 exact ⟨h1,fun y hy=>B34 _ _ (H4 (row:=Aq0) h2 y hy)⟩
theorem B12(n m:Nat)(f:Nat→List PV)(hf:∀i,i < m→Gj Tryz.prog n 3 (f i)):∃x:LX,x.e=3∧x.len=m∧x.sz= Tryz.prog.cellsOf 3∧∀i,i < m→x.row i=f i:=by
 obtain ⟨l,h1,h2⟩:=Jn A3c m f (fun i hi=>let ⟨z,h,_⟩:=Fv Tryz.underlying3 (hf i hi);⟨z,h⟩)
 exact ⟨.t3 l,rfl,h1,by kernel_rfl,h2⟩
theorem B13(n m:Nat)(f:Nat→List PV)(hf:∀i,i < m→Gj Tryz.prog n 4 (f i)):∃x:LX,x.e=4∧x.len=m∧x.sz= Tryz.prog.cellsOf 4∧∀i,i < m→x.row i=f i:=by
 obtain ⟨l,h1,h2⟩:=Jn Bcn m f (fun i hi=>let ⟨z,h⟩:=Au9 Tryz.underlying4 (hf i hi);⟨z,h⟩)
 exact ⟨.t4 l,rfl,h1,by kernel_rfl,h2⟩
theorem B14(n m:Nat)(f:Nat→List PV)(hf:∀i,i < m→Gj Tryz.prog n 9 (f i)):∃x:LX,x.e=9∧x.len=m∧x.sz= Tryz.prog.cellsOf 9∧∀i,i < m→x.row i=f i:=by
 obtain ⟨l,h1,h2⟩:=Jn A3e m f (fun i hi=>let ⟨z,h,_⟩:=Jo Tryz.underlying9 (hf i hi);⟨z,h⟩)
 exact ⟨.t9 l,rfl,h1,by kernel_rfl,h2⟩
theorem Bvb(n m:Nat)(f:Nat→List PV)(hf:∀i,i < m→Gj Tryz.prog n 35 (f i)):∃x:LX,x.e=35∧x.len=m∧x.sz= Tryz.prog.cellsOf 35∧∀i,i < m→x.row i=f i:=by
 obtain ⟨l,h1,h2⟩:=Jn Axt m f (fun i hi=>by
  obtain ⟨x,h,he,_⟩:=Gw Tryz.underlying35 (hf i hi)
  obtain ⟨z,rfl⟩:=lx3 x he
  exact ⟨z,h⟩)
 exact ⟨.t35 l,rfl,h1,by kernel_rfl,h2⟩
theorem Bvc(n m:Nat)(f:Nat→List PV)(hf:∀i,i < m→Gj Tryz.prog n 46 (f i)):∃x:LX,x.e=46∧x.len=m∧x.sz= Tryz.prog.cellsOf 46∧∀i,i < m→x.row i=f i:=by
 obtain ⟨l,h1,h2⟩:=Jn Aq0 m f (fun i hi=>B3y n _ (hf i hi))
 exact ⟨.t46 l,rfl,h1,by kernel_rfl,h2⟩
theorem Bvd(n m:Nat)(f:Nat→List PV)(hf:∀i,i < m→Gj Tryz.prog n 50 (f i)):∃x:LX,x.e=50∧x.len=m∧x.sz= Tryz.prog.cellsOf 50∧∀i,i < m→x.row i=f i:=by
 obtain ⟨l,h1,h2⟩:=Jn Axu m f (fun i hi=>by
  obtain ⟨x,h,he,_⟩:=Gw Tryz.underlying50 (hf i hi)
  obtain ⟨z,rfl⟩:=lx9 x he
  exact ⟨z,h⟩)
 exact ⟨.t50 l,rfl,h1,by kernel_rfl,h2⟩
theorem Bve(n m:Nat)(f:Nat→List PV)(hf:∀i,i < m→Gj Tryz.prog n 55 (f i)):∃x:LX,x.e=55∧x.len=m∧x.sz= Tryz.prog.cellsOf 55∧∀i,i < m→x.row i=f i:=by
 obtain ⟨l,h1,h2⟩:=Jn Aq1 m f (fun i hi=>B3z n _ (hf i hi))
 exact ⟨.t55 l,rfl,h1,by kernel_rfl,h2⟩
theorem Bvf(n m:Nat)(f:Nat→List PV)(hf:∀i,i < m→Gj Tryz.prog n 57 (f i)):∃x:LX,x.e=57∧x.len=m∧x.sz= Tryz.prog.cellsOf 57∧∀i,i < m→x.row i=f i:=by
 obtain ⟨l,h1,h2⟩:=Jn Axv m f (fun i hi=>by
  obtain ⟨x,h,he,_⟩:=Gw Tryz.underlying57 (hf i hi)
  obtain ⟨z,rfl⟩:=Bgl x he
  exact ⟨z,h⟩)
 exact ⟨.t57 l,rfl,h1,by kernel_rfl,h2⟩
theorem Bvg(n m:Nat)(f:Nat→List PV)(hf:∀i,i < m→Gj Tryz.prog n 60 (f i)):∃x:LX,x.e=60∧x.len=m∧x.sz= Tryz.prog.cellsOf 60∧∀i,i < m→x.row i=f i:=by
 obtain ⟨l,h1,h2⟩:=Jn Aq2 m f (fun i hi=>B30 n _ (hf i hi))
 exact ⟨.t60 l,rfl,h1,by kernel_rfl,h2⟩
theorem Bvh(n m:Nat)(f:Nat→List PV)(hf:∀i,i < m→Gj Tryz.prog n 75 (f i)):∃x:LX,x.e=75∧x.len=m∧x.sz= Tryz.prog.cellsOf 75∧∀i,i < m→x.row i=f i:=by
 obtain ⟨l,h1,h2⟩:=Jn Axw m f (fun i hi=>let ⟨z,h,_⟩:=Fv Tryz.underlying75 (hf i hi);⟨z,h⟩)
 exact ⟨.t75 l,rfl,h1,by kernel_rfl,h2⟩
theorem Bvi(n m:Nat)(f:Nat→List PV)(hf:∀i,i < m→Gj Tryz.prog n 77 (f i)):∃x:LX,x.e=77∧x.len=m∧x.sz= Tryz.prog.cellsOf 77∧∀i,i < m→x.row i=f i:=by
 obtain ⟨l,h1,h2⟩:=Jn Aq3 m f (fun i hi=>B31 n _ (hf i hi))
 exact ⟨.t77 l,rfl,h1,by kernel_rfl,h2⟩
theorem Bvj(n m:Nat)(f:Nat→List PV)(hf:∀i,i < m→Gj Tryz.prog n 94 (f i)):∃x:LX,x.e=94∧x.len=m∧x.sz= Tryz.prog.cellsOf 94∧∀i,i < m→x.row i=f i:=by
 obtain ⟨l,h1,h2⟩:=Jn Aks m f (fun i hi=>Bmf n _ (hf i hi))
 exact ⟨.t94 l,rfl,h1,by kernel_rfl,h2⟩
theorem Bvk(n m:Nat)(f:Nat→List PV)(hf:∀i,i < m→Gj Tryz.prog n 99 (f i)):∃x:LX,x.e=99∧x.len=m∧x.sz= Tryz.prog.cellsOf 99∧∀i,i < m→x.row i=f i:=by
 obtain ⟨l,h1,h2⟩:=Jn Ahd m f (fun i hi=>B32 n _ (hf i hi))
 exact ⟨.t99 l,rfl,h1,by kernel_rfl,h2⟩
theorem Bnf(n m:Nat)(f:Nat→List PV)(hf:∀i,i < m→Gj Tryz.prog n 145 (f i)):∃x:LX,x.e=145∧x.len=m∧x.sz= Tryz.prog.cellsOf 145∧∀i,i < m→x.row i=f i:=by
 obtain ⟨l,h1,h2⟩:=Jn Ai6 m f (fun i hi=>Bz7 n _ (hf i hi))
 exact ⟨.t145 l,rfl,h1,by kernel_rfl,h2⟩
theorem Bng(n m:Nat)(f:Nat→List PV)(hf:∀i,i < m→Gj Tryz.prog n 151 (f i)):∃x:LX,x.e=151∧x.len=m∧x.sz= Tryz.prog.cellsOf 151∧∀i,i < m→x.row i=f i:=by
 obtain ⟨l,h1,h2⟩:=Jn Ai7 m f (fun i hi=>Bz8 n _ (hf i hi))
 exact ⟨.t151 l,rfl,h1,by kernel_rfl,h2⟩
theorem Bnh(n m:Nat)(f:Nat→List PV)(hf:∀i,i < m→Gj Tryz.prog n 155 (f i)):∃x:LX,x.e=155∧x.len=m∧x.sz= Tryz.prog.cellsOf 155∧∀i,i < m→x.row i=f i:=by
 obtain ⟨l,h1,h2⟩:=Jn Ai8 m f (fun i hi=>Bz9 n _ (hf i hi))
 exact ⟨.t155 l,rfl,h1,by kernel_rfl,h2⟩
theorem Bni(n m:Nat)(f:Nat→List PV)(hf:∀i,i < m→Gj Tryz.prog n 161 (f i)):∃x:LX,x.e=161∧x.len=m∧x.sz= Tryz.prog.cellsOf 161∧∀i,i < m→x.row i=f i:=by
 obtain ⟨l,h1,h2⟩:=Jn Ai9 m f (fun i hi=>B0a n _ (hf i hi))
 exact ⟨.t161 l,rfl,h1,by kernel_rfl,h2⟩
theorem Bnj(n m:Nat)(f:Nat→List PV)(hf:∀i,i < m→Gj Tryz.prog n 167 (f i)):∃x:LX,x.e=167∧x.len=m∧x.sz= Tryz.prog.cellsOf 167∧∀i,i < m→x.row i=f i:=by
 obtain ⟨l,h1,h2⟩:=Jn Aja m f (fun i hi=>B0b n _ (hf i hi))
 exact ⟨.t167 l,rfl,h1,by kernel_rfl,h2⟩
theorem Bnk(n m:Nat)(f:Nat→List PV)(hf:∀i,i < m→Gj Tryz.prog n 180 (f i)):∃x:LX,x.e=180∧x.len=m∧x.sz= Tryz.prog.cellsOf 180∧∀i,i < m→x.row i=f i:=by
 obtain ⟨l,h1,h2⟩:=Jn Ajb m f (fun i hi=>B0c n _ (hf i hi))
 exact ⟨.t180 l,rfl,h1,by kernel_rfl,h2⟩
theorem Bnl(n m:Nat)(f:Nat→List PV)(hf:∀i,i < m→Gj Tryz.prog n 184 (f i)):∃x:LX,x.e=184∧x.len=m∧x.sz= Tryz.prog.cellsOf 184∧∀i,i < m→x.row i=f i:=by
 obtain ⟨l,h1,h2⟩:=Jn Ajc m f (fun i hi=>B0d n _ (hf i hi))
 exact ⟨.t184 l,rfl,h1,by kernel_rfl,h2⟩
theorem Bnm(n m:Nat)(f:Nat→List PV)(hf:∀i,i < m→Gj Tryz.prog n 190 (f i)):∃x:LX,x.e=190∧x.len=m∧x.sz= Tryz.prog.cellsOf 190∧∀i,i < m→x.row i=f i:=by
 obtain ⟨l,h1,h2⟩:=Jn Ajd m f (fun i hi=>B0e n _ (hf i hi))
 exact ⟨.t190 l,rfl,h1,by kernel_rfl,h2⟩
theorem Bnn(n m:Nat)(f:Nat→List PV)(hf:∀i,i < m→Gj Tryz.prog n 195 (f i)):∃x:LX,x.e=195∧x.len=m∧x.sz= Tryz.prog.cellsOf 195∧∀i,i < m→x.row i=f i:=by
 obtain ⟨l,h1,h2⟩:=Jn Aje m f (fun i hi=>B0f n _ (hf i hi))
 exact ⟨.t195 l,rfl,h1,by kernel_rfl,h2⟩
def rdL:List Nat:= [3,4,5,9,22,23,24,26,27,35,46,47,48,49,50,51,52,53,55,57,58,60,75,77,90,91,92,94,95,97,99,121,141,143,145,149,151,155,161,167,178,180,184,190,195]
theorem B4n:As2 Tryz.prog rdL:=by
 intro e n m f he hs hf
 simp only [rdL,List.mem_cons,List.not_mem_nil,or_false] at he
 rcases he with rfl|rfl|rfl|rfl|rfl|rfl|rfl|rfl|rfl|rfl|rfl|rfl|rfl|rfl|rfl|rfl|rfl|rfl|rfl|rfl|rfl|rfl|rfl|rfl|rfl|rfl|rfl|rfl|rfl|rfl|rfl|rfl|rfl|rfl|rfl|rfl|rfl|rfl|rfl|rfl|rfl|rfl|rfl|rfl|rfl
 ·exact B12 n m f hf
 ·exact B13 n m f hf
 ·exact nomatch hs
 ·exact B14 n m f hf
 ·exact nomatch hs
 ·exact nomatch hs
 ·exact nomatch hs
 ·exact nomatch hs
 ·exact nomatch hs
 ·exact Bvb n m f hf
 ·exact Bvc n m f hf
 ·exact nomatch hs
 ·exact nomatch hs
 ·exact nomatch hs
 ·exact Bvd n m f hf
 ·exact nomatch hs
 ·exact nomatch hs
 ·exact nomatch hs
 ·exact Bve n m f hf
 ·exact Bvf n m f hf
 ·exact nomatch hs
 ·exact Bvg n m f hf
 ·exact Bvh n m f hf
 ·exact Bvi n m f hf
 ·exact nomatch hs
 ·exact nomatch hs
 ·exact nomatch hs
 ·exact Bvj n m f hf
 ·exact nomatch hs
 ·exact nomatch hs
 ·exact Bvk n m f hf
 ·exact nomatch hs
 ·exact nomatch hs
 ·exact nomatch hs
 ·exact Bnf n m f hf
 ·exact nomatch hs
 ·exact Bng n m f hf
 ·exact Bnh n m f hf
 ·exact Bni n m f hf
 ·exact Bnj n m f hf
 ·exact nomatch hs
 ·exact Bnk n m f hf
 ·exact Bnl n m f hf
 ·exact Bnm n m f hf
 ·exact Bnn n m f hf
theorem B4o:A21 Tryz.prog rdL=true:=by kernel_rfl
end Go.Proofs.YtfencmicmnhglaaGreat.Ev
