/-  What is read. -/
import Derived.Test.YtcbandfdmbkokaaGreatG0
import Derived.Test.YtcbandfdmbkokaaGreatFy
namespace Go.Proofs.YtcbandfdmbkokaaGreat.Ev
open Go
set_option maxRecDepth 100000
set_option linter.unusedVariables false
set_option linter.unusedSimpArgs false
set_option linter.unnecessarySimpa false
def Mx(x:Be):Prop:=okS x.Name∧okI .i64 x.Type_
def Aao(x:Cq):Prop:=okS x.From∧okS x.To∧okI .i64 x.Delay
def W2(x:B3):Prop:=okS x.Name∧okI .i64 x.Length∧okI .i64 x.Step
def Aap(x:Jz):Prop:=okI .i64 x.Coef∧okS x.What∧okS x.Name
def Ac7(x:Oh):Prop:=okS x.Name∧(x.Terms.length≤maxLen∧∀y∈x.Terms,Aap y)∧okI .i64 x.Total
def Zz(x:F6):Prop:=okI .i64 x.At∧okI .i64 x.Units
def Wc(x:Bo):Prop:=okI .i64 x.Op∧okI .i64 x.A∧okI .i64 x.B∧okI .i64 x.N∧(x.Values.length≤maxLen∧∀y∈x.Values,okI .i64 y)∧(x.Weights.length≤maxLen∧∀y∈x.Weights,okI .i64 y)
def Ad8(x:T1):Prop:=okS x.Stream∧Wc x.Up∧Wc x.Down
def Ti(x:Bf):Prop:=okS x.Name∧okI .i64 x.Units∧(x.Shift.length≤maxLen∧∀y∈x.Shift,Zz y)∧okI .i64 x.Cycle∧Ad8 x.Fault
inductive Ce:Aa→Prop
 |mk (a0:Int) (a1:ByteArray) (a2:Int) (a3:(List Aa)) (h0_0:okI .i64 a0) (h1_0:okS a1) (h2_0:okI .i64 a2) (h3_0:a3.length≤maxLen) (h3_1:∀y∈a3,Ce y):Ce (.mk a0 a1 a2 a3)
inductive Cj:Ab→Prop
 |mk (a0:Int) (a1:ByteArray) (a2:ByteArray) (a3:Aa) (a4:Aa) (a5:(List Aa)) (a6:Bo) (a7:Bool) (a8:(List Ab)) (a9:(List Ab)) (h0_0:okI .i64 a0) (h1_0:okS a1) (h2_0:okS a2) (h3_0:Ce a3) (h4_0:Ce a4) (h5_0:a5.length≤maxLen) (h5_1:∀y∈a5,Ce y) (h6_0:Wc a6) (h7_0:True) (h8_0:a8.length≤maxLen) (h8_1:∀y∈a8,Cj y) (h9_0:a9.length≤maxLen) (h9_1:∀y∈a9,Cj y):Cj (.mk a0 a1 a2 a3 a4 a5 a6 a7 a8 a9)
def Um(x:Bg):Prop:=okS x.Name∧(x.Params.length≤maxLen∧∀y∈x.Params,Mx y)∧(x.Locals.length≤maxLen∧∀y∈x.Locals,Mx y)∧(x.Body.length≤maxLen∧∀y∈x.Body,Cj y)
def m6(x:Hg):Prop:=okS x.Routine∧(x.Args.length≤maxLen∧∀y∈x.Args,okI .i64 y)∧okI .i64 x.At∧okI .i64 x.Every∧okI .i64 x.Until
def Vn(x:Bx):Prop:=okS x.Name∧okI .i64 x.Room∧okI .i64 x.Policy
def Un(x:Bp):Prop:=okS x.Name∧okI .i64 x.Type_∧okI .i64 x.N
def L8(x:Ac):Prop:=okS x.Name∧(x.Vars.length≤maxLen∧∀y∈x.Vars,Un y)∧(x.Resources.length≤maxLen∧∀y∈x.Resources,Ti y)∧(x.Stores.length≤maxLen∧∀y∈x.Stores,Vn y)∧(x.Belts.length≤maxLen∧∀y∈x.Belts,W2 y)∧(x.Queues.length≤maxLen∧∀y∈x.Queues,okS y)∧(x.Streams.length≤maxLen∧∀y∈x.Streams,okS y)∧(x.Tallies.length≤maxLen∧∀y∈x.Tallies,okS y)∧(x.Levels.length≤maxLen∧∀y∈x.Levels,okS y)∧(x.Counts.length≤maxLen∧∀y∈x.Counts,okS y)∧(x.Routines.length≤maxLen∧∀y∈x.Routines,Um y)∧(x.Starts.length≤maxLen∧∀y∈x.Starts,m6 y)∧(x.Laws.length≤maxLen∧∀y∈x.Laws,Ac7 y)
def S9(x:Af):Prop:=okS x.Name∧(x.Params.length≤maxLen∧∀y∈x.Params,Un y)∧(x.Sites.length≤maxLen∧∀y∈x.Sites,L8 y)∧(x.Links.length≤maxLen∧∀y∈x.Links,Aao y)
def Aan(x:Mq):Prop:=S9 x.M∧okI .i64 x.Site∧(x.Locals.length≤maxLen∧∀y∈x.Locals,Mx y)∧(x.A.length≤maxLen∧∀y∈x.A,Cj y)∧(x.B.length≤maxLen∧∀y∈x.B,Cj y)
def D8(x:Ai):Prop:=(x.Params.length≤maxLen∧∀y∈x.Params,Un y)∧(x.Locals.length≤maxLen∧∀y∈x.Locals,Mx y)∧L8 x.Site
theorem lx3(x:LX)(h:x.e=3):∃l,x= .t3 l:=by
 cases x<;>first|exact ⟨_,rfl⟩|(simp [LX.e] at h)
theorem lx9(x:LX)(h:x.e=9):∃l,x= .t9 l:=by
 cases x<;>first|exact ⟨_,rfl⟩|(simp [LX.e] at h)
theorem Bs6(x:LX)(h:x.e=32):∃l,x= .t32 l:=by
 cases x<;>first|exact ⟨_,rfl⟩|(simp [LX.e] at h)
theorem Bol(x:LX)(h:x.e=38):∃l,x= .t38 l:=by
 cases x<;>first|exact ⟨_,rfl⟩|(simp [LX.e] at h)
theorem A9r(x:LX)(h:x.e=68):∃l,x= .t68 l:=by
 cases x<;>first|exact ⟨_,rfl⟩|(simp [LX.e] at h)
theorem Bom(x:LX)(h:x.e=72):∃l,x= .t72 l:=by
 cases x<;>first|exact ⟨_,rfl⟩|(simp [LX.e] at h)
theorem Bs7(x:LX)(h:x.e=74):∃l,x= .t74 l:=by
 cases x<;>first|exact ⟨_,rfl⟩|(simp [LX.e] at h)
theorem A50(x:LX)(h:x.e=82):∃l,x= .t82 l:=by
 cases x<;>first|exact ⟨_,rfl⟩|(simp [LX.e] at h)
theorem Bod(x:LX)(h:x.e=149):∃l,x= .t149 l:=by
 cases x<;>first|exact ⟨_,rfl⟩|(simp [LX.e] at h)
theorem Boe(x:LX)(h:x.e=156):∃l,x= .t156 l:=by
 cases x<;>first|exact ⟨_,rfl⟩|(simp [LX.e] at h)
theorem Bof(x:LX)(h:x.e=160):∃l,x= .t160 l:=by
 cases x<;>first|exact ⟨_,rfl⟩|(simp [LX.e] at h)
theorem Bog(x:LX)(h:x.e=166):∃l,x= .t166 l:=by
 cases x<;>first|exact ⟨_,rfl⟩|(simp [LX.e] at h)
theorem Boh(x:LX)(h:x.e=172):∃l,x= .t172 l:=by
 cases x<;>first|exact ⟨_,rfl⟩|(simp [LX.e] at h)
theorem Boi(x:LX)(h:x.e=184):∃l,x= .t184 l:=by
 cases x<;>first|exact ⟨_,rfl⟩|(simp [LX.e] at h)
theorem Boj(x:LX)(h:x.e=228):∃l,x= .t228 l:=by
 cases x<;>first|exact ⟨_,rfl⟩|(simp [LX.e] at h)
theorem Bok(x:LX)(h:x.e=234):∃l,x= .t234 l:=by
 cases x<;>first|exact ⟨_,rfl⟩|(simp [LX.e] at h)
theorem Bs8(n:Nat)(l:List PV)(h:Gv Tryz.prog n 32 l):∃y:Ac,l=Bk y:=by
 obtain ⟨m,_,h⟩:=Gc Tryz.underlying32 h
 change P8 (Gv Tryz.prog m) [9,22,24,25,26,27,27,27,27,27,28,29,30] l at h
 obtain ⟨a0,b0,rfl,h0,a1,b1,rfl,h1,a2,b2,rfl,h2,a3,b3,rfl,h3,a4,b4,rfl,h4,a5,b5,rfl,h5,a6,b6,rfl,h6,a7,b7,rfl,h7,a8,b8,rfl,h8,a9,b9,rfl,h9,a10,b10,rfl,h10,a11,b11,rfl,h11,a12,b12,rfl,h12,rfl⟩:=h
 obtain ⟨z0,rfl,_⟩:=Ks Tryz.underlying9 h0
 obtain ⟨x1,rfl,e1,_,_,_,_⟩:=G7 Tryz.underlying22 h1
 obtain ⟨z1,rfl⟩:=Bom x1 e1
 obtain ⟨x2,rfl,e2,_,_,_,_⟩:=G7 Tryz.underlying24 h2
 obtain ⟨z2,rfl⟩:=Bod x2 e2
 obtain ⟨x3,rfl,e3,_,_,_,_⟩:=G7 Tryz.underlying25 h3
 obtain ⟨z3,rfl⟩:=Boe x3 e3
 obtain ⟨x4,rfl,e4,_,_,_,_⟩:=G7 Tryz.underlying26 h4
 obtain ⟨z4,rfl⟩:=Bof x4 e4
 obtain ⟨x5,rfl,e5,_,_,_,_⟩:=G7 Tryz.underlying27 h5
 obtain ⟨z5,rfl⟩:=lx9 x5 e5
 obtain ⟨x6,rfl,e6,_,_,_,_⟩:=G7 Tryz.underlying27 h6
 obtain ⟨z6,rfl⟩:=lx9 x6 e6
 obtain ⟨x7,rfl,e7,_,_,_,_⟩:=G7 Tryz.underlying27 h7
 obtain ⟨z7,rfl⟩:=lx9 x7 e7
 obtain ⟨x8,rfl,e8,_,_,_,_⟩:=G7 Tryz.underlying27 h8
 obtain ⟨z8,rfl⟩:=lx9 x8 e8
 obtain ⟨x9,rfl,e9,_,_,_,_⟩:=G7 Tryz.underlying27 h9
 obtain ⟨z9,rfl⟩:=lx9 x9 e9
 obtain ⟨x10,rfl,e10,_,_,_,_⟩:=G7 Tryz.underlying28 h10
 obtain ⟨z10,rfl⟩:=Bs7 x10 e10
 obtain ⟨x11,rfl,e11,_,_,_,_⟩:=G7 Tryz.underlying29 h11
 obtain ⟨z11,rfl⟩:=Bog x11 e11
 obtain ⟨x12,rfl,e12,_,_,_,_⟩:=G7 Tryz.underlying30 h12
 obtain ⟨z12,rfl⟩:=Boi x12 e12
 exact ⟨.mk z0 z1 z2 z3 z4 z5 z6 z7 z8 z9 z10 z11 z12,rfl⟩
theorem A9t(n:Nat)(l:List PV)(h:Gv Tryz.prog n 38 l):∃y:Aa,l=Ay y:=by
 obtain ⟨m,_,h⟩:=Gc Tryz.underlying38 h
 change P8 (Gv Tryz.prog m) [35,9,3,36] l at h
 obtain ⟨a0,b0,rfl,h0,a1,b1,rfl,h1,a2,b2,rfl,h2,a3,b3,rfl,h3,rfl⟩:=h
 obtain ⟨z0,rfl,_⟩:=Gb Tryz.underlying35 h0
 obtain ⟨z1,rfl,_⟩:=Ks Tryz.underlying9 h1
 obtain ⟨z2,rfl,_⟩:=Gb Tryz.underlying3 h2
 obtain ⟨x3,rfl,e3,_,_,_,_⟩:=G7 Tryz.underlying36 h3
 obtain ⟨z3,rfl⟩:=Bol x3 e3
 exact ⟨.mk z0 z1 z2 z3,rfl⟩
theorem w38(n:Nat):∀l,Gv Tryz.prog n 38 l→l.length=4:=fun l h=>by obtain ⟨y,rfl⟩:=A9t n l h;rfl
theorem Bow(n:Nat)(l:List PV)(h:Gv Tryz.prog n 51 l):∃y:Af,l=Bz y:=by
 obtain ⟨m,_,h⟩:=Gc Tryz.underlying51 h
 change P8 (Gv Tryz.prog m) [9,22,48,49] l at h
 obtain ⟨a0,b0,rfl,h0,a1,b1,rfl,h1,a2,b2,rfl,h2,a3,b3,rfl,h3,rfl⟩:=h
 obtain ⟨z0,rfl,_⟩:=Ks Tryz.underlying9 h0
 obtain ⟨x1,rfl,e1,_,_,_,_⟩:=G7 Tryz.underlying22 h1
 obtain ⟨z1,rfl⟩:=Bom x1 e1
 obtain ⟨x2,rfl,e2,_,_,_,_⟩:=G7 Tryz.underlying48 h2
 obtain ⟨z2,rfl⟩:=Bs6 x2 e2
 obtain ⟨x3,rfl,e3,_,_,_,_⟩:=G7 Tryz.underlying49 h3
 obtain ⟨z3,rfl⟩:=Boh x3 e3
 exact ⟨.mk z0 z1 z2 z3,rfl⟩
theorem w51(n:Nat):∀l,Gv Tryz.prog n 51 l→l.length=4:=fun l h=>by obtain ⟨y,rfl⟩:=Bow n l h;rfl
theorem Box(n:Nat)(l:List PV)(h:Gv Tryz.prog n 54 l):∃y:Mq,l=Rn y:=by
 obtain ⟨m,_,h⟩:=Gc Tryz.underlying54 h
 change P8 (Gv Tryz.prog m) [51,3,23,52,52] l at h
 obtain ⟨a0,b0,rfl,h0,a1,b1,rfl,h1,a2,b2,rfl,h2,a3,b3,rfl,h3,a4,b4,rfl,h4,rfl⟩:=h
 obtain ⟨z0,rfl⟩:=Bow m _ h0
 obtain ⟨z1,rfl,_⟩:=Gb Tryz.underlying3 h1
 obtain ⟨x2,rfl,e2,_,_,_,_⟩:=G7 Tryz.underlying23 h2
 obtain ⟨z2,rfl⟩:=A9r x2 e2
 obtain ⟨x3,rfl,e3,_,_,_,_⟩:=G7 Tryz.underlying52 h3
 obtain ⟨z3,rfl⟩:=A50 x3 e3
 obtain ⟨x4,rfl,e4,_,_,_,_⟩:=G7 Tryz.underlying52 h4
 obtain ⟨z4,rfl⟩:=A50 x4 e4
 exact ⟨.mk z0 z1 z2 z3 z4,rfl⟩
theorem Bs9(n:Nat)(l:List PV)(h:Gv Tryz.prog n 68 l):∃y:Be,l=Wq y:=by
 obtain ⟨m,_,h⟩:=Gc Tryz.underlying68 h
 change P8 (Gv Tryz.prog m) [9,41] l at h
 obtain ⟨a0,b0,rfl,h0,a1,b1,rfl,h1,rfl⟩:=h
 obtain ⟨z0,rfl,_⟩:=Ks Tryz.underlying9 h0
 obtain ⟨z1,rfl,_⟩:=Gb Tryz.underlying41 h1
 exact ⟨.mk z0 z1,rfl⟩
theorem Bta(n:Nat)(l:List PV)(h:Gv Tryz.prog n 72 l):∃y:Bp,l=Ws y:=by
 obtain ⟨m,_,h⟩:=Gc Tryz.underlying72 h
 change P8 (Gv Tryz.prog m) [9,41,3] l at h
 obtain ⟨a0,b0,rfl,h0,a1,b1,rfl,h1,a2,b2,rfl,h2,rfl⟩:=h
 obtain ⟨z0,rfl,_⟩:=Ks Tryz.underlying9 h0
 obtain ⟨z1,rfl,_⟩:=Gb Tryz.underlying41 h1
 obtain ⟨z2,rfl,_⟩:=Gb Tryz.underlying3 h2
 exact ⟨.mk z0 z1 z2,rfl⟩
theorem Btb(n:Nat)(l:List PV)(h:Gv Tryz.prog n 74 l):∃y:Bg,l=Hk y:=by
 obtain ⟨m,_,h⟩:=Gc Tryz.underlying74 h
 change P8 (Gv Tryz.prog m) [9,23,23,52] l at h
 obtain ⟨a0,b0,rfl,h0,a1,b1,rfl,h1,a2,b2,rfl,h2,a3,b3,rfl,h3,rfl⟩:=h
 obtain ⟨z0,rfl,_⟩:=Ks Tryz.underlying9 h0
 obtain ⟨x1,rfl,e1,_,_,_,_⟩:=G7 Tryz.underlying23 h1
 obtain ⟨z1,rfl⟩:=A9r x1 e1
 obtain ⟨x2,rfl,e2,_,_,_,_⟩:=G7 Tryz.underlying23 h2
 obtain ⟨z2,rfl⟩:=A9r x2 e2
 obtain ⟨x3,rfl,e3,_,_,_,_⟩:=G7 Tryz.underlying52 h3
 obtain ⟨z3,rfl⟩:=A50 x3 e3
 exact ⟨.mk z0 z1 z2 z3,rfl⟩
theorem A9u(n:Nat)(l:List PV)(h:Gv Tryz.prog n 80 l):∃y:Bo,l=C9 y:=by
 obtain ⟨m,_,h⟩:=Gc Tryz.underlying80 h
 change P8 (Gv Tryz.prog m) [77,3,3,3,78,78] l at h
 obtain ⟨a0,b0,rfl,h0,a1,b1,rfl,h1,a2,b2,rfl,h2,a3,b3,rfl,h3,a4,b4,rfl,h4,a5,b5,rfl,h5,rfl⟩:=h
 obtain ⟨z0,rfl,_⟩:=Gb Tryz.underlying77 h0
 obtain ⟨z1,rfl,_⟩:=Gb Tryz.underlying3 h1
 obtain ⟨z2,rfl,_⟩:=Gb Tryz.underlying3 h2
 obtain ⟨z3,rfl,_⟩:=Gb Tryz.underlying3 h3
 obtain ⟨x4,rfl,e4,_,_,_,_⟩:=G7 Tryz.underlying78 h4
 obtain ⟨z4,rfl⟩:=lx3 x4 e4
 obtain ⟨x5,rfl,e5,_,_,_,_⟩:=G7 Tryz.underlying78 h5
 obtain ⟨z5,rfl⟩:=lx3 x5 e5
 exact ⟨.mk z0 z1 z2 z3 z4 z5,rfl⟩
theorem w80(n:Nat):∀l,Gv Tryz.prog n 80 l→l.length=6:=fun l h=>by obtain ⟨y,rfl⟩:=A9u n l h;rfl
theorem Btc(n:Nat)(l:List PV)(h:Gv Tryz.prog n 82 l):∃y:Ab,l=B2 y:=by
 obtain ⟨m,_,h⟩:=Gc Tryz.underlying82 h
 change P8 (Gv Tryz.prog m) [76,9,9,38,38,36,80,4,52,52] l at h
 obtain ⟨a0,b0,rfl,h0,a1,b1,rfl,h1,a2,b2,rfl,h2,a3,b3,rfl,h3,a4,b4,rfl,h4,a5,b5,rfl,h5,a6,b6,rfl,h6,a7,b7,rfl,h7,a8,b8,rfl,h8,a9,b9,rfl,h9,rfl⟩:=h
 obtain ⟨z0,rfl,_⟩:=Gb Tryz.underlying76 h0
 obtain ⟨z1,rfl,_⟩:=Ks Tryz.underlying9 h1
 obtain ⟨z2,rfl,_⟩:=Ks Tryz.underlying9 h2
 obtain ⟨z3,rfl⟩:=A9t m _ h3
 obtain ⟨z4,rfl⟩:=A9t m _ h4
 obtain ⟨x5,rfl,e5,_,_,_,_⟩:=G7 Tryz.underlying36 h5
 obtain ⟨z5,rfl⟩:=Bol x5 e5
 obtain ⟨z6,rfl⟩:=A9u m _ h6
 obtain ⟨z7,rfl⟩:=Anx Tryz.underlying4 h7
 obtain ⟨x8,rfl,e8,_,_,_,_⟩:=G7 Tryz.underlying52 h8
 obtain ⟨z8,rfl⟩:=A50 x8 e8
 obtain ⟨x9,rfl,e9,_,_,_,_⟩:=G7 Tryz.underlying52 h9
 obtain ⟨z9,rfl⟩:=A50 x9 e9
 exact ⟨.mk z0 z1 z2 z3 z4 z5 z6 z7 z8 z9,rfl⟩
theorem Ba1(n:Nat)(l:List PV)(h:Gv Tryz.prog n 147 l):∃y:T1,l=Wp y:=by
 obtain ⟨m,_,h⟩:=Gc Tryz.underlying147 h
 change P8 (Gv Tryz.prog m) [9,80,80] l at h
 obtain ⟨a0,b0,rfl,h0,a1,b1,rfl,h1,a2,b2,rfl,h2,rfl⟩:=h
 obtain ⟨z0,rfl,_⟩:=Ks Tryz.underlying9 h0
 obtain ⟨z1,rfl⟩:=A9u m _ h1
 obtain ⟨z2,rfl⟩:=A9u m _ h2
 exact ⟨.mk z0 z1 z2,rfl⟩
theorem Bq3(n:Nat):∀l,Gv Tryz.prog n 147 l→l.length=13:=fun l h=>by obtain ⟨y,rfl⟩:=Ba1 n l h;rfl
theorem Bon(n:Nat)(l:List PV)(h:Gv Tryz.prog n 149 l):∃y:Bf,l=Ns y:=by
 obtain ⟨m,_,h⟩:=Gc Tryz.underlying149 h
 change P8 (Gv Tryz.prog m) [9,3,145,3,147] l at h
 obtain ⟨a0,b0,rfl,h0,a1,b1,rfl,h1,a2,b2,rfl,h2,a3,b3,rfl,h3,a4,b4,rfl,h4,rfl⟩:=h
 obtain ⟨z0,rfl,_⟩:=Ks Tryz.underlying9 h0
 obtain ⟨z1,rfl,_⟩:=Gb Tryz.underlying3 h1
 obtain ⟨x2,rfl,e2,_,_,_,_⟩:=G7 Tryz.underlying145 h2
 obtain ⟨z2,rfl⟩:=Boj x2 e2
 obtain ⟨z3,rfl,_⟩:=Gb Tryz.underlying3 h3
 obtain ⟨z4,rfl⟩:=Ba1 m _ h4
 exact ⟨.mk z0 z1 z2 z3 z4,rfl⟩
theorem Boo(n:Nat)(l:List PV)(h:Gv Tryz.prog n 156 l):∃y:Bx,l=Rw y:=by
 obtain ⟨m,_,h⟩:=Gc Tryz.underlying156 h
 change P8 (Gv Tryz.prog m) [9,3,154] l at h
 obtain ⟨a0,b0,rfl,h0,a1,b1,rfl,h1,a2,b2,rfl,h2,rfl⟩:=h
 obtain ⟨z0,rfl,_⟩:=Ks Tryz.underlying9 h0
 obtain ⟨z1,rfl,_⟩:=Gb Tryz.underlying3 h1
 obtain ⟨z2,rfl,_⟩:=Gb Tryz.underlying154 h2
 exact ⟨.mk z0 z1 z2,rfl⟩
theorem Bop(n:Nat)(l:List PV)(h:Gv Tryz.prog n 160 l):∃y:B3,l=S3 y:=by
 obtain ⟨m,_,h⟩:=Gc Tryz.underlying160 h
 change P8 (Gv Tryz.prog m) [9,3,3] l at h
 obtain ⟨a0,b0,rfl,h0,a1,b1,rfl,h1,a2,b2,rfl,h2,rfl⟩:=h
 obtain ⟨z0,rfl,_⟩:=Ks Tryz.underlying9 h0
 obtain ⟨z1,rfl,_⟩:=Gb Tryz.underlying3 h1
 obtain ⟨z2,rfl,_⟩:=Gb Tryz.underlying3 h2
 exact ⟨.mk z0 z1 z2,rfl⟩
theorem Boq(n:Nat)(l:List PV)(h:Gv Tryz.prog n 166 l):∃y:Hg,l=Wr y:=by
 obtain ⟨m,_,h⟩:=Gc Tryz.underlying166 h
 change P8 (Gv Tryz.prog m) [9,78,3,3,3] l at h
 obtain ⟨a0,b0,rfl,h0,a1,b1,rfl,h1,a2,b2,rfl,h2,a3,b3,rfl,h3,a4,b4,rfl,h4,rfl⟩:=h
 obtain ⟨z0,rfl,_⟩:=Ks Tryz.underlying9 h0
 obtain ⟨x1,rfl,e1,_,_,_,_⟩:=G7 Tryz.underlying78 h1
 obtain ⟨z1,rfl⟩:=lx3 x1 e1
 obtain ⟨z2,rfl,_⟩:=Gb Tryz.underlying3 h2
 obtain ⟨z3,rfl,_⟩:=Gb Tryz.underlying3 h3
 obtain ⟨z4,rfl,_⟩:=Gb Tryz.underlying3 h4
 exact ⟨.mk z0 z1 z2 z3 z4,rfl⟩
theorem Bor(n:Nat)(l:List PV)(h:Gv Tryz.prog n 172 l):∃y:Cq,l=Yi y:=by
 obtain ⟨m,_,h⟩:=Gc Tryz.underlying172 h
 change P8 (Gv Tryz.prog m) [9,9,3] l at h
 obtain ⟨a0,b0,rfl,h0,a1,b1,rfl,h1,a2,b2,rfl,h2,rfl⟩:=h
 obtain ⟨z0,rfl,_⟩:=Ks Tryz.underlying9 h0
 obtain ⟨z1,rfl,_⟩:=Ks Tryz.underlying9 h1
 obtain ⟨z2,rfl,_⟩:=Gb Tryz.underlying3 h2
 exact ⟨.mk z0 z1 z2,rfl⟩
theorem Bos(n:Nat)(l:List PV)(h:Gv Tryz.prog n 184 l):∃y:Oh,l=k5 y:=by
 obtain ⟨m,_,h⟩:=Gc Tryz.underlying184 h
 change P8 (Gv Tryz.prog m) [9,182,3] l at h
 obtain ⟨a0,b0,rfl,h0,a1,b1,rfl,h1,a2,b2,rfl,h2,rfl⟩:=h
 obtain ⟨z0,rfl,_⟩:=Ks Tryz.underlying9 h0
 obtain ⟨x1,rfl,e1,_,_,_,_⟩:=G7 Tryz.underlying182 h1
 obtain ⟨z1,rfl⟩:=Bok x1 e1
 obtain ⟨z2,rfl,_⟩:=Gb Tryz.underlying3 h2
 exact ⟨.mk z0 z1 z2,rfl⟩
theorem Bou(n:Nat)(l:List PV)(h:Gv Tryz.prog n 228 l):∃y:F6,l=U7 y:=by
 obtain ⟨m,_,h⟩:=Gc Tryz.underlying228 h
 change P8 (Gv Tryz.prog m) [3,3] l at h
 obtain ⟨a0,b0,rfl,h0,a1,b1,rfl,h1,rfl⟩:=h
 obtain ⟨z0,rfl,_⟩:=Gb Tryz.underlying3 h0
 obtain ⟨z1,rfl,_⟩:=Gb Tryz.underlying3 h1
 exact ⟨.mk z0 z1,rfl⟩
theorem Bov(n:Nat)(l:List PV)(h:Gv Tryz.prog n 234 l):∃y:Jz,l=Yj y:=by
 obtain ⟨m,_,h⟩:=Gc Tryz.underlying234 h
 change P8 (Gv Tryz.prog m) [3,9,9] l at h
 obtain ⟨a0,b0,rfl,h0,a1,b1,rfl,h1,a2,b2,rfl,h2,rfl⟩:=h
 obtain ⟨z0,rfl,_⟩:=Gb Tryz.underlying3 h0
 obtain ⟨z1,rfl,_⟩:=Ks Tryz.underlying9 h1
 obtain ⟨z2,rfl,_⟩:=Ks Tryz.underlying9 h2
 exact ⟨.mk z0 z1 z2,rfl⟩
theorem Bti(n:Nat)(y:Bp)(h:Gv Tryz.prog n 72 (Ws y)):Un y:=by
 obtain ⟨m,_,h⟩:=Gc Tryz.underlying72 h
 change P8 (Gv Tryz.prog m) [9,41,3] (Ws y) at h
 obtain ⟨g0,h⟩:=Bj (Km Tryz.underlying9 m) h
 obtain ⟨g1,h⟩:=Bj (F5 Tryz.underlying41 m) h
 obtain ⟨g2,h⟩:=Bj (F5 Tryz.underlying3 m) h
 exact ⟨Rr Tryz.underlying9 g0,Lw Tryz.underlying41 g1,Lw Tryz.underlying3 g2⟩
theorem Ba4(n:Nat)(x:(List Bp))(h:Gv Tryz.prog n 22 [.lst false (.t72 x)]):(x.length≤maxLen∧∀y∈x,Un y):=by
 obtain ⟨h1,m,_,h2⟩:=Vd Tryz.underlying22 h
 exact ⟨h1,fun y hy=>Bti _ _ (Iv (row:=Aia) h2 y hy)⟩
theorem Bth(n:Nat)(y:Be)(h:Gv Tryz.prog n 68 (Wq y)):Mx y:=by
 obtain ⟨m,_,h⟩:=Gc Tryz.underlying68 h
 change P8 (Gv Tryz.prog m) [9,41] (Wq y) at h
 obtain ⟨g0,h⟩:=Bj (Km Tryz.underlying9 m) h
 obtain ⟨g1,h⟩:=Bj (F5 Tryz.underlying41 m) h
 exact ⟨Rr Tryz.underlying9 g0,Lw Tryz.underlying41 g1⟩
theorem A54(n:Nat)(x:(List Be))(h:Gv Tryz.prog n 23 [.lst false (.t68 x)]):(x.length≤maxLen∧∀y∈x,Mx y):=by
 obtain ⟨h1,m,_,h2⟩:=Vd Tryz.underlying23 h
 exact ⟨h1,fun y hy=>Bth _ _ (Iv (row:=Ah9) h2 y hy)⟩
theorem Bo9(n:Nat)(y:F6)(h:Gv Tryz.prog n 228 (U7 y)):Zz y:=by
 obtain ⟨m,_,h⟩:=Gc Tryz.underlying228 h
 change P8 (Gv Tryz.prog m) [3,3] (U7 y) at h
 obtain ⟨g0,h⟩:=Bj (F5 Tryz.underlying3 m) h
 obtain ⟨g1,h⟩:=Bj (F5 Tryz.underlying3 m) h
 exact ⟨Lw Tryz.underlying3 g0,Lw Tryz.underlying3 g1⟩
theorem Bgq(n:Nat)(x:(List F6))(h:Gv Tryz.prog n 145 [.lst false (.t228 x)]):(x.length≤maxLen∧∀y∈x,Zz y):=by
 obtain ⟨h1,m,_,h2⟩:=Vd Tryz.underlying145 h
 exact ⟨h1,fun y hy=>Bo9 _ _ (Iv (row:=Abv) h2 y hy)⟩
theorem A56(n:Nat)(x:(List Int))(h:Gv Tryz.prog n 78 [.lst false (.t3 x)]):(x.length≤maxLen∧∀y∈x,okI .i64 y):=by
 obtain ⟨h1,m,_,h2⟩:=Vd Tryz.underlying78 h
 exact ⟨h1,fun y hy=>Lw Tryz.underlying3 (Iv (row:=Axe) h2 y hy)⟩
theorem Bgo(n:Nat)(y:Bo)(h:Gv Tryz.prog n 80 (C9 y)):Wc y:=by
 obtain ⟨m,_,h⟩:=Gc Tryz.underlying80 h
 change P8 (Gv Tryz.prog m) [77,3,3,3,78,78] (C9 y) at h
 obtain ⟨g0,h⟩:=Bj (F5 Tryz.underlying77 m) h
 obtain ⟨g1,h⟩:=Bj (F5 Tryz.underlying3 m) h
 obtain ⟨g2,h⟩:=Bj (F5 Tryz.underlying3 m) h
 obtain ⟨g3,h⟩:=Bj (F5 Tryz.underlying3 m) h
 obtain ⟨g4,h⟩:=Bj (Ib Tryz.underlying78 m) h
 obtain ⟨g5,h⟩:=Bj (Ib Tryz.underlying78 m) h
 exact ⟨Lw Tryz.underlying77 g0,Lw Tryz.underlying3 g1,Lw Tryz.underlying3 g2,Lw Tryz.underlying3 g3,A56 m _ g4,A56 m _ g5⟩
theorem Bo2(n:Nat)(y:T1)(h:Gv Tryz.prog n 147 (Wp y)):Ad8 y:=by
 obtain ⟨m,_,h⟩:=Gc Tryz.underlying147 h
 change P8 (Gv Tryz.prog m) [9,80,80] (Wp y) at h
 obtain ⟨g0,h⟩:=Bj (Km Tryz.underlying9 m) h
 obtain ⟨g1,h⟩:=Bj (w80 m) h
 obtain ⟨g2,h⟩:=Bj (w80 m) h
 exact ⟨Rr Tryz.underlying9 g0,Bgo m _ g1,Bgo m _ g2⟩
theorem Bo3(n:Nat)(y:Bf)(h:Gv Tryz.prog n 149 (Ns y)):Ti y:=by
 obtain ⟨m,_,h⟩:=Gc Tryz.underlying149 h
 change P8 (Gv Tryz.prog m) [9,3,145,3,147] (Ns y) at h
 obtain ⟨g0,h⟩:=Bj (Km Tryz.underlying9 m) h
 obtain ⟨g1,h⟩:=Bj (F5 Tryz.underlying3 m) h
 obtain ⟨g2,h⟩:=Bj (Ib Tryz.underlying145 m) h
 obtain ⟨g3,h⟩:=Bj (F5 Tryz.underlying3 m) h
 obtain ⟨g4,h⟩:=Bj (Bq3 m) h
 exact ⟨Rr Tryz.underlying9 g0,Lw Tryz.underlying3 g1,Bgq m _ g2,Lw Tryz.underlying3 g3,Bo2 m _ g4⟩
theorem Bpe(n:Nat)(x:(List Bf))(h:Gv Tryz.prog n 24 [.lst false (.t149 x)]):(x.length≤maxLen∧∀y∈x,Ti y):=by
 obtain ⟨h1,m,_,h2⟩:=Vd Tryz.underlying24 h
 exact ⟨h1,fun y hy=>Bo3 _ _ (Iv (row:=Abp) h2 y hy)⟩
theorem Bo4(n:Nat)(y:Bx)(h:Gv Tryz.prog n 156 (Rw y)):Vn y:=by
 obtain ⟨m,_,h⟩:=Gc Tryz.underlying156 h
 change P8 (Gv Tryz.prog m) [9,3,154] (Rw y) at h
 obtain ⟨g0,h⟩:=Bj (Km Tryz.underlying9 m) h
 obtain ⟨g1,h⟩:=Bj (F5 Tryz.underlying3 m) h
 obtain ⟨g2,h⟩:=Bj (F5 Tryz.underlying154 m) h
 exact ⟨Rr Tryz.underlying9 g0,Lw Tryz.underlying3 g1,Lw Tryz.underlying154 g2⟩
theorem Bpf(n:Nat)(x:(List Bx))(h:Gv Tryz.prog n 25 [.lst false (.t156 x)]):(x.length≤maxLen∧∀y∈x,Vn y):=by
 obtain ⟨h1,m,_,h2⟩:=Vd Tryz.underlying25 h
 exact ⟨h1,fun y hy=>Bo4 _ _ (Iv (row:=Abq) h2 y hy)⟩
theorem Bo5(n:Nat)(y:B3)(h:Gv Tryz.prog n 160 (S3 y)):W2 y:=by
 obtain ⟨m,_,h⟩:=Gc Tryz.underlying160 h
 change P8 (Gv Tryz.prog m) [9,3,3] (S3 y) at h
 obtain ⟨g0,h⟩:=Bj (Km Tryz.underlying9 m) h
 obtain ⟨g1,h⟩:=Bj (F5 Tryz.underlying3 m) h
 obtain ⟨g2,h⟩:=Bj (F5 Tryz.underlying3 m) h
 exact ⟨Rr Tryz.underlying9 g0,Lw Tryz.underlying3 g1,Lw Tryz.underlying3 g2⟩
theorem Bpg(n:Nat)(x:(List B3))(h:Gv Tryz.prog n 26 [.lst false (.t160 x)]):(x.length≤maxLen∧∀y∈x,W2 y):=by
 obtain ⟨h1,m,_,h2⟩:=Vd Tryz.underlying26 h
 exact ⟨h1,fun y hy=>Bo5 _ _ (Iv (row:=Abr) h2 y hy)⟩
theorem Aw7(n:Nat)(x:(List ByteArray))(h:Gv Tryz.prog n 27 [.lst false (.t9 x)]):(x.length≤maxLen∧∀y∈x,okS y):=by
 obtain ⟨h1,m,_,h2⟩:=Vd Tryz.underlying27 h
 exact ⟨h1,fun y hy=>Rr Tryz.underlying9 (Iv (row:=Axf) h2 y hy)⟩
theorem Bpc:∀n,(∀y:Aa,Gv Tryz.prog n 38 (Ay y)→Ce y):=by
 intro n
 induction n using Nat.strongRecOn with
 |_ n ih=>
 refine ?_
 ·intro y h
  obtain ⟨m,hm,h⟩:=Gc Tryz.underlying38 h
  change P8 (Gv Tryz.prog m) [35,9,3,36] (Ay y) at h
  cases y with
  |mk a0 a1 a2 a3=>
  obtain ⟨g0,h⟩:=Bj (F5 Tryz.underlying35 m) h
  obtain ⟨g1,h⟩:=Bj (Km Tryz.underlying9 m) h
  obtain ⟨g2,h⟩:=Bj (F5 Tryz.underlying3 m) h
  obtain ⟨g3,h⟩:=Bj (Ib Tryz.underlying36 m) h
  have q3:(a3.length≤maxLen∧∀y∈a3,Ce y):=by
   obtain ⟨h1,m2,hm2,h2⟩:=Vd Tryz.underlying36 g3
   exact ⟨h1,fun y hy=>(ih m2 (by omega)) y (Iv (row:=Ac4) h2 y hy)⟩
  exact .mk _ _ _ _ (Lw Tryz.underlying35 g0) (Rr Tryz.underlying9 g1) (Lw Tryz.underlying3 g2) q3.1 q3.2
theorem Bgn(n:Nat)(y:Aa)(h:Gv Tryz.prog n 38 (Ay y)):Ce y:=(Bpc n) y h
theorem Ba5(n:Nat)(x:(List Aa))(h:Gv Tryz.prog n 36 [.lst false (.t38 x)]):(x.length≤maxLen∧∀y∈x,Ce y):=by
 obtain ⟨h1,m,_,h2⟩:=Vd Tryz.underlying36 h
 exact ⟨h1,fun y hy=>Bgn _ _ (Iv (row:=Ac4) h2 y hy)⟩
theorem Bpd:∀n,(∀y:Ab,Gv Tryz.prog n 82 (B2 y)→Cj y):=by
 intro n
 induction n using Nat.strongRecOn with
 |_ n ih=>
 refine ?_
 ·intro y h
  obtain ⟨m,hm,h⟩:=Gc Tryz.underlying82 h
  change P8 (Gv Tryz.prog m) [76,9,9,38,38,36,80,4,52,52] (B2 y) at h
  cases y with
  |mk a0 a1 a2 a3 a4 a5 a6 a7 a8 a9=>
  obtain ⟨g0,h⟩:=Bj (F5 Tryz.underlying76 m) h
  obtain ⟨g1,h⟩:=Bj (Km Tryz.underlying9 m) h
  obtain ⟨g2,h⟩:=Bj (Km Tryz.underlying9 m) h
  obtain ⟨g3,h⟩:=Bj (w38 m) h
  obtain ⟨g4,h⟩:=Bj (w38 m) h
  obtain ⟨g5,h⟩:=Bj (Ib Tryz.underlying36 m) h
  obtain ⟨g6,h⟩:=Bj (w80 m) h
  obtain ⟨g7,h⟩:=Bj (A60 Tryz.underlying4 m) h
  obtain ⟨g8,h⟩:=Bj (Ib Tryz.underlying52 m) h
  obtain ⟨g9,h⟩:=Bj (Ib Tryz.underlying52 m) h
  have q8:(a8.length≤maxLen∧∀y∈a8,Cj y):=by
   obtain ⟨h1,m2,hm2,h2⟩:=Vd Tryz.underlying52 g8
   exact ⟨h1,fun y hy=>(ih m2 (by omega)) y (Iv (row:=Aac) h2 y hy)⟩
  have q9:(a9.length≤maxLen∧∀y∈a9,Cj y):=by
   obtain ⟨h1,m2,hm2,h2⟩:=Vd Tryz.underlying52 g9
   exact ⟨h1,fun y hy=>(ih m2 (by omega)) y (Iv (row:=Aac) h2 y hy)⟩
  exact .mk _ _ _ _ _ _ _ _ _ _ (Lw Tryz.underlying76 g0) (Rr Tryz.underlying9 g1) (Rr Tryz.underlying9 g2) (Bgn m _ g3) (Bgn m _ g4) (Ba5 m _ g5).1 (Ba5 m _ g5).2 (Bgo m _ g6) (trivial) q8.1 q8.2 q9.1 q9.2
theorem Btk(n:Nat)(y:Ab)(h:Gv Tryz.prog n 82 (B2 y)):Cj y:=(Bpd n) y h
theorem A55(n:Nat)(x:(List Ab))(h:Gv Tryz.prog n 52 [.lst false (.t82 x)]):(x.length≤maxLen∧∀y∈x,Cj y):=by
 obtain ⟨h1,m,_,h2⟩:=Vd Tryz.underlying52 h
 exact ⟨h1,fun y hy=>Btk _ _ (Iv (row:=Aac) h2 y hy)⟩
theorem Btj(n:Nat)(y:Bg)(h:Gv Tryz.prog n 74 (Hk y)):Um y:=by
 obtain ⟨m,_,h⟩:=Gc Tryz.underlying74 h
 change P8 (Gv Tryz.prog m) [9,23,23,52] (Hk y) at h
 obtain ⟨g0,h⟩:=Bj (Km Tryz.underlying9 m) h
 obtain ⟨g1,h⟩:=Bj (Ib Tryz.underlying23 m) h
 obtain ⟨g2,h⟩:=Bj (Ib Tryz.underlying23 m) h
 obtain ⟨g3,h⟩:=Bj (Ib Tryz.underlying52 m) h
 exact ⟨Rr Tryz.underlying9 g0,A54 m _ g1,A54 m _ g2,A55 m _ g3⟩
theorem Bph(n:Nat)(x:(List Bg))(h:Gv Tryz.prog n 28 [.lst false (.t74 x)]):(x.length≤maxLen∧∀y∈x,Um y):=by
 obtain ⟨h1,m,_,h2⟩:=Vd Tryz.underlying28 h
 exact ⟨h1,fun y hy=>Btj _ _ (Iv (row:=Aib) h2 y hy)⟩
theorem Bo6(n:Nat)(y:Hg)(h:Gv Tryz.prog n 166 (Wr y)):m6 y:=by
 obtain ⟨m,_,h⟩:=Gc Tryz.underlying166 h
 change P8 (Gv Tryz.prog m) [9,78,3,3,3] (Wr y) at h
 obtain ⟨g0,h⟩:=Bj (Km Tryz.underlying9 m) h
 obtain ⟨g1,h⟩:=Bj (Ib Tryz.underlying78 m) h
 obtain ⟨g2,h⟩:=Bj (F5 Tryz.underlying3 m) h
 obtain ⟨g3,h⟩:=Bj (F5 Tryz.underlying3 m) h
 obtain ⟨g4,h⟩:=Bj (F5 Tryz.underlying3 m) h
 exact ⟨Rr Tryz.underlying9 g0,A56 m _ g1,Lw Tryz.underlying3 g2,Lw Tryz.underlying3 g3,Lw Tryz.underlying3 g4⟩
theorem Bpi(n:Nat)(x:(List Hg))(h:Gv Tryz.prog n 29 [.lst false (.t166 x)]):(x.length≤maxLen∧∀y∈x,m6 y):=by
 obtain ⟨h1,m,_,h2⟩:=Vd Tryz.underlying29 h
 exact ⟨h1,fun y hy=>Bo6 _ _ (Iv (row:=Abs) h2 y hy)⟩
theorem Bpa(n:Nat)(y:Jz)(h:Gv Tryz.prog n 234 (Yj y)):Aap y:=by
 obtain ⟨m,_,h⟩:=Gc Tryz.underlying234 h
 change P8 (Gv Tryz.prog m) [3,9,9] (Yj y) at h
 obtain ⟨g0,h⟩:=Bj (F5 Tryz.underlying3 m) h
 obtain ⟨g1,h⟩:=Bj (Km Tryz.underlying9 m) h
 obtain ⟨g2,h⟩:=Bj (Km Tryz.underlying9 m) h
 exact ⟨Lw Tryz.underlying3 g0,Rr Tryz.underlying9 g1,Rr Tryz.underlying9 g2⟩
theorem Bgr(n:Nat)(x:(List Jz))(h:Gv Tryz.prog n 182 [.lst false (.t234 x)]):(x.length≤maxLen∧∀y∈x,Aap y):=by
 obtain ⟨h1,m,_,h2⟩:=Vd Tryz.underlying182 h
 exact ⟨h1,fun y hy=>Bpa _ _ (Iv (row:=Abw) h2 y hy)⟩
theorem Bo8(n:Nat)(y:Oh)(h:Gv Tryz.prog n 184 (k5 y)):Ac7 y:=by
 obtain ⟨m,_,h⟩:=Gc Tryz.underlying184 h
 change P8 (Gv Tryz.prog m) [9,182,3] (k5 y) at h
 obtain ⟨g0,h⟩:=Bj (Km Tryz.underlying9 m) h
 obtain ⟨g1,h⟩:=Bj (Ib Tryz.underlying182 m) h
 obtain ⟨g2,h⟩:=Bj (F5 Tryz.underlying3 m) h
 exact ⟨Rr Tryz.underlying9 g0,Bgr m _ g1,Lw Tryz.underlying3 g2⟩
theorem Bpj(n:Nat)(x:(List Oh))(h:Gv Tryz.prog n 30 [.lst false (.t184 x)]):(x.length≤maxLen∧∀y∈x,Ac7 y):=by
 obtain ⟨h1,m,_,h2⟩:=Vd Tryz.underlying30 h
 exact ⟨h1,fun y hy=>Bo8 _ _ (Iv (row:=Abu) h2 y hy)⟩
theorem Btf(n:Nat)(y:Ac)(h:Gv Tryz.prog n 32 (Bk y)):L8 y:=by
 obtain ⟨m,_,h⟩:=Gc Tryz.underlying32 h
 change P8 (Gv Tryz.prog m) [9,22,24,25,26,27,27,27,27,27,28,29,30] (Bk y) at h
 obtain ⟨g0,h⟩:=Bj (Km Tryz.underlying9 m) h
 obtain ⟨g1,h⟩:=Bj (Ib Tryz.underlying22 m) h
 obtain ⟨g2,h⟩:=Bj (Ib Tryz.underlying24 m) h
 obtain ⟨g3,h⟩:=Bj (Ib Tryz.underlying25 m) h
 obtain ⟨g4,h⟩:=Bj (Ib Tryz.underlying26 m) h
 obtain ⟨g5,h⟩:=Bj (Ib Tryz.underlying27 m) h
 obtain ⟨g6,h⟩:=Bj (Ib Tryz.underlying27 m) h
 obtain ⟨g7,h⟩:=Bj (Ib Tryz.underlying27 m) h
 obtain ⟨g8,h⟩:=Bj (Ib Tryz.underlying27 m) h
 obtain ⟨g9,h⟩:=Bj (Ib Tryz.underlying27 m) h
 obtain ⟨g10,h⟩:=Bj (Ib Tryz.underlying28 m) h
 obtain ⟨g11,h⟩:=Bj (Ib Tryz.underlying29 m) h
 obtain ⟨g12,h⟩:=Bj (Ib Tryz.underlying30 m) h
 exact ⟨Rr Tryz.underlying9 g0,Ba4 m _ g1,Bpe m _ g2,Bpf m _ g3,Bpg m _ g4,Aw7 m _ g5,Aw7 m _ g6,Aw7 m _ g7,Aw7 m _ g8,Aw7 m _ g9,Bph m _ g10,Bpi m _ g11,Bpj m _ g12⟩
theorem Bpk(n:Nat)(x:(List Ac))(h:Gv Tryz.prog n 48 [.lst false (.t32 x)]):(x.length≤maxLen∧∀y∈x,L8 y):=by
 obtain ⟨h1,m,_,h2⟩:=Vd Tryz.underlying48 h
 exact ⟨h1,fun y hy=>Btf _ _ (Iv (row:=Ah8) h2 y hy)⟩
theorem Bo7(n:Nat)(y:Cq)(h:Gv Tryz.prog n 172 (Yi y)):Aao y:=by
 obtain ⟨m,_,h⟩:=Gc Tryz.underlying172 h
 change P8 (Gv Tryz.prog m) [9,9,3] (Yi y) at h
 obtain ⟨g0,h⟩:=Bj (Km Tryz.underlying9 m) h
 obtain ⟨g1,h⟩:=Bj (Km Tryz.underlying9 m) h
 obtain ⟨g2,h⟩:=Bj (F5 Tryz.underlying3 m) h
 exact ⟨Rr Tryz.underlying9 g0,Rr Tryz.underlying9 g1,Lw Tryz.underlying3 g2⟩
theorem Bpl(n:Nat)(x:(List Cq))(h:Gv Tryz.prog n 49 [.lst false (.t172 x)]):(x.length≤maxLen∧∀y∈x,Aao y):=by
 obtain ⟨h1,m,_,h2⟩:=Vd Tryz.underlying49 h
 exact ⟨h1,fun y hy=>Bo7 _ _ (Iv (row:=Abt) h2 y hy)⟩
theorem Btg(n:Nat)(y:Af)(h:Gv Tryz.prog n 51 (Bz y)):S9 y:=by
 obtain ⟨m,_,h⟩:=Gc Tryz.underlying51 h
 change P8 (Gv Tryz.prog m) [9,22,48,49] (Bz y) at h
 obtain ⟨g0,h⟩:=Bj (Km Tryz.underlying9 m) h
 obtain ⟨g1,h⟩:=Bj (Ib Tryz.underlying22 m) h
 obtain ⟨g2,h⟩:=Bj (Ib Tryz.underlying48 m) h
 obtain ⟨g3,h⟩:=Bj (Ib Tryz.underlying49 m) h
 exact ⟨Rr Tryz.underlying9 g0,Ba4 m _ g1,Bpk m _ g2,Bpl m _ g3⟩
theorem Bpb(n:Nat)(y:Mq)(h:Gv Tryz.prog n 54 (Rn y)):Aan y:=by
 obtain ⟨m,_,h⟩:=Gc Tryz.underlying54 h
 change P8 (Gv Tryz.prog m) [51,3,23,52,52] (Rn y) at h
 obtain ⟨g0,h⟩:=Bj (w51 m) h
 obtain ⟨g1,h⟩:=Bj (F5 Tryz.underlying3 m) h
 obtain ⟨g2,h⟩:=Bj (Ib Tryz.underlying23 m) h
 obtain ⟨g3,h⟩:=Bj (Ib Tryz.underlying52 m) h
 obtain ⟨g4,h⟩:=Bj (Ib Tryz.underlying52 m) h
 exact ⟨Btg m _ g0,Lw Tryz.underlying3 g1,A54 m _ g2,A55 m _ g3,A55 m _ g4⟩
theorem Bqy(n m:Nat)(f:Nat→List PV)(hf:∀i,i < m→Gv Tryz.prog n 3 (f i)):∃x:LX,x.e=3∧x.len=m∧x.sz= Tryz.prog.cellsOf 3∧∀i,i < m→x.row i=f i:=by
 obtain ⟨l,h1,h2⟩:=L5 Axe m f (fun i hi=>let ⟨z,h,_⟩:=Gb Tryz.underlying3 (hf i hi);⟨z,h⟩)
 exact ⟨.t3 l,rfl,h1,by kernel_rfl,h2⟩
theorem Bqz(n m:Nat)(f:Nat→List PV)(hf:∀i,i < m→Gv Tryz.prog n 4 (f i)):∃x:LX,x.e=4∧x.len=m∧x.sz= Tryz.prog.cellsOf 4∧∀i,i < m→x.row i=f i:=by
 obtain ⟨l,h1,h2⟩:=L5 A2g m f (fun i hi=>let ⟨z,h⟩:=Anx Tryz.underlying4 (hf i hi);⟨z,h⟩)
 exact ⟨.t4 l,rfl,h1,by kernel_rfl,h2⟩
theorem Bq0(n m:Nat)(f:Nat→List PV)(hf:∀i,i < m→Gv Tryz.prog n 9 (f i)):∃x:LX,x.e=9∧x.len=m∧x.sz= Tryz.prog.cellsOf 9∧∀i,i < m→x.row i=f i:=by
 obtain ⟨l,h1,h2⟩:=L5 Axf m f (fun i hi=>let ⟨z,h,_⟩:=Ks Tryz.underlying9 (hf i hi);⟨z,h⟩)
 exact ⟨.t9 l,rfl,h1,by kernel_rfl,h2⟩
theorem Bhl(n m:Nat)(f:Nat→List PV)(hf:∀i,i < m→Gv Tryz.prog n 23 (f i)):∃x:LX,x.e=23∧x.len=m∧x.sz= Tryz.prog.cellsOf 23∧∀i,i < m→x.row i=f i:=by
 obtain ⟨l,h1,h2⟩:=L5 Aqg m f (fun i hi=>by
  obtain ⟨x,h,he,_⟩:=G7 Tryz.underlying23 (hf i hi)
  obtain ⟨z,rfl⟩:=A9r x he
  exact ⟨z,h⟩)
 exact ⟨.t23 l,rfl,h1,by kernel_rfl,h2⟩
theorem Bhm(n m:Nat)(f:Nat→List PV)(hf:∀i,i < m→Gv Tryz.prog n 27 (f i)):∃x:LX,x.e=27∧x.len=m∧x.sz= Tryz.prog.cellsOf 27∧∀i,i < m→x.row i=f i:=by
 obtain ⟨l,h1,h2⟩:=L5 Aqh m f (fun i hi=>by
  obtain ⟨x,h,he,_⟩:=G7 Tryz.underlying27 (hf i hi)
  obtain ⟨z,rfl⟩:=lx9 x he
  exact ⟨z,h⟩)
 exact ⟨.t27 l,rfl,h1,by kernel_rfl,h2⟩
theorem Bhn(n m:Nat)(f:Nat→List PV)(hf:∀i,i < m→Gv Tryz.prog n 32 (f i)):∃x:LX,x.e=32∧x.len=m∧x.sz= Tryz.prog.cellsOf 32∧∀i,i < m→x.row i=f i:=by
 obtain ⟨l,h1,h2⟩:=L5 Ah8 m f (fun i hi=>Bs8 n _ (hf i hi))
 exact ⟨.t32 l,rfl,h1,by kernel_rfl,h2⟩
theorem Bho(n m:Nat)(f:Nat→List PV)(hf:∀i,i < m→Gv Tryz.prog n 38 (f i)):∃x:LX,x.e=38∧x.len=m∧x.sz= Tryz.prog.cellsOf 38∧∀i,i < m→x.row i=f i:=by
 obtain ⟨l,h1,h2⟩:=L5 Ac4 m f (fun i hi=>A9t n _ (hf i hi))
 exact ⟨.t38 l,rfl,h1,by kernel_rfl,h2⟩
theorem Bhp(n m:Nat)(f:Nat→List PV)(hf:∀i,i < m→Gv Tryz.prog n 41 (f i)):∃x:LX,x.e=41∧x.len=m∧x.sz= Tryz.prog.cellsOf 41∧∀i,i < m→x.row i=f i:=by
 obtain ⟨l,h1,h2⟩:=L5 Aqi m f (fun i hi=>let ⟨z,h,_⟩:=Gb Tryz.underlying41 (hf i hi);⟨z,h⟩)
 exact ⟨.t41 l,rfl,h1,by kernel_rfl,h2⟩
theorem Bhq(n m:Nat)(f:Nat→List PV)(hf:∀i,i < m→Gv Tryz.prog n 68 (f i)):∃x:LX,x.e=68∧x.len=m∧x.sz= Tryz.prog.cellsOf 68∧∀i,i < m→x.row i=f i:=by
 obtain ⟨l,h1,h2⟩:=L5 Ah9 m f (fun i hi=>Bs9 n _ (hf i hi))
 exact ⟨.t68 l,rfl,h1,by kernel_rfl,h2⟩
theorem Bhr(n m:Nat)(f:Nat→List PV)(hf:∀i,i < m→Gv Tryz.prog n 72 (f i)):∃x:LX,x.e=72∧x.len=m∧x.sz= Tryz.prog.cellsOf 72∧∀i,i < m→x.row i=f i:=by
 obtain ⟨l,h1,h2⟩:=L5 Aia m f (fun i hi=>Bta n _ (hf i hi))
 exact ⟨.t72 l,rfl,h1,by kernel_rfl,h2⟩
theorem Bhs(n m:Nat)(f:Nat→List PV)(hf:∀i,i < m→Gv Tryz.prog n 74 (f i)):∃x:LX,x.e=74∧x.len=m∧x.sz= Tryz.prog.cellsOf 74∧∀i,i < m→x.row i=f i:=by
 obtain ⟨l,h1,h2⟩:=L5 Aib m f (fun i hi=>Btb n _ (hf i hi))
 exact ⟨.t74 l,rfl,h1,by kernel_rfl,h2⟩
theorem Bht(n m:Nat)(f:Nat→List PV)(hf:∀i,i < m→Gv Tryz.prog n 82 (f i)):∃x:LX,x.e=82∧x.len=m∧x.sz= Tryz.prog.cellsOf 82∧∀i,i < m→x.row i=f i:=by
 obtain ⟨l,h1,h2⟩:=L5 Aac m f (fun i hi=>Btc n _ (hf i hi))
 exact ⟨.t82 l,rfl,h1,by kernel_rfl,h2⟩
theorem A90(n m:Nat)(f:Nat→List PV)(hf:∀i,i < m→Gv Tryz.prog n 149 (f i)):∃x:LX,x.e=149∧x.len=m∧x.sz= Tryz.prog.cellsOf 149∧∀i,i < m→x.row i=f i:=by
 obtain ⟨l,h1,h2⟩:=L5 Abp m f (fun i hi=>Bon n _ (hf i hi))
 exact ⟨.t149 l,rfl,h1,by kernel_rfl,h2⟩
theorem A91(n m:Nat)(f:Nat→List PV)(hf:∀i,i < m→Gv Tryz.prog n 156 (f i)):∃x:LX,x.e=156∧x.len=m∧x.sz= Tryz.prog.cellsOf 156∧∀i,i < m→x.row i=f i:=by
 obtain ⟨l,h1,h2⟩:=L5 Abq m f (fun i hi=>Boo n _ (hf i hi))
 exact ⟨.t156 l,rfl,h1,by kernel_rfl,h2⟩
theorem A92(n m:Nat)(f:Nat→List PV)(hf:∀i,i < m→Gv Tryz.prog n 160 (f i)):∃x:LX,x.e=160∧x.len=m∧x.sz= Tryz.prog.cellsOf 160∧∀i,i < m→x.row i=f i:=by
 obtain ⟨l,h1,h2⟩:=L5 Abr m f (fun i hi=>Bop n _ (hf i hi))
 exact ⟨.t160 l,rfl,h1,by kernel_rfl,h2⟩
theorem A93(n m:Nat)(f:Nat→List PV)(hf:∀i,i < m→Gv Tryz.prog n 166 (f i)):∃x:LX,x.e=166∧x.len=m∧x.sz= Tryz.prog.cellsOf 166∧∀i,i < m→x.row i=f i:=by
 obtain ⟨l,h1,h2⟩:=L5 Abs m f (fun i hi=>Boq n _ (hf i hi))
 exact ⟨.t166 l,rfl,h1,by kernel_rfl,h2⟩
theorem A94(n m:Nat)(f:Nat→List PV)(hf:∀i,i < m→Gv Tryz.prog n 172 (f i)):∃x:LX,x.e=172∧x.len=m∧x.sz= Tryz.prog.cellsOf 172∧∀i,i < m→x.row i=f i:=by
 obtain ⟨l,h1,h2⟩:=L5 Abt m f (fun i hi=>Bor n _ (hf i hi))
 exact ⟨.t172 l,rfl,h1,by kernel_rfl,h2⟩
theorem A95(n m:Nat)(f:Nat→List PV)(hf:∀i,i < m→Gv Tryz.prog n 184 (f i)):∃x:LX,x.e=184∧x.len=m∧x.sz= Tryz.prog.cellsOf 184∧∀i,i < m→x.row i=f i:=by
 obtain ⟨l,h1,h2⟩:=L5 Abu m f (fun i hi=>Bos n _ (hf i hi))
 exact ⟨.t184 l,rfl,h1,by kernel_rfl,h2⟩
theorem A96(n m:Nat)(f:Nat→List PV)(hf:∀i,i < m→Gv Tryz.prog n 228 (f i)):∃x:LX,x.e=228∧x.len=m∧x.sz= Tryz.prog.cellsOf 228∧∀i,i < m→x.row i=f i:=by
 obtain ⟨l,h1,h2⟩:=L5 Abv m f (fun i hi=>Bou n _ (hf i hi))
 exact ⟨.t228 l,rfl,h1,by kernel_rfl,h2⟩
theorem A97(n m:Nat)(f:Nat→List PV)(hf:∀i,i < m→Gv Tryz.prog n 234 (f i)):∃x:LX,x.e=234∧x.len=m∧x.sz= Tryz.prog.cellsOf 234∧∀i,i < m→x.row i=f i:=by
 obtain ⟨l,h1,h2⟩:=L5 Abw m f (fun i hi=>Bov n _ (hf i hi))
 exact ⟨.t234 l,rfl,h1,by kernel_rfl,h2⟩
def rdL:List Nat:= [3,4,9,22,23,24,25,26,27,28,29,30,32,34,35,36,38,41,48,49,51,52,54,63,68,72,74,76,77,78,80,82,145,147,149,154,156,160,166,172,182,184,228,234]
theorem Bqv:Akx Tryz.prog rdL:=by
 intro e n m f he hs hf
 simp only [rdL,List.mem_cons,List.not_mem_nil,or_false] at he
 rcases he with rfl|rfl|rfl|rfl|rfl|rfl|rfl|rfl|rfl|rfl|rfl|rfl|rfl|rfl|rfl|rfl|rfl|rfl|rfl|rfl|rfl|rfl|rfl|rfl|rfl|rfl|rfl|rfl|rfl|rfl|rfl|rfl|rfl|rfl|rfl|rfl|rfl|rfl|rfl|rfl|rfl|rfl|rfl|rfl
 ·exact Bqy n m f hf
 ·exact Bqz n m f hf
 ·exact Bq0 n m f hf
 ·exact nomatch hs
 ·exact Bhl n m f hf
 ·exact nomatch hs
 ·exact nomatch hs
 ·exact nomatch hs
 ·exact Bhm n m f hf
 ·exact nomatch hs
 ·exact nomatch hs
 ·exact nomatch hs
 ·exact Bhn n m f hf
 ·exact nomatch hs
 ·exact nomatch hs
 ·exact nomatch hs
 ·exact Bho n m f hf
 ·exact Bhp n m f hf
 ·exact nomatch hs
 ·exact nomatch hs
 ·exact nomatch hs
 ·exact nomatch hs
 ·exact nomatch hs
 ·exact nomatch hs
 ·exact Bhq n m f hf
 ·exact Bhr n m f hf
 ·exact Bhs n m f hf
 ·exact nomatch hs
 ·exact nomatch hs
 ·exact nomatch hs
 ·exact nomatch hs
 ·exact Bht n m f hf
 ·exact nomatch hs
 ·exact nomatch hs
 ·exact A90 n m f hf
 ·exact nomatch hs
 ·exact A91 n m f hf
 ·exact A92 n m f hf
 ·exact A93 n m f hf
 ·exact A94 n m f hf
 ·exact nomatch hs
 ·exact A95 n m f hf
 ·exact A96 n m f hf
 ·exact A97 n m f hf
theorem Bqw:Awt Tryz.prog rdL=true:=by kernel_rfl
end Go.Proofs.YtcbandfdmbkokaaGreat.Ev
