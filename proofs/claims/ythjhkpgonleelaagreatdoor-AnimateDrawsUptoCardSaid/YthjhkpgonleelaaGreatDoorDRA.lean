/-  aO is read, and its bulk. -/
import Derived.Test.YthjhkpgonleelaaGreatDoorDG0
import Derived.Test.YthjhkpgonleelaaGreatDoorDFz
set_option maxRecDepth 100000
set_option maxHeartbeats 4000000
set_option linter.unusedVariables false
set_option linter.unusedSimpArgs false
set_option linter.unnecessarySimpa false
namespace Go.Proofs.YthjhkpgonleelaaGreatDoor.Ev
open Go An
def Aul(x:Dt):Prop:=okI .i64 x.aV/\okI .i64 x.To/\okI .i64 x.bU
def Aut(x:Dt):Nat:=(1+(1+1))+1
def Z6(x:Bk):Prop:=okI .i64 x.Op/\okI .i64 x.A/\okI .i64 x.B/\okI .i64 x.N/\(x.aW.length<=maxLen/\∀y∈x.aW,okI .i64 y)/\(x.aU.length<=maxLen/\∀y∈x.aU,okI .i64 y)
def L9(x:Bk):Nat:=(1+(1+(1+(1+((Ga (λ(z:Int)=>1) x.aW+1)+((Ga (λ(z:Int)=>1) x.aU+1)))))))+1
inductive B1:Ab->Prop
 |mk (a0:Int) (a1:Yb) (a2:Int) (a3:(List Ab)) (h0_0:okI .i64 a0) (h1_0:okS a1) (h2_0:okI .i64 a2) (h3_0:a3.length<=maxLen) (h3_1:∀y∈a3,B1 y):B1 (.mk a0 a1 a2 a3)
mutual
def B5:Ab->Nat
 | .mk a0 a1 a2 a3=>(1+((a1.size+1)+(1+((Sm a3+1)))))+1
def Sm:List Ab->Nat
 | []=>0
 |x::k=>B5 x+Sm k
end
theorem A12(l:List Ab):Sm l=Ga B5 l:=by
 induction l with
 |nil=>rw[Sm];rfl
 |cons x k ih=>rw[Sm,ih];rfl
theorem A4q(x:Ab):B5 x=(1+((x.aF.size+1)+(1+((Ga B5 x.aY+1)))))+1:=by
 cases x with|mk a0 a1 a2 a3=>simp only[B5,A12,Ab.Op,Ab.aF,Ab.N,Ab.aY]
def Ahv(x:Ar):Prop:=okI .i64 x.Op/\okI .i64 x.A/\okI .i64 x.B/\okI .i64 x.C/\B1 x.E/\B1 x.F/\(x.aP.length<=maxLen/\∀y∈x.aP,B1 y)/\Z6 x.bF/\True
def Ow(x:Ar):Nat:=(1+(1+(1+(1+(B5 x.E+(B5 x.F+((Ga B5 x.aP+1)+(L9 x.bF+1))))))))+1
def Ake(x:Aq):Prop:=okS x.aF/\okI .i64 x.aJ/\okI .i64 x.dD/\(x.aR.length<=maxLen/\∀y∈x.aR,Ahv y)
def Sb(x:Aq):Nat:=((x.aF.size+1)+(1+(1+((Ga Ow x.aR+1)))))+1
def Tg(x:Bg):Prop:=okS x.aF/\okI .i64 x.Length/\okI .i64 x.Step
def Th(x:Bg):Nat:=((x.aF.size+1)+(1+1))+1
def Aq3(x:Bd):Prop:=okI .i64 x.cZ/\okS x.aO/\okS x.aF
def Arz(x:Bd):Nat:=(1+((x.aO.size+1)+((x.aF.size+1))))+1
def Acv(x:Bh):Prop:=okS x.aF/\(x.bV.length<=maxLen/\∀y∈x.bV,Aq3 y)/\okI .i64 x.Total
def Auu(x:Bh):Nat:=((x.aF.size+1)+((Ga Arz x.bV+1)+1))+1
def Alc(x:Eu):Prop:=okI .i64 x.At/\okI .i64 x.Units
def Aln(x:Eu):Nat:=(1+1)+1
def Av2(x:N7):Prop:=okS x.dG/\Z6 x.Up/\Z6 x.Down
def Ou(x:N7):Nat:=((x.dG.size+1)+(L9 x.Up+L9 x.Down))+1
def Qv(x:Ak):Prop:=okS x.aF/\okI .i64 x.Units/\(x.bA.length<=maxLen/\∀y∈x.bA,Alc y)/\okI .i64 x.dA/\Av2 x.bS
def E9(x:Ak):Nat:=((x.aF.size+1)+(1+((Ga Aln x.bA+1)+(1+Ou x.bS))))+1
def m8(x:Ba):Prop:=okS x.aF/\okI .i64 x.bO
def Ov(x:Ba):Nat:=((x.aF.size+1)+1)+1
inductive Cz:Ad->Prop
 |mk (a0:Int) (a1:Yb) (a2:Yb) (a3:Ab) (a4:Ab) (a5:(List Ab)) (a6:Bk) (a7:Bool) (a8:(List Ad)) (a9:(List Ad)) (h0_0:okI .i64 a0) (h1_0:okS a1) (h2_0:okS a2) (h3_0:B1 a3) (h4_0:B1 a4) (h5_0:a5.length<=maxLen) (h5_1:∀y∈a5,B1 y) (h6_0:Z6 a6) (h7_0:True) (h8_0:a8.length<=maxLen) (h8_1:∀y∈a8,Cz y) (h9_0:a9.length<=maxLen) (h9_1:∀y∈a9,Cz y):Cz (.mk a0 a1 a2 a3 a4 a5 a6 a7 a8 a9)
mutual
def Ek:Ad->Nat
 | .mk a0 a1 a2 a3 a4 a5 a6 a7 a8 a9=>(1+((a1.size+1)+((a2.size+1)+(B5 a3+(B5 a4+((Ga B5 a5+1)+(L9 a6+(1+((Dy a8+1)+((Dy a9+1)))))))))))+1
def Dy:List Ad->Nat
 | []=>0
 |x::k=>Ek x+Dy k
end
theorem N8(l:List Ad):Dy l=Ga Ek l:=by
 induction l with
 |nil=>rw[Dy];rfl
 |cons x k ih=>rw[Dy,ih];rfl
theorem Ary(x:Ad):Ek x=(1+((x.aF.size+1)+((x.Of.size+1)+(B5 x.E+(B5 x.F+((Ga B5 x.aP+1)+(L9 x.bF+(1+((Ga Ek x.bE+1)+((Ga Ek x.bN+1)))))))))))+1:=by
 cases x with|mk a0 a1 a2 a3 a4 a5 a6 a7 a8 a9=>simp only[Ek,N8,Ad.Op,Ad.aF,Ad.Of,Ad.E,Ad.F,Ad.aP,Ad.bF,Ad.bY,Ad.bE,Ad.bN]
def Re(x:Am):Prop:=okS x.aF/\(x.aJ.length<=maxLen/\∀y∈x.aJ,m8 y)/\(x.bC.length<=maxLen/\∀y∈x.bC,m8 y)/\(x.bE.length<=maxLen/\∀y∈x.bE,Cz y)
def Gj(x:Am):Nat:=((x.aF.size+1)+((Ga Ov x.aJ+1)+((Ga Ov x.bC+1)+((Ga Ek x.bE+1)))))+1
def Ahw(x:Bv):Prop:=okS x.dJ/\(x.aP.length<=maxLen/\∀y∈x.aP,okI .i64 y)/\okI .i64 x.At/\okI .i64 x.Every/\okI .i64 x.Until
def Ao6(x:Bv):Nat:=((x.dJ.size+1)+((Ga (λ(z:Int)=>1) x.aP+1)+(1+(1+1))))+1
def Rf(x:Au):Prop:=okS x.aF/\okI .i64 x.Room/\okI .i64 x.dM
def Rk(x:Au):Nat:=((x.aF.size+1)+(1+1))+1
def Ot(x:Aw):Prop:=okS x.aF/\okI .i64 x.bO/\okI .i64 x.N
def V5(x:Aw):Nat:=((x.aF.size+1)+(1+1))+1
def B8(x:Aa):Prop:=okS x.aF/\(x.bX.length<=maxLen/\∀y∈x.bX,Ot y)/\(x.aG.length<=maxLen/\∀y∈x.aG,Qv y)/\(x.aM.length<=maxLen/\∀y∈x.aM,Rf y)/\(x.bL.length<=maxLen/\∀y∈x.bL,Tg y)/\(x.bJ.length<=maxLen/\∀y∈x.bJ,okS y)/\(x.aZ.length<=maxLen/\∀y∈x.aZ,okS y)/\(x.bH.length<=maxLen/\∀y∈x.bH,okS y)/\(x.bP.length<=maxLen/\∀y∈x.bP,okS y)/\(x.bD.length<=maxLen/\∀y∈x.bD,okS y)/\(x.aD.length<=maxLen/\∀y∈x.aD,Re y)/\(x.bZ.length<=maxLen/\∀y∈x.bZ,Ahw y)/\(x.Laws.length<=maxLen/\∀y∈x.Laws,Acv y)
def Dm(x:Aa):Nat:=((x.aF.size+1)+((Ga V5 x.bX+1)+((Ga E9 x.aG+1)+((Ga Rk x.aM+1)+((Ga Th x.bL+1)+((Ga (λ(z:Yb)=>(z.size+1)) x.bJ+1)+((Ga (λ(z:Yb)=>(z.size+1)) x.aZ+1)+((Ga (λ(z:Yb)=>(z.size+1)) x.bH+1)+((Ga (λ(z:Yb)=>(z.size+1)) x.bP+1)+((Ga (λ(z:Yb)=>(z.size+1)) x.bD+1)+((Ga Gj x.aD+1)+((Ga Ao6 x.bZ+1)+((Ga Auu x.Laws+1))))))))))))))+1
def Agm(x:A9):Prop:=B8 x.aL/\(x.aD.length<=maxLen/\∀y∈x.aD,Ake y)
def Ey(x:A9):Nat:=(Dm x.aL+((Ga Sb x.aD+1)))+1
def Ait(x:Ac):Prop:=okS x.aF/\(x.aA.length<=maxLen/\∀y∈x.aA,Agm y)/\(x.aH.length<=maxLen/\∀y∈x.aH,Aul y)
def Rj(x:Ac):Nat:=((x.aF.size+1)+((Ga Ey x.aA+1)+((Ga Aut x.aH+1))))+1
def Aum(x:Ap):Prop:=okI .i64 x.Time/\okI .i64 x.bT/\okI .i64 x.aO/\okI .i64 x.bI/\okI .i64 x.aI/\okI .i64 x.Value
def Ai2(x:Ap):Nat:=(1+(1+(1+(1+(1+1)))))+1
def Aq2(x:Ie):Prop:=Ait x.P/\(x.bQ.length<=maxLen/\∀y∈x.bQ,Aum y)/\okI .i64 x.bT/\okI .i64 x.T/\okI .i64 x.Step/\okI .i64 x.N
def Afv(x:Ie):Nat:=(Rj x.P+((Ga Ai2 x.bQ+1)+(1+(1+(1+1)))))+1
def Bal(x:Ao):Prop:=okI .i64 x.Time/\okI .i64 x.bT/\(x.dZ.length<=maxLen/\∀y∈x.dZ,okI .i64 y)/\(x.Held.length<=maxLen/\∀y∈x.Held,okI .i64 y)/\(x.dB.length<=maxLen/\∀y∈x.dB,okI .i64 y)/\(x.Items.length<=maxLen/\∀y∈x.Items,okI .i64 y)
def Baw(x:Ao):Nat:=(1+(1+((Ga (λ(z:Int)=>1) x.dZ+1)+((Ga (λ(z:Int)=>1) x.Held+1)+((Ga (λ(z:Int)=>1) x.dB+1)+((Ga (λ(z:Int)=>1) x.Items+1)))))))+1
theorem rt3:RTi Tryz.prog 3 .i64:=RT.int Tryz.underlying3
theorem rt4:RTb Tryz.prog 4:=RT.bool Tryz.underlying4
theorem rt5:RTi Tryz.prog 5 .u8:=RT.int Tryz.underlying5
theorem rt9:RTt Tryz.prog 9:=RT.str Tryz.underlying9
theorem Bzh:RTi Tryz.prog 121 .i64:=RT.int Tryz.underlying121
theorem Bzi(N:Nat):RT Tryz.prog N 123 3 Ck Ot V5:=RT.dn (RY.st Tryz.underlying123 ((rt9 N).a ((Bzh N).a ((rt3 N).o))) (λ(a0,a1,a2)=>.mk a0 a1 a2) (λy=>(y.aF,y.bO,y.N)))
theorem Cdu:RTs Tryz.prog 57 LX.dO Ot V5:=λN=>RT.dn (RT.sl Tryz.underlying57 (Bzi N))
theorem Bzp(N:Nat):RT Tryz.prog N 216 2 Aws Alc Aln:=RT.dn (RY.st Tryz.underlying216 ((rt3 N).a ((rt3 N).o)) (λ(a0,a1)=>.mk a0 a1) (λy=>(y.At,y.Units)))
theorem Cd3:RTs Tryz.prog 79 LX.fC Alc Aln:=λN=>RT.dn (RT.sl Tryz.underlying79 (Bzp N))
theorem Cd4:RTi Tryz.prog 80 .i64:=RT.int Tryz.underlying80
theorem Bis:RTs Tryz.prog 30 LX.t3 (okI .i64) (λ_=>1):=λN=>RT.dn (RT.sl Tryz.underlying30 (rt3 N))
theorem Bw8(N:Nat):RT Tryz.prog N 82 6 Au0 Z6 L9:=RT.dn (RY.st Tryz.underlying82 ((Cd4 N).a ((rt3 N).a ((rt3 N).a ((rt3 N).a ((Bis N).a ((Bis N).o)))))) (λ(a0,a1,a2,a3,a4,a5)=>.mk a0 a1 a2 a3 a4 a5) (λy=>(y.Op,y.A,y.B,y.N,y.aW,y.aU)))
theorem Cd5(N:Nat):RT Tryz.prog N 84 13 A1h Av2 Ou:=RT.dn (RY.st Tryz.underlying84 ((rt9 N).a ((Bw8 N).a ((Bw8 N).o))) (λ(a0,a1,a2)=>.mk a0 a1 a2) (λy=>(y.dG,y.Up,y.Down)))
theorem B9r(N:Nat):RT Tryz.prog N 86 17 B3 Qv E9:=RT.dn (RY.st Tryz.underlying86 ((rt9 N).a ((rt3 N).a ((Cd3 N).a ((rt3 N).a ((Cd5 N).o))))) (λ(a0,a1,a2,a3,a4)=>.mk a0 a1 a2 a3 a4) (λy=>(y.aF,y.Units,y.bA,y.dA,y.bS)))
theorem Cdv:RTs Tryz.prog 58 LX.t86 Qv E9:=λN=>RT.dn (RT.sl Tryz.underlying58 (B9r N))
theorem Cd6:RTi Tryz.prog 87 .i64:=RT.int Tryz.underlying87
theorem B9s(N:Nat):RT Tryz.prog N 89 3 C2 Rf Rk:=RT.dn (RY.st Tryz.underlying89 ((rt9 N).a ((rt3 N).a ((Cd6 N).o))) (λ(a0,a1,a2)=>.mk a0 a1 a2) (λy=>(y.aF,y.Room,y.dM)))
theorem Cdw:RTs Tryz.prog 59 LX.t89 Rf Rk:=λN=>RT.dn (RT.sl Tryz.underlying59 (B9s N))
theorem Bzm(N:Nat):RT Tryz.prog N 178 3 Db Tg Th:=RT.dn (RY.st Tryz.underlying178 ((rt9 N).a ((rt3 N).a ((rt3 N).o))) (λ(a0,a1,a2)=>.mk a0 a1 a2) (λy=>(y.aF,y.Length,y.Step)))
theorem Cdx:RTs Tryz.prog 60 LX.eH Tg Th:=λN=>RT.dn (RT.sl Tryz.underlying60 (Bzm N))
theorem Bmp:RTs Tryz.prog 61 LX.t9 okS (λx=>x.size+1):=λN=>RT.dn (RT.sl Tryz.underlying61 (rt9 N))
theorem Bzn(N:Nat):RT Tryz.prog N 200 2 Vo m8 Ov:=RT.dn (RY.st Tryz.underlying200 ((rt9 N).a ((Bzh N).o)) (λ(a0,a1)=>.mk a0 a1) (λy=>(y.aF,y.bO)))
theorem B4h:RTs Tryz.prog 90 LX.dQ m8 Ov:=λN=>RT.dn (RT.sl Tryz.underlying90 (Bzn N))
theorem B9m:RTi Tryz.prog 262 .i64:=RT.int Tryz.underlying262
theorem Cd9:RTi Tryz.prog 95 .i64:=RT.int Tryz.underlying95
theorem B9j:∀N,RT Tryz.prog N 98 4 Cl B1 B5
 |0=>.zero
 |N+1=>have ih:=B9j N;RY.st Tryz.underlying98 ((Cd9 N).a ((rt9 N).a ((rt3 N).a ((RT.sl (K:=LX.dU) Tryz.underlying96 ih).dn.o)))) (λ(a0,a1,a2,a3)=>.mk a0 a1 a2 a3) (λy=>(y.Op,y.aF,y.N,y.aY)) (hok:=λy h=>by cases y;obtain⟨h0,h1,h2,⟨h3,k3⟩⟩:=h;exact .mk _ _ _ _ h0 h1 h2 h3 k3) (hbk:=A4q)
theorem Bmq(N:Nat):RT Tryz.prog N 98 4 Cl B1 B5:=B9j N
theorem B9u:RTs Tryz.prog 96 LX.dU B1 B5:=λN=>RT.dn (RT.sl Tryz.underlying96 (Bmq N))
theorem Bzf:∀N,RT Tryz.prog N 264 21 Zt Cz Ek
 |0=>.zero
 |N+1=>have ih:=Bzf N;RY.st Tryz.underlying264 ((B9m N).a ((rt9 N).a ((rt9 N).a ((Bmq N).a ((Bmq N).a ((B9u N).a ((Bw8 N).a ((rt4 N).a ((RT.sl (K:=LX.dX) Tryz.underlying91 ih).dn.a ((RT.sl (K:=LX.dX) Tryz.underlying91 ih).dn.o)))))))))) (λ(a0,a1,a2,a3,a4,a5,a6,a7,a8,a9)=>.mk a0 a1 a2 a3 a4 a5 a6 a7 a8 a9) (λy=>(y.Op,y.aF,y.Of,y.E,y.F,y.aP,y.bF,y.bY,y.bE,y.bN)) (hok:=λy h=>by cases y;obtain⟨h0,h1,h2,h3,h4,⟨h5,k5⟩,h6,h7,⟨h8,k8⟩,⟨h9,k9⟩⟩:=h;exact .mk _ _ _ _ _ _ _ _ _ _ h0 h1 h2 h3 h4 h5 k5 h6 h7 h8 k8 h9 k9) (hbk:=Ary)
theorem Bzq(N:Nat):RT Tryz.prog N 264 21 Zt Cz Ek:=Bzf N
theorem Cd7:RTs Tryz.prog 91 LX.dX Cz Ek:=λN=>RT.dn (RT.sl Tryz.underlying91 (Bzq N))
theorem B9t(N:Nat):RT Tryz.prog N 93 4 Cs Re Gj:=RT.dn (RY.st Tryz.underlying93 ((rt9 N).a ((B4h N).a ((B4h N).a ((Cd7 N).o)))) (λ(a0,a1,a2,a3)=>.mk a0 a1 a2 a3) (λy=>(y.aF,y.aJ,y.bC,y.bE)))
theorem Cdy:RTs Tryz.prog 62 LX.t93 Re Gj:=λN=>RT.dn (RT.sl Tryz.underlying62 (B9t N))
theorem Bzk(N:Nat):RT Tryz.prog N 150 5 Akn Ahw Ao6:=RT.dn (RY.st Tryz.underlying150 ((rt9 N).a ((Bis N).a ((rt3 N).a ((rt3 N).a ((rt3 N).o))))) (λ(a0,a1,a2,a3,a4)=>.mk a0 a1 a2 a3 a4) (λy=>(y.dJ,y.aP,y.At,y.Every,y.Until)))
theorem Cdz:RTs Tryz.prog 63 LX.eT Ahw Ao6:=λN=>RT.dn (RT.sl Tryz.underlying63 (Bzk N))
theorem Bzo(N:Nat):RT Tryz.prog N 203 3 Cv Aq3 Arz:=RT.dn (RY.st Tryz.underlying203 ((rt3 N).a ((rt9 N).a ((rt9 N).o))) (λ(a0,a1,a2)=>.mk a0 a1 a2) (λy=>(y.cZ,y.aO,y.aF)))
theorem B9l:RTs Tryz.prog 152 LX.t203 Aq3 Arz:=λN=>RT.dn (RT.sl Tryz.underlying152 (Bzo N))
theorem Bzl(N:Nat):RT Tryz.prog N 154 3 Dv Acv Auu:=RT.dn (RY.st Tryz.underlying154 ((rt9 N).a ((B9l N).a ((rt3 N).o))) (λ(a0,a1,a2)=>.mk a0 a1 a2) (λy=>(y.aF,y.bV,y.Total)))
theorem Cd0:RTs Tryz.prog 64 LX.t154 Acv Auu:=λN=>RT.dn (RT.sl Tryz.underlying64 (Bzl N))
theorem B9o(N:Nat):RT Tryz.prog N 66 13 Ae B8 Dm:=RT.dn (RY.st Tryz.underlying66 ((rt9 N).a ((Cdu N).a ((Cdv N).a ((Cdw N).a ((Cdx N).a ((Bmp N).a ((Bmp N).a ((Bmp N).a ((Bmp N).a ((Bmp N).a ((Cdy N).a ((Cdz N).a ((Cd0 N).o))))))))))))) (λ(a0,a1,a2,a3,a4,a5,a6,a7,a8,a9,a10,a11,a12)=>.mk a0 a1 a2 a3 a4 a5 a6 a7 a8 a9 a10 a11 a12) (λy=>(y.aF,y.bX,y.aG,y.aM,y.bL,y.bJ,y.aZ,y.bH,y.bP,y.bD,y.aD,y.bZ,y.Laws)))
theorem Cd8:RTi Tryz.prog 94 .i64:=RT.int Tryz.underlying94
theorem Bzg(N:Nat):RT Tryz.prog N 100 20 Sc Ahv Ow:=RT.dn (RY.st Tryz.underlying100 ((Cd8 N).a ((rt3 N).a ((rt3 N).a ((rt3 N).a ((Bmq N).a ((Bmq N).a ((B9u N).a ((Bw8 N).a ((rt4 N).o))))))))) (λ(a0,a1,a2,a3,a4,a5,a6,a7,a8)=>.mk a0 a1 a2 a3 a4 a5 a6 a7 a8) (λy=>(y.Op,y.A,y.B,y.C,y.E,y.F,y.aP,y.bF,y.bY)))
theorem Cd2:RTs Tryz.prog 76 LX.eY Ahv Ow:=λN=>RT.dn (RT.sl Tryz.underlying76 (Bzg N))
theorem B9q(N:Nat):RT Tryz.prog N 78 4 Ac3 Ake Sb:=RT.dn (RY.st Tryz.underlying78 ((rt9 N).a ((rt3 N).a ((rt3 N).a ((Cd2 N).o)))) (λ(a0,a1,a2,a3)=>.mk a0 a1 a2 a3) (λy=>(y.aF,y.aJ,y.dD,y.aR)))
theorem Cd1:RTs Tryz.prog 67 LX.t78 Ake Sb:=λN=>RT.dn (RT.sl Tryz.underlying67 (B9q N))
theorem B9p(N:Nat):RT Tryz.prog N 69 14 My Agm Ey:=RT.dn (RY.st Tryz.underlying69 ((B9o N).a ((Cd1 N).o)) (λ(a0,a1)=>.mk a0 a1) (λy=>(y.aL,y.aD)))
theorem Cdm:RTs Tryz.prog 22 LX.t69 Agm Ey:=λN=>RT.dn (RT.sl Tryz.underlying22 (B9p N))
theorem Bzj(N:Nat):RT Tryz.prog N 127 3 Ays Aul Aut:=RT.dn (RY.st Tryz.underlying127 ((rt3 N).a ((rt3 N).a ((rt3 N).o))) (λ(a0,a1,a2)=>.mk a0 a1 a2) (λy=>(y.aV,y.To,y.bU)))
theorem Cdn:RTs Tryz.prog 23 LX.t127 Aul Aut:=λN=>RT.dn (RT.sl Tryz.underlying23 (Bzj N))
theorem Cdo(N:Nat):RT Tryz.prog N 25 3 Cm Ait Rj:=RT.dn (RY.st Tryz.underlying25 ((rt9 N).a ((Cdm N).a ((Cdn N).o))) (λ(a0,a1,a2)=>.mk a0 a1 a2) (λy=>(y.aF,y.aA,y.aH)))
theorem Cdt:RTi Tryz.prog 44 .i64:=RT.int Tryz.underlying44
theorem B9n(N:Nat):RT Tryz.prog N 46 6 B4 Aum Ai2:=RT.dn (RY.st Tryz.underlying46 ((rt3 N).a ((rt3 N).a ((Cdt N).a ((rt3 N).a ((rt3 N).a ((rt3 N).o)))))) (λ(a0,a1,a2,a3,a4,a5)=>.mk a0 a1 a2 a3 a4 a5) (λy=>(y.Time,y.bT,y.aO,y.bI,y.aI,y.Value)))
theorem Cdp:RTs Tryz.prog 26 LX.t46 Aum Ai2:=λN=>RT.dn (RT.sl Tryz.underlying26 (B9n N))
theorem Cdq(N:Nat):RT Tryz.prog N 28 8 Vn Aq2 Afv:=RT.dn (RY.st Tryz.underlying28 ((Cdo N).a ((Cdp N).a ((rt3 N).a ((rt3 N).a ((rt3 N).a ((rt3 N).o)))))) (λ(a0,a1,a2,a3,a4,a5)=>.mk a0 a1 a2 a3 a4 a5) (λy=>(y.P,y.bQ,y.bT,y.T,y.Step,y.N)))
theorem Cdr(N:Nat):RT Tryz.prog N 32 6 Ma Bal Baw:=RT.dn (RY.st Tryz.underlying32 ((rt3 N).a ((rt3 N).a ((Bis N).a ((Bis N).a ((Bis N).a ((Bis N).o)))))) (λ(a0,a1,a2,a3,a4,a5)=>.mk a0 a1 a2 a3 a4 a5) (λy=>(y.Time,y.bT,y.dZ,y.Held,y.dB,y.Items)))
def rdL:List Nat:= [3,4,5,9,22,23,25,26,28,30,32,44,46,57,58,59,60,61,62,63,64,66,67,69,76,78,79,80,82,84,86,87,89,90,91,93,94,95,96,98,100,121,123,127,150,152,154,178,200,203,216,262,264]
theorem Cdh:A30 Tryz.prog rdL:=by
 intro e n m f he hs hf;simp only[rdL,List.mem_cons,List.not_mem_nil,or_false]at he;rcases he with rfl|rfl|rfl|rfl|rfl|rfl|rfl|rfl|rfl|rfl|rfl|rfl|rfl|rfl|rfl|rfl|rfl|rfl|rfl|rfl|rfl|rfl|rfl|rfl|rfl|rfl|rfl|rfl|rfl|rfl|rfl|rfl|rfl|rfl|rfl|rfl|rfl|rfl|rfl|rfl|rfl|rfl|rfl|rfl|rfl|rfl|rfl|rfl|rfl|rfl|rfl|rfl|rfl
 ·exact RT.rows (K:=LX.t3) rt3 (hf:=hf)
 ·exact RT.rows (K:=LX.t4) rt4 (hf:=hf)
 ·exact RT.rows (K:=LX.t5) rt5 (hf:=hf)
 ·exact RT.rows (K:=LX.t9) rt9 (hf:=hf)
 ·exact nomatch hs
 ·exact nomatch hs
 ·exact nomatch hs
 ·exact nomatch hs
 ·exact nomatch hs
 ·exact nomatch hs
 ·exact RT.rows (K:=LX.t32) Cdr (hf:=hf)
 ·exact nomatch hs
 ·exact RT.rows (K:=LX.t46) B9n (hf:=hf)
 ·exact nomatch hs
 ·exact nomatch hs
 ·exact nomatch hs
 ·exact nomatch hs
 ·exact RT.rows (K:=LX.t61) Bmp (hf:=hf)
 ·exact nomatch hs
 ·exact nomatch hs
 ·exact nomatch hs
 ·exact RT.rows (K:=LX.t66) B9o (hf:=hf)
 ·exact nomatch hs
 ·exact RT.rows (K:=LX.t69) B9p (hf:=hf)
 ·exact nomatch hs
 ·exact RT.rows (K:=LX.t78) B9q (hf:=hf)
 ·exact nomatch hs
 ·exact nomatch hs
 ·exact nomatch hs
 ·exact nomatch hs
 ·exact RT.rows (K:=LX.t86) B9r (hf:=hf)
 ·exact nomatch hs
 ·exact RT.rows (K:=LX.t89) B9s (hf:=hf)
 ·exact RT.rows (K:=LX.gJ) B4h (hf:=hf)
 ·exact nomatch hs
 ·exact RT.rows (K:=LX.t93) B9t (hf:=hf)
 ·exact nomatch hs
 ·exact nomatch hs
 ·exact nomatch hs
 ·exact RT.rows (K:=LX.dU) Bmq (hf:=hf)
 ·exact RT.rows (K:=LX.eY) Bzg (hf:=hf)
 ·exact nomatch hs
 ·exact RT.rows (K:=LX.dO) Bzi (hf:=hf)
 ·exact RT.rows (K:=LX.t127) Bzj (hf:=hf)
 ·exact RT.rows (K:=LX.eT) Bzk (hf:=hf)
 ·exact nomatch hs
 ·exact RT.rows (K:=LX.t154) Bzl (hf:=hf)
 ·exact RT.rows (K:=LX.eH) Bzm (hf:=hf)
 ·exact RT.rows (K:=LX.dQ) Bzn (hf:=hf)
 ·exact RT.rows (K:=LX.t203) Bzo (hf:=hf)
 ·exact RT.rows (K:=LX.fC) Bzp (hf:=hf)
 ·exact nomatch hs
 ·exact RT.rows (K:=LX.dX) Bzq (hf:=hf)
theorem Cdi:Be6 Tryz.prog rdL=true:=by kernel_rfl
end Go.Proofs.YthjhkpgonleelaaGreatDoor.Ev
namespace Go.Proofs.YthjhkpgonleelaaGreatDoor.Ev
open Go
def Bdj(x:B9):Prop:=okS x.aV/\okS x.To/\okI .i64 x.bU
def Bdt(x:B9):Nat:=((x.aV.size+1)+((x.To.size+1)+(1)))+1
def Av3(x:Aj):Prop:=okS x.aF/\(x.aJ.length<=maxLen/\∀y∈x.aJ,Ot y)/\(x.aA.length<=maxLen/\∀y∈x.aA,B8 y)/\(x.aH.length<=maxLen/\∀y∈x.aH,Bdj y)
def Ao5(x:Aj):Nat:=((x.aF.size+1)+((Ga V5 x.aJ+1)+((Ga Dm x.aA+1)+((Ga Bdt x.aH+1)))))+1
end Go.Proofs.YthjhkpgonleelaaGreatDoor.Ev
