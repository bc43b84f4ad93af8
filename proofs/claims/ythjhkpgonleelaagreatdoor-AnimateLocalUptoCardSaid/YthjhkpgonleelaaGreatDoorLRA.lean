/-  aQ is read, and its bulk. -/
import Derived.Test.YthjhkpgonleelaaGreatDoorLG0
import Derived.Test.YthjhkpgonleelaaGreatDoorLFz
set_option maxRecDepth 100000
set_option maxHeartbeats 4000000
set_option linter.unusedVariables false
set_option linter.unusedSimpArgs false
set_option linter.unnecessarySimpa false
namespace Go.Proofs.YthjhkpgonleelaaGreatDoor.Ev
open Go An
def Atg(x:Dr):Prop:=j9 .i64 x.aV/\j9 .i64 x.To/\j9 .i64 x.bR
def Atn(x:Dr):Nat:=(1+(1+1))+1
def Y5(x:Bk):Prop:=j9 .i64 x.Op/\j9 .i64 x.A/\j9 .i64 x.B/\j9 .i64 x.N/\(x.aW.length<=maxLen/\∀y∈x.aW,j9 .i64 y)/\(x.aU.length<=maxLen/\∀y∈x.aU,j9 .i64 y)
def Lq(x:Bk):Nat:=(1+(1+(1+(1+((F7 (λ(z:Int)=>1) x.aW+1)+((F7 (λ(z:Int)=>1) x.aU+1)))))))+1
inductive B1:Ab->Prop
 |mk (a0:Int) (a1:Yb) (a2:Int) (a3:(List Ab)) (h0_0:j9 .i64 a0) (h1_0:okS a1) (h2_0:j9 .i64 a2) (h3_0:a3.length<=maxLen) (h3_1:∀y∈a3,B1 y):B1 (.mk a0 a1 a2 a3)
mutual
def B5:Ab->Nat
 | .mk a0 a1 a2 a3=>(1+((a1.size+1)+(1+((Rx a3+1)))))+1
def Rx:List Ab->Nat
 | []=>0
 |x::k=>B5 x+Rx k
end
theorem A0t(l:List Ab):Rx l=F7 B5 l:=by
 induction l with
 |nil=>rw[Rx];rfl
 |cons x k ih=>rw[Rx,ih];rfl
theorem A3g(x:Ab):B5 x=(1+((x.aF.size+1)+(1+((F7 B5 x.aY+1)))))+1:=by
 cases x with|mk a0 a1 a2 a3=>simp only[B5,A0t,Ab.Op,Ab.aF,Ab.N,Ab.aY]
def Agj(x:Aq):Prop:=j9 .i64 x.Op/\j9 .i64 x.A/\j9 .i64 x.B/\j9 .i64 x.C/\B1 x.E/\B1 x.F/\(x.aM.length<=maxLen/\∀y∈x.aM,B1 y)/\Y5 x.bE/\True
def N9(x:Aq):Nat:=(1+(1+(1+(1+(B5 x.E+(B5 x.F+((F7 B5 x.aM+1)+(Lq x.bE+1))))))))+1
def Ai0(x:Ap):Prop:=okS x.aF/\j9 .i64 x.aI/\j9 .i64 x.dD/\(x.aP.length<=maxLen/\∀y∈x.aP,Agj y)
def Rn(x:Ap):Nat:=((x.aF.size+1)+(1+(1+((F7 N9 x.aP+1)))))+1
def Sl(x:Bg):Prop:=okS x.aF/\j9 .i64 x.Length/\j9 .i64 x.Step
def Sm(x:Bg):Nat:=((x.aF.size+1)+(1+1))+1
def Ap6(x:Bd):Prop:=j9 .i64 x.cO/\okS x.aQ/\okS x.aF
def Aq0(x:Bd):Nat:=(1+((x.aQ.size+1)+((x.aF.size+1))))+1
def Abi(x:Bh):Prop:=okS x.aF/\(x.bS.length<=maxLen/\∀y∈x.bS,Ap6 y)/\j9 .i64 x.Total
def Ato(x:Bh):Nat:=((x.aF.size+1)+((F7 Aq0 x.bS+1)+1))+1
def Aj8(x:Er):Prop:=j9 .i64 x.At/\j9 .i64 x.Units
def Akj(x:Er):Nat:=(1+1)+1
def Auw(x:Np):Prop:=okS x.dH/\Y5 x.Up/\Y5 x.Down
def N7(x:Np):Nat:=((x.dH.size+1)+(Lq x.Up+Lq x.Down))+1
def Qc(x:Aj):Prop:=okS x.aF/\j9 .i64 x.Units/\(x.aZ.length<=maxLen/\∀y∈x.aZ,Aj8 y)/\j9 .i64 x.cZ/\Auw x.bQ
def Ey(x:Aj):Nat:=((x.aF.size+1)+(1+((F7 Akj x.aZ+1)+(1+N7 x.bQ))))+1
def Zo(x:A9):Prop:=okS x.aF/\j9 .i64 x.bM
def N8(x:A9):Nat:=((x.aF.size+1)+1)+1
inductive Cx:Ad->Prop
 |mk (a0:Int) (a1:Yb) (a2:Yb) (a3:Ab) (a4:Ab) (a5:(List Ab)) (a6:Bk) (a7:Bool) (a8:(List Ad)) (a9:(List Ad)) (h0_0:j9 .i64 a0) (h1_0:okS a1) (h2_0:okS a2) (h3_0:B1 a3) (h4_0:B1 a4) (h5_0:a5.length<=maxLen) (h5_1:∀y∈a5,B1 y) (h6_0:Y5 a6) (h7_0:True) (h8_0:a8.length<=maxLen) (h8_1:∀y∈a8,Cx y) (h9_0:a9.length<=maxLen) (h9_1:∀y∈a9,Cx y):Cx (.mk a0 a1 a2 a3 a4 a5 a6 a7 a8 a9)
mutual
def Eh:Ad->Nat
 | .mk a0 a1 a2 a3 a4 a5 a6 a7 a8 a9=>(1+((a1.size+1)+((a2.size+1)+(B5 a3+(B5 a4+((F7 B5 a5+1)+(Lq a6+(1+((Dw a8+1)+((Dw a9+1)))))))))))+1
def Dw:List Ad->Nat
 | []=>0
 |x::k=>Eh x+Dw k
end
theorem Nq(l:List Ad):Dw l=F7 Eh l:=by
 induction l with
 |nil=>rw[Dw];rfl
 |cons x k ih=>rw[Dw,ih];rfl
theorem Aqz(x:Ad):Eh x=(1+((x.aF.size+1)+((x.Of.size+1)+(B5 x.E+(B5 x.F+((F7 B5 x.aM+1)+(Lq x.bE+(1+((F7 Eh x.bD+1)+((F7 Eh x.bL+1)))))))))))+1:=by
 cases x with|mk a0 a1 a2 a3 a4 a5 a6 a7 a8 a9=>simp only[Eh,Nq,Ad.Op,Ad.aF,Ad.Of,Ad.E,Ad.F,Ad.aM,Ad.bE,Ad.bU,Ad.bD,Ad.bL]
def Qi(x:Al):Prop:=okS x.aF/\(x.aI.length<=maxLen/\∀y∈x.aI,Zo y)/\(x.bC.length<=maxLen/\∀y∈x.bC,Zo y)/\(x.bD.length<=maxLen/\∀y∈x.bD,Cx y)
def Gg(x:Al):Nat:=((x.aF.size+1)+((F7 N8 x.aI+1)+((F7 N8 x.bC+1)+((F7 Eh x.bD+1)))))+1
def Agk(x:Bv):Prop:=okS x.dI/\(x.aM.length<=maxLen/\∀y∈x.aM,j9 .i64 y)/\j9 .i64 x.At/\j9 .i64 x.Every/\j9 .i64 x.Until
def An8(x:Bv):Nat:=((x.dI.size+1)+((F7 (λ(z:Int)=>1) x.aM+1)+(1+(1+1))))+1
def Qj(x:Ar):Prop:=okS x.aF/\j9 .i64 x.Room/\j9 .i64 x.dM
def Qo(x:Ar):Nat:=((x.aF.size+1)+(1+1))+1
def N6(x:Aw):Prop:=okS x.aF/\j9 .i64 x.bM/\j9 .i64 x.N
def Vd(x:Aw):Nat:=((x.aF.size+1)+(1+1))+1
def B8(x:Aa):Prop:=okS x.aF/\(x.bX.length<=maxLen/\∀y∈x.bX,N6 y)/\(x.aG.length<=maxLen/\∀y∈x.aG,Qc y)/\(x.aL.length<=maxLen/\∀y∈x.aL,Qj y)/\(x.bN.length<=maxLen/\∀y∈x.bN,Sl y)/\(x.bH.length<=maxLen/\∀y∈x.bH,okS y)/\(x.bB.length<=maxLen/\∀y∈x.bB,okS y)/\(x.bG.length<=maxLen/\∀y∈x.bG,okS y)/\(x.bP.length<=maxLen/\∀y∈x.bP,okS y)/\(x.bF.length<=maxLen/\∀y∈x.bF,okS y)/\(x.aD.length<=maxLen/\∀y∈x.aD,Qi y)/\(x.bV.length<=maxLen/\∀y∈x.bV,Agk y)/\(x.Laws.length<=maxLen/\∀y∈x.Laws,Abi y)
def Dm(x:Aa):Nat:=((x.aF.size+1)+((F7 Vd x.bX+1)+((F7 Ey x.aG+1)+((F7 Qo x.aL+1)+((F7 Sm x.bN+1)+((F7 (λ(z:Yb)=>(z.size+1)) x.bH+1)+((F7 (λ(z:Yb)=>(z.size+1)) x.bB+1)+((F7 (λ(z:Yb)=>(z.size+1)) x.bG+1)+((F7 (λ(z:Yb)=>(z.size+1)) x.bP+1)+((F7 (λ(z:Yb)=>(z.size+1)) x.bF+1)+((F7 Gg x.aD+1)+((F7 An8 x.bV+1)+((F7 Ato x.Laws+1))))))))))))))+1
def Afa(x:Az):Prop:=B8 x.aK/\(x.aD.length<=maxLen/\∀y∈x.aD,Ai0 y)
def Et(x:Az):Nat:=(Dm x.aK+((F7 Rn x.aD+1)))+1
def Ahg(x:Ac):Prop:=okS x.aF/\(x.aA.length<=maxLen/\∀y∈x.aA,Afa y)/\(x.aH.length<=maxLen/\∀y∈x.aH,Atg y)
def Qn(x:Ac):Nat:=((x.aF.size+1)+((F7 Et x.aA+1)+((F7 Atn x.aH+1))))+1
def Ann(x:Au):Prop:=j9 .i64 x.Time/\j9 .i64 x.bW/\j9 .i64 x.aQ/\j9 .i64 x.bZ/\j9 .i64 x.aJ/\j9 .i64 x.Value
def Ys(x:Au):Nat:=(1+(1+(1+(1+(1+1)))))+1
def Ap5(x:H1):Prop:=Ahg x.P/\(x.bK.length<=maxLen/\∀y∈x.bK,Ann y)/\j9 .i64 x.bW/\j9 .i64 x.T/\j9 .i64 x.Step/\j9 .i64 x.N
def Aek(x:H1):Nat:=(Qn x.P+((F7 Ys x.bK+1)+(1+(1+(1+1)))))+1
def A81(x:Ao):Prop:=j9 .i64 x.Time/\j9 .i64 x.bW/\(x.dY.length<=maxLen/\∀y∈x.dY,j9 .i64 y)/\(x.Held.length<=maxLen/\∀y∈x.Held,j9 .i64 y)/\(x.dB.length<=maxLen/\∀y∈x.dB,j9 .i64 y)/\(x.Items.length<=maxLen/\∀y∈x.Items,j9 .i64 y)
def A9c(x:Ao):Nat:=(1+(1+((F7 (λ(z:Int)=>1) x.dY+1)+((F7 (λ(z:Int)=>1) x.Held+1)+((F7 (λ(z:Int)=>1) x.dB+1)+((F7 (λ(z:Int)=>1) x.Items+1)))))))+1
theorem rt3:RTi Tryz.prog 3 .i64:=RT.int Tryz.underlying3
theorem rt4:RTb Tryz.prog 4:=RT.bool Tryz.underlying4
theorem rt5:RTi Tryz.prog 5 .u8:=RT.int Tryz.underlying5
theorem rt9:RTt Tryz.prog 9:=RT.str Tryz.underlying9
theorem Bxj:RTi Tryz.prog 121 .i64:=RT.int Tryz.underlying121
theorem Bxk(N:Nat):RT Tryz.prog N 123 3 Ck N6 Vd:=RT.dn (RY.st Tryz.underlying123 ((rt9 N).a ((Bxj N).a ((rt3 N).o))) (λ(a0,a1,a2)=>.mk a0 a1 a2) (λy=>(y.aF,y.bM,y.N)))
theorem Cbs:RTs Tryz.prog 57 LX.dO N6 Vd:=λN=>RT.dn (RT.sl Tryz.underlying57 (Bxk N))
theorem Bxr(N:Nat):RT Tryz.prog N 216 2 Avl Aj8 Akj:=RT.dn (RY.st Tryz.underlying216 ((rt3 N).a ((rt3 N).o)) (λ(a0,a1)=>.mk a0 a1) (λy=>(y.At,y.Units)))
theorem Cb1:RTs Tryz.prog 79 LX.fA Aj8 Akj:=λN=>RT.dn (RT.sl Tryz.underlying79 (Bxr N))
theorem Cb2:RTi Tryz.prog 80 .i64:=RT.int Tryz.underlying80
theorem Bg2:RTs Tryz.prog 30 LX.t3 (j9 .i64) (λ_=>1):=λN=>RT.dn (RT.sl Tryz.underlying30 (rt3 N))
theorem Bvc(N:Nat):RT Tryz.prog N 82 6 Att Y5 Lq:=RT.dn (RY.st Tryz.underlying82 ((Cb2 N).a ((rt3 N).a ((rt3 N).a ((rt3 N).a ((Bg2 N).a ((Bg2 N).o)))))) (λ(a0,a1,a2,a3,a4,a5)=>.mk a0 a1 a2 a3 a4 a5) (λy=>(y.Op,y.A,y.B,y.N,y.aW,y.aU)))
theorem Cb3(N:Nat):RT Tryz.prog N 84 13 Az7 Auw N7:=RT.dn (RY.st Tryz.underlying84 ((rt9 N).a ((Bvc N).a ((Bvc N).o))) (λ(a0,a1,a2)=>.mk a0 a1 a2) (λy=>(y.dH,y.Up,y.Down)))
theorem B7p(N:Nat):RT Tryz.prog N 86 17 B3 Qc Ey:=RT.dn (RY.st Tryz.underlying86 ((rt9 N).a ((rt3 N).a ((Cb1 N).a ((rt3 N).a ((Cb3 N).o))))) (λ(a0,a1,a2,a3,a4)=>.mk a0 a1 a2 a3 a4) (λy=>(y.aF,y.Units,y.aZ,y.cZ,y.bQ)))
theorem Cbt:RTs Tryz.prog 58 LX.t86 Qc Ey:=λN=>RT.dn (RT.sl Tryz.underlying58 (B7p N))
theorem Cb4:RTi Tryz.prog 87 .i64:=RT.int Tryz.underlying87
theorem B7q(N:Nat):RT Tryz.prog N 89 3 C0 Qj Qo:=RT.dn (RY.st Tryz.underlying89 ((rt9 N).a ((rt3 N).a ((Cb4 N).o))) (λ(a0,a1,a2)=>.mk a0 a1 a2) (λy=>(y.aF,y.Room,y.dM)))
theorem Cbu:RTs Tryz.prog 59 LX.t89 Qj Qo:=λN=>RT.dn (RT.sl Tryz.underlying59 (B7q N))
theorem Bxo(N:Nat):RT Tryz.prog N 178 3 Db Sl Sm:=RT.dn (RY.st Tryz.underlying178 ((rt9 N).a ((rt3 N).a ((rt3 N).o))) (λ(a0,a1,a2)=>.mk a0 a1 a2) (λy=>(y.aF,y.Length,y.Step)))
theorem Cbv:RTs Tryz.prog 60 LX.eF Sl Sm:=λN=>RT.dn (RT.sl Tryz.underlying60 (Bxo N))
theorem Bkv:RTs Tryz.prog 61 LX.t9 okS (λx=>x.size+1):=λN=>RT.dn (RT.sl Tryz.underlying61 (rt9 N))
theorem Bxp(N:Nat):RT Tryz.prog N 200 2 Uw Zo N8:=RT.dn (RY.st Tryz.underlying200 ((rt9 N).a ((Bxj N).o)) (λ(a0,a1)=>.mk a0 a1) (λy=>(y.aF,y.bM)))
theorem B2i:RTs Tryz.prog 90 LX.dQ Zo N8:=λN=>RT.dn (RT.sl Tryz.underlying90 (Bxp N))
theorem B7l:RTi Tryz.prog 262 .i64:=RT.int Tryz.underlying262
theorem Cb7:RTi Tryz.prog 95 .i64:=RT.int Tryz.underlying95
theorem B7i:∀N,RT Tryz.prog N 98 4 Cl B1 B5
 |0=>.zero
 |N+1=>have ih:=B7i N;RY.st Tryz.underlying98 ((Cb7 N).a ((rt9 N).a ((rt3 N).a ((RT.sl (K:=LX.dU) Tryz.underlying96 ih).dn.o)))) (λ(a0,a1,a2,a3)=>.mk a0 a1 a2 a3) (λy=>(y.Op,y.aF,y.N,y.aY)) (hok:=λy h=>by cases y;obtain⟨h0,h1,h2,⟨h3,k3⟩⟩:=h;exact .mk _ _ _ _ h0 h1 h2 h3 k3) (hbk:=A3g)
theorem Bkw(N:Nat):RT Tryz.prog N 98 4 Cl B1 B5:=B7i N
theorem B7s:RTs Tryz.prog 96 LX.dU B1 B5:=λN=>RT.dn (RT.sl Tryz.underlying96 (Bkw N))
theorem Bxh:∀N,RT Tryz.prog N 264 21 Yu Cx Eh
 |0=>.zero
 |N+1=>have ih:=Bxh N;RY.st Tryz.underlying264 ((B7l N).a ((rt9 N).a ((rt9 N).a ((Bkw N).a ((Bkw N).a ((B7s N).a ((Bvc N).a ((rt4 N).a ((RT.sl (K:=LX.dW) Tryz.underlying91 ih).dn.a ((RT.sl (K:=LX.dW) Tryz.underlying91 ih).dn.o)))))))))) (λ(a0,a1,a2,a3,a4,a5,a6,a7,a8,a9)=>.mk a0 a1 a2 a3 a4 a5 a6 a7 a8 a9) (λy=>(y.Op,y.aF,y.Of,y.E,y.F,y.aM,y.bE,y.bU,y.bD,y.bL)) (hok:=λy h=>by cases y;obtain⟨h0,h1,h2,h3,h4,⟨h5,k5⟩,h6,h7,⟨h8,k8⟩,⟨h9,k9⟩⟩:=h;exact .mk _ _ _ _ _ _ _ _ _ _ h0 h1 h2 h3 h4 h5 k5 h6 h7 h8 k8 h9 k9) (hbk:=Aqz)
theorem Bxs(N:Nat):RT Tryz.prog N 264 21 Yu Cx Eh:=Bxh N
theorem Cb5:RTs Tryz.prog 91 LX.dW Cx Eh:=λN=>RT.dn (RT.sl Tryz.underlying91 (Bxs N))
theorem B7r(N:Nat):RT Tryz.prog N 93 4 Cp Qi Gg:=RT.dn (RY.st Tryz.underlying93 ((rt9 N).a ((B2i N).a ((B2i N).a ((Cb5 N).o)))) (λ(a0,a1,a2,a3)=>.mk a0 a1 a2 a3) (λy=>(y.aF,y.aI,y.bC,y.bD)))
theorem Cbw:RTs Tryz.prog 62 LX.t93 Qi Gg:=λN=>RT.dn (RT.sl Tryz.underlying62 (B7r N))
theorem Bxm(N:Nat):RT Tryz.prog N 150 5 Ai9 Agk An8:=RT.dn (RY.st Tryz.underlying150 ((rt9 N).a ((Bg2 N).a ((rt3 N).a ((rt3 N).a ((rt3 N).o))))) (λ(a0,a1,a2,a3,a4)=>.mk a0 a1 a2 a3 a4) (λy=>(y.dI,y.aM,y.At,y.Every,y.Until)))
theorem Cbx:RTs Tryz.prog 63 LX.eG Agk An8:=λN=>RT.dn (RT.sl Tryz.underlying63 (Bxm N))
theorem Bxq(N:Nat):RT Tryz.prog N 203 3 Ct Ap6 Aq0:=RT.dn (RY.st Tryz.underlying203 ((rt3 N).a ((rt9 N).a ((rt9 N).o))) (λ(a0,a1,a2)=>.mk a0 a1 a2) (λy=>(y.cO,y.aQ,y.aF)))
theorem B7k:RTs Tryz.prog 152 LX.t203 Ap6 Aq0:=λN=>RT.dn (RT.sl Tryz.underlying152 (Bxq N))
theorem Bxn(N:Nat):RT Tryz.prog N 154 3 Dt Abi Ato:=RT.dn (RY.st Tryz.underlying154 ((rt9 N).a ((B7k N).a ((rt3 N).o))) (λ(a0,a1,a2)=>.mk a0 a1 a2) (λy=>(y.aF,y.bS,y.Total)))
theorem Cby:RTs Tryz.prog 64 LX.t154 Abi Ato:=λN=>RT.dn (RT.sl Tryz.underlying64 (Bxn N))
theorem B7m(N:Nat):RT Tryz.prog N 66 13 Ae B8 Dm:=RT.dn (RY.st Tryz.underlying66 ((rt9 N).a ((Cbs N).a ((Cbt N).a ((Cbu N).a ((Cbv N).a ((Bkv N).a ((Bkv N).a ((Bkv N).a ((Bkv N).a ((Bkv N).a ((Cbw N).a ((Cbx N).a ((Cby N).o))))))))))))) (λ(a0,a1,a2,a3,a4,a5,a6,a7,a8,a9,a10,a11,a12)=>.mk a0 a1 a2 a3 a4 a5 a6 a7 a8 a9 a10 a11 a12) (λy=>(y.aF,y.bX,y.aG,y.aL,y.bN,y.bH,y.bB,y.bG,y.bP,y.bF,y.aD,y.bV,y.Laws)))
theorem Cb6:RTi Tryz.prog 94 .i64:=RT.int Tryz.underlying94
theorem Bxi(N:Nat):RT Tryz.prog N 100 20 Ro Agj N9:=RT.dn (RY.st Tryz.underlying100 ((Cb6 N).a ((rt3 N).a ((rt3 N).a ((rt3 N).a ((Bkw N).a ((Bkw N).a ((B7s N).a ((Bvc N).a ((rt4 N).o))))))))) (λ(a0,a1,a2,a3,a4,a5,a6,a7,a8)=>.mk a0 a1 a2 a3 a4 a5 a6 a7 a8) (λy=>(y.Op,y.A,y.B,y.C,y.E,y.F,y.aM,y.bE,y.bU)))
theorem Cb0:RTs Tryz.prog 76 LX.eU Agj N9:=λN=>RT.dn (RT.sl Tryz.underlying76 (Bxi N))
theorem B7o(N:Nat):RT Tryz.prog N 78 4 Abq Ai0 Rn:=RT.dn (RY.st Tryz.underlying78 ((rt9 N).a ((rt3 N).a ((rt3 N).a ((Cb0 N).o)))) (λ(a0,a1,a2,a3)=>.mk a0 a1 a2 a3) (λy=>(y.aF,y.aI,y.dD,y.aP)))
theorem Cbz:RTs Tryz.prog 67 LX.t78 Ai0 Rn:=λN=>RT.dn (RT.sl Tryz.underlying67 (B7o N))
theorem B7n(N:Nat):RT Tryz.prog N 69 14 Me Afa Et:=RT.dn (RY.st Tryz.underlying69 ((B7m N).a ((Cbz N).o)) (λ(a0,a1)=>.mk a0 a1) (λy=>(y.aK,y.aD)))
theorem Cbk:RTs Tryz.prog 22 LX.t69 Afa Et:=λN=>RT.dn (RT.sl Tryz.underlying22 (B7n N))
theorem Bxl(N:Nat):RT Tryz.prog N 127 3 Axf Atg Atn:=RT.dn (RY.st Tryz.underlying127 ((rt3 N).a ((rt3 N).a ((rt3 N).o))) (λ(a0,a1,a2)=>.mk a0 a1 a2) (λy=>(y.aV,y.To,y.bR)))
theorem Cbl:RTs Tryz.prog 23 LX.t127 Atg Atn:=λN=>RT.dn (RT.sl Tryz.underlying23 (Bxl N))
theorem Cbm(N:Nat):RT Tryz.prog N 25 3 Cm Ahg Qn:=RT.dn (RY.st Tryz.underlying25 ((rt9 N).a ((Cbk N).a ((Cbl N).o))) (λ(a0,a1,a2)=>.mk a0 a1 a2) (λy=>(y.aF,y.aA,y.aH)))
theorem Cbr:RTi Tryz.prog 44 .i64:=RT.int Tryz.underlying44
theorem B2h(N:Nat):RT Tryz.prog N 46 6 B4 Ann Ys:=RT.dn (RY.st Tryz.underlying46 ((rt3 N).a ((rt3 N).a ((Cbr N).a ((rt3 N).a ((rt3 N).a ((rt3 N).o)))))) (λ(a0,a1,a2,a3,a4,a5)=>.mk a0 a1 a2 a3 a4 a5) (λy=>(y.Time,y.bW,y.aQ,y.bZ,y.aJ,y.Value)))
theorem Cbn:RTs Tryz.prog 26 LX.t46 Ann Ys:=λN=>RT.dn (RT.sl Tryz.underlying26 (B2h N))
theorem Cbo(N:Nat):RT Tryz.prog N 28 8 Uv Ap5 Aek:=RT.dn (RY.st Tryz.underlying28 ((Cbm N).a ((Cbn N).a ((rt3 N).a ((rt3 N).a ((rt3 N).a ((rt3 N).o)))))) (λ(a0,a1,a2,a3,a4,a5)=>.mk a0 a1 a2 a3 a4 a5) (λy=>(y.P,y.bK,y.bW,y.T,y.Step,y.N)))
theorem Cbp(N:Nat):RT Tryz.prog N 32 6 Lr A81 A9c:=RT.dn (RY.st Tryz.underlying32 ((rt3 N).a ((rt3 N).a ((Bg2 N).a ((Bg2 N).a ((Bg2 N).a ((Bg2 N).o)))))) (λ(a0,a1,a2,a3,a4,a5)=>.mk a0 a1 a2 a3 a4 a5) (λy=>(y.Time,y.bW,y.dY,y.Held,y.dB,y.Items)))
def rdL:List Nat:= [3,4,5,9,22,23,25,26,28,30,32,44,46,57,58,59,60,61,62,63,64,66,67,69,76,78,79,80,82,84,86,87,89,90,91,93,94,95,96,98,100,121,123,127,150,152,154,178,200,203,216,262,264]
theorem Cbf:A2p Tryz.prog rdL:=by
 intro e n m f he hs hf;simp only[rdL,List.mem_cons,List.not_mem_nil,or_false]at he;rcases he with rfl|rfl|rfl|rfl|rfl|rfl|rfl|rfl|rfl|rfl|rfl|rfl|rfl|rfl|rfl|rfl|rfl|rfl|rfl|rfl|rfl|rfl|rfl|rfl|rfl|rfl|rfl|rfl|rfl|rfl|rfl|rfl|rfl|rfl|rfl|rfl|rfl|rfl|rfl|rfl|rfl|rfl|rfl|rfl|rfl|rfl|rfl|rfl|rfl|rfl|rfl|rfl|rfl
 ·exact RT.rows (K:=LX.t3) rt3 (hf:=hf)
 ·exact RT.rows (K:=LX.t4) rt4 (hf:=hf)
 ·exact RT.rows (K:=LX.t5) rt5 (hf:=hf)
 ·exact RT.rows (K:=LX.t9) rt9 (hf:=hf)
 ·exact nomatch hs
 ·exact nomatch hs
 ·exact nomatch hs
 ·exact nomatch hs
 ·exact nomatch hs
 ·exact nomatch hs
 ·exact RT.rows (K:=LX.t32) Cbp (hf:=hf)
 ·exact nomatch hs
 ·exact RT.rows (K:=LX.t46) B2h (hf:=hf)
 ·exact nomatch hs
 ·exact nomatch hs
 ·exact nomatch hs
 ·exact nomatch hs
 ·exact RT.rows (K:=LX.t61) Bkv (hf:=hf)
 ·exact nomatch hs
 ·exact nomatch hs
 ·exact nomatch hs
 ·exact RT.rows (K:=LX.t66) B7m (hf:=hf)
 ·exact nomatch hs
 ·exact RT.rows (K:=LX.t69) B7n (hf:=hf)
 ·exact nomatch hs
 ·exact RT.rows (K:=LX.t78) B7o (hf:=hf)
 ·exact nomatch hs
 ·exact nomatch hs
 ·exact nomatch hs
 ·exact nomatch hs
 ·exact RT.rows (K:=LX.t86) B7p (hf:=hf)
 ·exact nomatch hs
 ·exact RT.rows (K:=LX.t89) B7q (hf:=hf)
 ·exact RT.rows (K:=LX.gH) B2i (hf:=hf)
 ·exact nomatch hs
 ·exact RT.rows (K:=LX.t93) B7r (hf:=hf)
 ·exact nomatch hs
 ·exact nomatch hs
 ·exact nomatch hs
 ·exact RT.rows (K:=LX.dU) Bkw (hf:=hf)
 ·exact RT.rows (K:=LX.eU) Bxi (hf:=hf)
 ·exact nomatch hs
 ·exact RT.rows (K:=LX.dO) Bxk (hf:=hf)
 ·exact RT.rows (K:=LX.t127) Bxl (hf:=hf)
 ·exact RT.rows (K:=LX.eG) Bxm (hf:=hf)
 ·exact nomatch hs
 ·exact RT.rows (K:=LX.t154) Bxn (hf:=hf)
 ·exact RT.rows (K:=LX.eF) Bxo (hf:=hf)
 ·exact RT.rows (K:=LX.dQ) Bxp (hf:=hf)
 ·exact RT.rows (K:=LX.t203) Bxq (hf:=hf)
 ·exact RT.rows (K:=LX.fA) Bxr (hf:=hf)
 ·exact nomatch hs
 ·exact RT.rows (K:=LX.dW) Bxs (hf:=hf)
theorem Cbg:Bdn Tryz.prog rdL=true:=by kernel_rfl
end Go.Proofs.YthjhkpgonleelaaGreatDoor.Ev
namespace Go.Proofs.YthjhkpgonleelaaGreatDoor.Ev
open Go
def Bb1(x:B9):Prop:=okS x.aV/\okS x.To/\j9 .i64 x.bR
def Bcb(x:B9):Nat:=((x.aV.size+1)+((x.To.size+1)+(1)))+1
def Aux(x:Ai):Prop:=okS x.aF/\(x.aI.length<=maxLen/\∀y∈x.aI,N6 y)/\(x.aA.length<=maxLen/\∀y∈x.aA,B8 y)/\(x.aH.length<=maxLen/\∀y∈x.aH,Bb1 y)
def An7(x:Ai):Nat:=((x.aF.size+1)+((F7 Vd x.aI+1)+((F7 Dm x.aA+1)+((F7 Bcb x.aH+1)))))+1
end Go.Proofs.YthjhkpgonleelaaGreatDoor.Ev
