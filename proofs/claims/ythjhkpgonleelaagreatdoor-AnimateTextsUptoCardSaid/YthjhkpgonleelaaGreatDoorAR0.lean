/-  What is read, and its bulk. -/
import Derived.Test.YthjhkpgonleelaaGreatDoorAG0
import Derived.Test.YthjhkpgonleelaaGreatDoorAFz
namespace Go.Proofs.YthjhkpgonleelaaGreatDoor.Ev
open Go An
set_option maxRecDepth 100000
set_option maxHeartbeats 4000000
set_option linter.unusedVariables false
set_option linter.unusedSimpArgs false
set_option linter.unnecessarySimpa false
def Azi(x:Hv):Prop:=Ot .i64 x.From∧Ot .i64 x.To∧Ot .i64 x.Delay
def Azz(x:Hv):Nat:=(1+(1+1))+1
def Qi(x:B8):Prop:=Ot .i64 x.Op∧Ot .i64 x.A∧Ot .i64 x.B∧Ot .i64 x.N∧(x.Values.length≤maxLen∧∀y∈x.Values,Ot .i64 y)∧(x.Weights.length≤maxLen∧∀y∈x.Weights,Ot .i64 y)
def Mc(x:B8):Nat:=(1+(1+(1+(1+((H2 (fun(z:Int)=>1) x.Values+1)+((H2 (fun(z:Int)=>1) x.Weights+1)))))))+1
inductive Ey:Ab→Prop
 |mk (a0:Int) (a1:ByteArray) (a2:Int) (a3:(List Ab)) (h0_0:Ot .i64 a0) (h1_0:okS a1) (h2_0:Ot .i64 a2) (h3_0:a3.length≤maxLen) (h3_1:∀y∈a3,Ey y):Ey (.mk a0 a1 a2 a3)
mutual
def Dc:Ab→Nat
 | .mk a0 a1 a2 a3=>(1+((a1.size+1)+(1+((Mw a3+1)))))+1
def Mw:List Ab→Nat
 | []=>0
 |x::k=>Dc x+Mw k
end
theorem Anx(l:List Ab):Mw l=H2 Dc l:=by
 induction l with
 |nil=>rw [Mw];rfl
 |cons x k ih=>rw [Mw,ih];rfl
theorem Ap2(x:Ab):Dc x=(1+((x.Name.size+1)+(1+((H2 Dc x.Kids+1)))))+1:=by
 cases x with|mk a0 a1 a2 a3=>simp only [Dc,Anx,Ab.Op,Ab.Name,Ab.N,Ab.Kids]
def y9(x:Bm):Prop:=Ot .i64 x.Op∧Ot .i64 x.A∧Ot .i64 x.B∧Ot .i64 x.C∧Ey x.E∧Ey x.F∧(x.Args.length≤maxLen∧∀y∈x.Args,Ey y)∧Qi x.Dist∧True
def Aac(x:Bm):Nat:=(1+(1+(1+(1+(Dc x.E+(Dc x.F+((H2 Dc x.Args+1)+(Mc x.Dist+1))))))))+1
def Acn(x:Ay):Prop:=okS x.Name∧Ot .i64 x.Params∧Ot .i64 x.Slots∧(x.Instrs.length≤maxLen∧∀y∈x.Instrs,y9 y)
def Ac2(x:Ay):Nat:=((x.Name.size+1)+(1+(1+((H2 Aac x.Instrs+1)))))+1
def Rm(x:Be):Prop:=okS x.Name∧Ot .i64 x.Length∧Ot .i64 x.Step
def Rn(x:Be):Nat:=((x.Name.size+1)+(1+1))+1
def Aco(x:Bj):Prop:=Ot .i64 x.Coef∧okS x.What∧okS x.Name
def Ac3(x:Bj):Nat:=(1+((x.What.size+1)+((x.Name.size+1))))+1
def Ahc(x:Bk):Prop:=okS x.Name∧(x.Terms.length≤maxLen∧∀y∈x.Terms,Aco y)∧Ot .i64 x.Total
def Ahj(x:Bk):Nat:=((x.Name.size+1)+((H2 Ac3 x.Terms+1)+1))+1
def Xq(x:L1):Prop:=Ot .i64 x.At∧Ot .i64 x.Units
def Xs(x:L1):Nat:=(1+1)+1
def Ain(x:J5):Prop:=okS x.Stream∧Qi x.Up∧Qi x.Down
def Ajb(x:J5):Nat:=((x.Stream.size+1)+(Mc x.Up+Mc x.Down))+1
def Kn(x:Ah):Prop:=okS x.Name∧Ot .i64 x.Units∧(x.Shift.length≤maxLen∧∀y∈x.Shift,Xq y)∧Ot .i64 x.Cycle∧Ain x.Fault
def Ko(x:Ah):Nat:=((x.Name.size+1)+(1+((H2 Xs x.Shift+1)+(1+Ajb x.Fault))))+1
def S3(x:Bs):Prop:=okS x.Name∧Ot .i64 x.Type_
def S6(x:Bs):Nat:=((x.Name.size+1)+1)+1
inductive Jk:Af→Prop
 |mk (a0:Int) (a1:ByteArray) (a2:ByteArray) (a3:Ab) (a4:Ab) (a5:(List Ab)) (a6:B8) (a7:Bool) (a8:(List Af)) (a9:(List Af)) (h0_0:Ot .i64 a0) (h1_0:okS a1) (h2_0:okS a2) (h3_0:Ey a3) (h4_0:Ey a4) (h5_0:a5.length≤maxLen) (h5_1:∀y∈a5,Ey y) (h6_0:Qi a6) (h7_0:True) (h8_0:a8.length≤maxLen) (h8_1:∀y∈a8,Jk y) (h9_0:a9.length≤maxLen) (h9_1:∀y∈a9,Jk y):Jk (.mk a0 a1 a2 a3 a4 a5 a6 a7 a8 a9)
mutual
def Gf:Af→Nat
 | .mk a0 a1 a2 a3 a4 a5 a6 a7 a8 a9=>(1+((a1.size+1)+((a2.size+1)+(Dc a3+(Dc a4+((H2 Dc a5+1)+(Mc a6+(1+((J7 a8+1)+((J7 a9+1)))))))))))+1
def J7:List Af→Nat
 | []=>0
 |x::k=>Gf x+J7 k
end
theorem Anz(l:List Af):J7 l=H2 Gf l:=by
 induction l with
 |nil=>rw [J7];rfl
 |cons x k ih=>rw [J7,ih];rfl
theorem Ap3(x:Af):Gf x=(1+((x.Name.size+1)+((x.Of.size+1)+(Dc x.E+(Dc x.F+((H2 Dc x.Args+1)+(Mc x.Dist+(1+((H2 Gf x.Body+1)+((H2 Gf x.Else+1)))))))))))+1:=by
 cases x with|mk a0 a1 a2 a3 a4 a5 a6 a7 a8 a9=>simp only [Gf,Anz,Af.Op,Af.Name,Af.Of,Af.E,Af.F,Af.Args,Af.Dist,Af.Flag,Af.Body,Af.Else]
def Tu(x:Aj):Prop:=okS x.Name∧(x.Params.length≤maxLen∧∀y∈x.Params,S3 y)∧(x.Locals.length≤maxLen∧∀y∈x.Locals,S3 y)∧(x.Body.length≤maxLen∧∀y∈x.Body,Jk y)
def T3(x:Aj):Nat:=((x.Name.size+1)+((H2 S6 x.Params+1)+((H2 S6 x.Locals+1)+((H2 Gf x.Body+1)))))+1
def z6(x:Bv):Prop:=okS x.Routine∧(x.Args.length≤maxLen∧∀y∈x.Args,Ot .i64 y)∧Ot .i64 x.At∧Ot .i64 x.Every∧Ot .i64 x.Until
def Aad(x:Bv):Nat:=((x.Routine.size+1)+((H2 (fun(z:Int)=>1) x.Args+1)+(1+(1+1))))+1
def N9(x:Al):Prop:=okS x.Name∧Ot .i64 x.Room∧Ot .i64 x.Policy
def Oa(x:Al):Nat:=((x.Name.size+1)+(1+1))+1
def z7(x:Av):Prop:=okS x.Name∧Ot .i64 x.Type_∧Ot .i64 x.N
def Aae(x:Av):Nat:=((x.Name.size+1)+(1+1))+1
def Aa6(x:Aa):Prop:=okS x.Name∧(x.Vars.length≤maxLen∧∀y∈x.Vars,z7 y)∧(x.Resources.length≤maxLen∧∀y∈x.Resources,Kn y)∧(x.Stores.length≤maxLen∧∀y∈x.Stores,N9 y)∧(x.Belts.length≤maxLen∧∀y∈x.Belts,Rm y)∧(x.Queues.length≤maxLen∧∀y∈x.Queues,okS y)∧(x.Streams.length≤maxLen∧∀y∈x.Streams,okS y)∧(x.Tallies.length≤maxLen∧∀y∈x.Tallies,okS y)∧(x.Levels.length≤maxLen∧∀y∈x.Levels,okS y)∧(x.Counts.length≤maxLen∧∀y∈x.Counts,okS y)∧(x.Routines.length≤maxLen∧∀y∈x.Routines,Tu y)∧(x.Starts.length≤maxLen∧∀y∈x.Starts,z6 y)∧(x.Laws.length≤maxLen∧∀y∈x.Laws,Ahc y)
def Aa9(x:Aa):Nat:=((x.Name.size+1)+((H2 Aae x.Vars+1)+((H2 Ko x.Resources+1)+((H2 Oa x.Stores+1)+((H2 Rn x.Belts+1)+((H2 (fun(z:ByteArray)=>(z.size+1)) x.Queues+1)+((H2 (fun(z:ByteArray)=>(z.size+1)) x.Streams+1)+((H2 (fun(z:ByteArray)=>(z.size+1)) x.Tallies+1)+((H2 (fun(z:ByteArray)=>(z.size+1)) x.Levels+1)+((H2 (fun(z:ByteArray)=>(z.size+1)) x.Counts+1)+((H2 T3 x.Routines+1)+((H2 Aad x.Starts+1)+((H2 Ahj x.Laws+1))))))))))))))+1
def Anr(x:Bz):Prop:=Aa6 x.Decl∧(x.Routines.length≤maxLen∧∀y∈x.Routines,Acn y)
def An0(x:Bz):Nat:=(Aa9 x.Decl+((H2 Ac2 x.Routines+1)))+1
def Azj(x:Bl):Prop:=Ot .i64 x.Time∧Ot .i64 x.Site∧Ot .i64 x.What∧Ot .i64 x.Proc∧Ot .i64 x.Index∧Ot .i64 x.Value
def Az0(x:Bl):Nat:=(1+(1+(1+(1+(1+1)))))+1
def S4(x:Ak):Prop:=Ot .i64 x.Time∧Ot .i64 x.Site∧(x.Procs.length≤maxLen∧∀y∈x.Procs,Ot .i64 y)∧(x.Held.length≤maxLen∧∀y∈x.Held,Ot .i64 y)∧(x.Waiting.length≤maxLen∧∀y∈x.Waiting,Ot .i64 y)∧(x.Items.length≤maxLen∧∀y∈x.Items,Ot .i64 y)
def Aui(x:Ak):Nat:=(1+(1+((H2 (fun(z:Int)=>1) x.Procs+1)+((H2 (fun(z:Int)=>1) x.Held+1)+((H2 (fun(z:Int)=>1) x.Waiting+1)+((H2 (fun(z:Int)=>1) x.Items+1)))))))+1
theorem rt3:RTi Tryz.prog 3 .i64:=RT.int Tryz.underlying3
theorem rt4:RTb Tryz.prog 4:=RT.bool Tryz.underlying4
theorem rt5:RTi Tryz.prog 5 .u8:=RT.int Tryz.underlying5
theorem rt9:RTt Tryz.prog 9:=RT.str Tryz.underlying9
theorem Bky:RTi Tryz.prog 121 .i64:=RT.int Tryz.underlying121
theorem Bkz(N:Nat):RT Tryz.prog N 123 3 B9 z7 Aae:=RT.dn (RY.st Tryz.underlying123 ((rt9 N).a ((Bky N).a ((rt3 N).o))) (fun(a0,a1,a2)=> .mk a0 a1 a2) (fun y=>(y.Name,y.Type_,y.N)))
theorem Bz3:RTs Tryz.prog 57 LX.t123 z7 Aae:=fun N=>RT.dn (RT.sl Tryz.underlying57 (Bkz N))
theorem Bk5(N:Nat):RT Tryz.prog N 216 2 Ajg Xq Xs:=RT.dn (RY.st Tryz.underlying216 ((rt3 N).a ((rt3 N).o)) (fun(a0,a1)=> .mk a0 a1) (fun y=>(y.At,y.Units)))
theorem B0d:RTs Tryz.prog 79 LX.t216 Xq Xs:=fun N=>RT.dn (RT.sl Tryz.underlying79 (Bk5 N))
theorem B0e:RTi Tryz.prog 80 .i64:=RT.int Tryz.underlying80
theorem A1a:RTs Tryz.prog 30 LX.t3 (Ot .i64) (fun _=>1):=fun N=>RT.dn (RT.sl Tryz.underlying30 (rt3 N))
theorem Bj4(N:Nat):RT Tryz.prog N 82 6 Aho Qi Mc:=RT.dn (RY.st Tryz.underlying82 ((B0e N).a ((rt3 N).a ((rt3 N).a ((rt3 N).a ((A1a N).a ((A1a N).o)))))) (fun(a0,a1,a2,a3,a4,a5)=> .mk a0 a1 a2 a3 a4 a5) (fun y=>(y.Op,y.A,y.B,y.N,y.Values,y.Weights)))
theorem B0f(N:Nat):RT Tryz.prog N 84 13 Am5 Ain Ajb:=RT.dn (RY.st Tryz.underlying84 ((rt9 N).a ((Bj4 N).a ((Bj4 N).o))) (fun(a0,a1,a2)=> .mk a0 a1 a2) (fun y=>(y.Stream,y.Up,y.Down)))
theorem Bxi(N:Nat):RT Tryz.prog N 86 17 B5 Kn Ko:=RT.dn (RY.st Tryz.underlying86 ((rt9 N).a ((rt3 N).a ((B0d N).a ((rt3 N).a ((B0f N).o))))) (fun(a0,a1,a2,a3,a4)=> .mk a0 a1 a2 a3 a4) (fun y=>(y.Name,y.Units,y.Shift,y.Cycle,y.Fault)))
theorem Bz4:RTs Tryz.prog 58 LX.t86 Kn Ko:=fun N=>RT.dn (RT.sl Tryz.underlying58 (Bxi N))
theorem B0g:RTi Tryz.prog 87 .i64:=RT.int Tryz.underlying87
theorem Bxj(N:Nat):RT Tryz.prog N 89 3 Cp N9 Oa:=RT.dn (RY.st Tryz.underlying89 ((rt9 N).a ((rt3 N).a ((B0g N).o))) (fun(a0,a1,a2)=> .mk a0 a1 a2) (fun y=>(y.Name,y.Room,y.Policy)))
theorem Bz5:RTs Tryz.prog 59 LX.t89 N9 Oa:=fun N=>RT.dn (RT.sl Tryz.underlying59 (Bxj N))
theorem Bk2(N:Nat):RT Tryz.prog N 178 3 Cv Rm Rn:=RT.dn (RY.st Tryz.underlying178 ((rt9 N).a ((rt3 N).a ((rt3 N).o))) (fun(a0,a1,a2)=> .mk a0 a1 a2) (fun y=>(y.Name,y.Length,y.Step)))
theorem Bz6:RTs Tryz.prog 60 LX.t178 Rm Rn:=fun N=>RT.dn (RT.sl Tryz.underlying60 (Bk2 N))
theorem A8i:RTs Tryz.prog 61 LX.t9 okS (fun x=>x.size+1):=fun N=>RT.dn (RT.sl Tryz.underlying61 (rt9 N))
theorem Bk3(N:Nat):RT Tryz.prog N 200 2 Jn S3 S6:=RT.dn (RY.st Tryz.underlying200 ((rt9 N).a ((Bky N).o)) (fun(a0,a1)=> .mk a0 a1) (fun y=>(y.Name,y.Type_)))
theorem Brq:RTs Tryz.prog 90 LX.t200 S3 S6:=fun N=>RT.dn (RT.sl Tryz.underlying90 (Bk3 N))
theorem Bxf:RTi Tryz.prog 262 .i64:=RT.int Tryz.underlying262
theorem B0j:RTi Tryz.prog 95 .i64:=RT.int Tryz.underlying95
theorem Bxc:∀N,RT Tryz.prog N 98 4 Ca Ey Dc
 |0=> .zero
 |N+1=>have ih:=Bxc N;RY.st Tryz.underlying98 ((B0j N).a ((rt9 N).a ((rt3 N).a ((RT.sl (K:=LX.t98) Tryz.underlying96 ih).dn.o)))) (fun(a0,a1,a2,a3)=> .mk a0 a1 a2 a3) (fun y=>(y.Op,y.Name,y.N,y.Kids)) (hok:=fun y h=>by cases y;obtain ⟨h0,h1,h2,⟨h3,k3⟩⟩:=h;exact .mk _ _ _ _ h0 h1 h2 h3 k3) (hbk:=Ap2)
theorem A8j(N:Nat):RT Tryz.prog N 98 4 Ca Ey Dc:=Bxc N
theorem Bxl:RTs Tryz.prog 96 LX.t98 Ey Dc:=fun N=>RT.dn (RT.sl Tryz.underlying96 (A8j N))
theorem Bkw:∀N,RT Tryz.prog N 264 21 L3 Jk Gf
 |0=> .zero
 |N+1=>have ih:=Bkw N;RY.st Tryz.underlying264 ((Bxf N).a ((rt9 N).a ((rt9 N).a ((A8j N).a ((A8j N).a ((Bxl N).a ((Bj4 N).a ((rt4 N).a ((RT.sl (K:=LX.t264) Tryz.underlying91 ih).dn.a ((RT.sl (K:=LX.t264) Tryz.underlying91 ih).dn.o)))))))))) (fun(a0,a1,a2,a3,a4,a5,a6,a7,a8,a9)=> .mk a0 a1 a2 a3 a4 a5 a6 a7 a8 a9) (fun y=>(y.Op,y.Name,y.Of,y.E,y.F,y.Args,y.Dist,y.Flag,y.Body,y.Else)) (hok:=fun y h=>by cases y;obtain ⟨h0,h1,h2,h3,h4,⟨h5,k5⟩,h6,h7,⟨h8,k8⟩,⟨h9,k9⟩⟩:=h;exact .mk _ _ _ _ _ _ _ _ _ _ h0 h1 h2 h3 h4 h5 k5 h6 h7 h8 k8 h9 k9) (hbk:=Ap3)
theorem Bk6(N:Nat):RT Tryz.prog N 264 21 L3 Jk Gf:=Bkw N
theorem B0h:RTs Tryz.prog 91 LX.t264 Jk Gf:=fun N=>RT.dn (RT.sl Tryz.underlying91 (Bk6 N))
theorem Bxk(N:Nat):RT Tryz.prog N 93 4 Ck Tu T3:=RT.dn (RY.st Tryz.underlying93 ((rt9 N).a ((Brq N).a ((Brq N).a ((B0h N).o)))) (fun(a0,a1,a2,a3)=> .mk a0 a1 a2 a3) (fun y=>(y.Name,y.Params,y.Locals,y.Body)))
theorem Bz7:RTs Tryz.prog 62 LX.t93 Tu T3:=fun N=>RT.dn (RT.sl Tryz.underlying62 (Bxk N))
theorem Bk0(N:Nat):RT Tryz.prog N 150 5 Wi z6 Aad:=RT.dn (RY.st Tryz.underlying150 ((rt9 N).a ((A1a N).a ((rt3 N).a ((rt3 N).a ((rt3 N).o))))) (fun(a0,a1,a2,a3,a4)=> .mk a0 a1 a2 a3 a4) (fun y=>(y.Routine,y.Args,y.At,y.Every,y.Until)))
theorem Bz8:RTs Tryz.prog 63 LX.t150 z6 Aad:=fun N=>RT.dn (RT.sl Tryz.underlying63 (Bk0 N))
theorem Bk4(N:Nat):RT Tryz.prog N 203 3 Dx Aco Ac3:=RT.dn (RY.st Tryz.underlying203 ((rt3 N).a ((rt9 N).a ((rt9 N).o))) (fun(a0,a1,a2)=> .mk a0 a1 a2) (fun y=>(y.Coef,y.What,y.Name)))
theorem Bxe:RTs Tryz.prog 152 LX.t203 Aco Ac3:=fun N=>RT.dn (RT.sl Tryz.underlying152 (Bk4 N))
theorem Bk1(N:Nat):RT Tryz.prog N 154 3 C4 Ahc Ahj:=RT.dn (RY.st Tryz.underlying154 ((rt9 N).a ((Bxe N).a ((rt3 N).o))) (fun(a0,a1,a2)=> .mk a0 a1 a2) (fun y=>(y.Name,y.Terms,y.Total)))
theorem Bz9:RTs Tryz.prog 64 LX.t154 Ahc Ahj:=fun N=>RT.dn (RT.sl Tryz.underlying64 (Bk1 N))
theorem Bxg(N:Nat):RT Tryz.prog N 66 13 Ad Aa6 Aa9:=RT.dn (RY.st Tryz.underlying66 ((rt9 N).a ((Bz3 N).a ((Bz4 N).a ((Bz5 N).a ((Bz6 N).a ((A8i N).a ((A8i N).a ((A8i N).a ((A8i N).a ((A8i N).a ((Bz7 N).a ((Bz8 N).a ((Bz9 N).o))))))))))))) (fun(a0,a1,a2,a3,a4,a5,a6,a7,a8,a9,a10,a11,a12)=> .mk a0 a1 a2 a3 a4 a5 a6 a7 a8 a9 a10 a11 a12) (fun y=>(y.Name,y.Vars,y.Resources,y.Stores,y.Belts,y.Queues,y.Streams,y.Tallies,y.Levels,y.Counts,y.Routines,y.Starts,y.Laws)))
theorem B0i:RTi Tryz.prog 94 .i64:=RT.int Tryz.underlying94
theorem Bkx(N:Nat):RT Tryz.prog N 100 20 H5 y9 Aac:=RT.dn (RY.st Tryz.underlying100 ((B0i N).a ((rt3 N).a ((rt3 N).a ((rt3 N).a ((A8j N).a ((A8j N).a ((Bxl N).a ((Bj4 N).a ((rt4 N).o))))))))) (fun(a0,a1,a2,a3,a4,a5,a6,a7,a8)=> .mk a0 a1 a2 a3 a4 a5 a6 a7 a8) (fun y=>(y.Op,y.A,y.B,y.C,y.E,y.F,y.Args,y.Dist,y.Flag)))
theorem B0c:RTs Tryz.prog 76 LX.t100 y9 Aac:=fun N=>RT.dn (RT.sl Tryz.underlying76 (Bkx N))
theorem Bxh(N:Nat):RT Tryz.prog N 78 4 Oe Acn Ac2:=RT.dn (RY.st Tryz.underlying78 ((rt9 N).a ((rt3 N).a ((rt3 N).a ((B0c N).o)))) (fun(a0,a1,a2,a3)=> .mk a0 a1 a2 a3) (fun y=>(y.Name,y.Params,y.Slots,y.Instrs)))
theorem B0a:RTs Tryz.prog 67 LX.t78 Acn Ac2:=fun N=>RT.dn (RT.sl Tryz.underlying67 (Bxh N))
theorem B0b(N:Nat):RT Tryz.prog N 69 14 Gl Anr An0:=RT.dn (RY.st Tryz.underlying69 ((Bxg N).a ((B0a N).o)) (fun(a0,a1)=> .mk a0 a1) (fun y=>(y.Decl,y.Routines)))
theorem Bxd(N:Nat):RT Tryz.prog N 127 3 Ake Azi Azz:=RT.dn (RY.st Tryz.underlying127 ((rt3 N).a ((rt3 N).a ((rt3 N).o))) (fun(a0,a1,a2)=> .mk a0 a1 a2) (fun y=>(y.From,y.To,y.Delay)))
theorem Bz1:RTi Tryz.prog 44 .i64:=RT.int Tryz.underlying44
theorem Bz2(N:Nat):RT Tryz.prog N 46 6 Dd Azj Az0:=RT.dn (RY.st Tryz.underlying46 ((rt3 N).a ((rt3 N).a ((Bz1 N).a ((rt3 N).a ((rt3 N).a ((rt3 N).o)))))) (fun(a0,a1,a2,a3,a4,a5)=> .mk a0 a1 a2 a3 a4 a5) (fun y=>(y.Time,y.Site,y.What,y.Proc,y.Index,y.Value)))
theorem Brp(N:Nat):RT Tryz.prog N 32 6 Em S4 Aui:=RT.dn (RY.st Tryz.underlying32 ((rt3 N).a ((rt3 N).a ((A1a N).a ((A1a N).a ((A1a N).a ((A1a N).o)))))) (fun(a0,a1,a2,a3,a4,a5)=> .mk a0 a1 a2 a3 a4 a5) (fun y=>(y.Time,y.Site,y.Procs,y.Held,y.Waiting,y.Items)))
def rdL:List Nat:= [3,4,5,9,22,23,25,26,28,30,32,44,46,57,58,59,60,61,62,63,64,66,67,69,76,78,79,80,82,84,86,87,89,90,91,93,94,95,96,98,100,121,123,127,150,152,154,178,200,203,216,262,264]
theorem Bzv:Apo Tryz.prog rdL:=by
 intro e n m f he hs hf
 simp only [rdL,List.mem_cons,List.not_mem_nil,or_false] at he
 rcases he with rfl|rfl|rfl|rfl|rfl|rfl|rfl|rfl|rfl|rfl|rfl|rfl|rfl|rfl|rfl|rfl|rfl|rfl|rfl|rfl|rfl|rfl|rfl|rfl|rfl|rfl|rfl|rfl|rfl|rfl|rfl|rfl|rfl|rfl|rfl|rfl|rfl|rfl|rfl|rfl|rfl|rfl|rfl|rfl|rfl|rfl|rfl|rfl|rfl|rfl|rfl|rfl|rfl
 ·exact RT.rows (K:=LX.t3) rt3 (hf:=hf)
 ·exact RT.rows (K:=LX.t4) rt4 (hf:=hf)
 ·exact RT.rows (K:=LX.t5) rt5 (hf:=hf)
 ·exact RT.rows (K:=LX.t9) rt9 (hf:=hf)
 ·exact nomatch hs
 ·exact nomatch hs
 ·exact nomatch hs
 ·exact nomatch hs
 ·exact nomatch hs
 ·exact nomatch hs
 ·exact RT.rows (K:=LX.t32) Brp (hf:=hf)
 ·exact nomatch hs
 ·exact RT.rows (K:=LX.t46) Bz2 (hf:=hf)
 ·exact nomatch hs
 ·exact nomatch hs
 ·exact nomatch hs
 ·exact nomatch hs
 ·exact RT.rows (K:=LX.t61) A8i (hf:=hf)
 ·exact nomatch hs
 ·exact nomatch hs
 ·exact nomatch hs
 ·exact RT.rows (K:=LX.t66) Bxg (hf:=hf)
 ·exact nomatch hs
 ·exact RT.rows (K:=LX.t69) B0b (hf:=hf)
 ·exact nomatch hs
 ·exact RT.rows (K:=LX.t78) Bxh (hf:=hf)
 ·exact nomatch hs
 ·exact nomatch hs
 ·exact nomatch hs
 ·exact nomatch hs
 ·exact RT.rows (K:=LX.t86) Bxi (hf:=hf)
 ·exact nomatch hs
 ·exact RT.rows (K:=LX.t89) Bxj (hf:=hf)
 ·exact RT.rows (K:=LX.t90) Brq (hf:=hf)
 ·exact nomatch hs
 ·exact RT.rows (K:=LX.t93) Bxk (hf:=hf)
 ·exact nomatch hs
 ·exact nomatch hs
 ·exact nomatch hs
 ·exact RT.rows (K:=LX.t98) A8j (hf:=hf)
 ·exact RT.rows (K:=LX.t100) Bkx (hf:=hf)
 ·exact nomatch hs
 ·exact RT.rows (K:=LX.t123) Bkz (hf:=hf)
 ·exact RT.rows (K:=LX.t127) Bxd (hf:=hf)
 ·exact RT.rows (K:=LX.t150) Bk0 (hf:=hf)
 ·exact nomatch hs
 ·exact RT.rows (K:=LX.t154) Bk1 (hf:=hf)
 ·exact RT.rows (K:=LX.t178) Bk2 (hf:=hf)
 ·exact RT.rows (K:=LX.t200) Bk3 (hf:=hf)
 ·exact RT.rows (K:=LX.t203) Bk4 (hf:=hf)
 ·exact RT.rows (K:=LX.t216) Bk5 (hf:=hf)
 ·exact nomatch hs
 ·exact RT.rows (K:=LX.t264) Bk6 (hf:=hf)
theorem Bzw:Aya Tryz.prog rdL=true:=by kernel_rfl
end Go.Proofs.YthjhkpgonleelaaGreatDoor.Ev
