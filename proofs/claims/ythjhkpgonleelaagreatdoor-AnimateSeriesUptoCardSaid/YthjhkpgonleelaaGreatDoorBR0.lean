/-  What is read, and its bulk. -/
import Derived.Test.YthjhkpgonleelaaGreatDoorBG0
import Derived.Test.YthjhkpgonleelaaGreatDoorBFz
namespace Go.Proofs.YthjhkpgonleelaaGreatDoor.Ev
open Go An
set_option maxRecDepth 100000
set_option maxHeartbeats 4000000
set_option linter.unusedVariables false
set_option linter.unusedSimpArgs false
set_option linter.unnecessarySimpa false
def Ae6(x:D2):Prop:=Vc .i64 x.From∧Vc .i64 x.To∧Vc .i64 x.Delay
def Ae9(x:D2):Nat:=(1+(1+1))+1
def Tm(x:Cp):Prop:=Vc .i64 x.Op∧Vc .i64 x.A∧Vc .i64 x.B∧Vc .i64 x.N∧(x.Values.length≤maxLen∧∀y∈x.Values,Vc .i64 y)∧(x.Weights.length≤maxLen∧∀y∈x.Weights,Vc .i64 y)
def J2(x:Cp):Nat:=(1+(1+(1+(1+((Er (fun(z:Int)=>1) x.Values+1)+((Er (fun(z:Int)=>1) x.Weights+1)))))))+1
inductive Cq:Ab→Prop
 |mk (a0:Int) (a1:ByteArray) (a2:Int) (a3:(List Ab)) (h0_0:Vc .i64 a0) (h1_0:j5 a1) (h2_0:Vc .i64 a2) (h3_0:a3.length≤maxLen) (h3_1:∀y∈a3,Cq y):Cq (.mk a0 a1 a2 a3)
mutual
def B3:Ab→Nat
 | .mk a0 a1 a2 a3=>(1+((a1.size+1)+(1+((No a3+1)))))+1
def No:List Ab→Nat
 | []=>0
 |x::k=>B3 x+No k
end
theorem Ako(l:List Ab):No l=Er B3 l:=by
 induction l with
 |nil=>rw [No];rfl
 |cons x k ih=>rw [No,ih];rfl
theorem Als(x:Ab):B3 x=(1+((x.Name.size+1)+(1+((Er B3 x.Kids+1)))))+1:=by
 cases x with|mk a0 a1 a2 a3=>simp only [B3,Ako,Ab.Op,Ab.Name,Ab.N,Ab.Kids]
def Y3(x:Bm):Prop:=Vc .i64 x.Op∧Vc .i64 x.A∧Vc .i64 x.B∧Vc .i64 x.C∧Cq x.E∧Cq x.F∧(x.Args.length≤maxLen∧∀y∈x.Args,Cq y)∧Tm x.Dist∧True
def Lh(x:Bm):Nat:=(1+(1+(1+(1+(B3 x.E+(B3 x.F+((Er B3 x.Args+1)+(J2 x.Dist+1))))))))+1
def j7(x:Bu):Prop:=j5 x.Name∧Vc .i64 x.Params∧Vc .i64 x.Slots∧(x.Instrs.length≤maxLen∧∀y∈x.Instrs,Y3 y)
def Ng(x:Bu):Nat:=((x.Name.size+1)+(1+(1+((Er Lh x.Instrs+1)))))+1
def N1(x:Bd):Prop:=j5 x.Name∧Vc .i64 x.Length∧Vc .i64 x.Step
def N2(x:Bd):Nat:=((x.Name.size+1)+(1+1))+1
def Ac0(x:Be):Prop:=Vc .i64 x.Coef∧j5 x.What∧j5 x.Name
def Adc(x:Be):Nat:=(1+((x.What.size+1)+((x.Name.size+1))))+1
def Zp(x:Bh):Prop:=j5 x.Name∧(x.Terms.length≤maxLen∧∀y∈x.Terms,Ac0 y)∧Vc .i64 x.Total
def Afa(x:Bh):Nat:=((x.Name.size+1)+((Er Adc x.Terms+1)+1))+1
def s7(x:Ew):Prop:=Vc .i64 x.At∧Vc .i64 x.Units
def u3(x:Ew):Nat:=(1+1)+1
def Agc(x:Ml):Prop:=j5 x.Stream∧Tm x.Up∧Tm x.Down
def Qp(x:Ml):Nat:=((x.Stream.size+1)+(J2 x.Up+J2 x.Down))+1
def L9(x:Ap):Prop:=j5 x.Name∧Vc .i64 x.Units∧(x.Shift.length≤maxLen∧∀y∈x.Shift,s7 y)∧Vc .i64 x.Cycle∧Agc x.Fault
def Ei(x:Ap):Nat:=((x.Name.size+1)+(1+((Er u3 x.Shift+1)+(1+Qp x.Fault))))+1
def T1(x:Ba):Prop:=j5 x.Name∧Vc .i64 x.Type_
def Lg(x:Ba):Nat:=((x.Name.size+1)+1)+1
inductive Dj:Ag→Prop
 |mk (a0:Int) (a1:ByteArray) (a2:ByteArray) (a3:Ab) (a4:Ab) (a5:(List Ab)) (a6:Cp) (a7:Bool) (a8:(List Ag)) (a9:(List Ag)) (h0_0:Vc .i64 a0) (h1_0:j5 a1) (h2_0:j5 a2) (h3_0:Cq a3) (h4_0:Cq a4) (h5_0:a5.length≤maxLen) (h5_1:∀y∈a5,Cq y) (h6_0:Tm a6) (h7_0:True) (h8_0:a8.length≤maxLen) (h8_1:∀y∈a8,Dj y) (h9_0:a9.length≤maxLen) (h9_1:∀y∈a9,Dj y):Dj (.mk a0 a1 a2 a3 a4 a5 a6 a7 a8 a9)
mutual
def D8:Ag→Nat
 | .mk a0 a1 a2 a3 a4 a5 a6 a7 a8 a9=>(1+((a1.size+1)+((a2.size+1)+(B3 a3+(B3 a4+((Er B3 a5+1)+(J2 a6+(1+((Dk a8+1)+((Dk a9+1)))))))))))+1
def Dk:List Ag→Nat
 | []=>0
 |x::k=>D8 x+Dk k
end
theorem K1(l:List Ag):Dk l=Er D8 l:=by
 induction l with
 |nil=>rw [Dk];rfl
 |cons x k ih=>rw [Dk,ih];rfl
theorem Adb(x:Ag):D8 x=(1+((x.Name.size+1)+((x.Of.size+1)+(B3 x.E+(B3 x.F+((Er B3 x.Args+1)+(J2 x.Dist+(1+((Er D8 x.Body+1)+((Er D8 x.Else+1)))))))))))+1:=by
 cases x with|mk a0 a1 a2 a3 a4 a5 a6 a7 a8 a9=>simp only [D8,K1,Ag.Op,Ag.Name,Ag.Of,Ag.E,Ag.F,Ag.Args,Ag.Dist,Ag.Flag,Ag.Body,Ag.Else]
def P0(x:Ao):Prop:=j5 x.Name∧(x.Params.length≤maxLen∧∀y∈x.Params,T1 y)∧(x.Locals.length≤maxLen∧∀y∈x.Locals,T1 y)∧(x.Body.length≤maxLen∧∀y∈x.Body,Dj y)
def F5(x:Ao):Nat:=((x.Name.size+1)+((Er Lg x.Params+1)+((Er Lg x.Locals+1)+((Er D8 x.Body+1)))))+1
def Y4(x:Cl):Prop:=j5 x.Routine∧(x.Args.length≤maxLen∧∀y∈x.Args,Vc .i64 y)∧Vc .i64 x.At∧Vc .i64 x.Every∧Vc .i64 x.Until
def Abr(x:Cl):Nat:=((x.Routine.size+1)+((Er (fun(z:Int)=>1) x.Args+1)+(1+(1+1))))+1
def Mi(x:Av):Prop:=j5 x.Name∧Vc .i64 x.Room∧Vc .i64 x.Policy
def Mn(x:Av):Nat:=((x.Name.size+1)+(1+1))+1
def Nn(x:Ax):Prop:=j5 x.Name∧Vc .i64 x.Type_∧Vc .i64 x.N
def Qq(x:Ax):Nat:=((x.Name.size+1)+(1+1))+1
def Ch(x:Aa):Prop:=j5 x.Name∧(x.Vars.length≤maxLen∧∀y∈x.Vars,Nn y)∧(x.Resources.length≤maxLen∧∀y∈x.Resources,L9 y)∧(x.Stores.length≤maxLen∧∀y∈x.Stores,Mi y)∧(x.Belts.length≤maxLen∧∀y∈x.Belts,N1 y)∧(x.Queues.length≤maxLen∧∀y∈x.Queues,j5 y)∧(x.Streams.length≤maxLen∧∀y∈x.Streams,j5 y)∧(x.Tallies.length≤maxLen∧∀y∈x.Tallies,j5 y)∧(x.Levels.length≤maxLen∧∀y∈x.Levels,j5 y)∧(x.Counts.length≤maxLen∧∀y∈x.Counts,j5 y)∧(x.Routines.length≤maxLen∧∀y∈x.Routines,P0 y)∧(x.Starts.length≤maxLen∧∀y∈x.Starts,Y4 y)∧(x.Laws.length≤maxLen∧∀y∈x.Laws,Zp y)
def Da(x:Aa):Nat:=((x.Name.size+1)+((Er Qq x.Vars+1)+((Er Ei x.Resources+1)+((Er Mn x.Stores+1)+((Er N2 x.Belts+1)+((Er (fun(z:ByteArray)=>(z.size+1)) x.Queues+1)+((Er (fun(z:ByteArray)=>(z.size+1)) x.Streams+1)+((Er (fun(z:ByteArray)=>(z.size+1)) x.Tallies+1)+((Er (fun(z:ByteArray)=>(z.size+1)) x.Levels+1)+((Er (fun(z:ByteArray)=>(z.size+1)) x.Counts+1)+((Er F5 x.Routines+1)+((Er Abr x.Starts+1)+((Er Afa x.Laws+1))))))))))))))+1
def Ya(x:Bk):Prop:=Ch x.Decl∧(x.Routines.length≤maxLen∧∀y∈x.Routines,j7 y)
def Ef(x:Bk):Nat:=(Da x.Decl+((Er Ng x.Routines+1)))+1
def Zq(x:Ad):Prop:=j5 x.Name∧(x.Sites.length≤maxLen∧∀y∈x.Sites,Ya y)∧(x.Links.length≤maxLen∧∀y∈x.Links,Ae6 y)
def Mm(x:Ad):Nat:=((x.Name.size+1)+((Er Ef x.Sites+1)+((Er Ae9 x.Links+1))))+1
def Ae7(x:Bo):Prop:=Vc .i64 x.Time∧Vc .i64 x.Site∧Vc .i64 x.What∧Vc .i64 x.Proc∧Vc .i64 x.Index∧Vc .i64 x.Value
def Zw(x:Bo):Nat:=(1+(1+(1+(1+(1+1)))))+1
def Acz(x:Kg):Prop:=Zq x.P∧(x.Recs.length≤maxLen∧∀y∈x.Recs,Ae7 y)∧Vc .i64 x.Site∧Vc .i64 x.T∧Vc .i64 x.Step∧Vc .i64 x.N
def Xk(x:Kg):Nat:=(Mm x.P+((Er Zw x.Recs+1)+(1+(1+(1+1)))))+1
def Aqe(x:Bc):Prop:=Vc .i64 x.Time∧Vc .i64 x.Site∧(x.Procs.length≤maxLen∧∀y∈x.Procs,Vc .i64 y)∧(x.Held.length≤maxLen∧∀y∈x.Held,Vc .i64 y)∧(x.Waiting.length≤maxLen∧∀y∈x.Waiting,Vc .i64 y)∧(x.Items.length≤maxLen∧∀y∈x.Items,Vc .i64 y)
def Aqq(x:Bc):Nat:=(1+(1+((Er (fun(z:Int)=>1) x.Procs+1)+((Er (fun(z:Int)=>1) x.Held+1)+((Er (fun(z:Int)=>1) x.Waiting+1)+((Er (fun(z:Int)=>1) x.Items+1)))))))+1
theorem rt3:RTi Tryz.prog 3 .i64:=RT.int Tryz.underlying3
theorem rt4:RTb Tryz.prog 4:=RT.bool Tryz.underlying4
theorem rt5:RTi Tryz.prog 5 .u8:=RT.int Tryz.underlying5
theorem rt9:RTt Tryz.prog 9:=RT.str Tryz.underlying9
theorem Bd1:RTi Tryz.prog 121 .i64:=RT.int Tryz.underlying121
theorem Bd2(N:Nat):RT Tryz.prog N 123 3 B9 Nn Qq:=RT.dn (RY.st Tryz.underlying123 ((rt9 N).a ((Bd1 N).a ((rt3 N).o))) (fun(a0,a1,a2)=> .mk a0 a1 a2) (fun y=>(y.Name,y.Type_,y.N)))
theorem Boz:RTs Tryz.prog 57 LX.t123 Nn Qq:=fun N=>RT.dn (RT.sl Tryz.underlying57 (Bd2 N))
theorem Bd9(N:Nat):RT Tryz.prog N 216 2 Ag0 s7 u3:=RT.dn (RY.st Tryz.underlying216 ((rt3 N).a ((rt3 N).o)) (fun(a0,a1)=> .mk a0 a1) (fun y=>(y.At,y.Units)))
theorem Bo8:RTs Tryz.prog 79 LX.t216 s7 u3:=fun N=>RT.dn (RT.sl Tryz.underlying79 (Bd9 N))
theorem Bo9:RTi Tryz.prog 80 .i64:=RT.int Tryz.underlying80
theorem Axh:RTs Tryz.prog 30 LX.t3 (Vc .i64) (fun _=>1):=fun N=>RT.dn (RT.sl Tryz.underlying30 (rt3 N))
theorem Bct(N:Nat):RT Tryz.prog N 82 6 Al3 Tm J2:=RT.dn (RY.st Tryz.underlying82 ((Bo9 N).a ((rt3 N).a ((rt3 N).a ((rt3 N).a ((Axh N).a ((Axh N).o)))))) (fun(a0,a1,a2,a3,a4,a5)=> .mk a0 a1 a2 a3 a4 a5) (fun y=>(y.Op,y.A,y.B,y.N,y.Values,y.Weights)))
theorem Bpa(N:Nat):RT Tryz.prog N 84 13 Aj6 Agc Qp:=RT.dn (RY.st Tryz.underlying84 ((rt9 N).a ((Bct N).a ((Bct N).o))) (fun(a0,a1,a2)=> .mk a0 a1 a2) (fun y=>(y.Stream,y.Up,y.Down)))
theorem Bl5(N:Nat):RT Tryz.prog N 86 17 B8 L9 Ei:=RT.dn (RY.st Tryz.underlying86 ((rt9 N).a ((rt3 N).a ((Bo8 N).a ((rt3 N).a ((Bpa N).o))))) (fun(a0,a1,a2,a3,a4)=> .mk a0 a1 a2 a3 a4) (fun y=>(y.Name,y.Units,y.Shift,y.Cycle,y.Fault)))
theorem Bo0:RTs Tryz.prog 58 LX.t86 L9 Ei:=fun N=>RT.dn (RT.sl Tryz.underlying58 (Bl5 N))
theorem Bpb:RTi Tryz.prog 87 .i64:=RT.int Tryz.underlying87
theorem Bl6(N:Nat):RT Tryz.prog N 89 3 Cv Mi Mn:=RT.dn (RY.st Tryz.underlying89 ((rt9 N).a ((rt3 N).a ((Bpb N).o))) (fun(a0,a1,a2)=> .mk a0 a1 a2) (fun y=>(y.Name,y.Room,y.Policy)))
theorem Bo1:RTs Tryz.prog 59 LX.t89 Mi Mn:=fun N=>RT.dn (RT.sl Tryz.underlying59 (Bl6 N))
theorem Bd6(N:Nat):RT Tryz.prog N 178 3 C1 N1 N2:=RT.dn (RY.st Tryz.underlying178 ((rt9 N).a ((rt3 N).a ((rt3 N).o))) (fun(a0,a1,a2)=> .mk a0 a1 a2) (fun y=>(y.Name,y.Length,y.Step)))
theorem Bo2:RTs Tryz.prog 60 LX.t178 N1 N2:=fun N=>RT.dn (RT.sl Tryz.underlying60 (Bd6 N))
theorem A3u:RTs Tryz.prog 61 LX.t9 j5 (fun x=>x.size+1):=fun N=>RT.dn (RT.sl Tryz.underlying61 (rt9 N))
theorem Bd7(N:Nat):RT Tryz.prog N 200 2 P3 T1 Lg:=RT.dn (RY.st Tryz.underlying200 ((rt9 N).a ((Bd1 N).o)) (fun(a0,a1)=> .mk a0 a1) (fun y=>(y.Name,y.Type_)))
theorem Bio:RTs Tryz.prog 90 LX.t200 T1 Lg:=fun N=>RT.dn (RT.sl Tryz.underlying90 (Bd7 N))
theorem Bl0:RTi Tryz.prog 262 .i64:=RT.int Tryz.underlying262
theorem Bpe:RTi Tryz.prog 95 .i64:=RT.int Tryz.underlying95
theorem Bly:∀N,RT Tryz.prog N 98 4 Dc Cq B3
 |0=> .zero
 |N+1=>have ih:=Bly N;RY.st Tryz.underlying98 ((Bpe N).a ((rt9 N).a ((rt3 N).a ((RT.sl (K:=LX.t98) Tryz.underlying96 ih).dn.o)))) (fun(a0,a1,a2,a3)=> .mk a0 a1 a2 a3) (fun y=>(y.Op,y.Name,y.N,y.Kids)) (hok:=fun y h=>by cases y;obtain ⟨h0,h1,h2,⟨h3,k3⟩⟩:=h;exact .mk _ _ _ _ h0 h1 h2 h3 k3) (hbk:=Als)
theorem A3v(N:Nat):RT Tryz.prog N 98 4 Dc Cq B3:=Bly N
theorem Bl8:RTs Tryz.prog 96 LX.t98 Cq B3:=fun N=>RT.dn (RT.sl Tryz.underlying96 (A3v N))
theorem Bdz:∀N,RT Tryz.prog N 264 21 Vp Dj D8
 |0=> .zero
 |N+1=>have ih:=Bdz N;RY.st Tryz.underlying264 ((Bl0 N).a ((rt9 N).a ((rt9 N).a ((A3v N).a ((A3v N).a ((Bl8 N).a ((Bct N).a ((rt4 N).a ((RT.sl (K:=LX.t264) Tryz.underlying91 ih).dn.a ((RT.sl (K:=LX.t264) Tryz.underlying91 ih).dn.o)))))))))) (fun(a0,a1,a2,a3,a4,a5,a6,a7,a8,a9)=> .mk a0 a1 a2 a3 a4 a5 a6 a7 a8 a9) (fun y=>(y.Op,y.Name,y.Of,y.E,y.F,y.Args,y.Dist,y.Flag,y.Body,y.Else)) (hok:=fun y h=>by cases y;obtain ⟨h0,h1,h2,h3,h4,⟨h5,k5⟩,h6,h7,⟨h8,k8⟩,⟨h9,k9⟩⟩:=h;exact .mk _ _ _ _ _ _ _ _ _ _ h0 h1 h2 h3 h4 h5 k5 h6 h7 h8 k8 h9 k9) (hbk:=Adb)
theorem Bea(N:Nat):RT Tryz.prog N 264 21 Vp Dj D8:=Bdz N
theorem Bpc:RTs Tryz.prog 91 LX.t264 Dj D8:=fun N=>RT.dn (RT.sl Tryz.underlying91 (Bea N))
theorem Bl7(N:Nat):RT Tryz.prog N 93 4 Cs P0 F5:=RT.dn (RY.st Tryz.underlying93 ((rt9 N).a ((Bio N).a ((Bio N).a ((Bpc N).o)))) (fun(a0,a1,a2,a3)=> .mk a0 a1 a2 a3) (fun y=>(y.Name,y.Params,y.Locals,y.Body)))
theorem Bo3:RTs Tryz.prog 62 LX.t93 P0 F5:=fun N=>RT.dn (RT.sl Tryz.underlying62 (Bl7 N))
theorem Bd4(N:Nat):RT Tryz.prog N 150 5 Adi Y4 Abr:=RT.dn (RY.st Tryz.underlying150 ((rt9 N).a ((Axh N).a ((rt3 N).a ((rt3 N).a ((rt3 N).o))))) (fun(a0,a1,a2,a3,a4)=> .mk a0 a1 a2 a3 a4) (fun y=>(y.Routine,y.Args,y.At,y.Every,y.Until)))
theorem Bo4:RTs Tryz.prog 63 LX.t150 Y4 Abr:=fun N=>RT.dn (RT.sl Tryz.underlying63 (Bd4 N))
theorem Bd8(N:Nat):RT Tryz.prog N 203 3 Ki Ac0 Adc:=RT.dn (RY.st Tryz.underlying203 ((rt3 N).a ((rt9 N).a ((rt9 N).o))) (fun(a0,a1,a2)=> .mk a0 a1 a2) (fun y=>(y.Coef,y.What,y.Name)))
theorem Blz:RTs Tryz.prog 152 LX.t203 Ac0 Adc:=fun N=>RT.dn (RT.sl Tryz.underlying152 (Bd8 N))
theorem Bd5(N:Nat):RT Tryz.prog N 154 3 Dw Zp Afa:=RT.dn (RY.st Tryz.underlying154 ((rt9 N).a ((Blz N).a ((rt3 N).o))) (fun(a0,a1,a2)=> .mk a0 a1 a2) (fun y=>(y.Name,y.Terms,y.Total)))
theorem Bo5:RTs Tryz.prog 64 LX.t154 Zp Afa:=fun N=>RT.dn (RT.sl Tryz.underlying64 (Bd5 N))
theorem Bl2(N:Nat):RT Tryz.prog N 66 13 Ae Ch Da:=RT.dn (RY.st Tryz.underlying66 ((rt9 N).a ((Boz N).a ((Bo0 N).a ((Bo1 N).a ((Bo2 N).a ((A3u N).a ((A3u N).a ((A3u N).a ((A3u N).a ((A3u N).a ((Bo3 N).a ((Bo4 N).a ((Bo5 N).o))))))))))))) (fun(a0,a1,a2,a3,a4,a5,a6,a7,a8,a9,a10,a11,a12)=> .mk a0 a1 a2 a3 a4 a5 a6 a7 a8 a9 a10 a11 a12) (fun y=>(y.Name,y.Vars,y.Resources,y.Stores,y.Belts,y.Queues,y.Streams,y.Tallies,y.Levels,y.Counts,y.Routines,y.Starts,y.Laws)))
theorem Bpd:RTi Tryz.prog 94 .i64:=RT.int Tryz.underlying94
theorem Bd0(N:Nat):RT Tryz.prog N 100 20 Adh Y3 Lh:=RT.dn (RY.st Tryz.underlying100 ((Bpd N).a ((rt3 N).a ((rt3 N).a ((rt3 N).a ((A3v N).a ((A3v N).a ((Bl8 N).a ((Bct N).a ((rt4 N).o))))))))) (fun(a0,a1,a2,a3,a4,a5,a6,a7,a8)=> .mk a0 a1 a2 a3 a4 a5 a6 a7 a8) (fun y=>(y.Op,y.A,y.B,y.C,y.E,y.F,y.Args,y.Dist,y.Flag)))
theorem Bo7:RTs Tryz.prog 76 LX.t100 Y3 Lh:=fun N=>RT.dn (RT.sl Tryz.underlying76 (Bd0 N))
theorem Bl4(N:Nat):RT Tryz.prog N 78 4 Aff j7 Ng:=RT.dn (RY.st Tryz.underlying78 ((rt9 N).a ((rt3 N).a ((rt3 N).a ((Bo7 N).o)))) (fun(a0,a1,a2,a3)=> .mk a0 a1 a2 a3) (fun y=>(y.Name,y.Params,y.Slots,y.Instrs)))
theorem Bo6:RTs Tryz.prog 67 LX.t78 j7 Ng:=fun N=>RT.dn (RT.sl Tryz.underlying67 (Bl4 N))
theorem Bl3(N:Nat):RT Tryz.prog N 69 14 Mo Ya Ef:=RT.dn (RY.st Tryz.underlying69 ((Bl2 N).a ((Bo6 N).o)) (fun(a0,a1)=> .mk a0 a1) (fun y=>(y.Decl,y.Routines)))
theorem Boq:RTs Tryz.prog 22 LX.t69 Ya Ef:=fun N=>RT.dn (RT.sl Tryz.underlying22 (Bl3 N))
theorem Bd3(N:Nat):RT Tryz.prog N 127 3 Aor Ae6 Ae9:=RT.dn (RY.st Tryz.underlying127 ((rt3 N).a ((rt3 N).a ((rt3 N).o))) (fun(a0,a1,a2)=> .mk a0 a1 a2) (fun y=>(y.From,y.To,y.Delay)))
theorem Bor:RTs Tryz.prog 23 LX.t127 Ae6 Ae9:=fun N=>RT.dn (RT.sl Tryz.underlying23 (Bd3 N))
theorem Bos(N:Nat):RT Tryz.prog N 25 3 B4 Zq Mm:=RT.dn (RY.st Tryz.underlying25 ((rt9 N).a ((Boq N).a ((Bor N).o))) (fun(a0,a1,a2)=> .mk a0 a1 a2) (fun y=>(y.Name,y.Sites,y.Links)))
theorem Boy:RTi Tryz.prog 44 .i64:=RT.int Tryz.underlying44
theorem Bl1(N:Nat):RT Tryz.prog N 46 6 Ou Ae7 Zw:=RT.dn (RY.st Tryz.underlying46 ((rt3 N).a ((rt3 N).a ((Boy N).a ((rt3 N).a ((rt3 N).a ((rt3 N).o)))))) (fun(a0,a1,a2,a3,a4,a5)=> .mk a0 a1 a2 a3 a4 a5) (fun y=>(y.Time,y.Site,y.What,y.Proc,y.Index,y.Value)))
theorem Bou:RTs Tryz.prog 26 LX.t46 Ae7 Zw:=fun N=>RT.dn (RT.sl Tryz.underlying26 (Bl1 N))
theorem Bov(N:Nat):RT Tryz.prog N 28 8 Abw Acz Xk:=RT.dn (RY.st Tryz.underlying28 ((Bos N).a ((Bou N).a ((rt3 N).a ((rt3 N).a ((rt3 N).a ((rt3 N).o)))))) (fun(a0,a1,a2,a3,a4,a5)=> .mk a0 a1 a2 a3 a4 a5) (fun y=>(y.P,y.Recs,y.Site,y.T,y.Step,y.N)))
theorem Bow(N:Nat):RT Tryz.prog N 32 6 Xm Aqe Aqq:=RT.dn (RY.st Tryz.underlying32 ((rt3 N).a ((rt3 N).a ((Axh N).a ((Axh N).a ((Axh N).a ((Axh N).o)))))) (fun(a0,a1,a2,a3,a4,a5)=> .mk a0 a1 a2 a3 a4 a5) (fun y=>(y.Time,y.Site,y.Procs,y.Held,y.Waiting,y.Items)))
def rdL:List Nat:= [3,4,5,9,22,23,25,26,28,30,32,44,46,57,58,59,60,61,62,63,64,66,67,69,76,78,79,80,82,84,86,87,89,90,91,93,94,95,96,98,100,121,123,127,150,152,154,178,200,203,216,262,264]
theorem Bol:Alk Tryz.prog rdL:=by
 intro e n m f he hs hf
 simp only [rdL,List.mem_cons,List.not_mem_nil,or_false] at he
 rcases he with rfl|rfl|rfl|rfl|rfl|rfl|rfl|rfl|rfl|rfl|rfl|rfl|rfl|rfl|rfl|rfl|rfl|rfl|rfl|rfl|rfl|rfl|rfl|rfl|rfl|rfl|rfl|rfl|rfl|rfl|rfl|rfl|rfl|rfl|rfl|rfl|rfl|rfl|rfl|rfl|rfl|rfl|rfl|rfl|rfl|rfl|rfl|rfl|rfl|rfl|rfl|rfl|rfl
 ·exact RT.rows (K:=LX.t3) rt3 (hf:=hf)
 ·exact RT.rows (K:=LX.t4) rt4 (hf:=hf)
 ·exact RT.rows (K:=LX.t5) rt5 (hf:=hf)
 ·exact RT.rows (K:=LX.t9) rt9 (hf:=hf)
 ·exact nomatch hs
 ·exact nomatch hs
 ·exact nomatch hs
 ·exact nomatch hs
 ·exact nomatch hs
 ·exact nomatch hs
 ·exact RT.rows (K:=LX.t32) Bow (hf:=hf)
 ·exact nomatch hs
 ·exact RT.rows (K:=LX.t46) Bl1 (hf:=hf)
 ·exact nomatch hs
 ·exact nomatch hs
 ·exact nomatch hs
 ·exact nomatch hs
 ·exact RT.rows (K:=LX.t61) A3u (hf:=hf)
 ·exact nomatch hs
 ·exact nomatch hs
 ·exact nomatch hs
 ·exact RT.rows (K:=LX.t66) Bl2 (hf:=hf)
 ·exact nomatch hs
 ·exact RT.rows (K:=LX.t69) Bl3 (hf:=hf)
 ·exact nomatch hs
 ·exact RT.rows (K:=LX.t78) Bl4 (hf:=hf)
 ·exact nomatch hs
 ·exact nomatch hs
 ·exact nomatch hs
 ·exact nomatch hs
 ·exact RT.rows (K:=LX.t86) Bl5 (hf:=hf)
 ·exact nomatch hs
 ·exact RT.rows (K:=LX.t89) Bl6 (hf:=hf)
 ·exact RT.rows (K:=LX.t90) Bio (hf:=hf)
 ·exact nomatch hs
 ·exact RT.rows (K:=LX.t93) Bl7 (hf:=hf)
 ·exact nomatch hs
 ·exact nomatch hs
 ·exact nomatch hs
 ·exact RT.rows (K:=LX.t98) A3v (hf:=hf)
 ·exact RT.rows (K:=LX.t100) Bd0 (hf:=hf)
 ·exact nomatch hs
 ·exact RT.rows (K:=LX.t123) Bd2 (hf:=hf)
 ·exact RT.rows (K:=LX.t127) Bd3 (hf:=hf)
 ·exact RT.rows (K:=LX.t150) Bd4 (hf:=hf)
 ·exact nomatch hs
 ·exact RT.rows (K:=LX.t154) Bd5 (hf:=hf)
 ·exact RT.rows (K:=LX.t178) Bd6 (hf:=hf)
 ·exact RT.rows (K:=LX.t200) Bd7 (hf:=hf)
 ·exact RT.rows (K:=LX.t203) Bd8 (hf:=hf)
 ·exact RT.rows (K:=LX.t216) Bd9 (hf:=hf)
 ·exact nomatch hs
 ·exact RT.rows (K:=LX.t264) Bea (hf:=hf)
theorem Bom:Aum Tryz.prog rdL=true:=by kernel_rfl
end Go.Proofs.YthjhkpgonleelaaGreatDoor.Ev
