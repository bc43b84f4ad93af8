/-  What is read, and its bulk. -/
import Derived.Test.YtmimkinjcfekmaaGreatG0
import Derived.Test.YtmimkinjcfekmaaGreatFz
namespace Go.Proofs.YtmimkinjcfekmaaGreat.Ev
open Go An
set_option maxRecDepth 100000
set_option maxHeartbeats 4000000
set_option linter.unusedVariables false
set_option linter.unusedSimpArgs false
set_option linter.unnecessarySimpa false
inductive Bc:Aa→Prop
 |mk (a0:Int) (a1:ByteArray) (a2:Int) (a3:(List Aa)) (h0_0:Pj .i64 a0) (h1_0:Rs a1) (h2_0:Pj .i64 a2) (h3_0:a3.length≤maxLen) (h3_1:∀y∈a3,Bc y):Bc (.mk a0 a1 a2 a3)
mutual
def Az:Aa→Nat
 | .mk a0 a1 a2 a3=>(1+((a1.size+1)+(1+((D5 a3+1)))))+1
def D5:List Aa→Nat
 | []=>0
 |x::k=>Az x+D5 k
end
theorem Ss(l:List Aa):D5 l=C4 Az l:=by
 induction l with
 |nil=>rw [D5];rfl
 |cons x k ih=>rw [D5,ih];rfl
theorem Ts(x:Aa):Az x=(1+((x.Name.size+1)+(1+((C4 Az x.Kids+1)))))+1:=by
 cases x with|mk a0 a1 a2 a3=>simp only [Az,Ss,Aa.Op,Aa.Name,Aa.N,Aa.Kids]
def Jl(x:Au):Prop:=Rs x.Name∧Pj .i64 x.Length∧Pj .i64 x.Step
def Ee(x:Au):Nat:=((x.Name.size+1)+(1+1))+1
def K4(x:Hi):Prop:=Pj .i64 x.At∧Pj .i64 x.Units
def K8(x:Hi):Nat:=(1+1)+1
def Ks(x:I9):Prop:=Pj .i64 x.Op∧Pj .i64 x.A∧Pj .i64 x.B∧Pj .i64 x.N∧(x.Values.length≤maxLen∧∀y∈x.Values,Pj .i64 y)∧(x.Weights.length≤maxLen∧∀y∈x.Weights,Pj .i64 y)
def Ja(x:I9):Nat:=(1+(1+(1+(1+((C4 (fun(z:Int)=>1) x.Values+1)+((C4 (fun(z:Int)=>1) x.Weights+1)))))))+1
def Fv(x:Ai):Prop:=Rs x.Name∧Pj .i64 x.Type_
def C8(x:Ai):Nat:=((x.Name.size+1)+1)+1
def Mx(x:Kf):Prop:=Pj .i64 x.Coef∧Rs x.What∧Rs x.Name
def M8(x:Kf):Nat:=(1+((x.What.size+1)+((x.Name.size+1))))+1
def Ox(x:Ly):Prop:=Rs x.Name∧(x.Terms.length≤maxLen∧∀y∈x.Terms,Mx y)∧Pj .i64 x.Total
def Oy(x:Ly):Nat:=((x.Name.size+1)+((C4 M8 x.Terms+1)+1))+1
def Px(x:Ny):Prop:=Rs x.Stream∧Ks x.Up∧Ks x.Down
def P7(x:Ny):Nat:=((x.Stream.size+1)+(Ja x.Up+Ja x.Down))+1
def Gt(x:Aj):Prop:=Rs x.Name∧Pj .i64 x.Units∧(x.Shift.length≤maxLen∧∀y∈x.Shift,K4 y)∧Pj .i64 x.Cycle∧Px x.Fault
def C3(x:Aj):Nat:=((x.Name.size+1)+(1+((C4 K8 x.Shift+1)+(1+P7 x.Fault))))+1
inductive Ez:Af→Prop
 |mk (a0:Int) (a1:ByteArray) (a2:ByteArray) (a3:Aa) (a4:Aa) (a5:(List Aa)) (a6:I9) (a7:Bool) (a8:(List Af)) (a9:(List Af)) (h0_0:Pj .i64 a0) (h1_0:Rs a1) (h2_0:Rs a2) (h3_0:Bc a3) (h4_0:Bc a4) (h5_0:a5.length≤maxLen) (h5_1:∀y∈a5,Bc y) (h6_0:Ks a6) (h7_0:True) (h8_0:a8.length≤maxLen) (h8_1:∀y∈a8,Ez y) (h9_0:a9.length≤maxLen) (h9_1:∀y∈a9,Ez y):Ez (.mk a0 a1 a2 a3 a4 a5 a6 a7 a8 a9)
mutual
def Dc:Af→Nat
 | .mk a0 a1 a2 a3 a4 a5 a6 a7 a8 a9=>(1+((a1.size+1)+((a2.size+1)+(Az a3+(Az a4+((C4 Az a5+1)+(Ja a6+(1+((F0 a8+1)+((F0 a9+1)))))))))))+1
def F0:List Af→Nat
 | []=>0
 |x::k=>Dc x+F0 k
end
theorem Su(l:List Af):F0 l=C4 Dc l:=by
 induction l with
 |nil=>rw [F0];rfl
 |cons x k ih=>rw [F0,ih];rfl
theorem Tt(x:Af):Dc x=(1+((x.Name.size+1)+((x.Of.size+1)+(Az x.E+(Az x.F+((C4 Az x.Args+1)+(Ja x.Dist+(1+((C4 Dc x.Body+1)+((C4 Dc x.Else+1)))))))))))+1:=by
 cases x with|mk a0 a1 a2 a3 a4 a5 a6 a7 a8 a9=>simp only [Dc,Su,Af.Op,Af.Name,Af.Of,Af.E,Af.F,Af.Args,Af.Dist,Af.Flag,Af.Body,Af.Else]
def Kb(x:Ay):Prop:=Rs x.Name∧(x.Params.length≤maxLen∧∀y∈x.Params,Fv y)∧(x.Locals.length≤maxLen∧∀y∈x.Locals,Fv y)∧(x.Body.length≤maxLen∧∀y∈x.Body,Ez y)
def E5(x:Ay):Nat:=((x.Name.size+1)+((C4 C8 x.Params+1)+((C4 C8 x.Locals+1)+((C4 Dc x.Body+1)))))+1
def Lt(x:Ix):Prop:=Rs x.Routine∧(x.Args.length≤maxLen∧∀y∈x.Args,Pj .i64 y)∧Pj .i64 x.At∧Pj .i64 x.Every∧Pj .i64 x.Until
def L2(x:Ix):Nat:=((x.Routine.size+1)+((C4 (fun(z:Int)=>1) x.Args+1)+(1+(1+1))))+1
def Iv(x:Ao):Prop:=Rs x.Name∧Pj .i64 x.Room∧Pj .i64 x.Policy
def Dv(x:Ao):Nat:=((x.Name.size+1)+(1+1))+1
def Jy(x:Aw):Prop:=Rs x.Name∧Pj .i64 x.Type_∧Pj .i64 x.N
def F1(x:Aw):Nat:=((x.Name.size+1)+(1+1))+1
def Ed(x:Ab):Prop:=Rs x.Name∧(x.Vars.length≤maxLen∧∀y∈x.Vars,Jy y)∧(x.Resources.length≤maxLen∧∀y∈x.Resources,Gt y)∧(x.Stores.length≤maxLen∧∀y∈x.Stores,Iv y)∧(x.Belts.length≤maxLen∧∀y∈x.Belts,Jl y)∧(x.Queues.length≤maxLen∧∀y∈x.Queues,Rs y)∧(x.Streams.length≤maxLen∧∀y∈x.Streams,Rs y)∧(x.Tallies.length≤maxLen∧∀y∈x.Tallies,Rs y)∧(x.Levels.length≤maxLen∧∀y∈x.Levels,Rs y)∧(x.Counts.length≤maxLen∧∀y∈x.Counts,Rs y)∧(x.Routines.length≤maxLen∧∀y∈x.Routines,Kb y)∧(x.Starts.length≤maxLen∧∀y∈x.Starts,Lt y)∧(x.Laws.length≤maxLen∧∀y∈x.Laws,Ox y)
def Ef(x:Ab):Nat:=((x.Name.size+1)+((C4 F1 x.Vars+1)+((C4 C3 x.Resources+1)+((C4 Dv x.Stores+1)+((C4 Ee x.Belts+1)+((C4 (fun(z:ByteArray)=>(z.size+1)) x.Queues+1)+((C4 (fun(z:ByteArray)=>(z.size+1)) x.Streams+1)+((C4 (fun(z:ByteArray)=>(z.size+1)) x.Tallies+1)+((C4 (fun(z:ByteArray)=>(z.size+1)) x.Levels+1)+((C4 (fun(z:ByteArray)=>(z.size+1)) x.Counts+1)+((C4 E5 x.Routines+1)+((C4 L2 x.Starts+1)+((C4 Oy x.Laws+1))))))))))))))+1
def Iu(x:Ae):Prop:=(x.Params.length≤maxLen∧∀y∈x.Params,Jy y)∧(x.Locals.length≤maxLen∧∀y∈x.Locals,Fv y)∧Ed x.Site
def Hj(x:Ae):Nat:=((C4 F1 x.Params+1)+((C4 C8 x.Locals+1)+Ef x.Site))+1
theorem Xk:RTi Tryz.prog 3 .i64:=RT.int Tryz.underlying3
theorem rt4:RTb Tryz.prog 4:=RT.bool Tryz.underlying4
theorem Ze:RTt Tryz.prog 9:=RT.str Tryz.underlying9
theorem Ahp:RTi Tryz.prog 39 .i64:=RT.int Tryz.underlying39
theorem Ajf(N:Nat):RT Tryz.prog N 52 3 Se Jy F1:=RT.dn (RY.st Tryz.underlying52 ((Ze N).a ((Ahp N).a ((Xk N).o))) (fun(a0,a1,a2)=> .mk a0 a1 a2) (fun y=>(y.Name,y.Type_,y.N)))
theorem Ajd:m8 Tryz.prog 22 LX.t52 Jy F1:=fun N=>RT.dn (RT.sl Tryz.underlying22 (Ajf N))
theorem Ahq(N:Nat):RT Tryz.prog N 41 2 Jb Fv C8:=RT.dn (RY.st Tryz.underlying41 ((Ze N).a ((Ahp N).o)) (fun(a0,a1)=> .mk a0 a1) (fun y=>(y.Name,y.Type_)))
theorem Ae2:m8 Tryz.prog 23 LX.t41 Fv C8:=fun N=>RT.dn (RT.sl Tryz.underlying23 (Ahq N))
theorem Af2(N:Nat):RT Tryz.prog N 196 2 Qa K4 K8:=RT.dn (RY.st Tryz.underlying196 ((Xk N).a ((Xk N).o)) (fun(a0,a1)=> .mk a0 a1) (fun y=>(y.At,y.Units)))
theorem Ai9:m8 Tryz.prog 135 LX.t196 K4 K8:=fun N=>RT.dn (RT.sl Tryz.underlying135 (Af2 N))
theorem Ak6:RTi Tryz.prog 63 .i64:=RT.int Tryz.underlying63
theorem Ahr:m8 Tryz.prog 64 LX.t3 (Pj .i64) (fun _=>1):=fun N=>RT.dn (RT.sl Tryz.underlying64 (Xk N))
theorem Ahs(N:Nat):RT Tryz.prog N 66 6 Z6 Ks Ja:=RT.dn (RY.st Tryz.underlying66 ((Ak6 N).a ((Xk N).a ((Xk N).a ((Xk N).a ((Ahr N).a ((Ahr N).o)))))) (fun(a0,a1,a2,a3,a4,a5)=> .mk a0 a1 a2 a3 a4 a5) (fun y=>(y.Op,y.A,y.B,y.N,y.Values,y.Weights)))
theorem Aja(N:Nat):RT Tryz.prog N 137 13 Yd Px P7:=RT.dn (RY.st Tryz.underlying137 ((Ze N).a ((Ahs N).a ((Ahs N).o))) (fun(a0,a1,a2)=> .mk a0 a1 a2) (fun y=>(y.Stream,y.Up,y.Down)))
theorem Afy(N:Nat):RT Tryz.prog N 139 17 Kg Gt C3:=RT.dn (RY.st Tryz.underlying139 ((Ze N).a ((Xk N).a ((Ai9 N).a ((Xk N).a ((Aja N).o))))) (fun(a0,a1,a2,a3,a4)=> .mk a0 a1 a2 a3 a4) (fun y=>(y.Name,y.Units,y.Shift,y.Cycle,y.Fault)))
theorem Akv:m8 Tryz.prog 24 LX.t139 Gt C3:=fun N=>RT.dn (RT.sl Tryz.underlying24 (Afy N))
theorem Ajb:RTi Tryz.prog 144 .i64:=RT.int Tryz.underlying144
theorem Afz(N:Nat):RT Tryz.prog N 146 3 Mk Iv Dv:=RT.dn (RY.st Tryz.underlying146 ((Ze N).a ((Xk N).a ((Ajb N).o))) (fun(a0,a1,a2)=> .mk a0 a1 a2) (fun y=>(y.Name,y.Room,y.Policy)))
theorem Akw:m8 Tryz.prog 25 LX.t146 Iv Dv:=fun N=>RT.dn (RT.sl Tryz.underlying25 (Afz N))
theorem Af0(N:Nat):RT Tryz.prog N 150 3 Nh Jl Ee:=RT.dn (RY.st Tryz.underlying150 ((Ze N).a ((Xk N).a ((Xk N).o))) (fun(a0,a1,a2)=> .mk a0 a1 a2) (fun y=>(y.Name,y.Length,y.Step)))
theorem Akx:m8 Tryz.prog 26 LX.t150 Jl Ee:=fun N=>RT.dn (RT.sl Tryz.underlying26 (Af0 N))
theorem Ac4:m8 Tryz.prog 27 LX.t9 Rs (fun x=>x.size+1):=fun N=>RT.dn (RT.sl Tryz.underlying27 (Ze N))
theorem Ak5:RTi Tryz.prog 62 .i64:=RT.int Tryz.underlying62
theorem Ak2:RTi Tryz.prog 35 .i64:=RT.int Tryz.underlying35
theorem Ai7:∀N,RT Tryz.prog N 38 4 Bf Bc Az
 |0=> .zero
 |N+1=>have ih:=Ai7 N;RY.st Tryz.underlying38 ((Ak2 N).a ((Ze N).a ((Xk N).a ((RT.sl (K:=LX.t38) Tryz.underlying36 ih).dn.o)))) (fun(a0,a1,a2,a3)=> .mk a0 a1 a2 a3) (fun y=>(y.Op,y.Name,y.N,y.Kids)) (hok:=fun y h=>by cases y;obtain ⟨h0,h1,h2,⟨h3,k3⟩⟩:=h;exact .mk _ _ _ _ h0 h1 h2 h3 k3) (hbk:=Ts)
theorem Ac5(N:Nat):RT Tryz.prog N 38 4 Bf Bc Az:=Ai7 N
theorem Ak3:m8 Tryz.prog 36 LX.t38 Bc Az:=fun N=>RT.dn (RT.sl Tryz.underlying36 (Ac5 N))
theorem Ai8:∀N,RT Tryz.prog N 68 21 O2 Ez Dc
 |0=> .zero
 |N+1=>have ih:=Ai8 N;RY.st Tryz.underlying68 ((Ak5 N).a ((Ze N).a ((Ze N).a ((Ac5 N).a ((Ac5 N).a ((Ak3 N).a ((Ahs N).a ((rt4 N).a ((RT.sl (K:=LX.t68) Tryz.underlying53 ih).dn.a ((RT.sl (K:=LX.t68) Tryz.underlying53 ih).dn.o)))))))))) (fun(a0,a1,a2,a3,a4,a5,a6,a7,a8,a9)=> .mk a0 a1 a2 a3 a4 a5 a6 a7 a8 a9) (fun y=>(y.Op,y.Name,y.Of,y.E,y.F,y.Args,y.Dist,y.Flag,y.Body,y.Else)) (hok:=fun y h=>by cases y;obtain ⟨h0,h1,h2,h3,h4,⟨h5,k5⟩,h6,h7,⟨h8,k8⟩,⟨h9,k9⟩⟩:=h;exact .mk _ _ _ _ _ _ _ _ _ _ h0 h1 h2 h3 h4 h5 k5 h6 h7 h8 k8 h9 k9) (hbk:=Tt)
theorem Ajh(N:Nat):RT Tryz.prog N 68 21 O2 Ez Dc:=Ai8 N
theorem Ak4:m8 Tryz.prog 53 LX.t68 Ez Dc:=fun N=>RT.dn (RT.sl Tryz.underlying53 (Ajh N))
theorem Ajg(N:Nat):RT Tryz.prog N 55 4 Om Kb E5:=RT.dn (RY.st Tryz.underlying55 ((Ze N).a ((Ae2 N).a ((Ae2 N).a ((Ak4 N).o)))) (fun(a0,a1,a2,a3)=> .mk a0 a1 a2 a3) (fun y=>(y.Name,y.Params,y.Locals,y.Body)))
theorem Aky:m8 Tryz.prog 28 LX.t55 Kb E5:=fun N=>RT.dn (RT.sl Tryz.underlying28 (Ajg N))
theorem Af1(N:Nat):RT Tryz.prog N 156 5 Sd Lt L2:=RT.dn (RY.st Tryz.underlying156 ((Ze N).a ((Ahr N).a ((Xk N).a ((Xk N).a ((Xk N).o))))) (fun(a0,a1,a2,a3,a4)=> .mk a0 a1 a2 a3 a4) (fun y=>(y.Routine,y.Args,y.At,y.Every,y.Until)))
theorem Akz:m8 Tryz.prog 29 LX.t156 Lt L2:=fun N=>RT.dn (RT.sl Tryz.underlying29 (Af1 N))
theorem Af4(N:Nat):RT Tryz.prog N 205 3 Tx Mx M8:=RT.dn (RY.st Tryz.underlying205 ((Xk N).a ((Ze N).a ((Ze N).o))) (fun(a0,a1,a2)=> .mk a0 a1 a2) (fun y=>(y.Coef,y.What,y.Name)))
theorem Ajc:m8 Tryz.prog 200 LX.t205 Mx M8:=fun N=>RT.dn (RT.sl Tryz.underlying200 (Af4 N))
theorem Af3(N:Nat):RT Tryz.prog N 202 3 Vt Ox Oy:=RT.dn (RY.st Tryz.underlying202 ((Ze N).a ((Ajc N).a ((Xk N).o))) (fun(a0,a1,a2)=> .mk a0 a1 a2) (fun y=>(y.Name,y.Terms,y.Total)))
theorem Ak0:m8 Tryz.prog 30 LX.t202 Ox Oy:=fun N=>RT.dn (RT.sl Tryz.underlying30 (Af3 N))
theorem Aje(N:Nat):RT Tryz.prog N 32 13 Ak Ed Ef:=RT.dn (RY.st Tryz.underlying32 ((Ze N).a ((Ajd N).a ((Akv N).a ((Akw N).a ((Akx N).a ((Ac4 N).a ((Ac4 N).a ((Ac4 N).a ((Ac4 N).a ((Ac4 N).a ((Aky N).a ((Akz N).a ((Ak0 N).o))))))))))))) (fun(a0,a1,a2,a3,a4,a5,a6,a7,a8,a9,a10,a11,a12)=> .mk a0 a1 a2 a3 a4 a5 a6 a7 a8 a9 a10 a11 a12) (fun y=>(y.Name,y.Vars,y.Resources,y.Stores,y.Belts,y.Queues,y.Streams,y.Tallies,y.Levels,y.Counts,y.Routines,y.Starts,y.Laws)))
theorem Ak1(N:Nat):RT Tryz.prog N 34 15 Ht Iu Hj:=RT.dn (RY.st Tryz.underlying34 ((Ajd N).a ((Ae2 N).a ((Aje N).o))) (fun(a0,a1,a2)=> .mk a0 a1 a2) (fun y=>(y.Params,y.Locals,y.Site)))
def rdL:List Nat:= [3,4,9,22,23,24,25,26,27,28,29,30,32,33,34,35,36,38,39,41,52,53,55,62,63,64,66,68,135,137,139,144,146,150,156,196,200,202,205]
theorem Akq:Tm Tryz.prog rdL:=by
 intro e n m f he hs hf
 simp only [rdL,List.mem_cons,List.not_mem_nil,or_false] at he
 rcases he with rfl|rfl|rfl|rfl|rfl|rfl|rfl|rfl|rfl|rfl|rfl|rfl|rfl|rfl|rfl|rfl|rfl|rfl|rfl|rfl|rfl|rfl|rfl|rfl|rfl|rfl|rfl|rfl|rfl|rfl|rfl|rfl|rfl|rfl|rfl|rfl|rfl|rfl|rfl
 ·exact RT.rows (K:=LX.t3) Xk (hf:=hf)
 ·exact RT.rows (K:=LX.t4) rt4 (hf:=hf)
 ·exact RT.rows (K:=LX.t9) Ze (hf:=hf)
 ·exact nomatch hs
 ·exact RT.rows (K:=LX.t23) Ae2 (hf:=hf)
 ·exact nomatch hs
 ·exact nomatch hs
 ·exact nomatch hs
 ·exact nomatch hs
 ·exact nomatch hs
 ·exact nomatch hs
 ·exact nomatch hs
 ·exact RT.rows (K:=LX.t32) Aje (hf:=hf)
 ·exact nomatch hs
 ·exact nomatch hs
 ·exact nomatch hs
 ·exact nomatch hs
 ·exact RT.rows (K:=LX.t38) Ac5 (hf:=hf)
 ·exact RT.rows (K:=LX.t39) Ahp (hf:=hf)
 ·exact RT.rows (K:=LX.t41) Ahq (hf:=hf)
 ·exact RT.rows (K:=LX.t52) Ajf (hf:=hf)
 ·exact nomatch hs
 ·exact RT.rows (K:=LX.t55) Ajg (hf:=hf)
 ·exact nomatch hs
 ·exact nomatch hs
 ·exact nomatch hs
 ·exact nomatch hs
 ·exact RT.rows (K:=LX.t68) Ajh (hf:=hf)
 ·exact nomatch hs
 ·exact nomatch hs
 ·exact RT.rows (K:=LX.t139) Afy (hf:=hf)
 ·exact nomatch hs
 ·exact RT.rows (K:=LX.t146) Afz (hf:=hf)
 ·exact RT.rows (K:=LX.t150) Af0 (hf:=hf)
 ·exact RT.rows (K:=LX.t156) Af1 (hf:=hf)
 ·exact RT.rows (K:=LX.t196) Af2 (hf:=hf)
 ·exact nomatch hs
 ·exact RT.rows (K:=LX.t202) Af3 (hf:=hf)
 ·exact RT.rows (K:=LX.t205) Af4 (hf:=hf)
theorem Akr:Y9 Tryz.prog rdL=true:=by kernel_rfl
end Go.Proofs.YtmimkinjcfekmaaGreat.Ev
