/-  What is read, and its bulk. -/
import Derived.Test.YtofcpkmnhmnfcaaGreatRG0
import Derived.Test.YtofcpkmnhmnfcaaGreatRFz
namespace Go.Proofs.YtofcpkmnhmnfcaaGreatR.Ev
open Go An
set_option maxRecDepth 100000
set_option maxHeartbeats 4000000
set_option linter.unusedVariables false
set_option linter.unusedSimpArgs false
set_option linter.unnecessarySimpa false
inductive Cn:Ab→Prop
 |mk (a0:Int) (a1:ByteArray) (a2:Int) (a3:(List Ab)) (h0_0:okI .i64 a0) (h1_0:okS a1) (h2_0:okI .i64 a2) (h3_0:a3.length≤maxLen) (h3_1:∀y∈a3,Cn y):Cn (.mk a0 a1 a2 a3)
mutual
def C0:Ab→Nat
 | .mk a0 a1 a2 a3=>(1+((a1.size+1)+(1+((Sj a3+1)))))+1
def Sj:List Ab→Nat
 | []=>0
 |x::k=>C0 x+Sj k
end
theorem Aza(l:List Ab):Sj l=Gh C0 l:=by
 induction l with
 |nil=>rw [Sj];rfl
 |cons x k ih=>rw [Sj,ih];rfl
theorem A2a(x:Ab):C0 x=(1+((x.Name.size+1)+(1+((Gh C0 x.Kids+1)))))+1:=by
 cases x with|mk a0 a1 a2 a3=>simp only [C0,Aza,Ab.Op,Ab.Name,Ab.N,Ab.Kids]
def S3(x:Aw):Prop:=okS x.Name∧okI .i64 x.Length∧okI .i64 x.Step
def S4(x:Aw):Nat:=((x.Name.size+1)+(1+1))+1
def Ahl(x:F7):Prop:=okI .i64 x.At∧okI .i64 x.Units
def Ahr(x:F7):Nat:=(1+1)+1
def Ab8(x:Bm):Prop:=okI .i64 x.Op∧okI .i64 x.A∧okI .i64 x.B∧okI .i64 x.N∧(x.Values.length≤maxLen∧∀y∈x.Values,okI .i64 y)∧(x.Weights.length≤maxLen∧∀y∈x.Weights,okI .i64 y)
def Pw(x:Bm):Nat:=(1+(1+(1+(1+((Gh (fun(z:Int)=>1) x.Values+1)+((Gh (fun(z:Int)=>1) x.Weights+1)))))))+1
def Pv(x:Ao):Prop:=okS x.Name∧okI .i64 x.Type_
def Py(x:Ao):Nat:=((x.Name.size+1)+1)+1
def Amj(x:Ay):Prop:=okI .i64 x.Coef∧okS x.What∧okS x.Name
def Am3(x:Ay):Nat:=(1+((x.What.size+1)+((x.Name.size+1))))+1
def Aei(x:Az):Prop:=okS x.Name∧(x.Terms.length≤maxLen∧∀y∈x.Terms,Amj y)∧okI .i64 x.Total
def Arw(x:Az):Nat:=((x.Name.size+1)+((Gh Am3 x.Terms+1)+1))+1
def As8(x:Jq):Prop:=okS x.Stream∧Ab8 x.Up∧Ab8 x.Down
def Px(x:Jq):Nat:=((x.Stream.size+1)+(Pw x.Up+Pw x.Down))+1
def Qv(x:Ah):Prop:=okS x.Name∧okI .i64 x.Units∧(x.Shift.length≤maxLen∧∀y∈x.Shift,Ahl y)∧okI .i64 x.Cycle∧As8 x.Fault
def F6(x:Ah):Nat:=((x.Name.size+1)+(1+((Gh Ahr x.Shift+1)+(1+Px x.Fault))))+1
inductive Ct:Ad→Prop
 |mk (a0:Int) (a1:ByteArray) (a2:ByteArray) (a3:Ab) (a4:Ab) (a5:(List Ab)) (a6:Bm) (a7:Bool) (a8:(List Ad)) (a9:(List Ad)) (h0_0:okI .i64 a0) (h1_0:okS a1) (h2_0:okS a2) (h3_0:Cn a3) (h4_0:Cn a4) (h5_0:a5.length≤maxLen) (h5_1:∀y∈a5,Cn y) (h6_0:Ab8 a6) (h7_0:True) (h8_0:a8.length≤maxLen) (h8_1:∀y∈a8,Ct y) (h9_0:a9.length≤maxLen) (h9_1:∀y∈a9,Ct y):Ct (.mk a0 a1 a2 a3 a4 a5 a6 a7 a8 a9)
mutual
def E6:Ad→Nat
 | .mk a0 a1 a2 a3 a4 a5 a6 a7 a8 a9=>(1+((a1.size+1)+((a2.size+1)+(C0 a3+(C0 a4+((Gh C0 a5+1)+(Pw a6+(1+((Ds a8+1)+((Ds a9+1)))))))))))+1
def Ds:List Ad→Nat
 | []=>0
 |x::k=>E6 x+Ds k
end
theorem Ow(l:List Ad):Ds l=Gh E6 l:=by
 induction l with
 |nil=>rw [Ds];rfl
 |cons x k ih=>rw [Ds,ih];rfl
theorem Am2(x:Ad):E6 x=(1+((x.Name.size+1)+((x.Of.size+1)+(C0 x.E+(C0 x.F+((Gh C0 x.Args+1)+(Pw x.Dist+(1+((Gh E6 x.Body+1)+((Gh E6 x.Else+1)))))))))))+1:=by
 cases x with|mk a0 a1 a2 a3 a4 a5 a6 a7 a8 a9=>simp only [E6,Ow,Ad.Op,Ad.Name,Ad.Of,Ad.E,Ad.F,Ad.Args,Ad.Dist,Ad.Flag,Ad.Body,Ad.Else]
def Lj(x:Ap):Prop:=okS x.Name∧(x.Params.length≤maxLen∧∀y∈x.Params,Pv y)∧(x.Locals.length≤maxLen∧∀y∈x.Locals,Pv y)∧(x.Body.length≤maxLen∧∀y∈x.Body,Ct y)
def Ep(x:Ap):Nat:=((x.Name.size+1)+((Gh Py x.Params+1)+((Gh Py x.Locals+1)+((Gh E6 x.Body+1)))))+1
def Adv(x:Bt):Prop:=okS x.Routine∧(x.Args.length≤maxLen∧∀y∈x.Args,okI .i64 y)∧okI .i64 x.At∧okI .i64 x.Every∧okI .i64 x.Until
def Akq(x:Bt):Nat:=((x.Routine.size+1)+((Gh (fun(z:Int)=>1) x.Args+1)+(1+(1+1))))+1
def Rh(x:Ar):Prop:=okS x.Name∧okI .i64 x.Room∧okI .i64 x.Policy
def Rj(x:Ar):Nat:=((x.Name.size+1)+(1+1))+1
def I0(x:Ag):Prop:=okS x.Name∧okI .i64 x.Type_∧okI .i64 x.N
def Gf(x:Ag):Nat:=((x.Name.size+1)+(1+1))+1
def B4(x:Aa):Prop:=okS x.Name∧(x.Vars.length≤maxLen∧∀y∈x.Vars,I0 y)∧(x.Resources.length≤maxLen∧∀y∈x.Resources,Qv y)∧(x.Stores.length≤maxLen∧∀y∈x.Stores,Rh y)∧(x.Belts.length≤maxLen∧∀y∈x.Belts,S3 y)∧(x.Queues.length≤maxLen∧∀y∈x.Queues,okS y)∧(x.Streams.length≤maxLen∧∀y∈x.Streams,okS y)∧(x.Tallies.length≤maxLen∧∀y∈x.Tallies,okS y)∧(x.Levels.length≤maxLen∧∀y∈x.Levels,okS y)∧(x.Counts.length≤maxLen∧∀y∈x.Counts,okS y)∧(x.Routines.length≤maxLen∧∀y∈x.Routines,Lj y)∧(x.Starts.length≤maxLen∧∀y∈x.Starts,Adv y)∧(x.Laws.length≤maxLen∧∀y∈x.Laws,Aei y)
def D0(x:Aa):Nat:=((x.Name.size+1)+((Gh Gf x.Vars+1)+((Gh F6 x.Resources+1)+((Gh Rj x.Stores+1)+((Gh S4 x.Belts+1)+((Gh (fun(z:ByteArray)=>(z.size+1)) x.Queues+1)+((Gh (fun(z:ByteArray)=>(z.size+1)) x.Streams+1)+((Gh (fun(z:ByteArray)=>(z.size+1)) x.Tallies+1)+((Gh (fun(z:ByteArray)=>(z.size+1)) x.Levels+1)+((Gh (fun(z:ByteArray)=>(z.size+1)) x.Counts+1)+((Gh Ep x.Routines+1)+((Gh Akq x.Starts+1)+((Gh Arw x.Laws+1))))))))))))))+1
def Kh(x:Au):Prop:=(x.Params.length≤maxLen∧∀y∈x.Params,I0 y)∧(x.Locals.length≤maxLen∧∀y∈x.Locals,Pv y)∧B4 x.Site
def Ami(x:Bj):Prop:=okS x.From∧okS x.To∧okI .i64 x.Delay
def Acd(x:Bj):Nat:=((x.From.size+1)+((x.To.size+1)+1))+1
def Z0(x:Ac):Prop:=okS x.Name∧(x.Params.length≤maxLen∧∀y∈x.Params,I0 y)∧(x.Sites.length≤maxLen∧∀y∈x.Sites,B4 y)∧(x.Links.length≤maxLen∧∀y∈x.Links,Ami y)
def Hw(x:Ac):Nat:=((x.Name.size+1)+((Gh Gf x.Params+1)+((Gh D0 x.Sites+1)+((Gh Acd x.Links+1)))))+1
def Z1(x:Ae):Prop:=okS x.Name∧okI .i64 x.N
def Ve(x:Ae):Nat:=((x.Name.size+1)+1)+1
theorem rt3:RTi Tryz.prog 3 .i64:=RT.int Tryz.underlying3
theorem rt4:RTb Tryz.prog 4:=RT.bool Tryz.underlying4
theorem rt9:RTt Tryz.prog 9:=RT.str Tryz.underlying9
theorem Can:RTi Tryz.prog 37 .i64:=RT.int Tryz.underlying37
theorem Ch3(N:Nat):RT Tryz.prog N 39 3 B5 I0 Gf:=RT.dn (RY.st Tryz.underlying39 ((rt9 N).a ((Can N).a ((rt3 N).o))) (fun(a0,a1,a2)=> .mk a0 a1 a2) (fun y=>(y.Name,y.Type_,y.N)))
theorem Ch2:RTs Tryz.prog 22 LX.t39 I0 Gf:=fun N=>RT.dn (RT.sl Tryz.underlying22 (Ch3 N))
theorem B2m(N:Nat):RT Tryz.prog N 160 2 At0 Ahl Ahr:=RT.dn (RY.st Tryz.underlying160 ((rt3 N).a ((rt3 N).o)) (fun(a0,a1)=> .mk a0 a1) (fun y=>(y.At,y.Units)))
theorem Chy:RTs Tryz.prog 106 LX.t160 Ahl Ahr:=fun N=>RT.dn (RT.sl Tryz.underlying106 (B2m N))
theorem Clo:RTi Tryz.prog 91 .i64:=RT.int Tryz.underlying91
theorem Cap:RTs Tryz.prog 92 LX.t3 (okI .i64) (fun _=>1):=fun N=>RT.dn (RT.sl Tryz.underlying92 (rt3 N))
theorem Caq(N:Nat):RT Tryz.prog N 94 6 Ar0 Ab8 Pw:=RT.dn (RY.st Tryz.underlying94 ((Clo N).a ((rt3 N).a ((rt3 N).a ((rt3 N).a ((Cap N).a ((Cap N).o)))))) (fun(a0,a1,a2,a3,a4,a5)=> .mk a0 a1 a2 a3 a4 a5) (fun y=>(y.Op,y.A,y.B,y.N,y.Values,y.Weights)))
theorem Chz(N:Nat):RT Tryz.prog N 108 13 Ayo As8 Px:=RT.dn (RY.st Tryz.underlying108 ((rt9 N).a ((Caq N).a ((Caq N).o))) (fun(a0,a1,a2)=> .mk a0 a1 a2) (fun y=>(y.Stream,y.Up,y.Down)))
theorem B2g(N:Nat):RT Tryz.prog N 110 17 Br Qv F6:=RT.dn (RY.st Tryz.underlying110 ((rt9 N).a ((rt3 N).a ((Chy N).a ((rt3 N).a ((Chz N).o))))) (fun(a0,a1,a2,a3,a4)=> .mk a0 a1 a2 a3 a4) (fun y=>(y.Name,y.Units,y.Shift,y.Cycle,y.Fault)))
theorem Cle:RTs Tryz.prog 45 LX.t110 Qv F6:=fun N=>RT.dn (RT.sl Tryz.underlying45 (B2g N))
theorem Ch0:RTi Tryz.prog 111 .i64:=RT.int Tryz.underlying111
theorem B2h(N:Nat):RT Tryz.prog N 113 3 C7 Rh Rj:=RT.dn (RY.st Tryz.underlying113 ((rt9 N).a ((rt3 N).a ((Ch0 N).o))) (fun(a0,a1,a2)=> .mk a0 a1 a2) (fun y=>(y.Name,y.Room,y.Policy)))
theorem Clf:RTs Tryz.prog 46 LX.t113 Rh Rj:=fun N=>RT.dn (RT.sl Tryz.underlying46 (B2h N))
theorem B2i(N:Nat):RT Tryz.prog N 115 3 Dd S3 S4:=RT.dn (RY.st Tryz.underlying115 ((rt9 N).a ((rt3 N).a ((rt3 N).o))) (fun(a0,a1,a2)=> .mk a0 a1 a2) (fun y=>(y.Name,y.Length,y.Step)))
theorem Clg:RTs Tryz.prog 47 LX.t115 S3 S4:=fun N=>RT.dn (RT.sl Tryz.underlying47 (B2i N))
theorem Bmp:RTs Tryz.prog 48 LX.t9 okS (fun x=>x.size+1):=fun N=>RT.dn (RT.sl Tryz.underlying48 (rt9 N))
theorem B2l(N:Nat):RT Tryz.prog N 127 2 Vg Pv Py:=RT.dn (RY.st Tryz.underlying127 ((rt9 N).a ((Can N).o)) (fun(a0,a1)=> .mk a0 a1) (fun y=>(y.Name,y.Type_)))
theorem Cao:RTs Tryz.prog 55 LX.t127 Pv Py:=fun N=>RT.dn (RT.sl Tryz.underlying55 (B2l N))
theorem Cln:RTi Tryz.prog 90 .i64:=RT.int Tryz.underlying90
theorem Cll:RTi Tryz.prog 60 .i64:=RT.int Tryz.underlying60
theorem Chw:∀N,RT Tryz.prog N 63 4 Er Cn C0
 |0=> .zero
 |N+1=>have ih:=Chw N;RY.st Tryz.underlying63 ((Cll N).a ((rt9 N).a ((rt3 N).a ((RT.sl (K:=LX.t63) Tryz.underlying61 ih).dn.o)))) (fun(a0,a1,a2,a3)=> .mk a0 a1 a2 a3) (fun y=>(y.Op,y.Name,y.N,y.Kids)) (hok:=fun y h=>by cases y;obtain ⟨h0,h1,h2,⟨h3,k3⟩⟩:=h;exact .mk _ _ _ _ h0 h1 h2 h3 k3) (hbk:=A2a)
theorem B0m(N:Nat):RT Tryz.prog N 63 4 Er Cn C0:=Chw N
theorem Clm:RTs Tryz.prog 61 LX.t63 Cn C0:=fun N=>RT.dn (RT.sl Tryz.underlying61 (B0m N))
theorem Chx:∀N,RT Tryz.prog N 96 21 D5 Ct E6
 |0=> .zero
 |N+1=>have ih:=Chx N;RY.st Tryz.underlying96 ((Cln N).a ((rt9 N).a ((rt9 N).a ((B0m N).a ((B0m N).a ((Clm N).a ((Caq N).a ((rt4 N).a ((RT.sl (K:=LX.t96) Tryz.underlying56 ih).dn.a ((RT.sl (K:=LX.t96) Tryz.underlying56 ih).dn.o)))))))))) (fun(a0,a1,a2,a3,a4,a5,a6,a7,a8,a9)=> .mk a0 a1 a2 a3 a4 a5 a6 a7 a8 a9) (fun y=>(y.Op,y.Name,y.Of,y.E,y.F,y.Args,y.Dist,y.Flag,y.Body,y.Else)) (hok:=fun y h=>by cases y;obtain ⟨h0,h1,h2,h3,h4,⟨h5,k5⟩,h6,h7,⟨h8,k8⟩,⟨h9,k9⟩⟩:=h;exact .mk _ _ _ _ _ _ _ _ _ _ h0 h1 h2 h3 h4 h5 k5 h6 h7 h8 k8 h9 k9) (hbk:=Am2)
theorem Ch8(N:Nat):RT Tryz.prog N 96 21 D5 Ct E6:=Chx N
theorem Clk:RTs Tryz.prog 56 LX.t96 Ct E6:=fun N=>RT.dn (RT.sl Tryz.underlying56 (Ch8 N))
theorem Ch6(N:Nat):RT Tryz.prog N 58 4 Cs Lj Ep:=RT.dn (RY.st Tryz.underlying58 ((rt9 N).a ((Cao N).a ((Cao N).a ((Clk N).o)))) (fun(a0,a1,a2,a3)=> .mk a0 a1 a2 a3) (fun y=>(y.Name,y.Params,y.Locals,y.Body)))
theorem Clh:RTs Tryz.prog 49 LX.t58 Lj Ep:=fun N=>RT.dn (RT.sl Tryz.underlying49 (Ch6 N))
theorem B2j(N:Nat):RT Tryz.prog N 119 5 Ag0 Adv Akq:=RT.dn (RY.st Tryz.underlying119 ((rt9 N).a ((Cap N).a ((rt3 N).a ((rt3 N).a ((rt3 N).o))))) (fun(a0,a1,a2,a3,a4)=> .mk a0 a1 a2 a3 a4) (fun y=>(y.Routine,y.Args,y.At,y.Every,y.Until)))
theorem Cli:RTs Tryz.prog 50 LX.t119 Adv Akq:=fun N=>RT.dn (RT.sl Tryz.underlying50 (B2j N))
theorem B2n(N:Nat):RT Tryz.prog N 163 3 Gz Amj Am3:=RT.dn (RY.st Tryz.underlying163 ((rt3 N).a ((rt9 N).a ((rt9 N).o))) (fun(a0,a1,a2)=> .mk a0 a1 a2) (fun y=>(y.Coef,y.What,y.Name)))
theorem Ch1:RTs Tryz.prog 122 LX.t163 Amj Am3:=fun N=>RT.dn (RT.sl Tryz.underlying122 (B2n N))
theorem B2k(N:Nat):RT Tryz.prog N 124 3 Dh Aei Arw:=RT.dn (RY.st Tryz.underlying124 ((rt9 N).a ((Ch1 N).a ((rt3 N).o))) (fun(a0,a1,a2)=> .mk a0 a1 a2) (fun y=>(y.Name,y.Terms,y.Total)))
theorem Clj:RTs Tryz.prog 51 LX.t124 Aei Arw:=fun N=>RT.dn (RT.sl Tryz.underlying51 (B2k N))
theorem Ch5(N:Nat):RT Tryz.prog N 53 13 Af B4 D0:=RT.dn (RY.st Tryz.underlying53 ((rt9 N).a ((Ch2 N).a ((Cle N).a ((Clf N).a ((Clg N).a ((Bmp N).a ((Bmp N).a ((Bmp N).a ((Bmp N).a ((Bmp N).a ((Clh N).a ((Cli N).a ((Clj N).o))))))))))))) (fun(a0,a1,a2,a3,a4,a5,a6,a7,a8,a9,a10,a11,a12)=> .mk a0 a1 a2 a3 a4 a5 a6 a7 a8 a9 a10 a11 a12) (fun y=>(y.Name,y.Vars,y.Resources,y.Stores,y.Belts,y.Queues,y.Streams,y.Tallies,y.Levels,y.Counts,y.Routines,y.Starts,y.Laws)))
theorem Cla:RTs Tryz.prog 23 LX.t53 B4 D0:=fun N=>RT.dn (RT.sl Tryz.underlying23 (Ch5 N))
theorem Ch7(N:Nat):RT Tryz.prog N 81 3 N1 Ami Acd:=RT.dn (RY.st Tryz.underlying81 ((rt9 N).a ((rt9 N).a ((rt3 N).o))) (fun(a0,a1,a2)=> .mk a0 a1 a2) (fun y=>(y.From,y.To,y.Delay)))
theorem Clb:RTs Tryz.prog 24 LX.t81 Ami Acd:=fun N=>RT.dn (RT.sl Tryz.underlying24 (Ch7 N))
theorem Clc(N:Nat):RT Tryz.prog N 26 4 Aq Z0 Hw:=RT.dn (RY.st Tryz.underlying26 ((rt9 N).a ((Ch2 N).a ((Cla N).a ((Clb N).o)))) (fun(a0,a1,a2,a3)=> .mk a0 a1 a2 a3) (fun y=>(y.Name,y.Params,y.Sites,y.Links)))
theorem Ch4(N:Nat):RT Tryz.prog N 41 2 Bw Z1 Ve:=RT.dn (RY.st Tryz.underlying41 ((rt9 N).a ((rt3 N).o)) (fun(a0,a1)=> .mk a0 a1) (fun y=>(y.Name,y.N)))
theorem Cld:RTs Tryz.prog 27 LX.t41 Z1 Ve:=fun N=>RT.dn (RT.sl Tryz.underlying27 (Ch4 N))
def rdL:List Nat:= [3,4,9,22,23,24,26,27,37,39,41,45,46,47,48,49,50,51,53,55,56,58,60,61,63,81,90,91,92,94,96,106,108,110,111,113,115,119,122,124,127,142,160,163]
theorem Ck5:A1r Tryz.prog rdL:=by
 intro e n m f he hs hf
 simp only [rdL,List.mem_cons,List.not_mem_nil,or_false] at he
 rcases he with rfl|rfl|rfl|rfl|rfl|rfl|rfl|rfl|rfl|rfl|rfl|rfl|rfl|rfl|rfl|rfl|rfl|rfl|rfl|rfl|rfl|rfl|rfl|rfl|rfl|rfl|rfl|rfl|rfl|rfl|rfl|rfl|rfl|rfl|rfl|rfl|rfl|rfl|rfl|rfl|rfl|rfl|rfl|rfl
 ·exact RT.rows (K:=LX.t3) rt3 (hf:=hf)
 ·exact RT.rows (K:=LX.t4) rt4 (hf:=hf)
 ·exact RT.rows (K:=LX.t9) rt9 (hf:=hf)
 ·exact nomatch hs
 ·exact nomatch hs
 ·exact nomatch hs
 ·exact nomatch hs
 ·exact nomatch hs
 ·exact RT.rows (K:=LX.t37) Can (hf:=hf)
 ·exact RT.rows (K:=LX.t39) Ch3 (hf:=hf)
 ·exact RT.rows (K:=LX.t41) Ch4 (hf:=hf)
 ·exact nomatch hs
 ·exact nomatch hs
 ·exact nomatch hs
 ·exact RT.rows (K:=LX.t48) Bmp (hf:=hf)
 ·exact nomatch hs
 ·exact nomatch hs
 ·exact nomatch hs
 ·exact RT.rows (K:=LX.t53) Ch5 (hf:=hf)
 ·exact RT.rows (K:=LX.t55) Cao (hf:=hf)
 ·exact nomatch hs
 ·exact RT.rows (K:=LX.t58) Ch6 (hf:=hf)
 ·exact nomatch hs
 ·exact nomatch hs
 ·exact RT.rows (K:=LX.t63) B0m (hf:=hf)
 ·exact RT.rows (K:=LX.t81) Ch7 (hf:=hf)
 ·exact nomatch hs
 ·exact nomatch hs
 ·exact nomatch hs
 ·exact nomatch hs
 ·exact RT.rows (K:=LX.t96) Ch8 (hf:=hf)
 ·exact nomatch hs
 ·exact nomatch hs
 ·exact RT.rows (K:=LX.t110) B2g (hf:=hf)
 ·exact nomatch hs
 ·exact RT.rows (K:=LX.t113) B2h (hf:=hf)
 ·exact RT.rows (K:=LX.t115) B2i (hf:=hf)
 ·exact RT.rows (K:=LX.t119) B2j (hf:=hf)
 ·exact nomatch hs
 ·exact RT.rows (K:=LX.t124) B2k (hf:=hf)
 ·exact RT.rows (K:=LX.t127) B2l (hf:=hf)
 ·exact nomatch hs
 ·exact RT.rows (K:=LX.t160) B2m (hf:=hf)
 ·exact RT.rows (K:=LX.t163) B2n (hf:=hf)
theorem Ck6:Bbf Tryz.prog rdL=true:=by kernel_rfl
end Go.Proofs.YtofcpkmnhmnfcaaGreatR.Ev
