/-  What is read, and its bulk. -/
import Derived.Test.YtofcpkmnhmnfcaaGreatRG0
import Derived.Test.YtofcpkmnhmnfcaaGreatRFz
namespace Go.Proofs.YtofcpkmnhmnfcaaGreatR.Ev
open Go An
set_option maxRecDepth 100000
set_option maxHeartbeats 4000000
set_option linter.unusedVariables false
set_option linter.unusedSimpArgs false
set_option linter.unnecessarySimpa false
inductive Bv:Ab→Prop
 |mk (a0:Int) (a1:ByteArray) (a2:Int) (a3:(List Ab)) (h0_0:okI .i64 a0) (h1_0:okS a1) (h2_0:okI .i64 a2) (h3_0:a3.length≤maxLen) (h3_1:∀y∈a3,Bv y):Bv (.mk a0 a1 a2 a3)
mutual
def C0:Ab→Nat
 | .mk a0 a1 a2 a3=>(1+((a1.size+1)+(1+((Vv a3+1)))))+1
def Vv:List Ab→Nat
 | []=>0
 |x::k=>C0 x+Vv k
end
theorem A3v(l:List Ab):Vv l=Hd C0 l:=by
 induction l with
 |nil=>rw [Vv];rfl
 |cons x k ih=>rw [Vv,ih];rfl
theorem A68(x:Ab):C0 x=(1+((x.Name.size+1)+(1+((Hd C0 x.Kids+1)))))+1:=by
 cases x with|mk a0 a1 a2 a3=>simp only [C0,A3v,Ab.Op,Ab.Name,Ab.N,Ab.Kids]
def Wg(x:Ax):Prop:=okS x.Name∧okI .i64 x.Length∧okI .i64 x.Step
def Wh(x:Ax):Nat:=((x.Name.size+1)+(1+1))+1
def An7(x:F1):Prop:=okI .i64 x.At∧okI .i64 x.Units
def Aog(x:F1):Nat:=(1+1)+1
def Ai7(x:Bn):Prop:=okI .i64 x.Op∧okI .i64 x.A∧okI .i64 x.B∧okI .i64 x.N∧(x.Values.length≤maxLen∧∀y∈x.Values,okI .i64 y)∧(x.Weights.length≤maxLen∧∀y∈x.Weights,okI .i64 y)
def Sp(x:Bn):Nat:=(1+(1+(1+(1+((Hd (fun(z:Int)=>1) x.Values+1)+((Hd (fun(z:Int)=>1) x.Weights+1)))))))+1
def Ov(x:Ap):Prop:=okS x.Name∧okI .i64 x.Type_
def Sq(x:Ap):Nat:=((x.Name.size+1)+1)+1
def Atb(x:Ay):Prop:=okI .i64 x.Coef∧okS x.What∧okS x.Name
def At8(x:Ay):Nat:=(1+((x.What.size+1)+((x.Name.size+1))))+1
def Af6(x:A9):Prop:=okS x.Name∧(x.Terms.length≤maxLen∧∀y∈x.Terms,Atb y)∧okI .i64 x.Total
def Aw4(x:A9):Nat:=((x.Name.size+1)+((Hd At8 x.Terms+1)+1))+1
def Aye(x:Ki):Prop:=okS x.Stream∧Ai7 x.Up∧Ai7 x.Down
def L3(x:Ki):Nat:=((x.Stream.size+1)+(Sp x.Up+Sp x.Down))+1
def Uc(x:Ah):Prop:=okS x.Name∧okI .i64 x.Units∧(x.Shift.length≤maxLen∧∀y∈x.Shift,An7 y)∧okI .i64 x.Cycle∧Aye x.Fault
def Gs(x:Ah):Nat:=((x.Name.size+1)+(1+((Hd Aog x.Shift+1)+(1+L3 x.Fault))))+1
inductive B2:Ad→Prop
 |mk (a0:Int) (a1:ByteArray) (a2:ByteArray) (a3:Ab) (a4:Ab) (a5:(List Ab)) (a6:Bn) (a7:Bool) (a8:(List Ad)) (a9:(List Ad)) (h0_0:okI .i64 a0) (h1_0:okS a1) (h2_0:okS a2) (h3_0:Bv a3) (h4_0:Bv a4) (h5_0:a5.length≤maxLen) (h5_1:∀y∈a5,Bv y) (h6_0:Ai7 a6) (h7_0:True) (h8_0:a8.length≤maxLen) (h8_1:∀y∈a8,B2 y) (h9_0:a9.length≤maxLen) (h9_1:∀y∈a9,B2 y):B2 (.mk a0 a1 a2 a3 a4 a5 a6 a7 a8 a9)
mutual
def Ge:Ad→Nat
 | .mk a0 a1 a2 a3 a4 a5 a6 a7 a8 a9=>(1+((a1.size+1)+((a2.size+1)+(C0 a3+(C0 a4+((Hd C0 a5+1)+(Sp a6+(1+((D3 a8+1)+((D3 a9+1)))))))))))+1
def D3:List Ad→Nat
 | []=>0
 |x::k=>Ge x+D3 k
end
theorem Rw(l:List Ad):D3 l=Hd Ge l:=by
 induction l with
 |nil=>rw [D3];rfl
 |cons x k ih=>rw [D3,ih];rfl
theorem At7(x:Ad):Ge x=(1+((x.Name.size+1)+((x.Of.size+1)+(C0 x.E+(C0 x.F+((Hd C0 x.Args+1)+(Sp x.Dist+(1+((Hd Ge x.Body+1)+((Hd Ge x.Else+1)))))))))))+1:=by
 cases x with|mk a0 a1 a2 a3 a4 a5 a6 a7 a8 a9=>simp only [Ge,Rw,Ad.Op,Ad.Name,Ad.Of,Ad.E,Ad.F,Ad.Args,Ad.Dist,Ad.Flag,Ad.Body,Ad.Else]
def Ii(x:Am):Prop:=okS x.Name∧(x.Params.length≤maxLen∧∀y∈x.Params,Ov y)∧(x.Locals.length≤maxLen∧∀y∈x.Locals,Ov y)∧(x.Body.length≤maxLen∧∀y∈x.Body,B2 y)
def Dw(x:Am):Nat:=((x.Name.size+1)+((Hd Sq x.Params+1)+((Hd Sq x.Locals+1)+((Hd Ge x.Body+1)))))+1
def Ak3(x:Br):Prop:=okS x.Routine∧(x.Args.length≤maxLen∧∀y∈x.Args,okI .i64 y)∧okI .i64 x.At∧okI .i64 x.Every∧okI .i64 x.Until
def Arh(x:Br):Nat:=((x.Routine.size+1)+((Hd (fun(z:Int)=>1) x.Args+1)+(1+(1+1))))+1
def Uo(x:Ar):Prop:=okS x.Name∧okI .i64 x.Room∧okI .i64 x.Policy
def Us(x:Ar):Nat:=((x.Name.size+1)+(1+1))+1
def Jp(x:Ag):Prop:=okS x.Name∧okI .i64 x.Type_∧okI .i64 x.N
def Ha(x:Ag):Nat:=((x.Name.size+1)+(1+1))+1
def B6(x:Aa):Prop:=okS x.Name∧(x.Vars.length≤maxLen∧∀y∈x.Vars,Jp y)∧(x.Resources.length≤maxLen∧∀y∈x.Resources,Uc y)∧(x.Stores.length≤maxLen∧∀y∈x.Stores,Uo y)∧(x.Belts.length≤maxLen∧∀y∈x.Belts,Wg y)∧(x.Queues.length≤maxLen∧∀y∈x.Queues,okS y)∧(x.Streams.length≤maxLen∧∀y∈x.Streams,okS y)∧(x.Tallies.length≤maxLen∧∀y∈x.Tallies,okS y)∧(x.Levels.length≤maxLen∧∀y∈x.Levels,okS y)∧(x.Counts.length≤maxLen∧∀y∈x.Counts,okS y)∧(x.Routines.length≤maxLen∧∀y∈x.Routines,Ii y)∧(x.Starts.length≤maxLen∧∀y∈x.Starts,Ak3 y)∧(x.Laws.length≤maxLen∧∀y∈x.Laws,Af6 y)
def Ec(x:Aa):Nat:=((x.Name.size+1)+((Hd Ha x.Vars+1)+((Hd Gs x.Resources+1)+((Hd Us x.Stores+1)+((Hd Wh x.Belts+1)+((Hd (fun(z:ByteArray)=>(z.size+1)) x.Queues+1)+((Hd (fun(z:ByteArray)=>(z.size+1)) x.Streams+1)+((Hd (fun(z:ByteArray)=>(z.size+1)) x.Tallies+1)+((Hd (fun(z:ByteArray)=>(z.size+1)) x.Levels+1)+((Hd (fun(z:ByteArray)=>(z.size+1)) x.Counts+1)+((Hd Dw x.Routines+1)+((Hd Arh x.Starts+1)+((Hd Aw4 x.Laws+1))))))))))))))+1
def Ei(x:Aq):Prop:=(x.Params.length≤maxLen∧∀y∈x.Params,Jp y)∧(x.Locals.length≤maxLen∧∀y∈x.Locals,Ov y)∧B6 x.Site
def Ata(x:Bk):Prop:=okS x.From∧okS x.To∧okI .i64 x.Delay
def Ajb(x:Bk):Nat:=((x.From.size+1)+((x.To.size+1)+1))+1
def f5(x:Ac):Prop:=okS x.Name∧(x.Params.length≤maxLen∧∀y∈x.Params,Jp y)∧(x.Sites.length≤maxLen∧∀y∈x.Sites,B6 y)∧(x.Links.length≤maxLen∧∀y∈x.Links,Ata y)
def Hr(x:Ac):Nat:=((x.Name.size+1)+((Hd Ha x.Params+1)+((Hd Ec x.Sites+1)+((Hd Ajb x.Links+1)))))+1
def Y2(x:Ae):Prop:=okS x.Name∧okI .i64 x.N
def Y4(x:Ae):Nat:=((x.Name.size+1)+1)+1
theorem rt3:RTi Tryz.prog 3 .i64:=RT.int Tryz.underlying3
theorem rt4:RTb Tryz.prog 4:=RT.bool Tryz.underlying4
theorem rt9:RTt Tryz.prog 9:=RT.str Tryz.underlying9
theorem Cgy:RTi Tryz.prog 37 .i64:=RT.int Tryz.underlying37
theorem Coe(N:Nat):RT Tryz.prog N 39 3 B9 Jp Ha:=RT.dn (RY.st Tryz.underlying39 ((rt9 N).a ((Cgy N).a ((rt3 N).o))) (fun(a0,a1,a2)=> .mk a0 a1 a2) (fun y=>(y.Name,y.Type_,y.N)))
theorem Cod:RTs Tryz.prog 22 LX.t39 Jp Ha:=fun N=>RT.dn (RT.sl Tryz.underlying22 (Coe N))
theorem B8j(N:Nat):RT Tryz.prog N 160 2 Ay0 An7 Aog:=RT.dn (RY.st Tryz.underlying160 ((rt3 N).a ((rt3 N).o)) (fun(a0,a1)=> .mk a0 a1) (fun y=>(y.At,y.Units)))
theorem Cn9:RTs Tryz.prog 106 LX.t160 An7 Aog:=fun N=>RT.dn (RT.sl Tryz.underlying106 (B8j N))
theorem Crq:RTi Tryz.prog 91 .i64:=RT.int Tryz.underlying91
theorem Cg0:RTs Tryz.prog 92 LX.t3 (okI .i64) (fun _=>1):=fun N=>RT.dn (RT.sl Tryz.underlying92 (rt3 N))
theorem Cg1(N:Nat):RT Tryz.prog N 94 6 Aw9 Ai7 Sp:=RT.dn (RY.st Tryz.underlying94 ((Crq N).a ((rt3 N).a ((rt3 N).a ((rt3 N).a ((Cg0 N).a ((Cg0 N).o)))))) (fun(a0,a1,a2,a3,a4,a5)=> .mk a0 a1 a2 a3 a4 a5) (fun y=>(y.Op,y.A,y.B,y.N,y.Values,y.Weights)))
theorem Coa(N:Nat):RT Tryz.prog N 108 13 A3a Aye L3:=RT.dn (RY.st Tryz.underlying108 ((rt9 N).a ((Cg1 N).a ((Cg1 N).o))) (fun(a0,a1,a2)=> .mk a0 a1 a2) (fun y=>(y.Stream,y.Up,y.Down)))
theorem B8d(N:Nat):RT Tryz.prog N 110 17 Bx Uc Gs:=RT.dn (RY.st Tryz.underlying110 ((rt9 N).a ((rt3 N).a ((Cn9 N).a ((rt3 N).a ((Coa N).o))))) (fun(a0,a1,a2,a3,a4)=> .mk a0 a1 a2 a3 a4) (fun y=>(y.Name,y.Units,y.Shift,y.Cycle,y.Fault)))
theorem Crg:RTs Tryz.prog 45 LX.t110 Uc Gs:=fun N=>RT.dn (RT.sl Tryz.underlying45 (B8d N))
theorem Cob:RTi Tryz.prog 111 .i64:=RT.int Tryz.underlying111
theorem B8e(N:Nat):RT Tryz.prog N 113 3 Da Uo Us:=RT.dn (RY.st Tryz.underlying113 ((rt9 N).a ((rt3 N).a ((Cob N).o))) (fun(a0,a1,a2)=> .mk a0 a1 a2) (fun y=>(y.Name,y.Room,y.Policy)))
theorem Crh:RTs Tryz.prog 46 LX.t113 Uo Us:=fun N=>RT.dn (RT.sl Tryz.underlying46 (B8e N))
theorem B8f(N:Nat):RT Tryz.prog N 115 3 Dh Wg Wh:=RT.dn (RY.st Tryz.underlying115 ((rt9 N).a ((rt3 N).a ((rt3 N).o))) (fun(a0,a1,a2)=> .mk a0 a1 a2) (fun y=>(y.Name,y.Length,y.Step)))
theorem Cri:RTs Tryz.prog 47 LX.t115 Wg Wh:=fun N=>RT.dn (RT.sl Tryz.underlying47 (B8f N))
theorem Bta:RTs Tryz.prog 48 LX.t9 okS (fun x=>x.size+1):=fun N=>RT.dn (RT.sl Tryz.underlying48 (rt9 N))
theorem B8i(N:Nat):RT Tryz.prog N 127 2 Y6 Ov Sq:=RT.dn (RY.st Tryz.underlying127 ((rt9 N).a ((Cgy N).o)) (fun(a0,a1)=> .mk a0 a1) (fun y=>(y.Name,y.Type_)))
theorem Cgz:RTs Tryz.prog 55 LX.t127 Ov Sq:=fun N=>RT.dn (RT.sl Tryz.underlying55 (B8i N))
theorem Crp:RTi Tryz.prog 90 .i64:=RT.int Tryz.underlying90
theorem Crn:RTi Tryz.prog 60 .i64:=RT.int Tryz.underlying60
theorem Cn6:∀N,RT Tryz.prog N 63 4 F3 Bv C0
 |0=> .zero
 |N+1=>have ih:=Cn6 N;RY.st Tryz.underlying63 ((Crn N).a ((rt9 N).a ((rt3 N).a ((RT.sl (K:=LX.t63) Tryz.underlying61 ih).dn.o)))) (fun(a0,a1,a2,a3)=> .mk a0 a1 a2 a3) (fun y=>(y.Op,y.Name,y.N,y.Kids)) (hok:=fun y h=>by cases y;obtain ⟨h0,h1,h2,⟨h3,k3⟩⟩:=h;exact .mk _ _ _ _ h0 h1 h2 h3 k3) (hbk:=A68)
theorem B6v(N:Nat):RT Tryz.prog N 63 4 F3 Bv C0:=Cn6 N
theorem Cro:RTs Tryz.prog 61 LX.t63 Bv C0:=fun N=>RT.dn (RT.sl Tryz.underlying61 (B6v N))
theorem Cn7:∀N,RT Tryz.prog N 96 21 Ej B2 Ge
 |0=> .zero
 |N+1=>have ih:=Cn7 N;RY.st Tryz.underlying96 ((Crp N).a ((rt9 N).a ((rt9 N).a ((B6v N).a ((B6v N).a ((Cro N).a ((Cg1 N).a ((rt4 N).a ((RT.sl (K:=LX.t96) Tryz.underlying56 ih).dn.a ((RT.sl (K:=LX.t96) Tryz.underlying56 ih).dn.o)))))))))) (fun(a0,a1,a2,a3,a4,a5,a6,a7,a8,a9)=> .mk a0 a1 a2 a3 a4 a5 a6 a7 a8 a9) (fun y=>(y.Op,y.Name,y.Of,y.E,y.F,y.Args,y.Dist,y.Flag,y.Body,y.Else)) (hok:=fun y h=>by cases y;obtain ⟨h0,h1,h2,h3,h4,⟨h5,k5⟩,h6,h7,⟨h8,k8⟩,⟨h9,k9⟩⟩:=h;exact .mk _ _ _ _ _ _ _ _ _ _ h0 h1 h2 h3 h4 h5 k5 h6 h7 h8 k8 h9 k9) (hbk:=At7)
theorem Coj(N:Nat):RT Tryz.prog N 96 21 Ej B2 Ge:=Cn7 N
theorem Crm:RTs Tryz.prog 56 LX.t96 B2 Ge:=fun N=>RT.dn (RT.sl Tryz.underlying56 (Coj N))
theorem Coh(N:Nat):RT Tryz.prog N 58 4 Cv Ii Dw:=RT.dn (RY.st Tryz.underlying58 ((rt9 N).a ((Cgz N).a ((Cgz N).a ((Crm N).o)))) (fun(a0,a1,a2,a3)=> .mk a0 a1 a2 a3) (fun y=>(y.Name,y.Params,y.Locals,y.Body)))
theorem Crj:RTs Tryz.prog 49 LX.t58 Ii Dw:=fun N=>RT.dn (RT.sl Tryz.underlying49 (Coh N))
theorem B8g(N:Nat):RT Tryz.prog N 119 5 Anm Ak3 Arh:=RT.dn (RY.st Tryz.underlying119 ((rt9 N).a ((Cg0 N).a ((rt3 N).a ((rt3 N).a ((rt3 N).o))))) (fun(a0,a1,a2,a3,a4)=> .mk a0 a1 a2 a3 a4) (fun y=>(y.Routine,y.Args,y.At,y.Every,y.Until)))
theorem Crk:RTs Tryz.prog 50 LX.t119 Ak3 Arh:=fun N=>RT.dn (RT.sl Tryz.underlying50 (B8g N))
theorem B8k(N:Nat):RT Tryz.prog N 163 3 H0 Atb At8:=RT.dn (RY.st Tryz.underlying163 ((rt3 N).a ((rt9 N).a ((rt9 N).o))) (fun(a0,a1,a2)=> .mk a0 a1 a2) (fun y=>(y.Coef,y.What,y.Name)))
theorem Coc:RTs Tryz.prog 122 LX.t163 Atb At8:=fun N=>RT.dn (RT.sl Tryz.underlying122 (B8k N))
theorem B8h(N:Nat):RT Tryz.prog N 124 3 Dr Af6 Aw4:=RT.dn (RY.st Tryz.underlying124 ((rt9 N).a ((Coc N).a ((rt3 N).o))) (fun(a0,a1,a2)=> .mk a0 a1 a2) (fun y=>(y.Name,y.Terms,y.Total)))
theorem Crl:RTs Tryz.prog 51 LX.t124 Af6 Aw4:=fun N=>RT.dn (RT.sl Tryz.underlying51 (B8h N))
theorem Cog(N:Nat):RT Tryz.prog N 53 13 Af B6 Ec:=RT.dn (RY.st Tryz.underlying53 ((rt9 N).a ((Cod N).a ((Crg N).a ((Crh N).a ((Cri N).a ((Bta N).a ((Bta N).a ((Bta N).a ((Bta N).a ((Bta N).a ((Crj N).a ((Crk N).a ((Crl N).o))))))))))))) (fun(a0,a1,a2,a3,a4,a5,a6,a7,a8,a9,a10,a11,a12)=> .mk a0 a1 a2 a3 a4 a5 a6 a7 a8 a9 a10 a11 a12) (fun y=>(y.Name,y.Vars,y.Resources,y.Stores,y.Belts,y.Queues,y.Streams,y.Tallies,y.Levels,y.Counts,y.Routines,y.Starts,y.Laws)))
theorem Crc:RTs Tryz.prog 23 LX.t53 B6 Ec:=fun N=>RT.dn (RT.sl Tryz.underlying23 (Cog N))
theorem Coi(N:Nat):RT Tryz.prog N 81 3 P7 Ata Ajb:=RT.dn (RY.st Tryz.underlying81 ((rt9 N).a ((rt9 N).a ((rt3 N).o))) (fun(a0,a1,a2)=> .mk a0 a1 a2) (fun y=>(y.From,y.To,y.Delay)))
theorem Crd:RTs Tryz.prog 24 LX.t81 Ata Ajb:=fun N=>RT.dn (RT.sl Tryz.underlying24 (Coi N))
theorem Cre(N:Nat):RT Tryz.prog N 26 4 Au f5 Hr:=RT.dn (RY.st Tryz.underlying26 ((rt9 N).a ((Cod N).a ((Crc N).a ((Crd N).o)))) (fun(a0,a1,a2,a3)=> .mk a0 a1 a2 a3) (fun y=>(y.Name,y.Params,y.Sites,y.Links)))
theorem Cof(N:Nat):RT Tryz.prog N 41 2 B3 Y2 Y4:=RT.dn (RY.st Tryz.underlying41 ((rt9 N).a ((rt3 N).o)) (fun(a0,a1)=> .mk a0 a1) (fun y=>(y.Name,y.N)))
theorem Crf:RTs Tryz.prog 27 LX.t41 Y2 Y4:=fun N=>RT.dn (RT.sl Tryz.underlying27 (Cof N))
def rdL:List Nat:= [3,4,9,22,23,24,26,27,37,39,41,45,46,47,48,49,50,51,53,55,56,58,60,61,63,81,90,91,92,94,96,106,108,110,111,113,115,119,122,124,127,142,160,163]
theorem Cq7:A6m Tryz.prog rdL:=by
 intro e n m f he hs hf
 simp only [rdL,List.mem_cons,List.not_mem_nil,or_false] at he
 rcases he with rfl|rfl|rfl|rfl|rfl|rfl|rfl|rfl|rfl|rfl|rfl|rfl|rfl|rfl|rfl|rfl|rfl|rfl|rfl|rfl|rfl|rfl|rfl|rfl|rfl|rfl|rfl|rfl|rfl|rfl|rfl|rfl|rfl|rfl|rfl|rfl|rfl|rfl|rfl|rfl|rfl|rfl|rfl|rfl
 ·exact RT.rows (K:=LX.t3) rt3 (hf:=hf)
 ·exact RT.rows (K:=LX.t4) rt4 (hf:=hf)
 ·exact RT.rows (K:=LX.t9) rt9 (hf:=hf)
 ·exact nomatch hs
 ·exact nomatch hs
 ·exact nomatch hs
 ·exact nomatch hs
 ·exact nomatch hs
 ·exact RT.rows (K:=LX.t37) Cgy (hf:=hf)
 ·exact RT.rows (K:=LX.t39) Coe (hf:=hf)
 ·exact RT.rows (K:=LX.t41) Cof (hf:=hf)
 ·exact nomatch hs
 ·exact nomatch hs
 ·exact nomatch hs
 ·exact RT.rows (K:=LX.t48) Bta (hf:=hf)
 ·exact nomatch hs
 ·exact nomatch hs
 ·exact nomatch hs
 ·exact RT.rows (K:=LX.t53) Cog (hf:=hf)
 ·exact RT.rows (K:=LX.t55) Cgz (hf:=hf)
 ·exact nomatch hs
 ·exact RT.rows (K:=LX.t58) Coh (hf:=hf)
 ·exact nomatch hs
 ·exact nomatch hs
 ·exact RT.rows (K:=LX.t63) B6v (hf:=hf)
 ·exact RT.rows (K:=LX.t81) Coi (hf:=hf)
 ·exact nomatch hs
 ·exact nomatch hs
 ·exact nomatch hs
 ·exact nomatch hs
 ·exact RT.rows (K:=LX.t96) Coj (hf:=hf)
 ·exact nomatch hs
 ·exact nomatch hs
 ·exact RT.rows (K:=LX.t110) B8d (hf:=hf)
 ·exact nomatch hs
 ·exact RT.rows (K:=LX.t113) B8e (hf:=hf)
 ·exact RT.rows (K:=LX.t115) B8f (hf:=hf)
 ·exact RT.rows (K:=LX.t119) B8g (hf:=hf)
 ·exact nomatch hs
 ·exact RT.rows (K:=LX.t124) B8h (hf:=hf)
 ·exact RT.rows (K:=LX.t127) B8i (hf:=hf)
 ·exact nomatch hs
 ·exact RT.rows (K:=LX.t160) B8j (hf:=hf)
 ·exact RT.rows (K:=LX.t163) B8k (hf:=hf)
theorem Cq8:Bhk Tryz.prog rdL=true:=by kernel_rfl
end Go.Proofs.YtofcpkmnhmnfcaaGreatR.Ev
