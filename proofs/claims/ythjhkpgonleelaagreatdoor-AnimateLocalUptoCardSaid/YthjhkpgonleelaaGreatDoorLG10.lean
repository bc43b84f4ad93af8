import Derived.Test.YthjhkpgonleelaaGreatDoorLG8
import Derived.Test.YthjhkpgonleelaaGreatDoorLG9
set_option maxRecDepth 100000
set_option maxHeartbeats 4000000
set_option linter.unusedVariables false
set_option linter.unusedSimpArgs false
set_option linter.unnecessarySimpa false
namespace Go.Proofs.YthjhkpgonleelaaGreatDoor.Ev
open Go An
noncomputable section
variable {A:Type} (L n:Nat) (kk:K5) (K:Ef) (k:Dj)
def c31:=CC Tryz.f31
def O31:Bc:=oL [X30 L,X47 L,X48 L,X49 L,X50 L,X51 L,X52 L]
def B27(a0:Ai)(v:A53):St:=⟨[(0,.any),zq7,(2,I v.1),(3,I v.2.1),(4,.bA true (.t9 v.2.2.1)),(5,I v.2.2.2),(6,.any),(7,.any)],[(1,(Bt a0))],0⟩
def Z6 [An A (Nat×A53)](a0:Ai)(rec:Int->Int->List Yb->Int->A)(Ah:Int)(Ag:Int)(Ak:List Yb)(Af:Int):A:=
 (lw Af a0.aI
 (bd (Aeb L (gD a0.aI Af) Ak) λr4=>
 (cn (r4 != 0)
 (lf (0,r4,r4,Ak,Af))
 (gi Af a0.aI
 (gq ((Ak.length+ [(gD a0.aI Af).aF].length)*16<=140737488355328)
 (gq (Ak.length+ [(gD a0.aI Af).aF].length<=maxLen)
 (rec Ah r4 (Ak++ [(gD a0.aI Af).aF]) (Bu (Af+1))))))))
 (lf (1,Ah,Ag,Ak,Af)))
def Mm(L:Nat)(a0:Ai):Nat->Int->Int->List Yb->Int->Option (Nat×A53)
 |0,_,_,_,_=>none
 |n+1,Ah,Ag,Ak,Af=>Z6 L a0 (Mm L a0 n) Ah Ag Ak Af
theorem B07(a0:Ai):LP (EV (O31 L) L 9 c31.x.l.u.l.l) [0,1,2,3,4,5,6,7] [1] (B27 a0) [.ret,.exit 0] (λn v=>Mm L a0 n v.1 v.2.1 v.2.2.1 v.2.2.2) K:=lE (λ_=>rfl) λn v ih=>eE (Z6 L a0 (λAh Ag Ak Af=>re (ih (Ah,Ag,Ak,Af))) v.1 v.2.1 v.2.2.1 v.2.2.2)
def B28(a0:Ai)(v:A53):St:=⟨[(0,.any),zq7,(2,I v.1),(3,I v.2.1),(4,.any),(5,.any),(6,.bA true (.t9 v.2.2.1)),(7,I v.2.2.2)],[(1,(Bt a0))],0⟩
def Z7 [An A (Nat×A53)](a0:Ai)(rec:Int->Int->List Yb->Int->A)(Bz:Int)(Gf:Int)(Rk:List Yb)(Bp:Int):A:=
 (lw Bp a0.aA
 (bd (Lk L ((gD a0.aA Bp).aF) Rk) λr9=>
 (gi Bp a0.aA
 (bd (Ag8 L (gD a0.aA Bp)) λr10=>
 (bd (Cw L r9 r10) λr11=>
 (cn (r11 != 0)
 (lf (0,r11,r11,Rk,Bp))
 (gi Bp a0.aA
 (gq ((Rk.length+ [(gD a0.aA Bp).aF].length)*16<=140737488355328)
 (gq (Rk.length+ [(gD a0.aA Bp).aF].length<=maxLen)
 (rec Bz r11 (Rk++ [(gD a0.aA Bp).aF]) (Bu (Bp+1)))))))))))
 (lf (1,Bz,Gf,Rk,Bp)))
def Mn(L:Nat)(a0:Ai):Nat->Int->Int->List Yb->Int->Option (Nat×A53)
 |0,_,_,_,_=>none
 |n+1,Bz,Gf,Rk,Bp=>Z7 L a0 (Mn L a0 n) Bz Gf Rk Bp
theorem B08(a0:Ai):LP (EV (O31 L) L 9 c31.x.x.l.u.l.l) [0,1,2,3,4,5,6,7] [1] (B28 a0) [.ret,.exit 2] (λn v=>Mn L a0 n v.1 v.2.1 v.2.2.1 v.2.2.2) K:=lE (λ_=>rfl) λn v ih=>eE (Z7 L a0 (λBz Gf Rk Bp=>re (ih (Bz,Gf,Rk,Bp))) v.1 v.2.1 v.2.2.1 v.2.2.2)
def w3 [An A Int](a0:Ai)(o12:Nat×A53):A:=
 (sl o12.1 [(lf o12.2.1),
 (bd (Aix L a0) λr13=>
 (lf r13))])
def Aas [An A Int](a0:Ai)(o5:Nat×A53)(nx2:(Nat×A53)->Int->A):A:=
 (sl o5.1 [(lf o5.2.1),
 (bd (Cj L (decide ((a0.aA.length:Int)>0)) 7) λr6=>
 (bd (Cj L (decide ((a0.aA.length:Int)<=16)) 6) λr7=>
 (bd (Cw L r6 r7) λr8=>
 (cn (r8 != 0)
 (lf r8)
 (nx2 o5 r8)))))])
def Ah9 [An A Int](a0:Ai)(o5:Nat×A53):A:=Aas L a0 o5 (λo5 r8=>bd (Mn L a0 L o5.2.1 r8 [] 0) λo12=>w3 L a0 o12)
def Aar [An A Int](a0:Ai)(nx1:Int->A):A:=
 (bd (Jk L a0.aF) λr1=>
 (bd (Cj L (decide ((a0.aI.length:Int)<=32)) 6) λr2=>
 (bd (Cw L r1 r2) λr3=>
 (cn (r3 != 0)
 (lf r3)
 (nx1 r3)))))
def Azq [An A Int](a0:Ai):A:=Aar L a0 (λr3=>bd (Mm L a0 L 0 r3 [] 0) λo5=>Ah9 L a0 o5)
def Yz(a0:Ai):Option Int:=Azq L a0
def X31:F3:=E1 I 31 Ve (Yz L) λa0 r h=>hF Tryz.func31 (C:=O31 L) (oS _) L (λkk=>eE (Aar L a0 (λr3=>hq (B07 L (KA (O31 L) L 9 c31 (rl [8,1,2,1]) (KE Tryz.f31 kk)) a0 L (0,r3,[],0)) λo5=>Aas L a0 o5 (λo5 r8=>hq (B08 L (KA (O31 L) L 9 c31 (rl [16,1,2,1]) (KE Tryz.f31 kk)) a0 L (o5.2.1,r8,[],0)) λo12=>w3 L a0 o12)))) h
def c32:=CC Tryz.f32
def O32(L:Nat):Bc:=oL []
def B29(a0:Az)(v:Tu5):St:=⟨[(0,.any),zq7,(2,B v.1),(3,I v.2)],[(1,(Me a0))],0⟩
def Adm [An A (Nat×Tu5)](L:Nat)(a0:Az)(rec:Bool->Int->A)(Ah:Bool)(Ag:Int):A:=
 (cn (decide (Ag<(a0.aD.length:Int)))
 (gi Ag a0.aK.aD
 (cn (decide (((gD a0.aK.aD Ag).bD.length:Int)>0))
 (lf (0,false,Ag))
 (gi Ag a0.aD
 (cn (!((gD a0.aK.aD Ag).aF.toList == (gD a0.aD Ag).aF.toList))
 (lf (0,false,Ag))
 (gi Ag a0.aD
 (cn (((gD a0.aK.aD Ag).aI.length:Int) != (gD a0.aD Ag).aI)
 (lf (0,false,Ag))
 (rec Ah (Bu (Ag+1)))))))))
 (lf (1,Ah,Ag)))
def Pz(L:Nat)(a0:Az):Nat->Bool->Int->Option (Nat×Tu5)
 |0,_,_=>none
 |n+1,Ah,Ag=>Adm L a0 (Pz L a0 n) Ah Ag
theorem B09(a0:Az):LP (EV (O32 L) L 9 c32.w.l.u.l.l) [0,1,2,3] [1] (B29 a0) [.ret,.exit 0] (λn v=>Pz L a0 n v.1 v.2) K:=lE (λ_=>rfl) λn v ih=>eE (Adm L a0 (λAh Ag=>re (ih (Ah,Ag))) v.1 v.2)
def Akx [An A Bool](L:Nat)(o1:Nat×Tu5):A:=
 (sl o1.1 [(lf o1.2.1),
 (lf true)])
def Alb [An A Bool](L:Nat)(a0:Az)(nx1:A):A:=
 (cn ((a0.aD.length:Int) != (a0.aK.aD.length:Int))
 (lf false)
 nx1)
def A21 [An A Bool](a0:Az):A:=Alb L a0 (bd (Pz L a0 L false 0) λo1=>Akx L o1)
def Abg(a0:Az):Option Bool:=A21 L a0
def X32:F3:=E1 B 32 Ao4 (Abg L) λa0 r h=>hF Tryz.func32 (C:=O32 L) (oS _) L (λkk=>eE (Alb L a0 (hq (B09 L (KA (O32 L) L 9 c32 (rl [4,1,2,1]) (KE Tryz.f32 kk)) a0 L (false,0)) λo1=>Akx L o1))) h
def c33:=CC Tryz.f33
def O33(L:Nat):Bc:=oL []
def B3b(a0:Ac)(Ak:Int)(v:Jc):St:=⟨[(0,.any),zq7,(2,I v.1),(3,I (a0.aA.length:Int)),(4,I Ak),Bhj,(6,I v.2)],[(1,(Cm a0)),(5,(Axf (gD a0.aH Ak)))],0⟩
def Adl [An A C3](L:Nat)(a0:Ac)(Ak:Int)(rec:Int->Int->A)(Bz:Int)(Bp:Int):A:=
 (cn (decide (Bp<Ak))
 (gi Bp a0.aH
 (cn ((gD a0.aH Bp).aV == (gD a0.aH Ak).aV)
 (gi Bp a0.aH
 (cn ((gD a0.aH Bp).To == (gD a0.aH Ak).To)
 (lf (0,4,Bp))
 (rec Bz (Bu (Bp+1)))))
 (rec Bz (Bu (Bp+1)))))
 (lf (1,Bz,Bp)))
def Lu(L:Nat)(a0:Ac)(Ak:Int):Nat->Int->Int->Option C3
 |0,_,_=>none
 |n+1,Bz,Bp=>Adl L a0 Ak (Lu L a0 Ak n) Bz Bp
theorem B1b(a0:Ac)(Ak:Int):LP (EV (O33 L) L 9 c33.w.u.l.u.l.l.u.l.l.w.u.l.l) [0,1,2,3,4,5,6] [1,5] (B3b a0 Ak) [.ret,.exit 2] (λn v=>Lu L a0 Ak n v.1 v.2) K:=lE (λ_=>rfl) λn v ih=>eE (Adl L a0 Ak (λBz Bp=>re (ih (Bz,Bp))) v.1 v.2)
def B3a(a0:Ac)(v:Jc):St:=⟨[(0,.any),zq7,(2,I v.1),(3,I (a0.aA.length:Int)),(4,I v.2)],[(1,(Cm a0))],0⟩
def Adz [An A C3](L:Nat)(Ak:Int)(rec:Int->Int->A)(o7:Nat×Jc):A:=
 (sl o7.1 [(lf (0,o7.2.1,Ak)),
 (rec o7.2.1 (Bu (Ak+1)))])
def Ad8 [An A C3](L:Nat)(a0:Ac)(rec:Int->Int->A)(Ah:Int)(Ak:Int)(nx1:Int->Int->A):A:=
 (lw Ak a0.aH
 (jp (.cn (decide ((gD a0.aH Ak).aV<0))
 (.lf true)
 (.lf (decide ((gD a0.aH Ak).aV>=(a0.aA.length:Int))))) (λb1=>
 (jp (.cn b1
 (.lf true)
 (.lf (decide ((gD a0.aH Ak).To<0)))) (λb2=>
 (jp (.cn b2
 (.lf true)
 (.lf (decide ((gD a0.aH Ak).To>=(a0.aA.length:Int))))) (λb3=>
 (jp (.cn b3
 (.lf true)
 (.lf ((gD a0.aH Ak).aV == (gD a0.aH Ak).To))) (λb4=>
 (jp (.cn b4
 (.lf true)
 (.lf (decide ((gD a0.aH Ak).bR<1)))) (λb5=>
 (jp (.cn b5
 (.lf true)
 (.lf (decide ((gD a0.aH Ak).bR>1000000000)))) (λb6=>
 (cn b6
 (lf (0,2,Ak))
 (nx1 Ak Ah))))))))))))))
 (lf (1,Ah,Ak)))
def Akn [An A C3](a0:Ac)(rec:Int->Int->A)(Ah:Int)(Ak:Int):A:=Ad8 L a0 rec Ah Ak (λAk Ah=>bd (Lu L a0 Ak L Ah 0) λo7=>Adz L Ak rec o7)
def Py(L:Nat)(a0:Ac):Nat->Int->Int->Option C3
 |0,_,_=>none
 |n+1,Ah,Ak=>Akn L a0 (Py L a0 n) Ah Ak
theorem B1a(a0:Ac):LP (EV (O33 L) L 9 c33.w.u.l.u.l.l) [0,1,2,3,4] [1] (B3a a0) [.ret,.exit 0] (λn v=>Py L a0 n v.1 v.2) K:=lE (λ_=>rfl) λn v ih=>eE (Ad8 L a0 (λAh Ak=>re (ih (Ah,Ak))) v.1 v.2 (λAk Ah=>hq (B1b L (KA (O33 L) L 9 c33.w.u.l.u.l.l (rl [2,2,6,1]) (Hf (Io (EV (O33 L) L 9 c33.w.u.l.u.l.l) [0,1,2,3,4] [1] n) [0,1,2,3,4] [1] K)) a0 Ak L (Ah,0)) λo7=>Adz L Ak (λAh Ak=>re (ih (Ah,Ak))) o7))
def Ad0 [An A Int](L:Nat)(o8:Nat×Jc):A:=
 (sl o8.1 [(lf o8.2.1),
 (lf 0)])
def Ad9 [An A Int](L:Nat)(a0:Ac)(nx2:A):A:=
 (cn (decide ((a0.aH.length:Int)>32))
 (lf 6)
 nx2)
def A20 [An A Int](a0:Ac):A:=Ad9 L a0 (bd (Py L a0 L 0 0) λo8=>Ad0 L o8)
def Aha(a0:Ac):Option Int:=A20 L a0
def X33:F3:=E1 I 33 B7 (Aha L) λa0 r h=>hF Tryz.func33 (C:=O33 L) (oS _) L (λkk=>eE (Ad9 L a0 (hq (B1a L (KA (O33 L) L 9 c33 (rl [6,1,2,1]) (KE Tryz.f33 kk)) a0 L (0,0)) λo8=>Ad0 L o8))) h
def Aqn [An A Bool](L:Nat)(a0:Int):A:=
 (jp (.cn (decide (a0>=1))
 (.lf (decide (a0<=19)))
 (.lf false)) (λb1=>
 (lf b1)))
def Aee(a0:Int):Option Bool:=Aqn L a0
def X79:F3:=E1 B 79 (cI .i64) (Aee L) λa0 r h=>hF Tryz.func79 (oS []) L (λkk=>eE (Aqn L a0)) h
def Azv [An A (List Cq)](L:Nat):A:=
 (lf [(⟨(⟨#[]⟩:Yb),(⟨#[]⟩:Yb),(⟨#[]⟩:Yb),false,false,false,false,false,false⟩:Cq),(⟨(⟨#[115,108,111,116]⟩:Yb),(⟨#[115,108,111,116]⟩:Yb),(⟨#[]⟩:Yb),false,true,false,false,false,false⟩:Cq),(⟨(⟨#[118,97,114]⟩:Yb),(⟨#[118,97,114]⟩:Yb),(⟨#[]⟩:Yb),false,true,false,false,false,false⟩:Cq),(⟨(⟨#[100,114,97,119]⟩:Yb),(⟨#[115,108,111,116]⟩:Yb),(⟨#[115,116,114,101,97,109]⟩:Yb),false,false,false,false,false,true⟩:Cq),(⟨(⟨#[106,117,109,112]⟩:Yb),(⟨#[105,110,115,116,114]⟩:Yb),(⟨#[]⟩:Yb),false,false,false,false,false,false⟩:Cq),(⟨(⟨#[98,114,97,110,99,104]⟩:Yb),(⟨#[105,110,115,116,114]⟩:Yb),(⟨#[]⟩:Yb),false,true,false,false,false,false⟩:Cq),(⟨(⟨#[104,111,108,100]⟩:Yb),(⟨#[]⟩:Yb),(⟨#[]⟩:Yb),false,true,false,false,false,false⟩:Cq),(⟨(⟨#[115,101,105,122,101]⟩:Yb),(⟨#[114,101,115,111,117,114,99,101]⟩:Yb),(⟨#[]⟩:Yb),false,true,true,true,false,false⟩:Cq),(⟨(⟨#[114,101,108,101,97,115,101]⟩:Yb),(⟨#[114,101,115,111,117,114,99,101]⟩:Yb),(⟨#[]⟩:Yb),false,true,false,false,false,false⟩:Cq),(⟨(⟨#[112,117,116]⟩:Yb),(⟨#[115,116,111,114,101]⟩:Yb),(⟨#[]⟩:Yb),false,true,false,false,false,false⟩:Cq),(⟨(⟨#[103,101,116]⟩:Yb),(⟨#[115,116,111,114,101]⟩:Yb),(⟨#[115,108,111,116]⟩:Yb),false,false,false,false,false,false⟩:Cq),(⟨(⟨#[114,105,100,101]⟩:Yb),(⟨#[98,101,108,116]⟩:Yb),(⟨#[]⟩:Yb),false,false,false,false,false,false⟩:Cq),(⟨(⟨#[119,97,105,116]⟩:Yb),(⟨#[113,117,101,117,101]⟩:Yb),(⟨#[]⟩:Yb),false,false,false,false,false,false⟩:Cq),(⟨(⟨#[115,105,103,110,97,108]⟩:Yb),(⟨#[113,117,101,117,101]⟩:Yb),(⟨#[]⟩:Yb),false,true,false,false,false,false⟩:Cq),(⟨(⟨#[115,101,110,100]⟩:Yb),(⟨#[115,105,116,101]⟩:Yb),(⟨#[114,111,117,116,105,110,101]⟩:Yb),true,true,false,false,true,false⟩:Cq),(⟨(⟨#[115,112,97,119,110]⟩:Yb),(⟨#[]⟩:Yb),(⟨#[114,111,117,116,105,110,101]⟩:Yb),false,true,false,false,true,false⟩:Cq),(⟨(⟨#[111,98,115,101,114,118,101]⟩:Yb),(⟨#[116,97,108,108,121]⟩:Yb),(⟨#[]⟩:Yb),false,true,false,false,false,false⟩:Cq),(⟨(⟨#[108,101,118,101,108]⟩:Yb),(⟨#[108,101,118,101,108]⟩:Yb),(⟨#[]⟩:Yb),false,true,false,false,false,false⟩:Cq),(⟨(⟨#[99,111,117,110,116]⟩:Yb),(⟨#[99,111,117,110,116]⟩:Yb),(⟨#[]⟩:Yb),false,true,false,false,false,false⟩:Cq),(⟨(⟨#[101,110,100]⟩:Yb),(⟨#[]⟩:Yb),(⟨#[]⟩:Yb),false,false,false,false,false,false⟩:Cq)])
def Y2:Option (List Cq):=Azv L
def By1:F3:=E0 (λ(x:List Cq)=>lv (.fJ x)) 136 (Y2 L) λr h=>hF Tryz.func136 (oS []) L (λkk=>eE (Azv L)) h
def A7f(F:Ab->Ab->Option Bool):Prop:=∀y0 y1 r,F y0 y1=some r->Ho Tryz.prog 137 [Bi.en y0,Bi.en y1] B r
def A7g(F:(List Ab)->(List Ab)->Option Bool):Prop:=∀y0 y1 r,F y0 y1=some r->Ho Tryz.prog 177 [Bj3.en y0,Bj3.en y1] B r
def B8i(De:Ab->Ab->Option Bool)(Di:(List Ab)->(List Ab)->Option Bool)(L:Nat):Bc:=(orc 137 (A2 B Bi Bi De) (orc 177 (A2 B Bj3 Bj3 Di) (oL [])))
theorem Cb9(De:Ab->Ab->Option Bool)(Di:(List Ab)->(List Ab)->Option Bool)(A31:A7f De)(A32:A7g Di)(L:Nat):Dl Tryz.prog (B8i De Di L):=(Em (a2 _ A31) (Em (a2 _ A32) (oS [])))
def Ati [An A Bool](De:Ab->Ab->Option Bool)(Di:(List Ab)->(List Ab)->Option Bool)(L:Nat)(a0:Ab)(a1:Ab):A:=
 (jp (.cn (a0.Op != a1.Op)
 (.lf true)
 (.lf (!(a0.aF.toList == a1.aF.toList)))) (λb1=>
 (jp (.cn b1
 (.lf true)
 (.lf (a0.N != a1.N))) (λb2=>
 (cn b2
 (lf false)
 (bd (Di a0.aY a1.aY) λr3=>
 (lf r3)))))))
def Anc(De:Ab->Ab->Option Bool)(Di:(List Ab)->(List Ab)->Option Bool)(L:Nat)(a0:Ab)(a1:Ab):Option Bool:=Ati De Di L a0 a1
theorem Caq(De:Ab->Ab->Option Bool)(Di:(List Ab)->(List Ab)->Option Bool)(A31:A7f De)(A32:A7g Di)(L:Nat):A7f (Anc De Di L):=λa0 a1 r h=>hF Tryz.func137 (Cb9 De Di A31 A32 L) L (λkk=>eE (Ati De Di L a0 a1)) h
def B53:=CC Tryz.f177
def Byj(De:Ab->Ab->Option Bool)(Di:(List Ab)->(List Ab)->Option Bool)(L:Nat):Bc:=(orc 137 (A2 B Bi Bi De) (orc 177 (A2 B Bj3 Bj3 Di) (oL [])))
theorem Cca(De:Ab->Ab->Option Bool)(Di:(List Ab)->(List Ab)->Option Bool)(A31:A7f De)(A32:A7g Di)(L:Nat):Dl Tryz.prog (Byj De Di L):=(Em (a2 _ A31) (Em (a2 _ A32) (oS [])))
def Bvx(a0:List Ab)(a1:List Ab)(v:Tu5):St:=⟨[(0,lv (.dU a0)),(1,lv (.dU a1)),(4,B v.1),(5,I v.2)],[],0⟩
def Vh [An A (Nat×Tu5)](De:Ab->Ab->Option Bool)(Di:(List Ab)->(List Ab)->Option Bool)(L:Nat)(a0:List Ab)(a1:List Ab)(rec:Bool->Int->A)(Ak:Bool)(Af:Int):A:=
 (lw Af a0
 (gi Af a1
 (bd (De (Ab.cp (gD a0 Af)) (Ab.cp (gD a1 Af))) λr1=>
 (cn (!r1)
 (lf (0,false,Af))
 (rec Ak (Bu (Af+1))))))
 (lf (1,Ak,Af)))
def Iy(De:Ab->Ab->Option Bool)(Di:(List Ab)->(List Ab)->Option Bool)(L:Nat)(a0:List Ab)(a1:List Ab):Nat->Bool->Int->Option (Nat×Tu5)
 |0,_,_=>none
 |n+1,Ak,Af=>Vh De Di L a0 a1 (Iy De Di L a0 a1 n) Ak Af
theorem Bt9(De:Ab->Ab->Option Bool)(Di:(List Ab)->(List Ab)->Option Bool)(L:Nat)(K:Ef)(a0:List Ab)(a1:List Ab):LP (EV (Byj De Di L) L 9 B53.w.l.u.l.l) [0,1,4,5] [] (Bvx a0 a1) [.ret,.exit 0] (λn v=>Iy De Di L a0 a1 n v.1 v.2) K:=lE (λ_=>rfl) λn v ih=>eE (Vh De Di L a0 a1 (λAk Af=>re (ih (Ak,Af))) v.1 v.2)
def Ame [An A Bool](De:Ab->Ab->Option Bool)(Di:(List Ab)->(List Ab)->Option Bool)(L:Nat)(o2:Nat×Tu5):A:=
 (sl o2.1 [(lf o2.2.1),
 (lf true)])
def Acw [An A Bool](De:Ab->Ab->Option Bool)(Di:(List Ab)->(List Ab)->Option Bool)(L:Nat)(a0:List Ab)(a1:List Ab)(nx1:A):A:=
 (cn ((a0.length:Int) != (a1.length:Int))
 (lf false)
 nx1)
def Asm [An A Bool](De:Ab->Ab->Option Bool)(Di:(List Ab)->(List Ab)->Option Bool)(L:Nat)(a0:List Ab)(a1:List Ab):A:=Acw De Di L a0 a1 (bd (Iy De Di L a0 a1 L false 0) λo2=>Ame De Di L o2)
def Ac5(De:Ab->Ab->Option Bool)(Di:(List Ab)->(List Ab)->Option Bool)(L:Nat)(a0:List Ab)(a1:List Ab):Option Bool:=Asm De Di L a0 a1
theorem Car(De:Ab->Ab->Option Bool)(Di:(List Ab)->(List Ab)->Option Bool)(A31:A7f De)(A32:A7g Di)(L:Nat):A7g (Ac5 De Di L):=λa0 a1 r h=>hF Tryz.func177 (Cca De Di A31 A32 L) L (λkk=>eE (Acw De Di L a0 a1 (hq (Bt9 De Di L (KA (Byj De Di L) L 9 B53 (rl [4,1,2,1]) (KE Tryz.f177 kk)) a0 a1 L (false,0)) λo2=>Ame De Di L o2))) h
mutual
def Mb:Nat->Ab->Ab->Option Bool
 |0,_,_=>none
 |L+1,a0,a1=>Anc (Mb L) (Lj L) L a0 a1
def Lj:Nat->(List Ab)->(List Ab)->Option Bool
 |0,_,_=>none
 |L+1,a0,a1=>Ac5 (Mb L) (Lj L) L a0 a1
end
theorem Bse(L:Nat):A7f (Mb L)/\A7g (Lj L):=by
 induction L with
 |zero=>exact⟨λ_ _ _ h=>(by cases h),λ_ _ _ h=>(by cases h)⟩
 |succ L ih=>
  obtain⟨i137,i177⟩:=ih;exact⟨Caq (Mb L) (Lj L) i137 i177 L,Car (Mb L) (Lj L) i137 i177 L⟩
def B9e(L:Nat):F3:=E2 B 137 Bi Bi (Mb L) ((Bse L).1)
def c80:=CC Tryz.f80
def O80:Bc:=oL [By1 L,B9e L,By2 L]
def Bn8(a0:Aq)(r1:List Cq):St:=⟨[zq7,(2,B false),Th],[(1,(Ro a0)),(3,(Ats (gD r1 a0.Op))),(4,[I 0,S (⟨#[]⟩:Yb),I 0,lv (.dU [])])],0⟩
def Bng(L:Nat)(kk:K5):Ef:=(KE Tryz.f80 kk)
def Aaj [An A Bool](a0:Aq)(r1:List Cq):A:=
 (cn ((gD r1 a0.Op).bE)
 (nq (lf true))
 (jb (.bd (Yl L a0.bE (⟨0,0,0,0,[],[]⟩:Bk)) λr7=>
 (.lf r7)) (λb6=>
 (lf b6))))
theorem Bzq(a0:Aq)(r1:List Cq):EV (O80 L) L 9 c80.x (Bn8 a0 r1) (Bng L kk)=ob (Aaj L a0 r1) (kQ B kk):=eE (Aaj L a0 r1)
def Bbd(a0:Aq)(r1:List Cq)(p802_1:Bool):St:=⟨[zq7,(2,B false),Th,Be9,(11,B p802_1)],[(1,(Ro a0)),(3,(Ats (gD r1 a0.Op))),(4,[I 0,S (⟨#[]⟩:Yb),I 0,lv (.dU [])])],0⟩
def A9x(e0:EC):Ef:=(Gi 0 (Qr (EV (O80 L) L 9 e0) (KE Tryz.f80 kk)))
def sx_R17_plain_2 [An A Bool](a0:Aq)(r1:List Cq)(p802_1:Bool)(nx1:Aq->(List Cq)->A):A:=
 (cn p802_1
 (lf false)
 (jb (.cn (!((gD r1 a0.Op).E))
 (.bd (Mb L (Ab.cp a0.E) (Ab.mk 0 (⟨#[]⟩:Yb) 0 [])) λr9=>
 (.lf (!r9)))
 (.lf false)) (λb8=>
 (cn b8
 (cn b8
 (lf false)
 (nx1 a0 r1))
 (jb (.cn (!((gD r1 a0.Op).F))
 (.bd (Mb L (Ab.cp a0.F) (Ab.mk 0 (⟨#[]⟩:Yb) 0 [])) λr11=>
 (.lf (!r11)))
 (.lf false)) (λb10=>
 (cn b10
 (cn b10
 (lf false)
 (nx1 a0 r1))
 (jp (.cn (!((gD r1 a0.Op).aM))
 (.lf (decide ((a0.aM.length:Int)>0)))
 (.lf false)) (λb12=>
 (cn b12
 (lf false)
 (nx1 a0 r1)))))))))))
def Aig [An A Bool](a0:Aq)(r1:List Cq)(p802_1:Bool):A:=sx_R17_plain_2 L a0 r1 p802_1 (λa0 r1=>Aaj L a0 r1)
theorem Bzt(a0:Aq)(r1:List Cq)(p802_1:Bool)(z1:EC):EV (O80 L) L 9 c80.w.u.l.l.u (Bbd a0 r1 p802_1) (A9x L kk (EC.put (rl [1]) z1 c80.w.u.r))= @sx_R17_plain_2 Prop L (anP (kQ B kk)) a0 r1 p802_1 (λa0 r1=>EV (O80 L) L 9 z1 (Bn8 a0 r1) (Bng L kk)):=by kernel_rfl
theorem Bzr(a0:Aq)(r1:List Cq)(p802_1:Bool):EV (O80 L) L 9 c80.w.u.l.l.u (Bbd a0 r1 p802_1) (A9x L kk c80.w.u.r)=ob (Aig L a0 r1 p802_1) (kQ B kk):=Eq.trans (b:=EV (O80 L) L 9 c80.w.u.l.l.u (Bbd a0 r1 p802_1) (A9x L kk (EC.put (rl [1]) c80.x c80.w.u.r))) (by kernel_rfl) ((Bzt L kk a0 r1 p802_1 c80.x).trans (eE (sx_R17_plain_2 L a0 r1 p802_1 (λa0 r1=>re (Bzq L kk a0 r1)))))
def sx_R17_plain_0 [An A Bool](a0:Aq)(nx2:Aq->(List Cq)->Bool->A):A:=
 (bd (Y2 L) λr1=>
 (gi a0.Op r1
 (jp (.cn ((gD r1 a0.Op).A.toList == (⟨#[]⟩:Yb).toList)
 (.lf (a0.A != 0))
 (.lf false)) (λb2=>
 (cn b2
 (nx2 a0 r1 b2)
 (jp (.cn ((gD r1 a0.Op).B.toList == (⟨#[]⟩:Yb).toList)
 (.lf (a0.B != 0))
 (.lf false)) (λb3=>
 (cn b3
 (nx2 a0 r1 b3)
 (jp (.cn (!((gD r1 a0.Op).C))
 (.lf (a0.C != 0))
 (.lf false)) (λb4=>
 (cn b4
 (nx2 a0 r1 b4)
 (jp (.cn (!((gD r1 a0.Op).bU))
 (.lf a0.bU)
 (.lf false)) (λb5=>
 (nx2 a0 r1 b5))))))))))))))
def Azx [An A Bool](a0:Aq):A:=sx_R17_plain_0 L a0 (λa0 r1 p802_1=>Aig L a0 r1 p802_1)
theorem Bzs(a0:Aq)(z2:EC):EW (O80 L) L 9 (RS Tryz.f80) (EC.put (rl [6,2,2]) z2 c80) [.agg (Ro a0)] kk= @sx_R17_plain_0 Prop L (anP (kQ B kk)) a0 (λa0 r1 p802_1=>EV (O80 L) L 9 z2 (Bbd a0 r1 p802_1) (A9x L kk c80.w.u.r)):=by kernel_rfl
def Aef(a0:Aq):Option Bool:=Azx L a0
def X80:F3:=E1 B 80 Oc (Aef L) λa0 r h=>hF Tryz.func80 (C:=O80 L) (oS _) L (λkk=>Eq.trans (b:=EW (O80 L) L 9 (RS Tryz.f80) (EC.put (rl [6,2,2]) c80.w.u.l.l.u c80) [.agg (Ro a0)] kk) (by kernel_rfl) ((Bzs L kk a0 c80.w.u.l.l.u).trans (eE (sx_R17_plain_0 L a0 (λa0 r1 p802_1=>re (Bzr L kk a0 r1 p802_1)))))) h
def Aqm [An A Int](L:Nat)(a0:Ac)(a1:Int)(a2:Ap)(a3:Yb):A:=
 (gi a1 a0.aA
 (cn (a3.toList == (⟨#[115,108,111,116]⟩:Yb).toList)
 (lf a2.dD)
 (cn (a3.toList == (⟨#[105,110,115,116,114]⟩:Yb).toList)
 (lf (a2.aP.length:Int))
 (cn (a3.toList == (⟨#[115,105,116,101]⟩:Yb).toList)
 (lf (a0.aA.length:Int))
 (cn (a3.toList == (⟨#[118,97,114]⟩:Yb).toList)
 (lf ((gD a0.aA a1).aK.bX.length:Int))
 (cn (a3.toList == (⟨#[114,101,115,111,117,114,99,101]⟩:Yb).toList)
 (lf ((gD a0.aA a1).aK.aG.length:Int))
 (cn (a3.toList == (⟨#[115,116,111,114,101]⟩:Yb).toList)
 (lf ((gD a0.aA a1).aK.aL.length:Int))
 (cn (a3.toList == (⟨#[98,101,108,116]⟩:Yb).toList)
 (lf ((gD a0.aA a1).aK.bN.length:Int))
 (cn (a3.toList == (⟨#[113,117,101,117,101]⟩:Yb).toList)
 (lf ((gD a0.aA a1).aK.bH.length:Int))
 (cn (a3.toList == (⟨#[115,116,114,101,97,109]⟩:Yb).toList)
 (lf ((gD a0.aA a1).aK.bB.length:Int))
 (cn (a3.toList == (⟨#[116,97,108,108,121]⟩:Yb).toList)
 (lf ((gD a0.aA a1).aK.bG.length:Int))
 (cn (a3.toList == (⟨#[108,101,118,101,108]⟩:Yb).toList)
 (lf ((gD a0.aA a1).aK.bP.length:Int))
 (lf ((gD a0.aA a1).aK.bF.length:Int))))))))))))))
def Aed(a0:Ac)(a1:Int)(a2:Ap)(a3:Yb):Option Int:=Aqm L a0 a1 a2 a3
def B9u:F3:=E4 I 179 B7 (cI .i64) Oa cS (Aed L) λa0 a1 a2 a3 r h=>hF Tryz.func179 (oS []) L (λkk=>eE (Aqm L a0 a1 a2 a3)) h
def Anu [An A Bool](a0:Ac)(a1:Int)(a2:Ap)(a3:Yb)(a4:Int):A:=
 (jb (.cn (a3.toList == (⟨#[]⟩:Yb).toList)
 (.lf true)
 (.cn (decide (a4>=0))
 (.bd (Aed L (⟨a0.aF,a0.aA,a0.aH⟩:Ac) a1 a2 a3) λr2=>
 (.lf (decide (a4<r2))))
 (.lf false))) (λb1=>
 (lf b1)))
def Ru(a0:Ac)(a1:Int)(a2:Ap)(a3:Yb)(a4:Int):Option Bool:=Anu L a0 a1 a2 a3 a4
def B9f:F3:=E5 B 139 B7 (cI .i64) Oa cS (cI .i64) (Ru L) λa0 a1 a2 a3 a4 r h=>hF Tryz.func139 (oS [B9u L]) L (λkk=>eE (Anu L a0 a1 a2 a3 a4)) h
def Aql [An A Int](L:Nat)(a0:Ac)(a1:Int)(a2:Aq):A:=
 (gi a1 a0.aA
 (jp (.cn (decide (a2.B<0))
 (.lf true)
 (.lf (decide (a2.B>=((gD a0.aA a1).aD.length:Int))))) (λb1=>
 (cn b1
 (lf 2)
 (gi a2.B ((gD a0.aA a1).aD)
 (cn ((a2.aM.length:Int) != (gD ((gD a0.aA a1).aD) a2.B).aI)
 (lf 8)
 (lf 0)))))))
def Uq(a0:Ac)(a1:Int)(a2:Aq):Option Int:=Aql L a0 a1 a2
def B9g:F3:=E3 I 140 B7 (cI .i64) Oc (Uq L) λa0 a1 a2 r h=>hF Tryz.func140 (oS []) L (λkk=>eE (Aql L a0 a1 a2)) h
def B5u:=CC Tryz.f141
def Byf(L:Nat):Bc:=oL []
def Bvn(a1:Int)(a2:Int)(a0:Ac)(v:Int×Bool×Int):St:=⟨[(0,.any),(1,I a1),(2,I a2),Th,(6,I v.1),(7,B v.2.1),(8,I v.2.2)],[(3,(Cm a0))],0⟩
def Ags [An A (Nat×Int×Bool×Int)](L:Nat)(a1:Int)(a2:Int)(a0:Ac)(rec:Int->Bool->Int->A)(Ak:Int)(Af:Bool)(Bj:Int):A:=
 (lw Bj a0.aH
 (jb (.cn ((gD a0.aH Bj).aV == a1)
 (.gq (0<=Bj)
 (.gq (Bj<(a0.aH.length:Int))
 (.lf ((gD a0.aH Bj).To == a2))))
 (.lf false)) (λb1=>
 (cn b1
 (gi Bj a0.aH
 (lf (0,(((gD a0.aH Bj).bR),true,Bj))))
 (rec Ak Af (Bu (Bj+1))))))
 (lf (1,Ak,Af,Bj)))
def R8(L:Nat)(a1:Int)(a2:Int)(a0:Ac):Nat->Int->Bool->Int->Option (Nat×Int×Bool×Int)
 |0,_,_,_=>none
 |n+1,Ak,Af,Bj=>Ags L a1 a2 a0 (R8 L a1 a2 a0 n) Ak Af Bj
theorem Bt0(a1:Int)(a2:Int)(a0:Ac):LP (EV (Byf L) L 9 B5u.u.l.u.l.l) [0,1,2,3,6,7,8] [3] (Bvn a1 a2 a0) [.ret,.exit 0] (λn v=>R8 L a1 a2 a0 n v.1 v.2.1 v.2.2) K:=lE (λ_=>rfl) λn v ih=>eE (Ags L a1 a2 a0 (λAk Af Bj=>re (ih (Ak,Af,Bj))) v.1 v.2.1 v.2.2)
def Agz [An A (Int×Bool)](L:Nat)(o2:Nat×Int×Bool×Int):A:=
 (sl o2.1 [(lf (o2.2.1,o2.2.2.1)),
 (lf (0,false))])
def A7i [An A (Int×Bool)](a0:Ac)(a1:Int)(a2:Int):A:=(bd (R8 L a1 a2 a0 L 0 false 0) λo2=>Agz L o2)
def Alh(a0:Ac)(a1:Int)(a2:Int):Option (Int×Bool):=A7i L a0 a1 a2
def B9h:F3:=E3 (λ(x:Int×Bool)=>.bY [I x.1,B x.2]) 141 B7 (cI .i64) (cI .i64) (Alh L) λa0 a1 a2 r h=>hF Tryz.func141 (C:=Byf L) (oS _) L (λkk=>eE ((hq (Bt0 L (KA (Byf L) L 9 B5u (rl [2,1,2,1]) (KE Tryz.f141 kk)) a1 a2 a0 L (0,false,0)) λo2=>Agz L o2))) h
def Akc [An A Int](a0:Ac)(a1:Int)(a2:Ap)(a3:Aq):A:=
 (bd (Y2 L) λr1=>
 (gi a3.Op r1
 (bd (Ru L (⟨a0.aF,a0.aA,a0.aH⟩:Ac) a1 a2 ((gD r1 a3.Op).A) a3.A) λr2=>
 (cn (!r2)
 (lf 2)
 (cn (a3.Op == 15)
 (bd (Uq L (⟨a0.aF,a0.aA,a0.aH⟩:Ac) a1 (⟨a3.Op,a3.A,a3.B,a3.C,(Ab.cp a3.E),(Ab.cp a3.F),a3.aM,a3.bE,a3.bU⟩:Aq)) λr3=>
 (lf r3))
 (cn (a3.Op == 14)
 (bd (Alh L (⟨a0.aF,a0.aA,a0.aH⟩:Ac) a1 a3.A) λr4=>
 (jp (.cn (!r4.2)
 (.lf true)
 (.lf (r4.1 != a3.C))) (λb5=>
 (cn b5
 (lf 16)
 (bd (Uq L (⟨a0.aF,a0.aA,a0.aH⟩:Ac) a3.A (⟨a3.Op,a3.A,a3.B,a3.C,(Ab.cp a3.E),(Ab.cp a3.F),a3.aM,a3.bE,a3.bU⟩:Aq)) λr6=>
 (lf r6))))))
 (bd (Ru L (⟨a0.aF,a0.aA,a0.aH⟩:Ac) a1 a2 ((gD r1 a3.Op).B) a3.B) λr7=>
 (cn (!r7)
 (lf 2)
 (lf 0)))))))))
def W0(a0:Ac)(a1:Int)(a2:Ap)(a3:Aq):Option Int:=Akc L a0 a1 a2 a3
def X81:F3:=E4 I 81 B7 (cI .i64) Oa Oc (W0 L) λa0 a1 a2 a3 r h=>hF Tryz.func81 (oS [By1 L,B9f L,B9g L,B9h L]) L (λkk=>eE (Akc L a0 a1 a2 a3)) h
def Aqk [An A (List Ab)](a0:Aq):A:=
 (bd (Aee L a0.Op) λr1=>
 (cn (!r1)
 (lf [])
 (bd (Y2 L) λr2=>
 (gi a0.Op r2
 (cn ((gD r2 a0.Op).E)
 (gq ((0+ [(Ab.cp a0.E)].length)*56<=140737488355328)
 (gq (0+ [(Ab.cp a0.E)].length<=maxLen)
 (cn ((gD r2 a0.Op).F)
 (gq (([(Ab.cp a0.E)].length+ [(Ab.cp a0.F)].length)*56<=140737488355328)
 (gq ([(Ab.cp a0.E)].length+ [(Ab.cp a0.F)].length<=maxLen)
 (cn ((gD r2 a0.Op).aM)
 (gq ((([(Ab.cp a0.E)]++ [(Ab.cp a0.F)]).length+a0.aM.length)*56<=140737488355328)
 (gq (([(Ab.cp a0.E)]++ [(Ab.cp a0.F)]).length+a0.aM.length<=maxLen)
 (lf (([(Ab.cp a0.E)]++ [(Ab.cp a0.F)])++a0.aM))))
 (lf ([(Ab.cp a0.E)]++ [(Ab.cp a0.F)])))))
 (cn ((gD r2 a0.Op).aM)
 (gq (([(Ab.cp a0.E)].length+a0.aM.length)*56<=140737488355328)
 (gq ([(Ab.cp a0.E)].length+a0.aM.length<=maxLen)
 (lf ([(Ab.cp a0.E)]++a0.aM))))
 (lf [(Ab.cp a0.E)])))))
 (cn ((gD r2 a0.Op).F)
 (gq ((0+ [(Ab.cp a0.F)].length)*56<=140737488355328)
 (gq (0+ [(Ab.cp a0.F)].length<=maxLen)
 (cn ((gD r2 a0.Op).aM)
 (gq (([(Ab.cp a0.F)].length+a0.aM.length)*56<=140737488355328)
 (gq ([(Ab.cp a0.F)].length+a0.aM.length<=maxLen)
 (lf ([(Ab.cp a0.F)]++a0.aM))))
 (lf [(Ab.cp a0.F)]))))
 (cn ((gD r2 a0.Op).aM)
 (gq ((0+a0.aM.length)*56<=140737488355328)
 (gq (0+a0.aM.length<=maxLen)
 (lf a0.aM)))
 (lf []))))))))
def Aec(a0:Aq):Option (List Ab):=Aqk L a0
def X82:F3:=E1 (λ(x:List Ab)=>lv (.dU x)) 82 Oc (Aec L) λa0 r h=>hF Tryz.func82 (oS [X79 L,By1 L]) L (λkk=>eE (Aqk L a0)) h
def Afb [An A Int](a0:Ab):A:=
 (bd (Aea L (Ab.cp a0) true) λr1=>
 (lf r1))
def Sj(a0:Ab):Option Int:=Afb L a0
def X83:F3:=E1 I 83 Bi (Sj L) λa0 r h=>hF Tryz.func83 (oS [B4s L]) L (λkk=>eE (Afb L a0)) h
def Bqv(F:Ac->Int->Ap->Ab->Option Bool):Prop:=∀y0 y1 y2 y3 r,F y0 y1 y2 y3=some r->Ho Tryz.prog 84 [B7.en y0,(cI .i64).en y1,Oa.en y2,Bi.en y3] B r
def c84:=CC Tryz.f84
def O84(Ed:Ac->Int->Ap->Ab->Option Bool)(L:Nat):Bc:=(orc 84 (A4 B B7 (cI .i64) Oa Bi Ed) (oL []))
theorem s84(Ed:Ac->Int->Ap->Ab->Option Bool)(Bz2:Bqv Ed)(L:Nat):Dl Tryz.prog (O84 Ed L):=(Em (a4 _ Bz2) (oS []))
def B37(a1:Int)(a0:Ac)(a2:Ap)(a3:Ab)(v:Tu5):St:=⟨[(0,.any),(1,I a1),(2,.any),(3,.any),Be9,(6,.loc 6 0),(7,.loc 7 0),(8,B v.1),(9,.any),(10,I v.2),(17,.any),(39,.any),(62,.any)],[(4,(Cm a0)),(6,(Abq a2)),(7,(Cl a3)),(9,(Ae ((gD a0.aA a1).aK)))],0⟩
def Adn [An A (Nat×Tu5)](Ed:Ac->Int->Ap->Ab->Option Bool)(L:Nat)(a1:Int)(a0:Ac)(a2:Ap)(a3:Ab)(rec:Bool->Int->A)(Ag:Bool)(Ak:Int):A:=
 (lw Ak a3.aY
 (bd (Ed (⟨a0.aF,a0.aA,a0.aH⟩:Ac) a1 a2 (Ab.cp (gD a3.aY Ak))) λr4=>
 (cn (!r4)
 (lf (0,false,Ak))
 (rec Ag (Bu (Ak+1)))))
 (lf (1,Ag,Ak)))
def Hg(Ed:Ac->Int->Ap->Ab->Option Bool)(L:Nat)(a1:Int)(a0:Ac)(a2:Ap)(a3:Ab):Nat->Bool->Int->Option (Nat×Tu5)
 |0,_,_=>none
 |n+1,Ag,Ak=>Adn Ed L a1 a0 a2 a3 (Hg Ed L a1 a0 a2 a3 n) Ag Ak
theorem A9y(Ed:Ac->Int->Ap->Ab->Option Bool)(L:Nat)(K:Ef)(a1:Int)(a0:Ac)(a2:Ap)(a3:Ab):LP (EV (O84 Ed L) L 9 c84.w.u.l.u.l.l) [0,1,2,3,4,6,7,8,9,10,17,39,62] [4,6,7,9] (B37 a1 a0 a2 a3) [.ret,.exit 1] (λn v=>Hg Ed L a1 a0 a2 a3 n v.1 v.2) K:=lE (λ_=>rfl) λn v ih=>eE (Adn Ed L a1 a0 a2 a3 (λAg Ak=>re (ih (Ag,Ak))) v.1 v.2)
def Aky [An A Bool](Ed:Ac->Int->Ap->Ab->Option Bool)(L:Nat)(o12:Nat×Tu5):A:=
 (sl o12.1 [(lf o12.2.1),
 (lf true)])
def Akz [An A Bool](Ed:Ac->Int->Ap->Ab->Option Bool)(L:Nat)(o13:Nat×Tu5):A:=
 (sl o13.1 [(lf o13.2.1),
 (lf true)])
def Ak0 [An A Bool](Ed:Ac->Int->Ap->Ab->Option Bool)(L:Nat)(o14:Nat×Tu5):A:=
 (sl o14.1 [(lf o14.2.1),
 (lf true)])
def Ak1 [An A Bool](Ed:Ac->Int->Ap->Ab->Option Bool)(L:Nat)(o15:Nat×Tu5):A:=
 (sl o15.1 [(lf o15.2.1),
 (lf true)])
def Alc [An A Bool](Ed:Ac->Int->Ap->Ab->Option Bool)(L:Nat)(a0:Ac)(a1:Int)(a2:Ap)(a3:Ab)(nx1:A)(nx2:A)(nx3:A)(nx4:A):A:=
 (gi a1 a0.aA
 (jp (.cn (a3.Op == 25)
 (.lf (decide (a3.N>=a2.dD)))
 (.lf false)) (λb1=>
 (cn b1
 (cn b1
 (lf false)
 (jp (.cn (a3.Op == 22)
 (.lf (decide (a3.N>=((gD a0.aA a1).aK.aG.length:Int))))
 (.lf false)) (λb2=>
 (cn b2
 (cn b2
 (lf false)
 (jp (.cn (a3.Op == 24)
 (.lf (decide (a3.N>=(Bu (((gD a0.aA a1).aK.aG.length:Int)+((gD a0.aA a1).aK.bH.length:Int))))))
 (.lf false)) (λb3=>
 (cn b3
 (lf false)
 nx1))))
 (jp (.cn (a3.Op == 23)
 (.lf (decide (a3.N>=((gD a0.aA a1).aK.aL.length:Int))))
 (.lf false)) (λb5=>
 (cn b5
 (lf false)
 (jp (.cn (a3.Op == 24)
 (.lf (decide (a3.N>=(Bu (((gD a0.aA a1).aK.aG.length:Int)+((gD a0.aA a1).aK.bH.length:Int))))))
 (.lf false)) (λb6=>
 (cn b6
 (lf false)
 nx2))))))))))
 (jp (.cn (a3.Op == 26)
 (.lf (decide (a3.N>=((gD a0.aA a1).aK.bX.length:Int))))
 (.lf false)) (λb7=>
 (cn b7
 (lf false)
 (jp (.cn (a3.Op == 22)
 (.lf (decide (a3.N>=((gD a0.aA a1).aK.aG.length:Int))))
 (.lf false)) (λb8=>
 (cn b8
 (cn b8
 (lf false)
 (jp (.cn (a3.Op == 24)
 (.lf (decide (a3.N>=(Bu (((gD a0.aA a1).aK.aG.length:Int)+((gD a0.aA a1).aK.bH.length:Int))))))
 (.lf false)) (λb9=>
 (cn b9
 (lf false)
 nx3))))
 (jp (.cn (a3.Op == 23)
 (.lf (decide (a3.N>=((gD a0.aA a1).aK.aL.length:Int))))
 (.lf false)) (λb10=>
 (cn b10
 (lf false)
 (jp (.cn (a3.Op == 24)
 (.lf (decide (a3.N>=(Bu (((gD a0.aA a1).aK.aG.length:Int)+((gD a0.aA a1).aK.bH.length:Int))))))
 (.lf false)) (λb11=>
 (cn b11
 (lf false)
 nx4))))))))))))))))
def A22 [An A Bool](Ed:Ac->Int->Ap->Ab->Option Bool)(L:Nat)(a0:Ac)(a1:Int)(a2:Ap)(a3:Ab):A:=Alc Ed L a0 a1 a2 a3 (bd (Hg Ed L a1 a0 a2 a3 L false 0) λo12=>Aky Ed L o12) (bd (Hg Ed L a1 a0 a2 a3 L false 0) λo13=>Akz Ed L o13) (bd (Hg Ed L a1 a0 a2 a3 L false 0) λo14=>Ak0 Ed L o14) (bd (Hg Ed L a1 a0 a2 a3 L false 0) λo15=>Ak1 Ed L o15)
def Ane(Ed:Ac->Int->Ap->Ab->Option Bool)(L:Nat)(a0:Ac)(a1:Int)(a2:Ap)(a3:Ab):Option Bool:=A22 Ed L a0 a1 a2 a3
theorem b84(Ed:Ac->Int->Ap->Ab->Option Bool)(Bz2:Bqv Ed)(L:Nat):Bqv (Ane Ed L):=λa0 a1 a2 a3 r h=>hF Tryz.func84 (s84 Ed Bz2 L) L (λkk=>eE (Alc Ed L a0 a1 a2 a3 (hq (A9y Ed L (KA (O84 Ed L) L 9 c84 (rl [6,1,2,1]) (KE Tryz.f84 kk)) a1 a0 a2 a3 L (false,0)) λo12=>Aky Ed L o12) (hq (A9y Ed L (KA (O84 Ed L) L 9 c84 (rl [6,1,2,1]) (KE Tryz.f84 kk)) a1 a0 a2 a3 L (false,0)) λo13=>Akz Ed L o13) (hq (A9y Ed L (KA (O84 Ed L) L 9 c84 (rl [6,1,2,1]) (KE Tryz.f84 kk)) a1 a0 a2 a3 L (false,0)) λo14=>Ak0 Ed L o14) (hq (A9y Ed L (KA (O84 Ed L) L 9 c84 (rl [6,1,2,1]) (KE Tryz.f84 kk)) a1 a0 a2 a3 L (false,0)) λo15=>Ak1 Ed L o15))) h
def Ir:Nat->Ac->Int->Ap->Ab->Option Bool
 |0,_,_,_,_=>none
 |L+1,a0,a1,a2,a3=>Ane (Ir L) L a0 a1 a2 a3
theorem Bz0(L:Nat):Bqv (Ir L):=by
 induction L with
 |zero=>exact λ_ _ _ _ _ h=>(by cases h)
 |succ L ih=>
  have i84:=ih;exact b84 (Ir L) i84 L
def X84(L:Nat):F3:=E4 B 84 B7 (cI .i64) Oa Bi (Ir L) (Bz0 L)
def c53:=CC Tryz.f53
def O53:Bc:=oL [X79 L,X80 L,X81 L,X82 L,X83 L,X84 L,X85 L]
def B3p(a1:Int)(r5:List Ab)(a0:Ac)(a2:Ap)(a3:Aq)(v:Tu6):St:=⟨[(0,.any),(1,I a1),(2,.any),(3,.any),Be9,(6,.loc 6 0),(7,.loc 7 0),(8,I v.1),(9,I v.2.1),(10,lv (.dU r5)),(11,I v.2.2)],[(4,(Cm a0)),(6,(Abq a2)),(7,(Ro a3))],0⟩
def f9 [An A (Nat×Tu6)](a1:Int)(r5:List Ab)(a0:Ac)(a2:Ap)(a3:Aq)(rec:Int->Int->Int->A)(Ag:Int)(Ak:Int)(Bj:Int):A:=
 (lw Bj r5
 (bd (Sj L (Ab.cp (gD r5 Bj))) λr6=>
 (cn (r6 == 0)
 (gi Bj r5
 (bd (Ir L (⟨a0.aF,a0.aA,a0.aH⟩:Ac) a1 a2 (Ab.cp (gD r5 Bj))) λr7=>
 (cn (!r7)
 (lf (0,2,2,Bj))
 (cn (r6 != 0)
 (lf (0,r6,r6,Bj))
 (rec Ag r6 (Bu (Bj+1)))))))
 (cn (r6 != 0)
 (lf (0,r6,r6,Bj))
 (rec Ag r6 (Bu (Bj+1))))))
 (lf (1,Ag,Ak,Bj)))
def Mx(L:Nat)(a1:Int)(r5:List Ab)(a0:Ac)(a2:Ap)(a3:Aq):Nat->Int->Int->Int->Option (Nat×Tu6)
 |0,_,_,_=>none
 |n+1,Ag,Ak,Bj=>f9 L a1 r5 a0 a2 a3 (Mx L a1 r5 a0 a2 a3 n) Ag Ak Bj
theorem B1p(a1:Int)(r5:List Ab)(a0:Ac)(a2:Ap)(a3:Aq):LP (EV (O53 L) L 9 c53.x.u.l.u.l.l) [0,1,2,3,4,6,7,8,9,10,11] [4,6,7] (B3p a1 r5 a0 a2 a3) [.ret,.exit 0] (λn v=>Mx L a1 r5 a0 a2 a3 n v.1 v.2.1 v.2.2) K:=lE (λ_=>rfl) λn v ih=>eE (f9 L a1 r5 a0 a2 a3 (λAg Ak Bj=>re (ih (Ag,Ak,Bj))) v.1 v.2.1 v.2.2)
def Ars [An A Int](a3:Aq)(o8:Nat×Tu6):A:=
 (sl o8.1 [(lf o8.2.1),
 (cn (a3.Op == 3)
 (bd (Rl L a3.bE) λr9=>
 (lf r9))
 (lf 0))])
def Aim [An A Int](a0:Ac)(a1:Int)(a2:Ap)(a3:Aq)(nx1:(List Ab)->Int->A):A:=
 (bd (Aee L a3.Op) λr1=>
 (jb (.cn (!r1)
 (.lf true)
 (.bd (Aef L (⟨a3.Op,a3.A,a3.B,a3.C,(Ab.cp a3.E),(Ab.cp a3.F),a3.aM,a3.bE,a3.bU⟩:Aq)) λr3=>
 (.lf (!r3)))) (λb2=>
 (cn b2
 (lf 1)
 (bd (W0 L (⟨a0.aF,a0.aA,a0.aH⟩:Ac) a1 a2 (⟨a3.Op,a3.A,a3.B,a3.C,(Ab.cp a3.E),(Ab.cp a3.F),a3.aM,a3.bE,a3.bU⟩:Aq)) λr4=>
 (cn (r4 != 0)
 (lf r4)
 (bd (Aec L (⟨a3.Op,a3.A,a3.B,a3.C,(Ab.cp a3.E),(Ab.cp a3.F),a3.aM,a3.bE,a3.bU⟩:Aq)) λr5=>
 (nx1 r5 r4))))))))
def Azw [An A Int](a0:Ac)(a1:Int)(a2:Ap)(a3:Aq):A:=Aim L a0 a1 a2 a3 (λr5 r4=>bd (Mx L a1 r5 a0 a2 a3 L 0 r4 0) λo8=>Ars L a3 o8)
def Y3(a0:Ac)(a1:Int)(a2:Ap)(a3:Aq):Option Int:=Azw L a0 a1 a2 a3
def X53:F3:=E4 I 53 B7 (cI .i64) Oa Oc (Y3 L) λa0 a1 a2 a3 r h=>hF Tryz.func53 (C:=O53 L) (oS _) L (λkk=>eE (Aim L a0 a1 a2 a3 (λr5 r4=>hq (B1p L (KA (O53 L) L 9 c53 (rl [10,1,2,1]) (KE Tryz.f53 kk)) a1 r5 a0 a2 a3 L (0,r4,0)) λo8=>Ars L a3 o8))) h
def c34:=CC Tryz.f34
def O34:Bc:=oL [X30 L,X53 L]
def B3c(a1:Int)(a0:Ac)(a2:Ap)(v:Tu6):St:=⟨[(0,.any),(1,I a1),(2,.any),Th,Bhj,(6,I v.1),(7,I v.2.1),(8,I v.2.2),(9,.any),(25,.any),(46,.any),(51,.any)],[(3,(Cm a0)),(5,(Abq a2))],0⟩
def Vj [An A (Nat×Tu6)](a1:Int)(a0:Ac)(a2:Ap)(rec:Int->Int->Int->A)(Ag:Int)(Ak:Int)(Af:Int):A:=
 (lw Af a2.aP
 (bd (Y3 L (⟨a0.aF,a0.aA,a0.aH⟩:Ac) a1 a2 (⟨(gD a2.aP Af).Op,(gD a2.aP Af).A,(gD a2.aP Af).B,(gD a2.aP Af).C,(Ab.cp ((gD a2.aP Af).E)),(Ab.cp ((gD a2.aP Af).F)),(gD a2.aP Af).aM,((gD a2.aP Af).bE),(gD a2.aP Af).bU⟩:Aq)) λr6=>
 (cn (r6 != 0)
 (lf (0,r6,r6,Af))
 (rec Ag r6 (Bu (Af+1)))))
 (lf (1,Ag,Ak,Af)))
def I0(L:Nat)(a1:Int)(a0:Ac)(a2:Ap):Nat->Int->Int->Int->Option (Nat×Tu6)
 |0,_,_,_=>none
 |n+1,Ag,Ak,Af=>Vj L a1 a0 a2 (I0 L a1 a0 a2 n) Ag Ak Af
theorem B1c(a1:Int)(a0:Ac)(a2:Ap):LP (EV (O34 L) L 9 c34.x.u.l.u.l.l) [0,1,2,3,5,6,7,8,9,25,46,51] [3,5] (B3c a1 a0 a2) [.ret,.exit 1] (λn v=>I0 L a1 a0 a2 n v.1 v.2.1 v.2.2) K:=lE (λ_=>rfl) λn v ih=>eE (Vj L a1 a0 a2 (λAg Ak Af=>re (ih (Ag,Ak,Af))) v.1 v.2.1 v.2.2)
def Vs [An A Int](L:Nat)(a2:Ap)(o7:Nat×Tu6):A:=
 (sl o7.1 [(lf o7.2.1),
 (gi (Bu ((a2.aP.length:Int)-1)) a2.aP
 (jp (.cn ((gD a2.aP (Bu ((a2.aP.length:Int)-1))).Op != 19)
 (.lf ((gD a2.aP (Bu ((a2.aP.length:Int)-1))).Op != 4))
 (.lf false)) (λb8=>
 (cn b8
 (lf 8)
 (lf 0)))))])
def Wb [An A Int](a0:Ac)(a1:Int)(a2:Ap)(nx1:Int->A):A:=
 (jp (.cn (decide (a1<0))
 (.lf true)
 (.lf (decide (a1>=(a0.aA.length:Int))))) (λb1=>
 (cn b1
 (lf 2)
 (bd (Jk L a2.aF) λr2=>
 (cn (r2 != 0)
 (lf r2)
 (jp (.cn (decide (a2.aI<0))
 (.lf true)
 (.lf (decide (a2.aI>a2.dD)))) (λb3=>
 (jp (.cn b3
 (.lf true)
 (.lf (decide (a2.aI>6)))) (λb4=>
 (jp (.cn b4
 (.lf true)
 (.lf (decide (a2.dD>16)))) (λb5=>
 (cn b5
 (lf 2)
 (cn ((a2.aP.length:Int) == 0)
 (lf 7)
 (cn (decide ((a2.aP.length:Int)>1000))
 (lf 6)
 (nx1 r2)))))))))))))))
def Aso [An A Int](a0:Ac)(a1:Int)(a2:Ap):A:=Wb L a0 a1 a2 (λr2=>bd (I0 L a1 a0 a2 L 0 r2 0) λo7=>Vs L a2 o7)
def Wz(a0:Ac)(a1:Int)(a2:Ap):Option Int:=Aso L a0 a1 a2
def X34:F3:=E3 I 34 B7 (cI .i64) Oa (Wz L) λa0 a1 a2 r h=>hF Tryz.func34 (C:=O34 L) (oS _) L (λkk=>eE (Wb L a0 a1 a2 (λr2=>hq (B1c L (KA (O34 L) L 9 c34 (rl [10,1,2,1]) (KE Tryz.f34 kk)) a1 a0 a2 L (0,r2,0)) λo7=>Vs L a2 o7))) h
def c18:=CC Tryz.f18
def O18:Bc:=oL [X30 L,X31 L,X32 L,X33 L,X34 L]
def B2p(r2:Int)(Ak:Int)(a0:Ac)(v:Jc):St:=⟨[(0,.any),zq7,(2,I v.1),(3,I r2),(4,I Ak),(5,I v.2),(6,.any),(7,.any),A7e,(15,.any),(20,.any)],[(1,(Cm a0))],0⟩
def d8 [An A C3](L:Nat)(r2:Int)(Ak:Int)(a0:Ac)(rec:Int->Int->A)(Bz:Int)(Bp:Int):A:=
 (cn (decide (Bp<Ak))
 (gi Bp a0.aA
 (gi Ak a0.aA
 (cn ((gD a0.aA Bp).aK.aF.toList == (gD a0.aA Ak).aK.aF.toList)
 (lf (0,4,Bp))
 (rec Bz (Bu (Bp+1))))))
 (lf (1,Bz,Bp)))
def Jo(L:Nat)(r2:Int)(Ak:Int)(a0:Ac):Nat->Int->Int->Option C3
 |0,_,_=>none
 |n+1,Bz,Bp=>d8 L r2 Ak a0 (Jo L r2 Ak a0 n) Bz Bp
theorem B0q(r2:Int)(Ak:Int)(a0:Ac):LP (EV (O18 L) L 9 c18.w.u.l.u.l.l.u.l.l.w.l.u.l.l) [0,1,2,3,4,5,6,7,11,15,20] [1] (B2p r2 Ak a0) [.ret,.exit 3] (λn v=>Jo L r2 Ak a0 n v.1 v.2) K:=lE (λ_=>rfl) λn v ih=>eE (d8 L r2 Ak a0 (λBz Bp=>re (ih (Bz,Bp))) v.1 v.2)
def B2o(a0:Ac)(v:Tu6):St:=⟨[(0,.any),zq7,(2,I v.1),(3,I v.2.1),(4,I v.2.2),(6,.any),(7,.any),A7e,(15,.any),(20,.any)],[(1,(Cm a0))],0⟩
def z8 [An A (Nat×Tu6)](r2:Int)(Ak:Int)(a0:Ac)(rec:Int->Int->Int->A)(o3:Nat×Jc):A:=
 (sl o3.1 [(lf (0,o3.2.1,r2,Ak)),
 (gi Ak a0.aA
 (bd (Abg L (⟨((gD a0.aA Ak).aK),(gD a0.aA Ak).aD⟩:Az)) λr4=>
 (cn (!r4)
 (lf (0,8,r2,Ak))
 (rec o3.2.1 r2 (Bu (Ak+1))))))])
def Aa0 [An A (Nat×Tu6)](a0:Ac)(rec:Int->Int->Int->A)(Ah:Int)(Ag:Int)(Ak:Int)(nx1:Int->Int->Int->A):A:=
 (lw Ak a0.aA
 (bd (Yz L (⟨a0.aF,[],[((gD a0.aA Ak).aK)],[]⟩:Ai)) λr2=>
 (cn (r2 != 0)
 (lf (0,r2,r2,Ak))
 (nx1 r2 Ak Ah)))
 (lf (1,Ah,Ag,Ak)))
def Ah2 [An A (Nat×Tu6)](a0:Ac)(rec:Int->Int->Int->A)(Ah:Int)(Ag:Int)(Ak:Int):A:=Aa0 L a0 rec Ah Ag Ak (λr2 Ak Ah=>bd (Jo L r2 Ak a0 L Ah 0) λo3=>z8 L r2 Ak a0 rec o3)
def Mv(L:Nat)(a0:Ac):Nat->Int->Int->Int->Option (Nat×Tu6)
 |0,_,_,_=>none
 |n+1,Ah,Ag,Ak=>Ah2 L a0 (Mv L a0 n) Ah Ag Ak
theorem B0p(a0:Ac):LP (EV (O18 L) L 9 c18.w.u.l.u.l.l) [0,1,2,3,4,6,7,11,15,20] [1] (B2o a0) [.ret,.exit 1] (λn v=>Mv L a0 n v.1 v.2.1 v.2.2) K:=lE (λ_=>rfl) λn v ih=>eE (Aa0 L a0 (λAh Ag Ak=>re (ih (Ah,Ag,Ak))) v.1 v.2.1 v.2.2 (λr2 Ak Ah=>hq (B0q L (KA (O18 L) L 9 c18.w.u.l.u.l.l (rl [2,2,4,1,2,1]) (Hf (Io (EV (O18 L) L 9 c18.w.u.l.u.l.l) [0,1,2,3,4,6,7,11,15,20] [1] n) [0,1,2,3,4,6,7,11,15,20] [1] K)) r2 Ak a0 L (Ah,0)) λo3=>z8 L r2 Ak a0 (λAh Ag Ak=>re (ih (Ah,Ag,Ak))) o3))
def B2r(o5:Nat×Tu6)(U6:Int)(a0:Ac)(v:Jc):St:=⟨[(0,.any),zq7,(2,I o5.2.1),(3,I v.1),(4,.any),(5,.any),(6,I U6),(7,I v.2),A7e,(15,.any),(20,.any)],[(1,(Cm a0))],0⟩
def d9 [An A C3](o5:Nat×Tu6)(U6:Int)(a0:Ac)(rec:Int->Int->A)(Hw:Int)(Sf:Int):A:=
 (gi U6 a0.aA
 (cn (decide (Sf<((gD a0.aA U6).aD.length:Int)))
 (cn (Hw == 0)
 (gi U6 a0.aA
 (gi Sf ((gD a0.aA U6).aD)
 (bd (Wz L (⟨a0.aF,a0.aA,a0.aH⟩:Ac) U6 (gD ((gD a0.aA U6).aD) Sf)) λr7=>
 (rec r7 (Bu (Sf+1))))))
 (rec Hw (Bu (Sf+1))))
 (lf (0,Hw,Sf))))
def Jp(L:Nat)(o5:Nat×Tu6)(U6:Int)(a0:Ac):Nat->Int->Int->Option C3
 |0,_,_=>none
 |n+1,Hw,Sf=>d9 L o5 U6 a0 (Jp L o5 U6 a0 n) Hw Sf
theorem B0s(o5:Nat×Tu6)(U6:Int)(a0:Ac):LP (EV (O18 L) L 9 c18.x.u.l.u.l.l.u.l.l.u.l.l) [0,1,2,3,4,5,6,7,11,15,20] [1] (B2r o5 U6 a0) [.exit 7] (λn v=>Jp L o5 U6 a0 n v.1 v.2) K:=lE (λ_=>rfl) λn v ih=>eE (d9 L o5 U6 a0 (λHw Sf=>re (ih (Hw,Sf))) v.1 v.2)
def B2q(o5:Nat×Tu6)(a0:Ac)(v:Jc):St:=⟨[(0,.any),zq7,(2,I o5.2.1),(3,I v.1),(4,.any),(5,.any),(6,I v.2),A7e,(15,.any),(20,.any)],[(1,(Cm a0))],0⟩
def Aaa [An A C3](L:Nat)(U6:Int)(rec:Int->Int->A)(o8:Nat×Jc):A:=
 (sl o8.1 [(rec o8.2.1 (Bu (U6+1)))])
def Aa1 [An A C3](L:Nat)(o5:Nat×Tu6)(a0:Ac)(rec:Int->Int->A)(Ig:Int)(U6:Int)(nx3:Int->Int->A):A:=
 (cn (decide (U6<(a0.aA.length:Int)))
 (nx3 U6 Ig)
 (lf (0,Ig,U6)))
def Ah3 [An A C3](o5:Nat×Tu6)(a0:Ac)(rec:Int->Int->A)(Ig:Int)(U6:Int):A:=Aa1 L o5 a0 rec Ig U6 (λU6 Ig=>bd (Jp L o5 U6 a0 L Ig 0) λo8=>Aaa L U6 rec o8)
def Mw(L:Nat)(o5:Nat×Tu6)(a0:Ac):Nat->Int->Int->Option C3
 |0,_,_=>none
 |n+1,Ig,U6=>Ah3 L o5 a0 (Mw L o5 a0 n) Ig U6
theorem B0r(o5:Nat×Tu6)(a0:Ac):LP (EV (O18 L) L 9 c18.x.u.l.u.l.l) [0,1,2,3,4,5,6,11,15,20] [1] (B2q o5 a0) [.exit 5] (λn v=>Mw L o5 a0 n v.1 v.2) K:=lE (λ_=>rfl) λn v ih=>eE (Aa1 L o5 a0 (λIg U6=>re (ih (Ig,U6))) v.1 v.2 (λU6 Ig=>hq (B0s L (KA (O18 L) L 9 c18.x.u.l.u.l.l (rl [2,2,2,1]) (Hf (Io (EV (O18 L) L 9 c18.x.u.l.u.l.l) [0,1,2,3,4,5,6,11,15,20] [1] n) [0,1,2,3,4,5,6,11,15,20] [1] K)) o5 U6 a0 L (Ig,0)) λo8=>Aaa L U6 (λIg U6=>re (ih (Ig,U6))) o8))
def Aid [An A Int](L:Nat)(o9:Nat×Jc):A:=
 (sl o9.1 [(lf o9.2.1)])
def Ail [An A Int](a0:Ac)(o5:Nat×Tu6)(nx4:(Nat×Tu6)->Int->A):A:=
 (sl o5.1 [(lf o5.2.1),
 (bd (Aha L (⟨a0.aF,a0.aA,a0.aH⟩:Ac)) λr6=>
 (nx4 o5 r6))])
def Arr [An A Int](a0:Ac)(o5:Nat×Tu6):A:=Ail L a0 o5 (λo5 r6=>bd (Mw L o5 a0 L r6 0) λo9=>Aid L o9)
def Aik [An A Int](a0:Ac)(nx2:Int->A):A:=
 (bd (Jk L a0.aF) λr1=>
 (cn (r1 != 0)
 (lf r1)
 (cn ((a0.aA.length:Int) == 0)
 (lf 7)
 (cn (decide ((a0.aA.length:Int)>16))
 (lf 6)
 (nx2 r1)))))
def Azu [An A Int](a0:Ac):A:=Aik L a0 (λr1=>bd (Mv L a0 L 0 r1 0) λo5=>Arr L a0 o5)
def Uo(a0:Ac):Option Int:=Azu L a0
def X18:F3:=E1 I 18 B7 (Uo L) λa0 r h=>hF Tryz.func18 (C:=O18 L) (oS _) L (λkk=>eE (Aik L a0 (λr1=>hq (B0p L (KA (O18 L) L 9 c18 (rl [6,1,2,1]) (KE Tryz.f18 kk)) a0 L (0,r1,0)) λo5=>Ail L a0 o5 (λo5 r6=>hq (B0r L (KA (O18 L) L 9 c18 (rl [10,1,2,1]) (KE Tryz.f18 kk)) o5 a0 L (r6,0)) λo9=>Aid L o9)))) h
def Azy [An A Bool](L:Nat)(a0:Int):A:=
 (jp (.cn (decide (a0>=1))
 (.lf (decide (a0<=1000)))
 (.lf false)) (λb1=>
 (lf b1)))
def Aiy(a0:Int):Option Bool:=Azy L a0
def X67:F3:=E1 B 67 (cI .i64) (Aiy L) λa0 r h=>hF Tryz.func67 (oS []) L (λkk=>eE (Azy L a0)) h
end
end Go.Proofs.YthjhkpgonleelaaGreatDoor.Ev
