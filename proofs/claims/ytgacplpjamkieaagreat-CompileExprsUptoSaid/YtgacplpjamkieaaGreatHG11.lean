import Derived.Test.YtgacplpjamkieaaGreatHG10
set_option maxRecDepth 100000
set_option maxHeartbeats 4000000
set_option linter.unusedVariables false
set_option linter.unusedSimpArgs false
set_option linter.unnecessarySimpa false
namespace Go.Proofs.YtgacplpjamkieaaGreat.Ev
open Go An
noncomputable section
variable {A:Type} (L n:Nat) (kk:Hf) (K:De) (k:C3)
def A9q(F:Ao->Aa->Option Ef):Prop:=∀y0 y1 r,F y0 y1=some r->Ho Tryz.prog 63 [Dy.en y0,Ay.en y1] (λ(x:Ef)=>.aY [I x.1,I x.2]) r
def c63:=CC Tryz.f63
def O63(H8:Ao->Aa->Option Ef)(L:Nat):Ba:=(orc 63 (A2 (λ(x:Ef)=>.aY [I x.1,I x.2]) Dy Ay H8) (oL [X98 L,X99 L,Blw L]))
theorem s63(H8:Ao->Aa->Option Ef)(Bhz:A9q H8)(L:Nat):B8 Tryz.prog (O63 H8 L):=(B5 (a2 _ Bhz) (oS [X98 L,X99 L,Blw L]))
def Bkl(a0:Ao)(a1:Aa)(v:Int×Int×List Int×Int):St:=⟨[(0,.any),(1,.any),zq9,Qe,(4,I v.1),(5,I v.2.1),(6,.aO true (.t79 v.2.2.1)),(7,I v.2.2.2),(10,.any),(46,.any),(53,.any)],[(2,(Nq a0)),(3,(Bm a1))],0⟩
def R7 [An A (Nat×Int×Int×List Int×Int)](H8:Ao->Aa->Option Ef)(L:Nat)(a0:Ao)(a1:Aa)(rec:Int->Int->List Int->Int->A)(A9:Int)(Aq:Int)(Az:List Int)(Aj:Int):A:=
 (lw Aj a1.aQ
 (bd (H8 a0 (Aa.cp (gD a1.aQ Aj))) λr1=>
 (cn (r1.2 != 0)
 (lf (0,0,r1.2,Az,Aj))
 (gq ((Az.length+ [r1.1].length)*8<=140737488355328)
 (gq (Az.length+ [r1.1].length<=maxLen)
 (rec A9 Aq (Az++ [r1.1]) (Cp (Aj+1)))))))
 (lf (1,A9,Aq,Az,Aj)))
def Jm(H8:Ao->Aa->Option Ef)(L:Nat)(a0:Ao)(a1:Aa):Nat->Int->Int->List Int->Int->Option (Nat×Int×Int×List Int×Int)
 |0,_,_,_,_=>none
 |n+1,A9,Aq,Az,Aj=>R7 H8 L a0 a1 (Jm H8 L a0 a1 n) A9 Aq Az Aj
theorem Bi4(H8:Ao->Aa->Option Ef)(L:Nat)(K:De)(a0:Ao)(a1:Aa):LP (EV (O63 H8 L) L 9 c63.w.l.u.l.l) [0,1,2,3,4,5,6,7,10,46,53] [2,3] (Bkl a0 a1) [.ret,.exit 0] (λn v=>Jm H8 L a0 a1 n v.1 v.2.1 v.2.2.1 v.2.2.2) K:=lE (λ_=>rfl) λn v ih=>eE (R7 H8 L a0 a1 (λA9 Aq Az Aj=>re (ih (A9,Aq,Az,Aj))) v.1 v.2.1 v.2.2.1 v.2.2.2)
def Sl [An A Ef](H8:Ao->Aa->Option Ef)(L:Nat)(a0:Ao)(a1:Aa)(o2:Nat×Int×Int×List Int×Int):A:=
 (sl o2.1 [(lf (o2.2.1,o2.2.2.1)),
 (cn ((o2.2.2.2.1.length:Int) == 0)
 (bd (W5 L a0 (Aa.cp a1)) λr3=>
 (lf (r3.1,r3.2)))
 (cn ((o2.2.2.2.1.length:Int) == 1)
 (gi 0 o2.2.2.2.1
 (bd (Y3 L a1.Op (o2.2.2.2.1.getD 0 default)) λr4=>
 (cn (r4 == 0)
 (lf (0,10))
 (lf (r4,0)))))
 (gi 0 o2.2.2.2.1
 (gi 1 o2.2.2.2.1
 (bd (Wl L a1.Op (o2.2.2.2.1.getD 0 default) (o2.2.2.2.1.getD 1 default)) λr5=>
 (cn (r5 == 0)
 (lf (0,10))
 (lf (r5,0))))))))])
def Ans [An A Ef](H8:Ao->Aa->Option Ef)(L:Nat)(a0:Ao)(a1:Aa):A:=(bd (Jm H8 L a0 a1 L 0 0 [] 0) λo2=>Sl H8 L a0 a1 o2)
def Afd(H8:Ao->Aa->Option Ef)(L:Nat)(a0:Ao)(a1:Aa):Option Ef:=Ans H8 L a0 a1
theorem b63(H8:Ao->Aa->Option Ef)(Bhz:A9q H8)(L:Nat):A9q (Afd H8 L):=λa0 a1 r h=>hF Tryz.func63 (s63 H8 Bhz L) L (λkk=>eE ((hq (Bi4 H8 L (KA (O63 H8 L) L 9 c63 (rl [4,1,2,1]) (KE Tryz.f63 kk)) a0 a1 L (0,0,[],0)) λo2=>Sl H8 L a0 a1 o2))) h
def J0:Nat->Ao->Aa->Option Ef
 |0,_,_=>none
 |L+1,a0,a1=>Afd (J0 L) L a0 a1
theorem Bhq(L:Nat):A9q (J0 L):=by
 induction L with
 |zero=>exact λ_ _ _ h=>(by cases h)
 |succ L ih=>
  have i63:=ih;exact b63 (J0 L) i63 L
def X63(L:Nat):Fs:=E2 (λ(x:Ef)=>.aY [I x.1,I x.2]) 63 Dy Ay (J0 L) (Bhq L)
def Aie [An A Ef](a0:Ao)(a1:Aa):A:=
 (bd (Yz L (Aa.cp a1)) λr1=>
 (cn (r1 != 0)
 (lf (0,r1))
 (bd (J0 L a0 (Aa.cp a1)) λr2=>
 (lf (r2.1,r2.2)))))
def Acn(a0:Ao)(a1:Aa):Option Ef:=Aie L a0 a1
def X37:Fs:=E2 (λ(x:Ef)=>.aY [I x.1,I x.2]) 37 Dy Ay (Acn L) λa0 a1 r h=>hF Tryz.func37 (oS [X62 L,X63 L]) L (λkk=>eE (Aie L a0 a1)) h
def Bmm:=CC Tryz.f101
def Bf1(L:Nat):Ba:=oL []
def Bdq(a0:List Aw)(a1:Yb)(v:Ef):St:=⟨[(0,lv (.dG a0)),(1,S a1),(4,I v.1),(5,I v.2)],[],0⟩
def O8 [An A C0](L:Nat)(a0:List Aw)(a1:Yb)(rec:Int->Int->A)(Az:Int)(Aj:Int):A:=
 (cn (decide (Aj>=0))
 (gi Aj a0
 (cn ((gD a0 Aj).aD.toList == a1.toList)
 (lf (0,Aj,Aj))
 (rec Az (Cp (Aj-1)))))
 (lf (1,Az,Aj)))
def Ka(L:Nat)(a0:List Aw)(a1:Yb):Nat->Int->Int->Option C0
 |0,_,_=>none
 |n+1,Az,Aj=>O8 L a0 a1 (Ka L a0 a1 n) Az Aj
theorem Bb3(a0:List Aw)(a1:Yb):LP (EV (Bf1 L) L 9 Bmm.u.l.u.l.l) [0,1,4,5] [] (Bdq a0 a1) [.ret,.exit 0] (λn v=>Ka L a0 a1 n v.1 v.2) K:=lE (λ_=>rfl) λn v ih=>eE (O8 L a0 a1 (λAz Aj=>re (ih (Az,Aj))) v.1 v.2)
def Um [An A Int](L:Nat)(o1:Nat×Ef):A:=
 (sl o1.1 [(lf o1.2.1),
 (lf (-1))])
def Aqv [An A Int](a0:List Aw)(a1:Yb):A:=(bd (Ka L a0 a1 L 0 (Cp ((a0.length:Int)-1))) λo1=>Um L o1)
def Acp(a0:List Aw)(a1:Yb):Option Int:=Aqv L a0 a1
def Bqf:Fs:=E2 I 101 A97 cS (Acp L) λa0 a1 r h=>hF Tryz.func101 (C:=Bf1 L) (oS _) L (λkk=>eE ((hq (Bb3 L (KA (Bf1 L) L 9 Bmm (rl [2,1,2,1]) (KE Tryz.f101 kk)) a0 a1 L (0,(Cp ((a0.length:Int)-1)))) λo1=>Um L o1))) h
def Bmn:=CC Tryz.f102
def Bf2(L:Nat):Ba:=oL []
def Bdr(a1:Yb)(a0:Ab)(v:Ef):St:=⟨[(0,.any),(1,S a1),zq9,(4,I v.1),(5,I v.2)],[(2,(Af a0))],0⟩
def Mi [An A C0](L:Nat)(a1:Yb)(a0:Ab)(rec:Int->Int->A)(Aq:Int)(Az:Int):A:=
 (lw Az a0.aX
 (cn ((gD a0.aX Az).aD.toList == a1.toList)
 (lf (0,Az,Az))
 (rec Aq (Cp (Az+1))))
 (lf (1,Aq,Az)))
def F5(L:Nat)(a1:Yb)(a0:Ab):Nat->Int->Int->Option C0
 |0,_,_=>none
 |n+1,Aq,Az=>Mi L a1 a0 (F5 L a1 a0 n) Aq Az
theorem Bb4(a1:Yb)(a0:Ab):LP (EV (Bf2 L) L 9 Bmn.u.l.u.l.l) [0,1,2,4,5] [2] (Bdr a1 a0) [.ret,.exit 0] (λn v=>F5 L a1 a0 n v.1 v.2) K:=lE (λ_=>rfl) λn v ih=>eE (Mi L a1 a0 (λAq Az=>re (ih (Aq,Az))) v.1 v.2)
def Mm [An A Int](L:Nat)(o1:Nat×Ef):A:=
 (sl o1.1 [(lf o1.2.1),
 (lf (-1))])
def Afp [An A Int](a0:Ab)(a1:Yb):A:=(bd (F5 L a1 a0 L 0 0) λo1=>Mm L o1)
def Ra(a0:Ab)(a1:Yb):Option Int:=Afp L a0 a1
def Bqg:Fs:=E2 I 102 Cr cS (Ra L) λa0 a1 r h=>hF Tryz.func102 (C:=Bf2 L) (oS _) L (λkk=>eE ((hq (Bb4 L (KA (Bf2 L) L 9 Bmn (rl [2,1,2,1]) (KE Tryz.f102 kk)) a1 a0 L (0,0)) λo1=>Mm L o1))) h
def Aii [An A Tu6](a0:Ao)(a1:Yb):A:=
 (bd (Acp L a0.aP a1) λr1=>
 (cn (decide (r1>=0))
 (lf ((Aa.mk 25 (⟨#[]⟩:Yb) r1 []),0))
 (bd (Ra L a0.aF a1) λr2=>
 (cn (decide (r2<0))
 (lf ((Aa.mk 0 (⟨#[]⟩:Yb) 0 []),5))
 (lf ((Aa.mk 26 (⟨#[]⟩:Yb) r2 []),0))))))
def Acq(a0:Ao)(a1:Yb):Option Tu6:=Aii L a0 a1
def X64:Fs:=E2 (λ(x:Tu6)=>.aY [.agg (Bm x.1),I x.2]) 64 Dy cS (Acq L) λa0 a1 r h=>hF Tryz.func64 (oS [Bqf L,Bqg L]) L (λkk=>eE (Aii L a0 a1)) h
def Bmo:=CC Tryz.f103
def Bf3:Ba:=oL [Bl7 L,Bgo L]
def Bds(a1:Yb)(r1:List (List Yb))(a0:Ab)(v:Ef):St:=⟨[(0,.any),(1,S a1),(2,.any),(4,I v.1),(5,lv (.t31 r1)),(6,I v.2)],[(2,(Af a0))],0⟩
def R1 [An A C0](a1:Yb)(r1:List (List Yb))(a0:Ab)(rec:Int->Int->A)(Aq:Int)(Aj:Int):A:=
 (lw Aj r1
 (bd (Ib L (gD r1 Aj) a1) λr2=>
 (cn (decide (r2>=0))
 (lf (0,r2,Aj))
 (rec Aq (Cp (Aj+1)))))
 (lf (1,Aq,Aj)))
def Jf(L:Nat)(a1:Yb)(r1:List (List Yb))(a0:Ab):Nat->Int->Int->Option C0
 |0,_,_=>none
 |n+1,Aq,Aj=>R1 L a1 r1 a0 (Jf L a1 r1 a0 n) Aq Aj
theorem Bb5(a1:Yb)(r1:List (List Yb))(a0:Ab):LP (EV (Bf3 L) L 9 Bmo.w.l.u.l.l) [0,1,2,4,5,6] [2] (Bds a1 r1 a0) [.ret,.exit 0] (λn v=>Jf L a1 r1 a0 n v.1 v.2) K:=lE (λ_=>rfl) λn v ih=>eE (R1 L a1 r1 a0 (λAq Aj=>re (ih (Aq,Aj))) v.1 v.2)
def Sh [An A Int](L:Nat)(o3:Nat×Ef):A:=
 (sl o3.1 [(lf o3.2.1),
 (lf (-1))])
def Sr [An A Int](a0:Ab)(a1:Yb)(nx1:(List (List Yb))->A):A:=
 (bd (Uu L a0) λr1=>
 (nx1 r1))
def Anp [An A Int](a0:Ab)(a1:Yb):A:=Sr L a0 a1 (λr1=>bd (Jf L a1 r1 a0 L 0 0) λo3=>Sh L o3)
def Y1(a0:Ab)(a1:Yb):Option Int:=Anp L a0 a1
def Bqh:Fs:=E2 I 103 Cr cS (Y1 L) λa0 a1 r h=>hF Tryz.func103 (C:=Bf3 L) (oS _) L (λkk=>eE (Sr L a0 a1 (λr1=>hq (Bb5 L (KA (Bf3 L) L 9 Bmo (rl [4,1,2,1]) (KE Tryz.f103 kk)) a1 r1 a0 L (0,0)) λo3=>Sh L o3))) h
def Uy [An A Int](a0:Ab)(a1:Aa):A:=
 (bd (Y1 L a0 a1.aD) λr1=>
 (jb (.cn (a1.Op == 24)
 (.bd (W4 L a0 a1.aD) λr3=>
 (.lf (r3.toList == (⟨#[113,117,101,117,101]⟩:Yb).toList)))
 (.lf false)) (λb2=>
 (cn b2
 (lf (Cp ((a0.aI.length:Int)+r1)))
 (lf r1)))))
def Ms(a0:Ab)(a1:Aa):Option Int:=Uy L a0 a1
def X65:Fs:=E2 I 65 Cr Ay (Ms L) λa0 a1 r h=>hF Tryz.func65 (oS [Bqh L,Blx L]) L (λkk=>eE (Uy L a0 a1)) h
def A9n(F:Ao->Aa->Option Tu6):Prop:=∀y0 y1 r,F y0 y1=some r->Ho Tryz.prog 38 [Dy.en y0,Ay.en y1] (λ(x:Tu6)=>.aY [.agg (Bm x.1),I x.2]) r
def c38:=CC Tryz.f38
def O38(Dj:Ao->Aa->Option Tu6)(L:Nat):Ba:=(orc 38 (A2 (λ(x:Tu6)=>.aY [.agg (Bm x.1),I x.2]) Dy Ay Dj) (oL [X64 L,X65 L]))
theorem s38(Dj:Ao->Aa->Option Tu6)(Bhw:A9n Dj)(L:Nat):B8 Tryz.prog (O38 Dj L):=(B5 (a2 _ Bhw) (oS [X64 L,X65 L]))
def Bkb(a0:Ao)(a1:Aa)(v:A3u):St:=⟨[(0,.any),(1,.any),zq9,Qe,(4,.loc 4 0),(5,I v.1),(6,.loc 6 0),(7,I v.2.1),(12,.any),(20,.any)],[(2,(Nq a0)),(3,(Bm a1)),(4,[I v.2.2.1,S v.2.2.2.1,I v.2.2.2.2.1,.aO true (.t53 [])]),(6,[I a1.Op,S (⟨#[]⟩:Yb),I a1.N,.aO true (.t53 v.2.2.2.2.2)])],0⟩
def Mh [An A (Nat×A3u)](Dj:Ao->Aa->Option Tu6)(L:Nat)(a0:Ao)(a1:Aa)(rec:Int->Int->Int->Yb->Int->List Aa->A)(A9:Int)(Aq:Int)(Dt:Int)(Df:Yb)(B6:Int)(Mp:List Aa):A:=
 (lw Aq a1.aQ
 (bd (Dj a0 (Aa.cp (gD a1.aQ Aq))) λr3=>
 (cn (r3.2 != 0)
 (lf (0,(r3.2,Aq,0,(⟨#[]⟩:Yb),0,Mp)))
 (gq ((Mp.length+ [(Aa.cp r3.1)].length)*56<=140737488355328)
 (gq (Mp.length+ [(Aa.cp r3.1)].length<=maxLen)
 (rec A9 (Cp (Aq+1)) Dt Df B6 (Mp++ [(Aa.cp r3.1)]))))))
 (lf (1,A9,Aq,Dt,Df,B6,Mp)))
def Dk(Dj:Ao->Aa->Option Tu6)(L:Nat)(a0:Ao)(a1:Aa):Nat->Int->Int->Int->Yb->Int->List Aa->Option (Nat×A3u)
 |0,_,_,_,_,_,_=>none
 |n+1,A9,Aq,Dt,Df,B6,Mp=>Mh Dj L a0 a1 (Dk Dj L a0 a1 n) A9 Aq Dt Df B6 Mp
theorem A03(Dj:Ao->Aa->Option Tu6)(L:Nat)(K:De)(a0:Ao)(a1:Aa):LP (EV (O38 Dj L) L 9 c38.w.u.l.u.l.l) [0,1,2,3,4,5,6,7,12,20] [2,3,4,6] (Bkb a0 a1) [.ret,.exit 1] (λn v=>Dk Dj L a0 a1 n v.1 v.2.1 v.2.2.1 v.2.2.2.1 v.2.2.2.2.1 v.2.2.2.2.2) K:=lE (λ_=>rfl) λn v ih=>eE (Mh Dj L a0 a1 (λA9 Aq Dt Df B6 Mp=>re (ih (A9,Aq,Dt,Df,B6,Mp))) v.1 v.2.1 v.2.2.1 v.2.2.2.1 v.2.2.2.2.1 v.2.2.2.2.2)
def Cu [An A Tu6](Dj:Ao->Aa->Option Tu6)(L:Nat)(a1:Aa)(o6:Nat×A3u):A:=
 (sl o6.1 [(lf ((Aa.mk o6.2.2.2.1 o6.2.2.2.2.1 o6.2.2.2.2.2.1 []),o6.2.1)),
 (lf ((Aa.mk a1.Op (⟨#[]⟩:Yb) a1.N o6.2.2.2.2.2.2),0))])
def Cv [An A Tu6](Dj:Ao->Aa->Option Tu6)(L:Nat)(a1:Aa)(o7:Nat×A3u):A:=
 (sl o7.1 [(lf ((Aa.mk o7.2.2.2.1 o7.2.2.2.2.1 o7.2.2.2.2.2.1 []),o7.2.1)),
 (lf ((Aa.mk a1.Op (⟨#[]⟩:Yb) a1.N o7.2.2.2.2.2.2),0))])
def Cw [An A Tu6](Dj:Ao->Aa->Option Tu6)(L:Nat)(a1:Aa)(o8:Nat×A3u):A:=
 (sl o8.1 [(lf ((Aa.mk o8.2.2.2.1 o8.2.2.2.2.1 o8.2.2.2.2.2.1 []),o8.2.1)),
 (lf ((Aa.mk a1.Op (⟨#[]⟩:Yb) a1.N o8.2.2.2.2.2.2),0))])
def Cx [An A Tu6](Dj:Ao->Aa->Option Tu6)(L:Nat)(a0:Ao)(a1:Aa)(nx1:A)(nx2:A)(nx3:A):A:=
 (cn (a1.Op == 3)
 (bd (Acq L a0 a1.aD) λr1=>
 (lf ((Aa.cp r1.1),r1.2)))
 (cn (a1.Op == 22)
 (cn (a1.Op == 22)
 (bd (Ms L a0.aF (Aa.cp a1)) λr2=>
 (lf ((Aa.mk a1.Op (⟨#[]⟩:Yb) r2 []),0)))
 nx1)
 (cn (a1.Op == 23)
 (cn (a1.Op == 23)
 (bd (Ms L a0.aF (Aa.cp a1)) λr4=>
 (lf ((Aa.mk a1.Op (⟨#[]⟩:Yb) r4 []),0)))
 nx2)
 (cn (a1.Op == 24)
 (bd (Ms L a0.aF (Aa.cp a1)) λr5=>
 (lf ((Aa.mk a1.Op (⟨#[]⟩:Yb) r5 []),0)))
 nx3))))
def Kn [An A Tu6](Dj:Ao->Aa->Option Tu6)(L:Nat)(a0:Ao)(a1:Aa):A:=Cx Dj L a0 a1 (bd (Dk Dj L a0 a1 L 0 0 0 (⟨#[]⟩:Yb) 0 []) λo6=>Cu Dj L a1 o6) (bd (Dk Dj L a0 a1 L 0 0 0 (⟨#[]⟩:Yb) 0 []) λo7=>Cv Dj L a1 o7) (bd (Dk Dj L a0 a1 L 0 0 0 (⟨#[]⟩:Yb) 0 []) λo8=>Cw Dj L a1 o8)
def I9(Dj:Ao->Aa->Option Tu6)(L:Nat)(a0:Ao)(a1:Aa):Option Tu6:=Kn Dj L a0 a1
theorem b38(Dj:Ao->Aa->Option Tu6)(Bhw:A9n Dj)(L:Nat):A9n (I9 Dj L):=λa0 a1 r h=>hF Tryz.func38 (s38 Dj Bhw L) L (λkk=>eE (Cx Dj L a0 a1 (hq (A03 Dj L (KA (O38 Dj L) L 9 c38 (rl [6,1,2,1]) (KE Tryz.f38 kk)) a0 a1 L (0,0,0,(⟨#[]⟩:Yb),0,[])) λo6=>Cu Dj L a1 o6) (hq (A03 Dj L (KA (O38 Dj L) L 9 c38 (rl [6,1,2,1]) (KE Tryz.f38 kk)) a0 a1 L (0,0,0,(⟨#[]⟩:Yb),0,[])) λo7=>Cv Dj L a1 o7) (hq (A03 Dj L (KA (O38 Dj L) L 9 c38 (rl [6,1,2,1]) (KE Tryz.f38 kk)) a0 a1 L (0,0,0,(⟨#[]⟩:Yb),0,[])) λo8=>Cw Dj L a1 o8))) h
def Ci:Nat->Ao->Aa->Option Tu6
 |0,_,_=>none
 |L+1,a0,a1=>I9 (Ci L) L a0 a1
theorem Bhn(L:Nat):A9n (Ci L):=by
 induction L with
 |zero=>exact λ_ _ _ h=>(by cases h)
 |succ L ih=>
  have i38:=ih;exact b38 (Ci L) i38 L
def X38(L:Nat):Fs:=E2 (λ(x:Tu6)=>.aY [.agg (Bm x.1),I x.2]) 38 Dy Ay (Ci L) (Bhn L)
def Aih [An A Tu6](a0:Ao)(a1:Aa):A:=
 (bd (Acn L a0 (Aa.cp a1)) λr1=>
 (cn (r1.2 != 0)
 (lf ((Aa.mk 0 (⟨#[]⟩:Yb) 0 []),r1.2))
 (bd (Ci L a0 (Aa.cp a1)) λr2=>
 (lf ((Aa.cp r2.1),r2.2)))))
def Ah8(a0:Ao)(a1:Aa):Option Tu6:=Aih L a0 a1
def X18:Fs:=E2 (λ(x:Tu6)=>.aY [.agg (Bm x.1),I x.2]) 18 Dy Ay (Ah8 L) λa0 a1 r h=>hF Tryz.func18 (oS [X37 L,X38 L]) L (λkk=>eE (Aih L a0 a1)) h
def A3q(F:Aa->Aa->Option Bool):Prop:=∀y0 y1 r,F y0 y1=some r->Ho Tryz.prog 19 [Ay.en y0,Ay.en y1] B r
def A3s(F:(List Aa)->(List Aa)->Option Bool):Prop:=∀y0 y1 r,F y0 y1=some r->Ho Tryz.prog 39 [Aq4.en y0,Aq4.en y1] B r
def O19(Dw:Aa->Aa->Option Bool)(D1:(List Aa)->(List Aa)->Option Bool)(L:Nat):Ba:=(orc 19 (A2 B Ay Ay Dw) (orc 39 (A2 B Aq4 Aq4 D1) (oL [])))
theorem s19(Dw:Aa->Aa->Option Bool)(D1:(List Aa)->(List Aa)->Option Bool)(A0v:A3q Dw)(A0x:A3s D1)(L:Nat):B8 Tryz.prog (O19 Dw D1 L):=(B5 (a2 _ A0v) (B5 (a2 _ A0x) (oS [])))
def Aic [An A Bool](Dw:Aa->Aa->Option Bool)(D1:(List Aa)->(List Aa)->Option Bool)(L:Nat)(a0:Aa)(a1:Aa):A:=
 (jp (.cn (a0.Op != a1.Op)
 (.lf true)
 (.lf (!(a0.aD.toList == a1.aD.toList)))) (λb1=>
 (jp (.cn b1
 (.lf true)
 (.lf (a0.N != a1.N))) (λb2=>
 (cn b2
 (lf false)
 (bd (D1 a0.aQ a1.aQ) λr3=>
 (lf r3)))))))
def Acj(Dw:Aa->Aa->Option Bool)(D1:(List Aa)->(List Aa)->Option Bool)(L:Nat)(a0:Aa)(a1:Aa):Option Bool:=Aic Dw D1 L a0 a1
theorem b19(Dw:Aa->Aa->Option Bool)(D1:(List Aa)->(List Aa)->Option Bool)(A0v:A3q Dw)(A0x:A3s D1)(L:Nat):A3q (Acj Dw D1 L):=λa0 a1 r h=>hF Tryz.func19 (s19 Dw D1 A0v A0x L) L (λkk=>eE (Aic Dw D1 L a0 a1)) h
def c39:=CC Tryz.f39
def O39(Dw:Aa->Aa->Option Bool)(D1:(List Aa)->(List Aa)->Option Bool)(L:Nat):Ba:=(orc 19 (A2 B Ay Ay Dw) (orc 39 (A2 B Aq4 Aq4 D1) (oL [])))
theorem s39(Dw:Aa->Aa->Option Bool)(D1:(List Aa)->(List Aa)->Option Bool)(A0v:A3q Dw)(A0x:A3s D1)(L:Nat):B8 Tryz.prog (O39 Dw D1 L):=(B5 (a2 _ A0v) (B5 (a2 _ A0x) (oS [])))
def Bkc(a0:List Aa)(a1:List Aa)(v:Bool×Int):St:=⟨[(0,lv (.t53 a0)),(1,lv (.t53 a1)),(4,B v.1),(5,I v.2)],[],0⟩
def Nv [An A (Nat×Bool×Int)](Dw:Aa->Aa->Option Bool)(D1:(List Aa)->(List Aa)->Option Bool)(L:Nat)(a0:List Aa)(a1:List Aa)(rec:Bool->Int->A)(Az:Bool)(Aj:Int):A:=
 (lw Aj a0
 (gi Aj a1
 (bd (Dw (Aa.cp (gD a0 Aj)) (Aa.cp (gD a1 Aj))) λr1=>
 (cn (!r1)
 (lf (0,false,Aj))
 (rec Az (Cp (Aj+1))))))
 (lf (1,Az,Aj)))
def Gm(Dw:Aa->Aa->Option Bool)(D1:(List Aa)->(List Aa)->Option Bool)(L:Nat)(a0:List Aa)(a1:List Aa):Nat->Bool->Int->Option (Nat×Bool×Int)
 |0,_,_=>none
 |n+1,Az,Aj=>Nv Dw D1 L a0 a1 (Gm Dw D1 L a0 a1 n) Az Aj
theorem Biw(Dw:Aa->Aa->Option Bool)(D1:(List Aa)->(List Aa)->Option Bool)(L:Nat)(K:De)(a0:List Aa)(a1:List Aa):LP (EV (O39 Dw D1 L) L 9 c39.w.l.u.l.l) [0,1,4,5] [] (Bkc a0 a1) [.ret,.exit 0] (λn v=>Gm Dw D1 L a0 a1 n v.1 v.2) K:=lE (λ_=>rfl) λn v ih=>eE (Nv Dw D1 L a0 a1 (λAz Aj=>re (ih (Az,Aj))) v.1 v.2)
def Tu [An A Bool](Dw:Aa->Aa->Option Bool)(D1:(List Aa)->(List Aa)->Option Bool)(L:Nat)(o2:Nat×Bool×Int):A:=
 (sl o2.1 [(lf o2.2.1),
 (lf true)])
def T5 [An A Bool](Dw:Aa->Aa->Option Bool)(D1:(List Aa)->(List Aa)->Option Bool)(L:Nat)(a0:List Aa)(a1:List Aa)(nx1:A):A:=
 (cn ((a0.length:Int) != (a1.length:Int))
 (lf false)
 nx1)
def Ahs [An A Bool](Dw:Aa->Aa->Option Bool)(D1:(List Aa)->(List Aa)->Option Bool)(L:Nat)(a0:List Aa)(a1:List Aa):A:=T5 Dw D1 L a0 a1 (bd (Gm Dw D1 L a0 a1 L false 0) λo2=>Tu Dw D1 L o2)
def T6(Dw:Aa->Aa->Option Bool)(D1:(List Aa)->(List Aa)->Option Bool)(L:Nat)(a0:List Aa)(a1:List Aa):Option Bool:=Ahs Dw D1 L a0 a1
theorem b39(Dw:Aa->Aa->Option Bool)(D1:(List Aa)->(List Aa)->Option Bool)(A0v:A3q Dw)(A0x:A3s D1)(L:Nat):A3s (T6 Dw D1 L):=λa0 a1 r h=>hF Tryz.func39 (s39 Dw D1 A0v A0x L) L (λkk=>eE (T5 Dw D1 L a0 a1 (hq (Biw Dw D1 L (KA (O39 Dw D1 L) L 9 c39 (rl [4,1,2,1]) (KE Tryz.f39 kk)) a0 a1 L (false,0)) λo2=>Tu Dw D1 L o2))) h
mutual
def F1:Nat->Aa->Aa->Option Bool
 |0,_,_=>none
 |L+1,a0,a1=>Acj (F1 L) (F0 L) L a0 a1
def F0:Nat->(List Aa)->(List Aa)->Option Bool
 |0,_,_=>none
 |L+1,a0,a1=>T6 (F1 L) (F0 L) L a0 a1
end
theorem Bhi(L:Nat):A3q (F1 L)/\A3s (F0 L):=by
 induction L with
 |zero=>exact⟨λ_ _ _ h=>(by cases h),λ_ _ _ h=>(by cases h)⟩
 |succ L ih=>
  obtain⟨i19,i39⟩:=ih;exact⟨b19 (F1 L) (F0 L) i19 i39 L,b39 (F1 L) (F0 L) i19 i39 L⟩
def X19(L:Nat):Fs:=E2 B 19 Ay Ay (F1 L) ((Bhi L).1)
end
end Go.Proofs.YtgacplpjamkieaaGreat.Ev
