import Derived.Test.YtgacplpjamkieaaGreatZG1
set_option maxRecDepth 100000
set_option maxHeartbeats 4000000
set_option linter.unusedVariables false
set_option linter.unusedSimpArgs false
set_option linter.unnecessarySimpa false
namespace Go.Proofs.YtgacplpjamkieaaGreat.Ev
open Go An
noncomputable section
variable {A:Type} (L n:Nat) (kk:Tb) (K:Hp) (k:Ei)
def Adl:=CC Tryz.f160
def Aml(L:Nat):Bj:=oL []
def Ayh:(B9×Bool)->Prop:=λx=>kk ((λ(x:B9×Bool)=>.bI [.agg (Z8 x.1),B x.2]) x)
def A7o:St:=⟨[Ab9,(3,B false)],[Bp6],0⟩
def A67(L:Nat)(kk:Tb):Hp:=(KE Tryz.f160 kk)
def Zi [An A (B9×Bool)](L:Nat):A:=
 (lf ((⟨false,false,false,false,false,false,false,false,false⟩:B9),false))
theorem Bfd:EV (Aml L) L 9 Adl.w (A7o) (A67 L kk)=ob (Zi L) (Ayh kk):=eE (Zi L)
def Aub(a0:Int)(p803_2:Bool):St:=⟨[Ab9,(3,B false),(4,I a0),(32,B p803_2)],[Bp6],0⟩
def At9(e0:EC):Hp:=(Gc 0 (Pt (EV (Aml L) L 9 e0) (KE Tryz.f160 kk)))
def sx_stmt_uses_3 [An A (B9×Bool)](L:Nat)(a0:Int)(p803_2:Bool)(nx1:A):A:=
 (cn p803_2
 (lf ((⟨true,false,false,false,false,false,false,false,false⟩:B9),true))
 (cn (a0 == 13)
 (lf ((⟨true,true,true,false,true,false,false,false,false⟩:B9),true))
 (cn (a0 == 14)
 (lf ((⟨true,false,true,false,true,false,false,false,false⟩:B9),true))
 (cn (a0 == 18)
 (lf ((⟨false,false,false,false,false,false,false,false,false⟩:B9),true))
 nx1))))
def Ad7 [An A (B9×Bool)](a0:Int)(p803_2:Bool):A:=sx_stmt_uses_3 L a0 p803_2 (Zi L)
theorem Bfi(a0:Int)(p803_2:Bool)(z1:EC):EV (Aml L) L 9 Adl.u.l.u.l.x.x.w.u.r (Aub a0 p803_2) (At9 L kk (EC.put (rl [1]) z1 Adl.u.r))= @sx_stmt_uses_3 Prop (anP (Ayh kk)) L a0 p803_2 (EV (Aml L) L 9 z1 (A7o) (A67 L kk)):=by kernel_rfl
theorem Bff(a0:Int)(p803_2:Bool):EV (Aml L) L 9 Adl.u.l.u.l.x.x.w.u.r (Aub a0 p803_2) (At9 L kk Adl.u.r)=ob (Ad7 L a0 p803_2) (Ayh kk):=Eq.trans (b:=EV (Aml L) L 9 Adl.u.l.u.l.x.x.w.u.r (Aub a0 p803_2) (At9 L kk (EC.put (rl [1]) Adl.w Adl.u.r))) (by kernel_rfl) ((Bfi L kk a0 p803_2 Adl.w).trans (eE (sx_stmt_uses_3 L a0 p803_2 (re (Bfd L kk)))))
def Aua(a0:Int)(p802_2:Bool):St:=⟨[Ab9,(3,B false),(4,I a0),(5,B p802_2)],[Bp6],0⟩
def At8(e0:EC):Hp:=(Gc 0 (Pt (EV (Aml L) L 9 e0) (KE Tryz.f160 kk)))
def sx_stmt_uses_2 [An A (B9×Bool)](L:Nat)(a0:Int)(p802_2:Bool)(nx3:Int->Bool->A):A:=
 (cn p802_2
 (lf ((⟨true,false,true,false,false,false,false,false,false⟩:B9),true))
 (cn (a0 == 2)
 (lf ((⟨true,true,false,false,false,true,false,false,false⟩:B9),true))
 (cn (a0 == 3)
 (lf ((⟨false,false,true,false,false,false,false,true,true⟩:B9),true))
 (cn (a0 == 4)
 (lf ((⟨false,false,true,false,false,false,false,true,false⟩:B9),true))
 (cn (a0 == 5)
 (lf ((⟨false,false,true,false,false,false,false,false,false⟩:B9),true))
 (cn (a0 == 6)
 (lf ((⟨true,false,true,true,false,false,true,false,false⟩:B9),true))
 (cn (a0 == 9)
 (lf ((⟨true,true,false,false,false,false,false,false,false⟩:B9),true))
 (cn (a0 == 10)
 (nx3 a0 (a0 == 10))
 (nx3 a0 (a0 == 11))))))))))
def Ad6 [An A (B9×Bool)](a0:Int)(p802_2:Bool):A:=sx_stmt_uses_2 L a0 p802_2 (λa0 p803_2=>Ad7 L a0 p803_2)
theorem Bfh(a0:Int)(p802_2:Bool)(z3:EC):EV (Aml L) L 9 (EC.put (rl [21]) z3 Adl.u.l.u.l.u) (Aua a0 p802_2) (At8 L kk Adl.u.r)= @sx_stmt_uses_2 Prop (anP (Ayh kk)) L a0 p802_2 (λa0 p803_2=>EV (Aml L) L 9 z3 (Aub a0 p803_2) (At9 L kk Adl.u.r)):=by kernel_rfl
theorem Bfe(a0:Int)(p802_2:Bool):EV (Aml L) L 9 Adl.u.l.u.l.u (Aua a0 p802_2) (At8 L kk Adl.u.r)=ob (Ad6 L a0 p802_2) (Ayh kk):=Eq.trans (b:=EV (Aml L) L 9 (EC.put (rl [21]) Adl.u.l.u.l.x.x.w.u.r Adl.u.l.u.l.u) (Aua a0 p802_2) (At8 L kk Adl.u.r)) (by kernel_rfl) ((Bfh L kk a0 p802_2 Adl.u.l.u.l.x.x.w.u.r).trans (eE (sx_stmt_uses_2 L a0 p802_2 (λa0 p803_2=>re (Bff L kk a0 p803_2)))))
def sx_stmt_uses_0 [An A (B9×Bool)](L:Nat)(a0:Int)(nx2:Int->Bool->A):A:=
 (cn (a0 == 1)
 (nx2 a0 (a0 == 1))
 (cn (a0 == 7)
 (nx2 a0 (a0 == 7))
 (cn (a0 == 8)
 (nx2 a0 (a0 == 8))
 (cn (a0 == 12)
 (nx2 a0 (a0 == 12))
 (cn (a0 == 15)
 (nx2 a0 (a0 == 15))
 (cn (a0 == 16)
 (nx2 a0 (a0 == 16))
 (nx2 a0 (a0 == 17))))))))
def Asb [An A (B9×Bool)](a0:Int):A:=sx_stmt_uses_0 L a0 (λa0 p802_2=>Ad6 L a0 p802_2)
theorem Bfg(a0:Int)(z2:EC):EW (Aml L) L 9 (RS Tryz.f160) (EC.put (rl [2,1,2,1,2]) z2 Adl) [I a0] kk= @sx_stmt_uses_0 Prop (anP (Ayh kk)) L a0 (λa0 p802_2=>EV (Aml L) L 9 z2 (Aua a0 p802_2) (At8 L kk Adl.u.r)):=by kernel_rfl
def Aar(a0:Int):Option (B9×Bool):=Asb L a0
def Bqt:N1:=E1 (λ(x:B9×Bool)=>.bI [.agg (Z8 x.1),B x.2]) 160 (cI .i64) (Aar L) λa0 r h=>hF Tryz.func160 (C:=Aml L) (oS _) L (λkk=>Eq.trans (b:=EW (Aml L) L 9 (RS Tryz.f160) (EC.put (rl [2,1,2,1,2]) Adl.u.l.u.l.u Adl) [I a0] kk) (by kernel_rfl) ((Bfg L kk a0 Adl.u.l.u.l.u).trans (eE (sx_stmt_uses_0 L a0 (λa0 p802_2=>re (Bfe L kk a0 p802_2)))))) h
def A6m(F:Aa->Aa->Option Bool):Prop:=∀y0 y1 r,F y0 y1=some r->Ho Tryz.prog 213 [B4.en y0,B4.en y1] B r
def Bsc:=CC Tryz.f213
def Bkm(Gn:Aa->Aa->Option Bool)(L:Nat):Bj:=(orc 213 (A2 B B4 B4 Gn) (oL []))
theorem Bxc(Gn:Aa->Aa->Option Bool)(Bbi:A6m Gn)(L:Nat):Df Tryz.prog (Bkm Gn L):=(Dc (a2 _ Bbi) (oS []))
def Bic(a0:Aa)(a1:Aa)(v:Tu4):St:=⟨[(0,.any),(1,.any),(2,.any),zq9,(4,B v.1),(36,lv (.t53 a0.bJ)),(37,I (a0.bJ.length:Int)),(38,I v.2)],[(2,(Hv a0)),(3,(Hv a1))],0⟩
def Y0 [An A (Nat×Tu4)](Gn:Aa->Aa->Option Bool)(L:Nat)(a0:Aa)(a1:Aa)(rec:Bool->Int->A)(Av:Bool)(Ak:Int):A:=
 (lw Ak a0.bJ
 (gi Ak a1.bJ
 (bd (Gn (Aa.cp (gD a0.bJ Ak)) (Aa.cp (gD a1.bJ Ak))) λr4=>
 (cn (!r4)
 (lf (0,false,Ak))
 (rec Av (Bb (Ak+1))))))
 (lf (1,Av,Ak)))
def N7(Gn:Aa->Aa->Option Bool)(L:Nat)(a0:Aa)(a1:Aa):Nat->Bool->Int->Option (Nat×Tu4)
 |0,_,_=>none
 |n+1,Av,Ak=>Y0 Gn L a0 a1 (N7 Gn L a0 a1 n) Av Ak
theorem Bg3(Gn:Aa->Aa->Option Bool)(L:Nat)(K:Hp)(a0:Aa)(a1:Aa):LP (EV (Bkm Gn L) L 9 Bsc.w.l.u.l.l) [0,1,2,3,4,36,37,38] [2,3] (Bic a0 a1) [.ret,.exit 0] (λn v=>N7 Gn L a0 a1 n v.1 v.2) K:=lE (λ_=>rfl) λn v ih=>eE (Y0 Gn L a0 a1 (λAv Ak=>re (ih (Av,Ak))) v.1 v.2)
def Y8 [An A Bool](Gn:Aa->Aa->Option Bool)(L:Nat)(o5:Nat×Tu4):A:=
 (sl o5.1 [(lf o5.2.1),
 (lf true)])
def Zm [An A Bool](Gn:Aa->Aa->Option Bool)(L:Nat)(a0:Aa)(a1:Aa)(nx1:A):A:=
 (jp (.cn (a0.Op != a1.Op)
 (.lf true)
 (.lf (!(a0.aG.toList == a1.aG.toList)))) (λb1=>
 (jp (.cn b1
 (.lf true)
 (.lf (a0.N != a1.N))) (λb2=>
 (jp (.cn b2
 (.lf true)
 (.lf ((a0.bJ.length:Int) != (a1.bJ.length:Int)))) (λb3=>
 (cn b3
 (lf false)
 nx1)))))))
def Asa [An A Bool](Gn:Aa->Aa->Option Bool)(L:Nat)(a0:Aa)(a1:Aa):A:=Zm Gn L a0 a1 (bd (N7 Gn L a0 a1 L false 0) λo5=>Y8 Gn L o5)
def Aju(Gn:Aa->Aa->Option Bool)(L:Nat)(a0:Aa)(a1:Aa):Option Bool:=Asa Gn L a0 a1
theorem Bwe(Gn:Aa->Aa->Option Bool)(Bbi:A6m Gn)(L:Nat):A6m (Aju Gn L):=λa0 a1 r h=>hF Tryz.func213 (Bxc Gn Bbi L) L (λkk=>eE (Zm Gn L a0 a1 (hq (Bg3 Gn L (KA (Bkm Gn L) L 9 Bsc (rl [4,1,2,1]) (KE Tryz.f213 kk)) a0 a1 L (false,0)) λo5=>Y8 Gn L o5))) h
def O1:Nat->Aa->Aa->Option Bool
 |0,_,_=>none
 |L+1,a0,a1=>Aju (O1 L) L a0 a1
theorem Bft(L:Nat):A6m (O1 L):=by
 induction L with
 |zero=>exact λ_ _ _ h=>(by cases h)
 |succ L ih=>
  have i213:=ih;exact Bwe (O1 L) i213 L
def Bvy(L:Nat):N1:=E2 B 213 B4 B4 (O1 L) (Bft L)
def Aj6 [An A Bool](a0:Ad)(a1:B9):A:=
 (jp (.cn a1.dI
 (.lf true)
 (.lf (a0.aG.toList == (⟨#[]⟩:Yb).toList))) (λb1=>
 (jp (.cn b1
 (.cn a1.fM
 (.lf true)
 (.lf (a0.Of.toList == (⟨#[]⟩:Yb).toList)))
 (.lf false)) (λb2=>
 (cn b2
 (cn a1.fU
 (nq (cn a1.gM
 (nq (jp (.cn a1.fK
 (.lf true)
 (.lf ((a0.aS.length:Int) == 0))) (λb3=>
 (cn b3
 (cn a1.eF
 (nq (jp (.cn a1.dY
 (.lf true)
 (.lf (!a0.bZ))) (λb4=>
 (jp (.cn b4
 (.cn a1.dV
 (.lf true)
 (.lf ((a0.aK.length:Int) == 0)))
 (.lf false)) (λb5=>
 (jp (.cn b5
 (.cn a1.dO
 (.lf true)
 (.lf ((a0.aY.length:Int) == 0)))
 (.lf false)) (λb6=>
 (lf b6))))))))
 (bd (Oz L a0.bR (⟨0,0,0,0,[],[]⟩:Aj)) λr7=>
 (nq (jp (.cn r7
 (.cn a1.dY
 (.lf true)
 (.lf (!a0.bZ)))
 (.lf false)) (λb8=>
 (jp (.cn b8
 (.cn a1.dV
 (.lf true)
 (.lf ((a0.aK.length:Int) == 0)))
 (.lf false)) (λb9=>
 (jp (.cn b9
 (.cn a1.dO
 (.lf true)
 (.lf ((a0.aY.length:Int) == 0)))
 (.lf false)) (λb10=>
 (lf b10))))))))))
 (nq (nq (nq (nq (lf false)))))))))
 (bd (O1 L (Aa.cp a0.F) (Aa.mk 0 (⟨#[]⟩:Yb) 0 [])) λr11=>
 (nq (jp (.cn r11
 (.cn a1.fK
 (.lf true)
 (.lf ((a0.aS.length:Int) == 0)))
 (.lf false)) (λb12=>
 (cn b12
 (cn a1.eF
 (nq (jp (.cn a1.dY
 (.lf true)
 (.lf (!a0.bZ))) (λb13=>
 (jp (.cn b13
 (.cn a1.dV
 (.lf true)
 (.lf ((a0.aK.length:Int) == 0)))
 (.lf false)) (λb14=>
 (jp (.cn b14
 (.cn a1.dO
 (.lf true)
 (.lf ((a0.aY.length:Int) == 0)))
 (.lf false)) (λb15=>
 (lf b15))))))))
 (bd (Oz L a0.bR (⟨0,0,0,0,[],[]⟩:Aj)) λr16=>
 (nq (jp (.cn r16
 (.cn a1.dY
 (.lf true)
 (.lf (!a0.bZ)))
 (.lf false)) (λb17=>
 (jp (.cn b17
 (.cn a1.dV
 (.lf true)
 (.lf ((a0.aK.length:Int) == 0)))
 (.lf false)) (λb18=>
 (jp (.cn b18
 (.cn a1.dO
 (.lf true)
 (.lf ((a0.aY.length:Int) == 0)))
 (.lf false)) (λb19=>
 (lf b19))))))))))
 (nq (nq (nq (nq (lf false))))))))))))
 (bd (O1 L (Aa.cp a0.E) (Aa.mk 0 (⟨#[]⟩:Yb) 0 [])) λr20=>
 (nq (cn r20
 (cn a1.gM
 (nq (jp (.cn a1.fK
 (.lf true)
 (.lf ((a0.aS.length:Int) == 0))) (λb21=>
 (cn b21
 (cn a1.eF
 (nq (jp (.cn a1.dY
 (.lf true)
 (.lf (!a0.bZ))) (λb22=>
 (jp (.cn b22
 (.cn a1.dV
 (.lf true)
 (.lf ((a0.aK.length:Int) == 0)))
 (.lf false)) (λb23=>
 (jp (.cn b23
 (.cn a1.dO
 (.lf true)
 (.lf ((a0.aY.length:Int) == 0)))
 (.lf false)) (λb24=>
 (lf b24))))))))
 (bd (Oz L a0.bR (⟨0,0,0,0,[],[]⟩:Aj)) λr25=>
 (nq (jp (.cn r25
 (.cn a1.dY
 (.lf true)
 (.lf (!a0.bZ)))
 (.lf false)) (λb26=>
 (jp (.cn b26
 (.cn a1.dV
 (.lf true)
 (.lf ((a0.aK.length:Int) == 0)))
 (.lf false)) (λb27=>
 (jp (.cn b27
 (.cn a1.dO
 (.lf true)
 (.lf ((a0.aY.length:Int) == 0)))
 (.lf false)) (λb28=>
 (lf b28))))))))))
 (nq (nq (nq (nq (lf false)))))))))
 (bd (O1 L (Aa.cp a0.F) (Aa.mk 0 (⟨#[]⟩:Yb) 0 [])) λr29=>
 (nq (jp (.cn r29
 (.cn a1.fK
 (.lf true)
 (.lf ((a0.aS.length:Int) == 0)))
 (.lf false)) (λb30=>
 (cn b30
 (cn a1.eF
 (nq (jp (.cn a1.dY
 (.lf true)
 (.lf (!a0.bZ))) (λb31=>
 (jp (.cn b31
 (.cn a1.dV
 (.lf true)
 (.lf ((a0.aK.length:Int) == 0)))
 (.lf false)) (λb32=>
 (jp (.cn b32
 (.cn a1.dO
 (.lf true)
 (.lf ((a0.aY.length:Int) == 0)))
 (.lf false)) (λb33=>
 (lf b33))))))))
 (bd (Oz L a0.bR (⟨0,0,0,0,[],[]⟩:Aj)) λr34=>
 (nq (jp (.cn r34
 (.cn a1.dY
 (.lf true)
 (.lf (!a0.bZ)))
 (.lf false)) (λb35=>
 (jp (.cn b35
 (.cn a1.dV
 (.lf true)
 (.lf ((a0.aK.length:Int) == 0)))
 (.lf false)) (λb36=>
 (jp (.cn b36
 (.cn a1.dO
 (.lf true)
 (.lf ((a0.aY.length:Int) == 0)))
 (.lf false)) (λb37=>
 (lf b37))))))))))
 (nq (nq (nq (nq (lf false)))))))))))
 (nq (nq (nq (nq (nq (nq (lf false)))))))))))
 (nq (nq (nq (nq (nq (nq (nq (lf false)))))))))))))
def Aaq(a0:Ad)(a1:B9):Option Bool:=Aj6 L a0 a1
def Bqu:N1:=E2 B 161 Gg Asf (Aaq L) λa0 a1 r h=>hF Tryz.func161 (oS [Bq2 L,Bvy L]) L (λkk=>eE (Aj6 L a0 a1)) h
def Ben(F:Aa->Option Int):Prop:=∀y0 r,F y0=some r->Ho Tryz.prog 21 [B4.en y0] I r
def c21:=CC Tryz.f21
def O21(L5:Aa->Option Int)(L:Nat):Bj:=(orc 21 (A1 I B4 L5) (oL []))
theorem s21(L5:Aa->Option Int)(Bl1:Ben L5)(L:Nat):Df Tryz.prog (O21 L5 L):=(Dc (a1 _ Bl1) (oS []))
def Bos(a0:Aa)(v:Lw):St:=⟨[(0,.any),(1,.any),(2,I 0),(3,I v.1),(7,lv (.t53 a0.bJ)),(8,I (a0.bJ.length:Int)),(9,I v.2)],[(1,(Hv a0))],0⟩
def Wt [An A Rs](L5:Aa->Option Int)(L:Nat)(a0:Aa)(rec:Int->Int->A)(Aq:Int)(Cs:Int):A:=
 (lw Cs a0.bJ
 (bd (L5 (Aa.cp (gD a0.bJ Cs))) λr1=>
 (rec (Bb (Aq+r1)) (Bb (Cs+1))))
 (lf (0,Aq,Cs)))
def Me(L5:Aa->Option Int)(L:Nat)(a0:Aa):Nat->Int->Int->Option Rs
 |0,_,_=>none
 |n+1,Aq,Cs=>Wt L5 L a0 (Me L5 L a0 n) Aq Cs
theorem Bmy(L5:Aa->Option Int)(L:Nat)(K:Hp)(a0:Aa):LP (EV (O21 L5 L) L 9 c21.w.l.u.l.l) [0,1,2,3,7,8,9] [1] (Bos a0) [.exit 0] (λn v=>Me L5 L a0 n v.1 v.2) K:=lE (λ_=>rfl) λn v ih=>eE (Wt L5 L a0 (λAq Cs=>re (ih (Aq,Cs))) v.1 v.2)
def W8 [An A Int](L5:Aa->Option Int)(L:Nat)(o2:Nat×Lw):A:=
 (sl o2.1 [(lf o2.2.1)])
def Anx [An A Int](L5:Aa->Option Int)(L:Nat)(a0:Aa):A:=(bd (Me L5 L a0 L 1 0) λo2=>W8 L5 L o2)
def Ahs(L5:Aa->Option Int)(L:Nat)(a0:Aa):Option Int:=Anx L5 L a0
theorem b21(L5:Aa->Option Int)(Bl1:Ben L5)(L:Nat):Ben (Ahs L5 L):=λa0 r h=>hF Tryz.func21 (s21 L5 Bl1 L) L (λkk=>eE ((hq (Bmy L5 L (KA (O21 L5 L) L 9 c21 (rl [4,1,2,1]) (KE Tryz.f21 kk)) a0 L (1,0)) λo2=>W8 L5 L o2))) h
def Nc:Nat->Aa->Option Int
 |0,_=>none
 |L+1,a0=>Ahs (Nc L) L a0
theorem Blr(L:Nat):Ben (Nc L):=by
 induction L with
 |zero=>exact λ_ _ h=>(by cases h)
 |succ L ih=>
  have i21:=ih;exact b21 (Nc L) i21 L
def X21(L:Nat):N1:=E1 I 21 B4 (Nc L) (Blr L)
def Beo(F:Aa->Option Int):Prop:=∀y0 r,F y0=some r->Ho Tryz.prog 22 [B4.en y0] I r
def c22:=CC Tryz.f22
def O22(L6:Aa->Option Int)(L:Nat):Bj:=(orc 22 (A1 I B4 L6) (oL []))
theorem s22(L6:Aa->Option Int)(Bl2:Beo L6)(L:Nat):Df Tryz.prog (O22 L6 L):=(Dc (a1 _ Bl2) (oS []))
def Bou(a0:Aa)(v:Lw):St:=⟨[(0,.any),(1,.any),(2,I 0),(3,I v.1),(7,lv (.t53 a0.bJ)),(8,I (a0.bJ.length:Int)),(9,I v.2)],[(1,(Hv a0))],0⟩
def Ws [An A Rs](L6:Aa->Option Int)(L:Nat)(a0:Aa)(rec:Int->Int->A)(Aq:Int)(Cs:Int):A:=
 (lw Cs a0.bJ
 (bd (L6 (Aa.cp (gD a0.bJ Cs))) λr1=>
 (rec (if r1>Aq then r1 else Aq) (Bb (Cs+1))))
 (lf (0,Aq,Cs)))
def Md(L6:Aa->Option Int)(L:Nat)(a0:Aa):Nat->Int->Int->Option Rs
 |0,_,_=>none
 |n+1,Aq,Cs=>Ws L6 L a0 (Md L6 L a0 n) Aq Cs
theorem Bmz(L6:Aa->Option Int)(L:Nat)(K:Hp)(a0:Aa):LP (EV (O22 L6 L) L 9 c22.w.l.u.l.l) [0,1,2,3,7,8,9] [1] (Bou a0) [.exit 0] (λn v=>Md L6 L a0 n v.1 v.2) K:=lE (λ_=>rfl) λn v ih=>eE (Ws L6 L a0 (λAq Cs=>re (ih (Aq,Cs))) v.1 v.2)
def W7 [An A Int](L6:Aa->Option Int)(L:Nat)(o2:Nat×Lw):A:=
 (sl o2.1 [(lf (Bb (o2.2.1+1)))])
def Anw [An A Int](L6:Aa->Option Int)(L:Nat)(a0:Aa):A:=(bd (Md L6 L a0 L 0 0) λo2=>W7 L6 L o2)
def Ahr(L6:Aa->Option Int)(L:Nat)(a0:Aa):Option Int:=Anw L6 L a0
theorem b22(L6:Aa->Option Int)(Bl2:Beo L6)(L:Nat):Beo (Ahr L6 L):=λa0 r h=>hF Tryz.func22 (s22 L6 Bl2 L) L (λkk=>eE ((hq (Bmz L6 L (KA (O22 L6 L) L 9 c22 (rl [4,1,2,1]) (KE Tryz.f22 kk)) a0 L (0,0)) λo2=>W7 L6 L o2))) h
def Nb:Nat->Aa->Option Int
 |0,_=>none
 |L+1,a0=>Ahr (Nb L) L a0
theorem Bls(L:Nat):Beo (Nb L):=by
 induction L with
 |zero=>exact λ_ _ h=>(by cases h)
 |succ L ih=>
  have i22:=ih;exact b22 (Nb L) i22 L
def X22(L:Nat):N1:=E1 I 22 B4 (Nb L) (Bls L)
def Aj5 [An A Int](L:Nat)(a0:Int):A:=
 (jp (.cn (a0 == 1)
 (.lf true)
 (.lf (a0 == 2))) (λb1=>
 (jp (.cn b1
 (.lf true)
 (.lf (a0 == 3))) (λb2=>
 (jp (.cn b2
 (.lf true)
 (.lf (a0 == 4))) (λb3=>
 (cn b3
 (lf 0)
 (jp (.cn (decide (a0>=5))
 (.lf (decide (a0<=8)))
 (.lf false)) (λb4=>
 (cn b4
 (lf 1)
 (jp (.cn (decide (a0>=9))
 (.lf (decide (a0<=21)))
 (.lf false)) (λb5=>
 (cn b5
 (lf 2)
 (jp (.cn (decide (a0>=22))
 (.lf (decide (a0<=26)))
 (.lf false)) (λb6=>
 (cn b6
 (lf 0)
 (lf (-1))))))))))))))))))
def Xz(a0:Int):Option Int:=Aj5 L a0
def Bq5:N1:=E1 I 225 (cI .i64) (Xz L) λa0 r h=>hF Tryz.func225 (oS []) L (λkk=>eE (Aj5 L a0)) h
def Yl [An A Bool](a0:Bu)(a1:Int):A:=
 (cn (a1 == 3)
 (lf (!a0.bT))
 (cn (a1 == 25)
 (cn (a1 == 25)
 (lf a0.bT)
 (bd (Xz L a1) λr1=>
 (lf (decide (r1>=0)))))
 (cn (a1 == 26)
 (lf a0.bT)
 (bd (Xz L a1) λr2=>
 (lf (decide (r2>=0)))))))
def Ta(a0:Bu)(a1:Int):Option Bool:=Yl L a0 a1
def Bv0:N1:=E2 B 224 Pr (cI .i64) (Ta L) λa0 a1 r h=>hF Tryz.func224 (oS [Bq5 L]) L (λkk=>eE (Yl L a0 a1)) h
def Ae9 [An A Bool](L:Nat)(a0:Int):A:=
 (jp (.cn (decide (a0>=22))
 (.lf (decide (a0<=24)))
 (.lf false)) (λb1=>
 (lf b1)))
def Wc(a0:Int):Option Bool:=Ae9 L a0
def X67:N1:=E1 B 67 (cI .i64) (Wc L) λa0 r h=>hF Tryz.func67 (oS []) L (λkk=>eE (Ae9 L a0)) h
def Ym [An A Bool](a0:Bu)(a1:Int):A:=
 (jb (.cn (a1 == 3)
 (.lf true)
 (.bd (Wc L a1) λr2=>
 (.cn r2
 (.lf (!a0.bT))
 (.lf false)))) (λb1=>
 (lf b1)))
def Ly(a0:Bu)(a1:Int):Option Bool:=Ym L a0 a1
def Bv1:N1:=E2 B 226 Pr (cI .i64) (Ly L) λa0 a1 r h=>hF Tryz.func226 (oS [X67 L]) L (λkk=>eE (Ym L a0 a1)) h
def V9 [An A (Int×Int×Bool)](a0:Bu)(a1:Int):A:=
 (cn (a1 == 2)
 (lf (0,1,true))
 (cn (a1 == 25)
 (lf (0,15,true))
 (cn (a1 == 26)
 (lf (0,31,true))
 (bd (Wc L a1) λr1=>
 (jp (.cn r1
 (.lf a0.bT)
 (.lf false)) (λb2=>
 (cn b2
 (lf (0,63,true))
 (lf (0,0,false)))))))))
def M7(a0:Bu)(a1:Int):Option (Int×Int×Bool):=V9 L a0 a1
def Bv2:N1:=E2 (λ(x:Int×Int×Bool)=>.bI [I x.1,I x.2.1,B x.2.2]) 227 Pr (cI .i64) (M7 L) λa0 a1 r h=>hF Tryz.func227 (oS [X67 L]) L (λkk=>eE (V9 L a0 a1)) h
def Z1 [An A Int](a0:Bu)(a1:Aa):A:=
 (bd (Ta L (⟨a0.bT⟩:Bu) a1.Op) λr1=>
 (cn (!r1)
 (lf 1)
 (bd (Xz L a1.Op) λr2=>
 (cn ((a1.bJ.length:Int) != r2)
 (lf 1)
 (cn (!(a1.aG.toList == (⟨#[]⟩:Yb).toList))
 (bd (Ly L (⟨a0.bT⟩:Bu) a1.Op) λr3=>
 (cn (!r3)
 (lf 1)
 (cn (a1.Op == 1)
 (bd (Ac9 L a1.N) λr4=>
 (cn (!r4)
 (lf 2)
 (lf 0)))
 (bd (M7 L (⟨a0.bT⟩:Bu) a1.Op) λr5=>
 (jp (.cn (!r5.2.2)
 (.lf (a1.N != 0))
 (.lf false)) (λb6=>
 (cn b6
 (lf 1)
 (jp (.cn r5.2.2
 (.cn (decide (a1.N<r5.1))
 (.lf true)
 (.lf (decide (a1.N>r5.2.1))))
 (.lf false)) (λb7=>
 (cn b7
 (lf 2)
 (bd (Ly L (⟨a0.bT⟩:Bu) a1.Op) λr8=>
 (cn r8
 (bd (Dk L a1.aG) λr9=>
 (lf r9))
 (lf 0)))))))))))))
 (cn (a1.Op == 1)
 (bd (Ac9 L a1.N) λr10=>
 (cn (!r10)
 (lf 2)
 (lf 0)))
 (bd (M7 L (⟨a0.bT⟩:Bu) a1.Op) λr11=>
 (jp (.cn (!r11.2.2)
 (.lf (a1.N != 0))
 (.lf false)) (λb12=>
 (cn b12
 (lf 1)
 (jp (.cn r11.2.2
 (.cn (decide (a1.N<r11.1))
 (.lf true)
 (.lf (decide (a1.N>r11.2.1))))
 (.lf false)) (λb13=>
 (cn b13
 (lf 2)
 (bd (Ly L (⟨a0.bT⟩:Bu) a1.Op) λr14=>
 (cn r14
 (bd (Dk L a1.aG) λr15=>
 (lf r15))
 (lf 0))))))))))))))))
def Ug(a0:Bu)(a1:Aa):Option Int:=Z1 L a0 a1
def Bq1:N1:=E2 I 192 Pr B4 (Ug L) λa0 a1 r h=>hF Tryz.func192 (oS [X75 L,Bkt L,Bv0 L,Bq5 L,Bv1 L,Bv2 L]) L (λkk=>eE (Z1 L a0 a1)) h
def A6l(F:Bu->Aa->Option Int):Prop:=∀y0 y1 r,F y0 y1=some r->Ho Tryz.prog 105 [Pr.en y0,B4.en y1] I r
def Brg:=CC Tryz.f105
def Bkd(Gm:Bu->Aa->Option Int)(L:Nat):Bj:=(orc 105 (A2 I Pr B4 Gm) (oL [Bq1 L]))
theorem Bxb(Gm:Bu->Aa->Option Int)(Bbh:A6l Gm)(L:Nat):Df Tryz.prog (Bkd Gm L):=(Dc (a2 _ Bbh) (oS [Bq1 L]))
def Bhv(a1:Aa)(a0:Bu)(v:Lw):St:=⟨[(0,.any),(1,.any),Ab9,(3,.any),(4,I v.1),(5,.any),(16,lv (.t53 a1.bJ)),(17,I (a1.bJ.length:Int)),(18,I v.2)],[(2,[B a0.bT]),(3,(Hv a1))],0⟩
def Pu [An A Rs](Gm:Bu->Aa->Option Int)(L:Nat)(a1:Aa)(a0:Bu)(rec:Int->Int->A)(Av:Int)(Ak:Int):A:=
 (lw Ak a1.bJ
 (bd (Gm (⟨a0.bT⟩:Bu) (Aa.cp (gD a1.bJ Ak))) λr2=>
 (cn (r2 != 0)
 (lf (0,r2,Ak))
 (rec Av (Bb (Ak+1)))))
 (lf (1,Av,Ak)))
def Ha(Gm:Bu->Aa->Option Int)(L:Nat)(a1:Aa)(a0:Bu):Nat->Int->Int->Option Rs
 |0,_,_=>none
 |n+1,Av,Ak=>Pu Gm L a1 a0 (Ha Gm L a1 a0 n) Av Ak
theorem Bgm(Gm:Bu->Aa->Option Int)(L:Nat)(K:Hp)(a1:Aa)(a0:Bu):LP (EV (Bkd Gm L) L 9 Brg.w.l.u.l.l) [0,1,2,3,4,5,16,17,18] [2,3] (Bhv a1 a0) [.ret,.exit 0] (λn v=>Ha Gm L a1 a0 n v.1 v.2) K:=lE (λ_=>rfl) λn v ih=>eE (Pu Gm L a1 a0 (λAv Ak=>re (ih (Av,Ak))) v.1 v.2)
def Px [An A Int](Gm:Bu->Aa->Option Int)(L:Nat)(o3:Nat×Lw):A:=
 (sl o3.1 [(lf o3.2.1),
 (lf 0)])
def Pz [An A Int](Gm:Bu->Aa->Option Int)(L:Nat)(a0:Bu)(a1:Aa)(nx1:A):A:=
 (bd (Ug L (⟨a0.bT⟩:Bu) (Aa.cp a1)) λr1=>
 (cn (r1 != 0)
 (lf r1)
 nx1))
def Aeh [An A Int](Gm:Bu->Aa->Option Int)(L:Nat)(a0:Bu)(a1:Aa):A:=Pz Gm L a0 a1 (bd (Ha Gm L a1 a0 L 0 0) λo3=>Px Gm L o3)
def Ya(Gm:Bu->Aa->Option Int)(L:Nat)(a0:Bu)(a1:Aa):Option Int:=Aeh Gm L a0 a1
theorem Bku(Gm:Bu->Aa->Option Int)(Bbh:A6l Gm)(L:Nat):A6l (Ya Gm L):=λa0 a1 r h=>hF Tryz.func105 (Bxb Gm Bbh L) L (λkk=>eE (Pz Gm L a0 a1 (hq (Bgm Gm L (KA (Bkd Gm L) L 9 Brg (rl [4,1,2,1]) (KE Tryz.f105 kk)) a1 a0 L (0,0)) λo3=>Px Gm L o3))) h
def Gp:Nat->Bu->Aa->Option Int
 |0,_,_=>none
 |L+1,a0,a1=>Ya (Gp L) L a0 a1
theorem Bfs(L:Nat):A6l (Gp L):=by
 induction L with
 |zero=>exact λ_ _ _ h=>(by cases h)
 |succ L ih=>
  have i105:=ih;exact Bku (Gp L) i105 L
def Bvk(L:Nat):N1:=E2 I 105 Pr B4 (Gp L) (Bfs L)
def Yk [An A Int](a0:Bu)(a1:Aa):A:=
 (bd (Nc L (Aa.cp a1)) λr1=>
 (cn (decide (r1>60))
 (lf 6)
 (bd (Nb L (Aa.cp a1)) λr2=>
 (cn (decide (r2>12))
 (lf 11)
 (bd (Gp L (⟨a0.bT⟩:Bu) (Aa.cp a1)) λr3=>
 (lf r3))))))
def S9(a0:Bu)(a1:Aa):Option Int:=Yk L a0 a1
def X66:N1:=E2 I 66 Pr B4 (S9 L) λa0 a1 r h=>hF Tryz.func66 (oS [X21 L,X22 L,Bvk L]) L (λkk=>eE (Yk L a0 a1)) h
def Ahy [An A Int](a0:Aa):A:=
 (bd (S9 L (⟨false⟩:Bu) (Aa.cp a0)) λr1=>
 (lf r1))
def O0(a0:Aa):Option Int:=Ahy L a0
def X40:N1:=E1 I 40 B4 (O0 L) λa0 r h=>hF Tryz.func40 (oS [X66 L]) L (λkk=>eE (Ahy L a0)) h
def A8d:=CC Tryz.f162
def A4g:Bj:=oL [X40 L,X75 L,Bq4 L]
def Bh1(a1:B9)(a0:Ad)(v:Lw):St:=⟨[(0,.any),(1,.any),Ab9,zq9,(4,I v.1),(9,.any),(10,.any),(12,.any),(13,.any),(24,.aV true (.fB [(⟨a1.dI,a0.aG⟩:Hu),(⟨a1.fM,a0.Of⟩:Hu)])),(25,I ([(⟨a1.dI,a0.aG⟩:Hu),(⟨a1.fM,a0.Of⟩:Hu)].length:Int)),(26,I v.2),(53,.any),(74,.any)],[(2,(Gz a0)),(3,(Z8 a1))],0⟩
def Abt [An A Rs](a1:B9)(a0:Ad)(rec:Int->Int->A)(Av:Int)(Ak:Int):A:=
 (cn (decide (Ak<([(⟨a1.dI,a0.aG⟩:Hu),(⟨a1.fM,a0.Of⟩:Hu)].length:Int)))
 (gq (0<=Ak)
 (gq (Ak<(([(⟨a1.dI,a0.aG⟩:Hu),(⟨a1.fM,a0.Of⟩:Hu)].length:Nat):Int))
 (bd (Dk L (([(⟨a1.dI,a0.aG⟩:Hu),(⟨a1.fM,a0.Of⟩:Hu)].getD (Int.toNat Ak) default).dI)) λr1=>
 (jp (.cn (([(⟨a1.dI,a0.aG⟩:Hu),(⟨a1.fM,a0.Of⟩:Hu)].getD (Int.toNat Ak) default).gV)
 (.lf (r1 != 0))
 (.lf false)) (λb2=>
 (cn b2
 (lf (0,r1,Ak))
 (rec Av (Bb (Ak+1)))))))))
 (lf (1,Av,Ak)))
def Mu(L:Nat)(a1:B9)(a0:Ad):Nat->Int->Int->Option Rs
 |0,_,_=>none
 |n+1,Av,Ak=>Abt L a1 a0 (Mu L a1 a0 n) Av Ak
theorem Bgs(a1:B9)(a0:Ad):LP (EV (A4g L) L 9 A8d.u.l.u.l.l) [0,1,2,3,4,9,10,12,13,24,25,26,53,74] [2,3] (Bh1 a1 a0) [.ret,.exit 0] (λn v=>Mu L a1 a0 n v.1 v.2) K:=lE (λ_=>rfl) λn v ih=>eE (Abt L a1 a0 (λAv Ak=>re (ih (Av,Ak))) v.1 v.2)
def Bh2(a1:B9)(a0:Ad)(v:Lw):St:=⟨[(0,.any),(1,.any),Ab9,zq9,(4,I v.1),(6,.any),(7,.any),(12,.any),(13,.any),(26,.any),(51,.aV true (.eY [(⟨a1.fU,(Aa.cp a0.E)⟩:Qf),(⟨a1.gM,(Aa.cp a0.F)⟩:Qf)])),(52,I ([(⟨a1.fU,(Aa.cp a0.E)⟩:Qf),(⟨a1.gM,(Aa.cp a0.F)⟩:Qf)].length:Int)),(53,I v.2),(74,.any)],[(2,(Gz a0)),(3,(Z8 a1))],0⟩
def Abu [An A Rs](a1:B9)(a0:Ad)(rec:Int->Int->A)(C3:Int)(C7:Int):A:=
 (cn (decide (C7<([(⟨a1.fU,(Aa.cp a0.E)⟩:Qf),(⟨a1.gM,(Aa.cp a0.F)⟩:Qf)].length:Int)))
 (gq (0<=C7)
 (gq (C7<(([(⟨a1.fU,(Aa.cp a0.E)⟩:Qf),(⟨a1.gM,(Aa.cp a0.F)⟩:Qf)].length:Nat):Int))
 (cn (!(([(⟨a1.fU,(Aa.cp a0.E)⟩:Qf),(⟨a1.gM,(Aa.cp a0.F)⟩:Qf)].getD (Int.toNat C7) default).gV))
 (rec C3 (Bb (C7+1)))
 (bd (O0 L (Aa.cp (([(⟨a1.fU,(Aa.cp a0.E)⟩:Qf),(⟨a1.gM,(Aa.cp a0.F)⟩:Qf)].getD (Int.toNat C7) default).fU))) λr4=>
 (cn (r4 != 0)
 (lf (0,r4,C7))
 (rec C3 (Bb (C7+1))))))))
 (lf (1,C3,C7)))
def Mv(L:Nat)(a1:B9)(a0:Ad):Nat->Int->Int->Option Rs
 |0,_,_=>none
 |n+1,C3,C7=>Abu L a1 a0 (Mv L a1 a0 n) C3 C7
theorem Bgt(a1:B9)(a0:Ad):LP (EV (A4g L) L 9 A8d.w.l.u.l.l) [0,1,2,3,4,6,7,12,13,26,51,52,53,74] [2,3] (Bh2 a1 a0) [.ret,.exit 2] (λn v=>Mv L a1 a0 n v.1 v.2) K:=lE (λ_=>rfl) λn v ih=>eE (Abu L a1 a0 (λC3 C7=>re (ih (C3,C7))) v.1 v.2)
def Bh3(a0:Ad)(a1:B9)(v:Lw):St:=⟨[(0,.any),(1,.any),Ab9,zq9,(4,I v.1),(6,.any),(7,.any),(9,.any),(10,.any),(26,.any),(53,.any),(72,lv (.t53 a0.aS)),(73,I (a0.aS.length:Int)),(74,I v.2)],[(2,(Gz a0)),(3,(Z8 a1))],0⟩
def W2 [An A Rs](a0:Ad)(a1:B9)(rec:Int->Int->A)(N0:Int)(Nl:Int):A:=
 (lw Nl a0.aS
 (bd (O0 L (Aa.cp (gD a0.aS Nl))) λr6=>
 (cn (r6 != 0)
 (lf (0,r6,Nl))
 (rec N0 (Bb (Nl+1)))))
 (lf (1,N0,Nl)))
def Mw(L:Nat)(a0:Ad)(a1:B9):Nat->Int->Int->Option Rs
 |0,_,_=>none
 |n+1,N0,Nl=>W2 L a0 a1 (Mw L a0 a1 n) N0 Nl
theorem Bgu(a0:Ad)(a1:B9):LP (EV (A4g L) L 9 A8d.x.l.u.l.l) [0,1,2,3,4,6,7,9,10,26,53,72,73,74] [2,3] (Bh3 a0 a1) [.ret,.exit 4] (λn v=>Mw L a0 a1 n v.1 v.2) K:=lE (λ_=>rfl) λn v ih=>eE (W2 L a0 a1 (λN0 Nl=>re (ih (N0,Nl))) v.1 v.2)
def Xl [An A Int](a1:B9)(a0:Ad)(o7:Nat×Lw):A:=
 (sl o7.1 [(lf o7.2.1),
 (cn a1.eF
 (bd (Oy L a0.bR) λr8=>
 (lf r8))
 (lf 0))])
def Xo [An A Int](L:Nat)(a0:Ad)(a1:B9)(o5:Nat×Lw)(nx3:Rs->A):A:=
 (sl o5.1 [(lf o5.2.1),
 (cn (decide ((a0.aS.length:Int)>6))
 (lf 6)
 (nx3 o5))])
def Ab7 [An A Int](a0:Ad)(a1:B9)(o5:Nat×Lw):A:=Xo L a0 a1 o5 (λo5=>bd (Mw L a0 a1 L o5.2.1 0) λo7=>Xl L a1 a0 o7)
def Xn [An A Int](L:Nat)(a1:B9)(a0:Ad)(o3:Nat×Lw)(nx2:Rs->A):A:=
 (sl o3.1 [(lf o3.2.1),
 (nx2 o3)])
def Ab6 [An A Int](a1:B9)(a0:Ad)(o3:Nat×Lw):A:=Xn L a1 a0 o3 (λo3=>bd (Mv L a1 a0 L o3.2.1 0) λo5=>Ab7 L a0 a1 o5)
def An6 [An A Int](a0:Ad)(a1:B9):A:=(bd (Mu L a1 a0 L 0 0) λo3=>Ab6 L a1 a0 o3)
def Yf(a0:Ad)(a1:B9):Option Int:=An6 L a0 a1
def Bqv:N1:=E2 I 162 Gg Asf (Yf L) λa0 a1 r h=>hF Tryz.func162 (C:=A4g L) (oS _) L (λkk=>eE ((hq (Bgs L (KA (A4g L) L 9 A8d (rl [2,1,2,1]) (KE Tryz.f162 kk)) a1 a0 L (0,0)) λo3=>Xn L a1 a0 o3 (λo3=>hq (Bgt L (KA (A4g L) L 9 A8d (rl [4,1,2,1]) (KE Tryz.f162 kk)) a1 a0 L (o3.2.1,0)) λo5=>Xo L a0 a1 o5 (λo5=>hq (Bgu L (KA (A4g L) L 9 A8d (rl [8,1,2,1]) (KE Tryz.f162 kk)) a0 a1 L (o5.2.1,0)) λo7=>Xl L a1 a0 o7))))) h
def Beu(F:(List Ad)->Option Int):Prop:=∀y0 r,F y0=some r->Ho Tryz.prog 83 [Aax.en y0] I r
def c83:=CC Tryz.f83
def O83(Jr:(List Ad)->Option Int)(L:Nat):Bj:=(orc 83 (A1 I Aax Jr) (oL [Bqt L,Bqu L,Bqv L]))
theorem s83(Jr:(List Ad)->Option Int)(Bl8:Beu Jr)(L:Nat):Df Tryz.prog (O83 Jr L):=(Dc (a1 _ Bl8) (oS [Bqt L,Bqu L,Bqv L]))
def Bpp(a0:List Ad)(v:Lw):St:=⟨[(0,.any),(2,I v.1),(10,lv (.eZ a0)),(11,I (a0.length:Int)),(12,I v.2)],[],0⟩
def W1 [An A Rs](Jr:(List Ad)->Option Int)(L:Nat)(a0:List Ad)(rec:Int->Int->A)(Av:Int)(Ak:Int):A:=
 (lw Ak a0
 (bd (Aar L ((gD a0 Ak).Op)) λr1=>
 (jb (.cn (!r1.2)
 (.lf true)
 (.bd (Aaq L (Ad.cp (gD a0 Ak)) r1.1) λr3=>
 (.lf (!r3)))) (λb2=>
 (cn b2
 (lf (0,1,Ak))
 (bd (Yf L (Ad.cp (gD a0 Ak)) r1.1) λr4=>
 (cn (r4 != 0)
 (lf (0,r4,Ak))
 (bd (Jr ((gD a0 Ak).aK)) λr5=>
 (cn (r5 != 0)
 (lf (0,r5,Ak))
 (bd (Jr ((gD a0 Ak).aY)) λr6=>
 (cn (r6 != 0)
 (lf (0,r6,Ak))
 (rec Av (Bb (Ak+1)))))))))))))
 (lf (1,Av,Ak)))
def Mt(Jr:(List Ad)->Option Int)(L:Nat)(a0:List Ad):Nat->Int->Int->Option Rs
 |0,_,_=>none
 |n+1,Av,Ak=>W1 Jr L a0 (Mt Jr L a0 n) Av Ak
theorem Bnt(Jr:(List Ad)->Option Int)(L:Nat)(K:Hp)(a0:List Ad):LP (EV (O83 Jr L) L 9 c83.u.l.u.l.l) [0,2,10,11,12] [] (Bpp a0) [.ret,.exit 0] (λn v=>Mt Jr L a0 n v.1 v.2) K:=lE (λ_=>rfl) λn v ih=>eE (W1 Jr L a0 (λAv Ak=>re (ih (Av,Ak))) v.1 v.2)
def Xk [An A Int](Jr:(List Ad)->Option Int)(L:Nat)(o7:Nat×Lw):A:=
 (sl o7.1 [(lf o7.2.1),
 (lf 0)])
def An5 [An A Int](Jr:(List Ad)->Option Int)(L:Nat)(a0:List Ad):A:=(bd (Mt Jr L a0 L 0 0) λo7=>Xk Jr L o7)
def Ahv(Jr:(List Ad)->Option Int)(L:Nat)(a0:List Ad):Option Int:=An5 Jr L a0
theorem b83(Jr:(List Ad)->Option Int)(Bl8:Beu Jr)(L:Nat):Beu (Ahv Jr L):=λa0 r h=>hF Tryz.func83 (s83 Jr Bl8 L) L (λkk=>eE ((hq (Bnt Jr L (KA (O83 Jr L) L 9 c83 (rl [2,1,2,1]) (KE Tryz.f83 kk)) a0 L (0,0)) λo7=>Xk Jr L o7))) h
def Nf:Nat->(List Ad)->Option Int
 |0,_=>none
 |L+1,a0=>Ahv (Nf L) L a0
theorem Blz(L:Nat):Beu (Nf L):=by
 induction L with
 |zero=>exact λ_ _ h=>(by cases h)
 |succ L ih=>
  have i83:=ih;exact b83 (Nf L) i83 L
def X83(L:Nat):N1:=E1 I 83 Aax (Nf L) (Blz L)
def Ah1 [An A Int](a0:List Ad):A:=
 (bd (Lb L a0) λr1=>
 (cn (decide (r1>200))
 (lf 6)
 (bd (Nd L a0) λr2=>
 (cn (decide (r2>12))
 (lf 11)
 (bd (Nf L a0) λr3=>
 (lf r3))))))
def Ye(a0:List Ad):Option Int:=Ah1 L a0
def X52:N1:=E1 I 52 Aax (Ye L) λa0 r h=>hF Tryz.func52 (oS [X9 L,X82 L,X83 L]) L (λkk=>eE (Ah1 L a0)) h
def Bal:=CC Tryz.f151
def A4f:Bj:=oL [X29 L,X52 L,X75 L,Bkr L]
def Bdx(p1_0:Yb)(p1_1:Al)(p1_2:Ap)(p1_3:List Yb)(p1_4:List Bool)(k:Ei):Dq->Prop:=λo=>k (I o.1) [(1,(C6 p1_1)),(5,(T6 p1_2)),(21,[.aP false false (.t9 o.2.1) (.t4 o.2.2)])]
def Adt [An A Dq](p1_0:Yb)(p1_1:Al)(p1_2:Ap)(p1_3:List Yb)(p1_4:List Bool):A:=
 (bd (Dk L p1_0) λr3=>
 (cn (r3 != 0)
 (lf (r3,p1_3,p1_4))
 (fq (p1_3.findIdx? λb=>p1_0 == b) (λi4=>
 (cn (p1_4.getD i4 default)
 (lf (4,p1_3,p1_4))
 (fq (p1_3.findIdx? λb=>p1_0 == b) (λi5=>
 (lf (0,p1_3,(p1_4.set i5 true))))
 (lf (0,(p1_3++ [p1_0]),(p1_4++ [true]))))))
 (fq (p1_3.findIdx? λb=>p1_0 == b) (λi6=>
 (lf (0,p1_3,(p1_4.set i6 true))))
 (lf (0,(p1_3++ [p1_0]),(p1_4++ [true])))))))
def Kj(p1_0:Yb)(p1_1:Al)(p1_2:Ap)(p1_3:List Yb)(p1_4:List Bool):Option Dq:=Adt L p1_0 p1_1 p1_2 p1_3 p1_4
theorem Bfv(p1_0:Yb)(p1_1:Al)(p1_2:Ap)(p1_3:List Yb)(p1_4:List Bool):YO (A4f L) L 9 79 [.mp 21,S p1_0] [(1,(C6 p1_1)),(5,(T6 p1_2)),(21,[.aP false false (.t9 p1_3) (.t4 p1_4)])] k=ob (Kj L p1_0 p1_1 p1_2 p1_3 p1_4) (Bdx p1_0 p1_1 p1_2 p1_3 p1_4 k):=(Dj _ _ _ jn4 _ _ _ _ _ _ _).trans (eE (Adt L p1_0 p1_1 p1_2 p1_3 p1_4))
def Bhx(r2:List Ap)(a0:Al)(v:Tu3):St:=⟨[(0,.any),Ajq,(2,I v.1),(3,.mp 21),(27,lv (.dW r2)),(28,I (r2.length:Int)),(29,I v.2.1)],[(1,(C6 a0)),(21,[.aP false false (.t9 v.2.2.1) (.t4 v.2.2.2)])],0⟩
def Sa [An A Rq](Ak:Int)(r2:List Ap)(Av:Int)(rec:Int->Int->List Yb->List Bool->A)(o7:Dq):A:=
 (cn (o7.1 != 0)
 (lf (0,o7.1,Ak,o7.2.1,o7.2.2))
 (bd (La L ((gD r2 Ak).bL)) λr8=>
 (cn (!r8)
 (lf (0,1,Ak,o7.2.1,o7.2.2))
 (rec Av (Bb (Ak+1)) o7.2.1 o7.2.2))))
def Sh [An A Rq](L:Nat)(r2:List Ap)(a0:Al)(rec:Int->Int->List Yb->List Bool->A)(Av:Int)(Ak:Int)(C4:List Yb)(C5:List Bool)(nx1:Int->(List Yb)->(List Bool)->Int->A):A:=
 (lw Ak r2
 (nx1 Ak C4 C5 Av)
 (lf (1,Av,Ak,C4,C5)))
def Xt [An A Rq](r2:List Ap)(a0:Al)(rec:Int->Int->List Yb->List Bool->A)(Av:Int)(Ak:Int)(C4:List Yb)(C5:List Bool):A:=Sh L r2 a0 rec Av Ak C4 C5 (λAk C4 C5 Av=>bd (Kj L ((gD r2 Ak).aG) a0 (gD r2 Ak) C4 C5) λo7=>Sa L Ak r2 Av rec o7)
def Ir(L:Nat)(r2:List Ap)(a0:Al):Nat->Int->Int->List Yb->List Bool->Option Rq
 |0,_,_,_,_=>none
 |n+1,Av,Ak,C4,C5=>Xt L r2 a0 (Ir L r2 a0 n) Av Ak C4 C5
theorem Bgo(r2:List Ap)(a0:Al):LP (EV (A4f L) L 9 Bal.w.u.l.u.l.l) [0,1,2,3,27,28,29] [1,21] (Bhx r2 a0) [.ret,.exit 0] (λn v=>Ir L r2 a0 n v.1 v.2.1 v.2.2.1 v.2.2.2) K:=lE (λ_=>rfl) λn v ih=>eE (Sh L r2 a0 (λAv Ak C4 C5=>re (ih (Av,Ak,C4,C5))) v.1 v.2.1 v.2.2.1 v.2.2.2 (λAk C4 C5 Av=>hq (Bfv L (Rn (A4f L) L 9 1 4 Bal.w.u.l.u.l.l.w.l.l.u.l.l ⟨[(35,S (gD r2 Ak).aG),(34,.loc 5 0),(33,.mp 21),Ajq,(2,I Av),(3,.mp 21),(5,.loc 5 0),(27,lv (.dW r2)),(28,I (r2.length:Int)),(29,I Ak),(30,B (decide (Ak<(r2.length:Int)))),(31,.ref (T6 (gD r2 Ak))),(32,.agg (T6 (gD r2 Ak)))],[(1,(C6 a0)),(5,(T6 (gD r2 Ak))),(21,[.aP false false (.t9 C4) (.t4 C5)])],0⟩ (some 36) (kN (KA (A4f L) L 9 Bal.w.u.l.u.l.l (rl [4,2,2,2]) (Jz (M8 (EV (A4f L) L 9 Bal.w.u.l.u.l.l) [0,1,2,3,27,28,29] [1,21] n) [0,1,2,3,27,28,29] [1,21] K)))) ((gD r2 Ak).aG) a0 (gD r2 Ak) C4 C5) λo7=>Sa L Ak r2 Av (λAv Ak C4 C5=>re (ih (Av,Ak,C4,C5))) o7))
def Sb [An A Int](a0:Al)(o9:Nat×Tu3):A:=
 (sl o9.1 [(lf o9.2.1),
 (bd (Ye L a0.aK) λr10=>
 (lf r10))])
def Si [An A Int](a0:Al)(nx2:(List Ap)->A):A:=
 (jp (.cn (decide ((a0.aJ.length:Int)>6))
 (.lf true)
 (.lf (decide ((Bb ((a0.aJ.length:Int)+(a0.aL.length:Int)))>16)))) (λb1=>
 (cn b1
 (lf 6)
 (bd (Hn L [a0.aJ,a0.aL]) λr2=>
 (nx2 r2)))))
def Ai2 [An A Int](a0:Al):A:=Si L a0 (λr2=>bd (Ir L r2 a0 L 0 0 [] []) λo9=>Sb L a0 o9)
def Wk(a0:Al):Option Int:=Ai2 L a0
def Bvp:N1:=E1 I 151 Adn (Wk L) λa0 r h=>hF Tryz.func151 (C:=A4f L) (oS _) L (λkk=>eE (Si L a0 (λr2=>hq (Bgo L (KA (A4f L) L 9 Bal (rl [6,1,2,1]) (KE Tryz.f151 kk)) r2 a0 L (0,0,[],[])) λo9=>Sb L a0 o9))) h
def Br6:=CC Tryz.f173
def c90:=CC Tryz.f90
def O90(L:Nat):Bj:=oL []
def Bps(p1_0:List Al)(p1_1:Ac)(p1_2:Yb)(v:Lw):St:=⟨[(0,lv (.t47 p1_0)),(1,.bK 174 0 zq8),(4,I v.1),(7,I (p1_0.length:Int)),(8,I v.2)],[(2,(Af p1_1)),(3,[S p1_2])],1004⟩
def R6 [An A Rs](L:Nat)(p1_0:List Al)(p1_1:Ac)(p1_2:Yb)(rec:Int->Int->A)(Aq:Int)(Ak:Int):A:=
 (lw Ak p1_0
 (cn ((gD p1_0 Ak).aG.toList == p1_2.toList)
 (lf (0,Ak,Ak))
 (rec Aq (Bb (Ak+1))))
 (lf (1,Aq,Ak)))
def Iq(L:Nat)(p1_0:List Al)(p1_1:Ac)(p1_2:Yb):Nat->Int->Int->Option Rs
 |0,_,_=>none
 |n+1,Aq,Ak=>R6 L p1_0 p1_1 p1_2 (Iq L p1_0 p1_1 p1_2 n) Aq Ak
theorem Bnw(p1_0:List Al)(p1_1:Ac)(p1_2:Yb):LP (EV (O90 L) L 8 Br6.u.l.u.l.l) [0,1,4,7,8] [2,3] (Bps p1_0 p1_1 p1_2) [.ret,.exit 0] (λn v=>Iq L p1_0 p1_1 p1_2 n v.1 v.2) K:=lE (λ_=>rfl) λn v ih=>eE (R6 L p1_0 p1_1 p1_2 (λAq Ak=>re (ih (Aq,Ak))) v.1 v.2)
def Bj9(p1_0:List Al)(p1_1:Ac)(p1_2:Yb)(k:Ei):Int->Prop:=λo=>k (I o) [(2,(Af p1_1)),(3,[S p1_2])]
def Xu [An A Int](L:Nat)(o1:Nat×Lw):A:=
 (sl o1.1 [(lf o1.2.1),
 (lf (-1))])
def Ads [An A Int](p1_0:List Al)(p1_1:Ac)(p1_2:Yb):A:=(bd (Iq L p1_0 p1_1 p1_2 L 0 0) λo1=>Xu L o1)
def R3(p1_0:List Al)(p1_1:Ac)(p1_2:Yb):Option Int:=Ads L p1_0 p1_1 p1_2
theorem Bmi(p1_0:List Al)(p1_1:Ac)(p1_2:Yb):YO (O90 L) L 9 173 [lv (.t47 p1_0),.bK 174 0 zq8] [(2,(Af p1_1)),(3,[S p1_2])] k=ob (R3 L p1_0 p1_1 p1_2) (Bj9 p1_0 p1_1 p1_2 k):=(Dj _ _ _ jn4 _ _ _ _ _ _ _).trans (eE ((hq (Bnw L (KA (O90 L) L 8 Br6 (rl [2,1,2,1]) (KJ Tryz.f173 k)) p1_0 p1_1 p1_2 L (0,0)) λo1=>Xu L o1)))
def R9 [An A Int](L:Nat)(o2:Int):A:=
 (lf o2)
def Ai1 [An A Int](a0:Ac)(a1:Yb):A:=(bd (R3 L a0.aA a0 a1) λo2=>R9 L o2)
def Ej(a0:Ac)(a1:Yb):Option Int:=Ai1 L a0 a1
def X90:N1:=E2 I 90 Ie cS (Ej L) λa0 a1 r h=>hF Tryz.func90 (C:=O90 L) (oS _) L (λkk=>eE ((hq (Bmi L (Rn (O90 L) L 9 1 4 c90.u.l ⟨[(7,.bK 174 0 zq8),(6,lv (.t47 a0.aA)),(5,.loc 2 10),Ab9,zq9,(4,I 0)],[(2,(Af a0)),(3,[S a1])],0⟩ (some 8) (kN (KA (O90 L) L 9 c90 (rl [2,1]) (KE Tryz.f90 kk)))) a0.aA a0 a1) λo2=>R9 L o2))) h
def Brz:=CC Tryz.f155
def Bkf:Bj:=oL [X90 L,A73 L,Bks L]
def Bhy(a0:Ac)(r1:Int)(a1:Bt)(v:Lw):St:=⟨[(0,.any),(1,.any),(2,.any),zq9,(4,I v.1),(5,.any),(6,lv (.dW ((gD a0.aA r1).aJ))),(28,lv (.t3 a1.aS)),(29,I (a1.aS.length:Int)),(30,I v.2)],[(2,(Af a0)),(3,(Akj a1))],0⟩
def Uy [An A Rs](a0:Ac)(r1:Int)(a1:Bt)(rec:Int->Int->A)(Av:Int)(Cs:Int):A:=
 (lw Cs a1.aS
 (gi Cs ((gD a0.aA r1).aJ)
 (bd (Ry L ((gD ((gD a0.aA r1).aJ) Cs).bL) (gD a1.aS Cs)) λr2=>
 (cn (!r2)
 (lf (0,2,Cs))
 (rec Av (Bb (Cs+1))))))
 (lf (1,Av,Cs)))
def Kw(L:Nat)(a0:Ac)(r1:Int)(a1:Bt):Nat->Int->Int->Option Rs
 |0,_,_=>none
 |n+1,Av,Cs=>Uy L a0 r1 a1 (Kw L a0 r1 a1 n) Av Cs
theorem Bgp(a0:Ac)(r1:Int)(a1:Bt):LP (EV (Bkf L) L 9 Brz.x.u.l.u.l.l) [0,1,2,3,4,5,6,28,29,30] [2,3] (Bhy a0 r1 a1) [.ret,.exit 0] (λn v=>Kw L a0 r1 a1 n v.1 v.2) K:=lE (λ_=>rfl) λn v ih=>eE (Uy L a0 r1 a1 (λAv Cs=>re (ih (Av,Cs))) v.1 v.2)
def Vh [An A Int](a1:Bt)(o3:Nat×Lw):A:=
 (sl o3.1 [(lf o3.2.1),
 (bd (Bh L a1.At 0 1000000000) λr4=>
 (jb (.cn (!r4)
 (.lf true)
 (.bd (Bh L a1.Every 0 1000000000) λr6=>
 (.lf (!r6)))) (λb5=>
 (jb (.cn b5
 (.lf true)
 (.bd (Bh L a1.Until 0 1000000000) λr8=>
 (.lf (!r8)))) (λb7=>
 (jp (.cn b7
 (.lf true)
 (.cn (a1.Every == 0)
 (.lf (a1.Until != 0))
 (.lf false))) (λb9=>
 (cn b9
 (lf 2)
 (lf 0)))))))))])
def V0 [An A Int](a0:Ac)(a1:Bt)(nx1:Int->A):A:=
 (bd (Ej L a0 a1.dN) λr1=>
 (cn (decide (r1<0))
 (lf 5)
 (gi r1 a0.aA
 (cn ((a1.aS.length:Int) != ((gD a0.aA r1).aJ.length:Int))
 (lf 8)
 (nx1 r1)))))
def Al5 [An A Int](a0:Ac)(a1:Bt):A:=V0 L a0 a1 (λr1=>bd (Kw L a0 r1 a1 L 0 0) λo3=>Vh L a1 o3)
def Sq(a0:Ac)(a1:Bt):Option Int:=Al5 L a0 a1
def Bvq:N1:=E2 I 155 Ie Azo (Sq L) λa0 a1 r h=>hF Tryz.func155 (C:=Bkf L) (oS _) L (λkk=>eE (V0 L a0 a1 (λr1=>hq (Bgp L (KA (Bkf L) L 9 Brz (rl [10,1,2,1]) (KE Tryz.f155 kk)) a0 r1 a1 L (0,0)) λo3=>Vh L a1 o3))) h
end
end Go.Proofs.YtgacplpjamkieaaGreat.Ev
