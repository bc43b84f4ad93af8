import Derived.Test.YtgacplpjamkieaaGreatZG1
set_option maxRecDepth 100000
set_option maxHeartbeats 4000000
set_option linter.unusedVariables false
set_option linter.unusedSimpArgs false
set_option linter.unnecessarySimpa false
namespace Go.Proofs.YtgacplpjamkieaaGreat.Ev
open Go An
noncomputable section
variable {A:Type} (L n:Nat) (kk:Tb) (K:Hp) (k:Ei)
def Ahw [An A (List Ap)](L:Nat)(a0:Al):A:=
 (gq ((0+a0.aJ.length)*24<=140737488355328)
 (gq (0+a0.aJ.length<=maxLen)
 (gq ((a0.aJ.length+a0.aL.length)*24<=140737488355328)
 (gq (a0.aJ.length+a0.aL.length<=maxLen)
 (lf (a0.aJ++a0.aL))))))
def Ach(a0:Al):Option (List Ap):=Ahw L a0
def X11:N1:=E1 (λ(x:List Ap)=>lv (.dW x)) 11 Adn (Ach L) λa0 r h=>hF Tryz.func11 (oS []) L (λkk=>eE (Ahw L a0)) h
def c33:=CC Tryz.f33
def O33(L:Nat):Bj:=oL []
def Bo0(a1:Int)(v:Int):St:=⟨[(0,.any),(1,I a1),(4,Axx),(5,Axx),(6,I v)],[],0⟩
def Adw [An A (Nat×Int)](L:Nat)(a1:Int)(rec:Int->A)(Ak:Int):A:=
 (cn (decide (Ak<0))
 (gq (0<=Ak)
 (gq (Ak<((0:Nat):Int))
 (jb (.cn ((gD ([]:List Ae) Ak).Op == 4)
 (.lf true)
 (.gq (0<=Ak)
 (.gq (Ak<((0:Nat):Int))
 (.lf ((gD ([]:List Ae) Ak).Op == 5))))) (λb1=>
 (cn b1
 (gq (0<=Ak)
 (gq (Ak<((0:Nat):Int))
 (gq (0<=Ak)
 (gq (Ak<((0:Nat):Int))
 fl))))
 (rec (Bb (Ak+1))))))))
 (lf (0,Ak)))
def Y2(L:Nat)(a1:Int):Nat->Int->Option (Nat×Int)
 |0,_=>none
 |n+1,Ak=>Adw L a1 (Y2 L a1 n) Ak
theorem Bm5(a1:Int):LP (EV (O33 L) L 9 c33.w.l.u.l.l) [0,1,4,5,6] [] (Bo0 a1) [.exit 0] (Y2 L a1) K:=lE (λ_=>rfl) λn v ih=>eE (Adw L a1 (λAk=>re (ih Ak)) v)
def Bo1(a1:Int)(a0:List Ae)(v:Int×List Ae):St:=⟨[(0,.any),(1,I a1),(4,Axx),(5,.vw false 9 59 20 a0.length),(6,I v.1)],[(9,[.bU (.t59 v.2)])],0⟩
def Yz [An A (Nat×Int×List Ae)](L:Nat)(a1:Int)(a0:List Ae)(rec:Int->List Ae->A)(C7:Int)(Dp:List Ae):A:=
 (lw C7 a0
 (jb (.cn ((gD Dp C7).Op == 4)
 (.lf true)
 (.gq (0<=C7)
 (.gq (C7<(a0.length:Int))
 (.lf ((gD Dp C7).Op == 5))))) (λb2=>
 (cn b2
 (gi C7 a0
 (gi C7 a0
 (rec (Bb (C7+1)) (Dp.set (Int.toNat C7) (⟨(gD Dp C7).Op,(Bb ((gD Dp C7).A+a1)),(gD Dp C7).B,(gD Dp C7).C,(Aa.cp ((gD Dp C7).E)),(Aa.cp ((gD Dp C7).F)),(gD Dp C7).aS,((gD Dp C7).bR),(gD Dp C7).bZ⟩:Ae)))))
 (rec (Bb (C7+1)) Dp))))
 (lf (0,C7,Dp)))
def N6(L:Nat)(a1:Int)(a0:List Ae):Nat->Int->List Ae->Option (Nat×Int×List Ae)
 |0,_,_=>none
 |n+1,C7,Dp=>Yz L a1 a0 (N6 L a1 a0 n) C7 Dp
theorem Bm6(a1:Int)(a0:List Ae):LP (EV (O33 L) L 9 c33.w.l.u.l.l) [0,1,4,5,6] [9] (Bo1 a1 a0) [.exit 0] (λn v=>N6 L a1 a0 n v.1 v.2) K:=lE (λ_=>rfl) λn v ih=>eE (Yz L a1 a0 (λC7 Dp=>re (ih (C7,Dp))) v.1 v.2)
def Qy [An A (List Ae)](L:Nat)(o3:Nat×Int):A:=
 (sl o3.1 [(lf [])])
def Qz [An A (List Ae)](L:Nat)(o4:Nat×Int×List Ae):A:=
 (sl o4.1 [(lf o4.2.2)])
def Rm [An A (List Ae)](L:Nat)(a0:List Ae)(a1:Int)(nx1:A)(nx2:A):A:=
 (cn (Nat.beq a0.length 0)
 nx1
 (gq (a0.length*256<=140737488355328)
 (gq (a0.length<=maxLen)
 nx2)))
def Aj3 [An A (List Ae)](a0:List Ae)(a1:Int):A:=Rm L a0 a1 (bd (Y2 L a1 L 0) λo3=>Qy L o3) (bd (N6 L a1 a0 L 0 a0) λo4=>Qz L o4)
def Aap(a0:List Ae)(a1:Int):Option (List Ae):=Aj3 L a0 a1
def X33:N1:=E2 (λ(x:List Ae)=>lv (.t59 x)) 33 Bas (cI .i64) (Aap L) λa0 a1 r h=>hF Tryz.func33 (C:=O33 L) (oS _) L (λkk=>eE (Rm L a0 a1 (hq (Bm5 L (KA (O33 L) L 9 c33 (rl [4,1,2,1]) (KE Tryz.f33 kk)) a1 L 0) λo3=>Qy L o3) (hq (Bm6 L (KA (O33 L) L 9 c33 (rl [4,1,2,1]) (KE Tryz.f33 kk)) a1 a0 L (0,a0)) λo4=>Qz L o4))) h
def Aj2 [An A (List Ae)](a0:List Ae)(a1:Int):A:=
 (bd (Aap L a0 a1) λr1=>
 (lf r1))
def Cn(a0:List Ae)(a1:Int):Option (List Ae):=Aj2 L a0 a1
def X14:N1:=E2 (λ(x:List Ae)=>lv (.t59 x)) 14 Bas (cI .i64) (Cn L) λa0 a1 r h=>hF Tryz.func14 (oS [X33 L]) L (λkk=>eE (Aj2 L a0 a1)) h
def A7z(F:Aa->Aa->Option Bool):Prop:=∀y0 y1 r,F y0 y1=some r->Ho Tryz.prog 19 [B4.en y0,B4.en y1] B r
def A71(F:(List Aa)->(List Aa)->Option Bool):Prop:=∀y0 y1 r,F y0 y1=some r->Ho Tryz.prog 39 [Aur.en y0,Aur.en y1] B r
def O19(Gh:Aa->Aa->Option Bool)(Gr:(List Aa)->(List Aa)->Option Bool)(L:Nat):Bj:=(orc 19 (A2 B B4 B4 Gh) (orc 39 (A2 B Aur Aur Gr) (oL [])))
theorem s19(Gh:Aa->Aa->Option Bool)(Gr:(List Aa)->(List Aa)->Option Bool)(A41:A7z Gh)(A44:A71 Gr)(L:Nat):Df Tryz.prog (O19 Gh Gr L):=(Dc (a2 _ A41) (Dc (a2 _ A44) (oS [])))
def Amp [An A Bool](Gh:Aa->Aa->Option Bool)(Gr:(List Aa)->(List Aa)->Option Bool)(L:Nat)(a0:Aa)(a1:Aa):A:=
 (jp (.cn (a0.Op != a1.Op)
 (.lf true)
 (.lf (!(a0.aG.toList == a1.aG.toList)))) (λb1=>
 (jp (.cn b1
 (.lf true)
 (.lf (a0.N != a1.N))) (λb2=>
 (cn b2
 (lf false)
 (bd (Gr a0.bJ a1.bJ) λr3=>
 (lf r3)))))))
def Ahq(Gh:Aa->Aa->Option Bool)(Gr:(List Aa)->(List Aa)->Option Bool)(L:Nat)(a0:Aa)(a1:Aa):Option Bool:=Amp Gh Gr L a0 a1
theorem b19(Gh:Aa->Aa->Option Bool)(Gr:(List Aa)->(List Aa)->Option Bool)(A41:A7z Gh)(A44:A71 Gr)(L:Nat):A7z (Ahq Gh Gr L):=λa0 a1 r h=>hF Tryz.func19 (s19 Gh Gr A41 A44 L) L (λkk=>eE (Amp Gh Gr L a0 a1)) h
def c39:=CC Tryz.f39
def O39(Gh:Aa->Aa->Option Bool)(Gr:(List Aa)->(List Aa)->Option Bool)(L:Nat):Bj:=(orc 19 (A2 B B4 B4 Gh) (orc 39 (A2 B Aur Aur Gr) (oL [])))
theorem s39(Gh:Aa->Aa->Option Bool)(Gr:(List Aa)->(List Aa)->Option Bool)(A41:A7z Gh)(A44:A71 Gr)(L:Nat):Df Tryz.prog (O39 Gh Gr L):=(Dc (a2 _ A41) (Dc (a2 _ A44) (oS [])))
def Bo3(a0:List Aa)(a1:List Aa)(v:Tu4):St:=⟨[(0,lv (.t53 a0)),(1,lv (.t53 a1)),(4,B v.1),(5,I v.2)],[],0⟩
def Us [An A (Nat×Tu4)](Gh:Aa->Aa->Option Bool)(Gr:(List Aa)->(List Aa)->Option Bool)(L:Nat)(a0:List Aa)(a1:List Aa)(rec:Bool->Int->A)(Bl:Bool)(Ak:Int):A:=
 (lw Ak a0
 (gi Ak a1
 (bd (Gh (Aa.cp (gD a0 Ak)) (Aa.cp (gD a1 Ak))) λr1=>
 (cn (!r1)
 (lf (0,false,Ak))
 (rec Bl (Bb (Ak+1))))))
 (lf (1,Bl,Ak)))
def Kl(Gh:Aa->Aa->Option Bool)(Gr:(List Aa)->(List Aa)->Option Bool)(L:Nat)(a0:List Aa)(a1:List Aa):Nat->Bool->Int->Option (Nat×Tu4)
 |0,_,_=>none
 |n+1,Bl,Ak=>Us Gh Gr L a0 a1 (Kl Gh Gr L a0 a1 n) Bl Ak
theorem Bm8(Gh:Aa->Aa->Option Bool)(Gr:(List Aa)->(List Aa)->Option Bool)(L:Nat)(K:Hp)(a0:List Aa)(a1:List Aa):LP (EV (O39 Gh Gr L) L 9 c39.w.l.u.l.l) [0,1,4,5] [] (Bo3 a0 a1) [.ret,.exit 0] (λn v=>Kl Gh Gr L a0 a1 n v.1 v.2) K:=lE (λ_=>rfl) λn v ih=>eE (Us Gh Gr L a0 a1 (λBl Ak=>re (ih (Bl,Ak))) v.1 v.2)
def m9 [An A Bool](Gh:Aa->Aa->Option Bool)(Gr:(List Aa)->(List Aa)->Option Bool)(L:Nat)(o2:Nat×Tu4):A:=
 (sl o2.1 [(lf o2.2.1),
 (lf true)])
def w8 [An A Bool](Gh:Aa->Aa->Option Bool)(Gr:(List Aa)->(List Aa)->Option Bool)(L:Nat)(a0:List Aa)(a1:List Aa)(nx1:A):A:=
 (cn ((a0.length:Int) != (a1.length:Int))
 (lf false)
 nx1)
def Al0 [An A Bool](Gh:Aa->Aa->Option Bool)(Gr:(List Aa)->(List Aa)->Option Bool)(L:Nat)(a0:List Aa)(a1:List Aa):A:=w8 Gh Gr L a0 a1 (bd (Kl Gh Gr L a0 a1 L false 0) λo2=>m9 Gh Gr L o2)
def z6(Gh:Aa->Aa->Option Bool)(Gr:(List Aa)->(List Aa)->Option Bool)(L:Nat)(a0:List Aa)(a1:List Aa):Option Bool:=Al0 Gh Gr L a0 a1
theorem b39(Gh:Aa->Aa->Option Bool)(Gr:(List Aa)->(List Aa)->Option Bool)(A41:A7z Gh)(A44:A71 Gr)(L:Nat):A71 (z6 Gh Gr L):=λa0 a1 r h=>hF Tryz.func39 (s39 Gh Gr A41 A44 L) L (λkk=>eE (w8 Gh Gr L a0 a1 (hq (Bm8 Gh Gr L (KA (O39 Gh Gr L) L 9 c39 (rl [4,1,2,1]) (KE Tryz.f39 kk)) a0 a1 L (false,0)) λo2=>m9 Gh Gr L o2))) h
mutual
def Ga:Nat->Aa->Aa->Option Bool
 |0,_,_=>none
 |L+1,a0,a1=>Ahq (Ga L) (I7 L) L a0 a1
def I7:Nat->(List Aa)->(List Aa)->Option Bool
 |0,_,_=>none
 |L+1,a0,a1=>z6 (Ga L) (I7 L) L a0 a1
end
theorem Blq(L:Nat):A7z (Ga L)/\A71 (I7 L):=by
 induction L with
 |zero=>exact⟨λ_ _ _ h=>(by cases h),λ_ _ _ h=>(by cases h)⟩
 |succ L ih=>
  obtain⟨i19,i39⟩:=ih;exact⟨b19 (Ga L) (I7 L) i19 i39 L,b39 (Ga L) (I7 L) i19 i39 L⟩
def X19(L:Nat):N1:=E2 B 19 B4 B4 (Ga L) ((Blq L).1)
def c56:=CC Tryz.f56
def O56(L:Nat):Bj:=oL []
def Bpc(a0:List Int)(a1:List Int)(v:Tu4):St:=⟨[(0,lv (.t3 a0)),(1,lv (.t3 a1)),(4,B v.1),(5,I v.2)],[],0⟩
def Tf [An A (Nat×Tu4)](L:Nat)(a0:List Int)(a1:List Int)(rec:Bool->Int->A)(Bl:Bool)(Ak:Int):A:=
 (lw Ak a0
 (gi Ak a1
 (cn ((gD a0 Ak) != (gD a1 Ak))
 (lf (0,false,Ak))
 (rec Bl (Bb (Ak+1)))))
 (lf (1,Bl,Ak)))
def Jj(L:Nat)(a0:List Int)(a1:List Int):Nat->Bool->Int->Option (Nat×Tu4)
 |0,_,_=>none
 |n+1,Bl,Ak=>Tf L a0 a1 (Jj L a0 a1 n) Bl Ak
theorem Bng(a0:List Int)(a1:List Int):LP (EV (O56 L) L 9 c56.w.l.u.l.l) [0,1,4,5] [] (Bpc a0 a1) [.ret,.exit 0] (λn v=>Jj L a0 a1 n v.1 v.2) K:=lE (λ_=>rfl) λn v ih=>eE (Tf L a0 a1 (λBl Ak=>re (ih (Bl,Ak))) v.1 v.2)
def Tk [An A Bool](L:Nat)(o1:Nat×Tu4):A:=
 (sl o1.1 [(lf o1.2.1),
 (lf true)])
def Tu [An A Bool](L:Nat)(a0:List Int)(a1:List Int)(nx1:A):A:=
 (cn ((a0.length:Int) != (a1.length:Int))
 (lf false)
 nx1)
def Aj1 [An A Bool](a0:List Int)(a1:List Int):A:=Tu L a0 a1 (bd (Jj L a0 a1 L false 0) λo1=>Tk L o1)
def T3(a0:List Int)(a1:List Int):Option Bool:=Aj1 L a0 a1
def X56:N1:=E2 B 56 cl3 cl3 (T3 L) λa0 a1 r h=>hF Tryz.func56 (C:=O56 L) (oS _) L (λkk=>eE (Tu L a0 a1 (hq (Bng L (KA (O56 L) L 9 c56 (rl [4,1,2,1]) (KE Tryz.f56 kk)) a0 a1 L (false,0)) λo1=>Tk L o1))) h
def Amo [An A Bool](a0:Aj)(a1:Aj):A:=
 (jp (.cn (a0.Op == a1.Op)
 (.lf (a0.A == a1.A))
 (.lf false)) (λb1=>
 (jp (.cn b1
 (.lf (a0.B == a1.B))
 (.lf false)) (λb2=>
 (jp (.cn b2
 (.lf (a0.N == a1.N))
 (.lf false)) (λb3=>
 (jb (.cn b3
 (.bd (T3 L a0.bD a1.bD) λr5=>
 (.lf r5))
 (.lf false)) (λb4=>
 (jb (.cn b4
 (.bd (T3 L a0.bB a1.bB) λr7=>
 (.lf r7))
 (.lf false)) (λb6=>
 (lf b6)))))))))))
def Ac8(a0:Aj)(a1:Aj):Option Bool:=Amo L a0 a1
def X32:N1:=E2 B 32 X2 X2 (Ac8 L) λa0 a1 r h=>hF Tryz.func32 (oS [X56 L]) L (λkk=>eE (Amo L a0 a1)) h
def c13:=CC Tryz.f13
def O13:Bj:=oL [X19 L,X32 L]
def Bor(a0:List Ae)(a1:List Ae)(Ak:Int)(v:Tu4):St:=⟨[(0,lv (.t59 a0)),(1,lv (.t59 a1)),(4,B v.1),(5,I Ak),(6,.loc 6 0),(7,.loc 7 0),(8,I v.2)],[(6,(Ael (gD a0 Ak))),(7,(Ael (gD a1 Ak)))],0⟩
def Qg [An A (Nat×Tu4)](a0:List Ae)(a1:List Ae)(Ak:Int)(rec:Bool->Int->A)(Lm:Bool)(Dp:Int):A:=
 (lw Dp ((gD a0 Ak).aS)
 (gi Dp ((gD a1 Ak).aS)
 (bd (Ga L (Aa.cp (gD ((gD a0 Ak).aS) Dp)) (Aa.cp (gD ((gD a1 Ak).aS) Dp))) λr11=>
 (cn (!r11)
 (lf (0,false,Dp))
 (rec Lm (Bb (Dp+1))))))
 (lf (1,Lm,Dp)))
def F1(L:Nat)(a0:List Ae)(a1:List Ae)(Ak:Int):Nat->Bool->Int->Option (Nat×Tu4)
 |0,_,_=>none
 |n+1,Lm,Dp=>Qg L a0 a1 Ak (F1 L a0 a1 Ak n) Lm Dp
theorem Bmx(a0:List Ae)(a1:List Ae)(Ak:Int):LP (EV (O13 L) L 9 c13.w.l.u.l.l.u.l.l.x.l.l) [0,1,4,5,6,7,8] [6,7] (Bor a0 a1 Ak) [.ret,.exit 2] (λn v=>F1 L a0 a1 Ak n v.1 v.2) K:=lE (λ_=>rfl) λn v ih=>eE (Qg L a0 a1 Ak (λLm Dp=>re (ih (Lm,Dp))) v.1 v.2)
def Boq(a0:List Ae)(a1:List Ae)(v:Tu4):St:=⟨[(0,lv (.t59 a0)),(1,lv (.t59 a1)),(4,B v.1),(5,I v.2)],[],0⟩
def Qi [An A (Nat×Tu4)](L:Nat)(Ak:Int)(rec:Bool->Int->A)(o12:Nat×Tu4):A:=
 (sl o12.1 [(lf (0,o12.2.1,Ak)),
 (rec o12.2.1 (Bb (Ak+1)))])
def Ql [An A (Nat×Tu4)](a0:List Ae)(a1:List Ae)(rec:Bool->Int->A)(Bl:Bool)(Ak:Int)(nx1:Int->Bool->A):A:=
 (lw Ak a0
 (gi Ak a1
 (jp (.cn ((gD a0 Ak).Op != (gD a1 Ak).Op)
 (.lf true)
 (.lf ((gD a0 Ak).A != (gD a1 Ak).A))) (λb1=>
 (jp (.cn b1
 (.lf true)
 (.lf ((gD a0 Ak).B != (gD a1 Ak).B))) (λb2=>
 (jp (.cn b2
 (.lf true)
 (.lf ((gD a0 Ak).C != (gD a1 Ak).C))) (λb3=>
 (jp (.cn b3
 (.lf true)
 (.lf (!((gD a0 Ak).bZ == (gD a1 Ak).bZ)))) (λb4=>
 (jp (.cn b4
 (.lf true)
 (.lf (((gD a0 Ak).aS.length:Int) != ((gD a1 Ak).aS.length:Int)))) (λb5=>
 (cn b5
 (lf (0,false,Ak))
 (bd (Ga L (Aa.cp ((gD a0 Ak).E)) (Aa.cp ((gD a1 Ak).E))) λr6=>
 (jb (.cn (!r6)
 (.lf true)
 (.bd (Ga L (Aa.cp ((gD a0 Ak).F)) (Aa.cp ((gD a1 Ak).F))) λr8=>
 (.lf (!r8)))) (λb7=>
 (jb (.cn b7
 (.lf true)
 (.bd (Ac8 L ((gD a0 Ak).bR) ((gD a1 Ak).bR)) λr10=>
 (.lf (!r10)))) (λb9=>
 (cn b9
 (lf (0,false,Ak))
 (nx1 Ak Bl)))))))))))))))))))
 (lf (1,Bl,Ak)))
def Wb [An A (Nat×Tu4)](a0:List Ae)(a1:List Ae)(rec:Bool->Int->A)(Bl:Bool)(Ak:Int):A:=Ql L a0 a1 rec Bl Ak (λAk Bl=>bd (F1 L a0 a1 Ak L Bl 0) λo12=>Qi L Ak rec o12)
def Hw(L:Nat)(a0:List Ae)(a1:List Ae):Nat->Bool->Int->Option (Nat×Tu4)
 |0,_,_=>none
 |n+1,Bl,Ak=>Wb L a0 a1 (Hw L a0 a1 n) Bl Ak
theorem Bmw(a0:List Ae)(a1:List Ae):LP (EV (O13 L) L 9 c13.w.l.u.l.l) [0,1,4,5] [] (Boq a0 a1) [.ret,.exit 0] (λn v=>Hw L a0 a1 n v.1 v.2) K:=lE (λ_=>rfl) λn v ih=>eE (Ql L a0 a1 (λBl Ak=>re (ih (Bl,Ak))) v.1 v.2 (λAk Bl=>hq (Bmx L (KA (O13 L) L 9 c13.w.l.u.l.l (rl [2,2,8,1]) (Jz (M8 (EV (O13 L) L 9 c13.w.l.u.l.l) [0,1,4,5] [] n) [0,1,4,5] [] K)) a0 a1 Ak L (Bl,0)) λo12=>Qi L Ak (λBl Ak=>re (ih (Bl,Ak))) o12))
def Qj [An A Bool](L:Nat)(o13:Nat×Tu4):A:=
 (sl o13.1 [(lf o13.2.1),
 (lf true)])
def Qm [An A Bool](L:Nat)(a0:List Ae)(a1:List Ae)(nx2:A):A:=
 (cn ((a0.length:Int) != (a1.length:Int))
 (lf false)
 nx2)
def Afu [An A Bool](a0:List Ae)(a1:List Ae):A:=Qm L a0 a1 (bd (Hw L a0 a1 L false 0) λo13=>Qj L o13)
def Bi(a0:List Ae)(a1:List Ae):Option Bool:=Afu L a0 a1
def X13:N1:=E2 B 13 Bas Bas (Bi L) λa0 a1 r h=>hF Tryz.func13 (C:=O13 L) (oS _) L (λkk=>eE (Qm L a0 a1 (hq (Bmw L (KA (O13 L) L 9 c13 (rl [4,1,2,1]) (KE Tryz.f13 kk)) a0 a1 L (false,0)) λo13=>Qj L o13))) h
end
end Go.Proofs.YtgacplpjamkieaaGreat.Ev
