import Derived.Test.YthjhkpgonleelaaGreatDoorAG1
import Derived.Test.YthjhkpgonleelaaGreatDoorAG5
namespace Go.Proofs.YthjhkpgonleelaaGreatDoor.Ev
open Go An
set_option maxRecDepth 100000
set_option maxHeartbeats 4000000
set_option linter.unusedVariables false
set_option linter.unusedSimpArgs false
set_option linter.unnecessarySimpa false
noncomputable section
variable {A:Type} (L n:Nat) (kk:Cc) (K:Bg) (k:Bu)
def A2l(F:Am→Ab→Option Bool):Prop:=∀y0 y1 r,F y0 y1=some r→Ho Tryz.prog 128 [Iz.en y0,Bq.en y1] B r
def An1:=CC Tryz.f166
def Buq:=CC Tryz.f196
def Az4:=CC Tryz.f128
def Jj(Bd:Am→Ab→Option Bool)(L:Nat):Bi:=(orc 128 (A2 B Iz Bq Bd) (oL [Bfh L,Bfp L]))
theorem B0k(Bd:Am→Ab→Option Bool)(Bai:A2l Bd)(L:Nat):Cz Tryz.prog (Jj Bd L):=(De (a2 _ Bai) (oS [Bfh L,Bfp L]))
def Afb(Bd:Am→Ab→Option Bool)(L:Nat)(kk:Cc):Bg:=(Bp (EV (Jj Bd L) L 9 Az4.w.u.r) (Ct Tryz.prog (RS Tryz.f128) kk))
def A6a(p1_0:List Ab)(p1_1:Am)(p1_2:Ab)(v:C8):St:=⟨[(0,lv (.t98 p1_0)),(1,.clo 167 0 [.loc 2 0]),(4,I v.1),(7,I (p1_0.length:Int)),(8,I v.2)],[(2,(C6 p1_1)),(3,(Ca p1_2))],1004⟩
def Qp [An A Cq](Bd:Am→Ab→Option Bool)(L:Nat)(p1_0:List Ab)(p1_1:Am)(p1_2:Ab)(rec:Int→Int→A)(Aw:Int)(Ag:Int):A:=
 (lw Ag p1_0
 (bd (Bd (⟨(⟨p1_1.u_p.Name,p1_1.u_p.Sites,p1_1.u_p.Links⟩:Ac),p1_1.u_site,p1_1.u_c⟩:Am) (Ab.cp (p1_0.getD (Int.toNat Ag) default))) fun r2=>
 (cn (!r2)
 (lf (0,Ag,Ag))
 (rec Aw (Bo (Ag+1)))))
 (lf (1,Aw,Ag)))
def Jr(Bd:Am→Ab→Option Bool)(L:Nat)(p1_0:List Ab)(p1_1:Am)(p1_2:Ab):Nat→Int→Int→Option Cq
 |0,_,_=>none
 |n+1,Aw,Ag=>Qp Bd L p1_0 p1_1 p1_2 (Jr Bd L p1_0 p1_1 p1_2 n) Aw Ag
theorem Bif(Bd:Am→Ab→Option Bool)(L:Nat)(K:Bg)(p1_0:List Ab)(p1_1:Am)(p1_2:Ab):LP (EV (Jj Bd L) L 7 Buq.u.l.u.l.l) [0,1,4,7,8] [2,3] (A6a p1_0 p1_1 p1_2) [.ret,.exit 0] (fun n v=>Jr Bd L p1_0 p1_1 p1_2 n v.1 v.2) K:=lE (fun _=>rfl) fun n v ih=>eE (Qp Bd L p1_0 p1_1 p1_2 (fun Aw Ag=>re (ih (Aw,Ag))) v.1 v.2)
def Wa(p1_0:List Ab)(p1_1:Am)(p1_2:Ab)(k:Bu):Int→Prop:=fun o=>k (I o) [(2,(C6 p1_1)),(3,(Ca p1_2))]
def Jx [An A Int](Bd:Am→Ab→Option Bool)(L:Nat)(o3:Nat×C8):A:=
 (sl o3.1 [(lf o3.2.1),
 (lf (-1))])
def A3i(Bd:Am→Ab→Option Bool)(L:Nat)(k:Bu):Bg:=(Bb 0 (Bp (EV (Jj Bd L) L 7 Buq.u.r) (Cx Tryz.prog (RS Tryz.f196) k)))
theorem Bpe(Bd:Am→Ab→Option Bool)(L:Nat)(k:Bu)(p1_0:List Ab)(p1_1:Am)(p1_2:Ab)(o3:Nat×C8):kX [.ret,.exit 0] (A6a p1_0 p1_1 p1_2) (A3i Bd L k) o3=ob (Jx Bd L o3) (Wa p1_0 p1_1 p1_2 k):=eE (Jx Bd L o3)
def Ada [An A Int](Bd:Am→Ab→Option Bool)(L:Nat)(p1_0:List Ab)(p1_1:Am)(p1_2:Ab):A:=(bd (Jr Bd L p1_0 p1_1 p1_2 L 0 0) fun o3=>Jx Bd L o3)
def Dn(Bd:Am→Ab→Option Bool)(L:Nat)(p1_0:List Ab)(p1_1:Am)(p1_2:Ab):Option Int:=Ada Bd L p1_0 p1_1 p1_2
theorem Afa(Bd:Am→Ab→Option Bool)(L:Nat)(k:Bu)(p1_0:List Ab)(p1_1:Am)(p1_2:Ab):YO (Jj Bd L) L 8 196 [lv (.t98 p1_0),.clo 167 0 [.loc 2 0]] [(2,(C6 p1_1)),(3,(Ca p1_2))] k=ob (Dn Bd L p1_0 p1_1 p1_2) (Wa p1_0 p1_1 p1_2 k):=(Cu _ _ _ Xu _ _ _ _ _ _ _).trans (eE ((ho (Bif Bd L (A3i Bd L k) p1_0 p1_1 p1_2 L (0,0)) fun o3=>Bpe Bd L k p1_0 p1_1 p1_2 o3)))
def Jy [An A Bool](Bd:Am→Ab→Option Bool)(L:Nat)(o9:Int):A:=
 (nq (lf (!(decide (o9≥0)))))
def A3j(Bd:Am→Ab→Option Bool)(L:Nat)(kk:Cc)(a1:Ab)(a0:Am)(r1:Bool):Bu:=(B2 Tryz.prog (Jj Bd L) (EI (Jj Bd L) L 8) 2 (List.drop 3 An1.u.l.ops) ⟨[(6,.clo 167 0 [.loc 2 0]),(5,lv (.t98 a1.Kids)),(0,lv (.t98 a1.Kids)),(1,.clo 167 0 [.loc 2 0]),(4,B false)],[(2,(C6 a0)),(3,(Ca a1))],1004⟩ (some 7) (fun st9=>(Bp (EV (Jj Bd L) L 8 An1.u.r) (Cx Tryz.prog (RS Tryz.f166) (B2 Tryz.prog (Jj Bd L) (EI (Jj Bd L) L 9) 3 (List.drop 6 Az4.w.u.l.ops) ⟨[(43,B true),(46,.clo 167 0 [.loc 2 0]),(43,B true),(45,lv (.t98 a1.Kids)),(43,B true),(44,.loc 3 3),(43,B true),(43,B r1),(42,B r1),(2,.loc 2 0),(3,.loc 3 0),(4,B false),(5,B r1)],[(2,(C6 a0)),(3,(Ca a1))],0⟩ (some 47) (fun st9=>(Afb Bd L kk) .normal st9)))) .normal st9))
theorem Bpf(Bd:Am→Ab→Option Bool)(L:Nat)(kk:Cc)(a1:Ab)(a0:Am)(r1:Bool)(o9:Int):Wa a1.Kids a0 a1 (A3j Bd L kk a1 a0 r1) o9=ob (Jy Bd L o9) (kQ B kk):=eE (Jy Bd L o9)
def Jz [An A Bool](Bd:Am→Ab→Option Bool)(L:Nat)(o10:Int):A:=
 (nq (lf (!(decide (o10≥0)))))
def A3k(Bd:Am→Ab→Option Bool)(L:Nat)(kk:Cc)(a1:Ab)(a0:Am)(r4:Bool):Bu:=(B2 Tryz.prog (Jj Bd L) (EI (Jj Bd L) L 8) 2 (List.drop 3 An1.u.l.ops) ⟨[(6,.clo 167 0 [.loc 2 0]),(5,lv (.t98 a1.Kids)),(0,lv (.t98 a1.Kids)),(1,.clo 167 0 [.loc 2 0]),(4,B false)],[(2,(C6 a0)),(3,(Ca a1))],1004⟩ (some 7) (fun st9=>(Bp (EV (Jj Bd L) L 8 An1.u.r) (Cx Tryz.prog (RS Tryz.f166) (B2 Tryz.prog (Jj Bd L) (EI (Jj Bd L) L 9) 3 (List.drop 6 Az4.w.u.l.ops) ⟨[(43,B true),(46,.clo 167 0 [.loc 2 0]),(43,B true),(45,lv (.t98 a1.Kids)),(43,B true),(44,.loc 3 3),(43,B true),(43,B r4),(42,B r4),(2,.loc 2 0),(3,.loc 3 0),(4,B false),(5,B r4)],[(2,(C6 a0)),(3,(Ca a1))],0⟩ (some 47) (fun st9=>(Afb Bd L kk) .normal st9)))) .normal st9))
theorem Bpg(Bd:Am→Ab→Option Bool)(L:Nat)(kk:Cc)(a1:Ab)(a0:Am)(r4:Bool)(o10:Int):Wa a1.Kids a0 a1 (A3k Bd L kk a1 a0 r4) o10=ob (Jz Bd L o10) (kQ B kk):=eE (Jz Bd L o10)
def J0 [An A Bool](Bd:Am→Ab→Option Bool)(L:Nat)(o11:Int):A:=
 (nq (lf (!(decide (o11≥0)))))
def A3l(Bd:Am→Ab→Option Bool)(L:Nat)(kk:Cc)(a1:Ab)(a0:Am)(r5:Bool):Bu:=(B2 Tryz.prog (Jj Bd L) (EI (Jj Bd L) L 8) 2 (List.drop 3 An1.u.l.ops) ⟨[(6,.clo 167 0 [.loc 2 0]),(5,lv (.t98 a1.Kids)),(0,lv (.t98 a1.Kids)),(1,.clo 167 0 [.loc 2 0]),(4,B false)],[(2,(C6 a0)),(3,(Ca a1))],1004⟩ (some 7) (fun st9=>(Bp (EV (Jj Bd L) L 8 An1.u.r) (Cx Tryz.prog (RS Tryz.f166) (B2 Tryz.prog (Jj Bd L) (EI (Jj Bd L) L 9) 3 (List.drop 6 Az4.w.u.l.ops) ⟨[(43,B true),(46,.clo 167 0 [.loc 2 0]),(43,B true),(45,lv (.t98 a1.Kids)),(43,B true),(44,.loc 3 3),(43,B true),(43,B r5),(42,B r5),(2,.loc 2 0),(3,.loc 3 0),(4,B false),(5,B r5)],[(2,(C6 a0)),(3,(Ca a1))],0⟩ (some 47) (fun st9=>(Afb Bd L kk) .normal st9)))) .normal st9))
theorem Bph(Bd:Am→Ab→Option Bool)(L:Nat)(kk:Cc)(a1:Ab)(a0:Am)(r5:Bool)(o11:Int):Wa a1.Kids a0 a1 (A3l Bd L kk a1 a0 r5) o11=ob (J0 Bd L o11) (kQ B kk):=eE (J0 Bd L o11)
def J1 [An A Bool](Bd:Am→Ab→Option Bool)(L:Nat)(o12:Int):A:=
 (nq (lf (!(decide (o12≥0)))))
def A3m(Bd:Am→Ab→Option Bool)(L:Nat)(kk:Cc)(a1:Ab)(a0:Am)(r6:Bool):Bu:=(B2 Tryz.prog (Jj Bd L) (EI (Jj Bd L) L 8) 2 (List.drop 3 An1.u.l.ops) ⟨[(6,.clo 167 0 [.loc 2 0]),(5,lv (.t98 a1.Kids)),(0,lv (.t98 a1.Kids)),(1,.clo 167 0 [.loc 2 0]),(4,B false)],[(2,(C6 a0)),(3,(Ca a1))],1004⟩ (some 7) (fun st9=>(Bp (EV (Jj Bd L) L 8 An1.u.r) (Cx Tryz.prog (RS Tryz.f166) (B2 Tryz.prog (Jj Bd L) (EI (Jj Bd L) L 9) 3 (List.drop 6 Az4.w.u.l.ops) ⟨[(43,B true),(46,.clo 167 0 [.loc 2 0]),(43,B true),(45,lv (.t98 a1.Kids)),(43,B true),(44,.loc 3 3),(43,B true),(43,B r6),(42,B r6),(2,.loc 2 0),(3,.loc 3 0),(4,B false),(5,B r6)],[(2,(C6 a0)),(3,(Ca a1))],0⟩ (some 47) (fun st9=>(Afb Bd L kk) .normal st9)))) .normal st9))
theorem Bpi(Bd:Am→Ab→Option Bool)(L:Nat)(kk:Cc)(a1:Ab)(a0:Am)(r6:Bool)(o12:Int):Wa a1.Kids a0 a1 (A3m Bd L kk a1 a0 r6) o12=ob (J1 Bd L o12) (kQ B kk):=eE (J1 Bd L o12)
def J2 [An A Bool](Bd:Am→Ab→Option Bool)(L:Nat)(o13:Int):A:=
 (nq (lf (!(decide (o13≥0)))))
def A3n(Bd:Am→Ab→Option Bool)(L:Nat)(kk:Cc)(a1:Ab)(a0:Am)(r7:Int)(r8:Int):Bu:=(B2 Tryz.prog (Jj Bd L) (EI (Jj Bd L) L 8) 2 (List.drop 3 An1.u.l.ops) ⟨[(6,.clo 167 0 [.loc 2 0]),(5,lv (.t98 a1.Kids)),(0,lv (.t98 a1.Kids)),(1,.clo 167 0 [.loc 2 0]),(4,B false)],[(2,(C6 a0)),(3,(Ca a1))],1004⟩ (some 7) (fun st9=>(Bp (EV (Jj Bd L) L 8 An1.u.r) (Cx Tryz.prog (RS Tryz.f166) (B2 Tryz.prog (Jj Bd L) (EI (Jj Bd L) L 9) 3 (List.drop 6 Az4.w.u.l.ops) ⟨[(43,B true),(46,.clo 167 0 [.loc 2 0]),(43,B true),(45,lv (.t98 a1.Kids)),(43,B true),(44,.loc 3 3),(43,B true),(43,B (decide (a1.N < (Bo (r7+r8))))),(42,B (decide (a1.N < (Bo (r7+r8))))),(2,.loc 2 0),(3,.loc 3 0),(4,B false),(5,B (decide (a1.N < (Bo (r7+r8)))))],[(2,(C6 a0)),(3,(Ca a1))],0⟩ (some 47) (fun st9=>(Afb Bd L kk) .normal st9)))) .normal st9))
theorem Bpj(Bd:Am→Ab→Option Bool)(L:Nat)(kk:Cc)(a1:Ab)(a0:Am)(r7:Int)(r8:Int)(o13:Int):Wa a1.Kids a0 a1 (A3n Bd L kk a1 a0 r7 r8) o13=ob (J2 Bd L o13) (kQ B kk):=eE (J2 Bd L o13)
def J3 [An A Bool](Bd:Am→Ab→Option Bool)(L:Nat)(o14:Int):A:=
 (nq (lf (!(decide (o14≥0)))))
def A3o(Bd:Am→Ab→Option Bool)(L:Nat)(kk:Cc)(a1:Ab)(a0:Am):Bu:=(B2 Tryz.prog (Jj Bd L) (EI (Jj Bd L) L 8) 2 (List.drop 3 An1.u.l.ops) ⟨[(6,.clo 167 0 [.loc 2 0]),(5,lv (.t98 a1.Kids)),(0,lv (.t98 a1.Kids)),(1,.clo 167 0 [.loc 2 0]),(4,B false)],[(2,(C6 a0)),(3,(Ca a1))],1004⟩ (some 7) (fun st9=>(Bp (EV (Jj Bd L) L 8 An1.u.r) (Cx Tryz.prog (RS Tryz.f166) (B2 Tryz.prog (Jj Bd L) (EI (Jj Bd L) L 9) 3 (List.drop 6 Az4.w.u.l.ops) ⟨[(43,B true),(46,.clo 167 0 [.loc 2 0]),(43,B true),(45,lv (.t98 a1.Kids)),(43,B true),(44,.loc 3 3),(43,B true),(43,B true),(42,B true),(2,.loc 2 0),(3,.loc 3 0),(4,B false),(5,B true)],[(2,(C6 a0)),(3,(Ca a1))],0⟩ (some 47) (fun st9=>(Afb Bd L kk) .normal st9)))) .normal st9))
theorem Bpk(Bd:Am→Ab→Option Bool)(L:Nat)(kk:Cc)(a1:Ab)(a0:Am)(o14:Int):Wa a1.Kids a0 a1 (A3o Bd L kk a1 a0) o14=ob (J3 Bd L o14) (kQ B kk):=eE (J3 Bd L o14)
def Rh [An A Bool](Bd:Am→Ab→Option Bool)(L:Nat)(a0:Am)(a1:Ab)(nx3:Bool→A)(nx4:Bool→A)(nx5:Bool→A)(nx6:Bool→A)(nx7:Int→Int→A)(nx8:A):A:=
 (cn (a1.Op == 25)
 (bd (Dt L (⟨(⟨a0.u_p.Name,a0.u_p.Sites,a0.u_p.Links⟩:Ac),a0.u_site,a0.u_c⟩:Am) 1 a1.N 0) fun r1=>
 (cn r1
 (nx3 r1)
 (nq (lf false))))
 (cn (a1.Op == 26)
 (bd (Dt L (⟨(⟨a0.u_p.Name,a0.u_p.Sites,a0.u_p.Links⟩:Ac),a0.u_site,a0.u_c⟩:Am) 2 a1.N 0) fun r4=>
 (cn r4
 (nx4 r4)
 (nq (lf false))))
 (cn (a1.Op == 22)
 (bd (Dt L (⟨(⟨a0.u_p.Name,a0.u_p.Sites,a0.u_p.Links⟩:Ac),a0.u_site,a0.u_c⟩:Am) 5 a1.N 0) fun r5=>
 (cn r5
 (nx5 r5)
 (nq (lf false))))
 (cn (a1.Op == 23)
 (bd (Dt L (⟨(⟨a0.u_p.Name,a0.u_p.Sites,a0.u_p.Links⟩:Ac),a0.u_site,a0.u_c⟩:Am) 6 a1.N 0) fun r6=>
 (cn r6
 (nx6 r6)
 (nq (lf false))))
 (cn (a1.Op == 24)
 (bd (I8 L (⟨(⟨a0.u_p.Name,a0.u_p.Sites,a0.u_p.Links⟩:Ac),a0.u_site,a0.u_c⟩:Am) 5 0) fun r7=>
 (bd (I8 L (⟨(⟨a0.u_p.Name,a0.u_p.Sites,a0.u_p.Links⟩:Ac),a0.u_site,a0.u_c⟩:Am) 8 0) fun r8=>
 (cn (decide (a1.N < (Bo (r7+r8))))
 (nx7 r7 r8)
 (nq (lf false)))))
 nx8)))))
def Aiz [An A Bool](Bd:Am→Ab→Option Bool)(L:Nat)(a0:Am)(a1:Ab):A:=Rh Bd L a0 a1 (fun r1=>bd (Dn Bd L a1.Kids a0 a1) fun o9=>Jy Bd L o9) (fun r4=>bd (Dn Bd L a1.Kids a0 a1) fun o10=>Jz Bd L o10) (fun r5=>bd (Dn Bd L a1.Kids a0 a1) fun o11=>J0 Bd L o11) (fun r6=>bd (Dn Bd L a1.Kids a0 a1) fun o12=>J1 Bd L o12) (fun r7 r8=>bd (Dn Bd L a1.Kids a0 a1) fun o13=>J2 Bd L o13) (bd (Dn Bd L a1.Kids a0 a1) fun o14=>J3 Bd L o14)
def V1(Bd:Am→Ab→Option Bool)(L:Nat)(a0:Am)(a1:Ab):Option Bool:=Aiz Bd L a0 a1
theorem By3(Bd:Am→Ab→Option Bool)(Bai:A2l Bd)(L:Nat):A2l (V1 Bd L):=fun a0 a1 r h=>hF Tryz.func128 (B0k Bd Bai L) L (fun kk=>eE (Rh Bd L a0 a1 (fun r1=>ho (Afa Bd L (A3j Bd L kk a1 a0 r1) a1.Kids a0 a1) fun o9=>Bpf Bd L kk a1 a0 r1 o9) (fun r4=>ho (Afa Bd L (A3k Bd L kk a1 a0 r4) a1.Kids a0 a1) fun o10=>Bpg Bd L kk a1 a0 r4 o10) (fun r5=>ho (Afa Bd L (A3l Bd L kk a1 a0 r5) a1.Kids a0 a1) fun o11=>Bph Bd L kk a1 a0 r5 o11) (fun r6=>ho (Afa Bd L (A3m Bd L kk a1 a0 r6) a1.Kids a0 a1) fun o12=>Bpi Bd L kk a1 a0 r6 o12) (fun r7 r8=>ho (Afa Bd L (A3n Bd L kk a1 a0 r7 r8) a1.Kids a0 a1) fun o13=>Bpj Bd L kk a1 a0 r7 r8 o13) (ho (Afa Bd L (A3o Bd L kk a1 a0) a1.Kids a0 a1) fun o14=>Bpk Bd L kk a1 a0 o14))) h
def Ha:Nat→Am→Ab→Option Bool
 |0,_,_=>none
 |L+1,a0,a1=>V1 (Ha L) L a0 a1
theorem Bgy(L:Nat):A2l (Ha L):=by
 induction L with
 |zero=>exact fun _ _ _ h=>(by cases h)
 |succ L ih=>
  have i128:=ih
  exact By3 (Ha L) i128 L
def Bsh(L:Nat):Di:=E2 B 128 Iz Bq (Ha L) (Bgy L)
def c64:=CC Tryz.f64
def O64:Bi:=oL [Bly L,Bsd L,Bfh L,Bse L,Bsf L,Bsg L,Bsh L,Bfi L]
def A0r:Bg:=(Bb 4 (Bp (EV (O64 L) L 9 c64.x.w.r) (Ct Tryz.prog (RS Tryz.f64) kk)))
def Avq(r9:List Ab)(a0:Am)(a1:Bm)(v:C8):St:=⟨[(0,.any),(1,.any),(2,.loc 2 0),(3,.loc 3 0),(4,I v.1),(5,.loc 5 0),(6,.any),(7,.any),(8,.any),(42,.any),(44,.any),(101,lv (.t98 r9)),(102,I (r9.length:Int)),(103,I v.2)],[(2,(C6 a0)),(3,(H5 a1)),(5,(Am6 (gl0.getD (Int.toNat a1.Op) default)))],0⟩
def N3 [An A Cq](r9:List Ab)(a0:Am)(a1:Bm)(rec:Int→Int→A)(Ar:Int)(Ag:Int):A:=
 (lw Ag r9
 (bd (Yt L (Ab.cp (r9.getD (Int.toNat Ag) default))) fun r10=>
 (cn (r10 != 0)
 (lf (0,r10,Ag))
 (bd (Ha L (⟨(⟨a0.u_p.Name,a0.u_p.Sites,a0.u_p.Links⟩:Ac),a0.u_site,a0.u_c⟩:Am) (Ab.cp (r9.getD (Int.toNat Ag) default))) fun r11=>
 (cn (!r11)
 (lf (0,2,Ag))
 (rec Ar (Bo (Ag+1)))))))
 (lf (1,Ar,Ag)))
def Er(L:Nat)(r9:List Ab)(a0:Am)(a1:Bm):Nat→Int→Int→Option Cq
 |0,_,_=>none
 |n+1,Ar,Ag=>N3 L r9 a0 a1 (Er L r9 a0 a1 n) Ar Ag
theorem A0t(r9:List Ab)(a0:Am)(a1:Bm):LP (EV (O64 L) L 9 c64.x.w.l.u.l.l) [0,1,2,3,4,5,6,7,8,42,44,101,102,103] [2,3,5] (Avq r9 a0 a1) [.ret,.exit 4] (fun n v=>Er L r9 a0 a1 n v.1 v.2) K:=lE (fun _=>rfl) fun n v ih=>eE (N3 L r9 a0 a1 (fun Ar Ag=>re (ih (Ar,Ag))) v.1 v.2)
def I5 [An A Int](a1:Bm)(o17:Nat×C8):A:=
 (sl o17.1 [(lf o17.2.1),
 (cn ((gl0.getD (Int.toNat a1.Op) default).u_dist)
 (bd (F9 L a1.Dist) fun r18=>
 (lf r18))
 (lf 0))])
def Bce:Bg:=(A0r L kk)
theorem Bwu(r9:List Ab)(a0:Am)(a1:Bm)(o17:Nat×C8):kX [.ret,.exit 4] (Avq r9 a0 a1) (Bce L kk) o17=ob (I5 L a1 o17) (kQ I kk):=eE (I5 L a1 o17)
def I6 [An A Int](a1:Bm)(o19:Nat×C8):A:=
 (sl o19.1 [(lf o19.2.1),
 (cn ((gl0.getD (Int.toNat a1.Op) default).u_dist)
 (bd (F9 L a1.Dist) fun r20=>
 (lf r20))
 (lf 0))])
def Bcf:Bg:=(A0r L kk)
theorem Bwv(r13:List Ab)(a0:Am)(a1:Bm)(o19:Nat×C8):kX [.ret,.exit 4] (Avq r13 a0 a1) (Bcf L kk) o19=ob (I6 L a1 o19) (kQ I kk):=eE (I6 L a1 o19)
def I7 [An A Int](a1:Bm)(o21:Nat×C8):A:=
 (sl o21.1 [(lf o21.2.1),
 (cn ((gl0.getD (Int.toNat a1.Op) default).u_dist)
 (bd (F9 L a1.Dist) fun r22=>
 (lf r22))
 (lf 0))])
def Bcg:Bg:=(A0r L kk)
theorem Bww(r16:List Ab)(a0:Am)(a1:Bm)(o21:Nat×C8):kX [.ret,.exit 4] (Avq r16 a0 a1) (Bcg L kk) o21=ob (I7 L a1 o21) (kQ I kk):=eE (I7 L a1 o21)
def N5 [An A Int](a0:Am)(a1:Bm)(nx1:(List Ab)→A)(nx2:(List Ab)→A)(nx3:(List Ab)→A):A:=
 (bd (w6 L a1.Op) fun r1=>
 (jb (.cn (!r1)
 (.lf true)
 (.bd (Aih L (⟨a1.Op,a1.A,a1.B,a1.C,(Ab.cp a1.E),(Ab.cp a1.F),a1.Args,a1.Dist,a1.Flag⟩:Bm)) fun r3=>
 (.lf (!r3)))) (fun b2=>
 (cn b2
 (lf 1)
 (gi a1.Op gl0
 (bd (Dt L (⟨(⟨a0.u_p.Name,a0.u_p.Sites,a0.u_p.Links⟩:Ac),a0.u_site,a0.u_c⟩:Am) ((gl0.getD (Int.toNat a1.Op) default).u_a) a1.A 0) fun r4=>
 (jp (.cn (!r4)
 (.lf ((gl0.getD (Int.toNat a1.Op) default).u_a != 0))
 (.lf false)) (fun b5=>
 (cn b5
 (lf 2)
 (cn (a1.Op == 14)
 (bd (Apk L (⟨a0.u_p.Name,a0.u_p.Sites,a0.u_p.Links⟩:Ac) a0.u_site a1.A) fun r6=>
 (jp (.cn (!r6.2)
 (.lf true)
 (.lf (r6.1 != a1.C))) (fun b7=>
 (cn b7
 (lf 16)
 (bd (Dt L (⟨(⟨a0.u_p.Name,a0.u_p.Sites,a0.u_p.Links⟩:Ac),a0.u_site,a0.u_c⟩:Am) 10 a1.B a1.A) fun r8=>
 (cn (!r8)
 (lf 2)
 (gi a1.A a0.u_p.Sites
 (gi a1.B ((a0.u_p.Sites.getD (Int.toNat a1.A) default).Routines)
 (cn ((a1.Args.length:Int) != (((a0.u_p.Sites.getD (Int.toNat a1.A) default).Routines).getD (Int.toNat a1.B) default).Params)
 (lf 8)
 (bd (H9 L (⟨a1.Op,a1.A,a1.B,a1.C,(Ab.cp a1.E),(Ab.cp a1.F),a1.Args,a1.Dist,a1.Flag⟩:Bm)) fun r9=>
 (nx1 r9)))))))))))
 (cn (a1.Op == 15)
 (bd (Dt L (⟨(⟨a0.u_p.Name,a0.u_p.Sites,a0.u_p.Links⟩:Ac),a0.u_site,a0.u_c⟩:Am) 10 a1.B a0.u_site) fun r12=>
 (cn (!r12)
 (lf 2)
 (gi a0.u_site a0.u_p.Sites
 (gi a1.B ((a0.u_p.Sites.getD (Int.toNat a0.u_site) default).Routines)
 (cn ((a1.Args.length:Int) != (((a0.u_p.Sites.getD (Int.toNat a0.u_site) default).Routines).getD (Int.toNat a1.B) default).Params)
 (lf 8)
 (bd (H9 L (⟨a1.Op,a1.A,a1.B,a1.C,(Ab.cp a1.E),(Ab.cp a1.F),a1.Args,a1.Dist,a1.Flag⟩:Bm)) fun r13=>
 (nx2 r13)))))))
 (jb (.cn ((gl0.getD (Int.toNat a1.Op) default).u_b != 0)
 (.bd (Dt L (⟨(⟨a0.u_p.Name,a0.u_p.Sites,a0.u_p.Links⟩:Ac),a0.u_site,a0.u_c⟩:Am) ((gl0.getD (Int.toNat a1.Op) default).u_b) a1.B 0) fun r15=>
 (.lf (!r15)))
 (.lf false)) (fun b14=>
 (cn b14
 (lf 2)
 (bd (H9 L (⟨a1.Op,a1.A,a1.B,a1.C,(Ab.cp a1.E),(Ab.cp a1.F),a1.Args,a1.Dist,a1.Flag⟩:Bm)) fun r16=>
 (nx3 r16))))))))))))))))
def Ahf [An A Int](a0:Am)(a1:Bm):A:=N5 L a0 a1 (fun r9=>bd (Er L r9 a0 a1 L 0 0) fun o17=>I5 L a1 o17) (fun r13=>bd (Er L r13 a0 a1 L 0 0) fun o19=>I6 L a1 o19) (fun r16=>bd (Er L r16 a0 a1 L 0 0) fun o21=>I7 L a1 o21)
def Tr(a0:Am)(a1:Bm):Option Int:=Ahf L a0 a1
def X64:Di:=E2 I 64 Iz Hf (Tr L) fun a0 a1 r h=>hF Tryz.func64 (C:=O64 L) (oS _) L (fun kk=>eE (N5 L a0 a1 (fun r9=>ho (A0t L (Bce L kk) r9 a0 a1 L (0,0)) fun o17=>Bwu L kk r9 a0 a1 o17) (fun r13=>ho (A0t L (Bcf L kk) r13 a0 a1 L (0,0)) fun o19=>Bwv L kk r13 a0 a1 o19) (fun r16=>ho (A0t L (Bcg L kk) r16 a0 a1 L (0,0)) fun o21=>Bww L kk r16 a0 a1 o21))) h
def c39:=CC Tryz.f39
def O39:Bi:=oL [X35 L,X64 L]
def Bd4(a2:Ay)(a0:Ac)(a1:Int)(v:C8):St:=⟨[(0,.any),(1,.any),(2,.any),(3,.any),(5,.loc 5 0),(6,I v.1),(7,.any),(8,.loc 8 0),(12,.any),(28,.any),(49,.any),(54,.any),(64,lv (.t100 a2.Instrs)),(65,I (a2.Instrs.length:Int)),(66,I v.2)],[(3,(Bh a0)),(5,(Oe a2)),(8,[S a0.Name,lv (.t69 a0.Sites),lv (.t127 a0.Links),I a1,S a2.Name,I a2.Params,I a2.Slots,lv (.t100 a2.Instrs)])],0⟩
def Wt [An A Cq](a2:Ay)(a0:Ac)(a1:Int)(rec:Int→Int→A)(Ar:Int)(Ag:Int):A:=
 (lw Ag a2.Instrs
 (bd (Tr L (⟨(⟨a0.Name,a0.Sites,a0.Links⟩:Ac),a1,a2⟩:Am) (⟨(a2.Instrs.getD (Int.toNat Ag) default).Op,(a2.Instrs.getD (Int.toNat Ag) default).A,(a2.Instrs.getD (Int.toNat Ag) default).B,(a2.Instrs.getD (Int.toNat Ag) default).C,(Ab.cp ((a2.Instrs.getD (Int.toNat Ag) default).E)),(Ab.cp ((a2.Instrs.getD (Int.toNat Ag) default).F)),(a2.Instrs.getD (Int.toNat Ag) default).Args,((a2.Instrs.getD (Int.toNat Ag) default).Dist),(a2.Instrs.getD (Int.toNat Ag) default).Flag⟩:Bm)) fun r6=>
 (cn (r6 != 0)
 (lf (0,r6,Ag))
 (rec Ar (Bo (Ag+1)))))
 (lf (1,Ar,Ag)))
def Na(L:Nat)(a2:Ay)(a0:Ac)(a1:Int):Nat→Int→Int→Option Cq
 |0,_,_=>none
 |n+1,Ar,Ag=>Wt L a2 a0 a1 (Na L a2 a0 a1 n) Ar Ag
theorem Boe(a2:Ay)(a0:Ac)(a1:Int):LP (EV (O39 L) L 9 c39.x.u.l.u.l.l) [0,1,2,3,5,6,7,8,12,28,49,54,64,65,66] [3,5,8] (Bd4 a2 a0 a1) [.ret,.exit 1] (fun n v=>Na L a2 a0 a1 n v.1 v.2) K:=lE (fun _=>rfl) fun n v ih=>eE (Wt L a2 a0 a1 (fun Ar Ag=>re (ih (Ar,Ag))) v.1 v.2)
def No [An A Int](L:Nat)(a2:Ay)(o7:Nat×C8):A:=
 (sl o7.1 [(lf o7.2.1),
 (gi (Bo ((a2.Instrs.length:Int) - 1)) a2.Instrs
 (jp (.cn ((a2.Instrs.getD (Int.toNat (Bo ((a2.Instrs.length:Int) - 1))) default).Op != 19)
 (.lf ((a2.Instrs.getD (Int.toNat (Bo ((a2.Instrs.length:Int) - 1))) default).Op != 4))
 (.lf false)) (fun b8=>
 (cn b8
 (lf 8)
 (lf 0)))))])
def Bb3:Bg:=(Bb 1 (Bp (EV (O39 L) L 9 c39.x.u.r) (Ct Tryz.prog (RS Tryz.f39) kk)))
theorem Bwj(a2:Ay)(a0:Ac)(a1:Int)(o7:Nat×C8):kX [.ret,.exit 1] (Bd4 a2 a0 a1) (Bb3 L kk) o7=ob (No L a2 o7) (kQ I kk):=eE (No L a2 o7)
def Xa [An A Int](a0:Ac)(a1:Int)(a2:Ay)(nx1:A):A:=
 (jp (.cn (decide (a1 < 0))
 (.lf true)
 (.lf (decide (a1≥(a0.Sites.length:Int))))) (fun b1=>
 (cn b1
 (lf 2)
 (bd (Cy L a2.Name) fun r2=>
 (cn (r2 != 0)
 (lf r2)
 (jp (.cn (decide (a2.Params < 0))
 (.lf true)
 (.lf (decide (a2.Params > a2.Slots)))) (fun b3=>
 (jp (.cn b3
 (.lf true)
 (.lf (decide (a2.Params > 6)))) (fun b4=>
 (jp (.cn b4
 (.lf true)
 (.lf (decide (a2.Slots > 16)))) (fun b5=>
 (cn b5
 (lf 2)
 (cn ((a2.Instrs.length:Int) == 0)
 (lf 7)
 (cn (decide ((a2.Instrs.length:Int) > 1000))
 (lf 6)
 nx1))))))))))))))
def Apz [An A Int](a0:Ac)(a1:Int)(a2:Ay):A:=Xa L a0 a1 a2 (bd (Na L a2 a0 a1 L 0 0) fun o7=>No L a2 o7)
def Ack(a0:Ac)(a1:Int)(a2:Ay):Option Int:=Apz L a0 a1 a2
def X39:Di:=E3 I 39 B6 (cI .i64) Hc (Ack L) fun a0 a1 a2 r h=>hF Tryz.func39 (C:=O39 L) (oS _) L (fun kk=>eE (Xa L a0 a1 a2 (ho (Boe L (Bb3 L kk) a2 a0 a1 L (0,0)) fun o7=>Bwj L kk a2 a0 a1 o7))) h
def c20:=CC Tryz.f20
def O20:Bi:=oL [X35 L,X36 L,X37 L,X38 L,X39 L]
def Bdm(a0:Ac)(v:T1):St:=⟨[(0,.any),(1,.loc 1 0),(2,I v.1),(3,.any),(4,.mp 30),(8,.any),(9,.any),(10,.any),(12,.any),(13,.any),(20,.any),(25,.any),(32,lv (.t69 a0.Sites)),(33,I (a0.Sites.length:Int)),(34,I v.2.1),(71,.any),(79,.any)],[(1,(Bh a0)),(30,[.mapO false false (.t9 v.2.2.1) (.t4 v.2.2.2)])],0⟩
def Abg [An A Hn](a0:Ac)(rec:Int→Int→List ByteArray→List Bool→A)(Ar:Int)(Ag:Int)(Gc:List ByteArray)(Cl:List Bool):A:=
 (lw Ag a0.Sites
 (bd (Afs L (⟨a0.Name,[],[((a0.Sites.getD (Int.toNat Ag) default).Decl)],[]⟩:Ai)) fun r2=>
 (cn (r2 != 0)
 (lf (0,r2,Ag,Gc,Cl))
 (fq (Gc.findIdx? fun b=>((a0.Sites.getD (Int.toNat Ag) default).Decl).Name == b) (fun i3=>
 (cn (Cl.getD i3 default)
 (lf (0,4,Ag,Gc,Cl))
 (bd (Xo L (⟨((a0.Sites.getD (Int.toNat Ag) default).Decl),(a0.Sites.getD (Int.toNat Ag) default).Routines⟩:Bz)) fun r4=>
 (cn (!r4)
 (lf (0,8,Ag,Gc,Cl))
 (fq (Gc.findIdx? fun b=>((a0.Sites.getD (Int.toNat Ag) default).Decl).Name == b) (fun i5=>
 (rec Ar (Bo (Ag+1)) Gc (Cl.set i5 true)))
 (rec Ar (Bo (Ag+1)) (Gc++ [((a0.Sites.getD (Int.toNat Ag) default).Decl).Name]) (Cl++ [true])))))))
 (bd (Xo L (⟨((a0.Sites.getD (Int.toNat Ag) default).Decl),(a0.Sites.getD (Int.toNat Ag) default).Routines⟩:Bz)) fun r6=>
 (cn (!r6)
 (lf (0,8,Ag,Gc,Cl))
 (fq (Gc.findIdx? fun b=>((a0.Sites.getD (Int.toNat Ag) default).Decl).Name == b) (fun i7=>
 (rec Ar (Bo (Ag+1)) Gc (Cl.set i7 true)))
 (rec Ar (Bo (Ag+1)) (Gc++ [((a0.Sites.getD (Int.toNat Ag) default).Decl).Name]) (Cl++ [true]))))))))
 (lf (1,Ar,Ag,Gc,Cl)))
def Rs(L:Nat)(a0:Ac):Nat→Int→Int→List ByteArray→List Bool→Option Hn
 |0,_,_,_,_=>none
 |n+1,Ar,Ag,Gc,Cl=>Abg L a0 (Rs L a0 n) Ar Ag Gc Cl
theorem Bnp(a0:Ac):LP (EV (O20 L) L 9 c20.x.l.u.l.l) [0,1,2,3,4,8,9,10,12,13,20,25,32,33,34,71,79] [1,30] (Bdm a0) [.ret,.exit 1] (fun n v=>Rs L a0 n v.1 v.2.1 v.2.2.1 v.2.2.2) K:=lE (fun _=>rfl) fun n v ih=>eE (Abg L a0 (fun Ar Ag Gc Cl=>re (ih (Ar,Ag,Gc,Cl))) v.1 v.2.1 v.2.2.1 v.2.2.2)
def Bdn(Bt:Int)(a0:Ac)(o8:Nat×T1)(v:C8):St:=⟨[(0,.any),(1,.loc 1 0),(2,I v.1),(3,.any),(4,.any),(6,.any),(7,.any),(8,.any),(9,I Bt),(10,.loc 10 0),(20,.any),(25,.any),(34,.any),(48,.any),(54,.any),(69,lv (.t69 a0.Sites)),(70,I (a0.Sites.length:Int)),(71,I Bt),(77,lv (.t78 ((a0.Sites.getD (Int.toNat Bt) default).Routines))),(78,I (((a0.Sites.getD (Int.toNat Bt) default).Routines).length:Int)),(79,I v.2)],[(1,(Bh a0)),(10,[S ((a0.Sites.getD (Int.toNat Bt) default).Decl).Name,lv (.t123 (((a0.Sites.getD (Int.toNat Bt) default).Decl).Vars)),lv (.t86 (((a0.Sites.getD (Int.toNat Bt) default).Decl).Resources)),lv (.t89 (((a0.Sites.getD (Int.toNat Bt) default).Decl).Stores)),lv (.t178 (((a0.Sites.getD (Int.toNat Bt) default).Decl).Belts)),lv (.t9 (((a0.Sites.getD (Int.toNat Bt) default).Decl).Queues)),lv (.t9 (((a0.Sites.getD (Int.toNat Bt) default).Decl).Streams)),lv (.t9 (((a0.Sites.getD (Int.toNat Bt) default).Decl).Tallies)),lv (.t9 (((a0.Sites.getD (Int.toNat Bt) default).Decl).Levels)),lv (.t9 (((a0.Sites.getD (Int.toNat Bt) default).Decl).Counts)),lv (.t93 (((a0.Sites.getD (Int.toNat Bt) default).Decl).Routines)),lv (.t150 (((a0.Sites.getD (Int.toNat Bt) default).Decl).Starts)),lv (.t154 (((a0.Sites.getD (Int.toNat Bt) default).Decl).Laws)),lv (.t78 ((a0.Sites.getD (Int.toNat Bt) default).Routines))]),(30,[.mapO false false (.t9 o8.2.2.2.1) (.t4 o8.2.2.2.2)])],0⟩
def Abh [An A Cq](Bt:Int)(a0:Ac)(o8:Nat×T1)(rec:Int→Int→A)(Hl:Int)(Avw:Int):A:=
 (lw Avw ((a0.Sites.getD (Int.toNat Bt) default).Routines)
 (bd (Ack L (⟨a0.Name,a0.Sites,a0.Links⟩:Ac) Bt (((a0.Sites.getD (Int.toNat Bt) default).Routines).getD (Int.toNat Avw) default)) fun r10=>
 (cn (r10 != 0)
 (lf (0,r10,Avw))
 (rec Hl (Bo (Avw+1)))))
 (lf (1,Hl,Avw)))
def Rt(L:Nat)(Bt:Int)(a0:Ac)(o8:Nat×T1):Nat→Int→Int→Option Cq
 |0,_,_=>none
 |n+1,Hl,Avw=>Abh L Bt a0 o8 (Rt L Bt a0 o8 n) Hl Avw
theorem Bnr(Bt:Int)(a0:Ac)(o8:Nat×T1):LP (EV (O20 L) L 9 c20.x.w.l.u.l.l.w.l.l.w.l.l) [0,1,2,3,4,6,7,8,9,10,20,25,34,48,54,69,70,71,77,78,79] [1,10,30] (Bdn Bt a0 o8) [.ret,.exit 6] (fun n v=>Rt L Bt a0 o8 n v.1 v.2) K:=lE (fun _=>rfl) fun n v ih=>eE (Abh L Bt a0 o8 (fun Hl Avw=>re (ih (Hl,Avw))) v.1 v.2)
def A1g(a0:Ac)(o8:Nat×T1)(v:C8):St:=⟨[(0,.any),(1,.loc 1 0),(2,I v.1),(3,.any),(4,.any),(6,.any),(7,.any),(8,.any),(20,.any),(25,.any),(34,.any),(48,.any),(54,.any),(69,lv (.t69 a0.Sites)),(70,I (a0.Sites.length:Int)),(71,I v.2)],[(1,(Bh a0)),(30,[.mapO false false (.t9 o8.2.2.2.1) (.t4 o8.2.2.2.2)])],0⟩
def R9 [An A Cq](L:Nat)(Bt:Int)(rec:Int→Int→A)(o11:Nat×C8):A:=
 (sl o11.1 [(lf (0,o11.2.1,Bt)),
 (rec o11.2.1 (Bo (Bt+1)))])
def Ab3 [An A Cq](L:Nat)(a0:Ac)(o8:Nat×T1)(rec:Int→Int→A)(Cm:Int)(Bt:Int)(nx2:Int→Int→A):A:=
 (lw Bt a0.Sites
 (nx2 Bt Cm)
 (lf (1,Cm,Bt)))
def Aob [An A Cq](a0:Ac)(o8:Nat×T1)(rec:Int→Int→A)(Cm:Int)(Bt:Int):A:=Ab3 L a0 o8 rec Cm Bt (fun Bt Cm=>bd (Rt L Bt a0 o8 L Cm 0) fun o11=>R9 L Bt rec o11)
def Lf(L:Nat)(a0:Ac)(o8:Nat×T1):Nat→Int→Int→Option Cq
 |0,_,_=>none
 |n+1,Cm,Bt=>Aob L a0 o8 (Lf L a0 o8 n) Cm Bt
def A83(a0:Ac)(o8:Nat×T1):Prop:=LI (EV (O20 L) L 9 c20.x.w.l.u.l.l) [0,1,2,3,4,6,7,8,20,25,34,48,54,69,70,71] [1,30] (A1g a0 o8) [.ret,.exit 4] (fun n v=>Lf L a0 o8 n v.1 v.2) K n
def Bba:Bg:=(Bb 6 (Bb 5 (Bp (EV (O20 L) L 9 c20.x.w.l.u.l.l.w.r) (D4 (Ep (EV (O20 L) L 9 c20.x.w.l.u.l.l) [0,1,2,3,4,6,7,8,20,25,34,48,54,69,70,71] [1,30] n) [0,1,2,3,4,6,7,8,20,25,34,48,54,69,70,71] [1,30] K))))
theorem Bvp(Bt:Int)(a0:Ac)(o8:Nat×T1)(ih:A83 L n K a0 o8)(o11:Nat×C8):kX [.ret,.exit 6] (Bdn Bt a0 o8) (Bba L n K) o11=ob (R9 L Bt (Lf L a0 o8 n) o11) (kX [.ret,.exit 4] (A1g a0 o8) K):=eE (R9 L Bt (fun Cm Bt=>re (ih (Cm,Bt))) o11)
theorem Bnq(a0:Ac)(o8:Nat×T1):∀n,A83 L n K a0 o8:=lE (fun _=>rfl) fun n v ih=>eE (Ab3 L a0 o8 (fun Cm Bt=>re (ih (Cm,Bt))) v.1 v.2 (fun Bt Cm=>ho (Bnr L (Bba L n K) Bt a0 o8 L (Cm,0)) fun o11=>Bvp L n K Bt a0 o8 ih o11))
def Sa [An A Int](L:Nat)(o12:Nat×C8):A:=
 (sl o12.1 [(lf o12.2.1),
 (lf 0)])
def Bbb:Bg:=(Bb 4 (Bp (EV (O20 L) L 9 c20.x.w.r) (Ct Tryz.prog (RS Tryz.f20) kk)))
theorem Bvq(a0:Ac)(o8:Nat×T1)(o12:Nat×C8):kX [.ret,.exit 4] (A1g a0 o8) (Bbb L kk) o12=ob (Sa L o12) (kQ I kk):=eE (Sa L o12)
def Ab4 [An A Int](a0:Ac)(o8:Nat×T1)(nx3:Hn→A):A:=
 (sl o8.1 [(lf o8.2.1),
 (bd (Amf L (⟨a0.Name,a0.Sites,a0.Links⟩:Ac)) fun r9=>
 (cn (r9 != 0)
 (lf r9)
 (nx3 o8)))])
def Aby [An A Int](a0:Ac)(o8:Nat×T1):A:=Ab4 L a0 o8 (fun o8=>bd (Lf L a0 o8 L o8.2.1 0) fun o12=>Sa L o12)
def Ba9:Bg:=(Bb 1 (Bp (EV (O20 L) L 9 c20.x.r) (Ct Tryz.prog (RS Tryz.f20) kk)))
theorem Bvo(a0:Ac)(o8:Nat×T1):kX [.ret,.exit 1] (Bdm a0) (Ba9 L kk) o8=ob (Aby L a0 o8) (kQ I kk):=eE (Ab4 L a0 o8 (fun o8=>ho (Bnq L (Bbb L kk) a0 o8 L (o8.2.1,0)) fun o12=>Bvq L kk a0 o8 o12))
def Ab2 [An A Int](a0:Ac)(nx1:A):A:=
 (bd (Cy L a0.Name) fun r1=>
 (cn (r1 != 0)
 (lf r1)
 (cn ((a0.Sites.length:Int) == 0)
 (lf 7)
 (cn (decide ((a0.Sites.length:Int) > 16))
 (lf 6)
 nx1))))
def At0 [An A Int](a0:Ac):A:=Ab2 L a0 (bd (Rs L a0 L 0 0 [] []) fun o8=>Aby L a0 o8)
def w5(a0:Ac):Option Int:=At0 L a0
def X20:Di:=E1 I 20 B6 (w5 L) fun a0 r h=>hF Tryz.func20 (C:=O20 L) (oS _) L (fun kk=>eE (Ab2 L a0 (ho (Bnp L (Ba9 L kk) a0 L (0,0,[],[])) fun o8=>Bvo L kk a0 o8))) h
def Afz [An A Bool](L:Nat)(a0:Ac)(a1:Int)(a2:Int):A:=
 (jp (.cn (decide (a1 < 0))
 (.lf true)
 (.lf (decide (a1≥(a0.Sites.length:Int))))) (fun b1=>
 (jp (.cn b1
 (.lf true)
 (.lf (decide (a2 < 0)))) (fun b2=>
 (jp (.cn b2
 (.lf true)
 (.lf (decide (a2 > 1000000000)))) (fun b3=>
 (lf b3)))))))
def Xn(a0:Ac)(a1:Int)(a2:Int):Option Bool:=Afz L a0 a1 a2
def X21:Di:=E3 B 21 B6 (cI .i64) (cI .i64) (Xn L) fun a0 a1 a2 r h=>hF Tryz.func21 (oS []) L (fun kk=>eE (Afz L a0 a1 a2)) h
end
end Go.Proofs.YthjhkpgonleelaaGreatDoor.Ev
