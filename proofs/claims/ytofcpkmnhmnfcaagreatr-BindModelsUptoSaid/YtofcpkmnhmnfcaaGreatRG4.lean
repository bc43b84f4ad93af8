import Derived.Test.YtofcpkmnhmnfcaaGreatRG2
import Derived.Test.YtofcpkmnhmnfcaaGreatRG3
namespace Go.Proofs.YtofcpkmnhmnfcaaGreatR.Ev
open Go An
set_option maxRecDepth 100000
set_option maxHeartbeats 4000000
set_option linter.unusedVariables false
set_option linter.unusedSimpArgs false
set_option linter.unnecessarySimpa false
noncomputable section
variable {A:Type} (L n:Nat) (kk:Cz) (K:Ba) (k:Bq)
def Bl5(F:Ab→Ab→Option Bool):Prop:=∀y0 y1 r,F y0 y1=some r→Ho Tryz.prog 222 [Bj.en y0,Bj.en y1] B r
def Ckt:=CC Tryz.f222
def B9r(Eu:Ab→Ab→Option Bool)(L:Nat):Bd:=(orc 222 (A2 B Bj Bj Eu) (oL []))
theorem Cr1(Eu:Ab→Ab→Option Bool)(Bvs:Bl5 Eu)(L:Nat):Dv Tryz.prog (B9r Eu L):=(D4 (a2 _ Bvs) (oS []))
def Bq7(a0:Ab)(a1:Ab)(v:Yq):St:=⟨[(0,.any),(1,.any),(2,.any),(3,.loc 3 0),(4,B v.1),(36,lv (.t63 a0.Kids)),(37,I (a0.Kids.length:Int)),(38,I v.2)],[(2,(F3 a0)),(3,(F3 a1))],0⟩
def Aec [An A M3](Eu:Ab→Ab→Option Bool)(L:Nat)(a0:Ab)(a1:Ab)(rec:Bool→Int→A)(Al:Bool)(Aj:Int):A:=
 (lw Aj a0.Kids
 (gi Aj a1.Kids
 (bd (Eu (Ab.cp (a0.Kids.getD (Int.toNat Aj) default)) (Ab.cp (a1.Kids.getD (Int.toNat Aj) default))) fun r4=>
 (cn (!r4)
 (lf (0,false,Aj))
 (rec Al (B7 (Aj+1))))))
 (lf (1,Al,Aj)))
def Qr(Eu:Ab→Ab→Option Bool)(L:Nat)(a0:Ab)(a1:Ab):Nat→Bool→Int→Option M3
 |0,_,_=>none
 |n+1,Al,Aj=>Aec Eu L a0 a1 (Qr Eu L a0 a1 n) Al Aj
theorem B5o(Eu:Ab→Ab→Option Bool)(L:Nat)(K:Ba)(a0:Ab)(a1:Ab):LP (EV (B9r Eu L) L 9 Ckt.w.l.u.l.l) [0,1,2,3,4,36,37,38] [2,3] (Bq7 a0 a1) [.ret,.exit 0] (fun n v=>Qr Eu L a0 a1 n v.1 v.2) K:=lE (fun _=>rfl) fun n v ih=>eE (Aec Eu L a0 a1 (fun Al Aj=>re (ih (Al,Aj))) v.1 v.2)
def Z6 [An A Bool](Eu:Ab→Ab→Option Bool)(L:Nat)(o5:Nat×Yq):A:=
 (sl o5.1 [(lf o5.2.1),
 (lf true)])
def Bn2(Eu:Ab→Ab→Option Bool)(L:Nat)(kk:Cz):Ba:=(Av 0 (Be (EV (B9r Eu L) L 9 Ckt.w.r) (Cp Tryz.prog (RS Tryz.f222) kk)))
theorem Cfm(Eu:Ab→Ab→Option Bool)(L:Nat)(kk:Cz)(a0:Ab)(a1:Ab)(o5:Nat×Yq):kX [.ret,.exit 0] (Bq7 a0 a1) (Bn2 Eu L kk) o5=ob (Z6 Eu L o5) (kQ B kk):=eE (Z6 Eu L o5)
def Afn [An A Bool](Eu:Ab→Ab→Option Bool)(L:Nat)(a0:Ab)(a1:Ab)(nx1:A):A:=
 (jp (.cn (a0.Op != a1.Op)
 (.lf true)
 (.lf (!(a0.Name.toList == a1.Name.toList)))) (fun b1=>
 (jp (.cn b1
 (.lf true)
 (.lf (a0.N != a1.N))) (fun b2=>
 (jp (.cn b2
 (.lf true)
 (.lf ((a0.Kids.length:Int) != (a1.Kids.length:Int)))) (fun b3=>
 (cn b3
 (lf false)
 nx1)))))))
def A22 [An A Bool](Eu:Ab→Ab→Option Bool)(L:Nat)(a0:Ab)(a1:Ab):A:=Afn Eu L a0 a1 (bd (Qr Eu L a0 a1 L false 0) fun o5=>Z6 Eu L o5)
def As8(Eu:Ab→Ab→Option Bool)(L:Nat)(a0:Ab)(a1:Ab):Option Bool:=A22 Eu L a0 a1
theorem Cqa(Eu:Ab→Ab→Option Bool)(Bvs:Bl5 Eu)(L:Nat):Bl5 (As8 Eu L):=fun a0 a1 r h=>hF Tryz.func222 (Cr1 Eu Bvs L) L (fun kk=>eE (Afn Eu L a0 a1 (ho (B5o Eu L (Bn2 Eu L kk) a0 a1 L (false,0)) fun o5=>Cfm Eu L kk a0 a1 o5))) h
def Sn:Nat→Ab→Ab→Option Bool
 |0,_,_=>none
 |L+1,a0,a1=>As8 (Sn L) L a0 a1
theorem B3a(L:Nat):Bl5 (Sn L):=by
 induction L with
 |zero=>exact fun _ _ _ h=>(by cases h)
 |succ L ih=>
  have i222:=ih
  exact Cqa (Sn L) i222 L
def Cis(L:Nat):F7:=E2 B 222 Bj Bj (Sn L) (B3a L)
def At0 [An A Bool](a0:Ad)(a1:Bp):A:=
 (jp (.cn a1.u_name
 (.lf true)
 (.lf (a0.Name.toList == (⟨#[]⟩:ByteArray).toList))) (fun b1=>
 (jp (.cn b1
 (.cn a1.u_of
 (.lf true)
 (.lf (a0.Of.toList == (⟨#[]⟩:ByteArray).toList)))
 (.lf false)) (fun b2=>
 (cn b2
 (cn a1.u_e
 (nq (cn a1.u_f
 (nq (jp (.cn a1.u_args
 (.lf true)
 (.lf ((a0.Args.length:Int) == 0))) (fun b3=>
 (cn b3
 (cn a1.u_dist
 (nq (jp (.cn a1.u_flag
 (.lf true)
 (.lf (!a0.Flag))) (fun b4=>
 (jp (.cn b4
 (.cn a1.u_body
 (.lf true)
 (.lf ((a0.Body.length:Int) == 0)))
 (.lf false)) (fun b5=>
 (jp (.cn b5
 (.cn a1.u_other
 (.lf true)
 (.lf ((a0.Else.length:Int) == 0)))
 (.lf false)) (fun b6=>
 (lf b6))))))))
 (bd (Sl L a0.Dist (⟨0,0,0,0,[],[]⟩:Bn)) fun r7=>
 (nq (jp (.cn r7
 (.cn a1.u_flag
 (.lf true)
 (.lf (!a0.Flag)))
 (.lf false)) (fun b8=>
 (jp (.cn b8
 (.cn a1.u_body
 (.lf true)
 (.lf ((a0.Body.length:Int) == 0)))
 (.lf false)) (fun b9=>
 (jp (.cn b9
 (.cn a1.u_other
 (.lf true)
 (.lf ((a0.Else.length:Int) == 0)))
 (.lf false)) (fun b10=>
 (lf b10))))))))))
 (nq (nq (nq (nq (lf false)))))))))
 (bd (Sn L (Ab.cp a0.F) (Ab.mk 0 (⟨#[]⟩:ByteArray) 0 [])) fun r11=>
 (nq (jp (.cn r11
 (.cn a1.u_args
 (.lf true)
 (.lf ((a0.Args.length:Int) == 0)))
 (.lf false)) (fun b12=>
 (cn b12
 (cn a1.u_dist
 (nq (jp (.cn a1.u_flag
 (.lf true)
 (.lf (!a0.Flag))) (fun b13=>
 (jp (.cn b13
 (.cn a1.u_body
 (.lf true)
 (.lf ((a0.Body.length:Int) == 0)))
 (.lf false)) (fun b14=>
 (jp (.cn b14
 (.cn a1.u_other
 (.lf true)
 (.lf ((a0.Else.length:Int) == 0)))
 (.lf false)) (fun b15=>
 (lf b15))))))))
 (bd (Sl L a0.Dist (⟨0,0,0,0,[],[]⟩:Bn)) fun r16=>
 (nq (jp (.cn r16
 (.cn a1.u_flag
 (.lf true)
 (.lf (!a0.Flag)))
 (.lf false)) (fun b17=>
 (jp (.cn b17
 (.cn a1.u_body
 (.lf true)
 (.lf ((a0.Body.length:Int) == 0)))
 (.lf false)) (fun b18=>
 (jp (.cn b18
 (.cn a1.u_other
 (.lf true)
 (.lf ((a0.Else.length:Int) == 0)))
 (.lf false)) (fun b19=>
 (lf b19))))))))))
 (nq (nq (nq (nq (lf false))))))))))))
 (bd (Sn L (Ab.cp a0.E) (Ab.mk 0 (⟨#[]⟩:ByteArray) 0 [])) fun r20=>
 (nq (cn r20
 (cn a1.u_f
 (nq (jp (.cn a1.u_args
 (.lf true)
 (.lf ((a0.Args.length:Int) == 0))) (fun b21=>
 (cn b21
 (cn a1.u_dist
 (nq (jp (.cn a1.u_flag
 (.lf true)
 (.lf (!a0.Flag))) (fun b22=>
 (jp (.cn b22
 (.cn a1.u_body
 (.lf true)
 (.lf ((a0.Body.length:Int) == 0)))
 (.lf false)) (fun b23=>
 (jp (.cn b23
 (.cn a1.u_other
 (.lf true)
 (.lf ((a0.Else.length:Int) == 0)))
 (.lf false)) (fun b24=>
 (lf b24))))))))
 (bd (Sl L a0.Dist (⟨0,0,0,0,[],[]⟩:Bn)) fun r25=>
 (nq (jp (.cn r25
 (.cn a1.u_flag
 (.lf true)
 (.lf (!a0.Flag)))
 (.lf false)) (fun b26=>
 (jp (.cn b26
 (.cn a1.u_body
 (.lf true)
 (.lf ((a0.Body.length:Int) == 0)))
 (.lf false)) (fun b27=>
 (jp (.cn b27
 (.cn a1.u_other
 (.lf true)
 (.lf ((a0.Else.length:Int) == 0)))
 (.lf false)) (fun b28=>
 (lf b28))))))))))
 (nq (nq (nq (nq (lf false)))))))))
 (bd (Sn L (Ab.cp a0.F) (Ab.mk 0 (⟨#[]⟩:ByteArray) 0 [])) fun r29=>
 (nq (jp (.cn r29
 (.cn a1.u_args
 (.lf true)
 (.lf ((a0.Args.length:Int) == 0)))
 (.lf false)) (fun b30=>
 (cn b30
 (cn a1.u_dist
 (nq (jp (.cn a1.u_flag
 (.lf true)
 (.lf (!a0.Flag))) (fun b31=>
 (jp (.cn b31
 (.cn a1.u_body
 (.lf true)
 (.lf ((a0.Body.length:Int) == 0)))
 (.lf false)) (fun b32=>
 (jp (.cn b32
 (.cn a1.u_other
 (.lf true)
 (.lf ((a0.Else.length:Int) == 0)))
 (.lf false)) (fun b33=>
 (lf b33))))))))
 (bd (Sl L a0.Dist (⟨0,0,0,0,[],[]⟩:Bn)) fun r34=>
 (nq (jp (.cn r34
 (.cn a1.u_flag
 (.lf true)
 (.lf (!a0.Flag)))
 (.lf false)) (fun b35=>
 (jp (.cn b35
 (.cn a1.u_body
 (.lf true)
 (.lf ((a0.Body.length:Int) == 0)))
 (.lf false)) (fun b36=>
 (jp (.cn b36
 (.cn a1.u_other
 (.lf true)
 (.lf ((a0.Else.length:Int) == 0)))
 (.lf false)) (fun b37=>
 (lf b37))))))))))
 (nq (nq (nq (nq (lf false)))))))))))
 (nq (nq (nq (nq (nq (nq (lf false)))))))))))
 (nq (nq (nq (nq (nq (nq (nq (lf false)))))))))))))
def Ai5(a0:Ad)(a1:Bp):Option Bool:=At0 L a0 a1
def Cab:F7:=E2 B 185 H7 A27 (Ai5 L) fun a0 a1 r h=>hF Tryz.func185 (oS [B97 L,Cis L]) L (fun kk=>eE (At0 L a0 a1)) h
def Bly(F:Ab→Option Int):Prop:=∀y0 r,F y0=some r→Ho Tryz.prog 137 [Bj.en y0] I r
def Cj0:=CC Tryz.f137
def B87(F9:Ab→Option Int)(L:Nat):Bd:=(orc 137 (A1 I Bj F9) (oL []))
theorem Cru(F9:Ab→Option Int)(Bvk:Bly F9)(L:Nat):Dv Tryz.prog (B87 F9 L):=(D4 (a1 _ Bvk) (oS []))
def Bp9(a0:Ab)(v:Cs):St:=⟨[(0,.any),(1,.any),(2,I 0),(3,I v.1),(7,lv (.t63 a0.Kids)),(8,I (a0.Kids.length:Int)),(9,I v.2)],[(1,(F3 a0))],0⟩
def Abk [An A Cm](F9:Ab→Option Int)(L:Nat)(a0:Ab)(rec:Int→Int→A)(Ai:Int)(Bu:Int):A:=
 (lw Bu a0.Kids
 (bd (F9 (Ab.cp (a0.Kids.getD (Int.toNat Bu) default))) fun r1=>
 (rec (B7 (Ai+r1)) (B7 (Bu+1))))
 (lf (0,Ai,Bu)))
def Nj(F9:Ab→Option Int)(L:Nat)(a0:Ab):Nat→Int→Int→Option Cm
 |0,_,_=>none
 |n+1,Ai,Bu=>Abk F9 L a0 (Nj F9 L a0 n) Ai Bu
theorem B4q(F9:Ab→Option Int)(L:Nat)(K:Ba)(a0:Ab):LP (EV (B87 F9 L) L 9 Cj0.w.l.u.l.l) [0,1,2,3,7,8,9] [1] (Bp9 a0) [.exit 0] (fun n v=>Nj F9 L a0 n v.1 v.2) K:=lE (fun _=>rfl) fun n v ih=>eE (Abk F9 L a0 (fun Ai Bu=>re (ih (Ai,Bu))) v.1 v.2)
def Wq [An A Int](F9:Ab→Option Int)(L:Nat)(o2:Nat×Cs):A:=
 (sl o2.1 [(lf o2.2.1)])
def Bmv(F9:Ab→Option Int)(L:Nat)(kk:Cz):Ba:=(Av 0 (Be (EV (B87 F9 L) L 9 Cj0.w.r) (Cp Tryz.prog (RS Tryz.f137) kk)))
theorem Cef(F9:Ab→Option Int)(L:Nat)(kk:Cz)(a0:Ab)(o2:Nat×Cs):kX [.exit 0] (Bp9 a0) (Bmv F9 L kk) o2=ob (Wq F9 L o2) (kQ I kk):=eE (Wq F9 L o2)
def Ayi [An A Int](F9:Ab→Option Int)(L:Nat)(a0:Ab):A:=(bd (Nj F9 L a0 L 1 0) fun o2=>Wq F9 L o2)
def Aqs(F9:Ab→Option Int)(L:Nat)(a0:Ab):Option Int:=Ayi F9 L a0
theorem Cp2(F9:Ab→Option Int)(Bvk:Bly F9)(L:Nat):Bly (Aqs F9 L):=fun a0 r h=>hF Tryz.func137 (Cru F9 Bvk L) L (fun kk=>eE ((ho (B4q F9 L (Bmv F9 L kk) a0 L (1,0)) fun o2=>Cef F9 L kk a0 o2))) h
def On:Nat→Ab→Option Int
 |0,_=>none
 |L+1,a0=>Aqs (On L) L a0
theorem B23(L:Nat):Bly (On L):=by
 induction L with
 |zero=>exact fun _ _ h=>(by cases h)
 |succ L ih=>
  have i137:=ih
  exact Cp2 (On L) i137 L
def Ch0(L:Nat):F7:=E1 I 137 Bj (On L) (B23 L)
def Blz(F:Ab→Option Int):Prop:=∀y0 r,F y0=some r→Ho Tryz.prog 138 [Bj.en y0] I r
def Cj1:=CC Tryz.f138
def B88(Ga:Ab→Option Int)(L:Nat):Bd:=(orc 138 (A1 I Bj Ga) (oL []))
theorem Crv(Ga:Ab→Option Int)(Bvl:Blz Ga)(L:Nat):Dv Tryz.prog (B88 Ga L):=(D4 (a1 _ Bvl) (oS []))
def Bqa(a0:Ab)(v:Cs):St:=⟨[(0,.any),(1,.any),(2,I 0),(3,I v.1),(7,lv (.t63 a0.Kids)),(8,I (a0.Kids.length:Int)),(9,I v.2)],[(1,(F3 a0))],0⟩
def Abj [An A Cm](Ga:Ab→Option Int)(L:Nat)(a0:Ab)(rec:Int→Int→A)(Ai:Int)(Bu:Int):A:=
 (lw Bu a0.Kids
 (bd (Ga (Ab.cp (a0.Kids.getD (Int.toNat Bu) default))) fun r1=>
 (rec (if r1 > Ai then r1 else Ai) (B7 (Bu+1))))
 (lf (0,Ai,Bu)))
def Ni(Ga:Ab→Option Int)(L:Nat)(a0:Ab):Nat→Int→Int→Option Cm
 |0,_,_=>none
 |n+1,Ai,Bu=>Abj Ga L a0 (Ni Ga L a0 n) Ai Bu
theorem B4r(Ga:Ab→Option Int)(L:Nat)(K:Ba)(a0:Ab):LP (EV (B88 Ga L) L 9 Cj1.w.l.u.l.l) [0,1,2,3,7,8,9] [1] (Bqa a0) [.exit 0] (fun n v=>Ni Ga L a0 n v.1 v.2) K:=lE (fun _=>rfl) fun n v ih=>eE (Abj Ga L a0 (fun Ai Bu=>re (ih (Ai,Bu))) v.1 v.2)
def Wp [An A Int](Ga:Ab→Option Int)(L:Nat)(o2:Nat×Cs):A:=
 (sl o2.1 [(lf (B7 (o2.2.1+1)))])
def Bmw(Ga:Ab→Option Int)(L:Nat)(kk:Cz):Ba:=(Av 0 (Be (EV (B88 Ga L) L 9 Cj1.w.r) (Cp Tryz.prog (RS Tryz.f138) kk)))
theorem Ceg(Ga:Ab→Option Int)(L:Nat)(kk:Cz)(a0:Ab)(o2:Nat×Cs):kX [.exit 0] (Bqa a0) (Bmw Ga L kk) o2=ob (Wp Ga L o2) (kQ I kk):=eE (Wp Ga L o2)
def Ayh [An A Int](Ga:Ab→Option Int)(L:Nat)(a0:Ab):A:=(bd (Ni Ga L a0 L 0 0) fun o2=>Wp Ga L o2)
def Aqr(Ga:Ab→Option Int)(L:Nat)(a0:Ab):Option Int:=Ayh Ga L a0
theorem Cp3(Ga:Ab→Option Int)(Bvl:Blz Ga)(L:Nat):Blz (Aqr Ga L):=fun a0 r h=>hF Tryz.func138 (Crv Ga Bvl L) L (fun kk=>eE ((ho (B4r Ga L (Bmw Ga L kk) a0 L (0,0)) fun o2=>Ceg Ga L kk a0 o2))) h
def Om:Nat→Ab→Option Int
 |0,_=>none
 |L+1,a0=>Aqr (Om L) L a0
theorem B24(L:Nat):Blz (Om L):=by
 induction L with
 |zero=>exact fun _ _ h=>(by cases h)
 |succ L ih=>
  have i138:=ih
  exact Cp3 (Om L) i138 L
def Ch1(L:Nat):F7:=E1 I 138 Bj (Om L) (B24 L)
def Atz [An A Int](L:Nat)(a0:Int):A:=
 (jp (.cn (a0 == 1)
 (.lf true)
 (.lf (a0 == 2))) (fun b1=>
 (jp (.cn b1
 (.lf true)
 (.lf (a0 == 3))) (fun b2=>
 (jp (.cn b2
 (.lf true)
 (.lf (a0 == 4))) (fun b3=>
 (cn b3
 (lf 0)
 (jp (.cn (decide (a0≥5))
 (.lf (decide (a0≤8)))
 (.lf false)) (fun b4=>
 (cn b4
 (lf 1)
 (jp (.cn (decide (a0≥9))
 (.lf (decide (a0≤21)))
 (.lf false)) (fun b5=>
 (cn b5
 (lf 2)
 (jp (.cn (decide (a0≥22))
 (.lf (decide (a0≤26)))
 (.lf false)) (fun b6=>
 (cn b6
 (lf 0)
 (lf (-1))))))))))))))))))
def Acr(a0:Int):Option Int:=Atz L a0
def Cam:F7:=E1 I 227 (cI .i64) (Acr L) fun a0 r h=>hF Tryz.func227 (oS []) L (fun kk=>eE (Atz L a0)) h
def Adf [An A Bool](a0:Bl)(a1:Int):A:=
 (cn (a1 == 3)
 (lf (!a0.u_code))
 (cn (a1 == 25)
 (cn (a1 == 25)
 (lf a0.u_code)
 (bd (Acr L a1) fun r1=>
 (lf (decide (r1≥0)))))
 (cn (a1 == 26)
 (lf a0.u_code)
 (bd (Acr L a1) fun r2=>
 (lf (decide (r2≥0)))))))
def Xj(a0:Bl)(a1:Int):Option Bool:=Adf L a0 a1
def Civ:F7:=E2 B 226 Ss (cI .i64) (Xj L) fun a0 a1 r h=>hF Tryz.func226 (oS [Cam L]) L (fun kk=>eE (Adf L a0 a1)) h
def Aoc [An A Bool](L:Nat)(a0:Int):A:=
 (jp (.cn (decide (a0≥22))
 (.lf (decide (a0≤24)))
 (.lf false)) (fun b1=>
 (lf b1)))
def Aao(a0:Int):Option Bool:=Aoc L a0
def Car:F7:=E1 B 245 (cI .i64) (Aao L) fun a0 r h=>hF Tryz.func245 (oS []) L (fun kk=>eE (Aoc L a0)) h
def Adg [An A Bool](a0:Bl)(a1:Int):A:=
 (jb (.cn (a1 == 3)
 (.lf true)
 (.bd (Aao L a1) fun r2=>
 (.cn r2
 (.lf (!a0.u_code))
 (.lf false)))) (fun b1=>
 (lf b1)))
def M6(a0:Bl)(a1:Int):Option Bool:=Adg L a0 a1
def Ciw:F7:=E2 B 228 Ss (cI .i64) (M6 L) fun a0 a1 r h=>hF Tryz.func228 (oS [Car L]) L (fun kk=>eE (Adg L a0 a1)) h
def Aak [An A (Int×Int×Bool)](a0:Bl)(a1:Int):A:=
 (cn (a1 == 2)
 (lf (0,1,true))
 (cn (a1 == 25)
 (lf (0,15,true))
 (cn (a1 == 26)
 (lf (0,31,true))
 (bd (Aao L a1) fun r1=>
 (jp (.cn r1
 (.lf a0.u_code)
 (.lf false)) (fun b2=>
 (cn b2
 (lf (0,63,true))
 (lf (0,0,false)))))))))
def N4(a0:Bl)(a1:Int):Option (Int×Int×Bool):=Aak L a0 a1
def Cix:F7:=E2 (fun(x:Int×Int×Bool)=> .tup [I x.1,I x.2.1,B x.2.2]) 229 Ss (cI .i64) (N4 L) fun a0 a1 r h=>hF Tryz.func229 (oS [Car L]) L (fun kk=>eE (Aak L a0 a1)) h
def Af8 [An A Int](a0:Bl)(a1:Ab):A:=
 (bd (Xj L (⟨a0.u_code⟩:Bl) a1.Op) fun r1=>
 (cn (!r1)
 (lf 1)
 (bd (Acr L a1.Op) fun r2=>
 (cn ((a1.Kids.length:Int) != r2)
 (lf 1)
 (cn (!(a1.Name.toList == (⟨#[]⟩:ByteArray).toList))
 (bd (M6 L (⟨a0.u_code⟩:Bl) a1.Op) fun r3=>
 (cn (!r3)
 (lf 1)
 (cn (a1.Op == 1)
 (bd (Ai4 L a1.N) fun r4=>
 (cn (!r4)
 (lf 2)
 (lf 0)))
 (bd (N4 L (⟨a0.u_code⟩:Bl) a1.Op) fun r5=>
 (jp (.cn (!r5.2.2)
 (.lf (a1.N != 0))
 (.lf false)) (fun b6=>
 (cn b6
 (lf 1)
 (jp (.cn r5.2.2
 (.cn (decide (a1.N < r5.1))
 (.lf true)
 (.lf (decide (a1.N > r5.2.1))))
 (.lf false)) (fun b7=>
 (cn b7
 (lf 2)
 (bd (M6 L (⟨a0.u_code⟩:Bl) a1.Op) fun r8=>
 (cn r8
 (bd (Dc L a1.Name) fun r9=>
 (lf r9))
 (lf 0)))))))))))))
 (cn (a1.Op == 1)
 (bd (Ai4 L a1.N) fun r10=>
 (cn (!r10)
 (lf 2)
 (lf 0)))
 (bd (N4 L (⟨a0.u_code⟩:Bl) a1.Op) fun r11=>
 (jp (.cn (!r11.2.2)
 (.lf (a1.N != 0))
 (.lf false)) (fun b12=>
 (cn b12
 (lf 1)
 (jp (.cn r11.2.2
 (.cn (decide (a1.N < r11.1))
 (.lf true)
 (.lf (decide (a1.N > r11.2.1))))
 (.lf false)) (fun b13=>
 (cn b13
 (lf 2)
 (bd (M6 L (⟨a0.u_code⟩:Bl) a1.Op) fun r14=>
 (cn r14
 (bd (Dc L a1.Name) fun r15=>
 (lf r15))
 (lf 0))))))))))))))))
def b0(a0:Bl)(a1:Ab):Option Int:=Af8 L a0 a1
def Caf:F7:=E2 I 194 Ss Bj (b0 L) fun a0 a1 r h=>hF Tryz.func194 (oS [X46 L,X65 L,Civ L,Cam L,Ciw L,Cix L]) L (fun kk=>eE (Af8 L a0 a1)) h
def Bl0(F:Bl→Ab→Option Int):Prop:=∀y0 y1 r,F y0 y1=some r→Ho Tryz.prog 139 [Ss.en y0,Bj.en y1] I r
def Cj2:=CC Tryz.f139
def B89(Et:Bl→Ab→Option Int)(L:Nat):Bd:=(orc 139 (A2 I Ss Bj Et) (oL [Caf L]))
theorem Crw(Et:Bl→Ab→Option Int)(Bvm:Bl0 Et)(L:Nat):Dv Tryz.prog (B89 Et L):=(D4 (a2 _ Bvm) (oS [Caf L]))
def Bqb(a1:Ab)(a0:Bl)(v:Cs):St:=⟨[(0,.any),(1,.any),(2,.loc 2 0),(3,.any),(4,I v.1),(5,.any),(16,lv (.t63 a1.Kids)),(17,I (a1.Kids.length:Int)),(18,I v.2)],[(2,[B a0.u_code]),(3,(F3 a1))],0⟩
def Sv [An A Cm](Et:Bl→Ab→Option Int)(L:Nat)(a1:Ab)(a0:Bl)(rec:Int→Int→A)(Al:Int)(Aj:Int):A:=
 (lw Aj a1.Kids
 (bd (Et (⟨a0.u_code⟩:Bl) (Ab.cp (a1.Kids.getD (Int.toNat Aj) default))) fun r2=>
 (cn (r2 != 0)
 (lf (0,r2,Aj))
 (rec Al (B7 (Aj+1)))))
 (lf (1,Al,Aj)))
def Hi(Et:Bl→Ab→Option Int)(L:Nat)(a1:Ab)(a0:Bl):Nat→Int→Int→Option Cm
 |0,_,_=>none
 |n+1,Al,Aj=>Sv Et L a1 a0 (Hi Et L a1 a0 n) Al Aj
theorem B4s(Et:Bl→Ab→Option Int)(L:Nat)(K:Ba)(a1:Ab)(a0:Bl):LP (EV (B89 Et L) L 9 Cj2.w.l.u.l.l) [0,1,2,3,4,5,16,17,18] [2,3] (Bqb a1 a0) [.ret,.exit 0] (fun n v=>Hi Et L a1 a0 n v.1 v.2) K:=lE (fun _=>rfl) fun n v ih=>eE (Sv Et L a1 a0 (fun Al Aj=>re (ih (Al,Aj))) v.1 v.2)
def Mx [An A Int](Et:Bl→Ab→Option Int)(L:Nat)(o3:Nat×Cs):A:=
 (sl o3.1 [(lf o3.2.1),
 (lf 0)])
def Bmx(Et:Bl→Ab→Option Int)(L:Nat)(kk:Cz):Ba:=(Av 0 (Be (EV (B89 Et L) L 9 Cj2.w.r) (Cp Tryz.prog (RS Tryz.f139) kk)))
theorem Ceh(Et:Bl→Ab→Option Int)(L:Nat)(kk:Cz)(a1:Ab)(a0:Bl)(o3:Nat×Cs):kX [.ret,.exit 0] (Bqb a1 a0) (Bmx Et L kk) o3=ob (Mx Et L o3) (kQ I kk):=eE (Mx Et L o3)
def Tc [An A Int](Et:Bl→Ab→Option Int)(L:Nat)(a0:Bl)(a1:Ab)(nx1:A):A:=
 (bd (b0 L (⟨a0.u_code⟩:Bl) (Ab.cp a1)) fun r1=>
 (cn (r1 != 0)
 (lf r1)
 nx1))
def Anj [An A Int](Et:Bl→Ab→Option Int)(L:Nat)(a0:Bl)(a1:Ab):A:=Tc Et L a0 a1 (bd (Hi Et L a1 a0 L 0 0) fun o3=>Mx Et L o3)
def Ac2(Et:Bl→Ab→Option Int)(L:Nat)(a0:Bl)(a1:Ab):Option Int:=Anj Et L a0 a1
theorem Cp4(Et:Bl→Ab→Option Int)(Bvm:Bl0 Et)(L:Nat):Bl0 (Ac2 Et L):=fun a0 a1 r h=>hF Tryz.func139 (Crw Et Bvm L) L (fun kk=>eE (Tc Et L a0 a1 (ho (B4s Et L (Bmx Et L kk) a1 a0 L (0,0)) fun o3=>Ceh Et L kk a1 a0 o3))) h
def Gz:Nat→Bl→Ab→Option Int
 |0,_,_=>none
 |L+1,a0,a1=>Ac2 (Gz L) L a0 a1
theorem B25(L:Nat):Bl0 (Gz L):=by
 induction L with
 |zero=>exact fun _ _ _ h=>(by cases h)
 |succ L ih=>
  have i139:=ih
  exact Cp4 (Gz L) i139 L
def Ch2(L:Nat):F7:=E2 I 139 Ss Bj (Gz L) (B25 L)
def Ade [An A Int](a0:Bl)(a1:Ab):A:=
 (bd (On L (Ab.cp a1)) fun r1=>
 (cn (decide (r1 > 60))
 (lf 6)
 (bd (Om L (Ab.cp a1)) fun r2=>
 (cn (decide (r2 > 12))
 (lf 11)
 (bd (Gz L (⟨a0.u_code⟩:Bl) (Ab.cp a1)) fun r3=>
 (lf r3))))))
def Xi(a0:Bl)(a1:Ab):Option Int:=Ade L a0 a1
def X74:F7:=E2 I 74 Ss Bj (Xi L) fun a0 a1 r h=>hF Tryz.func74 (oS [Ch0 L,Ch1 L,Ch2 L]) L (fun kk=>eE (Ade L a0 a1)) h
def Ara [An A Int](a0:Ab):A:=
 (bd (Xi L (⟨false⟩:Bl) (Ab.cp a0)) fun r1=>
 (lf r1))
def Sm(a0:Ab):Option Int:=Ara L a0
def X42:F7:=E1 I 42 Bj (Sm L) fun a0 r h=>hF Tryz.func42 (oS [X74 L]) L (fun kk=>eE (Ara L a0)) h
def Bsk:=CC Tryz.f186
def Bjh:Bd:=oL [X42 L,X65 L,B99 L]
def Bqt(a1:Bp)(a0:Ad)(v:Cs):St:=⟨[(0,.any),(1,.any),(2,.loc 2 0),(3,.loc 3 0),(4,I v.1),(9,.any),(10,.any),(12,.any),(13,.any),(24,.lst true (.t256 [(⟨a1.u_name,a0.Name⟩:Hz),(⟨a1.u_of,a0.Of⟩:Hz)])),(25,I ([(⟨a1.u_name,a0.Name⟩:Hz),(⟨a1.u_of,a0.Of⟩:Hz)].length:Int)),(26,I v.2),(53,.any),(74,.any)],[(2,(Ej a0)),(3,(Agb a1))],0⟩
def Akc [An A Cm](a1:Bp)(a0:Ad)(rec:Int→Int→A)(Al:Int)(Aj:Int):A:=
 (cn (decide (Aj < ([(⟨a1.u_name,a0.Name⟩:Hz),(⟨a1.u_of,a0.Of⟩:Hz)].length:Int)))
 (gq (0≤Aj)
 (gq (Aj < (([(⟨a1.u_name,a0.Name⟩:Hz),(⟨a1.u_of,a0.Of⟩:Hz)].length:Nat):Int))
 (bd (Dc L (([(⟨a1.u_name,a0.Name⟩:Hz),(⟨a1.u_of,a0.Of⟩:Hz)].getD (Int.toNat Aj) default).u_name)) fun r1=>
 (jp (.cn (([(⟨a1.u_name,a0.Name⟩:Hz),(⟨a1.u_of,a0.Of⟩:Hz)].getD (Int.toNat Aj) default).u_is)
 (.lf (r1 != 0))
 (.lf false)) (fun b2=>
 (cn b2
 (lf (0,r1,Aj))
 (rec Al (B7 (Aj+1)))))))))
 (lf (1,Al,Aj)))
def Ns(L:Nat)(a1:Bp)(a0:Ad):Nat→Int→Int→Option Cm
 |0,_,_=>none
 |n+1,Al,Aj=>Akc L a1 a0 (Ns L a1 a0 n) Al Aj
theorem B5a(a1:Bp)(a0:Ad):LP (EV (Bjh L) L 9 Bsk.u.l.u.l.l) [0,1,2,3,4,9,10,12,13,24,25,26,53,74] [2,3] (Bqt a1 a0) [.ret,.exit 0] (fun n v=>Ns L a1 a0 n v.1 v.2) K:=lE (fun _=>rfl) fun n v ih=>eE (Akc L a1 a0 (fun Al Aj=>re (ih (Al,Aj))) v.1 v.2)
def Bqu(a1:Bp)(a0:Ad)(v:Cs):St:=⟨[(0,.any),(1,.any),(2,.loc 2 0),(3,.loc 3 0),(4,I v.1),(6,.any),(7,.any),(12,.any),(13,.any),(26,.any),(51,.lst true (.t258 [(⟨a1.u_e,(Ab.cp a0.E)⟩:Ud),(⟨a1.u_f,(Ab.cp a0.F)⟩:Ud)])),(52,I ([(⟨a1.u_e,(Ab.cp a0.E)⟩:Ud),(⟨a1.u_f,(Ab.cp a0.F)⟩:Ud)].length:Int)),(53,I v.2),(74,.any)],[(2,(Ej a0)),(3,(Agb a1))],0⟩
def Akd [An A Cm](a1:Bp)(a0:Ad)(rec:Int→Int→A)(Bo:Int)(B1:Int):A:=
 (cn (decide (B1 < ([(⟨a1.u_e,(Ab.cp a0.E)⟩:Ud),(⟨a1.u_f,(Ab.cp a0.F)⟩:Ud)].length:Int)))
 (gq (0≤B1)
 (gq (B1 < (([(⟨a1.u_e,(Ab.cp a0.E)⟩:Ud),(⟨a1.u_f,(Ab.cp a0.F)⟩:Ud)].length:Nat):Int))
 (cn (!(([(⟨a1.u_e,(Ab.cp a0.E)⟩:Ud),(⟨a1.u_f,(Ab.cp a0.F)⟩:Ud)].getD (Int.toNat B1) default).u_is))
 (rec Bo (B7 (B1+1)))
 (bd (Sm L (Ab.cp (([(⟨a1.u_e,(Ab.cp a0.E)⟩:Ud),(⟨a1.u_f,(Ab.cp a0.F)⟩:Ud)].getD (Int.toNat B1) default).u_e))) fun r4=>
 (cn (r4 != 0)
 (lf (0,r4,B1))
 (rec Bo (B7 (B1+1))))))))
 (lf (1,Bo,B1)))
def Nt(L:Nat)(a1:Bp)(a0:Ad):Nat→Int→Int→Option Cm
 |0,_,_=>none
 |n+1,Bo,B1=>Akd L a1 a0 (Nt L a1 a0 n) Bo B1
theorem B5b(a1:Bp)(a0:Ad):LP (EV (Bjh L) L 9 Bsk.w.l.u.l.l) [0,1,2,3,4,6,7,12,13,26,51,52,53,74] [2,3] (Bqu a1 a0) [.ret,.exit 2] (fun n v=>Nt L a1 a0 n v.1 v.2) K:=lE (fun _=>rfl) fun n v ih=>eE (Akd L a1 a0 (fun Bo B1=>re (ih (Bo,B1))) v.1 v.2)
def Bqv(a0:Ad)(a1:Bp)(v:Cs):St:=⟨[(0,.any),(1,.any),(2,.loc 2 0),(3,.loc 3 0),(4,I v.1),(6,.any),(7,.any),(9,.any),(10,.any),(26,.any),(53,.any),(72,lv (.t63 a0.Args)),(73,I (a0.Args.length:Int)),(74,I v.2)],[(2,(Ej a0)),(3,(Agb a1))],0⟩
def Abt [An A Cm](a0:Ad)(a1:Bp)(rec:Int→Int→A)(D6:Int)(C7:Int):A:=
 (lw C7 a0.Args
 (bd (Sm L (Ab.cp (a0.Args.getD (Int.toNat C7) default))) fun r6=>
 (cn (r6 != 0)
 (lf (0,r6,C7))
 (rec D6 (B7 (C7+1)))))
 (lf (1,D6,C7)))
def Nu(L:Nat)(a0:Ad)(a1:Bp):Nat→Int→Int→Option Cm
 |0,_,_=>none
 |n+1,D6,C7=>Abt L a0 a1 (Nu L a0 a1 n) D6 C7
theorem B5c(a0:Ad)(a1:Bp):LP (EV (Bjh L) L 9 Bsk.x.l.u.l.l) [0,1,2,3,4,6,7,9,10,26,53,72,73,74] [2,3] (Bqv a0 a1) [.ret,.exit 4] (fun n v=>Nu L a0 a1 n v.1 v.2) K:=lE (fun _=>rfl) fun n v ih=>eE (Abt L a0 a1 (fun D6 C7=>re (ih (D6,C7))) v.1 v.2)
def W3 [An A Int](a1:Bp)(a0:Ad)(o7:Nat×Cs):A:=
 (sl o7.1 [(lf o7.2.1),
 (cn a1.u_dist
 (bd (Sk L a0.Dist) fun r8=>
 (lf r8))
 (lf 0))])
def Bnp:Ba:=(Av 4 (Be (EV (Bjh L) L 9 Bsk.x.r) (Cp Tryz.prog (RS Tryz.f186) kk)))
theorem Ce9(a0:Ad)(a1:Bp)(o7:Nat×Cs):kX [.ret,.exit 4] (Bqv a0 a1) (Bnp L kk) o7=ob (W3 L a1 a0 o7) (kQ I kk):=eE (W3 L a1 a0 o7)
def Ab8 [An A Int](L:Nat)(a0:Ad)(a1:Bp)(o5:Nat×Cs)(nx3:Cm→A):A:=
 (sl o5.1 [(lf o5.2.1),
 (cn (decide ((a0.Args.length:Int) > 6))
 (lf 6)
 (nx3 o5))])
def Ab2 [An A Int](a0:Ad)(a1:Bp)(o5:Nat×Cs):A:=Ab8 L a0 a1 o5 (fun o5=>bd (Nu L a0 a1 L o5.2.1 0) fun o7=>W3 L a1 a0 o7)
def Bno:Ba:=(Av 2 (Be (EV (Bjh L) L 9 Bsk.w.r) (Cp Tryz.prog (RS Tryz.f186) kk)))
theorem Ce8(a1:Bp)(a0:Ad)(o5:Nat×Cs):kX [.ret,.exit 2] (Bqu a1 a0) (Bno L kk) o5=ob (Ab2 L a0 a1 o5) (kQ I kk):=eE (Ab8 L a0 a1 o5 (fun o5=>ho (B5c L (Bnp L kk) a0 a1 L (o5.2.1,0)) fun o7=>Ce9 L kk a0 a1 o7))
def Ab7 [An A Int](L:Nat)(a1:Bp)(a0:Ad)(o3:Nat×Cs)(nx2:Cm→A):A:=
 (sl o3.1 [(lf o3.2.1),
 (nx2 o3)])
def Ab1 [An A Int](a1:Bp)(a0:Ad)(o3:Nat×Cs):A:=Ab7 L a1 a0 o3 (fun o3=>bd (Nt L a1 a0 L o3.2.1 0) fun o5=>Ab2 L a0 a1 o5)
def Bnn:Ba:=(Av 0 (Be (EV (Bjh L) L 9 Bsk.u.r) (Cp Tryz.prog (RS Tryz.f186) kk)))
theorem Ce7(a1:Bp)(a0:Ad)(o3:Nat×Cs):kX [.ret,.exit 0] (Bqt a1 a0) (Bnn L kk) o3=ob (Ab1 L a1 a0 o3) (kQ I kk):=eE (Ab7 L a1 a0 o3 (fun o3=>ho (B5b L (Bno L kk) a1 a0 L (o3.2.1,0)) fun o5=>Ce8 L kk a1 a0 o5))
def Ayr [An A Int](a0:Ad)(a1:Bp):A:=(bd (Ns L a1 a0 L 0 0) fun o3=>Ab1 L a1 a0 o3)
def Ada(a0:Ad)(a1:Bp):Option Int:=Ayr L a0 a1
def Cac:F7:=E2 I 186 H7 A27 (Ada L) fun a0 a1 r h=>hF Tryz.func186 (C:=Bjh L) (oS _) L (fun kk=>eE ((ho (B5a L (Bnn L kk) a1 a0 L (0,0)) fun o3=>Ce7 L kk a1 a0 o3))) h
def Blx(F:(List Ad)→Option Int):Prop:=∀y0 r,F y0=some r→Ho Tryz.prog 135 [Xe.en y0] I r
def Cjz:=CC Tryz.f135
def B86(E5:(List Ad)→Option Int)(L:Nat):Bd:=(orc 135 (A1 I Xe E5) (oL [Caa L,Cab L,Cac L]))
theorem Crt(E5:(List Ad)→Option Int)(Bvj:Blx E5)(L:Nat):Dv Tryz.prog (B86 E5 L):=(D4 (a1 _ Bvj) (oS [Caa L,Cab L,Cac L]))
def Bp8(a0:List Ad)(v:Cs):St:=⟨[(0,.any),(2,I v.1),(10,lv (.t96 a0)),(11,I (a0.length:Int)),(12,I v.2)],[],0⟩
def Abs [An A Cm](E5:(List Ad)→Option Int)(L:Nat)(a0:List Ad)(rec:Int→Int→A)(Al:Int)(Aj:Int):A:=
 (lw Aj a0
 (bd (Ai6 L ((a0.getD (Int.toNat Aj) default).Op)) fun r1=>
 (jb (.cn (!r1.2)
 (.lf true)
 (.bd (Ai5 L (Ad.cp (a0.getD (Int.toNat Aj) default)) r1.1) fun r3=>
 (.lf (!r3)))) (fun b2=>
 (cn b2
 (lf (0,1,Aj))
 (bd (Ada L (Ad.cp (a0.getD (Int.toNat Aj) default)) r1.1) fun r4=>
 (cn (r4 != 0)
 (lf (0,r4,Aj))
 (bd (E5 ((a0.getD (Int.toNat Aj) default).Body)) fun r5=>
 (cn (r5 != 0)
 (lf (0,r5,Aj))
 (bd (E5 ((a0.getD (Int.toNat Aj) default).Else)) fun r6=>
 (cn (r6 != 0)
 (lf (0,r6,Aj))
 (rec Al (B7 (Aj+1)))))))))))))
 (lf (1,Al,Aj)))
def Nr(E5:(List Ad)→Option Int)(L:Nat)(a0:List Ad):Nat→Int→Int→Option Cm
 |0,_,_=>none
 |n+1,Al,Aj=>Abs E5 L a0 (Nr E5 L a0 n) Al Aj
theorem B4p(E5:(List Ad)→Option Int)(L:Nat)(K:Ba)(a0:List Ad):LP (EV (B86 E5 L) L 9 Cjz.u.l.u.l.l) [0,2,10,11,12] [] (Bp8 a0) [.ret,.exit 0] (fun n v=>Nr E5 L a0 n v.1 v.2) K:=lE (fun _=>rfl) fun n v ih=>eE (Abs E5 L a0 (fun Al Aj=>re (ih (Al,Aj))) v.1 v.2)
def W2 [An A Int](E5:(List Ad)→Option Int)(L:Nat)(o7:Nat×Cs):A:=
 (sl o7.1 [(lf o7.2.1),
 (lf 0)])
def Bmu(E5:(List Ad)→Option Int)(L:Nat)(kk:Cz):Ba:=(Av 0 (Be (EV (B86 E5 L) L 9 Cjz.u.r) (Cp Tryz.prog (RS Tryz.f135) kk)))
theorem Cee(E5:(List Ad)→Option Int)(L:Nat)(kk:Cz)(a0:List Ad)(o7:Nat×Cs):kX [.ret,.exit 0] (Bp8 a0) (Bmu E5 L kk) o7=ob (W2 E5 L o7) (kQ I kk):=eE (W2 E5 L o7)
def Ayq [An A Int](E5:(List Ad)→Option Int)(L:Nat)(a0:List Ad):A:=(bd (Nr E5 L a0 L 0 0) fun o7=>W2 E5 L o7)
def Aqv(E5:(List Ad)→Option Int)(L:Nat)(a0:List Ad):Option Int:=Ayq E5 L a0
theorem Cp1(E5:(List Ad)→Option Int)(Bvj:Blx E5)(L:Nat):Blx (Aqv E5 L):=fun a0 r h=>hF Tryz.func135 (Crt E5 Bvj L) L (fun kk=>eE ((ho (B4p E5 L (Bmu E5 L kk) a0 L (0,0)) fun o7=>Cee E5 L kk a0 o7))) h
def Ot:Nat→(List Ad)→Option Int
 |0,_=>none
 |L+1,a0=>Aqv (Ot L) L a0
theorem B22(L:Nat):Blx (Ot L):=by
 induction L with
 |zero=>exact fun _ _ h=>(by cases h)
 |succ L ih=>
  have i135:=ih
  exact Cp1 (Ot L) i135 L
def Chz(L:Nat):F7:=E1 I 135 Xe (Ot L) (B22 L)
def Ard [An A Int](a0:List Ad):A:=
 (bd (Oo L a0) fun r1=>
 (cn (decide (r1 > 200))
 (lf 6)
 (bd (Oq L a0) fun r2=>
 (cn (decide (r2 > 12))
 (lf 11)
 (bd (Ot L a0) fun r3=>
 (lf r3))))))
def Ac9(a0:List Ad):Option Int:=Ard L a0
def X72:F7:=E1 I 72 Xe (Ac9 L) fun a0 r h=>hF Tryz.func72 (oS [Chx L,Chy L,Chz L]) L (fun kk=>eE (Ard L a0)) h
def Bjp:=CC Tryz.f123
def A9w:Bd:=oL [X58 L,X65 L,X72 L,B0x L]
def Bln(p1_0:ByteArray)(p1_1:Am)(p1_2:Ap)(p1_3:List ByteArray)(p1_4:List Bool)(k:Bq):Cw→Prop:=fun o=>k (I o.1) [(1,(Cv p1_1)),(5,(Y6 p1_2)),(21,[.mapO false false (.t9 o.2.1) (.t4 o.2.2)])]
def Amh [An A Cw](p1_0:ByteArray)(p1_1:Am)(p1_2:Ap)(p1_3:List ByteArray)(p1_4:List Bool):A:=
 (bd (Dc L p1_0) fun r3=>
 (cn (r3 != 0)
 (lf (r3,p1_3,p1_4))
 (fq (p1_3.findIdx? fun b=>p1_0 == b) (fun i4=>
 (cn (p1_4.getD i4 default)
 (lf (4,p1_3,p1_4))
 (fq (p1_3.findIdx? fun b=>p1_0 == b) (fun i5=>
 (lf (0,p1_3,(p1_4.set i5 true))))
 (lf (0,(p1_3++ [p1_0]),(p1_4++ [true]))))))
 (fq (p1_3.findIdx? fun b=>p1_0 == b) (fun i6=>
 (lf (0,p1_3,(p1_4.set i6 true))))
 (lf (0,(p1_3++ [p1_0]),(p1_4++ [true])))))))
def K8(p1_0:ByteArray)(p1_1:Am)(p1_2:Ap)(p1_3:List ByteArray)(p1_4:List Bool):Option Cw:=Amh L p1_0 p1_1 p1_2 p1_3 p1_4
theorem B3f(p1_0:ByteArray)(p1_1:Am)(p1_2:Ap)(p1_3:List ByteArray)(p1_4:List Bool):YO (A9w L) L 9 69 [.mp 21,S p1_0] [(1,(Cv p1_1)),(5,(Y6 p1_2)),(21,[.mapO false false (.t9 p1_3) (.t4 p1_4)])] k=ob (K8 L p1_0 p1_1 p1_2 p1_3 p1_4) (Bln p1_0 p1_1 p1_2 p1_3 p1_4 k):=(C3 _ _ _ jn4 _ _ _ _ _ _ _).trans (eE (Amh L p1_0 p1_1 p1_2 p1_3 p1_4))
def Be8(r2:List Ap)(a0:Am)(v:Tu5):St:=⟨[(0,.any),(1,.loc 1 0),(2,I v.1),(3,.mp 21),(27,lv (.t127 r2)),(28,I (r2.length:Int)),(29,I v.2.1)],[(1,(Cv a0)),(21,[.mapO false false (.t9 v.2.2.1) (.t4 v.2.2.2)])],0⟩
def Rc [An A Vo](Aj:Int)(r2:List Ap)(Al:Int)(rec:Int→Int→List ByteArray→List Bool→A)(o7:Cw):A:=
 (cn (o7.1 != 0)
 (lf (0,o7.1,Aj,o7.2.1,o7.2.2))
 (bd (L1 L ((r2.getD (Int.toNat Aj) default).Type_)) fun r8=>
 (cn (!r8)
 (lf (0,1,Aj,o7.2.1,o7.2.2))
 (rec Al (B7 (Aj+1)) o7.2.1 o7.2.2))))
def Wb [An A Vo](L:Nat)(r2:List Ap)(a0:Am)(rec:Int→Int→List ByteArray→List Bool→A)(Al:Int)(Aj:Int)(C2:List ByteArray)(Dn:List Bool)(nx1:Int→(List ByteArray)→(List Bool)→Int→A):A:=
 (lw Aj r2
 (nx1 Aj C2 Dn Al)
 (lf (1,Al,Aj,C2,Dn)))
def Acf [An A Vo](r2:List Ap)(a0:Am)(rec:Int→Int→List ByteArray→List Bool→A)(Al:Int)(Aj:Int)(C2:List ByteArray)(Dn:List Bool):A:=Wb L r2 a0 rec Al Aj C2 Dn (fun Aj C2 Dn Al=>bd (K8 L ((r2.getD (Int.toNat Aj) default).Name) a0 (r2.getD (Int.toNat Aj) default) C2 Dn) fun o7=>Rc L Aj r2 Al rec o7)
def Hj(L:Nat)(r2:List Ap)(a0:Am):Nat→Int→Int→List ByteArray→List Bool→Option Vo
 |0,_,_,_,_=>none
 |n+1,Al,Aj,C2,Dn=>Acf L r2 a0 (Hj L r2 a0 n) Al Aj C2 Dn
def Bll(r2:List Ap)(a0:Am):Prop:=LI (EV (A9w L) L 9 Bjp.w.u.l.u.l.l) [0,1,2,3,27,28,29] [1,21] (Be8 r2 a0) [.ret,.exit 0] (fun n v=>Hj L r2 a0 n v.1 v.2.1 v.2.2.1 v.2.2.2) K n
def Bmn(r2:List Ap)(Aj:Int)(Al:Int)(a0:Am)(C2:List ByteArray)(Dn:List Bool):Bq:=(B4 Tryz.prog (A9w L) (EI (A9w L) L 9) 1 (List.drop 4 Bjp.w.u.l.u.l.l.w.l.l.u.l.l.ops) ⟨[(35,S (r2.getD (Int.toNat Aj) default).Name),(34,.loc 5 0),(33,.mp 21),(1,.loc 1 0),(2,I Al),(3,.mp 21),(5,.loc 5 0),(27,lv (.t127 r2)),(28,I (r2.length:Int)),(29,I Aj),(30,B (decide (Aj < (r2.length:Int)))),(31,.ref (Y6 (r2.getD (Int.toNat Aj) default))),(32,.agg (Y6 (r2.getD (Int.toNat Aj) default)))],[(1,(Cv a0)),(5,(Y6 (r2.getD (Int.toNat Aj) default))),(21,[.mapO false false (.t9 C2) (.t4 Dn)])],0⟩ (some 36) (fun st9=>(Be (EV (A9w L) L 9 Bjp.w.u.l.u.l.l.w.l.l.u.l.r) (Be (EV (A9w L) L 9 Bjp.w.u.l.u.l.l.w.l.l.u.r) (Av 1 (Be (EV (A9w L) L 9 Bjp.w.u.l.u.l.l.w.r) (Hh (Jj (EV (A9w L) L 9 Bjp.w.u.l.u.l.l) [0,1,2,3,27,28,29] [1,21] n) [0,1,2,3,27,28,29] [1,21] K))))) .normal st9))
theorem Cd7(r2:List Ap)(Aj:Int)(a0:Am)(C2:List ByteArray)(Dn:List Bool)(Al:Int)(ih:Bll L n K r2 a0)(o7:Cw):Bln ((r2.getD (Int.toNat Aj) default).Name) a0 (r2.getD (Int.toNat Aj) default) C2 Dn (Bmn L n K r2 Aj Al a0 C2 Dn) o7=ob (Rc L Aj r2 Al (Hj L r2 a0 n) o7) (kX [.ret,.exit 0] (Be8 r2 a0) K):=eE (Rc L Aj r2 Al (fun Al Aj C2 Dn=>re (ih (Al,Aj,C2,Dn))) o7)
theorem B4i(r2:List Ap)(a0:Am):∀n,Bll L n K r2 a0:=lE (fun _=>rfl) fun n v ih=>eE (Wb L r2 a0 (fun Al Aj C2 Dn=>re (ih (Al,Aj,C2,Dn))) v.1 v.2.1 v.2.2.1 v.2.2.2 (fun Aj C2 Dn Al=>ho (B3f L (Bmn L n K r2 Aj Al a0 C2 Dn) ((r2.getD (Int.toNat Aj) default).Name) a0 (r2.getD (Int.toNat Aj) default) C2 Dn) fun o7=>Cd7 L n K r2 Aj a0 C2 Dn Al ih o7))
def Re [An A Int](a0:Am)(o9:Nat×Tu5):A:=
 (sl o9.1 [(lf o9.2.1),
 (bd (Ac9 L a0.Body) fun r10=>
 (lf r10))])
def Bmo:Ba:=(Av 0 (Be (EV (A9w L) L 9 Bjp.w.u.r) (Cp Tryz.prog (RS Tryz.f123) kk)))
theorem Cd8(r2:List Ap)(a0:Am)(o9:Nat×Tu5):kX [.ret,.exit 0] (Be8 r2 a0) (Bmo L kk) o9=ob (Re L a0 o9) (kQ I kk):=eE (Re L a0 o9)
def Wc [An A Int](a0:Am)(nx2:(List Ap)→A):A:=
 (jp (.cn (decide ((a0.Params.length:Int) > 6))
 (.lf true)
 (.lf (decide ((B7 ((a0.Params.length:Int)+(a0.Locals.length:Int))) > 16)))) (fun b1=>
 (cn b1
 (lf 6)
 (bd (Ky L [a0.Params,a0.Locals]) fun r2=>
 (nx2 r2)))))
def Asc [An A Int](a0:Am):A:=Wc L a0 (fun r2=>bd (Hj L r2 a0 L 0 0 [] []) fun o9=>Re L a0 o9)
def Aa8(a0:Am):Option Int:=Asc L a0
def Chu:F7:=E1 I 123 Adm (Aa8 L) fun a0 r h=>hF Tryz.func123 (C:=A9w L) (oS _) L (fun kk=>eE (Wc L a0 (fun r2=>ho (B4i L (Bmo L kk) r2 a0 L (0,0,[],[])) fun o9=>Cd8 L kk r2 a0 o9))) h
def Ckq:=CC Tryz.f214
def Ckh:=CC Tryz.f170
def Bjg(L:Nat):Bd:=oL []
def Bqr(p1_0:List Am)(p1_1:Aa)(p1_2:ByteArray)(v:Cs):St:=⟨[(0,lv (.t58 p1_0)),(1,.clo 215 0 [.loc 3 0]),(4,I v.1),(7,I (p1_0.length:Int)),(8,I v.2)],[(2,(Af p1_1)),(3,[S p1_2])],4⟩
def V2 [An A Cm](L:Nat)(p1_0:List Am)(p1_1:Aa)(p1_2:ByteArray)(rec:Int→Int→A)(Ai:Int)(Aj:Int):A:=
 (lw Aj p1_0
 (cn (((p1_0.getD (Int.toNat Aj) default).Name).toList == p1_2.toList)
 (lf (0,Aj,Aj))
 (rec Ai (B7 (Aj+1))))
 (lf (1,Ai,Aj)))
def I4(L:Nat)(p1_0:List Am)(p1_1:Aa)(p1_2:ByteArray):Nat→Int→Int→Option Cm
 |0,_,_=>none
 |n+1,Ai,Aj=>V2 L p1_0 p1_1 p1_2 (I4 L p1_0 p1_1 p1_2 n) Ai Aj
theorem B48(p1_0:List Am)(p1_1:Aa)(p1_2:ByteArray):LP (EV (Bjg L) L 8 Ckq.u.l.u.l.l) [0,1,4,7,8] [2,3] (Bqr p1_0 p1_1 p1_2) [.ret,.exit 0] (fun n v=>I4 L p1_0 p1_1 p1_2 n v.1 v.2) K:=lE (fun _=>rfl) fun n v ih=>eE (V2 L p1_0 p1_1 p1_2 (fun Ai Aj=>re (ih (Ai,Aj))) v.1 v.2)
def Bcr(p1_0:List Am)(p1_1:Aa)(p1_2:ByteArray)(k:Bq):Int→Prop:=fun o=>k (I o) [(2,(Af p1_1)),(3,[S p1_2])]
def V4 [An A Int](L:Nat)(o1:Nat×Cs):A:=
 (sl o1.1 [(lf o1.2.1),
 (lf (-1))])
def Bnd:Ba:=(Av 0 (Be (EV (Bjg L) L 8 Ckq.u.r) (Eb Tryz.prog (RS Tryz.f214) k)))
theorem Cex(p1_0:List Am)(p1_1:Aa)(p1_2:ByteArray)(o1:Nat×Cs):kX [.ret,.exit 0] (Bqr p1_0 p1_1 p1_2) (Bnd L k) o1=ob (V4 L o1) (Bcr p1_0 p1_1 p1_2 k):=eE (V4 L o1)
def Amg [An A Int](p1_0:List Am)(p1_1:Aa)(p1_2:ByteArray):A:=(bd (I4 L p1_0 p1_1 p1_2 L 0 0) fun o1=>V4 L o1)
def Vy(p1_0:List Am)(p1_1:Aa)(p1_2:ByteArray):Option Int:=Amg L p1_0 p1_1 p1_2
theorem B3j(p1_0:List Am)(p1_1:Aa)(p1_2:ByteArray):YO (Bjg L) L 9 214 [lv (.t58 p1_0),.clo 215 0 [.loc 3 0]] [(2,(Af p1_1)),(3,[S p1_2])] k=ob (Vy L p1_0 p1_1 p1_2) (Bcr p1_0 p1_1 p1_2 k):=(C3 _ _ _ jn4 _ _ _ _ _ _ _).trans (eE ((ho (B48 L (Bnd L k) p1_0 p1_1 p1_2 L (0,0)) fun o1=>Cex L k p1_0 p1_1 p1_2 o1)))
def Rb [An A Int](L:Nat)(o2:Int):A:=
 (lf o2)
def Bne(a0:Aa)(a1:ByteArray):Bq:=(B4 Tryz.prog (Bjg L) (EI (Bjg L) L 9) 1 (List.drop 4 Ckh.u.l.ops) ⟨[(7,.clo 215 0 [.loc 3 0]),(6,lv (.t58 a0.Routines)),(5,.loc 2 10),(2,.loc 2 0),(3,.loc 3 0),(4,I 0)],[(2,(Af a0)),(3,[S a1])],0⟩ (some 8) (fun st9=>(Be (EV (Bjg L) L 9 Ckh.u.r) (Cp Tryz.prog (RS Tryz.f170) kk)) .normal st9))
theorem Cey(a0:Aa)(a1:ByteArray)(o2:Int):Bcr a0.Routines a0 a1 (Bne L kk a0 a1) o2=ob (Rb L o2) (kQ I kk):=eE (Rb L o2)
def Asb [An A Int](a0:Aa)(a1:ByteArray):A:=(bd (Vy L a0.Routines a0 a1) fun o2=>Rb L o2)
def Gi(a0:Aa)(a1:ByteArray):Option Int:=Asb L a0 a1
def Br1:F7:=E2 I 170 Cn cS (Gi L) fun a0 a1 r h=>hF Tryz.func170 (C:=Bjg L) (oS _) L (fun kk=>eE ((ho (B3j L (Bne L kk a0 a1) a0.Routines a0 a1) fun o2=>Cey L kk a0 a1 o2))) h
def Cju:=CC Tryz.f127
def B83:Bd:=oL [Bjl L,Br1 L,B0y L]
def Bp3(a0:Aa)(r1:Int)(a1:Br)(v:Cs):St:=⟨[(0,.any),(1,.any),(2,.any),(3,.loc 3 0),(4,I v.1),(5,.any),(6,lv (.t127 ((a0.Routines.getD (Int.toNat r1) default).Params))),(28,lv (.t3 a1.Args)),(29,I (a1.Args.length:Int)),(30,I v.2)],[(2,(Af a0)),(3,(Anm a1))],0⟩
def m6 [An A Cm](a0:Aa)(r1:Int)(a1:Br)(rec:Int→Int→A)(Al:Int)(Bu:Int):A:=
 (lw Bu a1.Args
 (gi Bu ((a0.Routines.getD (Int.toNat r1) default).Params)
 (bd (Vu L ((((a0.Routines.getD (Int.toNat r1) default).Params).getD (Int.toNat Bu) default).Type_) (a1.Args.getD (Int.toNat Bu) default)) fun r2=>
 (cn (!r2)
 (lf (0,2,Bu))
 (rec Al (B7 (Bu+1))))))
 (lf (1,Al,Bu)))
def Lj(L:Nat)(a0:Aa)(r1:Int)(a1:Br):Nat→Int→Int→Option Cm
 |0,_,_=>none
 |n+1,Al,Bu=>m6 L a0 r1 a1 (Lj L a0 r1 a1 n) Al Bu
theorem B4j(a0:Aa)(r1:Int)(a1:Br):LP (EV (B83 L) L 9 Cju.x.u.l.u.l.l) [0,1,2,3,4,5,6,28,29,30] [2,3] (Bp3 a0 r1 a1) [.ret,.exit 0] (fun n v=>Lj L a0 r1 a1 n v.1 v.2) K:=lE (fun _=>rfl) fun n v ih=>eE (m6 L a0 r1 a1 (fun Al Bu=>re (ih (Al,Bu))) v.1 v.2)
def Vh [An A Int](a1:Br)(o3:Nat×Cs):A:=
 (sl o3.1 [(lf o3.2.1),
 (bd (Bh L a1.At 0 1000000000) fun r4=>
 (jb (.cn (!r4)
 (.lf true)
 (.bd (Bh L a1.Every 0 1000000000) fun r6=>
 (.lf (!r6)))) (fun b5=>
 (jb (.cn b5
 (.lf true)
 (.bd (Bh L a1.Until 0 1000000000) fun r8=>
 (.lf (!r8)))) (fun b7=>
 (jp (.cn b7
 (.lf true)
 (.cn (a1.Every == 0)
 (.lf (a1.Until != 0))
 (.lf false))) (fun b9=>
 (cn b9
 (lf 2)
 (lf 0)))))))))])
def Bmp:Ba:=(Av 0 (Be (EV (B83 L) L 9 Cju.x.u.r) (Cp Tryz.prog (RS Tryz.f127) kk)))
theorem Cd9(a0:Aa)(r1:Int)(a1:Br)(o3:Nat×Cs):kX [.ret,.exit 0] (Bp3 a0 r1 a1) (Bmp L kk) o3=ob (Vh L a1 o3) (kQ I kk):=eE (Vh L a1 o3)
def z8 [An A Int](a0:Aa)(a1:Br)(nx1:Int→A):A:=
 (bd (Gi L a0 a1.Routine) fun r1=>
 (cn (decide (r1 < 0))
 (lf 5)
 (gi r1 a0.Routines
 (cn ((a1.Args.length:Int) != (((a0.Routines.getD (Int.toNat r1) default).Params).length:Int))
 (lf 8)
 (nx1 r1)))))
def Av2 [An A Int](a0:Aa)(a1:Br):A:=z8 L a0 a1 (fun r1=>bd (Lj L a0 r1 a1 L 0 0) fun o3=>Vh L a1 o3)
def W6(a0:Aa)(a1:Br):Option Int:=Av2 L a0 a1
def Chv:F7:=E2 I 127 Cn Ayx (W6 L) fun a0 a1 r h=>hF Tryz.func127 (C:=B83 L) (oS _) L (fun kk=>eE (z8 L a0 a1 (fun r1=>ho (B4j L (Bmp L kk) a0 r1 a1 L (0,0)) fun o3=>Cd9 L kk a0 r1 a1 o3))) h
end
end Go.Proofs.YtofcpkmnhmnfcaaGreatR.Ev
