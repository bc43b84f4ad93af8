import Derived.Test.YthjhkpgonleelaaGreatDoorDG0
set_option maxRecDepth 100000
set_option maxHeartbeats 4000000
set_option linter.unusedVariables false
set_option linter.unusedSimpArgs false
set_option linter.unnecessarySimpa false
namespace Go.Proofs.YthjhkpgonleelaaGreatDoor.Ev
open Go An
noncomputable section
variable {A:Type} (L n:Nat) (kk:Lr) (K:Ei) (k:Dj)
def Aoo [An A Bool](L:Nat)(a0:Int):A:=
 (jp (.cn (decide (a0>=97))
 (.lf (decide (a0<=122)))
 (.lf false)) (λb1=>
 (lf b1)))
def g7(a0:Int):Option Bool:=Aoo L a0
def X45:F6:=E1 B 45 (cI .u8) (g7 L) λa0 r h=>hF Tryz.func45 (oS []) L (λkk=>eE (Aoo L a0)) h
def Aq7 [An A (List Yb)](L:Nat):A:=
 (lf [(⟨#[97,100,100]⟩:Yb),(⟨#[97,102,116,101,114]⟩:Yb),(⟨#[97,110,100]⟩:Yb),(⟨#[97,116]⟩:Yb),(⟨#[98,101,108,116]⟩:Yb),(⟨#[98,111,111,108]⟩:Yb),(⟨#[99,111,110,115,101,114,118,101]⟩:Yb),(⟨#[99,111,110,115,116]⟩:Yb),(⟨#[99,111,117,110,116]⟩:Yb),(⟨#[99,121,99,108,101]⟩:Yb),(⟨#[100,111,119,110]⟩:Yb),(⟨#[100,114,97,119]⟩:Yb),(⟨#[100,117,114]⟩:Yb),(⟨#[101,108,115,101]⟩:Yb),(⟨#[101,110,100]⟩:Yb),(⟨#[101,118,101,114,121]⟩:Yb),(⟨#[102,97,108,115,101]⟩:Yb),(⟨#[102,97,117,108,116]⟩:Yb),(⟨#[102,105,102,111]⟩:Yb),(⟨#[102,114,101,101]⟩:Yb),(⟨#[102,114,111,109]⟩:Yb),(⟨#[103,101,111,109]⟩:Yb),(⟨#[103,101,116]⟩:Yb),(⟨#[104,111,108,100]⟩:Yb),(⟨#[105,102]⟩:Yb),(⟨#[105,110,116]⟩:Yb),(⟨#[105,110,116,111]⟩:Yb),(⟨#[108,101,97,115,116]⟩:Yb),(⟨#[108,101,118,101,108]⟩:Yb),(⟨#[108,105,102,111]⟩:Yb),(⟨#[108,105,110,107]⟩:Yb),(⟨#[108,111,99,97,108]⟩:Yb),(⟨#[109,97,120]⟩:Yb),(⟨#[109,105,110]⟩:Yb),(⟨#[109,111,100,101,108]⟩:Yb),(⟨#[110,111,116]⟩:Yb),(⟨#[110,111,119]⟩:Yb),(⟨#[111,98,115,101,114,118,101]⟩:Yb),(⟨#[111,114]⟩:Yb),(⟨#[112,97,114,97,109]⟩:Yb),(⟨#[112,114,101,101,109,112,116]⟩:Yb),(⟨#[112,114,105,111]⟩:Yb),(⟨#[112,117,116]⟩:Yb),(⟨#[113,117,101,117,101]⟩:Yb),(⟨#[114,101,108,101,97,115,101]⟩:Yb),(⟨#[114,101,115,111,117,114,99,101]⟩:Yb),(⟨#[114,105,100,101]⟩:Yb),(⟨#[114,111,117,116,105,110,101]⟩:Yb),(⟨#[115,101,105,122,101]⟩:Yb),(⟨#[115,101,110,100]⟩:Yb),(⟨#[115,101,116]⟩:Yb),(⟨#[115,104,105,102,116]⟩:Yb),(⟨#[115,105,103,110,97,108]⟩:Yb),(⟨#[115,105,116,101]⟩:Yb),(⟨#[115,105,122,101]⟩:Yb),(⟨#[115,112,97,119,110]⟩:Yb),(⟨#[115,116,97,114,116]⟩:Yb),(⟨#[115,116,111,112]⟩:Yb),(⟨#[115,116,111,114,101]⟩:Yb),(⟨#[115,116,114,101,97,109]⟩:Yb),(⟨#[115,117,109]⟩:Yb),(⟨#[116,97,98,108,101]⟩:Yb),(⟨#[116,97,108,108,121]⟩:Yb),(⟨#[116,105,99,107,115]⟩:Yb),(⟨#[116,105,109,101]⟩:Yb),(⟨#[116,114,117,101]⟩:Yb),(⟨#[117,110,105,102,111,114,109]⟩:Yb),(⟨#[117,110,116,105,108]⟩:Yb),(⟨#[117,112]⟩:Yb),(⟨#[118,97,114]⟩:Yb),(⟨#[119,97,105,116]⟩:Yb),(⟨#[119,97,105,116,105,110,103]⟩:Yb),(⟨#[119,104,105,108,101]⟩:Yb)])
def Aij:Option (List Yb):=Aq7 L
def X70:F6:=E0 (λ(x:List Yb)=>lv (.t9 x)) 70 (Aij L) λr h=>hF Tryz.func70 (oS []) L (λkk=>eE (Aq7 L)) h
def c69:=CC Tryz.f69
def O69(L:Nat):Bc:=oL []
def B5y(a0:List Yb)(a1:Yb)(v:Js):St:=⟨[(0,lv (.t9 a0)),(1,S a1),(4,I v.1),(5,I v.2)],[],0⟩
def Aeo [An A C3](L:Nat)(a0:List Yb)(a1:Yb)(rec:Int->Int->A)(Al:Int)(Af:Int):A:=
 (lw Af a0
 (cn ((gD a0 Af).toList == a1.toList)
 (lf (0,Af,Af))
 (rec Al (Bs (Af+1))))
 (lf (1,Al,Af)))
def Qa(L:Nat)(a0:List Yb)(a1:Yb):Nat->Int->Int->Option C3
 |0,_,_=>none
 |n+1,Al,Af=>Aeo L a0 a1 (Qa L a0 a1 n) Al Af
theorem B3w(a0:List Yb)(a1:Yb):LP (EV (O69 L) L 9 c69.u.l.u.l.l) [0,1,4,5] [] (B5y a0 a1) [.ret,.exit 0] (λn v=>Qa L a0 a1 n v.1 v.2) K:=lE (λ_=>rfl) λn v ih=>eE (Aeo L a0 a1 (λAl Af=>re (ih (Al,Af))) v.1 v.2)
def Ae3 [An A Int](L:Nat)(o1:Nat×Js):A:=
 (sl o1.1 [(lf o1.2.1),
 (lf (-1))])
def A34 [An A Int](a0:List Yb)(a1:Yb):A:=(bd (Qa L a0 a1 L 0 0) λo1=>Ae3 L o1)
def Km(a0:List Yb)(a1:Yb):Option Int:=A34 L a0 a1
def X69:F6:=E2 I 69 cl9 cS (Km L) λa0 a1 r h=>hF Tryz.func69 (C:=O69 L) (oS _) L (λkk=>eE ((hq (B3w L (KA (O69 L) L 9 c69 (rl [2,1,2,1]) (KE Tryz.f69 kk)) a0 a1 L (0,0)) λo1=>Ae3 L o1))) h
def Ale [An A Bool](a0:Yb):A:=
 (bd (Aij L) λr1=>
 (bd (Km L r1 a0) λr2=>
 (lf (decide (r2>=0)))))
def Aeh(a0:Yb):Option Bool:=Ale L a0
def X46:F6:=E1 B 46 cS (Aeh L) λa0 r h=>hF Tryz.func46 (oS [X69 L,X70 L]) L (λkk=>eE (Ale L a0)) h
def c30:=CC Tryz.f30
def O30:Bc:=oL [X45 L,X46 L]
def B45(a0:Yb)(v:Js):St:=⟨[(0,S a0),(2,I v.1),(3,I v.2)],[],0⟩
def Vq [An A C3](a0:Yb)(rec:Int->Int->A)(Ag:Int)(Al:Int):A:=
 (cn (decide (Al<(a0.size:Int)))
 (cn ((if 0<=Al then a0[Int.toNat Al]? else none).isSome)
 (bd (g7 L (D2 (if 0<=Al then a0[Int.toNat Al]? else none))) λr6=>
 (jb (.cn (!r6)
 (.cn ((if 0<=Al then a0[Int.toNat Al]? else none).isSome)
 (.lf ((D2 (if 0<=Al then a0[Int.toNat Al]? else none)) != 95))
 .fl)
 (.lf false)) (λb7=>
 (jb (.cn b7
 (.cn ((if 0<=Al then a0[Int.toNat Al]? else none).isSome)
 (.cn (decide ((D2 (if 0<=Al then a0[Int.toNat Al]? else none))<48))
 (.lf true)
 (.cn ((if 0<=Al then a0[Int.toNat Al]? else none).isSome)
 (.lf (decide ((D2 (if 0<=Al then a0[Int.toNat Al]? else none))>57)))
 .fl))
 .fl)
 (.lf false)) (λb8=>
 (cn b8
 (lf (0,3,Al))
 (rec Ag (Bs (Al+1)))))))))
 fl)
 (lf (1,Ag,Al)))
def M4(L:Nat)(a0:Yb):Nat->Int->Int->Option C3
 |0,_,_=>none
 |n+1,Ag,Al=>Vq L a0 (M4 L a0 n) Ag Al
theorem B24(a0:Yb):LP (EV (O30 L) L 9 c30.w.l.u.l.l) [0,2,3] [] (B45 a0) [.ret,.exit 0] (λn v=>M4 L a0 n v.1 v.2) K:=lE (λ_=>rfl) λn v ih=>eE (Vq L a0 (λAg Al=>re (ih (Ag,Al))) v.1 v.2)
def Aat [An A Int](L:Nat)(o9:Nat×Js):A:=
 (sl o9.1 [(lf o9.2.1),
 (lf 0)])
def Abv [An A Int](a0:Yb)(nx1:A):A:=
 (jp (.cn (decide ((a0.size:Int)<1))
 (.lf true)
 (.lf (decide ((a0.size:Int)>24)))) (λb1=>
 (jb (.cn b1
 (.lf true)
 (.cn ((if 0<=0 then a0[Int.toNat 0]? else none).isSome)
 (.bd (g7 L (D2 (if 0<=0 then a0[Int.toNat 0]? else none))) λr3=>
 (.lf (!r3)))
 .fl)) (λb2=>
 (jb (.cn b2
 (.lf true)
 (.bd (Aeh L a0) λr5=>
 (.lf r5))) (λb4=>
 (cn b4
 (lf 3)
 nx1)))))))
def A0v [An A Int](a0:Yb):A:=Abv L a0 (bd (M4 L a0 L 0 0) λo9=>Aat L o9)
def Jz(a0:Yb):Option Int:=A0v L a0
def X30:F6:=E1 I 30 cS (Jz L) λa0 r h=>hF Tryz.func30 (C:=O30 L) (oS _) L (λkk=>eE (Abv L a0 (hq (B24 L (KA (O30 L) L 9 c30 (rl [4,1,2,1]) (KE Tryz.f30 kk)) a0 L (0,0)) λo9=>Aat L o9))) h
def Aor [An A Int](L:Nat)(a0:Bool)(a1:Int):A:=
 (cn a0
 (lf 0)
 (lf a1))
def Cj(a0:Bool)(a1:Int):Option Int:=Aor L a0 a1
def X48:F6:=E2 I 48 cB (cI .i64) (Cj L) λa0 a1 r h=>hF Tryz.func48 (oS []) L (λkk=>eE (Aor L a0 a1)) h
def Are [An A Int](L:Nat)(a0:Int)(a1:Int):A:=
 (cn (a0 != 0)
 (lf a0)
 (lf a1))
def Cy(a0:Int)(a1:Int):Option Int:=Are L a0 a1
def X47:F6:=E2 I 47 (cI .i64) (cI .i64) (Cy L) λa0 a1 r h=>hF Tryz.func47 (oS []) L (λkk=>eE (Are L a0 a1)) h
def Arf [An A Int](a0:Yb)(a1:List Yb):A:=
 (bd (Jz L a0) λr1=>
 (bd (Km L a1 a0) λr2=>
 (bd (Cj L (decide (r2<0)) 4) λr3=>
 (bd (Cy L r1 r3) λr4=>
 (lf r4)))))
def L4(a0:Yb)(a1:List Yb):Option Int:=Arf L a0 a1
def X50:F6:=E2 I 50 cS cl9 (L4 L) λa0 a1 r h=>hF Tryz.func50 (oS [X30 L,X47 L,X48 L,X69 L]) L (λkk=>eE (Arf L a0 a1)) h
def Ard [An A Bool](L:Nat)(a0:Int):A:=
 (jp (.cn (a0 == 1)
 (.lf true)
 (.lf (a0 == 2))) (λb1=>
 (jp (.cn b1
 (.lf true)
 (.lf (a0 == 3))) (λb2=>
 (lf b2)))))
def Vf(a0:Int):Option Bool:=Ard L a0
def X71:F6:=E1 B 71 (cI .i64) (Vf L) λa0 r h=>hF Tryz.func71 (oS []) L (λkk=>eE (Ard L a0)) h
def A32 [An A Bool](L:Nat)(a0:Int):A:=
 (jp (.cn (decide (a0>=(-1000000000000)))
 (.lf (decide (a0<=1000000000000)))
 (.lf false)) (λb1=>
 (lf b1)))
def Amk(a0:Int):Option Bool:=A32 L a0
def Bsp:F6:=E1 B 131 (cI .i64) (Amk L) λa0 r h=>hF Tryz.func131 (oS []) L (λkk=>eE (A32 L a0)) h
def Aos [An A Bool](L:Nat)(a0:Int)(a1:Int)(a2:Int):A:=
 (jp (.cn (decide (a0>=a1))
 (.lf (decide (a0<=a2)))
 (.lf false)) (λb1=>
 (lf b1)))
def Dh(a0:Int)(a1:Int)(a2:Int):Option Bool:=Aos L a0 a1 a2
def X78:F6:=E3 B 78 (cI .i64) (cI .i64) (cI .i64) (Dh L) λa0 a1 a2 r h=>hF Tryz.func78 (oS []) L (λkk=>eE (Aos L a0 a1 a2)) h
def Aur [An A Bool](a0:Int)(a1:Int):A:=
 (cn (a0 == 1)
 (bd (Amk L a1) λr1=>
 (lf r1))
 (cn (a0 == 2)
 (jp (.cn (a1 == 0)
 (.lf true)
 (.lf (a1 == 1))) (λb2=>
 (lf b2)))
 (cn (a0 == 3)
 (bd (Dh L a1 0 1000000000) λr3=>
 (lf r3))
 (lf false))))
def Zn(a0:Int)(a1:Int):Option Bool:=Aur L a0 a1
def X72:F6:=E2 B 72 (cI .i64) (cI .i64) (Zn L) λa0 a1 r h=>hF Tryz.func72 (oS [X78 L,Bsp L]) L (λkk=>eE (Aur L a0 a1)) h
def Arg [An A Int](a0:Aw)(a1:List Yb):A:=
 (bd (L4 L a0.aF a1) λr1=>
 (bd (Vf L a0.bO) λr2=>
 (bd (Cj L r2 1) λr3=>
 (bd (Cy L r1 r3) λr4=>
 (bd (Zn L a0.bO a0.N) λr5=>
 (bd (Cj L r5 2) λr6=>
 (bd (Cy L r4 r6) λr7=>
 (lf r7))))))))
def Afm(a0:Aw)(a1:List Yb):Option Int:=Arg L a0 a1
def X49:F6:=E2 I 49 Ba1 cl9 (Afm L) λa0 a1 r h=>hF Tryz.func49 (oS [X47 L,X48 L,X50 L,X71 L,X72 L]) L (λkk=>eE (Arg L a0 a1)) h
def c73:=CC Tryz.f73
def O73(L:Nat):Bc:=oL []
def Cdb:(List (List Yb))->Prop:=λx=>kk ((λ(x:List (List Yb))=>lv (.t61 x)) x)
def B5z(a0:Aa)(v:N5):St:=⟨[(0,.any),zq7,Bq0,Bq1,(4,I v.1),(5,.any),(6,.any),(7,.any),(8,.any)],[(1,(Ae a0)),(9,[.bB true (.t9 v.2),zq6,zq6,zq6,zq6,zq6,zq6,zq6,zq6,zq6])],0⟩
def x9 [An A (Nat×N5)](L:Nat)(a0:Aa)(rec:Int->List Yb->A)(Ag:Int)(Xq:List Yb):A:=
 (cn (decide (Ag<(a0.bX.length:Int)))
 (gq ((0:Int)<=0)
 (gq (0<((10:Nat):Int))
 (gi Ag a0.bX
 (gq ((Xq.length+ [(gD a0.bX Ag).aF].length)*16<=140737488355328)
 (gq (Xq.length+ [(gD a0.bX Ag).aF].length<=maxLen)
 (gq ((0:Int)<=0)
 (gq (0<((10:Nat):Int))
 (rec (Bs (Ag+1)) (Xq++ [(gD a0.bX Ag).aF])))))))))
 (lf (0,Ag,Xq)))
def Nb(L:Nat)(a0:Aa):Nat->Int->List Yb->Option (Nat×N5)
 |0,_,_=>none
 |n+1,Ag,Xq=>x9 L a0 (Nb L a0 n) Ag Xq
theorem B3x(a0:Aa):LP (EV (O73 L) L 9 c73.w.l.u.l.l) [0,1,2,3,4,5,6,7,8] [1,9] (B5z a0) [.exit 0] (λn v=>Nb L a0 n v.1 v.2) K:=lE (λ_=>rfl) λn v ih=>eE (x9 L a0 (λAg Xq=>re (ih (Ag,Xq))) v.1 v.2)
def B50(a0:Aa)(o1:Nat×N5)(v:N5):St:=⟨[(0,.any),zq7,Bq0,Bq1,(4,.any),(5,I v.1),(6,.any),(7,.any),(8,.any)],[(1,(Ae a0)),(9,[.bB true (.t9 o1.2.2),.bB true (.t9 v.2),zq6,zq6,zq6,zq6,zq6,zq6,zq6,zq6])],0⟩
def y9 [An A (Nat×N5)](L:Nat)(a0:Aa)(o1:Nat×N5)(rec:Int->List Yb->A)(Gi:Int)(Xr:List Yb):A:=
 (cn (decide (Gi<(a0.aG.length:Int)))
 (gq ((0:Int)<=1)
 (gq (1<((10:Nat):Int))
 (gi Gi a0.aG
 (gq ((Xr.length+ [(gD a0.aG Gi).aF].length)*16<=140737488355328)
 (gq (Xr.length+ [(gD a0.aG Gi).aF].length<=maxLen)
 (gq ((0:Int)<=1)
 (gq (1<((10:Nat):Int))
 (rec (Bs (Gi+1)) (Xr++ [(gD a0.aG Gi).aF])))))))))
 (lf (0,Gi,Xr)))
def Nc(L:Nat)(a0:Aa)(o1:Nat×N5):Nat->Int->List Yb->Option (Nat×N5)
 |0,_,_=>none
 |n+1,Gi,Xr=>y9 L a0 o1 (Nc L a0 o1 n) Gi Xr
theorem B3y(a0:Aa)(o1:Nat×N5):LP (EV (O73 L) L 9 c73.w.u.l.u.l.l) [0,1,2,3,4,5,6,7,8] [1,9] (B50 a0 o1) [.exit 2] (λn v=>Nc L a0 o1 n v.1 v.2) K:=lE (λ_=>rfl) λn v ih=>eE (y9 L a0 o1 (λGi Xr=>re (ih (Gi,Xr))) v.1 v.2)
def Bp5(a0:Aa)(o1:Nat×N5)(o2:Nat×N5)(v:N5):St:=⟨[(0,.any),zq7,Bq0,Bq1,(4,.any),(5,.any),(6,I v.1),(7,.any),(8,.any)],[(1,(Ae a0)),(9,[.bB true (.t9 o1.2.2),.bB true (.t9 o2.2.2),.bB true (.t9 v.2),zq6,zq6,zq6,zq6,zq6,zq6,zq6])],0⟩
def z6 [An A (Nat×N5)](L:Nat)(a0:Aa)(o1:Nat×N5)(o2:Nat×N5)(rec:Int->List Yb->A)(Iv:Int)(Fs:List Yb):A:=
 (cn (decide (Iv<(a0.aM.length:Int)))
 (gq ((0:Int)<=2)
 (gq (2<((10:Nat):Int))
 (gi Iv a0.aM
 (gq ((Fs.length+ [(gD a0.aM Iv).aF].length)*16<=140737488355328)
 (gq (Fs.length+ [(gD a0.aM Iv).aF].length<=maxLen)
 (gq ((0:Int)<=2)
 (gq (2<((10:Nat):Int))
 (rec (Bs (Iv+1)) (Fs++ [(gD a0.aM Iv).aF])))))))))
 (lf (0,Iv,Fs)))
def Nd(L:Nat)(a0:Aa)(o1:Nat×N5)(o2:Nat×N5):Nat->Int->List Yb->Option (Nat×N5)
 |0,_,_=>none
 |n+1,Iv,Fs=>z6 L a0 o1 o2 (Nd L a0 o1 o2 n) Iv Fs
theorem B3z(a0:Aa)(o1:Nat×N5)(o2:Nat×N5):LP (EV (O73 L) L 9 c73.x.l.u.l.l) [0,1,2,3,4,5,6,7,8] [1,9] (Bp5 a0 o1 o2) [.exit 4] (λn v=>Nd L a0 o1 o2 n v.1 v.2) K:=lE (λ_=>rfl) λn v ih=>eE (z6 L a0 o1 o2 (λIv Fs=>re (ih (Iv,Fs))) v.1 v.2)
def B51(a0:Aa)(o1:Nat×N5)(o2:Nat×N5)(o3:Nat×N5)(v:N5):St:=⟨[(0,.any),zq7,Bq0,Bq1,(4,.any),(5,.any),(6,.any),(7,I v.1),(8,.any)],[(1,(Ae a0)),(9,[.bB true (.t9 o1.2.2),.bB true (.t9 o2.2.2),.bB true (.t9 o3.2.2),.bB true (.t9 v.2),zq6,zq6,zq6,zq6,zq6,zq6])],0⟩
def z7 [An A (Nat×N5)](L:Nat)(a0:Aa)(o1:Nat×N5)(o2:Nat×N5)(o3:Nat×N5)(rec:Int->List Yb->A)(H6:Int)(F0:List Yb):A:=
 (cn (decide (H6<(a0.bL.length:Int)))
 (gq ((0:Int)<=3)
 (gq (3<((10:Nat):Int))
 (gi H6 a0.bL
 (gq ((F0.length+ [(gD a0.bL H6).aF].length)*16<=140737488355328)
 (gq (F0.length+ [(gD a0.bL H6).aF].length<=maxLen)
 (gq ((0:Int)<=3)
 (gq (3<((10:Nat):Int))
 (rec (Bs (H6+1)) (F0++ [(gD a0.bL H6).aF])))))))))
 (lf (0,H6,F0)))
def Nf(L:Nat)(a0:Aa)(o1:Nat×N5)(o2:Nat×N5)(o3:Nat×N5):Nat->Int->List Yb->Option (Nat×N5)
 |0,_,_=>none
 |n+1,H6,F0=>z7 L a0 o1 o2 o3 (Nf L a0 o1 o2 o3 n) H6 F0
theorem B30(a0:Aa)(o1:Nat×N5)(o2:Nat×N5)(o3:Nat×N5):LP (EV (O73 L) L 9 c73.x.u.l.u.l.l) [0,1,2,3,4,5,6,7,8] [1,9] (B51 a0 o1 o2 o3) [.exit 6] (λn v=>Nf L a0 o1 o2 o3 n v.1 v.2) K:=lE (λ_=>rfl) λn v ih=>eE (z7 L a0 o1 o2 o3 (λH6 F0=>re (ih (H6,F0))) v.1 v.2)
def B52(a0:Aa)(o1:Nat×N5)(o2:Nat×N5)(o3:Nat×N5)(o4:Nat×N5)(v:N5):St:=⟨[(0,.any),zq7,Bq0,Bq1,(4,.any),(5,.any),(6,.any),(7,.any),(8,I v.1)],[(1,(Ae a0)),(9,[.bB true (.t9 o1.2.2),.bB true (.t9 o2.2.2),.bB true (.t9 o3.2.2),.bB true (.t9 o4.2.2),lv (.t9 a0.bJ),lv (.t9 a0.aZ),lv (.t9 a0.bH),lv (.t9 a0.bP),lv (.t9 a0.bD),.bB true (.t9 v.2)])],0⟩
def z8 [An A (Nat×N5)](L:Nat)(a0:Aa)(o1:Nat×N5)(o2:Nat×N5)(o3:Nat×N5)(o4:Nat×N5)(rec:Int->List Yb->A)(A66:Int)(Xs:List Yb):A:=
 (cn (decide (A66<(a0.aD.length:Int)))
 (gq ((0:Int)<=9)
 (gq (9<((10:Nat):Int))
 (gi A66 a0.aD
 (gq ((Xs.length+ [(gD a0.aD A66).aF].length)*16<=140737488355328)
 (gq (Xs.length+ [(gD a0.aD A66).aF].length<=maxLen)
 (gq ((0:Int)<=9)
 (gq (9<((10:Nat):Int))
 (rec (Bs (A66+1)) (Xs++ [(gD a0.aD A66).aF])))))))))
 (lf (0,A66,Xs)))
def Ng(L:Nat)(a0:Aa)(o1:Nat×N5)(o2:Nat×N5)(o3:Nat×N5)(o4:Nat×N5):Nat->Int->List Yb->Option (Nat×N5)
 |0,_,_=>none
 |n+1,A66,Xs=>z8 L a0 o1 o2 o3 o4 (Ng L a0 o1 o2 o3 o4 n) A66 Xs
theorem B31(a0:Aa)(o1:Nat×N5)(o2:Nat×N5)(o3:Nat×N5)(o4:Nat×N5):LP (EV (O73 L) L 9 c73.x.x.w.u.l.u.l.l) [0,1,2,3,4,5,6,7,8] [1,9] (B52 a0 o1 o2 o3 o4) [.exit 8] (λn v=>Ng L a0 o1 o2 o3 o4 n v.1 v.2) K:=lE (λ_=>rfl) λn v ih=>eE (z8 L a0 o1 o2 o3 o4 (λA66 Xs=>re (ih (A66,Xs))) v.1 v.2)
def Aa8 [An A (List (List Yb))](L:Nat)(o1:Nat×N5)(o2:Nat×N5)(o3:Nat×N5)(o4:Nat×N5)(a0:Aa)(o5:Nat×N5):A:=
 (sl o5.1 [(lf [o1.2.2,o2.2.2,o3.2.2,o4.2.2,a0.bJ,a0.aZ,a0.bH,a0.bP,a0.bD,o5.2.2])])
def Ab2 [An A (List (List Yb))](L:Nat)(o1:Nat×N5)(o2:Nat×N5)(o3:Nat×N5)(a0:Aa)(o4:Nat×N5)(nx5:(Nat×N5)->(Nat×N5)->(Nat×N5)->(Nat×N5)->A):A:=
 (sl o4.1 [(gq ((0:Int)<=4)
 (gq (4<((10:Nat):Int))
 (gq ((0:Int)<=5)
 (gq (5<((10:Nat):Int))
 (gq ((0:Int)<=6)
 (gq (6<((10:Nat):Int))
 (gq ((0:Int)<=7)
 (gq (7<((10:Nat):Int))
 (gq ((0:Int)<=8)
 (gq (8<((10:Nat):Int))
 (nx5 o1 o2 o3 o4)))))))))))])
def Ajs [An A (List (List Yb))](o1:Nat×N5)(o2:Nat×N5)(o3:Nat×N5)(a0:Aa)(o4:Nat×N5):A:=Ab2 L o1 o2 o3 a0 o4 (λo1 o2 o3 o4=>bd (Ng L a0 o1 o2 o3 o4 L 0 []) λo5=>Aa8 L o1 o2 o3 o4 a0 o5)
def Ab1 [An A (List (List Yb))](L:Nat)(o1:Nat×N5)(o2:Nat×N5)(a0:Aa)(o3:Nat×N5)(nx4:(Nat×N5)->(Nat×N5)->(Nat×N5)->A):A:=
 (sl o3.1 [(nx4 o1 o2 o3)])
def Aa7 [An A (List (List Yb))](o1:Nat×N5)(o2:Nat×N5)(a0:Aa)(o3:Nat×N5):A:=Ab1 L o1 o2 a0 o3 (λo1 o2 o3=>bd (Nf L a0 o1 o2 o3 L 0 []) λo4=>Ajs L o1 o2 o3 a0 o4)
def Bpa:Ei:=(KA (O73 L) L 9 c73 (rl [8,1,2,1]) (KE Tryz.f73 kk))
theorem B9h(a0:Aa)(o1:Nat×N5)(o2:Nat×N5)(o3:Nat×N5):kX [.exit 4] (Bp5 a0 o1 o2) (Bpa L kk) o3=ob (Aa7 L o1 o2 a0 o3) (Cdb kk):=eE (Ab1 L o1 o2 a0 o3 (λo1 o2 o3=>hq (B30 L (KA (O73 L) L 9 c73 (rl [10,1,2,1]) (KE Tryz.f73 kk)) a0 o1 o2 o3 L (0,[])) λo4=>Ab2 L o1 o2 o3 a0 o4 (λo1 o2 o3 o4=>hq (B31 L (KA (O73 L) L 9 c73 (rl [22,1,2,1]) (KE Tryz.f73 kk)) a0 o1 o2 o3 o4 L (0,[])) λo5=>Aa8 L o1 o2 o3 o4 a0 o5)))
def Ab0 [An A (List (List Yb))](L:Nat)(o1:Nat×N5)(a0:Aa)(o2:Nat×N5)(nx3:(Nat×N5)->(Nat×N5)->A):A:=
 (sl o2.1 [(nx3 o1 o2)])
def Ajr [An A (List (List Yb))](o1:Nat×N5)(a0:Aa)(o2:Nat×N5):A:=Ab0 L o1 a0 o2 (λo1 o2=>bd (Nd L a0 o1 o2 L 0 []) λo3=>Aa7 L o1 o2 a0 o3)
def Abz [An A (List (List Yb))](L:Nat)(a0:Aa)(o1:Nat×N5)(nx2:(Nat×N5)->A):A:=
 (sl o1.1 [(nx2 o1)])
def Ajq [An A (List (List Yb))](a0:Aa)(o1:Nat×N5):A:=Abz L a0 o1 (λo1=>bd (Nc L a0 o1 L 0 []) λo2=>Ajr L o1 a0 o2)
def A02 [An A (List (List Yb))](a0:Aa):A:=(bd (Nb L a0 L 0 []) λo1=>Ajq L a0 o1)
def Z0(a0:Aa):Option (List (List Yb)):=A02 L a0
def X73:F6:=E1 (λ(x:List (List Yb))=>lv (.t61 x)) 73 C7 (Z0 L) λa0 r h=>hF Tryz.func73 (C:=O73 L) (oS _) L (λkk=>eE ((hq (B3x L (KA (O73 L) L 9 c73 (rl [4,1,2,1]) (KE Tryz.f73 kk)) a0 L (0,[])) λo1=>Abz L a0 o1 (λo1=>hq (B3y L (KA (O73 L) L 9 c73 (rl [6,1,2,1]) (KE Tryz.f73 kk)) a0 o1 L (0,[])) λo2=>Ab0 L o1 a0 o2 (λo1 o2=>ho (B3z L (Bpa L kk) a0 o1 o2 L (0,[])) λo3=>B9h L kk a0 o1 o2 o3))))) h
def B72:=CC Tryz.f174
def B0g:Bc:=oL [X48 L,X78 L]
def Bxq(a0:Ak)(v:Js):St:=⟨[(0,.any),zq7,(2,I v.1),(3,I v.2)],[(1,(B3 a0))],0⟩
def T7 [An A C3](a0:Ak)(rec:Int->Int->A)(Ai:Int)(Ag:Int):A:=
 (lw Ag a0.bA
 (bd (Dh L ((gD a0.bA Ag).At) 0 (Bs (a0.dA-1))) λr3=>
 (jb (.cn (!r3)
 (.lf true)
 (.bd (Dh L ((gD a0.bA Ag).Units) 0 1000) λr5=>
 (.lf (!r5)))) (λb4=>
 (cn b4
 (lf (0,2,Ag))
 (cn (decide (Ag>0))
 (gi (Bs (Ag-1)) a0.bA
 (cn (decide ((gD a0.bA Ag).At<=(gD a0.bA (Bs (Ag-1))).At))
 (lf (0,12,Ag))
 (rec Ai (Bs (Ag+1)))))
 (rec Ai (Bs (Ag+1))))))))
 (lf (1,Ai,Ag)))
def Ii(L:Nat)(a0:Ak):Nat->Int->Int->Option C3
 |0,_,_=>none
 |n+1,Ai,Ag=>T7 L a0 (Ii L a0 n) Ai Ag
theorem Bv2(a0:Ak):LP (EV (B0g L) L 9 B72.x.l.u.l.l) [0,1,2,3] [1] (Bxq a0) [.ret,.exit 0] (λn v=>Ii L a0 n v.1 v.2) K:=lE (λ_=>rfl) λn v ih=>eE (T7 L a0 (λAi Ag=>re (ih (Ai,Ag))) v.1 v.2)
def Us [An A Int](L:Nat)(o6:Nat×Js):A:=
 (sl o6.1 [(lf o6.2.1),
 (lf 0)])
def U2 [An A Int](a0:Ak)(nx1:A):A:=
 (cn ((a0.bA.length:Int) == 0)
 (bd (Cj L (a0.dA == 0) 1) λr1=>
 (lf r1))
 (cn (decide ((a0.bA.length:Int)>20))
 (lf 6)
 (bd (Dh L a0.dA 1 1000000000) λr2=>
 (cn (!r2)
 (lf 2)
 nx1))))
def Arc [An A Int](a0:Ak):A:=U2 L a0 (bd (Ii L a0 L 0 0) λo6=>Us L o6)
def j6(a0:Ak):Option Int:=Arc L a0
def Cbs:F6:=E1 I 174 Xu (j6 L) λa0 r h=>hF Tryz.func174 (C:=B0g L) (oS _) L (λkk=>eE (U2 L a0 (hq (Bv2 L (KA (B0g L) L 9 B72 (rl [8,1,2,1]) (KE Tryz.f174 kk)) a0 L (0,0)) λo6=>Us L o6))) h
def B75:=CC Tryz.f178
def B0j(L:Nat):Bc:=oL []
def Bxt(a0:List Int)(a1:List Int)(v:Tu5):St:=⟨[(0,lv (.t3 a0)),(1,lv (.t3 a1)),(4,B v.1),(5,I v.2)],[],0⟩
def T6 [An A (Nat×Tu5)](L:Nat)(a0:List Int)(a1:List Int)(rec:Bool->Int->A)(Al:Bool)(Af:Int):A:=
 (lw Af a0
 (gi Af a1
 (cn ((gD a0 Af) != (gD a1 Af))
 (lf (0,false,Af))
 (rec Al (Bs (Af+1)))))
 (lf (1,Al,Af)))
def Ih(L:Nat)(a0:List Int)(a1:List Int):Nat->Bool->Int->Option (Nat×Tu5)
 |0,_,_=>none
 |n+1,Al,Af=>T6 L a0 a1 (Ih L a0 a1 n) Al Af
theorem Bv5(a0:List Int)(a1:List Int):LP (EV (B0j L) L 9 B75.w.l.u.l.l) [0,1,4,5] [] (Bxt a0 a1) [.ret,.exit 0] (λn v=>Ih L a0 a1 n v.1 v.2) K:=lE (λ_=>rfl) λn v ih=>eE (T6 L a0 a1 (λAl Af=>re (ih (Al,Af))) v.1 v.2)
def Ur [An A Bool](L:Nat)(o1:Nat×Tu5):A:=
 (sl o1.1 [(lf o1.2.1),
 (lf true)])
def U1 [An A Bool](L:Nat)(a0:List Int)(a1:List Int)(nx1:A):A:=
 (cn ((a0.length:Int) != (a1.length:Int))
 (lf false)
 nx1)
def Aq6 [An A Bool](a0:List Int)(a1:List Int):A:=U1 L a0 a1 (bd (Ih L a0 a1 L false 0) λo1=>Ur L o1)
def Ve(a0:List Int)(a1:List Int):Option Bool:=Aq6 L a0 a1
def Cbv:F6:=E2 B 178 cl3 cl3 (Ve L) λa0 a1 r h=>hF Tryz.func178 (C:=B0j L) (oS _) L (λkk=>eE (U1 L a0 a1 (hq (Bv5 L (KA (B0j L) L 9 B75 (rl [4,1,2,1]) (KE Tryz.f178 kk)) a0 a1 L (false,0)) λo1=>Ur L o1))) h
def Aun [An A Bool](a0:Bk)(a1:Bk):A:=
 (jp (.cn (a0.Op == a1.Op)
 (.lf (a0.A == a1.A))
 (.lf false)) (λb1=>
 (jp (.cn b1
 (.lf (a0.B == a1.B))
 (.lf false)) (λb2=>
 (jp (.cn b2
 (.lf (a0.N == a1.N))
 (.lf false)) (λb3=>
 (jb (.cn b3
 (.bd (Ve L a0.aW a1.aW) λr5=>
 (.lf r5))
 (.lf false)) (λb4=>
 (jb (.cn b4
 (.bd (Ve L a0.aU a1.aU) λr7=>
 (.lf r7))
 (.lf false)) (λb6=>
 (lf b6)))))))))))
def Zm(a0:Bk)(a1:Bk):Option Bool:=Aun L a0 a1
def B01:F6:=E2 B 138 Oy Oy (Zm L) λa0 a1 r h=>hF Tryz.func138 (oS [Cbv L]) L (λkk=>eE (Aun L a0 a1)) h
def Aon [An A Bool](L:Nat)(a0:Bk):A:=
 (jp (.cn ((a0.aW.length:Int) == 0)
 (.lf ((a0.aU.length:Int) == 0))
 (.lf false)) (λb1=>
 (cn (a0.Op == 1)
 (jp (.cn (a0.B == 0)
 (.lf (a0.N == 0))
 (.lf false)) (λb2=>
 (jp (.cn b2
 (.lf b1)
 (.lf false)) (λb3=>
 (lf b3)))))
 (cn (a0.Op == 2)
 (cn (a0.Op == 2)
 (jp (.cn (a0.N == 0)
 (.lf b1)
 (.lf false)) (λb4=>
 (lf b4)))
 (cn (a0.Op == 3)
 (jp (.cn (a0.A == 0)
 (.lf (a0.B == 0))
 (.lf false)) (λb5=>
 (jp (.cn b5
 (.lf (a0.N == 0))
 (.lf false)) (λb6=>
 (lf b6)))))
 (cn (a0.Op == 4)
 (lf b1)
 (lf false))))
 (cn (a0.Op == 5)
 (jp (.cn (a0.N == 0)
 (.lf b1)
 (.lf false)) (λb7=>
 (lf b7)))
 (cn (a0.Op == 3)
 (jp (.cn (a0.A == 0)
 (.lf (a0.B == 0))
 (.lf false)) (λb8=>
 (jp (.cn b8
 (.lf (a0.N == 0))
 (.lf false)) (λb9=>
 (lf b9)))))
 (cn (a0.Op == 4)
 (lf b1)
 (lf false))))))))
def Ahq(a0:Bk):Option Bool:=Aon L a0
def Cbk:F6:=E1 B 143 Oy (Ahq L) λa0 r h=>hF Tryz.func143 (oS []) L (λkk=>eE (Aon L a0)) h
def Ald [An A Bool](L:Nat)(a0:Int)(a1:Int)(a2:Int):A:=
 (jp (.cn (decide (a0>=a1))
 (.lf (decide (a0<=a2)))
 (.lf false)) (λb1=>
 (lf b1)))
def E7(a0:Int)(a1:Int)(a2:Int):Option Bool:=Ald L a0 a1 a2
def B6u:F6:=E3 B 144 (cI .i64) (cI .i64) (cI .i64) (E7 L) λa0 a1 a2 r h=>hF Tryz.func144 (oS []) L (λkk=>eE (Ald L a0 a1 a2)) h
def B7w:=CC Tryz.f145
def B0f:Bc:=oL [B6u L]
def Bxk(a0:Bk)(v:Js):St:=⟨[(0,.any),zq7,(2,I v.1),(3,I v.2)],[(1,(Au0 a0))],0⟩
def u4 [An A C3](a0:Bk)(rec:Int->Int->A)(Ai:Int)(Ag:Int):A:=
 (lw Ag a0.aW
 (bd (E7 L (gD a0.aW Ag) 0 1000000000) λr1=>
 (jb (.cn (!r1)
 (.lf true)
 (.gq (0<=Ag)
 (.gq (Ag<(a0.aU.length:Int))
 (.bd (E7 L (gD a0.aU Ag) 1 1000) λr3=>
 (.lf (!r3)))))) (λb2=>
 (cn b2
 (lf (0,2,Ag))
 (rec Ai (Bs (Ag+1)))))))
 (lf (1,Ai,Ag)))
def M3(L:Nat)(a0:Bk):Nat->Int->Int->Option C3
 |0,_,_=>none
 |n+1,Ai,Ag=>u4 L a0 (M3 L a0 n) Ai Ag
theorem Bvw(a0:Bk):LP (EV (B0f L) L 9 B7w.x.l.u.l.l) [0,1,2,3] [1] (Bxk a0) [.ret,.exit 0] (λn v=>M3 L a0 n v.1 v.2) K:=lE (λ_=>rfl) λn v ih=>eE (u4 L a0 (λAi Ag=>re (ih (Ai,Ag))) v.1 v.2)
def Aas [An A Int](L:Nat)(o4:Nat×Js):A:=
 (sl o4.1 [(lf o4.2.1),
 (lf 0)])
def Abu [An A Int](L:Nat)(a0:Bk)(nx1:A):A:=
 (cn ((a0.aW.length:Int) != (a0.aU.length:Int))
 (lf 8)
 (cn ((a0.aW.length:Int) == 0)
 (lf 7)
 (cn (decide ((a0.aW.length:Int)>20))
 (lf 6)
 nx1)))
def A0u [An A Int](a0:Bk):A:=Abu L a0 (bd (M3 L a0 L 0 0) λo4=>Aas L o4)
def Aj8(a0:Bk):Option Int:=A0u L a0
def Cbl:F6:=E1 I 145 Oy (Aj8 L) λa0 r h=>hF Tryz.func145 (C:=B0f L) (oS _) L (λkk=>eE (Abu L a0 (hq (Bvw L (KA (B0f L) L 9 B7w (rl [8,1,2,1]) (KE Tryz.f145 kk)) a0 L (0,0)) λo4=>Aas L o4))) h
def Aq5 [An A Int](a0:Bk):A:=
 (bd (Ahq L a0) λr1=>
 (cn (!r1)
 (lf 1)
 (cn (a0.Op == 1)
 (bd (E7 L a0.A 0 1000000000) λr2=>
 (cn (!r2)
 (lf 2)
 (lf 0)))
 (cn (a0.Op == 2)
 (bd (E7 L a0.A 0 a0.B) λr3=>
 (jp (.cn r3
 (.lf (decide (a0.B<=1000000000)))
 (.lf false)) (λb4=>
 (cn (!b4)
 (lf 2)
 (lf 0)))))
 (cn (a0.Op == 3)
 (bd (Aj8 L a0) λr5=>
 (lf r5))
 (cn (a0.Op == 4)
 (bd (E7 L a0.N 1 20) λr6=>
 (jb (.cn r6
 (.bd (E7 L a0.A 0 a0.B) λr8=>
 (.lf r8))
 (.lf false)) (λb7=>
 (jp (.cn b7
 (.lf (decide (a0.B<=1000000)))
 (.lf false)) (λb9=>
 (cn (!b9)
 (lf 2)
 (lf 0)))))))
 (cn (a0.Op == 5)
 (bd (E7 L a0.A 1 1000) λr10=>
 (jb (.cn r10
 (.bd (E7 L a0.B 1 1000) λr12=>
 (.lf r12))
 (.lf false)) (λb11=>
 (cn (!b11)
 (lf 2)
 (lf 0)))))
 (lf 0))))))))
def R8(a0:Bk):Option Int:=Aq5 L a0
def X85:F6:=E1 I 85 Oy (R8 L) λa0 r h=>hF Tryz.func85 (oS [Cbk L,B6u L,Cbl L]) L (λkk=>eE (Aq5 L a0)) h
def Aiw [An A Int](a0:Aa)(a1:Ak):A:=
 (bd (Dh L a1.Units 0 1000) λr1=>
 (bd (Cj L r1 2) λr2=>
 (bd (j6 L a1) λr3=>
 (bd (Cy L r2 r3) λr4=>
 (cn (r4 != 0)
 (lf r4)
 (cn (a1.bS.dG.toList == (⟨#[]⟩:Yb).toList)
 (bd (Zm L a1.bS.Up (⟨0,0,0,0,[],[]⟩:Bk)) λr5=>
 (cn r5
 (jb (.bd (Zm L a1.bS.Down (⟨0,0,0,0,[],[]⟩:Bk)) λr7=>
 (.lf r7)) (λb6=>
 (bd (Cj L b6 1) λr8=>
 (lf r8))))
 (nq (bd (Cj L false 1) λr9=>
 (lf r9)))))
 (bd (Km L a0.aZ a1.bS.dG) λr10=>
 (cn (decide (r10<0))
 (lf 5)
 (bd (R8 L a1.bS.Up) λr11=>
 (bd (R8 L a1.bS.Down) λr12=>
 (bd (Cy L r11 r12) λr13=>
 (lf r13))))))))))))
def Vg(a0:Aa)(a1:Ak):Option Int:=Aiw L a0 a1
def Cbc:F6:=E2 I 132 C7 Xu (Vg L) λa0 a1 r h=>hF Tryz.func132 (oS [X47 L,X48 L,X69 L,X78 L,X85 L,B01 L,Cbs L]) L (λkk=>eE (Aiw L a0 a1)) h
def Bjp(F:(List Ad)->Option Int):Prop:=∀y0 r,F y0=some r->Ho Tryz.prog 204 [Z8.en y0] I r
def B8j:=CC Tryz.f204
def B0u(Gf:(List Ad)->Option Int)(L:Nat):Bc:=(orc 204 (A1 I Z8 Gf) (oL []))
theorem Cen(Gf:(List Ad)->Option Int)(Bo0:Bjp Gf)(L:Nat):Dl Tryz.prog (B0u Gf L):=(Er (a1 _ Bo0) (oS []))
def Bx5(a0:List Ad)(v:Js):St:=⟨[(0,lv (.dX a0)),(2,I 0),(3,I v.1),(4,I v.2)],[],0⟩
def u7 [An A C3](Gf:(List Ad)->Option Int)(L:Nat)(a0:List Ad)(rec:Int->Int->A)(Al:Int)(Af:Int):A:=
 (lw Af a0
 (bd (Gf ((gD a0 Af).bE)) λr1=>
 (gi Af a0
 (bd (Gf ((gD a0 Af).bN)) λr2=>
 (rec (Bs ((Bs ((Bs (Al+1))+r1))+r2)) (Bs (Af+1))))))
 (lf (0,Al,Af)))
def M7(Gf:(List Ad)->Option Int)(L:Nat)(a0:List Ad):Nat->Int->Int->Option C3
 |0,_,_=>none
 |n+1,Al,Af=>u7 Gf L a0 (M7 Gf L a0 n) Al Af
theorem Bwh(Gf:(List Ad)->Option Int)(L:Nat)(K:Ei)(a0:List Ad):LP (EV (B0u Gf L) L 9 B8j.w.l.u.l.l) [0,2,3,4] [] (Bx5 a0) [.exit 0] (λn v=>M7 Gf L a0 n v.1 v.2) K:=lE (λ_=>rfl) λn v ih=>eE (u7 Gf L a0 (λAl Af=>re (ih (Al,Af))) v.1 v.2)
def Aaw [An A Int](Gf:(List Ad)->Option Int)(L:Nat)(o3:Nat×Js):A:=
 (sl o3.1 [(lf o3.2.1)])
def A0y [An A Int](Gf:(List Ad)->Option Int)(L:Nat)(a0:List Ad):A:=(bd (M7 Gf L a0 L 0 0) λo3=>Aaw Gf L o3)
def Aqv(Gf:(List Ad)->Option Int)(L:Nat)(a0:List Ad):Option Int:=A0y Gf L a0
theorem Cc4(Gf:(List Ad)->Option Int)(Bo0:Bjp Gf)(L:Nat):Bjp (Aqv Gf L):=λa0 r h=>hF Tryz.func204 (Cen Gf Bo0 L) L (λkk=>eE ((hq (Bwh Gf L (KA (B0u Gf L) L 9 B8j (rl [4,1,2,1]) (KE Tryz.f204 kk)) a0 L (0,0)) λo3=>Aaw Gf L o3))) h
def Om:Nat->(List Ad)->Option Int
 |0,_=>none
 |L+1,a0=>Aqv (Om L) L a0
theorem Buj(L:Nat):Bjp (Om L):=by
 induction L with
 |zero=>exact λ_ _ h=>(by cases h)
 |succ L ih=>
  have i204:=ih;exact Cc4 (Om L) i204 L
def Cb8(L:Nat):F6:=E1 I 204 Z8 (Om L) (Buj L)
def Bjq(F:(List Ad)->Option Int):Prop:=∀y0 r,F y0=some r->Ho Tryz.prog 205 [Z8.en y0] I r
def B8k:=CC Tryz.f205
def B0v(Gg:(List Ad)->Option Int)(L:Nat):Bc:=(orc 205 (A1 I Z8 Gg) (oL []))
theorem Ceo(Gg:(List Ad)->Option Int)(Bo1:Bjq Gg)(L:Nat):Dl Tryz.prog (B0v Gg L):=(Er (a1 _ Bo1) (oS []))
def Bx6(a0:List Ad)(v:Js):St:=⟨[(0,lv (.dX a0)),(2,I 0),(3,I v.1),(4,I v.2)],[],0⟩
def u9 [An A C3](Gg:(List Ad)->Option Int)(L:Nat)(a0:List Ad)(rec:Int->Int->A)(Al:Int)(Af:Int):A:=
 (lw Af a0
 (bd (Gg ((gD a0 Af).bE)) λr1=>
 (gi Af a0
 (bd (Gg ((gD a0 Af).bN)) λr2=>
 (rec (if(Bs (1+r2))>(if(Bs (1+r1))>Al then(Bs (1+r1))else Al) then(Bs (1+r2)) else(if(Bs (1+r1))>Al then(Bs (1+r1))else Al)) (Bs (Af+1))))))
 (lf (0,Al,Af)))
def M8(Gg:(List Ad)->Option Int)(L:Nat)(a0:List Ad):Nat->Int->Int->Option C3
 |0,_,_=>none
 |n+1,Al,Af=>u9 Gg L a0 (M8 Gg L a0 n) Al Af
theorem Bwi(Gg:(List Ad)->Option Int)(L:Nat)(K:Ei)(a0:List Ad):LP (EV (B0v Gg L) L 9 B8k.w.l.u.l.l) [0,2,3,4] [] (Bx6 a0) [.exit 0] (λn v=>M8 Gg L a0 n v.1 v.2) K:=lE (λ_=>rfl) λn v ih=>eE (u9 Gg L a0 (λAl Af=>re (ih (Al,Af))) v.1 v.2)
def Aax [An A Int](Gg:(List Ad)->Option Int)(L:Nat)(o3:Nat×Js):A:=
 (sl o3.1 [(lf o3.2.1)])
def A0z [An A Int](Gg:(List Ad)->Option Int)(L:Nat)(a0:List Ad):A:=(bd (M8 Gg L a0 L 0 0) λo3=>Aax Gg L o3)
def Aqw(Gg:(List Ad)->Option Int)(L:Nat)(a0:List Ad):Option Int:=A0z Gg L a0
theorem Cc5(Gg:(List Ad)->Option Int)(Bo1:Bjq Gg)(L:Nat):Bjq (Aqw Gg L):=λa0 r h=>hF Tryz.func205 (Ceo Gg Bo1 L) L (λkk=>eE ((hq (Bwi Gg L (KA (B0v Gg L) L 9 B8k (rl [4,1,2,1]) (KE Tryz.f205 kk)) a0 L (0,0)) λo3=>Aax Gg L o3))) h
def On:Nat->(List Ad)->Option Int
 |0,_=>none
 |L+1,a0=>Aqw (On L) L a0
theorem Buk(L:Nat):Bjq (On L):=by
 induction L with
 |zero=>exact λ_ _ h=>(by cases h)
 |succ L ih=>
  have i205:=ih;exact Cc5 (On L) i205 L
def Cb9(L:Nat):F6:=E1 I 205 Z8 (On L) (Buk L)
def Ai4:=CC Tryz.f225
def Auk(L:Nat):Bc:=oL []
def A9j:(C1×Bool)->Prop:=λx=>kk ((λ(x:C1×Bool)=>.cK [.agg (Apb x.1),B x.2]) x)
def Bky:St:=⟨[Tp,(3,B false)],Bm5,0⟩
def Bkg(L:Nat)(kk:Lr):Ei:=(KE Tryz.f225 kk)
def Ak8 [An A (C1×Bool)](L:Nat):A:=
 (lf ((⟨false,false,false,false,false,false,false,false,false⟩:C1),false))
theorem Bth:EV (Auk L) L 9 Ai4.w (Bky) (Bkg L kk)=ob (Ak8 L) (A9j kk):=eE (Ak8 L)
def A3s(a0:Int)(p803_2:Bool):St:=⟨[Tp,(3,B false),(4,I a0),(32,B p803_2)],Bm5,0⟩
def A3i(e0:EC):Ei:=(Gn 0 (Rn (EV (Auk L) L 9 e0) (KE Tryz.f225 kk)))
def sx_R10_Of_3 [An A (C1×Bool)](L:Nat)(a0:Int)(p803_2:Bool)(nx1:A):A:=
 (cn p803_2
 (lf ((⟨true,false,false,false,false,false,false,false,false⟩:C1),true))
 (cn (a0 == 13)
 (lf ((⟨true,true,true,false,true,false,false,false,false⟩:C1),true))
 (cn (a0 == 14)
 (lf ((⟨true,false,true,false,true,false,false,false,false⟩:C1),true))
 (cn (a0 == 18)
 (lf ((⟨false,false,false,false,false,false,false,false,false⟩:C1),true))
 nx1))))
def Asz [An A (C1×Bool)](a0:Int)(p803_2:Bool):A:=sx_R10_Of_3 L a0 p803_2 (Ak8 L)
theorem Btw(a0:Int)(p803_2:Bool)(z1:EC):EV (Auk L) L 9 Ai4.u.l.u.l.x.x.w.u.r (A3s a0 p803_2) (A3i L kk (EC.put (rl [1]) z1 Ai4.u.r))= @sx_R10_Of_3 Prop (anP (A9j kk)) L a0 p803_2 (EV (Auk L) L 9 z1 (Bky) (Bkg L kk)):=by kernel_rfl
theorem Btj(a0:Int)(p803_2:Bool):EV (Auk L) L 9 Ai4.u.l.u.l.x.x.w.u.r (A3s a0 p803_2) (A3i L kk Ai4.u.r)=ob (Asz L a0 p803_2) (A9j kk):=Eq.trans (b:=EV (Auk L) L 9 Ai4.u.l.u.l.x.x.w.u.r (A3s a0 p803_2) (A3i L kk (EC.put (rl [1]) Ai4.w Ai4.u.r))) (by kernel_rfl) ((Btw L kk a0 p803_2 Ai4.w).trans (eE (sx_R10_Of_3 L a0 p803_2 (re (Bth L kk)))))
def A3r(a0:Int)(p802_2:Bool):St:=⟨[Tp,(3,B false),(4,I a0),(5,B p802_2)],Bm5,0⟩
def A3h(e0:EC):Ei:=(Gn 0 (Rn (EV (Auk L) L 9 e0) (KE Tryz.f225 kk)))
def sx_R10_Of_2 [An A (C1×Bool)](L:Nat)(a0:Int)(p802_2:Bool)(nx3:Int->Bool->A):A:=
 (cn p802_2
 (lf ((⟨true,false,true,false,false,false,false,false,false⟩:C1),true))
 (cn (a0 == 2)
 (lf ((⟨true,true,false,false,false,true,false,false,false⟩:C1),true))
 (cn (a0 == 3)
 (lf ((⟨false,false,true,false,false,false,false,true,true⟩:C1),true))
 (cn (a0 == 4)
 (lf ((⟨false,false,true,false,false,false,false,true,false⟩:C1),true))
 (cn (a0 == 5)
 (lf ((⟨false,false,true,false,false,false,false,false,false⟩:C1),true))
 (cn (a0 == 6)
 (lf ((⟨true,false,true,true,false,false,true,false,false⟩:C1),true))
 (cn (a0 == 9)
 (lf ((⟨true,true,false,false,false,false,false,false,false⟩:C1),true))
 (cn (a0 == 10)
 (nx3 a0 (a0 == 10))
 (nx3 a0 (a0 == 11))))))))))
def Asy [An A (C1×Bool)](a0:Int)(p802_2:Bool):A:=sx_R10_Of_2 L a0 p802_2 (λa0 p803_2=>Asz L a0 p803_2)
theorem Btv(a0:Int)(p802_2:Bool)(z3:EC):EV (Auk L) L 9 (EC.put (rl [21]) z3 Ai4.u.l.u.l.u) (A3r a0 p802_2) (A3h L kk Ai4.u.r)= @sx_R10_Of_2 Prop (anP (A9j kk)) L a0 p802_2 (λa0 p803_2=>EV (Auk L) L 9 z3 (A3s a0 p803_2) (A3i L kk Ai4.u.r)):=by kernel_rfl
theorem Bti(a0:Int)(p802_2:Bool):EV (Auk L) L 9 Ai4.u.l.u.l.u (A3r a0 p802_2) (A3h L kk Ai4.u.r)=ob (Asy L a0 p802_2) (A9j kk):=Eq.trans (b:=EV (Auk L) L 9 (EC.put (rl [21]) Ai4.u.l.u.l.x.x.w.u.r Ai4.u.l.u.l.u) (A3r a0 p802_2) (A3h L kk Ai4.u.r)) (by kernel_rfl) ((Btv L kk a0 p802_2 Ai4.u.l.u.l.x.x.w.u.r).trans (eE (sx_R10_Of_2 L a0 p802_2 (λa0 p803_2=>re (Btj L kk a0 p803_2)))))
def sx_R10_Of_0 [An A (C1×Bool)](L:Nat)(a0:Int)(nx2:Int->Bool->A):A:=
 (cn (a0 == 1)
 (nx2 a0 (a0 == 1))
 (cn (a0 == 7)
 (nx2 a0 (a0 == 7))
 (cn (a0 == 8)
 (nx2 a0 (a0 == 8))
 (cn (a0 == 12)
 (nx2 a0 (a0 == 12))
 (cn (a0 == 15)
 (nx2 a0 (a0 == 15))
 (cn (a0 == 16)
 (nx2 a0 (a0 == 16))
 (nx2 a0 (a0 == 17))))))))
def Bdl [An A (C1×Bool)](a0:Int):A:=sx_R10_Of_0 L a0 (λa0 p802_2=>Asy L a0 p802_2)
theorem Btu(a0:Int)(z2:EC):EW (Auk L) L 9 (RS Tryz.f225) (EC.put (rl [2,1,2,1,2]) z2 Ai4) [I a0] kk= @sx_R10_Of_0 Prop (anP (A9j kk)) L a0 (λa0 p802_2=>EV (Auk L) L 9 z2 (A3r a0 p802_2) (A3h L kk Ai4.u.r)):=by kernel_rfl
def Aqz(a0:Int):Option (C1×Bool):=Bdl L a0
def B68:F6:=E1 (λ(x:C1×Bool)=>.cK [.agg (Apb x.1),B x.2]) 225 (cI .i64) (Aqz L) λa0 r h=>hF Tryz.func225 (C:=Auk L) (oS _) L (λkk=>Eq.trans (b:=EW (Auk L) L 9 (RS Tryz.f225) (EC.put (rl [2,1,2,1,2]) Ai4.u.l.u.l.u Ai4) [I a0] kk) (by kernel_rfl) ((Btu L kk a0 Ai4.u.l.u.l.u).trans (eE (sx_R10_Of_0 L a0 (λa0 p802_2=>re (Bti L kk a0 p802_2)))))) h
def Auq [An A Bool](L:Nat)(a0:Ab):A:=
 (jp (.cn (a0.Op == 0)
 (.lf (a0.aF.toList == (⟨#[]⟩:Yb).toList))
 (.lf false)) (λb1=>
 (jp (.cn b1
 (.lf (a0.N == 0))
 (.lf false)) (λb2=>
 (jp (.cn b2
 (.lf ((a0.aY.length:Int) == 0))
 (.lf false)) (λb3=>
 (lf b3)))))))
def Aik(a0:Ab):Option Bool:=Auq L a0
def Cch:F6:=E1 B 229 Bi (Aik L) λa0 r h=>hF Tryz.func229 (oS []) L (λkk=>eE (Auq L a0)) h
def Aoq [An A Bool](a0:Ad):A:=
 (bd (Aqz L a0.Op) λr1=>
 (jp (.cn r1.1.aF
 (.lf true)
 (.lf (a0.aF.toList == (⟨#[]⟩:Yb).toList))) (λb2=>
 (jp (.cn b2
 (.cn r1.1.Of
 (.lf true)
 (.lf (a0.Of.toList == (⟨#[]⟩:Yb).toList)))
 (.lf false)) (λb3=>
 (jb (.cn r1.1.E
 (.lf true)
 (.bd (Aik L (Ab.cp a0.E)) λr5=>
 (.lf r5))) (λb4=>
 (jb (.cn b4
 (.cn r1.1.F
 (.lf true)
 (.bd (Aik L (Ab.cp a0.F)) λr7=>
 (.lf r7)))
 (.lf false)) (λb6=>
 (jp (.cn b6
 (.cn r1.1.aP
 (.lf true)
 (.lf ((a0.aP.length:Int) == 0)))
 (.lf false)) (λb8=>
 (jp (.cn r1.1.bE
 (.lf true)
 (.lf ((a0.bE.length:Int) == 0))) (λb9=>
 (jp (.cn b9
 (.cn r1.1.bN
 (.lf true)
 (.lf ((a0.bN.length:Int) == 0)))
 (.lf false)) (λb10=>
 (jp (.cn r1.2
 (.lf b3)
 (.lf false)) (λb11=>
 (jp (.cn b11
 (.lf b8)
 (.lf false)) (λb12=>
 (jp (.cn b12
 (.lf b10)
 (.lf false)) (λb13=>
 (cn b13
 (cn r1.1.bF
 (nq (jp (.cn r1.1.bY
 (.lf true)
 (.lf (!a0.bY))) (λb14=>
 (lf b14))))
 (bd (Zm L a0.bF (⟨0,0,0,0,[],[]⟩:Bk)) λr15=>
 (nq (jp (.cn r15
 (.cn r1.1.bY
 (.lf true)
 (.lf (!a0.bY)))
 (.lf false)) (λb16=>
 (lf b16))))))
 (nq (nq (lf false)))))))))))))))))))))))))
def Ahr(a0:Ad):Option Bool:=Aoq L a0
def Ccf:F6:=E1 B 226 Afx (Ahr L) λa0 r h=>hF Tryz.func226 (oS [B01 L,B68 L,Cch L]) L (λkk=>eE (Aoq L a0)) h
def Bjf(F:Ab->Option Int):Prop:=∀y0 r,F y0=some r->Ho Tryz.prog 180 [Bi.en y0] I r
def B76:=CC Tryz.f180
def B0k(Hb:Ab->Option Int)(L:Nat):Bc:=(orc 180 (A1 I Bi Hb) (oL []))
theorem Ced(Hb:Ab->Option Int)(Bop:Bjf Hb)(L:Nat):Dl Tryz.prog (B0k Hb L):=(Er (a1 _ Bop) (oS []))
def Bxu(a0:Ab)(v:Js):St:=⟨[(0,.any),zq7,(2,I 0),(3,I v.1),(4,I v.2)],[(1,(Cl a0))],0⟩
def u6 [An A C3](Hb:Ab->Option Int)(L:Nat)(a0:Ab)(rec:Int->Int->A)(Ag:Int)(Al:Int):A:=
 (lw Al a0.aY
 (bd (Hb (Ab.cp (gD a0.aY Al))) λr1=>
 (rec (Bs (Ag+r1)) (Bs (Al+1))))
 (lf (0,Ag,Al)))
def M6(Hb:Ab->Option Int)(L:Nat)(a0:Ab):Nat->Int->Int->Option C3
 |0,_,_=>none
 |n+1,Ag,Al=>u6 Hb L a0 (M6 Hb L a0 n) Ag Al
theorem Bv6(Hb:Ab->Option Int)(L:Nat)(K:Ei)(a0:Ab):LP (EV (B0k Hb L) L 9 B76.w.l.u.l.l) [0,1,2,3,4] [1] (Bxu a0) [.exit 0] (λn v=>M6 Hb L a0 n v.1 v.2) K:=lE (λ_=>rfl) λn v ih=>eE (u6 Hb L a0 (λAg Al=>re (ih (Ag,Al))) v.1 v.2)
def Aav [An A Int](Hb:Ab->Option Int)(L:Nat)(o2:Nat×Js):A:=
 (sl o2.1 [(lf o2.2.1)])
def A0x [An A Int](Hb:Ab->Option Int)(L:Nat)(a0:Ab):A:=(bd (M6 Hb L a0 L 1 0) λo2=>Aav Hb L o2)
def Aqu(Hb:Ab->Option Int)(L:Nat)(a0:Ab):Option Int:=A0x Hb L a0
theorem Ccu(Hb:Ab->Option Int)(Bop:Bjf Hb)(L:Nat):Bjf (Aqu Hb L):=λa0 r h=>hF Tryz.func180 (Ced Hb Bop L) L (λkk=>eE ((hq (Bv6 Hb L (KA (B0k Hb L) L 9 B76 (rl [4,1,2,1]) (KE Tryz.f180 kk)) a0 L (1,0)) λo2=>Aav Hb L o2))) h
def Ol:Nat->Ab->Option Int
 |0,_=>none
 |L+1,a0=>Aqu (Ol L) L a0
theorem Bt9(L:Nat):Bjf (Ol L):=by
 induction L with
 |zero=>exact λ_ _ h=>(by cases h)
 |succ L ih=>
  have i180:=ih;exact Ccu (Ol L) i180 L
def Cby(L:Nat):F6:=E1 I 180 Bi (Ol L) (Bt9 L)
def Bjg(F:Ab->Option Int):Prop:=∀y0 r,F y0=some r->Ho Tryz.prog 181 [Bi.en y0] I r
def B77:=CC Tryz.f181
def B0l(Hc:Ab->Option Int)(L:Nat):Bc:=(orc 181 (A1 I Bi Hc) (oL []))
theorem Cee(Hc:Ab->Option Int)(Boq:Bjg Hc)(L:Nat):Dl Tryz.prog (B0l Hc L):=(Er (a1 _ Boq) (oS []))
def Bxv(a0:Ab)(v:Js):St:=⟨[(0,.any),zq7,(2,I 0),(3,I v.1),(4,I v.2)],[(1,(Cl a0))],0⟩
def u5 [An A C3](Hc:Ab->Option Int)(L:Nat)(a0:Ab)(rec:Int->Int->A)(Ag:Int)(Al:Int):A:=
 (lw Al a0.aY
 (bd (Hc (Ab.cp (gD a0.aY Al))) λr1=>
 (rec (if r1>Ag then r1 else Ag) (Bs (Al+1))))
 (lf (0,Ag,Al)))
def M5(Hc:Ab->Option Int)(L:Nat)(a0:Ab):Nat->Int->Int->Option C3
 |0,_,_=>none
 |n+1,Ag,Al=>u5 Hc L a0 (M5 Hc L a0 n) Ag Al
theorem Bv7(Hc:Ab->Option Int)(L:Nat)(K:Ei)(a0:Ab):LP (EV (B0l Hc L) L 9 B77.w.l.u.l.l) [0,1,2,3,4] [1] (Bxv a0) [.exit 0] (λn v=>M5 Hc L a0 n v.1 v.2) K:=lE (λ_=>rfl) λn v ih=>eE (u5 Hc L a0 (λAg Al=>re (ih (Ag,Al))) v.1 v.2)
def Aau [An A Int](Hc:Ab->Option Int)(L:Nat)(o2:Nat×Js):A:=
 (sl o2.1 [(lf (Bs (o2.2.1+1)))])
def A0w [An A Int](Hc:Ab->Option Int)(L:Nat)(a0:Ab):A:=(bd (M5 Hc L a0 L 0 0) λo2=>Aau Hc L o2)
def Aqt(Hc:Ab->Option Int)(L:Nat)(a0:Ab):Option Int:=A0w Hc L a0
theorem Ccv(Hc:Ab->Option Int)(Boq:Bjg Hc)(L:Nat):Bjg (Aqt Hc L):=λa0 r h=>hF Tryz.func181 (Cee Hc Boq L) L (λkk=>eE ((hq (Bv7 Hc L (KA (B0l Hc L) L 9 B77 (rl [4,1,2,1]) (KE Tryz.f181 kk)) a0 L (0,0)) λo2=>Aau Hc L o2))) h
def Ok:Nat->Ab->Option Int
 |0,_=>none
 |L+1,a0=>Aqt (Ok L) L a0
theorem Bua(L:Nat):Bjg (Ok L):=by
 induction L with
 |zero=>exact λ_ _ h=>(by cases h)
 |succ L ih=>
  have i181:=ih;exact Ccv (Ok L) i181 L
def Cbz(L:Nat):F6:=E1 I 181 Bi (Ok L) (Bua L)
def Aq8 [An A Int](L:Nat)(a0:Int):A:=
 (jp (.cn (decide (a0<1))
 (.lf true)
 (.lf (decide (a0>26)))) (λb1=>
 (cn b1
 (lf (-1))
 (jp (.cn (decide (a0>=5))
 (.lf (decide (a0<=8)))
 (.lf false)) (λb2=>
 (cn b2
 (lf 1)
 (jp (.cn (decide (a0>=9))
 (.lf (decide (a0<=21)))
 (.lf false)) (λb3=>
 (cn b3
 (lf 2)
 (lf 0))))))))))
def Aj9(a0:Int):Option Int:=Aq8 L a0
def B6z:F6:=E1 I 207 (cI .i64) (Aj9 L) λa0 r h=>hF Tryz.func207 (oS []) L (λkk=>eE (Aq8 L a0)) h
def Aop [An A Bool](L:Nat)(a0:Int):A:=
 (jp (.cn (decide (a0>=22))
 (.lf (decide (a0<=24)))
 (.lf false)) (λb1=>
 (lf b1)))
def g8(a0:Int):Option Bool:=Aop L a0
def B60:F6:=E1 B 208 (cI .i64) (g8 L) λa0 r h=>hF Tryz.func208 (oS []) L (λkk=>eE (Aop L a0)) h
def Aup [An A Int](L:Nat)(a0:Int):A:=
 (cn (a0 == 25)
 (lf 15)
 (cn (a0 == 26)
 (lf 31)
 (lf 63)))
def Sg(a0:Int):Option Int:=Aup L a0
def B61:F6:=E1 I 209 (cI .i64) (Sg L) λa0 r h=>hF Tryz.func209 (oS []) L (λkk=>eE (Aup L a0)) h
end
end Go.Proofs.YthjhkpgonleelaaGreatDoor.Ev
