import Derived.Test.YtgacplpjamkieaaGreatHG1
set_option maxRecDepth 100000
set_option maxHeartbeats 4000000
set_option linter.unusedVariables false
set_option linter.unusedSimpArgs false
set_option linter.unnecessarySimpa false
namespace Go.Proofs.YtgacplpjamkieaaGreat.Ev
open Go An
noncomputable section
variable {A:Type} (L n:Nat) (kk:Hf) (K:De) (k:C3)
def A2e(F:Aa->Option Int):Prop:=∀y0 r,F y0=some r->Ho Tryz.prog 185 [Ay.en y0] I r
def Bnk:=CC Tryz.f185
def Bge(Eh:Aa->Option Int)(L:Nat):Ba:=(orc 185 (A1 I Ay Eh) (oL []))
theorem Bsr(Eh:Aa->Option Int)(A6t:A2e Eh)(L:Nat):B8 Tryz.prog (Bge Eh L):=(B5 (a1 _ A6t) (oS []))
def Bea(a0:Aa)(v:Ef):St:=⟨[(0,.any),Yq,(2,I 0),(3,I v.1),(4,I v.2)],[(1,(Bm a0))],0⟩
def Rz [An A C0](Eh:Aa->Option Int)(L:Nat)(a0:Aa)(rec:Int->Int->A)(Aq:Int)(Az:Int):A:=
 (lw Az a0.aQ
 (bd (Eh (Aa.cp (gD a0.aQ Az))) λr1=>
 (rec (Cp (Aq+r1)) (Cp (Az+1))))
 (lf (0,Aq,Az)))
def Je(Eh:Aa->Option Int)(L:Nat)(a0:Aa):Nat->Int->Int->Option C0
 |0,_,_=>none
 |n+1,Aq,Az=>Rz Eh L a0 (Je Eh L a0 n) Aq Az
theorem Bcn(Eh:Aa->Option Int)(L:Nat)(K:De)(a0:Aa):LP (EV (Bge Eh L) L 9 Bnk.w.l.u.l.l) [0,1,2,3,4] [1] (Bea a0) [.exit 0] (λn v=>Je Eh L a0 n v.1 v.2) K:=lE (λ_=>rfl) λn v ih=>eE (Rz Eh L a0 (λAq Az=>re (ih (Aq,Az))) v.1 v.2)
def Sg [An A Int](Eh:Aa->Option Int)(L:Nat)(o2:Nat×Ef):A:=
 (sl o2.1 [(lf o2.2.1)])
def Ano [An A Int](Eh:Aa->Option Int)(L:Nat)(a0:Aa):A:=(bd (Je Eh L a0 L 1 0) λo2=>Sg Eh L o2)
def Afc(Eh:Aa->Option Int)(L:Nat)(a0:Aa):Option Int:=Ano Eh L a0
theorem Brk(Eh:Aa->Option Int)(A6t:A2e Eh)(L:Nat):A2e (Afc Eh L):=λa0 r h=>hF Tryz.func185 (Bsr Eh A6t L) L (λkk=>eE ((hq (Bcn Eh L (KA (Bge Eh L) L 9 Bnk (rl [4,1,2,1]) (KE Tryz.f185 kk)) a0 L (1,0)) λo2=>Sg Eh L o2))) h
def Jz:Nat->Aa->Option Int
 |0,_=>none
 |L+1,a0=>Afc (Jz L) L a0
theorem Ba7(L:Nat):A2e (Jz L):=by
 induction L with
 |zero=>exact λ_ _ h=>(by cases h)
 |succ L ih=>
  have i185:=ih;exact Brk (Jz L) i185 L
def Bqu(L:Nat):Fs:=E1 I 185 Ay (Jz L) (Ba7 L)
def A2f(F:Aa->Option Int):Prop:=∀y0 r,F y0=some r->Ho Tryz.prog 186 [Ay.en y0] I r
def Bnl:=CC Tryz.f186
def Bgf(Ei:Aa->Option Int)(L:Nat):Ba:=(orc 186 (A1 I Ay Ei) (oL []))
theorem Bss(Ei:Aa->Option Int)(A6u:A2f Ei)(L:Nat):B8 Tryz.prog (Bgf Ei L):=(B5 (a1 _ A6u) (oS []))
def Beb(a0:Aa)(v:Ef):St:=⟨[(0,.any),Yq,(2,I 0),(3,I v.1),(4,I v.2)],[(1,(Bm a0))],0⟩
def Ry [An A C0](Ei:Aa->Option Int)(L:Nat)(a0:Aa)(rec:Int->Int->A)(Aq:Int)(Az:Int):A:=
 (lw Az a0.aQ
 (bd (Ei (Aa.cp (gD a0.aQ Az))) λr1=>
 (rec (if r1>Aq then r1 else Aq) (Cp (Az+1))))
 (lf (0,Aq,Az)))
def Jd(Ei:Aa->Option Int)(L:Nat)(a0:Aa):Nat->Int->Int->Option C0
 |0,_,_=>none
 |n+1,Aq,Az=>Ry Ei L a0 (Jd Ei L a0 n) Aq Az
theorem Bco(Ei:Aa->Option Int)(L:Nat)(K:De)(a0:Aa):LP (EV (Bgf Ei L) L 9 Bnl.w.l.u.l.l) [0,1,2,3,4] [1] (Beb a0) [.exit 0] (λn v=>Jd Ei L a0 n v.1 v.2) K:=lE (λ_=>rfl) λn v ih=>eE (Ry Ei L a0 (λAq Az=>re (ih (Aq,Az))) v.1 v.2)
def Sf [An A Int](Ei:Aa->Option Int)(L:Nat)(o2:Nat×Ef):A:=
 (sl o2.1 [(lf (Cp (o2.2.1+1)))])
def Ann [An A Int](Ei:Aa->Option Int)(L:Nat)(a0:Aa):A:=(bd (Jd Ei L a0 L 0 0) λo2=>Sf Ei L o2)
def Afb(Ei:Aa->Option Int)(L:Nat)(a0:Aa):Option Int:=Ann Ei L a0
theorem Brl(Ei:Aa->Option Int)(A6u:A2f Ei)(L:Nat):A2f (Afb Ei L):=λa0 r h=>hF Tryz.func186 (Bss Ei A6u L) L (λkk=>eE ((hq (Bco Ei L (KA (Bgf Ei L) L 9 Bnl (rl [4,1,2,1]) (KE Tryz.f186 kk)) a0 L (0,0)) λo2=>Sf Ei L o2))) h
def Jy:Nat->Aa->Option Int
 |0,_=>none
 |L+1,a0=>Afb (Jy L) L a0
theorem Ba8(L:Nat):A2f (Jy L):=by
 induction L with
 |zero=>exact λ_ _ h=>(by cases h)
 |succ L ih=>
  have i186:=ih;exact Brl (Jy L) i186 L
def Bqv(L:Nat):Fs:=E1 I 186 Ay (Jy L) (Ba8 L)
def Afl [An A Int](L:Nat)(a0:Int):A:=
 (jp (.cn (decide (a0<1))
 (.lf true)
 (.lf (decide (a0>26)))) (λb1=>
 (cn b1
 (lf (-1))
 (jp (.cn (decide (a0>=5))
 (.lf (decide (a0<=8)))
 (.lf false)) (λb2=>
 (cn b2
 (lf 1)
 (jp (.cn (decide (a0>=9))
 (.lf (decide (a0<=21)))
 (.lf false)) (λb3=>
 (cn b3
 (lf 2)
 (lf 0))))))))))
def Yy(a0:Int):Option Int:=Afl L a0
def Bmc:Fs:=E1 I 217 (cI .i64) (Yy L) λa0 r h=>hF Tryz.func217 (oS []) L (λkk=>eE (Afl L a0)) h
def Acx [An A Bool](L:Nat)(a0:Int):A:=
 (jp (.cn (decide (a0>=22))
 (.lf (decide (a0<=24)))
 (.lf false)) (λb1=>
 (lf b1)))
def Q0(a0:Int):Option Bool:=Acx L a0
def Bmd:Fs:=E1 B 218 (cI .i64) (Q0 L) λa0 r h=>hF Tryz.func218 (oS []) L (λkk=>eE (Acx L a0)) h
def Aqr [An A Bool](L:Nat)(a0:Int):A:=
 (jp (.cn (decide (a0>=(-1000000000000)))
 (.lf (decide (a0<=1000000000000)))
 (.lf false)) (λb1=>
 (lf b1)))
def Aje(a0:Int):Option Bool:=Aqr L a0
def Bme:Fs:=E1 B 219 (cI .i64) (Aje L) λa0 r h=>hF Tryz.func219 (oS []) L (λkk=>eE (Aqr L a0)) h
def Aid [An A Int](L:Nat)(a0:Int):A:=
 (cn (a0 == 25)
 (lf 15)
 (cn (a0 == 26)
 (lf 31)
 (lf 63)))
def K8(a0:Int):Option Int:=Aid L a0
def Bmf:Fs:=E1 I 220 (cI .i64) (K8 L) λa0 r h=>hF Tryz.func220 (oS []) L (λkk=>eE (Aid L a0)) h
def Acw [An A Bool](L:Nat)(a0:Int):A:=
 (jp (.cn (decide (a0>=97))
 (.lf (decide (a0<=122)))
 (.lf false)) (λb1=>
 (lf b1)))
def Qz(a0:Int):Option Bool:=Acw L a0
def Bq9:Fs:=E1 B 237 (cI .u8) (Qz L) λa0 r h=>hF Tryz.func237 (oS []) L (λkk=>eE (Acw L a0)) h
def Afk [An A (List Yb)](L:Nat):A:=
 (lf [(⟨#[97,100,100]⟩:Yb),(⟨#[97,102,116,101,114]⟩:Yb),(⟨#[97,110,100]⟩:Yb),(⟨#[97,116]⟩:Yb),(⟨#[98,101,108,116]⟩:Yb),(⟨#[98,111,111,108]⟩:Yb),(⟨#[99,111,110,115,101,114,118,101]⟩:Yb),(⟨#[99,111,110,115,116]⟩:Yb),(⟨#[99,111,117,110,116]⟩:Yb),(⟨#[99,121,99,108,101]⟩:Yb),(⟨#[100,111,119,110]⟩:Yb),(⟨#[100,114,97,119]⟩:Yb),(⟨#[100,117,114]⟩:Yb),(⟨#[101,108,115,101]⟩:Yb),(⟨#[101,110,100]⟩:Yb),(⟨#[101,118,101,114,121]⟩:Yb),(⟨#[102,97,108,115,101]⟩:Yb),(⟨#[102,97,117,108,116]⟩:Yb),(⟨#[102,105,102,111]⟩:Yb),(⟨#[102,114,101,101]⟩:Yb),(⟨#[102,114,111,109]⟩:Yb),(⟨#[103,101,111,109]⟩:Yb),(⟨#[103,101,116]⟩:Yb),(⟨#[104,111,108,100]⟩:Yb),(⟨#[105,102]⟩:Yb),(⟨#[105,110,116]⟩:Yb),(⟨#[105,110,116,111]⟩:Yb),(⟨#[108,101,97,115,116]⟩:Yb),(⟨#[108,101,118,101,108]⟩:Yb),(⟨#[108,105,102,111]⟩:Yb),(⟨#[108,105,110,107]⟩:Yb),(⟨#[108,111,99,97,108]⟩:Yb),(⟨#[109,97,120]⟩:Yb),(⟨#[109,105,110]⟩:Yb),(⟨#[109,111,100,101,108]⟩:Yb),(⟨#[110,111,116]⟩:Yb),(⟨#[110,111,119]⟩:Yb),(⟨#[111,98,115,101,114,118,101]⟩:Yb),(⟨#[111,114]⟩:Yb),(⟨#[112,97,114,97,109]⟩:Yb),(⟨#[112,114,101,101,109,112,116]⟩:Yb),(⟨#[112,114,105,111]⟩:Yb),(⟨#[112,117,116]⟩:Yb),(⟨#[113,117,101,117,101]⟩:Yb),(⟨#[114,101,108,101,97,115,101]⟩:Yb),(⟨#[114,101,115,111,117,114,99,101]⟩:Yb),(⟨#[114,105,100,101]⟩:Yb),(⟨#[114,111,117,116,105,110,101]⟩:Yb),(⟨#[115,101,105,122,101]⟩:Yb),(⟨#[115,101,110,100]⟩:Yb),(⟨#[115,101,116]⟩:Yb),(⟨#[115,104,105,102,116]⟩:Yb),(⟨#[115,105,103,110,97,108]⟩:Yb),(⟨#[115,105,116,101]⟩:Yb),(⟨#[115,105,122,101]⟩:Yb),(⟨#[115,112,97,119,110]⟩:Yb),(⟨#[115,116,97,114,116]⟩:Yb),(⟨#[115,116,111,112]⟩:Yb),(⟨#[115,116,111,114,101]⟩:Yb),(⟨#[115,116,114,101,97,109]⟩:Yb),(⟨#[115,117,109]⟩:Yb),(⟨#[116,97,98,108,101]⟩:Yb),(⟨#[116,97,108,108,121]⟩:Yb),(⟨#[116,105,99,107,115]⟩:Yb),(⟨#[116,105,109,101]⟩:Yb),(⟨#[116,114,117,101]⟩:Yb),(⟨#[117,110,105,102,111,114,109]⟩:Yb),(⟨#[117,110,116,105,108]⟩:Yb),(⟨#[117,112]⟩:Yb),(⟨#[118,97,114]⟩:Yb),(⟨#[119,97,105,116]⟩:Yb),(⟨#[119,97,105,116,105,110,103]⟩:Yb),(⟨#[119,104,105,108,101]⟩:Yb)])
def W3:Option (List Yb):=Afk L
def Brb:Fs:=E0 (λ(x:List Yb)=>lv (.t9 x)) 242 (W3 L) λr h=>hF Tryz.func242 (oS []) L (λkk=>eE (Afk L)) h
def Bnm:=CC Tryz.f191
def Bgg(L:Nat):Ba:=oL []
def Beh(a0:List Yb)(a1:Yb)(v:Ef):St:=⟨[(0,lv (.t9 a0)),(1,S a1),(4,I v.1),(5,I v.2)],[],0⟩
def Ue [An A C0](L:Nat)(a0:List Yb)(a1:Yb)(rec:Int->Int->A)(Az:Int)(Aj:Int):A:=
 (lw Aj a0
 (cn ((gD a0 Aj).toList == a1.toList)
 (lf (0,Aj,Aj))
 (rec Az (Cp (Aj+1))))
 (lf (1,Az,Aj)))
def J8(L:Nat)(a0:List Yb)(a1:Yb):Nat->Int->Int->Option C0
 |0,_,_=>none
 |n+1,Az,Aj=>Ue L a0 a1 (J8 L a0 a1 n) Az Aj
theorem Bcv(a0:List Yb)(a1:Yb):LP (EV (Bgg L) L 9 Bnm.u.l.u.l.l) [0,1,4,5] [] (Beh a0 a1) [.ret,.exit 0] (λn v=>J8 L a0 a1 n v.1 v.2) K:=lE (λ_=>rfl) λn v ih=>eE (Ue L a0 a1 (λAz Aj=>re (ih (Az,Aj))) v.1 v.2)
def Uj [An A Int](L:Nat)(o1:Nat×Ef):A:=
 (sl o1.1 [(lf o1.2.1),
 (lf (-1))])
def Aqs [An A Int](a0:List Yb)(a1:Yb):A:=(bd (J8 L a0 a1 L 0 0) λo1=>Uj L o1)
def Ib(a0:List Yb)(a1:Yb):Option Int:=Aqs L a0 a1
def Bgo:Fs:=E2 I 191 cl9 cS (Ib L) λa0 a1 r h=>hF Tryz.func191 (C:=Bgg L) (oS _) L (λkk=>eE ((hq (Bcv L (KA (Bgg L) L 9 Bnm (rl [2,1,2,1]) (KE Tryz.f191 kk)) a0 a1 L (0,0)) λo1=>Uj L o1))) h
def f6 [An A Bool](a0:Yb):A:=
 (bd (W3 L) λr1=>
 (bd (Ib L r1 a0) λr2=>
 (lf (decide (r2>=0)))))
def T7(a0:Yb):Option Bool:=f6 L a0
def Bra:Fs:=E1 B 238 cS (T7 L) λa0 r h=>hF Tryz.func238 (oS [Bgo L,Brb L]) L (λkk=>eE (f6 L a0)) h
def Bnr:=CC Tryz.f221
def Bgj:Ba:=oL [Bq9 L,Bra L]
def Bem(a0:Yb)(v:Ef):St:=⟨[(0,S a0),(2,I v.1),(3,I v.2)],[],0⟩
def M5 [An A C0](a0:Yb)(rec:Int->Int->A)(Aq:Int)(Az:Int):A:=
 (cn (decide (Az<(a0.size:Int)))
 (cn ((if 0<=Az then a0[Int.toNat Az]? else none).isSome)
 (bd (Qz L (C5 (if 0<=Az then a0[Int.toNat Az]? else none))) λr6=>
 (jb (.cn (!r6)
 (.cn ((if 0<=Az then a0[Int.toNat Az]? else none).isSome)
 (.lf ((C5 (if 0<=Az then a0[Int.toNat Az]? else none)) != 95))
 .fl)
 (.lf false)) (λb7=>
 (jb (.cn b7
 (.cn ((if 0<=Az then a0[Int.toNat Az]? else none).isSome)
 (.cn (decide ((C5 (if 0<=Az then a0[Int.toNat Az]? else none))<48))
 (.lf true)
 (.cn ((if 0<=Az then a0[Int.toNat Az]? else none).isSome)
 (.lf (decide ((C5 (if 0<=Az then a0[Int.toNat Az]? else none))>57)))
 .fl))
 .fl)
 (.lf false)) (λb8=>
 (cn b8
 (lf (0,3,Az))
 (rec Aq (Cp (Az+1)))))))))
 fl)
 (lf (1,Aq,Az)))
def Jc(L:Nat)(a0:Yb):Nat->Int->Int->Option C0
 |0,_,_=>none
 |n+1,Aq,Az=>M5 L a0 (Jc L a0 n) Aq Az
theorem Bcz(a0:Yb):LP (EV (Bgj L) L 9 Bnr.w.l.u.l.l) [0,2,3] [] (Bem a0) [.ret,.exit 0] (λn v=>Jc L a0 n v.1 v.2) K:=lE (λ_=>rfl) λn v ih=>eE (M5 L a0 (λAq Az=>re (ih (Aq,Az))) v.1 v.2)
def Se [An A Int](L:Nat)(o9:Nat×Ef):A:=
 (sl o9.1 [(lf o9.2.1),
 (lf 0)])
def Sq [An A Int](a0:Yb)(nx1:A):A:=
 (jp (.cn (decide ((a0.size:Int)<1))
 (.lf true)
 (.lf (decide ((a0.size:Int)>24)))) (λb1=>
 (jb (.cn b1
 (.lf true)
 (.cn ((if 0<=0 then a0[Int.toNat 0]? else none).isSome)
 (.bd (Qz L (C5 (if 0<=0 then a0[Int.toNat 0]? else none))) λr3=>
 (.lf (!r3)))
 .fl)) (λb2=>
 (jb (.cn b2
 (.lf true)
 (.bd (T7 L a0) λr5=>
 (.lf r5))) (λb4=>
 (cn b4
 (lf 3)
 nx1)))))))
def Anm [An A Int](a0:Yb):A:=Sq L a0 (bd (Jc L a0 L 0 0) λo9=>Se L o9)
def Ut(a0:Yb):Option Int:=Anm L a0
def Bmg:Fs:=E1 I 221 cS (Ut L) λa0 r h=>hF Tryz.func221 (C:=Bgj L) (oS _) L (λkk=>eE (Sq L a0 (hq (Bcz L (KA (Bgj L) L 9 Bnr (rl [4,1,2,1]) (KE Tryz.f221 kk)) a0 L (0,0)) λo9=>Se L o9))) h
def A2g(F:Aa->Bool->Option Int):Prop:=∀y0 y1 r,F y0 y1=some r->Ho Tryz.prog 187 [Ay.en y0,cB.en y1] I r
def Yt:=CC Tryz.f187
def Acu(Bb:Aa->Bool->Option Int)(L:Nat):Ba:=(orc 187 (A2 I Ay cB Bb) (oL [Bmc L,Bmd L,Bme L,Bmf L,Bmg L]))
theorem Bst(Bb:Aa->Bool->Option Int)(A6v:A2g Bb)(L:Nat):B8 Tryz.prog (Acu Bb L):=(B5 (a2 _ A6v) (oS [Bmc L,Bmd L,Bme L,Bmf L,Bmg L]))
def Bec(a1:Bool)(a0:Aa)(v:Ef):St:=⟨[(0,.any),(1,B a1),zq9,(4,I v.1),(5,.any),(6,.any),(7,.any),(8,.any),(9,.any),(10,I v.2)],[(2,(Bm a0))],0⟩
def Uf [An A C0](Bb:Aa->Bool->Option Int)(L:Nat)(a1:Bool)(a0:Aa)(rec:Int->Int->A)(Aq:Int)(Az:Int):A:=
 (lw Az a0.aQ
 (bd (Bb (Aa.cp (gD a0.aQ Az)) a1) λr22=>
 (cn (r22 != 0)
 (lf (0,r22,Az))
 (rec Aq (Cp (Az+1)))))
 (lf (1,Aq,Az)))
def I3(Bb:Aa->Bool->Option Int)(L:Nat)(a1:Bool)(a0:Aa):Nat->Int->Int->Option C0
 |0,_,_=>none
 |n+1,Aq,Az=>Uf Bb L a1 a0 (I3 Bb L a1 a0 n) Aq Az
theorem Bcp(Bb:Aa->Bool->Option Int)(L:Nat)(K:De)(a1:Bool)(a0:Aa):LP (EV (Acu Bb L) L 9 Yt.x.x.u.l.u.l.l) [0,1,2,4,5,6,7,8,9,10] [2] (Bec a1 a0) [.ret,.exit 0] (λn v=>I3 Bb L a1 a0 n v.1 v.2) K:=lE (λ_=>rfl) λn v ih=>eE (Uf Bb L a1 a0 (λAq Az=>re (ih (Aq,Az))) v.1 v.2)
def A3f(a1:Bool)(b3:Bool)(a0:Aa):St:=⟨[(1,B a1),zq9,(4,I 0),(7,B b3)],[(2,(Bm a0))],0⟩
def A2y(Bb:Aa->Bool->Option Int)(L:Nat)(kk:Hf):De:=(KE Tryz.f187 kk)
def Uk [An A Int](Bb:Aa->Bool->Option Int)(L:Nat)(o23:Nat×Ef):A:=
 (sl o23.1 [(lf o23.2.1),
 (lf 0)])
def Un [An A Int](Bb:Aa->Bool->Option Int)(L:Nat)(a1:Bool)(b3:Bool)(a0:Aa)(nx1:A):A:=
 (jb (.cn b3
 (.bd (Ut L a0.aD) λr20=>
 (.lf (r20 != 0)))
 (.lf false)) (λb19=>
 (cn b19
 (bd (Ut L a0.aD) λr21=>
 (lf r21))
 nx1)))
def l6 [An A Int](Bb:Aa->Bool->Option Int)(L:Nat)(a1:Bool)(b3:Bool)(a0:Aa):A:=Un Bb L a1 b3 a0 (bd (I3 Bb L a1 a0 L 0 0) λo23=>Uk Bb L o23)
theorem Bak(Bb:Aa->Bool->Option Int)(L:Nat)(kk:Hf)(a1:Bool)(b3:Bool)(a0:Aa):EV (Acu Bb L) L 9 Yt.x.x (A3f a1 b3 a0) (A2y Bb L kk)=ob (l6 Bb L a1 b3 a0) (kQ I kk):=eE (Un Bb L a1 b3 a0 (hq (Bcp Bb L (KA (Acu Bb L) L 9 Yt (rl [18,1,2,1]) (KE Tryz.f187 kk)) a1 a0 L (0,0)) λo23=>Uk Bb L o23))
def Aqj(a1:Bool)(b3:Bool)(b5:Bool)(a0:Aa):St:=⟨[(1,B a1),zq9,(4,I 0),(7,B b3),(8,B b5)],[(2,(Bm a0))],0⟩
def Aqa(Bb:Aa->Bool->Option Int)(L:Nat)(kk:Hf):De:=(KE Tryz.f187 kk)
def sx_R09_node_3 [An A Int](Bb:Aa->Bool->Option Int)(L:Nat)(a1:Bool)(b3:Bool)(b5:Bool)(a0:Aa)(nx4:Bool->Bool->Aa->A):A:=
 (cn (a0.Op == 1)
 (bd (Aje L a0.N) λr12=>
 (cn (!r12)
 (lf 2)
 (cn (a0.Op == 2)
 (cn (a0.N != 0)
 (cn (a0.N != 1)
 (lf 2)
 (cn b5
 (cn (decide (a0.N<0))
 (lf 2)
 (bd (K8 L a0.Op) λr13=>
 (cn (decide (a0.N>r13))
 (lf 2)
 (nx4 a1 b3 a0))))
 (nx4 a1 b3 a0)))
 (cn b5
 (cn (decide (a0.N<0))
 (lf 2)
 (bd (K8 L a0.Op) λr14=>
 (cn (decide (a0.N>r14))
 (lf 2)
 (nx4 a1 b3 a0))))
 (nx4 a1 b3 a0)))
 (cn b5
 (cn (decide (a0.N<0))
 (lf 2)
 (bd (K8 L a0.Op) λr15=>
 (cn (decide (a0.N>r15))
 (lf 2)
 (nx4 a1 b3 a0))))
 (nx4 a1 b3 a0)))))
 (cn (a0.Op == 2)
 (cn (a0.N != 0)
 (cn (a0.N != 1)
 (lf 2)
 (cn b5
 (cn (decide (a0.N<0))
 (lf 2)
 (bd (K8 L a0.Op) λr16=>
 (cn (decide (a0.N>r16))
 (lf 2)
 (nx4 a1 b3 a0))))
 (nx4 a1 b3 a0)))
 (cn b5
 (cn (decide (a0.N<0))
 (lf 2)
 (bd (K8 L a0.Op) λr17=>
 (cn (decide (a0.N>r17))
 (lf 2)
 (nx4 a1 b3 a0))))
 (nx4 a1 b3 a0)))
 (cn b5
 (cn (decide (a0.N<0))
 (lf 2)
 (bd (K8 L a0.Op) λr18=>
 (cn (decide (a0.N>r18))
 (lf 2)
 (nx4 a1 b3 a0))))
 (nx4 a1 b3 a0))))
def l5 [An A Int](Bb:Aa->Bool->Option Int)(L:Nat)(a1:Bool)(b3:Bool)(b5:Bool)(a0:Aa):A:=sx_R09_node_3 Bb L a1 b3 b5 a0 (λa1 b3 a0=>l6 Bb L a1 b3 a0)
theorem Bav(Bb:Aa->Bool->Option Int)(L:Nat)(kk:Hf)(a1:Bool)(b3:Bool)(b5:Bool)(a0:Aa)(z4:EC):EV (Acu Bb L) L 9 (EC.put (rl [2]) z4 Yt.x.w.u) (Aqj a1 b3 b5 a0) (Aqa Bb L kk)= @sx_R09_node_3 Prop (anP (kQ I kk)) Bb L a1 b3 b5 a0 (λa1 b3 a0=>EV (Acu Bb L) L 9 z4 (A3f a1 b3 a0) (A2y Bb L kk)):=by kernel_rfl
theorem Baj(Bb:Aa->Bool->Option Int)(L:Nat)(kk:Hf)(a1:Bool)(b3:Bool)(b5:Bool)(a0:Aa):EV (Acu Bb L) L 9 Yt.x.w.u (Aqj a1 b3 b5 a0) (Aqa Bb L kk)=ob (l5 Bb L a1 b3 b5 a0) (kQ I kk):=Eq.trans (b:=EV (Acu Bb L) L 9 (EC.put (rl [2]) Yt.x.x Yt.x.w.u) (Aqj a1 b3 b5 a0) (Aqa Bb L kk)) (by kernel_rfl) ((Bav Bb L kk a1 b3 b5 a0 Yt.x.x).trans (eE (sx_R09_node_3 Bb L a1 b3 b5 a0 (λa1 b3 a0=>re (Bak Bb L kk a1 b3 a0)))))
def Aqi(a1:Bool)(r1:Int)(b2:Bool)(b3:Bool)(b5:Bool)(b8:Bool)(a0:Aa):St:=⟨[(1,B a1),zq9,(4,I 0),(5,I r1),(6,B b2),(7,B b3),(8,B b5),(9,B b8)],[(2,(Bm a0))],0⟩
def Ap9(Bb:Aa->Bool->Option Int)(L:Nat)(kk:Hf):De:=(KE Tryz.f187 kk)
def sx_R09_node_2 [An A Int](Bb:Aa->Bool->Option Int)(L:Nat)(a1:Bool)(r1:Int)(b2:Bool)(b3:Bool)(b5:Bool)(b8:Bool)(a0:Aa)(nx3:Bool->Bool->Bool->Aa->A):A:=
 (jp (.cn (!b2)
 (.lf true)
 (.cn (!b3)
 (.lf (!(a0.aD.toList == (⟨#[]⟩:Yb).toList)))
 (.lf false))) (λb9=>
 (jp (.cn b9
 (.lf true)
 (.cn (!b8)
 (.lf (a0.N != 0))
 (.lf false))) (λb10=>
 (jp (.cn b10
 (.lf true)
 (.lf ((a0.aQ.length:Int) != r1))) (λb11=>
 (cn b11
 (lf 1)
 (nx3 a1 b3 b5 a0))))))))
def l4 [An A Int](Bb:Aa->Bool->Option Int)(L:Nat)(a1:Bool)(r1:Int)(b2:Bool)(b3:Bool)(b5:Bool)(b8:Bool)(a0:Aa):A:=sx_R09_node_2 Bb L a1 r1 b2 b3 b5 b8 a0 (λa1 b3 b5 a0=>l5 Bb L a1 b3 b5 a0)
theorem Bau(Bb:Aa->Bool->Option Int)(L:Nat)(kk:Hf)(a1:Bool)(r1:Int)(b2:Bool)(b3:Bool)(b5:Bool)(b8:Bool)(a0:Aa)(z3:EC):EV (Acu Bb L) L 9 (EC.put (rl [2]) z3 Yt.x.w) (Aqi a1 r1 b2 b3 b5 b8 a0) (Ap9 Bb L kk)= @sx_R09_node_2 Prop (anP (kQ I kk)) Bb L a1 r1 b2 b3 b5 b8 a0 (λa1 b3 b5 a0=>EV (Acu Bb L) L 9 z3 (Aqj a1 b3 b5 a0) (Aqa Bb L kk)):=by kernel_rfl
theorem Bai(Bb:Aa->Bool->Option Int)(L:Nat)(kk:Hf)(a1:Bool)(r1:Int)(b2:Bool)(b3:Bool)(b5:Bool)(b8:Bool)(a0:Aa):EV (Acu Bb L) L 9 Yt.x.w (Aqi a1 r1 b2 b3 b5 b8 a0) (Ap9 Bb L kk)=ob (l4 Bb L a1 r1 b2 b3 b5 b8 a0) (kQ I kk):=Eq.trans (b:=EV (Acu Bb L) L 9 (EC.put (rl [2]) Yt.x.w.u Yt.x.w) (Aqi a1 r1 b2 b3 b5 b8 a0) (Ap9 Bb L kk)) (by kernel_rfl) ((Bau Bb L kk a1 r1 b2 b3 b5 b8 a0 Yt.x.w.u).trans (eE (sx_R09_node_2 Bb L a1 r1 b2 b3 b5 b8 a0 (λa1 b3 b5 a0=>re (Baj Bb L kk a1 b3 b5 a0)))))
def Aqh(a1:Bool)(r1:Int)(b2:Bool)(b3:Bool)(a0:Aa):St:=⟨[(1,B a1),zq9,(4,I 0),(5,I r1),(6,B b2),(7,B b3)],[(2,(Bm a0))],0⟩
def Ap8(Bb:Aa->Bool->Option Int)(L:Nat)(kk:Hf):De:=(KE Tryz.f187 kk)
def sx_R09_node_1 [An A Int](Bb:Aa->Bool->Option Int)(L:Nat)(a1:Bool)(r1:Int)(b2:Bool)(b3:Bool)(a0:Aa)(nx2:Bool->Int->Bool->Bool->Bool->Bool->Aa->A):A:=
 (jb (.cn a1
 (.bd (Q0 L a0.Op) λr6=>
 (.cn r6
 (.lf true)
 (.cn (a0.Op == 25)
 (.lf true)
 (.lf (a0.Op == 26)))))
 (.lf false)) (λb5=>
 (jp (.cn (a0.Op == 1)
 (.lf true)
 (.lf (a0.Op == 2))) (λb7=>
 (jp (.cn b7
 (.lf true)
 (.lf b5)) (λb8=>
 (nx2 a1 r1 b2 b3 b5 b8 a0)))))))
def k7 [An A Int](Bb:Aa->Bool->Option Int)(L:Nat)(a1:Bool)(r1:Int)(b2:Bool)(b3:Bool)(a0:Aa):A:=sx_R09_node_1 Bb L a1 r1 b2 b3 a0 (λa1 r1 b2 b3 b5 b8 a0=>l4 Bb L a1 r1 b2 b3 b5 b8 a0)
theorem Bat(Bb:Aa->Bool->Option Int)(L:Nat)(kk:Hf)(a1:Bool)(r1:Int)(b2:Bool)(b3:Bool)(a0:Aa)(z2:EC):EV (Acu Bb L) L 9 (EC.put (rl [4]) z2 Yt.x) (Aqh a1 r1 b2 b3 a0) (Ap8 Bb L kk)= @sx_R09_node_1 Prop (anP (kQ I kk)) Bb L a1 r1 b2 b3 a0 (λa1 r1 b2 b3 b5 b8 a0=>EV (Acu Bb L) L 9 z2 (Aqi a1 r1 b2 b3 b5 b8 a0) (Ap9 Bb L kk)):=by kernel_rfl
theorem Bah(Bb:Aa->Bool->Option Int)(L:Nat)(kk:Hf)(a1:Bool)(r1:Int)(b2:Bool)(b3:Bool)(a0:Aa):EV (Acu Bb L) L 9 Yt.x (Aqh a1 r1 b2 b3 a0) (Ap8 Bb L kk)=ob (k7 Bb L a1 r1 b2 b3 a0) (kQ I kk):=Eq.trans (b:=EV (Acu Bb L) L 9 (EC.put (rl [4]) Yt.x.w Yt.x) (Aqh a1 r1 b2 b3 a0) (Ap8 Bb L kk)) (by kernel_rfl) ((Bat Bb L kk a1 r1 b2 b3 a0 Yt.x.w).trans (eE (sx_R09_node_1 Bb L a1 r1 b2 b3 a0 (λa1 r1 b2 b3 b5 b8 a0=>re (Bai Bb L kk a1 r1 b2 b3 b5 b8 a0)))))
def sx_R09_node_0 [An A Int](Bb:Aa->Bool->Option Int)(L:Nat)(a0:Aa)(a1:Bool)(nx1:Bool->Int->Bool->Bool->Aa->A):A:=
 (bd (Yy L a0.Op) λr1=>
 (jp (.cn (decide (r1>=0))
 (.cn a1
 (.cn (a0.Op != 3)
 (.lf true)
 (.cn (!a1)
 (.lf (decide (a0.Op<=24)))
 (.lf false)))
 (.cn (!a1)
 (.lf (decide (a0.Op<=24)))
 (.lf false)))
 (.lf false)) (λb2=>
 (jb (.cn (!a1)
 (.cn (a0.Op == 3)
 (.lf true)
 (.bd (Q0 L a0.Op) λr4=>
 (.lf r4)))
 (.lf false)) (λb3=>
 (nx1 a1 r1 b2 b3 a0))))))
def Aqt [An A Int](Bb:Aa->Bool->Option Int)(L:Nat)(a0:Aa)(a1:Bool):A:=sx_R09_node_0 Bb L a0 a1 (λa1 r1 b2 b3 a0=>k7 Bb L a1 r1 b2 b3 a0)
theorem Bas(Bb:Aa->Bool->Option Int)(L:Nat)(kk:Hf)(a0:Aa)(a1:Bool)(z1:EC):EW (Acu Bb L) L 9 (RS Tryz.f187) (EC.put (rl [8]) z1 Yt) [.agg (Bm a0),B a1] kk= @sx_R09_node_0 Prop (anP (kQ I kk)) Bb L a0 a1 (λa1 r1 b2 b3 a0=>EV (Acu Bb L) L 9 z1 (Aqh a1 r1 b2 b3 a0) (Ap8 Bb L kk)):=by kernel_rfl
def Ah7(Bb:Aa->Bool->Option Int)(L:Nat)(a0:Aa)(a1:Bool):Option Int:=Aqt Bb L a0 a1
theorem Brm(Bb:Aa->Bool->Option Int)(A6v:A2g Bb)(L:Nat):A2g (Ah7 Bb L):=λa0 a1 r h=>hF Tryz.func187 (Bst Bb A6v L) L (λkk=>Eq.trans (b:=EW (Acu Bb L) L 9 (RS Tryz.f187) (EC.put (rl [8]) Yt.x Yt) [.agg (Bm a0),B a1] kk) (by kernel_rfl) ((Bas Bb L kk a0 a1 Yt.x).trans (eE (sx_R09_node_0 Bb L a0 a1 (λa1 r1 b2 b3 a0=>re (Bah Bb L kk a1 r1 b2 b3 a0)))))) h
def J7:Nat->Aa->Bool->Option Int
 |0,_,_=>none
 |L+1,a0,a1=>Ah7 (J7 L) L a0 a1
theorem Ba9(L:Nat):A2g (J7 L):=by
 induction L with
 |zero=>exact λ_ _ _ h=>(by cases h)
 |succ L ih=>
  have i187:=ih;exact Brm (J7 L) i187 L
def Bqw(L:Nat):Fs:=E2 I 187 Ay cB (J7 L) (Ba9 L)
def Afn [An A Int](a0:Aa)(a1:Bool):A:=
 (bd (Jz L (Aa.cp a0)) λr1=>
 (cn (decide (r1>60))
 (lf 6)
 (bd (Jy L (Aa.cp a0)) λr2=>
 (cn (decide (r2>12))
 (lf 11)
 (bd (J7 L (Aa.cp a0) a1) λr3=>
 (lf r3))))))
def Y0(a0:Aa)(a1:Bool):Option Int:=Afn L a0 a1
def X97:Fs:=E2 I 97 Ay cB (Y0 L) λa0 a1 r h=>hF Tryz.func97 (oS [Bqu L,Bqv L,Bqw L]) L (λkk=>eE (Afn L a0 a1)) h
def Afm [An A Int](a0:Aa):A:=
 (bd (Y0 L (Aa.cp a0) false) λr1=>
 (lf r1))
def Yz(a0:Aa):Option Int:=Afm L a0
def X62:Fs:=E1 I 62 Ay (Yz L) λa0 r h=>hF Tryz.func62 (oS [X97 L]) L (λkk=>eE (Afm L a0)) h
def As6:=CC Tryz.f190
def Aqq(L:Nat):Ba:=oL []
def Bof:(List (List Yb))->Prop:=λx=>kk ((λ(x:List (List Yb))=>lv (.t31 x)) x)
def Bed(a0:Ab)(v:Jq):St:=⟨[(0,.any),Yq,A8k,A8l,(4,I v.1),(5,.any),(6,.any),(7,.any),(8,.any)],[(1,(Af a0)),(9,[.aO true (.t9 v.2),zq5,zq5,zq5,zq5,zq5,zq5,zq5,zq5,zq5])],0⟩
def R2 [An A (Nat×Jq)](L:Nat)(a0:Ab)(rec:Int->List Yb->A)(Aq:Int)(D5:List Yb):A:=
 (cn (decide (Aq<(a0.aX.length:Int)))
 (gq ((0:Int)<=0)
 (gq (0<((10:Nat):Int))
 (gi Aq a0.aX
 (gq ((D5.length+ [(gD a0.aX Aq).aD].length)*16<=140737488355328)
 (gq (D5.length+ [(gD a0.aX Aq).aD].length<=maxLen)
 (gq ((0:Int)<=0)
 (gq (0<((10:Nat):Int))
 (rec (Cp (Aq+1)) (D5++ [(gD a0.aX Aq).aD])))))))))
 (lf (0,Aq,D5)))
def Jg(L:Nat)(a0:Ab):Nat->Int->List Yb->Option (Nat×Jq)
 |0,_,_=>none
 |n+1,Aq,D5=>R2 L a0 (Jg L a0 n) Aq D5
theorem Bcq(a0:Ab):LP (EV (Aqq L) L 9 As6.w.l.u.l.l) [0,1,2,3,4,5,6,7,8] [1,9] (Bed a0) [.exit 0] (λn v=>Jg L a0 n v.1 v.2) K:=lE (λ_=>rfl) λn v ih=>eE (R2 L a0 (λAq D5=>re (ih (Aq,D5))) v.1 v.2)
def Bee(a0:Ab)(o1:Nat×Jq)(v:Jq):St:=⟨[(0,.any),Yq,A8k,A8l,(4,.any),(5,I v.1),(6,.any),(7,.any),(8,.any)],[(1,(Af a0)),(9,[.aO true (.t9 o1.2.2),.aO true (.t9 v.2),zq5,zq5,zq5,zq5,zq5,zq5,zq5,zq5])],0⟩
def R3 [An A (Nat×Jq)](L:Nat)(a0:Ab)(o1:Nat×Jq)(rec:Int->List Yb->A)(Gb:Int)(Ol:List Yb):A:=
 (cn (decide (Gb<(a0.aI.length:Int)))
 (gq ((0:Int)<=1)
 (gq (1<((10:Nat):Int))
 (gi Gb a0.aI
 (gq ((Ol.length+ [(gD a0.aI Gb).aD].length)*16<=140737488355328)
 (gq (Ol.length+ [(gD a0.aI Gb).aD].length<=maxLen)
 (gq ((0:Int)<=1)
 (gq (1<((10:Nat):Int))
 (rec (Cp (Gb+1)) (Ol++ [(gD a0.aI Gb).aD])))))))))
 (lf (0,Gb,Ol)))
def Jh(L:Nat)(a0:Ab)(o1:Nat×Jq):Nat->Int->List Yb->Option (Nat×Jq)
 |0,_,_=>none
 |n+1,Gb,Ol=>R3 L a0 o1 (Jh L a0 o1 n) Gb Ol
theorem Bcr(a0:Ab)(o1:Nat×Jq):LP (EV (Aqq L) L 9 As6.w.u.l.u.l.l) [0,1,2,3,4,5,6,7,8] [1,9] (Bee a0 o1) [.exit 2] (λn v=>Jh L a0 o1 n v.1 v.2) K:=lE (λ_=>rfl) λn v ih=>eE (R3 L a0 o1 (λGb Ol=>re (ih (Gb,Ol))) v.1 v.2)
def A3g(a0:Ab)(o1:Nat×Jq)(o2:Nat×Jq)(v:Jq):St:=⟨[(0,.any),Yq,A8k,A8l,(4,.any),(5,.any),(6,I v.1),(7,.any),(8,.any)],[(1,(Af a0)),(9,[.aO true (.t9 o1.2.2),.aO true (.t9 o2.2.2),.aO true (.t9 v.2),zq5,zq5,zq5,zq5,zq5,zq5,zq5])],0⟩
def R4 [An A (Nat×Jq)](L:Nat)(a0:Ab)(o1:Nat×Jq)(o2:Nat×Jq)(rec:Int->List Yb->A)(Qu:Int)(Gd:List Yb):A:=
 (cn (decide (Qu<(a0.aJ.length:Int)))
 (gq ((0:Int)<=2)
 (gq (2<((10:Nat):Int))
 (gi Qu a0.aJ
 (gq ((Gd.length+ [(gD a0.aJ Qu).aD].length)*16<=140737488355328)
 (gq (Gd.length+ [(gD a0.aJ Qu).aD].length<=maxLen)
 (gq ((0:Int)<=2)
 (gq (2<((10:Nat):Int))
 (rec (Cp (Qu+1)) (Gd++ [(gD a0.aJ Qu).aD])))))))))
 (lf (0,Qu,Gd)))
def Ji(L:Nat)(a0:Ab)(o1:Nat×Jq)(o2:Nat×Jq):Nat->Int->List Yb->Option (Nat×Jq)
 |0,_,_=>none
 |n+1,Qu,Gd=>R4 L a0 o1 o2 (Ji L a0 o1 o2 n) Qu Gd
theorem Bcs(a0:Ab)(o1:Nat×Jq)(o2:Nat×Jq):LP (EV (Aqq L) L 9 As6.x.l.u.l.l) [0,1,2,3,4,5,6,7,8] [1,9] (A3g a0 o1 o2) [.exit 4] (λn v=>Ji L a0 o1 o2 n v.1 v.2) K:=lE (λ_=>rfl) λn v ih=>eE (R4 L a0 o1 o2 (λQu Gd=>re (ih (Qu,Gd))) v.1 v.2)
def Bef(a0:Ab)(o1:Nat×Jq)(o2:Nat×Jq)(o3:Nat×Jq)(v:Jq):St:=⟨[(0,.any),Yq,A8k,A8l,(4,.any),(5,.any),(6,.any),(7,I v.1),(8,.any)],[(1,(Af a0)),(9,[.aO true (.t9 o1.2.2),.aO true (.t9 o2.2.2),.aO true (.t9 o3.2.2),.aO true (.t9 v.2),zq5,zq5,zq5,zq5,zq5,zq5])],0⟩
def R5 [An A (Nat×Jq)](L:Nat)(a0:Ab)(o1:Nat×Jq)(o2:Nat×Jq)(o3:Nat×Jq)(rec:Int->List Yb->A)(Qv:Int)(Ge:List Yb):A:=
 (cn (decide (Qv<(a0.aZ.length:Int)))
 (gq ((0:Int)<=3)
 (gq (3<((10:Nat):Int))
 (gi Qv a0.aZ
 (gq ((Ge.length+ [(gD a0.aZ Qv).aD].length)*16<=140737488355328)
 (gq (Ge.length+ [(gD a0.aZ Qv).aD].length<=maxLen)
 (gq ((0:Int)<=3)
 (gq (3<((10:Nat):Int))
 (rec (Cp (Qv+1)) (Ge++ [(gD a0.aZ Qv).aD])))))))))
 (lf (0,Qv,Ge)))
def Jj(L:Nat)(a0:Ab)(o1:Nat×Jq)(o2:Nat×Jq)(o3:Nat×Jq):Nat->Int->List Yb->Option (Nat×Jq)
 |0,_,_=>none
 |n+1,Qv,Ge=>R5 L a0 o1 o2 o3 (Jj L a0 o1 o2 o3 n) Qv Ge
theorem Bct(a0:Ab)(o1:Nat×Jq)(o2:Nat×Jq)(o3:Nat×Jq):LP (EV (Aqq L) L 9 As6.x.u.l.u.l.l) [0,1,2,3,4,5,6,7,8] [1,9] (Bef a0 o1 o2 o3) [.exit 6] (λn v=>Jj L a0 o1 o2 o3 n v.1 v.2) K:=lE (λ_=>rfl) λn v ih=>eE (R5 L a0 o1 o2 o3 (λQv Ge=>re (ih (Qv,Ge))) v.1 v.2)
def Beg(a0:Ab)(o1:Nat×Jq)(o2:Nat×Jq)(o3:Nat×Jq)(o4:Nat×Jq)(v:Jq):St:=⟨[(0,.any),Yq,A8k,A8l,(4,.any),(5,.any),(6,.any),(7,.any),(8,I v.1)],[(1,(Af a0)),(9,[.aO true (.t9 o1.2.2),.aO true (.t9 o2.2.2),.aO true (.t9 o3.2.2),.aO true (.t9 o4.2.2),lv (.t9 a0.aV),lv (.t9 a0.aR),lv (.t9 a0.aS),lv (.t9 a0.aW),lv (.t9 a0.aT),.aO true (.t9 v.2)])],0⟩
def R6 [An A (Nat×Jq)](L:Nat)(a0:Ab)(o1:Nat×Jq)(o2:Nat×Jq)(o3:Nat×Jq)(o4:Nat×Jq)(rec:Int->List Yb->A)(Ass:Int)(Om:List Yb):A:=
 (cn (decide (Ass<(a0.aG.length:Int)))
 (gq ((0:Int)<=9)
 (gq (9<((10:Nat):Int))
 (gi Ass a0.aG
 (gq ((Om.length+ [(gD a0.aG Ass).aD].length)*16<=140737488355328)
 (gq (Om.length+ [(gD a0.aG Ass).aD].length<=maxLen)
 (gq ((0:Int)<=9)
 (gq (9<((10:Nat):Int))
 (rec (Cp (Ass+1)) (Om++ [(gD a0.aG Ass).aD])))))))))
 (lf (0,Ass,Om)))
def Jk(L:Nat)(a0:Ab)(o1:Nat×Jq)(o2:Nat×Jq)(o3:Nat×Jq)(o4:Nat×Jq):Nat->Int->List Yb->Option (Nat×Jq)
 |0,_,_=>none
 |n+1,Ass,Om=>R6 L a0 o1 o2 o3 o4 (Jk L a0 o1 o2 o3 o4 n) Ass Om
theorem Bcu(a0:Ab)(o1:Nat×Jq)(o2:Nat×Jq)(o3:Nat×Jq)(o4:Nat×Jq):LP (EV (Aqq L) L 9 As6.x.x.w.u.l.u.l.l) [0,1,2,3,4,5,6,7,8] [1,9] (Beg a0 o1 o2 o3 o4) [.exit 8] (λn v=>Jk L a0 o1 o2 o3 o4 n v.1 v.2) K:=lE (λ_=>rfl) λn v ih=>eE (R6 L a0 o1 o2 o3 o4 (λAss Om=>re (ih (Ass,Om))) v.1 v.2)
def Sj [An A (List (List Yb))](L:Nat)(o1:Nat×Jq)(o2:Nat×Jq)(o3:Nat×Jq)(o4:Nat×Jq)(a0:Ab)(o5:Nat×Jq):A:=
 (sl o5.1 [(lf [o1.2.2,o2.2.2,o3.2.2,o4.2.2,a0.aV,a0.aR,a0.aS,a0.aW,a0.aT,o5.2.2])])
def Sw [An A (List (List Yb))](L:Nat)(o1:Nat×Jq)(o2:Nat×Jq)(o3:Nat×Jq)(a0:Ab)(o4:Nat×Jq)(nx5:(Nat×Jq)->(Nat×Jq)->(Nat×Jq)->(Nat×Jq)->A):A:=
 (sl o4.1 [(gq ((0:Int)<=4)
 (gq (4<((10:Nat):Int))
 (gq ((0:Int)<=5)
 (gq (5<((10:Nat):Int))
 (gq ((0:Int)<=6)
 (gq (6<((10:Nat):Int))
 (gq ((0:Int)<=7)
 (gq (7<((10:Nat):Int))
 (gq ((0:Int)<=8)
 (gq (8<((10:Nat):Int))
 (nx5 o1 o2 o3 o4)))))))))))])
def Xz [An A (List (List Yb))](o1:Nat×Jq)(o2:Nat×Jq)(o3:Nat×Jq)(a0:Ab)(o4:Nat×Jq):A:=Sw L o1 o2 o3 a0 o4 (λo1 o2 o3 o4=>bd (Jk L a0 o1 o2 o3 o4 L 0 []) λo5=>Sj L o1 o2 o3 o4 a0 o5)
def Sv [An A (List (List Yb))](L:Nat)(o1:Nat×Jq)(o2:Nat×Jq)(a0:Ab)(o3:Nat×Jq)(nx4:(Nat×Jq)->(Nat×Jq)->(Nat×Jq)->A):A:=
 (sl o3.1 [(nx4 o1 o2 o3)])
def Si [An A (List (List Yb))](o1:Nat×Jq)(o2:Nat×Jq)(a0:Ab)(o3:Nat×Jq):A:=Sv L o1 o2 a0 o3 (λo1 o2 o3=>bd (Jj L a0 o1 o2 o3 L 0 []) λo4=>Xz L o1 o2 o3 a0 o4)
def A2s:De:=(KA (Aqq L) L 9 As6 (rl [8,1,2,1]) (KE Tryz.f190 kk))
theorem Bjx(a0:Ab)(o1:Nat×Jq)(o2:Nat×Jq)(o3:Nat×Jq):kX [.exit 4] (A3g a0 o1 o2) (A2s L kk) o3=ob (Si L o1 o2 a0 o3) (Bof kk):=eE (Sv L o1 o2 a0 o3 (λo1 o2 o3=>hq (Bct L (KA (Aqq L) L 9 As6 (rl [10,1,2,1]) (KE Tryz.f190 kk)) a0 o1 o2 o3 L (0,[])) λo4=>Sw L o1 o2 o3 a0 o4 (λo1 o2 o3 o4=>hq (Bcu L (KA (Aqq L) L 9 As6 (rl [22,1,2,1]) (KE Tryz.f190 kk)) a0 o1 o2 o3 o4 L (0,[])) λo5=>Sj L o1 o2 o3 o4 a0 o5)))
def Su [An A (List (List Yb))](L:Nat)(o1:Nat×Jq)(a0:Ab)(o2:Nat×Jq)(nx3:(Nat×Jq)->(Nat×Jq)->A):A:=
 (sl o2.1 [(nx3 o1 o2)])
def Xy [An A (List (List Yb))](o1:Nat×Jq)(a0:Ab)(o2:Nat×Jq):A:=Su L o1 a0 o2 (λo1 o2=>bd (Ji L a0 o1 o2 L 0 []) λo3=>Si L o1 o2 a0 o3)
def Ss [An A (List (List Yb))](L:Nat)(a0:Ab)(o1:Nat×Jq)(nx2:(Nat×Jq)->A):A:=
 (sl o1.1 [(nx2 o1)])
def Xx [An A (List (List Yb))](a0:Ab)(o1:Nat×Jq):A:=Ss L a0 o1 (λo1=>bd (Jh L a0 o1 L 0 []) λo2=>Xy L o1 a0 o2)
def Anq [An A (List (List Yb))](a0:Ab):A:=(bd (Jg L a0 L 0 []) λo1=>Xx L a0 o1)
def Uu(a0:Ab):Option (List (List Yb)):=Anq L a0
def Bl7:Fs:=E1 (λ(x:List (List Yb))=>lv (.t31 x)) 190 Cr (Uu L) λa0 r h=>hF Tryz.func190 (C:=Aqq L) (oS _) L (λkk=>eE ((hq (Bcq L (KA (Aqq L) L 9 As6 (rl [4,1,2,1]) (KE Tryz.f190 kk)) a0 L (0,[])) λo1=>Ss L a0 o1 (λo1=>hq (Bcr L (KA (Aqq L) L 9 As6 (rl [6,1,2,1]) (KE Tryz.f190 kk)) a0 o1 L (0,[])) λo2=>Su L o1 a0 o2 (λo1 o2=>ho (Bcs L (A2s L kk) a0 o1 o2 L (0,[])) λo3=>Bjx L kk a0 o1 o2 o3))))) h
def Bmp:=CC Tryz.f104
def Bf4:Ba:=oL [Bl7 L,Bgo L]
def Bdt(a1:Yb)(r1:List (List Yb))(a0:Ab)(v:Yb×Int):St:=⟨[(0,.any),(1,S a1),(2,.any),(4,S v.1),(5,lv (.t31 r1)),(6,.aO true (.t9 [(⟨#[118,97,114]⟩:Yb),(⟨#[114,101,115,111,117,114,99,101]⟩:Yb),(⟨#[115,116,111,114,101]⟩:Yb),(⟨#[98,101,108,116]⟩:Yb),(⟨#[113,117,101,117,101]⟩:Yb),(⟨#[115,116,114,101,97,109]⟩:Yb),(⟨#[116,97,108,108,121]⟩:Yb),(⟨#[108,101,118,101,108]⟩:Yb),(⟨#[99,111,117,110,116]⟩:Yb),(⟨#[114,111,117,116,105,110,101]⟩:Yb)])),(7,I v.2)],[(2,(Af a0))],0⟩
def Ug [An A (Nat×Yb×Int)](a1:Yb)(r1:List (List Yb))(a0:Ab)(rec:Yb->Int->A)(Aq:Yb)(Bj:Int):A:=
 (lw Bj r1
 (bd (Ib L (gD r1 Bj) a1) λr2=>
 (cn (decide (r2>=0))
 (gq (0<=Bj)
 (gq (Bj<(([(⟨#[118,97,114]⟩:Yb),(⟨#[114,101,115,111,117,114,99,101]⟩:Yb),(⟨#[115,116,111,114,101]⟩:Yb),(⟨#[98,101,108,116]⟩:Yb),(⟨#[113,117,101,117,101]⟩:Yb),(⟨#[115,116,114,101,97,109]⟩:Yb),(⟨#[116,97,108,108,121]⟩:Yb),(⟨#[108,101,118,101,108]⟩:Yb),(⟨#[99,111,117,110,116]⟩:Yb),(⟨#[114,111,117,116,105,110,101]⟩:Yb)].length:Nat):Int))
 (lf (0,(([(⟨#[118,97,114]⟩:Yb),(⟨#[114,101,115,111,117,114,99,101]⟩:Yb),(⟨#[115,116,111,114,101]⟩:Yb),(⟨#[98,101,108,116]⟩:Yb),(⟨#[113,117,101,117,101]⟩:Yb),(⟨#[115,116,114,101,97,109]⟩:Yb),(⟨#[116,97,108,108,121]⟩:Yb),(⟨#[108,101,118,101,108]⟩:Yb),(⟨#[99,111,117,110,116]⟩:Yb),(⟨#[114,111,117,116,105,110,101]⟩:Yb)].getD (Int.toNat Bj) default),Bj)))))
 (rec Aq (Cp (Bj+1)))))
 (lf (1,Aq,Bj)))
def J9(L:Nat)(a1:Yb)(r1:List (List Yb))(a0:Ab):Nat->Yb->Int->Option (Nat×Yb×Int)
 |0,_,_=>none
 |n+1,Aq,Bj=>Ug L a1 r1 a0 (J9 L a1 r1 a0 n) Aq Bj
theorem Bb6(a1:Yb)(r1:List (List Yb))(a0:Ab):LP (EV (Bf4 L) L 9 Bmp.w.u.l.u.l.l) [0,1,2,4,5,6,7] [2] (Bdt a1 r1 a0) [.ret,.exit 0] (λn v=>J9 L a1 r1 a0 n v.1 v.2) K:=lE (λ_=>rfl) λn v ih=>eE (Ug L a1 r1 a0 (λAq Bj=>re (ih (Aq,Bj))) v.1 v.2)
def Ul [An A Yb](L:Nat)(o3:Nat×Yb×Int):A:=
 (sl o3.1 [(lf o3.2.1),
 (lf (⟨#[]⟩:Yb))])
def Uo [An A Yb](a0:Ab)(a1:Yb)(nx1:(List (List Yb))->A):A:=
 (bd (Uu L a0) λr1=>
 (nx1 r1))
def Aqu [An A Yb](a0:Ab)(a1:Yb):A:=Uo L a0 a1 (λr1=>bd (J9 L a1 r1 a0 L (⟨#[]⟩:Yb) 0) λo3=>Ul L o3)
def W4(a0:Ab)(a1:Yb):Option Yb:=Aqu L a0 a1
def Blx:Fs:=E2 S 104 Cr cS (W4 L) λa0 a1 r h=>hF Tryz.func104 (C:=Bf4 L) (oS _) L (λkk=>eE (Uo L a0 a1 (λr1=>hq (Bb6 L (KA (Bf4 L) L 9 Bmp (rl [6,1,2,1]) (KE Tryz.f104 kk)) a1 r1 a0 L ((⟨#[]⟩:Yb),0)) λo3=>Ul L o3))) h
def Bns:=CC Tryz.f222
def Bgk(L:Nat):Ba:=oL []
def Ben(a0:List Aw)(a1:Yb)(v:Tu8):St:=⟨[(0,lv (.dG a0)),(1,S a1),(4,I v.1),(5,B v.2.1),(6,I v.2.2)],[],0⟩
def M6 [An A (Nat×Tu8)](L:Nat)(a0:List Aw)(a1:Yb)(rec:Int->Bool->Int->A)(Az:Int)(Aj:Bool)(Bj:Int):A:=
 (cn (decide (Bj>=0))
 (gi Bj a0
 (cn ((gD a0 Bj).aD.toList == a1.toList)
 (gi Bj a0
 (lf (0,(((gD a0 Bj).bL),true,Bj))))
 (rec Az Aj (Cp (Bj-1)))))
 (lf (1,Az,Aj,Bj)))
def Jl(L:Nat)(a0:List Aw)(a1:Yb):Nat->Int->Bool->Int->Option (Nat×Tu8)
 |0,_,_,_=>none
 |n+1,Az,Aj,Bj=>M6 L a0 a1 (Jl L a0 a1 n) Az Aj Bj
theorem Bc0(a0:List Aw)(a1:Yb):LP (EV (Bgk L) L 9 Bns.u.l.u.l.l) [0,1,4,5,6] [] (Ben a0 a1) [.ret,.exit 0] (λn v=>Jl L a0 a1 n v.1 v.2.1 v.2.2) K:=lE (λ_=>rfl) λn v ih=>eE (M6 L a0 a1 (λAz Aj Bj=>re (ih (Az,Aj,Bj))) v.1 v.2.1 v.2.2)
def Sk [An A Tu5](L:Nat)(o1:Nat×Tu8):A:=
 (sl o1.1 [(lf (o1.2.1,o1.2.2.1)),
 (lf (0,false))])
def Anr [An A Tu5](a0:List Aw)(a1:Yb):A:=(bd (Jl L a0 a1 L 0 false (Cp ((a0.length:Int)-1))) λo1=>Sk L o1)
def Y2(a0:List Aw)(a1:Yb):Option Tu5:=Anr L a0 a1
def Bq1:Fs:=E2 (λ(x:Tu5)=>.aY [I x.1,B x.2]) 222 A97 cS (Y2 L) λa0 a1 r h=>hF Tryz.func222 (C:=Bgk L) (oS _) L (λkk=>eE ((hq (Bc0 L (KA (Bgk L) L 9 Bns (rl [2,1,2,1]) (KE Tryz.f222 kk)) a0 a1 L (0,false,(Cp ((a0.length:Int)-1)))) λo1=>Sk L o1))) h
def Bnt:=CC Tryz.f223
def Bgl(L:Nat):Ba:=oL []
def Beo(a0:List Ag)(a1:Yb)(v:Tu8):St:=⟨[(0,lv (.t83 a0)),(1,S a1),(4,I v.1),(5,B v.2.1),(6,I v.2.2)],[],0⟩
def Pt [An A (Nat×Tu8)](L:Nat)(a0:List Ag)(a1:Yb)(rec:Int->Bool->Int->A)(Az:Int)(Aj:Bool)(Bj:Int):A:=
 (lw Bj a0
 (cn ((gD a0 Bj).aD.toList == a1.toList)
 (gi Bj a0
 (lf (0,(((gD a0 Bj).bL),true,Bj))))
 (rec Az Aj (Cp (Bj+1))))
 (lf (1,Az,Aj,Bj)))
def Ie(L:Nat)(a0:List Ag)(a1:Yb):Nat->Int->Bool->Int->Option (Nat×Tu8)
 |0,_,_,_=>none
 |n+1,Az,Aj,Bj=>Pt L a0 a1 (Ie L a0 a1 n) Az Aj Bj
theorem Bc1(a0:List Ag)(a1:Yb):LP (EV (Bgl L) L 9 Bnt.u.l.u.l.l) [0,1,4,5,6] [] (Beo a0 a1) [.ret,.exit 0] (λn v=>Ie L a0 a1 n v.1 v.2.1 v.2.2) K:=lE (λ_=>rfl) λn v ih=>eE (Pt L a0 a1 (λAz Aj Bj=>re (ih (Az,Aj,Bj))) v.1 v.2.1 v.2.2)
def Py [An A Tu5](L:Nat)(o1:Nat×Tu8):A:=
 (sl o1.1 [(lf (o1.2.1,o1.2.2.1)),
 (lf (0,false))])
def Ajn [An A Tu5](a0:List Ag)(a1:Yb):A:=(bd (Ie L a0 a1 L 0 false 0) λo1=>Py L o1)
def Ng(a0:List Ag)(a1:Yb):Option Tu5:=Ajn L a0 a1
def Bq2:Fs:=E2 (λ(x:Tu5)=>.aY [I x.1,B x.2]) 223 Bry cS (Ng L) λa0 a1 r h=>hF Tryz.func223 (C:=Bgl L) (oS _) L (λkk=>eE ((hq (Bc1 L (KA (Bgl L) L 9 Bnt (rl [2,1,2,1]) (KE Tryz.f223 kk)) a0 a1 L (0,false,0)) λo1=>Py L o1))) h
def Aif [An A Tu5](a0:Ao)(a1:Yb):A:=
 (bd (Y2 L a0.aP a1) λr1=>
 (cn (!r1.2)
 (bd (Ng L a0.aF.aX a1) λr2=>
 (cn (!r2.2)
 (bd (Ng L a0.aK a1) λr3=>
 (lf (r3.1,r3.2)))
 (lf (r2.1,r2.2))))
 (cn (!r1.2)
 (bd (Ng L a0.aK a1) λr4=>
 (lf (r4.1,r4.2)))
 (lf (r1.1,r1.2)))))
def Aco(a0:Ao)(a1:Yb):Option Tu5:=Aif L a0 a1
def Bqx:Fs:=E2 (λ(x:Tu5)=>.aY [I x.1,B x.2]) 188 Dy cS (Aco L) λa0 a1 r h=>hF Tryz.func188 (oS [Bq1 L,Bq2 L]) L (λkk=>eE (Aif L a0 a1)) h
def Aig [An A Ef](a0:Ao)(a1:Aa):A:=
 (bd (W4 L a0.aF a1.aD) λr1=>
 (cn (a1.Op == 1)
 (lf (1,0))
 (cn (a1.Op == 2)
 (lf (2,0))
 (cn (a1.Op == 4)
 (lf (3,0))
 (cn (a1.Op == 3)
 (bd (Aco L a0 a1.aD) λr2=>
 (cn (!r2.2)
 (lf (0,5))
 (lf (r2.1,0))))
 (cn (a1.Op == 22)
 (cn (!(r1.toList == (⟨#[114,101,115,111,117,114,99,101]⟩:Yb).toList))
 (lf (0,5))
 (lf (1,0)))
 (cn (a1.Op == 23)
 (cn (!(r1.toList == (⟨#[115,116,111,114,101]⟩:Yb).toList))
 (lf (0,5))
 (lf (1,0)))
 (jp (.cn (!(r1.toList == (⟨#[114,101,115,111,117,114,99,101]⟩:Yb).toList))
 (.lf (!(r1.toList == (⟨#[113,117,101,117,101]⟩:Yb).toList)))
 (.lf false)) (λb3=>
 (cn b3
 (lf (0,5))
 (lf (1,0))))))))))))
def W5(a0:Ao)(a1:Aa):Option Ef:=Aig L a0 a1
def X98:Fs:=E2 (λ(x:Ef)=>.aY [I x.1,I x.2]) 98 Dy Ay (W5 L) λa0 a1 r h=>hF Tryz.func98 (oS [Blx L,Bqx L]) L (λkk=>eE (Aig L a0 a1)) h
def Xb [An A Bool](L:Nat)(a0:Int):A:=
 (jp (.cn (a0 == 1)
 (.lf true)
 (.lf (a0 == 3))) (λb1=>
 (lf b1)))
def Hm(a0:Int):Option Bool:=Xb L a0
def Bl6:Fs:=E1 B 189 (cI .i64) (Hm L) λa0 r h=>hF Tryz.func189 (oS []) L (λkk=>eE (Xb L a0)) h
def Afo [An A Int](a0:Int)(a1:Int):A:=
 (jb (.cn (a0 == 5)
 (.bd (Hm L a1) λr2=>
 (.lf r2))
 (.lf false)) (λb1=>
 (cn b1
 (lf a1)
 (jp (.cn (a0 == 6)
 (.lf (a1 == 2))
 (.lf false)) (λb3=>
 (cn b3
 (lf 2)
 (jp (.cn (a0 == 7)
 (.lf (a1 == 1))
 (.lf false)) (λb4=>
 (cn b4
 (lf 3)
 (jp (.cn (a0 == 8)
 (.lf (a1 == 3))
 (.lf false)) (λb5=>
 (cn b5
 (lf 1)
 (lf 0)))))))))))))
def Y3(a0:Int)(a1:Int):Option Int:=Afo L a0 a1
def X99:Fs:=E2 I 99 (cI .i64) (cI .i64) (Y3 L) λa0 a1 r h=>hF Tryz.func99 (oS [Bl6 L]) L (λkk=>eE (Afo L a0 a1)) h
def No:=CC Tryz.f100
def d9:Ba:=oL [Bl6 L]
def A3d(a1:Int)(a2:Int)(p804_3:Bool):St:=⟨[(1,I a1),(6,I 0),(7,B (a1 == a2)),(67,B p804_3)],[],0⟩
def A2w(e0:EC):De:=(C6 0 (I8 (EV (d9 L) L 9 e0) (KE Tryz.f100 kk)))
def P1 [An A Int](L:Nat)(a1:Int)(a2:Int)(p804_3:Bool):A:=
 (cn p804_3
 (jp (.cn (a1 == a2)
 (.lf (a1 == 2))
 (.lf false)) (λb11=>
 (cn b11
 (lf 2)
 (lf 0))))
 (lf 0))
theorem Bad(a1:Int)(a2:Int)(p804_3:Bool):EV (d9 L) L 9 No.w.l.u.l.x.x.r (A3d a1 a2 p804_3) (A2w L kk No.w.r)=ob (P1 L a1 a2 p804_3) (kQ I kk):=eE (P1 L a1 a2 p804_3)
def Aqe(a1:Int)(a2:Int)(a0:Int)(p803_4:Bool):St:=⟨[(1,I a1),(6,I 0),(7,B (a1 == a2)),(11,I a0),(59,B p803_4)],[],0⟩
def Ap5(e0:EC):De:=(C6 0 (I8 (EV (d9 L) L 9 e0) (KE Tryz.f100 kk)))
def sx_R14_binary_3 [An A Int](a1:Int)(a2:Int)(a0:Int)(p803_4:Bool)(nx4:Int->Int->Bool->A):A:=
 (cn p803_4
 (jb (.cn (a1 == a2)
 (.bd (Hm L a1) λr10=>
 (.lf r10))
 (.lf false)) (λb9=>
 (cn b9
 (lf 2)
 (lf 0))))
 (cn (a0 == 18)
 (nx4 a1 a2 (a0 == 18))
 (nx4 a1 a2 (a0 == 19))))
def V9 [An A Int](a1:Int)(a2:Int)(a0:Int)(p803_4:Bool):A:=sx_R14_binary_3 L a1 a2 a0 p803_4 (λa1 a2 p804_3=>P1 L a1 a2 p804_3)
theorem Bao(a1:Int)(a2:Int)(a0:Int)(p803_4:Bool)(z4:EC):EV (d9 L) L 9 (EC.put (rl [3]) z4 No.w.l.u.l.x.w.u) (Aqe a1 a2 a0 p803_4) (Ap5 L kk No.w.r)= @sx_R14_binary_3 Prop L (anP (kQ I kk)) a1 a2 a0 p803_4 (λa1 a2 p804_3=>EV (d9 L) L 9 z4 (A3d a1 a2 p804_3) (A2w L kk No.w.r)):=by kernel_rfl
theorem Bac(a1:Int)(a2:Int)(a0:Int)(p803_4:Bool):EV (d9 L) L 9 No.w.l.u.l.x.w.u (Aqe a1 a2 a0 p803_4) (Ap5 L kk No.w.r)=ob (V9 L a1 a2 a0 p803_4) (kQ I kk):=Eq.trans (b:=EV (d9 L) L 9 (EC.put (rl [3]) No.w.l.u.l.x.x.r No.w.l.u.l.x.w.u) (Aqe a1 a2 a0 p803_4) (Ap5 L kk No.w.r)) (by kernel_rfl) ((Bao L kk a1 a2 a0 p803_4 No.w.l.u.l.x.x.r).trans (eE (sx_R14_binary_3 L a1 a2 a0 p803_4 (λa1 a2 p804_3=>re (Bad L kk a1 a2 p804_3)))))
def Aqd(a1:Int)(a2:Int)(a0:Int)(p802_4:Bool):St:=⟨[(1,I a1),(6,I 0),(7,B (a1 == a2)),(11,I a0),(55,B p802_4)],[],0⟩
def Ap4(e0:EC):De:=(C6 0 (I8 (EV (d9 L) L 9 e0) (KE Tryz.f100 kk)))
def sx_R14_binary_2 [An A Int](L:Nat)(a1:Int)(a2:Int)(a0:Int)(p802_4:Bool)(nx3:Int->Int->Int->Bool->A):A:=
 (cn p802_4
 (cn (a1 == a2)
 (lf 2)
 (lf 0))
 (cn (a0 == 16)
 (nx3 a1 a2 a0 (a0 == 16))
 (nx3 a1 a2 a0 (a0 == 17))))
def V8 [An A Int](a1:Int)(a2:Int)(a0:Int)(p802_4:Bool):A:=sx_R14_binary_2 L a1 a2 a0 p802_4 (λa1 a2 a0 p803_4=>V9 L a1 a2 a0 p803_4)
theorem Ban(a1:Int)(a2:Int)(a0:Int)(p802_4:Bool)(z3:EC):EV (d9 L) L 9 (EC.put (rl [3]) z3 No.w.l.u.l.x.u.r) (Aqd a1 a2 a0 p802_4) (Ap4 L kk No.w.r)= @sx_R14_binary_2 Prop (anP (kQ I kk)) L a1 a2 a0 p802_4 (λa1 a2 a0 p803_4=>EV (d9 L) L 9 z3 (Aqe a1 a2 a0 p803_4) (Ap5 L kk No.w.r)):=by kernel_rfl
theorem Bab(a1:Int)(a2:Int)(a0:Int)(p802_4:Bool):EV (d9 L) L 9 No.w.l.u.l.x.u.r (Aqd a1 a2 a0 p802_4) (Ap4 L kk No.w.r)=ob (V8 L a1 a2 a0 p802_4) (kQ I kk):=Eq.trans (b:=EV (d9 L) L 9 (EC.put (rl [3]) No.w.l.u.l.x.w.u No.w.l.u.l.x.u.r) (Aqd a1 a2 a0 p802_4) (Ap4 L kk No.w.r)) (by kernel_rfl) ((Ban L kk a1 a2 a0 p802_4 No.w.l.u.l.x.w.u).trans (eE (sx_R14_binary_2 L a1 a2 a0 p802_4 (λa1 a2 a0 p803_4=>re (Bac L kk a1 a2 a0 p803_4)))))
def Aqc(a1:Int)(a2:Int)(a0:Int)(p801_5:Bool):St:=⟨[(1,I a1),(2,I a2),(6,I 0),(7,B (a1 == a2)),(11,I a0),(12,B p801_5)],[],0⟩
def Ap3(e0:EC):De:=(C6 0 (I8 (EV (d9 L) L 9 e0) (KE Tryz.f100 kk)))
def sx_R14_binary_1 [An A Int](a1:Int)(a2:Int)(a0:Int)(p801_5:Bool)(nx2:Int->Int->Int->Bool->A):A:=
 (cn p801_5
 (jb (.cn (a1 == a2)
 (.bd (Hm L a1) λr2=>
 (.lf r2))
 (.lf false)) (λb1=>
 (cn b1
 (lf a1)
 (lf 0))))
 (cn (a0 == 11)
 (jb (.cn (a1 == 1)
 (.bd (Hm L a2) λr4=>
 (.lf r4))
 (.lf false)) (λb3=>
 (cn b3
 (lf a2)
 (jp (.cn (a1 == 3)
 (.lf (a2 == 1))
 (.lf false)) (λb5=>
 (cn b5
 (lf a1)
 (lf 0)))))))
 (cn (a0 == 12)
 (bd (Hm L a1) λr6=>
 (jp (.cn r6
 (.lf (a2 == 1))
 (.lf false)) (λb7=>
 (cn b7
 (lf a1)
 (jp (.cn (a1 == 3)
 (.lf (a2 == 3))
 (.lf false)) (λb8=>
 (cn b8
 (lf 1)
 (lf 0))))))))
 (cn (a0 == 14)
 (nx2 a1 a2 a0 (a0 == 14))
 (nx2 a1 a2 a0 (a0 == 15))))))
def V7 [An A Int](a1:Int)(a2:Int)(a0:Int)(p801_5:Bool):A:=sx_R14_binary_1 L a1 a2 a0 p801_5 (λa1 a2 a0 p802_4=>V8 L a1 a2 a0 p802_4)
theorem Bam(a1:Int)(a2:Int)(a0:Int)(p801_5:Bool)(z2:EC):EV (d9 L) L 9 (EC.put (rl [9]) z2 No.w.l.u.l.u) (Aqc a1 a2 a0 p801_5) (Ap3 L kk No.w.r)= @sx_R14_binary_1 Prop L (anP (kQ I kk)) a1 a2 a0 p801_5 (λa1 a2 a0 p802_4=>EV (d9 L) L 9 z2 (Aqd a1 a2 a0 p802_4) (Ap4 L kk No.w.r)):=by kernel_rfl
theorem Baa(a1:Int)(a2:Int)(a0:Int)(p801_5:Bool):EV (d9 L) L 9 No.w.l.u.l.u (Aqc a1 a2 a0 p801_5) (Ap3 L kk No.w.r)=ob (V7 L a1 a2 a0 p801_5) (kQ I kk):=Eq.trans (b:=EV (d9 L) L 9 (EC.put (rl [9]) No.w.l.u.l.x.u.r No.w.l.u.l.u) (Aqc a1 a2 a0 p801_5) (Ap3 L kk No.w.r)) (by kernel_rfl) ((Bam L kk a1 a2 a0 p801_5 No.w.l.u.l.x.u.r).trans (eE (sx_R14_binary_1 L a1 a2 a0 p801_5 (λa1 a2 a0 p802_4=>re (Bab L kk a1 a2 a0 p802_4)))))
def sx_R14_binary_0 [An A Int](L:Nat)(a0:Int)(a1:Int)(a2:Int)(nx1:Int->Int->Int->Bool->A):A:=
 (cn (a0 == 9)
 (nx1 a1 a2 a0 (a0 == 9))
 (cn (a0 == 10)
 (nx1 a1 a2 a0 (a0 == 10))
 (cn (a0 == 13)
 (nx1 a1 a2 a0 (a0 == 13))
 (cn (a0 == 20)
 (nx1 a1 a2 a0 (a0 == 20))
 (nx1 a1 a2 a0 (a0 == 21))))))
def Ajm [An A Int](a0:Int)(a1:Int)(a2:Int):A:=sx_R14_binary_0 L a0 a1 a2 (λa1 a2 a0 p801_5=>V7 L a1 a2 a0 p801_5)
theorem Bal(a0:Int)(a1:Int)(a2:Int)(z1:EC):EW (d9 L) L 9 (RS Tryz.f100) (EC.put (rl [4,1,2,1,2]) z1 No) [I a0,I a1,I a2] kk= @sx_R14_binary_0 Prop (anP (kQ I kk)) L a0 a1 a2 (λa1 a2 a0 p801_5=>EV (d9 L) L 9 z1 (Aqc a1 a2 a0 p801_5) (Ap3 L kk No.w.r)):=by kernel_rfl
def Wl(a0:Int)(a1:Int)(a2:Int):Option Int:=Ajm L a0 a1 a2
def Blw:Fs:=E3 I 100 (cI .i64) (cI .i64) (cI .i64) (Wl L) λa0 a1 a2 r h=>hF Tryz.func100 (C:=d9 L) (oS _) L (λkk=>Eq.trans (b:=EW (d9 L) L 9 (RS Tryz.f100) (EC.put (rl [4,1,2,1,2]) No.w.l.u.l.u No) [I a0,I a1,I a2] kk) (by kernel_rfl) ((Bal L kk a0 a1 a2 No.w.l.u.l.u).trans (eE (sx_R14_binary_0 L a0 a1 a2 (λa1 a2 a0 p801_5=>re (Baa L kk a1 a2 a0 p801_5)))))) h
end
end Go.Proofs.YtgacplpjamkieaaGreat.Ev
