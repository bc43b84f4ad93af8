import Derived.Test.YtofcpkmnhmnfcaaGreatRG1
import Derived.Test.YtofcpkmnhmnfcaaGreatRG2
import Derived.Test.YtofcpkmnhmnfcaaGreatRG3
import Derived.Test.YtofcpkmnhmnfcaaGreatRG4
import Derived.Test.YtofcpkmnhmnfcaaGreatRG5
import Derived.Test.YtofcpkmnhmnfcaaGreatRG6
import Derived.Test.YtofcpkmnhmnfcaaGreatRG7
import Derived.Test.YtofcpkmnhmnfcaaGreatRG8
import Derived.Test.YtofcpkmnhmnfcaaGreatRG9
import Derived.Test.YtofcpkmnhmnfcaaGreatRG10
import Derived.Test.YtofcpkmnhmnfcaaGreatRG11
import Derived.Test.YtofcpkmnhmnfcaaGreatRG12
import Derived.Test.YtofcpkmnhmnfcaaGreatRG13
import Derived.Test.YtofcpkmnhmnfcaaGreatRG14
import Derived.Test.YtofcpkmnhmnfcaaGreatRG15
import Derived.Test.YtofcpkmnhmnfcaaGreatRG16
namespace Go.Proofs.YtofcpkmnhmnfcaaGreatR.Ev
open Go An
set_option maxRecDepth 100000
set_option maxHeartbeats 4000000
set_option linter.unusedVariables false
set_option linter.unusedSimpArgs false
set_option linter.unnecessarySimpa false
noncomputable section
variable {A:Type} (L n:Nat) (kk:Cz) (K:Ax) (k:Bk)
def U7(L:Nat):Option Bool:=some true
def oA7:Ba:=orN [(16,X16 100),(41,X41 100),(17,X17 100),(6,X6 100),(95,X95 100),(96,X96 100),(65,X65 100),(172,Bul 100),(46,X46 100),(106,Bc2 100),(173,Bum 100),(107,Cbg 100),(216,Ccd 100),(174,B33 100),(169,B32 100),(175,B34 100),(217,Cce 100),(218,Ccf 100),(176,B35 100),(108,Cbh 100),(58,X58 100),(133,Cbl 100),(134,Cbm 100),(184,B36 100),(222,Ccg 100),(185,B37 100),(137,Cbo 100),(138,Cbp 100),(227,B4i 100),(226,Ccj 100),(245,B4n 100),(228,Cck 100),(229,Ccl 100),(194,B4b 100),(139,Cbq 100),(74,X74 100),(42,X42 100),(186,B38 100),(135,Cbn 100),(72,X72 100),(123,Cbi 100),(170,Bll 100),(127,Cbj 100),(181,Cb1 100),(129,Cbk 100),(70,X70 100),(132,B3y 100),(71,X71 100),(39,X39 100),(223,Bn4 100),(195,B4c 100),(93,X93 100),(63,X63 100),(196,B4d 100),(230,B4j 100),(197,B4e 100),(198,B4f 100),(140,Cbr 100),(76,X76 100),(190,Bn2 100),(187,Cb2 100),(189,B39 100),(224,Cch 100),(188,Cb3 100),(191,Cb4 100),(225,Cci 100),(193,B4a 100),(192,Cb5 100),(136,B3z 100),(73,X73 100),(40,X40 100),(15,X15 100),(29,X29 100),(8,X8 100),(148,Cbs 100),(202,Cb6 100),(151,Blk 100),(149,Cbt 100),(81,X81 100),(82,X82 100),(80,X80 100),(84,X84 100),(150,Buj 100),(50,X50 100),(51,X51 100),(32,X32 100),(83,X83 100),(152,Buk 100),(231,Ccm 100),(161,Cb0 100),(89,X89 100),(246,Ccs 100),(247,B4o 100),(248,Cct 100),(232,B4k 100),(203,Cb7 100),(157,Cbx 100),(158,Cby 100),(233,B4l 100),(249,Ccu 100),(234,Ccn 100),(257,Ccx 100),(260,B4t 100),(261,B4u 100),(262,B4v 100),(258,Ccy 100),(253,Ccw 100),(250,B4p 100),(235,Cco 100),(207,B4h 100),(159,Cbz 100),(87,X87 100),(204,Cb8 100),(153,Cbu 100),(205,B4g 100),(154,Cbv 100),(209,Bn3 100),(206,Cb9 100),(155,Cbw 100),(85,X85 100),(156,B30 100),(86,X86 100),(47,X47 100),(49,X49 100),(208,Cca 100),(212,Buo 100),(236,B4m 100),(259,Ccz 100),(254,B4q 100),(237,Bup 100),(255,B4r 100),(256,B4s 100),(251,Ccv 100),(238,Ccp 100),(211,Bun 100),(210,Ccb 100),(239,Ccq 100),(240,Ccr 100),(213,Ccc 100),(160,B31 100),(88,X88 100),(48,X48 100),(30,X30 100),(31,X31 100),(9,X9 100),(33,X33 100),(52,X52 100),(53,X53 100),(54,X54 100),(44,X44 100),(23,X23 100),(90,X90 100),(55,X55 100),(56,X56 100),(57,X57 100),(34,X34 100),(10,X10 100),(12,X12 100),(13,X13 100),(11,X11 100)]
def iA7:Nat→Bool:=fun f=>inL f [24,25,26,27,28,45,59,60,61,62,66,67,68,69,91,92,97,98,99,100,101,102,103,104,105,109,110,111,112,113,114,115,116,117,118,119,120,121,122,124,125,126,128,130,131,162,163,164,165,166,167,168,177,178,179,180,182,183,214,215,219,220,221,241,242,243,244,252,24,1102476312640,1103003124228,1103003124344,1103003124348,24,35,36,1102476312640,1102610530368,1102610530370,1103007613515,1106100191296,1106100191298]
def nA7:Nat→Bool:=fun f=>inL f [16,41,17,6,95,96,65,172,46,106,173,107,216,174,169,175,217,218,176,108,58,133,134,184,222,185,137,138,227,226,245,228,229,194,139,74,42,186,135,72,123,170,127,181,129,70,132,71,39,223,195,93,63,196,230,197,198,140,76,190,187,189,224,188,191,225,193,192,136,73,40,15,29,8,148,202,151,149,81,82,80,84,150,50,51,32,83,152,231,161,89,246,247,248,232,203,157,158,233,249,234,257,260,261,262,258,253,250,235,207,159,87,204,153,205,154,209,206,155,85,156,86,47,49,208,212,236,259,254,237,255,256,251,238,211,210,239,240,213,160,88,48,30,31,9,33,52,53,54,44,23,90,55,56,57,34,10,12,13,11]
def mdl(k:Int):List PV:= [.agg (Aq ⟨⟨#[109]⟩,[⟨⟨#[107]⟩,1,k⟩],[⟨⟨#[97]⟩,[],[],[],[],[],[],[],[],[],[⟨⟨#[114]⟩,[],[],[.mk 5 ⟨#[]⟩ ⟨#[]⟩ (.mk 7 ⟨#[]⟩ 0 [.mk 11 ⟨#[]⟩ 0 [.mk 3 ⟨#[107]⟩ 0 [],.mk 1 ⟨#[]⟩ 2 []]]) (.mk 0 ⟨#[]⟩ 0 []) [] ⟨0,0,0,0,[],[]⟩ false [] []]⟩],[],[]⟩],[]⟩)]
theorem hd4:Gu Tryz.prog 21 (mdl 4) (.tup [I 8,B true]):=A5y (inl:=iA7) (nb:=nA7) (base:=oA7) Bf1 mixed (Awy _ (by kernel_rfl)) 100 9 40 (fun kk=>by kernel_rfl)
theorem hd5:Gu Tryz.prog 21 (mdl 5) (.tup [I 10,B true]):=A5y (inl:=iA7) (nb:=nA7) (base:=oA7) Bf1 mixed (Awy _ (by kernel_rfl)) 100 9 40 (fun kk=>by kernel_rfl)
def AM:List PV→(PV→Prop)→Prop:=fun args k=>match args with
 | [.agg (_:: .lst false (.t39 [v])::_)]=>bif v.N == 4 then (args=mdl 4∧k (.tup [I 8,B true])) else (args=mdl 5∧k (.tup [I 10,B true]))
 |_=>False
theorem aM:∀args k,AM args k→∃r,Gu Tryz.prog 21 args r∧k r:=by
 intro args k h
 unfold AM at h
 split at h
 ·rename_i v t
  cases hv:(v.N == 4) with
  |true=>rw [hv] at h;exact ⟨_,h.1 ▸ hd4,h.2⟩
  |false=>rw [hv] at h;exact ⟨_,h.1 ▸ hd5,h.2⟩
 ·exact h.elim
def oB7:Ba:=orc 21 AM oA7
def nB7:Nat→Bool:=fun f=>inL f [21] || nA7 f
theorem Cia{f:Nat}{args:List PV}{r:PV}(W:Prop→Prop)(hW:∀p,p→W p)(h:∀kk,Bmr Tryz.prog iA7 grw nB7 oB7 100 9 40 f args kk=W (kk r)):Gu Tryz.prog f args r:=by
 obtain ⟨r',h1,h2⟩:=A34 (inl:=iA7) (nb:=nB7) (base:=oB7) Bf1 mixed (Dt aM (Awy _ (by kernel_rfl))) 100 9 40 f args (fun p=>p=r) (by rw [h];exact hW _ rfl)
 subst h2;exact h1
def X7(L:Nat):Ew:=E0 B 7 (U7 L) fun r h=>by
 injection h with h
 subst h
 exact Cia (fun p=>mdl 4=mdl 4∧mdl 5=mdl 5∧p) (fun p hp=>⟨rfl,rfl,hp⟩) (fun kk=>by kernel_rfl)
def Aiq [An A Bool](a0:Ac)(a1:List Ae):A:=
 (bd (Aeb L a0) fun r1=>
 (jp (.cn (decide (r1 > 3000))
 (.lf true)
 (.lf (decide ((a1.length:Int) > 100)))) (fun b2=>
 (cn b2
 (bd (U7 L) fun r3=>
 (lf r3))
 (bd (M4 L a0 a1) fun r4=>
 (bd (Axz L a0 a1) fun r5=>
 (cn (r4.2 == r5.2)
 (bd (Aef L r4.1 r5.1) fun r6=>
 (cn r6
 (bd (S2 L a0) fun r7=>
 (bd (Amg L a0) fun r8=>
 (bd (Aeg L r7 r8) fun r9=>
 (cn r9
 (bd (U7 L) fun r10=>
 (lf r10))
 (lf false)))))
 (lf false)))
 (lf false))))))))
def Avh(a0:Ac)(a1:List Ae):Option Bool:=Aiq L a0 a1
theorem h3(a0:Ac)(a1:List Ae)(r:Bool)(h:Avh L a0 a1=some r):Gu Tryz.prog 3 [.agg (Aq a0),lv (.t41 a1)] (B r):=(show Ho Tryz.prog 3 [.agg (Aq a0),lv (.t41 a1)] B r from hF Tryz.func3 (oS [X6 L,X7 L,X8 L,X9 L,X10 L,X11 L,X12 L,X13 L]) L (fun kk=>eE (Aiq L a0 a1)) h)
def c4:=CC Tryz.f4
def O4:Ba:=oL [X6 L,X7 L,X8 L,X10 L,X12 L]
def B2o(a1:List Ae)(Aj:Bool)(r7:List Ae)(Ai:Int)(a0:Ac)(r4:Tu8)(v:Co):St:=⟨[(0,.any),(1,lv (.t41 a1)),(2,.loc 2 0),(4,B Aj),(5,.loc 5 0),(6,.any),(7,lv (.t41 r7)),(8,I Ai),(9,I v.1),(10,I v.2),(11,.any),(12,.any)],[(2,(Aq a0)),(5,(Aq r4.1))],0⟩
def Og [An A B7](L:Nat)(a1:List Ae)(Aj:Bool)(r7:List Ae)(Ai:Int)(a0:Ac)(r4:Tu8)(rec:Int→Int→A)(Ld:Int)(Xo:Int):A:=
 (lw Xo a1
 (gi Ai a0.Params
 (cn (((a1.getD (Int.toNat Xo) default).Name).toList == ((a0.Params.getD (Int.toNat Ai) default).Name).toList)
 (gi Xo a1
 (rec ((a1.getD (Int.toNat Xo) default).N) (B6 (Xo+1))))
 (rec Ld (B6 (Xo+1)))))
 (lf (0,Ld,Xo)))
def Ek(L:Nat)(a1:List Ae)(Aj:Bool)(r7:List Ae)(Ai:Int)(a0:Ac)(r4:Tu8):Nat→Int→Int→Option B7
 |0,_,_=>none
 |n+1,Ld,Xo=>Og L a1 Aj r7 Ai a0 r4 (Ek L a1 Aj r7 Ai a0 r4 n) Ld Xo
theorem Cfj(a1:List Ae)(Aj:Bool)(r7:List Ae)(Ai:Int)(a0:Ac)(r4:Tu8):LP (EV (O4 L) L 9 c4.x.w.l.u.l.l.u.l.l.u.l.u.l.l) [0,1,2,4,5,6,7,8,9,10,11,12] [2,5] (B2o a1 Aj r7 Ai a0 r4) [.exit 2] (fun n v=>Ek L a1 Aj r7 Ai a0 r4 n v.1 v.2) K:=lE (fun _=>rfl) fun n v ih=>eE (Og L a1 Aj r7 Ai a0 r4 (fun Ld Xo=>re (ih (Ld,Xo))) v.1 v.2)
def Bsp(a1:List Ae)(r7:List Ae)(a0:Ac)(r4:Tu8)(v:U4):St:=⟨[(0,.any),(1,lv (.t41 a1)),(2,.loc 2 0),(4,B v.1),(5,.loc 5 0),(6,.any),(7,lv (.t41 r7)),(8,I v.2),(11,.any),(12,.any)],[(2,(Aq a0)),(5,(Aq r4.1))],0⟩
def Kb [An A Ln](L:Nat)(Ai:Int)(r7:List Ae)(a0:Ac)(Aj:Bool)(rec:Bool→Int→A)(o8:Nat×Co):A:=
 (sl o8.1 [(gi Ai r7
 (gi Ai a0.Params
 (cn (!(((r7.getD (Int.toNat Ai) default).Name).toList == ((a0.Params.getD (Int.toNat Ai) default).Name).toList))
 (lf (0,false,Ai))
 (gi Ai r7
 (cn ((r7.getD (Int.toNat Ai) default).N != o8.2.1)
 (lf (0,false,Ai))
 (rec Aj (B6 (Ai+1))))))))])
def Oj [An A Ln](L:Nat)(a1:List Ae)(r7:List Ae)(a0:Ac)(r4:Tu8)(rec:Bool→Int→A)(Aj:Bool)(Ai:Int)(nx1:Bool→Int→A):A:=
 (cn (decide (Ai < (r7.length:Int)))
 (gi Ai a0.Params
 (nx1 Aj Ai))
 (lf (1,Aj,Ai)))
def Tx [An A Ln](a1:List Ae)(r7:List Ae)(a0:Ac)(r4:Tu8)(rec:Bool→Int→A)(Aj:Bool)(Ai:Int):A:=Oj L a1 r7 a0 r4 rec Aj Ai (fun Aj Ai=>bd (Ek L a1 Aj r7 Ai a0 r4 L ((a0.Params.getD (Int.toNat Ai) default).N) 0) fun o8=>Kb L Ai r7 a0 Aj rec o8)
def Ej(L:Nat)(a1:List Ae)(r7:List Ae)(a0:Ac)(r4:Tu8):Nat→Bool→Int→Option Ln
 |0,_,_=>none
 |n+1,Aj,Ai=>Tx L a1 r7 a0 r4 (Ej L a1 r7 a0 r4 n) Aj Ai
def B09(a1:List Ae)(r7:List Ae)(a0:Ac)(r4:Tu8):Prop:=LI (EV (O4 L) L 9 c4.x.w.l.u.l.l) [0,1,2,4,5,6,7,8,11,12] [2,5] (Bsp a1 r7 a0 r4) [.ret,.exit 0] (fun n v=>Ej L a1 r7 a0 r4 n v.1 v.2) K n
def B1l:Ax:=(Av 2 (Bb (EV (O4 L) L 9 c4.x.w.l.u.l.l.u.l.l.u.r) (Av 1 (Bb (EV (O4 L) L 9 c4.x.w.l.u.l.l.u.r) (Gj (Ix (EV (O4 L) L 9 c4.x.w.l.u.l.l) [0,1,2,4,5,6,7,8,11,12] [2,5] n) [0,1,2,4,5,6,7,8,11,12] [2,5] K)))))
theorem Ckq(a1:List Ae)(Aj:Bool)(r7:List Ae)(Ai:Int)(a0:Ac)(r4:Tu8)(ih:B09 L n K a1 r7 a0 r4)(o8:Nat×Co):kX [.exit 2] (B2o a1 Aj r7 Ai a0 r4) (B1l L n K) o8=ob (Kb L Ai r7 a0 Aj (Ej L a1 r7 a0 r4 n) o8) (kX [.ret,.exit 0] (Bsp a1 r7 a0 r4) K):=eE (Kb L Ai r7 a0 Aj (fun Aj Ai=>re (ih (Aj,Ai))) o8)
theorem Cfi(a1:List Ae)(r7:List Ae)(a0:Ac)(r4:Tu8):∀n,B09 L n K a1 r7 a0 r4:=lE (fun _=>rfl) fun n v ih=>eE (Oj L a1 r7 a0 r4 (fun Aj Ai=>re (ih (Aj,Ai))) v.1 v.2 (fun Aj Ai=>ho (Cfj L (B1l L n K) a1 Aj r7 Ai a0 r4 L (((a0.Params.getD (Int.toNat Ai) default).N),0)) fun o8=>Ckq L n K a1 Aj r7 Ai a0 r4 ih o8))
def Kc [An A Bool](r4:Tu8)(r7:List Ae)(o9:Nat×U4):A:=
 (sl o9.1 [(lf o9.2.1),
 (bd (M4 L r4.1 r7) fun r10=>
 (jb (.cn (r10.2 == 0)
 (.bd (Aef L r10.1 r4.1) fun r12=>
 (.lf r12))
 (.lf false)) (fun b11=>
 (jb (.cn b11
 (.bd (U7 L) fun r14=>
 (.lf r14))
 (.lf false)) (fun b13=>
 (lf b13))))))])
def B1m:Ax:=(Av 0 (Bb (EV (O4 L) L 9 c4.x.w.r) (Cm Tryz.prog (RS Tryz.f4) kk)))
theorem Ckr(a1:List Ae)(r7:List Ae)(a0:Ac)(r4:Tu8)(o9:Nat×U4):kX [.ret,.exit 0] (Bsp a1 r7 a0 r4) (B1m L kk) o9=ob (Kc L r4 r7 o9) (kQ B kk):=eE (Kc L r4 r7 o9)
def Ok [An A Bool](a0:Ac)(a1:List Ae)(nx2:(List Ae)→Tu8→A):A:=
 (bd (Aeb L a0) fun r1=>
 (jp (.cn (decide (r1 > 3000))
 (.lf true)
 (.lf (decide ((a1.length:Int) > 100)))) (fun b2=>
 (cn b2
 (bd (U7 L) fun r3=>
 (lf r3))
 (bd (M4 L a0 a1) fun r4=>
 (cn (r4.2 != 0)
 (jb (.cn ((r4.1.Sites.length:Int) == 0)
 (.bd (U7 L) fun r6=>
 (.lf r6))
 (.lf false)) (fun b5=>
 (lf b5)))
 (bd (S2 L r4.1) fun r7=>
 (cn ((r7.length:Int) != (a0.Params.length:Int))
 (lf false)
 (nx2 r7 r4)))))))))
def Aej [An A Bool](a0:Ac)(a1:List Ae):A:=Ok L a0 a1 (fun r7 r4=>bd (Ej L a1 r7 a0 r4 L false 0) fun o9=>Kc L r4 r7 o9)
def Y6(a0:Ac)(a1:List Ae):Option Bool:=Aej L a0 a1
theorem h4(a0:Ac)(a1:List Ae)(r:Bool)(h:Y6 L a0 a1=some r):Gu Tryz.prog 4 [.agg (Aq a0),lv (.t41 a1)] (B r):=(show Ho Tryz.prog 4 [.agg (Aq a0),lv (.t41 a1)] B r from hF Tryz.func4 (C:=O4 L) (oS _) L (fun kk=>eE (Ok L a0 a1 (fun r7 r4=>ho (Cfi L (B1m L kk) a1 r7 a0 r4 L (false,0)) fun o9=>Ckr L kk a1 r7 a0 r4 o9))) h)
end
end Go.Proofs.YtofcpkmnhmnfcaaGreatR.Ev
