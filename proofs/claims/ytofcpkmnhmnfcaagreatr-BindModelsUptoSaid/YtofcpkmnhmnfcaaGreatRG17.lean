import Derived.Test.YtofcpkmnhmnfcaaGreatRG1
import Derived.Test.YtofcpkmnhmnfcaaGreatRG2
import Derived.Test.YtofcpkmnhmnfcaaGreatRG3
import Derived.Test.YtofcpkmnhmnfcaaGreatRG4
import Derived.Test.YtofcpkmnhmnfcaaGreatRG5
import Derived.Test.YtofcpkmnhmnfcaaGreatRG6
import Derived.Test.YtofcpkmnhmnfcaaGreatRG7
import Derived.Test.YtofcpkmnhmnfcaaGreatRG8
import Derived.Test.YtofcpkmnhmnfcaaGreatRG9
import Derived.Test.YtofcpkmnhmnfcaaGreatRG10
import Derived.Test.YtofcpkmnhmnfcaaGreatRG11
import Derived.Test.YtofcpkmnhmnfcaaGreatRG12
import Derived.Test.YtofcpkmnhmnfcaaGreatRG13
import Derived.Test.YtofcpkmnhmnfcaaGreatRG14
import Derived.Test.YtofcpkmnhmnfcaaGreatRG15
import Derived.Test.YtofcpkmnhmnfcaaGreatRG16
namespace Go.Proofs.YtofcpkmnhmnfcaaGreatR.Ev
open Go An
set_option maxRecDepth 100000
set_option maxHeartbeats 4000000
set_option linter.unusedVariables false
set_option linter.unusedSimpArgs false
set_option linter.unnecessarySimpa false
noncomputable section
variable {A:Type} (L n:Nat) (kk:Cz) (K:Ba) (k:Bq)
def Yu(L:Nat):Option Bool:=some true
def oA7:Bd:=orN [(16,X16 100),(41,X41 100),(17,X17 100),(6,X6 100),(95,X95 100),(96,X96 100),(65,X65 100),(172,B0x 100),(46,X46 100),(106,Bjl 100),(173,B0y 100),(107,Chs 100),(216,Cip 100),(174,B97 100),(169,B96 100),(175,B98 100),(217,Ciq 100),(218,Cir 100),(176,B99 100),(108,Cht 100),(58,X58 100),(133,Chx 100),(134,Chy 100),(184,Caa 100),(222,Cis 100),(185,Cab 100),(137,Ch0 100),(138,Ch1 100),(227,Cam 100),(226,Civ 100),(245,Car 100),(228,Ciw 100),(229,Cix 100),(194,Caf 100),(139,Ch2 100),(74,X74 100),(42,X42 100),(186,Cac 100),(135,Chz 100),(72,X72 100),(123,Chu 100),(170,Br1 100),(127,Chv 100),(181,Cid 100),(129,Chw 100),(70,X70 100),(132,B92 100),(71,X71 100),(39,X39 100),(223,Bum 100),(195,Cag 100),(93,X93 100),(63,X63 100),(196,Cah 100),(230,Can 100),(197,Cai 100),(198,Caj 100),(140,Ch3 100),(76,X76 100),(190,Buk 100),(187,Cie 100),(189,Cad 100),(224,Cit 100),(188,Cif 100),(191,Cig 100),(225,Ciu 100),(193,Cae 100),(192,Cih 100),(136,B93 100),(73,X73 100),(40,X40 100),(15,X15 100),(29,X29 100),(8,X8 100),(148,Ch4 100),(202,Cii 100),(151,Br0 100),(149,Ch5 100),(81,X81 100),(82,X82 100),(80,X80 100),(84,X84 100),(150,B0v 100),(50,X50 100),(51,X51 100),(32,X32 100),(83,X83 100),(152,B0w 100),(231,Ciy 100),(161,Cic 100),(89,X89 100),(246,Ci4 100),(247,Cas 100),(248,Ci5 100),(232,Cao 100),(203,Cij 100),(157,Ch9 100),(158,Cia 100),(233,Cap 100),(249,Ci6 100),(234,Ciz 100),(257,Ci9 100),(260,Cax 100),(261,Cay 100),(262,Caz 100),(258,Cja 100),(253,Ci8 100),(250,Cat 100),(235,Ci0 100),(207,Cal 100),(159,Cib 100),(87,X87 100),(204,Cik 100),(153,Ch6 100),(205,Cak 100),(154,Ch7 100),(209,Bul 100),(206,Cil 100),(155,Ch8 100),(85,X85 100),(156,B94 100),(86,X86 100),(47,X47 100),(49,X49 100),(208,Cim 100),(212,B00 100),(236,Caq 100),(259,Cjb 100),(254,Cau 100),(237,B01 100),(255,Cav 100),(256,Caw 100),(251,Ci7 100),(238,Ci1 100),(211,B0z 100),(210,Cin 100),(239,Ci2 100),(240,Ci3 100),(213,Cio 100),(160,B95 100),(88,X88 100),(48,X48 100),(30,X30 100),(31,X31 100),(9,X9 100),(33,X33 100),(52,X52 100),(53,X53 100),(54,X54 100),(44,X44 100),(23,X23 100),(90,X90 100),(55,X55 100),(56,X56 100),(57,X57 100),(34,X34 100),(10,X10 100),(12,X12 100),(13,X13 100),(11,X11 100)]
def iA7:Nat→Bool:=fun f=>inL f [24,25,26,27,28,45,59,60,61,62,66,67,68,69,91,92,97,98,99,100,101,102,103,104,105,109,110,111,112,113,114,115,116,117,118,119,120,121,122,124,125,126,128,130,131,162,163,164,165,166,167,168,177,178,179,180,182,183,214,215,219,220,221,241,242,243,244,252,24,1102476312640,1103003124228,1103003124344,1103003124348,24,35,36,1102476312640,1102610530368,1102610530370,1103007613515,1106100191296,1106100191298]
def nA7:Nat→Bool:=fun f=>inL f [16,41,17,6,95,96,65,172,46,106,173,107,216,174,169,175,217,218,176,108,58,133,134,184,222,185,137,138,227,226,245,228,229,194,139,74,42,186,135,72,123,170,127,181,129,70,132,71,39,223,195,93,63,196,230,197,198,140,76,190,187,189,224,188,191,225,193,192,136,73,40,15,29,8,148,202,151,149,81,82,80,84,150,50,51,32,83,152,231,161,89,246,247,248,232,203,157,158,233,249,234,257,260,261,262,258,253,250,235,207,159,87,204,153,205,154,209,206,155,85,156,86,47,49,208,212,236,259,254,237,255,256,251,238,211,210,239,240,213,160,88,48,30,31,9,33,52,53,54,44,23,90,55,56,57,34,10,12,13,11]
def mdl(k:Int):List PV:= [.agg (Au ⟨⟨#[109]⟩,[⟨⟨#[107]⟩,1,k⟩],[⟨⟨#[97]⟩,[],[],[],[],[],[],[],[],[],[⟨⟨#[114]⟩,[],[],[.mk 5 ⟨#[]⟩ ⟨#[]⟩ (.mk 7 ⟨#[]⟩ 0 [.mk 11 ⟨#[]⟩ 0 [.mk 3 ⟨#[107]⟩ 0 [],.mk 1 ⟨#[]⟩ 2 []]]) (.mk 0 ⟨#[]⟩ 0 []) [] ⟨0,0,0,0,[],[]⟩ false [] []]⟩],[],[]⟩],[]⟩)]
theorem hd4:Hv Tryz.prog 21 (mdl 4) (.tup [I 8,B true]):=Bbr (inl:=iA7) (nb:=nA7) (base:=oA7) Bmk mixed (A11 _ (by kernel_rfl)) 100 9 40 (fun kk=>by kernel_rfl)
theorem hd5:Hv Tryz.prog 21 (mdl 5) (.tup [I 10,B true]):=Bbr (inl:=iA7) (nb:=nA7) (base:=oA7) Bmk mixed (A11 _ (by kernel_rfl)) 100 9 40 (fun kk=>by kernel_rfl)
def AM:List PV→(PV→Prop)→Prop:=fun args k=>match args with
 | [.agg (_:: .lst false (.t39 [v])::_)]=>bif v.N == 4 then (args=mdl 4∧k (.tup [I 8,B true])) else (args=mdl 5∧k (.tup [I 10,B true]))
 |_=>False
theorem aM:∀args k,AM args k→∃r,Hv Tryz.prog 21 args r∧k r:=by
 intro args k h
 unfold AM at h
 split at h
 ·rename_i v t
  cases hv:(v.N == 4) with
  |true=>rw [hv] at h;exact ⟨_,h.1 ▸ hd4,h.2⟩
  |false=>rw [hv] at h;exact ⟨_,h.1 ▸ hd5,h.2⟩
 ·exact h.elim
def oB7:Bd:=orc 21 AM oA7
def nB7:Nat→Bool:=fun f=>inL f [21] || nA7 f
theorem Col{f:Nat}{args:List PV}{r:PV}(W:Prop→Prop)(hW:∀p,p→W p)(h:∀kk,Btc Tryz.prog iA7 grw nB7 oB7 100 9 40 f args kk=W (kk r)):Hv Tryz.prog f args r:=by
 obtain ⟨r',h1,h2⟩:=A9c (inl:=iA7) (nb:=nB7) (base:=oB7) Bmk mixed (D4 aM (A11 _ (by kernel_rfl))) 100 9 40 f args (fun p=>p=r) (by rw [h];exact hW _ rfl)
 subst h2;exact h1
def X7(L:Nat):F7:=E0 B 7 (Yu L) fun r h=>by
 injection h with h
 subst h
 exact Col (fun p=>mdl 4=mdl 4∧mdl 5=mdl 5∧p) (fun p hp=>⟨rfl,rfl,hp⟩) (fun kk=>by kernel_rfl)
def Af7 [An A Bool](a0:Ac)(a1:List Ae):A:=
 (bd (Als L a0) fun r1=>
 (jp (.cn (decide (r1 > 3000))
 (.lf true)
 (.lf (decide ((a1.length:Int) > 100)))) (fun b2=>
 (cn b2
 (bd (Yu L) fun r3=>
 (lf r3))
 (bd (Sj L a0 a1) fun r4=>
 (bd (Aco L a0 a1) fun r5=>
 (cn (r4.2 == r5.2)
 (bd (Alv L r4.1 r5.1) fun r6=>
 (cn r6
 (bd (Wf L a0) fun r7=>
 (bd (Ac7 L a0) fun r8=>
 (bd (Vt L r7 r8) fun r9=>
 (cn r9
 (bd (Yu L) fun r10=>
 (lf r10))
 (lf false)))))
 (lf false)))
 (lf false))))))))
def Af3(a0:Ac)(a1:List Ae):Option Bool:=Af7 L a0 a1
theorem h3(a0:Ac)(a1:List Ae)(r:Bool)(h:Af3 L a0 a1=some r):Hv Tryz.prog 3 [.agg (Au a0),lv (.t41 a1)] (B r):=(show Ho Tryz.prog 3 [.agg (Au a0),lv (.t41 a1)] B r from hF Tryz.func3 (oS [X6 L,X7 L,X8 L,X9 L,X10 L,X11 L,X12 L,X13 L]) L (fun kk=>eE (Af7 L a0 a1)) h)
def c4:=CC Tryz.f4
def O4:Bd:=oL [X6 L,X7 L,X8 L,X10 L,X12 L]
def B8l(a1:List Ae)(Ai:Bool)(r7:List Ae)(Aj:Int)(a0:Ac)(r4:Tu8)(v:Cs):St:=⟨[(0,.any),(1,lv (.t41 a1)),(2,.loc 2 0),(4,B Ai),(5,.loc 5 0),(6,.any),(7,lv (.t41 r7)),(8,I Aj),(9,I v.1),(10,I v.2),(11,.any),(12,.any)],[(2,(Au a0)),(5,(Au r4.1))],0⟩
def Afz [An A Cm](L:Nat)(a1:List Ae)(Ai:Bool)(r7:List Ae)(Aj:Int)(a0:Ac)(r4:Tu8)(rec:Int→Int→A)(Ub:Int)(Aam:Int):A:=
 (lw Aam a1
 (gi Aj a0.Params
 (cn (((a1.getD (Int.toNat Aam) default).Name).toList == ((a0.Params.getD (Int.toNat Aj) default).Name).toList)
 (gi Aam a1
 (rec ((a1.getD (Int.toNat Aam) default).N) (B7 (Aam+1))))
 (rec Ub (B7 (Aam+1)))))
 (lf (0,Ub,Aam)))
def Xf(L:Nat)(a1:List Ae)(Ai:Bool)(r7:List Ae)(Aj:Int)(a0:Ac)(r4:Tu8):Nat→Int→Int→Option Cm
 |0,_,_=>none
 |n+1,Ub,Aam=>Afz L a1 Ai r7 Aj a0 r4 (Xf L a1 Ai r7 Aj a0 r4 n) Ub Aam
theorem Clv(a1:List Ae)(Ai:Bool)(r7:List Ae)(Aj:Int)(a0:Ac)(r4:Tu8):LP (EV (O4 L) L 9 c4.x.w.l.u.l.l.u.l.l.u.l.u.l.l) [0,1,2,4,5,6,7,8,9,10,11,12] [2,5] (B8l a1 Ai r7 Aj a0 r4) [.exit 2] (fun n v=>Xf L a1 Ai r7 Aj a0 r4 n v.1 v.2) K:=lE (fun _=>rfl) fun n v ih=>eE (Afz L a1 Ai r7 Aj a0 r4 (fun Ub Aam=>re (ih (Ub,Aam))) v.1 v.2)
def Byu(a1:List Ae)(r7:List Ae)(a0:Ac)(r4:Tu8)(v:Yq):St:=⟨[(0,.any),(1,lv (.t41 a1)),(2,.loc 2 0),(4,B v.1),(5,.loc 5 0),(6,.any),(7,lv (.t41 r7)),(8,I v.2),(11,.any),(12,.any)],[(2,(Au a0)),(5,(Au r4.1))],0⟩
def Xg [An A M3](L:Nat)(Aj:Int)(r7:List Ae)(a0:Ac)(Ai:Bool)(rec:Bool→Int→A)(o8:Nat×Cs):A:=
 (sl o8.1 [(gi Aj r7
 (gi Aj a0.Params
 (cn (!(((r7.getD (Int.toNat Aj) default).Name).toList == ((a0.Params.getD (Int.toNat Aj) default).Name).toList))
 (lf (0,false,Aj))
 (gi Aj r7
 (cn ((r7.getD (Int.toNat Aj) default).N != o8.2.1)
 (lf (0,false,Aj))
 (rec Ai (B7 (Aj+1))))))))])
def Af1 [An A M3](L:Nat)(a1:List Ae)(r7:List Ae)(a0:Ac)(r4:Tu8)(rec:Bool→Int→A)(Ai:Bool)(Aj:Int)(nx1:Bool→Int→A):A:=
 (cn (decide (Aj < (r7.length:Int)))
 (gi Aj a0.Params
 (nx1 Ai Aj))
 (lf (1,Ai,Aj)))
def Asu [An A M3](a1:List Ae)(r7:List Ae)(a0:Ac)(r4:Tu8)(rec:Bool→Int→A)(Ai:Bool)(Aj:Int):A:=Af1 L a1 r7 a0 r4 rec Ai Aj (fun Ai Aj=>bd (Xf L a1 Ai r7 Aj a0 r4 L ((a0.Params.getD (Int.toNat Aj) default).N) 0) fun o8=>Xg L Aj r7 a0 Ai rec o8)
def Rm(L:Nat)(a1:List Ae)(r7:List Ae)(a0:Ac)(r4:Tu8):Nat→Bool→Int→Option M3
 |0,_,_=>none
 |n+1,Ai,Aj=>Asu L a1 r7 a0 r4 (Rm L a1 r7 a0 r4 n) Ai Aj
def B7b(a1:List Ae)(r7:List Ae)(a0:Ac)(r4:Tu8):Prop:=LI (EV (O4 L) L 9 c4.x.w.l.u.l.l) [0,1,2,4,5,6,7,8,11,12] [2,5] (Byu a1 r7 a0 r4) [.ret,.exit 0] (fun n v=>Rm L a1 r7 a0 r4 n v.1 v.2) K n
def B7n:Ba:=(Av 2 (Be (EV (O4 L) L 9 c4.x.w.l.u.l.l.u.l.l.u.r) (Av 1 (Be (EV (O4 L) L 9 c4.x.w.l.u.l.l.u.r) (Hh (Jj (EV (O4 L) L 9 c4.x.w.l.u.l.l) [0,1,2,4,5,6,7,8,11,12] [2,5] n) [0,1,2,4,5,6,7,8,11,12] [2,5] K)))))
theorem Cqs(a1:List Ae)(Ai:Bool)(r7:List Ae)(Aj:Int)(a0:Ac)(r4:Tu8)(ih:B7b L n K a1 r7 a0 r4)(o8:Nat×Cs):kX [.exit 2] (B8l a1 Ai r7 Aj a0 r4) (B7n L n K) o8=ob (Xg L Aj r7 a0 Ai (Rm L a1 r7 a0 r4 n) o8) (kX [.ret,.exit 0] (Byu a1 r7 a0 r4) K):=eE (Xg L Aj r7 a0 Ai (fun Ai Aj=>re (ih (Ai,Aj))) o8)
theorem Clu(a1:List Ae)(r7:List Ae)(a0:Ac)(r4:Tu8):∀n,B7b L n K a1 r7 a0 r4:=lE (fun _=>rfl) fun n v ih=>eE (Af1 L a1 r7 a0 r4 (fun Ai Aj=>re (ih (Ai,Aj))) v.1 v.2 (fun Ai Aj=>ho (Clv L (B7n L n K) a1 Ai r7 Aj a0 r4 L (((a0.Params.getD (Int.toNat Aj) default).N),0)) fun o8=>Cqs L n K a1 Ai r7 Aj a0 r4 ih o8))
def Xh [An A Bool](r4:Tu8)(r7:List Ae)(o9:Nat×Yq):A:=
 (sl o9.1 [(lf o9.2.1),
 (bd (Sj L r4.1 r7) fun r10=>
 (jb (.cn (r10.2 == 0)
 (.bd (Alv L r10.1 r4.1) fun r12=>
 (.lf r12))
 (.lf false)) (fun b11=>
 (jb (.cn b11
 (.bd (Yu L) fun r14=>
 (.lf r14))
 (.lf false)) (fun b13=>
 (lf b13))))))])
def B7o:Ba:=(Av 0 (Be (EV (O4 L) L 9 c4.x.w.r) (Cp Tryz.prog (RS Tryz.f4) kk)))
theorem Cqt(a1:List Ae)(r7:List Ae)(a0:Ac)(r4:Tu8)(o9:Nat×Yq):kX [.ret,.exit 0] (Byu a1 r7 a0 r4) (B7o L kk) o9=ob (Xh L r4 r7 o9) (kQ B kk):=eE (Xh L r4 r7 o9)
def Af2 [An A Bool](a0:Ac)(a1:List Ae)(nx2:(List Ae)→Tu8→A):A:=
 (bd (Als L a0) fun r1=>
 (jp (.cn (decide (r1 > 3000))
 (.lf true)
 (.lf (decide ((a1.length:Int) > 100)))) (fun b2=>
 (cn b2
 (bd (Yu L) fun r3=>
 (lf r3))
 (bd (Sj L a0 a1) fun r4=>
 (cn (r4.2 != 0)
 (jb (.cn ((r4.1.Sites.length:Int) == 0)
 (.bd (Yu L) fun r6=>
 (.lf r6))
 (.lf false)) (fun b5=>
 (lf b5)))
 (bd (Wf L r4.1) fun r7=>
 (cn ((r7.length:Int) != (a0.Params.length:Int))
 (lf false)
 (nx2 r7 r4)))))))))
def Awt [An A Bool](a0:Ac)(a1:List Ae):A:=Af2 L a0 a1 (fun r7 r4=>bd (Rm L a1 r7 a0 r4 L false 0) fun o9=>Xh L r4 r7 o9)
def Awq(a0:Ac)(a1:List Ae):Option Bool:=Awt L a0 a1
theorem h4(a0:Ac)(a1:List Ae)(r:Bool)(h:Awq L a0 a1=some r):Hv Tryz.prog 4 [.agg (Au a0),lv (.t41 a1)] (B r):=(show Ho Tryz.prog 4 [.agg (Au a0),lv (.t41 a1)] B r from hF Tryz.func4 (C:=O4 L) (oS _) L (fun kk=>eE (Af2 L a0 a1 (fun r7 r4=>ho (Clu L (B7o L kk) a1 r7 a0 r4 L (false,0)) fun o9=>Cqt L kk a1 r7 a0 r4 o9))) h)
end
end Go.Proofs.YtofcpkmnhmnfcaaGreatR.Ev
