import Derived.Test.YthjhkpgonleelaaGreatDoorAG1
import Derived.Test.YthjhkpgonleelaaGreatDoorAG2
import Derived.Test.YthjhkpgonleelaaGreatDoorAG3
import Derived.Test.YthjhkpgonleelaaGreatDoorAG4
import Derived.Test.YthjhkpgonleelaaGreatDoorAG5
import Derived.Test.YthjhkpgonleelaaGreatDoorAG6
import Derived.Test.YthjhkpgonleelaaGreatDoorAG7
import Derived.Test.YthjhkpgonleelaaGreatDoorAG8
import Derived.Test.YthjhkpgonleelaaGreatDoorAG9
import Derived.Test.YthjhkpgonleelaaGreatDoorAG10
import Derived.Test.YthjhkpgonleelaaGreatDoorAG11
import Derived.Test.YthjhkpgonleelaaGreatDoorAG12
import Derived.Test.YthjhkpgonleelaaGreatDoorAG13
import Derived.Test.YthjhkpgonleelaaGreatDoorAG14
import Derived.Test.YthjhkpgonleelaaGreatDoorAG15
import Derived.Test.YthjhkpgonleelaaGreatDoorAIA
namespace Go.Proofs.YthjhkpgonleelaaGreatDoor.Ev
open Go An
set_option maxRecDepth 100000
set_option maxHeartbeats 4000000
set_option linter.unusedVariables false
set_option linter.unusedSimpArgs false
set_option linter.unnecessarySimpa false
noncomputable section
variable {A:Type} (L n:Nat) (kk:Cc) (K:Bg) (k:Bu)
def Ew(L:Nat):Option Bool:=some true
def oA7:Bi:=orN [(54,X54 100),(55,X55 100),(35,X35 100),(146,Bfl 100),(158,Bfo 100),(95,X95 100),(147,Bfm 100),(96,X96 100),(29,X29 100),(148,Bfn 100),(183,Bs6 100),(149,Bl1 100),(168,Bsw 100),(169,Bsx 100),(129,Bfi 100),(97,X97 100),(150,Bss 100),(185,Bs7 100),(186,Bs8 100),(210,Bl8 100),(192,Bl4 100),(211,Bl9 100),(193,Bta 100),(194,Btb 100),(222,Bmd 100),(221,Bth 100),(228,Bmf 100),(223,Bti 100),(224,Btj 100),(214,Bmb 100),(195,Btc 100),(165,Bl3 100),(220,Btg 100),(212,Bma 100),(187,Bs9 100),(151,Bst 100),(112,Br9 100),(152,Bl2 100),(116,Bsa 100),(157,Bsu 100),(118,Bsb 100),(60,X60 100),(121,Bsc 100),(61,X61 100),(36,X36 100),(37,X37 100),(38,X38 100),(122,Bly 100),(161,Bsv 100),(123,Bsd 100),(162,Bfp 100),(124,Bfh 100),(125,Bse 100),(126,Bsf 100),(127,Bsg 100),(128,Bsh 100),(64,X64 100),(39,X39 100),(20,X20 100),(21,X21 100),(22,X22 100),(8,X8 100),(45,X45 100),(70,X70 100),(69,X69 100),(46,X46 100),(30,X30 100),(48,X48 100),(47,X47 100),(50,X50 100),(71,X71 100),(131,A9p 100),(78,X78 100),(72,X72 100),(49,X49 100),(73,X73 100),(174,Bsy 100),(178,Bs1 100),(138,Bfk 100),(143,Bsq 100),(144,Bl0 100),(145,Bsr 100),(85,X85 100),(132,Bsi 100),(204,Btd 100),(205,Bte 100),(225,Bme 100),(229,Btm 100),(226,Btk 100),(180,Bs3 100),(181,Bs4 100),(207,Bl5 100),(208,Bl6 100),(209,Bl7 100),(182,Bs5 100),(142,Blz 100),(230,Btn 100),(227,Btl 100),(218,Bmc 100),(206,Btf 100),(175,Bsz 100),(133,Bsj 100),(74,X74 100),(134,Bsk 100),(75,X75 100),(176,Bs0 100),(135,Bsl 100),(76,X76 100),(51,X51 100),(77,X77 100),(52,X52 100),(31,X31 100),(32,X32 100),(33,X33 100),(79,X79 100),(136,Bfj 100),(177,Byu 100),(137,Bsm 100),(80,X80 100),(179,Bs2 100),(139,Bsn 100),(140,Bso 100),(141,Bsp 100),(81,X81 100),(82,X82 100),(83,X83 100),(84,X84 100),(53,X53 100),(34,X34 100),(18,X18 100),(67,X67 100),(23,X23 100),(9,X9 100),(10,X10 100),(11,X11 100),(24,X24 100),(12,X12 100),(13,X13 100)]
def iA7:Nat→Bool:=fun f=>inL f [40,41,42,43,56,57,58,59,62,63,65,66,86,87,88,89,90,91,92,93,94,98,99,100,101,102,103,104,105,106,107,108,109,110,111,113,114,115,117,119,120,153,154,155,156,159,160,163,164,166,167,184,188,189,190,191,196,197,198,213,215,219,1102869988105,1102869988110,1114410582365,4398046511170]
def nA7:Nat→Bool:=fun f=>inL f [54,55,35,146,158,95,147,96,29,148,183,149,168,169,129,97,150,185,186,210,192,211,193,194,222,221,228,223,224,214,195,165,220,212,187,151,112,152,116,157,118,60,121,61,36,37,38,122,161,123,162,124,125,126,127,128,64,39,20,21,22,8,45,70,69,46,30,48,47,50,71,131,78,72,49,73,174,178,138,143,144,145,85,132,204,205,225,229,226,180,181,207,208,209,182,142,230,227,218,206,175,133,74,134,75,176,135,76,51,77,52,31,32,33,79,136,177,137,80,179,139,140,141,81,82,83,84,53,34,18,67,23,9,10,11,24,12,13]
def X7(L:Nat):Di:=E0 B 7 (Ew L) fun r h=>by
 injection h with h
 subst h
 exact A76 (inl:=iA7) (nb:=nA7) (base:=oA7) Bkn mixed (A8e _ (by kernel_rfl)) 100 9 40 (fun kk=>by kernel_rfl)
def Tv [An A Bool](a0:F6):A:=
 (jp (.cn (decide ((a0.Recs.length:Int) > 300))
 (.lf true)
 (.cn (decide (a0.N > 60))
 (.lf (decide (a0.N≤1000)))
 (.lf false))) (fun b1=>
 (cn b1
 (bd (Ew L) fun r2=>
 (lf r2))
 (bd (Mk L (⟨a0.P.Name,a0.P.Sites,a0.P.Links⟩:Ac) a0.Recs a0.Site a0.T) fun r3=>
 (bd (Av5 L (⟨a0.P.Name,a0.P.Sites,a0.P.Links⟩:Ac) a0.Recs a0.Site a0.T) fun r4=>
 (bd (N7 L (⟨a0.P.Name,a0.P.Sites,a0.P.Links⟩:Ac) a0.Recs a0.Site a0.T a0.Step a0.N) fun r5=>
 (bd (Aig L (⟨a0.P.Name,a0.P.Sites,a0.P.Links⟩:Ac) a0.Recs a0.Site a0.T a0.Step a0.N) fun r6=>
 (jb (.cn (r3.2 == r4.2)
 (.bd (H8 L r3.1 r4.1) fun r8=>
 (.lf r8))
 (.lf false)) (fun b7=>
 (jp (.cn b7
 (.lf (r5.2 == r6.2))
 (.lf false)) (fun b9=>
 (jb (.cn b9
 (.bd (Acj L r5.1 r6.1) fun r11=>
 (.lf r11))
 (.lf false)) (fun b10=>
 (jb (.cn b10
 (.bd (Ew L) fun r13=>
 (.lf r13))
 (.lf false)) (fun b12=>
 (lf b12))))))))))))))))
def Ag4(a0:F6):Option Bool:=Tv L a0
theorem h3(a0:F6)(r:Bool)(h:Ag4 L a0=some r):Kx Tryz.prog 3 [.agg (L2 a0)] (B r):=(show Ho Tryz.prog 3 [.agg (L2 a0)] B r from hF Tryz.func3 (oS [X7 L,X8 L,X9 L,X10 L,X11 L,X12 L,X13 L]) L (fun kk=>eE (Tv L a0)) h)
def c4:=CC Tryz.f4
def O4:Bi:=oL [X7 L,X8 L,X10 L,X12 L]
def Bk7(r3:(List Ak)×Int)(a0:F6)(v:N2):St:=⟨[(0,.any),(1,.loc 1 0),(2,B v.1),(3,lv (.t32 r3.1)),(4,.any),(5,I v.2)],[(1,(L2 a0))],0⟩
def M3 [An A (Nat×N2)](r3:(List Ak)×Int)(a0:F6)(rec:Bool→Int→A)(Ar:Bool)(Ao:Int):A:=
 (cn (decide (Ao < (r3.1.length:Int)))
 (bd (Mk L (⟨a0.P.Name,a0.P.Sites,a0.P.Links⟩:Ac) a0.Recs a0.Site (Bo (a0.T+(Bo (Ao*a0.Step))))) fun r6=>
 (cn (r6.2 != 0)
 (lf (0,false,Ao))
 (gi Ao r3.1
 (bd (H8 L r6.1 (r3.1.getD (Int.toNat Ao) default)) fun r7=>
 (cn (!r7)
 (lf (0,false,Ao))
 (rec Ar (Bo (Ao+1))))))))
 (lf (1,Ar,Ao)))
def Ic(L:Nat)(r3:(List Ak)×Int)(a0:F6):Nat→Bool→Int→Option (Nat×N2)
 |0,_,_=>none
 |n+1,Ar,Ao=>M3 L r3 a0 (Ic L r3 a0 n) Ar Ao
theorem Bvb(r3:(List Ak)×Int)(a0:F6):LP (EV (O4 L) L 9 c4.x.u.l.u.l.l) [0,1,2,3,4,5] [1] (Bk7 r3 a0) [.ret,.exit 0] (fun n v=>Ic L r3 a0 n v.1 v.2) K:=lE (fun _=>rfl) fun n v ih=>eE (M3 L r3 a0 (fun Ar Ao=>re (ih (Ar,Ao))) v.1 v.2)
def Ig [An A Bool](o8:Nat×N2):A:=
 (sl o8.1 [(lf o8.2.1),
 (bd (Ew L) fun r9=>
 (lf r9))])
def Bko:Bg:=(Bb 0 (Bp (EV (O4 L) L 9 c4.x.u.r) (Ct Tryz.prog (RS Tryz.f4) kk)))
theorem Bzt(r3:(List Ak)×Int)(a0:F6)(o8:Nat×N2):kX [.ret,.exit 0] (Bk7 r3 a0) (Bko L kk) o8=ob (Ig L o8) (kQ B kk):=eE (Ig L o8)
def N0 [An A Bool](a0:F6)(nx1:((List Ak)×Int)→A):A:=
 (jp (.cn (decide ((a0.Recs.length:Int) > 300))
 (.lf true)
 (.cn (decide (a0.N > 60))
 (.lf (decide (a0.N≤1000)))
 (.lf false))) (fun b1=>
 (cn b1
 (bd (Ew L) fun r2=>
 (lf r2))
 (bd (N7 L (⟨a0.P.Name,a0.P.Sites,a0.P.Links⟩:Ac) a0.Recs a0.Site a0.T a0.Step a0.N) fun r3=>
 (cn (r3.2 != 0)
 (jb (.cn ((r3.1.length:Int) == 0)
 (.bd (Ew L) fun r5=>
 (.lf r5))
 (.lf false)) (fun b4=>
 (lf b4)))
 (cn ((r3.1.length:Int) != a0.N)
 (lf false)
 (nx1 r3)))))))
def Afi [An A Bool](a0:F6):A:=N0 L a0 (fun r3=>bd (Ic L r3 a0 L false 0) fun o8=>Ig L o8)
def Aff(a0:F6):Option Bool:=Afi L a0
theorem h4(a0:F6)(r:Bool)(h:Aff L a0=some r):Kx Tryz.prog 4 [.agg (L2 a0)] (B r):=(show Ho Tryz.prog 4 [.agg (L2 a0)] B r from hF Tryz.func4 (C:=O4 L) (oS _) L (fun kk=>eE (N0 L a0 (fun r3=>ho (Bvb L (Bko L kk) r3 a0 L (false,0)) fun o8=>Bzt L kk r3 a0 o8))) h)
def Acq [An A Bool](L:Nat)(a0:Ak):A:=
 (jp (.cn (decide ((a0.Procs.length:Int)≤50))
 (.lf (decide ((a0.Held.length:Int)≤50)))
 (.lf false)) (fun b1=>
 (jp (.cn b1
 (.lf (decide ((a0.Waiting.length:Int)≤50)))
 (.lf false)) (fun b2=>
 (jp (.cn b2
 (.lf (decide ((a0.Items.length:Int)≤50)))
 (.lf false)) (fun b3=>
 (lf b3)))))))
def Qb(a0:Ak):Option Bool:=Acq L a0
def X14:Di:=E1 B 14 Ia (Qb L) fun a0 r h=>hF Tryz.func14 (oS []) L (fun kk=>eE (Acq L a0)) h
def Mt(L:Nat)(a0:Int):Option ByteArray:=if -9223372036854775808≤a0∧a0≤9223372036854775807 then some (Baz a0) else none
def X44(L:Nat):Di:=E1 S 44 (cI .i64) (Mt L) fun a0 r h=>by
 unfold Mt at h
 split at h
 ·rename_i hn
  injection h with h
  subst h
  exact Bh5 a0 hn.1 hn.2
 ·cases h
def Ahg [An A ByteArray](a0:Int):A:=
 (bd (Mt L a0) fun r1=>
 (lf r1))
def Lw(a0:Int):Option ByteArray:=Ahg L a0
def X25:Di:=E1 S 25 (cI .i64) (Lw L) fun a0 r h=>hF Tryz.func25 (oS [X44 L]) L (fun kk=>eE (Ahg L a0)) h
def c26:=CC Tryz.f26
def O26:Bi:=oL [X25 L]
def Bds(a1:List Int)(v:ByteArray×Int):St:=⟨[(0,S v.1),(1,.any),(4,S (⟨#[]⟩:ByteArray)),(7,lv (.t3 a1)),(8,I (a1.length:Int)),(9,I v.2)],[],0⟩
def Jb [An A (Nat×ByteArray×Int)](a1:List Int)(rec:ByteArray→Int→A)(Ar:ByteArray)(Ae:Int):A:=
 (lw Ae a1
 (bd (Lw L (a1.getD (Int.toNat Ae) default)) fun r1=>
 (cn (!decide ((((⟨#[32]⟩:ByteArray).size+r1.size:Nat):Int) > IntKind.i64.max))
 (cn (!decide (((Ar.size+((⟨#[32]⟩:ByteArray)++r1).size:Nat):Int) > IntKind.i64.max))
 (rec (Ar++((⟨#[32]⟩:ByteArray)++r1)) (Bo (Ae+1)))
 fl)
 fl))
 (lf (0,Ar,Ae)))
def Ej(L:Nat)(a1:List Int):Nat→ByteArray→Int→Option (Nat×ByteArray×Int)
 |0,_,_=>none
 |n+1,Ar,Ae=>Jb L a1 (Ej L a1 n) Ar Ae
theorem Bnz(a1:List Int):LP (EV (O26 L) L 9 c26.u.l.u.l.l) [0,1,4,7,8,9] [] (Bds a1) [.exit 0] (fun n v=>Ej L a1 n v.1 v.2) K:=lE (fun _=>rfl) fun n v ih=>eE (Jb L a1 (fun Ar Ae=>re (ih (Ar,Ae))) v.1 v.2)
def Hk [An A ByteArray](L:Nat)(o2:Nat×ByteArray×Int):A:=
 (sl o2.1 [(cn (!decide (((o2.2.1.size+(⟨#[10]⟩:ByteArray).size:Nat):Int) > IntKind.i64.max))
 (lf (o2.2.1++(⟨#[10]⟩:ByteArray)))
 fl)])
def Bbl:Bg:=(Bb 0 (Bp (EV (O26 L) L 9 c26.u.r) (Ct Tryz.prog (RS Tryz.f26) kk)))
theorem Bv1(a1:List Int)(o2:Nat×ByteArray×Int):kX [.exit 0] (Bds a1) (Bbl L kk) o2=ob (Hk L o2) (kQ S kk):=eE (Hk L o2)
def Acw [An A ByteArray](a0:ByteArray)(a1:List Int):A:=(bd (Ej L a1 L a0 0) fun o2=>Hk L o2)
def Gk(a0:ByteArray)(a1:List Int):Option ByteArray:=Acw L a0 a1
def X26:Di:=E2 S 26 cS cl3 (Gk L) fun a0 a1 r h=>hF Tryz.func26 (C:=O26 L) (oS _) L (fun kk=>eE ((ho (Bnz L (Bbl L kk) a1 L (a0,0)) fun o2=>Bv1 L kk a1 o2))) h
def Ty [An A ByteArray](a0:Ak):A:=
 (bd (Lw L a0.Time) fun r1=>
 (cn (!decide ((((⟨#[97,116,32]⟩:ByteArray).size+r1.size:Nat):Int) > IntKind.i64.max))
 (cn (!decide (((((⟨#[97,116,32]⟩:ByteArray)++r1).size+(⟨#[32,115,105,116,101,32]⟩:ByteArray).size:Nat):Int) > IntKind.i64.max))
 (bd (Lw L a0.Site) fun r2=>
 (cn (!decide ((((((⟨#[97,116,32]⟩:ByteArray)++r1)++(⟨#[32,115,105,116,101,32]⟩:ByteArray)).size+r2.size:Nat):Int) > IntKind.i64.max))
 (cn (!decide (((((((⟨#[97,116,32]⟩:ByteArray)++r1)++(⟨#[32,115,105,116,101,32]⟩:ByteArray))++r2).size+(⟨#[10]⟩:ByteArray).size:Nat):Int) > IntKind.i64.max))
 (bd (Gk L (⟨#[112,114,111,99,115]⟩:ByteArray) a0.Procs) fun r3=>
 (cn (!decide ((((((((⟨#[97,116,32]⟩:ByteArray)++r1)++(⟨#[32,115,105,116,101,32]⟩:ByteArray))++r2)++(⟨#[10]⟩:ByteArray)).size+r3.size:Nat):Int) > IntKind.i64.max))
 (bd (Gk L (⟨#[104,101,108,100]⟩:ByteArray) a0.Held) fun r4=>
 (cn (!decide (((((((((⟨#[97,116,32]⟩:ByteArray)++r1)++(⟨#[32,115,105,116,101,32]⟩:ByteArray))++r2)++(⟨#[10]⟩:ByteArray))++r3).size+r4.size:Nat):Int) > IntKind.i64.max))
 (bd (Gk L (⟨#[119,97,105,116,105,110,103]⟩:ByteArray) a0.Waiting) fun r5=>
 (cn (!decide ((((((((((⟨#[97,116,32]⟩:ByteArray)++r1)++(⟨#[32,115,105,116,101,32]⟩:ByteArray))++r2)++(⟨#[10]⟩:ByteArray))++r3)++r4).size+r5.size:Nat):Int) > IntKind.i64.max))
 (bd (Gk L (⟨#[105,116,101,109,115]⟩:ByteArray) a0.Items) fun r6=>
 (cn (!decide (((((((((((⟨#[97,116,32]⟩:ByteArray)++r1)++(⟨#[32,115,105,116,101,32]⟩:ByteArray))++r2)++(⟨#[10]⟩:ByteArray))++r3)++r4)++r5).size+r6.size:Nat):Int) > IntKind.i64.max))
 (lf (((((((((⟨#[97,116,32]⟩:ByteArray)++r1)++(⟨#[32,115,105,116,101,32]⟩:ByteArray))++r2)++(⟨#[10]⟩:ByteArray))++r3)++r4)++r5)++r6))
 fl))
 fl))
 fl))
 fl))
 fl)
 fl))
 fl)
 fl))
def Hw(a0:Ak):Option ByteArray:=Ty L a0
def X15:Di:=E1 S 15 Ia (Hw L) fun a0 r h=>hF Tryz.func15 (oS [X25 L,X26 L]) L (fun kk=>eE (Ty L a0)) h
end
end Go.Proofs.YthjhkpgonleelaaGreatDoor.Ev
