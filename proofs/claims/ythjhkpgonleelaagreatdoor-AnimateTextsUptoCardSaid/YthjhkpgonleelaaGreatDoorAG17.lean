import Derived.Test.YthjhkpgonleelaaGreatDoorAG0
namespace Go.Proofs.YthjhkpgonleelaaGreatDoor.Ev
open Go An
set_option maxRecDepth 100000
set_option maxHeartbeats 4000000
set_option linter.unusedVariables false
set_option linter.unusedSimpArgs false
set_option linter.unnecessarySimpa false
noncomputable section
variable {A:Type} (L n:Nat) (kk:Cc) (K:Bg) (k:Bu)
def Bff(F:Int→Option ByteArray):Prop:=∀y0 r,F y0=some r→Ho Tryz.prog 27 [(cI .i64).en y0] S r
def O27(Qz:Int→Option ByteArray)(L:Nat):Bi:=(orc 27 (A1 S (cI .i64) Qz) (oL []))
theorem s27(Qz:Int→Option ByteArray)(Bm3:Bff Qz)(L:Nat):Cz Tryz.prog (O27 Qz L):=(De (a1 _ Bm3) (oS []))
def Lz [An A ByteArray](Qz:Int→Option ByteArray)(L:Nat)(a0:Int):A:=
 (jp (.cn (decide (a0≥0))
 (.lf (decide (a0 < 10)))
 (.lf false)) (fun b1=>
 (cn b1
 (gq (0≤a0)
 (gq ((a0:Int)≤(Bo (a0+1)))
 (gq (((Bo (a0+1)):Int)≤10)
 (lf ((⟨#[48,49,50,51,52,53,54,55,56,57]⟩:ByteArray).extract (Int.toNat a0) (Int.toNat (Bo (a0+1))))))))
 (cn (decide (a0 > 0))
 (bd (Qz (Bo (Int.tdiv a0 10))) fun r2=>
 (bd (Qz (Int.tmod a0 10)) fun r3=>
 (cn (!decide (((r2.size+r3.size:Nat):Int) > IntKind.i64.max))
 (lf (r2++r3))
 fl)))
 (cn (decide (a0 > (-10)))
 (bd (Qz (Bo (0 - a0))) fun r4=>
 (cn (!decide ((((⟨#[45]⟩:ByteArray).size+r4.size:Nat):Int) > IntKind.i64.max))
 (lf ((⟨#[45]⟩:ByteArray)++r4))
 fl))
 (bd (Qz (Bo (Int.tdiv a0 10))) fun r5=>
 (bd (Qz (Bo (0 - (Int.tmod a0 10)))) fun r6=>
 (cn (!decide (((r5.size+r6.size:Nat):Int) > IntKind.i64.max))
 (lf (r5++r6))
 fl))))))))
def Ls(Qz:Int→Option ByteArray)(L:Nat)(a0:Int):Option ByteArray:=Lz Qz L a0
theorem b27(Qz:Int→Option ByteArray)(Bm3:Bff Qz)(L:Nat):Bff (Ls Qz L):=fun a0 r h=>hF Tryz.func27 (s27 Qz Bm3 L) L (fun kk=>eE (Lz Qz L a0)) h
def Dm:Nat→Int→Option ByteArray
 |0,_=>none
 |L+1,a0=>Ls (Dm L) L a0
theorem Bm1(L:Nat):Bff (Dm L):=by
 induction L with
 |zero=>exact fun _ _ h=>(by cases h)
 |succ L ih=>
  have i27:=ih
  exact b27 (Dm L) i27 L
def X27(L:Nat):Di:=E1 S 27 (cI .i64) (Dm L) (Bm1 L)
def c28:=CC Tryz.f28
def O28:Bi:=oL [X27 L]
def Bdt(a1:List Int)(v:ByteArray×Int):St:=⟨[(0,S v.1),(1,lv (.t3 a1)),(4,S (⟨#[]⟩:ByteArray)),(5,I v.2)],[],0⟩
def P4 [An A (Nat×ByteArray×Int)](a1:List Int)(rec:ByteArray→Int→A)(Ar:ByteArray)(Ag:Int):A:=
 (cn (decide (Ag < (a1.length:Int)))
 (cn (!decide (((Ar.size+(⟨#[32]⟩:ByteArray).size:Nat):Int) > IntKind.i64.max))
 (gi Ag a1
 (bd (Dm L (a1.getD (Int.toNat Ag) default)) fun r1=>
 (cn (!decide ((((Ar++(⟨#[32]⟩:ByteArray)).size+r1.size:Nat):Int) > IntKind.i64.max))
 (rec ((Ar++(⟨#[32]⟩:ByteArray))++r1) (Bo (Ag+1)))
 fl)))
 fl)
 (lf (0,Ar,Ag)))
def Hq(L:Nat)(a1:List Int):Nat→ByteArray→Int→Option (Nat×ByteArray×Int)
 |0,_,_=>none
 |n+1,Ar,Ag=>P4 L a1 (Hq L a1 n) Ar Ag
theorem Bn0(a1:List Int):LP (EV (O28 L) L 9 c28.u.l.u.l.l) [0,1,4,5] [] (Bdt a1) [.exit 0] (fun n v=>Hq L a1 n v.1 v.2) K:=lE (fun _=>rfl) fun n v ih=>eE (P4 L a1 (fun Ar Ag=>re (ih (Ar,Ag))) v.1 v.2)
def K4 [An A ByteArray](L:Nat)(o2:Nat×ByteArray×Int):A:=
 (sl o2.1 [(cn (!decide (((o2.2.1.size+(⟨#[10]⟩:ByteArray).size:Nat):Int) > IntKind.i64.max))
 (lf (o2.2.1++(⟨#[10]⟩:ByteArray)))
 fl)])
def Bbm:Bg:=(Bb 0 (Bp (EV (O28 L) L 9 c28.u.r) (Ct Tryz.prog (RS Tryz.f28) kk)))
theorem Bv2(a1:List Int)(o2:Nat×ByteArray×Int):kX [.exit 0] (Bdt a1) (Bbm L kk) o2=ob (K4 L o2) (kQ S kk):=eE (K4 L o2)
def Apy [An A ByteArray](a0:ByteArray)(a1:List Int):A:=(bd (Hq L a1 L a0 0) fun o2=>K4 L o2)
def Lv(a0:ByteArray)(a1:List Int):Option ByteArray:=Apy L a0 a1
def X28:Di:=E2 S 28 cS cl3 (Lv L) fun a0 a1 r h=>hF Tryz.func28 (C:=O28 L) (oS _) L (fun kk=>eE ((ho (Bn0 L (Bbm L kk) a1 L (a0,0)) fun o2=>Bv2 L kk a1 o2))) h
def Ahe [An A ByteArray](a0:Ak):A:=
 (bd (Dm L a0.Time) fun r1=>
 (cn (!decide ((((⟨#[97,116,32]⟩:ByteArray).size+r1.size:Nat):Int) > IntKind.i64.max))
 (cn (!decide (((((⟨#[97,116,32]⟩:ByteArray)++r1).size+(⟨#[32,115,105,116,101,32]⟩:ByteArray).size:Nat):Int) > IntKind.i64.max))
 (bd (Dm L a0.Site) fun r2=>
 (cn (!decide ((((((⟨#[97,116,32]⟩:ByteArray)++r1)++(⟨#[32,115,105,116,101,32]⟩:ByteArray)).size+r2.size:Nat):Int) > IntKind.i64.max))
 (cn (!decide (((((((⟨#[97,116,32]⟩:ByteArray)++r1)++(⟨#[32,115,105,116,101,32]⟩:ByteArray))++r2).size+(⟨#[10]⟩:ByteArray).size:Nat):Int) > IntKind.i64.max))
 (bd (Lv L (⟨#[112,114,111,99,115]⟩:ByteArray) a0.Procs) fun r3=>
 (cn (!decide ((((((((⟨#[97,116,32]⟩:ByteArray)++r1)++(⟨#[32,115,105,116,101,32]⟩:ByteArray))++r2)++(⟨#[10]⟩:ByteArray)).size+r3.size:Nat):Int) > IntKind.i64.max))
 (bd (Lv L (⟨#[104,101,108,100]⟩:ByteArray) a0.Held) fun r4=>
 (cn (!decide (((((((((⟨#[97,116,32]⟩:ByteArray)++r1)++(⟨#[32,115,105,116,101,32]⟩:ByteArray))++r2)++(⟨#[10]⟩:ByteArray))++r3).size+r4.size:Nat):Int) > IntKind.i64.max))
 (bd (Lv L (⟨#[119,97,105,116,105,110,103]⟩:ByteArray) a0.Waiting) fun r5=>
 (cn (!decide ((((((((((⟨#[97,116,32]⟩:ByteArray)++r1)++(⟨#[32,115,105,116,101,32]⟩:ByteArray))++r2)++(⟨#[10]⟩:ByteArray))++r3)++r4).size+r5.size:Nat):Int) > IntKind.i64.max))
 (bd (Lv L (⟨#[105,116,101,109,115]⟩:ByteArray) a0.Items) fun r6=>
 (cn (!decide (((((((((((⟨#[97,116,32]⟩:ByteArray)++r1)++(⟨#[32,115,105,116,101,32]⟩:ByteArray))++r2)++(⟨#[10]⟩:ByteArray))++r3)++r4)++r5).size+r6.size:Nat):Int) > IntKind.i64.max))
 (lf (((((((((⟨#[97,116,32]⟩:ByteArray)++r1)++(⟨#[32,115,105,116,101,32]⟩:ByteArray))++r2)++(⟨#[10]⟩:ByteArray))++r3)++r4)++r5)++r6))
 fl))
 fl))
 fl))
 fl))
 fl)
 fl))
 fl)
 fl))
def w4(a0:Ak):Option ByteArray:=Ahe L a0
def X16:Di:=E1 S 16 Ia (w4 L) fun a0 r h=>hF Tryz.func16 (oS [X27 L,X28 L]) L (fun kk=>eE (Ahe L a0)) h
end
end Go.Proofs.YthjhkpgonleelaaGreatDoor.Ev
