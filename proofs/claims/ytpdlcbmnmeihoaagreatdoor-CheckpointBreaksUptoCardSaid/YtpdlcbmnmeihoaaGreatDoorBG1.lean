import Derived.Test.YtpdlcbmnmeihoaaGreatDoorBG0
set_option maxRecDepth 100000
set_option maxHeartbeats 4000000
set_option linter.unusedVariables false
set_option linter.unusedSimpArgs false
set_option linter.unnecessarySimpa false
namespace Go.Proofs.YtpdlcbmnmeihoaaGreatDoor.Ev
open Go An
noncomputable section
variable {A : Type} (L n : Nat) (kk : KontV) (K : KontX) (k : KontP)
/-! ### simulator/codec.Sum -/
def c24 := CC Tryz.f24
def O24 (L : Nat) : Oracle := oL []
def sh24_2 (a0 : (List Int)) (v1_4 : Int) (v : (Int × Int)) : St := ⟨[(0, .any), (2, I 0), (3, V .u32 v.1), (5, V .u8 (gD a0 v1_4)), (7, lv (.t5 a0)), (8, I (a0.length : Int)), (9, I v1_4), (17, I v.2)], [], 0⟩
def lb_codec_Sum_2 [An A (Nat × (Int × Int))]  (L : Nat) (a0 : (List Int)) (v1_4 : Int) (rec : Int → Int → A) (v2_1 : Int) (v2_6 : Int) : A :=
 (cn (decide (v2_6 < 8))
 (cn ((IntKind.wrap .u32 (((BitVec.ofInt 32 v2_1 &&& BitVec.ofInt 32 1).toNat : Int))) == 1)
 (rec (IntKind.wrap .u32 (((BitVec.ofInt 32 (Int.fdiv v2_1 (2 ^ 1)) ^^^ BitVec.ofInt 32 2197175160).toNat : Int))) (w64 (v2_6 + 1)))
 (rec (Int.fdiv v2_1 (2 ^ 1)) (w64 (v2_6 + 1))))
 (lf (0, (v2_1, v2_6))))
def lp_codec_Sum_2  (L : Nat) (a0 : (List Int)) (v1_4 : Int) : Nat → Int → Int → Option (Nat × (Int × Int))
  | 0, _, _ => none
  | n + 1, v2_1, v2_6 => lb_codec_Sum_2  L a0 v1_4 (lp_codec_Sum_2  L a0 v1_4 n) v2_1 v2_6
theorem le24_2  (a0 : (List Int)) (v1_4 : Int) : LP (EV (O24 L) L 9 c24.w.l.u.l.l.w.l.l.w.u.l.l) [0, 2, 3, 5, 7, 8, 9, 17] [] (sh24_2 a0 v1_4) [.exit 2] (fun n v => lp_codec_Sum_2  L a0 v1_4 n v.1 v.2) K := lE (fun _ => rfl) fun n v ih => eE (lb_codec_Sum_2  L a0 v1_4 (fun v2_1 v2_6 => re (ih (v2_1, v2_6))) v.1 v.2)
def sh24_1 (a0 : (List Int)) (v : (Int × Int)) : St := ⟨[(0, .any), (2, I 0), (3, V .u32 v.1), (7, lv (.t5 a0)), (8, I (a0.length : Int)), (9, I v.2)], [], 0⟩
def rx_codec_Sum_1 [An A (Nat × (Int × Int))]  (L : Nat) (v1_4 : Int) (rec : Int → Int → A) (o1 : Nat × (Int × Int)) : A :=
 (sl o1.1 [(rec o1.2.1 (w64 (v1_4 + 1)))])
def wx_codec_Sum_1 [An A (Nat × (Int × Int))]  (L : Nat) (a0 : (List Int)) (rec : Int → Int → A) (v1_1 : Int) (v1_4 : Int) (nx1 : Int → Int → A) : A :=
 (lw v1_4 a0
 (nx1 v1_4 v1_1)
 (lf (0, (v1_1, v1_4))))
def lb_codec_Sum_1 [An A (Nat × (Int × Int))]  (a0 : (List Int)) (rec : Int → Int → A) (v1_1 : Int) (v1_4 : Int) : A := wx_codec_Sum_1  L a0 rec v1_1 v1_4 (fun v1_4 v1_1 => bd (lp_codec_Sum_2 L a0 v1_4 L (IntKind.wrap .u32 (((BitVec.ofInt 32 v1_1 ^^^ BitVec.ofInt 32 (IntKind.wrap .u32 ((gD a0 v1_4)))).toNat : Int))) 0) fun o1 => rx_codec_Sum_1  L v1_4 rec o1)
def lp_codec_Sum_1  (L : Nat) (a0 : (List Int)) : Nat → Int → Int → Option (Nat × (Int × Int))
  | 0, _, _ => none
  | n + 1, v1_1, v1_4 => lb_codec_Sum_1  L a0 (lp_codec_Sum_1  L a0 n) v1_1 v1_4
theorem le24_1  (a0 : (List Int)) : LP (EV (O24 L) L 9 c24.w.l.u.l.l) [0, 2, 3, 7, 8, 9] [] (sh24_1 a0) [.exit 0] (fun n v => lp_codec_Sum_1  L a0 n v.1 v.2) K := lE (fun _ => rfl) fun n v ih => eE (wx_codec_Sum_1  L a0 (fun v1_1 v1_4 => re (ih (v1_1, v1_4))) v.1 v.2 (fun v1_4 v1_1 => hq (le24_2 L (KA (O24 L) L 9 c24.w.l.u.l.l (rl [4, 2, 6, 1]) (kRound (loopN (EV (O24 L) L 9 c24.w.l.u.l.l) [0, 2, 3, 7, 8, 9] [] n) [0, 2, 3, 7, 8, 9] [] K)) a0 v1_4 L ((IntKind.wrap .u32 (((BitVec.ofInt 32 v1_1 ^^^ BitVec.ofInt 32 (IntKind.wrap .u32 ((gD a0 v1_4)))).toNat : Int))), 0)) fun o1 => rx_codec_Sum_1  L v1_4 (fun v1_1 v1_4 => re (ih (v1_1, v1_4))) o1))
def rx_codec_Sum_2 [An A Int]  (L : Nat)   (o2 : Nat × (Int × Int)) : A :=
 (sl o2.1 [(lf (w64 ((IntKind.wrap .u32 (((BitVec.ofInt 32 o2.2.1 ^^^ BitVec.ofInt 32 4294967295).toNat : Int))))))])
def T_codec_Sum [An A Int]  (a0 : (List Int))   : A := (bd (lp_codec_Sum_1 L a0 L 4294967295 0) fun o2 => rx_codec_Sum_2  L   o2)
def F_codec_Sum  (a0 : (List Int)) : Option Int := T_codec_Sum L a0
def X24 : EnP := E1 I 24 cl5 (F_codec_Sum L) fun a0 r h => hF Tryz.func24 (C := O24 L) (oS _) L (fun kk => eE ((hq (le24_1 L (KA (O24 L) L 9 c24 (rl [4, 1, 2, 1]) (KE Tryz.f24 kk)) a0 L (4294967295, 0)) fun o2 => rx_codec_Sum_2  L   o2))) h
end
end Go.Proofs.YtpdlcbmnmeihoaaGreatDoor.Ev
