import Derived.Test.YtcbandfdmbkokaaGreatG1
namespace Go.Proofs.YtcbandfdmbkokaaGreat.Ev
open Go
set_option maxRecDepth 100000
set_option linter.unusedVariables false
set_option linter.unusedSimpArgs false
set_option linter.unnecessarySimpa false
/-! ### simulator/typing.binary -/
noncomputable def c50 : EC := (cFn Tryz.prog inl Tryz.f50).getD .stop
def O50  (L : Nat) : Oracle := (orc 85 (A1 (fun (x : Bool) => B x) (cI .i64) (F_typing_measures L)) noC)
theorem s50   (L : Nat) : SoundC Tryz.prog (O50 L) := (orc_sound (a1 _ (h85 L)) (noC_sound Tryz.prog))
def T_typing_binary {A : Type} (an : An A)  (L : Nat) (a0 : Int) (a1 : Int) (a2 : Int) (out : Int → A) : A :=
 (an.jp (bif (a1 == 1) then (a2 == 1)
 else false) (fun j => (an.cn (a1 == 1)
 (an.ap j (a2 == 1))
 (an.ap j false))) (fun b1 =>
 (an.cn (a0 == 9)
 (an.cn (a0 == 9)
 (an.jb (bif (a1 == a2) then (Option.bind (F_typing_measures L a1) fun r3 =>
 (some r3))
 else (some false)) (fun j => (an.cn (a1 == a2)
 (an.bd (F_typing_measures L a1) fun r4 =>
 (an.lf j r4))
 (an.lf j false))) (fun b2 =>
 (an.cn b2
 (an.lf out a1)
 (an.lf out 0))))
 (an.cn (a0 == 11)
 (an.cn b1
 (an.lf out 1)
 (an.bd (F_typing_measures L a1) fun r5 =>
 (an.jb (bif r5 then (Option.bind (F_typing_measures L a2) fun r7 =>
 (some r7))
 else (some false)) (fun j => (an.cn r5
 (an.bd (F_typing_measures L a2) fun r8 =>
 (an.lf j r8))
 (an.lf j false))) (fun b6 =>
 (an.jp (bif b6 then (a1 != a2)
 else false) (fun j => (an.cn b6
 (an.ap j (a1 != a2))
 (an.ap j false))) (fun b9 =>
 (an.cn b9
 (an.lf out 3)
 (an.lf out 0))))))))
 (an.cn (a0 == 12)
 (an.cn b1
 (an.cn b1
 (an.lf out 1)
 (an.jp (bif (a1 == 3) then (a2 == 1)
 else false) (fun j => (an.cn (a1 == 3)
 (an.ap j (a2 == 1))
 (an.ap j false))) (fun b10 =>
 (an.cn b10
 (an.lf out 3)
 (an.lf out 0)))))
 (an.jp (bif (a1 == 3) then (a2 == 3)
 else false) (fun j => (an.cn (a1 == 3)
 (an.ap j (a2 == 3))
 (an.ap j false))) (fun b11 =>
 (an.cn b11
 (an.lf out 1)
 (an.jp (bif (a1 == 3) then (a2 == 1)
 else false) (fun j => (an.cn (a1 == 3)
 (an.ap j (a2 == 1))
 (an.ap j false))) (fun b12 =>
 (an.cn b12
 (an.lf out 3)
 (an.lf out 0))))))))
 (an.cn (a0 == 14)
 (an.cn (a0 == 14)
 (an.cn (a1 == a2)
 (an.lf out 2)
 (an.lf out 0))
 (an.cn (a0 == 16)
 (an.cn (a0 == 16)
 (an.jb (bif (a1 == a2) then (Option.bind (F_typing_measures L a1) fun r14 =>
 (some r14))
 else (some false)) (fun j => (an.cn (a1 == a2)
 (an.bd (F_typing_measures L a1) fun r15 =>
 (an.lf j r15))
 (an.lf j false))) (fun b13 =>
 (an.cn b13
 (an.lf out 2)
 (an.lf out 0))))
 (an.cn (a0 == 18)
 (an.cn (a0 == 18)
 (an.jp (bif (a1 == 2) then (a2 == 2)
 else false) (fun j => (an.cn (a1 == 2)
 (an.ap j (a2 == 2))
 (an.ap j false))) (fun b16 =>
 (an.cn b16
 (an.lf out 2)
 (an.lf out 0))))
 (an.lf out 0))
 (an.cn (a0 == 19)
 (an.jp (bif (a1 == 2) then (a2 == 2)
 else false) (fun j => (an.cn (a1 == 2)
 (an.ap j (a2 == 2))
 (an.ap j false))) (fun b17 =>
 (an.cn b17
 (an.lf out 2)
 (an.lf out 0))))
 (an.lf out 0))))
 (an.cn (a0 == 17)
 (an.jb (bif (a1 == a2) then (Option.bind (F_typing_measures L a1) fun r19 =>
 (some r19))
 else (some false)) (fun j => (an.cn (a1 == a2)
 (an.bd (F_typing_measures L a1) fun r20 =>
 (an.lf j r20))
 (an.lf j false))) (fun b18 =>
 (an.cn b18
 (an.lf out 2)
 (an.lf out 0))))
 (an.cn (a0 == 18)
 (an.cn (a0 == 18)
 (an.jp (bif (a1 == 2) then (a2 == 2)
 else false) (fun j => (an.cn (a1 == 2)
 (an.ap j (a2 == 2))
 (an.ap j false))) (fun b21 =>
 (an.cn b21
 (an.lf out 2)
 (an.lf out 0))))
 (an.lf out 0))
 (an.cn (a0 == 19)
 (an.jp (bif (a1 == 2) then (a2 == 2)
 else false) (fun j => (an.cn (a1 == 2)
 (an.ap j (a2 == 2))
 (an.ap j false))) (fun b22 =>
 (an.cn b22
 (an.lf out 2)
 (an.lf out 0))))
 (an.lf out 0))))))
 (an.cn (a0 == 15)
 (an.cn (a1 == a2)
 (an.lf out 2)
 (an.lf out 0))
 (an.cn (a0 == 16)
 (an.cn (a0 == 16)
 (an.jb (bif (a1 == a2) then (Option.bind (F_typing_measures L a1) fun r24 =>
 (some r24))
 else (some false)) (fun j => (an.cn (a1 == a2)
 (an.bd (F_typing_measures L a1) fun r25 =>
 (an.lf j r25))
 (an.lf j false))) (fun b23 =>
 (an.cn b23
 (an.lf out 2)
 (an.lf out 0))))
 (an.cn (a0 == 18)
 (an.cn (a0 == 18)
 (an.jp (bif (a1 == 2) then (a2 == 2)
 else false) (fun j => (an.cn (a1 == 2)
 (an.ap j (a2 == 2))
 (an.ap j false))) (fun b26 =>
 (an.cn b26
 (an.lf out 2)
 (an.lf out 0))))
 (an.lf out 0))
 (an.cn (a0 == 19)
 (an.jp (bif (a1 == 2) then (a2 == 2)
 else false) (fun j => (an.cn (a1 == 2)
 (an.ap j (a2 == 2))
 (an.ap j false))) (fun b27 =>
 (an.cn b27
 (an.lf out 2)
 (an.lf out 0))))
 (an.lf out 0))))
 (an.cn (a0 == 17)
 (an.jb (bif (a1 == a2) then (Option.bind (F_typing_measures L a1) fun r29 =>
 (some r29))
 else (some false)) (fun j => (an.cn (a1 == a2)
 (an.bd (F_typing_measures L a1) fun r30 =>
 (an.lf j r30))
 (an.lf j false))) (fun b28 =>
 (an.cn b28
 (an.lf out 2)
 (an.lf out 0))))
 (an.cn (a0 == 18)
 (an.cn (a0 == 18)
 (an.jp (bif (a1 == 2) then (a2 == 2)
 else false) (fun j => (an.cn (a1 == 2)
 (an.ap j (a2 == 2))
 (an.ap j false))) (fun b31 =>
 (an.cn b31
 (an.lf out 2)
 (an.lf out 0))))
 (an.lf out 0))
 (an.cn (a0 == 19)
 (an.jp (bif (a1 == 2) then (a2 == 2)
 else false) (fun j => (an.cn (a1 == 2)
 (an.ap j (a2 == 2))
 (an.ap j false))) (fun b32 =>
 (an.cn b32
 (an.lf out 2)
 (an.lf out 0))))
 (an.lf out 0))))))))))
 (an.cn (a0 == 10)
 (an.cn (a0 == 10)
 (an.jb (bif (a1 == a2) then (Option.bind (F_typing_measures L a1) fun r34 =>
 (some r34))
 else (some false)) (fun j => (an.cn (a1 == a2)
 (an.bd (F_typing_measures L a1) fun r35 =>
 (an.lf j r35))
 (an.lf j false))) (fun b33 =>
 (an.cn b33
 (an.lf out a1)
 (an.lf out 0))))
 (an.cn (a0 == 11)
 (an.cn b1
 (an.lf out 1)
 (an.bd (F_typing_measures L a1) fun r36 =>
 (an.jb (bif r36 then (Option.bind (F_typing_measures L a2) fun r38 =>
 (some r38))
 else (some false)) (fun j => (an.cn r36
 (an.bd (F_typing_measures L a2) fun r39 =>
 (an.lf j r39))
 (an.lf j false))) (fun b37 =>
 (an.jp (bif b37 then (a1 != a2)
 else false) (fun j => (an.cn b37
 (an.ap j (a1 != a2))
 (an.ap j false))) (fun b40 =>
 (an.cn b40
 (an.lf out 3)
 (an.lf out 0))))))))
 (an.cn (a0 == 12)
 (an.cn b1
 (an.cn b1
 (an.lf out 1)
 (an.jp (bif (a1 == 3) then (a2 == 1)
 else false) (fun j => (an.cn (a1 == 3)
 (an.ap j (a2 == 1))
 (an.ap j false))) (fun b41 =>
 (an.cn b41
 (an.lf out 3)
 (an.lf out 0)))))
 (an.jp (bif (a1 == 3) then (a2 == 3)
 else false) (fun j => (an.cn (a1 == 3)
 (an.ap j (a2 == 3))
 (an.ap j false))) (fun b42 =>
 (an.cn b42
 (an.lf out 1)
 (an.jp (bif (a1 == 3) then (a2 == 1)
 else false) (fun j => (an.cn (a1 == 3)
 (an.ap j (a2 == 1))
 (an.ap j false))) (fun b43 =>
 (an.cn b43
 (an.lf out 3)
 (an.lf out 0))))))))
 (an.cn (a0 == 14)
 (an.cn (a0 == 14)
 (an.cn (a1 == a2)
 (an.lf out 2)
 (an.lf out 0))
 (an.cn (a0 == 16)
 (an.cn (a0 == 16)
 (an.jb (bif (a1 == a2) then (Option.bind (F_typing_measures L a1) fun r45 =>
 (some r45))
 else (some false)) (fun j => (an.cn (a1 == a2)
 (an.bd (F_typing_measures L a1) fun r46 =>
 (an.lf j r46))
 (an.lf j false))) (fun b44 =>
 (an.cn b44
 (an.lf out 2)
 (an.lf out 0))))
 (an.cn (a0 == 18)
 (an.cn (a0 == 18)
 (an.jp (bif (a1 == 2) then (a2 == 2)
 else false) (fun j => (an.cn (a1 == 2)
 (an.ap j (a2 == 2))
 (an.ap j false))) (fun b47 =>
 (an.cn b47
 (an.lf out 2)
 (an.lf out 0))))
 (an.lf out 0))
 (an.cn (a0 == 19)
 (an.jp (bif (a1 == 2) then (a2 == 2)
 else false) (fun j => (an.cn (a1 == 2)
 (an.ap j (a2 == 2))
 (an.ap j false))) (fun b48 =>
 (an.cn b48
 (an.lf out 2)
 (an.lf out 0))))
 (an.lf out 0))))
 (an.cn (a0 == 17)
 (an.jb (bif (a1 == a2) then (Option.bind (F_typing_measures L a1) fun r50 =>
 (some r50))
 else (some false)) (fun j => (an.cn (a1 == a2)
 (an.bd (F_typing_measures L a1) fun r51 =>
 (an.lf j r51))
 (an.lf j false))) (fun b49 =>
 (an.cn b49
 (an.lf out 2)
 (an.lf out 0))))
 (an.cn (a0 == 18)
 (an.cn (a0 == 18)
 (an.jp (bif (a1 == 2) then (a2 == 2)
 else false) (fun j => (an.cn (a1 == 2)
 (an.ap j (a2 == 2))
 (an.ap j false))) (fun b52 =>
 (an.cn b52
 (an.lf out 2)
 (an.lf out 0))))
 (an.lf out 0))
 (an.cn (a0 == 19)
 (an.jp (bif (a1 == 2) then (a2 == 2)
 else false) (fun j => (an.cn (a1 == 2)
 (an.ap j (a2 == 2))
 (an.ap j false))) (fun b53 =>
 (an.cn b53
 (an.lf out 2)
 (an.lf out 0))))
 (an.lf out 0))))))
 (an.cn (a0 == 15)
 (an.cn (a1 == a2)
 (an.lf out 2)
 (an.lf out 0))
 (an.cn (a0 == 16)
 (an.cn (a0 == 16)
 (an.jb (bif (a1 == a2) then (Option.bind (F_typing_measures L a1) fun r55 =>
 (some r55))
 else (some false)) (fun j => (an.cn (a1 == a2)
 (an.bd (F_typing_measures L a1) fun r56 =>
 (an.lf j r56))
 (an.lf j false))) (fun b54 =>
 (an.cn b54
 (an.lf out 2)
 (an.lf out 0))))
 (an.cn (a0 == 18)
 (an.cn (a0 == 18)
 (an.jp (bif (a1 == 2) then (a2 == 2)
 else false) (fun j => (an.cn (a1 == 2)
 (an.ap j (a2 == 2))
 (an.ap j false))) (fun b57 =>
 (an.cn b57
 (an.lf out 2)
 (an.lf out 0))))
 (an.lf out 0))
 (an.cn (a0 == 19)
 (an.jp (bif (a1 == 2) then (a2 == 2)
 else false) (fun j => (an.cn (a1 == 2)
 (an.ap j (a2 == 2))
 (an.ap j false))) (fun b58 =>
 (an.cn b58
 (an.lf out 2)
 (an.lf out 0))))
 (an.lf out 0))))
 (an.cn (a0 == 17)
 (an.jb (bif (a1 == a2) then (Option.bind (F_typing_measures L a1) fun r60 =>
 (some r60))
 else (some false)) (fun j => (an.cn (a1 == a2)
 (an.bd (F_typing_measures L a1) fun r61 =>
 (an.lf j r61))
 (an.lf j false))) (fun b59 =>
 (an.cn b59
 (an.lf out 2)
 (an.lf out 0))))
 (an.cn (a0 == 18)
 (an.cn (a0 == 18)
 (an.jp (bif (a1 == 2) then (a2 == 2)
 else false) (fun j => (an.cn (a1 == 2)
 (an.ap j (a2 == 2))
 (an.ap j false))) (fun b62 =>
 (an.cn b62
 (an.lf out 2)
 (an.lf out 0))))
 (an.lf out 0))
 (an.cn (a0 == 19)
 (an.jp (bif (a1 == 2) then (a2 == 2)
 else false) (fun j => (an.cn (a1 == 2)
 (an.ap j (a2 == 2))
 (an.ap j false))) (fun b63 =>
 (an.cn b63
 (an.lf out 2)
 (an.lf out 0))))
 (an.lf out 0))))))))))
 (an.cn (a0 == 13)
 (an.cn (a0 == 13)
 (an.jb (bif (a1 == a2) then (Option.bind (F_typing_measures L a1) fun r65 =>
 (some r65))
 else (some false)) (fun j => (an.cn (a1 == a2)
 (an.bd (F_typing_measures L a1) fun r66 =>
 (an.lf j r66))
 (an.lf j false))) (fun b64 =>
 (an.cn b64
 (an.lf out a1)
 (an.lf out 0))))
 (an.cn (a0 == 11)
 (an.cn b1
 (an.lf out 1)
 (an.bd (F_typing_measures L a1) fun r67 =>
 (an.jb (bif r67 then (Option.bind (F_typing_measures L a2) fun r69 =>
 (some r69))
 else (some false)) (fun j => (an.cn r67
 (an.bd (F_typing_measures L a2) fun r70 =>
 (an.lf j r70))
 (an.lf j false))) (fun b68 =>
 (an.jp (bif b68 then (a1 != a2)
 else false) (fun j => (an.cn b68
 (an.ap j (a1 != a2))
 (an.ap j false))) (fun b71 =>
 (an.cn b71
 (an.lf out 3)
 (an.lf out 0))))))))
 (an.cn (a0 == 12)
 (an.cn b1
 (an.cn b1
 (an.lf out 1)
 (an.jp (bif (a1 == 3) then (a2 == 1)
 else false) (fun j => (an.cn (a1 == 3)
 (an.ap j (a2 == 1))
 (an.ap j false))) (fun b72 =>
 (an.cn b72
 (an.lf out 3)
 (an.lf out 0)))))
 (an.jp (bif (a1 == 3) then (a2 == 3)
 else false) (fun j => (an.cn (a1 == 3)
 (an.ap j (a2 == 3))
 (an.ap j false))) (fun b73 =>
 (an.cn b73
 (an.lf out 1)
 (an.jp (bif (a1 == 3) then (a2 == 1)
 else false) (fun j => (an.cn (a1 == 3)
 (an.ap j (a2 == 1))
 (an.ap j false))) (fun b74 =>
 (an.cn b74
 (an.lf out 3)
 (an.lf out 0))))))))
 (an.cn (a0 == 14)
 (an.cn (a0 == 14)
 (an.cn (a1 == a2)
 (an.lf out 2)
 (an.lf out 0))
 (an.cn (a0 == 16)
 (an.cn (a0 == 16)
 (an.jb (bif (a1 == a2) then (Option.bind (F_typing_measures L a1) fun r76 =>
 (some r76))
 else (some false)) (fun j => (an.cn (a1 == a2)
 (an.bd (F_typing_measures L a1) fun r77 =>
 (an.lf j r77))
 (an.lf j false))) (fun b75 =>
 (an.cn b75
 (an.lf out 2)
 (an.lf out 0))))
 (an.cn (a0 == 18)
 (an.cn (a0 == 18)
 (an.jp (bif (a1 == 2) then (a2 == 2)
 else false) (fun j => (an.cn (a1 == 2)
 (an.ap j (a2 == 2))
 (an.ap j false))) (fun b78 =>
 (an.cn b78
 (an.lf out 2)
 (an.lf out 0))))
 (an.lf out 0))
 (an.cn (a0 == 19)
 (an.jp (bif (a1 == 2) then (a2 == 2)
 else false) (fun j => (an.cn (a1 == 2)
 (an.ap j (a2 == 2))
 (an.ap j false))) (fun b79 =>
 (an.cn b79
 (an.lf out 2)
 (an.lf out 0))))
 (an.lf out 0))))
 (an.cn (a0 == 17)
 (an.jb (bif (a1 == a2) then (Option.bind (F_typing_measures L a1) fun r81 =>
 (some r81))
 else (some false)) (fun j => (an.cn (a1 == a2)
 (an.bd (F_typing_measures L a1) fun r82 =>
 (an.lf j r82))
 (an.lf j false))) (fun b80 =>
 (an.cn b80
 (an.lf out 2)
 (an.lf out 0))))
 (an.cn (a0 == 18)
 (an.cn (a0 == 18)
 (an.jp (bif (a1 == 2) then (a2 == 2)
 else false) (fun j => (an.cn (a1 == 2)
 (an.ap j (a2 == 2))
 (an.ap j false))) (fun b83 =>
 (an.cn b83
 (an.lf out 2)
 (an.lf out 0))))
 (an.lf out 0))
 (an.cn (a0 == 19)
 (an.jp (bif (a1 == 2) then (a2 == 2)
 else false) (fun j => (an.cn (a1 == 2)
 (an.ap j (a2 == 2))
 (an.ap j false))) (fun b84 =>
 (an.cn b84
 (an.lf out 2)
 (an.lf out 0))))
 (an.lf out 0))))))
 (an.cn (a0 == 15)
 (an.cn (a1 == a2)
 (an.lf out 2)
 (an.lf out 0))
 (an.cn (a0 == 16)
 (an.cn (a0 == 16)
 (an.jb (bif (a1 == a2) then (Option.bind (F_typing_measures L a1) fun r86 =>
 (some r86))
 else (some false)) (fun j => (an.cn (a1 == a2)
 (an.bd (F_typing_measures L a1) fun r87 =>
 (an.lf j r87))
 (an.lf j false))) (fun b85 =>
 (an.cn b85
 (an.lf out 2)
 (an.lf out 0))))
 (an.cn (a0 == 18)
 (an.cn (a0 == 18)
 (an.jp (bif (a1 == 2) then (a2 == 2)
 else false) (fun j => (an.cn (a1 == 2)
 (an.ap j (a2 == 2))
 (an.ap j false))) (fun b88 =>
 (an.cn b88
 (an.lf out 2)
 (an.lf out 0))))
 (an.lf out 0))
 (an.cn (a0 == 19)
 (an.jp (bif (a1 == 2) then (a2 == 2)
 else false) (fun j => (an.cn (a1 == 2)
 (an.ap j (a2 == 2))
 (an.ap j false))) (fun b89 =>
 (an.cn b89
 (an.lf out 2)
 (an.lf out 0))))
 (an.lf out 0))))
 (an.cn (a0 == 17)
 (an.jb (bif (a1 == a2) then (Option.bind (F_typing_measures L a1) fun r91 =>
 (some r91))
 else (some false)) (fun j => (an.cn (a1 == a2)
 (an.bd (F_typing_measures L a1) fun r92 =>
 (an.lf j r92))
 (an.lf j false))) (fun b90 =>
 (an.cn b90
 (an.lf out 2)
 (an.lf out 0))))
 (an.cn (a0 == 18)
 (an.cn (a0 == 18)
 (an.jp (bif (a1 == 2) then (a2 == 2)
 else false) (fun j => (an.cn (a1 == 2)
 (an.ap j (a2 == 2))
 (an.ap j false))) (fun b93 =>
 (an.cn b93
 (an.lf out 2)
 (an.lf out 0))))
 (an.lf out 0))
 (an.cn (a0 == 19)
 (an.jp (bif (a1 == 2) then (a2 == 2)
 else false) (fun j => (an.cn (a1 == 2)
 (an.ap j (a2 == 2))
 (an.ap j false))) (fun b94 =>
 (an.cn b94
 (an.lf out 2)
 (an.lf out 0))))
 (an.lf out 0))))))))))
 (an.cn (a0 == 20)
 (an.cn (a0 == 20)
 (an.jb (bif (a1 == a2) then (Option.bind (F_typing_measures L a1) fun r96 =>
 (some r96))
 else (some false)) (fun j => (an.cn (a1 == a2)
 (an.bd (F_typing_measures L a1) fun r97 =>
 (an.lf j r97))
 (an.lf j false))) (fun b95 =>
 (an.cn b95
 (an.lf out a1)
 (an.lf out 0))))
 (an.cn (a0 == 11)
 (an.cn b1
 (an.lf out 1)
 (an.bd (F_typing_measures L a1) fun r98 =>
 (an.jb (bif r98 then (Option.bind (F_typing_measures L a2) fun r100 =>
 (some r100))
 else (some false)) (fun j => (an.cn r98
 (an.bd (F_typing_measures L a2) fun r101 =>
 (an.lf j r101))
 (an.lf j false))) (fun b99 =>
 (an.jp (bif b99 then (a1 != a2)
 else false) (fun j => (an.cn b99
 (an.ap j (a1 != a2))
 (an.ap j false))) (fun b102 =>
 (an.cn b102
 (an.lf out 3)
 (an.lf out 0))))))))
 (an.cn (a0 == 12)
 (an.cn b1
 (an.cn b1
 (an.lf out 1)
 (an.jp (bif (a1 == 3) then (a2 == 1)
 else false) (fun j => (an.cn (a1 == 3)
 (an.ap j (a2 == 1))
 (an.ap j false))) (fun b103 =>
 (an.cn b103
 (an.lf out 3)
 (an.lf out 0)))))
 (an.jp (bif (a1 == 3) then (a2 == 3)
 else false) (fun j => (an.cn (a1 == 3)
 (an.ap j (a2 == 3))
 (an.ap j false))) (fun b104 =>
 (an.cn b104
 (an.lf out 1)
 (an.jp (bif (a1 == 3) then (a2 == 1)
 else false) (fun j => (an.cn (a1 == 3)
 (an.ap j (a2 == 1))
 (an.ap j false))) (fun b105 =>
 (an.cn b105
 (an.lf out 3)
 (an.lf out 0))))))))
 (an.cn (a0 == 14)
 (an.cn (a0 == 14)
 (an.cn (a1 == a2)
 (an.lf out 2)
 (an.lf out 0))
 (an.cn (a0 == 16)
 (an.cn (a0 == 16)
 (an.jb (bif (a1 == a2) then (Option.bind (F_typing_measures L a1) fun r107 =>
 (some r107))
 else (some false)) (fun j => (an.cn (a1 == a2)
 (an.bd (F_typing_measures L a1) fun r108 =>
 (an.lf j r108))
 (an.lf j false))) (fun b106 =>
 (an.cn b106
 (an.lf out 2)
 (an.lf out 0))))
 (an.cn (a0 == 18)
 (an.cn (a0 == 18)
 (an.jp (bif (a1 == 2) then (a2 == 2)
 else false) (fun j => (an.cn (a1 == 2)
 (an.ap j (a2 == 2))
 (an.ap j false))) (fun b109 =>
 (an.cn b109
 (an.lf out 2)
 (an.lf out 0))))
 (an.lf out 0))
 (an.cn (a0 == 19)
 (an.jp (bif (a1 == 2) then (a2 == 2)
 else false) (fun j => (an.cn (a1 == 2)
 (an.ap j (a2 == 2))
 (an.ap j false))) (fun b110 =>
 (an.cn b110
 (an.lf out 2)
 (an.lf out 0))))
 (an.lf out 0))))
 (an.cn (a0 == 17)
 (an.jb (bif (a1 == a2) then (Option.bind (F_typing_measures L a1) fun r112 =>
 (some r112))
 else (some false)) (fun j => (an.cn (a1 == a2)
 (an.bd (F_typing_measures L a1) fun r113 =>
 (an.lf j r113))
 (an.lf j false))) (fun b111 =>
 (an.cn b111
 (an.lf out 2)
 (an.lf out 0))))
 (an.cn (a0 == 18)
 (an.cn (a0 == 18)
 (an.jp (bif (a1 == 2) then (a2 == 2)
 else false) (fun j => (an.cn (a1 == 2)
 (an.ap j (a2 == 2))
 (an.ap j false))) (fun b114 =>
 (an.cn b114
 (an.lf out 2)
 (an.lf out 0))))
 (an.lf out 0))
 (an.cn (a0 == 19)
 (an.jp (bif (a1 == 2) then (a2 == 2)
 else false) (fun j => (an.cn (a1 == 2)
 (an.ap j (a2 == 2))
 (an.ap j false))) (fun b115 =>
 (an.cn b115
 (an.lf out 2)
 (an.lf out 0))))
 (an.lf out 0))))))
 (an.cn (a0 == 15)
 (an.cn (a1 == a2)
 (an.lf out 2)
 (an.lf out 0))
 (an.cn (a0 == 16)
 (an.cn (a0 == 16)
 (an.jb (bif (a1 == a2) then (Option.bind (F_typing_measures L a1) fun r117 =>
 (some r117))
 else (some false)) (fun j => (an.cn (a1 == a2)
 (an.bd (F_typing_measures L a1) fun r118 =>
 (an.lf j r118))
 (an.lf j false))) (fun b116 =>
 (an.cn b116
 (an.lf out 2)
 (an.lf out 0))))
 (an.cn (a0 == 18)
 (an.cn (a0 == 18)
 (an.jp (bif (a1 == 2) then (a2 == 2)
 else false) (fun j => (an.cn (a1 == 2)
 (an.ap j (a2 == 2))
 (an.ap j false))) (fun b119 =>
 (an.cn b119
 (an.lf out 2)
 (an.lf out 0))))
 (an.lf out 0))
 (an.cn (a0 == 19)
 (an.jp (bif (a1 == 2) then (a2 == 2)
 else false) (fun j => (an.cn (a1 == 2)
 (an.ap j (a2 == 2))
 (an.ap j false))) (fun b120 =>
 (an.cn b120
 (an.lf out 2)
 (an.lf out 0))))
 (an.lf out 0))))
 (an.cn (a0 == 17)
 (an.jb (bif (a1 == a2) then (Option.bind (F_typing_measures L a1) fun r122 =>
 (some r122))
 else (some false)) (fun j => (an.cn (a1 == a2)
 (an.bd (F_typing_measures L a1) fun r123 =>
 (an.lf j r123))
 (an.lf j false))) (fun b121 =>
 (an.cn b121
 (an.lf out 2)
 (an.lf out 0))))
 (an.cn (a0 == 18)
 (an.cn (a0 == 18)
 (an.jp (bif (a1 == 2) then (a2 == 2)
 else false) (fun j => (an.cn (a1 == 2)
 (an.ap j (a2 == 2))
 (an.ap j false))) (fun b124 =>
 (an.cn b124
 (an.lf out 2)
 (an.lf out 0))))
 (an.lf out 0))
 (an.cn (a0 == 19)
 (an.jp (bif (a1 == 2) then (a2 == 2)
 else false) (fun j => (an.cn (a1 == 2)
 (an.ap j (a2 == 2))
 (an.ap j false))) (fun b125 =>
 (an.cn b125
 (an.lf out 2)
 (an.lf out 0))))
 (an.lf out 0))))))))))
 (an.cn (a0 == 21)
 (an.jb (bif (a1 == a2) then (Option.bind (F_typing_measures L a1) fun r127 =>
 (some r127))
 else (some false)) (fun j => (an.cn (a1 == a2)
 (an.bd (F_typing_measures L a1) fun r128 =>
 (an.lf j r128))
 (an.lf j false))) (fun b126 =>
 (an.cn b126
 (an.lf out a1)
 (an.lf out 0))))
 (an.cn (a0 == 11)
 (an.cn b1
 (an.lf out 1)
 (an.bd (F_typing_measures L a1) fun r129 =>
 (an.jb (bif r129 then (Option.bind (F_typing_measures L a2) fun r131 =>
 (some r131))
 else (some false)) (fun j => (an.cn r129
 (an.bd (F_typing_measures L a2) fun r132 =>
 (an.lf j r132))
 (an.lf j false))) (fun b130 =>
 (an.jp (bif b130 then (a1 != a2)
 else false) (fun j => (an.cn b130
 (an.ap j (a1 != a2))
 (an.ap j false))) (fun b133 =>
 (an.cn b133
 (an.lf out 3)
 (an.lf out 0))))))))
 (an.cn (a0 == 12)
 (an.cn b1
 (an.cn b1
 (an.lf out 1)
 (an.jp (bif (a1 == 3) then (a2 == 1)
 else false) (fun j => (an.cn (a1 == 3)
 (an.ap j (a2 == 1))
 (an.ap j false))) (fun b134 =>
 (an.cn b134
 (an.lf out 3)
 (an.lf out 0)))))
 (an.jp (bif (a1 == 3) then (a2 == 3)
 else false) (fun j => (an.cn (a1 == 3)
 (an.ap j (a2 == 3))
 (an.ap j false))) (fun b135 =>
 (an.cn b135
 (an.lf out 1)
 (an.jp (bif (a1 == 3) then (a2 == 1)
 else false) (fun j => (an.cn (a1 == 3)
 (an.ap j (a2 == 1))
 (an.ap j false))) (fun b136 =>
 (an.cn b136
 (an.lf out 3)
 (an.lf out 0))))))))
 (an.cn (a0 == 14)
 (an.cn (a0 == 14)
 (an.cn (a1 == a2)
 (an.lf out 2)
 (an.lf out 0))
 (an.cn (a0 == 16)
 (an.cn (a0 == 16)
 (an.jb (bif (a1 == a2) then (Option.bind (F_typing_measures L a1) fun r138 =>
 (some r138))
 else (some false)) (fun j => (an.cn (a1 == a2)
 (an.bd (F_typing_measures L a1) fun r139 =>
 (an.lf j r139))
 (an.lf j false))) (fun b137 =>
 (an.cn b137
 (an.lf out 2)
 (an.lf out 0))))
 (an.cn (a0 == 18)
 (an.cn (a0 == 18)
 (an.jp (bif (a1 == 2) then (a2 == 2)
 else false) (fun j => (an.cn (a1 == 2)
 (an.ap j (a2 == 2))
 (an.ap j false))) (fun b140 =>
 (an.cn b140
 (an.lf out 2)
 (an.lf out 0))))
 (an.lf out 0))
 (an.cn (a0 == 19)
 (an.jp (bif (a1 == 2) then (a2 == 2)
 else false) (fun j => (an.cn (a1 == 2)
 (an.ap j (a2 == 2))
 (an.ap j false))) (fun b141 =>
 (an.cn b141
 (an.lf out 2)
 (an.lf out 0))))
 (an.lf out 0))))
 (an.cn (a0 == 17)
 (an.jb (bif (a1 == a2) then (Option.bind (F_typing_measures L a1) fun r143 =>
 (some r143))
 else (some false)) (fun j => (an.cn (a1 == a2)
 (an.bd (F_typing_measures L a1) fun r144 =>
 (an.lf j r144))
 (an.lf j false))) (fun b142 =>
 (an.cn b142
 (an.lf out 2)
 (an.lf out 0))))
 (an.cn (a0 == 18)
 (an.cn (a0 == 18)
 (an.jp (bif (a1 == 2) then (a2 == 2)
 else false) (fun j => (an.cn (a1 == 2)
 (an.ap j (a2 == 2))
 (an.ap j false))) (fun b145 =>
 (an.cn b145
 (an.lf out 2)
 (an.lf out 0))))
 (an.lf out 0))
 (an.cn (a0 == 19)
 (an.jp (bif (a1 == 2) then (a2 == 2)
 else false) (fun j => (an.cn (a1 == 2)
 (an.ap j (a2 == 2))
 (an.ap j false))) (fun b146 =>
 (an.cn b146
 (an.lf out 2)
 (an.lf out 0))))
 (an.lf out 0))))))
 (an.cn (a0 == 15)
 (an.cn (a1 == a2)
 (an.lf out 2)
 (an.lf out 0))
 (an.cn (a0 == 16)
 (an.cn (a0 == 16)
 (an.jb (bif (a1 == a2) then (Option.bind (F_typing_measures L a1) fun r148 =>
 (some r148))
 else (some false)) (fun j => (an.cn (a1 == a2)
 (an.bd (F_typing_measures L a1) fun r149 =>
 (an.lf j r149))
 (an.lf j false))) (fun b147 =>
 (an.cn b147
 (an.lf out 2)
 (an.lf out 0))))
 (an.cn (a0 == 18)
 (an.cn (a0 == 18)
 (an.jp (bif (a1 == 2) then (a2 == 2)
 else false) (fun j => (an.cn (a1 == 2)
 (an.ap j (a2 == 2))
 (an.ap j false))) (fun b150 =>
 (an.cn b150
 (an.lf out 2)
 (an.lf out 0))))
 (an.lf out 0))
 (an.cn (a0 == 19)
 (an.jp (bif (a1 == 2) then (a2 == 2)
 else false) (fun j => (an.cn (a1 == 2)
 (an.ap j (a2 == 2))
 (an.ap j false))) (fun b151 =>
 (an.cn b151
 (an.lf out 2)
 (an.lf out 0))))
 (an.lf out 0))))
 (an.cn (a0 == 17)
 (an.jb (bif (a1 == a2) then (Option.bind (F_typing_measures L a1) fun r153 =>
 (some r153))
 else (some false)) (fun j => (an.cn (a1 == a2)
 (an.bd (F_typing_measures L a1) fun r154 =>
 (an.lf j r154))
 (an.lf j false))) (fun b152 =>
 (an.cn b152
 (an.lf out 2)
 (an.lf out 0))))
 (an.cn (a0 == 18)
 (an.cn (a0 == 18)
 (an.jp (bif (a1 == 2) then (a2 == 2)
 else false) (fun j => (an.cn (a1 == 2)
 (an.ap j (a2 == 2))
 (an.ap j false))) (fun b155 =>
 (an.cn b155
 (an.lf out 2)
 (an.lf out 0))))
 (an.lf out 0))
 (an.cn (a0 == 19)
 (an.jp (bif (a1 == 2) then (a2 == 2)
 else false) (fun j => (an.cn (a1 == 2)
 (an.ap j (a2 == 2))
 (an.ap j false))) (fun b156 =>
 (an.cn b156
 (an.lf out 2)
 (an.lf out 0))))
 (an.lf out 0))))))))))))))))
def F_typing_binary  (L : Nat) (a0 : Int) (a1 : Int) (a2 : Int) : Option Int := T_typing_binary (anO _) L a0 a1 a2 some
theorem e50  (L : Nat) (a0 : Int) (a1 : Int) (a2 : Int) (kk : PV → Prop) : EW (O50 L) L 9 (RS Tryz.f50) c50 [I a0, I a1, I a2] kk = ob (F_typing_binary L a0 a1 a2) (fun (x : Int) => kk (I x)) := by
  refine Eq.trans (b := T_typing_binary anP L a0 a1 a2 (fun (x : Int) => kk (I x))) (by kernel_rfl) ?_
  generalize (fun (x : Int) => kk (I x)) = Q
  unfold F_typing_binary T_typing_binary
  dsimp only [anP, anO]
  try simp only [y1, y2, y3, y4, y5 Q, y6, y7, y8 Q, y9, z1, z2, z3, z4]
theorem h50   (L : Nat) (a0 : Int) (a1 : Int) (a2 : Int) (r : Int) (h : F_typing_binary L a0 a1 a2 = some r) : Holds Tryz.prog 50 [I a0, I a1, I a2] (I r) :=
  hE grwOK (s50  L) mixed Tryz.func50 (by kernel_rfl : cFn Tryz.prog inl Tryz.f50 = some c50) (er := fun (x : Int) => I x) (by kernel_rfl) (e50 L a0 a1 a2) h

/-! ### simulator/typing.node -/
noncomputable def c27 : EC := (cFn Tryz.prog inl Tryz.f27).getD .stop
def O27 (rec27 : api_Env → api_Expr → Option (Int × Int)) (L : Nat) : Oracle := (orc 14 (A2 (fun (x : (Int × Bool)) => .tup [I x.1, B x.2]) ca_api_Env cS (F_typing_Find L)) (orc 27 (A2 (fun (x : (Int × Int)) => .tup [I x.1, I x.2]) ca_api_Env ca_api_Expr rec27) (orc 47 (A2 (fun (x : Bool) => B x) (cI .i64) cS (F_typing_object L)) (orc 48 (A2 (fun (x : ByteArray) => S x) ca_api_SiteDecl cS (F_model_Kind L)) (orc 49 (A2 (fun (x : Int) => I x) (cI .i64) (cI .i64) (F_typing_unary L)) (orc 50 (A3 (fun (x : Int) => I x) (cI .i64) (cI .i64) (cI .i64) (F_typing_binary L)) noC))))))
theorem s27 (rec27 : api_Env → api_Expr → Option (Int × Int)) (hr27 : ∀ (y0 : api_Env) (y1 : api_Expr) (r : (Int × Int)), rec27 y0 y1 = some r → Holds Tryz.prog 27 [.agg (enapi_Env y0), .agg (enapi_Expr y1)] (.tup [I r.1, I r.2])) (L : Nat) : SoundC Tryz.prog (O27 rec27 L) := (orc_sound (a2 _ (h14 L)) (orc_sound (a2 _ hr27) (orc_sound (a2 _ (h47 L)) (orc_sound (a2 _ (h48 L)) (orc_sound (a2 _ (h49 L)) (orc_sound (a3 _ (h50 L)) (noC_sound Tryz.prog)))))))
def sh27_1 (a1 : api_Expr) (a0 : api_Env) (v1_0 : Int) (v1_1 : Int) (v1_2 : List Int) (v1_5 : Int) : St := ({ fr := [(0, .any), (1, .any), (2, .loc 2 0), (3, .loc 3 0), (4, I v1_0), (5, I v1_1), (6, .lst true (.t41 v1_2)), (11, .any), (12, .any), (13, .any), (15, .lst false (.t38 a1.Kids)), (16, I (a1.Kids.length : Int)), (17, I v1_5), (35, .any), (49, .any), (62, .any), (72, .any), (85, .any), (89, .any), (93, .any)], ob := [(2, (enapi_Env a0)), (3, (enapi_Expr a1))], base := 0 } : St)
def KK27_1 (a1 : api_Expr) (a0 : api_Env) (K : Ex → St → Prop) : Nat × (Int × Int × List Int × Int) → Prop := fun o => seln o.1 [K .ret (sh27_1 a1 a0 o.2.1 o.2.2.1 o.2.2.2.1 o.2.2.2.2), K (.exit 0) (sh27_1 a1 a0 o.2.1 o.2.2.1 o.2.2.2.1 o.2.2.2.2)]
def lb_typing_node_1 {A : Type} (an : An A) (rec27 : api_Env → api_Expr → Option (Int × Int)) (L : Nat) (a1 : api_Expr) (a0 : api_Env) (rec : Int → Int → List Int → Int → A) (out : Nat × (Int × Int × List Int × Int) → A) (v1_0 : Int) (v1_1 : Int) (v1_2 : List Int) (v1_5 : Int) : A :=
 (an.cn (decide (v1_5 < (a1.Kids.length : Int)))
 (an.gd ((0 : Int) ≤ v1_5)
 (an.gd (v1_5 < ((a1.Kids.length : Nat) : Int))
 (an.bd (rec27 a0 (api_Expr.cp (a1.Kids.getD (Int.toNat v1_5) default))) fun r1 =>
 (an.cn (r1.2 != 0)
 (an.lf out (0, (0, r1.2, v1_2, v1_5)))
 (an.gd ((v1_2.length + [r1.1].length) * 8 ≤ 140737488355328)
 (an.gd (v1_2.length + [r1.1].length ≤ maxLen)
 (rec v1_0 v1_1 (v1_2 ++ [r1.1]) (w64 (v1_5 + 1)))))))))
 (an.lf out (1, (v1_0, v1_1, v1_2, v1_5))))
def lp_typing_node_1 (rec27 : api_Env → api_Expr → Option (Int × Int)) (L : Nat) (a1 : api_Expr) (a0 : api_Env) : Nat → Int → Int → List Int → Int → Option (Nat × (Int × Int × List Int × Int))
  | 0, _, _, _, _ => none
  | n + 1, v1_0, v1_1, v1_2, v1_5 => lb_typing_node_1 (anO _) rec27 L a1 a0 (lp_typing_node_1 rec27 L a1 a0 n) some v1_0 v1_1 v1_2 v1_5
theorem ln27_1 (rec27 : api_Env → api_Expr → Option (Int × Int)) (L : Nat) (a1 : api_Expr) (a0 : api_Env) (g : Int → Int → List Int → Int → Option (Nat × (Int × Int × List Int × Int))) (Q : Nat × (Int × Int × List Int × Int) → Prop) (v1_0 : Int) (v1_1 : Int) (v1_2 : List Int) (v1_5 : Int) : lb_typing_node_1 anP rec27 L a1 a0 (fun v1_0 v1_1 v1_2 v1_5 => ob (g v1_0 v1_1 v1_2 v1_5) Q) Q v1_0 v1_1 v1_2 v1_5 = ob (lb_typing_node_1 (anO _) rec27 L a1 a0 g some v1_0 v1_1 v1_2 v1_5) Q := by
  unfold lb_typing_node_1
  dsimp only [anP, anO]
  try simp only [y1, y2, y3, y4, y5 Q, y6, y7, y8 Q, y9, z1, z2, z3, z4]
theorem le27_1 (rec27 : api_Env → api_Expr → Option (Int × Int)) (L : Nat) (a1 : api_Expr) (a0 : api_Env) (n : Nat) (v1_0 : Int) (v1_1 : Int) (v1_2 : List Int) (v1_5 : Int) (K : Ex → St → Prop) : loopN (EV (O27 rec27 L) L 9 c27.r.r.r.r.l.r.r.l.l) [0, 1, 2, 3, 4, 5, 6, 11, 12, 13, 15, 16, 17, 35, 49, 62, 72, 85, 89, 93] [2, 3] n (sh27_1 a1 a0 v1_0 v1_1 v1_2 v1_5) K = ob (lp_typing_node_1 rec27 L a1 a0 n v1_0 v1_1 v1_2 v1_5) (fun o => KK27_1 a1 a0 K o) := by
  induction n generalizing v1_0 v1_1 v1_2 v1_5 with
  | zero => rfl
  | succ n ih =>
    refine Eq.trans (b := lb_typing_node_1 anP rec27 L a1 a0 (fun v1_0 v1_1 v1_2 v1_5 => loopN (EV (O27 rec27 L) L 9 c27.r.r.r.r.l.r.r.l.l) [0, 1, 2, 3, 4, 5, 6, 11, 12, 13, 15, 16, 17, 35, 49, 62, 72, 85, 89, 93] [2, 3] n (sh27_1 a1 a0 v1_0 v1_1 v1_2 v1_5) K) (KK27_1 a1 a0 K) v1_0 v1_1 v1_2 v1_5) (by kernel_rfl) ?_
    simp only [ih]
    exact ln27_1 rec27 L a1 a0 (lp_typing_node_1 rec27 L a1 a0 n) (KK27_1 a1 a0 K) v1_0 v1_1 v1_2 v1_5
def kc27_1 (rec27 : api_Env → api_Expr → Option (Int × Int)) (L : Nat)  (kk : PV → Prop) : Ex → St → Prop := (kBlock 0 (kSeq (EV (O27 rec27 L) L 9 c27.r.r.r.r.r) (kEnd Tryz.prog (RS Tryz.f27) kk)))
theorem q27_1 (rec27 : api_Env → api_Expr → Option (Int × Int)) (L : Nat) (a1 : api_Expr) (a0 : api_Env) (kk : PV → Prop) (o1 : Nat × (Int × Int × List Int × Int)) : KK27_1 a1 a0 (kc27_1 rec27 L kk) o1 =
 (seln o1.1 [(ob (some (o1.2.1, o1.2.2.1)) (fun (x : (Int × Int)) => kk (.tup [I x.1, I x.2]))),
 (br (a1.Op == 3)
 (ob (F_typing_Find L a0 a1.Name) fun r2 =>
 (br (!r2.2)
 (ob (some (0, 5)) (fun (x : (Int × Int)) => kk (.tup [I x.1, I x.2])))
 (ob (some (r2.1, 0)) (fun (x : (Int × Int)) => kk (.tup [I x.1, I x.2])))))
 (br (decide (a1.Op ≥ 22))
 (ob (F_model_Kind L a0.Site a1.Name) fun r3 =>
 (ob (F_typing_object L a1.Op r3) fun r4 =>
 (br (!r4)
 (ob (some (0, 5)) (fun (x : (Int × Int)) => kk (.tup [I x.1, I x.2])))
 (ob (some (1, 0)) (fun (x : (Int × Int)) => kk (.tup [I x.1, I x.2]))))))
 (br ((o1.2.2.2.1.length : Int) == 1)
 (gd ((0 : Int) ≤ 0)
 (gd (0 < ((o1.2.2.2.1.length : Nat) : Int))
 (ob (F_typing_unary L a1.Op (o1.2.2.2.1.getD 0 default)) fun r5 =>
 (br (r5 == 0)
 (ob (some (0, 10)) (fun (x : (Int × Int)) => kk (.tup [I x.1, I x.2])))
 (ob (some (r5, 0)) (fun (x : (Int × Int)) => kk (.tup [I x.1, I x.2])))))))
 (br ((o1.2.2.2.1.length : Int) == 2)
 (gd ((0 : Int) ≤ 0)
 (gd (0 < ((o1.2.2.2.1.length : Nat) : Int))
 (gd ((0 : Int) ≤ 1)
 (gd (1 < ((o1.2.2.2.1.length : Nat) : Int))
 (ob (F_typing_binary L a1.Op (o1.2.2.2.1.getD 0 default) (o1.2.2.2.1.getD 1 default)) fun r6 =>
 (br (r6 == 0)
 (ob (some (0, 10)) (fun (x : (Int × Int)) => kk (.tup [I x.1, I x.2])))
 (ob (some (r6, 0)) (fun (x : (Int × Int)) => kk (.tup [I x.1, I x.2])))))))))
 (br (a1.Op == 1)
 (ob (some (1, 0)) (fun (x : (Int × Int)) => kk (.tup [I x.1, I x.2])))
 (br (a1.Op == 2)
 (ob (some (2, 0)) (fun (x : (Int × Int)) => kk (.tup [I x.1, I x.2])))
 (br (a1.Op == 4)
 (ob (some (3, 0)) (fun (x : (Int × Int)) => kk (.tup [I x.1, I x.2])))
 (ob (some (0, 10)) (fun (x : (Int × Int)) => kk (.tup [I x.1, I x.2]))))))))))]) := by kernel_rfl
def T_typing_node {A : Type} (an : An A) (rec27 : api_Env → api_Expr → Option (Int × Int)) (L : Nat) (a0 : api_Env) (a1 : api_Expr) (out : (Int × Int) → A) : A :=
 (an.bd (lp_typing_node_1 rec27 L a1 a0 L 0 0 [] 0) fun o1 =>
 (an.sl o1.1 [(an.lf out (o1.2.1, o1.2.2.1)),
 (an.cn (a1.Op == 3)
 (an.bd (F_typing_Find L a0 a1.Name) fun r2 =>
 (an.cn (!r2.2)
 (an.lf out (0, 5))
 (an.lf out (r2.1, 0))))
 (an.cn (decide (a1.Op ≥ 22))
 (an.bd (F_model_Kind L a0.Site a1.Name) fun r3 =>
 (an.bd (F_typing_object L a1.Op r3) fun r4 =>
 (an.cn (!r4)
 (an.lf out (0, 5))
 (an.lf out (1, 0)))))
 (an.cn ((o1.2.2.2.1.length : Int) == 1)
 (an.gd ((0 : Int) ≤ 0)
 (an.gd (0 < ((o1.2.2.2.1.length : Nat) : Int))
 (an.bd (F_typing_unary L a1.Op (o1.2.2.2.1.getD 0 default)) fun r5 =>
 (an.cn (r5 == 0)
 (an.lf out (0, 10))
 (an.lf out (r5, 0))))))
 (an.cn ((o1.2.2.2.1.length : Int) == 2)
 (an.gd ((0 : Int) ≤ 0)
 (an.gd (0 < ((o1.2.2.2.1.length : Nat) : Int))
 (an.gd ((0 : Int) ≤ 1)
 (an.gd (1 < ((o1.2.2.2.1.length : Nat) : Int))
 (an.bd (F_typing_binary L a1.Op (o1.2.2.2.1.getD 0 default) (o1.2.2.2.1.getD 1 default)) fun r6 =>
 (an.cn (r6 == 0)
 (an.lf out (0, 10))
 (an.lf out (r6, 0))))))))
 (an.cn (a1.Op == 1)
 (an.lf out (1, 0))
 (an.cn (a1.Op == 2)
 (an.lf out (2, 0))
 (an.cn (a1.Op == 4)
 (an.lf out (3, 0))
 (an.lf out (0, 10)))))))))]))
def B_typing_node (rec27 : api_Env → api_Expr → Option (Int × Int)) (L : Nat) (a0 : api_Env) (a1 : api_Expr) : Option (Int × Int) := T_typing_node (anO _) rec27 L a0 a1 some
theorem e27 (rec27 : api_Env → api_Expr → Option (Int × Int)) (L : Nat) (a0 : api_Env) (a1 : api_Expr) (kk : PV → Prop) : EW (O27 rec27 L) L 9 (RS Tryz.f27) c27 [.agg (enapi_Env a0), .agg (enapi_Expr a1)] kk = ob (B_typing_node rec27 L a0 a1) (fun (x : (Int × Int)) => kk (.tup [I x.1, I x.2])) := by
  refine Eq.trans (b := T_typing_node anP rec27 L a0 a1 (fun (x : (Int × Int)) => kk (.tup [I x.1, I x.2]))) ?_ ?_
  · refine Eq.trans (b := (loopN (EV (O27 rec27 L) L 9 c27.r.r.r.r.l.r.r.l.l) [0, 1, 2, 3, 4, 5, 6, 11, 12, 13, 15, 16, 17, 35, 49, 62, 72, 85, 89, 93] [2, 3] L (sh27_1 a1 a0 0 0 [] 0) (kc27_1 rec27 L kk))) (by kernel_rfl) ?_
    unfold T_typing_node
    dsimp only [anP]
    simp only [le27_1, q27_1]
  generalize (fun (x : (Int × Int)) => kk (.tup [I x.1, I x.2])) = Q
  unfold B_typing_node T_typing_node
  dsimp only [anP, anO]
  try simp only [y1, y2, y3, y4, y5 Q, y6, y7, y8 Q, y9, z1, z2, z3, z4]
theorem b27 (rec27 : api_Env → api_Expr → Option (Int × Int)) (hr27 : ∀ (y0 : api_Env) (y1 : api_Expr) (r : (Int × Int)), rec27 y0 y1 = some r → Holds Tryz.prog 27 [.agg (enapi_Env y0), .agg (enapi_Expr y1)] (.tup [I r.1, I r.2])) (L : Nat) (a0 : api_Env) (a1 : api_Expr) (r : (Int × Int)) (h : B_typing_node rec27 L a0 a1 = some r) : Holds Tryz.prog 27 [.agg (enapi_Env a0), .agg (enapi_Expr a1)] (.tup [I r.1, I r.2]) :=
  hE grwOK (s27 rec27 hr27 L) mixed Tryz.func27 (by kernel_rfl : cFn Tryz.prog inl Tryz.f27 = some c27) (er := fun (x : (Int × Int)) => .tup [I x.1, I x.2]) (by kernel_rfl) (e27 rec27 L a0 a1) h
def F_typing_node : Nat → api_Env → api_Expr → Option (Int × Int)
  | 0, _, _ => none
  | L + 1, a0, a1 => B_typing_node (F_typing_node L) L a0 a1
theorem hall27 : ∀ L, (∀ (y0 : api_Env) (y1 : api_Expr) (r : (Int × Int)), F_typing_node L y0 y1 = some r → Holds Tryz.prog 27 [.agg (enapi_Env y0), .agg (enapi_Expr y1)] (.tup [I r.1, I r.2])) := by
  intro L
  induction L with
  | zero => exact fun _ _ r h => (by cases h)
  | succ L ih =>
    have i27 := ih
    exact fun y0 y1 r h => b27 (F_typing_node L) i27 L y0 y1 r h
theorem h27 (L : Nat) : ∀ (y0 : api_Env) (y1 : api_Expr) (r : (Int × Int)), F_typing_node L y0 y1 = some r → Holds Tryz.prog 27 [.agg (enapi_Env y0), .agg (enapi_Expr y1)] (.tup [I r.1, I r.2]) := hall27 L

/-! ### simulator/typing.Expr -/
noncomputable def c12 : EC := (cFn Tryz.prog inl Tryz.f12).getD .stop
def O12  (L : Nat) : Oracle := (orc 26 (A1 (fun (x : Int) => I x) ca_api_Expr (F_expr_Check L)) (orc 27 (A2 (fun (x : (Int × Int)) => .tup [I x.1, I x.2]) ca_api_Env ca_api_Expr (F_typing_node L)) noC))
theorem s12   (L : Nat) : SoundC Tryz.prog (O12 L) := (orc_sound (a1 _ (h26 L)) (orc_sound (a2 _ (h27 L)) (noC_sound Tryz.prog)))
def T_typing_Expr {A : Type} (an : An A)  (L : Nat) (a0 : api_Env) (a1 : api_Expr) (out : (Int × Int) → A) : A :=
 (an.bd (F_expr_Check L (api_Expr.cp a1)) fun r1 =>
 (an.cn (r1 != 0)
 (an.lf out (0, r1))
 (an.bd (F_typing_node L a0 (api_Expr.cp a1)) fun r2 =>
 (an.lf out (r2.1, r2.2)))))
def F_typing_Expr  (L : Nat) (a0 : api_Env) (a1 : api_Expr) : Option (Int × Int) := T_typing_Expr (anO _) L a0 a1 some
theorem e12  (L : Nat) (a0 : api_Env) (a1 : api_Expr) (kk : PV → Prop) : EW (O12 L) L 9 (RS Tryz.f12) c12 [.agg (enapi_Env a0), .agg (enapi_Expr a1)] kk = ob (F_typing_Expr L a0 a1) (fun (x : (Int × Int)) => kk (.tup [I x.1, I x.2])) := by
  refine Eq.trans (b := T_typing_Expr anP L a0 a1 (fun (x : (Int × Int)) => kk (.tup [I x.1, I x.2]))) (by kernel_rfl) ?_
  generalize (fun (x : (Int × Int)) => kk (.tup [I x.1, I x.2])) = Q
  unfold F_typing_Expr T_typing_Expr
  dsimp only [anP, anO]
  try simp only [y1, y2, y3, y4, y5 Q, y6, y7, y8 Q, y9, z1, z2, z3, z4]
theorem h12   (L : Nat) (a0 : api_Env) (a1 : api_Expr) (r : (Int × Int)) (h : F_typing_Expr L a0 a1 = some r) : Holds Tryz.prog 12 [.agg (enapi_Env a0), .agg (enapi_Expr a1)] (.tup [I r.1, I r.2]) :=
  hE grwOK (s12  L) mixed Tryz.func12 (by kernel_rfl : cFn Tryz.prog inl Tryz.f12 = some c12) (er := fun (x : (Int × Int)) => .tup [I x.1, I x.2]) (by kernel_rfl) (e12 L a0 a1) h

/-! ### simulator/simulatorref09.Nodes -/
noncomputable def c75 : EC := (cFn Tryz.prog inl Tryz.f75).getD .stop
def O75 (rec75 : api_Expr → Option Int) (L : Nat) : Oracle := (orc 75 (A1 (fun (x : Int) => I x) ca_api_Expr rec75) noC)
theorem s75 (rec75 : api_Expr → Option Int) (hr75 : ∀ (y0 : api_Expr) (r : Int), rec75 y0 = some r → Holds Tryz.prog 75 [.agg (enapi_Expr y0)] (I r)) (L : Nat) : SoundC Tryz.prog (O75 rec75 L) := (orc_sound (a1 _ hr75) (noC_sound Tryz.prog))
def sh75_1 (a0 : api_Expr) (v1_1 : Int) (v1_2 : Int) : St := ({ fr := [(0, .any), (1, .loc 1 0), (2, I 0), (3, I v1_1), (4, I v1_2)], ob := [(1, (enapi_Expr a0))], base := 0 } : St)
def KK75_1 (a0 : api_Expr) (K : Ex → St → Prop) : Nat × (Int × Int) → Prop := fun o => seln o.1 [K (.exit 0) (sh75_1 a0 o.2.1 o.2.2)]
def lb_R09_Nodes_1 {A : Type} (an : An A) (rec75 : api_Expr → Option Int) (L : Nat) (a0 : api_Expr) (rec : Int → Int → A) (out : Nat × (Int × Int) → A) (v1_1 : Int) (v1_2 : Int) : A :=
 (an.cn (decide (v1_2 < (a0.Kids.length : Int)))
 (an.gd ((0 : Int) ≤ v1_2)
 (an.gd (v1_2 < ((a0.Kids.length : Nat) : Int))
 (an.bd (rec75 (api_Expr.cp (a0.Kids.getD (Int.toNat v1_2) default))) fun r1 =>
 (rec (w64 (v1_1 + r1)) (w64 (v1_2 + 1))))))
 (an.lf out (0, (v1_1, v1_2))))
def lp_R09_Nodes_1 (rec75 : api_Expr → Option Int) (L : Nat) (a0 : api_Expr) : Nat → Int → Int → Option (Nat × (Int × Int))
  | 0, _, _ => none
  | n + 1, v1_1, v1_2 => lb_R09_Nodes_1 (anO _) rec75 L a0 (lp_R09_Nodes_1 rec75 L a0 n) some v1_1 v1_2
theorem ln75_1 (rec75 : api_Expr → Option Int) (L : Nat) (a0 : api_Expr) (g : Int → Int → Option (Nat × (Int × Int))) (Q : Nat × (Int × Int) → Prop) (v1_1 : Int) (v1_2 : Int) : lb_R09_Nodes_1 anP rec75 L a0 (fun v1_1 v1_2 => ob (g v1_1 v1_2) Q) Q v1_1 v1_2 = ob (lb_R09_Nodes_1 (anO _) rec75 L a0 g some v1_1 v1_2) Q := by
  unfold lb_R09_Nodes_1
  dsimp only [anP, anO]
  try simp only [y1, y2, y3, y4, y5 Q, y6, y7, y8 Q, y9, z1, z2, z3, z4]
theorem le75_1 (rec75 : api_Expr → Option Int) (L : Nat) (a0 : api_Expr) (n : Nat) (v1_1 : Int) (v1_2 : Int) (K : Ex → St → Prop) : loopN (EV (O75 rec75 L) L 9 c75.r.r.r.r.l.r.r.l.l) [0, 1, 2, 3, 4] [1] n (sh75_1 a0 v1_1 v1_2) K = ob (lp_R09_Nodes_1 rec75 L a0 n v1_1 v1_2) (fun o => KK75_1 a0 K o) := by
  induction n generalizing v1_1 v1_2 with
  | zero => rfl
  | succ n ih =>
    refine Eq.trans (b := lb_R09_Nodes_1 anP rec75 L a0 (fun v1_1 v1_2 => loopN (EV (O75 rec75 L) L 9 c75.r.r.r.r.l.r.r.l.l) [0, 1, 2, 3, 4] [1] n (sh75_1 a0 v1_1 v1_2) K) (KK75_1 a0 K) v1_1 v1_2) (by kernel_rfl) ?_
    simp only [ih]
    exact ln75_1 rec75 L a0 (lp_R09_Nodes_1 rec75 L a0 n) (KK75_1 a0 K) v1_1 v1_2
def kc75_1 (rec75 : api_Expr → Option Int) (L : Nat)  (kk : PV → Prop) : Ex → St → Prop := (kBlock 0 (kSeq (EV (O75 rec75 L) L 9 c75.r.r.r.r.r) (kEnd Tryz.prog (RS Tryz.f75) kk)))
theorem q75_1 (rec75 : api_Expr → Option Int) (L : Nat) (a0 : api_Expr) (kk : PV → Prop) (o1 : Nat × (Int × Int)) : KK75_1 a0 (kc75_1 rec75 L kk) o1 =
 (seln o1.1 [(ob (some o1.2.1) (fun (x : Int) => kk (I x)))]) := by kernel_rfl
def T_R09_Nodes {A : Type} (an : An A) (rec75 : api_Expr → Option Int) (L : Nat) (a0 : api_Expr) (out : Int → A) : A :=
 (an.bd (lp_R09_Nodes_1 rec75 L a0 L 1 0) fun o1 =>
 (an.sl o1.1 [(an.lf out o1.2.1)]))
def B_R09_Nodes (rec75 : api_Expr → Option Int) (L : Nat) (a0 : api_Expr) : Option Int := T_R09_Nodes (anO _) rec75 L a0 some
theorem e75 (rec75 : api_Expr → Option Int) (L : Nat) (a0 : api_Expr) (kk : PV → Prop) : EW (O75 rec75 L) L 9 (RS Tryz.f75) c75 [.agg (enapi_Expr a0)] kk = ob (B_R09_Nodes rec75 L a0) (fun (x : Int) => kk (I x)) := by
  refine Eq.trans (b := T_R09_Nodes anP rec75 L a0 (fun (x : Int) => kk (I x))) ?_ ?_
  · refine Eq.trans (b := (loopN (EV (O75 rec75 L) L 9 c75.r.r.r.r.l.r.r.l.l) [0, 1, 2, 3, 4] [1] L (sh75_1 a0 1 0) (kc75_1 rec75 L kk))) (by kernel_rfl) ?_
    unfold T_R09_Nodes
    dsimp only [anP]
    simp only [le75_1, q75_1]
  generalize (fun (x : Int) => kk (I x)) = Q
  unfold B_R09_Nodes T_R09_Nodes
  dsimp only [anP, anO]
  try simp only [y1, y2, y3, y4, y5 Q, y6, y7, y8 Q, y9, z1, z2, z3, z4]
theorem b75 (rec75 : api_Expr → Option Int) (hr75 : ∀ (y0 : api_Expr) (r : Int), rec75 y0 = some r → Holds Tryz.prog 75 [.agg (enapi_Expr y0)] (I r)) (L : Nat) (a0 : api_Expr) (r : Int) (h : B_R09_Nodes rec75 L a0 = some r) : Holds Tryz.prog 75 [.agg (enapi_Expr a0)] (I r) :=
  hE grwOK (s75 rec75 hr75 L) mixed Tryz.func75 (by kernel_rfl : cFn Tryz.prog inl Tryz.f75 = some c75) (er := fun (x : Int) => I x) (by kernel_rfl) (e75 rec75 L a0) h
def F_R09_Nodes : Nat → api_Expr → Option Int
  | 0, _ => none
  | L + 1, a0 => B_R09_Nodes (F_R09_Nodes L) L a0
theorem hall75 : ∀ L, (∀ (y0 : api_Expr) (r : Int), F_R09_Nodes L y0 = some r → Holds Tryz.prog 75 [.agg (enapi_Expr y0)] (I r)) := by
  intro L
  induction L with
  | zero => exact fun _ r h => (by cases h)
  | succ L ih =>
    have i75 := ih
    exact fun y0 r h => b75 (F_R09_Nodes L) i75 L y0 r h
theorem h75 (L : Nat) : ∀ (y0 : api_Expr) (r : Int), F_R09_Nodes L y0 = some r → Holds Tryz.prog 75 [.agg (enapi_Expr y0)] (I r) := hall75 L

/-! ### simulator/simulatorref09.Depth -/
noncomputable def c76 : EC := (cFn Tryz.prog inl Tryz.f76).getD .stop
def O76 (rec76 : api_Expr → Option Int) (L : Nat) : Oracle := (orc 76 (A1 (fun (x : Int) => I x) ca_api_Expr rec76) noC)
theorem s76 (rec76 : api_Expr → Option Int) (hr76 : ∀ (y0 : api_Expr) (r : Int), rec76 y0 = some r → Holds Tryz.prog 76 [.agg (enapi_Expr y0)] (I r)) (L : Nat) : SoundC Tryz.prog (O76 rec76 L) := (orc_sound (a1 _ hr76) (noC_sound Tryz.prog))
def sh76_1 (a0 : api_Expr) (v1_1 : Int) (v1_2 : Int) : St := ({ fr := [(0, .any), (1, .loc 1 0), (2, I 0), (3, I v1_1), (4, I v1_2)], ob := [(1, (enapi_Expr a0))], base := 0 } : St)
def KK76_1 (a0 : api_Expr) (K : Ex → St → Prop) : Nat × (Int × Int) → Prop := fun o => seln o.1 [K (.exit 0) (sh76_1 a0 o.2.1 o.2.2)]
def lb_R09_Depth_1 {A : Type} (an : An A) (rec76 : api_Expr → Option Int) (L : Nat) (a0 : api_Expr) (rec : Int → Int → A) (out : Nat × (Int × Int) → A) (v1_1 : Int) (v1_2 : Int) : A :=
 (an.cn (decide (v1_2 < (a0.Kids.length : Int)))
 (an.gd ((0 : Int) ≤ v1_2)
 (an.gd (v1_2 < ((a0.Kids.length : Nat) : Int))
 (an.bd (rec76 (api_Expr.cp (a0.Kids.getD (Int.toNat v1_2) default))) fun r1 =>
 (rec (if r1 > v1_1 then r1 else v1_1) (w64 (v1_2 + 1))))))
 (an.lf out (0, (v1_1, v1_2))))
def lp_R09_Depth_1 (rec76 : api_Expr → Option Int) (L : Nat) (a0 : api_Expr) : Nat → Int → Int → Option (Nat × (Int × Int))
  | 0, _, _ => none
  | n + 1, v1_1, v1_2 => lb_R09_Depth_1 (anO _) rec76 L a0 (lp_R09_Depth_1 rec76 L a0 n) some v1_1 v1_2
theorem ln76_1 (rec76 : api_Expr → Option Int) (L : Nat) (a0 : api_Expr) (g : Int → Int → Option (Nat × (Int × Int))) (Q : Nat × (Int × Int) → Prop) (v1_1 : Int) (v1_2 : Int) : lb_R09_Depth_1 anP rec76 L a0 (fun v1_1 v1_2 => ob (g v1_1 v1_2) Q) Q v1_1 v1_2 = ob (lb_R09_Depth_1 (anO _) rec76 L a0 g some v1_1 v1_2) Q := by
  unfold lb_R09_Depth_1
  dsimp only [anP, anO]
  try simp only [y1, y2, y3, y4, y5 Q, y6, y7, y8 Q, y9, z1, z2, z3, z4]
theorem le76_1 (rec76 : api_Expr → Option Int) (L : Nat) (a0 : api_Expr) (n : Nat) (v1_1 : Int) (v1_2 : Int) (K : Ex → St → Prop) : loopN (EV (O76 rec76 L) L 9 c76.r.r.r.r.l.r.r.l.l) [0, 1, 2, 3, 4] [1] n (sh76_1 a0 v1_1 v1_2) K = ob (lp_R09_Depth_1 rec76 L a0 n v1_1 v1_2) (fun o => KK76_1 a0 K o) := by
  induction n generalizing v1_1 v1_2 with
  | zero => rfl
  | succ n ih =>
    refine Eq.trans (b := lb_R09_Depth_1 anP rec76 L a0 (fun v1_1 v1_2 => loopN (EV (O76 rec76 L) L 9 c76.r.r.r.r.l.r.r.l.l) [0, 1, 2, 3, 4] [1] n (sh76_1 a0 v1_1 v1_2) K) (KK76_1 a0 K) v1_1 v1_2) (by kernel_rfl) ?_
    simp only [ih]
    exact ln76_1 rec76 L a0 (lp_R09_Depth_1 rec76 L a0 n) (KK76_1 a0 K) v1_1 v1_2
def kc76_1 (rec76 : api_Expr → Option Int) (L : Nat)  (kk : PV → Prop) : Ex → St → Prop := (kBlock 0 (kSeq (EV (O76 rec76 L) L 9 c76.r.r.r.r.r) (kEnd Tryz.prog (RS Tryz.f76) kk)))
theorem q76_1 (rec76 : api_Expr → Option Int) (L : Nat) (a0 : api_Expr) (kk : PV → Prop) (o1 : Nat × (Int × Int)) : KK76_1 a0 (kc76_1 rec76 L kk) o1 =
 (seln o1.1 [(ob (some (w64 (o1.2.1 + 1))) (fun (x : Int) => kk (I x)))]) := by kernel_rfl
def T_R09_Depth {A : Type} (an : An A) (rec76 : api_Expr → Option Int) (L : Nat) (a0 : api_Expr) (out : Int → A) : A :=
 (an.bd (lp_R09_Depth_1 rec76 L a0 L 0 0) fun o1 =>
 (an.sl o1.1 [(an.lf out (w64 (o1.2.1 + 1)))]))
def B_R09_Depth (rec76 : api_Expr → Option Int) (L : Nat) (a0 : api_Expr) : Option Int := T_R09_Depth (anO _) rec76 L a0 some
theorem e76 (rec76 : api_Expr → Option Int) (L : Nat) (a0 : api_Expr) (kk : PV → Prop) : EW (O76 rec76 L) L 9 (RS Tryz.f76) c76 [.agg (enapi_Expr a0)] kk = ob (B_R09_Depth rec76 L a0) (fun (x : Int) => kk (I x)) := by
  refine Eq.trans (b := T_R09_Depth anP rec76 L a0 (fun (x : Int) => kk (I x))) ?_ ?_
  · refine Eq.trans (b := (loopN (EV (O76 rec76 L) L 9 c76.r.r.r.r.l.r.r.l.l) [0, 1, 2, 3, 4] [1] L (sh76_1 a0 0 0) (kc76_1 rec76 L kk))) (by kernel_rfl) ?_
    unfold T_R09_Depth
    dsimp only [anP]
    simp only [le76_1, q76_1]
  generalize (fun (x : Int) => kk (I x)) = Q
  unfold B_R09_Depth T_R09_Depth
  dsimp only [anP, anO]
  try simp only [y1, y2, y3, y4, y5 Q, y6, y7, y8 Q, y9, z1, z2, z3, z4]
theorem b76 (rec76 : api_Expr → Option Int) (hr76 : ∀ (y0 : api_Expr) (r : Int), rec76 y0 = some r → Holds Tryz.prog 76 [.agg (enapi_Expr y0)] (I r)) (L : Nat) (a0 : api_Expr) (r : Int) (h : B_R09_Depth rec76 L a0 = some r) : Holds Tryz.prog 76 [.agg (enapi_Expr a0)] (I r) :=
  hE grwOK (s76 rec76 hr76 L) mixed Tryz.func76 (by kernel_rfl : cFn Tryz.prog inl Tryz.f76 = some c76) (er := fun (x : Int) => I x) (by kernel_rfl) (e76 rec76 L a0) h
def F_R09_Depth : Nat → api_Expr → Option Int
  | 0, _ => none
  | L + 1, a0 => B_R09_Depth (F_R09_Depth L) L a0
theorem hall76 : ∀ L, (∀ (y0 : api_Expr) (r : Int), F_R09_Depth L y0 = some r → Holds Tryz.prog 76 [.agg (enapi_Expr y0)] (I r)) := by
  intro L
  induction L with
  | zero => exact fun _ r h => (by cases h)
  | succ L ih =>
    have i76 := ih
    exact fun y0 r h => b76 (F_R09_Depth L) i76 L y0 r h
theorem h76 (L : Nat) : ∀ (y0 : api_Expr) (r : Int), F_R09_Depth L y0 = some r → Holds Tryz.prog 76 [.agg (enapi_Expr y0)] (I r) := hall76 L

/-! ### simulator/simulatorref09.Arity -/
noncomputable def c154 : EC := (cFn Tryz.prog inl Tryz.f154).getD .stop
def O154  (L : Nat) : Oracle := noC
theorem s154   (L : Nat) : SoundC Tryz.prog (O154 L) := (noC_sound Tryz.prog)
def T_R09_Arity {A : Type} (an : An A)  (L : Nat) (a0 : Int) (out : Int → A) : A :=
 (an.jp (bif (decide (a0 < 1)) then true
 else (decide (a0 > 26))) (fun j => (an.cn (decide (a0 < 1))
 (an.ap j true)
 (an.ap j (decide (a0 > 26))))) (fun b1 =>
 (an.cn b1
 (an.lf out (-1))
 (an.jp (bif (decide (a0 ≥ 5)) then (decide (a0 ≤ 8))
 else false) (fun j => (an.cn (decide (a0 ≥ 5))
 (an.ap j (decide (a0 ≤ 8)))
 (an.ap j false))) (fun b2 =>
 (an.cn b2
 (an.lf out 1)
 (an.jp (bif (decide (a0 ≥ 9)) then (decide (a0 ≤ 21))
 else false) (fun j => (an.cn (decide (a0 ≥ 9))
 (an.ap j (decide (a0 ≤ 21)))
 (an.ap j false))) (fun b3 =>
 (an.cn b3
 (an.lf out 2)
 (an.lf out 0))))))))))
def F_R09_Arity  (L : Nat) (a0 : Int) : Option Int := T_R09_Arity (anO _) L a0 some
theorem e154  (L : Nat) (a0 : Int) (kk : PV → Prop) : EW (O154 L) L 9 (RS Tryz.f154) c154 [I a0] kk = ob (F_R09_Arity L a0) (fun (x : Int) => kk (I x)) := by
  refine Eq.trans (b := T_R09_Arity anP L a0 (fun (x : Int) => kk (I x))) (by kernel_rfl) ?_
  generalize (fun (x : Int) => kk (I x)) = Q
  unfold F_R09_Arity T_R09_Arity
  dsimp only [anP, anO]
  try simp only [y1, y2, y3, y4, y5 Q, y6, y7, y8 Q, y9, z1, z2, z3, z4]
theorem h154   (L : Nat) (a0 : Int) (r : Int) (h : F_R09_Arity L a0 = some r) : Holds Tryz.prog 154 [I a0] (I r) :=
  hE grwOK (s154  L) mixed Tryz.func154 (by kernel_rfl : cFn Tryz.prog inl Tryz.f154 = some c154) (er := fun (x : Int) => I x) (by kernel_rfl) (e154 L a0) h

/-! ### simulator/simulatorref09.object -/
noncomputable def c155 : EC := (cFn Tryz.prog inl Tryz.f155).getD .stop
def O155  (L : Nat) : Oracle := noC
theorem s155   (L : Nat) : SoundC Tryz.prog (O155 L) := (noC_sound Tryz.prog)
def T_R09_object {A : Type} (an : An A)  (L : Nat) (a0 : Int) (out : Bool → A) : A :=
 (an.jp (bif (decide (a0 ≥ 22)) then (decide (a0 ≤ 24))
 else false) (fun j => (an.cn (decide (a0 ≥ 22))
 (an.ap j (decide (a0 ≤ 24)))
 (an.ap j false))) (fun b1 =>
 (an.lf out b1)))
def F_R09_object  (L : Nat) (a0 : Int) : Option Bool := T_R09_object (anO _) L a0 some
theorem e155  (L : Nat) (a0 : Int) (kk : PV → Prop) : EW (O155 L) L 9 (RS Tryz.f155) c155 [I a0] kk = ob (F_R09_object L a0) (fun (x : Bool) => kk (B x)) := by
  refine Eq.trans (b := T_R09_object anP L a0 (fun (x : Bool) => kk (B x))) (by kernel_rfl) ?_
  generalize (fun (x : Bool) => kk (B x)) = Q
  unfold F_R09_object T_R09_object
  dsimp only [anP, anO]
  try simp only [y1, y2, y3, y4, y5 Q, y6, y7, y8 Q, y9, z1, z2, z3, z4]
theorem h155   (L : Nat) (a0 : Int) (r : Bool) (h : F_R09_object L a0 = some r) : Holds Tryz.prog 155 [I a0] (B r) :=
  hE grwOK (s155  L) mixed Tryz.func155 (by kernel_rfl : cFn Tryz.prog inl Tryz.f155 = some c155) (er := fun (x : Bool) => B x) (by kernel_rfl) (e155 L a0) h

/-! ### simulator/simulatorref01.In -/
noncomputable def c156 : EC := (cFn Tryz.prog inl Tryz.f156).getD .stop
def O156  (L : Nat) : Oracle := noC
theorem s156   (L : Nat) : SoundC Tryz.prog (O156 L) := (noC_sound Tryz.prog)
def T_R01_In {A : Type} (an : An A)  (L : Nat) (a0 : Int) (out : Bool → A) : A :=
 (an.jp (bif (decide (a0 ≥ (-1000000000000))) then (decide (a0 ≤ 1000000000000))
 else false) (fun j => (an.cn (decide (a0 ≥ (-1000000000000)))
 (an.ap j (decide (a0 ≤ 1000000000000)))
 (an.ap j false))) (fun b1 =>
 (an.lf out b1)))
def F_R01_In  (L : Nat) (a0 : Int) : Option Bool := T_R01_In (anO _) L a0 some
theorem e156  (L : Nat) (a0 : Int) (kk : PV → Prop) : EW (O156 L) L 9 (RS Tryz.f156) c156 [I a0] kk = ob (F_R01_In L a0) (fun (x : Bool) => kk (B x)) := by
  refine Eq.trans (b := T_R01_In anP L a0 (fun (x : Bool) => kk (B x))) (by kernel_rfl) ?_
  generalize (fun (x : Bool) => kk (B x)) = Q
  unfold F_R01_In T_R01_In
  dsimp only [anP, anO]
  try simp only [y1, y2, y3, y4, y5 Q, y6, y7, y8 Q, y9, z1, z2, z3, z4]
theorem h156   (L : Nat) (a0 : Int) (r : Bool) (h : F_R01_In L a0 = some r) : Holds Tryz.prog 156 [I a0] (B r) :=
  hE grwOK (s156  L) mixed Tryz.func156 (by kernel_rfl : cFn Tryz.prog inl Tryz.f156 = some c156) (er := fun (x : Bool) => B x) (by kernel_rfl) (e156 L a0) h

/-! ### simulator/simulatorref09.most -/
noncomputable def c157 : EC := (cFn Tryz.prog inl Tryz.f157).getD .stop
def O157  (L : Nat) : Oracle := noC
theorem s157   (L : Nat) : SoundC Tryz.prog (O157 L) := (noC_sound Tryz.prog)
def T_R09_most {A : Type} (an : An A)  (L : Nat) (a0 : Int) (out : Int → A) : A :=
 (an.cn (a0 == 25)
 (an.lf out 15)
 (an.cn (a0 == 26)
 (an.lf out 31)
 (an.lf out 63)))
def F_R09_most  (L : Nat) (a0 : Int) : Option Int := T_R09_most (anO _) L a0 some
theorem e157  (L : Nat) (a0 : Int) (kk : PV → Prop) : EW (O157 L) L 9 (RS Tryz.f157) c157 [I a0] kk = ob (F_R09_most L a0) (fun (x : Int) => kk (I x)) := by
  refine Eq.trans (b := T_R09_most anP L a0 (fun (x : Int) => kk (I x))) (by kernel_rfl) ?_
  generalize (fun (x : Int) => kk (I x)) = Q
  unfold F_R09_most T_R09_most
  dsimp only [anP, anO]
  try simp only [y1, y2, y3, y4, y5 Q, y6, y7, y8 Q, y9, z1, z2, z3, z4]
theorem h157   (L : Nat) (a0 : Int) (r : Int) (h : F_R09_most L a0 = some r) : Holds Tryz.prog 157 [I a0] (I r) :=
  hE grwOK (s157  L) mixed Tryz.func157 (by kernel_rfl : cFn Tryz.prog inl Tryz.f157 = some c157) (er := fun (x : Int) => I x) (by kernel_rfl) (e157 L a0) h

/-! ### simulator/simulatorref07.letter -/
noncomputable def c139 : EC := (cFn Tryz.prog inl Tryz.f139).getD .stop
def O139  (L : Nat) : Oracle := noC
theorem s139   (L : Nat) : SoundC Tryz.prog (O139 L) := (noC_sound Tryz.prog)
def T_R07_letter {A : Type} (an : An A)  (L : Nat) (a0 : Int) (out : Bool → A) : A :=
 (an.jp (bif (decide (a0 ≥ 97)) then (decide (a0 ≤ 122))
 else false) (fun j => (an.cn (decide (a0 ≥ 97))
 (an.ap j (decide (a0 ≤ 122)))
 (an.ap j false))) (fun b1 =>
 (an.lf out b1)))
def F_R07_letter  (L : Nat) (a0 : Int) : Option Bool := T_R07_letter (anO _) L a0 some
theorem e139  (L : Nat) (a0 : Int) (kk : PV → Prop) : EW (O139 L) L 9 (RS Tryz.f139) c139 [V .u8 a0] kk = ob (F_R07_letter L a0) (fun (x : Bool) => kk (B x)) := by
  refine Eq.trans (b := T_R07_letter anP L a0 (fun (x : Bool) => kk (B x))) (by kernel_rfl) ?_
  generalize (fun (x : Bool) => kk (B x)) = Q
  unfold F_R07_letter T_R07_letter
  dsimp only [anP, anO]
  try simp only [y1, y2, y3, y4, y5 Q, y6, y7, y8 Q, y9, z1, z2, z3, z4]
theorem h139   (L : Nat) (a0 : Int) (r : Bool) (h : F_R07_letter L a0 = some r) : Holds Tryz.prog 139 [V .u8 a0] (B r) :=
  hE grwOK (s139  L) mixed Tryz.func139 (by kernel_rfl : cFn Tryz.prog inl Tryz.f139 = some c139) (er := fun (x : Bool) => B x) (by kernel_rfl) (e139 L a0) h

/-! ### simulator/simulatorref07.Keywords -/
noncomputable def c202 : EC := (cFn Tryz.prog inl Tryz.f202).getD .stop
def O202  (L : Nat) : Oracle := noC
theorem s202   (L : Nat) : SoundC Tryz.prog (O202 L) := (noC_sound Tryz.prog)
def T_R07_Keywords {A : Type} (an : An A)  (L : Nat)  (out : (List ByteArray) → A) : A :=
 (an.lf out [(⟨#[97, 100, 100]⟩ : ByteArray), (⟨#[97, 102, 116, 101, 114]⟩ : ByteArray), (⟨#[97, 110, 100]⟩ : ByteArray), (⟨#[97, 116]⟩ : ByteArray), (⟨#[98, 101, 108, 116]⟩ : ByteArray), (⟨#[98, 111, 111, 108]⟩ : ByteArray), (⟨#[99, 111, 110, 115, 101, 114, 118, 101]⟩ : ByteArray), (⟨#[99, 111, 110, 115, 116]⟩ : ByteArray), (⟨#[99, 111, 117, 110, 116]⟩ : ByteArray), (⟨#[99, 121, 99, 108, 101]⟩ : ByteArray), (⟨#[100, 111, 119, 110]⟩ : ByteArray), (⟨#[100, 114, 97, 119]⟩ : ByteArray), (⟨#[100, 117, 114]⟩ : ByteArray), (⟨#[101, 108, 115, 101]⟩ : ByteArray), (⟨#[101, 110, 100]⟩ : ByteArray), (⟨#[101, 118, 101, 114, 121]⟩ : ByteArray), (⟨#[102, 97, 108, 115, 101]⟩ : ByteArray), (⟨#[102, 97, 117, 108, 116]⟩ : ByteArray), (⟨#[102, 105, 102, 111]⟩ : ByteArray), (⟨#[102, 114, 101, 101]⟩ : ByteArray), (⟨#[102, 114, 111, 109]⟩ : ByteArray), (⟨#[103, 101, 111, 109]⟩ : ByteArray), (⟨#[103, 101, 116]⟩ : ByteArray), (⟨#[104, 111, 108, 100]⟩ : ByteArray), (⟨#[105, 102]⟩ : ByteArray), (⟨#[105, 110, 116]⟩ : ByteArray), (⟨#[105, 110, 116, 111]⟩ : ByteArray), (⟨#[108, 101, 97, 115, 116]⟩ : ByteArray), (⟨#[108, 101, 118, 101, 108]⟩ : ByteArray), (⟨#[108, 105, 102, 111]⟩ : ByteArray), (⟨#[108, 105, 110, 107]⟩ : ByteArray), (⟨#[108, 111, 99, 97, 108]⟩ : ByteArray), (⟨#[109, 97, 120]⟩ : ByteArray), (⟨#[109, 105, 110]⟩ : ByteArray), (⟨#[109, 111, 100, 101, 108]⟩ : ByteArray), (⟨#[110, 111, 116]⟩ : ByteArray), (⟨#[110, 111, 119]⟩ : ByteArray), (⟨#[111, 98, 115, 101, 114, 118, 101]⟩ : ByteArray), (⟨#[111, 114]⟩ : ByteArray), (⟨#[112, 97, 114, 97, 109]⟩ : ByteArray), (⟨#[112, 114, 101, 101, 109, 112, 116]⟩ : ByteArray), (⟨#[112, 114, 105, 111]⟩ : ByteArray), (⟨#[112, 117, 116]⟩ : ByteArray), (⟨#[113, 117, 101, 117, 101]⟩ : ByteArray), (⟨#[114, 101, 108, 101, 97, 115, 101]⟩ : ByteArray), (⟨#[114, 101, 115, 111, 117, 114, 99, 101]⟩ : ByteArray), (⟨#[114, 105, 100, 101]⟩ : ByteArray), (⟨#[114, 111, 117, 116, 105, 110, 101]⟩ : ByteArray), (⟨#[115, 101, 105, 122, 101]⟩ : ByteArray), (⟨#[115, 101, 110, 100]⟩ : ByteArray), (⟨#[115, 101, 116]⟩ : ByteArray), (⟨#[115, 104, 105, 102, 116]⟩ : ByteArray), (⟨#[115, 105, 103, 110, 97, 108]⟩ : ByteArray), (⟨#[115, 105, 116, 101]⟩ : ByteArray), (⟨#[115, 105, 122, 101]⟩ : ByteArray), (⟨#[115, 112, 97, 119, 110]⟩ : ByteArray), (⟨#[115, 116, 97, 114, 116]⟩ : ByteArray), (⟨#[115, 116, 111, 112]⟩ : ByteArray), (⟨#[115, 116, 111, 114, 101]⟩ : ByteArray), (⟨#[115, 116, 114, 101, 97, 109]⟩ : ByteArray), (⟨#[115, 117, 109]⟩ : ByteArray), (⟨#[116, 97, 98, 108, 101]⟩ : ByteArray), (⟨#[116, 97, 108, 108, 121]⟩ : ByteArray), (⟨#[116, 105, 99, 107, 115]⟩ : ByteArray), (⟨#[116, 105, 109, 101]⟩ : ByteArray), (⟨#[116, 114, 117, 101]⟩ : ByteArray), (⟨#[117, 110, 105, 102, 111, 114, 109]⟩ : ByteArray), (⟨#[117, 110, 116, 105, 108]⟩ : ByteArray), (⟨#[117, 112]⟩ : ByteArray), (⟨#[118, 97, 114]⟩ : ByteArray), (⟨#[119, 97, 105, 116]⟩ : ByteArray), (⟨#[119, 97, 105, 116, 105, 110, 103]⟩ : ByteArray), (⟨#[119, 104, 105, 108, 101]⟩ : ByteArray)])
def F_R07_Keywords  (L : Nat)  : Option (List ByteArray) := T_R07_Keywords (anO _) L  some
theorem e202  (L : Nat)  (kk : PV → Prop) : EW (O202 L) L 9 (RS Tryz.f202) c202 [] kk = ob (F_R07_Keywords L ) (fun (x : (List ByteArray)) => kk (.lst false (.t9 x))) := by
  refine Eq.trans (b := T_R07_Keywords anP L  (fun (x : (List ByteArray)) => kk (.lst false (.t9 x)))) (by kernel_rfl) ?_
  generalize (fun (x : (List ByteArray)) => kk (.lst false (.t9 x))) = Q
  unfold F_R07_Keywords T_R07_Keywords
  dsimp only [anP, anO]
  try simp only [y1, y2, y3, y4, y5 Q, y6, y7, y8 Q, y9, z1, z2, z3, z4]
theorem h202   (L : Nat)  (r : (List ByteArray)) (h : F_R07_Keywords L  = some r) : Holds Tryz.prog 202 [] (.lst false (.t9 r)) :=
  hE grwOK (s202  L) mixed Tryz.func202 (by kernel_rfl : cFn Tryz.prog inl Tryz.f202 = some c202) (er := fun (x : (List ByteArray)) => .lst false (.t9 x)) (by kernel_rfl) (e202 L ) h

/-! ### simulator/simulatorref07.Find -/
noncomputable def c143 : EC := (cFn Tryz.prog inl Tryz.f143).getD .stop
def O143  (L : Nat) : Oracle := noC
theorem s143   (L : Nat) : SoundC Tryz.prog (O143 L) := (noC_sound Tryz.prog)
def sh143_1 (a0 : (List ByteArray)) (a1 : ByteArray) (v1_2 : Int) (v1_3 : Int) : St := ({ fr := [(0, .lst false (.t9 a0)), (1, S a1), (4, I v1_2), (5, I v1_3)], ob := [], base := 0 } : St)
def KK143_1 (a0 : (List ByteArray)) (a1 : ByteArray) (K : Ex → St → Prop) : Nat × (Int × Int) → Prop := fun o => seln o.1 [K .ret (sh143_1 a0 a1 o.2.1 o.2.2), K (.exit 0) (sh143_1 a0 a1 o.2.1 o.2.2)]
def lb_R07_Find_1 {A : Type} (an : An A)  (L : Nat) (a0 : (List ByteArray)) (a1 : ByteArray) (rec : Int → Int → A) (out : Nat × (Int × Int) → A) (v1_2 : Int) (v1_3 : Int) : A :=
 (an.cn (decide (v1_3 < (a0.length : Int)))
 (an.gd ((0 : Int) ≤ v1_3)
 (an.gd (v1_3 < ((a0.length : Nat) : Int))
 (an.cn ((a0.getD (Int.toNat v1_3) default).toList == a1.toList)
 (an.lf out (0, (v1_3, v1_3)))
 (rec v1_2 (w64 (v1_3 + 1))))))
 (an.lf out (1, (v1_2, v1_3))))
def lp_R07_Find_1  (L : Nat) (a0 : (List ByteArray)) (a1 : ByteArray) : Nat → Int → Int → Option (Nat × (Int × Int))
  | 0, _, _ => none
  | n + 1, v1_2, v1_3 => lb_R07_Find_1 (anO _)  L a0 a1 (lp_R07_Find_1  L a0 a1 n) some v1_2 v1_3
theorem ln143_1  (L : Nat) (a0 : (List ByteArray)) (a1 : ByteArray) (g : Int → Int → Option (Nat × (Int × Int))) (Q : Nat × (Int × Int) → Prop) (v1_2 : Int) (v1_3 : Int) : lb_R07_Find_1 anP  L a0 a1 (fun v1_2 v1_3 => ob (g v1_2 v1_3) Q) Q v1_2 v1_3 = ob (lb_R07_Find_1 (anO _)  L a0 a1 g some v1_2 v1_3) Q := by
  unfold lb_R07_Find_1
  dsimp only [anP, anO]
  try simp only [y1, y2, y3, y4, y5 Q, y6, y7, y8 Q, y9, z1, z2, z3, z4]
theorem le143_1  (L : Nat) (a0 : (List ByteArray)) (a1 : ByteArray) (n : Nat) (v1_2 : Int) (v1_3 : Int) (K : Ex → St → Prop) : loopN (EV (O143 L) L 9 c143.r.r.l.r.r.l.l) [0, 1, 4, 5] [] n (sh143_1 a0 a1 v1_2 v1_3) K = ob (lp_R07_Find_1  L a0 a1 n v1_2 v1_3) (fun o => KK143_1 a0 a1 K o) := by
  induction n generalizing v1_2 v1_3 with
  | zero => rfl
  | succ n ih =>
    refine Eq.trans (b := lb_R07_Find_1 anP  L a0 a1 (fun v1_2 v1_3 => loopN (EV (O143 L) L 9 c143.r.r.l.r.r.l.l) [0, 1, 4, 5] [] n (sh143_1 a0 a1 v1_2 v1_3) K) (KK143_1 a0 a1 K) v1_2 v1_3) (by kernel_rfl) ?_
    simp only [ih]
    exact ln143_1  L a0 a1 (lp_R07_Find_1  L a0 a1 n) (KK143_1 a0 a1 K) v1_2 v1_3
def kc143_1  (L : Nat)  (kk : PV → Prop) : Ex → St → Prop := (kBlock 0 (kSeq (EV (O143 L) L 9 c143.r.r.r) (kEnd Tryz.prog (RS Tryz.f143) kk)))
theorem q143_1  (L : Nat) (a0 : (List ByteArray)) (a1 : ByteArray) (kk : PV → Prop) (o1 : Nat × (Int × Int)) : KK143_1 a0 a1 (kc143_1 L kk) o1 =
 (seln o1.1 [(ob (some o1.2.1) (fun (x : Int) => kk (I x))),
 (ob (some (-1)) (fun (x : Int) => kk (I x)))]) := by kernel_rfl
def T_R07_Find {A : Type} (an : An A)  (L : Nat) (a0 : (List ByteArray)) (a1 : ByteArray) (out : Int → A) : A :=
 (an.bd (lp_R07_Find_1 L a0 a1 L 0 0) fun o1 =>
 (an.sl o1.1 [(an.lf out o1.2.1),
 (an.lf out (-1))]))
def F_R07_Find  (L : Nat) (a0 : (List ByteArray)) (a1 : ByteArray) : Option Int := T_R07_Find (anO _) L a0 a1 some
theorem e143  (L : Nat) (a0 : (List ByteArray)) (a1 : ByteArray) (kk : PV → Prop) : EW (O143 L) L 9 (RS Tryz.f143) c143 [.lst false (.t9 a0), S a1] kk = ob (F_R07_Find L a0 a1) (fun (x : Int) => kk (I x)) := by
  refine Eq.trans (b := T_R07_Find anP L a0 a1 (fun (x : Int) => kk (I x))) ?_ ?_
  · refine Eq.trans (b := (loopN (EV (O143 L) L 9 c143.r.r.l.r.r.l.l) [0, 1, 4, 5] [] L (sh143_1 a0 a1 0 0) (kc143_1 L kk))) (by kernel_rfl) ?_
    unfold T_R07_Find
    dsimp only [anP]
    simp only [le143_1, q143_1]
  generalize (fun (x : Int) => kk (I x)) = Q
  unfold F_R07_Find T_R07_Find
  dsimp only [anP, anO]
  try simp only [y1, y2, y3, y4, y5 Q, y6, y7, y8 Q, y9, z1, z2, z3, z4]
theorem h143   (L : Nat) (a0 : (List ByteArray)) (a1 : ByteArray) (r : Int) (h : F_R07_Find L a0 a1 = some r) : Holds Tryz.prog 143 [.lst false (.t9 a0), S a1] (I r) :=
  hE grwOK (s143  L) mixed Tryz.func143 (by kernel_rfl : cFn Tryz.prog inl Tryz.f143 = some c143) (er := fun (x : Int) => I x) (by kernel_rfl) (e143 L a0 a1) h

/-! ### simulator/simulatorref07.Keyword -/
noncomputable def c140 : EC := (cFn Tryz.prog inl Tryz.f140).getD .stop
def O140  (L : Nat) : Oracle := (orc 143 (A2 (fun (x : Int) => I x) cl9 cS (F_R07_Find L)) (orc 202 (A0 (fun (x : (List ByteArray)) => .lst false (.t9 x))  (F_R07_Keywords L)) noC))
theorem s140   (L : Nat) : SoundC Tryz.prog (O140 L) := (orc_sound (a2 _ (h143 L)) (orc_sound (a0 _ (h202 L)) (noC_sound Tryz.prog)))
def T_R07_Keyword {A : Type} (an : An A)  (L : Nat) (a0 : ByteArray) (out : Bool → A) : A :=
 (an.bd (F_R07_Keywords L) fun r1 =>
 (an.bd (F_R07_Find L r1 a0) fun r2 =>
 (an.lf out (decide (r2 ≥ 0)))))
def F_R07_Keyword  (L : Nat) (a0 : ByteArray) : Option Bool := T_R07_Keyword (anO _) L a0 some
theorem e140  (L : Nat) (a0 : ByteArray) (kk : PV → Prop) : EW (O140 L) L 9 (RS Tryz.f140) c140 [S a0] kk = ob (F_R07_Keyword L a0) (fun (x : Bool) => kk (B x)) := by
  refine Eq.trans (b := T_R07_Keyword anP L a0 (fun (x : Bool) => kk (B x))) (by kernel_rfl) ?_
  generalize (fun (x : Bool) => kk (B x)) = Q
  unfold F_R07_Keyword T_R07_Keyword
  dsimp only [anP, anO]
  try simp only [y1, y2, y3, y4, y5 Q, y6, y7, y8 Q, y9, z1, z2, z3, z4]
theorem h140   (L : Nat) (a0 : ByteArray) (r : Bool) (h : F_R07_Keyword L a0 = some r) : Holds Tryz.prog 140 [S a0] (B r) :=
  hE grwOK (s140  L) mixed Tryz.func140 (by kernel_rfl : cFn Tryz.prog inl Tryz.f140 = some c140) (er := fun (x : Bool) => B x) (by kernel_rfl) (e140 L a0) h

/-! ### simulator/simulatorref07.Check -/
noncomputable def c66 : EC := (cFn Tryz.prog inl Tryz.f66).getD .stop
def O66  (L : Nat) : Oracle := (orc 139 (A1 (fun (x : Bool) => B x) (cI .u8) (F_R07_letter L)) (orc 140 (A1 (fun (x : Bool) => B x) cS (F_R07_Keyword L)) noC))
theorem s66   (L : Nat) : SoundC Tryz.prog (O66 L) := (orc_sound (a1 _ (h139 L)) (orc_sound (a1 _ (h140 L)) (noC_sound Tryz.prog)))
def sh66_1 (a0 : ByteArray) (v1_1 : Int) (v1_2 : Int) : St := ({ fr := [(0, S a0), (2, I v1_1), (3, I v1_2)], ob := [], base := 0 } : St)
def KK66_1 (a0 : ByteArray) (K : Ex → St → Prop) : Nat × (Int × Int) → Prop := fun o => seln o.1 [K .ret (sh66_1 a0 o.2.1 o.2.2), K (.exit 0) (sh66_1 a0 o.2.1 o.2.2)]
def lb_R07_Check_1 {A : Type} (an : An A)  (L : Nat) (a0 : ByteArray) (rec : Int → Int → A) (out : Nat × (Int × Int) → A) (v1_1 : Int) (v1_2 : Int) : A :=
 (an.cn (decide (v1_2 < (a0.size : Int)))
 (an.cn ((if 0 ≤ v1_2 then a0[Int.toNat v1_2]? else none).isSome)
 (an.bd (F_R07_letter L (optByte (if 0 ≤ v1_2 then a0[Int.toNat v1_2]? else none))) fun r8 =>
 (an.jb (bif (!r8) then (bif ((if 0 ≤ v1_2 then a0[Int.toNat v1_2]? else none).isSome) then (some ((optByte (if 0 ≤ v1_2 then a0[Int.toNat v1_2]? else none)) != 95))
 else none)
 else (some false)) (fun j => (an.cn (!r8)
 (an.cn ((if 0 ≤ v1_2 then a0[Int.toNat v1_2]? else none).isSome)
 (an.lf j ((optByte (if 0 ≤ v1_2 then a0[Int.toNat v1_2]? else none)) != 95))
 (an.bd none j))
 (an.lf j false))) (fun b9 =>
 (an.jb (bif b9 then (bif ((if 0 ≤ v1_2 then a0[Int.toNat v1_2]? else none).isSome) then (bif (decide ((optByte (if 0 ≤ v1_2 then a0[Int.toNat v1_2]? else none)) < 48)) then (some true)
 else (bif ((if 0 ≤ v1_2 then a0[Int.toNat v1_2]? else none).isSome) then (some (decide ((optByte (if 0 ≤ v1_2 then a0[Int.toNat v1_2]? else none)) > 57)))
 else none))
 else none)
 else (some false)) (fun j => (an.cn b9
 (an.cn ((if 0 ≤ v1_2 then a0[Int.toNat v1_2]? else none).isSome)
 (an.cn (decide ((optByte (if 0 ≤ v1_2 then a0[Int.toNat v1_2]? else none)) < 48))
 (an.lf j true)
 (an.cn ((if 0 ≤ v1_2 then a0[Int.toNat v1_2]? else none).isSome)
 (an.lf j (decide ((optByte (if 0 ≤ v1_2 then a0[Int.toNat v1_2]? else none)) > 57)))
 (an.bd none j)))
 (an.bd none j))
 (an.lf j false))) (fun b10 =>
 (an.cn b10
 (an.lf out (0, (3, v1_2)))
 (rec v1_1 (w64 (v1_2 + 1)))))))))
 an.fl)
 (an.lf out (1, (v1_1, v1_2))))
def lp_R07_Check_1  (L : Nat) (a0 : ByteArray) : Nat → Int → Int → Option (Nat × (Int × Int))
  | 0, _, _ => none
  | n + 1, v1_1, v1_2 => lb_R07_Check_1 (anO _)  L a0 (lp_R07_Check_1  L a0 n) some v1_1 v1_2
theorem ln66_1  (L : Nat) (a0 : ByteArray) (g : Int → Int → Option (Nat × (Int × Int))) (Q : Nat × (Int × Int) → Prop) (v1_1 : Int) (v1_2 : Int) : lb_R07_Check_1 anP  L a0 (fun v1_1 v1_2 => ob (g v1_1 v1_2) Q) Q v1_1 v1_2 = ob (lb_R07_Check_1 (anO _)  L a0 g some v1_1 v1_2) Q := by
  unfold lb_R07_Check_1
  dsimp only [anP, anO]
  try simp only [y1, y2, y3, y4, y5 Q, y6, y7, y8 Q, y9, z1, z2, z3, z4]
theorem le66_1  (L : Nat) (a0 : ByteArray) (n : Nat) (v1_1 : Int) (v1_2 : Int) (K : Ex → St → Prop) : loopN (EV (O66 L) L 9 c66.r.r.r.r.l.r.r.l.l) [0, 2, 3] [] n (sh66_1 a0 v1_1 v1_2) K = ob (lp_R07_Check_1  L a0 n v1_1 v1_2) (fun o => KK66_1 a0 K o) := by
  induction n generalizing v1_1 v1_2 with
  | zero => rfl
  | succ n ih =>
    refine Eq.trans (b := lb_R07_Check_1 anP  L a0 (fun v1_1 v1_2 => loopN (EV (O66 L) L 9 c66.r.r.r.r.l.r.r.l.l) [0, 2, 3] [] n (sh66_1 a0 v1_1 v1_2) K) (KK66_1 a0 K) v1_1 v1_2) (by kernel_rfl) ?_
    simp only [ih]
    exact ln66_1  L a0 (lp_R07_Check_1  L a0 n) (KK66_1 a0 K) v1_1 v1_2
def kc66_1  (L : Nat)  (kk : PV → Prop) : Ex → St → Prop := (kBlock 0 (kSeq (EV (O66 L) L 9 c66.r.r.r.r.r) (kEnd Tryz.prog (RS Tryz.f66) kk)))
theorem q66_1  (L : Nat) (a0 : ByteArray) (kk : PV → Prop) (o6 : Nat × (Int × Int)) : KK66_1 a0 (kc66_1 L kk) o6 =
 (seln o6.1 [(ob (some o6.2.1) (fun (x : Int) => kk (I x))),
 (ob (some 0) (fun (x : Int) => kk (I x)))]) := by kernel_rfl
def T_R07_Check {A : Type} (an : An A)  (L : Nat) (a0 : ByteArray) (out : Int → A) : A :=
 (an.jp (bif (decide ((a0.size : Int) < 1)) then true
 else (decide ((a0.size : Int) > 24))) (fun j => (an.cn (decide ((a0.size : Int) < 1))
 (an.ap j true)
 (an.ap j (decide ((a0.size : Int) > 24))))) (fun b1 =>
 (an.jb (bif b1 then (some true)
 else (bif ((if 0 ≤ 0 then a0[Int.toNat 0]? else none).isSome) then (Option.bind (F_R07_letter L (optByte (if 0 ≤ 0 then a0[Int.toNat 0]? else none))) fun r3 =>
 (some (!r3)))
 else none)) (fun j => (an.cn b1
 (an.lf j true)
 (an.cn ((if 0 ≤ 0 then a0[Int.toNat 0]? else none).isSome)
 (an.bd (F_R07_letter L (optByte (if 0 ≤ 0 then a0[Int.toNat 0]? else none))) fun r4 =>
 (an.lf j (!r4)))
 (an.bd none j)))) (fun b2 =>
 (an.jb (bif b2 then (some true)
 else (Option.bind (F_R07_Keyword L a0) fun r6 =>
 (some r6))) (fun j => (an.cn b2
 (an.lf j true)
 (an.bd (F_R07_Keyword L a0) fun r7 =>
 (an.lf j r7)))) (fun b5 =>
 (an.cn b5
 (an.lf out 3)
 (an.bd (lp_R07_Check_1 L a0 L 0 0) fun o8 =>
 (an.sl o8.1 [(an.lf out o8.2.1),
 (an.lf out 0)])))))))))
def F_R07_Check  (L : Nat) (a0 : ByteArray) : Option Int := T_R07_Check (anO _) L a0 some
theorem e66  (L : Nat) (a0 : ByteArray) (kk : PV → Prop) : EW (O66 L) L 9 (RS Tryz.f66) c66 [S a0] kk = ob (F_R07_Check L a0) (fun (x : Int) => kk (I x)) := by
  refine Eq.trans (b := T_R07_Check anP L a0 (fun (x : Int) => kk (I x))) ?_ ?_
  · refine Eq.trans (b := (jn (fun j => (br (decide ((a0.size : Int) < 1))
 (ap j true)
 (ap j (decide ((a0.size : Int) > 24))))) (fun b1 =>
 (jn (fun j => (br b1
 (ob (some true) j)
 (br ((if 0 ≤ 0 then a0[Int.toNat 0]? else none).isSome)
 (ob (F_R07_letter L (optByte (if 0 ≤ 0 then a0[Int.toNat 0]? else none))) fun r3 =>
 (ob (some (!r3)) j))
 (ob none j)))) (fun b2 =>
 (jn (fun j => (br b2
 (ob (some true) j)
 (ob (F_R07_Keyword L a0) fun r5 =>
 (ob (some r5) j)))) (fun b4 =>
 (br b4
 (ob (some 3) (fun (x : Int) => kk (I x)))
 (loopN (EV (O66 L) L 9 c66.r.r.r.r.l.r.r.l.l) [0, 2, 3] [] L (sh66_1 a0 0 0) (kc66_1 L kk)))))))))) (by kernel_rfl) ?_
    unfold T_R07_Check
    dsimp only [anP]
    simp only [le66_1, q66_1]
  generalize (fun (x : Int) => kk (I x)) = Q
  unfold F_R07_Check T_R07_Check
  dsimp only [anP, anO]
  try simp only [y1, y2, y3, y4, y5 Q, y6, y7, y8 Q, y9, z1, z2, z3, z4]
theorem h66   (L : Nat) (a0 : ByteArray) (r : Int) (h : F_R07_Check L a0 = some r) : Holds Tryz.prog 66 [S a0] (I r) :=
  hE grwOK (s66  L) mixed Tryz.func66 (by kernel_rfl : cFn Tryz.prog inl Tryz.f66 = some c66) (er := fun (x : Int) => I x) (by kernel_rfl) (e66 L a0) h


end Go.Proofs.YtcbandfdmbkokaaGreat.Ev
