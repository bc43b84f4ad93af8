import Derived.Test.YtckmlfboedljeaaDoorG1
namespace Go.Proofs.YtckmlfboedljeaaDoor.Ev
open Go An
set_option maxRecDepth 100000
set_option maxHeartbeats 4000000
set_option linter.unusedVariables false
set_option linter.unusedSimpArgs false
set_option linter.unnecessarySimpa false
noncomputable section
variable {A:Type} (L n:Nat) (kk:R5) (K:Bu) (k:Tv)
def c34:=CC Tryd.f34
def O34(L:Nat):Aq:=oL []
def A1e:(List Int)→Prop:=fun x=>kk ((fun(x:List Int)=>lv (.t3 x)) x)
def Aqj(a0:Int)(v:List Int×Int):St:=⟨[(0,.any),(2,.lst true (.t3 [])),(3,.lst true (.t3 v.1)),(5,I a0),(6,I v.2)],[],0⟩
def Gl [An A (Nat×List Int×Int)](L:Nat)(a0:Int)(rec:List Int→Int→A)(Ax:List Int)(Af:Int):A:=
 (cn (decide (Af < a0))
 (gq ((Ax.length+ [Af].length)*8≤140737488355328)
 (gq (Ax.length+ [Af].length≤maxLen)
 (rec (Ax++ [Af]) (B1 (Af+1)))))
 (lf (0,Ax,Af)))
def C9(L:Nat)(a0:Int):Nat→List Int→Int→Option (Nat×List Int×Int)
 |0,_,_=>none
 |n+1,Ax,Af=>Gl L a0 (C9 L a0 n) Ax Af
theorem Av3(a0:Int):LP (EV (O34 L) L 9 c34.w.l.u.l.l) [0,2,3,5,6] [] (Aqj a0) [.exit 0] (fun n v=>C9 L a0 n v.1 v.2) K:=lE (fun _=>rfl) fun n v ih=>eE (Gl L a0 (fun Ax Af=>re (ih (Ax,Af))) v.1 v.2)
def Gp [An A (List Int)](L:Nat)(o1:Nat×List Int×Int):A:=
 (sl o1.1 [(lf o1.2.1)])
def Aoe:Bu:=(Bi 0 (Ek (EV (O34 L) L 9 c34.w.r) (Gv Tryd.prog (RS Tryd.f34) kk)))
theorem Ayy(a0:Int)(o1:Nat×List Int×Int):kX [.exit 0] (Aqj a0) (Aoe L kk) o1=ob (Gp L o1) (A1e kk):=eE (Gp L o1)
def Rh [An A (List Int)](a0:Int):A:=(bd (C9 L a0 L [] 0) fun o1=>Gp L o1)
def Cy(a0:Int):Option (List Int):=Rh L a0
def X34:Hy:=E1 (fun(x:List Int)=>lv (.t3 x)) 34 (cI .i64) (Cy L) fun a0 r h=>hF Tryd.func34 (C:=O34 L) (oS _) L (fun kk=>eE ((ho (Av3 L (Aoe L kk) a0 L ([],0)) fun o1=>Ayy L kk a0 o1))) h
def V7 [An A Int](a0:Aa)(a1:Aa):A:=
 (bd (Cg L a0) fun r1=>
 (cn (!r1)
 (bd (Cg L a1) fun r2=>
 (cn (!r2)
 (bd (Ba L 0) fun r3=>
 (bd (Bh L r3 1) fun r4=>
 (bd (Ba L 0) fun r5=>
 (bd (Bh L r5 1) fun r6=>
 (bd (Df L false r4 true r6) fun r7=>
 (cn ((r7.2.u_hi == 0) && ((r7.2.u_lo == 0) && true))
 (lf 0)
 (cn r7.1
 (lf (-1))
 (lf 1))))))))
 (bd (Ba L 0) fun r8=>
 (bd (Bh L r8 (IntKind.wrap .u64 (a1.D))) fun r9=>
 (bd (Ba L a1.N) fun r10=>
 (bd (Bh L r10 1) fun r11=>
 (bd (Df L false r9 (decide (a1.N≥0)) r11) fun r12=>
 (cn ((r12.2.u_hi == 0) && ((r12.2.u_lo == 0) && true))
 (lf 0)
 (cn r12.1
 (lf (-1))
 (lf 1))))))))))
 (bd (Cg L a1) fun r13=>
 (cn (!r13)
 (bd (Ba L a0.N) fun r14=>
 (bd (Bh L r14 1) fun r15=>
 (bd (Ba L 0) fun r16=>
 (bd (Bh L r16 (IntKind.wrap .u64 (a0.D))) fun r17=>
 (bd (Df L (decide (a0.N < 0)) r15 true r17) fun r18=>
 (cn ((r18.2.u_hi == 0) && ((r18.2.u_lo == 0) && true))
 (lf 0)
 (cn r18.1
 (lf (-1))
 (lf 1))))))))
 (bd (Ba L a0.N) fun r19=>
 (bd (Bh L r19 (IntKind.wrap .u64 (a1.D))) fun r20=>
 (bd (Ba L a1.N) fun r21=>
 (bd (Bh L r21 (IntKind.wrap .u64 (a0.D))) fun r22=>
 (bd (Df L (decide (a0.N < 0)) r20 (decide (a1.N≥0)) r22) fun r23=>
 (cn ((r23.2.u_hi == 0) && ((r23.2.u_lo == 0) && true))
 (lf 0)
 (cn r23.1
 (lf (-1))
 (lf 1))))))))))))
def Cl(a0:Aa)(a1:Aa):Option Int:=V7 L a0 a1
def X36:Hy:=E2 I 36 Av Av (Cl L) fun a0 a1 r h=>hF Tryd.func36 (oS [X28 L,X59 L,X65 L,X66 L]) L (fun kk=>eE (V7 L a0 a1)) h
def Ny [An A Bool](a0:Ac)(a1:Ac):A:=
 (bd (Jw L a0.Mean a0.Half) fun r1=>
 (bd (Gr L a1.Mean a1.Half) fun r2=>
 (jp (.cn r1.2
 (.lf r2.2)
 (.lf false)) (fun b3=>
 (jb (.cn b3
 (.bd (Cl L r1.1 r2.1) fun r5=>
 (.lf (decide (r5 > 0))))
 (.lf false)) (fun b4=>
 (lf b4)))))))
def B3(a0:Ac)(a1:Ac):Option Bool:=Ny L a0 a1
def X40:Hy:=E2 B 40 Oc Oc (B3 L) fun a0 a1 r h=>hF Tryd.func40 (oS [X22 L,X36 L,X58 L]) L (fun kk=>eE (Ny L a0 a1)) h
def c38:=CC Tryd.f38
def c16:=CC Tryd.f16
def O16:Aq:=oL [X34 L,X36 L,X37 L,X40 L]
def Ahe:((List Ab)×Int)→Prop:=fun x=>kk ((fun(x:(List Ab)×Int)=> .tup [lv (.t39 x.1),I x.2]) x)
def Ahc:Bu:=(Ek (EV (O16 L) L 9 c16.x.w.u.r) (Gv Tryd.prog (RS Tryd.f16) kk))
def Ahd:Bu:=(Ek (EV (O16 L) L 9 c16.x.u.r) (Gv Tryd.prog (RS Tryd.f16) kk))
def Aqd(a0:List Ab)(a1:Int)(v:Nz):St:=⟨[(0,lv (.t39 a0)),(1,I a1),(4,.lst true (.t39 v.1)),(5,I v.2.1),(6,.mp 18),(11,.any),(12,.any),(13,.any),(14,.any),(15,.any),(19,lv (.t39 a0)),(20,I (a0.length:Int)),(21,I v.2.2.1)],[(18,[.mapO false true (.t3 v.2.2.2.1) (.t42 v.2.2.2.2)])],0⟩
def H7 [An A (Nat×Nz)](a0:List Ab)(a1:Int)(rec:List Ab→Int→Int→List Int→List Ac→A)(Ae:List Ab)(Af:Int)(Ao:Int)(Au:List Int)(P0:List Ac):A:=
 (lw Ao a0
 (jp (.cn ((a0.getD (Int.toNat Ao) default).Out != 0)
 (.lf true)
 (.lf (decide ((((a0.getD (Int.toNat Ao) default).Seen).length:Int) < 2)))) (fun b1=>
 (cn b1
 (rec Ae Af (B1 (Ao+1)) Au P0)
 (bd (Kq L ((a0.getD (Int.toNat Ao) default).Seen)) fun r2=>
 (cn (r2.2 != 0)
 (lf (0,[],r2.2,Ao,Au,P0))
 (fq (Au.findIdx? fun b=>Ao == b) (fun i3=>
 (rec Ae Af (B1 (Ao+1)) Au (P0.set i3 r2.1)))
 (rec Ae Af (B1 (Ao+1)) (Au++ [Ao]) (P0++ [r2.1]))))))))
 (lf (1,Ae,Af,Ao,Au,P0)))
def C4(L:Nat)(a0:List Ab)(a1:Int):Nat→List Ab→Int→Int→List Int→List Ac→Option (Nat×Nz)
 |0,_,_,_,_,_=>none
 |n+1,Ae,Af,Ao,Au,P0=>H7 L a0 a1 (C4 L a0 a1 n) Ae Af Ao Au P0
theorem Avu(a0:List Ab)(a1:Int):LP (EV (O16 L) L 9 c16.w.u.l.u.l.l) [0,1,4,5,6,11,12,13,14,15,19,20,21] [18] (Aqd a0 a1) [.ret,.exit 0] (fun n v=>C4 L a0 a1 n v.1 v.2.1 v.2.2.1 v.2.2.2.1 v.2.2.2.2) K:=lE (fun _=>rfl) fun n v ih=>eE (H7 L a0 a1 (fun Ae Af Ao Au P0=>re (ih (Ae,Af,Ao,Au,P0))) v.1 v.2.1 v.2.2.1 v.2.2.2.1 v.2.2.2.2)
def Aii(r5:List Int)(o4:Nat×Nz)(v:Re):St:=⟨[(0,.any),(1,.mp 18),(2,.clo 39 0 []),(6,I 0),(7,B false),(8,I v.1),(9,B v.2.1),(14,lv (.t3 r5)),(15,I (r5.length:Int)),(16,I v.2.2)],[(18,[.mapO false true (.t3 o4.2.2.2.2.1) (.t42 o4.2.2.2.2.2)])],19⟩
def H8 [An A (Nat×Re)](r5:List Int)(o4:Nat×Nz)(rec:Int→Bool→Int→A)(D3:Int)(P1:Bool)(C1:Int):A:=
 (lw C1 r5
 (fq (o4.2.2.2.2.1.findIdx? fun b=>(r5.getD (Int.toNat C1) default) == b) (fun i6=>
 (cn (!P1)
 (nq (rec (r5.getD (Int.toNat C1) default) true (B1 (C1+1))))
 (fq (o4.2.2.2.2.1.findIdx? fun b=>D3 == b) (fun i7=>
 (bd (Cl L ((o4.2.2.2.2.2.getD i6 default).Mean) ((o4.2.2.2.2.2.getD i7 default).Mean)) fun r8=>
 (nq (cn (decide (r8 < 0))
 (rec (r5.getD (Int.toNat C1) default) true (B1 (C1+1)))
 (rec D3 P1 (B1 (C1+1)))))))
 (bd (Cl L ((o4.2.2.2.2.2.getD i6 default).Mean) (⟨0,0⟩:Aa)) fun r9=>
 (nq (cn (decide (r9 < 0))
 (rec (r5.getD (Int.toNat C1) default) true (B1 (C1+1)))
 (rec D3 P1 (B1 (C1+1)))))))))
 (nq (rec D3 P1 (B1 (C1+1)))))
 (lf (0,D3,P1,C1)))
def Cm(L:Nat)(r5:List Int)(o4:Nat×Nz):Nat→Int→Bool→Int→Option (Nat×Re)
 |0,_,_,_=>none
 |n+1,D3,P1,C1=>H8 L r5 o4 (Cm L r5 o4 n) D3 P1 C1
theorem Aoy(r5:List Int)(o4:Nat×Nz):LP (EV (O16 L) L 8 c38.w.l.u.l.l) [0,1,2,6,7,8,9,14,15,16] [18] (Aii r5 o4) [.exit 0] (fun n v=>Cm L r5 o4 n v.1 v.2.1 v.2.2) K:=lE (fun _=>rfl) fun n v ih=>eE (H8 L r5 o4 (fun D3 P1 C1=>re (ih (D3,P1,C1))) v.1 v.2.1 v.2.2)
def Aqe(r11:List Int)(o4:Nat×Nz)(a0:List Ab)(v:Re):St:=⟨[(0,.any),(1,.mp 18),(2,.clo 39 0 []),(6,I 0),(7,B false),(8,I v.1),(9,B v.2.1),(14,lv (.t3 r11)),(15,I (r11.length:Int)),(16,I v.2.2)],[(18,[.mapO false true (.t3 o4.2.2.2.2.1) (.t42 o4.2.2.2.2.2)]),(26,[.arrO (.t39 a0)])],27⟩
def H9 [An A (Nat×Re)](r11:List Int)(o4:Nat×Nz)(a0:List Ab)(rec:Int→Bool→Int→A)(Eo:Int)(Ep:Bool)(Et:Int):A:=
 (lw Et r11
 (fq (o4.2.2.2.2.1.findIdx? fun b=>(r11.getD (Int.toNat Et) default) == b) (fun i12=>
 (cn (!Ep)
 (nq (rec (r11.getD (Int.toNat Et) default) true (B1 (Et+1))))
 (fq (o4.2.2.2.2.1.findIdx? fun b=>Eo == b) (fun i13=>
 (bd (Cl L ((o4.2.2.2.2.2.getD i12 default).Mean) ((o4.2.2.2.2.2.getD i13 default).Mean)) fun r14=>
 (nq (cn (decide (r14 < 0))
 (rec (r11.getD (Int.toNat Et) default) true (B1 (Et+1)))
 (rec Eo Ep (B1 (Et+1)))))))
 (bd (Cl L ((o4.2.2.2.2.2.getD i12 default).Mean) (⟨0,0⟩:Aa)) fun r15=>
 (nq (cn (decide (r15 < 0))
 (rec (r11.getD (Int.toNat Et) default) true (B1 (Et+1)))
 (rec Eo Ep (B1 (Et+1)))))))))
 (nq (rec Eo Ep (B1 (Et+1)))))
 (lf (0,Eo,Ep,Et)))
def C5(L:Nat)(r11:List Int)(o4:Nat×Nz)(a0:List Ab):Nat→Int→Bool→Int→Option (Nat×Re)
 |0,_,_,_=>none
 |n+1,Eo,Ep,Et=>H9 L r11 o4 a0 (C5 L r11 o4 a0 n) Eo Ep Et
theorem Avv(r11:List Int)(o4:Nat×Nz)(a0:List Ab):LP (EV (O16 L) L 8 c38.w.l.u.l.l) [0,1,2,6,7,8,9,14,15,16] [18,26] (Aqe r11 o4 a0) [.exit 0] (fun n v=>C5 L r11 o4 a0 n v.1 v.2.1 v.2.2) K:=lE (fun _=>rfl) fun n v ih=>eE (H9 L r11 o4 a0 (fun Eo Ep Et=>re (ih (Eo,Ep,Et))) v.1 v.2.1 v.2.2)
def Aij(a1:Int)(o4:Nat×Nz)(o16:Nat×Re)(v:Unit):St:=⟨[(0,.any),(1,I a1),(4,.lst true (.t39 o4.2.1)),(5,I o4.2.2.1),(6,.mp 18),(7,.any),(8,.any),(9,.any),(10,.any),(11,.lst true (.t39 [])),(12,I o16.2.1),(13,.any),(21,.any),(62,.any)],[(18,[.mapO false true (.t3 o4.2.2.2.2.1) (.t42 o4.2.2.2.2.2)])],0⟩
def Anq(a1:Int)(o4:Nat×Nz)(o16:Nat×Re)(es:Array MapEntry)(clock r:Nat)(v:Unit):St:=⟨[(0,.any),(1,I a1),(4,.lst true (.t39 o4.2.1)),(5,I o4.2.2.1),(6,.mp 18),(7,.any),(8,.any),(9,.any),(10,.any),(11,.lst true (.t39 [])),(12,I o16.2.1),(13,.any),(21,.any),(62,.val (Value.pointer (some ⟨r,0,none⟩)))],[(18,[.mapE es clock false true (.t3 o4.2.2.2.2.1) (.t42 o4.2.2.2.2.2)])],19⟩
def Bm [An A Unit](a1:Int)(o4:Nat×Nz)(o16:Nat×Re)(i0:Nat)(v:Unit):A:=
 (fq (o4.2.2.2.2.1.findIdx? fun b=>o16.2.1 == b) (fun i17=>
 (bd (B3 L (⟨((o4.2.2.2.2.2.getD i0 default).Mean),((o4.2.2.2.2.2.getD i0 default).Half)⟩:Ac) (⟨((o4.2.2.2.2.2.getD i17 default).Mean),((o4.2.2.2.2.2.getD i17 default).Half)⟩:Ac)) fun r18=>
 (cn r18
 (gq (0≤(o4.2.2.2.2.1.getD i0 default))
 (gq ((o4.2.2.2.2.1.getD i0 default) < ((0:Nat):Int))
 fl))
 (lf ()))))
 (bd (B3 L (⟨((o4.2.2.2.2.2.getD i0 default).Mean),((o4.2.2.2.2.2.getD i0 default).Half)⟩:Ac) (⟨(⟨0,0⟩:Aa),(⟨0,0⟩:Aa)⟩:Ac)) fun r19=>
 (cn r19
 (gq (0≤(o4.2.2.2.2.1.getD i0 default))
 (gq ((o4.2.2.2.2.1.getD i0 default) < ((0:Nat):Int))
 fl))
 (lf ()))))
theorem Vi(a1:Int)(o4:Nat×Nz)(o16:Nat×Re)(i j:Nat)(v:Unit)(hi:i < o4.2.2.2.2.1.length)(hj:j < o4.2.2.2.2.1.length):((Bm L a1 o4 o16 i v:Option _).bind fun v=>Bm L a1 o4 o16 j v)=(Bm L a1 o4 o16 j v:Option _).bind fun v=>Bm L a1 o4 o16 i v:=by
 have e:∀(k:Nat) (v:Unit),(Bm L a1 o4 o16 k v:Option Unit)=Bm L a1 o4 o16 k ():=fun _ _=>rfl
 simp only [e]
 cases (Bm L a1 o4 o16 i ():Option Unit)<;>cases (Bm L a1 o4 o16 j ():Option Unit)<;>rfl
def Qw(a1:Int)(o4:Nat×Nz)(o16:Nat×Re)(n:Nat)(v:Unit):Option Unit:=if o4.2.2.2.2.1.length < n then Ov (fun i0 v=>Bm L a1 o4 o16 i0 v) (List.range o4.2.2.2.2.1.length) v else none
theorem Avw(a1:Int)(o4:Nat×Nz)(o16:Nat×Re)(v:Unit)(st:St)(h0:∀es clock r,Alq st 18 62 [.mapE es clock false true (.t3 o4.2.2.2.2.1) (.t42 o4.2.2.2.2.2)] (.val (.pointer (some ⟨r,0,none⟩))) [0,1,4,5,6,7,8,9,10,11,12,13,21,62]=Anq a1 o4 o16 es clock r v)(hl:Aw st= [18])(hbs:st.base=0):Ap0 (rgF Tryd.prog (O16 L) (EI (O16 L) L 9) L c16.x.w.u.l) 3 18 false true (.t3 o4.2.2.2.2.1) (.t42 o4.2.2.2.2.2) 62 63 64 65 [0,1,4,5,6,7,8,9,10,11,12,13,21,62] L st (fun st9=>K .normal st9)=ob (Qw L a1 o4 o16 L v) (kR (Aij a1 o4 o16) K):=
 Adp (Aij a1 o4 o16) (Anq a1 o4 o16) (fun i0 v=>Bm L a1 o4 o16 i0 v) v h0 hl hbs (fun es clock r i0 v G=>eE (Bm L a1 o4 o16 i0 v)) (fun es clock r v=>by kernel_rfl) (Vi L a1 o4 o16)
def Aik(a1:Int)(o4:Nat×Nz)(o21:Nat×Re)(v:Unit):St:=⟨[(0,.any),(1,I a1),(4,.lst true (.t39 o4.2.1)),(5,I o4.2.2.1),(6,.mp 18),(7,.any),(8,.any),(9,.any),(10,.any),(11,.lst true (.t39 [])),(12,I o21.2.1),(13,.any),(21,.any),(62,.any)],[(18,[.mapO false true (.t3 o4.2.2.2.2.1) (.t42 o4.2.2.2.2.2)])],0⟩
def Anr(a1:Int)(o4:Nat×Nz)(o21:Nat×Re)(es:Array MapEntry)(clock r:Nat)(v:Unit):St:=⟨[(0,.any),(1,I a1),(4,.lst true (.t39 o4.2.1)),(5,I o4.2.2.1),(6,.mp 18),(7,.any),(8,.any),(9,.any),(10,.any),(11,.lst true (.t39 [])),(12,I o21.2.1),(13,.any),(21,.any),(62,.val (Value.pointer (some ⟨r,0,none⟩)))],[(18,[.mapE es clock false true (.t3 o4.2.2.2.2.1) (.t42 o4.2.2.2.2.2)])],19⟩
def Bn [An A Unit](a1:Int)(o4:Nat×Nz)(o21:Nat×Re)(i0:Nat)(v:Unit):A:=
 (fq (o4.2.2.2.2.1.findIdx? fun b=>o21.2.1 == b) (fun i22=>
 (bd (B3 L (⟨((o4.2.2.2.2.2.getD i0 default).Mean),((o4.2.2.2.2.2.getD i0 default).Half)⟩:Ac) (⟨((o4.2.2.2.2.2.getD i22 default).Mean),((o4.2.2.2.2.2.getD i22 default).Half)⟩:Ac)) fun r23=>
 (cn r23
 (gq (0≤(o4.2.2.2.2.1.getD i0 default))
 (gq ((o4.2.2.2.2.1.getD i0 default) < ((0:Nat):Int))
 fl))
 (lf ()))))
 (bd (B3 L (⟨((o4.2.2.2.2.2.getD i0 default).Mean),((o4.2.2.2.2.2.getD i0 default).Half)⟩:Ac) (⟨(⟨0,0⟩:Aa),(⟨0,0⟩:Aa)⟩:Ac)) fun r24=>
 (cn r24
 (gq (0≤(o4.2.2.2.2.1.getD i0 default))
 (gq ((o4.2.2.2.2.1.getD i0 default) < ((0:Nat):Int))
 fl))
 (lf ()))))
theorem Vj(a1:Int)(o4:Nat×Nz)(o21:Nat×Re)(i j:Nat)(v:Unit)(hi:i < o4.2.2.2.2.1.length)(hj:j < o4.2.2.2.2.1.length):((Bn L a1 o4 o21 i v:Option _).bind fun v=>Bn L a1 o4 o21 j v)=(Bn L a1 o4 o21 j v:Option _).bind fun v=>Bn L a1 o4 o21 i v:=by
 have e:∀(k:Nat) (v:Unit),(Bn L a1 o4 o21 k v:Option Unit)=Bn L a1 o4 o21 k ():=fun _ _=>rfl
 simp only [e]
 cases (Bn L a1 o4 o21 i ():Option Unit)<;>cases (Bn L a1 o4 o21 j ():Option Unit)<;>rfl
def Qx(a1:Int)(o4:Nat×Nz)(o21:Nat×Re)(n:Nat)(v:Unit):Option Unit:=if o4.2.2.2.2.1.length < n then Ov (fun i0 v=>Bn L a1 o4 o21 i0 v) (List.range o4.2.2.2.2.1.length) v else none
theorem Avx(a1:Int)(o4:Nat×Nz)(o21:Nat×Re)(v:Unit)(st:St)(h0:∀es clock r,Alq st 18 62 [.mapE es clock false true (.t3 o4.2.2.2.2.1) (.t42 o4.2.2.2.2.2)] (.val (.pointer (some ⟨r,0,none⟩))) [0,1,4,5,6,7,8,9,10,11,12,13,21,62]=Anr a1 o4 o21 es clock r v)(hl:Aw st= [18])(hbs:st.base=0):Ap0 (rgF Tryd.prog (O16 L) (EI (O16 L) L 9) L c16.x.w.u.l) 3 18 false true (.t3 o4.2.2.2.2.1) (.t42 o4.2.2.2.2.2) 62 63 64 65 [0,1,4,5,6,7,8,9,10,11,12,13,21,62] L st (fun st9=>K .normal st9)=ob (Qx L a1 o4 o21 L v) (kR (Aik a1 o4 o21) K):=
 Adp (Aik a1 o4 o21) (Anr a1 o4 o21) (fun i0 v=>Bn L a1 o4 o21 i0 v) v h0 hl hbs (fun es clock r i0 v G=>eE (Bn L a1 o4 o21 i0 v)) (fun es clock r v=>by kernel_rfl) (Vj L a1 o4 o21)
def Ail(a1:Int)(o4:Nat×Nz)(a0:List Ab)(o26:Nat×Re)(v:List Ab):St:=⟨[(0,.any),(1,I a1),(4,.lst true (.t39 o4.2.1)),(5,I o4.2.2.1),(6,.mp 18),(7,.any),(8,.any),(9,.any),(10,.any),(11,.vw false 26 39 3 a0.length),(12,I o26.2.1),(13,.any),(21,.any),(62,.any)],[(18,[.mapO false true (.t3 o4.2.2.2.2.1) (.t42 o4.2.2.2.2.2)]),(26,[.arrO (.t39 v)])],0⟩
def Ans(a1:Int)(o4:Nat×Nz)(a0:List Ab)(o26:Nat×Re)(es:Array MapEntry)(clock r:Nat)(v:List Ab):St:=⟨[(0,.any),(1,I a1),(4,.lst true (.t39 o4.2.1)),(5,I o4.2.2.1),(6,.mp 18),(7,.any),(8,.any),(9,.any),(10,.any),(11,.vw false 26 39 3 a0.length),(12,I o26.2.1),(13,.any),(21,.any),(62,.val (Value.pointer (some ⟨r,0,none⟩)))],[(18,[.mapE es clock false true (.t3 o4.2.2.2.2.1) (.t42 o4.2.2.2.2.2)]),(26,[.arrO (.t39 v)])],27⟩
def Bz [An A (List Ab)](a1:Int)(o4:Nat×Nz)(a0:List Ab)(o26:Nat×Re)(i0:Nat)(v:List Ab):A:=
 (fq (o4.2.2.2.2.1.findIdx? fun b=>o26.2.1 == b) (fun i27=>
 (bd (B3 L (⟨((o4.2.2.2.2.2.getD i0 default).Mean),((o4.2.2.2.2.2.getD i0 default).Half)⟩:Ac) (⟨((o4.2.2.2.2.2.getD i27 default).Mean),((o4.2.2.2.2.2.getD i27 default).Half)⟩:Ac)) fun r28=>
 (cn r28
 (gi (o4.2.2.2.2.1.getD i0 default) a0
 (lf (v.set (Int.toNat (o4.2.2.2.2.1.getD i0 default)) (⟨(v.getD (Int.toNat (o4.2.2.2.2.1.getD i0 default)) default).Point,(v.getD (Int.toNat (o4.2.2.2.2.1.getD i0 default)) default).Seen,a1⟩:Ab))))
 (lf v))))
 (bd (B3 L (⟨((o4.2.2.2.2.2.getD i0 default).Mean),((o4.2.2.2.2.2.getD i0 default).Half)⟩:Ac) (⟨(⟨0,0⟩:Aa),(⟨0,0⟩:Aa)⟩:Ac)) fun r29=>
 (cn r29
 (gi (o4.2.2.2.2.1.getD i0 default) a0
 (lf (v.set (Int.toNat (o4.2.2.2.2.1.getD i0 default)) (⟨(v.getD (Int.toNat (o4.2.2.2.2.1.getD i0 default)) default).Point,(v.getD (Int.toNat (o4.2.2.2.2.1.getD i0 default)) default).Seen,a1⟩:Ab))))
 (lf v))))
def Aaa(x s:Int)(n:Nat)(v:List Ab):Option (List Ab):=if 0≤x then (if x < ((n:Nat):Int) then some (v.set (Int.toNat x) (⟨(v.getD (Int.toNat x) default).Point,(v.getD (Int.toNat x) default).Seen,s⟩:Ab)) else none) else none
def Akf(o4:Nat×Nz)(o26:Nat×Re)(i0:Nat):Option Bool:=match o4.2.2.2.2.1.findIdx? fun b=>o26.2.1 == b with
 |some i=>B3 L (⟨((o4.2.2.2.2.2.getD i0 default).Mean),((o4.2.2.2.2.2.getD i0 default).Half)⟩:Ac) (⟨((o4.2.2.2.2.2.getD i default).Mean),((o4.2.2.2.2.2.getD i default).Half)⟩:Ac)
 |none=>B3 L (⟨((o4.2.2.2.2.2.getD i0 default).Mean),((o4.2.2.2.2.2.getD i0 default).Half)⟩:Ac) (⟨(⟨0,0⟩:Aa),(⟨0,0⟩:Aa)⟩:Ac)
theorem Apv(a1:Int)(o4:Nat×Nz)(a0:List Ab)(o26:Nat×Re)(i:Nat)(v:List Ab):(Bz L a1 o4 a0 o26 i v:Option _)=(Akf L o4 o26 i).bind fun r=>bif r then Aaa (o4.2.2.2.2.1.getD i default) a1 a0.length v else some v:=by
 unfold Bz Akf Aaa
 rw [Au6]
 cases o4.2.2.2.2.1.findIdx? (fun b=>o26.2.1 == b)<;>rfl
theorem Al9(x y s:Int)(n:Nat)(v:List Ab):(Aaa x s n v).bind (Aaa y s n)=(Aaa y s n v).bind (Aaa x s n):=by
 unfold Aaa
 by_cases h1:0≤x<;>by_cases h2:x < (n:Int)<;>by_cases h3:0≤y<;>by_cases h4:y < (n:Int)<;>simp only [h1,h2,h3,h4,if_true,if_false,Option.bind_some,Option.bind_none]
 by_cases e:x.toNat=y.toNat
 ·rw [e]
 ·have g:∀(a b:Nat) (z:Ab),a≠b→(v.set a z).getD b default=v.getD b default:=fun a b z h=>by
   simp [List.getD,List.getElem?_set_ne h]
  rw [g _ _ _ e,g _ _ _ (fun h=>e h.symm),List.set_comm _ _ e]
theorem Vk(a1:Int)(o4:Nat×Nz)(a0:List Ab)(o26:Nat×Re)(i j:Nat)(v:List Ab)(hi:i < o4.2.2.2.2.1.length)(hj:j < o4.2.2.2.2.1.length):((Bz L a1 o4 a0 o26 i v:Option _).bind fun v=>Bz L a1 o4 a0 o26 j v)=(Bz L a1 o4 a0 o26 j v:Option _).bind fun v=>Bz L a1 o4 a0 o26 i v:=by
 simp only [Apv]
 cases Akf L o4 o26 i with
 |none=>cases Akf L o4 o26 j with
  |none=>rfl
  |some r=>cases r with
   |true=>simp only [Option.bind_none,Option.bind_some,cond_true];cases Aaa (o4.2.2.2.2.1.getD j default) a1 a0.length v<;>rfl
   |false=>rfl
 |some r=>cases Akf L o4 o26 j with
  |none=>cases r with
   |true=>simp only [Option.bind_none,Option.bind_some,cond_true];cases Aaa (o4.2.2.2.2.1.getD i default) a1 a0.length v<;>rfl
   |false=>rfl
  |some q=>
   cases r<;>cases q<;>simp only [Option.bind_some,cond_true,cond_false]
   ·simp
   ·simp
   ·exact Al9 _ _ _ _ _
def Lh(a1:Int)(o4:Nat×Nz)(a0:List Ab)(o26:Nat×Re)(n:Nat)(v:List Ab):Option (List Ab):=if o4.2.2.2.2.1.length < n then Ov (fun i0 v=>Bz L a1 o4 a0 o26 i0 v) (List.range o4.2.2.2.2.1.length) v else none
theorem Avy(a1:Int)(o4:Nat×Nz)(a0:List Ab)(o26:Nat×Re)(v:List Ab)(st:St)(h0:∀es clock r,Alq st 18 62 [.mapE es clock false true (.t3 o4.2.2.2.2.1) (.t42 o4.2.2.2.2.2)] (.val (.pointer (some ⟨r,0,none⟩))) [0,1,4,5,6,7,8,9,10,11,12,13,21,62]=Ans a1 o4 a0 o26 es clock r v)(hl:Aw st= [18,26])(hbs:st.base=0):Ap0 (rgF Tryd.prog (O16 L) (EI (O16 L) L 9) L c16.x.w.u.l) 3 18 false true (.t3 o4.2.2.2.2.1) (.t42 o4.2.2.2.2.2) 62 63 64 65 [0,1,4,5,6,7,8,9,10,11,12,13,21,62] L st (fun st9=>K .normal st9)=ob (Lh L a1 o4 a0 o26 L v) (kR (Ail a1 o4 a0 o26) K):=
 Adp (Ail a1 o4 a0 o26) (Ans a1 o4 a0 o26) (fun i0 v=>Bz L a1 o4 a0 o26 i0 v) v h0 hl hbs (fun es clock r i0 v G=>eE (Bz L a1 o4 a0 o26 i0 v)) (fun es clock r v=>by kernel_rfl) (Vk L a1 o4 a0 o26)
def Ik [An A ((List Ab)×Int)](L:Nat)(o20:Unit):A:=
 (lf ([],0))
def An7:Bu:=(Ahc L kk)
theorem Ayr(a1:Int)(o4:Nat×Nz)(o16:Nat×Re)(o20:Unit):kR (Aij a1 o4 o16) (An7 L kk) o20=ob (Ik L o20) (Ahe kk):=eE (Ik L o20)
def Ll [An A ((List Ab)×Int)](L:Nat)(o4:Nat×Nz)(a1:Int)(o16:Nat×Re)(nx5:(Nat×Nz)→(Nat×Re)→A):A:=
 (sl o16.1 [(cn (!o16.2.2.1)
 (lf ([],0))
 (nx5 o4 o16))])
def Lj [An A ((List Ab)×Int)](o4:Nat×Nz)(a1:Int)(o16:Nat×Re):A:=Ll L o4 a1 o16 (fun o4 o16=>bd (Qw L a1 o4 o16 L ()) fun o20=>Ik L o20)
def An4(r5:List Int)(a0:List Ab)(a1:Int)(o4:Nat×Nz):Bu:=(Bi 0 (Ek (EV (O16 L) L 8 c38.w.r) (Xn Tryd.prog (RS Tryd.f38) (Wl Tryd.prog (O16 L) (EI (O16 L) L 9) 5 (List.drop 5 c16.x.u.l.ops) ⟨[(54,.mp 18),(53,lv (.t3 r5)),(52,I (a0.length:Int)),(51,lv (.t39 a0)),(0,lv (.t39 a0)),(1,I a1),(4,.lst true (.t39 o4.2.1)),(5,I o4.2.2.1),(6,.mp 18),(11,.lst true (.t39 []))],[(18,[.mapO false true (.t3 o4.2.2.2.2.1) (.t42 o4.2.2.2.2.2)])],0⟩ (some 55) (fun st9=>(Ahd L kk) .normal st9)))))
theorem Ayo(r5:List Int)(o4:Nat×Nz)(a0:List Ab)(a1:Int)(o16:Nat×Re):kX [.exit 0] (Aii r5 o4) (An4 L kk r5 a0 a1 o4) o16=ob (Lj L o4 a1 o16) (Ahe kk):=eE (Ll L o4 a1 o16 (fun o4 o16=>ho (Avw L (An7 L kk) a1 o4 o16 () (⟨[(61,.mp 18),(1,I a1),(4,.lst true (.t39 o4.2.1)),(5,I o4.2.2.1),(6,.mp 18),(11,.lst true (.t39 [])),(12,I o16.2.1)],[(18,[.mapO false true (.t3 o4.2.2.2.2.1) (.t42 o4.2.2.2.2.2)])],0⟩:St) (fun _ _ _=>by kernel_rfl) (by kernel_rfl) (by kernel_rfl)) fun o20=>Ayr L kk a1 o4 o16 o20))
def Il [An A ((List Ab)×Int)](L:Nat)(o25:Unit):A:=
 (lf ([],0))
def An8:Bu:=(Ahc L kk)
theorem Ays(a1:Int)(o4:Nat×Nz)(o21:Nat×Re)(o25:Unit):kR (Aik a1 o4 o21) (An8 L kk) o25=ob (Il L o25) (Ahe kk):=eE (Il L o25)
def Lm [An A ((List Ab)×Int)](L:Nat)(o4:Nat×Nz)(a1:Int)(o21:Nat×Re)(nx6:(Nat×Nz)→(Nat×Re)→A):A:=
 (sl o21.1 [(cn (!o21.2.2.1)
 (lf ([],0))
 (nx6 o4 o21))])
def Lk [An A ((List Ab)×Int)](o4:Nat×Nz)(a1:Int)(o21:Nat×Re):A:=Lm L o4 a1 o21 (fun o4 o21=>bd (Qx L a1 o4 o21 L ()) fun o25=>Il L o25)
def An5(r10:List Int)(a0:List Ab)(a1:Int)(o4:Nat×Nz):Bu:=(Bi 0 (Ek (EV (O16 L) L 8 c38.w.r) (Xn Tryd.prog (RS Tryd.f38) (Wl Tryd.prog (O16 L) (EI (O16 L) L 9) 5 (List.drop 5 c16.x.u.l.ops) ⟨[(54,.mp 18),(53,lv (.t3 r10)),(52,I (a0.length:Int)),(51,lv (.t39 a0)),(0,lv (.t39 a0)),(1,I a1),(4,.lst true (.t39 o4.2.1)),(5,I o4.2.2.1),(6,.mp 18),(11,.lst true (.t39 []))],[(18,[.mapO false true (.t3 o4.2.2.2.2.1) (.t42 o4.2.2.2.2.2)])],0⟩ (some 55) (fun st9=>(Ahd L kk) .normal st9)))))
theorem Ayp(r10:List Int)(o4:Nat×Nz)(a0:List Ab)(a1:Int)(o21:Nat×Re):kX [.exit 0] (Aii r10 o4) (An5 L kk r10 a0 a1 o4) o21=ob (Lk L o4 a1 o21) (Ahe kk):=eE (Lm L o4 a1 o21 (fun o4 o21=>ho (Avx L (An8 L kk) a1 o4 o21 () (⟨[(61,.mp 18),(1,I a1),(4,.lst true (.t39 o4.2.1)),(5,I o4.2.2.1),(6,.mp 18),(11,.lst true (.t39 [])),(12,I o21.2.1)],[(18,[.mapO false true (.t3 o4.2.2.2.2.1) (.t42 o4.2.2.2.2.2)])],0⟩:St) (fun _ _ _=>by kernel_rfl) (by kernel_rfl) (by kernel_rfl)) fun o25=>Ays L kk a1 o4 o21 o25))
def F0 [An A ((List Ab)×Int)](L:Nat)(o30:List Ab):A:=
 (lf (o30,0))
def An9:Bu:=(Ahc L kk)
theorem Ayt(a1:Int)(o4:Nat×Nz)(a0:List Ab)(o26:Nat×Re)(o30:List Ab):kR (Ail a1 o4 a0 o26) (An9 L kk) o30=ob (F0 L o30) (Ahe kk):=eE (F0 L o30)
def Ir [An A ((List Ab)×Int)](L:Nat)(a0:List Ab)(o4:Nat×Nz)(a1:Int)(o26:Nat×Re)(nx7:(Nat×Nz)→(Nat×Re)→A):A:=
 (sl o26.1 [(cn (!o26.2.2.1)
 (lf (a0,0))
 (nx7 o4 o26))])
def Ij [An A ((List Ab)×Int)](a0:List Ab)(o4:Nat×Nz)(a1:Int)(o26:Nat×Re):A:=Ir L a0 o4 a1 o26 (fun o4 o26=>bd (Lh L a1 o4 a0 o26 L a0) fun o30=>F0 L o30)
def An6(r11:List Int)(a0:List Ab)(a1:Int)(o4:Nat×Nz):Bu:=(Bi 0 (Ek (EV (O16 L) L 8 c38.w.r) (Xn Tryd.prog (RS Tryd.f38) (Wl Tryd.prog (O16 L) (EI (O16 L) L 9) 5 (List.drop 5 c16.x.u.l.ops) ⟨[(54,.mp 18),(53,lv (.t3 r11)),(52,I (a0.length:Int)),(51,lv (.t39 a0)),(0,lv (.t39 a0)),(1,I a1),(4,.lst true (.t39 o4.2.1)),(5,I o4.2.2.1),(6,.mp 18),(11,.vw false 26 39 3 a0.length)],[(18,[.mapO false true (.t3 o4.2.2.2.2.1) (.t42 o4.2.2.2.2.2)]),(26,[.arrO (.t39 a0)])],0⟩ (some 55) (fun st9=>(Ahd L kk) .normal st9)))))
theorem Ayq(r11:List Int)(o4:Nat×Nz)(a0:List Ab)(a1:Int)(o26:Nat×Re):kX [.exit 0] (Aqe r11 o4 a0) (An6 L kk r11 a0 a1 o4) o26=ob (Ij L a0 o4 a1 o26) (Ahe kk):=eE (Ir L a0 o4 a1 o26 (fun o4 o26=>ho (Avy L (An9 L kk) a1 o4 a0 o26 a0 (⟨[(61,.mp 18),(1,I a1),(4,.lst true (.t39 o4.2.1)),(5,I o4.2.2.1),(6,.mp 18),(11,.vw false 26 39 3 a0.length),(12,I o26.2.1)],[(18,[.mapO false true (.t3 o4.2.2.2.2.1) (.t42 o4.2.2.2.2.2)]),(26,[.arrO (.t39 a0)])],0⟩:St) (fun _ _ _=>by kernel_rfl) (by kernel_rfl) (by kernel_rfl)) fun o30=>Ayt L kk a1 o4 a0 o26 o30))
def Iq [An A ((List Ab)×Int)](a0:List Ab)(a1:Int)(o4:Nat×Nz)(nx2:(List Int)→(Nat×Nz)→A)(nx3:(List Int)→(Nat×Nz)→A)(nx4:(List Int)→(Nat×Nz)→A):A:=
 (sl o4.1 [(lf (o4.2.1,o4.2.2.1)),
 (cn (Nat.beq a0.length 0)
 (bd (Cy L (a0.length:Int)) fun r5=>
 (nx2 r5 o4))
 (gq (0 < a0.length)
 (cn (Nat.beq a0.length 0)
 (bd (Cy L (a0.length:Int)) fun r10=>
 (nx3 r10 o4))
 (gq (a0.length*40≤140737488355328)
 (gq (a0.length≤maxLen)
 (bd (Cy L (a0.length:Int)) fun r11=>
 (nx4 r11 o4)))))))])
def Ii [An A ((List Ab)×Int)](a0:List Ab)(a1:Int)(o4:Nat×Nz):A:=Iq L a0 a1 o4 (fun r5 o4=>bd (Cm L r5 o4 L 0 false 0) fun o16=>Lj L o4 a1 o16) (fun r10 o4=>bd (Cm L r10 o4 L 0 false 0) fun o21=>Lk L o4 a1 o21) (fun r11 o4=>bd (C5 L r11 o4 a0 L 0 false 0) fun o26=>Ij L a0 o4 a1 o26)
def An3:Bu:=(Bi 0 (Ek (EV (O16 L) L 9 c16.w.u.r) (Gv Tryd.prog (RS Tryd.f16) kk)))
theorem Ayn(a0:List Ab)(a1:Int)(o4:Nat×Nz):kX [.ret,.exit 0] (Aqd a0 a1) (An3 L kk) o4=ob (Ii L a0 a1 o4) (Ahe kk):=eE (Iq L a0 a1 o4 (fun r5 o4=>ho (Aoy L (An4 L kk r5 a0 a1 o4) r5 o4 L (0,false,0)) fun o16=>Ayo L kk r5 o4 a0 a1 o16) (fun r10 o4=>ho (Aoy L (An5 L kk r10 a0 a1 o4) r10 o4 L (0,false,0)) fun o21=>Ayp L kk r10 o4 a0 a1 o21) (fun r11 o4=>ho (Avv L (An6 L kk r11 a0 a1 o4) r11 o4 a0 L (0,false,0)) fun o26=>Ayq L kk r11 o4 a0 a1 o26))
def Ip [An A ((List Ab)×Int)](L:Nat)(a0:List Ab)(a1:Int)(nx1:A):A:=
 (cn (decide (a1 < 1))
 (lf ([],2))
 nx1)
def Tx [An A ((List Ab)×Int)](a0:List Ab)(a1:Int):A:=Ip L a0 a1 (bd (C4 L a0 a1 L [] 0 0 [] []) fun o4=>Ii L a0 a1 o4)
def Ea(a0:List Ab)(a1:Int):Option ((List Ab)×Int):=Tx L a0 a1
def X16:Hy:=E2 (fun(x:(List Ab)×Int)=> .tup [lv (.t39 x.1),I x.2]) 16 Acn (cI .i64) (Ea L) fun a0 a1 r h=>hF Tryd.func16 (C:=O16 L) (oS _) L (fun kk=>eE (Ip L a0 a1 (ho (Avu L (An3 L kk) a0 a1 L ([],0,0,[],[])) fun o4=>Ayn L kk a0 a1 o4))) h
def c7:=CC Tryd.f7
def O7(L:Nat):Aq:=oL []
def Auu(a0:List Ab)(v:Ud):St:=⟨[(0,lv (.t39 a0)),(2,B v.1),(3,I v.2)],[],0⟩
def Qu [An A (Nat×Ud)](L:Nat)(a0:List Ab)(rec:Bool→Int→A)(Ax:Bool)(Ae:Int):A:=
 (jp (.cn (decide (Ae < (a0.length:Int)))
 (.lf (decide (Ae < 31)))
 (.lf false)) (fun b1=>
 (cn b1
 (gi Ae a0
 (cn (decide ((((a0.getD (Int.toNat Ae) default).Seen).length:Int) > 60))
 (lf (0,false,Ae))
 (rec Ax (B1 (Ae+1)))))
 (lf (1,Ax,Ae)))))
def Hs(L:Nat)(a0:List Ab):Nat→Bool→Int→Option (Nat×Ud)
 |0,_,_=>none
 |n+1,Ax,Ae=>Qu L a0 (Hs L a0 n) Ax Ae
theorem Ax2(a0:List Ab):LP (EV (O7 L) L 9 c7.u.l.u.l.l) [0,2,3] [] (Auu a0) [.ret,.exit 0] (fun n v=>Hs L a0 n v.1 v.2) K:=lE (fun _=>rfl) fun n v ih=>eE (Qu L a0 (fun Ax Ae=>re (ih (Ax,Ae))) v.1 v.2)
def Mm [An A Bool](L:Nat)(a0:List Ab)(o2:Nat×Ud):A:=
 (sl o2.1 [(lf o2.2.1),
 (lf (decide ((a0.length:Int)≤30)))])
def Auc:Bu:=(Bi 0 (Ek (EV (O7 L) L 9 c7.u.r) (Gv Tryd.prog (RS Tryd.f7) kk)))
theorem A1z(a0:List Ab)(o2:Nat×Ud):kX [.ret,.exit 0] (Auu a0) (Auc L kk) o2=ob (Mm L a0 o2) (kQ B kk):=eE (Mm L a0 o2)
def Zq [An A Bool](a0:List Ab):A:=(bd (Hs L a0 L false 0) fun o2=>Mm L a0 o2)
def H1(a0:List Ab):Option Bool:=Zq L a0
def X7:Hy:=E1 B 7 Acn (H1 L) fun a0 r h=>hF Tryd.func7 (C:=O7 L) (oS _) L (fun kk=>eE ((ho (Ax2 L (Auc L kk) a0 L (false,0)) fun o2=>A1z L kk a0 o2))) h
def c26:=CC Tryd.f26
def c9:=CC Tryd.f9
def O9:Aq:=oL [X28 L]
def kq9:((List Ab)×Int)→Prop:=fun x=>kk ((fun(x:(List Ab)×Int)=> .tup [lv (.t39 x.1),I x.2]) x)
def Auv(p1_0:List Ab)(p1_1:Int)(p1_2:Aa)(v:Gq):St:=⟨[(0,lv (.t39 p1_0)),(1,.clo 27 0 [.loc 4 0]),(4,I v.1),(7,I (p1_0.length:Int)),(8,I v.2)],[(4,[I p1_1]),(5,(Al p1_2))],6⟩
def Kd [An A (Nat×Gq)](L:Nat)(p1_0:List Ab)(p1_1:Int)(p1_2:Aa)(rec:Int→Int→A)(Ax:Int)(Af:Int):A:=
 (lw Af p1_0
 (cn ((p1_0.getD (Int.toNat Af) default).Point == p1_1)
 (lf (0,Af,Af))
 (rec Ax (B1 (Af+1))))
 (lf (1,Ax,Af)))
def D1(L:Nat)(p1_0:List Ab)(p1_1:Int)(p1_2:Aa):Nat→Int→Int→Option (Nat×Gq)
 |0,_,_=>none
 |n+1,Ax,Af=>Kd L p1_0 p1_1 p1_2 (D1 L p1_0 p1_1 p1_2 n) Ax Af
theorem Ax3(p1_0:List Ab)(p1_1:Int)(p1_2:Aa):LP (EV (O9 L) L 8 c26.u.l.u.l.l) [0,1,4,7,8] [4,5] (Auv p1_0 p1_1 p1_2) [.ret,.exit 0] (fun n v=>D1 L p1_0 p1_1 p1_2 n v.1 v.2) K:=lE (fun _=>rfl) fun n v ih=>eE (Kd L p1_0 p1_1 p1_2 (fun Ax Af=>re (ih (Ax,Af))) v.1 v.2)
def Amj(p1_0:List Ab)(p1_1:Int)(p1_2:Aa)(k:Tv):Int→Prop:=fun o=>k (I o) [(4,[I p1_1]),(5,(Al p1_2))]
def Hv [An A Int](L:Nat)(o1:Nat×Gq):A:=
 (sl o1.1 [(lf o1.2.1),
 (lf (-1))])
def Aud:Bu:=(Bi 0 (Ek (EV (O9 L) L 8 c26.u.r) (Xn Tryd.prog (RS Tryd.f26) k)))
theorem A10(p1_0:List Ab)(p1_1:Int)(p1_2:Aa)(o1:Nat×Gq):kX [.ret,.exit 0] (Auv p1_0 p1_1 p1_2) (Aud L k) o1=ob (Hv L o1) (Amj p1_0 p1_1 p1_2 k):=eE (Hv L o1)
def Sg [An A Int](p1_0:List Ab)(p1_1:Int)(p1_2:Aa):A:=(bd (D1 L p1_0 p1_1 p1_2 L 0 0) fun o1=>Hv L o1)
def N4(p1_0:List Ab)(p1_1:Int)(p1_2:Aa):Option Int:=Sg L p1_0 p1_1 p1_2
theorem Axt(p1_0:List Ab)(p1_1:Int)(p1_2:Aa):YO (O9 L) L 9 26 [lv (.t39 p1_0),.clo 27 0 [.loc 4 0]] [(4,[I p1_1]),(5,(Al p1_2))] k=ob (N4 L p1_0 p1_1 p1_2) (Amj p1_0 p1_1 p1_2 k):=(Ar6 _ _ _ jn4 _ _ _ _ _ _ _).trans (eE ((ho (Ax3 L (Aud L k) p1_0 p1_1 p1_2 L (0,0)) fun o1=>A10 L k p1_0 p1_1 p1_2 o1)))
def Hw [An A ((List Ab)×Int)](a0:List Ab)(a2:Aa)(o2:Int):A:=
 (cn (decide (o2 < 0))
 (lf ([],5))
 (gi o2 a0
 (cn ((a0.getD (Int.toNat o2) default).Out != 0)
 (lf ([],15))
 (gi o2 a0
 (cn (decide ((((a0.getD (Int.toNat o2) default).Seen).length:Int)≥50))
 (lf ([],13))
 (bd (Cg L a2) fun r3=>
 (cn (!r3)
 (lf ([],2))
 (cn (Nat.beq a0.length 0)
 (gi o2 a0
 (cn (Nat.beq ((a0.getD (Int.toNat o2) default).Seen).length 0)
 (gq ((0+ [a2].length)*16≤140737488355328)
 (gq (0+ [a2].length≤maxLen)
 (gq (0≤o2)
 (gq (o2 < ((0:Nat):Int))
 fl))))
 (gq (0 < ((a0.getD (Int.toNat o2) default).Seen).length)
 (gq ((0+((a0.getD (Int.toNat o2) default).Seen).length)*16≤140737488355328)
 (gq (0+((a0.getD (Int.toNat o2) default).Seen).length≤maxLen)
 (gq ((((a0.getD (Int.toNat o2) default).Seen).length+ [a2].length)*16≤140737488355328)
 (gq (((a0.getD (Int.toNat o2) default).Seen).length+ [a2].length≤maxLen)
 (gq (0≤o2)
 (gq (o2 < ((0:Nat):Int))
 fl)))))))))
 (gq (0 < a0.length)
 (cn (Nat.beq a0.length 0)
 (gi o2 a0
 (cn (Nat.beq ((a0.getD (Int.toNat o2) default).Seen).length 0)
 (gq ((0+ [a2].length)*16≤140737488355328)
 (gq (0+ [a2].length≤maxLen)
 (gq (0≤o2)
 (gq (o2 < ((0:Nat):Int))
 fl))))
 (gq (0 < ((a0.getD (Int.toNat o2) default).Seen).length)
 (gq ((0+((a0.getD (Int.toNat o2) default).Seen).length)*16≤140737488355328)
 (gq (0+((a0.getD (Int.toNat o2) default).Seen).length≤maxLen)
 (gq ((((a0.getD (Int.toNat o2) default).Seen).length+ [a2].length)*16≤140737488355328)
 (gq (((a0.getD (Int.toNat o2) default).Seen).length+ [a2].length≤maxLen)
 (gq (0≤o2)
 (gq (o2 < ((0:Nat):Int))
 fl)))))))))
 (gq (a0.length*40≤140737488355328)
 (gq (a0.length≤maxLen)
 (gi o2 a0
 (cn (Nat.beq ((a0.getD (Int.toNat o2) default).Seen).length 0)
 (gq ((0+ [a2].length)*16≤140737488355328)
 (gq (0+ [a2].length≤maxLen)
 (gi o2 a0
 (lf ((a0.set (Int.toNat o2) (⟨(a0.getD (Int.toNat o2) default).Point,[a2],(a0.getD (Int.toNat o2) default).Out⟩:Ab)),0)))))
 (gq (0 < ((a0.getD (Int.toNat o2) default).Seen).length)
 (gq ((0+((a0.getD (Int.toNat o2) default).Seen).length)*16≤140737488355328)
 (gq (0+((a0.getD (Int.toNat o2) default).Seen).length≤maxLen)
 (gq ((((a0.getD (Int.toNat o2) default).Seen).length+ [a2].length)*16≤140737488355328)
 (gq (((a0.getD (Int.toNat o2) default).Seen).length+ [a2].length≤maxLen)
 (gi o2 a0
 (lf ((a0.set (Int.toNat o2) (⟨(a0.getD (Int.toNat o2) default).Point,((a0.getD (Int.toNat o2) default).Seen++ [a2]),(a0.getD (Int.toNat o2) default).Out⟩:Ab)),0))))))))))))))))))))))
def Aue(a0:List Ab)(a1:Int)(a2:Aa):Tv:=(Wl Tryd.prog (O9 L) (EI (O9 L) L 9) 1 (List.drop 3 c9.u.l.ops) ⟨[(11,.clo 27 0 [.loc 4 0]),(10,lv (.t39 a0)),(0,lv (.t39 a0)),(4,.loc 4 0),(5,.loc 5 0),(6,.lst true (.t39 [])),(7,I 0)],[(4,[I a1]),(5,(Al a2))],0⟩ (some 12) (fun st9=>(Ek (EV (O9 L) L 9 c9.u.r) (Gv Tryd.prog (RS Tryd.f9) kk)) .normal st9))
theorem A11(a0:List Ab)(a1:Int)(a2:Aa)(o2:Int):Amj a0 a1 a2 (Aue L kk a0 a1 a2) o2=ob (Hw L a0 a2 o2) (kq9 kk):=eE (Hw L a0 a2 o2)
def Vo [An A ((List Ab)×Int)](a0:List Ab)(a1:Int)(a2:Aa):A:=(bd (N4 L a0 a1 a2) fun o2=>Hw L a0 a2 o2)
def N9(a0:List Ab)(a1:Int)(a2:Aa):Option ((List Ab)×Int):=Vo L a0 a1 a2
def X9:Hy:=E3 (fun(x:(List Ab)×Int)=> .tup [lv (.t39 x.1),I x.2]) 9 Acn (cI .i64) Av (N9 L) fun a0 a1 a2 r h=>hF Tryd.func9 (C:=O9 L) (oS _) L (fun kk=>eE ((ho (Axt L (Aue L kk a0 a1 a2) a0 a1 a2) fun o2=>A11 L kk a0 a1 a2 o2))) h
end
end Go.Proofs.YtckmlfboedljeaaDoor.Ev
