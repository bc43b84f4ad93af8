import Derived.Test.YtmimkinjcfekmaaGreatG2
import Derived.Test.YtmimkinjcfekmaaGreatQ1
namespace Go.Proofs.YtmimkinjcfekmaaGreat.Ev
open Go An
set_option maxRecDepth 100000
set_option maxHeartbeats 4000000
set_option linter.unusedVariables false
set_option linter.unusedSimpArgs false
set_option linter.unnecessarySimpa false
def Ci(L:Nat)(p1_0:List Aw)(p1_1:Ab)(p1_2:ByteArray):List Aw→Nat→Int→Option (Nat×Int×Int)
 | [],i,Aq=>(some (1,(Aq,(i:Int))))
 |x::k,i,Aq=>(bif ((x.Name).toList == p1_2.toList) then (some (0,((i:Int),(i:Int))))
 else (Ci L p1_0 p1_1 p1_2 k (i+1) Aq))
theorem Qj(L:Nat)(p1_0:List Aw)(p1_1:Ab)(p1_2:ByteArray)(n:Nat)(hl:p1_0.length≤maxLen)(hn:p1_0.length < n):∀(Aq:Int),B9 L p1_0 p1_1 p1_2 n Aq 0=Ci L p1_0 p1_1 p1_2 p1_0 0 Aq:=lQ (fun k i n=>∀(Aq:Int),B9 L p1_0 p1_1 p1_2 n Aq (i:Int)=Ci L p1_0 p1_1 p1_2 k i Aq) hl hn (fun n i h Aq=>by simp only [B9,F6,Ci,P8 h,aN,aB,aC]) (fun n i x k h hx ih Aq=>by simp only [B9,F6,Ci,O0 h,g0 h,hx,De h hl,ih,aN,aB,aC])
def Cj(L:Nat)(p2_0:List Aj)(p2_1:Ab)(p2_2:ByteArray):List Aj→Nat→Int→Option (Nat×Int×Int)
 | [],i,El=>(some (1,(El,(i:Int))))
 |x::k,i,El=>(bif ((x.Name).toList == p2_2.toList) then (some (0,((i:Int),(i:Int))))
 else (Cj L p2_0 p2_1 p2_2 k (i+1) El))
theorem Qk(L:Nat)(p2_0:List Aj)(p2_1:Ab)(p2_2:ByteArray)(n:Nat)(hl:p2_0.length≤maxLen)(hn:p2_0.length < n):∀(El:Int),Ca L p2_0 p2_1 p2_2 n El 0=Cj L p2_0 p2_1 p2_2 p2_0 0 El:=lQ (fun k i n=>∀(El:Int),Ca L p2_0 p2_1 p2_2 n El (i:Int)=Cj L p2_0 p2_1 p2_2 k i El) hl hn (fun n i h El=>by simp only [Ca,F7,Cj,P8 h,aN,aB,aC]) (fun n i x k h hx ih El=>by simp only [Ca,F7,Cj,O0 h,g0 h,hx,De h hl,ih,aN,aB,aC])
def Ck(L:Nat)(p3_0:List Ao)(p3_1:Ab)(p3_2:ByteArray):List Ao→Nat→Int→Option (Nat×Int×Int)
 | [],i,Ms=>(some (1,(Ms,(i:Int))))
 |x::k,i,Ms=>(bif ((x.Name).toList == p3_2.toList) then (some (0,((i:Int),(i:Int))))
 else (Ck L p3_0 p3_1 p3_2 k (i+1) Ms))
theorem Ql(L:Nat)(p3_0:List Ao)(p3_1:Ab)(p3_2:ByteArray)(n:Nat)(hl:p3_0.length≤maxLen)(hn:p3_0.length < n):∀(Ms:Int),Cb L p3_0 p3_1 p3_2 n Ms 0=Ck L p3_0 p3_1 p3_2 p3_0 0 Ms:=lQ (fun k i n=>∀(Ms:Int),Cb L p3_0 p3_1 p3_2 n Ms (i:Int)=Ck L p3_0 p3_1 p3_2 k i Ms) hl hn (fun n i h Ms=>by simp only [Cb,F8,Ck,P8 h,aN,aB,aC]) (fun n i x k h hx ih Ms=>by simp only [Cb,F8,Ck,O0 h,g0 h,hx,De h hl,ih,aN,aB,aC])
def Cl(L:Nat)(p4_0:List Au)(p4_1:Ab)(p4_2:ByteArray):List Au→Nat→Int→Option (Nat×Int×Int)
 | [],i,Mt=>(some (1,(Mt,(i:Int))))
 |x::k,i,Mt=>(bif ((x.Name).toList == p4_2.toList) then (some (0,((i:Int),(i:Int))))
 else (Cl L p4_0 p4_1 p4_2 k (i+1) Mt))
theorem Qm(L:Nat)(p4_0:List Au)(p4_1:Ab)(p4_2:ByteArray)(n:Nat)(hl:p4_0.length≤maxLen)(hn:p4_0.length < n):∀(Mt:Int),Cc L p4_0 p4_1 p4_2 n Mt 0=Cl L p4_0 p4_1 p4_2 p4_0 0 Mt:=lQ (fun k i n=>∀(Mt:Int),Cc L p4_0 p4_1 p4_2 n Mt (i:Int)=Cl L p4_0 p4_1 p4_2 k i Mt) hl hn (fun n i h Mt=>by simp only [Cc,F9,Cl,P8 h,aN,aB,aC]) (fun n i x k h hx ih Mt=>by simp only [Cc,F9,Cl,O0 h,g0 h,hx,De h hl,ih,aN,aB,aC])
def Bt(Bv:Ae→Aa→Option (Int×Int))(L:Nat)(a1:Aa)(a0:Ae):List Aa→Nat→Int→Int→List Int→Option (Nat×Int×Int×List Int×Int)
 | [],i,B8,Aq,Bm=>(some (1,(B8,Aq,Bm,(i:Int))))
 |x::k,i,B8,Aq,Bm=>(Option.bind (Bv a0 x) fun r1=>
 (bif (r1.2 != 0) then (some (0,(0,r1.2,Bm,(i:Int))))
 else (if ((Bm.length+ [r1.1].length)*8≤140737488355328) then (if (Bm.length+ [r1.1].length≤maxLen) then (Bt Bv L a1 a0 k (i+1) B8 Aq (Bm++ [r1.1])) else none) else none)))
theorem Qp(Bv:Ae→Aa→Option (Int×Int))(L:Nat)(a1:Aa)(a0:Ae)(n:Nat)(hl:a1.Kids.length≤maxLen)(hn:a1.Kids.length < n):∀(B8:Int) (Aq:Int) (Bm:List Int),Ch Bv L a1 a0 n B8 Aq Bm 0=Bt Bv L a1 a0 a1.Kids 0 B8 Aq Bm:=lQ (fun k i n=>∀(B8:Int) (Aq:Int) (Bm:List Int),Ch Bv L a1 a0 n B8 Aq Bm (i:Int)=Bt Bv L a1 a0 k i B8 Aq Bm) hl hn (fun n i h B8 Aq Bm=>by simp only [Ch,Gc,Bt,P8 h,aN,aB,aC]) (fun n i x k h hx ih B8 Aq Bm=>by simp only [Ch,Gc,Bt,O0 h,g0 h,hx,De h hl,ih,aN,aB,aC])
def Bl(L:Nat)(r5:List ByteArray)(a0:Ae)(a1:Aa)(a2:Ai):List ByteArray→Nat→Bool→Option (Nat×Bool×Int)
 | [],i,B8=>(some (1,(B8,(i:Int))))
 |x::k,i,B8=>(bif (x.toList == a2.Name.toList) then (Option.bind (Hq L) fun r6=>
 (some (0,(r6,(i:Int)))))
 else (Bl L r5 a0 a1 a2 k (i+1) B8))
theorem Mo(L:Nat)(r5:List ByteArray)(a0:Ae)(a1:Aa)(a2:Ai)(n:Nat)(hl:r5.length≤maxLen)(hn:r5.length < n):∀(B8:Bool),Bj L r5 a0 a1 a2 n B8 0=Bl L r5 a0 a1 a2 r5 0 B8:=lQ (fun k i n=>∀(B8:Bool),Bj L r5 a0 a1 a2 n B8 (i:Int)=Bl L r5 a0 a1 a2 k i B8) hl hn (fun n i h B8=>by simp only [Bj,Dk,Bl,P8 h,aN,aB,aC]) (fun n i x k h hx ih B8=>by simp only [Bj,Dk,Bl,O0 h,g0 h,hx,De h hl,ih,aN,aB,aC])
end Go.Proofs.YtmimkinjcfekmaaGreat.Ev
