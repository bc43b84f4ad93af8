/-  Numerals: the program's and the document's. -/
import Derived.Test.YthjhkpgonleelaaGreatDoorAQA
import Derived.Test.YthjhkpgonleelaaGreatDoorAR0
namespace Go.Proofs.YthjhkpgonleelaaGreatDoor.Ev
open Go An
set_option maxRecDepth 100000
set_option linter.unusedVariables false
set_option linter.unusedSimpArgs false
set_option linter.unnecessarySimpa false
def bs(l:List UInt8):ByteArray:=⟨l.toArray⟩
theorem Aaf(a b:List UInt8):bs a++bs b=bs (a++b):=by
 have h:(bs a++bs b).data=(bs (a++b)).data:=by rw [ByteArray.data_append];simp [bs]
 cases h1:bs a++bs b;cases h2:bs (a++b)
 rw [h1,h2] at h
 simp only at h
 rw [h]
theorem P3(a:List UInt8):(bs a).size=a.length:=by simp [bs,ByteArray.size]
theorem Bmm{a b:List UInt8}(h:bs a=bs b):a=b:=by
 have:=congrArg (fun x=>x.data.toList) h
 simpa [bs] using this
theorem Bml(a b:List UInt8):((bs a).toList == (bs b).toList)=decide (a=b):=by
 rw [Brs]
 by_cases h:a=b
 ·subst h;simp
 ·simp only [h,decide_false];exact decide_eq_false fun e=>h (Bmm e)
theorem P9{n:Nat}(h:n≤1000000000):(!decide (((n:Nat):Int) > IntKind.i64.max))=true:=by
 have:IntKind.i64.max=9223372036854775807:=by decide
 rw [this];simp;omega
theorem Ba0(n:Int):Baz n=bs (Lib.itoa n):=rfl
theorem I0{u:Nat}(h:u < 10):Lib.decDigits u= [UInt8.ofNat (48+u)]:=by rw [Lib.decDigits,dif_pos h]
theorem Aje{u:Nat}(h:¬u < 10):Lib.decDigits u=Lib.decDigits (u/10)++Lib.decDigits (u % 10):=by
 rw [Lib.decDigits,dif_neg h,I0 (Nat.mod_lt _ (by decide))]
theorem Aag:∀(k u:Nat),u < 10 ^ (k+1)→(Lib.decDigits u).length≤k+1
 |0,u,h=>by rw [I0 (by simpa using h)];simp
 |k+1,u,h=>by
  by_cases hs:u < 10
  ·rw [I0 hs];simp
  ·rw [Aje hs,List.length_append,I0 (Nat.mod_lt u (by decide))]
   have:=Aag k (u/10) (by rw [Nat.pow_succ] at h;omega)
   simp;omega
theorem Bmz:∀i:Fin 10,((⟨#[48,49,50,51,52,53,54,55,56,57]⟩:ByteArray).extract i.val (i.val+1))=bs [UInt8.ofNat (48+i.val)]:=by decide+kernel
theorem Yy(L:Nat)(u:Nat)(h:u < 10):Dm (L+1) (u:Int)=some (bs (Lib.decDigits u)):=by
 have hw:Bo ((u:Int)+1)=((u+1:Nat):Int):=by rw [Alu (by omega) (by omega)];omega
 have e:=Bmz ⟨u,h⟩
 simp only [Dm,Ls,Lz,aN,aB,hw,toN,I0 h]
 rw [show decide ((u:Int)≥0)=true from decide_eq_true (by omega),show decide ((u:Int) < 10)=true from decide_eq_true (by omega)]
 simp only [cond_true]
 rw [if_pos (by omega),if_pos (by omega),if_pos (by omega),e]
theorem A2k:∀(k L u:Nat),u < 10 ^ (k+1)→u≤9223372036854775807→k≤30→Dm (L+1+k) (u:Int)=some (bs (Lib.decDigits u))
 |0,L,u,h,_,_=>Yy L u (by simpa using h)
 |k+1,L,u,h,hm,hk=>by
  by_cases hs:u < 10
  ·rw [show L+1+(k+1)=L+(k+1)+1 by omega];exact Yy (L+(k+1)) u hs
  ·have hq:u/10 < 10 ^ (k+1):=by rw [Nat.pow_succ] at h;omega
   have h1:=A2k k L (u/10) hq (by omega) (by omega)
   have h2:=Yy (L+k) (u % 10) (Nat.mod_lt _ (by decide))
   rw [show L+k+1=L+1+k by omega] at h2
   have hl1:=Aag k (u/10) hq
   have hl2:=Aag 0 (u % 10) (by have:=Nat.mod_lt u (show 10 > 0 by decide);simpa using this)
   have e1:Bo (Int.tdiv (u:Int) 10)=((u/10:Nat):Int):=by
    rw [show Int.tdiv (u:Int) 10=((u/10:Nat):Int) from rfl,Alu (by omega) (by omega)]
   have e2:Int.tmod (u:Int) 10=((u % 10:Nat):Int):=rfl
   rw [show L+1+(k+1)=(L+1+k)+1 by omega]
   simp only [Dm,Ls,Lz,aN,aB]
   rw [show decide ((u:Int)≥0)=true from decide_eq_true (by omega),show decide ((u:Int) < 10)=false from decide_eq_false (by omega),show decide ((u:Int) > 0)=true from decide_eq_true (by omega)]
   simp only [cond_true,cond_false,e1,e2,h1,h2,Option.bind_some,P3,Aaf]
   rw [P9 (by omega),cond_true,←Aje hs]
theorem Atx:∀(k L u:Nat),0 < u→u < 10 ^ (k+1)→u≤9223372036854775808→k≤30→Dm (L+2+k) (-(u:Int))=some (bs (45::Lib.decDigits u))
 |0,L,u,h0,h,hm,_=>by
  have h:u < 10:=by simpa using h
  have e1:Bo (0 - -(u:Int))=(u:Int):=by rw [show (0:Int) - -(u:Int)=(u:Int) by omega,Alu (by omega) (by omega)]
  rw [show L+2+0=(L+1)+1 by omega]
  simp only [Dm,Ls,Lz,aN,aB]
  rw [show decide (-(u:Int)≥0)=false from decide_eq_false (by omega),show decide (-(u:Int) > 0)=false from decide_eq_false (by omega),show decide (-(u:Int) > (-10))=true from decide_eq_true (by omega)]
  have h2:=Yy L u h
  simp only [Dm,Ls,Lz,aN,aB] at h2
  simp only [cond_true,cond_false,e1,h2,Option.bind_some]
  rw [I0 h,show (⟨#[45]⟩:ByteArray)=bs [45] from rfl,Aaf,P3,P3]
  rfl
 |k+1,L,u,h0,h,hm,hk=>by
  by_cases hs:u < 10
  ·have:=Atx 0 (L+(k+1)) u h0 (by simpa using hs) hm (by omega)
   rw [show L+2+(k+1)=L+(k+1)+2+0 by omega];exact this
  ·have hq:u/10 < 10 ^ (k+1):=by rw [Nat.pow_succ] at h;omega
   have h1:=Atx k L (u/10) (by omega) hq (by omega) (by omega)
   have h2:=Yy (L+1+k) (u % 10) (Nat.mod_lt _ (by decide))
   rw [show L+1+k+1=L+2+k by omega] at h2
   have hl1:=Aag k (u/10) hq
   have hl2:=Aag 0 (u % 10) (by have:=Nat.mod_lt u (show 10 > 0 by decide);simpa using this)
   have e1:Bo (Int.tdiv (-(u:Int)) 10)= -((u/10:Nat):Int):=by
    rw [show Int.tdiv (-(u:Int)) 10= -((u/10:Nat):Int) by rw [Int.neg_tdiv];rfl,Alu (by omega) (by omega)]
   have e2:Bo (0 - Int.tmod (-(u:Int)) 10)=((u % 10:Nat):Int):=by
    rw [show (0:Int) - Int.tmod (-(u:Int)) 10=((u % 10:Nat):Int) by rw [Int.neg_tmod,show Int.tmod (u:Int) 10=((u % 10:Nat):Int) from rfl];omega,Alu (by omega) (by omega)]
   rw [show L+2+(k+1)=(L+2+k)+1 by omega]
   simp only [Dm,Ls,Lz,aN,aB]
   rw [show decide (-(u:Int)≥0)=false from decide_eq_false (by omega),show decide (-(u:Int) > 0)=false from decide_eq_false (by omega),show decide (-(u:Int) > (-10))=false from decide_eq_false (by omega)]
   simp only [cond_true,cond_false,e1,e2,h1,h2,Option.bind_some,P3,Aaf,List.length_cons]
   rw [P9 (by omega),cond_true,Aje hs,List.cons_append]
def isI(n:Int):Prop:= -9223372036854775808≤n∧n≤9223372036854775807
theorem Ad1(L:Nat)(n:Int)(hn:isI n)(hL:100≤L):Dm L n=some (bs (Lib.itoa n)):=by
 obtain ⟨h1,h2⟩:=hn
 unfold Lib.itoa
 by_cases h:n < 0
 ·obtain ⟨u,rfl⟩:∃u:Nat,n= -(u:Int):=⟨n.natAbs,by omega⟩
  rw [if_pos h,Int.natAbs_neg,Int.natAbs_natCast]
  have:=Atx 30 (L - 32) u (by omega) (Nat.lt_of_le_of_lt (show u≤9223372036854775808 by omega) (by decide)) (by omega) (by omega)
  rw [show L - 32+2+30=L by omega] at this
  exact this
 ·obtain ⟨u,rfl⟩:∃u:Nat,n=(u:Int):=⟨n.toNat,by omega⟩
  rw [if_neg h,Int.toNat_natCast]
  have:=A2k 30 (L - 31) u (Nat.lt_of_le_of_lt (show u≤9223372036854775807 by omega) (by decide)) (by omega) (by omega)
  rw [show L - 31+1+30=L by omega] at this
  exact this
theorem Ad2(L:Nat)(n:Int)(hn:isI n):Lw L n=some (bs (Lib.itoa n)):=by
 simp only [Ahg,Lw,aN,aB,Mt,if_pos (show _∧_ from hn),Option.bind_some,Ba0]
theorem Ub(n:Int)(hn:isI n):(Lib.itoa n).length≤32:=by
 obtain ⟨h1,h2⟩:=hn
 unfold Lib.itoa
 split
 ·rename_i h
  have:=Aag 30 n.natAbs (Nat.lt_of_le_of_lt (show n.natAbs≤9223372036854775808 by omega) (by decide))
  rw [List.length_cons];omega
 ·have:=Aag 30 n.toNat (Nat.lt_of_le_of_lt (show n.toNat≤9223372036854775808 by omega) (by decide))
  omega
def Bey(l:List UInt8):Nat:=l.foldl (fun a c=>a*10+(c.toNat - 48)) 0
theorem A92{u:Nat}(h:u < 10):(UInt8.ofNat (48+u)).toNat - 48=u:=by
 have:(UInt8.ofNat (48+u)).toNat=48+u:=by simp [UInt8.toNat_ofNat];omega
 omega
theorem Aj3(u:Nat):Bey (Lib.decDigits u)=u:=by
 induction u using Nat.strongRecOn with
 |_ u ih=>
  by_cases h:u < 10
  ·rw [I0 h]
   show 0*10+((UInt8.ofNat (48+u)).toNat - 48)=u
   rw [A92 h];omega
  ·rw [Aje h,I0 (Nat.mod_lt u (by decide)),Bey,List.foldl_append]
   have:=ih (u/10) (by omega)
   unfold Bey at this
   rw [this,List.foldl_cons,List.foldl_nil,A92 (Nat.mod_lt u (by decide))]
   omega
theorem A23(u:Nat):∀c∈Lib.decDigits u,48≤c.toNat∧c.toNat≤57:=by
 induction u using Nat.strongRecOn with
 |_ u ih=>
  have sm:∀v,v < 10→∀c∈ [UInt8.ofNat (48+v)],48≤c.toNat∧c.toNat≤57:=by
   intro v hv c hc
   rw [List.mem_singleton.1 hc]
   have:(UInt8.ofNat (48+v)).toNat=48+v:=by simp [UInt8.toNat_ofNat];omega
   omega
  by_cases h:u < 10
  ·rw [I0 h];exact sm u h
  ·rw [Aje h,I0 (Nat.mod_lt u (by decide))]
   intro c hc
   rcases List.mem_append.1 hc with hc|hc
   ·exact ih (u/10) (by omega) c hc
   ·exact sm _ (Nat.mod_lt u (by decide)) c hc
theorem Uc(n:Int):∀c∈Lib.itoa n,c≠32∧c≠10:=by
 have dm:∀u,∀c∈Lib.decDigits u,c≠32∧c≠10:=fun u c hc=>by
  have:=A23 u c hc
  exact ⟨fun e=>by subst e;revert this;decide,fun e=>by subst e;revert this;decide⟩
 unfold Lib.itoa
 split
 ·intro c hc
  rcases List.mem_cons.1 hc with rfl|hc
  ·decide
  ·exact dm _ c hc
 ·exact dm _
theorem A93(u:Nat)(l:List UInt8):Lib.decDigits u≠45::l:=fun e=>by
 have:=A23 u 45 (by rw [e];simp)
 revert this;decide
theorem Aqj{a b:Int}(h:Lib.itoa a=Lib.itoa b):a=b:=by
 unfold Lib.itoa at h
 split at h<;>split at h
 ·injection h with _ h
  have:=congrArg Bey h
  rw [Aj3,Aj3] at this
  omega
 ·exact absurd h.symm (A93 _ _)
 ·exact absurd h (A93 _ _)
 ·have:=congrArg Bey h
  rw [Aj3,Aj3] at this
  omega
end Go.Proofs.YthjhkpgonleelaaGreatDoor.Ev
namespace Go.Proofs.YthjhkpgonleelaaGreatDoor.Ev
open Go An
set_option maxRecDepth 100000
set_option linter.unusedVariables false
set_option linter.unusedSimpArgs false
set_option linter.unnecessarySimpa false
def Gr(l:List Int):List UInt8:=l.flatMap fun n=>32::Lib.itoa n
def g6(w:List UInt8)(l:List Int):List UInt8:=w++Gr l++ [10]
def Ard(f:Ak):List UInt8:=
 [97,116,32]++Lib.itoa f.Time++ [32,115,105,116,101,32]++Lib.itoa f.Site++ [10]++g6 [112,114,111,99,115] f.Procs++g6 [104,101,108,100] f.Held++g6 [119,97,105,116,105,110,103] f.Waiting++g6 [105,116,101,109,115] f.Items
theorem Alw(l:List Int)(h:∀n∈l,isI n):(Gr l).length≤33*l.length:=by
 induction l with
 |nil=>simp [Gr]
 |cons x l ih=>
  have h1:=Ub x (h x (by simp))
  have h2:=ih fun n hn=>h n (by simp [hn])
  simp only [Gr,List.flatMap_cons,List.length_append,List.length_cons] at*
  omega
theorem Aqx(L:Nat)(a:List Int):∀(k:List Int) (i:Nat) (v:List UInt8),(∀n∈k,isI n)→v.length+33*k.length≤1000000→∃j,D3 L a k i (bs v)=some (0,(bs (v++Gr k),j)):=by
 intro k
 induction k with
 |nil=>intro i v _ _;exact ⟨(i:Int),by simp only [D3,Gr,List.flatMap_nil,List.append_nil]⟩
 |cons x k ih=>
  intro i v h hl
  have h1:=Ub x (h x (by simp))
  rw [List.length_cons] at hl
  obtain ⟨j,hj⟩:=ih (i+1) (v++32::Lib.itoa x) (fun n hn=>h n (by simp [hn])) (by rw [List.length_append,List.length_cons];omega)
  refine ⟨j,?_⟩
  rw [D3,Ad2 L x (h x (by simp)),Option.bind_some]
  simp only [show (⟨#[32]⟩:ByteArray)=bs [32] from rfl,Aaf,P3,List.cons_append,List.nil_append]
  rw [P9 (by simp;omega),P9 (by simp;omega),cond_true,cond_true,hj]
  simp [Gr,List.append_assoc]
theorem A02(L:Nat)(a:List Int)(hL:100≤L):∀(k:List Int) (i:Nat) (v:List UInt8),(∀n∈k,isI n)→v.length+33*k.length≤1000000→∃j,Gg L a k i (bs v)=some (0,(bs (v++Gr k),j)):=by
 intro k
 induction k with
 |nil=>intro i v _ _;exact ⟨(i:Int),by simp only [Gg,Gr,List.flatMap_nil,List.append_nil]⟩
 |cons x k ih=>
  intro i v h hl
  have h1:=Ub x (h x (by simp))
  rw [List.length_cons] at hl
  obtain ⟨j,hj⟩:=ih (i+1) (v++32::Lib.itoa x) (fun n hn=>h n (by simp [hn])) (by rw [List.length_append,List.length_cons];omega)
  refine ⟨j,?_⟩
  rw [Gg]
  simp only [Ad1 L x (h x (by simp)) hL,Option.bind_some,show (⟨#[32]⟩:ByteArray)=bs [32] from rfl,Aaf,P3]
  rw [P9 (by simp;omega),P9 (by simp;omega),cond_true,cond_true,List.append_assoc,List.cons_append,List.nil_append,hj]
  simp [Gr,List.append_assoc]
theorem Lp(L:Nat)(w:List UInt8)(l:List Int)(h:∀n∈l,isI n)(hw:w.length≤10)(hl:l.length≤50)(hL:100≤L):Gk L (bs w) l=some (bs (g6 w l)):=by
 obtain ⟨j,hj⟩:=Aqx L l l 0 w h (by omega)
 have h1:=Alw l h
 simp only [Acw,Hk,Gk,Hk,aN,aB,Ahy L l L (by unfold maxLen;omega) (by omega),hj,Option.bind_some,Bj5,show (⟨#[10]⟩:ByteArray)=bs [10] from rfl,Aaf,P3]
 rw [P9 (by simp;omega),cond_true]
 rfl
theorem Wv(L:Nat)(w:List UInt8)(l:List Int)(h:∀n∈l,isI n)(hw:w.length≤10)(hl:l.length≤50)(hL:100≤L):Lv L (bs w) l=some (bs (g6 w l)):=by
 obtain ⟨j,hj⟩:=A02 L l hL l 0 w h (by omega)
 have h1:=Alw l h
 simp only [Apy,K4,Lv,K4,aN,aB,Aqs L l L (by unfold maxLen;omega) (by omega),hj,Option.bind_some,Bj5,show (⟨#[10]⟩:ByteArray)=bs [10] from rfl,Aaf,P3]
 rw [P9 (by simp;omega),cond_true]
 rfl
structure A9m (f:Ak):Prop where
 t:isI f.Time
 s:isI f.Site
 p:(∀n∈f.Procs,isI n)∧f.Procs.length≤50
 h:(∀n∈f.Held,isI n)∧f.Held.length≤50
 w:(∀n∈f.Waiting,isI n)∧f.Waiting.length≤50
 i:(∀n∈f.Items,isI n)∧f.Items.length≤50
theorem Qr(w:List UInt8)(l:List Int)(h:(∀n∈l,isI n)∧l.length≤50)(hw:w.length≤10):(g6 w l).length≤2000:=by
 have:=Alw l h.1
 simp only [g6,List.length_append,List.length_singleton];omega
theorem Abv(L:Nat)(f:Ak)(h:A9m f)(hL:100≤L):Hw L f=some (bs (Ard f)):=by
 have l1:=Ub _ h.t;have l2:=Ub _ h.s
 have m1:=Qr [112,114,111,99,115] _ h.p (by simp);have m2:=Qr [104,101,108,100] _ h.h (by simp);have m3:=Qr [119,97,105,116,105,110,103] _ h.w (by simp);have m4:=Qr [105,116,101,109,115] _ h.i (by simp)
 simp only [Ty,Hw,aN,aB,Ad2 L _ h.t,Ad2 L _ h.s,Option.bind_some,show (⟨#[97,116,32]⟩:ByteArray)=bs [97,116,32] from rfl,show (⟨#[32,115,105,116,101,32]⟩:ByteArray)=bs [32,115,105,116,101,32] from rfl,show (⟨#[10]⟩:ByteArray)=bs [10] from rfl,
  show (⟨#[112,114,111,99,115]⟩:ByteArray)=bs [112,114,111,99,115] from rfl,show (⟨#[104,101,108,100]⟩:ByteArray)=bs [104,101,108,100] from rfl,show (⟨#[119,97,105,116,105,110,103]⟩:ByteArray)=bs [119,97,105,116,105,110,103] from rfl,show (⟨#[105,116,101,109,115]⟩:ByteArray)=bs [105,116,101,109,115] from rfl,
  Lp L [112,114,111,99,115] _ h.p.1 (by simp) h.p.2 hL,Lp L [104,101,108,100] _ h.h.1 (by simp) h.h.2 hL,Lp L [119,97,105,116,105,110,103] _ h.w.1 (by simp) h.w.2 hL,Lp L [105,116,101,109,115] _ h.i.1 (by simp) h.i.2 hL,Aaf,P3]
 iterate 8 (rw [P9 (by simp only [List.length_append,List.length_cons,List.length_nil];omega),cond_true])
 rfl
theorem Ayc(L:Nat)(f:Ak)(h:A9m f)(hL:100≤L):w4 L f=some (bs (Ard f)):=by
 have l1:=Ub _ h.t;have l2:=Ub _ h.s
 have m1:=Qr [112,114,111,99,115] _ h.p (by simp);have m2:=Qr [104,101,108,100] _ h.h (by simp);have m3:=Qr [119,97,105,116,105,110,103] _ h.w (by simp);have m4:=Qr [105,116,101,109,115] _ h.i (by simp)
 simp only [Ahe,w4,aN,aB,Ad1 L _ h.t hL,Ad1 L _ h.s hL,Option.bind_some,show (⟨#[97,116,32]⟩:ByteArray)=bs [97,116,32] from rfl,show (⟨#[32,115,105,116,101,32]⟩:ByteArray)=bs [32,115,105,116,101,32] from rfl,show (⟨#[10]⟩:ByteArray)=bs [10] from rfl,
  show (⟨#[112,114,111,99,115]⟩:ByteArray)=bs [112,114,111,99,115] from rfl,show (⟨#[104,101,108,100]⟩:ByteArray)=bs [104,101,108,100] from rfl,show (⟨#[119,97,105,116,105,110,103]⟩:ByteArray)=bs [119,97,105,116,105,110,103] from rfl,show (⟨#[105,116,101,109,115]⟩:ByteArray)=bs [105,116,101,109,115] from rfl,
  Wv L [112,114,111,99,115] _ h.p.1 (by simp) h.p.2 hL,Wv L [104,101,108,100] _ h.h.1 (by simp) h.h.2 hL,Wv L [119,97,105,116,105,110,103] _ h.w.1 (by simp) h.w.2 hL,Wv L [105,116,101,109,115] _ h.i.1 (by simp) h.i.2 hL,Aaf,P3]
 iterate 8 (rw [P9 (by simp only [List.length_append,List.length_cons,List.length_nil];omega),cond_true])
 rfl
theorem Aec{c:UInt8} :∀ {a b x y:List UInt8},(∀d∈a,d≠c)→(∀d∈b,d≠c)→a++c::x=b++c::y→a=b∧x=y
 | [],[],x,y,_,_,h=>by injection h with _ h;exact ⟨rfl,h⟩
 | [],d::b,x,y,_,hb,h=>by injection h with h _;exact absurd h.symm (hb d (by simp))
 |d::a,[],x,y,ha,_,h=>by injection h with h _;exact absurd h (ha d (by simp))
 |d::a,e::b,x,y,ha,hb,h=>by
  injection h with h1 h2
  obtain ⟨h3,h4⟩:=Aec (fun d hd=>ha d (by simp [hd])) (fun d hd=>hb d (by simp [hd])) h2
  exact ⟨by rw [h1,h3],h4⟩
theorem Arg(l:List Int):∃x,Gr l++ [32]=32::x:=by
 cases l with
 |nil=>exact ⟨[],rfl⟩
 |cons n l=>exact ⟨_,rfl⟩
theorem Atc:∀ {a b:List Int},Gr a=Gr b→a=b
 | [],[],_=>rfl
 | [],n::b,h=>by simp [Gr] at h
 |n::a,[],h=>by simp [Gr] at h
 |n::a,m::b,h=>by
  have h1:Gr (n::a)++ [32]=Gr (m::b)++ [32]:=by rw [h]
  obtain ⟨x,hx⟩:=Arg a
  obtain ⟨y,hy⟩:=Arg b
  have e:∀(n:Int) (l:List Int),Gr (n::l)++ [32]=32::(Lib.itoa n++(Gr l++ [32])):=fun n l=>by simp [Gr,List.append_assoc]
  rw [e,e,hx,hy] at h1
  injection h1 with _ h1
  obtain ⟨h2,h3⟩:=Aec (fun d hd=>(Uc n d hd).1) (fun d hd=>(Uc m d hd).1) h1
  have h4:Gr a++ [32]=Gr b++ [32]:=by rw [hx,hy,h3]
  rw [Aqj h2,Atc (List.append_cancel_right h4)]
theorem Atd(l:List Int):∀c∈Gr l,c≠10:=by
 intro c hc
 obtain ⟨n,_,hc⟩:=List.mem_flatMap.1 hc
 rcases List.mem_cons.1 hc with rfl|hc
 ·decide
 ·exact (Uc n c hc).2
theorem Ajr{w:List UInt8}{a b:List Int}{x y:List UInt8}(h:g6 w a++x=g6 w b++y):a=b∧x=y:=by
 simp only [g6,List.append_assoc] at h
 have h:=List.append_cancel_left h
 obtain ⟨h1,h2⟩:=Aec (Atd a) (Atd b) h
 exact ⟨Atc h1,h2⟩
theorem Bex{f g:Ak}(h:Ard f=Ard g):f=g:=by
 simp only [Ard,List.append_assoc,List.cons_append,List.nil_append,List.cons.injEq,true_and] at h
 obtain ⟨h1,h⟩:=Aec (fun d hd=>(Uc _ d hd).1) (fun d hd=>(Uc _ d hd).1) h
 simp only [List.cons.injEq,true_and] at h
 obtain ⟨h2,h⟩:=Aec (fun d hd=>(Uc _ d hd).2) (fun d hd=>(Uc _ d hd).2) h
 obtain ⟨h3,h⟩:=Ajr h
 obtain ⟨h4,h⟩:=Ajr h
 obtain ⟨h5,h⟩:=Ajr h
 have h:g6 [105,116,101,109,115] f.Items++ []=g6 [105,116,101,109,115] g.Items++ []:=by rw [List.append_nil,List.append_nil,h]
 obtain ⟨h6,_⟩:=Ajr h
 cases f;cases g
 simp only [Ak.mk.injEq]
 exact ⟨Aqj h1,Aqj h2,h3,h4,h5,h6⟩
end Go.Proofs.YthjhkpgonleelaaGreatDoor.Ev
namespace Go.Proofs.YthjhkpgonleelaaGreatDoor.Ev
open Go An
set_option maxRecDepth 100000
set_option linter.unusedVariables false
set_option linter.unusedSimpArgs false
set_option linter.unnecessarySimpa false
theorem Awz{α :Type} [Inhabited α](l:List α)(i:Nat)(h:i < l.length):l.drop i=l.getD i default::l.drop (i+1):=by
 rw [List.drop_eq_getElem_cons h,Ae8 l i h]
theorem neI{a b:Int}(h:¬a=b):(a != b)=true:=bne_iff_ne.2 h
theorem Ab9(L:Nat)(a0 a1:List Int):∀(k:List Int) (i:Nat) (v:Bool),i+k.length=a1.length→∃j,Dh L a0 a1 k i v=some (bif decide (k=a1.drop i) then (1,(v,j)) else (0,(false,j))):=by
 intro k
 induction k with
 |nil=>
  intro i v h
  refine ⟨i,?_⟩
  have:a1.drop i= []:=List.drop_eq_nil_of_le (by simp at h;omega)
  rw [this];rfl
 |cons x k ih=>
  intro i v h
  rw [List.length_cons] at h
  obtain ⟨j,hj⟩:=ih (i+1) v (by omega)
  have hi:i < a1.length:=by omega
  rw [Dh,Awz a1 i hi,ifp (show (i:Int) < (a1.length:Int) by omega),hj,toN]
  generalize a1.getD i default=y
  by_cases hx:x=y
  ·refine ⟨j,?_⟩
   subst hx
   simp
  ·exact ⟨i,by simp [hx,neI hx]⟩
theorem Hh(L:Nat)(a b:List Int)(ha:a.length≤maxLen)(hL:a.length < L):Df L a b=some (decide (a=b)):=by
 simp only [T0,Gt,Es,Df,Gt,Es,aN,aB,Aaq L a b L ha (by omega)]
 by_cases h:(a.length:Int)=(b.length:Int)
 ·obtain ⟨j,hj⟩:=Ab9 L a b a 0 false (by omega)
  rw [hj,List.drop_zero]
  by_cases hab:a=b
  ·simp [hab,Bxm]
  ·simp [hab,h,Bj5]
 ·have:a≠b:=by rintro rfl;exact h rfl
  simp [this,neI h]
theorem Alh(L:Nat)(a0 a1:List Int):∀(k:List Int) (i:Nat) (v:Bool),i+k.length=a1.length→∃j,Ek L a0 a1 k i v=some (bif decide (k=a1.drop i) then (1,(v,j)) else (0,(false,j))):=by
 intro k
 induction k with
 |nil=>
  intro i v h
  refine ⟨i,?_⟩
  have:a1.drop i= []:=List.drop_eq_nil_of_le (by simp at h;omega)
  rw [this];rfl
 |cons x k ih=>
  intro i v h
  rw [List.length_cons] at h
  obtain ⟨j,hj⟩:=ih (i+1) v (by omega)
  have hi:i < a1.length:=by omega
  rw [Ek,Awz a1 i hi,ifp (show (i:Int) < (a1.length:Int) by omega),hj,toN]
  generalize a1.getD i default=y
  by_cases hx:x=y
  ·refine ⟨j,?_⟩
   subst hx
   simp
  ·exact ⟨i,by simp [hx,neI hx]⟩
theorem Lo(L:Nat)(a b:List Int)(ha:a.length≤maxLen)(hL:a.length < L):Gj L a b=some (decide (a=b)):=by
 simp only [Acv,Jd,Hj,Gj,Jd,Hj,aN,aB,Ahx L a b L ha (by omega)]
 by_cases h:(a.length:Int)=(b.length:Int)
 ·obtain ⟨j,hj⟩:=Alh L a b a 0 false (by omega)
  rw [hj,List.drop_zero]
  by_cases hab:a=b
  ·simp [hab,Bxm]
  ·simp [hab,h,Bj5]
 ·have:a≠b:=by rintro rfl;exact h rfl
  simp [this,neI h]
def Anj(a b:Ak):Bool:=a.Time == b.Time && a.Site == b.Site && decide (a.Procs=b.Procs) && decide (a.Held=b.Held) && decide (a.Waiting=b.Waiting) && decide (a.Items=b.Items)
theorem As1(a b:Ak):Anj a b=true↔a=b:=by
 cases a;cases b
 simp only [Anj,Ak.mk.injEq,Bool.and_eq_true,beq_iff_eq,decide_eq_true_eq,and_assoc]
def Alj(f:Ak)(n:Nat):Prop:=f.Procs.length≤n∧f.Held.length≤n∧f.Waiting.length≤n∧f.Items.length≤n
theorem Auh(a b:Bool):(bif a then b else false)=(a && b):=by cases a<;>rfl
theorem Aoj(L:Nat)(a b:Ak)(h:Alj a maxLen)(hL:Alj a (L - 1))(h0:0 < L):Ml L a b=some (Anj a b):=by
 obtain ⟨h1,h2,h3,h4⟩:=h
 obtain ⟨l1,l2,l3,l4⟩:=hL
 simp only [Tx,Ml,aN,aB,Hh L a.Procs b.Procs h1 (by omega),Hh L a.Held b.Held h2 (by omega),Hh L a.Waiting b.Waiting h3 (by omega),Hh L a.Items b.Items h4 (by omega),Option.bind_some,Anj,Auh]
 generalize (a.Time == b.Time && a.Site == b.Site)=c0
 generalize decide (a.Procs=b.Procs)=c1
 generalize decide (a.Held=b.Held)=c2
 generalize decide (a.Waiting=b.Waiting)=c3
 generalize decide (a.Items=b.Items)=c4
 cases c0<;>cases c1<;>cases c2<;>cases c3<;>cases c4<;>rfl
theorem Ayb(L:Nat)(a b:Ak)(h:Alj a maxLen)(hL:Alj a (L - 1))(h0:0 < L):H8 L a b=some (Anj a b):=by
 obtain ⟨h1,h2,h3,h4⟩:=h
 obtain ⟨l1,l2,l3,l4⟩:=hL
 simp only [Ahd,H8,aN,aB,Lo L a.Procs b.Procs h1 (by omega),Lo L a.Held b.Held h2 (by omega),Lo L a.Waiting b.Waiting h3 (by omega),Lo L a.Items b.Items h4 (by omega),Option.bind_some,Anj,Auh]
 generalize (a.Time == b.Time && a.Site == b.Site)=c0
 generalize decide (a.Procs=b.Procs)=c1
 generalize decide (a.Held=b.Held)=c2
 generalize decide (a.Waiting=b.Waiting)=c3
 generalize decide (a.Items=b.Items)=c4
 cases c0<;>cases c1<;>cases c2<;>cases c3<;>cases c4<;>rfl
def Alo(f:Ak):Bool:=decide (f.Procs.length≤50) && decide (f.Held.length≤50) && decide (f.Waiting.length≤50) && decide (f.Items.length≤50)
theorem Au9(L:Nat)(f:Ak):Qb L f=some (Alo f):=by
 have e:∀n:Nat,decide ((n:Int)≤50)=decide (n≤50):=fun n=>by congr 1;simp only [eq_iff_iff];omega
 simp only [Acq,Qb,aN,aB,e,Auh,Alo]
theorem Ak3{n:Int}(h:Ot .i64 n):isI n:=by
 exact Bjf h
theorem Bc6{f:Ak}(h:S4 f)(hs:Alo f=true):A9m f:=by
 obtain ⟨h1,h2,⟨_,h3⟩,⟨_,h4⟩,⟨_,h5⟩,⟨_,h6⟩⟩:=h
 simp only [Alo,Bool.and_eq_true,decide_eq_true_eq] at hs
 obtain ⟨⟨⟨s1,s2⟩,s3⟩,s4⟩:=hs
 exact ⟨Ak3 h1,Ak3 h2,⟨fun n hn=>Ak3 (h3 n hn),s1⟩,⟨fun n hn=>Ak3 (h4 n hn),s2⟩,⟨fun n hn=>Ak3 (h5 n hn),s3⟩,⟨fun n hn=>Ak3 (h6 n hn),s4⟩⟩
theorem Ak5(a b:Ak)(ha:S4 a)(hb:S4 b):∃L,Lt L a b=some true:=by
 refine ⟨1000,?_⟩
 have hw:∀L,Ew L=some true:=fun _=>rfl
 simp only [Ly,Lt,aN,aB,Au9,Option.bind_some,hw]
 cases h1:Alo a with
 |false=>rfl
 |true=>
  cases h2:Alo b with
  |false=>rfl
  |true=>
   have p1:=Bc6 ha h1
   have p2:=Bc6 hb h2
   have r:Alj a maxLen:=⟨by have:=p1.p.2;unfold maxLen;omega,by have:=p1.h.2;unfold maxLen;omega,by have:=p1.w.2;unfold maxLen;omega,by have:=p1.i.2;unfold maxLen;omega⟩
   have r':Alj a (1000 - 1):=⟨by have:=p1.p.2;omega,by have:=p1.h.2;omega,by have:=p1.w.2;omega,by have:=p1.i.2;omega⟩
   simp only [Bool.not_true,cond_false,Option.bind_some,Abv 1000 a p1 (by omega),Abv 1000 b p2 (by omega),Ayc 1000 a p1 (by omega),Aoj 1000 a b r r' (by omega),Ayb 1000 a b r r' (by omega),Bml,decide_true,cond_true,beq_self_eq_true]
   have e:decide (Ard a=Ard b)=Anj a b:=by
    cases hs:Anj a b with
    |true=>rw [(As1 a b).1 hs];simp
    |false=>exact decide_eq_false fun e=>by rw [(As1 a b).2 (Bex e)] at hs;cases hs
   rw [e,beq_self_eq_true,cond_true]
end Go.Proofs.YthjhkpgonleelaaGreatDoor.Ev
