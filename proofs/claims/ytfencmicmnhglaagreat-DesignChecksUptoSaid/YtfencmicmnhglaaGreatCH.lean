/-  Chapter 11, plainly: Check of the reference: its parts. -/
import Derived.Test.YtfencmicmnhglaaGreatQA
import Derived.Test.YtfencmicmnhglaaGreatCF
import Derived.Test.YtfencmicmnhglaaGreatPO
namespace Go.Proofs.YtfencmicmnhglaaGreat.Ev
open Go An
set_option maxRecDepth 100000
set_option linter.unusedVariables false
set_option linter.unusedSimpArgs false
set_option linter.unnecessarySimpa false
theorem Anf(a b c:Int):fE (fE a b) c=fE a (fE b c):=by
 by_cases h:a=0
 ·subst h;rfl
 ·rw [Mf h,Mf h,Mf h]
theorem Cba(a:Int):fE a 0=a:=by
 by_cases h:a=0
 ·subst h;rfl
 ·rw [Mf h]
theorem Hv(L:Nat)(a b:Int):C9 L a b=some (fE a b):=by
 simp only [Arh,C9,aN,aB]
 by_cases h:a=0
 ·simp [h,Rp]
 ·simp [Uy h,Mf h]
theorem Hu(L:Nat)(c:Bool)(e:Int):Co L c e=some (unl c e):=by
 simp only [Ao4,Co,aN,aB,unl]
 cases c<;>rfl
theorem Lo(L:Nat)(x lo hi:Int):D2 L x lo hi=some (Br lo hi x):=by
 simp only [Ao5,D2,aN,aB,D3,ge_iff_le,Br]
theorem Ap0(L:Nat)(t:Int):Wz L t=some (N0 t):=by
 simp only [Arg,Wz,aN,aB,Kn,N0,Br]
 congr 1
 by_cases h1:t=1
 ·subst h1;rfl
 ·by_cases h2:t=2
  ·subst h2;rfl
  ·by_cases h3:t=3
   ·subst h3;rfl
   ·rw [beq_false_of_ne h1,beq_false_of_ne h2,beq_false_of_ne h3]
    by_cases h4:1≤t
    ·rw [decide_eq_true h4,decide_eq_false (show¬t≤3 by omega)];rfl
    ·rw [decide_eq_false h4];rfl
theorem Alm(L:Nat)(t n:Int):Ul L t n=some (Aau t n):=by
 simp only [Au4,Ul,aN,aB,Az2,Lo,Option.bind_some,Kn,Aau]
 by_cases h1:t=1
 ·simp [h1]
 ·by_cases h2:t=2
  ·simp [h2]
  ·by_cases h3:t=3
   ·simp [h3]
   ·simp [h1,h2,h3,beq_false_of_ne h1,beq_false_of_ne h2,beq_false_of_ne h3]
theorem Bgd(l:List ByteArray)(n:ByteArray):decide (A8z l n < 0)= !l.any fun x=>decide (x=n):=by
 unfold A8z
 rw [Abr]
 cases h:l.findIdx? fun x=>decide (x=n) with
 |none=>rw [Axa h];rfl
 |some i=>rw [Atk h];rfl
theorem Acm(L:Nat)(n:ByteArray)(bf:List ByteArray)(hn:okS n)(hb:bf.length≤maxLen)(hL:maxLen < L):N1 L n bf=some (Wv bf n):=by
 have hM:=Bd
 simp only [Ari,N1,aN,aB,Acl L n hn (Nat.lt_of_le_of_lt hn hL) (by omega),Ahd L bf n hb (by omega),Hu,Hv,Option.bind_some,Bgd,Wv]
theorem Bd4(L:Nat)(x:Al)(bf:List ByteArray)(hx:Ny x)(hb:bf.length≤maxLen)(hL:maxLen < L):Agu L x bf=some (fE (Wv bf x.Name) (U3 x)):=by
 simp only [Arj,Agu,aN,aB,Acm L x.Name bf hx.1 hb hL,Ap0,Alm,Hu,Hv,Option.bind_some,Atq,Anf]
theorem A0e(L:Nat)(r:Af)(hl:r.Shift.length≤maxLen)(hc:Cq (r.Cycle - 1)=r.Cycle - 1):∀(k:List Cx) (i:Nat) (v:Int),r.Shift.drop i=k→
  ∃j,H7 L r k i v=some (if A5t r.Cycle (pvA r.Shift i) k=0 then (1,(v,j)) else (0,(A5t r.Cycle (pvA r.Shift i) k,j))):=by
 intro k
 induction k with
 |nil=>intro i v _;exact ⟨i,rfl⟩
 |cons x k ih=>
  intro i v h
  obtain ⟨hi,hx,hk⟩:=Og h
  obtain ⟨j,hj⟩:=ih (i+1) v hk
  rw [Bh8 h] at hj
  rw [H7]
  simp only [Lo,Option.bind_some,hc,Bqe r.Shift i hi hl,hj,Bac]
  rcases Bool.eq_false_or_eq_true (Br 0 (r.Cycle - 1) x.At) with hA|hA
  ·rcases Bool.eq_false_or_eq_true (Br 0 1000 x.Units) with hB|hB
   ·rcases Bool.eq_false_or_eq_true (geq (pvA r.Shift i) x.At) with hC|hC
    ·exact ⟨i,by simp [hA,hB,hC]⟩
    ·exact ⟨j,by simp [hA,hB,hC]⟩
   ·exact ⟨i,by simp [hA,hB]⟩
  ·exact ⟨i,by simp [hA]⟩
theorem A3a(L:Nat)(r:Af)(hl:r.Shift.length≤maxLen)(hL:maxLen < L):Aa3 L r=some (Awb r):=by
 have e20:decide ((r.Shift.length:Int) > 20)=decide (20 < r.Shift.length):=gtN _ 20
 simp only [Arf,Wj,Ry,Aa3,Wj,Ry,aN,aB,Lo,Hu,Option.bind_some,Bhe,e20,Bbp]
 by_cases h0:r.Shift.length=0
 ·rw [decide_eq_true h0,if_pos h0,cond_true]
 ·rw [decide_eq_false h0,if_neg h0,cond_false]
  by_cases h2:20 < r.Shift.length
  ·rw [decide_eq_true h2,if_pos h2];rfl
  ·rw [decide_eq_false h2,if_neg h2,cond_false]
   rcases Bool.eq_false_or_eq_true (Br 1 1000000000 r.Cycle) with hr|hr
   ·obtain ⟨j,hj⟩:=A0e L r hl (cyc hr) r.Shift 0 0 rfl
    rw [Avu L r L hl (Nat.lt_of_le_of_lt hl hL),hj,hr]
    simp only [Bool.not_true,cond_false,Option.bind_some,Bool.true_eq_false,if_false]
    have e:pvA r.Shift 0=none:=rfl
    rw [e]
    by_cases hz:A5t r.Cycle none r.Shift=0
    ·rw [if_pos hz,Qo,hz]
    ·rw [if_neg hz,Hb]
   ·rw [hr];rfl
theorem A3b(L:Nat)(s:Aa)(r:Af)(h1:r.Shift.length≤maxLen)(hs:s.Streams.length≤maxLen)(hb:Lk r.Fault≤1048576)(hL:maxLen < L):W0 L s r=some (Bih s r):=by
 have hz:(⟨0,0,0,0,[],[]⟩:Bj)=Ahm:=rfl
 unfold Lk at hb
 have d1:okD r.Fault.Up:=Bds (by omega)
 have d2:okD r.Fault.Down:=Bds (by omega)
 simp only [Ajo,W0,aN,aB,Ea,A41,Lo,Hu,Hv,A3a L r h1 hL,Asn L r.Fault.Up _ d1 hL,Asn L r.Fault.Down _ d2 hL,Apy L r.Fault.Up d1 hL,Apy L r.Fault.Down d2 hL,Ahd L s.Streams r.Fault.Stream hs (Nat.lt_of_le_of_lt hs hL),Bgd,Option.bind_some,Bqf,Bgc,←Anf,hz]
 by_cases h0:fE (unl (Br 0 1000 r.Units) 2) (Awb r)=0
 ·rw [h0,Rp]
  simp only [bne_self_eq_false,cond_false]
  by_cases h2:r.Fault.Stream.size=0
  ·simp only [h2,decide_true,cond_true,if_true]
   cases An8 r.Fault.Up Ahm<;>cases An8 r.Fault.Down Ahm<;>rfl
  ·simp only [h2,decide_false,cond_false,if_false]
   rcases Bool.eq_false_or_eq_true (s.Streams.any fun x=>decide (x=r.Fault.Stream)) with h3|h3
   ·simp [h3]
   ·simp [h3]
 ·rw [Mf h0]
  simp only [Uy h0,cond_true]
theorem B7f{α :Type}{nm: α→ByteArray}{f: α→Int}{lq:List α→Nat→Int→List ByteArray→Option (Nat×(Int×List ByteArray×Int))}
  (hn:∀i v ks,lq [] i v ks=some (1,(v,ks,(i:Int)))):∀(k:List α) (i:Nat) (v:Int) (ks:List ByteArray),ks.length+k.length≤1099511627776→
  (∀x∈k,∀(k:List α) (i:Nat) (v:Int) (ks:List ByteArray),ks.length≤1099511627776→lq (x::k) i v ks=bif fE (Wv ks (nm x)) (f x) != 0 then some (0,(fE (Wv ks (nm x)) (f x),ks,(i:Int))) else if (ks.length+ [nm x].length)*16≤140737488355328 then (if ks.length+ [nm x].length≤maxLen then lq k (i+1) v (ks++ [nm x]) else none) else none)→
  ∃j ks',lq k i v ks=some (if (F6 nm f ks k).1=0 then (1,(v,ks',j)) else (0,((F6 nm f ks k).1,ks',j)))∧((F6 nm f ks k).1=0→ks'=(F6 nm f ks k).2):=by
 intro k
 induction k with
 |nil=>intro i v ks _ _;exact ⟨i,ks,by rw [hn,F6];rfl,fun _=>rfl⟩
 |cons x k ih=>
  intro i v ks hl h
  rw [List.length_cons] at hl
  rw [h x (by simp) k i v ks (by omega)]
  by_cases h0:fE (Wv ks (nm x)) (f x)=0
  ·have e:F6 nm f ks (x::k)=F6 nm f (ks++ [nm x]) k:=by rw [F6,if_neg (by simp [h0])]
   obtain ⟨j,ks',hj,he⟩:=ih (i+1) v (ks++ [nm x]) (by simp only [List.length_append,List.length_singleton];omega) fun y hy=>h y (by simp [hy])
   rw [e,h0]
   refine ⟨j,ks',?_,he⟩
   have hM:=Bd
   simp only [bne_self_eq_false,cond_false,List.length_singleton]
   rw [if_pos (by omega),if_pos (by omega),hj]
  ·have e:F6 nm f ks (x::k)=(fE (Wv ks (nm x)) (f x),ks):=by rw [F6,if_pos h0]
   rw [e]
   exact ⟨i,ks,by simp only [Uy h0,cond_true,if_neg h0],fun hh=>absurd hh h0⟩
theorem A67(L:Nat)(r:Ak)(hr:Ia r)(hb:C7 r≤1048576)(hL:Uf≤L):Afr L r=some (Ayd r):=by
 have hM:=Bd
 obtain ⟨b1,b2,b3⟩:=Akf hb
 have hL':maxLen < L:=Rm hL
 have e1:decide ((r.Params.length:Int) > 6)=decide (6 < r.Params.length):=gtN _ 6
 have e2:Cq ((r.Params.length:Int)+(r.Locals.length:Int))=((r.Params.length+r.Locals.length:Nat):Int):=by rw [S2 (by omega) (by omega)];omega
 have e3:decide (((r.Params.length+r.Locals.length:Nat):Int) > 16)=decide (16 < r.Params.length+r.Locals.length):=gtN _ 16
 have c2:=Ax2 (show∀y∈r.Body,B6 y from hr.2.2.2.2) L (Axc hL b3)
 simp only [At4,Zl,Tu,Afr,Zl,Tu,aN,aB,e1,e2,e3,Kn,Bii]
 by_cases h0:6 < r.Params.length∨16 < r.Params.length+r.Locals.length
 ·rw [if_pos h0]
  have:(decide (6 < r.Params.length) || decide (16 < r.Params.length+r.Locals.length))=true:=by simpa using h0
  rw [this];rfl
 ·rw [if_neg h0]
  have:(decide (6 < r.Params.length) || decide (16 < r.Params.length+r.Locals.length))=false:=by simpa using h0
  rw [this,cond_false]
  repeat rw [ifp (by omega)]
  rw [Axj L r L (by simp;omega) (by simp;omega)]
  obtain ⟨j,ks',hj,_⟩:=B7f (nm:=fun f:Ap=>f.Name) (f:=fun f=>unl (N0 f.Type_) 1) (lq:=K5 L r) (fun _ _ _=>rfl) (r.Params++r.Locals) 0 0 [] (by simp;omega) (by
   intro x hx k i v ks hk
   have ho:okS x.Name:=by
    rcases List.mem_append.1 hx with h|h
    ·exact (hr.2.1.2 x h).1
    ·exact (hr.2.2.1.2 x h).1
   rw [K5]
   simp only [Acm L x.Name ks ho (by omega) hL',Ap0,Hu,Hv,Option.bind_some])
  rw [hj,Option.bind_some]
  by_cases hz:(F6 (fun f:Ap=>f.Name) (fun f=>unl (N0 f.Type_) 1) [] (r.Params++r.Locals)).1=0
  ·rw [if_pos hz,Qo,hz,Rp,c2];rfl
  ·rw [if_neg hz,Hb,Mf hz]
theorem A9x(L:Nat)(s:Aa)(n:Nat)(d:Bm):∀(k:List Ap) (i:Nat) (v:Int),i+k.length=d.Args.length→
  ∃j,L9 L s (n:Int) d k i v=some (if Am8 k (d.Args.drop i)=true then (1,(v,j)) else (0,(2,j))):=by
 intro k
 induction k with
 |nil=>intro i v _;exact ⟨i,by unfold Am8;simp [L9]⟩
 |cons x k ih=>
  intro i v h
  rw [List.length_cons] at h
  have hi:i < d.Args.length:=by omega
  obtain ⟨j,hj⟩:=ih (i+1) v (by omega)
  rw [L9]
  simp only [toN,Ip hi,if_true,Alm,Option.bind_some,hj]
  have e:Am8 (x::k) (d.Args.drop i)=(Aau x.Type_ (d.Args.getD i default) && Am8 k (d.Args.drop (i+1))):=by
   unfold Am8
   rw [Af1 d.Args i hi,List.zip_cons_cons,List.all_cons]
  rw [e]
  cases Aau x.Type_ (d.Args.getD i default) with
  |false=>exact ⟨i,rfl⟩
  |true=>exact ⟨j,by simp⟩
theorem Bd3(L:Nat)(s:Aa)(d:Bm)(hs:Wu s 1099511627776)(hd:d.Args.length≤maxLen)(hL:maxLen < L):Aan L s d=some (A0p s d):=by
 have hM:=Bd
 simp only [A08,Adm,Xx,Aan,Adm,Xx,aN,aB,Akb L s d.Routine hs hL,Option.bind_some,Tt,Abr,Bbr,Ag5]
 cases hf:s.Routines.findIdx? (fun x=>decide (x.Name=d.Routine)) with
 |none=>rfl
 |some i=>
  have hi:=Amb hf
  simp only [Option.isNone_some,cond_false,Ow,nn,if_true,Ip hi,toN,Option.map_some]
  by_cases hn:d.Args.length=(s.Routines.getD i default).Params.length
  ·rw [if_neg (by simpa using hn)]
   have:((d.Args.length:Int) != ((s.Routines.getD i default).Params.length:Int))=false:=by rw [hn];simp
   rw [this,cond_false,A22 L s _ d L (by rw [toN];omega) (by rw [toN];omega)]
   obtain ⟨j,hj⟩:=A9x L s i d (s.Routines.getD i default).Params 0 0 (by omega)
   rw [toN,hj,Option.bind_some,List.drop_zero]
   cases Am8 (s.Routines.getD i default).Params d.Args with
   |false=>rfl
   |true=>
    simp only [if_true,Qo,Lo,Hu,Option.bind_some,Bool.true_eq_false,if_false]
    cases Br 0 1000000000 d.At<;>cases Br 0 1000000000 d.Every<;>cases Br 0 1000000000 d.Until<;>rfl
  ·rw [if_pos (by simpa using hn)]
   have:((d.Args.length:Int) != ((s.Routines.getD i default).Params.length:Int))=true:=bne_iff_ne.2 (by omega)
   rw [this];rfl
theorem By4(s:Aa)(t:Av):Ac6 s t=if Aig t.What=0 then 1
 else if Hi s t.Name≠(if Aig t.What=1 then W8 else if Aig t.What=2 then I2 else Tk) then 5 else A1l t:=rfl
theorem Y4(L:Nat)(s:Aa)(t:Av)(w:ByteArray)(h:Wu s 1099511627776)(hL:maxLen < L):(S1 L s t w:Option Int)=some (fE (unl (!decide (w.size=0)) 1) (fE (unl (decide (Hi s t.Name=w)) 5) (A1l t))):=by
 have hM:=Bd
 simp only [S1,aN,aB,Ea,A41,Hu,Hv,Lo,Aln L s t.Name h hL,Option.bind_some,D3,Anf,A1l]
theorem tR(s:Aa)(n w:ByteArray)(c:Int)(hw:decide (w.size=0)=false):fE (unl (!decide (w.size=0)) 1) (fE (unl (decide (Hi s n=w)) 5) c)=if Hi s n≠w then 5 else c:=by
 rw [hw]
 by_cases h:Hi s n=w
 ·rw [decide_eq_true h,if_neg (by simpa using h)];rfl
 ·rw [decide_eq_false h,if_pos h];rfl
theorem Bhy(L:Nat)(s:Aa)(t:Av)(h:Wu s 1099511627776)(hL:maxLen < L):Ajj L s t=some (Ac6 s t):=by
 have k1:(⟨#[114,111,117,116,105,110,101]⟩:ByteArray)=W8:=rfl
 have k2:(⟨#[115,116,111,114,101]⟩:ByteArray)=I2:=rfl
 have k3:(⟨#[99,111,117,110,116]⟩:ByteArray)=Tk:=rfl
 have t0:(S1 L s t ⟨#[]⟩:Option Int)=some 1:=by rw [Y4 L s t _ h hL];rfl
 have t1:=Y4 L s t W8 h hL
 have t2:=Y4 L s t I2 h hL
 have t3:=Y4 L s t Tk h hL
 rw [tR _ _ _ _ rfl] at t1 t2 t3
 simp only [Ajj,A5i,sx_R11_term_0,Amt,sx_R11_term_2,Amu,sx_R11_term_3,aN,Ea,B8c,B8d,B8e,B8f,B8g,B8h,B8i,k1,k2,k3,t0,t1,t2,t3,By4,Bi3]
 by_cases c1:t.What=wd1
 ·simp [c1]
 by_cases c2:t.What=wd2
 ·simp [c1,c2,wdn]
 by_cases c3:t.What=wd3
 ·simp [c1,c2,c3,wdn]
 by_cases c4:t.What=wd4
 ·simp [c1,c2,c3,c4,wdn]
 by_cases c5:t.What=wd5
 ·simp [c1,c2,c3,c4,c5,wdn]
 by_cases c6:t.What=wd6
 ·simp [c1,c2,c3,c4,c5,c6,wdn]
 by_cases c7:t.What=wd7
 ·simp [c1,c2,c3,c4,c5,c6,c7,wdn]
 ·simp [c1,c2,c3,c4,c5,c6,c7]
theorem Bh9(L:Nat)(s:Aa)(l:Ba)(h:Wu s 1099511627776)(hL:maxLen < L):∀(k:List Av) (i:Nat) (v:Int),∃j,Ru L s l k i v=some (0,(fE v (Air (Ac6 s) k),j)):=by
 intro k
 induction k with
 |nil=>intro i v;exact ⟨i,by rw [Ru,Air,Cba]⟩
 |cons x k ih=>
  intro i v
  obtain ⟨j,hj⟩:=ih (i+1) (fE v (Ac6 s x))
  refine ⟨j,?_⟩
  rw [Ru,Bhy L s x h hL,Option.bind_some,Hv,Option.bind_some,hj,Anf,Air]
theorem Bke(L:Nat)(s:Aa)(l:Ba)(bf:List ByteArray)(hl:Ad7 l)(hs:Wu s 1099511627776)(hb:bf.length≤maxLen)(hL:maxLen < L):Am2 L s l bf=some (fE (Wv bf l.Name) (A2m (Ac6 s) l)):=by
 obtain ⟨j,hj⟩:=Bh9 L s l hs hL l.Terms 0 (fE (Wv bf l.Name) (fE (unl (decide (0 < l.Terms.length)) 7) (unl (decide (l.Terms.length≤8)) 6)))
 have e1:decide ((l.Terms.length:Int) > 0)=decide (0 < l.Terms.length):=gtN _ 0
 have e2:decide ((l.Terms.length:Int)≤8)=decide (l.Terms.length≤8):=decide_eq_decide.2 (by omega)
 simp only [A97,Ai8,Acv,Am2,Ai8,Acv,aN,aB,Acm L l.Name bf hl.1 hb hL,Hu,Hv,Az2,Option.bind_some,e1,e2,A81 L s l L hl.2.1.1 (Nat.lt_of_le_of_lt hl.2.1.1 hL),hj,Hb,Bp9,Anf]
theorem kd0(L:Nat)(s:Aa)(i:Nat)(hi:i < s.Vars.length):Dt L s 0 (i:Int)=some (U3 (s.Vars.getD i default)):=by
 simp only [Lu,Dt,aN,aB,beq_self_eq_true,cond_true,nn,Ip hi,if_true,toN,Ap0,Alm,Hu,Hv,Option.bind_some,Atq]
theorem kd1(L:Nat)(s:Aa)(i:Nat)(hi:i < s.Resources.length)(h:SG s)(hL:maxLen < L):Dt L s 1 (i:Int)=some (Bih s (s.Resources.getD i default)):=by
 have hm:s.Resources.getD i default∈s.Resources:=by rw [Gs _ i hi];exact List.getElem_mem hi
 have e:=A3b L s (s.Resources.getD i default) (h.res _ hm).2.2.1.1 h.ln.2.2.2.2.2.1 (h.bkD _ hm) hL
 simp only [Lu,Dt,aN,aB,nn,Ip hi,if_true,toN]
 show (Option.bind (W0 L s (s.Resources.getD i default)) fun r6=>some r6)=_
 rw [e];rfl
theorem kd2(L:Nat)(s:Aa)(i:Nat)(hi:i < s.Stores.length):Dt L s 2 (i:Int)=some (Awf (s.Stores.getD i default)):=by
 have e:∀p:Int,(decide (p≥1) && decide (p≤3))=Br 1 3 p:=fun _=>rfl
 simp only [Lu,Dt,aN,aB,nn,Ip hi,if_true,toN,Lo,Hu,Hv,Option.bind_some,D3,e,Bbv]
 rfl
theorem kd3(L:Nat)(s:Aa)(i:Nat)(hi:i < s.Belts.length):Dt L s 3 (i:Int)=some (A5p (s.Belts.getD i default)):=by
 simp only [Lu,Dt,aN,aB,nn,Ip hi,if_true,toN,Lo,Hu,Hv,Option.bind_some,Bfg,D5]
 cases Br 1 1000 (s.Belts.getD i default).Length<;>cases Br 1 1000 (s.Belts.getD i default).Step<;>rfl
theorem kd9(L:Nat)(s:Aa)(i:Nat)(hi:i < s.Routines.length)(h:SG s)(hL:Uf≤L):Dt L s 9 (i:Int)=some (Ayd (s.Routines.getD i default)):=by
 have hm:s.Routines.getD i default∈s.Routines:=by rw [Gs _ i hi];exact List.getElem_mem hi
 simp only [Lu,Dt,aN,aB,nn,Ip hi,if_true,toN,A67 L _ (h.routs _ hm) (h.bkR _ hm) hL,Option.bind_some]
 rfl
theorem kdN(L:Nat)(s:Aa)(κ :Int)(i:Int)(h: κ =4∨κ =5∨κ =6∨κ =7∨κ =8):Dt L s κ i=some 0:=by
 rcases h with rfl|rfl|rfl|rfl|rfl<;>(simp only [Lu,Dt,aN,aB];rfl)
theorem Bte{α :Type} [Inhabited α](nm: α→ByteArray)(xs:List α)(i:Nat)(hi:i < xs.length):(xs.map nm).getD i default=nm (xs.getD i default):=by
 rw [Gs _ i (by simpa using hi),Gs _ i hi,List.getElem_map]
theorem Beq{α :Type} [Inhabited α](nm: α→ByteArray)(g: α→Int)(xs:List α)(L:Nat)(s:Aa)(r1:List (List ByteArray))(κ :Nat)(hκ : κ < r1.length)(hr:r1.getD κ default=xs.map nm)
  (hd:∀i,i < xs.length→Dt L s (κ :Int) (i:Int)=some (g (xs.getD i default))) (ho:∀x∈xs,okS (nm x)) (hL:maxLen < L) (hx:xs.length≤1048576):
  ∀(n i:Nat) (v:Int) (ks:List ByteArray),ks.length+xs.length≤1099511627776+i→i≤xs.length→xs.length - i < n→
  ∃j ks',Ob L r1 (κ :Int) s n v ks (i:Int)=some (if (F6 nm g ks (xs.drop i)).1=0 then (1,(v,ks',j)) else (0,((F6 nm g ks (xs.drop i)).1,ks',j)))∧((F6 nm g ks (xs.drop i)).1=0→ks'=(F6 nm g ks (xs.drop i)).2):=by
 intro n
 have hM:=Bd
 induction n with
 |zero=>intro i v ks _ _ h;omega
 |succ n ih=>
  intro i v ks hk hi hn
  have hlen:((r1.getD κ default).length:Int)=(xs.length:Int):=by rw [hr,List.length_map]
  have hlen':(r1.getD κ default).length=xs.length:=by rw [hr,List.length_map]
  by_cases hlt:i < xs.length
  ·have hg:(r1.getD κ default).getD i default=nm (xs.getD i default):=by rw [hr,Bte nm xs i hlt]
   have hm:xs.getD i default∈xs:=by rw [Gs _ i hlt];exact List.getElem_mem hlt
   have hnd:=Acm L (nm (xs.getD i default)) ks (ho _ hm) (by omega) hL
   simp only [Ob,Aga,aN,aB,nn,Ip hκ,if_true,toN,hlen,hlen',Dv hlt,Ip hlt,decide_true,cond_true,hg,hnd,hd i hlt,Hv,Option.bind_some]
   rw [Af1 xs i hlt]
   by_cases h0:fE (Wv ks (nm (xs.getD i default))) (g (xs.getD i default))=0
   ·have e:F6 nm g ks (xs.getD i default::xs.drop (i+1))=F6 nm g (ks++ [nm (xs.getD i default)]) (xs.drop (i+1)):=by rw [F6,if_neg (fun hh=>hh h0)]
    obtain ⟨j,ks',hj,he⟩:=ih (i+1) v (ks++ [nm (xs.getD i default)]) (by simp only [List.length_append,List.length_singleton];omega) hlt (by omega)
    rw [e]
    refine ⟨j,ks',?_,he⟩
    simp only [h0,bne_self_eq_false,cond_false,List.length_singleton]
    rw [if_pos (by omega),if_pos (by omega),A9 hlt (by omega),hj]
   ·have e:F6 nm g ks (xs.getD i default::xs.drop (i+1))=(fE (Wv ks (nm (xs.getD i default))) (g (xs.getD i default)),ks):=by rw [F6,if_pos h0]
    rw [e]
    exact ⟨i,ks,by simp only [Uy h0,cond_true,if_neg h0],fun hh=>absurd hh h0⟩
  ·have e:xs.drop i= []:=List.drop_eq_nil_of_le (by omega)
   rw [e,F6]
   refine ⟨i,ks,?_,fun _=>rfl⟩
   simp only [Ob,Aga,aN,aB,nn,Ip hκ,if_true,toN,hlen,D1 (show xs.length≤i by omega),cond_false]
def Gr(e v:Int)(X:Option (Nat×(Int×List ByteArray×Int))):Prop:=∃a b,X=some (if e=0 then (1,(v,a,b)) else (0,(e,a,b)))
theorem Vx{α :Type} [Inhabited α](nm: α→ByteArray)(g: α→Int)(xs:List α)(most:Nat)(L:Nat)(s:Aa)(r1:List (List ByteArray))(κ :Nat)(hκ : κ < r1.length)(hr:r1.getD κ default=xs.map nm)
  (hmost:(κ =9∧most=16)∨(κ≠9∧most=32))
  (hd:∀i,i < xs.length→Dt L s (κ :Int) (i:Int)=some (g (xs.getD i default))) (ho:∀x∈xs,okS (nm x)) (hL:maxLen < L) (hx:xs.length≤1048576)
  (f:List ByteArray→Int×List ByteArray) (k:List (List ByteArray)) (v:Int) (ks:List ByteArray) (c:Nat) (hc:ks.length≤c) (hcc:c≤1000)
  (h:∀ks',ks'.length≤c+32→Gr (f ks').1 v (Jg L r1 s k (κ +1) v ks')):Gr (Od (Lg most nm g ks xs) f).1 v (Jg L r1 s (xs.map nm::k) κ v ks):=by
 have hM:=Bd
 have e32:decide ((xs.length:Int) > 32)=decide (32 < xs.length):=gtN _ 32
 have e16:decide ((xs.length:Int) > 16)=decide (16 < xs.length):=gtN _ 16
 rw [Jg]
 simp only [List.length_map,e32,e16,nn,if_true,Ip hκ]
 have hb:(bif decide (32 < xs.length) then some true else bif ((κ :Int) == 9) then some (decide (16 < xs.length)) else some false)=some (decide (most < xs.length)):=by
  rcases hmost with ⟨rfl,rfl⟩|⟨h9,rfl⟩
  ·by_cases h1:32 < xs.length
   ·rw [decide_eq_true h1,decide_eq_true (show 16 < xs.length by omega)];rfl
   ·rw [decide_eq_false h1];rfl
  ·rw [beq_false_of_ne (show¬(κ :Int)=9 by omega)]
   cases decide (32 < xs.length)<;>rfl
 rw [hb,Option.bind_some]
 unfold Lg
 by_cases hm:most < xs.length
 ·rw [decide_eq_true hm,if_pos hm]
  exact ⟨ks,κ,rfl⟩
 ·rw [decide_eq_false hm,if_neg hm,cond_false]
  obtain ⟨j,ks',hj,he⟩:=Beq nm g xs L s r1 κ hκ hr hd ho hL hx L 0 v ks (by omega) (by omega) (by omega)
  rw [List.drop_zero] at hj he
  have hj:Ob L r1 (κ :Int) s L v ks 0=_:=hj
  rw [hj,Option.bind_some]
  unfold Od
  by_cases h0:(F6 nm g ks xs).1=0
  ·rw [if_neg (by simp [h0]),if_pos h0,Qo,←he h0]
   refine h ks' ?_
   have:=(A57 nm g xs ks h0).1
   rw [he h0,this,List.length_append,List.length_map]
   rcases hmost with ⟨_,rfl⟩|⟨_,rfl⟩<;>omega
  ·rw [if_pos h0,if_neg h0,Hb]
   exact ⟨ks',κ,by rw [if_neg h0]⟩
theorem By5(p:Int×List ByteArray):p.1=(Od p fun b=>(0,b)).1:=by
 unfold Od
 by_cases h:p.1=0
 ·rw [if_neg (by simp [h]),h]
 ·rw [if_pos h]
theorem Az4(L:Nat)(s:Aa)(h:SG s)(hL:Uf≤L):Gr (Apm s).1 0 (Jg L (Jc s) s (Jc s) 0 0 []):=by
 have hl:=Rm hL
 obtain ⟨l0,l1,l2,l3,l4,l5,l6,l7,l8,l9⟩:=(A6i s).mono h.bk
 rw [By5,Apm]
 simp only [A8g]
 have e4:∀l:List ByteArray,l.map (fun x=>x)=l:=fun l=>List.map_id' l
 have lt10:∀ {n:Nat},n < 10→n < (Jc s).length:=fun h=>h
 have e5:∀k,k=Jc s→k= [s.Vars.map fun x=>x.Name,s.Resources.map fun x=>x.Name,s.Stores.map fun x=>x.Name,s.Belts.map fun x=>x.Name,s.Queues.map fun x=>x,s.Streams.map fun x=>x,s.Tallies.map fun x=>x,s.Levels.map fun x=>x,s.Counts.map fun x=>x,s.Routines.map fun x=>x.Name]:=by
  intro k hk
  rw [hk,e4,e4,e4,e4,e4]
  rfl
 suffices H:∀k,k=Jc s→Gr (Od (Lg 32 (fun x:Al=>x.Name) U3 [] s.Vars) fun b=>Od (Lg 32 (fun x:Af=>x.Name) (Bih s) b s.Resources) fun b=>Od (Lg 32 (fun x:Aq=>x.Name) Awf b s.Stores) fun b=>Od (Lg 32 (fun x:Au=>x.Name) A5p b s.Belts) fun b=>Od (txE b s.Queues) fun b=>Od (txE b s.Streams) fun b=>Od (txE b s.Tallies) fun b=>Od (txE b s.Levels) fun b=>Od (txE b s.Counts) fun b=>Od (Lg 16 (fun x:Ak=>x.Name) Ayd b s.Routines) fun b=>(0,b)).1 0 (Jg L (Jc s) s k 0 0 []) from H _ rfl
 intro k hk
 rw [e5 k hk]
 refine Vx _ _ s.Vars 32 L s (Jc s) 0 (lt10 (by decide)) rfl (.inr ⟨by decide,rfl⟩) (fun i hi=>kd0 L s i hi) (fun x hx=>(h.vars x hx).1) hl l0 _ _ 0 [] 0 (Nat.le_refl _) (by decide) fun ks1 k1=> ?_
 refine Vx _ _ s.Resources 32 L s (Jc s) 1 (lt10 (by decide)) rfl (.inr ⟨by decide,rfl⟩) (fun i hi=>kd1 L s i hi h hl) (fun x hx=>(h.res x hx).1) hl l1 _ _ 0 ks1 _ k1 (by decide) fun ks2 k2=> ?_
 refine Vx _ _ s.Stores 32 L s (Jc s) 2 (lt10 (by decide)) rfl (.inr ⟨by decide,rfl⟩) (fun i hi=>kd2 L s i hi) (fun x hx=>(h.stores x hx).1) hl l2 _ _ 0 ks2 _ k2 (by decide) fun ks3 k3=> ?_
 refine Vx _ _ s.Belts 32 L s (Jc s) 3 (lt10 (by decide)) rfl (.inr ⟨by decide,rfl⟩) (fun i hi=>kd3 L s i hi) (fun x hx=>(h.belts x hx).1) hl l3 _ _ 0 ks3 _ k3 (by decide) fun ks4 k4=> ?_
 refine Vx (fun x:ByteArray=>x) (fun _=>0) s.Queues 32 L s (Jc s) 4 (lt10 (by decide)) (show (Jc s).getD 4 default=List.map (fun x=>x) s.Queues from (e4 s.Queues).symm) (.inr ⟨by decide,rfl⟩) (fun i _=>kdN L s _ _ (.inl rfl)) h.queues hl l4 _ _ 0 ks4 _ k4 (by decide) fun ks5 k5=> ?_
 refine Vx (fun x:ByteArray=>x) (fun _=>0) s.Streams 32 L s (Jc s) 5 (lt10 (by decide)) (show (Jc s).getD 5 default=List.map (fun x=>x) s.Streams from (e4 s.Streams).symm) (.inr ⟨by decide,rfl⟩) (fun i _=>kdN L s _ _ (.inr (.inl rfl))) h.streams hl l5 _ _ 0 ks5 _ k5 (by decide) fun ks6 k6=> ?_
 refine Vx (fun x:ByteArray=>x) (fun _=>0) s.Tallies 32 L s (Jc s) 6 (lt10 (by decide)) (show (Jc s).getD 6 default=List.map (fun x=>x) s.Tallies from (e4 s.Tallies).symm) (.inr ⟨by decide,rfl⟩) (fun i _=>kdN L s _ _ (.inr (.inr (.inl rfl)))) h.tallies hl l6 _ _ 0 ks6 _ k6 (by decide) fun ks7 k7=> ?_
 refine Vx (fun x:ByteArray=>x) (fun _=>0) s.Levels 32 L s (Jc s) 7 (lt10 (by decide)) (show (Jc s).getD 7 default=List.map (fun x=>x) s.Levels from (e4 s.Levels).symm) (.inr ⟨by decide,rfl⟩) (fun i _=>kdN L s _ _ (.inr (.inr (.inr (.inl rfl))))) h.levels hl l7 _ _ 0 ks7 _ k7 (by decide) fun ks8 k8=> ?_
 refine Vx (fun x:ByteArray=>x) (fun _=>0) s.Counts 32 L s (Jc s) 8 (lt10 (by decide)) (show (Jc s).getD 8 default=List.map (fun x=>x) s.Counts from (e4 s.Counts).symm) (.inr ⟨by decide,rfl⟩) (fun i _=>kdN L s _ _ (.inr (.inr (.inr (.inr rfl))))) h.counts hl l8 _ _ 0 ks8 _ k8 (by decide) fun ks9 k9=> ?_
 refine Vx _ _ s.Routines 16 L s (Jc s) 9 (lt10 (by decide)) rfl (.inl ⟨rfl,rfl⟩) (fun i hi=>kd9 L s i hi h hL) (fun x hx=>(h.routs x hx).1) hl l9 _ _ 0 ks9 _ k9 (by decide) fun ks10 k10=> ?_
 exact ⟨ks10,10,rfl⟩
theorem Bhx(L:Nat)(s:Aa)(h:SG s)(hL:Uf≤L):Aji L s=some (Ahi Ac6 s):=by
 have hl:=Rm hL
 have hM:=Bd
 obtain ⟨a,b,e1⟩:=Az4 L s h hL
 have e2:decide ((s.Starts.length:Int) > 32)=decide (32 < s.Starts.length):=gtN _ 32
 have e3:decide ((s.Laws.length:Int) > 32)=decide (32 < s.Laws.length):=gtN _ 32
 have h1:(Jc s).length=10:=rfl
 simp only [A5h,Ago,Agg,Agp,Agh,Agq,p9,Aji,Ago,Agg,Agp,Agh,Agq,p9,aN,aB,Apz L s h.len hl,Option.bind_some,A6v L (Jc s) s L (by rw [h1];decide) (by rw [h1];omega),e1,e2,e3,Bip]
 by_cases h0:(Apm s).1=0
 ·rw [if_pos h0,Qo,h0,Rp]
  unfold Ayh Lg
  by_cases h2:32 < s.Starts.length
  ·rw [decide_eq_true h2,if_pos h2,Mf (show (6:Int)≠0 by decide)];rfl
  ·rw [decide_eq_false h2,if_neg h2,cond_false]
   obtain ⟨j,hj⟩:=B7b (lq:=Vw L s) (bd:=Aan L s) (f:=A0p s) (fun _ _=>rfl) (fun _ _ _ _=>rfl) s.Starts 0 0 fun x hx=>Bd3 L s x h.len (h.starts.2 x hx).2.1.1 hl
   rw [A6w L s L h.starts.1 (Nat.lt_of_le_of_lt h.starts.1 hl),hj,Option.bind_some]
   by_cases h3:Air (A0p s) s.Starts=0
   ·rw [if_pos h3,Qo,h3,Rp]
    by_cases h4:32 < s.Laws.length
    ·rw [decide_eq_true h4,if_pos h4];rfl
    ·rw [decide_eq_false h4,if_neg h4,cond_false]
     obtain ⟨j,ks',hj,_⟩:=B7f (nm:=fun l:Ba=>l.Name) (f:=A2m (Ac6 s)) (lq:=Sw L s) (fun _ _ _=>rfl) s.Laws 0 0 [] (by simp;omega) (by
      intro x hx k i v ks hk
      rw [Sw,Bke L s x ks (h.laws.2 x hx) h.len (by omega) hl,Option.bind_some])
     rw [A6x L s L h.laws.1 (Nat.lt_of_le_of_lt h.laws.1 hl),hj,Option.bind_some]
     by_cases hz:(F6 (fun l:Ba=>l.Name) (A2m (Ac6 s)) [] s.Laws).1=0
     ·rw [if_pos hz,Qo,hz]
     ·rw [if_neg hz,Hb]
   ·rw [if_neg h3,Hb,Mf h3]
 ·rw [if_neg h0,Hb,Mf h0]
theorem A9w(L:Nat)(m:Ad)(i:Nat)(hi:i < m.Links.length)(hl:m.Links.length≤maxLen):∀(n c:Nat) (v:Int),c≤i→i - c < n→
  ∃j,Lx L (i:Int) m n v (c:Int)=some (if Bty ((m.Links.take i).drop c) (m.Links.getD i default)=true then (0,(4,j)) else (1,(v,j))):=by
 intro n
 have hM:=Bd
 induction n with
 |zero=>intro c v _ h;omega
 |succ n ih=>
  intro c v hc hn
  by_cases hlt:c < i
  ·have hcl:c < m.Links.length:=by omega
   obtain ⟨j,hj⟩:=ih (c+1) v hlt (by omega)
   have e:(m.Links.take i).drop c=m.Links.getD c default::(m.Links.take i).drop (c+1):=by
    have h1:c < (m.Links.take i).length:=by rw [List.length_take];omega
    rw [List.drop_eq_getElem_cons h1,List.getElem_take,Gs _ c hcl]
   rw [e]
   unfold Bty at hj ⊢
   simp only [Lx,Ab6,aN,aB,nn,Dv hlt,Ip hcl,if_true,toN,cond_true,Ea,A9 hcl hl,hj,List.any_cons]
   by_cases h1:(m.Links.getD c default).From=(m.Links.getD i default).From
   ·by_cases h2:(m.Links.getD c default).To=(m.Links.getD i default).To
    ·exact ⟨c,by simp only [decide_eq_true h1,decide_eq_true h2,cond_true,cond_false,Bool.true_and,Bool.false_and,Bool.and_self,Bool.false_or,Bool.true_or,if_true]⟩
    ·exact ⟨j,by simp only [decide_eq_true h1,decide_eq_false h2,cond_true,cond_false,Bool.true_and,Bool.false_and,Bool.and_self,Bool.false_or,Bool.true_or,if_true]⟩
   ·exact ⟨j,by simp only [decide_eq_false h1,cond_true,cond_false,Bool.true_and,Bool.false_and,Bool.and_self,Bool.false_or,Bool.true_or,if_true]⟩
  ·have e:(m.Links.take i).drop c= []:=List.drop_eq_nil_of_le (by rw [List.length_take];omega)
   rw [e]
   exact ⟨c,by simp only [Lx,Ab6,aN,aB,D1 (show i≤c by omega),cond_false];rfl⟩
theorem A9v(L:Nat)(m:Ad)(hm:m.Sites.length≤maxLen)(hl:m.Links.length≤maxLen)(hL:maxLen < L):∀(k:List Bl) (i:Nat) (v:Int),m.Links.drop i=k→
  ∃j,L8 L m k i v=some (if Ah3 m (m.Links.take i) k=0 then (1,(v,j)) else (0,(Ah3 m (m.Links.take i) k,j))):=by
 have hM:=Bd
 intro k
 induction k with
 |nil=>intro i v _;exact ⟨i,rfl⟩
 |cons x k ih=>
  intro i v h
  obtain ⟨hi,hx,hk⟩:=Og h
  obtain ⟨j,hj⟩:=ih (i+1) v hk
  obtain ⟨c,hc⟩:=A9w L m i hi hl L 0 v (by omega) (by omega)
  rw [List.drop_zero,hx] at hc
  have hc:Lx L (i:Int) m L v 0=_:=hc
  have e:m.Links.take i++ [x]=m.Links.take (i+1):=by rw [List.take_add_one,List.getElem?_eq_getElem hi];congr 1;rw [←hx,Gs _ i hi];rfl
  rw [L8,Ah3,e]
  simp only [A1u L m _ hm hL,Lo,Option.bind_some,Biq,Ea,D5,Kn,hc,Bhg]
  rcases Bool.eq_false_or_eq_true (m.Sites.any fun d=>decide (d.Name=x.From)) with a1|a1
  ·rcases Bool.eq_false_or_eq_true (m.Sites.any fun d=>decide (d.Name=x.To)) with a2|a2
   ·by_cases a3:x.From=x.To
    ·exact ⟨i,by simp [a1,a2,a3,fE]⟩
    ·rcases Bool.eq_false_or_eq_true (Br 1 1000000000 x.Delay) with a4|a4
     ·rcases Bool.eq_false_or_eq_true (Bty (m.Links.take i) x) with a5|a5
      ·exact ⟨i,by simp [a1,a2,a3,a4,a5,fE,unl,Hb]⟩
      ·refine ⟨j,?_⟩
       simp only [a1,a2,a3,a4,a5,unl,decide_false,cond_false,Bool.not_true,Bool.or_self,if_false,Bool.and_self,Bool.true_eq_false,Bool.not_false,cond_true,Rp,Bool.false_eq_true,Option.bind_some,Qo]
       exact hj
     ·exact ⟨i,by simp [a1,a2,a3,a4,fE]⟩
   ·exact ⟨i,by simp [a1,a2,fE]⟩
  ·exact ⟨i,by simp [a1,fE]⟩
theorem Bd2(L:Nat)(m:Ad)(hm:m.Sites.length≤maxLen)(hl:m.Links.length≤maxLen)(hL:maxLen < L):Ak0 L m=some (A6k m):=by
 have e32:decide ((m.Links.length:Int) > 32)=decide (32 < m.Links.length):=gtN _ 32
 obtain ⟨j,hj⟩:=A9v L m hm hl hL m.Links 0 0 rfl
 have hj:L8 L m m.Links 0 0=some (if Ah3 m [] m.Links=0 then (1,(0,j)) else (0,(Ah3 m [] m.Links,j))):=hj
 simp only [A07,Adl,Xw,Ak0,Adl,Xw,aN,aB,e32,A21 L m L hl (Nat.lt_of_le_of_lt hl hL),hj,Option.bind_some,A6k]
 by_cases h:32 < m.Links.length
 ·rw [decide_eq_true h,if_pos h];rfl
 ·rw [decide_eq_false h,if_neg h,cond_false]
  by_cases h0:Ah3 m [] m.Links=0
  ·rw [if_pos h0,Qo,h0]
  ·rw [if_neg h0,Hb]
theorem Bvf{α :Type}{nm: α→ByteArray}{f: α→Int}{lq:List α→Nat→Int→Int→List ByteArray→Option (Nat×(Int×Int×List ByteArray×Int))}
  (hn:∀i v e ks,lq [] i v e ks=some (1,(v,e,ks,(i:Int)))):∀(k:List α) (i:Nat) (v e:Int) (ks:List ByteArray),ks.length+k.length≤1099511627776→
  (∀x∈k,∀(k:List α) (i:Nat) (v e:Int) (ks:List ByteArray),ks.length≤1099511627776→lq (x::k) i v e ks=bif fE (Wv ks (nm x)) (f x) != 0 then some (0,(fE (Wv ks (nm x)) (f x),fE (Wv ks (nm x)) (f x),ks,(i:Int))) else if (ks.length+ [nm x].length)*16≤140737488355328 then (if ks.length+ [nm x].length≤maxLen then lq k (i+1) v (fE (Wv ks (nm x)) (f x)) (ks++ [nm x]) else none) else none)→
  ∃j e' ks',lq k i v e ks=some (if (F6 nm f ks k).1=0 then (1,(v,e',ks',j)) else (0,((F6 nm f ks k).1,e',ks',j))):=by
 intro k
 induction k with
 |nil=>intro i v e ks _ _;exact ⟨i,e,ks,by rw [hn,F6];rfl⟩
 |cons x k ih=>
  intro i v e ks hl h
  rw [List.length_cons] at hl
  rw [h x (by simp) k i v e ks (by omega)]
  by_cases h0:fE (Wv ks (nm x)) (f x)=0
  ·have e1:F6 nm f ks (x::k)=F6 nm f (ks++ [nm x]) k:=by rw [F6,if_neg (fun hh=>hh h0)]
   obtain ⟨j,e',ks',hj⟩:=ih (i+1) v 0 (ks++ [nm x]) (by simp only [List.length_append,List.length_singleton];omega) fun y hy=>h y (by simp [hy])
   rw [e1,h0]
   refine ⟨j,e',ks',?_⟩
   have hM:=Bd
   simp only [bne_self_eq_false,cond_false,List.length_singleton]
   rw [if_pos (by omega),if_pos (by omega),hj]
  ·have e1:F6 nm f ks (x::k)=(fE (Wv ks (nm x)) (f x),ks):=by rw [F6,if_pos h0]
   rw [e1]
   exact ⟨i,_,ks,by simp only [Uy h0,cond_true,if_neg h0];rfl⟩
theorem By8(n:Nat)(c:Nat)(e:Int):unl (decide ((n:Int)≤(c:Int))) e=if c < n then e else 0:=by
 by_cases h:c < n
 ·rw [if_pos h,decide_eq_false (by omega)];rfl
 ·rw [if_neg h,decide_eq_true (by omega)];rfl
theorem Bd1(L:Nat)(m:Ad)(h:MG m)(hL:Uf≤L):Akz L m=some (Acj Ac6 m):=by
 have hl:=Rm hL
 have hM:=Bd
 have hp:=h.ok.2.1
 have u1:unl (decide ((m.Params.length:Int)≤32)) 6=if 32 < m.Params.length then 6 else 0:=By8 _ 32 6
 have u2:unl (decide ((m.Sites.length:Int)≤16)) 6=if 16 < m.Sites.length then 6 else 0:=By8 _ 16 6
 have u3:decide ((m.Sites.length:Int) > 0)=decide (0 < m.Sites.length):=gtN _ 0
 simp only [A05,Ade,Acp,Adf,Xt,Akz,Ade,Acp,Adf,Xt,aN,aB,Acl L m.Name h.ok.1 (Nat.lt_of_le_of_lt h.ok.1 hl) (by omega),Hu,Hv,u1,u2,u3,Bd2 L m h.sites h.links hl,Option.bind_some]
 unfold Acj
 by_cases h0:Rw m.Name=0
 ·rw [h0,Rp,Rp]
  unfold Lg
  by_cases h1:32 < m.Params.length
  ·rw [if_pos h1,if_pos h1,Mf (show (6:Int)≠0 by decide)];rfl
  ·rw [if_neg h1,if_neg h1]
   obtain ⟨j,e',ks',hj⟩:=Bvf (nm:=fun x:Al=>x.Name) (f:=U3) (lq:=P5 L m) (fun _ _ _ _=>rfl) m.Params 0 0 0 [] (by simp;omega) (by
    intro x hx k i v e ks hk
    rw [P5,Bd4 L x ks (hp.2 x hx) (by omega) hl,Option.bind_some])
   simp only [bne_self_eq_false,cond_false]
   rw [A2u L m L hp.1 (Nat.lt_of_le_of_lt hp.1 hl),hj,Option.bind_some]
   by_cases h2:(F6 (fun x:Al=>x.Name) U3 [] m.Params).1=0
   ·rw [if_pos h2,Qo,h2,Rp]
    by_cases h3:m.Sites.length=0
    ·rw [decide_eq_false (show¬0 < m.Sites.length by omega)];rfl
    ·rw [decide_eq_true (show 0 < m.Sites.length by omega)]
     simp only [unl,cond_true,Rp]
     by_cases h4:16 < m.Sites.length
     ·rw [if_pos h4,if_pos h4,Mf (show (6:Int)≠0 by decide)];rfl
     ·rw [if_neg h4,if_neg h4]
      obtain ⟨j2,e2',ks2',hj2⟩:=Bvf (nm:=fun x:Aa=>x.Name) (f:=Ahi Ac6) (lq:=P6 L m) (fun _ _ _ _=>rfl) m.Sites 0 0 0 [] (by simp;omega) (by
       intro x hx k i v e ks hk
       have hn:okS x.Name:=by have:=(h.site x hx).ok;unfold Ck at this;exact this.1
       rw [P6,Acm L x.Name ks hn (by omega) hl,Option.bind_some,Bhx L x (h.site x hx) hL,Option.bind_some,Hv,Option.bind_some])
      simp only [bne_self_eq_false,cond_false]
      rw [A2v L m L h.sites (Nat.lt_of_le_of_lt h.sites hl),hj2,Option.bind_some]
      by_cases h5:(F6 (fun x:Aa=>x.Name) (Ahi Ac6) [] m.Sites).1=0
      ·rw [if_pos h5,Qo,h5,Rp]
      ·rw [if_neg h5,Hb,Mf h5]
   ·rw [if_neg h2,Hb,Mf h2]
 ·rw [Mf h0,Mf h0]
  simp only [Uy h0,cond_true]
theorem Bf4{α :Type}(nm: α→ByteArray)(f: α→Int):∀(l:List α) (b:List ByteArray),(F6 nm f b l).1=0→∀x∈l,f x=0
 | [],_=>fun _ x hx=>by cases hx
 |y::k,b=>by
  intro h x hx
  rw [F6] at h
  by_cases hz:fE (Wv b (nm y)) (f y)=0
  ·rw [if_neg (by simp [hz])] at h
   rcases List.mem_cons.1 hx with rfl|hx
   ·exact (Bgb.1 hz).2
   ·exact Bf4 nm f k _ h x hx
  ·rw [if_pos (by simpa using hz)] at h
   exact absurd h hz
structure PG (m:Ad):Prop where
 ok:∀p∈m.Params,N0 p.Type_=true∧Aau p.Type_ p.N=true
 nd:(m.Params.map fun x=>x.Name).Nodup
theorem Chb{tm:Aa→Av→Int}{m:Ad}(h:Acj tm m=0):PG m:=by
 unfold Acj at h
 have h2:=(Bgb.1 (Bgb.1 h).2).1
 obtain ⟨e1,e2⟩:=Aj1 32 (fun x:Al=>x.Name) U3 [] m.Params h2
 have h3:(F6 (fun x:Al=>x.Name) U3 [] m.Params).1=0:=by
  unfold Lg at h2
  by_cases hm:32 < m.Params.length
  ·rw [if_pos hm] at h2;exact absurd h2 (by show¬((6:Int)=0);decide)
  ·rw [if_neg hm] at h2;exact h2
 refine ⟨fun p hp=> ?_,?_⟩
 ·have h4:=Bf4 _ _ _ _ h3 p hp
  unfold U3 at h4
  obtain ⟨h5,h6⟩:=Bgb.1 h4
  exact ⟨(By9 (by decide)).1 h5,(By9 (by decide)).1 h6⟩
 ·have:=e2 List.nodup_nil
  rw [e1,List.nil_append] at this
  exact this
def Bm0(t n:Int):Bool:=if t=2 then (n == 0 || n == 1) else if t=3 then Br 0 1000000000 n else inZ n
theorem Bvl{t n:Int}(h:N0 t=true):Bm0 t n=Aau t n:=by
 unfold N0 Br at h
 rw [Bool.and_eq_true,decide_eq_true_iff,decide_eq_true_iff] at h
 unfold Bm0 Aau
 by_cases h1:t=1
 ·subst h1;rfl
 ·by_cases h2:t=2
  ·subst h2;rfl
  ·have h3:t=3:=by omega
   subst h3;rfl
def rtT(m:Ad)(i:Nat)(r:Ak):Int:=A8d m (i:Int) (r.Params++r.Locals) r.Body
def Akg(m:Ad):Nat→List Aa→Int
 |_,[]=>0
 |i,d::k=>fE (Air (rtT m i) d.Routines) (Akg m (i+1) k)
theorem Btv{m:Ad}(h:MG m)(i:Nat)(r:Ak)(hr:Ia r)(hb:C7 r≤1048576)(L:Nat)(hL:Uf≤L):Tc L m (i:Int) (r.Params++r.Locals) r.Body=some (rtT m i r):=by
 have hM:=Bd
 obtain ⟨b1,b2,b3⟩:=Akf hb
 exact A3f h.ok h.bk ⟨by rw [List.length_append];omega,fun y hy=>by
  rcases List.mem_append.1 hy with h|h
  ·exact hr.2.1.2 y h
  ·exact hr.2.2.1.2 y h⟩ (i:Int) (show∀y∈r.Body,B6 y from hr.2.2.2.2) L (Axc hL b3)
theorem Cgk{m:Ad}(h:MG m)(i:Nat)(r:Ak)(hr:Ia r)(hb:C7 r≤1048576)(L:Nat)(hL:Uf≤L):Agv L m (i:Int) (r.Params++r.Locals) r.Body=some (rtT m i r):=by
 have hM:=Bd
 obtain ⟨b1,b2,b3⟩:=Akf hb
 exact Bd6 h.ok h.bk ⟨by rw [List.length_append];omega,fun y hy=>by
  rcases List.mem_append.1 hy with h|h
  ·exact hr.2.1.2 y h
  ·exact hr.2.2.1.2 y h⟩ (i:Int) (show∀y∈r.Body,B6 y from hr.2.2.2.2) L (Axc hL b3)
theorem A0j{m:Ad}(h:MG m)(i:Nat)(L:Nat)(hL:Uf≤L):∀(k:List Ak) (c:Nat) (v:Int),(∀r∈k,Ia r∧C7 r≤1048576)→
  ∃j,Jx L (i:Int) m k c v=some (if Air (rtT m i) k=0 then (1,(v,j)) else (0,(Air (rtT m i) k,j))):=by
 intro k
 induction k with
 |nil=>intro c v _;exact ⟨c,rfl⟩
 |cons x k ih=>
  intro c v hk
  obtain ⟨hr,hb⟩:=hk x (by simp)
  obtain ⟨j,hj⟩:=ih (c+1) v fun r hr=>hk r (by simp [hr])
  obtain ⟨b1,b2,b3⟩:=Akf hb
  have hM:=Bd
  rw [Jx]
  repeat rw [ifp (by omega)]
  rw [Btv h i x hr hb L hL,Option.bind_some,Air]
  by_cases h0:rtT m i x=0
  ·exact ⟨j,by rw [h0,Rp];exact hj⟩
  ·exact ⟨c,by rw [Mf h0,Uy h0,cond_true,if_neg h0]⟩
theorem MG.routs{m:Ad}(h:MG m){d:Aa}(hd:d∈m.Sites):∀r∈d.Routines,Ia r∧C7 r≤1048576:=fun r hr=>⟨(h.site d hd).routs r hr,(h.site d hd).bkR r hr⟩
theorem A0i{m:Ad}(h:MG m)(L:Nat)(hL:Uf≤L):∀(k:List Aa) (i:Nat) (v:Int),m.Sites.drop i=k→
  ∃j w,Jw L m k i v=some (if Akg m i k=0 then (1,(w,j)) else (0,(Akg m i k,j))):=by
 have hl:=Rm hL
 intro k
 induction k with
 |nil=>intro i v _;exact ⟨i,v,rfl⟩
 |cons x k ih=>
  intro i v hk
  obtain ⟨hi,hx,hk'⟩:=Og hk
  have hm:x∈m.Sites:=by rw [←hx,Gs _ i hi];exact List.getElem_mem hi
  obtain ⟨c,hc⟩:=A0j h i L hL x.Routines 0 v (h.routs hm)
  have hlen:=(h.site x hm).ln.2.2.2.2.2.2.2.2.2
  rw [Jw,Avz L (i:Int) m L (by rw [toN,hx];exact hlen) (by rw [toN,hx];exact Nat.lt_of_le_of_lt hlen hl),toN,hx,hc,Option.bind_some,Akg]
  by_cases h0:Air (rtT m i) x.Routines=0
  ·obtain ⟨j,w,hj⟩:=ih (i+1) v hk'
   exact ⟨j,w,by rw [if_pos h0,Qo,h0,Rp];exact hj⟩
  ·exact ⟨i,v,by rw [if_neg h0,Hb,Mf h0,if_neg h0]⟩
theorem A3e{m:Ad}(h:MG m)(L:Nat)(hL:Uf≤L):Tb L m=some (fE (Acj Ud m) (Akg m 0 m.Sites)):=by
 obtain ⟨j,w,hj⟩:=A0i h L hL m.Sites 0 0 rfl
 simp only [Ars,Ws,R9,Tb,Ws,R9,aN,aB,A7a L m h hL,Option.bind_some,Avy L m L h.sites (Nat.lt_of_le_of_lt h.sites (Rm hL)),hj]
 by_cases h0:Acj Ud m=0
 ·simp only [h0,bne_self_eq_false,cond_false,Rp]
  by_cases h1:Akg m 0 m.Sites=0
  ·rw [if_pos h1,Qo,h1]
  ·rw [if_neg h1,Hb]
 ·simp only [Uy h0,cond_true,Mf h0]
theorem A9z{m:Ad}(h:MG m)(i:Nat)(hi:i < m.Sites.length)(L:Nat)(hL:Uf≤L):∀(n c:Nat) (v:Int),c≤(m.Sites.getD i default).Routines.length→(m.Sites.getD i default).Routines.length - c < n→
  ∃j,Lz L (i:Int) m n v (c:Int)=some (0,(fE v (Air (rtT m i) ((m.Sites.getD i default).Routines.drop c)),j)):=by
 have hM:=Bd
 have hm:m.Sites.getD i default∈m.Sites:=by rw [Gs _ i hi];exact List.getElem_mem hi
 have hlen:=(h.site _ hm).ln.2.2.2.2.2.2.2.2.2
 intro n
 induction n with
 |zero=>intro c v _ hn;omega
 |succ n ih=>
  intro c v hc hn
  by_cases hlt:c < (m.Sites.getD i default).Routines.length
  ·have hr:(m.Sites.getD i default).Routines.getD c default∈(m.Sites.getD i default).Routines:=by rw [Gs _ c hlt];exact List.getElem_mem hlt
   obtain ⟨o,b⟩:=h.routs hm _ hr
   obtain ⟨b1,b2,b3⟩:=Akf b
   have hloc:Aij L ((m.Sites.getD i default).Routines.getD c default)=some (((m.Sites.getD i default).Routines.getD c default).Params++((m.Sites.getD i default).Routines.getD c default).Locals):=by
    simp only [Ao6,Aij,aN,aB]
    repeat rw [ifp (by omega)]
   rw [Af1 _ c hlt,Air]
   simp only [Lz,Ab8,aN,aB,nn,Ip hi,if_true,toN,decide_true,cond_true,Ip hlt,hloc,Cgk h i _ o b L hL,Option.bind_some,A9 hlt hlen]
   by_cases h0:v=0
   ·obtain ⟨j,hj⟩:=ih (c+1) (rtT m i ((m.Sites.getD i default).Routines.getD c default)) hlt (by omega)
    exact ⟨j,by simp only [h0,beq_self_eq_true,cond_true,Rp];exact hj⟩
   ·obtain ⟨j,hj⟩:=ih (c+1) v hlt (by omega)
    rw [Mf h0] at hj
    exact ⟨j,by simp only [beq_false_of_ne h0,cond_false,Mf h0];exact hj⟩
  ·rw [List.drop_eq_nil_of_le (by omega),Air,Cba]
   exact ⟨c,by simp only [Lz,Ab8,aN,aB,nn,Ip hi,if_true,toN,D1 (show (m.Sites.getD i default).Routines.length≤c by omega),cond_false]⟩
theorem A9y{m:Ad}(h:MG m)(L:Nat)(hL:Uf≤L):∀(k:List Aa) (i:Nat) (v:Int),m.Sites.drop i=k→∃j,Ma L m k i v=some (0,(fE v (Akg m i k),j)):=by
 have hl:=Rm hL
 intro k
 induction k with
 |nil=>intro i v _;exact ⟨i,by rw [Ma,Akg,Cba]⟩
 |cons x k ih=>
  intro i v hk
  obtain ⟨hi,hx,hk'⟩:=Og hk
  have hm:x∈m.Sites:=by rw [←hx,Gs _ i hi];exact List.getElem_mem hi
  have hlen:=(h.site x hm).ln.2.2.2.2.2.2.2.2.2
  obtain ⟨c,hc⟩:=A9z h i hi L hL L 0 v (Nat.zero_le _) (by rw [hx];omega)
  rw [hx,List.drop_zero] at hc
  have hc:Lz L (i:Int) m L v 0=_:=hc
  obtain ⟨j,hj⟩:=ih (i+1) (fE v (Air (rtT m i) x.Routines)) hk'
  exact ⟨j,by rw [Ma,hc,Option.bind_some,Hb,hj,Anf,Akg]⟩
theorem Bd5{m:Ad}(h:MG m)(L:Nat)(hL:Uf≤L):Aap L m=some (fE (Acj Ac6 m) (Akg m 0 m.Sites)):=by
 obtain ⟨j,hj⟩:=A9y h L hL m.Sites 0 (Acj Ac6 m) rfl
 simp only [A1a,Ado,X0,Aap,Ado,X0,aN,aB,Bd1 L m h hL,Option.bind_some,A23 L m L h.sites (Nat.lt_of_le_of_lt h.sites (Rm hL)),hj,Hb]
def tmE(m:Ad):Int:=fE (Acj Ud m) (Akg m 0 m.Sites)
theorem Cc7{m:Ad}(h:MG m)(L:Nat)(hL:Uf≤L):Tb L m=some (tmE m):=A3e h L hL
theorem Cc8{m:Ad}(h:MG m)(L:Nat)(hL:Uf≤L):Aap L m=some (tmE m):=by rw [Bd5 h L hL,←Bxv];rfl
end Go.Proofs.YtfencmicmnhglaaGreat.Ev
