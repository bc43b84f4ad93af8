/-  Chapter 11, plainly: Check of the reference: its parts. -/
import Derived.Test.YtogleahbpobaiaaGreatQA
import Derived.Test.YtogleahbpobaiaaGreatCF
import Derived.Test.YtogleahbpobaiaaGreatPO
namespace Go.Proofs.YtogleahbpobaiaaGreat.Ev
open Go An
set_option maxRecDepth 100000
set_option linter.unusedVariables false
set_option linter.unusedSimpArgs false
set_option linter.unnecessarySimpa false
theorem Alp(a b c:Int):fE (fE a b) c=fE a (fE b c):=by
 by_cases h:a=0
 ·subst h;rfl
 ·rw [O4 h,O4 h,O4 h]
theorem B4k(a:Int):fE a 0=a:=by
 by_cases h:a=0
 ·subst h;rfl
 ·rw [O4 h]
theorem Gv(L:Nat)(a b:Int):C3 L a b=some (fE a b):=by
 simp only [Apr,C3,aN,aB]
 by_cases h:a=0
 ·simp [h,Td]
 ·simp [Um h,O4 h]
theorem Gt(L:Nat)(c:Bool)(e:Int):Ck L c e=some (n5 c e):=by
 simp only [Am8,Ck,aN,aB,n5]
 cases c<;>rfl
theorem Kz(L:Nat)(x lo hi:Int):Dr L x lo hi=some (Bp lo hi x):=by
 simp only [Am9,Dr,aN,aB,Di,ge_iff_le,Bp]
theorem An8(L:Nat)(t:Int):Ve L t=some (Wg t):=by
 simp only [Apq,Ve,aN,aB,Kq,Wg,Bp]
 congr 1
 by_cases h1:t=1
 ·subst h1;rfl
 ·by_cases h2:t=2
  ·subst h2;rfl
  ·by_cases h3:t=3
   ·subst h3;rfl
   ·rw [beq_false_of_ne h1,beq_false_of_ne h2,beq_false_of_ne h3]
    by_cases h4:1≤t
    ·rw [decide_eq_true h4,decide_eq_false (show¬t≤3 by omega)];rfl
    ·rw [decide_eq_false h4];rfl
theorem Aq1(L:Nat)(t n:Int):Z6 L t n=some (Ajv t n):=by
 simp only [As6,Z6,aN,aB,Axz,Kz,Option.bind_some,Kq,Ajv]
 by_cases h1:t=1
 ·simp [h1]
 ·by_cases h2:t=2
  ·simp [h2]
  ·by_cases h3:t=3
   ·simp [h3]
   ·simp [h1,h2,h3,beq_false_of_ne h1,beq_false_of_ne h2,beq_false_of_ne h3]
theorem Bc8(l:List ByteArray)(n:ByteArray):decide (A5v l n < 0)= !l.any fun x=>decide (x=n):=by
 unfold A5v
 rw [y5]
 cases h:l.findIdx? fun x=>decide (x=n) with
 |none=>rw [Avb h];rfl
 |some i=>rw [Art h];rfl
theorem Aat(L:Nat)(n:ByteArray)(bf:List ByteArray)(hn:okS n)(hb:bf.length≤maxLen)(hL:maxLen < L):Nk L n bf=some (Vb bf n):=by
 have hM:=Bd
 simp only [Aps,Nk,aN,aB,Aas L n hn (Nat.lt_of_le_of_lt hn hL) (by omega),Afx L bf n hb (by omega),Gt,Gv,Option.bind_some,Bc8,Vb]
theorem Ba2(L:Nat)(x:Al)(bf:List ByteArray)(hx:Ng x)(hb:bf.length≤maxLen)(hL:maxLen < L):Afk L x bf=some (fE (Vb bf x.Name) (Yp x)):=by
 simp only [Apt,Afk,aN,aB,Aat L x.Name bf hx.1 hb hL,An8,Aq1,Gt,Gv,Option.bind_some,Ary,Alp]
theorem Ayb(L:Nat)(r:Af)(hl:r.Shift.length≤maxLen)(hc:Da (r.Cycle - 1)=r.Cycle - 1):∀(k:List Cu) (i:Nat) (v:Int),r.Shift.drop i=k→
  ∃j,Hp L r k i v=some (if A2x r.Cycle (pvA r.Shift i) k=0 then (1,(v,j)) else (0,(A2x r.Cycle (pvA r.Shift i) k,j))):=by
 intro k
 induction k with
 |nil=>intro i v _;exact ⟨i,rfl⟩
 |cons x k ih=>
  intro i v h
  obtain ⟨hi,hx,hk⟩:=Acs h
  obtain ⟨j,hj⟩:=ih (i+1) v hk
  rw [Bez h] at hj
  rw [Hp]
  simp only [Kz,Option.bind_some,hc,Blq r.Shift i hi hl,hj,A65]
  rcases Bool.eq_false_or_eq_true (Bp 0 (r.Cycle - 1) x.At) with hA|hA
  ·rcases Bool.eq_false_or_eq_true (Bp 0 1000 x.Units) with hB|hB
   ·rcases Bool.eq_false_or_eq_true (geq (pvA r.Shift i) x.At) with hC|hC
    ·exact ⟨i,by simp [hA,hB,hC]⟩
    ·exact ⟨j,by simp [hA,hB,hC]⟩
   ·exact ⟨i,by simp [hA,hB]⟩
  ·exact ⟨i,by simp [hA]⟩
theorem A0x(L:Nat)(r:Af)(hl:r.Shift.length≤maxLen)(hL:maxLen < L):p9 L r=some (Aua r):=by
 have e20:decide ((r.Shift.length:Int) > 20)=decide (20 < r.Shift.length):=gtN _ 20
 simp only [Apo,Uz,Qi,p9,Uz,Qi,aN,aB,Kz,Gt,Option.bind_some,Bzg,e20,A8g]
 by_cases h0:r.Shift.length=0
 ·rw [decide_eq_true h0,if_pos h0,cond_true]
 ·rw [decide_eq_false h0,if_neg h0,cond_false]
  by_cases h2:20 < r.Shift.length
  ·rw [decide_eq_true h2,if_pos h2];rfl
  ·rw [decide_eq_false h2,if_neg h2,cond_false]
   rcases Bool.eq_false_or_eq_true (Bp 1 1000000000 r.Cycle) with hr|hr
   ·obtain ⟨j,hj⟩:=Ayb L r hl (cyc hr) r.Shift 0 0 rfl
    rw [Atx L r L hl (Nat.lt_of_le_of_lt hl hL),hj,hr]
    simp only [Bool.not_true,cond_false,Option.bind_some,Bool.true_eq_false,if_false]
    have e:pvA r.Shift 0=none:=rfl
    rw [e]
    by_cases hz:A2x r.Cycle none r.Shift=0
    ·rw [if_pos hz,S0,hz]
    ·rw [if_neg hz,H2]
   ·rw [hr];rfl
theorem A0y(L:Nat)(s:Aa)(r:Af)(h1:r.Shift.length≤maxLen)(hs:s.Streams.length≤maxLen)(hb:Ku r.Fault≤1048576)(hL:maxLen < L):Vf L s r=some (Be8 s r):=by
 have hz:(⟨0,0,0,0,[],[]⟩:Bf)=Af4:=rfl
 unfold Ku at hb
 have d1:okD r.Fault.Up:=Baq (by omega)
 have d2:okD r.Fault.Down:=Baq (by omega)
 simp only [Ah5,Vf,aN,aB,Em,A18,Kz,Gt,Gv,A0x L r h1 hL,Aqz L r.Fault.Up _ d1 hL,Aqz L r.Fault.Down _ d2 hL,An6 L r.Fault.Up d1 hL,An6 L r.Fault.Down d2 hL,Afx L s.Streams r.Fault.Stream hs (Nat.lt_of_le_of_lt hs hL),Bc8,Option.bind_some,Blr,Bc7,←Alp,hz]
 by_cases h0:fE (n5 (Bp 0 1000 r.Units) 2) (Aua r)=0
 ·rw [h0,Td]
  simp only [bne_self_eq_false,cond_false]
  by_cases h2:r.Fault.Stream.size=0
  ·simp only [h2,decide_true,cond_true,if_true]
   cases Ami r.Fault.Up Af4<;>cases Ami r.Fault.Down Af4<;>rfl
  ·simp only [h2,decide_false,cond_false,if_false]
   rcases Bool.eq_false_or_eq_true (s.Streams.any fun x=>decide (x=r.Fault.Stream)) with h3|h3
   ·simp [h3]
   ·simp [h3]
 ·rw [O4 h0]
  simp only [Um h0,cond_true]
theorem B03{α :Type}{nm: α→ByteArray}{f: α→Int}{lq:List α→Nat→Int→List ByteArray→Option (Nat×(Int×List ByteArray×Int))}
  (hn:∀i v ks,lq [] i v ks=some (1,(v,ks,(i:Int)))):∀(k:List α) (i:Nat) (v:Int) (ks:List ByteArray),ks.length+k.length≤1099511627776→
  (∀x∈k,∀(k:List α) (i:Nat) (v:Int) (ks:List ByteArray),ks.length≤1099511627776→lq (x::k) i v ks=bif fE (Vb ks (nm x)) (f x) != 0 then some (0,(fE (Vb ks (nm x)) (f x),ks,(i:Int))) else if (ks.length+ [nm x].length)*16≤140737488355328 then (if ks.length+ [nm x].length≤maxLen then lq k (i+1) v (ks++ [nm x]) else none) else none)→
  ∃j ks',lq k i v ks=some (if (Fs nm f ks k).1=0 then (1,(v,ks',j)) else (0,((Fs nm f ks k).1,ks',j)))∧((Fs nm f ks k).1=0→ks'=(Fs nm f ks k).2):=by
 intro k
 induction k with
 |nil=>intro i v ks _ _;exact ⟨i,ks,by rw [hn,Fs];rfl,fun _=>rfl⟩
 |cons x k ih=>
  intro i v ks hl h
  rw [List.length_cons] at hl
  rw [h x (by simp) k i v ks (by omega)]
  by_cases h0:fE (Vb ks (nm x)) (f x)=0
  ·have e:Fs nm f ks (x::k)=Fs nm f (ks++ [nm x]) k:=by rw [Fs,if_neg (by simp [h0])]
   obtain ⟨j,ks',hj,he⟩:=ih (i+1) v (ks++ [nm x]) (by simp only [List.length_append,List.length_singleton];omega) fun y hy=>h y (by simp [hy])
   rw [e,h0]
   refine ⟨j,ks',?_,he⟩
   have hM:=Bd
   simp only [bne_self_eq_false,cond_false,List.length_singleton]
   rw [if_pos (by omega),if_pos (by omega),hj]
  ·have e:Fs nm f ks (x::k)=(fE (Vb ks (nm x)) (f x),ks):=by rw [Fs,if_pos h0]
   rw [e]
   exact ⟨i,ks,by simp only [Um h0,cond_true,if_neg h0],fun hh=>absurd hh h0⟩
theorem A36(L:Nat)(r:Ai)(hr:Gm r)(hb:Cp r≤1048576)(hL:m9≤L):Aej L r=some (Awd r):=by
 have hM:=Bd
 obtain ⟨b1,b2,b3⟩:=Amh hb
 have hL':maxLen < L:=Ta hL
 have e1:decide ((r.Params.length:Int) > 6)=decide (6 < r.Params.length):=gtN _ 6
 have e2:Da ((r.Params.length:Int)+(r.Locals.length:Int))=((r.Params.length+r.Locals.length:Nat):Int):=by rw [Tn (by omega) (by omega)];omega
 have e3:decide (((r.Params.length+r.Locals.length:Nat):Int) > 16)=decide (16 < r.Params.length+r.Locals.length):=gtN _ 16
 have c2:=Av2 (show∀y∈r.Body,B4 y from hr.2.2.2.2) L (A1n hL b3)
 simp only [Asc,Xo,Se,Aej,Xo,Se,aN,aB,e1,e2,e3,Kq,Be9]
 by_cases h0:6 < r.Params.length∨16 < r.Params.length+r.Locals.length
 ·rw [if_pos h0]
  have:(decide (6 < r.Params.length) || decide (16 < r.Params.length+r.Locals.length))=true:=by simpa using h0
  rw [this];rfl
 ·rw [if_neg h0]
  have:(decide (6 < r.Params.length) || decide (16 < r.Params.length+r.Locals.length))=false:=by simpa using h0
  rw [this,cond_false]
  repeat rw [ifp (by omega)]
  rw [Avk L r L (by simp;omega) (by simp;omega)]
  obtain ⟨j,ks',hj,_⟩:=B03 (nm:=fun f:Ao=>f.Name) (f:=fun f=>n5 (Wg f.Type_) 1) (lq:=Ki L r) (fun _ _ _=>rfl) (r.Params++r.Locals) 0 0 [] (by simp;omega) (by
   intro x hx k i v ks hk
   have ho:okS x.Name:=by
    rcases List.mem_append.1 hx with h|h
    ·exact (hr.2.1.2 x h).1
    ·exact (hr.2.2.1.2 x h).1
   rw [Ki]
   simp only [Aat L x.Name ks ho (by omega) hL',An8,Gt,Gv,Option.bind_some])
  rw [hj,Option.bind_some]
  by_cases hz:(Fs (fun f:Ao=>f.Name) (fun f=>n5 (Wg f.Type_) 1) [] (r.Params++r.Locals)).1=0
  ·rw [if_pos hz,S0,hz,Td,c2];rfl
  ·rw [if_neg hz,H2,O4 hz]
theorem A6s(L:Nat)(s:Aa)(n:Nat)(d:Bh):∀(k:List Ao) (i:Nat) (v:Int),i+k.length=d.Args.length→
  ∃j,Lo L s (n:Int) d k i v=some (if Ali k (d.Args.drop i)=true then (1,(v,j)) else (0,(2,j))):=by
 intro k
 induction k with
 |nil=>intro i v _;exact ⟨i,by unfold Ali;simp [Lo]⟩
 |cons x k ih=>
  intro i v h
  rw [List.length_cons] at h
  have hi:i < d.Args.length:=by omega
  obtain ⟨j,hj⟩:=ih (i+1) v (by omega)
  rw [Lo]
  simp only [Ix,Ky hi,if_true,Aq1,Option.bind_some,hj]
  have e:Ali (x::k) (d.Args.drop i)=(Ajv x.Type_ (d.Args.getD i default) && Ali k (d.Args.drop (i+1))):=by
   unfold Ali
   rw [Y8 d.Args i hi,List.zip_cons_cons,List.all_cons]
  rw [e]
  cases Ajv x.Type_ (d.Args.getD i default) with
  |false=>exact ⟨i,rfl⟩
  |true=>exact ⟨j,by simp⟩
theorem Ba1(L:Nat)(s:Aa)(d:Bh)(hs:U9 s 1099511627776)(hd:d.Args.length≤maxLen)(hL:maxLen < L):j9 L s d=some (Ayj s d):=by
 have hM:=Bd
 simp only [Ayz,Abw,V9,j9,Abw,V9,aN,aB,Aiw L s d.Routine hs hL,Option.bind_some,Sd,y5,A8i,Aii]
 cases hf:s.Routines.findIdx? (fun x=>decide (x.Name=d.Routine)) with
 |none=>rfl
 |some i=>
  have hi:=Any hf
  simp only [Option.isNone_some,cond_false,Rq,nn,if_true,Ky hi,Ix,Option.map_some]
  by_cases hn:d.Args.length=(s.Routines.getD i default).Params.length
  ·rw [if_neg (by simpa using hn)]
   have:((d.Args.length:Int) != ((s.Routines.getD i default).Params.length:Int))=false:=by rw [hn];simp
   rw [this,cond_false,A0r L s _ d L (by rw [Ix];omega) (by rw [Ix];omega)]
   obtain ⟨j,hj⟩:=A6s L s i d (s.Routines.getD i default).Params 0 0 (by omega)
   rw [Ix,hj,Option.bind_some,List.drop_zero]
   cases Ali (s.Routines.getD i default).Params d.Args with
   |false=>rfl
   |true=>
    simp only [if_true,S0,Kz,Gt,Option.bind_some,Bool.true_eq_false,if_false]
    cases Bp 0 1000000000 d.At<;>cases Bp 0 1000000000 d.Every<;>cases Bp 0 1000000000 d.Until<;>rfl
  ·rw [if_pos (by simpa using hn)]
   have:((d.Args.length:Int) != ((s.Routines.getD i default).Params.length:Int))=true:=bne_iff_ne.2 (by omega)
   rw [this];rfl
theorem Bug(s:Aa)(t:Au):Abd s t=if Ag3 t.What=0 then 1
 else if Gf s t.Name≠(if Ag3 t.What=1 then Vl else if Ag3 t.What=2 then Im else R6) then 5 else Aza t:=rfl
theorem W7(L:Nat)(s:Aa)(t:Au)(w:ByteArray)(h:U9 s 1099511627776)(hL:maxLen < L):(Rm L s t w:Option Int)=some (fE (n5 (!decide (w.size=0)) 1) (fE (n5 (decide (Gf s t.Name=w)) 5) (Aza t))):=by
 have hM:=Bd
 simp only [Rm,aN,aB,Em,A18,Gt,Gv,Kz,Aj5 L s t.Name h hL,Option.bind_some,Di,Alp,Aza]
theorem tR(s:Aa)(n w:ByteArray)(c:Int)(hw:decide (w.size=0)=false):fE (n5 (!decide (w.size=0)) 1) (fE (n5 (decide (Gf s n=w)) 5) c)=if Gf s n≠w then 5 else c:=by
 rw [hw]
 by_cases h:Gf s n=w
 ·rw [decide_eq_true h,if_neg (by simpa using h)];rfl
 ·rw [decide_eq_false h,if_pos h];rfl
theorem Bep(L:Nat)(s:Aa)(t:Au)(h:U9 s 1099511627776)(hL:maxLen < L):Ah0 L s t=some (Abd s t):=by
 have k1:(⟨#[114,111,117,116,105,110,101]⟩:ByteArray)=Vl:=rfl
 have k2:(⟨#[115,116,111,114,101]⟩:ByteArray)=Im:=rfl
 have k3:(⟨#[99,111,117,110,116]⟩:ByteArray)=R6:=rfl
 have t0:(Rm L s t ⟨#[]⟩:Option Int)=some 1:=by rw [W7 L s t _ h hL];rfl
 have t1:=W7 L s t Vl h hL
 have t2:=W7 L s t Im h hL
 have t3:=W7 L s t R6 h hL
 rw [tR _ _ _ _ rfl] at t1 t2 t3
 simp only [Ah0,A2n,sx_R11_term_0,Ak6,sx_R11_term_2,Ak7,sx_R11_term_3,Atb,Em,B1n,B1o,B1p,B1q,B1r,B1s,B1t,k1,k2,k3,t0,t1,t2,t3,Bug,Bfs]
 by_cases c1:t.What=wd1
 ·simp [c1]
 by_cases c2:t.What=wd2
 ·simp [c1,c2,wdn]
 by_cases c3:t.What=wd3
 ·simp [c1,c2,c3,wdn]
 by_cases c4:t.What=wd4
 ·simp [c1,c2,c3,c4,wdn]
 by_cases c5:t.What=wd5
 ·simp [c1,c2,c3,c4,c5,wdn]
 by_cases c6:t.What=wd6
 ·simp [c1,c2,c3,c4,c5,c6,wdn]
 by_cases c7:t.What=wd7
 ·simp [c1,c2,c3,c4,c5,c6,c7,wdn]
 ·simp [c1,c2,c3,c4,c5,c6,c7]
end Go.Proofs.YtogleahbpobaiaaGreat.Ev
namespace Go.Proofs.YtogleahbpobaiaaGreat.Ev
open Go An
set_option maxRecDepth 100000
set_option linter.unusedVariables false
set_option linter.unusedSimpArgs false
set_option linter.unnecessarySimpa false
theorem Be2(L:Nat)(s:Aa)(l:Ax)(h:U9 s 1099511627776)(hL:maxLen < L):∀(k:List Au) (i:Nat) (v:Int),∃j,Qf L s l k i v=some (0,(fE v (Ahc (Abd s) k),j)):=by
 intro k
 induction k with
 |nil=>intro i v;exact ⟨i,by rw [Qf,Ahc,B4k]⟩
 |cons x k ih=>
  intro i v
  obtain ⟨j,hj⟩:=ih (i+1) (fE v (Abd s x))
  refine ⟨j,?_⟩
  rw [Qf,Bep L s x h hL,Option.bind_some,Gv,Option.bind_some,hj,Alp,Ahc]
theorem Bg3(L:Nat)(s:Aa)(l:Ax)(bf:List ByteArray)(hl:Acm l)(hs:U9 s 1099511627776)(hb:bf.length≤maxLen)(hL:maxLen < L):Ale L s l bf=some (fE (Vb bf l.Name) (A0c (Abd s) l)):=by
 obtain ⟨j,hj⟩:=Be2 L s l hs hL l.Terms 0 (fE (Vb bf l.Name) (fE (n5 (decide (0 < l.Terms.length)) 7) (n5 (decide (l.Terms.length≤8)) 6)))
 have e1:decide ((l.Terms.length:Int) > 0)=decide (0 < l.Terms.length):=gtN _ 0
 have e2:decide ((l.Terms.length:Int)≤8)=decide (l.Terms.length≤8):=decide_eq_decide.2 (by omega)
 simp only [A61,Ahr,Aa4,Ale,Ahr,Aa4,aN,aB,Aat L l.Name bf hl.1 hb hL,Gt,Gv,Axz,Option.bind_some,e1,e2,A5y L s l L hl.2.1.1 (Nat.lt_of_le_of_lt hl.2.1.1 hL),hj,H2,Bln,Alp]
theorem kd0(L:Nat)(s:Aa)(i:Nat)(hi:i < s.Vars.length):Dh L s 0 (i:Int)=some (Yp (s.Vars.getD i default)):=by
 simp only [K8,Dh,aN,aB,beq_self_eq_true,cond_true,nn,Ky hi,if_true,Ix,An8,Aq1,Gt,Gv,Option.bind_some,Ary]
theorem kd1(L:Nat)(s:Aa)(i:Nat)(hi:i < s.Resources.length)(h:SG s)(hL:maxLen < L):Dh L s 1 (i:Int)=some (Be8 s (s.Resources.getD i default)):=by
 have hm:s.Resources.getD i default∈s.Resources:=by rw [Hk _ i hi];exact List.getElem_mem hi
 have e:=A0y L s (s.Resources.getD i default) (h.res _ hm).2.2.1.1 h.ln.2.2.2.2.2.1 (h.bkD _ hm) hL
 simp only [K8,Dh,aN,aB,nn,Ky hi,if_true,Ix]
 show (Option.bind (Vf L s (s.Resources.getD i default)) fun r6=>some r6)=_
 rw [e];rfl
theorem kd2(L:Nat)(s:Aa)(i:Nat)(hi:i < s.Stores.length):Dh L s 2 (i:Int)=some (Aue (s.Stores.getD i default)):=by
 have e:∀p:Int,(decide (p≥1) && decide (p≤3))=Bp 1 3 p:=fun _=>rfl
 simp only [K8,Dh,aN,aB,nn,Ky hi,if_true,Ix,Kz,Gt,Gv,Option.bind_some,Di,e,A8m]
 rfl
theorem kd3(L:Nat)(s:Aa)(i:Nat)(hi:i < s.Belts.length):Dh L s 3 (i:Int)=some (A2t (s.Belts.getD i default)):=by
 simp only [K8,Dh,aN,aB,nn,Ky hi,if_true,Ix,Kz,Gt,Gv,Option.bind_some,Bcf,Du]
 cases Bp 1 1000 (s.Belts.getD i default).Length<;>cases Bp 1 1000 (s.Belts.getD i default).Step<;>rfl
theorem kd9(L:Nat)(s:Aa)(i:Nat)(hi:i < s.Routines.length)(h:SG s)(hL:m9≤L):Dh L s 9 (i:Int)=some (Awd (s.Routines.getD i default)):=by
 have hm:s.Routines.getD i default∈s.Routines:=by rw [Hk _ i hi];exact List.getElem_mem hi
 simp only [K8,Dh,aN,aB,nn,Ky hi,if_true,Ix,A36 L _ (h.routs _ hm) (h.bkR _ hm) hL,Option.bind_some]
 rfl
theorem kdN(L:Nat)(s:Aa)(κ :Int)(i:Int)(h: κ =4∨κ =5∨κ =6∨κ =7∨κ =8):Dh L s κ i=some 0:=by
 rcases h with rfl|rfl|rfl|rfl|rfl<;>(simp only [K8,Dh,aN,aB];rfl)
theorem Bnv{α :Type} [Inhabited α](nm: α→ByteArray)(xs:List α)(i:Nat)(hi:i < xs.length):(xs.map nm).getD i default=nm (xs.getD i default):=by
 rw [Hk _ i (by simpa using hi),Hk _ i hi,List.getElem_map]
theorem Bbi{α :Type} [Inhabited α](nm: α→ByteArray)(g: α→Int)(xs:List α)(L:Nat)(s:Aa)(r1:List (List ByteArray))(κ :Nat)(hκ : κ < r1.length)(hr:r1.getD κ default=xs.map nm)
  (hd:∀i,i < xs.length→Dh L s (κ :Int) (i:Int)=some (g (xs.getD i default))) (ho:∀x∈xs,okS (nm x)) (hL:maxLen < L) (hx:xs.length≤1048576):
  ∀(n i:Nat) (v:Int) (ks:List ByteArray),ks.length+xs.length≤1099511627776+i→i≤xs.length→xs.length - i < n→
  ∃j ks',Nq L r1 (κ :Int) s n v ks (i:Int)=some (if (Fs nm g ks (xs.drop i)).1=0 then (1,(v,ks',j)) else (0,((Fs nm g ks (xs.drop i)).1,ks',j)))∧((Fs nm g ks (xs.drop i)).1=0→ks'=(Fs nm g ks (xs.drop i)).2):=by
 intro n
 have hM:=Bd
 induction n with
 |zero=>intro i v ks _ _ h;omega
 |succ n ih=>
  intro i v ks hk hi hn
  have hlen:((r1.getD κ default).length:Int)=(xs.length:Int):=by rw [hr,List.length_map]
  have hlen':(r1.getD κ default).length=xs.length:=by rw [hr,List.length_map]
  by_cases hlt:i < xs.length
  ·have hg:(r1.getD κ default).getD i default=nm (xs.getD i default):=by rw [hr,Bnv nm xs i hlt]
   have hm:xs.getD i default∈xs:=by rw [Hk _ i hlt];exact List.getElem_mem hlt
   have hnd:=Aat L (nm (xs.getD i default)) ks (ho _ hm) (by omega) hL
   simp only [Nq,Aez,aN,aB,nn,Ky hκ,if_true,Ix,hlen,hlen',Ed hlt,Ky hlt,decide_true,cond_true,hg,hnd,hd i hlt,Gv,Option.bind_some]
   rw [Y8 xs i hlt]
   by_cases h0:fE (Vb ks (nm (xs.getD i default))) (g (xs.getD i default))=0
   ·have e:Fs nm g ks (xs.getD i default::xs.drop (i+1))=Fs nm g (ks++ [nm (xs.getD i default)]) (xs.drop (i+1)):=by rw [Fs,if_neg (fun hh=>hh h0)]
    obtain ⟨j,ks',hj,he⟩:=ih (i+1) v (ks++ [nm (xs.getD i default)]) (by simp only [List.length_append,List.length_singleton];omega) hlt (by omega)
    rw [e]
    refine ⟨j,ks',?_,he⟩
    simp only [h0,bne_self_eq_false,cond_false,List.length_singleton]
    rw [if_pos (by omega),if_pos (by omega),Bb hlt (by omega),hj]
   ·have e:Fs nm g ks (xs.getD i default::xs.drop (i+1))=(fE (Vb ks (nm (xs.getD i default))) (g (xs.getD i default)),ks):=by rw [Fs,if_pos h0]
    rw [e]
    exact ⟨i,ks,by simp only [Um h0,cond_true,if_neg h0],fun hh=>absurd hh h0⟩
  ·have e:xs.drop i= []:=List.drop_eq_nil_of_le (by omega)
   rw [e,Fs]
   refine ⟨i,ks,?_,fun _=>rfl⟩
   simp only [Nq,Aez,aN,aB,nn,Ky hκ,if_true,Ix,hlen,Eo (show xs.length≤i by omega),cond_false]
def Gr(e v:Int)(X:Option (Nat×(Int×List ByteArray×Int))):Prop:=∃a b,X=some (if e=0 then (1,(v,a,b)) else (0,(e,a,b)))
theorem Uh{α :Type} [Inhabited α](nm: α→ByteArray)(g: α→Int)(xs:List α)(most:Nat)(L:Nat)(s:Aa)(r1:List (List ByteArray))(κ :Nat)(hκ : κ < r1.length)(hr:r1.getD κ default=xs.map nm)
  (hmost:(κ =9∧most=16)∨(κ≠9∧most=32))
  (hd:∀i,i < xs.length→Dh L s (κ :Int) (i:Int)=some (g (xs.getD i default))) (ho:∀x∈xs,okS (nm x)) (hL:maxLen < L) (hx:xs.length≤1048576)
  (f:List ByteArray→Int×List ByteArray) (k:List (List ByteArray)) (v:Int) (ks:List ByteArray) (c:Nat) (hc:ks.length≤c) (hcc:c≤1000)
  (h:∀ks',ks'.length≤c+32→Gr (f ks').1 v (I2 L r1 s k (κ +1) v ks')):Gr (Ns (La most nm g ks xs) f).1 v (I2 L r1 s (xs.map nm::k) κ v ks):=by
 have hM:=Bd
 have e32:decide ((xs.length:Int) > 32)=decide (32 < xs.length):=gtN _ 32
 have e16:decide ((xs.length:Int) > 16)=decide (16 < xs.length):=gtN _ 16
 rw [I2]
 simp only [List.length_map,e32,e16,nn,if_true,Ky hκ]
 have hb:(bif decide (32 < xs.length) then some true else bif ((κ :Int) == 9) then some (decide (16 < xs.length)) else some false)=some (decide (most < xs.length)):=by
  rcases hmost with ⟨rfl,rfl⟩|⟨h9,rfl⟩
  ·by_cases h1:32 < xs.length
   ·rw [decide_eq_true h1,decide_eq_true (show 16 < xs.length by omega)];rfl
   ·rw [decide_eq_false h1];rfl
  ·rw [beq_false_of_ne (show¬(κ :Int)=9 by omega)]
   cases decide (32 < xs.length)<;>rfl
 rw [hb,Option.bind_some]
 unfold La
 by_cases hm:most < xs.length
 ·rw [decide_eq_true hm,if_pos hm]
  exact ⟨ks,κ,rfl⟩
 ·rw [decide_eq_false hm,if_neg hm,cond_false]
  obtain ⟨j,ks',hj,he⟩:=Bbi nm g xs L s r1 κ hκ hr hd ho hL hx L 0 v ks (by omega) (by omega) (by omega)
  rw [List.drop_zero] at hj he
  have hj:Nq L r1 (κ :Int) s L v ks 0=_:=hj
  rw [hj,Option.bind_some]
  unfold Ns
  by_cases h0:(Fs nm g ks xs).1=0
  ·rw [if_neg (by simp [h0]),if_pos h0,S0,←he h0]
   refine h ks' ?_
   have:=(A3c nm g xs ks h0).1
   rw [he h0,this,List.length_append,List.length_map]
   rcases hmost with ⟨_,rfl⟩|⟨_,rfl⟩<;>omega
  ·rw [if_pos h0,if_neg h0,H2]
   exact ⟨ks',κ,by rw [if_neg h0]⟩
theorem Buh(p:Int×List ByteArray):p.1=(Ns p fun b=>(0,b)).1:=by
 unfold Ns
 by_cases h:p.1=0
 ·rw [if_neg (by simp [h]),h]
 ·rw [if_pos h]
theorem Ax0(L:Nat)(s:Aa)(h:SG s)(hL:m9≤L):Gr (Anr s).1 0 (I2 L (Iy s) s (Iy s) 0 0 []):=by
 have hl:=Ta hL
 obtain ⟨l0,l1,l2,l3,l4,l5,l6,l7,l8,l9⟩:=(Aqt s).mono h.bk
 rw [Buh,Anr]
 simp only [A5d]
 have e4:∀l:List ByteArray,l.map (fun x=>x)=l:=fun l=>List.map_id' l
 have lt10:∀ {n:Nat},n < 10→n < (Iy s).length:=fun h=>h
 have e5:∀k,k=Iy s→k= [s.Vars.map fun x=>x.Name,s.Resources.map fun x=>x.Name,s.Stores.map fun x=>x.Name,s.Belts.map fun x=>x.Name,s.Queues.map fun x=>x,s.Streams.map fun x=>x,s.Tallies.map fun x=>x,s.Levels.map fun x=>x,s.Counts.map fun x=>x,s.Routines.map fun x=>x.Name]:=by
  intro k hk
  rw [hk,e4,e4,e4,e4,e4]
  rfl
 suffices H:∀k,k=Iy s→Gr (Ns (La 32 (fun x:Al=>x.Name) Yp [] s.Vars) fun b=>Ns (La 32 (fun x:Af=>x.Name) (Be8 s) b s.Resources) fun b=>Ns (La 32 (fun x:Ap=>x.Name) Aue b s.Stores) fun b=>Ns (La 32 (fun x:Ar=>x.Name) A2t b s.Belts) fun b=>Ns (txE b s.Queues) fun b=>Ns (txE b s.Streams) fun b=>Ns (txE b s.Tallies) fun b=>Ns (txE b s.Levels) fun b=>Ns (txE b s.Counts) fun b=>Ns (La 16 (fun x:Ai=>x.Name) Awd b s.Routines) fun b=>(0,b)).1 0 (I2 L (Iy s) s k 0 0 []) from H _ rfl
 intro k hk
 rw [e5 k hk]
 refine Uh _ _ s.Vars 32 L s (Iy s) 0 (lt10 (by decide)) rfl (.inr ⟨by decide,rfl⟩) (fun i hi=>kd0 L s i hi) (fun x hx=>(h.vars x hx).1) hl l0 _ _ 0 [] 0 (Nat.le_refl _) (by decide) fun ks1 k1=> ?_
 refine Uh _ _ s.Resources 32 L s (Iy s) 1 (lt10 (by decide)) rfl (.inr ⟨by decide,rfl⟩) (fun i hi=>kd1 L s i hi h hl) (fun x hx=>(h.res x hx).1) hl l1 _ _ 0 ks1 _ k1 (by decide) fun ks2 k2=> ?_
 refine Uh _ _ s.Stores 32 L s (Iy s) 2 (lt10 (by decide)) rfl (.inr ⟨by decide,rfl⟩) (fun i hi=>kd2 L s i hi) (fun x hx=>(h.stores x hx).1) hl l2 _ _ 0 ks2 _ k2 (by decide) fun ks3 k3=> ?_
 refine Uh _ _ s.Belts 32 L s (Iy s) 3 (lt10 (by decide)) rfl (.inr ⟨by decide,rfl⟩) (fun i hi=>kd3 L s i hi) (fun x hx=>(h.belts x hx).1) hl l3 _ _ 0 ks3 _ k3 (by decide) fun ks4 k4=> ?_
 refine Uh (fun x:ByteArray=>x) (fun _=>0) s.Queues 32 L s (Iy s) 4 (lt10 (by decide)) (show (Iy s).getD 4 default=List.map (fun x=>x) s.Queues from (e4 s.Queues).symm) (.inr ⟨by decide,rfl⟩) (fun i _=>kdN L s _ _ (.inl rfl)) h.queues hl l4 _ _ 0 ks4 _ k4 (by decide) fun ks5 k5=> ?_
 refine Uh (fun x:ByteArray=>x) (fun _=>0) s.Streams 32 L s (Iy s) 5 (lt10 (by decide)) (show (Iy s).getD 5 default=List.map (fun x=>x) s.Streams from (e4 s.Streams).symm) (.inr ⟨by decide,rfl⟩) (fun i _=>kdN L s _ _ (.inr (.inl rfl))) h.streams hl l5 _ _ 0 ks5 _ k5 (by decide) fun ks6 k6=> ?_
 refine Uh (fun x:ByteArray=>x) (fun _=>0) s.Tallies 32 L s (Iy s) 6 (lt10 (by decide)) (show (Iy s).getD 6 default=List.map (fun x=>x) s.Tallies from (e4 s.Tallies).symm) (.inr ⟨by decide,rfl⟩) (fun i _=>kdN L s _ _ (.inr (.inr (.inl rfl)))) h.tallies hl l6 _ _ 0 ks6 _ k6 (by decide) fun ks7 k7=> ?_
 refine Uh (fun x:ByteArray=>x) (fun _=>0) s.Levels 32 L s (Iy s) 7 (lt10 (by decide)) (show (Iy s).getD 7 default=List.map (fun x=>x) s.Levels from (e4 s.Levels).symm) (.inr ⟨by decide,rfl⟩) (fun i _=>kdN L s _ _ (.inr (.inr (.inr (.inl rfl))))) h.levels hl l7 _ _ 0 ks7 _ k7 (by decide) fun ks8 k8=> ?_
 refine Uh (fun x:ByteArray=>x) (fun _=>0) s.Counts 32 L s (Iy s) 8 (lt10 (by decide)) (show (Iy s).getD 8 default=List.map (fun x=>x) s.Counts from (e4 s.Counts).symm) (.inr ⟨by decide,rfl⟩) (fun i _=>kdN L s _ _ (.inr (.inr (.inr (.inr rfl))))) h.counts hl l8 _ _ 0 ks8 _ k8 (by decide) fun ks9 k9=> ?_
 refine Uh _ _ s.Routines 16 L s (Iy s) 9 (lt10 (by decide)) rfl (.inl ⟨rfl,rfl⟩) (fun i hi=>kd9 L s i hi h hL) (fun x hx=>(h.routs x hx).1) hl l9 _ _ 0 ks9 _ k9 (by decide) fun ks10 k10=> ?_
 exact ⟨ks10,10,rfl⟩
theorem Beo(L:Nat)(s:Aa)(h:SG s)(hL:m9≤L):Ahz L s=some (Af0 Abd s):=by
 have hl:=Ta hL
 have hM:=Bd
 obtain ⟨a,b,e1⟩:=Ax0 L s h hL
 have e2:decide ((s.Starts.length:Int) > 32)=decide (32 < s.Starts.length):=gtN _ 32
 have e3:decide ((s.Laws.length:Int) > 32)=decide (32 < s.Laws.length):=gtN _ 32
 have h1:(Iy s).length=10:=rfl
 simp only [A2m,Afe,Ae4,Aff,Ae5,Afg,Y1,Ahz,Afe,Ae4,Aff,Ae5,Afg,Y1,aN,aB,An7 L s h.len hl,Option.bind_some,A3v L (Iy s) s L (by rw [h1];decide) (by rw [h1];omega),e1,e2,e3,Bff]
 by_cases h0:(Anr s).1=0
 ·rw [if_pos h0,S0,h0,Td]
  unfold Awh La
  by_cases h2:32 < s.Starts.length
  ·rw [decide_eq_true h2,if_pos h2,O4 (show (6:Int)≠0 by decide)];rfl
  ·rw [decide_eq_false h2,if_neg h2,cond_false]
   obtain ⟨j,hj⟩:=B0x (lq:=Ug L s) (bd:=j9 L s) (f:=Ayj s) (fun _ _=>rfl) (fun _ _ _ _=>rfl) s.Starts 0 0 fun x hx=>Ba1 L s x h.len (h.starts.2 x hx).2.1.1 hl
   rw [A3w L s L h.starts.1 (Nat.lt_of_le_of_lt h.starts.1 hl),hj,Option.bind_some]
   by_cases h3:Ahc (Ayj s) s.Starts=0
   ·rw [if_pos h3,S0,h3,Td]
    by_cases h4:32 < s.Laws.length
    ·rw [decide_eq_true h4,if_pos h4];rfl
    ·rw [decide_eq_false h4,if_neg h4,cond_false]
     obtain ⟨j,ks',hj,_⟩:=B03 (nm:=fun l:Ax=>l.Name) (f:=A0c (Abd s)) (lq:=Ri L s) (fun _ _ _=>rfl) s.Laws 0 0 [] (by simp;omega) (by
      intro x hx k i v ks hk
      rw [Ri,Bg3 L s x ks (h.laws.2 x hx) h.len (by omega) hl,Option.bind_some])
     rw [A3x L s L h.laws.1 (Nat.lt_of_le_of_lt h.laws.1 hl),hj,Option.bind_some]
     by_cases hz:(Fs (fun l:Ax=>l.Name) (A0c (Abd s)) [] s.Laws).1=0
     ·rw [if_pos hz,S0,hz]
     ·rw [if_neg hz,H2]
   ·rw [if_neg h3,H2,O4 h3]
 ·rw [if_neg h0,H2,O4 h0]
theorem A6r(L:Nat)(m:Ad)(i:Nat)(hi:i < m.Links.length)(hl:m.Links.length≤maxLen):∀(n c:Nat) (v:Int),c≤i→i - c < n→
  ∃j,Lc L (i:Int) m n v (c:Int)=some (if Bof ((m.Links.take i).drop c) (m.Links.getD i default)=true then (0,(4,j)) else (1,(v,j))):=by
 intro n
 have hM:=Bd
 induction n with
 |zero=>intro c v _ h;omega
 |succ n ih=>
  intro c v hc hn
  by_cases hlt:c < i
  ·have hcl:c < m.Links.length:=by omega
   obtain ⟨j,hj⟩:=ih (c+1) v hlt (by omega)
   have e:(m.Links.take i).drop c=m.Links.getD c default::(m.Links.take i).drop (c+1):=by
    have h1:c < (m.Links.take i).length:=by rw [List.length_take];omega
    rw [List.drop_eq_getElem_cons h1,List.getElem_take,Hk _ c hcl]
   rw [e]
   unfold Bof at hj ⊢
   simp only [Lc,Aaj,aN,aB,nn,Ed hlt,Ky hcl,if_true,Ix,cond_true,Em,Bb hcl hl,hj,List.any_cons]
   by_cases h1:(m.Links.getD c default).From=(m.Links.getD i default).From
   ·by_cases h2:(m.Links.getD c default).To=(m.Links.getD i default).To
    ·exact ⟨c,by simp only [decide_eq_true h1,decide_eq_true h2,cond_true,cond_false,Bool.true_and,Bool.false_and,Bool.and_self,Bool.false_or,Bool.true_or,if_true]⟩
    ·exact ⟨j,by simp only [decide_eq_true h1,decide_eq_false h2,cond_true,cond_false,Bool.true_and,Bool.false_and,Bool.and_self,Bool.false_or,Bool.true_or,if_true]⟩
   ·exact ⟨j,by simp only [decide_eq_false h1,cond_true,cond_false,Bool.true_and,Bool.false_and,Bool.and_self,Bool.false_or,Bool.true_or,if_true]⟩
  ·have e:(m.Links.take i).drop c= []:=List.drop_eq_nil_of_le (by rw [List.length_take];omega)
   rw [e]
   exact ⟨c,by simp only [Lc,Aaj,aN,aB,Eo (show i≤c by omega),cond_false];rfl⟩
theorem A6q(L:Nat)(m:Ad)(hm:m.Sites.length≤maxLen)(hl:m.Links.length≤maxLen)(hL:maxLen < L):∀(k:List Bg) (i:Nat) (v:Int),m.Links.drop i=k→
  ∃j,Ln L m k i v=some (if Agl m (m.Links.take i) k=0 then (1,(v,j)) else (0,(Agl m (m.Links.take i) k,j))):=by
 have hM:=Bd
 intro k
 induction k with
 |nil=>intro i v _;exact ⟨i,rfl⟩
 |cons x k ih=>
  intro i v h
  obtain ⟨hi,hx,hk⟩:=Acs h
  obtain ⟨j,hj⟩:=ih (i+1) v hk
  obtain ⟨c,hc⟩:=A6r L m i hi hl L 0 v (by omega) (by omega)
  rw [List.drop_zero,hx] at hc
  have hc:Lc L (i:Int) m L v 0=_:=hc
  have e:m.Links.take i++ [x]=m.Links.take (i+1):=by rw [List.take_add_one,List.getElem?_eq_getElem hi];congr 1;rw [←hx,Hk _ i hi];rfl
  rw [Ln,Agl,e]
  simp only [Azl L m _ hm hL,Kz,Option.bind_some,Bfg,Em,Du,Kq,hc,Bea]
  rcases Bool.eq_false_or_eq_true (m.Sites.any fun d=>decide (d.Name=x.From)) with a1|a1
  ·rcases Bool.eq_false_or_eq_true (m.Sites.any fun d=>decide (d.Name=x.To)) with a2|a2
   ·by_cases a3:x.From=x.To
    ·exact ⟨i,by simp [a1,a2,a3,fE]⟩
    ·rcases Bool.eq_false_or_eq_true (Bp 1 1000000000 x.Delay) with a4|a4
     ·rcases Bool.eq_false_or_eq_true (Bof (m.Links.take i) x) with a5|a5
      ·exact ⟨i,by simp [a1,a2,a3,a4,a5,fE,n5,H2]⟩
      ·refine ⟨j,?_⟩
       simp only [a1,a2,a3,a4,a5,n5,decide_false,cond_false,Bool.not_true,Bool.or_self,if_false,Bool.and_self,Bool.true_eq_false,Bool.not_false,cond_true,Td,Bool.false_eq_true,Option.bind_some,S0]
       exact hj
     ·exact ⟨i,by simp [a1,a2,a3,a4,fE]⟩
   ·exact ⟨i,by simp [a1,a2,fE]⟩
  ·exact ⟨i,by simp [a1,fE]⟩
theorem Ba0(L:Nat)(m:Ad)(hm:m.Sites.length≤maxLen)(hl:m.Links.length≤maxLen)(hL:maxLen < L):Ajj L m=some (A3n m):=by
 have e32:decide ((m.Links.length:Int) > 32)=decide (32 < m.Links.length):=gtN _ 32
 obtain ⟨j,hj⟩:=A6q L m hm hl hL m.Links 0 0 rfl
 have hj:Ln L m m.Links 0 0=some (if Agl m [] m.Links=0 then (1,(0,j)) else (0,(Agl m [] m.Links,j))):=hj
 simp only [Ayy,Abv,V8,Ajj,Abv,V8,aN,aB,e32,A0q L m L hl (Nat.lt_of_le_of_lt hl hL),hj,Option.bind_some,A3n]
 by_cases h:32 < m.Links.length
 ·rw [decide_eq_true h,if_pos h];rfl
 ·rw [decide_eq_false h,if_neg h,cond_false]
  by_cases h0:Agl m [] m.Links=0
  ·rw [if_pos h0,S0,h0]
  ·rw [if_neg h0,H2]
theorem Bp2{α :Type}{nm: α→ByteArray}{f: α→Int}{lq:List α→Nat→Int→Int→List ByteArray→Option (Nat×(Int×Int×List ByteArray×Int))}
  (hn:∀i v e ks,lq [] i v e ks=some (1,(v,e,ks,(i:Int)))):∀(k:List α) (i:Nat) (v e:Int) (ks:List ByteArray),ks.length+k.length≤1099511627776→
  (∀x∈k,∀(k:List α) (i:Nat) (v e:Int) (ks:List ByteArray),ks.length≤1099511627776→lq (x::k) i v e ks=bif fE (Vb ks (nm x)) (f x) != 0 then some (0,(fE (Vb ks (nm x)) (f x),fE (Vb ks (nm x)) (f x),ks,(i:Int))) else if (ks.length+ [nm x].length)*16≤140737488355328 then (if ks.length+ [nm x].length≤maxLen then lq k (i+1) v (fE (Vb ks (nm x)) (f x)) (ks++ [nm x]) else none) else none)→
  ∃j e' ks',lq k i v e ks=some (if (Fs nm f ks k).1=0 then (1,(v,e',ks',j)) else (0,((Fs nm f ks k).1,e',ks',j))):=by
 intro k
 induction k with
 |nil=>intro i v e ks _ _;exact ⟨i,e,ks,by rw [hn,Fs];rfl⟩
 |cons x k ih=>
  intro i v e ks hl h
  rw [List.length_cons] at hl
  rw [h x (by simp) k i v e ks (by omega)]
  by_cases h0:fE (Vb ks (nm x)) (f x)=0
  ·have e1:Fs nm f ks (x::k)=Fs nm f (ks++ [nm x]) k:=by rw [Fs,if_neg (fun hh=>hh h0)]
   obtain ⟨j,e',ks',hj⟩:=ih (i+1) v 0 (ks++ [nm x]) (by simp only [List.length_append,List.length_singleton];omega) fun y hy=>h y (by simp [hy])
   rw [e1,h0]
   refine ⟨j,e',ks',?_⟩
   have hM:=Bd
   simp only [bne_self_eq_false,cond_false,List.length_singleton]
   rw [if_pos (by omega),if_pos (by omega),hj]
  ·have e1:Fs nm f ks (x::k)=(fE (Vb ks (nm x)) (f x),ks):=by rw [Fs,if_pos h0]
   rw [e1]
   exact ⟨i,_,ks,by simp only [Um h0,cond_true,if_neg h0];rfl⟩
theorem Buk(n:Nat)(c:Nat)(e:Int):n5 (decide ((n:Int)≤(c:Int))) e=if c < n then e else 0:=by
 by_cases h:c < n
 ·rw [if_pos h,decide_eq_false (by omega)];rfl
 ·rw [if_neg h,decide_eq_true (by omega)];rfl
theorem Baz(L:Nat)(m:Ad)(h:MG m)(hL:m9≤L):Aji L m=some (Aiu Abd m):=by
 have hl:=Ta hL
 have hM:=Bd
 have hp:=h.ok.2.1
 have u1:n5 (decide ((m.Params.length:Int)≤32)) 6=if 32 < m.Params.length then 6 else 0:=Buk _ 32 6
 have u2:n5 (decide ((m.Sites.length:Int)≤16)) 6=if 16 < m.Sites.length then 6 else 0:=Buk _ 16 6
 have u3:decide ((m.Sites.length:Int) > 0)=decide (0 < m.Sites.length):=gtN _ 0
 simp only [Ayw,Abn,Aaz,Abo,V5,Aji,Abn,Aaz,Abo,V5,aN,aB,Aas L m.Name h.ok.1 (Nat.lt_of_le_of_lt h.ok.1 hl) (by omega),Gt,Gv,u1,u2,u3,Ba0 L m h.sites h.links hl,Option.bind_some]
 unfold Aiu
 by_cases h0:Qg m.Name=0
 ·rw [h0,Td,Td]
  unfold La
  by_cases h1:32 < m.Params.length
  ·rw [if_pos h1,if_pos h1,O4 (show (6:Int)≠0 by decide)];rfl
  ·rw [if_neg h1,if_neg h1]
   obtain ⟨j,e',ks',hj⟩:=Bp2 (nm:=fun x:Al=>x.Name) (f:=Yp) (lq:=Ot L m) (fun _ _ _ _=>rfl) m.Params 0 0 0 [] (by simp;omega) (by
    intro x hx k i v e ks hk
    rw [Ot,Ba2 L x ks (hp.2 x hx) (by omega) hl,Option.bind_some])
   simp only [bne_self_eq_false,cond_false]
   rw [A0j L m L hp.1 (Nat.lt_of_le_of_lt hp.1 hl),hj,Option.bind_some]
   by_cases h2:(Fs (fun x:Al=>x.Name) Yp [] m.Params).1=0
   ·rw [if_pos h2,S0,h2,Td]
    by_cases h3:m.Sites.length=0
    ·rw [decide_eq_false (show¬0 < m.Sites.length by omega)];rfl
    ·rw [decide_eq_true (show 0 < m.Sites.length by omega)]
     simp only [n5,cond_true,Td]
     by_cases h4:16 < m.Sites.length
     ·rw [if_pos h4,if_pos h4,O4 (show (6:Int)≠0 by decide)];rfl
     ·rw [if_neg h4,if_neg h4]
      obtain ⟨j2,e2',ks2',hj2⟩:=Bp2 (nm:=fun x:Aa=>x.Name) (f:=Af0 Abd) (lq:=Ou L m) (fun _ _ _ _=>rfl) m.Sites 0 0 0 [] (by simp;omega) (by
       intro x hx k i v e ks hk
       have hn:okS x.Name:=by have:=(h.site x hx).ok;unfold B7 at this;exact this.1
       rw [Ou,Aat L x.Name ks hn (by omega) hl,Option.bind_some,Beo L x (h.site x hx) hL,Option.bind_some,Gv,Option.bind_some])
      simp only [bne_self_eq_false,cond_false]
      rw [A0k L m L h.sites (Nat.lt_of_le_of_lt h.sites hl),hj2,Option.bind_some]
      by_cases h5:(Fs (fun x:Aa=>x.Name) (Af0 Abd) [] m.Sites).1=0
      ·rw [if_pos h5,S0,h5,Td]
      ·rw [if_neg h5,H2,O4 h5]
   ·rw [if_neg h2,H2,O4 h2]
 ·rw [O4 h0,O4 h0]
  simp only [Um h0,cond_true]
end Go.Proofs.YtogleahbpobaiaaGreat.Ev
namespace Go.Proofs.YtogleahbpobaiaaGreat.Ev
open Go An
set_option maxRecDepth 100000
set_option linter.unusedVariables false
set_option linter.unusedSimpArgs false
set_option linter.unnecessarySimpa false
def rtT(m:Ad)(i:Nat)(r:Ai):Int:=A5a m (i:Int) (r.Params++r.Locals) r.Body
def Ak0(m:Ad):Nat→List Aa→Int
 |_,[]=>0
 |i,d::k=>fE (Ahc (rtT m i) d.Routines) (Ak0 m (i+1) k)
theorem Boc{m:Ad}(h:MG m)(i:Nat)(r:Ai)(hr:Gm r)(hb:Cp r≤1048576)(L:Nat)(hL:m9≤L):Rv L m (i:Int) (r.Params++r.Locals) r.Body=some (rtT m i r):=by
 have hM:=Bd
 obtain ⟨b1,b2,b3⟩:=Amh hb
 exact A01 h.ok h.bk ⟨by rw [List.length_append];omega,fun y hy=>by
  rcases List.mem_append.1 hy with h|h
  ·exact hr.2.1.2 y h
  ·exact hr.2.2.1.2 y h⟩ (i:Int) (show∀y∈r.Body,B4 y from hr.2.2.2.2) L (A1n hL b3)
theorem Caa{m:Ad}(h:MG m)(i:Nat)(r:Ai)(hr:Gm r)(hb:Cp r≤1048576)(L:Nat)(hL:m9≤L):Afl L m (i:Int) (r.Params++r.Locals) r.Body=some (rtT m i r):=by
 have hM:=Bd
 obtain ⟨b1,b2,b3⟩:=Amh hb
 exact Ba4 h.ok h.bk ⟨by rw [List.length_append];omega,fun y hy=>by
  rcases List.mem_append.1 hy with h|h
  ·exact hr.2.1.2 y h
  ·exact hr.2.2.1.2 y h⟩ (i:Int) (show∀y∈r.Body,B4 y from hr.2.2.2.2) L (A1n hL b3)
theorem Ayd{m:Ad}(h:MG m)(i:Nat)(L:Nat)(hL:m9≤L):∀(k:List Ai) (c:Nat) (v:Int),(∀r∈k,Gm r∧Cp r≤1048576)→
  ∃j,Jf L (i:Int) m k c v=some (if Ahc (rtT m i) k=0 then (1,(v,j)) else (0,(Ahc (rtT m i) k,j))):=by
 intro k
 induction k with
 |nil=>intro c v _;exact ⟨c,rfl⟩
 |cons x k ih=>
  intro c v hk
  obtain ⟨hr,hb⟩:=hk x (by simp)
  obtain ⟨j,hj⟩:=ih (c+1) v fun r hr=>hk r (by simp [hr])
  obtain ⟨b1,b2,b3⟩:=Amh hb
  have hM:=Bd
  rw [Jf]
  repeat rw [ifp (by omega)]
  rw [Boc h i x hr hb L hL,Option.bind_some,Ahc]
  by_cases h0:rtT m i x=0
  ·exact ⟨j,by rw [h0,Td];exact hj⟩
  ·exact ⟨c,by rw [O4 h0,Um h0,cond_true,if_neg h0]⟩
theorem MG.routs{m:Ad}(h:MG m){d:Aa}(hd:d∈m.Sites):∀r∈d.Routines,Gm r∧Cp r≤1048576:=fun r hr=>⟨(h.site d hd).routs r hr,(h.site d hd).bkR r hr⟩
theorem Ayc{m:Ad}(h:MG m)(L:Nat)(hL:m9≤L):∀(k:List Aa) (i:Nat) (v:Int),m.Sites.drop i=k→
  ∃j w,Je L m k i v=some (if Ak0 m i k=0 then (1,(w,j)) else (0,(Ak0 m i k,j))):=by
 have hl:=Ta hL
 intro k
 induction k with
 |nil=>intro i v _;exact ⟨i,v,rfl⟩
 |cons x k ih=>
  intro i v hk
  obtain ⟨hi,hx,hk'⟩:=Acs hk
  have hm:x∈m.Sites:=by rw [←hx,Hk _ i hi];exact List.getElem_mem hi
  obtain ⟨c,hc⟩:=Ayd h i L hL x.Routines 0 v (h.routs hm)
  have hlen:=(h.site x hm).ln.2.2.2.2.2.2.2.2.2
  rw [Je,Atz L (i:Int) m L (by rw [Ix,hx];exact hlen) (by rw [Ix,hx];exact Nat.lt_of_le_of_lt hlen hl),Ix,hx,hc,Option.bind_some,Ak0]
  by_cases h0:Ahc (rtT m i) x.Routines=0
  ·obtain ⟨j,w,hj⟩:=ih (i+1) v hk'
   exact ⟨j,w,by rw [if_pos h0,S0,h0,Td];exact hj⟩
  ·exact ⟨i,v,by rw [if_neg h0,H2,O4 h0,if_neg h0]⟩
theorem A00{m:Ad}(h:MG m)(L:Nat)(hL:m9≤L):s9 L m=some (fE (Aiu S4 m) (Ak0 m 0 m.Sites)):=by
 obtain ⟨j,w,hj⟩:=Ayc h L hL m.Sites 0 0 rfl
 simp only [Ap1,U6,Qp,s9,U6,Qp,aN,aB,A38 L m h hL,Option.bind_some,Aty L m L h.sites (Nat.lt_of_le_of_lt h.sites (Ta hL)),hj]
 by_cases h0:Aiu S4 m=0
 ·simp only [h0,bne_self_eq_false,cond_false,Td]
  by_cases h1:Ak0 m 0 m.Sites=0
  ·rw [if_pos h1,S0,h1]
  ·rw [if_neg h1,H2]
 ·simp only [Um h0,cond_true,O4 h0]
theorem A6u{m:Ad}(h:MG m)(i:Nat)(hi:i < m.Sites.length)(L:Nat)(hL:m9≤L):∀(n c:Nat) (v:Int),c≤(m.Sites.getD i default).Routines.length→(m.Sites.getD i default).Routines.length - c < n→
  ∃j,Lf L (i:Int) m n v (c:Int)=some (0,(fE v (Ahc (rtT m i) ((m.Sites.getD i default).Routines.drop c)),j)):=by
 have hM:=Bd
 have hm:m.Sites.getD i default∈m.Sites:=by rw [Hk _ i hi];exact List.getElem_mem hi
 have hlen:=(h.site _ hm).ln.2.2.2.2.2.2.2.2.2
 intro n
 induction n with
 |zero=>intro c v _ hn;omega
 |succ n ih=>
  intro c v hc hn
  by_cases hlt:c < (m.Sites.getD i default).Routines.length
  ·have hr:(m.Sites.getD i default).Routines.getD c default∈(m.Sites.getD i default).Routines:=by rw [Hk _ c hlt];exact List.getElem_mem hlt
   obtain ⟨o,b⟩:=h.routs hm _ hr
   obtain ⟨b1,b2,b3⟩:=Amh b
   have hloc:Ag6 L ((m.Sites.getD i default).Routines.getD c default)=some (((m.Sites.getD i default).Routines.getD c default).Params++((m.Sites.getD i default).Routines.getD c default).Locals):=by
    simp only [Ana,Ag6,aN,aB]
    repeat rw [ifp (by omega)]
   rw [Y8 _ c hlt,Ahc]
   simp only [Lf,Aal,aN,aB,nn,Ky hi,if_true,Ix,decide_true,cond_true,Ky hlt,hloc,Caa h i _ o b L hL,Option.bind_some,Bb hlt hlen]
   by_cases h0:v=0
   ·obtain ⟨j,hj⟩:=ih (c+1) (rtT m i ((m.Sites.getD i default).Routines.getD c default)) hlt (by omega)
    exact ⟨j,by simp only [h0,beq_self_eq_true,cond_true,Td];exact hj⟩
   ·obtain ⟨j,hj⟩:=ih (c+1) v hlt (by omega)
    rw [O4 h0] at hj
    exact ⟨j,by simp only [beq_false_of_ne h0,cond_false,O4 h0];exact hj⟩
  ·rw [List.drop_eq_nil_of_le (by omega),Ahc,B4k]
   exact ⟨c,by simp only [Lf,Aal,aN,aB,nn,Ky hi,if_true,Ix,Eo (show (m.Sites.getD i default).Routines.length≤c by omega),cond_false]⟩
theorem A6t{m:Ad}(h:MG m)(L:Nat)(hL:m9≤L):∀(k:List Aa) (i:Nat) (v:Int),m.Sites.drop i=k→∃j,Lp L m k i v=some (0,(fE v (Ak0 m i k),j)):=by
 have hl:=Ta hL
 intro k
 induction k with
 |nil=>intro i v _;exact ⟨i,by rw [Lp,Ak0,B4k]⟩
 |cons x k ih=>
  intro i v hk
  obtain ⟨hi,hx,hk'⟩:=Acs hk
  have hm:x∈m.Sites:=by rw [←hx,Hk _ i hi];exact List.getElem_mem hi
  have hlen:=(h.site x hm).ln.2.2.2.2.2.2.2.2.2
  obtain ⟨c,hc⟩:=A6u h i hi L hL L 0 v (Nat.zero_le _) (by rw [hx];omega)
  rw [hx,List.drop_zero] at hc
  have hc:Lf L (i:Int) m L v 0=_:=hc
  obtain ⟨j,hj⟩:=ih (i+1) (fE v (Ahc (rtT m i) x.Routines)) hk'
  exact ⟨j,by rw [Lp,hc,Option.bind_some,H2,hj,Alp,Ak0]⟩
theorem Ba3{m:Ad}(h:MG m)(L:Nat)(hL:m9≤L):Ajk L m=some (fE (Aiu Abd m) (Ak0 m 0 m.Sites)):=by
 obtain ⟨j,hj⟩:=A6t h L hL m.Sites 0 (Aiu Abd m) rfl
 simp only [Ay1,Abz,Wc,Ajk,Abz,Wc,aN,aB,Baz L m h hL,Option.bind_some,A0s L m L h.sites (Nat.lt_of_le_of_lt h.sites (Ta hL)),hj,H2]
end Go.Proofs.YtogleahbpobaiaaGreat.Ev
