/-  Chapter 11, plainly: Check of the reference: its parts. -/
import Derived.Test.YtofcpkmnhmnfcaaGreatRQA
import Derived.Test.YtofcpkmnhmnfcaaGreatRCF
import Derived.Test.YtofcpkmnhmnfcaaGreatRPO
namespace Go.Proofs.YtofcpkmnhmnfcaaGreatR.Ev
open Go An
set_option maxRecDepth 100000
set_option linter.unusedVariables false
set_option linter.unusedSimpArgs false
set_option linter.unnecessarySimpa false
theorem Apm(a b c:Int):fE (fE a b) c=fE a (fE b c):=by
 by_cases h:a=0
 ·subst h;rfl
 ·rw [Rr h,Rr h,Rr h]
theorem Cbf(a:Int):fE a 0=a:=by
 by_cases h:a=0
 ·subst h;rfl
 ·rw [Rr h]
theorem Hs(L:Nat)(a b:Int):C8 L a b=some (fE a b):=by
 simp only [Ato,C8,aN,aB]
 by_cases h:a=0
 ·simp [h,Vx]
 ·simp [Wl h,Rr h]
theorem Hq(L:Nat)(c:Bool)(e:Int):B8 L c e=some (unl c e):=by
 simp only [Aq6,B8,aN,aB,unl]
 cases c<;>rfl
theorem L7(L:Nat)(x lo hi:Int):Dp L x lo hi=some (Bm lo hi x):=by
 simp only [Aq7,Dp,aN,aB,Dq,ge_iff_le,Bm]
theorem Arx(L:Nat)(t:Int):Yy L t=some (Oy t):=by
 simp only [Atn,Yy,aN,aB,Ly,Oy,Bm]
 congr 1
 by_cases h1:t=1
 ·subst h1;rfl
 ·by_cases h2:t=2
  ·subst h2;rfl
  ·by_cases h3:t=3
   ·subst h3;rfl
   ·rw [beq_false_of_ne h1,beq_false_of_ne h2,beq_false_of_ne h3]
    by_cases h4:1≤t
    ·rw [decide_eq_true h4,decide_eq_false (show¬t≤3 by omega)];rfl
    ·rw [decide_eq_false h4];rfl
theorem Anw(L:Nat)(t n:Int):Tf L t n=some (Afy t n):=by
 simp only [Awy,Tf,aN,aB,A1t,L7,Option.bind_some,Ly,Afy]
 by_cases h1:t=1
 ·simp [h1]
 ·by_cases h2:t=2
  ·simp [h2]
  ·by_cases h3:t=3
   ·simp [h3]
   ·simp [h1,h2,h3,beq_false_of_ne h1,beq_false_of_ne h2,beq_false_of_ne h3]
theorem Bga(l:List ByteArray)(n:ByteArray):decide (A92 l n < 0)= !l.any fun x=>decide (x=n):=by
 unfold A92
 rw [Adr]
 cases h:l.findIdx? fun x=>decide (x=n) with
 |none=>rw [Ay1 h];rfl
 |some i=>rw [Au7 h];rfl
theorem Aej(L:Nat)(n:ByteArray)(bf:List ByteArray)(hn:okS n)(hb:bf.length≤maxLen)(hL:maxLen < L):Oz L n bf=some (Yt bf n):=by
 have hM:=Bb
 simp only [Atp,Oz,aN,aB,Aei L n hn (Nat.lt_of_le_of_lt hn hL) (by omega),Aji L bf n hb (by omega),Hq,Hs,Option.bind_some,Bga,Yt]
theorem Beb(L:Nat)(x:Ag)(bf:List ByteArray)(hx:Jp x)(hb:bf.length≤maxLen)(hL:maxLen < L):Ai2 L x bf=some (fE (Yt bf x.Name) (V8 x)):=by
 simp only [Atr,Ai2,aN,aB,Aej L x.Name bf hx.1 hb hL,Arx,Anw,Hq,Hs,Option.bind_some,Ave,Apm]
theorem A16(L:Nat)(r:Ah)(hl:r.Shift.length≤maxLen)(hc:B7 (r.Cycle - 1)=r.Cycle - 1):∀(k:List F1) (i:Nat) (v:Int),r.Shift.drop i=k→
  ∃j,Ib L r k i v=some (if A7b r.Cycle (pvA r.Shift i) k=0 then (1,(v,j)) else (0,(A7b r.Cycle (pvA r.Shift i) k,j))):=by
 intro k
 induction k with
 |nil=>intro i v _;exact ⟨i,rfl⟩
 |cons x k ih=>
  intro i v h
  obtain ⟨hi,hx,hk⟩:=Pt h
  obtain ⟨j,hj⟩:=ih (i+1) v hk
  rw [Bh4 h] at hj
  rw [Ib]
  simp only [L7,Option.bind_some,hc,Bpr r.Shift i hi hl,hj,Bbi]
  rcases Bool.eq_false_or_eq_true (Bm 0 (r.Cycle - 1) x.At) with hA|hA
  ·rcases Bool.eq_false_or_eq_true (Bm 0 1000 x.Units) with hB|hB
   ·rcases Bool.eq_false_or_eq_true (geq (pvA r.Shift i) x.At) with hC|hC
    ·exact ⟨i,by simp [hA,hB,hC]⟩
    ·exact ⟨j,by simp [hA,hB,hC]⟩
   ·exact ⟨i,by simp [hA,hB]⟩
  ·exact ⟨i,by simp [hA]⟩
theorem A4p(L:Nat)(r:Ah)(hl:r.Shift.length≤maxLen)(hL:maxLen < L):Ac6 L r=some (Ax5 r):=by
 have e20:decide ((r.Shift.length:Int) > 20)=decide (20 < r.Shift.length):=gtN _ 20
 simp only [Atm,Yh,S1,Ac6,Yh,S1,aN,aB,L7,Hq,Option.bind_some,B50,e20,Bcc]
 by_cases h0:r.Shift.length=0
 ·rw [decide_eq_true h0,if_pos h0,cond_true]
 ·rw [decide_eq_false h0,if_neg h0,cond_false]
  by_cases h2:20 < r.Shift.length
  ·rw [decide_eq_true h2,if_pos h2];rfl
  ·rw [decide_eq_false h2,if_neg h2,cond_false]
   rcases Bool.eq_false_or_eq_true (Bm 1 1000000000 r.Cycle) with hr|hr
   ·obtain ⟨j,hj⟩:=A16 L r hl (cyc hr) r.Shift 0 0 rfl
    rw [Axo L r L hl (Nat.lt_of_le_of_lt hl hL),hj,hr]
    simp only [Bool.not_true,cond_false,Option.bind_some,Bool.true_eq_false,if_false]
    have e:pvA r.Shift 0=none:=rfl
    rw [e]
    by_cases hz:A7b r.Cycle none r.Shift=0
    ·rw [if_pos hz,Kx,hz]
    ·rw [if_neg hz,Gm]
   ·rw [hr];rfl
theorem A4q(L:Nat)(s:Aa)(r:Ah)(h1:r.Shift.length≤maxLen)(hs:s.Streams.length≤maxLen)(hb:L3 r.Fault≤1048576)(hL:maxLen < L):Yz L s r=some (Bih s r):=by
 have hz:(⟨0,0,0,0,[],[]⟩:Bn)=Ajt:=rfl
 unfold L3 at hb
 have d1:okD r.Fault.Up:=A1s (by omega)
 have d2:okD r.Fault.Down:=A1s (by omega)
 simp only [Al1,Yz,aN,aB,D0,A6h,L7,Hq,Hs,A4p L r h1 hL,Acw L r.Fault.Up _ d1 hL,Acw L r.Fault.Down _ d2 hL,Arv L r.Fault.Up d1 hL,Arv L r.Fault.Down d2 hL,Aji L s.Streams r.Fault.Stream hs (Nat.lt_of_le_of_lt hs hL),Bga,Option.bind_some,Bps,Bf9,←Apm,hz]
 by_cases h0:fE (unl (Bm 0 1000 r.Units) 2) (Ax5 r)=0
 ·rw [h0,Vx]
  simp only [bne_self_eq_false,cond_false]
  by_cases h2:r.Fault.Stream.size=0
  ·simp only [h2,decide_true,cond_true,if_true]
   cases Amw r.Fault.Up Ajt<;>cases Amw r.Fault.Down Ajt<;>rfl
  ·simp only [h2,decide_false,cond_false,if_false]
   rcases Bool.eq_false_or_eq_true (s.Streams.any fun x=>decide (x=r.Fault.Stream)) with h3|h3
   ·simp [h3]
   ·simp [h3]
 ·rw [Rr h0]
  simp only [Wl h0,cond_true]
theorem B7k{α :Type}{nm: α→ByteArray}{f: α→Int}{lq:List α→Nat→Int→List ByteArray→Option (Nat×(Int×List ByteArray×Int))}
  (hn:∀i v ks,lq [] i v ks=some (1,(v,ks,(i:Int)))):∀(k:List α) (i:Nat) (v:Int) (ks:List ByteArray),ks.length+k.length≤1099511627776→
  (∀x∈k,∀(k:List α) (i:Nat) (v:Int) (ks:List ByteArray),ks.length≤1099511627776→lq (x::k) i v ks=bif fE (Yt ks (nm x)) (f x) != 0 then some (0,(fE (Yt ks (nm x)) (f x),ks,(i:Int))) else if (ks.length+ [nm x].length)*16≤140737488355328 then (if ks.length+ [nm x].length≤maxLen then lq k (i+1) v (ks++ [nm x]) else none) else none)→
  ∃j ks',lq k i v ks=some (if (F2 nm f ks k).1=0 then (1,(v,ks',j)) else (0,((F2 nm f ks k).1,ks',j)))∧((F2 nm f ks k).1=0→ks'=(F2 nm f ks k).2):=by
 intro k
 induction k with
 |nil=>intro i v ks _ _;exact ⟨i,ks,by rw [hn,F2];rfl,fun _=>rfl⟩
 |cons x k ih=>
  intro i v ks hl h
  rw [List.length_cons] at hl
  rw [h x (by simp) k i v ks (by omega)]
  by_cases h0:fE (Yt ks (nm x)) (f x)=0
  ·have e:F2 nm f ks (x::k)=F2 nm f (ks++ [nm x]) k:=by rw [F2,if_neg (by simp [h0])]
   obtain ⟨j,ks',hj,he⟩:=ih (i+1) v (ks++ [nm x]) (by simp only [List.length_append,List.length_singleton];omega) fun y hy=>h y (by simp [hy])
   rw [e,h0]
   refine ⟨j,ks',?_,he⟩
   have hM:=Bb
   simp only [bne_self_eq_false,cond_false,List.length_singleton]
   rw [if_pos (by omega),if_pos (by omega),hj]
  ·have e:F2 nm f ks (x::k)=(fE (Yt ks (nm x)) (f x),ks):=by rw [F2,if_pos h0]
   rw [e]
   exact ⟨i,ks,by simp only [Wl h0,cond_true,if_neg h0],fun hh=>absurd hh h0⟩
theorem A8m(L:Nat)(r:Am)(hr:Ii r)(hb:Dw r≤1048576)(hL:Ti≤L):Ahs L r=some (Az6 r):=by
 have hM:=Bb
 obtain ⟨b1,b2,b3⟩:=Ajn hb
 have hL':maxLen < L:=Ow hL
 have e1:decide ((r.Params.length:Int) > 6)=decide (6 < r.Params.length):=gtN _ 6
 have e2:B7 ((r.Params.length:Int)+(r.Locals.length:Int))=((r.Params.length+r.Locals.length:Nat):Int):=by rw [Z9 (by omega) (by omega)];omega
 have e3:decide (((r.Params.length+r.Locals.length:Nat):Int) > 16)=decide (16 < r.Params.length+r.Locals.length):=gtN _ 16
 have c2:=Azt (show∀y∈r.Body,B2 y from hr.2.2.2.2) L (Au8 hL b3)
 simp only [Avw,w4,U3,Ahs,w4,U3,aN,aB,e1,e2,e3,Ly,Bii]
 by_cases h0:6 < r.Params.length∨16 < r.Params.length+r.Locals.length
 ·rw [if_pos h0]
  have:(decide (6 < r.Params.length) || decide (16 < r.Params.length+r.Locals.length))=true:=by simpa using h0
  rw [this];rfl
 ·rw [if_neg h0]
  have:(decide (6 < r.Params.length) || decide (16 < r.Params.length+r.Locals.length))=false:=by simpa using h0
  rw [this,cond_false]
  repeat rw [ifp (by omega)]
  rw [Aza L r L (by simp;omega) (by simp;omega)]
  obtain ⟨j,ks',hj,_⟩:=B7k (nm:=fun f:Ap=>f.Name) (f:=fun f=>unl (Oy f.Type_) 1) (lq:=Lp L r) (fun _ _ _=>rfl) (r.Params++r.Locals) 0 0 [] (by simp;omega) (by
   intro x hx k i v ks hk
   have ho:okS x.Name:=by
    rcases List.mem_append.1 hx with h|h
    ·exact (hr.2.1.2 x h).1
    ·exact (hr.2.2.1.2 x h).1
   rw [Lp]
   simp only [Aej L x.Name ks ho (by omega) hL',Arx,Hq,Hs,Option.bind_some])
  rw [hj,Option.bind_some]
  by_cases hz:(F2 (fun f:Ap=>f.Name) (fun f=>unl (Oy f.Type_) 1) [] (r.Params++r.Locals)).1=0
  ·rw [if_pos hz,Kx,hz,Vx,c2];rfl
  ·rw [if_neg hz,Gm,Rr hz]
theorem Bay(L:Nat)(s:Aa)(n:Nat)(d:Br):∀(k:List Ap) (i:Nat) (v:Int),i+k.length=d.Args.length→
  ∃j,Mu L s (n:Int) d k i v=some (if Apg k (d.Args.drop i)=true then (1,(v,j)) else (0,(2,j))):=by
 intro k
 induction k with
 |nil=>intro i v _;exact ⟨i,by unfold Apg;simp [Mu]⟩
 |cons x k ih=>
  intro i v h
  rw [List.length_cons] at h
  have hi:i < d.Args.length:=by omega
  obtain ⟨j,hj⟩:=ih (i+1) v (by omega)
  rw [Mu]
  simp only [Z8,Hp hi,if_true,Anw,Option.bind_some,hj]
  have e:Apg (x::k) (d.Args.drop i)=(Afy x.Type_ (d.Args.getD i default) && Apg k (d.Args.drop (i+1))):=by
   unfold Apg
   rw [Abd d.Args i hi,List.zip_cons_cons,List.all_cons]
  rw [e]
  cases Afy x.Type_ (d.Args.getD i default) with
  |false=>exact ⟨i,rfl⟩
  |true=>exact ⟨j,by simp⟩
theorem Bea(L:Nat)(s:Aa)(d:Br)(hs:Ys s 1099511627776)(hd:d.Args.length≤maxLen)(hL:maxLen < L):Acl L s d=some (A2f s d):=by
 have hM:=Bb
 simp only [A2w,Afi,Zx,Acl,Afi,Zx,aN,aB,Amr L s d.Routine hs hL,Option.bind_some,U2,Adr,Bce,Ame]
 cases hf:s.Routines.findIdx? (fun x=>decide (x.Name=d.Routine)) with
 |none=>rfl
 |some i=>
  have hi:=Aj1 hf
  simp only [Option.isNone_some,cond_false,N7,nn,if_true,Hp hi,Z8,Option.map_some]
  by_cases hn:d.Args.length=(s.Routines.getD i default).Params.length
  ·rw [if_neg (by simpa using hn)]
   have:((d.Args.length:Int) != ((s.Routines.getD i default).Params.length:Int))=false:=by rw [hn];simp
   rw [this,cond_false,A4h L s _ d L (by rw [Z8];omega) (by rw [Z8];omega)]
   obtain ⟨j,hj⟩:=Bay L s i d (s.Routines.getD i default).Params 0 0 (by omega)
   rw [Z8,hj,Option.bind_some,List.drop_zero]
   cases Apg (s.Routines.getD i default).Params d.Args with
   |false=>rfl
   |true=>
    simp only [if_true,Kx,L7,Hq,Option.bind_some,Bool.true_eq_false,if_false]
    cases Bm 0 1000000000 d.At<;>cases Bm 0 1000000000 d.Every<;>cases Bm 0 1000000000 d.Until<;>rfl
  ·rw [if_pos (by simpa using hn)]
   have:((d.Args.length:Int) != ((s.Routines.getD i default).Params.length:Int))=true:=bne_iff_ne.2 (by omega)
   rw [this];rfl
theorem Bzv(s:Aa)(t:Ay):Ae4 s t=if Aku t.What=0 then 1
 else if Hf s t.Name≠(if Aku t.What=1 then Y8 else if Aku t.What=2 then Ja else Uv) then 5 else A28 t:=rfl
theorem p9(L:Nat)(s:Aa)(t:Ay)(w:ByteArray)(h:Ys s 1099511627776)(hL:maxLen < L):(T9 L s t w:Option Int)=some (fE (unl (!decide (w.size=0)) 1) (fE (unl (decide (Hf s t.Name=w)) 5) (A28 t))):=by
 have hM:=Bb
 simp only [T9,aN,aB,D0,A6h,Hq,Hs,L7,Anx L s t.Name h hL,Option.bind_some,Dq,Apm,A28]
theorem tR(s:Aa)(n w:ByteArray)(c:Int)(hw:decide (w.size=0)=false):fE (unl (!decide (w.size=0)) 1) (fE (unl (decide (Hf s n=w)) 5) c)=if Hf s n≠w then 5 else c:=by
 rw [hw]
 by_cases h:Hf s n=w
 ·rw [decide_eq_true h,if_neg (by simpa using h)];rfl
 ·rw [decide_eq_false h,if_pos h];rfl
theorem Bhu(L:Nat)(s:Aa)(t:Ay)(h:Ys s 1099511627776)(hL:maxLen < L):Alx L s t=some (Ae4 s t):=by
 have k1:(⟨#[114,111,117,116,105,110,101]⟩:ByteArray)=Y8:=rfl
 have k2:(⟨#[115,116,111,114,101]⟩:ByteArray)=Ja:=rfl
 have k3:(⟨#[99,111,117,110,116]⟩:ByteArray)=Uv:=rfl
 have t0:(T9 L s t ⟨#[]⟩:Option Int)=some 1:=by rw [p9 L s t _ h hL];rfl
 have t1:=p9 L s t Y8 h hL
 have t2:=p9 L s t Ja h hL
 have t3:=p9 L s t Uv h hL
 rw [tR _ _ _ _ rfl] at t1 t2 t3
 simp only [Alx,A60,sx_R11_term_0,Ao2,sx_R11_term_2,Ao3,sx_R11_term_3,aN,D0,B8t,B8u,B8v,B8w,B8x,B8y,B8z,k1,k2,k3,t0,t1,t2,t3,Bzv,Bi3]
 by_cases c1:t.What=wd1
 ·simp [c1]
 by_cases c2:t.What=wd2
 ·simp [c1,c2,wdn]
 by_cases c3:t.What=wd3
 ·simp [c1,c2,c3,wdn]
 by_cases c4:t.What=wd4
 ·simp [c1,c2,c3,c4,wdn]
 by_cases c5:t.What=wd5
 ·simp [c1,c2,c3,c4,c5,wdn]
 by_cases c6:t.What=wd6
 ·simp [c1,c2,c3,c4,c5,c6,wdn]
 by_cases c7:t.What=wd7
 ·simp [c1,c2,c3,c4,c5,c6,c7,wdn]
 ·simp [c1,c2,c3,c4,c5,c6,c7]
theorem Bh5(L:Nat)(s:Aa)(l:A9)(h:Ys s 1099511627776)(hL:maxLen < L):∀(k:List Ay) (i:Nat) (v:Int),∃j,Sx L s l k i v=some (0,(fE v (Ak6 (Ae4 s) k),j)):=by
 intro k
 induction k with
 |nil=>intro i v;exact ⟨i,by rw [Sx,Ak6,Cbf]⟩
 |cons x k ih=>
  intro i v
  obtain ⟨j,hj⟩:=ih (i+1) (fE v (Ae4 s x))
  refine ⟨j,?_⟩
  rw [Sx,Bhu L s x h hL,Option.bind_some,Hs,Option.bind_some,hj,Apm,Ak6]
theorem Bkh(L:Nat)(s:Aa)(l:A9)(bf:List ByteArray)(hl:Af6 l)(hs:Ys s 1099511627776)(hb:bf.length≤maxLen)(hL:maxLen < L):Apa L s l bf=some (fE (Yt bf l.Name) (A32 (Ae4 s) l)):=by
 obtain ⟨j,hj⟩:=Bh5 L s l hs hL l.Terms 0 (fE (Yt bf l.Name) (fE (unl (decide (0 < l.Terms.length)) 7) (unl (decide (l.Terms.length≤8)) 6)))
 have e1:decide ((l.Terms.length:Int) > 0)=decide (0 < l.Terms.length):=gtN _ 0
 have e2:decide ((l.Terms.length:Int)≤8)=decide (l.Terms.length≤8):=decide_eq_decide.2 (by omega)
 simp only [Bbb,Alm,Aev,Apa,Alm,Aev,aN,aB,Aej L l.Name bf hl.1 hb hL,Hq,Hs,A1t,Option.bind_some,e1,e2,A94 L s l L hl.2.1.1 (Nat.lt_of_le_of_lt hl.2.1.1 hL),hj,Gm,Bpo,Apm]
theorem kd0(L:Nat)(s:Aa)(i:Nat)(hi:i < s.Vars.length):Dg L s 0 (i:Int)=some (V8 (s.Vars.getD i default)):=by
 simp only [Me,Dg,aN,aB,beq_self_eq_true,cond_true,nn,Hp hi,if_true,Z8,Arx,Anw,Hq,Hs,Option.bind_some,Ave]
theorem kd1(L:Nat)(s:Aa)(i:Nat)(hi:i < s.Resources.length)(h:SG s)(hL:maxLen < L):Dg L s 1 (i:Int)=some (Bih s (s.Resources.getD i default)):=by
 have hm:s.Resources.getD i default∈s.Resources:=by rw [Hb _ i hi];exact List.getElem_mem hi
 have e:=A4q L s (s.Resources.getD i default) (h.res _ hm).2.2.1.1 h.ln.2.2.2.2.2.1 (h.bkD _ hm) hL
 simp only [Me,Dg,aN,aB,nn,Hp hi,if_true,Z8]
 show (Option.bind (Yz L s (s.Resources.getD i default)) fun r6=>some r6)=_
 rw [e];rfl
theorem kd2(L:Nat)(s:Aa)(i:Nat)(hi:i < s.Stores.length):Dg L s 2 (i:Int)=some (Ax9 (s.Stores.getD i default)):=by
 have e:∀p:Int,(decide (p≥1) && decide (p≤3))=Bm 1 3 p:=fun _=>rfl
 simp only [Me,Dg,aN,aB,nn,Hp hi,if_true,Z8,L7,Hq,Hs,Option.bind_some,Dq,e,Bci]
 rfl
theorem kd3(L:Nat)(s:Aa)(i:Nat)(hi:i < s.Belts.length):Dg L s 3 (i:Int)=some (A66 (s.Belts.getD i default)):=by
 simp only [Me,Dg,aN,aB,nn,Hp hi,if_true,Z8,L7,Hq,Hs,Option.bind_some,Bfr,Dt]
 cases Bm 1 1000 (s.Belts.getD i default).Length<;>cases Bm 1 1000 (s.Belts.getD i default).Step<;>rfl
theorem kd9(L:Nat)(s:Aa)(i:Nat)(hi:i < s.Routines.length)(h:SG s)(hL:Ti≤L):Dg L s 9 (i:Int)=some (Az6 (s.Routines.getD i default)):=by
 have hm:s.Routines.getD i default∈s.Routines:=by rw [Hb _ i hi];exact List.getElem_mem hi
 simp only [Me,Dg,aN,aB,nn,Hp hi,if_true,Z8,A8m L _ (h.routs _ hm) (h.bkR _ hm) hL,Option.bind_some]
 rfl
theorem kdN(L:Nat)(s:Aa)(κ :Int)(i:Int)(h: κ =4∨κ =5∨κ =6∨κ =7∨κ =8):Dg L s κ i=some 0:=by
 rcases h with rfl|rfl|rfl|rfl|rfl<;>(simp only [Me,Dg,aN,aB];rfl)
theorem Bsw{α :Type} [Inhabited α](nm: α→ByteArray)(xs:List α)(i:Nat)(hi:i < xs.length):(xs.map nm).getD i default=nm (xs.getD i default):=by
 rw [Hb _ i (by simpa using hi),Hb _ i hi,List.getElem_map]
theorem Bex{α :Type} [Inhabited α](nm: α→ByteArray)(g: α→Int)(xs:List α)(L:Nat)(s:Aa)(r1:List (List ByteArray))(κ :Nat)(hκ : κ < r1.length)(hr:r1.getD κ default=xs.map nm)
  (hd:∀i,i < xs.length→Dg L s (κ :Int) (i:Int)=some (g (xs.getD i default))) (ho:∀x∈xs,okS (nm x)) (hL:maxLen < L) (hx:xs.length≤1048576):
  ∀(n i:Nat) (v:Int) (ks:List ByteArray),ks.length+xs.length≤1099511627776+i→i≤xs.length→xs.length - i < n→
  ∃j ks',Pq L r1 (κ :Int) s n v ks (i:Int)=some (if (F2 nm g ks (xs.drop i)).1=0 then (1,(v,ks',j)) else (0,((F2 nm g ks (xs.drop i)).1,ks',j)))∧((F2 nm g ks (xs.drop i)).1=0→ks'=(F2 nm g ks (xs.drop i)).2):=by
 intro n
 have hM:=Bb
 induction n with
 |zero=>intro i v ks _ _ h;omega
 |succ n ih=>
  intro i v ks hk hi hn
  have hlen:((r1.getD κ default).length:Int)=(xs.length:Int):=by rw [hr,List.length_map]
  have hlen':(r1.getD κ default).length=xs.length:=by rw [hr,List.length_map]
  by_cases hlt:i < xs.length
  ·have hg:(r1.getD κ default).getD i default=nm (xs.getD i default):=by rw [hr,Bsw nm xs i hlt]
   have hm:xs.getD i default∈xs:=by rw [Hb _ i hlt];exact List.getElem_mem hlt
   have hnd:=Aej L (nm (xs.getD i default)) ks (ho _ hm) (by omega) hL
   simp only [Pq,Aid,aN,aB,nn,Hp hκ,if_true,Z8,hlen,hlen',C5 hlt,Hp hlt,decide_true,cond_true,hg,hnd,hd i hlt,Hs,Option.bind_some]
   rw [Abd xs i hlt]
   by_cases h0:fE (Yt ks (nm (xs.getD i default))) (g (xs.getD i default))=0
   ·have e:F2 nm g ks (xs.getD i default::xs.drop (i+1))=F2 nm g (ks++ [nm (xs.getD i default)]) (xs.drop (i+1)):=by rw [F2,if_neg (fun hh=>hh h0)]
    obtain ⟨j,ks',hj,he⟩:=ih (i+1) v (ks++ [nm (xs.getD i default)]) (by simp only [List.length_append,List.length_singleton];omega) hlt (by omega)
    rw [e]
    refine ⟨j,ks',?_,he⟩
    simp only [h0,bne_self_eq_false,cond_false,List.length_singleton]
    rw [if_pos (by omega),if_pos (by omega),Aw hlt (by omega),hj]
   ·have e:F2 nm g ks (xs.getD i default::xs.drop (i+1))=(fE (Yt ks (nm (xs.getD i default))) (g (xs.getD i default)),ks):=by rw [F2,if_pos h0]
    rw [e]
    exact ⟨i,ks,by simp only [Wl h0,cond_true,if_neg h0],fun hh=>absurd hh h0⟩
  ·have e:xs.drop i= []:=List.drop_eq_nil_of_le (by omega)
   rw [e,F2]
   refine ⟨i,ks,?_,fun _=>rfl⟩
   simp only [Pq,Aid,aN,aB,nn,Hp hκ,if_true,Z8,hlen,C4 (show xs.length≤i by omega),cond_false]
def Gr(e v:Int)(X:Option (Nat×(Int×List ByteArray×Int))):Prop:=∃a b,X=some (if e=0 then (1,(v,a,b)) else (0,(e,a,b)))
theorem W9{α :Type} [Inhabited α](nm: α→ByteArray)(g: α→Int)(xs:List α)(most:Nat)(L:Nat)(s:Aa)(r1:List (List ByteArray))(κ :Nat)(hκ : κ < r1.length)(hr:r1.getD κ default=xs.map nm)
  (hmost:(κ =9∧most=16)∨(κ≠9∧most=32))
  (hd:∀i,i < xs.length→Dg L s (κ :Int) (i:Int)=some (g (xs.getD i default))) (ho:∀x∈xs,okS (nm x)) (hL:maxLen < L) (hx:xs.length≤1048576)
  (f:List ByteArray→Int×List ByteArray) (k:List (List ByteArray)) (v:Int) (ks:List ByteArray) (c:Nat) (hc:ks.length≤c) (hcc:c≤1000)
  (h:∀ks',ks'.length≤c+32→Gr (f ks').1 v (Jn L r1 s k (κ +1) v ks')):Gr (Ps (Lz most nm g ks xs) f).1 v (Jn L r1 s (xs.map nm::k) κ v ks):=by
 have hM:=Bb
 have e32:decide ((xs.length:Int) > 32)=decide (32 < xs.length):=gtN _ 32
 have e16:decide ((xs.length:Int) > 16)=decide (16 < xs.length):=gtN _ 16
 rw [Jn]
 simp only [List.length_map,e32,e16,nn,if_true,Hp hκ]
 have hb:(bif decide (32 < xs.length) then some true else bif ((κ :Int) == 9) then some (decide (16 < xs.length)) else some false)=some (decide (most < xs.length)):=by
  rcases hmost with ⟨rfl,rfl⟩|⟨h9,rfl⟩
  ·by_cases h1:32 < xs.length
   ·rw [decide_eq_true h1,decide_eq_true (show 16 < xs.length by omega)];rfl
   ·rw [decide_eq_false h1];rfl
  ·rw [beq_false_of_ne (show¬(κ :Int)=9 by omega)]
   cases decide (32 < xs.length)<;>rfl
 rw [hb,Option.bind_some]
 unfold Lz
 by_cases hm:most < xs.length
 ·rw [decide_eq_true hm,if_pos hm]
  exact ⟨ks,κ,rfl⟩
 ·rw [decide_eq_false hm,if_neg hm,cond_false]
  obtain ⟨j,ks',hj,he⟩:=Bex nm g xs L s r1 κ hκ hr hd ho hL hx L 0 v ks (by omega) (by omega) (by omega)
  rw [List.drop_zero] at hj he
  have hj:Pq L r1 (κ :Int) s L v ks 0=_:=hj
  rw [hj,Option.bind_some]
  unfold Ps
  by_cases h0:(F2 nm g ks xs).1=0
  ·rw [if_neg (by simp [h0]),if_pos h0,Kx,←he h0]
   refine h ks' ?_
   have:=(A7h nm g xs ks h0).1
   rw [he h0,this,List.length_append,List.length_map]
   rcases hmost with ⟨_,rfl⟩|⟨_,rfl⟩<;>omega
  ·rw [if_pos h0,if_neg h0,Gm]
   exact ⟨ks',κ,by rw [if_neg h0]⟩
theorem Bzw(p:Int×List ByteArray):p.1=(Ps p fun b=>(0,b)).1:=by
 unfold Ps
 by_cases h:p.1=0
 ·rw [if_neg (by simp [h]),h]
 ·rw [if_pos h]
theorem A1v(L:Nat)(s:Aa)(h:SG s)(hL:Ti≤L):Gr (Ari s).1 0 (Jn L (Ji s) s (Ji s) 0 0 []):=by
 have hl:=Ow hL
 obtain ⟨l0,l1,l2,l3,l4,l5,l6,l7,l8,l9⟩:=(A7u s).mono h.bk
 rw [Bzw,Ari]
 simp only [A9t]
 have e4:∀l:List ByteArray,l.map (fun x=>x)=l:=fun l=>List.map_id' l
 have lt10:∀ {n:Nat},n < 10→n < (Ji s).length:=fun h=>h
 have e5:∀k,k=Ji s→k= [s.Vars.map fun x=>x.Name,s.Resources.map fun x=>x.Name,s.Stores.map fun x=>x.Name,s.Belts.map fun x=>x.Name,s.Queues.map fun x=>x,s.Streams.map fun x=>x,s.Tallies.map fun x=>x,s.Levels.map fun x=>x,s.Counts.map fun x=>x,s.Routines.map fun x=>x.Name]:=by
  intro k hk
  rw [hk,e4,e4,e4,e4,e4]
  rfl
 suffices H:∀k,k=Ji s→Gr (Ps (Lz 32 (fun x:Ag=>x.Name) V8 [] s.Vars) fun b=>Ps (Lz 32 (fun x:Ah=>x.Name) (Bih s) b s.Resources) fun b=>Ps (Lz 32 (fun x:Ar=>x.Name) Ax9 b s.Stores) fun b=>Ps (Lz 32 (fun x:Ax=>x.Name) A66 b s.Belts) fun b=>Ps (txE b s.Queues) fun b=>Ps (txE b s.Streams) fun b=>Ps (txE b s.Tallies) fun b=>Ps (txE b s.Levels) fun b=>Ps (txE b s.Counts) fun b=>Ps (Lz 16 (fun x:Am=>x.Name) Az6 b s.Routines) fun b=>(0,b)).1 0 (Jn L (Ji s) s k 0 0 []) from H _ rfl
 intro k hk
 rw [e5 k hk]
 refine W9 _ _ s.Vars 32 L s (Ji s) 0 (lt10 (by decide)) rfl (.inr ⟨by decide,rfl⟩) (fun i hi=>kd0 L s i hi) (fun x hx=>(h.vars x hx).1) hl l0 _ _ 0 [] 0 (Nat.le_refl _) (by decide) fun ks1 k1=> ?_
 refine W9 _ _ s.Resources 32 L s (Ji s) 1 (lt10 (by decide)) rfl (.inr ⟨by decide,rfl⟩) (fun i hi=>kd1 L s i hi h hl) (fun x hx=>(h.res x hx).1) hl l1 _ _ 0 ks1 _ k1 (by decide) fun ks2 k2=> ?_
 refine W9 _ _ s.Stores 32 L s (Ji s) 2 (lt10 (by decide)) rfl (.inr ⟨by decide,rfl⟩) (fun i hi=>kd2 L s i hi) (fun x hx=>(h.stores x hx).1) hl l2 _ _ 0 ks2 _ k2 (by decide) fun ks3 k3=> ?_
 refine W9 _ _ s.Belts 32 L s (Ji s) 3 (lt10 (by decide)) rfl (.inr ⟨by decide,rfl⟩) (fun i hi=>kd3 L s i hi) (fun x hx=>(h.belts x hx).1) hl l3 _ _ 0 ks3 _ k3 (by decide) fun ks4 k4=> ?_
 refine W9 (fun x:ByteArray=>x) (fun _=>0) s.Queues 32 L s (Ji s) 4 (lt10 (by decide)) (show (Ji s).getD 4 default=List.map (fun x=>x) s.Queues from (e4 s.Queues).symm) (.inr ⟨by decide,rfl⟩) (fun i _=>kdN L s _ _ (.inl rfl)) h.queues hl l4 _ _ 0 ks4 _ k4 (by decide) fun ks5 k5=> ?_
 refine W9 (fun x:ByteArray=>x) (fun _=>0) s.Streams 32 L s (Ji s) 5 (lt10 (by decide)) (show (Ji s).getD 5 default=List.map (fun x=>x) s.Streams from (e4 s.Streams).symm) (.inr ⟨by decide,rfl⟩) (fun i _=>kdN L s _ _ (.inr (.inl rfl))) h.streams hl l5 _ _ 0 ks5 _ k5 (by decide) fun ks6 k6=> ?_
 refine W9 (fun x:ByteArray=>x) (fun _=>0) s.Tallies 32 L s (Ji s) 6 (lt10 (by decide)) (show (Ji s).getD 6 default=List.map (fun x=>x) s.Tallies from (e4 s.Tallies).symm) (.inr ⟨by decide,rfl⟩) (fun i _=>kdN L s _ _ (.inr (.inr (.inl rfl)))) h.tallies hl l6 _ _ 0 ks6 _ k6 (by decide) fun ks7 k7=> ?_
 refine W9 (fun x:ByteArray=>x) (fun _=>0) s.Levels 32 L s (Ji s) 7 (lt10 (by decide)) (show (Ji s).getD 7 default=List.map (fun x=>x) s.Levels from (e4 s.Levels).symm) (.inr ⟨by decide,rfl⟩) (fun i _=>kdN L s _ _ (.inr (.inr (.inr (.inl rfl))))) h.levels hl l7 _ _ 0 ks7 _ k7 (by decide) fun ks8 k8=> ?_
 refine W9 (fun x:ByteArray=>x) (fun _=>0) s.Counts 32 L s (Ji s) 8 (lt10 (by decide)) (show (Ji s).getD 8 default=List.map (fun x=>x) s.Counts from (e4 s.Counts).symm) (.inr ⟨by decide,rfl⟩) (fun i _=>kdN L s _ _ (.inr (.inr (.inr (.inr rfl))))) h.counts hl l8 _ _ 0 ks8 _ k8 (by decide) fun ks9 k9=> ?_
 refine W9 _ _ s.Routines 16 L s (Ji s) 9 (lt10 (by decide)) rfl (.inl ⟨rfl,rfl⟩) (fun i hi=>kd9 L s i hi h hL) (fun x hx=>(h.routs x hx).1) hl l9 _ _ 0 ks9 _ k9 (by decide) fun ks10 k10=> ?_
 exact ⟨ks10,10,rfl⟩
theorem Bht(L:Nat)(s:Aa)(h:SG s)(hL:Ti≤L):Alw L s=some (Ajp Ae4 s):=by
 have hl:=Ow hL
 have hM:=Bb
 obtain ⟨a,b,e1⟩:=A1v L s h hL
 have e2:decide ((s.Starts.length:Int) > 32)=decide (32 < s.Starts.length):=gtN _ 32
 have e3:decide ((s.Laws.length:Int) > 32)=decide (32 < s.Laws.length):=gtN _ 32
 have h1:(Ji s).length=10:=rfl
 simp only [A6z,Aiw,Ail,Aix,Aim,Aiy,Aa5,Alw,Aiw,Ail,Aix,Aim,Aiy,Aa5,aN,aB,Arw L s h.len hl,Option.bind_some,A8b L (Ji s) s L (by rw [h1];decide) (by rw [h1];omega),e1,e2,e3,Bio]
 by_cases h0:(Ari s).1=0
 ·rw [if_pos h0,Kx,h0,Vx]
  unfold A0a Lz
  by_cases h2:32 < s.Starts.length
  ·rw [decide_eq_true h2,if_pos h2,Rr (show (6:Int)≠0 by decide)];rfl
  ·rw [decide_eq_false h2,if_neg h2,cond_false]
   obtain ⟨j,hj⟩:=B7h (lq:=W8 L s) (bd:=Acl L s) (f:=A2f s) (fun _ _=>rfl) (fun _ _ _ _=>rfl) s.Starts 0 0 fun x hx=>Bea L s x h.len (h.starts.2 x hx).2.1.1 hl
   rw [A8c L s L h.starts.1 (Nat.lt_of_le_of_lt h.starts.1 hl),hj,Option.bind_some]
   by_cases h3:Ak6 (A2f s) s.Starts=0
   ·rw [if_pos h3,Kx,h3,Vx]
    by_cases h4:32 < s.Laws.length
    ·rw [decide_eq_true h4,if_pos h4];rfl
    ·rw [decide_eq_false h4,if_neg h4,cond_false]
     obtain ⟨j,ks',hj,_⟩:=B7k (nm:=fun l:A9=>l.Name) (f:=A32 (Ae4 s)) (lq:=T5 L s) (fun _ _ _=>rfl) s.Laws 0 0 [] (by simp;omega) (by
      intro x hx k i v ks hk
      rw [T5,Bkh L s x ks (h.laws.2 x hx) h.len (by omega) hl,Option.bind_some])
     rw [A8d L s L h.laws.1 (Nat.lt_of_le_of_lt h.laws.1 hl),hj,Option.bind_some]
     by_cases hz:(F2 (fun l:A9=>l.Name) (A32 (Ae4 s)) [] s.Laws).1=0
     ·rw [if_pos hz,Kx,hz]
     ·rw [if_neg hz,Gm]
   ·rw [if_neg h3,Gm,Rr h3]
 ·rw [if_neg h0,Gm,Rr h0]
theorem Bax(L:Nat)(m:Ac)(i:Nat)(hi:i < m.Links.length)(hl:m.Links.length≤maxLen):∀(n c:Nat) (v:Int),c≤i→i - c < n→
  ∃j,Mh L (i:Int) m n v (c:Int)=some (if Btf ((m.Links.take i).drop c) (m.Links.getD i default)=true then (0,(4,j)) else (1,(v,j))):=by
 intro n
 have hM:=Bb
 induction n with
 |zero=>intro c v _ h;omega
 |succ n ih=>
  intro c v hc hn
  by_cases hlt:c < i
  ·have hcl:c < m.Links.length:=by omega
   obtain ⟨j,hj⟩:=ih (c+1) v hlt (by omega)
   have e:(m.Links.take i).drop c=m.Links.getD c default::(m.Links.take i).drop (c+1):=by
    have h1:c < (m.Links.take i).length:=by rw [List.length_take];omega
    rw [List.drop_eq_getElem_cons h1,List.getElem_take,Hb _ c hcl]
   rw [e]
   unfold Btf at hj ⊢
   simp only [Mh,Ad5,aN,aB,nn,C5 hlt,Hp hcl,if_true,Z8,cond_true,D0,Aw hcl hl,hj,List.any_cons]
   by_cases h1:(m.Links.getD c default).From=(m.Links.getD i default).From
   ·by_cases h2:(m.Links.getD c default).To=(m.Links.getD i default).To
    ·exact ⟨c,by simp only [decide_eq_true h1,decide_eq_true h2,cond_true,cond_false,Bool.true_and,Bool.false_and,Bool.and_self,Bool.false_or,Bool.true_or,if_true]⟩
    ·exact ⟨j,by simp only [decide_eq_true h1,decide_eq_false h2,cond_true,cond_false,Bool.true_and,Bool.false_and,Bool.and_self,Bool.false_or,Bool.true_or,if_true]⟩
   ·exact ⟨j,by simp only [decide_eq_false h1,cond_true,cond_false,Bool.true_and,Bool.false_and,Bool.and_self,Bool.false_or,Bool.true_or,if_true]⟩
  ·have e:(m.Links.take i).drop c= []:=List.drop_eq_nil_of_le (by rw [List.length_take];omega)
   rw [e]
   exact ⟨c,by simp only [Mh,Ad5,aN,aB,C4 (show i≤c by omega),cond_false];rfl⟩
theorem Baw(L:Nat)(m:Ac)(hm:m.Sites.length≤maxLen)(hl:m.Links.length≤maxLen)(hL:maxLen < L):∀(k:List Bk) (i:Nat) (v:Int),m.Links.drop i=k→
  ∃j,Mt L m k i v=some (if Ake m (m.Links.take i) k=0 then (1,(v,j)) else (0,(Ake m (m.Links.take i) k,j))):=by
 have hM:=Bb
 intro k
 induction k with
 |nil=>intro i v _;exact ⟨i,rfl⟩
 |cons x k ih=>
  intro i v h
  obtain ⟨hi,hx,hk⟩:=Pt h
  obtain ⟨j,hj⟩:=ih (i+1) v hk
  obtain ⟨c,hc⟩:=Bax L m i hi hl L 0 v (by omega) (by omega)
  rw [List.drop_zero,hx] at hc
  have hc:Mh L (i:Int) m L v 0=_:=hc
  have e:m.Links.take i++ [x]=m.Links.take (i+1):=by rw [List.take_add_one,List.getElem?_eq_getElem hi];congr 1;rw [←hx,Hb _ i hi];rfl
  rw [Mt,Ake,e]
  simp only [A3j L m _ hm hL,L7,Option.bind_some,Bip,D0,Dt,Ly,hc,Bhb]
  rcases Bool.eq_false_or_eq_true (m.Sites.any fun d=>decide (d.Name=x.From)) with a1|a1
  ·rcases Bool.eq_false_or_eq_true (m.Sites.any fun d=>decide (d.Name=x.To)) with a2|a2
   ·by_cases a3:x.From=x.To
    ·exact ⟨i,by simp [a1,a2,a3,fE]⟩
    ·rcases Bool.eq_false_or_eq_true (Bm 1 1000000000 x.Delay) with a4|a4
     ·rcases Bool.eq_false_or_eq_true (Btf (m.Links.take i) x) with a5|a5
      ·exact ⟨i,by simp [a1,a2,a3,a4,a5,fE,unl,Gm]⟩
      ·refine ⟨j,?_⟩
       simp only [a1,a2,a3,a4,a5,unl,decide_false,cond_false,Bool.not_true,Bool.or_self,if_false,Bool.and_self,Bool.true_eq_false,Bool.not_false,cond_true,Vx,Bool.false_eq_true,Option.bind_some,Kx]
       exact hj
     ·exact ⟨i,by simp [a1,a2,a3,a4,fE]⟩
   ·exact ⟨i,by simp [a1,a2,fE]⟩
  ·exact ⟨i,by simp [a1,fE]⟩
theorem Bd9(L:Nat)(m:Ac)(hm:m.Sites.length≤maxLen)(hl:m.Links.length≤maxLen)(hL:maxLen < L):Anc L m=some (A7w m):=by
 have e32:decide ((m.Links.length:Int) > 32)=decide (32 < m.Links.length):=gtN _ 32
 obtain ⟨j,hj⟩:=Baw L m hm hl hL m.Links 0 0 rfl
 have hj:Mt L m m.Links 0 0=some (if Ake m [] m.Links=0 then (1,(0,j)) else (0,(Ake m [] m.Links,j))):=hj
 simp only [A2v,Afh,Zw,Anc,Afh,Zw,aN,aB,e32,A4g L m L hl (Nat.lt_of_le_of_lt hl hL),hj,Option.bind_some,A7w]
 by_cases h:32 < m.Links.length
 ·rw [decide_eq_true h,if_pos h];rfl
 ·rw [decide_eq_false h,if_neg h,cond_false]
  by_cases h0:Ake m [] m.Links=0
  ·rw [if_pos h0,Kx,h0]
  ·rw [if_neg h0,Gm]
theorem Bu1{α :Type}{nm: α→ByteArray}{f: α→Int}{lq:List α→Nat→Int→Int→List ByteArray→Option (Nat×(Int×Int×List ByteArray×Int))}
  (hn:∀i v e ks,lq [] i v e ks=some (1,(v,e,ks,(i:Int)))):∀(k:List α) (i:Nat) (v e:Int) (ks:List ByteArray),ks.length+k.length≤1099511627776→
  (∀x∈k,∀(k:List α) (i:Nat) (v e:Int) (ks:List ByteArray),ks.length≤1099511627776→lq (x::k) i v e ks=bif fE (Yt ks (nm x)) (f x) != 0 then some (0,(fE (Yt ks (nm x)) (f x),fE (Yt ks (nm x)) (f x),ks,(i:Int))) else if (ks.length+ [nm x].length)*16≤140737488355328 then (if ks.length+ [nm x].length≤maxLen then lq k (i+1) v (fE (Yt ks (nm x)) (f x)) (ks++ [nm x]) else none) else none)→
  ∃j e' ks',lq k i v e ks=some (if (F2 nm f ks k).1=0 then (1,(v,e',ks',j)) else (0,((F2 nm f ks k).1,e',ks',j))):=by
 intro k
 induction k with
 |nil=>intro i v e ks _ _;exact ⟨i,e,ks,by rw [hn,F2];rfl⟩
 |cons x k ih=>
  intro i v e ks hl h
  rw [List.length_cons] at hl
  rw [h x (by simp) k i v e ks (by omega)]
  by_cases h0:fE (Yt ks (nm x)) (f x)=0
  ·have e1:F2 nm f ks (x::k)=F2 nm f (ks++ [nm x]) k:=by rw [F2,if_neg (fun hh=>hh h0)]
   obtain ⟨j,e',ks',hj⟩:=ih (i+1) v 0 (ks++ [nm x]) (by simp only [List.length_append,List.length_singleton];omega) fun y hy=>h y (by simp [hy])
   rw [e1,h0]
   refine ⟨j,e',ks',?_⟩
   have hM:=Bb
   simp only [bne_self_eq_false,cond_false,List.length_singleton]
   rw [if_pos (by omega),if_pos (by omega),hj]
  ·have e1:F2 nm f ks (x::k)=(fE (Yt ks (nm x)) (f x),ks):=by rw [F2,if_pos h0]
   rw [e1]
   exact ⟨i,_,ks,by simp only [Wl h0,cond_true,if_neg h0];rfl⟩
theorem Bzz(n:Nat)(c:Nat)(e:Int):unl (decide ((n:Int)≤(c:Int))) e=if c < n then e else 0:=by
 by_cases h:c < n
 ·rw [if_pos h,decide_eq_false (by omega)];rfl
 ·rw [if_neg h,decide_eq_true (by omega)];rfl
theorem Bd8(L:Nat)(m:Ac)(h:MG m)(hL:Ti≤L):Anb L m=some (Aeg Ae4 m):=by
 have hl:=Ow hL
 have hM:=Bb
 have hp:=h.ok.2.1
 have u1:unl (decide ((m.Params.length:Int)≤32)) 6=if 32 < m.Params.length then 6 else 0:=Bzz _ 32 6
 have u2:unl (decide ((m.Sites.length:Int)≤16)) 6=if 16 < m.Sites.length then 6 else 0:=Bzz _ 16 6
 have u3:decide ((m.Sites.length:Int) > 0)=decide (0 < m.Sites.length):=gtN _ 0
 simp only [A2t,Afa,Aeq,Afb,Zt,Anb,Afa,Aeq,Afb,Zt,aN,aB,Aei L m.Name h.ok.1 (Nat.lt_of_le_of_lt h.ok.1 hl) (by omega),Hq,Hs,u1,u2,u3,Bd9 L m h.sites h.links hl,Option.bind_some]
 unfold Aeg
 by_cases h0:Sy m.Name=0
 ·rw [h0,Vx,Vx]
  unfold Lz
  by_cases h1:32 < m.Params.length
  ·rw [if_pos h1,if_pos h1,Rr (show (6:Int)≠0 by decide)];rfl
  ·rw [if_neg h1,if_neg h1]
   obtain ⟨j,e',ks',hj⟩:=Bu1 (nm:=fun x:Ag=>x.Name) (f:=V8) (lq:=Qv L m) (fun _ _ _ _=>rfl) m.Params 0 0 0 [] (by simp;omega) (by
    intro x hx k i v e ks hk
    rw [Qv,Beb L x ks (hp.2 x hx) (by omega) hl,Option.bind_some])
   simp only [bne_self_eq_false,cond_false]
   rw [A39 L m L hp.1 (Nat.lt_of_le_of_lt hp.1 hl),hj,Option.bind_some]
   by_cases h2:(F2 (fun x:Ag=>x.Name) V8 [] m.Params).1=0
   ·rw [if_pos h2,Kx,h2,Vx]
    by_cases h3:m.Sites.length=0
    ·rw [decide_eq_false (show¬0 < m.Sites.length by omega)];rfl
    ·rw [decide_eq_true (show 0 < m.Sites.length by omega)]
     simp only [unl,cond_true,Vx]
     by_cases h4:16 < m.Sites.length
     ·rw [if_pos h4,if_pos h4,Rr (show (6:Int)≠0 by decide)];rfl
     ·rw [if_neg h4,if_neg h4]
      obtain ⟨j2,e2',ks2',hj2⟩:=Bu1 (nm:=fun x:Aa=>x.Name) (f:=Ajp Ae4) (lq:=Qw L m) (fun _ _ _ _=>rfl) m.Sites 0 0 0 [] (by simp;omega) (by
       intro x hx k i v e ks hk
       have hn:okS x.Name:=by have:=(h.site x hx).ok;unfold B6 at this;exact this.1
       rw [Qw,Aej L x.Name ks hn (by omega) hl,Option.bind_some,Bht L x (h.site x hx) hL,Option.bind_some,Hs,Option.bind_some])
      simp only [bne_self_eq_false,cond_false]
      rw [A4a L m L h.sites (Nat.lt_of_le_of_lt h.sites hl),hj2,Option.bind_some]
      by_cases h5:(F2 (fun x:Aa=>x.Name) (Ajp Ae4) [] m.Sites).1=0
      ·rw [if_pos h5,Kx,h5,Vx]
      ·rw [if_neg h5,Gm,Rr h5]
   ·rw [if_neg h2,Gm,Rr h2]
 ·rw [Rr h0,Rr h0]
  simp only [Wl h0,cond_true]
theorem Bf0{α :Type}(nm: α→ByteArray)(f: α→Int):∀(l:List α) (b:List ByteArray),(F2 nm f b l).1=0→∀x∈l,f x=0
 | [],_=>fun _ x hx=>by cases hx
 |y::k,b=>by
  intro h x hx
  rw [F2] at h
  by_cases hz:fE (Yt b (nm y)) (f y)=0
  ·rw [if_neg (by simp [hz])] at h
   rcases List.mem_cons.1 hx with rfl|hx
   ·exact (Bf8.1 hz).2
   ·exact Bf0 nm f k _ h x hx
  ·rw [if_pos (by simpa using hz)] at h
   exact absurd h hz
structure PG (m:Ac):Prop where
 ok:∀p∈m.Params,Oy p.Type_=true∧Afy p.Type_ p.N=true
 nd:(m.Params.map fun x=>x.Name).Nodup
theorem Chq{tm:Aa→Ay→Int}{m:Ac}(h:Aeg tm m=0):PG m:=by
 unfold Aeg at h
 have h2:=(Bf8.1 (Bf8.1 h).2).1
 obtain ⟨e1,e2⟩:=Amd 32 (fun x:Ag=>x.Name) V8 [] m.Params h2
 have h3:(F2 (fun x:Ag=>x.Name) V8 [] m.Params).1=0:=by
  unfold Lz at h2
  by_cases hm:32 < m.Params.length
  ·rw [if_pos hm] at h2;exact absurd h2 (by show¬((6:Int)=0);decide)
  ·rw [if_neg hm] at h2;exact h2
 refine ⟨fun p hp=> ?_,?_⟩
 ·have h4:=Bf0 _ _ _ _ h3 p hp
  unfold V8 at h4
  obtain ⟨h5,h6⟩:=Bf8.1 h4
  exact ⟨(Bz0 (by decide)).1 h5,(Bz0 (by decide)).1 h6⟩
 ·have:=e2 List.nodup_nil
  rw [e1,List.nil_append] at this
  exact this
def A3d(t n:Int):Bool:=if t=2 then (n == 0 || n == 1) else if t=3 then Bm 0 1000000000 n else inZ n
theorem Bu7{t n:Int}(h:Oy t=true):A3d t n=Afy t n:=by
 unfold Oy Bm at h
 rw [Bool.and_eq_true,decide_eq_true_iff,decide_eq_true_iff] at h
 unfold A3d Afy
 by_cases h1:t=1
 ·subst h1;rfl
 ·by_cases h2:t=2
  ·subst h2;rfl
  ·have h3:t=3:=by omega
   subst h3;rfl
def Acv(p q:List Ag):Prop:=p.map (fun x=>(x.Name,x.Type_))=q.map fun x=>(x.Name,x.Type_)
theorem Bg9{p q:List Ag}(h:Acv p q):p.length=q.length:=by
 have:=congrArg List.length h
 rw [List.length_map,List.length_map] at this
 exact this
def rtT(m:Ac)(i:Nat)(r:Am):Int:=A9q m (i:Int) (r.Params++r.Locals) r.Body
def Amx(m:Ac):Nat→List Aa→Int
 |_,[]=>0
 |i,d::k=>fE (Ak6 (rtT m i) d.Routines) (Amx m (i+1) k)
theorem Btb{m:Ac}(h:MG m)(i:Nat)(r:Am)(hr:Ii r)(hb:Dw r≤1048576)(L:Nat)(hL:Ti≤L):Um L m (i:Int) (r.Params++r.Locals) r.Body=some (rtT m i r):=by
 have hM:=Bb
 obtain ⟨b1,b2,b3⟩:=Ajn hb
 exact A4u h.ok h.bk ⟨by rw [List.length_append];omega,fun y hy=>by
  rcases List.mem_append.1 hy with h|h
  ·exact hr.2.1.2 y h
  ·exact hr.2.2.1.2 y h⟩ (i:Int) (show∀y∈r.Body,B2 y from hr.2.2.2.2) L (Au8 hL b3)
theorem Cg3{m:Ac}(h:MG m)(i:Nat)(r:Am)(hr:Ii r)(hb:Dw r≤1048576)(L:Nat)(hL:Ti≤L):Ai3 L m (i:Int) (r.Params++r.Locals) r.Body=some (rtT m i r):=by
 have hM:=Bb
 obtain ⟨b1,b2,b3⟩:=Ajn hb
 exact Bed h.ok h.bk ⟨by rw [List.length_append];omega,fun y hy=>by
  rcases List.mem_append.1 hy with h|h
  ·exact hr.2.1.2 y h
  ·exact hr.2.2.1.2 y h⟩ (i:Int) (show∀y∈r.Body,B2 y from hr.2.2.2.2) L (Au8 hL b3)
theorem A19{m:Ac}(h:MG m)(i:Nat)(L:Nat)(hL:Ti≤L):∀(k:List Am) (c:Nat) (v:Int),(∀r∈k,Ii r∧Dw r≤1048576)→
  ∃j,Kd L (i:Int) m k c v=some (if Ak6 (rtT m i) k=0 then (1,(v,j)) else (0,(Ak6 (rtT m i) k,j))):=by
 intro k
 induction k with
 |nil=>intro c v _;exact ⟨c,rfl⟩
 |cons x k ih=>
  intro c v hk
  obtain ⟨hr,hb⟩:=hk x (by simp)
  obtain ⟨j,hj⟩:=ih (c+1) v fun r hr=>hk r (by simp [hr])
  obtain ⟨b1,b2,b3⟩:=Ajn hb
  have hM:=Bb
  rw [Kd]
  repeat rw [ifp (by omega)]
  rw [Btb h i x hr hb L hL,Option.bind_some,Ak6]
  by_cases h0:rtT m i x=0
  ·exact ⟨j,by rw [h0,Vx];exact hj⟩
  ·exact ⟨c,by rw [Rr h0,Wl h0,cond_true,if_neg h0]⟩
theorem MG.routs{m:Ac}(h:MG m){d:Aa}(hd:d∈m.Sites):∀r∈d.Routines,Ii r∧Dw r≤1048576:=fun r hr=>⟨(h.site d hd).routs r hr,(h.site d hd).bkR r hr⟩
theorem A18{m:Ac}(h:MG m)(L:Nat)(hL:Ti≤L):∀(k:List Aa) (i:Nat) (v:Int),m.Sites.drop i=k→
  ∃j w,Kc L m k i v=some (if Amx m i k=0 then (1,(w,j)) else (0,(Amx m i k,j))):=by
 have hl:=Ow hL
 intro k
 induction k with
 |nil=>intro i v _;exact ⟨i,v,rfl⟩
 |cons x k ih=>
  intro i v hk
  obtain ⟨hi,hx,hk'⟩:=Pt hk
  have hm:x∈m.Sites:=by rw [←hx,Hb _ i hi];exact List.getElem_mem hi
  obtain ⟨c,hc⟩:=A19 h i L hL x.Routines 0 v (h.routs hm)
  have hlen:=(h.site x hm).ln.2.2.2.2.2.2.2.2.2
  rw [Kc,Axs L (i:Int) m L (by rw [Z8,hx];exact hlen) (by rw [Z8,hx];exact Nat.lt_of_le_of_lt hlen hl),Z8,hx,hc,Option.bind_some,Amx]
  by_cases h0:Ak6 (rtT m i) x.Routines=0
  ·obtain ⟨j,w,hj⟩:=ih (i+1) v hk'
   exact ⟨j,w,by rw [if_pos h0,Kx,h0,Vx];exact hj⟩
  ·exact ⟨i,v,by rw [if_neg h0,Gm,Rr h0,if_neg h0]⟩
theorem A4t{m:Ac}(h:MG m)(L:Nat)(hL:Ti≤L):Ul L m=some (fE (Aeg Vn m) (Amx m 0 m.Sites)):=by
 obtain ⟨j,w,hj⟩:=A18 h L hL m.Sites 0 0 rfl
 simp only [At1,Yp,Ta,Ul,Yp,Ta,aN,aB,A8o L m h hL,Option.bind_some,Axr L m L h.sites (Nat.lt_of_le_of_lt h.sites (Ow hL)),hj]
 by_cases h0:Aeg Vn m=0
 ·simp only [h0,bne_self_eq_false,cond_false,Vx]
  by_cases h1:Amx m 0 m.Sites=0
  ·rw [if_pos h1,Kx,h1]
  ·rw [if_neg h1,Gm]
 ·simp only [Wl h0,cond_true,Rr h0]
theorem Ba0{m:Ac}(h:MG m)(i:Nat)(hi:i < m.Sites.length)(L:Nat)(hL:Ti≤L):∀(n c:Nat) (v:Int),c≤(m.Sites.getD i default).Routines.length→(m.Sites.getD i default).Routines.length - c < n→
  ∃j,Mj L (i:Int) m n v (c:Int)=some (0,(fE v (Ak6 (rtT m i) ((m.Sites.getD i default).Routines.drop c)),j)):=by
 have hM:=Bb
 have hm:m.Sites.getD i default∈m.Sites:=by rw [Hb _ i hi];exact List.getElem_mem hi
 have hlen:=(h.site _ hm).ln.2.2.2.2.2.2.2.2.2
 intro n
 induction n with
 |zero=>intro c v _ hn;omega
 |succ n ih=>
  intro c v hc hn
  by_cases hlt:c < (m.Sites.getD i default).Routines.length
  ·have hr:(m.Sites.getD i default).Routines.getD c default∈(m.Sites.getD i default).Routines:=by rw [Hb _ c hlt];exact List.getElem_mem hlt
   obtain ⟨o,b⟩:=h.routs hm _ hr
   obtain ⟨b1,b2,b3⟩:=Ajn b
   have hloc:Akx L ((m.Sites.getD i default).Routines.getD c default)=some (((m.Sites.getD i default).Routines.getD c default).Params++((m.Sites.getD i default).Routines.getD c default).Locals):=by
    simp only [Aq8,Akx,aN,aB]
    repeat rw [ifp (by omega)]
   rw [Abd _ c hlt,Ak6]
   simp only [Mj,Ad7,aN,aB,nn,Hp hi,if_true,Z8,decide_true,cond_true,Hp hlt,hloc,Cg3 h i _ o b L hL,Option.bind_some,Aw hlt hlen]
   by_cases h0:v=0
   ·obtain ⟨j,hj⟩:=ih (c+1) (rtT m i ((m.Sites.getD i default).Routines.getD c default)) hlt (by omega)
    exact ⟨j,by simp only [h0,beq_self_eq_true,cond_true,Vx];exact hj⟩
   ·obtain ⟨j,hj⟩:=ih (c+1) v hlt (by omega)
    rw [Rr h0] at hj
    exact ⟨j,by simp only [beq_false_of_ne h0,cond_false,Rr h0];exact hj⟩
  ·rw [List.drop_eq_nil_of_le (by omega),Ak6,Cbf]
   exact ⟨c,by simp only [Mj,Ad7,aN,aB,nn,Hp hi,if_true,Z8,C4 (show (m.Sites.getD i default).Routines.length≤c by omega),cond_false]⟩
theorem Baz{m:Ac}(h:MG m)(L:Nat)(hL:Ti≤L):∀(k:List Aa) (i:Nat) (v:Int),m.Sites.drop i=k→∃j,Mv L m k i v=some (0,(fE v (Amx m i k),j)):=by
 have hl:=Ow hL
 intro k
 induction k with
 |nil=>intro i v _;exact ⟨i,by rw [Mv,Amx,Cbf]⟩
 |cons x k ih=>
  intro i v hk
  obtain ⟨hi,hx,hk'⟩:=Pt hk
  have hm:x∈m.Sites:=by rw [←hx,Hb _ i hi];exact List.getElem_mem hi
  have hlen:=(h.site x hm).ln.2.2.2.2.2.2.2.2.2
  obtain ⟨c,hc⟩:=Ba0 h i hi L hL L 0 v (Nat.zero_le _) (by rw [hx];omega)
  rw [hx,List.drop_zero] at hc
  have hc:Mj L (i:Int) m L v 0=_:=hc
  obtain ⟨j,hj⟩:=ih (i+1) (fE v (Ak6 (rtT m i) x.Routines)) hk'
  exact ⟨j,by rw [Mv,hc,Option.bind_some,Gm,hj,Apm,Amx]⟩
theorem Bec{m:Ac}(h:MG m)(L:Nat)(hL:Ti≤L):Acn L m=some (fE (Aeg Ae4 m) (Amx m 0 m.Sites)):=by
 obtain ⟨j,hj⟩:=Baz h L hL m.Sites 0 (Aeg Ae4 m) rfl
 simp only [A2y,Afk,Z0,Acn,Afk,Z0,aN,aB,Bd8 L m h hL,Option.bind_some,A4i L m L h.sites (Nat.lt_of_le_of_lt h.sites (Ow hL)),hj,Gm]
def tmE(m:Ac):Int:=fE (Aeg Vn m) (Amx m 0 m.Sites)
theorem Cd3{m:Ac}(h:MG m)(L:Nat)(hL:Ti≤L):Ul L m=some (tmE m):=A4t h L hL
theorem Cd4{m:Ac}(h:MG m)(L:Nat)(hL:Ti≤L):Acn L m=some (tmE m):=by rw [Bec h L hL,←Bxw];rfl
end Go.Proofs.YtofcpkmnhmnfcaaGreatR.Ev
