/-  Chapter 11, plainly: what Check says of a model. -/
import Derived.Test.YthjhkpgonleelaaGreatDoorBPI
import Derived.Test.YthjhkpgonleelaaGreatDoorBQA
namespace Go.Proofs.YthjhkpgonleelaaGreatDoor.Ev
open Go An
set_option maxRecDepth 100000
set_option linter.unusedVariables false
set_option linter.unusedSimpArgs false
set_option linter.unnecessarySimpa false
def fE(a b:Int):Int:=if a=0 then b else a
def X3(c:Bool)(e:Int):Int:=bif c then 0 else e
def Xu(bf:List ByteArray)(n:ByteArray):Int:=fE (Ni n) (X3 (!bf.any fun x=>decide (x=n)) 4)
def Ww(t:Int):Bool:=B7 1 3 t
def Aeu(t n:Int):Bool:=if t=1 then inZ n else if t=2 then (n == 0 || n == 1) else if t=3 then B7 0 1000000000 n else false
def Yu{α :Type}(nm: α→ByteArray)(f: α→Int):List ByteArray→List α→Int×List ByteArray
 |bf,[]=>(0,bf)
 |bf,x::k=>if fE (Xu bf (nm x)) (f x)≠0 then (fE (Xu bf (nm x)) (f x),bf) else Yu nm f (bf++ [nm x]) k
def O3{α :Type}(most:Nat)(nm: α→ByteArray)(f: α→Int)(bf:List ByteArray)(l:List α):Int×List ByteArray:=if most < l.length then (6,bf) else Yu nm f bf l
def Y7{α :Type}(f: α→Int):List α→Int
 | []=>0
 |x::k=>fE (f x) (Y7 f k)
def As2(cy:Int):Option Int→List Ew→Int
 |_,[]=>0
 |p,c::k=>if (B7 0 (cy - 1) c.At && B7 0 1000 c.Units)=false then 2
  else if (match p with|some q=>decide (c.At≤q)|none=>false)=true then 12 else As2 cy (some c.At) k
def Ane(r:Ap):Int:=if r.Shift.length=0 then X3 (r.Cycle == 0) 1 else if 20 < r.Shift.length then 6 else if B7 1 1000000000 r.Cycle=false then 2 else As2 r.Cycle none r.Shift
def Azb(s:Aa)(f:Ml):Int:=if f.Stream.size=0 then X3 (Adx f.Up d9 && Adx f.Down d9) 1 else if s.Streams.any (fun x=>decide (x=f.Stream))=false then 5 else fE (Aes f.Up) (Aes f.Down)
def A7l(s:Aa)(r:Ap):Int:=fE (X3 (B7 0 1000 r.Units) 2) (fE (Ane r) (Azb s r.Fault))
def Anm(x:Av):Int:=fE (X3 (B7 1 1000 x.Room) 2) (X3 (B7 1 3 x.Policy) 1)
def Asw(x:Bd):Int:=X3 (B7 1 1000 x.Length && B7 1 1000 x.Step) 2
def d7(v:Ax):Int:=fE (X3 (Ww v.Type_) 1) (X3 (Aeu v.Type_ v.N) 2)
def Apg(r:Ao):Int:=if 6 < r.Params.length∨16 < r.Params.length+r.Locals.length then 6 else fE (Yu (fun f:Ba=>f.Name) (fun f=>X3 (Ww f.Type_) 1) [] (r.Params++r.Locals)).1 (Asd r.Body)
def Axx(s:Aa)(d:Cl):Int:=match s.Routines.find? fun r=>decide (r.Name=d.Routine) with
 |none=>5
 |some r=>if d.Args.length≠r.Params.length then 8 else if ((r.Params.zip d.Args).all fun p=>Aeu p.1.Type_ p.2)=false then 2
  else X3 (B7 0 1000000000 d.At && B7 0 1000000000 d.Every && B7 0 1000000000 d.Until && (d.Every != 0 || d.Until == 0)) 2
def Anq(w:ByteArray):Int:=
 if w=⟨#[99,114,101,97,116,101,100]⟩∨w=⟨#[101,110,100,101,100]⟩∨w=⟨#[105,110,115,105,100,101]⟩ then 1
 else if w=⟨#[115,116,111,114,101,100]⟩∨w=⟨#[101,110,116,101,114,101,100]⟩∨w=⟨#[108,101,102,116]⟩ then 2
 else if w=⟨#[99,111,117,110,116,101,100]⟩ then 3 else 0
def Ay4(t:Be):Int:=X3 (B7 (-1000) 1000 t.Coef && t.Coef != 0) 2
def Kr(s:Aa)(t:Be):Int:=
 if Anq t.What=0 then 1
 else if (if Anq t.What=1 then s.Routines.any (fun r=>decide (r.Name=t.Name)) else if Anq t.What=2 then s.Stores.any (fun x=>decide (x.Name=t.Name)) else s.Counts.any (fun x=>decide (x=t.Name)))=false then 5
 else Ay4 t
def Arf(tm:Be→Int)(l:Bh):Int:=fE (X3 (decide (0 < l.Terms.length)) 7) (fE (X3 (decide (l.Terms.length≤8)) 6) (fE (Y7 tm l.Terms) (X3 (inZ l.Total) 2)))
def Yz(p:Int×List ByteArray)(f:List ByteArray→Int×List ByteArray):Int×List ByteArray:=if p.1≠0 then p else f p.2
def txE(bf:List ByteArray)(l:List ByteArray):Int×List ByteArray:=O3 32 (fun x:ByteArray=>x) (fun _=>0) bf l
def Av8(s:Aa):Int×List ByteArray:=
 Yz (Yz (Yz (Yz (Yz (Yz (Yz (Yz (Yz (O3 32 (fun x:Ax=>x.Name) d7 [] s.Vars)
  fun b=>O3 32 (fun x:Ap=>x.Name) (A7l s) b s.Resources) fun b=>O3 32 (fun x:Av=>x.Name) Anm b s.Stores)
  fun b=>O3 32 (fun x:Bd=>x.Name) Asw b s.Belts) fun b=>txE b s.Queues) fun b=>txE b s.Streams) fun b=>txE b s.Tallies)
  fun b=>txE b s.Levels) fun b=>txE b s.Counts) fun b=>O3 16 (fun x:Ao=>x.Name) Apg b s.Routines
def Ale(s:Aa):Int:=if 32 < s.Starts.length then 6 else Y7 (Axx s) s.Starts
def Ahx(tm:Aa→Be→Int)(s:Aa):Int:=fE (Av8 s).1 (fE (Ale s) (O3 32 (fun l:Bh=>l.Name) (Arf (tm s)) [] s.Laws).1)
def Aud(m:Aq)(seen:List B5)(l:B5):Int:=
 if (m.Sites.any (fun d=>decide (d.Name=l.From)) && m.Sites.any (fun d=>decide (d.Name=l.To)))=false then 5
 else if l.From=l.To then 1 else if B7 1 1000000000 l.Delay=false then 2
 else X3 (!seen.any fun x=>decide (x.From=l.From) && decide (x.To=l.To)) 4
def Air(m:Aq):List B5→List B5→Int
 |_,[]=>0
 |seen,l::k=>fE (Aud m seen l) (Air m (seen++ [l]) k)
def Awy(m:Aq):Int:=if 32 < m.Links.length then 6 else Air m [] m.Links
def Arj(tm:Aa→Be→Int)(m:Aq):Int:=
 fE (Ni m.Name) (fE (O3 32 (fun x:Ax=>x.Name) d7 [] m.Params).1 (fE (X3 (decide (0 < m.Sites.length)) 7)
  (fE (O3 16 (fun d:Aa=>d.Name) (Ahx tm) [] m.Sites).1 (Awy m))))
theorem Boc{a b:Int} :fE a b=0↔a=0∧b=0:=by
 unfold fE
 by_cases h:a=0
 ·rw [if_pos h];simp [h]
 ·rw [if_neg h];simp [h]
theorem Pt(b:Int):fE 0 b=b:=rfl
theorem Ox{a b:Int}(h:a≠0):fE a b=a:=if_neg h
def tr{α :Type}(ks:List α):List Bool:=List.replicate ks.length true
theorem Ah3{α :Type}(ks:List α)(n: α):tr ks++ [true]=tr (ks++ [n]):=by
 unfold tr;rw [List.length_append,List.length_singleton,List.replicate_succ']
def nx(ks:List ByteArray)(n:ByteArray):List ByteArray:=if Xu ks n=0 then ks++ [n] else ks
def Bfg(X:Option Int)(n:ByteArray)(ks:List ByteArray)(vs:List Bool):Option (Int×List ByteArray×List Bool):=
 X.bind fun r=>bif r != 0 then some (r,ks,vs) else Ry (ks.findIdx? fun b=>n == b)
  (fun i=>bif vs.getD i default then some (4,ks,vs) else Ry (ks.findIdx? fun b=>n == b) (fun j=>some (0,ks,vs.set j true)) (some (0,ks++ [n],vs++ [true])))
  (Ry (ks.findIdx? fun b=>n == b) (fun j=>some (0,ks,vs.set j true)) (some (0,ks++ [n],vs++ [true])))
theorem Asf{α :Type}{ks:List α}{i:Nat}(h:i < ks.length):(tr ks).getD i default=true:=by
 unfold tr
 rw [List.getD_eq_getElem?_getD,List.getElem?_replicate,if_pos h];rfl
theorem Adj{α :Type}{ks:List α}{p: α→Bool}(h:ks.findIdx? p=none):ks.any p=false:=by
 rw [List.findIdx?_eq_none_iff] at h
 rw [List.any_eq_false]
 intro x hx
 simp [h x hx]
theorem Aad{α :Type}{ks:List α}{p: α→Bool}{i:Nat}(h:ks.findIdx? p=some i):ks.any p=true:=by
 obtain ⟨h1,h2,_⟩:=List.findIdx?_eq_some_iff_getElem.1 h
 exact List.any_eq_true.2 ⟨_,List.getElem_mem h1,h2⟩
theorem Ak7(n b:ByteArray):(n == b)=decide (b=n):=by
 show (n.data == b.data)=_
 rw [Bool.eq_iff_iff,beq_iff_eq,decide_eq_true_iff]
 constructor
 ·intro h;cases n;cases b;cases h;rfl
 ·rintro rfl;rfl
theorem A9s{X:Option Int}{n:ByteArray}(ks:List ByteArray)(h:X=some (Ni n)):Bfg X n ks (tr ks)=some (Xu ks n,nx ks n,tr (nx ks n)):=by
 subst h
 unfold Bfg nx Xu
 rw [Option.bind_some]
 by_cases h0:Ni n=0
 ·have e:(fun b=>n == b)=fun x:ByteArray=>decide (x=n):=funext fun b=>Ak7 n b
  rw [h0,e]
  cases hf:ks.findIdx? fun x=>decide (x=n) with
  |none=>
   rw [Adj hf]
   simp only [Ry,fE,X3,Bool.not_false,cond_true,if_true,Ah3 ks n]
   rfl
  |some i=>
   rw [Aad hf]
   obtain ⟨h1,_⟩:=List.findIdx?_eq_some_iff_getElem.1 hf
   simp only [Ry,Asf h1]
   rfl
 ·rw [g6 h0,cond_true,Ox h0,if_neg h0]
def Out(X:Option (Int×List ByteArray×List Bool))(p:Int×List ByteArray):Prop:=∃ks,X=some (p.1,ks,tr ks)∧(p.1=0→ks=p.2)
theorem A5h{α :Type}{nm: α→ByteArray}{f: α→Int}{lq:List α→Nat→Int→List ByteArray→List Bool→Option (Nat×(Int×Int×List ByteArray×List Bool))}{bd: α→List ByteArray→List Bool→Option (Int×List ByteArray×List Bool)}
  (hn:∀i v ks vs,lq [] i v ks vs=some (1,(v,(i:Int),ks,vs)))
  (hc:∀x k i v ks vs,lq (x::k) i v ks vs=(bd x ks vs).bind fun o=>bif o.1 != 0 then some (0,(o.1,(i:Int),o.2.1,o.2.2)) else lq k (i+1) v o.2.1 o.2.2):
  ∀(k:List α) (i:Nat) (v:Int) (ks:List ByteArray),(∀x∈k,∀ks,∃ks',bd x ks (tr ks)=some (fE (Xu ks (nm x)) (f x),ks',tr ks')∧(fE (Xu ks (nm x)) (f x)=0→ks'=ks++ [nm x]))→
  ∃j ks',lq k i v ks (tr ks)=some (if (Yu nm f ks k).1=0 then (1,(v,(j,ks',tr ks'))) else (0,((Yu nm f ks k).1,(j,ks',tr ks'))))∧((Yu nm f ks k).1=0→ks'=(Yu nm f ks k).2):=by
 intro k
 induction k with
 |nil=>intro i v ks _;exact ⟨i,ks,by rw [hn,Yu];rfl,fun _=>rfl⟩
 |cons x k ih=>
  intro i v ks h
  obtain ⟨ks1,hb,hz⟩:=h x (by simp) ks
  rw [hc,hb,Option.bind_some]
  by_cases h0:fE (Xu ks (nm x)) (f x)=0
  ·have:=hz h0;subst this
   have e:Yu nm f ks (x::k)=Yu nm f (ks++ [nm x]) k:=by rw [Yu,if_neg (by simp [h0])]
   obtain ⟨j,ks',hj,he⟩:=ih (i+1) v (ks++ [nm x]) fun y hy=>h y (by simp [hy])
   rw [e]
   exact ⟨j,ks',by simp only [h0];exact hj,he⟩
  ·have e:Yu nm f ks (x::k)=(fE (Xu ks (nm x)) (f x),ks):=by rw [Yu,if_pos h0]
   rw [e]
   exact ⟨i,ks1,by simp only [g6 h0,cond_true,if_neg h0],fun hh=>absurd hh h0⟩
def Bdj(most:Int)(n:Nat)(ks:List ByteArray)(vs:List Bool)(X:Option (Nat×(Int×Int×List ByteArray×List Bool))):Option (Int×List ByteArray×List Bool):=
 bif decide ((n:Int) > most) then some (6,ks,vs) else X.bind fun o=>Ahw o.1 [some (o.2.1,o.2.2.2.1,o.2.2.2.2),some (0,o.2.2.2.1,o.2.2.2.2)]
theorem T8{α :Type}{nm: α→ByteArray}{f: α→Int}{lq:List α→Nat→Int→List ByteArray→List Bool→Option (Nat×(Int×Int×List ByteArray×List Bool))}{bd: α→List ByteArray→List Bool→Option (Int×List ByteArray×List Bool)}
  (hn:∀i v ks vs,lq [] i v ks vs=some (1,(v,(i:Int),ks,vs)))
  (hc:∀x k i v ks vs,lq (x::k) i v ks vs=(bd x ks vs).bind fun o=>bif o.1 != 0 then some (0,(o.1,(i:Int),o.2.1,o.2.2)) else lq k (i+1) v o.2.1 o.2.2)
  (most:Nat) (l:List α) (v:Int) (ks:List ByteArray) (X:Option (Nat×(Int×Int×List ByteArray×List Bool))) (hX:X=lq l 0 v ks (tr ks))
  (hb:∀x∈l,∀ks,∃ks',bd x ks (tr ks)=some (fE (Xu ks (nm x)) (f x),ks',tr ks')∧(fE (Xu ks (nm x)) (f x)=0→ks'=ks++ [nm x])):
  Out (Bdj most l.length ks (tr ks) X) (O3 most nm f ks l):=by
 unfold Out Bdj O3
 by_cases hm:most < l.length
 ·rw [decide_eq_true (show (l.length:Int) > most by omega),if_pos hm]
  exact ⟨ks,rfl,fun _=>rfl⟩
 ·rw [decide_eq_false (show¬(l.length:Int) > most by omega),if_neg hm,cond_false,hX]
  obtain ⟨j,ks',hj,he⟩:=A5h hn hc l 0 v ks hb
  refine ⟨ks',?_,he⟩
  rw [hj,Option.bind_some]
  by_cases h0:(Yu nm f ks l).1=0
  ·rw [if_pos h0,x0,h0]
  ·rw [if_neg h0,R4]
def Gl(e:Int)(X:Option (Int×List ByteArray×List Bool)):Prop:=∃a b,X=some (e,a,b)
theorem Bmb{X:Option (Int×List ByteArray×List Bool)}{p:Int×List ByteArray}{e:Int}{G:Int×List ByteArray×List Bool→Option (Int×List ByteArray×List Bool)}(hX:Out X p)
  (hG:∀e a b,e≠0→G (e,a,b)=some (e,a,b)) (h:∀ks,Gl e (G (0,ks,tr ks))):Gl (fE p.1 e) (X.bind G):=by
 obtain ⟨ks,rfl,h0⟩:=hX
 rw [Option.bind_some]
 by_cases hp:p.1=0
 ·rw [hp,Pt];exact h ks
 ·rw [hG _ _ _ hp,Ox hp];exact ⟨_,_,rfl⟩
theorem Ah1{X:Option (Int×List ByteArray×List Bool)}{p:Int×List ByteArray}{e:Int}{f:List ByteArray→Int×List ByteArray}{G:Int×List ByteArray×List Bool→Option (Int×List ByteArray×List Bool)}(hX:Out X p)
  (hG:∀e a b,e≠0→G (e,a,b)=some (e,a,b)) (h:∀ks,Gl (fE (f ks).1 e) (G (0,ks,tr ks))):Gl (fE (Yz p f).1 e) (X.bind G):=by
 obtain ⟨ks,rfl,h0⟩:=hX
 rw [Option.bind_some]
 unfold Yz
 by_cases hp:p.1=0
 ·rw [if_neg (by simp [hp]),←h0 hp,hp];exact h ks
 ·rw [if_pos hp,hG _ _ _ hp,Ox hp];exact ⟨_,_,rfl⟩
theorem nzE{e:Int}(h:e≠0)(a:List ByteArray)(b:List Bool)(Y:Option (Int×List ByteArray×List Bool)):(bif e != 0 then some (e,a,b) else Y)=some (e,a,b):=by rw [g6 h];rfl
theorem Ax7(p:Int×List ByteArray)(f g:List ByteArray→Int×List ByteArray):Yz (Yz p f) g=Yz p fun b=>Yz (f b) g:=by
 unfold Yz
 by_cases hp:p.1=0
 ·simp [hp]
 ·simp [hp]
theorem Ayw{α :Type}{f: α→Int}{lq:List α→Nat→Int→Option (Nat×(Int×Int))}{bd: α→Option Int}
  (hn:∀i v,lq [] i v=some (1,(v,(i:Int))))
  (hc:∀x k i v,lq (x::k) i v=(bd x).bind fun o=>bif o != 0 then some (0,(o,(i:Int))) else lq k (i+1) v):
  ∀(k:List α) (i:Nat) (v:Int),(∀x∈k,bd x=some (f x))→∃j,lq k i v=some (if Y7 f k=0 then (1,(v,j)) else (0,(Y7 f k,j))):=by
 intro k
 induction k with
 |nil=>intro i v _;exact ⟨i,by rw [hn];rfl⟩
 |cons x k ih=>
  intro i v h
  obtain ⟨j,hj⟩:=ih (i+1) v fun y hy=>h y (by simp [hy])
  rw [hc,h x (by simp),Option.bind_some,Y7]
  by_cases h0:f x=0
  ·exact ⟨j,by rw [h0,Pt];exact hj⟩
  ·exact ⟨i,by rw [Ox h0,g6 h0,cond_true,if_neg h0]⟩
def Bjl(most:Int)(n:Nat)(X:Option (Nat×(Int×Int))):Option Int:=bif decide ((n:Int) > most) then some 6 else X.bind fun o=>Ahw o.1 [some o.2.1,some 0]
theorem Ayv{α :Type}{f: α→Int}{lq:List α→Nat→Int→Option (Nat×(Int×Int))}{bd: α→Option Int}
  (hn:∀i v,lq [] i v=some (1,(v,(i:Int))))
  (hc:∀x k i v,lq (x::k) i v=(bd x).bind fun o=>bif o != 0 then some (0,(o,(i:Int))) else lq k (i+1) v)
  (most:Nat) (l:List α) (v:Int) (X:Option (Nat×(Int×Int))) (hX:X=lq l 0 v) (hb:∀x∈l,bd x=some (f x)):Bjl most l.length X=some (if most < l.length then 6 else Y7 f l):=by
 unfold Bjl
 by_cases hm:most < l.length
 ·rw [decide_eq_true (show (l.length:Int) > most by omega),if_pos hm];rfl
 ·rw [decide_eq_false (show¬(l.length:Int) > most by omega),if_neg hm,cond_false,hX]
  obtain ⟨j,hj⟩:=Ayw hn hc l 0 v hb
  rw [hj,Option.bind_some]
  by_cases h0:Y7 f l=0
  ·rw [if_pos h0,x0,h0]
  ·rw [if_neg h0,R4]
theorem Ga(L:Nat)(x lo hi:Int):Bf L x lo hi=some (B7 lo hi x):=by
 simp only [Zs,Bf,aN,aB,Kz,ge_iff_le,B7]
theorem d4(L:Nat)(t:Int):H0 L t=some (Ww t):=by
 simp only [t7,H0,aN,aB,Kz,ge_iff_le,Ww,B7]
theorem w3(L:Nat)(t n:Int):Nm L t n=some (Aeu t n):=by
 simp only [Abl,Nm,aN,aB,Aji,Ga,Option.bind_some,Rx,Aeu]
 by_cases h1:t=1
 ·simp [h1]
 ·by_cases h2:t=2
  ·simp [h2]
  ·by_cases h3:t=3
   ·simp [h3]
   ·simp [h1,h2,h3,beq_false_of_ne h1,beq_false_of_ne h2,beq_false_of_ne h3]
theorem Rz(L:Nat)(l:List ByteArray)(s:ByteArray)(hl:l.length≤maxLen)(hL:maxLen < L):Bv L l s=some (l.any fun x=>decide (x=s)):=by
 have e:(fun x:ByteArray=>decide (s=x))=fun x=>decide (x=s):=funext fun x=>decide_eq_decide.2 ⟨Eq.symm,Eq.symm⟩
 simp only [L4,Bv,aN,aB,Ab4 L l s hl (by omega),Option.bind_some,Aq9,e]
def pvA(l:List Ew)(i:Nat):Option Int:=if i=0 then none else some (l.getD (i - 1) default).At
def geq(p:Option Int)(a:Int):Bool:=match p with
 |some q=>decide (a≤q)
 |none=>false
theorem A25(cy:Int)(p:Option Int)(c:Ew)(k:List Ew):As2 cy p (c::k)=if (B7 0 (cy - 1) c.At && B7 0 1000 c.Units)=false then 2 else if geq p c.At=true then 12 else As2 cy (some c.At) k:=rfl
theorem Bb2{β :Type}(l:List Ew)(i:Nat)(hi:i < l.length)(hl:l.length≤maxLen)(a:Int)(A B:Option β):
  (bif decide ((i:Int) > 0) then (if (0:Int)≤Bi ((i:Int) - 1) then (if Bi ((i:Int) - 1) < ((l.length:Nat):Int) then (bif decide (a≤(l.getD (Int.toNat (Bi ((i:Int) - 1))) default).At) then A else B) else none) else none) else B)=if geq (pvA l i) a=true then A else B:=by
 have hM:=Gw
 cases i with
 |zero=>rfl
 |succ i=>
  have e:Bi (((i+1:Nat):Int) - 1)=(i:Int):=by rw [A8s (by omega)];omega
  rw [e,decide_eq_true (show ((i+1:Nat):Int) > 0 by omega),cond_true,if_pos (by omega),if_pos (by omega),toN]
  have e2:pvA l (i+1)=some (l.getD i default).At:=by unfold pvA;rw [if_neg (by omega),Nat.add_sub_cancel]
  rw [e2]
  show (bif decide (a≤(l.getD i default).At) then A else B)=if decide (a≤(l.getD i default).At)=true then A else B
  cases decide (a≤(l.getD i default).At)<;>rfl
theorem A7e{l:List Ew}{i:Nat}{x:Ew}{k:List Ew}(h:l.drop i=x::k):pvA l (i+1)=some x.At:=by
 obtain ⟨_,h2,_⟩:=Zh h
 unfold pvA
 rw [if_neg (by omega),Nat.add_sub_cancel,h2]
theorem Afz(L:Nat)(r:Ap)(hl:r.Shift.length≤maxLen)(hc:Bi (r.Cycle - 1)=r.Cycle - 1):∀(k:List Ew) (i:Nat) (v:Int),r.Shift.drop i=k→
  ∃j,De L r k i v=some (if As2 r.Cycle (pvA r.Shift i) k=0 then (1,(v,j)) else (0,(As2 r.Cycle (pvA r.Shift i) k,j))):=by
 intro k
 induction k with
 |nil=>intro i v _;exact ⟨i,rfl⟩
 |cons x k ih=>
  intro i v h
  obtain ⟨hi,hx,hk⟩:=Zh h
  obtain ⟨j,hj⟩:=ih (i+1) v hk
  rw [A7e h] at hj
  rw [De]
  simp only [Ga,Option.bind_some,hc,Bb2 r.Shift i hi hl,hj,A25]
  rcases Bool.eq_false_or_eq_true (B7 0 (r.Cycle - 1) x.At) with hA|hA
  ·rcases Bool.eq_false_or_eq_true (B7 0 1000 x.Units) with hB|hB
   ·rcases Bool.eq_false_or_eq_true (geq (pvA r.Shift i) x.At) with hC|hC
    ·exact ⟨i,by simp [hA,hB,hC]⟩
    ·exact ⟨j,by simp [hA,hB,hC]⟩
   ·exact ⟨i,by simp [hA,hB]⟩
  ·exact ⟨i,by simp [hA]⟩
theorem cyc{c:Int}(h:B7 1 1000000000 c=true):Bi (c - 1)=c - 1:=by
 unfold B7 at h
 rw [Bool.and_eq_true,decide_eq_true_iff,decide_eq_true_iff] at h
 exact Nv (by omega) (by omega)
theorem A3z(r:Ap):Ane r=if r.Shift.length=0 then X3 (r.Cycle == 0) 1 else if 20 < r.Shift.length then 6 else if B7 1 1000000000 r.Cycle=false then 2 else As2 r.Cycle none r.Shift:=rfl
theorem Bgq{α :Type}(l:List α):((l.length:Int) == 0)=decide (l.length=0):=by
 by_cases h:l.length=0
 ·simp [h]
 ·rw [decide_eq_false h,beq_false_of_ne (by omega)]
theorem gtN(n m:Nat):decide ((n:Int) > (m:Int))=decide (m < n):=decide_eq_decide.2 (by omega)
theorem Ahp(L:Nat)(r:Ap)(hl:r.Shift.length≤maxLen)(hL:maxLen < L):Qm L r=some (Ane r):=by
 have e20:decide ((r.Shift.length:Int) > 20)=decide (20 < r.Shift.length):=gtN _ 20
 simp only [z7,Mf,Jf,Qm,Mf,Jf,aN,aB,Ga,Option.bind_some,Bgq,e20,A3z]
 by_cases h0:r.Shift.length=0
 ·rw [decide_eq_true h0,if_pos h0,cond_true]
  unfold X3
  by_cases hz:r.Cycle=0
  ·simp [hz]
  ·simp [g6 hz,beq_false_of_ne hz]
 ·rw [decide_eq_false h0,if_neg h0,cond_false]
  by_cases h2:20 < r.Shift.length
  ·rw [decide_eq_true h2,if_pos h2];rfl
  ·rw [decide_eq_false h2,if_neg h2,cond_false]
   cases hr:B7 1 1000000000 r.Cycle with
   |false=>rfl
   |true=>
    obtain ⟨j,hj⟩:=Afz L r hl (cyc hr) r.Shift 0 0 rfl
    rw [Adn L r L hl (by omega),hj]
    simp only [Bool.not_true,cond_false,Option.bind_some,Bool.true_eq_false,if_false]
    have e:pvA r.Shift 0=none:=rfl
    rw [e]
    by_cases hz:As2 r.Cycle none r.Shift=0
    ·rw [if_pos hz,x0,hz]
    ·rw [if_neg hz,R4]
theorem Aw2{d:Cp}(h:J2 d≤1048576):okD d:=by
 unfold J2 at h
 have h1:=Hp (g:=fun _:Int=>1) (l:=d.Values) fun _=>Nat.le_refl 1
 have h2:=Hp (g:=fun _:Int=>1) (l:=d.Weights) fun _=>Nat.le_refl 1
 exact ⟨by omega,by omega⟩
theorem A5l(s:Aa)(f:Ml):Azb s f=if f.Stream.size=0 then X3 (Adx f.Up d9 && Adx f.Down d9) 1 else if s.Streams.any (fun x=>decide (x=f.Stream))=false then 5 else fE (Aes f.Up) (Aes f.Down):=rfl
theorem Aho(L:Nat)(s:Aa)(f:Ml)(hs:s.Streams.length≤maxLen)(hb:Qp f≤1048576)(hL:maxLen < L):Ql L s f=some (Azb s f):=by
 unfold Qp at hb
 have h1:okD f.Up:=Aw2 (by omega)
 have h2:okD f.Down:=Aw2 (by omega)
 simp only [Vl,Ql,aN,aB,Wv,A2c,Zd L f.Up _ h1 hL,Zd L f.Down _ h2 hL,Xa L f.Up h1 hL,Xa L f.Down h2 hL,Rz L _ _ hs hL,Option.bind_some,A5l]
 have hz:(⟨0,0,0,0,[],[]⟩:Cp)=d9:=rfl
 rw [hz]
 by_cases h0:f.Stream.size=0
 ·simp only [h0,decide_true,cond_true,if_true]
  cases Adx f.Up d9<;>cases Adx f.Down d9<;>rfl
 ·simp only [h0,decide_false,cond_false,if_false]
  cases s.Streams.any (fun x=>decide (x=f.Stream)) with
  |false=>rfl
  |true=>
   simp only [Bool.not_true,cond_false,Bool.true_eq_false,if_false]
   by_cases hd:Aes f.Up=0
   ·simp [hd,Pt]
   ·simp [g6 hd,Ox hd]
theorem Aw8(L:Nat)(a b:List Ba)(ha:a.length≤1048576)(hb:b.length≤1048576)(hL:maxLen < L):Hk L [a,b]=some (a++b):=by
 have hM:=Gw
 have e1:∀n:Nat,n≤1048576→Bi (0+(n:Int))=(n:Int):=fun n hn=>by rw [Int.zero_add];exact Nv (by omega) (by omega)
 have e2:Bi ((a.length:Int)+(b.length:Int))=((a.length+b.length:Nat):Int):=by rw [Nv (by omega) (by omega)];omega
 simp only [Rw,Gb,Gc,Eh,Hk,Gb,Gc,Eh,aN,aB,Xr L [a,b] L (by simp;omega) (by simp;omega),Xs L [a,b] L (by simp;omega) (by simp;omega),Dh,Di,e1 _ ha,e2,Option.bind_some,R4]
 rw [decide_eq_false (show¬(a.length:Int) < 0 by omega),decide_eq_false (show¬((a.length+b.length:Nat):Int) < 0 by omega)]
 simp only [cond_false,Option.bind_some,R4,List.nil_append,List.length_nil]
 repeat rw [ifp (by omega)]
 rfl
end Go.Proofs.YthjhkpgonleelaaGreatDoor.Ev
